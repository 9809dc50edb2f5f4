/- Part N of the own logic: a function from its body; trimming what has become unreachable; loops unrolled. -/
import Derived.Test.YtdghdcclhnoigaaGreatDoorXSxM
import Derived.RangeFuncRecord
set_option linter.unusedVariables false
set_option linter.unusedSimpArgs false
set_option linter.unnecessarySimpa false
namespace Go.Sx
open Go
def entryT : TT → Nat → List SV → TT
  | T, _, [] => T
  | T, i, x :: xs => entryT (T.set i x) (i + 1) xs
theorem entryT_lookup : ∀ (xs : List SV) (T : TT) (i t : Nat) (x : SV), (∀ t x, T.get t = some x → t < i) → (entryT T i xs).get t = some x → T.get t = some x ∨ (i ≤ t ∧ xs[t - i]? = some x)
  | [], T, i, t, x, _, h => .inl h
  | y :: xs, T, i, t, x, hT, h => by
    rcases entryT_lookup xs (T.set i y) (i + 1) t x (fun t x h => by
        rcases TT.get_set _ _ _ _ _ h with ⟨e, _⟩ | ⟨_, h⟩
        · omega
        · have := hT t x h; omega) h with h | ⟨h1, h2⟩
    · rcases TT.get_set _ _ _ _ _ h with ⟨rfl, rfl⟩ | ⟨_, h⟩
      · exact .inr ⟨Nat.le_refl _, by simp⟩
      · exact .inl h
    · refine .inr ⟨by omega, ?_⟩
      rw [show t - i = (t - (i + 1)) + 1 by omega]; simpa using h2
def St.entry (args : List SV) (H : List SObj) : St := { T := entryT (.full 8) 0 args, H := H, n0 := H.length, tch := [], fg := [], marks := [], er := [] }
theorem Good.entry {M : Imm} {ρ : Env} {H : List SObj} {w : World} {vs : List Value} {args : List SV} {nt : Nat} (hm : Mem M ρ H w) (hr : Reps M ρ vs args) (hn : args.length ≤ nt) :
    Good (fun t => (vs.toArray ++ Array.replicate (nt - vs.toArray.size) undef).getD t undef) nt M ρ (.entry args H) { tmps := vs.toArray ++ Array.replicate (nt - vs.toArray.size) undef, defers := [] } w := by
  refine ⟨fun t x hx => ?_, ?_, hm, ⟨rfl, fun i d s h => by simp at h⟩, fun m h => by simp [St.entry] at h, Nat.le_refl _, fun _ _ => rfl⟩
  · rcases entryT_lookup args (.full 8) 0 t x (fun t x h => by rw [TT.get_full] at h; cases h) hx with h2 | ⟨_, h2⟩
    · rw [TT.get_full] at h2; cases h2
    simp only [Nat.sub_zero] at h2
    have hlt : t < args.length := (List.getElem?_eq_some_iff.1 h2).1
    have hlt' : t < vs.length := by rw [hr.1]; exact hlt
    refine hr.2 t _ x ?_ h2
    simp [Array.getD_eq_getD_getElem?, hlt', Array.getElem?_append]
  · have := hr.1
    simp; omega
def resP (cx : Cx) (s : St) : List ResultVar → (List SV → Prop) → Prop
  | [], K => K []
  | .tmp t :: rs, K => resP cx s rs fun l => K (s.ev (.tmp t) :: l)
  | .cell a t :: rs, K => (sLoad cx.tab s.H t (s.ev (.tmp a))).holds s.H fun x _ _ _ => resP cx s rs fun l => K (x :: l)
def retV : List SV → SV
  | [x] => x
  | l => .tup l
def getRes (tmps : Array Value) : ResultVar → Sem Value
  | .tmp t => pure (tmps.getD t undef)
  | .cell a t => do loadVar t (← asAddr (tmps.getD a undef))
theorem results_eq (fn : Func) (tmps : Array Value) : results fn tmps = (do let vs ← fn.results.mapM (getRes tmps); pure (if h : vs.size = 1 then vs[0] else .tuple vs)) := by
  unfold results
  congr 2
theorem run_mapM_cons {α : Type} {P : Program} {w : World} (f : α → Sem Value) (x : α) (xs : List α) {v : Value} {vs : List Value} (h : (f x).run P w = .ok v w) (hs : (xs.mapM f).run P w = .ok vs w) : ((x :: xs).mapM f).run P w = .ok (v :: vs) w := by
  simp only [List.mapM_cons, Sem.run_bind, h, Result.andThen_ok, hs, Sem.run_pure]
theorem resP_sound {cx : Cx} (hcx : cx.Ok) {B : Nat → Value} {nt : Nat} {M : Imm} {ρ : Env} {s : St} {a : Act} {w : World} (hg : Good B nt M ρ s a w) : ∀ (rs : List ResultVar) (K : List SV → Prop), resP cx s rs K →
    ∃ (vs : List Value) (l : List SV), K l ∧ Reps M ρ vs l ∧ (rs.mapM (getRes a.tmps)).run cx.P w = .ok vs w
  | [], K, h => ⟨[], [], h, ⟨rfl, fun i v x hv => by simp at hv⟩, by simp⟩
  | .tmp t :: rs, K, h => by
    obtain ⟨vs, l, hk, hr, hrun⟩ := resP_sound hcx hg rs _ h
    refine ⟨a.tmps.getD t undef :: vs, _, hk, ⟨by simp [hr.1], fun i v x hv hx => ?_⟩, run_mapM_cons _ _ _ rfl hrun⟩
    match i with
    | 0 => simp only [List.getElem?_cons_zero, Option.some.injEq] at hv hx; subst hv; subst hx; exact hg.ev (.tmp t)
    | i + 1 => exact hr.2 i v x (by simpa using hv) (by simpa using hx)
  | .cell a' t :: rs, K, h => by
    have hin : ∀ s' sz r j, s.ev (.tmp a') = .ptr s' sz r j → s' ∈ (List.range s.H.length) := fun s' sz r j e => by
      simp only [resP, e] at h
      unfold sLoad at h
      split at h
      · exact h.elim
      · dsimp only at h
        split at h
        · exact h.elim
        · rename_i o ho; simp; exact (List.getElem?_eq_some_iff.1 ho).1
    obtain ⟨v, x, hk, hx, hrun⟩ := sLoad_soundS (Sw := fun u => u = w) hcx.tab hg.mem (fun u hu => by rw [hu]; exact hg.mem.imm) (R := List.range s.H.length) (fun u hu _ _ _ _ => by rw [hu]) (hg.ev (.tmp a')) hin h
    have hrun := hrun w rfl
    obtain ⟨vs, l, hk2, hr, hrun2⟩ := resP_sound hcx hg rs _ hk
    refine ⟨v :: vs, _, hk2, ⟨by simp [hr.1], fun i u y hu hy => ?_⟩, run_mapM_cons _ _ _ ?_ hrun2⟩
    · match i with
      | 0 => simp only [List.getElem?_cons_zero, Option.some.injEq] at hu hy; subst hu; subst hy; exact hx
      | i + 1 => exact hr.2 i u y (by simpa using hu) (by simpa using hy)
    · have e : a.eval (.tmp a') = a.tmps.getD a' undef := rfl
      rw [e] at hrun
      show (do loadVar t (← asAddr (a.tmps.getD a' undef)) : Sem Value).run cx.P w = .ok v w
      generalize a.tmps.getD a' undef = p at hrun
      cases p with
      | pointer q => cases q with
        | some q => simpa [Instr.loadAt, Instr.sureAddr, asAddr, Sem.run_bind] using hrun
        | none => simp [Instr.loadAt, Instr.sureAddr, Sem.run_bind] at hrun
      | _ => simp [Instr.loadAt, Instr.sureAddr, Sem.run_bind] at hrun
theorem Mem.turn {M : Imm} {ρ : Env} {H : List SObj} {w : World} {s : Nat} {o so : SObj} {p : Place} {ob : Obj} (h : Mem M ρ H w) (hs : H[s]? = some o) (hl : o.live = true) (hp : ρ s = some p) (hlo : so.live = true)
    (ho : OwnAt M ρ (w.putObj p.block ob) s so) : Mem M ρ (H.set s so) (w.putObj p.block ob) ∧ Fr M ρ H w M ρ (H.set s so) (w.putObj p.block ob) H.length [s] [] :=
  h.put hs hl hp (fun b hb => World.putObj_heap_other hb) World.putObj_size hlo ho
def shut : List Nat → List SObj → Option (List SObj)
  | [], H => some H
  | m :: ms, H => match H[m]? with
    | some (.dfr false) => shut ms (H.set m (.dfr true))
    | _ => none
theorem shut_len : ∀ {ms : List Nat} {H H' : List SObj}, shut ms H = some H' → H'.length = H.length
  | [], H, H', h => by simp only [shut, Option.some.injEq] at h; rw [h]
  | m :: ms, H, H', h => by
    simp only [shut] at h
    split at h
    · rw [shut_len h]; simp
    · cases h
theorem leaves_shut {P : Program} {fn : Func} {tmps : Array Value} {E : Ending → World → Prop} {M : Imm} {ρ : Env} {H0 : List SObj} {w0 : World} {n : Nat} :
    ∀ (ms : List Nat) (ds : List Deferred) (H H' : List SObj) (w : World), shut ms H = some H' → Mem M ρ H w → DefersAre ρ ms ds → n ≤ H.length →
      (∀ w', Mem M ρ H' w' → Fr M ρ H w M ρ H' w' n ms [] → LeavesIn Fence.wide 0 P fn tmps E [] .returning w') → LeavesInM Fence.wide 0 P fn tmps E ds .returning w
  | [], ds, H, H', w, hs, hm, hd, hn, h => by
    cases hs
    have : ds = [] := List.eq_nil_of_length_eq_zero hd.1
    subst this
    exact h w hm (Fr.refl ..)
  | m :: ms, [], H, H', w, hs, hm, hd, hn, h => by have := hd.1; simp at this
  | m :: ms, d :: ds, H, H', w, hs, hm, hd, hn, h => by
    unfold shut at hs
    split at hs
    · rename_i hH
      obtain ⟨p, hp, rfl⟩ := hd.2 0 d m rfl rfl
      obtain ⟨q, h1, h2⟩ := hm.own m _ hH
      rw [hp] at h1; cases h1
      obtain ⟨m1, f1⟩ := hm.turn (so := .dfr true) (ob := .deferred none) hH rfl hp rfl ⟨p, hp, World.putObj_heap_same (Array.getElem?_eq_some_iff.1 h2).1⟩
      refine ⟨by simp, .inl ⟨p.block, _, rfl, run_takeDeferred h2, ?_⟩⟩
      refine leaves_shut (H0 := H0) (w0 := w0) (n := n) ms ds _ H' _ hs m1 ⟨by have := hd.1; simpa using this, fun i d s hi hk => hd.2 (i + 1) d s (by simpa using hi) (by simpa using hk)⟩ (by simpa using hn) fun w' hm' hf => ?_
      refine h w' hm' ((f1.weaken hn (fun _ _ h => h) (fun _ _ h => h)).trans hf (fun x hx => ?_) (fun x hx => List.mem_cons_of_mem _ hx) (fun x hx => hx) (fun x hx => hx))
      rw [List.mem_singleton.1 hx]; exact List.mem_cons_self
    · cases hs
theorem SCall_of_WPs {cx : Cx} (hcx : cx.Ok) {f : FuncId} {fn : Func} {c : Code} {args : List SV} {H : List SObj} {K : Post} (hf : cx.fns.lookup f = some fn) (hb : fn.body = some c) (hn : args.length ≤ fn.ntmps)
    (h : WPs none cx.P fn.ntmps c (fun e s => (e = .normal ∨ e = .ret) ∧ (H.length ≤ s.H.length ∨ s.marks = []) ∧ ∃ H', shut s.marks s.H = some H' ∧ resP cx { s with H := H', marks := [] } fn.results.toList fun l => K (retV l) H' s.tch s.fg) (.entry args H)) : SCall cx.P f args H K := by
  intro M ρ w vs hm hr
  obtain ⟨f1, _⟩ := hcx.fn hf
  refine callsIn_of_wp_marks f1 hb trivial ?_
  have h0 := h _ M ρ _ w (Good.entry hm hr hn)
  rw [FW_none] at h0
  refine wpIn_mono h0 ?_
  rintro e a' w' ⟨M', ρ', s', ⟨he, hlen, H', hshut, hres⟩, hg, go⟩
  have hmk : ∀ m ∈ s'.marks, H.length ≤ m := fun m hm => by have := hg.mks m hm; rw [go.n0] at this; exact this
  have fin : ∀ w'', Mem M' ρ' H' w'' → Fr M ρ H w M' ρ' H' w'' H.length s'.tch s'.fg → LeavesIn Fence.wide 0 cx.P fn a'.tmps (fun e w' => ∃ v r H' M' ρ' tch fg, e = .returned v ∧ K r H' tch fg ∧ SRep M' ρ' v r ∧ Mem M' ρ' H' w' ∧ Fr M ρ H w M' ρ' H' w' H.length tch fg) [] .returning w'' := by
    intro w'' hm'' hfr
    have hg' : Good _ fn.ntmps M' ρ' { s' with H := H', marks := [] } { tmps := a'.tmps, defers := [] } w'' := ⟨hg.tm, hg.sz, hm'', ⟨rfl, fun i d s h => by simp at h⟩, (fun m h => by simp at h), (show s'.n0 ≤ H'.length by rw [shut_len hshut]; exact hg.nle), hg.fix⟩
    obtain ⟨vs', l, hk, hreps, hrun⟩ := resP_sound hcx hg' _ _ hres
    have hv : ∃ v, (results fn a'.tmps).run cx.P w'' = .ok v w'' ∧ SRep M' ρ' v (retV l) := by
      have hrun' : (fn.results.mapM (getRes a'.tmps)).run cx.P w'' = .ok vs'.toArray w'' := by
        rw [Array.mapM_eq_mapM_toList, Sem.run_map, hrun]; rfl
      refine ⟨if h : vs'.toArray.size = 1 then vs'.toArray[0] else .tuple vs'.toArray, ?_, ?_⟩
      · rw [results_eq, Sem.run_bind, hrun']; rfl
      · obtain ⟨hl1, hl2⟩ := hreps
        match vs', l, hl1, hl2 with
        | [v], [x], _, hl2 => exact hl2 0 v x rfl rfl
        | [], [], _, hl2 => simp [retV]; exact .tup _ _ rfl fun i v x hv => by simp at hv
        | v :: v2 :: vs, x :: y :: l, hl1, hl2 =>
          simp [retV]
          exact .tup _ _ (by simpa using hl1) fun i u z hu hz => hl2 i u z (by simpa using hu) hz
        | [], _ :: _, hl1, _ => simp at hl1
        | [_], [], hl1, _ => simp at hl1
        | [_], _ :: _ :: _, hl1, _ => simp at hl1
        | _ :: _ :: _, [], hl1, _ => simp at hl1
        | _ :: _ :: _, [_], hl1, _ => simp at hl1
    obtain ⟨v, hv1, hv2⟩ := hv
    exact ⟨v, hv1, v, _, _, M', ρ', _, _, rfl, hk, hv2, hm'', hfr⟩
  have hfr : Fr M ρ H w M' ρ' s'.H w' H.length s'.tch s'.fg := go.fr
  have out : LeavesInM Fence.wide 0 cx.P fn a'.tmps (fun e w' => ∃ v r H' M' ρ' tch fg, e = .returned v ∧ K r H' tch fg ∧ SRep M' ρ' v r ∧ Mem M' ρ' H' w' ∧ Fr M ρ H w M' ρ' H' w' H.length tch fg) a'.defers .returning w' := by
    by_cases hmk0 : s'.marks = []
    · rw [hmk0] at hshut
      cases hshut
      have hd : a'.defers = [] := by have := hg.df.1; rw [hmk0] at this; exact List.eq_nil_of_length_eq_zero this
      rw [hd]
      exact fin w' hg.mem hfr
    · have hlen := hlen.resolve_right hmk0
      refine leaves_shut (H0 := H) (w0 := w) (n := H.length) s'.marks a'.defers s'.H H' w' hshut hg.mem hg.df hlen fun w'' hm'' hf => ?_
      have hf' : Fr M' ρ' s'.H w' M' ρ' H' w'' H.length [] [] := hf.weaken (Nat.le_refl _) (fun x hx hx' => by have := hmk x hx'; omega) (fun _ _ h => h)
      exact fin w'' hm'' (hfr.trans hf' (fun _ h => h) (fun x hx => by cases hx) (fun _ h => h) (fun x hx => by cases hx))
  rcases he with rfl | rfl
  · exact out
  · exact out
def junk (m n : Nat) : List Nat := (List.range n).filter fun i => decide (m ≤ i)
def Env.cut (m : Nat) (ρ : Env) : Env := fun s => if s < m then ρ s else none
theorem cut_leBut {M : Imm} {ρ : Env} {H : List SObj} {w : World} (hm : Mem M ρ H w) (m : Nat) : Env.leBut (junk m H.length) ρ (ρ.cut m) := by
  intro s p hs hp
  unfold Env.cut
  split
  · exact hp
  · rename_i h
    rcases Nat.lt_or_ge s H.length with h' | h'
    · simp [junk, h'] at hs; omega
    · rw [hm.fresh s h'] at hp; cases hp
theorem forget_live (d : List Nat) (o : SObj) : (o.forget d).live = o.live := by cases o <;> rfl
def Unrolled (R : Option Nat) (P : Program) (nt : Nat) (c : Code) (Q : Exit → St → Prop) : Nat → St → Prop
  | 0, _ => False
  | n + 1, s => WPs R P nt c (seqQ (fun s' => ∃ m, m ≤ n ∧ Unrolled R P nt c Q n s') Q) s
theorem WPs_unrolled {R : Option Nat} {P : Program} {nt : Nat} {c : Code} {Q : Exit → St → Prop} {n : Nat} {s : St} (h : Unrolled R P nt c Q n s) : WPs R P nt (.loop c) Q s := by
  refine WPs_loop (Unrolled R P nt c Q) h fun k s hk => ?_
  cases k with
  | zero => exact hk.elim
  | succ k =>
    refine WPs.mono hk fun e s' => ?_
    cases e with
    | normal => rintro ⟨m, hm, h⟩; exact ⟨k, Nat.lt_succ_self k, h⟩
    | _ => exact id
end Go.Sx

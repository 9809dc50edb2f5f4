/- Part Qg of the own logic: functions of data: their summaries, and how they come of the evaluator. -/
import Derived.Test.YtdghdcclhnoigaaGreatDoorXSxQf
set_option linter.unusedVariables false
set_option linter.unusedSimpArgs false
set_option linter.unnecessarySimpa false
namespace Go.Sx
open Go
structure PC where
  ats : List ATy
  rts : List ATy
  code : AEls ats → Option (AEls rts)
structure PCOk (cx : Cx) (g : Nat) (pc : PC) : Prop where
  fn : ∃ fn, cx.fns.lookup g = some fn
  ok : ∀ a y, pc.code a = some y → SCall cx.P g (svs pc.ats a) [] fun r H' t f => r = retV (svs pc.rts y) ∧ H' = [] ∧ t = [] ∧ f = []
def PC.sm (pc : PC) : Sm where
  pre := fun args H => (rdL [] 0 pc.ats args).isSome || ((rdL H 0 pc.ats args).isSome && pc.rts.all ATy.scalar)
  run := fun X args H k => match rdL [] 0 pc.ats args with
    | some p => gd p.1 (match pc.code p.2 with
      | some y => k (retV (svs pc.rts y)) H [] []
      | none => none)
    | none => match rdL H 0 pc.ats args with
      | some p => gd (p.1 && pc.rts.all ATy.scalar) (match pc.code p.2 with
        | some y => k (retV (svs pc.rts y)) H [] []
        | none => none)
      | none => none
def litsOnly : List SV → Bool
  | [] => true
  | .pv (.lit _) :: l => litsOnly l
  | _ => false
def SV.solidV : SV → Bool
  | .pv (.lit _) => true
  | .agg l => litsOnly l
  | _ => false
theorem litsOnly_get : ∀ {l : List SV}, litsOnly l = true → ∀ (i : Nat) (x : SV), l[i]? = some x → ∃ v, x = .lit v
  | [], _, i, x, h => by simp at h
  | .pv (.lit v) :: l, hl, i, x, h => by
    cases i with
    | zero => simp at h; exact ⟨v, h.symm⟩
    | succ i => exact litsOnly_get (l := l) hl i x (by simpa using h)
theorem solidV_any {M M2 : Imm} {ρ ρ2 : Env} {v : Value} {x : SV} (hs : x.solidV = true) (h : SRep M ρ v x) : SRep M2 ρ2 v x := by
  match x, hs, h with
  | .pv (.lit u), _, h => rw [h.lit_eq]; exact .pv (.lit _)
  | .agg l, hs, .agg cs _ hl hr =>
    refine .agg cs l hl fun i v x hv hx => ?_
    obtain ⟨u, rfl⟩ := litsOnly_get hs i x hx
    rw [(hr i v _ hv hx).lit_eq]; exact .pv (.lit _)
theorem rowPV_scalar : ∀ (row : List Ty) (x : Els row), row.all Ty.scalar = true → litsOnly ((rowPV row x).map .pv) = true
  | [], _, _ => rfl
  | [t], x, h => by
    cases t <;> first | rfl | (simp [Ty.scalar] at h)
  | t :: t' :: ts, x, h => by
    simp only [List.all_cons, Bool.and_eq_true] at h
    have := rowPV_scalar (t' :: ts) x.2 (by simp only [List.all_cons, Bool.and_eq_true]; exact h.2)
    cases t <;> first | exact this | (simp [Ty.scalar] at h)
theorem ATy.sv_solid (a : ATy) (x : a.El) (h : a.scalar = true) : (a.sv x).solidV = true := by
  cases a with
  | val t => cases t <;> first | rfl | (simp [ATy.scalar, Ty.scalar] at h)
  | agg row =>
    show (SV.mkAgg ((rowPV row x).map .pv)).solidV = true
    unfold SV.mkAgg
    split
    · rfl
    · exact rowPV_scalar row x h
theorem svs_solid : ∀ (l : List ATy) (y : AEls l), l.all ATy.scalar = true → ∀ (i : Nat) (x : SV), (svs l y)[i]? = some x → x.solidV = true
  | [], _, _, i, x, h => by simp [svs] at h
  | [a], y, hs, i, x, h => by
    cases i with
    | zero => simp only [svs, List.getElem?_cons_zero, Option.some.injEq] at h; subst h; exact ATy.sv_solid a y (by simpa using hs)
    | succ i => simp [svs] at h
  | a :: a' :: l, y, hs, i, x, h => by
    simp only [List.all_cons, Bool.and_eq_true] at hs
    cases i with
    | zero => simp only [svs, List.getElem?_cons_zero, Option.some.injEq] at h; subst h; exact ATy.sv_solid a y.1 hs.1
    | succ i => exact svs_solid (a' :: l) y.2 (by simp only [List.all_cons, Bool.and_eq_true]; exact hs.2) i x (by simpa [svs] using h)
theorem retV_any {M M2 : Imm} {ρ ρ2 : Env} {v : Value} {l : List SV} (hs : ∀ (i : Nat) (x : SV), l[i]? = some x → x.solidV = true) (h : SRep M ρ v (retV l)) : SRep M2 ρ2 v (retV l) := by
  unfold retV at h ⊢
  split at h
  · rename_i x; exact solidV_any (hs 0 x rfl) h
  · cases h with
    | tup cs _ hl hr => exact .tup cs _ hl fun i v x hv hx => solidV_any (hs i x hx) (hr i v x hv hx)
def noEnv : Env := fun _ => none
theorem mem_none {M : Imm} {w : World} (h : ∀ b o, M b = some o → w.heap[b]? = some o) : Mem M noEnv [] w :=
  ⟨h, fun s o ho => by simp at ho, fun s o p ho => by simp at ho, fun s s' o o' p p' ho => by simp at ho, fun s _ => rfl⟩
theorem not_owned_none {b : Nat} : ¬ Owned noEnv [] b := fun ⟨s, o, p, h, _⟩ => by simp at h
theorem PC.sm_ok {cx : Cx} {g : Nat} {pc : PC} (h : PCOk cx g pc) : SmOk cx g pc.sm := by
  refine ⟨h.fn, fun X args H k y hk => ?_⟩
  have hk : (match rdL [] 0 pc.ats args with
    | some p => gd p.1 (match pc.code p.2 with
      | some y => k (retV (svs pc.rts y)) H [] []
      | none => none)
    | none => match rdL H 0 pc.ats args with
      | some p => gd (p.1 && pc.rts.all ATy.scalar) (match pc.code p.2 with
        | some y => k (retV (svs pc.rts y)) H [] []
        | none => none)
      | none => none) = some y := hk
  have keep : ∀ (w w' : World) (M2 M2' : Imm) (ρ' : Env) (H' : List SObj) (t f : List Nat), Fr M2 noEnv [] w M2' ρ' H' w' 0 t f → ∀ b, b < w.heap.size → w'.heap[b]? = w.heap[b]? := fun w w' M2 M2' ρ' H' t f hf b hb => hf.same b hb not_owned_none
  split at hk
  · rename_i p hrd
    obtain ⟨hc, hk⟩ := gd_some hk
    split at hk
    · rename_i z hz
      intro M ρ w vs hm hr
      obtain ⟨l1, l2⟩ := rdL0_sound (M := M) (ρ := ρ) (ρ2 := noEnv) pc.ats args p.1 p.2 hrd hc
      refine (h.ok p.2 z hz M noEnv w vs (mem_none hm.imm) ⟨by rw [hr.1, l1], fun i v x hv hx => ?_⟩).mono ?_
      · obtain ⟨x', hx'⟩ : ∃ x', args[i]? = some x' := by
          have : i < args.length := by rw [← l1]; exact (List.getElem?_eq_some_iff.1 hx).1
          exact ⟨_, List.getElem?_eq_getElem this⟩
        exact l2 i v x x' hx hx' (hr.2 i v x' hv hx')
      · rintro e w' ⟨v, r, H', M', ρ', t, f, he, ⟨rfl, rfl, rfl, rfl⟩, hs, hm', hf⟩
        have hsame := keep _ _ _ _ _ _ _ _ hf
        refine ⟨v, _, H, M', ρ, [], [], he, hk, hs.free_env (retV_free _ z), ?_, ?_⟩
        · refine ⟨hm'.imm, fun s o ho => ?_, fun s o p ho hl hp => ?_, hm.dis, hm.fresh⟩
          · by_cases hl : o.live = true
            · exact (hm.own s o ho).mono hf.imm ρ.le_refl rfl fun p hp => hsame _ ((hm.own s o ho).lt hl hp)
            · rw [live_some hl]; trivial
          · cases e : M' p.block with
            | none => rfl
            | some ob =>
              rcases hf.new p.block ob (hm.sep s o p ho hl hp) e with h1 | h1
              · have := (hm.own s o ho).lt hl hp; omega
              · exact absurd h1 not_owned_none
        · exact ⟨hf.imm, fun b o a c => (hf.new b o a c).imp id fun h => absurd h not_owned_none, fun b hb => .inr hb, fun b hb _ => hsame b hb, hf.grow, fun s o _ _ ho hl => ⟨⟨o, ho, hl⟩, fun p hp => ⟨hp, hsame _ ((hm.own s o ho).lt hl hp)⟩⟩, fun _ _ _ => rfl, hf.io⟩
    · cases hk
  · split at hk
    · rename_i p hrd
      obtain ⟨hc, hk⟩ := gd_some hk
      rw [Bool.and_eq_true] at hc
      split at hk
      · rename_i z hz
        intro M ρ w vs hm hr
        obtain ⟨l1, l2⟩ := rdL_sound (n := 0) (ρ2 := noEnv) hm pc.ats args p.1 p.2 hrd hc.1
        have hM2 : ∀ b o, (M.sealing ρ H 0 w) b = some o → w.heap[b]? = some o := fun b o hb => by
          cases e : M b with
          | some o' => rw [Imm.seal_le M ρ H 0 w b o' e] at hb; cases hb; exact hm.imm b _ e
          | none => exact (Imm.seal_new e hb).2
        refine (h.ok p.2 z hz (M.sealing ρ H 0 w) noEnv w vs (mem_none hM2) ⟨by rw [hr.1, l1], fun i v x hv hx => ?_⟩).mono ?_
        · obtain ⟨x', hx'⟩ : ∃ x', args[i]? = some x' := by
            have : i < args.length := by rw [← l1]; exact (List.getElem?_eq_some_iff.1 hx).1
            exact ⟨_, List.getElem?_eq_getElem this⟩
          exact l2 i v x x' hx hx' (hr.2 i v x' hv hx')
        · rintro e w' ⟨v, r, H', M', ρ', t, f, he, ⟨rfl, rfl, rfl, rfl⟩, hs, hm', hf⟩
          have hsame := keep _ _ _ _ _ _ _ _ hf
          refine ⟨v, _, H, M, ρ, [], [], he, hk, retV_any (svs_solid _ z hc.2) hs, ?_, ?_⟩
          · refine ⟨fun b o hb => ?_, fun s o ho => ?_, hm.sep, hm.dis, hm.fresh⟩
            · rw [hsame b (hm.imm_lt hb)]; exact hm.imm b o hb
            · by_cases hl : o.live = true
              · exact (hm.own s o ho).mono M.le_refl ρ.le_refl rfl fun p hp => hsame _ ((hm.own s o ho).lt hl hp)
              · rw [live_some hl]; trivial
          · exact ⟨M.le_refl, fun b o a c => (by rw [a] at c; cases c), fun b hb => .inr hb, fun b hb _ => hsame b hb, hf.grow, fun s o _ _ ho hl => ⟨⟨o, ho, hl⟩, fun p hp => ⟨hp, hsame _ ((hm.own s o ho).lt hl hp)⟩⟩, fun _ _ _ => rfl, hf.io⟩
      · cases hk
    · cases hk
def finO (cx : Cx) (fn : Func) (rts : List ATy) : KX (AEls rts) := fun e s =>
  gd (isEnd e) (match shut s.marks s.H with
    | none => none
    | some H' => resO cx { s with H := H', marks := [] } fn.results.toList fun l => match rdL H' 0 rts l with
      | none => none
      | some p => gd p.1 (some p.2))
def codeOf (cx : Cx) (lx : Lx) (n : Nat) (an : Ann) (fn : Func) (c : Code) (ats rts : List ATy) (a : AEls ats) : Option (AEls rts) :=
  evalO cx lx n (AEls rts) (AEls.eqv rts) an true fn.ntmps c (.entry (svs ats a) []) (finO cx fn rts)
theorem finO_some {cx : Cx} {fn : Func} {rts : List ATy} {e : Exit} {s : St} {y : AEls rts} (h : finO cx fn rts e s = some y) :
    (e = .normal ∨ e = .ret) ∧ ∃ H', shut s.marks s.H = some H' ∧ resP cx { s with H := H', marks := [] } fn.results.toList fun l => ∃ c, c = true ∧ rdL H' 0 rts l = some (c, y) := by
  obtain ⟨h1, h⟩ := gd_some h
  refine ⟨isEnd_eq h1, ?_⟩
  split at h
  · cases h
  · rename_i H' hs
    refine ⟨H', hs, resP_mono _ _ _ (fun l hl => ?_) (resO_sound _ _ h)⟩
    split at hl
    · cases hl
    · rename_i p hp
      obtain ⟨h2, hl⟩ := gd_some hl
      cases hl
      exact ⟨p.1, h2, hp⟩
theorem PCOk.of_eval {cx : Cx} (hcx : cx.Ok) {lx : Lx} (hlx : lx.Ok cx) {n g : Nat} {an : Ann} {fn : Func} {c : Code} {pc : PC} (hf : cx.fns.lookup g = some fn) (hb : fn.body = some c)
    (hcode : ∀ a y, pc.code a = some y → codeOf cx lx n an fn c pc.ats pc.rts a = some y) (hn : Nat.ble pc.ats.length fn.ntmps = true) : PCOk cx g pc := by
  refine ⟨⟨fn, hf⟩, fun a y hy => ?_⟩
  have hlen : ∀ (l : List ATy) (x : AEls l), (svs l x).length = l.length := by
    intro l
    induction l with
    | nil => intro _; rfl
    | cons a l ih =>
      cases l with
      | nil => intro _; rfl
      | cons b l => intro x; simp only [svs, List.length_cons, ih x.2]
  have hw := (evalO_sound hcx hlx n).1 _ _ (AEls.eqv_ok pc.rts) none an true fn.ntmps c _ _ y (fun _ => rfl) (hcode a y hy)
  have hcall : SCall cx.P g (svs pc.ats a) [] fun r H' t f => ∃ l cc, r = retV l ∧ cc = true ∧ rdL H' 0 pc.rts l = some (cc, y) := by
    refine SCall_of_WPs hcx hf hb (by rw [hlen]; exact Nat.le_of_ble_eq_true hn) (hw.mono fun e s hs => ?_)
    obtain ⟨h1, H', h2, h3⟩ := finO_some hs
    exact ⟨h1, .inl (Nat.zero_le _), H', h2, resP_mono _ _ _ (fun l ⟨cc, h4, h5⟩ => ⟨l, cc, rfl, h4, h5⟩) h3⟩
  intro M ρ w vs hm hr
  refine (hcall M ρ w vs hm hr).mono ?_
  rintro e w' ⟨v, r, H', M', ρ', t, f, he, ⟨l, cc, rfl, hcc, hrd⟩, hs, hm', hfr⟩
  obtain ⟨g1, g2⟩ := rdL_sound (n := 0) (ρ2 := noEnv) hm' pc.rts l cc y hrd hcc
  have hne : ρ = noEnv := by funext s; exact hm.fresh s (Nat.zero_le _)
  have hM2 : ∀ b o, (M'.sealing ρ' H' 0 w') b = some o → w'.heap[b]? = some o := fun b o hb => by
    cases e : M' b with
    | some o' => rw [Imm.seal_le M' ρ' H' 0 w' b o' e] at hb; cases hb; exact hm'.imm b _ e
    | none => exact (Imm.seal_new e hb).2
  refine ⟨v, _, [], M'.sealing ρ' H' 0 w', noEnv, [], [], he, ⟨rfl, rfl, rfl, rfl⟩, ?_, mem_none hM2, ?_⟩
  · unfold retV at hs ⊢
    split at hs
    · rename_i x
      match hsv : svs pc.rts y, g1 with
      | [z], _ =>
        simp only
        exact g2 0 v z x (by rw [hsv]; rfl) rfl hs
    · rename_i hx
      have hx2 : ∀ z, svs pc.rts y = [z] → False := fun z hz => by
        rw [hz] at g1
        match l, g1 with
        | [x], _ => exact hx x rfl
      cases hs with
      | tup cs _ hl hrr =>
        have : SRep (M'.sealing ρ' H' 0 w') noEnv (.tuple cs) (.tup (svs pc.rts y)) := .tup cs _ (by rw [hl, g1]) fun i u z hu hz => by
          obtain ⟨x', hx'⟩ : ∃ x', l[i]? = some x' := by
            have : i < l.length := by rw [← g1]; exact (List.getElem?_eq_some_iff.1 hz).1
            exact ⟨_, List.getElem?_eq_getElem this⟩
          exact g2 i u z x' hz hx' (hrr i u x' hu hx')
        match hsv : svs pc.rts y with
        | [] => simp only; rw [← hsv]; exact this
        | [z] => exact absurd hsv (fun h => hx2 z h)
        | z :: z' :: zs => simp only; rw [← hsv]; exact this
  · have hsl := Imm.seal_le M' ρ' H' 0 w'
    refine ⟨Imm.le_trans hfr.imm hsl, fun b o h0 h1 => ?_, fun b hb => absurd hb not_owned_none, hfr.same, hfr.grow, fun s o hs => absurd hs (Nat.not_lt_zero s), fun s hs => absurd hs (Nat.not_lt_zero s), hfr.io⟩
    cases e : M' b with
    | some o' => exact hfr.new b o' h0 e
    | none =>
      obtain ⟨⟨s2, o2, p2, k1, k2, k3, k4, k5⟩, _⟩ := Imm.seal_new e h1
      exact hfr.own b ⟨s2, o2, p2, k2, by cases o2 <;> simp_all [SObj.rowsy, SObj.live], k4, k5⟩
theorem Lx.ok_nil {cx : Cx} {an : List (Nat × Ann)} {st : List Nat} : Lx.Ok cx { ext := [], anns := an, still := st } := ⟨fun q hq => (by cases hq), rfl⟩
theorem Lx.ok_cons {cx : Cx} {g : Nat} {sm : Sm} {l : List (Nat × Sm)} {an : List (Nat × Ann)} {st : List Nat} (h : SmOk cx g sm) (hl : Lx.Ok cx { ext := l, anns := an, still := st }) : Lx.Ok cx { ext := (g, sm) :: l, anns := an, still := st } :=
  ⟨fun q hq => by
    rcases List.mem_cons.1 hq with rfl | hq
    · exact h
    · exact hl.ext q hq, rfl⟩
def nilT (α : Type) : List α := []
def bodyOf (fn : Func) : Code := match fn.body with
  | some c => c
  | none => .skip
end Go.Sx

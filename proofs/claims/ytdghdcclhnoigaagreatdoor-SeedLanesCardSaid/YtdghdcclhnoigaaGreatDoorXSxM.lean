/- Part M of the own logic: a region whose order is asked of the tape. -/
import Derived.Test.YtdghdcclhnoigaaGreatDoorXSxL
set_option linter.unusedVariables false
set_option linter.unusedSimpArgs false
set_option linter.unnecessarySimpa false
namespace Go.Sx
open Go
def hkind : Op → Bool
  | .move _ | .assign _ | .pick .. | .build .. | .load .. | .lookup .. | .nilCheck _ | .binOp .. | .makeFunc .. | .slice .. | .fieldAddr .. | .field .. | .indexAddr .. | .extract .. | .unOp .. | .convert .. | .index .. | .makeInterface .. => true
  | .call { callee := .builtin .len, .. } => true
  | _ => false
def hdyn (R : List Nat) (ev : Operand → SV) (o : Oper) : Bool := match o.op with
  | .load _ a => match ev a with
    | .ptr s .. => R.contains s
    | _ => true
  | .lookup _ m _ _ => match ev m with
    | .mp s => R.contains s
    | _ => true
  | .call { callee := .builtin .len, args, .. } => args.toList.all fun x => match ev x with
    | .mp _ => false
    | _ => true
  | _ => true
theorem hdyn_load {R : List Nat} {ev : Operand → SV} {o : Oper} {t : TypeId} {a : Operand} (ho : o.op = .load t a) : hdyn R ev o = match ev a with
    | .ptr s .. => R.contains s
    | _ => true := by simp only [hdyn, ho]
theorem hdyn_lookup {R : List Nat} {ev : Operand → SV} {o : Oper} {t : TypeId} {m k : Operand} {ok : Bool} (ho : o.op = .lookup t m k ok) : hdyn R ev o = match ev m with
    | .mp s => R.contains s
    | _ => true := by simp only [hdyn, ho]
theorem hop_sound {P : Program} {tab : Tab} (htab : TabOk P tab) {M : Imm} {ρ : Env} {H : List SObj} {w : World} {Sw : World → Prop} {K : Post} {ev : Operand → SV} {va : Operand → Value} (hm : Mem M ρ H w) (hev : ∀ x, SRep M ρ (va x) (ev x)) {o : Oper}
    (hS : ∀ u, Sw u → ∀ b o, M b = some o → u.heap[b]? = some o) {R : List Nat} (hR : ∀ u, Sw u → ∀ s ∈ R, ∀ p, ρ s = some p → u.heap[p.block]? = w.heap[p.block]?) (hk : hkind o.op = true) (hdyn : hdyn R ev o = true)
    (h : (sop P tab H ev o).holds H K) : DoesNS P (execOp va o) M ρ Sw H K := by
  unfold sop at h
  split at h
  · rename_i x ho; exact DoesNS.same (fun w _ => by simp [execOp, ho]) (hev x) h
  · rename_i x ho; exact DoesNS.same (fun w _ => by simp [execOp, ho]) (hev x) h
  · rename_i c a b ho
    have hc := hev c
    split at h
    · rename_i t e
      rw [e] at hc
      have ec := hc.lit_eq
      obtain ⟨h1, h2⟩ := h
      cases t with
      | true => exact DoesNS.same (fun w _ => by simp [execOp, ho, ec, asBool]) (hev a) (h1 rfl)
      | false => exact DoesNS.same (fun w _ => by simp [execOp, ho, ec, asBool]) (hev b) (h2 rfl)
    · exact h.elim
  · rename_i ho; exact absurd hk (by simp [hkind, ho])
  · rename_i ho; exact absurd hk (by simp [hkind, ho])
  · rename_i t parts ho
    obtain ⟨h1, h2⟩ := parts_rep hev parts
    have := (sBuild_soundS (Sw := Sw) htab h1 h2 h).toN; simpa [execOp, ho] using this
  · rename_i ho; exact absurd hk (by simp [hkind, ho])
  · rename_i t a ho; have := (sLoad_soundS (w0 := w) (Sw := Sw) htab hm hS hR (hev a) (fun s sz r j e => by rw [hdyn_load ho] at hdyn; rw [e] at hdyn; simpa using hdyn) h).toN; simpa [execOp, ho] using this
  · rename_i ho; exact absurd hk (by simp [hkind, ho])
  · rename_i x ho
    have hx := hev x
    split at h
    · rename_i s sz i j e
      rw [e] at hx
      cases hv : va x with
      | pointer a =>
        rw [hv] at hx
        cases hx with
        | ptr _ _ _ _ k p hp hk => exact DoesNS.same (v := .pointer (some ⟨p.block, k, none⟩)) (fun w _ => by simp [execOp, ho, hv]) (.ptr _ _ _ _ k p hp hk) h
      | _ => rw [hv] at hx; cases hx
    · rename_i sz r i j e
      rw [e] at hx
      generalize hv : va x = vx at hx
      cases hx with
      | pv hp =>
        cases hp with
        | rptr b off _ _ _ k _ hk h0 h1 h2 => exact DoesNS.same (v := .pointer (some ⟨b, k, none⟩)) (fun w _ => by simp [execOp, ho, hv]) (.pv (.rptr b off sz i j k r hk h0 h1 h2)) h
    · rename_i s e
      rw [e] at hx
      cases hv : va x with
      | map a => rw [hv] at hx; exact DoesNS.same (v := .map a) (fun w _ => by simp [execOp, ho, hv]) hx h
      | _ => rw [hv] at hx; cases hx
    · rename_i f a b e
      rw [e] at hx
      cases hv : va x with
      | func g c d =>
        rw [hv] at hx
        cases hx with
        | fn _ _ _ _ _ ha hb hh hk => exact DoesNS.same (v := .func (.func f) c d) (fun w _ => by simp [execOp, ho, hv]) (.fn _ _ _ _ _ ha hb hh hk) h
      | _ => rw [hv] at hx; cases hx
    · exact sPure_soundS (w0 := w) (Sw := Sw) hm hev h
  · rename_i op t x y t' ho; exact sBin_soundS htab (w0 := w) (Sw := Sw) hm hev ho h
  · rename_i fn a b ho
    obtain ⟨a1, a2⟩ := ops_rep hev a
    obtain ⟨b1, b2⟩ := ops_rep hev b
    exact DoesNS.same (fun w _ => by simp [execOp, ho, Instr.makeFunc]) (.fn fn _ _ _ _ a1 b1 a2 b2) h
  · rename_i ho; exact absurd hk (by simp [hkind, ho])
  · rename_i ho; exact absurd hk (by simp [hkind, ho])
  · rename_i t x lo hi mx ho
    split at h
    · obtain ⟨l1, l2⟩ := opt_rep hev lo
      obtain ⟨h1, h2⟩ := opt_rep hev hi
      have := (sSlice_soundS (w0 := w) (Sw := Sw) htab hm (hev x) l1 l2 h1 h2 h).toN; simpa [execOp, ho] using this
    · exact h.elim
  · rename_i t x f ho; have := (sFieldAddr_soundS (w0 := w) (Sw := Sw) htab hm (hev x) h).toN; simpa [execOp, ho] using this
  · rename_i t x f ho
    split at h
    · rename_i l e
      have hx := hev x
      rw [e] at hx
      have := (sField_soundS (w0 := w) (Sw := Sw) htab hm hx h).toN; simpa [execOp, ho] using this
    · exact sPure_soundS (w0 := w) (Sw := Sw) hm hev h
  · rename_i t x ix ho; have := (sIndexAddr_soundS (w0 := w) (Sw := Sw) htab hm (hev x) (hev ix) h).toN; simpa [execOp, ho] using this
  · rename_i t m k ok ho; have := (sLookup_soundS (w0 := w) (Sw := Sw) htab hm hR (hev m) (hev k) (fun s e => by rw [hdyn_lookup ho] at hdyn; rw [e] at hdyn; simpa using hdyn) h).toN; simpa [execOp, ho] using this
  · rename_i ho; exact absurd hk (by simp [hkind, ho])
  · rename_i ho; exact absurd hk (by simp [hkind, ho])
  · rename_i ho; exact absurd hk (by simp [hkind, ho])
  · rename_i ho; exact absurd hk (by simp [hkind, ho])
  · rename_i ho; exact absurd hk (by simp [hkind, ho])
  · rename_i ho; exact absurd hk (by simp [hkind, ho])
  · rename_i x i ho
    split at h
    · rename_i l e
      have hx := hev x
      rw [e] at hx
      cases hv : va x with
      | tuple cs =>
        rw [hv] at hx
        cases hx with
        | tup _ _ hl hr =>
          split at h
          · rename_i y hy
            have hlt : i < cs.size := by have := (List.getElem?_eq_some_iff.1 hy).1; omega
            exact DoesNS.same (v := cs[i]) (fun w _ => by simp [execOp, ho, hv, Instr.extract, hlt]) (hr i _ y (by simp [hlt]) hy) h
          · exact h.elim
      | _ => rw [hv] at hx; cases hx
    · exact sPure_soundS (w0 := w) (Sw := Sw) hm hev h
  · rename_i ho; exact absurd hk (by simp [hkind, ho])
  · rename_i args argTypes ho
    split at h
    · rename_i x t ea et
      have ea' : args = #[x] := by rw [← Array.toArray_toList (xs := args), ea]
      have et' : argTypes = #[t] := by rw [← Array.toArray_toList (xs := argTypes), et]
      subst ea'; subst et'
      have := (sLen_soundS (w0 := w) (Sw := Sw) (ty := o.type) htab hm (hev x) (fun s e => by simp [Sx.hdyn, ho, e] at hdyn) h).toN
      simpa [execOp, ho, resolve, invoke, builtin] using this
    · exact h.elim
  · rename_i b args argTypes hb1 hb2 ho
    cases b <;> first
      | exact (hb1 rfl).elim
      | exact (hb2 rfl).elim
      | (rw [ho] at hk; cases hk)
  · exact sPure_soundS (w0 := w) (Sw := Sw) hm hev h
  · exact sPure_soundS (w0 := w) (Sw := Sw) hm hev h
  · rename_i t x ix ho
    generalize ex : ev x = sx at h
    generalize ei : ev ix = si at h
    unfold sIndex at h
    split at h
    · have hx := hev x
      have hi := hev ix
      rw [ex] at hx; rw [ei] at hi
      have ex' := hx.lit_eq; have ei' := hi.lit_eq
      rename_i k _
      obtain ⟨v, hk, hr⟩ := sIndex_run (P := P) (ev := ev) (o := o) (k := k) (H := H) (K := K) htab (by simpa only [sIndex] using h)
      exact DoesNS.same (fun w _ => by simp [execOp, ho, ex', ei', hr]) (.pv (.lit v)) hk
    · exact sPure_soundS (w0 := w) (Sw := Sw) hm hev h
  · exact sPure_soundS (w0 := w) (Sw := Sw) hm hev h
  · exact h.elim
section
variable {R : Option Nat} {P : Program} {ops : Array Oper} {Q : Exit → Act → World → Prop} {md : Region.Mode}
def goOp (R : Option Nat) (P : Program) (ops : Array Oper) (Q : Exit → Act → World → Prop) (i : Nat) (K : Act → World → Prop) (a : Act) (w : World) : Prop :=
  match ops[i]? with
  | none => K a w
  | some o => if Region.wanted o (yielded ops a.tmps) then noDefer o.op = true ∧ o.wpIn (FW R) 0 P a w K Q else K (a.put o.dst undef) w
theorem operIn_mono {o : Oper} {a : Act} {w : World} {K K' : Act → World → Prop} (h : ∀ a w, K a w → K' a w) (hh : o.wpIn (FW R) 0 P a w K Q) : o.wpIn (FW R) 0 P a w K' Q := by
  refine ⟨hh.1, ?_⟩
  have h2 := hh.2
  generalize (o.semAt (FW R).round a.eval).run P w = r at *
  cases r with
  | ok n w' =>
    cases n <;> simp only [Oper.uponIn] at h2 ⊢ <;>
      first
        | exact h _ _ h2
        | exact ⟨h2.1, CallsIn.mono h2.2 (fun e w'' he => by cases e <;> first | exact h _ _ he | exact he)⟩
        | exact ⟨h2.1, RoundIn.mono h2.2 (fun e w'' he => by cases e <;> first | exact h _ _ he | exact he)⟩
        | exact ⟨h2.1, RowsIn.mono h2.2 (fun _ _ he => h _ _ he)⟩
  | halt x w' => cases x <;> simp only [Oper.uponIn] at h2 ⊢ <;> exact h2
theorem goOp_mono {i : Nat} {a : Act} {w : World} {K K' : Act → World → Prop} (h : ∀ a w, K a w → K' a w) (hh : goOp R P ops Q i K a w) : goOp R P ops Q i K' a w := by
  unfold goOp at *
  split
  · exact h _ _ (by simpa [*] using hh)
  · rename_i o ho
    simp only [ho] at hh
    split
    · rename_i hw; simp only [hw, if_true] at hh; exact ⟨hh.1, operIn_mono h hh.2⟩
    · rename_i hw; simp only [hw] at hh; exact h _ _ hh
theorem YieldsIf.goOp {S : World → Prop} {i : Nat} {o : Oper} {v : Value} {a : Act} (hi : ops[i]? = some o) (hd : noDefer o.op = true) (hy : YieldsIf P ops S o v a)
    {K : Act → World → Prop} {w : World} (hS : S w) (h : K (a.put o.dst v) w) : goOp R P ops Q i K a w := by
  unfold Sx.goOp
  simp only [hi]
  rcases hy with ⟨hw, hv⟩ | ⟨hw, rfl⟩
  · simp only [hw, if_true]
    exact ⟨hd, OpGoes.wpIn hd (N := fun u w' => u = v ∧ w' = w) (.inl ⟨v, w, .inl (hv w hS), rfl, rfl⟩) fun u w' ⟨e, e'⟩ => by subst e; subst e'; exact h⟩
  · simp only [hw, Bool.false_eq_true, if_false]; exact h
theorem goOp_putIf {S : World → Prop} {j : Nat} {oi oj : Oper} {v : Value} (hj : ops[j]? = some oj) (hap : oi.apart ops oj = true)
    (hsi : ∀ cs b, oi.op ≠ .select cs b) (hsj : ∀ cs b, oj.op ≠ .select cs b)
    (hQ : ∀ c a w, Q (.panic c) (a.put oi.dst v) w → Q (.panic c) a w) {K : Act → World → Prop} {a : Act} {w : World}
    (hy : YieldsIf P ops S oi v a) (h : goOp R P ops Q j K (a.put oi.dst v) w) :
    goOp R P ops Q j (fun a' w' => YieldsIf P ops S oi v a' ∧ K (a'.put oi.dst v) w') a w := by
  obtain ⟨h1, h2, h3⟩ := Oper.apart_spec hap
  have keep : ∀ (a : Act), YieldsIf P ops S oi v a → ∀ u, YieldsIf P ops S oi v (a.put oj.dst u) := fun a hy u =>
    hy.of_same (execOp_put oi hsi a oj.dst u h3) (wanted_put oi a oj.dst u h3)
  have keepD : ∀ d, YieldsIf P ops S oi v { a with defers := d :: a.defers } := fun d => hy.of_same rfl rfl
  unfold goOp at *
  simp only [hj] at *
  rw [wanted_put oj a oi.dst v h1] at h
  split
  · rename_i hw
    simp only [hw, if_true] at h
    obtain ⟨hd, h⟩ := h
    refine ⟨hd, fun _ _ => trivial, ?_⟩
    have h := h.2
    have hs : ∀ ρ, oj.semAt (FW R).round ρ = execOp ρ oj := fun ρ => Oper.semAt_eq _ ρ oj fun c hc => by rw [hc] at hd; cases hd
    rw [hs] at h ⊢
    rw [execOp_put oj hsj a oi.dst v h1] at h
    generalize (execOp a.eval oj).run P w = r at *
    cases r with
    | ok n w' =>
      cases n <;> simp only [Oper.uponIn] at h ⊢
      case value u => exact ⟨keep a hy u, by rw [← Act.put_comm a v u h2]; exact h⟩
      case skip => exact ⟨keep a hy _, by rw [← Act.put_comm a v undef h2]; exact h⟩
      case defer d =>
        refine ⟨keep _ (keepD d) _, ?_⟩
        rw [← Act.put_comm _ v undef h2, ← Act.put_defers]
        exact h
      case enter f args =>
        refine ⟨h.1, CallsIn.mono h.2 fun e w'' he => ?_⟩
        cases e with
        | returned u => exact ⟨keep a hy u, by rw [← Act.put_comm a v u h2]; exact he⟩
        | panicked c => exact hQ _ _ _ he
        | outgrown => exact he
      case round =>
        refine ⟨h.1, RoundIn.mono h.2 fun e w'' he => ?_⟩
        cases e with
        | returned u => exact ⟨keep a hy u, by rw [← Act.put_comm a v u h2]; exact he⟩
        | panicked c => exact hQ _ _ _ he
        | outgrown => exact he
      case row row args => exact ⟨h.1, RowsIn.mono h.2 fun u w'' he => ⟨keep a hy u, by rw [← Act.put_comm a v u h2]; exact he⟩⟩
    | halt x w' =>
      cases x <;> simp only [Oper.uponIn] at h ⊢
      case panic u => exact hQ _ _ _ h
  · rename_i hw
    simp only [hw] at h
    exact ⟨keep a hy _, by rw [← Act.put_comm a v undef h2]; exact h⟩
def waitsFor (md : Region.Mode) (o : Oper) (i : Nat) : Bool := o.after.any fun e => Region.binds md e && Nat.beq e.on i
def waits (md : Region.Mode) (ops : Array Oper) (j i : Nat) : Bool := match ops[j]? with
  | some o => waitsFor md o i
  | none => false
abbrev Pend := List (Nat × (World → Prop))
def wpAnyL (R : Option Nat) (P : Program) (md : Region.Mode) (ops : Array Oper) (Q : Exit → Act → World → Prop) : Nat → Array Bool → Act → World → (World → Prop) → Pend → Prop
  | 0, listed, a, w, S, L => Region.ready md ops listed = [] ∧ Q .normal a w
  | fuel + 1, listed, a, w, S, L =>
    (Region.ready md ops listed = [] → Q .normal a w) ∧
    ∀ j ∈ Region.ready md ops listed, goOp R P ops Q j (fun a' w' => ∃ S' : World → Prop, (∀ u, S' u → S u) ∧ S' w' ∧ (∀ p ∈ L, waits md ops j p.1 = false → p.2 w') ∧
      wpAnyL R P md ops Q fuel (listed.setIfInBounds j true) a' w' S' (L.filter fun p => !waits md ops j p.1)) a w
theorem wpAnyL_sound : ∀ (fuel t : Nat) (listed : Array Bool) (a : Act) (w : World) (S : World → Prop) (L : Pend), wpAnyL R P md ops Q fuel listed a w S L →
    wpOpsIn (FW R) 0 P ops Q (Region.linearise.go md ops fuel t listed []) a w := by
  intro fuel
  induction fuel with
  | zero => intro t listed a w S L h; simpa [Region.linearise.go, wpOpsIn] using h.2
  | succ fuel ih =>
    intro t listed a w S L h
    obtain ⟨h₀, h₁⟩ := h
    simp only [Region.linearise.go]
    change wpOpsIn (FW R) 0 P ops Q (match (Region.ready md ops listed)[t % (Region.ready md ops listed).length]? with
      | some i => Region.linearise.go md ops fuel (t / (Region.ready md ops listed).length) (listed.setIfInBounds i true) [i]
      | none => [].reverse) a w
    cases hi : (Region.ready md ops listed)[t % (Region.ready md ops listed).length]? with
    | none =>
      have hnil : Region.ready md ops listed = [] := by
        cases hr : Region.ready md ops listed with
        | nil => rfl
        | cons x xs =>
          rw [hr] at hi
          have hlt : t % (x :: xs).length < (x :: xs).length := Nat.mod_lt _ (by simp)
          simp at hi
          simp at hlt
          omega
      simpa [wpOpsIn] using h₀ hnil
    | some i =>
      simp only []
      rw [linearise_go_acc, List.reverse_singleton, List.singleton_append]
      have h2 := h₁ i (List.mem_of_getElem? hi)
      simp only [wpOpsIn]
      unfold goOp at h2
      split
      · rename_i e; simp only [e] at h2; obtain ⟨S', _, _, _, h3⟩ := h2; exact ih _ _ _ _ _ _ h3
      · rename_i o e
        simp only [e] at h2
        split
        · rename_i hw
          rw [if_pos hw] at h2
          exact operIn_mono (fun a' w' ⟨S', _, _, _, h3⟩ => ih _ _ _ _ _ _ h3) h2.2
        · rename_i hw
          rw [if_neg hw] at h2
          obtain ⟨S', _, _, _, h3⟩ := h2
          exact ⟨fun _ _ => trivial, ih _ _ _ _ _ _ h3⟩
theorem wpAnyL_weaken : ∀ {fuel : Nat} {listed : Array Bool} {a : Act} {w : World} {S S2 : World → Prop} {L L2 : Pend}, (∀ u, S2 u → S u) → (∀ p ∈ L, (∀ u, p.2 u) ∨ ∃ q ∈ L2, q.1 = p.1 ∧ ∀ u, q.2 u → p.2 u) →
    wpAnyL R P md ops Q fuel listed a w S2 L2 → wpAnyL R P md ops Q fuel listed a w S L
  | 0, _, _, _, _, _, _, _, _, _, h => h
  | fuel + 1, _, _, _, _, _, L, L2, hs, hl, h => ⟨h.1, fun j hj => goOp_mono (fun a' w' ⟨S', h1, h2, h3, h4⟩ => by
      refine ⟨S', fun u hu => hs u (h1 u hu), h2, fun p hp hw => ?_, wpAnyL_weaken (fun u hu => hu) (fun p hp => ?_) h4⟩
      · rcases hl p hp with h | ⟨q, hq, e, hi⟩
        · exact h w'
        · exact hi w' (h3 q hq (by rw [e]; exact hw))
      · obtain ⟨hp1, hp2⟩ := List.mem_filter.1 hp
        rcases hl p hp1 with h | ⟨q, hq, e, hi⟩
        · exact .inl h
        · exact .inr ⟨q, List.mem_filter.2 ⟨hq, by rw [e]; exact hp2⟩, e, hi⟩) (h.2 j hj)⟩
theorem YieldsIf.less {S S' : World → Prop} (hs : ∀ u, S' u → S u) {o : Oper} {v : Value} {a : Act} (h : YieldsIf P ops S o v a) : YieldsIf P ops S' o v a :=
  h.imp (fun ⟨h1, h2⟩ => ⟨h1, fun w hw => h2 w (hs w hw)⟩) id
theorem wpAnyL_first {i : Nat} {oi : Oper} {v : Value} (hi : ops[i]? = some oi) (hdi : noDefer oi.op = true) (hsel : ∀ (j : Nat) (o : Oper) cs b, ops[j]? = some o → o.op ≠ .select cs b)
    (hQ : ∀ c a w, Q (.panic c) (a.put oi.dst v) w → Q (.panic c) a w) :
    ∀ (fuel : Nat) (listed : Array Bool) (a : Act) (w : World) (S T : World → Prop) (L : Pend),
      (∀ j oj, ops[j]? = some oj → j ≠ i → listed.getD j true = false → (∀ e ∈ oj.after, Region.binds md e = true → e.on ≠ i) → oi.apart ops oj = true) →
      i ∈ Region.ready md ops listed → YieldsIf P ops (fun u => S u ∧ T u) oi v a → S w → T w → (∀ p ∈ L, p.2 w) →
      wpAnyL R P md ops Q fuel (listed.setIfInBounds i true) (a.put oi.dst v) w S ((i, T) :: L) → wpAnyL R P md ops Q (fuel + 1) listed a w S L := by
  intro fuel
  induction fuel with
  | zero =>
    intro listed a w S T L _ hr hy hS hT hL H
    refine ⟨fun h => (by rw [h] at hr; cases hr), fun j hj => ?_⟩
    by_cases hji : j = i
    · subst hji; exact YieldsIf.goOp hi hdi hy ⟨hS, hT⟩ ⟨S, fun _ h => h, hS, fun p hp _ => hL p hp, H⟩
    · have := ready_mono hj hji
      rw [H.1] at this
      cases this
  | succ fuel ih =>
    intro listed a w S T L hfree hr hy hS hT hL H
    refine ⟨fun h => (by rw [h] at hr; cases hr), fun j hj => ?_⟩
    by_cases hji : j = i
    · subst hji
      refine YieldsIf.goOp hi hdi hy ⟨hS, hT⟩ ⟨S, fun _ h => h, hS, fun p hp _ => hL p hp, wpAnyL_weaken (fun _ h => h) (fun p hp => ?_) H⟩
      exact .inr ⟨p, List.mem_cons_of_mem _ (List.mem_filter.1 hp).1, rfl, fun _ h => h⟩
    · have h1 := H.2 j (ready_mono hj hji)
      obtain ⟨hjun, oj, hoj, hall⟩ := mem_ready.1 hj
      have hnot : ∀ e ∈ oj.after, Region.binds md e = true → e.on ≠ i := fun e he hb heq => by
        have h1 := hall e he hb
        have h0 := (mem_ready.1 hr).1
        rw [heq] at h1
        rcases Nat.lt_or_ge i listed.size with h' | h'
        · simp [h'] at h0 h1; rw [h0] at h1; cases h1
        · simp [Array.getElem?_eq_none h'] at h1
      have hw : waits md ops j i = false := by
        unfold waits waitsFor
        simp only [hoj]
        rw [Array.any_eq_false']
        intro e he h
        simp only [Bool.and_eq_true] at h
        exact hnot e he h.1 (Nat.eq_of_beq_eq_true h.2)
      have h2 := goOp_putIf hoj (hfree j oj hoj hji hjun hnot) (fun cs b => hsel i oi cs b hi) (fun cs b => hsel j oj cs b hoj) hQ hy h1
      have hfree' : ∀ k ok, ops[k]? = some ok → k ≠ i → (listed.setIfInBounds j true).getD k true = false →
          (∀ e ∈ ok.after, Region.binds md e = true → e.on ≠ i) → oi.apart ops ok = true := fun k ok hk hki hun hno => by
        refine hfree k ok hk hki ?_ hno
        by_cases hjk : j = k
        · subst hjk; exact hjun
        · rw [getD_set_ne true hjk] at hun; exact hun
      refine goOp_mono (fun a' w' h3 => ?_) h2
      obtain ⟨h4, S', h5, h6, h7, h8⟩ := h3
      refine ⟨S', h5, h6, fun p hp => h7 p (List.mem_cons_of_mem _ hp), ih (listed.setIfInBounds j true) a' w' S' T _ hfree' (ready_mono hr (Ne.symm hji)) (YieldsIf.less (fun u hu => ⟨h5 u hu.1, hu.2⟩) h4) h6 (h7 _ List.mem_cons_self hw) (fun p hp => ?_) ?_⟩
      · obtain ⟨hp1, hp2⟩ := List.mem_filter.1 hp
        exact h7 p (List.mem_cons_of_mem _ hp1) (by simpa using hp2)
      · rw [Array.setIfInBounds_comm _ _ hji]
        rw [List.filter_cons, if_pos (by simp [hw])] at h8
        exact h8
theorem wpAnyL_take {i : Nat} {oi : Oper} {v : Value} {fuel : Nat} {listed : Array Bool} {a : Act} {w : World} {S T : World → Prop} {L : Pend} (hi : ops[i]? = some oi) (hdi : noDefer oi.op = true)
    (hs : Region.noSelect ops = true) (hf : Region.free md ops listed i = true) (hr : i ∈ Region.ready md ops listed)
    (hQ : ∀ c a w, Q (.panic c) (a.put oi.dst v) w → Q (.panic c) a w) (hy : YieldsIf P ops (fun u => S u ∧ T u) oi v a) (hS : S w) (hT : T w) (hL : ∀ p ∈ L, p.2 w)
    (h : wpAnyL R P md ops Q fuel (listed.setIfInBounds i true) (a.put oi.dst v) w S ((i, T) :: L)) : wpAnyL R P md ops Q (fuel + 1) listed a w S L :=
  wpAnyL_first hi hdi (Region.noSelect_spec hs) hQ fuel listed a w S T L (Region.free_spec hi hf) hr hy hS hT hL h
end
def ImmAt (M : Imm) (u : World) : Prop := ∀ b o, M b = some o → u.heap[b]? = some o
def Agree (ρ : Env) (R : List Nat) (w u : World) : Prop := ∀ s ∈ R, ∀ p, ρ s = some p → u.heap[p.block]? = w.heap[p.block]?
def loadSid (ev : Operand → SV) (o : Oper) : List Nat := match o.op with
  | .load _ a => match ev a with
    | .ptr s .. => [s]
    | _ => []
  | .lookup _ m _ _ => match ev m with
    | .mp s => [s]
    | _ => []
  | _ => []
def liveAt (H : List SObj) (s : Nat) : Bool := match H[s]? with
  | some o => o.live
  | none => false
def pickH (hl : Bool) (ops : Array Oper) (listed : Array Bool) : Option Nat :=
  (Region.ready .any ops listed).find? fun i => match ops[i]? with
    | some o => hkind o.op && (hl || (match o.op with | .load .. => false | .lookup .. => false | _ => true)) && Region.free .any ops listed i
    | none => false
def keeps (o : Oper) (pend : List (Nat × List Nat)) (tch fg : List Nat) : Bool :=
  pend.all fun q => waitsFor .any o q.1 || q.2.all fun r => !tch.contains r && !fg.contains r
def pendAfter (o : Oper) (pend : List (Nat × List Nat)) : List (Nat × List Nat) := pend.filter fun q => !waitsFor .any o q.1
def addPend (i : Nat) (R : List Nat) (pend : List (Nat × List Nat)) : List (Nat × List Nat) := match R with
  | [] => pend
  | _ => (i, R) :: pend
def anyV (cx : Cx) (nt : Nat) (hl : Bool) (ops : Array Oper) : Nat → Array Bool → List (Nat × List Nat) → St → (St → Prop) → Prop
  | 0, listed, pend, s, K => Region.ready .any ops listed = [] ∧ K s
  | fuel + 1, listed, pend, s, K => match pickH hl ops listed with
    | some i => match ops[i]? with
      | none => False
      | some o => dstOk nt o.dst = true ∧ guardV ops o s
          (fun s' => ((loadSid s'.ev o).all (liveAt s'.H) && hdyn (loadSid s'.ev o) s'.ev o) = true ∧
            (sop cx.P cx.tab s'.H s'.ev o).holds s'.H fun x _ _ _ => anyV cx nt hl ops fuel (listed.setIfInBounds i true) (addPend i (loadSid s'.ev o) pend) (s'.put o.dst x) K)
          (fun s' => anyV cx nt hl ops fuel (listed.setIfInBounds i true) pend (s'.put o.dst (.lit undef)) K)
    | none => match Region.ready .any ops listed with
      | [] => K s
      | r :: rs => ∀ i ∈ r :: rs, match ops[i]? with
        | none => False
        | some o => guardV ops o s
            (fun s' => noDefer o.op = true ∧ opP cx s'.ev s'.H o fun x H tch fg => (keeps o pend tch fg = true ∧ s'.adv nt o.dst (fun s'' => anyV cx nt hl ops fuel (listed.setIfInBounds i true) (pendAfter o pend) s'' K) x H tch fg))
            (fun s' => dstOk nt o.dst = true ∧ anyV cx nt hl ops fuel (listed.setIfInBounds i true) (pendAfter o pend) (s'.put o.dst (.lit undef)) K)
theorem Goes.put {M : Imm} {ρ : Env} {s : St} {w : World} (dst : Option Tmp) (x : SV) : Goes M ρ s w M ρ (s.put dst x) w := by
  cases dst with
  | none => exact Goes.refl ..
  | some d => exact ⟨Fr.refl .., rfl, fun _ h => h, fun _ h => h⟩
theorem put_H (s : St) (dst : Option Tmp) (x : SV) : (s.put dst x).H = s.H := rfl
def pendAt (ρ : Env) (w : World) (pend : List (Nat × List Nat)) : Pend := pend.map fun q => (q.1, Agree ρ q.2 w)
theorem Agree.self (ρ : Env) (R : List Nat) (w : World) : Agree ρ R w w := fun _ _ _ _ => rfl
theorem hkind_noDefer {o : Oper} (h : hkind o.op = true) : noDefer o.op = true := by
  cases e : o.op <;> rw [e] at h <;> first | rfl | cases h
theorem anyV_sound {cx : Cx} (hcx : cx.Ok) {R : Option Nat} {B : Nat → Value} {nt : Nat} {hl : Bool} {ops : Array Oper} (hns : Region.noSelect ops = true) {M0 : Imm} {ρ0 : Env} {s0 : St} {w0 : World} {K : St → Prop} :
    ∀ (fuel : Nat) (listed : Array Bool) (pend : List (Nat × List Nat)) (s : St) (M : Imm) (ρ : Env) (a : Act) (w : World), anyV cx nt hl ops fuel listed pend s K → Good B nt M ρ s a w → Goes M0 ρ0 s0 w0 M ρ s w →
      (∀ q ∈ pend, ∀ r ∈ q.2, liveAt s.H r = true) →
      wpAnyL R cx.P .any ops (fun e a' w' => e = .normal ∧ ∃ M' ρ' s', K s' ∧ Good B nt M' ρ' s' a' w' ∧ Goes M0 ρ0 s0 w0 M' ρ' s' w') fuel listed a w (ImmAt M) (pendAt ρ w pend) := by
  intro fuel
  induction fuel with
  | zero => intro listed pend s M ρ a w h hg go _; exact ⟨h.1, rfl, M, ρ, s, h.2, hg, go⟩
  | succ fuel ih =>
    intro listed pend s M ρ a w h hg go hR
    have selfL : ∀ p ∈ pendAt ρ w pend, p.2 w := fun p hp => by
      obtain ⟨q, _, rfl⟩ := List.mem_map.1 hp
      exact Agree.self ρ q.2 w
    unfold anyV at h
    split at h
    · rename_i i hp
      have hmem := List.mem_of_find?_eq_some hp
      have hcond := List.find?_some hp
      split at h
      · exact h.elim
      · rename_i o ho
        simp only [ho, Bool.and_eq_true] at hcond
        obtain ⟨⟨hk, _⟩, hfree⟩ := hcond
        obtain ⟨hdst, h⟩ := h
        rcases guardV_sound hg h with ⟨hw, s', ⟨hb, hrun⟩, hg', go', hH⟩ | ⟨hw, s', hskip, hg', go', hH⟩
        · simp only [Bool.and_eq_true] at hb
          obtain ⟨hlv, hdyn'⟩ := hb
          obtain ⟨v, x, hk', hx, hr⟩ := hop_sound (Sw := fun u => ImmAt M u ∧ Agree ρ (loadSid s'.ev o) w u) hcx.tab hg'.mem (fun x => hg'.ev x) (fun u hu => hu.1) (fun u hu => hu.2) hk hdyn' hrun
          refine wpAnyL_take (T := Agree ρ (loadSid s'.ev o) w) ho (hkind_noDefer hk) hns hfree hmem (fun c a w hq => (by cases hq.1)) (.inl ⟨hw, hr⟩) hg.mem.imm (Agree.self ρ _ w) selfL ?_
          refine wpAnyL_weaken (L2 := pendAt ρ w (addPend i (loadSid s'.ev o) pend)) (fun _ h => h) (fun p hp => ?_) (ih _ _ _ M ρ _ w hk' (hg'.put hdst hx) ((go.trans go').trans (Goes.put _ _)) fun q hq r hr' => ?_)
          · unfold addPend
            rcases List.mem_cons.1 hp with rfl | hp
            · split
              · rename_i e; refine .inl fun u => ?_
                show Agree ρ (loadSid s'.ev o) w u
                rw [e]; intro r hr; cases hr
              · exact .inr ⟨_, List.mem_cons_self, rfl, fun _ h => h⟩
            · split
              · exact .inr ⟨p, hp, rfl, fun _ h => h⟩
              · exact .inr ⟨p, List.mem_cons_of_mem _ hp, rfl, fun _ h => h⟩
          · rw [put_H]
            have hold : ∀ q ∈ pend, ∀ r ∈ q.2, liveAt s'.H r = true := fun q hq r hr' => by rw [hH]; exact hR q hq r hr'
            unfold addPend at hq
            split at hq
            · exact hold q hq r hr'
            · rcases List.mem_cons.1 hq with rfl | hq
              · exact List.all_eq_true.1 hlv r hr'
              · exact hold q hq r hr'
        · refine wpAnyL_take (v := undef) (T := fun _ => True) ho (hkind_noDefer hk) hns hfree hmem (fun c a w hq => (by cases hq.1)) (.inr ⟨hw, rfl⟩) hg.mem.imm trivial selfL ?_
          refine wpAnyL_weaken (L2 := pendAt ρ w pend) (fun _ h => h) (fun p hp => ?_) (ih _ _ _ M ρ _ w hskip (hg'.put hdst (.pv (.lit _))) ((go.trans go').trans (Goes.put _ _)) fun q hq r hr' => ?_)
          · rcases List.mem_cons.1 hp with rfl | hp
            · exact .inl fun _ => trivial
            · exact .inr ⟨p, hp, rfl, fun _ h => h⟩
          · rw [put_H, hH]; exact hR q hq r hr'
    · split at h
      · rename_i hr
        exact ⟨fun _ => ⟨rfl, M, ρ, s, h, hg, go⟩, fun i hi => by rw [hr] at hi; cases hi⟩
      · rename_i r0 rs hr
        refine ⟨fun hn => (by rw [hr] at hn; cases hn), fun i hi => ?_⟩
        rw [hr] at hi
        have h := h i hi
        split at h
        · exact h.elim
        · rename_i o ho
          unfold goOp
          simp only [ho]
          have hwt : ∀ k, waits .any ops i k = waitsFor .any o k := fun k => by unfold waits; simp only [ho]
          rcases guardV_sound hg h with ⟨hw, s', ⟨hd, hrun⟩, hg', go', hH⟩ | ⟨hw, s', ⟨hdst, hskip⟩, hg', go', hH⟩
          · rw [if_pos hw]
            refine ⟨hd, (opP_sound hcx hg'.mem (fun x => hg'.ev x) hrun).wpIn hd ?_⟩
            rintro v w' ⟨x, H', tch, fg, M', ρ', ⟨hdis, hadv⟩, hx, hm, hf⟩
            obtain ⟨sn, hk, hsn, g1, g2⟩ := adv_good hg' hadv hx hm hf
            have keepR : ∀ q ∈ pend, waitsFor .any o q.1 = false → ∀ r ∈ q.2, (∃ o', H'[r]? = some o' ∧ o'.live = true) ∧ ∀ p, ρ r = some p → ρ' r = some p ∧ w'.heap[p.block]? = w.heap[p.block]? := fun q hq hwq r hr' => by
              have h0 := List.all_eq_true.1 hdis q hq
              rw [hwq, Bool.false_or] at h0
              have h1 := List.all_eq_true.1 h0 r hr'
              simp only [Bool.and_eq_true, Bool.not_eq_true', List.contains_eq_mem, decide_eq_false_iff_not] at h1
              have h2 := hR q hq r hr'
              unfold liveAt at h2
              rw [← hH] at h2
              split at h2
              · rename_i o' ho'
                exact hf.keep r o' (List.getElem?_eq_some_iff.1 ho').1 h1.1 ho' h2
              · cases h2
            refine ⟨ImmAt M', fun u hu b ob hb => hu b ob (hf.imm b ob hb), hm.imm, fun p hp hwp => ?_, ?_⟩
            · obtain ⟨q, hq, rfl⟩ := List.mem_map.1 hp
              rw [hwt] at hwp
              exact fun r hr' p hp' => ((keepR q hq hwp r hr').2 p hp').2
            · refine wpAnyL_weaken (fun _ h => h) (fun p hp => ?_) (ih _ _ _ M' ρ' _ w' hk g1 ((go.trans go').trans g2) fun q hq r hr' => ?_)
              · obtain ⟨hp1, hp2⟩ := List.mem_filter.1 hp
                obtain ⟨q, hq, rfl⟩ := List.mem_map.1 hp1
                simp only [hwt, Bool.not_eq_true'] at hp2
                refine .inr ⟨(q.1, Agree ρ' q.2 w'), List.mem_map.2 ⟨q, List.mem_filter.2 ⟨hq, by simp [hp2]⟩, rfl⟩, rfl, fun u hu r hr' p hp' => ?_⟩
                obtain ⟨_, h2⟩ := keepR q hq hp2 r hr'
                obtain ⟨h3, h4⟩ := h2 p hp'
                rw [hu r hr' p h3, h4]
              · obtain ⟨hq1, hq2⟩ := List.mem_filter.1 hq
                obtain ⟨⟨o', h1, h2⟩, _⟩ := keepR q hq1 (by simpa using hq2) r hr'
                rw [hsn]; simp [liveAt, h1, h2]
          · rw [if_neg (by simp [hw])]
            refine ⟨ImmAt M, fun _ h => h, hg.mem.imm, fun p hp _ => selfL p hp, ?_⟩
            refine wpAnyL_weaken (fun _ h => h) (fun p hp => ?_) (ih _ _ _ M ρ _ w hskip (hg'.put hdst (.pv (.lit _))) ((go.trans go').trans (Goes.put _ _)) fun q hq r hr' => ?_)
            · obtain ⟨hp1, hp2⟩ := List.mem_filter.1 hp
              obtain ⟨q, hq, rfl⟩ := List.mem_map.1 hp1
              simp only [hwt, Bool.not_eq_true'] at hp2
              exact .inr ⟨(q.1, Agree ρ q.2 w), List.mem_map.2 ⟨q, List.mem_filter.2 ⟨hq, by simp [hp2]⟩, rfl⟩, rfl, fun _ h => h⟩
            · rw [put_H, hH]; exact hR q (List.mem_filter.1 hq).1 r hr'
theorem Mem.of_heap {M : Imm} {ρ : Env} {H : List SObj} {w w' : World} (hw : w'.heap = w.heap) (h : Mem M ρ H w) : Mem M ρ H w' :=
  ⟨fun b o hb => by rw [hw]; exact h.imm b o hb, fun s o ho => (h.own s o ho).mono M.le_refl ρ.le_refl rfl fun p _ => by rw [hw], h.sep, h.dis, h.fresh⟩
theorem Fr.of_heap {M : Imm} {ρ : Env} {H : List SObj} {w w' : World} (hw : w'.heap = w.heap) (n : Nat) (t f : List Nat) (io : w'.os = w.os ∧ w'.output = w.output := by exact ⟨rfl, rfl⟩) : Fr M ρ H w M ρ H w' n t f :=
  ⟨M.le_refl, fun b o h h' => by (rw [h] at h'; cases h'), fun b h => .inr h, fun _ _ _ => by rw [hw], by rw [hw]; exact Nat.le_refl _, fun _ o _ _ h hl => ⟨⟨o, h, hl⟩, fun _ hp => ⟨hp, by rw [hw]⟩⟩, fun _ _ _ => rfl, io⟩
theorem WPs_draw {cx : Cx} (hcx : cx.Ok) {R : Option Nat} {nt id : Nat} {hl : Bool} {ops : Array Oper} {Q : Exit → St → Prop} {s : St} (hns : Region.noSelect ops = true)
    (h : anyV cx nt hl ops ops.size (Array.replicate ops.size false) [] s (Q .normal)) : WPs R cx.P nt (.region id ops true) Q s := by
  intro B M ρ a w hg
  refine wpIn_mono (wpIn_region_draw (Q := fun e a' w' => e = .normal ∧ ∃ M' ρ' s', Q .normal s' ∧ Good B nt M' ρ' s' a' w' ∧ Goes M ρ s w M' ρ' s' w') fun t => ?_) ?_
  · simp only [Region.schedule, hcx.mix, Bool.true_or, if_true]
    exact wpAnyL_sound ops.size t _ a _ _ _ (anyV_sound hcx hns (M0 := M) (ρ0 := ρ) (s0 := s) (w0 := w) _ _ _ s M ρ a { w with drawn := w.drawn + 1 } h
      ⟨hg.tm, hg.sz, Mem.of_heap (w := w) rfl hg.mem, hg.df, hg.mks, hg.nle, hg.fix⟩ ⟨Fr.of_heap (w := w) (w' := { w with drawn := w.drawn + 1 }) rfl _ _ _, rfl, fun _ h => h, fun _ h => h⟩ (fun q hq => by cases hq))
  · rintro e a' w' ⟨rfl, M', ρ', s', hk, g, go⟩
    exact ⟨M', ρ', s', hk, g, go⟩
end Go.Sx

/- Part Qc of the own logic: what a function comes to, as a function of its data: operations and regions. -/
import Derived.Test.YtdghdcclhnoigaaGreatDoorXSxQb
set_option linter.unusedVariables false
set_option linter.unusedSimpArgs false
set_option linter.unnecessarySimpa false
namespace Go.Sx
open Go
def gd {X : Type} : Bool → Option X → Option X
  | true, x => x
  | false, _ => none
theorem gd_some {X : Type} {c : Bool} {x : Option X} {y : X} (h : gd c x = some y) : c = true ∧ x = some y := by
  cases c with
  | true => exact ⟨rfl, h⟩
  | false => cases h
def both {X : Type} (eq : X → X → Bool) (x y : Option X) : Option X := match x with
  | none => none
  | some a => match y with
    | none => none
    | some b => match eq a b with
      | true => some a
      | false => none
theorem both_some {X : Type} {eq : X → X → Bool} (he : EqOk eq) {x y : Option X} {v : X} (h : both eq x y = some v) : x = some v ∧ y = some v := by
  unfold both at h
  split at h
  · cases h
  · split at h
    · cases h
    · split at h
      · rename_i e; cases h; rw [he _ _ e]; exact ⟨rfl, rfl⟩
      · cases h
abbrev KO (X : Type) := SV → List SObj → List Nat → List Nat → Option X
abbrev KX (X : Type) := Exit → St → Option X
section
variable {X : Type}
def Res.runO (kok : SV → Option X) (k : KO X) : Res → Option X
  | .fail => none
  | .ok x => kok x
  | .eff x H' t g => k x H' t g
  | .need c r => match c with
    | true => r.runO kok k
    | false => none
  | .split c a b => match c with
    | true => a.runO kok k
    | false => b.runO kok k
theorem Res.runO_holds {H : List SObj} {kok : SV → Option X} {k : KO X} {K : Post} {y : X} (h1 : ∀ x, kok x = some y → K x H [] []) (h2 : ∀ x H' t g, k x H' t g = some y → K x H' t g) : ∀ {r : Res}, r.runO kok k = some y → r.holds H K
  | .fail, h => by simp [Res.runO] at h
  | .ok x, h => h1 x h
  | .eff x H' t g, h => h2 x H' t g h
  | .need c r, h => by
    simp only [Res.runO] at h
    cases c with
    | true => exact ⟨rfl, Res.runO_holds h1 h2 h⟩
    | false => cases h
  | .split c a b, h => by
    simp only [Res.runO] at h
    cases c with
    | true => exact ⟨fun _ => Res.runO_holds h1 h2 h, fun h => by cases h⟩
    | false => exact ⟨fun h => (by cases h), fun _ => Res.runO_holds h1 h2 h⟩
def guardO (ops : Array Oper) (o : Oper) (s : St) (run skip : St → Option X) : Option X :=
  match o.guard with
  | none => run s
  | some (j, want) => match guardSlot ops j with
    | none => none
    | some d => match s.T.get d with
      | some (.pv (.lit (.bool b))) => match want with
        | true => match b with
          | true => run { s with T := s.T.set d (.lit (.bool true)) }
          | false => skip { s with T := s.T.set d (.lit (.bool false)) }
        | false => match b with
          | true => skip { s with T := s.T.set d (.lit (.bool true)) }
          | false => run { s with T := s.T.set d (.lit (.bool false)) }
      | some (.pv (.lit (.tuple _))) => skip s
      | _ => none
theorem guardO_sound {ops : Array Oper} {o : Oper} {s : St} {run skip : St → Option X} {run' skip' : St → Prop} {y : X} (h : guardO ops o s run skip = some y) (hr : ∀ s, run s = some y → run' s) (hs : ∀ s, skip s = some y → skip' s) : guardV ops o s run' skip' := by
  unfold guardO at h
  unfold guardV
  split at h
  · rename_i e; simp only [e]; exact hr _ h
  · rename_i j want e
    simp only [e]
    split at h
    · cases h
    · rename_i d e2
      simp only [e2]
      split at h
      · rename_i b e3
        simp only [e3]
        cases want <;> cases b <;> simp only [Bool.not_true, Bool.not_false] at h ⊢
        · exact ⟨fun _ => hr _ h, fun h => by cases h⟩
        · exact ⟨fun h => (by cases h), fun _ => hs _ h⟩
        · exact ⟨fun h => (by cases h), fun _ => hs _ h⟩
        · exact ⟨fun _ => hr _ h, fun h => by cases h⟩
      · rename_i e3; simp only [e3]; exact hs _ h
      · cases h
abbrev CallO (X : Type) := Bool → Nat → List SV → List SObj → KO X → Option X
structure CallO.Ok (cx : Cx) (cb : CallO X) : Prop where
  ok : ∀ g args H k y, cb false g args H k = some y → (∃ fn, cx.fns.lookup g = some fn) ∧ SCall cx.P g args H fun x H' t f => k x H' t f = some y
  rd : ∀ s args H k y, cb true s args H k = some y → SRound cx.P s args H fun x H' t f => k x H' t f = some y
def opO (cx : Cx) (cb : CallO X) (ev : Operand → SV) (H : List SObj) (o : Oper) (kok : SV → Option X) (k : KO X) : Option X :=
  match isCall o.op with
  | some c => match targetY ev c with
    | some (s, args) => cb true s args H k
    | none => match target ev c with
      | none => none
      | some (g, args) => cb false g args H k
  | none => (sop cx.P cx.tab H ev o).runO kok k
theorem opO_sound {cx : Cx} {cb : CallO X} (hcb : cb.Ok cx) {ev : Operand → SV} {H : List SObj} {o : Oper} {kok : SV → Option X} {k : KO X} {K : Post} {y : X} (h1 : ∀ x, kok x = some y → K x H [] []) (h2 : ∀ x H' t g, k x H' t g = some y → K x H' t g)
    (h : opO cx cb ev H o kok k = some y) : opP cx ev H o K := by
  unfold opO at h
  unfold opP
  cases hc : isCall o.op with
  | none => simp only [hc] at h ⊢; exact Res.runO_holds h1 h2 h
  | some c =>
    simp only [hc] at h ⊢
    cases hy : targetY ev c with
    | some q =>
      obtain ⟨s, args⟩ := q
      simp only [hy] at h ⊢
      exact (hcb.rd s args H k y h).mono h2
    | none =>
      simp only [hy] at h ⊢
      cases ht : target ev c with
      | none => simp only [ht] at h; cases h
      | some q =>
        obtain ⟨g, args⟩ := q
        simp only [ht] at h ⊢
        obtain ⟨⟨fn, hf⟩, h3⟩ := hcb.ok g args H k y h
        simp only [hf]; exact h3.mono h2
def vopsO (cx : Cx) (cb : CallO X) (nt : Nat) (ops : Array Oper) : List Oper → St → (St → Option X) → Option X
  | [], s, k => k s
  | o :: rest, s, k => guardO ops o s
      (fun s' => gd (noDefer o.op && dstOk nt o.dst) (opO cx cb s'.ev s'.H o (fun x => vopsO cx cb nt ops rest (s'.put o.dst x) k) fun x H t f => gd (stepOk s' nt o.dst H f) (vopsO cx cb nt ops rest (s'.step o.dst x H t f) k)))
      (fun s' => gd (dstOk nt o.dst) (vopsO cx cb nt ops rest (s'.put o.dst (.lit undef)) k))
theorem vopsO_sound {cx : Cx} {cb : CallO X} (hcb : cb.Ok cx) {nt : Nat} {ops : Array Oper} {y : X} : ∀ (l : List Oper) (s : St) (k : St → Option X), vopsO cx cb nt ops l s k = some y → vops cx nt ops l s fun s' => k s' = some y
  | [], s, k, h => h
  | o :: rest, s, k, h => by
    unfold vopsO at h
    unfold vops
    refine guardO_sound h (fun s' h => ?_) (fun s' h => ?_)
    · obtain ⟨h0, h⟩ := gd_some h
      rw [Bool.and_eq_true] at h0
      refine ⟨h0.1, opO_sound hcb (fun x hx => .inl ⟨h0.2, rfl, rfl, rfl, vopsO_sound hcb rest _ k hx⟩) (fun x H t f h => ?_) h⟩
      obtain ⟨h1, h⟩ := gd_some h
      exact .inr ⟨h1, vopsO_sound hcb rest _ k h⟩
    · obtain ⟨h0, h⟩ := gd_some h
      exact ⟨h0, vopsO_sound hcb rest _ k h⟩
def isStop : Plan → Bool
  | .stop => true
  | _ => false
def runPlanO (eq : X → X → Bool) (cx : Cx) (cb : CallO X) (nt : Nat) (ops : Array Oper) : Plan → List (Nat × List Nat) → St → (St → Option X) → Option X
  | .done, pend, s, k => k s
  | .bad, pend, s, k => none
  | .stop, pend, s, k => none
  | .take i o p, pend, s, k => gd (dstOk nt o.dst) (guardO ops o s
      (fun s' => gd ((loadSid s'.ev o).all (liveAt s'.H) && hdyn (loadSid s'.ev o) s'.ev o)
        ((sop cx.P cx.tab s'.H s'.ev o).runO (fun x => runPlanO eq cx cb nt ops p (addPend i (loadSid s'.ev o) pend) (s'.put o.dst x) k) fun x _ _ _ => runPlanO eq cx cb nt ops p (addPend i (loadSid s'.ev o) pend) (s'.put o.dst x) k))
      (fun s' => runPlanO eq cx cb nt ops p pend (s'.put o.dst (.lit undef)) k))
  | .alt o p rest, pend, s, k =>
    match isStop rest with
    | true => guardO ops o s
      (fun s' => gd (noDefer o.op && dstOk nt o.dst) (opO cx cb s'.ev s'.H o (fun x => runPlanO eq cx cb nt ops p (pendAfter o pend) (s'.put o.dst x) k) fun x H t f => gd (stepOk s' nt o.dst H f && keeps o pend t f) (runPlanO eq cx cb nt ops p (pendAfter o pend) (s'.step o.dst x H t f) k)))
      (fun s' => gd (dstOk nt o.dst) (runPlanO eq cx cb nt ops p (pendAfter o pend) (s'.put o.dst (.lit undef)) k))
    | false => both eq (guardO ops o s
      (fun s' => gd (noDefer o.op && dstOk nt o.dst) (opO cx cb s'.ev s'.H o (fun x => runPlanO eq cx cb nt ops p (pendAfter o pend) (s'.put o.dst x) k) fun x H t f => gd (stepOk s' nt o.dst H f && keeps o pend t f) (runPlanO eq cx cb nt ops p (pendAfter o pend) (s'.step o.dst x H t f) k)))
      (fun s' => gd (dstOk nt o.dst) (runPlanO eq cx cb nt ops p (pendAfter o pend) (s'.put o.dst (.lit undef)) k))) (runPlanO eq cx cb nt ops rest pend s k)
theorem runPlanO_sound {eq : X → X → Bool} (he : EqOk eq) {cx : Cx} {cb : CallO X} (hcb : cb.Ok cx) {nt : Nat} {hl : Bool} {ops : Array Oper} {k : St → Option X} {y : X} :
    ∀ (fuel : Nat) (listed : Array Bool) (R : List (Nat × List Nat)) (s : St), runPlanO eq cx cb nt ops (planOf hl ops fuel listed) R s k = some y → anyV cx nt hl ops fuel listed R s fun s' => k s' = some y
  | 0, listed, R, s, h => by
    unfold planOf at h
    unfold anyV
    split at h
    · rename_i e; exact ⟨e, h⟩
    · cases h
  | n + 1, listed, R, s, h => by
    unfold planOf at h
    unfold anyV
    cases hp : pickH hl ops listed with
    | some i =>
      simp only [hp] at h ⊢
      cases ho : ops[i]? with
      | none => simp only [ho] at h; cases h
      | some o =>
        simp only [ho, runPlanO] at h ⊢
        obtain ⟨h0, h⟩ := gd_some h
        refine ⟨h0, guardO_sound h (fun s' h => ?_) (fun s' h => runPlanO_sound he hcb n _ R _ h)⟩
        obtain ⟨h1, h⟩ := gd_some h
        exact ⟨h1, Res.runO_holds (fun x h => runPlanO_sound he hcb n _ _ _ h) (fun x _ _ _ h => runPlanO_sound he hcb n _ _ _ h) h⟩
    | none =>
      simp only [hp] at h ⊢
      cases hr : Region.ready .any ops listed with
      | nil => simp only [hr] at h; exact h
      | cons r rs =>
        simp only [hr] at h
        have one : ∀ (i : Nat) (o : Oper), guardO ops o s
            (fun s' => gd (noDefer o.op && dstOk nt o.dst) (opO cx cb s'.ev s'.H o (fun x => runPlanO eq cx cb nt ops (planOf hl ops n (listed.setIfInBounds i true)) (pendAfter o R) (s'.put o.dst x) k) fun x H t f => gd (stepOk s' nt o.dst H f && keeps o R t f) (runPlanO eq cx cb nt ops (planOf hl ops n (listed.setIfInBounds i true)) (pendAfter o R) (s'.step o.dst x H t f) k)))
            (fun s' => gd (dstOk nt o.dst) (runPlanO eq cx cb nt ops (planOf hl ops n (listed.setIfInBounds i true)) (pendAfter o R) (s'.put o.dst (.lit undef)) k)) = some y →
            guardV ops o s
              (fun s' => noDefer o.op = true ∧ opP cx s'.ev s'.H o fun x H tch fg => (keeps o R tch fg = true ∧ s'.adv nt o.dst (fun s'' => anyV cx nt hl ops n (listed.setIfInBounds i true) (pendAfter o R) s'' fun s' => k s' = some y) x H tch fg))
              (fun s' => dstOk nt o.dst = true ∧ anyV cx nt hl ops n (listed.setIfInBounds i true) (pendAfter o R) (s'.put o.dst (.lit undef)) fun s' => k s' = some y) := by
          intro i o h
          refine guardO_sound h (fun s' h => ?_) (fun s' h => ?_)
          · obtain ⟨h0, h⟩ := gd_some h
            rw [Bool.and_eq_true] at h0
            refine ⟨h0.1, opO_sound hcb (fun x hx => ⟨keeps_nil o R, .inl ⟨h0.2, rfl, rfl, rfl, runPlanO_sound he hcb n _ _ _ hx⟩⟩) (fun x H t f h => ?_) h⟩
            obtain ⟨h1, h⟩ := gd_some h
            rw [Bool.and_eq_true] at h1
            exact ⟨h1.2, .inr ⟨h1.1, runPlanO_sound he hcb n _ _ _ h⟩⟩
          · obtain ⟨h0, h⟩ := gd_some h
            exact ⟨h0, runPlanO_sound he hcb n _ _ _ h⟩
        have all : ∀ (l : List Nat), l ≠ [] → runPlanO eq cx cb nt ops (planAlts ops (fun i => planOf hl ops n (listed.setIfInBounds i true)) l) R s k = some y → ∀ i ∈ l, match ops[i]? with
          | none => False
          | some o => guardV ops o s
              (fun s' => noDefer o.op = true ∧ opP cx s'.ev s'.H o fun x H tch fg => (keeps o R tch fg = true ∧ s'.adv nt o.dst (fun s'' => anyV cx nt hl ops n (listed.setIfInBounds i true) (pendAfter o R) s'' fun s' => k s' = some y) x H tch fg))
              (fun s' => dstOk nt o.dst = true ∧ anyV cx nt hl ops n (listed.setIfInBounds i true) (pendAfter o R) (s'.put o.dst (.lit undef)) fun s' => k s' = some y) := by
          intro l
          induction l with
          | nil => intro h; exact absurd rfl h
          | cons j l ih =>
            intro _ h i hi
            unfold planAlts at h
            cases ho : ops[j]? with
            | none => simp only [ho] at h; cases h
            | some o =>
              simp only [ho, runPlanO] at h
              cases l with
              | nil =>
                simp only [planAlts, isStop] at h
                rcases List.mem_cons.1 hi with rfl | hi
                · simp only [ho]; exact one i o h
                · cases hi
              | cons j2 l2 =>
                have hst : isStop (planAlts ops (fun i => planOf hl ops n (listed.setIfInBounds i true)) (j2 :: l2)) = false := by
                  unfold planAlts
                  cases ops[j2]? <;> rfl
                simp only [hst] at h
                obtain ⟨h1, h2⟩ := both_some he h
                rcases List.mem_cons.1 hi with rfl | hi
                · simp only [ho]; exact one i o h1
                · exact ih (by simp) h2 i hi
        exact all _ (by simp) h
end
end Go.Sx

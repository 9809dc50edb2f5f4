/- Part O of the own logic: the evaluator. -/
import Derived.Test.YtdghdcclhnoigaaGreatDoorXSxFz
set_option linter.unusedVariables false
set_option linter.unusedSimpArgs false
set_option linter.unnecessarySimpa false
namespace Go.Sx
open Go

abbrev KB := SV → List SObj → List Nat → List Nat → Bool
abbrev KE := Exit → St → Bool

def Res.fast (H : List SObj) (kok : SV → Bool) (k : KB) : Res → Bool
  | .fail => false
  | .ok x => kok x
  | .eff x H' t g => k x H' t g
  | .need c r => match c with
    | true => r.fast H kok k
    | false => false
  | .split c a b => match c with
    | true => a.fast H kok k
    | false => b.fast H kok k

theorem Res.fast_holds {H : List SObj} {kok : SV → Bool} {k : KB} {K : Post} (h1 : ∀ x, kok x = true → K x H [] []) (h2 : ∀ x H' t g, k x H' t g = true → K x H' t g) : ∀ {r : Res}, r.fast H kok k = true → r.holds H K
  | .fail, h => by simp [Res.fast] at h
  | .ok x, h => h1 x h
  | .eff x H' t g, h => h2 x H' t g h
  | .need c r, h => by
    simp only [Res.fast] at h
    cases c with
    | true => exact ⟨rfl, Res.fast_holds h1 h2 h⟩
    | false => cases h
  | .split c a b, h => by
    simp only [Res.fast] at h
    cases c with
    | true => exact ⟨fun _ => Res.fast_holds h1 h2 h, fun h => by cases h⟩
    | false => exact ⟨fun h => (by cases h), fun _ => Res.fast_holds h1 h2 h⟩

def Res.run (H : List SObj) (k : KB) : Res → Bool
  | .fail => false
  | .ok x => k x H [] []
  | .eff x H' t g => k x H' t g
  | .need c r => match c with
    | true => r.run H k
    | false => false
  | .split c a b => match c with
    | true => a.run H k
    | false => b.run H k

theorem Res.run_holds {H : List SObj} {k : KB} {r : Res} (h : r.run H k = true) : r.holds H fun x H' t g => k x H' t g = true := by
  induction r with
  | fail => cases h
  | ok x => exact h
  | eff x H' t g => exact h
  | need c r ih =>
    cases c with
    | true => exact ⟨rfl, ih h⟩
    | false => cases h
  | split c a b iha ihb =>
    cases c with
    | true => exact ⟨fun _ => iha h, fun e => absurd e (by simp)⟩
    | false => exact ⟨fun e => absurd e (by simp), fun _ => ihb h⟩

def guardB (ops : Array Oper) (o : Oper) (s : St) (run skip : St → Bool) : Bool :=
  match o.guard with
  | none => run s
  | some (j, want) => match guardSlot ops j with
    | none => false
    | some d => match s.T.get d with
      | some (.pv (.lit (.bool b))) => match b, want with
        | true, true => run { s with T := s.T.set d (.lit (.bool true)) }
        | false, false => run { s with T := s.T.set d (.lit (.bool false)) }
        | true, false => skip { s with T := s.T.set d (.lit (.bool true)) }
        | false, true => skip { s with T := s.T.set d (.lit (.bool false)) }
      | some (.pv (.lit (.tuple _))) => skip s
      | _ => false

theorem guardB_sound {ops : Array Oper} {o : Oper} {s : St} {run skip : St → Bool} {run' skip' : St → Prop} (h : guardB ops o s run skip = true) (hr : ∀ s, run s = true → run' s) (hs : ∀ s, skip s = true → skip' s) : guardV ops o s run' skip' := by
  unfold guardB at h
  unfold guardV
  cases hg : o.guard with
  | none => simp only [hg] at h ⊢; exact hr _ h
  | some q =>
    obtain ⟨j, want⟩ := q
    simp only [hg] at h ⊢
    cases hd : guardSlot ops j with
    | none => simp only [hd] at h; cases h
    | some d =>
      simp only [hd] at h ⊢
      split at h
      · rename_i b hb
        simp only [hb]
        cases b <;> cases want
        · exact ⟨fun _ => hr _ h, fun e => by cases e⟩
        · exact ⟨fun e => (by cases e), fun _ => hs _ h⟩
        · exact ⟨fun e => (by cases e), fun _ => hs _ h⟩
        · exact ⟨fun _ => hr _ h, fun e => by cases e⟩
      · rename_i c hb
        simp only [hb]; exact hs _ h
      · cases h

/-- a call (false) or a yield (true), walked -/
abbrev CallB := Bool → Nat → List SV → List SObj → KB → Bool

structure CallB.Ok (cx : Cx) (cb : CallB) : Prop where
  ok : ∀ g args H k, cb false g args H k = true → (∃ fn, cx.fns.lookup g = some fn) ∧ SCall cx.P g args H fun x H' t f => k x H' t f = true
  rd : ∀ s args H k, cb true s args H k = true → SRound cx.P s args H fun x H' t f => k x H' t f = true

def opB (cx : Cx) (cb : CallB) (ev : Operand → SV) (H : List SObj) (o : Oper) (kok : SV → Bool) (k : KB) : Bool :=
  match isCall o.op with
  | some c => match targetY ev c with
    | some (s, args) => cb true s args H k
    | none => match target ev c with
      | none => false
      | some (g, args) => cb false g args H k
  | none => (sop cx.P cx.tab H ev o).fast H kok k

theorem opB_sound {cx : Cx} {cb : CallB} (hcb : cb.Ok cx) {ev : Operand → SV} {H : List SObj} {o : Oper} {kok : SV → Bool} {k : KB} {K : Post} (h1 : ∀ x, kok x = true → K x H [] []) (h2 : ∀ x H' t g, k x H' t g = true → K x H' t g)
    (h : opB cx cb ev H o kok k = true) : opP cx ev H o K := by
  unfold opB at h
  unfold opP
  cases hc : isCall o.op with
  | none => simp only [hc] at h ⊢; exact Res.fast_holds h1 h2 h
  | some c =>
    simp only [hc] at h ⊢
    cases hy : targetY ev c with
    | some q =>
      obtain ⟨s, args⟩ := q
      simp only [hy] at h ⊢
      exact (hcb.rd s args H k h).mono h2
    | none =>
      simp only [hy] at h ⊢
      cases ht : target ev c with
      | none => simp only [ht] at h; cases h
      | some q =>
        obtain ⟨g, args⟩ := q
        simp only [ht] at h ⊢
        obtain ⟨⟨fn, hf⟩, h3⟩ := hcb.ok g args H k h
        simp only [hf]; exact h3.mono h2

theorem opP_mono {cx : Cx} {ev : Operand → SV} {H : List SObj} {o : Oper} {K K' : Post} (hk : ∀ x H' t g, K x H' t g → K' x H' t g) (h : opP cx ev H o K) : opP cx ev H o K' := by
  unfold opP at h ⊢
  cases hc : isCall o.op with
  | none => simp only [hc] at h ⊢; exact Res.holds_mono hk h
  | some c =>
    simp only [hc] at h ⊢
    cases hy : targetY ev c with
    | some q =>
      obtain ⟨s, args⟩ := q
      simp only [hy] at h ⊢
      exact h.mono hk
    | none =>
      simp only [hy] at h ⊢
      cases ht : target ev c with
      | none => simp only [ht] at h
      | some q =>
        obtain ⟨g, args⟩ := q
        simp only [ht] at h ⊢
        cases hl : cx.fns.lookup g with
        | none => simp only [hl] at h
        | some fn => simp only [hl] at h ⊢; exact h.mono hk

def vopsB (cx : Cx) (cb : CallB) (nt : Nat) (ops : Array Oper) : List Oper → St → (St → Bool) → Bool
  | [], s, k => k s
  | o :: rest, s, k => guardB ops o s
      (fun s' => noDefer o.op && (dstOk nt o.dst && opB cx cb s'.ev s'.H o (fun x => vopsB cx cb nt ops rest (s'.put o.dst x) k) fun x H t f => stepOk s' nt o.dst H f && vopsB cx cb nt ops rest (s'.step o.dst x H t f) k))
      (fun s' => dstOk nt o.dst && vopsB cx cb nt ops rest (s'.put o.dst (.lit undef)) k)

theorem vopsB_sound {cx : Cx} {cb : CallB} (hcb : cb.Ok cx) {nt : Nat} {ops : Array Oper} : ∀ (l : List Oper) (s : St) (k : St → Bool), vopsB cx cb nt ops l s k = true → vops cx nt ops l s fun s' => k s' = true
  | [], s, k, h => h
  | o :: rest, s, k, h => by
    unfold vopsB at h
    unfold vops
    refine guardB_sound h (fun s' h => ?_) (fun s' h => ?_)
    · simp only [Bool.and_eq_true] at h
      refine ⟨h.1, opB_sound hcb (fun x hx => .inl ⟨h.2.1, rfl, rfl, rfl, vopsB_sound hcb rest _ k hx⟩) (fun x H t f h => ?_) h.2.2⟩
      simp only [Bool.and_eq_true] at h
      exact .inr ⟨h.1, vopsB_sound hcb rest _ k h.2⟩
    · simp only [Bool.and_eq_true] at h
      exact ⟨h.1, vopsB_sound hcb rest _ k h.2⟩

/-! ### plans for the regions whose order is asked -/
inductive Plan where
  | done
  | bad
  | stop
  | take (i : Nat) (o : Oper) (p : Plan)
  | alt (o : Oper) (p rest : Plan)

def planAlts (ops : Array Oper) (next : Nat → Plan) : List Nat → Plan
  | [] => .stop
  | i :: rs => match ops[i]? with
    | none => .bad
    | some o => .alt o (next i) (planAlts ops next rs)

def planOf (hl : Bool) (ops : Array Oper) : Nat → Array Bool → Plan
  | 0, listed => match Region.ready .any ops listed with
    | [] => .done
    | _ => .bad
  | n + 1, listed => match pickH hl ops listed with
    | some i => match ops[i]? with
      | none => .bad
      | some o => .take i o (planOf hl ops n (listed.setIfInBounds i true))
    | none => match Region.ready .any ops listed with
      | [] => .done
      | r :: rs => planAlts ops (fun i => planOf hl ops n (listed.setIfInBounds i true)) (r :: rs)

def runPlan (cx : Cx) (cb : CallB) (nt : Nat) (ops : Array Oper) : Plan → List (Nat × List Nat) → St → (St → Bool) → Bool
  | .done, pend, s, k => k s
  | .bad, pend, s, k => false
  | .stop, pend, s, k => true
  | .take i o p, pend, s, k => dstOk nt o.dst && guardB ops o s
      (fun s' => ((loadSid s'.ev o).all (liveAt s'.H) && hdyn (loadSid s'.ev o) s'.ev o) &&
        (sop cx.P cx.tab s'.H s'.ev o).run s'.H fun x _ _ _ => runPlan cx cb nt ops p (addPend i (loadSid s'.ev o) pend) (s'.put o.dst x) k)
      (fun s' => runPlan cx cb nt ops p pend (s'.put o.dst (.lit undef)) k)
  | .alt o p rest, pend, s, k => guardB ops o s
      (fun s' => noDefer o.op && (dstOk nt o.dst && opB cx cb s'.ev s'.H o (fun x => runPlan cx cb nt ops p (pendAfter o pend) (s'.put o.dst x) k) fun x H t f => (stepOk s' nt o.dst H f && keeps o pend t f) && runPlan cx cb nt ops p (pendAfter o pend) (s'.step o.dst x H t f) k))
      (fun s' => dstOk nt o.dst && runPlan cx cb nt ops p (pendAfter o pend) (s'.put o.dst (.lit undef)) k) && runPlan cx cb nt ops rest pend s k

theorem guardV_mono {ops : Array Oper} {o : Oper} {s : St} {run skip run' skip' : St → Prop} (h : guardV ops o s run skip) (hr : ∀ s, run s → run' s) (hs : ∀ s, skip s → skip' s) : guardV ops o s run' skip' := by
  unfold guardV at h ⊢
  split at h
  · exact hr _ h
  · split at h
    · exact h
    · split at h
      · exact ⟨fun e => hr _ (h.1 e), fun e => hs _ (h.2 e)⟩
      · exact hs _ h
      · exact h

theorem keeps_nil (o : Oper) (pend : List (Nat × List Nat)) : keeps o pend [] [] = true := by
  unfold keeps
  rw [List.all_eq_true]
  intro q _
  simp

theorem runPlan_sound {cx : Cx} {cb : CallB} (hcb : cb.Ok cx) {nt : Nat} {hl : Bool} {ops : Array Oper} {k : St → Bool} :
    ∀ (fuel : Nat) (listed : Array Bool) (R : List (Nat × List Nat)) (s : St), runPlan cx cb nt ops (planOf hl ops fuel listed) R s k = true → anyV cx nt hl ops fuel listed R s fun s' => k s' = true
  | 0, listed, R, s, h => by
    unfold planOf at h
    unfold anyV
    split at h
    · rename_i e; exact ⟨e, h⟩
    · cases h
  | n + 1, listed, R, s, h => by
    unfold planOf at h
    unfold anyV
    cases hp : pickH hl ops listed with
    | some i =>
      simp only [hp] at h ⊢
      cases ho : ops[i]? with
      | none => simp only [ho] at h; cases h
      | some o =>
        simp only [ho, runPlan, Bool.and_eq_true] at h ⊢
        refine ⟨h.1, guardB_sound h.2 (fun s' h => ?_) (fun s' h => runPlan_sound hcb n _ R _ h)⟩
        simp only [Bool.and_eq_true] at h
        refine ⟨h.1, Res.holds_mono (fun x _ _ _ h => runPlan_sound hcb n _ _ _ h) (Res.run_holds h.2)⟩
    | none =>
      simp only [hp] at h ⊢
      cases hr : Region.ready .any ops listed with
      | nil => simp only [hr] at h; exact h
      | cons r rs =>
        simp only [hr] at h
        have all : ∀ (l : List Nat), runPlan cx cb nt ops (planAlts ops (fun i => planOf hl ops n (listed.setIfInBounds i true)) l) R s k = true → ∀ i ∈ l, match ops[i]? with
          | none => False
          | some o => guardV ops o s
              (fun s' => noDefer o.op = true ∧ opP cx s'.ev s'.H o fun x H tch fg => (keeps o R tch fg = true ∧ s'.adv nt o.dst (fun s'' => anyV cx nt hl ops n (listed.setIfInBounds i true) (pendAfter o R) s'' fun s' => k s' = true) x H tch fg))
              (fun s' => dstOk nt o.dst = true ∧ anyV cx nt hl ops n (listed.setIfInBounds i true) (pendAfter o R) (s'.put o.dst (.lit undef)) fun s' => k s' = true) := by
          intro l
          induction l with
          | nil => intro _ i hi; cases hi
          | cons j l ih =>
            intro h i hi
            unfold planAlts at h
            cases ho : ops[j]? with
            | none => simp only [ho] at h; cases h
            | some o =>
              simp only [ho, runPlan, Bool.and_eq_true] at h
              rcases List.mem_cons.1 hi with rfl | hi
              · simp only [ho]
                refine guardB_sound h.1 (fun s' h => ?_) (fun s' h => ?_)
                · simp only [Bool.and_eq_true] at h
                  refine ⟨h.1, opB_sound hcb (fun x hx => ⟨keeps_nil o R, .inl ⟨h.2.1, rfl, rfl, rfl, runPlan_sound hcb n _ _ _ hx⟩⟩) (fun x H t f h => ?_) h.2.2⟩
                  simp only [Bool.and_eq_true] at h
                  exact ⟨h.1.2, .inr ⟨h.1.1, runPlan_sound hcb n _ _ _ h.2⟩⟩
                · simp only [Bool.and_eq_true] at h
                  exact ⟨h.1, runPlan_sound hcb n _ _ _ h.2⟩
              · exact ih h.2 i hi
        exact all _ h

end Go.Sx

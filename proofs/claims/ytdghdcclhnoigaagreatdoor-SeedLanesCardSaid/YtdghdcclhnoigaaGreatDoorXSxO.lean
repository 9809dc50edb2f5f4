/- Part O of the own logic: the evaluator. -/
import Derived.Test.YtdghdcclhnoigaaGreatDoorXSxFz
set_option linter.unusedVariables false
set_option linter.unusedSimpArgs false
set_option linter.unnecessarySimpa false
namespace Go.Sx
open Go
abbrev KB := SV → List SObj → List Nat → List Nat → Bool
def Res.run (H : List SObj) (k : KB) : Res → Bool
  | .fail => false
  | .ok x => k x H [] []
  | .eff x H' t g => k x H' t g
  | .need c r => match c with
    | true => r.run H k
    | false => false
  | .split c a b => match c with
    | true => a.run H k
    | false => b.run H k
abbrev CallB := Bool → Nat → List SV → List SObj → KB → Bool
structure CallB.Ok (cx : Cx) (cb : CallB) : Prop where
  ok : ∀ g args H k, cb false g args H k = true → (∃ fn, cx.fns.lookup g = some fn) ∧ SCall cx.P g args H fun x H' t f => k x H' t f = true
  rd : ∀ s args H k, cb true s args H k = true → SRound cx.P s args H fun x H' t f => k x H' t f = true
inductive Plan where
  | done
  | bad
  | stop
  | take (i : Nat) (o : Oper) (p : Plan)
  | alt (o : Oper) (p rest : Plan)
def planAlts (ops : Array Oper) (next : Nat → Plan) : List Nat → Plan
  | [] => .stop
  | i :: rs => match ops[i]? with
    | none => .bad
    | some o => .alt o (next i) (planAlts ops next rs)
def planOf (hl : Bool) (ops : Array Oper) : Nat → Array Bool → Plan
  | 0, listed => match Region.ready .any ops listed with
    | [] => .done
    | _ => .bad
  | n + 1, listed => match pickH hl ops listed with
    | some i => match ops[i]? with
      | none => .bad
      | some o => .take i o (planOf hl ops n (listed.setIfInBounds i true))
    | none => match Region.ready .any ops listed with
      | [] => .done
      | r :: rs => planAlts ops (fun i => planOf hl ops n (listed.setIfInBounds i true)) (r :: rs)
theorem keeps_nil (o : Oper) (pend : List (Nat × List Nat)) : keeps o pend [] [] = true := by
  unfold keeps
  rw [List.all_eq_true]
  intro q _
  simp
end Go.Sx

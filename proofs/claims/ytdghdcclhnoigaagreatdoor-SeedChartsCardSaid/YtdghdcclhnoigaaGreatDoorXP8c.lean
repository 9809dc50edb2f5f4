/- Plain law of SeedCharts: the chart, case by case (under way). -/
import Derived.Test.YtdghdcclhnoigaaGreatDoorXP8
set_option maxRecDepth 100000
set_option linter.unusedVariables false
namespace Go.Proofs.Tryz
open Go Go.Sx
def upI (A N : Int) : Int := w64 (Int.tdiv (w64 (w64 (A + N) - 1)) N)
def eq3 : List (Int × Int × Int) → List (Int × Int × Int) → Bool
  | [], [] => true
  | x :: l, y :: m => decide (x.1 = y.1) && (decide (x.2.1 = y.2.1) && (decide (x.2.2 = y.2.2) && eq3 l m))
  | _, _ => false
noncomputable def chk (A N : Int) : Bool := match c54 400 (A, N) with
  | none => false
  | some r => bif decide (16 < upI A N) then (r.1.isEmpty && decide (r.2 = 5)) else match c56 400 (A, N) with
    | none => false
    | some w => decide (r.2 = 0) && (decide (r.1.length < 20) && eq3 r.1 w)
theorem chk_all : ((List.range 161).all fun A => (List.range 10).all fun N => chk A (N + 1)) = true := by kernel_rfl
theorem chk_in {A N : Int} (hA : ¬ (A < 0 ∨ 160 < A)) (hN : ¬ (N < 1 ∨ 10 < N)) : chk A N = true := by
  have h := List.all_eq_true.1 (List.all_eq_true.1 chk_all A.toNat (by simp; omega)) (N.toNat - 1) (by simp; omega)
  rwa [show ((A.toNat : Nat) : Int) = A by omega, show (((N.toNat - 1 : Nat) : Int) + 1) = N by omega] at h
end Go.Proofs.Tryz

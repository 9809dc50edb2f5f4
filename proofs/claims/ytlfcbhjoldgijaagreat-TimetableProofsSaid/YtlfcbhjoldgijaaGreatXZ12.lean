/- The statement TimetableProofs: for every argument, on every order, the call returns true. No condition. -/
import Derived.Test.YtlfcbhjoldgijaaGreatXTtW
import Derived.Test.YtlfcbhjoldgijaaGreatXT9zb
set_option maxRecDepth 100000
namespace Go.Proofs.YtlfcbhjoldgijaaGreat
open Go Go.Sx Go.Proofs.Tryz
theorem timetableProofs_proved : Rows.TimetableProofsSaid :=
  OpenClaim.holds_of_wide 12 f12 rfl rfl rfl rfl rfl rfl rfl ⟨rfl, rfl, rfl, rfl, rfl⟩ rfl rfl rfl rfl rfl (by kernel_rfl) func12 (by kernel_rfl)
    (of_decide_eq_true (by kernel_rfl)) (by unfold Func.isWrapper; rw [if_neg (of_decide_eq_false (by kernel_rfl))]; exact ⟨rfl, rfl⟩)
    (fun os started H enc _ => law_lifted (s := Rows.timetableProofsSpec) (tb := 4) #[(.agg #[.slice none 0 0, .slice none 0 0, .int .i64 0]), .slice none 0 0] os started H enc (by kernel_rfl) func12 (by kernel_rfl) (by kernel_rfl) (by kernel_rfl) (by kernel_rfl) (by kernel_rfl)
      (by kernel_rfl) (by kernel_rfl) (by kernel_rfl) (by kernel_rfl) rfl (fun ds h => by
        match ds, h with
        | [d1, d2], _ => rfl) pc12_ok law12)
#print axioms timetableProofs_proved
end Go.Proofs.YtlfcbhjoldgijaaGreat

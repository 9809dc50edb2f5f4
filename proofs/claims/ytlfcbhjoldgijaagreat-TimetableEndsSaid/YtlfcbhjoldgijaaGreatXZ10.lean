/- The statement TimetableEnds: for every argument, on every order, the call returns true. No condition. -/
import Derived.Test.YtlfcbhjoldgijaaGreatXTtW
import Derived.Test.YtlfcbhjoldgijaaGreatXL10c
set_option maxRecDepth 100000
namespace Go.Proofs.YtlfcbhjoldgijaaGreat
open Go Go.Sx Go.Proofs.Tryz
theorem timetableEnds_proved:Rows.TimetableEndsSaid :=
 OpenClaim.holds_of_wide 10 f10 rfl rfl rfl rfl rfl rfl rfl ⟨rfl,rfl,rfl,rfl,rfl⟩ rfl rfl rfl rfl rfl (by kernel_rfl) func10 (by kernel_rfl)
  (of_decide_eq_true (by kernel_rfl)) (by unfold Func.isWrapper; rw [if_neg (of_decide_eq_false (by kernel_rfl))]; exact ⟨rfl,rfl⟩)
  (fun os started H enc _=>law_lifted (s := Rows.timetableEndsSpec) (tb := 4) #[(.agg #[.slice none 0 0,.slice none 0 0,.int .i64 0]),.slice none 0 0] os started H enc (by kernel_rfl) func10 (by kernel_rfl) (by kernel_rfl) (by kernel_rfl) (by kernel_rfl) (by kernel_rfl)
   (by kernel_rfl) (by kernel_rfl) (by kernel_rfl) (by kernel_rfl) rfl (fun ds h=>by
    match ds,h with
    | [d1,d2],_=>rfl) pc10_ok law10)
#print axioms timetableEnds_proved
end Go.Proofs.YtlfcbhjoldgijaaGreat

/- The statement SeedZigzags: for every argument, on every order, the call returns true. No condition. -/
import Derived.Test.YtdghdcclhnoigaaGreatDoorXTryzW
import Derived.Test.YtdghdcclhnoigaaGreatDoorXP8d
set_option maxRecDepth 100000
namespace Go.Proofs.YtdghdcclhnoigaaGreatDoor
open Go Go.Sx Go.Proofs.Tryz
theorem seedZigzags_row:Rows.SeedZigzagsSaid :=
 OpenClaim.holds_of_wide 10 f10 rfl rfl rfl rfl rfl rfl rfl ⟨rfl,rfl,rfl,rfl,rfl⟩ rfl rfl rfl rfl rfl (by kernel_rfl) func10 (by kernel_rfl)
  (of_decide_eq_true (by kernel_rfl)) (by unfold Func.isWrapper; rw [if_neg (of_decide_eq_false (by kernel_rfl))]; exact ⟨rfl,rfl⟩)
  (fun os started H enc _=>law_lifted (s := Rows.seedZigzagsSpec) (tb := 4) #[.int .i64 0,.int .i64 0] os started H enc (by kernel_rfl) func10 (by kernel_rfl) (by kernel_rfl) (by kernel_rfl) (by kernel_rfl) (by kernel_rfl)
   (by kernel_rfl) (by kernel_rfl) (by kernel_rfl) (by kernel_rfl) rfl (fun ds h=>by
    match ds,h with
    | [d1,d2],_=>rfl) pc10_ok law10)
theorem seedZigzags_proved:Rows.SeedZigzagsCardSaid :=
 Claim7.holds_tied_plain_at .later [] [.data,.data,.data] true Rows.seedZigzagsCard.stood.harness false
  seedZigzags_row (fun _ h=>by cases h) (by kernel_rfl) (fun _ h=>by cases h) seedZigzags_row_tie rfl ⟨rfl,rfl⟩ (by kernel_rfl) rfl
  (fun f fn hf hfn=>by
   obtain rfl:f = 10 := Option.some.inj ((show prog.funcNamed Rows.seedZigzagsRow.func = some 10 by kernel_rfl).symm.trans hf) |>.symm
   obtain rfl:fn = f10 := (Option.some.inj (func10.symm.trans hfn)).symm
   exact ⟨by kernel_rfl,fun j t ht=>by
    have hall:(f10.params.toList.all fun t=>!prog.wantsStandIn t) = true := by kernel_rfl
    have := List.all_eq_true.1 hall t (List.mem_of_getElem? (by rw [Array.getElem?_toList]; exact ht))
    exact (by simpa using this:prog.wantsStandIn t = false)⟩)
  (by kernel_rfl)
#print axioms seedZigzags_proved
end Go.Proofs.YtdghdcclhnoigaaGreatDoor

/- The statement SeedOrders: for every argument, on every order, the call returns true. No condition. -/
import Derived.Test.YtdghdcclhnoigaaGreatDoorXTryzW
import Derived.Test.YtdghdcclhnoigaaGreatDoorXN04c
set_option maxRecDepth 100000
namespace Go.Proofs.YtdghdcclhnoigaaGreatDoor
open Go Go.Sx Go.Proofs.Tryz
theorem seedOrders_row:Rows.SeedOrdersSaid :=
 OpenClaim.holds_of_wide 3 f3 rfl rfl rfl rfl rfl rfl rfl ⟨rfl,rfl,rfl,rfl,rfl⟩ rfl rfl rfl rfl rfl (by kernel_rfl) func3 (by kernel_rfl)
  (of_decide_eq_true (by kernel_rfl)) (by unfold Func.isWrapper; rw [if_neg (of_decide_eq_false (by kernel_rfl))]; exact ⟨rfl,rfl⟩)
  (fun os started H enc _=>law_lifted (s := Rows.seedOrdersSpec) (tb := 4) #[.slice none 0 0,.int .i64 0,.int .i64 0] os started H enc (by kernel_rfl) func3 (by kernel_rfl) (by kernel_rfl) (by kernel_rfl) (by kernel_rfl) (by kernel_rfl)
   (by kernel_rfl) (by kernel_rfl) (by kernel_rfl) (by kernel_rfl) rfl (fun ds h=>by
    match ds,h with
    | [d1,d2,d3],_=>rfl) pc3_ok law3)
theorem seedOrders_proved:Rows.SeedOrdersCardSaid :=
 Claim7.holds_tied_plain_at .later [] [.data,.data,.data] true Rows.seedOrdersCard.stood.harness false
  seedOrders_row (fun _ h=>by cases h) (by kernel_rfl) (fun _ h=>by cases h) seedOrders_row_tie rfl ⟨rfl,rfl⟩ (by kernel_rfl) rfl
  (fun f fn hf hfn=>by
   obtain rfl:f = 3 := Option.some.inj ((show prog.funcNamed Rows.seedOrdersRow.func = some 3 by kernel_rfl).symm.trans hf) |>.symm
   obtain rfl:fn = f3 := (Option.some.inj (func3.symm.trans hfn)).symm
   exact ⟨by kernel_rfl,fun j t ht=>by
    have hall:(f3.params.toList.all fun t=>!prog.wantsStandIn t) = true := by kernel_rfl
    have := List.all_eq_true.1 hall t (List.mem_of_getElem? (by rw [Array.getElem?_toList]; exact ht))
    exact (by simpa using this:prog.wantsStandIn t = false)⟩)
  (by kernel_rfl)
#print axioms seedOrders_proved
end Go.Proofs.YtdghdcclhnoigaaGreatDoor

/- The statement SeedPlaces: for every argument, on every order, the call returns true. No condition. -/
import Derived.Test.YtdghdcclhnoigaaGreatDoorXTryzW
import Derived.Test.YtdghdcclhnoigaaGreatDoorXTryzL14
set_option maxRecDepth 100000
namespace Go.Proofs.YtdghdcclhnoigaaGreatDoor
open Go Go.Sx Go.Proofs.Tryz
theorem seedPlaces_row : Rows.SeedPlacesSaid :=
  OpenClaim.holds_of_wide 14 f14 rfl rfl rfl rfl rfl rfl rfl ⟨rfl, rfl, rfl, rfl, rfl⟩ rfl rfl rfl rfl rfl (by kernel_rfl) func14 (by kernel_rfl)
    (of_decide_eq_true (by kernel_rfl)) (by unfold Func.isWrapper; rw [if_neg (of_decide_eq_false (by kernel_rfl))]; exact ⟨rfl, rfl⟩)
    (fun os started H enc _ => law_lifted (s := Rows.seedPlacesSpec) (tb := 4) #[.slice none 0 0, .int .i64 0, .int .i64 0] os started H enc (by kernel_rfl) func14 (by kernel_rfl) (by kernel_rfl) (by kernel_rfl) (by kernel_rfl) (by kernel_rfl)
      (by kernel_rfl) (by kernel_rfl) (by kernel_rfl) (by kernel_rfl) rfl (fun ds h => by
        match ds, h with
        | [d1, d2, d3], _ => rfl) pc14_ok law14)
theorem seedPlaces_proved : Rows.SeedPlacesCardSaid :=
  Claim7.holds_tied_plain_at .later [] [.data, .data, .data] true Rows.seedPlacesCard.stood.harness false
    seedPlaces_row (fun _ h => by cases h) (by kernel_rfl) (fun _ h => by cases h) seedPlaces_row_tie rfl ⟨rfl, rfl⟩ (by kernel_rfl) rfl
    (fun f fn hf hfn => by
      obtain rfl : f = 14 := Option.some.inj ((show prog.funcNamed Rows.seedPlacesRow.func = some 14 by kernel_rfl).symm.trans hf) |>.symm
      obtain rfl : fn = f14 := (Option.some.inj (func14.symm.trans hfn)).symm
      exact ⟨by kernel_rfl, fun j t ht => by
        have hall : (f14.params.toList.all fun t => !prog.wantsStandIn t) = true := by kernel_rfl
        have := List.all_eq_true.1 hall t (List.mem_of_getElem? (by rw [Array.getElem?_toList]; exact ht))
        exact (by simpa using this : prog.wantsStandIn t = false)⟩)
    (by kernel_rfl)
#print axioms seedPlaces_proved
end Go.Proofs.YtdghdcclhnoigaaGreatDoor

/- The statement SeedBetter: for every argument, on every order, the call returns true. No condition. -/
import Derived.Test.YtdghdcclhnoigaaGreatDoorXTryzW
import Derived.Test.YtdghdcclhnoigaaGreatDoorXH11c
set_option maxRecDepth 100000
namespace Go.Proofs.YtdghdcclhnoigaaGreatDoor
open Go Go.Sx Go.Proofs.Tryz
theorem seedBetter_row : Rows.SeedBetterSaid :=
  OpenClaim.holds_of_wide 11 f11 rfl rfl rfl rfl rfl rfl rfl ⟨rfl, rfl, rfl, rfl, rfl⟩ rfl rfl rfl rfl rfl (by kernel_rfl) func11 (by kernel_rfl)
    (of_decide_eq_true (by kernel_rfl)) (by unfold Func.isWrapper; rw [if_neg (of_decide_eq_false (by kernel_rfl))]; exact ⟨rfl, rfl⟩)
    (fun os started H enc _ => law_lifted (s := Rows.seedBetterSpec) (tb := 4) #[.slice none 0 0, .int .i64 0, .int .u8 0] os started H enc (by kernel_rfl) func11 (by kernel_rfl) (by kernel_rfl) (by kernel_rfl) (by kernel_rfl) (by kernel_rfl)
      (by kernel_rfl) (by kernel_rfl) (by kernel_rfl) (by kernel_rfl) rfl (fun ds h => by
        match ds, h with
        | [d1, d2, d3], _ => rfl) pc11_ok law11)
theorem seedBetter_proved : Rows.SeedBetterCardSaid :=
  Claim7.holds_tied_plain_at .later [] [.data, .data, .data] true Rows.seedBetterCard.stood.harness false
    seedBetter_row (fun _ h => by cases h) (by kernel_rfl) (fun _ h => by cases h) seedBetter_row_tie rfl ⟨rfl, rfl⟩ (by kernel_rfl) rfl
    (fun f fn hf hfn => by
      obtain rfl : f = 11 := Option.some.inj ((show prog.funcNamed Rows.seedBetterRow.func = some 11 by kernel_rfl).symm.trans hf) |>.symm
      obtain rfl : fn = f11 := (Option.some.inj (func11.symm.trans hfn)).symm
      exact ⟨by kernel_rfl, fun j t ht => by
        have hall : (f11.params.toList.all fun t => !prog.wantsStandIn t) = true := by kernel_rfl
        have := List.all_eq_true.1 hall t (List.mem_of_getElem? (by rw [Array.getElem?_toList]; exact ht))
        exact (by simpa using this : prog.wantsStandIn t = false)⟩)
    (by kernel_rfl)
#print axioms seedBetter_proved
end Go.Proofs.YtdghdcclhnoigaaGreatDoor

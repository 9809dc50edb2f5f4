/- The statement SeedChanges: for every argument, on every order, the call returns true. No condition. -/
import Derived.Test.YtdghdcclhnoigaaGreatDoorXTryzW
import Derived.Test.YtdghdcclhnoigaaGreatDoorXE07d
set_option maxRecDepth 100000
namespace Go.Proofs.YtdghdcclhnoigaaGreatDoor
open Go Go.Sx Go.Proofs.Tryz
theorem seedChanges_row : Rows.SeedChangesSaid :=
  OpenClaim.holds_of_wide 7 f7 rfl rfl rfl rfl rfl rfl rfl ⟨rfl, rfl, rfl, rfl, rfl⟩ rfl rfl rfl rfl rfl (by kernel_rfl) func7 (by kernel_rfl)
    (of_decide_eq_true (by kernel_rfl)) (by unfold Func.isWrapper; rw [if_neg (of_decide_eq_false (by kernel_rfl))]; exact ⟨rfl, rfl⟩)
    (fun os started H enc _ => law_lifted (s := Rows.seedChangesSpec) (tb := 4) #[.slice none 0 0, .agg #[.int .i64 0, .int .i64 0], .agg #[.string ByteArray.empty, .string ByteArray.empty, .int .i64 0, .string ByteArray.empty]] os started H enc (by kernel_rfl) func7 (by kernel_rfl) (by kernel_rfl) (by kernel_rfl) (by kernel_rfl) (by kernel_rfl)
      (by kernel_rfl) (by kernel_rfl) (by kernel_rfl) (by kernel_rfl) rfl (fun ds h => by
        match ds, h with
        | [d1, d2, d3], _ => rfl) pc7_ok law7)
theorem seedChanges_proved : Rows.SeedChangesCardSaid :=
  Claim7.holds_tied_plain_at .later [] [.data, .data, .data] true Rows.seedChangesCard.stood.harness false
    seedChanges_row (fun _ h => by cases h) (by kernel_rfl) (fun _ h => by cases h) seedChanges_row_tie rfl ⟨rfl, rfl⟩ (by kernel_rfl) rfl
    (fun f fn hf hfn => by
      obtain rfl : f = 7 := Option.some.inj ((show prog.funcNamed Rows.seedChangesRow.func = some 7 by kernel_rfl).symm.trans hf) |>.symm
      obtain rfl : fn = f7 := (Option.some.inj (func7.symm.trans hfn)).symm
      exact ⟨by kernel_rfl, fun j t ht => by
        have hall : (f7.params.toList.all fun t => !prog.wantsStandIn t) = true := by kernel_rfl
        have := List.all_eq_true.1 hall t (List.mem_of_getElem? (by rw [Array.getElem?_toList]; exact ht))
        exact (by simpa using this : prog.wantsStandIn t = false)⟩)
    (by kernel_rfl)
#print axioms seedChanges_proved
end Go.Proofs.YtdghdcclhnoigaaGreatDoor

/- The statement SeedOrderless: for every argument, on every order, the call returns true. No condition. -/
import Derived.Test.YtdghdcclhnoigaaGreatDoorXTryzW
import Derived.Test.YtdghdcclhnoigaaGreatDoorXE12e
set_option maxRecDepth 100000
namespace Go.Proofs.YtdghdcclhnoigaaGreatDoor
open Go Go.Sx Go.Proofs.Tryz
theorem seedOrderless_row : Rows.SeedOrderlessSaid :=
  OpenClaim.holds_of_wide 12 f12 rfl rfl rfl rfl rfl rfl rfl ⟨rfl, rfl, rfl, rfl, rfl⟩ rfl rfl rfl rfl rfl (by kernel_rfl) func12 (by kernel_rfl)
    (of_decide_eq_true (by kernel_rfl)) (by unfold Func.isWrapper; rw [if_neg (of_decide_eq_false (by kernel_rfl))]; exact ⟨rfl, rfl⟩)
    (fun os started H enc _ => law_lifted (s := Rows.seedOrderlessSpec) (tb := 4) #[.slice none 0 0, .agg #[.int .i64 0, .int .i64 0], .agg #[.int .u8 0, .int .u8 0]] os started H enc (by kernel_rfl) func12 (by kernel_rfl) (by kernel_rfl) (by kernel_rfl) (by kernel_rfl) (by kernel_rfl)
      (by kernel_rfl) (by kernel_rfl) (by kernel_rfl) (by kernel_rfl) rfl (fun ds h => by
        match ds, h with
        | [d1, d2, d3], _ => rfl) pc12_ok law12)
theorem seedOrderless_proved : Rows.SeedOrderlessCardSaid :=
  Claim7.holds_tied_plain_at .later [] [.data, .data, .data] true Rows.seedOrderlessCard.stood.harness false
    seedOrderless_row (fun _ h => by cases h) (by kernel_rfl) (fun _ h => by cases h) seedOrderless_row_tie rfl ⟨rfl, rfl⟩ (by kernel_rfl) rfl
    (fun f fn hf hfn => by
      obtain rfl : f = 12 := Option.some.inj ((show prog.funcNamed Rows.seedOrderlessRow.func = some 12 by kernel_rfl).symm.trans hf) |>.symm
      obtain rfl : fn = f12 := (Option.some.inj (func12.symm.trans hfn)).symm
      exact ⟨by kernel_rfl, fun j t ht => by
        have hall : (f12.params.toList.all fun t => !prog.wantsStandIn t) = true := by kernel_rfl
        have := List.all_eq_true.1 hall t (List.mem_of_getElem? (by rw [Array.getElem?_toList]; exact ht))
        exact (by simpa using this : prog.wantsStandIn t = false)⟩)
    (by kernel_rfl)
#print axioms seedOrderless_proved
end Go.Proofs.YtdghdcclhnoigaaGreatDoor

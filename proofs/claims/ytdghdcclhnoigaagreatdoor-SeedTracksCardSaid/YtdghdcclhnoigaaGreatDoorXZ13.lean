/- The statement SeedTracks: for every argument, on every order, the call returns true. No condition. -/
import Derived.Test.YtdghdcclhnoigaaGreatDoorXTryzW
import Derived.Test.YtdghdcclhnoigaaGreatDoorXTryzL13
set_option maxRecDepth 100000
namespace Go.Proofs.YtdghdcclhnoigaaGreatDoor
open Go Go.Sx Go.Proofs.Tryz
theorem seedTracks_row : Rows.SeedTracksSaid :=
  OpenClaim.holds_of_wide 13 f13 rfl rfl rfl rfl rfl rfl rfl ⟨rfl, rfl, rfl, rfl, rfl⟩ rfl rfl rfl rfl rfl (by kernel_rfl) func13 (by kernel_rfl)
    (of_decide_eq_true (by kernel_rfl)) (by unfold Func.isWrapper; rw [if_neg (of_decide_eq_false (by kernel_rfl))]; exact ⟨rfl, rfl⟩)
    (fun os started H enc _ => law_lifted (s := Rows.seedTracksSpec) (tb := 4) #[.slice none 0 0, .int .i64 0, .int .i64 0] os started H enc (by kernel_rfl) func13 (by kernel_rfl) (by kernel_rfl) (by kernel_rfl) (by kernel_rfl) (by kernel_rfl)
      (by kernel_rfl) (by kernel_rfl) (by kernel_rfl) (by kernel_rfl) rfl (fun ds h => by
        match ds, h with
        | [d1, d2, d3], _ => rfl) pc13_ok (fun a _ => ⟨400, law13 a⟩))
theorem seedTracks_proved : Rows.SeedTracksCardSaid :=
  Claim7.holds_tied_plain_at .later [] [.data, .data, .data] true Rows.seedTracksCard.stood.harness false
    seedTracks_row (fun _ h => by cases h) (by kernel_rfl) (fun _ h => by cases h) seedTracks_row_tie rfl ⟨rfl, rfl⟩ (by kernel_rfl) rfl
    (fun f fn hf hfn => by
      obtain rfl : f = 13 := Option.some.inj ((show prog.funcNamed Rows.seedTracksRow.func = some 13 by kernel_rfl).symm.trans hf) |>.symm
      obtain rfl : fn = f13 := (Option.some.inj (func13.symm.trans hfn)).symm
      exact ⟨by kernel_rfl, fun j t ht => by
        have hall : (f13.params.toList.all fun t => !prog.wantsStandIn t) = true := by kernel_rfl
        have := List.all_eq_true.1 hall t (List.mem_of_getElem? (by rw [Array.getElem?_toList]; exact ht))
        exact (by simpa using this : prog.wantsStandIn t = false)⟩)
    (by kernel_rfl)
#print axioms seedTracks_proved
end Go.Proofs.YtdghdcclhnoigaaGreatDoor

/- The statement EntryLists: for every argument, on every order, the call returns true. No condition. -/
import Derived.Test.YtpkbmngnolhopaaGreatDoorXTeCx
import Derived.Test.YtpkbmngnolhopaaGreatDoorXTeA
set_option maxRecDepth 100000
set_option maxHeartbeats 100000000
namespace Go.Proofs.YtpkbmngnolhopaaGreatDoor
open Go Go.Sx Go.Proofs.Tryz
def args13:Array Value := #[.agg #[.int .i64 0,.int .i64 0,.int .i64 0,.int .i64 0,.slice none 0 0],.agg #[.slice none 0 0,.slice none 0 0,.slice none 0 0,.slice none 0 0,.slice none 0 0],.string ByteArray.empty]
theorem z13_named:prog.funcNamed Rows.entryListsRow.func = some 13 := by kernel_rfl
theorem z13_joined:joinedFacts prog 13 f13 Rows.entryListsSpec Rows.entryListsRow = true := by
 unfold joinedFacts
 repeat' with_reducible refine Bool.and_eq_true_iff.2 ⟨?_,?_⟩
 all_goals as_aux_lemma=>kernel_rfl
theorem z13_inst:decide (Func.isInstance prog f13 Rows.entryListsRow.origin Rows.entryListsRow.targs) = true := by kernel_rfl
theorem z13_pack:decide (Check.packageOf f13.name = "main") = false := by kernel_rfl
theorem z13_init:prog.inits.idxOf? 13 = none := by kernel_rfl
theorem z13_vars (os:Os):((laidWorld os).forCall (fun _ _=>0) ⟨#[],args13,[]⟩).variablesB prog = true := by kernel_rfl
theorem z13_rest (os:Os):((((laidWorld os).forCall (fun _ _=>0) ⟨#[],args13,[]⟩).heap.toList.drop prog.globals.size).take ((begin prog (fun _ _=>0) default).world.heap.size - prog.globals.size) =
   (begin prog (fun _ _=>0) default).world.heap.toList.drop prog.globals.size) := by kernel_rfl
theorem z13_ok (os:Os):Input.okWideB prog ((laidWorld os).forCall (fun _ _=>0) ⟨#[],args13,[]⟩) 13 ⟨#[],args13,[]⟩ = true := by kernel_rfl
theorem z13_pre (os:Os) (H:Type) (enc:TypeId × Value → H):Rows.entryListsSpec.preB enc prog f13 [] false ((laidWorld os).forCall (fun _ _=>0) ⟨#[],args13,[]⟩).memory args13 8 = true := by kernel_rfl
theorem z13_siz (os:Os) (H:Type) (enc:TypeId × Value → H):Rows.entryListsSpec.sizedB enc prog f13 false ((laidWorld os).forCall (fun _ _=>0) ⟨#[],args13,[]⟩).memory args13 8 = true := by kernel_rfl
theorem z13_par:(f13.params.toList.all fun t=>prog.readableRec t && decide (t < prog.types.size)) = true := by kernel_rfl
theorem z13_aty:atysK prog f13.params.toList = some (pc13 0).ats := by kernel_rfl
theorem z13_res:f13.resultTypes = #[4] := by kernel_rfl
theorem z13_bool:prog.underlying 4 = some .bool := by kernel_rfl
theorem entryLists_row:Rows.EntryListsSaid :=
 OpenClaim.holds_of_wide 13 f13 rfl rfl rfl rfl rfl rfl rfl ⟨rfl,rfl,rfl,rfl,rfl⟩ rfl rfl rfl rfl rfl z13_named func13 z13_joined
  (of_decide_eq_true z13_inst) (by unfold Func.isWrapper; rw [if_neg (of_decide_eq_false z13_pack)]; exact ⟨rfl,rfl⟩)
  (fun os started H enc _=>law_lifted (s := Rows.entryListsSpec) (tb := 4) args13 os started H enc z13_init func13 (z13_vars os) (z13_rest os) (z13_ok os) (z13_pre os H enc)
   (z13_siz os H enc) z13_par z13_aty z13_res z13_bool rfl (fun ds h=>by
    match ds,h with
    | [d1,d2,d3],_=>rfl) pc13_ok law13)
theorem z13_text:OpenClaim.wfByText (OpenSpec.ofChange Rows.entryListsSpec) Rows.entryListsRow = true := by kernel_rfl
theorem z13_main:prog.mainIs = some (Rows.entryListsCard.stood.harness.fst,Rows.entryListsCard.stood.harness.snd.toList) := by kernel_rfl
theorem z13_looks:false = prog.looks [] := by kernel_rfl
theorem z13_stand:(f13.params.toList.all fun t=>!prog.wantsStandIn t) = true := by kernel_rfl
theorem z13_goes:false = Rows.entryListsRow.goesBy prog := by kernel_rfl
theorem entryLists_proved:Rows.EntryListsCardSaid :=
 Claim7.holds_tied_plain_at .later [] [.data,.data,.data] true Rows.entryListsCard.stood.harness false
  entryLists_row (fun _ h=>by cases h) z13_text (fun _ h=>by cases h) entryLists_row_tie rfl ⟨rfl,rfl⟩ z13_main rfl
  (fun f fn hf hfn=>by
   obtain rfl:f = 13 := Option.some.inj (z13_named.symm.trans hf) |>.symm
   obtain rfl:fn = f13 := (Option.some.inj (func13.symm.trans hfn)).symm
   exact ⟨z13_looks,fun j t ht=>by
    have := List.all_eq_true.1 z13_stand t (List.mem_of_getElem? (by rw [Array.getElem?_toList]; exact ht))
    exact (by simpa using this:prog.wantsStandIn t = false)⟩)
  z13_goes
#print axioms entryLists_proved
end Go.Proofs.YtpkbmngnolhopaaGreatDoor

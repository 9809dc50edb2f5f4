/- The statement EntryViews: for every argument, on every order, the call returns true. No condition. -/
import Derived.Test.YtpkbmngnolhopaaGreatDoorXTeW
import Derived.Test.YtpkbmngnolhopaaGreatDoorXTeW3
set_option maxRecDepth 100000
set_option maxHeartbeats 100000000
namespace Go.Proofs.YtpkbmngnolhopaaGreatDoor
open Go Go.Sx Go.Proofs.Tryz
def args5:Array Value := #[.agg #[.int .i64 0,.int .i64 0,.int .i64 0,.int .i64 0,.slice none 0 0],.agg #[.slice none 0 0,.slice none 0 0,.slice none 0 0,.slice none 0 0,.slice none 0 0],.string ByteArray.empty]
theorem z5_named:prog.funcNamed Rows.entryViewsRow.func = some 5 := by kernel_rfl
theorem z5_joined:joinedFacts prog 5 f5 Rows.entryViewsSpec Rows.entryViewsRow = true := by
 unfold joinedFacts
 repeat' with_reducible refine Bool.and_eq_true_iff.2 ⟨?_,?_⟩
 all_goals as_aux_lemma=>kernel_rfl
theorem z5_inst:decide (Func.isInstance prog f5 Rows.entryViewsRow.origin Rows.entryViewsRow.targs) = true := by kernel_rfl
theorem z5_pack:decide (Check.packageOf f5.name = "main") = false := by kernel_rfl
theorem z5_init:prog.inits.idxOf? 5 = none := by kernel_rfl
theorem z5_vars (os:Os):((laidWorld os).forCall (fun _ _=>0) ⟨#[],args5,[]⟩).variablesB prog = true := by kernel_rfl
theorem z5_rest (os:Os):((((laidWorld os).forCall (fun _ _=>0) ⟨#[],args5,[]⟩).heap.toList.drop prog.globals.size).take ((begin prog (fun _ _=>0) default).world.heap.size - prog.globals.size) =
   (begin prog (fun _ _=>0) default).world.heap.toList.drop prog.globals.size) := by kernel_rfl
theorem z5_ok (os:Os):Input.okWideB prog ((laidWorld os).forCall (fun _ _=>0) ⟨#[],args5,[]⟩) 5 ⟨#[],args5,[]⟩ = true := by kernel_rfl
theorem z5_pre (os:Os) (H:Type) (enc:TypeId × Value → H):Rows.entryViewsSpec.preB enc prog f5 [] false ((laidWorld os).forCall (fun _ _=>0) ⟨#[],args5,[]⟩).memory args5 8 = true := by kernel_rfl
theorem z5_siz (os:Os) (H:Type) (enc:TypeId × Value → H):Rows.entryViewsSpec.sizedB enc prog f5 false ((laidWorld os).forCall (fun _ _=>0) ⟨#[],args5,[]⟩).memory args5 8 = true := by kernel_rfl
theorem z5_par:(f5.params.toList.all fun t=>prog.readableRec t && decide (t < prog.types.size)) = true := by kernel_rfl
theorem z5_aty:atysK prog f5.params.toList = some (pc5 0).ats := by kernel_rfl
theorem z5_res:f5.resultTypes = #[4] := by kernel_rfl
theorem z5_bool:prog.underlying 4 = some .bool := by kernel_rfl
theorem entryViews_row:Rows.EntryViewsSaid :=
 OpenClaim.holds_of_wide 5 f5 rfl rfl rfl rfl rfl rfl rfl ⟨rfl,rfl,rfl,rfl,rfl⟩ rfl rfl rfl rfl rfl z5_named func5 z5_joined
  (of_decide_eq_true z5_inst) (by unfold Func.isWrapper; rw [if_neg (of_decide_eq_false z5_pack)]; exact ⟨rfl,rfl⟩)
  (fun os started H enc _=>law_lifted (s := Rows.entryViewsSpec) (tb := 4) args5 os started H enc z5_init func5 (z5_vars os) (z5_rest os) (z5_ok os) (z5_pre os H enc)
   (z5_siz os H enc) z5_par z5_aty z5_res z5_bool rfl (fun ds h=>by
    match ds,h with
    | [d1,d2,d3],_=>rfl) pc5_ok law5)
theorem z5_text:OpenClaim.wfByText (OpenSpec.ofChange Rows.entryViewsSpec) Rows.entryViewsRow = true := by kernel_rfl
theorem z5_main:prog.mainIs = some (Rows.entryViewsCard.stood.harness.fst,Rows.entryViewsCard.stood.harness.snd.toList) := by kernel_rfl
theorem z5_looks:false = prog.looks [] := by kernel_rfl
theorem z5_stand:(f5.params.toList.all fun t=>!prog.wantsStandIn t) = true := by kernel_rfl
theorem z5_goes:false = Rows.entryViewsRow.goesBy prog := by kernel_rfl
theorem entryViews_proved:Rows.EntryViewsCardSaid :=
 Claim7.holds_tied_plain_at .later [] [.data,.data,.data] true Rows.entryViewsCard.stood.harness false
  entryViews_row (fun _ h=>by cases h) z5_text (fun _ h=>by cases h) entryViews_row_tie rfl ⟨rfl,rfl⟩ z5_main rfl
  (fun f fn hf hfn=>by
   obtain rfl:f = 5 := Option.some.inj (z5_named.symm.trans hf) |>.symm
   obtain rfl:fn = f5 := (Option.some.inj (func5.symm.trans hfn)).symm
   exact ⟨z5_looks,fun j t ht=>by
    have := List.all_eq_true.1 z5_stand t (List.mem_of_getElem? (by rw [Array.getElem?_toList]; exact ht))
    exact (by simpa using this:prog.wantsStandIn t = false)⟩)
  z5_goes
#print axioms entryViews_proved
end Go.Proofs.YtpkbmngnolhopaaGreatDoor

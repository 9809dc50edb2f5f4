/- The statement EntryForms: for every argument, on every order, the call returns true. No condition. -/
import Derived.Test.YtpkbmngnolhopaaGreatDoorXTeCx
import Derived.Test.YtpkbmngnolhopaaGreatDoorXTeA
set_option maxRecDepth 100000
set_option maxHeartbeats 100000000
namespace Go.Proofs.YtpkbmngnolhopaaGreatDoor
open Go Go.Sx Go.Proofs.Tryz
def args3:Array Value := #[.agg #[.int .i64 0,.int .i64 0,.int .i64 0,.int .i64 0,.slice none 0 0],.agg #[.slice none 0 0,.slice none 0 0,.slice none 0 0,.slice none 0 0,.slice none 0 0],.agg #[.int .i64 0,.string ByteArray.empty,.string ByteArray.empty,.string ByteArray.empty,.string ByteArray.empty,.string ByteArray.empty,.int .i64 0,.int .i64 0,.string ByteArray.empty,.int .i64 0,.string ByteArray.empty,.slice none 0 0]]
theorem z3_named:prog.funcNamed Rows.entryFormsRow.func = some 3 := by kernel_rfl
theorem z3_joined:joinedFacts prog 3 f3 Rows.entryFormsSpec Rows.entryFormsRow = true := by
 unfold joinedFacts
 repeat' with_reducible refine Bool.and_eq_true_iff.2 ⟨?_,?_⟩
 all_goals as_aux_lemma=>kernel_rfl
theorem z3_inst:decide (Func.isInstance prog f3 Rows.entryFormsRow.origin Rows.entryFormsRow.targs) = true := by kernel_rfl
theorem z3_pack:decide (Check.packageOf f3.name = "main") = false := by kernel_rfl
theorem z3_init:prog.inits.idxOf? 3 = none := by kernel_rfl
theorem z3_vars (os:Os):((laidWorld os).forCall (fun _ _=>0) ⟨#[],args3,[]⟩).variablesB prog = true := by kernel_rfl
theorem z3_rest (os:Os):((((laidWorld os).forCall (fun _ _=>0) ⟨#[],args3,[]⟩).heap.toList.drop prog.globals.size).take ((begin prog (fun _ _=>0) default).world.heap.size - prog.globals.size) =
   (begin prog (fun _ _=>0) default).world.heap.toList.drop prog.globals.size) := by kernel_rfl
theorem z3_ok (os:Os):Input.okWideB prog ((laidWorld os).forCall (fun _ _=>0) ⟨#[],args3,[]⟩) 3 ⟨#[],args3,[]⟩ = true := by kernel_rfl
theorem z3_pre (os:Os) (H:Type) (enc:TypeId × Value → H):Rows.entryFormsSpec.preB enc prog f3 [] false ((laidWorld os).forCall (fun _ _=>0) ⟨#[],args3,[]⟩).memory args3 8 = true := by kernel_rfl
theorem z3_siz (os:Os) (H:Type) (enc:TypeId × Value → H):Rows.entryFormsSpec.sizedB enc prog f3 false ((laidWorld os).forCall (fun _ _=>0) ⟨#[],args3,[]⟩).memory args3 8 = true := by kernel_rfl
theorem z3_par:(f3.params.toList.all fun t=>prog.readableRec t && decide (t < prog.types.size)) = true := by kernel_rfl
theorem z3_aty:atysK prog f3.params.toList = some (pc3 0).ats := by kernel_rfl
theorem z3_res:f3.resultTypes = #[4] := by kernel_rfl
theorem z3_bool:prog.underlying 4 = some .bool := by kernel_rfl
theorem entryForms_row:Rows.EntryFormsSaid :=
 OpenClaim.holds_of_wide 3 f3 rfl rfl rfl rfl rfl rfl rfl ⟨rfl,rfl,rfl,rfl,rfl⟩ rfl rfl rfl rfl rfl z3_named func3 z3_joined
  (of_decide_eq_true z3_inst) (by unfold Func.isWrapper; rw [if_neg (of_decide_eq_false z3_pack)]; exact ⟨rfl,rfl⟩)
  (fun os started H enc _=>law_lifted (s := Rows.entryFormsSpec) (tb := 4) args3 os started H enc z3_init func3 (z3_vars os) (z3_rest os) (z3_ok os) (z3_pre os H enc)
   (z3_siz os H enc) z3_par z3_aty z3_res z3_bool rfl (fun ds h=>by
    match ds,h with
    | [d1,d2,d3],_=>rfl) pc3_ok law3)
theorem z3_text:OpenClaim.wfByText (OpenSpec.ofChange Rows.entryFormsSpec) Rows.entryFormsRow = true := by kernel_rfl
theorem z3_main:prog.mainIs = some (Rows.entryFormsCard.stood.harness.fst,Rows.entryFormsCard.stood.harness.snd.toList) := by kernel_rfl
theorem z3_looks:false = prog.looks [] := by kernel_rfl
theorem z3_stand:(f3.params.toList.all fun t=>!prog.wantsStandIn t) = true := by kernel_rfl
theorem z3_goes:false = Rows.entryFormsRow.goesBy prog := by kernel_rfl
theorem entryForms_proved:Rows.EntryFormsCardSaid :=
 Claim7.holds_tied_plain_at .later [] [.data,.data,.data] true Rows.entryFormsCard.stood.harness false
  entryForms_row (fun _ h=>by cases h) z3_text (fun _ h=>by cases h) entryForms_row_tie rfl ⟨rfl,rfl⟩ z3_main rfl
  (fun f fn hf hfn=>by
   obtain rfl:f = 3 := Option.some.inj (z3_named.symm.trans hf) |>.symm
   obtain rfl:fn = f3 := (Option.some.inj (func3.symm.trans hfn)).symm
   exact ⟨z3_looks,fun j t ht=>by
    have := List.all_eq_true.1 z3_stand t (List.mem_of_getElem? (by rw [Array.getElem?_toList]; exact ht))
    exact (by simpa using this:prog.wantsStandIn t = false)⟩)
  z3_goes
#print axioms entryForms_proved
end Go.Proofs.YtpkbmngnolhopaaGreatDoor

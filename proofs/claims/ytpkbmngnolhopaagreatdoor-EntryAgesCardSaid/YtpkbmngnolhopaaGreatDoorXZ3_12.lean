/- The statement EntryAges: for every argument, on every order, the call returns true. No condition. -/
import Derived.Test.YtpkbmngnolhopaaGreatDoorXTeW
import Derived.Test.YtpkbmngnolhopaaGreatDoorXTeW3
set_option maxRecDepth 100000
namespace Go.Proofs.YtpkbmngnolhopaaGreatDoor
open Go Go.Sx Go.Proofs.Tryz
def args12:Array Value := #[.agg #[.string ByteArray.empty,.string ByteArray.empty,.int .i64 0,.string ByteArray.empty],.slice none 0 0,.int .i64 0]
theorem z12_named:prog.funcNamed Rows.entryAgesRow.func = some 12 := by kernel_rfl
theorem z12_joined:joinedFacts prog 12 f12 Rows.entryAgesSpec Rows.entryAgesRow = true := by kernel_rfl
theorem z12_inst:decide (Func.isInstance prog f12 Rows.entryAgesRow.origin Rows.entryAgesRow.targs) = true := by kernel_rfl
theorem z12_pack:decide (Check.packageOf f12.name = "main") = false := by kernel_rfl
theorem z12_init:prog.inits.idxOf? 12 = none := by kernel_rfl
theorem z12_vars (os:Os):((laidWorld os).forCall (fun _ _=>0) ⟨#[],args12,[]⟩).variablesB prog = true := by kernel_rfl
theorem z12_rest (os:Os):((((laidWorld os).forCall (fun _ _=>0) ⟨#[],args12,[]⟩).heap.toList.drop prog.globals.size).take ((begin prog (fun _ _=>0) default).world.heap.size - prog.globals.size) =
   (begin prog (fun _ _=>0) default).world.heap.toList.drop prog.globals.size) := by kernel_rfl
theorem z12_ok (os:Os):Input.okWideB prog ((laidWorld os).forCall (fun _ _=>0) ⟨#[],args12,[]⟩) 12 ⟨#[],args12,[]⟩ = true := by kernel_rfl
theorem z12_pre (os:Os) (H:Type) (enc:TypeId × Value → H):Rows.entryAgesSpec.preB enc prog f12 [] false ((laidWorld os).forCall (fun _ _=>0) ⟨#[],args12,[]⟩).memory args12 8 = true := by kernel_rfl
theorem z12_siz (os:Os) (H:Type) (enc:TypeId × Value → H):Rows.entryAgesSpec.sizedB enc prog f12 false ((laidWorld os).forCall (fun _ _=>0) ⟨#[],args12,[]⟩).memory args12 8 = true := by kernel_rfl
theorem z12_par:(f12.params.toList.all fun t=>prog.readableRec t && decide (t < prog.types.size)) = true := by kernel_rfl
theorem z12_aty:atysK prog f12.params.toList = some (pc12 0).ats := by kernel_rfl
theorem z12_res:f12.resultTypes = #[4] := by kernel_rfl
theorem z12_bool:prog.underlying 4 = some .bool := by kernel_rfl
theorem entryAges_row:Rows.EntryAgesSaid :=
 OpenClaim.holds_of_wide 12 f12 rfl rfl rfl rfl rfl rfl rfl ⟨rfl,rfl,rfl,rfl,rfl⟩ rfl rfl rfl rfl rfl z12_named func12 z12_joined
  (of_decide_eq_true z12_inst) (by unfold Func.isWrapper; rw [if_neg (of_decide_eq_false z12_pack)]; exact ⟨rfl,rfl⟩)
  (fun os started H enc _=>law_lifted (s := Rows.entryAgesSpec) (tb := 4) args12 os started H enc z12_init func12 (z12_vars os) (z12_rest os) (z12_ok os) (z12_pre os H enc)
   (z12_siz os H enc) z12_par z12_aty z12_res z12_bool rfl (fun ds h=>by
    match ds,h with
    | [d1,d2,d3],_=>rfl) pc12_ok law12)
theorem z12_text:OpenClaim.wfByText (OpenSpec.ofChange Rows.entryAgesSpec) Rows.entryAgesRow = true := by kernel_rfl
theorem z12_main:prog.mainIs = some (Rows.entryAgesCard.stood.harness.fst,Rows.entryAgesCard.stood.harness.snd.toList) := by kernel_rfl
theorem z12_looks:false = prog.looks [] := by kernel_rfl
theorem z12_stand:(f12.params.toList.all fun t=>!prog.wantsStandIn t) = true := by kernel_rfl
theorem z12_goes:false = Rows.entryAgesRow.goesBy prog := by kernel_rfl
theorem entryAges_proved:Rows.EntryAgesCardSaid :=
 Claim7.holds_tied_plain_at .later [] [.data,.data,.data] true Rows.entryAgesCard.stood.harness false
  entryAges_row (fun _ h=>by cases h) z12_text (fun _ h=>by cases h) entryAges_row_tie rfl ⟨rfl,rfl⟩ z12_main rfl
  (fun f fn hf hfn=>by
   obtain rfl:f = 12 := Option.some.inj (z12_named.symm.trans hf) |>.symm
   obtain rfl:fn = f12 := (Option.some.inj (func12.symm.trans hfn)).symm
   exact ⟨z12_looks,fun j t ht=>by
    have := List.all_eq_true.1 z12_stand t (List.mem_of_getElem? (by rw [Array.getElem?_toList]; exact ht))
    exact (by simpa using this:prog.wantsStandIn t = false)⟩)
  z12_goes
#print axioms entryAges_proved
end Go.Proofs.YtpkbmngnolhopaaGreatDoor

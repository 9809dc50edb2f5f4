/- The statement EntrySteps: for every argument, on every order, the call returns true. No condition. -/
import Derived.Test.YtpkbmngnolhopaaGreatDoorXTeCx
import Derived.Test.YtpkbmngnolhopaaGreatDoorXL7
set_option maxRecDepth 100000
set_option maxHeartbeats 100000000
namespace Go.Proofs.YtpkbmngnolhopaaGreatDoor
open Go Go.Sx Go.Proofs.Tryz
def Qbr:Array Value:= #[.agg #[.int .i64 0,.int .i64 0,.int .i64 0,.int .i64 0,.slice none 0 0],.slice none 0 0]
theorem Zlq:prog.funcNamed Rows.entryStepsRow.func=some 7:=by kernel_rfl
theorem Ymr:joinedFacts prog 7 f7 Rows.entryStepsSpec Rows.entryStepsRow=true:=by
 unfold joinedFacts
 repeat' with_reducible refine Bool.and_eq_true_iff.2 ⟨?_,?_⟩
 all_goals as_aux_lemma=>kernel_rfl
theorem Yi1:decide (Func.isInstance prog f7 Rows.entryStepsRow.origin Rows.entryStepsRow.targs)=true:=by kernel_rfl
theorem Yma:decide (Check.packageOf f7.name= "main")=false:=by kernel_rfl
theorem Ygq:prog.inits.idxOf? 7=none:=by kernel_rfl
theorem Ztf(os:Os):((Ul os).forCall (fun _ _=>0) ⟨#[],Qbr,[]⟩).variablesB prog=true:=by kernel_rfl
theorem Zst(os:Os):((((Ul os).forCall (fun _ _=>0) ⟨#[],Qbr,[]⟩).heap.toList.drop prog.globals.size).take ((begin prog (fun _ _=>0) default).world.heap.size-prog.globals.size)=
   (begin prog (fun _ _=>0) default).world.heap.toList.drop prog.globals.size):=by kernel_rfl
theorem Yea(os:Os):Input.okWideB prog ((Ul os).forCall (fun _ _=>0) ⟨#[],Qbr,[]⟩) 7 ⟨#[],Qbr,[]⟩=true:=by kernel_rfl
theorem Zv0(os:Os)(H:Type)(enc:TypeId×Value->H):Rows.entryStepsSpec.preB enc prog f7 [] false ((Ul os).forCall (fun _ _=>0) ⟨#[],Qbr,[]⟩).memory Qbr 8=true:=by kernel_rfl
theorem Ybh(os:Os)(H:Type)(enc:TypeId×Value->H):Rows.entryStepsSpec.sizedB enc prog f7 false ((Ul os).forCall (fun _ _=>0) ⟨#[],Qbr,[]⟩).memory Qbr 8=true:=by kernel_rfl
theorem Yib:(f7.params.toList.all fun t=>prog.readableRec t&&decide (t<prog.types.size))=true:=by kernel_rfl
theorem Zot:Qg7 prog f7.params.toList=some (pc7 0).ats:=by kernel_rfl
theorem Zxa:f7.resultTypes= #[4]:=by kernel_rfl
theorem Zop:prog.underlying 4=some .bool:=by kernel_rfl
theorem Yp5:Rows.EntryStepsSaid:=
 OpenClaim.holds_of_wide 7 f7 rfl rfl rfl rfl rfl rfl rfl ⟨rfl,rfl,rfl,rfl,rfl⟩ rfl rfl rfl rfl rfl Zlq func7 Ymr
  (of_decide_eq_true Yi1) (by unfold Func.isWrapper;rw[if_neg (of_decide_eq_false Yma)];exact⟨rfl,rfl⟩)
  (fun os started H enc _=>Yon (s := Rows.entryStepsSpec) (tb := 4) Qbr os started H enc Ygq func7 (Ztf os) (Zst os) (Yea os) (Zv0 os H enc)
   (Ybh os H enc) Yib Zot Zxa Zop rfl (fun ds h=>by
    match ds,h with
    |[d1,d2],_=>rfl) Zz9 Zs7)
theorem Ye8:OpenClaim.wfByText (OpenSpec.ofChange Rows.entryStepsSpec) Rows.entryStepsRow=true:=by kernel_rfl
theorem Yck:prog.mainIs=some (Rows.entryStepsCard.stood.harness.fst,Rows.entryStepsCard.stood.harness.snd.toList):=by kernel_rfl
theorem Ztu:false=prog.looks []:=by kernel_rfl
theorem Zt2:(f7.params.toList.all fun t=>!prog.wantsStandIn t)=true:=by kernel_rfl
theorem Yc3:false=Rows.entryStepsRow.goesBy prog:=by kernel_rfl
theorem entrySteps_proved:Rows.EntryStepsCardSaid:=
 Claim7.holds_tied_plain_at .later [] [.data,.data,.data] true Rows.entryStepsCard.stood.harness false
  Yp5 (fun _ h=>by cases h) Ye8 (fun _ h=>by cases h) entrySteps_row_tie rfl ⟨rfl,rfl⟩ Yck rfl
  (fun f fn hf hfn=>by obtain rfl:f=7:=Option.some.inj (Zlq.symm.trans hf) |>.symm;obtain rfl:fn=f7:=(Option.some.inj (func7.symm.trans hfn)).symm;exact⟨Ztu,fun j t ht=>by have:=List.all_eq_true.1 Zt2 t (List.mem_of_getElem? (by rw[Array.getElem?_toList];exact ht));exact(by simpa using this:prog.wantsStandIn t=false)⟩)
  Yc3
#print axioms entrySteps_proved
end Go.Proofs.YtpkbmngnolhopaaGreatDoor

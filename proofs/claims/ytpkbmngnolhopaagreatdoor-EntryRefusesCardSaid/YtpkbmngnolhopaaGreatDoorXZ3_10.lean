/- The statement EntryRefuses: for every argument, on every order, the call returns true. No condition. -/
import Derived.Test.YtpkbmngnolhopaaGreatDoorXTeCx
import Derived.Test.YtpkbmngnolhopaaGreatDoorXL10
set_option maxRecDepth 100000
set_option maxHeartbeats 100000000
namespace Go.Proofs.YtpkbmngnolhopaaGreatDoor
open Go Go.Sx Go.Proofs.Tryz
def Qcj:Array Value:= #[.agg #[.int .i64 0,.int .i64 0,.int .i64 0,.int .i64 0,.slice none 0 0],.slice none 0 0,.string ByteArray.empty]
theorem Za0:prog.funcNamed Rows.entryRefusesRow.func=some 10:=by kernel_rfl
theorem Yqq:joinedFacts prog 10 f10 Rows.entryRefusesSpec Rows.entryRefusesRow=true:=by
 unfold joinedFacts
 repeat' with_reducible refine Bool.and_eq_true_iff.2 ⟨?_,?_⟩
 all_goals as_aux_lemma=>kernel_rfl
theorem Ybu:decide (Func.isInstance prog f10 Rows.entryRefusesRow.origin Rows.entryRefusesRow.targs)=true:=by kernel_rfl
theorem Yfo:decide (Check.packageOf f10.name= "main")=false:=by kernel_rfl
theorem Ypu:prog.inits.idxOf? 10=none:=by kernel_rfl
theorem Zyd(os:Os):((Kq os).forCall (fun _ _=>0) ⟨#[],Qcj,[]⟩).variablesB prog=true:=by kernel_rfl
theorem Yi5(os:Os):((((Kq os).forCall (fun _ _=>0) ⟨#[],Qcj,[]⟩).heap.toList.drop prog.globals.size).take ((begin prog (fun _ _=>0) default).world.heap.size-prog.globals.size)=
   (begin prog (fun _ _=>0) default).world.heap.toList.drop prog.globals.size):=by kernel_rfl
theorem Ynb(os:Os):Input.okWideB prog ((Kq os).forCall (fun _ _=>0) ⟨#[],Qcj,[]⟩) 10 ⟨#[],Qcj,[]⟩=true:=by kernel_rfl
theorem Zrq(os:Os)(H:Type)(enc:TypeId×Value->H):Rows.entryRefusesSpec.preB enc prog f10 [] false ((Kq os).forCall (fun _ _=>0) ⟨#[],Qcj,[]⟩).memory Qcj 8=true:=by kernel_rfl
theorem Zm0(os:Os)(H:Type)(enc:TypeId×Value->H):Rows.entryRefusesSpec.sizedB enc prog f10 false ((Kq os).forCall (fun _ _=>0) ⟨#[],Qcj,[]⟩).memory Qcj 8=true:=by kernel_rfl
theorem Ztw:(f10.params.toList.all fun t=>prog.readableRec t&&decide (t<prog.types.size))=true:=by kernel_rfl
theorem Zmm:Qey prog f10.params.toList=some (Zcl 0).ats:=by kernel_rfl
theorem Yfi:f10.resultTypes= #[4]:=by kernel_rfl
theorem Zmv:prog.underlying 4=some .bool:=by kernel_rfl
theorem Yk1:Rows.EntryRefusesSaid:=
 OpenClaim.holds_of_wide 10 f10 rfl rfl rfl rfl rfl rfl rfl ⟨rfl,rfl,rfl,rfl,rfl⟩ rfl rfl rfl rfl rfl Za0 func10 Yqq
  (of_decide_eq_true Ybu) (by unfold Func.isWrapper;rw[if_neg (of_decide_eq_false Yfo)];exact⟨rfl,rfl⟩)
  (fun os started H enc _=>Yom (s := Rows.entryRefusesSpec) (tb := 4) Qcj os started H enc Ypu func10 (Zyd os) (Yi5 os) (Ynb os) (Zrq os H enc)
   (Zm0 os H enc) Ztw Zmm Yfi Zmv rfl (fun ds h=>by
    match ds,h with
    |[d1,d2,d3],_=>rfl) Yif Ya5)
theorem Znd:OpenClaim.wfByText (OpenSpec.ofChange Rows.entryRefusesSpec) Rows.entryRefusesRow=true:=by kernel_rfl
theorem Znr:prog.mainIs=some (Rows.entryRefusesCard.stood.harness.fst,Rows.entryRefusesCard.stood.harness.snd.toList):=by kernel_rfl
theorem Zql:false=prog.looks []:=by kernel_rfl
theorem Ycd:(f10.params.toList.all fun t=>!prog.wantsStandIn t)=true:=by kernel_rfl
theorem Zpu:false=Rows.entryRefusesRow.goesBy prog:=by kernel_rfl
theorem entryRefuses_proved:Rows.EntryRefusesCardSaid:=
 Claim7.holds_tied_plain_at .later [] [.data,.data,.data] true Rows.entryRefusesCard.stood.harness false
  Yk1 (fun _ h=>by cases h) Znd (fun _ h=>by cases h) entryRefuses_row_tie rfl ⟨rfl,rfl⟩ Znr rfl
  (fun f fn hf hfn=>by obtain rfl:f=10:=Option.some.inj (Za0.symm.trans hf) |>.symm;obtain rfl:fn=f10:=(Option.some.inj (func10.symm.trans hfn)).symm;exact⟨Zql,fun j t ht=>by have:=List.all_eq_true.1 Ycd t (List.mem_of_getElem? (by rw[Array.getElem?_toList];exact ht));exact(by simpa using this:prog.wantsStandIn t=false)⟩)
  Zpu
#print axioms entryRefuses_proved
end Go.Proofs.YtpkbmngnolhopaaGreatDoor

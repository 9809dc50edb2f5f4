/- The statement EntryDivides: for every argument, on every order, the call returns true. No condition. -/
import Derived.Test.YtpkbmngnolhopaaGreatDoorXTeCx
import Derived.Test.YtpkbmngnolhopaaGreatDoorXL9
set_option maxRecDepth 100000
set_option maxHeartbeats 100000000
namespace Go.Proofs.YtpkbmngnolhopaaGreatDoor
open Go Go.Sx Go.Proofs.Tryz
def Ue:Array Value:= #[.agg #[.int .i64 0,.int .i64 0,.int .i64 0,.int .i64 0,.slice none 0 0],.agg #[.slice none 0 0,.slice none 0 0,.slice none 0 0,.slice none 0 0,.slice none 0 0],.string ByteArray.empty]
theorem Zb3:prog.funcNamed Rows.entryDividesRow.func=some 9:=by kernel_rfl
theorem Zvj:joinedFacts prog 9 f9 Rows.entryDividesSpec Rows.entryDividesRow=true:=by
 unfold joinedFacts
 repeat' with_reducible refine Bool.and_eq_true_iff.2 ⟨?_,?_⟩
 all_goals as_aux_lemma=>kernel_rfl
theorem Zig:decide (Func.isInstance prog f9 Rows.entryDividesRow.origin Rows.entryDividesRow.targs)=true:=by kernel_rfl
theorem Zx8:decide (Check.packageOf f9.name= "main")=false:=by kernel_rfl
theorem Zpz:prog.inits.idxOf? 9=none:=by kernel_rfl
theorem Zqo(os:Os):((Wo os).forCall (fun _ _=>0) ⟨#[],Ue,[]⟩).variablesB prog=true:=by kernel_rfl
theorem Zqd(os:Os):((((Wo os).forCall (fun _ _=>0) ⟨#[],Ue,[]⟩).heap.toList.drop prog.globals.size).take ((begin prog (fun _ _=>0) default).world.heap.size-prog.globals.size)=
   (begin prog (fun _ _=>0) default).world.heap.toList.drop prog.globals.size):=by kernel_rfl
theorem Zh4(os:Os):Input.okWideB prog ((Wo os).forCall (fun _ _=>0) ⟨#[],Ue,[]⟩) 9 ⟨#[],Ue,[]⟩=true:=by kernel_rfl
theorem Zyv(os:Os)(H:Type)(enc:TypeId×Value→H):Rows.entryDividesSpec.preB enc prog f9 [] false ((Wo os).forCall (fun _ _=>0) ⟨#[],Ue,[]⟩).memory Ue 8=true:=by kernel_rfl
theorem Zjd(os:Os)(H:Type)(enc:TypeId×Value→H):Rows.entryDividesSpec.sizedB enc prog f9 false ((Wo os).forCall (fun _ _=>0) ⟨#[],Ue,[]⟩).memory Ue 8=true:=by kernel_rfl
theorem Zv9:(f9.params.toList.all fun t=>prog.readableRec t&&decide (t<prog.types.size))=true:=by kernel_rfl
theorem Znj:Qbf prog f9.params.toList=some (pc9 0).ats:=by kernel_rfl
theorem Zeb:f9.resultTypes= #[4]:=by kernel_rfl
theorem Zvx:prog.underlying 4=some .bool:=by kernel_rfl
theorem Zdp:Rows.EntryDividesSaid:=
 OpenClaim.holds_of_wide 9 f9 rfl rfl rfl rfl rfl rfl rfl ⟨rfl,rfl,rfl,rfl,rfl⟩ rfl rfl rfl rfl rfl Zb3 func9 Zvj
  (of_decide_eq_true Zig) (by unfold Func.isWrapper;rw[if_neg (of_decide_eq_false Zx8)];exact⟨rfl,rfl⟩)
  (fun os started H enc _=>Zw2 (s := Rows.entryDividesSpec) (tb := 4) Ue os started H enc Zpz func9 (Zqo os) (Zqd os) (Zh4 os) (Zyv os H enc)
   (Zjd os H enc) Zv9 Znj Zeb Zvx rfl (fun ds h=>by
    match ds,h with
    |[d1,d2,d3],_=>rfl) Zmk Zyb)
theorem Zg0:OpenClaim.wfByText (OpenSpec.ofChange Rows.entryDividesSpec) Rows.entryDividesRow=true:=by kernel_rfl
theorem Zha:prog.mainIs=some (Rows.entryDividesCard.stood.harness.fst,Rows.entryDividesCard.stood.harness.snd.toList):=by kernel_rfl
theorem Zps:false=prog.looks []:=by kernel_rfl
theorem Zqe:(f9.params.toList.all fun t=>!prog.wantsStandIn t)=true:=by kernel_rfl
theorem Zwk:false=Rows.entryDividesRow.goesBy prog:=by kernel_rfl
theorem entryDivides_proved:Rows.EntryDividesCardSaid:=
 Claim7.holds_tied_plain_at .later [] [.data,.data,.data] true Rows.entryDividesCard.stood.harness false
  Zdp (fun _ h=>by cases h) Zg0 (fun _ h=>by cases h) entryDivides_row_tie rfl ⟨rfl,rfl⟩ Zha rfl
  (fun f fn hf hfn=>by obtain rfl:f=9:=Option.some.inj (Zb3.symm.trans hf) |>.symm;obtain rfl:fn=f9:=(Option.some.inj (func9.symm.trans hfn)).symm;exact⟨Zps,fun j t ht=>by have:=List.all_eq_true.1 Zqe t (List.mem_of_getElem? (by rw[Array.getElem?_toList];exact ht));exact(by simpa using this:prog.wantsStandIn t=false)⟩)
  Zwk
#print axioms entryDivides_proved
end Go.Proofs.YtpkbmngnolhopaaGreatDoor

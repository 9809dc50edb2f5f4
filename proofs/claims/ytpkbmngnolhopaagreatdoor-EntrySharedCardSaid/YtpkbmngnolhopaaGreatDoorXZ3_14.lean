/- The statement EntryShared: for every argument, on every order, the call returns true. No condition. -/
import Derived.Test.YtpkbmngnolhopaaGreatDoorXTeCx
import Derived.Test.YtpkbmngnolhopaaGreatDoorXL14
set_option maxRecDepth 100000
set_option maxHeartbeats 100000000
namespace Go.Proofs.YtpkbmngnolhopaaGreatDoor
open Go Go.Sx Go.Proofs.Tryz
def K5:Array Value:= #[.agg #[.int .i64 0,.int .i64 0,.int .i64 0,.int .i64 0,.slice none 0 0],.agg #[.slice none 0 0,.slice none 0 0,.slice none 0 0,.slice none 0 0,.slice none 0 0]]
theorem Qu8:prog.funcNamed Rows.entrySharedRow.func=some 14:=by kernel_rfl
theorem Zy4:joinedFacts prog 14 f14 Rows.entrySharedSpec Rows.entrySharedRow=true:=by
 unfold joinedFacts
 repeat' with_reducible refine Bool.and_eq_true_iff.2 ⟨?_,?_⟩
 all_goals as_aux_lemma=>kernel_rfl
theorem Zpm:decide (Func.isInstance prog f14 Rows.entrySharedRow.origin Rows.entrySharedRow.targs)=true:=by kernel_rfl
theorem Ze6:decide (Check.packageOf f14.name= "main")=false:=by kernel_rfl
theorem Zw3:prog.inits.idxOf? 14=none:=by kernel_rfl
theorem Zyd(os:Os):((Wr os).forCall (fun _ _=>0) ⟨#[],K5,[]⟩).variablesB prog=true:=by kernel_rfl
theorem Zsq(os:Os):((((Wr os).forCall (fun _ _=>0) ⟨#[],K5,[]⟩).heap.toList.drop prog.globals.size).take ((begin prog (fun _ _=>0) default).world.heap.size-prog.globals.size)=
   (begin prog (fun _ _=>0) default).world.heap.toList.drop prog.globals.size):=by kernel_rfl
theorem Zv8(os:Os):Input.okWideB prog ((Wr os).forCall (fun _ _=>0) ⟨#[],K5,[]⟩) 14 ⟨#[],K5,[]⟩=true:=by kernel_rfl
theorem Zkg(os:Os)(H:Type)(enc:TypeId×Value→H):Rows.entrySharedSpec.preB enc prog f14 [] false ((Wr os).forCall (fun _ _=>0) ⟨#[],K5,[]⟩).memory K5 8=true:=by kernel_rfl
theorem Zdn(os:Os)(H:Type)(enc:TypeId×Value→H):Rows.entrySharedSpec.sizedB enc prog f14 false ((Wr os).forCall (fun _ _=>0) ⟨#[],K5,[]⟩).memory K5 8=true:=by kernel_rfl
theorem Znj:(f14.params.toList.all fun t=>prog.readableRec t&&decide (t<prog.types.size))=true:=by kernel_rfl
theorem Zmk:Qbw prog f14.params.toList=some (Qs7 0).ats:=by kernel_rfl
theorem Zc2:f14.resultTypes= #[4]:=by kernel_rfl
theorem Ziz:prog.underlying 4=some .bool:=by kernel_rfl
theorem Zwp:Rows.EntrySharedSaid:=
 OpenClaim.holds_of_wide 14 f14 rfl rfl rfl rfl rfl rfl rfl ⟨rfl,rfl,rfl,rfl,rfl⟩ rfl rfl rfl rfl rfl Qu8 func14 Zy4
  (of_decide_eq_true Zpm) (by unfold Func.isWrapper;rw[if_neg (of_decide_eq_false Ze6)];exact⟨rfl,rfl⟩)
  (fun os started H enc _=>Zsd (s := Rows.entrySharedSpec) (tb := 4) K5 os started H enc Zw3 func14 (Zyd os) (Zsq os) (Zv8 os) (Zkg os H enc)
   (Zdn os H enc) Znj Zmk Zc2 Ziz rfl (fun ds h=>by
    match ds,h with
    |[d1,d2],_=>rfl) Zwm Zm9)
theorem Zzt:OpenClaim.wfByText (OpenSpec.ofChange Rows.entrySharedSpec) Rows.entrySharedRow=true:=by kernel_rfl
theorem Zd7:prog.mainIs=some (Rows.entrySharedCard.stood.harness.fst,Rows.entrySharedCard.stood.harness.snd.toList):=by kernel_rfl
theorem Zda:false=prog.looks []:=by kernel_rfl
theorem Zd6:(f14.params.toList.all fun t=>!prog.wantsStandIn t)=true:=by kernel_rfl
theorem Zlr:false=Rows.entrySharedRow.goesBy prog:=by kernel_rfl
theorem entryShared_proved:Rows.EntrySharedCardSaid:=
 Claim7.holds_tied_plain_at .later [] [.data,.data,.data] true Rows.entrySharedCard.stood.harness false
  Zwp (fun _ h=>by cases h) Zzt (fun _ h=>by cases h) entryShared_row_tie rfl ⟨rfl,rfl⟩ Zd7 rfl
  (fun f fn hf hfn=>by obtain rfl:f=14:=Option.some.inj (Qu8.symm.trans hf) |>.symm;obtain rfl:fn=f14:=(Option.some.inj (func14.symm.trans hfn)).symm;exact⟨Zda,fun j t ht=>by have:=List.all_eq_true.1 Zd6 t (List.mem_of_getElem? (by rw[Array.getElem?_toList];exact ht));exact(by simpa using this:prog.wantsStandIn t=false)⟩)
  Zlr
#print axioms entryShared_proved
end Go.Proofs.YtpkbmngnolhopaaGreatDoor

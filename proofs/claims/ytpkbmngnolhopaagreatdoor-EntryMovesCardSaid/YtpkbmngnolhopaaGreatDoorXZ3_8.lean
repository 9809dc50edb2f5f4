/- The statement EntryMoves: for every argument, on every order, the call returns true. No condition. -/
import Derived.Test.YtpkbmngnolhopaaGreatDoorXTeCx
import Derived.Test.YtpkbmngnolhopaaGreatDoorXTeL8
set_option maxRecDepth 100000
set_option maxHeartbeats 100000000
namespace Go.Proofs.YtpkbmngnolhopaaGreatDoor
open Go Go.Sx Go.Proofs.Tryz
def Qap:Array Value:= #[.agg #[.int .i64 0,.int .i64 0,.int .i64 0,.int .i64 0,.slice none 0 0],.agg #[.slice none 0 0,.slice none 0 0,.slice none 0 0,.slice none 0 0,.slice none 0 0],.int .u8 0]
theorem Zez:prog.funcNamed Rows.entryMovesRow.func=some 8:=by kernel_rfl
theorem Zwu:joinedFacts prog 8 f8 Rows.entryMovesSpec Rows.entryMovesRow=true:=by
 unfold joinedFacts
 repeat' with_reducible refine Bool.and_eq_true_iff.2 ⟨?_,?_⟩
 all_goals as_aux_lemma=>kernel_rfl
theorem Zu3:decide (Func.isInstance prog f8 Rows.entryMovesRow.origin Rows.entryMovesRow.targs)=true:=by kernel_rfl
theorem Yfh:decide (Check.packageOf f8.name= "main")=false:=by kernel_rfl
theorem Zq4:prog.inits.idxOf? 8=none:=by kernel_rfl
theorem Zqz(os:Os):((Vx os).forCall (fun _ _=>0) ⟨#[],Qap,[]⟩).variablesB prog=true:=by kernel_rfl
theorem Ybx(os:Os):((((Vx os).forCall (fun _ _=>0) ⟨#[],Qap,[]⟩).heap.toList.drop prog.globals.size).take ((begin prog (fun _ _=>0) default).world.heap.size-prog.globals.size)=
   (begin prog (fun _ _=>0) default).world.heap.toList.drop prog.globals.size):=by kernel_rfl
theorem Yew(os:Os):Input.okWideB prog ((Vx os).forCall (fun _ _=>0) ⟨#[],Qap,[]⟩) 8 ⟨#[],Qap,[]⟩=true:=by kernel_rfl
theorem Zjs(os:Os)(H:Type)(enc:TypeId×Value→H):Rows.entryMovesSpec.preB enc prog f8 [] false ((Vx os).forCall (fun _ _=>0) ⟨#[],Qap,[]⟩).memory Qap 8=true:=by kernel_rfl
theorem Zx1(os:Os)(H:Type)(enc:TypeId×Value→H):Rows.entryMovesSpec.sizedB enc prog f8 false ((Vx os).forCall (fun _ _=>0) ⟨#[],Qap,[]⟩).memory Qap 8=true:=by kernel_rfl
theorem Yki:(f8.params.toList.all fun t=>prog.readableRec t&&decide (t<prog.types.size))=true:=by kernel_rfl
theorem Zzw:Qdt prog f8.params.toList=some (pc8 0).ats:=by kernel_rfl
theorem Zmx:f8.resultTypes= #[4]:=by kernel_rfl
theorem Yh9:prog.underlying 4=some .bool:=by kernel_rfl
theorem Zo8:Rows.EntryMovesSaid:=
 OpenClaim.holds_of_wide 8 f8 rfl rfl rfl rfl rfl rfl rfl ⟨rfl,rfl,rfl,rfl,rfl⟩ rfl rfl rfl rfl rfl Zez func8 Zwu
  (of_decide_eq_true Zu3) (by unfold Func.isWrapper;rw[if_neg (of_decide_eq_false Yfh)];exact⟨rfl,rfl⟩)
  (fun os started H enc _=>Zpb (s := Rows.entryMovesSpec) (tb := 4) Qap os started H enc Zq4 func8 (Zqz os) (Ybx os) (Yew os) (Zjs os H enc)
   (Zx1 os H enc) Yki Zzw Zmx Yh9 rfl (fun ds h=>by
    match ds,h with
    |[d1,d2,d3],_=>rfl) Ygc Zq3)
theorem Zzs:OpenClaim.wfByText (OpenSpec.ofChange Rows.entryMovesSpec) Rows.entryMovesRow=true:=by kernel_rfl
theorem Zh6:prog.mainIs=some (Rows.entryMovesCard.stood.harness.fst,Rows.entryMovesCard.stood.harness.snd.toList):=by kernel_rfl
theorem Ybl:false=prog.looks []:=by kernel_rfl
theorem Zqa:(f8.params.toList.all fun t=>!prog.wantsStandIn t)=true:=by kernel_rfl
theorem Zqc:false=Rows.entryMovesRow.goesBy prog:=by kernel_rfl
theorem entryMoves_proved:Rows.EntryMovesCardSaid:=
 Claim7.holds_tied_plain_at .later [] [.data,.data,.data] true Rows.entryMovesCard.stood.harness false
  Zo8 (fun _ h=>by cases h) Zzs (fun _ h=>by cases h) entryMoves_row_tie rfl ⟨rfl,rfl⟩ Zh6 rfl
  (fun f fn hf hfn=>by obtain rfl:f=8:=Option.some.inj (Zez.symm.trans hf) |>.symm;obtain rfl:fn=f8:=(Option.some.inj (func8.symm.trans hfn)).symm;exact⟨Ybl,fun j t ht=>by have:=List.all_eq_true.1 Zqa t (List.mem_of_getElem? (by rw[Array.getElem?_toList];exact ht));exact(by simpa using this:prog.wantsStandIn t=false)⟩)
  Zqc
#print axioms entryMoves_proved
end Go.Proofs.YtpkbmngnolhopaaGreatDoor

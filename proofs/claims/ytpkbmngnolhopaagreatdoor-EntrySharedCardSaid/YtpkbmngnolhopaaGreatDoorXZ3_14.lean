/- The statement EntryShared: for every argument, on every order, the call returns true. No condition. -/
import Derived.Test.YtpkbmngnolhopaaGreatDoorXTeCx
import Derived.Test.YtpkbmngnolhopaaGreatDoorXL14
set_option maxRecDepth 100000
set_option maxHeartbeats 100000000
namespace Go.Proofs.YtpkbmngnolhopaaGreatDoor
open Go Go.Sx Go.Proofs.Tryz
def K5:Array Value:= #[.agg #[.int .i64 0,.int .i64 0,.int .i64 0,.int .i64 0,.slice none 0 0],.agg #[.slice none 0 0,.slice none 0 0,.slice none 0 0,.slice none 0 0,.slice none 0 0]]
theorem Qw8:prog.funcNamed Rows.entrySharedRow.func=some 14:=by kernel_rfl
theorem Zfk:joinedFacts prog 14 f14 Rows.entrySharedSpec Rows.entrySharedRow=true:=by
 unfold joinedFacts
 repeat' with_reducible refine Bool.and_eq_true_iff.2 ⟨?_,?_⟩
 all_goals as_aux_lemma=>kernel_rfl
theorem Zv1:decide (Func.isInstance prog f14 Rows.entrySharedRow.origin Rows.entrySharedRow.targs)=true:=by kernel_rfl
theorem Zoa:decide (Check.packageOf f14.name= "main")=false:=by kernel_rfl
theorem Zt3:prog.inits.idxOf? 14=none:=by kernel_rfl
theorem Zf7(os:Os):((Wm os).forCall (fun _ _=>0) ⟨#[],K5,[]⟩).variablesB prog=true:=by kernel_rfl
theorem Zvo(os:Os):((((Wm os).forCall (fun _ _=>0) ⟨#[],K5,[]⟩).heap.toList.drop prog.globals.size).take ((begin prog (fun _ _=>0) default).world.heap.size-prog.globals.size)=
   (begin prog (fun _ _=>0) default).world.heap.toList.drop prog.globals.size):=by kernel_rfl
theorem Zmq(os:Os):Input.okWideB prog ((Wm os).forCall (fun _ _=>0) ⟨#[],K5,[]⟩) 14 ⟨#[],K5,[]⟩=true:=by kernel_rfl
theorem Znv(os:Os)(H:Type)(enc:TypeId×Value→H):Rows.entrySharedSpec.preB enc prog f14 [] false ((Wm os).forCall (fun _ _=>0) ⟨#[],K5,[]⟩).memory K5 8=true:=by kernel_rfl
theorem Zs7(os:Os)(H:Type)(enc:TypeId×Value→H):Rows.entrySharedSpec.sizedB enc prog f14 false ((Wm os).forCall (fun _ _=>0) ⟨#[],K5,[]⟩).memory K5 8=true:=by kernel_rfl
theorem Yai:(f14.params.toList.all fun t=>prog.readableRec t&&decide (t<prog.types.size))=true:=by kernel_rfl
theorem Zjt:Qa1 prog f14.params.toList=some (Zb9 0).ats:=by kernel_rfl
theorem Zwr:f14.resultTypes= #[4]:=by kernel_rfl
theorem Zzj:prog.underlying 4=some .bool:=by kernel_rfl
theorem Zmk:Rows.EntrySharedSaid:=
 OpenClaim.holds_of_wide 14 f14 rfl rfl rfl rfl rfl rfl rfl ⟨rfl,rfl,rfl,rfl,rfl⟩ rfl rfl rfl rfl rfl Qw8 func14 Zfk
  (of_decide_eq_true Zv1) (by unfold Func.isWrapper;rw[if_neg (of_decide_eq_false Zoa)];exact⟨rfl,rfl⟩)
  (fun os started H enc _=>Zyl (s := Rows.entrySharedSpec) (tb := 4) K5 os started H enc Zt3 func14 (Zf7 os) (Zvo os) (Zmq os) (Znv os H enc)
   (Zs7 os H enc) Yai Zjt Zwr Zzj rfl (fun ds h=>by
    match ds,h with
    |[d1,d2],_=>rfl) Zum Zm6)
theorem Zjw:OpenClaim.wfByText (OpenSpec.ofChange Rows.entrySharedSpec) Rows.entrySharedRow=true:=by kernel_rfl
theorem Zmc:prog.mainIs=some (Rows.entrySharedCard.stood.harness.fst,Rows.entrySharedCard.stood.harness.snd.toList):=by kernel_rfl
theorem Zzu:false=prog.looks []:=by kernel_rfl
theorem Zjx:(f14.params.toList.all fun t=>!prog.wantsStandIn t)=true:=by kernel_rfl
theorem Zt4:false=Rows.entrySharedRow.goesBy prog:=by kernel_rfl
theorem entryShared_proved:Rows.EntrySharedCardSaid:=
 Claim7.holds_tied_plain_at .later [] [.data,.data,.data] true Rows.entrySharedCard.stood.harness false
  Zmk (fun _ h=>by cases h) Zjw (fun _ h=>by cases h) entryShared_row_tie rfl ⟨rfl,rfl⟩ Zmc rfl
  (fun f fn hf hfn=>by obtain rfl:f=14:=Option.some.inj (Qw8.symm.trans hf) |>.symm;obtain rfl:fn=f14:=(Option.some.inj (func14.symm.trans hfn)).symm;exact⟨Zzu,fun j t ht=>by have:=List.all_eq_true.1 Zjx t (List.mem_of_getElem? (by rw[Array.getElem?_toList];exact ht));exact(by simpa using this:prog.wantsStandIn t=false)⟩)
  Zt4
#print axioms entryShared_proved
end Go.Proofs.YtpkbmngnolhopaaGreatDoor

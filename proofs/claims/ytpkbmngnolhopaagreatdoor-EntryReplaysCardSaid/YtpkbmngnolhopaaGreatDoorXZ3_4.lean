/- The statement EntryReplays: for every argument, on every order, the call returns true. No condition. -/
import Derived.Test.YtpkbmngnolhopaaGreatDoorXTeCx
import Derived.Test.YtpkbmngnolhopaaGreatDoorXL4
set_option maxRecDepth 100000
set_option maxHeartbeats 100000000
namespace Go.Proofs.YtpkbmngnolhopaaGreatDoor
open Go Go.Sx Go.Proofs.Tryz
def Qai:Array Value:= #[.agg #[.int .i64 0,.int .i64 0,.int .i64 0,.int .i64 0,.slice none 0 0],.slice none 0 0]
theorem Zdq:prog.funcNamed Rows.entryReplaysRow.func=some 4:=by kernel_rfl
theorem Zqp:joinedFacts prog 4 f4 Rows.entryReplaysSpec Rows.entryReplaysRow=true:=by
 unfold joinedFacts
 repeat' with_reducible refine Bool.and_eq_true_iff.2 ⟨?_,?_⟩
 all_goals as_aux_lemma=>kernel_rfl
theorem Zyx:decide (Func.isInstance prog f4 Rows.entryReplaysRow.origin Rows.entryReplaysRow.targs)=true:=by kernel_rfl
theorem Ztb:decide (Check.packageOf f4.name= "main")=false:=by kernel_rfl
theorem Ybx:prog.inits.idxOf? 4=none:=by kernel_rfl
theorem Znp(os:Os):((Vm os).forCall (fun _ _=>0) ⟨#[],Qai,[]⟩).variablesB prog=true:=by kernel_rfl
theorem Zx1(os:Os):((((Vm os).forCall (fun _ _=>0) ⟨#[],Qai,[]⟩).heap.toList.drop prog.globals.size).take ((begin prog (fun _ _=>0) default).world.heap.size-prog.globals.size)=
   (begin prog (fun _ _=>0) default).world.heap.toList.drop prog.globals.size):=by kernel_rfl
theorem Ykv(os:Os):Input.okWideB prog ((Vm os).forCall (fun _ _=>0) ⟨#[],Qai,[]⟩) 4 ⟨#[],Qai,[]⟩=true:=by kernel_rfl
theorem Zzm(os:Os)(H:Type)(enc:TypeId×Value→H):Rows.entryReplaysSpec.preB enc prog f4 [] false ((Vm os).forCall (fun _ _=>0) ⟨#[],Qai,[]⟩).memory Qai 8=true:=by kernel_rfl
theorem Ygo(os:Os)(H:Type)(enc:TypeId×Value→H):Rows.entryReplaysSpec.sizedB enc prog f4 false ((Vm os).forCall (fun _ _=>0) ⟨#[],Qai,[]⟩).memory Qai 8=true:=by kernel_rfl
theorem Zy9:(f4.params.toList.all fun t=>prog.readableRec t&&decide (t<prog.types.size))=true:=by kernel_rfl
theorem Zn7:Qcy prog f4.params.toList=some (pc4 0).ats:=by kernel_rfl
theorem Ztr:f4.resultTypes= #[4]:=by kernel_rfl
theorem Zli:prog.underlying 4=some .bool:=by kernel_rfl
theorem Ygi:Rows.EntryReplaysSaid:=
 OpenClaim.holds_of_wide 4 f4 rfl rfl rfl rfl rfl rfl rfl ⟨rfl,rfl,rfl,rfl,rfl⟩ rfl rfl rfl rfl rfl Zdq func4 Zqp
  (of_decide_eq_true Zyx) (by unfold Func.isWrapper;rw[if_neg (of_decide_eq_false Ztb)];exact⟨rfl,rfl⟩)
  (fun os started H enc _=>Yce (s := Rows.entryReplaysSpec) (tb := 4) Qai os started H enc Ybx func4 (Znp os) (Zx1 os) (Ykv os) (Zzm os H enc)
   (Ygo os H enc) Zy9 Zn7 Ztr Zli rfl (fun ds h=>by
    match ds,h with
    |[d1,d2],_=>rfl) Zp5 Zuj)
theorem Ykd:OpenClaim.wfByText (OpenSpec.ofChange Rows.entryReplaysSpec) Rows.entryReplaysRow=true:=by kernel_rfl
theorem Zzp:prog.mainIs=some (Rows.entryReplaysCard.stood.harness.fst,Rows.entryReplaysCard.stood.harness.snd.toList):=by kernel_rfl
theorem Zpi:false=prog.looks []:=by kernel_rfl
theorem Zih:(f4.params.toList.all fun t=>!prog.wantsStandIn t)=true:=by kernel_rfl
theorem Zjs:false=Rows.entryReplaysRow.goesBy prog:=by kernel_rfl
theorem entryReplays_proved:Rows.EntryReplaysCardSaid:=
 Claim7.holds_tied_plain_at .later [] [.data,.data,.data] true Rows.entryReplaysCard.stood.harness false
  Ygi (fun _ h=>by cases h) Ykd (fun _ h=>by cases h) entryReplays_row_tie rfl ⟨rfl,rfl⟩ Zzp rfl
  (fun f fn hf hfn=>by obtain rfl:f=4:=Option.some.inj (Zdq.symm.trans hf) |>.symm;obtain rfl:fn=f4:=(Option.some.inj (func4.symm.trans hfn)).symm;exact⟨Zpi,fun j t ht=>by have:=List.all_eq_true.1 Zih t (List.mem_of_getElem? (by rw[Array.getElem?_toList];exact ht));exact(by simpa using this:prog.wantsStandIn t=false)⟩)
  Zjs
#print axioms entryReplays_proved
end Go.Proofs.YtpkbmngnolhopaaGreatDoor

/- The statement EntryActs: for every argument, on every order, the call returns true. No condition. -/
import Derived.Test.YtpkbmngnolhopaaGreatDoorXTeCx
import Derived.Test.YtpkbmngnolhopaaGreatDoorXTeL11
set_option maxRecDepth 100000
set_option maxHeartbeats 100000000
namespace Go.Proofs.YtpkbmngnolhopaaGreatDoor
open Go Go.Sx Go.Proofs.Tryz
def Qb7:Array Value:= #[.agg #[.int .i64 0,.int .i64 0,.int .i64 0,.int .i64 0,.slice none 0 0],.agg #[.slice none 0 0,.slice none 0 0,.slice none 0 0,.slice none 0 0,.slice none 0 0],.agg #[.int .i64 0,.string ByteArray.empty,.string ByteArray.empty,.string ByteArray.empty,.string ByteArray.empty,.string ByteArray.empty,.int .i64 0,.int .i64 0,.string ByteArray.empty,.int .i64 0,.string ByteArray.empty,.slice none 0 0]]
theorem Zb4:prog.funcNamed Rows.entryActsRow.func=some 11:=by kernel_rfl
theorem Zss:joinedFacts prog 11 f11 Rows.entryActsSpec Rows.entryActsRow=true:=by
 unfold joinedFacts
 repeat' with_reducible refine Bool.and_eq_true_iff.2 ⟨?_,?_⟩
 all_goals as_aux_lemma=>kernel_rfl
theorem Ztj:decide (Func.isInstance prog f11 Rows.entryActsRow.origin Rows.entryActsRow.targs)=true:=by kernel_rfl
theorem Zuc:decide (Check.packageOf f11.name= "main")=false:=by kernel_rfl
theorem Yey:prog.inits.idxOf? 11=none:=by kernel_rfl
theorem Ydo(os:Os):((K9 os).forCall (fun _ _=>0) ⟨#[],Qb7,[]⟩).variablesB prog=true:=by kernel_rfl
theorem Zzu(os:Os):((((K9 os).forCall (fun _ _=>0) ⟨#[],Qb7,[]⟩).heap.toList.drop prog.globals.size).take ((begin prog (fun _ _=>0) default).world.heap.size-prog.globals.size)=
   (begin prog (fun _ _=>0) default).world.heap.toList.drop prog.globals.size):=by kernel_rfl
theorem Zk4(os:Os):Input.okWideB prog ((K9 os).forCall (fun _ _=>0) ⟨#[],Qb7,[]⟩) 11 ⟨#[],Qb7,[]⟩=true:=by kernel_rfl
theorem Zt1(os:Os)(H:Type)(enc:TypeId×Value→H):Rows.entryActsSpec.preB enc prog f11 [] false ((K9 os).forCall (fun _ _=>0) ⟨#[],Qb7,[]⟩).memory Qb7 8=true:=by kernel_rfl
theorem Zzj(os:Os)(H:Type)(enc:TypeId×Value→H):Rows.entryActsSpec.sizedB enc prog f11 false ((K9 os).forCall (fun _ _=>0) ⟨#[],Qb7,[]⟩).memory Qb7 8=true:=by kernel_rfl
theorem Ygd:(f11.params.toList.all fun t=>prog.readableRec t&&decide (t<prog.types.size))=true:=by kernel_rfl
theorem Zt9:Qe3 prog f11.params.toList=some (Zgp 0).ats:=by kernel_rfl
theorem Ydm:f11.resultTypes= #[4]:=by kernel_rfl
theorem Ykz:prog.underlying 4=some .bool:=by kernel_rfl
theorem Zxw:Rows.EntryActsSaid:=
 OpenClaim.holds_of_wide 11 f11 rfl rfl rfl rfl rfl rfl rfl ⟨rfl,rfl,rfl,rfl,rfl⟩ rfl rfl rfl rfl rfl Zb4 func11 Zss
  (of_decide_eq_true Ztj) (by unfold Func.isWrapper;rw[if_neg (of_decide_eq_false Zuc)];exact⟨rfl,rfl⟩)
  (fun os started H enc _=>Ykp (s := Rows.entryActsSpec) (tb := 4) Qb7 os started H enc Yey func11 (Ydo os) (Zzu os) (Zk4 os) (Zt1 os H enc)
   (Zzj os H enc) Ygd Zt9 Ydm Ykz rfl (fun ds h=>by
    match ds,h with
    |[d1,d2,d3],_=>rfl) Zyx Zrx)
theorem Zvk:OpenClaim.wfByText (OpenSpec.ofChange Rows.entryActsSpec) Rows.entryActsRow=true:=by kernel_rfl
theorem Zsn:prog.mainIs=some (Rows.entryActsCard.stood.harness.fst,Rows.entryActsCard.stood.harness.snd.toList):=by kernel_rfl
theorem Yjo:false=prog.looks []:=by kernel_rfl
theorem Zyd:(f11.params.toList.all fun t=>!prog.wantsStandIn t)=true:=by kernel_rfl
theorem Yje:false=Rows.entryActsRow.goesBy prog:=by kernel_rfl
theorem entryActs_proved:Rows.EntryActsCardSaid:=
 Claim7.holds_tied_plain_at .later [] [.data,.data,.data] true Rows.entryActsCard.stood.harness false
  Zxw (fun _ h=>by cases h) Zvk (fun _ h=>by cases h) entryActs_row_tie rfl ⟨rfl,rfl⟩ Zsn rfl
  (fun f fn hf hfn=>by obtain rfl:f=11:=Option.some.inj (Zb4.symm.trans hf) |>.symm;obtain rfl:fn=f11:=(Option.some.inj (func11.symm.trans hfn)).symm;exact⟨Yjo,fun j t ht=>by have:=List.all_eq_true.1 Zyd t (List.mem_of_getElem? (by rw[Array.getElem?_toList];exact ht));exact(by simpa using this:prog.wantsStandIn t=false)⟩)
  Yje
#print axioms entryActs_proved
end Go.Proofs.YtpkbmngnolhopaaGreatDoor

/- The statement EntryChanges: for every argument, on every order, the call returns true. No condition. -/
import Derived.Test.YtpkbmngnolhopaaGreatDoorXTeCx
import Derived.Test.YtpkbmngnolhopaaGreatDoorXTeL6
set_option maxRecDepth 100000
set_option maxHeartbeats 100000000
namespace Go.Proofs.YtpkbmngnolhopaaGreatDoor
open Go Go.Sx Go.Proofs.Tryz
def Qb4:Array Value:= #[.agg #[.int .i64 0,.int .i64 0,.int .i64 0,.int .i64 0,.slice none 0 0],.agg #[.slice none 0 0,.slice none 0 0],.string ByteArray.empty]
theorem Zaa:prog.funcNamed Rows.entryChangesRow.func=some 6:=by kernel_rfl
theorem Zr2:joinedFacts prog 6 f6 Rows.entryChangesSpec Rows.entryChangesRow=true:=by
 unfold joinedFacts
 repeat' with_reducible refine Bool.and_eq_true_iff.2 ⟨?_,?_⟩
 all_goals as_aux_lemma=>kernel_rfl
theorem Zqh:decide (Func.isInstance prog f6 Rows.entryChangesRow.origin Rows.entryChangesRow.targs)=true:=by kernel_rfl
theorem Yf3:decide (Check.packageOf f6.name= "main")=false:=by kernel_rfl
theorem Yic:prog.inits.idxOf? 6=none:=by kernel_rfl
theorem Zw8(os:Os):((Kn os).forCall (fun _ _=>0) ⟨#[],Qb4,[]⟩).variablesB prog=true:=by kernel_rfl
theorem Zua(os:Os):((((Kn os).forCall (fun _ _=>0) ⟨#[],Qb4,[]⟩).heap.toList.drop prog.globals.size).take ((begin prog (fun _ _=>0) default).world.heap.size-prog.globals.size)=
   (begin prog (fun _ _=>0) default).world.heap.toList.drop prog.globals.size):=by kernel_rfl
theorem Yaj(os:Os):Input.okWideB prog ((Kn os).forCall (fun _ _=>0) ⟨#[],Qb4,[]⟩) 6 ⟨#[],Qb4,[]⟩=true:=by kernel_rfl
theorem Ysl(os:Os)(H:Type)(enc:TypeId×Value->H):Rows.entryChangesSpec.preB enc prog f6 [] false ((Kn os).forCall (fun _ _=>0) ⟨#[],Qb4,[]⟩).memory Qb4 8=true:=by kernel_rfl
theorem Yd8(os:Os)(H:Type)(enc:TypeId×Value->H):Rows.entryChangesSpec.sizedB enc prog f6 false ((Kn os).forCall (fun _ _=>0) ⟨#[],Qb4,[]⟩).memory Qb4 8=true:=by kernel_rfl
theorem Zne:(f6.params.toList.all fun t=>prog.readableRec t&&decide (t<prog.types.size))=true:=by kernel_rfl
theorem Ygb:Qfj prog f6.params.toList=some (pc6 0).ats:=by kernel_rfl
theorem Zn5:f6.resultTypes= #[4]:=by kernel_rfl
theorem Zna:prog.underlying 4=some .bool:=by kernel_rfl
theorem Zz6:Rows.EntryChangesSaid:=
 OpenClaim.holds_of_wide 6 f6 rfl rfl rfl rfl rfl rfl rfl ⟨rfl,rfl,rfl,rfl,rfl⟩ rfl rfl rfl rfl rfl Zaa func6 Zr2
  (of_decide_eq_true Zqh) (by unfold Func.isWrapper;rw[if_neg (of_decide_eq_false Yf3)];exact⟨rfl,rfl⟩)
  (fun os started H enc _=>Zx4 (s := Rows.entryChangesSpec) (tb := 4) Qb4 os started H enc Yic func6 (Zw8 os) (Zua os) (Yaj os) (Ysl os H enc)
   (Yd8 os H enc) Zne Ygb Zn5 Zna rfl (fun ds h=>by
    match ds,h with
    |[d1,d2,d3],_=>rfl) Ykq Ypa)
theorem Ymu:OpenClaim.wfByText (OpenSpec.ofChange Rows.entryChangesSpec) Rows.entryChangesRow=true:=by kernel_rfl
theorem Yho:prog.mainIs=some (Rows.entryChangesCard.stood.harness.fst,Rows.entryChangesCard.stood.harness.snd.toList):=by kernel_rfl
theorem Yfg:false=prog.looks []:=by kernel_rfl
theorem Zn2:(f6.params.toList.all fun t=>!prog.wantsStandIn t)=true:=by kernel_rfl
theorem Yil:false=Rows.entryChangesRow.goesBy prog:=by kernel_rfl
theorem entryChanges_proved:Rows.EntryChangesCardSaid:=
 Claim7.holds_tied_plain_at .later [] [.data,.data,.data] true Rows.entryChangesCard.stood.harness false
  Zz6 (fun _ h=>by cases h) Ymu (fun _ h=>by cases h) entryChanges_row_tie rfl ⟨rfl,rfl⟩ Yho rfl
  (fun f fn hf hfn=>by obtain rfl:f=6:=Option.some.inj (Zaa.symm.trans hf) |>.symm;obtain rfl:fn=f6:=(Option.some.inj (func6.symm.trans hfn)).symm;exact⟨Yfg,fun j t ht=>by have:=List.all_eq_true.1 Zn2 t (List.mem_of_getElem? (by rw[Array.getElem?_toList];exact ht));exact(by simpa using this:prog.wantsStandIn t=false)⟩)
  Yil
#print axioms entryChanges_proved
end Go.Proofs.YtpkbmngnolhopaaGreatDoor

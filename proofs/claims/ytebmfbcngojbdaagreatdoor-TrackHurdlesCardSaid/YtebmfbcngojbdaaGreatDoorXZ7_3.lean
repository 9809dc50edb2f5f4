/- The statement TrackHurdles: for every argument, on every order, the call returns true. No condition. -/
import Derived.Test.YtebmfbcngojbdaaGreatDoorXTkWl
import Derived.Test.YtebmfbcngojbdaaGreatDoorXTkL
set_option maxRecDepth 100000
set_option maxHeartbeats 100000000
namespace Go.Proofs.YtebmfbcngojbdaaGreatDoor
open Go Go.Sx Go.Proofs.Tryz
def Wl:Array Value:= #[.agg #[.int .i64 0,.int .i64 0,.int .i64 0,.int .i64 0],.int .i64 0]
theorem Qo3:prog.funcNamed Rows.trackHurdlesRow.func=some 3:=by kernel_rfl
theorem Qx4:joinedFacts prog 3 f3 Rows.trackHurdlesSpec Rows.trackHurdlesRow=true:=by
 unfold joinedFacts
 repeat' with_reducible refine Bool.and_eq_true_iff.2 ⟨?_,?_⟩
 all_goals as_aux_lemma=>kernel_rfl
theorem Qw9:decide (Func.isInstance prog f3 Rows.trackHurdlesRow.origin Rows.trackHurdlesRow.targs)=true:=by kernel_rfl
theorem Zmn:decide (Check.packageOf f3.name= "main")=false:=by kernel_rfl
theorem Zfa:prog.inits.idxOf? 3=none:=by kernel_rfl
theorem Zai(os:Os):((Xy os).forCall (fun _ _=>0) ⟨#[],Wl,[]⟩).variablesB prog=true:=by kernel_rfl
theorem Qyv(os:Os):((((Xy os).forCall (fun _ _=>0) ⟨#[],Wl,[]⟩).heap.toList.drop prog.globals.size).take ((begin prog (fun _ _=>0) default).world.heap.size-prog.globals.size)=
   (begin prog (fun _ _=>0) default).world.heap.toList.drop prog.globals.size):=by kernel_rfl
theorem Zcm(os:Os):Input.okWideB prog ((Xy os).forCall (fun _ _=>0) ⟨#[],Wl,[]⟩) 3 ⟨#[],Wl,[]⟩=true:=by kernel_rfl
theorem Zgd(os:Os)(H:Type)(enc:TypeId×Value→H):Rows.trackHurdlesSpec.preB enc prog f3 [] false ((Xy os).forCall (fun _ _=>0) ⟨#[],Wl,[]⟩).memory Wl 8=true:=by kernel_rfl
theorem Zf1(os:Os)(H:Type)(enc:TypeId×Value→H):Rows.trackHurdlesSpec.sizedB enc prog f3 false ((Xy os).forCall (fun _ _=>0) ⟨#[],Wl,[]⟩).memory Wl 8=true:=by kernel_rfl
theorem Qwq:(f3.params.toList.all fun t=>prog.readableRec t&&decide (t<prog.types.size))=true:=by kernel_rfl
theorem Zm2:Kq prog f3.params.toList=some (pc3 0).ats:=by kernel_rfl
theorem Qwz:f3.resultTypes= #[4]:=by kernel_rfl
theorem Zfd:prog.underlying 4=some .bool:=by kernel_rfl
theorem Zh0:Rows.TrackHurdlesSaid:=
 OpenClaim.holds_of_wide 3 f3 rfl rfl rfl rfl rfl rfl rfl ⟨rfl,rfl,rfl,rfl,rfl⟩ rfl rfl rfl rfl rfl Qo3 func3 Qx4
  (of_decide_eq_true Qw9) (by unfold Func.isWrapper;rw[if_neg (of_decide_eq_false Zmn)];exact⟨rfl,rfl⟩)
  (fun os started H enc _=>Zc8 (s := Rows.trackHurdlesSpec) (tb := 4) Wl os started H enc Zfa func3 (Zai os) (Qyv os) (Zcm os) (Zgd os H enc)
   (Zf1 os H enc) Qwq Zm2 Qwz Zfd rfl (fun ds h=>by
    match ds,h with
    |[d1,d2],_=>rfl) Zbg Zh5)
theorem Zda:OpenClaim.wfByText (OpenSpec.ofChange Rows.trackHurdlesSpec) Rows.trackHurdlesRow=true:=by kernel_rfl
theorem Zld:prog.mainIs=some (Rows.trackHurdlesCard.stood.harness.fst,Rows.trackHurdlesCard.stood.harness.snd.toList):=by kernel_rfl
theorem Zd7:false=prog.looks []:=by kernel_rfl
theorem Qwh:(f3.params.toList.all fun t=>!prog.wantsStandIn t)=true:=by kernel_rfl
theorem Zg8:false=Rows.trackHurdlesRow.goesBy prog:=by kernel_rfl
theorem trackHurdles_proved:Rows.TrackHurdlesCardSaid:=
 Claim7.holds_tied_plain_at .later [] [.data,.data,.data,.data] true Rows.trackHurdlesCard.stood.harness false
  Zh0 (fun _ h=>by cases h) Zda (fun _ h=>by cases h) trackHurdles_row_tie rfl ⟨rfl,rfl⟩ Zld rfl
  (fun f fn hf hfn=>by obtain rfl:f=3:=Option.some.inj (Qo3.symm.trans hf) |>.symm;obtain rfl:fn=f3:=(Option.some.inj (func3.symm.trans hfn)).symm;exact⟨Zd7,fun j t ht=>by have:=List.all_eq_true.1 Qwh t (List.mem_of_getElem? (by rw[Array.getElem?_toList];exact ht));exact(by simpa using this:prog.wantsStandIn t=false)⟩)
  Zg8
#print axioms trackHurdles_proved
end Go.Proofs.YtebmfbcngojbdaaGreatDoor

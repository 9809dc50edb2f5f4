/- The statement TrackTeams: for every argument, on every order, the call returns true. No condition. -/
import Derived.Test.YtebmfbcngojbdaaGreatDoorXTkWl
import Derived.Test.YtebmfbcngojbdaaGreatDoorXT7h
set_option maxRecDepth 100000
set_option maxHeartbeats 100000000
namespace Go.Proofs.YtebmfbcngojbdaaGreatDoor
open Go Go.Sx Go.Proofs.Tryz
def Vb:Array Value:= #[.agg #[.slice none 0 0,.int .i64 0,.int .i64 0],.slice none 0 0,.slice none 0 0]
theorem Qti:prog.funcNamed Rows.trackTeamsRow.func=some 4:=by kernel_rfl
theorem Znt:joinedFacts prog 4 f4 Rows.trackTeamsSpec Rows.trackTeamsRow=true:=by
 unfold joinedFacts
 repeat' with_reducible refine Bool.and_eq_true_iff.2 ⟨?_,?_⟩
 all_goals as_aux_lemma=>kernel_rfl
theorem Zn4:decide (Func.isInstance prog f4 Rows.trackTeamsRow.origin Rows.trackTeamsRow.targs)=true:=by kernel_rfl
theorem Zrw:decide (Check.packageOf f4.name= "main")=false:=by kernel_rfl
theorem Zi4:prog.inits.idxOf? 4=none:=by kernel_rfl
theorem Zhp(os:Os):((Jh os).forCall (fun _ _=>0) ⟨#[],Vb,[]⟩).variablesB prog=true:=by kernel_rfl
theorem Zts(os:Os):((((Jh os).forCall (fun _ _=>0) ⟨#[],Vb,[]⟩).heap.toList.drop prog.globals.size).take ((begin prog (fun _ _=>0) default).world.heap.size-prog.globals.size)=
   (begin prog (fun _ _=>0) default).world.heap.toList.drop prog.globals.size):=by kernel_rfl
theorem Zsx(os:Os):Input.okWideB prog ((Jh os).forCall (fun _ _=>0) ⟨#[],Vb,[]⟩) 4 ⟨#[],Vb,[]⟩=true:=by kernel_rfl
theorem Zch(os:Os)(H:Type)(enc:TypeId×Value→H):Rows.trackTeamsSpec.preB enc prog f4 [] false ((Jh os).forCall (fun _ _=>0) ⟨#[],Vb,[]⟩).memory Vb 8=true:=by kernel_rfl
theorem Zo0(os:Os)(H:Type)(enc:TypeId×Value→H):Rows.trackTeamsSpec.sizedB enc prog f4 false ((Jh os).forCall (fun _ _=>0) ⟨#[],Vb,[]⟩).memory Vb 8=true:=by kernel_rfl
theorem Zry:(f4.params.toList.all fun t=>prog.readableRec t&&decide (t<prog.types.size))=true:=by kernel_rfl
theorem Ztv:K7 prog f4.params.toList=some (pc4 0).ats:=by kernel_rfl
theorem Zkb:f4.resultTypes= #[4]:=by kernel_rfl
theorem Ze9:prog.underlying 4=some .bool:=by kernel_rfl
theorem Zlf:Rows.TrackTeamsSaid:=
 OpenClaim.holds_of_wide 4 f4 rfl rfl rfl rfl rfl rfl rfl ⟨rfl,rfl,rfl,rfl,rfl⟩ rfl rfl rfl rfl rfl Qti func4 Znt
  (of_decide_eq_true Zn4) (by unfold Func.isWrapper;rw[if_neg (of_decide_eq_false Zrw)];exact⟨rfl,rfl⟩)
  (fun os started H enc _=>Zlx (s := Rows.trackTeamsSpec) (tb := 4) Vb os started H enc Zi4 func4 (Zhp os) (Zts os) (Zsx os) (Zch os H enc)
   (Zo0 os H enc) Zry Ztv Zkb Ze9 rfl (fun ds h=>by
    match ds,h with
    |[d1,d2,d3],_=>rfl) Zi1 Zqk)
theorem Zqz:OpenClaim.wfByText (OpenSpec.ofChange Rows.trackTeamsSpec) Rows.trackTeamsRow=true:=by kernel_rfl
theorem Zfv:prog.mainIs=some (Rows.trackTeamsCard.stood.harness.fst,Rows.trackTeamsCard.stood.harness.snd.toList):=by kernel_rfl
theorem Zse:false=prog.looks []:=by kernel_rfl
theorem Zbe:(f4.params.toList.all fun t=>!prog.wantsStandIn t)=true:=by kernel_rfl
theorem Zah:false=Rows.trackTeamsRow.goesBy prog:=by kernel_rfl
theorem trackTeams_proved:Rows.TrackTeamsCardSaid:=
 Claim7.holds_tied_plain_at .later [] [.data,.data,.data,.data] true Rows.trackTeamsCard.stood.harness false
  Zlf (fun _ h=>by cases h) Zqz (fun _ h=>by cases h) trackTeams_row_tie rfl ⟨rfl,rfl⟩ Zfv rfl
  (fun f fn hf hfn=>by obtain rfl:f=4:=Option.some.inj (Qti.symm.trans hf) |>.symm;obtain rfl:fn=f4:=(Option.some.inj (func4.symm.trans hfn)).symm;exact⟨Zse,fun j t ht=>by have:=List.all_eq_true.1 Zbe t (List.mem_of_getElem? (by rw[Array.getElem?_toList];exact ht));exact(by simpa using this:prog.wantsStandIn t=false)⟩)
  Zah
#print axioms trackTeams_proved
end Go.Proofs.YtebmfbcngojbdaaGreatDoor

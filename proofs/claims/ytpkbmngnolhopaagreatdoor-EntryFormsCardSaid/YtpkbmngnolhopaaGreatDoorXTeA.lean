/- awake: the program run at its fixed examples returns true Functions of the program as functions of data. By program. And further parts. -/
import Derived.Test.YtpkbmngnolhopaaGreatDoorXTeW2
import Derived.Test.YtpkbmngnolhopaaGreatDoorXTeC
import Derived.Test.YtpkbmngnolhopaaGreatDoorXTeK23b
import Derived.Test.YtpkbmngnolhopaaGreatDoorXT3h
import Derived.Test.YtpkbmngnolhopaaGreatDoorXT3n
set_option maxRecDepth 1000000
set_option linter.unusedVariables false
set_option linter.all false
set_option linter.unusedSimpArgs false
namespace Go.Proofs.Tryz
open Go Go.Sx
noncomputable def lxB:Lx := { ext := [(82,pf82.sm),(29,k_rep.sm),(52,(k_acc.at a_acc2 y_acc2).sm),(56,k_res.sm),(50,(((k_nxt.at a_nxt2 y_nxt2).at a_nxt3 y_nxt3).at a_nxt4 y_nxt4).sm),(49,((k_leg1.at a_leg2 y_leg2).at a_leg3 y_leg3).sm),(37,k_cla.sm),(38,k_clu.sm),(36,k_con.sm),(69,k_sta.sm),(46,k_cha.sm),(81,(pc81 400).sm),(83,(pc83 400).sm),(63,(pc63 400).sm),(44,(pc44 400).sm),(45,(pc45 400).sm)],anns := [(2000029,.leaf),(2000046,.leaf),(2000049,.leaf),(2000050,.leaf)],still := [] }
theorem lxB_ok:lxB.Ok cx.bare := Lx.ok_cons (PF.sm_ok pf82_ok) (Lx.ok_cons (PC.sm_ok k_rep_ok) (Lx.ok_cons (PC.sm_ok (PCOk.at2 (pc := k_acc) k_acc_ok (a0 := a_acc2) (y0 := y_acc2) k_acc2_ok)) (Lx.ok_cons (PC.sm_ok k_res_ok) (Lx.ok_cons (PC.sm_ok (PCOk.at2 (pc := ((k_nxt.at a_nxt2 y_nxt2).at a_nxt3 y_nxt3)) (PCOk.at2 (pc := (k_nxt.at a_nxt2 y_nxt2)) (PCOk.at2 (pc := k_nxt) k_nxt_ok (a0 := a_nxt2) (y0 := y_nxt2) k_nxt2_ok) (a0 := a_nxt3) (y0 := y_nxt3) k_nxt3_ok) (a0 := a_nxt4) (y0 := y_nxt4) k_nxt4_ok)) (Lx.ok_cons (PC.sm_ok (PCOk.at2 (pc := (k_leg1.at a_leg2 y_leg2)) (PCOk.at2 (pc := k_leg1) k_leg1_ok (a0 := a_leg2) (y0 := y_leg2) k_leg2_ok) (a0 := a_leg3) (y0 := y_leg3) k_leg3_ok)) (Lx.ok_cons (PC.sm_ok k_cla_ok) (Lx.ok_cons (PC.sm_ok k_clu_ok) (Lx.ok_cons (PC.sm_ok k_con_ok) (Lx.ok_cons (PC.sm_ok k_sta_ok) (Lx.ok_cons (PC.sm_ok k_cha_ok) (Lx.ok_cons (PC.sm_ok (pc81_ok 400).bare) (Lx.ok_cons (PC.sm_ok (pc83_ok 400).bare) (Lx.ok_cons (PC.sm_ok (pc63_ok 400).bare) (Lx.ok_cons (PC.sm_ok (pc44_ok 400).bare) (Lx.ok_cons (PC.sm_ok (pc45_ok 400).bare) (Lx.ok_nil))))))))))))))))
noncomputable def c20 (F:Nat) (a:Unit):Option Bool := some true
noncomputable def pc20 (F:Nat):PC := { ats := [],rts := [.val .bool],code := c20 F }
theorem aw_eq:codeOf cx.bare lxB 3000 .leaf f20 (bodyOf f20) [] [.val .bool] () = some true := by kernel_rfl
theorem pc20_ok (F:Nat):PCOk cx 20 (pc20 F) := PCOk.full (PCOk.of_eval (Cx.bare_ok cx_ok) lxB_ok (n := 3000) (an := .leaf) (fn := f20) (c := bodyOf f20) (by kernel_rfl) (by kernel_rfl) (fun a y h=>aw_eq.trans h) (by kernel_rfl))
end Go.Proofs.Tryz
section
namespace Go.Proofs.Tryz
open Go Go.Sx
noncomputable section
end
end Go.Proofs.Tryz
end
section
namespace Go.Proofs.Tryz
open Go Go.Sx
noncomputable section
end
end Go.Proofs.Tryz
end
section
namespace Go.Proofs.Tryz
open Go Go.Sx
end Go.Proofs.Tryz
end
section

end
namespace Go.Proofs.Tryz
open Go Go.Sx
noncomputable def lx3 (F:Nat):LK := lC (pc17_ok F) (lC (pc18_ok F) (lC (pc19_ok F) (lC (pc20_ok F) (lC (pc26_ok F) (lC (pc25_ok F) (lC (pc24_ok F) (lC (pc23_ok F) (lC (pc22_ok F) (lC (pc21_ok F) (lC (pc16_ok F) (lC (pc15_ok F) lN)))))))))))
noncomputable def cv3 (F:Nat) (a:(TMt) × (TSt) × TAct) (x0:TMt) (x1:TSt):Option (Bool) :=
 ((c17 F x0).bind fun (u2:Bool)=>bif !u2 then (some (true)) else ((c18 F x1).bind fun (u3:Bool)=>bif !u3 then (some (true)) else ((c19 F a.2.2).bind fun (u4:Bool)=>some (!u4)))).bind fun (u5:Bool)=>bif u5 then (some (true)) else (((c21 F a.1).bind fun (u6:Int)=>(c22 F x0).bind fun (u7:Int)=>bif decide (u6 = u7) then ((c23 F a.2.2).bind fun (u8:Int)=>(c24 F a.2.2).bind fun (u9:Int)=>bif decide (u8 = u9) then ((c25 F (a.1,a.2.1.1,a.2.1.2.1,a.2.1.2.2.1,a.2.1.2.2.2.1,a.2.1.2.2.2.2)).bind fun (u10:Int)=>(c26 F (x0,x1.1,x1.2.1,x1.2.2.1,x1.2.2.2.1,x1.2.2.2.2)).bind fun (u11:Int)=>bif decide (u10 = u11) then (some (true)) else (some (false))) else (some (false))) else (some (false))).bind fun (u12:Bool)=>some (u12))
noncomputable def c3 (F:Nat) (a:(TMt) × (TSt) × TAct):Option (Bool) :=
 ((c15 F a.1).bind fun (v307:TMt)=>((c16 F a.2.1).bind fun (v364:TSt)=>tw (X := Bool) (AEls.eqv (ATy.val Ty.bool :: nilT ATy)) (cv3 F a v307 v364)).bind fun (v308:Bool)=>(tw (X := Bool) (AEls.eqv (ATy.val Ty.bool :: nilT ATy)) (tw (X := Bool) (AEls.eqv (ATy.val Ty.bool :: nilT ATy)) ((c16 F a.2.1).bind fun (v352:TSt)=>cv3 F a v307 v352))).bind fun (v309:Bool)=>gd (AEls.eqv (ATy.val Ty.bool :: nilT ATy) v308 v309) (some (v308))).bind fun (v219:Bool)=>(tw (X := Bool) (AEls.eqv (ATy.val Ty.bool :: nilT ATy)) (((c15 F a.1).bind fun (v280:TMt)=>tw (X := Bool) (AEls.eqv (ATy.val Ty.bool :: nilT ATy)) ((c16 F a.2.1).bind fun (v295:TSt)=>cv3 F a v280 v295)).bind fun (v265:Bool)=>((c15 F a.1).bind fun (v267:TMt)=>(c16 F a.2.1).bind fun (v268:TSt)=>cv3 F a v267 v268).bind fun (v266:Bool)=>gd (AEls.eqv (ATy.val Ty.bool :: nilT ATy) v265 v266) (some (v265)))).bind fun (v220:Bool)=>gd (AEls.eqv (ATy.val Ty.bool :: nilT ATy) v219 v220) (some (v219))
noncomputable def pc3 (F:Nat):PC := { ats := [.agg [.int .i64,.int .i64,.int .i64,.int .i64,.seq [.str,.str,.str,.int .i64,.int .i64,.int .i64,.int .i64,.str,.int .i64,.str,.int .i64]],.agg [.seq [.str],.seq [.str,.str,.int .i64,.str],.seq [.str,.int .i64,.int .i64],.seq [.str,.str,.str,.int .i64,.str,.int .i64,.bool],.seq [.str,.str,.seq [.str]]],.agg [.int .i64,.str,.str,.str,.str,.str,.int .i64,.int .i64,.str,.int .i64,.str,.seq [.str]]],rts := [.val (.bool)],code := c3 F }
theorem pc3_ok (F:Nat):PCOk cx 3 (pc3 F) := qE (lx3 F) (.two .leaf (.two .leaf (.two (.two (.join [(.normal,⟨[.slot 25 (.val (.bool))],[]⟩)] ⟨[25,24,23,22,21,20,19,18,17,16,15,14,13],[],[]⟩ .leaf) .leaf) (.two (.join [(.normal,⟨[.slot 6 (.val (.bool))],[]⟩)] ⟨[6,50,49,48,47,46,45,44,43,42,41,40,39,38,37,36,35,34,33,32,31,30,29,28,27],[],[]⟩ .leaf) .leaf)))) f3 (by kernel_rfl) fun a=>by kernel_rfl
abbrev atA:ATy := .agg [.int .i64,.str,.str,.str,.str,.str,.int .i64,.int .i64,.str,.int .i64,.str,.seq [.str]]
theorem cv3_true {F:Nat} {m:Mt} {s:St3} {x:Act3} (hF:100000 ≤ F) (hm:m.2.2.2.2.length < F) (hmb:m.2.2.2.2.length * 128 ≤ 140737488355328) (f:FitS F s) (hb:ByS s):cv3 F (m,s,x) m s = some true := by
 have hF4:400 ≤ F := by omega
 obtain ⟨b1,h1,h1'⟩ := l17 hm hmb
 obtain ⟨b2,h2,h2'⟩ := l18 f hb
 obtain ⟨b3,h3,h3'⟩ := l19 hF4 x
 unfold cv3
 simp only [peta,h1,h2,h3,Option.bind_some]
 cases b1 with
 | false=>rfl
 | true =>
  cases b2 with
  | false=>rfl
  | true =>
   cases b3 with
   | false=>rfl
   | true =>
    have hM := h1' rfl
    have hS := (h2' rfl).sm
    have hA := h3' rfl
    simp only [Bool.not_true,cond_false,Option.bind_some,l21 hF4 hM.len hM.bd,l22 hF4 hM.len,l23 hF4 hA,l24 hF4 hA,l25 hF4 hM.len hM.bd hS,l26 hF4 hM.len hS,decide_true,cond_true]
theorem law3 (a:Mt × St3 × Act3) (hok:AEls.ok [atM,atS,atA] a):∃ F,c3 F a = some true := by
 obtain ⟨m,s,x⟩ := a
 obtain ⟨k1,k2,-⟩ := hok
 have hmb := okM k1
 have hb := okS k2
 obtain ⟨r1,r2,r3⟩ := roomS_ok m s
 refine ⟨roomS m s,?_⟩
 generalize roomS m s = F at r1 r2 r3
 have e15:c15 F (m.1,m.2.1,m.2.2.1,m.2.2.2.1,m.2.2.2.2) = some m := l15 r2 hmb
 have e16:c16 F (s.1,s.2.1,s.2.2.1,s.2.2.2.1,s.2.2.2.2) = some s := l16 ⟨r3.l,r3.e,r3.t⟩ ⟨hb.l,hb.e,hb.t⟩
 unfold c3 tw
 simp only [e15,e16,cv3_true r1 r2 hmb r3 hb,Option.bind_some,eqvB,gd_true]
end Go.Proofs.Tryz

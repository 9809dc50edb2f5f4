/- awake: Replay and Changed at the examples awake: Starters at the example And further parts. -/
import Derived.Test.YtpkbmngnolhopaaGreatDoorXTeC
import Derived.Test.YtpkbmngnolhopaaGreatDoorXTeW2
import Derived.Test.YtpkbmngnolhopaaGreatDoorXT3h
set_option maxRecDepth 1000000
set_option linter.unusedVariables false
set_option linter.all false
set_option linter.unusedSimpArgs false
namespace Go.Proofs.Tryz
open Go Go.Sx
noncomputable def lxTeW30:Lx := { ext := [(23,(((((((((((k_actW.at a_actO0 y_actO0).at a_actO1 y_actO1).at a_actO2 y_actO2).at a_actO3 y_actO3).at a_actO4 y_actO4).at a_actO5 y_actO5).at a_actO6 y_actO6).at a_actO7 y_actO7).at a_actO8 y_actO8).at a_actO9 y_actO9).at a_actO10 y_actO10).sm),(21,(pc21 400).sm),(135,(pc135 400).sm),(150,(pf150 400).sm),(199,(pf199 400).sm),(200,(pf200 400).sm),(201,(pf201 400).sm),(202,(pf202 400).sm),(160,(pc160 400).sm),(213,(pc213 400).sm),(214,(pc214 400).sm),(216,(pc216 400).sm),(219,(pc219 400).sm),(186,(pc186 400).sm),(187,(pc187 400).sm),(110,(pc110 400).sm),(111,(pc111 400).sm),(105,(pc105 400).sm)],anns := [(2000219,.leaf),(217,annDel (bodyOf f217))],still := [] }
theorem lxTeW30_ok:lxTeW30.Ok cx.bare := Lx.ok_cons (PC.sm_ok (PCOk.at2 (pc := ((((((((((k_actW.at a_actO0 y_actO0).at a_actO1 y_actO1).at a_actO2 y_actO2).at a_actO3 y_actO3).at a_actO4 y_actO4).at a_actO5 y_actO5).at a_actO6 y_actO6).at a_actO7 y_actO7).at a_actO8 y_actO8).at a_actO9 y_actO9)) (PCOk.at2 (pc := (((((((((k_actW.at a_actO0 y_actO0).at a_actO1 y_actO1).at a_actO2 y_actO2).at a_actO3 y_actO3).at a_actO4 y_actO4).at a_actO5 y_actO5).at a_actO6 y_actO6).at a_actO7 y_actO7).at a_actO8 y_actO8)) (PCOk.at2 (pc := ((((((((k_actW.at a_actO0 y_actO0).at a_actO1 y_actO1).at a_actO2 y_actO2).at a_actO3 y_actO3).at a_actO4 y_actO4).at a_actO5 y_actO5).at a_actO6 y_actO6).at a_actO7 y_actO7)) (PCOk.at2 (pc := (((((((k_actW.at a_actO0 y_actO0).at a_actO1 y_actO1).at a_actO2 y_actO2).at a_actO3 y_actO3).at a_actO4 y_actO4).at a_actO5 y_actO5).at a_actO6 y_actO6)) (PCOk.at2 (pc := ((((((k_actW.at a_actO0 y_actO0).at a_actO1 y_actO1).at a_actO2 y_actO2).at a_actO3 y_actO3).at a_actO4 y_actO4).at a_actO5 y_actO5)) (PCOk.at2 (pc := (((((k_actW.at a_actO0 y_actO0).at a_actO1 y_actO1).at a_actO2 y_actO2).at a_actO3 y_actO3).at a_actO4 y_actO4)) (PCOk.at2 (pc := ((((k_actW.at a_actO0 y_actO0).at a_actO1 y_actO1).at a_actO2 y_actO2).at a_actO3 y_actO3)) (PCOk.at2 (pc := (((k_actW.at a_actO0 y_actO0).at a_actO1 y_actO1).at a_actO2 y_actO2)) (PCOk.at2 (pc := ((k_actW.at a_actO0 y_actO0).at a_actO1 y_actO1)) (PCOk.at2 (pc := (k_actW.at a_actO0 y_actO0)) (PCOk.at2 (pc := k_actW) k_actW_ok (a0 := a_actO0) (y0 := y_actO0) k_actO0_ok) (a0 := a_actO1) (y0 := y_actO1) k_actO1_ok) (a0 := a_actO2) (y0 := y_actO2) k_actO2_ok) (a0 := a_actO3) (y0 := y_actO3) k_actO3_ok) (a0 := a_actO4) (y0 := y_actO4) k_actO4_ok) (a0 := a_actO5) (y0 := y_actO5) k_actO5_ok) (a0 := a_actO6) (y0 := y_actO6) k_actO6_ok) (a0 := a_actO7) (y0 := y_actO7) k_actO7_ok) (a0 := a_actO8) (y0 := y_actO8) k_actO8_ok) (a0 := a_actO9) (y0 := y_actO9) k_actO9_ok) (a0 := a_actO10) (y0 := y_actO10) k_actO10_ok)) (Lx.ok_cons (PC.sm_ok (pc21_ok 400).bare) (Lx.ok_cons (PC.sm_ok (pc135_ok 400).bare) (Lx.ok_cons (PF.sm_ok (pf150_ok 400).bare) (Lx.ok_cons (PF.sm_ok (pf199_ok 400).bare) (Lx.ok_cons (PF.sm_ok (pf200_ok 400).bare) (Lx.ok_cons (PF.sm_ok (pf201_ok 400).bare) (Lx.ok_cons (PF.sm_ok (pf202_ok 400).bare) (Lx.ok_cons (PC.sm_ok (pc160_ok 400).bare) (Lx.ok_cons (PC.sm_ok (pc213_ok 400).bare) (Lx.ok_cons (PC.sm_ok (pc214_ok 400).bare) (Lx.ok_cons (PC.sm_ok (pc216_ok 400).bare) (Lx.ok_cons (PC.sm_ok (pc219_ok 400).bare) (Lx.ok_cons (PC.sm_ok (pc186_ok 400).bare) (Lx.ok_cons (PC.sm_ok (pc187_ok 400).bare) (Lx.ok_cons (PC.sm_ok (pc110_ok 400).bare) (Lx.ok_cons (PC.sm_ok (pc111_ok 400).bare) (Lx.ok_cons (PC.sm_ok (pc105_ok 400).bare) (Lx.ok_nil))))))))))))))))))
def a_rep:(TMt) × List (TAct) := (opn,offc)
def y_rep:(TSt) × List (Int × Int) × Int := (stS,[],0)
abbrev at_rep:List ATy := [.agg [.int .i64,.int .i64,.int .i64,.int .i64,.seq [.str,.str,.str,.int .i64,.int .i64,.int .i64,.int .i64,.str,.int .i64,.str,.int .i64]],.val (.seq [.int .i64,.str,.str,.str,.str,.str,.int .i64,.int .i64,.str,.int .i64,.str,.seq [.str]])]
abbrev rt_rep:List ATy := [.agg [.seq [.str],.seq [.str,.str,.int .i64,.str],.seq [.str,.int .i64,.int .i64],.seq [.str,.str,.str,.int .i64,.str,.int .i64,.bool],.seq [.str,.str,.seq [.str]]],.val (.seq [.int .i64,.int .i64]),.val (.int .i64)]
theorem q_rep:codeOf cx.bare lxTeW30 3000 .leaf f29 (bodyOf f29) at_rep rt_rep a_rep = some y_rep := by kernel_rfl
noncomputable def k_rep:PC := { ats := at_rep,rts := rt_rep,code := Go.Sx.one (ats := at_rep) (rts := rt_rep) a_rep y_rep }
theorem k_rep_ok:PCOk cx.bare 29 k_rep := PCOk.of_eval (Cx.bare_ok cx_ok) lxTeW30_ok (n := 3000) (an := .leaf) (fn := f29) (c := bodyOf f29) (by kernel_rfl) (by kernel_rfl) (fun a y h=>by
 obtain ⟨h1,h2⟩ := Go.Sx.one_some h
 subst h1; subst h2
 exact q_rep) (by kernel_rfl)
def a_rep2:(TMt) × List (TAct) := (opn,offc ++ [(7960,bs [119,105,116,104,100,114,97,119],bs [97,109,121],bs [],bs [],bs [115,112,114,105,110,116],0,0,bs [],0,bs [],[])])
def y_rep2:(TSt) × List (Int × Int) × Int := (stT,[],0)
abbrev at_rep2:List ATy := [.agg [.int .i64,.int .i64,.int .i64,.int .i64,.seq [.str,.str,.str,.int .i64,.int .i64,.int .i64,.int .i64,.str,.int .i64,.str,.int .i64]],.val (.seq [.int .i64,.str,.str,.str,.str,.str,.int .i64,.int .i64,.str,.int .i64,.str,.seq [.str]])]
abbrev rt_rep2:List ATy := [.agg [.seq [.str],.seq [.str,.str,.int .i64,.str],.seq [.str,.int .i64,.int .i64],.seq [.str,.str,.str,.int .i64,.str,.int .i64,.bool],.seq [.str,.str,.seq [.str]]],.val (.seq [.int .i64,.int .i64]),.val (.int .i64)]
theorem q_rep2:codeOf cx.bare lxTeW30 3000 .leaf f29 (bodyOf f29) at_rep2 rt_rep2 a_rep2 = some y_rep2 := by kernel_rfl
noncomputable def k_rep2:PC := { ats := at_rep2,rts := rt_rep2,code := Go.Sx.one (ats := at_rep2) (rts := rt_rep2) a_rep2 y_rep2 }
theorem k_rep2_ok:PCOk cx.bare 29 k_rep2 := PCOk.of_eval (Cx.bare_ok cx_ok) lxTeW30_ok (n := 3000) (an := .leaf) (fn := f29) (c := bodyOf f29) (by kernel_rfl) (by kernel_rfl) (fun a y h=>by
 obtain ⟨h1,h2⟩ := Go.Sx.one_some h
 subst h1; subst h2
 exact q_rep2) (by kernel_rfl)
noncomputable def lxTeW31:Lx := { ext := [(29,(k_rep.at a_rep2 y_rep2).sm),(131,(pc131 400).sm),(86,(pc86 400).sm),(84,(pc84 400).sm),(139,(pc139 400).sm),(129,(pc129 400).sm)],anns := [],still := [] }
theorem lxTeW31_ok:lxTeW31.Ok cx.bare := Lx.ok_cons (PC.sm_ok (PCOk.at2 (pc := k_rep) k_rep_ok (a0 := a_rep2) (y0 := y_rep2) k_rep2_ok)) (Lx.ok_cons (PC.sm_ok (pc131_ok 400).bare) (Lx.ok_cons (PC.sm_ok (pc86_ok 400).bare) (Lx.ok_cons (PC.sm_ok (pc84_ok 400).bare) (Lx.ok_cons (PC.sm_ok (pc139_ok 400).bare) (Lx.ok_cons (PC.sm_ok (pc129_ok 400).bare) (Lx.ok_nil))))))
def a_cha:(TMt) × List (TAct) × List (TAct) × ByteArray := (opn,offc,offc ++ [(7960,bs [119,105,116,104,100,114,97,119],bs [97,109,121],bs [],bs [],bs [115,112,114,105,110,116],0,0,bs [],0,bs [],[])],bs [115,112,114,105,110,116])
def y_cha:List ByteArray × Int := ([bs [97,109,121],bs [97,110,110]],0)
abbrev at_cha:List ATy := [.agg [.int .i64,.int .i64,.int .i64,.int .i64,.seq [.str,.str,.str,.int .i64,.int .i64,.int .i64,.int .i64,.str,.int .i64,.str,.int .i64]],.val (.seq [.int .i64,.str,.str,.str,.str,.str,.int .i64,.int .i64,.str,.int .i64,.str,.seq [.str]]),.val (.seq [.int .i64,.str,.str,.str,.str,.str,.int .i64,.int .i64,.str,.int .i64,.str,.seq [.str]]),.val .str]
abbrev rt_cha:List ATy := [.val (.seq [.str]),.val (.int .i64)]
theorem q_cha:codeOf cx.bare lxTeW31 3000 .leaf f46 (bodyOf f46) at_cha rt_cha a_cha = some y_cha := by kernel_rfl
noncomputable def k_cha:PC := { ats := at_cha,rts := rt_cha,code := Go.Sx.one (ats := at_cha) (rts := rt_cha) a_cha y_cha }
theorem k_cha_ok:PCOk cx.bare 46 k_cha := PCOk.of_eval (Cx.bare_ok cx_ok) lxTeW31_ok (n := 3000) (an := .leaf) (fn := f46) (c := bodyOf f46) (by kernel_rfl) (by kernel_rfl) (fun a y h=>by
 obtain ⟨h1,h2⟩ := Go.Sx.one_some h
 subst h1; subst h2
 exact q_cha) (by kernel_rfl)
noncomputable def lxTeW40:Lx := { ext := [(25,(pc25 400).sm),(99,(pc99 400).sm),(21,(pc21 400).sm),(98,(pc98 400).sm),(129,(pc129 400).sm),(126,(pc126 400).sm),(137,(pc137 400).sm),(138,(pc138 400).sm)],anns := [(148,.typ 6 106 [.str,.str,.str,.int .i64,.str,.int .i64,.bool] .leaf)],still := [] }
theorem lxTeW40_ok:lxTeW40.Ok cx.bare := Lx.ok_cons (PC.sm_ok (pc25_ok 400).bare) (Lx.ok_cons (PC.sm_ok (pc99_ok 400).bare) (Lx.ok_cons (PC.sm_ok (pc21_ok 400).bare) (Lx.ok_cons (PC.sm_ok (pc98_ok 400).bare) (Lx.ok_cons (PC.sm_ok (pc129_ok 400).bare) (Lx.ok_cons (PC.sm_ok (pc126_ok 400).bare) (Lx.ok_cons (PC.sm_ok (pc137_ok 400).bare) (Lx.ok_cons (PC.sm_ok (pc138_ok 400).bare) (Lx.ok_nil))))))))
def a_sta:(TMt) × (TSt) × ByteArray := (opn,stY,bs [115,112,114,105,110,116])
def y_sta:List ByteArray × Int := ([bs [97,109,121]],0)
abbrev at_sta:List ATy := [.agg [.int .i64,.int .i64,.int .i64,.int .i64,.seq [.str,.str,.str,.int .i64,.int .i64,.int .i64,.int .i64,.str,.int .i64,.str,.int .i64]],.agg [.seq [.str],.seq [.str,.str,.int .i64,.str],.seq [.str,.int .i64,.int .i64],.seq [.str,.str,.str,.int .i64,.str,.int .i64,.bool],.seq [.str,.str,.seq [.str]]],.val .str]
abbrev rt_sta:List ATy := [.val (.seq [.str]),.val (.int .i64)]
theorem q_sta:codeOf cx.bare lxTeW40 3000 .leaf f69 (bodyOf f69) at_sta rt_sta a_sta = some y_sta := by kernel_rfl
noncomputable def k_sta:PC := { ats := at_sta,rts := rt_sta,code := Go.Sx.one (ats := at_sta) (rts := rt_sta) a_sta y_sta }
theorem k_sta_ok:PCOk cx.bare 69 k_sta := PCOk.of_eval (Cx.bare_ok cx_ok) lxTeW40_ok (n := 3000) (an := .leaf) (fn := f69) (c := bodyOf f69) (by kernel_rfl) (by kernel_rfl) (fun a y h=>by
 obtain ⟨h1,h2⟩ := Go.Sx.one_some h
 subst h1; subst h2
 exact q_sta) (by kernel_rfl)
noncomputable def lxB:Lx := { ext := [(82,pf82.sm),(29,k_rep.sm),(52,(k_acc.at a_acc2 y_acc2).sm),(56,k_res.sm),(50,(((k_nxt.at a_nxt2 y_nxt2).at a_nxt3 y_nxt3).at a_nxt4 y_nxt4).sm),(49,((k_leg1.at a_leg2 y_leg2).at a_leg3 y_leg3).sm),(37,k_cla.sm),(38,k_clu.sm),(36,k_con.sm),(69,k_sta.sm),(46,k_cha.sm),(81,(pc81 400).sm),(83,(pc83 400).sm),(63,(pc63 400).sm),(44,(pc44 400).sm),(45,(pc45 400).sm)],anns := [(2000029,.leaf),(2000046,.leaf),(2000049,.leaf),(2000050,.leaf)],still := [] }
theorem lxB_ok:lxB.Ok cx.bare := Lx.ok_cons (PF.sm_ok pf82_ok) (Lx.ok_cons (PC.sm_ok k_rep_ok) (Lx.ok_cons (PC.sm_ok (PCOk.at2 (pc := k_acc) k_acc_ok (a0 := a_acc2) (y0 := y_acc2) k_acc2_ok)) (Lx.ok_cons (PC.sm_ok k_res_ok) (Lx.ok_cons (PC.sm_ok (PCOk.at2 (pc := ((k_nxt.at a_nxt2 y_nxt2).at a_nxt3 y_nxt3)) (PCOk.at2 (pc := (k_nxt.at a_nxt2 y_nxt2)) (PCOk.at2 (pc := k_nxt) k_nxt_ok (a0 := a_nxt2) (y0 := y_nxt2) k_nxt2_ok) (a0 := a_nxt3) (y0 := y_nxt3) k_nxt3_ok) (a0 := a_nxt4) (y0 := y_nxt4) k_nxt4_ok)) (Lx.ok_cons (PC.sm_ok (PCOk.at2 (pc := (k_leg1.at a_leg2 y_leg2)) (PCOk.at2 (pc := k_leg1) k_leg1_ok (a0 := a_leg2) (y0 := y_leg2) k_leg2_ok) (a0 := a_leg3) (y0 := y_leg3) k_leg3_ok)) (Lx.ok_cons (PC.sm_ok k_cla_ok) (Lx.ok_cons (PC.sm_ok k_clu_ok) (Lx.ok_cons (PC.sm_ok k_con_ok) (Lx.ok_cons (PC.sm_ok k_sta_ok) (Lx.ok_cons (PC.sm_ok k_cha_ok) (Lx.ok_cons (PC.sm_ok (pc81_ok 400).bare) (Lx.ok_cons (PC.sm_ok (pc83_ok 400).bare) (Lx.ok_cons (PC.sm_ok (pc63_ok 400).bare) (Lx.ok_cons (PC.sm_ok (pc44_ok 400).bare) (Lx.ok_cons (PC.sm_ok (pc45_ok 400).bare) (Lx.ok_nil))))))))))))))))
noncomputable def c20 (F:Nat) (a:Unit):Option Bool := some true
noncomputable def pc20 (F:Nat):PC := { ats := [],rts := [.val .bool],code := c20 F }
theorem aw_eq:codeOf cx.bare lxB 3000 .leaf f20 (bodyOf f20) [] [.val .bool] () = some true := by kernel_rfl
theorem pc20_ok (F:Nat):PCOk cx 20 (pc20 F) := PCOk.full (PCOk.of_eval (Cx.bare_ok cx_ok) lxB_ok (n := 3000) (an := .leaf) (fn := f20) (c := bodyOf f20) (by kernel_rfl) (by kernel_rfl) (fun a y h=>aw_eq.trans h) (by kernel_rfl))
noncomputable def lx5 (F:Nat):LK := lC (pc17_ok F) (lC (pc18_ok F) (lC (pc20_ok F) (lC (pc37_ok F) (lC (pc26_ok F) (lC (pc43_ok F) (lC (pc42_ok F) (lC (pc45_ok F) (lC (pc44_ok F) (lC (pc41_ok F) (lC (pc30_ok F) (lC (pc39_ok F) (lC (pc40_ok F) (lC (pc38_ok F) (lC (pc36_ok F) (lC (pc16_ok F) (lC (pc15_ok F) lN))))))))))))))))
noncomputable def cv5 (F:Nat) (a:(TMt) × (TSt) × ByteArray) (x0:TMt) (x1:TSt):Option (Bool) :=
 Option.bind (Option.bind (c17 F (x0.1,x0.2.1,x0.2.2.1,x0.2.2.2.1,x0.2.2.2.2)) fun (u2:Bool)=>bif !u2 then (some (true)) else (Option.bind (c18 F (x1.1,x1.2.1,x1.2.2.1,x1.2.2.2.1,x1.2.2.2.2)) fun (u3:Bool)=>bif !u3 then (some (true)) else (some (decide ((60:Int) < (↑(ByteArray.size a.2.2):Int)))))) fun (u4:Bool)=>bif u4 then (some (true)) else (Option.bind (c36 F ((a.1.1,a.1.2.1,a.1.2.2.1,a.1.2.2.2.1,a.1.2.2.2.2),(a.2.1.1,a.2.1.2.1,a.2.1.2.2.1,a.2.1.2.2.2.1,a.2.1.2.2.2.2),a.2.2)) fun (u5:List ByteArray × Int)=>Option.bind (c37 F ((a.1.1,a.1.2.1,a.1.2.2.1,a.1.2.2.2.1,a.1.2.2.2.2),a.2.1.1,a.2.1.2.1,a.2.1.2.2.1,a.2.1.2.2.2.1,a.2.1.2.2.2.2)) fun (u6:List (ByteArray × ByteArray) × Int)=>Option.bind (c38 F ((a.1.1,a.1.2.1,a.1.2.2.1,a.1.2.2.2.1,a.1.2.2.2.2),a.2.1.1,a.2.1.2.1,a.2.1.2.2.1,a.2.1.2.2.2.1,a.2.1.2.2.2.2)) fun (u7:List Int × Int)=>Option.bind (c26 F ((x0.1,x0.2.1,x0.2.2.1,x0.2.2.2.1,x0.2.2.2.2),x1.1,x1.2.1,x1.2.2.1,x1.2.2.2.1,x1.2.2.2.2)) fun (u8:Int)=>Option.bind (c40 F ((x1.1,x1.2.1,x1.2.2.1,x1.2.2.2.1,x1.2.2.2.2),a.2.2)) fun (u9:Int)=>Option.bind (c39 F (decide (u9 < (0:Int)),(10:Int))) fun (u10:Int)=>Option.bind (c30 F (u8 :: u10 :: nilT Int)) fun (u11:Int)=>Option.bind (bif decide (u11 = (0:Int)) then (Option.bind (c41 F ((x0.1,x0.2.1,x0.2.2.1,x0.2.2.2.1,x0.2.2.2.2),(x1.1,x1.2.1,x1.2.2.1,x1.2.2.2.1,x1.2.2.2.2),a.2.2)) fun (u12:List ByteArray)=>some (u12)) else (some (nilT ByteArray))) fun (u13:List ByteArray)=>Option.bind (bif decide (u8 = (0:Int)) then (Option.bind (c42 F ((x0.1,x0.2.1,x0.2.2.1,x0.2.2.2.1,x0.2.2.2.2),x1.1,x1.2.1,x1.2.2.1,x1.2.2.2.1,x1.2.2.2.2)) fun (u14:List (ByteArray × ByteArray))=>Option.bind (c43 F (x1.1,x1.2.1,x1.2.2.1,x1.2.2.2.1,x1.2.2.2.2)) fun (u15:List Int)=>some ((u14,u15))) else (some ((nilT (ByteArray × ByteArray),nilT Int)))) fun (u16:List (ByteArray × ByteArray) × List Int)=>Option.bind (bif !decide (u5.2 = u11) then (some (true)) else (Option.bind (c44 F (u5.1,u13)) fun (u17:Bool)=>bif !u17 then (some (true)) else (bif !decide (u6.2 = u8) then (some (true)) else (bif !decide (u7.2 = u8) then (some (true)) else (bif !decide ((↑(List.length u6.1):Int) = (↑(List.length u16.1):Int)) then (some (true)) else (Option.bind (c45 F (u7.1,u16.2)) fun (u18:Bool)=>some (!u18))))))) fun (u19:Bool)=>bif u19 then (some (false)) else (Option.bind (loopO (σ := Int) (β := Bool ⊕ Unit) (fun (u20:Int)=>bif decide (u20 < (↑(List.length u6.1):Int)) then (gd (decide ((0:Int) ≤ u20)) (gd (decide (u20 < (↑(List.length u6.1):Int))) (gd (decide (Int.toNat u20 < List.length u6.1)) (gd (decide ((0:Int) ≤ u20)) (gd (decide (u20 < (↑(List.length u16.1):Int))) (gd (decide (Int.toNat u20 < List.length u16.1)) (bif !(Prod.fst (List.getD u6.1 (Int.toNat u20) (ByteArray.empty,ByteArray.empty)) == Prod.fst (List.getD u16.1 (Int.toNat u20) (ByteArray.empty,ByteArray.empty)) && (Prod.snd (List.getD u6.1 (Int.toNat u20) (ByteArray.empty,ByteArray.empty)) == Prod.snd (List.getD u16.1 (Int.toNat u20) (ByteArray.empty,ByteArray.empty)) && true)) then (some (Sum.inr (Sum.inl false))) else (some (Sum.inl (w64 (u20 + (1:Int)))))))))))) else (some (Sum.inr (Sum.inr ())))) F ((0:Int))) fun (u21:Bool ⊕ Unit)=>Sum.elim (fun (u22:Bool)=>some (u22)) (fun (u23:Unit)=>some (true)) (u21)))
noncomputable def c5 (F:Nat) (a:(TMt) × (TSt) × ByteArray):Option (Bool) :=
 Option.bind (Option.bind (c15 F (a.1.1,a.1.2.1,a.1.2.2.1,a.1.2.2.2.1,a.1.2.2.2.2)) fun (v513:TMt)=>Option.bind (Option.bind (c16 F (a.2.1.1,a.2.1.2.1,a.2.1.2.2.1,a.2.1.2.2.2.1,a.2.1.2.2.2.2)) fun (v614:TSt)=>Option.bind (cv5 F a v513 v614) fun (v615:Bool)=>Option.bind (cv5 F a v513 v614) fun (v616:Bool)=>gd (AEls.eqv (ATy.val Ty.bool :: nilT ATy) v615 v616) (some (v615))) fun (v514:Bool)=>Option.bind (Option.bind (Option.bind (Option.bind (c16 F (a.2.1.1,a.2.1.2.1,a.2.1.2.2.1,a.2.1.2.2.2.1,a.2.1.2.2.2.2)) fun (v591:TSt)=>cv5 F a v513 v591) fun (v566:Bool)=>Option.bind (Option.bind (c16 F (a.2.1.1,a.2.1.2.1,a.2.1.2.2.1,a.2.1.2.2.2.1,a.2.1.2.2.2.2)) fun (v568:TSt)=>cv5 F a v513 v568) fun (v567:Bool)=>gd (AEls.eqv (ATy.val Ty.bool :: nilT ATy) v566 v567) (some (v566))) fun (v516:Bool)=>Option.bind (Option.bind (Option.bind (c16 F (a.2.1.1,a.2.1.2.1,a.2.1.2.2.1,a.2.1.2.2.2.1,a.2.1.2.2.2.2)) fun (v543:TSt)=>cv5 F a v513 v543) fun (v518:Bool)=>Option.bind (Option.bind (c16 F (a.2.1.1,a.2.1.2.1,a.2.1.2.2.1,a.2.1.2.2.2.1,a.2.1.2.2.2.2)) fun (v520:TSt)=>cv5 F a v513 v520) fun (v519:Bool)=>gd (AEls.eqv (ATy.val Ty.bool :: nilT ATy) v518 v519) (some (v518))) fun (v517:Bool)=>gd (AEls.eqv (ATy.val Ty.bool :: nilT ATy) v516 v517) (some (v516))) fun (v515:Bool)=>gd (AEls.eqv (ATy.val Ty.bool :: nilT ATy) v514 v515) (some (v514))) fun (v359:Bool)=>Option.bind (Option.bind (Option.bind (Option.bind (c15 F (a.1.1,a.1.2.1,a.1.2.2.1,a.1.2.2.2.1,a.1.2.2.2.2)) fun (v464:TMt)=>Option.bind (Option.bind (c16 F (a.2.1.1,a.2.1.2.1,a.2.1.2.2.1,a.2.1.2.2.2.1,a.2.1.2.2.2.2)) fun (v490:TSt)=>cv5 F a v464 v490) fun (v465:Bool)=>Option.bind (Option.bind (c16 F (a.2.1.1,a.2.1.2.1,a.2.1.2.2.1,a.2.1.2.2.2.1,a.2.1.2.2.2.2)) fun (v467:TSt)=>cv5 F a v464 v467) fun (v466:Bool)=>gd (AEls.eqv (ATy.val Ty.bool :: nilT ATy) v465 v466) (some (v465))) fun (v438:Bool)=>Option.bind (Option.bind (c15 F (a.1.1,a.1.2.1,a.1.2.2.1,a.1.2.2.2.1,a.1.2.2.2.2)) fun (v440:TMt)=>Option.bind (c16 F (a.2.1.1,a.2.1.2.1,a.2.1.2.2.1,a.2.1.2.2.2.1,a.2.1.2.2.2.2)) fun (v441:TSt)=>cv5 F a v440 v441) fun (v439:Bool)=>gd (AEls.eqv (ATy.val Ty.bool :: nilT ATy) v438 v439) (some (v438))) fun (v361:Bool)=>Option.bind (Option.bind (Option.bind (c15 F (a.1.1,a.1.2.1,a.1.2.2.1,a.1.2.2.2.1,a.1.2.2.2.2)) fun (v389:TMt)=>Option.bind (Option.bind (c16 F (a.2.1.1,a.2.1.2.1,a.2.1.2.2.1,a.2.1.2.2.2.1,a.2.1.2.2.2.2)) fun (v415:TSt)=>cv5 F a v389 v415) fun (v390:Bool)=>Option.bind (Option.bind (c16 F (a.2.1.1,a.2.1.2.1,a.2.1.2.2.1,a.2.1.2.2.2.1,a.2.1.2.2.2.2)) fun (v392:TSt)=>cv5 F a v389 v392) fun (v391:Bool)=>gd (AEls.eqv (ATy.val Ty.bool :: nilT ATy) v390 v391) (some (v390))) fun (v363:Bool)=>Option.bind (Option.bind (c15 F (a.1.1,a.1.2.1,a.1.2.2.1,a.1.2.2.2.1,a.1.2.2.2.2)) fun (v365:TMt)=>Option.bind (c16 F (a.2.1.1,a.2.1.2.1,a.2.1.2.2.1,a.2.1.2.2.2.1,a.2.1.2.2.2.2)) fun (v366:TSt)=>cv5 F a v365 v366) fun (v364:Bool)=>gd (AEls.eqv (ATy.val Ty.bool :: nilT ATy) v363 v364) (some (v363))) fun (v362:Bool)=>gd (AEls.eqv (ATy.val Ty.bool :: nilT ATy) v361 v362) (some (v361))) fun (v360:Bool)=>gd (AEls.eqv (ATy.val Ty.bool :: nilT ATy) v359 v360) (some (v359))
noncomputable def pc5 (F:Nat):PC := { ats := [.agg [.int .i64,.int .i64,.int .i64,.int .i64,.seq [.str,.str,.str,.int .i64,.int .i64,.int .i64,.int .i64,.str,.int .i64,.str,.int .i64]],.agg [.seq [.str],.seq [.str,.str,.int .i64,.str],.seq [.str,.int .i64,.int .i64],.seq [.str,.str,.str,.int .i64,.str,.int .i64,.bool],.seq [.str,.str,.seq [.str]]],.val (.str)],rts := [.val (.bool)],code := c5 F }
theorem pc5_ok (F:Nat):PCOk cx 5 (pc5 F) := qE (lx5 F) (.two .leaf (.two .leaf (.two (.two (.join [(.normal,⟨[.slot 37 (.val (.bool))],[]⟩)] ⟨[37,36,35,34,33,32,31,30,29,28,27,26,25],[],[]⟩ .leaf) .leaf) (.two .leaf (.two .leaf (.two .leaf (.two .leaf (.two .leaf (.two .leaf (.two (.two .leaf (.join [(.normal,⟨[.slot 17 (.val (.seq [.str]))],[]⟩)] ⟨[17,74,73,72,71],[],[]⟩ .leaf)) (.two .leaf (.two .leaf (.two (.two .leaf (.join [(.normal,⟨[.slot 18 (.val (.seq [.str,.str])),.slot 19 (.val (.seq [.int .i64]))],[]⟩)] ⟨[19,18,81,80,79,78,77],[],[]⟩ .leaf)) (.two (.two (.join [(.normal,⟨[.slot 113 (.val (.bool))],[]⟩)] ⟨[113,112,111,110,109,108,107,106,105,104,103,102,101,100,99,98,97,96,95,94,93,92,91,90,89,88,87,86,85,84,83,82],[],[]⟩ .leaf) .leaf) (.two (.two .leaf (.one (.loop ⟨[.slot 116 (.val (.int .i64))],[]⟩ [(.ret,⟨[.slot 6 (.val (.bool))],[]⟩),(.exit 0,⟨[],[]⟩)] ⟨[128,116,119,120,121,122,123,124,125,126,127,6,20,118,117],[],[]⟩ F .leaf))) .leaf))))))))))))))) f5 (by kernel_rfl) fun a=>by kernel_rfl
theorem flat_len {α β:Type} (g:α → List β) (n:Nat) (hg:∀ x,(g x).length ≤ n):∀ (l:List α),(l.flatMap g).length ≤ l.length * n
 | []=>by simp
 | x :: l=>by
  have := flat_len g n hg l
  have := hg x
  rw [List.flatMap_cons,List.length_append,List.length_cons,Nat.add_mul]
  omega
theorem clS_len {m:Mt} {s:St3} (h:m.2.2.2.2.length ≤ 35):(clS m s).length ≤ 2000 := by
 have := flat_len (clRow m s) 35 (fun i=>by have := clRow_le m s i; omega) (List.range m.2.2.2.2.length)
 rw [List.length_range] at this
 unfold clS
 omega
theorem conS_len {m:Mt} {s:St3} {a:ByteArray} (h:m.2.2.2.2.length ≤ 35):(conS m s a).length ≤ 35 := by
 unfold conS
 rw [List.length_map]
 have := List.length_filter_le (fun c:Cst=>inP s a c.1) m.2.2.2.2
 omega
theorem pair_loop {F:Nat} {l:List (ByteArray × ByteArray)} {step:Int → Option (Int ⊕ (Bool ⊕ Unit))} (hF:l.length < F)
  (hs:∀ (i:Nat) x,i < l.length → l[i]? = some x → step (i:Int) = some (.inl ((i:Int) + 1))) (he:step (l.length:Int) = some (.inr (.inr ()))):loopO step F 0 = some (.inr ()) := by
 have := bind_list (k := fun b=>some b) (r := some (.inr ())) l (fun (_:Unit) i=>(i:Int)) (fun _ _=>(.inl ():Unit ⊕ (Bool ⊕ Unit))) (fun _=>.inr ()) (fun _ _=>True) () (step := step) (F := F) (t := 0) hF rfl trivial
  (fun i x _ hi hx _=>⟨by rw [hs i x hi hx]; rfl,fun _ _=>trivial⟩) (fun _ _=>he) (by rw [goL_unit])
 rw [← this]
 cases loopO step F 0 <;> rfl
theorem cv5_true {F:Nat} {m:Mt} {s:St3} {x:ByteArray} (hF:100000 ≤ F) (hm:m.2.2.2.2.length < F) (hmb:m.2.2.2.2.length * 128 ≤ 140737488355328) (f:FitS F s) (hb:ByS s):cv5 F (m,s,x) m s = some true := by
 have hF4:400 ≤ F := by omega
 obtain ⟨b1,h1,h1'⟩ := l17 hm hmb
 obtain ⟨b2,h2,h2'⟩ := l18 f hb
 unfold cv5
 simp only [peta,h1,h2,Option.bind_some]
 cases b1 with
 | false=>rfl
 | true =>
  cases b2 with
  | false=>rfl
  | true =>
   have hM := h1' rfl
   have hS := (h2' rfl).sm
   by_cases hx:(60:Int) < x.size
   ·simp only [hx,Bool.not_true,cond_false,decide_true,cond_true,Option.bind_some]
   ·have e30:∀ a b,c30 F (a :: b :: nilT Int) = some (firstNZ [a,b]) := fun a b=>l30 (by simp [nilT]; omega) (by simp [nilT])
    simp only [hx,Bool.not_true,cond_false,decide_false,Option.bind_some,l36 hF4 hM.len hM.bd hS,l37 hF4 hM.len hM.bd hS,l38 hF4 hM.len hM.bd hS,l26 hF4 hM.len hS,l40 hF4 hS,l39,e30,decide_eq_true_eq]
    rw [show firstNZ [stE m s,if aI s x < 0 then 10 else 0] = viewE m s x from rfl]
    have q41:(bif decide (viewE m s x = 0) then Option.bind (c41 F (m,s,x)) fun (u:List ByteArray)=>some u else some (nilT ByteArray)) = some (if viewE m s x = 0 then conS m s x else []) := by
     by_cases h:viewE m s x = 0
     ·simp only [h,decide_true,cond_true,if_true,l41 hF4 hM.len hS,Option.bind_some]
     ·simp only [h,decide_false,cond_false,if_false]
      rfl
    have q42:(bif decide (stE m s = 0) then Option.bind (c42 F (m,s)) fun (u:List (ByteArray × ByteArray))=>Option.bind (c43 F s) fun (v:List Int)=>some (u,v) else some (nilT (ByteArray × ByteArray),nilT Int)) = some (if stE m s = 0 then (clS m s,cntS s) else ([],[])) := by
     by_cases h:stE m s = 0
     ·simp only [h,decide_true,cond_true,if_true,l42 hF4 hM.len hS,l43 hF4 hS (fun y hy=>st_known h hy),Option.bind_some]
     ·simp only [h,decide_false,cond_false,if_false]
      rfl
    simp only [q41,q42,Option.bind_some]
    have w1:(if viewE m s x = 0 then (conS m s x,(0:Int)) else ([],viewE m s x)) = (if viewE m s x = 0 then conS m s x else [],viewE m s x) := by
     by_cases h:viewE m s x = 0 <;> simp [h]
    have w2:(if stE m s = 0 then (clS m s,(0:Int)) else ([],stE m s)) = (if stE m s = 0 then clS m s else [],stE m s) := by
     by_cases h:stE m s = 0 <;> simp [h]
    have w3:(if stE m s = 0 then (cntS s,(0:Int)) else ([],stE m s)) = (if stE m s = 0 then cntS s else [],stE m s) := by
     by_cases h:stE m s = 0 <;> simp [h]
    have w4:(if stE m s = 0 then (clS m s,cntS s) else ([],[])) = (if stE m s = 0 then clS m s else [],if stE m s = 0 then cntS s else []) := by
     by_cases h:stE m s = 0 <;> simp [h]
    simp only [w1,w2,w3,w4]
    have n1:(if viewE m s x = 0 then conS m s x else []).length ≤ 35 := by
     have := conS_len (s := s) (a := x) hM.n
     split
     ·exact this
     ·simp
    have n2:(if stE m s = 0 then clS m s else []).length ≤ 2000 := by
     have := clS_len (s := s) hM.n
     split
     ·exact this
     ·simp
    have n3:(if stE m s = 0 then cntS s else []).length ≤ 300 := by
     have := hS.c
     split
     ·unfold cntS; rw [List.length_map]; exact this
     ·simp
    generalize (if viewE m s x = 0 then conS m s x else []) = z1 at n1
    generalize (if stE m s = 0 then clS m s else []) = z2 at n2
    generalize (if stE m s = 0 then cntS s else []) = z3 at n3
    simp only [l44 (F := F) (l := z1) (by omega) (by omega),l45 (F := F) (l := z3) (by omega) (by omega),decide_true,Bool.not_true,cond_false,Option.bind_some]
    rw [pair_loop (l := z2) (by omega)]
    ·rfl
    ·intro i y hi hy
     simp (disch := omega) only [cd_pos,gd_dec,Int.toNat_natCast,getD_some hy,w64_in,beqB,Bool.and_self,Bool.not_true,cond_false]
    ·simp (disch := omega) only [cd_neg]
theorem law5 (a:Mt × St3 × ByteArray) (hok:AEls.ok [atM,atS,.val .str] a):∃ F,c5 F a = some true := by
 obtain ⟨m,s,x⟩ := a
 obtain ⟨k1,k2,-⟩ := hok
 have hmb := okM k1
 have hb := okS k2
 obtain ⟨r1,r2,r3⟩ := roomS_ok m s
 refine ⟨roomS m s,?_⟩
 generalize roomS m s = F at r1 r2 r3
 have e15:c15 F (m.1,m.2.1,m.2.2.1,m.2.2.2.1,m.2.2.2.2) = some m := l15 r2 hmb
 have e16:c16 F (s.1,s.2.1,s.2.2.1,s.2.2.2.1,s.2.2.2.2) = some s := l16 ⟨r3.l,r3.e,r3.t⟩ ⟨hb.l,hb.e,hb.t⟩
 unfold c5
 simp only [e15,e16,cv5_true r1 r2 hmb r3 hb,Option.bind_some,eqvB,gd_true]
end Go.Proofs.Tryz

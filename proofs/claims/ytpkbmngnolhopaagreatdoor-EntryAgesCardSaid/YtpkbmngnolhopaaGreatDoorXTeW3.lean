/- awake: Replay and Changed at the examples awake: Starters at the example And further parts. -/
import Derived.Test.YtpkbmngnolhopaaGreatDoorXTeC
import Derived.Test.YtpkbmngnolhopaaGreatDoorXTeW2
import Derived.Test.YtpkbmngnolhopaaGreatDoorXT3a
set_option maxRecDepth 1000000
set_option linter.unusedVariables false
set_option linter.all false
set_option linter.unusedSimpArgs false
namespace Go.Proofs.Tryz
open Go Go.Sx
noncomputable def lxTeW30:Lx := { ext := [(23,(((((((((((k_actW.at a_actO0 y_actO0).at a_actO1 y_actO1).at a_actO2 y_actO2).at a_actO3 y_actO3).at a_actO4 y_actO4).at a_actO5 y_actO5).at a_actO6 y_actO6).at a_actO7 y_actO7).at a_actO8 y_actO8).at a_actO9 y_actO9).at a_actO10 y_actO10).sm),(21,(pc21 400).sm),(135,(pc135 400).sm),(150,(pf150 400).sm),(199,(pf199 400).sm),(200,(pf200 400).sm),(201,(pf201 400).sm),(202,(pf202 400).sm),(160,(pc160 400).sm),(213,(pc213 400).sm),(214,(pc214 400).sm),(216,(pc216 400).sm),(219,(pc219 400).sm),(186,(pc186 400).sm),(187,(pc187 400).sm),(110,(pc110 400).sm),(111,(pc111 400).sm),(105,(pc105 400).sm)],anns := [(2000219,.leaf),(217,annDel (bodyOf f217))],still := [] }
theorem lxTeW30_ok:lxTeW30.Ok cx.bare := Lx.ok_cons (PC.sm_ok (PCOk.at2 (pc := ((((((((((k_actW.at a_actO0 y_actO0).at a_actO1 y_actO1).at a_actO2 y_actO2).at a_actO3 y_actO3).at a_actO4 y_actO4).at a_actO5 y_actO5).at a_actO6 y_actO6).at a_actO7 y_actO7).at a_actO8 y_actO8).at a_actO9 y_actO9)) (PCOk.at2 (pc := (((((((((k_actW.at a_actO0 y_actO0).at a_actO1 y_actO1).at a_actO2 y_actO2).at a_actO3 y_actO3).at a_actO4 y_actO4).at a_actO5 y_actO5).at a_actO6 y_actO6).at a_actO7 y_actO7).at a_actO8 y_actO8)) (PCOk.at2 (pc := ((((((((k_actW.at a_actO0 y_actO0).at a_actO1 y_actO1).at a_actO2 y_actO2).at a_actO3 y_actO3).at a_actO4 y_actO4).at a_actO5 y_actO5).at a_actO6 y_actO6).at a_actO7 y_actO7)) (PCOk.at2 (pc := (((((((k_actW.at a_actO0 y_actO0).at a_actO1 y_actO1).at a_actO2 y_actO2).at a_actO3 y_actO3).at a_actO4 y_actO4).at a_actO5 y_actO5).at a_actO6 y_actO6)) (PCOk.at2 (pc := ((((((k_actW.at a_actO0 y_actO0).at a_actO1 y_actO1).at a_actO2 y_actO2).at a_actO3 y_actO3).at a_actO4 y_actO4).at a_actO5 y_actO5)) (PCOk.at2 (pc := (((((k_actW.at a_actO0 y_actO0).at a_actO1 y_actO1).at a_actO2 y_actO2).at a_actO3 y_actO3).at a_actO4 y_actO4)) (PCOk.at2 (pc := ((((k_actW.at a_actO0 y_actO0).at a_actO1 y_actO1).at a_actO2 y_actO2).at a_actO3 y_actO3)) (PCOk.at2 (pc := (((k_actW.at a_actO0 y_actO0).at a_actO1 y_actO1).at a_actO2 y_actO2)) (PCOk.at2 (pc := ((k_actW.at a_actO0 y_actO0).at a_actO1 y_actO1)) (PCOk.at2 (pc := (k_actW.at a_actO0 y_actO0)) (PCOk.at2 (pc := k_actW) k_actW_ok (a0 := a_actO0) (y0 := y_actO0) k_actO0_ok) (a0 := a_actO1) (y0 := y_actO1) k_actO1_ok) (a0 := a_actO2) (y0 := y_actO2) k_actO2_ok) (a0 := a_actO3) (y0 := y_actO3) k_actO3_ok) (a0 := a_actO4) (y0 := y_actO4) k_actO4_ok) (a0 := a_actO5) (y0 := y_actO5) k_actO5_ok) (a0 := a_actO6) (y0 := y_actO6) k_actO6_ok) (a0 := a_actO7) (y0 := y_actO7) k_actO7_ok) (a0 := a_actO8) (y0 := y_actO8) k_actO8_ok) (a0 := a_actO9) (y0 := y_actO9) k_actO9_ok) (a0 := a_actO10) (y0 := y_actO10) k_actO10_ok)) (Lx.ok_cons (PC.sm_ok (pc21_ok 400).bare) (Lx.ok_cons (PC.sm_ok (pc135_ok 400).bare) (Lx.ok_cons (PF.sm_ok (pf150_ok 400).bare) (Lx.ok_cons (PF.sm_ok (pf199_ok 400).bare) (Lx.ok_cons (PF.sm_ok (pf200_ok 400).bare) (Lx.ok_cons (PF.sm_ok (pf201_ok 400).bare) (Lx.ok_cons (PF.sm_ok (pf202_ok 400).bare) (Lx.ok_cons (PC.sm_ok (pc160_ok 400).bare) (Lx.ok_cons (PC.sm_ok (pc213_ok 400).bare) (Lx.ok_cons (PC.sm_ok (pc214_ok 400).bare) (Lx.ok_cons (PC.sm_ok (pc216_ok 400).bare) (Lx.ok_cons (PC.sm_ok (pc219_ok 400).bare) (Lx.ok_cons (PC.sm_ok (pc186_ok 400).bare) (Lx.ok_cons (PC.sm_ok (pc187_ok 400).bare) (Lx.ok_cons (PC.sm_ok (pc110_ok 400).bare) (Lx.ok_cons (PC.sm_ok (pc111_ok 400).bare) (Lx.ok_cons (PC.sm_ok (pc105_ok 400).bare) (Lx.ok_nil))))))))))))))))))
def a_rep:(TMt) × List (TAct) := (opn,offc)
def y_rep:(TSt) × List (Int × Int) × Int := (stS,[],0)
abbrev at_rep:List ATy := [.agg [.int .i64,.int .i64,.int .i64,.int .i64,.seq [.str,.str,.str,.int .i64,.int .i64,.int .i64,.int .i64,.str,.int .i64,.str,.int .i64]],.val (.seq [.int .i64,.str,.str,.str,.str,.str,.int .i64,.int .i64,.str,.int .i64,.str,.seq [.str]])]
abbrev rt_rep:List ATy := [.agg [.seq [.str],.seq [.str,.str,.int .i64,.str],.seq [.str,.int .i64,.int .i64],.seq [.str,.str,.str,.int .i64,.str,.int .i64,.bool],.seq [.str,.str,.seq [.str]]],.val (.seq [.int .i64,.int .i64]),.val (.int .i64)]
theorem q_rep:codeOf cx.bare lxTeW30 3000 .leaf f29 (bodyOf f29) at_rep rt_rep a_rep = some y_rep := by kernel_rfl
noncomputable def k_rep:PC := { ats := at_rep,rts := rt_rep,code := Go.Sx.one (ats := at_rep) (rts := rt_rep) a_rep y_rep }
theorem k_rep_ok:PCOk cx.bare 29 k_rep := PCOk.of_eval (Cx.bare_ok cx_ok) lxTeW30_ok (n := 3000) (an := .leaf) (fn := f29) (c := bodyOf f29) (by kernel_rfl) (by kernel_rfl) (fun a y h=>by
 obtain ⟨h1,h2⟩ := Go.Sx.one_some h
 subst h1; subst h2
 exact q_rep) (by kernel_rfl)
def a_rep2:(TMt) × List (TAct) := (opn,offc ++ [(7960,bs [119,105,116,104,100,114,97,119],bs [97,109,121],bs [],bs [],bs [115,112,114,105,110,116],0,0,bs [],0,bs [],[])])
def y_rep2:(TSt) × List (Int × Int) × Int := (stT,[],0)
abbrev at_rep2:List ATy := [.agg [.int .i64,.int .i64,.int .i64,.int .i64,.seq [.str,.str,.str,.int .i64,.int .i64,.int .i64,.int .i64,.str,.int .i64,.str,.int .i64]],.val (.seq [.int .i64,.str,.str,.str,.str,.str,.int .i64,.int .i64,.str,.int .i64,.str,.seq [.str]])]
abbrev rt_rep2:List ATy := [.agg [.seq [.str],.seq [.str,.str,.int .i64,.str],.seq [.str,.int .i64,.int .i64],.seq [.str,.str,.str,.int .i64,.str,.int .i64,.bool],.seq [.str,.str,.seq [.str]]],.val (.seq [.int .i64,.int .i64]),.val (.int .i64)]
theorem q_rep2:codeOf cx.bare lxTeW30 3000 .leaf f29 (bodyOf f29) at_rep2 rt_rep2 a_rep2 = some y_rep2 := by kernel_rfl
noncomputable def k_rep2:PC := { ats := at_rep2,rts := rt_rep2,code := Go.Sx.one (ats := at_rep2) (rts := rt_rep2) a_rep2 y_rep2 }
theorem k_rep2_ok:PCOk cx.bare 29 k_rep2 := PCOk.of_eval (Cx.bare_ok cx_ok) lxTeW30_ok (n := 3000) (an := .leaf) (fn := f29) (c := bodyOf f29) (by kernel_rfl) (by kernel_rfl) (fun a y h=>by
 obtain ⟨h1,h2⟩ := Go.Sx.one_some h
 subst h1; subst h2
 exact q_rep2) (by kernel_rfl)
noncomputable def lxTeW31:Lx := { ext := [(29,(k_rep.at a_rep2 y_rep2).sm),(131,(pc131 400).sm),(86,(pc86 400).sm),(84,(pc84 400).sm),(139,(pc139 400).sm),(129,(pc129 400).sm)],anns := [],still := [] }
theorem lxTeW31_ok:lxTeW31.Ok cx.bare := Lx.ok_cons (PC.sm_ok (PCOk.at2 (pc := k_rep) k_rep_ok (a0 := a_rep2) (y0 := y_rep2) k_rep2_ok)) (Lx.ok_cons (PC.sm_ok (pc131_ok 400).bare) (Lx.ok_cons (PC.sm_ok (pc86_ok 400).bare) (Lx.ok_cons (PC.sm_ok (pc84_ok 400).bare) (Lx.ok_cons (PC.sm_ok (pc139_ok 400).bare) (Lx.ok_cons (PC.sm_ok (pc129_ok 400).bare) (Lx.ok_nil))))))
def a_cha:(TMt) × List (TAct) × List (TAct) × ByteArray := (opn,offc,offc ++ [(7960,bs [119,105,116,104,100,114,97,119],bs [97,109,121],bs [],bs [],bs [115,112,114,105,110,116],0,0,bs [],0,bs [],[])],bs [115,112,114,105,110,116])
def y_cha:List ByteArray × Int := ([bs [97,109,121],bs [97,110,110]],0)
abbrev at_cha:List ATy := [.agg [.int .i64,.int .i64,.int .i64,.int .i64,.seq [.str,.str,.str,.int .i64,.int .i64,.int .i64,.int .i64,.str,.int .i64,.str,.int .i64]],.val (.seq [.int .i64,.str,.str,.str,.str,.str,.int .i64,.int .i64,.str,.int .i64,.str,.seq [.str]]),.val (.seq [.int .i64,.str,.str,.str,.str,.str,.int .i64,.int .i64,.str,.int .i64,.str,.seq [.str]]),.val .str]
abbrev rt_cha:List ATy := [.val (.seq [.str]),.val (.int .i64)]
theorem q_cha:codeOf cx.bare lxTeW31 3000 .leaf f46 (bodyOf f46) at_cha rt_cha a_cha = some y_cha := by kernel_rfl
noncomputable def k_cha:PC := { ats := at_cha,rts := rt_cha,code := Go.Sx.one (ats := at_cha) (rts := rt_cha) a_cha y_cha }
theorem k_cha_ok:PCOk cx.bare 46 k_cha := PCOk.of_eval (Cx.bare_ok cx_ok) lxTeW31_ok (n := 3000) (an := .leaf) (fn := f46) (c := bodyOf f46) (by kernel_rfl) (by kernel_rfl) (fun a y h=>by
 obtain ⟨h1,h2⟩ := Go.Sx.one_some h
 subst h1; subst h2
 exact q_cha) (by kernel_rfl)
noncomputable def lxTeW40:Lx := { ext := [(25,(pc25 400).sm),(99,(pc99 400).sm),(21,(pc21 400).sm),(98,(pc98 400).sm),(129,(pc129 400).sm),(126,(pc126 400).sm),(137,(pc137 400).sm),(138,(pc138 400).sm)],anns := [(148,.typ 6 106 [.str,.str,.str,.int .i64,.str,.int .i64,.bool] .leaf)],still := [] }
theorem lxTeW40_ok:lxTeW40.Ok cx.bare := Lx.ok_cons (PC.sm_ok (pc25_ok 400).bare) (Lx.ok_cons (PC.sm_ok (pc99_ok 400).bare) (Lx.ok_cons (PC.sm_ok (pc21_ok 400).bare) (Lx.ok_cons (PC.sm_ok (pc98_ok 400).bare) (Lx.ok_cons (PC.sm_ok (pc129_ok 400).bare) (Lx.ok_cons (PC.sm_ok (pc126_ok 400).bare) (Lx.ok_cons (PC.sm_ok (pc137_ok 400).bare) (Lx.ok_cons (PC.sm_ok (pc138_ok 400).bare) (Lx.ok_nil))))))))
def a_sta:(TMt) × (TSt) × ByteArray := (opn,stY,bs [115,112,114,105,110,116])
def y_sta:List ByteArray × Int := ([bs [97,109,121]],0)
abbrev at_sta:List ATy := [.agg [.int .i64,.int .i64,.int .i64,.int .i64,.seq [.str,.str,.str,.int .i64,.int .i64,.int .i64,.int .i64,.str,.int .i64,.str,.int .i64]],.agg [.seq [.str],.seq [.str,.str,.int .i64,.str],.seq [.str,.int .i64,.int .i64],.seq [.str,.str,.str,.int .i64,.str,.int .i64,.bool],.seq [.str,.str,.seq [.str]]],.val .str]
abbrev rt_sta:List ATy := [.val (.seq [.str]),.val (.int .i64)]
theorem q_sta:codeOf cx.bare lxTeW40 3000 .leaf f69 (bodyOf f69) at_sta rt_sta a_sta = some y_sta := by kernel_rfl
noncomputable def k_sta:PC := { ats := at_sta,rts := rt_sta,code := Go.Sx.one (ats := at_sta) (rts := rt_sta) a_sta y_sta }
theorem k_sta_ok:PCOk cx.bare 69 k_sta := PCOk.of_eval (Cx.bare_ok cx_ok) lxTeW40_ok (n := 3000) (an := .leaf) (fn := f69) (c := bodyOf f69) (by kernel_rfl) (by kernel_rfl) (fun a y h=>by
 obtain ⟨h1,h2⟩ := Go.Sx.one_some h
 subst h1; subst h2
 exact q_sta) (by kernel_rfl)
noncomputable def lxB:Lx := { ext := [(82,pf82.sm),(29,k_rep.sm),(52,(k_acc.at a_acc2 y_acc2).sm),(56,k_res.sm),(50,(((k_nxt.at a_nxt2 y_nxt2).at a_nxt3 y_nxt3).at a_nxt4 y_nxt4).sm),(49,((k_leg1.at a_leg2 y_leg2).at a_leg3 y_leg3).sm),(37,k_cla.sm),(38,k_clu.sm),(36,k_con.sm),(69,k_sta.sm),(46,k_cha.sm),(81,(pc81 400).sm),(83,(pc83 400).sm),(63,(pc63 400).sm),(44,(pc44 400).sm),(45,(pc45 400).sm)],anns := [(2000029,.leaf),(2000046,.leaf),(2000049,.leaf),(2000050,.leaf)],still := [] }
theorem lxB_ok:lxB.Ok cx.bare := Lx.ok_cons (PF.sm_ok pf82_ok) (Lx.ok_cons (PC.sm_ok k_rep_ok) (Lx.ok_cons (PC.sm_ok (PCOk.at2 (pc := k_acc) k_acc_ok (a0 := a_acc2) (y0 := y_acc2) k_acc2_ok)) (Lx.ok_cons (PC.sm_ok k_res_ok) (Lx.ok_cons (PC.sm_ok (PCOk.at2 (pc := ((k_nxt.at a_nxt2 y_nxt2).at a_nxt3 y_nxt3)) (PCOk.at2 (pc := (k_nxt.at a_nxt2 y_nxt2)) (PCOk.at2 (pc := k_nxt) k_nxt_ok (a0 := a_nxt2) (y0 := y_nxt2) k_nxt2_ok) (a0 := a_nxt3) (y0 := y_nxt3) k_nxt3_ok) (a0 := a_nxt4) (y0 := y_nxt4) k_nxt4_ok)) (Lx.ok_cons (PC.sm_ok (PCOk.at2 (pc := (k_leg1.at a_leg2 y_leg2)) (PCOk.at2 (pc := k_leg1) k_leg1_ok (a0 := a_leg2) (y0 := y_leg2) k_leg2_ok) (a0 := a_leg3) (y0 := y_leg3) k_leg3_ok)) (Lx.ok_cons (PC.sm_ok k_cla_ok) (Lx.ok_cons (PC.sm_ok k_clu_ok) (Lx.ok_cons (PC.sm_ok k_con_ok) (Lx.ok_cons (PC.sm_ok k_sta_ok) (Lx.ok_cons (PC.sm_ok k_cha_ok) (Lx.ok_cons (PC.sm_ok (pc81_ok 400).bare) (Lx.ok_cons (PC.sm_ok (pc83_ok 400).bare) (Lx.ok_cons (PC.sm_ok (pc63_ok 400).bare) (Lx.ok_cons (PC.sm_ok (pc44_ok 400).bare) (Lx.ok_cons (PC.sm_ok (pc45_ok 400).bare) (Lx.ok_nil))))))))))))))))
noncomputable def c20 (F:Nat) (a:Unit):Option Bool := some true
noncomputable def pc20 (F:Nat):PC := { ats := [],rts := [.val .bool],code := c20 F }
theorem aw_eq:codeOf cx.bare lxB 3000 .leaf f20 (bodyOf f20) [] [.val .bool] () = some true := by kernel_rfl
theorem pc20_ok (F:Nat):PCOk cx 20 (pc20 F) := PCOk.full (PCOk.of_eval (Cx.bare_ok cx_ok) lxB_ok (n := 3000) (an := .leaf) (fn := f20) (c := bodyOf f20) (by kernel_rfl) (by kernel_rfl) (fun a y h=>aw_eq.trans h) (by kernel_rfl))
noncomputable def lx12 (F:Nat):LK := lC (pc20_ok F) (lC (pc63_ok F) (lC (pc65_ok F) (lC (pc66_ok F) (lC (pc67_ok F) (lC (pc39_ok F) (lC (pc30_ok F) (lC (pc68_ok F) (lC (pc64_ok F) lN))))))))
noncomputable def c12 (F:Nat) (a:(TAth) × List (ByteArray × Int × Int) × Int):Option (Bool) :=
 Option.bind (loopO (σ := List (ByteArray × Int × Int) × Int) (β := List (ByteArray × Int × Int) × Bool ⊕ List (ByteArray × Int × Int)) (fun (v68:List (ByteArray × Int × Int) × Int)=>bif decide (v68.2 < (↑(List.length a.2.1):Int)) then (gd (decide ((0:Int) ≤ v68.2)) (gd (decide (v68.2 < (↑(List.length a.2.1):Int))) (gd (decide (Int.toNat v68.2 < List.length a.2.1)) (bif decide ((60:Int) < (↑(ByteArray.size (Prod.fst (List.getD a.2.1 (Int.toNat v68.2) (ByteArray.empty,(0:Int),(0:Int))))):Int)) then (some (Sum.inr (Sum.inl (v68.1,true)))) else (gd (decide (List.length v68.1 = List.length v68.1)) (gd (decide (List.length (v68.1 ++ (Prod.fst (List.getD a.2.1 (Int.toNat v68.2) (ByteArray.empty,(0:Int),(0:Int))),Prod.fst (Prod.snd (List.getD a.2.1 (Int.toNat v68.2) (ByteArray.empty,(0:Int),(0:Int)))),Prod.snd (Prod.snd (List.getD a.2.1 (Int.toNat v68.2) (ByteArray.empty,(0:Int),(0:Int))))) :: nilT (ByteArray × Int × Int)) * (32:Nat) ≤ (140737488355328:Nat))) (gd (decide (List.length (v68.1 ++ (Prod.fst (List.getD a.2.1 (Int.toNat v68.2) (ByteArray.empty,(0:Int),(0:Int))),Prod.fst (Prod.snd (List.getD a.2.1 (Int.toNat v68.2) (ByteArray.empty,(0:Int),(0:Int)))),Prod.snd (Prod.snd (List.getD a.2.1 (Int.toNat v68.2) (ByteArray.empty,(0:Int),(0:Int))))) :: nilT (ByteArray × Int × Int)) ≤ (9223372036854775807:Nat))) (Option.bind (gd (decide (List.length (v68.1 ++ (Prod.fst (List.getD a.2.1 (Int.toNat v68.2) (ByteArray.empty,(0:Int),(0:Int))),Prod.fst (Prod.snd (List.getD a.2.1 (Int.toNat v68.2) (ByteArray.empty,(0:Int),(0:Int)))),Prod.snd (Prod.snd (List.getD a.2.1 (Int.toNat v68.2) (ByteArray.empty,(0:Int),(0:Int))))) :: nilT (ByteArray × Int × Int)) = List.length (v68.1 ++ (Prod.fst (List.getD a.2.1 (Int.toNat v68.2) (ByteArray.empty,(0:Int),(0:Int))),Prod.fst (Prod.snd (List.getD a.2.1 (Int.toNat v68.2) (ByteArray.empty,(0:Int),(0:Int)))),Prod.snd (Prod.snd (List.getD a.2.1 (Int.toNat v68.2) (ByteArray.empty,(0:Int),(0:Int))))) :: nilT (ByteArray × Int × Int))) && true && (true && true)) (some ((v68.1 ++ (Prod.fst (List.getD a.2.1 (Int.toNat v68.2) (ByteArray.empty,(0:Int),(0:Int))),Prod.fst (Prod.snd (List.getD a.2.1 (Int.toNat v68.2) (ByteArray.empty,(0:Int),(0:Int)))),Prod.snd (Prod.snd (List.getD a.2.1 (Int.toNat v68.2) (ByteArray.empty,(0:Int),(0:Int))))) :: nilT (ByteArray × Int × Int),w64 (v68.2 + (1:Int)))))) fun (v69:List (ByteArray × Int × Int) × Int)=>some (Sum.inl v69))))))))) else (Option.bind (Option.bind (gd (decide (List.length v68.1 = List.length v68.1) && true && true) (some v68.1)) fun (v71:List (ByteArray × Int × Int))=>some (Sum.inr v71)) fun (v70:List (ByteArray × Int × Int) × Bool ⊕ List (ByteArray × Int × Int))=>some (Sum.inr v70))) F ((nilT (ByteArray × Int × Int),(0:Int)))) fun (v50:List (ByteArray × Int × Int) × Bool ⊕ List (ByteArray × Int × Int))=>Sum.elim (fun (v51:List (ByteArray × Int × Int) × Bool)=>some v51.2) (fun (v52:List (ByteArray × Int × Int))=>Option.bind (bif decide ((60:Int) < (↑(ByteArray.size a.1.1):Int)) then (some (true)) else (bif decide ((12:Int) < (↑(List.length a.2.1):Int)) then (bif decide ((↑(List.length a.2.1):Int) ≤ (256:Int)) then (some (true)) else (some (decide ((259:Int) < (↑(List.length a.2.1):Int))))) else (some (decide ((259:Int) < (↑(List.length a.2.1):Int)))))) fun (v53:Bool)=>bif v53 then (some (true)) else (Option.bind (c63 F ((a.1.1,a.1.2.1,a.1.2.2.1,a.1.2.2.2),a.2.2)) fun (v54:Int × Int)=>Option.bind (c64 F (a.2.1,a.1.1,a.2.2)) fun (v55:Bool × Int)=>Option.bind (c65 F ((a.1.1,a.1.2.1,a.1.2.2.1,a.1.2.2.2),a.2.2)) fun (v56:Int)=>Option.bind (bif decide (v56 = (0:Int)) then (some (w64 (Int.tdiv (w64 (a.2.2 - a.1.2.2.1)) (365:Int)))) else (some ((0:Int)))) fun (v57:Int)=>Option.bind (bif !decide (v54.2 = v56) then (some (true)) else (some (!decide (v54.1 = v57)))) fun (v58:Bool)=>bif v58 then (some (false)) else (Option.bind (gd (decide ((0:Nat) + List.length v52 ≤ List.length v52) && true) (Option.bind (c66 F (List.take (List.length v52) (List.drop (0:Nat) v52))) fun (v62:Int)=>Option.bind (c67 F a.1.1) fun (v63:Bool)=>Option.bind (c39 F (!v63,(8:Int))) fun (v64:Int)=>bif decide (a.2.2 < (0:Int)) then (Option.bind (c30 F (v62 :: v64 :: (3:Int) :: nilT Int)) fun (v65:Int)=>some (v65)) else (Option.bind (c39 F (decide ((99999:Int) < a.2.2),(3:Int))) fun (v66:Int)=>Option.bind (c30 F (v62 :: v64 :: v66 :: nilT Int)) fun (v67:Int)=>some (v67)))) fun (v59:Int)=>Option.bind (bif decide (v55.2 = v59) then (bif decide (v59 = (0:Int)) then (gd (decide ((0:Nat) + List.length v52 ≤ List.length v52) && (true && true) && true) (Option.bind (c68 F (List.take (List.length v52) (List.drop (0:Nat) v52),a.1.1,a.2.2)) fun (v61:Bool)=>bif v55.1 == v61 then (some (true)) else (some (false)))) else (bif v55.1 == false then (some (true)) else (some (false)))) else (some (false))) fun (v60:Bool)=>some (v60)))) (v50)
noncomputable def pc12 (F:Nat):PC := { ats := [.agg [.str,.str,.int .i64,.str],.val (.seq [.str,.int .i64,.int .i64]),.val (.int .i64)],rts := [.val (.bool)],code := c12 F }
theorem pc12_ok (F:Nat):PCOk cx 12 (pc12 F) := qE (lx12 F) (.two .leaf (.two .leaf (.two (.two .leaf (.one (.virt 7 125 [.str,.int .i64,.int .i64] (.loop ⟨[.vec 1 125 [.str,.int .i64,.int .i64],.slot 18 (.val (.int .i64))],[(7,.own 1)]⟩ [(.ret,⟨[.vec 1 125 [.str,.int .i64,.int .i64],.slot 6 (.val (.bool))],[]⟩),(.exit 0,⟨[.vec 1 125 [.str,.int .i64,.int .i64]],[(7,.own 1)]⟩)] ⟨[31,18,22,23,24,25,6,26,7,30,29,28,27,9,21,20,19],[1],[1]⟩ F .leaf)))) (.two (.two (.join [(.normal,⟨[.slot 50 (.val (.bool))],[]⟩)] ⟨[50,49,48,47,46,45,44,43,42,41,40,39,38,37,36,35,34,33,32],[],[]⟩ .leaf) .leaf) (.two .leaf (.two .leaf (.two .leaf (.two .leaf (.two (.two .leaf (.join [(.normal,⟨[.slot 15 (.val (.int .i64))],[]⟩)] ⟨[15,75,74,73,72,71],[],[]⟩ .leaf)) (.two (.two (.join [(.normal,⟨[.slot 83 (.val (.bool))],[]⟩)] ⟨[83,82,81,80,79,78,77,76],[],[]⟩ .leaf) .leaf) (.two (.join [(.normal,⟨[.slot 14 (.val (.int .i64))],[]⟩)] ⟨[14,99,98,97,96,95,94,93,92,91,90,89,88,87,86,85,84],[],[]⟩ .leaf) (.two (.join [(.normal,⟨[.slot 6 (.val (.bool))],[]⟩)] ⟨[6,118,117,116,115,114,113,112,111,110,109,108,107,106,105,104,103,102,101,100],[],[]⟩ .leaf) .leaf)))))))))))) f12 (by kernel_rfl) fun a=>by kernel_rfl
noncomputable def cv5 (F:Nat) (a:(TMt) × (TSt) × ByteArray) (x0:TMt) (x1:TSt):Option (Bool) :=
 Option.bind (Option.bind (c17 F (x0.1,x0.2.1,x0.2.2.1,x0.2.2.2.1,x0.2.2.2.2)) fun (u2:Bool)=>bif !u2 then (some (true)) else (Option.bind (c18 F (x1.1,x1.2.1,x1.2.2.1,x1.2.2.2.1,x1.2.2.2.2)) fun (u3:Bool)=>bif !u3 then (some (true)) else (some (decide ((60:Int) < (↑(ByteArray.size a.2.2):Int)))))) fun (u4:Bool)=>bif u4 then (some (true)) else (Option.bind (c36 F ((a.1.1,a.1.2.1,a.1.2.2.1,a.1.2.2.2.1,a.1.2.2.2.2),(a.2.1.1,a.2.1.2.1,a.2.1.2.2.1,a.2.1.2.2.2.1,a.2.1.2.2.2.2),a.2.2)) fun (u5:List ByteArray × Int)=>Option.bind (c37 F ((a.1.1,a.1.2.1,a.1.2.2.1,a.1.2.2.2.1,a.1.2.2.2.2),a.2.1.1,a.2.1.2.1,a.2.1.2.2.1,a.2.1.2.2.2.1,a.2.1.2.2.2.2)) fun (u6:List (ByteArray × ByteArray) × Int)=>Option.bind (c38 F ((a.1.1,a.1.2.1,a.1.2.2.1,a.1.2.2.2.1,a.1.2.2.2.2),a.2.1.1,a.2.1.2.1,a.2.1.2.2.1,a.2.1.2.2.2.1,a.2.1.2.2.2.2)) fun (u7:List Int × Int)=>Option.bind (c26 F ((x0.1,x0.2.1,x0.2.2.1,x0.2.2.2.1,x0.2.2.2.2),x1.1,x1.2.1,x1.2.2.1,x1.2.2.2.1,x1.2.2.2.2)) fun (u8:Int)=>Option.bind (c40 F ((x1.1,x1.2.1,x1.2.2.1,x1.2.2.2.1,x1.2.2.2.2),a.2.2)) fun (u9:Int)=>Option.bind (c39 F (decide (u9 < (0:Int)),(10:Int))) fun (u10:Int)=>Option.bind (c30 F (u8 :: u10 :: nilT Int)) fun (u11:Int)=>Option.bind (bif decide (u11 = (0:Int)) then (Option.bind (c41 F ((x0.1,x0.2.1,x0.2.2.1,x0.2.2.2.1,x0.2.2.2.2),(x1.1,x1.2.1,x1.2.2.1,x1.2.2.2.1,x1.2.2.2.2),a.2.2)) fun (u12:List ByteArray)=>some (u12)) else (some (nilT ByteArray))) fun (u13:List ByteArray)=>Option.bind (bif decide (u8 = (0:Int)) then (Option.bind (c42 F ((x0.1,x0.2.1,x0.2.2.1,x0.2.2.2.1,x0.2.2.2.2),x1.1,x1.2.1,x1.2.2.1,x1.2.2.2.1,x1.2.2.2.2)) fun (u14:List (ByteArray × ByteArray))=>Option.bind (c43 F (x1.1,x1.2.1,x1.2.2.1,x1.2.2.2.1,x1.2.2.2.2)) fun (u15:List Int)=>some ((u14,u15))) else (some ((nilT (ByteArray × ByteArray),nilT Int)))) fun (u16:List (ByteArray × ByteArray) × List Int)=>Option.bind (bif !decide (u5.2 = u11) then (some (true)) else (Option.bind (c44 F (u5.1,u13)) fun (u17:Bool)=>bif !u17 then (some (true)) else (bif !decide (u6.2 = u8) then (some (true)) else (bif !decide (u7.2 = u8) then (some (true)) else (bif !decide ((↑(List.length u6.1):Int) = (↑(List.length u16.1):Int)) then (some (true)) else (Option.bind (c45 F (u7.1,u16.2)) fun (u18:Bool)=>some (!u18))))))) fun (u19:Bool)=>bif u19 then (some (false)) else (Option.bind (loopO (σ := Int) (β := Bool ⊕ Unit) (fun (u20:Int)=>bif decide (u20 < (↑(List.length u6.1):Int)) then (gd (decide ((0:Int) ≤ u20)) (gd (decide (u20 < (↑(List.length u6.1):Int))) (gd (decide (Int.toNat u20 < List.length u6.1)) (gd (decide ((0:Int) ≤ u20)) (gd (decide (u20 < (↑(List.length u16.1):Int))) (gd (decide (Int.toNat u20 < List.length u16.1)) (bif !(Prod.fst (List.getD u6.1 (Int.toNat u20) (ByteArray.empty,ByteArray.empty)) == Prod.fst (List.getD u16.1 (Int.toNat u20) (ByteArray.empty,ByteArray.empty)) && (Prod.snd (List.getD u6.1 (Int.toNat u20) (ByteArray.empty,ByteArray.empty)) == Prod.snd (List.getD u16.1 (Int.toNat u20) (ByteArray.empty,ByteArray.empty)) && true)) then (some (Sum.inr (Sum.inl false))) else (some (Sum.inl (w64 (u20 + (1:Int)))))))))))) else (some (Sum.inr (Sum.inr ())))) F ((0:Int))) fun (u21:Bool ⊕ Unit)=>Sum.elim (fun (u22:Bool)=>some (u22)) (fun (u23:Unit)=>some (true)) (u21)))
noncomputable def c5 (F:Nat) (a:(TMt) × (TSt) × ByteArray):Option (Bool) :=
 Option.bind (Option.bind (c15 F (a.1.1,a.1.2.1,a.1.2.2.1,a.1.2.2.2.1,a.1.2.2.2.2)) fun (v513:TMt)=>Option.bind (Option.bind (c16 F (a.2.1.1,a.2.1.2.1,a.2.1.2.2.1,a.2.1.2.2.2.1,a.2.1.2.2.2.2)) fun (v614:TSt)=>Option.bind (cv5 F a v513 v614) fun (v615:Bool)=>Option.bind (cv5 F a v513 v614) fun (v616:Bool)=>gd (AEls.eqv (ATy.val Ty.bool :: nilT ATy) v615 v616) (some (v615))) fun (v514:Bool)=>Option.bind (Option.bind (Option.bind (Option.bind (c16 F (a.2.1.1,a.2.1.2.1,a.2.1.2.2.1,a.2.1.2.2.2.1,a.2.1.2.2.2.2)) fun (v591:TSt)=>cv5 F a v513 v591) fun (v566:Bool)=>Option.bind (Option.bind (c16 F (a.2.1.1,a.2.1.2.1,a.2.1.2.2.1,a.2.1.2.2.2.1,a.2.1.2.2.2.2)) fun (v568:TSt)=>cv5 F a v513 v568) fun (v567:Bool)=>gd (AEls.eqv (ATy.val Ty.bool :: nilT ATy) v566 v567) (some (v566))) fun (v516:Bool)=>Option.bind (Option.bind (Option.bind (c16 F (a.2.1.1,a.2.1.2.1,a.2.1.2.2.1,a.2.1.2.2.2.1,a.2.1.2.2.2.2)) fun (v543:TSt)=>cv5 F a v513 v543) fun (v518:Bool)=>Option.bind (Option.bind (c16 F (a.2.1.1,a.2.1.2.1,a.2.1.2.2.1,a.2.1.2.2.2.1,a.2.1.2.2.2.2)) fun (v520:TSt)=>cv5 F a v513 v520) fun (v519:Bool)=>gd (AEls.eqv (ATy.val Ty.bool :: nilT ATy) v518 v519) (some (v518))) fun (v517:Bool)=>gd (AEls.eqv (ATy.val Ty.bool :: nilT ATy) v516 v517) (some (v516))) fun (v515:Bool)=>gd (AEls.eqv (ATy.val Ty.bool :: nilT ATy) v514 v515) (some (v514))) fun (v359:Bool)=>Option.bind (Option.bind (Option.bind (Option.bind (c15 F (a.1.1,a.1.2.1,a.1.2.2.1,a.1.2.2.2.1,a.1.2.2.2.2)) fun (v464:TMt)=>Option.bind (Option.bind (c16 F (a.2.1.1,a.2.1.2.1,a.2.1.2.2.1,a.2.1.2.2.2.1,a.2.1.2.2.2.2)) fun (v490:TSt)=>cv5 F a v464 v490) fun (v465:Bool)=>Option.bind (Option.bind (c16 F (a.2.1.1,a.2.1.2.1,a.2.1.2.2.1,a.2.1.2.2.2.1,a.2.1.2.2.2.2)) fun (v467:TSt)=>cv5 F a v464 v467) fun (v466:Bool)=>gd (AEls.eqv (ATy.val Ty.bool :: nilT ATy) v465 v466) (some (v465))) fun (v438:Bool)=>Option.bind (Option.bind (c15 F (a.1.1,a.1.2.1,a.1.2.2.1,a.1.2.2.2.1,a.1.2.2.2.2)) fun (v440:TMt)=>Option.bind (c16 F (a.2.1.1,a.2.1.2.1,a.2.1.2.2.1,a.2.1.2.2.2.1,a.2.1.2.2.2.2)) fun (v441:TSt)=>cv5 F a v440 v441) fun (v439:Bool)=>gd (AEls.eqv (ATy.val Ty.bool :: nilT ATy) v438 v439) (some (v438))) fun (v361:Bool)=>Option.bind (Option.bind (Option.bind (c15 F (a.1.1,a.1.2.1,a.1.2.2.1,a.1.2.2.2.1,a.1.2.2.2.2)) fun (v389:TMt)=>Option.bind (Option.bind (c16 F (a.2.1.1,a.2.1.2.1,a.2.1.2.2.1,a.2.1.2.2.2.1,a.2.1.2.2.2.2)) fun (v415:TSt)=>cv5 F a v389 v415) fun (v390:Bool)=>Option.bind (Option.bind (c16 F (a.2.1.1,a.2.1.2.1,a.2.1.2.2.1,a.2.1.2.2.2.1,a.2.1.2.2.2.2)) fun (v392:TSt)=>cv5 F a v389 v392) fun (v391:Bool)=>gd (AEls.eqv (ATy.val Ty.bool :: nilT ATy) v390 v391) (some (v390))) fun (v363:Bool)=>Option.bind (Option.bind (c15 F (a.1.1,a.1.2.1,a.1.2.2.1,a.1.2.2.2.1,a.1.2.2.2.2)) fun (v365:TMt)=>Option.bind (c16 F (a.2.1.1,a.2.1.2.1,a.2.1.2.2.1,a.2.1.2.2.2.1,a.2.1.2.2.2.2)) fun (v366:TSt)=>cv5 F a v365 v366) fun (v364:Bool)=>gd (AEls.eqv (ATy.val Ty.bool :: nilT ATy) v363 v364) (some (v363))) fun (v362:Bool)=>gd (AEls.eqv (ATy.val Ty.bool :: nilT ATy) v361 v362) (some (v361))) fun (v360:Bool)=>gd (AEls.eqv (ATy.val Ty.bool :: nilT ATy) v359 v360) (some (v359))
theorem law12 (a:(TAth) × List (ByteArray × Int × Int) × Int) (hok:AEls.ok [.agg [.str,.str,.int .i64,.str],.val (.seq [.str,.int .i64,.int .i64]),.val (.int .i64)] a):∃ F,c12 F a = some true := by
 obtain ⟨⟨n,c,born,k⟩,l,day⟩ := a
 obtain ⟨-,⟨hb,-⟩,-⟩ := hok
 have hb:l.length * 32 ≤ 140737488351232 := hb
 refine ⟨l.length + 4000,?_⟩
 obtain ⟨F,hF⟩:∃ F,F = l.length + 4000 := ⟨_,rfl⟩
 rw [← hF]
 unfold c12
 refine bind_list l (fun out i=>(out,(i:Int))) (fun x out=>if decide (60 < x.1.size) = true then .inr (.inl (out,true)) else .inl (out ++ [x])) (fun out=>.inr out) (fun i s=>s.length = i) (nilT _) (by omega) rfl rfl ?_ ?_ ?_
 ·intro i x out hi hx hl
  have hl2:(out ++ [x]).length = i + 1 := by simp [hl]
  have e:∀ y:ByteArray × Int × Int,y :: nilT (ByteArray × Int × Int) = [y] := fun _=>rfl
  refine ⟨?_,fun s' hs=>?_⟩
  ·simp (disch := omega) only [cd_pos,gd_dec,Int.toNat_natCast,getD_some hx,w64_in,e,hl2,hl,decide_true,Bool.and_self,gd_true,Option.bind_some]
   by_cases h:60 < x.1.size
   ·have h':(60:Int) < x.1.size := by omega
    simp [h,h']
   ·have h':¬ (60:Int) < x.1.size := by omega
    simp [h,h']
  ·by_cases h:60 < x.1.size
   ·simp [h] at hs
   ·simp only [h,decide_false,Bool.false_eq_true,if_false,Sum.inl.injEq] at hs
    rw [← hs]
    exact hl2
 ·intro out hl
  simp (disch := omega) only [cd_neg,decide_true,Bool.and_self,gd_true,Option.bind_some]
 ·rcases goL_cpy (fun x:ByteArray × Int × Int=>decide (60 < x.1.size)) l (nilT _) with ⟨o,ho⟩ | ⟨ho,hp⟩
  ·rw [ho]
   rfl
  ·rw [ho,show nilT (ByteArray × Int × Int) ++ l = l from rfl]
   simp only [Sum.elim_inr]
   have hp:∀ x ∈ l,x.1.size ≤ 300 := fun x hx=>by
    have := hp x hx
    simp only [decide_eq_false_iff_not] at this
    omega
   by_cases hn:(60:Int) < n.size
   ·simp [hn]
   ·have hn':n.size ≤ 300 := by omega
    by_cases h1:(259:Int) < l.length
    ·have h2:(12:Int) < l.length := by omega
     have h3:¬ (l.length:Int) ≤ 256 := by omega
     simp [hn,h1,h2,h3]
    ·by_cases h2:(12:Int) < l.length ∧ (l.length:Int) ≤ 256
     ·simp [hn,h2.1,h2.2]
     ·have hl:l.length ≤ 300 := by omega
      have e0:(bif decide ((60:Int) < n.size) then some true else (bif decide ((12:Int) < l.length) then (bif decide ((l.length:Int) ≤ 256) then some true else some (decide ((259:Int) < l.length))) else some (decide ((259:Int) < l.length)))) = some false := by
       by_cases h3:(12:Int) < l.length
       ·have h4:¬ (l.length:Int) ≤ 256 := by omega
        simp [hn,h1,h3,h4]
       ·simp [hn,h1,h3]
      have e1:c85 F (day :: nilT Int) = some (if dayB day = true then 3 else 0) := by
       rw [l85 (by simp [nilT]; omega) (by simp [nilT])]
       simp [nilT]
      have e3:∀ a b c,c84 F (a :: b :: c :: nilT Int) = some (firstNZ [a,b,c]) := fun a b c=>l84 (by simp [nilT]; omega) (by simp [nilT])
      have e4:∀ a b c,c30 F (a :: b :: c :: nilT Int) = some (firstNZ [a,b,c]) := fun a b c=>l30 (by simp [nilT]; omega) (by simp [nilT])
      have e5:c64 F (l,n,day) = some (if 256 < l.length then (false,5) else if firstNZ [firstNZ (l.map licE),if nameB n = true then 0 else 8,if dayB day = true then 3 else 0] = 0 then (l.any (holdB n day),0) else (false,firstNZ [firstNZ (l.map licE),if nameB n = true then 0 else 8,if dayB day = true then 3 else 0])) := by
       unfold c64
       by_cases h3:256 < l.length
       ·have h3':(256:Int) < l.length := by omega
        simp only [h3,h3',decide_true,cond_true,if_true]
       ·have h3':¬ (256:Int) < l.length := by omega
        simp only [h3,h3',decide_false,cond_false,if_false,x112 (F := F) (l := l) (by omega) (by omega) hp,l92 (show 400 ≤ F by omega) hn',e1,e3,Option.bind_some,l147 (F := F) (l := l) (by omega) (by omega)]
        by_cases h:firstNZ [firstNZ (l.map licE),if nameB n = true then 0 else 8,if dayB day = true then 3 else 0] = 0 <;> simp [h]
      have e6:(Option.bind (c67 F n) fun (v63:Bool)=>Option.bind (c39 F (!v63,(8:Int))) fun (v64:Int)=>bif Decidable.decide (day < (0:Int)) then (Option.bind (c30 F ((if 256 < l.length then 5 else firstNZ (l.map licE)) :: v64 :: (3:Int) :: nilT Int)) fun (v65:Int)=>some (v65)) else (Option.bind (c39 F (Decidable.decide ((99999:Int) < day),(3:Int))) fun (v66:Int)=>Option.bind (c30 F ((if 256 < l.length then 5 else firstNZ (l.map licE)) :: v64 :: v66 :: nilT Int)) fun (v67:Int)=>some (v67))) = some (if 256 < l.length then 5 else firstNZ [firstNZ (l.map licE),if nameB n = true then 0 else 8,if dayB day = true then 3 else 0]) := by
       simp only [l67 (show 400 ≤ F by omega),l39,e4,Option.bind_some]
       by_cases h3:256 < l.length
       ·simp only [h3,if_true]
        by_cases h4:day < 0 <;> simp [h4,firstNZ]
       ·simp only [h3,if_false]
        unfold dayB
        by_cases h4:day < 0
        ·cases nameB n <;> simp [h4]
        ·by_cases h5:99999 < day <;> cases nameB n <;> simp [h4,h5]
      simp only [e0,Option.bind_some,cond_false,l63 (show 400 ≤ F by omega) n c born k day hn',l65 (show 400 ≤ F by omega),e5,List.drop_zero,List.take_length,Nat.zero_add,Nat.le_refl,decide_true,Bool.and_self,gd_true,l66 (F := F) (l := l) (by omega) (by omega),e6,l68 (F := F) (l := l) (by omega) (by omega)]
      generalize ageE n born day = ae
      generalize w64 (Int.tdiv (w64 (day - born)) 365) = ag
      generalize firstNZ [firstNZ (l.map licE),if nameB n = true then 0 else 8,if dayB day = true then 3 else 0] = le
      generalize l.any (holdB n day) = hl2
      by_cases h3:256 < l.length
      ·by_cases h4:ae = 0 <;> simp [h3,h4]
      ·by_cases h4:ae = 0 <;> by_cases h5:le = 0 <;> simp [h3,h4,h5]
end Go.Proofs.Tryz

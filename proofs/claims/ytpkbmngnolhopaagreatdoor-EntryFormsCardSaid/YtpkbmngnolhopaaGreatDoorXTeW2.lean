/- awake: CheckAct, Legal and Next at further acts awake: Replay and Changed at the examples And further parts. -/
import Derived.Test.YtpkbmngnolhopaaGreatDoorXTeW0
set_option maxRecDepth 1000000
set_option linter.unusedVariables false
namespace Go.Proofs.Tryz
open Go Go.Sx
noncomputable def lxTeW20:Lx := { ext := [(98,(pc98 400).sm),(99,(pc99 400).sm)],anns := [],still := [] }
theorem lxTeW20_ok:lxTeW20.Ok cx.bare := Lx.ok_cons (PC.sm_ok (pc98_ok 400).bare) (Lx.ok_cons (PC.sm_ok (pc99_ok 400).bare) (Lx.ok_nil))
def a_actW:(TAct) := (7960,bs [119,105,116,104,100,114,97,119],bs [97,109,121],bs [],bs [],bs [115,112,114,105,110,116],0,0,bs [],0,bs [],[])
def y_actW:Int := 0
theorem q_actW:codeOf cx.bare lxTeW20 3000 .leaf f23 (bodyOf f23) at_actO0 rt_actO0 a_actW = some y_actW := by kernel_rfl
noncomputable def k_actW:PC := { ats := at_actO0,rts := rt_actO0,code := Go.Sx.one (ats := at_actO0) (rts := rt_actO0) a_actW y_actW }
theorem k_actW_ok:PCOk cx.bare 23 k_actW := PCOk.of_eval (Cx.bare_ok cx_ok) lxTeW20_ok (n := 3000) (an := .leaf) (fn := f23) (c := bodyOf f23) (by kernel_rfl) (by kernel_rfl) (fun a y h=>by
 obtain ⟨h1,h2⟩ := Go.Sx.one_some h
 subst h1; subst h2
 exact q_actW) (by kernel_rfl)
def a_actT:(TAct) := (7960,bs [116,101,97,109],bs [],bs [65],bs [],bs [114,101,108,97,121],0,0,bs [],0,bs [],[bs [97,110,110],bs [97,109,121]])
def y_actT:Int := 0
theorem q_actT:codeOf cx.bare lxTeW20 3000 .leaf f23 (bodyOf f23) at_actO0 rt_actO0 a_actT = some y_actT := by kernel_rfl
noncomputable def k_actT:PC := { ats := at_actO0,rts := rt_actO0,code := Go.Sx.one (ats := at_actO0) (rts := rt_actO0) a_actT y_actT }
theorem k_actT_ok:PCOk cx.bare 23 k_actT := PCOk.of_eval (Cx.bare_ok cx_ok) lxTeW20_ok (n := 3000) (an := .leaf) (fn := f23) (c := bodyOf f23) (by kernel_rfl) (by kernel_rfl) (fun a y h=>by
 obtain ⟨h1,h2⟩ := Go.Sx.one_some h
 subst h1; subst h2
 exact q_actT) (by kernel_rfl)
def a_actC:(TAct) := (8000,bs [99,104,101,99,107],bs [97,110,110],bs [],bs [],bs [115,112,114,105,110,116],0,0,bs [],0,bs [],[])
def y_actC:Int := 0
theorem q_actC:codeOf cx.bare lxTeW20 3000 .leaf f23 (bodyOf f23) at_actO0 rt_actO0 a_actC = some y_actC := by kernel_rfl
noncomputable def k_actC:PC := { ats := at_actO0,rts := rt_actO0,code := Go.Sx.one (ats := at_actO0) (rts := rt_actO0) a_actC y_actC }
theorem k_actC_ok:PCOk cx.bare 23 k_actC := PCOk.of_eval (Cx.bare_ok cx_ok) lxTeW20_ok (n := 3000) (an := .leaf) (fn := f23) (c := bodyOf f23) (by kernel_rfl) (by kernel_rfl) (fun a y h=>by
 obtain ⟨h1,h2⟩ := Go.Sx.one_some h
 subst h1; subst h2
 exact q_actC) (by kernel_rfl)
def a_actD:(TAct) := (8000,bs [99,104,101,99,107],bs [97,109,121],bs [],bs [],bs [115,112,114,105,110,116],0,0,bs [],0,bs [],[])
def y_actD:Int := 0
theorem q_actD:codeOf cx.bare lxTeW20 3000 .leaf f23 (bodyOf f23) at_actO0 rt_actO0 a_actD = some y_actD := by kernel_rfl
noncomputable def k_actD:PC := { ats := at_actO0,rts := rt_actO0,code := Go.Sx.one (ats := at_actO0) (rts := rt_actO0) a_actD y_actD }
theorem k_actD_ok:PCOk cx.bare 23 k_actD := PCOk.of_eval (Cx.bare_ok cx_ok) lxTeW20_ok (n := 3000) (an := .leaf) (fn := f23) (c := bodyOf f23) (by kernel_rfl) (by kernel_rfl) (fun a y h=>by
 obtain ⟨h1,h2⟩ := Go.Sx.one_some h
 subst h1; subst h2
 exact q_actD) (by kernel_rfl)
def a_act1:(TAct) := (7960,bs [101,110,116,101,114],bs [97,109,121],bs [],bs [],bs [115,112,114,105,110,116],0,0,bs [116,105,109,101],125000,bs [],[])
def y_act1:Int := 0
theorem q_act1:codeOf cx.bare lxTeW20 3000 .leaf f23 (bodyOf f23) at_actO0 rt_actO0 a_act1 = some y_act1 := by kernel_rfl
noncomputable def k_act1:PC := { ats := at_actO0,rts := rt_actO0,code := Go.Sx.one (ats := at_actO0) (rts := rt_actO0) a_act1 y_act1 }
theorem k_act1_ok:PCOk cx.bare 23 k_act1 := PCOk.of_eval (Cx.bare_ok cx_ok) lxTeW20_ok (n := 3000) (an := .leaf) (fn := f23) (c := bodyOf f23) (by kernel_rfl) (by kernel_rfl) (fun a y h=>by
 obtain ⟨h1,h2⟩ := Go.Sx.one_some h
 subst h1; subst h2
 exact q_act1) (by kernel_rfl)
def a_act2:(TAct) := (7999,bs [101,110,116,101,114],bs [97,109,121],bs [],bs [],bs [115,112,114,105,110,116],0,0,bs [116,105,109,101],115000,bs [],[])
def y_act2:Int := 0
theorem q_act2:codeOf cx.bare lxTeW20 3000 .leaf f23 (bodyOf f23) at_actO0 rt_actO0 a_act2 = some y_act2 := by kernel_rfl
noncomputable def k_act2:PC := { ats := at_actO0,rts := rt_actO0,code := Go.Sx.one (ats := at_actO0) (rts := rt_actO0) a_act2 y_act2 }
theorem k_act2_ok:PCOk cx.bare 23 k_act2 := PCOk.of_eval (Cx.bare_ok cx_ok) lxTeW20_ok (n := 3000) (an := .leaf) (fn := f23) (c := bodyOf f23) (by kernel_rfl) (by kernel_rfl) (fun a y h=>by
 obtain ⟨h1,h2⟩ := Go.Sx.one_some h
 subst h1; subst h2
 exact q_act2) (by kernel_rfl)
def a_act3:(TAct) := (7960,bs [116,101,97,109],bs [],bs [65],bs [],bs [114,101,108,97,121],0,0,bs [],0,bs [],[bs [97,110,110],bs [98,101,97]])
def y_act3:Int := 0
theorem q_act3:codeOf cx.bare lxTeW20 3000 .leaf f23 (bodyOf f23) at_actO0 rt_actO0 a_act3 = some y_act3 := by kernel_rfl
noncomputable def k_act3:PC := { ats := at_actO0,rts := rt_actO0,code := Go.Sx.one (ats := at_actO0) (rts := rt_actO0) a_act3 y_act3 }
theorem k_act3_ok:PCOk cx.bare 23 k_act3 := PCOk.of_eval (Cx.bare_ok cx_ok) lxTeW20_ok (n := 3000) (an := .leaf) (fn := f23) (c := bodyOf f23) (by kernel_rfl) (by kernel_rfl) (fun a y h=>by
 obtain ⟨h1,h2⟩ := Go.Sx.one_some h
 subst h1; subst h2
 exact q_act3) (by kernel_rfl)
noncomputable def lxTeW21:Lx := { ext := [(23,((((((k_actW.at a_actT y_actT).at a_actC y_actC).at a_actD y_actD).at a_act1 y_act1).at a_act2 y_act2).at a_act3 y_act3).sm),(25,(pc25 400).sm),(135,(pc135 400).sm)],anns := [],still := [] }
theorem lxTeW21_ok:lxTeW21.Ok cx.bare := Lx.ok_cons (PC.sm_ok (PCOk.at2 (pc := (((((k_actW.at a_actT y_actT).at a_actC y_actC).at a_actD y_actD).at a_act1 y_act1).at a_act2 y_act2)) (PCOk.at2 (pc := ((((k_actW.at a_actT y_actT).at a_actC y_actC).at a_actD y_actD).at a_act1 y_act1)) (PCOk.at2 (pc := (((k_actW.at a_actT y_actT).at a_actC y_actC).at a_actD y_actD)) (PCOk.at2 (pc := ((k_actW.at a_actT y_actT).at a_actC y_actC)) (PCOk.at2 (pc := (k_actW.at a_actT y_actT)) (PCOk.at2 (pc := k_actW) k_actW_ok (a0 := a_actT) (y0 := y_actT) k_actT_ok) (a0 := a_actC) (y0 := y_actC) k_actC_ok) (a0 := a_actD) (y0 := y_actD) k_actD_ok) (a0 := a_act1) (y0 := y_act1) k_act1_ok) (a0 := a_act2) (y0 := y_act2) k_act2_ok) (a0 := a_act3) (y0 := y_act3) k_act3_ok)) (Lx.ok_cons (PC.sm_ok (pc25_ok 400).bare) (Lx.ok_cons (PC.sm_ok (pc135_ok 400).bare) (Lx.ok_nil)))
def a_legW:(TMt) × (TSt) × (TAct) := (opn,stS,(7960,bs [119,105,116,104,100,114,97,119],bs [97,109,121],bs [],bs [],bs [115,112,114,105,110,116],0,0,bs [],0,bs [],[]))
def y_legW:Int := 0
abbrev at_legW:List ATy := [.agg [.int .i64,.int .i64,.int .i64,.int .i64,.seq [.str,.str,.str,.int .i64,.int .i64,.int .i64,.int .i64,.str,.int .i64,.str,.int .i64]],.agg [.seq [.str],.seq [.str,.str,.int .i64,.str],.seq [.str,.int .i64,.int .i64],.seq [.str,.str,.str,.int .i64,.str,.int .i64,.bool],.seq [.str,.str,.seq [.str]]],.agg [.int .i64,.str,.str,.str,.str,.str,.int .i64,.int .i64,.str,.int .i64,.str,.seq [.str]]]
theorem q_legW:codeOf cx.bare lxTeW21 3000 .leaf f49 (bodyOf f49) at_legW rt_actO0 a_legW = some y_legW := by kernel_rfl
noncomputable def k_legW:PC := { ats := at_legW,rts := rt_actO0,code := Go.Sx.one (ats := at_legW) (rts := rt_actO0) a_legW y_legW }
theorem k_legW_ok:PCOk cx.bare 49 k_legW := PCOk.of_eval (Cx.bare_ok cx_ok) lxTeW21_ok (n := 3000) (an := .leaf) (fn := f49) (c := bodyOf f49) (by kernel_rfl) (by kernel_rfl) (fun a y h=>by
 obtain ⟨h1,h2⟩ := Go.Sx.one_some h
 subst h1; subst h2
 exact q_legW) (by kernel_rfl)
def a_legT:(TMt) × (TSt) × (TAct) := (opn,stS,(7960,bs [116,101,97,109],bs [],bs [65],bs [],bs [114,101,108,97,121],0,0,bs [],0,bs [],[bs [97,110,110],bs [97,109,121]]))
def y_legT:Int := 0
theorem q_legT:codeOf cx.bare lxTeW21 3000 .leaf f49 (bodyOf f49) at_legW rt_actO0 a_legT = some y_legT := by kernel_rfl
noncomputable def k_legT:PC := { ats := at_legW,rts := rt_actO0,code := Go.Sx.one (ats := at_legW) (rts := rt_actO0) a_legT y_legT }
theorem k_legT_ok:PCOk cx.bare 49 k_legT := PCOk.of_eval (Cx.bare_ok cx_ok) lxTeW21_ok (n := 3000) (an := .leaf) (fn := f49) (c := bodyOf f49) (by kernel_rfl) (by kernel_rfl) (fun a y h=>by
 obtain ⟨h1,h2⟩ := Go.Sx.one_some h
 subst h1; subst h2
 exact q_legT) (by kernel_rfl)
def a_legC:(TMt) × (TSt) × (TAct) := (opn,stS,(8000,bs [99,104,101,99,107],bs [97,110,110],bs [],bs [],bs [115,112,114,105,110,116],0,0,bs [],0,bs [],[]))
def y_legC:Int := 0
theorem q_legC:codeOf cx.bare lxTeW21 3000 .leaf f49 (bodyOf f49) at_legW rt_actO0 a_legC = some y_legC := by kernel_rfl
noncomputable def k_legC:PC := { ats := at_legW,rts := rt_actO0,code := Go.Sx.one (ats := at_legW) (rts := rt_actO0) a_legC y_legC }
theorem k_legC_ok:PCOk cx.bare 49 k_legC := PCOk.of_eval (Cx.bare_ok cx_ok) lxTeW21_ok (n := 3000) (an := .leaf) (fn := f49) (c := bodyOf f49) (by kernel_rfl) (by kernel_rfl) (fun a y h=>by
 obtain ⟨h1,h2⟩ := Go.Sx.one_some h
 subst h1; subst h2
 exact q_legC) (by kernel_rfl)
def a_legD:(TMt) × (TSt) × (TAct) := (opn,stX,(8000,bs [99,104,101,99,107],bs [97,109,121],bs [],bs [],bs [115,112,114,105,110,116],0,0,bs [],0,bs [],[]))
def y_legD:Int := 0
theorem q_legD:codeOf cx.bare lxTeW21 3000 .leaf f49 (bodyOf f49) at_legW rt_actO0 a_legD = some y_legD := by kernel_rfl
noncomputable def k_legD:PC := { ats := at_legW,rts := rt_actO0,code := Go.Sx.one (ats := at_legW) (rts := rt_actO0) a_legD y_legD }
theorem k_legD_ok:PCOk cx.bare 49 k_legD := PCOk.of_eval (Cx.bare_ok cx_ok) lxTeW21_ok (n := 3000) (an := .leaf) (fn := f49) (c := bodyOf f49) (by kernel_rfl) (by kernel_rfl) (fun a y h=>by
 obtain ⟨h1,h2⟩ := Go.Sx.one_some h
 subst h1; subst h2
 exact q_legD) (by kernel_rfl)
def a_leg1:(TMt) × (TSt) × (TAct) := (opn,stT,(7960,bs [101,110,116,101,114],bs [97,109,121],bs [],bs [],bs [115,112,114,105,110,116],0,0,bs [116,105,109,101],125000,bs [],[]))
def y_leg1:Int := 30
theorem q_leg1:codeOf cx.bare lxTeW21 3000 .leaf f49 (bodyOf f49) at_legW rt_actO0 a_leg1 = some y_leg1 := by kernel_rfl
noncomputable def k_leg1:PC := { ats := at_legW,rts := rt_actO0,code := Go.Sx.one (ats := at_legW) (rts := rt_actO0) a_leg1 y_leg1 }
theorem k_leg1_ok:PCOk cx.bare 49 k_leg1 := PCOk.of_eval (Cx.bare_ok cx_ok) lxTeW21_ok (n := 3000) (an := .leaf) (fn := f49) (c := bodyOf f49) (by kernel_rfl) (by kernel_rfl) (fun a y h=>by
 obtain ⟨h1,h2⟩ := Go.Sx.one_some h
 subst h1; subst h2
 exact q_leg1) (by kernel_rfl)
def a_leg2:(TMt) × (TSt) × (TAct) := (opn,stT,(7999,bs [101,110,116,101,114],bs [97,109,121],bs [],bs [],bs [115,112,114,105,110,116],0,0,bs [116,105,109,101],115000,bs [],[]))
def y_leg2:Int := 19
theorem q_leg2:codeOf cx.bare lxTeW21 3000 .leaf f49 (bodyOf f49) at_legW rt_actO0 a_leg2 = some y_leg2 := by kernel_rfl
noncomputable def k_leg2:PC := { ats := at_legW,rts := rt_actO0,code := Go.Sx.one (ats := at_legW) (rts := rt_actO0) a_leg2 y_leg2 }
theorem k_leg2_ok:PCOk cx.bare 49 k_leg2 := PCOk.of_eval (Cx.bare_ok cx_ok) lxTeW21_ok (n := 3000) (an := .leaf) (fn := f49) (c := bodyOf f49) (by kernel_rfl) (by kernel_rfl) (fun a y h=>by
 obtain ⟨h1,h2⟩ := Go.Sx.one_some h
 subst h1; subst h2
 exact q_leg2) (by kernel_rfl)
def a_leg3:(TMt) × (TSt) × (TAct) := (opn,stT,(7960,bs [116,101,97,109],bs [],bs [65],bs [],bs [114,101,108,97,121],0,0,bs [],0,bs [],[bs [97,110,110],bs [98,101,97]]))
def y_leg3:Int := 18
theorem q_leg3:codeOf cx.bare lxTeW21 3000 .leaf f49 (bodyOf f49) at_legW rt_actO0 a_leg3 = some y_leg3 := by kernel_rfl
noncomputable def k_leg3:PC := { ats := at_legW,rts := rt_actO0,code := Go.Sx.one (ats := at_legW) (rts := rt_actO0) a_leg3 y_leg3 }
theorem k_leg3_ok:PCOk cx.bare 49 k_leg3 := PCOk.of_eval (Cx.bare_ok cx_ok) lxTeW21_ok (n := 3000) (an := .leaf) (fn := f49) (c := bodyOf f49) (by kernel_rfl) (by kernel_rfl) (fun a y h=>by
 obtain ⟨h1,h2⟩ := Go.Sx.one_some h
 subst h1; subst h2
 exact q_leg3) (by kernel_rfl)
noncomputable def lxTeW22:Lx := { ext := [(150,(pf150 400).sm),(199,(pf199 400).sm),(200,(pf200 400).sm),(201,(pf201 400).sm),(202,(pf202 400).sm)],anns := [],still := [] }
theorem lxTeW22_ok:lxTeW22.Ok cx.bare := Lx.ok_cons (PF.sm_ok (pf150_ok 400).bare) (Lx.ok_cons (PF.sm_ok (pf199_ok 400).bare) (Lx.ok_cons (PF.sm_ok (pf200_ok 400).bare) (Lx.ok_cons (PF.sm_ok (pf201_ok 400).bare) (Lx.ok_cons (PF.sm_ok (pf202_ok 400).bare) (Lx.ok_nil)))))
def a_cpy:TSt := stS
def y_cpy:TSt := stS
abbrev at_cpy:List ATy := [.agg [.seq [.str],.seq [.str,.str,.int .i64,.str],.seq [.str,.int .i64,.int .i64],.seq [.str,.str,.str,.int .i64,.str,.int .i64,.bool],.seq [.str,.str,.seq [.str]]]]
theorem q_cpy:codeOf cx.bare lxTeW22 3000 .leaf f136 (bodyOf f136) at_cpy at_cpy a_cpy = some y_cpy := by kernel_rfl
noncomputable def k_cpy:PC := { ats := at_cpy,rts := at_cpy,code := Go.Sx.one (ats := at_cpy) (rts := at_cpy) a_cpy y_cpy }
theorem k_cpy_ok:PCOk cx.bare 136 k_cpy := PCOk.of_eval (Cx.bare_ok cx_ok) lxTeW22_ok (n := 3000) (an := .leaf) (fn := f136) (c := bodyOf f136) (by kernel_rfl) (by kernel_rfl) (fun a y h=>by
 obtain ⟨h1,h2⟩ := Go.Sx.one_some h
 subst h1; subst h2
 exact q_cpy) (by kernel_rfl)
def a_cpy2:TSt := stX
def y_cpy2:TSt := stX
theorem q_cpy2:codeOf cx.bare lxTeW22 3000 .leaf f136 (bodyOf f136) at_cpy at_cpy a_cpy2 = some y_cpy2 := by kernel_rfl
noncomputable def k_cpy2:PC := { ats := at_cpy,rts := at_cpy,code := Go.Sx.one (ats := at_cpy) (rts := at_cpy) a_cpy2 y_cpy2 }
theorem k_cpy2_ok:PCOk cx.bare 136 k_cpy2 := PCOk.of_eval (Cx.bare_ok cx_ok) lxTeW22_ok (n := 3000) (an := .leaf) (fn := f136) (c := bodyOf f136) (by kernel_rfl) (by kernel_rfl) (fun a y h=>by
 obtain ⟨h1,h2⟩ := Go.Sx.one_some h
 subst h1; subst h2
 exact q_cpy2) (by kernel_rfl)
noncomputable def lxTeW23:Lx := { ext := [(49,(((k_legW.at a_legT y_legT).at a_legC y_legC).at a_legD y_legD).sm),(136,(k_cpy2.at a_cpy y_cpy).sm),(150,(pf150 400).sm),(199,(pf199 400).sm),(200,(pf200 400).sm),(201,(pf201 400).sm),(202,(pf202 400).sm),(186,(pc186 400).sm),(187,(pc187 400).sm),(105,(pc105 400).sm),(219,(pc219 400).sm)],anns := [(217,annDel (bodyOf f217)),(2000219,.leaf)],still := [] }
theorem lxTeW23_ok:lxTeW23.Ok cx.bare := Lx.ok_cons (PC.sm_ok (PCOk.at2 (pc := ((k_legW.at a_legT y_legT).at a_legC y_legC)) (PCOk.at2 (pc := (k_legW.at a_legT y_legT)) (PCOk.at2 (pc := k_legW) k_legW_ok (a0 := a_legT) (y0 := y_legT) k_legT_ok) (a0 := a_legC) (y0 := y_legC) k_legC_ok) (a0 := a_legD) (y0 := y_legD) k_legD_ok)) (Lx.ok_cons (PC.sm_ok (PCOk.at2 (pc := k_cpy2) k_cpy2_ok (a0 := a_cpy) (y0 := y_cpy) k_cpy_ok)) (Lx.ok_cons (PF.sm_ok (pf150_ok 400).bare) (Lx.ok_cons (PF.sm_ok (pf199_ok 400).bare) (Lx.ok_cons (PF.sm_ok (pf200_ok 400).bare) (Lx.ok_cons (PF.sm_ok (pf201_ok 400).bare) (Lx.ok_cons (PF.sm_ok (pf202_ok 400).bare) (Lx.ok_cons (PC.sm_ok (pc186_ok 400).bare) (Lx.ok_cons (PC.sm_ok (pc187_ok 400).bare) (Lx.ok_cons (PC.sm_ok (pc105_ok 400).bare) (Lx.ok_cons (PC.sm_ok (pc219_ok 400).bare) (Lx.ok_nil)))))))))))
def a_nxt:(TMt) × (TSt) × (TAct) := (opn,stS,(7960,bs [119,105,116,104,100,114,97,119],bs [97,109,121],bs [],bs [],bs [115,112,114,105,110,116],0,0,bs [],0,bs [],[]))
def y_nxt:(TSt) × Int := (stT,0)
abbrev rt_nxt:List ATy := [.agg [.seq [.str],.seq [.str,.str,.int .i64,.str],.seq [.str,.int .i64,.int .i64],.seq [.str,.str,.str,.int .i64,.str,.int .i64,.bool],.seq [.str,.str,.seq [.str]]],.val (.int .i64)]
theorem q_nxt:codeOf cx.bare lxTeW23 3000 .leaf f50 (bodyOf f50) at_legW rt_nxt a_nxt = some y_nxt := by kernel_rfl
noncomputable def k_nxt:PC := { ats := at_legW,rts := rt_nxt,code := Go.Sx.one (ats := at_legW) (rts := rt_nxt) a_nxt y_nxt }
theorem k_nxt_ok:PCOk cx.bare 50 k_nxt := PCOk.of_eval (Cx.bare_ok cx_ok) lxTeW23_ok (n := 3000) (an := .leaf) (fn := f50) (c := bodyOf f50) (by kernel_rfl) (by kernel_rfl) (fun a y h=>by
 obtain ⟨h1,h2⟩ := Go.Sx.one_some h
 subst h1; subst h2
 exact q_nxt) (by kernel_rfl)
def a_nxt3:(TMt) × (TSt) × (TAct) := (opn,stS,(8000,bs [99,104,101,99,107],bs [97,110,110],bs [],bs [],bs [115,112,114,105,110,116],0,0,bs [],0,bs [],[]))
def y_nxt3:(TSt) × Int := (stX,0)
theorem q_nxt3:codeOf cx.bare lxTeW23 3000 .leaf f50 (bodyOf f50) at_legW rt_nxt a_nxt3 = some y_nxt3 := by kernel_rfl
noncomputable def k_nxt3:PC := { ats := at_legW,rts := rt_nxt,code := Go.Sx.one (ats := at_legW) (rts := rt_nxt) a_nxt3 y_nxt3 }
theorem k_nxt3_ok:PCOk cx.bare 50 k_nxt3 := PCOk.of_eval (Cx.bare_ok cx_ok) lxTeW23_ok (n := 3000) (an := .leaf) (fn := f50) (c := bodyOf f50) (by kernel_rfl) (by kernel_rfl) (fun a y h=>by
 obtain ⟨h1,h2⟩ := Go.Sx.one_some h
 subst h1; subst h2
 exact q_nxt3) (by kernel_rfl)
def a_nxt4:(TMt) × (TSt) × (TAct) := (opn,stX,(8000,bs [99,104,101,99,107],bs [97,109,121],bs [],bs [],bs [115,112,114,105,110,116],0,0,bs [],0,bs [],[]))
def y_nxt4:(TSt) × Int := (stY,0)
theorem q_nxt4:codeOf cx.bare lxTeW23 3000 .leaf f50 (bodyOf f50) at_legW rt_nxt a_nxt4 = some y_nxt4 := by kernel_rfl
noncomputable def k_nxt4:PC := { ats := at_legW,rts := rt_nxt,code := Go.Sx.one (ats := at_legW) (rts := rt_nxt) a_nxt4 y_nxt4 }
theorem k_nxt4_ok:PCOk cx.bare 50 k_nxt4 := PCOk.of_eval (Cx.bare_ok cx_ok) lxTeW23_ok (n := 3000) (an := .leaf) (fn := f50) (c := bodyOf f50) (by kernel_rfl) (by kernel_rfl) (fun a y h=>by
 obtain ⟨h1,h2⟩ := Go.Sx.one_some h
 subst h1; subst h2
 exact q_nxt4) (by kernel_rfl)
def a_nxt2:(TMt) × (TSt) × (TAct) := (opn,stS,(7960,bs [116,101,97,109],bs [],bs [65],bs [],bs [114,101,108,97,121],0,0,bs [],0,bs [],[bs [97,110,110],bs [97,109,121]]))
def y_nxt2:(TSt) × Int := (stU,0)
theorem q_nxt2:codeOf cx.bare lxTeW23 3000 .leaf f50 (bodyOf f50) at_legW rt_nxt a_nxt2 = some y_nxt2 := by kernel_rfl
noncomputable def k_nxt2:PC := { ats := at_legW,rts := rt_nxt,code := Go.Sx.one (ats := at_legW) (rts := rt_nxt) a_nxt2 y_nxt2 }
theorem k_nxt2_ok:PCOk cx.bare 50 k_nxt2 := PCOk.of_eval (Cx.bare_ok cx_ok) lxTeW23_ok (n := 3000) (an := .leaf) (fn := f50) (c := bodyOf f50) (by kernel_rfl) (by kernel_rfl) (fun a y h=>by
 obtain ⟨h1,h2⟩ := Go.Sx.one_some h
 subst h1; subst h2
 exact q_nxt2) (by kernel_rfl)
noncomputable def lxTeW30:Lx := { ext := [(23,(((((((((((k_actW.at a_actO0 y_actO0).at a_actO1 y_actO1).at a_actO2 y_actO2).at a_actO3 y_actO3).at a_actO4 y_actO4).at a_actO5 y_actO5).at a_actO6 y_actO6).at a_actO7 y_actO7).at a_actO8 y_actO8).at a_actO9 y_actO9).at a_actO10 y_actO10).sm),(21,(pc21 400).sm),(135,(pc135 400).sm),(150,(pf150 400).sm),(199,(pf199 400).sm),(200,(pf200 400).sm),(201,(pf201 400).sm),(202,(pf202 400).sm),(160,(pc160 400).sm),(213,(pc213 400).sm),(214,(pc214 400).sm),(216,(pc216 400).sm),(219,(pc219 400).sm),(186,(pc186 400).sm),(187,(pc187 400).sm),(110,(pc110 400).sm),(111,(pc111 400).sm),(105,(pc105 400).sm)],anns := [(2000219,.leaf),(217,annDel (bodyOf f217))],still := [] }
theorem lxTeW30_ok:lxTeW30.Ok cx.bare := Lx.ok_cons (PC.sm_ok (PCOk.at2 (pc := ((((((((((k_actW.at a_actO0 y_actO0).at a_actO1 y_actO1).at a_actO2 y_actO2).at a_actO3 y_actO3).at a_actO4 y_actO4).at a_actO5 y_actO5).at a_actO6 y_actO6).at a_actO7 y_actO7).at a_actO8 y_actO8).at a_actO9 y_actO9)) (PCOk.at2 (pc := (((((((((k_actW.at a_actO0 y_actO0).at a_actO1 y_actO1).at a_actO2 y_actO2).at a_actO3 y_actO3).at a_actO4 y_actO4).at a_actO5 y_actO5).at a_actO6 y_actO6).at a_actO7 y_actO7).at a_actO8 y_actO8)) (PCOk.at2 (pc := ((((((((k_actW.at a_actO0 y_actO0).at a_actO1 y_actO1).at a_actO2 y_actO2).at a_actO3 y_actO3).at a_actO4 y_actO4).at a_actO5 y_actO5).at a_actO6 y_actO6).at a_actO7 y_actO7)) (PCOk.at2 (pc := (((((((k_actW.at a_actO0 y_actO0).at a_actO1 y_actO1).at a_actO2 y_actO2).at a_actO3 y_actO3).at a_actO4 y_actO4).at a_actO5 y_actO5).at a_actO6 y_actO6)) (PCOk.at2 (pc := ((((((k_actW.at a_actO0 y_actO0).at a_actO1 y_actO1).at a_actO2 y_actO2).at a_actO3 y_actO3).at a_actO4 y_actO4).at a_actO5 y_actO5)) (PCOk.at2 (pc := (((((k_actW.at a_actO0 y_actO0).at a_actO1 y_actO1).at a_actO2 y_actO2).at a_actO3 y_actO3).at a_actO4 y_actO4)) (PCOk.at2 (pc := ((((k_actW.at a_actO0 y_actO0).at a_actO1 y_actO1).at a_actO2 y_actO2).at a_actO3 y_actO3)) (PCOk.at2 (pc := (((k_actW.at a_actO0 y_actO0).at a_actO1 y_actO1).at a_actO2 y_actO2)) (PCOk.at2 (pc := ((k_actW.at a_actO0 y_actO0).at a_actO1 y_actO1)) (PCOk.at2 (pc := (k_actW.at a_actO0 y_actO0)) (PCOk.at2 (pc := k_actW) k_actW_ok (a0 := a_actO0) (y0 := y_actO0) k_actO0_ok) (a0 := a_actO1) (y0 := y_actO1) k_actO1_ok) (a0 := a_actO2) (y0 := y_actO2) k_actO2_ok) (a0 := a_actO3) (y0 := y_actO3) k_actO3_ok) (a0 := a_actO4) (y0 := y_actO4) k_actO4_ok) (a0 := a_actO5) (y0 := y_actO5) k_actO5_ok) (a0 := a_actO6) (y0 := y_actO6) k_actO6_ok) (a0 := a_actO7) (y0 := y_actO7) k_actO7_ok) (a0 := a_actO8) (y0 := y_actO8) k_actO8_ok) (a0 := a_actO9) (y0 := y_actO9) k_actO9_ok) (a0 := a_actO10) (y0 := y_actO10) k_actO10_ok)) (Lx.ok_cons (PC.sm_ok (pc21_ok 400).bare) (Lx.ok_cons (PC.sm_ok (pc135_ok 400).bare) (Lx.ok_cons (PF.sm_ok (pf150_ok 400).bare) (Lx.ok_cons (PF.sm_ok (pf199_ok 400).bare) (Lx.ok_cons (PF.sm_ok (pf200_ok 400).bare) (Lx.ok_cons (PF.sm_ok (pf201_ok 400).bare) (Lx.ok_cons (PF.sm_ok (pf202_ok 400).bare) (Lx.ok_cons (PC.sm_ok (pc160_ok 400).bare) (Lx.ok_cons (PC.sm_ok (pc213_ok 400).bare) (Lx.ok_cons (PC.sm_ok (pc214_ok 400).bare) (Lx.ok_cons (PC.sm_ok (pc216_ok 400).bare) (Lx.ok_cons (PC.sm_ok (pc219_ok 400).bare) (Lx.ok_cons (PC.sm_ok (pc186_ok 400).bare) (Lx.ok_cons (PC.sm_ok (pc187_ok 400).bare) (Lx.ok_cons (PC.sm_ok (pc110_ok 400).bare) (Lx.ok_cons (PC.sm_ok (pc111_ok 400).bare) (Lx.ok_cons (PC.sm_ok (pc105_ok 400).bare) (Lx.ok_nil))))))))))))))))))
def a_rep:(TMt) × List (TAct) := (opn,offc)
def y_rep:(TSt) × List (Int × Int) × Int := (stS,[],0)
abbrev at_rep:List ATy := [.agg [.int .i64,.int .i64,.int .i64,.int .i64,.seq [.str,.str,.str,.int .i64,.int .i64,.int .i64,.int .i64,.str,.int .i64,.str,.int .i64]],.val (.seq [.int .i64,.str,.str,.str,.str,.str,.int .i64,.int .i64,.str,.int .i64,.str,.seq [.str]])]
abbrev rt_rep:List ATy := [.agg [.seq [.str],.seq [.str,.str,.int .i64,.str],.seq [.str,.int .i64,.int .i64],.seq [.str,.str,.str,.int .i64,.str,.int .i64,.bool],.seq [.str,.str,.seq [.str]]],.val (.seq [.int .i64,.int .i64]),.val (.int .i64)]
theorem q_rep:codeOf cx.bare lxTeW30 3000 .leaf f29 (bodyOf f29) at_rep rt_rep a_rep = some y_rep := by kernel_rfl
noncomputable def k_rep:PC := { ats := at_rep,rts := rt_rep,code := Go.Sx.one (ats := at_rep) (rts := rt_rep) a_rep y_rep }
theorem k_rep_ok:PCOk cx.bare 29 k_rep := PCOk.of_eval (Cx.bare_ok cx_ok) lxTeW30_ok (n := 3000) (an := .leaf) (fn := f29) (c := bodyOf f29) (by kernel_rfl) (by kernel_rfl) (fun a y h=>by
 obtain ⟨h1,h2⟩ := Go.Sx.one_some h
 subst h1; subst h2
 exact q_rep) (by kernel_rfl)
def a_rep2:(TMt) × List (TAct) := (opn,offc ++ [(7960,bs [119,105,116,104,100,114,97,119],bs [97,109,121],bs [],bs [],bs [115,112,114,105,110,116],0,0,bs [],0,bs [],[])])
def y_rep2:(TSt) × List (Int × Int) × Int := (stT,[],0)
theorem q_rep2:codeOf cx.bare lxTeW30 3000 .leaf f29 (bodyOf f29) at_rep rt_rep a_rep2 = some y_rep2 := by kernel_rfl
noncomputable def k_rep2:PC := { ats := at_rep,rts := rt_rep,code := Go.Sx.one (ats := at_rep) (rts := rt_rep) a_rep2 y_rep2 }
theorem k_rep2_ok:PCOk cx.bare 29 k_rep2 := PCOk.of_eval (Cx.bare_ok cx_ok) lxTeW30_ok (n := 3000) (an := .leaf) (fn := f29) (c := bodyOf f29) (by kernel_rfl) (by kernel_rfl) (fun a y h=>by
 obtain ⟨h1,h2⟩ := Go.Sx.one_some h
 subst h1; subst h2
 exact q_rep2) (by kernel_rfl)
noncomputable def lxTeW31:Lx := { ext := [(29,(k_rep.at a_rep2 y_rep2).sm),(131,(pc131 400).sm),(86,(pc86 400).sm),(84,(pc84 400).sm),(139,(pc139 400).sm),(129,(pc129 400).sm)],anns := [],still := [] }
theorem lxTeW31_ok:lxTeW31.Ok cx.bare := Lx.ok_cons (PC.sm_ok (PCOk.at2 (pc := k_rep) k_rep_ok (a0 := a_rep2) (y0 := y_rep2) k_rep2_ok)) (Lx.ok_cons (PC.sm_ok (pc131_ok 400).bare) (Lx.ok_cons (PC.sm_ok (pc86_ok 400).bare) (Lx.ok_cons (PC.sm_ok (pc84_ok 400).bare) (Lx.ok_cons (PC.sm_ok (pc139_ok 400).bare) (Lx.ok_cons (PC.sm_ok (pc129_ok 400).bare) (Lx.ok_nil))))))
def a_cha:(TMt) × List (TAct) × List (TAct) × ByteArray := (opn,offc,offc ++ [(7960,bs [119,105,116,104,100,114,97,119],bs [97,109,121],bs [],bs [],bs [115,112,114,105,110,116],0,0,bs [],0,bs [],[])],bs [115,112,114,105,110,116])
def y_cha:List ByteArray × Int := ([bs [97,109,121],bs [97,110,110]],0)
abbrev at_cha:List ATy := [.agg [.int .i64,.int .i64,.int .i64,.int .i64,.seq [.str,.str,.str,.int .i64,.int .i64,.int .i64,.int .i64,.str,.int .i64,.str,.int .i64]],.val (.seq [.int .i64,.str,.str,.str,.str,.str,.int .i64,.int .i64,.str,.int .i64,.str,.seq [.str]]),.val (.seq [.int .i64,.str,.str,.str,.str,.str,.int .i64,.int .i64,.str,.int .i64,.str,.seq [.str]]),.val .str]
theorem q_cha:codeOf cx.bare lxTeW31 3000 .leaf f46 (bodyOf f46) at_cha rt_acc a_cha = some y_cha := by kernel_rfl
noncomputable def k_cha:PC := { ats := at_cha,rts := rt_acc,code := Go.Sx.one (ats := at_cha) (rts := rt_acc) a_cha y_cha }
theorem k_cha_ok:PCOk cx.bare 46 k_cha := PCOk.of_eval (Cx.bare_ok cx_ok) lxTeW31_ok (n := 3000) (an := .leaf) (fn := f46) (c := bodyOf f46) (by kernel_rfl) (by kernel_rfl) (fun a y h=>by
 obtain ⟨h1,h2⟩ := Go.Sx.one_some h
 subst h1; subst h2
 exact q_cha) (by kernel_rfl)
noncomputable def lxTeW40:Lx := { ext := [(25,(pc25 400).sm),(99,(pc99 400).sm),(21,(pc21 400).sm),(98,(pc98 400).sm),(129,(pc129 400).sm),(126,(pc126 400).sm),(137,(pc137 400).sm),(138,(pc138 400).sm)],anns := [(148,.typ 6 106 [.str,.str,.str,.int .i64,.str,.int .i64,.bool] .leaf)],still := [] }
theorem lxTeW40_ok:lxTeW40.Ok cx.bare := Lx.ok_cons (PC.sm_ok (pc25_ok 400).bare) (Lx.ok_cons (PC.sm_ok (pc99_ok 400).bare) (Lx.ok_cons (PC.sm_ok (pc21_ok 400).bare) (Lx.ok_cons (PC.sm_ok (pc98_ok 400).bare) (Lx.ok_cons (PC.sm_ok (pc129_ok 400).bare) (Lx.ok_cons (PC.sm_ok (pc126_ok 400).bare) (Lx.ok_cons (PC.sm_ok (pc137_ok 400).bare) (Lx.ok_cons (PC.sm_ok (pc138_ok 400).bare) (Lx.ok_nil))))))))
def a_sta:(TMt) × (TSt) × ByteArray := (opn,stY,bs [115,112,114,105,110,116])
def y_sta:List ByteArray × Int := ([bs [97,109,121]],0)
theorem q_sta:codeOf cx.bare lxTeW40 3000 .leaf f69 (bodyOf f69) at_acc rt_acc a_sta = some y_sta := by kernel_rfl
noncomputable def k_sta:PC := { ats := at_acc,rts := rt_acc,code := Go.Sx.one (ats := at_acc) (rts := rt_acc) a_sta y_sta }
theorem k_sta_ok:PCOk cx.bare 69 k_sta := PCOk.of_eval (Cx.bare_ok cx_ok) lxTeW40_ok (n := 3000) (an := .leaf) (fn := f69) (c := bodyOf f69) (by kernel_rfl) (by kernel_rfl) (fun a y h=>by
 obtain ⟨h1,h2⟩ := Go.Sx.one_some h
 subst h1; subst h2
 exact q_sta) (by kernel_rfl)
end Go.Proofs.Tryz

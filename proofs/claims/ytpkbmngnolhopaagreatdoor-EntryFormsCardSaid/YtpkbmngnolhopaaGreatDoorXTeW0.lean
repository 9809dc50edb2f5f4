/- awake: its examples, and what functions of data answer awake: CheckAct at the acts of the office -/
import Derived.Test.YtpkbmngnolhopaaGreatDoorXTeC
import Derived.Test.YtpkbmngnolhopaaGreatDoorXT3n
import Derived.Test.YtpkbmngnolhopaaGreatDoorXSxQe
import Derived.Test.YtpkbmngnolhopaaGreatDoorXSxZb
set_option maxRecDepth 1000000
set_option linter.unusedVariables false
namespace Go.Proofs.Tryz
open Go Go.Sx
def bs (l:List UInt8):ByteArray := ⟨⟨l⟩⟩
def opn:TMt := (8000,7900,7990,2,[(bs [115,112,114,105,110,116],bs [116,105,109,101],bs [],16,40,2,1,bs [116,105,109,101],120000,bs [],0),(bs [106,117,109,112],bs [108,101,110,103,116,104],bs [],16,40,8,2,bs [110,111,110,101],0,bs [78,77],0),(bs [114,101,108,97,121],bs [116,105,109,101],bs [],16,40,8,1,bs [110,111,110,101],0,bs [78,77],2)])
def offc:List (TAct) := [(7000,bs [99,108,117,98],bs [],bs [65],bs [],bs [],0,0,bs [],0,bs [],[]),(7000,bs [99,108,117,98],bs [],bs [66],bs [],bs [],0,0,bs [],0,bs [],[]),(7000,bs [97,116,104,108,101,116,101],bs [97,110,110],bs [65],bs [119,111,109,101,110],bs [],1000,0,bs [],0,bs [],[]),(7000,bs [108,105,99,101,110,99,101],bs [97,110,110],bs [],bs [],bs [],7000,9000,bs [],0,bs [],[]),(7000,bs [97,116,104,108,101,116,101],bs [97,109,121],bs [65],bs [119,111,109,101,110],bs [],1000,0,bs [],0,bs [],[]),(7000,bs [108,105,99,101,110,99,101],bs [97,109,121],bs [],bs [],bs [],7000,9000,bs [],0,bs [],[]),(7000,bs [97,116,104,108,101,116,101],bs [98,101,97],bs [66],bs [119,111,109,101,110],bs [],1000,0,bs [],0,bs [],[]),(7000,bs [108,105,99,101,110,99,101],bs [98,101,97],bs [],bs [],bs [],7000,9000,bs [],0,bs [],[]),(7950,bs [101,110,116,101,114],bs [97,110,110],bs [],bs [],bs [115,112,114,105,110,116],0,0,bs [116,105,109,101],115000,bs [],[]),(7950,bs [101,110,116,101,114],bs [97,109,121],bs [],bs [],bs [115,112,114,105,110,116],0,0,bs [116,105,109,101],112000,bs [],[]),(7950,bs [101,110,116,101,114],bs [98,101,97],bs [],bs [],bs [115,112,114,105,110,116],0,0,bs [116,105,109,101],119000,bs [],[])]
def stS:TSt := ([bs [65],bs [66]],[(bs [97,110,110],bs [65],1000,bs [119,111,109,101,110]),(bs [97,109,121],bs [65],1000,bs [119,111,109,101,110]),(bs [98,101,97],bs [66],1000,bs [119,111,109,101,110])],[(bs [97,110,110],7000,9000),(bs [97,109,121],7000,9000),(bs [98,101,97],7000,9000)],[(bs [97,110,110],bs [115,112,114,105,110,116],bs [116,105,109,101],115000,bs [],7950,false),(bs [97,109,121],bs [115,112,114,105,110,116],bs [116,105,109,101],112000,bs [],7950,false),(bs [98,101,97],bs [115,112,114,105,110,116],bs [116,105,109,101],119000,bs [],7950,false)],[])
def stT:TSt := ([bs [65],bs [66]],[(bs [97,110,110],bs [65],1000,bs [119,111,109,101,110]),(bs [97,109,121],bs [65],1000,bs [119,111,109,101,110]),(bs [98,101,97],bs [66],1000,bs [119,111,109,101,110])],[(bs [97,110,110],7000,9000),(bs [97,109,121],7000,9000),(bs [98,101,97],7000,9000)],[(bs [97,110,110],bs [115,112,114,105,110,116],bs [116,105,109,101],115000,bs [],7950,false),(bs [98,101,97],bs [115,112,114,105,110,116],bs [116,105,109,101],119000,bs [],7950,false)],[])
def stU:TSt := ([bs [65],bs [66]],[(bs [97,110,110],bs [65],1000,bs [119,111,109,101,110]),(bs [97,109,121],bs [65],1000,bs [119,111,109,101,110]),(bs [98,101,97],bs [66],1000,bs [119,111,109,101,110])],[(bs [97,110,110],7000,9000),(bs [97,109,121],7000,9000),(bs [98,101,97],7000,9000)],[(bs [97,110,110],bs [115,112,114,105,110,116],bs [116,105,109,101],115000,bs [],7950,false),(bs [97,109,121],bs [115,112,114,105,110,116],bs [116,105,109,101],112000,bs [],7950,false),(bs [98,101,97],bs [115,112,114,105,110,116],bs [116,105,109,101],119000,bs [],7950,false)],[(bs [65],bs [114,101,108,97,121],[bs [97,110,110],bs [97,109,121]])])
def stX:TSt := ([bs [65],bs [66]],[(bs [97,110,110],bs [65],1000,bs [119,111,109,101,110]),(bs [97,109,121],bs [65],1000,bs [119,111,109,101,110]),(bs [98,101,97],bs [66],1000,bs [119,111,109,101,110])],[(bs [97,110,110],7000,9000),(bs [97,109,121],7000,9000),(bs [98,101,97],7000,9000)],[(bs [97,110,110],bs [115,112,114,105,110,116],bs [116,105,109,101],115000,bs [],7950,true),(bs [97,109,121],bs [115,112,114,105,110,116],bs [116,105,109,101],112000,bs [],7950,false),(bs [98,101,97],bs [115,112,114,105,110,116],bs [116,105,109,101],119000,bs [],7950,false)],[])
def stY:TSt := ([bs [65],bs [66]],[(bs [97,110,110],bs [65],1000,bs [119,111,109,101,110]),(bs [97,109,121],bs [65],1000,bs [119,111,109,101,110]),(bs [98,101,97],bs [66],1000,bs [119,111,109,101,110])],[(bs [97,110,110],7000,9000),(bs [97,109,121],7000,9000),(bs [98,101,97],7000,9000)],[(bs [97,110,110],bs [115,112,114,105,110,116],bs [116,105,109,101],115000,bs [],7950,true),(bs [97,109,121],bs [115,112,114,105,110,116],bs [116,105,109,101],112000,bs [],7950,true),(bs [98,101,97],bs [115,112,114,105,110,116],bs [116,105,109,101],119000,bs [],7950,false)],[])
abbrev rowA:List Ty := [.int .i64,.str,.str,.str,.str,.str,.int .i64,.int .i64,.str,.int .i64,.str,.seq [.str]]
noncomputable def lxF:Lx := { ext := [(83,(pc83 400).sm)],anns := [],still := [] }
theorem lxF_ok:lxF.Ok cx.bare := Lx.ok_cons (PC.sm_ok (pc83_ok 400).bare) (Lx.ok_nil)
noncomputable def pf82:PF := { ats := [],ty := 35,row := rowA,code := fun _=>some offc }
theorem q82:codeF cx.bare lxF 3000 (annEnd (.typ 0 35 rowA .leaf) (bodyOf f82)) f82 (bodyOf f82) [] 35 rowA () = some offc := by kernel_rfl
theorem pf82_ok:PFOk cx.bare 82 pf82 := PFOk.of_eval (Cx.bare_ok cx_ok) lxF_ok (n := 3000) (an := annEnd (.typ 0 35 rowA .leaf) (bodyOf f82)) (fn := f82) (c := bodyOf f82) (by kernel_rfl) (by kernel_rfl) (fun a y h=>q82.trans h) (by kernel_rfl)
def a_acc:(TMt) × (TSt) × ByteArray := (opn,stS,bs [115,112,114,105,110,116])
def y_acc:List ByteArray × Int := ([bs [97,109,121],bs [98,101,97]],0)
abbrev at_acc:List ATy := [.agg [.int .i64,.int .i64,.int .i64,.int .i64,.seq [.str,.str,.str,.int .i64,.int .i64,.int .i64,.int .i64,.str,.int .i64,.str,.int .i64]],.agg [.seq [.str],.seq [.str,.str,.int .i64,.str],.seq [.str,.int .i64,.int .i64],.seq [.str,.str,.str,.int .i64,.str,.int .i64,.bool],.seq [.str,.str,.seq [.str]]],.val .str]
abbrev rt_acc:List ATy := [.val (.seq [.str]),.val (.int .i64)]
theorem r_acc:(pc52 400).code a_acc = some y_acc := by kernel_rfl
noncomputable def k_acc:PC := { ats := at_acc,rts := rt_acc,code := Go.Sx.one (ats := at_acc) (rts := rt_acc) a_acc y_acc }
theorem k_acc_ok:PCOk cx.bare 52 k_acc := (pc52_ok 400).bare.one a_acc y_acc r_acc
def a_res:(TMt) × (TSt) × ByteArray := (opn,stS,bs [115,112,114,105,110,116])
def y_res:List ByteArray × Int := ([bs [97,110,110]],0)
theorem r_res:(pc56 400).code a_res = some y_res := by kernel_rfl
noncomputable def k_res:PC := { ats := at_acc,rts := rt_acc,code := Go.Sx.one (ats := at_acc) (rts := rt_acc) a_res y_res }
theorem k_res_ok:PCOk cx.bare 56 k_res := (pc56_ok 400).bare.one a_res y_res r_res
def a_acc2:(TMt) × (TSt) × ByteArray := (opn,stT,bs [115,112,114,105,110,116])
def y_acc2:List ByteArray × Int := ([bs [97,110,110],bs [98,101,97]],0)
theorem r_acc2:(pc52 400).code a_acc2 = some y_acc2 := by kernel_rfl
noncomputable def k_acc2:PC := { ats := at_acc,rts := rt_acc,code := Go.Sx.one (ats := at_acc) (rts := rt_acc) a_acc2 y_acc2 }
theorem k_acc2_ok:PCOk cx.bare 52 k_acc2 := (pc52_ok 400).bare.one a_acc2 y_acc2 r_acc2
def a_cla:(TMt) × (TSt) := (opn,stU)
def y_cla:List (ByteArray × ByteArray) × Int := ([(bs [115,112,114,105,110,116],bs [114,101,108,97,121])],0)
abbrev at_cla:List ATy := [.agg [.int .i64,.int .i64,.int .i64,.int .i64,.seq [.str,.str,.str,.int .i64,.int .i64,.int .i64,.int .i64,.str,.int .i64,.str,.int .i64]],.agg [.seq [.str],.seq [.str,.str,.int .i64,.str],.seq [.str,.int .i64,.int .i64],.seq [.str,.str,.str,.int .i64,.str,.int .i64,.bool],.seq [.str,.str,.seq [.str]]]]
abbrev rt_cla:List ATy := [.val (.seq [.str,.str]),.val (.int .i64)]
theorem r_cla:(pc37 400).code a_cla = some y_cla := by kernel_rfl
noncomputable def k_cla:PC := { ats := at_cla,rts := rt_cla,code := Go.Sx.one (ats := at_cla) (rts := rt_cla) a_cla y_cla }
theorem k_cla_ok:PCOk cx.bare 37 k_cla := (pc37_ok 400).bare.one a_cla y_cla r_cla
def a_clu:(TMt) × (TSt) := (opn,stS)
def y_clu:List Int × Int := ([2,1],0)
abbrev rt_clu:List ATy := [.val (.seq [.int .i64]),.val (.int .i64)]
theorem r_clu:(pc38 400).code a_clu = some y_clu := by kernel_rfl
noncomputable def k_clu:PC := { ats := at_cla,rts := rt_clu,code := Go.Sx.one (ats := at_cla) (rts := rt_clu) a_clu y_clu }
theorem k_clu_ok:PCOk cx.bare 38 k_clu := (pc38_ok 400).bare.one a_clu y_clu r_clu
def a_con:(TMt) × (TSt) × ByteArray := (opn,stU,bs [97,110,110])
def y_con:List ByteArray × Int := ([bs [115,112,114,105,110,116],bs [114,101,108,97,121]],0)
theorem r_con:(pc36 400).code a_con = some y_con := by kernel_rfl
noncomputable def k_con:PC := { ats := at_acc,rts := rt_acc,code := Go.Sx.one (ats := at_acc) (rts := rt_acc) a_con y_con }
theorem k_con_ok:PCOk cx.bare 36 k_con := (pc36_ok 400).bare.one a_con y_con r_con
noncomputable def lxTeW10:Lx := { ext := [(98,(pc98 400).sm),(99,(pc99 400).sm)],anns := [],still := [] }
theorem lxTeW10_ok:lxTeW10.Ok cx.bare := Lx.ok_cons (PC.sm_ok (pc98_ok 400).bare) (Lx.ok_cons (PC.sm_ok (pc99_ok 400).bare) (Lx.ok_nil))
def a_actO0:(TAct) := (7000,bs [99,108,117,98],bs [],bs [65],bs [],bs [],0,0,bs [],0,bs [],[])
def y_actO0:Int := 0
abbrev at_actO0:List ATy := [.agg [.int .i64,.str,.str,.str,.str,.str,.int .i64,.int .i64,.str,.int .i64,.str,.seq [.str]]]
abbrev rt_actO0:List ATy := [.val (.int .i64)]
theorem q_actO0:codeOf cx.bare lxTeW10 3000 .leaf f23 (bodyOf f23) at_actO0 rt_actO0 a_actO0 = some y_actO0 := by kernel_rfl
noncomputable def k_actO0:PC := { ats := at_actO0,rts := rt_actO0,code := Go.Sx.one (ats := at_actO0) (rts := rt_actO0) a_actO0 y_actO0 }
theorem k_actO0_ok:PCOk cx.bare 23 k_actO0 := PCOk.of_eval (Cx.bare_ok cx_ok) lxTeW10_ok (n := 3000) (an := .leaf) (fn := f23) (c := bodyOf f23) (by kernel_rfl) (by kernel_rfl) (fun a y h=>by
 obtain ⟨h1,h2⟩ := Go.Sx.one_some h
 subst h1; subst h2
 exact q_actO0) (by kernel_rfl)
def a_actO1:(TAct) := (7000,bs [99,108,117,98],bs [],bs [66],bs [],bs [],0,0,bs [],0,bs [],[])
def y_actO1:Int := 0
theorem q_actO1:codeOf cx.bare lxTeW10 3000 .leaf f23 (bodyOf f23) at_actO0 rt_actO0 a_actO1 = some y_actO1 := by kernel_rfl
noncomputable def k_actO1:PC := { ats := at_actO0,rts := rt_actO0,code := Go.Sx.one (ats := at_actO0) (rts := rt_actO0) a_actO1 y_actO1 }
theorem k_actO1_ok:PCOk cx.bare 23 k_actO1 := PCOk.of_eval (Cx.bare_ok cx_ok) lxTeW10_ok (n := 3000) (an := .leaf) (fn := f23) (c := bodyOf f23) (by kernel_rfl) (by kernel_rfl) (fun a y h=>by
 obtain ⟨h1,h2⟩ := Go.Sx.one_some h
 subst h1; subst h2
 exact q_actO1) (by kernel_rfl)
def a_actO2:(TAct) := (7000,bs [97,116,104,108,101,116,101],bs [97,110,110],bs [65],bs [119,111,109,101,110],bs [],1000,0,bs [],0,bs [],[])
def y_actO2:Int := 0
theorem q_actO2:codeOf cx.bare lxTeW10 3000 .leaf f23 (bodyOf f23) at_actO0 rt_actO0 a_actO2 = some y_actO2 := by kernel_rfl
noncomputable def k_actO2:PC := { ats := at_actO0,rts := rt_actO0,code := Go.Sx.one (ats := at_actO0) (rts := rt_actO0) a_actO2 y_actO2 }
theorem k_actO2_ok:PCOk cx.bare 23 k_actO2 := PCOk.of_eval (Cx.bare_ok cx_ok) lxTeW10_ok (n := 3000) (an := .leaf) (fn := f23) (c := bodyOf f23) (by kernel_rfl) (by kernel_rfl) (fun a y h=>by
 obtain ⟨h1,h2⟩ := Go.Sx.one_some h
 subst h1; subst h2
 exact q_actO2) (by kernel_rfl)
def a_actO3:(TAct) := (7000,bs [108,105,99,101,110,99,101],bs [97,110,110],bs [],bs [],bs [],7000,9000,bs [],0,bs [],[])
def y_actO3:Int := 0
theorem q_actO3:codeOf cx.bare lxTeW10 3000 .leaf f23 (bodyOf f23) at_actO0 rt_actO0 a_actO3 = some y_actO3 := by kernel_rfl
noncomputable def k_actO3:PC := { ats := at_actO0,rts := rt_actO0,code := Go.Sx.one (ats := at_actO0) (rts := rt_actO0) a_actO3 y_actO3 }
theorem k_actO3_ok:PCOk cx.bare 23 k_actO3 := PCOk.of_eval (Cx.bare_ok cx_ok) lxTeW10_ok (n := 3000) (an := .leaf) (fn := f23) (c := bodyOf f23) (by kernel_rfl) (by kernel_rfl) (fun a y h=>by
 obtain ⟨h1,h2⟩ := Go.Sx.one_some h
 subst h1; subst h2
 exact q_actO3) (by kernel_rfl)
def a_actO4:(TAct) := (7000,bs [97,116,104,108,101,116,101],bs [97,109,121],bs [65],bs [119,111,109,101,110],bs [],1000,0,bs [],0,bs [],[])
def y_actO4:Int := 0
theorem q_actO4:codeOf cx.bare lxTeW10 3000 .leaf f23 (bodyOf f23) at_actO0 rt_actO0 a_actO4 = some y_actO4 := by kernel_rfl
noncomputable def k_actO4:PC := { ats := at_actO0,rts := rt_actO0,code := Go.Sx.one (ats := at_actO0) (rts := rt_actO0) a_actO4 y_actO4 }
theorem k_actO4_ok:PCOk cx.bare 23 k_actO4 := PCOk.of_eval (Cx.bare_ok cx_ok) lxTeW10_ok (n := 3000) (an := .leaf) (fn := f23) (c := bodyOf f23) (by kernel_rfl) (by kernel_rfl) (fun a y h=>by
 obtain ⟨h1,h2⟩ := Go.Sx.one_some h
 subst h1; subst h2
 exact q_actO4) (by kernel_rfl)
def a_actO5:(TAct) := (7000,bs [108,105,99,101,110,99,101],bs [97,109,121],bs [],bs [],bs [],7000,9000,bs [],0,bs [],[])
def y_actO5:Int := 0
theorem q_actO5:codeOf cx.bare lxTeW10 3000 .leaf f23 (bodyOf f23) at_actO0 rt_actO0 a_actO5 = some y_actO5 := by kernel_rfl
noncomputable def k_actO5:PC := { ats := at_actO0,rts := rt_actO0,code := Go.Sx.one (ats := at_actO0) (rts := rt_actO0) a_actO5 y_actO5 }
theorem k_actO5_ok:PCOk cx.bare 23 k_actO5 := PCOk.of_eval (Cx.bare_ok cx_ok) lxTeW10_ok (n := 3000) (an := .leaf) (fn := f23) (c := bodyOf f23) (by kernel_rfl) (by kernel_rfl) (fun a y h=>by
 obtain ⟨h1,h2⟩ := Go.Sx.one_some h
 subst h1; subst h2
 exact q_actO5) (by kernel_rfl)
def a_actO6:(TAct) := (7000,bs [97,116,104,108,101,116,101],bs [98,101,97],bs [66],bs [119,111,109,101,110],bs [],1000,0,bs [],0,bs [],[])
def y_actO6:Int := 0
theorem q_actO6:codeOf cx.bare lxTeW10 3000 .leaf f23 (bodyOf f23) at_actO0 rt_actO0 a_actO6 = some y_actO6 := by kernel_rfl
noncomputable def k_actO6:PC := { ats := at_actO0,rts := rt_actO0,code := Go.Sx.one (ats := at_actO0) (rts := rt_actO0) a_actO6 y_actO6 }
theorem k_actO6_ok:PCOk cx.bare 23 k_actO6 := PCOk.of_eval (Cx.bare_ok cx_ok) lxTeW10_ok (n := 3000) (an := .leaf) (fn := f23) (c := bodyOf f23) (by kernel_rfl) (by kernel_rfl) (fun a y h=>by
 obtain ⟨h1,h2⟩ := Go.Sx.one_some h
 subst h1; subst h2
 exact q_actO6) (by kernel_rfl)
def a_actO7:(TAct) := (7000,bs [108,105,99,101,110,99,101],bs [98,101,97],bs [],bs [],bs [],7000,9000,bs [],0,bs [],[])
def y_actO7:Int := 0
theorem q_actO7:codeOf cx.bare lxTeW10 3000 .leaf f23 (bodyOf f23) at_actO0 rt_actO0 a_actO7 = some y_actO7 := by kernel_rfl
noncomputable def k_actO7:PC := { ats := at_actO0,rts := rt_actO0,code := Go.Sx.one (ats := at_actO0) (rts := rt_actO0) a_actO7 y_actO7 }
theorem k_actO7_ok:PCOk cx.bare 23 k_actO7 := PCOk.of_eval (Cx.bare_ok cx_ok) lxTeW10_ok (n := 3000) (an := .leaf) (fn := f23) (c := bodyOf f23) (by kernel_rfl) (by kernel_rfl) (fun a y h=>by
 obtain ⟨h1,h2⟩ := Go.Sx.one_some h
 subst h1; subst h2
 exact q_actO7) (by kernel_rfl)
def a_actO8:(TAct) := (7950,bs [101,110,116,101,114],bs [97,110,110],bs [],bs [],bs [115,112,114,105,110,116],0,0,bs [116,105,109,101],115000,bs [],[])
def y_actO8:Int := 0
theorem q_actO8:codeOf cx.bare lxTeW10 3000 .leaf f23 (bodyOf f23) at_actO0 rt_actO0 a_actO8 = some y_actO8 := by kernel_rfl
noncomputable def k_actO8:PC := { ats := at_actO0,rts := rt_actO0,code := Go.Sx.one (ats := at_actO0) (rts := rt_actO0) a_actO8 y_actO8 }
theorem k_actO8_ok:PCOk cx.bare 23 k_actO8 := PCOk.of_eval (Cx.bare_ok cx_ok) lxTeW10_ok (n := 3000) (an := .leaf) (fn := f23) (c := bodyOf f23) (by kernel_rfl) (by kernel_rfl) (fun a y h=>by
 obtain ⟨h1,h2⟩ := Go.Sx.one_some h
 subst h1; subst h2
 exact q_actO8) (by kernel_rfl)
def a_actO9:(TAct) := (7950,bs [101,110,116,101,114],bs [97,109,121],bs [],bs [],bs [115,112,114,105,110,116],0,0,bs [116,105,109,101],112000,bs [],[])
def y_actO9:Int := 0
theorem q_actO9:codeOf cx.bare lxTeW10 3000 .leaf f23 (bodyOf f23) at_actO0 rt_actO0 a_actO9 = some y_actO9 := by kernel_rfl
noncomputable def k_actO9:PC := { ats := at_actO0,rts := rt_actO0,code := Go.Sx.one (ats := at_actO0) (rts := rt_actO0) a_actO9 y_actO9 }
theorem k_actO9_ok:PCOk cx.bare 23 k_actO9 := PCOk.of_eval (Cx.bare_ok cx_ok) lxTeW10_ok (n := 3000) (an := .leaf) (fn := f23) (c := bodyOf f23) (by kernel_rfl) (by kernel_rfl) (fun a y h=>by
 obtain ⟨h1,h2⟩ := Go.Sx.one_some h
 subst h1; subst h2
 exact q_actO9) (by kernel_rfl)
def a_actO10:(TAct) := (7950,bs [101,110,116,101,114],bs [98,101,97],bs [],bs [],bs [115,112,114,105,110,116],0,0,bs [116,105,109,101],119000,bs [],[])
def y_actO10:Int := 0
theorem q_actO10:codeOf cx.bare lxTeW10 3000 .leaf f23 (bodyOf f23) at_actO0 rt_actO0 a_actO10 = some y_actO10 := by kernel_rfl
noncomputable def k_actO10:PC := { ats := at_actO0,rts := rt_actO0,code := Go.Sx.one (ats := at_actO0) (rts := rt_actO0) a_actO10 y_actO10 }
theorem k_actO10_ok:PCOk cx.bare 23 k_actO10 := PCOk.of_eval (Cx.bare_ok cx_ok) lxTeW10_ok (n := 3000) (an := .leaf) (fn := f23) (c := bodyOf f23) (by kernel_rfl) (by kernel_rfl) (fun a y h=>by
 obtain ⟨h1,h2⟩ := Go.Sx.one_some h
 subst h1; subst h2
 exact q_actO10) (by kernel_rfl)
end Go.Proofs.Tryz

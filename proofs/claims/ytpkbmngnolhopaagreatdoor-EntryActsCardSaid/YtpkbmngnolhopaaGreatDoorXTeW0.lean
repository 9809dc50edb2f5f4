/- awake: its examples, and what functions of data answer awake: CheckAct at the acts of the office -/
import Derived.Test.YtpkbmngnolhopaaGreatDoorXT3i
import Derived.Test.YtpkbmngnolhopaaGreatDoorXT3u
import Derived.Test.YtpkbmngnolhopaaGreatDoorXSxQi
set_option maxRecDepth 1000000
set_option linter.unusedVariables false
namespace Go.Proofs.Tryz
open Go Go.Sx
def bs(l:List UInt8):ByteArray:=⟨⟨l⟩⟩
def opn:Q7:=(8000,7900,7990,2,[(bs [115,112,114,105,110,116],bs [116,105,109,101],bs [],16,40,2,1,bs [116,105,109,101],120000,bs [],0),(bs [106,117,109,112],bs [108,101,110,103,116,104],bs [],16,40,8,2,bs [110,111,110,101],0,bs [78,77],0),(bs [114,101,108,97,121],bs [116,105,109,101],bs [],16,40,8,1,bs [110,111,110,101],0,bs [78,77],2)])
def Qh7:List (Ze):=[(7000,bs [99,108,117,98],bs [],bs [65],bs [],bs [],0,0,bs [],0,bs [],[]),(7000,bs [99,108,117,98],bs [],bs [66],bs [],bs [],0,0,bs [],0,bs [],[]),(7000,bs [97,116,104,108,101,116,101],bs [97,110,110],bs [65],bs [119,111,109,101,110],bs [],1000,0,bs [],0,bs [],[]),(7000,bs [108,105,99,101,110,99,101],bs [97,110,110],bs [],bs [],bs [],7000,9000,bs [],0,bs [],[]),(7000,bs [97,116,104,108,101,116,101],bs [97,109,121],bs [65],bs [119,111,109,101,110],bs [],1000,0,bs [],0,bs [],[]),(7000,bs [108,105,99,101,110,99,101],bs [97,109,121],bs [],bs [],bs [],7000,9000,bs [],0,bs [],[]),(7000,bs [97,116,104,108,101,116,101],bs [98,101,97],bs [66],bs [119,111,109,101,110],bs [],1000,0,bs [],0,bs [],[]),(7000,bs [108,105,99,101,110,99,101],bs [98,101,97],bs [],bs [],bs [],7000,9000,bs [],0,bs [],[]),(7950,bs [101,110,116,101,114],bs [97,110,110],bs [],bs [],bs [115,112,114,105,110,116],0,0,bs [116,105,109,101],115000,bs [],[]),(7950,bs [101,110,116,101,114],bs [97,109,121],bs [],bs [],bs [115,112,114,105,110,116],0,0,bs [116,105,109,101],112000,bs [],[]),(7950,bs [101,110,116,101,114],bs [98,101,97],bs [],bs [],bs [115,112,114,105,110,116],0,0,bs [116,105,109,101],119000,bs [],[])]
def stS:Qh:=([bs [65],bs [66]],[(bs [97,110,110],bs [65],1000,bs [119,111,109,101,110]),(bs [97,109,121],bs [65],1000,bs [119,111,109,101,110]),(bs [98,101,97],bs [66],1000,bs [119,111,109,101,110])],[(bs [97,110,110],7000,9000),(bs [97,109,121],7000,9000),(bs [98,101,97],7000,9000)],[(bs [97,110,110],bs [115,112,114,105,110,116],bs [116,105,109,101],115000,bs [],7950,false),(bs [97,109,121],bs [115,112,114,105,110,116],bs [116,105,109,101],112000,bs [],7950,false),(bs [98,101,97],bs [115,112,114,105,110,116],bs [116,105,109,101],119000,bs [],7950,false)],[])
def stT:Qh:=([bs [65],bs [66]],[(bs [97,110,110],bs [65],1000,bs [119,111,109,101,110]),(bs [97,109,121],bs [65],1000,bs [119,111,109,101,110]),(bs [98,101,97],bs [66],1000,bs [119,111,109,101,110])],[(bs [97,110,110],7000,9000),(bs [97,109,121],7000,9000),(bs [98,101,97],7000,9000)],[(bs [97,110,110],bs [115,112,114,105,110,116],bs [116,105,109,101],115000,bs [],7950,false),(bs [98,101,97],bs [115,112,114,105,110,116],bs [116,105,109,101],119000,bs [],7950,false)],[])
def stU:Qh:=([bs [65],bs [66]],[(bs [97,110,110],bs [65],1000,bs [119,111,109,101,110]),(bs [97,109,121],bs [65],1000,bs [119,111,109,101,110]),(bs [98,101,97],bs [66],1000,bs [119,111,109,101,110])],[(bs [97,110,110],7000,9000),(bs [97,109,121],7000,9000),(bs [98,101,97],7000,9000)],[(bs [97,110,110],bs [115,112,114,105,110,116],bs [116,105,109,101],115000,bs [],7950,false),(bs [97,109,121],bs [115,112,114,105,110,116],bs [116,105,109,101],112000,bs [],7950,false),(bs [98,101,97],bs [115,112,114,105,110,116],bs [116,105,109,101],119000,bs [],7950,false)],[(bs [65],bs [114,101,108,97,121],[bs [97,110,110],bs [97,109,121]])])
def stX:Qh:=([bs [65],bs [66]],[(bs [97,110,110],bs [65],1000,bs [119,111,109,101,110]),(bs [97,109,121],bs [65],1000,bs [119,111,109,101,110]),(bs [98,101,97],bs [66],1000,bs [119,111,109,101,110])],[(bs [97,110,110],7000,9000),(bs [97,109,121],7000,9000),(bs [98,101,97],7000,9000)],[(bs [97,110,110],bs [115,112,114,105,110,116],bs [116,105,109,101],115000,bs [],7950,true),(bs [97,109,121],bs [115,112,114,105,110,116],bs [116,105,109,101],112000,bs [],7950,false),(bs [98,101,97],bs [115,112,114,105,110,116],bs [116,105,109,101],119000,bs [],7950,false)],[])
def stY:Qh:=([bs [65],bs [66]],[(bs [97,110,110],bs [65],1000,bs [119,111,109,101,110]),(bs [97,109,121],bs [65],1000,bs [119,111,109,101,110]),(bs [98,101,97],bs [66],1000,bs [119,111,109,101,110])],[(bs [97,110,110],7000,9000),(bs [97,109,121],7000,9000),(bs [98,101,97],7000,9000)],[(bs [97,110,110],bs [115,112,114,105,110,116],bs [116,105,109,101],115000,bs [],7950,true),(bs [97,109,121],bs [115,112,114,105,110,116],bs [116,105,109,101],112000,bs [],7950,true),(bs [98,101,97],bs [115,112,114,105,110,116],bs [116,105,109,101],119000,bs [],7950,false)],[])
abbrev Qpz:List Ty:=[.int .i64,.str,.str,.str,.str,.str,.int .i64,.int .i64,.str,.int .i64,.str,.seq [.str]]
noncomputable def lxF:Lx:={ext:=[(83,(Qu4 400).sm)],anns:=[],still:=[]}
theorem Ygu:lxF.Ok cx.bare:=Lx.Zj (PC.Qr (Zd8 400).bare) (Lx.Uc)
noncomputable def Zhy:PF:={ats:=[],ty:=35,row:=Qpz,code:=fun _=>some Qh7}
theorem q82:codeF cx.bare lxF 3000 (Qbj (.typ 0 35 Qpz .leaf) (Qs f82)) f82 (Qs f82) [] 35 Qpz ()=some Qh7:=by kernel_rfl
theorem Zx7:J0 cx.bare 82 Zhy:=J0.Z0 (Cx.Yz Z1) Ygu (n:=3000) (an:=Qbj (.typ 0 35 Qpz .leaf) (Qs f82)) (fn:=f82) (c:=Qs f82) (by kernel_rfl) (by kernel_rfl) (fun a y h=>q82.trans h) (by kernel_rfl)
def Qt0:(Q7)×(Qh)×ByteArray:=(opn,stS,bs [115,112,114,105,110,116])
def Qvd:List ByteArray×Int:=([bs [97,109,121],bs [98,101,97]],0)
abbrev U4:List Qd:=[.agg [.int .i64,.int .i64,.int .i64,.int .i64,.seq [.str,.str,.str,.int .i64,.int .i64,.int .i64,.int .i64,.str,.int .i64,.str,.int .i64]],.agg [.seq [.str],.seq [.str,.str,.int .i64,.str],.seq [.str,.int .i64,.int .i64],.seq [.str,.str,.str,.int .i64,.str,.int .i64,.bool],.seq [.str,.str,.seq [.str]]],.val .str]
abbrev Vd:List Qd:=[.val (.seq [.str]),.val (.int .i64)]
theorem Zwc:(Qu6 400).code Qt0=some Qvd:=by kernel_rfl
noncomputable def Qth:PC:={ats:=U4,rts:=Vd,code:=Go.Sx.one (ats:=U4) (rts:=Vd) Qt0 Qvd}
theorem Yag:Qg cx.bare 52 Qth:=(Qzb 400).bare.one Qt0 Qvd Zwc
def Qut:(Q7)×(Qh)×ByteArray:=(opn,stS,bs [115,112,114,105,110,116])
def Qw0:List ByteArray×Int:=([bs [97,110,110]],0)
theorem Yeu:(Zbw 400).code Qut=some Qw0:=by kernel_rfl
noncomputable def Qz6:PC:={ats:=U4,rts:=Vd,code:=Go.Sx.one (ats:=U4) (rts:=Vd) Qut Qw0}
theorem Yef:Qg cx.bare 56 Qz6:=(Ym1 400).bare.one Qut Qw0 Yeu
def Qjh:(Q7)×(Qh)×ByteArray:=(opn,stT,bs [115,112,114,105,110,116])
def Qj6:List ByteArray×Int:=([bs [97,110,110],bs [98,101,97]],0)
theorem Zmo:(Qu6 400).code Qjh=some Qj6:=by kernel_rfl
noncomputable def Zlg:PC:={ats:=U4,rts:=Vd,code:=Go.Sx.one (ats:=U4) (rts:=Vd) Qjh Qj6}
theorem Zp3:Qg cx.bare 52 Zlg:=(Qzb 400).bare.one Qjh Qj6 Zmo
def Qx7:(Q7)×(Qh):=(opn,stU)
def Qst:List (ByteArray×ByteArray)×Int:=([(bs [115,112,114,105,110,116],bs [114,101,108,97,121])],0)
abbrev Qmw:List Qd:=[.agg [.int .i64,.int .i64,.int .i64,.int .i64,.seq [.str,.str,.str,.int .i64,.int .i64,.int .i64,.int .i64,.str,.int .i64,.str,.int .i64]],.agg [.seq [.str],.seq [.str,.str,.int .i64,.str],.seq [.str,.int .i64,.int .i64],.seq [.str,.str,.str,.int .i64,.str,.int .i64,.bool],.seq [.str,.str,.seq [.str]]]]
abbrev Zam:List Qd:=[.val (.seq [.str,.str]),.val (.int .i64)]
theorem Zpu:(Qy8 400).code Qx7=some Qst:=by kernel_rfl
noncomputable def Zi0:PC:={ats:=Qmw,rts:=Zam,code:=Go.Sx.one (ats:=Qmw) (rts:=Zam) Qx7 Qst}
theorem Zn1:Qg cx.bare 37 Zi0:=(Znr 400).bare.one Qx7 Qst Zpu
def Qtr:(Q7)×(Qh):=(opn,stS)
def Qwk:List Int×Int:=([2,1],0)
abbrev Zdm:List Qd:=[.val (.seq [.int .i64]),.val (.int .i64)]
theorem Zv3:(Zhd 400).code Qtr=some Qwk:=by kernel_rfl
noncomputable def Zh8:PC:={ats:=Qmw,rts:=Zdm,code:=Go.Sx.one (ats:=Qmw) (rts:=Zdm) Qtr Qwk}
theorem Ylp:Qg cx.bare 38 Zh8:=(Ztn 400).bare.one Qtr Qwk Zv3
def Qt4:(Q7)×(Qh)×ByteArray:=(opn,stU,bs [97,110,110])
def Quf:List ByteArray×Int:=([bs [115,112,114,105,110,116],bs [114,101,108,97,121]],0)
theorem Yf6:(Zbt 400).code Qt4=some Quf:=by kernel_rfl
noncomputable def Qzz:PC:={ats:=U4,rts:=Vd,code:=Go.Sx.one (ats:=U4) (rts:=Vd) Qt4 Quf}
theorem Ykm:Qg cx.bare 36 Qzz:=(Ycf 400).bare.one Qt4 Quf Yf6
noncomputable def Kr:Lx:={ext:=[(98,(Qqq 400).sm),(99,(Qq7 400).sm)],anns:=[],still:=[]}
theorem Ui:Kr.Ok cx.bare:=Lx.Zj (PC.Qr (Vu 400).bare) (Lx.Zj (PC.Qr (Vk 400).bare) (Lx.Uc))
def Vn:(Ze):=(7000,bs [99,108,117,98],bs [],bs [65],bs [],bs [],0,0,bs [],0,bs [],[])
def Vm:Int:=0
abbrev Z4:List Qd:=[.agg [.int .i64,.str,.str,.str,.str,.str,.int .i64,.int .i64,.str,.int .i64,.str,.seq [.str]]]
abbrev Zk:List Qd:=[.val (.int .i64)]
theorem Yh7:Zl cx.bare Kr 3000 .leaf f23 (Qs f23) Z4 Zk Vn=some Vm:=by kernel_rfl
noncomputable def Ydg:PC:={ats:=Z4,rts:=Zk,code:=Go.Sx.one (ats:=Z4) (rts:=Zk) Vn Vm}
theorem Zsv:Qg cx.bare 23 Ydg:=Qg.Z0 (Cx.Yz Z1) Ui (n:=3000) (an:=.leaf) (fn:=f23) (c:=Qs f23) (by kernel_rfl) (by kernel_rfl) (fun a y h=>by obtain⟨h1,h2⟩:=Go.Sx.one_some h;subst h1;subst h2;exact Yh7) (by kernel_rfl)
def V2:(Ze):=(7000,bs [99,108,117,98],bs [],bs [66],bs [],bs [],0,0,bs [],0,bs [],[])
def Vx:Int:=0
theorem Zmu:Zl cx.bare Kr 3000 .leaf f23 (Qs f23) Z4 Zk V2=some Vx:=by kernel_rfl
noncomputable def Yi0:PC:={ats:=Z4,rts:=Zk,code:=Go.Sx.one (ats:=Z4) (rts:=Zk) V2 Vx}
theorem Yhw:Qg cx.bare 23 Yi0:=Qg.Z0 (Cx.Yz Z1) Ui (n:=3000) (an:=.leaf) (fn:=f23) (c:=Qs f23) (by kernel_rfl) (by kernel_rfl) (fun a y h=>by obtain⟨h1,h2⟩:=Go.Sx.one_some h;subst h1;subst h2;exact Zmu) (by kernel_rfl)
def K7:(Ze):=(7000,bs [97,116,104,108,101,116,101],bs [97,110,110],bs [65],bs [119,111,109,101,110],bs [],1000,0,bs [],0,bs [],[])
def Ku:Int:=0
theorem Yaj:Zl cx.bare Kr 3000 .leaf f23 (Qs f23) Z4 Zk K7=some Ku:=by kernel_rfl
noncomputable def Zrh:PC:={ats:=Z4,rts:=Zk,code:=Go.Sx.one (ats:=Z4) (rts:=Zk) K7 Ku}
theorem Yjc:Qg cx.bare 23 Zrh:=Qg.Z0 (Cx.Yz Z1) Ui (n:=3000) (an:=.leaf) (fn:=f23) (c:=Qs f23) (by kernel_rfl) (by kernel_rfl) (fun a y h=>by obtain⟨h1,h2⟩:=Go.Sx.one_some h;subst h1;subst h2;exact Yaj) (by kernel_rfl)
def U5:(Ze):=(7000,bs [108,105,99,101,110,99,101],bs [97,110,110],bs [],bs [],bs [],7000,9000,bs [],0,bs [],[])
def Uy:Int:=0
theorem Ybu:Zl cx.bare Kr 3000 .leaf f23 (Qs f23) Z4 Zk U5=some Uy:=by kernel_rfl
noncomputable def Zm9:PC:={ats:=Z4,rts:=Zk,code:=Go.Sx.one (ats:=Z4) (rts:=Zk) U5 Uy}
theorem Zty:Qg cx.bare 23 Zm9:=Qg.Z0 (Cx.Yz Z1) Ui (n:=3000) (an:=.leaf) (fn:=f23) (c:=Qs f23) (by kernel_rfl) (by kernel_rfl) (fun a y h=>by obtain⟨h1,h2⟩:=Go.Sx.one_some h;subst h1;subst h2;exact Ybu) (by kernel_rfl)
def Qa6:(Ze):=(7000,bs [97,116,104,108,101,116,101],bs [97,109,121],bs [65],bs [119,111,109,101,110],bs [],1000,0,bs [],0,bs [],[])
def Qaj:Int:=0
theorem Yap:Zl cx.bare Kr 3000 .leaf f23 (Qs f23) Z4 Zk Qa6=some Qaj:=by kernel_rfl
noncomputable def Yny:PC:={ats:=Z4,rts:=Zk,code:=Go.Sx.one (ats:=Z4) (rts:=Zk) Qa6 Qaj}
theorem Zyb:Qg cx.bare 23 Yny:=Qg.Z0 (Cx.Yz Z1) Ui (n:=3000) (an:=.leaf) (fn:=f23) (c:=Qs f23) (by kernel_rfl) (by kernel_rfl) (fun a y h=>by obtain⟨h1,h2⟩:=Go.Sx.one_some h;subst h1;subst h2;exact Yap) (by kernel_rfl)
def Qb6:(Ze):=(7000,bs [108,105,99,101,110,99,101],bs [97,109,121],bs [],bs [],bs [],7000,9000,bs [],0,bs [],[])
def Qcb:Int:=0
theorem Zpi:Zl cx.bare Kr 3000 .leaf f23 (Qs f23) Z4 Zk Qb6=some Qcb:=by kernel_rfl
noncomputable def Zn7:PC:={ats:=Z4,rts:=Zk,code:=Go.Sx.one (ats:=Z4) (rts:=Zk) Qb6 Qcb}
theorem Yhb:Qg cx.bare 23 Zn7:=Qg.Z0 (Cx.Yz Z1) Ui (n:=3000) (an:=.leaf) (fn:=f23) (c:=Qs f23) (by kernel_rfl) (by kernel_rfl) (fun a y h=>by obtain⟨h1,h2⟩:=Go.Sx.one_some h;subst h1;subst h2;exact Zpi) (by kernel_rfl)
def Qcr:(Ze):=(7000,bs [97,116,104,108,101,116,101],bs [98,101,97],bs [66],bs [119,111,109,101,110],bs [],1000,0,bs [],0,bs [],[])
def Qc4:Int:=0
theorem Yjh:Zl cx.bare Kr 3000 .leaf f23 (Qs f23) Z4 Zk Qcr=some Qc4:=by kernel_rfl
noncomputable def Yg6:PC:={ats:=Z4,rts:=Zk,code:=Go.Sx.one (ats:=Z4) (rts:=Zk) Qcr Qc4}
theorem Zy9:Qg cx.bare 23 Yg6:=Qg.Z0 (Cx.Yz Z1) Ui (n:=3000) (an:=.leaf) (fn:=f23) (c:=Qs f23) (by kernel_rfl) (by kernel_rfl) (fun a y h=>by obtain⟨h1,h2⟩:=Go.Sx.one_some h;subst h1;subst h2;exact Yjh) (by kernel_rfl)
def Qel:(Ze):=(7000,bs [108,105,99,101,110,99,101],bs [98,101,97],bs [],bs [],bs [],7000,9000,bs [],0,bs [],[])
def Qft:Int:=0
theorem Zyl:Zl cx.bare Kr 3000 .leaf f23 (Qs f23) Z4 Zk Qel=some Qft:=by kernel_rfl
noncomputable def Zuv:PC:={ats:=Z4,rts:=Zk,code:=Go.Sx.one (ats:=Z4) (rts:=Zk) Qel Qft}
theorem Zri:Qg cx.bare 23 Zuv:=Qg.Z0 (Cx.Yz Z1) Ui (n:=3000) (an:=.leaf) (fn:=f23) (c:=Qs f23) (by kernel_rfl) (by kernel_rfl) (fun a y h=>by obtain⟨h1,h2⟩:=Go.Sx.one_some h;subst h1;subst h2;exact Zyl) (by kernel_rfl)
def Qhv:(Ze):=(7950,bs [101,110,116,101,114],bs [97,110,110],bs [],bs [],bs [115,112,114,105,110,116],0,0,bs [116,105,109,101],115000,bs [],[])
def Qik:Int:=0
theorem Yiu:Zl cx.bare Kr 3000 .leaf f23 (Qs f23) Z4 Zk Qhv=some Qik:=by kernel_rfl
noncomputable def Zm1:PC:={ats:=Z4,rts:=Zk,code:=Go.Sx.one (ats:=Z4) (rts:=Zk) Qhv Qik}
theorem Zu4:Qg cx.bare 23 Zm1:=Qg.Z0 (Cx.Yz Z1) Ui (n:=3000) (an:=.leaf) (fn:=f23) (c:=Qs f23) (by kernel_rfl) (by kernel_rfl) (fun a y h=>by obtain⟨h1,h2⟩:=Go.Sx.one_some h;subst h1;subst h2;exact Yiu) (by kernel_rfl)
def Qlu:(Ze):=(7950,bs [101,110,116,101,114],bs [97,109,121],bs [],bs [],bs [115,112,114,105,110,116],0,0,bs [116,105,109,101],112000,bs [],[])
def Qli:Int:=0
theorem Zru:Zl cx.bare Kr 3000 .leaf f23 (Qs f23) Z4 Zk Qlu=some Qli:=by kernel_rfl
noncomputable def Zkj:PC:={ats:=Z4,rts:=Zk,code:=Go.Sx.one (ats:=Z4) (rts:=Zk) Qlu Qli}
theorem Zq5:Qg cx.bare 23 Zkj:=Qg.Z0 (Cx.Yz Z1) Ui (n:=3000) (an:=.leaf) (fn:=f23) (c:=Qs f23) (by kernel_rfl) (by kernel_rfl) (fun a y h=>by obtain⟨h1,h2⟩:=Go.Sx.one_some h;subst h1;subst h2;exact Zru) (by kernel_rfl)
def Qm1:(Ze):=(7950,bs [101,110,116,101,114],bs [98,101,97],bs [],bs [],bs [115,112,114,105,110,116],0,0,bs [116,105,109,101],119000,bs [],[])
def Qoa:Int:=0
theorem Zzz:Zl cx.bare Kr 3000 .leaf f23 (Qs f23) Z4 Zk Qm1=some Qoa:=by kernel_rfl
noncomputable def Yf3:PC:={ats:=Z4,rts:=Zk,code:=Go.Sx.one (ats:=Z4) (rts:=Zk) Qm1 Qoa}
theorem Zwy:Qg cx.bare 23 Yf3:=Qg.Z0 (Cx.Yz Z1) Ui (n:=3000) (an:=.leaf) (fn:=f23) (c:=Qs f23) (by kernel_rfl) (by kernel_rfl) (fun a y h=>by obtain⟨h1,h2⟩:=Go.Sx.one_some h;subst h1;subst h2;exact Zzz) (by kernel_rfl)
end Go.Proofs.Tryz

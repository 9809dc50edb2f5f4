/- awake: its examples, and what functions of data answer awake: CheckAct at the acts of the office -/
import Derived.Test.YtpkbmngnolhopaaGreatDoorXT3q
import Derived.Test.YtpkbmngnolhopaaGreatDoorXT3u
import Derived.Test.YtpkbmngnolhopaaGreatDoorXSxQg
set_option maxRecDepth 1000000
set_option linter.unusedVariables false
namespace Go.Proofs.Tryz
open Go Go.Sx
def bs(l:List UInt8):ByteArray:=⟨⟨l⟩⟩
def opn:Zs:=(8000,7900,7990,2,[(bs [115,112,114,105,110,116],bs [116,105,109,101],bs [],16,40,2,1,bs [116,105,109,101],120000,bs [],0),(bs [106,117,109,112],bs [108,101,110,103,116,104],bs [],16,40,8,2,bs [110,111,110,101],0,bs [78,77],0),(bs [114,101,108,97,121],bs [116,105,109,101],bs [],16,40,8,1,bs [110,111,110,101],0,bs [78,77],2)])
def Qho:List (Q9):=[(7000,bs [99,108,117,98],bs [],bs [65],bs [],bs [],0,0,bs [],0,bs [],[]),(7000,bs [99,108,117,98],bs [],bs [66],bs [],bs [],0,0,bs [],0,bs [],[]),(7000,bs [97,116,104,108,101,116,101],bs [97,110,110],bs [65],bs [119,111,109,101,110],bs [],1000,0,bs [],0,bs [],[]),(7000,bs [108,105,99,101,110,99,101],bs [97,110,110],bs [],bs [],bs [],7000,9000,bs [],0,bs [],[]),(7000,bs [97,116,104,108,101,116,101],bs [97,109,121],bs [65],bs [119,111,109,101,110],bs [],1000,0,bs [],0,bs [],[]),(7000,bs [108,105,99,101,110,99,101],bs [97,109,121],bs [],bs [],bs [],7000,9000,bs [],0,bs [],[]),(7000,bs [97,116,104,108,101,116,101],bs [98,101,97],bs [66],bs [119,111,109,101,110],bs [],1000,0,bs [],0,bs [],[]),(7000,bs [108,105,99,101,110,99,101],bs [98,101,97],bs [],bs [],bs [],7000,9000,bs [],0,bs [],[]),(7950,bs [101,110,116,101,114],bs [97,110,110],bs [],bs [],bs [115,112,114,105,110,116],0,0,bs [116,105,109,101],115000,bs [],[]),(7950,bs [101,110,116,101,114],bs [97,109,121],bs [],bs [],bs [115,112,114,105,110,116],0,0,bs [116,105,109,101],112000,bs [],[]),(7950,bs [101,110,116,101,114],bs [98,101,97],bs [],bs [],bs [115,112,114,105,110,116],0,0,bs [116,105,109,101],119000,bs [],[])]
def stS:Ql:=([bs [65],bs [66]],[(bs [97,110,110],bs [65],1000,bs [119,111,109,101,110]),(bs [97,109,121],bs [65],1000,bs [119,111,109,101,110]),(bs [98,101,97],bs [66],1000,bs [119,111,109,101,110])],[(bs [97,110,110],7000,9000),(bs [97,109,121],7000,9000),(bs [98,101,97],7000,9000)],[(bs [97,110,110],bs [115,112,114,105,110,116],bs [116,105,109,101],115000,bs [],7950,false),(bs [97,109,121],bs [115,112,114,105,110,116],bs [116,105,109,101],112000,bs [],7950,false),(bs [98,101,97],bs [115,112,114,105,110,116],bs [116,105,109,101],119000,bs [],7950,false)],[])
def stT:Ql:=([bs [65],bs [66]],[(bs [97,110,110],bs [65],1000,bs [119,111,109,101,110]),(bs [97,109,121],bs [65],1000,bs [119,111,109,101,110]),(bs [98,101,97],bs [66],1000,bs [119,111,109,101,110])],[(bs [97,110,110],7000,9000),(bs [97,109,121],7000,9000),(bs [98,101,97],7000,9000)],[(bs [97,110,110],bs [115,112,114,105,110,116],bs [116,105,109,101],115000,bs [],7950,false),(bs [98,101,97],bs [115,112,114,105,110,116],bs [116,105,109,101],119000,bs [],7950,false)],[])
def stU:Ql:=([bs [65],bs [66]],[(bs [97,110,110],bs [65],1000,bs [119,111,109,101,110]),(bs [97,109,121],bs [65],1000,bs [119,111,109,101,110]),(bs [98,101,97],bs [66],1000,bs [119,111,109,101,110])],[(bs [97,110,110],7000,9000),(bs [97,109,121],7000,9000),(bs [98,101,97],7000,9000)],[(bs [97,110,110],bs [115,112,114,105,110,116],bs [116,105,109,101],115000,bs [],7950,false),(bs [97,109,121],bs [115,112,114,105,110,116],bs [116,105,109,101],112000,bs [],7950,false),(bs [98,101,97],bs [115,112,114,105,110,116],bs [116,105,109,101],119000,bs [],7950,false)],[(bs [65],bs [114,101,108,97,121],[bs [97,110,110],bs [97,109,121]])])
def stX:Ql:=([bs [65],bs [66]],[(bs [97,110,110],bs [65],1000,bs [119,111,109,101,110]),(bs [97,109,121],bs [65],1000,bs [119,111,109,101,110]),(bs [98,101,97],bs [66],1000,bs [119,111,109,101,110])],[(bs [97,110,110],7000,9000),(bs [97,109,121],7000,9000),(bs [98,101,97],7000,9000)],[(bs [97,110,110],bs [115,112,114,105,110,116],bs [116,105,109,101],115000,bs [],7950,true),(bs [97,109,121],bs [115,112,114,105,110,116],bs [116,105,109,101],112000,bs [],7950,false),(bs [98,101,97],bs [115,112,114,105,110,116],bs [116,105,109,101],119000,bs [],7950,false)],[])
def stY:Ql:=([bs [65],bs [66]],[(bs [97,110,110],bs [65],1000,bs [119,111,109,101,110]),(bs [97,109,121],bs [65],1000,bs [119,111,109,101,110]),(bs [98,101,97],bs [66],1000,bs [119,111,109,101,110])],[(bs [97,110,110],7000,9000),(bs [97,109,121],7000,9000),(bs [98,101,97],7000,9000)],[(bs [97,110,110],bs [115,112,114,105,110,116],bs [116,105,109,101],115000,bs [],7950,true),(bs [97,109,121],bs [115,112,114,105,110,116],bs [116,105,109,101],112000,bs [],7950,true),(bs [98,101,97],bs [115,112,114,105,110,116],bs [116,105,109,101],119000,bs [],7950,false)],[])
abbrev Qqn:List Ty:=[.int .i64,.str,.str,.str,.str,.str,.int .i64,.int .i64,.str,.int .i64,.str,.seq [.str]]
noncomputable def lxF:Lx:={ext:=[(83,(Qsr 400).sm)],anns:=[],still:=[]}
theorem Ycj:lxF.Ok cx.bare:=Lx.Zn (PC.Qu (Zfm 400).bare) (Lx.K4)
noncomputable def Zfp:PF:={ats:=[],ty:=35,row:=Qqn,code:=fun _=>some Qho}
theorem q82:codeF cx.bare lxF 3000 (Qcg (.typ 0 35 Qqn .leaf) (Qs f82)) f82 (Qs f82) [] 35 Qqn ()=some Qho:=by kernel_rfl
theorem Yj4:J8 cx.bare 82 Zfp:=J8.Yc (Cx.Y2 Yd) Ycj (n:=3000) (an:=Qcg (.typ 0 35 Qqn .leaf) (Qs f82)) (fn:=f82) (c:=Qs f82) (by kernel_rfl) (by kernel_rfl) (fun a y h=>q82.trans h) (by kernel_rfl)
def Qvn:(Zs)×(Ql)×ByteArray:=(opn,stS,bs [115,112,114,105,110,116])
def Quo:List ByteArray×Int:=([bs [97,109,121],bs [98,101,97]],0)
abbrev Us:List Qe:=[.agg [.int .i64,.int .i64,.int .i64,.int .i64,.seq [.str,.str,.str,.int .i64,.int .i64,.int .i64,.int .i64,.str,.int .i64,.str,.int .i64]],.agg [.seq [.str],.seq [.str,.str,.int .i64,.str],.seq [.str,.int .i64,.int .i64],.seq [.str,.str,.str,.int .i64,.str,.int .i64,.bool],.seq [.str,.str,.seq [.str]]],.val .str]
abbrev Vo:List Qe:=[.val (.seq [.str]),.val (.int .i64)]
theorem Yga:(Qya 400).code Qvn=some Quo:=by kernel_rfl
noncomputable def Que:PC:={ats:=Us,rts:=Vo,code:=Go.Sx.one (ats:=Us) (rts:=Vo) Qvn Quo}
theorem Zxc:Qg cx.bare 52 Que:=(Zco 400).bare.one Qvn Quo Yga
def Qvs:(Zs)×(Ql)×ByteArray:=(opn,stS,bs [115,112,114,105,110,116])
def Qu3:List ByteArray×Int:=([bs [97,110,110]],0)
theorem Zzd:(Zik 400).code Qvs=some Qu3:=by kernel_rfl
noncomputable def Zc4:PC:={ats:=Us,rts:=Vo,code:=Go.Sx.one (ats:=Us) (rts:=Vo) Qvs Qu3}
theorem Zp1:Qg cx.bare 56 Zc4:=(Zvf 400).bare.one Qvs Qu3 Zzd
def Qmi:(Zs)×(Ql)×ByteArray:=(opn,stT,bs [115,112,114,105,110,116])
def Qj2:List ByteArray×Int:=([bs [97,110,110],bs [98,101,97]],0)
theorem Yfh:(Qya 400).code Qmi=some Qj2:=by kernel_rfl
noncomputable def Ygv:PC:={ats:=Us,rts:=Vo,code:=Go.Sx.one (ats:=Us) (rts:=Vo) Qmi Qj2}
theorem Zqb:Qg cx.bare 52 Ygv:=(Zco 400).bare.one Qmi Qj2 Yfh
def Qvu:(Zs)×(Ql):=(opn,stU)
def Qxe:List (ByteArray×ByteArray)×Int:=([(bs [115,112,114,105,110,116],bs [114,101,108,97,121])],0)
abbrev Qn4:List Qe:=[.agg [.int .i64,.int .i64,.int .i64,.int .i64,.seq [.str,.str,.str,.int .i64,.int .i64,.int .i64,.int .i64,.str,.int .i64,.str,.int .i64]],.agg [.seq [.str],.seq [.str,.str,.int .i64,.str],.seq [.str,.int .i64,.int .i64],.seq [.str,.str,.str,.int .i64,.str,.int .i64,.bool],.seq [.str,.str,.seq [.str]]]]
abbrev Zdg:List Qe:=[.val (.seq [.str,.str]),.val (.int .i64)]
theorem Yns:(Zhk 400).code Qvu=some Qxe:=by kernel_rfl
noncomputable def Zfa:PC:={ats:=Qn4,rts:=Zdg,code:=Go.Sx.one (ats:=Qn4) (rts:=Zdg) Qvu Qxe}
theorem Ye0:Qg cx.bare 37 Zfa:=(Yj5 400).bare.one Qvu Qxe Yns
def Qtc:(Zs)×(Ql):=(opn,stS)
def Qvz:List Int×Int:=([2,1],0)
abbrev Qzz:List Qe:=[.val (.seq [.int .i64]),.val (.int .i64)]
theorem Zt1:(Zht 400).code Qtc=some Qvz:=by kernel_rfl
noncomputable def Zdv:PC:={ats:=Qn4,rts:=Qzz,code:=Go.Sx.one (ats:=Qn4) (rts:=Qzz) Qtc Qvz}
theorem Zzn:Qg cx.bare 38 Zdv:=(Yhi 400).bare.one Qtc Qvz Zt1
def Qup:(Zs)×(Ql)×ByteArray:=(opn,stU,bs [97,110,110])
def Qts:List ByteArray×Int:=([bs [115,112,114,105,110,116],bs [114,101,108,97,121]],0)
theorem Yek:(Zal 400).code Qup=some Qts:=by kernel_rfl
noncomputable def Zkx:PC:={ats:=Us,rts:=Vo,code:=Go.Sx.one (ats:=Us) (rts:=Vo) Qup Qts}
theorem Yq8:Qg cx.bare 36 Zkx:=(Ynr 400).bare.one Qup Qts Yek
noncomputable def Kr:Lx:={ext:=[(98,(Qqh 400).sm),(99,(Qrf 400).sm)],anns:=[],still:=[]}
theorem Uh:Kr.Ok cx.bare:=Lx.Zn (PC.Qu (Vz 400).bare) (Lx.Zn (PC.Qu (Vh 400).bare) (Lx.K4))
def Vf:(Q9):=(7000,bs [99,108,117,98],bs [],bs [65],bs [],bs [],0,0,bs [],0,bs [],[])
def Vi:Int:=0
abbrev Z7:List Qe:=[.agg [.int .i64,.str,.str,.str,.str,.str,.int .i64,.int .i64,.str,.int .i64,.str,.seq [.str]]]
abbrev Zo:List Qe:=[.val (.int .i64)]
theorem Ysf:Z2 cx.bare Kr 3000 .leaf f23 (Qs f23) Z7 Zo Vf=some Vi:=by kernel_rfl
noncomputable def Zyd:PC:={ats:=Z7,rts:=Zo,code:=Go.Sx.one (ats:=Z7) (rts:=Zo) Vf Vi}
theorem Yd7:Qg cx.bare 23 Zyd:=Qg.Yc (Cx.Y2 Yd) Uh (n:=3000) (an:=.leaf) (fn:=f23) (c:=Qs f23) (by kernel_rfl) (by kernel_rfl) (fun a y h=>by obtain⟨h1,h2⟩:=Go.Sx.one_some h;subst h1;subst h2;exact Ysf) (by kernel_rfl)
def Vw:(Q9):=(7000,bs [99,108,117,98],bs [],bs [66],bs [],bs [],0,0,bs [],0,bs [],[])
def V4:Int:=0
theorem Ya9:Z2 cx.bare Kr 3000 .leaf f23 (Qs f23) Z7 Zo Vw=some V4:=by kernel_rfl
noncomputable def Yl6:PC:={ats:=Z7,rts:=Zo,code:=Go.Sx.one (ats:=Z7) (rts:=Zo) Vw V4}
theorem Yoz:Qg cx.bare 23 Yl6:=Qg.Yc (Cx.Y2 Yd) Uh (n:=3000) (an:=.leaf) (fn:=f23) (c:=Qs f23) (by kernel_rfl) (by kernel_rfl) (fun a y h=>by obtain⟨h1,h2⟩:=Go.Sx.one_some h;subst h1;subst h2;exact Ya9) (by kernel_rfl)
def Kh:(Q9):=(7000,bs [97,116,104,108,101,116,101],bs [97,110,110],bs [65],bs [119,111,109,101,110],bs [],1000,0,bs [],0,bs [],[])
def Kg:Int:=0
theorem Yaw:Z2 cx.bare Kr 3000 .leaf f23 (Qs f23) Z7 Zo Kh=some Kg:=by kernel_rfl
noncomputable def Zsk:PC:={ats:=Z7,rts:=Zo,code:=Go.Sx.one (ats:=Z7) (rts:=Zo) Kh Kg}
theorem Zty:Qg cx.bare 23 Zsk:=Qg.Yc (Cx.Y2 Yd) Uh (n:=3000) (an:=.leaf) (fn:=f23) (c:=Qs f23) (by kernel_rfl) (by kernel_rfl) (fun a y h=>by obtain⟨h1,h2⟩:=Go.Sx.one_some h;subst h1;subst h2;exact Yaw) (by kernel_rfl)
def Uk:(Q9):=(7000,bs [108,105,99,101,110,99,101],bs [97,110,110],bs [],bs [],bs [],7000,9000,bs [],0,bs [],[])
def Ux:Int:=0
theorem Zv8:Z2 cx.bare Kr 3000 .leaf f23 (Qs f23) Z7 Zo Uk=some Ux:=by kernel_rfl
noncomputable def Zw4:PC:={ats:=Z7,rts:=Zo,code:=Go.Sx.one (ats:=Z7) (rts:=Zo) Uk Ux}
theorem Znd:Qg cx.bare 23 Zw4:=Qg.Yc (Cx.Y2 Yd) Uh (n:=3000) (an:=.leaf) (fn:=f23) (c:=Qs f23) (by kernel_rfl) (by kernel_rfl) (fun a y h=>by obtain⟨h1,h2⟩:=Go.Sx.one_some h;subst h1;subst h2;exact Zv8) (by kernel_rfl)
def Qa7:(Q9):=(7000,bs [97,116,104,108,101,116,101],bs [97,109,121],bs [65],bs [119,111,109,101,110],bs [],1000,0,bs [],0,bs [],[])
def Qaf:Int:=0
theorem Ztr:Z2 cx.bare Kr 3000 .leaf f23 (Qs f23) Z7 Zo Qa7=some Qaf:=by kernel_rfl
noncomputable def Ybn:PC:={ats:=Z7,rts:=Zo,code:=Go.Sx.one (ats:=Z7) (rts:=Zo) Qa7 Qaf}
theorem Yow:Qg cx.bare 23 Ybn:=Qg.Yc (Cx.Y2 Yd) Uh (n:=3000) (an:=.leaf) (fn:=f23) (c:=Qs f23) (by kernel_rfl) (by kernel_rfl) (fun a y h=>by obtain⟨h1,h2⟩:=Go.Sx.one_some h;subst h1;subst h2;exact Ztr) (by kernel_rfl)
def Qck:(Q9):=(7000,bs [108,105,99,101,110,99,101],bs [97,109,121],bs [],bs [],bs [],7000,9000,bs [],0,bs [],[])
def Qbk:Int:=0
theorem Zxl:Z2 cx.bare Kr 3000 .leaf f23 (Qs f23) Z7 Zo Qck=some Qbk:=by kernel_rfl
noncomputable def Ypd:PC:={ats:=Z7,rts:=Zo,code:=Go.Sx.one (ats:=Z7) (rts:=Zo) Qck Qbk}
theorem Ysa:Qg cx.bare 23 Ypd:=Qg.Yc (Cx.Y2 Yd) Uh (n:=3000) (an:=.leaf) (fn:=f23) (c:=Qs f23) (by kernel_rfl) (by kernel_rfl) (fun a y h=>by obtain⟨h1,h2⟩:=Go.Sx.one_some h;subst h1;subst h2;exact Zxl) (by kernel_rfl)
def Qdd:(Q9):=(7000,bs [97,116,104,108,101,116,101],bs [98,101,97],bs [66],bs [119,111,109,101,110],bs [],1000,0,bs [],0,bs [],[])
def Qc2:Int:=0
theorem Ykm:Z2 cx.bare Kr 3000 .leaf f23 (Qs f23) Z7 Zo Qdd=some Qc2:=by kernel_rfl
noncomputable def Zrn:PC:={ats:=Z7,rts:=Zo,code:=Go.Sx.one (ats:=Z7) (rts:=Zo) Qdd Qc2}
theorem Ypp:Qg cx.bare 23 Zrn:=Qg.Yc (Cx.Y2 Yd) Uh (n:=3000) (an:=.leaf) (fn:=f23) (c:=Qs f23) (by kernel_rfl) (by kernel_rfl) (fun a y h=>by obtain⟨h1,h2⟩:=Go.Sx.one_some h;subst h1;subst h2;exact Ykm) (by kernel_rfl)
def Qfx:(Q9):=(7000,bs [108,105,99,101,110,99,101],bs [98,101,97],bs [],bs [],bs [],7000,9000,bs [],0,bs [],[])
def Qfb:Int:=0
theorem Ybf:Z2 cx.bare Kr 3000 .leaf f23 (Qs f23) Z7 Zo Qfx=some Qfb:=by kernel_rfl
noncomputable def Yna:PC:={ats:=Z7,rts:=Zo,code:=Go.Sx.one (ats:=Z7) (rts:=Zo) Qfx Qfb}
theorem Yma:Qg cx.bare 23 Yna:=Qg.Yc (Cx.Y2 Yd) Uh (n:=3000) (an:=.leaf) (fn:=f23) (c:=Qs f23) (by kernel_rfl) (by kernel_rfl) (fun a y h=>by obtain⟨h1,h2⟩:=Go.Sx.one_some h;subst h1;subst h2;exact Ybf) (by kernel_rfl)
def Qis:(Q9):=(7950,bs [101,110,116,101,114],bs [97,110,110],bs [],bs [],bs [115,112,114,105,110,116],0,0,bs [116,105,109,101],115000,bs [],[])
def Qir:Int:=0
theorem Yfb:Z2 cx.bare Kr 3000 .leaf f23 (Qs f23) Z7 Zo Qis=some Qir:=by kernel_rfl
noncomputable def Yir:PC:={ats:=Z7,rts:=Zo,code:=Go.Sx.one (ats:=Z7) (rts:=Zo) Qis Qir}
theorem Znj:Qg cx.bare 23 Yir:=Qg.Yc (Cx.Y2 Yd) Uh (n:=3000) (an:=.leaf) (fn:=f23) (c:=Qs f23) (by kernel_rfl) (by kernel_rfl) (fun a y h=>by obtain⟨h1,h2⟩:=Go.Sx.one_some h;subst h1;subst h2;exact Yfb) (by kernel_rfl)
def Qja:(Q9):=(7950,bs [101,110,116,101,114],bs [97,109,121],bs [],bs [],bs [115,112,114,105,110,116],0,0,bs [116,105,109,101],112000,bs [],[])
def Ql1:Int:=0
theorem Zzg:Z2 cx.bare Kr 3000 .leaf f23 (Qs f23) Z7 Zo Qja=some Ql1:=by kernel_rfl
noncomputable def Zs7:PC:={ats:=Z7,rts:=Zo,code:=Go.Sx.one (ats:=Z7) (rts:=Zo) Qja Ql1}
theorem Zp2:Qg cx.bare 23 Zs7:=Qg.Yc (Cx.Y2 Yd) Uh (n:=3000) (an:=.leaf) (fn:=f23) (c:=Qs f23) (by kernel_rfl) (by kernel_rfl) (fun a y h=>by obtain⟨h1,h2⟩:=Go.Sx.one_some h;subst h1;subst h2;exact Zzg) (by kernel_rfl)
def Qr8:(Q9):=(7950,bs [101,110,116,101,114],bs [98,101,97],bs [],bs [],bs [115,112,114,105,110,116],0,0,bs [116,105,109,101],119000,bs [],[])
def Qrw:Int:=0
theorem Yoj:Z2 cx.bare Kr 3000 .leaf f23 (Qs f23) Z7 Zo Qr8=some Qrw:=by kernel_rfl
noncomputable def Yk7:PC:={ats:=Z7,rts:=Zo,code:=Go.Sx.one (ats:=Z7) (rts:=Zo) Qr8 Qrw}
theorem Ylm:Qg cx.bare 23 Yk7:=Qg.Yc (Cx.Y2 Yd) Uh (n:=3000) (an:=.leaf) (fn:=f23) (c:=Qs f23) (by kernel_rfl) (by kernel_rfl) (fun a y h=>by obtain⟨h1,h2⟩:=Go.Sx.one_some h;subst h1;subst h2;exact Yoj) (by kernel_rfl)
end Go.Proofs.Tryz

/- awake: its examples, and what functions of data answer awake: CheckAct at the acts of the office -/
import Derived.Test.YtpkbmngnolhopaaGreatDoorXT3i
import Derived.Test.YtpkbmngnolhopaaGreatDoorXT3u
import Derived.Test.YtpkbmngnolhopaaGreatDoorXSxQh
set_option maxRecDepth 1000000
set_option linter.unusedVariables false
namespace Go.Proofs.Tryz
open Go Go.Sx
def bs(l:List UInt8):ByteArray:=⟨⟨l⟩⟩
def opn:Zo:=(8000,7900,7990,2,[(bs [115,112,114,105,110,116],bs [116,105,109,101],bs [],16,40,2,1,bs [116,105,109,101],120000,bs [],0),(bs [106,117,109,112],bs [108,101,110,103,116,104],bs [],16,40,8,2,bs [110,111,110,101],0,bs [78,77],0),(bs [114,101,108,97,121],bs [116,105,109,101],bs [],16,40,8,1,bs [110,111,110,101],0,bs [78,77],2)])
def Qgn:List (Q6):=[(7000,bs [99,108,117,98],bs [],bs [65],bs [],bs [],0,0,bs [],0,bs [],[]),(7000,bs [99,108,117,98],bs [],bs [66],bs [],bs [],0,0,bs [],0,bs [],[]),(7000,bs [97,116,104,108,101,116,101],bs [97,110,110],bs [65],bs [119,111,109,101,110],bs [],1000,0,bs [],0,bs [],[]),(7000,bs [108,105,99,101,110,99,101],bs [97,110,110],bs [],bs [],bs [],7000,9000,bs [],0,bs [],[]),(7000,bs [97,116,104,108,101,116,101],bs [97,109,121],bs [65],bs [119,111,109,101,110],bs [],1000,0,bs [],0,bs [],[]),(7000,bs [108,105,99,101,110,99,101],bs [97,109,121],bs [],bs [],bs [],7000,9000,bs [],0,bs [],[]),(7000,bs [97,116,104,108,101,116,101],bs [98,101,97],bs [66],bs [119,111,109,101,110],bs [],1000,0,bs [],0,bs [],[]),(7000,bs [108,105,99,101,110,99,101],bs [98,101,97],bs [],bs [],bs [],7000,9000,bs [],0,bs [],[]),(7950,bs [101,110,116,101,114],bs [97,110,110],bs [],bs [],bs [115,112,114,105,110,116],0,0,bs [116,105,109,101],115000,bs [],[]),(7950,bs [101,110,116,101,114],bs [97,109,121],bs [],bs [],bs [115,112,114,105,110,116],0,0,bs [116,105,109,101],112000,bs [],[]),(7950,bs [101,110,116,101,114],bs [98,101,97],bs [],bs [],bs [115,112,114,105,110,116],0,0,bs [116,105,109,101],119000,bs [],[])]
def stS:Qk:=([bs [65],bs [66]],[(bs [97,110,110],bs [65],1000,bs [119,111,109,101,110]),(bs [97,109,121],bs [65],1000,bs [119,111,109,101,110]),(bs [98,101,97],bs [66],1000,bs [119,111,109,101,110])],[(bs [97,110,110],7000,9000),(bs [97,109,121],7000,9000),(bs [98,101,97],7000,9000)],[(bs [97,110,110],bs [115,112,114,105,110,116],bs [116,105,109,101],115000,bs [],7950,false),(bs [97,109,121],bs [115,112,114,105,110,116],bs [116,105,109,101],112000,bs [],7950,false),(bs [98,101,97],bs [115,112,114,105,110,116],bs [116,105,109,101],119000,bs [],7950,false)],[])
def stT:Qk:=([bs [65],bs [66]],[(bs [97,110,110],bs [65],1000,bs [119,111,109,101,110]),(bs [97,109,121],bs [65],1000,bs [119,111,109,101,110]),(bs [98,101,97],bs [66],1000,bs [119,111,109,101,110])],[(bs [97,110,110],7000,9000),(bs [97,109,121],7000,9000),(bs [98,101,97],7000,9000)],[(bs [97,110,110],bs [115,112,114,105,110,116],bs [116,105,109,101],115000,bs [],7950,false),(bs [98,101,97],bs [115,112,114,105,110,116],bs [116,105,109,101],119000,bs [],7950,false)],[])
def stU:Qk:=([bs [65],bs [66]],[(bs [97,110,110],bs [65],1000,bs [119,111,109,101,110]),(bs [97,109,121],bs [65],1000,bs [119,111,109,101,110]),(bs [98,101,97],bs [66],1000,bs [119,111,109,101,110])],[(bs [97,110,110],7000,9000),(bs [97,109,121],7000,9000),(bs [98,101,97],7000,9000)],[(bs [97,110,110],bs [115,112,114,105,110,116],bs [116,105,109,101],115000,bs [],7950,false),(bs [97,109,121],bs [115,112,114,105,110,116],bs [116,105,109,101],112000,bs [],7950,false),(bs [98,101,97],bs [115,112,114,105,110,116],bs [116,105,109,101],119000,bs [],7950,false)],[(bs [65],bs [114,101,108,97,121],[bs [97,110,110],bs [97,109,121]])])
def stX:Qk:=([bs [65],bs [66]],[(bs [97,110,110],bs [65],1000,bs [119,111,109,101,110]),(bs [97,109,121],bs [65],1000,bs [119,111,109,101,110]),(bs [98,101,97],bs [66],1000,bs [119,111,109,101,110])],[(bs [97,110,110],7000,9000),(bs [97,109,121],7000,9000),(bs [98,101,97],7000,9000)],[(bs [97,110,110],bs [115,112,114,105,110,116],bs [116,105,109,101],115000,bs [],7950,true),(bs [97,109,121],bs [115,112,114,105,110,116],bs [116,105,109,101],112000,bs [],7950,false),(bs [98,101,97],bs [115,112,114,105,110,116],bs [116,105,109,101],119000,bs [],7950,false)],[])
def stY:Qk:=([bs [65],bs [66]],[(bs [97,110,110],bs [65],1000,bs [119,111,109,101,110]),(bs [97,109,121],bs [65],1000,bs [119,111,109,101,110]),(bs [98,101,97],bs [66],1000,bs [119,111,109,101,110])],[(bs [97,110,110],7000,9000),(bs [97,109,121],7000,9000),(bs [98,101,97],7000,9000)],[(bs [97,110,110],bs [115,112,114,105,110,116],bs [116,105,109,101],115000,bs [],7950,true),(bs [97,109,121],bs [115,112,114,105,110,116],bs [116,105,109,101],112000,bs [],7950,true),(bs [98,101,97],bs [115,112,114,105,110,116],bs [116,105,109,101],119000,bs [],7950,false)],[])
abbrev Qml:List Ty:=[.int .i64,.str,.str,.str,.str,.str,.int .i64,.int .i64,.str,.int .i64,.str,.seq [.str]]
noncomputable def lxF:Lx:={ext:=[(83,(Qwc 400).sm)],anns:=[],still:=[]}
theorem Ycd:lxF.Ok cx.bare:=Lx.Ze (PC.Qs (Qw9 400).bare) (Lx.V8)
noncomputable def Qx2:PF:={ats:=[],ty:=35,row:=Qml,code:=fun _=>some Qgn}
theorem q82:codeF cx.bare lxF 3000 (Qaq (.typ 0 35 Qml .leaf) (Qr f82)) f82 (Qr f82) [] 35 Qml ()=some Qgn:=by kernel_rfl
theorem Ylv:Jq cx.bare 82 Qx2:=Jq.Z3 (Cx.Yo Z4) Ycd (n:=3000) (an:=Qaq (.typ 0 35 Qml .leaf) (Qr f82)) (fn:=f82) (c:=Qr f82) (by kernel_rfl) (by kernel_rfl) (fun a y h=>q82.trans h) (by kernel_rfl)
def Qtg:(Zo)×(Qk)×ByteArray:=(opn,stS,bs [115,112,114,105,110,116])
def Qwj:List ByteArray×Int:=([bs [97,109,121],bs [98,101,97]],0)
abbrev Kx:List Qf:=[.agg [.int .i64,.int .i64,.int .i64,.int .i64,.seq [.str,.str,.str,.int .i64,.int .i64,.int .i64,.int .i64,.str,.int .i64,.str,.int .i64]],.agg [.seq [.str],.seq [.str,.str,.int .i64,.str],.seq [.str,.int .i64,.int .i64],.seq [.str,.str,.str,.int .i64,.str,.int .i64,.bool],.seq [.str,.str,.seq [.str]]],.val .str]
abbrev Wo:List Qf:=[.val (.seq [.str]),.val (.int .i64)]
theorem Zld:(Qwi 400).code Qtg=some Qwj:=by kernel_rfl
noncomputable def Qur:PC:={ats:=Kx,rts:=Wo,code:=Go.Sx.one (ats:=Kx) (rts:=Wo) Qtg Qwj}
theorem Ykh:Qg cx.bare 52 Qur:=(Zbl 400).bare.one Qtg Qwj Zld
def Qup:(Zo)×(Qk)×ByteArray:=(opn,stS,bs [115,112,114,105,110,116])
def Qqo:List ByteArray×Int:=([bs [97,110,110]],0)
theorem Yga:(Qym 400).code Qup=some Qqo:=by kernel_rfl
noncomputable def Zbg:PC:={ats:=Kx,rts:=Wo,code:=Go.Sx.one (ats:=Kx) (rts:=Wo) Qup Qqo}
theorem Zrk:Qg cx.bare 56 Zbg:=(Zx2 400).bare.one Qup Qqo Yga
def Qhq:(Zo)×(Qk)×ByteArray:=(opn,stT,bs [115,112,114,105,110,116])
def Qhz:List ByteArray×Int:=([bs [97,110,110],bs [98,101,97]],0)
theorem Zm9:(Qwi 400).code Qhq=some Qhz:=by kernel_rfl
noncomputable def Yjs:PC:={ats:=Kx,rts:=Wo,code:=Go.Sx.one (ats:=Kx) (rts:=Wo) Qhq Qhz}
theorem Zjr:Qg cx.bare 52 Yjs:=(Zbl 400).bare.one Qhq Qhz Zm9
def Qs0:(Zo)×(Qk):=(opn,stU)
def Qsq:List (ByteArray×ByteArray)×Int:=([(bs [115,112,114,105,110,116],bs [114,101,108,97,121])],0)
abbrev Qpe:List Qf:=[.agg [.int .i64,.int .i64,.int .i64,.int .i64,.seq [.str,.str,.str,.int .i64,.int .i64,.int .i64,.int .i64,.str,.int .i64,.str,.int .i64]],.agg [.seq [.str],.seq [.str,.str,.int .i64,.str],.seq [.str,.int .i64,.int .i64],.seq [.str,.str,.str,.int .i64,.str,.int .i64,.bool],.seq [.str,.str,.seq [.str]]]]
abbrev Qxr:List Qf:=[.val (.seq [.str,.str]),.val (.int .i64)]
theorem Zp0:(Za8 400).code Qs0=some Qsq:=by kernel_rfl
noncomputable def Qyt:PC:={ats:=Qpe,rts:=Qxr,code:=Go.Sx.one (ats:=Qpe) (rts:=Qxr) Qs0 Qsq}
theorem Yip:Qg cx.bare 37 Qyt:=(Ztz 400).bare.one Qs0 Qsq Zp0
def Qvp:(Zo)×(Qk):=(opn,stS)
def Qra:List Int×Int:=([2,1],0)
abbrev Zaa:List Qf:=[.val (.seq [.int .i64]),.val (.int .i64)]
theorem Ykr:(Zar 400).code Qvp=some Qra:=by kernel_rfl
noncomputable def Qxl:PC:={ats:=Qpe,rts:=Zaa,code:=Go.Sx.one (ats:=Qpe) (rts:=Zaa) Qvp Qra}
theorem Zz6:Qg cx.bare 38 Qxl:=(Ygn 400).bare.one Qvp Qra Ykr
def Qry:(Zo)×(Qk)×ByteArray:=(opn,stU,bs [97,110,110])
def Qs7:List ByteArray×Int:=([bs [115,112,114,105,110,116],bs [114,101,108,97,121]],0)
theorem Yek:(Qy3 400).code Qry=some Qs7:=by kernel_rfl
noncomputable def Zcz:PC:={ats:=Kx,rts:=Wo,code:=Go.Sx.one (ats:=Kx) (rts:=Wo) Qry Qs7}
theorem Yjh:Qg cx.bare 36 Zcz:=(Zmr 400).bare.one Qry Qs7 Yek
noncomputable def Vq:Lx:={ext:=[(98,(Qph 400).sm),(99,(Qox 400).sm)],anns:=[],still:=[]}
theorem Kp:Vq.Ok cx.bare:=Lx.Ze (PC.Qs (Ve 400).bare) (Lx.Ze (PC.Qs (Wk 400).bare) (Lx.V8))
def Wp:(Q6):=(7000,bs [99,108,117,98],bs [],bs [65],bs [],bs [],0,0,bs [],0,bs [],[])
def Wv:Int:=0
abbrev Zw:List Qf:=[.agg [.int .i64,.str,.str,.str,.str,.str,.int .i64,.int .i64,.str,.int .i64,.str,.seq [.str]]]
abbrev Zf:List Qf:=[.val (.int .i64)]
theorem Zve:Zs cx.bare Vq 3000 .leaf f23 (Qr f23) Zw Zf Wp=some Wv:=by kernel_rfl
noncomputable def Yax:PC:={ats:=Zw,rts:=Zf,code:=Go.Sx.one (ats:=Zw) (rts:=Zf) Wp Wv}
theorem Zxj:Qg cx.bare 23 Yax:=Qg.Z3 (Cx.Yo Z4) Kp (n:=3000) (an:=.leaf) (fn:=f23) (c:=Qr f23) (by kernel_rfl) (by kernel_rfl) (fun a y h=>by obtain⟨h1,h2⟩:=Go.Sx.one_some h;subst h1;subst h2;exact Zve) (by kernel_rfl)
def W8:(Q6):=(7000,bs [99,108,117,98],bs [],bs [66],bs [],bs [],0,0,bs [],0,bs [],[])
def W4:Int:=0
theorem Ylj:Zs cx.bare Vq 3000 .leaf f23 (Qr f23) Zw Zf W8=some W4:=by kernel_rfl
noncomputable def Zmj:PC:={ats:=Zw,rts:=Zf,code:=Go.Sx.one (ats:=Zw) (rts:=Zf) W8 W4}
theorem Zuh:Qg cx.bare 23 Zmj:=Qg.Z3 (Cx.Yo Z4) Kp (n:=3000) (an:=.leaf) (fn:=f23) (c:=Qr f23) (by kernel_rfl) (by kernel_rfl) (fun a y h=>by obtain⟨h1,h2⟩:=Go.Sx.one_some h;subst h1;subst h2;exact Ylj) (by kernel_rfl)
def Vv:(Q6):=(7000,bs [97,116,104,108,101,116,101],bs [97,110,110],bs [65],bs [119,111,109,101,110],bs [],1000,0,bs [],0,bs [],[])
def V6:Int:=0
theorem Ycl:Zs cx.bare Vq 3000 .leaf f23 (Qr f23) Zw Zf Vv=some V6:=by kernel_rfl
noncomputable def Yjr:PC:={ats:=Zw,rts:=Zf,code:=Go.Sx.one (ats:=Zw) (rts:=Zf) Vv V6}
theorem Ycg:Qg cx.bare 23 Yjr:=Qg.Z3 (Cx.Yo Z4) Kp (n:=3000) (an:=.leaf) (fn:=f23) (c:=Qr f23) (by kernel_rfl) (by kernel_rfl) (fun a y h=>by obtain⟨h1,h2⟩:=Go.Sx.one_some h;subst h1;subst h2;exact Ycl) (by kernel_rfl)
def Kt:(Q6):=(7000,bs [108,105,99,101,110,99,101],bs [97,110,110],bs [],bs [],bs [],7000,9000,bs [],0,bs [],[])
def Ku:Int:=0
theorem Ykn:Zs cx.bare Vq 3000 .leaf f23 (Qr f23) Zw Zf Kt=some Ku:=by kernel_rfl
noncomputable def Ye5:PC:={ats:=Zw,rts:=Zf,code:=Go.Sx.one (ats:=Zw) (rts:=Zf) Kt Ku}
theorem Zrg:Qg cx.bare 23 Ye5:=Qg.Z3 (Cx.Yo Z4) Kp (n:=3000) (an:=.leaf) (fn:=f23) (c:=Qr f23) (by kernel_rfl) (by kernel_rfl) (fun a y h=>by obtain⟨h1,h2⟩:=Go.Sx.one_some h;subst h1;subst h2;exact Ykn) (by kernel_rfl)
def Ui:(Q6):=(7000,bs [97,116,104,108,101,116,101],bs [97,109,121],bs [65],bs [119,111,109,101,110],bs [],1000,0,bs [],0,bs [],[])
def Ur:Int:=0
theorem Zji:Zs cx.bare Vq 3000 .leaf f23 (Qr f23) Zw Zf Ui=some Ur:=by kernel_rfl
noncomputable def Zy1:PC:={ats:=Zw,rts:=Zf,code:=Go.Sx.one (ats:=Zw) (rts:=Zf) Ui Ur}
theorem Ylo:Qg cx.bare 23 Zy1:=Qg.Z3 (Cx.Yo Z4) Kp (n:=3000) (an:=.leaf) (fn:=f23) (c:=Qr f23) (by kernel_rfl) (by kernel_rfl) (fun a y h=>by obtain⟨h1,h2⟩:=Go.Sx.one_some h;subst h1;subst h2;exact Zji) (by kernel_rfl)
def U9:(Q6):=(7000,bs [108,105,99,101,110,99,101],bs [97,109,121],bs [],bs [],bs [],7000,9000,bs [],0,bs [],[])
def Qav:Int:=0
theorem Zv0:Zs cx.bare Vq 3000 .leaf f23 (Qr f23) Zw Zf U9=some Qav:=by kernel_rfl
noncomputable def Ykl:PC:={ats:=Zw,rts:=Zf,code:=Go.Sx.one (ats:=Zw) (rts:=Zf) U9 Qav}
theorem Zpg:Qg cx.bare 23 Ykl:=Qg.Z3 (Cx.Yo Z4) Kp (n:=3000) (an:=.leaf) (fn:=f23) (c:=Qr f23) (by kernel_rfl) (by kernel_rfl) (fun a y h=>by obtain⟨h1,h2⟩:=Go.Sx.one_some h;subst h1;subst h2;exact Zv0) (by kernel_rfl)
def Qbc:(Q6):=(7000,bs [97,116,104,108,101,116,101],bs [98,101,97],bs [66],bs [119,111,109,101,110],bs [],1000,0,bs [],0,bs [],[])
def Qbg:Int:=0
theorem Yku:Zs cx.bare Vq 3000 .leaf f23 (Qr f23) Zw Zf Qbc=some Qbg:=by kernel_rfl
noncomputable def Zt2:PC:={ats:=Zw,rts:=Zf,code:=Go.Sx.one (ats:=Zw) (rts:=Zf) Qbc Qbg}
theorem Zui:Qg cx.bare 23 Zt2:=Qg.Z3 (Cx.Yo Z4) Kp (n:=3000) (an:=.leaf) (fn:=f23) (c:=Qr f23) (by kernel_rfl) (by kernel_rfl) (fun a y h=>by obtain⟨h1,h2⟩:=Go.Sx.one_some h;subst h1;subst h2;exact Yku) (by kernel_rfl)
def Qdu:(Q6):=(7000,bs [108,105,99,101,110,99,101],bs [98,101,97],bs [],bs [],bs [],7000,9000,bs [],0,bs [],[])
def Qc0:Int:=0
theorem Zzs:Zs cx.bare Vq 3000 .leaf f23 (Qr f23) Zw Zf Qdu=some Qc0:=by kernel_rfl
noncomputable def Yaa:PC:={ats:=Zw,rts:=Zf,code:=Go.Sx.one (ats:=Zw) (rts:=Zf) Qdu Qc0}
theorem Ydf:Qg cx.bare 23 Yaa:=Qg.Z3 (Cx.Yo Z4) Kp (n:=3000) (an:=.leaf) (fn:=f23) (c:=Qr f23) (by kernel_rfl) (by kernel_rfl) (fun a y h=>by obtain⟨h1,h2⟩:=Go.Sx.one_some h;subst h1;subst h2;exact Zzs) (by kernel_rfl)
def Qhc:(Q6):=(7950,bs [101,110,116,101,114],bs [97,110,110],bs [],bs [],bs [115,112,114,105,110,116],0,0,bs [116,105,109,101],115000,bs [],[])
def Qfc:Int:=0
theorem Zm3:Zs cx.bare Vq 3000 .leaf f23 (Qr f23) Zw Zf Qhc=some Qfc:=by kernel_rfl
noncomputable def Zvv:PC:={ats:=Zw,rts:=Zf,code:=Go.Sx.one (ats:=Zw) (rts:=Zf) Qhc Qfc}
theorem Zxn:Qg cx.bare 23 Zvv:=Qg.Z3 (Cx.Yo Z4) Kp (n:=3000) (an:=.leaf) (fn:=f23) (c:=Qr f23) (by kernel_rfl) (by kernel_rfl) (fun a y h=>by obtain⟨h1,h2⟩:=Go.Sx.one_some h;subst h1;subst h2;exact Zm3) (by kernel_rfl)
def Qh1:(Q6):=(7950,bs [101,110,116,101,114],bs [97,109,121],bs [],bs [],bs [115,112,114,105,110,116],0,0,bs [116,105,109,101],112000,bs [],[])
def Qiy:Int:=0
theorem Zs9:Zs cx.bare Vq 3000 .leaf f23 (Qr f23) Zw Zf Qh1=some Qiy:=by kernel_rfl
noncomputable def Yi7:PC:={ats:=Zw,rts:=Zf,code:=Go.Sx.one (ats:=Zw) (rts:=Zf) Qh1 Qiy}
theorem Yiu:Qg cx.bare 23 Yi7:=Qg.Z3 (Cx.Yo Z4) Kp (n:=3000) (an:=.leaf) (fn:=f23) (c:=Qr f23) (by kernel_rfl) (by kernel_rfl) (fun a y h=>by obtain⟨h1,h2⟩:=Go.Sx.one_some h;subst h1;subst h2;exact Zs9) (by kernel_rfl)
def Qlk:(Q6):=(7950,bs [101,110,116,101,114],bs [98,101,97],bs [],bs [],bs [115,112,114,105,110,116],0,0,bs [116,105,109,101],119000,bs [],[])
def Qpz:Int:=0
theorem Ybd:Zs cx.bare Vq 3000 .leaf f23 (Qr f23) Zw Zf Qlk=some Qpz:=by kernel_rfl
noncomputable def Zk1:PC:={ats:=Zw,rts:=Zf,code:=Go.Sx.one (ats:=Zw) (rts:=Zf) Qlk Qpz}
theorem Zr8:Qg cx.bare 23 Zk1:=Qg.Z3 (Cx.Yo Z4) Kp (n:=3000) (an:=.leaf) (fn:=f23) (c:=Qr f23) (by kernel_rfl) (by kernel_rfl) (fun a y h=>by obtain⟨h1,h2⟩:=Go.Sx.one_some h;subst h1;subst h2;exact Ybd) (by kernel_rfl)
end Go.Proofs.Tryz

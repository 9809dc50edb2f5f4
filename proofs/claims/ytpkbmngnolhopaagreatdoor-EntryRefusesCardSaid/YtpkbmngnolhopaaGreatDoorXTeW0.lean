/- awake: its examples, and what functions of data answer awake: CheckAct at the acts of the office -/
import Derived.Test.YtpkbmngnolhopaaGreatDoorXT3m
import Derived.Test.YtpkbmngnolhopaaGreatDoorXT3u
import Derived.Test.YtpkbmngnolhopaaGreatDoorXSxQf
import Derived.Test.YtpkbmngnolhopaaGreatDoorXSxPr
set_option maxRecDepth 1000000
set_option linter.unusedVariables false
namespace Go.Proofs.Tryz
open Go Go.Sx
def bs(l:List UInt8):ByteArray:=⟨⟨l⟩⟩
def opn:Zr:=(8000,7900,7990,2,[(bs [115,112,114,105,110,116],bs [116,105,109,101],bs [],16,40,2,1,bs [116,105,109,101],120000,bs [],0),(bs [106,117,109,112],bs [108,101,110,103,116,104],bs [],16,40,8,2,bs [110,111,110,101],0,bs [78,77],0),(bs [114,101,108,97,121],bs [116,105,109,101],bs [],16,40,8,1,bs [110,111,110,101],0,bs [78,77],2)])
def Qi5:List (Q4):=[(7000,bs [99,108,117,98],bs [],bs [65],bs [],bs [],0,0,bs [],0,bs [],[]),(7000,bs [99,108,117,98],bs [],bs [66],bs [],bs [],0,0,bs [],0,bs [],[]),(7000,bs [97,116,104,108,101,116,101],bs [97,110,110],bs [65],bs [119,111,109,101,110],bs [],1000,0,bs [],0,bs [],[]),(7000,bs [108,105,99,101,110,99,101],bs [97,110,110],bs [],bs [],bs [],7000,9000,bs [],0,bs [],[]),(7000,bs [97,116,104,108,101,116,101],bs [97,109,121],bs [65],bs [119,111,109,101,110],bs [],1000,0,bs [],0,bs [],[]),(7000,bs [108,105,99,101,110,99,101],bs [97,109,121],bs [],bs [],bs [],7000,9000,bs [],0,bs [],[]),(7000,bs [97,116,104,108,101,116,101],bs [98,101,97],bs [66],bs [119,111,109,101,110],bs [],1000,0,bs [],0,bs [],[]),(7000,bs [108,105,99,101,110,99,101],bs [98,101,97],bs [],bs [],bs [],7000,9000,bs [],0,bs [],[]),(7950,bs [101,110,116,101,114],bs [97,110,110],bs [],bs [],bs [115,112,114,105,110,116],0,0,bs [116,105,109,101],115000,bs [],[]),(7950,bs [101,110,116,101,114],bs [97,109,121],bs [],bs [],bs [115,112,114,105,110,116],0,0,bs [116,105,109,101],112000,bs [],[]),(7950,bs [101,110,116,101,114],bs [98,101,97],bs [],bs [],bs [115,112,114,105,110,116],0,0,bs [116,105,109,101],119000,bs [],[])]
def stS:Qm:=([bs [65],bs [66]],[(bs [97,110,110],bs [65],1000,bs [119,111,109,101,110]),(bs [97,109,121],bs [65],1000,bs [119,111,109,101,110]),(bs [98,101,97],bs [66],1000,bs [119,111,109,101,110])],[(bs [97,110,110],7000,9000),(bs [97,109,121],7000,9000),(bs [98,101,97],7000,9000)],[(bs [97,110,110],bs [115,112,114,105,110,116],bs [116,105,109,101],115000,bs [],7950,false),(bs [97,109,121],bs [115,112,114,105,110,116],bs [116,105,109,101],112000,bs [],7950,false),(bs [98,101,97],bs [115,112,114,105,110,116],bs [116,105,109,101],119000,bs [],7950,false)],[])
def stT:Qm:=([bs [65],bs [66]],[(bs [97,110,110],bs [65],1000,bs [119,111,109,101,110]),(bs [97,109,121],bs [65],1000,bs [119,111,109,101,110]),(bs [98,101,97],bs [66],1000,bs [119,111,109,101,110])],[(bs [97,110,110],7000,9000),(bs [97,109,121],7000,9000),(bs [98,101,97],7000,9000)],[(bs [97,110,110],bs [115,112,114,105,110,116],bs [116,105,109,101],115000,bs [],7950,false),(bs [98,101,97],bs [115,112,114,105,110,116],bs [116,105,109,101],119000,bs [],7950,false)],[])
def stU:Qm:=([bs [65],bs [66]],[(bs [97,110,110],bs [65],1000,bs [119,111,109,101,110]),(bs [97,109,121],bs [65],1000,bs [119,111,109,101,110]),(bs [98,101,97],bs [66],1000,bs [119,111,109,101,110])],[(bs [97,110,110],7000,9000),(bs [97,109,121],7000,9000),(bs [98,101,97],7000,9000)],[(bs [97,110,110],bs [115,112,114,105,110,116],bs [116,105,109,101],115000,bs [],7950,false),(bs [97,109,121],bs [115,112,114,105,110,116],bs [116,105,109,101],112000,bs [],7950,false),(bs [98,101,97],bs [115,112,114,105,110,116],bs [116,105,109,101],119000,bs [],7950,false)],[(bs [65],bs [114,101,108,97,121],[bs [97,110,110],bs [97,109,121]])])
def stX:Qm:=([bs [65],bs [66]],[(bs [97,110,110],bs [65],1000,bs [119,111,109,101,110]),(bs [97,109,121],bs [65],1000,bs [119,111,109,101,110]),(bs [98,101,97],bs [66],1000,bs [119,111,109,101,110])],[(bs [97,110,110],7000,9000),(bs [97,109,121],7000,9000),(bs [98,101,97],7000,9000)],[(bs [97,110,110],bs [115,112,114,105,110,116],bs [116,105,109,101],115000,bs [],7950,true),(bs [97,109,121],bs [115,112,114,105,110,116],bs [116,105,109,101],112000,bs [],7950,false),(bs [98,101,97],bs [115,112,114,105,110,116],bs [116,105,109,101],119000,bs [],7950,false)],[])
def stY:Qm:=([bs [65],bs [66]],[(bs [97,110,110],bs [65],1000,bs [119,111,109,101,110]),(bs [97,109,121],bs [65],1000,bs [119,111,109,101,110]),(bs [98,101,97],bs [66],1000,bs [119,111,109,101,110])],[(bs [97,110,110],7000,9000),(bs [97,109,121],7000,9000),(bs [98,101,97],7000,9000)],[(bs [97,110,110],bs [115,112,114,105,110,116],bs [116,105,109,101],115000,bs [],7950,true),(bs [97,109,121],bs [115,112,114,105,110,116],bs [116,105,109,101],112000,bs [],7950,true),(bs [98,101,97],bs [115,112,114,105,110,116],bs [116,105,109,101],119000,bs [],7950,false)],[])
abbrev Qn4:List Ty:=[.int .i64,.str,.str,.str,.str,.str,.int .i64,.int .i64,.str,.int .i64,.str,.seq [.str]]
noncomputable def lxF:Lx:={ext:=[(83,(Qyy 400).sm)],anns:=[],still:=[]}
theorem Yqe:lxF.Ok cx.bare:=Lx.Zp (PC.Qu (Zdn 400).bare) (Lx.Ud)
noncomputable def Zko:PF:={ats:=[],ty:=35,row:=Qn4,code:=fun _=>some Qi5}
theorem q82:codeF cx.bare lxF 3000 (Qb6 (.typ 0 35 Qn4 .leaf) (Qs f82)) f82 (Qs f82) [] 35 Qn4 ()=some Qi5:=by kernel_rfl
theorem Ylv:Wi cx.bare 82 Zko:=Wi.Yg (Cx.Y4 Yh) Yqe (n:=3000) (an:=Qb6 (.typ 0 35 Qn4 .leaf) (Qs f82)) (fn:=f82) (c:=Qs f82) (by kernel_rfl) (by kernel_rfl) (fun a y h=>q82.trans h) (by kernel_rfl)
def Qxl:(Zr)×(Qm)×ByteArray:=(opn,stS,bs [115,112,114,105,110,116])
def Qx4:List ByteArray×Int:=([bs [97,109,121],bs [98,101,97]],0)
abbrev Uk:List Qe:=[.agg [.int .i64,.int .i64,.int .i64,.int .i64,.seq [.str,.str,.str,.int .i64,.int .i64,.int .i64,.int .i64,.str,.int .i64,.str,.int .i64]],.agg [.seq [.str],.seq [.str,.str,.int .i64,.str],.seq [.str,.int .i64,.int .i64],.seq [.str,.str,.str,.int .i64,.str,.int .i64,.bool],.seq [.str,.str,.seq [.str]]],.val .str]
abbrev Vw:List Qe:=[.val (.seq [.str]),.val (.int .i64)]
theorem Yay:(Qy1 400).code Qxl=some Qx4:=by kernel_rfl
noncomputable def Qvj:PC:={ats:=Uk,rts:=Vw,code:=Go.Sx.one (ats:=Uk) (rts:=Vw) Qxl Qx4}
theorem Yof:Qg cx.bare 52 Qvj:=(Zf3 400).bare.one Qxl Qx4 Yay
def Qz1:(Zr)×(Qm)×ByteArray:=(opn,stS,bs [115,112,114,105,110,116])
def Qxq:List ByteArray×Int:=([bs [97,110,110]],0)
theorem Zz4:(Zhj 400).code Qz1=some Qxq:=by kernel_rfl
noncomputable def Zbp:PC:={ats:=Uk,rts:=Vw,code:=Go.Sx.one (ats:=Uk) (rts:=Vw) Qz1 Qxq}
theorem Ztx:Qg cx.bare 56 Zbp:=(Zoh 400).bare.one Qz1 Qxq Zz4
def Qkt:(Zr)×(Qm)×ByteArray:=(opn,stT,bs [115,112,114,105,110,116])
def Ql1:List ByteArray×Int:=([bs [97,110,110],bs [98,101,97]],0)
theorem Zyf:(Qy1 400).code Qkt=some Ql1:=by kernel_rfl
noncomputable def Yfk:PC:={ats:=Uk,rts:=Vw,code:=Go.Sx.one (ats:=Uk) (rts:=Vw) Qkt Ql1}
theorem Yot:Qg cx.bare 52 Yfk:=(Zf3 400).bare.one Qkt Ql1 Zyf
def Qtp:(Zr)×(Qm):=(opn,stU)
def Qwi:List (ByteArray×ByteArray)×Int:=([(bs [115,112,114,105,110,116],bs [114,101,108,97,121])],0)
abbrev Qot:List Qe:=[.agg [.int .i64,.int .i64,.int .i64,.int .i64,.seq [.str,.str,.str,.int .i64,.int .i64,.int .i64,.int .i64,.str,.int .i64,.str,.int .i64]],.agg [.seq [.str],.seq [.str,.str,.int .i64,.str],.seq [.str,.int .i64,.int .i64],.seq [.str,.str,.str,.int .i64,.str,.int .i64,.bool],.seq [.str,.str,.seq [.str]]]]
abbrev Zjs:List Qe:=[.val (.seq [.str,.str]),.val (.int .i64)]
theorem Ybs:(Zhk 400).code Qtp=some Qwi:=by kernel_rfl
noncomputable def Zin:PC:={ats:=Qot,rts:=Zjs,code:=Go.Sx.one (ats:=Qot) (rts:=Zjs) Qtp Qwi}
theorem Yj6:Qg cx.bare 37 Zin:=(Ycs 400).bare.one Qtp Qwi Ybs
def Qwg:(Zr)×(Qm):=(opn,stS)
def Qty:List Int×Int:=([2,1],0)
abbrev Zdo:List Qe:=[.val (.seq [.int .i64]),.val (.int .i64)]
theorem Zm3:(Ze2 400).code Qwg=some Qty:=by kernel_rfl
noncomputable def Zie:PC:={ats:=Qot,rts:=Zdo,code:=Go.Sx.one (ats:=Qot) (rts:=Zdo) Qwg Qty}
theorem Yk0:Qg cx.bare 38 Zie:=(Ykv 400).bare.one Qwg Qty Zm3
def Qum:(Zr)×(Qm)×ByteArray:=(opn,stU,bs [97,110,110])
def Qwe:List ByteArray×Int:=([bs [115,112,114,105,110,116],bs [114,101,108,97,121]],0)
theorem Yd9:(Zhb 400).code Qum=some Qwe:=by kernel_rfl
noncomputable def Zdx:PC:={ats:=Uk,rts:=Vw,code:=Go.Sx.one (ats:=Uk) (rts:=Vw) Qum Qwe}
theorem Zt0:Qg cx.bare 36 Zdx:=(Zw5 400).bare.one Qum Qwe Yd9
noncomputable def Kv:Lx:={ext:=[(98,(Qow 400).sm),(99,(Qsh 400).sm)],anns:=[],still:=[]}
theorem Uh:Kv.Ok cx.bare:=Lx.Zp (PC.Qu (V2 400).bare) (Lx.Zp (PC.Qu (Vs 400).bare) (Lx.Ud))
def Vx:(Q4):=(7000,bs [99,108,117,98],bs [],bs [65],bs [],bs [],0,0,bs [],0,bs [],[])
def Vq:Int:=0
abbrev Z8:List Qe:=[.agg [.int .i64,.str,.str,.str,.str,.str,.int .i64,.int .i64,.str,.int .i64,.str,.seq [.str]]]
abbrev Zq:List Qe:=[.val (.int .i64)]
theorem Zoy:Z6 cx.bare Kv 3000 .leaf f23 (Qs f23) Z8 Zq Vx=some Vq:=by kernel_rfl
noncomputable def Ybg:PC:={ats:=Z8,rts:=Zq,code:=Go.Sx.one (ats:=Z8) (rts:=Zq) Vx Vq}
theorem Zvt:Qg cx.bare 23 Ybg:=Qg.Yg (Cx.Y4 Yh) Uh (n:=3000) (an:=.leaf) (fn:=f23) (c:=Qs f23) (by kernel_rfl) (by kernel_rfl) (fun a y h=>by obtain⟨h1,h2⟩:=Go.Sx.one_some h;subst h1;subst h2;exact Zoy) (by kernel_rfl)
def Ka:(Q4):=(7000,bs [99,108,117,98],bs [],bs [66],bs [],bs [],0,0,bs [],0,bs [],[])
def Ke:Int:=0
theorem Yol:Z6 cx.bare Kv 3000 .leaf f23 (Qs f23) Z8 Zq Ka=some Ke:=by kernel_rfl
noncomputable def Yoy:PC:={ats:=Z8,rts:=Zq,code:=Go.Sx.one (ats:=Z8) (rts:=Zq) Ka Ke}
theorem Yd8:Qg cx.bare 23 Yoy:=Qg.Yg (Cx.Y4 Yh) Uh (n:=3000) (an:=.leaf) (fn:=f23) (c:=Qs f23) (by kernel_rfl) (by kernel_rfl) (fun a y h=>by obtain⟨h1,h2⟩:=Go.Sx.one_some h;subst h1;subst h2;exact Yol) (by kernel_rfl)
def Kx:(Q4):=(7000,bs [97,116,104,108,101,116,101],bs [97,110,110],bs [65],bs [119,111,109,101,110],bs [],1000,0,bs [],0,bs [],[])
def Kr:Int:=0
theorem Zqf:Z6 cx.bare Kv 3000 .leaf f23 (Qs f23) Z8 Zq Kx=some Kr:=by kernel_rfl
noncomputable def Yn3:PC:={ats:=Z8,rts:=Zq,code:=Go.Sx.one (ats:=Z8) (rts:=Zq) Kx Kr}
theorem Zzz:Qg cx.bare 23 Yn3:=Qg.Yg (Cx.Y4 Yh) Uh (n:=3000) (an:=.leaf) (fn:=f23) (c:=Qs f23) (by kernel_rfl) (by kernel_rfl) (fun a y h=>by obtain⟨h1,h2⟩:=Go.Sx.one_some h;subst h1;subst h2;exact Zqf) (by kernel_rfl)
def U7:(Q4):=(7000,bs [108,105,99,101,110,99,101],bs [97,110,110],bs [],bs [],bs [],7000,9000,bs [],0,bs [],[])
def Ul:Int:=0
theorem Ydu:Z6 cx.bare Kv 3000 .leaf f23 (Qs f23) Z8 Zq U7=some Ul:=by kernel_rfl
noncomputable def Yrg:PC:={ats:=Z8,rts:=Zq,code:=Go.Sx.one (ats:=Z8) (rts:=Zq) U7 Ul}
theorem Ygb:Qg cx.bare 23 Yrg:=Qg.Yg (Cx.Y4 Yh) Uh (n:=3000) (an:=.leaf) (fn:=f23) (c:=Qs f23) (by kernel_rfl) (by kernel_rfl) (fun a y h=>by obtain⟨h1,h2⟩:=Go.Sx.one_some h;subst h1;subst h2;exact Ydu) (by kernel_rfl)
def Qal:(Q4):=(7000,bs [97,116,104,108,101,116,101],bs [97,109,121],bs [65],bs [119,111,109,101,110],bs [],1000,0,bs [],0,bs [],[])
def Qam:Int:=0
theorem Ydg:Z6 cx.bare Kv 3000 .leaf f23 (Qs f23) Z8 Zq Qal=some Qam:=by kernel_rfl
noncomputable def Yo1:PC:={ats:=Z8,rts:=Zq,code:=Go.Sx.one (ats:=Z8) (rts:=Zq) Qal Qam}
theorem Yon:Qg cx.bare 23 Yo1:=Qg.Yg (Cx.Y4 Yh) Uh (n:=3000) (an:=.leaf) (fn:=f23) (c:=Qs f23) (by kernel_rfl) (by kernel_rfl) (fun a y h=>by obtain⟨h1,h2⟩:=Go.Sx.one_some h;subst h1;subst h2;exact Ydg) (by kernel_rfl)
def Qcs:(Q4):=(7000,bs [108,105,99,101,110,99,101],bs [97,109,121],bs [],bs [],bs [],7000,9000,bs [],0,bs [],[])
def Qck:Int:=0
theorem Zp2:Z6 cx.bare Kv 3000 .leaf f23 (Qs f23) Z8 Zq Qcs=some Qck:=by kernel_rfl
noncomputable def Ykp:PC:={ats:=Z8,rts:=Zq,code:=Go.Sx.one (ats:=Z8) (rts:=Zq) Qcs Qck}
theorem Yoq:Qg cx.bare 23 Ykp:=Qg.Yg (Cx.Y4 Yh) Uh (n:=3000) (an:=.leaf) (fn:=f23) (c:=Qs f23) (by kernel_rfl) (by kernel_rfl) (fun a y h=>by obtain⟨h1,h2⟩:=Go.Sx.one_some h;subst h1;subst h2;exact Zp2) (by kernel_rfl)
def Qd8:(Q4):=(7000,bs [97,116,104,108,101,116,101],bs [98,101,97],bs [66],bs [119,111,109,101,110],bs [],1000,0,bs [],0,bs [],[])
def Qd3:Int:=0
theorem Zo8:Z6 cx.bare Kv 3000 .leaf f23 (Qs f23) Z8 Zq Qd8=some Qd3:=by kernel_rfl
noncomputable def Ydc:PC:={ats:=Z8,rts:=Zq,code:=Go.Sx.one (ats:=Z8) (rts:=Zq) Qd8 Qd3}
theorem Ynu:Qg cx.bare 23 Ydc:=Qg.Yg (Cx.Y4 Yh) Uh (n:=3000) (an:=.leaf) (fn:=f23) (c:=Qs f23) (by kernel_rfl) (by kernel_rfl) (fun a y h=>by obtain⟨h1,h2⟩:=Go.Sx.one_some h;subst h1;subst h2;exact Zo8) (by kernel_rfl)
def Qe8:(Q4):=(7000,bs [108,105,99,101,110,99,101],bs [98,101,97],bs [],bs [],bs [],7000,9000,bs [],0,bs [],[])
def Qga:Int:=0
theorem Zwq:Z6 cx.bare Kv 3000 .leaf f23 (Qs f23) Z8 Zq Qe8=some Qga:=by kernel_rfl
noncomputable def Zy7:PC:={ats:=Z8,rts:=Zq,code:=Go.Sx.one (ats:=Z8) (rts:=Zq) Qe8 Qga}
theorem Yen:Qg cx.bare 23 Zy7:=Qg.Yg (Cx.Y4 Yh) Uh (n:=3000) (an:=.leaf) (fn:=f23) (c:=Qs f23) (by kernel_rfl) (by kernel_rfl) (fun a y h=>by obtain⟨h1,h2⟩:=Go.Sx.one_some h;subst h1;subst h2;exact Zwq) (by kernel_rfl)
def Qjo:(Q4):=(7950,bs [101,110,116,101,114],bs [97,110,110],bs [],bs [],bs [115,112,114,105,110,116],0,0,bs [116,105,109,101],115000,bs [],[])
def Qh2:Int:=0
theorem Znu:Z6 cx.bare Kv 3000 .leaf f23 (Qs f23) Z8 Zq Qjo=some Qh2:=by kernel_rfl
noncomputable def Zra:PC:={ats:=Z8,rts:=Zq,code:=Go.Sx.one (ats:=Z8) (rts:=Zq) Qjo Qh2}
theorem Yqy:Qg cx.bare 23 Zra:=Qg.Yg (Cx.Y4 Yh) Uh (n:=3000) (an:=.leaf) (fn:=f23) (c:=Qs f23) (by kernel_rfl) (by kernel_rfl) (fun a y h=>by obtain⟨h1,h2⟩:=Go.Sx.one_some h;subst h1;subst h2;exact Znu) (by kernel_rfl)
def Qmq:(Q4):=(7950,bs [101,110,116,101,114],bs [97,109,121],bs [],bs [],bs [115,112,114,105,110,116],0,0,bs [116,105,109,101],112000,bs [],[])
def Qko:Int:=0
theorem Yca:Z6 cx.bare Kv 3000 .leaf f23 (Qs f23) Z8 Zq Qmq=some Qko:=by kernel_rfl
noncomputable def Yf7:PC:={ats:=Z8,rts:=Zq,code:=Go.Sx.one (ats:=Z8) (rts:=Zq) Qmq Qko}
theorem Ydm:Qg cx.bare 23 Yf7:=Qg.Yg (Cx.Y4 Yh) Uh (n:=3000) (an:=.leaf) (fn:=f23) (c:=Qs f23) (by kernel_rfl) (by kernel_rfl) (fun a y h=>by obtain⟨h1,h2⟩:=Go.Sx.one_some h;subst h1;subst h2;exact Yca) (by kernel_rfl)
def Qp6:(Q4):=(7950,bs [101,110,116,101,114],bs [98,101,97],bs [],bs [],bs [115,112,114,105,110,116],0,0,bs [116,105,109,101],119000,bs [],[])
def Qs5:Int:=0
theorem Zu8:Z6 cx.bare Kv 3000 .leaf f23 (Qs f23) Z8 Zq Qp6=some Qs5:=by kernel_rfl
noncomputable def Zyy:PC:={ats:=Z8,rts:=Zq,code:=Go.Sx.one (ats:=Z8) (rts:=Zq) Qp6 Qs5}
theorem Ybt:Qg cx.bare 23 Zyy:=Qg.Yg (Cx.Y4 Yh) Uh (n:=3000) (an:=.leaf) (fn:=f23) (c:=Qs f23) (by kernel_rfl) (by kernel_rfl) (fun a y h=>by obtain⟨h1,h2⟩:=Go.Sx.one_some h;subst h1;subst h2;exact Zu8) (by kernel_rfl)
end Go.Proofs.Tryz

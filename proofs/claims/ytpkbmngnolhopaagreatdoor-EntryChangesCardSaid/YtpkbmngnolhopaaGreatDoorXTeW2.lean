/- awake: CheckAct, Legal and Next at further acts awake: Replay and Changed at the examples And further parts. -/
import Derived.Test.YtpkbmngnolhopaaGreatDoorXTeW0
set_option maxRecDepth 1000000
set_option linter.unusedVariables false
namespace Go.Proofs.Tryz
open Go Go.Sx
noncomputable def Qds:Lx:={ext:=[(98,(Qqh 400).sm),(99,(Qrf 400).sm)],anns:=[],still:=[]}
theorem Qej:Qds.Ok cx.bare:=Lx.Zn (PC.Qu (Vz 400).bare) (Lx.Zn (PC.Qu (Vh 400).bare) (Lx.K4))
def Zdw:(Q9):=(7960,bs [119,105,116,104,100,114,97,119],bs [97,109,121],bs [],bs [],bs [115,112,114,105,110,116],0,0,bs [],0,bs [],[])
def Qz2:Int:=0
theorem Yah:Z2 cx.bare Qds 3000 .leaf f23 (Qs f23) Z7 Zo Zdw=some Qz2:=by kernel_rfl
noncomputable def Jy:PC:={ats:=Z7,rts:=Zo,code:=Go.Sx.one (ats:=Z7) (rts:=Zo) Zdw Qz2}
theorem Zbl:Qg cx.bare 23 Jy:=Qg.Yc (Cx.Y2 Yd) Qej (n:=3000) (an:=.leaf) (fn:=f23) (c:=Qs f23) (by kernel_rfl) (by kernel_rfl) (fun a y h=>by obtain⟨h1,h2⟩:=Go.Sx.one_some h;subst h1;subst h2;exact Yah) (by kernel_rfl)
def Qbq:(Q9):=(7960,bs [116,101,97,109],bs [],bs [65],bs [],bs [114,101,108,97,121],0,0,bs [],0,bs [],[bs [97,110,110],bs [97,109,121]])
def Qbw:Int:=0
theorem Yo9:Z2 cx.bare Qds 3000 .leaf f23 (Qs f23) Z7 Zo Qbq=some Qbw:=by kernel_rfl
noncomputable def Zpz:PC:={ats:=Z7,rts:=Zo,code:=Go.Sx.one (ats:=Z7) (rts:=Zo) Qbq Qbw}
theorem Yhk:Qg cx.bare 23 Zpz:=Qg.Yc (Cx.Y2 Yd) Qej (n:=3000) (an:=.leaf) (fn:=f23) (c:=Qs f23) (by kernel_rfl) (by kernel_rfl) (fun a y h=>by obtain⟨h1,h2⟩:=Go.Sx.one_some h;subst h1;subst h2;exact Yo9) (by kernel_rfl)
def Qct:(Q9):=(8000,bs [99,104,101,99,107],bs [97,110,110],bs [],bs [],bs [115,112,114,105,110,116],0,0,bs [],0,bs [],[])
def Qdn:Int:=0
theorem Yib:Z2 cx.bare Qds 3000 .leaf f23 (Qs f23) Z7 Zo Qct=some Qdn:=by kernel_rfl
noncomputable def Zpr:PC:={ats:=Z7,rts:=Zo,code:=Go.Sx.one (ats:=Z7) (rts:=Zo) Qct Qdn}
theorem Zo9:Qg cx.bare 23 Zpr:=Qg.Yc (Cx.Y2 Yd) Qej (n:=3000) (an:=.leaf) (fn:=f23) (c:=Qs f23) (by kernel_rfl) (by kernel_rfl) (fun a y h=>by obtain⟨h1,h2⟩:=Go.Sx.one_some h;subst h1;subst h2;exact Yib) (by kernel_rfl)
def Qfz:(Q9):=(8000,bs [99,104,101,99,107],bs [97,109,121],bs [],bs [],bs [115,112,114,105,110,116],0,0,bs [],0,bs [],[])
def Qe3:Int:=0
theorem Zww:Z2 cx.bare Qds 3000 .leaf f23 (Qs f23) Z7 Zo Qfz=some Qe3:=by kernel_rfl
noncomputable def Zu8:PC:={ats:=Z7,rts:=Zo,code:=Go.Sx.one (ats:=Z7) (rts:=Zo) Qfz Qe3}
theorem Zv7:Qg cx.bare 23 Zu8:=Qg.Yc (Cx.Y2 Yd) Qej (n:=3000) (an:=.leaf) (fn:=f23) (c:=Qs f23) (by kernel_rfl) (by kernel_rfl) (fun a y h=>by obtain⟨h1,h2⟩:=Go.Sx.one_some h;subst h1;subst h2;exact Zww) (by kernel_rfl)
def Qi0:(Q9):=(7960,bs [101,110,116,101,114],bs [97,109,121],bs [],bs [],bs [115,112,114,105,110,116],0,0,bs [116,105,109,101],125000,bs [],[])
def Qix:Int:=0
theorem Zxh:Z2 cx.bare Qds 3000 .leaf f23 (Qs f23) Z7 Zo Qi0=some Qix:=by kernel_rfl
noncomputable def Zm1:PC:={ats:=Z7,rts:=Zo,code:=Go.Sx.one (ats:=Z7) (rts:=Zo) Qi0 Qix}
theorem Ybo:Qg cx.bare 23 Zm1:=Qg.Yc (Cx.Y2 Yd) Qej (n:=3000) (an:=.leaf) (fn:=f23) (c:=Qs f23) (by kernel_rfl) (by kernel_rfl) (fun a y h=>by obtain⟨h1,h2⟩:=Go.Sx.one_some h;subst h1;subst h2;exact Zxh) (by kernel_rfl)
def Qjk:(Q9):=(7999,bs [101,110,116,101,114],bs [97,109,121],bs [],bs [],bs [115,112,114,105,110,116],0,0,bs [116,105,109,101],115000,bs [],[])
def Qls:Int:=0
theorem Yas:Z2 cx.bare Qds 3000 .leaf f23 (Qs f23) Z7 Zo Qjk=some Qls:=by kernel_rfl
noncomputable def Zsy:PC:={ats:=Z7,rts:=Zo,code:=Go.Sx.one (ats:=Z7) (rts:=Zo) Qjk Qls}
theorem Yn5:Qg cx.bare 23 Zsy:=Qg.Yc (Cx.Y2 Yd) Qej (n:=3000) (an:=.leaf) (fn:=f23) (c:=Qs f23) (by kernel_rfl) (by kernel_rfl) (fun a y h=>by obtain⟨h1,h2⟩:=Go.Sx.one_some h;subst h1;subst h2;exact Yas) (by kernel_rfl)
def Qr1:(Q9):=(7960,bs [116,101,97,109],bs [],bs [65],bs [],bs [114,101,108,97,121],0,0,bs [],0,bs [],[bs [97,110,110],bs [98,101,97]])
def Qqt:Int:=0
theorem Yfx:Z2 cx.bare Qds 3000 .leaf f23 (Qs f23) Z7 Zo Qr1=some Qqt:=by kernel_rfl
noncomputable def Zt3:PC:={ats:=Z7,rts:=Zo,code:=Go.Sx.one (ats:=Z7) (rts:=Zo) Qr1 Qqt}
theorem Ycx:Qg cx.bare 23 Zt3:=Qg.Yc (Cx.Y2 Yd) Qej (n:=3000) (an:=.leaf) (fn:=f23) (c:=Qs f23) (by kernel_rfl) (by kernel_rfl) (fun a y h=>by obtain⟨h1,h2⟩:=Go.Sx.one_some h;subst h1;subst h2;exact Yfx) (by kernel_rfl)
noncomputable def Qde:Lx:={ext:=[(23,((((((Jy.at Qbq Qbw).at Qct Qdn).at Qfz Qe3).at Qi0 Qix).at Qjk Qls).at Qr1 Qqt).sm),(25,(Qv9 400).sm),(135,(Qtb 400).sm)],anns:=[],still:=[]}
theorem Qeo:Qde.Ok cx.bare:=Lx.Zn (PC.Qu (Qg.at2 (pc:=(((((Jy.at Qbq Qbw).at Qct Qdn).at Qfz Qe3).at Qi0 Qix).at Qjk Qls)) (Qg.at2 (pc:=((((Jy.at Qbq Qbw).at Qct Qdn).at Qfz Qe3).at Qi0 Qix)) (Qg.at2 (pc:=(((Jy.at Qbq Qbw).at Qct Qdn).at Qfz Qe3)) (Qg.at2 (pc:=((Jy.at Qbq Qbw).at Qct Qdn)) (Qg.at2 (pc:=(Jy.at Qbq Qbw)) (Qg.at2 (pc:=Jy) Zbl (a0:=Qbq) (y0:=Qbw) Yhk) (a0:=Qct) (y0:=Qdn) Zo9) (a0:=Qfz) (y0:=Qe3) Zv7) (a0:=Qi0) (y0:=Qix) Ybo) (a0:=Qjk) (y0:=Qls) Yn5) (a0:=Qr1) (y0:=Qqt) Ycx)) (Lx.Zn (PC.Qu (Qgg 400).bare) (Lx.Zn (PC.Qu (Qyf 400).bare) (Lx.K4)))
def Qzu:(Zs)×(Ql)×(Q9):=(opn,stS,(7960,bs [119,105,116,104,100,114,97,119],bs [97,109,121],bs [],bs [],bs [115,112,114,105,110,116],0,0,bs [],0,bs [],[]))
def Zf0:Int:=0
abbrev Xh:List Qe:=[.agg [.int .i64,.int .i64,.int .i64,.int .i64,.seq [.str,.str,.str,.int .i64,.int .i64,.int .i64,.int .i64,.str,.int .i64,.str,.int .i64]],.agg [.seq [.str],.seq [.str,.str,.int .i64,.str],.seq [.str,.int .i64,.int .i64],.seq [.str,.str,.str,.int .i64,.str,.int .i64,.bool],.seq [.str,.str,.seq [.str]]],.agg [.int .i64,.str,.str,.str,.str,.str,.int .i64,.int .i64,.str,.int .i64,.str,.seq [.str]]]
theorem Ygr:Z2 cx.bare Qde 3000 .leaf f49 (Qs f49) Xh Zo Qzu=some Zf0:=by kernel_rfl
noncomputable def Qlc:PC:={ats:=Xh,rts:=Zo,code:=Go.Sx.one (ats:=Xh) (rts:=Zo) Qzu Zf0}
theorem Yr3:Qg cx.bare 49 Qlc:=Qg.Yc (Cx.Y2 Yd) Qeo (n:=3000) (an:=.leaf) (fn:=f49) (c:=Qs f49) (by kernel_rfl) (by kernel_rfl) (fun a y h=>by obtain⟨h1,h2⟩:=Go.Sx.one_some h;subst h1;subst h2;exact Ygr) (by kernel_rfl)
def Qgn:(Zs)×(Ql)×(Q9):=(opn,stS,(7960,bs [116,101,97,109],bs [],bs [65],bs [],bs [114,101,108,97,121],0,0,bs [],0,bs [],[bs [97,110,110],bs [97,109,121]]))
def Qgt:Int:=0
theorem Yhe:Z2 cx.bare Qde 3000 .leaf f49 (Qs f49) Xh Zo Qgn=some Qgt:=by kernel_rfl
noncomputable def Yin:PC:={ats:=Xh,rts:=Zo,code:=Go.Sx.one (ats:=Xh) (rts:=Zo) Qgn Qgt}
theorem Zt7:Qg cx.bare 49 Yin:=Qg.Yc (Cx.Y2 Yd) Qeo (n:=3000) (an:=.leaf) (fn:=f49) (c:=Qs f49) (by kernel_rfl) (by kernel_rfl) (fun a y h=>by obtain⟨h1,h2⟩:=Go.Sx.one_some h;subst h1;subst h2;exact Yhe) (by kernel_rfl)
def Qki:(Zs)×(Ql)×(Q9):=(opn,stS,(8000,bs [99,104,101,99,107],bs [97,110,110],bs [],bs [],bs [115,112,114,105,110,116],0,0,bs [],0,bs [],[]))
def Qmw:Int:=0
theorem Yfj:Z2 cx.bare Qde 3000 .leaf f49 (Qs f49) Xh Zo Qki=some Qmw:=by kernel_rfl
noncomputable def Yi3:PC:={ats:=Xh,rts:=Zo,code:=Go.Sx.one (ats:=Xh) (rts:=Zo) Qki Qmw}
theorem Yig:Qg cx.bare 49 Yi3:=Qg.Yc (Cx.Y2 Yd) Qeo (n:=3000) (an:=.leaf) (fn:=f49) (c:=Qs f49) (by kernel_rfl) (by kernel_rfl) (fun a y h=>by obtain⟨h1,h2⟩:=Go.Sx.one_some h;subst h1;subst h2;exact Yfj) (by kernel_rfl)
def Qsb:(Zs)×(Ql)×(Q9):=(opn,stX,(8000,bs [99,104,101,99,107],bs [97,109,121],bs [],bs [],bs [115,112,114,105,110,116],0,0,bs [],0,bs [],[]))
def Qo4:Int:=0
theorem Yk2:Z2 cx.bare Qde 3000 .leaf f49 (Qs f49) Xh Zo Qsb=some Qo4:=by kernel_rfl
noncomputable def Yfs:PC:={ats:=Xh,rts:=Zo,code:=Go.Sx.one (ats:=Xh) (rts:=Zo) Qsb Qo4}
theorem Ztt:Qg cx.bare 49 Yfs:=Qg.Yc (Cx.Y2 Yd) Qeo (n:=3000) (an:=.leaf) (fn:=f49) (c:=Qs f49) (by kernel_rfl) (by kernel_rfl) (fun a y h=>by obtain⟨h1,h2⟩:=Go.Sx.one_some h;subst h1;subst h2;exact Yk2) (by kernel_rfl)
def Zjh:(Zs)×(Ql)×(Q9):=(opn,stT,(7960,bs [101,110,116,101,114],bs [97,109,121],bs [],bs [],bs [115,112,114,105,110,116],0,0,bs [116,105,109,101],125000,bs [],[]))
def Zcr:Int:=30
theorem Zm8:Z2 cx.bare Qde 3000 .leaf f49 (Qs f49) Xh Zo Zjh=some Zcr:=by kernel_rfl
noncomputable def Qpm:PC:={ats:=Xh,rts:=Zo,code:=Go.Sx.one (ats:=Xh) (rts:=Zo) Zjh Zcr}
theorem Zxd:Qg cx.bare 49 Qpm:=Qg.Yc (Cx.Y2 Yd) Qeo (n:=3000) (an:=.leaf) (fn:=f49) (c:=Qs f49) (by kernel_rfl) (by kernel_rfl) (fun a y h=>by obtain⟨h1,h2⟩:=Go.Sx.one_some h;subst h1;subst h2;exact Zm8) (by kernel_rfl)
def Qjv:(Zs)×(Ql)×(Q9):=(opn,stT,(7999,bs [101,110,116,101,114],bs [97,109,121],bs [],bs [],bs [115,112,114,105,110,116],0,0,bs [116,105,109,101],115000,bs [],[]))
def Qli:Int:=19
theorem Zsw:Z2 cx.bare Qde 3000 .leaf f49 (Qs f49) Xh Zo Qjv=some Qli:=by kernel_rfl
noncomputable def Yqu:PC:={ats:=Xh,rts:=Zo,code:=Go.Sx.one (ats:=Xh) (rts:=Zo) Qjv Qli}
theorem Yb6:Qg cx.bare 49 Yqu:=Qg.Yc (Cx.Y2 Yd) Qeo (n:=3000) (an:=.leaf) (fn:=f49) (c:=Qs f49) (by kernel_rfl) (by kernel_rfl) (fun a y h=>by obtain⟨h1,h2⟩:=Go.Sx.one_some h;subst h1;subst h2;exact Zsw) (by kernel_rfl)
def Qqv:(Zs)×(Ql)×(Q9):=(opn,stT,(7960,bs [116,101,97,109],bs [],bs [65],bs [],bs [114,101,108,97,121],0,0,bs [],0,bs [],[bs [97,110,110],bs [98,101,97]]))
def Qqz:Int:=18
theorem Zpf:Z2 cx.bare Qde 3000 .leaf f49 (Qs f49) Xh Zo Qqv=some Qqz:=by kernel_rfl
noncomputable def Zwz:PC:={ats:=Xh,rts:=Zo,code:=Go.Sx.one (ats:=Xh) (rts:=Zo) Qqv Qqz}
theorem Ylj:Qg cx.bare 49 Zwz:=Qg.Yc (Cx.Y2 Yd) Qeo (n:=3000) (an:=.leaf) (fn:=f49) (c:=Qs f49) (by kernel_rfl) (by kernel_rfl) (fun a y h=>by obtain⟨h1,h2⟩:=Go.Sx.one_some h;subst h1;subst h2;exact Zpf) (by kernel_rfl)
noncomputable def Qvc:Lx:={ext:=[(150,(Qn7 400).sm),(199,(Qnw 400).sm),(200,(Qo7 400).sm),(201,(Qp1 400).sm),(202,(Qqf 400).sm)],anns:=[],still:=[]}
theorem Zfr:Qvc.Ok cx.bare:=Lx.Zn (PF.Qu (W4 400).bare) (Lx.Zn (PF.Qu (Wo 400).bare) (Lx.Zn (PF.Qu (Qpb 400).bare) (Lx.Zn (PF.Qu (J3 400).bare) (Lx.Zn (PF.Qu (Wh 400).bare) (Lx.K4)))))
def Qqc:Ql:=stS
def Qm7:Ql:=stS
abbrev Kq:List Qe:=[.agg [.seq [.str],.seq [.str,.str,.int .i64,.str],.seq [.str,.int .i64,.int .i64],.seq [.str,.str,.str,.int .i64,.str,.int .i64,.bool],.seq [.str,.str,.seq [.str]]]]
theorem Yky:Z2 cx.bare Qvc 3000 .leaf f136 (Qs f136) Kq Kq Qqc=some Qm7:=by kernel_rfl
noncomputable def Yix:PC:={ats:=Kq,rts:=Kq,code:=Go.Sx.one (ats:=Kq) (rts:=Kq) Qqc Qm7}
theorem Zqd:Qg cx.bare 136 Yix:=Qg.Yc (Cx.Y2 Yd) Zfr (n:=3000) (an:=.leaf) (fn:=f136) (c:=Qs f136) (by kernel_rfl) (by kernel_rfl) (fun a y h=>by obtain⟨h1,h2⟩:=Go.Sx.one_some h;subst h1;subst h2;exact Yky) (by kernel_rfl)
def Ze3:Ql:=stX
def Zcq:Ql:=stX
theorem Zrv:Z2 cx.bare Qvc 3000 .leaf f136 (Qs f136) Kq Kq Ze3=some Zcq:=by kernel_rfl
noncomputable def Qx4:PC:={ats:=Kq,rts:=Kq,code:=Go.Sx.one (ats:=Kq) (rts:=Kq) Ze3 Zcq}
theorem Zn4:Qg cx.bare 136 Qx4:=Qg.Yc (Cx.Y2 Yd) Zfr (n:=3000) (an:=.leaf) (fn:=f136) (c:=Qs f136) (by kernel_rfl) (by kernel_rfl) (fun a y h=>by obtain⟨h1,h2⟩:=Go.Sx.one_some h;subst h1;subst h2;exact Zrv) (by kernel_rfl)
noncomputable def Qj7:Lx:={ext:=[(49,(((Qlc.at Qgn Qgt).at Qki Qmw).at Qsb Qo4).sm),(136,(Qx4.at Qqc Qm7).sm),(150,(Qn7 400).sm),(199,(Qnw 400).sm),(200,(Qo7 400).sm),(201,(Qp1 400).sm),(202,(Qqf 400).sm),(186,(Qwp 400).sm),(187,(Qx6 400).sm),(105,(Qt0 400).sm),(219,(Qum 400).sm)],anns:=[(217,Jr (Qs f217)),(2000219,.leaf)],still:=[]}
theorem Qng:Qj7.Ok cx.bare:=Lx.Zn (PC.Qu (Qg.at2 (pc:=((Qlc.at Qgn Qgt).at Qki Qmw)) (Qg.at2 (pc:=(Qlc.at Qgn Qgt)) (Qg.at2 (pc:=Qlc) Yr3 (a0:=Qgn) (y0:=Qgt) Zt7) (a0:=Qki) (y0:=Qmw) Yig) (a0:=Qsb) (y0:=Qo4) Ztt)) (Lx.Zn (PC.Qu (Qg.at2 (pc:=Qx4) Zn4 (a0:=Qqc) (y0:=Qm7) Zqd)) (Lx.Zn (PF.Qu (W4 400).bare) (Lx.Zn (PF.Qu (Wo 400).bare) (Lx.Zn (PF.Qu (Qpb 400).bare) (Lx.Zn (PF.Qu (J3 400).bare) (Lx.Zn (PF.Qu (Wh 400).bare) (Lx.Zn (PC.Qu (Vk 400).bare) (Lx.Zn (PC.Qu (Qfe 400).bare) (Lx.Zn (PC.Qu (Qt4 400).bare) (Lx.Zn (PC.Qu (Qg0 400).bare) (Lx.K4)))))))))))
def Zds:(Zs)×(Ql)×(Q9):=(opn,stS,(7960,bs [119,105,116,104,100,114,97,119],bs [97,109,121],bs [],bs [],bs [115,112,114,105,110,116],0,0,bs [],0,bs [],[]))
def Zd4:(Ql)×Int:=(stT,0)
abbrev Kl:List Qe:=[.agg [.seq [.str],.seq [.str,.str,.int .i64,.str],.seq [.str,.int .i64,.int .i64],.seq [.str,.str,.str,.int .i64,.str,.int .i64,.bool],.seq [.str,.str,.seq [.str]]],.val (.int .i64)]
theorem Yca:Z2 cx.bare Qj7 3000 .leaf f50 (Qs f50) Xh Kl Zds=some Zd4:=by kernel_rfl
noncomputable def Qla:PC:={ats:=Xh,rts:=Kl,code:=Go.Sx.one (ats:=Xh) (rts:=Kl) Zds Zd4}
theorem Yl8:Qg cx.bare 50 Qla:=Qg.Yc (Cx.Y2 Yd) Qng (n:=3000) (an:=.leaf) (fn:=f50) (c:=Qs f50) (by kernel_rfl) (by kernel_rfl) (fun a y h=>by obtain⟨h1,h2⟩:=Go.Sx.one_some h;subst h1;subst h2;exact Yca) (by kernel_rfl)
def Qkw:(Zs)×(Ql)×(Q9):=(opn,stS,(8000,bs [99,104,101,99,107],bs [97,110,110],bs [],bs [],bs [115,112,114,105,110,116],0,0,bs [],0,bs [],[]))
def Qkz:(Ql)×Int:=(stX,0)
theorem Yrw:Z2 cx.bare Qj7 3000 .leaf f50 (Qs f50) Xh Kl Qkw=some Qkz:=by kernel_rfl
noncomputable def Yr6:PC:={ats:=Xh,rts:=Kl,code:=Go.Sx.one (ats:=Xh) (rts:=Kl) Qkw Qkz}
theorem Yh4:Qg cx.bare 50 Yr6:=Qg.Yc (Cx.Y2 Yd) Qng (n:=3000) (an:=.leaf) (fn:=f50) (c:=Qs f50) (by kernel_rfl) (by kernel_rfl) (fun a y h=>by obtain⟨h1,h2⟩:=Go.Sx.one_some h;subst h1;subst h2;exact Yrw) (by kernel_rfl)
def Qow:(Zs)×(Ql)×(Q9):=(opn,stX,(8000,bs [99,104,101,99,107],bs [97,109,121],bs [],bs [],bs [115,112,114,105,110,116],0,0,bs [],0,bs [],[]))
def Qoh:(Ql)×Int:=(stY,0)
theorem Zz9:Z2 cx.bare Qj7 3000 .leaf f50 (Qs f50) Xh Kl Qow=some Qoh:=by kernel_rfl
noncomputable def Yc3:PC:={ats:=Xh,rts:=Kl,code:=Go.Sx.one (ats:=Xh) (rts:=Kl) Qow Qoh}
theorem Yfi:Qg cx.bare 50 Yc3:=Qg.Yc (Cx.Y2 Yd) Qng (n:=3000) (an:=.leaf) (fn:=f50) (c:=Qs f50) (by kernel_rfl) (by kernel_rfl) (fun a y h=>by obtain⟨h1,h2⟩:=Go.Sx.one_some h;subst h1;subst h2;exact Zz9) (by kernel_rfl)
def Qin:(Zs)×(Ql)×(Q9):=(opn,stS,(7960,bs [116,101,97,109],bs [],bs [65],bs [],bs [114,101,108,97,121],0,0,bs [],0,bs [],[bs [97,110,110],bs [97,109,121]]))
def Qhi:(Ql)×Int:=(stU,0)
theorem Zu7:Z2 cx.bare Qj7 3000 .leaf f50 (Qs f50) Xh Kl Qin=some Qhi:=by kernel_rfl
noncomputable def Yqc:PC:={ats:=Xh,rts:=Kl,code:=Go.Sx.one (ats:=Xh) (rts:=Kl) Qin Qhi}
theorem Ztn:Qg cx.bare 50 Yqc:=Qg.Yc (Cx.Y2 Yd) Qng (n:=3000) (an:=.leaf) (fn:=f50) (c:=Qs f50) (by kernel_rfl) (by kernel_rfl) (fun a y h=>by obtain⟨h1,h2⟩:=Go.Sx.one_some h;subst h1;subst h2;exact Zu7) (by kernel_rfl)
noncomputable def Qv1:Lx:={ext:=[(23,(((((((((((Jy.at Vf Vi).at Vw V4).at Kh Kg).at Uk Ux).at Qa7 Qaf).at Qck Qbk).at Qdd Qc2).at Qfx Qfb).at Qis Qir).at Qja Ql1).at Qr8 Qrw).sm),(21,(Qvm 400).sm),(135,(Qtb 400).sm),(150,(Qn7 400).sm),(199,(Qnw 400).sm),(200,(Qo7 400).sm),(201,(Qp1 400).sm),(202,(Qqf 400).sm),(160,(Zg4 400).sm),(213,(Zc5 400).sm),(214,(Zd1 400).sm),(216,(Zec 400).sm),(219,(Qum 400).sm),(186,(Qwp 400).sm),(187,(Qx6 400).sm),(110,(Zld 400).sm),(111,(Zah 400).sm),(105,(Qt0 400).sm)],anns:=[(2000219,.leaf),(217,Jr (Qs f217))],still:=[]}
theorem Zgg:Qv1.Ok cx.bare:=Lx.Zn (PC.Qu (Qg.at2 (pc:=((((((((((Jy.at Vf Vi).at Vw V4).at Kh Kg).at Uk Ux).at Qa7 Qaf).at Qck Qbk).at Qdd Qc2).at Qfx Qfb).at Qis Qir).at Qja Ql1)) (Qg.at2 (pc:=(((((((((Jy.at Vf Vi).at Vw V4).at Kh Kg).at Uk Ux).at Qa7 Qaf).at Qck Qbk).at Qdd Qc2).at Qfx Qfb).at Qis Qir)) (Qg.at2 (pc:=((((((((Jy.at Vf Vi).at Vw V4).at Kh Kg).at Uk Ux).at Qa7 Qaf).at Qck Qbk).at Qdd Qc2).at Qfx Qfb)) (Qg.at2 (pc:=(((((((Jy.at Vf Vi).at Vw V4).at Kh Kg).at Uk Ux).at Qa7 Qaf).at Qck Qbk).at Qdd Qc2)) (Qg.at2 (pc:=((((((Jy.at Vf Vi).at Vw V4).at Kh Kg).at Uk Ux).at Qa7 Qaf).at Qck Qbk)) (Qg.at2 (pc:=(((((Jy.at Vf Vi).at Vw V4).at Kh Kg).at Uk Ux).at Qa7 Qaf)) (Qg.at2 (pc:=((((Jy.at Vf Vi).at Vw V4).at Kh Kg).at Uk Ux)) (Qg.at2 (pc:=(((Jy.at Vf Vi).at Vw V4).at Kh Kg)) (Qg.at2 (pc:=((Jy.at Vf Vi).at Vw V4)) (Qg.at2 (pc:=(Jy.at Vf Vi)) (Qg.at2 (pc:=Jy) Zbl (a0:=Vf) (y0:=Vi) Yd7) (a0:=Vw) (y0:=V4) Yoz) (a0:=Kh) (y0:=Kg) Zty) (a0:=Uk) (y0:=Ux) Znd) (a0:=Qa7) (y0:=Qaf) Yow) (a0:=Qck) (y0:=Qbk) Ysa) (a0:=Qdd) (y0:=Qc2) Ypp) (a0:=Qfx) (y0:=Qfb) Yma) (a0:=Qis) (y0:=Qir) Znj) (a0:=Qja) (y0:=Ql1) Zp2) (a0:=Qr8) (y0:=Qrw) Ylm)) (Lx.Zn (PC.Qu (Qrc 400).bare) (Lx.Zn (PC.Qu (Qyf 400).bare) (Lx.Zn (PF.Qu (W4 400).bare) (Lx.Zn (PF.Qu (Wo 400).bare) (Lx.Zn (PF.Qu (Qpb 400).bare) (Lx.Zn (PF.Qu (J3 400).bare) (Lx.Zn (PF.Qu (Wh 400).bare) (Lx.Zn (PC.Qu (Qmn 400).bare) (Lx.Zn (PC.Qu (Qkv 400).bare) (Lx.Zn (PC.Qu (Qk7 400).bare) (Lx.Zn (PC.Qu (Ql5 400).bare) (Lx.Zn (PC.Qu (Qg0 400).bare) (Lx.Zn (PC.Qu (Vk 400).bare) (Lx.Zn (PC.Qu (Qfe 400).bare) (Lx.Zn (PC.Qu (Xu 400).bare) (Lx.Zn (PC.Qu (V8 400).bare) (Lx.Zn (PC.Qu (Qt4 400).bare) (Lx.K4))))))))))))))))))
def Zke:(Zs)×List (Q9):=(opn,Qho)
def Zh6:(Ql)×List (Int×Int)×Int:=(stS,[],0)
abbrev Qg2:List Qe:=[.agg [.int .i64,.int .i64,.int .i64,.int .i64,.seq [.str,.str,.str,.int .i64,.int .i64,.int .i64,.int .i64,.str,.int .i64,.str,.int .i64]],.val (.seq [.int .i64,.str,.str,.str,.str,.str,.int .i64,.int .i64,.str,.int .i64,.str,.seq [.str]])]
abbrev Qgr:List Qe:=[.agg [.seq [.str],.seq [.str,.str,.int .i64,.str],.seq [.str,.int .i64,.int .i64],.seq [.str,.str,.str,.int .i64,.str,.int .i64,.bool],.seq [.str,.str,.seq [.str]]],.val (.seq [.int .i64,.int .i64]),.val (.int .i64)]
theorem Zrg:Z2 cx.bare Qv1 3000 .leaf f29 (Qs f29) Qg2 Qgr Zke=some Zh6:=by kernel_rfl
noncomputable def Qo2:PC:={ats:=Qg2,rts:=Qgr,code:=Go.Sx.one (ats:=Qg2) (rts:=Qgr) Zke Zh6}
theorem Zlq:Qg cx.bare 29 Qo2:=Qg.Yc (Cx.Y2 Yd) Zgg (n:=3000) (an:=.leaf) (fn:=f29) (c:=Qs f29) (by kernel_rfl) (by kernel_rfl) (fun a y h=>by obtain⟨h1,h2⟩:=Go.Sx.one_some h;subst h1;subst h2;exact Zrg) (by kernel_rfl)
def Qqw:(Zs)×List (Q9):=(opn,Qho++[(7960,bs [119,105,116,104,100,114,97,119],bs [97,109,121],bs [],bs [],bs [115,112,114,105,110,116],0,0,bs [],0,bs [],[])])
def Qog:(Ql)×List (Int×Int)×Int:=(stT,[],0)
theorem Ydt:Z2 cx.bare Qv1 3000 .leaf f29 (Qs f29) Qg2 Qgr Qqw=some Qog:=by kernel_rfl
noncomputable def Ygl:PC:={ats:=Qg2,rts:=Qgr,code:=Go.Sx.one (ats:=Qg2) (rts:=Qgr) Qqw Qog}
theorem Ynt:Qg cx.bare 29 Ygl:=Qg.Yc (Cx.Y2 Yd) Zgg (n:=3000) (an:=.leaf) (fn:=f29) (c:=Qs f29) (by kernel_rfl) (by kernel_rfl) (fun a y h=>by obtain⟨h1,h2⟩:=Go.Sx.one_some h;subst h1;subst h2;exact Ydt) (by kernel_rfl)
noncomputable def Zgm:Lx:={ext:=[(29,(Qo2.at Qqw Qog).sm),(131,(Zc3 400).sm),(86,(Zh3 400).sm),(84,(Zie 400).sm),(139,(Zi5 400).sm),(129,(Quu 400).sm)],anns:=[],still:=[]}
theorem Zpe:Zgm.Ok cx.bare:=Lx.Zn (PC.Qu (Qg.at2 (pc:=Qo2) Zlq (a0:=Qqw) (y0:=Qog) Ynt)) (Lx.Zn (PC.Qu (Qcc 400).bare) (Lx.Zn (PC.Qu (Z9 400).bare) (Lx.Zn (PC.Qu (Yh 400).bare) (Lx.Zn (PC.Qu (Qoy 400).bare) (Lx.Zn (PC.Qu (Uu 400).bare) (Lx.K4))))))
def Zks:(Zs)×List (Q9)×List (Q9)×ByteArray:=(opn,Qho,Qho++[(7960,bs [119,105,116,104,100,114,97,119],bs [97,109,121],bs [],bs [],bs [115,112,114,105,110,116],0,0,bs [],0,bs [],[])],bs [115,112,114,105,110,116])
def Qz7:List ByteArray×Int:=([bs [97,109,121],bs [97,110,110]],0)
abbrev Qxa:List Qe:=[.agg [.int .i64,.int .i64,.int .i64,.int .i64,.seq [.str,.str,.str,.int .i64,.int .i64,.int .i64,.int .i64,.str,.int .i64,.str,.int .i64]],.val (.seq [.int .i64,.str,.str,.str,.str,.str,.int .i64,.int .i64,.str,.int .i64,.str,.seq [.str]]),.val (.seq [.int .i64,.str,.str,.str,.str,.str,.int .i64,.int .i64,.str,.int .i64,.str,.seq [.str]]),.val .str]
theorem Ykb:Z2 cx.bare Zgm 3000 .leaf f46 (Qs f46) Qxa Vo Zks=some Qz7:=by kernel_rfl
noncomputable def Zdr:PC:={ats:=Qxa,rts:=Vo,code:=Go.Sx.one (ats:=Qxa) (rts:=Vo) Zks Qz7}
theorem Ym7:Qg cx.bare 46 Zdr:=Qg.Yc (Cx.Y2 Yd) Zpe (n:=3000) (an:=.leaf) (fn:=f46) (c:=Qs f46) (by kernel_rfl) (by kernel_rfl) (fun a y h=>by obtain⟨h1,h2⟩:=Go.Sx.one_some h;subst h1;subst h2;exact Ykb) (by kernel_rfl)
noncomputable def Zfh:Lx:={ext:=[(25,(Qv9 400).sm),(99,(Qrf 400).sm),(21,(Qvm 400).sm),(98,(Qqh 400).sm),(129,(Quu 400).sm),(126,(Zdf 400).sm),(137,(Zi2 400).sm),(138,(Zlm 400).sm)],anns:=[(148,.typ 6 106 [.str,.str,.str,.int .i64,.str,.int .i64,.bool] .leaf)],still:=[]}
theorem Yan:Zfh.Ok cx.bare:=Lx.Zn (PC.Qu (Qgg 400).bare) (Lx.Zn (PC.Qu (Vh 400).bare) (Lx.Zn (PC.Qu (Qrc 400).bare) (Lx.Zn (PC.Qu (Vz 400).bare) (Lx.Zn (PC.Qu (Uu 400).bare) (Lx.Zn (PC.Qu (Qhl 400).bare) (Lx.Zn (PC.Qu (Qtj 400).bare) (Lx.Zn (PC.Qu (Qvo 400).bare) (Lx.K4))))))))
def Zid:(Zs)×(Ql)×ByteArray:=(opn,stY,bs [115,112,114,105,110,116])
def Zen:List ByteArray×Int:=([bs [97,109,121]],0)
theorem Ynu:Z2 cx.bare Zfh 3000 .leaf f69 (Qs f69) Us Vo Zid=some Zen:=by kernel_rfl
noncomputable def Zhm:PC:={ats:=Us,rts:=Vo,code:=Go.Sx.one (ats:=Us) (rts:=Vo) Zid Zen}
theorem Zt8:Qg cx.bare 69 Zhm:=Qg.Yc (Cx.Y2 Yd) Yan (n:=3000) (an:=.leaf) (fn:=f69) (c:=Qs f69) (by kernel_rfl) (by kernel_rfl) (fun a y h=>by obtain⟨h1,h2⟩:=Go.Sx.one_some h;subst h1;subst h2;exact Ynu) (by kernel_rfl)
end Go.Proofs.Tryz

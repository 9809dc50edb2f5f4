/- awake: CheckAct, Legal and Next at further acts awake: Replay and Changed at the examples And further parts. -/
import Derived.Test.YtpkbmngnolhopaaGreatDoorXTeW0
set_option maxRecDepth 1000000
set_option linter.unusedVariables false
namespace Go.Proofs.Tryz
open Go Go.Sx
noncomputable def Qb3:Lx:={ext:=[(98,(Qn0 400).sm),(99,(Qld 400).sm)],anns:=[],still:=[]}
theorem Qd8:Qb3.Ok cx.bare:=Lx.Zd (PC.Qo (Vb 400).bare) (Lx.Zd (PC.Qo (Wx 400).bare) (Lx.V9))
def Zel:(Z4):=(7960,bs [119,105,116,104,100,114,97,119],bs [97,109,121],bs [],bs [],bs [115,112,114,105,110,116],0,0,bs [],0,bs [],[])
def Qx8:Int:=0
theorem Zn1:Zm cx.bare Qb3 3000 .leaf f23 (Qq f23) Zw Ze Zel=some Qx8:=by kernel_rfl
noncomputable def X3:PC:={ats:=Zw,rts:=Ze,code:=Go.Sx.one (ats:=Zw) (rts:=Ze) Zel Qx8}
theorem Qxe:Qg cx.bare 23 X3:=Qg.Zr (Cx.Yj Zs) Qd8 (n:=3000) (an:=.leaf) (fn:=f23) (c:=Qq f23) (by kernel_rfl) (by kernel_rfl) (fun a y h=>by obtain⟨h1,h2⟩:=Go.Sx.one_some h;subst h1;subst h2;exact Zn1) (by kernel_rfl)
def U9:(Z4):=(7960,bs [116,101,97,109],bs [],bs [65],bs [],bs [114,101,108,97,121],0,0,bs [],0,bs [],[bs [97,110,110],bs [97,109,121]])
def Qaf:Int:=0
theorem Znu:Zm cx.bare Qb3 3000 .leaf f23 (Qq f23) Zw Ze U9=some Qaf:=by kernel_rfl
noncomputable def Yke:PC:={ats:=Zw,rts:=Ze,code:=Go.Sx.one (ats:=Zw) (rts:=Ze) U9 Qaf}
theorem Zwi:Qg cx.bare 23 Yke:=Qg.Zr (Cx.Yj Zs) Qd8 (n:=3000) (an:=.leaf) (fn:=f23) (c:=Qq f23) (by kernel_rfl) (by kernel_rfl) (fun a y h=>by obtain⟨h1,h2⟩:=Go.Sx.one_some h;subst h1;subst h2;exact Znu) (by kernel_rfl)
def Qbq:(Z4):=(8000,bs [99,104,101,99,107],bs [97,110,110],bs [],bs [],bs [115,112,114,105,110,116],0,0,bs [],0,bs [],[])
def Qb2:Int:=0
theorem Zpn:Zm cx.bare Qb3 3000 .leaf f23 (Qq f23) Zw Ze Qbq=some Qb2:=by kernel_rfl
noncomputable def Ygv:PC:={ats:=Zw,rts:=Ze,code:=Go.Sx.one (ats:=Zw) (rts:=Ze) Qbq Qb2}
theorem Ybz:Qg cx.bare 23 Ygv:=Qg.Zr (Cx.Yj Zs) Qd8 (n:=3000) (an:=.leaf) (fn:=f23) (c:=Qq f23) (by kernel_rfl) (by kernel_rfl) (fun a y h=>by obtain⟨h1,h2⟩:=Go.Sx.one_some h;subst h1;subst h2;exact Zpn) (by kernel_rfl)
def Qd2:(Z4):=(8000,bs [99,104,101,99,107],bs [97,109,121],bs [],bs [],bs [115,112,114,105,110,116],0,0,bs [],0,bs [],[])
def Qc3:Int:=0
theorem Yel:Zm cx.bare Qb3 3000 .leaf f23 (Qq f23) Zw Ze Qd2=some Qc3:=by kernel_rfl
noncomputable def Yi3:PC:={ats:=Zw,rts:=Ze,code:=Go.Sx.one (ats:=Zw) (rts:=Ze) Qd2 Qc3}
theorem Ygt:Qg cx.bare 23 Yi3:=Qg.Zr (Cx.Yj Zs) Qd8 (n:=3000) (an:=.leaf) (fn:=f23) (c:=Qq f23) (by kernel_rfl) (by kernel_rfl) (fun a y h=>by obtain⟨h1,h2⟩:=Go.Sx.one_some h;subst h1;subst h2;exact Yel) (by kernel_rfl)
def Qe9:(Z4):=(7960,bs [101,110,116,101,114],bs [97,109,121],bs [],bs [],bs [115,112,114,105,110,116],0,0,bs [116,105,109,101],125000,bs [],[])
def Qer:Int:=0
theorem Zsr:Zm cx.bare Qb3 3000 .leaf f23 (Qq f23) Zw Ze Qe9=some Qer:=by kernel_rfl
noncomputable def Ykf:PC:={ats:=Zw,rts:=Ze,code:=Go.Sx.one (ats:=Zw) (rts:=Ze) Qe9 Qer}
theorem Zvu:Qg cx.bare 23 Ykf:=Qg.Zr (Cx.Yj Zs) Qd8 (n:=3000) (an:=.leaf) (fn:=f23) (c:=Qq f23) (by kernel_rfl) (by kernel_rfl) (fun a y h=>by obtain⟨h1,h2⟩:=Go.Sx.one_some h;subst h1;subst h2;exact Zsr) (by kernel_rfl)
def Qg4:(Z4):=(7999,bs [101,110,116,101,114],bs [97,109,121],bs [],bs [],bs [115,112,114,105,110,116],0,0,bs [116,105,109,101],115000,bs [],[])
def Qg5:Int:=0
theorem Zja:Zm cx.bare Qb3 3000 .leaf f23 (Qq f23) Zw Ze Qg4=some Qg5:=by kernel_rfl
noncomputable def Ygl:PC:={ats:=Zw,rts:=Ze,code:=Go.Sx.one (ats:=Zw) (rts:=Ze) Qg4 Qg5}
theorem Yeu:Qg cx.bare 23 Ygl:=Qg.Zr (Cx.Yj Zs) Qd8 (n:=3000) (an:=.leaf) (fn:=f23) (c:=Qq f23) (by kernel_rfl) (by kernel_rfl) (fun a y h=>by obtain⟨h1,h2⟩:=Go.Sx.one_some h;subst h1;subst h2;exact Zja) (by kernel_rfl)
def Qmh:(Z4):=(7960,bs [116,101,97,109],bs [],bs [65],bs [],bs [114,101,108,97,121],0,0,bs [],0,bs [],[bs [97,110,110],bs [98,101,97]])
def Qnl:Int:=0
theorem Zwj:Zm cx.bare Qb3 3000 .leaf f23 (Qq f23) Zw Ze Qmh=some Qnl:=by kernel_rfl
noncomputable def Zkw:PC:={ats:=Zw,rts:=Ze,code:=Go.Sx.one (ats:=Zw) (rts:=Ze) Qmh Qnl}
theorem Ztc:Qg cx.bare 23 Zkw:=Qg.Zr (Cx.Yj Zs) Qd8 (n:=3000) (an:=.leaf) (fn:=f23) (c:=Qq f23) (by kernel_rfl) (by kernel_rfl) (fun a y h=>by obtain⟨h1,h2⟩:=Go.Sx.one_some h;subst h1;subst h2;exact Zwj) (by kernel_rfl)
noncomputable def Qch:Lx:={ext:=[(23,((((((X3.at U9 Qaf).at Qbq Qb2).at Qd2 Qc3).at Qe9 Qer).at Qg4 Qg5).at Qmh Qnl).sm),(25,(Qte 400).sm),(135,(Qup 400).sm)],anns:=[],still:=[]}
theorem Qcz:Qch.Ok cx.bare:=Lx.Zd (PC.Qo (Qg.at2 (pc:=(((((X3.at U9 Qaf).at Qbq Qb2).at Qd2 Qc3).at Qe9 Qer).at Qg4 Qg5)) (Qg.at2 (pc:=((((X3.at U9 Qaf).at Qbq Qb2).at Qd2 Qc3).at Qe9 Qer)) (Qg.at2 (pc:=(((X3.at U9 Qaf).at Qbq Qb2).at Qd2 Qc3)) (Qg.at2 (pc:=((X3.at U9 Qaf).at Qbq Qb2)) (Qg.at2 (pc:=(X3.at U9 Qaf)) (Qg.at2 (pc:=X3) Qxe (a0:=U9) (y0:=Qaf) Zwi) (a0:=Qbq) (y0:=Qb2) Ybz) (a0:=Qd2) (y0:=Qc3) Ygt) (a0:=Qe9) (y0:=Qer) Zvu) (a0:=Qg4) (y0:=Qg5) Yeu) (a0:=Qmh) (y0:=Qnl) Ztc)) (Lx.Zd (PC.Qo (Qdk 400).bare) (Lx.Zd (PC.Qo (Qrb 400).bare) (Lx.V9)))
def Zcc:(Za)×(Qk)×(Z4):=(opn,stS,(7960,bs [119,105,116,104,100,114,97,119],bs [97,109,121],bs [],bs [],bs [115,112,114,105,110,116],0,0,bs [],0,bs [],[]))
def Zgw:Int:=0
abbrev Yo:List Qf:=[.agg [.int .i64,.int .i64,.int .i64,.int .i64,.seq [.str,.str,.str,.int .i64,.int .i64,.int .i64,.int .i64,.str,.int .i64,.str,.int .i64]],.agg [.seq [.str],.seq [.str,.str,.int .i64,.str],.seq [.str,.int .i64,.int .i64],.seq [.str,.str,.str,.int .i64,.str,.int .i64,.bool],.seq [.str,.str,.seq [.str]]],.agg [.int .i64,.str,.str,.str,.str,.str,.int .i64,.int .i64,.str,.int .i64,.str,.seq [.str]]]
theorem Zn6:Zm cx.bare Qch 3000 .leaf f49 (Qq f49) Yo Ze Zcc=some Zgw:=by kernel_rfl
noncomputable def Qhj:PC:={ats:=Yo,rts:=Ze,code:=Go.Sx.one (ats:=Yo) (rts:=Ze) Zcc Zgw}
theorem Zkc:Qg cx.bare 49 Qhj:=Qg.Zr (Cx.Yj Zs) Qcz (n:=3000) (an:=.leaf) (fn:=f49) (c:=Qq f49) (by kernel_rfl) (by kernel_rfl) (fun a y h=>by obtain⟨h1,h2⟩:=Go.Sx.one_some h;subst h1;subst h2;exact Zn6) (by kernel_rfl)
def Qfb:(Za)×(Qk)×(Z4):=(opn,stS,(7960,bs [116,101,97,109],bs [],bs [65],bs [],bs [114,101,108,97,121],0,0,bs [],0,bs [],[bs [97,110,110],bs [97,109,121]]))
def Qeq:Int:=0
theorem Zn2:Zm cx.bare Qch 3000 .leaf f49 (Qq f49) Yo Ze Qfb=some Qeq:=by kernel_rfl
noncomputable def Ztv:PC:={ats:=Yo,rts:=Ze,code:=Go.Sx.one (ats:=Yo) (rts:=Ze) Qfb Qeq}
theorem Zwa:Qg cx.bare 49 Ztv:=Qg.Zr (Cx.Yj Zs) Qcz (n:=3000) (an:=.leaf) (fn:=f49) (c:=Qq f49) (by kernel_rfl) (by kernel_rfl) (fun a y h=>by obtain⟨h1,h2⟩:=Go.Sx.one_some h;subst h1;subst h2;exact Zn2) (by kernel_rfl)
def Qhe:(Za)×(Qk)×(Z4):=(opn,stS,(8000,bs [99,104,101,99,107],bs [97,110,110],bs [],bs [],bs [115,112,114,105,110,116],0,0,bs [],0,bs [],[]))
def Qif:Int:=0
theorem Yhu:Zm cx.bare Qch 3000 .leaf f49 (Qq f49) Yo Ze Qhe=some Qif:=by kernel_rfl
noncomputable def Zrq:PC:={ats:=Yo,rts:=Ze,code:=Go.Sx.one (ats:=Yo) (rts:=Ze) Qhe Qif}
theorem Zrv:Qg cx.bare 49 Zrq:=Qg.Zr (Cx.Yj Zs) Qcz (n:=3000) (an:=.leaf) (fn:=f49) (c:=Qq f49) (by kernel_rfl) (by kernel_rfl) (fun a y h=>by obtain⟨h1,h2⟩:=Go.Sx.one_some h;subst h1;subst h2;exact Yhu) (by kernel_rfl)
def Qkt:(Za)×(Qk)×(Z4):=(opn,stX,(8000,bs [99,104,101,99,107],bs [97,109,121],bs [],bs [],bs [115,112,114,105,110,116],0,0,bs [],0,bs [],[]))
def Qlq:Int:=0
theorem Zv8:Zm cx.bare Qch 3000 .leaf f49 (Qq f49) Yo Ze Qkt=some Qlq:=by kernel_rfl
noncomputable def Zsc:PC:={ats:=Yo,rts:=Ze,code:=Go.Sx.one (ats:=Yo) (rts:=Ze) Qkt Qlq}
theorem Yeq:Qg cx.bare 49 Zsc:=Qg.Zr (Cx.Yj Zs) Qcz (n:=3000) (an:=.leaf) (fn:=f49) (c:=Qq f49) (by kernel_rfl) (by kernel_rfl) (fun a y h=>by obtain⟨h1,h2⟩:=Go.Sx.one_some h;subst h1;subst h2;exact Zv8) (by kernel_rfl)
def Zah:(Za)×(Qk)×(Z4):=(opn,stT,(7960,bs [101,110,116,101,114],bs [97,109,121],bs [],bs [],bs [115,112,114,105,110,116],0,0,bs [116,105,109,101],125000,bs [],[]))
def Qx4:Int:=30
theorem Yet:Zm cx.bare Qch 3000 .leaf f49 (Qq f49) Yo Ze Zah=some Qx4:=by kernel_rfl
noncomputable def Qol:PC:={ats:=Yo,rts:=Ze,code:=Go.Sx.one (ats:=Yo) (rts:=Ze) Zah Qx4}
theorem Ztn:Qg cx.bare 49 Qol:=Qg.Zr (Cx.Yj Zs) Qcz (n:=3000) (an:=.leaf) (fn:=f49) (c:=Qq f49) (by kernel_rfl) (by kernel_rfl) (fun a y h=>by obtain⟨h1,h2⟩:=Go.Sx.one_some h;subst h1;subst h2;exact Yet) (by kernel_rfl)
def Qhv:(Za)×(Qk)×(Z4):=(opn,stT,(7999,bs [101,110,116,101,114],bs [97,109,121],bs [],bs [],bs [115,112,114,105,110,116],0,0,bs [116,105,109,101],115000,bs [],[]))
def Qjf:Int:=19
theorem Zz5:Zm cx.bare Qch 3000 .leaf f49 (Qq f49) Yo Ze Qhv=some Qjf:=by kernel_rfl
noncomputable def Yk0:PC:={ats:=Yo,rts:=Ze,code:=Go.Sx.one (ats:=Yo) (rts:=Ze) Qhv Qjf}
theorem Yba:Qg cx.bare 49 Yk0:=Qg.Zr (Cx.Yj Zs) Qcz (n:=3000) (an:=.leaf) (fn:=f49) (c:=Qq f49) (by kernel_rfl) (by kernel_rfl) (fun a y h=>by obtain⟨h1,h2⟩:=Go.Sx.one_some h;subst h1;subst h2;exact Zz5) (by kernel_rfl)
def Qmn:(Za)×(Qk)×(Z4):=(opn,stT,(7960,bs [116,101,97,109],bs [],bs [65],bs [],bs [114,101,108,97,121],0,0,bs [],0,bs [],[bs [97,110,110],bs [98,101,97]]))
def Qoq:Int:=18
theorem Zxr:Zm cx.bare Qch 3000 .leaf f49 (Qq f49) Yo Ze Qmn=some Qoq:=by kernel_rfl
noncomputable def Yfj:PC:={ats:=Yo,rts:=Ze,code:=Go.Sx.one (ats:=Yo) (rts:=Ze) Qmn Qoq}
theorem Yfk:Qg cx.bare 49 Yfj:=Qg.Zr (Cx.Yj Zs) Qcz (n:=3000) (an:=.leaf) (fn:=f49) (c:=Qq f49) (by kernel_rfl) (by kernel_rfl) (fun a y h=>by obtain⟨h1,h2⟩:=Go.Sx.one_some h;subst h1;subst h2;exact Zxr) (by kernel_rfl)
noncomputable def Qu6:Lx:={ext:=[(150,(Qnh 400).sm),(199,(Qn3 400).sm),(200,(Qm5 400).sm),(201,(Qk5 400).sm),(202,(Ws 400).sm)],anns:=[],still:=[]}
theorem Zbd:Qu6.Ok cx.bare:=Lx.Zd (PF.Qo (Wh 400).bare) (Lx.Zd (PF.Qo (Xg 400).bare) (Lx.Zd (PF.Qo (Qlz 400).bare) (Lx.Zd (PF.Qo (Y8 400).bare) (Lx.Zd (PF.Qo (Xb 400).bare) (Lx.V9)))))
def Ql5:Qk:=stS
def Qog:Qk:=stS
abbrev Vw:List Qf:=[.agg [.seq [.str],.seq [.str,.str,.int .i64,.str],.seq [.str,.int .i64,.int .i64],.seq [.str,.str,.str,.int .i64,.str,.int .i64,.bool],.seq [.str,.str,.seq [.str]]]]
theorem Zp9:Zm cx.bare Qu6 3000 .leaf f136 (Qq f136) Vw Vw Ql5=some Qog:=by kernel_rfl
noncomputable def Yek:PC:={ats:=Vw,rts:=Vw,code:=Go.Sx.one (ats:=Vw) (rts:=Vw) Ql5 Qog}
theorem Zpx:Qg cx.bare 136 Yek:=Qg.Zr (Cx.Yj Zs) Zbd (n:=3000) (an:=.leaf) (fn:=f136) (c:=Qq f136) (by kernel_rfl) (by kernel_rfl) (fun a y h=>by obtain⟨h1,h2⟩:=Go.Sx.one_some h;subst h1;subst h2;exact Zp9) (by kernel_rfl)
def Zb8:Qk:=stX
def Zcn:Qk:=stX
theorem Zqd:Zm cx.bare Qu6 3000 .leaf f136 (Qq f136) Vw Vw Zb8=some Zcn:=by kernel_rfl
noncomputable def Qqf:PC:={ats:=Vw,rts:=Vw,code:=Go.Sx.one (ats:=Vw) (rts:=Vw) Zb8 Zcn}
theorem Zpm:Qg cx.bare 136 Qqf:=Qg.Zr (Cx.Yj Zs) Zbd (n:=3000) (an:=.leaf) (fn:=f136) (c:=Qq f136) (by kernel_rfl) (by kernel_rfl) (fun a y h=>by obtain⟨h1,h2⟩:=Go.Sx.one_some h;subst h1;subst h2;exact Zqd) (by kernel_rfl)
noncomputable def Qiz:Lx:={ext:=[(49,(((Qhj.at Qfb Qeq).at Qhe Qif).at Qkt Qlq).sm),(136,(Qqf.at Ql5 Qog).sm),(150,(Qnh 400).sm),(199,(Qn3 400).sm),(200,(Qm5 400).sm),(201,(Qk5 400).sm),(202,(Ws 400).sm),(186,(Qts 400).sm),(187,(Qt0 400).sm),(105,(Qub 400).sm),(219,(Qt4 400).sm)],anns:=[(217,Js (Qq f217)),(2000219,.leaf)],still:=[]}
theorem Qof:Qiz.Ok cx.bare:=Lx.Zd (PC.Qo (Qg.at2 (pc:=((Qhj.at Qfb Qeq).at Qhe Qif)) (Qg.at2 (pc:=(Qhj.at Qfb Qeq)) (Qg.at2 (pc:=Qhj) Zkc (a0:=Qfb) (y0:=Qeq) Zwa) (a0:=Qhe) (y0:=Qif) Zrv) (a0:=Qkt) (y0:=Qlq) Yeq)) (Lx.Zd (PC.Qo (Qg.at2 (pc:=Qqf) Zpm (a0:=Ql5) (y0:=Qog) Zpx)) (Lx.Zd (PF.Qo (Wh 400).bare) (Lx.Zd (PF.Qo (Xg 400).bare) (Lx.Zd (PF.Qo (Qlz 400).bare) (Lx.Zd (PF.Qo (Y8 400).bare) (Lx.Zd (PF.Qo (Xb 400).bare) (Lx.Zd (PC.Qo (X0 400).bare) (Lx.Zd (PC.Qo (Qew 400).bare) (Lx.Zd (PC.Qo (Qu5 400).bare) (Lx.Zd (PC.Qo (Qhh 400).bare) (Lx.V9)))))))))))
def Za5:(Za)×(Qk)×(Z4):=(opn,stS,(7960,bs [119,105,116,104,100,114,97,119],bs [97,109,121],bs [],bs [],bs [115,112,114,105,110,116],0,0,bs [],0,bs [],[]))
def Zak:(Qk)×Int:=(stT,0)
abbrev Vu:List Qf:=[.agg [.seq [.str],.seq [.str,.str,.int .i64,.str],.seq [.str,.int .i64,.int .i64],.seq [.str,.str,.str,.int .i64,.str,.int .i64,.bool],.seq [.str,.str,.seq [.str]]],.val (.int .i64)]
theorem Zuz:Zm cx.bare Qiz 3000 .leaf f50 (Qq f50) Yo Vu Za5=some Zak:=by kernel_rfl
noncomputable def Qht:PC:={ats:=Yo,rts:=Vu,code:=Go.Sx.one (ats:=Yo) (rts:=Vu) Za5 Zak}
theorem Zte:Qg cx.bare 50 Qht:=Qg.Zr (Cx.Yj Zs) Qof (n:=3000) (an:=.leaf) (fn:=f50) (c:=Qq f50) (by kernel_rfl) (by kernel_rfl) (fun a y h=>by obtain⟨h1,h2⟩:=Go.Sx.one_some h;subst h1;subst h2;exact Zuz) (by kernel_rfl)
def Qj6:(Za)×(Qk)×(Z4):=(opn,stS,(8000,bs [99,104,101,99,107],bs [97,110,110],bs [],bs [],bs [115,112,114,105,110,116],0,0,bs [],0,bs [],[]))
def Qic:(Qk)×Int:=(stX,0)
theorem Zoy:Zm cx.bare Qiz 3000 .leaf f50 (Qq f50) Yo Vu Qj6=some Qic:=by kernel_rfl
noncomputable def Ybj:PC:={ats:=Yo,rts:=Vu,code:=Go.Sx.one (ats:=Yo) (rts:=Vu) Qj6 Qic}
theorem Zz6:Qg cx.bare 50 Ybj:=Qg.Zr (Cx.Yj Zs) Qof (n:=3000) (an:=.leaf) (fn:=f50) (c:=Qq f50) (by kernel_rfl) (by kernel_rfl) (fun a y h=>by obtain⟨h1,h2⟩:=Go.Sx.one_some h;subst h1;subst h2;exact Zoy) (by kernel_rfl)
def Qko:(Za)×(Qk)×(Z4):=(opn,stX,(8000,bs [99,104,101,99,107],bs [97,109,121],bs [],bs [],bs [115,112,114,105,110,116],0,0,bs [],0,bs [],[]))
def Qnz:(Qk)×Int:=(stY,0)
theorem Zqn:Zm cx.bare Qiz 3000 .leaf f50 (Qq f50) Yo Vu Qko=some Qnz:=by kernel_rfl
noncomputable def Znp:PC:={ats:=Yo,rts:=Vu,code:=Go.Sx.one (ats:=Yo) (rts:=Vu) Qko Qnz}
theorem Zx8:Qg cx.bare 50 Znp:=Qg.Zr (Cx.Yj Zs) Qof (n:=3000) (an:=.leaf) (fn:=f50) (c:=Qq f50) (by kernel_rfl) (by kernel_rfl) (fun a y h=>by obtain⟨h1,h2⟩:=Go.Sx.one_some h;subst h1;subst h2;exact Zqn) (by kernel_rfl)
def Qfg:(Za)×(Qk)×(Z4):=(opn,stS,(7960,bs [116,101,97,109],bs [],bs [65],bs [],bs [114,101,108,97,121],0,0,bs [],0,bs [],[bs [97,110,110],bs [97,109,121]]))
def Qex:(Qk)×Int:=(stU,0)
theorem Zks:Zm cx.bare Qiz 3000 .leaf f50 (Qq f50) Yo Vu Qfg=some Qex:=by kernel_rfl
noncomputable def Ye8:PC:={ats:=Yo,rts:=Vu,code:=Go.Sx.one (ats:=Yo) (rts:=Vu) Qfg Qex}
theorem Zoz:Qg cx.bare 50 Ye8:=Qg.Zr (Cx.Yj Zs) Qof (n:=3000) (an:=.leaf) (fn:=f50) (c:=Qq f50) (by kernel_rfl) (by kernel_rfl) (fun a y h=>by obtain⟨h1,h2⟩:=Go.Sx.one_some h;subst h1;subst h2;exact Zks) (by kernel_rfl)
noncomputable def Qtp:Lx:={ext:=[(23,(((((((((((X3.at Wq Wp).at Vh Vf).at Vs Vy).at Kf Kj).at Ux K9).at Qad Qab).at Qcg Qbc).at Qdp Qd1).at Qej Qfj).at Qjj Qjw).at Qnt Qo1).sm),(21,(Qtq 400).sm),(135,(Qup 400).sm),(150,(Qnh 400).sm),(199,(Qn3 400).sm),(200,(Qm5 400).sm),(201,(Qk5 400).sm),(202,(Ws 400).sm),(160,(Qz2 400).sm),(213,(Qx2 400).sm),(214,(Qw2 400).sm),(216,(Qw1 400).sm),(219,(Qt4 400).sm),(186,(Qts 400).sm),(187,(Qt0 400).sm),(110,(Qw4 400).sm),(111,(Zbl 400).sm),(105,(Qub 400).sm)],anns:=[(2000219,.leaf),(217,Js (Qq f217))],still:=[]}
theorem Zd2:Qtp.Ok cx.bare:=Lx.Zd (PC.Qo (Qg.at2 (pc:=((((((((((X3.at Wq Wp).at Vh Vf).at Vs Vy).at Kf Kj).at Ux K9).at Qad Qab).at Qcg Qbc).at Qdp Qd1).at Qej Qfj).at Qjj Qjw)) (Qg.at2 (pc:=(((((((((X3.at Wq Wp).at Vh Vf).at Vs Vy).at Kf Kj).at Ux K9).at Qad Qab).at Qcg Qbc).at Qdp Qd1).at Qej Qfj)) (Qg.at2 (pc:=((((((((X3.at Wq Wp).at Vh Vf).at Vs Vy).at Kf Kj).at Ux K9).at Qad Qab).at Qcg Qbc).at Qdp Qd1)) (Qg.at2 (pc:=(((((((X3.at Wq Wp).at Vh Vf).at Vs Vy).at Kf Kj).at Ux K9).at Qad Qab).at Qcg Qbc)) (Qg.at2 (pc:=((((((X3.at Wq Wp).at Vh Vf).at Vs Vy).at Kf Kj).at Ux K9).at Qad Qab)) (Qg.at2 (pc:=(((((X3.at Wq Wp).at Vh Vf).at Vs Vy).at Kf Kj).at Ux K9)) (Qg.at2 (pc:=((((X3.at Wq Wp).at Vh Vf).at Vs Vy).at Kf Kj)) (Qg.at2 (pc:=(((X3.at Wq Wp).at Vh Vf).at Vs Vy)) (Qg.at2 (pc:=((X3.at Wq Wp).at Vh Vf)) (Qg.at2 (pc:=(X3.at Wq Wp)) (Qg.at2 (pc:=X3) Qxe (a0:=Wq) (y0:=Wp) Ye3) (a0:=Vh) (y0:=Vf) Zw3) (a0:=Vs) (y0:=Vy) Zmu) (a0:=Kf) (y0:=Kj) Zy2) (a0:=Ux) (y0:=K9) Zwl) (a0:=Qad) (y0:=Qab) Zh4) (a0:=Qcg) (y0:=Qbc) Znf) (a0:=Qdp) (y0:=Qd1) Yjw) (a0:=Qej) (y0:=Qfj) Yd2) (a0:=Qjj) (y0:=Qjw) Zvt) (a0:=Qnt) (y0:=Qo1) Zyp)) (Lx.Zd (PC.Qo (Qt7 400).bare) (Lx.Zd (PC.Qo (Qrb 400).bare) (Lx.Zd (PF.Qo (Wh 400).bare) (Lx.Zd (PF.Qo (Xg 400).bare) (Lx.Zd (PF.Qo (Qlz 400).bare) (Lx.Zd (PF.Qo (Y8 400).bare) (Lx.Zd (PF.Qo (Xb 400).bare) (Lx.Zd (PC.Qo (Qme 400).bare) (Lx.Zd (PC.Qo (Qpq 400).bare) (Lx.Zd (PC.Qo (Qph 400).bare) (Lx.Zd (PC.Qo (Qn1 400).bare) (Lx.Zd (PC.Qo (Qhh 400).bare) (Lx.Zd (PC.Qo (X0 400).bare) (Lx.Zd (PC.Qo (Qew 400).bare) (Lx.Zd (PC.Qo (Y7 400).bare) (Lx.Zd (PC.Qo (Vd 400).bare) (Lx.Zd (PC.Qo (Qu5 400).bare) (Lx.V9))))))))))))))))))
def Qxb:(Za)×List (Z4):=(opn,Qgt)
def Qxm:(Qk)×List (Int×Int)×Int:=(stS,[],0)
abbrev Qgh:List Qf:=[.agg [.int .i64,.int .i64,.int .i64,.int .i64,.seq [.str,.str,.str,.int .i64,.int .i64,.int .i64,.int .i64,.str,.int .i64,.str,.int .i64]],.val (.seq [.int .i64,.str,.str,.str,.str,.str,.int .i64,.int .i64,.str,.int .i64,.str,.seq [.str]])]
abbrev Qgd:List Qf:=[.agg [.seq [.str],.seq [.str,.str,.int .i64,.str],.seq [.str,.int .i64,.int .i64],.seq [.str,.str,.str,.int .i64,.str,.int .i64,.bool],.seq [.str,.str,.seq [.str]]],.val (.seq [.int .i64,.int .i64]),.val (.int .i64)]
theorem Zxj:Zm cx.bare Qtp 3000 .leaf f29 (Qq f29) Qgh Qgd Qxb=some Qxm:=by kernel_rfl
noncomputable def Qkr:PC:={ats:=Qgh,rts:=Qgd,code:=Go.Sx.one (ats:=Qgh) (rts:=Qgd) Qxb Qxm}
theorem Zbe:Qg cx.bare 29 Qkr:=Qg.Zr (Cx.Yj Zs) Zd2 (n:=3000) (an:=.leaf) (fn:=f29) (c:=Qq f29) (by kernel_rfl) (by kernel_rfl) (fun a y h=>by obtain⟨h1,h2⟩:=Go.Sx.one_some h;subst h1;subst h2;exact Zxj) (by kernel_rfl)
def Qlt:(Za)×List (Z4):=(opn,Qgt++[(7960,bs [119,105,116,104,100,114,97,119],bs [97,109,121],bs [],bs [],bs [115,112,114,105,110,116],0,0,bs [],0,bs [],[])])
def Qk7:(Qk)×List (Int×Int)×Int:=(stT,[],0)
theorem Yj4:Zm cx.bare Qtp 3000 .leaf f29 (Qq f29) Qgh Qgd Qlt=some Qk7:=by kernel_rfl
noncomputable def Yci:PC:={ats:=Qgh,rts:=Qgd,code:=Go.Sx.one (ats:=Qgh) (rts:=Qgd) Qlt Qk7}
theorem Zqs:Qg cx.bare 29 Yci:=Qg.Zr (Cx.Yj Zs) Zd2 (n:=3000) (an:=.leaf) (fn:=f29) (c:=Qq f29) (by kernel_rfl) (by kernel_rfl) (fun a y h=>by obtain⟨h1,h2⟩:=Go.Sx.one_some h;subst h1;subst h2;exact Yj4) (by kernel_rfl)
noncomputable def Zfl:Lx:={ext:=[(29,(Qkr.at Qlt Qk7).sm),(131,(Zcv 400).sm),(86,(Qx5 400).sm),(84,(Zev 400).sm),(139,(Zdi 400).sm),(129,(Qsn 400).sm)],anns:=[],still:=[]}
theorem Zj7:Zfl.Ok cx.bare:=Lx.Zd (PC.Qo (Qg.at2 (pc:=Qkr) Zbe (a0:=Qlt) (y0:=Qk7) Zqs)) (Lx.Zd (PC.Qo (Qb4 400).bare) (Lx.Zd (PC.Qo (Z3 400).bare) (Lx.Zd (PC.Qo (Z6 400).bare) (Lx.Zd (PC.Qo (Qs5 400).bare) (Lx.Zd (PC.Qo (Ul 400).bare) (Lx.V9))))))
def Zb0:(Za)×List (Z4)×List (Z4)×ByteArray:=(opn,Qgt,Qgt++[(7960,bs [119,105,116,104,100,114,97,119],bs [97,109,121],bs [],bs [],bs [115,112,114,105,110,116],0,0,bs [],0,bs [],[])],bs [115,112,114,105,110,116])
def Zg6:List ByteArray×Int:=([bs [97,109,121],bs [97,110,110]],0)
abbrev Qro:List Qf:=[.agg [.int .i64,.int .i64,.int .i64,.int .i64,.seq [.str,.str,.str,.int .i64,.int .i64,.int .i64,.int .i64,.str,.int .i64,.str,.int .i64]],.val (.seq [.int .i64,.str,.str,.str,.str,.str,.int .i64,.int .i64,.str,.int .i64,.str,.seq [.str]]),.val (.seq [.int .i64,.str,.str,.str,.str,.str,.int .i64,.int .i64,.str,.int .i64,.str,.seq [.str]]),.val .str]
theorem Zzu:Zm cx.bare Zfl 3000 .leaf f46 (Qq f46) Qro Wo Zb0=some Zg6:=by kernel_rfl
noncomputable def Zgi:PC:={ats:=Qro,rts:=Wo,code:=Go.Sx.one (ats:=Qro) (rts:=Wo) Zb0 Zg6}
theorem Zov:Qg cx.bare 46 Zgi:=Qg.Zr (Cx.Yj Zs) Zj7 (n:=3000) (an:=.leaf) (fn:=f46) (c:=Qq f46) (by kernel_rfl) (by kernel_rfl) (fun a y h=>by obtain⟨h1,h2⟩:=Go.Sx.one_some h;subst h1;subst h2;exact Zzu) (by kernel_rfl)
noncomputable def Qy2:Lx:={ext:=[(25,(Qte 400).sm),(99,(Qld 400).sm),(21,(Qtq 400).sm),(98,(Qn0 400).sm),(129,(Qsn 400).sm),(126,(Zd4 400).sm),(137,(Zcp 400).sm),(138,(Ze6 400).sm)],anns:=[(148,.typ 6 106 [.str,.str,.str,.int .i64,.str,.int .i64,.bool] .leaf)],still:=[]}
theorem Zku:Qy2.Ok cx.bare:=Lx.Zd (PC.Qo (Qdk 400).bare) (Lx.Zd (PC.Qo (Wx 400).bare) (Lx.Zd (PC.Qo (Qt7 400).bare) (Lx.Zd (PC.Qo (Vb 400).bare) (Lx.Zd (PC.Qo (Ul 400).bare) (Lx.Zd (PC.Qo (Qga 400).bare) (Lx.Zd (PC.Qo (Qul 400).bare) (Lx.Zd (PC.Qo (Qtf 400).bare) (Lx.V9))))))))
def Zgb:(Za)×(Qk)×ByteArray:=(opn,stY,bs [115,112,114,105,110,116])
def Qyj:List ByteArray×Int:=([bs [97,109,121]],0)
theorem Ycz:Zm cx.bare Qy2 3000 .leaf f69 (Qq f69) Ke Wo Zgb=some Qyj:=by kernel_rfl
noncomputable def Qzi:PC:={ats:=Ke,rts:=Wo,code:=Go.Sx.one (ats:=Ke) (rts:=Wo) Zgb Qyj}
theorem Yiq:Qg cx.bare 69 Qzi:=Qg.Zr (Cx.Yj Zs) Zku (n:=3000) (an:=.leaf) (fn:=f69) (c:=Qq f69) (by kernel_rfl) (by kernel_rfl) (fun a y h=>by obtain⟨h1,h2⟩:=Go.Sx.one_some h;subst h1;subst h2;exact Ycz) (by kernel_rfl)
end Go.Proofs.Tryz

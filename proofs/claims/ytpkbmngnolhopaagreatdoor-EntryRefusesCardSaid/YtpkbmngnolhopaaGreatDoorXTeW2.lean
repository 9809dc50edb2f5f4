/- awake: CheckAct, Legal and Next at further acts awake: Replay and Changed at the examples And further parts. -/
import Derived.Test.YtpkbmngnolhopaaGreatDoorXTeW0
set_option maxRecDepth 1000000
set_option linter.unusedVariables false
namespace Go.Proofs.Tryz
open Go Go.Sx
noncomputable def Qei:Lx:={ext:=[(98,(Qow 400).sm),(99,(Qsh 400).sm)],anns:=[],still:=[]}
theorem Qf9:Qei.Ok cx.bare:=Lx.Zp (PC.Qu (V2 400).bare) (Lx.Zp (PC.Qu (Vs 400).bare) (Lx.Ud))
def Zdh:(Q4):=(7960,bs [119,105,116,104,100,114,97,119],bs [97,109,121],bs [],bs [],bs [115,112,114,105,110,116],0,0,bs [],0,bs [],[])
def Za8:Int:=0
theorem Zpg:Z6 cx.bare Qei 3000 .leaf f23 (Qs f23) Z8 Zq Zdh=some Za8:=by kernel_rfl
noncomputable def Jw:PC:={ats:=Z8,rts:=Zq,code:=Go.Sx.one (ats:=Z8) (rts:=Zq) Zdh Za8}
theorem Zc4:Qg cx.bare 23 Jw:=Qg.Yg (Cx.Y4 Yh) Qf9 (n:=3000) (an:=.leaf) (fn:=f23) (c:=Qs f23) (by kernel_rfl) (by kernel_rfl) (fun a y h=>by obtain⟨h1,h2⟩:=Go.Sx.one_some h;subst h1;subst h2;exact Zpg) (by kernel_rfl)
def Qby:(Q4):=(7960,bs [116,101,97,109],bs [],bs [65],bs [],bs [114,101,108,97,121],0,0,bs [],0,bs [],[bs [97,110,110],bs [97,109,121]])
def Qb9:Int:=0
theorem Ypa:Z6 cx.bare Qei 3000 .leaf f23 (Qs f23) Z8 Zq Qby=some Qb9:=by kernel_rfl
noncomputable def Zvm:PC:={ats:=Z8,rts:=Zq,code:=Go.Sx.one (ats:=Z8) (rts:=Zq) Qby Qb9}
theorem Yqk:Qg cx.bare 23 Zvm:=Qg.Yg (Cx.Y4 Yh) Qf9 (n:=3000) (an:=.leaf) (fn:=f23) (c:=Qs f23) (by kernel_rfl) (by kernel_rfl) (fun a y h=>by obtain⟨h1,h2⟩:=Go.Sx.one_some h;subst h1;subst h2;exact Ypa) (by kernel_rfl)
def Qdu:(Q4):=(8000,bs [99,104,101,99,107],bs [97,110,110],bs [],bs [],bs [115,112,114,105,110,116],0,0,bs [],0,bs [],[])
def Qeg:Int:=0
theorem Zwf:Z6 cx.bare Qei 3000 .leaf f23 (Qs f23) Z8 Zq Qdu=some Qeg:=by kernel_rfl
noncomputable def Zx4:PC:={ats:=Z8,rts:=Zq,code:=Go.Sx.one (ats:=Z8) (rts:=Zq) Qdu Qeg}
theorem Zom:Qg cx.bare 23 Zx4:=Qg.Yg (Cx.Y4 Yh) Qf9 (n:=3000) (an:=.leaf) (fn:=f23) (c:=Qs f23) (by kernel_rfl) (by kernel_rfl) (fun a y h=>by obtain⟨h1,h2⟩:=Go.Sx.one_some h;subst h1;subst h2;exact Zwf) (by kernel_rfl)
def Qfd:(Q4):=(8000,bs [99,104,101,99,107],bs [97,109,121],bs [],bs [],bs [115,112,114,105,110,116],0,0,bs [],0,bs [],[])
def Qfn:Int:=0
theorem Zuz:Z6 cx.bare Qei 3000 .leaf f23 (Qs f23) Z8 Zq Qfd=some Qfn:=by kernel_rfl
noncomputable def Ya0:PC:={ats:=Z8,rts:=Zq,code:=Go.Sx.one (ats:=Z8) (rts:=Zq) Qfd Qfn}
theorem Yny:Qg cx.bare 23 Ya0:=Qg.Yg (Cx.Y4 Yh) Qf9 (n:=3000) (an:=.leaf) (fn:=f23) (c:=Qs f23) (by kernel_rfl) (by kernel_rfl) (fun a y h=>by obtain⟨h1,h2⟩:=Go.Sx.one_some h;subst h1;subst h2;exact Zuz) (by kernel_rfl)
def Qho:(Q4):=(7960,bs [101,110,116,101,114],bs [97,109,121],bs [],bs [],bs [115,112,114,105,110,116],0,0,bs [116,105,109,101],125000,bs [],[])
def Qig:Int:=0
theorem Ynl:Z6 cx.bare Qei 3000 .leaf f23 (Qs f23) Z8 Zq Qho=some Qig:=by kernel_rfl
noncomputable def Zvj:PC:={ats:=Z8,rts:=Zq,code:=Go.Sx.one (ats:=Z8) (rts:=Zq) Qho Qig}
theorem Zmr:Qg cx.bare 23 Zvj:=Qg.Yg (Cx.Y4 Yh) Qf9 (n:=3000) (an:=.leaf) (fn:=f23) (c:=Qs f23) (by kernel_rfl) (by kernel_rfl) (fun a y h=>by obtain⟨h1,h2⟩:=Go.Sx.one_some h;subst h1;subst h2;exact Ynl) (by kernel_rfl)
def Qkc:(Q4):=(7999,bs [101,110,116,101,114],bs [97,109,121],bs [],bs [],bs [115,112,114,105,110,116],0,0,bs [116,105,109,101],115000,bs [],[])
def Qke:Int:=0
theorem Zms:Z6 cx.bare Qei 3000 .leaf f23 (Qs f23) Z8 Zq Qkc=some Qke:=by kernel_rfl
noncomputable def Zqg:PC:={ats:=Z8,rts:=Zq,code:=Go.Sx.one (ats:=Z8) (rts:=Zq) Qkc Qke}
theorem Zz5:Qg cx.bare 23 Zqg:=Qg.Yg (Cx.Y4 Yh) Qf9 (n:=3000) (an:=.leaf) (fn:=f23) (c:=Qs f23) (by kernel_rfl) (by kernel_rfl) (fun a y h=>by obtain⟨h1,h2⟩:=Go.Sx.one_some h;subst h1;subst h2;exact Zms) (by kernel_rfl)
def Qqd:(Q4):=(7960,bs [116,101,97,109],bs [],bs [65],bs [],bs [114,101,108,97,121],0,0,bs [],0,bs [],[bs [97,110,110],bs [98,101,97]])
def Qn3:Int:=0
theorem Zts:Z6 cx.bare Qei 3000 .leaf f23 (Qs f23) Z8 Zq Qqd=some Qn3:=by kernel_rfl
noncomputable def Zy1:PC:={ats:=Z8,rts:=Zq,code:=Go.Sx.one (ats:=Z8) (rts:=Zq) Qqd Qn3}
theorem Znq:Qg cx.bare 23 Zy1:=Qg.Yg (Cx.Y4 Yh) Qf9 (n:=3000) (an:=.leaf) (fn:=f23) (c:=Qs f23) (by kernel_rfl) (by kernel_rfl) (fun a y h=>by obtain⟨h1,h2⟩:=Go.Sx.one_some h;subst h1;subst h2;exact Zts) (by kernel_rfl)
noncomputable def Qc3:Lx:={ext:=[(23,((((((Jw.at Qby Qb9).at Qdu Qeg).at Qfd Qfn).at Qho Qig).at Qkc Qke).at Qqd Qn3).sm),(25,(Qyw 400).sm),(135,(Quz 400).sm)],anns:=[],still:=[]}
theorem Qgf:Qc3.Ok cx.bare:=Lx.Zp (PC.Qu (Qg.at2 (pc:=(((((Jw.at Qby Qb9).at Qdu Qeg).at Qfd Qfn).at Qho Qig).at Qkc Qke)) (Qg.at2 (pc:=((((Jw.at Qby Qb9).at Qdu Qeg).at Qfd Qfn).at Qho Qig)) (Qg.at2 (pc:=(((Jw.at Qby Qb9).at Qdu Qeg).at Qfd Qfn)) (Qg.at2 (pc:=((Jw.at Qby Qb9).at Qdu Qeg)) (Qg.at2 (pc:=(Jw.at Qby Qb9)) (Qg.at2 (pc:=Jw) Zc4 (a0:=Qby) (y0:=Qb9) Yqk) (a0:=Qdu) (y0:=Qeg) Zom) (a0:=Qfd) (y0:=Qfn) Yny) (a0:=Qho) (y0:=Qig) Zmr) (a0:=Qkc) (y0:=Qke) Zz5) (a0:=Qqd) (y0:=Qn3) Znq)) (Lx.Zp (PC.Qu (Qi7 400).bare) (Lx.Zp (PC.Qu (Qx7 400).bare) (Lx.Ud)))
def Zjo:(Zr)×(Qm)×(Q4):=(opn,stS,(7960,bs [119,105,116,104,100,114,97,119],bs [97,109,121],bs [],bs [],bs [115,112,114,105,110,116],0,0,bs [],0,bs [],[]))
def Zeo:Int:=0
abbrev Xh:List Qe:=[.agg [.int .i64,.int .i64,.int .i64,.int .i64,.seq [.str,.str,.str,.int .i64,.int .i64,.int .i64,.int .i64,.str,.int .i64,.str,.int .i64]],.agg [.seq [.str],.seq [.str,.str,.int .i64,.str],.seq [.str,.int .i64,.int .i64],.seq [.str,.str,.str,.int .i64,.str,.int .i64,.bool],.seq [.str,.str,.seq [.str]]],.agg [.int .i64,.str,.str,.str,.str,.str,.int .i64,.int .i64,.str,.int .i64,.str,.seq [.str]]]
theorem Yjh:Z6 cx.bare Qc3 3000 .leaf f49 (Qs f49) Xh Zq Zjo=some Zeo:=by kernel_rfl
noncomputable def Qlp:PC:={ats:=Xh,rts:=Zq,code:=Go.Sx.one (ats:=Xh) (rts:=Zq) Zjo Zeo}
theorem Zyl:Qg cx.bare 49 Qlp:=Qg.Yg (Cx.Y4 Yh) Qgf (n:=3000) (an:=.leaf) (fn:=f49) (c:=Qs f49) (by kernel_rfl) (by kernel_rfl) (fun a y h=>by obtain⟨h1,h2⟩:=Go.Sx.one_some h;subst h1;subst h2;exact Yjh) (by kernel_rfl)
def Qhy:(Zr)×(Qm)×(Q4):=(opn,stS,(7960,bs [116,101,97,109],bs [],bs [65],bs [],bs [114,101,108,97,121],0,0,bs [],0,bs [],[bs [97,110,110],bs [97,109,121]]))
def Qhs:Int:=0
theorem Zt9:Z6 cx.bare Qc3 3000 .leaf f49 (Qs f49) Xh Zq Qhy=some Qhs:=by kernel_rfl
noncomputable def Zzd:PC:={ats:=Xh,rts:=Zq,code:=Go.Sx.one (ats:=Xh) (rts:=Zq) Qhy Qhs}
theorem Yqf:Qg cx.bare 49 Zzd:=Qg.Yg (Cx.Y4 Yh) Qgf (n:=3000) (an:=.leaf) (fn:=f49) (c:=Qs f49) (by kernel_rfl) (by kernel_rfl) (fun a y h=>by obtain⟨h1,h2⟩:=Go.Sx.one_some h;subst h1;subst h2;exact Zt9) (by kernel_rfl)
def Qnf:(Zr)×(Qm)×(Q4):=(opn,stS,(8000,bs [99,104,101,99,107],bs [97,110,110],bs [],bs [],bs [115,112,114,105,110,116],0,0,bs [],0,bs [],[]))
def Qld:Int:=0
theorem Zw7:Z6 cx.bare Qc3 3000 .leaf f49 (Qs f49) Xh Zq Qnf=some Qld:=by kernel_rfl
noncomputable def Yeq:PC:={ats:=Xh,rts:=Zq,code:=Go.Sx.one (ats:=Xh) (rts:=Zq) Qnf Qld}
theorem Ysf:Qg cx.bare 49 Yeq:=Qg.Yg (Cx.Y4 Yh) Qgf (n:=3000) (an:=.leaf) (fn:=f49) (c:=Qs f49) (by kernel_rfl) (by kernel_rfl) (fun a y h=>by obtain⟨h1,h2⟩:=Go.Sx.one_some h;subst h1;subst h2;exact Zw7) (by kernel_rfl)
def Qn0:(Zr)×(Qm)×(Q4):=(opn,stX,(8000,bs [99,104,101,99,107],bs [97,109,121],bs [],bs [],bs [115,112,114,105,110,116],0,0,bs [],0,bs [],[]))
def Qq2:Int:=0
theorem Yc8:Z6 cx.bare Qc3 3000 .leaf f49 (Qs f49) Xh Zq Qn0=some Qq2:=by kernel_rfl
noncomputable def Zr6:PC:={ats:=Xh,rts:=Zq,code:=Go.Sx.one (ats:=Xh) (rts:=Zq) Qn0 Qq2}
theorem Ycc:Qg cx.bare 49 Zr6:=Qg.Yg (Cx.Y4 Yh) Qgf (n:=3000) (an:=.leaf) (fn:=f49) (c:=Qs f49) (by kernel_rfl) (by kernel_rfl) (fun a y h=>by obtain⟨h1,h2⟩:=Go.Sx.one_some h;subst h1;subst h2;exact Yc8) (by kernel_rfl)
def Zh1:(Zr)×(Qm)×(Q4):=(opn,stT,(7960,bs [101,110,116,101,114],bs [97,109,121],bs [],bs [],bs [115,112,114,105,110,116],0,0,bs [116,105,109,101],125000,bs [],[]))
def Zeu:Int:=30
theorem Yqn:Z6 cx.bare Qc3 3000 .leaf f49 (Qs f49) Xh Zq Zh1=some Zeu:=by kernel_rfl
noncomputable def Qpo:PC:={ats:=Xh,rts:=Zq,code:=Go.Sx.one (ats:=Xh) (rts:=Zq) Zh1 Zeu}
theorem Yb1:Qg cx.bare 49 Qpo:=Qg.Yg (Cx.Y4 Yh) Qgf (n:=3000) (an:=.leaf) (fn:=f49) (c:=Qs f49) (by kernel_rfl) (by kernel_rfl) (fun a y h=>by obtain⟨h1,h2⟩:=Go.Sx.one_some h;subst h1;subst h2;exact Yqn) (by kernel_rfl)
def Qj1:(Zr)×(Qm)×(Q4):=(opn,stT,(7999,bs [101,110,116,101,114],bs [97,109,121],bs [],bs [],bs [115,112,114,105,110,116],0,0,bs [116,105,109,101],115000,bs [],[]))
def Qm9:Int:=19
theorem Zz7:Z6 cx.bare Qc3 3000 .leaf f49 (Qs f49) Xh Zq Qj1=some Qm9:=by kernel_rfl
noncomputable def Yc2:PC:={ats:=Xh,rts:=Zq,code:=Go.Sx.one (ats:=Xh) (rts:=Zq) Qj1 Qm9}
theorem Ysd:Qg cx.bare 49 Yc2:=Qg.Yg (Cx.Y4 Yh) Qgf (n:=3000) (an:=.leaf) (fn:=f49) (c:=Qs f49) (by kernel_rfl) (by kernel_rfl) (fun a y h=>by obtain⟨h1,h2⟩:=Go.Sx.one_some h;subst h1;subst h2;exact Zz7) (by kernel_rfl)
def Qpc:(Zr)×(Qm)×(Q4):=(opn,stT,(7960,bs [116,101,97,109],bs [],bs [65],bs [],bs [114,101,108,97,121],0,0,bs [],0,bs [],[bs [97,110,110],bs [98,101,97]]))
def Qp3:Int:=18
theorem Ye6:Z6 cx.bare Qc3 3000 .leaf f49 (Qs f49) Xh Zq Qpc=some Qp3:=by kernel_rfl
noncomputable def Zuj:PC:={ats:=Xh,rts:=Zq,code:=Go.Sx.one (ats:=Xh) (rts:=Zq) Qpc Qp3}
theorem Ygj:Qg cx.bare 49 Zuj:=Qg.Yg (Cx.Y4 Yh) Qgf (n:=3000) (an:=.leaf) (fn:=f49) (c:=Qs f49) (by kernel_rfl) (by kernel_rfl) (fun a y h=>by obtain⟨h1,h2⟩:=Go.Sx.one_some h;subst h1;subst h2;exact Ye6) (by kernel_rfl)
noncomputable def Qyh:Lx:={ext:=[(150,(Qrf 400).sm),(199,(Qok 400).sm),(200,(Qr8 400).sm),(201,(Qpz 400).sm),(202,(Qo9 400).sm)],anns:=[],still:=[]}
theorem Zkp:Qyh.Ok cx.bare:=Lx.Zp (PF.Qu (Vf 400).bare) (Lx.Zp (PF.Qu (Wo 400).bare) (Lx.Zp (PF.Qu (Qqj 400).bare) (Lx.Zp (PF.Qu (J2 400).bare) (Lx.Zp (PF.Qu (Wl 400).bare) (Lx.Ud)))))
def Qn5:Qm:=stS
def Qsy:Qm:=stS
abbrev Ua:List Qe:=[.agg [.seq [.str],.seq [.str,.str,.int .i64,.str],.seq [.str,.int .i64,.int .i64],.seq [.str,.str,.str,.int .i64,.str,.int .i64,.bool],.seq [.str,.str,.seq [.str]]]]
theorem Ymr:Z6 cx.bare Qyh 3000 .leaf f136 (Qs f136) Ua Ua Qn5=some Qsy:=by kernel_rfl
noncomputable def Znx:PC:={ats:=Ua,rts:=Ua,code:=Go.Sx.one (ats:=Ua) (rts:=Ua) Qn5 Qsy}
theorem Zs9:Qg cx.bare 136 Znx:=Qg.Yg (Cx.Y4 Yh) Zkp (n:=3000) (an:=.leaf) (fn:=f136) (c:=Qs f136) (by kernel_rfl) (by kernel_rfl) (fun a y h=>by obtain⟨h1,h2⟩:=Go.Sx.one_some h;subst h1;subst h2;exact Ymr) (by kernel_rfl)
def Zey:Qm:=stX
def Zb7:Qm:=stX
theorem Yqz:Z6 cx.bare Qyh 3000 .leaf f136 (Qs f136) Ua Ua Zey=some Zb7:=by kernel_rfl
noncomputable def Qzj:PC:={ats:=Ua,rts:=Ua,code:=Go.Sx.one (ats:=Ua) (rts:=Ua) Zey Zb7}
theorem Yqp:Qg cx.bare 136 Qzj:=Qg.Yg (Cx.Y4 Yh) Zkp (n:=3000) (an:=.leaf) (fn:=f136) (c:=Qs f136) (by kernel_rfl) (by kernel_rfl) (fun a y h=>by obtain⟨h1,h2⟩:=Go.Sx.one_some h;subst h1;subst h2;exact Yqz) (by kernel_rfl)
noncomputable def Qmo:Lx:={ext:=[(49,(((Qlp.at Qhy Qhs).at Qnf Qld).at Qn0 Qq2).sm),(136,(Qzj.at Qn5 Qsy).sm),(150,(Qrf 400).sm),(199,(Qok 400).sm),(200,(Qr8 400).sm),(201,(Qpz 400).sm),(202,(Qo9 400).sm),(186,(Qu3 400).sm),(187,(Qt9 400).sm),(105,(Qxu 400).sm),(219,(Qt4 400).sm)],anns:=[(217,Wg (Qs f217)),(2000219,.leaf)],still:=[]}
theorem Qsp:Qmo.Ok cx.bare:=Lx.Zp (PC.Qu (Qg.at2 (pc:=((Qlp.at Qhy Qhs).at Qnf Qld)) (Qg.at2 (pc:=(Qlp.at Qhy Qhs)) (Qg.at2 (pc:=Qlp) Zyl (a0:=Qhy) (y0:=Qhs) Yqf) (a0:=Qnf) (y0:=Qld) Ysf) (a0:=Qn0) (y0:=Qq2) Ycc)) (Lx.Zp (PC.Qu (Qg.at2 (pc:=Qzj) Yqp (a0:=Qn5) (y0:=Qsy) Zs9)) (Lx.Zp (PF.Qu (Vf 400).bare) (Lx.Zp (PF.Qu (Wo 400).bare) (Lx.Zp (PF.Qu (Qqj 400).bare) (Lx.Zp (PF.Qu (J2 400).bare) (Lx.Zp (PF.Qu (Wl 400).bare) (Lx.Zp (PC.Qu (Vl 400).bare) (Lx.Zp (PC.Qu (Qfs 400).bare) (Lx.Zp (PC.Qu (Qvx 400).bare) (Lx.Zp (PC.Qu (Qh0 400).bare) (Lx.Ud)))))))))))
def Zgi:(Zr)×(Qm)×(Q4):=(opn,stS,(7960,bs [119,105,116,104,100,114,97,119],bs [97,109,121],bs [],bs [],bs [115,112,114,105,110,116],0,0,bs [],0,bs [],[]))
def Zfb:(Qm)×Int:=(stT,0)
abbrev Kp:List Qe:=[.agg [.seq [.str],.seq [.str,.str,.int .i64,.str],.seq [.str,.int .i64,.int .i64],.seq [.str,.str,.str,.int .i64,.str,.int .i64,.bool],.seq [.str,.str,.seq [.str]]],.val (.int .i64)]
theorem Yko:Z6 cx.bare Qmo 3000 .leaf f50 (Qs f50) Xh Kp Zgi=some Zfb:=by kernel_rfl
noncomputable def Qmm:PC:={ats:=Xh,rts:=Kp,code:=Go.Sx.one (ats:=Xh) (rts:=Kp) Zgi Zfb}
theorem Zys:Qg cx.bare 50 Qmm:=Qg.Yg (Cx.Y4 Yh) Qsp (n:=3000) (an:=.leaf) (fn:=f50) (c:=Qs f50) (by kernel_rfl) (by kernel_rfl) (fun a y h=>by obtain⟨h1,h2⟩:=Go.Sx.one_some h;subst h1;subst h2;exact Yko) (by kernel_rfl)
def Qne:(Zr)×(Qm)×(Q4):=(opn,stS,(8000,bs [99,104,101,99,107],bs [97,110,110],bs [],bs [],bs [115,112,114,105,110,116],0,0,bs [],0,bs [],[]))
def Qly:(Qm)×Int:=(stX,0)
theorem Ym3:Z6 cx.bare Qmo 3000 .leaf f50 (Qs f50) Xh Kp Qne=some Qly:=by kernel_rfl
noncomputable def Yb7:PC:={ats:=Xh,rts:=Kp,code:=Go.Sx.one (ats:=Xh) (rts:=Kp) Qne Qly}
theorem Yba:Qg cx.bare 50 Yb7:=Qg.Yg (Cx.Y4 Yh) Qsp (n:=3000) (an:=.leaf) (fn:=f50) (c:=Qs f50) (by kernel_rfl) (by kernel_rfl) (fun a y h=>by obtain⟨h1,h2⟩:=Go.Sx.one_some h;subst h1;subst h2;exact Ym3) (by kernel_rfl)
def Qs4:(Zr)×(Qm)×(Q4):=(opn,stX,(8000,bs [99,104,101,99,107],bs [97,109,121],bs [],bs [],bs [115,112,114,105,110,116],0,0,bs [],0,bs [],[]))
def Qqa:(Qm)×Int:=(stY,0)
theorem Yaa:Z6 cx.bare Qmo 3000 .leaf f50 (Qs f50) Xh Kp Qs4=some Qqa:=by kernel_rfl
noncomputable def Yq8:PC:={ats:=Xh,rts:=Kp,code:=Go.Sx.one (ats:=Xh) (rts:=Kp) Qs4 Qqa}
theorem Zp4:Qg cx.bare 50 Yq8:=Qg.Yg (Cx.Y4 Yh) Qsp (n:=3000) (an:=.leaf) (fn:=f50) (c:=Qs f50) (by kernel_rfl) (by kernel_rfl) (fun a y h=>by obtain⟨h1,h2⟩:=Go.Sx.one_some h;subst h1;subst h2;exact Yaa) (by kernel_rfl)
def Qi0:(Zr)×(Qm)×(Q4):=(opn,stS,(7960,bs [116,101,97,109],bs [],bs [65],bs [],bs [114,101,108,97,121],0,0,bs [],0,bs [],[bs [97,110,110],bs [97,109,121]]))
def Qhe:(Qm)×Int:=(stU,0)
theorem Zn6:Z6 cx.bare Qmo 3000 .leaf f50 (Qs f50) Xh Kp Qi0=some Qhe:=by kernel_rfl
noncomputable def Zxu:PC:={ats:=Xh,rts:=Kp,code:=Go.Sx.one (ats:=Xh) (rts:=Kp) Qi0 Qhe}
theorem Zz3:Qg cx.bare 50 Zxu:=Qg.Yg (Cx.Y4 Yh) Qsp (n:=3000) (an:=.leaf) (fn:=f50) (c:=Qs f50) (by kernel_rfl) (by kernel_rfl) (fun a y h=>by obtain⟨h1,h2⟩:=Go.Sx.one_some h;subst h1;subst h2;exact Zn6) (by kernel_rfl)
noncomputable def Qwz:Lx:={ext:=[(23,(((((((((((Jw.at Vx Vq).at Ka Ke).at Kx Kr).at U7 Ul).at Qal Qam).at Qcs Qck).at Qd8 Qd3).at Qe8 Qga).at Qjo Qh2).at Qmq Qko).at Qp6 Qs5).sm),(21,(Qwo 400).sm),(135,(Quz 400).sm),(150,(Qrf 400).sm),(199,(Qok 400).sm),(200,(Qr8 400).sm),(201,(Qpz 400).sm),(202,(Qo9 400).sm),(160,(Zhx 400).sm),(213,(Zea 400).sm),(214,(Zky 400).sm),(216,(Zfj 400).sm),(219,(Qt4 400).sm),(186,(Qu3 400).sm),(187,(Qt9 400).sm),(110,(Zi4 400).sm),(111,(Zcz 400).sm),(105,(Qxu 400).sm)],anns:=[(2000219,.leaf),(217,Wg (Qs f217))],still:=[]}
theorem Zlj:Qwz.Ok cx.bare:=Lx.Zp (PC.Qu (Qg.at2 (pc:=((((((((((Jw.at Vx Vq).at Ka Ke).at Kx Kr).at U7 Ul).at Qal Qam).at Qcs Qck).at Qd8 Qd3).at Qe8 Qga).at Qjo Qh2).at Qmq Qko)) (Qg.at2 (pc:=(((((((((Jw.at Vx Vq).at Ka Ke).at Kx Kr).at U7 Ul).at Qal Qam).at Qcs Qck).at Qd8 Qd3).at Qe8 Qga).at Qjo Qh2)) (Qg.at2 (pc:=((((((((Jw.at Vx Vq).at Ka Ke).at Kx Kr).at U7 Ul).at Qal Qam).at Qcs Qck).at Qd8 Qd3).at Qe8 Qga)) (Qg.at2 (pc:=(((((((Jw.at Vx Vq).at Ka Ke).at Kx Kr).at U7 Ul).at Qal Qam).at Qcs Qck).at Qd8 Qd3)) (Qg.at2 (pc:=((((((Jw.at Vx Vq).at Ka Ke).at Kx Kr).at U7 Ul).at Qal Qam).at Qcs Qck)) (Qg.at2 (pc:=(((((Jw.at Vx Vq).at Ka Ke).at Kx Kr).at U7 Ul).at Qal Qam)) (Qg.at2 (pc:=((((Jw.at Vx Vq).at Ka Ke).at Kx Kr).at U7 Ul)) (Qg.at2 (pc:=(((Jw.at Vx Vq).at Ka Ke).at Kx Kr)) (Qg.at2 (pc:=((Jw.at Vx Vq).at Ka Ke)) (Qg.at2 (pc:=(Jw.at Vx Vq)) (Qg.at2 (pc:=Jw) Zc4 (a0:=Vx) (y0:=Vq) Zvt) (a0:=Ka) (y0:=Ke) Yd8) (a0:=Kx) (y0:=Kr) Zzz) (a0:=U7) (y0:=Ul) Ygb) (a0:=Qal) (y0:=Qam) Yon) (a0:=Qcs) (y0:=Qck) Yoq) (a0:=Qd8) (y0:=Qd3) Ynu) (a0:=Qe8) (y0:=Qga) Yen) (a0:=Qjo) (y0:=Qh2) Yqy) (a0:=Qmq) (y0:=Qko) Ydm) (a0:=Qp6) (y0:=Qs5) Ybt)) (Lx.Zp (PC.Qu (Qo6 400).bare) (Lx.Zp (PC.Qu (Qx7 400).bare) (Lx.Zp (PF.Qu (Vf 400).bare) (Lx.Zp (PF.Qu (Wo 400).bare) (Lx.Zp (PF.Qu (Qqj 400).bare) (Lx.Zp (PF.Qu (J2 400).bare) (Lx.Zp (PF.Qu (Wl 400).bare) (Lx.Zp (PC.Qu (Qm7 400).bare) (Lx.Zp (PC.Qu (Qkn 400).bare) (Lx.Zp (PC.Qu (Qm2 400).bare) (Lx.Zp (PC.Qu (Qj4 400).bare) (Lx.Zp (PC.Qu (Qh0 400).bare) (Lx.Zp (PC.Qu (Vl 400).bare) (Lx.Zp (PC.Qu (Qfs 400).bare) (Lx.Zp (PC.Qu (Xu 400).bare) (Lx.Zp (PC.Qu (Kg 400).bare) (Lx.Zp (PC.Qu (Qvx 400).bare) (Lx.Ud))))))))))))))))))
def Za2:(Zr)×List (Q4):=(opn,Qi5)
def Zhs:(Qm)×List (Int×Int)×Int:=(stS,[],0)
abbrev Qjk:List Qe:=[.agg [.int .i64,.int .i64,.int .i64,.int .i64,.seq [.str,.str,.str,.int .i64,.int .i64,.int .i64,.int .i64,.str,.int .i64,.str,.int .i64]],.val (.seq [.int .i64,.str,.str,.str,.str,.str,.int .i64,.int .i64,.str,.int .i64,.str,.seq [.str]])]
abbrev Qg3:List Qe:=[.agg [.seq [.str],.seq [.str,.str,.int .i64,.str],.seq [.str,.int .i64,.int .i64],.seq [.str,.str,.str,.int .i64,.str,.int .i64,.bool],.seq [.str,.str,.seq [.str]]],.val (.seq [.int .i64,.int .i64]),.val (.int .i64)]
theorem Yjm:Z6 cx.bare Qwz 3000 .leaf f29 (Qs f29) Qjk Qg3 Za2=some Zhs:=by kernel_rfl
noncomputable def Qsf:PC:={ats:=Qjk,rts:=Qg3,code:=Go.Sx.one (ats:=Qjk) (rts:=Qg3) Za2 Zhs}
theorem Zh0:Qg cx.bare 29 Qsf:=Qg.Yg (Cx.Y4 Yh) Zlj (n:=3000) (an:=.leaf) (fn:=f29) (c:=Qs f29) (by kernel_rfl) (by kernel_rfl) (fun a y h=>by obtain⟨h1,h2⟩:=Go.Sx.one_some h;subst h1;subst h2;exact Yjm) (by kernel_rfl)
def Qon:(Zr)×List (Q4):=(opn,Qi5++[(7960,bs [119,105,116,104,100,114,97,119],bs [97,109,121],bs [],bs [],bs [115,112,114,105,110,116],0,0,bs [],0,bs [],[])])
def Qrr:(Qm)×List (Int×Int)×Int:=(stT,[],0)
theorem Zpa:Z6 cx.bare Qwz 3000 .leaf f29 (Qs f29) Qjk Qg3 Qon=some Qrr:=by kernel_rfl
noncomputable def Yih:PC:={ats:=Qjk,rts:=Qg3,code:=Go.Sx.one (ats:=Qjk) (rts:=Qg3) Qon Qrr}
theorem Yfl:Qg cx.bare 29 Yih:=Qg.Yg (Cx.Y4 Yh) Zlj (n:=3000) (an:=.leaf) (fn:=f29) (c:=Qs f29) (by kernel_rfl) (by kernel_rfl) (fun a y h=>by obtain⟨h1,h2⟩:=Go.Sx.one_some h;subst h1;subst h2;exact Zpa) (by kernel_rfl)
noncomputable def Zgs:Lx:={ext:=[(29,(Qsf.at Qon Qrr).sm),(131,(Zj7 400).sm),(86,(Zk6 400).sm),(84,(Ze1 400).sm),(139,(Zgk 400).sm),(129,(Quj 400).sm)],anns:=[],still:=[]}
theorem Ybi:Zgs.Ok cx.bare:=Lx.Zp (PC.Qu (Qg.at2 (pc:=Qsf) Zh0 (a0:=Qon) (y0:=Qrr) Yfl)) (Lx.Zp (PC.Qu (Qct 400).bare) (Lx.Zp (PC.Qu (Yb 400).bare) (Lx.Zp (PC.Qu (Yj 400).bare) (Lx.Zp (PC.Qu (Ql4 400).bare) (Lx.Zp (PC.Qu (Ux 400).bare) (Lx.Ud))))))
def Zf0:(Zr)×List (Q4)×List (Q4)×ByteArray:=(opn,Qi5,Qi5++[(7960,bs [119,105,116,104,100,114,97,119],bs [97,109,121],bs [],bs [],bs [115,112,114,105,110,116],0,0,bs [],0,bs [],[])],bs [115,112,114,105,110,116])
def Zje:List ByteArray×Int:=([bs [97,109,121],bs [97,110,110]],0)
abbrev Qxx:List Qe:=[.agg [.int .i64,.int .i64,.int .i64,.int .i64,.seq [.str,.str,.str,.int .i64,.int .i64,.int .i64,.int .i64,.str,.int .i64,.str,.int .i64]],.val (.seq [.int .i64,.str,.str,.str,.str,.str,.int .i64,.int .i64,.str,.int .i64,.str,.seq [.str]]),.val (.seq [.int .i64,.str,.str,.str,.str,.str,.int .i64,.int .i64,.str,.int .i64,.str,.seq [.str]]),.val .str]
theorem Yi3:Z6 cx.bare Zgs 3000 .leaf f46 (Qs f46) Qxx Vw Zf0=some Zje:=by kernel_rfl
noncomputable def Zia:PC:={ats:=Qxx,rts:=Vw,code:=Go.Sx.one (ats:=Qxx) (rts:=Vw) Zf0 Zje}
theorem Zqb:Qg cx.bare 46 Zia:=Qg.Yg (Cx.Y4 Yh) Ybi (n:=3000) (an:=.leaf) (fn:=f46) (c:=Qs f46) (by kernel_rfl) (by kernel_rfl) (fun a y h=>by obtain⟨h1,h2⟩:=Go.Sx.one_some h;subst h1;subst h2;exact Yi3) (by kernel_rfl)
noncomputable def Zh2:Lx:={ext:=[(25,(Qyw 400).sm),(99,(Qsh 400).sm),(21,(Qwo 400).sm),(98,(Qow 400).sm),(129,(Quj 400).sm),(126,(Zfm 400).sm),(137,(Zjm 400).sm),(138,(Zj4 400).sm)],anns:=[(148,.typ 6 106 [.str,.str,.str,.int .i64,.str,.int .i64,.bool] .leaf)],still:=[]}
theorem Zpp:Zh2.Ok cx.bare:=Lx.Zp (PC.Qu (Qi7 400).bare) (Lx.Zp (PC.Qu (Vs 400).bare) (Lx.Zp (PC.Qu (Qo6 400).bare) (Lx.Zp (PC.Qu (V2 400).bare) (Lx.Zp (PC.Qu (Ux 400).bare) (Lx.Zp (PC.Qu (Qhc 400).bare) (Lx.Zp (PC.Qu (Qpv 400).bare) (Lx.Zp (PC.Qu (Qzw 400).bare) (Lx.Ud))))))))
def Zlh:(Zr)×(Qm)×ByteArray:=(opn,stY,bs [115,112,114,105,110,116])
def Zjw:List ByteArray×Int:=([bs [97,109,121]],0)
theorem Ya1:Z6 cx.bare Zh2 3000 .leaf f69 (Qs f69) Uk Vw Zlh=some Zjw:=by kernel_rfl
noncomputable def Zc9:PC:={ats:=Uk,rts:=Vw,code:=Go.Sx.one (ats:=Uk) (rts:=Vw) Zlh Zjw}
theorem Yk3:Qg cx.bare 69 Zc9:=Qg.Yg (Cx.Y4 Yh) Zpp (n:=3000) (an:=.leaf) (fn:=f69) (c:=Qs f69) (by kernel_rfl) (by kernel_rfl) (fun a y h=>by obtain⟨h1,h2⟩:=Go.Sx.one_some h;subst h1;subst h2;exact Ya1) (by kernel_rfl)
end Go.Proofs.Tryz

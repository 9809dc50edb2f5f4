/- awake: CheckAct, Legal and Next at further acts awake: Replay and Changed at the examples And further parts. -/
import Derived.Test.YtpkbmngnolhopaaGreatDoorXTeO
set_option maxRecDepth 1000000
set_option linter.unusedVariables false
namespace Go.Proofs.Tryz
open Go Go.Sx
noncomputable def Qaa:Lx:={ext:=[(98,(Qje 400).sm),(99,(Qmi 400).sm)],anns:=[],still:=[]}
theorem Qby:Qaa.Ok cx.bare:=Lx.Q3 (PC.Q0 (Qhi 400).bare) (Lx.Q3 (PC.Q0 (Qee 400).bare) (Lx.W4))
def Qtf:(Yd):=(7960,bs [119,105,116,104,100,114,97,119],bs [97,109,121],bs [],bs [],bs [115,112,114,105,110,116],0,0,bs [],0,bs [],[])
def Qus:Int:=0
theorem Zud:Z5 cx.bare Qaa 3000 .leaf f23 (Qv f23) Zo Q4 Qtf=some Qus:=by kernel_rfl
noncomputable def Xm:PC:={ats:=Zo,rts:=Q4,code:=Go.Sx.one (ats:=Zo) (rts:=Q4) Qtf Qus}
theorem Qyw:Qg cx.bare 23 Xm:=Qg.Zs (Cx.Z9 Zt) Qby (n:=3000) (an:=.leaf) (fn:=f23) (c:=Qv f23) (by kernel_rfl) (by kernel_rfl) (fun a y h=>by obtain⟨h1,h2⟩:=Go.Sx.one_some h;subst h1;subst h2;exact Zud) (by kernel_rfl)
def K9:(Yd):=(7960,bs [116,101,97,109],bs [],bs [65],bs [],bs [114,101,108,97,121],0,0,bs [],0,bs [],[bs [97,110,110],bs [97,109,121]])
def Uc:Int:=0
theorem Zkb:Z5 cx.bare Qaa 3000 .leaf f23 (Qv f23) Zo Q4 K9=some Uc:=by kernel_rfl
noncomputable def Zuz:PC:={ats:=Zo,rts:=Q4,code:=Go.Sx.one (ats:=Zo) (rts:=Q4) K9 Uc}
theorem Zrf:Qg cx.bare 23 Zuz:=Qg.Zs (Cx.Z9 Zt) Qby (n:=3000) (an:=.leaf) (fn:=f23) (c:=Qv f23) (by kernel_rfl) (by kernel_rfl) (fun a y h=>by obtain⟨h1,h2⟩:=Go.Sx.one_some h;subst h1;subst h2;exact Zkb) (by kernel_rfl)
def Qae:(Yd):=(8000,bs [99,104,101,99,107],bs [97,110,110],bs [],bs [],bs [115,112,114,105,110,116],0,0,bs [],0,bs [],[])
def U7:Int:=0
theorem Znn:Z5 cx.bare Qaa 3000 .leaf f23 (Qv f23) Zo Q4 Qae=some U7:=by kernel_rfl
noncomputable def Zex:PC:={ats:=Zo,rts:=Q4,code:=Go.Sx.one (ats:=Zo) (rts:=Q4) Qae U7}
theorem Zzr:Qg cx.bare 23 Zex:=Qg.Zs (Cx.Z9 Zt) Qby (n:=3000) (an:=.leaf) (fn:=f23) (c:=Qv f23) (by kernel_rfl) (by kernel_rfl) (fun a y h=>by obtain⟨h1,h2⟩:=Go.Sx.one_some h;subst h1;subst h2;exact Znn) (by kernel_rfl)
def Qcd:(Yd):=(8000,bs [99,104,101,99,107],bs [97,109,121],bs [],bs [],bs [115,112,114,105,110,116],0,0,bs [],0,bs [],[])
def Qbp:Int:=0
theorem Zit:Z5 cx.bare Qaa 3000 .leaf f23 (Qv f23) Zo Q4 Qcd=some Qbp:=by kernel_rfl
noncomputable def Zt2:PC:={ats:=Zo,rts:=Q4,code:=Go.Sx.one (ats:=Zo) (rts:=Q4) Qcd Qbp}
theorem Zyf:Qg cx.bare 23 Zt2:=Qg.Zs (Cx.Z9 Zt) Qby (n:=3000) (an:=.leaf) (fn:=f23) (c:=Qv f23) (by kernel_rfl) (by kernel_rfl) (fun a y h=>by obtain⟨h1,h2⟩:=Go.Sx.one_some h;subst h1;subst h2;exact Zit) (by kernel_rfl)
def Qc1:(Yd):=(7960,bs [101,110,116,101,114],bs [97,109,121],bs [],bs [],bs [115,112,114,105,110,116],0,0,bs [116,105,109,101],125000,bs [],[])
def Qdk:Int:=0
theorem Zjr:Z5 cx.bare Qaa 3000 .leaf f23 (Qv f23) Zo Q4 Qc1=some Qdk:=by kernel_rfl
noncomputable def Zva:PC:={ats:=Zo,rts:=Q4,code:=Go.Sx.one (ats:=Zo) (rts:=Q4) Qc1 Qdk}
theorem Zrw:Qg cx.bare 23 Zva:=Qg.Zs (Cx.Z9 Zt) Qby (n:=3000) (an:=.leaf) (fn:=f23) (c:=Qv f23) (by kernel_rfl) (by kernel_rfl) (fun a y h=>by obtain⟨h1,h2⟩:=Go.Sx.one_some h;subst h1;subst h2;exact Zjr) (by kernel_rfl)
def Qf8:(Yd):=(7999,bs [101,110,116,101,114],bs [97,109,121],bs [],bs [],bs [115,112,114,105,110,116],0,0,bs [116,105,109,101],115000,bs [],[])
def Qfa:Int:=0
theorem Zus:Z5 cx.bare Qaa 3000 .leaf f23 (Qv f23) Zo Q4 Qf8=some Qfa:=by kernel_rfl
noncomputable def Znz:PC:={ats:=Zo,rts:=Q4,code:=Go.Sx.one (ats:=Zo) (rts:=Q4) Qf8 Qfa}
theorem Zrv:Qg cx.bare 23 Znz:=Qg.Zs (Cx.Z9 Zt) Qby (n:=3000) (an:=.leaf) (fn:=f23) (c:=Qv f23) (by kernel_rfl) (by kernel_rfl) (fun a y h=>by obtain⟨h1,h2⟩:=Go.Sx.one_some h;subst h1;subst h2;exact Zus) (by kernel_rfl)
def Qh8:(Yd):=(7960,bs [116,101,97,109],bs [],bs [65],bs [],bs [114,101,108,97,121],0,0,bs [],0,bs [],[bs [97,110,110],bs [98,101,97]])
def Qll:Int:=0
theorem Zpx:Z5 cx.bare Qaa 3000 .leaf f23 (Qv f23) Zo Q4 Qh8=some Qll:=by kernel_rfl
noncomputable def Zhm:PC:={ats:=Zo,rts:=Q4,code:=Go.Sx.one (ats:=Zo) (rts:=Q4) Qh8 Qll}
theorem Zev:Qg cx.bare 23 Zhm:=Qg.Zs (Cx.Z9 Zt) Qby (n:=3000) (an:=.leaf) (fn:=f23) (c:=Qv f23) (by kernel_rfl) (by kernel_rfl) (fun a y h=>by obtain⟨h1,h2⟩:=Go.Sx.one_some h;subst h1;subst h2;exact Zpx) (by kernel_rfl)
noncomputable def U1:Lx:={ext:=[(23,((((((Xm.at K9 Uc).at Qae U7).at Qcd Qbp).at Qc1 Qdk).at Qf8 Qfa).at Qh8 Qll).sm),(25,(Qr7 400).sm),(135,(Qpf 400).sm)],anns:=[],still:=[]}
theorem Qa0:U1.Ok cx.bare:=Lx.Q3 (PC.Q0 (Qg.at2 (pc:=(((((Xm.at K9 Uc).at Qae U7).at Qcd Qbp).at Qc1 Qdk).at Qf8 Qfa)) (Qg.at2 (pc:=((((Xm.at K9 Uc).at Qae U7).at Qcd Qbp).at Qc1 Qdk)) (Qg.at2 (pc:=(((Xm.at K9 Uc).at Qae U7).at Qcd Qbp)) (Qg.at2 (pc:=((Xm.at K9 Uc).at Qae U7)) (Qg.at2 (pc:=(Xm.at K9 Uc)) (Qg.at2 (pc:=Xm) Qyw (a0:=K9) (y0:=Uc) Zrf) (a0:=Qae) (y0:=U7) Zzr) (a0:=Qcd) (y0:=Qbp) Zyf) (a0:=Qc1) (y0:=Qdk) Zrw) (a0:=Qf8) (y0:=Qfa) Zrv) (a0:=Qh8) (y0:=Qll) Zev)) (Lx.Q3 (PC.Q0 (Qdc 400).bare) (Lx.Q3 (PC.Q0 (Zcc 400).bare) (Lx.W4)))
def Za8:(Zi)×(Qz)×(Yd):=(opn,stS,(7960,bs [119,105,116,104,100,114,97,119],bs [97,109,121],bs [],bs [],bs [115,112,114,105,110,116],0,0,bs [],0,bs [],[]))
def Qwf:Int:=0
abbrev Ye:List Qe:=[.agg [.int .i64,.int .i64,.int .i64,.int .i64,.seq [.str,.str,.str,.int .i64,.int .i64,.int .i64,.int .i64,.str,.int .i64,.str,.int .i64]],.agg [.seq [.str],.seq [.str,.str,.int .i64,.str],.seq [.str,.int .i64,.int .i64],.seq [.str,.str,.str,.int .i64,.str,.int .i64,.bool],.seq [.str,.str,.seq [.str]]],.agg [.int .i64,.str,.str,.str,.str,.str,.int .i64,.int .i64,.str,.int .i64,.str,.seq [.str]]]
theorem Zfa:Z5 cx.bare U1 3000 .leaf f49 (Qv f49) Ye Q4 Za8=some Qwf:=by kernel_rfl
noncomputable def Qf9:PC:={ats:=Ye,rts:=Q4,code:=Go.Sx.one (ats:=Ye) (rts:=Q4) Za8 Qwf}
theorem Zf9:Qg cx.bare 49 Qf9:=Qg.Zs (Cx.Z9 Zt) Qa0 (n:=3000) (an:=.leaf) (fn:=f49) (c:=Qv f49) (by kernel_rfl) (by kernel_rfl) (fun a y h=>by obtain⟨h1,h2⟩:=Go.Sx.one_some h;subst h1;subst h2;exact Zfa) (by kernel_rfl)
def Qcy:(Zi)×(Qz)×(Yd):=(opn,stS,(7960,bs [116,101,97,109],bs [],bs [65],bs [],bs [114,101,108,97,121],0,0,bs [],0,bs [],[bs [97,110,110],bs [97,109,121]]))
def Qc7:Int:=0
theorem Zui:Z5 cx.bare U1 3000 .leaf f49 (Qv f49) Ye Q4 Qcy=some Qc7:=by kernel_rfl
noncomputable def Zw3:PC:={ats:=Ye,rts:=Q4,code:=Go.Sx.one (ats:=Ye) (rts:=Q4) Qcy Qc7}
theorem Zd7:Qg cx.bare 49 Zw3:=Qg.Zs (Cx.Z9 Zt) Qa0 (n:=3000) (an:=.leaf) (fn:=f49) (c:=Qv f49) (by kernel_rfl) (by kernel_rfl) (fun a y h=>by obtain⟨h1,h2⟩:=Go.Sx.one_some h;subst h1;subst h2;exact Zui) (by kernel_rfl)
def Qfh:(Zi)×(Qz)×(Yd):=(opn,stS,(8000,bs [99,104,101,99,107],bs [97,110,110],bs [],bs [],bs [115,112,114,105,110,116],0,0,bs [],0,bs [],[]))
def Qhm:Int:=0
theorem Zs1:Z5 cx.bare U1 3000 .leaf f49 (Qv f49) Ye Q4 Qfh=some Qhm:=by kernel_rfl
noncomputable def Zwq:PC:={ats:=Ye,rts:=Q4,code:=Go.Sx.one (ats:=Ye) (rts:=Q4) Qfh Qhm}
theorem Zmj:Qg cx.bare 49 Zwq:=Qg.Zs (Cx.Z9 Zt) Qa0 (n:=3000) (an:=.leaf) (fn:=f49) (c:=Qv f49) (by kernel_rfl) (by kernel_rfl) (fun a y h=>by obtain⟨h1,h2⟩:=Go.Sx.one_some h;subst h1;subst h2;exact Zs1) (by kernel_rfl)
def Ql1:(Zi)×(Qz)×(Yd):=(opn,stX,(8000,bs [99,104,101,99,107],bs [97,109,121],bs [],bs [],bs [115,112,114,105,110,116],0,0,bs [],0,bs [],[]))
def Qj1:Int:=0
theorem Zi8:Z5 cx.bare U1 3000 .leaf f49 (Qv f49) Ye Q4 Ql1=some Qj1:=by kernel_rfl
noncomputable def Zm0:PC:={ats:=Ye,rts:=Q4,code:=Go.Sx.one (ats:=Ye) (rts:=Q4) Ql1 Qj1}
theorem Zz5:Qg cx.bare 49 Zm0:=Qg.Zs (Cx.Z9 Zt) Qa0 (n:=3000) (an:=.leaf) (fn:=f49) (c:=Qv f49) (by kernel_rfl) (by kernel_rfl) (fun a y h=>by obtain⟨h1,h2⟩:=Go.Sx.one_some h;subst h1;subst h2;exact Zi8) (by kernel_rfl)
def Qw0:(Zi)×(Qz)×(Yd):=(opn,stT,(7960,bs [101,110,116,101,114],bs [97,109,121],bs [],bs [],bs [115,112,114,105,110,116],0,0,bs [116,105,109,101],125000,bs [],[]))
def Qzp:Int:=30
theorem Zsi:Z5 cx.bare U1 3000 .leaf f49 (Qv f49) Ye Q4 Qw0=some Qzp:=by kernel_rfl
noncomputable def Qh6:PC:={ats:=Ye,rts:=Q4,code:=Go.Sx.one (ats:=Ye) (rts:=Q4) Qw0 Qzp}
theorem Ztx:Qg cx.bare 49 Qh6:=Qg.Zs (Cx.Z9 Zt) Qa0 (n:=3000) (an:=.leaf) (fn:=f49) (c:=Qv f49) (by kernel_rfl) (by kernel_rfl) (fun a y h=>by obtain⟨h1,h2⟩:=Go.Sx.one_some h;subst h1;subst h2;exact Zsi) (by kernel_rfl)
def Qfb:(Zi)×(Qz)×(Yd):=(opn,stT,(7999,bs [101,110,116,101,114],bs [97,109,121],bs [],bs [],bs [115,112,114,105,110,116],0,0,bs [116,105,109,101],115000,bs [],[]))
def Qhn:Int:=19
theorem Zzf:Z5 cx.bare U1 3000 .leaf f49 (Qv f49) Ye Q4 Qfb=some Qhn:=by kernel_rfl
noncomputable def Zz3:PC:={ats:=Ye,rts:=Q4,code:=Go.Sx.one (ats:=Ye) (rts:=Q4) Qfb Qhn}
theorem Zw6:Qg cx.bare 49 Zz3:=Qg.Zs (Cx.Z9 Zt) Qa0 (n:=3000) (an:=.leaf) (fn:=f49) (c:=Qv f49) (by kernel_rfl) (by kernel_rfl) (fun a y h=>by obtain⟨h1,h2⟩:=Go.Sx.one_some h;subst h1;subst h2;exact Zzf) (by kernel_rfl)
def Qkw:(Zi)×(Qz)×(Yd):=(opn,stT,(7960,bs [116,101,97,109],bs [],bs [65],bs [],bs [114,101,108,97,121],0,0,bs [],0,bs [],[bs [97,110,110],bs [98,101,97]]))
def Qh4:Int:=18
theorem Zrs:Z5 cx.bare U1 3000 .leaf f49 (Qv f49) Ye Q4 Qkw=some Qh4:=by kernel_rfl
noncomputable def Zwg:PC:={ats:=Ye,rts:=Q4,code:=Go.Sx.one (ats:=Ye) (rts:=Q4) Qkw Qh4}
theorem Zsb:Qg cx.bare 49 Zwg:=Qg.Zs (Cx.Z9 Zt) Qa0 (n:=3000) (an:=.leaf) (fn:=f49) (c:=Qv f49) (by kernel_rfl) (by kernel_rfl) (fun a y h=>by obtain⟨h1,h2⟩:=Go.Sx.one_some h;subst h1;subst h2;exact Zrs) (by kernel_rfl)
noncomputable def Qpu:Lx:={ext:=[(150,(Qlr 400).sm),(199,(Qj0 400).sm),(200,(Qjm 400).sm),(201,(Qii 400).sm),(202,(Qka 400).sm)],anns:=[],still:=[]}
theorem Qu8:Qpu.Ok cx.bare:=Lx.Q3 (PF.Q0 (Qf6 400).bare) (Lx.Q3 (PF.Q0 (Qe5 400).bare) (Lx.Q3 (PF.Q0 (Qi9 400).bare) (Lx.Q3 (PF.Q0 (Qg8 400).bare) (Lx.Q3 (PF.Q0 (Qf3 400).bare) (Lx.W4)))))
def Qk6:Qz:=stS
def Qkh:Qz:=stS
abbrev Wq:List Qe:=[.agg [.seq [.str],.seq [.str,.str,.int .i64,.str],.seq [.str,.int .i64,.int .i64],.seq [.str,.str,.str,.int .i64,.str,.int .i64,.bool],.seq [.str,.str,.seq [.str]]]]
theorem Zfx:Z5 cx.bare Qpu 3000 .leaf f136 (Qv f136) Wq Wq Qk6=some Qkh:=by kernel_rfl
noncomputable def Zdo:PC:={ats:=Wq,rts:=Wq,code:=Go.Sx.one (ats:=Wq) (rts:=Wq) Qk6 Qkh}
theorem Zvf:Qg cx.bare 136 Zdo:=Qg.Zs (Cx.Z9 Zt) Qu8 (n:=3000) (an:=.leaf) (fn:=f136) (c:=Qv f136) (by kernel_rfl) (by kernel_rfl) (fun a y h=>by obtain⟨h1,h2⟩:=Go.Sx.one_some h;subst h1;subst h2;exact Zfx) (by kernel_rfl)
def Qxe:Qz:=stX
def Qvu:Qz:=stX
theorem Zn9:Z5 cx.bare Qpu 3000 .leaf f136 (Qv f136) Wq Wq Qxe=some Qvu:=by kernel_rfl
noncomputable def Qr5:PC:={ats:=Wq,rts:=Wq,code:=Go.Sx.one (ats:=Wq) (rts:=Wq) Qxe Qvu}
theorem Zlg:Qg cx.bare 136 Qr5:=Qg.Zs (Cx.Z9 Zt) Qu8 (n:=3000) (an:=.leaf) (fn:=f136) (c:=Qv f136) (by kernel_rfl) (by kernel_rfl) (fun a y h=>by obtain⟨h1,h2⟩:=Go.Sx.one_some h;subst h1;subst h2;exact Zn9) (by kernel_rfl)
noncomputable def Qhc:Lx:={ext:=[(49,(((Qf9.at Qcy Qc7).at Qfh Qhm).at Ql1 Qj1).sm),(136,(Qr5.at Qk6 Qkh).sm),(150,(Qlr 400).sm),(199,(Qj0 400).sm),(200,(Qjm 400).sm),(201,(Qii 400).sm),(202,(Qka 400).sm),(186,(Qq3 400).sm),(187,(Qq1 400).sm),(105,(Qoi 400).sm),(219,(Qny 400).sm)],anns:=[(217,Quq (Qv f217)),(2000219,.leaf)],still:=[]}
theorem Qlu:Qhc.Ok cx.bare:=Lx.Q3 (PC.Q0 (Qg.at2 (pc:=((Qf9.at Qcy Qc7).at Qfh Qhm)) (Qg.at2 (pc:=(Qf9.at Qcy Qc7)) (Qg.at2 (pc:=Qf9) Zf9 (a0:=Qcy) (y0:=Qc7) Zd7) (a0:=Qfh) (y0:=Qhm) Zmj) (a0:=Ql1) (y0:=Qj1) Zz5)) (Lx.Q3 (PC.Q0 (Qg.at2 (pc:=Qr5) Zlg (a0:=Qk6) (y0:=Qkh) Zvf)) (Lx.Q3 (PF.Q0 (Qf6 400).bare) (Lx.Q3 (PF.Q0 (Qe5 400).bare) (Lx.Q3 (PF.Q0 (Qi9 400).bare) (Lx.Q3 (PF.Q0 (Qg8 400).bare) (Lx.Q3 (PF.Q0 (Qf3 400).bare) (Lx.Q3 (PC.Q0 (U9 400).bare) (Lx.Q3 (PC.Q0 (Qlx 400).bare) (Lx.Q3 (PC.Q0 (Qp5 400).bare) (Lx.Q3 (PC.Q0 (Qrt 400).bare) (Lx.W4)))))))))))
def Qs3:(Zi)×(Qz)×(Yd):=(opn,stS,(7960,bs [119,105,116,104,100,114,97,119],bs [97,109,121],bs [],bs [],bs [115,112,114,105,110,116],0,0,bs [],0,bs [],[]))
def Qtq:(Qz)×Int:=(stT,0)
abbrev Wn:List Qe:=[.agg [.seq [.str],.seq [.str,.str,.int .i64,.str],.seq [.str,.int .i64,.int .i64],.seq [.str,.str,.str,.int .i64,.str,.int .i64,.bool],.seq [.str,.str,.seq [.str]]],.val (.int .i64)]
theorem Zde:Z5 cx.bare Qhc 3000 .leaf f50 (Qv f50) Ye Wn Qs3=some Qtq:=by kernel_rfl
noncomputable def Qgx:PC:={ats:=Ye,rts:=Wn,code:=Go.Sx.one (ats:=Ye) (rts:=Wn) Qs3 Qtq}
theorem Zpb:Qg cx.bare 50 Qgx:=Qg.Zs (Cx.Z9 Zt) Qlu (n:=3000) (an:=.leaf) (fn:=f50) (c:=Qv f50) (by kernel_rfl) (by kernel_rfl) (fun a y h=>by obtain⟨h1,h2⟩:=Go.Sx.one_some h;subst h1;subst h2;exact Zde) (by kernel_rfl)
def Qgv:(Zi)×(Qz)×(Yd):=(opn,stS,(8000,bs [99,104,101,99,107],bs [97,110,110],bs [],bs [],bs [115,112,114,105,110,116],0,0,bs [],0,bs [],[]))
def Qe8:(Qz)×Int:=(stX,0)
theorem Zqf:Z5 cx.bare Qhc 3000 .leaf f50 (Qv f50) Ye Wn Qgv=some Qe8:=by kernel_rfl
noncomputable def Zz2:PC:={ats:=Ye,rts:=Wn,code:=Go.Sx.one (ats:=Ye) (rts:=Wn) Qgv Qe8}
theorem Zsm:Qg cx.bare 50 Zz2:=Qg.Zs (Cx.Z9 Zt) Qlu (n:=3000) (an:=.leaf) (fn:=f50) (c:=Qv f50) (by kernel_rfl) (by kernel_rfl) (fun a y h=>by obtain⟨h1,h2⟩:=Go.Sx.one_some h;subst h1;subst h2;exact Zqf) (by kernel_rfl)
def Qiw:(Zi)×(Qz)×(Yd):=(opn,stX,(8000,bs [99,104,101,99,107],bs [97,109,121],bs [],bs [],bs [115,112,114,105,110,116],0,0,bs [],0,bs [],[]))
def Qla:(Qz)×Int:=(stY,0)
theorem Ze6:Z5 cx.bare Qhc 3000 .leaf f50 (Qv f50) Ye Wn Qiw=some Qla:=by kernel_rfl
noncomputable def Zhq:PC:={ats:=Ye,rts:=Wn,code:=Go.Sx.one (ats:=Ye) (rts:=Wn) Qiw Qla}
theorem Zte:Qg cx.bare 50 Zhq:=Qg.Zs (Cx.Z9 Zt) Qlu (n:=3000) (an:=.leaf) (fn:=f50) (c:=Qv f50) (by kernel_rfl) (by kernel_rfl) (fun a y h=>by obtain⟨h1,h2⟩:=Go.Sx.one_some h;subst h1;subst h2;exact Ze6) (by kernel_rfl)
def Qc9:(Zi)×(Qz)×(Yd):=(opn,stS,(7960,bs [116,101,97,109],bs [],bs [65],bs [],bs [114,101,108,97,121],0,0,bs [],0,bs [],[bs [97,110,110],bs [97,109,121]]))
def Qd0:(Qz)×Int:=(stU,0)
theorem Zid:Z5 cx.bare Qhc 3000 .leaf f50 (Qv f50) Ye Wn Qc9=some Qd0:=by kernel_rfl
noncomputable def Zjd:PC:={ats:=Ye,rts:=Wn,code:=Go.Sx.one (ats:=Ye) (rts:=Wn) Qc9 Qd0}
theorem Zq3:Qg cx.bare 50 Zjd:=Qg.Zs (Cx.Z9 Zt) Qlu (n:=3000) (an:=.leaf) (fn:=f50) (c:=Qv f50) (by kernel_rfl) (by kernel_rfl) (fun a y h=>by obtain⟨h1,h2⟩:=Go.Sx.one_some h;subst h1;subst h2;exact Zid) (by kernel_rfl)
noncomputable def Qpg:Lx:={ext:=[(23,(((((((((((Xm.at Js Ju).at Jx Wc).at Wt Wv).at Vt Vl).at Ko Kb).at Kw Kx).at Uz Uv).at Qa2 Qcb).at Qdn Qdv).at Qhw Qgb).at Qi5 Qi8).sm),(21,(Qqp 400).sm),(135,(Qpf 400).sm),(150,(Qlr 400).sm),(199,(Qj0 400).sm),(200,(Qjm 400).sm),(201,(Qii 400).sm),(202,(Qka 400).sm),(160,(Qy3 400).sm),(213,(Qwh 400).sm),(214,(Qzm 400).sm),(216,(Qu5 400).sm),(219,(Qny 400).sm),(186,(Qq3 400).sm),(187,(Qq1 400).sm),(110,(Qud 400).sm),(111,(Zah 400).sm),(105,(Qoi 400).sm)],anns:=[(2000219,.leaf),(217,Quq (Qv f217))],still:=[]}
theorem Qui:Qpg.Ok cx.bare:=Lx.Q3 (PC.Q0 (Qg.at2 (pc:=((((((((((Xm.at Js Ju).at Jx Wc).at Wt Wv).at Vt Vl).at Ko Kb).at Kw Kx).at Uz Uv).at Qa2 Qcb).at Qdn Qdv).at Qhw Qgb)) (Qg.at2 (pc:=(((((((((Xm.at Js Ju).at Jx Wc).at Wt Wv).at Vt Vl).at Ko Kb).at Kw Kx).at Uz Uv).at Qa2 Qcb).at Qdn Qdv)) (Qg.at2 (pc:=((((((((Xm.at Js Ju).at Jx Wc).at Wt Wv).at Vt Vl).at Ko Kb).at Kw Kx).at Uz Uv).at Qa2 Qcb)) (Qg.at2 (pc:=(((((((Xm.at Js Ju).at Jx Wc).at Wt Wv).at Vt Vl).at Ko Kb).at Kw Kx).at Uz Uv)) (Qg.at2 (pc:=((((((Xm.at Js Ju).at Jx Wc).at Wt Wv).at Vt Vl).at Ko Kb).at Kw Kx)) (Qg.at2 (pc:=(((((Xm.at Js Ju).at Jx Wc).at Wt Wv).at Vt Vl).at Ko Kb)) (Qg.at2 (pc:=((((Xm.at Js Ju).at Jx Wc).at Wt Wv).at Vt Vl)) (Qg.at2 (pc:=(((Xm.at Js Ju).at Jx Wc).at Wt Wv)) (Qg.at2 (pc:=((Xm.at Js Ju).at Jx Wc)) (Qg.at2 (pc:=(Xm.at Js Ju)) (Qg.at2 (pc:=Xm) Qyw (a0:=Js) (y0:=Ju) Zux) (a0:=Jx) (y0:=Wc) Zqq) (a0:=Wt) (y0:=Wv) Zlo) (a0:=Vt) (y0:=Vl) Zkn) (a0:=Ko) (y0:=Kb) Zu2) (a0:=Kw) (y0:=Kx) Zm3) (a0:=Uz) (y0:=Uv) Zuw) (a0:=Qa2) (y0:=Qcb) Zql) (a0:=Qdn) (y0:=Qdv) Zxt) (a0:=Qhw) (y0:=Qgb) Zvz) (a0:=Qi5) (y0:=Qi8) Zzl)) (Lx.Q3 (PC.Q0 (Qsb 400).bare) (Lx.Q3 (PC.Q0 (Zcc 400).bare) (Lx.Q3 (PF.Q0 (Qf6 400).bare) (Lx.Q3 (PF.Q0 (Qe5 400).bare) (Lx.Q3 (PF.Q0 (Qi9 400).bare) (Lx.Q3 (PF.Q0 (Qg8 400).bare) (Lx.Q3 (PF.Q0 (Qf3 400).bare) (Lx.Q3 (PC.Q0 (Qxg 400).bare) (Lx.Q3 (PC.Q0 (Qu4 400).bare) (Lx.Q3 (PC.Q0 (Qyb 400).bare) (Lx.Q3 (PC.Q0 (Qxa 400).bare) (Lx.Q3 (PC.Q0 (Qrt 400).bare) (Lx.Q3 (PC.Q0 (U9 400).bare) (Lx.Q3 (PC.Q0 (Qlx 400).bare) (Lx.Q3 (PC.Q0 (Xe 400).bare) (Lx.Q3 (PC.Q0 (Kv 400).bare) (Lx.Q3 (PC.Q0 (Qp5 400).bare) (Lx.W4))))))))))))))))))
def Qx8:(Zi)×List (Yd):=(opn,Qde)
def Qzq:(Qz)×List (Int×Int)×Int:=(stS,[],0)
abbrev Qeq:List Qe:=[.agg [.int .i64,.int .i64,.int .i64,.int .i64,.seq [.str,.str,.str,.int .i64,.int .i64,.int .i64,.int .i64,.str,.int .i64,.str,.int .i64]],.val (.seq [.int .i64,.str,.str,.str,.str,.str,.int .i64,.int .i64,.str,.int .i64,.str,.seq [.str]])]
abbrev Qdr:List Qe:=[.agg [.seq [.str],.seq [.str,.str,.int .i64,.str],.seq [.str,.int .i64,.int .i64],.seq [.str,.str,.str,.int .i64,.str,.int .i64,.bool],.seq [.str,.str,.seq [.str]]],.val (.seq [.int .i64,.int .i64]),.val (.int .i64)]
theorem Zmh:Z5 cx.bare Qpg 3000 .leaf f29 (Qv f29) Qeq Qdr Qx8=some Qzq:=by kernel_rfl
noncomputable def Qmo:PC:={ats:=Qeq,rts:=Qdr,code:=Go.Sx.one (ats:=Qeq) (rts:=Qdr) Qx8 Qzq}
theorem Qtu:Qg cx.bare 29 Qmo:=Qg.Zs (Cx.Z9 Zt) Qui (n:=3000) (an:=.leaf) (fn:=f29) (c:=Qv f29) (by kernel_rfl) (by kernel_rfl) (fun a y h=>by obtain⟨h1,h2⟩:=Go.Sx.one_some h;subst h1;subst h2;exact Zmh) (by kernel_rfl)
def Qiq:(Zi)×List (Yd):=(opn,Qde++[(7960,bs [119,105,116,104,100,114,97,119],bs [97,109,121],bs [],bs [],bs [115,112,114,105,110,116],0,0,bs [],0,bs [],[])])
def Qjv:(Qz)×List (Int×Int)×Int:=(stT,[],0)
theorem Zm4:Z5 cx.bare Qpg 3000 .leaf f29 (Qv f29) Qeq Qdr Qiq=some Qjv:=by kernel_rfl
noncomputable def Zut:PC:={ats:=Qeq,rts:=Qdr,code:=Go.Sx.one (ats:=Qeq) (rts:=Qdr) Qiq Qjv}
theorem Zc3:Qg cx.bare 29 Zut:=Qg.Zs (Cx.Z9 Zt) Qui (n:=3000) (an:=.leaf) (fn:=f29) (c:=Qv f29) (by kernel_rfl) (by kernel_rfl) (fun a y h=>by obtain⟨h1,h2⟩:=Go.Sx.one_some h;subst h1;subst h2;exact Zm4) (by kernel_rfl)
noncomputable def Qxl:Lx:={ext:=[(29,(Qmo.at Qiq Qjv).sm),(131,(Qz3 400).sm),(86,(Qxt 400).sm),(84,(Zag 400).sm),(139,(Qye 400).sm),(129,(Qqw 400).sm)],anns:=[],still:=[]}
theorem Zsz:Qxl.Ok cx.bare:=Lx.Q3 (PC.Q0 (Qg.at2 (pc:=Qmo) Qtu (a0:=Qiq) (y0:=Qjv) Zc3)) (Lx.Q3 (PC.Q0 (Qdl 400).bare) (Lx.Q3 (PC.Q0 (Ya 400).bare) (Lx.Q3 (PC.Q0 (Yi 400).bare) (Lx.Q3 (PC.Q0 (Qi7 400).bare) (Lx.Q3 (PC.Q0 (Qas 400).bare) (Lx.W4))))))
def Qzv:(Zi)×List (Yd)×List (Yd)×ByteArray:=(opn,Qde,Qde++[(7960,bs [119,105,116,104,100,114,97,119],bs [97,109,121],bs [],bs [],bs [115,112,114,105,110,116],0,0,bs [],0,bs [],[])],bs [115,112,114,105,110,116])
def Qu7:List ByteArray×Int:=([bs [97,109,121],bs [97,110,110]],0)
abbrev Qni:List Qe:=[.agg [.int .i64,.int .i64,.int .i64,.int .i64,.seq [.str,.str,.str,.int .i64,.int .i64,.int .i64,.int .i64,.str,.int .i64,.str,.int .i64]],.val (.seq [.int .i64,.str,.str,.str,.str,.str,.int .i64,.int .i64,.str,.int .i64,.str,.seq [.str]]),.val (.seq [.int .i64,.str,.str,.str,.str,.str,.int .i64,.int .i64,.str,.int .i64,.str,.seq [.str]]),.val .str]
theorem Zry:Z5 cx.bare Qxl 3000 .leaf f46 (Qv f46) Qni Jk Qzv=some Qu7:=by kernel_rfl
noncomputable def Qzn:PC:={ats:=Qni,rts:=Jk,code:=Go.Sx.one (ats:=Qni) (rts:=Jk) Qzv Qu7}
theorem Zld:Qg cx.bare 46 Qzn:=Qg.Zs (Cx.Z9 Zt) Zsz (n:=3000) (an:=.leaf) (fn:=f46) (c:=Qv f46) (by kernel_rfl) (by kernel_rfl) (fun a y h=>by obtain⟨h1,h2⟩:=Go.Sx.one_some h;subst h1;subst h2;exact Zry) (by kernel_rfl)
noncomputable def Qwc:Lx:={ext:=[(25,(Qr7 400).sm),(99,(Qmi 400).sm),(21,(Qqp 400).sm),(98,(Qje 400).sm),(129,(Qqw 400).sm),(126,(Qt2 400).sm),(137,(Qv8 400).sm),(138,(Qzb 400).sm)],anns:=[(148,.typ 6 106 [.str,.str,.str,.int .i64,.str,.int .i64,.bool] .leaf)],still:=[]}
theorem Zu5:Qwc.Ok cx.bare:=Lx.Q3 (PC.Q0 (Qdc 400).bare) (Lx.Q3 (PC.Q0 (Qee 400).bare) (Lx.Q3 (PC.Q0 (Qsb 400).bare) (Lx.Q3 (PC.Q0 (Qhi 400).bare) (Lx.Q3 (PC.Q0 (Qas 400).bare) (Lx.Q3 (PC.Q0 (Qd7 400).bare) (Lx.Q3 (PC.Q0 (Qfw 400).bare) (Lx.Q3 (PC.Q0 (Qpi 400).bare) (Lx.W4))))))))
def Zbz:(Zi)×(Qz)×ByteArray:=(opn,stY,bs [115,112,114,105,110,116])
def Zb3:List ByteArray×Int:=([bs [97,109,121]],0)
theorem Zgn:Z5 cx.bare Qwc 3000 .leaf f69 (Qv f69) Vr Jk Zbz=some Zb3:=by kernel_rfl
noncomputable def Za1:PC:={ats:=Vr,rts:=Jk,code:=Go.Sx.one (ats:=Vr) (rts:=Jk) Zbz Zb3}
theorem Zyh:Qg cx.bare 69 Za1:=Qg.Zs (Cx.Z9 Zt) Zu5 (n:=3000) (an:=.leaf) (fn:=f69) (c:=Qv f69) (by kernel_rfl) (by kernel_rfl) (fun a y h=>by obtain⟨h1,h2⟩:=Go.Sx.one_some h;subst h1;subst h2;exact Zgn) (by kernel_rfl)
end Go.Proofs.Tryz

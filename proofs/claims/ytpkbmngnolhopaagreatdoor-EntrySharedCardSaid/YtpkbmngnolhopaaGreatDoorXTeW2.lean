/- awake: CheckAct, Legal and Next at further acts awake: Replay and Changed at the examples And further parts. -/
import Derived.Test.YtpkbmngnolhopaaGreatDoorXTeO
set_option maxRecDepth 1000000
set_option linter.unusedVariables false
namespace Go.Proofs.Tryz
open Go Go.Sx
noncomputable def Qad:Lx:={ext:=[(98,(Qjq 400).sm),(99,(Qlp 400).sm)],anns:=[],still:=[]}
theorem Qb4:Qad.Ok cx.bare:=Lx.Q3 (PC.Q0 (Qff 400).bare) (Lx.Q3 (PC.Q0 (Qdq 400).bare) (Lx.W3))
def Qyf:(Yc):=(7960,bs [119,105,116,104,100,114,97,119],bs [97,109,121],bs [],bs [],bs [115,112,114,105,110,116],0,0,bs [],0,bs [],[])
def Qtl:Int:=0
theorem Zos:Z5 cx.bare Qad 3000 .leaf f23 (Qv f23) Zo Q4 Qyf=some Qtl:=by kernel_rfl
noncomputable def Xm:PC:={ats:=Zo,rts:=Q4,code:=Go.Sx.one (ats:=Zo) (rts:=Q4) Qyf Qtl}
theorem Qyy:Qg cx.bare 23 Xm:=Qg.Zs (Cx.Z9 Zt) Qb4 (n:=3000) (an:=.leaf) (fn:=f23) (c:=Qv f23) (by kernel_rfl) (by kernel_rfl) (fun a y h=>by obtain⟨h1,h2⟩:=Go.Sx.one_some h;subst h1;subst h2;exact Zos) (by kernel_rfl)
def Ku:(Yc):=(7960,bs [116,101,97,109],bs [],bs [65],bs [],bs [114,101,108,97,121],0,0,bs [],0,bs [],[bs [97,110,110],bs [97,109,121]])
def Ky:Int:=0
theorem Zh1:Z5 cx.bare Qad 3000 .leaf f23 (Qv f23) Zo Q4 Ku=some Ky:=by kernel_rfl
noncomputable def Zfx:PC:={ats:=Zo,rts:=Q4,code:=Go.Sx.one (ats:=Zo) (rts:=Q4) Ku Ky}
theorem Ztg:Qg cx.bare 23 Zfx:=Qg.Zs (Cx.Z9 Zt) Qb4 (n:=3000) (an:=.leaf) (fn:=f23) (c:=Qv f23) (by kernel_rfl) (by kernel_rfl) (fun a y h=>by obtain⟨h1,h2⟩:=Go.Sx.one_some h;subst h1;subst h2;exact Zh1) (by kernel_rfl)
def Qai:(Yc):=(8000,bs [99,104,101,99,107],bs [97,110,110],bs [],bs [],bs [115,112,114,105,110,116],0,0,bs [],0,bs [],[])
def U0:Int:=0
theorem Zna:Z5 cx.bare Qad 3000 .leaf f23 (Qv f23) Zo Q4 Qai=some U0:=by kernel_rfl
noncomputable def Zxv:PC:={ats:=Zo,rts:=Q4,code:=Go.Sx.one (ats:=Zo) (rts:=Q4) Qai U0}
theorem Zqs:Qg cx.bare 23 Zxv:=Qg.Zs (Cx.Z9 Zt) Qb4 (n:=3000) (an:=.leaf) (fn:=f23) (c:=Qv f23) (by kernel_rfl) (by kernel_rfl) (fun a y h=>by obtain⟨h1,h2⟩:=Go.Sx.one_some h;subst h1;subst h2;exact Zna) (by kernel_rfl)
def Qbu:(Yc):=(8000,bs [99,104,101,99,107],bs [97,109,121],bs [],bs [],bs [115,112,114,105,110,116],0,0,bs [],0,bs [],[])
def Qby:Int:=0
theorem Zks:Z5 cx.bare Qad 3000 .leaf f23 (Qv f23) Zo Q4 Qbu=some Qby:=by kernel_rfl
noncomputable def Zk2:PC:={ats:=Zo,rts:=Q4,code:=Go.Sx.one (ats:=Zo) (rts:=Q4) Qbu Qby}
theorem Zng:Qg cx.bare 23 Zk2:=Qg.Zs (Cx.Z9 Zt) Qb4 (n:=3000) (an:=.leaf) (fn:=f23) (c:=Qv f23) (by kernel_rfl) (by kernel_rfl) (fun a y h=>by obtain⟨h1,h2⟩:=Go.Sx.one_some h;subst h1;subst h2;exact Zks) (by kernel_rfl)
def Qd4:(Yc):=(7960,bs [101,110,116,101,114],bs [97,109,121],bs [],bs [],bs [115,112,114,105,110,116],0,0,bs [116,105,109,101],125000,bs [],[])
def Qec:Int:=0
theorem Zo2:Z5 cx.bare Qad 3000 .leaf f23 (Qv f23) Zo Q4 Qd4=some Qec:=by kernel_rfl
noncomputable def Ziw:PC:={ats:=Zo,rts:=Q4,code:=Go.Sx.one (ats:=Zo) (rts:=Q4) Qd4 Qec}
theorem Zv6:Qg cx.bare 23 Ziw:=Qg.Zs (Cx.Z9 Zt) Qb4 (n:=3000) (an:=.leaf) (fn:=f23) (c:=Qv f23) (by kernel_rfl) (by kernel_rfl) (fun a y h=>by obtain⟨h1,h2⟩:=Go.Sx.one_some h;subst h1;subst h2;exact Zo2) (by kernel_rfl)
def Qg8:(Yc):=(7999,bs [101,110,116,101,114],bs [97,109,121],bs [],bs [],bs [115,112,114,105,110,116],0,0,bs [116,105,109,101],115000,bs [],[])
def Qfx:Int:=0
theorem Ze9:Z5 cx.bare Qad 3000 .leaf f23 (Qv f23) Zo Q4 Qg8=some Qfx:=by kernel_rfl
noncomputable def Zor:PC:={ats:=Zo,rts:=Q4,code:=Go.Sx.one (ats:=Zo) (rts:=Q4) Qg8 Qfx}
theorem Zgb:Qg cx.bare 23 Zor:=Qg.Zs (Cx.Z9 Zt) Qb4 (n:=3000) (an:=.leaf) (fn:=f23) (c:=Qv f23) (by kernel_rfl) (by kernel_rfl) (fun a y h=>by obtain⟨h1,h2⟩:=Go.Sx.one_some h;subst h1;subst h2;exact Ze9) (by kernel_rfl)
def Qj0:(Yc):=(7960,bs [116,101,97,109],bs [],bs [65],bs [],bs [114,101,108,97,121],0,0,bs [],0,bs [],[bs [97,110,110],bs [98,101,97]])
def Qje:Int:=0
theorem Zp2:Z5 cx.bare Qad 3000 .leaf f23 (Qv f23) Zo Q4 Qj0=some Qje:=by kernel_rfl
noncomputable def Zc7:PC:={ats:=Zo,rts:=Q4,code:=Go.Sx.one (ats:=Zo) (rts:=Q4) Qj0 Qje}
theorem Zs3:Qg cx.bare 23 Zc7:=Qg.Zs (Cx.Z9 Zt) Qb4 (n:=3000) (an:=.leaf) (fn:=f23) (c:=Qv f23) (by kernel_rfl) (by kernel_rfl) (fun a y h=>by obtain⟨h1,h2⟩:=Go.Sx.one_some h;subst h1;subst h2;exact Zp2) (by kernel_rfl)
noncomputable def Qal:Lx:={ext:=[(23,((((((Xm.at Ku Ky).at Qai U0).at Qbu Qby).at Qd4 Qec).at Qg8 Qfx).at Qj0 Qje).sm),(25,(Qpb 400).sm),(135,(Qqa 400).sm)],anns:=[],still:=[]}
theorem Qb3:Qal.Ok cx.bare:=Lx.Q3 (PC.Q0 (Qg.at2 (pc:=(((((Xm.at Ku Ky).at Qai U0).at Qbu Qby).at Qd4 Qec).at Qg8 Qfx)) (Qg.at2 (pc:=((((Xm.at Ku Ky).at Qai U0).at Qbu Qby).at Qd4 Qec)) (Qg.at2 (pc:=(((Xm.at Ku Ky).at Qai U0).at Qbu Qby)) (Qg.at2 (pc:=((Xm.at Ku Ky).at Qai U0)) (Qg.at2 (pc:=(Xm.at Ku Ky)) (Qg.at2 (pc:=Xm) Qyy (a0:=Ku) (y0:=Ky) Ztg) (a0:=Qai) (y0:=U0) Zqs) (a0:=Qbu) (y0:=Qby) Zng) (a0:=Qd4) (y0:=Qec) Zv6) (a0:=Qg8) (y0:=Qfx) Zgb) (a0:=Qj0) (y0:=Qje) Zs3)) (Lx.Q3 (PC.Q0 (Qc6 400).bare) (Lx.Q3 (PC.Q0 (Qye 400).bare) (Lx.W3)))
def Qw3:(Zi)×(Qz)×(Yc):=(opn,stS,(7960,bs [119,105,116,104,100,114,97,119],bs [97,109,121],bs [],bs [],bs [115,112,114,105,110,116],0,0,bs [],0,bs [],[]))
def Qto:Int:=0
abbrev Ye:List Qe:=[.agg [.int .i64,.int .i64,.int .i64,.int .i64,.seq [.str,.str,.str,.int .i64,.int .i64,.int .i64,.int .i64,.str,.int .i64,.str,.int .i64]],.agg [.seq [.str],.seq [.str,.str,.int .i64,.str],.seq [.str,.int .i64,.int .i64],.seq [.str,.str,.str,.int .i64,.str,.int .i64,.bool],.seq [.str,.str,.seq [.str]]],.agg [.int .i64,.str,.str,.str,.str,.str,.int .i64,.int .i64,.str,.int .i64,.str,.seq [.str]]]
theorem Zj2:Z5 cx.bare Qal 3000 .leaf f49 (Qv f49) Ye Q4 Qw3=some Qto:=by kernel_rfl
noncomputable def Qgq:PC:={ats:=Ye,rts:=Q4,code:=Go.Sx.one (ats:=Ye) (rts:=Q4) Qw3 Qto}
theorem Zjt:Qg cx.bare 49 Qgq:=Qg.Zs (Cx.Z9 Zt) Qb3 (n:=3000) (an:=.leaf) (fn:=f49) (c:=Qv f49) (by kernel_rfl) (by kernel_rfl) (fun a y h=>by obtain⟨h1,h2⟩:=Go.Sx.one_some h;subst h1;subst h2;exact Zj2) (by kernel_rfl)
def Qc0:(Zi)×(Qz)×(Yc):=(opn,stS,(7960,bs [116,101,97,109],bs [],bs [65],bs [],bs [114,101,108,97,121],0,0,bs [],0,bs [],[bs [97,110,110],bs [97,109,121]]))
def Qde:Int:=0
theorem Zs8:Z5 cx.bare Qal 3000 .leaf f49 (Qv f49) Ye Q4 Qc0=some Qde:=by kernel_rfl
noncomputable def Zmi:PC:={ats:=Ye,rts:=Q4,code:=Go.Sx.one (ats:=Ye) (rts:=Q4) Qc0 Qde}
theorem Zhm:Qg cx.bare 49 Zmi:=Qg.Zs (Cx.Z9 Zt) Qb3 (n:=3000) (an:=.leaf) (fn:=f49) (c:=Qv f49) (by kernel_rfl) (by kernel_rfl) (fun a y h=>by obtain⟨h1,h2⟩:=Go.Sx.one_some h;subst h1;subst h2;exact Zs8) (by kernel_rfl)
def Qgi:(Zi)×(Qz)×(Yc):=(opn,stS,(8000,bs [99,104,101,99,107],bs [97,110,110],bs [],bs [],bs [115,112,114,105,110,116],0,0,bs [],0,bs [],[]))
def Qhp:Int:=0
theorem Zn8:Z5 cx.bare Qal 3000 .leaf f49 (Qv f49) Ye Q4 Qgi=some Qhp:=by kernel_rfl
noncomputable def Zlq:PC:={ats:=Ye,rts:=Q4,code:=Go.Sx.one (ats:=Ye) (rts:=Q4) Qgi Qhp}
theorem Zy0:Qg cx.bare 49 Zlq:=Qg.Zs (Cx.Z9 Zt) Qb3 (n:=3000) (an:=.leaf) (fn:=f49) (c:=Qv f49) (by kernel_rfl) (by kernel_rfl) (fun a y h=>by obtain⟨h1,h2⟩:=Go.Sx.one_some h;subst h1;subst h2;exact Zn8) (by kernel_rfl)
def Qk8:(Zi)×(Qz)×(Yc):=(opn,stX,(8000,bs [99,104,101,99,107],bs [97,109,121],bs [],bs [],bs [115,112,114,105,110,116],0,0,bs [],0,bs [],[]))
def Qmr:Int:=0
theorem Zhw:Z5 cx.bare Qal 3000 .leaf f49 (Qv f49) Ye Q4 Qk8=some Qmr:=by kernel_rfl
noncomputable def Zzv:PC:={ats:=Ye,rts:=Q4,code:=Go.Sx.one (ats:=Ye) (rts:=Q4) Qk8 Qmr}
theorem Zrh:Qg cx.bare 49 Zzv:=Qg.Zs (Cx.Z9 Zt) Qb3 (n:=3000) (an:=.leaf) (fn:=f49) (c:=Qv f49) (by kernel_rfl) (by kernel_rfl) (fun a y h=>by obtain⟨h1,h2⟩:=Go.Sx.one_some h;subst h1;subst h2;exact Zhw) (by kernel_rfl)
def Qx4:(Zi)×(Qz)×(Yc):=(opn,stT,(7960,bs [101,110,116,101,114],bs [97,109,121],bs [],bs [],bs [115,112,114,105,110,116],0,0,bs [116,105,109,101],125000,bs [],[]))
def Qyk:Int:=30
theorem Zo1:Z5 cx.bare Qal 3000 .leaf f49 (Qv f49) Ye Q4 Qx4=some Qyk:=by kernel_rfl
noncomputable def Qir:PC:={ats:=Ye,rts:=Q4,code:=Go.Sx.one (ats:=Ye) (rts:=Q4) Qx4 Qyk}
theorem Zog:Qg cx.bare 49 Qir:=Qg.Zs (Cx.Z9 Zt) Qb3 (n:=3000) (an:=.leaf) (fn:=f49) (c:=Qv f49) (by kernel_rfl) (by kernel_rfl) (fun a y h=>by obtain⟨h1,h2⟩:=Go.Sx.one_some h;subst h1;subst h2;exact Zo1) (by kernel_rfl)
def Qfq:(Zi)×(Qz)×(Yc):=(opn,stT,(7999,bs [101,110,116,101,114],bs [97,109,121],bs [],bs [],bs [115,112,114,105,110,116],0,0,bs [116,105,109,101],115000,bs [],[]))
def Qew:Int:=19
theorem Yah:Z5 cx.bare Qal 3000 .leaf f49 (Qv f49) Ye Q4 Qfq=some Qew:=by kernel_rfl
noncomputable def Zmd:PC:={ats:=Ye,rts:=Q4,code:=Go.Sx.one (ats:=Ye) (rts:=Q4) Qfq Qew}
theorem Zd3:Qg cx.bare 49 Zmd:=Qg.Zs (Cx.Z9 Zt) Qb3 (n:=3000) (an:=.leaf) (fn:=f49) (c:=Qv f49) (by kernel_rfl) (by kernel_rfl) (fun a y h=>by obtain⟨h1,h2⟩:=Go.Sx.one_some h;subst h1;subst h2;exact Yah) (by kernel_rfl)
def Qki:(Zi)×(Qz)×(Yc):=(opn,stT,(7960,bs [116,101,97,109],bs [],bs [65],bs [],bs [114,101,108,97,121],0,0,bs [],0,bs [],[bs [97,110,110],bs [98,101,97]]))
def Qjz:Int:=18
theorem Zwh:Z5 cx.bare Qal 3000 .leaf f49 (Qv f49) Ye Q4 Qki=some Qjz:=by kernel_rfl
noncomputable def Zka:PC:={ats:=Ye,rts:=Q4,code:=Go.Sx.one (ats:=Ye) (rts:=Q4) Qki Qjz}
theorem Zv9:Qg cx.bare 49 Zka:=Qg.Zs (Cx.Z9 Zt) Qb3 (n:=3000) (an:=.leaf) (fn:=f49) (c:=Qv f49) (by kernel_rfl) (by kernel_rfl) (fun a y h=>by obtain⟨h1,h2⟩:=Go.Sx.one_some h;subst h1;subst h2;exact Zwh) (by kernel_rfl)
noncomputable def Qon:Lx:={ext:=[(150,(Qjb 400).sm),(199,(Ql7 400).sm),(200,(Qi8 400).sm),(201,(Qmj 400).sm),(202,(Qik 400).sm)],anns:=[],still:=[]}
theorem Qw9:Qon.Ok cx.bare:=Lx.Q3 (PF.Q0 (Qf6 400).bare) (Lx.Q3 (PF.Q0 (Qhl 400).bare) (Lx.Q3 (PF.Q0 (Qke 400).bare) (Lx.Q3 (PF.Q0 (Qgb 400).bare) (Lx.Q3 (PF.Q0 (Qgp 400).bare) (Lx.W3)))))
def Qic:Qz:=stS
def Qj3:Qz:=stS
abbrev Ws:List Qe:=[.agg [.seq [.str],.seq [.str,.str,.int .i64,.str],.seq [.str,.int .i64,.int .i64],.seq [.str,.str,.str,.int .i64,.str,.int .i64,.bool],.seq [.str,.str,.seq [.str]]]]
theorem Zsb:Z5 cx.bare Qon 3000 .leaf f136 (Qv f136) Ws Ws Qic=some Qj3:=by kernel_rfl
noncomputable def Zm6:PC:={ats:=Ws,rts:=Ws,code:=Go.Sx.one (ats:=Ws) (rts:=Ws) Qic Qj3}
theorem Zw6:Qg cx.bare 136 Zm6:=Qg.Zs (Cx.Z9 Zt) Qw9 (n:=3000) (an:=.leaf) (fn:=f136) (c:=Qv f136) (by kernel_rfl) (by kernel_rfl) (fun a y h=>by obtain⟨h1,h2⟩:=Go.Sx.one_some h;subst h1;subst h2;exact Zsb) (by kernel_rfl)
def Zal:Qz:=stX
def Qv6:Qz:=stX
theorem Zw7:Z5 cx.bare Qon 3000 .leaf f136 (Qv f136) Ws Ws Zal=some Qv6:=by kernel_rfl
noncomputable def Qre:PC:={ats:=Ws,rts:=Ws,code:=Go.Sx.one (ats:=Ws) (rts:=Ws) Zal Qv6}
theorem Zsm:Qg cx.bare 136 Qre:=Qg.Zs (Cx.Z9 Zt) Qw9 (n:=3000) (an:=.leaf) (fn:=f136) (c:=Qv f136) (by kernel_rfl) (by kernel_rfl) (fun a y h=>by obtain⟨h1,h2⟩:=Go.Sx.one_some h;subst h1;subst h2;exact Zw7) (by kernel_rfl)
noncomputable def Qev:Lx:={ext:=[(49,(((Qgq.at Qc0 Qde).at Qgi Qhp).at Qk8 Qmr).sm),(136,(Qre.at Qic Qj3).sm),(150,(Qjb 400).sm),(199,(Ql7 400).sm),(200,(Qi8 400).sm),(201,(Qmj 400).sm),(202,(Qik 400).sm),(186,(Qnj 400).sm),(187,(Qn6 400).sm),(105,(Qof 400).sm),(219,(Qnz 400).sm)],anns:=[(217,Qvx (Qv f217)),(2000219,.leaf)],still:=[]}
theorem Qix:Qev.Ok cx.bare:=Lx.Q3 (PC.Q0 (Qg.at2 (pc:=((Qgq.at Qc0 Qde).at Qgi Qhp)) (Qg.at2 (pc:=(Qgq.at Qc0 Qde)) (Qg.at2 (pc:=Qgq) Zjt (a0:=Qc0) (y0:=Qde) Zhm) (a0:=Qgi) (y0:=Qhp) Zy0) (a0:=Qk8) (y0:=Qmr) Zrh)) (Lx.Q3 (PC.Q0 (Qg.at2 (pc:=Qre) Zsm (a0:=Qic) (y0:=Qj3) Zw6)) (Lx.Q3 (PF.Q0 (Qf6 400).bare) (Lx.Q3 (PF.Q0 (Qhl 400).bare) (Lx.Q3 (PF.Q0 (Qke 400).bare) (Lx.Q3 (PF.Q0 (Qgb 400).bare) (Lx.Q3 (PF.Q0 (Qgp 400).bare) (Lx.Q3 (PC.Q0 (Qaa 400).bare) (Lx.Q3 (PC.Q0 (Qko 400).bare) (Lx.Q3 (PC.Q0 (Qq9 400).bare) (Lx.Q3 (PC.Q0 (Qqf 400).bare) (Lx.W3)))))))))))
def Zbw:(Zi)×(Qz)×(Yc):=(opn,stS,(7960,bs [119,105,116,104,100,114,97,119],bs [97,109,121],bs [],bs [],bs [115,112,114,105,110,116],0,0,bs [],0,bs [],[]))
def Qwz:(Qz)×Int:=(stT,0)
abbrev Wv:List Qe:=[.agg [.seq [.str],.seq [.str,.str,.int .i64,.str],.seq [.str,.int .i64,.int .i64],.seq [.str,.str,.str,.int .i64,.str,.int .i64,.bool],.seq [.str,.str,.seq [.str]]],.val (.int .i64)]
theorem Zqm:Z5 cx.bare Qev 3000 .leaf f50 (Qv f50) Ye Wv Zbw=some Qwz:=by kernel_rfl
noncomputable def Qe5:PC:={ats:=Ye,rts:=Wv,code:=Go.Sx.one (ats:=Ye) (rts:=Wv) Zbw Qwz}
theorem Zpq:Qg cx.bare 50 Qe5:=Qg.Zs (Cx.Z9 Zt) Qix (n:=3000) (an:=.leaf) (fn:=f50) (c:=Qv f50) (by kernel_rfl) (by kernel_rfl) (fun a y h=>by obtain⟨h1,h2⟩:=Go.Sx.one_some h;subst h1;subst h2;exact Zqm) (by kernel_rfl)
def Qgn:(Zi)×(Qz)×(Yc):=(opn,stS,(8000,bs [99,104,101,99,107],bs [97,110,110],bs [],bs [],bs [115,112,114,105,110,116],0,0,bs [],0,bs [],[]))
def Qf0:(Qz)×Int:=(stX,0)
theorem Zki:Z5 cx.bare Qev 3000 .leaf f50 (Qv f50) Ye Wv Qgn=some Qf0:=by kernel_rfl
noncomputable def Zp1:PC:={ats:=Ye,rts:=Wv,code:=Go.Sx.one (ats:=Ye) (rts:=Wv) Qgn Qf0}
theorem Ziq:Qg cx.bare 50 Zp1:=Qg.Zs (Cx.Z9 Zt) Qix (n:=3000) (an:=.leaf) (fn:=f50) (c:=Qv f50) (by kernel_rfl) (by kernel_rfl) (fun a y h=>by obtain⟨h1,h2⟩:=Go.Sx.one_some h;subst h1;subst h2;exact Zki) (by kernel_rfl)
def Qim:(Zi)×(Qz)×(Yc):=(opn,stX,(8000,bs [99,104,101,99,107],bs [97,109,121],bs [],bs [],bs [115,112,114,105,110,116],0,0,bs [],0,bs [],[]))
def Qkp:(Qz)×Int:=(stY,0)
theorem Zeu:Z5 cx.bare Qev 3000 .leaf f50 (Qv f50) Ye Wv Qim=some Qkp:=by kernel_rfl
noncomputable def Zwi:PC:={ats:=Ye,rts:=Wv,code:=Go.Sx.one (ats:=Ye) (rts:=Wv) Qim Qkp}
theorem Zzj:Qg cx.bare 50 Zwi:=Qg.Zs (Cx.Z9 Zt) Qix (n:=3000) (an:=.leaf) (fn:=f50) (c:=Qv f50) (by kernel_rfl) (by kernel_rfl) (fun a y h=>by obtain⟨h1,h2⟩:=Go.Sx.one_some h;subst h1;subst h2;exact Zeu) (by kernel_rfl)
def Qef:(Zi)×(Qz)×(Yc):=(opn,stS,(7960,bs [116,101,97,109],bs [],bs [65],bs [],bs [114,101,108,97,121],0,0,bs [],0,bs [],[bs [97,110,110],bs [97,109,121]]))
def Qdr:(Qz)×Int:=(stU,0)
theorem Zzl:Z5 cx.bare Qev 3000 .leaf f50 (Qv f50) Ye Wv Qef=some Qdr:=by kernel_rfl
noncomputable def Zg1:PC:={ats:=Ye,rts:=Wv,code:=Go.Sx.one (ats:=Ye) (rts:=Wv) Qef Qdr}
theorem Zqv:Qg cx.bare 50 Zg1:=Qg.Zs (Cx.Z9 Zt) Qix (n:=3000) (an:=.leaf) (fn:=f50) (c:=Qv f50) (by kernel_rfl) (by kernel_rfl) (fun a y h=>by obtain⟨h1,h2⟩:=Go.Sx.one_some h;subst h1;subst h2;exact Zzl) (by kernel_rfl)
noncomputable def Qq6:Lx:={ext:=[(23,(((((((((((Xm.at Jr Jt).at Wd Jx).at Wy Wk).at W6 Vs).at V6 V7).at Kx Ua).at U4 Qah).at Qbs Qay).at Qdf Qen).at Qhi Qf1).at Qlg Qji).sm),(21,(Qnl 400).sm),(135,(Qqa 400).sm),(150,(Qjb 400).sm),(199,(Ql7 400).sm),(200,(Qi8 400).sm),(201,(Qmj 400).sm),(202,(Qik 400).sm),(160,(Qyb 400).sm),(213,(Qvq 400).sm),(214,(Qx8 400).sm),(216,(Qvd 400).sm),(219,(Qnz 400).sm),(186,(Qnj 400).sm),(187,(Qn6 400).sm),(110,(Qv5 400).sm),(111,(Zau 400).sm),(105,(Qof 400).sm)],anns:=[(2000219,.leaf),(217,Qvx (Qv f217))],still:=[]}
theorem Qxr:Qq6.Ok cx.bare:=Lx.Q3 (PC.Q0 (Qg.at2 (pc:=((((((((((Xm.at Jr Jt).at Wd Jx).at Wy Wk).at W6 Vs).at V6 V7).at Kx Ua).at U4 Qah).at Qbs Qay).at Qdf Qen).at Qhi Qf1)) (Qg.at2 (pc:=(((((((((Xm.at Jr Jt).at Wd Jx).at Wy Wk).at W6 Vs).at V6 V7).at Kx Ua).at U4 Qah).at Qbs Qay).at Qdf Qen)) (Qg.at2 (pc:=((((((((Xm.at Jr Jt).at Wd Jx).at Wy Wk).at W6 Vs).at V6 V7).at Kx Ua).at U4 Qah).at Qbs Qay)) (Qg.at2 (pc:=(((((((Xm.at Jr Jt).at Wd Jx).at Wy Wk).at W6 Vs).at V6 V7).at Kx Ua).at U4 Qah)) (Qg.at2 (pc:=((((((Xm.at Jr Jt).at Wd Jx).at Wy Wk).at W6 Vs).at V6 V7).at Kx Ua)) (Qg.at2 (pc:=(((((Xm.at Jr Jt).at Wd Jx).at Wy Wk).at W6 Vs).at V6 V7)) (Qg.at2 (pc:=((((Xm.at Jr Jt).at Wd Jx).at Wy Wk).at W6 Vs)) (Qg.at2 (pc:=(((Xm.at Jr Jt).at Wd Jx).at Wy Wk)) (Qg.at2 (pc:=((Xm.at Jr Jt).at Wd Jx)) (Qg.at2 (pc:=(Xm.at Jr Jt)) (Qg.at2 (pc:=Xm) Qyy (a0:=Jr) (y0:=Jt) Zg5) (a0:=Wd) (y0:=Jx) Zn5) (a0:=Wy) (y0:=Wk) Zmr) (a0:=W6) (y0:=Vs) Zq9) (a0:=V6) (y0:=V7) Zdd) (a0:=Kx) (y0:=Ua) Zgc) (a0:=U4) (y0:=Qah) Zfy) (a0:=Qbs) (y0:=Qay) Zwy) (a0:=Qdf) (y0:=Qen) Znf) (a0:=Qhi) (y0:=Qf1) Ze7) (a0:=Qlg) (y0:=Qji) Zea)) (Lx.Q3 (PC.Q0 (Qnf 400).bare) (Lx.Q3 (PC.Q0 (Qye 400).bare) (Lx.Q3 (PF.Q0 (Qf6 400).bare) (Lx.Q3 (PF.Q0 (Qhl 400).bare) (Lx.Q3 (PF.Q0 (Qke 400).bare) (Lx.Q3 (PF.Q0 (Qgb 400).bare) (Lx.Q3 (PF.Q0 (Qgp 400).bare) (Lx.Q3 (PC.Q0 (Qzf 400).bare) (Lx.Q3 (PC.Q0 (Qvj 400).bare) (Lx.Q3 (PC.Q0 (Qud 400).bare) (Lx.Q3 (PC.Q0 (Qxe 400).bare) (Lx.Q3 (PC.Q0 (Qqf 400).bare) (Lx.Q3 (PC.Q0 (Qaa 400).bare) (Lx.Q3 (PC.Q0 (Qko 400).bare) (Lx.Q3 (PC.Q0 (Xc 400).bare) (Lx.Q3 (PC.Q0 (K4 400).bare) (Lx.Q3 (PC.Q0 (Qq9 400).bare) (Lx.W3))))))))))))))))))
def Qve:(Zi)×List (Yc):=(opn,Qdv)
def Qw0:(Qz)×List (Int×Int)×Int:=(stS,[],0)
abbrev Qds:List Qe:=[.agg [.int .i64,.int .i64,.int .i64,.int .i64,.seq [.str,.str,.str,.int .i64,.int .i64,.int .i64,.int .i64,.str,.int .i64,.str,.int .i64]],.val (.seq [.int .i64,.str,.str,.str,.str,.str,.int .i64,.int .i64,.str,.int .i64,.str,.seq [.str]])]
abbrev Qdp:List Qe:=[.agg [.seq [.str],.seq [.str,.str,.int .i64,.str],.seq [.str,.int .i64,.int .i64],.seq [.str,.str,.str,.int .i64,.str,.int .i64,.bool],.seq [.str,.str,.seq [.str]]],.val (.seq [.int .i64,.int .i64]),.val (.int .i64)]
theorem Zfq:Z5 cx.bare Qq6 3000 .leaf f29 (Qv f29) Qds Qdp Qve=some Qw0:=by kernel_rfl
noncomputable def Qif:PC:={ats:=Qds,rts:=Qdp,code:=Go.Sx.one (ats:=Qds) (rts:=Qdp) Qve Qw0}
theorem Qs3:Qg cx.bare 29 Qif:=Qg.Zs (Cx.Z9 Zt) Qxr (n:=3000) (an:=.leaf) (fn:=f29) (c:=Qv f29) (by kernel_rfl) (by kernel_rfl) (fun a y h=>by obtain⟨h1,h2⟩:=Go.Sx.one_some h;subst h1;subst h2;exact Zfq) (by kernel_rfl)
def Ql3:(Zi)×List (Yc):=(opn,Qdv++[(7960,bs [119,105,116,104,100,114,97,119],bs [97,109,121],bs [],bs [],bs [115,112,114,105,110,116],0,0,bs [],0,bs [],[])])
def Qk2:(Qz)×List (Int×Int)×Int:=(stT,[],0)
theorem Zo5:Z5 cx.bare Qq6 3000 .leaf f29 (Qv f29) Qds Qdp Ql3=some Qk2:=by kernel_rfl
noncomputable def Zlv:PC:={ats:=Qds,rts:=Qdp,code:=Go.Sx.one (ats:=Qds) (rts:=Qdp) Ql3 Qk2}
theorem Zh7:Qg cx.bare 29 Zlv:=Qg.Zs (Cx.Z9 Zt) Qxr (n:=3000) (an:=.leaf) (fn:=f29) (c:=Qv f29) (by kernel_rfl) (by kernel_rfl) (fun a y h=>by obtain⟨h1,h2⟩:=Go.Sx.one_some h;subst h1;subst h2;exact Zo5) (by kernel_rfl)
noncomputable def Zaz:Lx:={ext:=[(29,(Qif.at Ql3 Qk2).sm),(131,(Qs0 400).sm),(86,(Zb0 400).sm),(84,(Quk 400).sm),(139,(Qvu 400).sm),(129,(Qod 400).sm)],anns:=[],still:=[]}
theorem Zsn:Zaz.Ok cx.bare:=Lx.Q3 (PC.Q0 (Qg.at2 (pc:=Qif) Qs3 (a0:=Ql3) (y0:=Qk2) Zh7)) (Lx.Q3 (PC.Q0 (Qcz 400).bare) (Lx.Q3 (PC.Q0 (Ya 400).bare) (Lx.Q3 (PC.Q0 (Yl 400).bare) (Lx.Q3 (PC.Q0 (Qlr 400).bare) (Lx.Q3 (PC.Q0 (Qap 400).bare) (Lx.W3))))))
def Qwj:(Zi)×List (Yc)×List (Yc)×ByteArray:=(opn,Qdv,Qdv++[(7960,bs [119,105,116,104,100,114,97,119],bs [97,109,121],bs [],bs [],bs [115,112,114,105,110,116],0,0,bs [],0,bs [],[])],bs [115,112,114,105,110,116])
def Zb7:List ByteArray×Int:=([bs [97,109,121],bs [97,110,110]],0)
abbrev Qrp:List Qe:=[.agg [.int .i64,.int .i64,.int .i64,.int .i64,.seq [.str,.str,.str,.int .i64,.int .i64,.int .i64,.int .i64,.str,.int .i64,.str,.int .i64]],.val (.seq [.int .i64,.str,.str,.str,.str,.str,.int .i64,.int .i64,.str,.int .i64,.str,.seq [.str]]),.val (.seq [.int .i64,.str,.str,.str,.str,.str,.int .i64,.int .i64,.str,.int .i64,.str,.seq [.str]]),.val .str]
theorem Zua:Z5 cx.bare Zaz 3000 .leaf f46 (Qv f46) Qrp Jp Qwj=some Zb7:=by kernel_rfl
noncomputable def Qss:PC:={ats:=Qrp,rts:=Jp,code:=Go.Sx.one (ats:=Qrp) (rts:=Jp) Qwj Zb7}
theorem Zyz:Qg cx.bare 46 Qss:=Qg.Zs (Cx.Z9 Zt) Zsn (n:=3000) (an:=.leaf) (fn:=f46) (c:=Qv f46) (by kernel_rfl) (by kernel_rfl) (fun a y h=>by obtain⟨h1,h2⟩:=Go.Sx.one_some h;subst h1;subst h2;exact Zua) (by kernel_rfl)
noncomputable def Qy1:Lx:={ext:=[(25,(Qpb 400).sm),(99,(Qlp 400).sm),(21,(Qnl 400).sm),(98,(Qjq 400).sm),(129,(Qod 400).sm),(126,(Qwa 400).sm),(137,(Qxu 400).sm),(138,(Qzd 400).sm)],anns:=[(148,.typ 6 106 [.str,.str,.str,.int .i64,.str,.int .i64,.bool] .leaf)],still:=[]}
theorem Zkr:Qy1.Ok cx.bare:=Lx.Q3 (PC.Q0 (Qc6 400).bare) (Lx.Q3 (PC.Q0 (Qdq 400).bare) (Lx.Q3 (PC.Q0 (Qnf 400).bare) (Lx.Q3 (PC.Q0 (Qff 400).bare) (Lx.Q3 (PC.Q0 (Qap 400).bare) (Lx.Q3 (PC.Q0 (Qd8 400).bare) (Lx.Q3 (PC.Q0 (Qhq 400).bare) (Lx.Q3 (PC.Q0 (Qny 400).bare) (Lx.W3))))))))
def Qtx:(Zi)×(Qz)×ByteArray:=(opn,stY,bs [115,112,114,105,110,116])
def Qut:List ByteArray×Int:=([bs [97,109,121]],0)
theorem Zjx:Z5 cx.bare Qy1 3000 .leaf f69 (Qv f69) Vb Jp Qtx=some Qut:=by kernel_rfl
noncomputable def Zak:PC:={ats:=Vb,rts:=Jp,code:=Go.Sx.one (ats:=Vb) (rts:=Jp) Qtx Qut}
theorem Zuw:Qg cx.bare 69 Zak:=Qg.Zs (Cx.Z9 Zt) Zkr (n:=3000) (an:=.leaf) (fn:=f69) (c:=Qv f69) (by kernel_rfl) (by kernel_rfl) (fun a y h=>by obtain⟨h1,h2⟩:=Go.Sx.one_some h;subst h1;subst h2;exact Zjx) (by kernel_rfl)
end Go.Proofs.Tryz

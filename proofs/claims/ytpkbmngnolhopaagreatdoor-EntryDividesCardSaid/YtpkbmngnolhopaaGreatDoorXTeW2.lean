/- awake: CheckAct, Legal and Next at further acts awake: Replay and Changed at the examples And further parts. -/
import Derived.Test.YtpkbmngnolhopaaGreatDoorXT3r
set_option maxRecDepth 1000000
set_option linter.unusedVariables false
namespace Go.Proofs.Tryz
open Go Go.Sx
noncomputable def Qak:Lx:={ext:=[(98,(Qkf 400).sm),(99,(Qmc 400).sm)],anns:=[],still:=[]}
theorem Qbo:Qak.Ok cx.bare:=Lx.Q3 (PC.Q0 (Qes 400).bare) (Lx.Q3 (PC.Q0 (Qef 400).bare) (Lx.W7))
def Qz8:(Ye):=(7960,bs [119,105,116,104,100,114,97,119],bs [97,109,121],bs [],bs [],bs [115,112,114,105,110,116],0,0,bs [],0,bs [],[])
def Zbq:Int:=0
theorem Zgn:Z9 cx.bare Qak 3000 .leaf f23 (Qv f23) Zl Q4 Qz8=some Zbq:=by kernel_rfl
noncomputable def Xj:PC:={ats:=Zl,rts:=Q4,code:=Go.Sx.one (ats:=Zl) (rts:=Q4) Qz8 Zbq}
theorem Qy6:Qg cx.bare 23 Xj:=Qg.Zr (Cx.Yc Zs) Qbo (n:=3000) (an:=.leaf) (fn:=f23) (c:=Qv f23) (by kernel_rfl) (by kernel_rfl) (fun a y h=>by obtain⟨h1,h2⟩:=Go.Sx.one_some h;subst h1;subst h2;exact Zgn) (by kernel_rfl)
def Kz:(Ye):=(7960,bs [116,101,97,109],bs [],bs [65],bs [],bs [114,101,108,97,121],0,0,bs [],0,bs [],[bs [97,110,110],bs [97,109,121]])
def K7:Int:=0
theorem Zes:Z9 cx.bare Qak 3000 .leaf f23 (Qv f23) Zl Q4 Kz=some K7:=by kernel_rfl
noncomputable def Zgw:PC:={ats:=Zl,rts:=Q4,code:=Go.Sx.one (ats:=Zl) (rts:=Q4) Kz K7}
theorem Zs7:Qg cx.bare 23 Zgw:=Qg.Zr (Cx.Yc Zs) Qbo (n:=3000) (an:=.leaf) (fn:=f23) (c:=Qv f23) (by kernel_rfl) (by kernel_rfl) (fun a y h=>by obtain⟨h1,h2⟩:=Go.Sx.one_some h;subst h1;subst h2;exact Zes) (by kernel_rfl)
def Qam:(Ye):=(8000,bs [99,104,101,99,107],bs [97,110,110],bs [],bs [],bs [115,112,114,105,110,116],0,0,bs [],0,bs [],[])
def Up:Int:=0
theorem Zic:Z9 cx.bare Qak 3000 .leaf f23 (Qv f23) Zl Q4 Qam=some Up:=by kernel_rfl
noncomputable def Zzk:PC:={ats:=Zl,rts:=Q4,code:=Go.Sx.one (ats:=Zl) (rts:=Q4) Qam Up}
theorem Zt2:Qg cx.bare 23 Zzk:=Qg.Zr (Cx.Yc Zs) Qbo (n:=3000) (an:=.leaf) (fn:=f23) (c:=Qv f23) (by kernel_rfl) (by kernel_rfl) (fun a y h=>by obtain⟨h1,h2⟩:=Go.Sx.one_some h;subst h1;subst h2;exact Zic) (by kernel_rfl)
def Qat:(Ye):=(8000,bs [99,104,101,99,107],bs [97,109,121],bs [],bs [],bs [115,112,114,105,110,116],0,0,bs [],0,bs [],[])
def Qa8:Int:=0
theorem Znz:Z9 cx.bare Qak 3000 .leaf f23 (Qv f23) Zl Q4 Qat=some Qa8:=by kernel_rfl
noncomputable def Zt0:PC:={ats:=Zl,rts:=Q4,code:=Go.Sx.one (ats:=Zl) (rts:=Q4) Qat Qa8}
theorem Zd6:Qg cx.bare 23 Zt0:=Qg.Zr (Cx.Yc Zs) Qbo (n:=3000) (an:=.leaf) (fn:=f23) (c:=Qv f23) (by kernel_rfl) (by kernel_rfl) (fun a y h=>by obtain⟨h1,h2⟩:=Go.Sx.one_some h;subst h1;subst h2;exact Znz) (by kernel_rfl)
def Qdz:(Ye):=(7960,bs [101,110,116,101,114],bs [97,109,121],bs [],bs [],bs [115,112,114,105,110,116],0,0,bs [116,105,109,101],125000,bs [],[])
def Qdg:Int:=0
theorem Zqu:Z9 cx.bare Qak 3000 .leaf f23 (Qv f23) Zl Q4 Qdz=some Qdg:=by kernel_rfl
noncomputable def Zeh:PC:={ats:=Zl,rts:=Q4,code:=Go.Sx.one (ats:=Zl) (rts:=Q4) Qdz Qdg}
theorem Zjo:Qg cx.bare 23 Zeh:=Qg.Zr (Cx.Yc Zs) Qbo (n:=3000) (an:=.leaf) (fn:=f23) (c:=Qv f23) (by kernel_rfl) (by kernel_rfl) (fun a y h=>by obtain⟨h1,h2⟩:=Go.Sx.one_some h;subst h1;subst h2;exact Zqu) (by kernel_rfl)
def Qgi:(Ye):=(7999,bs [101,110,116,101,114],bs [97,109,121],bs [],bs [],bs [115,112,114,105,110,116],0,0,bs [116,105,109,101],115000,bs [],[])
def Qel:Int:=0
theorem Zmm:Z9 cx.bare Qak 3000 .leaf f23 (Qv f23) Zl Q4 Qgi=some Qel:=by kernel_rfl
noncomputable def Zpl:PC:={ats:=Zl,rts:=Q4,code:=Go.Sx.one (ats:=Zl) (rts:=Q4) Qgi Qel}
theorem Zug:Qg cx.bare 23 Zpl:=Qg.Zr (Cx.Yc Zs) Qbo (n:=3000) (an:=.leaf) (fn:=f23) (c:=Qv f23) (by kernel_rfl) (by kernel_rfl) (fun a y h=>by obtain⟨h1,h2⟩:=Go.Sx.one_some h;subst h1;subst h2;exact Zmm) (by kernel_rfl)
def Qi3:(Ye):=(7960,bs [116,101,97,109],bs [],bs [65],bs [],bs [114,101,108,97,121],0,0,bs [],0,bs [],[bs [97,110,110],bs [98,101,97]])
def Qih:Int:=0
theorem Zsd:Z9 cx.bare Qak 3000 .leaf f23 (Qv f23) Zl Q4 Qi3=some Qih:=by kernel_rfl
noncomputable def Zog:PC:={ats:=Zl,rts:=Q4,code:=Go.Sx.one (ats:=Zl) (rts:=Q4) Qi3 Qih}
theorem Zib:Qg cx.bare 23 Zog:=Qg.Zr (Cx.Yc Zs) Qbo (n:=3000) (an:=.leaf) (fn:=f23) (c:=Qv f23) (by kernel_rfl) (by kernel_rfl) (fun a y h=>by obtain⟨h1,h2⟩:=Go.Sx.one_some h;subst h1;subst h2;exact Zsd) (by kernel_rfl)
noncomputable def Qah:Lx:={ext:=[(23,((((((Xj.at Kz K7).at Qam Up).at Qat Qa8).at Qdz Qdg).at Qgi Qel).at Qi3 Qih).sm),(25,(Qps 400).sm),(135,(Qoi 400).sm)],anns:=[],still:=[]}
theorem Qbb:Qah.Ok cx.bare:=Lx.Q3 (PC.Q0 (Qg.at2 (pc:=(((((Xj.at Kz K7).at Qam Up).at Qat Qa8).at Qdz Qdg).at Qgi Qel)) (Qg.at2 (pc:=((((Xj.at Kz K7).at Qam Up).at Qat Qa8).at Qdz Qdg)) (Qg.at2 (pc:=(((Xj.at Kz K7).at Qam Up).at Qat Qa8)) (Qg.at2 (pc:=((Xj.at Kz K7).at Qam Up)) (Qg.at2 (pc:=(Xj.at Kz K7)) (Qg.at2 (pc:=Xj) Qy6 (a0:=Kz) (y0:=K7) Zs7) (a0:=Qam) (y0:=Up) Zt2) (a0:=Qat) (y0:=Qa8) Zd6) (a0:=Qdz) (y0:=Qdg) Zjo) (a0:=Qgi) (y0:=Qel) Zug) (a0:=Qi3) (y0:=Qih) Zib)) (Lx.Q3 (PC.Q0 (Qcm 400).bare) (Lx.Q3 (PC.Q0 (Qyh 400).bare) (Lx.W7)))
def Qy3:(Zd)×(Qz)×(Ye):=(opn,stS,(7960,bs [119,105,116,104,100,114,97,119],bs [97,109,121],bs [],bs [],bs [115,112,114,105,110,116],0,0,bs [],0,bs [],[]))
def Qwv:Int:=0
abbrev Yi:List Qf:=[.agg [.int .i64,.int .i64,.int .i64,.int .i64,.seq [.str,.str,.str,.int .i64,.int .i64,.int .i64,.int .i64,.str,.int .i64,.str,.int .i64]],.agg [.seq [.str],.seq [.str,.str,.int .i64,.str],.seq [.str,.int .i64,.int .i64],.seq [.str,.str,.str,.int .i64,.str,.int .i64,.bool],.seq [.str,.str,.seq [.str]]],.agg [.int .i64,.str,.str,.str,.str,.str,.int .i64,.int .i64,.str,.int .i64,.str,.seq [.str]]]
theorem Zy6:Z9 cx.bare Qah 3000 .leaf f49 (Qv f49) Yi Q4 Qy3=some Qwv:=by kernel_rfl
noncomputable def Qg5:PC:={ats:=Yi,rts:=Q4,code:=Go.Sx.one (ats:=Yi) (rts:=Q4) Qy3 Qwv}
theorem Zpb:Qg cx.bare 49 Qg5:=Qg.Zr (Cx.Yc Zs) Qbb (n:=3000) (an:=.leaf) (fn:=f49) (c:=Qv f49) (by kernel_rfl) (by kernel_rfl) (fun a y h=>by obtain⟨h1,h2⟩:=Go.Sx.one_some h;subst h1;subst h2;exact Zy6) (by kernel_rfl)
def Qcd:(Zd)×(Qz)×(Ye):=(opn,stS,(7960,bs [116,101,97,109],bs [],bs [65],bs [],bs [114,101,108,97,121],0,0,bs [],0,bs [],[bs [97,110,110],bs [97,109,121]]))
def Qc6:Int:=0
theorem Zjy:Z9 cx.bare Qah 3000 .leaf f49 (Qv f49) Yi Q4 Qcd=some Qc6:=by kernel_rfl
noncomputable def Zty:PC:={ats:=Yi,rts:=Q4,code:=Go.Sx.one (ats:=Yi) (rts:=Q4) Qcd Qc6}
theorem Zfw:Qg cx.bare 49 Zty:=Qg.Zr (Cx.Yc Zs) Qbb (n:=3000) (an:=.leaf) (fn:=f49) (c:=Qv f49) (by kernel_rfl) (by kernel_rfl) (fun a y h=>by obtain⟨h1,h2⟩:=Go.Sx.one_some h;subst h1;subst h2;exact Zjy) (by kernel_rfl)
def Qhb:(Zd)×(Qz)×(Ye):=(opn,stS,(8000,bs [99,104,101,99,107],bs [97,110,110],bs [],bs [],bs [115,112,114,105,110,116],0,0,bs [],0,bs [],[]))
def Qey:Int:=0
theorem Zqr:Z9 cx.bare Qah 3000 .leaf f49 (Qv f49) Yi Q4 Qhb=some Qey:=by kernel_rfl
noncomputable def Zzp:PC:={ats:=Yi,rts:=Q4,code:=Go.Sx.one (ats:=Yi) (rts:=Q4) Qhb Qey}
theorem Zdt:Qg cx.bare 49 Zzp:=Qg.Zr (Cx.Yc Zs) Qbb (n:=3000) (an:=.leaf) (fn:=f49) (c:=Qv f49) (by kernel_rfl) (by kernel_rfl) (fun a y h=>by obtain⟨h1,h2⟩:=Go.Sx.one_some h;subst h1;subst h2;exact Zqr) (by kernel_rfl)
def Qi2:(Zd)×(Qz)×(Ye):=(opn,stX,(8000,bs [99,104,101,99,107],bs [97,109,121],bs [],bs [],bs [115,112,114,105,110,116],0,0,bs [],0,bs [],[]))
def Qh2:Int:=0
theorem Zg6:Z9 cx.bare Qah 3000 .leaf f49 (Qv f49) Yi Q4 Qi2=some Qh2:=by kernel_rfl
noncomputable def Zzm:PC:={ats:=Yi,rts:=Q4,code:=Go.Sx.one (ats:=Yi) (rts:=Q4) Qi2 Qh2}
theorem Zi4:Qg cx.bare 49 Zzm:=Qg.Zr (Cx.Yc Zs) Qbb (n:=3000) (an:=.leaf) (fn:=f49) (c:=Qv f49) (by kernel_rfl) (by kernel_rfl) (fun a y h=>by obtain⟨h1,h2⟩:=Go.Sx.one_some h;subst h1;subst h2;exact Zg6) (by kernel_rfl)
def Qxe:(Zd)×(Qz)×(Ye):=(opn,stT,(7960,bs [101,110,116,101,114],bs [97,109,121],bs [],bs [],bs [115,112,114,105,110,116],0,0,bs [116,105,109,101],125000,bs [],[]))
def Qvy:Int:=30
theorem Zo6:Z9 cx.bare Qah 3000 .leaf f49 (Qv f49) Yi Q4 Qxe=some Qvy:=by kernel_rfl
noncomputable def Qip:PC:={ats:=Yi,rts:=Q4,code:=Go.Sx.one (ats:=Yi) (rts:=Q4) Qxe Qvy}
theorem Zy0:Qg cx.bare 49 Qip:=Qg.Zr (Cx.Yc Zs) Qbb (n:=3000) (an:=.leaf) (fn:=f49) (c:=Qv f49) (by kernel_rfl) (by kernel_rfl) (fun a y h=>by obtain⟨h1,h2⟩:=Go.Sx.one_some h;subst h1;subst h2;exact Zo6) (by kernel_rfl)
def Qff:(Zd)×(Qz)×(Ye):=(opn,stT,(7999,bs [101,110,116,101,114],bs [97,109,121],bs [],bs [],bs [115,112,114,105,110,116],0,0,bs [116,105,109,101],115000,bs [],[]))
def Qgc:Int:=19
theorem Zni:Z9 cx.bare Qah 3000 .leaf f49 (Qv f49) Yi Q4 Qff=some Qgc:=by kernel_rfl
noncomputable def Zjr:PC:={ats:=Yi,rts:=Q4,code:=Go.Sx.one (ats:=Yi) (rts:=Q4) Qff Qgc}
theorem Ztn:Qg cx.bare 49 Zjr:=Qg.Zr (Cx.Yc Zs) Qbb (n:=3000) (an:=.leaf) (fn:=f49) (c:=Qv f49) (by kernel_rfl) (by kernel_rfl) (fun a y h=>by obtain⟨h1,h2⟩:=Go.Sx.one_some h;subst h1;subst h2;exact Zni) (by kernel_rfl)
def Qjv:(Zd)×(Qz)×(Ye):=(opn,stT,(7960,bs [116,101,97,109],bs [],bs [65],bs [],bs [114,101,108,97,121],0,0,bs [],0,bs [],[bs [97,110,110],bs [98,101,97]]))
def Qhx:Int:=18
theorem Zjs:Z9 cx.bare Qah 3000 .leaf f49 (Qv f49) Yi Q4 Qjv=some Qhx:=by kernel_rfl
noncomputable def Zin:PC:={ats:=Yi,rts:=Q4,code:=Go.Sx.one (ats:=Yi) (rts:=Q4) Qjv Qhx}
theorem Zi2:Qg cx.bare 49 Zin:=Qg.Zr (Cx.Yc Zs) Qbb (n:=3000) (an:=.leaf) (fn:=f49) (c:=Qv f49) (by kernel_rfl) (by kernel_rfl) (fun a y h=>by obtain⟨h1,h2⟩:=Go.Sx.one_some h;subst h1;subst h2;exact Zjs) (by kernel_rfl)
noncomputable def Qmx:Lx:={ext:=[(150,(Qky 400).sm),(199,(Qju 400).sm),(200,(Qld 400).sm),(201,(Qiq 400).sm),(202,(Qi1 400).sm)],anns:=[],still:=[]}
theorem Qvu:Qmx.Ok cx.bare:=Lx.Q3 (PF.Q0 (Qhh 400).bare) (Lx.Q3 (PF.Q0 (Qem 400).bare) (Lx.Q3 (PF.Q0 (Qmj 400).bare) (Lx.Q3 (PF.Q0 (Qha 400).bare) (Lx.Q3 (PF.Q0 (Qf9 400).bare) (Lx.W7)))))
def Qk6:Qz:=stS
def Qkj:Qz:=stS
abbrev Wl:List Qf:=[.agg [.seq [.str],.seq [.str,.str,.int .i64,.str],.seq [.str,.int .i64,.int .i64],.seq [.str,.str,.str,.int .i64,.str,.int .i64,.bool],.seq [.str,.str,.seq [.str]]]]
theorem Zht:Z9 cx.bare Qmx 3000 .leaf f136 (Qv f136) Wl Wl Qk6=some Qkj:=by kernel_rfl
noncomputable def Zq7:PC:={ats:=Wl,rts:=Wl,code:=Go.Sx.one (ats:=Wl) (rts:=Wl) Qk6 Qkj}
theorem Zil:Qg cx.bare 136 Zq7:=Qg.Zr (Cx.Yc Zs) Qvu (n:=3000) (an:=.leaf) (fn:=f136) (c:=Qv f136) (by kernel_rfl) (by kernel_rfl) (fun a y h=>by obtain⟨h1,h2⟩:=Go.Sx.one_some h;subst h1;subst h2;exact Zht) (by kernel_rfl)
def Qs6:Qz:=stX
def Quz:Qz:=stX
theorem Zq9:Z9 cx.bare Qmx 3000 .leaf f136 (Qv f136) Wl Wl Qs6=some Quz:=by kernel_rfl
noncomputable def Qrr:PC:={ats:=Wl,rts:=Wl,code:=Go.Sx.one (ats:=Wl) (rts:=Wl) Qs6 Quz}
theorem Zcu:Qg cx.bare 136 Qrr:=Qg.Zr (Cx.Yc Zs) Qvu (n:=3000) (an:=.leaf) (fn:=f136) (c:=Qv f136) (by kernel_rfl) (by kernel_rfl) (fun a y h=>by obtain⟨h1,h2⟩:=Go.Sx.one_some h;subst h1;subst h2;exact Zq9) (by kernel_rfl)
noncomputable def Qez:Lx:={ext:=[(49,(((Qg5.at Qcd Qc6).at Qhb Qey).at Qi2 Qh2).sm),(136,(Qrr.at Qk6 Qkj).sm),(150,(Qky 400).sm),(199,(Qju 400).sm),(200,(Qld 400).sm),(201,(Qiq 400).sm),(202,(Qi1 400).sm),(186,(Qrw 400).sm),(187,(Qpe 400).sm),(105,(Qqk 400).sm),(219,(Qm0 400).sm)],anns:=[(217,Qt5 (Qv f217)),(2000219,.leaf)],still:=[]}
theorem Qkx:Qez.Ok cx.bare:=Lx.Q3 (PC.Q0 (Qg.at2 (pc:=((Qg5.at Qcd Qc6).at Qhb Qey)) (Qg.at2 (pc:=(Qg5.at Qcd Qc6)) (Qg.at2 (pc:=Qg5) Zpb (a0:=Qcd) (y0:=Qc6) Zfw) (a0:=Qhb) (y0:=Qey) Zdt) (a0:=Qi2) (y0:=Qh2) Zi4)) (Lx.Q3 (PC.Q0 (Qg.at2 (pc:=Qrr) Zcu (a0:=Qk6) (y0:=Qkj) Zil)) (Lx.Q3 (PF.Q0 (Qhh 400).bare) (Lx.Q3 (PF.Q0 (Qem 400).bare) (Lx.Q3 (PF.Q0 (Qmj 400).bare) (Lx.Q3 (PF.Q0 (Qha 400).bare) (Lx.Q3 (PF.Q0 (Qf9 400).bare) (Lx.Q3 (PC.Q0 (U0 400).bare) (Lx.Q3 (PC.Q0 (Qkn 400).bare) (Lx.Q3 (PC.Q0 (Qqc 400).bare) (Lx.Q3 (PC.Q0 (Qpk 400).bare) (Lx.W7)))))))))))
def Za6:(Zd)×(Qz)×(Ye):=(opn,stS,(7960,bs [119,105,116,104,100,114,97,119],bs [97,109,121],bs [],bs [],bs [115,112,114,105,110,116],0,0,bs [],0,bs [],[]))
def Qut:(Qz)×Int:=(stT,0)
abbrev W0:List Qf:=[.agg [.seq [.str],.seq [.str,.str,.int .i64,.str],.seq [.str,.int .i64,.int .i64],.seq [.str,.str,.str,.int .i64,.str,.int .i64,.bool],.seq [.str,.str,.seq [.str]]],.val (.int .i64)]
theorem Zv3:Z9 cx.bare Qez 3000 .leaf f50 (Qv f50) Yi W0 Za6=some Qut:=by kernel_rfl
noncomputable def Qho:PC:={ats:=Yi,rts:=W0,code:=Go.Sx.one (ats:=Yi) (rts:=W0) Za6 Qut}
theorem Zuu:Qg cx.bare 50 Qho:=Qg.Zr (Cx.Yc Zs) Qkx (n:=3000) (an:=.leaf) (fn:=f50) (c:=Qv f50) (by kernel_rfl) (by kernel_rfl) (fun a y h=>by obtain⟨h1,h2⟩:=Go.Sx.one_some h;subst h1;subst h2;exact Zv3) (by kernel_rfl)
def Qf1:(Zd)×(Qz)×(Ye):=(opn,stS,(8000,bs [99,104,101,99,107],bs [97,110,110],bs [],bs [],bs [115,112,114,105,110,116],0,0,bs [],0,bs [],[]))
def Qfm:(Qz)×Int:=(stX,0)
theorem Ziw:Z9 cx.bare Qez 3000 .leaf f50 (Qv f50) Yi W0 Qf1=some Qfm:=by kernel_rfl
noncomputable def Zy1:PC:={ats:=Yi,rts:=W0,code:=Go.Sx.one (ats:=Yi) (rts:=W0) Qf1 Qfm}
theorem Zon:Qg cx.bare 50 Zy1:=Qg.Zr (Cx.Yc Zs) Qkx (n:=3000) (an:=.leaf) (fn:=f50) (c:=Qv f50) (by kernel_rfl) (by kernel_rfl) (fun a y h=>by obtain⟨h1,h2⟩:=Go.Sx.one_some h;subst h1;subst h2;exact Ziw) (by kernel_rfl)
def Qk2:(Zd)×(Qz)×(Ye):=(opn,stX,(8000,bs [99,104,101,99,107],bs [97,109,121],bs [],bs [],bs [115,112,114,105,110,116],0,0,bs [],0,bs [],[]))
def Qlw:(Qz)×Int:=(stY,0)
theorem Zj2:Z9 cx.bare Qez 3000 .leaf f50 (Qv f50) Yi W0 Qk2=some Qlw:=by kernel_rfl
noncomputable def Zxe:PC:={ats:=Yi,rts:=W0,code:=Go.Sx.one (ats:=Yi) (rts:=W0) Qk2 Qlw}
theorem Zub:Qg cx.bare 50 Zxe:=Qg.Zr (Cx.Yc Zs) Qkx (n:=3000) (an:=.leaf) (fn:=f50) (c:=Qv f50) (by kernel_rfl) (by kernel_rfl) (fun a y h=>by obtain⟨h1,h2⟩:=Go.Sx.one_some h;subst h1;subst h2;exact Zj2) (by kernel_rfl)
def Qdf:(Zd)×(Qz)×(Ye):=(opn,stS,(7960,bs [116,101,97,109],bs [],bs [65],bs [],bs [114,101,108,97,121],0,0,bs [],0,bs [],[bs [97,110,110],bs [97,109,121]]))
def Qdp:(Qz)×Int:=(stU,0)
theorem Zrr:Z9 cx.bare Qez 3000 .leaf f50 (Qv f50) Yi W0 Qdf=some Qdp:=by kernel_rfl
noncomputable def Zzb:PC:={ats:=Yi,rts:=W0,code:=Go.Sx.one (ats:=Yi) (rts:=W0) Qdf Qdp}
theorem Zm9:Qg cx.bare 50 Zzb:=Qg.Zr (Cx.Yc Zs) Qkx (n:=3000) (an:=.leaf) (fn:=f50) (c:=Qv f50) (by kernel_rfl) (by kernel_rfl) (fun a y h=>by obtain⟨h1,h2⟩:=Go.Sx.one_some h;subst h1;subst h2;exact Zrr) (by kernel_rfl)
noncomputable def Qoh:Lx:={ext:=[(23,(((((((((((Xj.at Jz Jx).at J9 We).at Wm Ww).at Vo Vc).at V3 Kf).at K5 Ub).at U3 Qai).at Qb4 Qar).at Qcj Qdd).at Qft Qe1).at Ql8 Qkc).sm),(21,(Qpz 400).sm),(135,(Qoi 400).sm),(150,(Qky 400).sm),(199,(Qju 400).sm),(200,(Qld 400).sm),(201,(Qiq 400).sm),(202,(Qi1 400).sm),(160,(Qtx 400).sm),(213,(Qv5 400).sm),(214,(Qyu 400).sm),(216,(Qv1 400).sm),(219,(Qm0 400).sm),(186,(Qrw 400).sm),(187,(Qpe 400).sm),(110,(Qwb 400).sm),(111,(Qwp 400).sm),(105,(Qqk 400).sm)],anns:=[(2000219,.leaf),(217,Qt5 (Qv f217))],still:=[]}
theorem Zar:Qoh.Ok cx.bare:=Lx.Q3 (PC.Q0 (Qg.at2 (pc:=((((((((((Xj.at Jz Jx).at J9 We).at Wm Ww).at Vo Vc).at V3 Kf).at K5 Ub).at U3 Qai).at Qb4 Qar).at Qcj Qdd).at Qft Qe1)) (Qg.at2 (pc:=(((((((((Xj.at Jz Jx).at J9 We).at Wm Ww).at Vo Vc).at V3 Kf).at K5 Ub).at U3 Qai).at Qb4 Qar).at Qcj Qdd)) (Qg.at2 (pc:=((((((((Xj.at Jz Jx).at J9 We).at Wm Ww).at Vo Vc).at V3 Kf).at K5 Ub).at U3 Qai).at Qb4 Qar)) (Qg.at2 (pc:=(((((((Xj.at Jz Jx).at J9 We).at Wm Ww).at Vo Vc).at V3 Kf).at K5 Ub).at U3 Qai)) (Qg.at2 (pc:=((((((Xj.at Jz Jx).at J9 We).at Wm Ww).at Vo Vc).at V3 Kf).at K5 Ub)) (Qg.at2 (pc:=(((((Xj.at Jz Jx).at J9 We).at Wm Ww).at Vo Vc).at V3 Kf)) (Qg.at2 (pc:=((((Xj.at Jz Jx).at J9 We).at Wm Ww).at Vo Vc)) (Qg.at2 (pc:=(((Xj.at Jz Jx).at J9 We).at Wm Ww)) (Qg.at2 (pc:=((Xj.at Jz Jx).at J9 We)) (Qg.at2 (pc:=(Xj.at Jz Jx)) (Qg.at2 (pc:=Xj) Qy6 (a0:=Jz) (y0:=Jx) Zh7) (a0:=J9) (y0:=We) Zfu) (a0:=Wm) (y0:=Ww) Zn0) (a0:=Vo) (y0:=Vc) Zsy) (a0:=V3) (y0:=Kf) Zlt) (a0:=K5) (y0:=Ub) Zzj) (a0:=U3) (y0:=Qai) Zl6) (a0:=Qb4) (y0:=Qar) Zsq) (a0:=Qcj) (y0:=Qdd) Zvw) (a0:=Qft) (y0:=Qe1) Zq4) (a0:=Ql8) (y0:=Qkc) Zid)) (Lx.Q3 (PC.Q0 (Qn8 400).bare) (Lx.Q3 (PC.Q0 (Qyh 400).bare) (Lx.Q3 (PF.Q0 (Qhh 400).bare) (Lx.Q3 (PF.Q0 (Qem 400).bare) (Lx.Q3 (PF.Q0 (Qmj 400).bare) (Lx.Q3 (PF.Q0 (Qha 400).bare) (Lx.Q3 (PF.Q0 (Qf9 400).bare) (Lx.Q3 (PC.Q0 (Qyr 400).bare) (Lx.Q3 (PC.Q0 (Qvb 400).bare) (Lx.Q3 (PC.Q0 (Quu 400).bare) (Lx.Q3 (PC.Q0 (Qus 400).bare) (Lx.Q3 (PC.Q0 (Qpk 400).bare) (Lx.Q3 (PC.Q0 (U0 400).bare) (Lx.Q3 (PC.Q0 (Qkn 400).bare) (Lx.Q3 (PC.Q0 (Xg 400).bare) (Lx.Q3 (PC.Q0 (K1 400).bare) (Lx.Q3 (PC.Q0 (Qqc 400).bare) (Lx.W7))))))))))))))))))
def Zbm:(Zd)×List (Ye):=(opn,Qc8)
def Qxi:(Qz)×List (Int×Int)×Int:=(stS,[],0)
abbrev Qcq:List Qf:=[.agg [.int .i64,.int .i64,.int .i64,.int .i64,.seq [.str,.str,.str,.int .i64,.int .i64,.int .i64,.int .i64,.str,.int .i64,.str,.int .i64]],.val (.seq [.int .i64,.str,.str,.str,.str,.str,.int .i64,.int .i64,.str,.int .i64,.str,.seq [.str]])]
abbrev Qck:List Qf:=[.agg [.seq [.str],.seq [.str,.str,.int .i64,.str],.seq [.str,.int .i64,.int .i64],.seq [.str,.str,.str,.int .i64,.str,.int .i64,.bool],.seq [.str,.str,.seq [.str]]],.val (.seq [.int .i64,.int .i64]),.val (.int .i64)]
theorem Zw5:Z9 cx.bare Qoh 3000 .leaf f29 (Qv f29) Qcq Qck Zbm=some Qxi:=by kernel_rfl
noncomputable def Qlg:PC:={ats:=Qcq,rts:=Qck,code:=Go.Sx.one (ats:=Qcq) (rts:=Qck) Zbm Qxi}
theorem Qzu:Qg cx.bare 29 Qlg:=Qg.Zr (Cx.Yc Zs) Zar (n:=3000) (an:=.leaf) (fn:=f29) (c:=Qv f29) (by kernel_rfl) (by kernel_rfl) (fun a y h=>by obtain⟨h1,h2⟩:=Go.Sx.one_some h;subst h1;subst h2;exact Zw5) (by kernel_rfl)
def Qh0:(Zd)×List (Ye):=(opn,Qc8++[(7960,bs [119,105,116,104,100,114,97,119],bs [97,109,121],bs [],bs [],bs [115,112,114,105,110,116],0,0,bs [],0,bs [],[])])
def Qjc:(Qz)×List (Int×Int)×Int:=(stT,[],0)
theorem Zvb:Z9 cx.bare Qoh 3000 .leaf f29 (Qv f29) Qcq Qck Qh0=some Qjc:=by kernel_rfl
noncomputable def Zuk:PC:={ats:=Qcq,rts:=Qck,code:=Go.Sx.one (ats:=Qcq) (rts:=Qck) Qh0 Qjc}
theorem Zqw:Qg cx.bare 29 Zuk:=Qg.Zr (Cx.Yc Zs) Zar (n:=3000) (an:=.leaf) (fn:=f29) (c:=Qv f29) (by kernel_rfl) (by kernel_rfl) (fun a y h=>by obtain⟨h1,h2⟩:=Go.Sx.one_some h;subst h1;subst h2;exact Zvb) (by kernel_rfl)
noncomputable def Qtj:Lx:={ext:=[(29,(Qlg.at Qh0 Qjc).sm),(131,(Qsy 400).sm),(86,(Qz0 400).sm),(84,(Qxy 400).sm),(139,(Zau 400).sm),(129,(Qmu 400).sm)],anns:=[],still:=[]}
theorem Zko:Qtj.Ok cx.bare:=Lx.Q3 (PC.Q0 (Qg.at2 (pc:=Qlg) Qzu (a0:=Qh0) (y0:=Qjc) Zqw)) (Lx.Q3 (PC.Q0 (Qch 400).bare) (Lx.Q3 (PC.Q0 (Yf 400).bare) (Lx.Q3 (PC.Q0 (Yl 400).bare) (Lx.Q3 (PC.Q0 (Qi9 400).bare) (Lx.Q3 (PC.Q0 (Ut 400).bare) (Lx.W7))))))
def Qxk:(Zd)×List (Ye)×List (Ye)×ByteArray:=(opn,Qc8,Qc8++[(7960,bs [119,105,116,104,100,114,97,119],bs [97,109,121],bs [],bs [],bs [115,112,114,105,110,116],0,0,bs [],0,bs [],[])],bs [115,112,114,105,110,116])
def Qt8:List ByteArray×Int:=([bs [97,109,121],bs [97,110,110]],0)
abbrev Qo5:List Qf:=[.agg [.int .i64,.int .i64,.int .i64,.int .i64,.seq [.str,.str,.str,.int .i64,.int .i64,.int .i64,.int .i64,.str,.int .i64,.str,.int .i64]],.val (.seq [.int .i64,.str,.str,.str,.str,.str,.int .i64,.int .i64,.str,.int .i64,.str,.seq [.str]]),.val (.seq [.int .i64,.str,.str,.str,.str,.str,.int .i64,.int .i64,.str,.int .i64,.str,.seq [.str]]),.val .str]
theorem Zmc:Z9 cx.bare Qtj 3000 .leaf f46 (Qv f46) Qo5 Jq Qxk=some Qt8:=by kernel_rfl
noncomputable def Zbt:PC:={ats:=Qo5,rts:=Jq,code:=Go.Sx.one (ats:=Qo5) (rts:=Jq) Qxk Qt8}
theorem Zs2:Qg cx.bare 46 Zbt:=Qg.Zr (Cx.Yc Zs) Zko (n:=3000) (an:=.leaf) (fn:=f46) (c:=Qv f46) (by kernel_rfl) (by kernel_rfl) (fun a y h=>by obtain⟨h1,h2⟩:=Go.Sx.one_some h;subst h1;subst h2;exact Zmc) (by kernel_rfl)
noncomputable def Zaw:Lx:={ext:=[(25,(Qps 400).sm),(99,(Qmc 400).sm),(21,(Qpz 400).sm),(98,(Qkf 400).sm),(129,(Qmu 400).sm),(126,(Qxu 400).sm),(137,(Qsm 400).sm),(138,(Qvf 400).sm)],anns:=[(148,.typ 6 106 [.str,.str,.str,.int .i64,.str,.int .i64,.bool] .leaf)],still:=[]}
theorem Zsu:Zaw.Ok cx.bare:=Lx.Q3 (PC.Q0 (Qcm 400).bare) (Lx.Q3 (PC.Q0 (Qef 400).bare) (Lx.Q3 (PC.Q0 (Qn8 400).bare) (Lx.Q3 (PC.Q0 (Qes 400).bare) (Lx.Q3 (PC.Q0 (Ut 400).bare) (Lx.Q3 (PC.Q0 (Qd9 400).bare) (Lx.Q3 (PC.Q0 (Qh6 400).bare) (Lx.Q3 (PC.Q0 (Qnx 400).bare) (Lx.W7))))))))
def Qzv:(Zd)×(Qz)×ByteArray:=(opn,stY,bs [115,112,114,105,110,116])
def Qw2:List ByteArray×Int:=([bs [97,109,121]],0)
theorem Zfv:Z9 cx.bare Zaw 3000 .leaf f69 (Qv f69) Vm Jq Qzv=some Qw2:=by kernel_rfl
noncomputable def Za2:PC:={ats:=Vm,rts:=Jq,code:=Go.Sx.one (ats:=Vm) (rts:=Jq) Qzv Qw2}
theorem Zyd:Qg cx.bare 69 Za2:=Qg.Zr (Cx.Yc Zs) Zsu (n:=3000) (an:=.leaf) (fn:=f69) (c:=Qv f69) (by kernel_rfl) (by kernel_rfl) (fun a y h=>by obtain⟨h1,h2⟩:=Go.Sx.one_some h;subst h1;subst h2;exact Zfv) (by kernel_rfl)
end Go.Proofs.Tryz

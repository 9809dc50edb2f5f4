/- awake: CheckAct, Legal and Next at further acts awake: Replay and Changed at the examples And further parts. -/
import Derived.Test.YtpkbmngnolhopaaGreatDoorXTeW0
set_option maxRecDepth 1000000
set_option linter.unusedVariables false
namespace Go.Proofs.Tryz
open Go Go.Sx
noncomputable def Qcu:Lx:={ext:=[(98,(Qqq 400).sm),(99,(Qq7 400).sm)],anns:=[],still:=[]}
theorem Qfa:Qcu.Ok cx.bare:=Lx.Zj (PC.Qr (Vu 400).bare) (Lx.Zj (PC.Qr (Vk 400).bare) (Lx.Uc))
def Zb9:(Ze):=(7960,bs [119,105,116,104,100,114,97,119],bs [97,109,121],bs [],bs [],bs [115,112,114,105,110,116],0,0,bs [],0,bs [],[])
def Zg3:Int:=0
theorem Ydj:Zl cx.bare Qcu 3000 .leaf f23 (Qs f23) Z4 Zk Zb9=some Zg3:=by kernel_rfl
noncomputable def Jo:PC:={ats:=Z4,rts:=Zk,code:=Go.Sx.one (ats:=Z4) (rts:=Zk) Zb9 Zg3}
theorem Zia:Qg cx.bare 23 Jo:=Qg.Z0 (Cx.Yz Z1) Qfa (n:=3000) (an:=.leaf) (fn:=f23) (c:=Qs f23) (by kernel_rfl) (by kernel_rfl) (fun a y h=>by obtain⟨h1,h2⟩:=Go.Sx.one_some h;subst h1;subst h2;exact Ydj) (by kernel_rfl)
def Qcd:(Ze):=(7960,bs [116,101,97,109],bs [],bs [65],bs [],bs [114,101,108,97,121],0,0,bs [],0,bs [],[bs [97,110,110],bs [97,109,121]])
def Qb8:Int:=0
theorem Yk5:Zl cx.bare Qcu 3000 .leaf f23 (Qs f23) Z4 Zk Qcd=some Qb8:=by kernel_rfl
noncomputable def Zpz:PC:={ats:=Z4,rts:=Zk,code:=Go.Sx.one (ats:=Z4) (rts:=Zk) Qcd Qb8}
theorem Zvu:Qg cx.bare 23 Zpz:=Qg.Z0 (Cx.Yz Z1) Qfa (n:=3000) (an:=.leaf) (fn:=f23) (c:=Qs f23) (by kernel_rfl) (by kernel_rfl) (fun a y h=>by obtain⟨h1,h2⟩:=Go.Sx.one_some h;subst h1;subst h2;exact Yk5) (by kernel_rfl)
def Qc3:(Ze):=(8000,bs [99,104,101,99,107],bs [97,110,110],bs [],bs [],bs [115,112,114,105,110,116],0,0,bs [],0,bs [],[])
def Qd8:Int:=0
theorem Ym2:Zl cx.bare Qcu 3000 .leaf f23 (Qs f23) Z4 Zk Qc3=some Qd8:=by kernel_rfl
noncomputable def Yoc:PC:={ats:=Z4,rts:=Zk,code:=Go.Sx.one (ats:=Z4) (rts:=Zk) Qc3 Qd8}
theorem Zoc:Qg cx.bare 23 Yoc:=Qg.Z0 (Cx.Yz Z1) Qfa (n:=3000) (an:=.leaf) (fn:=f23) (c:=Qs f23) (by kernel_rfl) (by kernel_rfl) (fun a y h=>by obtain⟨h1,h2⟩:=Go.Sx.one_some h;subst h1;subst h2;exact Ym2) (by kernel_rfl)
def Qef:(Ze):=(8000,bs [99,104,101,99,107],bs [97,109,121],bs [],bs [],bs [115,112,114,105,110,116],0,0,bs [],0,bs [],[])
def Qff:Int:=0
theorem Ykj:Zl cx.bare Qcu 3000 .leaf f23 (Qs f23) Z4 Zk Qef=some Qff:=by kernel_rfl
noncomputable def Yg1:PC:={ats:=Z4,rts:=Zk,code:=Go.Sx.one (ats:=Z4) (rts:=Zk) Qef Qff}
theorem Ztm:Qg cx.bare 23 Yg1:=Qg.Z0 (Cx.Yz Z1) Qfa (n:=3000) (an:=.leaf) (fn:=f23) (c:=Qs f23) (by kernel_rfl) (by kernel_rfl) (fun a y h=>by obtain⟨h1,h2⟩:=Go.Sx.one_some h;subst h1;subst h2;exact Ykj) (by kernel_rfl)
def Qil:(Ze):=(7960,bs [101,110,116,101,114],bs [97,109,121],bs [],bs [],bs [115,112,114,105,110,116],0,0,bs [116,105,109,101],125000,bs [],[])
def Qii:Int:=0
theorem Zxu:Zl cx.bare Qcu 3000 .leaf f23 (Qs f23) Z4 Zk Qil=some Qii:=by kernel_rfl
noncomputable def Zj8:PC:={ats:=Z4,rts:=Zk,code:=Go.Sx.one (ats:=Z4) (rts:=Zk) Qil Qii}
theorem Zj7:Qg cx.bare 23 Zj8:=Qg.Z0 (Cx.Yz Z1) Qfa (n:=3000) (an:=.leaf) (fn:=f23) (c:=Qs f23) (by kernel_rfl) (by kernel_rfl) (fun a y h=>by obtain⟨h1,h2⟩:=Go.Sx.one_some h;subst h1;subst h2;exact Zxu) (by kernel_rfl)
def Qkl:(Ze):=(7999,bs [101,110,116,101,114],bs [97,109,121],bs [],bs [],bs [115,112,114,105,110,116],0,0,bs [116,105,109,101],115000,bs [],[])
def Qlo:Int:=0
theorem Znt:Zl cx.bare Qcu 3000 .leaf f23 (Qs f23) Z4 Zk Qkl=some Qlo:=by kernel_rfl
noncomputable def Yff:PC:={ats:=Z4,rts:=Zk,code:=Go.Sx.one (ats:=Z4) (rts:=Zk) Qkl Qlo}
theorem Ymp:Qg cx.bare 23 Yff:=Qg.Z0 (Cx.Yz Z1) Qfa (n:=3000) (an:=.leaf) (fn:=f23) (c:=Qs f23) (by kernel_rfl) (by kernel_rfl) (fun a y h=>by obtain⟨h1,h2⟩:=Go.Sx.one_some h;subst h1;subst h2;exact Znt) (by kernel_rfl)
def Qot:(Ze):=(7960,bs [116,101,97,109],bs [],bs [65],bs [],bs [114,101,108,97,121],0,0,bs [],0,bs [],[bs [97,110,110],bs [98,101,97]])
def Qo9:Int:=0
theorem Yma:Zl cx.bare Qcu 3000 .leaf f23 (Qs f23) Z4 Zk Qot=some Qo9:=by kernel_rfl
noncomputable def Zlr:PC:={ats:=Z4,rts:=Zk,code:=Go.Sx.one (ats:=Z4) (rts:=Zk) Qot Qo9}
theorem Yes:Qg cx.bare 23 Zlr:=Qg.Z0 (Cx.Yz Z1) Qfa (n:=3000) (an:=.leaf) (fn:=f23) (c:=Qs f23) (by kernel_rfl) (by kernel_rfl) (fun a y h=>by obtain⟨h1,h2⟩:=Go.Sx.one_some h;subst h1;subst h2;exact Yma) (by kernel_rfl)
noncomputable def Qc6:Lx:={ext:=[(23,((((((Jo.at Qcd Qb8).at Qc3 Qd8).at Qef Qff).at Qil Qii).at Qkl Qlo).at Qot Qo9).sm),(25,(Qtx 400).sm),(135,(Quz 400).sm)],anns:=[],still:=[]}
theorem Qet:Qc6.Ok cx.bare:=Lx.Zj (PC.Qr (Qg.at2 (pc:=(((((Jo.at Qcd Qb8).at Qc3 Qd8).at Qef Qff).at Qil Qii).at Qkl Qlo)) (Qg.at2 (pc:=((((Jo.at Qcd Qb8).at Qc3 Qd8).at Qef Qff).at Qil Qii)) (Qg.at2 (pc:=(((Jo.at Qcd Qb8).at Qc3 Qd8).at Qef Qff)) (Qg.at2 (pc:=((Jo.at Qcd Qb8).at Qc3 Qd8)) (Qg.at2 (pc:=(Jo.at Qcd Qb8)) (Qg.at2 (pc:=Jo) Zia (a0:=Qcd) (y0:=Qb8) Zvu) (a0:=Qc3) (y0:=Qd8) Zoc) (a0:=Qef) (y0:=Qff) Ztm) (a0:=Qil) (y0:=Qii) Zj7) (a0:=Qkl) (y0:=Qlo) Ymp) (a0:=Qot) (y0:=Qo9) Yes)) (Lx.Zj (PC.Qr (Qdz 400).bare) (Lx.Zj (PC.Qr (Qvc 400).bare) (Lx.Uc)))
def Zil:(Q7)×(Qh)×(Ze):=(opn,stS,(7960,bs [119,105,116,104,100,114,97,119],bs [97,109,121],bs [],bs [],bs [115,112,114,105,110,116],0,0,bs [],0,bs [],[]))
def Zbm:Int:=0
abbrev Y4:List Qd:=[.agg [.int .i64,.int .i64,.int .i64,.int .i64,.seq [.str,.str,.str,.int .i64,.int .i64,.int .i64,.int .i64,.str,.int .i64,.str,.int .i64]],.agg [.seq [.str],.seq [.str,.str,.int .i64,.str],.seq [.str,.int .i64,.int .i64],.seq [.str,.str,.str,.int .i64,.str,.int .i64,.bool],.seq [.str,.str,.seq [.str]]],.agg [.int .i64,.str,.str,.str,.str,.str,.int .i64,.int .i64,.str,.int .i64,.str,.seq [.str]]]
theorem Yhu:Zl cx.bare Qc6 3000 .leaf f49 (Qs f49) Y4 Zk Zil=some Zbm:=by kernel_rfl
noncomputable def Qj5:PC:={ats:=Y4,rts:=Zk,code:=Go.Sx.one (ats:=Y4) (rts:=Zk) Zil Zbm}
theorem Zte:Qg cx.bare 49 Qj5:=Qg.Z0 (Cx.Yz Z1) Qet (n:=3000) (an:=.leaf) (fn:=f49) (c:=Qs f49) (by kernel_rfl) (by kernel_rfl) (fun a y h=>by obtain⟨h1,h2⟩:=Go.Sx.one_some h;subst h1;subst h2;exact Yhu) (by kernel_rfl)
def Qh2:(Q7)×(Qh)×(Ze):=(opn,stS,(7960,bs [116,101,97,109],bs [],bs [65],bs [],bs [114,101,108,97,121],0,0,bs [],0,bs [],[bs [97,110,110],bs [97,109,121]]))
def Qhw:Int:=0
theorem Zu7:Zl cx.bare Qc6 3000 .leaf f49 (Qs f49) Y4 Zk Qh2=some Qhw:=by kernel_rfl
noncomputable def Ykb:PC:={ats:=Y4,rts:=Zk,code:=Go.Sx.one (ats:=Y4) (rts:=Zk) Qh2 Qhw}
theorem Zqb:Qg cx.bare 49 Ykb:=Qg.Z0 (Cx.Yz Z1) Qet (n:=3000) (an:=.leaf) (fn:=f49) (c:=Qs f49) (by kernel_rfl) (by kernel_rfl) (fun a y h=>by obtain⟨h1,h2⟩:=Go.Sx.one_some h;subst h1;subst h2;exact Zu7) (by kernel_rfl)
def Qlq:(Q7)×(Qh)×(Ze):=(opn,stS,(8000,bs [99,104,101,99,107],bs [97,110,110],bs [],bs [],bs [115,112,114,105,110,116],0,0,bs [],0,bs [],[]))
def Qjt:Int:=0
theorem Yhk:Zl cx.bare Qc6 3000 .leaf f49 (Qs f49) Y4 Zk Qlq=some Qjt:=by kernel_rfl
noncomputable def Zmy:PC:={ats:=Y4,rts:=Zk,code:=Go.Sx.one (ats:=Y4) (rts:=Zk) Qlq Qjt}
theorem Yjk:Qg cx.bare 49 Zmy:=Qg.Z0 (Cx.Yz Z1) Qet (n:=3000) (an:=.leaf) (fn:=f49) (c:=Qs f49) (by kernel_rfl) (by kernel_rfl) (fun a y h=>by obtain⟨h1,h2⟩:=Go.Sx.one_some h;subst h1;subst h2;exact Yhk) (by kernel_rfl)
def Qqp:(Q7)×(Qh)×(Ze):=(opn,stX,(8000,bs [99,104,101,99,107],bs [97,109,121],bs [],bs [],bs [115,112,114,105,110,116],0,0,bs [],0,bs [],[]))
def Qr0:Int:=0
theorem Yl3:Zl cx.bare Qc6 3000 .leaf f49 (Qs f49) Y4 Zk Qqp=some Qr0:=by kernel_rfl
noncomputable def Zza:PC:={ats:=Y4,rts:=Zk,code:=Go.Sx.one (ats:=Y4) (rts:=Zk) Qqp Qr0}
theorem Yh6:Qg cx.bare 49 Zza:=Qg.Z0 (Cx.Yz Z1) Qet (n:=3000) (an:=.leaf) (fn:=f49) (c:=Qs f49) (by kernel_rfl) (by kernel_rfl) (fun a y h=>by obtain⟨h1,h2⟩:=Go.Sx.one_some h;subst h1;subst h2;exact Yl3) (by kernel_rfl)
def Zi6:(Q7)×(Qh)×(Ze):=(opn,stT,(7960,bs [101,110,116,101,114],bs [97,109,121],bs [],bs [],bs [115,112,114,105,110,116],0,0,bs [116,105,109,101],125000,bs [],[]))
def Zif:Int:=30
theorem Ycs:Zl cx.bare Qc6 3000 .leaf f49 (Qs f49) Y4 Zk Zi6=some Zif:=by kernel_rfl
noncomputable def Qpe:PC:={ats:=Y4,rts:=Zk,code:=Go.Sx.one (ats:=Y4) (rts:=Zk) Zi6 Zif}
theorem Zmn:Qg cx.bare 49 Qpe:=Qg.Z0 (Cx.Yz Z1) Qet (n:=3000) (an:=.leaf) (fn:=f49) (c:=Qs f49) (by kernel_rfl) (by kernel_rfl) (fun a y h=>by obtain⟨h1,h2⟩:=Go.Sx.one_some h;subst h1;subst h2;exact Ycs) (by kernel_rfl)
def Qlg:(Q7)×(Qh)×(Ze):=(opn,stT,(7999,bs [101,110,116,101,114],bs [97,109,121],bs [],bs [],bs [115,112,114,105,110,116],0,0,bs [116,105,109,101],115000,bs [],[]))
def Qkk:Int:=19
theorem Zy2:Zl cx.bare Qc6 3000 .leaf f49 (Qs f49) Y4 Zk Qlg=some Qkk:=by kernel_rfl
noncomputable def Yik:PC:={ats:=Y4,rts:=Zk,code:=Go.Sx.one (ats:=Y4) (rts:=Zk) Qlg Qkk}
theorem Ygl:Qg cx.bare 49 Yik:=Qg.Z0 (Cx.Yz Z1) Qet (n:=3000) (an:=.leaf) (fn:=f49) (c:=Qs f49) (by kernel_rfl) (by kernel_rfl) (fun a y h=>by obtain⟨h1,h2⟩:=Go.Sx.one_some h;subst h1;subst h2;exact Zy2) (by kernel_rfl)
def Qqa:(Q7)×(Qh)×(Ze):=(opn,stT,(7960,bs [116,101,97,109],bs [],bs [65],bs [],bs [114,101,108,97,121],0,0,bs [],0,bs [],[bs [97,110,110],bs [98,101,97]]))
def Qnz:Int:=18
theorem Yhs:Zl cx.bare Qc6 3000 .leaf f49 (Qs f49) Y4 Zk Qqa=some Qnz:=by kernel_rfl
noncomputable def Zx4:PC:={ats:=Y4,rts:=Zk,code:=Go.Sx.one (ats:=Y4) (rts:=Zk) Qqa Qnz}
theorem Zz7:Qg cx.bare 49 Zx4:=Qg.Z0 (Cx.Yz Z1) Qet (n:=3000) (an:=.leaf) (fn:=f49) (c:=Qs f49) (by kernel_rfl) (by kernel_rfl) (fun a y h=>by obtain⟨h1,h2⟩:=Go.Sx.one_some h;subst h1;subst h2;exact Yhs) (by kernel_rfl)
noncomputable def Qs0:Lx:={ext:=[(150,(Qqc 400).sm),(199,(Qmr 400).sm),(200,(Qql 400).sm),(201,(Qrx 400).sm),(202,(W6 400).sm)],anns:=[],still:=[]}
theorem Zbv:Qs0.Ok cx.bare:=Lx.Zj (PF.Qr (Wy 400).bare) (Lx.Zj (PF.Qr (Xy 400).bare) (Lx.Zj (PF.Qr (Qnf 400).bare) (Lx.Zj (PF.Qr (Xm 400).bare) (Lx.Zj (PF.Qr (Xt 400).bare) (Lx.Uc)))))
def Qnr:Qh:=stS
def Qoy:Qh:=stS
abbrev Ky:List Qd:=[.agg [.seq [.str],.seq [.str,.str,.int .i64,.str],.seq [.str,.int .i64,.int .i64],.seq [.str,.str,.str,.int .i64,.str,.int .i64,.bool],.seq [.str,.str,.seq [.str]]]]
theorem Ym3:Zl cx.bare Qs0 3000 .leaf f136 (Qs f136) Ky Ky Qnr=some Qoy:=by kernel_rfl
noncomputable def Znn:PC:={ats:=Ky,rts:=Ky,code:=Go.Sx.one (ats:=Ky) (rts:=Ky) Qnr Qoy}
theorem Zol:Qg cx.bare 136 Znn:=Qg.Z0 (Cx.Yz Z1) Zbv (n:=3000) (an:=.leaf) (fn:=f136) (c:=Qs f136) (by kernel_rfl) (by kernel_rfl) (fun a y h=>by obtain⟨h1,h2⟩:=Go.Sx.one_some h;subst h1;subst h2;exact Ym3) (by kernel_rfl)
def Zhc:Qh:=stX
def Zg4:Qh:=stX
theorem Zwr:Zl cx.bare Qs0 3000 .leaf f136 (Qs f136) Ky Ky Zhc=some Zg4:=by kernel_rfl
noncomputable def Qw4:PC:={ats:=Ky,rts:=Ky,code:=Go.Sx.one (ats:=Ky) (rts:=Ky) Zhc Zg4}
theorem Zlx:Qg cx.bare 136 Qw4:=Qg.Z0 (Cx.Yz Z1) Zbv (n:=3000) (an:=.leaf) (fn:=f136) (c:=Qs f136) (by kernel_rfl) (by kernel_rfl) (fun a y h=>by obtain⟨h1,h2⟩:=Go.Sx.one_some h;subst h1;subst h2;exact Zwr) (by kernel_rfl)
noncomputable def Qkd:Lx:={ext:=[(49,(((Qj5.at Qh2 Qhw).at Qlq Qjt).at Qqp Qr0).sm),(136,(Qw4.at Qnr Qoy).sm),(150,(Qqc 400).sm),(199,(Qmr 400).sm),(200,(Qql 400).sm),(201,(Qrx 400).sm),(202,(W6 400).sm),(186,(Qvo 400).sm),(187,(Qv5 400).sm),(105,(Qsk 400).sm),(219,(Qvu 400).sm)],anns:=[(217,J3 (Qs f217)),(2000219,.leaf)],still:=[]}
theorem Qos:Qkd.Ok cx.bare:=Lx.Zj (PC.Qr (Qg.at2 (pc:=((Qj5.at Qh2 Qhw).at Qlq Qjt)) (Qg.at2 (pc:=(Qj5.at Qh2 Qhw)) (Qg.at2 (pc:=Qj5) Zte (a0:=Qh2) (y0:=Qhw) Zqb) (a0:=Qlq) (y0:=Qjt) Yjk) (a0:=Qqp) (y0:=Qr0) Yh6)) (Lx.Zj (PC.Qr (Qg.at2 (pc:=Qw4) Zlx (a0:=Qnr) (y0:=Qoy) Zol)) (Lx.Zj (PF.Qr (Wy 400).bare) (Lx.Zj (PF.Qr (Xy 400).bare) (Lx.Zj (PF.Qr (Qnf 400).bare) (Lx.Zj (PF.Qr (Xm 400).bare) (Lx.Zj (PF.Qr (Xt 400).bare) (Lx.Zj (PC.Qr (Jg 400).bare) (Lx.Zj (PC.Qr (W9 400).bare) (Lx.Zj (PC.Qr (Qto 400).bare) (Lx.Zj (PC.Qr (Vw 400).bare) (Lx.Uc)))))))))))
def Zed:(Q7)×(Qh)×(Ze):=(opn,stS,(7960,bs [119,105,116,104,100,114,97,119],bs [97,109,121],bs [],bs [],bs [115,112,114,105,110,116],0,0,bs [],0,bs [],[]))
def Qyz:(Qh)×Int:=(stT,0)
abbrev Kw:List Qd:=[.agg [.seq [.str],.seq [.str,.str,.int .i64,.str],.seq [.str,.int .i64,.int .i64],.seq [.str,.str,.str,.int .i64,.str,.int .i64,.bool],.seq [.str,.str,.seq [.str]]],.val (.int .i64)]
theorem Ydn:Zl cx.bare Qkd 3000 .leaf f50 (Qs f50) Y4 Kw Zed=some Qyz:=by kernel_rfl
noncomputable def Qjy:PC:={ats:=Y4,rts:=Kw,code:=Go.Sx.one (ats:=Y4) (rts:=Kw) Zed Qyz}
theorem Yiq:Qg cx.bare 50 Qjy:=Qg.Z0 (Cx.Yz Z1) Qos (n:=3000) (an:=.leaf) (fn:=f50) (c:=Qs f50) (by kernel_rfl) (by kernel_rfl) (fun a y h=>by obtain⟨h1,h2⟩:=Go.Sx.one_some h;subst h1;subst h2;exact Ydn) (by kernel_rfl)
def Qmh:(Q7)×(Qh)×(Ze):=(opn,stS,(8000,bs [99,104,101,99,107],bs [97,110,110],bs [],bs [],bs [115,112,114,105,110,116],0,0,bs [],0,bs [],[]))
def Qk4:(Qh)×Int:=(stX,0)
theorem Yls:Zl cx.bare Qkd 3000 .leaf f50 (Qs f50) Y4 Kw Qmh=some Qk4:=by kernel_rfl
noncomputable def Yfy:PC:={ats:=Y4,rts:=Kw,code:=Go.Sx.one (ats:=Y4) (rts:=Kw) Qmh Qk4}
theorem Yis:Qg cx.bare 50 Yfy:=Qg.Z0 (Cx.Yz Z1) Qos (n:=3000) (an:=.leaf) (fn:=f50) (c:=Qs f50) (by kernel_rfl) (by kernel_rfl) (fun a y h=>by obtain⟨h1,h2⟩:=Go.Sx.one_some h;subst h1;subst h2;exact Yls) (by kernel_rfl)
def Qqt:(Q7)×(Qh)×(Ze):=(opn,stX,(8000,bs [99,104,101,99,107],bs [97,109,121],bs [],bs [],bs [115,112,114,105,110,116],0,0,bs [],0,bs [],[]))
def Qpx:(Qh)×Int:=(stY,0)
theorem Zt3:Zl cx.bare Qkd 3000 .leaf f50 (Qs f50) Y4 Kw Qqt=some Qpx:=by kernel_rfl
noncomputable def Yln:PC:={ats:=Y4,rts:=Kw,code:=Go.Sx.one (ats:=Y4) (rts:=Kw) Qqt Qpx}
theorem Ymg:Qg cx.bare 50 Yln:=Qg.Z0 (Cx.Yz Z1) Qos (n:=3000) (an:=.leaf) (fn:=f50) (c:=Qs f50) (by kernel_rfl) (by kernel_rfl) (fun a y h=>by obtain⟨h1,h2⟩:=Go.Sx.one_some h;subst h1;subst h2;exact Zt3) (by kernel_rfl)
def Qg7:(Q7)×(Qh)×(Ze):=(opn,stS,(7960,bs [116,101,97,109],bs [],bs [65],bs [],bs [114,101,108,97,121],0,0,bs [],0,bs [],[bs [97,110,110],bs [97,109,121]]))
def Qge:(Qh)×Int:=(stU,0)
theorem Zut:Zl cx.bare Qkd 3000 .leaf f50 (Qs f50) Y4 Kw Qg7=some Qge:=by kernel_rfl
noncomputable def Yko:PC:={ats:=Y4,rts:=Kw,code:=Go.Sx.one (ats:=Y4) (rts:=Kw) Qg7 Qge}
theorem Yfd:Qg cx.bare 50 Yko:=Qg.Z0 (Cx.Yz Z1) Qos (n:=3000) (an:=.leaf) (fn:=f50) (c:=Qs f50) (by kernel_rfl) (by kernel_rfl) (fun a y h=>by obtain⟨h1,h2⟩:=Go.Sx.one_some h;subst h1;subst h2;exact Zut) (by kernel_rfl)
noncomputable def Qxt:Lx:={ext:=[(23,(((((((((((Jo.at Vn Vm).at V2 Vx).at K7 Ku).at U5 Uy).at Qa6 Qaj).at Qb6 Qcb).at Qcr Qc4).at Qel Qft).at Qhv Qik).at Qlu Qli).at Qm1 Qoa).sm),(21,(Qxs 400).sm),(135,(Quz 400).sm),(150,(Qqc 400).sm),(199,(Qmr 400).sm),(200,(Qql 400).sm),(201,(Qrx 400).sm),(202,(W6 400).sm),(160,(Zc6 400).sm),(213,(Zh5 400).sm),(214,(Zig 400).sm),(216,(Zdv 400).sm),(219,(Qvu 400).sm),(186,(Qvo 400).sm),(187,(Qv5 400).sm),(110,(Ze2 400).sm),(111,(Zhw 400).sm),(105,(Qsk 400).sm)],anns:=[(2000219,.leaf),(217,J3 (Qs f217))],still:=[]}
theorem Zfj:Qxt.Ok cx.bare:=Lx.Zj (PC.Qr (Qg.at2 (pc:=((((((((((Jo.at Vn Vm).at V2 Vx).at K7 Ku).at U5 Uy).at Qa6 Qaj).at Qb6 Qcb).at Qcr Qc4).at Qel Qft).at Qhv Qik).at Qlu Qli)) (Qg.at2 (pc:=(((((((((Jo.at Vn Vm).at V2 Vx).at K7 Ku).at U5 Uy).at Qa6 Qaj).at Qb6 Qcb).at Qcr Qc4).at Qel Qft).at Qhv Qik)) (Qg.at2 (pc:=((((((((Jo.at Vn Vm).at V2 Vx).at K7 Ku).at U5 Uy).at Qa6 Qaj).at Qb6 Qcb).at Qcr Qc4).at Qel Qft)) (Qg.at2 (pc:=(((((((Jo.at Vn Vm).at V2 Vx).at K7 Ku).at U5 Uy).at Qa6 Qaj).at Qb6 Qcb).at Qcr Qc4)) (Qg.at2 (pc:=((((((Jo.at Vn Vm).at V2 Vx).at K7 Ku).at U5 Uy).at Qa6 Qaj).at Qb6 Qcb)) (Qg.at2 (pc:=(((((Jo.at Vn Vm).at V2 Vx).at K7 Ku).at U5 Uy).at Qa6 Qaj)) (Qg.at2 (pc:=((((Jo.at Vn Vm).at V2 Vx).at K7 Ku).at U5 Uy)) (Qg.at2 (pc:=(((Jo.at Vn Vm).at V2 Vx).at K7 Ku)) (Qg.at2 (pc:=((Jo.at Vn Vm).at V2 Vx)) (Qg.at2 (pc:=(Jo.at Vn Vm)) (Qg.at2 (pc:=Jo) Zia (a0:=Vn) (y0:=Vm) Zsv) (a0:=V2) (y0:=Vx) Yhw) (a0:=K7) (y0:=Ku) Yjc) (a0:=U5) (y0:=Uy) Zty) (a0:=Qa6) (y0:=Qaj) Zyb) (a0:=Qb6) (y0:=Qcb) Yhb) (a0:=Qcr) (y0:=Qc4) Zy9) (a0:=Qel) (y0:=Qft) Zri) (a0:=Qhv) (y0:=Qik) Zu4) (a0:=Qlu) (y0:=Qli) Zq5) (a0:=Qm1) (y0:=Qoa) Zwy)) (Lx.Zj (PC.Qr (Qt7 400).bare) (Lx.Zj (PC.Qr (Qvc 400).bare) (Lx.Zj (PF.Qr (Wy 400).bare) (Lx.Zj (PF.Qr (Xy 400).bare) (Lx.Zj (PF.Qr (Qnf 400).bare) (Lx.Zj (PF.Qr (Xm 400).bare) (Lx.Zj (PF.Qr (Xt 400).bare) (Lx.Zj (PC.Qr (K5 400).bare) (Lx.Zj (PC.Qr (Kj 400).bare) (Lx.Zj (PC.Qr (Kk 400).bare) (Lx.Zj (PC.Qr (Kn 400).bare) (Lx.Zj (PC.Qr (Vw 400).bare) (Lx.Zj (PC.Qr (Jg 400).bare) (Lx.Zj (PC.Qr (W9 400).bare) (Lx.Zj (PC.Qr (Y1 400).bare) (Lx.Zj (PC.Qr (Vq 400).bare) (Lx.Zj (PC.Qr (Qto 400).bare) (Lx.Uc))))))))))))))))))
def Zex:(Q7)×List (Ze):=(opn,Qh7)
def Qyu:(Qh)×List (Int×Int)×Int:=(stS,[],0)
abbrev Qiy:List Qd:=[.agg [.int .i64,.int .i64,.int .i64,.int .i64,.seq [.str,.str,.str,.int .i64,.int .i64,.int .i64,.int .i64,.str,.int .i64,.str,.int .i64]],.val (.seq [.int .i64,.str,.str,.str,.str,.str,.int .i64,.int .i64,.str,.int .i64,.str,.seq [.str]])]
abbrev Qgi:List Qd:=[.agg [.seq [.str],.seq [.str,.str,.int .i64,.str],.seq [.str,.int .i64,.int .i64],.seq [.str,.str,.str,.int .i64,.str,.int .i64,.bool],.seq [.str,.str,.seq [.str]]],.val (.seq [.int .i64,.int .i64]),.val (.int .i64)]
theorem Zzs:Zl cx.bare Qxt 3000 .leaf f29 (Qs f29) Qiy Qgi Zex=some Qyu:=by kernel_rfl
noncomputable def Qra:PC:={ats:=Qiy,rts:=Qgi,code:=Go.Sx.one (ats:=Qiy) (rts:=Qgi) Zex Qyu}
theorem Qzs:Qg cx.bare 29 Qra:=Qg.Z0 (Cx.Yz Z1) Zfj (n:=3000) (an:=.leaf) (fn:=f29) (c:=Qs f29) (by kernel_rfl) (by kernel_rfl) (fun a y h=>by obtain⟨h1,h2⟩:=Go.Sx.one_some h;subst h1;subst h2;exact Zzs) (by kernel_rfl)
def Qrf:(Q7)×List (Ze):=(opn,Qh7++[(7960,bs [119,105,116,104,100,114,97,119],bs [97,109,121],bs [],bs [],bs [115,112,114,105,110,116],0,0,bs [],0,bs [],[])])
def Qpw:(Qh)×List (Int×Int)×Int:=(stT,[],0)
theorem Zko:Zl cx.bare Qxt 3000 .leaf f29 (Qs f29) Qiy Qgi Qrf=some Qpw:=by kernel_rfl
noncomputable def Yc1:PC:={ats:=Qiy,rts:=Qgi,code:=Go.Sx.one (ats:=Qiy) (rts:=Qgi) Qrf Qpw}
theorem Yca:Qg cx.bare 29 Yc1:=Qg.Z0 (Cx.Yz Z1) Zfj (n:=3000) (an:=.leaf) (fn:=f29) (c:=Qs f29) (by kernel_rfl) (by kernel_rfl) (fun a y h=>by obtain⟨h1,h2⟩:=Go.Sx.one_some h;subst h1;subst h2;exact Zko) (by kernel_rfl)
noncomputable def Zev:Lx:={ext:=[(29,(Qra.at Qrf Qpw).sm),(131,(Zgb 400).sm),(86,(Zdb 400).sm),(84,(Zdo 400).sm),(139,(Zgf 400).sm),(129,(Qxh 400).sm)],anns:=[],still:=[]}
theorem Ydq:Zev.Ok cx.bare:=Lx.Zj (PC.Qr (Qg.at2 (pc:=Qra) Qzs (a0:=Qrf) (y0:=Qpw) Yca)) (Lx.Zj (PC.Qr (Qbi 400).bare) (Lx.Zj (PC.Qr (Z8 400).bare) (Lx.Zj (PC.Qr (Ya 400).bare) (Lx.Zj (PC.Qr (Qt5 400).bare) (Lx.Zj (PC.Qr (Qah 400).bare) (Lx.Uc))))))
def Zaq:(Q7)×List (Ze)×List (Ze)×ByteArray:=(opn,Qh7,Qh7++[(7960,bs [119,105,116,104,100,114,97,119],bs [97,109,121],bs [],bs [],bs [115,112,114,105,110,116],0,0,bs [],0,bs [],[])],bs [115,112,114,105,110,116])
def Zg2:List ByteArray×Int:=([bs [97,109,121],bs [97,110,110]],0)
abbrev Qus:List Qd:=[.agg [.int .i64,.int .i64,.int .i64,.int .i64,.seq [.str,.str,.str,.int .i64,.int .i64,.int .i64,.int .i64,.str,.int .i64,.str,.int .i64]],.val (.seq [.int .i64,.str,.str,.str,.str,.str,.int .i64,.int .i64,.str,.int .i64,.str,.seq [.str]]),.val (.seq [.int .i64,.str,.str,.str,.str,.str,.int .i64,.int .i64,.str,.int .i64,.str,.seq [.str]]),.val .str]
theorem Zy3:Zl cx.bare Zev 3000 .leaf f46 (Qs f46) Qus Vd Zaq=some Zg2:=by kernel_rfl
noncomputable def Zit:PC:={ats:=Qus,rts:=Vd,code:=Go.Sx.one (ats:=Qus) (rts:=Vd) Zaq Zg2}
theorem Ydx:Qg cx.bare 46 Zit:=Qg.Z0 (Cx.Yz Z1) Ydq (n:=3000) (an:=.leaf) (fn:=f46) (c:=Qs f46) (by kernel_rfl) (by kernel_rfl) (fun a y h=>by obtain⟨h1,h2⟩:=Go.Sx.one_some h;subst h1;subst h2;exact Zy3) (by kernel_rfl)
noncomputable def Zg9:Lx:={ext:=[(25,(Qtx 400).sm),(99,(Qq7 400).sm),(21,(Qxs 400).sm),(98,(Qqq 400).sm),(129,(Qxh 400).sm),(126,(Zav 400).sm),(137,(Zih 400).sm),(138,(Zc9 400).sm)],anns:=[(148,.typ 6 106 [.str,.str,.str,.int .i64,.str,.int .i64,.bool] .leaf)],still:=[]}
theorem Zx9:Zg9.Ok cx.bare:=Lx.Zj (PC.Qr (Qdz 400).bare) (Lx.Zj (PC.Qr (Vk 400).bare) (Lx.Zj (PC.Qr (Qt7 400).bare) (Lx.Zj (PC.Qr (Vu 400).bare) (Lx.Zj (PC.Qr (Qah 400).bare) (Lx.Zj (PC.Qr (Qgf 400).bare) (Lx.Zj (PC.Qr (Qxw 400).bare) (Lx.Zj (PC.Qr (Qw6 400).bare) (Lx.Uc))))))))
def Zh1:(Q7)×(Qh)×ByteArray:=(opn,stY,bs [115,112,114,105,110,116])
def Zc1:List ByteArray×Int:=([bs [97,109,121]],0)
theorem Yoi:Zl cx.bare Zg9 3000 .leaf f69 (Qs f69) U4 Vd Zh1=some Zc1:=by kernel_rfl
noncomputable def Qzw:PC:={ats:=U4,rts:=Vd,code:=Go.Sx.one (ats:=U4) (rts:=Vd) Zh1 Zc1}
theorem Zzq:Qg cx.bare 69 Qzw:=Qg.Z0 (Cx.Yz Z1) Zx9 (n:=3000) (an:=.leaf) (fn:=f69) (c:=Qs f69) (by kernel_rfl) (by kernel_rfl) (fun a y h=>by obtain⟨h1,h2⟩:=Go.Sx.one_some h;subst h1;subst h2;exact Yoi) (by kernel_rfl)
end Go.Proofs.Tryz

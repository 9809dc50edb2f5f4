/- awake: CheckAct, Legal and Next at further acts awake: Replay and Changed at the examples And further parts. -/
import Derived.Test.YtpkbmngnolhopaaGreatDoorXTeW0
set_option maxRecDepth 1000000
set_option linter.unusedVariables false
namespace Go.Proofs.Tryz
open Go Go.Sx
noncomputable def Qb0:Lx:={ext:=[(98,(Qph 400).sm),(99,(Qox 400).sm)],anns:=[],still:=[]}
theorem Qel:Qb0.Ok cx.bare:=Lx.Ze (PC.Qs (Ve 400).bare) (Lx.Ze (PC.Qs (Wk 400).bare) (Lx.V8))
def Zdm:(Q6):=(7960,bs [119,105,116,104,100,114,97,119],bs [97,109,121],bs [],bs [],bs [115,112,114,105,110,116],0,0,bs [],0,bs [],[])
def Zb0:Int:=0
theorem Yhc:Zs cx.bare Qb0 3000 .leaf f23 (Qr f23) Zw Zf Zdm=some Zb0:=by kernel_rfl
noncomputable def Ja:PC:={ats:=Zw,rts:=Zf,code:=Go.Sx.one (ats:=Zw) (rts:=Zf) Zdm Zb0}
theorem Zel:Qg cx.bare 23 Ja:=Qg.Z3 (Cx.Yo Z4) Qel (n:=3000) (an:=.leaf) (fn:=f23) (c:=Qr f23) (by kernel_rfl) (by kernel_rfl) (fun a y h=>by obtain⟨h1,h2⟩:=Go.Sx.one_some h;subst h1;subst h2;exact Yhc) (by kernel_rfl)
def U6:(Q6):=(7960,bs [116,101,97,109],bs [],bs [65],bs [],bs [114,101,108,97,121],0,0,bs [],0,bs [],[bs [97,110,110],bs [97,109,121]])
def Qad:Int:=0
theorem Zo0:Zs cx.bare Qb0 3000 .leaf f23 (Qr f23) Zw Zf U6=some Qad:=by kernel_rfl
noncomputable def Zlr:PC:={ats:=Zw,rts:=Zf,code:=Go.Sx.one (ats:=Zw) (rts:=Zf) U6 Qad}
theorem Yfu:Qg cx.bare 23 Zlr:=Qg.Z3 (Cx.Yo Z4) Qel (n:=3000) (an:=.leaf) (fn:=f23) (c:=Qr f23) (by kernel_rfl) (by kernel_rfl) (fun a y h=>by obtain⟨h1,h2⟩:=Go.Sx.one_some h;subst h1;subst h2;exact Zo0) (by kernel_rfl)
def Qbz:(Q6):=(8000,bs [99,104,101,99,107],bs [97,110,110],bs [],bs [],bs [115,112,114,105,110,116],0,0,bs [],0,bs [],[])
def Qbv:Int:=0
theorem Yi2:Zs cx.bare Qb0 3000 .leaf f23 (Qr f23) Zw Zf Qbz=some Qbv:=by kernel_rfl
noncomputable def Ya7:PC:={ats:=Zw,rts:=Zf,code:=Go.Sx.one (ats:=Zw) (rts:=Zf) Qbz Qbv}
theorem Zrc:Qg cx.bare 23 Ya7:=Qg.Z3 (Cx.Yo Z4) Qel (n:=3000) (an:=.leaf) (fn:=f23) (c:=Qr f23) (by kernel_rfl) (by kernel_rfl) (fun a y h=>by obtain⟨h1,h2⟩:=Go.Sx.one_some h;subst h1;subst h2;exact Yi2) (by kernel_rfl)
def Qep:(Q6):=(8000,bs [99,104,101,99,107],bs [97,109,121],bs [],bs [],bs [115,112,114,105,110,116],0,0,bs [],0,bs [],[])
def Qdi:Int:=0
theorem Zjw:Zs cx.bare Qb0 3000 .leaf f23 (Qr f23) Zw Zf Qep=some Qdi:=by kernel_rfl
noncomputable def Zyl:PC:={ats:=Zw,rts:=Zf,code:=Go.Sx.one (ats:=Zw) (rts:=Zf) Qep Qdi}
theorem Yir:Qg cx.bare 23 Zyl:=Qg.Z3 (Cx.Yo Z4) Qel (n:=3000) (an:=.leaf) (fn:=f23) (c:=Qr f23) (by kernel_rfl) (by kernel_rfl) (fun a y h=>by obtain⟨h1,h2⟩:=Go.Sx.one_some h;subst h1;subst h2;exact Zjw) (by kernel_rfl)
def Qg6:(Q6):=(7960,bs [101,110,116,101,114],bs [97,109,121],bs [],bs [],bs [115,112,114,105,110,116],0,0,bs [116,105,109,101],125000,bs [],[])
def Qf0:Int:=0
theorem Zw7:Zs cx.bare Qb0 3000 .leaf f23 (Qr f23) Zw Zf Qg6=some Qf0:=by kernel_rfl
noncomputable def Zi9:PC:={ats:=Zw,rts:=Zf,code:=Go.Sx.one (ats:=Zw) (rts:=Zf) Qg6 Qf0}
theorem Zz8:Qg cx.bare 23 Zi9:=Qg.Z3 (Cx.Yo Z4) Qel (n:=3000) (an:=.leaf) (fn:=f23) (c:=Qr f23) (by kernel_rfl) (by kernel_rfl) (fun a y h=>by obtain⟨h1,h2⟩:=Go.Sx.one_some h;subst h1;subst h2;exact Zw7) (by kernel_rfl)
def Qjg:(Q6):=(7999,bs [101,110,116,101,114],bs [97,109,121],bs [],bs [],bs [115,112,114,105,110,116],0,0,bs [116,105,109,101],115000,bs [],[])
def Qkw:Int:=0
theorem Zik:Zs cx.bare Qb0 3000 .leaf f23 (Qr f23) Zw Zf Qjg=some Qkw:=by kernel_rfl
noncomputable def Yc3:PC:={ats:=Zw,rts:=Zf,code:=Go.Sx.one (ats:=Zw) (rts:=Zf) Qjg Qkw}
theorem Zly:Qg cx.bare 23 Yc3:=Qg.Z3 (Cx.Yo Z4) Qel (n:=3000) (an:=.leaf) (fn:=f23) (c:=Qr f23) (by kernel_rfl) (by kernel_rfl) (fun a y h=>by obtain⟨h1,h2⟩:=Go.Sx.one_some h;subst h1;subst h2;exact Zik) (by kernel_rfl)
def Qpw:(Q6):=(7960,bs [116,101,97,109],bs [],bs [65],bs [],bs [114,101,108,97,121],0,0,bs [],0,bs [],[bs [97,110,110],bs [98,101,97]])
def Qmy:Int:=0
theorem Znn:Zs cx.bare Qb0 3000 .leaf f23 (Qr f23) Zw Zf Qpw=some Qmy:=by kernel_rfl
noncomputable def Zib:PC:={ats:=Zw,rts:=Zf,code:=Go.Sx.one (ats:=Zw) (rts:=Zf) Qpw Qmy}
theorem Zs6:Qg cx.bare 23 Zib:=Qg.Z3 (Cx.Yo Z4) Qel (n:=3000) (an:=.leaf) (fn:=f23) (c:=Qr f23) (by kernel_rfl) (by kernel_rfl) (fun a y h=>by obtain⟨h1,h2⟩:=Go.Sx.one_some h;subst h1;subst h2;exact Znn) (by kernel_rfl)
noncomputable def Qbq:Lx:={ext:=[(23,((((((Ja.at U6 Qad).at Qbz Qbv).at Qep Qdi).at Qg6 Qf0).at Qjg Qkw).at Qpw Qmy).sm),(25,(Qul 400).sm),(135,(Qsh 400).sm)],anns:=[],still:=[]}
theorem Qdo:Qbq.Ok cx.bare:=Lx.Ze (PC.Qs (Qg.at2 (pc:=(((((Ja.at U6 Qad).at Qbz Qbv).at Qep Qdi).at Qg6 Qf0).at Qjg Qkw)) (Qg.at2 (pc:=((((Ja.at U6 Qad).at Qbz Qbv).at Qep Qdi).at Qg6 Qf0)) (Qg.at2 (pc:=(((Ja.at U6 Qad).at Qbz Qbv).at Qep Qdi)) (Qg.at2 (pc:=((Ja.at U6 Qad).at Qbz Qbv)) (Qg.at2 (pc:=(Ja.at U6 Qad)) (Qg.at2 (pc:=Ja) Zel (a0:=U6) (y0:=Qad) Yfu) (a0:=Qbz) (y0:=Qbv) Zrc) (a0:=Qep) (y0:=Qdi) Yir) (a0:=Qg6) (y0:=Qf0) Zz8) (a0:=Qjg) (y0:=Qkw) Zly) (a0:=Qpw) (y0:=Qmy) Zs6)) (Lx.Ze (PC.Qs (Qfu 400).bare) (Lx.Ze (PC.Qs (Qwe 400).bare) (Lx.V8)))
def Zgw:(Zo)×(Qk)×(Q6):=(opn,stS,(7960,bs [119,105,116,104,100,114,97,119],bs [97,109,121],bs [],bs [],bs [115,112,114,105,110,116],0,0,bs [],0,bs [],[]))
def Qza:Int:=0
abbrev Yw:List Qf:=[.agg [.int .i64,.int .i64,.int .i64,.int .i64,.seq [.str,.str,.str,.int .i64,.int .i64,.int .i64,.int .i64,.str,.int .i64,.str,.int .i64]],.agg [.seq [.str],.seq [.str,.str,.int .i64,.str],.seq [.str,.int .i64,.int .i64],.seq [.str,.str,.str,.int .i64,.str,.int .i64,.bool],.seq [.str,.str,.seq [.str]]],.agg [.int .i64,.str,.str,.str,.str,.str,.int .i64,.int .i64,.str,.int .i64,.str,.seq [.str]]]
theorem Yiv:Zs cx.bare Qbq 3000 .leaf f49 (Qr f49) Yw Zf Zgw=some Qza:=by kernel_rfl
noncomputable def Qi0:PC:={ats:=Yw,rts:=Zf,code:=Go.Sx.one (ats:=Yw) (rts:=Zf) Zgw Qza}
theorem Yk5:Qg cx.bare 49 Qi0:=Qg.Z3 (Cx.Yo Z4) Qdo (n:=3000) (an:=.leaf) (fn:=f49) (c:=Qr f49) (by kernel_rfl) (by kernel_rfl) (fun a y h=>by obtain⟨h1,h2⟩:=Go.Sx.one_some h;subst h1;subst h2;exact Yiv) (by kernel_rfl)
def Qe0:(Zo)×(Qk)×(Q6):=(opn,stS,(7960,bs [116,101,97,109],bs [],bs [65],bs [],bs [114,101,108,97,121],0,0,bs [],0,bs [],[bs [97,110,110],bs [97,109,121]]))
def Qgo:Int:=0
theorem Ylq:Zs cx.bare Qbq 3000 .leaf f49 (Qr f49) Yw Zf Qe0=some Qgo:=by kernel_rfl
noncomputable def Zy3:PC:={ats:=Yw,rts:=Zf,code:=Go.Sx.one (ats:=Yw) (rts:=Zf) Qe0 Qgo}
theorem Zrf:Qg cx.bare 49 Zy3:=Qg.Z3 (Cx.Yo Z4) Qdo (n:=3000) (an:=.leaf) (fn:=f49) (c:=Qr f49) (by kernel_rfl) (by kernel_rfl) (fun a y h=>by obtain⟨h1,h2⟩:=Go.Sx.one_some h;subst h1;subst h2;exact Ylq) (by kernel_rfl)
def Qjh:(Zo)×(Qk)×(Q6):=(opn,stS,(8000,bs [99,104,101,99,107],bs [97,110,110],bs [],bs [],bs [115,112,114,105,110,116],0,0,bs [],0,bs [],[]))
def Qi4:Int:=0
theorem Zyr:Zs cx.bare Qbq 3000 .leaf f49 (Qr f49) Yw Zf Qjh=some Qi4:=by kernel_rfl
noncomputable def Ygu:PC:={ats:=Yw,rts:=Zf,code:=Go.Sx.one (ats:=Yw) (rts:=Zf) Qjh Qi4}
theorem Yay:Qg cx.bare 49 Ygu:=Qg.Z3 (Cx.Yo Z4) Qdo (n:=3000) (an:=.leaf) (fn:=f49) (c:=Qr f49) (by kernel_rfl) (by kernel_rfl) (fun a y h=>by obtain⟨h1,h2⟩:=Go.Sx.one_some h;subst h1;subst h2;exact Zyr) (by kernel_rfl)
def Qmk:(Zo)×(Qk)×(Q6):=(opn,stX,(8000,bs [99,104,101,99,107],bs [97,109,121],bs [],bs [],bs [115,112,114,105,110,116],0,0,bs [],0,bs [],[]))
def Ql5:Int:=0
theorem Zxv:Zs cx.bare Qbq 3000 .leaf f49 (Qr f49) Yw Zf Qmk=some Ql5:=by kernel_rfl
noncomputable def Zp9:PC:={ats:=Yw,rts:=Zf,code:=Go.Sx.one (ats:=Yw) (rts:=Zf) Qmk Ql5}
theorem Yic:Qg cx.bare 49 Zp9:=Qg.Z3 (Cx.Yo Z4) Qdo (n:=3000) (an:=.leaf) (fn:=f49) (c:=Qr f49) (by kernel_rfl) (by kernel_rfl) (fun a y h=>by obtain⟨h1,h2⟩:=Go.Sx.one_some h;subst h1;subst h2;exact Zxv) (by kernel_rfl)
def Qxu:(Zo)×(Qk)×(Q6):=(opn,stT,(7960,bs [101,110,116,101,114],bs [97,109,121],bs [],bs [],bs [115,112,114,105,110,116],0,0,bs [116,105,109,101],125000,bs [],[]))
def Za9:Int:=30
theorem Zjk:Zs cx.bare Qbq 3000 .leaf f49 (Qr f49) Yw Zf Qxu=some Za9:=by kernel_rfl
noncomputable def Qn9:PC:={ats:=Yw,rts:=Zf,code:=Go.Sx.one (ats:=Yw) (rts:=Zf) Qxu Za9}
theorem Zrv:Qg cx.bare 49 Qn9:=Qg.Z3 (Cx.Yo Z4) Qdo (n:=3000) (an:=.leaf) (fn:=f49) (c:=Qr f49) (by kernel_rfl) (by kernel_rfl) (fun a y h=>by obtain⟨h1,h2⟩:=Go.Sx.one_some h;subst h1;subst h2;exact Zjk) (by kernel_rfl)
def Qkc:(Zo)×(Qk)×(Q6):=(opn,stT,(7999,bs [101,110,116,101,114],bs [97,109,121],bs [],bs [],bs [115,112,114,105,110,116],0,0,bs [116,105,109,101],115000,bs [],[]))
def Qjq:Int:=19
theorem Yh5:Zs cx.bare Qbq 3000 .leaf f49 (Qr f49) Yw Zf Qkc=some Qjq:=by kernel_rfl
noncomputable def Zz3:PC:={ats:=Yw,rts:=Zf,code:=Go.Sx.one (ats:=Yw) (rts:=Zf) Qkc Qjq}
theorem Ybh:Qg cx.bare 49 Zz3:=Qg.Z3 (Cx.Yo Z4) Qdo (n:=3000) (an:=.leaf) (fn:=f49) (c:=Qr f49) (by kernel_rfl) (by kernel_rfl) (fun a y h=>by obtain⟨h1,h2⟩:=Go.Sx.one_some h;subst h1;subst h2;exact Yh5) (by kernel_rfl)
def Qor:(Zo)×(Qk)×(Q6):=(opn,stT,(7960,bs [116,101,97,109],bs [],bs [65],bs [],bs [114,101,108,97,121],0,0,bs [],0,bs [],[bs [97,110,110],bs [98,101,97]]))
def Qlo:Int:=18
theorem Yci:Zs cx.bare Qbq 3000 .leaf f49 (Qr f49) Yw Zf Qor=some Qlo:=by kernel_rfl
noncomputable def Zxl:PC:={ats:=Yw,rts:=Zf,code:=Go.Sx.one (ats:=Yw) (rts:=Zf) Qor Qlo}
theorem Yd0:Qg cx.bare 49 Zxl:=Qg.Z3 (Cx.Yo Z4) Qdo (n:=3000) (an:=.leaf) (fn:=f49) (c:=Qr f49) (by kernel_rfl) (by kernel_rfl) (fun a y h=>by obtain⟨h1,h2⟩:=Go.Sx.one_some h;subst h1;subst h2;exact Yci) (by kernel_rfl)
noncomputable def Qwk:Lx:={ext:=[(150,(Qnc 400).sm),(199,(Qoc 400).sm),(200,(Qmo 400).sm),(201,(Qo4 400).sm),(202,(Qmx 400).sm)],anns:=[],still:=[]}
theorem Zd3:Qwk.Ok cx.bare:=Lx.Ze (PF.Qs (Wi 400).bare) (Lx.Ze (PF.Qs (Jx 400).bare) (Lx.Ze (PF.Qs (Qpl 400).bare) (Lx.Ze (PF.Qs (Jg 400).bare) (Lx.Ze (PF.Qs (J0 400).bare) (Lx.V8)))))
def Qnf:Qk:=stS
def Qoa:Qk:=stS
abbrev Vr:List Qf:=[.agg [.seq [.str],.seq [.str,.str,.int .i64,.str],.seq [.str,.int .i64,.int .i64],.seq [.str,.str,.str,.int .i64,.str,.int .i64,.bool],.seq [.str,.str,.seq [.str]]]]
theorem Zj0:Zs cx.bare Qwk 3000 .leaf f136 (Qr f136) Vr Vr Qnf=some Qoa:=by kernel_rfl
noncomputable def Ykt:PC:={ats:=Vr,rts:=Vr,code:=Go.Sx.one (ats:=Vr) (rts:=Vr) Qnf Qoa}
theorem Yfs:Qg cx.bare 136 Ykt:=Qg.Z3 (Cx.Yo Z4) Zd3 (n:=3000) (an:=.leaf) (fn:=f136) (c:=Qr f136) (by kernel_rfl) (by kernel_rfl) (fun a y h=>by obtain⟨h1,h2⟩:=Go.Sx.one_some h;subst h1;subst h2;exact Zj0) (by kernel_rfl)
def Qw7:Qk:=stX
def Zby:Qk:=stX
theorem Yil:Zs cx.bare Qwk 3000 .leaf f136 (Qr f136) Vr Vr Qw7=some Zby:=by kernel_rfl
noncomputable def Qvg:PC:={ats:=Vr,rts:=Vr,code:=Go.Sx.one (ats:=Vr) (rts:=Vr) Qw7 Zby}
theorem Yjy:Qg cx.bare 136 Qvg:=Qg.Z3 (Cx.Yo Z4) Zd3 (n:=3000) (an:=.leaf) (fn:=f136) (c:=Qr f136) (by kernel_rfl) (by kernel_rfl) (fun a y h=>by obtain⟨h1,h2⟩:=Go.Sx.one_some h;subst h1;subst h2;exact Yil) (by kernel_rfl)
noncomputable def Qkx:Lx:={ext:=[(49,(((Qi0.at Qe0 Qgo).at Qjh Qi4).at Qmk Ql5).sm),(136,(Qvg.at Qnf Qoa).sm),(150,(Qnc 400).sm),(199,(Qoc 400).sm),(200,(Qmo 400).sm),(201,(Qo4 400).sm),(202,(Qmx 400).sm),(186,(Qux 400).sm),(187,(Qqv 400).sm),(105,(Qwl 400).sm),(219,(Qv8 400).sm)],anns:=[(217,Jv (Qr f217)),(2000219,.leaf)],still:=[]}
theorem Qnb:Qkx.Ok cx.bare:=Lx.Ze (PC.Qs (Qg.at2 (pc:=((Qi0.at Qe0 Qgo).at Qjh Qi4)) (Qg.at2 (pc:=(Qi0.at Qe0 Qgo)) (Qg.at2 (pc:=Qi0) Yk5 (a0:=Qe0) (y0:=Qgo) Zrf) (a0:=Qjh) (y0:=Qi4) Yay) (a0:=Qmk) (y0:=Ql5) Yic)) (Lx.Ze (PC.Qs (Qg.at2 (pc:=Qvg) Yjy (a0:=Qnf) (y0:=Qoa) Yfs)) (Lx.Ze (PF.Qs (Wi 400).bare) (Lx.Ze (PF.Qs (Jx 400).bare) (Lx.Ze (PF.Qs (Qpl 400).bare) (Lx.Ze (PF.Qs (Jg 400).bare) (Lx.Ze (PF.Qs (J0 400).bare) (Lx.Ze (PC.Qs (Wm 400).bare) (Lx.Ze (PC.Qs (Qc2 400).bare) (Lx.Ze (PC.Qs (Qvj 400).bare) (Lx.Ze (PC.Qs (Qfs 400).bare) (Lx.V8)))))))))))
def Qyf:(Zo)×(Qk)×(Q6):=(opn,stS,(7960,bs [119,105,116,104,100,114,97,119],bs [97,109,121],bs [],bs [],bs [115,112,114,105,110,116],0,0,bs [],0,bs [],[]))
def Qzc:(Qk)×Int:=(stT,0)
abbrev Vp:List Qf:=[.agg [.seq [.str],.seq [.str,.str,.int .i64,.str],.seq [.str,.int .i64,.int .i64],.seq [.str,.str,.str,.int .i64,.str,.int .i64,.bool],.seq [.str,.str,.seq [.str]]],.val (.int .i64)]
theorem Yjz:Zs cx.bare Qkx 3000 .leaf f50 (Qr f50) Yw Vp Qyf=some Qzc:=by kernel_rfl
noncomputable def Qhr:PC:={ats:=Yw,rts:=Vp,code:=Go.Sx.one (ats:=Yw) (rts:=Vp) Qyf Qzc}
theorem Ydh:Qg cx.bare 50 Qhr:=Qg.Z3 (Cx.Yo Z4) Qnb (n:=3000) (an:=.leaf) (fn:=f50) (c:=Qr f50) (by kernel_rfl) (by kernel_rfl) (fun a y h=>by obtain⟨h1,h2⟩:=Go.Sx.one_some h;subst h1;subst h2;exact Yjz) (by kernel_rfl)
def Qix:(Zo)×(Qk)×(Q6):=(opn,stS,(8000,bs [99,104,101,99,107],bs [97,110,110],bs [],bs [],bs [115,112,114,105,110,116],0,0,bs [],0,bs [],[]))
def Qj6:(Qk)×Int:=(stX,0)
theorem Zx0:Zs cx.bare Qkx 3000 .leaf f50 (Qr f50) Yw Vp Qix=some Qj6:=by kernel_rfl
noncomputable def Zvb:PC:={ats:=Yw,rts:=Vp,code:=Go.Sx.one (ats:=Yw) (rts:=Vp) Qix Qj6}
theorem Zt1:Qg cx.bare 50 Zvb:=Qg.Z3 (Cx.Yo Z4) Qnb (n:=3000) (an:=.leaf) (fn:=f50) (c:=Qr f50) (by kernel_rfl) (by kernel_rfl) (fun a y h=>by obtain⟨h1,h2⟩:=Go.Sx.one_some h;subst h1;subst h2;exact Zx0) (by kernel_rfl)
def Ql7:(Zo)×(Qk)×(Q6):=(opn,stX,(8000,bs [99,104,101,99,107],bs [97,109,121],bs [],bs [],bs [115,112,114,105,110,116],0,0,bs [],0,bs [],[]))
def Qpc:(Qk)×Int:=(stY,0)
theorem Ybb:Zs cx.bare Qkx 3000 .leaf f50 (Qr f50) Yw Vp Ql7=some Qpc:=by kernel_rfl
noncomputable def Ydl:PC:={ats:=Yw,rts:=Vp,code:=Go.Sx.one (ats:=Yw) (rts:=Vp) Ql7 Qpc}
theorem Yep:Qg cx.bare 50 Ydl:=Qg.Z3 (Cx.Yo Z4) Qnb (n:=3000) (an:=.leaf) (fn:=f50) (c:=Qr f50) (by kernel_rfl) (by kernel_rfl) (fun a y h=>by obtain⟨h1,h2⟩:=Go.Sx.one_some h;subst h1;subst h2;exact Ybb) (by kernel_rfl)
def Qex:(Zo)×(Qk)×(Q6):=(opn,stS,(7960,bs [116,101,97,109],bs [],bs [65],bs [],bs [114,101,108,97,121],0,0,bs [],0,bs [],[bs [97,110,110],bs [97,109,121]]))
def Qew:(Qk)×Int:=(stU,0)
theorem Zmt:Zs cx.bare Qkx 3000 .leaf f50 (Qr f50) Yw Vp Qex=some Qew:=by kernel_rfl
noncomputable def Znx:PC:={ats:=Yw,rts:=Vp,code:=Go.Sx.one (ats:=Yw) (rts:=Vp) Qex Qew}
theorem Zz2:Qg cx.bare 50 Znx:=Qg.Z3 (Cx.Yo Z4) Qnb (n:=3000) (an:=.leaf) (fn:=f50) (c:=Qr f50) (by kernel_rfl) (by kernel_rfl) (fun a y h=>by obtain⟨h1,h2⟩:=Go.Sx.one_some h;subst h1;subst h2;exact Zmt) (by kernel_rfl)
noncomputable def Qua:Lx:={ext:=[(23,(((((((((((Ja.at Wp Wv).at W8 W4).at Vv V6).at Kt Ku).at Ui Ur).at U9 Qav).at Qbc Qbg).at Qdu Qc0).at Qhc Qfc).at Qh1 Qiy).at Qlk Qpz).sm),(21,(Qqs 400).sm),(135,(Qsh 400).sm),(150,(Qnc 400).sm),(199,(Qoc 400).sm),(200,(Qmo 400).sm),(201,(Qo4 400).sm),(202,(Qmx 400).sm),(160,(Zdy 400).sm),(213,(Zc7 400).sm),(214,(Zbv 400).sm),(216,(Zco 400).sm),(219,(Qv8 400).sm),(186,(Qux 400).sm),(187,(Qqv 400).sm),(110,(Zbo 400).sm),(111,(Zfi 400).sm),(105,(Qwl 400).sm)],anns:=[(2000219,.leaf),(217,Jv (Qr f217))],still:=[]}
theorem Qzb:Qua.Ok cx.bare:=Lx.Ze (PC.Qs (Qg.at2 (pc:=((((((((((Ja.at Wp Wv).at W8 W4).at Vv V6).at Kt Ku).at Ui Ur).at U9 Qav).at Qbc Qbg).at Qdu Qc0).at Qhc Qfc).at Qh1 Qiy)) (Qg.at2 (pc:=(((((((((Ja.at Wp Wv).at W8 W4).at Vv V6).at Kt Ku).at Ui Ur).at U9 Qav).at Qbc Qbg).at Qdu Qc0).at Qhc Qfc)) (Qg.at2 (pc:=((((((((Ja.at Wp Wv).at W8 W4).at Vv V6).at Kt Ku).at Ui Ur).at U9 Qav).at Qbc Qbg).at Qdu Qc0)) (Qg.at2 (pc:=(((((((Ja.at Wp Wv).at W8 W4).at Vv V6).at Kt Ku).at Ui Ur).at U9 Qav).at Qbc Qbg)) (Qg.at2 (pc:=((((((Ja.at Wp Wv).at W8 W4).at Vv V6).at Kt Ku).at Ui Ur).at U9 Qav)) (Qg.at2 (pc:=(((((Ja.at Wp Wv).at W8 W4).at Vv V6).at Kt Ku).at Ui Ur)) (Qg.at2 (pc:=((((Ja.at Wp Wv).at W8 W4).at Vv V6).at Kt Ku)) (Qg.at2 (pc:=(((Ja.at Wp Wv).at W8 W4).at Vv V6)) (Qg.at2 (pc:=((Ja.at Wp Wv).at W8 W4)) (Qg.at2 (pc:=(Ja.at Wp Wv)) (Qg.at2 (pc:=Ja) Zel (a0:=Wp) (y0:=Wv) Zxj) (a0:=W8) (y0:=W4) Zuh) (a0:=Vv) (y0:=V6) Ycg) (a0:=Kt) (y0:=Ku) Zrg) (a0:=Ui) (y0:=Ur) Ylo) (a0:=U9) (y0:=Qav) Zpg) (a0:=Qbc) (y0:=Qbg) Zui) (a0:=Qdu) (y0:=Qc0) Ydf) (a0:=Qhc) (y0:=Qfc) Zxn) (a0:=Qh1) (y0:=Qiy) Yiu) (a0:=Qlk) (y0:=Qpz) Zr8)) (Lx.Ze (PC.Qs (Qma 400).bare) (Lx.Ze (PC.Qs (Qwe 400).bare) (Lx.Ze (PF.Qs (Wi 400).bare) (Lx.Ze (PF.Qs (Jx 400).bare) (Lx.Ze (PF.Qs (Qpl 400).bare) (Lx.Ze (PF.Qs (Jg 400).bare) (Lx.Ze (PF.Qs (J0 400).bare) (Lx.Ze (PC.Qs (Qiu 400).bare) (Lx.Ze (PC.Qs (Qh6 400).bare) (Lx.Ze (PC.Qs (Qkf 400).bare) (Lx.Ze (PC.Qs (Qim 400).bare) (Lx.Ze (PC.Qs (Qfs 400).bare) (Lx.Ze (PC.Qs (Wm 400).bare) (Lx.Ze (PC.Qs (Qc2 400).bare) (Lx.Ze (PC.Qs (Xc 400).bare) (Lx.Ze (PC.Qs (W3 400).bare) (Lx.Ze (PC.Qs (Qvj 400).bare) (Lx.V8))))))))))))))))))
def Zcg:(Zo)×List (Q6):=(opn,Qgn)
def Qyw:(Qk)×List (Int×Int)×Int:=(stS,[],0)
abbrev Qgl:List Qf:=[.agg [.int .i64,.int .i64,.int .i64,.int .i64,.seq [.str,.str,.str,.int .i64,.int .i64,.int .i64,.int .i64,.str,.int .i64,.str,.int .i64]],.val (.seq [.int .i64,.str,.str,.str,.str,.str,.int .i64,.int .i64,.str,.int .i64,.str,.seq [.str]])]
abbrev Qgg:List Qf:=[.agg [.seq [.str],.seq [.str,.str,.int .i64,.str],.seq [.str,.int .i64,.int .i64],.seq [.str,.str,.str,.int .i64,.str,.int .i64,.bool],.seq [.str,.str,.seq [.str]]],.val (.seq [.int .i64,.int .i64]),.val (.int .i64)]
theorem Yln:Zs cx.bare Qua 3000 .leaf f29 (Qr f29) Qgl Qgg Zcg=some Qyw:=by kernel_rfl
noncomputable def Qo3:PC:={ats:=Qgl,rts:=Qgg,code:=Go.Sx.one (ats:=Qgl) (rts:=Qgg) Zcg Qyw}
theorem Zgp:Qg cx.bare 29 Qo3:=Qg.Z3 (Cx.Yo Z4) Qzb (n:=3000) (an:=.leaf) (fn:=f29) (c:=Qr f29) (by kernel_rfl) (by kernel_rfl) (fun a y h=>by obtain⟨h1,h2⟩:=Go.Sx.one_some h;subst h1;subst h2;exact Yln) (by kernel_rfl)
def Qmr:(Zo)×List (Q6):=(opn,Qgn++[(7960,bs [119,105,116,104,100,114,97,119],bs [97,109,121],bs [],bs [],bs [115,112,114,105,110,116],0,0,bs [],0,bs [],[])])
def Qnd:(Qk)×List (Int×Int)×Int:=(stT,[],0)
theorem Ycj:Zs cx.bare Qua 3000 .leaf f29 (Qr f29) Qgl Qgg Qmr=some Qnd:=by kernel_rfl
noncomputable def Yh9:PC:={ats:=Qgl,rts:=Qgg,code:=Go.Sx.one (ats:=Qgl) (rts:=Qgg) Qmr Qnd}
theorem Zue:Qg cx.bare 29 Yh9:=Qg.Z3 (Cx.Yo Z4) Qzb (n:=3000) (an:=.leaf) (fn:=f29) (c:=Qr f29) (by kernel_rfl) (by kernel_rfl) (fun a y h=>by obtain⟨h1,h2⟩:=Go.Sx.one_some h;subst h1;subst h2;exact Ycj) (by kernel_rfl)
noncomputable def Qw6:Lx:={ext:=[(29,(Qo3.at Qmr Qnd).sm),(131,(Qw1 400).sm),(86,(Zgo 400).sm),(84,(Qzn 400).sm),(139,(Zgm 400).sm),(129,(Qud 400).sm)],anns:=[],still:=[]}
theorem Zx5:Qw6.Ok cx.bare:=Lx.Ze (PC.Qs (Qg.at2 (pc:=Qo3) Zgp (a0:=Qmr) (y0:=Qnd) Zue)) (Lx.Ze (PC.Qs (Qb4 400).bare) (Lx.Ze (PC.Qs (Z1 400).bare) (Lx.Ze (PC.Qs (Z9 400).bare) (Lx.Ze (PC.Qs (Qrj 400).bare) (Lx.Ze (PC.Qs (Uq 400).bare) (Lx.V8))))))
def Qx9:(Zo)×List (Q6)×List (Q6)×ByteArray:=(opn,Qgn,Qgn++[(7960,bs [119,105,116,104,100,114,97,119],bs [97,109,121],bs [],bs [],bs [115,112,114,105,110,116],0,0,bs [],0,bs [],[])],bs [115,112,114,105,110,116])
def Qz3:List ByteArray×Int:=([bs [97,109,121],bs [97,110,110]],0)
abbrev Qs3:List Qf:=[.agg [.int .i64,.int .i64,.int .i64,.int .i64,.seq [.str,.str,.str,.int .i64,.int .i64,.int .i64,.int .i64,.str,.int .i64,.str,.int .i64]],.val (.seq [.int .i64,.str,.str,.str,.str,.str,.int .i64,.int .i64,.str,.int .i64,.str,.seq [.str]]),.val (.seq [.int .i64,.str,.str,.str,.str,.str,.int .i64,.int .i64,.str,.int .i64,.str,.seq [.str]]),.val .str]
theorem Zy0:Zs cx.bare Qw6 3000 .leaf f46 (Qr f46) Qs3 Wo Qx9=some Qz3:=by kernel_rfl
noncomputable def Zex:PC:={ats:=Qs3,rts:=Wo,code:=Go.Sx.one (ats:=Qs3) (rts:=Wo) Qx9 Qz3}
theorem Zxh:Qg cx.bare 46 Zex:=Qg.Z3 (Cx.Yo Z4) Zx5 (n:=3000) (an:=.leaf) (fn:=f46) (c:=Qr f46) (by kernel_rfl) (by kernel_rfl) (fun a y h=>by obtain⟨h1,h2⟩:=Go.Sx.one_some h;subst h1;subst h2;exact Zy0) (by kernel_rfl)
noncomputable def Zbz:Lx:={ext:=[(25,(Qul 400).sm),(99,(Qox 400).sm),(21,(Qqs 400).sm),(98,(Qph 400).sm),(129,(Qud 400).sm),(126,(Zdc 400).sm),(137,(Qzu 400).sm),(138,(Qxn 400).sm)],anns:=[(148,.typ 6 106 [.str,.str,.str,.int .i64,.str,.int .i64,.bool] .leaf)],still:=[]}
theorem Yd7:Zbz.Ok cx.bare:=Lx.Ze (PC.Qs (Qfu 400).bare) (Lx.Ze (PC.Qs (Wk 400).bare) (Lx.Ze (PC.Qs (Qma 400).bare) (Lx.Ze (PC.Qs (Ve 400).bare) (Lx.Ze (PC.Qs (Uq 400).bare) (Lx.Ze (PC.Qs (Qe8 400).bare) (Lx.Ze (PC.Qs (Qqb 400).bare) (Lx.Ze (PC.Qs (Qrk 400).bare) (Lx.V8))))))))
def Zec:(Zo)×(Qk)×ByteArray:=(opn,stY,bs [115,112,114,105,110,116])
def Qxt:List ByteArray×Int:=([bs [97,109,121]],0)
theorem Zx9:Zs cx.bare Zbz 3000 .leaf f69 (Qr f69) Kx Wo Zec=some Qxt:=by kernel_rfl
noncomputable def Qyu:PC:={ats:=Kx,rts:=Wo,code:=Go.Sx.one (ats:=Kx) (rts:=Wo) Zec Qxt}
theorem Yk7:Qg cx.bare 69 Qyu:=Qg.Z3 (Cx.Yo Z4) Yd7 (n:=3000) (an:=.leaf) (fn:=f69) (c:=Qr f69) (by kernel_rfl) (by kernel_rfl) (fun a y h=>by obtain⟨h1,h2⟩:=Go.Sx.one_some h;subst h1;subst h2;exact Zx9) (by kernel_rfl)
end Go.Proofs.Tryz

/- awake: CheckAct, Legal and Next at further acts awake: Replay and Changed at the examples And further parts. -/
import Derived.Test.YtpkbmngnolhopaaGreatDoorXTeW0
set_option maxRecDepth 1000000
set_option linter.unusedVariables false
namespace Go.Proofs.Tryz
open Go Go.Sx
noncomputable def Qdc:Lx:={ext:=[(98,(Qpl 400).sm),(99,(Qs4 400).sm)],anns:=[],still:=[]}
theorem Qgo:Qdc.Ok cx.bare:=Lx.Zk (PC.Qq (Ks 400).bare) (Lx.Zk (PC.Qq (Vt 400).bare) (Lx.Um))
def Zii:(Qz):=(7960,bs [119,105,116,104,100,114,97,119],bs [97,109,121],bs [],bs [],bs [115,112,114,105,110,116],0,0,bs [],0,bs [],[])
def Zfn:Int:=0
theorem Zwg:Zp cx.bare Qdc 3000 .leaf f23 (Qo f23) Ya Zm Zii=some Zfn:=by kernel_rfl
noncomputable def Js:PC:={ats:=Ya,rts:=Zm,code:=Go.Sx.one (ats:=Ya) (rts:=Zm) Zii Zfn}
theorem Zis:Qg cx.bare 23 Js:=Qg.Z6 (Cx.Y5 Z7) Qgo (n:=3000) (an:=.leaf) (fn:=f23) (c:=Qo f23) (by kernel_rfl) (by kernel_rfl) (fun a y h=>by obtain⟨h1,h2⟩:=Go.Sx.one_some h;subst h1;subst h2;exact Zwg) (by kernel_rfl)
def Qcp:(Qz):=(7960,bs [116,101,97,109],bs [],bs [65],bs [],bs [114,101,108,97,121],0,0,bs [],0,bs [],[bs [97,110,110],bs [97,109,121]])
def Qch:Int:=0
theorem Yl3:Zp cx.bare Qdc 3000 .leaf f23 (Qo f23) Ya Zm Qcp=some Qch:=by kernel_rfl
noncomputable def Zxy:PC:={ats:=Ya,rts:=Zm,code:=Go.Sx.one (ats:=Ya) (rts:=Zm) Qcp Qch}
theorem Yo6:Qg cx.bare 23 Zxy:=Qg.Z6 (Cx.Y5 Z7) Qgo (n:=3000) (an:=.leaf) (fn:=f23) (c:=Qo f23) (by kernel_rfl) (by kernel_rfl) (fun a y h=>by obtain⟨h1,h2⟩:=Go.Sx.one_some h;subst h1;subst h2;exact Yl3) (by kernel_rfl)
def Qec:(Qz):=(8000,bs [99,104,101,99,107],bs [97,110,110],bs [],bs [],bs [115,112,114,105,110,116],0,0,bs [],0,bs [],[])
def Qek:Int:=0
theorem Yef:Zp cx.bare Qdc 3000 .leaf f23 (Qo f23) Ya Zm Qec=some Qek:=by kernel_rfl
noncomputable def Ygg:PC:={ats:=Ya,rts:=Zm,code:=Go.Sx.one (ats:=Ya) (rts:=Zm) Qec Qek}
theorem Yij:Qg cx.bare 23 Ygg:=Qg.Z6 (Cx.Y5 Z7) Qgo (n:=3000) (an:=.leaf) (fn:=f23) (c:=Qo f23) (by kernel_rfl) (by kernel_rfl) (fun a y h=>by obtain⟨h1,h2⟩:=Go.Sx.one_some h;subst h1;subst h2;exact Yef) (by kernel_rfl)
def Qgp:(Qz):=(8000,bs [99,104,101,99,107],bs [97,109,121],bs [],bs [],bs [115,112,114,105,110,116],0,0,bs [],0,bs [],[])
def Qfk:Int:=0
theorem Zph:Zp cx.bare Qdc 3000 .leaf f23 (Qo f23) Ya Zm Qgp=some Qfk:=by kernel_rfl
noncomputable def Ylk:PC:={ats:=Ya,rts:=Zm,code:=Go.Sx.one (ats:=Ya) (rts:=Zm) Qgp Qfk}
theorem Ylh:Qg cx.bare 23 Ylk:=Qg.Z6 (Cx.Y5 Z7) Qgo (n:=3000) (an:=.leaf) (fn:=f23) (c:=Qo f23) (by kernel_rfl) (by kernel_rfl) (fun a y h=>by obtain⟨h1,h2⟩:=Go.Sx.one_some h;subst h1;subst h2;exact Zph) (by kernel_rfl)
def Qic:(Qz):=(7960,bs [101,110,116,101,114],bs [97,109,121],bs [],bs [],bs [115,112,114,105,110,116],0,0,bs [116,105,109,101],125000,bs [],[])
def Qip:Int:=0
theorem Zsj:Zp cx.bare Qdc 3000 .leaf f23 (Qo f23) Ya Zm Qic=some Qip:=by kernel_rfl
noncomputable def Zol:PC:={ats:=Ya,rts:=Zm,code:=Go.Sx.one (ats:=Ya) (rts:=Zm) Qic Qip}
theorem Yi7:Qg cx.bare 23 Zol:=Qg.Z6 (Cx.Y5 Z7) Qgo (n:=3000) (an:=.leaf) (fn:=f23) (c:=Qo f23) (by kernel_rfl) (by kernel_rfl) (fun a y h=>by obtain⟨h1,h2⟩:=Go.Sx.one_some h;subst h1;subst h2;exact Zsj) (by kernel_rfl)
def Qk2:(Qz):=(7999,bs [101,110,116,101,114],bs [97,109,121],bs [],bs [],bs [115,112,114,105,110,116],0,0,bs [116,105,109,101],115000,bs [],[])
def Qmr:Int:=0
theorem Yqb:Zp cx.bare Qdc 3000 .leaf f23 (Qo f23) Ya Zm Qk2=some Qmr:=by kernel_rfl
noncomputable def Ycy:PC:={ats:=Ya,rts:=Zm,code:=Go.Sx.one (ats:=Ya) (rts:=Zm) Qk2 Qmr}
theorem Yle:Qg cx.bare 23 Ycy:=Qg.Z6 (Cx.Y5 Z7) Qgo (n:=3000) (an:=.leaf) (fn:=f23) (c:=Qo f23) (by kernel_rfl) (by kernel_rfl) (fun a y h=>by obtain⟨h1,h2⟩:=Go.Sx.one_some h;subst h1;subst h2;exact Yqb) (by kernel_rfl)
def Qpe:(Qz):=(7960,bs [116,101,97,109],bs [],bs [65],bs [],bs [114,101,108,97,121],0,0,bs [],0,bs [],[bs [97,110,110],bs [98,101,97]])
def Qq1:Int:=0
theorem Znj:Zp cx.bare Qdc 3000 .leaf f23 (Qo f23) Ya Zm Qpe=some Qq1:=by kernel_rfl
noncomputable def Zvq:PC:={ats:=Ya,rts:=Zm,code:=Go.Sx.one (ats:=Ya) (rts:=Zm) Qpe Qq1}
theorem Zsm:Qg cx.bare 23 Zvq:=Qg.Z6 (Cx.Y5 Z7) Qgo (n:=3000) (an:=.leaf) (fn:=f23) (c:=Qo f23) (by kernel_rfl) (by kernel_rfl) (fun a y h=>by obtain⟨h1,h2⟩:=Go.Sx.one_some h;subst h1;subst h2;exact Znj) (by kernel_rfl)
noncomputable def Qdw:Lx:={ext:=[(23,((((((Js.at Qcp Qch).at Qec Qek).at Qgp Qfk).at Qic Qip).at Qk2 Qmr).at Qpe Qq1).sm),(25,(Qxy 400).sm),(135,(Qxs 400).sm)],anns:=[],still:=[]}
theorem Qgd:Qdw.Ok cx.bare:=Lx.Zk (PC.Qq (Qg.at2 (pc:=(((((Js.at Qcp Qch).at Qec Qek).at Qgp Qfk).at Qic Qip).at Qk2 Qmr)) (Qg.at2 (pc:=((((Js.at Qcp Qch).at Qec Qek).at Qgp Qfk).at Qic Qip)) (Qg.at2 (pc:=(((Js.at Qcp Qch).at Qec Qek).at Qgp Qfk)) (Qg.at2 (pc:=((Js.at Qcp Qch).at Qec Qek)) (Qg.at2 (pc:=(Js.at Qcp Qch)) (Qg.at2 (pc:=Js) Zis (a0:=Qcp) (y0:=Qch) Yo6) (a0:=Qec) (y0:=Qek) Yij) (a0:=Qgp) (y0:=Qfk) Ylh) (a0:=Qic) (y0:=Qip) Yi7) (a0:=Qk2) (y0:=Qmr) Yle) (a0:=Qpe) (y0:=Qq1) Zsm)) (Lx.Zk (PC.Qq (Qe0 400).bare) (Lx.Zk (PC.Qq (Qks 400).bare) (Lx.Um)))
def Zjq:(Zc)×(Qh)×(Qz):=(opn,stS,(7960,bs [119,105,116,104,100,114,97,119],bs [97,109,121],bs [],bs [],bs [115,112,114,105,110,116],0,0,bs [],0,bs [],[]))
def Zhd:Int:=0
abbrev Xa:List Qe:=[.agg [.int .i64,.int .i64,.int .i64,.int .i64,.seq [.str,.str,.str,.int .i64,.int .i64,.int .i64,.int .i64,.str,.int .i64,.str,.int .i64]],.agg [.seq [.str],.seq [.str,.str,.int .i64,.str],.seq [.str,.int .i64,.int .i64],.seq [.str,.str,.str,.int .i64,.str,.int .i64,.bool],.seq [.str,.str,.seq [.str]]],.agg [.int .i64,.str,.str,.str,.str,.str,.int .i64,.int .i64,.str,.int .i64,.str,.seq [.str]]]
theorem Yis:Zp cx.bare Qdw 3000 .leaf f49 (Qo f49) Xa Zm Zjq=some Zhd:=by kernel_rfl
noncomputable def Qmt:PC:={ats:=Xa,rts:=Zm,code:=Go.Sx.one (ats:=Xa) (rts:=Zm) Zjq Zhd}
theorem Ybo:Qg cx.bare 49 Qmt:=Qg.Z6 (Cx.Y5 Z7) Qgd (n:=3000) (an:=.leaf) (fn:=f49) (c:=Qo f49) (by kernel_rfl) (by kernel_rfl) (fun a y h=>by obtain⟨h1,h2⟩:=Go.Sx.one_some h;subst h1;subst h2;exact Yis) (by kernel_rfl)
def Qhw:(Zc)×(Qh)×(Qz):=(opn,stS,(7960,bs [116,101,97,109],bs [],bs [65],bs [],bs [114,101,108,97,121],0,0,bs [],0,bs [],[bs [97,110,110],bs [97,109,121]]))
def Qhq:Int:=0
theorem Yjx:Zp cx.bare Qdw 3000 .leaf f49 (Qo f49) Xa Zm Qhw=some Qhq:=by kernel_rfl
noncomputable def Yb8:PC:={ats:=Xa,rts:=Zm,code:=Go.Sx.one (ats:=Xa) (rts:=Zm) Qhw Qhq}
theorem Yak:Qg cx.bare 49 Yb8:=Qg.Z6 (Cx.Y5 Z7) Qgd (n:=3000) (an:=.leaf) (fn:=f49) (c:=Qo f49) (by kernel_rfl) (by kernel_rfl) (fun a y h=>by obtain⟨h1,h2⟩:=Go.Sx.one_some h;subst h1;subst h2;exact Yjx) (by kernel_rfl)
def Qki:(Zc)×(Qh)×(Qz):=(opn,stS,(8000,bs [99,104,101,99,107],bs [97,110,110],bs [],bs [],bs [115,112,114,105,110,116],0,0,bs [],0,bs [],[]))
def Qlk:Int:=0
theorem Zvl:Zp cx.bare Qdw 3000 .leaf f49 (Qo f49) Xa Zm Qki=some Qlk:=by kernel_rfl
noncomputable def Zt6:PC:={ats:=Xa,rts:=Zm,code:=Go.Sx.one (ats:=Xa) (rts:=Zm) Qki Qlk}
theorem Zp4:Qg cx.bare 49 Zt6:=Qg.Z6 (Cx.Y5 Z7) Qgd (n:=3000) (an:=.leaf) (fn:=f49) (c:=Qo f49) (by kernel_rfl) (by kernel_rfl) (fun a y h=>by obtain⟨h1,h2⟩:=Go.Sx.one_some h;subst h1;subst h2;exact Zvl) (by kernel_rfl)
def Qpc:(Zc)×(Qh)×(Qz):=(opn,stX,(8000,bs [99,104,101,99,107],bs [97,109,121],bs [],bs [],bs [115,112,114,105,110,116],0,0,bs [],0,bs [],[]))
def Qq8:Int:=0
theorem Ybx:Zp cx.bare Qdw 3000 .leaf f49 (Qo f49) Xa Zm Qpc=some Qq8:=by kernel_rfl
noncomputable def Zt4:PC:={ats:=Xa,rts:=Zm,code:=Go.Sx.one (ats:=Xa) (rts:=Zm) Qpc Qq8}
theorem Zz1:Qg cx.bare 49 Zt4:=Qg.Z6 (Cx.Y5 Z7) Qgd (n:=3000) (an:=.leaf) (fn:=f49) (c:=Qo f49) (by kernel_rfl) (by kernel_rfl) (fun a y h=>by obtain⟨h1,h2⟩:=Go.Sx.one_some h;subst h1;subst h2;exact Ybx) (by kernel_rfl)
def Zfh:(Zc)×(Qh)×(Qz):=(opn,stT,(7960,bs [101,110,116,101,114],bs [97,109,121],bs [],bs [],bs [115,112,114,105,110,116],0,0,bs [116,105,109,101],125000,bs [],[]))
def Zdg:Int:=30
theorem Zx8:Zp cx.bare Qdw 3000 .leaf f49 (Qo f49) Xa Zm Zfh=some Zdg:=by kernel_rfl
noncomputable def Qrj:PC:={ats:=Xa,rts:=Zm,code:=Go.Sx.one (ats:=Xa) (rts:=Zm) Zfh Zdg}
theorem Yj9:Qg cx.bare 49 Qrj:=Qg.Z6 (Cx.Y5 Z7) Qgd (n:=3000) (an:=.leaf) (fn:=f49) (c:=Qo f49) (by kernel_rfl) (by kernel_rfl) (fun a y h=>by obtain⟨h1,h2⟩:=Go.Sx.one_some h;subst h1;subst h2;exact Zx8) (by kernel_rfl)
def Qkv:(Zc)×(Qh)×(Qz):=(opn,stT,(7999,bs [101,110,116,101,114],bs [97,109,121],bs [],bs [],bs [115,112,114,105,110,116],0,0,bs [116,105,109,101],115000,bs [],[]))
def Qk8:Int:=19
theorem Zur:Zp cx.bare Qdw 3000 .leaf f49 (Qo f49) Xa Zm Qkv=some Qk8:=by kernel_rfl
noncomputable def Zzs:PC:={ats:=Xa,rts:=Zm,code:=Go.Sx.one (ats:=Xa) (rts:=Zm) Qkv Qk8}
theorem Yn5:Qg cx.bare 49 Zzs:=Qg.Z6 (Cx.Y5 Z7) Qgd (n:=3000) (an:=.leaf) (fn:=f49) (c:=Qo f49) (by kernel_rfl) (by kernel_rfl) (fun a y h=>by obtain⟨h1,h2⟩:=Go.Sx.one_some h;subst h1;subst h2;exact Zur) (by kernel_rfl)
def Qrv:(Zc)×(Qh)×(Qz):=(opn,stT,(7960,bs [116,101,97,109],bs [],bs [65],bs [],bs [114,101,108,97,121],0,0,bs [],0,bs [],[bs [97,110,110],bs [98,101,97]]))
def Qs3:Int:=18
theorem Ycr:Zp cx.bare Qdw 3000 .leaf f49 (Qo f49) Xa Zm Qrv=some Qs3:=by kernel_rfl
noncomputable def Zor:PC:={ats:=Xa,rts:=Zm,code:=Go.Sx.one (ats:=Xa) (rts:=Zm) Qrv Qs3}
theorem Zow:Qg cx.bare 49 Zor:=Qg.Z6 (Cx.Y5 Z7) Qgd (n:=3000) (an:=.leaf) (fn:=f49) (c:=Qo f49) (by kernel_rfl) (by kernel_rfl) (fun a y h=>by obtain⟨h1,h2⟩:=Go.Sx.one_some h;subst h1;subst h2;exact Ycr) (by kernel_rfl)
noncomputable def Qzx:Lx:={ext:=[(150,(Qsb 400).sm),(199,(Qot 400).sm),(200,(Qq2 400).sm),(201,(Qp5 400).sm),(202,(Vo 400).sm)],anns:=[],still:=[]}
theorem Zgv:Qzx.Ok cx.bare:=Lx.Zk (PF.Qq (Ve 400).bare) (Lx.Zk (PF.Qq (Xu 400).bare) (Lx.Zk (PF.Qq (Qou 400).bare) (Lx.Zk (PF.Qq (Xm 400).bare) (Lx.Zk (PF.Qq (Xn 400).bare) (Lx.Um)))))
def Qox:Qh:=stS
def Qsp:Qh:=stS
abbrev K7:List Qe:=[.agg [.seq [.str],.seq [.str,.str,.int .i64,.str],.seq [.str,.int .i64,.int .i64],.seq [.str,.str,.str,.int .i64,.str,.int .i64,.bool],.seq [.str,.str,.seq [.str]]]]
theorem Zoh:Zp cx.bare Qzx 3000 .leaf f136 (Qo f136) K7 K7 Qox=some Qsp:=by kernel_rfl
noncomputable def Zy0:PC:={ats:=K7,rts:=K7,code:=Go.Sx.one (ats:=K7) (rts:=K7) Qox Qsp}
theorem Yqn:Qg cx.bare 136 Zy0:=Qg.Z6 (Cx.Y5 Z7) Zgv (n:=3000) (an:=.leaf) (fn:=f136) (c:=Qo f136) (by kernel_rfl) (by kernel_rfl) (fun a y h=>by obtain⟨h1,h2⟩:=Go.Sx.one_some h;subst h1;subst h2;exact Zoh) (by kernel_rfl)
def Zb9:Qh:=stX
def Zft:Qh:=stX
theorem Yp7:Zp cx.bare Qzx 3000 .leaf f136 (Qo f136) K7 K7 Zb9=some Zft:=by kernel_rfl
noncomputable def Qu4:PC:={ats:=K7,rts:=K7,code:=Go.Sx.one (ats:=K7) (rts:=K7) Zb9 Zft}
theorem Zu2:Qg cx.bare 136 Qu4:=Qg.Z6 (Cx.Y5 Z7) Zgv (n:=3000) (an:=.leaf) (fn:=f136) (c:=Qo f136) (by kernel_rfl) (by kernel_rfl) (fun a y h=>by obtain⟨h1,h2⟩:=Go.Sx.one_some h;subst h1;subst h2;exact Yp7) (by kernel_rfl)
noncomputable def Qkk:Lx:={ext:=[(49,(((Qmt.at Qhw Qhq).at Qki Qlk).at Qpc Qq8).sm),(136,(Qu4.at Qox Qsp).sm),(150,(Qsb 400).sm),(199,(Qot 400).sm),(200,(Qq2 400).sm),(201,(Qp5 400).sm),(202,(Vo 400).sm),(186,(Qzc 400).sm),(187,(Qvd 400).sm),(105,(Qx5 400).sm),(219,(Qxd 400).sm)],anns:=[(217,Xy (Qo f217)),(2000219,.leaf)],still:=[]}
theorem Qsj:Qkk.Ok cx.bare:=Lx.Zk (PC.Qq (Qg.at2 (pc:=((Qmt.at Qhw Qhq).at Qki Qlk)) (Qg.at2 (pc:=(Qmt.at Qhw Qhq)) (Qg.at2 (pc:=Qmt) Ybo (a0:=Qhw) (y0:=Qhq) Yak) (a0:=Qki) (y0:=Qlk) Zp4) (a0:=Qpc) (y0:=Qq8) Zz1)) (Lx.Zk (PC.Qq (Qg.at2 (pc:=Qu4) Zu2 (a0:=Qox) (y0:=Qsp) Yqn)) (Lx.Zk (PF.Qq (Ve 400).bare) (Lx.Zk (PF.Qq (Xu 400).bare) (Lx.Zk (PF.Qq (Qou 400).bare) (Lx.Zk (PF.Qq (Xm 400).bare) (Lx.Zk (PF.Qq (Xn 400).bare) (Lx.Zk (PC.Qq (X9 400).bare) (Lx.Zk (PC.Qq (Vb 400).bare) (Lx.Zk (PC.Qq (Qyz 400).bare) (Lx.Zk (PC.Qq (Vn 400).bare) (Lx.Um)))))))))))
def Zex:(Zc)×(Qh)×(Qz):=(opn,stS,(7960,bs [119,105,116,104,100,114,97,119],bs [97,109,121],bs [],bs [],bs [115,112,114,105,110,116],0,0,bs [],0,bs [],[]))
def Zhb:(Qh)×Int:=(stT,0)
abbrev Ui:List Qe:=[.agg [.seq [.str],.seq [.str,.str,.int .i64,.str],.seq [.str,.int .i64,.int .i64],.seq [.str,.str,.str,.int .i64,.str,.int .i64,.bool],.seq [.str,.str,.seq [.str]]],.val (.int .i64)]
theorem Yh0:Zp cx.bare Qkk 3000 .leaf f50 (Qo f50) Xa Ui Zex=some Zhb:=by kernel_rfl
noncomputable def Qj9:PC:={ats:=Xa,rts:=Ui,code:=Go.Sx.one (ats:=Xa) (rts:=Ui) Zex Zhb}
theorem Zn3:Qg cx.bare 50 Qj9:=Qg.Z6 (Cx.Y5 Z7) Qsj (n:=3000) (an:=.leaf) (fn:=f50) (c:=Qo f50) (by kernel_rfl) (by kernel_rfl) (fun a y h=>by obtain⟨h1,h2⟩:=Go.Sx.one_some h;subst h1;subst h2;exact Yh0) (by kernel_rfl)
def Qmp:(Zc)×(Qh)×(Qz):=(opn,stS,(8000,bs [99,104,101,99,107],bs [97,110,110],bs [],bs [],bs [115,112,114,105,110,116],0,0,bs [],0,bs [],[]))
def Qkb:(Qh)×Int:=(stX,0)
theorem Yev:Zp cx.bare Qkk 3000 .leaf f50 (Qo f50) Xa Ui Qmp=some Qkb:=by kernel_rfl
noncomputable def Yfx:PC:={ats:=Xa,rts:=Ui,code:=Go.Sx.one (ats:=Xa) (rts:=Ui) Qmp Qkb}
theorem Zyo:Qg cx.bare 50 Yfx:=Qg.Z6 (Cx.Y5 Z7) Qsj (n:=3000) (an:=.leaf) (fn:=f50) (c:=Qo f50) (by kernel_rfl) (by kernel_rfl) (fun a y h=>by obtain⟨h1,h2⟩:=Go.Sx.one_some h;subst h1;subst h2;exact Yev) (by kernel_rfl)
def Qob:(Zc)×(Qh)×(Qz):=(opn,stX,(8000,bs [99,104,101,99,107],bs [97,109,121],bs [],bs [],bs [115,112,114,105,110,116],0,0,bs [],0,bs [],[]))
def Qsi:(Qh)×Int:=(stY,0)
theorem Zsy:Zp cx.bare Qkk 3000 .leaf f50 (Qo f50) Xa Ui Qob=some Qsi:=by kernel_rfl
noncomputable def Yhb:PC:={ats:=Xa,rts:=Ui,code:=Go.Sx.one (ats:=Xa) (rts:=Ui) Qob Qsi}
theorem Yli:Qg cx.bare 50 Yhb:=Qg.Z6 (Cx.Y5 Z7) Qsj (n:=3000) (an:=.leaf) (fn:=f50) (c:=Qo f50) (by kernel_rfl) (by kernel_rfl) (fun a y h=>by obtain⟨h1,h2⟩:=Go.Sx.one_some h;subst h1;subst h2;exact Zsy) (by kernel_rfl)
def Qii:(Zc)×(Qh)×(Qz):=(opn,stS,(7960,bs [116,101,97,109],bs [],bs [65],bs [],bs [114,101,108,97,121],0,0,bs [],0,bs [],[bs [97,110,110],bs [97,109,121]]))
def Qhi:(Qh)×Int:=(stU,0)
theorem Yrp:Zp cx.bare Qkk 3000 .leaf f50 (Qo f50) Xa Ui Qii=some Qhi:=by kernel_rfl
noncomputable def Yc9:PC:={ats:=Xa,rts:=Ui,code:=Go.Sx.one (ats:=Xa) (rts:=Ui) Qii Qhi}
theorem Ymt:Qg cx.bare 50 Yc9:=Qg.Z6 (Cx.Y5 Z7) Qsj (n:=3000) (an:=.leaf) (fn:=f50) (c:=Qo f50) (by kernel_rfl) (by kernel_rfl) (fun a y h=>by obtain⟨h1,h2⟩:=Go.Sx.one_some h;subst h1;subst h2;exact Yrp) (by kernel_rfl)
noncomputable def Qxp:Lx:={ext:=[(23,(((((((((((Js.at Vx Vp).at Ka Kf).at K0 K6).at Uw Us).at Qap Qa5).at Qcf Qb6).at Qej Qc8).at Qfm Qex).at Qio Qjx).at Qkr Qlf).at Qqg Qn6).sm),(21,(Qu6 400).sm),(135,(Qxs 400).sm),(150,(Qsb 400).sm),(199,(Qot 400).sm),(200,(Qq2 400).sm),(201,(Qp5 400).sm),(202,(Vo 400).sm),(160,(Zei 400).sm),(213,(Zbh 400).sm),(214,(Zgs 400).sm),(216,(Zdt 400).sm),(219,(Qxd 400).sm),(186,(Qzc 400).sm),(187,(Qvd 400).sm),(110,(Zdq 400).sm),(111,(Zir 400).sm),(105,(Qx5 400).sm)],anns:=[(2000219,.leaf),(217,Xy (Qo f217))],still:=[]}
theorem Zdn:Qxp.Ok cx.bare:=Lx.Zk (PC.Qq (Qg.at2 (pc:=((((((((((Js.at Vx Vp).at Ka Kf).at K0 K6).at Uw Us).at Qap Qa5).at Qcf Qb6).at Qej Qc8).at Qfm Qex).at Qio Qjx).at Qkr Qlf)) (Qg.at2 (pc:=(((((((((Js.at Vx Vp).at Ka Kf).at K0 K6).at Uw Us).at Qap Qa5).at Qcf Qb6).at Qej Qc8).at Qfm Qex).at Qio Qjx)) (Qg.at2 (pc:=((((((((Js.at Vx Vp).at Ka Kf).at K0 K6).at Uw Us).at Qap Qa5).at Qcf Qb6).at Qej Qc8).at Qfm Qex)) (Qg.at2 (pc:=(((((((Js.at Vx Vp).at Ka Kf).at K0 K6).at Uw Us).at Qap Qa5).at Qcf Qb6).at Qej Qc8)) (Qg.at2 (pc:=((((((Js.at Vx Vp).at Ka Kf).at K0 K6).at Uw Us).at Qap Qa5).at Qcf Qb6)) (Qg.at2 (pc:=(((((Js.at Vx Vp).at Ka Kf).at K0 K6).at Uw Us).at Qap Qa5)) (Qg.at2 (pc:=((((Js.at Vx Vp).at Ka Kf).at K0 K6).at Uw Us)) (Qg.at2 (pc:=(((Js.at Vx Vp).at Ka Kf).at K0 K6)) (Qg.at2 (pc:=((Js.at Vx Vp).at Ka Kf)) (Qg.at2 (pc:=(Js.at Vx Vp)) (Qg.at2 (pc:=Js) Zis (a0:=Vx) (y0:=Vp) Yf7) (a0:=Ka) (y0:=Kf) Ymd) (a0:=K0) (y0:=K6) Yrc) (a0:=Uw) (y0:=Us) Ybm) (a0:=Qap) (y0:=Qa5) Zvc) (a0:=Qcf) (y0:=Qb6) Zo9) (a0:=Qej) (y0:=Qc8) Yb4) (a0:=Qfm) (y0:=Qex) Yax) (a0:=Qio) (y0:=Qjx) Ya7) (a0:=Qkr) (y0:=Qlf) Ye7) (a0:=Qqg) (y0:=Qn6) Yq4)) (Lx.Zk (PC.Qq (Qlh 400).bare) (Lx.Zk (PC.Qq (Qks 400).bare) (Lx.Zk (PF.Qq (Ve 400).bare) (Lx.Zk (PF.Qq (Xu 400).bare) (Lx.Zk (PF.Qq (Qou 400).bare) (Lx.Zk (PF.Qq (Xm 400).bare) (Lx.Zk (PF.Qq (Xn 400).bare) (Lx.Zk (PC.Qq (V1 400).bare) (Lx.Zk (PC.Qq (V4 400).bare) (Lx.Zk (PC.Qq (V2 400).bare) (Lx.Zk (PC.Qq (V0 400).bare) (Lx.Zk (PC.Qq (Vn 400).bare) (Lx.Zk (PC.Qq (X9 400).bare) (Lx.Zk (PC.Qq (Vb 400).bare) (Lx.Zk (PC.Qq (Y4 400).bare) (Lx.Zk (PC.Qq (Ko 400).bare) (Lx.Zk (PC.Qq (Qyz 400).bare) (Lx.Um))))))))))))))))))
def Zeh:(Zc)×List (Qz):=(opn,Qh5)
def Zih:(Qh)×List (Int×Int)×Int:=(stS,[],0)
abbrev Qi0:List Qe:=[.agg [.int .i64,.int .i64,.int .i64,.int .i64,.seq [.str,.str,.str,.int .i64,.int .i64,.int .i64,.int .i64,.str,.int .i64,.str,.int .i64]],.val (.seq [.int .i64,.str,.str,.str,.str,.str,.int .i64,.int .i64,.str,.int .i64,.str,.seq [.str]])]
abbrev Qhr:List Qe:=[.agg [.seq [.str],.seq [.str,.str,.int .i64,.str],.seq [.str,.int .i64,.int .i64],.seq [.str,.str,.str,.int .i64,.str,.int .i64,.bool],.seq [.str,.str,.seq [.str]]],.val (.seq [.int .i64,.int .i64]),.val (.int .i64)]
theorem Zyp:Zp cx.bare Qxp 3000 .leaf f29 (Qo f29) Qi0 Qhr Zeh=some Zih:=by kernel_rfl
noncomputable def Qsq:PC:={ats:=Qi0,rts:=Qhr,code:=Go.Sx.one (ats:=Qi0) (rts:=Qhr) Zeh Zih}
theorem Zjk:Qg cx.bare 29 Qsq:=Qg.Z6 (Cx.Y5 Z7) Zdn (n:=3000) (an:=.leaf) (fn:=f29) (c:=Qo f29) (by kernel_rfl) (by kernel_rfl) (fun a y h=>by obtain⟨h1,h2⟩:=Go.Sx.one_some h;subst h1;subst h2;exact Zyp) (by kernel_rfl)
def Qnv:(Zc)×List (Qz):=(opn,Qh5++[(7960,bs [119,105,116,104,100,114,97,119],bs [97,109,121],bs [],bs [],bs [115,112,114,105,110,116],0,0,bs [],0,bs [],[])])
def Qn7:(Qh)×List (Int×Int)×Int:=(stT,[],0)
theorem Yge:Zp cx.bare Qxp 3000 .leaf f29 (Qo f29) Qi0 Qhr Qnv=some Qn7:=by kernel_rfl
noncomputable def Ydt:PC:={ats:=Qi0,rts:=Qhr,code:=Go.Sx.one (ats:=Qi0) (rts:=Qhr) Qnv Qn7}
theorem Yhz:Qg cx.bare 29 Ydt:=Qg.Z6 (Cx.Y5 Z7) Zdn (n:=3000) (an:=.leaf) (fn:=f29) (c:=Qo f29) (by kernel_rfl) (by kernel_rfl) (fun a y h=>by obtain⟨h1,h2⟩:=Go.Sx.one_some h;subst h1;subst h2;exact Yge) (by kernel_rfl)
noncomputable def Zdh:Lx:={ext:=[(29,(Qsq.at Qnv Qn7).sm),(131,(Zd1 400).sm),(86,(Zcv 400).sm),(84,(Zji 400).sm),(139,(Zds 400).sm),(129,(Qxq 400).sm)],anns:=[],still:=[]}
theorem Ztn:Zdh.Ok cx.bare:=Lx.Zk (PC.Qq (Qg.at2 (pc:=Qsq) Zjk (a0:=Qnv) (y0:=Qn7) Yhz)) (Lx.Zk (PC.Qq (Qd3 400).bare) (Lx.Zk (PC.Qq (Yd 400).bare) (Lx.Zk (PC.Qq (Ym 400).bare) (Lx.Zk (PC.Qq (Qw5 400).bare) (Lx.Zk (PC.Qq (Qa6 400).bare) (Lx.Um))))))
def Za4:(Zc)×List (Qz)×List (Qz)×ByteArray:=(opn,Qh5,Qh5++[(7960,bs [119,105,116,104,100,114,97,119],bs [97,109,121],bs [],bs [],bs [115,112,114,105,110,116],0,0,bs [],0,bs [],[])],bs [115,112,114,105,110,116])
def Zd5:List ByteArray×Int:=([bs [97,109,121],bs [97,110,110]],0)
abbrev Qyy:List Qe:=[.agg [.int .i64,.int .i64,.int .i64,.int .i64,.seq [.str,.str,.str,.int .i64,.int .i64,.int .i64,.int .i64,.str,.int .i64,.str,.int .i64]],.val (.seq [.int .i64,.str,.str,.str,.str,.str,.int .i64,.int .i64,.str,.int .i64,.str,.seq [.str]]),.val (.seq [.int .i64,.str,.str,.str,.str,.str,.int .i64,.int .i64,.str,.int .i64,.str,.seq [.str]]),.val .str]
theorem Yh5:Zp cx.bare Zdh 3000 .leaf f46 (Qo f46) Qyy V5 Za4=some Zd5:=by kernel_rfl
noncomputable def Zj5:PC:={ats:=Qyy,rts:=V5,code:=Go.Sx.one (ats:=Qyy) (rts:=V5) Za4 Zd5}
theorem Yog:Qg cx.bare 46 Zj5:=Qg.Z6 (Cx.Y5 Z7) Ztn (n:=3000) (an:=.leaf) (fn:=f46) (c:=Qo f46) (by kernel_rfl) (by kernel_rfl) (fun a y h=>by obtain⟨h1,h2⟩:=Go.Sx.one_some h;subst h1;subst h2;exact Yh5) (by kernel_rfl)
noncomputable def Zi0:Lx:={ext:=[(25,(Qxy 400).sm),(99,(Qs4 400).sm),(21,(Qu6 400).sm),(98,(Qpl 400).sm),(129,(Qxq 400).sm),(126,(Zbe 400).sm),(137,(Zd6 400).sm),(138,(Zka 400).sm)],anns:=[(148,.typ 6 106 [.str,.str,.str,.int .i64,.str,.int .i64,.bool] .leaf)],still:=[]}
theorem Zwq:Zi0.Ok cx.bare:=Lx.Zk (PC.Qq (Qe0 400).bare) (Lx.Zk (PC.Qq (Vt 400).bare) (Lx.Zk (PC.Qq (Qlh 400).bare) (Lx.Zk (PC.Qq (Ks 400).bare) (Lx.Zk (PC.Qq (Qa6 400).bare) (Lx.Zk (PC.Qq (Qik 400).bare) (Lx.Zk (PC.Qq (Qym 400).bare) (Lx.Zk (PC.Qq (Qwc 400).bare) (Lx.Um))))))))
def Zej:(Zc)×(Qh)×ByteArray:=(opn,stY,bs [115,112,114,105,110,116])
def Zk2:List ByteArray×Int:=([bs [97,109,121]],0)
theorem Ycw:Zp cx.bare Zi0 3000 .leaf f69 (Qo f69) U3 V5 Zej=some Zk2:=by kernel_rfl
noncomputable def Ziy:PC:={ats:=U3,rts:=V5,code:=Go.Sx.one (ats:=U3) (rts:=V5) Zej Zk2}
theorem Yn3:Qg cx.bare 69 Ziy:=Qg.Z6 (Cx.Y5 Z7) Zwq (n:=3000) (an:=.leaf) (fn:=f69) (c:=Qo f69) (by kernel_rfl) (by kernel_rfl) (fun a y h=>by obtain⟨h1,h2⟩:=Go.Sx.one_some h;subst h1;subst h2;exact Ycw) (by kernel_rfl)
end Go.Proofs.Tryz

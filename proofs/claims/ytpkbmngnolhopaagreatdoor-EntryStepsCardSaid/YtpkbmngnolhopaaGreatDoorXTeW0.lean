/- awake: its examples, and what functions of data answer awake: CheckAct at the acts of the office -/
import Derived.Test.YtpkbmngnolhopaaGreatDoorXT3i
import Derived.Test.YtpkbmngnolhopaaGreatDoorXT3u
import Derived.Test.YtpkbmngnolhopaaGreatDoorXSxQh
set_option maxRecDepth 1000000
set_option linter.unusedVariables false
namespace Go.Proofs.Tryz
open Go Go.Sx
def bs(l:List UInt8):ByteArray:=⟨⟨l⟩⟩
def opn:Zc:=(8000,7900,7990,2,[(bs [115,112,114,105,110,116],bs [116,105,109,101],bs [],16,40,2,1,bs [116,105,109,101],120000,bs [],0),(bs [106,117,109,112],bs [108,101,110,103,116,104],bs [],16,40,8,2,bs [110,111,110,101],0,bs [78,77],0),(bs [114,101,108,97,121],bs [116,105,109,101],bs [],16,40,8,1,bs [110,111,110,101],0,bs [78,77],2)])
def Qh5:List (Qz):=[(7000,bs [99,108,117,98],bs [],bs [65],bs [],bs [],0,0,bs [],0,bs [],[]),(7000,bs [99,108,117,98],bs [],bs [66],bs [],bs [],0,0,bs [],0,bs [],[]),(7000,bs [97,116,104,108,101,116,101],bs [97,110,110],bs [65],bs [119,111,109,101,110],bs [],1000,0,bs [],0,bs [],[]),(7000,bs [108,105,99,101,110,99,101],bs [97,110,110],bs [],bs [],bs [],7000,9000,bs [],0,bs [],[]),(7000,bs [97,116,104,108,101,116,101],bs [97,109,121],bs [65],bs [119,111,109,101,110],bs [],1000,0,bs [],0,bs [],[]),(7000,bs [108,105,99,101,110,99,101],bs [97,109,121],bs [],bs [],bs [],7000,9000,bs [],0,bs [],[]),(7000,bs [97,116,104,108,101,116,101],bs [98,101,97],bs [66],bs [119,111,109,101,110],bs [],1000,0,bs [],0,bs [],[]),(7000,bs [108,105,99,101,110,99,101],bs [98,101,97],bs [],bs [],bs [],7000,9000,bs [],0,bs [],[]),(7950,bs [101,110,116,101,114],bs [97,110,110],bs [],bs [],bs [115,112,114,105,110,116],0,0,bs [116,105,109,101],115000,bs [],[]),(7950,bs [101,110,116,101,114],bs [97,109,121],bs [],bs [],bs [115,112,114,105,110,116],0,0,bs [116,105,109,101],112000,bs [],[]),(7950,bs [101,110,116,101,114],bs [98,101,97],bs [],bs [],bs [115,112,114,105,110,116],0,0,bs [116,105,109,101],119000,bs [],[])]
def stS:Qh:=([bs [65],bs [66]],[(bs [97,110,110],bs [65],1000,bs [119,111,109,101,110]),(bs [97,109,121],bs [65],1000,bs [119,111,109,101,110]),(bs [98,101,97],bs [66],1000,bs [119,111,109,101,110])],[(bs [97,110,110],7000,9000),(bs [97,109,121],7000,9000),(bs [98,101,97],7000,9000)],[(bs [97,110,110],bs [115,112,114,105,110,116],bs [116,105,109,101],115000,bs [],7950,false),(bs [97,109,121],bs [115,112,114,105,110,116],bs [116,105,109,101],112000,bs [],7950,false),(bs [98,101,97],bs [115,112,114,105,110,116],bs [116,105,109,101],119000,bs [],7950,false)],[])
def stT:Qh:=([bs [65],bs [66]],[(bs [97,110,110],bs [65],1000,bs [119,111,109,101,110]),(bs [97,109,121],bs [65],1000,bs [119,111,109,101,110]),(bs [98,101,97],bs [66],1000,bs [119,111,109,101,110])],[(bs [97,110,110],7000,9000),(bs [97,109,121],7000,9000),(bs [98,101,97],7000,9000)],[(bs [97,110,110],bs [115,112,114,105,110,116],bs [116,105,109,101],115000,bs [],7950,false),(bs [98,101,97],bs [115,112,114,105,110,116],bs [116,105,109,101],119000,bs [],7950,false)],[])
def stU:Qh:=([bs [65],bs [66]],[(bs [97,110,110],bs [65],1000,bs [119,111,109,101,110]),(bs [97,109,121],bs [65],1000,bs [119,111,109,101,110]),(bs [98,101,97],bs [66],1000,bs [119,111,109,101,110])],[(bs [97,110,110],7000,9000),(bs [97,109,121],7000,9000),(bs [98,101,97],7000,9000)],[(bs [97,110,110],bs [115,112,114,105,110,116],bs [116,105,109,101],115000,bs [],7950,false),(bs [97,109,121],bs [115,112,114,105,110,116],bs [116,105,109,101],112000,bs [],7950,false),(bs [98,101,97],bs [115,112,114,105,110,116],bs [116,105,109,101],119000,bs [],7950,false)],[(bs [65],bs [114,101,108,97,121],[bs [97,110,110],bs [97,109,121]])])
def stX:Qh:=([bs [65],bs [66]],[(bs [97,110,110],bs [65],1000,bs [119,111,109,101,110]),(bs [97,109,121],bs [65],1000,bs [119,111,109,101,110]),(bs [98,101,97],bs [66],1000,bs [119,111,109,101,110])],[(bs [97,110,110],7000,9000),(bs [97,109,121],7000,9000),(bs [98,101,97],7000,9000)],[(bs [97,110,110],bs [115,112,114,105,110,116],bs [116,105,109,101],115000,bs [],7950,true),(bs [97,109,121],bs [115,112,114,105,110,116],bs [116,105,109,101],112000,bs [],7950,false),(bs [98,101,97],bs [115,112,114,105,110,116],bs [116,105,109,101],119000,bs [],7950,false)],[])
def stY:Qh:=([bs [65],bs [66]],[(bs [97,110,110],bs [65],1000,bs [119,111,109,101,110]),(bs [97,109,121],bs [65],1000,bs [119,111,109,101,110]),(bs [98,101,97],bs [66],1000,bs [119,111,109,101,110])],[(bs [97,110,110],7000,9000),(bs [97,109,121],7000,9000),(bs [98,101,97],7000,9000)],[(bs [97,110,110],bs [115,112,114,105,110,116],bs [116,105,109,101],115000,bs [],7950,true),(bs [97,109,121],bs [115,112,114,105,110,116],bs [116,105,109,101],112000,bs [],7950,true),(bs [98,101,97],bs [115,112,114,105,110,116],bs [116,105,109,101],119000,bs [],7950,false)],[])
abbrev Qqu:List Ty:=[.int .i64,.str,.str,.str,.str,.str,.int .i64,.int .i64,.str,.int .i64,.str,.seq [.str]]
noncomputable def lxF:Lx:={ext:=[(83,(Qvo 400).sm)],anns:=[],still:=[]}
theorem Ylu:lxF.Ok cx.bare:=Lx.Zk (PC.Qq (Zfp 400).bare) (Lx.Um)
noncomputable def Zit:PF:={ats:=[],ty:=35,row:=Qqu,code:=fun _=>some Qh5}
theorem q82:codeF cx.bare lxF 3000 (Qcg (.typ 0 35 Qqu .leaf) (Qo f82)) f82 (Qo f82) [] 35 Qqu ()=some Qh5:=by kernel_rfl
theorem Yf4:Wh cx.bare 82 Zit:=Wh.Z6 (Cx.Y5 Z7) Ylu (n:=3000) (an:=Qcg (.typ 0 35 Qqu .leaf) (Qo f82)) (fn:=f82) (c:=Qo f82) (by kernel_rfl) (by kernel_rfl) (fun a y h=>q82.trans h) (by kernel_rfl)
def Qvc:(Zc)×(Qh)×ByteArray:=(opn,stS,bs [115,112,114,105,110,116])
def Qua:List ByteArray×Int:=([bs [97,109,121],bs [98,101,97]],0)
abbrev U3:List Qe:=[.agg [.int .i64,.int .i64,.int .i64,.int .i64,.seq [.str,.str,.str,.int .i64,.int .i64,.int .i64,.int .i64,.str,.int .i64,.str,.int .i64]],.agg [.seq [.str],.seq [.str,.str,.int .i64,.str],.seq [.str,.int .i64,.int .i64],.seq [.str,.str,.str,.int .i64,.str,.int .i64,.bool],.seq [.str,.str,.seq [.str]]],.val .str]
abbrev V5:List Qe:=[.val (.seq [.str]),.val (.int .i64)]
theorem Zsa:(Qyr 400).code Qvc=some Qua:=by kernel_rfl
noncomputable def Qwz:PC:={ats:=U3,rts:=V5,code:=Go.Sx.one (ats:=U3) (rts:=V5) Qvc Qua}
theorem Zzn:Qg cx.bare 52 Qwz:=(Zcl 400).bare.one Qvc Qua Zsa
def Quq:(Zc)×(Qh)×ByteArray:=(opn,stS,bs [115,112,114,105,110,116])
def Qx6:List ByteArray×Int:=([bs [97,110,110]],0)
theorem Yj4:(Zd7 400).code Quq=some Qx6:=by kernel_rfl
noncomputable def Zkp:PC:={ats:=U3,rts:=V5,code:=Go.Sx.one (ats:=U3) (rts:=V5) Quq Qx6}
theorem Zv6:Qg cx.bare 56 Zkp:=(Yoa 400).bare.one Quq Qx6 Yj4
def Qld:(Zc)×(Qh)×ByteArray:=(opn,stT,bs [115,112,114,105,110,116])
def Qmz:List ByteArray×Int:=([bs [97,110,110],bs [98,101,97]],0)
theorem Yhk:(Qyr 400).code Qld=some Qmz:=by kernel_rfl
noncomputable def Ztw:PC:={ats:=U3,rts:=V5,code:=Go.Sx.one (ats:=U3) (rts:=V5) Qld Qmz}
theorem Zze:Qg cx.bare 52 Ztw:=(Zcl 400).bare.one Qld Qmz Yhk
def Qxe:(Zc)×(Qh):=(opn,stU)
def Qy6:List (ByteArray×ByteArray)×Int:=([(bs [115,112,114,105,110,116],bs [114,101,108,97,121])],0)
abbrev Qq6:List Qe:=[.agg [.int .i64,.int .i64,.int .i64,.int .i64,.seq [.str,.str,.str,.int .i64,.int .i64,.int .i64,.int .i64,.str,.int .i64,.str,.int .i64]],.agg [.seq [.str],.seq [.str,.str,.int .i64,.str],.seq [.str,.int .i64,.int .i64],.seq [.str,.str,.str,.int .i64,.str,.int .i64,.bool],.seq [.str,.str,.seq [.str]]]]
abbrev Za5:List Qe:=[.val (.seq [.str,.str]),.val (.int .i64)]
theorem Yb3:(Ze8 400).code Qxe=some Qy6:=by kernel_rfl
noncomputable def Zba:PC:={ats:=Qq6,rts:=Za5,code:=Go.Sx.one (ats:=Qq6) (rts:=Za5) Qxe Qy6}
theorem Zmz:Qg cx.bare 37 Zba:=(Zss 400).bare.one Qxe Qy6 Yb3
def Qul:(Zc)×(Qh):=(opn,stS)
def Qtl:List Int×Int:=([2,1],0)
abbrev Zeq:List Qe:=[.val (.seq [.int .i64]),.val (.int .i64)]
theorem Yo5:(Zet 400).code Qul=some Qtl:=by kernel_rfl
noncomputable def Zcp:PC:={ats:=Qq6,rts:=Zeq,code:=Go.Sx.one (ats:=Qq6) (rts:=Zeq) Qul Qtl}
theorem Zns:Qg cx.bare 38 Zcp:=(Ztp 400).bare.one Qul Qtl Yo5
def Qyx:(Zc)×(Qh)×ByteArray:=(opn,stU,bs [97,110,110])
def Qyn:List ByteArray×Int:=([bs [115,112,114,105,110,116],bs [114,101,108,97,121]],0)
theorem Zsi:(Zeg 400).code Qyx=some Qyn:=by kernel_rfl
noncomputable def Zcm:PC:={ats:=U3,rts:=V5,code:=Go.Sx.one (ats:=U3) (rts:=V5) Qyx Qyn}
theorem Ypa:Qg cx.bare 36 Zcm:=(Zqm 400).bare.one Qyx Qyn Zsi
noncomputable def Ud:Lx:={ext:=[(98,(Qpl 400).sm),(99,(Qs4 400).sm)],anns:=[],still:=[]}
theorem Ux:Ud.Ok cx.bare:=Lx.Zk (PC.Qq (Ks 400).bare) (Lx.Zk (PC.Qq (Vt 400).bare) (Lx.Um))
def Vx:(Qz):=(7000,bs [99,108,117,98],bs [],bs [65],bs [],bs [],0,0,bs [],0,bs [],[])
def Vp:Int:=0
abbrev Ya:List Qe:=[.agg [.int .i64,.str,.str,.str,.str,.str,.int .i64,.int .i64,.str,.int .i64,.str,.seq [.str]]]
abbrev Zm:List Qe:=[.val (.int .i64)]
theorem Zmq:Zp cx.bare Ud 3000 .leaf f23 (Qo f23) Ya Zm Vx=some Vp:=by kernel_rfl
noncomputable def Zvr:PC:={ats:=Ya,rts:=Zm,code:=Go.Sx.one (ats:=Ya) (rts:=Zm) Vx Vp}
theorem Yf7:Qg cx.bare 23 Zvr:=Qg.Z6 (Cx.Y5 Z7) Ux (n:=3000) (an:=.leaf) (fn:=f23) (c:=Qo f23) (by kernel_rfl) (by kernel_rfl) (fun a y h=>by obtain⟨h1,h2⟩:=Go.Sx.one_some h;subst h1;subst h2;exact Zmq) (by kernel_rfl)
def Ka:(Qz):=(7000,bs [99,108,117,98],bs [],bs [66],bs [],bs [],0,0,bs [],0,bs [],[])
def Kf:Int:=0
theorem Zws:Zp cx.bare Ud 3000 .leaf f23 (Qo f23) Ya Zm Ka=some Kf:=by kernel_rfl
noncomputable def Ypo:PC:={ats:=Ya,rts:=Zm,code:=Go.Sx.one (ats:=Ya) (rts:=Zm) Ka Kf}
theorem Ymd:Qg cx.bare 23 Ypo:=Qg.Z6 (Cx.Y5 Z7) Ux (n:=3000) (an:=.leaf) (fn:=f23) (c:=Qo f23) (by kernel_rfl) (by kernel_rfl) (fun a y h=>by obtain⟨h1,h2⟩:=Go.Sx.one_some h;subst h1;subst h2;exact Zws) (by kernel_rfl)
def K0:(Qz):=(7000,bs [97,116,104,108,101,116,101],bs [97,110,110],bs [65],bs [119,111,109,101,110],bs [],1000,0,bs [],0,bs [],[])
def K6:Int:=0
theorem Yok:Zp cx.bare Ud 3000 .leaf f23 (Qo f23) Ya Zm K0=some K6:=by kernel_rfl
noncomputable def Yi8:PC:={ats:=Ya,rts:=Zm,code:=Go.Sx.one (ats:=Ya) (rts:=Zm) K0 K6}
theorem Yrc:Qg cx.bare 23 Yi8:=Qg.Z6 (Cx.Y5 Z7) Ux (n:=3000) (an:=.leaf) (fn:=f23) (c:=Qo f23) (by kernel_rfl) (by kernel_rfl) (fun a y h=>by obtain⟨h1,h2⟩:=Go.Sx.one_some h;subst h1;subst h2;exact Yok) (by kernel_rfl)
def Uw:(Qz):=(7000,bs [108,105,99,101,110,99,101],bs [97,110,110],bs [],bs [],bs [],7000,9000,bs [],0,bs [],[])
def Us:Int:=0
theorem Zzh:Zp cx.bare Ud 3000 .leaf f23 (Qo f23) Ya Zm Uw=some Us:=by kernel_rfl
noncomputable def Yht:PC:={ats:=Ya,rts:=Zm,code:=Go.Sx.one (ats:=Ya) (rts:=Zm) Uw Us}
theorem Ybm:Qg cx.bare 23 Yht:=Qg.Z6 (Cx.Y5 Z7) Ux (n:=3000) (an:=.leaf) (fn:=f23) (c:=Qo f23) (by kernel_rfl) (by kernel_rfl) (fun a y h=>by obtain⟨h1,h2⟩:=Go.Sx.one_some h;subst h1;subst h2;exact Zzh) (by kernel_rfl)
def Qap:(Qz):=(7000,bs [97,116,104,108,101,116,101],bs [97,109,121],bs [65],bs [119,111,109,101,110],bs [],1000,0,bs [],0,bs [],[])
def Qa5:Int:=0
theorem Zoc:Zp cx.bare Ud 3000 .leaf f23 (Qo f23) Ya Zm Qap=some Qa5:=by kernel_rfl
noncomputable def Zzm:PC:={ats:=Ya,rts:=Zm,code:=Go.Sx.one (ats:=Ya) (rts:=Zm) Qap Qa5}
theorem Zvc:Qg cx.bare 23 Zzm:=Qg.Z6 (Cx.Y5 Z7) Ux (n:=3000) (an:=.leaf) (fn:=f23) (c:=Qo f23) (by kernel_rfl) (by kernel_rfl) (fun a y h=>by obtain⟨h1,h2⟩:=Go.Sx.one_some h;subst h1;subst h2;exact Zoc) (by kernel_rfl)
def Qcf:(Qz):=(7000,bs [108,105,99,101,110,99,101],bs [97,109,121],bs [],bs [],bs [],7000,9000,bs [],0,bs [],[])
def Qb6:Int:=0
theorem Ye2:Zp cx.bare Ud 3000 .leaf f23 (Qo f23) Ya Zm Qcf=some Qb6:=by kernel_rfl
noncomputable def Yd7:PC:={ats:=Ya,rts:=Zm,code:=Go.Sx.one (ats:=Ya) (rts:=Zm) Qcf Qb6}
theorem Zo9:Qg cx.bare 23 Yd7:=Qg.Z6 (Cx.Y5 Z7) Ux (n:=3000) (an:=.leaf) (fn:=f23) (c:=Qo f23) (by kernel_rfl) (by kernel_rfl) (fun a y h=>by obtain⟨h1,h2⟩:=Go.Sx.one_some h;subst h1;subst h2;exact Ye2) (by kernel_rfl)
def Qej:(Qz):=(7000,bs [97,116,104,108,101,116,101],bs [98,101,97],bs [66],bs [119,111,109,101,110],bs [],1000,0,bs [],0,bs [],[])
def Qc8:Int:=0
theorem Zsp:Zp cx.bare Ud 3000 .leaf f23 (Qo f23) Ya Zm Qej=some Qc8:=by kernel_rfl
noncomputable def Zsl:PC:={ats:=Ya,rts:=Zm,code:=Go.Sx.one (ats:=Ya) (rts:=Zm) Qej Qc8}
theorem Yb4:Qg cx.bare 23 Zsl:=Qg.Z6 (Cx.Y5 Z7) Ux (n:=3000) (an:=.leaf) (fn:=f23) (c:=Qo f23) (by kernel_rfl) (by kernel_rfl) (fun a y h=>by obtain⟨h1,h2⟩:=Go.Sx.one_some h;subst h1;subst h2;exact Zsp) (by kernel_rfl)
def Qfm:(Qz):=(7000,bs [108,105,99,101,110,99,101],bs [98,101,97],bs [],bs [],bs [],7000,9000,bs [],0,bs [],[])
def Qex:Int:=0
theorem Zof:Zp cx.bare Ud 3000 .leaf f23 (Qo f23) Ya Zm Qfm=some Qex:=by kernel_rfl
noncomputable def Yj7:PC:={ats:=Ya,rts:=Zm,code:=Go.Sx.one (ats:=Ya) (rts:=Zm) Qfm Qex}
theorem Yax:Qg cx.bare 23 Yj7:=Qg.Z6 (Cx.Y5 Z7) Ux (n:=3000) (an:=.leaf) (fn:=f23) (c:=Qo f23) (by kernel_rfl) (by kernel_rfl) (fun a y h=>by obtain⟨h1,h2⟩:=Go.Sx.one_some h;subst h1;subst h2;exact Zof) (by kernel_rfl)
def Qio:(Qz):=(7950,bs [101,110,116,101,114],bs [97,110,110],bs [],bs [],bs [115,112,114,105,110,116],0,0,bs [116,105,109,101],115000,bs [],[])
def Qjx:Int:=0
theorem Zmw:Zp cx.bare Ud 3000 .leaf f23 (Qo f23) Ya Zm Qio=some Qjx:=by kernel_rfl
noncomputable def Yjj:PC:={ats:=Ya,rts:=Zm,code:=Go.Sx.one (ats:=Ya) (rts:=Zm) Qio Qjx}
theorem Ya7:Qg cx.bare 23 Yjj:=Qg.Z6 (Cx.Y5 Z7) Ux (n:=3000) (an:=.leaf) (fn:=f23) (c:=Qo f23) (by kernel_rfl) (by kernel_rfl) (fun a y h=>by obtain⟨h1,h2⟩:=Go.Sx.one_some h;subst h1;subst h2;exact Zmw) (by kernel_rfl)
def Qkr:(Qz):=(7950,bs [101,110,116,101,114],bs [97,109,121],bs [],bs [],bs [115,112,114,105,110,116],0,0,bs [116,105,109,101],112000,bs [],[])
def Qlf:Int:=0
theorem Ynf:Zp cx.bare Ud 3000 .leaf f23 (Qo f23) Ya Zm Qkr=some Qlf:=by kernel_rfl
noncomputable def Yql:PC:={ats:=Ya,rts:=Zm,code:=Go.Sx.one (ats:=Ya) (rts:=Zm) Qkr Qlf}
theorem Ye7:Qg cx.bare 23 Yql:=Qg.Z6 (Cx.Y5 Z7) Ux (n:=3000) (an:=.leaf) (fn:=f23) (c:=Qo f23) (by kernel_rfl) (by kernel_rfl) (fun a y h=>by obtain⟨h1,h2⟩:=Go.Sx.one_some h;subst h1;subst h2;exact Ynf) (by kernel_rfl)
def Qqg:(Qz):=(7950,bs [101,110,116,101,114],bs [98,101,97],bs [],bs [],bs [115,112,114,105,110,116],0,0,bs [116,105,109,101],119000,bs [],[])
def Qn6:Int:=0
theorem Ypc:Zp cx.bare Ud 3000 .leaf f23 (Qo f23) Ya Zm Qqg=some Qn6:=by kernel_rfl
noncomputable def Ymn:PC:={ats:=Ya,rts:=Zm,code:=Go.Sx.one (ats:=Ya) (rts:=Zm) Qqg Qn6}
theorem Yq4:Qg cx.bare 23 Ymn:=Qg.Z6 (Cx.Y5 Z7) Ux (n:=3000) (an:=.leaf) (fn:=f23) (c:=Qo f23) (by kernel_rfl) (by kernel_rfl) (fun a y h=>by obtain⟨h1,h2⟩:=Go.Sx.one_some h;subst h1;subst h2;exact Ypc) (by kernel_rfl)
end Go.Proofs.Tryz

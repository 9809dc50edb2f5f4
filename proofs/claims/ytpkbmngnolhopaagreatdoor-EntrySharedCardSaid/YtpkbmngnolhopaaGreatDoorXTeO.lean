/- Functions of the program as functions of data. By program. awake: its examples, and what functions of data answer And further parts. -/
import Derived.Test.YtpkbmngnolhopaaGreatDoorXT3i
import Derived.Test.YtpkbmngnolhopaaGreatDoorXSxQh
set_option linter.all false
set_option maxRecDepth 1000000
set_option linter.unusedVariables false
namespace Go.Proofs.Tryz
open Go Go.Sx
noncomputable def Zgd(F:Nat):LK:=lN
noncomputable def c81(F:Nat)(a:PUnit):Option (Zi):=
 some (((8000:Int),(7900:Int),(7990:Int),(2:Int),({data:=List.toArray (115::112::114::105::110::116::Qb UInt8)},{data:=List.toArray (116::105::109::101::Qb UInt8)},(ByteArray.mk (List.toArray (Qb UInt8))),(16:Int),(40:Int),(2:Int),(1:Int),{data:=List.toArray (116::105::109::101::Qb UInt8)},(120000:Int),(ByteArray.mk (List.toArray (Qb UInt8))),(0:Int))::({data:=List.toArray (106::117::109::112::Qb UInt8)},{data:=List.toArray (108::101::110::103::116::104::Qb UInt8)},(ByteArray.mk (List.toArray (Qb UInt8))),(16:Int),(40:Int),(8:Int),(2:Int),{data:=List.toArray (110::111::110::101::Qb UInt8)},(0:Int),{data:=List.toArray (78::77::Qb UInt8)},(0:Int))::({data:=List.toArray (114::101::108::97::121::Qb UInt8)},{data:=List.toArray (116::105::109::101::Qb UInt8)},(ByteArray.mk (List.toArray (Qb UInt8))),(16:Int),(40:Int),(8:Int),(1:Int),{data:=List.toArray (110::111::110::101::Qb UInt8)},(0:Int),{data:=List.toArray (78::77::Qb UInt8)},(2:Int))::Qb (Z4)))
noncomputable def Zbh(F:Nat):PC:={ats:=[],rts:=[.agg Yv],code:=c81 F}
theorem Zjl(F:Nat):Qg cx 81 (Zbh F):=qE (Zgd F) .leaf f81 (by kernel_rfl) fun a=>by kernel_rfl
noncomputable def Zer(F:Nat):LK:=lN
noncomputable def c83(F:Nat)(a:Int):Option (ByteArray×Int×ByteArray):=
 some (({data:=List.toArray (116::105::109::101::Qb UInt8)},w64 ((100:Int)*a),(ByteArray.mk (List.toArray (Qb UInt8)))))
noncomputable def Qpv(F:Nat):PC:={ats:=Zq,rts:=[.agg kt7],code:=c83 F}
theorem Qzz(F:Nat):Qg cx 83 (Qpv F):=qE (Zer F) .leaf f83 (by kernel_rfl) fun a=>by kernel_rfl
def bs(l:List UInt8):ByteArray:=⟨⟨l⟩⟩
def opn:Zi:=(8000,7900,7990,2,[(bs [115,112,114,105,110,116],bs [116,105,109,101],bs [],16,40,2,1,bs [116,105,109,101],120000,bs [],0),(bs [106,117,109,112],bs [108,101,110,103,116,104],bs [],16,40,8,2,bs [110,111,110,101],0,bs [78,77],0),(bs [114,101,108,97,121],bs [116,105,109,101],bs [],16,40,8,1,bs [110,111,110,101],0,bs [78,77],2)])
def Qde:List (Yd):=[(7000,bs [99,108,117,98],bs [],bs [65],bs [],bs [],0,0,bs [],0,bs [],[]),(7000,bs [99,108,117,98],bs [],bs [66],bs [],bs [],0,0,bs [],0,bs [],[]),(7000,bs [97,116,104,108,101,116,101],bs [97,110,110],bs [65],bs [119,111,109,101,110],bs [],1000,0,bs [],0,bs [],[]),(7000,bs [108,105,99,101,110,99,101],bs [97,110,110],bs [],bs [],bs [],7000,9000,bs [],0,bs [],[]),(7000,bs [97,116,104,108,101,116,101],bs [97,109,121],bs [65],bs [119,111,109,101,110],bs [],1000,0,bs [],0,bs [],[]),(7000,bs [108,105,99,101,110,99,101],bs [97,109,121],bs [],bs [],bs [],7000,9000,bs [],0,bs [],[]),(7000,bs [97,116,104,108,101,116,101],bs [98,101,97],bs [66],bs [119,111,109,101,110],bs [],1000,0,bs [],0,bs [],[]),(7000,bs [108,105,99,101,110,99,101],bs [98,101,97],bs [],bs [],bs [],7000,9000,bs [],0,bs [],[]),(7950,bs [101,110,116,101,114],bs [97,110,110],bs [],bs [],bs [115,112,114,105,110,116],0,0,bs [116,105,109,101],115000,bs [],[]),(7950,bs [101,110,116,101,114],bs [97,109,121],bs [],bs [],bs [115,112,114,105,110,116],0,0,bs [116,105,109,101],112000,bs [],[]),(7950,bs [101,110,116,101,114],bs [98,101,97],bs [],bs [],bs [115,112,114,105,110,116],0,0,bs [116,105,109,101],119000,bs [],[])]
def stS:Qz:=([bs [65],bs [66]],[(bs [97,110,110],bs [65],1000,bs [119,111,109,101,110]),(bs [97,109,121],bs [65],1000,bs [119,111,109,101,110]),(bs [98,101,97],bs [66],1000,bs [119,111,109,101,110])],[(bs [97,110,110],7000,9000),(bs [97,109,121],7000,9000),(bs [98,101,97],7000,9000)],[(bs [97,110,110],bs [115,112,114,105,110,116],bs [116,105,109,101],115000,bs [],7950,false),(bs [97,109,121],bs [115,112,114,105,110,116],bs [116,105,109,101],112000,bs [],7950,false),(bs [98,101,97],bs [115,112,114,105,110,116],bs [116,105,109,101],119000,bs [],7950,false)],[])
def stT:Qz:=([bs [65],bs [66]],[(bs [97,110,110],bs [65],1000,bs [119,111,109,101,110]),(bs [97,109,121],bs [65],1000,bs [119,111,109,101,110]),(bs [98,101,97],bs [66],1000,bs [119,111,109,101,110])],[(bs [97,110,110],7000,9000),(bs [97,109,121],7000,9000),(bs [98,101,97],7000,9000)],[(bs [97,110,110],bs [115,112,114,105,110,116],bs [116,105,109,101],115000,bs [],7950,false),(bs [98,101,97],bs [115,112,114,105,110,116],bs [116,105,109,101],119000,bs [],7950,false)],[])
def stU:Qz:=([bs [65],bs [66]],[(bs [97,110,110],bs [65],1000,bs [119,111,109,101,110]),(bs [97,109,121],bs [65],1000,bs [119,111,109,101,110]),(bs [98,101,97],bs [66],1000,bs [119,111,109,101,110])],[(bs [97,110,110],7000,9000),(bs [97,109,121],7000,9000),(bs [98,101,97],7000,9000)],[(bs [97,110,110],bs [115,112,114,105,110,116],bs [116,105,109,101],115000,bs [],7950,false),(bs [97,109,121],bs [115,112,114,105,110,116],bs [116,105,109,101],112000,bs [],7950,false),(bs [98,101,97],bs [115,112,114,105,110,116],bs [116,105,109,101],119000,bs [],7950,false)],[(bs [65],bs [114,101,108,97,121],[bs [97,110,110],bs [97,109,121]])])
def stX:Qz:=([bs [65],bs [66]],[(bs [97,110,110],bs [65],1000,bs [119,111,109,101,110]),(bs [97,109,121],bs [65],1000,bs [119,111,109,101,110]),(bs [98,101,97],bs [66],1000,bs [119,111,109,101,110])],[(bs [97,110,110],7000,9000),(bs [97,109,121],7000,9000),(bs [98,101,97],7000,9000)],[(bs [97,110,110],bs [115,112,114,105,110,116],bs [116,105,109,101],115000,bs [],7950,true),(bs [97,109,121],bs [115,112,114,105,110,116],bs [116,105,109,101],112000,bs [],7950,false),(bs [98,101,97],bs [115,112,114,105,110,116],bs [116,105,109,101],119000,bs [],7950,false)],[])
def stY:Qz:=([bs [65],bs [66]],[(bs [97,110,110],bs [65],1000,bs [119,111,109,101,110]),(bs [97,109,121],bs [65],1000,bs [119,111,109,101,110]),(bs [98,101,97],bs [66],1000,bs [119,111,109,101,110])],[(bs [97,110,110],7000,9000),(bs [97,109,121],7000,9000),(bs [98,101,97],7000,9000)],[(bs [97,110,110],bs [115,112,114,105,110,116],bs [116,105,109,101],115000,bs [],7950,true),(bs [97,109,121],bs [115,112,114,105,110,116],bs [116,105,109,101],112000,bs [],7950,true),(bs [98,101,97],bs [115,112,114,105,110,116],bs [116,105,109,101],119000,bs [],7950,false)],[])
abbrev Qlq:List Ty:=[.int .i64,.str,.str,.str,.str,.str,.int .i64,.int .i64,.str,.int .i64,.str,.seq [.str]]
noncomputable def lxF:Lx:={ext:=[(83,(Qpv 400).sm)],anns:=[],still:=[]}
theorem Zrk:lxF.Ok cx.bare:=Lx.Q3 (PC.Q0 (Qzz 400).bare) (Lx.W4)
noncomputable def Qwx:PF:={ats:=[],ty:=35,row:=Qlq,code:=fun _=>some Qde}
theorem q82:codeF cx.bare lxF 3000 (Ui (.typ 0 35 Qlq .leaf) (Qv f82)) f82 (Qv f82) [] 35 Qlq ()=some Qde:=by kernel_rfl
theorem Zr5:Xv cx.bare 82 Qwx:=Xv.Zs (Cx.Z9 Zt) Zrk (n:=3000) (an:=Ui (.typ 0 35 Qlq .leaf) (Qv f82)) (fn:=f82) (c:=Qv f82) (by kernel_rfl) (by kernel_rfl) (fun a y h=>q82.trans h) (by kernel_rfl)
def Qn3:(Zi)×(Qz)×ByteArray:=(opn,stS,bs [115,112,114,105,110,116])
def Qov:List ByteArray×Int:=([bs [97,109,121],bs [98,101,97]],0)
abbrev Vr:List Qe:=[.agg [.int .i64,.int .i64,.int .i64,.int .i64,.seq [.str,.str,.str,.int .i64,.int .i64,.int .i64,.int .i64,.str,.int .i64,.str,.int .i64]],.agg [.seq [.str],.seq [.str,.str,.int .i64,.str],.seq [.str,.int .i64,.int .i64],.seq [.str,.str,.str,.int .i64,.str,.int .i64,.bool],.seq [.str,.str,.seq [.str]]],.val .str]
abbrev Jk:List Qe:=[.val (.seq [.str]),.val (.int .i64)]
theorem Zgv:(Qob 400).code Qn3=some Qov:=by kernel_rfl
noncomputable def Qn7:PC:={ats:=Vr,rts:=Jk,code:=Go.Sx.one (ats:=Vr) (rts:=Jk) Qn3 Qov}
theorem Zon:Qg cx.bare 52 Qn7:=(Qxk 400).bare.one Qn3 Qov Zgv
def Qrg:(Zi)×(Qz)×ByteArray:=(opn,stS,bs [115,112,114,105,110,116])
def Qr1:List ByteArray×Int:=([bs [97,110,110]],0)
theorem Zy0:(Qxw 400).code Qrg=some Qr1:=by kernel_rfl
noncomputable def Qy6:PC:={ats:=Vr,rts:=Jk,code:=Go.Sx.one (ats:=Vr) (rts:=Jk) Qrg Qr1}
theorem Zee:Qg cx.bare 56 Qy6:=(Zve 400).bare.one Qrg Qr1 Zy0
def Qfi:(Zi)×(Qz)×ByteArray:=(opn,stT,bs [115,112,114,105,110,116])
def Qf5:List ByteArray×Int:=([bs [97,110,110],bs [98,101,97]],0)
theorem Zzx:(Qob 400).code Qfi=some Qf5:=by kernel_rfl
noncomputable def Zqw:PC:={ats:=Vr,rts:=Jk,code:=Go.Sx.one (ats:=Vr) (rts:=Jk) Qfi Qf5}
theorem Zdu:Qg cx.bare 52 Zqw:=(Qxk 400).bare.one Qfi Qf5 Zzx
def Qp6:(Zi)×(Qz):=(opn,stU)
def Qpz:List (ByteArray×ByteArray)×Int:=([(bs [115,112,114,105,110,116],bs [114,101,108,97,121])],0)
abbrev Qlc:List Qe:=[.agg [.int .i64,.int .i64,.int .i64,.int .i64,.seq [.str,.str,.str,.int .i64,.int .i64,.int .i64,.int .i64,.str,.int .i64,.str,.int .i64]],.agg [.seq [.str],.seq [.str,.str,.int .i64,.str],.seq [.str,.int .i64,.int .i64],.seq [.str,.str,.str,.int .i64,.str,.int .i64,.bool],.seq [.str,.str,.seq [.str]]]]
abbrev Qz1:List Qe:=[.val (.seq [.str,.str]),.val (.int .i64)]
theorem Zmp:(Qx9 400).code Qp6=some Qpz:=by kernel_rfl
noncomputable def Qwa:PC:={ats:=Qlc,rts:=Qz1,code:=Go.Sx.one (ats:=Qlc) (rts:=Qz1) Qp6 Qpz}
theorem Zf6:Qg cx.bare 37 Qwa:=(Qu1 400).bare.one Qp6 Qpz Zmp
def Qpe:(Zi)×(Qz):=(opn,stS)
def Qre:List Int×Int:=([2,1],0)
abbrev Qtg:List Qe:=[.val (.seq [.int .i64]),.val (.int .i64)]
theorem Zem:(Qyu 400).code Qpe=some Qre:=by kernel_rfl
noncomputable def Qw3:PC:={ats:=Qlc,rts:=Qtg,code:=Go.Sx.one (ats:=Qlc) (rts:=Qtg) Qpe Qre}
theorem Zo1:Qg cx.bare 38 Qw3:=(Zua 400).bare.one Qpe Qre Zem
def Qnu:(Zi)×(Qz)×ByteArray:=(opn,stU,bs [97,110,110])
def Qpj:List ByteArray×Int:=([bs [115,112,114,105,110,116],bs [114,101,108,97,121]],0)
theorem Zn8:(Zau 400).code Qnu=some Qpj:=by kernel_rfl
noncomputable def Zbe:PC:={ats:=Vr,rts:=Jk,code:=Go.Sx.one (ats:=Vr) (rts:=Jk) Qnu Qpj}
theorem Zxp:Qg cx.bare 36 Zbe:=(Qu0 400).bare.one Qnu Qpj Zn8
noncomputable def Wp:Lx:={ext:=[(98,(Qje 400).sm),(99,(Qmi 400).sm)],anns:=[],still:=[]}
theorem Vb:Wp.Ok cx.bare:=Lx.Q3 (PC.Q0 (Qhi 400).bare) (Lx.Q3 (PC.Q0 (Qee 400).bare) (Lx.W4))
def Js:(Yd):=(7000,bs [99,108,117,98],bs [],bs [65],bs [],bs [],0,0,bs [],0,bs [],[])
def Ju:Int:=0
abbrev Zo:List Qe:=[.agg [.int .i64,.str,.str,.str,.str,.str,.int .i64,.int .i64,.str,.int .i64,.str,.seq [.str]]]
abbrev Q4:List Qe:=[.val (.int .i64)]
theorem Zsq:Z5 cx.bare Wp 3000 .leaf f23 (Qv f23) Zo Q4 Js=some Ju:=by kernel_rfl
noncomputable def Zge:PC:={ats:=Zo,rts:=Q4,code:=Go.Sx.one (ats:=Zo) (rts:=Q4) Js Ju}
theorem Zux:Qg cx.bare 23 Zge:=Qg.Zs (Cx.Z9 Zt) Vb (n:=3000) (an:=.leaf) (fn:=f23) (c:=Qv f23) (by kernel_rfl) (by kernel_rfl) (fun a y h=>by obtain⟨h1,h2⟩:=Go.Sx.one_some h;subst h1;subst h2;exact Zsq) (by kernel_rfl)
def Jx:(Yd):=(7000,bs [99,108,117,98],bs [],bs [66],bs [],bs [],0,0,bs [],0,bs [],[])
def Wc:Int:=0
theorem Zrr:Z5 cx.bare Wp 3000 .leaf f23 (Qv f23) Zo Q4 Jx=some Wc:=by kernel_rfl
noncomputable def Zen:PC:={ats:=Zo,rts:=Q4,code:=Go.Sx.one (ats:=Zo) (rts:=Q4) Jx Wc}
theorem Zqq:Qg cx.bare 23 Zen:=Qg.Zs (Cx.Z9 Zt) Vb (n:=3000) (an:=.leaf) (fn:=f23) (c:=Qv f23) (by kernel_rfl) (by kernel_rfl) (fun a y h=>by obtain⟨h1,h2⟩:=Go.Sx.one_some h;subst h1;subst h2;exact Zrr) (by kernel_rfl)
def Wt:(Yd):=(7000,bs [97,116,104,108,101,116,101],bs [97,110,110],bs [65],bs [119,111,109,101,110],bs [],1000,0,bs [],0,bs [],[])
def Wv:Int:=0
theorem Znk:Z5 cx.bare Wp 3000 .leaf f23 (Qv f23) Zo Q4 Wt=some Wv:=by kernel_rfl
noncomputable def Zhc:PC:={ats:=Zo,rts:=Q4,code:=Go.Sx.one (ats:=Zo) (rts:=Q4) Wt Wv}
theorem Zlo:Qg cx.bare 23 Zhc:=Qg.Zs (Cx.Z9 Zt) Vb (n:=3000) (an:=.leaf) (fn:=f23) (c:=Qv f23) (by kernel_rfl) (by kernel_rfl) (fun a y h=>by obtain⟨h1,h2⟩:=Go.Sx.one_some h;subst h1;subst h2;exact Znk) (by kernel_rfl)
def Vt:(Yd):=(7000,bs [108,105,99,101,110,99,101],bs [97,110,110],bs [],bs [],bs [],7000,9000,bs [],0,bs [],[])
def Vl:Int:=0
theorem Zhv:Z5 cx.bare Wp 3000 .leaf f23 (Qv f23) Zo Q4 Vt=some Vl:=by kernel_rfl
noncomputable def Zuq:PC:={ats:=Zo,rts:=Q4,code:=Go.Sx.one (ats:=Zo) (rts:=Q4) Vt Vl}
theorem Zkn:Qg cx.bare 23 Zuq:=Qg.Zs (Cx.Z9 Zt) Vb (n:=3000) (an:=.leaf) (fn:=f23) (c:=Qv f23) (by kernel_rfl) (by kernel_rfl) (fun a y h=>by obtain⟨h1,h2⟩:=Go.Sx.one_some h;subst h1;subst h2;exact Zhv) (by kernel_rfl)
def Ko:(Yd):=(7000,bs [97,116,104,108,101,116,101],bs [97,109,121],bs [65],bs [119,111,109,101,110],bs [],1000,0,bs [],0,bs [],[])
def Kb:Int:=0
theorem Zeh:Z5 cx.bare Wp 3000 .leaf f23 (Qv f23) Zo Q4 Ko=some Kb:=by kernel_rfl
noncomputable def Zv7:PC:={ats:=Zo,rts:=Q4,code:=Go.Sx.one (ats:=Zo) (rts:=Q4) Ko Kb}
theorem Zu2:Qg cx.bare 23 Zv7:=Qg.Zs (Cx.Z9 Zt) Vb (n:=3000) (an:=.leaf) (fn:=f23) (c:=Qv f23) (by kernel_rfl) (by kernel_rfl) (fun a y h=>by obtain⟨h1,h2⟩:=Go.Sx.one_some h;subst h1;subst h2;exact Zeh) (by kernel_rfl)
def Kw:(Yd):=(7000,bs [108,105,99,101,110,99,101],bs [97,109,121],bs [],bs [],bs [],7000,9000,bs [],0,bs [],[])
def Kx:Int:=0
theorem Zg6:Z5 cx.bare Wp 3000 .leaf f23 (Qv f23) Zo Q4 Kw=some Kx:=by kernel_rfl
noncomputable def Zxd:PC:={ats:=Zo,rts:=Q4,code:=Go.Sx.one (ats:=Zo) (rts:=Q4) Kw Kx}
theorem Zm3:Qg cx.bare 23 Zxd:=Qg.Zs (Cx.Z9 Zt) Vb (n:=3000) (an:=.leaf) (fn:=f23) (c:=Qv f23) (by kernel_rfl) (by kernel_rfl) (fun a y h=>by obtain⟨h1,h2⟩:=Go.Sx.one_some h;subst h1;subst h2;exact Zg6) (by kernel_rfl)
def Uz:(Yd):=(7000,bs [97,116,104,108,101,116,101],bs [98,101,97],bs [66],bs [119,111,109,101,110],bs [],1000,0,bs [],0,bs [],[])
def Uv:Int:=0
theorem Zn3:Z5 cx.bare Wp 3000 .leaf f23 (Qv f23) Zo Q4 Uz=some Uv:=by kernel_rfl
noncomputable def Zhj:PC:={ats:=Zo,rts:=Q4,code:=Go.Sx.one (ats:=Zo) (rts:=Q4) Uz Uv}
theorem Zuw:Qg cx.bare 23 Zhj:=Qg.Zs (Cx.Z9 Zt) Vb (n:=3000) (an:=.leaf) (fn:=f23) (c:=Qv f23) (by kernel_rfl) (by kernel_rfl) (fun a y h=>by obtain⟨h1,h2⟩:=Go.Sx.one_some h;subst h1;subst h2;exact Zn3) (by kernel_rfl)
def Qa2:(Yd):=(7000,bs [108,105,99,101,110,99,101],bs [98,101,97],bs [],bs [],bs [],7000,9000,bs [],0,bs [],[])
def Qcb:Int:=0
theorem Zjk:Z5 cx.bare Wp 3000 .leaf f23 (Qv f23) Zo Q4 Qa2=some Qcb:=by kernel_rfl
noncomputable def Zrt:PC:={ats:=Zo,rts:=Q4,code:=Go.Sx.one (ats:=Zo) (rts:=Q4) Qa2 Qcb}
theorem Zql:Qg cx.bare 23 Zrt:=Qg.Zs (Cx.Z9 Zt) Vb (n:=3000) (an:=.leaf) (fn:=f23) (c:=Qv f23) (by kernel_rfl) (by kernel_rfl) (fun a y h=>by obtain⟨h1,h2⟩:=Go.Sx.one_some h;subst h1;subst h2;exact Zjk) (by kernel_rfl)
def Qdn:(Yd):=(7950,bs [101,110,116,101,114],bs [97,110,110],bs [],bs [],bs [115,112,114,105,110,116],0,0,bs [116,105,109,101],115000,bs [],[])
def Qdv:Int:=0
theorem Zyv:Z5 cx.bare Wp 3000 .leaf f23 (Qv f23) Zo Q4 Qdn=some Qdv:=by kernel_rfl
noncomputable def Zlr:PC:={ats:=Zo,rts:=Q4,code:=Go.Sx.one (ats:=Zo) (rts:=Q4) Qdn Qdv}
theorem Zxt:Qg cx.bare 23 Zlr:=Qg.Zs (Cx.Z9 Zt) Vb (n:=3000) (an:=.leaf) (fn:=f23) (c:=Qv f23) (by kernel_rfl) (by kernel_rfl) (fun a y h=>by obtain⟨h1,h2⟩:=Go.Sx.one_some h;subst h1;subst h2;exact Zyv) (by kernel_rfl)
def Qhw:(Yd):=(7950,bs [101,110,116,101,114],bs [97,109,121],bs [],bs [],bs [115,112,114,105,110,116],0,0,bs [116,105,109,101],112000,bs [],[])
def Qgb:Int:=0
theorem Zpv:Z5 cx.bare Wp 3000 .leaf f23 (Qv f23) Zo Q4 Qhw=some Qgb:=by kernel_rfl
noncomputable def Zuh:PC:={ats:=Zo,rts:=Q4,code:=Go.Sx.one (ats:=Zo) (rts:=Q4) Qhw Qgb}
theorem Zvz:Qg cx.bare 23 Zuh:=Qg.Zs (Cx.Z9 Zt) Vb (n:=3000) (an:=.leaf) (fn:=f23) (c:=Qv f23) (by kernel_rfl) (by kernel_rfl) (fun a y h=>by obtain⟨h1,h2⟩:=Go.Sx.one_some h;subst h1;subst h2;exact Zpv) (by kernel_rfl)
def Qi5:(Yd):=(7950,bs [101,110,116,101,114],bs [98,101,97],bs [],bs [],bs [115,112,114,105,110,116],0,0,bs [116,105,109,101],119000,bs [],[])
def Qi8:Int:=0
theorem Zth:Z5 cx.bare Wp 3000 .leaf f23 (Qv f23) Zo Q4 Qi5=some Qi8:=by kernel_rfl
noncomputable def Zds:PC:={ats:=Zo,rts:=Q4,code:=Go.Sx.one (ats:=Zo) (rts:=Q4) Qi5 Qi8}
theorem Zzl:Qg cx.bare 23 Zds:=Qg.Zs (Cx.Z9 Zt) Vb (n:=3000) (an:=.leaf) (fn:=f23) (c:=Qv f23) (by kernel_rfl) (by kernel_rfl) (fun a y h=>by obtain⟨h1,h2⟩:=Go.Sx.one_some h;subst h1;subst h2;exact Zth) (by kernel_rfl)
end Go.Proofs.Tryz

/- Functions of the program as functions of data. By program. awake: its examples, and what functions of data answer And further parts. -/
import Derived.Test.YtpkbmngnolhopaaGreatDoorXT3i
import Derived.Test.YtpkbmngnolhopaaGreatDoorXSxQh
set_option linter.all false
set_option maxRecDepth 1000000
set_option linter.unusedVariables false
namespace Go.Proofs.Tryz
open Go Go.Sx
noncomputable def Zt3(F:Nat):LK:=lN
noncomputable def c81(F:Nat)(a:PUnit):Option (Zi):=
 some (((8000:Int),(7900:Int),(7990:Int),(2:Int),({data:=List.toArray (115::112::114::105::110::116::Qb UInt8)},{data:=List.toArray (116::105::109::101::Qb UInt8)},(ByteArray.mk (List.toArray (Qb UInt8))),(16:Int),(40:Int),(2:Int),(1:Int),{data:=List.toArray (116::105::109::101::Qb UInt8)},(120000:Int),(ByteArray.mk (List.toArray (Qb UInt8))),(0:Int))::({data:=List.toArray (106::117::109::112::Qb UInt8)},{data:=List.toArray (108::101::110::103::116::104::Qb UInt8)},(ByteArray.mk (List.toArray (Qb UInt8))),(16:Int),(40:Int),(8:Int),(2:Int),{data:=List.toArray (110::111::110::101::Qb UInt8)},(0:Int),{data:=List.toArray (78::77::Qb UInt8)},(0:Int))::({data:=List.toArray (114::101::108::97::121::Qb UInt8)},{data:=List.toArray (116::105::109::101::Qb UInt8)},(ByteArray.mk (List.toArray (Qb UInt8))),(16:Int),(40:Int),(8:Int),(1:Int),{data:=List.toArray (110::111::110::101::Qb UInt8)},(0:Int),{data:=List.toArray (78::77::Qb UInt8)},(2:Int))::Qb (Z4)))
noncomputable def Qt4(F:Nat):PC:={ats:=[],rts:=[.agg Yu],code:=c81 F}
theorem Zu9(F:Nat):Qg cx 81 (Qt4 F):=qE (Zt3 F) .leaf f81 (by kernel_rfl) fun a=>by kernel_rfl
noncomputable def Zlt(F:Nat):LK:=lN
noncomputable def c83(F:Nat)(a:Int):Option (ByteArray×Int×ByteArray):=
 some (({data:=List.toArray (116::105::109::101::Qb UInt8)},w64 ((100:Int)*a),(ByteArray.mk (List.toArray (Qb UInt8)))))
noncomputable def Qo2(F:Nat):PC:={ats:=Zq,rts:=[.agg kt7],code:=c83 F}
theorem Zb6(F:Nat):Qg cx 83 (Qo2 F):=qE (Zlt F) .leaf f83 (by kernel_rfl) fun a=>by kernel_rfl
def bs(l:List UInt8):ByteArray:=⟨⟨l⟩⟩
def opn:Zi:=(8000,7900,7990,2,[(bs [115,112,114,105,110,116],bs [116,105,109,101],bs [],16,40,2,1,bs [116,105,109,101],120000,bs [],0),(bs [106,117,109,112],bs [108,101,110,103,116,104],bs [],16,40,8,2,bs [110,111,110,101],0,bs [78,77],0),(bs [114,101,108,97,121],bs [116,105,109,101],bs [],16,40,8,1,bs [110,111,110,101],0,bs [78,77],2)])
def Qdv:List (Yc):=[(7000,bs [99,108,117,98],bs [],bs [65],bs [],bs [],0,0,bs [],0,bs [],[]),(7000,bs [99,108,117,98],bs [],bs [66],bs [],bs [],0,0,bs [],0,bs [],[]),(7000,bs [97,116,104,108,101,116,101],bs [97,110,110],bs [65],bs [119,111,109,101,110],bs [],1000,0,bs [],0,bs [],[]),(7000,bs [108,105,99,101,110,99,101],bs [97,110,110],bs [],bs [],bs [],7000,9000,bs [],0,bs [],[]),(7000,bs [97,116,104,108,101,116,101],bs [97,109,121],bs [65],bs [119,111,109,101,110],bs [],1000,0,bs [],0,bs [],[]),(7000,bs [108,105,99,101,110,99,101],bs [97,109,121],bs [],bs [],bs [],7000,9000,bs [],0,bs [],[]),(7000,bs [97,116,104,108,101,116,101],bs [98,101,97],bs [66],bs [119,111,109,101,110],bs [],1000,0,bs [],0,bs [],[]),(7000,bs [108,105,99,101,110,99,101],bs [98,101,97],bs [],bs [],bs [],7000,9000,bs [],0,bs [],[]),(7950,bs [101,110,116,101,114],bs [97,110,110],bs [],bs [],bs [115,112,114,105,110,116],0,0,bs [116,105,109,101],115000,bs [],[]),(7950,bs [101,110,116,101,114],bs [97,109,121],bs [],bs [],bs [115,112,114,105,110,116],0,0,bs [116,105,109,101],112000,bs [],[]),(7950,bs [101,110,116,101,114],bs [98,101,97],bs [],bs [],bs [115,112,114,105,110,116],0,0,bs [116,105,109,101],119000,bs [],[])]
def stS:Qz:=([bs [65],bs [66]],[(bs [97,110,110],bs [65],1000,bs [119,111,109,101,110]),(bs [97,109,121],bs [65],1000,bs [119,111,109,101,110]),(bs [98,101,97],bs [66],1000,bs [119,111,109,101,110])],[(bs [97,110,110],7000,9000),(bs [97,109,121],7000,9000),(bs [98,101,97],7000,9000)],[(bs [97,110,110],bs [115,112,114,105,110,116],bs [116,105,109,101],115000,bs [],7950,false),(bs [97,109,121],bs [115,112,114,105,110,116],bs [116,105,109,101],112000,bs [],7950,false),(bs [98,101,97],bs [115,112,114,105,110,116],bs [116,105,109,101],119000,bs [],7950,false)],[])
def stT:Qz:=([bs [65],bs [66]],[(bs [97,110,110],bs [65],1000,bs [119,111,109,101,110]),(bs [97,109,121],bs [65],1000,bs [119,111,109,101,110]),(bs [98,101,97],bs [66],1000,bs [119,111,109,101,110])],[(bs [97,110,110],7000,9000),(bs [97,109,121],7000,9000),(bs [98,101,97],7000,9000)],[(bs [97,110,110],bs [115,112,114,105,110,116],bs [116,105,109,101],115000,bs [],7950,false),(bs [98,101,97],bs [115,112,114,105,110,116],bs [116,105,109,101],119000,bs [],7950,false)],[])
def stU:Qz:=([bs [65],bs [66]],[(bs [97,110,110],bs [65],1000,bs [119,111,109,101,110]),(bs [97,109,121],bs [65],1000,bs [119,111,109,101,110]),(bs [98,101,97],bs [66],1000,bs [119,111,109,101,110])],[(bs [97,110,110],7000,9000),(bs [97,109,121],7000,9000),(bs [98,101,97],7000,9000)],[(bs [97,110,110],bs [115,112,114,105,110,116],bs [116,105,109,101],115000,bs [],7950,false),(bs [97,109,121],bs [115,112,114,105,110,116],bs [116,105,109,101],112000,bs [],7950,false),(bs [98,101,97],bs [115,112,114,105,110,116],bs [116,105,109,101],119000,bs [],7950,false)],[(bs [65],bs [114,101,108,97,121],[bs [97,110,110],bs [97,109,121]])])
def stX:Qz:=([bs [65],bs [66]],[(bs [97,110,110],bs [65],1000,bs [119,111,109,101,110]),(bs [97,109,121],bs [65],1000,bs [119,111,109,101,110]),(bs [98,101,97],bs [66],1000,bs [119,111,109,101,110])],[(bs [97,110,110],7000,9000),(bs [97,109,121],7000,9000),(bs [98,101,97],7000,9000)],[(bs [97,110,110],bs [115,112,114,105,110,116],bs [116,105,109,101],115000,bs [],7950,true),(bs [97,109,121],bs [115,112,114,105,110,116],bs [116,105,109,101],112000,bs [],7950,false),(bs [98,101,97],bs [115,112,114,105,110,116],bs [116,105,109,101],119000,bs [],7950,false)],[])
def stY:Qz:=([bs [65],bs [66]],[(bs [97,110,110],bs [65],1000,bs [119,111,109,101,110]),(bs [97,109,121],bs [65],1000,bs [119,111,109,101,110]),(bs [98,101,97],bs [66],1000,bs [119,111,109,101,110])],[(bs [97,110,110],7000,9000),(bs [97,109,121],7000,9000),(bs [98,101,97],7000,9000)],[(bs [97,110,110],bs [115,112,114,105,110,116],bs [116,105,109,101],115000,bs [],7950,true),(bs [97,109,121],bs [115,112,114,105,110,116],bs [116,105,109,101],112000,bs [],7950,true),(bs [98,101,97],bs [115,112,114,105,110,116],bs [116,105,109,101],119000,bs [],7950,false)],[])
abbrev Qka:List Ty:=[.int .i64,.str,.str,.str,.str,.str,.int .i64,.int .i64,.str,.int .i64,.str,.seq [.str]]
noncomputable def lxF:Lx:={ext:=[(83,(Qo2 400).sm)],anns:=[],still:=[]}
theorem Zld:lxF.Ok cx.bare:=Lx.Q3 (PC.Q0 (Zb6 400).bare) (Lx.W3)
noncomputable def Qsu:PF:={ats:=[],ty:=35,row:=Qka,code:=fun _=>some Qdv}
theorem q82:codeF cx.bare lxF 3000 (Uc (.typ 0 35 Qka .leaf) (Qv f82)) f82 (Qv f82) [] 35 Qka ()=some Qdv:=by kernel_rfl
theorem Zl7:Xx cx.bare 82 Qsu:=Xx.Zs (Cx.Z9 Zt) Zld (n:=3000) (an:=Uc (.typ 0 35 Qka .leaf) (Qv f82)) (fn:=f82) (c:=Qv f82) (by kernel_rfl) (by kernel_rfl) (fun a y h=>q82.trans h) (by kernel_rfl)
def Qnv:(Zi)×(Qz)×ByteArray:=(opn,stS,bs [115,112,114,105,110,116])
def Qqe:List ByteArray×Int:=([bs [97,109,121],bs [98,101,97]],0)
abbrev Vb:List Qe:=[.agg [.int .i64,.int .i64,.int .i64,.int .i64,.seq [.str,.str,.str,.int .i64,.int .i64,.int .i64,.int .i64,.str,.int .i64,.str,.int .i64]],.agg [.seq [.str],.seq [.str,.str,.int .i64,.str],.seq [.str,.int .i64,.int .i64],.seq [.str,.str,.str,.int .i64,.str,.int .i64,.bool],.seq [.str,.str,.seq [.str]]],.val .str]
abbrev Jp:List Qe:=[.val (.seq [.str]),.val (.int .i64)]
theorem Zw8:(Qrq 400).code Qnv=some Qqe:=by kernel_rfl
noncomputable def Qpn:PC:={ats:=Vb,rts:=Jp,code:=Go.Sx.one (ats:=Vb) (rts:=Jp) Qnv Qqe}
theorem Zw1:Qg cx.bare 52 Qpn:=(Quz 400).bare.one Qnv Qqe Zw8
def Qsa:(Zi)×(Qz)×ByteArray:=(opn,stS,bs [115,112,114,105,110,116])
def Qrn:List ByteArray×Int:=([bs [97,110,110]],0)
theorem Zzh:(Qug 400).code Qsa=some Qrn:=by kernel_rfl
noncomputable def Qsv:PC:={ats:=Vb,rts:=Jp,code:=Go.Sx.one (ats:=Vb) (rts:=Jp) Qsa Qrn}
theorem Zuc:Qg cx.bare 56 Qsv:=(Zy7 400).bare.one Qsa Qrn Zzh
def Qe3:(Zi)×(Qz)×ByteArray:=(opn,stT,bs [115,112,114,105,110,116])
def Qfc:List ByteArray×Int:=([bs [97,110,110],bs [98,101,97]],0)
theorem Zwx:(Qrq 400).code Qe3=some Qfc:=by kernel_rfl
noncomputable def Zx8:PC:={ats:=Vb,rts:=Jp,code:=Go.Sx.one (ats:=Vb) (rts:=Jp) Qe3 Qfc}
theorem Zhe:Qg cx.bare 52 Zx8:=(Quz 400).bare.one Qe3 Qfc Zwx
def Qqk:(Zi)×(Qz):=(opn,stU)
def Qnm:List (ByteArray×ByteArray)×Int:=([(bs [115,112,114,105,110,116],bs [114,101,108,97,121])],0)
abbrev Qkg:List Qe:=[.agg [.int .i64,.int .i64,.int .i64,.int .i64,.seq [.str,.str,.str,.int .i64,.int .i64,.int .i64,.int .i64,.str,.int .i64,.str,.int .i64]],.agg [.seq [.str],.seq [.str,.str,.int .i64,.str],.seq [.str,.int .i64,.int .i64],.seq [.str,.str,.str,.int .i64,.str,.int .i64,.bool],.seq [.str,.str,.seq [.str]]]]
abbrev Qy5:List Qe:=[.val (.seq [.str,.str]),.val (.int .i64)]
theorem Zsj:(Zai 400).code Qqk=some Qnm:=by kernel_rfl
noncomputable def Zbt:PC:={ats:=Qkg,rts:=Qy5,code:=Go.Sx.one (ats:=Qkg) (rts:=Qy5) Qqk Qnm}
theorem Zx5:Qg cx.bare 37 Zbt:=(Qs4 400).bare.one Qqk Qnm Zsj
def Qnq:(Zi)×(Qz):=(opn,stS)
def Qpd:List Int×Int:=([2,1],0)
abbrev Qy0:List Qe:=[.val (.seq [.int .i64]),.val (.int .i64)]
theorem Zms:(Zap 400).code Qnq=some Qpd:=by kernel_rfl
noncomputable def Zat:PC:={ats:=Qkg,rts:=Qy0,code:=Go.Sx.one (ats:=Qkg) (rts:=Qy0) Qnq Qpd}
theorem Zll:Qg cx.bare 38 Zat:=(Znm 400).bare.one Qnq Qpd Zms
def Qns:(Zi)×(Qz)×ByteArray:=(opn,stU,bs [97,110,110])
def Qsd:List ByteArray×Int:=([bs [115,112,114,105,110,116],bs [114,101,108,97,121]],0)
theorem Zqr:(Qzi 400).code Qns=some Qsd:=by kernel_rfl
noncomputable def Qyi:PC:={ats:=Vb,rts:=Jp,code:=Go.Sx.one (ats:=Vb) (rts:=Jp) Qns Qsd}
theorem Zc9:Qg cx.bare 36 Qyi:=(Qt9 400).bare.one Qns Qsd Zqr
noncomputable def Wj:Lx:={ext:=[(98,(Qjq 400).sm),(99,(Qlp 400).sm)],anns:=[],still:=[]}
theorem Vd:Wj.Ok cx.bare:=Lx.Q3 (PC.Q0 (Qff 400).bare) (Lx.Q3 (PC.Q0 (Qdq 400).bare) (Lx.W3))
def Jr:(Yc):=(7000,bs [99,108,117,98],bs [],bs [65],bs [],bs [],0,0,bs [],0,bs [],[])
def Jt:Int:=0
abbrev Zo:List Qe:=[.agg [.int .i64,.str,.str,.str,.str,.str,.int .i64,.int .i64,.str,.int .i64,.str,.seq [.str]]]
abbrev Q4:List Qe:=[.val (.int .i64)]
theorem Zq1:Z5 cx.bare Wj 3000 .leaf f23 (Qv f23) Zo Q4 Jr=some Jt:=by kernel_rfl
noncomputable def Zh8:PC:={ats:=Zo,rts:=Q4,code:=Go.Sx.one (ats:=Zo) (rts:=Q4) Jr Jt}
theorem Zg5:Qg cx.bare 23 Zh8:=Qg.Zs (Cx.Z9 Zt) Vd (n:=3000) (an:=.leaf) (fn:=f23) (c:=Qv f23) (by kernel_rfl) (by kernel_rfl) (fun a y h=>by obtain⟨h1,h2⟩:=Go.Sx.one_some h;subst h1;subst h2;exact Zq1) (by kernel_rfl)
def Wd:(Yc):=(7000,bs [99,108,117,98],bs [],bs [66],bs [],bs [],0,0,bs [],0,bs [],[])
def Jx:Int:=0
theorem Zva:Z5 cx.bare Wj 3000 .leaf f23 (Qv f23) Zo Q4 Wd=some Jx:=by kernel_rfl
noncomputable def Zrx:PC:={ats:=Zo,rts:=Q4,code:=Go.Sx.one (ats:=Zo) (rts:=Q4) Wd Jx}
theorem Zn5:Qg cx.bare 23 Zrx:=Qg.Zs (Cx.Z9 Zt) Vd (n:=3000) (an:=.leaf) (fn:=f23) (c:=Qv f23) (by kernel_rfl) (by kernel_rfl) (fun a y h=>by obtain⟨h1,h2⟩:=Go.Sx.one_some h;subst h1;subst h2;exact Zva) (by kernel_rfl)
def Wy:(Yc):=(7000,bs [97,116,104,108,101,116,101],bs [97,110,110],bs [65],bs [119,111,109,101,110],bs [],1000,0,bs [],0,bs [],[])
def Wk:Int:=0
theorem Zhg:Z5 cx.bare Wj 3000 .leaf f23 (Qv f23) Zo Q4 Wy=some Wk:=by kernel_rfl
noncomputable def Zhb:PC:={ats:=Zo,rts:=Q4,code:=Go.Sx.one (ats:=Zo) (rts:=Q4) Wy Wk}
theorem Zmr:Qg cx.bare 23 Zhb:=Qg.Zs (Cx.Z9 Zt) Vd (n:=3000) (an:=.leaf) (fn:=f23) (c:=Qv f23) (by kernel_rfl) (by kernel_rfl) (fun a y h=>by obtain⟨h1,h2⟩:=Go.Sx.one_some h;subst h1;subst h2;exact Zhg) (by kernel_rfl)
def W6:(Yc):=(7000,bs [108,105,99,101,110,99,101],bs [97,110,110],bs [],bs [],bs [],7000,9000,bs [],0,bs [],[])
def Vs:Int:=0
theorem Zxl:Z5 cx.bare Wj 3000 .leaf f23 (Qv f23) Zo Q4 W6=some Vs:=by kernel_rfl
noncomputable def Zv4:PC:={ats:=Zo,rts:=Q4,code:=Go.Sx.one (ats:=Zo) (rts:=Q4) W6 Vs}
theorem Zq9:Qg cx.bare 23 Zv4:=Qg.Zs (Cx.Z9 Zt) Vd (n:=3000) (an:=.leaf) (fn:=f23) (c:=Qv f23) (by kernel_rfl) (by kernel_rfl) (fun a y h=>by obtain⟨h1,h2⟩:=Go.Sx.one_some h;subst h1;subst h2;exact Zxl) (by kernel_rfl)
def V6:(Yc):=(7000,bs [97,116,104,108,101,116,101],bs [97,109,121],bs [65],bs [119,111,109,101,110],bs [],1000,0,bs [],0,bs [],[])
def V7:Int:=0
theorem Zyy:Z5 cx.bare Wj 3000 .leaf f23 (Qv f23) Zo Q4 V6=some V7:=by kernel_rfl
noncomputable def Zxf:PC:={ats:=Zo,rts:=Q4,code:=Go.Sx.one (ats:=Zo) (rts:=Q4) V6 V7}
theorem Zdd:Qg cx.bare 23 Zxf:=Qg.Zs (Cx.Z9 Zt) Vd (n:=3000) (an:=.leaf) (fn:=f23) (c:=Qv f23) (by kernel_rfl) (by kernel_rfl) (fun a y h=>by obtain⟨h1,h2⟩:=Go.Sx.one_some h;subst h1;subst h2;exact Zyy) (by kernel_rfl)
def Kx:(Yc):=(7000,bs [108,105,99,101,110,99,101],bs [97,109,121],bs [],bs [],bs [],7000,9000,bs [],0,bs [],[])
def Ua:Int:=0
theorem Zxd:Z5 cx.bare Wj 3000 .leaf f23 (Qv f23) Zo Q4 Kx=some Ua:=by kernel_rfl
noncomputable def Zha:PC:={ats:=Zo,rts:=Q4,code:=Go.Sx.one (ats:=Zo) (rts:=Q4) Kx Ua}
theorem Zgc:Qg cx.bare 23 Zha:=Qg.Zs (Cx.Z9 Zt) Vd (n:=3000) (an:=.leaf) (fn:=f23) (c:=Qv f23) (by kernel_rfl) (by kernel_rfl) (fun a y h=>by obtain⟨h1,h2⟩:=Go.Sx.one_some h;subst h1;subst h2;exact Zxd) (by kernel_rfl)
def U4:(Yc):=(7000,bs [97,116,104,108,101,116,101],bs [98,101,97],bs [66],bs [119,111,109,101,110],bs [],1000,0,bs [],0,bs [],[])
def Qah:Int:=0
theorem Zef:Z5 cx.bare Wj 3000 .leaf f23 (Qv f23) Zo Q4 U4=some Qah:=by kernel_rfl
noncomputable def Zxk:PC:={ats:=Zo,rts:=Q4,code:=Go.Sx.one (ats:=Zo) (rts:=Q4) U4 Qah}
theorem Zfy:Qg cx.bare 23 Zxk:=Qg.Zs (Cx.Z9 Zt) Vd (n:=3000) (an:=.leaf) (fn:=f23) (c:=Qv f23) (by kernel_rfl) (by kernel_rfl) (fun a y h=>by obtain⟨h1,h2⟩:=Go.Sx.one_some h;subst h1;subst h2;exact Zef) (by kernel_rfl)
def Qbs:(Yc):=(7000,bs [108,105,99,101,110,99,101],bs [98,101,97],bs [],bs [],bs [],7000,9000,bs [],0,bs [],[])
def Qay:Int:=0
theorem Zwr:Z5 cx.bare Wj 3000 .leaf f23 (Qv f23) Zo Q4 Qbs=some Qay:=by kernel_rfl
noncomputable def Zw0:PC:={ats:=Zo,rts:=Q4,code:=Go.Sx.one (ats:=Zo) (rts:=Q4) Qbs Qay}
theorem Zwy:Qg cx.bare 23 Zw0:=Qg.Zs (Cx.Z9 Zt) Vd (n:=3000) (an:=.leaf) (fn:=f23) (c:=Qv f23) (by kernel_rfl) (by kernel_rfl) (fun a y h=>by obtain⟨h1,h2⟩:=Go.Sx.one_some h;subst h1;subst h2;exact Zwr) (by kernel_rfl)
def Qdf:(Yc):=(7950,bs [101,110,116,101,114],bs [97,110,110],bs [],bs [],bs [115,112,114,105,110,116],0,0,bs [116,105,109,101],115000,bs [],[])
def Qen:Int:=0
theorem Zk9:Z5 cx.bare Wj 3000 .leaf f23 (Qv f23) Zo Q4 Qdf=some Qen:=by kernel_rfl
noncomputable def Zr1:PC:={ats:=Zo,rts:=Q4,code:=Go.Sx.one (ats:=Zo) (rts:=Q4) Qdf Qen}
theorem Znf:Qg cx.bare 23 Zr1:=Qg.Zs (Cx.Z9 Zt) Vd (n:=3000) (an:=.leaf) (fn:=f23) (c:=Qv f23) (by kernel_rfl) (by kernel_rfl) (fun a y h=>by obtain⟨h1,h2⟩:=Go.Sx.one_some h;subst h1;subst h2;exact Zk9) (by kernel_rfl)
def Qhi:(Yc):=(7950,bs [101,110,116,101,114],bs [97,109,121],bs [],bs [],bs [115,112,114,105,110,116],0,0,bs [116,105,109,101],112000,bs [],[])
def Qf1:Int:=0
theorem Zzs:Z5 cx.bare Wj 3000 .leaf f23 (Qv f23) Zo Q4 Qhi=some Qf1:=by kernel_rfl
noncomputable def Zg9:PC:={ats:=Zo,rts:=Q4,code:=Go.Sx.one (ats:=Zo) (rts:=Q4) Qhi Qf1}
theorem Ze7:Qg cx.bare 23 Zg9:=Qg.Zs (Cx.Z9 Zt) Vd (n:=3000) (an:=.leaf) (fn:=f23) (c:=Qv f23) (by kernel_rfl) (by kernel_rfl) (fun a y h=>by obtain⟨h1,h2⟩:=Go.Sx.one_some h;subst h1;subst h2;exact Zzs) (by kernel_rfl)
def Qlg:(Yc):=(7950,bs [101,110,116,101,114],bs [98,101,97],bs [],bs [],bs [115,112,114,105,110,116],0,0,bs [116,105,109,101],119000,bs [],[])
def Qji:Int:=0
theorem Zdv:Z5 cx.bare Wj 3000 .leaf f23 (Qv f23) Zo Q4 Qlg=some Qji:=by kernel_rfl
noncomputable def Zn3:PC:={ats:=Zo,rts:=Q4,code:=Go.Sx.one (ats:=Zo) (rts:=Q4) Qlg Qji}
theorem Zea:Qg cx.bare 23 Zn3:=Qg.Zs (Cx.Z9 Zt) Vd (n:=3000) (an:=.leaf) (fn:=f23) (c:=Qv f23) (by kernel_rfl) (by kernel_rfl) (fun a y h=>by obtain⟨h1,h2⟩:=Go.Sx.one_some h;subst h1;subst h2;exact Zdv) (by kernel_rfl)
end Go.Proofs.Tryz

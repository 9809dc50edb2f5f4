/- Functions of the program as functions of data. By program. -/
import Derived.Test.YtpkbmngnolhopaaGreatDoorXTeCx
set_option maxRecDepth 100000
set_option linter.all false
open Sum renaming inr->j,inl->C,elim->J
open Go.Utf8 renaming decode->o
open Go.IntKind renaming i64->I
open UInt8 renaming toBitVec->R
open ByteArray renaming get!->U,empty->ZA,size->ZB
open BitVec renaming toFin->ZC
open List renaming length->ZD,getD->ZE,drop->ZF,take->ZG
namespace Go.Proofs.Tryz
open Go Go.Sx
noncomputable section
def Yjc(F:Nat):LK:=lN
def c98(F:Nat)(a:ByteArray):Option (Bool):=
 (Qx (O:=ByteArray×Nat) (β:=(ByteArray×Nat)×Bool ⊕ ByteArray×Nat) (fun v23=>bif decide (v23.2<ZB v23.1)then(bif decide (97<=(↑(o v23.1 v23.2).1:Int))then(bif decide ((↑(o v23.1 v23.2).1:Int)<=(122:Int))then(some (C (v23.1,v23.2+(o v23.1 v23.2).2)))else(bif decide (65<=(↑(o v23.1 v23.2).1:Int))then(bif !decide ((↑(o v23.1 v23.2).1:Int)<=(90:Int))then(bif decide ((↑v23.2:Int)=(0:Int))then(some (j (C ((v23.1,v23.2+(o v23.1 v23.2).2),false))))else(bif !decide ((↑(o v23.1 v23.2).1:Int)=(95:Int))then(bif decide ((↑(o v23.1 v23.2).1:Int)<(48:Int))then(some (j (C ((v23.1,v23.2+(o v23.1 v23.2).2),false))))else(bif decide (57<(↑(o v23.1 v23.2).1:Int))then(some (j (C ((v23.1,v23.2+(o v23.1 v23.2).2),false))))else(some (C (v23.1,v23.2+(o v23.1 v23.2).2)))))else(some (C (v23.1,v23.2+(o v23.1 v23.2).2)))))else(some (C (v23.1,v23.2+(o v23.1 v23.2).2))))else(bif decide ((↑v23.2:Int)=(0:Int))then(some (j (C ((v23.1,v23.2+(o v23.1 v23.2).2),false))))else(bif !decide ((↑(o v23.1 v23.2).1:Int)=(95:Int))then(bif decide ((↑(o v23.1 v23.2).1:Int)<(48:Int))then(some (j (C ((v23.1,v23.2+(o v23.1 v23.2).2),false))))else(bif decide (57<(↑(o v23.1 v23.2).1:Int))then(some (j (C ((v23.1,v23.2+(o v23.1 v23.2).2),false))))else(some (C (v23.1,v23.2+(o v23.1 v23.2).2)))))else(some (C (v23.1,v23.2+(o v23.1 v23.2).2)))))))else(bif decide (65<=(↑(o v23.1 v23.2).1:Int))then(bif !decide ((↑(o v23.1 v23.2).1:Int)<=(90:Int))then(bif decide ((↑v23.2:Int)=(0:Int))then(some (j (C ((v23.1,v23.2+(o v23.1 v23.2).2),false))))else(bif !decide ((↑(o v23.1 v23.2).1:Int)=(95:Int))then(bif decide ((↑(o v23.1 v23.2).1:Int)<(48:Int))then(some (j (C ((v23.1,v23.2+(o v23.1 v23.2).2),false))))else(bif decide (57<(↑(o v23.1 v23.2).1:Int))then(some (j (C ((v23.1,v23.2+(o v23.1 v23.2).2),false))))else(some (C (v23.1,v23.2+(o v23.1 v23.2).2)))))else(some (C (v23.1,v23.2+(o v23.1 v23.2).2)))))else(some (C (v23.1,v23.2+(o v23.1 v23.2).2))))else(bif decide ((↑v23.2:Int)=(0:Int))then(some (j (C ((v23.1,v23.2+(o v23.1 v23.2).2),false))))else(bif !decide ((↑(o v23.1 v23.2).1:Int)=(95:Int))then(bif decide ((↑(o v23.1 v23.2).1:Int)<(48:Int))then(some (j (C ((v23.1,v23.2+(o v23.1 v23.2).2),false))))else(bif decide (57<(↑(o v23.1 v23.2).1:Int))then(some (j (C ((v23.1,v23.2+(o v23.1 v23.2).2),false))))else(some (C (v23.1,v23.2+(o v23.1 v23.2).2)))))else(some (C (v23.1,v23.2+(o v23.1 v23.2).2)))))))else(some (j (j v23)))) F ((a,(0:Nat)))).bind fun v19=>J (fun v20=>some v20.2) (fun v21=>(bif decide (0<(↑(ZB a):Int))then(some (decide ((↑(ZB a):Int)<=(24:Int))))else(some (false))).bind fun v22=>some (v22)) (v19)
def Qow(F:Nat):PC:={ats:=Ug,rts:=Xp,code:=c98 F}
theorem V2(F:Nat):Qg cx 98 (Qow F):=qE (Yjc F) (.two .leaf (.two (.two .leaf (.one (.loop ⟨[.iter 0],[]⟩ [(.ret,⟨[.iter 0,.slot 2 (.val (.bool))],[]⟩),(.exit 0,⟨[.iter 0],[]⟩)] ⟨(kU 12 14 (5::2::kD 43 18 (4::3::11::10::9::8::[]))),[0],[]⟩ F .leaf))) (.two (.join [(.normal,⟨[.slot 2 (.val (.bool))],[]⟩)] ⟨(2::kD 51 8 []),[],[]⟩ .leaf) .leaf))) f98 (by kernel_rfl) fun a=>by kernel_rfl
def Zrh(F:Nat):LK:=lN
def Qn(F:Nat)(a:Bool×Int):Option (Int):=
 bif a.1 then(some a.2)else(some ((0:Int)))
def Zk6(F:Nat):PC:={ats:=Zes,rts:=Zo,code:=Qn F}
theorem Yb(F:Nat):Qg cx 86 (Zk6 F):=qE (Zrh F) .leaf f86 (by kernel_rfl) fun a=>by kernel_rfl
def Yno(F:Nat):LK:=lC (Yb F) (lC (V2 F) lN)
def c92(F:Nat)(a:ByteArray):Option (Int):=
 (c98 F a).bind fun v7=>(Qn F (!v7,(8:Int))).bind fun v8=>some (v8)
def Zz0(F:Nat):PC:={ats:=Ug,rts:=Zo,code:=c92 F}
theorem V0(F:Nat):Qg cx 92 (Zz0 F):=qE (Yno F) .leaf f92 (by kernel_rfl) fun a=>by kernel_rfl
def Yr6(F:Nat):LK:=lN
def Qri(F:Nat)(a:Int):Option (Bool):=
 (bif decide (a<0)then(some (true))else(some (decide (99999<a)))).bind fun v5=>some (v5)
def Zuo(F:Nat):PC:={ats:=Zo,rts:=Xp,code:=Qri F}
theorem Qx0(F:Nat):Qg cx 153 (Zuo F):=qE (Yr6 F) (.two .leaf (.two (.join [(.normal,⟨[.slot 2 (.val (.bool))],[]⟩)] ⟨(2::kD 8 6 []),[],[]⟩ .leaf) .leaf)) f153 (by kernel_rfl) fun a=>by kernel_rfl
def Ya2:Qk:=⟨[.slot 0 (.val (.seq kt6))],[(1,.stat (.pv (.lit (.func (.func 153) #[] #[]))))]⟩
def Yrb:Qk:=⟨[.slot 0 (.val (.int .i64))],[]⟩
def Yh4(F:Nat):LK:=lC (Qx0 F) lN
def Qp0(F:Nat)(a:List Int):Option (Int):=
 (Qx (O:=Int) (β:=Int ⊕ Unit) (fun v15=>bif decide (v15<(↑(a.length):Int))then(gd (decide (0<=v15)) (gd (decide (v15<(↑(a.length):Int))) (gd (decide (v15.toNat<a.length)) ((Qri F (a.getD (v15.toNat) (0:Int))).bind fun v16=>bif v16 then(some (j (C v15)))else(some (C (w64 (v15+1))))))))else(some (j (j ())))) F ((0:Int))).bind fun v12=>J (fun v13=>some (v13)) (fun v14=>some ((-1:Int))) (v12)
def Zxw(F:Nat):PX:={np:=2,locs:=[],τ:=Ya2,nr:=1,ω:=Yrb,ids:=[],mv:=[],code:=Qp0 F}
theorem Zdv(F:Nat):Zm cx 209 (Zxw F):=Yl (Yh4 F) (.two .leaf (.two (.two .leaf (.one (.loop ⟨[.slot 8 (.val (.int .i64))],[]⟩ [(.ret,⟨[.slot 4 (.val (.int .i64))],[]⟩),(.exit 0,⟨[],[]⟩)] ⟨[18,8,11,12,13,14,15,16,4,17,5,10,9],[],[]⟩ F .leaf))) .leaf)) f209 (by kernel_rfl) fun a=>by kernel_rfl
def Zmj:Qk:=⟨[.slot 0 (.val (.seq kt6))],[(1,.stat (.pv (.lit (.func (.func 153) #[] #[]))))]⟩
def Zve:Qk:=⟨[.slot 0 (.val (.bool))],[]⟩
def Zr5(F:Nat):LK:=lC (Qx0 F) (lX (Zdv F) lN)
def Qt7(F:Nat)(a:List Int):Option (Bool):=
 (Qp0 F a).bind fun v5=>some (decide (0<=v5))
def Zw1(F:Nat):PX:={np:=2,locs:=[],τ:=Zmj,nr:=1,ω:=Zve,ids:=[],mv:=[],code:=Qt7 F}
theorem Ybd(F:Nat):Zm cx 152 (Zw1 F):=Yl (Zr5 F) .leaf f152 (by kernel_rfl) fun a=>by kernel_rfl
def Zrb(F:Nat):LK:=lC (Yb F) (lC (Qx0 F) (lX (Zdv F) (lX (Ybd F) lN)))
def Ye(F:Nat)(a:List Int):Option (Int):=
 (Qt7 F a).bind fun v7=>(Qn F (v7,(3:Int))).bind fun v8=>some (v8)
def Zn7(F:Nat):PC:={ats:=[.val (.seq kt6)],rts:=Zo,code:=Ye F}
theorem Wy(F:Nat):Qg cx 85 (Zn7 F):=qE (Zrb F) .leaf f85 (by kernel_rfl) fun a=>by kernel_rfl
def Zol(F:Nat):LK:=lN
def Qy(F:Nat)(a:List Int):Option (Int):=
 (Qx (O:=Int) (β:=Int ⊕ Unit) (fun v13=>bif decide (v13<(↑(a.length):Int))then(gd (decide (0<=v13)) (gd (decide (v13<(↑(a.length):Int))) (gd (decide (v13.toNat<a.length)) (bif !decide (a.getD (v13.toNat) (0:Int)=(0:Int))then(some (j (C (a.getD (v13.toNat) (0:Int)))))else(some (C (w64 (v13+1))))))))else(some (j (j ())))) F ((0:Int))).bind fun v10=>J (fun v11=>some (v11)) (fun v12=>some ((0:Int))) (v10)
def Ze1(F:Nat):PC:={ats:=[.val (.seq kt6)],rts:=Zo,code:=Qy F}
theorem Yj(F:Nat):Qg cx 84 (Ze1 F):=qE (Zol F) (.two .leaf (.two (.two .leaf (.one (.loop ⟨[.slot 7 (.val (.int .i64))],[]⟩ [(.ret,⟨[.slot 2 (.val (.int .i64))],[]⟩),(.exit 0,⟨[],[]⟩)] ⟨[14,7,11,12,2,13,4,10,9,8],[],[]⟩ F .leaf))) .leaf)) f84 (by kernel_rfl) fun a=>by kernel_rfl
def Ymo(F:Nat):LK:=lC (Yj F) (lC (Yb F) (lC (Wy F) (lC (V0 F) lN)))
def c63(F:Nat)(a:(Q3)×Int):Option (Int×Int):=
 ((c92 F a.1.1).bind fun v132=>(tw (X:=Int×Int) (Qt.eqv (Qe.val (Ty.int I)::Qe.val (Ty.int I)::Qa Qe)) ((Ye F (a.1.2.2.1::Qa Int)).bind fun v145=>(Ye F (a.2::Qa Int)).bind fun v146=>(Qn F (decide (a.2<a.1.2.2.1),(11:Int))).bind fun v147=>(Qy F (v132::v145::v146::v147::Qa Int)).bind fun v148=>bif !decide (v148=0)then(some (((0:Int),v148)))else(some ((w64 (Int.tdiv (w64 (a.2-a.1.2.2.1)) (365:Int)),(0:Int)))))).bind fun v133=>((Ye F (a.1.2.2.1::Qa Int)).bind fun v135=>(Ye F (a.2::Qa Int)).bind fun v136=>(Qn F (decide (a.2<a.1.2.2.1),(11:Int))).bind fun v137=>(Qy F (v132::v135::v136::v137::Qa Int)).bind fun v138=>bif !decide (v138=0)then(some (((0:Int),v138)))else(some ((w64 (Int.tdiv (w64 (a.2-a.1.2.2.1)) (365:Int)),(0:Int))))).bind fun v134=>gd (Qt.eqv (Qe.val (Ty.int I)::Qe.val (Ty.int I)::Qa Qe) v133 v134) (some (v133))).bind fun v98=>((((c92 F a.1.1).bind fun v121=>tw (X:=Int×Int) (Qt.eqv (Qe.val (Ty.int I)::Qe.val (Ty.int I)::Qa Qe)) ((Ye F (a.1.2.2.1::Qa Int)).bind fun v128=>(Ye F (a.2::Qa Int)).bind fun v129=>(Qn F (decide (a.2<a.1.2.2.1),(11:Int))).bind fun v130=>(Qy F (v121::v128::v129::v130::Qa Int)).bind fun v131=>bif !decide (v131=0)then(some (((0:Int),v131)))else(some ((w64 (Int.tdiv (w64 (a.2-a.1.2.2.1)) (365:Int)),(0:Int)))))).bind fun v114=>((c92 F a.1.1).bind fun v116=>(Ye F (a.1.2.2.1::Qa Int)).bind fun v117=>(Ye F (a.2::Qa Int)).bind fun v118=>(Qn F (decide (a.2<a.1.2.2.1),(11:Int))).bind fun v119=>(Qy F (v116::v117::v118::v119::Qa Int)).bind fun v120=>bif !decide (v120=0)then(some (((0:Int),v120)))else(some ((w64 (Int.tdiv (w64 (a.2-a.1.2.2.1)) (365:Int)),(0:Int))))).bind fun v115=>gd (Qt.eqv (Qe.val (Ty.int I)::Qe.val (Ty.int I)::Qa Qe) v114 v115) (some (v114))).bind fun v100=>(tw (X:=Int×Int) (Qt.eqv (Qe.val (Ty.int I)::Qe.val (Ty.int I)::Qa Qe)) ((c92 F a.1.1).bind fun v109=>(Ye F (a.1.2.2.1::Qa Int)).bind fun v110=>(Ye F (a.2::Qa Int)).bind fun v111=>(Qn F (decide (a.2<a.1.2.2.1),(11:Int))).bind fun v112=>(Qy F (v109::v110::v111::v112::Qa Int)).bind fun v113=>bif !decide (v113=0)then(some (((0:Int),v113)))else(some ((w64 (Int.tdiv (w64 (a.2-a.1.2.2.1)) (365:Int)),(0:Int)))))).bind fun v101=>gd (Qt.eqv (Qe.val (Ty.int I)::Qe.val (Ty.int I)::Qa Qe) v100 v101) (some (v100))).bind fun v99=>gd (Qt.eqv (Qe.val (Ty.int I)::Qe.val (Ty.int I)::Qa Qe) v98 v99) (some (v98))
def Zew(F:Nat):PC:={ats:=[.agg kt3,.val (.int .i64)],rts:=Qo0,code:=c63 F}
theorem Yfr(F:Nat):Qg cx 63 (Zew F):=qE (Ymo F) .leaf f63 (by kernel_rfl) fun a=>by kernel_rfl
def Zx9(F:Nat):LK:=lN
def W8(F:Nat)(a:List (Zc)×ByteArray×Int):Option (Bool):=
 (Qx (O:=Bool×Int) (β:=Bool) (fun v10=>bif decide (v10.2<(↑(a.1.length):Int))then(gd (decide (0<=v10.2)) (gd (decide (v10.2<(↑(a.1.length):Int))) (gd (decide (v10.2.toNat<a.1.length)) ((bif !Qc (a.1.getD (v10.2.toNat) YP).1 a.2.1 then(some (true))else(bif decide (a.2.2<(a.1.getD (v10.2.toNat) YP).2.1)then(some (true))else(some (decide ((a.1.getD (v10.2.toNat) YP).2.2<a.2.2))))).bind fun v11=>bif v11 then(some (C (v10.1,w64 (v10.2+1))))else(some (j true))))))else(some (j v10.1))) F ((false,(0:Int)))).bind fun v9=>some (v9)
def Yln(F:Nat):PC:={ats:=Zln,rts:=Xp,code:=W8 F}
theorem Zxg(F:Nat):Qg cx 147 (Yln F):=qE (Zx9 F) (.two .leaf (.one (Q8 2 (.two (.two .leaf (.one (.loop ⟨[.slot 7 (.val (.bool)),.slot 12 (.val (.int .i64))],[]⟩ [(.exit 0,⟨[.slot 7 (.val (.bool))],[]⟩)] ⟨(32::12::kU 16 16 (7::9::15::14::13::[])),[],[]⟩ F (Q8 2 (.two (.one (.two .leaf (.two (.two (.join [(.normal,⟨[.slot 31 (.val (.bool))],[]⟩)] ⟨(kD 31 16 []),[],[]⟩ .leaf) .leaf) .leaf))) .leaf))))) .leaf)))) f147 (by kernel_rfl) fun a=>by kernel_rfl
def Zxr(F:Nat):LK:=lC (Yj F) (lC (Yb F) (lC (Wy F) lN))
def Ql6(F:Nat)(a:Zc):Option (Int):=
 (Ye F (a.2.1::a.2.2::Qa Int)).bind fun v9=>(Qn F (decide (a.2.2<a.2.1),(11:Int))).bind fun v10=>(Qy F (v9::v10::Qa Int)).bind fun v11=>some (v11)
def Yer(F:Nat):PC:={ats:=[.agg kt2],rts:=Zo,code:=Ql6 F}
theorem Qln(F:Nat):Qg cx 114 (Yer F):=qE (Zxr F) .leaf f114 (by kernel_rfl) fun a=>by kernel_rfl
def Ynv(F:Nat):LK:=lC (Yj F) (lC (Qln F) (lC (V0 F) lN))
def Zso(F:Nat):PC:=qT (Ynv F) .leaf f146 [.val (.int .i64),.agg kt2] Zo
theorem Yo5(F:Nat):Qg cx 146 (Zso F):=Ql3 (by kernel_rfl)
def Zud:Qk:=⟨[.slot 0 (.val (.seq kt2))],[(1,.stat (.pv (.lit (.func (.func 146) #[] #[]))))]⟩
def Zry:Qk:=⟨[.slot 0 (.val (.int .i64))],[]⟩
def Ygr(F:Nat):LK:=lC (Yj F) (lC (Qln F) (lC (V0 F) (lC (Yo5 F) lN)))
def Ydq(F:Nat):PX:=qX (Ygr F) (.two .leaf (.two (.two .leaf (.one (.loop ⟨[.slot 10 (.val (.int .i64))],[]⟩ [(.ret,⟨[.slot 4 (.val (.int .i64))],[]⟩),(.exit 0,⟨[],[]⟩)] ⟨[22,10,15,16,17,18,7,21,4,20,19,5,6,14,13,12,11],[],[]⟩ F .leaf))) .leaf)) f112 (pxB 2 [] Zud 1 Zry [] [])
theorem Zna(F:Nat):Zm cx 112 (Ydq F):=Vz (by kernel_rfl)
def Ygv(F:Nat):LK:=lN
def c67(F:Nat)(a:ByteArray):Option (Bool):=
 (bif decide ((↑(ZB a):Int)<(1:Int))then(some (true))else(some (decide (24<(↑(ZB a):Int))))).bind fun v16=>bif v16 then(some (false))else((Qx (O:=Int) (β:=Bool ⊕ Unit) (fun v20=>bif decide (v20<(↑(ZB a):Int))then(gd (decide (0<=v20)) (gd (decide (v20.toNat<ZB a)) ((bif decide (97<=(↑(ZC (R (U a (v20.toNat)))).1:Int))then(bif decide ((↑(ZC (R (U a (v20.toNat)))).1:Int)<=(122:Int))then(some (true))else(bif decide (65<=(↑(ZC (R (U a (v20.toNat)))).1:Int))then(some (decide ((↑(ZC (R (U a (v20.toNat)))).1:Int)<=(90:Int))))else(some (false))))else(bif decide (65<=(↑(ZC (R (U a (v20.toNat)))).1:Int))then(some (decide ((↑(ZC (R (U a (v20.toNat)))).1:Int)<=(90:Int))))else(some (false)))).bind fun v21=>(bif !v21 then(bif decide (v20=0)then(some (true))else(bif decide (48<=(↑(ZC (R (U a (v20.toNat)))).1:Int))then(bif decide ((↑(ZC (R (U a (v20.toNat)))).1:Int)<=(57:Int))then(some (!true))else(some (!decide ((↑(ZC (R (U a (v20.toNat)))).1:Int)=(95:Int)))))else(some (!decide ((↑(ZC (R (U a (v20.toNat)))).1:Int)=(95:Int))))))else(some (false))).bind fun v22=>bif v22 then(some (j (C false)))else(some (C (w64 (v20+1)))))))else(some (j (j ())))) F ((0:Int))).bind fun v17=>J (fun v18=>some (v18)) (fun v19=>some (true)) (v17))
def Ztc(F:Nat):PC:={ats:=Ug,rts:=Xp,code:=c67 F}
theorem Qkv(F:Nat):Qg cx 67 (Ztc F):=qE (Ygv F) (.two .leaf (.two (.two (.join [(.normal,⟨[.slot 13 (.val (.bool))],[]⟩)] ⟨(kD 13 8 []),[],[]⟩ .leaf) .leaf) (.two (.two .leaf (.one (.loop ⟨[.slot 3 (.val (.int .i64))],[]⟩ [(.ret,⟨[.slot 2 (.val (.bool))],[]⟩),(.exit 0,⟨[],[]⟩)] ⟨(20::21::22::4::kU 37 19 (2::5::kD 36 14 (3::kD 19 6 []))),[],[]⟩ F (.two .leaf (.two (.one (.two .leaf (.two (.join [(.normal,⟨[.slot 5 (.val (.bool))],[]⟩)] ⟨(5::kD 36 14 []),[],[]⟩ .leaf) (.two (.join [(.normal,⟨[.slot 55 (.val (.bool))],[]⟩)] ⟨(kD 55 19 []),[],[]⟩ .leaf) .leaf)))) .leaf))))) .leaf))) f67 (by kernel_rfl) fun a=>by kernel_rfl
def Zph(F:Nat):LK:=lN
def c94(F:Nat)(a:Int×Int):Option (Bool):=
 (bif decide (a.1<0)then(some (true))else(some (decide (a.2<a.1)))).bind fun v5=>some (v5)
def Zoz(F:Nat):PC:={ats:=Qo0,rts:=Xp,code:=c94 F}
theorem Qix(F:Nat):Qg cx 94 (Zoz F):=qE (Zph F) (.two .leaf (.two (.join [(.normal,⟨[.slot 4 (.val (.bool))],[]⟩)] ⟨(4::kD 11 7 []),[],[]⟩ .leaf) .leaf)) f94 (by kernel_rfl) fun a=>by kernel_rfl
def Ydf(F:Nat):LK:=lN
def c68(F:Nat)(a:List (Zc)×ByteArray×Int):Option (Bool):=
 (Qx (O:=Int) (β:=Bool ⊕ Unit) (fun v15=>bif decide (v15<(↑(a.1.length):Int))then((gd (decide (0<=v15)) (gd (decide (v15<(↑(a.1.length):Int))) (gd (decide (v15.toNat<a.1.length)) (bif Qc (a.1.getD (v15.toNat) YP).1 a.2.1 then(gd (decide (0<=v15)) (gd (decide (v15<(↑(a.1.length):Int))) (gd (decide (v15.toNat<a.1.length)) (bif decide ((a.1.getD (v15.toNat) YP).2.1<=a.2.2)then(gd (decide (0<=v15)) (gd (decide (v15<(↑(a.1.length):Int))) (gd (decide (v15.toNat<a.1.length)) (some (decide (a.2.2<=(a.1.getD (v15.toNat) YP).2.2))))))else(some (false))))))else(some (false)))))).bind fun v16=>bif v16 then(some (j (C true)))else(some (C (w64 (v15+1)))))else(some (j (j ())))) F ((0:Int))).bind fun v12=>J (fun v13=>some (v13)) (fun v14=>some (false)) (v12)
def Ycy(F:Nat):PC:={ats:=Zln,rts:=Xp,code:=c68 F}
theorem Zrp(F:Nat):Qg cx 68 (Ycy F):=qE (Ydf F) (.two .leaf (.two (.two .leaf (.one (.loop ⟨[.slot 7 (.val (.int .i64))],[]⟩ [(.ret,⟨[.slot 6 (.val (.bool))],[]⟩),(.exit 0,⟨[],[]⟩)] ⟨(kU 14 25 (6::7::kD 13 6 [])),[],[]⟩ F (.two .leaf (.two (.one (.two (.join [(.normal,⟨[.slot 38 (.val (.bool))],[]⟩)] ⟨(kD 38 25 []),[],[]⟩ .leaf) .leaf)) .leaf))))) .leaf)) f68 (by kernel_rfl) fun a=>by kernel_rfl
def c30(F:Nat)(a:List Int):Option (Int):=
 (Qx (O:=Int) (β:=Int ⊕ Unit) (fun v13=>bif decide (v13<(↑(a.length):Int))then(gd (decide (0<=v13)) (gd (decide (v13<(↑(a.length):Int))) (gd (decide (v13.toNat<a.length)) (bif !decide (a.getD (v13.toNat) (0:Int)=(0:Int))then(some (j (C (a.getD (v13.toNat) (0:Int)))))else(some (C (w64 (v13+1))))))))else(some (j (j ())))) F ((0:Int))).bind fun v10=>J (fun v11=>some (v11)) (fun v12=>some ((0:Int))) (v10)
def Zzl(F:Nat):LK:=lN
def c44(F:Nat)(a:List ByteArray×List ByteArray):Option (Bool):=
 bif !decide ((↑(a.1.length):Int)=(↑(a.2.length):Int))then(some (false))else((Qx (O:=Int) (β:=Bool ⊕ Unit) (fun v13=>bif decide (v13<(↑(a.1.length):Int))then(gd (decide (0<=v13)) (gd (decide (v13<(↑(a.1.length):Int))) (gd (decide (v13.toNat<a.1.length)) (gd (decide (0<=v13)) (gd (decide (v13<(↑(a.2.length):Int))) (gd (decide (v13.toNat<a.2.length)) (bif !Qc (a.1.getD (v13.toNat) ZA) (a.2.getD (v13.toNat) ZA)then(some (j (C false)))else(some (C (w64 (v13+1)))))))))))else(some (j (j ())))) F ((0:Int))).bind fun v10=>J (fun v11=>some (v11)) (fun v12=>some (true)) (v10))
def Zlq(F:Nat):PC:={ats:=[.val (.seq Z3),.val (.seq Z3)],rts:=Xp,code:=c44 F}
theorem Qvk(F:Nat):Qg cx 44 (Zlq F):=qE (Zzl F) (Q8 2 (.two (.two .leaf (.one (.loop ⟨[.slot 5 (.val (.int .i64))],[]⟩ [(.ret,⟨[.slot 4 (.val (.bool))],[]⟩),(.exit 0,⟨[],[]⟩)] ⟨(kU 17 9 (4::5::kD 16 6 [])),[],[]⟩ F .leaf))) .leaf)) f44 (by kernel_rfl) fun a=>by kernel_rfl
def Zqd(F:Nat):LK:=lN
def c45(F:Nat)(a:List Int×List Int):Option (Bool):=
 bif !decide ((↑(a.1.length):Int)=(↑(a.2.length):Int))then(some (false))else((Qx (O:=Int) (β:=Bool ⊕ Unit) (fun v13=>bif decide (v13<(↑(a.1.length):Int))then(gd (decide (0<=v13)) (gd (decide (v13<(↑(a.1.length):Int))) (gd (decide (v13.toNat<a.1.length)) (gd (decide (0<=v13)) (gd (decide (v13<(↑(a.2.length):Int))) (gd (decide (v13.toNat<a.2.length)) (bif !decide (a.1.getD (v13.toNat) (0:Int)=a.2.getD (v13.toNat) (0:Int))then(some (j (C false)))else(some (C (w64 (v13+1)))))))))))else(some (j (j ())))) F ((0:Int))).bind fun v10=>J (fun v11=>some (v11)) (fun v12=>some (true)) (v10))
def Zcn(F:Nat):PC:={ats:=[.val (.seq kt6),.val (.seq kt6)],rts:=Xp,code:=c45 F}
theorem Yfe(F:Nat):Qg cx 45 (Zcn F):=qE (Zqd F) (Q8 2 (.two (.two .leaf (.one (.loop ⟨[.slot 5 (.val (.int .i64))],[]⟩ [(.ret,⟨[.slot 4 (.val (.bool))],[]⟩),(.exit 0,⟨[],[]⟩)] ⟨(kU 17 9 (4::5::kD 16 6 [])),[],[]⟩ F .leaf))) .leaf)) f45 (by kernel_rfl) fun a=>by kernel_rfl
def Yms(F:Nat):LK:=lN
def c47(F:Nat)(a:(Zr)×ByteArray):Option (Int):=
 (Qx (O:=Int) (β:=Int ⊕ Unit) (fun v13=>bif decide (v13<(↑(a.1.2.2.2.2.length):Int))then(gd (decide (0<=v13)) (gd (decide (v13<(↑(a.1.2.2.2.2.length):Int))) (gd (decide (v13.toNat<a.1.2.2.2.2.length)) (bif Qc (a.1.2.2.2.2.getD (v13.toNat) Zf).1 a.2 then(some (j (C v13)))else(some (C (w64 (v13+1))))))))else(some (j (j ())))) F ((0:Int))).bind fun v10=>J (fun v11=>some (v11)) (fun v12=>some ((-1:Int))) (v10)
def Ysg(F:Nat):PC:={ats:=[.agg Xo,.val (.str)],rts:=Zo,code:=c47 F}
theorem Qfc(F:Nat):Qg cx 47 (Ysg F):=qE (Yms F) (.two .leaf (.two (.two .leaf (.one (.loop ⟨[.slot 5 (.val (.int .i64))],[]⟩ [(.ret,⟨[.slot 4 (.val (.int .i64))],[]⟩),(.exit 0,⟨[],[]⟩)] ⟨(kU 13 8 (4::21::5::kD 12 7 [])),[],[]⟩ F .leaf))) .leaf)) f47 (by kernel_rfl) fun a=>by kernel_rfl
def Yek(F:Nat):LK:=lN
def Qnz(F:Nat)(a:ByteArray):Option (Bool):=
 (bif Qc a YS then(some (true))else(bif Qc a YT then(some (true))else(bif Qc a YU then(some (true))else(some (Qc a YR))))).bind fun v5=>some (v5)
def Yp2(F:Nat):PC:={ats:=Ug,rts:=Xp,code:=Qnz F}
theorem Ykz(F:Nat):Qg cx 210 (Yp2 F):=qE (Yek F) (.two .leaf (.two (.join [(.normal,⟨[.slot 2 (.val (.bool))],[]⟩)] ⟨(2::kD 16 14 []),[],[]⟩ .leaf) .leaf)) f210 (by kernel_rfl) fun a=>by kernel_rfl
def Zqh(F:Nat):LK:=lN
def Qzs(F:Nat)(a:ByteArray):Option (Int):=
 bif Qc a YL then(some ((863999999:Int)))else(bif Qc a YM then(some ((999999:Int)))else(some ((99999:Int))))
def Yns(F:Nat):PC:={ats:=Ug,rts:=Zo,code:=Qzs F}
theorem Zq3(F:Nat):Qg cx 212 (Yns F):=qE (Zqh F) .leaf f212 (by kernel_rfl) fun a=>by kernel_rfl
def Yog(F:Nat):LK:=lN
def Qvf(F:Nat)(a:ByteArray):Option (Int):=
 bif Qc a YL then(some ((1:Int)))else(some ((0:Int)))
def Ysa(F:Nat):PC:={ats:=Ug,rts:=Zo,code:=Qvf F}
theorem Ymf(F:Nat):Qg cx 211 (Ysa F):=qE (Yog F) .leaf f211 (by kernel_rfl) fun a=>by kernel_rfl
def Yod(F:Nat):LK:=lC (Ymf F) (lC (Zq3 F) (lC (Ykz F) lN))
def Qic(F:Nat)(a:ByteArray×Int×ByteArray):Option (Int):=
 bif Qc a.1 YN then((Qnz F a.2.2).bind fun v18=>bif !v18 then(some ((1:Int)))else(bif !decide (a.2.1=0)then(some ((3:Int)))else(some ((0:Int)))))else((bif Qc a.1 YL then(some (Qc a.1 YL))else((bif Qc a.1 YM then(some (Qc a.1 YM))else(some (Qc a.1 YO))).bind fun v23=>some (v23))).bind fun v19=>bif v19 then(bif !Qc a.2.2 YC then(some ((1:Int)))else(((Qvf F a.1).bind fun v21=>bif decide (a.2.1<v21)then(some (true))else((Qzs F a.1).bind fun v22=>some (decide (v22<a.2.1)))).bind fun v20=>bif v20 then(some ((3:Int)))else(some ((0:Int)))))else(some ((13:Int))))
def Zxq(F:Nat):PC:={ats:=[.agg kt7],rts:=Zo,code:=Qic F}
theorem Qur(F:Nat):Qg cx 156 (Zxq F):=qE (Yod F) (.two .leaf (.two (.two .leaf (.one (Q8 2 (.two (.two .leaf (.join [(.normal,⟨[.slot 14 (.val (.bool))],[]⟩)] ⟨[16,14,17],[],[]⟩ (Q8 2 (.join [(.normal,⟨[.slot 14 (.val (.bool))],[]⟩)] ⟨[17,14],[],[]⟩ .leaf)))) (.two (.two .leaf (.two (.two (.join [(.normal,⟨[.slot 34 (.val (.bool))],[]⟩)] ⟨(kD 34 14 []),[],[]⟩ .leaf) .leaf) .leaf)) .leaf))))) .leaf)) f156 (by kernel_rfl) fun a=>by kernel_rfl
def Zxb(F:Nat):LK:=lN
def Qgp(F:Nat)(a:(ByteArray×Int×ByteArray)×ByteArray):Option (Bool):=
 (bif Qc a.1.1 a.2 then(some (true))else(some (Qc a.1.1 YN))).bind fun v5=>some (v5)
def Ye1(F:Nat):PC:={ats:=[.agg kt7,.val (.str)],rts:=Xp,code:=Qgp F}
theorem Quy(F:Nat):Qg cx 157 (Ye1 F):=qE (Zxb F) (.two .leaf (.two (.join [(.normal,⟨[.slot 4 (.val (.bool))],[]⟩)] ⟨(4::kD 13 9 []),[],[]⟩ .leaf) .leaf)) f157 (by kernel_rfl) fun a=>by kernel_rfl
def Ykf(F:Nat):LK:=lC (Qkv F) (lC (Qix F) (lC (Quy F) (lC (Qur F) (lC (Qfc F) lN))))
def c95(F:Nat)(a:(Zr)×Int):Option (Int):=
 gd (decide (0<=a.2)) (gd (decide (a.2<(↑(a.1.2.2.2.2.length):Int))) (gd (decide (a.2.toNat<a.1.2.2.2.2.length)) ((c67 F (a.1.2.2.2.2.getD (a.2.toNat) Zf).1).bind fun v42=>bif !v42 then(some ((8:Int)))else((c47 F (a.1,(a.1.2.2.2.2.getD (a.2.toNat) Zf).1)).bind fun v43=>bif decide (v43<a.2)then(some ((9:Int)))else((bif !Qc (a.1.2.2.2.2.getD (a.2.toNat) Zf).2.1 YL then(bif !Qc (a.1.2.2.2.2.getD (a.2.toNat) Zf).2.1 YM then(some (!Qc (a.1.2.2.2.2.getD (a.2.toNat) Zf).2.1 YO))else(some (false)))else(some (false))).bind fun v44=>bif v44 then(some ((13:Int)))else((bif !Qc (a.1.2.2.2.2.getD (a.2.toNat) Zf).2.2.1 YC then((c67 F (a.1.2.2.2.2.getD (a.2.toNat) Zf).2.2.1).bind fun v57=>some (!v57))else(some (false))).bind fun v45=>bif v45 then(some ((8:Int)))else(((c94 F ((a.1.2.2.2.2.getD (a.2.toNat) Zf).2.2.2.1,(120:Int))).bind fun v55=>bif v55 then(some (true))else((c94 F ((a.1.2.2.2.2.getD (a.2.toNat) Zf).2.2.2.2.1,(120:Int))).bind fun v56=>some (v56))).bind fun v46=>bif v46 then(some ((3:Int)))else(bif decide ((a.1.2.2.2.2.getD (a.2.toNat) Zf).2.2.2.2.1<(a.1.2.2.2.2.getD (a.2.toNat) Zf).2.2.2.1)then(some ((11:Int)))else(((c94 F ((a.1.2.2.2.2.getD (a.2.toNat) Zf).2.2.2.2.2.1,(160:Int))).bind fun v52=>bif v52 then(some (true))else((c94 F ((a.1.2.2.2.2.getD (a.2.toNat) Zf).2.2.2.2.2.2.1,(160:Int))).bind fun v53=>bif v53 then(some (true))else((c94 F ((a.1.2.2.2.2.getD (a.2.toNat) Zf).2.2.2.2.2.2.2.2.2.2,(8:Int))).bind fun v54=>some (v54)))).bind fun v47=>bif v47 then(some ((3:Int)))else((Qic F ((a.1.2.2.2.2.getD (a.2.toNat) Zf).2.2.2.2.2.2.2.1,(a.1.2.2.2.2.getD (a.2.toNat) Zf).2.2.2.2.2.2.2.2.1,(a.1.2.2.2.2.getD (a.2.toNat) Zf).2.2.2.2.2.2.2.2.2.1)).bind fun v48=>(bif decide (v48=0)then((Qgp F (((a.1.2.2.2.2.getD (a.2.toNat) Zf).2.2.2.2.2.2.2.1,(a.1.2.2.2.2.getD (a.2.toNat) Zf).2.2.2.2.2.2.2.2.1,(a.1.2.2.2.2.getD (a.2.toNat) Zf).2.2.2.2.2.2.2.2.2.1),(a.1.2.2.2.2.getD (a.2.toNat) Zf).2.1)).bind fun v51=>some (!v51))else(some (false))).bind fun v49=>(bif v49 then(some ((13:Int)))else(some (v48))).bind fun v50=>some (v50)))))))))))
def Zn2(F:Nat):PC:={ats:=[.agg Xo,.val (.int .i64)],rts:=Zo,code:=c95 F}
theorem Yka(F:Nat):Qg cx 95 (Zn2 F):=qE (Ykf F) (Q8 4 (.two (.two (.join [(.normal,⟨[.slot 34 (.val (.bool))],[]⟩)] ⟨(kD 34 13 []),[],[]⟩ .leaf) .leaf) (.two (.two (.join [(.normal,⟨[.slot 43 (.val (.bool))],[]⟩)] ⟨(kD 43 9 []),[],[]⟩ .leaf) .leaf) (.two (.two (.join [(.normal,⟨[.slot 51 (.val (.bool))],[]⟩)] ⟨(kD 51 8 []),[],[]⟩ .leaf) .leaf) (.two .leaf (.two (.two (.join [(.normal,⟨[.slot 69 (.val (.bool))],[]⟩)] ⟨(kD 69 13 []),[],[]⟩ .leaf) .leaf) (.two .leaf (.two (.two (.join [(.normal,⟨[.slot 82 (.val (.bool))],[]⟩)] ⟨(kD 82 10 []),[],[]⟩ .leaf) (.join [(.normal,⟨[.slot 6 (.val (.int .i64))],[]⟩)] ⟨[6],[],[]⟩ .leaf)) .leaf)))))))) f95 (by kernel_rfl) fun a=>by kernel_rfl
def Yq0(F:Nat):LK:=lC (Yka F) (lC (Qix F) lN)
def c22(F:Nat)(a:Zr):Option (Int):=
 ((c94 F (a.1,(99999:Int))).bind fun v35=>bif v35 then(some (true))else((c94 F (a.2.1,(99999:Int))).bind fun v36=>bif v36 then(some (true))else((c94 F (a.2.2.1,(99999:Int))).bind fun v37=>some (v37)))).bind fun v27=>bif v27 then(some ((3:Int)))else((bif decide (a.2.2.1<a.2.1)then(some (true))else(some (decide (a.1<a.2.2.1)))).bind fun v28=>bif v28 then(some ((11:Int)))else((c94 F (a.2.2.2.1,(32:Int))).bind fun v29=>bif v29 then(some ((3:Int)))else(bif decide (32<(↑(a.2.2.2.2.length):Int))then(some ((5:Int)))else((Qx (O:=Int) (β:=Int ⊕ Unit) (fun v33=>bif decide (v33<(↑(a.2.2.2.2.length):Int))then((c95 F (a,v33)).bind fun v34=>bif !decide (v34=0)then(some (j (C v34)))else(some (C (w64 (v33+1)))))else(some (j (j ())))) F ((0:Int))).bind fun v30=>J (fun v31=>some (v31)) (fun v32=>some ((0:Int))) (v30)))))
def Yam(F:Nat):PC:={ats:=[.agg Xo],rts:=Zo,code:=c22 F}
theorem Zha(F:Nat):Qg cx 22 (Yam F):=qE (Yq0 F) (.two .leaf (.two (.two (.join [(.normal,⟨[.slot 17 (.val (.bool))],[]⟩)] ⟨(kD 17 13 []),[],[]⟩ .leaf) .leaf) (.two (.two (.join [(.normal,⟨[.slot 29 (.val (.bool))],[]⟩)] ⟨(kD 29 12 []),[],[]⟩ .leaf) .leaf) (Q8 2 (.two (.two .leaf (.one (.loop ⟨[.slot 3 (.val (.int .i64))],[]⟩ [(.ret,⟨[.slot 2 (.val (.int .i64))],[]⟩),(.exit 0,⟨[],[]⟩)] ⟨(44::45::46::4::49::2::48::47::3::kD 43 7 []),[],[]⟩ F .leaf))) .leaf))))) f22 (by kernel_rfl) fun a=>by kernel_rfl
def Zse(F:Nat):LK:=lN
def Ks(F:Nat)(a:ByteArray):Option (ByteArray):=
 (Qx (O:=Int) (β:=ByteArray ⊕ Unit) (fun v14=>bif decide (v14<(↑(8:Nat):Int))then(gd (decide (0<=v14)) (gd (decide (v14<(↑(8:Nat):Int))) (gd (decide ((0:Nat)+v14.toNat<8)) (bif Qc (ZE (YJ::YF::YG::YD::YE::YB::YH::YI::Qa ByteArray) ((0:Nat)+v14.toNat) ZA) a then(gd (decide (0<=v14)) (gd (decide (v14<(↑(8:Nat):Int))) (gd (decide ((0:Nat)+v14.toNat<8)) (some (j (C (ZE (WB::YW::YX::WA::YY::YV::YV::YZ::Qa ByteArray) ((0:Nat)+v14.toNat) ZA)))))))else(some (C (w64 (v14+1))))))))else(some (j (j ())))) F ((0:Int))).bind fun v11=>J (fun v12=>some (v12)) (fun v13=>some (YC)) (v11)
def Yhn(F:Nat):PC:={ats:=Ug,rts:=Ug,code:=Ks F}
theorem Zws(F:Nat):Qg cx 102 (Yhn F):=qE (Zse F) (Q8 3 (.two (.two .leaf (.one (.typ 0 9 Z3 (.typ 1 9 Z3 (.loop ⟨[.slot 5 (.val (.int .i64))],[]⟩ [(.ret,⟨[.slot 2 (.val (.str))],[]⟩),(.exit 0,⟨[],[]⟩)] ⟨(kU 14 6 (2::23::22::21::20::5::kD 13 6 [])),[],[]⟩ F .leaf))))) .leaf)) f102 (by kernel_rfl) fun a=>by kernel_rfl
def Ysn(F:Nat):LK:=lN
def X0(F:Nat)(a:ByteArray×Int):Option (Bool):=
 (Qx (O:=Int) (β:=Bool ⊕ Unit) (fun v13=>bif decide (v13<(↑(ZB a.1):Int))then(gd (decide (0<=v13)) (gd (decide (v13.toNat<ZB a.1)) (bif decide ((↑(ZC (R (U a.1 (v13.toNat)))).1:Int)=a.2)then(some (j (C true)))else(some (C (w64 (v13+1)))))))else(some (j (j ())))) F ((0:Int))).bind fun v10=>J (fun v11=>some (v11)) (fun v12=>some (false)) (v10)
def Zov(F:Nat):PC:={ats:=[.val (.str),.val (.int .u8)],rts:=Xp,code:=X0 F}
theorem Zob(F:Nat):Qg cx 104 (Zov F):=qE (Ysn F) (.two .leaf (.two (.two .leaf (.one (.loop ⟨[.slot 5 (.val (.int .i64))],[]⟩ [(.ret,⟨[.slot 4 (.val (.bool))],[]⟩),(.exit 0,⟨[],[]⟩)] ⟨[12,13,14,15,16,4,5,11,10,9,8,7,6],[],[]⟩ F .leaf))) .leaf)) f104 (by kernel_rfl) fun a=>by kernel_rfl
def Yqg(F:Nat):LK:=lC (Qkv F) lN
def Qdq(F:Nat)(a:ByteArray):Option (Int):=
 (c67 F a).bind fun v5=>bif !v5 then(some ((8:Int)))else(some ((0:Int)))
def Yb8(F:Nat):PC:={ats:=Ug,rts:=Zo,code:=Qdq F}
theorem Zfy(F:Nat):Qg cx 180 (Yb8 F):=qE (Yqg F) .leaf f180 (by kernel_rfl) fun a=>by kernel_rfl
def Zza(F:Nat):LK:=lC (Qix F) lN
def Qgy(F:Nat)(a:Int):Option (Int):=
 (c94 F (a,(99999:Int))).bind fun v5=>bif v5 then(some ((3:Int)))else(some ((0:Int)))
def Yar(F:Nat):PC:={ats:=Zo,rts:=Zo,code:=Qgy F}
theorem Zgb(F:Nat):Qg cx 181 (Yar F):=qE (Zza F) .leaf f181 (by kernel_rfl) fun a=>by kernel_rfl
def Ycg(F:Nat):LK:=lC (Qkv F) lN
def Qrq(F:Nat)(a:List ByteArray):Option (Int):=
 bif decide (8<(↑(a.length):Int))then(some ((5:Int)))else((Qx (O:=Int) (β:=Int ⊕ Unit) (fun v15=>bif decide (v15<(↑(a.length):Int))then(gd (decide (0<=v15)) (gd (decide (v15<(↑(a.length):Int))) (gd (decide (v15.toNat<a.length)) ((c67 F (a.getD (v15.toNat) ZA)).bind fun v16=>bif !v16 then(some (j (C (8:Int))))else(some (C (w64 (v15+1))))))))else(some (j (j ())))) F ((0:Int))).bind fun v12=>J (fun v13=>some (v13)) (fun v14=>some ((0:Int))) (v12))
def Zow(F:Nat):PC:={ats:=Qb3,rts:=Zo,code:=Qrq F}
theorem Ygd(F:Nat):Qg cx 182 (Zow F):=qE (Ycg F) (Q8 2 (.two (.two .leaf (.one (.loop ⟨[.slot 3 (.val (.int .i64))],[]⟩ [(.ret,⟨[.slot 2 (.val (.int .i64))],[]⟩),(.exit 0,⟨[],[]⟩)] ⟨(kU 13 6 (2::3::kD 12 6 [])),[],[]⟩ F .leaf))) .leaf)) f182 (by kernel_rfl) fun a=>by kernel_rfl
def Ztb(F:Nat):LK:=lC (Ygd F) (lC (Qur F) (lC (Zgb F) (lC (Zfy F) lN)))
def Qnt(F:Nat)(a:(Q4)×Int):Option (Int):=
 bif decide (a.2=97)then((Qdq F a.1.2.2.1).bind fun v19=>some (v19))else(bif decide (a.2=99)then((Qdq F a.1.2.2.2.1).bind fun v20=>some (v20))else(bif decide (a.2=103)then((Qdq F a.1.2.2.2.2.1).bind fun v21=>some (v21))else(bif decide (a.2=102)then((Qgy F a.1.2.2.2.2.2.2.1).bind fun v22=>some (v22))else(bif decide (a.2=116)then((Qgy F a.1.2.2.2.2.2.2.2.1).bind fun v23=>some (v23))else(bif decide (a.2=107)then((Qdq F a.1.2.2.2.2.2.1).bind fun v24=>some (v24))else(bif decide (a.2=109)then((Qic F (a.1.2.2.2.2.2.2.2.2.1,a.1.2.2.2.2.2.2.2.2.2.1,a.1.2.2.2.2.2.2.2.2.2.2.1)).bind fun v25=>some (v25))else((Qrq F a.1.2.2.2.2.2.2.2.2.2.2.2).bind fun v26=>some (v26))))))))
def Yim(F:Nat):PC:={ats:=[.agg Xd,.val (.int .u8)],rts:=Zo,code:=Qnt F}
theorem Yc7(F:Nat):Qg cx 103 (Yim F):=qE (Ztb F) .leaf f103 (by kernel_rfl) fun a=>by kernel_rfl
def Zvu(F:Nat):LK:=lC (Yc7 F) (lC (Zob F) (lC (Qix F) (lC (Zws F) lN)))
def Qwr(F:Nat)(a:Q4)(x0:ByteArray):Option (Bool):=
 (X0 F (x0,(110:Int))).bind fun(u1:Bool)=>bif !u1 then(some (decide (0<(↑(a.2.2.2.2.2.2.2.2.2.2.2.length):Int))))else(some (false))
def Qun(F:Nat)(a:Q4)(x0:ByteArray):Option (Bool):=
 (X0 F (x0,(109:Int))).bind fun(u1:Bool)=>bif !u1 then(bif !(a.2.2.2.2.2.2.2.2.1==YC&&(decide (a.2.2.2.2.2.2.2.2.2.1=0)&&(a.2.2.2.2.2.2.2.2.2.2.1==YC&&true)))then(some (true))else(Qwr F a x0))else(Qwr F a x0)
def Qvv(F:Nat)(a:Q4)(x0:ByteArray):Option (Bool):=
 (X0 F (x0,(116:Int))).bind fun(u1:Bool)=>bif !u1 then(bif !decide (a.2.2.2.2.2.2.2.1=0)then(some (true))else(Qun F a x0))else(Qun F a x0)
def Qy8(F:Nat)(a:Q4)(x0:ByteArray):Option (Bool):=
 (X0 F (x0,(102:Int))).bind fun(u1:Bool)=>bif !u1 then(bif !decide (a.2.2.2.2.2.2.1=0)then(some (true))else(Qvv F a x0))else(Qvv F a x0)
def Qu6(F:Nat)(a:Q4)(x0:ByteArray):Option (Bool):=
 (X0 F (x0,(107:Int))).bind fun(u1:Bool)=>bif !u1 then(bif !Qc a.2.2.2.2.2.1 YC then(some (true))else(Qy8 F a x0))else(Qy8 F a x0)
def Qv7(F:Nat)(a:Q4)(x0:ByteArray):Option (Bool):=
 (X0 F (x0,(103:Int))).bind fun(u1:Bool)=>bif !u1 then(bif !Qc a.2.2.2.2.1 YC then(some (true))else(Qu6 F a x0))else(Qu6 F a x0)
def Qpb(F:Nat)(a:Q4)(x0:ByteArray):Option (Bool):=
 (X0 F (x0,(99:Int))).bind fun(u1:Bool)=>bif !u1 then(bif !Qc a.2.2.2.1 YC then(some (true))else(Qv7 F a x0))else(Qv7 F a x0)
def c24(F:Nat)(a:Q4):Option (Int):=
 (Ks F a.2.1).bind fun v785=>bif Qc v785 YC then(some ((13:Int)))else((c94 F (a.1,(99999:Int))).bind fun v786=>bif v786 then(some ((3:Int)))else((Qx (O:=Int) (β:=Int ⊕ Unit) (fun v1047=>bif decide (v1047<(↑(ZB v785):Int))then(gd (decide (0<=v1047)) (gd (decide (v1047.toNat<ZB v785)) ((Qnt F (a,(↑(ZC (R (U v785 (v1047.toNat)))).1:Int))).bind fun v1048=>bif !decide (v1048=0)then(some (j (C v1048)))else(some (C (w64 (v1047+1)))))))else(some (j (j ())))) F ((0:Int))).bind fun v787=>J (fun v788=>some (v788)) (fun v789=>(bif Qc a.2.1 YG then(some (decide (a.2.2.2.2.2.2.2.1<a.2.2.2.2.2.2.1)))else(some (false))).bind fun v790=>bif v790 then(some ((11:Int)))else(((X0 F (v785,(97:Int))).bind fun v792=>bif !v792 then(bif !Qc a.2.2.1 YC then(some (true))else(Qpb F a v785))else(Qpb F a v785)).bind fun v791=>bif v791 then(some ((1:Int)))else(some ((0:Int))))) (v787)))
def Ya9(F:Nat):PC:={ats:=Ku,rts:=Zo,code:=c24 F}
theorem Yp6(F:Nat):Qg cx 24 (Ya9 F):=qE (Zvu F) (Q8 4 (.two (.two .leaf (.one (.loop ⟨[.slot 4 (.val (.int .i64))],[]⟩ [(.ret,⟨[.slot 2 (.val (.int .i64))],[]⟩),(.exit 0,⟨[],[]⟩)] ⟨[20,21,22,23,24,5,27,2,26,25,4,19,18,17,16,15,14],[],[]⟩ F .leaf))) (.two (.two (.join [(.normal,⟨[.slot 37 (.val (.bool))],[]⟩)] ⟨(kD 37 10 []),[],[]⟩ .leaf) .leaf) (.two (.two (.join [(.normal,⟨[.slot 117 (.val (.bool))],[]⟩)] ⟨(kD 117 80 []),[],[]⟩ .leaf) .leaf) .leaf)))) f24 (by kernel_rfl) fun a=>by kernel_rfl
def Yda(F:Nat):LK:=lN
def c40(F:Nat)(a:(Qm)×ByteArray):Option (Int):=
 (Qx (O:=Int) (β:=Int ⊕ Unit) (fun v13=>bif decide (v13<(↑(a.1.2.1.length):Int))then(gd (decide (0<=v13)) (gd (decide (v13<(↑(a.1.2.1.length):Int))) (gd (decide (v13.toNat<a.1.2.1.length)) (bif Qc (a.1.2.1.getD (v13.toNat) Yf).1 a.2 then(some (j (C v13)))else(some (C (w64 (v13+1))))))))else(some (j (j ())))) F ((0:Int))).bind fun v10=>J (fun v11=>some (v11)) (fun v12=>some ((-1:Int))) (v10)
def Zpd(F:Nat):PC:={ats:=Qeu,rts:=Zo,code:=c40 F}
theorem Wx(F:Nat):Qg cx 40 (Zpd F):=qE (Yda F) (.two .leaf (.two (.two .leaf (.one (.loop ⟨[.slot 5 (.val (.int .i64))],[]⟩ [(.ret,⟨[.slot 4 (.val (.int .i64))],[]⟩),(.exit 0,⟨[],[]⟩)] ⟨(kU 13 8 (4::21::5::kD 12 7 [])),[],[]⟩ F .leaf))) .leaf)) f40 (by kernel_rfl) fun a=>by kernel_rfl
def Yh6(F:Nat):LK:=lN
def c53(F:Nat)(a:(Qm)×ByteArray×ByteArray):Option (Int):=
 (Qx (O:=Int) (β:=Int ⊕ Unit) (fun v15=>bif decide (v15<(↑(a.1.2.2.2.1.length):Int))then((gd (decide (0<=v15)) (gd (decide (v15<(↑(a.1.2.2.2.1.length):Int))) (gd (decide (v15.toNat<a.1.2.2.2.1.length)) (bif Qc (a.1.2.2.2.1.getD (v15.toNat) Zk).1 a.2.1 then(gd (decide (0<=v15)) (gd (decide (v15<(↑(a.1.2.2.2.1.length):Int))) (gd (decide (v15.toNat<a.1.2.2.2.1.length)) (some (Qc (a.1.2.2.2.1.getD (v15.toNat) Zk).2.1 a.2.2)))))else(some (false)))))).bind fun v16=>bif v16 then(some (j (C v15)))else(some (C (w64 (v15+1)))))else(some (j (j ())))) F ((0:Int))).bind fun v12=>J (fun v13=>some (v13)) (fun v14=>some ((-1:Int))) (v12)
def Ym0(F:Nat):PC:={ats:=Qms,rts:=Zo,code:=c53 F}
theorem Kz(F:Nat):Qg cx 53 (Ym0 F):=qE (Yh6 F) (.two .leaf (.two (.two .leaf (.one (.loop ⟨[.slot 7 (.val (.int .i64))],[]⟩ [(.ret,⟨[.slot 6 (.val (.int .i64))],[]⟩),(.exit 0,⟨[],[]⟩)] ⟨(kU 15 18 (6::33::7::kD 14 7 [])),[],[]⟩ F (.two .leaf (.two (.one (.two (.join [(.normal,⟨[.slot 32 (.val (.bool))],[]⟩)] ⟨(kD 32 18 []),[],[]⟩ .leaf) .leaf)) .leaf))))) .leaf)) f53 (by kernel_rfl) fun a=>by kernel_rfl
def Yid(F:Nat):LK:=lC (Qfc F) (lC (Qur F) (lC (Zgb F) (lC (Quy F) (lC (Kz F) (lC (Wx F) lN)))))
def Qo2(F:Nat)(a:(Qm)×(Zr)×Int):Option (Int):=
 gd (decide (0<=a.2.2)) (gd (decide (a.2.2<(↑(a.1.2.2.2.1.length):Int))) (gd (decide (a.2.2.toNat<a.1.2.2.2.1.length)) ((c47 F (a.2.1,(a.1.2.2.2.1.getD (a.2.2.toNat) Zk).2.1)).bind fun v26=>((c40 F (a.1,(a.1.2.2.2.1.getD (a.2.2.toNat) Zk).1)).bind fun v35=>bif decide (v35<0)then(some (true))else(some (decide (v26<0)))).bind fun v27=>bif v27 then(some ((10:Int)))else(gd (decide (0<=v26)) (gd (decide (v26<(↑(a.2.1.2.2.2.2.length):Int))) (gd (decide (v26.toNat<a.2.1.2.2.2.2.length)) (bif decide (0<(a.2.1.2.2.2.2.getD (v26.toNat) Zf).2.2.2.2.2.2.2.2.2.2)then(some ((13:Int)))else((c53 F (a.1,(a.1.2.2.2.1.getD (a.2.2.toNat) Zk).1,(a.1.2.2.2.1.getD (a.2.2.toNat) Zk).2.1)).bind fun v28=>bif decide (v28<a.2.2)then(some ((9:Int)))else((Qic F ((a.1.2.2.2.1.getD (a.2.2.toNat) Zk).2.2.1,(a.1.2.2.2.1.getD (a.2.2.toNat) Zk).2.2.2.1,(a.1.2.2.2.1.getD (a.2.2.toNat) Zk).2.2.2.2.1)).bind fun v29=>(bif decide (v29=0)then(gd (decide (0<=v26)) (gd (decide (v26<(↑(a.2.1.2.2.2.2.length):Int))) (gd (decide (v26.toNat<a.2.1.2.2.2.2.length)) ((Qgp F (((a.1.2.2.2.1.getD (a.2.2.toNat) Zk).2.2.1,(a.1.2.2.2.1.getD (a.2.2.toNat) Zk).2.2.2.1,(a.1.2.2.2.1.getD (a.2.2.toNat) Zk).2.2.2.2.1),(a.2.1.2.2.2.2.getD (v26.toNat) Zf).2.1)).bind fun v34=>some (!v34)))))else(some (false))).bind fun v30=>(bif v30 then(some ((13:Int)))else(some (v29))).bind fun v31=>(bif decide (v31=0)then((Qgy F (a.1.2.2.2.1.getD (a.2.2.toNat) Zk).2.2.2.2.2.1).bind fun v33=>some (v33))else(some (v31))).bind fun v32=>some (v32))))))))))
def Zzc(F:Nat):PC:={ats:=[.agg Zn,.agg Xo,.val (.int .i64)],rts:=Zo,code:=Qo2 F}
theorem Zpj(F:Nat):Qg cx 122 (Zzc F):=qE (Yid F) (Q8 3 (.two (.two (.join [(.normal,⟨[.slot 27 (.val (.bool))],[]⟩)] ⟨(kD 27 9 []),[],[]⟩ .leaf) .leaf) (Q8 3 (.two (.two (.join [(.normal,⟨[.slot 59 (.val (.bool))],[]⟩)] ⟨(kD 59 14 []),[],[]⟩ .leaf) (.join [(.normal,⟨[.slot 9 (.val (.int .i64))],[]⟩)] ⟨[9],[],[]⟩ .leaf)) (.two (.two .leaf (.join [(.normal,⟨[.slot 9 (.val (.int .i64))],[]⟩)] ⟨[9,64,63,62],[],[]⟩ .leaf)) .leaf))))) f122 (by kernel_rfl) fun a=>by kernel_rfl
def Zyx(F:Nat):LK:=lN
def c54(F:Nat)(a:List ByteArray×ByteArray):Option (Bool):=
 (Qx (O:=Int) (β:=Bool ⊕ Unit) (fun v13=>bif decide (v13<(↑(a.1.length):Int))then(gd (decide (0<=v13)) (gd (decide (v13<(↑(a.1.length):Int))) (gd (decide (v13.toNat<a.1.length)) (bif Qc (a.1.getD (v13.toNat) ZA) a.2 then(some (j (C true)))else(some (C (w64 (v13+1))))))))else(some (j (j ())))) F ((0:Int))).bind fun v10=>J (fun v11=>some (v11)) (fun v12=>some (false)) (v10)
def Ygw(F:Nat):PC:={ats:=Qp2,rts:=Xp,code:=c54 F}
theorem Qma(F:Nat):Qg cx 54 (Ygw F):=qE (Zyx F) (.two .leaf (.two (.two .leaf (.one (.loop ⟨[.slot 5 (.val (.int .i64))],[]⟩ [(.ret,⟨[.slot 4 (.val (.bool))],[]⟩),(.exit 0,⟨[],[]⟩)] ⟨(kU 12 6 (4::5::kD 11 6 [])),[],[]⟩ F .leaf))) .leaf)) f54 (by kernel_rfl) fun a=>by kernel_rfl
def Zty(F:Nat):LK:=lN
def Qgu(F:Nat)(a:(Qm)×ByteArray×ByteArray):Option (Int):=
 (Qx (O:=Int) (β:=Int ⊕ Unit) (fun v15=>bif decide (v15<(↑(a.1.2.2.2.2.length):Int))then((gd (decide (0<=v15)) (gd (decide (v15<(↑(a.1.2.2.2.2.length):Int))) (gd (decide (v15.toNat<a.1.2.2.2.2.length)) (bif Qc (a.1.2.2.2.2.getD (v15.toNat) YK).1 a.2.1 then(gd (decide (0<=v15)) (gd (decide (v15<(↑(a.1.2.2.2.2.length):Int))) (gd (decide (v15.toNat<a.1.2.2.2.2.length)) (some (Qc (a.1.2.2.2.2.getD (v15.toNat) YK).2.1 a.2.2)))))else(some (false)))))).bind fun v16=>bif v16 then(some (j (C v15)))else(some (C (w64 (v15+1)))))else(some (j (j ())))) F ((0:Int))).bind fun v12=>J (fun v13=>some (v13)) (fun v14=>some ((-1:Int))) (v12)
def Zsr(F:Nat):PC:={ats:=Qms,rts:=Zo,code:=Qgu F}
theorem Qch(F:Nat):Qg cx 145 (Zsr F):=qE (Zty F) (.two .leaf (.two (.two .leaf (.one (.loop ⟨[.slot 7 (.val (.int .i64))],[]⟩ [(.ret,⟨[.slot 6 (.val (.int .i64))],[]⟩),(.exit 0,⟨[],[]⟩)] ⟨(kU 15 18 (6::33::7::kD 14 7 [])),[],[]⟩ F (.two .leaf (.two (.one (.two (.join [(.normal,⟨[.slot 32 (.val (.bool))],[]⟩)] ⟨(kD 32 18 []),[],[]⟩ .leaf) .leaf)) .leaf))))) .leaf)) f145 (by kernel_rfl) fun a=>by kernel_rfl
def Zv4(F:Nat):LK:=lC (Qfc F) (lC (Wx F) (lC (Qch F) (lC (Qma F) lN)))
def Qnw(F:Nat)(a:(Qm)×(Zr)×Int):Option (Int):=
 gd (decide (0<=a.2.2)) (gd (decide (a.2.2<(↑(a.1.2.2.2.2.length):Int))) (gd (decide (a.2.2.toNat<a.1.2.2.2.2.length)) ((c47 F (a.2.1,(a.1.2.2.2.2.getD (a.2.2.toNat) YK).2.1)).bind fun v23=>((c54 F (a.1.1,(a.1.2.2.2.2.getD (a.2.2.toNat) YK).1)).bind fun v32=>bif !v32 then(some (true))else(some (decide (v23<0)))).bind fun v24=>bif v24 then(some ((10:Int)))else(gd (decide (0<=v23)) (gd (decide (v23<(↑(a.2.1.2.2.2.2.length):Int))) (gd (decide (v23.toNat<a.2.1.2.2.2.2.length)) (bif decide ((a.2.1.2.2.2.2.getD (v23.toNat) Zf).2.2.2.2.2.2.2.2.2.2=0)then(some ((13:Int)))else((Qgu F (a.1,(a.1.2.2.2.2.getD (a.2.2.toNat) YK).1,(a.1.2.2.2.2.getD (a.2.2.toNat) YK).2.1)).bind fun v25=>bif decide (v25<a.2.2)then(some ((9:Int)))else(gd (decide (0<=v23)) (gd (decide (v23<(↑(a.2.1.2.2.2.2.length):Int))) (gd (decide (v23.toNat<a.2.1.2.2.2.2.length)) (bif !decide ((↑(ZD (a.1.2.2.2.2.getD (a.2.2.toNat) YK).2.2):Int)=(a.2.1.2.2.2.2.getD (v23.toNat) Zf).2.2.2.2.2.2.2.2.2.2)then(some ((2:Int)))else((Qx (O:=Int) (β:=Int ⊕ Unit) (fun v29=>bif decide (v29<(↑(ZD (a.1.2.2.2.2.getD (a.2.2.toNat) YK).2.2):Int))then(gd (decide (0<=v29)) (gd (decide (v29<(↑(ZD (a.1.2.2.2.2.getD (a.2.2.toNat) YK).2.2):Int))) (gd (decide (v29.toNat<ZD (a.1.2.2.2.2.getD (a.2.2.toNat) YK).2.2)) ((c40 F (a.1,ZE (a.1.2.2.2.2.getD (a.2.2.toNat) YK).2.2 (v29.toNat) ZA)).bind fun v30=>bif decide (v30<0)then(some (j (C (10:Int))))else(gd (decide (0<=v29)) (gd (decide (v29<=(↑(ZD (a.1.2.2.2.2.getD (a.2.2.toNat) YK).2.2):Int))) (gd (decide (0<=v29)) (gd (decide (v29<(↑(ZD (a.1.2.2.2.2.getD (a.2.2.toNat) YK).2.2):Int))) (gd (decide (v29.toNat<ZD (a.1.2.2.2.2.getD (a.2.2.toNat) YK).2.2)) ((c54 F (ZF (0:Nat) (ZG (v29.toNat) (a.1.2.2.2.2.getD (a.2.2.toNat) YK).2.2),ZE (a.1.2.2.2.2.getD (a.2.2.toNat) YK).2.2 (v29.toNat) ZA)).bind fun v31=>bif v31 then(some (j (C (9:Int))))else(some (C (w64 (v29+1))))))))))))))else(some (j (j ())))) F ((0:Int))).bind fun v26=>J (fun v27=>some (v27)) (fun v28=>some ((0:Int))) (v26))))))))))))))
def Zwg(F:Nat):PC:={ats:=[.agg Zn,.agg Xo,.val (.int .i64)],rts:=Zo,code:=Qnw F}
theorem Yky(F:Nat):Qg cx 123 (Zwg F):=qE (Zv4 F) (Q8 3 (.two (.two (.join [(.normal,⟨[.slot 28 (.val (.bool))],[]⟩)] ⟨(kD 28 10 []),[],[]⟩ .leaf) .leaf) (Q8 3 (.two (.two .leaf (.one (.loop ⟨[.slot 9 (.val (.int .i64))],[]⟩ [(.ret,⟨[.slot 6 (.val (.int .i64))],[]⟩),(.exit 0,⟨[],[]⟩)] ⟨(kU 61 8 (6::kD 78 10 (9::kD 60 7 []))),[],[]⟩ F .leaf))) .leaf)))) f123 (by kernel_rfl) fun a=>by kernel_rfl
def Yly(F:Nat):LK:=lC (Qkv F) (lC (Qma F) (lC (Zfy F) (lC (Qix F) (lC (Wx F) lN))))
def Qrc(F:Nat)(a:(Qm)×Int):Option (Int):=
 gd (decide (0<=a.2)) (gd (decide (a.2<(↑(a.1.2.1.length):Int))) (gd (decide (a.2.toNat<a.1.2.1.length)) ((c67 F (a.1.2.1.getD (a.2.toNat) Yf).1).bind fun v13=>bif !v13 then(some ((8:Int)))else((c40 F (a.1,(a.1.2.1.getD (a.2.toNat) Yf).1)).bind fun v14=>bif decide (v14<a.2)then(some ((9:Int)))else((c54 F (a.1.1,(a.1.2.1.getD (a.2.toNat) Yf).2.1)).bind fun v15=>bif !v15 then(some ((10:Int)))else((c94 F ((a.1.2.1.getD (a.2.toNat) Yf).2.2.1,(99999:Int))).bind fun v16=>bif v16 then(some ((3:Int)))else((Qdq F (a.1.2.1.getD (a.2.toNat) Yf).2.2.2).bind fun v17=>some (v17))))))))
def Yoj(F:Nat):PC:={ats:=Ynn,rts:=Zo,code:=Qrc F}
theorem Ymx(F:Nat):Qg cx 189 (Yoj F):=qE (Yly F) .leaf f189 (by kernel_rfl) fun a=>by kernel_rfl
def Yl8(F:Nat):LK:=lC (Qix F) (lC (Wx F) (lC (Ymx F) (lC (Qma F) (lC (Qkv F) lN))))
def Qrg(F:Nat)(a:Qm):Option (Int):=
 (Qx (O:=Int) (β:=Int ⊕ Unit) (fun v70=>bif decide (v70<(↑(a.1.length):Int))then(gd (decide (0<=v70)) (gd (decide (v70<(↑(a.1.length):Int))) (gd (decide (v70.toNat<a.1.length)) ((c67 F (a.1.getD (v70.toNat) ZA)).bind fun v71=>bif !v71 then(some (j (C (8:Int))))else(gd (decide (0<=v70)) (gd (decide (v70<=(↑(a.1.length):Int))) (gd (decide (0<=v70)) (gd (decide (v70<(↑(a.1.length):Int))) (gd (decide (v70.toNat<a.1.length)) ((c54 F (ZF (0:Nat) (ZG (v70.toNat) a.1),a.1.getD (v70.toNat) ZA)).bind fun v72=>bif v72 then(some (j (C (9:Int))))else(some (C (w64 (v70+1))))))))))))))else(some (j (j ())))) F ((0:Int))).bind fun v53=>J (fun v54=>some (v54)) (fun v55=>(Qx (O:=Int×Int) (β:=Int) (fun v67=>(bif decide (v67.2<(↑(a.2.1.length):Int))then(some (decide (v67.1=0)))else(some (false))).bind fun v68=>bif v68 then((Qrc F (a,v67.2)).bind fun v69=>some (C (v69,w64 (v67.2+1))))else(some (j v67.1))) F (((0:Int),(0:Int)))).bind fun v56=>(Qx (O:=Int×Int) (β:=Int) (fun v58=>(bif decide (v58.2<(↑(a.2.2.1.length):Int))then(some (decide (v58.1=0)))else(some (false))).bind fun v59=>bif v59 then(gd (decide (0<=v58.2)) (gd (decide (v58.2<(↑(a.2.2.1.length):Int))) (gd (decide (v58.2.toNat<a.2.2.1.length)) ((c40 F (a,(a.2.2.1.getD (v58.2.toNat) YP).1)).bind fun v60=>(bif decide (v60<0)then(some ((10:Int)))else(((c94 F ((a.2.2.1.getD (v58.2.toNat) YP).2.1,(99999:Int))).bind fun v65=>bif v65 then(some (true))else((c94 F ((a.2.2.1.getD (v58.2.toNat) YP).2.2,(99999:Int))).bind fun v66=>some (v66))).bind fun v62=>(bif v62 then(some ((3:Int)))else((bif decide ((a.2.2.1.getD (v58.2.toNat) YP).2.2<(a.2.2.1.getD (v58.2.toNat) YP).2.1)then(some ((11:Int)))else(some v58.1)).bind fun v64=>some (v64))).bind fun v63=>some (v63))).bind fun v61=>some (C (v61,w64 (v58.2+1)))))))else(some (j v58.1))) F ((v56,(0:Int)))).bind fun v57=>some (v57)) (v53)
def Zvy(F:Nat):PC:={ats:=V6,rts:=Zo,code:=Qrg F}
theorem Yqm(F:Nat):Qg cx 121 (Zvy F):=qE (Yl8 F) (.two .leaf (.two (.two .leaf (.one (.loop ⟨[.slot 3 (.val (.int .i64))],[]⟩ [(.ret,⟨[.slot 2 (.val (.int .i64))],[]⟩),(.exit 0,⟨[],[]⟩)] ⟨(kU 15 7 (2::kD 31 10 (3::kD 14 7 []))),[],[]⟩ F .leaf))) (.two .leaf (.two (.two .leaf (.one (.loop ⟨[.slot 4 (.val (.int .i64)),.slot 5 (.val (.int .i64))],[]⟩ [(.exit 2,⟨[.slot 4 (.val (.int .i64))],[]⟩)] ⟨(43::44::45::4::5::kD 42 11 []),[],[]⟩ F (.two (.two (.join [(.normal,⟨[.slot 40 (.val (.bool))],[]⟩)] ⟨(kD 40 9 []),[],[]⟩ .leaf) .leaf) .leaf)))) (.two (.two .leaf (.one (.loop ⟨[.slot 4 (.val (.int .i64)),.slot 6 (.val (.int .i64))],[]⟩ [(.exit 4,⟨[.slot 4 (.val (.int .i64))],[]⟩)] ⟨(57::58::59::60::61::7::4::kD 79 18 (6::kD 56 11 [])),[],[]⟩ F (.two (.two (.join [(.normal,⟨[.slot 54 (.val (.bool))],[]⟩)] ⟨(kD 54 9 []),[],[]⟩ .leaf) .leaf) (.two (.one (Q8 2 (.join [(.normal,⟨[.slot 4 (.val (.int .i64))],[]⟩)] ⟨(kU 67 13 (4::[])),[],[]⟩ (.two .leaf (.two (.join [(.normal,⟨[.slot 74 (.val (.bool))],[]⟩)] ⟨(kD 74 8 []),[],[]⟩ .leaf) (.join [(.normal,⟨[.slot 4 (.val (.int .i64))],[]⟩)] ⟨[75,76,77,78,79,4],[],[]⟩ (Q8 2 (.join [(.normal,⟨[.slot 4 (.val (.int .i64))],[]⟩)] ⟨[4],[],[]⟩ .leaf)))))))) .leaf))))) .leaf))))) f121 (by kernel_rfl) fun a=>by kernel_rfl
def Ysq(F:Nat):LK:=lC (Yqm F) (lC (Yky F) (lC (Zpj F) (lC (Zha F) lN)))
def c26(F:Nat)(a:(Zr)×Qm):Option (Int):=
 (c22 F a.1).bind fun v25=>bif !decide (v25=0)then(some (v25))else((bif decide (256<(↑(a.2.1.length):Int))then(some (true))else(bif decide (256<(↑(a.2.2.1.length):Int))then(some (true))else(bif decide (256<(↑(a.2.2.2.1.length):Int))then(some (true))else(bif decide (256<(↑(a.2.2.2.2.1.length):Int))then(some (true))else(some (decide (256<(↑(a.2.2.2.2.2.length):Int)))))))).bind fun v26=>bif v26 then(some ((5:Int)))else((Qrg F a.2).bind fun v27=>(Qx (O:=Int×Int) (β:=Int) (fun v33=>(bif decide (v33.2<(↑(a.2.2.2.2.1.length):Int))then(some (decide (v33.1=0)))else(some (false))).bind fun v34=>bif v34 then((Qo2 F (a.2,a.1,v33.2)).bind fun v35=>some (C (v35,w64 (v33.2+1))))else(some (j v33.1))) F ((v27,(0:Int)))).bind fun v28=>(Qx (O:=Int×Int) (β:=Int) (fun v30=>(bif decide (v30.2<(↑(a.2.2.2.2.2.length):Int))then(some (decide (v30.1=0)))else(some (false))).bind fun v31=>bif v31 then((Qnw F (a.2,a.1,v30.2)).bind fun v32=>some (C (v32,w64 (v30.2+1))))else(some (j v30.1))) F ((v28,(0:Int)))).bind fun v29=>some (v29)))
def Yhc(F:Nat):PC:={ats:=Qqq,rts:=Zo,code:=c26 F}
theorem Yrf(F:Nat):Qg cx 26 (Yhc F):=qE (Ysq F) (Q8 3 (.two (.two (.join [(.normal,⟨[.slot 40 (.val (.bool))],[]⟩)] ⟨(kD 40 28 []),[],[]⟩ .leaf) .leaf) (.two .leaf (.two (.two .leaf (.one (.loop ⟨[.slot 5 (.val (.int .i64)),.slot 6 (.val (.int .i64))],[]⟩ [(.exit 0,⟨[.slot 5 (.val (.int .i64))],[]⟩)] ⟨(54::55::56::57::5::6::kD 53 11 []),[],[]⟩ F (.two (.two (.join [(.normal,⟨[.slot 51 (.val (.bool))],[]⟩)] ⟨(kD 51 9 []),[],[]⟩ .leaf) .leaf) .leaf)))) (.two (.two .leaf (.one (.loop ⟨[.slot 5 (.val (.int .i64)),.slot 7 (.val (.int .i64))],[]⟩ [(.exit 2,⟨[.slot 5 (.val (.int .i64))],[]⟩)] ⟨(69::70::71::72::5::7::kD 68 11 []),[],[]⟩ F (.two (.two (.join [(.normal,⟨[.slot 66 (.val (.bool))],[]⟩)] ⟨(kD 66 9 []),[],[]⟩ .leaf) .leaf) .leaf)))) .leaf))))) f26 (by kernel_rfl) fun a=>by kernel_rfl
def Zyj(F:Nat):LK:=lC (Yb F) lN
def c87(F:Nat)(a:Int×Int):Option (Int):=
 (bif decide (a.1<0)then(some ((3:Int)))else((Qn F (decide (a.2<a.1),(3:Int))).bind fun v9=>some (v9))).bind fun v8=>some (v8)
def Ybb(F:Nat):PC:={ats:=Qo0,rts:=Zo,code:=c87 F}
theorem Zg9(F:Nat):Qg cx 87 (Ybb F):=qE (Zyj F) (.two .leaf (.two (.join [(.normal,⟨[.slot 4 (.val (.int .i64))],[]⟩)] ⟨(4::kD 12 8 []),[],[]⟩ .leaf) .leaf)) f87 (by kernel_rfl) fun a=>by kernel_rfl
def Ycm(F:Nat):LK:=lN
def Vb(F:Nat)(a:List Int):Option (Int):=
 (Qx (O:=Int) (β:=Int ⊕ Unit) (fun v13=>bif decide (v13<(↑(a.length):Int))then(gd (decide (0<=v13)) (gd (decide (v13<(↑(a.length):Int))) (gd (decide (v13.toNat<a.length)) (bif !decide (a.getD (v13.toNat) (0:Int)=(0:Int))then(some (j (C (a.getD (v13.toNat) (0:Int)))))else(some (C (w64 (v13+1))))))))else(some (j (j ())))) F ((0:Int))).bind fun v10=>J (fun v11=>some (v11)) (fun v12=>some ((0:Int))) (v10)
def Zyu(F:Nat):PC:={ats:=[.val (.seq kt6)],rts:=Zo,code:=Vb F}
theorem Zc6(F:Nat):Qg cx 175 (Zyu F):=qE (Ycm F) (.two .leaf (.two (.two .leaf (.one (.loop ⟨[.slot 7 (.val (.int .i64))],[]⟩ [(.ret,⟨[.slot 2 (.val (.int .i64))],[]⟩),(.exit 0,⟨[],[]⟩)] ⟨[14,7,11,12,2,13,4,10,9,8],[],[]⟩ F .leaf))) .leaf)) f175 (by kernel_rfl) fun a=>by kernel_rfl
def Yei(F:Nat):LK:=lN
def Jl(F:Nat)(a:Bool×Int):Option (Int):=
 bif a.1 then(some a.2)else(some ((0:Int)))
def Ymv(F:Nat):PC:={ats:=Zes,rts:=Zo,code:=Jl F}
theorem Zig(F:Nat):Qg cx 176 (Ymv F):=qE (Yei F) .leaf f176 (by kernel_rfl) fun a=>by kernel_rfl
def Yku(F:Nat):LK:=lN
def Qr3(F:Nat)(a:List ByteArray×ByteArray):Option (Int):=
 (Qx (O:=Int) (β:=Int ⊕ Unit) (fun v13=>bif decide (v13<(↑(a.1.length):Int))then(gd (decide (0<=v13)) (gd (decide (v13<(↑(a.1.length):Int))) (gd (decide (v13.toNat<a.1.length)) (bif Qc a.2 (a.1.getD (v13.toNat) ZA)then(some (j (C v13)))else(some (C (w64 (v13+1))))))))else(some (j (j ())))) F ((0:Int))).bind fun v10=>J (fun v11=>some (v11)) (fun v12=>some ((-1:Int))) (v10)
def Ypm(F:Nat):PC:={ats:=Qp2,rts:=Zo,code:=Qr3 F}
theorem Yrs(F:Nat):Qg cx 183 (Ypm F):=qE (Yku F) (.two .leaf (.two (.two .leaf (.one (.loop ⟨[.slot 8 (.val (.int .i64))],[]⟩ [(.ret,⟨[.slot 4 (.val (.int .i64))],[]⟩),(.exit 0,⟨[],[]⟩)] ⟨[18,8,11,12,13,14,15,16,4,17,5,10,9],[],[]⟩ F .leaf))) .leaf)) f183 (by kernel_rfl) fun a=>by kernel_rfl
def Yfa(F:Nat):LK:=lC (Yrs F) lN
def V8(F:Nat)(a:List ByteArray×ByteArray):Option (Bool):=
 (Qr3 F a).bind fun v5=>some (decide (0<=v5))
def Yip(F:Nat):PC:={ats:=Qp2,rts:=Xp,code:=V8 F}
theorem Wq(F:Nat):Qg cx 107 (Yip F):=qE (Yfa F) .leaf f107 (by kernel_rfl) fun a=>by kernel_rfl
def Zq4(F:Nat):LK:=lC (Wq F) lN
def Qq0(F:Nat)(a:ByteArray):Option (Bool):=
 (V8 F (YS::YT::YU::YR::Qa ByteArray,a)).bind fun v5=>some (v5)
def Zok(F:Nat):PC:={ats:=Ug,rts:=Xp,code:=Qq0 F}
theorem Zw6(F:Nat):Qg cx 177 (Zok F):=qE (Zq4 F) .leaf f177 (by kernel_rfl) fun a=>by kernel_rfl
def Ybn(F:Nat):LK:=lN
def Um(F:Nat)(a:Int×Int×Int):Option (Bool):=
 (bif decide (a.1<a.2.1)then(some (true))else(some (decide (a.2.2<a.1)))).bind fun v5=>some (v5)
def Zq0(F:Nat):PC:={ats:=Za9,rts:=Xp,code:=Um F}
theorem Zr9(F:Nat):Qg cx 179 (Zq0 F):=qE (Ybn F) (.two .leaf (.two (.join [(.normal,⟨[.slot 6 (.val (.bool))],[]⟩)] ⟨(6::kD 14 8 []),[],[]⟩ .leaf) .leaf)) f179 (by kernel_rfl) fun a=>by kernel_rfl
def Ynj(F:Nat):LK:=lC (Zr9 F) (lC (Zw6 F) (lC (Zig F) (lC (Zc6 F) lN)))
def c99(F:Nat)(a:ByteArray×Int×ByteArray):Option (Int):=
 bif Qc a.1 YN then((Qq0 F a.2.2).bind fun v66=>(Jl F (!v66,(1:Int))).bind fun v67=>(Jl F (!decide (a.2.1=0),(3:Int))).bind fun v68=>(Vb F (v67::v68::Qa Int)).bind fun v69=>some (v69))else((bif Qc a.1 YL then((Jl F (!Qc a.2.2 YC,(1:Int))).bind fun v88=>(Um F (a.2.1,(1:Int),(863999999:Int))).bind fun v89=>(Jl F (v89,(3:Int))).bind fun v90=>(Vb F ((0:Int)::v88::v90::Qa Int)).bind fun v91=>some (v91))else(bif Qc a.1 YM then((Jl F (!Qc a.2.2 YC,(1:Int))).bind fun v92=>(Um F (a.2.1,(0:Int),(999999:Int))).bind fun v93=>(Jl F (v93,(3:Int))).bind fun v94=>(Vb F ((0:Int)::v92::v94::Qa Int)).bind fun v95=>some (v95))else(bif Qc a.1 YO then((Jl F (!Qc a.2.2 YC,(1:Int))).bind fun v96=>(Um F (a.2.1,(0:Int),(99999:Int))).bind fun v97=>(Jl F (v97,(3:Int))).bind fun v98=>(Vb F ((0:Int)::v96::v98::Qa Int)).bind fun v99=>some (v99))else((Jl F (!Qc a.2.2 YC,(1:Int))).bind fun v100=>(Um F (a.2.1,(0:Int),(0:Int))).bind fun v101=>(Jl F (v101,(3:Int))).bind fun v102=>(Vb F ((13:Int)::v100::v102::Qa Int)).bind fun v103=>some (v103))))).bind fun v70=>(bif Qc a.1 YL then((Jl F (!Qc a.2.2 YC,(1:Int))).bind fun v72=>(Um F (a.2.1,(1:Int),(863999999:Int))).bind fun v73=>(Jl F (v73,(3:Int))).bind fun v74=>(Vb F ((0:Int)::v72::v74::Qa Int)).bind fun v75=>some (v75))else(bif Qc a.1 YM then((Jl F (!Qc a.2.2 YC,(1:Int))).bind fun v76=>(Um F (a.2.1,(0:Int),(999999:Int))).bind fun v77=>(Jl F (v77,(3:Int))).bind fun v78=>(Vb F ((0:Int)::v76::v78::Qa Int)).bind fun v79=>some (v79))else(bif Qc a.1 YO then((Jl F (!Qc a.2.2 YC,(1:Int))).bind fun v80=>(Um F (a.2.1,(0:Int),(99999:Int))).bind fun v81=>(Jl F (v81,(3:Int))).bind fun v82=>(Vb F ((0:Int)::v80::v82::Qa Int)).bind fun v83=>some (v83))else((Jl F (!Qc a.2.2 YC,(1:Int))).bind fun v84=>(Um F (a.2.1,(0:Int),(0:Int))).bind fun v85=>(Jl F (v85,(3:Int))).bind fun v86=>(Vb F ((13:Int)::v84::v86::Qa Int)).bind fun v87=>some (v87))))).bind fun v71=>gd (Qt.eqv (Qe.val (Ty.int I)::Qa Qe) v70 v71) (some (v70)))
def Qsh(F:Nat):PC:={ats:=[.agg kt7],rts:=Zo,code:=c99 F}
theorem Vs(F:Nat):Qg cx 99 (Qsh F):=qE (Ynj F) (Q8 2 (.two (.within [(178,.leaf)]) .leaf)) f99 (by kernel_rfl) fun a=>by kernel_rfl
def Ztu(F:Nat):LK:=lN
def Jm(F:Nat)(a:(Yk)×ByteArray×Int×ByteArray):Option (Bool):=
 (bif Qc a.2.1 a.1.2.1 then(some (true))else(some (Qc a.2.1 YN))).bind fun v5=>some (v5)
def Yn4(F:Nat):PC:={ats:=[.agg kt4,.agg kt7],rts:=Xp,code:=Jm F}
theorem Qq5(F:Nat):Qg cx 155 (Yn4 F):=qE (Ztu F) (.two .leaf (.two (.join [(.normal,⟨[.slot 4 (.val (.bool))],[]⟩)] ⟨(4::kD 14 10 []),[],[]⟩ .leaf) .leaf)) f155 (by kernel_rfl) fun a=>by kernel_rfl
def Yqj(F:Nat):LK:=lC (Wq F) (lC (Yb F) (lC (V2 F) (lC (Zg9 F) (lC (Yj F) (lC (Qq5 F) (lC (Vs F) lN))))))
def c93(F:Nat)(a:Yk):Option (Int):=
 ((V8 F (YL::YM::YO::Qa ByteArray,a.2.1)).bind fun v63=>(Qn F (!v63,(13:Int))).bind fun v64=>bif !Qc a.2.2.1 YC then((c98 F a.2.2.1).bind fun v65=>(Qn F (!v65,(8:Int))).bind fun v66=>(c87 F (a.2.2.2.1,(120:Int))).bind fun v67=>(c87 F (a.2.2.2.2.1,(120:Int))).bind fun v68=>(Qn F (decide (a.2.2.2.2.1<a.2.2.2.1),(11:Int))).bind fun v69=>(Qy F (v64::v66::v67::v68::v69::Qa Int)).bind fun v70=>some (v70))else((c87 F (a.2.2.2.1,(120:Int))).bind fun v71=>(c87 F (a.2.2.2.2.1,(120:Int))).bind fun v72=>(Qn F (decide (a.2.2.2.2.1<a.2.2.2.1),(11:Int))).bind fun v73=>(Qy F (v64::(0:Int)::v71::v72::v73::Qa Int)).bind fun v74=>some (v74))).bind fun v55=>bif !decide (v55=0)then(some (v55))else((c87 F (a.2.2.2.2.2.1,(160:Int))).bind fun v56=>(c87 F (a.2.2.2.2.2.2.1,(160:Int))).bind fun v57=>(c87 F (a.2.2.2.2.2.2.2.2.2.2,(8:Int))).bind fun v58=>(c99 F (a.2.2.2.2.2.2.2.1,a.2.2.2.2.2.2.2.2.1,a.2.2.2.2.2.2.2.2.2.1)).bind fun v59=>(Jm F (a,a.2.2.2.2.2.2.2.1,a.2.2.2.2.2.2.2.2.1,a.2.2.2.2.2.2.2.2.2.1)).bind fun v60=>(Qn F (!v60,(13:Int))).bind fun v61=>(Qy F (v56::v57::v58::v59::v61::Qa Int)).bind fun v62=>some (v62))
def Zxo(F:Nat):PC:={ats:=[.agg kt4],rts:=Zo,code:=c93 F}
theorem Qyc(F:Nat):Qg cx 93 (Zxo F):=qE (Yqj F) (Q8 2 (.two (.two (.join [(.normal,⟨[.slot 4 (.val (.int .i64))],[]⟩)] ⟨(4::kD 35 30 []),[],[]⟩ .leaf) .leaf) .leaf)) f93 (by kernel_rfl) fun a=>by kernel_rfl
def Zsh:Qk:=⟨[.slot 0 (.agg kt4),.one 0 110 kt4],[(1,.stat (.ptr 0 11 0 0))]⟩
def Zqi:Qk:=⟨[.slot 0 (.val (.bool))],[]⟩
def Zmx(F:Nat):LK:=lN
def Zvn(F:Nat):PX:=qX (Zmx F) .leaf f91 (pxB 2 [.arg 1] Zsh 1 Zqi [] [])
theorem Qk3(F:Nat):Zm cx 91 (Zvn F):=Vz (by kernel_rfl)
def Zwe:Qk:=⟨[.slot 0 (.val (.seq kt4)),.one 0 110 kt4],[(1,.stat (.fn (.func 91) [] [.ptr 0 11 0 0]))]⟩
def Zpi:Qk:=⟨[.slot 0 (.val (.int .i64))],[]⟩
def Ya7(F:Nat):LK:=lX (Qk3 F) lN
def Qsi(F:Nat)(a:List (Yk)×Yk):Option (Int):=
 (Qx (O:=Int) (β:=Int ⊕ Unit) (fun v13=>bif decide (v13<(↑(a.1.length):Int))then(gd (decide (0<=v13)) (gd (decide (v13<(↑(a.1.length):Int))) (gd (decide (v13.toNat<a.1.length)) (bif Qc (a.1.getD (v13.toNat) Zf).1 a.2.1 then(some (j (C v13)))else(some (C (w64 (v13+1))))))))else(some (j (j ())))) F ((0:Int))).bind fun v10=>J (fun v11=>some (v11)) (fun v12=>some ((-1:Int))) (v10)
def Znb(F:Nat):PX:={np:=2,locs:=[.cap (.arg 1) 0],τ:=Zwe,nr:=1,ω:=Zpi,ids:=[],mv:=[],code:=Qsi F}
theorem Qm0(F:Nat):Zm cx 154 (Znb F):=Yl (Ya7 F) (.two .leaf (.two (.two .leaf (.one (.loop ⟨[.slot 8 (.val (.int .i64))],[]⟩ [(.ret,⟨[.slot 4 (.val (.int .i64))],[]⟩),(.exit 0,⟨[],[]⟩)] ⟨[18,8,11,12,13,14,15,16,4,17,5,10,9],[],[]⟩ F .leaf))) .leaf)) f154 (by kernel_rfl) fun a=>by kernel_rfl
def Ypp:Qk:=⟨[.slot 0 (.val (.seq kt4)),.one 0 110 kt4],[(1,.stat (.fn (.func 91) [] [.ptr 0 11 0 0]))]⟩
def Zva:Qk:=⟨[.slot 0 (.val (.bool))],[]⟩
def Yjx(F:Nat):LK:=lX (Qk3 F) (lX (Qm0 F) lN)
def Qs0(F:Nat)(a:List (Yk)×Yk):Option (Bool):=
 (Qsi F a).bind fun v5=>some (decide (0<=v5))
def Yob(F:Nat):PX:={np:=2,locs:=[.cap (.arg 1) 0],τ:=Ypp,nr:=1,ω:=Zva,ids:=[],mv:=[],code:=Qs0 F}
theorem Qv1(F:Nat):Zm cx 90 (Yob F):=Yl (Yjx F) .leaf f90 (by kernel_rfl) fun a=>by kernel_rfl
def Yb9:Qk:=⟨[.slot 0 (.val (.int .i64)),.slot 1 (.agg kt4),.one 0 24 Xo],[(2,.stat (.ptr 0 5 0 0))]⟩
def Yjn:Qk:=⟨[.slot 0 (.val (.int .i64))],[]⟩
def Ypd(F:Nat):LK:=lC (V0 F) (lC (Yb F) (lC (Qyc F) (lC (Yj F) (lX (Qk3 F) (lX (Qm0 F) (lX (Qv1 F) lN))))))
def Qrx(F:Nat)(a:Int×(Yk)×Zr):Option (Int):=
 gd (decide (0<=a.1)) (gd (decide (a.1<=(↑(a.2.2.2.2.2.2.length):Int))) ((Qs0 F (ZF (0:Nat) (ZG (a.1.toNat) a.2.2.2.2.2.2),a.2.1.1,a.2.1.2.1,a.2.1.2.2.1,a.2.1.2.2.2.1,a.2.1.2.2.2.2.1,a.2.1.2.2.2.2.2.1,a.2.1.2.2.2.2.2.2.1,a.2.1.2.2.2.2.2.2.2.1,a.2.1.2.2.2.2.2.2.2.2.1,a.2.1.2.2.2.2.2.2.2.2.2.1,a.2.1.2.2.2.2.2.2.2.2.2.2)).bind fun v13=>(c92 F a.2.1.1).bind fun v14=>(Qn F (v13,(9:Int))).bind fun v15=>(c93 F a.2.1).bind fun v16=>(Qy F (v14::v15::v16::Qa Int)).bind fun v17=>some (v17)))
def Ymc(F:Nat):PX:={np:=3,locs:=[.arg 2],τ:=Yb9,nr:=1,ω:=Yjn,ids:=[],mv:=[],code:=Qrx F}
theorem Zgc(F:Nat):Zm cx 89 (Ymc F):=Yl (Ypd F) .leaf f89 (by kernel_rfl) fun a=>by kernel_rfl
def Ztv:Qk:=⟨[.slot 0 (.val (.seq kt4)),.one 0 24 Xo],[(1,.stat (.fn (.func 89) [] [.ptr 0 5 0 0]))]⟩
def Yci:Qk:=⟨[.slot 0 (.val (.int .i64))],[]⟩
def Zwn(F:Nat):LK:=lC (V0 F) (lC (Yb F) (lC (Qyc F) (lC (Yj F) (lX (Qk3 F) (lX (Qm0 F) (lX (Qv1 F) (lX (Zgc F) lN)))))))
def Qq1(F:Nat)(a:List (Yk)×Zr):Option (Int):=
 (Qx (O:=Int) (β:=Int ⊕ Unit) (fun v15=>bif decide (v15<(↑(a.1.length):Int))then(gd (decide (0<=v15)) (gd (decide (v15<(↑(a.1.length):Int))) (gd (decide (v15.toNat<a.1.length)) ((Qrx F (v15,(a.1.getD (v15.toNat) Zf),a.2.1,a.2.2.1,a.2.2.2.1,a.2.2.2.2.1,a.2.2.2.2.2)).bind fun v16=>bif !decide (v16=0)then(some (j (C v16)))else(some (C (w64 (v15+1))))))))else(some (j (j ())))) F ((0:Int))).bind fun v12=>J (fun v13=>some (v13)) (fun v14=>some ((0:Int))) (v12)
def Zv8(F:Nat):PX:={np:=2,locs:=[.cap (.arg 1) 0],τ:=Ztv,nr:=1,ω:=Yci,ids:=[],mv:=[],code:=Qq1 F}
theorem Ypx(F:Nat):Zm cx 88 (Zv8 F):=Yl (Zwn F) (.two .leaf (.two (.two .leaf (.one (.loop ⟨[.slot 10 (.val (.int .i64))],[]⟩ [(.ret,⟨[.slot 4 (.val (.int .i64))],[]⟩),(.exit 0,⟨[],[]⟩)] ⟨[22,10,15,16,17,18,7,21,4,20,19,5,6,14,13,12,11],[],[]⟩ F .leaf))) .leaf)) f88 (by kernel_rfl) fun a=>by kernel_rfl
def Ydx(F:Nat):LK:=lC (V0 F) (lC (Qyc F) (lC (Yj F) (lC (Zg9 F) (lC (Yb F) (lC (Wy F) (lX (Qk3 F) (lX (Qm0 F) (lX (Qv1 F) (lX (Zgc F) (lX (Ypx F) lN))))))))))
def c21(F:Nat)(a:Zr):Option (Int):=
 ((Ye F (a.1::a.2.1::a.2.2.1::Qa Int)).bind fun v33=>bif decide (a.2.2.1<a.2.1)then((c87 F (a.2.2.2.1,(32:Int))).bind fun v34=>(Qn F (decide (32<(↑(a.2.2.2.2.length):Int)),(5:Int))).bind fun v35=>(Qy F (v33::(11:Int)::v34::v35::Qa Int)).bind fun v36=>some (v36))else((Qn F (decide (a.1<a.2.2.1),(11:Int))).bind fun v37=>(c87 F (a.2.2.2.1,(32:Int))).bind fun v38=>(Qn F (decide (32<(↑(a.2.2.2.2.length):Int)),(5:Int))).bind fun v39=>(Qy F (v33::v37::v38::v39::Qa Int)).bind fun v40=>some (v40))).bind fun v31=>bif !decide (v31=0)then(some (v31))else((Qq1 F (a.2.2.2.2,a.1,a.2.1,a.2.2.1,a.2.2.2.1,a.2.2.2.2)).bind fun v32=>some (v32))
def Qwo(F:Nat):PC:={ats:=[.agg Xo],rts:=Zo,code:=c21 F}
theorem Qo6(F:Nat):Qg cx 21 (Qwo F):=qE (Ydx F) (.two .leaf (.two (.two (.join [(.normal,⟨[.slot 3 (.val (.int .i64))],[]⟩)] ⟨(3::kD 34 31 []),[],[]⟩ .leaf) .leaf) .leaf)) f21 (by kernel_rfl) fun a=>by kernel_rfl
def Yjj(F:Nat):LK:=lN
def Qxu(F:Nat):PC:=qT (Yjj F) .leaf f105 V6 Xp
theorem Qvx(F:Nat):Qg cx 105 (Qxu F):=Ql3 (by kernel_rfl)
def Ypk:Qk:=⟨[.slot 0 (.agg kt4),.one 0 9 Z3],[(1,.stat (.ptr 0 1 0 0))]⟩
def Yll:Qk:=⟨[.slot 0 (.val (.bool))],[]⟩
def Zt1(F:Nat):LK:=lN
def Ynh(F:Nat):PX:=qX (Zt1 F) .leaf f195 (pxB 2 [.arg 1] Ypk 1 Yll [] [])
theorem Ze6(F:Nat):Zm cx 195 (Ynh F):=Vz (by kernel_rfl)
def Ykw:Qk:=⟨[.slot 0 (.val (.seq kt4)),.one 0 9 Z3],[(1,.stat (.fn (.func 195) [] [.ptr 0 1 0 0]))]⟩
def Zt6:Qk:=⟨[.slot 0 (.val (.int .i64))],[]⟩
def Zmp(F:Nat):LK:=lX (Ze6 F) lN
def Qoj(F:Nat)(a:List (Yk)×ByteArray):Option (Int):=
 (Qx (O:=Int) (β:=Int ⊕ Unit) (fun v13=>bif decide (v13<(↑(a.1.length):Int))then(gd (decide (0<=v13)) (gd (decide (v13<(↑(a.1.length):Int))) (gd (decide (v13.toNat<a.1.length)) (bif Qc (a.1.getD (v13.toNat) Zf).1 a.2 then(some (j (C v13)))else(some (C (w64 (v13+1))))))))else(some (j (j ())))) F ((0:Int))).bind fun v10=>J (fun v11=>some (v11)) (fun v12=>some ((-1:Int))) (v10)
def Ybq(F:Nat):PX:={np:=2,locs:=[.cap (.arg 1) 0],τ:=Ykw,nr:=1,ω:=Zt6,ids:=[],mv:=[],code:=Qoj F}
theorem Ycz(F:Nat):Zm cx 154 (Ybq F):=Yl (Zmp F) (.two .leaf (.two (.two .leaf (.one (.loop ⟨[.slot 8 (.val (.int .i64))],[]⟩ [(.ret,⟨[.slot 4 (.val (.int .i64))],[]⟩),(.exit 0,⟨[],[]⟩)] ⟨[18,8,11,12,13,14,15,16,4,17,5,10,9],[],[]⟩ F .leaf))) .leaf)) f154 (by kernel_rfl) fun a=>by kernel_rfl
def Zqs(F:Nat):LK:=lX (Qm0 F) (lX (Ze6 F) (lX (Ycz F) lN))
def Qa3(F:Nat)(a:(Zr)×ByteArray):Option ((Yk)×Bool):=
 (Qoj F (a.1.2.2.2.2,a.2)).bind fun v5=>bif decide (v5<0)then(some (((YC,YC,YC,(0:Int),(0:Int),(0:Int),(0:Int),YC,(0:Int),YC,(0:Int)),false)))else(gd (decide (0<=v5)) (gd (decide (v5<(↑(a.1.2.2.2.2.length):Int))) (gd (decide (v5.toNat<a.1.2.2.2.2.length)) (some (((a.1.2.2.2.2.getD (v5.toNat) Zf),true))))))
def Zj7(F:Nat):PC:={ats:=[.agg Xo,.val (.str)],rts:=[.agg kt4,.val (.bool)],code:=Qa3 F}
theorem Qct(F:Nat):Qg cx 131 (Zj7 F):=qE (Zqs F) .leaf f131 (by kernel_rfl) fun a=>by kernel_rfl
def Zye:Qk:=⟨[.slot 0 (.agg kt3),.one 0 9 Z3],[(1,.stat (.ptr 0 1 0 0))]⟩
def Zvh:Qk:=⟨[.slot 0 (.val (.bool))],[]⟩
def Ygy(F:Nat):LK:=lN
def Yq5(F:Nat):PX:=qX (Ygy F) .leaf f185 (pxB 2 [.arg 1] Zye 1 Zvh [] [])
theorem Zda(F:Nat):Zm cx 185 (Yq5 F):=Vz (by kernel_rfl)
def Yil:Qk:=⟨[.slot 0 (.val (.seq kt3)),.one 0 9 Z3],[(1,.stat (.fn (.func 185) [] [.ptr 0 1 0 0]))]⟩
def Yiv:Qk:=⟨[.slot 0 (.val (.int .i64))],[]⟩
def Yk8(F:Nat):LK:=lX (Zda F) lN
def Qsr(F:Nat)(a:List (Q3)×ByteArray):Option (Int):=
 (Qx (O:=Int) (β:=Int ⊕ Unit) (fun v13=>bif decide (v13<(↑(a.1.length):Int))then(gd (decide (0<=v13)) (gd (decide (v13<(↑(a.1.length):Int))) (gd (decide (v13.toNat<a.1.length)) (bif Qc (a.1.getD (v13.toNat) Yf).1 a.2 then(some (j (C v13)))else(some (C (w64 (v13+1))))))))else(some (j (j ())))) F ((0:Int))).bind fun v10=>J (fun v11=>some (v11)) (fun v12=>some ((-1:Int))) (v10)
def Yiw(F:Nat):PX:={np:=2,locs:=[.cap (.arg 1) 0],τ:=Yil,nr:=1,ω:=Yiv,ids:=[],mv:=[],code:=Qsr F}
theorem Qxy(F:Nat):Zm cx 184 (Yiw F):=Yl (Yk8 F) (.two .leaf (.two (.two .leaf (.one (.loop ⟨[.slot 8 (.val (.int .i64))],[]⟩ [(.ret,⟨[.slot 4 (.val (.int .i64))],[]⟩),(.exit 0,⟨[],[]⟩)] ⟨[18,8,11,12,13,14,15,16,4,17,5,10,9],[],[]⟩ F .leaf))) .leaf)) f184 (by kernel_rfl) fun a=>by kernel_rfl
def Yh3(F:Nat):LK:=lX (Zda F) (lX (Qxy F) lN)
def Jt(F:Nat)(a:(Qm)×ByteArray):Option (Int):=
 (Qsr F (a.1.2.1,a.2)).bind fun v5=>some (v5)
def Zi4(F:Nat):PC:={ats:=Qeu,rts:=Zo,code:=Jt F}
theorem Xu(F:Nat):Qg cx 110 (Zi4 F):=qE (Yh3 F) .leaf f110 (by kernel_rfl) fun a=>by kernel_rfl
def Ylp:Qk:=⟨[.slot 0 (.agg kt9),.one 0 9 Z3,.one 1 9 Z3],[(1,.stat (.ptr 0 1 0 0)),(2,.stat (.ptr 1 1 0 0))]⟩
def Ydi:Qk:=⟨[.slot 0 (.val (.bool))],[]⟩
def Yga(F:Nat):LK:=lN
def Qoq(F:Nat)(a:(Zd)×ByteArray×ByteArray):Option (Bool):=
 (bif Qc a.1.1 a.2.1 then(some (Qc a.1.2.1 a.2.2))else(some (false))).bind fun v5=>some (v5)
def Ymw(F:Nat):PX:={np:=3,locs:=[.arg 1,.arg 2],τ:=Ylp,nr:=1,ω:=Ydi,ids:=[],mv:=[],code:=Qoq F}
theorem Zci(F:Nat):Zm cx 226 (Ymw F):=Yl (Yga F) (.two .leaf (.two (.join [(.normal,⟨[.slot 4 (.val (.bool))],[]⟩)] ⟨(4::kD 14 10 []),[],[]⟩ .leaf) .leaf)) f226 (by kernel_rfl) fun a=>by kernel_rfl
def Ymy:Qk:=⟨[.slot 0 (.val (.seq kt9)),.one 0 9 Z3,.one 1 9 Z3],[(1,.stat (.fn (.func 226) [] [.ptr 0 1 0 0,.ptr 1 1 0 0]))]⟩
def Yjk:Qk:=⟨[.slot 0 (.val (.int .i64))],[]⟩
def Ykk(F:Nat):LK:=lX (Zci F) lN
def Qss(F:Nat)(a:List (Zd)×ByteArray×ByteArray):Option (Int):=
 (Qx (O:=Int) (β:=Int ⊕ Unit) (fun v15=>bif decide (v15<(↑(a.1.length):Int))then(gd (decide (0<=v15)) (gd (decide (v15<(↑(a.1.length):Int))) (gd (decide (v15.toNat<a.1.length)) ((Qoq F ((a.1.getD (v15.toNat) YK),a.2.1,a.2.2)).bind fun v16=>bif v16 then(some (j (C v15)))else(some (C (w64 (v15+1))))))))else(some (j (j ())))) F ((0:Int))).bind fun v12=>J (fun v13=>some (v13)) (fun v14=>some ((-1:Int))) (v12)
def Ydj(F:Nat):PX:={np:=2,locs:=[.cap (.arg 1) 0,.cap (.arg 1) 1],τ:=Ymy,nr:=1,ω:=Yjk,ids:=[],mv:=[],code:=Qss F}
theorem Qw0(F:Nat):Zm cx 225 (Ydj F):=Yl (Ykk F) (.two .leaf (.two (.two .leaf (.one (.loop ⟨[.slot 8 (.val (.int .i64))],[]⟩ [(.ret,⟨[.slot 4 (.val (.int .i64))],[]⟩),(.exit 0,⟨[],[]⟩)] ⟨[18,8,11,12,13,14,15,16,4,17,5,10,9],[],[]⟩ F .leaf))) .leaf)) f225 (by kernel_rfl) fun a=>by kernel_rfl
def Yeh(F:Nat):LK:=lX (Zci F) (lX (Qw0 F) lN)
def Qgr(F:Nat)(a:(Qm)×ByteArray×ByteArray):Option (Int):=
 (Qss F (a.1.2.2.2.2,a.2.1,a.2.2)).bind fun v5=>some (v5)
def Qt9(F:Nat):PC:={ats:=Qms,rts:=Zo,code:=Qgr F}
theorem Qfs(F:Nat):Qg cx 187 (Qt9 F):=qE (Yeh F) .leaf f187 (by kernel_rfl) fun a=>by kernel_rfl
def Yhx(F:Nat):LK:=lC (Wq F) lN
def Ki(F:Nat)(a:(Qm)×ByteArray):Option (Bool):=
 (V8 F (a.1.1,a.2)).bind fun v5=>some (v5)
def Zcz(F:Nat):PC:={ats:=Qeu,rts:=Xp,code:=Ki F}
theorem Kg(F:Nat):Qg cx 111 (Zcz F):=qE (Yhx F) .leaf f111 (by kernel_rfl) fun a=>by kernel_rfl
end
end Go.Proofs.Tryz

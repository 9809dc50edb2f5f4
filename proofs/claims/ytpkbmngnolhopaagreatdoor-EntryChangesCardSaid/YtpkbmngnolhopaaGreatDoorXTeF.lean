/- Functions of the program as functions of data. By program. -/
import Derived.Test.YtpkbmngnolhopaaGreatDoorXTeCx
set_option maxRecDepth 100000
set_option linter.all false
open Go.Utf8 renaming decode->j
open Sum renaming inr->o,inl->C,elim->J
open Go.IntKind renaming i64->I
open UInt8 renaming toBitVec->R
open ByteArray renaming get!->U,size->ZA,empty->ZC
open BitVec renaming toFin->ZB
namespace Go.Proofs.Tryz
open Go Go.Sx
noncomputable section
def Ynq(F:Nat):LK:=lN
def c98(F:Nat)(a:ByteArray):Option (Bool):=
 (Qw (O:=ByteArray×Nat) (β:=(ByteArray×Nat)×Bool ⊕ ByteArray×Nat) (fun v23=>bif decide (v23.2<ZA v23.1)then(bif decide (97<=(↑(j v23.1 v23.2).1:Int))then(bif decide ((↑(j v23.1 v23.2).1:Int)<=(122:Int))then(some (C (v23.1,v23.2+(j v23.1 v23.2).2)))else(bif decide (65<=(↑(j v23.1 v23.2).1:Int))then(bif !decide ((↑(j v23.1 v23.2).1:Int)<=(90:Int))then(bif decide ((↑v23.2:Int)=(0:Int))then(some (o (C ((v23.1,v23.2+(j v23.1 v23.2).2),false))))else(bif !decide ((↑(j v23.1 v23.2).1:Int)=(95:Int))then(bif decide ((↑(j v23.1 v23.2).1:Int)<(48:Int))then(some (o (C ((v23.1,v23.2+(j v23.1 v23.2).2),false))))else(bif decide (57<(↑(j v23.1 v23.2).1:Int))then(some (o (C ((v23.1,v23.2+(j v23.1 v23.2).2),false))))else(some (C (v23.1,v23.2+(j v23.1 v23.2).2)))))else(some (C (v23.1,v23.2+(j v23.1 v23.2).2)))))else(some (C (v23.1,v23.2+(j v23.1 v23.2).2))))else(bif decide ((↑v23.2:Int)=(0:Int))then(some (o (C ((v23.1,v23.2+(j v23.1 v23.2).2),false))))else(bif !decide ((↑(j v23.1 v23.2).1:Int)=(95:Int))then(bif decide ((↑(j v23.1 v23.2).1:Int)<(48:Int))then(some (o (C ((v23.1,v23.2+(j v23.1 v23.2).2),false))))else(bif decide (57<(↑(j v23.1 v23.2).1:Int))then(some (o (C ((v23.1,v23.2+(j v23.1 v23.2).2),false))))else(some (C (v23.1,v23.2+(j v23.1 v23.2).2)))))else(some (C (v23.1,v23.2+(j v23.1 v23.2).2)))))))else(bif decide (65<=(↑(j v23.1 v23.2).1:Int))then(bif !decide ((↑(j v23.1 v23.2).1:Int)<=(90:Int))then(bif decide ((↑v23.2:Int)=(0:Int))then(some (o (C ((v23.1,v23.2+(j v23.1 v23.2).2),false))))else(bif !decide ((↑(j v23.1 v23.2).1:Int)=(95:Int))then(bif decide ((↑(j v23.1 v23.2).1:Int)<(48:Int))then(some (o (C ((v23.1,v23.2+(j v23.1 v23.2).2),false))))else(bif decide (57<(↑(j v23.1 v23.2).1:Int))then(some (o (C ((v23.1,v23.2+(j v23.1 v23.2).2),false))))else(some (C (v23.1,v23.2+(j v23.1 v23.2).2)))))else(some (C (v23.1,v23.2+(j v23.1 v23.2).2)))))else(some (C (v23.1,v23.2+(j v23.1 v23.2).2))))else(bif decide ((↑v23.2:Int)=(0:Int))then(some (o (C ((v23.1,v23.2+(j v23.1 v23.2).2),false))))else(bif !decide ((↑(j v23.1 v23.2).1:Int)=(95:Int))then(bif decide ((↑(j v23.1 v23.2).1:Int)<(48:Int))then(some (o (C ((v23.1,v23.2+(j v23.1 v23.2).2),false))))else(bif decide (57<(↑(j v23.1 v23.2).1:Int))then(some (o (C ((v23.1,v23.2+(j v23.1 v23.2).2),false))))else(some (C (v23.1,v23.2+(j v23.1 v23.2).2)))))else(some (C (v23.1,v23.2+(j v23.1 v23.2).2)))))))else(some (o (o v23)))) F ((a,(0:Nat)))).bind fun v19=>J (fun v20=>some v20.2) (fun v21=>(bif decide (0<(↑(ZA a):Int))then(some (decide ((↑(ZA a):Int)<=(24:Int))))else(some (false))).bind fun v22=>some (v22)) (v19)
def Qqh(F:Nat):PC:={ats:=Um,rts:=Xn,code:=c98 F}
theorem Vz(F:Nat):Qg cx 98 (Qqh F):=qE (Ynq F) (.two .leaf (.two (.two .leaf (.one (.loop ⟨[.iter 0],[]⟩ [(.ret,⟨[.iter 0,.slot 2 (.val (.bool))],[]⟩),(.exit 0,⟨[.iter 0],[]⟩)] ⟨(kU 12 14 (5::2::kD 43 18 (4::3::11::10::9::8::[]))),[0],[]⟩ F .leaf))) (.two (.join [(.normal,⟨[.slot 2 (.val (.bool))],[]⟩)] ⟨(2::kD 51 8 []),[],[]⟩ .leaf) .leaf))) f98 (by kernel_rfl) fun a=>by kernel_rfl
def Ysc(F:Nat):LK:=lN
def Qm(F:Nat)(a:Bool×Int):Option (Int):=
 bif a.1 then(some a.2)else(some ((0:Int)))
def Zh3(F:Nat):PC:={ats:=Qy1,rts:=Zp,code:=Qm F}
theorem Z9(F:Nat):Qg cx 86 (Zh3 F):=qE (Ysc F) .leaf f86 (by kernel_rfl) fun a=>by kernel_rfl
def Zu2(F:Nat):LK:=lC (Z9 F) (lC (Vz F) lN)
def c92(F:Nat)(a:ByteArray):Option (Int):=
 (c98 F a).bind fun v7=>(Qm F (!v7,(8:Int))).bind fun v8=>some (v8)
def Ymz(F:Nat):PC:={ats:=Um,rts:=Zp,code:=c92 F}
theorem V6(F:Nat):Qg cx 92 (Ymz F):=qE (Zu2 F) .leaf f92 (by kernel_rfl) fun a=>by kernel_rfl
def Yri(F:Nat):LK:=lN
def Qnx(F:Nat)(a:Int):Option (Bool):=
 (bif decide (a<0)then(some (true))else(some (decide (99999<a)))).bind fun v5=>some (v5)
def Yc2(F:Nat):PC:={ats:=Zp,rts:=Xn,code:=Qnx F}
theorem Qtd(F:Nat):Qg cx 153 (Yc2 F):=qE (Yri F) (.two .leaf (.two (.join [(.normal,⟨[.slot 2 (.val (.bool))],[]⟩)] ⟨(2::kD 8 6 []),[],[]⟩ .leaf) .leaf)) f153 (by kernel_rfl) fun a=>by kernel_rfl
def Zz0:Qk:=⟨[.slot 0 (.val (.seq kt6))],[(1,.stat (.pv (.lit (.func (.func 153) #[] #[]))))]⟩
def Yj0:Qk:=⟨[.slot 0 (.val (.int .i64))],[]⟩
def Yex(F:Nat):LK:=lC (Qtd F) lN
def Qnb(F:Nat)(a:List Int):Option (Int):=
 (Qw (O:=Int) (β:=Int ⊕ Unit) (fun v15=>bif decide (v15<(↑(a.length):Int))then(gd (decide (0<=v15)) (gd (decide (v15<(↑(a.length):Int))) (gd (decide (v15.toNat<a.length)) ((Qnx F (a.getD (v15.toNat) (0:Int))).bind fun v16=>bif v16 then(some (o (C v15)))else(some (C (w64 (v15+1))))))))else(some (o (o ())))) F ((0:Int))).bind fun v12=>J (fun v13=>some (v13)) (fun v14=>some ((-1:Int))) (v12)
def Yfw(F:Nat):PX:={np:=2,locs:=[],τ:=Zz0,nr:=1,ω:=Yj0,ids:=[],mv:=[],code:=Qnb F}
theorem Zfo(F:Nat):Zk cx 209 (Yfw F):=Yi (Yex F) (.two .leaf (.two (.two .leaf (.one (.loop ⟨[.slot 8 (.val (.int .i64))],[]⟩ [(.ret,⟨[.slot 4 (.val (.int .i64))],[]⟩),(.exit 0,⟨[],[]⟩)] ⟨[18,8,11,12,13,14,15,16,4,17,5,10,9],[],[]⟩ F .leaf))) .leaf)) f209 (by kernel_rfl) fun a=>by kernel_rfl
def Yjf:Qk:=⟨[.slot 0 (.val (.seq kt6))],[(1,.stat (.pv (.lit (.func (.func 153) #[] #[]))))]⟩
def Yha:Qk:=⟨[.slot 0 (.val (.bool))],[]⟩
def Yhv(F:Nat):LK:=lC (Qtd F) (lX (Zfo F) lN)
def Qwi(F:Nat)(a:List Int):Option (Bool):=
 (Qnb F a).bind fun v5=>some (decide (0<=v5))
def Ybl(F:Nat):PX:={np:=2,locs:=[],τ:=Yjf,nr:=1,ω:=Yha,ids:=[],mv:=[],code:=Qwi F}
theorem Yct(F:Nat):Zk cx 152 (Ybl F):=Yi (Yhv F) .leaf f152 (by kernel_rfl) fun a=>by kernel_rfl
def Zy5(F:Nat):LK:=lC (Z9 F) (lC (Qtd F) (lX (Zfo F) (lX (Yct F) lN)))
def Yf(F:Nat)(a:List Int):Option (Int):=
 (Qwi F a).bind fun v7=>(Qm F (v7,(3:Int))).bind fun v8=>some (v8)
def Ybr(F:Nat):PC:={ats:=[.val (.seq kt6)],rts:=Zp,code:=Yf F}
theorem Wy(F:Nat):Qg cx 85 (Ybr F):=qE (Zy5 F) .leaf f85 (by kernel_rfl) fun a=>by kernel_rfl
def Yfp(F:Nat):LK:=lN
def Q4(F:Nat)(a:List Int):Option (Int):=
 (Qw (O:=Int) (β:=Int ⊕ Unit) (fun v13=>bif decide (v13<(↑(a.length):Int))then(gd (decide (0<=v13)) (gd (decide (v13<(↑(a.length):Int))) (gd (decide (v13.toNat<a.length)) (bif !decide (a.getD (v13.toNat) (0:Int)=(0:Int))then(some (o (C (a.getD (v13.toNat) (0:Int)))))else(some (C (w64 (v13+1))))))))else(some (o (o ())))) F ((0:Int))).bind fun v10=>J (fun v11=>some (v11)) (fun v12=>some ((0:Int))) (v10)
def Zie(F:Nat):PC:={ats:=[.val (.seq kt6)],rts:=Zp,code:=Q4 F}
theorem Yh(F:Nat):Qg cx 84 (Zie F):=qE (Yfp F) (.two .leaf (.two (.two .leaf (.one (.loop ⟨[.slot 7 (.val (.int .i64))],[]⟩ [(.ret,⟨[.slot 2 (.val (.int .i64))],[]⟩),(.exit 0,⟨[],[]⟩)] ⟨[14,7,11,12,2,13,4,10,9,8],[],[]⟩ F .leaf))) .leaf)) f84 (by kernel_rfl) fun a=>by kernel_rfl
def Ypz(F:Nat):LK:=lC (Yh F) (lC (Z9 F) (lC (Wy F) (lC (V6 F) lN)))
def c63(F:Nat)(a:(Qz)×Int):Option (Int×Int):=
 ((c92 F a.1.1).bind fun v132=>(tw (X:=Int×Int) (Qt.eqv (Qe.val (Ty.int I)::Qe.val (Ty.int I)::Qa Qe)) ((Yf F (a.1.2.2.1::Qa Int)).bind fun v145=>(Yf F (a.2::Qa Int)).bind fun v146=>(Qm F (decide (a.2<a.1.2.2.1),(11:Int))).bind fun v147=>(Q4 F (v132::v145::v146::v147::Qa Int)).bind fun v148=>bif !decide (v148=0)then(some (((0:Int),v148)))else(some ((w64 (Int.tdiv (w64 (a.2-a.1.2.2.1)) (365:Int)),(0:Int)))))).bind fun v133=>((Yf F (a.1.2.2.1::Qa Int)).bind fun v135=>(Yf F (a.2::Qa Int)).bind fun v136=>(Qm F (decide (a.2<a.1.2.2.1),(11:Int))).bind fun v137=>(Q4 F (v132::v135::v136::v137::Qa Int)).bind fun v138=>bif !decide (v138=0)then(some (((0:Int),v138)))else(some ((w64 (Int.tdiv (w64 (a.2-a.1.2.2.1)) (365:Int)),(0:Int))))).bind fun v134=>gd (Qt.eqv (Qe.val (Ty.int I)::Qe.val (Ty.int I)::Qa Qe) v133 v134) (some (v133))).bind fun v98=>((((c92 F a.1.1).bind fun v121=>tw (X:=Int×Int) (Qt.eqv (Qe.val (Ty.int I)::Qe.val (Ty.int I)::Qa Qe)) ((Yf F (a.1.2.2.1::Qa Int)).bind fun v128=>(Yf F (a.2::Qa Int)).bind fun v129=>(Qm F (decide (a.2<a.1.2.2.1),(11:Int))).bind fun v130=>(Q4 F (v121::v128::v129::v130::Qa Int)).bind fun v131=>bif !decide (v131=0)then(some (((0:Int),v131)))else(some ((w64 (Int.tdiv (w64 (a.2-a.1.2.2.1)) (365:Int)),(0:Int)))))).bind fun v114=>((c92 F a.1.1).bind fun v116=>(Yf F (a.1.2.2.1::Qa Int)).bind fun v117=>(Yf F (a.2::Qa Int)).bind fun v118=>(Qm F (decide (a.2<a.1.2.2.1),(11:Int))).bind fun v119=>(Q4 F (v116::v117::v118::v119::Qa Int)).bind fun v120=>bif !decide (v120=0)then(some (((0:Int),v120)))else(some ((w64 (Int.tdiv (w64 (a.2-a.1.2.2.1)) (365:Int)),(0:Int))))).bind fun v115=>gd (Qt.eqv (Qe.val (Ty.int I)::Qe.val (Ty.int I)::Qa Qe) v114 v115) (some (v114))).bind fun v100=>(tw (X:=Int×Int) (Qt.eqv (Qe.val (Ty.int I)::Qe.val (Ty.int I)::Qa Qe)) ((c92 F a.1.1).bind fun v109=>(Yf F (a.1.2.2.1::Qa Int)).bind fun v110=>(Yf F (a.2::Qa Int)).bind fun v111=>(Qm F (decide (a.2<a.1.2.2.1),(11:Int))).bind fun v112=>(Q4 F (v109::v110::v111::v112::Qa Int)).bind fun v113=>bif !decide (v113=0)then(some (((0:Int),v113)))else(some ((w64 (Int.tdiv (w64 (a.2-a.1.2.2.1)) (365:Int)),(0:Int)))))).bind fun v101=>gd (Qt.eqv (Qe.val (Ty.int I)::Qe.val (Ty.int I)::Qa Qe) v100 v101) (some (v100))).bind fun v99=>gd (Qt.eqv (Qe.val (Ty.int I)::Qe.val (Ty.int I)::Qa Qe) v98 v99) (some (v98))
def Zku(F:Nat):PC:={ats:=[.agg kt3,.val (.int .i64)],rts:=Qni,code:=c63 F}
theorem Ysh(F:Nat):Qg cx 63 (Zku F):=qE (Ypz F) .leaf f63 (by kernel_rfl) fun a=>by kernel_rfl
def Zsi(F:Nat):LK:=lN
def W7(F:Nat)(a:List (Zb)×ByteArray×Int):Option (Bool):=
 (Qw (O:=Bool×Int) (β:=Bool) (fun v10=>bif decide (v10.2<(↑(a.1.length):Int))then(gd (decide (0<=v10.2)) (gd (decide (v10.2<(↑(a.1.length):Int))) (gd (decide (v10.2.toNat<a.1.length)) ((bif !Qc (a.1.getD (v10.2.toNat) YP).1 a.2.1 then(some (true))else(bif decide (a.2.2<(a.1.getD (v10.2.toNat) YP).2.1)then(some (true))else(some (decide ((a.1.getD (v10.2.toNat) YP).2.2<a.2.2))))).bind fun v11=>bif v11 then(some (C (v10.1,w64 (v10.2+1))))else(some (o true))))))else(some (o v10.1))) F ((false,(0:Int)))).bind fun v9=>some (v9)
def Ysn(F:Nat):PC:={ats:=Zg3,rts:=Xn,code:=W7 F}
theorem Yrj(F:Nat):Qg cx 147 (Ysn F):=qE (Zsi F) (.two .leaf (.one (Q7 2 (.two (.two .leaf (.one (.loop ⟨[.slot 7 (.val (.bool)),.slot 12 (.val (.int .i64))],[]⟩ [(.exit 0,⟨[.slot 7 (.val (.bool))],[]⟩)] ⟨(32::12::kU 16 16 (7::9::15::14::13::[])),[],[]⟩ F (Q7 2 (.two (.one (.two .leaf (.two (.two (.join [(.normal,⟨[.slot 31 (.val (.bool))],[]⟩)] ⟨(kD 31 16 []),[],[]⟩ .leaf) .leaf) .leaf))) .leaf))))) .leaf)))) f147 (by kernel_rfl) fun a=>by kernel_rfl
def Yr7(F:Nat):LK:=lC (Yh F) (lC (Z9 F) (lC (Wy F) lN))
def Zf3(F:Nat)(a:Zb):Option (Int):=
 (Yf F (a.2.1::a.2.2::Qa Int)).bind fun v9=>(Qm F (decide (a.2.2<a.2.1),(11:Int))).bind fun v10=>(Q4 F (v9::v10::Qa Int)).bind fun v11=>some (v11)
def Zsj(F:Nat):PC:={ats:=[.agg kt2],rts:=Zp,code:=Zf3 F}
theorem Qjq(F:Nat):Qg cx 114 (Zsj F):=qE (Yr7 F) .leaf f114 (by kernel_rfl) fun a=>by kernel_rfl
def Yad(F:Nat):LK:=lC (Yh F) (lC (Qjq F) (lC (V6 F) lN))
def Ymt(F:Nat):PC:=qT (Yad F) .leaf f146 [.val (.int .i64),.agg kt2] Zp
theorem Ylq(F:Nat):Qg cx 146 (Ymt F):=Qci (by kernel_rfl)
def Zn7:Qk:=⟨[.slot 0 (.val (.seq kt2))],[(1,.stat (.pv (.lit (.func (.func 146) #[] #[]))))]⟩
def Yok:Qk:=⟨[.slot 0 (.val (.int .i64))],[]⟩
def Yll(F:Nat):LK:=lC (Yh F) (lC (Qjq F) (lC (V6 F) (lC (Ylq F) lN)))
def Yry(F:Nat):PX:=qX (Yll F) (.two .leaf (.two (.two .leaf (.one (.loop ⟨[.slot 10 (.val (.int .i64))],[]⟩ [(.ret,⟨[.slot 4 (.val (.int .i64))],[]⟩),(.exit 0,⟨[],[]⟩)] ⟨[22,10,15,16,17,18,7,21,4,20,19,5,6,14,13,12,11],[],[]⟩ F .leaf))) .leaf)) f112 (pxB 2 [] Zn7 1 Yok [] [])
theorem Zss(F:Nat):Zk cx 112 (Yry F):=Vq (by kernel_rfl)
def Yfc(F:Nat):LK:=lN
def c67(F:Nat)(a:ByteArray):Option (Bool):=
 (bif decide ((↑(ZA a):Int)<(1:Int))then(some (true))else(some (decide (24<(↑(ZA a):Int))))).bind fun v16=>bif v16 then(some (false))else((Qw (O:=Int) (β:=Bool ⊕ Unit) (fun v20=>bif decide (v20<(↑(ZA a):Int))then(gd (decide (0<=v20)) (gd (decide (v20.toNat<ZA a)) ((bif decide (97<=(↑(ZB (R (U a (v20.toNat)))).1:Int))then(bif decide ((↑(ZB (R (U a (v20.toNat)))).1:Int)<=(122:Int))then(some (true))else(bif decide (65<=(↑(ZB (R (U a (v20.toNat)))).1:Int))then(some (decide ((↑(ZB (R (U a (v20.toNat)))).1:Int)<=(90:Int))))else(some (false))))else(bif decide (65<=(↑(ZB (R (U a (v20.toNat)))).1:Int))then(some (decide ((↑(ZB (R (U a (v20.toNat)))).1:Int)<=(90:Int))))else(some (false)))).bind fun v21=>(bif !v21 then(bif decide (v20=0)then(some (true))else(bif decide (48<=(↑(ZB (R (U a (v20.toNat)))).1:Int))then(bif decide ((↑(ZB (R (U a (v20.toNat)))).1:Int)<=(57:Int))then(some (!true))else(some (!decide ((↑(ZB (R (U a (v20.toNat)))).1:Int)=(95:Int)))))else(some (!decide ((↑(ZB (R (U a (v20.toNat)))).1:Int)=(95:Int))))))else(some (false))).bind fun v22=>bif v22 then(some (o (C false)))else(some (C (w64 (v20+1)))))))else(some (o (o ())))) F ((0:Int))).bind fun v17=>J (fun v18=>some (v18)) (fun v19=>some (true)) (v17))
def Zx0(F:Nat):PC:={ats:=Um,rts:=Xn,code:=c67 F}
theorem Qxp(F:Nat):Qg cx 67 (Zx0 F):=qE (Yfc F) (.two .leaf (.two (.two (.join [(.normal,⟨[.slot 13 (.val (.bool))],[]⟩)] ⟨(kD 13 8 []),[],[]⟩ .leaf) .leaf) (.two (.two .leaf (.one (.loop ⟨[.slot 3 (.val (.int .i64))],[]⟩ [(.ret,⟨[.slot 2 (.val (.bool))],[]⟩),(.exit 0,⟨[],[]⟩)] ⟨(20::21::22::4::kU 37 19 (2::5::kD 36 14 (3::kD 19 6 []))),[],[]⟩ F (.two .leaf (.two (.one (.two .leaf (.two (.join [(.normal,⟨[.slot 5 (.val (.bool))],[]⟩)] ⟨(5::kD 36 14 []),[],[]⟩ .leaf) (.two (.join [(.normal,⟨[.slot 55 (.val (.bool))],[]⟩)] ⟨(kD 55 19 []),[],[]⟩ .leaf) .leaf)))) .leaf))))) .leaf))) f67 (by kernel_rfl) fun a=>by kernel_rfl
def Zwy(F:Nat):LK:=lN
def c94(F:Nat)(a:Int×Int):Option (Bool):=
 (bif decide (a.1<0)then(some (true))else(some (decide (a.2<a.1)))).bind fun v5=>some (v5)
def Zrr(F:Nat):PC:={ats:=Qni,rts:=Xn,code:=c94 F}
theorem Qrg(F:Nat):Qg cx 94 (Zrr F):=qE (Zwy F) (.two .leaf (.two (.join [(.normal,⟨[.slot 4 (.val (.bool))],[]⟩)] ⟨(4::kD 11 7 []),[],[]⟩ .leaf) .leaf)) f94 (by kernel_rfl) fun a=>by kernel_rfl
def Yi9(F:Nat):LK:=lN
def c68(F:Nat)(a:List (Zb)×ByteArray×Int):Option (Bool):=
 (Qw (O:=Int) (β:=Bool ⊕ Unit) (fun v15=>bif decide (v15<(↑(a.1.length):Int))then((gd (decide (0<=v15)) (gd (decide (v15<(↑(a.1.length):Int))) (gd (decide (v15.toNat<a.1.length)) (bif Qc (a.1.getD (v15.toNat) YP).1 a.2.1 then(gd (decide (0<=v15)) (gd (decide (v15<(↑(a.1.length):Int))) (gd (decide (v15.toNat<a.1.length)) (bif decide ((a.1.getD (v15.toNat) YP).2.1<=a.2.2)then(gd (decide (0<=v15)) (gd (decide (v15<(↑(a.1.length):Int))) (gd (decide (v15.toNat<a.1.length)) (some (decide (a.2.2<=(a.1.getD (v15.toNat) YP).2.2))))))else(some (false))))))else(some (false)))))).bind fun v16=>bif v16 then(some (o (C true)))else(some (C (w64 (v15+1)))))else(some (o (o ())))) F ((0:Int))).bind fun v12=>J (fun v13=>some (v13)) (fun v14=>some (false)) (v12)
def Yrz(F:Nat):PC:={ats:=Zg3,rts:=Xn,code:=c68 F}
theorem Zp4(F:Nat):Qg cx 68 (Yrz F):=qE (Yi9 F) (.two .leaf (.two (.two .leaf (.one (.loop ⟨[.slot 7 (.val (.int .i64))],[]⟩ [(.ret,⟨[.slot 6 (.val (.bool))],[]⟩),(.exit 0,⟨[],[]⟩)] ⟨(kU 14 25 (6::7::kD 13 6 [])),[],[]⟩ F (.two .leaf (.two (.one (.two (.join [(.normal,⟨[.slot 38 (.val (.bool))],[]⟩)] ⟨(kD 38 25 []),[],[]⟩ .leaf) .leaf)) .leaf))))) .leaf)) f68 (by kernel_rfl) fun a=>by kernel_rfl
def Yis(F:Nat):LK:=lN
def c30(F:Nat)(a:List Int):Option (Int):=
 (Qw (O:=Int) (β:=Int ⊕ Unit) (fun v13=>bif decide (v13<(↑(a.length):Int))then(gd (decide (0<=v13)) (gd (decide (v13<(↑(a.length):Int))) (gd (decide (v13.toNat<a.length)) (bif !decide (a.getD (v13.toNat) (0:Int)=(0:Int))then(some (o (C (a.getD (v13.toNat) (0:Int)))))else(some (C (w64 (v13+1))))))))else(some (o (o ())))) F ((0:Int))).bind fun v10=>J (fun v11=>some (v11)) (fun v12=>some ((0:Int))) (v10)
def Zsz(F:Nat):PC:={ats:=[.val (.seq kt6)],rts:=Zp,code:=c30 F}
theorem Zhe(F:Nat):Qg cx 30 (Zsz F):=qE (Yis F) (.two .leaf (.two (.two .leaf (.one (.loop ⟨[.slot 7 (.val (.int .i64))],[]⟩ [(.ret,⟨[.slot 2 (.val (.int .i64))],[]⟩),(.exit 0,⟨[],[]⟩)] ⟨[14,7,11,12,2,13,4,10,9,8],[],[]⟩ F .leaf))) .leaf)) f30 (by kernel_rfl) fun a=>by kernel_rfl
def Zr9(F:Nat):LK:=lN
def c39(F:Nat)(a:Bool×Int):Option (Int):=
 bif a.1 then(some a.2)else(some ((0:Int)))
def Zxa(F:Nat):PC:={ats:=Qy1,rts:=Zp,code:=c39 F}
theorem Zyn(F:Nat):Qg cx 39 (Zxa F):=qE (Zr9 F) .leaf f39 (by kernel_rfl) fun a=>by kernel_rfl
def Zto(F:Nat):LK:=lN
def c44(F:Nat)(a:List ByteArray×List ByteArray):Option (Bool):=
 bif !decide ((↑(a.1.length):Int)=(↑(a.2.length):Int))then(some (false))else((Qw (O:=Int) (β:=Bool ⊕ Unit) (fun v13=>bif decide (v13<(↑(a.1.length):Int))then(gd (decide (0<=v13)) (gd (decide (v13<(↑(a.1.length):Int))) (gd (decide (v13.toNat<a.1.length)) (gd (decide (0<=v13)) (gd (decide (v13<(↑(a.2.length):Int))) (gd (decide (v13.toNat<a.2.length)) (bif !Qc (a.1.getD (v13.toNat) ZC) (a.2.getD (v13.toNat) ZC)then(some (o (C false)))else(some (C (w64 (v13+1)))))))))))else(some (o (o ())))) F ((0:Int))).bind fun v10=>J (fun v11=>some (v11)) (fun v12=>some (true)) (v10))
def Zbo(F:Nat):PC:={ats:=[.val (.seq Ze),.val (.seq Ze)],rts:=Xn,code:=c44 F}
theorem Qqd(F:Nat):Qg cx 44 (Zbo F):=qE (Zto F) (Q7 2 (.two (.two .leaf (.one (.loop ⟨[.slot 5 (.val (.int .i64))],[]⟩ [(.ret,⟨[.slot 4 (.val (.bool))],[]⟩),(.exit 0,⟨[],[]⟩)] ⟨(kU 17 9 (4::5::kD 16 6 [])),[],[]⟩ F .leaf))) .leaf)) f44 (by kernel_rfl) fun a=>by kernel_rfl
def Zp9(F:Nat):LK:=lN
def c45(F:Nat)(a:List Int×List Int):Option (Bool):=
 bif !decide ((↑(a.1.length):Int)=(↑(a.2.length):Int))then(some (false))else((Qw (O:=Int) (β:=Bool ⊕ Unit) (fun v13=>bif decide (v13<(↑(a.1.length):Int))then(gd (decide (0<=v13)) (gd (decide (v13<(↑(a.1.length):Int))) (gd (decide (v13.toNat<a.1.length)) (gd (decide (0<=v13)) (gd (decide (v13<(↑(a.2.length):Int))) (gd (decide (v13.toNat<a.2.length)) (bif !decide (a.1.getD (v13.toNat) (0:Int)=a.2.getD (v13.toNat) (0:Int))then(some (o (C false)))else(some (C (w64 (v13+1)))))))))))else(some (o (o ())))) F ((0:Int))).bind fun v10=>J (fun v11=>some (v11)) (fun v12=>some (true)) (v10))
def Zff(F:Nat):PC:={ats:=[.val (.seq kt6),.val (.seq kt6)],rts:=Xn,code:=c45 F}
theorem Zpv(F:Nat):Qg cx 45 (Zff F):=qE (Zp9 F) (Q7 2 (.two (.two .leaf (.one (.loop ⟨[.slot 5 (.val (.int .i64))],[]⟩ [(.ret,⟨[.slot 4 (.val (.bool))],[]⟩),(.exit 0,⟨[],[]⟩)] ⟨(kU 17 9 (4::5::kD 16 6 [])),[],[]⟩ F .leaf))) .leaf)) f45 (by kernel_rfl) fun a=>by kernel_rfl
def Yhr(F:Nat):LK:=lN
def c47(F:Nat)(a:(Zs)×ByteArray):Option (Int):=
 (Qw (O:=Int) (β:=Int ⊕ Unit) (fun v13=>bif decide (v13<(↑(a.1.2.2.2.2.length):Int))then(gd (decide (0<=v13)) (gd (decide (v13<(↑(a.1.2.2.2.2.length):Int))) (gd (decide (v13.toNat<a.1.2.2.2.2.length)) (bif Qc (a.1.2.2.2.2.getD (v13.toNat) Zd).1 a.2 then(some (o (C v13)))else(some (C (w64 (v13+1))))))))else(some (o (o ())))) F ((0:Int))).bind fun v10=>J (fun v11=>some (v11)) (fun v12=>some ((-1:Int))) (v10)
def Yqe(F:Nat):PC:={ats:=[.agg Xs,.val (.str)],rts:=Zp,code:=c47 F}
theorem Qhy(F:Nat):Qg cx 47 (Yqe F):=qE (Yhr F) (.two .leaf (.two (.two .leaf (.one (.loop ⟨[.slot 5 (.val (.int .i64))],[]⟩ [(.ret,⟨[.slot 4 (.val (.int .i64))],[]⟩),(.exit 0,⟨[],[]⟩)] ⟨(kU 13 8 (4::21::5::kD 12 7 [])),[],[]⟩ F .leaf))) .leaf)) f47 (by kernel_rfl) fun a=>by kernel_rfl
def Znq(F:Nat):LK:=lN
def Qpr(F:Nat)(a:ByteArray):Option (Bool):=
 (bif Qc a YS then(some (true))else(bif Qc a YT then(some (true))else(bif Qc a YU then(some (true))else(some (Qc a YR))))).bind fun v5=>some (v5)
def Ynw(F:Nat):PC:={ats:=Um,rts:=Xn,code:=Qpr F}
theorem Ypg(F:Nat):Qg cx 210 (Ynw F):=qE (Znq F) (.two .leaf (.two (.join [(.normal,⟨[.slot 2 (.val (.bool))],[]⟩)] ⟨(2::kD 16 14 []),[],[]⟩ .leaf) .leaf)) f210 (by kernel_rfl) fun a=>by kernel_rfl
def Zvy(F:Nat):LK:=lN
def Qxx(F:Nat)(a:ByteArray):Option (Int):=
 bif Qc a YK then(some ((863999999:Int)))else(bif Qc a YL then(some ((999999:Int)))else(some ((99999:Int))))
def Yf1(F:Nat):PC:={ats:=Um,rts:=Zp,code:=Qxx F}
theorem Yk9(F:Nat):Qg cx 212 (Yf1 F):=qE (Zvy F) .leaf f212 (by kernel_rfl) fun a=>by kernel_rfl
def Yez(F:Nat):LK:=lN
def Qw2(F:Nat)(a:ByteArray):Option (Int):=
 bif Qc a YK then(some ((1:Int)))else(some ((0:Int)))
def Zyr(F:Nat):PC:={ats:=Um,rts:=Zp,code:=Qw2 F}
theorem Zx8(F:Nat):Qg cx 211 (Zyr F):=qE (Yez F) .leaf f211 (by kernel_rfl) fun a=>by kernel_rfl
def Zzz(F:Nat):LK:=lC (Zx8 F) (lC (Yk9 F) (lC (Ypg F) lN))
def Qkp(F:Nat)(a:ByteArray×Int×ByteArray):Option (Int):=
 bif Qc a.1 YM then((Qpr F a.2.2).bind fun v18=>bif !v18 then(some ((1:Int)))else(bif !decide (a.2.1=0)then(some ((3:Int)))else(some ((0:Int)))))else((bif Qc a.1 YK then(some (Qc a.1 YK))else((bif Qc a.1 YL then(some (Qc a.1 YL))else(some (Qc a.1 YN))).bind fun v23=>some (v23))).bind fun v19=>bif v19 then(bif !Qc a.2.2 YC then(some ((1:Int)))else(((Qw2 F a.1).bind fun v21=>bif decide (a.2.1<v21)then(some (true))else((Qxx F a.1).bind fun v22=>some (decide (v22<a.2.1)))).bind fun v20=>bif v20 then(some ((3:Int)))else(some ((0:Int)))))else(some ((13:Int))))
def Zy1(F:Nat):PC:={ats:=[.agg kt7],rts:=Zp,code:=Qkp F}
theorem Zi3(F:Nat):Qg cx 156 (Zy1 F):=qE (Zzz F) (.two .leaf (.two (.two .leaf (.one (Q7 2 (.two (.two .leaf (.join [(.normal,⟨[.slot 14 (.val (.bool))],[]⟩)] ⟨[16,14,17],[],[]⟩ (Q7 2 (.join [(.normal,⟨[.slot 14 (.val (.bool))],[]⟩)] ⟨[17,14],[],[]⟩ .leaf)))) (.two (.two .leaf (.two (.two (.join [(.normal,⟨[.slot 34 (.val (.bool))],[]⟩)] ⟨(kD 34 14 []),[],[]⟩ .leaf) .leaf) .leaf)) .leaf))))) .leaf)) f156 (by kernel_rfl) fun a=>by kernel_rfl
def Ymb(F:Nat):LK:=lN
def Qk0(F:Nat)(a:(ByteArray×Int×ByteArray)×ByteArray):Option (Bool):=
 (bif Qc a.1.1 a.2 then(some (true))else(some (Qc a.1.1 YM))).bind fun v5=>some (v5)
def Zqp(F:Nat):PC:={ats:=[.agg kt7,.val (.str)],rts:=Xn,code:=Qk0 F}
theorem Zhj(F:Nat):Qg cx 157 (Zqp F):=qE (Ymb F) (.two .leaf (.two (.join [(.normal,⟨[.slot 4 (.val (.bool))],[]⟩)] ⟨(4::kD 13 9 []),[],[]⟩ .leaf) .leaf)) f157 (by kernel_rfl) fun a=>by kernel_rfl
def Zw1(F:Nat):LK:=lC (Qxp F) (lC (Qrg F) (lC (Zhj F) (lC (Zi3 F) (lC (Qhy F) lN))))
def c95(F:Nat)(a:(Zs)×Int):Option (Int):=
 gd (decide (0<=a.2)) (gd (decide (a.2<(↑(a.1.2.2.2.2.length):Int))) (gd (decide (a.2.toNat<a.1.2.2.2.2.length)) ((c67 F (a.1.2.2.2.2.getD (a.2.toNat) Zd).1).bind fun v42=>bif !v42 then(some ((8:Int)))else((c47 F (a.1,(a.1.2.2.2.2.getD (a.2.toNat) Zd).1)).bind fun v43=>bif decide (v43<a.2)then(some ((9:Int)))else((bif !Qc (a.1.2.2.2.2.getD (a.2.toNat) Zd).2.1 YK then(bif !Qc (a.1.2.2.2.2.getD (a.2.toNat) Zd).2.1 YL then(some (!Qc (a.1.2.2.2.2.getD (a.2.toNat) Zd).2.1 YN))else(some (false)))else(some (false))).bind fun v44=>bif v44 then(some ((13:Int)))else((bif !Qc (a.1.2.2.2.2.getD (a.2.toNat) Zd).2.2.1 YC then((c67 F (a.1.2.2.2.2.getD (a.2.toNat) Zd).2.2.1).bind fun v57=>some (!v57))else(some (false))).bind fun v45=>bif v45 then(some ((8:Int)))else(((c94 F ((a.1.2.2.2.2.getD (a.2.toNat) Zd).2.2.2.1,(120:Int))).bind fun v55=>bif v55 then(some (true))else((c94 F ((a.1.2.2.2.2.getD (a.2.toNat) Zd).2.2.2.2.1,(120:Int))).bind fun v56=>some (v56))).bind fun v46=>bif v46 then(some ((3:Int)))else(bif decide ((a.1.2.2.2.2.getD (a.2.toNat) Zd).2.2.2.2.1<(a.1.2.2.2.2.getD (a.2.toNat) Zd).2.2.2.1)then(some ((11:Int)))else(((c94 F ((a.1.2.2.2.2.getD (a.2.toNat) Zd).2.2.2.2.2.1,(160:Int))).bind fun v52=>bif v52 then(some (true))else((c94 F ((a.1.2.2.2.2.getD (a.2.toNat) Zd).2.2.2.2.2.2.1,(160:Int))).bind fun v53=>bif v53 then(some (true))else((c94 F ((a.1.2.2.2.2.getD (a.2.toNat) Zd).2.2.2.2.2.2.2.2.2.2,(8:Int))).bind fun v54=>some (v54)))).bind fun v47=>bif v47 then(some ((3:Int)))else((Qkp F ((a.1.2.2.2.2.getD (a.2.toNat) Zd).2.2.2.2.2.2.2.1,(a.1.2.2.2.2.getD (a.2.toNat) Zd).2.2.2.2.2.2.2.2.1,(a.1.2.2.2.2.getD (a.2.toNat) Zd).2.2.2.2.2.2.2.2.2.1)).bind fun v48=>(bif decide (v48=0)then((Qk0 F (((a.1.2.2.2.2.getD (a.2.toNat) Zd).2.2.2.2.2.2.2.1,(a.1.2.2.2.2.getD (a.2.toNat) Zd).2.2.2.2.2.2.2.2.1,(a.1.2.2.2.2.getD (a.2.toNat) Zd).2.2.2.2.2.2.2.2.2.1),(a.1.2.2.2.2.getD (a.2.toNat) Zd).2.1)).bind fun v51=>some (!v51))else(some (false))).bind fun v49=>(bif v49 then(some ((13:Int)))else(some (v48))).bind fun v50=>some (v50)))))))))))
def Yme(F:Nat):PC:={ats:=[.agg Xs,.val (.int .i64)],rts:=Zp,code:=c95 F}
theorem Yb4(F:Nat):Qg cx 95 (Yme F):=qE (Zw1 F) (Q7 4 (.two (.two (.join [(.normal,⟨[.slot 34 (.val (.bool))],[]⟩)] ⟨(kD 34 13 []),[],[]⟩ .leaf) .leaf) (.two (.two (.join [(.normal,⟨[.slot 43 (.val (.bool))],[]⟩)] ⟨(kD 43 9 []),[],[]⟩ .leaf) .leaf) (.two (.two (.join [(.normal,⟨[.slot 51 (.val (.bool))],[]⟩)] ⟨(kD 51 8 []),[],[]⟩ .leaf) .leaf) (.two .leaf (.two (.two (.join [(.normal,⟨[.slot 69 (.val (.bool))],[]⟩)] ⟨(kD 69 13 []),[],[]⟩ .leaf) .leaf) (.two .leaf (.two (.two (.join [(.normal,⟨[.slot 82 (.val (.bool))],[]⟩)] ⟨(kD 82 10 []),[],[]⟩ .leaf) (.join [(.normal,⟨[.slot 6 (.val (.int .i64))],[]⟩)] ⟨[6],[],[]⟩ .leaf)) .leaf)))))))) f95 (by kernel_rfl) fun a=>by kernel_rfl
def Zwm(F:Nat):LK:=lC (Yb4 F) (lC (Qrg F) lN)
def c22(F:Nat)(a:Zs):Option (Int):=
 ((c94 F (a.1,(99999:Int))).bind fun v35=>bif v35 then(some (true))else((c94 F (a.2.1,(99999:Int))).bind fun v36=>bif v36 then(some (true))else((c94 F (a.2.2.1,(99999:Int))).bind fun v37=>some (v37)))).bind fun v27=>bif v27 then(some ((3:Int)))else((bif decide (a.2.2.1<a.2.1)then(some (true))else(some (decide (a.1<a.2.2.1)))).bind fun v28=>bif v28 then(some ((11:Int)))else((c94 F (a.2.2.2.1,(32:Int))).bind fun v29=>bif v29 then(some ((3:Int)))else(bif decide (32<(↑(a.2.2.2.2.length):Int))then(some ((5:Int)))else((Qw (O:=Int) (β:=Int ⊕ Unit) (fun v33=>bif decide (v33<(↑(a.2.2.2.2.length):Int))then((c95 F (a,v33)).bind fun v34=>bif !decide (v34=0)then(some (o (C v34)))else(some (C (w64 (v33+1)))))else(some (o (o ())))) F ((0:Int))).bind fun v30=>J (fun v31=>some (v31)) (fun v32=>some ((0:Int))) (v30)))))
def Ztv(F:Nat):PC:={ats:=[.agg Xs],rts:=Zp,code:=c22 F}
theorem Zkf(F:Nat):Qg cx 22 (Ztv F):=qE (Zwm F) (.two .leaf (.two (.two (.join [(.normal,⟨[.slot 17 (.val (.bool))],[]⟩)] ⟨(kD 17 13 []),[],[]⟩ .leaf) .leaf) (.two (.two (.join [(.normal,⟨[.slot 29 (.val (.bool))],[]⟩)] ⟨(kD 29 12 []),[],[]⟩ .leaf) .leaf) (Q7 2 (.two (.two .leaf (.one (.loop ⟨[.slot 3 (.val (.int .i64))],[]⟩ [(.ret,⟨[.slot 2 (.val (.int .i64))],[]⟩),(.exit 0,⟨[],[]⟩)] ⟨(44::45::46::4::49::2::48::47::3::kD 43 7 []),[],[]⟩ F .leaf))) .leaf))))) f22 (by kernel_rfl) fun a=>by kernel_rfl
def Yp0(F:Nat):LK:=lN
def Kk(F:Nat)(a:ByteArray):Option (ByteArray):=
 (Qw (O:=Int) (β:=ByteArray ⊕ Unit) (fun v14=>bif decide (v14<(↑(8:Nat):Int))then(gd (decide (0<=v14)) (gd (decide (v14<(↑(8:Nat):Int))) (gd (decide ((0:Nat)+v14.toNat<8)) (bif Qc (List.getD (YJ::YF::YG::YD::YE::YB::YH::YI::Qa ByteArray) ((0:Nat)+v14.toNat) ZC) a then(gd (decide (0<=v14)) (gd (decide (v14<(↑(8:Nat):Int))) (gd (decide ((0:Nat)+v14.toNat<8)) (some (o (C (List.getD (WB::YW::YX::WA::YY::YV::YV::YZ::Qa ByteArray) ((0:Nat)+v14.toNat) ZC)))))))else(some (C (w64 (v14+1))))))))else(some (o (o ())))) F ((0:Int))).bind fun v11=>J (fun v12=>some (v12)) (fun v13=>some (YC)) (v11)
def Yff(F:Nat):PC:={ats:=Um,rts:=Um,code:=Kk F}
theorem Yj2(F:Nat):Qg cx 102 (Yff F):=qE (Yp0 F) (Q7 3 (.two (.two .leaf (.one (.typ 0 9 Ze (.typ 1 9 Ze (.loop ⟨[.slot 5 (.val (.int .i64))],[]⟩ [(.ret,⟨[.slot 2 (.val (.str))],[]⟩),(.exit 0,⟨[],[]⟩)] ⟨(kU 14 6 (2::23::22::21::20::5::kD 13 6 [])),[],[]⟩ F .leaf))))) .leaf)) f102 (by kernel_rfl) fun a=>by kernel_rfl
def Ypt(F:Nat):LK:=lN
def X1(F:Nat)(a:ByteArray×Int):Option (Bool):=
 (Qw (O:=Int) (β:=Bool ⊕ Unit) (fun v13=>bif decide (v13<(↑(ZA a.1):Int))then(gd (decide (0<=v13)) (gd (decide (v13.toNat<ZA a.1)) (bif decide ((↑(ZB (R (U a.1 (v13.toNat)))).1:Int)=a.2)then(some (o (C true)))else(some (C (w64 (v13+1)))))))else(some (o (o ())))) F ((0:Int))).bind fun v10=>J (fun v11=>some (v11)) (fun v12=>some (false)) (v10)
def Yav(F:Nat):PC:={ats:=[.val (.str),.val (.int .u8)],rts:=Xn,code:=X1 F}
theorem Zrj(F:Nat):Qg cx 104 (Yav F):=qE (Ypt F) (.two .leaf (.two (.two .leaf (.one (.loop ⟨[.slot 5 (.val (.int .i64))],[]⟩ [(.ret,⟨[.slot 4 (.val (.bool))],[]⟩),(.exit 0,⟨[],[]⟩)] ⟨[12,13,14,15,16,4,5,11,10,9,8,7,6],[],[]⟩ F .leaf))) .leaf)) f104 (by kernel_rfl) fun a=>by kernel_rfl
def Znk(F:Nat):LK:=lC (Qxp F) lN
def Qeg(F:Nat)(a:ByteArray):Option (Int):=
 (c67 F a).bind fun v5=>bif !v5 then(some ((8:Int)))else(some ((0:Int)))
def Yg9(F:Nat):PC:={ats:=Um,rts:=Zp,code:=Qeg F}
theorem Yjo(F:Nat):Qg cx 180 (Yg9 F):=qE (Znk F) .leaf f180 (by kernel_rfl) fun a=>by kernel_rfl
def Ym8(F:Nat):LK:=lC (Qrg F) lN
def Qmd(F:Nat)(a:Int):Option (Int):=
 (c94 F (a,(99999:Int))).bind fun v5=>bif v5 then(some ((3:Int)))else(some ((0:Int)))
def Zsq(F:Nat):PC:={ats:=Zp,rts:=Zp,code:=Qmd F}
theorem Zrd(F:Nat):Qg cx 181 (Zsq F):=qE (Ym8 F) .leaf f181 (by kernel_rfl) fun a=>by kernel_rfl
def Ypv(F:Nat):LK:=lC (Qxp F) lN
def Qp6(F:Nat)(a:List ByteArray):Option (Int):=
 bif decide (8<(↑(a.length):Int))then(some ((5:Int)))else((Qw (O:=Int) (β:=Int ⊕ Unit) (fun v15=>bif decide (v15<(↑(a.length):Int))then(gd (decide (0<=v15)) (gd (decide (v15<(↑(a.length):Int))) (gd (decide (v15.toNat<a.length)) ((c67 F (a.getD (v15.toNat) ZC)).bind fun v16=>bif !v16 then(some (o (C (8:Int))))else(some (C (w64 (v15+1))))))))else(some (o (o ())))) F ((0:Int))).bind fun v12=>J (fun v13=>some (v13)) (fun v14=>some ((0:Int))) (v12))
def Ym4(F:Nat):PC:={ats:=Qaz,rts:=Zp,code:=Qp6 F}
theorem Zxx(F:Nat):Qg cx 182 (Ym4 F):=qE (Ypv F) (Q7 2 (.two (.two .leaf (.one (.loop ⟨[.slot 3 (.val (.int .i64))],[]⟩ [(.ret,⟨[.slot 2 (.val (.int .i64))],[]⟩),(.exit 0,⟨[],[]⟩)] ⟨(kU 13 6 (2::3::kD 12 6 [])),[],[]⟩ F .leaf))) .leaf)) f182 (by kernel_rfl) fun a=>by kernel_rfl
def Ygk(F:Nat):LK:=lC (Zxx F) (lC (Zi3 F) (lC (Zrd F) (lC (Yjo F) lN)))
def Qoo(F:Nat)(a:(Q9)×Int):Option (Int):=
 bif decide (a.2=97)then((Qeg F a.1.2.2.1).bind fun v19=>some (v19))else(bif decide (a.2=99)then((Qeg F a.1.2.2.2.1).bind fun v20=>some (v20))else(bif decide (a.2=103)then((Qeg F a.1.2.2.2.2.1).bind fun v21=>some (v21))else(bif decide (a.2=102)then((Qmd F a.1.2.2.2.2.2.2.1).bind fun v22=>some (v22))else(bif decide (a.2=116)then((Qmd F a.1.2.2.2.2.2.2.2.1).bind fun v23=>some (v23))else(bif decide (a.2=107)then((Qeg F a.1.2.2.2.2.2.1).bind fun v24=>some (v24))else(bif decide (a.2=109)then((Qkp F (a.1.2.2.2.2.2.2.2.2.1,a.1.2.2.2.2.2.2.2.2.2.1,a.1.2.2.2.2.2.2.2.2.2.2.1)).bind fun v25=>some (v25))else((Qp6 F a.1.2.2.2.2.2.2.2.2.2.2.2).bind fun v26=>some (v26))))))))
def Yrn(F:Nat):PC:={ats:=[.agg Xq,.val (.int .u8)],rts:=Zp,code:=Qoo F}
theorem Ymc(F:Nat):Qg cx 103 (Yrn F):=qE (Ygk F) .leaf f103 (by kernel_rfl) fun a=>by kernel_rfl
def Zoj(F:Nat):LK:=lC (Ymc F) (lC (Zrj F) (lC (Qrg F) (lC (Yj2 F) lN)))
def Qsu(F:Nat)(a:Q9)(x0:ByteArray):Option (Bool):=
 (X1 F (x0,(110:Int))).bind fun(u1:Bool)=>bif !u1 then(some (decide (0<(↑(a.2.2.2.2.2.2.2.2.2.2.2.length):Int))))else(some (false))
def Qs6(F:Nat)(a:Q9)(x0:ByteArray):Option (Bool):=
 (X1 F (x0,(109:Int))).bind fun(u1:Bool)=>bif !u1 then(bif !(a.2.2.2.2.2.2.2.2.1==YC&&(decide (a.2.2.2.2.2.2.2.2.2.1=0)&&(a.2.2.2.2.2.2.2.2.2.2.1==YC&&true)))then(some (true))else(Qsu F a x0))else(Qsu F a x0)
def Qtf(F:Nat)(a:Q9)(x0:ByteArray):Option (Bool):=
 (X1 F (x0,(116:Int))).bind fun(u1:Bool)=>bif !u1 then(bif !decide (a.2.2.2.2.2.2.2.1=0)then(some (true))else(Qs6 F a x0))else(Qs6 F a x0)
def Qzf(F:Nat)(a:Q9)(x0:ByteArray):Option (Bool):=
 (X1 F (x0,(102:Int))).bind fun(u1:Bool)=>bif !u1 then(bif !decide (a.2.2.2.2.2.2.1=0)then(some (true))else(Qtf F a x0))else(Qtf F a x0)
def Qw9(F:Nat)(a:Q9)(x0:ByteArray):Option (Bool):=
 (X1 F (x0,(107:Int))).bind fun(u1:Bool)=>bif !u1 then(bif !Qc a.2.2.2.2.2.1 YC then(some (true))else(Qzf F a x0))else(Qzf F a x0)
def Qyn(F:Nat)(a:Q9)(x0:ByteArray):Option (Bool):=
 (X1 F (x0,(103:Int))).bind fun(u1:Bool)=>bif !u1 then(bif !Qc a.2.2.2.2.1 YC then(some (true))else(Qw9 F a x0))else(Qw9 F a x0)
def Qos(F:Nat)(a:Q9)(x0:ByteArray):Option (Bool):=
 (X1 F (x0,(99:Int))).bind fun(u1:Bool)=>bif !u1 then(bif !Qc a.2.2.2.1 YC then(some (true))else(Qyn F a x0))else(Qyn F a x0)
def c24(F:Nat)(a:Q9):Option (Int):=
 (Kk F a.2.1).bind fun v785=>bif Qc v785 YC then(some ((13:Int)))else((c94 F (a.1,(99999:Int))).bind fun v786=>bif v786 then(some ((3:Int)))else((Qw (O:=Int) (β:=Int ⊕ Unit) (fun v1047=>bif decide (v1047<(↑(ZA v785):Int))then(gd (decide (0<=v1047)) (gd (decide (v1047.toNat<ZA v785)) ((Qoo F (a,(↑(ZB (R (U v785 (v1047.toNat)))).1:Int))).bind fun v1048=>bif !decide (v1048=0)then(some (o (C v1048)))else(some (C (w64 (v1047+1)))))))else(some (o (o ())))) F ((0:Int))).bind fun v787=>J (fun v788=>some (v788)) (fun v789=>(bif Qc a.2.1 YG then(some (decide (a.2.2.2.2.2.2.2.1<a.2.2.2.2.2.2.1)))else(some (false))).bind fun v790=>bif v790 then(some ((11:Int)))else(((X1 F (v785,(97:Int))).bind fun v792=>bif !v792 then(bif !Qc a.2.2.1 YC then(some (true))else(Qos F a v785))else(Qos F a v785)).bind fun v791=>bif v791 then(some ((1:Int)))else(some ((0:Int))))) (v787)))
def Zqv(F:Nat):PC:={ats:=Ky,rts:=Zp,code:=c24 F}
theorem Yai(F:Nat):Qg cx 24 (Zqv F):=qE (Zoj F) (Q7 4 (.two (.two .leaf (.one (.loop ⟨[.slot 4 (.val (.int .i64))],[]⟩ [(.ret,⟨[.slot 2 (.val (.int .i64))],[]⟩),(.exit 0,⟨[],[]⟩)] ⟨[20,21,22,23,24,5,27,2,26,25,4,19,18,17,16,15,14],[],[]⟩ F .leaf))) (.two (.two (.join [(.normal,⟨[.slot 37 (.val (.bool))],[]⟩)] ⟨(kD 37 10 []),[],[]⟩ .leaf) .leaf) (.two (.two (.join [(.normal,⟨[.slot 117 (.val (.bool))],[]⟩)] ⟨(kD 117 80 []),[],[]⟩ .leaf) .leaf) .leaf)))) f24 (by kernel_rfl) fun a=>by kernel_rfl
def Yio(F:Nat):LK:=lN
def c40(F:Nat)(a:(Ql)×ByteArray):Option (Int):=
 (Qw (O:=Int) (β:=Int ⊕ Unit) (fun v13=>bif decide (v13<(↑(a.1.2.1.length):Int))then(gd (decide (0<=v13)) (gd (decide (v13<(↑(a.1.2.1.length):Int))) (gd (decide (v13.toNat<a.1.2.1.length)) (bif Qc (a.1.2.1.getD (v13.toNat) Zw).1 a.2 then(some (o (C v13)))else(some (C (w64 (v13+1))))))))else(some (o (o ())))) F ((0:Int))).bind fun v10=>J (fun v11=>some (v11)) (fun v12=>some ((-1:Int))) (v10)
def Zvs(F:Nat):PC:={ats:=Qfr,rts:=Zp,code:=c40 F}
theorem V2(F:Nat):Qg cx 40 (Zvs F):=qE (Yio F) (.two .leaf (.two (.two .leaf (.one (.loop ⟨[.slot 5 (.val (.int .i64))],[]⟩ [(.ret,⟨[.slot 4 (.val (.int .i64))],[]⟩),(.exit 0,⟨[],[]⟩)] ⟨(kU 13 8 (4::21::5::kD 12 7 [])),[],[]⟩ F .leaf))) .leaf)) f40 (by kernel_rfl) fun a=>by kernel_rfl
def Zwf(F:Nat):LK:=lN
def c53(F:Nat)(a:(Ql)×ByteArray×ByteArray):Option (Int):=
 (Qw (O:=Int) (β:=Int ⊕ Unit) (fun v15=>bif decide (v15<(↑(a.1.2.2.2.1.length):Int))then((gd (decide (0<=v15)) (gd (decide (v15<(↑(a.1.2.2.2.1.length):Int))) (gd (decide (v15.toNat<a.1.2.2.2.1.length)) (bif Qc (a.1.2.2.2.1.getD (v15.toNat) Q8).1 a.2.1 then(gd (decide (0<=v15)) (gd (decide (v15<(↑(a.1.2.2.2.1.length):Int))) (gd (decide (v15.toNat<a.1.2.2.2.1.length)) (some (Qc (a.1.2.2.2.1.getD (v15.toNat) Q8).2.1 a.2.2)))))else(some (false)))))).bind fun v16=>bif v16 then(some (o (C v15)))else(some (C (w64 (v15+1)))))else(some (o (o ())))) F ((0:Int))).bind fun v12=>J (fun v13=>some (v13)) (fun v14=>some ((-1:Int))) (v12)
def Yjc(F:Nat):PC:={ats:=Qkk,rts:=Zp,code:=c53 F}
theorem Qbd(F:Nat):Qg cx 53 (Yjc F):=qE (Zwf F) (.two .leaf (.two (.two .leaf (.one (.loop ⟨[.slot 7 (.val (.int .i64))],[]⟩ [(.ret,⟨[.slot 6 (.val (.int .i64))],[]⟩),(.exit 0,⟨[],[]⟩)] ⟨(kU 15 18 (6::33::7::kD 14 7 [])),[],[]⟩ F (.two .leaf (.two (.one (.two (.join [(.normal,⟨[.slot 32 (.val (.bool))],[]⟩)] ⟨(kD 32 18 []),[],[]⟩ .leaf) .leaf)) .leaf))))) .leaf)) f53 (by kernel_rfl) fun a=>by kernel_rfl
def Yl0(F:Nat):LK:=lN
def c54(F:Nat)(a:List ByteArray×ByteArray):Option (Bool):=
 (Qw (O:=Int) (β:=Bool ⊕ Unit) (fun v13=>bif decide (v13<(↑(a.1.length):Int))then(gd (decide (0<=v13)) (gd (decide (v13<(↑(a.1.length):Int))) (gd (decide (v13.toNat<a.1.length)) (bif Qc (a.1.getD (v13.toNat) ZC) a.2 then(some (o (C true)))else(some (C (w64 (v13+1))))))))else(some (o (o ())))) F ((0:Int))).bind fun v10=>J (fun v11=>some (v11)) (fun v12=>some (false)) (v10)
def Yqi(F:Nat):PC:={ats:=Qpu,rts:=Xn,code:=c54 F}
theorem Qrk(F:Nat):Qg cx 54 (Yqi F):=qE (Yl0 F) (.two .leaf (.two (.two .leaf (.one (.loop ⟨[.slot 5 (.val (.int .i64))],[]⟩ [(.ret,⟨[.slot 4 (.val (.bool))],[]⟩),(.exit 0,⟨[],[]⟩)] ⟨(kU 12 6 (4::5::kD 11 6 [])),[],[]⟩ F .leaf))) .leaf)) f54 (by kernel_rfl) fun a=>by kernel_rfl
def Ydu(F:Nat):LK:=lN
def Qji(F:Nat)(a:(Ql)×ByteArray×ByteArray):Option (Int):=
 (Qw (O:=Int) (β:=Int ⊕ Unit) (fun v15=>bif decide (v15<(↑(a.1.2.2.2.2.length):Int))then((gd (decide (0<=v15)) (gd (decide (v15<(↑(a.1.2.2.2.2.length):Int))) (gd (decide (v15.toNat<a.1.2.2.2.2.length)) (bif Qc (a.1.2.2.2.2.getD (v15.toNat) YO).1 a.2.1 then(gd (decide (0<=v15)) (gd (decide (v15<(↑(a.1.2.2.2.2.length):Int))) (gd (decide (v15.toNat<a.1.2.2.2.2.length)) (some (Qc (a.1.2.2.2.2.getD (v15.toNat) YO).2.1 a.2.2)))))else(some (false)))))).bind fun v16=>bif v16 then(some (o (C v15)))else(some (C (w64 (v15+1)))))else(some (o (o ())))) F ((0:Int))).bind fun v12=>J (fun v13=>some (v13)) (fun v14=>some ((-1:Int))) (v12)
def Yb7(F:Nat):PC:={ats:=Qkk,rts:=Zp,code:=Qji F}
theorem Qdu(F:Nat):Qg cx 145 (Yb7 F):=qE (Ydu F) (.two .leaf (.two (.two .leaf (.one (.loop ⟨[.slot 7 (.val (.int .i64))],[]⟩ [(.ret,⟨[.slot 6 (.val (.int .i64))],[]⟩),(.exit 0,⟨[],[]⟩)] ⟨(kU 15 18 (6::33::7::kD 14 7 [])),[],[]⟩ F (.two .leaf (.two (.one (.two (.join [(.normal,⟨[.slot 32 (.val (.bool))],[]⟩)] ⟨(kD 32 18 []),[],[]⟩ .leaf) .leaf)) .leaf))))) .leaf)) f145 (by kernel_rfl) fun a=>by kernel_rfl
def Zzq(F:Nat):LK:=lC (Z9 F) lN
def c87(F:Nat)(a:Int×Int):Option (Int):=
 (bif decide (a.1<0)then(some ((3:Int)))else((Qm F (decide (a.2<a.1),(3:Int))).bind fun v9=>some (v9))).bind fun v8=>some (v8)
def Yrd(F:Nat):PC:={ats:=Qni,rts:=Zp,code:=c87 F}
theorem Zj4(F:Nat):Qg cx 87 (Yrd F):=qE (Zzq F) (.two .leaf (.two (.join [(.normal,⟨[.slot 4 (.val (.int .i64))],[]⟩)] ⟨(4::kD 12 8 []),[],[]⟩ .leaf) .leaf)) f87 (by kernel_rfl) fun a=>by kernel_rfl
def Ybj(F:Nat):LK:=lN
def Vb(F:Nat)(a:List Int):Option (Int):=
 (Qw (O:=Int) (β:=Int ⊕ Unit) (fun v13=>bif decide (v13<(↑(a.length):Int))then(gd (decide (0<=v13)) (gd (decide (v13<(↑(a.length):Int))) (gd (decide (v13.toNat<a.length)) (bif !decide (a.getD (v13.toNat) (0:Int)=(0:Int))then(some (o (C (a.getD (v13.toNat) (0:Int)))))else(some (C (w64 (v13+1))))))))else(some (o (o ())))) F ((0:Int))).bind fun v10=>J (fun v11=>some (v11)) (fun v12=>some ((0:Int))) (v10)
def Yov(F:Nat):PC:={ats:=[.val (.seq kt6)],rts:=Zp,code:=Vb F}
theorem Zhv(F:Nat):Qg cx 175 (Yov F):=qE (Ybj F) (.two .leaf (.two (.two .leaf (.one (.loop ⟨[.slot 7 (.val (.int .i64))],[]⟩ [(.ret,⟨[.slot 2 (.val (.int .i64))],[]⟩),(.exit 0,⟨[],[]⟩)] ⟨[14,7,11,12,2,13,4,10,9,8],[],[]⟩ F .leaf))) .leaf)) f175 (by kernel_rfl) fun a=>by kernel_rfl
def Zod(F:Nat):LK:=lN
def Jk(F:Nat)(a:Bool×Int):Option (Int):=
 bif a.1 then(some a.2)else(some ((0:Int)))
def Ydm(F:Nat):PC:={ats:=Qy1,rts:=Zp,code:=Jk F}
theorem Zl5(F:Nat):Qg cx 176 (Ydm F):=qE (Zod F) .leaf f176 (by kernel_rfl) fun a=>by kernel_rfl
def Zvi(F:Nat):LK:=lN
def Qqj(F:Nat)(a:List ByteArray×ByteArray):Option (Int):=
 (Qw (O:=Int) (β:=Int ⊕ Unit) (fun v13=>bif decide (v13<(↑(a.1.length):Int))then(gd (decide (0<=v13)) (gd (decide (v13<(↑(a.1.length):Int))) (gd (decide (v13.toNat<a.1.length)) (bif Qc a.2 (a.1.getD (v13.toNat) ZC)then(some (o (C v13)))else(some (C (w64 (v13+1))))))))else(some (o (o ())))) F ((0:Int))).bind fun v10=>J (fun v11=>some (v11)) (fun v12=>some ((-1:Int))) (v10)
def Yk4(F:Nat):PC:={ats:=Qpu,rts:=Zp,code:=Qqj F}
theorem Zp5(F:Nat):Qg cx 183 (Yk4 F):=qE (Zvi F) (.two .leaf (.two (.two .leaf (.one (.loop ⟨[.slot 8 (.val (.int .i64))],[]⟩ [(.ret,⟨[.slot 4 (.val (.int .i64))],[]⟩),(.exit 0,⟨[],[]⟩)] ⟨[18,8,11,12,13,14,15,16,4,17,5,10,9],[],[]⟩ F .leaf))) .leaf)) f183 (by kernel_rfl) fun a=>by kernel_rfl
def Yhp(F:Nat):LK:=lC (Zp5 F) lN
def Vv(F:Nat)(a:List ByteArray×ByteArray):Option (Bool):=
 (Qqj F a).bind fun v5=>some (decide (0<=v5))
def Zrb(F:Nat):PC:={ats:=Qpu,rts:=Xn,code:=Vv F}
theorem Wf(F:Nat):Qg cx 107 (Zrb F):=qE (Yhp F) .leaf f107 (by kernel_rfl) fun a=>by kernel_rfl
def Yd1(F:Nat):LK:=lC (Wf F) lN
def Qm9(F:Nat)(a:ByteArray):Option (Bool):=
 (Vv F (YS::YT::YU::YR::Qa ByteArray,a)).bind fun v5=>some (v5)
def Ztu(F:Nat):PC:={ats:=Um,rts:=Xn,code:=Qm9 F}
theorem Yjb(F:Nat):Qg cx 177 (Ztu F):=qE (Yd1 F) .leaf f177 (by kernel_rfl) fun a=>by kernel_rfl
def Zp3(F:Nat):LK:=lN
def U0(F:Nat)(a:Int×Int×Int):Option (Bool):=
 (bif decide (a.1<a.2.1)then(some (true))else(some (decide (a.2.2<a.1)))).bind fun v5=>some (v5)
def Zz3(F:Nat):PC:={ats:=Ze6,rts:=Xn,code:=U0 F}
theorem Zng(F:Nat):Qg cx 179 (Zz3 F):=qE (Zp3 F) (.two .leaf (.two (.join [(.normal,⟨[.slot 6 (.val (.bool))],[]⟩)] ⟨(6::kD 14 8 []),[],[]⟩ .leaf) .leaf)) f179 (by kernel_rfl) fun a=>by kernel_rfl
def Yr9(F:Nat):LK:=lC (Zng F) (lC (Yjb F) (lC (Zl5 F) (lC (Zhv F) lN)))
def c99(F:Nat)(a:ByteArray×Int×ByteArray):Option (Int):=
 bif Qc a.1 YM then((Qm9 F a.2.2).bind fun v66=>(Jk F (!v66,(1:Int))).bind fun v67=>(Jk F (!decide (a.2.1=0),(3:Int))).bind fun v68=>(Vb F (v67::v68::Qa Int)).bind fun v69=>some (v69))else((bif Qc a.1 YK then((Jk F (!Qc a.2.2 YC,(1:Int))).bind fun v88=>(U0 F (a.2.1,(1:Int),(863999999:Int))).bind fun v89=>(Jk F (v89,(3:Int))).bind fun v90=>(Vb F ((0:Int)::v88::v90::Qa Int)).bind fun v91=>some (v91))else(bif Qc a.1 YL then((Jk F (!Qc a.2.2 YC,(1:Int))).bind fun v92=>(U0 F (a.2.1,(0:Int),(999999:Int))).bind fun v93=>(Jk F (v93,(3:Int))).bind fun v94=>(Vb F ((0:Int)::v92::v94::Qa Int)).bind fun v95=>some (v95))else(bif Qc a.1 YN then((Jk F (!Qc a.2.2 YC,(1:Int))).bind fun v96=>(U0 F (a.2.1,(0:Int),(99999:Int))).bind fun v97=>(Jk F (v97,(3:Int))).bind fun v98=>(Vb F ((0:Int)::v96::v98::Qa Int)).bind fun v99=>some (v99))else((Jk F (!Qc a.2.2 YC,(1:Int))).bind fun v100=>(U0 F (a.2.1,(0:Int),(0:Int))).bind fun v101=>(Jk F (v101,(3:Int))).bind fun v102=>(Vb F ((13:Int)::v100::v102::Qa Int)).bind fun v103=>some (v103))))).bind fun v70=>(bif Qc a.1 YK then((Jk F (!Qc a.2.2 YC,(1:Int))).bind fun v72=>(U0 F (a.2.1,(1:Int),(863999999:Int))).bind fun v73=>(Jk F (v73,(3:Int))).bind fun v74=>(Vb F ((0:Int)::v72::v74::Qa Int)).bind fun v75=>some (v75))else(bif Qc a.1 YL then((Jk F (!Qc a.2.2 YC,(1:Int))).bind fun v76=>(U0 F (a.2.1,(0:Int),(999999:Int))).bind fun v77=>(Jk F (v77,(3:Int))).bind fun v78=>(Vb F ((0:Int)::v76::v78::Qa Int)).bind fun v79=>some (v79))else(bif Qc a.1 YN then((Jk F (!Qc a.2.2 YC,(1:Int))).bind fun v80=>(U0 F (a.2.1,(0:Int),(99999:Int))).bind fun v81=>(Jk F (v81,(3:Int))).bind fun v82=>(Vb F ((0:Int)::v80::v82::Qa Int)).bind fun v83=>some (v83))else((Jk F (!Qc a.2.2 YC,(1:Int))).bind fun v84=>(U0 F (a.2.1,(0:Int),(0:Int))).bind fun v85=>(Jk F (v85,(3:Int))).bind fun v86=>(Vb F ((13:Int)::v84::v86::Qa Int)).bind fun v87=>some (v87))))).bind fun v71=>gd (Qt.eqv (Qe.val (Ty.int I)::Qa Qe) v70 v71) (some (v70)))
def Qrf(F:Nat):PC:={ats:=[.agg kt7],rts:=Zp,code:=c99 F}
theorem Vh(F:Nat):Qg cx 99 (Qrf F):=qE (Yr9 F) (Q7 2 (.two (.within [(178,.leaf)]) .leaf)) f99 (by kernel_rfl) fun a=>by kernel_rfl
def Yob(F:Nat):LK:=lN
def Jm(F:Nat)(a:(Yj)×ByteArray×Int×ByteArray):Option (Bool):=
 (bif Qc a.2.1 a.1.2.1 then(some (true))else(some (Qc a.2.1 YM))).bind fun v5=>some (v5)
def Zuq(F:Nat):PC:={ats:=[.agg kt4,.agg kt7],rts:=Xn,code:=Jm F}
theorem Qrm(F:Nat):Qg cx 155 (Zuq F):=qE (Yob F) (.two .leaf (.two (.join [(.normal,⟨[.slot 4 (.val (.bool))],[]⟩)] ⟨(4::kD 14 10 []),[],[]⟩ .leaf) .leaf)) f155 (by kernel_rfl) fun a=>by kernel_rfl
def Zx3(F:Nat):LK:=lC (Wf F) (lC (Z9 F) (lC (Vz F) (lC (Zj4 F) (lC (Yh F) (lC (Qrm F) (lC (Vh F) lN))))))
def c93(F:Nat)(a:Yj):Option (Int):=
 ((Vv F (YK::YL::YN::Qa ByteArray,a.2.1)).bind fun v63=>(Qm F (!v63,(13:Int))).bind fun v64=>bif !Qc a.2.2.1 YC then((c98 F a.2.2.1).bind fun v65=>(Qm F (!v65,(8:Int))).bind fun v66=>(c87 F (a.2.2.2.1,(120:Int))).bind fun v67=>(c87 F (a.2.2.2.2.1,(120:Int))).bind fun v68=>(Qm F (decide (a.2.2.2.2.1<a.2.2.2.1),(11:Int))).bind fun v69=>(Q4 F (v64::v66::v67::v68::v69::Qa Int)).bind fun v70=>some (v70))else((c87 F (a.2.2.2.1,(120:Int))).bind fun v71=>(c87 F (a.2.2.2.2.1,(120:Int))).bind fun v72=>(Qm F (decide (a.2.2.2.2.1<a.2.2.2.1),(11:Int))).bind fun v73=>(Q4 F (v64::(0:Int)::v71::v72::v73::Qa Int)).bind fun v74=>some (v74))).bind fun v55=>bif !decide (v55=0)then(some (v55))else((c87 F (a.2.2.2.2.2.1,(160:Int))).bind fun v56=>(c87 F (a.2.2.2.2.2.2.1,(160:Int))).bind fun v57=>(c87 F (a.2.2.2.2.2.2.2.2.2.2,(8:Int))).bind fun v58=>(c99 F (a.2.2.2.2.2.2.2.1,a.2.2.2.2.2.2.2.2.1,a.2.2.2.2.2.2.2.2.2.1)).bind fun v59=>(Jm F (a,a.2.2.2.2.2.2.2.1,a.2.2.2.2.2.2.2.2.1,a.2.2.2.2.2.2.2.2.2.1)).bind fun v60=>(Qm F (!v60,(13:Int))).bind fun v61=>(Q4 F (v56::v57::v58::v59::v61::Qa Int)).bind fun v62=>some (v62))
def Yji(F:Nat):PC:={ats:=[.agg kt4],rts:=Zp,code:=c93 F}
theorem Qwf(F:Nat):Qg cx 93 (Yji F):=qE (Zx3 F) (Q7 2 (.two (.two (.join [(.normal,⟨[.slot 4 (.val (.int .i64))],[]⟩)] ⟨(4::kD 35 30 []),[],[]⟩ .leaf) .leaf) .leaf)) f93 (by kernel_rfl) fun a=>by kernel_rfl
def Zrx:Qk:=⟨[.slot 0 (.agg kt4),.one 0 110 kt4],[(1,.stat (.ptr 0 11 0 0))]⟩
def Yn2:Qk:=⟨[.slot 0 (.val (.bool))],[]⟩
def Ya6(F:Nat):LK:=lN
def Yc8(F:Nat):PX:=qX (Ya6 F) .leaf f91 (pxB 2 [.arg 1] Zrx 1 Yn2 [] [])
theorem Qlh(F:Nat):Zk cx 91 (Yc8 F):=Vq (by kernel_rfl)
def Ykn:Qk:=⟨[.slot 0 (.val (.seq kt4)),.one 0 110 kt4],[(1,.stat (.fn (.func 91) [] [.ptr 0 11 0 0]))]⟩
def Zvj:Qk:=⟨[.slot 0 (.val (.int .i64))],[]⟩
def Yf4(F:Nat):LK:=lX (Qlh F) lN
def Qra(F:Nat)(a:List (Yj)×Yj):Option (Int):=
 (Qw (O:=Int) (β:=Int ⊕ Unit) (fun v13=>bif decide (v13<(↑(a.1.length):Int))then(gd (decide (0<=v13)) (gd (decide (v13<(↑(a.1.length):Int))) (gd (decide (v13.toNat<a.1.length)) (bif Qc (a.1.getD (v13.toNat) Zd).1 a.2.1 then(some (o (C v13)))else(some (C (w64 (v13+1))))))))else(some (o (o ())))) F ((0:Int))).bind fun v10=>J (fun v11=>some (v11)) (fun v12=>some ((-1:Int))) (v10)
def Ygs(F:Nat):PX:={np:=2,locs:=[.cap (.arg 1) 0],τ:=Ykn,nr:=1,ω:=Zvj,ids:=[],mv:=[],code:=Qra F}
theorem Qjz(F:Nat):Zk cx 154 (Ygs F):=Yi (Yf4 F) (.two .leaf (.two (.two .leaf (.one (.loop ⟨[.slot 8 (.val (.int .i64))],[]⟩ [(.ret,⟨[.slot 4 (.val (.int .i64))],[]⟩),(.exit 0,⟨[],[]⟩)] ⟨[18,8,11,12,13,14,15,16,4,17,5,10,9],[],[]⟩ F .leaf))) .leaf)) f154 (by kernel_rfl) fun a=>by kernel_rfl
def Zub:Qk:=⟨[.slot 0 (.val (.seq kt4)),.one 0 110 kt4],[(1,.stat (.fn (.func 91) [] [.ptr 0 11 0 0]))]⟩
def Yhq:Qk:=⟨[.slot 0 (.val (.bool))],[]⟩
def Ybh(F:Nat):LK:=lX (Qlh F) (lX (Qjz F) lN)
def Qp5(F:Nat)(a:List (Yj)×Yj):Option (Bool):=
 (Qra F a).bind fun v5=>some (decide (0<=v5))
def Zuf(F:Nat):PX:={np:=2,locs:=[.cap (.arg 1) 0],τ:=Zub,nr:=1,ω:=Yhq,ids:=[],mv:=[],code:=Qp5 F}
theorem Qte(F:Nat):Zk cx 90 (Zuf F):=Yi (Ybh F) .leaf f90 (by kernel_rfl) fun a=>by kernel_rfl
def Zro:Qk:=⟨[.slot 0 (.val (.int .i64)),.slot 1 (.agg kt4),.one 0 24 Xs],[(2,.stat (.ptr 0 5 0 0))]⟩
def Zv5:Qk:=⟨[.slot 0 (.val (.int .i64))],[]⟩
def Zva(F:Nat):LK:=lC (V6 F) (lC (Z9 F) (lC (Qwf F) (lC (Yh F) (lX (Qlh F) (lX (Qjz F) (lX (Qte F) lN))))))
def Qob(F:Nat)(a:Int×(Yj)×Zs):Option (Int):=
 gd (decide (0<=a.1)) (gd (decide (a.1<=(↑(a.2.2.2.2.2.2.length):Int))) ((Qp5 F (List.drop (0:Nat) (List.take (a.1.toNat) a.2.2.2.2.2.2),a.2.1.1,a.2.1.2.1,a.2.1.2.2.1,a.2.1.2.2.2.1,a.2.1.2.2.2.2.1,a.2.1.2.2.2.2.2.1,a.2.1.2.2.2.2.2.2.1,a.2.1.2.2.2.2.2.2.2.1,a.2.1.2.2.2.2.2.2.2.2.1,a.2.1.2.2.2.2.2.2.2.2.2.1,a.2.1.2.2.2.2.2.2.2.2.2.2)).bind fun v13=>(c92 F a.2.1.1).bind fun v14=>(Qm F (v13,(9:Int))).bind fun v15=>(c93 F a.2.1).bind fun v16=>(Q4 F (v14::v15::v16::Qa Int)).bind fun v17=>some (v17)))
def Ygf(F:Nat):PX:={np:=3,locs:=[.arg 2],τ:=Zro,nr:=1,ω:=Zv5,ids:=[],mv:=[],code:=Qob F}
theorem Zkp(F:Nat):Zk cx 89 (Ygf F):=Yi (Zva F) .leaf f89 (by kernel_rfl) fun a=>by kernel_rfl
def Zqe:Qk:=⟨[.slot 0 (.val (.seq kt4)),.one 0 24 Xs],[(1,.stat (.fn (.func 89) [] [.ptr 0 5 0 0]))]⟩
def Yso:Qk:=⟨[.slot 0 (.val (.int .i64))],[]⟩
def Yhm(F:Nat):LK:=lC (V6 F) (lC (Z9 F) (lC (Qwf F) (lC (Yh F) (lX (Qlh F) (lX (Qjz F) (lX (Qte F) (lX (Zkp F) lN)))))))
def Qpq(F:Nat)(a:List (Yj)×Zs):Option (Int):=
 (Qw (O:=Int) (β:=Int ⊕ Unit) (fun v15=>bif decide (v15<(↑(a.1.length):Int))then(gd (decide (0<=v15)) (gd (decide (v15<(↑(a.1.length):Int))) (gd (decide (v15.toNat<a.1.length)) ((Qob F (v15,(a.1.getD (v15.toNat) Zd),a.2.1,a.2.2.1,a.2.2.2.1,a.2.2.2.2.1,a.2.2.2.2.2)).bind fun v16=>bif !decide (v16=0)then(some (o (C v16)))else(some (C (w64 (v15+1))))))))else(some (o (o ())))) F ((0:Int))).bind fun v12=>J (fun v13=>some (v13)) (fun v14=>some ((0:Int))) (v12)
def Ydw(F:Nat):PX:={np:=2,locs:=[.cap (.arg 1) 0],τ:=Zqe,nr:=1,ω:=Yso,ids:=[],mv:=[],code:=Qpq F}
theorem Yfz(F:Nat):Zk cx 88 (Ydw F):=Yi (Yhm F) (.two .leaf (.two (.two .leaf (.one (.loop ⟨[.slot 10 (.val (.int .i64))],[]⟩ [(.ret,⟨[.slot 4 (.val (.int .i64))],[]⟩),(.exit 0,⟨[],[]⟩)] ⟨[22,10,15,16,17,18,7,21,4,20,19,5,6,14,13,12,11],[],[]⟩ F .leaf))) .leaf)) f88 (by kernel_rfl) fun a=>by kernel_rfl
def Yoh(F:Nat):LK:=lC (V6 F) (lC (Qwf F) (lC (Yh F) (lC (Zj4 F) (lC (Z9 F) (lC (Wy F) (lX (Qlh F) (lX (Qjz F) (lX (Qte F) (lX (Zkp F) (lX (Yfz F) lN))))))))))
def c21(F:Nat)(a:Zs):Option (Int):=
 ((Yf F (a.1::a.2.1::a.2.2.1::Qa Int)).bind fun v33=>bif decide (a.2.2.1<a.2.1)then((c87 F (a.2.2.2.1,(32:Int))).bind fun v34=>(Qm F (decide (32<(↑(a.2.2.2.2.length):Int)),(5:Int))).bind fun v35=>(Q4 F (v33::(11:Int)::v34::v35::Qa Int)).bind fun v36=>some (v36))else((Qm F (decide (a.1<a.2.2.1),(11:Int))).bind fun v37=>(c87 F (a.2.2.2.1,(32:Int))).bind fun v38=>(Qm F (decide (32<(↑(a.2.2.2.2.length):Int)),(5:Int))).bind fun v39=>(Q4 F (v33::v37::v38::v39::Qa Int)).bind fun v40=>some (v40))).bind fun v31=>bif !decide (v31=0)then(some (v31))else((Qpq F (a.2.2.2.2,a.1,a.2.1,a.2.2.1,a.2.2.2.1,a.2.2.2.2)).bind fun v32=>some (v32))
def Qvm(F:Nat):PC:={ats:=[.agg Xs],rts:=Zp,code:=c21 F}
theorem Qrc(F:Nat):Qg cx 21 (Qvm F):=qE (Yoh F) (.two .leaf (.two (.two (.join [(.normal,⟨[.slot 3 (.val (.int .i64))],[]⟩)] ⟨(3::kD 34 31 []),[],[]⟩ .leaf) .leaf) .leaf)) f21 (by kernel_rfl) fun a=>by kernel_rfl
def Yg1(F:Nat):LK:=lN
def Qt0(F:Nat):PC:=qT (Yg1 F) .leaf f105 Ki Xn
theorem Qt4(F:Nat):Qg cx 105 (Qt0 F):=Qci (by kernel_rfl)
def Yee:Qk:=⟨[.slot 0 (.agg kt4),.one 0 9 Ze],[(1,.stat (.ptr 0 1 0 0))]⟩
def Ypx:Qk:=⟨[.slot 0 (.val (.bool))],[]⟩
def Zws(F:Nat):LK:=lN
def Yem(F:Nat):PX:=qX (Zws F) .leaf f195 (pxB 2 [.arg 1] Yee 1 Ypx [] [])
theorem Zcu(F:Nat):Zk cx 195 (Yem F):=Vq (by kernel_rfl)
def Ya7:Qk:=⟨[.slot 0 (.val (.seq kt4)),.one 0 9 Ze],[(1,.stat (.fn (.func 195) [] [.ptr 0 1 0 0]))]⟩
def Yd0:Qk:=⟨[.slot 0 (.val (.int .i64))],[]⟩
def Ynv(F:Nat):LK:=lX (Zcu F) lN
def Qnp(F:Nat)(a:List (Yj)×ByteArray):Option (Int):=
 (Qw (O:=Int) (β:=Int ⊕ Unit) (fun v13=>bif decide (v13<(↑(a.1.length):Int))then(gd (decide (0<=v13)) (gd (decide (v13<(↑(a.1.length):Int))) (gd (decide (v13.toNat<a.1.length)) (bif Qc (a.1.getD (v13.toNat) Zd).1 a.2 then(some (o (C v13)))else(some (C (w64 (v13+1))))))))else(some (o (o ())))) F ((0:Int))).bind fun v10=>J (fun v11=>some (v11)) (fun v12=>some ((-1:Int))) (v10)
def Zuy(F:Nat):PX:={np:=2,locs:=[.cap (.arg 1) 0],τ:=Ya7,nr:=1,ω:=Yd0,ids:=[],mv:=[],code:=Qnp F}
theorem Zz4(F:Nat):Zk cx 154 (Zuy F):=Yi (Ynv F) (.two .leaf (.two (.two .leaf (.one (.loop ⟨[.slot 8 (.val (.int .i64))],[]⟩ [(.ret,⟨[.slot 4 (.val (.int .i64))],[]⟩),(.exit 0,⟨[],[]⟩)] ⟨[18,8,11,12,13,14,15,16,4,17,5,10,9],[],[]⟩ F .leaf))) .leaf)) f154 (by kernel_rfl) fun a=>by kernel_rfl
def Ym9(F:Nat):LK:=lX (Qjz F) (lX (Zcu F) (lX (Zz4 F) lN))
def Qai(F:Nat)(a:(Zs)×ByteArray):Option ((Yj)×Bool):=
 (Qnp F (a.1.2.2.2.2,a.2)).bind fun v5=>bif decide (v5<0)then(some (((YC,YC,YC,(0:Int),(0:Int),(0:Int),(0:Int),YC,(0:Int),YC,(0:Int)),false)))else(gd (decide (0<=v5)) (gd (decide (v5<(↑(a.1.2.2.2.2.length):Int))) (gd (decide (v5.toNat<a.1.2.2.2.2.length)) (some (((a.1.2.2.2.2.getD (v5.toNat) Zd),true))))))
def Zc3(F:Nat):PC:={ats:=[.agg Xs,.val (.str)],rts:=[.agg kt4,.val (.bool)],code:=Qai F}
theorem Qcc(F:Nat):Qg cx 131 (Zc3 F):=qE (Ym9 F) .leaf f131 (by kernel_rfl) fun a=>by kernel_rfl
def Zo1:Qk:=⟨[.slot 0 (.agg kt3),.one 0 9 Ze],[(1,.stat (.ptr 0 1 0 0))]⟩
def Yq9:Qk:=⟨[.slot 0 (.val (.bool))],[]⟩
def Znu(F:Nat):LK:=lN
def Ybk(F:Nat):PX:=qX (Znu F) .leaf f185 (pxB 2 [.arg 1] Zo1 1 Yq9 [] [])
theorem Zh8(F:Nat):Zk cx 185 (Ybk F):=Vq (by kernel_rfl)
def Ygm:Qk:=⟨[.slot 0 (.val (.seq kt3)),.one 0 9 Ze],[(1,.stat (.fn (.func 185) [] [.ptr 0 1 0 0]))]⟩
def Yre:Qk:=⟨[.slot 0 (.val (.int .i64))],[]⟩
def Zvr(F:Nat):LK:=lX (Zh8 F) lN
def Qpt(F:Nat)(a:List (Qz)×ByteArray):Option (Int):=
 (Qw (O:=Int) (β:=Int ⊕ Unit) (fun v13=>bif decide (v13<(↑(a.1.length):Int))then(gd (decide (0<=v13)) (gd (decide (v13<(↑(a.1.length):Int))) (gd (decide (v13.toNat<a.1.length)) (bif Qc (a.1.getD (v13.toNat) Zw).1 a.2 then(some (o (C v13)))else(some (C (w64 (v13+1))))))))else(some (o (o ())))) F ((0:Int))).bind fun v10=>J (fun v11=>some (v11)) (fun v12=>some ((-1:Int))) (v10)
def Yhb(F:Nat):PX:={np:=2,locs:=[.cap (.arg 1) 0],τ:=Ygm,nr:=1,ω:=Yre,ids:=[],mv:=[],code:=Qpt F}
theorem Qtw(F:Nat):Zk cx 184 (Yhb F):=Yi (Zvr F) (.two .leaf (.two (.two .leaf (.one (.loop ⟨[.slot 8 (.val (.int .i64))],[]⟩ [(.ret,⟨[.slot 4 (.val (.int .i64))],[]⟩),(.exit 0,⟨[],[]⟩)] ⟨[18,8,11,12,13,14,15,16,4,17,5,10,9],[],[]⟩ F .leaf))) .leaf)) f184 (by kernel_rfl) fun a=>by kernel_rfl
def Yq7(F:Nat):LK:=lX (Zh8 F) (lX (Qtw F) lN)
def Jx(F:Nat)(a:(Ql)×ByteArray):Option (Int):=
 (Qpt F (a.1.2.1,a.2)).bind fun v5=>some (v5)
def Zld(F:Nat):PC:={ats:=Qfr,rts:=Zp,code:=Jx F}
theorem Xu(F:Nat):Qg cx 110 (Zld F):=qE (Yq7 F) .leaf f110 (by kernel_rfl) fun a=>by kernel_rfl
def Ysm:Qk:=⟨[.slot 0 (.agg kt9),.one 0 9 Ze,.one 1 9 Ze],[(1,.stat (.ptr 0 1 0 0)),(2,.stat (.ptr 1 1 0 0))]⟩
def Yoq:Qk:=⟨[.slot 0 (.val (.bool))],[]⟩
def Yq4(F:Nat):LK:=lN
def Qqq(F:Nat)(a:(Zc)×ByteArray×ByteArray):Option (Bool):=
 (bif Qc a.1.1 a.2.1 then(some (Qc a.1.2.1 a.2.2))else(some (false))).bind fun v5=>some (v5)
def Zwq(F:Nat):PX:={np:=3,locs:=[.arg 1,.arg 2],τ:=Ysm,nr:=1,ω:=Yoq,ids:=[],mv:=[],code:=Qqq F}
theorem Zj8(F:Nat):Zk cx 226 (Zwq F):=Yi (Yq4 F) (.two .leaf (.two (.join [(.normal,⟨[.slot 4 (.val (.bool))],[]⟩)] ⟨(4::kD 14 10 []),[],[]⟩ .leaf) .leaf)) f226 (by kernel_rfl) fun a=>by kernel_rfl
def Yp7:Qk:=⟨[.slot 0 (.val (.seq kt9)),.one 0 9 Ze,.one 1 9 Ze],[(1,.stat (.fn (.func 226) [] [.ptr 0 1 0 0,.ptr 1 1 0 0]))]⟩
def Yn9:Qk:=⟨[.slot 0 (.val (.int .i64))],[]⟩
def Zqo(F:Nat):LK:=lX (Zj8 F) lN
def Qna(F:Nat)(a:List (Zc)×ByteArray×ByteArray):Option (Int):=
 (Qw (O:=Int) (β:=Int ⊕ Unit) (fun v15=>bif decide (v15<(↑(a.1.length):Int))then(gd (decide (0<=v15)) (gd (decide (v15<(↑(a.1.length):Int))) (gd (decide (v15.toNat<a.1.length)) ((Qqq F ((a.1.getD (v15.toNat) YO),a.2.1,a.2.2)).bind fun v16=>bif v16 then(some (o (C v15)))else(some (C (w64 (v15+1))))))))else(some (o (o ())))) F ((0:Int))).bind fun v12=>J (fun v13=>some (v13)) (fun v14=>some ((-1:Int))) (v12)
def Zud(F:Nat):PX:={np:=2,locs:=[.cap (.arg 1) 0,.cap (.arg 1) 1],τ:=Yp7,nr:=1,ω:=Yn9,ids:=[],mv:=[],code:=Qna F}
theorem Qyd(F:Nat):Zk cx 225 (Zud F):=Yi (Zqo F) (.two .leaf (.two (.two .leaf (.one (.loop ⟨[.slot 8 (.val (.int .i64))],[]⟩ [(.ret,⟨[.slot 4 (.val (.int .i64))],[]⟩),(.exit 0,⟨[],[]⟩)] ⟨[18,8,11,12,13,14,15,16,4,17,5,10,9],[],[]⟩ F .leaf))) .leaf)) f225 (by kernel_rfl) fun a=>by kernel_rfl
def Ygq(F:Nat):LK:=lX (Zj8 F) (lX (Qyd F) lN)
def Qh8(F:Nat)(a:(Ql)×ByteArray×ByteArray):Option (Int):=
 (Qna F (a.1.2.2.2.2,a.2.1,a.2.2)).bind fun v5=>some (v5)
def Qx6(F:Nat):PC:={ats:=Qkk,rts:=Zp,code:=Qh8 F}
theorem Qfe(F:Nat):Qg cx 187 (Qx6 F):=qE (Ygq F) .leaf f187 (by kernel_rfl) fun a=>by kernel_rfl
def Yi8(F:Nat):LK:=lC (Wf F) lN
def Vu(F:Nat)(a:(Ql)×ByteArray):Option (Bool):=
 (Vv F (a.1.1,a.2)).bind fun v5=>some (v5)
def Zah(F:Nat):PC:={ats:=Qfr,rts:=Xn,code:=Vu F}
theorem V8(F:Nat):Qg cx 111 (Zah F):=qE (Yi8 F) .leaf f111 (by kernel_rfl) fun a=>by kernel_rfl
end
end Go.Proofs.Tryz

/- Functions of the program as functions of data. By program. -/
import Derived.Test.YtpkbmngnolhopaaGreatDoorXTeCx
set_option maxRecDepth 100000
set_option linter.all false
namespace Go.Proofs.Tryz
open Go Go.Sx
noncomputable section
def Ztc(F:Nat):LK:=lN
def c98(F:Nat)(a:ByteArray):Option (Bool):=
 (Q5 (σ:=ByteArray×Nat) (β:=(ByteArray×Nat)×Bool ⊕ ByteArray×Nat) (fun(v23:ByteArray×Nat)=>bif decide (v23.2<ByteArray.size v23.1)then(bif decide (97≤(↑(Go.Utf8.decode v23.1 v23.2).1:Int))then(bif decide ((↑(Go.Utf8.decode v23.1 v23.2).1:Int)≤(122:Int))then(some (Sum.inl (v23.1,v23.2+(Go.Utf8.decode v23.1 v23.2).2)))else(bif decide (65≤(↑(Go.Utf8.decode v23.1 v23.2).1:Int))then(bif !decide ((↑(Go.Utf8.decode v23.1 v23.2).1:Int)≤(90:Int))then(bif decide ((↑v23.2:Int)=(0:Int))then(some (Sum.inr (Sum.inl ((v23.1,v23.2+(Go.Utf8.decode v23.1 v23.2).2),false))))else(bif !decide ((↑(Go.Utf8.decode v23.1 v23.2).1:Int)=(95:Int))then(bif decide ((↑(Go.Utf8.decode v23.1 v23.2).1:Int)<(48:Int))then(some (Sum.inr (Sum.inl ((v23.1,v23.2+(Go.Utf8.decode v23.1 v23.2).2),false))))else(bif decide (57<(↑(Go.Utf8.decode v23.1 v23.2).1:Int))then(some (Sum.inr (Sum.inl ((v23.1,v23.2+(Go.Utf8.decode v23.1 v23.2).2),false))))else(some (Sum.inl (v23.1,v23.2+(Go.Utf8.decode v23.1 v23.2).2)))))else(some (Sum.inl (v23.1,v23.2+(Go.Utf8.decode v23.1 v23.2).2)))))else(some (Sum.inl (v23.1,v23.2+(Go.Utf8.decode v23.1 v23.2).2))))else(bif decide ((↑v23.2:Int)=(0:Int))then(some (Sum.inr (Sum.inl ((v23.1,v23.2+(Go.Utf8.decode v23.1 v23.2).2),false))))else(bif !decide ((↑(Go.Utf8.decode v23.1 v23.2).1:Int)=(95:Int))then(bif decide ((↑(Go.Utf8.decode v23.1 v23.2).1:Int)<(48:Int))then(some (Sum.inr (Sum.inl ((v23.1,v23.2+(Go.Utf8.decode v23.1 v23.2).2),false))))else(bif decide (57<(↑(Go.Utf8.decode v23.1 v23.2).1:Int))then(some (Sum.inr (Sum.inl ((v23.1,v23.2+(Go.Utf8.decode v23.1 v23.2).2),false))))else(some (Sum.inl (v23.1,v23.2+(Go.Utf8.decode v23.1 v23.2).2)))))else(some (Sum.inl (v23.1,v23.2+(Go.Utf8.decode v23.1 v23.2).2)))))))else(bif decide (65≤(↑(Go.Utf8.decode v23.1 v23.2).1:Int))then(bif !decide ((↑(Go.Utf8.decode v23.1 v23.2).1:Int)≤(90:Int))then(bif decide ((↑v23.2:Int)=(0:Int))then(some (Sum.inr (Sum.inl ((v23.1,v23.2+(Go.Utf8.decode v23.1 v23.2).2),false))))else(bif !decide ((↑(Go.Utf8.decode v23.1 v23.2).1:Int)=(95:Int))then(bif decide ((↑(Go.Utf8.decode v23.1 v23.2).1:Int)<(48:Int))then(some (Sum.inr (Sum.inl ((v23.1,v23.2+(Go.Utf8.decode v23.1 v23.2).2),false))))else(bif decide (57<(↑(Go.Utf8.decode v23.1 v23.2).1:Int))then(some (Sum.inr (Sum.inl ((v23.1,v23.2+(Go.Utf8.decode v23.1 v23.2).2),false))))else(some (Sum.inl (v23.1,v23.2+(Go.Utf8.decode v23.1 v23.2).2)))))else(some (Sum.inl (v23.1,v23.2+(Go.Utf8.decode v23.1 v23.2).2)))))else(some (Sum.inl (v23.1,v23.2+(Go.Utf8.decode v23.1 v23.2).2))))else(bif decide ((↑v23.2:Int)=(0:Int))then(some (Sum.inr (Sum.inl ((v23.1,v23.2+(Go.Utf8.decode v23.1 v23.2).2),false))))else(bif !decide ((↑(Go.Utf8.decode v23.1 v23.2).1:Int)=(95:Int))then(bif decide ((↑(Go.Utf8.decode v23.1 v23.2).1:Int)<(48:Int))then(some (Sum.inr (Sum.inl ((v23.1,v23.2+(Go.Utf8.decode v23.1 v23.2).2),false))))else(bif decide (57<(↑(Go.Utf8.decode v23.1 v23.2).1:Int))then(some (Sum.inr (Sum.inl ((v23.1,v23.2+(Go.Utf8.decode v23.1 v23.2).2),false))))else(some (Sum.inl (v23.1,v23.2+(Go.Utf8.decode v23.1 v23.2).2)))))else(some (Sum.inl (v23.1,v23.2+(Go.Utf8.decode v23.1 v23.2).2)))))))else(some (Sum.inr (Sum.inr v23)))) F ((a,(0:Nat)))).bind fun(v19:(ByteArray×Nat)×Bool ⊕ ByteArray×Nat)=>Sum.elim (fun(v20:(ByteArray×Nat)×Bool)=>some v20.2) (fun(v21:ByteArray×Nat)=>(bif decide (0<(↑(ByteArray.size a):Int))then(some (decide ((↑(ByteArray.size a):Int)≤(24:Int))))else(some (false))).bind fun(v22:Bool)=>some (v22)) (v19)
def Qph(F:Nat):PC:={ats:=Kn,rts:=Y6,code:=c98 F}
theorem Ve(F:Nat):Qg cx 98 (Qph F):=qE (Ztc F) (.two .leaf (.two (.two .leaf (.one (.loop ⟨[.iter 0],[]⟩ [(.ret,⟨[.iter 0,.slot 2 (.val (.bool))],[]⟩),(.exit 0,⟨[.iter 0],[]⟩)] ⟨(kU 12 14 (5::2::kD 43 18 (4::3::11::10::9::8::[]))),[0],[]⟩ F .leaf))) (.two (.join [(.normal,⟨[.slot 2 (.val (.bool))],[]⟩)] ⟨(2::kD 51 8 []),[],[]⟩ .leaf) .leaf))) f98 (by kernel_rfl) fun a=>by kernel_rfl
def Yiy(F:Nat):LK:=lN
def Ql(F:Nat)(a:Bool×Int):Option (Int):=
 bif a.1 then(some a.2)else(some ((0:Int)))
def Zgo(F:Nat):PC:={ats:=Zga,rts:=Zi,code:=Ql F}
theorem Z1(F:Nat):Qg cx 86 (Zgo F):=qE (Yiy F) .leaf f86 (by kernel_rfl) fun a=>by kernel_rfl
def Zri(F:Nat):LK:=lC (Z1 F) (lC (Ve F) lN)
def c92(F:Nat)(a:ByteArray):Option (Int):=
 (c98 F a).bind fun(v7:Bool)=>(Ql F (!v7,(8:Int))).bind fun(v8:Int)=>some (v8)
def Zs8(F:Nat):PC:={ats:=Kn,rts:=Zi,code:=c92 F}
theorem Vd(F:Nat):Qg cx 92 (Zs8 F):=qE (Zri F) .leaf f92 (by kernel_rfl) fun a=>by kernel_rfl
def Zkn(F:Nat):LK:=lN
def Qmc(F:Nat)(a:Int):Option (Bool):=
 (bif decide (a<0)then(some (true))else(some (decide (99999<a)))).bind fun(v5:Bool)=>some (v5)
def Zyp(F:Nat):PC:={ats:=Zi,rts:=Y6,code:=Qmc F}
theorem Qvc(F:Nat):Qg cx 153 (Zyp F):=qE (Zkn F) (.two .leaf (.two (.join [(.normal,⟨[.slot 2 (.val (.bool))],[]⟩)] ⟨(2::kD 8 6 []),[],[]⟩ .leaf) .leaf)) f153 (by kernel_rfl) fun a=>by kernel_rfl
def Zty:Qi:=⟨[.slot 0 (.val (.seq kt6))],[(1,.stat (.pv (.lit (.func (.func 153) #[] #[]))))]⟩
def Yba:Qi:=⟨[.slot 0 (.val (.int .i64))],[]⟩
def Zx7(F:Nat):LK:=lC (Qvc F) lN
def Qmi(F:Nat)(a:List Int):Option (Int):=
 (Q5 (σ:=Int) (β:=Int ⊕ Unit) (fun(v15:Int)=>bif decide (v15<(↑(a.length):Int))then(gd (decide (0≤v15)) (gd (decide (v15<(↑(a.length):Int))) (gd (decide (v15.toNat<a.length)) ((Qmc F (a.getD (v15.toNat) (0:Int))).bind fun(v16:Bool)=>bif v16 then(some (Sum.inr (Sum.inl v15)))else(some (Sum.inl (w64 (v15+1))))))))else(some (Sum.inr (Sum.inr ())))) F ((0:Int))).bind fun(v12:Int ⊕ Unit)=>Sum.elim (fun(v13:Int)=>some (v13)) (fun(v14:Unit)=>some ((-1:Int))) (v12)
def Yd6(F:Nat):PX:={np:=2,locs:=[],τ:=Zty,nr:=1,ω:=Yba,ids:=[],mv:=[],code:=Qmi F}
theorem Zd9(F:Nat):Zb cx 209 (Yd6 F):=Yb (Zx7 F) (.two .leaf (.two (.two .leaf (.one (.loop ⟨[.slot 8 (.val (.int .i64))],[]⟩ [(.ret,⟨[.slot 4 (.val (.int .i64))],[]⟩),(.exit 0,⟨[],[]⟩)] ⟨[18,8,11,12,13,14,15,16,4,17,5,10,9],[],[]⟩ F .leaf))) .leaf)) f209 (by kernel_rfl) fun a=>by kernel_rfl
def Zzu:Qi:=⟨[.slot 0 (.val (.seq kt6))],[(1,.stat (.pv (.lit (.func (.func 153) #[] #[]))))]⟩
def Zk4:Qi:=⟨[.slot 0 (.val (.bool))],[]⟩
def Zqg(F:Nat):LK:=lC (Qvc F) (lX (Zd9 F) lN)
def Qvi(F:Nat)(a:List Int):Option (Bool):=
 (Qmi F a).bind fun(v5:Int)=>some (decide (0≤v5))
def Zuo(F:Nat):PX:={np:=2,locs:=[],τ:=Zzu,nr:=1,ω:=Zk4,ids:=[],mv:=[],code:=Qvi F}
theorem Zif(F:Nat):Zb cx 152 (Zuo F):=Yb (Zqg F) .leaf f152 (by kernel_rfl) fun a=>by kernel_rfl
def Ziw(F:Nat):LK:=lC (Z1 F) (lC (Qvc F) (lX (Zd9 F) (lX (Zif F) lN)))
def Z5(F:Nat)(a:List Int):Option (Int):=
 (Qvi F a).bind fun(v7:Bool)=>(Ql F (v7,(3:Int))).bind fun(v8:Int)=>some (v8)
def Yad(F:Nat):PC:={ats:=[.val (.seq kt6)],rts:=Zi,code:=Z5 F}
theorem J3(F:Nat):Qg cx 85 (Yad F):=qE (Ziw F) .leaf f85 (by kernel_rfl) fun a=>by kernel_rfl
def Zmu(F:Nat):LK:=lN
def Qy(F:Nat)(a:List Int):Option (Int):=
 (Q5 (σ:=Int) (β:=Int ⊕ Unit) (fun(v13:Int)=>bif decide (v13<(↑(a.length):Int))then(gd (decide (0≤v13)) (gd (decide (v13<(↑(a.length):Int))) (gd (decide (v13.toNat<a.length)) (bif !decide (a.getD (v13.toNat) (0:Int)=(0:Int))then(some (Sum.inr (Sum.inl (a.getD (v13.toNat) (0:Int)))))else(some (Sum.inl (w64 (v13+1))))))))else(some (Sum.inr (Sum.inr ())))) F ((0:Int))).bind fun(v10:Int ⊕ Unit)=>Sum.elim (fun(v11:Int)=>some (v11)) (fun(v12:Unit)=>some ((0:Int))) (v10)
def Qzn(F:Nat):PC:={ats:=[.val (.seq kt6)],rts:=Zi,code:=Qy F}
theorem Z9(F:Nat):Qg cx 84 (Qzn F):=qE (Zmu F) (.two .leaf (.two (.two .leaf (.one (.loop ⟨[.slot 7 (.val (.int .i64))],[]⟩ [(.ret,⟨[.slot 2 (.val (.int .i64))],[]⟩),(.exit 0,⟨[],[]⟩)] ⟨[14,7,11,12,2,13,4,10,9,8],[],[]⟩ F .leaf))) .leaf)) f84 (by kernel_rfl) fun a=>by kernel_rfl
def Yk9(F:Nat):LK:=lC (Z9 F) (lC (Z1 F) (lC (J3 F) (lC (Vd F) lN)))
def c63(F:Nat)(a:(Qw)×Int):Option (Int×Int):=
 ((c92 F a.1.1).bind fun(v132:Int)=>(tw (X:=Int×Int) (Qt.eqv (Qf.val (Ty.int Go.IntKind.i64)::Qf.val (Ty.int Go.IntKind.i64)::Qa Qf)) ((Z5 F (a.1.2.2.1::Qa Int)).bind fun(v145:Int)=>(Z5 F (a.2::Qa Int)).bind fun(v146:Int)=>(Ql F (decide (a.2<a.1.2.2.1),(11:Int))).bind fun(v147:Int)=>(Qy F (v132::v145::v146::v147::Qa Int)).bind fun(v148:Int)=>bif !decide (v148=0)then(some (((0:Int),v148)))else(some ((w64 (Int.tdiv (w64 (a.2-a.1.2.2.1)) (365:Int)),(0:Int)))))).bind fun(v133:Int×Int)=>((Z5 F (a.1.2.2.1::Qa Int)).bind fun(v135:Int)=>(Z5 F (a.2::Qa Int)).bind fun(v136:Int)=>(Ql F (decide (a.2<a.1.2.2.1),(11:Int))).bind fun(v137:Int)=>(Qy F (v132::v135::v136::v137::Qa Int)).bind fun(v138:Int)=>bif !decide (v138=0)then(some (((0:Int),v138)))else(some ((w64 (Int.tdiv (w64 (a.2-a.1.2.2.1)) (365:Int)),(0:Int))))).bind fun(v134:Int×Int)=>gd (Qt.eqv (Qf.val (Ty.int Go.IntKind.i64)::Qf.val (Ty.int Go.IntKind.i64)::Qa Qf) v133 v134) (some (v133))).bind fun(v98:Int×Int)=>((((c92 F a.1.1).bind fun(v121:Int)=>tw (X:=Int×Int) (Qt.eqv (Qf.val (Ty.int Go.IntKind.i64)::Qf.val (Ty.int Go.IntKind.i64)::Qa Qf)) ((Z5 F (a.1.2.2.1::Qa Int)).bind fun(v128:Int)=>(Z5 F (a.2::Qa Int)).bind fun(v129:Int)=>(Ql F (decide (a.2<a.1.2.2.1),(11:Int))).bind fun(v130:Int)=>(Qy F (v121::v128::v129::v130::Qa Int)).bind fun(v131:Int)=>bif !decide (v131=0)then(some (((0:Int),v131)))else(some ((w64 (Int.tdiv (w64 (a.2-a.1.2.2.1)) (365:Int)),(0:Int)))))).bind fun(v114:Int×Int)=>((c92 F a.1.1).bind fun(v116:Int)=>(Z5 F (a.1.2.2.1::Qa Int)).bind fun(v117:Int)=>(Z5 F (a.2::Qa Int)).bind fun(v118:Int)=>(Ql F (decide (a.2<a.1.2.2.1),(11:Int))).bind fun(v119:Int)=>(Qy F (v116::v117::v118::v119::Qa Int)).bind fun(v120:Int)=>bif !decide (v120=0)then(some (((0:Int),v120)))else(some ((w64 (Int.tdiv (w64 (a.2-a.1.2.2.1)) (365:Int)),(0:Int))))).bind fun(v115:Int×Int)=>gd (Qt.eqv (Qf.val (Ty.int Go.IntKind.i64)::Qf.val (Ty.int Go.IntKind.i64)::Qa Qf) v114 v115) (some (v114))).bind fun(v100:Int×Int)=>(tw (X:=Int×Int) (Qt.eqv (Qf.val (Ty.int Go.IntKind.i64)::Qf.val (Ty.int Go.IntKind.i64)::Qa Qf)) ((c92 F a.1.1).bind fun(v109:Int)=>(Z5 F (a.1.2.2.1::Qa Int)).bind fun(v110:Int)=>(Z5 F (a.2::Qa Int)).bind fun(v111:Int)=>(Ql F (decide (a.2<a.1.2.2.1),(11:Int))).bind fun(v112:Int)=>(Qy F (v109::v110::v111::v112::Qa Int)).bind fun(v113:Int)=>bif !decide (v113=0)then(some (((0:Int),v113)))else(some ((w64 (Int.tdiv (w64 (a.2-a.1.2.2.1)) (365:Int)),(0:Int)))))).bind fun(v101:Int×Int)=>gd (Qt.eqv (Qf.val (Ty.int Go.IntKind.i64)::Qf.val (Ty.int Go.IntKind.i64)::Qa Qf) v100 v101) (some (v100))).bind fun(v99:Int×Int)=>gd (Qt.eqv (Qf.val (Ty.int Go.IntKind.i64)::Qf.val (Ty.int Go.IntKind.i64)::Qa Qf) v98 v99) (some (v98))
def Qz9(F:Nat):PC:={ats:=[.agg kt3,.val (.int .i64)],rts:=Qn6,code:=c63 F}
theorem Zy2(F:Nat):Qg cx 63 (Qz9 F):=qE (Yk9 F) .leaf f63 (by kernel_rfl) fun a=>by kernel_rfl
def Zy6(F:Nat):LK:=lN
def Wc(F:Nat)(a:List (Q2)×ByteArray×Int):Option (Bool):=
 (Q5 (σ:=Bool×Int) (β:=Bool) (fun(v10:Bool×Int)=>bif decide (v10.2<(↑(a.1.length):Int))then(gd (decide (0≤v10.2)) (gd (decide (v10.2<(↑(a.1.length):Int))) (gd (decide (v10.2.toNat<a.1.length)) ((bif !Qc (a.1.getD (v10.2.toNat) (ByteArray.empty,(0:Int),(0:Int))).1 a.2.1 then(some (true))else(bif decide (a.2.2<(a.1.getD (v10.2.toNat) (ByteArray.empty,(0:Int),(0:Int))).2.1)then(some (true))else(some (decide ((a.1.getD (v10.2.toNat) (ByteArray.empty,(0:Int),(0:Int))).2.2<a.2.2))))).bind fun(v11:Bool)=>bif v11 then(some (Sum.inl (v10.1,w64 (v10.2+1))))else(some (Sum.inr true))))))else(some (Sum.inr v10.1))) F ((false,(0:Int)))).bind fun(v9:Bool)=>some (v9)
def Znd(F:Nat):PC:={ats:=Zg9,rts:=Y6,code:=Wc F}
theorem Zux(F:Nat):Qg cx 147 (Znd F):=qE (Zy6 F) (.two .leaf (.one (Q8 2 (.two (.two .leaf (.one (.loop ⟨[.slot 7 (.val (.bool)),.slot 12 (.val (.int .i64))],[]⟩ [(.exit 0,⟨[.slot 7 (.val (.bool))],[]⟩)] ⟨(32::12::kU 16 16 (7::9::15::14::13::[])),[],[]⟩ F (Q8 2 (.two (.one (.two .leaf (.two (.two (.join [(.normal,⟨[.slot 31 (.val (.bool))],[]⟩)] ⟨(kD 31 16 []),[],[]⟩ .leaf) .leaf) .leaf))) .leaf))))) .leaf)))) f147 (by kernel_rfl) fun a=>by kernel_rfl
def Ybq(F:Nat):LK:=lC (Z9 F) (lC (Z1 F) (lC (J3 F) lN))
def Zc4(F:Nat)(a:Q2):Option (Int):=
 (Z5 F (a.2.1::a.2.2::Qa Int)).bind fun(v9:Int)=>(Ql F (decide (a.2.2<a.2.1),(11:Int))).bind fun(v10:Int)=>(Qy F (v9::v10::Qa Int)).bind fun(v11:Int)=>some (v11)
def Zwk(F:Nat):PC:={ats:=[.agg kt2],rts:=Zi,code:=Zc4 F}
theorem Qig(F:Nat):Qg cx 114 (Zwk F):=qE (Ybq F) .leaf f114 (by kernel_rfl) fun a=>by kernel_rfl
def Zj1(F:Nat):LK:=lC (Z9 F) (lC (Qig F) (lC (Vd F) lN))
def Zl4(F:Nat):PC:=qT (Zj1 F) .leaf f146 [.val (.int .i64),.agg kt2] Zi
theorem Ykx(F:Nat):Qg cx 146 (Zl4 F):=Qwh (by kernel_rfl)
def Yix:Qi:=⟨[.slot 0 (.val (.seq kt2))],[(1,.stat (.pv (.lit (.func (.func 146) #[] #[]))))]⟩
def Zij:Qi:=⟨[.slot 0 (.val (.int .i64))],[]⟩
def Zv4(F:Nat):LK:=lC (Z9 F) (lC (Qig F) (lC (Vd F) (lC (Ykx F) lN)))
def Yag(F:Nat):PX:=qX (Zv4 F) (.two .leaf (.two (.two .leaf (.one (.loop ⟨[.slot 10 (.val (.int .i64))],[]⟩ [(.ret,⟨[.slot 4 (.val (.int .i64))],[]⟩),(.exit 0,⟨[],[]⟩)] ⟨[22,10,15,16,17,18,7,21,4,20,19,5,6,14,13,12,11],[],[]⟩ F .leaf))) .leaf)) f112 (pxB 2 [] Yix 1 Zij [] [])
theorem Zks(F:Nat):Zb cx 112 (Yag F):=Wq (by kernel_rfl)
def Zpp(F:Nat):LK:=lN
def c67(F:Nat)(a:ByteArray):Option (Bool):=
 (bif decide ((↑(ByteArray.size a):Int)<(1:Int))then(some (true))else(some (decide (24<(↑(ByteArray.size a):Int))))).bind fun(v16:Bool)=>bif v16 then(some (false))else((Q5 (σ:=Int) (β:=Bool ⊕ Unit) (fun(v20:Int)=>bif decide (v20<(↑(ByteArray.size a):Int))then(gd (decide (0≤v20)) (gd (decide (v20.toNat<ByteArray.size a)) ((bif decide (97≤(↑(BitVec.toFin (UInt8.toBitVec (ByteArray.get! a (v20.toNat)))).1:Int))then(bif decide ((↑(BitVec.toFin (UInt8.toBitVec (ByteArray.get! a (v20.toNat)))).1:Int)≤(122:Int))then(some (true))else(bif decide (65≤(↑(BitVec.toFin (UInt8.toBitVec (ByteArray.get! a (v20.toNat)))).1:Int))then(some (decide ((↑(BitVec.toFin (UInt8.toBitVec (ByteArray.get! a (v20.toNat)))).1:Int)≤(90:Int))))else(some (false))))else(bif decide (65≤(↑(BitVec.toFin (UInt8.toBitVec (ByteArray.get! a (v20.toNat)))).1:Int))then(some (decide ((↑(BitVec.toFin (UInt8.toBitVec (ByteArray.get! a (v20.toNat)))).1:Int)≤(90:Int))))else(some (false)))).bind fun(v21:Bool)=>(bif !v21 then(bif decide (v20=0)then(some (true))else(bif decide (48≤(↑(BitVec.toFin (UInt8.toBitVec (ByteArray.get! a (v20.toNat)))).1:Int))then(bif decide ((↑(BitVec.toFin (UInt8.toBitVec (ByteArray.get! a (v20.toNat)))).1:Int)≤(57:Int))then(some (!true))else(some (!decide ((↑(BitVec.toFin (UInt8.toBitVec (ByteArray.get! a (v20.toNat)))).1:Int)=(95:Int)))))else(some (!decide ((↑(BitVec.toFin (UInt8.toBitVec (ByteArray.get! a (v20.toNat)))).1:Int)=(95:Int))))))else(some (false))).bind fun(v22:Bool)=>bif v22 then(some (Sum.inr (Sum.inl false)))else(some (Sum.inl (w64 (v20+1)))))))else(some (Sum.inr (Sum.inr ())))) F ((0:Int))).bind fun(v17:Bool ⊕ Unit)=>Sum.elim (fun(v18:Bool)=>some (v18)) (fun(v19:Unit)=>some (true)) (v17))
def Yc5(F:Nat):PC:={ats:=Kn,rts:=Y6,code:=c67 F}
theorem Qvo(F:Nat):Qg cx 67 (Yc5 F):=qE (Zpp F) (.two .leaf (.two (.two (.join [(.normal,⟨[.slot 13 (.val (.bool))],[]⟩)] ⟨(kD 13 8 []),[],[]⟩ .leaf) .leaf) (.two (.two .leaf (.one (.loop ⟨[.slot 3 (.val (.int .i64))],[]⟩ [(.ret,⟨[.slot 2 (.val (.bool))],[]⟩),(.exit 0,⟨[],[]⟩)] ⟨(20::21::22::4::kU 37 19 (2::5::kD 36 14 (3::kD 19 6 []))),[],[]⟩ F (.two .leaf (.two (.one (.two .leaf (.two (.join [(.normal,⟨[.slot 5 (.val (.bool))],[]⟩)] ⟨(5::kD 36 14 []),[],[]⟩ .leaf) (.two (.join [(.normal,⟨[.slot 55 (.val (.bool))],[]⟩)] ⟨(kD 55 19 []),[],[]⟩ .leaf) .leaf)))) .leaf))))) .leaf))) f67 (by kernel_rfl) fun a=>by kernel_rfl
def Zo4(F:Nat):LK:=lN
def c94(F:Nat)(a:Int×Int):Option (Bool):=
 (bif decide (a.1<0)then(some (true))else(some (decide (a.2<a.1)))).bind fun(v5:Bool)=>some (v5)
def Zru(F:Nat):PC:={ats:=Qn6,rts:=Y6,code:=c94 F}
theorem Qlp(F:Nat):Qg cx 94 (Zru F):=qE (Zo4 F) (.two .leaf (.two (.join [(.normal,⟨[.slot 4 (.val (.bool))],[]⟩)] ⟨(4::kD 11 7 []),[],[]⟩ .leaf) .leaf)) f94 (by kernel_rfl) fun a=>by kernel_rfl
def Yby(F:Nat):LK:=lN
def c68(F:Nat)(a:List (Q2)×ByteArray×Int):Option (Bool):=
 (Q5 (σ:=Int) (β:=Bool ⊕ Unit) (fun(v15:Int)=>bif decide (v15<(↑(a.1.length):Int))then((gd (decide (0≤v15)) (gd (decide (v15<(↑(a.1.length):Int))) (gd (decide (v15.toNat<a.1.length)) (bif Qc (a.1.getD (v15.toNat) (ByteArray.empty,(0:Int),(0:Int))).1 a.2.1 then(gd (decide (0≤v15)) (gd (decide (v15<(↑(a.1.length):Int))) (gd (decide (v15.toNat<a.1.length)) (bif decide ((a.1.getD (v15.toNat) (ByteArray.empty,(0:Int),(0:Int))).2.1≤a.2.2)then(gd (decide (0≤v15)) (gd (decide (v15<(↑(a.1.length):Int))) (gd (decide (v15.toNat<a.1.length)) (some (decide (a.2.2≤(a.1.getD (v15.toNat) (ByteArray.empty,(0:Int),(0:Int))).2.2))))))else(some (false))))))else(some (false)))))).bind fun(v16:Bool)=>bif v16 then(some (Sum.inr (Sum.inl true)))else(some (Sum.inl (w64 (v15+1)))))else(some (Sum.inr (Sum.inr ())))) F ((0:Int))).bind fun(v12:Bool ⊕ Unit)=>Sum.elim (fun(v13:Bool)=>some (v13)) (fun(v14:Unit)=>some (false)) (v12)
def Zlj(F:Nat):PC:={ats:=Zg9,rts:=Y6,code:=c68 F}
theorem Yjw(F:Nat):Qg cx 68 (Zlj F):=qE (Yby F) (.two .leaf (.two (.two .leaf (.one (.loop ⟨[.slot 7 (.val (.int .i64))],[]⟩ [(.ret,⟨[.slot 6 (.val (.bool))],[]⟩),(.exit 0,⟨[],[]⟩)] ⟨(kU 14 25 (6::7::kD 13 6 [])),[],[]⟩ F (.two .leaf (.two (.one (.two (.join [(.normal,⟨[.slot 38 (.val (.bool))],[]⟩)] ⟨(kD 38 25 []),[],[]⟩ .leaf) .leaf)) .leaf))))) .leaf)) f68 (by kernel_rfl) fun a=>by kernel_rfl
def Zmg(F:Nat):LK:=lN
def c30(F:Nat)(a:List Int):Option (Int):=
 (Q5 (σ:=Int) (β:=Int ⊕ Unit) (fun(v13:Int)=>bif decide (v13<(↑(a.length):Int))then(gd (decide (0≤v13)) (gd (decide (v13<(↑(a.length):Int))) (gd (decide (v13.toNat<a.length)) (bif !decide (a.getD (v13.toNat) (0:Int)=(0:Int))then(some (Sum.inr (Sum.inl (a.getD (v13.toNat) (0:Int)))))else(some (Sum.inl (w64 (v13+1))))))))else(some (Sum.inr (Sum.inr ())))) F ((0:Int))).bind fun(v10:Int ⊕ Unit)=>Sum.elim (fun(v11:Int)=>some (v11)) (fun(v12:Unit)=>some ((0:Int))) (v10)
def Yhk(F:Nat):PC:={ats:=[.val (.seq kt6)],rts:=Zi,code:=c30 F}
theorem Ztg(F:Nat):Qg cx 30 (Yhk F):=qE (Zmg F) (.two .leaf (.two (.two .leaf (.one (.loop ⟨[.slot 7 (.val (.int .i64))],[]⟩ [(.ret,⟨[.slot 2 (.val (.int .i64))],[]⟩),(.exit 0,⟨[],[]⟩)] ⟨[14,7,11,12,2,13,4,10,9,8],[],[]⟩ F .leaf))) .leaf)) f30 (by kernel_rfl) fun a=>by kernel_rfl
def Zkc(F:Nat):LK:=lN
def c44(F:Nat)(a:List ByteArray×List ByteArray):Option (Bool):=
 bif !decide ((↑(a.1.length):Int)=(↑(a.2.length):Int))then(some (false))else((Q5 (σ:=Int) (β:=Bool ⊕ Unit) (fun(v13:Int)=>bif decide (v13<(↑(a.1.length):Int))then(gd (decide (0≤v13)) (gd (decide (v13<(↑(a.1.length):Int))) (gd (decide (v13.toNat<a.1.length)) (gd (decide (0≤v13)) (gd (decide (v13<(↑(a.2.length):Int))) (gd (decide (v13.toNat<a.2.length)) (bif !Qc (a.1.getD (v13.toNat) ByteArray.empty) (a.2.getD (v13.toNat) ByteArray.empty)then(some (Sum.inr (Sum.inl false)))else(some (Sum.inl (w64 (v13+1)))))))))))else(some (Sum.inr (Sum.inr ())))) F ((0:Int))).bind fun(v10:Bool ⊕ Unit)=>Sum.elim (fun(v11:Bool)=>some (v11)) (fun(v12:Unit)=>some (true)) (v10))
def Qxz(F:Nat):PC:={ats:=[.val (.seq Zz),.val (.seq Zz)],rts:=Y6,code:=c44 F}
theorem Qq4(F:Nat):Qg cx 44 (Qxz F):=qE (Zkc F) (Q8 2 (.two (.two .leaf (.one (.loop ⟨[.slot 5 (.val (.int .i64))],[]⟩ [(.ret,⟨[.slot 4 (.val (.bool))],[]⟩),(.exit 0,⟨[],[]⟩)] ⟨(kU 17 9 (4::5::kD 16 6 [])),[],[]⟩ F .leaf))) .leaf)) f44 (by kernel_rfl) fun a=>by kernel_rfl
def Zwv(F:Nat):LK:=lN
def c45(F:Nat)(a:List Int×List Int):Option (Bool):=
 bif !decide ((↑(a.1.length):Int)=(↑(a.2.length):Int))then(some (false))else((Q5 (σ:=Int) (β:=Bool ⊕ Unit) (fun(v13:Int)=>bif decide (v13<(↑(a.1.length):Int))then(gd (decide (0≤v13)) (gd (decide (v13<(↑(a.1.length):Int))) (gd (decide (v13.toNat<a.1.length)) (gd (decide (0≤v13)) (gd (decide (v13<(↑(a.2.length):Int))) (gd (decide (v13.toNat<a.2.length)) (bif !decide (a.1.getD (v13.toNat) (0:Int)=a.2.getD (v13.toNat) (0:Int))then(some (Sum.inr (Sum.inl false)))else(some (Sum.inl (w64 (v13+1)))))))))))else(some (Sum.inr (Sum.inr ())))) F ((0:Int))).bind fun(v10:Bool ⊕ Unit)=>Sum.elim (fun(v11:Bool)=>some (v11)) (fun(v12:Unit)=>some (true)) (v10))
def Zfv(F:Nat):PC:={ats:=[.val (.seq kt6),.val (.seq kt6)],rts:=Y6,code:=c45 F}
theorem Yes(F:Nat):Qg cx 45 (Zfv F):=qE (Zwv F) (Q8 2 (.two (.two .leaf (.one (.loop ⟨[.slot 5 (.val (.int .i64))],[]⟩ [(.ret,⟨[.slot 4 (.val (.bool))],[]⟩),(.exit 0,⟨[],[]⟩)] ⟨(kU 17 9 (4::5::kD 16 6 [])),[],[]⟩ F .leaf))) .leaf)) f45 (by kernel_rfl) fun a=>by kernel_rfl
def Ye4(F:Nat):LK:=lN
def c47(F:Nat)(a:(Zo)×ByteArray):Option (Int):=
 (Q5 (σ:=Int) (β:=Int ⊕ Unit) (fun(v13:Int)=>bif decide (v13<(↑(a.1.2.2.2.2.length):Int))then(gd (decide (0≤v13)) (gd (decide (v13<(↑(a.1.2.2.2.2.length):Int))) (gd (decide (v13.toNat<a.1.2.2.2.2.length)) (bif Qc (a.1.2.2.2.2.getD (v13.toNat) Q7).1 a.2 then(some (Sum.inr (Sum.inl v13)))else(some (Sum.inl (w64 (v13+1))))))))else(some (Sum.inr (Sum.inr ())))) F ((0:Int))).bind fun(v10:Int ⊕ Unit)=>Sum.elim (fun(v11:Int)=>some (v11)) (fun(v12:Unit)=>some ((-1:Int))) (v10)
def Zk7(F:Nat):PC:={ats:=[.agg Xh,.val (.str)],rts:=Zi,code:=c47 F}
theorem Qo8(F:Nat):Qg cx 47 (Zk7 F):=qE (Ye4 F) (.two .leaf (.two (.two .leaf (.one (.loop ⟨[.slot 5 (.val (.int .i64))],[]⟩ [(.ret,⟨[.slot 4 (.val (.int .i64))],[]⟩),(.exit 0,⟨[],[]⟩)] ⟨(kU 13 8 (4::21::5::kD 12 7 [])),[],[]⟩ F .leaf))) .leaf)) f47 (by kernel_rfl) fun a=>by kernel_rfl
def Zo1(F:Nat):LK:=lN
def Qmq(F:Nat)(a:ByteArray):Option (Bool):=
 (bif Qc a {data:=List.toArray (68::78::83::Qa UInt8)}then(some (true))else(bif Qc a {data:=List.toArray (68::78::70::Qa UInt8)}then(some (true))else(bif Qc a {data:=List.toArray (68::81::Qa UInt8)}then(some (true))else(some (Qc a {data:=List.toArray (78::77::Qa UInt8)}))))).bind fun(v5:Bool)=>some (v5)
def Yk8(F:Nat):PC:={ats:=Kn,rts:=Y6,code:=Qmq F}
theorem Yhq(F:Nat):Qg cx 210 (Yk8 F):=qE (Zo1 F) (.two .leaf (.two (.join [(.normal,⟨[.slot 2 (.val (.bool))],[]⟩)] ⟨(2::kD 16 14 []),[],[]⟩ .leaf) .leaf)) f210 (by kernel_rfl) fun a=>by kernel_rfl
def Yfe(F:Nat):LK:=lN
def Qs9(F:Nat)(a:ByteArray):Option (Int):=
 bif Qc a {data:=List.toArray (116::105::109::101::Qa UInt8)}then(some ((863999999:Int)))else(bif Qc a {data:=List.toArray (108::101::110::103::116::104::Qa UInt8)}then(some ((999999:Int)))else(some ((99999:Int))))
def Ziv(F:Nat):PC:={ats:=Kn,rts:=Zi,code:=Qs9 F}
theorem Zn3(F:Nat):Qg cx 212 (Ziv F):=qE (Yfe F) .leaf f212 (by kernel_rfl) fun a=>by kernel_rfl
def Zup(F:Nat):LK:=lN
def Qsi(F:Nat)(a:ByteArray):Option (Int):=
 bif Qc a {data:=List.toArray (116::105::109::101::Qa UInt8)}then(some ((1:Int)))else(some ((0:Int)))
def Zn8(F:Nat):PC:={ats:=Kn,rts:=Zi,code:=Qsi F}
theorem Yel(F:Nat):Qg cx 211 (Zn8 F):=qE (Zup F) .leaf f211 (by kernel_rfl) fun a=>by kernel_rfl
def Yex(F:Nat):LK:=lC (Yel F) (lC (Zn3 F) (lC (Yhq F) lN))
def Qiv(F:Nat)(a:ByteArray×Int×ByteArray):Option (Int):=
 bif Qc a.1 {data:=List.toArray (110::111::110::101::Qa UInt8)}then((Qmq F a.2.2).bind fun(v18:Bool)=>bif !v18 then(some ((1:Int)))else(bif !decide (a.2.1=0)then(some ((3:Int)))else(some ((0:Int)))))else((bif Qc a.1 {data:=List.toArray (116::105::109::101::Qa UInt8)}then(some (Qc a.1 {data:=List.toArray (116::105::109::101::Qa UInt8)}))else((bif Qc a.1 {data:=List.toArray (108::101::110::103::116::104::Qa UInt8)}then(some (Qc a.1 {data:=List.toArray (108::101::110::103::116::104::Qa UInt8)}))else(some (Qc a.1 {data:=List.toArray (112::111::105::110::116::115::Qa UInt8)}))).bind fun(v23:Bool)=>some (v23))).bind fun(v19:Bool)=>bif v19 then(bif !Qc a.2.2 {data:=List.toArray (Qa UInt8)}then(some ((1:Int)))else(((Qsi F a.1).bind fun(v21:Int)=>bif decide (a.2.1<v21)then(some (true))else((Qs9 F a.1).bind fun(v22:Int)=>some (decide (v22<a.2.1)))).bind fun(v20:Bool)=>bif v20 then(some ((3:Int)))else(some ((0:Int)))))else(some ((13:Int))))
def Ybv(F:Nat):PC:={ats:=[.agg kt7],rts:=Zi,code:=Qiv F}
theorem Zdl(F:Nat):Qg cx 156 (Ybv F):=qE (Yex F) (.two .leaf (.two (.two .leaf (.one (Q8 2 (.two (.two .leaf (.join [(.normal,⟨[.slot 14 (.val (.bool))],[]⟩)] ⟨[16,14,17],[],[]⟩ (Q8 2 (.join [(.normal,⟨[.slot 14 (.val (.bool))],[]⟩)] ⟨[17,14],[],[]⟩ .leaf)))) (.two (.two .leaf (.two (.two (.join [(.normal,⟨[.slot 34 (.val (.bool))],[]⟩)] ⟨(kD 34 14 []),[],[]⟩ .leaf) .leaf) .leaf)) .leaf))))) .leaf)) f156 (by kernel_rfl) fun a=>by kernel_rfl
def Ykb(F:Nat):LK:=lN
def Qjr(F:Nat)(a:(ByteArray×Int×ByteArray)×ByteArray):Option (Bool):=
 (bif Qc a.1.1 a.2 then(some (true))else(some (Qc a.1.1 {data:=List.toArray (110::111::110::101::Qa UInt8)}))).bind fun(v5:Bool)=>some (v5)
def Yao(F:Nat):PC:={ats:=[.agg kt7,.val (.str)],rts:=Y6,code:=Qjr F}
theorem Zew(F:Nat):Qg cx 157 (Yao F):=qE (Ykb F) (.two .leaf (.two (.join [(.normal,⟨[.slot 4 (.val (.bool))],[]⟩)] ⟨(4::kD 13 9 []),[],[]⟩ .leaf) .leaf)) f157 (by kernel_rfl) fun a=>by kernel_rfl
def Yb2(F:Nat):LK:=lC (Qvo F) (lC (Qlp F) (lC (Zew F) (lC (Zdl F) (lC (Qo8 F) lN))))
def c95(F:Nat)(a:(Zo)×Int):Option (Int):=
 gd (decide (0≤a.2)) (gd (decide (a.2<(↑(a.1.2.2.2.2.length):Int))) (gd (decide (a.2.toNat<a.1.2.2.2.2.length)) ((c67 F (a.1.2.2.2.2.getD (a.2.toNat) Q7).1).bind fun(v42:Bool)=>bif !v42 then(some ((8:Int)))else((c47 F (a.1,(a.1.2.2.2.2.getD (a.2.toNat) Q7).1)).bind fun(v43:Int)=>bif decide (v43<a.2)then(some ((9:Int)))else((bif !Qc (a.1.2.2.2.2.getD (a.2.toNat) Q7).2.1 {data:=List.toArray (116::105::109::101::Qa UInt8)}then(bif !Qc (a.1.2.2.2.2.getD (a.2.toNat) Q7).2.1 {data:=List.toArray (108::101::110::103::116::104::Qa UInt8)}then(some (!Qc (a.1.2.2.2.2.getD (a.2.toNat) Q7).2.1 {data:=List.toArray (112::111::105::110::116::115::Qa UInt8)}))else(some (false)))else(some (false))).bind fun(v44:Bool)=>bif v44 then(some ((13:Int)))else((bif !Qc (a.1.2.2.2.2.getD (a.2.toNat) Q7).2.2.1 {data:=List.toArray (Qa UInt8)}then((c67 F (a.1.2.2.2.2.getD (a.2.toNat) Q7).2.2.1).bind fun(v57:Bool)=>some (!v57))else(some (false))).bind fun(v45:Bool)=>bif v45 then(some ((8:Int)))else(((c94 F ((a.1.2.2.2.2.getD (a.2.toNat) Q7).2.2.2.1,(120:Int))).bind fun(v55:Bool)=>bif v55 then(some (true))else((c94 F ((a.1.2.2.2.2.getD (a.2.toNat) Q7).2.2.2.2.1,(120:Int))).bind fun(v56:Bool)=>some (v56))).bind fun(v46:Bool)=>bif v46 then(some ((3:Int)))else(bif decide ((a.1.2.2.2.2.getD (a.2.toNat) Q7).2.2.2.2.1<(a.1.2.2.2.2.getD (a.2.toNat) Q7).2.2.2.1)then(some ((11:Int)))else(((c94 F ((a.1.2.2.2.2.getD (a.2.toNat) Q7).2.2.2.2.2.1,(160:Int))).bind fun(v52:Bool)=>bif v52 then(some (true))else((c94 F ((a.1.2.2.2.2.getD (a.2.toNat) Q7).2.2.2.2.2.2.1,(160:Int))).bind fun(v53:Bool)=>bif v53 then(some (true))else((c94 F ((a.1.2.2.2.2.getD (a.2.toNat) Q7).2.2.2.2.2.2.2.2.2.2,(8:Int))).bind fun(v54:Bool)=>some (v54)))).bind fun(v47:Bool)=>bif v47 then(some ((3:Int)))else((Qiv F ((a.1.2.2.2.2.getD (a.2.toNat) Q7).2.2.2.2.2.2.2.1,(a.1.2.2.2.2.getD (a.2.toNat) Q7).2.2.2.2.2.2.2.2.1,(a.1.2.2.2.2.getD (a.2.toNat) Q7).2.2.2.2.2.2.2.2.2.1)).bind fun(v48:Int)=>(bif decide (v48=0)then((Qjr F (((a.1.2.2.2.2.getD (a.2.toNat) Q7).2.2.2.2.2.2.2.1,(a.1.2.2.2.2.getD (a.2.toNat) Q7).2.2.2.2.2.2.2.2.1,(a.1.2.2.2.2.getD (a.2.toNat) Q7).2.2.2.2.2.2.2.2.2.1),(a.1.2.2.2.2.getD (a.2.toNat) Q7).2.1)).bind fun(v51:Bool)=>some (!v51))else(some (false))).bind fun(v49:Bool)=>(bif v49 then(some ((13:Int)))else(some (v48))).bind fun(v50:Int)=>some (v50)))))))))))
def Zxc(F:Nat):PC:={ats:=[.agg Xh,.val (.int .i64)],rts:=Zi,code:=c95 F}
theorem Yet(F:Nat):Qg cx 95 (Zxc F):=qE (Yb2 F) (Q8 4 (.two (.two (.join [(.normal,⟨[.slot 34 (.val (.bool))],[]⟩)] ⟨(kD 34 13 []),[],[]⟩ .leaf) .leaf) (.two (.two (.join [(.normal,⟨[.slot 43 (.val (.bool))],[]⟩)] ⟨(kD 43 9 []),[],[]⟩ .leaf) .leaf) (.two (.two (.join [(.normal,⟨[.slot 51 (.val (.bool))],[]⟩)] ⟨(kD 51 8 []),[],[]⟩ .leaf) .leaf) (.two .leaf (.two (.two (.join [(.normal,⟨[.slot 69 (.val (.bool))],[]⟩)] ⟨(kD 69 13 []),[],[]⟩ .leaf) .leaf) (.two .leaf (.two (.two (.join [(.normal,⟨[.slot 82 (.val (.bool))],[]⟩)] ⟨(kD 82 10 []),[],[]⟩ .leaf) (.join [(.normal,⟨[.slot 6 (.val (.int .i64))],[]⟩)] ⟨[6],[],[]⟩ .leaf)) .leaf)))))))) f95 (by kernel_rfl) fun a=>by kernel_rfl
def Zll(F:Nat):LK:=lC (Yet F) (lC (Qlp F) lN)
def c22(F:Nat)(a:Zo):Option (Int):=
 ((c94 F (a.1,(99999:Int))).bind fun(v35:Bool)=>bif v35 then(some (true))else((c94 F (a.2.1,(99999:Int))).bind fun(v36:Bool)=>bif v36 then(some (true))else((c94 F (a.2.2.1,(99999:Int))).bind fun(v37:Bool)=>some (v37)))).bind fun(v27:Bool)=>bif v27 then(some ((3:Int)))else((bif decide (a.2.2.1<a.2.1)then(some (true))else(some (decide (a.1<a.2.2.1)))).bind fun(v28:Bool)=>bif v28 then(some ((11:Int)))else((c94 F (a.2.2.2.1,(32:Int))).bind fun(v29:Bool)=>bif v29 then(some ((3:Int)))else(bif decide (32<(↑(a.2.2.2.2.length):Int))then(some ((5:Int)))else((Q5 (σ:=Int) (β:=Int ⊕ Unit) (fun(v33:Int)=>bif decide (v33<(↑(a.2.2.2.2.length):Int))then((c95 F (a,v33)).bind fun(v34:Int)=>bif !decide (v34=0)then(some (Sum.inr (Sum.inl v34)))else(some (Sum.inl (w64 (v33+1)))))else(some (Sum.inr (Sum.inr ())))) F ((0:Int))).bind fun(v30:Int ⊕ Unit)=>Sum.elim (fun(v31:Int)=>some (v31)) (fun(v32:Unit)=>some ((0:Int))) (v30)))))
def Ya2(F:Nat):PC:={ats:=[.agg Xh],rts:=Zi,code:=c22 F}
theorem Ye1(F:Nat):Qg cx 22 (Ya2 F):=qE (Zll F) (.two .leaf (.two (.two (.join [(.normal,⟨[.slot 17 (.val (.bool))],[]⟩)] ⟨(kD 17 13 []),[],[]⟩ .leaf) .leaf) (.two (.two (.join [(.normal,⟨[.slot 29 (.val (.bool))],[]⟩)] ⟨(kD 29 12 []),[],[]⟩ .leaf) .leaf) (Q8 2 (.two (.two .leaf (.one (.loop ⟨[.slot 3 (.val (.int .i64))],[]⟩ [(.ret,⟨[.slot 2 (.val (.int .i64))],[]⟩),(.exit 0,⟨[],[]⟩)] ⟨(44::45::46::4::49::2::48::47::3::kD 43 7 []),[],[]⟩ F .leaf))) .leaf))))) f22 (by kernel_rfl) fun a=>by kernel_rfl
def Ztx(F:Nat):LK:=lN
def V7(F:Nat)(a:ByteArray):Option (ByteArray):=
 (Q5 (σ:=Int) (β:=ByteArray ⊕ Unit) (fun(v14:Int)=>bif decide (v14<(↑(8:Nat):Int))then(gd (decide (0≤v14)) (gd (decide (v14<(↑(8:Nat):Int))) (gd (decide ((0:Nat)+v14.toNat<8)) (bif Qc (List.getD ({data:=List.toArray (99::108::117::98::Qa UInt8)}::{data:=List.toArray (97::116::104::108::101::116::101::Qa UInt8)}::{data:=List.toArray (108::105::99::101::110::99::101::Qa UInt8)}::{data:=List.toArray (116::114::97::110::115::102::101::114::Qa UInt8)}::{data:=List.toArray (101::110::116::101::114::Qa UInt8)}::{data:=List.toArray (119::105::116::104::100::114::97::119::Qa UInt8)}::{data:=List.toArray (99::104::101::99::107::Qa UInt8)}::{data:=List.toArray (116::101::97::109::Qa UInt8)}::Qa ByteArray) ((0:Nat)+v14.toNat) ByteArray.empty) a then(gd (decide (0≤v14)) (gd (decide (v14<(↑(8:Nat):Int))) (gd (decide ((0:Nat)+v14.toNat<8)) (some (Sum.inr (Sum.inl (List.getD ({data:=List.toArray (99::Qa UInt8)}::{data:=List.toArray (97::99::103::102::Qa UInt8)}::{data:=List.toArray (97::102::116::Qa UInt8)}::{data:=List.toArray (97::99::Qa UInt8)}::{data:=List.toArray (97::107::109::Qa UInt8)}::{data:=List.toArray (97::107::Qa UInt8)}::{data:=List.toArray (97::107::Qa UInt8)}::{data:=List.toArray (99::107::110::Qa UInt8)}::Qa ByteArray) ((0:Nat)+v14.toNat) ByteArray.empty)))))))else(some (Sum.inl (w64 (v14+1))))))))else(some (Sum.inr (Sum.inr ())))) F ((0:Int))).bind fun(v11:ByteArray ⊕ Unit)=>Sum.elim (fun(v12:ByteArray)=>some (v12)) (fun(v13:Unit)=>some ({data:=List.toArray (Qa UInt8)})) (v11)
def Yf4(F:Nat):PC:={ats:=Kn,rts:=Kn,code:=V7 F}
theorem Zwj(F:Nat):Qg cx 102 (Yf4 F):=qE (Ztx F) (Q8 3 (.two (.two .leaf (.one (.typ 0 9 Zz (.typ 1 9 Zz (.loop ⟨[.slot 5 (.val (.int .i64))],[]⟩ [(.ret,⟨[.slot 2 (.val (.str))],[]⟩),(.exit 0,⟨[],[]⟩)] ⟨(kU 14 6 (2::23::22::21::20::5::kD 13 6 [])),[],[]⟩ F .leaf))))) .leaf)) f102 (by kernel_rfl) fun a=>by kernel_rfl
def Yea(F:Nat):LK:=lN
def Xe(F:Nat)(a:ByteArray×Int):Option (Bool):=
 (Q5 (σ:=Int) (β:=Bool ⊕ Unit) (fun(v13:Int)=>bif decide (v13<(↑(ByteArray.size a.1):Int))then(gd (decide (0≤v13)) (gd (decide (v13.toNat<ByteArray.size a.1)) (bif decide ((↑(BitVec.toFin (UInt8.toBitVec (ByteArray.get! a.1 (v13.toNat)))).1:Int)=a.2)then(some (Sum.inr (Sum.inl true)))else(some (Sum.inl (w64 (v13+1)))))))else(some (Sum.inr (Sum.inr ())))) F ((0:Int))).bind fun(v10:Bool ⊕ Unit)=>Sum.elim (fun(v11:Bool)=>some (v11)) (fun(v12:Unit)=>some (false)) (v10)
def Zi1(F:Nat):PC:={ats:=[.val (.str),.val (.int .u8)],rts:=Y6,code:=Xe F}
theorem Zyj(F:Nat):Qg cx 104 (Zi1 F):=qE (Yea F) (.two .leaf (.two (.two .leaf (.one (.loop ⟨[.slot 5 (.val (.int .i64))],[]⟩ [(.ret,⟨[.slot 4 (.val (.bool))],[]⟩),(.exit 0,⟨[],[]⟩)] ⟨[12,13,14,15,16,4,5,11,10,9,8,7,6],[],[]⟩ F .leaf))) .leaf)) f104 (by kernel_rfl) fun a=>by kernel_rfl
def Yjd(F:Nat):LK:=lC (Qvo F) lN
def Qdd(F:Nat)(a:ByteArray):Option (Int):=
 (c67 F a).bind fun(v5:Bool)=>bif !v5 then(some ((8:Int)))else(some ((0:Int)))
def Zqc(F:Nat):PC:={ats:=Kn,rts:=Zi,code:=Qdd F}
theorem Yh3(F:Nat):Qg cx 180 (Zqc F):=qE (Yjd F) .leaf f180 (by kernel_rfl) fun a=>by kernel_rfl
def Zpf(F:Nat):LK:=lC (Qlp F) lN
def Qif(F:Nat)(a:Int):Option (Int):=
 (c94 F (a,(99999:Int))).bind fun(v5:Bool)=>bif v5 then(some ((3:Int)))else(some ((0:Int)))
def Yhe(F:Nat):PC:={ats:=Zi,rts:=Zi,code:=Qif F}
theorem Zmz(F:Nat):Qg cx 181 (Yhe F):=qE (Zpf F) .leaf f181 (by kernel_rfl) fun a=>by kernel_rfl
def Zp8(F:Nat):LK:=lC (Qvo F) lN
def Qod(F:Nat)(a:List ByteArray):Option (Int):=
 bif decide (8<(↑(a.length):Int))then(some ((5:Int)))else((Q5 (σ:=Int) (β:=Int ⊕ Unit) (fun(v15:Int)=>bif decide (v15<(↑(a.length):Int))then(gd (decide (0≤v15)) (gd (decide (v15<(↑(a.length):Int))) (gd (decide (v15.toNat<a.length)) ((c67 F (a.getD (v15.toNat) ByteArray.empty)).bind fun(v16:Bool)=>bif !v16 then(some (Sum.inr (Sum.inl (8:Int))))else(some (Sum.inl (w64 (v15+1))))))))else(some (Sum.inr (Sum.inr ())))) F ((0:Int))).bind fun(v12:Int ⊕ Unit)=>Sum.elim (fun(v13:Int)=>some (v13)) (fun(v14:Unit)=>some ((0:Int))) (v12))
def Zzi(F:Nat):PC:={ats:=Qaf,rts:=Zi,code:=Qod F}
theorem Zk8(F:Nat):Qg cx 182 (Zzi F):=qE (Zp8 F) (Q8 2 (.two (.two .leaf (.one (.loop ⟨[.slot 3 (.val (.int .i64))],[]⟩ [(.ret,⟨[.slot 2 (.val (.int .i64))],[]⟩),(.exit 0,⟨[],[]⟩)] ⟨(kU 13 6 (2::3::kD 12 6 [])),[],[]⟩ F .leaf))) .leaf)) f182 (by kernel_rfl) fun a=>by kernel_rfl
def Zjm(F:Nat):LK:=lC (Zk8 F) (lC (Zdl F) (lC (Zmz F) (lC (Yh3 F) lN)))
def Qm0(F:Nat)(a:(Q6)×Int):Option (Int):=
 bif decide (a.2=97)then((Qdd F a.1.2.2.1).bind fun(v19:Int)=>some (v19))else(bif decide (a.2=99)then((Qdd F a.1.2.2.2.1).bind fun(v20:Int)=>some (v20))else(bif decide (a.2=103)then((Qdd F a.1.2.2.2.2.1).bind fun(v21:Int)=>some (v21))else(bif decide (a.2=102)then((Qif F a.1.2.2.2.2.2.2.1).bind fun(v22:Int)=>some (v22))else(bif decide (a.2=116)then((Qif F a.1.2.2.2.2.2.2.2.1).bind fun(v23:Int)=>some (v23))else(bif decide (a.2=107)then((Qdd F a.1.2.2.2.2.2.1).bind fun(v24:Int)=>some (v24))else(bif decide (a.2=109)then((Qiv F (a.1.2.2.2.2.2.2.2.2.1,a.1.2.2.2.2.2.2.2.2.2.1,a.1.2.2.2.2.2.2.2.2.2.2.1)).bind fun(v25:Int)=>some (v25))else((Qod F a.1.2.2.2.2.2.2.2.2.2.2.2).bind fun(v26:Int)=>some (v26))))))))
def Yjo(F:Nat):PC:={ats:=[.agg Xn,.val (.int .u8)],rts:=Zi,code:=Qm0 F}
theorem Ygt(F:Nat):Qg cx 103 (Yjo F):=qE (Zjm F) .leaf f103 (by kernel_rfl) fun a=>by kernel_rfl
def Zk9(F:Nat):LK:=lC (Ygt F) (lC (Zyj F) (lC (Qlp F) (lC (Zwj F) lN)))
def Qt2(F:Nat)(a:Q6)(x0:ByteArray):Option (Bool):=
 (Xe F (x0,(110:Int))).bind fun(u1:Bool)=>bif !u1 then(some (decide (0<(↑(a.2.2.2.2.2.2.2.2.2.2.2.length):Int))))else(some (false))
def Qvr(F:Nat)(a:Q6)(x0:ByteArray):Option (Bool):=
 (Xe F (x0,(109:Int))).bind fun(u1:Bool)=>bif !u1 then(bif !(a.2.2.2.2.2.2.2.2.1=={data:=List.toArray (Qa UInt8)}&&(decide (a.2.2.2.2.2.2.2.2.2.1=0)&&(a.2.2.2.2.2.2.2.2.2.2.1=={data:=List.toArray (Qa UInt8)}&&true)))then(some (true))else(Qt2 F a x0))else(Qt2 F a x0)
def Quz(F:Nat)(a:Q6)(x0:ByteArray):Option (Bool):=
 (Xe F (x0,(116:Int))).bind fun(u1:Bool)=>bif !u1 then(bif !decide (a.2.2.2.2.2.2.2.1=0)then(some (true))else(Qvr F a x0))else(Qvr F a x0)
def Qv3(F:Nat)(a:Q6)(x0:ByteArray):Option (Bool):=
 (Xe F (x0,(102:Int))).bind fun(u1:Bool)=>bif !u1 then(bif !decide (a.2.2.2.2.2.2.1=0)then(some (true))else(Quz F a x0))else(Quz F a x0)
def Qvh(F:Nat)(a:Q6)(x0:ByteArray):Option (Bool):=
 (Xe F (x0,(107:Int))).bind fun(u1:Bool)=>bif !u1 then(bif !Qc a.2.2.2.2.2.1 {data:=List.toArray (Qa UInt8)}then(some (true))else(Qv3 F a x0))else(Qv3 F a x0)
def Qus(F:Nat)(a:Q6)(x0:ByteArray):Option (Bool):=
 (Xe F (x0,(103:Int))).bind fun(u1:Bool)=>bif !u1 then(bif !Qc a.2.2.2.2.1 {data:=List.toArray (Qa UInt8)}then(some (true))else(Qvh F a x0))else(Qvh F a x0)
def Qoz(F:Nat)(a:Q6)(x0:ByteArray):Option (Bool):=
 (Xe F (x0,(99:Int))).bind fun(u1:Bool)=>bif !u1 then(bif !Qc a.2.2.2.1 {data:=List.toArray (Qa UInt8)}then(some (true))else(Qus F a x0))else(Qus F a x0)
def c24(F:Nat)(a:Q6):Option (Int):=
 (V7 F a.2.1).bind fun(v785:ByteArray)=>bif Qc v785 {data:=List.toArray (Qa UInt8)}then(some ((13:Int)))else((c94 F (a.1,(99999:Int))).bind fun(v786:Bool)=>bif v786 then(some ((3:Int)))else((Q5 (σ:=Int) (β:=Int ⊕ Unit) (fun(v1047:Int)=>bif decide (v1047<(↑(ByteArray.size v785):Int))then(gd (decide (0≤v1047)) (gd (decide (v1047.toNat<ByteArray.size v785)) ((Qm0 F (a,(↑(BitVec.toFin (UInt8.toBitVec (ByteArray.get! v785 (v1047.toNat)))).1:Int))).bind fun(v1048:Int)=>bif !decide (v1048=0)then(some (Sum.inr (Sum.inl v1048)))else(some (Sum.inl (w64 (v1047+1)))))))else(some (Sum.inr (Sum.inr ())))) F ((0:Int))).bind fun(v787:Int ⊕ Unit)=>Sum.elim (fun(v788:Int)=>some (v788)) (fun(v789:Unit)=>(bif Qc a.2.1 {data:=List.toArray (108::105::99::101::110::99::101::Qa UInt8)}then(some (decide (a.2.2.2.2.2.2.2.1<a.2.2.2.2.2.2.1)))else(some (false))).bind fun(v790:Bool)=>bif v790 then(some ((11:Int)))else(((Xe F (v785,(97:Int))).bind fun(v792:Bool)=>bif !v792 then(bif !Qc a.2.2.1 {data:=List.toArray (Qa UInt8)}then(some (true))else(Qoz F a v785))else(Qoz F a v785)).bind fun(v791:Bool)=>bif v791 then(some ((1:Int)))else(some ((0:Int))))) (v787)))
def Yik(F:Nat):PC:={ats:=V3,rts:=Zi,code:=c24 F}
theorem Zlb(F:Nat):Qg cx 24 (Yik F):=qE (Zk9 F) (Q8 4 (.two (.two .leaf (.one (.loop ⟨[.slot 4 (.val (.int .i64))],[]⟩ [(.ret,⟨[.slot 2 (.val (.int .i64))],[]⟩),(.exit 0,⟨[],[]⟩)] ⟨[20,21,22,23,24,5,27,2,26,25,4,19,18,17,16,15,14],[],[]⟩ F .leaf))) (.two (.two (.join [(.normal,⟨[.slot 37 (.val (.bool))],[]⟩)] ⟨(kD 37 10 []),[],[]⟩ .leaf) .leaf) (.two (.two (.join [(.normal,⟨[.slot 117 (.val (.bool))],[]⟩)] ⟨(kD 117 80 []),[],[]⟩ .leaf) .leaf) .leaf)))) f24 (by kernel_rfl) fun a=>by kernel_rfl
def Zlm(F:Nat):LK:=lN
def c40(F:Nat)(a:(Qk)×ByteArray):Option (Int):=
 (Q5 (σ:=Int) (β:=Int ⊕ Unit) (fun(v13:Int)=>bif decide (v13<(↑(a.1.2.1.length):Int))then(gd (decide (0≤v13)) (gd (decide (v13<(↑(a.1.2.1.length):Int))) (gd (decide (v13.toNat<a.1.2.1.length)) (bif Qc (a.1.2.1.getD (v13.toNat) Zx).1 a.2 then(some (Sum.inr (Sum.inl v13)))else(some (Sum.inl (w64 (v13+1))))))))else(some (Sum.inr (Sum.inr ())))) F ((0:Int))).bind fun(v10:Int ⊕ Unit)=>Sum.elim (fun(v11:Int)=>some (v11)) (fun(v12:Unit)=>some ((-1:Int))) (v10)
def Yhs(F:Nat):PC:={ats:=Qcz,rts:=Zi,code:=c40 F}
theorem V5(F:Nat):Qg cx 40 (Yhs F):=qE (Zlm F) (.two .leaf (.two (.two .leaf (.one (.loop ⟨[.slot 5 (.val (.int .i64))],[]⟩ [(.ret,⟨[.slot 4 (.val (.int .i64))],[]⟩),(.exit 0,⟨[],[]⟩)] ⟨(kU 13 8 (4::21::5::kD 12 7 [])),[],[]⟩ F .leaf))) .leaf)) f40 (by kernel_rfl) fun a=>by kernel_rfl
def Yc2(F:Nat):LK:=lN
def c53(F:Nat)(a:(Qk)×ByteArray×ByteArray):Option (Int):=
 (Q5 (σ:=Int) (β:=Int ⊕ Unit) (fun(v15:Int)=>bif decide (v15<(↑(a.1.2.2.2.1.length):Int))then((gd (decide (0≤v15)) (gd (decide (v15<(↑(a.1.2.2.2.1.length):Int))) (gd (decide (v15.toNat<a.1.2.2.2.1.length)) (bif Qc (a.1.2.2.2.1.getD (v15.toNat) Zd).1 a.2.1 then(gd (decide (0≤v15)) (gd (decide (v15<(↑(a.1.2.2.2.1.length):Int))) (gd (decide (v15.toNat<a.1.2.2.2.1.length)) (some (Qc (a.1.2.2.2.1.getD (v15.toNat) Zd).2.1 a.2.2)))))else(some (false)))))).bind fun(v16:Bool)=>bif v16 then(some (Sum.inr (Sum.inl v15)))else(some (Sum.inl (w64 (v15+1)))))else(some (Sum.inr (Sum.inr ())))) F ((0:Int))).bind fun(v12:Int ⊕ Unit)=>Sum.elim (fun(v13:Int)=>some (v13)) (fun(v14:Unit)=>some ((-1:Int))) (v12)
def Ztk(F:Nat):PC:={ats:=Qhs,rts:=Zi,code:=c53 F}
theorem Ux(F:Nat):Qg cx 53 (Ztk F):=qE (Yc2 F) (.two .leaf (.two (.two .leaf (.one (.loop ⟨[.slot 7 (.val (.int .i64))],[]⟩ [(.ret,⟨[.slot 6 (.val (.int .i64))],[]⟩),(.exit 0,⟨[],[]⟩)] ⟨(kU 15 18 (6::33::7::kD 14 7 [])),[],[]⟩ F (.two .leaf (.two (.one (.two (.join [(.normal,⟨[.slot 32 (.val (.bool))],[]⟩)] ⟨(kD 32 18 []),[],[]⟩ .leaf) .leaf)) .leaf))))) .leaf)) f53 (by kernel_rfl) fun a=>by kernel_rfl
def Ybw(F:Nat):LK:=lN
def c54(F:Nat)(a:List ByteArray×ByteArray):Option (Bool):=
 (Q5 (σ:=Int) (β:=Bool ⊕ Unit) (fun(v13:Int)=>bif decide (v13<(↑(a.1.length):Int))then(gd (decide (0≤v13)) (gd (decide (v13<(↑(a.1.length):Int))) (gd (decide (v13.toNat<a.1.length)) (bif Qc (a.1.getD (v13.toNat) ByteArray.empty) a.2 then(some (Sum.inr (Sum.inl true)))else(some (Sum.inl (w64 (v13+1))))))))else(some (Sum.inr (Sum.inr ())))) F ((0:Int))).bind fun(v10:Bool ⊕ Unit)=>Sum.elim (fun(v11:Bool)=>some (v11)) (fun(v12:Unit)=>some (false)) (v10)
def Yfj(F:Nat):PC:={ats:=Qns,rts:=Y6,code:=c54 F}
theorem Zey(F:Nat):Qg cx 54 (Yfj F):=qE (Ybw F) (.two .leaf (.two (.two .leaf (.one (.loop ⟨[.slot 5 (.val (.int .i64))],[]⟩ [(.ret,⟨[.slot 4 (.val (.bool))],[]⟩),(.exit 0,⟨[],[]⟩)] ⟨(kU 12 6 (4::5::kD 11 6 [])),[],[]⟩ F .leaf))) .leaf)) f54 (by kernel_rfl) fun a=>by kernel_rfl
def Zjp(F:Nat):LK:=lN
def Qjl(F:Nat)(a:(Qk)×ByteArray×ByteArray):Option (Int):=
 (Q5 (σ:=Int) (β:=Int ⊕ Unit) (fun(v15:Int)=>bif decide (v15<(↑(a.1.2.2.2.2.length):Int))then((gd (decide (0≤v15)) (gd (decide (v15<(↑(a.1.2.2.2.2.length):Int))) (gd (decide (v15.toNat<a.1.2.2.2.2.length)) (bif Qc (a.1.2.2.2.2.getD (v15.toNat) (ByteArray.empty,ByteArray.empty,Qa ByteArray)).1 a.2.1 then(gd (decide (0≤v15)) (gd (decide (v15<(↑(a.1.2.2.2.2.length):Int))) (gd (decide (v15.toNat<a.1.2.2.2.2.length)) (some (Qc (a.1.2.2.2.2.getD (v15.toNat) (ByteArray.empty,ByteArray.empty,Qa ByteArray)).2.1 a.2.2)))))else(some (false)))))).bind fun(v16:Bool)=>bif v16 then(some (Sum.inr (Sum.inl v15)))else(some (Sum.inl (w64 (v15+1)))))else(some (Sum.inr (Sum.inr ())))) F ((0:Int))).bind fun(v12:Int ⊕ Unit)=>Sum.elim (fun(v13:Int)=>some (v13)) (fun(v14:Unit)=>some ((-1:Int))) (v12)
def Zu2(F:Nat):PC:={ats:=Qhs,rts:=Zi,code:=Qjl F}
theorem Qca(F:Nat):Qg cx 145 (Zu2 F):=qE (Zjp F) (.two .leaf (.two (.two .leaf (.one (.loop ⟨[.slot 7 (.val (.int .i64))],[]⟩ [(.ret,⟨[.slot 6 (.val (.int .i64))],[]⟩),(.exit 0,⟨[],[]⟩)] ⟨(kU 15 18 (6::33::7::kD 14 7 [])),[],[]⟩ F (.two .leaf (.two (.one (.two (.join [(.normal,⟨[.slot 32 (.val (.bool))],[]⟩)] ⟨(kD 32 18 []),[],[]⟩ .leaf) .leaf)) .leaf))))) .leaf)) f145 (by kernel_rfl) fun a=>by kernel_rfl
def Ycn(F:Nat):LK:=lC (Z1 F) lN
def c87(F:Nat)(a:Int×Int):Option (Int):=
 (bif decide (a.1<0)then(some ((3:Int)))else((Ql F (decide (a.2<a.1),(3:Int))).bind fun(v9:Int)=>some (v9))).bind fun(v8:Int)=>some (v8)
def Zv5(F:Nat):PC:={ats:=Qn6,rts:=Zi,code:=c87 F}
theorem Zgy(F:Nat):Qg cx 87 (Zv5 F):=qE (Ycn F) (.two .leaf (.two (.join [(.normal,⟨[.slot 4 (.val (.int .i64))],[]⟩)] ⟨(4::kD 12 8 []),[],[]⟩ .leaf) .leaf)) f87 (by kernel_rfl) fun a=>by kernel_rfl
def Zn4(F:Nat):LK:=lN
def Wg(F:Nat)(a:List Int):Option (Int):=
 (Q5 (σ:=Int) (β:=Int ⊕ Unit) (fun(v13:Int)=>bif decide (v13<(↑(a.length):Int))then(gd (decide (0≤v13)) (gd (decide (v13<(↑(a.length):Int))) (gd (decide (v13.toNat<a.length)) (bif !decide (a.getD (v13.toNat) (0:Int)=(0:Int))then(some (Sum.inr (Sum.inl (a.getD (v13.toNat) (0:Int)))))else(some (Sum.inl (w64 (v13+1))))))))else(some (Sum.inr (Sum.inr ())))) F ((0:Int))).bind fun(v10:Int ⊕ Unit)=>Sum.elim (fun(v11:Int)=>some (v11)) (fun(v12:Unit)=>some ((0:Int))) (v10)
def Zsp(F:Nat):PC:={ats:=[.val (.seq kt6)],rts:=Zi,code:=Wg F}
theorem Zdw(F:Nat):Qg cx 175 (Zsp F):=qE (Zn4 F) (.two .leaf (.two (.two .leaf (.one (.loop ⟨[.slot 7 (.val (.int .i64))],[]⟩ [(.ret,⟨[.slot 2 (.val (.int .i64))],[]⟩),(.exit 0,⟨[],[]⟩)] ⟨[14,7,11,12,2,13,4,10,9,8],[],[]⟩ F .leaf))) .leaf)) f175 (by kernel_rfl) fun a=>by kernel_rfl
def Zpd(F:Nat):LK:=lN
def X0(F:Nat)(a:Bool×Int):Option (Int):=
 bif a.1 then(some a.2)else(some ((0:Int)))
def Ziy(F:Nat):PC:={ats:=Zga,rts:=Zi,code:=X0 F}
theorem Qx0(F:Nat):Qg cx 176 (Ziy F):=qE (Zpd F) .leaf f176 (by kernel_rfl) fun a=>by kernel_rfl
def Zww(F:Nat):LK:=lN
def Qlm(F:Nat)(a:List ByteArray×ByteArray):Option (Int):=
 (Q5 (σ:=Int) (β:=Int ⊕ Unit) (fun(v13:Int)=>bif decide (v13<(↑(a.1.length):Int))then(gd (decide (0≤v13)) (gd (decide (v13<(↑(a.1.length):Int))) (gd (decide (v13.toNat<a.1.length)) (bif Qc a.2 (a.1.getD (v13.toNat) ByteArray.empty)then(some (Sum.inr (Sum.inl v13)))else(some (Sum.inl (w64 (v13+1))))))))else(some (Sum.inr (Sum.inr ())))) F ((0:Int))).bind fun(v10:Int ⊕ Unit)=>Sum.elim (fun(v11:Int)=>some (v11)) (fun(v12:Unit)=>some ((-1:Int))) (v10)
def Ztw(F:Nat):PC:={ats:=Qns,rts:=Zi,code:=Qlm F}
theorem Yf1(F:Nat):Qg cx 183 (Ztw F):=qE (Zww F) (.two .leaf (.two (.two .leaf (.one (.loop ⟨[.slot 8 (.val (.int .i64))],[]⟩ [(.ret,⟨[.slot 4 (.val (.int .i64))],[]⟩),(.exit 0,⟨[],[]⟩)] ⟨[18,8,11,12,13,14,15,16,4,17,5,10,9],[],[]⟩ F .leaf))) .leaf)) f183 (by kernel_rfl) fun a=>by kernel_rfl
def Zny(F:Nat):LK:=lC (Yf1 F) lN
def W6(F:Nat)(a:List ByteArray×ByteArray):Option (Bool):=
 (Qlm F a).bind fun(v5:Int)=>some (decide (0≤v5))
def Zh3(F:Nat):PC:={ats:=Qns,rts:=Y6,code:=W6 F}
theorem Jz(F:Nat):Qg cx 107 (Zh3 F):=qE (Zny F) .leaf f107 (by kernel_rfl) fun a=>by kernel_rfl
def Zog(F:Nat):LK:=lC (Jz F) lN
def Qpd(F:Nat)(a:ByteArray):Option (Bool):=
 (W6 F ({data:=List.toArray (68::78::83::Qa UInt8)}::{data:=List.toArray (68::78::70::Qa UInt8)}::{data:=List.toArray (68::81::Qa UInt8)}::{data:=List.toArray (78::77::Qa UInt8)}::Qa ByteArray,a)).bind fun(v5:Bool)=>some (v5)
def Yj6(F:Nat):PC:={ats:=Kn,rts:=Y6,code:=Qpd F}
theorem Ycq(F:Nat):Qg cx 177 (Yj6 F):=qE (Zog F) .leaf f177 (by kernel_rfl) fun a=>by kernel_rfl
def Zkl(F:Nat):LK:=lN
def Kb(F:Nat)(a:Int×Int×Int):Option (Bool):=
 (bif decide (a.1<a.2.1)then(some (true))else(some (decide (a.2.2<a.1)))).bind fun(v5:Bool)=>some (v5)
def Yh4(F:Nat):PC:={ats:=Zbh,rts:=Y6,code:=Kb F}
theorem Yi3(F:Nat):Qg cx 179 (Yh4 F):=qE (Zkl F) (.two .leaf (.two (.join [(.normal,⟨[.slot 6 (.val (.bool))],[]⟩)] ⟨(6::kD 14 8 []),[],[]⟩ .leaf) .leaf)) f179 (by kernel_rfl) fun a=>by kernel_rfl
def Ya9(F:Nat):LK:=lC (Yi3 F) (lC (Ycq F) (lC (Qx0 F) (lC (Zdw F) lN)))
def c99(F:Nat)(a:ByteArray×Int×ByteArray):Option (Int):=
 bif Qc a.1 {data:=List.toArray (110::111::110::101::Qa UInt8)}then((Qpd F a.2.2).bind fun(v66:Bool)=>(X0 F (!v66,(1:Int))).bind fun(v67:Int)=>(X0 F (!decide (a.2.1=0),(3:Int))).bind fun(v68:Int)=>(Wg F (v67::v68::Qa Int)).bind fun(v69:Int)=>some (v69))else((bif Qc a.1 {data:=List.toArray (116::105::109::101::Qa UInt8)}then((X0 F (!Qc a.2.2 {data:=List.toArray (Qa UInt8)},(1:Int))).bind fun(v88:Int)=>(Kb F (a.2.1,(1:Int),(863999999:Int))).bind fun(v89:Bool)=>(X0 F (v89,(3:Int))).bind fun(v90:Int)=>(Wg F ((0:Int)::v88::v90::Qa Int)).bind fun(v91:Int)=>some (v91))else(bif Qc a.1 {data:=List.toArray (108::101::110::103::116::104::Qa UInt8)}then((X0 F (!Qc a.2.2 {data:=List.toArray (Qa UInt8)},(1:Int))).bind fun(v92:Int)=>(Kb F (a.2.1,(0:Int),(999999:Int))).bind fun(v93:Bool)=>(X0 F (v93,(3:Int))).bind fun(v94:Int)=>(Wg F ((0:Int)::v92::v94::Qa Int)).bind fun(v95:Int)=>some (v95))else(bif Qc a.1 {data:=List.toArray (112::111::105::110::116::115::Qa UInt8)}then((X0 F (!Qc a.2.2 {data:=List.toArray (Qa UInt8)},(1:Int))).bind fun(v96:Int)=>(Kb F (a.2.1,(0:Int),(99999:Int))).bind fun(v97:Bool)=>(X0 F (v97,(3:Int))).bind fun(v98:Int)=>(Wg F ((0:Int)::v96::v98::Qa Int)).bind fun(v99:Int)=>some (v99))else((X0 F (!Qc a.2.2 {data:=List.toArray (Qa UInt8)},(1:Int))).bind fun(v100:Int)=>(Kb F (a.2.1,(0:Int),(0:Int))).bind fun(v101:Bool)=>(X0 F (v101,(3:Int))).bind fun(v102:Int)=>(Wg F ((13:Int)::v100::v102::Qa Int)).bind fun(v103:Int)=>some (v103))))).bind fun(v70:Int)=>(bif Qc a.1 {data:=List.toArray (116::105::109::101::Qa UInt8)}then((X0 F (!Qc a.2.2 {data:=List.toArray (Qa UInt8)},(1:Int))).bind fun(v72:Int)=>(Kb F (a.2.1,(1:Int),(863999999:Int))).bind fun(v73:Bool)=>(X0 F (v73,(3:Int))).bind fun(v74:Int)=>(Wg F ((0:Int)::v72::v74::Qa Int)).bind fun(v75:Int)=>some (v75))else(bif Qc a.1 {data:=List.toArray (108::101::110::103::116::104::Qa UInt8)}then((X0 F (!Qc a.2.2 {data:=List.toArray (Qa UInt8)},(1:Int))).bind fun(v76:Int)=>(Kb F (a.2.1,(0:Int),(999999:Int))).bind fun(v77:Bool)=>(X0 F (v77,(3:Int))).bind fun(v78:Int)=>(Wg F ((0:Int)::v76::v78::Qa Int)).bind fun(v79:Int)=>some (v79))else(bif Qc a.1 {data:=List.toArray (112::111::105::110::116::115::Qa UInt8)}then((X0 F (!Qc a.2.2 {data:=List.toArray (Qa UInt8)},(1:Int))).bind fun(v80:Int)=>(Kb F (a.2.1,(0:Int),(99999:Int))).bind fun(v81:Bool)=>(X0 F (v81,(3:Int))).bind fun(v82:Int)=>(Wg F ((0:Int)::v80::v82::Qa Int)).bind fun(v83:Int)=>some (v83))else((X0 F (!Qc a.2.2 {data:=List.toArray (Qa UInt8)},(1:Int))).bind fun(v84:Int)=>(Kb F (a.2.1,(0:Int),(0:Int))).bind fun(v85:Bool)=>(X0 F (v85,(3:Int))).bind fun(v86:Int)=>(Wg F ((13:Int)::v84::v86::Qa Int)).bind fun(v87:Int)=>some (v87))))).bind fun(v71:Int)=>gd (Qt.eqv (Qf.val (Ty.int Go.IntKind.i64)::Qa Qf) v70 v71) (some (v70)))
def Qox(F:Nat):PC:={ats:=[.agg kt7],rts:=Zi,code:=c99 F}
theorem Wk(F:Nat):Qg cx 99 (Qox F):=qE (Ya9 F) (Q8 2 (.two (.within [(178,.leaf)]) .leaf)) f99 (by kernel_rfl) fun a=>by kernel_rfl
def Zlx(F:Nat):LK:=lN
def X1(F:Nat)(a:(Yc)×ByteArray×Int×ByteArray):Option (Bool):=
 (bif Qc a.2.1 a.1.2.1 then(some (true))else(some (Qc a.2.1 {data:=List.toArray (110::111::110::101::Qa UInt8)}))).bind fun(v5:Bool)=>some (v5)
def Zpo(F:Nat):PC:={ats:=[.agg kt4,.agg kt7],rts:=Y6,code:=X1 F}
theorem Qlj(F:Nat):Qg cx 155 (Zpo F):=qE (Zlx F) (.two .leaf (.two (.join [(.normal,⟨[.slot 4 (.val (.bool))],[]⟩)] ⟨(4::kD 14 10 []),[],[]⟩ .leaf) .leaf)) f155 (by kernel_rfl) fun a=>by kernel_rfl
def Yj7(F:Nat):LK:=lC (Jz F) (lC (Z1 F) (lC (Ve F) (lC (Zgy F) (lC (Z9 F) (lC (Qlj F) (lC (Wk F) lN))))))
def c93(F:Nat)(a:Yc):Option (Int):=
 ((W6 F ({data:=List.toArray (116::105::109::101::Qa UInt8)}::{data:=List.toArray (108::101::110::103::116::104::Qa UInt8)}::{data:=List.toArray (112::111::105::110::116::115::Qa UInt8)}::Qa ByteArray,a.2.1)).bind fun(v63:Bool)=>(Ql F (!v63,(13:Int))).bind fun(v64:Int)=>bif !Qc a.2.2.1 {data:=List.toArray (Qa UInt8)}then((c98 F a.2.2.1).bind fun(v65:Bool)=>(Ql F (!v65,(8:Int))).bind fun(v66:Int)=>(c87 F (a.2.2.2.1,(120:Int))).bind fun(v67:Int)=>(c87 F (a.2.2.2.2.1,(120:Int))).bind fun(v68:Int)=>(Ql F (decide (a.2.2.2.2.1<a.2.2.2.1),(11:Int))).bind fun(v69:Int)=>(Qy F (v64::v66::v67::v68::v69::Qa Int)).bind fun(v70:Int)=>some (v70))else((c87 F (a.2.2.2.1,(120:Int))).bind fun(v71:Int)=>(c87 F (a.2.2.2.2.1,(120:Int))).bind fun(v72:Int)=>(Ql F (decide (a.2.2.2.2.1<a.2.2.2.1),(11:Int))).bind fun(v73:Int)=>(Qy F (v64::(0:Int)::v71::v72::v73::Qa Int)).bind fun(v74:Int)=>some (v74))).bind fun(v55:Int)=>bif !decide (v55=0)then(some (v55))else((c87 F (a.2.2.2.2.2.1,(160:Int))).bind fun(v56:Int)=>(c87 F (a.2.2.2.2.2.2.1,(160:Int))).bind fun(v57:Int)=>(c87 F (a.2.2.2.2.2.2.2.2.2.2,(8:Int))).bind fun(v58:Int)=>(c99 F (a.2.2.2.2.2.2.2.1,a.2.2.2.2.2.2.2.2.1,a.2.2.2.2.2.2.2.2.2.1)).bind fun(v59:Int)=>(X1 F (a,a.2.2.2.2.2.2.2.1,a.2.2.2.2.2.2.2.2.1,a.2.2.2.2.2.2.2.2.2.1)).bind fun(v60:Bool)=>(Ql F (!v60,(13:Int))).bind fun(v61:Int)=>(Qy F (v56::v57::v58::v59::v61::Qa Int)).bind fun(v62:Int)=>some (v62))
def Yjx(F:Nat):PC:={ats:=[.agg kt4],rts:=Zi,code:=c93 F}
theorem Qwg(F:Nat):Qg cx 93 (Yjx F):=qE (Yj7 F) (Q8 2 (.two (.two (.join [(.normal,⟨[.slot 4 (.val (.int .i64))],[]⟩)] ⟨(4::kD 35 30 []),[],[]⟩ .leaf) .leaf) .leaf)) f93 (by kernel_rfl) fun a=>by kernel_rfl
def Yhb:Qi:=⟨[.slot 0 (.agg kt4),.one 0 110 kt4],[(1,.stat (.ptr 0 11 0 0))]⟩
def Ztu:Qi:=⟨[.slot 0 (.val (.bool))],[]⟩
def Ybi(F:Nat):LK:=lN
def Zvl(F:Nat):PX:=qX (Ybi F) .leaf f91 (pxB 2 [.arg 1] Yhb 1 Ztu [] [])
theorem Qjo(F:Nat):Zb cx 91 (Zvl F):=Wq (by kernel_rfl)
def Yf2:Qi:=⟨[.slot 0 (.val (.seq kt4)),.one 0 110 kt4],[(1,.stat (.fn (.func 91) [] [.ptr 0 11 0 0]))]⟩
def Zpe:Qi:=⟨[.slot 0 (.val (.int .i64))],[]⟩
def Zqz(F:Nat):LK:=lX (Qjo F) lN
def Ql4(F:Nat)(a:List (Yc)×Yc):Option (Int):=
 (Q5 (σ:=Int) (β:=Int ⊕ Unit) (fun(v13:Int)=>bif decide (v13<(↑(a.1.length):Int))then(gd (decide (0≤v13)) (gd (decide (v13<(↑(a.1.length):Int))) (gd (decide (v13.toNat<a.1.length)) (bif Qc (a.1.getD (v13.toNat) Q7).1 a.2.1 then(some (Sum.inr (Sum.inl v13)))else(some (Sum.inl (w64 (v13+1))))))))else(some (Sum.inr (Sum.inr ())))) F ((0:Int))).bind fun(v10:Int ⊕ Unit)=>Sum.elim (fun(v11:Int)=>some (v11)) (fun(v12:Unit)=>some ((-1:Int))) (v10)
def Yhf(F:Nat):PX:={np:=2,locs:=[.cap (.arg 1) 0],τ:=Yf2,nr:=1,ω:=Zpe,ids:=[],mv:=[],code:=Ql4 F}
theorem Qic(F:Nat):Zb cx 154 (Yhf F):=Yb (Zqz F) (.two .leaf (.two (.two .leaf (.one (.loop ⟨[.slot 8 (.val (.int .i64))],[]⟩ [(.ret,⟨[.slot 4 (.val (.int .i64))],[]⟩),(.exit 0,⟨[],[]⟩)] ⟨[18,8,11,12,13,14,15,16,4,17,5,10,9],[],[]⟩ F .leaf))) .leaf)) f154 (by kernel_rfl) fun a=>by kernel_rfl
def Zko:Qi:=⟨[.slot 0 (.val (.seq kt4)),.one 0 110 kt4],[(1,.stat (.fn (.func 91) [] [.ptr 0 11 0 0]))]⟩
def Zn0:Qi:=⟨[.slot 0 (.val (.bool))],[]⟩
def Zh9(F:Nat):LK:=lX (Qjo F) (lX (Qic F) lN)
def Qm7(F:Nat)(a:List (Yc)×Yc):Option (Bool):=
 (Ql4 F a).bind fun(v5:Int)=>some (decide (0≤v5))
def Zof(F:Nat):PX:={np:=2,locs:=[.cap (.arg 1) 0],τ:=Zko,nr:=1,ω:=Zn0,ids:=[],mv:=[],code:=Qm7 F}
theorem Qu0(F:Nat):Zb cx 90 (Zof F):=Yb (Zh9 F) .leaf f90 (by kernel_rfl) fun a=>by kernel_rfl
def Zoo:Qi:=⟨[.slot 0 (.val (.int .i64)),.slot 1 (.agg kt4),.one 0 24 Xh],[(2,.stat (.ptr 0 5 0 0))]⟩
def Zl9:Qi:=⟨[.slot 0 (.val (.int .i64))],[]⟩
def Zu1(F:Nat):LK:=lC (Vd F) (lC (Z1 F) (lC (Qwg F) (lC (Z9 F) (lX (Qjo F) (lX (Qic F) (lX (Qu0 F) lN))))))
def Qp0(F:Nat)(a:Int×(Yc)×Zo):Option (Int):=
 gd (decide (0≤a.1)) (gd (decide (a.1≤(↑(a.2.2.2.2.2.2.length):Int))) ((Qm7 F (List.drop (0:Nat) (List.take (a.1.toNat) a.2.2.2.2.2.2),a.2.1.1,a.2.1.2.1,a.2.1.2.2.1,a.2.1.2.2.2.1,a.2.1.2.2.2.2.1,a.2.1.2.2.2.2.2.1,a.2.1.2.2.2.2.2.2.1,a.2.1.2.2.2.2.2.2.2.1,a.2.1.2.2.2.2.2.2.2.2.1,a.2.1.2.2.2.2.2.2.2.2.2.1,a.2.1.2.2.2.2.2.2.2.2.2.2)).bind fun(v13:Bool)=>(c92 F a.2.1.1).bind fun(v14:Int)=>(Ql F (v13,(9:Int))).bind fun(v15:Int)=>(c93 F a.2.1).bind fun(v16:Int)=>(Qy F (v14::v15::v16::Qa Int)).bind fun(v17:Int)=>some (v17)))
def Zot(F:Nat):PX:={np:=3,locs:=[.arg 2],τ:=Zoo,nr:=1,ω:=Zl9,ids:=[],mv:=[],code:=Qp0 F}
theorem Qxy(F:Nat):Zb cx 89 (Zot F):=Yb (Zu1 F) .leaf f89 (by kernel_rfl) fun a=>by kernel_rfl
def Zv2:Qi:=⟨[.slot 0 (.val (.seq kt4)),.one 0 24 Xh],[(1,.stat (.fn (.func 89) [] [.ptr 0 5 0 0]))]⟩
def Zkj:Qi:=⟨[.slot 0 (.val (.int .i64))],[]⟩
def Yf0(F:Nat):LK:=lC (Vd F) (lC (Z1 F) (lC (Qwg F) (lC (Z9 F) (lX (Qjo F) (lX (Qic F) (lX (Qu0 F) (lX (Qxy F) lN)))))))
def Qog(F:Nat)(a:List (Yc)×Zo):Option (Int):=
 (Q5 (σ:=Int) (β:=Int ⊕ Unit) (fun(v15:Int)=>bif decide (v15<(↑(a.1.length):Int))then(gd (decide (0≤v15)) (gd (decide (v15<(↑(a.1.length):Int))) (gd (decide (v15.toNat<a.1.length)) ((Qp0 F (v15,(a.1.getD (v15.toNat) Q7),a.2.1,a.2.2.1,a.2.2.2.1,a.2.2.2.2.1,a.2.2.2.2.2)).bind fun(v16:Int)=>bif !decide (v16=0)then(some (Sum.inr (Sum.inl v16)))else(some (Sum.inl (w64 (v15+1))))))))else(some (Sum.inr (Sum.inr ())))) F ((0:Int))).bind fun(v12:Int ⊕ Unit)=>Sum.elim (fun(v13:Int)=>some (v13)) (fun(v14:Unit)=>some ((0:Int))) (v12)
def Zuu(F:Nat):PX:={np:=2,locs:=[.cap (.arg 1) 0],τ:=Zv2,nr:=1,ω:=Zkj,ids:=[],mv:=[],code:=Qog F}
theorem Ylp(F:Nat):Zb cx 88 (Zuu F):=Yb (Yf0 F) (.two .leaf (.two (.two .leaf (.one (.loop ⟨[.slot 10 (.val (.int .i64))],[]⟩ [(.ret,⟨[.slot 4 (.val (.int .i64))],[]⟩),(.exit 0,⟨[],[]⟩)] ⟨[22,10,15,16,17,18,7,21,4,20,19,5,6,14,13,12,11],[],[]⟩ F .leaf))) .leaf)) f88 (by kernel_rfl) fun a=>by kernel_rfl
def Ztl(F:Nat):LK:=lC (Vd F) (lC (Qwg F) (lC (Z9 F) (lC (Zgy F) (lC (Z1 F) (lC (J3 F) (lX (Qjo F) (lX (Qic F) (lX (Qu0 F) (lX (Qxy F) (lX (Ylp F) lN))))))))))
def c21(F:Nat)(a:Zo):Option (Int):=
 ((Z5 F (a.1::a.2.1::a.2.2.1::Qa Int)).bind fun(v33:Int)=>bif decide (a.2.2.1<a.2.1)then((c87 F (a.2.2.2.1,(32:Int))).bind fun(v34:Int)=>(Ql F (decide (32<(↑(a.2.2.2.2.length):Int)),(5:Int))).bind fun(v35:Int)=>(Qy F (v33::(11:Int)::v34::v35::Qa Int)).bind fun(v36:Int)=>some (v36))else((Ql F (decide (a.1<a.2.2.1),(11:Int))).bind fun(v37:Int)=>(c87 F (a.2.2.2.1,(32:Int))).bind fun(v38:Int)=>(Ql F (decide (32<(↑(a.2.2.2.2.length):Int)),(5:Int))).bind fun(v39:Int)=>(Qy F (v33::v37::v38::v39::Qa Int)).bind fun(v40:Int)=>some (v40))).bind fun(v31:Int)=>bif !decide (v31=0)then(some (v31))else((Qog F (a.2.2.2.2,a.1,a.2.1,a.2.2.1,a.2.2.2.1,a.2.2.2.2)).bind fun(v32:Int)=>some (v32))
def Qqs(F:Nat):PC:={ats:=[.agg Xh],rts:=Zi,code:=c21 F}
theorem Qma(F:Nat):Qg cx 21 (Qqs F):=qE (Ztl F) (.two .leaf (.two (.two (.join [(.normal,⟨[.slot 3 (.val (.int .i64))],[]⟩)] ⟨(3::kD 34 31 []),[],[]⟩ .leaf) .leaf) .leaf)) f21 (by kernel_rfl) fun a=>by kernel_rfl
def Yem(F:Nat):LK:=lN
def Qwl(F:Nat):PC:=qT (Yem F) .leaf f105 Vs Y6
theorem Qvj(F:Nat):Qg cx 105 (Qwl F):=Qwh (by kernel_rfl)
def Ydo:Qi:=⟨[.slot 0 (.agg kt4),.one 0 9 Zz],[(1,.stat (.ptr 0 1 0 0))]⟩
def Zv8:Qi:=⟨[.slot 0 (.val (.bool))],[]⟩
def Znj(F:Nat):LK:=lN
def Zre(F:Nat):PX:=qX (Znj F) .leaf f195 (pxB 2 [.arg 1] Ydo 1 Zv8 [] [])
theorem Zb4(F:Nat):Zb cx 195 (Zre F):=Wq (by kernel_rfl)
def Zjd:Qi:=⟨[.slot 0 (.val (.seq kt4)),.one 0 9 Zz],[(1,.stat (.fn (.func 195) [] [.ptr 0 1 0 0]))]⟩
def Zmp:Qi:=⟨[.slot 0 (.val (.int .i64))],[]⟩
def Zrq(F:Nat):LK:=lX (Zb4 F) lN
def Qpr(F:Nat)(a:List (Yc)×ByteArray):Option (Int):=
 (Q5 (σ:=Int) (β:=Int ⊕ Unit) (fun(v13:Int)=>bif decide (v13<(↑(a.1.length):Int))then(gd (decide (0≤v13)) (gd (decide (v13<(↑(a.1.length):Int))) (gd (decide (v13.toNat<a.1.length)) (bif Qc (a.1.getD (v13.toNat) Q7).1 a.2 then(some (Sum.inr (Sum.inl v13)))else(some (Sum.inl (w64 (v13+1))))))))else(some (Sum.inr (Sum.inr ())))) F ((0:Int))).bind fun(v10:Int ⊕ Unit)=>Sum.elim (fun(v11:Int)=>some (v11)) (fun(v12:Unit)=>some ((-1:Int))) (v10)
def Yhu(F:Nat):PX:={np:=2,locs:=[.cap (.arg 1) 0],τ:=Zjd,nr:=1,ω:=Zmp,ids:=[],mv:=[],code:=Qpr F}
theorem Zzj(F:Nat):Zb cx 154 (Yhu F):=Yb (Zrq F) (.two .leaf (.two (.two .leaf (.one (.loop ⟨[.slot 8 (.val (.int .i64))],[]⟩ [(.ret,⟨[.slot 4 (.val (.int .i64))],[]⟩),(.exit 0,⟨[],[]⟩)] ⟨[18,8,11,12,13,14,15,16,4,17,5,10,9],[],[]⟩ F .leaf))) .leaf)) f154 (by kernel_rfl) fun a=>by kernel_rfl
def Yaf(F:Nat):LK:=lX (Qic F) (lX (Zb4 F) (lX (Zzj F) lN))
def Qcg(F:Nat)(a:(Zo)×ByteArray):Option ((Yc)×Bool):=
 (Qpr F (a.1.2.2.2.2,a.2)).bind fun(v5:Int)=>bif decide (v5<0)then(some ((({data:=List.toArray (Qa UInt8)},{data:=List.toArray (Qa UInt8)},{data:=List.toArray (Qa UInt8)},(0:Int),(0:Int),(0:Int),(0:Int),{data:=List.toArray (Qa UInt8)},(0:Int),{data:=List.toArray (Qa UInt8)},(0:Int)),false)))else(gd (decide (0≤v5)) (gd (decide (v5<(↑(a.1.2.2.2.2.length):Int))) (gd (decide (v5.toNat<a.1.2.2.2.2.length)) (some (((a.1.2.2.2.2.getD (v5.toNat) Q7),true))))))
def Qw1(F:Nat):PC:={ats:=[.agg Xh,.val (.str)],rts:=[.agg kt4,.val (.bool)],code:=Qcg F}
theorem Qb4(F:Nat):Qg cx 131 (Qw1 F):=qE (Yaf F) .leaf f131 (by kernel_rfl) fun a=>by kernel_rfl
def Zka:Qi:=⟨[.slot 0 (.agg kt3),.one 0 9 Zz],[(1,.stat (.ptr 0 1 0 0))]⟩
def Zx4:Qi:=⟨[.slot 0 (.val (.bool))],[]⟩
def Zlu(F:Nat):LK:=lN
def Zi7(F:Nat):PX:=qX (Zlu F) .leaf f185 (pxB 2 [.arg 1] Zka 1 Zx4 [] [])
theorem Zeb(F:Nat):Zb cx 185 (Zi7 F):=Wq (by kernel_rfl)
def Yhy:Qi:=⟨[.slot 0 (.val (.seq kt3)),.one 0 9 Zz],[(1,.stat (.fn (.func 185) [] [.ptr 0 1 0 0]))]⟩
def Ybt:Qi:=⟨[.slot 0 (.val (.int .i64))],[]⟩
def Zuq(F:Nat):LK:=lX (Zeb F) lN
def Qmg(F:Nat)(a:List (Qw)×ByteArray):Option (Int):=
 (Q5 (σ:=Int) (β:=Int ⊕ Unit) (fun(v13:Int)=>bif decide (v13<(↑(a.1.length):Int))then(gd (decide (0≤v13)) (gd (decide (v13<(↑(a.1.length):Int))) (gd (decide (v13.toNat<a.1.length)) (bif Qc (a.1.getD (v13.toNat) Zx).1 a.2 then(some (Sum.inr (Sum.inl v13)))else(some (Sum.inl (w64 (v13+1))))))))else(some (Sum.inr (Sum.inr ())))) F ((0:Int))).bind fun(v10:Int ⊕ Unit)=>Sum.elim (fun(v11:Int)=>some (v11)) (fun(v12:Unit)=>some ((-1:Int))) (v10)
def Zw2(F:Nat):PX:={np:=2,locs:=[.cap (.arg 1) 0],τ:=Yhy,nr:=1,ω:=Ybt,ids:=[],mv:=[],code:=Qmg F}
theorem Qrr(F:Nat):Zb cx 184 (Zw2 F):=Yb (Zuq F) (.two .leaf (.two (.two .leaf (.one (.loop ⟨[.slot 8 (.val (.int .i64))],[]⟩ [(.ret,⟨[.slot 4 (.val (.int .i64))],[]⟩),(.exit 0,⟨[],[]⟩)] ⟨[18,8,11,12,13,14,15,16,4,17,5,10,9],[],[]⟩ F .leaf))) .leaf)) f184 (by kernel_rfl) fun a=>by kernel_rfl
def Ydd(F:Nat):LK:=lX (Zeb F) (lX (Qrr F) lN)
def X7(F:Nat)(a:(Qk)×ByteArray):Option (Int):=
 (Qmg F (a.1.2.1,a.2)).bind fun(v5:Int)=>some (v5)
def Zbo(F:Nat):PC:={ats:=Qcz,rts:=Zi,code:=X7 F}
theorem Xc(F:Nat):Qg cx 110 (Zbo F):=qE (Ydd F) .leaf f110 (by kernel_rfl) fun a=>by kernel_rfl
def Zyw:Qi:=⟨[.slot 0 (.agg kt9),.one 0 9 Zz,.one 1 9 Zz],[(1,.stat (.ptr 0 1 0 0)),(2,.stat (.ptr 1 1 0 0))]⟩
def Zys:Qi:=⟨[.slot 0 (.val (.bool))],[]⟩
def Zvk(F:Nat):LK:=lN
def Qpt(F:Nat)(a:(Q4)×ByteArray×ByteArray):Option (Bool):=
 (bif Qc a.1.1 a.2.1 then(some (Qc a.1.2.1 a.2.2))else(some (false))).bind fun(v5:Bool)=>some (v5)
def Zxz(F:Nat):PX:={np:=3,locs:=[.arg 1,.arg 2],τ:=Zyw,nr:=1,ω:=Zys,ids:=[],mv:=[],code:=Qpt F}
theorem Qzx(F:Nat):Zb cx 226 (Zxz F):=Yb (Zvk F) (.two .leaf (.two (.join [(.normal,⟨[.slot 4 (.val (.bool))],[]⟩)] ⟨(4::kD 14 10 []),[],[]⟩ .leaf) .leaf)) f226 (by kernel_rfl) fun a=>by kernel_rfl
def Zlo:Qi:=⟨[.slot 0 (.val (.seq kt9)),.one 0 9 Zz,.one 1 9 Zz],[(1,.stat (.fn (.func 226) [] [.ptr 0 1 0 0,.ptr 1 1 0 0]))]⟩
def Ylg:Qi:=⟨[.slot 0 (.val (.int .i64))],[]⟩
def Ztt(F:Nat):LK:=lX (Qzx F) lN
def Qmu(F:Nat)(a:List (Q4)×ByteArray×ByteArray):Option (Int):=
 (Q5 (σ:=Int) (β:=Int ⊕ Unit) (fun(v15:Int)=>bif decide (v15<(↑(a.1.length):Int))then(gd (decide (0≤v15)) (gd (decide (v15<(↑(a.1.length):Int))) (gd (decide (v15.toNat<a.1.length)) ((Qpt F ((a.1.getD (v15.toNat) (ByteArray.empty,ByteArray.empty,Qa ByteArray)),a.2.1,a.2.2)).bind fun(v16:Bool)=>bif v16 then(some (Sum.inr (Sum.inl v15)))else(some (Sum.inl (w64 (v15+1))))))))else(some (Sum.inr (Sum.inr ())))) F ((0:Int))).bind fun(v12:Int ⊕ Unit)=>Sum.elim (fun(v13:Int)=>some (v13)) (fun(v14:Unit)=>some ((-1:Int))) (v12)
def Zq0(F:Nat):PX:={np:=2,locs:=[.cap (.arg 1) 0,.cap (.arg 1) 1],τ:=Zlo,nr:=1,ω:=Ylg,ids:=[],mv:=[],code:=Qmu F}
theorem Qqw(F:Nat):Zb cx 225 (Zq0 F):=Yb (Ztt F) (.two .leaf (.two (.two .leaf (.one (.loop ⟨[.slot 8 (.val (.int .i64))],[]⟩ [(.ret,⟨[.slot 4 (.val (.int .i64))],[]⟩),(.exit 0,⟨[],[]⟩)] ⟨[18,8,11,12,13,14,15,16,4,17,5,10,9],[],[]⟩ F .leaf))) .leaf)) f225 (by kernel_rfl) fun a=>by kernel_rfl
def Ygw(F:Nat):LK:=lX (Qzx F) (lX (Qqw F) lN)
def Qhl(F:Nat)(a:(Qk)×ByteArray×ByteArray):Option (Int):=
 (Qmu F (a.1.2.2.2.2,a.2.1,a.2.2)).bind fun(v5:Int)=>some (v5)
def Qqv(F:Nat):PC:={ats:=Qhs,rts:=Zi,code:=Qhl F}
theorem Qc2(F:Nat):Qg cx 187 (Qqv F):=qE (Ygw F) .leaf f187 (by kernel_rfl) fun a=>by kernel_rfl
def Zl3(F:Nat):LK:=lC (Jz F) lN
def W0(F:Nat)(a:(Qk)×ByteArray):Option (Bool):=
 (W6 F (a.1.1,a.2)).bind fun(v5:Bool)=>some (v5)
def Zfi(F:Nat):PC:={ats:=Qcz,rts:=Y6,code:=W0 F}
theorem W3(F:Nat):Qg cx 111 (Zfi F):=qE (Zl3 F) .leaf f111 (by kernel_rfl) fun a=>by kernel_rfl
end
end Go.Proofs.Tryz

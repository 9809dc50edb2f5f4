/- Functions of the program as functions of data. By program. -/
import Derived.Test.YtpkbmngnolhopaaGreatDoorXTeCx
set_option maxRecDepth 100000
set_option linter.all false
namespace Go.Proofs.Tryz
open Go Go.Sx
noncomputable section
def Zot(F:Nat):LK:=lN
def c98(F:Nat)(a:ByteArray):Option (Bool):=
 (Qq (σ:=ByteArray×Nat) (β:=(ByteArray×Nat)×Bool ⊕ ByteArray×Nat) (fun(v23:ByteArray×Nat)=>bif decide (v23.2<ByteArray.size v23.1)then(bif decide (97≤(↑(Go.Utf8.decode v23.1 v23.2).1:Int))then(bif decide ((↑(Go.Utf8.decode v23.1 v23.2).1:Int)≤(122:Int))then(some (Sum.inl (v23.1,v23.2+(Go.Utf8.decode v23.1 v23.2).2)))else(bif decide (65≤(↑(Go.Utf8.decode v23.1 v23.2).1:Int))then(bif !decide ((↑(Go.Utf8.decode v23.1 v23.2).1:Int)≤(90:Int))then(bif decide ((↑v23.2:Int)=(0:Int))then(some (Sum.inr (Sum.inl ((v23.1,v23.2+(Go.Utf8.decode v23.1 v23.2).2),false))))else(bif !decide ((↑(Go.Utf8.decode v23.1 v23.2).1:Int)=(95:Int))then(bif decide ((↑(Go.Utf8.decode v23.1 v23.2).1:Int)<(48:Int))then(some (Sum.inr (Sum.inl ((v23.1,v23.2+(Go.Utf8.decode v23.1 v23.2).2),false))))else(bif decide (57<(↑(Go.Utf8.decode v23.1 v23.2).1:Int))then(some (Sum.inr (Sum.inl ((v23.1,v23.2+(Go.Utf8.decode v23.1 v23.2).2),false))))else(some (Sum.inl (v23.1,v23.2+(Go.Utf8.decode v23.1 v23.2).2)))))else(some (Sum.inl (v23.1,v23.2+(Go.Utf8.decode v23.1 v23.2).2)))))else(some (Sum.inl (v23.1,v23.2+(Go.Utf8.decode v23.1 v23.2).2))))else(bif decide ((↑v23.2:Int)=(0:Int))then(some (Sum.inr (Sum.inl ((v23.1,v23.2+(Go.Utf8.decode v23.1 v23.2).2),false))))else(bif !decide ((↑(Go.Utf8.decode v23.1 v23.2).1:Int)=(95:Int))then(bif decide ((↑(Go.Utf8.decode v23.1 v23.2).1:Int)<(48:Int))then(some (Sum.inr (Sum.inl ((v23.1,v23.2+(Go.Utf8.decode v23.1 v23.2).2),false))))else(bif decide (57<(↑(Go.Utf8.decode v23.1 v23.2).1:Int))then(some (Sum.inr (Sum.inl ((v23.1,v23.2+(Go.Utf8.decode v23.1 v23.2).2),false))))else(some (Sum.inl (v23.1,v23.2+(Go.Utf8.decode v23.1 v23.2).2)))))else(some (Sum.inl (v23.1,v23.2+(Go.Utf8.decode v23.1 v23.2).2)))))))else(bif decide (65≤(↑(Go.Utf8.decode v23.1 v23.2).1:Int))then(bif !decide ((↑(Go.Utf8.decode v23.1 v23.2).1:Int)≤(90:Int))then(bif decide ((↑v23.2:Int)=(0:Int))then(some (Sum.inr (Sum.inl ((v23.1,v23.2+(Go.Utf8.decode v23.1 v23.2).2),false))))else(bif !decide ((↑(Go.Utf8.decode v23.1 v23.2).1:Int)=(95:Int))then(bif decide ((↑(Go.Utf8.decode v23.1 v23.2).1:Int)<(48:Int))then(some (Sum.inr (Sum.inl ((v23.1,v23.2+(Go.Utf8.decode v23.1 v23.2).2),false))))else(bif decide (57<(↑(Go.Utf8.decode v23.1 v23.2).1:Int))then(some (Sum.inr (Sum.inl ((v23.1,v23.2+(Go.Utf8.decode v23.1 v23.2).2),false))))else(some (Sum.inl (v23.1,v23.2+(Go.Utf8.decode v23.1 v23.2).2)))))else(some (Sum.inl (v23.1,v23.2+(Go.Utf8.decode v23.1 v23.2).2)))))else(some (Sum.inl (v23.1,v23.2+(Go.Utf8.decode v23.1 v23.2).2))))else(bif decide ((↑v23.2:Int)=(0:Int))then(some (Sum.inr (Sum.inl ((v23.1,v23.2+(Go.Utf8.decode v23.1 v23.2).2),false))))else(bif !decide ((↑(Go.Utf8.decode v23.1 v23.2).1:Int)=(95:Int))then(bif decide ((↑(Go.Utf8.decode v23.1 v23.2).1:Int)<(48:Int))then(some (Sum.inr (Sum.inl ((v23.1,v23.2+(Go.Utf8.decode v23.1 v23.2).2),false))))else(bif decide (57<(↑(Go.Utf8.decode v23.1 v23.2).1:Int))then(some (Sum.inr (Sum.inl ((v23.1,v23.2+(Go.Utf8.decode v23.1 v23.2).2),false))))else(some (Sum.inl (v23.1,v23.2+(Go.Utf8.decode v23.1 v23.2).2)))))else(some (Sum.inl (v23.1,v23.2+(Go.Utf8.decode v23.1 v23.2).2)))))))else(some (Sum.inr (Sum.inr v23)))) F ((a,(0:Nat)))).bind fun(v19:(ByteArray×Nat)×Bool ⊕ ByteArray×Nat)=>Sum.elim (fun(v20:(ByteArray×Nat)×Bool)=>some v20.2) (fun(v21:ByteArray×Nat)=>(bif decide (0<(↑(ByteArray.size a):Int))then(some (decide ((↑(ByteArray.size a):Int)≤(24:Int))))else(some (false))).bind fun(v22:Bool)=>some (v22)) (v19)
def Qjq(F:Nat):PC:={ats:=Kw,rts:=Yx,code:=c98 F}
theorem Qff(F:Nat):Qg cx 98 (Qjq F):=qE (Zot F) (.two .leaf (.two (.two .leaf (.one (.loop ⟨[.iter 0],[]⟩ [(.ret,⟨[.iter 0,.slot 2 (.val (.bool))],[]⟩),(.exit 0,⟨[.iter 0],[]⟩)] ⟨(kU 12 14 (5::2::kD 43 18 (4::3::11::10::9::8::[]))),[0],[]⟩ F .leaf))) (.two (.join [(.normal,⟨[.slot 2 (.val (.bool))],[]⟩)] ⟨(2::kD 51 8 []),[],[]⟩ .leaf) .leaf))) f98 (by kernel_rfl) fun a=>by kernel_rfl
def Zrw(F:Nat):LK:=lN
def Q1(F:Nat)(a:Bool×Int):Option (Int):=
 bif a.1 then(some a.2)else(some ((0:Int)))
def Zb0(F:Nat):PC:={ats:=Qs8,rts:=Zq,code:=Q1 F}
theorem Ya(F:Nat):Qg cx 86 (Zb0 F):=qE (Zrw F) .leaf f86 (by kernel_rfl) fun a=>by kernel_rfl
def Zqy(F:Nat):LK:=lC (Ya F) (lC (Qff F) lN)
def c92(F:Nat)(a:ByteArray):Option (Int):=
 (c98 F a).bind fun(v7:Bool)=>(Q1 F (!v7,(8:Int))).bind fun(v8:Int)=>some (v8)
def Zvw(F:Nat):PC:={ats:=Kw,rts:=Zq,code:=c92 F}
theorem Vq(F:Nat):Qg cx 92 (Zvw F):=qE (Zqy F) .leaf f92 (by kernel_rfl) fun a=>by kernel_rfl
def Zi4(F:Nat):LK:=lN
def Qh6(F:Nat)(a:Int):Option (Bool):=
 (bif decide (a<0)then(some (true))else(some (decide (99999<a)))).bind fun(v5:Bool)=>some (v5)
def Ziv(F:Nat):PC:={ats:=Zq,rts:=Yx,code:=Qh6 F}
theorem Qqz(F:Nat):Qg cx 153 (Ziv F):=qE (Zi4 F) (.two .leaf (.two (.join [(.normal,⟨[.slot 2 (.val (.bool))],[]⟩)] ⟨(2::kD 8 6 []),[],[]⟩ .leaf) .leaf)) f153 (by kernel_rfl) fun a=>by kernel_rfl
def Zds:Qi:=⟨[.slot 0 (.val (.seq kt6))],[(1,.stat (.pv (.lit (.func (.func 153) #[] #[]))))]⟩
def Zj7:Qi:=⟨[.slot 0 (.val (.int .i64))],[]⟩
def Zwj(F:Nat):LK:=lC (Qqz F) lN
def Qib(F:Nat)(a:List Int):Option (Int):=
 (Qq (σ:=Int) (β:=Int ⊕ Unit) (fun(v15:Int)=>bif decide (v15<(↑(a.length):Int))then(gd (decide (0≤v15)) (gd (decide (v15<(↑(a.length):Int))) (gd (decide (v15.toNat<a.length)) ((Qh6 F (a.getD (v15.toNat) (0:Int))).bind fun(v16:Bool)=>bif v16 then(some (Sum.inr (Sum.inl v15)))else(some (Sum.inl (w64 (v15+1))))))))else(some (Sum.inr (Sum.inr ())))) F ((0:Int))).bind fun(v12:Int ⊕ Unit)=>Sum.elim (fun(v13:Int)=>some (v13)) (fun(v14:Unit)=>some ((-1:Int))) (v12)
def Zst(F:Nat):PX:={np:=2,locs:=[],τ:=Zds,nr:=1,ω:=Zj7,ids:=[],mv:=[],code:=Qib F}
theorem Zba(F:Nat):Zg cx 209 (Zst F):=qXE (Zwj F) (.two .leaf (.two (.two .leaf (.one (.loop ⟨[.slot 8 (.val (.int .i64))],[]⟩ [(.ret,⟨[.slot 4 (.val (.int .i64))],[]⟩),(.exit 0,⟨[],[]⟩)] ⟨[18,8,11,12,13,14,15,16,4,17,5,10,9],[],[]⟩ F .leaf))) .leaf)) f209 (by kernel_rfl) fun a=>by kernel_rfl
def Zgt:Qi:=⟨[.slot 0 (.val (.seq kt6))],[(1,.stat (.pv (.lit (.func (.func 153) #[] #[]))))]⟩
def Zjw:Qi:=⟨[.slot 0 (.val (.bool))],[]⟩
def Zwf(F:Nat):LK:=lC (Qqz F) (lX (Zba F) lN)
def Qsi(F:Nat)(a:List Int):Option (Bool):=
 (Qib F a).bind fun(v5:Int)=>some (decide (0≤v5))
def Zvc(F:Nat):PX:={np:=2,locs:=[],τ:=Zgt,nr:=1,ω:=Zjw,ids:=[],mv:=[],code:=Qsi F}
theorem Znv(F:Nat):Zg cx 152 (Zvc F):=qXE (Zwf F) .leaf f152 (by kernel_rfl) fun a=>by kernel_rfl
def Zhz(F:Nat):LK:=lC (Ya F) (lC (Qqz F) (lX (Zba F) (lX (Znv F) lN)))
def c85(F:Nat)(a:List Int):Option (Int):=
 (Qsi F a).bind fun(v7:Bool)=>(Q1 F (v7,(3:Int))).bind fun(v8:Int)=>some (v8)
def Ze1(F:Nat):PC:={ats:=[.val (.seq kt6)],rts:=Zq,code:=c85 F}
theorem Qbj(F:Nat):Qg cx 85 (Ze1 F):=qE (Zhz F) .leaf f85 (by kernel_rfl) fun a=>by kernel_rfl
def Zof(F:Nat):LK:=lN
def Zn(F:Nat)(a:List Int):Option (Int):=
 (Qq (σ:=Int) (β:=Int ⊕ Unit) (fun(v13:Int)=>bif decide (v13<(↑(a.length):Int))then(gd (decide (0≤v13)) (gd (decide (v13<(↑(a.length):Int))) (gd (decide (v13.toNat<a.length)) (bif !decide (a.getD (v13.toNat) (0:Int)=(0:Int))then(some (Sum.inr (Sum.inl (a.getD (v13.toNat) (0:Int)))))else(some (Sum.inl (w64 (v13+1))))))))else(some (Sum.inr (Sum.inr ())))) F ((0:Int))).bind fun(v10:Int ⊕ Unit)=>Sum.elim (fun(v11:Int)=>some (v11)) (fun(v12:Unit)=>some ((0:Int))) (v10)
def Quk(F:Nat):PC:={ats:=[.val (.seq kt6)],rts:=Zq,code:=Zn F}
theorem Yl(F:Nat):Qg cx 84 (Quk F):=qE (Zof F) (.two .leaf (.two (.two .leaf (.one (.loop ⟨[.slot 7 (.val (.int .i64))],[]⟩ [(.ret,⟨[.slot 2 (.val (.int .i64))],[]⟩),(.exit 0,⟨[],[]⟩)] ⟨[14,7,11,12,2,13,4,10,9,8],[],[]⟩ F .leaf))) .leaf)) f84 (by kernel_rfl) fun a=>by kernel_rfl
def Zuj(F:Nat):LK:=lC (Yl F) (lC (Ya F) (lC (Qbj F) (lC (Vq F) lN)))
def c63(F:Nat)(a:(Zu)×Int):Option (Int×Int):=
 ((c92 F a.1.1).bind fun(v132:Int)=>(tw (X:=Int×Int) (Qx.eqv (Qe.val (Ty.int Go.IntKind.i64)::Qe.val (Ty.int Go.IntKind.i64)::Qb Qe)) ((c85 F (a.1.2.2.1::Qb Int)).bind fun(v145:Int)=>(c85 F (a.2::Qb Int)).bind fun(v146:Int)=>(Q1 F (decide (a.2<a.1.2.2.1),(11:Int))).bind fun(v147:Int)=>(Zn F (v132::v145::v146::v147::Qb Int)).bind fun(v148:Int)=>bif !decide (v148=0)then(some (((0:Int),v148)))else(some ((w64 (Int.tdiv (w64 (a.2-a.1.2.2.1)) (365:Int)),(0:Int)))))).bind fun(v133:Int×Int)=>((c85 F (a.1.2.2.1::Qb Int)).bind fun(v135:Int)=>(c85 F (a.2::Qb Int)).bind fun(v136:Int)=>(Q1 F (decide (a.2<a.1.2.2.1),(11:Int))).bind fun(v137:Int)=>(Zn F (v132::v135::v136::v137::Qb Int)).bind fun(v138:Int)=>bif !decide (v138=0)then(some (((0:Int),v138)))else(some ((w64 (Int.tdiv (w64 (a.2-a.1.2.2.1)) (365:Int)),(0:Int))))).bind fun(v134:Int×Int)=>gd (Qx.eqv (Qe.val (Ty.int Go.IntKind.i64)::Qe.val (Ty.int Go.IntKind.i64)::Qb Qe) v133 v134) (some (v133))).bind fun(v98:Int×Int)=>((((c92 F a.1.1).bind fun(v121:Int)=>tw (X:=Int×Int) (Qx.eqv (Qe.val (Ty.int Go.IntKind.i64)::Qe.val (Ty.int Go.IntKind.i64)::Qb Qe)) ((c85 F (a.1.2.2.1::Qb Int)).bind fun(v128:Int)=>(c85 F (a.2::Qb Int)).bind fun(v129:Int)=>(Q1 F (decide (a.2<a.1.2.2.1),(11:Int))).bind fun(v130:Int)=>(Zn F (v121::v128::v129::v130::Qb Int)).bind fun(v131:Int)=>bif !decide (v131=0)then(some (((0:Int),v131)))else(some ((w64 (Int.tdiv (w64 (a.2-a.1.2.2.1)) (365:Int)),(0:Int)))))).bind fun(v114:Int×Int)=>((c92 F a.1.1).bind fun(v116:Int)=>(c85 F (a.1.2.2.1::Qb Int)).bind fun(v117:Int)=>(c85 F (a.2::Qb Int)).bind fun(v118:Int)=>(Q1 F (decide (a.2<a.1.2.2.1),(11:Int))).bind fun(v119:Int)=>(Zn F (v116::v117::v118::v119::Qb Int)).bind fun(v120:Int)=>bif !decide (v120=0)then(some (((0:Int),v120)))else(some ((w64 (Int.tdiv (w64 (a.2-a.1.2.2.1)) (365:Int)),(0:Int))))).bind fun(v115:Int×Int)=>gd (Qx.eqv (Qe.val (Ty.int Go.IntKind.i64)::Qe.val (Ty.int Go.IntKind.i64)::Qb Qe) v114 v115) (some (v114))).bind fun(v100:Int×Int)=>(tw (X:=Int×Int) (Qx.eqv (Qe.val (Ty.int Go.IntKind.i64)::Qe.val (Ty.int Go.IntKind.i64)::Qb Qe)) ((c92 F a.1.1).bind fun(v109:Int)=>(c85 F (a.1.2.2.1::Qb Int)).bind fun(v110:Int)=>(c85 F (a.2::Qb Int)).bind fun(v111:Int)=>(Q1 F (decide (a.2<a.1.2.2.1),(11:Int))).bind fun(v112:Int)=>(Zn F (v109::v110::v111::v112::Qb Int)).bind fun(v113:Int)=>bif !decide (v113=0)then(some (((0:Int),v113)))else(some ((w64 (Int.tdiv (w64 (a.2-a.1.2.2.1)) (365:Int)),(0:Int)))))).bind fun(v101:Int×Int)=>gd (Qx.eqv (Qe.val (Ty.int Go.IntKind.i64)::Qe.val (Ty.int Go.IntKind.i64)::Qb Qe) v100 v101) (some (v100))).bind fun(v99:Int×Int)=>gd (Qx.eqv (Qe.val (Ty.int Go.IntKind.i64)::Qe.val (Ty.int Go.IntKind.i64)::Qb Qe) v98 v99) (some (v98))
def Qtt(F:Nat):PC:={ats:=[.agg kt3,.val (.int .i64)],rts:=Qk3,code:=c63 F}
theorem Zsa(F:Nat):Qg cx 63 (Qtt F):=qE (Zuj F) .leaf f63 (by kernel_rfl) fun a=>by kernel_rfl
def Zd5(F:Nat):LK:=lN
def Zil(F:Nat):PC:=qT (Zd5 F) (.two .leaf (.one (Q8 2 (.two (.two .leaf (.one (.loop ⟨[.slot 7 (.val (.bool)),.slot 12 (.val (.int .i64))],[]⟩ [(.exit 0,⟨[.slot 7 (.val (.bool))],[]⟩)] ⟨(32::12::kU 16 16 (7::9::15::14::13::[])),[],[]⟩ F (Q8 2 (.two (.one (.two .leaf (.two (.two (.join [(.normal,⟨[.slot 31 (.val (.bool))],[]⟩)] ⟨(kD 31 16 []),[],[]⟩ .leaf) .leaf) .leaf))) .leaf))))) .leaf)))) f147 Zn2 Yx
theorem Zuu(F:Nat):Qg cx 147 (Zil F):=Xh (by kernel_rfl)
def Zfl(F:Nat):LK:=lC (Yl F) (lC (Ya F) (lC (Qbj F) lN))
def Qha(F:Nat)(a:Zx):Option (Int):=
 (c85 F (a.2.1::a.2.2::Qb Int)).bind fun(v9:Int)=>(Q1 F (decide (a.2.2<a.2.1),(11:Int))).bind fun(v10:Int)=>(Zn F (v9::v10::Qb Int)).bind fun(v11:Int)=>some (v11)
def Zxi(F:Nat):PC:={ats:=[.agg kt2],rts:=Zq,code:=Qha F}
theorem Qhb(F:Nat):Qg cx 114 (Zxi F):=qE (Zfl F) .leaf f114 (by kernel_rfl) fun a=>by kernel_rfl
def Zku(F:Nat):LK:=lC (Yl F) (lC (Qhb F) (lC (Vq F) lN))
def Ztt(F:Nat):PC:=qT (Zku F) .leaf f146 [.val (.int .i64),.agg kt2] Zq
theorem Zpp(F:Nat):Qg cx 146 (Ztt F):=Xh (by kernel_rfl)
def Zuv:Qi:=⟨[.slot 0 (.val (.seq kt2))],[(1,.stat (.pv (.lit (.func (.func 146) #[] #[]))))]⟩
def Zxz:Qi:=⟨[.slot 0 (.val (.int .i64))],[]⟩
def Zc3(F:Nat):LK:=lC (Yl F) (lC (Qhb F) (lC (Vq F) (lC (Zpp F) lN)))
def Zqp(F:Nat):PX:=qX (Zc3 F) (.two .leaf (.two (.two .leaf (.one (.loop ⟨[.slot 10 (.val (.int .i64))],[]⟩ [(.ret,⟨[.slot 4 (.val (.int .i64))],[]⟩),(.exit 0,⟨[],[]⟩)] ⟨[22,10,15,16,17,18,7,21,4,20,19,5,6,14,13,12,11],[],[]⟩ F .leaf))) .leaf)) f112 (pxB 2 [] Zuv 1 Zxz [] [])
theorem Zrj(F:Nat):Zg cx 112 (Zqp F):=Qaf (by kernel_rfl)
def Zli(F:Nat):LK:=lN
def c67(F:Nat)(a:ByteArray):Option (Bool):=
 (bif decide ((↑(ByteArray.size a):Int)<(1:Int))then(some (true))else(some (decide (24<(↑(ByteArray.size a):Int))))).bind fun(v16:Bool)=>bif v16 then(some (false))else((Qq (σ:=Int) (β:=Bool ⊕ Unit) (fun(v20:Int)=>bif decide (v20<(↑(ByteArray.size a):Int))then(gd (decide (0≤v20)) (gd (decide (v20.toNat<ByteArray.size a)) ((bif decide (97≤(↑(BitVec.toFin (UInt8.toBitVec (ByteArray.get! a (v20.toNat)))).1:Int))then(bif decide ((↑(BitVec.toFin (UInt8.toBitVec (ByteArray.get! a (v20.toNat)))).1:Int)≤(122:Int))then(some (true))else(bif decide (65≤(↑(BitVec.toFin (UInt8.toBitVec (ByteArray.get! a (v20.toNat)))).1:Int))then(some (decide ((↑(BitVec.toFin (UInt8.toBitVec (ByteArray.get! a (v20.toNat)))).1:Int)≤(90:Int))))else(some (false))))else(bif decide (65≤(↑(BitVec.toFin (UInt8.toBitVec (ByteArray.get! a (v20.toNat)))).1:Int))then(some (decide ((↑(BitVec.toFin (UInt8.toBitVec (ByteArray.get! a (v20.toNat)))).1:Int)≤(90:Int))))else(some (false)))).bind fun(v21:Bool)=>(bif !v21 then(bif decide (v20=0)then(some (true))else(bif decide (48≤(↑(BitVec.toFin (UInt8.toBitVec (ByteArray.get! a (v20.toNat)))).1:Int))then(bif decide ((↑(BitVec.toFin (UInt8.toBitVec (ByteArray.get! a (v20.toNat)))).1:Int)≤(57:Int))then(some (!true))else(some (!decide ((↑(BitVec.toFin (UInt8.toBitVec (ByteArray.get! a (v20.toNat)))).1:Int)=(95:Int)))))else(some (!decide ((↑(BitVec.toFin (UInt8.toBitVec (ByteArray.get! a (v20.toNat)))).1:Int)=(95:Int))))))else(some (false))).bind fun(v22:Bool)=>bif v22 then(some (Sum.inr (Sum.inl false)))else(some (Sum.inl (w64 (v20+1)))))))else(some (Sum.inr (Sum.inr ())))) F ((0:Int))).bind fun(v17:Bool ⊕ Unit)=>Sum.elim (fun(v18:Bool)=>some (v18)) (fun(v19:Unit)=>some (true)) (v17))
def Zsx(F:Nat):PC:={ats:=Kw,rts:=Yx,code:=c67 F}
theorem Ql9(F:Nat):Qg cx 67 (Zsx F):=qE (Zli F) (.two .leaf (.two (.two (.join [(.normal,⟨[.slot 13 (.val (.bool))],[]⟩)] ⟨(kD 13 8 []),[],[]⟩ .leaf) .leaf) (.two (.two .leaf (.one (.loop ⟨[.slot 3 (.val (.int .i64))],[]⟩ [(.ret,⟨[.slot 2 (.val (.bool))],[]⟩),(.exit 0,⟨[],[]⟩)] ⟨(20::21::22::4::kU 37 19 (2::5::kD 36 14 (3::kD 19 6 []))),[],[]⟩ F (.two .leaf (.two (.one (.two .leaf (.two (.join [(.normal,⟨[.slot 5 (.val (.bool))],[]⟩)] ⟨(5::kD 36 14 []),[],[]⟩ .leaf) (.two (.join [(.normal,⟨[.slot 55 (.val (.bool))],[]⟩)] ⟨(kD 55 19 []),[],[]⟩ .leaf) .leaf)))) .leaf))))) .leaf))) f67 (by kernel_rfl) fun a=>by kernel_rfl
def Zik(F:Nat):LK:=lN
def c94(F:Nat)(a:Int×Int):Option (Bool):=
 (bif decide (a.1<0)then(some (true))else(some (decide (a.2<a.1)))).bind fun(v5:Bool)=>some (v5)
def Zvf(F:Nat):PC:={ats:=Qk3,rts:=Yx,code:=c94 F}
theorem Qhe(F:Nat):Qg cx 94 (Zvf F):=qE (Zik F) (.two .leaf (.two (.join [(.normal,⟨[.slot 4 (.val (.bool))],[]⟩)] ⟨(4::kD 11 7 []),[],[]⟩ .leaf) .leaf)) f94 (by kernel_rfl) fun a=>by kernel_rfl
def Zg3(F:Nat):LK:=lN
def c44(F:Nat)(a:List ByteArray×List ByteArray):Option (Bool):=
 bif !decide ((↑(a.1.length):Int)=(↑(a.2.length):Int))then(some (false))else((Qq (σ:=Int) (β:=Bool ⊕ Unit) (fun(v13:Int)=>bif decide (v13<(↑(a.1.length):Int))then(gd (decide (0≤v13)) (gd (decide (v13<(↑(a.1.length):Int))) (gd (decide (v13.toNat<a.1.length)) (gd (decide (0≤v13)) (gd (decide (v13<(↑(a.2.length):Int))) (gd (decide (v13.toNat<a.2.length)) (bif !Qf (a.1.getD (v13.toNat) ByteArray.empty) (a.2.getD (v13.toNat) ByteArray.empty)then(some (Sum.inr (Sum.inl false)))else(some (Sum.inl (w64 (v13+1)))))))))))else(some (Sum.inr (Sum.inr ())))) F ((0:Int))).bind fun(v10:Bool ⊕ Unit)=>Sum.elim (fun(v11:Bool)=>some (v11)) (fun(v12:Unit)=>some (true)) (v10))
def Qz7(F:Nat):PC:={ats:=[.val (.seq Zr),.val (.seq Zr)],rts:=Yx,code:=c44 F}
theorem Zq7(F:Nat):Qg cx 44 (Qz7 F):=qE (Zg3 F) (Q8 2 (.two (.two .leaf (.one (.loop ⟨[.slot 5 (.val (.int .i64))],[]⟩ [(.ret,⟨[.slot 4 (.val (.bool))],[]⟩),(.exit 0,⟨[],[]⟩)] ⟨(kU 17 9 (4::5::kD 16 6 [])),[],[]⟩ F .leaf))) .leaf)) f44 (by kernel_rfl) fun a=>by kernel_rfl
def Zs6(F:Nat):LK:=lN
def c45(F:Nat)(a:List Int×List Int):Option (Bool):=
 bif !decide ((↑(a.1.length):Int)=(↑(a.2.length):Int))then(some (false))else((Qq (σ:=Int) (β:=Bool ⊕ Unit) (fun(v13:Int)=>bif decide (v13<(↑(a.1.length):Int))then(gd (decide (0≤v13)) (gd (decide (v13<(↑(a.1.length):Int))) (gd (decide (v13.toNat<a.1.length)) (gd (decide (0≤v13)) (gd (decide (v13<(↑(a.2.length):Int))) (gd (decide (v13.toNat<a.2.length)) (bif !decide (a.1.getD (v13.toNat) (0:Int)=a.2.getD (v13.toNat) (0:Int))then(some (Sum.inr (Sum.inl false)))else(some (Sum.inl (w64 (v13+1)))))))))))else(some (Sum.inr (Sum.inr ())))) F ((0:Int))).bind fun(v10:Bool ⊕ Unit)=>Sum.elim (fun(v11:Bool)=>some (v11)) (fun(v12:Unit)=>some (true)) (v10))
def Qum(F:Nat):PC:={ats:=[.val (.seq kt6),.val (.seq kt6)],rts:=Yx,code:=c45 F}
theorem Zx0(F:Nat):Qg cx 45 (Qum F):=qE (Zs6 F) (Q8 2 (.two (.two .leaf (.one (.loop ⟨[.slot 5 (.val (.int .i64))],[]⟩ [(.ret,⟨[.slot 4 (.val (.bool))],[]⟩),(.exit 0,⟨[],[]⟩)] ⟨(kU 17 9 (4::5::kD 16 6 [])),[],[]⟩ F .leaf))) .leaf)) f45 (by kernel_rfl) fun a=>by kernel_rfl
def Zio(F:Nat):LK:=lN
def c47(F:Nat)(a:(Zi)×ByteArray):Option (Int):=
 (Qq (σ:=Int) (β:=Int ⊕ Unit) (fun(v13:Int)=>bif decide (v13<(↑(a.1.2.2.2.2.length):Int))then(gd (decide (0≤v13)) (gd (decide (v13<(↑(a.1.2.2.2.2.length):Int))) (gd (decide (v13.toNat<a.1.2.2.2.2.length)) (bif Qf (a.1.2.2.2.2.getD (v13.toNat) Q2).1 a.2 then(some (Sum.inr (Sum.inl v13)))else(some (Sum.inl (w64 (v13+1))))))))else(some (Sum.inr (Sum.inr ())))) F ((0:Int))).bind fun(v10:Int ⊕ Unit)=>Sum.elim (fun(v11:Int)=>some (v11)) (fun(v12:Unit)=>some ((-1:Int))) (v10)
def Zm7(F:Nat):PC:={ats:=[.agg Yu,.val (.str)],rts:=Zq,code:=c47 F}
theorem Qjp(F:Nat):Qg cx 47 (Zm7 F):=qE (Zio F) (.two .leaf (.two (.two .leaf (.one (.loop ⟨[.slot 5 (.val (.int .i64))],[]⟩ [(.ret,⟨[.slot 4 (.val (.int .i64))],[]⟩),(.exit 0,⟨[],[]⟩)] ⟨(kU 13 8 (4::21::5::kD 12 7 [])),[],[]⟩ F .leaf))) .leaf)) f47 (by kernel_rfl) fun a=>by kernel_rfl
def Zs2(F:Nat):LK:=lN
def Qlx(F:Nat)(a:ByteArray):Option (Bool):=
 (bif Qf a {data:=List.toArray (68::78::83::Qb UInt8)}then(some (true))else(bif Qf a {data:=List.toArray (68::78::70::Qb UInt8)}then(some (true))else(bif Qf a {data:=List.toArray (68::81::Qb UInt8)}then(some (true))else(some (Qf a {data:=List.toArray (78::77::Qb UInt8)}))))).bind fun(v5:Bool)=>some (v5)
def Zqk(F:Nat):PC:={ats:=Kw,rts:=Yx,code:=Qlx F}
theorem Yae(F:Nat):Qg cx 210 (Zqk F):=qE (Zs2 F) (.two .leaf (.two (.join [(.normal,⟨[.slot 2 (.val (.bool))],[]⟩)] ⟨(2::kD 16 14 []),[],[]⟩ .leaf) .leaf)) f210 (by kernel_rfl) fun a=>by kernel_rfl
def Zfi(F:Nat):LK:=lN
def Qov(F:Nat)(a:ByteArray):Option (Int):=
 bif Qf a {data:=List.toArray (116::105::109::101::Qb UInt8)}then(some ((863999999:Int)))else(bif Qf a {data:=List.toArray (108::101::110::103::116::104::Qb UInt8)}then(some ((999999:Int)))else(some ((99999:Int))))
def Zd2(F:Nat):PC:={ats:=Kw,rts:=Zq,code:=Qov F}
theorem Ze4(F:Nat):Qg cx 212 (Zd2 F):=qE (Zfi F) .leaf f212 (by kernel_rfl) fun a=>by kernel_rfl
def Zge(F:Nat):LK:=lN
def Qp0(F:Nat)(a:ByteArray):Option (Int):=
 bif Qf a {data:=List.toArray (116::105::109::101::Qb UInt8)}then(some ((1:Int)))else(some ((0:Int)))
def Zq2(F:Nat):PC:={ats:=Kw,rts:=Zq,code:=Qp0 F}
theorem Zz7(F:Nat):Qg cx 211 (Zq2 F):=qE (Zge F) .leaf f211 (by kernel_rfl) fun a=>by kernel_rfl
def Zt7(F:Nat):LK:=lC (Zz7 F) (lC (Ze4 F) (lC (Yae F) lN))
def Qe6(F:Nat)(a:ByteArray×Int×ByteArray):Option (Int):=
 bif Qf a.1 {data:=List.toArray (110::111::110::101::Qb UInt8)}then((Qlx F a.2.2).bind fun(v18:Bool)=>bif !v18 then(some ((1:Int)))else(bif !decide (a.2.1=0)then(some ((3:Int)))else(some ((0:Int)))))else((bif Qf a.1 {data:=List.toArray (116::105::109::101::Qb UInt8)}then(some (Qf a.1 {data:=List.toArray (116::105::109::101::Qb UInt8)}))else((bif Qf a.1 {data:=List.toArray (108::101::110::103::116::104::Qb UInt8)}then(some (Qf a.1 {data:=List.toArray (108::101::110::103::116::104::Qb UInt8)}))else(some (Qf a.1 {data:=List.toArray (112::111::105::110::116::115::Qb UInt8)}))).bind fun(v23:Bool)=>some (v23))).bind fun(v19:Bool)=>bif v19 then(bif !Qf a.2.2 {data:=List.toArray (Qb UInt8)}then(some ((1:Int)))else(((Qp0 F a.1).bind fun(v21:Int)=>bif decide (a.2.1<v21)then(some (true))else((Qov F a.1).bind fun(v22:Int)=>some (decide (v22<a.2.1)))).bind fun(v20:Bool)=>bif v20 then(some ((3:Int)))else(some ((0:Int)))))else(some ((13:Int))))
def Zr5(F:Nat):PC:={ats:=[.agg kt7],rts:=Zq,code:=Qe6 F}
theorem Qz4(F:Nat):Qg cx 156 (Zr5 F):=qE (Zt7 F) (.two .leaf (.two (.two .leaf (.one (Q8 2 (.two (.two .leaf (.join [(.normal,⟨[.slot 14 (.val (.bool))],[]⟩)] ⟨[16,14,17],[],[]⟩ (Q8 2 (.join [(.normal,⟨[.slot 14 (.val (.bool))],[]⟩)] ⟨[17,14],[],[]⟩ .leaf)))) (.two (.two .leaf (.two (.two (.join [(.normal,⟨[.slot 34 (.val (.bool))],[]⟩)] ⟨(kD 34 14 []),[],[]⟩ .leaf) .leaf) .leaf)) .leaf))))) .leaf)) f156 (by kernel_rfl) fun a=>by kernel_rfl
def Yaa(F:Nat):LK:=lN
def Qgg(F:Nat)(a:(ByteArray×Int×ByteArray)×ByteArray):Option (Bool):=
 (bif Qf a.1.1 a.2 then(some (true))else(some (Qf a.1.1 {data:=List.toArray (110::111::110::101::Qb UInt8)}))).bind fun(v5:Bool)=>some (v5)
def Zi3(F:Nat):PC:={ats:=[.agg kt7,.val (.str)],rts:=Yx,code:=Qgg F}
theorem Qt6(F:Nat):Qg cx 157 (Zi3 F):=qE (Yaa F) (.two .leaf (.two (.join [(.normal,⟨[.slot 4 (.val (.bool))],[]⟩)] ⟨(4::kD 13 9 []),[],[]⟩ .leaf) .leaf)) f157 (by kernel_rfl) fun a=>by kernel_rfl
def Zxo(F:Nat):LK:=lC (Ql9 F) (lC (Qhe F) (lC (Qt6 F) (lC (Qz4 F) (lC (Qjp F) lN))))
def c95(F:Nat)(a:(Zi)×Int):Option (Int):=
 gd (decide (0≤a.2)) (gd (decide (a.2<(↑(a.1.2.2.2.2.length):Int))) (gd (decide (a.2.toNat<a.1.2.2.2.2.length)) ((c67 F (a.1.2.2.2.2.getD (a.2.toNat) Q2).1).bind fun(v42:Bool)=>bif !v42 then(some ((8:Int)))else((c47 F (a.1,(a.1.2.2.2.2.getD (a.2.toNat) Q2).1)).bind fun(v43:Int)=>bif decide (v43<a.2)then(some ((9:Int)))else((bif !Qf (a.1.2.2.2.2.getD (a.2.toNat) Q2).2.1 {data:=List.toArray (116::105::109::101::Qb UInt8)}then(bif !Qf (a.1.2.2.2.2.getD (a.2.toNat) Q2).2.1 {data:=List.toArray (108::101::110::103::116::104::Qb UInt8)}then(some (!Qf (a.1.2.2.2.2.getD (a.2.toNat) Q2).2.1 {data:=List.toArray (112::111::105::110::116::115::Qb UInt8)}))else(some (false)))else(some (false))).bind fun(v44:Bool)=>bif v44 then(some ((13:Int)))else((bif !Qf (a.1.2.2.2.2.getD (a.2.toNat) Q2).2.2.1 {data:=List.toArray (Qb UInt8)}then((c67 F (a.1.2.2.2.2.getD (a.2.toNat) Q2).2.2.1).bind fun(v57:Bool)=>some (!v57))else(some (false))).bind fun(v45:Bool)=>bif v45 then(some ((8:Int)))else(((c94 F ((a.1.2.2.2.2.getD (a.2.toNat) Q2).2.2.2.1,(120:Int))).bind fun(v55:Bool)=>bif v55 then(some (true))else((c94 F ((a.1.2.2.2.2.getD (a.2.toNat) Q2).2.2.2.2.1,(120:Int))).bind fun(v56:Bool)=>some (v56))).bind fun(v46:Bool)=>bif v46 then(some ((3:Int)))else(bif decide ((a.1.2.2.2.2.getD (a.2.toNat) Q2).2.2.2.2.1<(a.1.2.2.2.2.getD (a.2.toNat) Q2).2.2.2.1)then(some ((11:Int)))else(((c94 F ((a.1.2.2.2.2.getD (a.2.toNat) Q2).2.2.2.2.2.1,(160:Int))).bind fun(v52:Bool)=>bif v52 then(some (true))else((c94 F ((a.1.2.2.2.2.getD (a.2.toNat) Q2).2.2.2.2.2.2.1,(160:Int))).bind fun(v53:Bool)=>bif v53 then(some (true))else((c94 F ((a.1.2.2.2.2.getD (a.2.toNat) Q2).2.2.2.2.2.2.2.2.2.2,(8:Int))).bind fun(v54:Bool)=>some (v54)))).bind fun(v47:Bool)=>bif v47 then(some ((3:Int)))else((Qe6 F ((a.1.2.2.2.2.getD (a.2.toNat) Q2).2.2.2.2.2.2.2.1,(a.1.2.2.2.2.getD (a.2.toNat) Q2).2.2.2.2.2.2.2.2.1,(a.1.2.2.2.2.getD (a.2.toNat) Q2).2.2.2.2.2.2.2.2.2.1)).bind fun(v48:Int)=>(bif decide (v48=0)then((Qgg F (((a.1.2.2.2.2.getD (a.2.toNat) Q2).2.2.2.2.2.2.2.1,(a.1.2.2.2.2.getD (a.2.toNat) Q2).2.2.2.2.2.2.2.2.1,(a.1.2.2.2.2.getD (a.2.toNat) Q2).2.2.2.2.2.2.2.2.2.1),(a.1.2.2.2.2.getD (a.2.toNat) Q2).2.1)).bind fun(v51:Bool)=>some (!v51))else(some (false))).bind fun(v49:Bool)=>(bif v49 then(some ((13:Int)))else(some (v48))).bind fun(v50:Int)=>some (v50)))))))))))
def Zfa(F:Nat):PC:={ats:=[.agg Yu,.val (.int .i64)],rts:=Zq,code:=c95 F}
theorem Zyp(F:Nat):Qg cx 95 (Zfa F):=qE (Zxo F) (Q8 4 (.two (.two (.join [(.normal,⟨[.slot 34 (.val (.bool))],[]⟩)] ⟨(kD 34 13 []),[],[]⟩ .leaf) .leaf) (.two (.two (.join [(.normal,⟨[.slot 43 (.val (.bool))],[]⟩)] ⟨(kD 43 9 []),[],[]⟩ .leaf) .leaf) (.two (.two (.join [(.normal,⟨[.slot 51 (.val (.bool))],[]⟩)] ⟨(kD 51 8 []),[],[]⟩ .leaf) .leaf) (.two .leaf (.two (.two (.join [(.normal,⟨[.slot 69 (.val (.bool))],[]⟩)] ⟨(kD 69 13 []),[],[]⟩ .leaf) .leaf) (.two .leaf (.two (.two (.join [(.normal,⟨[.slot 82 (.val (.bool))],[]⟩)] ⟨(kD 82 10 []),[],[]⟩ .leaf) (.join [(.normal,⟨[.slot 6 (.val (.int .i64))],[]⟩)] ⟨[6],[],[]⟩ .leaf)) .leaf)))))))) f95 (by kernel_rfl) fun a=>by kernel_rfl
def Zia(F:Nat):LK:=lC (Zyp F) (lC (Qhe F) lN)
def c22(F:Nat)(a:Zi):Option (Int):=
 ((c94 F (a.1,(99999:Int))).bind fun(v35:Bool)=>bif v35 then(some (true))else((c94 F (a.2.1,(99999:Int))).bind fun(v36:Bool)=>bif v36 then(some (true))else((c94 F (a.2.2.1,(99999:Int))).bind fun(v37:Bool)=>some (v37)))).bind fun(v27:Bool)=>bif v27 then(some ((3:Int)))else((bif decide (a.2.2.1<a.2.1)then(some (true))else(some (decide (a.1<a.2.2.1)))).bind fun(v28:Bool)=>bif v28 then(some ((11:Int)))else((c94 F (a.2.2.2.1,(32:Int))).bind fun(v29:Bool)=>bif v29 then(some ((3:Int)))else(bif decide (32<(↑(a.2.2.2.2.length):Int))then(some ((5:Int)))else((Qq (σ:=Int) (β:=Int ⊕ Unit) (fun(v33:Int)=>bif decide (v33<(↑(a.2.2.2.2.length):Int))then((c95 F (a,v33)).bind fun(v34:Int)=>bif !decide (v34=0)then(some (Sum.inr (Sum.inl v34)))else(some (Sum.inl (w64 (v33+1)))))else(some (Sum.inr (Sum.inr ())))) F ((0:Int))).bind fun(v30:Int ⊕ Unit)=>Sum.elim (fun(v31:Int)=>some (v31)) (fun(v32:Unit)=>some ((0:Int))) (v30)))))
def Zqd(F:Nat):PC:={ats:=[.agg Yu],rts:=Zq,code:=c22 F}
theorem Zs4(F:Nat):Qg cx 22 (Zqd F):=qE (Zia F) (.two .leaf (.two (.two (.join [(.normal,⟨[.slot 17 (.val (.bool))],[]⟩)] ⟨(kD 17 13 []),[],[]⟩ .leaf) .leaf) (.two (.two (.join [(.normal,⟨[.slot 29 (.val (.bool))],[]⟩)] ⟨(kD 29 12 []),[],[]⟩ .leaf) .leaf) (Q8 2 (.two (.two .leaf (.one (.loop ⟨[.slot 3 (.val (.int .i64))],[]⟩ [(.ret,⟨[.slot 2 (.val (.int .i64))],[]⟩),(.exit 0,⟨[],[]⟩)] ⟨(44::45::46::4::49::2::48::47::3::kD 43 7 []),[],[]⟩ F .leaf))) .leaf))))) f22 (by kernel_rfl) fun a=>by kernel_rfl
def Zdh(F:Nat):LK:=lC (Ql9 F) lN
def Qla(F:Nat)(a:ByteArray):Option (Int):=
 (c67 F a).bind fun(v5:Bool)=>bif !v5 then(some ((8:Int)))else(some ((0:Int)))
def Zye(F:Nat):PC:={ats:=Kw,rts:=Zq,code:=Qla F}
theorem Zpe(F:Nat):Qg cx 180 (Zye F):=qE (Zdh F) .leaf f180 (by kernel_rfl) fun a=>by kernel_rfl
def Zrl(F:Nat):LK:=lC (Qhe F) lN
def Qlt(F:Nat)(a:Int):Option (Int):=
 (c94 F (a,(99999:Int))).bind fun(v5:Bool)=>bif v5 then(some ((3:Int)))else(some ((0:Int)))
def Zs0(F:Nat):PC:={ats:=Zq,rts:=Zq,code:=Qlt F}
theorem Zed(F:Nat):Qg cx 181 (Zs0 F):=qE (Zrl F) .leaf f181 (by kernel_rfl) fun a=>by kernel_rfl
def Zrd(F:Nat):LK:=lN
def c40(F:Nat)(a:(Qz)×ByteArray):Option (Int):=
 (Qq (σ:=Int) (β:=Int ⊕ Unit) (fun(v13:Int)=>bif decide (v13<(↑(a.1.2.1.length):Int))then(gd (decide (0≤v13)) (gd (decide (v13<(↑(a.1.2.1.length):Int))) (gd (decide (v13.toNat<a.1.2.1.length)) (bif Qf (a.1.2.1.getD (v13.toNat) Xd).1 a.2 then(some (Sum.inr (Sum.inl v13)))else(some (Sum.inl (w64 (v13+1))))))))else(some (Sum.inr (Sum.inr ())))) F ((0:Int))).bind fun(v10:Int ⊕ Unit)=>Sum.elim (fun(v11:Int)=>some (v11)) (fun(v12:Unit)=>some ((-1:Int))) (v10)
def Zhv(F:Nat):PC:={ats:=Qc4,rts:=Zq,code:=c40 F}
theorem Qkx(F:Nat):Qg cx 40 (Zhv F):=qE (Zrd F) (.two .leaf (.two (.two .leaf (.one (.loop ⟨[.slot 5 (.val (.int .i64))],[]⟩ [(.ret,⟨[.slot 4 (.val (.int .i64))],[]⟩),(.exit 0,⟨[],[]⟩)] ⟨(kU 13 8 (4::21::5::kD 12 7 [])),[],[]⟩ F .leaf))) .leaf)) f40 (by kernel_rfl) fun a=>by kernel_rfl
def Zjp(F:Nat):LK:=lN
def c53(F:Nat)(a:(Qz)×ByteArray×ByteArray):Option (Int):=
 (Qq (σ:=Int) (β:=Int ⊕ Unit) (fun(v15:Int)=>bif decide (v15<(↑(a.1.2.2.2.1.length):Int))then((gd (decide (0≤v15)) (gd (decide (v15<(↑(a.1.2.2.2.1.length):Int))) (gd (decide (v15.toNat<a.1.2.2.2.1.length)) (bif Qf (a.1.2.2.2.1.getD (v15.toNat) Zm).1 a.2.1 then(gd (decide (0≤v15)) (gd (decide (v15<(↑(a.1.2.2.2.1.length):Int))) (gd (decide (v15.toNat<a.1.2.2.2.1.length)) (some (Qf (a.1.2.2.2.1.getD (v15.toNat) Zm).2.1 a.2.2)))))else(some (false)))))).bind fun(v16:Bool)=>bif v16 then(some (Sum.inr (Sum.inl v15)))else(some (Sum.inl (w64 (v15+1)))))else(some (Sum.inr (Sum.inr ())))) F ((0:Int))).bind fun(v12:Int ⊕ Unit)=>Sum.elim (fun(v13:Int)=>some (v13)) (fun(v14:Unit)=>some ((-1:Int))) (v12)
def Zw5(F:Nat):PC:={ats:=Qg7,rts:=Zq,code:=c53 F}
theorem Zlb(F:Nat):Qg cx 53 (Zw5 F):=qE (Zjp F) (.two .leaf (.two (.two .leaf (.one (.loop ⟨[.slot 7 (.val (.int .i64))],[]⟩ [(.ret,⟨[.slot 6 (.val (.int .i64))],[]⟩),(.exit 0,⟨[],[]⟩)] ⟨(kU 15 18 (6::33::7::kD 14 7 [])),[],[]⟩ F (.two .leaf (.two (.one (.two (.join [(.normal,⟨[.slot 32 (.val (.bool))],[]⟩)] ⟨(kD 32 18 []),[],[]⟩ .leaf) .leaf)) .leaf))))) .leaf)) f53 (by kernel_rfl) fun a=>by kernel_rfl
def Zh0(F:Nat):LK:=lC (Qjp F) (lC (Qz4 F) (lC (Zed F) (lC (Qt6 F) (lC (Zlb F) (lC (Qkx F) lN)))))
def Qkk(F:Nat)(a:(Qz)×(Zi)×Int):Option (Int):=
 gd (decide (0≤a.2.2)) (gd (decide (a.2.2<(↑(a.1.2.2.2.1.length):Int))) (gd (decide (a.2.2.toNat<a.1.2.2.2.1.length)) ((c47 F (a.2.1,(a.1.2.2.2.1.getD (a.2.2.toNat) Zm).2.1)).bind fun(v26:Int)=>((c40 F (a.1,(a.1.2.2.2.1.getD (a.2.2.toNat) Zm).1)).bind fun(v35:Int)=>bif decide (v35<0)then(some (true))else(some (decide (v26<0)))).bind fun(v27:Bool)=>bif v27 then(some ((10:Int)))else(gd (decide (0≤v26)) (gd (decide (v26<(↑(a.2.1.2.2.2.2.length):Int))) (gd (decide (v26.toNat<a.2.1.2.2.2.2.length)) (bif decide (0<(a.2.1.2.2.2.2.getD (v26.toNat) Q2).2.2.2.2.2.2.2.2.2.2)then(some ((13:Int)))else((c53 F (a.1,(a.1.2.2.2.1.getD (a.2.2.toNat) Zm).1,(a.1.2.2.2.1.getD (a.2.2.toNat) Zm).2.1)).bind fun(v28:Int)=>bif decide (v28<a.2.2)then(some ((9:Int)))else((Qe6 F ((a.1.2.2.2.1.getD (a.2.2.toNat) Zm).2.2.1,(a.1.2.2.2.1.getD (a.2.2.toNat) Zm).2.2.2.1,(a.1.2.2.2.1.getD (a.2.2.toNat) Zm).2.2.2.2.1)).bind fun(v29:Int)=>(bif decide (v29=0)then(gd (decide (0≤v26)) (gd (decide (v26<(↑(a.2.1.2.2.2.2.length):Int))) (gd (decide (v26.toNat<a.2.1.2.2.2.2.length)) ((Qgg F (((a.1.2.2.2.1.getD (a.2.2.toNat) Zm).2.2.1,(a.1.2.2.2.1.getD (a.2.2.toNat) Zm).2.2.2.1,(a.1.2.2.2.1.getD (a.2.2.toNat) Zm).2.2.2.2.1),(a.2.1.2.2.2.2.getD (v26.toNat) Q2).2.1)).bind fun(v34:Bool)=>some (!v34)))))else(some (false))).bind fun(v30:Bool)=>(bif v30 then(some ((13:Int)))else(some (v29))).bind fun(v31:Int)=>(bif decide (v31=0)then((Qlt F (a.1.2.2.2.1.getD (a.2.2.toNat) Zm).2.2.2.2.2.1).bind fun(v33:Int)=>some (v33))else(some (v31))).bind fun(v32:Int)=>some (v32))))))))))
def Zdo(F:Nat):PC:={ats:=[.agg Yk,.agg Yu,.val (.int .i64)],rts:=Zq,code:=Qkk F}
theorem Ztv(F:Nat):Qg cx 122 (Zdo F):=qE (Zh0 F) (Q8 3 (.two (.two (.join [(.normal,⟨[.slot 27 (.val (.bool))],[]⟩)] ⟨(kD 27 9 []),[],[]⟩ .leaf) .leaf) (Q8 3 (.two (.two (.join [(.normal,⟨[.slot 59 (.val (.bool))],[]⟩)] ⟨(kD 59 14 []),[],[]⟩ .leaf) (.join [(.normal,⟨[.slot 9 (.val (.int .i64))],[]⟩)] ⟨[9],[],[]⟩ .leaf)) (.two (.two .leaf (.join [(.normal,⟨[.slot 9 (.val (.int .i64))],[]⟩)] ⟨[9,64,63,62],[],[]⟩ .leaf)) .leaf))))) f122 (by kernel_rfl) fun a=>by kernel_rfl
def Zer(F:Nat):LK:=lN
def c54(F:Nat)(a:List ByteArray×ByteArray):Option (Bool):=
 (Qq (σ:=Int) (β:=Bool ⊕ Unit) (fun(v13:Int)=>bif decide (v13<(↑(a.1.length):Int))then(gd (decide (0≤v13)) (gd (decide (v13<(↑(a.1.length):Int))) (gd (decide (v13.toNat<a.1.length)) (bif Qf (a.1.getD (v13.toNat) ByteArray.empty) a.2 then(some (Sum.inr (Sum.inl true)))else(some (Sum.inl (w64 (v13+1))))))))else(some (Sum.inr (Sum.inr ())))) F ((0:Int))).bind fun(v10:Bool ⊕ Unit)=>Sum.elim (fun(v11:Bool)=>some (v11)) (fun(v12:Unit)=>some (false)) (v10)
def Zz6(F:Nat):PC:={ats:=Qja,rts:=Yx,code:=c54 F}
theorem Qi4(F:Nat):Qg cx 54 (Zz6 F):=qE (Zer F) (.two .leaf (.two (.two .leaf (.one (.loop ⟨[.slot 5 (.val (.int .i64))],[]⟩ [(.ret,⟨[.slot 4 (.val (.bool))],[]⟩),(.exit 0,⟨[],[]⟩)] ⟨(kU 12 6 (4::5::kD 11 6 [])),[],[]⟩ F .leaf))) .leaf)) f54 (by kernel_rfl) fun a=>by kernel_rfl
def Zut(F:Nat):LK:=lN
def Ql1(F:Nat)(a:(Qz)×ByteArray×ByteArray):Option (Int):=
 (Qq (σ:=Int) (β:=Int ⊕ Unit) (fun(v15:Int)=>bif decide (v15<(↑(a.1.2.2.2.2.length):Int))then((gd (decide (0≤v15)) (gd (decide (v15<(↑(a.1.2.2.2.2.length):Int))) (gd (decide (v15.toNat<a.1.2.2.2.2.length)) (bif Qf (a.1.2.2.2.2.getD (v15.toNat) (ByteArray.empty,ByteArray.empty,Qb ByteArray)).1 a.2.1 then(gd (decide (0≤v15)) (gd (decide (v15<(↑(a.1.2.2.2.2.length):Int))) (gd (decide (v15.toNat<a.1.2.2.2.2.length)) (some (Qf (a.1.2.2.2.2.getD (v15.toNat) (ByteArray.empty,ByteArray.empty,Qb ByteArray)).2.1 a.2.2)))))else(some (false)))))).bind fun(v16:Bool)=>bif v16 then(some (Sum.inr (Sum.inl v15)))else(some (Sum.inl (w64 (v15+1)))))else(some (Sum.inr (Sum.inr ())))) F ((0:Int))).bind fun(v12:Int ⊕ Unit)=>Sum.elim (fun(v13:Int)=>some (v13)) (fun(v14:Unit)=>some ((-1:Int))) (v12)
def Zs7(F:Nat):PC:={ats:=Qg7,rts:=Zq,code:=Ql1 F}
theorem Zpx(F:Nat):Qg cx 145 (Zs7 F):=qE (Zut F) (.two .leaf (.two (.two .leaf (.one (.loop ⟨[.slot 7 (.val (.int .i64))],[]⟩ [(.ret,⟨[.slot 6 (.val (.int .i64))],[]⟩),(.exit 0,⟨[],[]⟩)] ⟨(kU 15 18 (6::33::7::kD 14 7 [])),[],[]⟩ F (.two .leaf (.two (.one (.two (.join [(.normal,⟨[.slot 32 (.val (.bool))],[]⟩)] ⟨(kD 32 18 []),[],[]⟩ .leaf) .leaf)) .leaf))))) .leaf)) f145 (by kernel_rfl) fun a=>by kernel_rfl
def Zwu(F:Nat):LK:=lC (Qjp F) (lC (Qkx F) (lC (Zpx F) (lC (Qi4 F) lN)))
def Qk7(F:Nat)(a:(Qz)×(Zi)×Int):Option (Int):=
 gd (decide (0≤a.2.2)) (gd (decide (a.2.2<(↑(a.1.2.2.2.2.length):Int))) (gd (decide (a.2.2.toNat<a.1.2.2.2.2.length)) ((c47 F (a.2.1,(a.1.2.2.2.2.getD (a.2.2.toNat) (ByteArray.empty,ByteArray.empty,Qb ByteArray)).2.1)).bind fun(v23:Int)=>((c54 F (a.1.1,(a.1.2.2.2.2.getD (a.2.2.toNat) (ByteArray.empty,ByteArray.empty,Qb ByteArray)).1)).bind fun(v32:Bool)=>bif !v32 then(some (true))else(some (decide (v23<0)))).bind fun(v24:Bool)=>bif v24 then(some ((10:Int)))else(gd (decide (0≤v23)) (gd (decide (v23<(↑(a.2.1.2.2.2.2.length):Int))) (gd (decide (v23.toNat<a.2.1.2.2.2.2.length)) (bif decide ((a.2.1.2.2.2.2.getD (v23.toNat) Q2).2.2.2.2.2.2.2.2.2.2=0)then(some ((13:Int)))else((Ql1 F (a.1,(a.1.2.2.2.2.getD (a.2.2.toNat) (ByteArray.empty,ByteArray.empty,Qb ByteArray)).1,(a.1.2.2.2.2.getD (a.2.2.toNat) (ByteArray.empty,ByteArray.empty,Qb ByteArray)).2.1)).bind fun(v25:Int)=>bif decide (v25<a.2.2)then(some ((9:Int)))else(gd (decide (0≤v23)) (gd (decide (v23<(↑(a.2.1.2.2.2.2.length):Int))) (gd (decide (v23.toNat<a.2.1.2.2.2.2.length)) (bif !decide ((↑(List.length (a.1.2.2.2.2.getD (a.2.2.toNat) (ByteArray.empty,ByteArray.empty,Qb ByteArray)).2.2):Int)=(a.2.1.2.2.2.2.getD (v23.toNat) Q2).2.2.2.2.2.2.2.2.2.2)then(some ((2:Int)))else((Qq (σ:=Int) (β:=Int ⊕ Unit) (fun(v29:Int)=>bif decide (v29<(↑(List.length (a.1.2.2.2.2.getD (a.2.2.toNat) (ByteArray.empty,ByteArray.empty,Qb ByteArray)).2.2):Int))then(gd (decide (0≤v29)) (gd (decide (v29<(↑(List.length (a.1.2.2.2.2.getD (a.2.2.toNat) (ByteArray.empty,ByteArray.empty,Qb ByteArray)).2.2):Int))) (gd (decide (v29.toNat<List.length (a.1.2.2.2.2.getD (a.2.2.toNat) (ByteArray.empty,ByteArray.empty,Qb ByteArray)).2.2)) ((c40 F (a.1,List.getD (a.1.2.2.2.2.getD (a.2.2.toNat) (ByteArray.empty,ByteArray.empty,Qb ByteArray)).2.2 (v29.toNat) ByteArray.empty)).bind fun(v30:Int)=>bif decide (v30<0)then(some (Sum.inr (Sum.inl (10:Int))))else(gd (decide (0≤v29)) (gd (decide (v29≤(↑(List.length (a.1.2.2.2.2.getD (a.2.2.toNat) (ByteArray.empty,ByteArray.empty,Qb ByteArray)).2.2):Int))) (gd (decide (0≤v29)) (gd (decide (v29<(↑(List.length (a.1.2.2.2.2.getD (a.2.2.toNat) (ByteArray.empty,ByteArray.empty,Qb ByteArray)).2.2):Int))) (gd (decide (v29.toNat<List.length (a.1.2.2.2.2.getD (a.2.2.toNat) (ByteArray.empty,ByteArray.empty,Qb ByteArray)).2.2)) ((c54 F (List.drop (0:Nat) (List.take (v29.toNat) (a.1.2.2.2.2.getD (a.2.2.toNat) (ByteArray.empty,ByteArray.empty,Qb ByteArray)).2.2),List.getD (a.1.2.2.2.2.getD (a.2.2.toNat) (ByteArray.empty,ByteArray.empty,Qb ByteArray)).2.2 (v29.toNat) ByteArray.empty)).bind fun(v31:Bool)=>bif v31 then(some (Sum.inr (Sum.inl (9:Int))))else(some (Sum.inl (w64 (v29+1))))))))))))))else(some (Sum.inr (Sum.inr ())))) F ((0:Int))).bind fun(v26:Int ⊕ Unit)=>Sum.elim (fun(v27:Int)=>some (v27)) (fun(v28:Unit)=>some ((0:Int))) (v26))))))))))))))
def Zl6(F:Nat):PC:={ats:=[.agg Yk,.agg Yu,.val (.int .i64)],rts:=Zq,code:=Qk7 F}
theorem Zpf(F:Nat):Qg cx 123 (Zl6 F):=qE (Zwu F) (Q8 3 (.two (.two (.join [(.normal,⟨[.slot 28 (.val (.bool))],[]⟩)] ⟨(kD 28 10 []),[],[]⟩ .leaf) .leaf) (Q8 3 (.two (.two .leaf (.one (.loop ⟨[.slot 9 (.val (.int .i64))],[]⟩ [(.ret,⟨[.slot 6 (.val (.int .i64))],[]⟩),(.exit 0,⟨[],[]⟩)] ⟨(kU 61 8 (6::kD 78 10 (9::kD 60 7 []))),[],[]⟩ F .leaf))) .leaf)))) f123 (by kernel_rfl) fun a=>by kernel_rfl
def Zpc(F:Nat):LK:=lC (Ql9 F) (lC (Qi4 F) (lC (Zpe F) (lC (Qhe F) (lC (Qkx F) lN))))
def Qlz(F:Nat)(a:(Qz)×Int):Option (Int):=
 gd (decide (0≤a.2)) (gd (decide (a.2<(↑(a.1.2.1.length):Int))) (gd (decide (a.2.toNat<a.1.2.1.length)) ((c67 F (a.1.2.1.getD (a.2.toNat) Xd).1).bind fun(v13:Bool)=>bif !v13 then(some ((8:Int)))else((c40 F (a.1,(a.1.2.1.getD (a.2.toNat) Xd).1)).bind fun(v14:Int)=>bif decide (v14<a.2)then(some ((9:Int)))else((c54 F (a.1.1,(a.1.2.1.getD (a.2.toNat) Xd).2.1)).bind fun(v15:Bool)=>bif !v15 then(some ((10:Int)))else((c94 F ((a.1.2.1.getD (a.2.toNat) Xd).2.2.1,(99999:Int))).bind fun(v16:Bool)=>bif v16 then(some ((3:Int)))else((Qla F (a.1.2.1.getD (a.2.toNat) Xd).2.2.2).bind fun(v17:Int)=>some (v17))))))))
def Zkz(F:Nat):PC:={ats:=Zz5,rts:=Zq,code:=Qlz F}
theorem Zu7(F:Nat):Qg cx 189 (Zkz F):=qE (Zpc F) .leaf f189 (by kernel_rfl) fun a=>by kernel_rfl
def Zym(F:Nat):LK:=lC (Qhe F) (lC (Qkx F) (lC (Zu7 F) (lC (Qi4 F) (lC (Ql9 F) lN))))
def Qj7(F:Nat)(a:Qz):Option (Int):=
 (Qq (σ:=Int) (β:=Int ⊕ Unit) (fun(v70:Int)=>bif decide (v70<(↑(a.1.length):Int))then(gd (decide (0≤v70)) (gd (decide (v70<(↑(a.1.length):Int))) (gd (decide (v70.toNat<a.1.length)) ((c67 F (a.1.getD (v70.toNat) ByteArray.empty)).bind fun(v71:Bool)=>bif !v71 then(some (Sum.inr (Sum.inl (8:Int))))else(gd (decide (0≤v70)) (gd (decide (v70≤(↑(a.1.length):Int))) (gd (decide (0≤v70)) (gd (decide (v70<(↑(a.1.length):Int))) (gd (decide (v70.toNat<a.1.length)) ((c54 F (List.drop (0:Nat) (List.take (v70.toNat) a.1),a.1.getD (v70.toNat) ByteArray.empty)).bind fun(v72:Bool)=>bif v72 then(some (Sum.inr (Sum.inl (9:Int))))else(some (Sum.inl (w64 (v70+1))))))))))))))else(some (Sum.inr (Sum.inr ())))) F ((0:Int))).bind fun(v53:Int ⊕ Unit)=>Sum.elim (fun(v54:Int)=>some (v54)) (fun(v55:Unit)=>(Qq (σ:=Int×Int) (β:=Int) (fun(v67:Int×Int)=>(bif decide (v67.2<(↑(a.2.1.length):Int))then(some (decide (v67.1=0)))else(some (false))).bind fun(v68:Bool)=>bif v68 then((Qlz F (a,v67.2)).bind fun(v69:Int)=>some (Sum.inl (v69,w64 (v67.2+1))))else(some (Sum.inr v67.1))) F (((0:Int),(0:Int)))).bind fun(v56:Int)=>(Qq (σ:=Int×Int) (β:=Int) (fun(v58:Int×Int)=>(bif decide (v58.2<(↑(a.2.2.1.length):Int))then(some (decide (v58.1=0)))else(some (false))).bind fun(v59:Bool)=>bif v59 then(gd (decide (0≤v58.2)) (gd (decide (v58.2<(↑(a.2.2.1.length):Int))) (gd (decide (v58.2.toNat<a.2.2.1.length)) ((c40 F (a,(a.2.2.1.getD (v58.2.toNat) (ByteArray.empty,(0:Int),(0:Int))).1)).bind fun(v60:Int)=>(bif decide (v60<0)then(some ((10:Int)))else(((c94 F ((a.2.2.1.getD (v58.2.toNat) (ByteArray.empty,(0:Int),(0:Int))).2.1,(99999:Int))).bind fun(v65:Bool)=>bif v65 then(some (true))else((c94 F ((a.2.2.1.getD (v58.2.toNat) (ByteArray.empty,(0:Int),(0:Int))).2.2,(99999:Int))).bind fun(v66:Bool)=>some (v66))).bind fun(v62:Bool)=>(bif v62 then(some ((3:Int)))else((bif decide ((a.2.2.1.getD (v58.2.toNat) (ByteArray.empty,(0:Int),(0:Int))).2.2<(a.2.2.1.getD (v58.2.toNat) (ByteArray.empty,(0:Int),(0:Int))).2.1)then(some ((11:Int)))else(some v58.1)).bind fun(v64:Int)=>some (v64))).bind fun(v63:Int)=>some (v63))).bind fun(v61:Int)=>some (Sum.inl (v61,w64 (v58.2+1)))))))else(some (Sum.inr v58.1))) F ((v56,(0:Int)))).bind fun(v57:Int)=>some (v57)) (v53)
def Zn1(F:Nat):PC:={ats:=Qgr,rts:=Zq,code:=Qj7 F}
theorem Zpo(F:Nat):Qg cx 121 (Zn1 F):=qE (Zym F) (.two .leaf (.two (.two .leaf (.one (.loop ⟨[.slot 3 (.val (.int .i64))],[]⟩ [(.ret,⟨[.slot 2 (.val (.int .i64))],[]⟩),(.exit 0,⟨[],[]⟩)] ⟨(kU 15 7 (2::kD 31 10 (3::kD 14 7 []))),[],[]⟩ F .leaf))) (.two .leaf (.two (.two .leaf (.one (.loop ⟨[.slot 4 (.val (.int .i64)),.slot 5 (.val (.int .i64))],[]⟩ [(.exit 2,⟨[.slot 4 (.val (.int .i64))],[]⟩)] ⟨(43::44::45::4::5::kD 42 11 []),[],[]⟩ F (.two (.two (.join [(.normal,⟨[.slot 40 (.val (.bool))],[]⟩)] ⟨(kD 40 9 []),[],[]⟩ .leaf) .leaf) .leaf)))) (.two (.two .leaf (.one (.loop ⟨[.slot 4 (.val (.int .i64)),.slot 6 (.val (.int .i64))],[]⟩ [(.exit 4,⟨[.slot 4 (.val (.int .i64))],[]⟩)] ⟨(57::58::59::60::61::7::4::kD 79 18 (6::kD 56 11 [])),[],[]⟩ F (.two (.two (.join [(.normal,⟨[.slot 54 (.val (.bool))],[]⟩)] ⟨(kD 54 9 []),[],[]⟩ .leaf) .leaf) (.two (.one (Q8 2 (.join [(.normal,⟨[.slot 4 (.val (.int .i64))],[]⟩)] ⟨(kU 67 13 (4::[])),[],[]⟩ (.two .leaf (.two (.join [(.normal,⟨[.slot 74 (.val (.bool))],[]⟩)] ⟨(kD 74 8 []),[],[]⟩ .leaf) (.join [(.normal,⟨[.slot 4 (.val (.int .i64))],[]⟩)] ⟨[75,76,77,78,79,4],[],[]⟩ (Q8 2 (.join [(.normal,⟨[.slot 4 (.val (.int .i64))],[]⟩)] ⟨[4],[],[]⟩ .leaf)))))))) .leaf))))) .leaf))))) f121 (by kernel_rfl) fun a=>by kernel_rfl
def Zvj(F:Nat):LK:=lC (Zpo F) (lC (Zpf F) (lC (Ztv F) (lC (Zs4 F) lN)))
def c26(F:Nat)(a:(Zi)×Qz):Option (Int):=
 (c22 F a.1).bind fun(v25:Int)=>bif !decide (v25=0)then(some (v25))else((bif decide (256<(↑(a.2.1.length):Int))then(some (true))else(bif decide (256<(↑(a.2.2.1.length):Int))then(some (true))else(bif decide (256<(↑(a.2.2.2.1.length):Int))then(some (true))else(bif decide (256<(↑(a.2.2.2.2.1.length):Int))then(some (true))else(some (decide (256<(↑(a.2.2.2.2.2.length):Int)))))))).bind fun(v26:Bool)=>bif v26 then(some ((5:Int)))else((Qj7 F a.2).bind fun(v27:Int)=>(Qq (σ:=Int×Int) (β:=Int) (fun(v33:Int×Int)=>(bif decide (v33.2<(↑(a.2.2.2.2.1.length):Int))then(some (decide (v33.1=0)))else(some (false))).bind fun(v34:Bool)=>bif v34 then((Qkk F (a.2,a.1,v33.2)).bind fun(v35:Int)=>some (Sum.inl (v35,w64 (v33.2+1))))else(some (Sum.inr v33.1))) F ((v27,(0:Int)))).bind fun(v28:Int)=>(Qq (σ:=Int×Int) (β:=Int) (fun(v30:Int×Int)=>(bif decide (v30.2<(↑(a.2.2.2.2.2.length):Int))then(some (decide (v30.1=0)))else(some (false))).bind fun(v31:Bool)=>bif v31 then((Qk7 F (a.2,a.1,v30.2)).bind fun(v32:Int)=>some (Sum.inl (v32,w64 (v30.2+1))))else(some (Sum.inr v30.1))) F ((v28,(0:Int)))).bind fun(v29:Int)=>some (v29)))
def Zt6(F:Nat):PC:={ats:=Qd7,rts:=Zq,code:=c26 F}
theorem Zjd(F:Nat):Qg cx 26 (Zt6 F):=qE (Zvj F) (Q8 3 (.two (.two (.join [(.normal,⟨[.slot 40 (.val (.bool))],[]⟩)] ⟨(kD 40 28 []),[],[]⟩ .leaf) .leaf) (.two .leaf (.two (.two .leaf (.one (.loop ⟨[.slot 5 (.val (.int .i64)),.slot 6 (.val (.int .i64))],[]⟩ [(.exit 0,⟨[.slot 5 (.val (.int .i64))],[]⟩)] ⟨(54::55::56::57::5::6::kD 53 11 []),[],[]⟩ F (.two (.two (.join [(.normal,⟨[.slot 51 (.val (.bool))],[]⟩)] ⟨(kD 51 9 []),[],[]⟩ .leaf) .leaf) .leaf)))) (.two (.two .leaf (.one (.loop ⟨[.slot 5 (.val (.int .i64)),.slot 7 (.val (.int .i64))],[]⟩ [(.exit 2,⟨[.slot 5 (.val (.int .i64))],[]⟩)] ⟨(69::70::71::72::5::7::kD 68 11 []),[],[]⟩ F (.two (.two (.join [(.normal,⟨[.slot 66 (.val (.bool))],[]⟩)] ⟨(kD 66 9 []),[],[]⟩ .leaf) .leaf) .leaf)))) .leaf))))) f26 (by kernel_rfl) fun a=>by kernel_rfl
def Zud(F:Nat):LK:=lC (Ya F) lN
def c87(F:Nat)(a:Int×Int):Option (Int):=
 (bif decide (a.1<0)then(some ((3:Int)))else((Q1 F (decide (a.2<a.1),(3:Int))).bind fun(v9:Int)=>some (v9))).bind fun(v8:Int)=>some (v8)
def Zgn(F:Nat):PC:={ats:=Qk3,rts:=Zq,code:=c87 F}
theorem Qz3(F:Nat):Qg cx 87 (Zgn F):=qE (Zud F) (.two .leaf (.two (.join [(.normal,⟨[.slot 4 (.val (.int .i64))],[]⟩)] ⟨(4::kD 12 8 []),[],[]⟩ .leaf) .leaf)) f87 (by kernel_rfl) fun a=>by kernel_rfl
def Znd(F:Nat):LK:=lN
def Jg(F:Nat)(a:List Int):Option (Int):=
 (Qq (σ:=Int) (β:=Int ⊕ Unit) (fun(v13:Int)=>bif decide (v13<(↑(a.length):Int))then(gd (decide (0≤v13)) (gd (decide (v13<(↑(a.length):Int))) (gd (decide (v13.toNat<a.length)) (bif !decide (a.getD (v13.toNat) (0:Int)=(0:Int))then(some (Sum.inr (Sum.inl (a.getD (v13.toNat) (0:Int)))))else(some (Sum.inl (w64 (v13+1))))))))else(some (Sum.inr (Sum.inr ())))) F ((0:Int))).bind fun(v10:Int ⊕ Unit)=>Sum.elim (fun(v11:Int)=>some (v11)) (fun(v12:Unit)=>some ((0:Int))) (v10)
def Zul(F:Nat):PC:={ats:=[.val (.seq kt6)],rts:=Zq,code:=Jg F}
theorem Qyp(F:Nat):Qg cx 175 (Zul F):=qE (Znd F) (.two .leaf (.two (.two .leaf (.one (.loop ⟨[.slot 7 (.val (.int .i64))],[]⟩ [(.ret,⟨[.slot 2 (.val (.int .i64))],[]⟩),(.exit 0,⟨[],[]⟩)] ⟨[14,7,11,12,2,13,4,10,9,8],[],[]⟩ F .leaf))) .leaf)) f175 (by kernel_rfl) fun a=>by kernel_rfl
def Zir(F:Nat):LK:=lN
def Y9(F:Nat)(a:Bool×Int):Option (Int):=
 bif a.1 then(some a.2)else(some ((0:Int)))
def Zma(F:Nat):PC:={ats:=Qs8,rts:=Zq,code:=Y9 F}
theorem Qvm(F:Nat):Qg cx 176 (Zma F):=qE (Zir F) .leaf f176 (by kernel_rfl) fun a=>by kernel_rfl
def Zgo(F:Nat):LK:=lN
def Qle(F:Nat)(a:List ByteArray×ByteArray):Option (Int):=
 (Qq (σ:=Int) (β:=Int ⊕ Unit) (fun(v13:Int)=>bif decide (v13<(↑(a.1.length):Int))then(gd (decide (0≤v13)) (gd (decide (v13<(↑(a.1.length):Int))) (gd (decide (v13.toNat<a.1.length)) (bif Qf a.2 (a.1.getD (v13.toNat) ByteArray.empty)then(some (Sum.inr (Sum.inl v13)))else(some (Sum.inl (w64 (v13+1))))))))else(some (Sum.inr (Sum.inr ())))) F ((0:Int))).bind fun(v10:Int ⊕ Unit)=>Sum.elim (fun(v11:Int)=>some (v11)) (fun(v12:Unit)=>some ((-1:Int))) (v10)
def Zmw(F:Nat):PC:={ats:=Qja,rts:=Zq,code:=Qle F}
theorem Zmf(F:Nat):Qg cx 183 (Zmw F):=qE (Zgo F) (.two .leaf (.two (.two .leaf (.one (.loop ⟨[.slot 8 (.val (.int .i64))],[]⟩ [(.ret,⟨[.slot 4 (.val (.int .i64))],[]⟩),(.exit 0,⟨[],[]⟩)] ⟨[18,8,11,12,13,14,15,16,4,17,5,10,9],[],[]⟩ F .leaf))) .leaf)) f183 (by kernel_rfl) fun a=>by kernel_rfl
def Zdy(F:Nat):LK:=lC (Zmf F) lN
def Wq(F:Nat)(a:List ByteArray×ByteArray):Option (Bool):=
 (Qle F a).bind fun(v5:Int)=>some (decide (0≤v5))
def Zgp(F:Nat):PC:={ats:=Qja,rts:=Yx,code:=Wq F}
theorem X8(F:Nat):Qg cx 107 (Zgp F):=qE (Zdy F) .leaf f107 (by kernel_rfl) fun a=>by kernel_rfl
def Zej(F:Nat):LK:=lC (X8 F) lN
def Qju(F:Nat)(a:ByteArray):Option (Bool):=
 (Wq F ({data:=List.toArray (68::78::83::Qb UInt8)}::{data:=List.toArray (68::78::70::Qb UInt8)}::{data:=List.toArray (68::81::Qb UInt8)}::{data:=List.toArray (78::77::Qb UInt8)}::Qb ByteArray,a)).bind fun(v5:Bool)=>some (v5)
def Zrc(F:Nat):PC:={ats:=Kw,rts:=Yx,code:=Qju F}
theorem Zm1(F:Nat):Qg cx 177 (Zrc F):=qE (Zej F) .leaf f177 (by kernel_rfl) fun a=>by kernel_rfl
def Zun(F:Nat):LK:=lN
def Vt(F:Nat)(a:Int×Int×Int):Option (Bool):=
 (bif decide (a.1<a.2.1)then(some (true))else(some (decide (a.2.2<a.1)))).bind fun(v5:Bool)=>some (v5)
def Zd9(F:Nat):PC:={ats:=Qvk,rts:=Yx,code:=Vt F}
theorem Zee(F:Nat):Qg cx 179 (Zd9 F):=qE (Zun F) (.two .leaf (.two (.join [(.normal,⟨[.slot 6 (.val (.bool))],[]⟩)] ⟨(6::kD 14 8 []),[],[]⟩ .leaf) .leaf)) f179 (by kernel_rfl) fun a=>by kernel_rfl
def Zep(F:Nat):LK:=lC (Zee F) (lC (Zm1 F) (lC (Qvm F) (lC (Qyp F) lN)))
def c99(F:Nat)(a:ByteArray×Int×ByteArray):Option (Int):=
 bif Qf a.1 {data:=List.toArray (110::111::110::101::Qb UInt8)}then((Qju F a.2.2).bind fun(v66:Bool)=>(Y9 F (!v66,(1:Int))).bind fun(v67:Int)=>(Y9 F (!decide (a.2.1=0),(3:Int))).bind fun(v68:Int)=>(Jg F (v67::v68::Qb Int)).bind fun(v69:Int)=>some (v69))else((bif Qf a.1 {data:=List.toArray (116::105::109::101::Qb UInt8)}then((Y9 F (!Qf a.2.2 {data:=List.toArray (Qb UInt8)},(1:Int))).bind fun(v88:Int)=>(Vt F (a.2.1,(1:Int),(863999999:Int))).bind fun(v89:Bool)=>(Y9 F (v89,(3:Int))).bind fun(v90:Int)=>(Jg F ((0:Int)::v88::v90::Qb Int)).bind fun(v91:Int)=>some (v91))else(bif Qf a.1 {data:=List.toArray (108::101::110::103::116::104::Qb UInt8)}then((Y9 F (!Qf a.2.2 {data:=List.toArray (Qb UInt8)},(1:Int))).bind fun(v92:Int)=>(Vt F (a.2.1,(0:Int),(999999:Int))).bind fun(v93:Bool)=>(Y9 F (v93,(3:Int))).bind fun(v94:Int)=>(Jg F ((0:Int)::v92::v94::Qb Int)).bind fun(v95:Int)=>some (v95))else(bif Qf a.1 {data:=List.toArray (112::111::105::110::116::115::Qb UInt8)}then((Y9 F (!Qf a.2.2 {data:=List.toArray (Qb UInt8)},(1:Int))).bind fun(v96:Int)=>(Vt F (a.2.1,(0:Int),(99999:Int))).bind fun(v97:Bool)=>(Y9 F (v97,(3:Int))).bind fun(v98:Int)=>(Jg F ((0:Int)::v96::v98::Qb Int)).bind fun(v99:Int)=>some (v99))else((Y9 F (!Qf a.2.2 {data:=List.toArray (Qb UInt8)},(1:Int))).bind fun(v100:Int)=>(Vt F (a.2.1,(0:Int),(0:Int))).bind fun(v101:Bool)=>(Y9 F (v101,(3:Int))).bind fun(v102:Int)=>(Jg F ((13:Int)::v100::v102::Qb Int)).bind fun(v103:Int)=>some (v103))))).bind fun(v70:Int)=>(bif Qf a.1 {data:=List.toArray (116::105::109::101::Qb UInt8)}then((Y9 F (!Qf a.2.2 {data:=List.toArray (Qb UInt8)},(1:Int))).bind fun(v72:Int)=>(Vt F (a.2.1,(1:Int),(863999999:Int))).bind fun(v73:Bool)=>(Y9 F (v73,(3:Int))).bind fun(v74:Int)=>(Jg F ((0:Int)::v72::v74::Qb Int)).bind fun(v75:Int)=>some (v75))else(bif Qf a.1 {data:=List.toArray (108::101::110::103::116::104::Qb UInt8)}then((Y9 F (!Qf a.2.2 {data:=List.toArray (Qb UInt8)},(1:Int))).bind fun(v76:Int)=>(Vt F (a.2.1,(0:Int),(999999:Int))).bind fun(v77:Bool)=>(Y9 F (v77,(3:Int))).bind fun(v78:Int)=>(Jg F ((0:Int)::v76::v78::Qb Int)).bind fun(v79:Int)=>some (v79))else(bif Qf a.1 {data:=List.toArray (112::111::105::110::116::115::Qb UInt8)}then((Y9 F (!Qf a.2.2 {data:=List.toArray (Qb UInt8)},(1:Int))).bind fun(v80:Int)=>(Vt F (a.2.1,(0:Int),(99999:Int))).bind fun(v81:Bool)=>(Y9 F (v81,(3:Int))).bind fun(v82:Int)=>(Jg F ((0:Int)::v80::v82::Qb Int)).bind fun(v83:Int)=>some (v83))else((Y9 F (!Qf a.2.2 {data:=List.toArray (Qb UInt8)},(1:Int))).bind fun(v84:Int)=>(Vt F (a.2.1,(0:Int),(0:Int))).bind fun(v85:Bool)=>(Y9 F (v85,(3:Int))).bind fun(v86:Int)=>(Jg F ((13:Int)::v84::v86::Qb Int)).bind fun(v87:Int)=>some (v87))))).bind fun(v71:Int)=>gd (Qx.eqv (Qe.val (Ty.int Go.IntKind.i64)::Qb Qe) v70 v71) (some (v70)))
def Qlp(F:Nat):PC:={ats:=[.agg kt7],rts:=Zq,code:=c99 F}
theorem Qdq(F:Nat):Qg cx 99 (Qlp F):=qE (Zep F) (Q8 2 (.two (.within [(178,.leaf)]) .leaf)) f99 (by kernel_rfl) fun a=>by kernel_rfl
def Zmq(F:Nat):LK:=lN
def Xl(F:Nat)(a:(Z4)×ByteArray×Int×ByteArray):Option (Bool):=
 (bif Qf a.2.1 a.1.2.1 then(some (true))else(some (Qf a.2.1 {data:=List.toArray (110::111::110::101::Qb UInt8)}))).bind fun(v5:Bool)=>some (v5)
def Zkk(F:Nat):PC:={ats:=[.agg kt5,.agg kt7],rts:=Yx,code:=Xl F}
theorem Qok(F:Nat):Qg cx 155 (Zkk F):=qE (Zmq F) (.two .leaf (.two (.join [(.normal,⟨[.slot 4 (.val (.bool))],[]⟩)] ⟨(4::kD 14 10 []),[],[]⟩ .leaf) .leaf)) f155 (by kernel_rfl) fun a=>by kernel_rfl
def Zjh(F:Nat):LK:=lC (X8 F) (lC (Ya F) (lC (Qff F) (lC (Qz3 F) (lC (Yl F) (lC (Qok F) (lC (Qdq F) lN))))))
def c93(F:Nat)(a:Z4):Option (Int):=
 ((Wq F ({data:=List.toArray (116::105::109::101::Qb UInt8)}::{data:=List.toArray (108::101::110::103::116::104::Qb UInt8)}::{data:=List.toArray (112::111::105::110::116::115::Qb UInt8)}::Qb ByteArray,a.2.1)).bind fun(v63:Bool)=>(Q1 F (!v63,(13:Int))).bind fun(v64:Int)=>bif !Qf a.2.2.1 {data:=List.toArray (Qb UInt8)}then((c98 F a.2.2.1).bind fun(v65:Bool)=>(Q1 F (!v65,(8:Int))).bind fun(v66:Int)=>(c87 F (a.2.2.2.1,(120:Int))).bind fun(v67:Int)=>(c87 F (a.2.2.2.2.1,(120:Int))).bind fun(v68:Int)=>(Q1 F (decide (a.2.2.2.2.1<a.2.2.2.1),(11:Int))).bind fun(v69:Int)=>(Zn F (v64::v66::v67::v68::v69::Qb Int)).bind fun(v70:Int)=>some (v70))else((c87 F (a.2.2.2.1,(120:Int))).bind fun(v71:Int)=>(c87 F (a.2.2.2.2.1,(120:Int))).bind fun(v72:Int)=>(Q1 F (decide (a.2.2.2.2.1<a.2.2.2.1),(11:Int))).bind fun(v73:Int)=>(Zn F (v64::(0:Int)::v71::v72::v73::Qb Int)).bind fun(v74:Int)=>some (v74))).bind fun(v55:Int)=>bif !decide (v55=0)then(some (v55))else((c87 F (a.2.2.2.2.2.1,(160:Int))).bind fun(v56:Int)=>(c87 F (a.2.2.2.2.2.2.1,(160:Int))).bind fun(v57:Int)=>(c87 F (a.2.2.2.2.2.2.2.2.2.2,(8:Int))).bind fun(v58:Int)=>(c99 F (a.2.2.2.2.2.2.2.1,a.2.2.2.2.2.2.2.2.1,a.2.2.2.2.2.2.2.2.2.1)).bind fun(v59:Int)=>(Xl F (a,a.2.2.2.2.2.2.2.1,a.2.2.2.2.2.2.2.2.1,a.2.2.2.2.2.2.2.2.2.1)).bind fun(v60:Bool)=>(Q1 F (!v60,(13:Int))).bind fun(v61:Int)=>(Zn F (v56::v57::v58::v59::v61::Qb Int)).bind fun(v62:Int)=>some (v62))
def Zny(F:Nat):PC:={ats:=[.agg kt5],rts:=Zq,code:=c93 F}
theorem Qna(F:Nat):Qg cx 93 (Zny F):=qE (Zjh F) (Q8 2 (.two (.two (.join [(.normal,⟨[.slot 4 (.val (.int .i64))],[]⟩)] ⟨(4::kD 35 30 []),[],[]⟩ .leaf) .leaf) .leaf)) f93 (by kernel_rfl) fun a=>by kernel_rfl
def Zls:Qi:=⟨[.slot 0 (.agg kt5),.one 0 110 kt5],[(1,.stat (.ptr 0 11 0 0))]⟩
def Zp5:Qi:=⟨[.slot 0 (.val (.bool))],[]⟩
def Zdf(F:Nat):LK:=lN
def Zrb(F:Nat):PX:=qX (Zdf F) .leaf f91 (pxB 2 [.arg 1] Zls 1 Zp5 [] [])
theorem Qht(F:Nat):Zg cx 91 (Zrb F):=Qaf (by kernel_rfl)
def Zxn:Qi:=⟨[.slot 0 (.val (.seq kt5)),.one 0 110 kt5],[(1,.stat (.fn (.func 91) [] [.ptr 0 11 0 0]))]⟩
def Zh5:Qi:=⟨[.slot 0 (.val (.int .i64))],[]⟩
def Zrt(F:Nat):LK:=lX (Qht F) lN
def Qjv(F:Nat)(a:List (Z4)×Z4):Option (Int):=
 (Qq (σ:=Int) (β:=Int ⊕ Unit) (fun(v13:Int)=>bif decide (v13<(↑(a.1.length):Int))then(gd (decide (0≤v13)) (gd (decide (v13<(↑(a.1.length):Int))) (gd (decide (v13.toNat<a.1.length)) (bif Qf (a.1.getD (v13.toNat) Q2).1 a.2.1 then(some (Sum.inr (Sum.inl v13)))else(some (Sum.inl (w64 (v13+1))))))))else(some (Sum.inr (Sum.inr ())))) F ((0:Int))).bind fun(v10:Int ⊕ Unit)=>Sum.elim (fun(v11:Int)=>some (v11)) (fun(v12:Unit)=>some ((-1:Int))) (v10)
def Zkm(F:Nat):PX:={np:=2,locs:=[.cap (.arg 1) 0],τ:=Zxn,nr:=1,ω:=Zh5,ids:=[],mv:=[],code:=Qjv F}
theorem Qf9(F:Nat):Zg cx 154 (Zkm F):=qXE (Zrt F) (.two .leaf (.two (.two .leaf (.one (.loop ⟨[.slot 8 (.val (.int .i64))],[]⟩ [(.ret,⟨[.slot 4 (.val (.int .i64))],[]⟩),(.exit 0,⟨[],[]⟩)] ⟨[18,8,11,12,13,14,15,16,4,17,5,10,9],[],[]⟩ F .leaf))) .leaf)) f154 (by kernel_rfl) fun a=>by kernel_rfl
def Zib:Qi:=⟨[.slot 0 (.val (.seq kt5)),.one 0 110 kt5],[(1,.stat (.fn (.func 91) [] [.ptr 0 11 0 0]))]⟩
def Zvq:Qi:=⟨[.slot 0 (.val (.bool))],[]⟩
def Ztq(F:Nat):LK:=lX (Qht F) (lX (Qf9 F) lN)
def Qlj(F:Nat)(a:List (Z4)×Z4):Option (Bool):=
 (Qjv F a).bind fun(v5:Int)=>some (decide (0≤v5))
def Zra(F:Nat):PX:={np:=2,locs:=[.cap (.arg 1) 0],τ:=Zib,nr:=1,ω:=Zvq,ids:=[],mv:=[],code:=Qlj F}
theorem Qoo(F:Nat):Zg cx 90 (Zra F):=qXE (Ztq F) .leaf f90 (by kernel_rfl) fun a=>by kernel_rfl
def Zzp:Qi:=⟨[.slot 0 (.val (.int .i64)),.slot 1 (.agg kt5),.one 0 24 Yu],[(2,.stat (.ptr 0 5 0 0))]⟩
def Zt4:Qi:=⟨[.slot 0 (.val (.int .i64))],[]⟩
def Zzn(F:Nat):LK:=lC (Vq F) (lC (Ya F) (lC (Qna F) (lC (Yl F) (lX (Qht F) (lX (Qf9 F) (lX (Qoo F) lN))))))
def Qiz(F:Nat)(a:Int×(Z4)×Zi):Option (Int):=
 gd (decide (0≤a.1)) (gd (decide (a.1≤(↑(a.2.2.2.2.2.2.length):Int))) ((Qlj F (List.drop (0:Nat) (List.take (a.1.toNat) a.2.2.2.2.2.2),a.2.1.1,a.2.1.2.1,a.2.1.2.2.1,a.2.1.2.2.2.1,a.2.1.2.2.2.2.1,a.2.1.2.2.2.2.2.1,a.2.1.2.2.2.2.2.2.1,a.2.1.2.2.2.2.2.2.2.1,a.2.1.2.2.2.2.2.2.2.2.1,a.2.1.2.2.2.2.2.2.2.2.2.1,a.2.1.2.2.2.2.2.2.2.2.2.2)).bind fun(v13:Bool)=>(c92 F a.2.1.1).bind fun(v14:Int)=>(Q1 F (v13,(9:Int))).bind fun(v15:Int)=>(c93 F a.2.1).bind fun(v16:Int)=>(Zn F (v14::v15::v16::Qb Int)).bind fun(v17:Int)=>some (v17)))
def Zui(F:Nat):PX:={np:=3,locs:=[.arg 2],τ:=Zzp,nr:=1,ω:=Zt4,ids:=[],mv:=[],code:=Qiz F}
theorem Zbu(F:Nat):Zg cx 89 (Zui F):=qXE (Zzn F) .leaf f89 (by kernel_rfl) fun a=>by kernel_rfl
def Zfp:Qi:=⟨[.slot 0 (.val (.seq kt5)),.one 0 24 Yu],[(1,.stat (.fn (.func 89) [] [.ptr 0 5 0 0]))]⟩
def Zwe:Qi:=⟨[.slot 0 (.val (.int .i64))],[]⟩
def Zi0(F:Nat):LK:=lC (Vq F) (lC (Ya F) (lC (Qna F) (lC (Yl F) (lX (Qht F) (lX (Qf9 F) (lX (Qoo F) (lX (Zbu F) lN)))))))
def Qjg(F:Nat)(a:List (Z4)×Zi):Option (Int):=
 (Qq (σ:=Int) (β:=Int ⊕ Unit) (fun(v15:Int)=>bif decide (v15<(↑(a.1.length):Int))then(gd (decide (0≤v15)) (gd (decide (v15<(↑(a.1.length):Int))) (gd (decide (v15.toNat<a.1.length)) ((Qiz F (v15,(a.1.getD (v15.toNat) Q2),a.2.1,a.2.2.1,a.2.2.2.1,a.2.2.2.2.1,a.2.2.2.2.2)).bind fun(v16:Int)=>bif !decide (v16=0)then(some (Sum.inr (Sum.inl v16)))else(some (Sum.inl (w64 (v15+1))))))))else(some (Sum.inr (Sum.inr ())))) F ((0:Int))).bind fun(v12:Int ⊕ Unit)=>Sum.elim (fun(v13:Int)=>some (v13)) (fun(v14:Unit)=>some ((0:Int))) (v12)
def Zte(F:Nat):PX:={np:=2,locs:=[.cap (.arg 1) 0],τ:=Zfp,nr:=1,ω:=Zwe,ids:=[],mv:=[],code:=Qjg F}
theorem Zj0(F:Nat):Zg cx 88 (Zte F):=qXE (Zi0 F) (.two .leaf (.two (.two .leaf (.one (.loop ⟨[.slot 10 (.val (.int .i64))],[]⟩ [(.ret,⟨[.slot 4 (.val (.int .i64))],[]⟩),(.exit 0,⟨[],[]⟩)] ⟨[22,10,15,16,17,18,7,21,4,20,19,5,6,14,13,12,11],[],[]⟩ F .leaf))) .leaf)) f88 (by kernel_rfl) fun a=>by kernel_rfl
def Zm3(F:Nat):LK:=lC (Vq F) (lC (Qna F) (lC (Yl F) (lC (Qz3 F) (lC (Ya F) (lC (Qbj F) (lX (Qht F) (lX (Qf9 F) (lX (Qoo F) (lX (Zbu F) (lX (Zj0 F) lN))))))))))
def c21(F:Nat)(a:Zi):Option (Int):=
 ((c85 F (a.1::a.2.1::a.2.2.1::Qb Int)).bind fun(v33:Int)=>bif decide (a.2.2.1<a.2.1)then((c87 F (a.2.2.2.1,(32:Int))).bind fun(v34:Int)=>(Q1 F (decide (32<(↑(a.2.2.2.2.length):Int)),(5:Int))).bind fun(v35:Int)=>(Zn F (v33::(11:Int)::v34::v35::Qb Int)).bind fun(v36:Int)=>some (v36))else((Q1 F (decide (a.1<a.2.2.1),(11:Int))).bind fun(v37:Int)=>(c87 F (a.2.2.2.1,(32:Int))).bind fun(v38:Int)=>(Q1 F (decide (32<(↑(a.2.2.2.2.length):Int)),(5:Int))).bind fun(v39:Int)=>(Zn F (v33::v37::v38::v39::Qb Int)).bind fun(v40:Int)=>some (v40))).bind fun(v31:Int)=>bif !decide (v31=0)then(some (v31))else((Qjg F (a.2.2.2.2,a.1,a.2.1,a.2.2.1,a.2.2.2.1,a.2.2.2.2)).bind fun(v32:Int)=>some (v32))
def Qnl(F:Nat):PC:={ats:=[.agg Yu],rts:=Zq,code:=c21 F}
theorem Qnf(F:Nat):Qg cx 21 (Qnl F):=qE (Zm3 F) (.two .leaf (.two (.two (.join [(.normal,⟨[.slot 3 (.val (.int .i64))],[]⟩)] ⟨(3::kD 34 31 []),[],[]⟩ .leaf) .leaf) .leaf)) f21 (by kernel_rfl) fun a=>by kernel_rfl
def Zuz(F:Nat):LK:=lN
def Qof(F:Nat):PC:=qT (Zuz F) .leaf f105 Qgr Yx
theorem Qq9(F:Nat):Qg cx 105 (Qof F):=Xh (by kernel_rfl)
def Zxr:Qi:=⟨[.slot 0 (.agg kt5),.one 0 9 Zr],[(1,.stat (.ptr 0 1 0 0))]⟩
def Ztm:Qi:=⟨[.slot 0 (.val (.bool))],[]⟩
def Zfs(F:Nat):LK:=lN
def Zuo(F:Nat):PX:=qX (Zfs F) .leaf f195 (pxB 2 [.arg 1] Zxr 1 Ztm [] [])
theorem Qtn(F:Nat):Zg cx 195 (Zuo F):=Qaf (by kernel_rfl)
def Zfh:Qi:=⟨[.slot 0 (.val (.seq kt5)),.one 0 9 Zr],[(1,.stat (.fn (.func 195) [] [.ptr 0 1 0 0]))]⟩
def Zow:Qi:=⟨[.slot 0 (.val (.int .i64))],[]⟩
def Zj8(F:Nat):LK:=lX (Qtn F) lN
def Qmn(F:Nat)(a:List (Z4)×ByteArray):Option (Int):=
 (Qq (σ:=Int) (β:=Int ⊕ Unit) (fun(v13:Int)=>bif decide (v13<(↑(a.1.length):Int))then(gd (decide (0≤v13)) (gd (decide (v13<(↑(a.1.length):Int))) (gd (decide (v13.toNat<a.1.length)) (bif Qf (a.1.getD (v13.toNat) Q2).1 a.2 then(some (Sum.inr (Sum.inl v13)))else(some (Sum.inl (w64 (v13+1))))))))else(some (Sum.inr (Sum.inr ())))) F ((0:Int))).bind fun(v10:Int ⊕ Unit)=>Sum.elim (fun(v11:Int)=>some (v11)) (fun(v12:Unit)=>some ((-1:Int))) (v10)
def Zgw(F:Nat):PX:={np:=2,locs:=[.cap (.arg 1) 0],τ:=Zfh,nr:=1,ω:=Zow,ids:=[],mv:=[],code:=Qmn F}
theorem Zf0(F:Nat):Zg cx 154 (Zgw F):=qXE (Zj8 F) (.two .leaf (.two (.two .leaf (.one (.loop ⟨[.slot 8 (.val (.int .i64))],[]⟩ [(.ret,⟨[.slot 4 (.val (.int .i64))],[]⟩),(.exit 0,⟨[],[]⟩)] ⟨[18,8,11,12,13,14,15,16,4,17,5,10,9],[],[]⟩ F .leaf))) .leaf)) f154 (by kernel_rfl) fun a=>by kernel_rfl
def Zfv(F:Nat):LK:=lX (Qf9 F) (lX (Qtn F) (lX (Zf0 F) lN))
def Qdg(F:Nat)(a:(Zi)×ByteArray):Option ((Z4)×Bool):=
 (Qmn F (a.1.2.2.2.2,a.2)).bind fun(v5:Int)=>bif decide (v5<0)then(some ((({data:=List.toArray (Qb UInt8)},{data:=List.toArray (Qb UInt8)},{data:=List.toArray (Qb UInt8)},(0:Int),(0:Int),(0:Int),(0:Int),{data:=List.toArray (Qb UInt8)},(0:Int),{data:=List.toArray (Qb UInt8)},(0:Int)),false)))else(gd (decide (0≤v5)) (gd (decide (v5<(↑(a.1.2.2.2.2.length):Int))) (gd (decide (v5.toNat<a.1.2.2.2.2.length)) (some (((a.1.2.2.2.2.getD (v5.toNat) Q2),true))))))
def Qs0(F:Nat):PC:={ats:=[.agg Yu,.val (.str)],rts:=[.agg kt5,.val (.bool)],code:=Qdg F}
theorem Qcz(F:Nat):Qg cx 131 (Qs0 F):=qE (Zfv F) .leaf f131 (by kernel_rfl) fun a=>by kernel_rfl
def Zji:Qi:=⟨[.slot 0 (.agg kt3),.one 0 9 Zr],[(1,.stat (.ptr 0 1 0 0))]⟩
def Zjs:Qi:=⟨[.slot 0 (.val (.bool))],[]⟩
def Zwd(F:Nat):LK:=lN
def Zo0(F:Nat):PX:=qX (Zwd F) .leaf f185 (pxB 2 [.arg 1] Zji 1 Zjs [] [])
theorem Qth(F:Nat):Zg cx 185 (Zo0 F):=Qaf (by kernel_rfl)
def Zq4:Qi:=⟨[.slot 0 (.val (.seq kt3)),.one 0 9 Zr],[(1,.stat (.fn (.func 185) [] [.ptr 0 1 0 0]))]⟩
def Zfb:Qi:=⟨[.slot 0 (.val (.int .i64))],[]⟩
def Zr7(F:Nat):LK:=lX (Qth F) lN
def Qlh(F:Nat)(a:List (Zu)×ByteArray):Option (Int):=
 (Qq (σ:=Int) (β:=Int ⊕ Unit) (fun(v13:Int)=>bif decide (v13<(↑(a.1.length):Int))then(gd (decide (0≤v13)) (gd (decide (v13<(↑(a.1.length):Int))) (gd (decide (v13.toNat<a.1.length)) (bif Qf (a.1.getD (v13.toNat) Xd).1 a.2 then(some (Sum.inr (Sum.inl v13)))else(some (Sum.inl (w64 (v13+1))))))))else(some (Sum.inr (Sum.inr ())))) F ((0:Int))).bind fun(v10:Int ⊕ Unit)=>Sum.elim (fun(v11:Int)=>some (v11)) (fun(v12:Unit)=>some ((-1:Int))) (v10)
def Zz4(F:Nat):PX:={np:=2,locs:=[.cap (.arg 1) 0],τ:=Zq4,nr:=1,ω:=Zfb,ids:=[],mv:=[],code:=Qlh F}
theorem Qpc(F:Nat):Zg cx 184 (Zz4 F):=qXE (Zr7 F) (.two .leaf (.two (.two .leaf (.one (.loop ⟨[.slot 8 (.val (.int .i64))],[]⟩ [(.ret,⟨[.slot 4 (.val (.int .i64))],[]⟩),(.exit 0,⟨[],[]⟩)] ⟨[18,8,11,12,13,14,15,16,4,17,5,10,9],[],[]⟩ F .leaf))) .leaf)) f184 (by kernel_rfl) fun a=>by kernel_rfl
def Zyt(F:Nat):LK:=lX (Qth F) (lX (Qpc F) lN)
def Wz(F:Nat)(a:(Qz)×ByteArray):Option (Int):=
 (Qlh F (a.1.2.1,a.2)).bind fun(v5:Int)=>some (v5)
def Qv5(F:Nat):PC:={ats:=Qc4,rts:=Zq,code:=Wz F}
theorem Xc(F:Nat):Qg cx 110 (Qv5 F):=qE (Zyt F) .leaf f110 (by kernel_rfl) fun a=>by kernel_rfl
def Zdu:Qi:=⟨[.slot 0 (.agg kt9),.one 0 9 Zr,.one 1 9 Zr],[(1,.stat (.ptr 0 1 0 0)),(2,.stat (.ptr 1 1 0 0))]⟩
def Zo6:Qi:=⟨[.slot 0 (.val (.bool))],[]⟩
def Zz3(F:Nat):LK:=lN
def Qj8(F:Nat)(a:(Zh)×ByteArray×ByteArray):Option (Bool):=
 (bif Qf a.1.1 a.2.1 then(some (Qf a.1.2.1 a.2.2))else(some (false))).bind fun(v5:Bool)=>some (v5)
def Zzk(F:Nat):PX:={np:=3,locs:=[.arg 1,.arg 2],τ:=Zdu,nr:=1,ω:=Zo6,ids:=[],mv:=[],code:=Qj8 F}
theorem Qy7(F:Nat):Zg cx 226 (Zzk F):=qXE (Zz3 F) (.two .leaf (.two (.join [(.normal,⟨[.slot 4 (.val (.bool))],[]⟩)] ⟨(4::kD 14 10 []),[],[]⟩ .leaf) .leaf)) f226 (by kernel_rfl) fun a=>by kernel_rfl
def Zvi:Qi:=⟨[.slot 0 (.val (.seq kt9)),.one 0 9 Zr,.one 1 9 Zr],[(1,.stat (.fn (.func 226) [] [.ptr 0 1 0 0,.ptr 1 1 0 0]))]⟩
def Zc4:Qi:=⟨[.slot 0 (.val (.int .i64))],[]⟩
def Zqj(F:Nat):LK:=lX (Qy7 F) lN
def Qj2(F:Nat)(a:List (Zh)×ByteArray×ByteArray):Option (Int):=
 (Qq (σ:=Int) (β:=Int ⊕ Unit) (fun(v15:Int)=>bif decide (v15<(↑(a.1.length):Int))then(gd (decide (0≤v15)) (gd (decide (v15<(↑(a.1.length):Int))) (gd (decide (v15.toNat<a.1.length)) ((Qj8 F ((a.1.getD (v15.toNat) (ByteArray.empty,ByteArray.empty,Qb ByteArray)),a.2.1,a.2.2)).bind fun(v16:Bool)=>bif v16 then(some (Sum.inr (Sum.inl v15)))else(some (Sum.inl (w64 (v15+1))))))))else(some (Sum.inr (Sum.inr ())))) F ((0:Int))).bind fun(v12:Int ⊕ Unit)=>Sum.elim (fun(v13:Int)=>some (v13)) (fun(v14:Unit)=>some ((-1:Int))) (v12)
def Zzb(F:Nat):PX:={np:=2,locs:=[.cap (.arg 1) 0,.cap (.arg 1) 1],τ:=Zvi,nr:=1,ω:=Zc4,ids:=[],mv:=[],code:=Qj2 F}
theorem Qqd(F:Nat):Zg cx 225 (Zzb F):=qXE (Zqj F) (.two .leaf (.two (.two .leaf (.one (.loop ⟨[.slot 8 (.val (.int .i64))],[]⟩ [(.ret,⟨[.slot 4 (.val (.int .i64))],[]⟩),(.exit 0,⟨[],[]⟩)] ⟨[18,8,11,12,13,14,15,16,4,17,5,10,9],[],[]⟩ F .leaf))) .leaf)) f225 (by kernel_rfl) fun a=>by kernel_rfl
def Zdj(F:Nat):LK:=lX (Qy7 F) (lX (Qqd F) lN)
def Qhh(F:Nat)(a:(Qz)×ByteArray×ByteArray):Option (Int):=
 (Qj2 F (a.1.2.2.2.2,a.2.1,a.2.2)).bind fun(v5:Int)=>some (v5)
def Qn6(F:Nat):PC:={ats:=Qg7,rts:=Zq,code:=Qhh F}
theorem Qko(F:Nat):Qg cx 187 (Qn6 F):=qE (Zdj F) .leaf f187 (by kernel_rfl) fun a=>by kernel_rfl
def Zie(F:Nat):LK:=lC (X8 F) lN
def K6(F:Nat)(a:(Qz)×ByteArray):Option (Bool):=
 (Wq F (a.1.1,a.2)).bind fun(v5:Bool)=>some (v5)
def Zau(F:Nat):PC:={ats:=Qc4,rts:=Yx,code:=K6 F}
theorem K4(F:Nat):Qg cx 111 (Zau F):=qE (Zie F) .leaf f111 (by kernel_rfl) fun a=>by kernel_rfl
end
end Go.Proofs.Tryz

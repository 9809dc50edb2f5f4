/- Functions of the program as functions of data. By program. -/
import Derived.Test.YtpkbmngnolhopaaGreatDoorXTeCx
set_option maxRecDepth 100000
set_option linter.all false
namespace Go.Proofs.Tryz
open Go Go.Sx
noncomputable section
def Zdv(F:Nat):LK:=lN
def c98(F:Nat)(a:ByteArray):Option (Bool):=
 (Qq (σ:=ByteArray×Nat) (β:=(ByteArray×Nat)×Bool ⊕ ByteArray×Nat) (fun(v23:ByteArray×Nat)=>bif decide (v23.2<ByteArray.size v23.1)then(bif decide (97≤(↑(Go.Utf8.decode v23.1 v23.2).1:Int))then(bif decide ((↑(Go.Utf8.decode v23.1 v23.2).1:Int)≤(122:Int))then(some (Sum.inl (v23.1,v23.2+(Go.Utf8.decode v23.1 v23.2).2)))else(bif decide (65≤(↑(Go.Utf8.decode v23.1 v23.2).1:Int))then(bif !decide ((↑(Go.Utf8.decode v23.1 v23.2).1:Int)≤(90:Int))then(bif decide ((↑v23.2:Int)=(0:Int))then(some (Sum.inr (Sum.inl ((v23.1,v23.2+(Go.Utf8.decode v23.1 v23.2).2),false))))else(bif !decide ((↑(Go.Utf8.decode v23.1 v23.2).1:Int)=(95:Int))then(bif decide ((↑(Go.Utf8.decode v23.1 v23.2).1:Int)<(48:Int))then(some (Sum.inr (Sum.inl ((v23.1,v23.2+(Go.Utf8.decode v23.1 v23.2).2),false))))else(bif decide (57<(↑(Go.Utf8.decode v23.1 v23.2).1:Int))then(some (Sum.inr (Sum.inl ((v23.1,v23.2+(Go.Utf8.decode v23.1 v23.2).2),false))))else(some (Sum.inl (v23.1,v23.2+(Go.Utf8.decode v23.1 v23.2).2)))))else(some (Sum.inl (v23.1,v23.2+(Go.Utf8.decode v23.1 v23.2).2)))))else(some (Sum.inl (v23.1,v23.2+(Go.Utf8.decode v23.1 v23.2).2))))else(bif decide ((↑v23.2:Int)=(0:Int))then(some (Sum.inr (Sum.inl ((v23.1,v23.2+(Go.Utf8.decode v23.1 v23.2).2),false))))else(bif !decide ((↑(Go.Utf8.decode v23.1 v23.2).1:Int)=(95:Int))then(bif decide ((↑(Go.Utf8.decode v23.1 v23.2).1:Int)<(48:Int))then(some (Sum.inr (Sum.inl ((v23.1,v23.2+(Go.Utf8.decode v23.1 v23.2).2),false))))else(bif decide (57<(↑(Go.Utf8.decode v23.1 v23.2).1:Int))then(some (Sum.inr (Sum.inl ((v23.1,v23.2+(Go.Utf8.decode v23.1 v23.2).2),false))))else(some (Sum.inl (v23.1,v23.2+(Go.Utf8.decode v23.1 v23.2).2)))))else(some (Sum.inl (v23.1,v23.2+(Go.Utf8.decode v23.1 v23.2).2)))))))else(bif decide (65≤(↑(Go.Utf8.decode v23.1 v23.2).1:Int))then(bif !decide ((↑(Go.Utf8.decode v23.1 v23.2).1:Int)≤(90:Int))then(bif decide ((↑v23.2:Int)=(0:Int))then(some (Sum.inr (Sum.inl ((v23.1,v23.2+(Go.Utf8.decode v23.1 v23.2).2),false))))else(bif !decide ((↑(Go.Utf8.decode v23.1 v23.2).1:Int)=(95:Int))then(bif decide ((↑(Go.Utf8.decode v23.1 v23.2).1:Int)<(48:Int))then(some (Sum.inr (Sum.inl ((v23.1,v23.2+(Go.Utf8.decode v23.1 v23.2).2),false))))else(bif decide (57<(↑(Go.Utf8.decode v23.1 v23.2).1:Int))then(some (Sum.inr (Sum.inl ((v23.1,v23.2+(Go.Utf8.decode v23.1 v23.2).2),false))))else(some (Sum.inl (v23.1,v23.2+(Go.Utf8.decode v23.1 v23.2).2)))))else(some (Sum.inl (v23.1,v23.2+(Go.Utf8.decode v23.1 v23.2).2)))))else(some (Sum.inl (v23.1,v23.2+(Go.Utf8.decode v23.1 v23.2).2))))else(bif decide ((↑v23.2:Int)=(0:Int))then(some (Sum.inr (Sum.inl ((v23.1,v23.2+(Go.Utf8.decode v23.1 v23.2).2),false))))else(bif !decide ((↑(Go.Utf8.decode v23.1 v23.2).1:Int)=(95:Int))then(bif decide ((↑(Go.Utf8.decode v23.1 v23.2).1:Int)<(48:Int))then(some (Sum.inr (Sum.inl ((v23.1,v23.2+(Go.Utf8.decode v23.1 v23.2).2),false))))else(bif decide (57<(↑(Go.Utf8.decode v23.1 v23.2).1:Int))then(some (Sum.inr (Sum.inl ((v23.1,v23.2+(Go.Utf8.decode v23.1 v23.2).2),false))))else(some (Sum.inl (v23.1,v23.2+(Go.Utf8.decode v23.1 v23.2).2)))))else(some (Sum.inl (v23.1,v23.2+(Go.Utf8.decode v23.1 v23.2).2)))))))else(some (Sum.inr (Sum.inr v23)))) F ((a,(0:Nat)))).bind fun(v19:(ByteArray×Nat)×Bool ⊕ ByteArray×Nat)=>Sum.elim (fun(v20:(ByteArray×Nat)×Bool)=>some v20.2) (fun(v21:ByteArray×Nat)=>(bif decide (0<(↑(ByteArray.size a):Int))then(some (decide ((↑(ByteArray.size a):Int)≤(24:Int))))else(some (false))).bind fun(v22:Bool)=>some (v22)) (v19)
def Qje(F:Nat):PC:={ats:=K7,rts:=Yz,code:=c98 F}
theorem Qhi(F:Nat):Qg cx 98 (Qje F):=qE (Zdv F) (.two .leaf (.two (.two .leaf (.one (.loop ⟨[.iter 0],[]⟩ [(.ret,⟨[.iter 0,.slot 2 (.val (.bool))],[]⟩),(.exit 0,⟨[.iter 0],[]⟩)] ⟨(kU 12 14 (5::2::kD 43 18 (4::3::11::10::9::8::[]))),[0],[]⟩ F .leaf))) (.two (.join [(.normal,⟨[.slot 2 (.val (.bool))],[]⟩)] ⟨(2::kD 51 8 []),[],[]⟩ .leaf) .leaf))) f98 (by kernel_rfl) fun a=>by kernel_rfl
def Zgh(F:Nat):LK:=lN
def Q1(F:Nat)(a:Bool×Int):Option (Int):=
 bif a.1 then(some a.2)else(some ((0:Int)))
def Qxt(F:Nat):PC:={ats:=Qzj,rts:=Zq,code:=Q1 F}
theorem Ya(F:Nat):Qg cx 86 (Qxt F):=qE (Zgh F) .leaf f86 (by kernel_rfl) fun a=>by kernel_rfl
def Zq0(F:Nat):LK:=lC (Ya F) (lC (Qhi F) lN)
def c92(F:Nat)(a:ByteArray):Option (Int):=
 (c98 F a).bind fun(v7:Bool)=>(Q1 F (!v7,(8:Int))).bind fun(v8:Int)=>some (v8)
def Zh6(F:Nat):PC:={ats:=K7,rts:=Zq,code:=c92 F}
theorem Vq(F:Nat):Qg cx 92 (Zh6 F):=qE (Zq0 F) .leaf f92 (by kernel_rfl) fun a=>by kernel_rfl
def Zwu(F:Nat):LK:=lN
def Qh7(F:Nat)(a:Int):Option (Bool):=
 (bif decide (a<0)then(some (true))else(some (decide (99999<a)))).bind fun(v5:Bool)=>some (v5)
def Zu7(F:Nat):PC:={ats:=Zq,rts:=Yz,code:=Qh7 F}
theorem Qp9(F:Nat):Qg cx 153 (Zu7 F):=qE (Zwu F) (.two .leaf (.two (.join [(.normal,⟨[.slot 2 (.val (.bool))],[]⟩)] ⟨(2::kD 8 6 []),[],[]⟩ .leaf) .leaf)) f153 (by kernel_rfl) fun a=>by kernel_rfl
def Zkt:Qi:=⟨[.slot 0 (.val (.seq kt6))],[(1,.stat (.pv (.lit (.func (.func 153) #[] #[]))))]⟩
def Ziw:Qi:=⟨[.slot 0 (.val (.int .i64))],[]⟩
def Zgp(F:Nat):LK:=lC (Qp9 F) lN
def Qkb(F:Nat)(a:List Int):Option (Int):=
 (Qq (σ:=Int) (β:=Int ⊕ Unit) (fun(v15:Int)=>bif decide (v15<(↑(a.length):Int))then(gd (decide (0≤v15)) (gd (decide (v15<(↑(a.length):Int))) (gd (decide (v15.toNat<a.length)) ((Qh7 F (a.getD (v15.toNat) (0:Int))).bind fun(v16:Bool)=>bif v16 then(some (Sum.inr (Sum.inl v15)))else(some (Sum.inl (w64 (v15+1))))))))else(some (Sum.inr (Sum.inr ())))) F ((0:Int))).bind fun(v12:Int ⊕ Unit)=>Sum.elim (fun(v13:Int)=>some (v13)) (fun(v14:Unit)=>some ((-1:Int))) (v12)
def Zw5(F:Nat):PX:={np:=2,locs:=[],τ:=Zkt,nr:=1,ω:=Ziw,ids:=[],mv:=[],code:=Qkb F}
theorem Qwm(F:Nat):Zf cx 209 (Zw5 F):=qXE (Zgp F) (.two .leaf (.two (.two .leaf (.one (.loop ⟨[.slot 8 (.val (.int .i64))],[]⟩ [(.ret,⟨[.slot 4 (.val (.int .i64))],[]⟩),(.exit 0,⟨[],[]⟩)] ⟨[18,8,11,12,13,14,15,16,4,17,5,10,9],[],[]⟩ F .leaf))) .leaf)) f209 (by kernel_rfl) fun a=>by kernel_rfl
def Zw7:Qi:=⟨[.slot 0 (.val (.seq kt6))],[(1,.stat (.pv (.lit (.func (.func 153) #[] #[]))))]⟩
def Zq9:Qi:=⟨[.slot 0 (.val (.bool))],[]⟩
def Zms(F:Nat):LK:=lC (Qp9 F) (lX (Qwm F) lN)
def Qr3(F:Nat)(a:List Int):Option (Bool):=
 (Qkb F a).bind fun(v5:Int)=>some (decide (0≤v5))
def Zfj(F:Nat):PX:={np:=2,locs:=[],τ:=Zw7,nr:=1,ω:=Zq9,ids:=[],mv:=[],code:=Qr3 F}
theorem Zn5(F:Nat):Zf cx 152 (Zfj F):=qXE (Zms F) .leaf f152 (by kernel_rfl) fun a=>by kernel_rfl
def Zt6(F:Nat):LK:=lC (Ya F) (lC (Qp9 F) (lX (Qwm F) (lX (Zn5 F) lN)))
def c85(F:Nat)(a:List Int):Option (Int):=
 (Qr3 F a).bind fun(v7:Bool)=>(Q1 F (v7,(3:Int))).bind fun(v8:Int)=>some (v8)
def Zkz(F:Nat):PC:={ats:=[.val (.seq kt6)],rts:=Zq,code:=c85 F}
theorem Qbu(F:Nat):Qg cx 85 (Zkz F):=qE (Zt6 F) .leaf f85 (by kernel_rfl) fun a=>by kernel_rfl
def Zp0(F:Nat):LK:=lN
def Zl(F:Nat)(a:List Int):Option (Int):=
 (Qq (σ:=Int) (β:=Int ⊕ Unit) (fun(v13:Int)=>bif decide (v13<(↑(a.length):Int))then(gd (decide (0≤v13)) (gd (decide (v13<(↑(a.length):Int))) (gd (decide (v13.toNat<a.length)) (bif !decide (a.getD (v13.toNat) (0:Int)=(0:Int))then(some (Sum.inr (Sum.inl (a.getD (v13.toNat) (0:Int)))))else(some (Sum.inl (w64 (v13+1))))))))else(some (Sum.inr (Sum.inr ())))) F ((0:Int))).bind fun(v10:Int ⊕ Unit)=>Sum.elim (fun(v11:Int)=>some (v11)) (fun(v12:Unit)=>some ((0:Int))) (v10)
def Zag(F:Nat):PC:={ats:=[.val (.seq kt6)],rts:=Zq,code:=Zl F}
theorem Yi(F:Nat):Qg cx 84 (Zag F):=qE (Zp0 F) (.two .leaf (.two (.two .leaf (.one (.loop ⟨[.slot 7 (.val (.int .i64))],[]⟩ [(.ret,⟨[.slot 2 (.val (.int .i64))],[]⟩),(.exit 0,⟨[],[]⟩)] ⟨[14,7,11,12,2,13,4,10,9,8],[],[]⟩ F .leaf))) .leaf)) f84 (by kernel_rfl) fun a=>by kernel_rfl
def Zv2(F:Nat):LK:=lC (Yi F) (lC (Ya F) (lC (Qbu F) (lC (Vq F) lN)))
def c63(F:Nat)(a:(Zx)×Int):Option (Int×Int):=
 ((c92 F a.1.1).bind fun(v132:Int)=>(tw (X:=Int×Int) (Qx.eqv (Qe.val (Ty.int Go.IntKind.i64)::Qe.val (Ty.int Go.IntKind.i64)::Qb Qe)) ((c85 F (a.1.2.2.1::Qb Int)).bind fun(v145:Int)=>(c85 F (a.2::Qb Int)).bind fun(v146:Int)=>(Q1 F (decide (a.2<a.1.2.2.1),(11:Int))).bind fun(v147:Int)=>(Zl F (v132::v145::v146::v147::Qb Int)).bind fun(v148:Int)=>bif !decide (v148=0)then(some (((0:Int),v148)))else(some ((w64 (Int.tdiv (w64 (a.2-a.1.2.2.1)) (365:Int)),(0:Int)))))).bind fun(v133:Int×Int)=>((c85 F (a.1.2.2.1::Qb Int)).bind fun(v135:Int)=>(c85 F (a.2::Qb Int)).bind fun(v136:Int)=>(Q1 F (decide (a.2<a.1.2.2.1),(11:Int))).bind fun(v137:Int)=>(Zl F (v132::v135::v136::v137::Qb Int)).bind fun(v138:Int)=>bif !decide (v138=0)then(some (((0:Int),v138)))else(some ((w64 (Int.tdiv (w64 (a.2-a.1.2.2.1)) (365:Int)),(0:Int))))).bind fun(v134:Int×Int)=>gd (Qx.eqv (Qe.val (Ty.int Go.IntKind.i64)::Qe.val (Ty.int Go.IntKind.i64)::Qb Qe) v133 v134) (some (v133))).bind fun(v98:Int×Int)=>((((c92 F a.1.1).bind fun(v121:Int)=>tw (X:=Int×Int) (Qx.eqv (Qe.val (Ty.int Go.IntKind.i64)::Qe.val (Ty.int Go.IntKind.i64)::Qb Qe)) ((c85 F (a.1.2.2.1::Qb Int)).bind fun(v128:Int)=>(c85 F (a.2::Qb Int)).bind fun(v129:Int)=>(Q1 F (decide (a.2<a.1.2.2.1),(11:Int))).bind fun(v130:Int)=>(Zl F (v121::v128::v129::v130::Qb Int)).bind fun(v131:Int)=>bif !decide (v131=0)then(some (((0:Int),v131)))else(some ((w64 (Int.tdiv (w64 (a.2-a.1.2.2.1)) (365:Int)),(0:Int)))))).bind fun(v114:Int×Int)=>((c92 F a.1.1).bind fun(v116:Int)=>(c85 F (a.1.2.2.1::Qb Int)).bind fun(v117:Int)=>(c85 F (a.2::Qb Int)).bind fun(v118:Int)=>(Q1 F (decide (a.2<a.1.2.2.1),(11:Int))).bind fun(v119:Int)=>(Zl F (v116::v117::v118::v119::Qb Int)).bind fun(v120:Int)=>bif !decide (v120=0)then(some (((0:Int),v120)))else(some ((w64 (Int.tdiv (w64 (a.2-a.1.2.2.1)) (365:Int)),(0:Int))))).bind fun(v115:Int×Int)=>gd (Qx.eqv (Qe.val (Ty.int Go.IntKind.i64)::Qe.val (Ty.int Go.IntKind.i64)::Qb Qe) v114 v115) (some (v114))).bind fun(v100:Int×Int)=>(tw (X:=Int×Int) (Qx.eqv (Qe.val (Ty.int Go.IntKind.i64)::Qe.val (Ty.int Go.IntKind.i64)::Qb Qe)) ((c92 F a.1.1).bind fun(v109:Int)=>(c85 F (a.1.2.2.1::Qb Int)).bind fun(v110:Int)=>(c85 F (a.2::Qb Int)).bind fun(v111:Int)=>(Q1 F (decide (a.2<a.1.2.2.1),(11:Int))).bind fun(v112:Int)=>(Zl F (v109::v110::v111::v112::Qb Int)).bind fun(v113:Int)=>bif !decide (v113=0)then(some (((0:Int),v113)))else(some ((w64 (Int.tdiv (w64 (a.2-a.1.2.2.1)) (365:Int)),(0:Int)))))).bind fun(v101:Int×Int)=>gd (Qx.eqv (Qe.val (Ty.int Go.IntKind.i64)::Qe.val (Ty.int Go.IntKind.i64)::Qb Qe) v100 v101) (some (v100))).bind fun(v99:Int×Int)=>gd (Qx.eqv (Qe.val (Ty.int Go.IntKind.i64)::Qe.val (Ty.int Go.IntKind.i64)::Qb Qe) v98 v99) (some (v98))
def Qy7(F:Nat):PC:={ats:=[.agg kt3,.val (.int .i64)],rts:=Qh5,code:=c63 F}
theorem Ztk(F:Nat):Qg cx 63 (Qy7 F):=qE (Zv2 F) .leaf f63 (by kernel_rfl) fun a=>by kernel_rfl
def Zl6(F:Nat):LK:=lN
def Zp6(F:Nat):PC:=qT (Zl6 F) (.two .leaf (.one (Q8 2 (.two (.two .leaf (.one (.loop ⟨[.slot 7 (.val (.bool)),.slot 12 (.val (.int .i64))],[]⟩ [(.exit 0,⟨[.slot 7 (.val (.bool))],[]⟩)] ⟨(32::12::kU 16 16 (7::9::15::14::13::[])),[],[]⟩ F (Q8 2 (.two (.one (.two .leaf (.two (.two (.join [(.normal,⟨[.slot 31 (.val (.bool))],[]⟩)] ⟨(kD 31 16 []),[],[]⟩ .leaf) .leaf) .leaf))) .leaf))))) .leaf)))) f147 Zhz Yz
theorem Zr4(F:Nat):Qg cx 147 (Zp6 F):=Xl (by kernel_rfl)
def Zib(F:Nat):LK:=lC (Yi F) (lC (Ya F) (lC (Qbu F) lN))
def Qe9(F:Nat)(a:Zw):Option (Int):=
 (c85 F (a.2.1::a.2.2::Qb Int)).bind fun(v9:Int)=>(Q1 F (decide (a.2.2<a.2.1),(11:Int))).bind fun(v10:Int)=>(Zl F (v9::v10::Qb Int)).bind fun(v11:Int)=>some (v11)
def Zn0(F:Nat):PC:={ats:=[.agg kt2],rts:=Zq,code:=Qe9 F}
theorem Qht(F:Nat):Qg cx 114 (Zn0 F):=qE (Zib F) .leaf f114 (by kernel_rfl) fun a=>by kernel_rfl
def Zlv(F:Nat):LK:=lC (Yi F) (lC (Qht F) (lC (Vq F) lN))
def Ze3(F:Nat):PC:=qT (Zlv F) .leaf f146 [.val (.int .i64),.agg kt2] Zq
theorem Zjh(F:Nat):Qg cx 146 (Ze3 F):=Xl (by kernel_rfl)
def Zga:Qi:=⟨[.slot 0 (.val (.seq kt2))],[(1,.stat (.pv (.lit (.func (.func 146) #[] #[]))))]⟩
def Zxh:Qi:=⟨[.slot 0 (.val (.int .i64))],[]⟩
def Zdl(F:Nat):LK:=lC (Yi F) (lC (Qht F) (lC (Vq F) (lC (Zjh F) lN)))
def Zo2(F:Nat):PX:=qX (Zdl F) (.two .leaf (.two (.two .leaf (.one (.loop ⟨[.slot 10 (.val (.int .i64))],[]⟩ [(.ret,⟨[.slot 4 (.val (.int .i64))],[]⟩),(.exit 0,⟨[],[]⟩)] ⟨[22,10,15,16,17,18,7,21,4,20,19,5,6,14,13,12,11],[],[]⟩ F .leaf))) .leaf)) f112 (pxB 2 [] Zga 1 Zxh [] [])
theorem Zne(F:Nat):Zf cx 112 (Zo2 F):=Qap (by kernel_rfl)
def Zlk(F:Nat):LK:=lN
def c67(F:Nat)(a:ByteArray):Option (Bool):=
 (bif decide ((↑(ByteArray.size a):Int)<(1:Int))then(some (true))else(some (decide (24<(↑(ByteArray.size a):Int))))).bind fun(v16:Bool)=>bif v16 then(some (false))else((Qq (σ:=Int) (β:=Bool ⊕ Unit) (fun(v20:Int)=>bif decide (v20<(↑(ByteArray.size a):Int))then(gd (decide (0≤v20)) (gd (decide (v20.toNat<ByteArray.size a)) ((bif decide (97≤(↑(BitVec.toFin (UInt8.toBitVec (ByteArray.get! a (v20.toNat)))).1:Int))then(bif decide ((↑(BitVec.toFin (UInt8.toBitVec (ByteArray.get! a (v20.toNat)))).1:Int)≤(122:Int))then(some (true))else(bif decide (65≤(↑(BitVec.toFin (UInt8.toBitVec (ByteArray.get! a (v20.toNat)))).1:Int))then(some (decide ((↑(BitVec.toFin (UInt8.toBitVec (ByteArray.get! a (v20.toNat)))).1:Int)≤(90:Int))))else(some (false))))else(bif decide (65≤(↑(BitVec.toFin (UInt8.toBitVec (ByteArray.get! a (v20.toNat)))).1:Int))then(some (decide ((↑(BitVec.toFin (UInt8.toBitVec (ByteArray.get! a (v20.toNat)))).1:Int)≤(90:Int))))else(some (false)))).bind fun(v21:Bool)=>(bif !v21 then(bif decide (v20=0)then(some (true))else(bif decide (48≤(↑(BitVec.toFin (UInt8.toBitVec (ByteArray.get! a (v20.toNat)))).1:Int))then(bif decide ((↑(BitVec.toFin (UInt8.toBitVec (ByteArray.get! a (v20.toNat)))).1:Int)≤(57:Int))then(some (!true))else(some (!decide ((↑(BitVec.toFin (UInt8.toBitVec (ByteArray.get! a (v20.toNat)))).1:Int)=(95:Int)))))else(some (!decide ((↑(BitVec.toFin (UInt8.toBitVec (ByteArray.get! a (v20.toNat)))).1:Int)=(95:Int))))))else(some (false))).bind fun(v22:Bool)=>bif v22 then(some (Sum.inr (Sum.inl false)))else(some (Sum.inl (w64 (v20+1)))))))else(some (Sum.inr (Sum.inr ())))) F ((0:Int))).bind fun(v17:Bool ⊕ Unit)=>Sum.elim (fun(v18:Bool)=>some (v18)) (fun(v19:Unit)=>some (true)) (v17))
def Ztg(F:Nat):PC:={ats:=K7,rts:=Yz,code:=c67 F}
theorem Qja(F:Nat):Qg cx 67 (Ztg F):=qE (Zlk F) (.two .leaf (.two (.two (.join [(.normal,⟨[.slot 13 (.val (.bool))],[]⟩)] ⟨(kD 13 8 []),[],[]⟩ .leaf) .leaf) (.two (.two .leaf (.one (.loop ⟨[.slot 3 (.val (.int .i64))],[]⟩ [(.ret,⟨[.slot 2 (.val (.bool))],[]⟩),(.exit 0,⟨[],[]⟩)] ⟨(20::21::22::4::kU 37 19 (2::5::kD 36 14 (3::kD 19 6 []))),[],[]⟩ F (.two .leaf (.two (.one (.two .leaf (.two (.join [(.normal,⟨[.slot 5 (.val (.bool))],[]⟩)] ⟨(5::kD 36 14 []),[],[]⟩ .leaf) (.two (.join [(.normal,⟨[.slot 55 (.val (.bool))],[]⟩)] ⟨(kD 55 19 []),[],[]⟩ .leaf) .leaf)))) .leaf))))) .leaf))) f67 (by kernel_rfl) fun a=>by kernel_rfl
def Zli(F:Nat):LK:=lN
def c94(F:Nat)(a:Int×Int):Option (Bool):=
 (bif decide (a.1<0)then(some (true))else(some (decide (a.2<a.1)))).bind fun(v5:Bool)=>some (v5)
def Zvs(F:Nat):PC:={ats:=Qh5,rts:=Yz,code:=c94 F}
theorem Qgc(F:Nat):Qg cx 94 (Zvs F):=qE (Zli F) (.two .leaf (.two (.join [(.normal,⟨[.slot 4 (.val (.bool))],[]⟩)] ⟨(4::kD 11 7 []),[],[]⟩ .leaf) .leaf)) f94 (by kernel_rfl) fun a=>by kernel_rfl
def Zz9(F:Nat):LK:=lN
def c44(F:Nat)(a:List ByteArray×List ByteArray):Option (Bool):=
 bif !decide ((↑(a.1.length):Int)=(↑(a.2.length):Int))then(some (false))else((Qq (σ:=Int) (β:=Bool ⊕ Unit) (fun(v13:Int)=>bif decide (v13<(↑(a.1.length):Int))then(gd (decide (0≤v13)) (gd (decide (v13<(↑(a.1.length):Int))) (gd (decide (v13.toNat<a.1.length)) (gd (decide (0≤v13)) (gd (decide (v13<(↑(a.2.length):Int))) (gd (decide (v13.toNat<a.2.length)) (bif !Qf (a.1.getD (v13.toNat) ByteArray.empty) (a.2.getD (v13.toNat) ByteArray.empty)then(some (Sum.inr (Sum.inl false)))else(some (Sum.inl (w64 (v13+1)))))))))))else(some (Sum.inr (Sum.inr ())))) F ((0:Int))).bind fun(v10:Bool ⊕ Unit)=>Sum.elim (fun(v11:Bool)=>some (v11)) (fun(v12:Unit)=>some (true)) (v10))
def Qym(F:Nat):PC:={ats:=[.val (.seq Zr),.val (.seq Zr)],rts:=Yz,code:=c44 F}
theorem Zm8(F:Nat):Qg cx 44 (Qym F):=qE (Zz9 F) (Q8 2 (.two (.two .leaf (.one (.loop ⟨[.slot 5 (.val (.int .i64))],[]⟩ [(.ret,⟨[.slot 4 (.val (.bool))],[]⟩),(.exit 0,⟨[],[]⟩)] ⟨(kU 17 9 (4::5::kD 16 6 [])),[],[]⟩ F .leaf))) .leaf)) f44 (by kernel_rfl) fun a=>by kernel_rfl
def Zfl(F:Nat):LK:=lN
def c45(F:Nat)(a:List Int×List Int):Option (Bool):=
 bif !decide ((↑(a.1.length):Int)=(↑(a.2.length):Int))then(some (false))else((Qq (σ:=Int) (β:=Bool ⊕ Unit) (fun(v13:Int)=>bif decide (v13<(↑(a.1.length):Int))then(gd (decide (0≤v13)) (gd (decide (v13<(↑(a.1.length):Int))) (gd (decide (v13.toNat<a.1.length)) (gd (decide (0≤v13)) (gd (decide (v13<(↑(a.2.length):Int))) (gd (decide (v13.toNat<a.2.length)) (bif !decide (a.1.getD (v13.toNat) (0:Int)=a.2.getD (v13.toNat) (0:Int))then(some (Sum.inr (Sum.inl false)))else(some (Sum.inl (w64 (v13+1)))))))))))else(some (Sum.inr (Sum.inr ())))) F ((0:Int))).bind fun(v10:Bool ⊕ Unit)=>Sum.elim (fun(v11:Bool)=>some (v11)) (fun(v12:Unit)=>some (true)) (v10))
def Qx3(F:Nat):PC:={ats:=[.val (.seq kt6),.val (.seq kt6)],rts:=Yz,code:=c45 F}
theorem Zn2(F:Nat):Qg cx 45 (Qx3 F):=qE (Zfl F) (Q8 2 (.two (.two .leaf (.one (.loop ⟨[.slot 5 (.val (.int .i64))],[]⟩ [(.ret,⟨[.slot 4 (.val (.bool))],[]⟩),(.exit 0,⟨[],[]⟩)] ⟨(kU 17 9 (4::5::kD 16 6 [])),[],[]⟩ F .leaf))) .leaf)) f45 (by kernel_rfl) fun a=>by kernel_rfl
def Zx0(F:Nat):LK:=lN
def c47(F:Nat)(a:(Zi)×ByteArray):Option (Int):=
 (Qq (σ:=Int) (β:=Int ⊕ Unit) (fun(v13:Int)=>bif decide (v13<(↑(a.1.2.2.2.2.length):Int))then(gd (decide (0≤v13)) (gd (decide (v13<(↑(a.1.2.2.2.2.length):Int))) (gd (decide (v13.toNat<a.1.2.2.2.2.length)) (bif Qf (a.1.2.2.2.2.getD (v13.toNat) Q2).1 a.2 then(some (Sum.inr (Sum.inl v13)))else(some (Sum.inl (w64 (v13+1))))))))else(some (Sum.inr (Sum.inr ())))) F ((0:Int))).bind fun(v10:Int ⊕ Unit)=>Sum.elim (fun(v11:Int)=>some (v11)) (fun(v12:Unit)=>some ((-1:Int))) (v10)
def Zjq(F:Nat):PC:={ats:=[.agg Yv,.val (.str)],rts:=Zq,code:=c47 F}
theorem Qk8(F:Nat):Qg cx 47 (Zjq F):=qE (Zx0 F) (.two .leaf (.two (.two .leaf (.one (.loop ⟨[.slot 5 (.val (.int .i64))],[]⟩ [(.ret,⟨[.slot 4 (.val (.int .i64))],[]⟩),(.exit 0,⟨[],[]⟩)] ⟨(kU 13 8 (4::21::5::kD 12 7 [])),[],[]⟩ F .leaf))) .leaf)) f47 (by kernel_rfl) fun a=>by kernel_rfl
def Zni(F:Nat):LK:=lN
def Qjw(F:Nat)(a:ByteArray):Option (Bool):=
 (bif Qf a {data:=List.toArray (68::78::83::Qb UInt8)}then(some (true))else(bif Qf a {data:=List.toArray (68::78::70::Qb UInt8)}then(some (true))else(bif Qf a {data:=List.toArray (68::81::Qb UInt8)}then(some (true))else(some (Qf a {data:=List.toArray (78::77::Qb UInt8)}))))).bind fun(v5:Bool)=>some (v5)
def Zq5(F:Nat):PC:={ats:=K7,rts:=Yz,code:=Qjw F}
theorem Zg0(F:Nat):Qg cx 210 (Zq5 F):=qE (Zni F) (.two .leaf (.two (.join [(.normal,⟨[.slot 2 (.val (.bool))],[]⟩)] ⟨(2::kD 16 14 []),[],[]⟩ .leaf) .leaf)) f210 (by kernel_rfl) fun a=>by kernel_rfl
def Zfu(F:Nat):LK:=lN
def Qox(F:Nat)(a:ByteArray):Option (Int):=
 bif Qf a {data:=List.toArray (116::105::109::101::Qb UInt8)}then(some ((863999999:Int)))else(bif Qf a {data:=List.toArray (108::101::110::103::116::104::Qb UInt8)}then(some ((999999:Int)))else(some ((99999:Int))))
def Zp9(F:Nat):PC:={ats:=K7,rts:=Zq,code:=Qox F}
theorem Yaj(F:Nat):Qg cx 212 (Zp9 F):=qE (Zfu F) .leaf f212 (by kernel_rfl) fun a=>by kernel_rfl
def Zjv(F:Nat):LK:=lN
def Qo2(F:Nat)(a:ByteArray):Option (Int):=
 bif Qf a {data:=List.toArray (116::105::109::101::Qb UInt8)}then(some ((1:Int)))else(some ((0:Int)))
def Zgu(F:Nat):PC:={ats:=K7,rts:=Zq,code:=Qo2 F}
theorem Zwv(F:Nat):Qg cx 211 (Zgu F):=qE (Zjv F) .leaf f211 (by kernel_rfl) fun a=>by kernel_rfl
def Zyr(F:Nat):LK:=lC (Zwv F) (lC (Yaj F) (lC (Zg0 F) lN))
def Qhs(F:Nat)(a:ByteArray×Int×ByteArray):Option (Int):=
 bif Qf a.1 {data:=List.toArray (110::111::110::101::Qb UInt8)}then((Qjw F a.2.2).bind fun(v18:Bool)=>bif !v18 then(some ((1:Int)))else(bif !decide (a.2.1=0)then(some ((3:Int)))else(some ((0:Int)))))else((bif Qf a.1 {data:=List.toArray (116::105::109::101::Qb UInt8)}then(some (Qf a.1 {data:=List.toArray (116::105::109::101::Qb UInt8)}))else((bif Qf a.1 {data:=List.toArray (108::101::110::103::116::104::Qb UInt8)}then(some (Qf a.1 {data:=List.toArray (108::101::110::103::116::104::Qb UInt8)}))else(some (Qf a.1 {data:=List.toArray (112::111::105::110::116::115::Qb UInt8)}))).bind fun(v23:Bool)=>some (v23))).bind fun(v19:Bool)=>bif v19 then(bif !Qf a.2.2 {data:=List.toArray (Qb UInt8)}then(some ((1:Int)))else(((Qo2 F a.1).bind fun(v21:Int)=>bif decide (a.2.1<v21)then(some (true))else((Qox F a.1).bind fun(v22:Int)=>some (decide (v22<a.2.1)))).bind fun(v20:Bool)=>bif v20 then(some ((3:Int)))else(some ((0:Int)))))else(some ((13:Int))))
def Zxu(F:Nat):PC:={ats:=[.agg kt7],rts:=Zq,code:=Qhs F}
theorem Qvc(F:Nat):Qg cx 156 (Zxu F):=qE (Zyr F) (.two .leaf (.two (.two .leaf (.one (Q8 2 (.two (.two .leaf (.join [(.normal,⟨[.slot 14 (.val (.bool))],[]⟩)] ⟨[16,14,17],[],[]⟩ (Q8 2 (.join [(.normal,⟨[.slot 14 (.val (.bool))],[]⟩)] ⟨[17,14],[],[]⟩ .leaf)))) (.two (.two .leaf (.two (.two (.join [(.normal,⟨[.slot 34 (.val (.bool))],[]⟩)] ⟨(kD 34 14 []),[],[]⟩ .leaf) .leaf) .leaf)) .leaf))))) .leaf)) f156 (by kernel_rfl) fun a=>by kernel_rfl
def Zo5(F:Nat):LK:=lN
def Qfe(F:Nat)(a:(ByteArray×Int×ByteArray)×ByteArray):Option (Bool):=
 (bif Qf a.1.1 a.2 then(some (true))else(some (Qf a.1.1 {data:=List.toArray (110::111::110::101::Qb UInt8)}))).bind fun(v5:Bool)=>some (v5)
def Zyd(F:Nat):PC:={ats:=[.agg kt7,.val (.str)],rts:=Yz,code:=Qfe F}
theorem Zae(F:Nat):Qg cx 157 (Zyd F):=qE (Zo5 F) (.two .leaf (.two (.join [(.normal,⟨[.slot 4 (.val (.bool))],[]⟩)] ⟨(4::kD 13 9 []),[],[]⟩ .leaf) .leaf)) f157 (by kernel_rfl) fun a=>by kernel_rfl
def Zts(F:Nat):LK:=lC (Qja F) (lC (Qgc F) (lC (Zae F) (lC (Qvc F) (lC (Qk8 F) lN))))
def c95(F:Nat)(a:(Zi)×Int):Option (Int):=
 gd (decide (0≤a.2)) (gd (decide (a.2<(↑(a.1.2.2.2.2.length):Int))) (gd (decide (a.2.toNat<a.1.2.2.2.2.length)) ((c67 F (a.1.2.2.2.2.getD (a.2.toNat) Q2).1).bind fun(v42:Bool)=>bif !v42 then(some ((8:Int)))else((c47 F (a.1,(a.1.2.2.2.2.getD (a.2.toNat) Q2).1)).bind fun(v43:Int)=>bif decide (v43<a.2)then(some ((9:Int)))else((bif !Qf (a.1.2.2.2.2.getD (a.2.toNat) Q2).2.1 {data:=List.toArray (116::105::109::101::Qb UInt8)}then(bif !Qf (a.1.2.2.2.2.getD (a.2.toNat) Q2).2.1 {data:=List.toArray (108::101::110::103::116::104::Qb UInt8)}then(some (!Qf (a.1.2.2.2.2.getD (a.2.toNat) Q2).2.1 {data:=List.toArray (112::111::105::110::116::115::Qb UInt8)}))else(some (false)))else(some (false))).bind fun(v44:Bool)=>bif v44 then(some ((13:Int)))else((bif !Qf (a.1.2.2.2.2.getD (a.2.toNat) Q2).2.2.1 {data:=List.toArray (Qb UInt8)}then((c67 F (a.1.2.2.2.2.getD (a.2.toNat) Q2).2.2.1).bind fun(v57:Bool)=>some (!v57))else(some (false))).bind fun(v45:Bool)=>bif v45 then(some ((8:Int)))else(((c94 F ((a.1.2.2.2.2.getD (a.2.toNat) Q2).2.2.2.1,(120:Int))).bind fun(v55:Bool)=>bif v55 then(some (true))else((c94 F ((a.1.2.2.2.2.getD (a.2.toNat) Q2).2.2.2.2.1,(120:Int))).bind fun(v56:Bool)=>some (v56))).bind fun(v46:Bool)=>bif v46 then(some ((3:Int)))else(bif decide ((a.1.2.2.2.2.getD (a.2.toNat) Q2).2.2.2.2.1<(a.1.2.2.2.2.getD (a.2.toNat) Q2).2.2.2.1)then(some ((11:Int)))else(((c94 F ((a.1.2.2.2.2.getD (a.2.toNat) Q2).2.2.2.2.2.1,(160:Int))).bind fun(v52:Bool)=>bif v52 then(some (true))else((c94 F ((a.1.2.2.2.2.getD (a.2.toNat) Q2).2.2.2.2.2.2.1,(160:Int))).bind fun(v53:Bool)=>bif v53 then(some (true))else((c94 F ((a.1.2.2.2.2.getD (a.2.toNat) Q2).2.2.2.2.2.2.2.2.2.2,(8:Int))).bind fun(v54:Bool)=>some (v54)))).bind fun(v47:Bool)=>bif v47 then(some ((3:Int)))else((Qhs F ((a.1.2.2.2.2.getD (a.2.toNat) Q2).2.2.2.2.2.2.2.1,(a.1.2.2.2.2.getD (a.2.toNat) Q2).2.2.2.2.2.2.2.2.1,(a.1.2.2.2.2.getD (a.2.toNat) Q2).2.2.2.2.2.2.2.2.2.1)).bind fun(v48:Int)=>(bif decide (v48=0)then((Qfe F (((a.1.2.2.2.2.getD (a.2.toNat) Q2).2.2.2.2.2.2.2.1,(a.1.2.2.2.2.getD (a.2.toNat) Q2).2.2.2.2.2.2.2.2.1,(a.1.2.2.2.2.getD (a.2.toNat) Q2).2.2.2.2.2.2.2.2.2.1),(a.1.2.2.2.2.getD (a.2.toNat) Q2).2.1)).bind fun(v51:Bool)=>some (!v51))else(some (false))).bind fun(v49:Bool)=>(bif v49 then(some ((13:Int)))else(some (v48))).bind fun(v50:Int)=>some (v50)))))))))))
def Zzz(F:Nat):PC:={ats:=[.agg Yv,.val (.int .i64)],rts:=Zq,code:=c95 F}
theorem Zii(F:Nat):Qg cx 95 (Zzz F):=qE (Zts F) (Q8 4 (.two (.two (.join [(.normal,⟨[.slot 34 (.val (.bool))],[]⟩)] ⟨(kD 34 13 []),[],[]⟩ .leaf) .leaf) (.two (.two (.join [(.normal,⟨[.slot 43 (.val (.bool))],[]⟩)] ⟨(kD 43 9 []),[],[]⟩ .leaf) .leaf) (.two (.two (.join [(.normal,⟨[.slot 51 (.val (.bool))],[]⟩)] ⟨(kD 51 8 []),[],[]⟩ .leaf) .leaf) (.two .leaf (.two (.two (.join [(.normal,⟨[.slot 69 (.val (.bool))],[]⟩)] ⟨(kD 69 13 []),[],[]⟩ .leaf) .leaf) (.two .leaf (.two (.two (.join [(.normal,⟨[.slot 82 (.val (.bool))],[]⟩)] ⟨(kD 82 10 []),[],[]⟩ .leaf) (.join [(.normal,⟨[.slot 6 (.val (.int .i64))],[]⟩)] ⟨[6],[],[]⟩ .leaf)) .leaf)))))))) f95 (by kernel_rfl) fun a=>by kernel_rfl
def Zrz(F:Nat):LK:=lC (Zii F) (lC (Qgc F) lN)
def c22(F:Nat)(a:Zi):Option (Int):=
 ((c94 F (a.1,(99999:Int))).bind fun(v35:Bool)=>bif v35 then(some (true))else((c94 F (a.2.1,(99999:Int))).bind fun(v36:Bool)=>bif v36 then(some (true))else((c94 F (a.2.2.1,(99999:Int))).bind fun(v37:Bool)=>some (v37)))).bind fun(v27:Bool)=>bif v27 then(some ((3:Int)))else((bif decide (a.2.2.1<a.2.1)then(some (true))else(some (decide (a.1<a.2.2.1)))).bind fun(v28:Bool)=>bif v28 then(some ((11:Int)))else((c94 F (a.2.2.2.1,(32:Int))).bind fun(v29:Bool)=>bif v29 then(some ((3:Int)))else(bif decide (32<(↑(a.2.2.2.2.length):Int))then(some ((5:Int)))else((Qq (σ:=Int) (β:=Int ⊕ Unit) (fun(v33:Int)=>bif decide (v33<(↑(a.2.2.2.2.length):Int))then((c95 F (a,v33)).bind fun(v34:Int)=>bif !decide (v34=0)then(some (Sum.inr (Sum.inl v34)))else(some (Sum.inl (w64 (v33+1)))))else(some (Sum.inr (Sum.inr ())))) F ((0:Int))).bind fun(v30:Int ⊕ Unit)=>Sum.elim (fun(v31:Int)=>some (v31)) (fun(v32:Unit)=>some ((0:Int))) (v30)))))
def Zji(F:Nat):PC:={ats:=[.agg Yv],rts:=Zq,code:=c22 F}
theorem Zew(F:Nat):Qg cx 22 (Zji F):=qE (Zrz F) (.two .leaf (.two (.two (.join [(.normal,⟨[.slot 17 (.val (.bool))],[]⟩)] ⟨(kD 17 13 []),[],[]⟩ .leaf) .leaf) (.two (.two (.join [(.normal,⟨[.slot 29 (.val (.bool))],[]⟩)] ⟨(kD 29 12 []),[],[]⟩ .leaf) .leaf) (Q8 2 (.two (.two .leaf (.one (.loop ⟨[.slot 3 (.val (.int .i64))],[]⟩ [(.ret,⟨[.slot 2 (.val (.int .i64))],[]⟩),(.exit 0,⟨[],[]⟩)] ⟨(44::45::46::4::49::2::48::47::3::kD 43 7 []),[],[]⟩ F .leaf))) .leaf))))) f22 (by kernel_rfl) fun a=>by kernel_rfl
def Zlt(F:Nat):LK:=lC (Qja F) lN
def Qk2(F:Nat)(a:ByteArray):Option (Int):=
 (c67 F a).bind fun(v5:Bool)=>bif !v5 then(some ((8:Int)))else(some ((0:Int)))
def Yak(F:Nat):PC:={ats:=K7,rts:=Zq,code:=Qk2 F}
theorem Zg1(F:Nat):Qg cx 180 (Yak F):=qE (Zlt F) .leaf f180 (by kernel_rfl) fun a=>by kernel_rfl
def Zey(F:Nat):LK:=lC (Qgc F) lN
def Qjx(F:Nat)(a:Int):Option (Int):=
 (c94 F (a,(99999:Int))).bind fun(v5:Bool)=>bif v5 then(some ((3:Int)))else(some ((0:Int)))
def Zdw(F:Nat):PC:={ats:=Zq,rts:=Zq,code:=Qjx F}
theorem Zse(F:Nat):Qg cx 181 (Zdw F):=qE (Zey F) .leaf f181 (by kernel_rfl) fun a=>by kernel_rfl
def Zfc(F:Nat):LK:=lN
def c40(F:Nat)(a:(Qz)×ByteArray):Option (Int):=
 (Qq (σ:=Int) (β:=Int ⊕ Unit) (fun(v13:Int)=>bif decide (v13<(↑(a.1.2.1.length):Int))then(gd (decide (0≤v13)) (gd (decide (v13<(↑(a.1.2.1.length):Int))) (gd (decide (v13.toNat<a.1.2.1.length)) (bif Qf (a.1.2.1.getD (v13.toNat) Xf).1 a.2 then(some (Sum.inr (Sum.inl v13)))else(some (Sum.inl (w64 (v13+1))))))))else(some (Sum.inr (Sum.inr ())))) F ((0:Int))).bind fun(v10:Int ⊕ Unit)=>Sum.elim (fun(v11:Int)=>some (v11)) (fun(v12:Unit)=>some ((-1:Int))) (v10)
def Zd8(F:Nat):PC:={ats:=Qeh,rts:=Zq,code:=c40 F}
theorem Qlz(F:Nat):Qg cx 40 (Zd8 F):=qE (Zfc F) (.two .leaf (.two (.two .leaf (.one (.loop ⟨[.slot 5 (.val (.int .i64))],[]⟩ [(.ret,⟨[.slot 4 (.val (.int .i64))],[]⟩),(.exit 0,⟨[],[]⟩)] ⟨(kU 13 8 (4::21::5::kD 12 7 [])),[],[]⟩ F .leaf))) .leaf)) f40 (by kernel_rfl) fun a=>by kernel_rfl
def Zlj(F:Nat):LK:=lN
def c53(F:Nat)(a:(Qz)×ByteArray×ByteArray):Option (Int):=
 (Qq (σ:=Int) (β:=Int ⊕ Unit) (fun(v15:Int)=>bif decide (v15<(↑(a.1.2.2.2.1.length):Int))then((gd (decide (0≤v15)) (gd (decide (v15<(↑(a.1.2.2.2.1.length):Int))) (gd (decide (v15.toNat<a.1.2.2.2.1.length)) (bif Qf (a.1.2.2.2.1.getD (v15.toNat) Zm).1 a.2.1 then(gd (decide (0≤v15)) (gd (decide (v15<(↑(a.1.2.2.2.1.length):Int))) (gd (decide (v15.toNat<a.1.2.2.2.1.length)) (some (Qf (a.1.2.2.2.1.getD (v15.toNat) Zm).2.1 a.2.2)))))else(some (false)))))).bind fun(v16:Bool)=>bif v16 then(some (Sum.inr (Sum.inl v15)))else(some (Sum.inl (w64 (v15+1)))))else(some (Sum.inr (Sum.inr ())))) F ((0:Int))).bind fun(v12:Int ⊕ Unit)=>Sum.elim (fun(v13:Int)=>some (v13)) (fun(v14:Unit)=>some ((-1:Int))) (v12)
def Zpz(F:Nat):PC:={ats:=Qhf,rts:=Zq,code:=c53 F}
theorem Zx8(F:Nat):Qg cx 53 (Zpz F):=qE (Zlj F) (.two .leaf (.two (.two .leaf (.one (.loop ⟨[.slot 7 (.val (.int .i64))],[]⟩ [(.ret,⟨[.slot 6 (.val (.int .i64))],[]⟩),(.exit 0,⟨[],[]⟩)] ⟨(kU 15 18 (6::33::7::kD 14 7 [])),[],[]⟩ F (.two .leaf (.two (.one (.two (.join [(.normal,⟨[.slot 32 (.val (.bool))],[]⟩)] ⟨(kD 32 18 []),[],[]⟩ .leaf) .leaf)) .leaf))))) .leaf)) f53 (by kernel_rfl) fun a=>by kernel_rfl
def Zfs(F:Nat):LK:=lC (Qk8 F) (lC (Qvc F) (lC (Zse F) (lC (Zae F) (lC (Zx8 F) (lC (Qlz F) lN)))))
def Qjj(F:Nat)(a:(Qz)×(Zi)×Int):Option (Int):=
 gd (decide (0≤a.2.2)) (gd (decide (a.2.2<(↑(a.1.2.2.2.1.length):Int))) (gd (decide (a.2.2.toNat<a.1.2.2.2.1.length)) ((c47 F (a.2.1,(a.1.2.2.2.1.getD (a.2.2.toNat) Zm).2.1)).bind fun(v26:Int)=>((c40 F (a.1,(a.1.2.2.2.1.getD (a.2.2.toNat) Zm).1)).bind fun(v35:Int)=>bif decide (v35<0)then(some (true))else(some (decide (v26<0)))).bind fun(v27:Bool)=>bif v27 then(some ((10:Int)))else(gd (decide (0≤v26)) (gd (decide (v26<(↑(a.2.1.2.2.2.2.length):Int))) (gd (decide (v26.toNat<a.2.1.2.2.2.2.length)) (bif decide (0<(a.2.1.2.2.2.2.getD (v26.toNat) Q2).2.2.2.2.2.2.2.2.2.2)then(some ((13:Int)))else((c53 F (a.1,(a.1.2.2.2.1.getD (a.2.2.toNat) Zm).1,(a.1.2.2.2.1.getD (a.2.2.toNat) Zm).2.1)).bind fun(v28:Int)=>bif decide (v28<a.2.2)then(some ((9:Int)))else((Qhs F ((a.1.2.2.2.1.getD (a.2.2.toNat) Zm).2.2.1,(a.1.2.2.2.1.getD (a.2.2.toNat) Zm).2.2.2.1,(a.1.2.2.2.1.getD (a.2.2.toNat) Zm).2.2.2.2.1)).bind fun(v29:Int)=>(bif decide (v29=0)then(gd (decide (0≤v26)) (gd (decide (v26<(↑(a.2.1.2.2.2.2.length):Int))) (gd (decide (v26.toNat<a.2.1.2.2.2.2.length)) ((Qfe F (((a.1.2.2.2.1.getD (a.2.2.toNat) Zm).2.2.1,(a.1.2.2.2.1.getD (a.2.2.toNat) Zm).2.2.2.1,(a.1.2.2.2.1.getD (a.2.2.toNat) Zm).2.2.2.2.1),(a.2.1.2.2.2.2.getD (v26.toNat) Q2).2.1)).bind fun(v34:Bool)=>some (!v34)))))else(some (false))).bind fun(v30:Bool)=>(bif v30 then(some ((13:Int)))else(some (v29))).bind fun(v31:Int)=>(bif decide (v31=0)then((Qjx F (a.1.2.2.2.1.getD (a.2.2.toNat) Zm).2.2.2.2.2.1).bind fun(v33:Int)=>some (v33))else(some (v31))).bind fun(v32:Int)=>some (v32))))))))))
def Zz1(F:Nat):PC:={ats:=[.agg Yj,.agg Yv,.val (.int .i64)],rts:=Zq,code:=Qjj F}
theorem Zp4(F:Nat):Qg cx 122 (Zz1 F):=qE (Zfs F) (Q8 3 (.two (.two (.join [(.normal,⟨[.slot 27 (.val (.bool))],[]⟩)] ⟨(kD 27 9 []),[],[]⟩ .leaf) .leaf) (Q8 3 (.two (.two (.join [(.normal,⟨[.slot 59 (.val (.bool))],[]⟩)] ⟨(kD 59 14 []),[],[]⟩ .leaf) (.join [(.normal,⟨[.slot 9 (.val (.int .i64))],[]⟩)] ⟨[9],[],[]⟩ .leaf)) (.two (.two .leaf (.join [(.normal,⟨[.slot 9 (.val (.int .i64))],[]⟩)] ⟨[9,64,63,62],[],[]⟩ .leaf)) .leaf))))) f122 (by kernel_rfl) fun a=>by kernel_rfl
def Zk7(F:Nat):LK:=lN
def c54(F:Nat)(a:List ByteArray×ByteArray):Option (Bool):=
 (Qq (σ:=Int) (β:=Bool ⊕ Unit) (fun(v13:Int)=>bif decide (v13<(↑(a.1.length):Int))then(gd (decide (0≤v13)) (gd (decide (v13<(↑(a.1.length):Int))) (gd (decide (v13.toNat<a.1.length)) (bif Qf (a.1.getD (v13.toNat) ByteArray.empty) a.2 then(some (Sum.inr (Sum.inl true)))else(some (Sum.inl (w64 (v13+1))))))))else(some (Sum.inr (Sum.inr ())))) F ((0:Int))).bind fun(v10:Bool ⊕ Unit)=>Sum.elim (fun(v11:Bool)=>some (v11)) (fun(v12:Unit)=>some (false)) (v10)
def Znf(F:Nat):PC:={ats:=Qkt,rts:=Yz,code:=c54 F}
theorem Qlb(F:Nat):Qg cx 54 (Znf F):=qE (Zk7 F) (.two .leaf (.two (.two .leaf (.one (.loop ⟨[.slot 5 (.val (.int .i64))],[]⟩ [(.ret,⟨[.slot 4 (.val (.bool))],[]⟩),(.exit 0,⟨[],[]⟩)] ⟨(kU 12 6 (4::5::kD 11 6 [])),[],[]⟩ F .leaf))) .leaf)) f54 (by kernel_rfl) fun a=>by kernel_rfl
def Zpg(F:Nat):LK:=lN
def Qk7(F:Nat)(a:(Qz)×ByteArray×ByteArray):Option (Int):=
 (Qq (σ:=Int) (β:=Int ⊕ Unit) (fun(v15:Int)=>bif decide (v15<(↑(a.1.2.2.2.2.length):Int))then((gd (decide (0≤v15)) (gd (decide (v15<(↑(a.1.2.2.2.2.length):Int))) (gd (decide (v15.toNat<a.1.2.2.2.2.length)) (bif Qf (a.1.2.2.2.2.getD (v15.toNat) (ByteArray.empty,ByteArray.empty,Qb ByteArray)).1 a.2.1 then(gd (decide (0≤v15)) (gd (decide (v15<(↑(a.1.2.2.2.2.length):Int))) (gd (decide (v15.toNat<a.1.2.2.2.2.length)) (some (Qf (a.1.2.2.2.2.getD (v15.toNat) (ByteArray.empty,ByteArray.empty,Qb ByteArray)).2.1 a.2.2)))))else(some (false)))))).bind fun(v16:Bool)=>bif v16 then(some (Sum.inr (Sum.inl v15)))else(some (Sum.inl (w64 (v15+1)))))else(some (Sum.inr (Sum.inr ())))) F ((0:Int))).bind fun(v12:Int ⊕ Unit)=>Sum.elim (fun(v13:Int)=>some (v13)) (fun(v14:Unit)=>some ((-1:Int))) (v12)
def Ze1(F:Nat):PC:={ats:=Qhf,rts:=Zq,code:=Qk7 F}
theorem Ziq(F:Nat):Qg cx 145 (Ze1 F):=qE (Zpg F) (.two .leaf (.two (.two .leaf (.one (.loop ⟨[.slot 7 (.val (.int .i64))],[]⟩ [(.ret,⟨[.slot 6 (.val (.int .i64))],[]⟩),(.exit 0,⟨[],[]⟩)] ⟨(kU 15 18 (6::33::7::kD 14 7 [])),[],[]⟩ F (.two .leaf (.two (.one (.two (.join [(.normal,⟨[.slot 32 (.val (.bool))],[]⟩)] ⟨(kD 32 18 []),[],[]⟩ .leaf) .leaf)) .leaf))))) .leaf)) f145 (by kernel_rfl) fun a=>by kernel_rfl
def Zn1(F:Nat):LK:=lC (Qk8 F) (lC (Qlz F) (lC (Ziq F) (lC (Qlb F) lN)))
def Qlf(F:Nat)(a:(Qz)×(Zi)×Int):Option (Int):=
 gd (decide (0≤a.2.2)) (gd (decide (a.2.2<(↑(a.1.2.2.2.2.length):Int))) (gd (decide (a.2.2.toNat<a.1.2.2.2.2.length)) ((c47 F (a.2.1,(a.1.2.2.2.2.getD (a.2.2.toNat) (ByteArray.empty,ByteArray.empty,Qb ByteArray)).2.1)).bind fun(v23:Int)=>((c54 F (a.1.1,(a.1.2.2.2.2.getD (a.2.2.toNat) (ByteArray.empty,ByteArray.empty,Qb ByteArray)).1)).bind fun(v32:Bool)=>bif !v32 then(some (true))else(some (decide (v23<0)))).bind fun(v24:Bool)=>bif v24 then(some ((10:Int)))else(gd (decide (0≤v23)) (gd (decide (v23<(↑(a.2.1.2.2.2.2.length):Int))) (gd (decide (v23.toNat<a.2.1.2.2.2.2.length)) (bif decide ((a.2.1.2.2.2.2.getD (v23.toNat) Q2).2.2.2.2.2.2.2.2.2.2=0)then(some ((13:Int)))else((Qk7 F (a.1,(a.1.2.2.2.2.getD (a.2.2.toNat) (ByteArray.empty,ByteArray.empty,Qb ByteArray)).1,(a.1.2.2.2.2.getD (a.2.2.toNat) (ByteArray.empty,ByteArray.empty,Qb ByteArray)).2.1)).bind fun(v25:Int)=>bif decide (v25<a.2.2)then(some ((9:Int)))else(gd (decide (0≤v23)) (gd (decide (v23<(↑(a.2.1.2.2.2.2.length):Int))) (gd (decide (v23.toNat<a.2.1.2.2.2.2.length)) (bif !decide ((↑(List.length (a.1.2.2.2.2.getD (a.2.2.toNat) (ByteArray.empty,ByteArray.empty,Qb ByteArray)).2.2):Int)=(a.2.1.2.2.2.2.getD (v23.toNat) Q2).2.2.2.2.2.2.2.2.2.2)then(some ((2:Int)))else((Qq (σ:=Int) (β:=Int ⊕ Unit) (fun(v29:Int)=>bif decide (v29<(↑(List.length (a.1.2.2.2.2.getD (a.2.2.toNat) (ByteArray.empty,ByteArray.empty,Qb ByteArray)).2.2):Int))then(gd (decide (0≤v29)) (gd (decide (v29<(↑(List.length (a.1.2.2.2.2.getD (a.2.2.toNat) (ByteArray.empty,ByteArray.empty,Qb ByteArray)).2.2):Int))) (gd (decide (v29.toNat<List.length (a.1.2.2.2.2.getD (a.2.2.toNat) (ByteArray.empty,ByteArray.empty,Qb ByteArray)).2.2)) ((c40 F (a.1,List.getD (a.1.2.2.2.2.getD (a.2.2.toNat) (ByteArray.empty,ByteArray.empty,Qb ByteArray)).2.2 (v29.toNat) ByteArray.empty)).bind fun(v30:Int)=>bif decide (v30<0)then(some (Sum.inr (Sum.inl (10:Int))))else(gd (decide (0≤v29)) (gd (decide (v29≤(↑(List.length (a.1.2.2.2.2.getD (a.2.2.toNat) (ByteArray.empty,ByteArray.empty,Qb ByteArray)).2.2):Int))) (gd (decide (0≤v29)) (gd (decide (v29<(↑(List.length (a.1.2.2.2.2.getD (a.2.2.toNat) (ByteArray.empty,ByteArray.empty,Qb ByteArray)).2.2):Int))) (gd (decide (v29.toNat<List.length (a.1.2.2.2.2.getD (a.2.2.toNat) (ByteArray.empty,ByteArray.empty,Qb ByteArray)).2.2)) ((c54 F (List.drop (0:Nat) (List.take (v29.toNat) (a.1.2.2.2.2.getD (a.2.2.toNat) (ByteArray.empty,ByteArray.empty,Qb ByteArray)).2.2),List.getD (a.1.2.2.2.2.getD (a.2.2.toNat) (ByteArray.empty,ByteArray.empty,Qb ByteArray)).2.2 (v29.toNat) ByteArray.empty)).bind fun(v31:Bool)=>bif v31 then(some (Sum.inr (Sum.inl (9:Int))))else(some (Sum.inl (w64 (v29+1))))))))))))))else(some (Sum.inr (Sum.inr ())))) F ((0:Int))).bind fun(v26:Int ⊕ Unit)=>Sum.elim (fun(v27:Int)=>some (v27)) (fun(v28:Unit)=>some ((0:Int))) (v26))))))))))))))
def Zxv(F:Nat):PC:={ats:=[.agg Yj,.agg Yv,.val (.int .i64)],rts:=Zq,code:=Qlf F}
theorem Zvl(F:Nat):Qg cx 123 (Zxv F):=qE (Zn1 F) (Q8 3 (.two (.two (.join [(.normal,⟨[.slot 28 (.val (.bool))],[]⟩)] ⟨(kD 28 10 []),[],[]⟩ .leaf) .leaf) (Q8 3 (.two (.two .leaf (.one (.loop ⟨[.slot 9 (.val (.int .i64))],[]⟩ [(.ret,⟨[.slot 6 (.val (.int .i64))],[]⟩),(.exit 0,⟨[],[]⟩)] ⟨(kU 61 8 (6::kD 78 10 (9::kD 60 7 []))),[],[]⟩ F .leaf))) .leaf)))) f123 (by kernel_rfl) fun a=>by kernel_rfl
def Zyy(F:Nat):LK:=lC (Qja F) (lC (Qlb F) (lC (Zg1 F) (lC (Qgc F) (lC (Qlz F) lN))))
def Qjy(F:Nat)(a:(Qz)×Int):Option (Int):=
 gd (decide (0≤a.2)) (gd (decide (a.2<(↑(a.1.2.1.length):Int))) (gd (decide (a.2.toNat<a.1.2.1.length)) ((c67 F (a.1.2.1.getD (a.2.toNat) Xf).1).bind fun(v13:Bool)=>bif !v13 then(some ((8:Int)))else((c40 F (a.1,(a.1.2.1.getD (a.2.toNat) Xf).1)).bind fun(v14:Int)=>bif decide (v14<a.2)then(some ((9:Int)))else((c54 F (a.1.1,(a.1.2.1.getD (a.2.toNat) Xf).2.1)).bind fun(v15:Bool)=>bif !v15 then(some ((10:Int)))else((c94 F ((a.1.2.1.getD (a.2.toNat) Xf).2.2.1,(99999:Int))).bind fun(v16:Bool)=>bif v16 then(some ((3:Int)))else((Qk2 F (a.1.2.1.getD (a.2.toNat) Xf).2.2.2).bind fun(v17:Int)=>some (v17))))))))
def Zsv(F:Nat):PC:={ats:=Zly,rts:=Zq,code:=Qjy F}
theorem Ze7(F:Nat):Qg cx 189 (Zsv F):=qE (Zyy F) .leaf f189 (by kernel_rfl) fun a=>by kernel_rfl
def Zh4(F:Nat):LK:=lC (Qgc F) (lC (Qlz F) (lC (Ze7 F) (lC (Qlb F) (lC (Qja F) lN))))
def Qj5(F:Nat)(a:Qz):Option (Int):=
 (Qq (σ:=Int) (β:=Int ⊕ Unit) (fun(v70:Int)=>bif decide (v70<(↑(a.1.length):Int))then(gd (decide (0≤v70)) (gd (decide (v70<(↑(a.1.length):Int))) (gd (decide (v70.toNat<a.1.length)) ((c67 F (a.1.getD (v70.toNat) ByteArray.empty)).bind fun(v71:Bool)=>bif !v71 then(some (Sum.inr (Sum.inl (8:Int))))else(gd (decide (0≤v70)) (gd (decide (v70≤(↑(a.1.length):Int))) (gd (decide (0≤v70)) (gd (decide (v70<(↑(a.1.length):Int))) (gd (decide (v70.toNat<a.1.length)) ((c54 F (List.drop (0:Nat) (List.take (v70.toNat) a.1),a.1.getD (v70.toNat) ByteArray.empty)).bind fun(v72:Bool)=>bif v72 then(some (Sum.inr (Sum.inl (9:Int))))else(some (Sum.inl (w64 (v70+1))))))))))))))else(some (Sum.inr (Sum.inr ())))) F ((0:Int))).bind fun(v53:Int ⊕ Unit)=>Sum.elim (fun(v54:Int)=>some (v54)) (fun(v55:Unit)=>(Qq (σ:=Int×Int) (β:=Int) (fun(v67:Int×Int)=>(bif decide (v67.2<(↑(a.2.1.length):Int))then(some (decide (v67.1=0)))else(some (false))).bind fun(v68:Bool)=>bif v68 then((Qjy F (a,v67.2)).bind fun(v69:Int)=>some (Sum.inl (v69,w64 (v67.2+1))))else(some (Sum.inr v67.1))) F (((0:Int),(0:Int)))).bind fun(v56:Int)=>(Qq (σ:=Int×Int) (β:=Int) (fun(v58:Int×Int)=>(bif decide (v58.2<(↑(a.2.2.1.length):Int))then(some (decide (v58.1=0)))else(some (false))).bind fun(v59:Bool)=>bif v59 then(gd (decide (0≤v58.2)) (gd (decide (v58.2<(↑(a.2.2.1.length):Int))) (gd (decide (v58.2.toNat<a.2.2.1.length)) ((c40 F (a,(a.2.2.1.getD (v58.2.toNat) (ByteArray.empty,(0:Int),(0:Int))).1)).bind fun(v60:Int)=>(bif decide (v60<0)then(some ((10:Int)))else(((c94 F ((a.2.2.1.getD (v58.2.toNat) (ByteArray.empty,(0:Int),(0:Int))).2.1,(99999:Int))).bind fun(v65:Bool)=>bif v65 then(some (true))else((c94 F ((a.2.2.1.getD (v58.2.toNat) (ByteArray.empty,(0:Int),(0:Int))).2.2,(99999:Int))).bind fun(v66:Bool)=>some (v66))).bind fun(v62:Bool)=>(bif v62 then(some ((3:Int)))else((bif decide ((a.2.2.1.getD (v58.2.toNat) (ByteArray.empty,(0:Int),(0:Int))).2.2<(a.2.2.1.getD (v58.2.toNat) (ByteArray.empty,(0:Int),(0:Int))).2.1)then(some ((11:Int)))else(some v58.1)).bind fun(v64:Int)=>some (v64))).bind fun(v63:Int)=>some (v63))).bind fun(v61:Int)=>some (Sum.inl (v61,w64 (v58.2+1)))))))else(some (Sum.inr v58.1))) F ((v56,(0:Int)))).bind fun(v57:Int)=>some (v57)) (v53)
def Ze8(F:Nat):PC:={ats:=Qfo,rts:=Zq,code:=Qj5 F}
theorem Zug(F:Nat):Qg cx 121 (Ze8 F):=qE (Zh4 F) (.two .leaf (.two (.two .leaf (.one (.loop ⟨[.slot 3 (.val (.int .i64))],[]⟩ [(.ret,⟨[.slot 2 (.val (.int .i64))],[]⟩),(.exit 0,⟨[],[]⟩)] ⟨(kU 15 7 (2::kD 31 10 (3::kD 14 7 []))),[],[]⟩ F .leaf))) (.two .leaf (.two (.two .leaf (.one (.loop ⟨[.slot 4 (.val (.int .i64)),.slot 5 (.val (.int .i64))],[]⟩ [(.exit 2,⟨[.slot 4 (.val (.int .i64))],[]⟩)] ⟨(43::44::45::4::5::kD 42 11 []),[],[]⟩ F (.two (.two (.join [(.normal,⟨[.slot 40 (.val (.bool))],[]⟩)] ⟨(kD 40 9 []),[],[]⟩ .leaf) .leaf) .leaf)))) (.two (.two .leaf (.one (.loop ⟨[.slot 4 (.val (.int .i64)),.slot 6 (.val (.int .i64))],[]⟩ [(.exit 4,⟨[.slot 4 (.val (.int .i64))],[]⟩)] ⟨(57::58::59::60::61::7::4::kD 79 18 (6::kD 56 11 [])),[],[]⟩ F (.two (.two (.join [(.normal,⟨[.slot 54 (.val (.bool))],[]⟩)] ⟨(kD 54 9 []),[],[]⟩ .leaf) .leaf) (.two (.one (Q8 2 (.join [(.normal,⟨[.slot 4 (.val (.int .i64))],[]⟩)] ⟨(kU 67 13 (4::[])),[],[]⟩ (.two .leaf (.two (.join [(.normal,⟨[.slot 74 (.val (.bool))],[]⟩)] ⟨(kD 74 8 []),[],[]⟩ .leaf) (.join [(.normal,⟨[.slot 4 (.val (.int .i64))],[]⟩)] ⟨[75,76,77,78,79,4],[],[]⟩ (Q8 2 (.join [(.normal,⟨[.slot 4 (.val (.int .i64))],[]⟩)] ⟨[4],[],[]⟩ .leaf)))))))) .leaf))))) .leaf))))) f121 (by kernel_rfl) fun a=>by kernel_rfl
def Zt5(F:Nat):LK:=lC (Zug F) (lC (Zvl F) (lC (Zp4 F) (lC (Zew F) lN)))
def c26(F:Nat)(a:(Zi)×Qz):Option (Int):=
 (c22 F a.1).bind fun(v25:Int)=>bif !decide (v25=0)then(some (v25))else((bif decide (256<(↑(a.2.1.length):Int))then(some (true))else(bif decide (256<(↑(a.2.2.1.length):Int))then(some (true))else(bif decide (256<(↑(a.2.2.2.1.length):Int))then(some (true))else(bif decide (256<(↑(a.2.2.2.2.1.length):Int))then(some (true))else(some (decide (256<(↑(a.2.2.2.2.2.length):Int)))))))).bind fun(v26:Bool)=>bif v26 then(some ((5:Int)))else((Qj5 F a.2).bind fun(v27:Int)=>(Qq (σ:=Int×Int) (β:=Int) (fun(v33:Int×Int)=>(bif decide (v33.2<(↑(a.2.2.2.2.1.length):Int))then(some (decide (v33.1=0)))else(some (false))).bind fun(v34:Bool)=>bif v34 then((Qjj F (a.2,a.1,v33.2)).bind fun(v35:Int)=>some (Sum.inl (v35,w64 (v33.2+1))))else(some (Sum.inr v33.1))) F ((v27,(0:Int)))).bind fun(v28:Int)=>(Qq (σ:=Int×Int) (β:=Int) (fun(v30:Int×Int)=>(bif decide (v30.2<(↑(a.2.2.2.2.2.length):Int))then(some (decide (v30.1=0)))else(some (false))).bind fun(v31:Bool)=>bif v31 then((Qlf F (a.2,a.1,v30.2)).bind fun(v32:Int)=>some (Sum.inl (v32,w64 (v30.2+1))))else(some (Sum.inr v30.1))) F ((v28,(0:Int)))).bind fun(v29:Int)=>some (v29)))
def Zfo(F:Nat):PC:={ats:=Qds,rts:=Zq,code:=c26 F}
theorem Zik(F:Nat):Qg cx 26 (Zfo F):=qE (Zt5 F) (Q8 3 (.two (.two (.join [(.normal,⟨[.slot 40 (.val (.bool))],[]⟩)] ⟨(kD 40 28 []),[],[]⟩ .leaf) .leaf) (.two .leaf (.two (.two .leaf (.one (.loop ⟨[.slot 5 (.val (.int .i64)),.slot 6 (.val (.int .i64))],[]⟩ [(.exit 0,⟨[.slot 5 (.val (.int .i64))],[]⟩)] ⟨(54::55::56::57::5::6::kD 53 11 []),[],[]⟩ F (.two (.two (.join [(.normal,⟨[.slot 51 (.val (.bool))],[]⟩)] ⟨(kD 51 9 []),[],[]⟩ .leaf) .leaf) .leaf)))) (.two (.two .leaf (.one (.loop ⟨[.slot 5 (.val (.int .i64)),.slot 7 (.val (.int .i64))],[]⟩ [(.exit 2,⟨[.slot 5 (.val (.int .i64))],[]⟩)] ⟨(69::70::71::72::5::7::kD 68 11 []),[],[]⟩ F (.two (.two (.join [(.normal,⟨[.slot 66 (.val (.bool))],[]⟩)] ⟨(kD 66 9 []),[],[]⟩ .leaf) .leaf) .leaf)))) .leaf))))) f26 (by kernel_rfl) fun a=>by kernel_rfl
def Zpp(F:Nat):LK:=lC (Ya F) lN
def c87(F:Nat)(a:Int×Int):Option (Int):=
 (bif decide (a.1<0)then(some ((3:Int)))else((Q1 F (decide (a.2<a.1),(3:Int))).bind fun(v9:Int)=>some (v9))).bind fun(v8:Int)=>some (v8)
def Zpm(F:Nat):PC:={ats:=Qh5,rts:=Zq,code:=c87 F}
theorem Qz9(F:Nat):Qg cx 87 (Zpm F):=qE (Zpp F) (.two .leaf (.two (.join [(.normal,⟨[.slot 4 (.val (.int .i64))],[]⟩)] ⟨(4::kD 12 8 []),[],[]⟩ .leaf) .leaf)) f87 (by kernel_rfl) fun a=>by kernel_rfl
def Zxx(F:Nat):LK:=lN
def Jh(F:Nat)(a:List Int):Option (Int):=
 (Qq (σ:=Int) (β:=Int ⊕ Unit) (fun(v13:Int)=>bif decide (v13<(↑(a.length):Int))then(gd (decide (0≤v13)) (gd (decide (v13<(↑(a.length):Int))) (gd (decide (v13.toNat<a.length)) (bif !decide (a.getD (v13.toNat) (0:Int)=(0:Int))then(some (Sum.inr (Sum.inl (a.getD (v13.toNat) (0:Int)))))else(some (Sum.inl (w64 (v13+1))))))))else(some (Sum.inr (Sum.inr ())))) F ((0:Int))).bind fun(v10:Int ⊕ Unit)=>Sum.elim (fun(v11:Int)=>some (v11)) (fun(v12:Unit)=>some ((0:Int))) (v10)
def Zoc(F:Nat):PC:={ats:=[.val (.seq kt6)],rts:=Zq,code:=Jh F}
theorem Qta(F:Nat):Qg cx 175 (Zoc F):=qE (Zxx F) (.two .leaf (.two (.two .leaf (.one (.loop ⟨[.slot 7 (.val (.int .i64))],[]⟩ [(.ret,⟨[.slot 2 (.val (.int .i64))],[]⟩),(.exit 0,⟨[],[]⟩)] ⟨[14,7,11,12,2,13,4,10,9,8],[],[]⟩ F .leaf))) .leaf)) f175 (by kernel_rfl) fun a=>by kernel_rfl
def Zkd(F:Nat):LK:=lN
def Xb(F:Nat)(a:Bool×Int):Option (Int):=
 bif a.1 then(some a.2)else(some ((0:Int)))
def Zuy(F:Nat):PC:={ats:=Qzj,rts:=Zq,code:=Xb F}
theorem Za9(F:Nat):Qg cx 176 (Zuy F):=qE (Zkd F) .leaf f176 (by kernel_rfl) fun a=>by kernel_rfl
def Zuk(F:Nat):LK:=lN
def Qi0(F:Nat)(a:List ByteArray×ByteArray):Option (Int):=
 (Qq (σ:=Int) (β:=Int ⊕ Unit) (fun(v13:Int)=>bif decide (v13<(↑(a.1.length):Int))then(gd (decide (0≤v13)) (gd (decide (v13<(↑(a.1.length):Int))) (gd (decide (v13.toNat<a.1.length)) (bif Qf a.2 (a.1.getD (v13.toNat) ByteArray.empty)then(some (Sum.inr (Sum.inl v13)))else(some (Sum.inl (w64 (v13+1))))))))else(some (Sum.inr (Sum.inr ())))) F ((0:Int))).bind fun(v10:Int ⊕ Unit)=>Sum.elim (fun(v11:Int)=>some (v11)) (fun(v12:Unit)=>some ((-1:Int))) (v10)
def Zh1(F:Nat):PC:={ats:=Qkt,rts:=Zq,code:=Qi0 F}
theorem Zvt(F:Nat):Qg cx 183 (Zh1 F):=qE (Zuk F) (.two .leaf (.two (.two .leaf (.one (.loop ⟨[.slot 8 (.val (.int .i64))],[]⟩ [(.ret,⟨[.slot 4 (.val (.int .i64))],[]⟩),(.exit 0,⟨[],[]⟩)] ⟨[18,8,11,12,13,14,15,16,4,17,5,10,9],[],[]⟩ F .leaf))) .leaf)) f183 (by kernel_rfl) fun a=>by kernel_rfl
def Zxm(F:Nat):LK:=lC (Zvt F) lN
def W0(F:Nat)(a:List ByteArray×ByteArray):Option (Bool):=
 (Qi0 F a).bind fun(v5:Int)=>some (decide (0≤v5))
def Zn4(F:Nat):PC:={ats:=Qkt,rts:=Yz,code:=W0 F}
theorem Jc(F:Nat):Qg cx 107 (Zn4 F):=qE (Zxm F) .leaf f107 (by kernel_rfl) fun a=>by kernel_rfl
def Zgr(F:Nat):LK:=lC (Jc F) lN
def Qj4(F:Nat)(a:ByteArray):Option (Bool):=
 (W0 F ({data:=List.toArray (68::78::83::Qb UInt8)}::{data:=List.toArray (68::78::70::Qb UInt8)}::{data:=List.toArray (68::81::Qb UInt8)}::{data:=List.toArray (78::77::Qb UInt8)}::Qb ByteArray,a)).bind fun(v5:Bool)=>some (v5)
def Zk2(F:Nat):PC:={ats:=K7,rts:=Yz,code:=Qj4 F}
theorem Zqd(F:Nat):Qg cx 177 (Zk2 F):=qE (Zgr F) .leaf f177 (by kernel_rfl) fun a=>by kernel_rfl
def Zti(F:Nat):LK:=lN
def W8(F:Nat)(a:Int×Int×Int):Option (Bool):=
 (bif decide (a.1<a.2.1)then(some (true))else(some (decide (a.2.2<a.1)))).bind fun(v5:Bool)=>some (v5)
def Zg8(F:Nat):PC:={ats:=Qvh,rts:=Yz,code:=W8 F}
theorem Zv5(F:Nat):Qg cx 179 (Zg8 F):=qE (Zti F) (.two .leaf (.two (.join [(.normal,⟨[.slot 6 (.val (.bool))],[]⟩)] ⟨(6::kD 14 8 []),[],[]⟩ .leaf) .leaf)) f179 (by kernel_rfl) fun a=>by kernel_rfl
def Zzn(F:Nat):LK:=lC (Zv5 F) (lC (Zqd F) (lC (Za9 F) (lC (Qta F) lN)))
def c99(F:Nat)(a:ByteArray×Int×ByteArray):Option (Int):=
 bif Qf a.1 {data:=List.toArray (110::111::110::101::Qb UInt8)}then((Qj4 F a.2.2).bind fun(v66:Bool)=>(Xb F (!v66,(1:Int))).bind fun(v67:Int)=>(Xb F (!decide (a.2.1=0),(3:Int))).bind fun(v68:Int)=>(Jh F (v67::v68::Qb Int)).bind fun(v69:Int)=>some (v69))else((bif Qf a.1 {data:=List.toArray (116::105::109::101::Qb UInt8)}then((Xb F (!Qf a.2.2 {data:=List.toArray (Qb UInt8)},(1:Int))).bind fun(v88:Int)=>(W8 F (a.2.1,(1:Int),(863999999:Int))).bind fun(v89:Bool)=>(Xb F (v89,(3:Int))).bind fun(v90:Int)=>(Jh F ((0:Int)::v88::v90::Qb Int)).bind fun(v91:Int)=>some (v91))else(bif Qf a.1 {data:=List.toArray (108::101::110::103::116::104::Qb UInt8)}then((Xb F (!Qf a.2.2 {data:=List.toArray (Qb UInt8)},(1:Int))).bind fun(v92:Int)=>(W8 F (a.2.1,(0:Int),(999999:Int))).bind fun(v93:Bool)=>(Xb F (v93,(3:Int))).bind fun(v94:Int)=>(Jh F ((0:Int)::v92::v94::Qb Int)).bind fun(v95:Int)=>some (v95))else(bif Qf a.1 {data:=List.toArray (112::111::105::110::116::115::Qb UInt8)}then((Xb F (!Qf a.2.2 {data:=List.toArray (Qb UInt8)},(1:Int))).bind fun(v96:Int)=>(W8 F (a.2.1,(0:Int),(99999:Int))).bind fun(v97:Bool)=>(Xb F (v97,(3:Int))).bind fun(v98:Int)=>(Jh F ((0:Int)::v96::v98::Qb Int)).bind fun(v99:Int)=>some (v99))else((Xb F (!Qf a.2.2 {data:=List.toArray (Qb UInt8)},(1:Int))).bind fun(v100:Int)=>(W8 F (a.2.1,(0:Int),(0:Int))).bind fun(v101:Bool)=>(Xb F (v101,(3:Int))).bind fun(v102:Int)=>(Jh F ((13:Int)::v100::v102::Qb Int)).bind fun(v103:Int)=>some (v103))))).bind fun(v70:Int)=>(bif Qf a.1 {data:=List.toArray (116::105::109::101::Qb UInt8)}then((Xb F (!Qf a.2.2 {data:=List.toArray (Qb UInt8)},(1:Int))).bind fun(v72:Int)=>(W8 F (a.2.1,(1:Int),(863999999:Int))).bind fun(v73:Bool)=>(Xb F (v73,(3:Int))).bind fun(v74:Int)=>(Jh F ((0:Int)::v72::v74::Qb Int)).bind fun(v75:Int)=>some (v75))else(bif Qf a.1 {data:=List.toArray (108::101::110::103::116::104::Qb UInt8)}then((Xb F (!Qf a.2.2 {data:=List.toArray (Qb UInt8)},(1:Int))).bind fun(v76:Int)=>(W8 F (a.2.1,(0:Int),(999999:Int))).bind fun(v77:Bool)=>(Xb F (v77,(3:Int))).bind fun(v78:Int)=>(Jh F ((0:Int)::v76::v78::Qb Int)).bind fun(v79:Int)=>some (v79))else(bif Qf a.1 {data:=List.toArray (112::111::105::110::116::115::Qb UInt8)}then((Xb F (!Qf a.2.2 {data:=List.toArray (Qb UInt8)},(1:Int))).bind fun(v80:Int)=>(W8 F (a.2.1,(0:Int),(99999:Int))).bind fun(v81:Bool)=>(Xb F (v81,(3:Int))).bind fun(v82:Int)=>(Jh F ((0:Int)::v80::v82::Qb Int)).bind fun(v83:Int)=>some (v83))else((Xb F (!Qf a.2.2 {data:=List.toArray (Qb UInt8)},(1:Int))).bind fun(v84:Int)=>(W8 F (a.2.1,(0:Int),(0:Int))).bind fun(v85:Bool)=>(Xb F (v85,(3:Int))).bind fun(v86:Int)=>(Jh F ((13:Int)::v84::v86::Qb Int)).bind fun(v87:Int)=>some (v87))))).bind fun(v71:Int)=>gd (Qx.eqv (Qe.val (Ty.int Go.IntKind.i64)::Qb Qe) v70 v71) (some (v70)))
def Qmi(F:Nat):PC:={ats:=[.agg kt7],rts:=Zq,code:=c99 F}
theorem Qee(F:Nat):Qg cx 99 (Qmi F):=qE (Zzn F) (Q8 2 (.two (.within [(178,.leaf)]) .leaf)) f99 (by kernel_rfl) fun a=>by kernel_rfl
def Zra(F:Nat):LK:=lN
def Xh(F:Nat)(a:(Z4)×ByteArray×Int×ByteArray):Option (Bool):=
 (bif Qf a.2.1 a.1.2.1 then(some (true))else(some (Qf a.2.1 {data:=List.toArray (110::111::110::101::Qb UInt8)}))).bind fun(v5:Bool)=>some (v5)
def Zd3(F:Nat):PC:={ats:=[.agg kt5,.agg kt7],rts:=Yz,code:=Xh F}
theorem Qrh(F:Nat):Qg cx 155 (Zd3 F):=qE (Zra F) (.two .leaf (.two (.join [(.normal,⟨[.slot 4 (.val (.bool))],[]⟩)] ⟨(4::kD 14 10 []),[],[]⟩ .leaf) .leaf)) f155 (by kernel_rfl) fun a=>by kernel_rfl
def Zze(F:Nat):LK:=lC (Jc F) (lC (Ya F) (lC (Qhi F) (lC (Qz9 F) (lC (Yi F) (lC (Qrh F) (lC (Qee F) lN))))))
def c93(F:Nat)(a:Z4):Option (Int):=
 ((W0 F ({data:=List.toArray (116::105::109::101::Qb UInt8)}::{data:=List.toArray (108::101::110::103::116::104::Qb UInt8)}::{data:=List.toArray (112::111::105::110::116::115::Qb UInt8)}::Qb ByteArray,a.2.1)).bind fun(v63:Bool)=>(Q1 F (!v63,(13:Int))).bind fun(v64:Int)=>bif !Qf a.2.2.1 {data:=List.toArray (Qb UInt8)}then((c98 F a.2.2.1).bind fun(v65:Bool)=>(Q1 F (!v65,(8:Int))).bind fun(v66:Int)=>(c87 F (a.2.2.2.1,(120:Int))).bind fun(v67:Int)=>(c87 F (a.2.2.2.2.1,(120:Int))).bind fun(v68:Int)=>(Q1 F (decide (a.2.2.2.2.1<a.2.2.2.1),(11:Int))).bind fun(v69:Int)=>(Zl F (v64::v66::v67::v68::v69::Qb Int)).bind fun(v70:Int)=>some (v70))else((c87 F (a.2.2.2.1,(120:Int))).bind fun(v71:Int)=>(c87 F (a.2.2.2.2.1,(120:Int))).bind fun(v72:Int)=>(Q1 F (decide (a.2.2.2.2.1<a.2.2.2.1),(11:Int))).bind fun(v73:Int)=>(Zl F (v64::(0:Int)::v71::v72::v73::Qb Int)).bind fun(v74:Int)=>some (v74))).bind fun(v55:Int)=>bif !decide (v55=0)then(some (v55))else((c87 F (a.2.2.2.2.2.1,(160:Int))).bind fun(v56:Int)=>(c87 F (a.2.2.2.2.2.2.1,(160:Int))).bind fun(v57:Int)=>(c87 F (a.2.2.2.2.2.2.2.2.2.2,(8:Int))).bind fun(v58:Int)=>(c99 F (a.2.2.2.2.2.2.2.1,a.2.2.2.2.2.2.2.2.1,a.2.2.2.2.2.2.2.2.2.1)).bind fun(v59:Int)=>(Xh F (a,a.2.2.2.2.2.2.2.1,a.2.2.2.2.2.2.2.2.1,a.2.2.2.2.2.2.2.2.2.1)).bind fun(v60:Bool)=>(Q1 F (!v60,(13:Int))).bind fun(v61:Int)=>(Zl F (v56::v57::v58::v59::v61::Qb Int)).bind fun(v62:Int)=>some (v62))
def Zh5(F:Nat):PC:={ats:=[.agg kt5],rts:=Zq,code:=c93 F}
theorem Qqv(F:Nat):Qg cx 93 (Zh5 F):=qE (Zze F) (Q8 2 (.two (.two (.join [(.normal,⟨[.slot 4 (.val (.int .i64))],[]⟩)] ⟨(4::kD 35 30 []),[],[]⟩ .leaf) .leaf) .leaf)) f93 (by kernel_rfl) fun a=>by kernel_rfl
def Zki:Qi:=⟨[.slot 0 (.agg kt5),.one 0 110 kt5],[(1,.stat (.ptr 0 11 0 0))]⟩
def Zyj:Qi:=⟨[.slot 0 (.val (.bool))],[]⟩
def Zdr(F:Nat):LK:=lN
def Zlc(F:Nat):PX:=qX (Zdr F) .leaf f91 (pxB 2 [.arg 1] Zki 1 Zyj [] [])
theorem Qfg(F:Nat):Zf cx 91 (Zlc F):=Qap (by kernel_rfl)
def Zox:Qi:=⟨[.slot 0 (.val (.seq kt5)),.one 0 110 kt5],[(1,.stat (.fn (.func 91) [] [.ptr 0 11 0 0]))]⟩
def Zdf:Qi:=⟨[.slot 0 (.val (.int .i64))],[]⟩
def Zv3(F:Nat):LK:=lX (Qfg F) lN
def Ql4(F:Nat)(a:List (Z4)×Z4):Option (Int):=
 (Qq (σ:=Int) (β:=Int ⊕ Unit) (fun(v13:Int)=>bif decide (v13<(↑(a.1.length):Int))then(gd (decide (0≤v13)) (gd (decide (v13<(↑(a.1.length):Int))) (gd (decide (v13.toNat<a.1.length)) (bif Qf (a.1.getD (v13.toNat) Q2).1 a.2.1 then(some (Sum.inr (Sum.inl v13)))else(some (Sum.inl (w64 (v13+1))))))))else(some (Sum.inr (Sum.inr ())))) F ((0:Int))).bind fun(v10:Int ⊕ Unit)=>Sum.elim (fun(v11:Int)=>some (v11)) (fun(v12:Unit)=>some ((-1:Int))) (v10)
def Zqu(F:Nat):PX:={np:=2,locs:=[.cap (.arg 1) 0],τ:=Zox,nr:=1,ω:=Zdf,ids:=[],mv:=[],code:=Ql4 F}
theorem Qe3(F:Nat):Zf cx 154 (Zqu F):=qXE (Zv3 F) (.two .leaf (.two (.two .leaf (.one (.loop ⟨[.slot 8 (.val (.int .i64))],[]⟩ [(.ret,⟨[.slot 4 (.val (.int .i64))],[]⟩),(.exit 0,⟨[],[]⟩)] ⟨[18,8,11,12,13,14,15,16,4,17,5,10,9],[],[]⟩ F .leaf))) .leaf)) f154 (by kernel_rfl) fun a=>by kernel_rfl
def Zyo:Qi:=⟨[.slot 0 (.val (.seq kt5)),.one 0 110 kt5],[(1,.stat (.fn (.func 91) [] [.ptr 0 11 0 0]))]⟩
def Zx2:Qi:=⟨[.slot 0 (.val (.bool))],[]⟩
def Zsy(F:Nat):LK:=lX (Qfg F) (lX (Qe3 F) lN)
def Qic(F:Nat)(a:List (Z4)×Z4):Option (Bool):=
 (Ql4 F a).bind fun(v5:Int)=>some (decide (0≤v5))
def Zw0(F:Nat):PX:={np:=2,locs:=[.cap (.arg 1) 0],τ:=Zyo,nr:=1,ω:=Zx2,ids:=[],mv:=[],code:=Qic F}
theorem Qqj(F:Nat):Zf cx 90 (Zw0 F):=qXE (Zsy F) .leaf f90 (by kernel_rfl) fun a=>by kernel_rfl
def Yag:Qi:=⟨[.slot 0 (.val (.int .i64)),.slot 1 (.agg kt5),.one 0 24 Yv],[(2,.stat (.ptr 0 5 0 0))]⟩
def Zv6:Qi:=⟨[.slot 0 (.val (.int .i64))],[]⟩
def Zl1(F:Nat):LK:=lC (Vq F) (lC (Ya F) (lC (Qqv F) (lC (Yi F) (lX (Qfg F) (lX (Qe3 F) (lX (Qqj F) lN))))))
def Qjp(F:Nat)(a:Int×(Z4)×Zi):Option (Int):=
 gd (decide (0≤a.1)) (gd (decide (a.1≤(↑(a.2.2.2.2.2.2.length):Int))) ((Qic F (List.drop (0:Nat) (List.take (a.1.toNat) a.2.2.2.2.2.2),a.2.1.1,a.2.1.2.1,a.2.1.2.2.1,a.2.1.2.2.2.1,a.2.1.2.2.2.2.1,a.2.1.2.2.2.2.2.1,a.2.1.2.2.2.2.2.2.1,a.2.1.2.2.2.2.2.2.2.1,a.2.1.2.2.2.2.2.2.2.2.1,a.2.1.2.2.2.2.2.2.2.2.2.1,a.2.1.2.2.2.2.2.2.2.2.2.2)).bind fun(v13:Bool)=>(c92 F a.2.1.1).bind fun(v14:Int)=>(Q1 F (v13,(9:Int))).bind fun(v15:Int)=>(c93 F a.2.1).bind fun(v16:Int)=>(Zl F (v14::v15::v16::Qb Int)).bind fun(v17:Int)=>some (v17)))
def Zwp(F:Nat):PX:={np:=3,locs:=[.arg 2],τ:=Yag,nr:=1,ω:=Zv6,ids:=[],mv:=[],code:=Qjp F}
theorem Qsv(F:Nat):Zf cx 89 (Zwp F):=qXE (Zl1 F) .leaf f89 (by kernel_rfl) fun a=>by kernel_rfl
def Zk8:Qi:=⟨[.slot 0 (.val (.seq kt5)),.one 0 24 Yv],[(1,.stat (.fn (.func 89) [] [.ptr 0 5 0 0]))]⟩
def Zxe:Qi:=⟨[.slot 0 (.val (.int .i64))],[]⟩
def Zf2(F:Nat):LK:=lC (Vq F) (lC (Ya F) (lC (Qqv F) (lC (Yi F) (lX (Qfg F) (lX (Qe3 F) (lX (Qqj F) (lX (Qsv F) lN)))))))
def Qkr(F:Nat)(a:List (Z4)×Zi):Option (Int):=
 (Qq (σ:=Int) (β:=Int ⊕ Unit) (fun(v15:Int)=>bif decide (v15<(↑(a.1.length):Int))then(gd (decide (0≤v15)) (gd (decide (v15<(↑(a.1.length):Int))) (gd (decide (v15.toNat<a.1.length)) ((Qjp F (v15,(a.1.getD (v15.toNat) Q2),a.2.1,a.2.2.1,a.2.2.2.1,a.2.2.2.2.1,a.2.2.2.2.2)).bind fun(v16:Int)=>bif !decide (v16=0)then(some (Sum.inr (Sum.inl v16)))else(some (Sum.inl (w64 (v15+1))))))))else(some (Sum.inr (Sum.inr ())))) F ((0:Int))).bind fun(v12:Int ⊕ Unit)=>Sum.elim (fun(v13:Int)=>some (v13)) (fun(v14:Unit)=>some ((0:Int))) (v12)
def Zo0(F:Nat):PX:={np:=2,locs:=[.cap (.arg 1) 0],τ:=Zk8,nr:=1,ω:=Zxe,ids:=[],mv:=[],code:=Qkr F}
theorem Zvn(F:Nat):Zf cx 88 (Zo0 F):=qXE (Zf2 F) (.two .leaf (.two (.two .leaf (.one (.loop ⟨[.slot 10 (.val (.int .i64))],[]⟩ [(.ret,⟨[.slot 4 (.val (.int .i64))],[]⟩),(.exit 0,⟨[],[]⟩)] ⟨[22,10,15,16,17,18,7,21,4,20,19,5,6,14,13,12,11],[],[]⟩ F .leaf))) .leaf)) f88 (by kernel_rfl) fun a=>by kernel_rfl
def Ztr(F:Nat):LK:=lC (Vq F) (lC (Qqv F) (lC (Yi F) (lC (Qz9 F) (lC (Ya F) (lC (Qbu F) (lX (Qfg F) (lX (Qe3 F) (lX (Qqj F) (lX (Qsv F) (lX (Zvn F) lN))))))))))
def c21(F:Nat)(a:Zi):Option (Int):=
 ((c85 F (a.1::a.2.1::a.2.2.1::Qb Int)).bind fun(v33:Int)=>bif decide (a.2.2.1<a.2.1)then((c87 F (a.2.2.2.1,(32:Int))).bind fun(v34:Int)=>(Q1 F (decide (32<(↑(a.2.2.2.2.length):Int)),(5:Int))).bind fun(v35:Int)=>(Zl F (v33::(11:Int)::v34::v35::Qb Int)).bind fun(v36:Int)=>some (v36))else((Q1 F (decide (a.1<a.2.2.1),(11:Int))).bind fun(v37:Int)=>(c87 F (a.2.2.2.1,(32:Int))).bind fun(v38:Int)=>(Q1 F (decide (32<(↑(a.2.2.2.2.length):Int)),(5:Int))).bind fun(v39:Int)=>(Zl F (v33::v37::v38::v39::Qb Int)).bind fun(v40:Int)=>some (v40))).bind fun(v31:Int)=>bif !decide (v31=0)then(some (v31))else((Qkr F (a.2.2.2.2,a.1,a.2.1,a.2.2.1,a.2.2.2.1,a.2.2.2.2)).bind fun(v32:Int)=>some (v32))
def Qqp(F:Nat):PC:={ats:=[.agg Yv],rts:=Zq,code:=c21 F}
theorem Qsb(F:Nat):Qg cx 21 (Qqp F):=qE (Ztr F) (.two .leaf (.two (.two (.join [(.normal,⟨[.slot 3 (.val (.int .i64))],[]⟩)] ⟨(3::kD 34 31 []),[],[]⟩ .leaf) .leaf) .leaf)) f21 (by kernel_rfl) fun a=>by kernel_rfl
def Zop(F:Nat):LK:=lN
def Qoi(F:Nat):PC:=qT (Zop F) .leaf f105 Qfo Yz
theorem Qp5(F:Nat):Qg cx 105 (Qoi F):=Xl (by kernel_rfl)
def Zjy:Qi:=⟨[.slot 0 (.agg kt5),.one 0 9 Zr],[(1,.stat (.ptr 0 1 0 0))]⟩
def Zxn:Qi:=⟨[.slot 0 (.val (.bool))],[]⟩
def Zwn(F:Nat):LK:=lN
def Zzk(F:Nat):PX:=qX (Zwn F) .leaf f195 (pxB 2 [.arg 1] Zjy 1 Zxn [] [])
theorem Qvi(F:Nat):Zf cx 195 (Zzk F):=Qap (by kernel_rfl)
def Zez:Qi:=⟨[.slot 0 (.val (.seq kt5)),.one 0 9 Zr],[(1,.stat (.fn (.func 195) [] [.ptr 0 1 0 0]))]⟩
def Zeb:Qi:=⟨[.slot 0 (.val (.int .i64))],[]⟩
def Zwa(F:Nat):LK:=lX (Qvi F) lN
def Qjb(F:Nat)(a:List (Z4)×ByteArray):Option (Int):=
 (Qq (σ:=Int) (β:=Int ⊕ Unit) (fun(v13:Int)=>bif decide (v13<(↑(a.1.length):Int))then(gd (decide (0≤v13)) (gd (decide (v13<(↑(a.1.length):Int))) (gd (decide (v13.toNat<a.1.length)) (bif Qf (a.1.getD (v13.toNat) Q2).1 a.2 then(some (Sum.inr (Sum.inl v13)))else(some (Sum.inl (w64 (v13+1))))))))else(some (Sum.inr (Sum.inr ())))) F ((0:Int))).bind fun(v10:Int ⊕ Unit)=>Sum.elim (fun(v11:Int)=>some (v11)) (fun(v12:Unit)=>some ((-1:Int))) (v10)
def Zn7(F:Nat):PX:={np:=2,locs:=[.cap (.arg 1) 0],τ:=Zez,nr:=1,ω:=Zeb,ids:=[],mv:=[],code:=Qjb F}
theorem Zym(F:Nat):Zf cx 154 (Zn7 F):=qXE (Zwa F) (.two .leaf (.two (.two .leaf (.one (.loop ⟨[.slot 8 (.val (.int .i64))],[]⟩ [(.ret,⟨[.slot 4 (.val (.int .i64))],[]⟩),(.exit 0,⟨[],[]⟩)] ⟨[18,8,11,12,13,14,15,16,4,17,5,10,9],[],[]⟩ F .leaf))) .leaf)) f154 (by kernel_rfl) fun a=>by kernel_rfl
def Zpr(F:Nat):LK:=lX (Qe3 F) (lX (Qvi F) (lX (Zym F) lN))
def Qdj(F:Nat)(a:(Zi)×ByteArray):Option ((Z4)×Bool):=
 (Qjb F (a.1.2.2.2.2,a.2)).bind fun(v5:Int)=>bif decide (v5<0)then(some ((({data:=List.toArray (Qb UInt8)},{data:=List.toArray (Qb UInt8)},{data:=List.toArray (Qb UInt8)},(0:Int),(0:Int),(0:Int),(0:Int),{data:=List.toArray (Qb UInt8)},(0:Int),{data:=List.toArray (Qb UInt8)},(0:Int)),false)))else(gd (decide (0≤v5)) (gd (decide (v5<(↑(a.1.2.2.2.2.length):Int))) (gd (decide (v5.toNat<a.1.2.2.2.2.length)) (some (((a.1.2.2.2.2.getD (v5.toNat) Q2),true))))))
def Qz3(F:Nat):PC:={ats:=[.agg Yv,.val (.str)],rts:=[.agg kt5,.val (.bool)],code:=Qdj F}
theorem Qdl(F:Nat):Qg cx 131 (Qz3 F):=qE (Zpr F) .leaf f131 (by kernel_rfl) fun a=>by kernel_rfl
def Zo4:Qi:=⟨[.slot 0 (.agg kt3),.one 0 9 Zr],[(1,.stat (.ptr 0 1 0 0))]⟩
def Zej:Qi:=⟨[.slot 0 (.val (.bool))],[]⟩
def Zzb(F:Nat):LK:=lN
def Zh2(F:Nat):PX:=qX (Zzb F) .leaf f185 (pxB 2 [.arg 1] Zo4 1 Zej [] [])
theorem Qto(F:Nat):Zf cx 185 (Zh2 F):=Qap (by kernel_rfl)
def Zxy:Qi:=⟨[.slot 0 (.val (.seq kt3)),.one 0 9 Zr],[(1,.stat (.fn (.func 185) [] [.ptr 0 1 0 0]))]⟩
def Zg3:Qi:=⟨[.slot 0 (.val (.int .i64))],[]⟩
def Zgg(F:Nat):LK:=lX (Qto F) lN
def Qjc(F:Nat)(a:List (Zx)×ByteArray):Option (Int):=
 (Qq (σ:=Int) (β:=Int ⊕ Unit) (fun(v13:Int)=>bif decide (v13<(↑(a.1.length):Int))then(gd (decide (0≤v13)) (gd (decide (v13<(↑(a.1.length):Int))) (gd (decide (v13.toNat<a.1.length)) (bif Qf (a.1.getD (v13.toNat) Xf).1 a.2 then(some (Sum.inr (Sum.inl v13)))else(some (Sum.inl (w64 (v13+1))))))))else(some (Sum.inr (Sum.inr ())))) F ((0:Int))).bind fun(v10:Int ⊕ Unit)=>Sum.elim (fun(v11:Int)=>some (v11)) (fun(v12:Unit)=>some ((-1:Int))) (v10)
def Zgf(F:Nat):PX:={np:=2,locs:=[.cap (.arg 1) 0],τ:=Zxy,nr:=1,ω:=Zg3,ids:=[],mv:=[],code:=Qjc F}
theorem Qn6(F:Nat):Zf cx 184 (Zgf F):=qXE (Zgg F) (.two .leaf (.two (.two .leaf (.one (.loop ⟨[.slot 8 (.val (.int .i64))],[]⟩ [(.ret,⟨[.slot 4 (.val (.int .i64))],[]⟩),(.exit 0,⟨[],[]⟩)] ⟨[18,8,11,12,13,14,15,16,4,17,5,10,9],[],[]⟩ F .leaf))) .leaf)) f184 (by kernel_rfl) fun a=>by kernel_rfl
def Zyb(F:Nat):LK:=lX (Qto F) (lX (Qn6 F) lN)
def Ww(F:Nat)(a:(Qz)×ByteArray):Option (Int):=
 (Qjc F (a.1.2.1,a.2)).bind fun(v5:Int)=>some (v5)
def Qud(F:Nat):PC:={ats:=Qeh,rts:=Zq,code:=Ww F}
theorem Xe(F:Nat):Qg cx 110 (Qud F):=qE (Zyb F) .leaf f110 (by kernel_rfl) fun a=>by kernel_rfl
def Ztu:Qi:=⟨[.slot 0 (.agg kt9),.one 0 9 Zr,.one 1 9 Zr],[(1,.stat (.ptr 0 1 0 0)),(2,.stat (.ptr 1 1 0 0))]⟩
def Zu1:Qi:=⟨[.slot 0 (.val (.bool))],[]⟩
def Zm5(F:Nat):LK:=lN
def Qmh(F:Nat)(a:(Zh)×ByteArray×ByteArray):Option (Bool):=
 (bif Qf a.1.1 a.2.1 then(some (Qf a.1.2.1 a.2.2))else(some (false))).bind fun(v5:Bool)=>some (v5)
def Zi3(F:Nat):PX:={np:=3,locs:=[.arg 1,.arg 2],τ:=Ztu,nr:=1,ω:=Zu1,ids:=[],mv:=[],code:=Qmh F}
theorem Qsz(F:Nat):Zf cx 226 (Zi3 F):=qXE (Zm5 F) (.two .leaf (.two (.join [(.normal,⟨[.slot 4 (.val (.bool))],[]⟩)] ⟨(4::kD 14 10 []),[],[]⟩ .leaf) .leaf)) f226 (by kernel_rfl) fun a=>by kernel_rfl
def Zvv:Qi:=⟨[.slot 0 (.val (.seq kt9)),.one 0 9 Zr,.one 1 9 Zr],[(1,.stat (.fn (.func 226) [] [.ptr 0 1 0 0,.ptr 1 1 0 0]))]⟩
def Zue:Qi:=⟨[.slot 0 (.val (.int .i64))],[]⟩
def Zpe(F:Nat):LK:=lX (Qsz F) lN
def Qmw(F:Nat)(a:List (Zh)×ByteArray×ByteArray):Option (Int):=
 (Qq (σ:=Int) (β:=Int ⊕ Unit) (fun(v15:Int)=>bif decide (v15<(↑(a.1.length):Int))then(gd (decide (0≤v15)) (gd (decide (v15<(↑(a.1.length):Int))) (gd (decide (v15.toNat<a.1.length)) ((Qmh F ((a.1.getD (v15.toNat) (ByteArray.empty,ByteArray.empty,Qb ByteArray)),a.2.1,a.2.2)).bind fun(v16:Bool)=>bif v16 then(some (Sum.inr (Sum.inl v15)))else(some (Sum.inl (w64 (v15+1))))))))else(some (Sum.inr (Sum.inr ())))) F ((0:Int))).bind fun(v12:Int ⊕ Unit)=>Sum.elim (fun(v13:Int)=>some (v13)) (fun(v14:Unit)=>some ((-1:Int))) (v12)
def Zle(F:Nat):PX:={np:=2,locs:=[.cap (.arg 1) 0,.cap (.arg 1) 1],τ:=Zvv,nr:=1,ω:=Zue,ids:=[],mv:=[],code:=Qmw F}
theorem Qsg(F:Nat):Zf cx 225 (Zle F):=qXE (Zpe F) (.two .leaf (.two (.two .leaf (.one (.loop ⟨[.slot 8 (.val (.int .i64))],[]⟩ [(.ret,⟨[.slot 4 (.val (.int .i64))],[]⟩),(.exit 0,⟨[],[]⟩)] ⟨[18,8,11,12,13,14,15,16,4,17,5,10,9],[],[]⟩ F .leaf))) .leaf)) f225 (by kernel_rfl) fun a=>by kernel_rfl
def Zmy(F:Nat):LK:=lX (Qsz F) (lX (Qsg F) lN)
def Qe4(F:Nat)(a:(Qz)×ByteArray×ByteArray):Option (Int):=
 (Qmw F (a.1.2.2.2.2,a.2.1,a.2.2)).bind fun(v5:Int)=>some (v5)
def Qq1(F:Nat):PC:={ats:=Qhf,rts:=Zq,code:=Qe4 F}
theorem Qlx(F:Nat):Qg cx 187 (Qq1 F):=qE (Zmy F) .leaf f187 (by kernel_rfl) fun a=>by kernel_rfl
def Zxc(F:Nat):LK:=lC (Jc F) lN
def Ue(F:Nat)(a:(Qz)×ByteArray):Option (Bool):=
 (W0 F (a.1.1,a.2)).bind fun(v5:Bool)=>some (v5)
def Zah(F:Nat):PC:={ats:=Qeh,rts:=Yz,code:=Ue F}
theorem Kv(F:Nat):Qg cx 111 (Zah F):=qE (Zxc F) .leaf f111 (by kernel_rfl) fun a=>by kernel_rfl
end
end Go.Proofs.Tryz

/- Functions of the program as functions of data. By program. -/
import Derived.Test.YtpkbmngnolhopaaGreatDoorXTeCx
set_option maxRecDepth 100000
set_option linter.all false
namespace Go.Proofs.Tryz
open Go Go.Sx
noncomputable section
def Zrf(F:Nat):LK:=lN
def c98(F:Nat)(a:ByteArray):Option (Bool):=
 (Qu (σ:=ByteArray×Nat) (β:=(ByteArray×Nat)×Bool ⊕ ByteArray×Nat) (fun(v23:ByteArray×Nat)=>bif decide (v23.2<ByteArray.size v23.1)then(bif decide (97≤(↑(Go.Utf8.decode v23.1 v23.2).1:Int))then(bif decide ((↑(Go.Utf8.decode v23.1 v23.2).1:Int)≤(122:Int))then(some (Sum.inl (v23.1,v23.2+(Go.Utf8.decode v23.1 v23.2).2)))else(bif decide (65≤(↑(Go.Utf8.decode v23.1 v23.2).1:Int))then(bif !decide ((↑(Go.Utf8.decode v23.1 v23.2).1:Int)≤(90:Int))then(bif decide ((↑v23.2:Int)=(0:Int))then(some (Sum.inr (Sum.inl ((v23.1,v23.2+(Go.Utf8.decode v23.1 v23.2).2),false))))else(bif !decide ((↑(Go.Utf8.decode v23.1 v23.2).1:Int)=(95:Int))then(bif decide ((↑(Go.Utf8.decode v23.1 v23.2).1:Int)<(48:Int))then(some (Sum.inr (Sum.inl ((v23.1,v23.2+(Go.Utf8.decode v23.1 v23.2).2),false))))else(bif decide (57<(↑(Go.Utf8.decode v23.1 v23.2).1:Int))then(some (Sum.inr (Sum.inl ((v23.1,v23.2+(Go.Utf8.decode v23.1 v23.2).2),false))))else(some (Sum.inl (v23.1,v23.2+(Go.Utf8.decode v23.1 v23.2).2)))))else(some (Sum.inl (v23.1,v23.2+(Go.Utf8.decode v23.1 v23.2).2)))))else(some (Sum.inl (v23.1,v23.2+(Go.Utf8.decode v23.1 v23.2).2))))else(bif decide ((↑v23.2:Int)=(0:Int))then(some (Sum.inr (Sum.inl ((v23.1,v23.2+(Go.Utf8.decode v23.1 v23.2).2),false))))else(bif !decide ((↑(Go.Utf8.decode v23.1 v23.2).1:Int)=(95:Int))then(bif decide ((↑(Go.Utf8.decode v23.1 v23.2).1:Int)<(48:Int))then(some (Sum.inr (Sum.inl ((v23.1,v23.2+(Go.Utf8.decode v23.1 v23.2).2),false))))else(bif decide (57<(↑(Go.Utf8.decode v23.1 v23.2).1:Int))then(some (Sum.inr (Sum.inl ((v23.1,v23.2+(Go.Utf8.decode v23.1 v23.2).2),false))))else(some (Sum.inl (v23.1,v23.2+(Go.Utf8.decode v23.1 v23.2).2)))))else(some (Sum.inl (v23.1,v23.2+(Go.Utf8.decode v23.1 v23.2).2)))))))else(bif decide (65≤(↑(Go.Utf8.decode v23.1 v23.2).1:Int))then(bif !decide ((↑(Go.Utf8.decode v23.1 v23.2).1:Int)≤(90:Int))then(bif decide ((↑v23.2:Int)=(0:Int))then(some (Sum.inr (Sum.inl ((v23.1,v23.2+(Go.Utf8.decode v23.1 v23.2).2),false))))else(bif !decide ((↑(Go.Utf8.decode v23.1 v23.2).1:Int)=(95:Int))then(bif decide ((↑(Go.Utf8.decode v23.1 v23.2).1:Int)<(48:Int))then(some (Sum.inr (Sum.inl ((v23.1,v23.2+(Go.Utf8.decode v23.1 v23.2).2),false))))else(bif decide (57<(↑(Go.Utf8.decode v23.1 v23.2).1:Int))then(some (Sum.inr (Sum.inl ((v23.1,v23.2+(Go.Utf8.decode v23.1 v23.2).2),false))))else(some (Sum.inl (v23.1,v23.2+(Go.Utf8.decode v23.1 v23.2).2)))))else(some (Sum.inl (v23.1,v23.2+(Go.Utf8.decode v23.1 v23.2).2)))))else(some (Sum.inl (v23.1,v23.2+(Go.Utf8.decode v23.1 v23.2).2))))else(bif decide ((↑v23.2:Int)=(0:Int))then(some (Sum.inr (Sum.inl ((v23.1,v23.2+(Go.Utf8.decode v23.1 v23.2).2),false))))else(bif !decide ((↑(Go.Utf8.decode v23.1 v23.2).1:Int)=(95:Int))then(bif decide ((↑(Go.Utf8.decode v23.1 v23.2).1:Int)<(48:Int))then(some (Sum.inr (Sum.inl ((v23.1,v23.2+(Go.Utf8.decode v23.1 v23.2).2),false))))else(bif decide (57<(↑(Go.Utf8.decode v23.1 v23.2).1:Int))then(some (Sum.inr (Sum.inl ((v23.1,v23.2+(Go.Utf8.decode v23.1 v23.2).2),false))))else(some (Sum.inl (v23.1,v23.2+(Go.Utf8.decode v23.1 v23.2).2)))))else(some (Sum.inl (v23.1,v23.2+(Go.Utf8.decode v23.1 v23.2).2)))))))else(some (Sum.inr (Sum.inr v23)))) F ((a,(0:Nat)))).bind fun(v19:(ByteArray×Nat)×Bool ⊕ ByteArray×Nat)=>Sum.elim (fun(v20:(ByteArray×Nat)×Bool)=>some v20.2) (fun(v21:ByteArray×Nat)=>(bif decide (0<(↑(ByteArray.size a):Int))then(some (decide ((↑(ByteArray.size a):Int)≤(24:Int))))else(some (false))).bind fun(v22:Bool)=>some (v22)) (v19)
def Qkf(F:Nat):PC:={ats:=Uc,rts:=Yz,code:=c98 F}
theorem Qes(F:Nat):Qg cx 98 (Qkf F):=qE (Zrf F) (.two .leaf (.two (.two .leaf (.one (.loop ⟨[.iter 0],[]⟩ [(.ret,⟨[.iter 0,.slot 2 (.val (.bool))],[]⟩),(.exit 0,⟨[.iter 0],[]⟩)] ⟨(kU 12 14 (5::2::kD 43 18 (4::3::11::10::9::8::[]))),[0],[]⟩ F .leaf))) (.two (.join [(.normal,⟨[.slot 2 (.val (.bool))],[]⟩)] ⟨(2::kD 51 8 []),[],[]⟩ .leaf) .leaf))) f98 (by kernel_rfl) fun a=>by kernel_rfl
def Ztm(F:Nat):LK:=lN
def Q1(F:Nat)(a:Bool×Int):Option (Int):=
 bif a.1 then(some a.2)else(some ((0:Int)))
def Qz0(F:Nat):PC:={ats:=Qux,rts:=Zn,code:=Q1 F}
theorem Yf(F:Nat):Qg cx 86 (Qz0 F):=qE (Ztm F) .leaf f86 (by kernel_rfl) fun a=>by kernel_rfl
def Zp8(F:Nat):LK:=lC (Yf F) (lC (Qes F) lN)
def c92(F:Nat)(a:ByteArray):Option (Int):=
 (c98 F a).bind fun(v7:Bool)=>(Q1 F (!v7,(8:Int))).bind fun(v8:Int)=>some (v8)
def Zja(F:Nat):PC:={ats:=Uc,rts:=Zn,code:=c92 F}
theorem Vi(F:Nat):Qg cx 92 (Zja F):=qE (Zp8 F) .leaf f92 (by kernel_rfl) fun a=>by kernel_rfl
def Zs8(F:Nat):LK:=lN
def Qim(F:Nat)(a:Int):Option (Bool):=
 (bif decide (a<0)then(some (true))else(some (decide (99999<a)))).bind fun(v5:Bool)=>some (v5)
def Zix(F:Nat):PC:={ats:=Zn,rts:=Yz,code:=Qim F}
theorem Qra(F:Nat):Qg cx 153 (Zix F):=qE (Zs8 F) (.two .leaf (.two (.join [(.normal,⟨[.slot 2 (.val (.bool))],[]⟩)] ⟨(2::kD 8 6 []),[],[]⟩ .leaf) .leaf)) f153 (by kernel_rfl) fun a=>by kernel_rfl
def Zzl:Qi:=⟨[.slot 0 (.val (.seq kt5))],[(1,.stat (.pv (.lit (.func (.func 153) #[] #[]))))]⟩
def Zpp:Qi:=⟨[.slot 0 (.val (.int .i64))],[]⟩
def Zez(F:Nat):LK:=lC (Qra F) lN
def Qme(F:Nat)(a:List Int):Option (Int):=
 (Qu (σ:=Int) (β:=Int ⊕ Unit) (fun(v15:Int)=>bif decide (v15<(↑(a.length):Int))then(gd (decide (0≤v15)) (gd (decide (v15<(↑(a.length):Int))) (gd (decide (v15.toNat<a.length)) ((Qim F (a.getD (v15.toNat) (0:Int))).bind fun(v16:Bool)=>bif v16 then(some (Sum.inr (Sum.inl v15)))else(some (Sum.inl (w64 (v15+1))))))))else(some (Sum.inr (Sum.inr ())))) F ((0:Int))).bind fun(v12:Int ⊕ Unit)=>Sum.elim (fun(v13:Int)=>some (v13)) (fun(v14:Unit)=>some ((-1:Int))) (v12)
def Zo8(F:Nat):PX:={np:=2,locs:=[],τ:=Zzl,nr:=1,ω:=Zpp,ids:=[],mv:=[],code:=Qme F}
theorem Qw5(F:Nat):Zc cx 209 (Zo8 F):=qXE (Zez F) (.two .leaf (.two (.two .leaf (.one (.loop ⟨[.slot 8 (.val (.int .i64))],[]⟩ [(.ret,⟨[.slot 4 (.val (.int .i64))],[]⟩),(.exit 0,⟨[],[]⟩)] ⟨[18,8,11,12,13,14,15,16,4,17,5,10,9],[],[]⟩ F .leaf))) .leaf)) f209 (by kernel_rfl) fun a=>by kernel_rfl
def Zhw:Qi:=⟨[.slot 0 (.val (.seq kt5))],[(1,.stat (.pv (.lit (.func (.func 153) #[] #[]))))]⟩
def Ztg:Qi:=⟨[.slot 0 (.val (.bool))],[]⟩
def Zpg(F:Nat):LK:=lC (Qra F) (lX (Qw5 F) lN)
def Qm8(F:Nat)(a:List Int):Option (Bool):=
 (Qme F a).bind fun(v5:Int)=>some (decide (0≤v5))
def Zsc(F:Nat):PX:={np:=2,locs:=[],τ:=Zhw,nr:=1,ω:=Ztg,ids:=[],mv:=[],code:=Qm8 F}
theorem Zoo(F:Nat):Zc cx 152 (Zsc F):=qXE (Zpg F) .leaf f152 (by kernel_rfl) fun a=>by kernel_rfl
def Zs3(F:Nat):LK:=lC (Yf F) (lC (Qra F) (lX (Qw5 F) (lX (Zoo F) lN)))
def c85(F:Nat)(a:List Int):Option (Int):=
 (Qm8 F a).bind fun(v7:Bool)=>(Q1 F (v7,(3:Int))).bind fun(v8:Int)=>some (v8)
def Zd3(F:Nat):PC:={ats:=[.val (.seq kt5)],rts:=Zn,code:=c85 F}
theorem Qav(F:Nat):Qg cx 85 (Zd3 F):=qE (Zs3 F) .leaf f85 (by kernel_rfl) fun a=>by kernel_rfl
def Zd8(F:Nat):LK:=lN
def Zm(F:Nat)(a:List Int):Option (Int):=
 (Qu (σ:=Int) (β:=Int ⊕ Unit) (fun(v13:Int)=>bif decide (v13<(↑(a.length):Int))then(gd (decide (0≤v13)) (gd (decide (v13<(↑(a.length):Int))) (gd (decide (v13.toNat<a.length)) (bif !decide (a.getD (v13.toNat) (0:Int)=(0:Int))then(some (Sum.inr (Sum.inl (a.getD (v13.toNat) (0:Int)))))else(some (Sum.inl (w64 (v13+1))))))))else(some (Sum.inr (Sum.inr ())))) F ((0:Int))).bind fun(v10:Int ⊕ Unit)=>Sum.elim (fun(v11:Int)=>some (v11)) (fun(v12:Unit)=>some ((0:Int))) (v10)
def Qxy(F:Nat):PC:={ats:=[.val (.seq kt5)],rts:=Zn,code:=Zm F}
theorem Yl(F:Nat):Qg cx 84 (Qxy F):=qE (Zd8 F) (.two .leaf (.two (.two .leaf (.one (.loop ⟨[.slot 7 (.val (.int .i64))],[]⟩ [(.ret,⟨[.slot 2 (.val (.int .i64))],[]⟩),(.exit 0,⟨[],[]⟩)] ⟨[14,7,11,12,2,13,4,10,9,8],[],[]⟩ F .leaf))) .leaf)) f84 (by kernel_rfl) fun a=>by kernel_rfl
def Zm4(F:Nat):LK:=lC (Yl F) (lC (Yf F) (lC (Qav F) (lC (Vi F) lN)))
def c63(F:Nat)(a:(Zu)×Int):Option (Int×Int):=
 ((c92 F a.1.1).bind fun(v132:Int)=>(tw (X:=Int×Int) (Qw.eqv (Qf.val (Ty.int Go.IntKind.i64)::Qf.val (Ty.int Go.IntKind.i64)::Qb Qf)) ((c85 F (a.1.2.2.1::Qb Int)).bind fun(v145:Int)=>(c85 F (a.2::Qb Int)).bind fun(v146:Int)=>(Q1 F (decide (a.2<a.1.2.2.1),(11:Int))).bind fun(v147:Int)=>(Zm F (v132::v145::v146::v147::Qb Int)).bind fun(v148:Int)=>bif !decide (v148=0)then(some (((0:Int),v148)))else(some ((w64 (Int.tdiv (w64 (a.2-a.1.2.2.1)) (365:Int)),(0:Int)))))).bind fun(v133:Int×Int)=>((c85 F (a.1.2.2.1::Qb Int)).bind fun(v135:Int)=>(c85 F (a.2::Qb Int)).bind fun(v136:Int)=>(Q1 F (decide (a.2<a.1.2.2.1),(11:Int))).bind fun(v137:Int)=>(Zm F (v132::v135::v136::v137::Qb Int)).bind fun(v138:Int)=>bif !decide (v138=0)then(some (((0:Int),v138)))else(some ((w64 (Int.tdiv (w64 (a.2-a.1.2.2.1)) (365:Int)),(0:Int))))).bind fun(v134:Int×Int)=>gd (Qw.eqv (Qf.val (Ty.int Go.IntKind.i64)::Qf.val (Ty.int Go.IntKind.i64)::Qb Qf) v133 v134) (some (v133))).bind fun(v98:Int×Int)=>((((c92 F a.1.1).bind fun(v121:Int)=>tw (X:=Int×Int) (Qw.eqv (Qf.val (Ty.int Go.IntKind.i64)::Qf.val (Ty.int Go.IntKind.i64)::Qb Qf)) ((c85 F (a.1.2.2.1::Qb Int)).bind fun(v128:Int)=>(c85 F (a.2::Qb Int)).bind fun(v129:Int)=>(Q1 F (decide (a.2<a.1.2.2.1),(11:Int))).bind fun(v130:Int)=>(Zm F (v121::v128::v129::v130::Qb Int)).bind fun(v131:Int)=>bif !decide (v131=0)then(some (((0:Int),v131)))else(some ((w64 (Int.tdiv (w64 (a.2-a.1.2.2.1)) (365:Int)),(0:Int)))))).bind fun(v114:Int×Int)=>((c92 F a.1.1).bind fun(v116:Int)=>(c85 F (a.1.2.2.1::Qb Int)).bind fun(v117:Int)=>(c85 F (a.2::Qb Int)).bind fun(v118:Int)=>(Q1 F (decide (a.2<a.1.2.2.1),(11:Int))).bind fun(v119:Int)=>(Zm F (v116::v117::v118::v119::Qb Int)).bind fun(v120:Int)=>bif !decide (v120=0)then(some (((0:Int),v120)))else(some ((w64 (Int.tdiv (w64 (a.2-a.1.2.2.1)) (365:Int)),(0:Int))))).bind fun(v115:Int×Int)=>gd (Qw.eqv (Qf.val (Ty.int Go.IntKind.i64)::Qf.val (Ty.int Go.IntKind.i64)::Qb Qf) v114 v115) (some (v114))).bind fun(v100:Int×Int)=>(tw (X:=Int×Int) (Qw.eqv (Qf.val (Ty.int Go.IntKind.i64)::Qf.val (Ty.int Go.IntKind.i64)::Qb Qf)) ((c92 F a.1.1).bind fun(v109:Int)=>(c85 F (a.1.2.2.1::Qb Int)).bind fun(v110:Int)=>(c85 F (a.2::Qb Int)).bind fun(v111:Int)=>(Q1 F (decide (a.2<a.1.2.2.1),(11:Int))).bind fun(v112:Int)=>(Zm F (v109::v110::v111::v112::Qb Int)).bind fun(v113:Int)=>bif !decide (v113=0)then(some (((0:Int),v113)))else(some ((w64 (Int.tdiv (w64 (a.2-a.1.2.2.1)) (365:Int)),(0:Int)))))).bind fun(v101:Int×Int)=>gd (Qw.eqv (Qf.val (Ty.int Go.IntKind.i64)::Qf.val (Ty.int Go.IntKind.i64)::Qb Qf) v100 v101) (some (v100))).bind fun(v99:Int×Int)=>gd (Qw.eqv (Qf.val (Ty.int Go.IntKind.i64)::Qf.val (Ty.int Go.IntKind.i64)::Qb Qf) v98 v99) (some (v98))
def Qx2(F:Nat):PC:={ats:=[.agg kt3,.val (.int .i64)],rts:=Qlt,code:=c63 F}
theorem Zkf(F:Nat):Qg cx 63 (Qx2 F):=qE (Zm4 F) .leaf f63 (by kernel_rfl) fun a=>by kernel_rfl
def Zp5(F:Nat):LK:=lN
def Zms(F:Nat):PC:=qT (Zp5 F) (.two .leaf (.one (Zg 2 (.two (.two .leaf (.one (.loop ⟨[.slot 7 (.val (.bool)),.slot 12 (.val (.int .i64))],[]⟩ [(.exit 0,⟨[.slot 7 (.val (.bool))],[]⟩)] ⟨(32::12::kU 16 16 (7::9::15::14::13::[])),[],[]⟩ F (Zg 2 (.two (.one (.two .leaf (.two (.two (.join [(.normal,⟨[.slot 31 (.val (.bool))],[]⟩)] ⟨(kD 31 16 []),[],[]⟩ .leaf) .leaf) .leaf))) .leaf))))) .leaf)))) f147 Zqn Yz
theorem Zpj(F:Nat):Qg cx 147 (Zms F):=Xk (by kernel_rfl)
def Zef(F:Nat):LK:=lC (Yl F) (lC (Yf F) (lC (Qav F) lN))
def Qhl(F:Nat)(a:Zt):Option (Int):=
 (c85 F (a.2.1::a.2.2::Qb Int)).bind fun(v9:Int)=>(Q1 F (decide (a.2.2<a.2.1),(11:Int))).bind fun(v10:Int)=>(Zm F (v9::v10::Qb Int)).bind fun(v11:Int)=>some (v11)
def Zxd(F:Nat):PC:={ats:=[.agg kt2],rts:=Zn,code:=Qhl F}
theorem Qgm(F:Nat):Qg cx 114 (Zxd F):=qE (Zef F) .leaf f114 (by kernel_rfl) fun a=>by kernel_rfl
def Zm1(F:Nat):LK:=lC (Yl F) (lC (Qgm F) (lC (Vi F) lN))
def Zfd(F:Nat):PC:=qT (Zm1 F) .leaf f146 [.val (.int .i64),.agg kt2] Zn
theorem Zwb(F:Nat):Qg cx 146 (Zfd F):=Xk (by kernel_rfl)
def Zvl:Qi:=⟨[.slot 0 (.val (.seq kt2))],[(1,.stat (.pv (.lit (.func (.func 146) #[] #[]))))]⟩
def Zjp:Qi:=⟨[.slot 0 (.val (.int .i64))],[]⟩
def Zy2(F:Nat):LK:=lC (Yl F) (lC (Qgm F) (lC (Vi F) (lC (Zwb F) lN)))
def Zr9(F:Nat):PX:=qX (Zy2 F) (.two .leaf (.two (.two .leaf (.one (.loop ⟨[.slot 10 (.val (.int .i64))],[]⟩ [(.ret,⟨[.slot 4 (.val (.int .i64))],[]⟩),(.exit 0,⟨[],[]⟩)] ⟨[22,10,15,16,17,18,7,21,4,20,19,5,6,14,13,12,11],[],[]⟩ F .leaf))) .leaf)) f112 (pxB 2 [] Zvl 1 Zjp [] [])
theorem Zxc(F:Nat):Zc cx 112 (Zr9 F):=Uu (by kernel_rfl)
def Ztw(F:Nat):LK:=lN
def c67(F:Nat)(a:ByteArray):Option (Bool):=
 (bif decide ((↑(ByteArray.size a):Int)<(1:Int))then(some (true))else(some (decide (24<(↑(ByteArray.size a):Int))))).bind fun(v16:Bool)=>bif v16 then(some (false))else((Qu (σ:=Int) (β:=Bool ⊕ Unit) (fun(v20:Int)=>bif decide (v20<(↑(ByteArray.size a):Int))then(gd (decide (0≤v20)) (gd (decide (v20.toNat<ByteArray.size a)) ((bif decide (97≤(↑(BitVec.toFin (UInt8.toBitVec (ByteArray.get! a (v20.toNat)))).1:Int))then(bif decide ((↑(BitVec.toFin (UInt8.toBitVec (ByteArray.get! a (v20.toNat)))).1:Int)≤(122:Int))then(some (true))else(bif decide (65≤(↑(BitVec.toFin (UInt8.toBitVec (ByteArray.get! a (v20.toNat)))).1:Int))then(some (decide ((↑(BitVec.toFin (UInt8.toBitVec (ByteArray.get! a (v20.toNat)))).1:Int)≤(90:Int))))else(some (false))))else(bif decide (65≤(↑(BitVec.toFin (UInt8.toBitVec (ByteArray.get! a (v20.toNat)))).1:Int))then(some (decide ((↑(BitVec.toFin (UInt8.toBitVec (ByteArray.get! a (v20.toNat)))).1:Int)≤(90:Int))))else(some (false)))).bind fun(v21:Bool)=>(bif !v21 then(bif decide (v20=0)then(some (true))else(bif decide (48≤(↑(BitVec.toFin (UInt8.toBitVec (ByteArray.get! a (v20.toNat)))).1:Int))then(bif decide ((↑(BitVec.toFin (UInt8.toBitVec (ByteArray.get! a (v20.toNat)))).1:Int)≤(57:Int))then(some (!true))else(some (!decide ((↑(BitVec.toFin (UInt8.toBitVec (ByteArray.get! a (v20.toNat)))).1:Int)=(95:Int)))))else(some (!decide ((↑(BitVec.toFin (UInt8.toBitVec (ByteArray.get! a (v20.toNat)))).1:Int)=(95:Int))))))else(some (false))).bind fun(v22:Bool)=>bif v22 then(some (Sum.inr (Sum.inl false)))else(some (Sum.inl (w64 (v20+1)))))))else(some (Sum.inr (Sum.inr ())))) F ((0:Int))).bind fun(v17:Bool ⊕ Unit)=>Sum.elim (fun(v18:Bool)=>some (v18)) (fun(v19:Unit)=>some (true)) (v17))
def Zor(F:Nat):PC:={ats:=Uc,rts:=Yz,code:=c67 F}
theorem Qk9(F:Nat):Qg cx 67 (Zor F):=qE (Ztw F) (.two .leaf (.two (.two (.join [(.normal,⟨[.slot 13 (.val (.bool))],[]⟩)] ⟨(kD 13 8 []),[],[]⟩ .leaf) .leaf) (.two (.two .leaf (.one (.loop ⟨[.slot 3 (.val (.int .i64))],[]⟩ [(.ret,⟨[.slot 2 (.val (.bool))],[]⟩),(.exit 0,⟨[],[]⟩)] ⟨(20::21::22::4::kU 37 19 (2::5::kD 36 14 (3::kD 19 6 []))),[],[]⟩ F (.two .leaf (.two (.one (.two .leaf (.two (.join [(.normal,⟨[.slot 5 (.val (.bool))],[]⟩)] ⟨(5::kD 36 14 []),[],[]⟩ .leaf) (.two (.join [(.normal,⟨[.slot 55 (.val (.bool))],[]⟩)] ⟨(kD 55 19 []),[],[]⟩ .leaf) .leaf)))) .leaf))))) .leaf))) f67 (by kernel_rfl) fun a=>by kernel_rfl
def Zru(F:Nat):LK:=lN
def c94(F:Nat)(a:Int×Int):Option (Bool):=
 (bif decide (a.1<0)then(some (true))else(some (decide (a.2<a.1)))).bind fun(v5:Bool)=>some (v5)
def Zly(F:Nat):PC:={ats:=Qlt,rts:=Yz,code:=c94 F}
theorem Qgy(F:Nat):Qg cx 94 (Zly F):=qE (Zru F) (.two .leaf (.two (.join [(.normal,⟨[.slot 4 (.val (.bool))],[]⟩)] ⟨(4::kD 11 7 []),[],[]⟩ .leaf) .leaf)) f94 (by kernel_rfl) fun a=>by kernel_rfl
def Znt(F:Nat):LK:=lN
def c44(F:Nat)(a:List ByteArray×List ByteArray):Option (Bool):=
 bif !decide ((↑(a.1.length):Int)=(↑(a.2.length):Int))then(some (false))else((Qu (σ:=Int) (β:=Bool ⊕ Unit) (fun(v13:Int)=>bif decide (v13<(↑(a.1.length):Int))then(gd (decide (0≤v13)) (gd (decide (v13<(↑(a.1.length):Int))) (gd (decide (v13.toNat<a.1.length)) (gd (decide (0≤v13)) (gd (decide (v13<(↑(a.2.length):Int))) (gd (decide (v13.toNat<a.2.length)) (bif !Qe (a.1.getD (v13.toNat) ByteArray.empty) (a.2.getD (v13.toNat) ByteArray.empty)then(some (Sum.inr (Sum.inl false)))else(some (Sum.inl (w64 (v13+1)))))))))))else(some (Sum.inr (Sum.inr ())))) F ((0:Int))).bind fun(v10:Bool ⊕ Unit)=>Sum.elim (fun(v11:Bool)=>some (v11)) (fun(v12:Unit)=>some (true)) (v10))
def Qyv(F:Nat):PC:={ats:=[.val (.seq Zq),.val (.seq Zq)],rts:=Yz,code:=c44 F}
theorem Zve(F:Nat):Qg cx 44 (Qyv F):=qE (Znt F) (Zg 2 (.two (.two .leaf (.one (.loop ⟨[.slot 5 (.val (.int .i64))],[]⟩ [(.ret,⟨[.slot 4 (.val (.bool))],[]⟩),(.exit 0,⟨[],[]⟩)] ⟨(kU 17 9 (4::5::kD 16 6 [])),[],[]⟩ F .leaf))) .leaf)) f44 (by kernel_rfl) fun a=>by kernel_rfl
def Zoi(F:Nat):LK:=lN
def c45(F:Nat)(a:List Int×List Int):Option (Bool):=
 bif !decide ((↑(a.1.length):Int)=(↑(a.2.length):Int))then(some (false))else((Qu (σ:=Int) (β:=Bool ⊕ Unit) (fun(v13:Int)=>bif decide (v13<(↑(a.1.length):Int))then(gd (decide (0≤v13)) (gd (decide (v13<(↑(a.1.length):Int))) (gd (decide (v13.toNat<a.1.length)) (gd (decide (0≤v13)) (gd (decide (v13<(↑(a.2.length):Int))) (gd (decide (v13.toNat<a.2.length)) (bif !decide (a.1.getD (v13.toNat) (0:Int)=a.2.getD (v13.toNat) (0:Int))then(some (Sum.inr (Sum.inl false)))else(some (Sum.inl (w64 (v13+1)))))))))))else(some (Sum.inr (Sum.inr ())))) F ((0:Int))).bind fun(v10:Bool ⊕ Unit)=>Sum.elim (fun(v11:Bool)=>some (v11)) (fun(v12:Unit)=>some (true)) (v10))
def Qvv(F:Nat):PC:={ats:=[.val (.seq kt5),.val (.seq kt5)],rts:=Yz,code:=c45 F}
theorem Zkv(F:Nat):Qg cx 45 (Qvv F):=qE (Zoi F) (Zg 2 (.two (.two .leaf (.one (.loop ⟨[.slot 5 (.val (.int .i64))],[]⟩ [(.ret,⟨[.slot 4 (.val (.bool))],[]⟩),(.exit 0,⟨[],[]⟩)] ⟨(kU 17 9 (4::5::kD 16 6 [])),[],[]⟩ F .leaf))) .leaf)) f45 (by kernel_rfl) fun a=>by kernel_rfl
def Zsz(F:Nat):LK:=lN
def c47(F:Nat)(a:(Zd)×ByteArray):Option (Int):=
 (Qu (σ:=Int) (β:=Int ⊕ Unit) (fun(v13:Int)=>bif decide (v13<(↑(a.1.2.2.2.2.length):Int))then(gd (decide (0≤v13)) (gd (decide (v13<(↑(a.1.2.2.2.2.length):Int))) (gd (decide (v13.toNat<a.1.2.2.2.2.length)) (bif Qe (a.1.2.2.2.2.getD (v13.toNat) Q2).1 a.2 then(some (Sum.inr (Sum.inl v13)))else(some (Sum.inl (w64 (v13+1))))))))else(some (Sum.inr (Sum.inr ())))) F ((0:Int))).bind fun(v10:Int ⊕ Unit)=>Sum.elim (fun(v11:Int)=>some (v11)) (fun(v12:Unit)=>some ((-1:Int))) (v10)
def Zir(F:Nat):PC:={ats:=[.agg Yx,.val (.str)],rts:=Zn,code:=c47 F}
theorem Qi8(F:Nat):Qg cx 47 (Zir F):=qE (Zsz F) (.two .leaf (.two (.two .leaf (.one (.loop ⟨[.slot 5 (.val (.int .i64))],[]⟩ [(.ret,⟨[.slot 4 (.val (.int .i64))],[]⟩),(.exit 0,⟨[],[]⟩)] ⟨(kU 13 8 (4::21::5::kD 12 7 [])),[],[]⟩ F .leaf))) .leaf)) f47 (by kernel_rfl) fun a=>by kernel_rfl
def Zww(F:Nat):LK:=lN
def Qmg(F:Nat)(a:ByteArray):Option (Bool):=
 (bif Qe a {data:=List.toArray (68::78::83::Qb UInt8)}then(some (true))else(bif Qe a {data:=List.toArray (68::78::70::Qb UInt8)}then(some (true))else(bif Qe a {data:=List.toArray (68::81::Qb UInt8)}then(some (true))else(some (Qe a {data:=List.toArray (78::77::Qb UInt8)}))))).bind fun(v5:Bool)=>some (v5)
def Ztf(F:Nat):PC:={ats:=Uc,rts:=Yz,code:=Qmg F}
theorem Zl5(F:Nat):Qg cx 210 (Ztf F):=qE (Zww F) (.two .leaf (.two (.join [(.normal,⟨[.slot 2 (.val (.bool))],[]⟩)] ⟨(2::kD 16 14 []),[],[]⟩ .leaf) .leaf)) f210 (by kernel_rfl) fun a=>by kernel_rfl
def Zyl(F:Nat):LK:=lN
def Qn7(F:Nat)(a:ByteArray):Option (Int):=
 bif Qe a {data:=List.toArray (116::105::109::101::Qb UInt8)}then(some ((863999999:Int)))else(bif Qe a {data:=List.toArray (108::101::110::103::116::104::Qb UInt8)}then(some ((999999:Int)))else(some ((99999:Int))))
def Zc5(F:Nat):PC:={ats:=Uc,rts:=Zn,code:=Qn7 F}
theorem Zup(F:Nat):Qg cx 212 (Zc5 F):=qE (Zyl F) .leaf f212 (by kernel_rfl) fun a=>by kernel_rfl
def Zej(F:Nat):LK:=lN
def Qox(F:Nat)(a:ByteArray):Option (Int):=
 bif Qe a {data:=List.toArray (116::105::109::101::Qb UInt8)}then(some ((1:Int)))else(some ((0:Int)))
def Zjz(F:Nat):PC:={ats:=Uc,rts:=Zn,code:=Qox F}
theorem Ztz(F:Nat):Qg cx 211 (Zjz F):=qE (Zej F) .leaf f211 (by kernel_rfl) fun a=>by kernel_rfl
def Zpf(F:Nat):LK:=lC (Ztz F) (lC (Zup F) (lC (Zl5 F) lN))
def Qeo(F:Nat)(a:ByteArray×Int×ByteArray):Option (Int):=
 bif Qe a.1 {data:=List.toArray (110::111::110::101::Qb UInt8)}then((Qmg F a.2.2).bind fun(v18:Bool)=>bif !v18 then(some ((1:Int)))else(bif !decide (a.2.1=0)then(some ((3:Int)))else(some ((0:Int)))))else((bif Qe a.1 {data:=List.toArray (116::105::109::101::Qb UInt8)}then(some (Qe a.1 {data:=List.toArray (116::105::109::101::Qb UInt8)}))else((bif Qe a.1 {data:=List.toArray (108::101::110::103::116::104::Qb UInt8)}then(some (Qe a.1 {data:=List.toArray (108::101::110::103::116::104::Qb UInt8)}))else(some (Qe a.1 {data:=List.toArray (112::111::105::110::116::115::Qb UInt8)}))).bind fun(v23:Bool)=>some (v23))).bind fun(v19:Bool)=>bif v19 then(bif !Qe a.2.2 {data:=List.toArray (Qb UInt8)}then(some ((1:Int)))else(((Qox F a.1).bind fun(v21:Int)=>bif decide (a.2.1<v21)then(some (true))else((Qn7 F a.1).bind fun(v22:Int)=>some (decide (v22<a.2.1)))).bind fun(v20:Bool)=>bif v20 then(some ((3:Int)))else(some ((0:Int)))))else(some ((13:Int))))
def Zpw(F:Nat):PC:={ats:=[.agg kt6],rts:=Zn,code:=Qeo F}
theorem Qvm(F:Nat):Qg cx 156 (Zpw F):=qE (Zpf F) (.two .leaf (.two (.two .leaf (.one (Zg 2 (.two (.two .leaf (.join [(.normal,⟨[.slot 14 (.val (.bool))],[]⟩)] ⟨[16,14,17],[],[]⟩ (Zg 2 (.join [(.normal,⟨[.slot 14 (.val (.bool))],[]⟩)] ⟨[17,14],[],[]⟩ .leaf)))) (.two (.two .leaf (.two (.two (.join [(.normal,⟨[.slot 34 (.val (.bool))],[]⟩)] ⟨(kD 34 14 []),[],[]⟩ .leaf) .leaf) .leaf)) .leaf))))) .leaf)) f156 (by kernel_rfl) fun a=>by kernel_rfl
def Zie(F:Nat):LK:=lN
def Qgg(F:Nat)(a:(ByteArray×Int×ByteArray)×ByteArray):Option (Bool):=
 (bif Qe a.1.1 a.2 then(some (true))else(some (Qe a.1.1 {data:=List.toArray (110::111::110::101::Qb UInt8)}))).bind fun(v5:Bool)=>some (v5)
def Zpk(F:Nat):PC:={ats:=[.agg kt6,.val (.str)],rts:=Yz,code:=Qgg F}
theorem Qzx(F:Nat):Qg cx 157 (Zpk F):=qE (Zie F) (.two .leaf (.two (.join [(.normal,⟨[.slot 4 (.val (.bool))],[]⟩)] ⟨(4::kD 13 9 []),[],[]⟩ .leaf) .leaf)) f157 (by kernel_rfl) fun a=>by kernel_rfl
def Zf0(F:Nat):LK:=lC (Qk9 F) (lC (Qgy F) (lC (Qzx F) (lC (Qvm F) (lC (Qi8 F) lN))))
def c95(F:Nat)(a:(Zd)×Int):Option (Int):=
 gd (decide (0≤a.2)) (gd (decide (a.2<(↑(a.1.2.2.2.2.length):Int))) (gd (decide (a.2.toNat<a.1.2.2.2.2.length)) ((c67 F (a.1.2.2.2.2.getD (a.2.toNat) Q2).1).bind fun(v42:Bool)=>bif !v42 then(some ((8:Int)))else((c47 F (a.1,(a.1.2.2.2.2.getD (a.2.toNat) Q2).1)).bind fun(v43:Int)=>bif decide (v43<a.2)then(some ((9:Int)))else((bif !Qe (a.1.2.2.2.2.getD (a.2.toNat) Q2).2.1 {data:=List.toArray (116::105::109::101::Qb UInt8)}then(bif !Qe (a.1.2.2.2.2.getD (a.2.toNat) Q2).2.1 {data:=List.toArray (108::101::110::103::116::104::Qb UInt8)}then(some (!Qe (a.1.2.2.2.2.getD (a.2.toNat) Q2).2.1 {data:=List.toArray (112::111::105::110::116::115::Qb UInt8)}))else(some (false)))else(some (false))).bind fun(v44:Bool)=>bif v44 then(some ((13:Int)))else((bif !Qe (a.1.2.2.2.2.getD (a.2.toNat) Q2).2.2.1 {data:=List.toArray (Qb UInt8)}then((c67 F (a.1.2.2.2.2.getD (a.2.toNat) Q2).2.2.1).bind fun(v57:Bool)=>some (!v57))else(some (false))).bind fun(v45:Bool)=>bif v45 then(some ((8:Int)))else(((c94 F ((a.1.2.2.2.2.getD (a.2.toNat) Q2).2.2.2.1,(120:Int))).bind fun(v55:Bool)=>bif v55 then(some (true))else((c94 F ((a.1.2.2.2.2.getD (a.2.toNat) Q2).2.2.2.2.1,(120:Int))).bind fun(v56:Bool)=>some (v56))).bind fun(v46:Bool)=>bif v46 then(some ((3:Int)))else(bif decide ((a.1.2.2.2.2.getD (a.2.toNat) Q2).2.2.2.2.1<(a.1.2.2.2.2.getD (a.2.toNat) Q2).2.2.2.1)then(some ((11:Int)))else(((c94 F ((a.1.2.2.2.2.getD (a.2.toNat) Q2).2.2.2.2.2.1,(160:Int))).bind fun(v52:Bool)=>bif v52 then(some (true))else((c94 F ((a.1.2.2.2.2.getD (a.2.toNat) Q2).2.2.2.2.2.2.1,(160:Int))).bind fun(v53:Bool)=>bif v53 then(some (true))else((c94 F ((a.1.2.2.2.2.getD (a.2.toNat) Q2).2.2.2.2.2.2.2.2.2.2,(8:Int))).bind fun(v54:Bool)=>some (v54)))).bind fun(v47:Bool)=>bif v47 then(some ((3:Int)))else((Qeo F ((a.1.2.2.2.2.getD (a.2.toNat) Q2).2.2.2.2.2.2.2.1,(a.1.2.2.2.2.getD (a.2.toNat) Q2).2.2.2.2.2.2.2.2.1,(a.1.2.2.2.2.getD (a.2.toNat) Q2).2.2.2.2.2.2.2.2.2.1)).bind fun(v48:Int)=>(bif decide (v48=0)then((Qgg F (((a.1.2.2.2.2.getD (a.2.toNat) Q2).2.2.2.2.2.2.2.1,(a.1.2.2.2.2.getD (a.2.toNat) Q2).2.2.2.2.2.2.2.2.1,(a.1.2.2.2.2.getD (a.2.toNat) Q2).2.2.2.2.2.2.2.2.2.1),(a.1.2.2.2.2.getD (a.2.toNat) Q2).2.1)).bind fun(v51:Bool)=>some (!v51))else(some (false))).bind fun(v49:Bool)=>(bif v49 then(some ((13:Int)))else(some (v48))).bind fun(v50:Int)=>some (v50)))))))))))
def Zd1(F:Nat):PC:={ats:=[.agg Yx,.val (.int .i64)],rts:=Zn,code:=c95 F}
theorem Zmv(F:Nat):Qg cx 95 (Zd1 F):=qE (Zf0 F) (Zg 4 (.two (.two (.join [(.normal,⟨[.slot 34 (.val (.bool))],[]⟩)] ⟨(kD 34 13 []),[],[]⟩ .leaf) .leaf) (.two (.two (.join [(.normal,⟨[.slot 43 (.val (.bool))],[]⟩)] ⟨(kD 43 9 []),[],[]⟩ .leaf) .leaf) (.two (.two (.join [(.normal,⟨[.slot 51 (.val (.bool))],[]⟩)] ⟨(kD 51 8 []),[],[]⟩ .leaf) .leaf) (.two .leaf (.two (.two (.join [(.normal,⟨[.slot 69 (.val (.bool))],[]⟩)] ⟨(kD 69 13 []),[],[]⟩ .leaf) .leaf) (.two .leaf (.two (.two (.join [(.normal,⟨[.slot 82 (.val (.bool))],[]⟩)] ⟨(kD 82 10 []),[],[]⟩ .leaf) (.join [(.normal,⟨[.slot 6 (.val (.int .i64))],[]⟩)] ⟨[6],[],[]⟩ .leaf)) .leaf)))))))) f95 (by kernel_rfl) fun a=>by kernel_rfl
def Zpq(F:Nat):LK:=lC (Zmv F) (lC (Qgy F) lN)
def c22(F:Nat)(a:Zd):Option (Int):=
 ((c94 F (a.1,(99999:Int))).bind fun(v35:Bool)=>bif v35 then(some (true))else((c94 F (a.2.1,(99999:Int))).bind fun(v36:Bool)=>bif v36 then(some (true))else((c94 F (a.2.2.1,(99999:Int))).bind fun(v37:Bool)=>some (v37)))).bind fun(v27:Bool)=>bif v27 then(some ((3:Int)))else((bif decide (a.2.2.1<a.2.1)then(some (true))else(some (decide (a.1<a.2.2.1)))).bind fun(v28:Bool)=>bif v28 then(some ((11:Int)))else((c94 F (a.2.2.2.1,(32:Int))).bind fun(v29:Bool)=>bif v29 then(some ((3:Int)))else(bif decide (32<(↑(a.2.2.2.2.length):Int))then(some ((5:Int)))else((Qu (σ:=Int) (β:=Int ⊕ Unit) (fun(v33:Int)=>bif decide (v33<(↑(a.2.2.2.2.length):Int))then((c95 F (a,v33)).bind fun(v34:Int)=>bif !decide (v34=0)then(some (Sum.inr (Sum.inl v34)))else(some (Sum.inl (w64 (v33+1)))))else(some (Sum.inr (Sum.inr ())))) F ((0:Int))).bind fun(v30:Int ⊕ Unit)=>Sum.elim (fun(v31:Int)=>some (v31)) (fun(v32:Unit)=>some ((0:Int))) (v30)))))
def Zu1(F:Nat):PC:={ats:=[.agg Yx],rts:=Zn,code:=c22 F}
theorem Zfj(F:Nat):Qg cx 22 (Zu1 F):=qE (Zpq F) (.two .leaf (.two (.two (.join [(.normal,⟨[.slot 17 (.val (.bool))],[]⟩)] ⟨(kD 17 13 []),[],[]⟩ .leaf) .leaf) (.two (.two (.join [(.normal,⟨[.slot 29 (.val (.bool))],[]⟩)] ⟨(kD 29 12 []),[],[]⟩ .leaf) .leaf) (Zg 2 (.two (.two .leaf (.one (.loop ⟨[.slot 3 (.val (.int .i64))],[]⟩ [(.ret,⟨[.slot 2 (.val (.int .i64))],[]⟩),(.exit 0,⟨[],[]⟩)] ⟨(44::45::46::4::49::2::48::47::3::kD 43 7 []),[],[]⟩ F .leaf))) .leaf))))) f22 (by kernel_rfl) fun a=>by kernel_rfl
def Zri(F:Nat):LK:=lC (Qk9 F) lN
def Qj3(F:Nat)(a:ByteArray):Option (Int):=
 (c67 F a).bind fun(v5:Bool)=>bif !v5 then(some ((8:Int)))else(some ((0:Int)))
def Zyy(F:Nat):PC:={ats:=Uc,rts:=Zn,code:=Qj3 F}
theorem Zxt(F:Nat):Qg cx 180 (Zyy F):=qE (Zri F) .leaf f180 (by kernel_rfl) fun a=>by kernel_rfl
def Zq6(F:Nat):LK:=lC (Qgy F) lN
def Qj7(F:Nat)(a:Int):Option (Int):=
 (c94 F (a,(99999:Int))).bind fun(v5:Bool)=>bif v5 then(some ((3:Int)))else(some ((0:Int)))
def Zo2(F:Nat):PC:={ats:=Zn,rts:=Zn,code:=Qj7 F}
theorem Zg8(F:Nat):Qg cx 181 (Zo2 F):=qE (Zq6 F) .leaf f181 (by kernel_rfl) fun a=>by kernel_rfl
def Zfg(F:Nat):LK:=lN
def c40(F:Nat)(a:(Qz)×ByteArray):Option (Int):=
 (Qu (σ:=Int) (β:=Int ⊕ Unit) (fun(v13:Int)=>bif decide (v13<(↑(a.1.2.1.length):Int))then(gd (decide (0≤v13)) (gd (decide (v13<(↑(a.1.2.1.length):Int))) (gd (decide (v13.toNat<a.1.2.1.length)) (bif Qe (a.1.2.1.getD (v13.toNat) Xf).1 a.2 then(some (Sum.inr (Sum.inl v13)))else(some (Sum.inl (w64 (v13+1))))))))else(some (Sum.inr (Sum.inr ())))) F ((0:Int))).bind fun(v10:Int ⊕ Unit)=>Sum.elim (fun(v11:Int)=>some (v11)) (fun(v12:Unit)=>some ((-1:Int))) (v10)
def Zwy(F:Nat):PC:={ats:=Qed,rts:=Zn,code:=c40 F}
theorem Qhk(F:Nat):Qg cx 40 (Zwy F):=qE (Zfg F) (.two .leaf (.two (.two .leaf (.one (.loop ⟨[.slot 5 (.val (.int .i64))],[]⟩ [(.ret,⟨[.slot 4 (.val (.int .i64))],[]⟩),(.exit 0,⟨[],[]⟩)] ⟨(kU 13 8 (4::21::5::kD 12 7 [])),[],[]⟩ F .leaf))) .leaf)) f40 (by kernel_rfl) fun a=>by kernel_rfl
def Zyn(F:Nat):LK:=lN
def c53(F:Nat)(a:(Qz)×ByteArray×ByteArray):Option (Int):=
 (Qu (σ:=Int) (β:=Int ⊕ Unit) (fun(v15:Int)=>bif decide (v15<(↑(a.1.2.2.2.1.length):Int))then((gd (decide (0≤v15)) (gd (decide (v15<(↑(a.1.2.2.2.1.length):Int))) (gd (decide (v15.toNat<a.1.2.2.2.1.length)) (bif Qe (a.1.2.2.2.1.getD (v15.toNat) Q5).1 a.2.1 then(gd (decide (0≤v15)) (gd (decide (v15<(↑(a.1.2.2.2.1.length):Int))) (gd (decide (v15.toNat<a.1.2.2.2.1.length)) (some (Qe (a.1.2.2.2.1.getD (v15.toNat) Q5).2.1 a.2.2)))))else(some (false)))))).bind fun(v16:Bool)=>bif v16 then(some (Sum.inr (Sum.inl v15)))else(some (Sum.inl (w64 (v15+1)))))else(some (Sum.inr (Sum.inr ())))) F ((0:Int))).bind fun(v12:Int ⊕ Unit)=>Sum.elim (fun(v13:Int)=>some (v13)) (fun(v14:Unit)=>some ((-1:Int))) (v12)
def Zn5(F:Nat):PC:={ats:=Qhd,rts:=Zn,code:=c53 F}
theorem Zd4(F:Nat):Qg cx 53 (Zn5 F):=qE (Zyn F) (.two .leaf (.two (.two .leaf (.one (.loop ⟨[.slot 7 (.val (.int .i64))],[]⟩ [(.ret,⟨[.slot 6 (.val (.int .i64))],[]⟩),(.exit 0,⟨[],[]⟩)] ⟨(kU 15 18 (6::33::7::kD 14 7 [])),[],[]⟩ F (.two .leaf (.two (.one (.two (.join [(.normal,⟨[.slot 32 (.val (.bool))],[]⟩)] ⟨(kD 32 18 []),[],[]⟩ .leaf) .leaf)) .leaf))))) .leaf)) f53 (by kernel_rfl) fun a=>by kernel_rfl
def Zos(F:Nat):LK:=lC (Qi8 F) (lC (Qvm F) (lC (Zg8 F) (lC (Qzx F) (lC (Zd4 F) (lC (Qhk F) lN)))))
def Qjq(F:Nat)(a:(Qz)×(Zd)×Int):Option (Int):=
 gd (decide (0≤a.2.2)) (gd (decide (a.2.2<(↑(a.1.2.2.2.1.length):Int))) (gd (decide (a.2.2.toNat<a.1.2.2.2.1.length)) ((c47 F (a.2.1,(a.1.2.2.2.1.getD (a.2.2.toNat) Q5).2.1)).bind fun(v26:Int)=>((c40 F (a.1,(a.1.2.2.2.1.getD (a.2.2.toNat) Q5).1)).bind fun(v35:Int)=>bif decide (v35<0)then(some (true))else(some (decide (v26<0)))).bind fun(v27:Bool)=>bif v27 then(some ((10:Int)))else(gd (decide (0≤v26)) (gd (decide (v26<(↑(a.2.1.2.2.2.2.length):Int))) (gd (decide (v26.toNat<a.2.1.2.2.2.2.length)) (bif decide (0<(a.2.1.2.2.2.2.getD (v26.toNat) Q2).2.2.2.2.2.2.2.2.2.2)then(some ((13:Int)))else((c53 F (a.1,(a.1.2.2.2.1.getD (a.2.2.toNat) Q5).1,(a.1.2.2.2.1.getD (a.2.2.toNat) Q5).2.1)).bind fun(v28:Int)=>bif decide (v28<a.2.2)then(some ((9:Int)))else((Qeo F ((a.1.2.2.2.1.getD (a.2.2.toNat) Q5).2.2.1,(a.1.2.2.2.1.getD (a.2.2.toNat) Q5).2.2.2.1,(a.1.2.2.2.1.getD (a.2.2.toNat) Q5).2.2.2.2.1)).bind fun(v29:Int)=>(bif decide (v29=0)then(gd (decide (0≤v26)) (gd (decide (v26<(↑(a.2.1.2.2.2.2.length):Int))) (gd (decide (v26.toNat<a.2.1.2.2.2.2.length)) ((Qgg F (((a.1.2.2.2.1.getD (a.2.2.toNat) Q5).2.2.1,(a.1.2.2.2.1.getD (a.2.2.toNat) Q5).2.2.2.1,(a.1.2.2.2.1.getD (a.2.2.toNat) Q5).2.2.2.2.1),(a.2.1.2.2.2.2.getD (v26.toNat) Q2).2.1)).bind fun(v34:Bool)=>some (!v34)))))else(some (false))).bind fun(v30:Bool)=>(bif v30 then(some ((13:Int)))else(some (v29))).bind fun(v31:Int)=>(bif decide (v31=0)then((Qj7 F (a.1.2.2.2.1.getD (a.2.2.toNat) Q5).2.2.2.2.2.1).bind fun(v33:Int)=>some (v33))else(some (v31))).bind fun(v32:Int)=>some (v32))))))))))
def Zk5(F:Nat):PC:={ats:=[.agg Ym,.agg Yx,.val (.int .i64)],rts:=Zn,code:=Qjq F}
theorem Ztb(F:Nat):Qg cx 122 (Zk5 F):=qE (Zos F) (Zg 3 (.two (.two (.join [(.normal,⟨[.slot 27 (.val (.bool))],[]⟩)] ⟨(kD 27 9 []),[],[]⟩ .leaf) .leaf) (Zg 3 (.two (.two (.join [(.normal,⟨[.slot 59 (.val (.bool))],[]⟩)] ⟨(kD 59 14 []),[],[]⟩ .leaf) (.join [(.normal,⟨[.slot 9 (.val (.int .i64))],[]⟩)] ⟨[9],[],[]⟩ .leaf)) (.two (.two .leaf (.join [(.normal,⟨[.slot 9 (.val (.int .i64))],[]⟩)] ⟨[9,64,63,62],[],[]⟩ .leaf)) .leaf))))) f122 (by kernel_rfl) fun a=>by kernel_rfl
def Zh8(F:Nat):LK:=lN
def c54(F:Nat)(a:List ByteArray×ByteArray):Option (Bool):=
 (Qu (σ:=Int) (β:=Bool ⊕ Unit) (fun(v13:Int)=>bif decide (v13<(↑(a.1.length):Int))then(gd (decide (0≤v13)) (gd (decide (v13<(↑(a.1.length):Int))) (gd (decide (v13.toNat<a.1.length)) (bif Qe (a.1.getD (v13.toNat) ByteArray.empty) a.2 then(some (Sum.inr (Sum.inl true)))else(some (Sum.inl (w64 (v13+1))))))))else(some (Sum.inr (Sum.inr ())))) F ((0:Int))).bind fun(v10:Bool ⊕ Unit)=>Sum.elim (fun(v11:Bool)=>some (v11)) (fun(v12:Unit)=>some (false)) (v10)
def Zwz(F:Nat):PC:={ats:=Qmi,rts:=Yz,code:=c54 F}
theorem Qm1(F:Nat):Qg cx 54 (Zwz F):=qE (Zh8 F) (.two .leaf (.two (.two .leaf (.one (.loop ⟨[.slot 5 (.val (.int .i64))],[]⟩ [(.ret,⟨[.slot 4 (.val (.bool))],[]⟩),(.exit 0,⟨[],[]⟩)] ⟨(kU 12 6 (4::5::kD 11 6 [])),[],[]⟩ F .leaf))) .leaf)) f54 (by kernel_rfl) fun a=>by kernel_rfl
def Zlg(F:Nat):LK:=lN
def Qj1(F:Nat)(a:(Qz)×ByteArray×ByteArray):Option (Int):=
 (Qu (σ:=Int) (β:=Int ⊕ Unit) (fun(v15:Int)=>bif decide (v15<(↑(a.1.2.2.2.2.length):Int))then((gd (decide (0≤v15)) (gd (decide (v15<(↑(a.1.2.2.2.2.length):Int))) (gd (decide (v15.toNat<a.1.2.2.2.2.length)) (bif Qe (a.1.2.2.2.2.getD (v15.toNat) (ByteArray.empty,ByteArray.empty,Qb ByteArray)).1 a.2.1 then(gd (decide (0≤v15)) (gd (decide (v15<(↑(a.1.2.2.2.2.length):Int))) (gd (decide (v15.toNat<a.1.2.2.2.2.length)) (some (Qe (a.1.2.2.2.2.getD (v15.toNat) (ByteArray.empty,ByteArray.empty,Qb ByteArray)).2.1 a.2.2)))))else(some (false)))))).bind fun(v16:Bool)=>bif v16 then(some (Sum.inr (Sum.inl v15)))else(some (Sum.inl (w64 (v15+1)))))else(some (Sum.inr (Sum.inr ())))) F ((0:Int))).bind fun(v12:Int ⊕ Unit)=>Sum.elim (fun(v13:Int)=>some (v13)) (fun(v14:Unit)=>some ((-1:Int))) (v12)
def Zif(F:Nat):PC:={ats:=Qhd,rts:=Zn,code:=Qj1 F}
theorem Zlf(F:Nat):Qg cx 145 (Zif F):=qE (Zlg F) (.two .leaf (.two (.two .leaf (.one (.loop ⟨[.slot 7 (.val (.int .i64))],[]⟩ [(.ret,⟨[.slot 6 (.val (.int .i64))],[]⟩),(.exit 0,⟨[],[]⟩)] ⟨(kU 15 18 (6::33::7::kD 14 7 [])),[],[]⟩ F (.two .leaf (.two (.one (.two (.join [(.normal,⟨[.slot 32 (.val (.bool))],[]⟩)] ⟨(kD 32 18 []),[],[]⟩ .leaf) .leaf)) .leaf))))) .leaf)) f145 (by kernel_rfl) fun a=>by kernel_rfl
def Zvf(F:Nat):LK:=lC (Qi8 F) (lC (Qhk F) (lC (Zlf F) (lC (Qm1 F) lN)))
def Qma(F:Nat)(a:(Qz)×(Zd)×Int):Option (Int):=
 gd (decide (0≤a.2.2)) (gd (decide (a.2.2<(↑(a.1.2.2.2.2.length):Int))) (gd (decide (a.2.2.toNat<a.1.2.2.2.2.length)) ((c47 F (a.2.1,(a.1.2.2.2.2.getD (a.2.2.toNat) (ByteArray.empty,ByteArray.empty,Qb ByteArray)).2.1)).bind fun(v23:Int)=>((c54 F (a.1.1,(a.1.2.2.2.2.getD (a.2.2.toNat) (ByteArray.empty,ByteArray.empty,Qb ByteArray)).1)).bind fun(v32:Bool)=>bif !v32 then(some (true))else(some (decide (v23<0)))).bind fun(v24:Bool)=>bif v24 then(some ((10:Int)))else(gd (decide (0≤v23)) (gd (decide (v23<(↑(a.2.1.2.2.2.2.length):Int))) (gd (decide (v23.toNat<a.2.1.2.2.2.2.length)) (bif decide ((a.2.1.2.2.2.2.getD (v23.toNat) Q2).2.2.2.2.2.2.2.2.2.2=0)then(some ((13:Int)))else((Qj1 F (a.1,(a.1.2.2.2.2.getD (a.2.2.toNat) (ByteArray.empty,ByteArray.empty,Qb ByteArray)).1,(a.1.2.2.2.2.getD (a.2.2.toNat) (ByteArray.empty,ByteArray.empty,Qb ByteArray)).2.1)).bind fun(v25:Int)=>bif decide (v25<a.2.2)then(some ((9:Int)))else(gd (decide (0≤v23)) (gd (decide (v23<(↑(a.2.1.2.2.2.2.length):Int))) (gd (decide (v23.toNat<a.2.1.2.2.2.2.length)) (bif !decide ((↑(List.length (a.1.2.2.2.2.getD (a.2.2.toNat) (ByteArray.empty,ByteArray.empty,Qb ByteArray)).2.2):Int)=(a.2.1.2.2.2.2.getD (v23.toNat) Q2).2.2.2.2.2.2.2.2.2.2)then(some ((2:Int)))else((Qu (σ:=Int) (β:=Int ⊕ Unit) (fun(v29:Int)=>bif decide (v29<(↑(List.length (a.1.2.2.2.2.getD (a.2.2.toNat) (ByteArray.empty,ByteArray.empty,Qb ByteArray)).2.2):Int))then(gd (decide (0≤v29)) (gd (decide (v29<(↑(List.length (a.1.2.2.2.2.getD (a.2.2.toNat) (ByteArray.empty,ByteArray.empty,Qb ByteArray)).2.2):Int))) (gd (decide (v29.toNat<List.length (a.1.2.2.2.2.getD (a.2.2.toNat) (ByteArray.empty,ByteArray.empty,Qb ByteArray)).2.2)) ((c40 F (a.1,List.getD (a.1.2.2.2.2.getD (a.2.2.toNat) (ByteArray.empty,ByteArray.empty,Qb ByteArray)).2.2 (v29.toNat) ByteArray.empty)).bind fun(v30:Int)=>bif decide (v30<0)then(some (Sum.inr (Sum.inl (10:Int))))else(gd (decide (0≤v29)) (gd (decide (v29≤(↑(List.length (a.1.2.2.2.2.getD (a.2.2.toNat) (ByteArray.empty,ByteArray.empty,Qb ByteArray)).2.2):Int))) (gd (decide (0≤v29)) (gd (decide (v29<(↑(List.length (a.1.2.2.2.2.getD (a.2.2.toNat) (ByteArray.empty,ByteArray.empty,Qb ByteArray)).2.2):Int))) (gd (decide (v29.toNat<List.length (a.1.2.2.2.2.getD (a.2.2.toNat) (ByteArray.empty,ByteArray.empty,Qb ByteArray)).2.2)) ((c54 F (List.drop (0:Nat) (List.take (v29.toNat) (a.1.2.2.2.2.getD (a.2.2.toNat) (ByteArray.empty,ByteArray.empty,Qb ByteArray)).2.2),List.getD (a.1.2.2.2.2.getD (a.2.2.toNat) (ByteArray.empty,ByteArray.empty,Qb ByteArray)).2.2 (v29.toNat) ByteArray.empty)).bind fun(v31:Bool)=>bif v31 then(some (Sum.inr (Sum.inl (9:Int))))else(some (Sum.inl (w64 (v29+1))))))))))))))else(some (Sum.inr (Sum.inr ())))) F ((0:Int))).bind fun(v26:Int ⊕ Unit)=>Sum.elim (fun(v27:Int)=>some (v27)) (fun(v28:Unit)=>some ((0:Int))) (v26))))))))))))))
def Zlp(F:Nat):PC:={ats:=[.agg Ym,.agg Yx,.val (.int .i64)],rts:=Zn,code:=Qma F}
theorem Zdh(F:Nat):Qg cx 123 (Zlp F):=qE (Zvf F) (Zg 3 (.two (.two (.join [(.normal,⟨[.slot 28 (.val (.bool))],[]⟩)] ⟨(kD 28 10 []),[],[]⟩ .leaf) .leaf) (Zg 3 (.two (.two .leaf (.one (.loop ⟨[.slot 9 (.val (.int .i64))],[]⟩ [(.ret,⟨[.slot 6 (.val (.int .i64))],[]⟩),(.exit 0,⟨[],[]⟩)] ⟨(kU 61 8 (6::kD 78 10 (9::kD 60 7 []))),[],[]⟩ F .leaf))) .leaf)))) f123 (by kernel_rfl) fun a=>by kernel_rfl
def Znd(F:Nat):LK:=lC (Qk9 F) (lC (Qm1 F) (lC (Zxt F) (lC (Qgy F) (lC (Qhk F) lN))))
def Qiu(F:Nat)(a:(Qz)×Int):Option (Int):=
 gd (decide (0≤a.2)) (gd (decide (a.2<(↑(a.1.2.1.length):Int))) (gd (decide (a.2.toNat<a.1.2.1.length)) ((c67 F (a.1.2.1.getD (a.2.toNat) Xf).1).bind fun(v13:Bool)=>bif !v13 then(some ((8:Int)))else((c40 F (a.1,(a.1.2.1.getD (a.2.toNat) Xf).1)).bind fun(v14:Int)=>bif decide (v14<a.2)then(some ((9:Int)))else((c54 F (a.1.1,(a.1.2.1.getD (a.2.toNat) Xf).2.1)).bind fun(v15:Bool)=>bif !v15 then(some ((10:Int)))else((c94 F ((a.1.2.1.getD (a.2.toNat) Xf).2.2.1,(99999:Int))).bind fun(v16:Bool)=>bif v16 then(some ((3:Int)))else((Qj3 F (a.1.2.1.getD (a.2.toNat) Xf).2.2.2).bind fun(v17:Int)=>some (v17))))))))
def Zw9(F:Nat):PC:={ats:=Zel,rts:=Zn,code:=Qiu F}
theorem Zvt(F:Nat):Qg cx 189 (Zw9 F):=qE (Znd F) .leaf f189 (by kernel_rfl) fun a=>by kernel_rfl
def Zph(F:Nat):LK:=lC (Qgy F) (lC (Qhk F) (lC (Zvt F) (lC (Qm1 F) (lC (Qk9 F) lN))))
def Qli(F:Nat)(a:Qz):Option (Int):=
 (Qu (σ:=Int) (β:=Int ⊕ Unit) (fun(v70:Int)=>bif decide (v70<(↑(a.1.length):Int))then(gd (decide (0≤v70)) (gd (decide (v70<(↑(a.1.length):Int))) (gd (decide (v70.toNat<a.1.length)) ((c67 F (a.1.getD (v70.toNat) ByteArray.empty)).bind fun(v71:Bool)=>bif !v71 then(some (Sum.inr (Sum.inl (8:Int))))else(gd (decide (0≤v70)) (gd (decide (v70≤(↑(a.1.length):Int))) (gd (decide (0≤v70)) (gd (decide (v70<(↑(a.1.length):Int))) (gd (decide (v70.toNat<a.1.length)) ((c54 F (List.drop (0:Nat) (List.take (v70.toNat) a.1),a.1.getD (v70.toNat) ByteArray.empty)).bind fun(v72:Bool)=>bif v72 then(some (Sum.inr (Sum.inl (9:Int))))else(some (Sum.inl (w64 (v70+1))))))))))))))else(some (Sum.inr (Sum.inr ())))) F ((0:Int))).bind fun(v53:Int ⊕ Unit)=>Sum.elim (fun(v54:Int)=>some (v54)) (fun(v55:Unit)=>(Qu (σ:=Int×Int) (β:=Int) (fun(v67:Int×Int)=>(bif decide (v67.2<(↑(a.2.1.length):Int))then(some (decide (v67.1=0)))else(some (false))).bind fun(v68:Bool)=>bif v68 then((Qiu F (a,v67.2)).bind fun(v69:Int)=>some (Sum.inl (v69,w64 (v67.2+1))))else(some (Sum.inr v67.1))) F (((0:Int),(0:Int)))).bind fun(v56:Int)=>(Qu (σ:=Int×Int) (β:=Int) (fun(v58:Int×Int)=>(bif decide (v58.2<(↑(a.2.2.1.length):Int))then(some (decide (v58.1=0)))else(some (false))).bind fun(v59:Bool)=>bif v59 then(gd (decide (0≤v58.2)) (gd (decide (v58.2<(↑(a.2.2.1.length):Int))) (gd (decide (v58.2.toNat<a.2.2.1.length)) ((c40 F (a,(a.2.2.1.getD (v58.2.toNat) (ByteArray.empty,(0:Int),(0:Int))).1)).bind fun(v60:Int)=>(bif decide (v60<0)then(some ((10:Int)))else(((c94 F ((a.2.2.1.getD (v58.2.toNat) (ByteArray.empty,(0:Int),(0:Int))).2.1,(99999:Int))).bind fun(v65:Bool)=>bif v65 then(some (true))else((c94 F ((a.2.2.1.getD (v58.2.toNat) (ByteArray.empty,(0:Int),(0:Int))).2.2,(99999:Int))).bind fun(v66:Bool)=>some (v66))).bind fun(v62:Bool)=>(bif v62 then(some ((3:Int)))else((bif decide ((a.2.2.1.getD (v58.2.toNat) (ByteArray.empty,(0:Int),(0:Int))).2.2<(a.2.2.1.getD (v58.2.toNat) (ByteArray.empty,(0:Int),(0:Int))).2.1)then(some ((11:Int)))else(some v58.1)).bind fun(v64:Int)=>some (v64))).bind fun(v63:Int)=>some (v63))).bind fun(v61:Int)=>some (Sum.inl (v61,w64 (v58.2+1)))))))else(some (Sum.inr v58.1))) F ((v56,(0:Int)))).bind fun(v57:Int)=>some (v57)) (v53)
def Zmo(F:Nat):PC:={ats:=Qf7,rts:=Zn,code:=Qli F}
theorem Zgp(F:Nat):Qg cx 121 (Zmo F):=qE (Zph F) (.two .leaf (.two (.two .leaf (.one (.loop ⟨[.slot 3 (.val (.int .i64))],[]⟩ [(.ret,⟨[.slot 2 (.val (.int .i64))],[]⟩),(.exit 0,⟨[],[]⟩)] ⟨(kU 15 7 (2::kD 31 10 (3::kD 14 7 []))),[],[]⟩ F .leaf))) (.two .leaf (.two (.two .leaf (.one (.loop ⟨[.slot 4 (.val (.int .i64)),.slot 5 (.val (.int .i64))],[]⟩ [(.exit 2,⟨[.slot 4 (.val (.int .i64))],[]⟩)] ⟨(43::44::45::4::5::kD 42 11 []),[],[]⟩ F (.two (.two (.join [(.normal,⟨[.slot 40 (.val (.bool))],[]⟩)] ⟨(kD 40 9 []),[],[]⟩ .leaf) .leaf) .leaf)))) (.two (.two .leaf (.one (.loop ⟨[.slot 4 (.val (.int .i64)),.slot 6 (.val (.int .i64))],[]⟩ [(.exit 4,⟨[.slot 4 (.val (.int .i64))],[]⟩)] ⟨(57::58::59::60::61::7::4::kD 79 18 (6::kD 56 11 [])),[],[]⟩ F (.two (.two (.join [(.normal,⟨[.slot 54 (.val (.bool))],[]⟩)] ⟨(kD 54 9 []),[],[]⟩ .leaf) .leaf) (.two (.one (Zg 2 (.join [(.normal,⟨[.slot 4 (.val (.int .i64))],[]⟩)] ⟨(kU 67 13 (4::[])),[],[]⟩ (.two .leaf (.two (.join [(.normal,⟨[.slot 74 (.val (.bool))],[]⟩)] ⟨(kD 74 8 []),[],[]⟩ .leaf) (.join [(.normal,⟨[.slot 4 (.val (.int .i64))],[]⟩)] ⟨[75,76,77,78,79,4],[],[]⟩ (Zg 2 (.join [(.normal,⟨[.slot 4 (.val (.int .i64))],[]⟩)] ⟨[4],[],[]⟩ .leaf)))))))) .leaf))))) .leaf))))) f121 (by kernel_rfl) fun a=>by kernel_rfl
def Zsw(F:Nat):LK:=lC (Zgp F) (lC (Zdh F) (lC (Ztb F) (lC (Zfj F) lN)))
def c26(F:Nat)(a:(Zd)×Qz):Option (Int):=
 (c22 F a.1).bind fun(v25:Int)=>bif !decide (v25=0)then(some (v25))else((bif decide (256<(↑(a.2.1.length):Int))then(some (true))else(bif decide (256<(↑(a.2.2.1.length):Int))then(some (true))else(bif decide (256<(↑(a.2.2.2.1.length):Int))then(some (true))else(bif decide (256<(↑(a.2.2.2.2.1.length):Int))then(some (true))else(some (decide (256<(↑(a.2.2.2.2.2.length):Int)))))))).bind fun(v26:Bool)=>bif v26 then(some ((5:Int)))else((Qli F a.2).bind fun(v27:Int)=>(Qu (σ:=Int×Int) (β:=Int) (fun(v33:Int×Int)=>(bif decide (v33.2<(↑(a.2.2.2.2.1.length):Int))then(some (decide (v33.1=0)))else(some (false))).bind fun(v34:Bool)=>bif v34 then((Qjq F (a.2,a.1,v33.2)).bind fun(v35:Int)=>some (Sum.inl (v35,w64 (v33.2+1))))else(some (Sum.inr v33.1))) F ((v27,(0:Int)))).bind fun(v28:Int)=>(Qu (σ:=Int×Int) (β:=Int) (fun(v30:Int×Int)=>(bif decide (v30.2<(↑(a.2.2.2.2.2.length):Int))then(some (decide (v30.1=0)))else(some (false))).bind fun(v31:Bool)=>bif v31 then((Qma F (a.2,a.1,v30.2)).bind fun(v32:Int)=>some (Sum.inl (v32,w64 (v30.2+1))))else(some (Sum.inr v30.1))) F ((v28,(0:Int)))).bind fun(v29:Int)=>some (v29)))
def Zux(F:Nat):PC:={ats:=Qex,rts:=Zn,code:=c26 F}
theorem Zv1(F:Nat):Qg cx 26 (Zux F):=qE (Zsw F) (Zg 3 (.two (.two (.join [(.normal,⟨[.slot 40 (.val (.bool))],[]⟩)] ⟨(kD 40 28 []),[],[]⟩ .leaf) .leaf) (.two .leaf (.two (.two .leaf (.one (.loop ⟨[.slot 5 (.val (.int .i64)),.slot 6 (.val (.int .i64))],[]⟩ [(.exit 0,⟨[.slot 5 (.val (.int .i64))],[]⟩)] ⟨(54::55::56::57::5::6::kD 53 11 []),[],[]⟩ F (.two (.two (.join [(.normal,⟨[.slot 51 (.val (.bool))],[]⟩)] ⟨(kD 51 9 []),[],[]⟩ .leaf) .leaf) .leaf)))) (.two (.two .leaf (.one (.loop ⟨[.slot 5 (.val (.int .i64)),.slot 7 (.val (.int .i64))],[]⟩ [(.exit 2,⟨[.slot 5 (.val (.int .i64))],[]⟩)] ⟨(69::70::71::72::5::7::kD 68 11 []),[],[]⟩ F (.two (.two (.join [(.normal,⟨[.slot 66 (.val (.bool))],[]⟩)] ⟨(kD 66 9 []),[],[]⟩ .leaf) .leaf) .leaf)))) .leaf))))) f26 (by kernel_rfl) fun a=>by kernel_rfl
def Zr5(F:Nat):LK:=lC (Yf F) lN
def c87(F:Nat)(a:Int×Int):Option (Int):=
 (bif decide (a.1<0)then(some ((3:Int)))else((Q1 F (decide (a.2<a.1),(3:Int))).bind fun(v9:Int)=>some (v9))).bind fun(v8:Int)=>some (v8)
def Zc4(F:Nat):PC:={ats:=Qlt,rts:=Zn,code:=c87 F}
theorem Qwg(F:Nat):Qg cx 87 (Zc4 F):=qE (Zr5 F) (.two .leaf (.two (.join [(.normal,⟨[.slot 4 (.val (.int .i64))],[]⟩)] ⟨(4::kD 12 8 []),[],[]⟩ .leaf) .leaf)) f87 (by kernel_rfl) fun a=>by kernel_rfl
def Zwe(F:Nat):LK:=lN
def Jm(F:Nat)(a:List Int):Option (Int):=
 (Qu (σ:=Int) (β:=Int ⊕ Unit) (fun(v13:Int)=>bif decide (v13<(↑(a.length):Int))then(gd (decide (0≤v13)) (gd (decide (v13<(↑(a.length):Int))) (gd (decide (v13.toNat<a.length)) (bif !decide (a.getD (v13.toNat) (0:Int)=(0:Int))then(some (Sum.inr (Sum.inl (a.getD (v13.toNat) (0:Int)))))else(some (Sum.inl (w64 (v13+1))))))))else(some (Sum.inr (Sum.inr ())))) F ((0:Int))).bind fun(v10:Int ⊕ Unit)=>Sum.elim (fun(v11:Int)=>some (v11)) (fun(v12:Unit)=>some ((0:Int))) (v10)
def Zhf(F:Nat):PC:={ats:=[.val (.seq kt5)],rts:=Zn,code:=Jm F}
theorem Qx7(F:Nat):Qg cx 175 (Zhf F):=qE (Zwe F) (.two .leaf (.two (.two .leaf (.one (.loop ⟨[.slot 7 (.val (.int .i64))],[]⟩ [(.ret,⟨[.slot 2 (.val (.int .i64))],[]⟩),(.exit 0,⟨[],[]⟩)] ⟨[14,7,11,12,2,13,4,10,9,8],[],[]⟩ F .leaf))) .leaf)) f175 (by kernel_rfl) fun a=>by kernel_rfl
def Zmn(F:Nat):LK:=lN
def Xc(F:Nat)(a:Bool×Int):Option (Int):=
 bif a.1 then(some a.2)else(some ((0:Int)))
def Zrn(F:Nat):PC:={ats:=Qux,rts:=Zn,code:=Xc F}
theorem Qsh(F:Nat):Qg cx 176 (Zrn F):=qE (Zmn F) .leaf f176 (by kernel_rfl) fun a=>by kernel_rfl
def Zfz(F:Nat):LK:=lN
def Qii(F:Nat)(a:List ByteArray×ByteArray):Option (Int):=
 (Qu (σ:=Int) (β:=Int ⊕ Unit) (fun(v13:Int)=>bif decide (v13<(↑(a.1.length):Int))then(gd (decide (0≤v13)) (gd (decide (v13<(↑(a.1.length):Int))) (gd (decide (v13.toNat<a.1.length)) (bif Qe a.2 (a.1.getD (v13.toNat) ByteArray.empty)then(some (Sum.inr (Sum.inl v13)))else(some (Sum.inl (w64 (v13+1))))))))else(some (Sum.inr (Sum.inr ())))) F ((0:Int))).bind fun(v10:Int ⊕ Unit)=>Sum.elim (fun(v11:Int)=>some (v11)) (fun(v12:Unit)=>some ((-1:Int))) (v10)
def Ze4(F:Nat):PC:={ats:=Qmi,rts:=Zn,code:=Qii F}
theorem Zmu(F:Nat):Qg cx 183 (Ze4 F):=qE (Zfz F) (.two .leaf (.two (.two .leaf (.one (.loop ⟨[.slot 8 (.val (.int .i64))],[]⟩ [(.ret,⟨[.slot 4 (.val (.int .i64))],[]⟩),(.exit 0,⟨[],[]⟩)] ⟨[18,8,11,12,13,14,15,16,4,17,5,10,9],[],[]⟩ F .leaf))) .leaf)) f183 (by kernel_rfl) fun a=>by kernel_rfl
def Zjh(F:Nat):LK:=lC (Zmu F) lN
def W3(F:Nat)(a:List ByteArray×ByteArray):Option (Bool):=
 (Qii F a).bind fun(v5:Int)=>some (decide (0≤v5))
def Zqj(F:Nat):PC:={ats:=Qmi,rts:=Yz,code:=W3 F}
theorem Jf(F:Nat):Qg cx 107 (Zqj F):=qE (Zjh F) .leaf f107 (by kernel_rfl) fun a=>by kernel_rfl
def Zu0(F:Nat):LK:=lC (Jf F) lN
def Qjs(F:Nat)(a:ByteArray):Option (Bool):=
 (W3 F ({data:=List.toArray (68::78::83::Qb UInt8)}::{data:=List.toArray (68::78::70::Qb UInt8)}::{data:=List.toArray (68::81::Qb UInt8)}::{data:=List.toArray (78::77::Qb UInt8)}::Qb ByteArray,a)).bind fun(v5:Bool)=>some (v5)
def Zr0(F:Nat):PC:={ats:=Uc,rts:=Yz,code:=Qjs F}
theorem Zxs(F:Nat):Qg cx 177 (Zr0 F):=qE (Zu0 F) .leaf f177 (by kernel_rfl) fun a=>by kernel_rfl
def Zj5(F:Nat):LK:=lN
def Vn(F:Nat)(a:Int×Int×Int):Option (Bool):=
 (bif decide (a.1<a.2.1)then(some (true))else(some (decide (a.2.2<a.1)))).bind fun(v5:Bool)=>some (v5)
def Zwm(F:Nat):PC:={ats:=Qwd,rts:=Yz,code:=Vn F}
theorem Ztu(F:Nat):Qg cx 179 (Zwm F):=qE (Zj5 F) (.two .leaf (.two (.join [(.normal,⟨[.slot 6 (.val (.bool))],[]⟩)] ⟨(6::kD 14 8 []),[],[]⟩ .leaf) .leaf)) f179 (by kernel_rfl) fun a=>by kernel_rfl
def Zhl(F:Nat):LK:=lC (Ztu F) (lC (Zxs F) (lC (Qsh F) (lC (Qx7 F) lN)))
def c99(F:Nat)(a:ByteArray×Int×ByteArray):Option (Int):=
 bif Qe a.1 {data:=List.toArray (110::111::110::101::Qb UInt8)}then((Qjs F a.2.2).bind fun(v66:Bool)=>(Xc F (!v66,(1:Int))).bind fun(v67:Int)=>(Xc F (!decide (a.2.1=0),(3:Int))).bind fun(v68:Int)=>(Jm F (v67::v68::Qb Int)).bind fun(v69:Int)=>some (v69))else((bif Qe a.1 {data:=List.toArray (116::105::109::101::Qb UInt8)}then((Xc F (!Qe a.2.2 {data:=List.toArray (Qb UInt8)},(1:Int))).bind fun(v88:Int)=>(Vn F (a.2.1,(1:Int),(863999999:Int))).bind fun(v89:Bool)=>(Xc F (v89,(3:Int))).bind fun(v90:Int)=>(Jm F ((0:Int)::v88::v90::Qb Int)).bind fun(v91:Int)=>some (v91))else(bif Qe a.1 {data:=List.toArray (108::101::110::103::116::104::Qb UInt8)}then((Xc F (!Qe a.2.2 {data:=List.toArray (Qb UInt8)},(1:Int))).bind fun(v92:Int)=>(Vn F (a.2.1,(0:Int),(999999:Int))).bind fun(v93:Bool)=>(Xc F (v93,(3:Int))).bind fun(v94:Int)=>(Jm F ((0:Int)::v92::v94::Qb Int)).bind fun(v95:Int)=>some (v95))else(bif Qe a.1 {data:=List.toArray (112::111::105::110::116::115::Qb UInt8)}then((Xc F (!Qe a.2.2 {data:=List.toArray (Qb UInt8)},(1:Int))).bind fun(v96:Int)=>(Vn F (a.2.1,(0:Int),(99999:Int))).bind fun(v97:Bool)=>(Xc F (v97,(3:Int))).bind fun(v98:Int)=>(Jm F ((0:Int)::v96::v98::Qb Int)).bind fun(v99:Int)=>some (v99))else((Xc F (!Qe a.2.2 {data:=List.toArray (Qb UInt8)},(1:Int))).bind fun(v100:Int)=>(Vn F (a.2.1,(0:Int),(0:Int))).bind fun(v101:Bool)=>(Xc F (v101,(3:Int))).bind fun(v102:Int)=>(Jm F ((13:Int)::v100::v102::Qb Int)).bind fun(v103:Int)=>some (v103))))).bind fun(v70:Int)=>(bif Qe a.1 {data:=List.toArray (116::105::109::101::Qb UInt8)}then((Xc F (!Qe a.2.2 {data:=List.toArray (Qb UInt8)},(1:Int))).bind fun(v72:Int)=>(Vn F (a.2.1,(1:Int),(863999999:Int))).bind fun(v73:Bool)=>(Xc F (v73,(3:Int))).bind fun(v74:Int)=>(Jm F ((0:Int)::v72::v74::Qb Int)).bind fun(v75:Int)=>some (v75))else(bif Qe a.1 {data:=List.toArray (108::101::110::103::116::104::Qb UInt8)}then((Xc F (!Qe a.2.2 {data:=List.toArray (Qb UInt8)},(1:Int))).bind fun(v76:Int)=>(Vn F (a.2.1,(0:Int),(999999:Int))).bind fun(v77:Bool)=>(Xc F (v77,(3:Int))).bind fun(v78:Int)=>(Jm F ((0:Int)::v76::v78::Qb Int)).bind fun(v79:Int)=>some (v79))else(bif Qe a.1 {data:=List.toArray (112::111::105::110::116::115::Qb UInt8)}then((Xc F (!Qe a.2.2 {data:=List.toArray (Qb UInt8)},(1:Int))).bind fun(v80:Int)=>(Vn F (a.2.1,(0:Int),(99999:Int))).bind fun(v81:Bool)=>(Xc F (v81,(3:Int))).bind fun(v82:Int)=>(Jm F ((0:Int)::v80::v82::Qb Int)).bind fun(v83:Int)=>some (v83))else((Xc F (!Qe a.2.2 {data:=List.toArray (Qb UInt8)},(1:Int))).bind fun(v84:Int)=>(Vn F (a.2.1,(0:Int),(0:Int))).bind fun(v85:Bool)=>(Xc F (v85,(3:Int))).bind fun(v86:Int)=>(Jm F ((13:Int)::v84::v86::Qb Int)).bind fun(v87:Int)=>some (v87))))).bind fun(v71:Int)=>gd (Qw.eqv (Qf.val (Ty.int Go.IntKind.i64)::Qb Qf) v70 v71) (some (v70)))
def Qmc(F:Nat):PC:={ats:=[.agg kt6],rts:=Zn,code:=c99 F}
theorem Qef(F:Nat):Qg cx 99 (Qmc F):=qE (Zhl F) (Zg 2 (.two (.within [(178,.leaf)]) .leaf)) f99 (by kernel_rfl) fun a=>by kernel_rfl
def Zg1(F:Nat):LK:=lN
def Xl(F:Nat)(a:(Z6)×ByteArray×Int×ByteArray):Option (Bool):=
 (bif Qe a.2.1 a.1.2.1 then(some (true))else(some (Qe a.2.1 {data:=List.toArray (110::111::110::101::Qb UInt8)}))).bind fun(v5:Bool)=>some (v5)
def Zhs(F:Nat):PC:={ats:=[.agg kt4,.agg kt6],rts:=Yz,code:=Xl F}
theorem Qpt(F:Nat):Qg cx 155 (Zhs F):=qE (Zg1 F) (.two .leaf (.two (.join [(.normal,⟨[.slot 4 (.val (.bool))],[]⟩)] ⟨(4::kD 14 10 []),[],[]⟩ .leaf) .leaf)) f155 (by kernel_rfl) fun a=>by kernel_rfl
def Zrj(F:Nat):LK:=lC (Jf F) (lC (Yf F) (lC (Qes F) (lC (Qwg F) (lC (Yl F) (lC (Qpt F) (lC (Qef F) lN))))))
def c93(F:Nat)(a:Z6):Option (Int):=
 ((W3 F ({data:=List.toArray (116::105::109::101::Qb UInt8)}::{data:=List.toArray (108::101::110::103::116::104::Qb UInt8)}::{data:=List.toArray (112::111::105::110::116::115::Qb UInt8)}::Qb ByteArray,a.2.1)).bind fun(v63:Bool)=>(Q1 F (!v63,(13:Int))).bind fun(v64:Int)=>bif !Qe a.2.2.1 {data:=List.toArray (Qb UInt8)}then((c98 F a.2.2.1).bind fun(v65:Bool)=>(Q1 F (!v65,(8:Int))).bind fun(v66:Int)=>(c87 F (a.2.2.2.1,(120:Int))).bind fun(v67:Int)=>(c87 F (a.2.2.2.2.1,(120:Int))).bind fun(v68:Int)=>(Q1 F (decide (a.2.2.2.2.1<a.2.2.2.1),(11:Int))).bind fun(v69:Int)=>(Zm F (v64::v66::v67::v68::v69::Qb Int)).bind fun(v70:Int)=>some (v70))else((c87 F (a.2.2.2.1,(120:Int))).bind fun(v71:Int)=>(c87 F (a.2.2.2.2.1,(120:Int))).bind fun(v72:Int)=>(Q1 F (decide (a.2.2.2.2.1<a.2.2.2.1),(11:Int))).bind fun(v73:Int)=>(Zm F (v64::(0:Int)::v71::v72::v73::Qb Int)).bind fun(v74:Int)=>some (v74))).bind fun(v55:Int)=>bif !decide (v55=0)then(some (v55))else((c87 F (a.2.2.2.2.2.1,(160:Int))).bind fun(v56:Int)=>(c87 F (a.2.2.2.2.2.2.1,(160:Int))).bind fun(v57:Int)=>(c87 F (a.2.2.2.2.2.2.2.2.2.2,(8:Int))).bind fun(v58:Int)=>(c99 F (a.2.2.2.2.2.2.2.1,a.2.2.2.2.2.2.2.2.1,a.2.2.2.2.2.2.2.2.2.1)).bind fun(v59:Int)=>(Xl F (a,a.2.2.2.2.2.2.2.1,a.2.2.2.2.2.2.2.2.1,a.2.2.2.2.2.2.2.2.2.1)).bind fun(v60:Bool)=>(Q1 F (!v60,(13:Int))).bind fun(v61:Int)=>(Zm F (v56::v57::v58::v59::v61::Qb Int)).bind fun(v62:Int)=>some (v62))
def Zsl(F:Nat):PC:={ats:=[.agg kt4],rts:=Zn,code:=c93 F}
theorem Qoa(F:Nat):Qg cx 93 (Zsl F):=qE (Zrj F) (Zg 2 (.two (.two (.join [(.normal,⟨[.slot 4 (.val (.int .i64))],[]⟩)] ⟨(4::kD 35 30 []),[],[]⟩ .leaf) .leaf) .leaf)) f93 (by kernel_rfl) fun a=>by kernel_rfl
def Ze2:Qi:=⟨[.slot 0 (.agg kt4),.one 0 110 kt4],[(1,.stat (.ptr 0 11 0 0))]⟩
def Zi3:Qi:=⟨[.slot 0 (.val (.bool))],[]⟩
def Zv7(F:Nat):LK:=lN
def Zd0(F:Nat):PX:=qX (Zv7 F) .leaf f91 (pxB 2 [.arg 1] Ze2 1 Zi3 [] [])
theorem Qfu(F:Nat):Zc cx 91 (Zd0 F):=Uu (by kernel_rfl)
def Zuc:Qi:=⟨[.slot 0 (.val (.seq kt4)),.one 0 110 kt4],[(1,.stat (.fn (.func 91) [] [.ptr 0 11 0 0]))]⟩
def Zwd:Qi:=⟨[.slot 0 (.val (.int .i64))],[]⟩
def Zou(F:Nat):LK:=lX (Qfu F) lN
def Qjo(F:Nat)(a:List (Z6)×Z6):Option (Int):=
 (Qu (σ:=Int) (β:=Int ⊕ Unit) (fun(v13:Int)=>bif decide (v13<(↑(a.1.length):Int))then(gd (decide (0≤v13)) (gd (decide (v13<(↑(a.1.length):Int))) (gd (decide (v13.toNat<a.1.length)) (bif Qe (a.1.getD (v13.toNat) Q2).1 a.2.1 then(some (Sum.inr (Sum.inl v13)))else(some (Sum.inl (w64 (v13+1))))))))else(some (Sum.inr (Sum.inr ())))) F ((0:Int))).bind fun(v10:Int ⊕ Unit)=>Sum.elim (fun(v11:Int)=>some (v11)) (fun(v12:Unit)=>some ((-1:Int))) (v10)
def Zuf(F:Nat):PX:={np:=2,locs:=[.cap (.arg 1) 0],τ:=Zuc,nr:=1,ω:=Zwd,ids:=[],mv:=[],code:=Qjo F}
theorem Qfh(F:Nat):Zc cx 154 (Zuf F):=qXE (Zou F) (.two .leaf (.two (.two .leaf (.one (.loop ⟨[.slot 8 (.val (.int .i64))],[]⟩ [(.ret,⟨[.slot 4 (.val (.int .i64))],[]⟩),(.exit 0,⟨[],[]⟩)] ⟨[18,8,11,12,13,14,15,16,4,17,5,10,9],[],[]⟩ F .leaf))) .leaf)) f154 (by kernel_rfl) fun a=>by kernel_rfl
def Zn6:Qi:=⟨[.slot 0 (.val (.seq kt4)),.one 0 110 kt4],[(1,.stat (.fn (.func 91) [] [.ptr 0 11 0 0]))]⟩
def Zgl:Qi:=⟨[.slot 0 (.val (.bool))],[]⟩
def Zji(F:Nat):LK:=lX (Qfu F) (lX (Qfh F) lN)
def Qi6(F:Nat)(a:List (Z6)×Z6):Option (Bool):=
 (Qjo F a).bind fun(v5:Int)=>some (decide (0≤v5))
def Zqp(F:Nat):PX:={np:=2,locs:=[.cap (.arg 1) 0],τ:=Zn6,nr:=1,ω:=Zgl,ids:=[],mv:=[],code:=Qi6 F}
theorem Qrx(F:Nat):Zc cx 90 (Zqp F):=qXE (Zji F) .leaf f90 (by kernel_rfl) fun a=>by kernel_rfl
def Zoj:Qi:=⟨[.slot 0 (.val (.int .i64)),.slot 1 (.agg kt4),.one 0 24 Yx],[(2,.stat (.ptr 0 5 0 0))]⟩
def Zxo:Qi:=⟨[.slot 0 (.val (.int .i64))],[]⟩
def Zlk(F:Nat):LK:=lC (Vi F) (lC (Yf F) (lC (Qoa F) (lC (Yl F) (lX (Qfu F) (lX (Qfh F) (lX (Qrx F) lN))))))
def Ql0(F:Nat)(a:Int×(Z6)×Zd):Option (Int):=
 gd (decide (0≤a.1)) (gd (decide (a.1≤(↑(a.2.2.2.2.2.2.length):Int))) ((Qi6 F (List.drop (0:Nat) (List.take (a.1.toNat) a.2.2.2.2.2.2),a.2.1.1,a.2.1.2.1,a.2.1.2.2.1,a.2.1.2.2.2.1,a.2.1.2.2.2.2.1,a.2.1.2.2.2.2.2.1,a.2.1.2.2.2.2.2.2.1,a.2.1.2.2.2.2.2.2.2.1,a.2.1.2.2.2.2.2.2.2.2.1,a.2.1.2.2.2.2.2.2.2.2.2.1,a.2.1.2.2.2.2.2.2.2.2.2.2)).bind fun(v13:Bool)=>(c92 F a.2.1.1).bind fun(v14:Int)=>(Q1 F (v13,(9:Int))).bind fun(v15:Int)=>(c93 F a.2.1).bind fun(v16:Int)=>(Zm F (v14::v15::v16::Qb Int)).bind fun(v17:Int)=>some (v17)))
def Zsr(F:Nat):PX:={np:=3,locs:=[.arg 2],τ:=Zoj,nr:=1,ω:=Zxo,ids:=[],mv:=[],code:=Ql0 F}
theorem Qy4(F:Nat):Zc cx 89 (Zsr F):=qXE (Zlk F) .leaf f89 (by kernel_rfl) fun a=>by kernel_rfl
def Zqs:Qi:=⟨[.slot 0 (.val (.seq kt4)),.one 0 24 Yx],[(1,.stat (.fn (.func 89) [] [.ptr 0 5 0 0]))]⟩
def Zp6:Qi:=⟨[.slot 0 (.val (.int .i64))],[]⟩
def Zvg(F:Nat):LK:=lC (Vi F) (lC (Yf F) (lC (Qoa F) (lC (Yl F) (lX (Qfu F) (lX (Qfh F) (lX (Qrx F) (lX (Qy4 F) lN)))))))
def Qjb(F:Nat)(a:List (Z6)×Zd):Option (Int):=
 (Qu (σ:=Int) (β:=Int ⊕ Unit) (fun(v15:Int)=>bif decide (v15<(↑(a.1.length):Int))then(gd (decide (0≤v15)) (gd (decide (v15<(↑(a.1.length):Int))) (gd (decide (v15.toNat<a.1.length)) ((Ql0 F (v15,(a.1.getD (v15.toNat) Q2),a.2.1,a.2.2.1,a.2.2.2.1,a.2.2.2.2.1,a.2.2.2.2.2)).bind fun(v16:Int)=>bif !decide (v16=0)then(some (Sum.inr (Sum.inl v16)))else(some (Sum.inl (w64 (v15+1))))))))else(some (Sum.inr (Sum.inr ())))) F ((0:Int))).bind fun(v12:Int ⊕ Unit)=>Sum.elim (fun(v13:Int)=>some (v13)) (fun(v14:Unit)=>some ((0:Int))) (v12)
def Zfi(F:Nat):PX:={np:=2,locs:=[.cap (.arg 1) 0],τ:=Zqs,nr:=1,ω:=Zp6,ids:=[],mv:=[],code:=Qjb F}
theorem Zoz(F:Nat):Zc cx 88 (Zfi F):=qXE (Zvg F) (.two .leaf (.two (.two .leaf (.one (.loop ⟨[.slot 10 (.val (.int .i64))],[]⟩ [(.ret,⟨[.slot 4 (.val (.int .i64))],[]⟩),(.exit 0,⟨[],[]⟩)] ⟨[22,10,15,16,17,18,7,21,4,20,19,5,6,14,13,12,11],[],[]⟩ F .leaf))) .leaf)) f88 (by kernel_rfl) fun a=>by kernel_rfl
def Zti(F:Nat):LK:=lC (Vi F) (lC (Qoa F) (lC (Yl F) (lC (Qwg F) (lC (Yf F) (lC (Qav F) (lX (Qfu F) (lX (Qfh F) (lX (Qrx F) (lX (Qy4 F) (lX (Zoz F) lN))))))))))
def c21(F:Nat)(a:Zd):Option (Int):=
 ((c85 F (a.1::a.2.1::a.2.2.1::Qb Int)).bind fun(v33:Int)=>bif decide (a.2.2.1<a.2.1)then((c87 F (a.2.2.2.1,(32:Int))).bind fun(v34:Int)=>(Q1 F (decide (32<(↑(a.2.2.2.2.length):Int)),(5:Int))).bind fun(v35:Int)=>(Zm F (v33::(11:Int)::v34::v35::Qb Int)).bind fun(v36:Int)=>some (v36))else((Q1 F (decide (a.1<a.2.2.1),(11:Int))).bind fun(v37:Int)=>(c87 F (a.2.2.2.1,(32:Int))).bind fun(v38:Int)=>(Q1 F (decide (32<(↑(a.2.2.2.2.length):Int)),(5:Int))).bind fun(v39:Int)=>(Zm F (v33::v37::v38::v39::Qb Int)).bind fun(v40:Int)=>some (v40))).bind fun(v31:Int)=>bif !decide (v31=0)then(some (v31))else((Qjb F (a.2.2.2.2,a.1,a.2.1,a.2.2.1,a.2.2.2.1,a.2.2.2.2)).bind fun(v32:Int)=>some (v32))
def Qpz(F:Nat):PC:={ats:=[.agg Yx],rts:=Zn,code:=c21 F}
theorem Qn8(F:Nat):Qg cx 21 (Qpz F):=qE (Zti F) (.two .leaf (.two (.two (.join [(.normal,⟨[.slot 3 (.val (.int .i64))],[]⟩)] ⟨(3::kD 34 31 []),[],[]⟩ .leaf) .leaf) .leaf)) f21 (by kernel_rfl) fun a=>by kernel_rfl
def Zsh(F:Nat):LK:=lN
def Qqk(F:Nat):PC:=qT (Zsh F) .leaf f105 Qf7 Yz
theorem Qqc(F:Nat):Qg cx 105 (Qqk F):=Xk (by kernel_rfl)
def Zzg:Qi:=⟨[.slot 0 (.agg kt4),.one 0 9 Zq],[(1,.stat (.ptr 0 1 0 0))]⟩
def Zx0:Qi:=⟨[.slot 0 (.val (.bool))],[]⟩
def Zem(F:Nat):LK:=lN
def Zwn(F:Nat):PX:=qX (Zem F) .leaf f195 (pxB 2 [.arg 1] Zzg 1 Zx0 [] [])
theorem Qu3(F:Nat):Zc cx 195 (Zwn F):=Uu (by kernel_rfl)
def Zy8:Qi:=⟨[.slot 0 (.val (.seq kt4)),.one 0 9 Zq],[(1,.stat (.fn (.func 195) [] [.ptr 0 1 0 0]))]⟩
def Zok:Qi:=⟨[.slot 0 (.val (.int .i64))],[]⟩
def Zw4(F:Nat):LK:=lX (Qu3 F) lN
def Ql2(F:Nat)(a:List (Z6)×ByteArray):Option (Int):=
 (Qu (σ:=Int) (β:=Int ⊕ Unit) (fun(v13:Int)=>bif decide (v13<(↑(a.1.length):Int))then(gd (decide (0≤v13)) (gd (decide (v13<(↑(a.1.length):Int))) (gd (decide (v13.toNat<a.1.length)) (bif Qe (a.1.getD (v13.toNat) Q2).1 a.2 then(some (Sum.inr (Sum.inl v13)))else(some (Sum.inl (w64 (v13+1))))))))else(some (Sum.inr (Sum.inr ())))) F ((0:Int))).bind fun(v10:Int ⊕ Unit)=>Sum.elim (fun(v11:Int)=>some (v11)) (fun(v12:Unit)=>some ((-1:Int))) (v10)
def Zkw(F:Nat):PX:={np:=2,locs:=[.cap (.arg 1) 0],τ:=Zy8,nr:=1,ω:=Zok,ids:=[],mv:=[],code:=Ql2 F}
theorem Zr1(F:Nat):Zc cx 154 (Zkw F):=qXE (Zw4 F) (.two .leaf (.two (.two .leaf (.one (.loop ⟨[.slot 8 (.val (.int .i64))],[]⟩ [(.ret,⟨[.slot 4 (.val (.int .i64))],[]⟩),(.exit 0,⟨[],[]⟩)] ⟨[18,8,11,12,13,14,15,16,4,17,5,10,9],[],[]⟩ F .leaf))) .leaf)) f154 (by kernel_rfl) fun a=>by kernel_rfl
def Zox(F:Nat):LK:=lX (Qfh F) (lX (Qu3 F) (lX (Zr1 F) lN))
def Qdl(F:Nat)(a:(Zd)×ByteArray):Option ((Z6)×Bool):=
 (Ql2 F (a.1.2.2.2.2,a.2)).bind fun(v5:Int)=>bif decide (v5<0)then(some ((({data:=List.toArray (Qb UInt8)},{data:=List.toArray (Qb UInt8)},{data:=List.toArray (Qb UInt8)},(0:Int),(0:Int),(0:Int),(0:Int),{data:=List.toArray (Qb UInt8)},(0:Int),{data:=List.toArray (Qb UInt8)},(0:Int)),false)))else(gd (decide (0≤v5)) (gd (decide (v5<(↑(a.1.2.2.2.2.length):Int))) (gd (decide (v5.toNat<a.1.2.2.2.2.length)) (some (((a.1.2.2.2.2.getD (v5.toNat) Q2),true))))))
def Qsy(F:Nat):PC:={ats:=[.agg Yx,.val (.str)],rts:=[.agg kt4,.val (.bool)],code:=Qdl F}
theorem Qch(F:Nat):Qg cx 131 (Qsy F):=qE (Zox F) .leaf f131 (by kernel_rfl) fun a=>by kernel_rfl
def Zrw:Qi:=⟨[.slot 0 (.agg kt3),.one 0 9 Zq],[(1,.stat (.ptr 0 1 0 0))]⟩
def Zxn:Qi:=⟨[.slot 0 (.val (.bool))],[]⟩
def Zxz(F:Nat):LK:=lN
def Zfp(F:Nat):PX:=qX (Zxz F) .leaf f185 (pxB 2 [.arg 1] Zrw 1 Zxn [] [])
theorem Qsj(F:Nat):Zc cx 185 (Zfp F):=Uu (by kernel_rfl)
def Zfh:Qi:=⟨[.slot 0 (.val (.seq kt3)),.one 0 9 Zq],[(1,.stat (.fn (.func 185) [] [.ptr 0 1 0 0]))]⟩
def Zjq:Qi:=⟨[.slot 0 (.val (.int .i64))],[]⟩
def Zhb(F:Nat):LK:=lX (Qsj F) lN
def Qk3(F:Nat)(a:List (Zu)×ByteArray):Option (Int):=
 (Qu (σ:=Int) (β:=Int ⊕ Unit) (fun(v13:Int)=>bif decide (v13<(↑(a.1.length):Int))then(gd (decide (0≤v13)) (gd (decide (v13<(↑(a.1.length):Int))) (gd (decide (v13.toNat<a.1.length)) (bif Qe (a.1.getD (v13.toNat) Xf).1 a.2 then(some (Sum.inr (Sum.inl v13)))else(some (Sum.inl (w64 (v13+1))))))))else(some (Sum.inr (Sum.inr ())))) F ((0:Int))).bind fun(v10:Int ⊕ Unit)=>Sum.elim (fun(v11:Int)=>some (v11)) (fun(v12:Unit)=>some ((-1:Int))) (v10)
def Zea(F:Nat):PX:={np:=2,locs:=[.cap (.arg 1) 0],τ:=Zfh,nr:=1,ω:=Zjq,ids:=[],mv:=[],code:=Qk3 F}
theorem Qq7(F:Nat):Zc cx 184 (Zea F):=qXE (Zhb F) (.two .leaf (.two (.two .leaf (.one (.loop ⟨[.slot 8 (.val (.int .i64))],[]⟩ [(.ret,⟨[.slot 4 (.val (.int .i64))],[]⟩),(.exit 0,⟨[],[]⟩)] ⟨[18,8,11,12,13,14,15,16,4,17,5,10,9],[],[]⟩ F .leaf))) .leaf)) f184 (by kernel_rfl) fun a=>by kernel_rfl
def Zh5(F:Nat):LK:=lX (Qsj F) (lX (Qq7 F) lN)
def Wv(F:Nat)(a:(Qz)×ByteArray):Option (Int):=
 (Qk3 F (a.1.2.1,a.2)).bind fun(v5:Int)=>some (v5)
def Qwb(F:Nat):PC:={ats:=Qed,rts:=Zn,code:=Wv F}
theorem Xg(F:Nat):Qg cx 110 (Qwb F):=qE (Zh5 F) .leaf f110 (by kernel_rfl) fun a=>by kernel_rfl
def Ze5:Qi:=⟨[.slot 0 (.agg kt9),.one 0 9 Zq,.one 1 9 Zq],[(1,.stat (.ptr 0 1 0 0)),(2,.stat (.ptr 1 1 0 0))]⟩
def Zy9:Qi:=⟨[.slot 0 (.val (.bool))],[]⟩
def Zy5(F:Nat):LK:=lN
def Qkq(F:Nat)(a:(Z3)×ByteArray×ByteArray):Option (Bool):=
 (bif Qe a.1.1 a.2.1 then(some (Qe a.1.2.1 a.2.2))else(some (false))).bind fun(v5:Bool)=>some (v5)
def Zx4(F:Nat):PX:={np:=3,locs:=[.arg 1,.arg 2],τ:=Ze5,nr:=1,ω:=Zy9,ids:=[],mv:=[],code:=Qkq F}
theorem Qvd(F:Nat):Zc cx 226 (Zx4 F):=qXE (Zy5 F) (.two .leaf (.two (.join [(.normal,⟨[.slot 4 (.val (.bool))],[]⟩)] ⟨(4::kD 14 10 []),[],[]⟩ .leaf) .leaf)) f226 (by kernel_rfl) fun a=>by kernel_rfl
def Ziu:Qi:=⟨[.slot 0 (.val (.seq kt9)),.one 0 9 Zq,.one 1 9 Zq],[(1,.stat (.fn (.func 226) [] [.ptr 0 1 0 0,.ptr 1 1 0 0]))]⟩
def Zdc:Qi:=⟨[.slot 0 (.val (.int .i64))],[]⟩
def Zm2(F:Nat):LK:=lX (Qvd F) lN
def Qhz(F:Nat)(a:List (Z3)×ByteArray×ByteArray):Option (Int):=
 (Qu (σ:=Int) (β:=Int ⊕ Unit) (fun(v15:Int)=>bif decide (v15<(↑(a.1.length):Int))then(gd (decide (0≤v15)) (gd (decide (v15<(↑(a.1.length):Int))) (gd (decide (v15.toNat<a.1.length)) ((Qkq F ((a.1.getD (v15.toNat) (ByteArray.empty,ByteArray.empty,Qb ByteArray)),a.2.1,a.2.2)).bind fun(v16:Bool)=>bif v16 then(some (Sum.inr (Sum.inl v15)))else(some (Sum.inl (w64 (v15+1))))))))else(some (Sum.inr (Sum.inr ())))) F ((0:Int))).bind fun(v12:Int ⊕ Unit)=>Sum.elim (fun(v13:Int)=>some (v13)) (fun(v14:Unit)=>some ((-1:Int))) (v12)
def Zyg(F:Nat):PX:={np:=2,locs:=[.cap (.arg 1) 0,.cap (.arg 1) 1],τ:=Ziu,nr:=1,ω:=Zdc,ids:=[],mv:=[],code:=Qhz F}
theorem Qng(F:Nat):Zc cx 225 (Zyg F):=qXE (Zm2 F) (.two .leaf (.two (.two .leaf (.one (.loop ⟨[.slot 8 (.val (.int .i64))],[]⟩ [(.ret,⟨[.slot 4 (.val (.int .i64))],[]⟩),(.exit 0,⟨[],[]⟩)] ⟨[18,8,11,12,13,14,15,16,4,17,5,10,9],[],[]⟩ F .leaf))) .leaf)) f225 (by kernel_rfl) fun a=>by kernel_rfl
def Zle(F:Nat):LK:=lX (Qvd F) (lX (Qng F) lN)
def Qhj(F:Nat)(a:(Qz)×ByteArray×ByteArray):Option (Int):=
 (Qhz F (a.1.2.2.2.2,a.2.1,a.2.2)).bind fun(v5:Int)=>some (v5)
def Qpe(F:Nat):PC:={ats:=Qhd,rts:=Zn,code:=Qhj F}
theorem Qkn(F:Nat):Qg cx 187 (Qpe F):=qE (Zle F) .leaf f187 (by kernel_rfl) fun a=>by kernel_rfl
def Zrk(F:Nat):LK:=lC (Jf F) lN
def Kv(F:Nat)(a:(Qz)×ByteArray):Option (Bool):=
 (W3 F (a.1.1,a.2)).bind fun(v5:Bool)=>some (v5)
def Qwp(F:Nat):PC:={ats:=Qed,rts:=Yz,code:=Kv F}
theorem K1(F:Nat):Qg cx 111 (Qwp F):=qE (Zrk F) .leaf f111 (by kernel_rfl) fun a=>by kernel_rfl
end
end Go.Proofs.Tryz

/- Functions of the program as functions of data. By program. -/
import Derived.Test.YtpkbmngnolhopaaGreatDoorXTeCx
set_option maxRecDepth 100000
set_option linter.all false
namespace Go.Proofs.Tryz
open Go Go.Sx
noncomputable section
def Zym(F:Nat):LK:=lN
def c98(F:Nat)(a:ByteArray):Option (Bool):=
 (Q2 (σ:=ByteArray×Nat) (β:=(ByteArray×Nat)×Bool ⊕ ByteArray×Nat) (fun(v23:ByteArray×Nat)=>bif decide (v23.2<ByteArray.size v23.1)then(bif decide (97≤(↑(Go.Utf8.decode v23.1 v23.2).1:Int))then(bif decide ((↑(Go.Utf8.decode v23.1 v23.2).1:Int)≤(122:Int))then(some (Sum.inl (v23.1,v23.2+(Go.Utf8.decode v23.1 v23.2).2)))else(bif decide (65≤(↑(Go.Utf8.decode v23.1 v23.2).1:Int))then(bif !decide ((↑(Go.Utf8.decode v23.1 v23.2).1:Int)≤(90:Int))then(bif decide ((↑v23.2:Int)=(0:Int))then(some (Sum.inr (Sum.inl ((v23.1,v23.2+(Go.Utf8.decode v23.1 v23.2).2),false))))else(bif !decide ((↑(Go.Utf8.decode v23.1 v23.2).1:Int)=(95:Int))then(bif decide ((↑(Go.Utf8.decode v23.1 v23.2).1:Int)<(48:Int))then(some (Sum.inr (Sum.inl ((v23.1,v23.2+(Go.Utf8.decode v23.1 v23.2).2),false))))else(bif decide (57<(↑(Go.Utf8.decode v23.1 v23.2).1:Int))then(some (Sum.inr (Sum.inl ((v23.1,v23.2+(Go.Utf8.decode v23.1 v23.2).2),false))))else(some (Sum.inl (v23.1,v23.2+(Go.Utf8.decode v23.1 v23.2).2)))))else(some (Sum.inl (v23.1,v23.2+(Go.Utf8.decode v23.1 v23.2).2)))))else(some (Sum.inl (v23.1,v23.2+(Go.Utf8.decode v23.1 v23.2).2))))else(bif decide ((↑v23.2:Int)=(0:Int))then(some (Sum.inr (Sum.inl ((v23.1,v23.2+(Go.Utf8.decode v23.1 v23.2).2),false))))else(bif !decide ((↑(Go.Utf8.decode v23.1 v23.2).1:Int)=(95:Int))then(bif decide ((↑(Go.Utf8.decode v23.1 v23.2).1:Int)<(48:Int))then(some (Sum.inr (Sum.inl ((v23.1,v23.2+(Go.Utf8.decode v23.1 v23.2).2),false))))else(bif decide (57<(↑(Go.Utf8.decode v23.1 v23.2).1:Int))then(some (Sum.inr (Sum.inl ((v23.1,v23.2+(Go.Utf8.decode v23.1 v23.2).2),false))))else(some (Sum.inl (v23.1,v23.2+(Go.Utf8.decode v23.1 v23.2).2)))))else(some (Sum.inl (v23.1,v23.2+(Go.Utf8.decode v23.1 v23.2).2)))))))else(bif decide (65≤(↑(Go.Utf8.decode v23.1 v23.2).1:Int))then(bif !decide ((↑(Go.Utf8.decode v23.1 v23.2).1:Int)≤(90:Int))then(bif decide ((↑v23.2:Int)=(0:Int))then(some (Sum.inr (Sum.inl ((v23.1,v23.2+(Go.Utf8.decode v23.1 v23.2).2),false))))else(bif !decide ((↑(Go.Utf8.decode v23.1 v23.2).1:Int)=(95:Int))then(bif decide ((↑(Go.Utf8.decode v23.1 v23.2).1:Int)<(48:Int))then(some (Sum.inr (Sum.inl ((v23.1,v23.2+(Go.Utf8.decode v23.1 v23.2).2),false))))else(bif decide (57<(↑(Go.Utf8.decode v23.1 v23.2).1:Int))then(some (Sum.inr (Sum.inl ((v23.1,v23.2+(Go.Utf8.decode v23.1 v23.2).2),false))))else(some (Sum.inl (v23.1,v23.2+(Go.Utf8.decode v23.1 v23.2).2)))))else(some (Sum.inl (v23.1,v23.2+(Go.Utf8.decode v23.1 v23.2).2)))))else(some (Sum.inl (v23.1,v23.2+(Go.Utf8.decode v23.1 v23.2).2))))else(bif decide ((↑v23.2:Int)=(0:Int))then(some (Sum.inr (Sum.inl ((v23.1,v23.2+(Go.Utf8.decode v23.1 v23.2).2),false))))else(bif !decide ((↑(Go.Utf8.decode v23.1 v23.2).1:Int)=(95:Int))then(bif decide ((↑(Go.Utf8.decode v23.1 v23.2).1:Int)<(48:Int))then(some (Sum.inr (Sum.inl ((v23.1,v23.2+(Go.Utf8.decode v23.1 v23.2).2),false))))else(bif decide (57<(↑(Go.Utf8.decode v23.1 v23.2).1:Int))then(some (Sum.inr (Sum.inl ((v23.1,v23.2+(Go.Utf8.decode v23.1 v23.2).2),false))))else(some (Sum.inl (v23.1,v23.2+(Go.Utf8.decode v23.1 v23.2).2)))))else(some (Sum.inl (v23.1,v23.2+(Go.Utf8.decode v23.1 v23.2).2)))))))else(some (Sum.inr (Sum.inr v23)))) F ((a,(0:Nat)))).bind fun(v19:(ByteArray×Nat)×Bool ⊕ ByteArray×Nat)=>Sum.elim (fun(v20:(ByteArray×Nat)×Bool)=>some v20.2) (fun(v21:ByteArray×Nat)=>(bif decide (0<(↑(ByteArray.size a):Int))then(some (decide ((↑(ByteArray.size a):Int)≤(24:Int))))else(some (false))).bind fun(v22:Bool)=>some (v22)) (v19)
def Qn0(F:Nat):PC:={ats:=Qa1,rts:=Xd,code:=c98 F}
theorem Vb(F:Nat):Qg cx 98 (Qn0 F):=qE (Zym F) (.two .leaf (.two (.two .leaf (.one (.loop ⟨[.iter 0],[]⟩ [(.ret,⟨[.iter 0,.slot 2 (.val (.bool))],[]⟩),(.exit 0,⟨[.iter 0],[]⟩)] ⟨(Yd 12 14 (5::2::Ql 43 18 (4::3::11::10::9::8::[]))),[0],[]⟩ F .leaf))) (.two (.join [(.normal,⟨[.slot 2 (.val (.bool))],[]⟩)] ⟨(2::Ql 51 8 []),[],[]⟩ .leaf) .leaf))) f98 (by kernel_rfl) fun a=>by kernel_rfl
def Ydr(F:Nat):LK:=lN
def Qx(F:Nat)(a:Bool×Int):Option (Int):=
 bif a.1 then(some a.2)else(some ((0:Int)))
def Qx5(F:Nat):PC:={ats:=Qzu,rts:=Zg,code:=Qx F}
theorem Z3(F:Nat):Qg cx 86 (Qx5 F):=qE (Ydr F) .leaf f86 (by kernel_rfl) fun a=>by kernel_rfl
def Zpq(F:Nat):LK:=lC (Z3 F) (lC (Vb F) lN)
def c92(F:Nat)(a:ByteArray):Option (Int):=
 (c98 F a).bind fun(v7:Bool)=>(Qx F (!v7,(8:Int))).bind fun(v8:Int)=>some (v8)
def Yg1(F:Nat):PC:={ats:=Qa1,rts:=Zg,code:=c92 F}
theorem Vc(F:Nat):Qg cx 92 (Yg1 F):=qE (Zpq F) .leaf f92 (by kernel_rfl) fun a=>by kernel_rfl
def Zzq(F:Nat):LK:=lN
def Qll(F:Nat)(a:Int):Option (Bool):=
 (bif decide (a<0)then(some (true))else(some (decide (99999<a)))).bind fun(v5:Bool)=>some (v5)
def Yjm(F:Nat):PC:={ats:=Zg,rts:=Xd,code:=Qll F}
theorem Qvq(F:Nat):Qg cx 153 (Yjm F):=qE (Zzq F) (.two .leaf (.two (.join [(.normal,⟨[.slot 2 (.val (.bool))],[]⟩)] ⟨[2,8,7,6,5,4,3],[],[]⟩ .leaf) .leaf)) f153 (by kernel_rfl) fun a=>by kernel_rfl
def Ycp:Qj:=⟨[.slot 0 (.val (.seq K0))],[(1,.stat (.pv (.lit (.func (.func 153) #[] #[]))))]⟩
def Zyr:Qj:=⟨[.slot 0 (.val (.int .i64))],[]⟩
def Zur(F:Nat):LK:=lC (Qvq F) lN
def Qn4(F:Nat)(a:List Int):Option (Int):=
 (Q2 (σ:=Int) (β:=Int ⊕ Unit) (fun(v15:Int)=>bif decide (v15<(↑(a.length):Int))then(gd (decide (0≤v15)) (gd (decide (v15<(↑(a.length):Int))) (gd (decide (v15.toNat<a.length)) ((Qll F (a.getD (v15.toNat) (0:Int))).bind fun(v16:Bool)=>bif v16 then(some (Sum.inr (Sum.inl v15)))else(some (Sum.inl (w64 (v15+1))))))))else(some (Sum.inr (Sum.inr ())))) F ((0:Int))).bind fun(v12:Int ⊕ Unit)=>Sum.elim (fun(v13:Int)=>some (v13)) (fun(v14:Unit)=>some ((-1:Int))) (v12)
def Zng(F:Nat):PX:={np:=2,locs:=[],τ:=Ycp,nr:=1,ω:=Zyr,ids:=[],mv:=[],code:=Qn4 F}
theorem Zbf(F:Nat):Zb cx 209 (Zng F):=qXE (Zur F) (.two .leaf (.two (.two .leaf (.one (.loop ⟨[.slot 8 (.val (.int .i64))],[]⟩ [(.ret,⟨[.slot 4 (.val (.int .i64))],[]⟩),(.exit 0,⟨[],[]⟩)] ⟨[18,8,11,12,13,14,15,16,4,17,5,10,9],[],[]⟩ F .leaf))) .leaf)) f209 (by kernel_rfl) fun a=>by kernel_rfl
def Ydp:Qj:=⟨[.slot 0 (.val (.seq K0))],[(1,.stat (.pv (.lit (.func (.func 153) #[] #[]))))]⟩
def Zuu:Qj:=⟨[.slot 0 (.val (.bool))],[]⟩
def Yh3(F:Nat):LK:=lC (Qvq F) (lX (Zbf F) lN)
def Qtc(F:Nat)(a:List Int):Option (Bool):=
 (Qn4 F a).bind fun(v5:Int)=>some (decide (0≤v5))
def Zlo(F:Nat):PX:={np:=2,locs:=[],τ:=Ydp,nr:=1,ω:=Zuu,ids:=[],mv:=[],code:=Qtc F}
theorem Zzv(F:Nat):Zb cx 152 (Zlo F):=qXE (Yh3 F) .leaf f152 (by kernel_rfl) fun a=>by kernel_rfl
def Zk8(F:Nat):LK:=lC (Z3 F) (lC (Qvq F) (lX (Zbf F) (lX (Zzv F) lN)))
def Zz(F:Nat)(a:List Int):Option (Int):=
 (Qtc F a).bind fun(v7:Bool)=>(Qx F (v7,(3:Int))).bind fun(v8:Int)=>some (v8)
def Zqq(F:Nat):PC:={ats:=[.val (.seq K0)],rts:=Zg,code:=Zz F}
theorem Wa(F:Nat):Qg cx 85 (Zqq F):=qE (Zk8 F) .leaf f85 (by kernel_rfl) fun a=>by kernel_rfl
def Zp1(F:Nat):LK:=lN
def Q9(F:Nat)(a:List Int):Option (Int):=
 (Q2 (σ:=Int) (β:=Int ⊕ Unit) (fun(v13:Int)=>bif decide (v13<(↑(a.length):Int))then(gd (decide (0≤v13)) (gd (decide (v13<(↑(a.length):Int))) (gd (decide (v13.toNat<a.length)) (bif !decide (a.getD (v13.toNat) (0:Int)=(0:Int))then(some (Sum.inr (Sum.inl (a.getD (v13.toNat) (0:Int)))))else(some (Sum.inl (w64 (v13+1))))))))else(some (Sum.inr (Sum.inr ())))) F ((0:Int))).bind fun(v10:Int ⊕ Unit)=>Sum.elim (fun(v11:Int)=>some (v11)) (fun(v12:Unit)=>some ((0:Int))) (v10)
def Zev(F:Nat):PC:={ats:=[.val (.seq K0)],rts:=Zg,code:=Q9 F}
theorem Z6(F:Nat):Qg cx 84 (Zev F):=qE (Zp1 F) (.two .leaf (.two (.two .leaf (.one (.loop ⟨[.slot 7 (.val (.int .i64))],[]⟩ [(.ret,⟨[.slot 2 (.val (.int .i64))],[]⟩),(.exit 0,⟨[],[]⟩)] ⟨[14,7,11,12,2,13,4,10,9,8],[],[]⟩ F .leaf))) .leaf)) f84 (by kernel_rfl) fun a=>by kernel_rfl
def Zrf(F:Nat):LK:=lC (Z6 F) (lC (Z3 F) (lC (Wa F) (lC (Vc F) lN)))
def c63(F:Nat)(a:(Qu)×Int):Option (Int×Int):=
 ((c92 F a.1.1).bind fun(v132:Int)=>(tw (X:=Int×Int) (Qs.eqv (Qf.val (Ty.int Go.IntKind.i64)::Qf.val (Ty.int Go.IntKind.i64)::Qa Qf)) ((Zz F (a.1.2.2.1::Qa Int)).bind fun(v145:Int)=>(Zz F (a.2::Qa Int)).bind fun(v146:Int)=>(Qx F (decide (a.2<a.1.2.2.1),(11:Int))).bind fun(v147:Int)=>(Q9 F (v132::v145::v146::v147::Qa Int)).bind fun(v148:Int)=>bif !decide (v148=0)then(some (((0:Int),v148)))else(some ((w64 (Int.tdiv (w64 (a.2-a.1.2.2.1)) (365:Int)),(0:Int)))))).bind fun(v133:Int×Int)=>((Zz F (a.1.2.2.1::Qa Int)).bind fun(v135:Int)=>(Zz F (a.2::Qa Int)).bind fun(v136:Int)=>(Qx F (decide (a.2<a.1.2.2.1),(11:Int))).bind fun(v137:Int)=>(Q9 F (v132::v135::v136::v137::Qa Int)).bind fun(v138:Int)=>bif !decide (v138=0)then(some (((0:Int),v138)))else(some ((w64 (Int.tdiv (w64 (a.2-a.1.2.2.1)) (365:Int)),(0:Int))))).bind fun(v134:Int×Int)=>gd (Qs.eqv (Qf.val (Ty.int Go.IntKind.i64)::Qf.val (Ty.int Go.IntKind.i64)::Qa Qf) v133 v134) (some (v133))).bind fun(v98:Int×Int)=>((((c92 F a.1.1).bind fun(v121:Int)=>tw (X:=Int×Int) (Qs.eqv (Qf.val (Ty.int Go.IntKind.i64)::Qf.val (Ty.int Go.IntKind.i64)::Qa Qf)) ((Zz F (a.1.2.2.1::Qa Int)).bind fun(v128:Int)=>(Zz F (a.2::Qa Int)).bind fun(v129:Int)=>(Qx F (decide (a.2<a.1.2.2.1),(11:Int))).bind fun(v130:Int)=>(Q9 F (v121::v128::v129::v130::Qa Int)).bind fun(v131:Int)=>bif !decide (v131=0)then(some (((0:Int),v131)))else(some ((w64 (Int.tdiv (w64 (a.2-a.1.2.2.1)) (365:Int)),(0:Int)))))).bind fun(v114:Int×Int)=>((c92 F a.1.1).bind fun(v116:Int)=>(Zz F (a.1.2.2.1::Qa Int)).bind fun(v117:Int)=>(Zz F (a.2::Qa Int)).bind fun(v118:Int)=>(Qx F (decide (a.2<a.1.2.2.1),(11:Int))).bind fun(v119:Int)=>(Q9 F (v116::v117::v118::v119::Qa Int)).bind fun(v120:Int)=>bif !decide (v120=0)then(some (((0:Int),v120)))else(some ((w64 (Int.tdiv (w64 (a.2-a.1.2.2.1)) (365:Int)),(0:Int))))).bind fun(v115:Int×Int)=>gd (Qs.eqv (Qf.val (Ty.int Go.IntKind.i64)::Qf.val (Ty.int Go.IntKind.i64)::Qa Qf) v114 v115) (some (v114))).bind fun(v100:Int×Int)=>(tw (X:=Int×Int) (Qs.eqv (Qf.val (Ty.int Go.IntKind.i64)::Qf.val (Ty.int Go.IntKind.i64)::Qa Qf)) ((c92 F a.1.1).bind fun(v109:Int)=>(Zz F (a.1.2.2.1::Qa Int)).bind fun(v110:Int)=>(Zz F (a.2::Qa Int)).bind fun(v111:Int)=>(Qx F (decide (a.2<a.1.2.2.1),(11:Int))).bind fun(v112:Int)=>(Q9 F (v109::v110::v111::v112::Qa Int)).bind fun(v113:Int)=>bif !decide (v113=0)then(some (((0:Int),v113)))else(some ((w64 (Int.tdiv (w64 (a.2-a.1.2.2.1)) (365:Int)),(0:Int)))))).bind fun(v101:Int×Int)=>gd (Qs.eqv (Qf.val (Ty.int Go.IntKind.i64)::Qf.val (Ty.int Go.IntKind.i64)::Qa Qf) v100 v101) (some (v100))).bind fun(v99:Int×Int)=>gd (Qs.eqv (Qf.val (Ty.int Go.IntKind.i64)::Qf.val (Ty.int Go.IntKind.i64)::Qa Qf) v98 v99) (some (v98))
def Qz7(F:Nat):PC:={ats:=[.agg Xm,.val (.int .i64)],rts:=Qpb,code:=c63 F}
theorem Zsq(F:Nat):Qg cx 63 (Qz7 F):=qE (Zrf F) .leaf f63 (by kernel_rfl) fun a=>by kernel_rfl
def Zv4(F:Nat):LK:=lN
def Zw1(F:Nat):PC:=qT (Zv4 F) (.two .leaf (.one (Q8 2 (.two (.two .leaf (.one (.loop ⟨[.slot 7 (.val (.bool)),.slot 12 (.val (.int .i64))],[]⟩ [(.exit 0,⟨[.slot 7 (.val (.bool))],[]⟩)] ⟨(32::12::Yd 16 16 (7::9::15::14::13::[])),[],[]⟩ F (Q8 2 (.two (.one (.two .leaf (.two (.two (.join [(.normal,⟨[.slot 31 (.val (.bool))],[]⟩)] ⟨(Ql 31 16 []),[],[]⟩ .leaf) .leaf) .leaf))) .leaf))))) .leaf)))) f147 Zgy Xd
theorem Zri(F:Nat):Qg cx 147 (Zw1 F):=Xw (by kernel_rfl)
def Zud(F:Nat):LK:=lC (Z6 F) (lC (Z3 F) (lC (Wa F) lN))
def Qie(F:Nat)(a:Qz):Option (Int):=
 (Zz F (a.2.1::a.2.2::Qa Int)).bind fun(v9:Int)=>(Qx F (decide (a.2.2<a.2.1),(11:Int))).bind fun(v10:Int)=>(Q9 F (v9::v10::Qa Int)).bind fun(v11:Int)=>some (v11)
def Zqy(F:Nat):PC:={ats:=[.agg Xp],rts:=Zg,code:=Qie F}
theorem Qha(F:Nat):Qg cx 114 (Zqy F):=qE (Zud F) .leaf f114 (by kernel_rfl) fun a=>by kernel_rfl
def Zos(F:Nat):LK:=lC (Z6 F) (lC (Qha F) (lC (Vc F) lN))
def Ztw(F:Nat):PC:=qT (Zos F) .leaf f146 [.val (.int .i64),.agg Xp] Zg
theorem Zpp(F:Nat):Qg cx 146 (Ztw F):=Xw (by kernel_rfl)
def Zlm:Qj:=⟨[.slot 0 (.val (.seq Xp))],[(1,.stat (.pv (.lit (.func (.func 146) #[] #[]))))]⟩
def Zn0:Qj:=⟨[.slot 0 (.val (.int .i64))],[]⟩
def Zq1(F:Nat):LK:=lC (Z6 F) (lC (Qha F) (lC (Vc F) (lC (Zpp F) lN)))
def Zjo(F:Nat):PX:=qX (Zq1 F) (.two .leaf (.two (.two .leaf (.one (.loop ⟨[.slot 10 (.val (.int .i64))],[]⟩ [(.ret,⟨[.slot 4 (.val (.int .i64))],[]⟩),(.exit 0,⟨[],[]⟩)] ⟨[22,10,15,16,17,18,7,21,4,20,19,5,6,14,13,12,11],[],[]⟩ F .leaf))) .leaf)) f112 (pxB 2 [] Zlm 1 Zn0 [] [])
theorem Zog(F:Nat):Zb cx 112 (Zjo F):=Xo (by kernel_rfl)
def Yg8(F:Nat):LK:=lN
def c67(F:Nat)(a:ByteArray):Option (Bool):=
 (bif decide ((↑(ByteArray.size a):Int)<(1:Int))then(some (true))else(some (decide (24<(↑(ByteArray.size a):Int))))).bind fun(v16:Bool)=>bif v16 then(some (false))else((Q2 (σ:=Int) (β:=Bool ⊕ Unit) (fun(v20:Int)=>bif decide (v20<(↑(ByteArray.size a):Int))then(gd (decide (0≤v20)) (gd (decide (v20.toNat<ByteArray.size a)) ((bif decide (97≤(↑(BitVec.toFin (UInt8.toBitVec (ByteArray.get! a (v20.toNat)))).1:Int))then(bif decide ((↑(BitVec.toFin (UInt8.toBitVec (ByteArray.get! a (v20.toNat)))).1:Int)≤(122:Int))then(some (true))else(bif decide (65≤(↑(BitVec.toFin (UInt8.toBitVec (ByteArray.get! a (v20.toNat)))).1:Int))then(some (decide ((↑(BitVec.toFin (UInt8.toBitVec (ByteArray.get! a (v20.toNat)))).1:Int)≤(90:Int))))else(some (false))))else(bif decide (65≤(↑(BitVec.toFin (UInt8.toBitVec (ByteArray.get! a (v20.toNat)))).1:Int))then(some (decide ((↑(BitVec.toFin (UInt8.toBitVec (ByteArray.get! a (v20.toNat)))).1:Int)≤(90:Int))))else(some (false)))).bind fun(v21:Bool)=>(bif !v21 then(bif decide (v20=0)then(some (true))else(bif decide (48≤(↑(BitVec.toFin (UInt8.toBitVec (ByteArray.get! a (v20.toNat)))).1:Int))then(bif decide ((↑(BitVec.toFin (UInt8.toBitVec (ByteArray.get! a (v20.toNat)))).1:Int)≤(57:Int))then(some (!true))else(some (!decide ((↑(BitVec.toFin (UInt8.toBitVec (ByteArray.get! a (v20.toNat)))).1:Int)=(95:Int)))))else(some (!decide ((↑(BitVec.toFin (UInt8.toBitVec (ByteArray.get! a (v20.toNat)))).1:Int)=(95:Int))))))else(some (false))).bind fun(v22:Bool)=>bif v22 then(some (Sum.inr (Sum.inl false)))else(some (Sum.inl (w64 (v20+1)))))))else(some (Sum.inr (Sum.inr ())))) F ((0:Int))).bind fun(v17:Bool ⊕ Unit)=>Sum.elim (fun(v18:Bool)=>some (v18)) (fun(v19:Unit)=>some (true)) (v17))
def Yjx(F:Nat):PC:={ats:=Qa1,rts:=Xd,code:=c67 F}
theorem Qov(F:Nat):Qg cx 67 (Yjx F):=qE (Yg8 F) (.two .leaf (.two (.two (.join [(.normal,⟨[.slot 13 (.val (.bool))],[]⟩)] ⟨(Ql 13 8 []),[],[]⟩ .leaf) .leaf) (.two (.two .leaf (.one (.loop ⟨[.slot 3 (.val (.int .i64))],[]⟩ [(.ret,⟨[.slot 2 (.val (.bool))],[]⟩),(.exit 0,⟨[],[]⟩)] ⟨(20::21::22::4::Yd 37 19 (2::5::Ql 36 14 (3::Ql 19 6 []))),[],[]⟩ F (.two .leaf (.two (.one (.two .leaf (.two (.join [(.normal,⟨[.slot 5 (.val (.bool))],[]⟩)] ⟨(5::Ql 36 14 []),[],[]⟩ .leaf) (.two (.join [(.normal,⟨[.slot 55 (.val (.bool))],[]⟩)] ⟨(Ql 55 19 []),[],[]⟩ .leaf) .leaf)))) .leaf))))) .leaf))) f67 (by kernel_rfl) fun a=>by kernel_rfl
def Yhb(F:Nat):LK:=lN
def c94(F:Nat)(a:Int×Int):Option (Bool):=
 (bif decide (a.1<0)then(some (true))else(some (decide (a.2<a.1)))).bind fun(v5:Bool)=>some (v5)
def Zwq(F:Nat):PC:={ats:=Qpb,rts:=Xd,code:=c94 F}
theorem Qin(F:Nat):Qg cx 94 (Zwq F):=qE (Yhb F) (.two .leaf (.two (.join [(.normal,⟨[.slot 4 (.val (.bool))],[]⟩)] ⟨(4::Ql 11 7 []),[],[]⟩ .leaf) .leaf)) f94 (by kernel_rfl) fun a=>by kernel_rfl
def Zlt(F:Nat):LK:=lN
def Zxq(F:Nat):PC:=qT (Zlt F) (.two .leaf (.two (.two .leaf (.one (.loop ⟨[.slot 7 (.val (.int .i64))],[]⟩ [(.ret,⟨[.slot 6 (.val (.bool))],[]⟩),(.exit 0,⟨[],[]⟩)] ⟨(Yd 14 25 (6::7::Ql 13 6 [])),[],[]⟩ F (.two .leaf (.two (.one (.two (.join [(.normal,⟨[.slot 38 (.val (.bool))],[]⟩)] ⟨(Ql 38 25 []),[],[]⟩ .leaf) .leaf)) .leaf))))) .leaf)) f68 Zgy Xd
theorem Ya4(F:Nat):Qg cx 68 (Zxq F):=Xw (by kernel_rfl)
def Yij(F:Nat):LK:=lN
def c44(F:Nat)(a:List ByteArray×List ByteArray):Option (Bool):=
 bif !decide ((↑(a.1.length):Int)=(↑(a.2.length):Int))then(some (false))else((Q2 (σ:=Int) (β:=Bool ⊕ Unit) (fun(v13:Int)=>bif decide (v13<(↑(a.1.length):Int))then(gd (decide (0≤v13)) (gd (decide (v13<(↑(a.1.length):Int))) (gd (decide (v13.toNat<a.1.length)) (gd (decide (0≤v13)) (gd (decide (v13<(↑(a.2.length):Int))) (gd (decide (v13.toNat<a.2.length)) (bif !Qc (a.1.getD (v13.toNat) ByteArray.empty) (a.2.getD (v13.toNat) ByteArray.empty)then(some (Sum.inr (Sum.inl false)))else(some (Sum.inl (w64 (v13+1)))))))))))else(some (Sum.inr (Sum.inr ())))) F ((0:Int))).bind fun(v10:Bool ⊕ Unit)=>Sum.elim (fun(v11:Bool)=>some (v11)) (fun(v12:Unit)=>some (true)) (v10))
def Qzs(F:Nat):PC:={ats:=[.val (.seq Z2),.val (.seq Z2)],rts:=Xd,code:=c44 F}
theorem Qy8(F:Nat):Qg cx 44 (Qzs F):=qE (Yij F) (Q8 2 (.two (.two .leaf (.one (.loop ⟨[.slot 5 (.val (.int .i64))],[]⟩ [(.ret,⟨[.slot 4 (.val (.bool))],[]⟩),(.exit 0,⟨[],[]⟩)] ⟨(Yd 17 9 (4::5::Ql 16 6 [])),[],[]⟩ F .leaf))) .leaf)) f44 (by kernel_rfl) fun a=>by kernel_rfl
def Yev(F:Nat):LK:=lN
def c45(F:Nat)(a:List Int×List Int):Option (Bool):=
 bif !decide ((↑(a.1.length):Int)=(↑(a.2.length):Int))then(some (false))else((Q2 (σ:=Int) (β:=Bool ⊕ Unit) (fun(v13:Int)=>bif decide (v13<(↑(a.1.length):Int))then(gd (decide (0≤v13)) (gd (decide (v13<(↑(a.1.length):Int))) (gd (decide (v13.toNat<a.1.length)) (gd (decide (0≤v13)) (gd (decide (v13<(↑(a.2.length):Int))) (gd (decide (v13.toNat<a.2.length)) (bif !decide (a.1.getD (v13.toNat) (0:Int)=a.2.getD (v13.toNat) (0:Int))then(some (Sum.inr (Sum.inl false)))else(some (Sum.inl (w64 (v13+1)))))))))))else(some (Sum.inr (Sum.inr ())))) F ((0:Int))).bind fun(v10:Bool ⊕ Unit)=>Sum.elim (fun(v11:Bool)=>some (v11)) (fun(v12:Unit)=>some (true)) (v10))
def Qyq(F:Nat):PC:={ats:=[.val (.seq K0),.val (.seq K0)],rts:=Xd,code:=c45 F}
theorem Zjq(F:Nat):Qg cx 45 (Qyq F):=qE (Yev F) (Q8 2 (.two (.two .leaf (.one (.loop ⟨[.slot 5 (.val (.int .i64))],[]⟩ [(.ret,⟨[.slot 4 (.val (.bool))],[]⟩),(.exit 0,⟨[],[]⟩)] ⟨(Yd 17 9 (4::5::Ql 16 6 [])),[],[]⟩ F .leaf))) .leaf)) f45 (by kernel_rfl) fun a=>by kernel_rfl
def Znd(F:Nat):LK:=lN
def c47(F:Nat)(a:(Za)×ByteArray):Option (Int):=
 (Q2 (σ:=Int) (β:=Int ⊕ Unit) (fun(v13:Int)=>bif decide (v13<(↑(a.1.2.2.2.2.length):Int))then(gd (decide (0≤v13)) (gd (decide (v13<(↑(a.1.2.2.2.2.length):Int))) (gd (decide (v13.toNat<a.1.2.2.2.2.length)) (bif Qc (a.1.2.2.2.2.getD (v13.toNat) Zc).1 a.2 then(some (Sum.inr (Sum.inl v13)))else(some (Sum.inl (w64 (v13+1))))))))else(some (Sum.inr (Sum.inr ())))) F ((0:Int))).bind fun(v10:Int ⊕ Unit)=>Sum.elim (fun(v11:Int)=>some (v11)) (fun(v12:Unit)=>some ((-1:Int))) (v10)
def Zr2(F:Nat):PC:={ats:=[.agg Y9,.val (.str)],rts:=Zg,code:=c47 F}
theorem Qfe(F:Nat):Qg cx 47 (Zr2 F):=qE (Znd F) (.two .leaf (.two (.two .leaf (.one (.loop ⟨[.slot 5 (.val (.int .i64))],[]⟩ [(.ret,⟨[.slot 4 (.val (.int .i64))],[]⟩),(.exit 0,⟨[],[]⟩)] ⟨(Yd 13 8 (4::21::5::Ql 12 7 [])),[],[]⟩ F .leaf))) .leaf)) f47 (by kernel_rfl) fun a=>by kernel_rfl
def Zp0(F:Nat):LK:=lN
def Qop(F:Nat)(a:ByteArray):Option (Bool):=
 (bif Qc a {data:=List.toArray (68::78::83::Qa UInt8)}then(some (true))else(bif Qc a {data:=List.toArray (68::78::70::Qa UInt8)}then(some (true))else(bif Qc a {data:=List.toArray (68::81::Qa UInt8)}then(some (true))else(some (Qc a {data:=List.toArray (78::77::Qa UInt8)}))))).bind fun(v5:Bool)=>some (v5)
def Zug(F:Nat):PC:={ats:=Qa1,rts:=Xd,code:=Qop F}
theorem Zyy(F:Nat):Qg cx 210 (Zug F):=qE (Zp0 F) (.two .leaf (.two (.join [(.normal,⟨[.slot 2 (.val (.bool))],[]⟩)] ⟨(2::Ql 16 14 []),[],[]⟩ .leaf) .leaf)) f210 (by kernel_rfl) fun a=>by kernel_rfl
def Zr9(F:Nat):LK:=lN
def Qs9(F:Nat)(a:ByteArray):Option (Int):=
 bif Qc a {data:=List.toArray (116::105::109::101::Qa UInt8)}then(some ((863999999:Int)))else(bif Qc a {data:=List.toArray (108::101::110::103::116::104::Qa UInt8)}then(some ((999999:Int)))else(some ((99999:Int))))
def Zjz(F:Nat):PC:={ats:=Qa1,rts:=Zg,code:=Qs9 F}
theorem Zrz(F:Nat):Qg cx 212 (Zjz F):=qE (Zr9 F) .leaf f212 (by kernel_rfl) fun a=>by kernel_rfl
def Ztf(F:Nat):LK:=lN
def Quh(F:Nat)(a:ByteArray):Option (Int):=
 bif Qc a {data:=List.toArray (116::105::109::101::Qa UInt8)}then(some ((1:Int)))else(some ((0:Int)))
def Zuc(F:Nat):PC:={ats:=Qa1,rts:=Zg,code:=Quh F}
theorem Zji(F:Nat):Qg cx 211 (Zuc F):=qE (Ztf F) .leaf f211 (by kernel_rfl) fun a=>by kernel_rfl
def Zt7(F:Nat):LK:=lC (Zji F) (lC (Zrz F) (lC (Zyy F) lN))
def Qj3(F:Nat)(a:ByteArray×Int×ByteArray):Option (Int):=
 bif Qc a.1 {data:=List.toArray (110::111::110::101::Qa UInt8)}then((Qop F a.2.2).bind fun(v18:Bool)=>bif !v18 then(some ((1:Int)))else(bif !decide (a.2.1=0)then(some ((3:Int)))else(some ((0:Int)))))else((bif Qc a.1 {data:=List.toArray (116::105::109::101::Qa UInt8)}then(some (Qc a.1 {data:=List.toArray (116::105::109::101::Qa UInt8)}))else((bif Qc a.1 {data:=List.toArray (108::101::110::103::116::104::Qa UInt8)}then(some (Qc a.1 {data:=List.toArray (108::101::110::103::116::104::Qa UInt8)}))else(some (Qc a.1 {data:=List.toArray (112::111::105::110::116::115::Qa UInt8)}))).bind fun(v23:Bool)=>some (v23))).bind fun(v19:Bool)=>bif v19 then(bif !Qc a.2.2 {data:=List.toArray (Qa UInt8)}then(some ((1:Int)))else(((Quh F a.1).bind fun(v21:Int)=>bif decide (a.2.1<v21)then(some (true))else((Qs9 F a.1).bind fun(v22:Int)=>some (decide (v22<a.2.1)))).bind fun(v20:Bool)=>bif v20 then(some ((3:Int)))else(some ((0:Int)))))else(some ((13:Int))))
def Yfl(F:Nat):PC:={ats:=[.agg Wk],rts:=Zg,code:=Qj3 F}
theorem Zcf(F:Nat):Qg cx 156 (Yfl F):=qE (Zt7 F) (.two .leaf (.two (.two .leaf (.one (Q8 2 (.two (.two .leaf (.join [(.normal,⟨[.slot 14 (.val (.bool))],[]⟩)] ⟨[16,14,17],[],[]⟩ (Q8 2 (.join [(.normal,⟨[.slot 14 (.val (.bool))],[]⟩)] ⟨[17,14],[],[]⟩ .leaf)))) (.two (.two .leaf (.two (.two (.join [(.normal,⟨[.slot 34 (.val (.bool))],[]⟩)] ⟨(Ql 34 14 []),[],[]⟩ .leaf) .leaf) .leaf)) .leaf))))) .leaf)) f156 (by kernel_rfl) fun a=>by kernel_rfl
def Zlx(F:Nat):LK:=lN
def Qjq(F:Nat)(a:(ByteArray×Int×ByteArray)×ByteArray):Option (Bool):=
 (bif Qc a.1.1 a.2 then(some (true))else(some (Qc a.1.1 {data:=List.toArray (110::111::110::101::Qa UInt8)}))).bind fun(v5:Bool)=>some (v5)
def Zm6(F:Nat):PC:={ats:=[.agg Wk,.val (.str)],rts:=Xd,code:=Qjq F}
theorem Qun(F:Nat):Qg cx 157 (Zm6 F):=qE (Zlx F) (.two .leaf (.two (.join [(.normal,⟨[.slot 4 (.val (.bool))],[]⟩)] ⟨(4::Ql 13 9 []),[],[]⟩ .leaf) .leaf)) f157 (by kernel_rfl) fun a=>by kernel_rfl
def Yim(F:Nat):LK:=lC (Qov F) (lC (Qin F) (lC (Qun F) (lC (Zcf F) (lC (Qfe F) lN))))
def c95(F:Nat)(a:(Za)×Int):Option (Int):=
 gd (decide (0≤a.2)) (gd (decide (a.2<(↑(a.1.2.2.2.2.length):Int))) (gd (decide (a.2.toNat<a.1.2.2.2.2.length)) ((c67 F (a.1.2.2.2.2.getD (a.2.toNat) Zc).1).bind fun(v42:Bool)=>bif !v42 then(some ((8:Int)))else((c47 F (a.1,(a.1.2.2.2.2.getD (a.2.toNat) Zc).1)).bind fun(v43:Int)=>bif decide (v43<a.2)then(some ((9:Int)))else((bif !Qc (a.1.2.2.2.2.getD (a.2.toNat) Zc).2.1 {data:=List.toArray (116::105::109::101::Qa UInt8)}then(bif !Qc (a.1.2.2.2.2.getD (a.2.toNat) Zc).2.1 {data:=List.toArray (108::101::110::103::116::104::Qa UInt8)}then(some (!Qc (a.1.2.2.2.2.getD (a.2.toNat) Zc).2.1 {data:=List.toArray (112::111::105::110::116::115::Qa UInt8)}))else(some (false)))else(some (false))).bind fun(v44:Bool)=>bif v44 then(some ((13:Int)))else((bif !Qc (a.1.2.2.2.2.getD (a.2.toNat) Zc).2.2.1 {data:=List.toArray (Qa UInt8)}then((c67 F (a.1.2.2.2.2.getD (a.2.toNat) Zc).2.2.1).bind fun(v57:Bool)=>some (!v57))else(some (false))).bind fun(v45:Bool)=>bif v45 then(some ((8:Int)))else(((c94 F ((a.1.2.2.2.2.getD (a.2.toNat) Zc).2.2.2.1,(120:Int))).bind fun(v55:Bool)=>bif v55 then(some (true))else((c94 F ((a.1.2.2.2.2.getD (a.2.toNat) Zc).2.2.2.2.1,(120:Int))).bind fun(v56:Bool)=>some (v56))).bind fun(v46:Bool)=>bif v46 then(some ((3:Int)))else(bif decide ((a.1.2.2.2.2.getD (a.2.toNat) Zc).2.2.2.2.1<(a.1.2.2.2.2.getD (a.2.toNat) Zc).2.2.2.1)then(some ((11:Int)))else(((c94 F ((a.1.2.2.2.2.getD (a.2.toNat) Zc).2.2.2.2.2.1,(160:Int))).bind fun(v52:Bool)=>bif v52 then(some (true))else((c94 F ((a.1.2.2.2.2.getD (a.2.toNat) Zc).2.2.2.2.2.2.1,(160:Int))).bind fun(v53:Bool)=>bif v53 then(some (true))else((c94 F ((a.1.2.2.2.2.getD (a.2.toNat) Zc).2.2.2.2.2.2.2.2.2.2,(8:Int))).bind fun(v54:Bool)=>some (v54)))).bind fun(v47:Bool)=>bif v47 then(some ((3:Int)))else((Qj3 F ((a.1.2.2.2.2.getD (a.2.toNat) Zc).2.2.2.2.2.2.2.1,(a.1.2.2.2.2.getD (a.2.toNat) Zc).2.2.2.2.2.2.2.2.1,(a.1.2.2.2.2.getD (a.2.toNat) Zc).2.2.2.2.2.2.2.2.2.1)).bind fun(v48:Int)=>(bif decide (v48=0)then((Qjq F (((a.1.2.2.2.2.getD (a.2.toNat) Zc).2.2.2.2.2.2.2.1,(a.1.2.2.2.2.getD (a.2.toNat) Zc).2.2.2.2.2.2.2.2.1,(a.1.2.2.2.2.getD (a.2.toNat) Zc).2.2.2.2.2.2.2.2.2.1),(a.1.2.2.2.2.getD (a.2.toNat) Zc).2.1)).bind fun(v51:Bool)=>some (!v51))else(some (false))).bind fun(v49:Bool)=>(bif v49 then(some ((13:Int)))else(some (v48))).bind fun(v50:Int)=>some (v50)))))))))))
def Zuo(F:Nat):PC:={ats:=[.agg Y9,.val (.int .i64)],rts:=Zg,code:=c95 F}
theorem Zq8(F:Nat):Qg cx 95 (Zuo F):=qE (Yim F) (Q8 4 (.two (.two (.join [(.normal,⟨[.slot 34 (.val (.bool))],[]⟩)] ⟨(Ql 34 13 []),[],[]⟩ .leaf) .leaf) (.two (.two (.join [(.normal,⟨[.slot 43 (.val (.bool))],[]⟩)] ⟨(Ql 43 9 []),[],[]⟩ .leaf) .leaf) (.two (.two (.join [(.normal,⟨[.slot 51 (.val (.bool))],[]⟩)] ⟨(Ql 51 8 []),[],[]⟩ .leaf) .leaf) (.two .leaf (.two (.two (.join [(.normal,⟨[.slot 69 (.val (.bool))],[]⟩)] ⟨(Ql 69 13 []),[],[]⟩ .leaf) .leaf) (.two .leaf (.two (.two (.join [(.normal,⟨[.slot 82 (.val (.bool))],[]⟩)] ⟨(Ql 82 10 []),[],[]⟩ .leaf) (.join [(.normal,⟨[.slot 6 (.val (.int .i64))],[]⟩)] ⟨[6],[],[]⟩ .leaf)) .leaf)))))))) f95 (by kernel_rfl) fun a=>by kernel_rfl
def Yjp(F:Nat):LK:=lC (Zq8 F) (lC (Qin F) lN)
def c22(F:Nat)(a:Za):Option (Int):=
 ((c94 F (a.1,(99999:Int))).bind fun(v35:Bool)=>bif v35 then(some (true))else((c94 F (a.2.1,(99999:Int))).bind fun(v36:Bool)=>bif v36 then(some (true))else((c94 F (a.2.2.1,(99999:Int))).bind fun(v37:Bool)=>some (v37)))).bind fun(v27:Bool)=>bif v27 then(some ((3:Int)))else((bif decide (a.2.2.1<a.2.1)then(some (true))else(some (decide (a.1<a.2.2.1)))).bind fun(v28:Bool)=>bif v28 then(some ((11:Int)))else((c94 F (a.2.2.2.1,(32:Int))).bind fun(v29:Bool)=>bif v29 then(some ((3:Int)))else(bif decide (32<(↑(a.2.2.2.2.length):Int))then(some ((5:Int)))else((Q2 (σ:=Int) (β:=Int ⊕ Unit) (fun(v33:Int)=>bif decide (v33<(↑(a.2.2.2.2.length):Int))then((c95 F (a,v33)).bind fun(v34:Int)=>bif !decide (v34=0)then(some (Sum.inr (Sum.inl v34)))else(some (Sum.inl (w64 (v33+1)))))else(some (Sum.inr (Sum.inr ())))) F ((0:Int))).bind fun(v30:Int ⊕ Unit)=>Sum.elim (fun(v31:Int)=>some (v31)) (fun(v32:Unit)=>some ((0:Int))) (v30)))))
def Zvo(F:Nat):PC:={ats:=[.agg Y9],rts:=Zg,code:=c22 F}
theorem Zxs(F:Nat):Qg cx 22 (Zvo F):=qE (Yjp F) (.two .leaf (.two (.two (.join [(.normal,⟨[.slot 17 (.val (.bool))],[]⟩)] ⟨(Ql 17 13 []),[],[]⟩ .leaf) .leaf) (.two (.two (.join [(.normal,⟨[.slot 29 (.val (.bool))],[]⟩)] ⟨(Ql 29 12 []),[],[]⟩ .leaf) .leaf) (Q8 2 (.two (.two .leaf (.one (.loop ⟨[.slot 3 (.val (.int .i64))],[]⟩ [(.ret,⟨[.slot 2 (.val (.int .i64))],[]⟩),(.exit 0,⟨[],[]⟩)] ⟨[44,45,46,4,49,2,48,47,3,43,42,41,40,39,38,37],[],[]⟩ F .leaf))) .leaf))))) f22 (by kernel_rfl) fun a=>by kernel_rfl
def Zjh(F:Nat):LK:=lC (Qov F) lN
def Qm1(F:Nat)(a:ByteArray):Option (Int):=
 (c67 F a).bind fun(v5:Bool)=>bif !v5 then(some ((8:Int)))else(some ((0:Int)))
def Zwc(F:Nat):PC:={ats:=Qa1,rts:=Zg,code:=Qm1 F}
theorem Zrx(F:Nat):Qg cx 180 (Zwc F):=qE (Zjh F) .leaf f180 (by kernel_rfl) fun a=>by kernel_rfl
def Yay(F:Nat):LK:=lC (Qin F) lN
def Qmb(F:Nat)(a:Int):Option (Int):=
 (c94 F (a,(99999:Int))).bind fun(v5:Bool)=>bif v5 then(some ((3:Int)))else(some ((0:Int)))
def Zv1(F:Nat):PC:={ats:=Zg,rts:=Zg,code:=Qmb F}
theorem Yfs(F:Nat):Qg cx 181 (Zv1 F):=qE (Yay F) .leaf f181 (by kernel_rfl) fun a=>by kernel_rfl
def Zw6(F:Nat):LK:=lN
def c40(F:Nat)(a:(Qk)×ByteArray):Option (Int):=
 (Q2 (σ:=Int) (β:=Int ⊕ Unit) (fun(v13:Int)=>bif decide (v13<(↑(a.1.2.1.length):Int))then(gd (decide (0≤v13)) (gd (decide (v13<(↑(a.1.2.1.length):Int))) (gd (decide (v13.toNat<a.1.2.1.length)) (bif Qc (a.1.2.1.getD (v13.toNat) Xn).1 a.2 then(some (Sum.inr (Sum.inl v13)))else(some (Sum.inl (w64 (v13+1))))))))else(some (Sum.inr (Sum.inr ())))) F ((0:Int))).bind fun(v10:Int ⊕ Unit)=>Sum.elim (fun(v11:Int)=>some (v11)) (fun(v12:Unit)=>some ((-1:Int))) (v10)
def Ykj(F:Nat):PC:={ats:=Qct,rts:=Zg,code:=c40 F}
theorem Qca(F:Nat):Qg cx 40 (Ykj F):=qE (Zw6 F) (.two .leaf (.two (.two .leaf (.one (.loop ⟨[.slot 5 (.val (.int .i64))],[]⟩ [(.ret,⟨[.slot 4 (.val (.int .i64))],[]⟩),(.exit 0,⟨[],[]⟩)] ⟨(Yd 13 8 (4::21::5::Ql 12 7 [])),[],[]⟩ F .leaf))) .leaf)) f40 (by kernel_rfl) fun a=>by kernel_rfl
def Znc(F:Nat):LK:=lN
def c53(F:Nat)(a:(Qk)×ByteArray×ByteArray):Option (Int):=
 (Q2 (σ:=Int) (β:=Int ⊕ Unit) (fun(v15:Int)=>bif decide (v15<(↑(a.1.2.2.2.1.length):Int))then((gd (decide (0≤v15)) (gd (decide (v15<(↑(a.1.2.2.2.1.length):Int))) (gd (decide (v15.toNat<a.1.2.2.2.1.length)) (bif Qc (a.1.2.2.2.1.getD (v15.toNat) Q6).1 a.2.1 then(gd (decide (0≤v15)) (gd (decide (v15<(↑(a.1.2.2.2.1.length):Int))) (gd (decide (v15.toNat<a.1.2.2.2.1.length)) (some (Qc (a.1.2.2.2.1.getD (v15.toNat) Q6).2.1 a.2.2)))))else(some (false)))))).bind fun(v16:Bool)=>bif v16 then(some (Sum.inr (Sum.inl v15)))else(some (Sum.inl (w64 (v15+1)))))else(some (Sum.inr (Sum.inr ())))) F ((0:Int))).bind fun(v12:Int ⊕ Unit)=>Sum.elim (fun(v13:Int)=>some (v13)) (fun(v14:Unit)=>some ((-1:Int))) (v12)
def Zyc(F:Nat):PC:={ats:=Qhp,rts:=Zg,code:=c53 F}
theorem Qst(F:Nat):Qg cx 53 (Zyc F):=qE (Znc F) (.two .leaf (.two (.two .leaf (.one (.loop ⟨[.slot 7 (.val (.int .i64))],[]⟩ [(.ret,⟨[.slot 6 (.val (.int .i64))],[]⟩),(.exit 0,⟨[],[]⟩)] ⟨(Yd 15 18 (6::33::7::Ql 14 7 [])),[],[]⟩ F (.two .leaf (.two (.one (.two (.join [(.normal,⟨[.slot 32 (.val (.bool))],[]⟩)] ⟨(Ql 32 18 []),[],[]⟩ .leaf) .leaf)) .leaf))))) .leaf)) f53 (by kernel_rfl) fun a=>by kernel_rfl
def Zow(F:Nat):LK:=lC (Qfe F) (lC (Zcf F) (lC (Yfs F) (lC (Qun F) (lC (Qst F) (lC (Qca F) lN)))))
def Qlm(F:Nat)(a:(Qk)×(Za)×Int):Option (Int):=
 gd (decide (0≤a.2.2)) (gd (decide (a.2.2<(↑(a.1.2.2.2.1.length):Int))) (gd (decide (a.2.2.toNat<a.1.2.2.2.1.length)) ((c47 F (a.2.1,(a.1.2.2.2.1.getD (a.2.2.toNat) Q6).2.1)).bind fun(v26:Int)=>((c40 F (a.1,(a.1.2.2.2.1.getD (a.2.2.toNat) Q6).1)).bind fun(v35:Int)=>bif decide (v35<0)then(some (true))else(some (decide (v26<0)))).bind fun(v27:Bool)=>bif v27 then(some ((10:Int)))else(gd (decide (0≤v26)) (gd (decide (v26<(↑(a.2.1.2.2.2.2.length):Int))) (gd (decide (v26.toNat<a.2.1.2.2.2.2.length)) (bif decide (0<(a.2.1.2.2.2.2.getD (v26.toNat) Zc).2.2.2.2.2.2.2.2.2.2)then(some ((13:Int)))else((c53 F (a.1,(a.1.2.2.2.1.getD (a.2.2.toNat) Q6).1,(a.1.2.2.2.1.getD (a.2.2.toNat) Q6).2.1)).bind fun(v28:Int)=>bif decide (v28<a.2.2)then(some ((9:Int)))else((Qj3 F ((a.1.2.2.2.1.getD (a.2.2.toNat) Q6).2.2.1,(a.1.2.2.2.1.getD (a.2.2.toNat) Q6).2.2.2.1,(a.1.2.2.2.1.getD (a.2.2.toNat) Q6).2.2.2.2.1)).bind fun(v29:Int)=>(bif decide (v29=0)then(gd (decide (0≤v26)) (gd (decide (v26<(↑(a.2.1.2.2.2.2.length):Int))) (gd (decide (v26.toNat<a.2.1.2.2.2.2.length)) ((Qjq F (((a.1.2.2.2.1.getD (a.2.2.toNat) Q6).2.2.1,(a.1.2.2.2.1.getD (a.2.2.toNat) Q6).2.2.2.1,(a.1.2.2.2.1.getD (a.2.2.toNat) Q6).2.2.2.2.1),(a.2.1.2.2.2.2.getD (v26.toNat) Zc).2.1)).bind fun(v34:Bool)=>some (!v34)))))else(some (false))).bind fun(v30:Bool)=>(bif v30 then(some ((13:Int)))else(some (v29))).bind fun(v31:Int)=>(bif decide (v31=0)then((Qmb F (a.1.2.2.2.1.getD (a.2.2.toNat) Q6).2.2.2.2.2.1).bind fun(v33:Int)=>some (v33))else(some (v31))).bind fun(v32:Int)=>some (v32))))))))))
def Zwk(F:Nat):PC:={ats:=Zfc,rts:=Zg,code:=Qlm F}
theorem Zxw(F:Nat):Qg cx 122 (Zwk F):=qE (Zow F) (Q8 3 (.two (.two (.join [(.normal,⟨[.slot 27 (.val (.bool))],[]⟩)] ⟨(Ql 27 9 []),[],[]⟩ .leaf) .leaf) (Q8 3 (.two (.two (.join [(.normal,⟨[.slot 59 (.val (.bool))],[]⟩)] ⟨(Ql 59 14 []),[],[]⟩ .leaf) (.join [(.normal,⟨[.slot 9 (.val (.int .i64))],[]⟩)] ⟨[9],[],[]⟩ .leaf)) (.two (.two .leaf (.join [(.normal,⟨[.slot 9 (.val (.int .i64))],[]⟩)] ⟨[9,64,63,62],[],[]⟩ .leaf)) .leaf))))) f122 (by kernel_rfl) fun a=>by kernel_rfl
def Zwy(F:Nat):LK:=lN
def c54(F:Nat)(a:List ByteArray×ByteArray):Option (Bool):=
 (Q2 (σ:=Int) (β:=Bool ⊕ Unit) (fun(v13:Int)=>bif decide (v13<(↑(a.1.length):Int))then(gd (decide (0≤v13)) (gd (decide (v13<(↑(a.1.length):Int))) (gd (decide (v13.toNat<a.1.length)) (bif Qc (a.1.getD (v13.toNat) ByteArray.empty) a.2 then(some (Sum.inr (Sum.inl true)))else(some (Sum.inl (w64 (v13+1))))))))else(some (Sum.inr (Sum.inr ())))) F ((0:Int))).bind fun(v10:Bool ⊕ Unit)=>Sum.elim (fun(v11:Bool)=>some (v11)) (fun(v12:Unit)=>some (false)) (v10)
def Zrw(F:Nat):PC:={ats:=Qoy,rts:=Xd,code:=c54 F}
theorem Qfc(F:Nat):Qg cx 54 (Zrw F):=qE (Zwy F) (.two .leaf (.two (.two .leaf (.one (.loop ⟨[.slot 5 (.val (.int .i64))],[]⟩ [(.ret,⟨[.slot 4 (.val (.bool))],[]⟩),(.exit 0,⟨[],[]⟩)] ⟨(Yd 12 6 (4::5::Ql 11 6 [])),[],[]⟩ F .leaf))) .leaf)) f54 (by kernel_rfl) fun a=>by kernel_rfl
def Ybh(F:Nat):LK:=lN
def Qeo(F:Nat)(a:(Qk)×ByteArray×ByteArray):Option (Int):=
 (Q2 (σ:=Int) (β:=Int ⊕ Unit) (fun(v15:Int)=>bif decide (v15<(↑(a.1.2.2.2.2.length):Int))then((gd (decide (0≤v15)) (gd (decide (v15<(↑(a.1.2.2.2.2.length):Int))) (gd (decide (v15.toNat<a.1.2.2.2.2.length)) (bif Qc (a.1.2.2.2.2.getD (v15.toNat) (ByteArray.empty,ByteArray.empty,Qa ByteArray)).1 a.2.1 then(gd (decide (0≤v15)) (gd (decide (v15<(↑(a.1.2.2.2.2.length):Int))) (gd (decide (v15.toNat<a.1.2.2.2.2.length)) (some (Qc (a.1.2.2.2.2.getD (v15.toNat) (ByteArray.empty,ByteArray.empty,Qa ByteArray)).2.1 a.2.2)))))else(some (false)))))).bind fun(v16:Bool)=>bif v16 then(some (Sum.inr (Sum.inl v15)))else(some (Sum.inl (w64 (v15+1)))))else(some (Sum.inr (Sum.inr ())))) F ((0:Int))).bind fun(v12:Int ⊕ Unit)=>Sum.elim (fun(v13:Int)=>some (v13)) (fun(v14:Unit)=>some ((-1:Int))) (v12)
def Zjx(F:Nat):PC:={ats:=Qhp,rts:=Zg,code:=Qeo F}
theorem Ydt(F:Nat):Qg cx 145 (Zjx F):=qE (Ybh F) (.two .leaf (.two (.two .leaf (.one (.loop ⟨[.slot 7 (.val (.int .i64))],[]⟩ [(.ret,⟨[.slot 6 (.val (.int .i64))],[]⟩),(.exit 0,⟨[],[]⟩)] ⟨(Yd 15 18 (6::33::7::Ql 14 7 [])),[],[]⟩ F (.two .leaf (.two (.one (.two (.join [(.normal,⟨[.slot 32 (.val (.bool))],[]⟩)] ⟨(Ql 32 18 []),[],[]⟩ .leaf) .leaf)) .leaf))))) .leaf)) f145 (by kernel_rfl) fun a=>by kernel_rfl
def Ye1(F:Nat):LK:=lC (Qfe F) (lC (Qca F) (lC (Ydt F) (lC (Qfc F) lN)))
def Ql8(F:Nat)(a:(Qk)×(Za)×Int):Option (Int):=
 gd (decide (0≤a.2.2)) (gd (decide (a.2.2<(↑(a.1.2.2.2.2.length):Int))) (gd (decide (a.2.2.toNat<a.1.2.2.2.2.length)) ((c47 F (a.2.1,(a.1.2.2.2.2.getD (a.2.2.toNat) (ByteArray.empty,ByteArray.empty,Qa ByteArray)).2.1)).bind fun(v23:Int)=>((c54 F (a.1.1,(a.1.2.2.2.2.getD (a.2.2.toNat) (ByteArray.empty,ByteArray.empty,Qa ByteArray)).1)).bind fun(v32:Bool)=>bif !v32 then(some (true))else(some (decide (v23<0)))).bind fun(v24:Bool)=>bif v24 then(some ((10:Int)))else(gd (decide (0≤v23)) (gd (decide (v23<(↑(a.2.1.2.2.2.2.length):Int))) (gd (decide (v23.toNat<a.2.1.2.2.2.2.length)) (bif decide ((a.2.1.2.2.2.2.getD (v23.toNat) Zc).2.2.2.2.2.2.2.2.2.2=0)then(some ((13:Int)))else((Qeo F (a.1,(a.1.2.2.2.2.getD (a.2.2.toNat) (ByteArray.empty,ByteArray.empty,Qa ByteArray)).1,(a.1.2.2.2.2.getD (a.2.2.toNat) (ByteArray.empty,ByteArray.empty,Qa ByteArray)).2.1)).bind fun(v25:Int)=>bif decide (v25<a.2.2)then(some ((9:Int)))else(gd (decide (0≤v23)) (gd (decide (v23<(↑(a.2.1.2.2.2.2.length):Int))) (gd (decide (v23.toNat<a.2.1.2.2.2.2.length)) (bif !decide ((↑(List.length (a.1.2.2.2.2.getD (a.2.2.toNat) (ByteArray.empty,ByteArray.empty,Qa ByteArray)).2.2):Int)=(a.2.1.2.2.2.2.getD (v23.toNat) Zc).2.2.2.2.2.2.2.2.2.2)then(some ((2:Int)))else((Q2 (σ:=Int) (β:=Int ⊕ Unit) (fun(v29:Int)=>bif decide (v29<(↑(List.length (a.1.2.2.2.2.getD (a.2.2.toNat) (ByteArray.empty,ByteArray.empty,Qa ByteArray)).2.2):Int))then(gd (decide (0≤v29)) (gd (decide (v29<(↑(List.length (a.1.2.2.2.2.getD (a.2.2.toNat) (ByteArray.empty,ByteArray.empty,Qa ByteArray)).2.2):Int))) (gd (decide (v29.toNat<List.length (a.1.2.2.2.2.getD (a.2.2.toNat) (ByteArray.empty,ByteArray.empty,Qa ByteArray)).2.2)) ((c40 F (a.1,List.getD (a.1.2.2.2.2.getD (a.2.2.toNat) (ByteArray.empty,ByteArray.empty,Qa ByteArray)).2.2 (v29.toNat) ByteArray.empty)).bind fun(v30:Int)=>bif decide (v30<0)then(some (Sum.inr (Sum.inl (10:Int))))else(gd (decide (0≤v29)) (gd (decide (v29≤(↑(List.length (a.1.2.2.2.2.getD (a.2.2.toNat) (ByteArray.empty,ByteArray.empty,Qa ByteArray)).2.2):Int))) (gd (decide (0≤v29)) (gd (decide (v29<(↑(List.length (a.1.2.2.2.2.getD (a.2.2.toNat) (ByteArray.empty,ByteArray.empty,Qa ByteArray)).2.2):Int))) (gd (decide (v29.toNat<List.length (a.1.2.2.2.2.getD (a.2.2.toNat) (ByteArray.empty,ByteArray.empty,Qa ByteArray)).2.2)) ((c54 F (List.drop (0:Nat) (List.take (v29.toNat) (a.1.2.2.2.2.getD (a.2.2.toNat) (ByteArray.empty,ByteArray.empty,Qa ByteArray)).2.2),List.getD (a.1.2.2.2.2.getD (a.2.2.toNat) (ByteArray.empty,ByteArray.empty,Qa ByteArray)).2.2 (v29.toNat) ByteArray.empty)).bind fun(v31:Bool)=>bif v31 then(some (Sum.inr (Sum.inl (9:Int))))else(some (Sum.inl (w64 (v29+1))))))))))))))else(some (Sum.inr (Sum.inr ())))) F ((0:Int))).bind fun(v26:Int ⊕ Unit)=>Sum.elim (fun(v27:Int)=>some (v27)) (fun(v28:Unit)=>some ((0:Int))) (v26))))))))))))))
def Zyo(F:Nat):PC:={ats:=Zfc,rts:=Zg,code:=Ql8 F}
theorem Zv6(F:Nat):Qg cx 123 (Zyo F):=qE (Ye1 F) (Q8 3 (.two (.two (.join [(.normal,⟨[.slot 28 (.val (.bool))],[]⟩)] ⟨(Ql 28 10 []),[],[]⟩ .leaf) .leaf) (Q8 3 (.two (.two .leaf (.one (.loop ⟨[.slot 9 (.val (.int .i64))],[]⟩ [(.ret,⟨[.slot 6 (.val (.int .i64))],[]⟩),(.exit 0,⟨[],[]⟩)] ⟨(Yd 61 8 (6::Ql 78 10 (9::Ql 60 7 []))),[],[]⟩ F .leaf))) .leaf)))) f123 (by kernel_rfl) fun a=>by kernel_rfl
def Zxb(F:Nat):LK:=lC (Qov F) (lC (Qfc F) (lC (Zrx F) (lC (Qin F) (lC (Qca F) lN))))
def Qoe(F:Nat)(a:(Qk)×Int):Option (Int):=
 gd (decide (0≤a.2)) (gd (decide (a.2<(↑(a.1.2.1.length):Int))) (gd (decide (a.2.toNat<a.1.2.1.length)) ((c67 F (a.1.2.1.getD (a.2.toNat) Xn).1).bind fun(v13:Bool)=>bif !v13 then(some ((8:Int)))else((c40 F (a.1,(a.1.2.1.getD (a.2.toNat) Xn).1)).bind fun(v14:Int)=>bif decide (v14<a.2)then(some ((9:Int)))else((c54 F (a.1.1,(a.1.2.1.getD (a.2.toNat) Xn).2.1)).bind fun(v15:Bool)=>bif !v15 then(some ((10:Int)))else((c94 F ((a.1.2.1.getD (a.2.toNat) Xn).2.2.1,(99999:Int))).bind fun(v16:Bool)=>bif v16 then(some ((3:Int)))else((Qm1 F (a.1.2.1.getD (a.2.toNat) Xn).2.2.2).bind fun(v17:Int)=>some (v17))))))))
def Ydn(F:Nat):PC:={ats:=Kk,rts:=Zg,code:=Qoe F}
theorem Zhx(F:Nat):Qg cx 189 (Ydn F):=qE (Zxb F) .leaf f189 (by kernel_rfl) fun a=>by kernel_rfl
def Yig(F:Nat):LK:=lC (Qin F) (lC (Qca F) (lC (Zhx F) (lC (Qfc F) (lC (Qov F) lN))))
def Qo7(F:Nat)(a:Qk):Option (Int):=
 (Q2 (σ:=Int) (β:=Int ⊕ Unit) (fun(v70:Int)=>bif decide (v70<(↑(a.1.length):Int))then(gd (decide (0≤v70)) (gd (decide (v70<(↑(a.1.length):Int))) (gd (decide (v70.toNat<a.1.length)) ((c67 F (a.1.getD (v70.toNat) ByteArray.empty)).bind fun(v71:Bool)=>bif !v71 then(some (Sum.inr (Sum.inl (8:Int))))else(gd (decide (0≤v70)) (gd (decide (v70≤(↑(a.1.length):Int))) (gd (decide (0≤v70)) (gd (decide (v70<(↑(a.1.length):Int))) (gd (decide (v70.toNat<a.1.length)) ((c54 F (List.drop (0:Nat) (List.take (v70.toNat) a.1),a.1.getD (v70.toNat) ByteArray.empty)).bind fun(v72:Bool)=>bif v72 then(some (Sum.inr (Sum.inl (9:Int))))else(some (Sum.inl (w64 (v70+1))))))))))))))else(some (Sum.inr (Sum.inr ())))) F ((0:Int))).bind fun(v53:Int ⊕ Unit)=>Sum.elim (fun(v54:Int)=>some (v54)) (fun(v55:Unit)=>(Q2 (σ:=Int×Int) (β:=Int) (fun(v67:Int×Int)=>(bif decide (v67.2<(↑(a.2.1.length):Int))then(some (decide (v67.1=0)))else(some (false))).bind fun(v68:Bool)=>bif v68 then((Qoe F (a,v67.2)).bind fun(v69:Int)=>some (Sum.inl (v69,w64 (v67.2+1))))else(some (Sum.inr v67.1))) F (((0:Int),(0:Int)))).bind fun(v56:Int)=>(Q2 (σ:=Int×Int) (β:=Int) (fun(v58:Int×Int)=>(bif decide (v58.2<(↑(a.2.2.1.length):Int))then(some (decide (v58.1=0)))else(some (false))).bind fun(v59:Bool)=>bif v59 then(gd (decide (0≤v58.2)) (gd (decide (v58.2<(↑(a.2.2.1.length):Int))) (gd (decide (v58.2.toNat<a.2.2.1.length)) ((c40 F (a,(a.2.2.1.getD (v58.2.toNat) (ByteArray.empty,(0:Int),(0:Int))).1)).bind fun(v60:Int)=>(bif decide (v60<0)then(some ((10:Int)))else(((c94 F ((a.2.2.1.getD (v58.2.toNat) (ByteArray.empty,(0:Int),(0:Int))).2.1,(99999:Int))).bind fun(v65:Bool)=>bif v65 then(some (true))else((c94 F ((a.2.2.1.getD (v58.2.toNat) (ByteArray.empty,(0:Int),(0:Int))).2.2,(99999:Int))).bind fun(v66:Bool)=>some (v66))).bind fun(v62:Bool)=>(bif v62 then(some ((3:Int)))else((bif decide ((a.2.2.1.getD (v58.2.toNat) (ByteArray.empty,(0:Int),(0:Int))).2.2<(a.2.2.1.getD (v58.2.toNat) (ByteArray.empty,(0:Int),(0:Int))).2.1)then(some ((11:Int)))else(some v58.1)).bind fun(v64:Int)=>some (v64))).bind fun(v63:Int)=>some (v63))).bind fun(v61:Int)=>some (Sum.inl (v61,w64 (v58.2+1)))))))else(some (Sum.inr v58.1))) F ((v56,(0:Int)))).bind fun(v57:Int)=>some (v57)) (v53)
def Yh6(F:Nat):PC:={ats:=Qd3,rts:=Zg,code:=Qo7 F}
theorem Zm8(F:Nat):Qg cx 121 (Yh6 F):=qE (Yig F) (.two .leaf (.two (.two .leaf (.one (.loop ⟨[.slot 3 (.val (.int .i64))],[]⟩ [(.ret,⟨[.slot 2 (.val (.int .i64))],[]⟩),(.exit 0,⟨[],[]⟩)] ⟨(Yd 15 7 (2::Ql 31 10 (3::Ql 14 7 []))),[],[]⟩ F .leaf))) (.two .leaf (.two (.two .leaf (.one (.loop ⟨[.slot 4 (.val (.int .i64)),.slot 5 (.val (.int .i64))],[]⟩ [(.exit 2,⟨[.slot 4 (.val (.int .i64))],[]⟩)] ⟨(43::44::45::4::5::Ql 42 11 []),[],[]⟩ F (.two (.two (.join [(.normal,⟨[.slot 40 (.val (.bool))],[]⟩)] ⟨(Ql 40 9 []),[],[]⟩ .leaf) .leaf) .leaf)))) (.two (.two .leaf (.one (.loop ⟨[.slot 4 (.val (.int .i64)),.slot 6 (.val (.int .i64))],[]⟩ [(.exit 4,⟨[.slot 4 (.val (.int .i64))],[]⟩)] ⟨(57::58::59::60::61::7::4::Ql 79 18 (6::Ql 56 11 [])),[],[]⟩ F (.two (.two (.join [(.normal,⟨[.slot 54 (.val (.bool))],[]⟩)] ⟨(Ql 54 9 []),[],[]⟩ .leaf) .leaf) (.two (.one (Q8 2 (.join [(.normal,⟨[.slot 4 (.val (.int .i64))],[]⟩)] ⟨(Yd 67 13 (4::[])),[],[]⟩ (.two .leaf (.two (.join [(.normal,⟨[.slot 74 (.val (.bool))],[]⟩)] ⟨(Ql 74 8 []),[],[]⟩ .leaf) (.join [(.normal,⟨[.slot 4 (.val (.int .i64))],[]⟩)] ⟨[75,76,77,78,79,4],[],[]⟩ (Q8 2 (.join [(.normal,⟨[.slot 4 (.val (.int .i64))],[]⟩)] ⟨[4],[],[]⟩ .leaf)))))))) .leaf))))) .leaf))))) f121 (by kernel_rfl) fun a=>by kernel_rfl
def Yg0(F:Nat):LK:=lC (Zm8 F) (lC (Zv6 F) (lC (Zxw F) (lC (Zxs F) lN)))
def c26(F:Nat)(a:(Za)×Qk):Option (Int):=
 (c22 F a.1).bind fun(v25:Int)=>bif !decide (v25=0)then(some (v25))else((bif decide (256<(↑(a.2.1.length):Int))then(some (true))else(bif decide (256<(↑(a.2.2.1.length):Int))then(some (true))else(bif decide (256<(↑(a.2.2.2.1.length):Int))then(some (true))else(bif decide (256<(↑(a.2.2.2.2.1.length):Int))then(some (true))else(some (decide (256<(↑(a.2.2.2.2.2.length):Int)))))))).bind fun(v26:Bool)=>bif v26 then(some ((5:Int)))else((Qo7 F a.2).bind fun(v27:Int)=>(Q2 (σ:=Int×Int) (β:=Int) (fun(v33:Int×Int)=>(bif decide (v33.2<(↑(a.2.2.2.2.1.length):Int))then(some (decide (v33.1=0)))else(some (false))).bind fun(v34:Bool)=>bif v34 then((Qlm F (a.2,a.1,v33.2)).bind fun(v35:Int)=>some (Sum.inl (v35,w64 (v33.2+1))))else(some (Sum.inr v33.1))) F ((v27,(0:Int)))).bind fun(v28:Int)=>(Q2 (σ:=Int×Int) (β:=Int) (fun(v30:Int×Int)=>(bif decide (v30.2<(↑(a.2.2.2.2.2.length):Int))then(some (decide (v30.1=0)))else(some (false))).bind fun(v31:Bool)=>bif v31 then((Ql8 F (a.2,a.1,v30.2)).bind fun(v32:Int)=>some (Sum.inl (v32,w64 (v30.2+1))))else(some (Sum.inr v30.1))) F ((v28,(0:Int)))).bind fun(v29:Int)=>some (v29)))
def Zl3(F:Nat):PC:={ats:=Qhl,rts:=Zg,code:=c26 F}
theorem Qye(F:Nat):Qg cx 26 (Zl3 F):=qE (Yg0 F) (Q8 3 (.two (.two (.join [(.normal,⟨[.slot 40 (.val (.bool))],[]⟩)] ⟨(Ql 40 28 []),[],[]⟩ .leaf) .leaf) (.two .leaf (.two (.two .leaf (.one (.loop ⟨[.slot 5 (.val (.int .i64)),.slot 6 (.val (.int .i64))],[]⟩ [(.exit 0,⟨[.slot 5 (.val (.int .i64))],[]⟩)] ⟨(54::55::56::57::5::6::Ql 53 11 []),[],[]⟩ F (.two (.two (.join [(.normal,⟨[.slot 51 (.val (.bool))],[]⟩)] ⟨(Ql 51 9 []),[],[]⟩ .leaf) .leaf) .leaf)))) (.two (.two .leaf (.one (.loop ⟨[.slot 5 (.val (.int .i64)),.slot 7 (.val (.int .i64))],[]⟩ [(.exit 2,⟨[.slot 5 (.val (.int .i64))],[]⟩)] ⟨(69::70::71::72::5::7::Ql 68 11 []),[],[]⟩ F (.two (.two (.join [(.normal,⟨[.slot 66 (.val (.bool))],[]⟩)] ⟨(Ql 66 9 []),[],[]⟩ .leaf) .leaf) .leaf)))) .leaf))))) f26 (by kernel_rfl) fun a=>by kernel_rfl
def Zw9(F:Nat):LK:=lC (Z3 F) lN
def c87(F:Nat)(a:Int×Int):Option (Int):=
 (bif decide (a.1<0)then(some ((3:Int)))else((Qx F (decide (a.2<a.1),(3:Int))).bind fun(v9:Int)=>some (v9))).bind fun(v8:Int)=>some (v8)
def Yf8(F:Nat):PC:={ats:=Qpb,rts:=Zg,code:=c87 F}
theorem Zc1(F:Nat):Qg cx 87 (Yf8 F):=qE (Zw9 F) (.two .leaf (.two (.join [(.normal,⟨[.slot 4 (.val (.int .i64))],[]⟩)] ⟨(4::Ql 12 8 []),[],[]⟩ .leaf) .leaf)) f87 (by kernel_rfl) fun a=>by kernel_rfl
def Zx9(F:Nat):LK:=lN
def Wl(F:Nat)(a:List Int):Option (Int):=
 (Q2 (σ:=Int) (β:=Int ⊕ Unit) (fun(v13:Int)=>bif decide (v13<(↑(a.length):Int))then(gd (decide (0≤v13)) (gd (decide (v13<(↑(a.length):Int))) (gd (decide (v13.toNat<a.length)) (bif !decide (a.getD (v13.toNat) (0:Int)=(0:Int))then(some (Sum.inr (Sum.inl (a.getD (v13.toNat) (0:Int)))))else(some (Sum.inl (w64 (v13+1))))))))else(some (Sum.inr (Sum.inr ())))) F ((0:Int))).bind fun(v10:Int ⊕ Unit)=>Sum.elim (fun(v11:Int)=>some (v11)) (fun(v12:Unit)=>some ((0:Int))) (v10)
def Zis(F:Nat):PC:={ats:=[.val (.seq K0)],rts:=Zg,code:=Wl F}
theorem Za9(F:Nat):Qg cx 175 (Zis F):=qE (Zx9 F) (.two .leaf (.two (.two .leaf (.one (.loop ⟨[.slot 7 (.val (.int .i64))],[]⟩ [(.ret,⟨[.slot 2 (.val (.int .i64))],[]⟩),(.exit 0,⟨[],[]⟩)] ⟨[14,7,11,12,2,13,4,10,9,8],[],[]⟩ F .leaf))) .leaf)) f175 (by kernel_rfl) fun a=>by kernel_rfl
def Yil(F:Nat):LK:=lN
def Xx(F:Nat)(a:Bool×Int):Option (Int):=
 bif a.1 then(some a.2)else(some ((0:Int)))
def Yib(F:Nat):PC:={ats:=Qzu,rts:=Zg,code:=Xx F}
theorem Qxg(F:Nat):Qg cx 176 (Yib F):=qE (Yil F) .leaf f176 (by kernel_rfl) fun a=>by kernel_rfl
def Zij(F:Nat):LK:=lN
def Qmu(F:Nat)(a:List ByteArray×ByteArray):Option (Int):=
 (Q2 (σ:=Int) (β:=Int ⊕ Unit) (fun(v13:Int)=>bif decide (v13<(↑(a.1.length):Int))then(gd (decide (0≤v13)) (gd (decide (v13<(↑(a.1.length):Int))) (gd (decide (v13.toNat<a.1.length)) (bif Qc a.2 (a.1.getD (v13.toNat) ByteArray.empty)then(some (Sum.inr (Sum.inl v13)))else(some (Sum.inl (w64 (v13+1))))))))else(some (Sum.inr (Sum.inr ())))) F ((0:Int))).bind fun(v10:Int ⊕ Unit)=>Sum.elim (fun(v11:Int)=>some (v11)) (fun(v12:Unit)=>some ((-1:Int))) (v10)
def Yah(F:Nat):PC:={ats:=Qoy,rts:=Zg,code:=Qmu F}
theorem Zsj(F:Nat):Qg cx 183 (Yah F):=qE (Zij F) (.two .leaf (.two (.two .leaf (.one (.loop ⟨[.slot 8 (.val (.int .i64))],[]⟩ [(.ret,⟨[.slot 4 (.val (.int .i64))],[]⟩),(.exit 0,⟨[],[]⟩)] ⟨[18,8,11,12,13,14,15,16,4,17,5,10,9],[],[]⟩ F .leaf))) .leaf)) f183 (by kernel_rfl) fun a=>by kernel_rfl
def Zto(F:Nat):LK:=lC (Zsj F) lN
def Vt(F:Nat)(a:List ByteArray×ByteArray):Option (Bool):=
 (Qmu F a).bind fun(v5:Int)=>some (decide (0≤v5))
def Zxi(F:Nat):PC:={ats:=Qoy,rts:=Xd,code:=Vt F}
theorem Jt(F:Nat):Qg cx 107 (Zxi F):=qE (Zto F) .leaf f107 (by kernel_rfl) fun a=>by kernel_rfl
def Zzx(F:Nat):LK:=lC (Jt F) lN
def Qlb(F:Nat)(a:ByteArray):Option (Bool):=
 (Vt F ({data:=List.toArray (68::78::83::Qa UInt8)}::{data:=List.toArray (68::78::70::Qa UInt8)}::{data:=List.toArray (68::81::Qa UInt8)}::{data:=List.toArray (78::77::Qa UInt8)}::Qa ByteArray,a)).bind fun(v5:Bool)=>some (v5)
def Zu1(F:Nat):PC:={ats:=Qa1,rts:=Xd,code:=Qlb F}
theorem Ydh(F:Nat):Qg cx 177 (Zu1 F):=qE (Zzx F) .leaf f177 (by kernel_rfl) fun a=>by kernel_rfl
def Zoh(F:Nat):LK:=lN
def Kw(F:Nat)(a:Int×Int×Int):Option (Bool):=
 (bif decide (a.1<a.2.1)then(some (true))else(some (decide (a.2.2<a.1)))).bind fun(v5:Bool)=>some (v5)
def Yaj(F:Nat):PC:={ats:=Zf4,rts:=Xd,code:=Kw F}
theorem Zmr(F:Nat):Qg cx 179 (Yaj F):=qE (Zoh F) (.two .leaf (.two (.join [(.normal,⟨[.slot 6 (.val (.bool))],[]⟩)] ⟨(6::Ql 14 8 []),[],[]⟩ .leaf) .leaf)) f179 (by kernel_rfl) fun a=>by kernel_rfl
def Ztm(F:Nat):LK:=lC (Zmr F) (lC (Ydh F) (lC (Qxg F) (lC (Za9 F) lN)))
def c99(F:Nat)(a:ByteArray×Int×ByteArray):Option (Int):=
 bif Qc a.1 {data:=List.toArray (110::111::110::101::Qa UInt8)}then((Qlb F a.2.2).bind fun(v66:Bool)=>(Xx F (!v66,(1:Int))).bind fun(v67:Int)=>(Xx F (!decide (a.2.1=0),(3:Int))).bind fun(v68:Int)=>(Wl F (v67::v68::Qa Int)).bind fun(v69:Int)=>some (v69))else((bif Qc a.1 {data:=List.toArray (116::105::109::101::Qa UInt8)}then((Xx F (!Qc a.2.2 {data:=List.toArray (Qa UInt8)},(1:Int))).bind fun(v88:Int)=>(Kw F (a.2.1,(1:Int),(863999999:Int))).bind fun(v89:Bool)=>(Xx F (v89,(3:Int))).bind fun(v90:Int)=>(Wl F ((0:Int)::v88::v90::Qa Int)).bind fun(v91:Int)=>some (v91))else(bif Qc a.1 {data:=List.toArray (108::101::110::103::116::104::Qa UInt8)}then((Xx F (!Qc a.2.2 {data:=List.toArray (Qa UInt8)},(1:Int))).bind fun(v92:Int)=>(Kw F (a.2.1,(0:Int),(999999:Int))).bind fun(v93:Bool)=>(Xx F (v93,(3:Int))).bind fun(v94:Int)=>(Wl F ((0:Int)::v92::v94::Qa Int)).bind fun(v95:Int)=>some (v95))else(bif Qc a.1 {data:=List.toArray (112::111::105::110::116::115::Qa UInt8)}then((Xx F (!Qc a.2.2 {data:=List.toArray (Qa UInt8)},(1:Int))).bind fun(v96:Int)=>(Kw F (a.2.1,(0:Int),(99999:Int))).bind fun(v97:Bool)=>(Xx F (v97,(3:Int))).bind fun(v98:Int)=>(Wl F ((0:Int)::v96::v98::Qa Int)).bind fun(v99:Int)=>some (v99))else((Xx F (!Qc a.2.2 {data:=List.toArray (Qa UInt8)},(1:Int))).bind fun(v100:Int)=>(Kw F (a.2.1,(0:Int),(0:Int))).bind fun(v101:Bool)=>(Xx F (v101,(3:Int))).bind fun(v102:Int)=>(Wl F ((13:Int)::v100::v102::Qa Int)).bind fun(v103:Int)=>some (v103))))).bind fun(v70:Int)=>(bif Qc a.1 {data:=List.toArray (116::105::109::101::Qa UInt8)}then((Xx F (!Qc a.2.2 {data:=List.toArray (Qa UInt8)},(1:Int))).bind fun(v72:Int)=>(Kw F (a.2.1,(1:Int),(863999999:Int))).bind fun(v73:Bool)=>(Xx F (v73,(3:Int))).bind fun(v74:Int)=>(Wl F ((0:Int)::v72::v74::Qa Int)).bind fun(v75:Int)=>some (v75))else(bif Qc a.1 {data:=List.toArray (108::101::110::103::116::104::Qa UInt8)}then((Xx F (!Qc a.2.2 {data:=List.toArray (Qa UInt8)},(1:Int))).bind fun(v76:Int)=>(Kw F (a.2.1,(0:Int),(999999:Int))).bind fun(v77:Bool)=>(Xx F (v77,(3:Int))).bind fun(v78:Int)=>(Wl F ((0:Int)::v76::v78::Qa Int)).bind fun(v79:Int)=>some (v79))else(bif Qc a.1 {data:=List.toArray (112::111::105::110::116::115::Qa UInt8)}then((Xx F (!Qc a.2.2 {data:=List.toArray (Qa UInt8)},(1:Int))).bind fun(v80:Int)=>(Kw F (a.2.1,(0:Int),(99999:Int))).bind fun(v81:Bool)=>(Xx F (v81,(3:Int))).bind fun(v82:Int)=>(Wl F ((0:Int)::v80::v82::Qa Int)).bind fun(v83:Int)=>some (v83))else((Xx F (!Qc a.2.2 {data:=List.toArray (Qa UInt8)},(1:Int))).bind fun(v84:Int)=>(Kw F (a.2.1,(0:Int),(0:Int))).bind fun(v85:Bool)=>(Xx F (v85,(3:Int))).bind fun(v86:Int)=>(Wl F ((13:Int)::v84::v86::Qa Int)).bind fun(v87:Int)=>some (v87))))).bind fun(v71:Int)=>gd (Qs.eqv (Qf.val (Ty.int Go.IntKind.i64)::Qa Qf) v70 v71) (some (v70)))
def Qld(F:Nat):PC:={ats:=[.agg Wk],rts:=Zg,code:=c99 F}
theorem Wx(F:Nat):Qg cx 99 (Qld F):=qE (Ztm F) (Q8 2 (.two (.within [(178,.leaf)]) .leaf)) f99 (by kernel_rfl) fun a=>by kernel_rfl
def Ygm(F:Nat):LK:=lN
def Ja(F:Nat)(a:(Yh)×ByteArray×Int×ByteArray):Option (Bool):=
 (bif Qc a.2.1 a.1.2.1 then(some (true))else(some (Qc a.2.1 {data:=List.toArray (110::111::110::101::Qa UInt8)}))).bind fun(v5:Bool)=>some (v5)
def Yie(F:Nat):PC:={ats:=[.agg Y1,.agg Wk],rts:=Xd,code:=Ja F}
theorem Qle(F:Nat):Qg cx 155 (Yie F):=qE (Ygm F) (.two .leaf (.two (.join [(.normal,⟨[.slot 4 (.val (.bool))],[]⟩)] ⟨(4::Ql 14 10 []),[],[]⟩ .leaf) .leaf)) f155 (by kernel_rfl) fun a=>by kernel_rfl
def Yes(F:Nat):LK:=lC (Jt F) (lC (Z3 F) (lC (Vb F) (lC (Zc1 F) (lC (Z6 F) (lC (Qle F) (lC (Wx F) lN))))))
def c93(F:Nat)(a:Yh):Option (Int):=
 ((Vt F ({data:=List.toArray (116::105::109::101::Qa UInt8)}::{data:=List.toArray (108::101::110::103::116::104::Qa UInt8)}::{data:=List.toArray (112::111::105::110::116::115::Qa UInt8)}::Qa ByteArray,a.2.1)).bind fun(v63:Bool)=>(Qx F (!v63,(13:Int))).bind fun(v64:Int)=>bif !Qc a.2.2.1 {data:=List.toArray (Qa UInt8)}then((c98 F a.2.2.1).bind fun(v65:Bool)=>(Qx F (!v65,(8:Int))).bind fun(v66:Int)=>(c87 F (a.2.2.2.1,(120:Int))).bind fun(v67:Int)=>(c87 F (a.2.2.2.2.1,(120:Int))).bind fun(v68:Int)=>(Qx F (decide (a.2.2.2.2.1<a.2.2.2.1),(11:Int))).bind fun(v69:Int)=>(Q9 F (v64::v66::v67::v68::v69::Qa Int)).bind fun(v70:Int)=>some (v70))else((c87 F (a.2.2.2.1,(120:Int))).bind fun(v71:Int)=>(c87 F (a.2.2.2.2.1,(120:Int))).bind fun(v72:Int)=>(Qx F (decide (a.2.2.2.2.1<a.2.2.2.1),(11:Int))).bind fun(v73:Int)=>(Q9 F (v64::(0:Int)::v71::v72::v73::Qa Int)).bind fun(v74:Int)=>some (v74))).bind fun(v55:Int)=>bif !decide (v55=0)then(some (v55))else((c87 F (a.2.2.2.2.2.1,(160:Int))).bind fun(v56:Int)=>(c87 F (a.2.2.2.2.2.2.1,(160:Int))).bind fun(v57:Int)=>(c87 F (a.2.2.2.2.2.2.2.2.2.2,(8:Int))).bind fun(v58:Int)=>(c99 F (a.2.2.2.2.2.2.2.1,a.2.2.2.2.2.2.2.2.1,a.2.2.2.2.2.2.2.2.2.1)).bind fun(v59:Int)=>(Ja F (a,a.2.2.2.2.2.2.2.1,a.2.2.2.2.2.2.2.2.1,a.2.2.2.2.2.2.2.2.2.1)).bind fun(v60:Bool)=>(Qx F (!v60,(13:Int))).bind fun(v61:Int)=>(Q9 F (v56::v57::v58::v59::v61::Qa Int)).bind fun(v62:Int)=>some (v62))
def Ye4(F:Nat):PC:={ats:=[.agg Y1],rts:=Zg,code:=c93 F}
theorem Qqy(F:Nat):Qg cx 93 (Ye4 F):=qE (Yes F) (Q8 2 (.two (.two (.join [(.normal,⟨[.slot 4 (.val (.int .i64))],[]⟩)] ⟨(4::Ql 35 30 []),[],[]⟩ .leaf) .leaf) .leaf)) f93 (by kernel_rfl) fun a=>by kernel_rfl
def Ye6:Qj:=⟨[.slot 0 (.agg Y1),.one 0 110 Y1],[(1,.stat (.ptr 0 11 0 0))]⟩
def Zxe:Qj:=⟨[.slot 0 (.val (.bool))],[]⟩
def Yiw(F:Nat):LK:=lN
def Zlf(F:Nat):PX:=qX (Yiw F) .leaf f91 (pxB 2 [.arg 1] Ye6 1 Zxe [] [])
theorem Qix(F:Nat):Zb cx 91 (Zlf F):=Xo (by kernel_rfl)
def Ybi:Qj:=⟨[.slot 0 (.val (.seq Y1)),.one 0 110 Y1],[(1,.stat (.fn (.func 91) [] [.ptr 0 11 0 0]))]⟩
def Zif:Qj:=⟨[.slot 0 (.val (.int .i64))],[]⟩
def Ybe(F:Nat):LK:=lX (Qix F) lN
def Ql2(F:Nat)(a:List (Yh)×Yh):Option (Int):=
 (Q2 (σ:=Int) (β:=Int ⊕ Unit) (fun(v13:Int)=>bif decide (v13<(↑(a.1.length):Int))then(gd (decide (0≤v13)) (gd (decide (v13<(↑(a.1.length):Int))) (gd (decide (v13.toNat<a.1.length)) (bif Qc (a.1.getD (v13.toNat) Zc).1 a.2.1 then(some (Sum.inr (Sum.inl v13)))else(some (Sum.inl (w64 (v13+1))))))))else(some (Sum.inr (Sum.inr ())))) F ((0:Int))).bind fun(v10:Int ⊕ Unit)=>Sum.elim (fun(v11:Int)=>some (v11)) (fun(v12:Unit)=>some ((-1:Int))) (v10)
def Zkt(F:Nat):PX:={np:=2,locs:=[.cap (.arg 1) 0],τ:=Ybi,nr:=1,ω:=Zif,ids:=[],mv:=[],code:=Ql2 F}
theorem Qi9(F:Nat):Zb cx 154 (Zkt F):=qXE (Ybe F) (.two .leaf (.two (.two .leaf (.one (.loop ⟨[.slot 8 (.val (.int .i64))],[]⟩ [(.ret,⟨[.slot 4 (.val (.int .i64))],[]⟩),(.exit 0,⟨[],[]⟩)] ⟨[18,8,11,12,13,14,15,16,4,17,5,10,9],[],[]⟩ F .leaf))) .leaf)) f154 (by kernel_rfl) fun a=>by kernel_rfl
def Zt4:Qj:=⟨[.slot 0 (.val (.seq Y1)),.one 0 110 Y1],[(1,.stat (.fn (.func 91) [] [.ptr 0 11 0 0]))]⟩
def Ya6:Qj:=⟨[.slot 0 (.val (.bool))],[]⟩
def Ycy(F:Nat):LK:=lX (Qix F) (lX (Qi9 F) lN)
def Qm0(F:Nat)(a:List (Yh)×Yh):Option (Bool):=
 (Ql2 F a).bind fun(v5:Int)=>some (decide (0≤v5))
def Zke(F:Nat):PX:={np:=2,locs:=[.cap (.arg 1) 0],τ:=Zt4,nr:=1,ω:=Ya6,ids:=[],mv:=[],code:=Qm0 F}
theorem Qvh(F:Nat):Zb cx 90 (Zke F):=qXE (Ycy F) .leaf f90 (by kernel_rfl) fun a=>by kernel_rfl
def Yfa:Qj:=⟨[.slot 0 (.val (.int .i64)),.slot 1 (.agg Y1),.one 0 24 Y9],[(2,.stat (.ptr 0 5 0 0))]⟩
def Yab:Qj:=⟨[.slot 0 (.val (.int .i64))],[]⟩
def Ya7(F:Nat):LK:=lC (Vc F) (lC (Z3 F) (lC (Qqy F) (lC (Z6 F) (lX (Qix F) (lX (Qi9 F) (lX (Qvh F) lN))))))
def Qox(F:Nat)(a:Int×(Yh)×Za):Option (Int):=
 gd (decide (0≤a.1)) (gd (decide (a.1≤(↑(a.2.2.2.2.2.2.length):Int))) ((Qm0 F (List.drop (0:Nat) (List.take (a.1.toNat) a.2.2.2.2.2.2),a.2.1.1,a.2.1.2.1,a.2.1.2.2.1,a.2.1.2.2.2.1,a.2.1.2.2.2.2.1,a.2.1.2.2.2.2.2.1,a.2.1.2.2.2.2.2.2.1,a.2.1.2.2.2.2.2.2.2.1,a.2.1.2.2.2.2.2.2.2.2.1,a.2.1.2.2.2.2.2.2.2.2.2.1,a.2.1.2.2.2.2.2.2.2.2.2.2)).bind fun(v13:Bool)=>(c92 F a.2.1.1).bind fun(v14:Int)=>(Qx F (v13,(9:Int))).bind fun(v15:Int)=>(c93 F a.2.1).bind fun(v16:Int)=>(Q9 F (v14::v15::v16::Qa Int)).bind fun(v17:Int)=>some (v17)))
def Zq2(F:Nat):PX:={np:=3,locs:=[.arg 2],τ:=Yfa,nr:=1,ω:=Yab,ids:=[],mv:=[],code:=Qox F}
theorem Qyy(F:Nat):Zb cx 89 (Zq2 F):=qXE (Ya7 F) .leaf f89 (by kernel_rfl) fun a=>by kernel_rfl
def Zln:Qj:=⟨[.slot 0 (.val (.seq Y1)),.one 0 24 Y9],[(1,.stat (.fn (.func 89) [] [.ptr 0 5 0 0]))]⟩
def Yen:Qj:=⟨[.slot 0 (.val (.int .i64))],[]⟩
def Zmy(F:Nat):LK:=lC (Vc F) (lC (Z3 F) (lC (Qqy F) (lC (Z6 F) (lX (Qix F) (lX (Qi9 F) (lX (Qvh F) (lX (Qyy F) lN)))))))
def Qmr(F:Nat)(a:List (Yh)×Za):Option (Int):=
 (Q2 (σ:=Int) (β:=Int ⊕ Unit) (fun(v15:Int)=>bif decide (v15<(↑(a.1.length):Int))then(gd (decide (0≤v15)) (gd (decide (v15<(↑(a.1.length):Int))) (gd (decide (v15.toNat<a.1.length)) ((Qox F (v15,(a.1.getD (v15.toNat) Zc),a.2.1,a.2.2.1,a.2.2.2.1,a.2.2.2.2.1,a.2.2.2.2.2)).bind fun(v16:Int)=>bif !decide (v16=0)then(some (Sum.inr (Sum.inl v16)))else(some (Sum.inl (w64 (v15+1))))))))else(some (Sum.inr (Sum.inr ())))) F ((0:Int))).bind fun(v12:Int ⊕ Unit)=>Sum.elim (fun(v13:Int)=>some (v13)) (fun(v14:Unit)=>some ((0:Int))) (v12)
def Zml(F:Nat):PX:={np:=2,locs:=[.cap (.arg 1) 0],τ:=Zln,nr:=1,ω:=Yen,ids:=[],mv:=[],code:=Qmr F}
theorem Znr(F:Nat):Zb cx 88 (Zml F):=qXE (Zmy F) (.two .leaf (.two (.two .leaf (.one (.loop ⟨[.slot 10 (.val (.int .i64))],[]⟩ [(.ret,⟨[.slot 4 (.val (.int .i64))],[]⟩),(.exit 0,⟨[],[]⟩)] ⟨[22,10,15,16,17,18,7,21,4,20,19,5,6,14,13,12,11],[],[]⟩ F .leaf))) .leaf)) f88 (by kernel_rfl) fun a=>by kernel_rfl
def Zwv(F:Nat):LK:=lC (Vc F) (lC (Qqy F) (lC (Z6 F) (lC (Zc1 F) (lC (Z3 F) (lC (Wa F) (lX (Qix F) (lX (Qi9 F) (lX (Qvh F) (lX (Qyy F) (lX (Znr F) lN))))))))))
def c21(F:Nat)(a:Za):Option (Int):=
 ((Zz F (a.1::a.2.1::a.2.2.1::Qa Int)).bind fun(v33:Int)=>bif decide (a.2.2.1<a.2.1)then((c87 F (a.2.2.2.1,(32:Int))).bind fun(v34:Int)=>(Qx F (decide (32<(↑(a.2.2.2.2.length):Int)),(5:Int))).bind fun(v35:Int)=>(Q9 F (v33::(11:Int)::v34::v35::Qa Int)).bind fun(v36:Int)=>some (v36))else((Qx F (decide (a.1<a.2.2.1),(11:Int))).bind fun(v37:Int)=>(c87 F (a.2.2.2.1,(32:Int))).bind fun(v38:Int)=>(Qx F (decide (32<(↑(a.2.2.2.2.length):Int)),(5:Int))).bind fun(v39:Int)=>(Q9 F (v33::v37::v38::v39::Qa Int)).bind fun(v40:Int)=>some (v40))).bind fun(v31:Int)=>bif !decide (v31=0)then(some (v31))else((Qmr F (a.2.2.2.2,a.1,a.2.1,a.2.2.1,a.2.2.2.1,a.2.2.2.2)).bind fun(v32:Int)=>some (v32))
def Qtq(F:Nat):PC:={ats:=[.agg Y9],rts:=Zg,code:=c21 F}
theorem Qt7(F:Nat):Qg cx 21 (Qtq F):=qE (Zwv F) (.two .leaf (.two (.two (.join [(.normal,⟨[.slot 3 (.val (.int .i64))],[]⟩)] ⟨(3::Ql 34 31 []),[],[]⟩ .leaf) .leaf) .leaf)) f21 (by kernel_rfl) fun a=>by kernel_rfl
def Ybc(F:Nat):LK:=lN
def Qub(F:Nat):PC:=qT (Ybc F) .leaf f105 Qd3 Xd
theorem Qu5(F:Nat):Qg cx 105 (Qub F):=Xw (by kernel_rfl)
def Yid:Qj:=⟨[.slot 0 (.agg Y1),.one 0 9 Z2],[(1,.stat (.ptr 0 1 0 0))]⟩
def Zro:Qj:=⟨[.slot 0 (.val (.bool))],[]⟩
def Zm9(F:Nat):LK:=lN
def Yhr(F:Nat):PX:=qX (Zm9 F) .leaf f195 (pxB 2 [.arg 1] Yid 1 Zro [] [])
theorem Qx7(F:Nat):Zb cx 195 (Yhr F):=Xo (by kernel_rfl)
def Zoe:Qj:=⟨[.slot 0 (.val (.seq Y1)),.one 0 9 Z2],[(1,.stat (.fn (.func 195) [] [.ptr 0 1 0 0]))]⟩
def Yau:Qj:=⟨[.slot 0 (.val (.int .i64))],[]⟩
def Zsz(F:Nat):LK:=lX (Qx7 F) lN
def Qkv(F:Nat)(a:List (Yh)×ByteArray):Option (Int):=
 (Q2 (σ:=Int) (β:=Int ⊕ Unit) (fun(v13:Int)=>bif decide (v13<(↑(a.1.length):Int))then(gd (decide (0≤v13)) (gd (decide (v13<(↑(a.1.length):Int))) (gd (decide (v13.toNat<a.1.length)) (bif Qc (a.1.getD (v13.toNat) Zc).1 a.2 then(some (Sum.inr (Sum.inl v13)))else(some (Sum.inl (w64 (v13+1))))))))else(some (Sum.inr (Sum.inr ())))) F ((0:Int))).bind fun(v10:Int ⊕ Unit)=>Sum.elim (fun(v11:Int)=>some (v11)) (fun(v12:Unit)=>some ((-1:Int))) (v10)
def Yj3(F:Nat):PX:={np:=2,locs:=[.cap (.arg 1) 0],τ:=Zoe,nr:=1,ω:=Yau,ids:=[],mv:=[],code:=Qkv F}
theorem Yco(F:Nat):Zb cx 154 (Yj3 F):=qXE (Zsz F) (.two .leaf (.two (.two .leaf (.one (.loop ⟨[.slot 8 (.val (.int .i64))],[]⟩ [(.ret,⟨[.slot 4 (.val (.int .i64))],[]⟩),(.exit 0,⟨[],[]⟩)] ⟨[18,8,11,12,13,14,15,16,4,17,5,10,9],[],[]⟩ F .leaf))) .leaf)) f154 (by kernel_rfl) fun a=>by kernel_rfl
def Zp4(F:Nat):LK:=lX (Qi9 F) (lX (Qx7 F) (lX (Yco F) lN))
def Qfp(F:Nat)(a:(Za)×ByteArray):Option ((Yh)×Bool):=
 (Qkv F (a.1.2.2.2.2,a.2)).bind fun(v5:Int)=>bif decide (v5<0)then(some ((({data:=List.toArray (Qa UInt8)},{data:=List.toArray (Qa UInt8)},{data:=List.toArray (Qa UInt8)},(0:Int),(0:Int),(0:Int),(0:Int),{data:=List.toArray (Qa UInt8)},(0:Int),{data:=List.toArray (Qa UInt8)},(0:Int)),false)))else(gd (decide (0≤v5)) (gd (decide (v5<(↑(a.1.2.2.2.2.length):Int))) (gd (decide (v5.toNat<a.1.2.2.2.2.length)) (some (((a.1.2.2.2.2.getD (v5.toNat) Zc),true))))))
def Zcv(F:Nat):PC:={ats:=[.agg Y9,.val (.str)],rts:=[.agg Y1,.val (.bool)],code:=Qfp F}
theorem Qb4(F:Nat):Qg cx 131 (Zcv F):=qE (Zp4 F) .leaf f131 (by kernel_rfl) fun a=>by kernel_rfl
def Zi6:Qj:=⟨[.slot 0 (.agg Xm),.one 0 9 Z2],[(1,.stat (.ptr 0 1 0 0))]⟩
def Ya9:Qj:=⟨[.slot 0 (.val (.bool))],[]⟩
def Zoq(F:Nat):LK:=lN
def Zot(F:Nat):PX:=qX (Zoq F) .leaf f185 (pxB 2 [.arg 1] Zi6 1 Ya9 [] [])
theorem Zbp(F:Nat):Zb cx 185 (Zot F):=Xo (by kernel_rfl)
def Yda:Qj:=⟨[.slot 0 (.val (.seq Xm)),.one 0 9 Z2],[(1,.stat (.fn (.func 185) [] [.ptr 0 1 0 0]))]⟩
def Zts:Qj:=⟨[.slot 0 (.val (.int .i64))],[]⟩
def Zqx(F:Nat):LK:=lX (Zbp F) lN
def Qo3(F:Nat)(a:List (Qu)×ByteArray):Option (Int):=
 (Q2 (σ:=Int) (β:=Int ⊕ Unit) (fun(v13:Int)=>bif decide (v13<(↑(a.1.length):Int))then(gd (decide (0≤v13)) (gd (decide (v13<(↑(a.1.length):Int))) (gd (decide (v13.toNat<a.1.length)) (bif Qc (a.1.getD (v13.toNat) Xn).1 a.2 then(some (Sum.inr (Sum.inl v13)))else(some (Sum.inl (w64 (v13+1))))))))else(some (Sum.inr (Sum.inr ())))) F ((0:Int))).bind fun(v10:Int ⊕ Unit)=>Sum.elim (fun(v11:Int)=>some (v11)) (fun(v12:Unit)=>some ((-1:Int))) (v10)
def Zs1(F:Nat):PX:={np:=2,locs:=[.cap (.arg 1) 0],τ:=Yda,nr:=1,ω:=Zts,ids:=[],mv:=[],code:=Qo3 F}
theorem Qtz(F:Nat):Zb cx 184 (Zs1 F):=qXE (Zqx F) (.two .leaf (.two (.two .leaf (.one (.loop ⟨[.slot 8 (.val (.int .i64))],[]⟩ [(.ret,⟨[.slot 4 (.val (.int .i64))],[]⟩),(.exit 0,⟨[],[]⟩)] ⟨[18,8,11,12,13,14,15,16,4,17,5,10,9],[],[]⟩ F .leaf))) .leaf)) f184 (by kernel_rfl) fun a=>by kernel_rfl
def Zll(F:Nat):LK:=lX (Zbp F) (lX (Qtz F) lN)
def V6(F:Nat)(a:(Qk)×ByteArray):Option (Int):=
 (Qo3 F (a.1.2.1,a.2)).bind fun(v5:Int)=>some (v5)
def Qw4(F:Nat):PC:={ats:=Qct,rts:=Zg,code:=V6 F}
theorem Y7(F:Nat):Qg cx 110 (Qw4 F):=qE (Zll F) .leaf f110 (by kernel_rfl) fun a=>by kernel_rfl
def Zhy:Qj:=⟨[.slot 0 (.agg Ys),.one 0 9 Z2,.one 1 9 Z2],[(1,.stat (.ptr 0 1 0 0)),(2,.stat (.ptr 1 1 0 0))]⟩
def Zs7:Qj:=⟨[.slot 0 (.val (.bool))],[]⟩
def Yi5(F:Nat):LK:=lN
def Qmx(F:Nat)(a:(Qy)×ByteArray×ByteArray):Option (Bool):=
 (bif Qc a.1.1 a.2.1 then(some (Qc a.1.2.1 a.2.2))else(some (false))).bind fun(v5:Bool)=>some (v5)
def Zss(F:Nat):PX:={np:=3,locs:=[.arg 1,.arg 2],τ:=Zhy,nr:=1,ω:=Zs7,ids:=[],mv:=[],code:=Qmx F}
theorem Qwq(F:Nat):Zb cx 226 (Zss F):=qXE (Yi5 F) (.two .leaf (.two (.join [(.normal,⟨[.slot 4 (.val (.bool))],[]⟩)] ⟨(4::Ql 14 10 []),[],[]⟩ .leaf) .leaf)) f226 (by kernel_rfl) fun a=>by kernel_rfl
def Zic:Qj:=⟨[.slot 0 (.val (.seq Ys)),.one 0 9 Z2,.one 1 9 Z2],[(1,.stat (.fn (.func 226) [] [.ptr 0 1 0 0,.ptr 1 1 0 0]))]⟩
def Zlv:Qj:=⟨[.slot 0 (.val (.int .i64))],[]⟩
def Zrn(F:Nat):LK:=lX (Qwq F) lN
def Qnd(F:Nat)(a:List (Qy)×ByteArray×ByteArray):Option (Int):=
 (Q2 (σ:=Int) (β:=Int ⊕ Unit) (fun(v15:Int)=>bif decide (v15<(↑(a.1.length):Int))then(gd (decide (0≤v15)) (gd (decide (v15<(↑(a.1.length):Int))) (gd (decide (v15.toNat<a.1.length)) ((Qmx F ((a.1.getD (v15.toNat) (ByteArray.empty,ByteArray.empty,Qa ByteArray)),a.2.1,a.2.2)).bind fun(v16:Bool)=>bif v16 then(some (Sum.inr (Sum.inl v15)))else(some (Sum.inl (w64 (v15+1))))))))else(some (Sum.inr (Sum.inr ())))) F ((0:Int))).bind fun(v12:Int ⊕ Unit)=>Sum.elim (fun(v13:Int)=>some (v13)) (fun(v14:Unit)=>some ((-1:Int))) (v12)
def Yi6(F:Nat):PX:={np:=2,locs:=[.cap (.arg 1) 0,.cap (.arg 1) 1],τ:=Zic,nr:=1,ω:=Zlv,ids:=[],mv:=[],code:=Qnd F}
theorem Qu9(F:Nat):Zb cx 225 (Yi6 F):=qXE (Zrn F) (.two .leaf (.two (.two .leaf (.one (.loop ⟨[.slot 8 (.val (.int .i64))],[]⟩ [(.ret,⟨[.slot 4 (.val (.int .i64))],[]⟩),(.exit 0,⟨[],[]⟩)] ⟨[18,8,11,12,13,14,15,16,4,17,5,10,9],[],[]⟩ F .leaf))) .leaf)) f225 (by kernel_rfl) fun a=>by kernel_rfl
def Zws(F:Nat):LK:=lX (Qwq F) (lX (Qu9 F) lN)
def Qhc(F:Nat)(a:(Qk)×ByteArray×ByteArray):Option (Int):=
 (Qnd F (a.1.2.2.2.2,a.2.1,a.2.2)).bind fun(v5:Int)=>some (v5)
def Qt0(F:Nat):PC:={ats:=Qhp,rts:=Zg,code:=Qhc F}
theorem Qew(F:Nat):Qg cx 187 (Qt0 F):=qE (Zws F) .leaf f187 (by kernel_rfl) fun a=>by kernel_rfl
def Zt5(F:Nat):LK:=lC (Jt F) lN
def Qay(F:Nat)(a:(Qk)×ByteArray):Option (Bool):=
 (Vt F (a.1.1,a.2)).bind fun(v5:Bool)=>some (v5)
def Zbl(F:Nat):PC:={ats:=Qct,rts:=Xd,code:=Qay F}
theorem Vd(F:Nat):Qg cx 111 (Zbl F):=qE (Zt5 F) .leaf f111 (by kernel_rfl) fun a=>by kernel_rfl
end
end Go.Proofs.Tryz

/- Functions of the program as functions of data. By program. -/
import Derived.Test.YtpkbmngnolhopaaGreatDoorXTeCx
set_option maxRecDepth 100000
set_option linter.all false
namespace Go.Proofs.Tryz
open Go Go.Sx
noncomputable section
def Zzx(F:Nat):LK:=lN
def c98(F:Nat)(a:ByteArray):Option (Bool):=
 (Q4 (σ:=ByteArray×Nat) (β:=(ByteArray×Nat)×Bool ⊕ ByteArray×Nat) (fun(v23:ByteArray×Nat)=>bif decide (v23.2<ByteArray.size v23.1)then(bif decide (97≤(↑(Go.Utf8.decode v23.1 v23.2).1:Int))then(bif decide ((↑(Go.Utf8.decode v23.1 v23.2).1:Int)≤(122:Int))then(some (Sum.inl (v23.1,v23.2+(Go.Utf8.decode v23.1 v23.2).2)))else(bif decide (65≤(↑(Go.Utf8.decode v23.1 v23.2).1:Int))then(bif !decide ((↑(Go.Utf8.decode v23.1 v23.2).1:Int)≤(90:Int))then(bif decide ((↑v23.2:Int)=(0:Int))then(some (Sum.inr (Sum.inl ((v23.1,v23.2+(Go.Utf8.decode v23.1 v23.2).2),false))))else(bif !decide ((↑(Go.Utf8.decode v23.1 v23.2).1:Int)=(95:Int))then(bif decide ((↑(Go.Utf8.decode v23.1 v23.2).1:Int)<(48:Int))then(some (Sum.inr (Sum.inl ((v23.1,v23.2+(Go.Utf8.decode v23.1 v23.2).2),false))))else(bif decide (57<(↑(Go.Utf8.decode v23.1 v23.2).1:Int))then(some (Sum.inr (Sum.inl ((v23.1,v23.2+(Go.Utf8.decode v23.1 v23.2).2),false))))else(some (Sum.inl (v23.1,v23.2+(Go.Utf8.decode v23.1 v23.2).2)))))else(some (Sum.inl (v23.1,v23.2+(Go.Utf8.decode v23.1 v23.2).2)))))else(some (Sum.inl (v23.1,v23.2+(Go.Utf8.decode v23.1 v23.2).2))))else(bif decide ((↑v23.2:Int)=(0:Int))then(some (Sum.inr (Sum.inl ((v23.1,v23.2+(Go.Utf8.decode v23.1 v23.2).2),false))))else(bif !decide ((↑(Go.Utf8.decode v23.1 v23.2).1:Int)=(95:Int))then(bif decide ((↑(Go.Utf8.decode v23.1 v23.2).1:Int)<(48:Int))then(some (Sum.inr (Sum.inl ((v23.1,v23.2+(Go.Utf8.decode v23.1 v23.2).2),false))))else(bif decide (57<(↑(Go.Utf8.decode v23.1 v23.2).1:Int))then(some (Sum.inr (Sum.inl ((v23.1,v23.2+(Go.Utf8.decode v23.1 v23.2).2),false))))else(some (Sum.inl (v23.1,v23.2+(Go.Utf8.decode v23.1 v23.2).2)))))else(some (Sum.inl (v23.1,v23.2+(Go.Utf8.decode v23.1 v23.2).2)))))))else(bif decide (65≤(↑(Go.Utf8.decode v23.1 v23.2).1:Int))then(bif !decide ((↑(Go.Utf8.decode v23.1 v23.2).1:Int)≤(90:Int))then(bif decide ((↑v23.2:Int)=(0:Int))then(some (Sum.inr (Sum.inl ((v23.1,v23.2+(Go.Utf8.decode v23.1 v23.2).2),false))))else(bif !decide ((↑(Go.Utf8.decode v23.1 v23.2).1:Int)=(95:Int))then(bif decide ((↑(Go.Utf8.decode v23.1 v23.2).1:Int)<(48:Int))then(some (Sum.inr (Sum.inl ((v23.1,v23.2+(Go.Utf8.decode v23.1 v23.2).2),false))))else(bif decide (57<(↑(Go.Utf8.decode v23.1 v23.2).1:Int))then(some (Sum.inr (Sum.inl ((v23.1,v23.2+(Go.Utf8.decode v23.1 v23.2).2),false))))else(some (Sum.inl (v23.1,v23.2+(Go.Utf8.decode v23.1 v23.2).2)))))else(some (Sum.inl (v23.1,v23.2+(Go.Utf8.decode v23.1 v23.2).2)))))else(some (Sum.inl (v23.1,v23.2+(Go.Utf8.decode v23.1 v23.2).2))))else(bif decide ((↑v23.2:Int)=(0:Int))then(some (Sum.inr (Sum.inl ((v23.1,v23.2+(Go.Utf8.decode v23.1 v23.2).2),false))))else(bif !decide ((↑(Go.Utf8.decode v23.1 v23.2).1:Int)=(95:Int))then(bif decide ((↑(Go.Utf8.decode v23.1 v23.2).1:Int)<(48:Int))then(some (Sum.inr (Sum.inl ((v23.1,v23.2+(Go.Utf8.decode v23.1 v23.2).2),false))))else(bif decide (57<(↑(Go.Utf8.decode v23.1 v23.2).1:Int))then(some (Sum.inr (Sum.inl ((v23.1,v23.2+(Go.Utf8.decode v23.1 v23.2).2),false))))else(some (Sum.inl (v23.1,v23.2+(Go.Utf8.decode v23.1 v23.2).2)))))else(some (Sum.inl (v23.1,v23.2+(Go.Utf8.decode v23.1 v23.2).2)))))))else(some (Sum.inr (Sum.inr v23)))) F ((a,(0:Nat)))).bind fun(v19:(ByteArray×Nat)×Bool ⊕ ByteArray×Nat)=>Sum.elim (fun(v20:(ByteArray×Nat)×Bool)=>some v20.2) (fun(v21:ByteArray×Nat)=>(bif decide (0<(↑(ByteArray.size a):Int))then(some (decide ((↑(ByteArray.size a):Int)≤(24:Int))))else(some (false))).bind fun(v22:Bool)=>some (v22)) (v19)
def Qqq(F:Nat):PC:={ats:=Uu,rts:=Y8,code:=c98 F}
theorem Vu(F:Nat):Qg cx 98 (Qqq F):=qE (Zzx F) (.two .leaf (.two (.two .leaf (.one (.loop ⟨[.iter 0],[]⟩ [(.ret,⟨[.iter 0,.slot 2 (.val (.bool))],[]⟩),(.exit 0,⟨[.iter 0],[]⟩)] ⟨(Ye 12 14 (5::2::Qn 43 18 (4::3::11::10::9::8::[]))),[0],[]⟩ F .leaf))) (.two (.join [(.normal,⟨[.slot 2 (.val (.bool))],[]⟩)] ⟨(2::Qn 51 8 []),[],[]⟩ .leaf) .leaf))) f98 (by kernel_rfl) fun a=>by kernel_rfl
def Yga(F:Nat):LK:=lN
def Qo(F:Nat)(a:Bool×Int):Option (Int):=
 bif a.1 then(some a.2)else(some ((0:Int)))
def Zdb(F:Nat):PC:={ats:=Qvk,rts:=Zg,code:=Qo F}
theorem Z8(F:Nat):Qg cx 86 (Zdb F):=qE (Yga F) .leaf f86 (by kernel_rfl) fun a=>by kernel_rfl
def Zz8(F:Nat):LK:=lC (Z8 F) (lC (Vu F) lN)
def c92(F:Nat)(a:ByteArray):Option (Int):=
 (c98 F a).bind fun(v7:Bool)=>(Qo F (!v7,(8:Int))).bind fun(v8:Int)=>some (v8)
def Zld(F:Nat):PC:={ats:=Uu,rts:=Zg,code:=c92 F}
theorem Vr(F:Nat):Qg cx 92 (Zld F):=qE (Zz8 F) .leaf f92 (by kernel_rfl) fun a=>by kernel_rfl
def Yb3(F:Nat):LK:=lN
def Qps(F:Nat)(a:Int):Option (Bool):=
 (bif decide (a<0)then(some (true))else(some (decide (99999<a)))).bind fun(v5:Bool)=>some (v5)
def Yhj(F:Nat):PC:={ats:=Zg,rts:=Y8,code:=Qps F}
theorem Qxe(F:Nat):Qg cx 153 (Yhj F):=qE (Yb3 F) (.two .leaf (.two (.join [(.normal,⟨[.slot 2 (.val (.bool))],[]⟩)] ⟨[2,8,7,6,5,4,3],[],[]⟩ .leaf) .leaf)) f153 (by kernel_rfl) fun a=>by kernel_rfl
def Ybz:Ql:=⟨[.slot 0 (.val (.seq K3))],[(1,.stat (.pv (.lit (.func (.func 153) #[] #[]))))]⟩
def Ya3:Ql:=⟨[.slot 0 (.val (.int .i64))],[]⟩
def Ye7(F:Nat):LK:=lC (Qxe F) lN
def Qnk(F:Nat)(a:List Int):Option (Int):=
 (Q4 (σ:=Int) (β:=Int ⊕ Unit) (fun(v15:Int)=>bif decide (v15<(↑(a.length):Int))then(gd (decide (0≤v15)) (gd (decide (v15<(↑(a.length):Int))) (gd (decide (v15.toNat<a.length)) ((Qps F (a.getD (v15.toNat) (0:Int))).bind fun(v16:Bool)=>bif v16 then(some (Sum.inr (Sum.inl v15)))else(some (Sum.inl (w64 (v15+1))))))))else(some (Sum.inr (Sum.inr ())))) F ((0:Int))).bind fun(v12:Int ⊕ Unit)=>Sum.elim (fun(v13:Int)=>some (v13)) (fun(v14:Unit)=>some ((-1:Int))) (v12)
def Zvw(F:Nat):PX:={np:=2,locs:=[],τ:=Ybz,nr:=1,ω:=Ya3,ids:=[],mv:=[],code:=Qnk F}
theorem Zhl(F:Nat):Zf cx 209 (Zvw F):=Yh (Ye7 F) (.two .leaf (.two (.two .leaf (.one (.loop ⟨[.slot 8 (.val (.int .i64))],[]⟩ [(.ret,⟨[.slot 4 (.val (.int .i64))],[]⟩),(.exit 0,⟨[],[]⟩)] ⟨[18,8,11,12,13,14,15,16,4,17,5,10,9],[],[]⟩ F .leaf))) .leaf)) f209 (by kernel_rfl) fun a=>by kernel_rfl
def Zok:Ql:=⟨[.slot 0 (.val (.seq K3))],[(1,.stat (.pv (.lit (.func (.func 153) #[] #[]))))]⟩
def Zx2:Ql:=⟨[.slot 0 (.val (.bool))],[]⟩
def Zo6(F:Nat):LK:=lC (Qxe F) (lX (Zhl F) lN)
def Qxb(F:Nat)(a:List Int):Option (Bool):=
 (Qnk F a).bind fun(v5:Int)=>some (decide (0≤v5))
def Yh8(F:Nat):PX:={np:=2,locs:=[],τ:=Zok,nr:=1,ω:=Zx2,ids:=[],mv:=[],code:=Qxb F}
theorem Ya5(F:Nat):Zf cx 152 (Yh8 F):=Yh (Zo6 F) .leaf f152 (by kernel_rfl) fun a=>by kernel_rfl
def Yj1(F:Nat):LK:=lC (Z8 F) (lC (Qxe F) (lX (Zhl F) (lX (Ya5 F) lN)))
def Z6(F:Nat)(a:List Int):Option (Int):=
 (Qxb F a).bind fun(v7:Bool)=>(Qo F (v7,(3:Int))).bind fun(v8:Int)=>some (v8)
def Ydf(F:Nat):PC:={ats:=[.val (.seq K3)],rts:=Zg,code:=Z6 F}
theorem Wn(F:Nat):Qg cx 85 (Ydf F):=qE (Yj1 F) .leaf f85 (by kernel_rfl) fun a=>by kernel_rfl
def Ztw(F:Nat):LK:=lN
def Q0(F:Nat)(a:List Int):Option (Int):=
 (Q4 (σ:=Int) (β:=Int ⊕ Unit) (fun(v13:Int)=>bif decide (v13<(↑(a.length):Int))then(gd (decide (0≤v13)) (gd (decide (v13<(↑(a.length):Int))) (gd (decide (v13.toNat<a.length)) (bif !decide (a.getD (v13.toNat) (0:Int)=(0:Int))then(some (Sum.inr (Sum.inl (a.getD (v13.toNat) (0:Int)))))else(some (Sum.inl (w64 (v13+1))))))))else(some (Sum.inr (Sum.inr ())))) F ((0:Int))).bind fun(v10:Int ⊕ Unit)=>Sum.elim (fun(v11:Int)=>some (v11)) (fun(v12:Unit)=>some ((0:Int))) (v10)
def Zdo(F:Nat):PC:={ats:=[.val (.seq K3)],rts:=Zg,code:=Q0 F}
theorem Ya(F:Nat):Qg cx 84 (Zdo F):=qE (Ztw F) (.two .leaf (.two (.two .leaf (.one (.loop ⟨[.slot 7 (.val (.int .i64))],[]⟩ [(.ret,⟨[.slot 2 (.val (.int .i64))],[]⟩),(.exit 0,⟨[],[]⟩)] ⟨[14,7,11,12,2,13,4,10,9,8],[],[]⟩ F .leaf))) .leaf)) f84 (by kernel_rfl) fun a=>by kernel_rfl
def Zy7(F:Nat):LK:=lC (Ya F) (lC (Z8 F) (lC (Wn F) (lC (Vr F) lN)))
def c63(F:Nat)(a:(Qt)×Int):Option (Int×Int):=
 ((c92 F a.1.1).bind fun(v132:Int)=>(tw (X:=Int×Int) (Qm.eqv (Qd.val (Ty.int Go.IntKind.i64)::Qd.val (Ty.int Go.IntKind.i64)::Qa Qd)) ((Z6 F (a.1.2.2.1::Qa Int)).bind fun(v145:Int)=>(Z6 F (a.2::Qa Int)).bind fun(v146:Int)=>(Qo F (decide (a.2<a.1.2.2.1),(11:Int))).bind fun(v147:Int)=>(Q0 F (v132::v145::v146::v147::Qa Int)).bind fun(v148:Int)=>bif !decide (v148=0)then(some (((0:Int),v148)))else(some ((w64 (Int.tdiv (w64 (a.2-a.1.2.2.1)) (365:Int)),(0:Int)))))).bind fun(v133:Int×Int)=>((Z6 F (a.1.2.2.1::Qa Int)).bind fun(v135:Int)=>(Z6 F (a.2::Qa Int)).bind fun(v136:Int)=>(Qo F (decide (a.2<a.1.2.2.1),(11:Int))).bind fun(v137:Int)=>(Q0 F (v132::v135::v136::v137::Qa Int)).bind fun(v138:Int)=>bif !decide (v138=0)then(some (((0:Int),v138)))else(some ((w64 (Int.tdiv (w64 (a.2-a.1.2.2.1)) (365:Int)),(0:Int))))).bind fun(v134:Int×Int)=>gd (Qm.eqv (Qd.val (Ty.int Go.IntKind.i64)::Qd.val (Ty.int Go.IntKind.i64)::Qa Qd) v133 v134) (some (v133))).bind fun(v98:Int×Int)=>((((c92 F a.1.1).bind fun(v121:Int)=>tw (X:=Int×Int) (Qm.eqv (Qd.val (Ty.int Go.IntKind.i64)::Qd.val (Ty.int Go.IntKind.i64)::Qa Qd)) ((Z6 F (a.1.2.2.1::Qa Int)).bind fun(v128:Int)=>(Z6 F (a.2::Qa Int)).bind fun(v129:Int)=>(Qo F (decide (a.2<a.1.2.2.1),(11:Int))).bind fun(v130:Int)=>(Q0 F (v121::v128::v129::v130::Qa Int)).bind fun(v131:Int)=>bif !decide (v131=0)then(some (((0:Int),v131)))else(some ((w64 (Int.tdiv (w64 (a.2-a.1.2.2.1)) (365:Int)),(0:Int)))))).bind fun(v114:Int×Int)=>((c92 F a.1.1).bind fun(v116:Int)=>(Z6 F (a.1.2.2.1::Qa Int)).bind fun(v117:Int)=>(Z6 F (a.2::Qa Int)).bind fun(v118:Int)=>(Qo F (decide (a.2<a.1.2.2.1),(11:Int))).bind fun(v119:Int)=>(Q0 F (v116::v117::v118::v119::Qa Int)).bind fun(v120:Int)=>bif !decide (v120=0)then(some (((0:Int),v120)))else(some ((w64 (Int.tdiv (w64 (a.2-a.1.2.2.1)) (365:Int)),(0:Int))))).bind fun(v115:Int×Int)=>gd (Qm.eqv (Qd.val (Ty.int Go.IntKind.i64)::Qd.val (Ty.int Go.IntKind.i64)::Qa Qd) v114 v115) (some (v114))).bind fun(v100:Int×Int)=>(tw (X:=Int×Int) (Qm.eqv (Qd.val (Ty.int Go.IntKind.i64)::Qd.val (Ty.int Go.IntKind.i64)::Qa Qd)) ((c92 F a.1.1).bind fun(v109:Int)=>(Z6 F (a.1.2.2.1::Qa Int)).bind fun(v110:Int)=>(Z6 F (a.2::Qa Int)).bind fun(v111:Int)=>(Qo F (decide (a.2<a.1.2.2.1),(11:Int))).bind fun(v112:Int)=>(Q0 F (v109::v110::v111::v112::Qa Int)).bind fun(v113:Int)=>bif !decide (v113=0)then(some (((0:Int),v113)))else(some ((w64 (Int.tdiv (w64 (a.2-a.1.2.2.1)) (365:Int)),(0:Int)))))).bind fun(v101:Int×Int)=>gd (Qm.eqv (Qd.val (Ty.int Go.IntKind.i64)::Qd.val (Ty.int Go.IntKind.i64)::Qa Qd) v100 v101) (some (v100))).bind fun(v99:Int×Int)=>gd (Qm.eqv (Qd.val (Ty.int Go.IntKind.i64)::Qd.val (Ty.int Go.IntKind.i64)::Qa Qd) v98 v99) (some (v98))
def Zfw(F:Nat):PC:={ats:=[.agg Xi,.val (.int .i64)],rts:=Qo1,code:=c63 F}
theorem Zno(F:Nat):Qg cx 63 (Zfw F):=qE (Zy7 F) .leaf f63 (by kernel_rfl) fun a=>by kernel_rfl
def Zt4(F:Nat):LK:=lN
def Wu(F:Nat)(a:List (Qx)×ByteArray×Int):Option (Bool):=
 (Q4 (σ:=Bool×Int) (β:=Bool) (fun(v10:Bool×Int)=>bif decide (v10.2<(↑(a.1.length):Int))then(gd (decide (0≤v10.2)) (gd (decide (v10.2<(↑(a.1.length):Int))) (gd (decide (v10.2.toNat<a.1.length)) ((bif !Qc (a.1.getD (v10.2.toNat) (ByteArray.empty,(0:Int),(0:Int))).1 a.2.1 then(some (true))else(bif decide (a.2.2<(a.1.getD (v10.2.toNat) (ByteArray.empty,(0:Int),(0:Int))).2.1)then(some (true))else(some (decide ((a.1.getD (v10.2.toNat) (ByteArray.empty,(0:Int),(0:Int))).2.2<a.2.2))))).bind fun(v11:Bool)=>bif v11 then(some (Sum.inl (v10.1,w64 (v10.2+1))))else(some (Sum.inr true))))))else(some (Sum.inr v10.1))) F ((false,(0:Int)))).bind fun(v9:Bool)=>some (v9)
def Yn0(F:Nat):PC:={ats:=Ze8,rts:=Y8,code:=Wu F}
theorem Zya(F:Nat):Qg cx 147 (Yn0 F):=qE (Zt4 F) (.two .leaf (.one (Zb 2 (.two (.two .leaf (.one (.loop ⟨[.slot 7 (.val (.bool)),.slot 12 (.val (.int .i64))],[]⟩ [(.exit 0,⟨[.slot 7 (.val (.bool))],[]⟩)] ⟨(32::12::Ye 16 16 (7::9::15::14::13::[])),[],[]⟩ F (Zb 2 (.two (.one (.two .leaf (.two (.two (.join [(.normal,⟨[.slot 31 (.val (.bool))],[]⟩)] ⟨(Qn 31 16 []),[],[]⟩ .leaf) .leaf) .leaf))) .leaf))))) .leaf)))) f147 (by kernel_rfl) fun a=>by kernel_rfl
def Yem(F:Nat):LK:=lC (Ya F) (lC (Z8 F) (lC (Wn F) lN))
def Qjb(F:Nat)(a:Qx):Option (Int):=
 (Z6 F (a.2.1::a.2.2::Qa Int)).bind fun(v9:Int)=>(Qo F (decide (a.2.2<a.2.1),(11:Int))).bind fun(v10:Int)=>(Q0 F (v9::v10::Qa Int)).bind fun(v11:Int)=>some (v11)
def Zne(F:Nat):PC:={ats:=[.agg Xp],rts:=Zg,code:=Qjb F}
theorem Qji(F:Nat):Qg cx 114 (Zne F):=qE (Yem F) .leaf f114 (by kernel_rfl) fun a=>by kernel_rfl
def Yc0(F:Nat):LK:=lC (Ya F) (lC (Qji F) (lC (Vr F) lN))
def Zyw(F:Nat):PC:=qT (Yc0 F) .leaf f146 [.val (.int .i64),.agg Xp] Zg
theorem Zob(F:Nat):Qg cx 146 (Zyw F):=Qx9 (by kernel_rfl)
def Zyi:Ql:=⟨[.slot 0 (.val (.seq Xp))],[(1,.stat (.pv (.lit (.func (.func 146) #[] #[]))))]⟩
def Yhy:Ql:=⟨[.slot 0 (.val (.int .i64))],[]⟩
def Zj2(F:Nat):LK:=lC (Ya F) (lC (Qji F) (lC (Vr F) (lC (Zob F) lN)))
def Ylb(F:Nat):PX:=qX (Zj2 F) (.two .leaf (.two (.two .leaf (.one (.loop ⟨[.slot 10 (.val (.int .i64))],[]⟩ [(.ret,⟨[.slot 4 (.val (.int .i64))],[]⟩),(.exit 0,⟨[],[]⟩)] ⟨[22,10,15,16,17,18,7,21,4,20,19,5,6,14,13,12,11],[],[]⟩ F .leaf))) .leaf)) f112 (pxB 2 [] Zyi 1 Yhy [] [])
theorem Yae(F:Nat):Zf cx 112 (Ylb F):=W1 (by kernel_rfl)
def Zu3(F:Nat):LK:=lN
def c67(F:Nat)(a:ByteArray):Option (Bool):=
 (bif decide ((↑(ByteArray.size a):Int)<(1:Int))then(some (true))else(some (decide (24<(↑(ByteArray.size a):Int))))).bind fun(v16:Bool)=>bif v16 then(some (false))else((Q4 (σ:=Int) (β:=Bool ⊕ Unit) (fun(v20:Int)=>bif decide (v20<(↑(ByteArray.size a):Int))then(gd (decide (0≤v20)) (gd (decide (v20.toNat<ByteArray.size a)) ((bif decide (97≤(↑(BitVec.toFin (UInt8.toBitVec (ByteArray.get! a (v20.toNat)))).1:Int))then(bif decide ((↑(BitVec.toFin (UInt8.toBitVec (ByteArray.get! a (v20.toNat)))).1:Int)≤(122:Int))then(some (true))else(bif decide (65≤(↑(BitVec.toFin (UInt8.toBitVec (ByteArray.get! a (v20.toNat)))).1:Int))then(some (decide ((↑(BitVec.toFin (UInt8.toBitVec (ByteArray.get! a (v20.toNat)))).1:Int)≤(90:Int))))else(some (false))))else(bif decide (65≤(↑(BitVec.toFin (UInt8.toBitVec (ByteArray.get! a (v20.toNat)))).1:Int))then(some (decide ((↑(BitVec.toFin (UInt8.toBitVec (ByteArray.get! a (v20.toNat)))).1:Int)≤(90:Int))))else(some (false)))).bind fun(v21:Bool)=>(bif !v21 then(bif decide (v20=0)then(some (true))else(bif decide (48≤(↑(BitVec.toFin (UInt8.toBitVec (ByteArray.get! a (v20.toNat)))).1:Int))then(bif decide ((↑(BitVec.toFin (UInt8.toBitVec (ByteArray.get! a (v20.toNat)))).1:Int)≤(57:Int))then(some (!true))else(some (!decide ((↑(BitVec.toFin (UInt8.toBitVec (ByteArray.get! a (v20.toNat)))).1:Int)=(95:Int)))))else(some (!decide ((↑(BitVec.toFin (UInt8.toBitVec (ByteArray.get! a (v20.toNat)))).1:Int)=(95:Int))))))else(some (false))).bind fun(v22:Bool)=>bif v22 then(some (Sum.inr (Sum.inl false)))else(some (Sum.inl (w64 (v20+1)))))))else(some (Sum.inr (Sum.inr ())))) F ((0:Int))).bind fun(v17:Bool ⊕ Unit)=>Sum.elim (fun(v18:Bool)=>some (v18)) (fun(v19:Unit)=>some (true)) (v17))
def Zwg(F:Nat):PC:={ats:=Uu,rts:=Y8,code:=c67 F}
theorem Qk3(F:Nat):Qg cx 67 (Zwg F):=qE (Zu3 F) (.two .leaf (.two (.two (.join [(.normal,⟨[.slot 13 (.val (.bool))],[]⟩)] ⟨(Qn 13 8 []),[],[]⟩ .leaf) .leaf) (.two (.two .leaf (.one (.loop ⟨[.slot 3 (.val (.int .i64))],[]⟩ [(.ret,⟨[.slot 2 (.val (.bool))],[]⟩),(.exit 0,⟨[],[]⟩)] ⟨(20::21::22::4::Ye 37 19 (2::5::Qn 36 14 (3::Qn 19 6 []))),[],[]⟩ F (.two .leaf (.two (.one (.two .leaf (.two (.join [(.normal,⟨[.slot 5 (.val (.bool))],[]⟩)] ⟨(5::Qn 36 14 []),[],[]⟩ .leaf) (.two (.join [(.normal,⟨[.slot 55 (.val (.bool))],[]⟩)] ⟨(Qn 55 19 []),[],[]⟩ .leaf) .leaf)))) .leaf))))) .leaf))) f67 (by kernel_rfl) fun a=>by kernel_rfl
def Zr0(F:Nat):LK:=lN
def c94(F:Nat)(a:Int×Int):Option (Bool):=
 (bif decide (a.1<0)then(some (true))else(some (decide (a.2<a.1)))).bind fun(v5:Bool)=>some (v5)
def Yi5(F:Nat):PC:={ats:=Qo1,rts:=Y8,code:=c94 F}
theorem Qhp(F:Nat):Qg cx 94 (Yi5 F):=qE (Zr0 F) (.two .leaf (.two (.join [(.normal,⟨[.slot 4 (.val (.bool))],[]⟩)] ⟨(4::Qn 11 7 []),[],[]⟩ .leaf) .leaf)) f94 (by kernel_rfl) fun a=>by kernel_rfl
def Ya4(F:Nat):LK:=lN
def c68(F:Nat)(a:List (Qx)×ByteArray×Int):Option (Bool):=
 (Q4 (σ:=Int) (β:=Bool ⊕ Unit) (fun(v15:Int)=>bif decide (v15<(↑(a.1.length):Int))then((gd (decide (0≤v15)) (gd (decide (v15<(↑(a.1.length):Int))) (gd (decide (v15.toNat<a.1.length)) (bif Qc (a.1.getD (v15.toNat) (ByteArray.empty,(0:Int),(0:Int))).1 a.2.1 then(gd (decide (0≤v15)) (gd (decide (v15<(↑(a.1.length):Int))) (gd (decide (v15.toNat<a.1.length)) (bif decide ((a.1.getD (v15.toNat) (ByteArray.empty,(0:Int),(0:Int))).2.1≤a.2.2)then(gd (decide (0≤v15)) (gd (decide (v15<(↑(a.1.length):Int))) (gd (decide (v15.toNat<a.1.length)) (some (decide (a.2.2≤(a.1.getD (v15.toNat) (ByteArray.empty,(0:Int),(0:Int))).2.2))))))else(some (false))))))else(some (false)))))).bind fun(v16:Bool)=>bif v16 then(some (Sum.inr (Sum.inl true)))else(some (Sum.inl (w64 (v15+1)))))else(some (Sum.inr (Sum.inr ())))) F ((0:Int))).bind fun(v12:Bool ⊕ Unit)=>Sum.elim (fun(v13:Bool)=>some (v13)) (fun(v14:Unit)=>some (false)) (v12)
def Zot(F:Nat):PC:={ats:=Ze8,rts:=Y8,code:=c68 F}
theorem Zk9(F:Nat):Qg cx 68 (Zot F):=qE (Ya4 F) (.two .leaf (.two (.two .leaf (.one (.loop ⟨[.slot 7 (.val (.int .i64))],[]⟩ [(.ret,⟨[.slot 6 (.val (.bool))],[]⟩),(.exit 0,⟨[],[]⟩)] ⟨(Ye 14 25 (6::7::Qn 13 6 [])),[],[]⟩ F (.two .leaf (.two (.one (.two (.join [(.normal,⟨[.slot 38 (.val (.bool))],[]⟩)] ⟨(Qn 38 25 []),[],[]⟩ .leaf) .leaf)) .leaf))))) .leaf)) f68 (by kernel_rfl) fun a=>by kernel_rfl
def Zjy(F:Nat):LK:=lN
def c30(F:Nat)(a:List Int):Option (Int):=
 (Q4 (σ:=Int) (β:=Int ⊕ Unit) (fun(v13:Int)=>bif decide (v13<(↑(a.length):Int))then(gd (decide (0≤v13)) (gd (decide (v13<(↑(a.length):Int))) (gd (decide (v13.toNat<a.length)) (bif !decide (a.getD (v13.toNat) (0:Int)=(0:Int))then(some (Sum.inr (Sum.inl (a.getD (v13.toNat) (0:Int)))))else(some (Sum.inl (w64 (v13+1))))))))else(some (Sum.inr (Sum.inr ())))) F ((0:Int))).bind fun(v10:Int ⊕ Unit)=>Sum.elim (fun(v11:Int)=>some (v11)) (fun(v12:Unit)=>some ((0:Int))) (v10)
def Zka(F:Nat):PC:={ats:=[.val (.seq K3)],rts:=Zg,code:=c30 F}
theorem Zoa(F:Nat):Qg cx 30 (Zka F):=qE (Zjy F) (.two .leaf (.two (.two .leaf (.one (.loop ⟨[.slot 7 (.val (.int .i64))],[]⟩ [(.ret,⟨[.slot 2 (.val (.int .i64))],[]⟩),(.exit 0,⟨[],[]⟩)] ⟨[14,7,11,12,2,13,4,10,9,8],[],[]⟩ F .leaf))) .leaf)) f30 (by kernel_rfl) fun a=>by kernel_rfl
def Yb8(F:Nat):LK:=lN
def c39(F:Nat)(a:Bool×Int):Option (Int):=
 bif a.1 then(some a.2)else(some ((0:Int)))
def Yn1(F:Nat):PC:={ats:=Qvk,rts:=Zg,code:=c39 F}
theorem Yb6(F:Nat):Qg cx 39 (Yn1 F):=qE (Yb8 F) .leaf f39 (by kernel_rfl) fun a=>by kernel_rfl
def Zv2(F:Nat):LK:=lN
def c44(F:Nat)(a:List ByteArray×List ByteArray):Option (Bool):=
 bif !decide ((↑(a.1.length):Int)=(↑(a.2.length):Int))then(some (false))else((Q4 (σ:=Int) (β:=Bool ⊕ Unit) (fun(v13:Int)=>bif decide (v13<(↑(a.1.length):Int))then(gd (decide (0≤v13)) (gd (decide (v13<(↑(a.1.length):Int))) (gd (decide (v13.toNat<a.1.length)) (gd (decide (0≤v13)) (gd (decide (v13<(↑(a.2.length):Int))) (gd (decide (v13.toNat<a.2.length)) (bif !Qc (a.1.getD (v13.toNat) ByteArray.empty) (a.2.getD (v13.toNat) ByteArray.empty)then(some (Sum.inr (Sum.inl false)))else(some (Sum.inl (w64 (v13+1)))))))))))else(some (Sum.inr (Sum.inr ())))) F ((0:Int))).bind fun(v10:Bool ⊕ Unit)=>Sum.elim (fun(v11:Bool)=>some (v11)) (fun(v12:Unit)=>some (true)) (v10))
def Zfm(F:Nat):PC:={ats:=[.val (.seq Z2),.val (.seq Z2)],rts:=Y8,code:=c44 F}
theorem Qvp(F:Nat):Qg cx 44 (Zfm F):=qE (Zv2 F) (Zb 2 (.two (.two .leaf (.one (.loop ⟨[.slot 5 (.val (.int .i64))],[]⟩ [(.ret,⟨[.slot 4 (.val (.bool))],[]⟩),(.exit 0,⟨[],[]⟩)] ⟨(Ye 17 9 (4::5::Qn 16 6 [])),[],[]⟩ F .leaf))) .leaf)) f44 (by kernel_rfl) fun a=>by kernel_rfl
def Ymv(F:Nat):LK:=lN
def c45(F:Nat)(a:List Int×List Int):Option (Bool):=
 bif !decide ((↑(a.1.length):Int)=(↑(a.2.length):Int))then(some (false))else((Q4 (σ:=Int) (β:=Bool ⊕ Unit) (fun(v13:Int)=>bif decide (v13<(↑(a.1.length):Int))then(gd (decide (0≤v13)) (gd (decide (v13<(↑(a.1.length):Int))) (gd (decide (v13.toNat<a.1.length)) (gd (decide (0≤v13)) (gd (decide (v13<(↑(a.2.length):Int))) (gd (decide (v13.toNat<a.2.length)) (bif !decide (a.1.getD (v13.toNat) (0:Int)=a.2.getD (v13.toNat) (0:Int))then(some (Sum.inr (Sum.inl false)))else(some (Sum.inl (w64 (v13+1)))))))))))else(some (Sum.inr (Sum.inr ())))) F ((0:Int))).bind fun(v10:Bool ⊕ Unit)=>Sum.elim (fun(v11:Bool)=>some (v11)) (fun(v12:Unit)=>some (true)) (v10))
def Qz5(F:Nat):PC:={ats:=[.val (.seq K3),.val (.seq K3)],rts:=Y8,code:=c45 F}
theorem Zqg(F:Nat):Qg cx 45 (Qz5 F):=qE (Ymv F) (Zb 2 (.two (.two .leaf (.one (.loop ⟨[.slot 5 (.val (.int .i64))],[]⟩ [(.ret,⟨[.slot 4 (.val (.bool))],[]⟩),(.exit 0,⟨[],[]⟩)] ⟨(Ye 17 9 (4::5::Qn 16 6 [])),[],[]⟩ F .leaf))) .leaf)) f45 (by kernel_rfl) fun a=>by kernel_rfl
def Zzb(F:Nat):LK:=lN
def c47(F:Nat)(a:(Q7)×ByteArray):Option (Int):=
 (Q4 (σ:=Int) (β:=Int ⊕ Unit) (fun(v13:Int)=>bif decide (v13<(↑(a.1.2.2.2.2.length):Int))then(gd (decide (0≤v13)) (gd (decide (v13<(↑(a.1.2.2.2.2.length):Int))) (gd (decide (v13.toNat<a.1.2.2.2.2.length)) (bif Qc (a.1.2.2.2.2.getD (v13.toNat) Zc).1 a.2 then(some (Sum.inr (Sum.inl v13)))else(some (Sum.inl (w64 (v13+1))))))))else(some (Sum.inr (Sum.inr ())))) F ((0:Int))).bind fun(v10:Int ⊕ Unit)=>Sum.elim (fun(v11:Int)=>some (v11)) (fun(v12:Unit)=>some ((-1:Int))) (v10)
def Ztr(F:Nat):PC:={ats:=[.agg Xs,.val (.str)],rts:=Zg,code:=c47 F}
theorem Qej(F:Nat):Qg cx 47 (Ztr F):=qE (Zzb F) (.two .leaf (.two (.two .leaf (.one (.loop ⟨[.slot 5 (.val (.int .i64))],[]⟩ [(.ret,⟨[.slot 4 (.val (.int .i64))],[]⟩),(.exit 0,⟨[],[]⟩)] ⟨(Ye 13 8 (4::21::5::Qn 12 7 [])),[],[]⟩ F .leaf))) .leaf)) f47 (by kernel_rfl) fun a=>by kernel_rfl
def Ygj(F:Nat):LK:=lN
def Qob(F:Nat)(a:ByteArray):Option (Bool):=
 (bif Qc a {data:=List.toArray (68::78::83::Qa UInt8)}then(some (true))else(bif Qc a {data:=List.toArray (68::78::70::Qa UInt8)}then(some (true))else(bif Qc a {data:=List.toArray (68::81::Qa UInt8)}then(some (true))else(some (Qc a {data:=List.toArray (78::77::Qa UInt8)}))))).bind fun(v5:Bool)=>some (v5)
def Zx8(F:Nat):PC:={ats:=Uu,rts:=Y8,code:=Qob F}
theorem Zw9(F:Nat):Qg cx 210 (Zx8 F):=qE (Ygj F) (.two .leaf (.two (.join [(.normal,⟨[.slot 2 (.val (.bool))],[]⟩)] ⟨(2::Qn 16 14 []),[],[]⟩ .leaf) .leaf)) f210 (by kernel_rfl) fun a=>by kernel_rfl
def Zkq(F:Nat):LK:=lN
def Qx6(F:Nat)(a:ByteArray):Option (Int):=
 bif Qc a {data:=List.toArray (116::105::109::101::Qa UInt8)}then(some ((863999999:Int)))else(bif Qc a {data:=List.toArray (108::101::110::103::116::104::Qa UInt8)}then(some ((999999:Int)))else(some ((99999:Int))))
def Yfi(F:Nat):PC:={ats:=Uu,rts:=Zg,code:=Qx6 F}
theorem Zod(F:Nat):Qg cx 212 (Yfi F):=qE (Zkq F) .leaf f212 (by kernel_rfl) fun a=>by kernel_rfl
def Zq2(F:Nat):LK:=lN
def Qtj(F:Nat)(a:ByteArray):Option (Int):=
 bif Qc a {data:=List.toArray (116::105::109::101::Qa UInt8)}then(some ((1:Int)))else(some ((0:Int)))
def Yig(F:Nat):PC:={ats:=Uu,rts:=Zg,code:=Qtj F}
theorem Zwo(F:Nat):Qg cx 211 (Yig F):=qE (Zq2 F) .leaf f211 (by kernel_rfl) fun a=>by kernel_rfl
def Yih(F:Nat):LK:=lC (Zwo F) (lC (Zod F) (lC (Zw9 F) lN))
def Qip(F:Nat)(a:ByteArray×Int×ByteArray):Option (Int):=
 bif Qc a.1 {data:=List.toArray (110::111::110::101::Qa UInt8)}then((Qob F a.2.2).bind fun(v18:Bool)=>bif !v18 then(some ((1:Int)))else(bif !decide (a.2.1=0)then(some ((3:Int)))else(some ((0:Int)))))else((bif Qc a.1 {data:=List.toArray (116::105::109::101::Qa UInt8)}then(some (Qc a.1 {data:=List.toArray (116::105::109::101::Qa UInt8)}))else((bif Qc a.1 {data:=List.toArray (108::101::110::103::116::104::Qa UInt8)}then(some (Qc a.1 {data:=List.toArray (108::101::110::103::116::104::Qa UInt8)}))else(some (Qc a.1 {data:=List.toArray (112::111::105::110::116::115::Qa UInt8)}))).bind fun(v23:Bool)=>some (v23))).bind fun(v19:Bool)=>bif v19 then(bif !Qc a.2.2 {data:=List.toArray (Qa UInt8)}then(some ((1:Int)))else(((Qtj F a.1).bind fun(v21:Int)=>bif decide (a.2.1<v21)then(some (true))else((Qx6 F a.1).bind fun(v22:Int)=>some (decide (v22<a.2.1)))).bind fun(v20:Bool)=>bif v20 then(some ((3:Int)))else(some ((0:Int)))))else(some ((13:Int))))
def Zqx(F:Nat):PC:={ats:=[.agg Wx],rts:=Zg,code:=Qip F}
theorem Qxc(F:Nat):Qg cx 156 (Zqx F):=qE (Yih F) (.two .leaf (.two (.two .leaf (.one (Zb 2 (.two (.two .leaf (.join [(.normal,⟨[.slot 14 (.val (.bool))],[]⟩)] ⟨[16,14,17],[],[]⟩ (Zb 2 (.join [(.normal,⟨[.slot 14 (.val (.bool))],[]⟩)] ⟨[17,14],[],[]⟩ .leaf)))) (.two (.two .leaf (.two (.two (.join [(.normal,⟨[.slot 34 (.val (.bool))],[]⟩)] ⟨(Qn 34 14 []),[],[]⟩ .leaf) .leaf) .leaf)) .leaf))))) .leaf)) f156 (by kernel_rfl) fun a=>by kernel_rfl
def Zlq(F:Nat):LK:=lN
def Qg0(F:Nat)(a:(ByteArray×Int×ByteArray)×ByteArray):Option (Bool):=
 (bif Qc a.1.1 a.2 then(some (true))else(some (Qc a.1.1 {data:=List.toArray (110::111::110::101::Qa UInt8)}))).bind fun(v5:Bool)=>some (v5)
def Ydd(F:Nat):PC:={ats:=[.agg Wx,.val (.str)],rts:=Y8,code:=Qg0 F}
theorem Qwy(F:Nat):Qg cx 157 (Ydd F):=qE (Zlq F) (.two .leaf (.two (.join [(.normal,⟨[.slot 4 (.val (.bool))],[]⟩)] ⟨(4::Qn 13 9 []),[],[]⟩ .leaf) .leaf)) f157 (by kernel_rfl) fun a=>by kernel_rfl
def Yns(F:Nat):LK:=lC (Qk3 F) (lC (Qhp F) (lC (Qwy F) (lC (Qxc F) (lC (Qej F) lN))))
def c95(F:Nat)(a:(Q7)×Int):Option (Int):=
 gd (decide (0≤a.2)) (gd (decide (a.2<(↑(a.1.2.2.2.2.length):Int))) (gd (decide (a.2.toNat<a.1.2.2.2.2.length)) ((c67 F (a.1.2.2.2.2.getD (a.2.toNat) Zc).1).bind fun(v42:Bool)=>bif !v42 then(some ((8:Int)))else((c47 F (a.1,(a.1.2.2.2.2.getD (a.2.toNat) Zc).1)).bind fun(v43:Int)=>bif decide (v43<a.2)then(some ((9:Int)))else((bif !Qc (a.1.2.2.2.2.getD (a.2.toNat) Zc).2.1 {data:=List.toArray (116::105::109::101::Qa UInt8)}then(bif !Qc (a.1.2.2.2.2.getD (a.2.toNat) Zc).2.1 {data:=List.toArray (108::101::110::103::116::104::Qa UInt8)}then(some (!Qc (a.1.2.2.2.2.getD (a.2.toNat) Zc).2.1 {data:=List.toArray (112::111::105::110::116::115::Qa UInt8)}))else(some (false)))else(some (false))).bind fun(v44:Bool)=>bif v44 then(some ((13:Int)))else((bif !Qc (a.1.2.2.2.2.getD (a.2.toNat) Zc).2.2.1 {data:=List.toArray (Qa UInt8)}then((c67 F (a.1.2.2.2.2.getD (a.2.toNat) Zc).2.2.1).bind fun(v57:Bool)=>some (!v57))else(some (false))).bind fun(v45:Bool)=>bif v45 then(some ((8:Int)))else(((c94 F ((a.1.2.2.2.2.getD (a.2.toNat) Zc).2.2.2.1,(120:Int))).bind fun(v55:Bool)=>bif v55 then(some (true))else((c94 F ((a.1.2.2.2.2.getD (a.2.toNat) Zc).2.2.2.2.1,(120:Int))).bind fun(v56:Bool)=>some (v56))).bind fun(v46:Bool)=>bif v46 then(some ((3:Int)))else(bif decide ((a.1.2.2.2.2.getD (a.2.toNat) Zc).2.2.2.2.1<(a.1.2.2.2.2.getD (a.2.toNat) Zc).2.2.2.1)then(some ((11:Int)))else(((c94 F ((a.1.2.2.2.2.getD (a.2.toNat) Zc).2.2.2.2.2.1,(160:Int))).bind fun(v52:Bool)=>bif v52 then(some (true))else((c94 F ((a.1.2.2.2.2.getD (a.2.toNat) Zc).2.2.2.2.2.2.1,(160:Int))).bind fun(v53:Bool)=>bif v53 then(some (true))else((c94 F ((a.1.2.2.2.2.getD (a.2.toNat) Zc).2.2.2.2.2.2.2.2.2.2,(8:Int))).bind fun(v54:Bool)=>some (v54)))).bind fun(v47:Bool)=>bif v47 then(some ((3:Int)))else((Qip F ((a.1.2.2.2.2.getD (a.2.toNat) Zc).2.2.2.2.2.2.2.1,(a.1.2.2.2.2.getD (a.2.toNat) Zc).2.2.2.2.2.2.2.2.1,(a.1.2.2.2.2.getD (a.2.toNat) Zc).2.2.2.2.2.2.2.2.2.1)).bind fun(v48:Int)=>(bif decide (v48=0)then((Qg0 F (((a.1.2.2.2.2.getD (a.2.toNat) Zc).2.2.2.2.2.2.2.1,(a.1.2.2.2.2.getD (a.2.toNat) Zc).2.2.2.2.2.2.2.2.1,(a.1.2.2.2.2.getD (a.2.toNat) Zc).2.2.2.2.2.2.2.2.2.1),(a.1.2.2.2.2.getD (a.2.toNat) Zc).2.1)).bind fun(v51:Bool)=>some (!v51))else(some (false))).bind fun(v49:Bool)=>(bif v49 then(some ((13:Int)))else(some (v48))).bind fun(v50:Int)=>some (v50)))))))))))
def Zos(F:Nat):PC:={ats:=[.agg Xs,.val (.int .i64)],rts:=Zg,code:=c95 F}
theorem Yf7(F:Nat):Qg cx 95 (Zos F):=qE (Yns F) (Zb 4 (.two (.two (.join [(.normal,⟨[.slot 34 (.val (.bool))],[]⟩)] ⟨(Qn 34 13 []),[],[]⟩ .leaf) .leaf) (.two (.two (.join [(.normal,⟨[.slot 43 (.val (.bool))],[]⟩)] ⟨(Qn 43 9 []),[],[]⟩ .leaf) .leaf) (.two (.two (.join [(.normal,⟨[.slot 51 (.val (.bool))],[]⟩)] ⟨(Qn 51 8 []),[],[]⟩ .leaf) .leaf) (.two .leaf (.two (.two (.join [(.normal,⟨[.slot 69 (.val (.bool))],[]⟩)] ⟨(Qn 69 13 []),[],[]⟩ .leaf) .leaf) (.two .leaf (.two (.two (.join [(.normal,⟨[.slot 82 (.val (.bool))],[]⟩)] ⟨(Qn 82 10 []),[],[]⟩ .leaf) (.join [(.normal,⟨[.slot 6 (.val (.int .i64))],[]⟩)] ⟨[6],[],[]⟩ .leaf)) .leaf)))))))) f95 (by kernel_rfl) fun a=>by kernel_rfl
def Zyo(F:Nat):LK:=lC (Yf7 F) (lC (Qhp F) lN)
def c22(F:Nat)(a:Q7):Option (Int):=
 ((c94 F (a.1,(99999:Int))).bind fun(v35:Bool)=>bif v35 then(some (true))else((c94 F (a.2.1,(99999:Int))).bind fun(v36:Bool)=>bif v36 then(some (true))else((c94 F (a.2.2.1,(99999:Int))).bind fun(v37:Bool)=>some (v37)))).bind fun(v27:Bool)=>bif v27 then(some ((3:Int)))else((bif decide (a.2.2.1<a.2.1)then(some (true))else(some (decide (a.1<a.2.2.1)))).bind fun(v28:Bool)=>bif v28 then(some ((11:Int)))else((c94 F (a.2.2.2.1,(32:Int))).bind fun(v29:Bool)=>bif v29 then(some ((3:Int)))else(bif decide (32<(↑(a.2.2.2.2.length):Int))then(some ((5:Int)))else((Q4 (σ:=Int) (β:=Int ⊕ Unit) (fun(v33:Int)=>bif decide (v33<(↑(a.2.2.2.2.length):Int))then((c95 F (a,v33)).bind fun(v34:Int)=>bif !decide (v34=0)then(some (Sum.inr (Sum.inl v34)))else(some (Sum.inl (w64 (v33+1)))))else(some (Sum.inr (Sum.inr ())))) F ((0:Int))).bind fun(v30:Int ⊕ Unit)=>Sum.elim (fun(v31:Int)=>some (v31)) (fun(v32:Unit)=>some ((0:Int))) (v30)))))
def Zq1(F:Nat):PC:={ats:=[.agg Xs],rts:=Zg,code:=c22 F}
theorem Yj9(F:Nat):Qg cx 22 (Zq1 F):=qE (Zyo F) (.two .leaf (.two (.two (.join [(.normal,⟨[.slot 17 (.val (.bool))],[]⟩)] ⟨(Qn 17 13 []),[],[]⟩ .leaf) .leaf) (.two (.two (.join [(.normal,⟨[.slot 29 (.val (.bool))],[]⟩)] ⟨(Qn 29 12 []),[],[]⟩ .leaf) .leaf) (Zb 2 (.two (.two .leaf (.one (.loop ⟨[.slot 3 (.val (.int .i64))],[]⟩ [(.ret,⟨[.slot 2 (.val (.int .i64))],[]⟩),(.exit 0,⟨[],[]⟩)] ⟨[44,45,46,4,49,2,48,47,3,43,42,41,40,39,38,37],[],[]⟩ F .leaf))) .leaf))))) f22 (by kernel_rfl) fun a=>by kernel_rfl
def Zyu(F:Nat):LK:=lN
def Kx(F:Nat)(a:ByteArray):Option (ByteArray):=
 (Q4 (σ:=Int) (β:=ByteArray ⊕ Unit) (fun(v14:Int)=>bif decide (v14<(↑(8:Nat):Int))then(gd (decide (0≤v14)) (gd (decide (v14<(↑(8:Nat):Int))) (gd (decide ((0:Nat)+v14.toNat<8)) (bif Qc (List.getD ({data:=List.toArray (99::108::117::98::Qa UInt8)}::{data:=List.toArray (97::116::104::108::101::116::101::Qa UInt8)}::{data:=List.toArray (108::105::99::101::110::99::101::Qa UInt8)}::{data:=List.toArray (116::114::97::110::115::102::101::114::Qa UInt8)}::{data:=List.toArray (101::110::116::101::114::Qa UInt8)}::{data:=List.toArray (119::105::116::104::100::114::97::119::Qa UInt8)}::{data:=List.toArray (99::104::101::99::107::Qa UInt8)}::{data:=List.toArray (116::101::97::109::Qa UInt8)}::Qa ByteArray) ((0:Nat)+v14.toNat) ByteArray.empty) a then(gd (decide (0≤v14)) (gd (decide (v14<(↑(8:Nat):Int))) (gd (decide ((0:Nat)+v14.toNat<8)) (some (Sum.inr (Sum.inl (List.getD ({data:=List.toArray (99::Qa UInt8)}::{data:=List.toArray (97::99::103::102::Qa UInt8)}::{data:=List.toArray (97::102::116::Qa UInt8)}::{data:=List.toArray (97::99::Qa UInt8)}::{data:=List.toArray (97::107::109::Qa UInt8)}::{data:=List.toArray (97::107::Qa UInt8)}::{data:=List.toArray (97::107::Qa UInt8)}::{data:=List.toArray (99::107::110::Qa UInt8)}::Qa ByteArray) ((0:Nat)+v14.toNat) ByteArray.empty)))))))else(some (Sum.inl (w64 (v14+1))))))))else(some (Sum.inr (Sum.inr ())))) F ((0:Int))).bind fun(v11:ByteArray ⊕ Unit)=>Sum.elim (fun(v12:ByteArray)=>some (v12)) (fun(v13:Unit)=>some ({data:=List.toArray (Qa UInt8)})) (v11)
def Zsp(F:Nat):PC:={ats:=Uu,rts:=Uu,code:=Kx F}
theorem Zsz(F:Nat):Qg cx 102 (Zsp F):=qE (Zyu F) (Zb 3 (.two (.two .leaf (.one (.typ 0 9 Z2 (.typ 1 9 Z2 (.loop ⟨[.slot 5 (.val (.int .i64))],[]⟩ [(.ret,⟨[.slot 2 (.val (.str))],[]⟩),(.exit 0,⟨[],[]⟩)] ⟨(Ye 14 6 (2::23::22::21::20::5::Qn 13 6 [])),[],[]⟩ F .leaf))))) .leaf)) f102 (by kernel_rfl) fun a=>by kernel_rfl
def Zsj(F:Nat):LK:=lN
def Xn(F:Nat)(a:ByteArray×Int):Option (Bool):=
 (Q4 (σ:=Int) (β:=Bool ⊕ Unit) (fun(v13:Int)=>bif decide (v13<(↑(ByteArray.size a.1):Int))then(gd (decide (0≤v13)) (gd (decide (v13.toNat<ByteArray.size a.1)) (bif decide ((↑(BitVec.toFin (UInt8.toBitVec (ByteArray.get! a.1 (v13.toNat)))).1:Int)=a.2)then(some (Sum.inr (Sum.inl true)))else(some (Sum.inl (w64 (v13+1)))))))else(some (Sum.inr (Sum.inr ())))) F ((0:Int))).bind fun(v10:Bool ⊕ Unit)=>Sum.elim (fun(v11:Bool)=>some (v11)) (fun(v12:Unit)=>some (false)) (v10)
def Zvi(F:Nat):PC:={ats:=[.val (.str),.val (.int .u8)],rts:=Y8,code:=Xn F}
theorem Ymj(F:Nat):Qg cx 104 (Zvi F):=qE (Zsj F) (.two .leaf (.two (.two .leaf (.one (.loop ⟨[.slot 5 (.val (.int .i64))],[]⟩ [(.ret,⟨[.slot 4 (.val (.bool))],[]⟩),(.exit 0,⟨[],[]⟩)] ⟨[12,13,14,15,16,4,5,11,10,9,8,7,6],[],[]⟩ F .leaf))) .leaf)) f104 (by kernel_rfl) fun a=>by kernel_rfl
def Zp4(F:Nat):LK:=lC (Qk3 F) lN
def Qcs(F:Nat)(a:ByteArray):Option (Int):=
 (c67 F a).bind fun(v5:Bool)=>bif !v5 then(some ((8:Int)))else(some ((0:Int)))
def Zm2(F:Nat):PC:={ats:=Uu,rts:=Zg,code:=Qcs F}
theorem Zeg(F:Nat):Qg cx 180 (Zm2 F):=qE (Zp4 F) .leaf f180 (by kernel_rfl) fun a=>by kernel_rfl
def Zwl(F:Nat):LK:=lC (Qhp F) lN
def Qh6(F:Nat)(a:Int):Option (Int):=
 (c94 F (a,(99999:Int))).bind fun(v5:Bool)=>bif v5 then(some ((3:Int)))else(some ((0:Int)))
def Ydv(F:Nat):PC:={ats:=Zg,rts:=Zg,code:=Qh6 F}
theorem Zhg(F:Nat):Qg cx 181 (Ydv F):=qE (Zwl F) .leaf f181 (by kernel_rfl) fun a=>by kernel_rfl
def Yhl(F:Nat):LK:=lC (Qk3 F) lN
def Qm0(F:Nat)(a:List ByteArray):Option (Int):=
 bif decide (8<(↑(a.length):Int))then(some ((5:Int)))else((Q4 (σ:=Int) (β:=Int ⊕ Unit) (fun(v15:Int)=>bif decide (v15<(↑(a.length):Int))then(gd (decide (0≤v15)) (gd (decide (v15<(↑(a.length):Int))) (gd (decide (v15.toNat<a.length)) ((c67 F (a.getD (v15.toNat) ByteArray.empty)).bind fun(v16:Bool)=>bif !v16 then(some (Sum.inr (Sum.inl (8:Int))))else(some (Sum.inl (w64 (v15+1))))))))else(some (Sum.inr (Sum.inr ())))) F ((0:Int))).bind fun(v12:Int ⊕ Unit)=>Sum.elim (fun(v13:Int)=>some (v13)) (fun(v14:Unit)=>some ((0:Int))) (v12))
def Zlm(F:Nat):PC:={ats:=Qbx,rts:=Zg,code:=Qm0 F}
theorem Zo1(F:Nat):Qg cx 182 (Zlm F):=qE (Yhl F) (Zb 2 (.two (.two .leaf (.one (.loop ⟨[.slot 3 (.val (.int .i64))],[]⟩ [(.ret,⟨[.slot 2 (.val (.int .i64))],[]⟩),(.exit 0,⟨[],[]⟩)] ⟨(Ye 13 6 (2::3::Qn 12 6 [])),[],[]⟩ F .leaf))) .leaf)) f182 (by kernel_rfl) fun a=>by kernel_rfl
def Zws(F:Nat):LK:=lC (Zo1 F) (lC (Qxc F) (lC (Zhg F) (lC (Zeg F) lN)))
def Qrm(F:Nat)(a:(Ze)×Int):Option (Int):=
 bif decide (a.2=97)then((Qcs F a.1.2.2.1).bind fun(v19:Int)=>some (v19))else(bif decide (a.2=99)then((Qcs F a.1.2.2.2.1).bind fun(v20:Int)=>some (v20))else(bif decide (a.2=103)then((Qcs F a.1.2.2.2.2.1).bind fun(v21:Int)=>some (v21))else(bif decide (a.2=102)then((Qh6 F a.1.2.2.2.2.2.2.1).bind fun(v22:Int)=>some (v22))else(bif decide (a.2=116)then((Qh6 F a.1.2.2.2.2.2.2.2.1).bind fun(v23:Int)=>some (v23))else(bif decide (a.2=107)then((Qcs F a.1.2.2.2.2.2.1).bind fun(v24:Int)=>some (v24))else(bif decide (a.2=109)then((Qip F (a.1.2.2.2.2.2.2.2.2.1,a.1.2.2.2.2.2.2.2.2.2.1,a.1.2.2.2.2.2.2.2.2.2.2.1)).bind fun(v25:Int)=>some (v25))else((Qm0 F a.1.2.2.2.2.2.2.2.2.2.2.2).bind fun(v26:Int)=>some (v26))))))))
def Zyq(F:Nat):PC:={ats:=[.agg W5,.val (.int .u8)],rts:=Zg,code:=Qrm F}
theorem Yne(F:Nat):Qg cx 103 (Zyq F):=qE (Zws F) .leaf f103 (by kernel_rfl) fun a=>by kernel_rfl
def Yg3(F:Nat):LK:=lC (Yne F) (lC (Ymj F) (lC (Qhp F) (lC (Zsz F) lN)))
def Qvy(F:Nat)(a:Ze)(x0:ByteArray):Option (Bool):=
 (Xn F (x0,(110:Int))).bind fun(u1:Bool)=>bif !u1 then(some (decide (0<(↑(a.2.2.2.2.2.2.2.2.2.2.2.length):Int))))else(some (false))
def Qx5(F:Nat)(a:Ze)(x0:ByteArray):Option (Bool):=
 (Xn F (x0,(109:Int))).bind fun(u1:Bool)=>bif !u1 then(bif !(a.2.2.2.2.2.2.2.2.1=={data:=List.toArray (Qa UInt8)}&&(decide (a.2.2.2.2.2.2.2.2.2.1=0)&&(a.2.2.2.2.2.2.2.2.2.2.1=={data:=List.toArray (Qa UInt8)}&&true)))then(some (true))else(Qvy F a x0))else(Qvy F a x0)
def Qu8(F:Nat)(a:Ze)(x0:ByteArray):Option (Bool):=
 (Xn F (x0,(116:Int))).bind fun(u1:Bool)=>bif !u1 then(bif !decide (a.2.2.2.2.2.2.2.1=0)then(some (true))else(Qx5 F a x0))else(Qx5 F a x0)
def Qur(F:Nat)(a:Ze)(x0:ByteArray):Option (Bool):=
 (Xn F (x0,(102:Int))).bind fun(u1:Bool)=>bif !u1 then(bif !decide (a.2.2.2.2.2.2.1=0)then(some (true))else(Qu8 F a x0))else(Qu8 F a x0)
def Quy(F:Nat)(a:Ze)(x0:ByteArray):Option (Bool):=
 (Xn F (x0,(107:Int))).bind fun(u1:Bool)=>bif !u1 then(bif !Qc a.2.2.2.2.2.1 {data:=List.toArray (Qa UInt8)}then(some (true))else(Qur F a x0))else(Qur F a x0)
def Qsd(F:Nat)(a:Ze)(x0:ByteArray):Option (Bool):=
 (Xn F (x0,(103:Int))).bind fun(u1:Bool)=>bif !u1 then(bif !Qc a.2.2.2.2.1 {data:=List.toArray (Qa UInt8)}then(some (true))else(Quy F a x0))else(Quy F a x0)
def Qpp(F:Nat)(a:Ze)(x0:ByteArray):Option (Bool):=
 (Xn F (x0,(99:Int))).bind fun(u1:Bool)=>bif !u1 then(bif !Qc a.2.2.2.1 {data:=List.toArray (Qa UInt8)}then(some (true))else(Qsd F a x0))else(Qsd F a x0)
def c24(F:Nat)(a:Ze):Option (Int):=
 (Kx F a.2.1).bind fun(v785:ByteArray)=>bif Qc v785 {data:=List.toArray (Qa UInt8)}then(some ((13:Int)))else((c94 F (a.1,(99999:Int))).bind fun(v786:Bool)=>bif v786 then(some ((3:Int)))else((Q4 (σ:=Int) (β:=Int ⊕ Unit) (fun(v1047:Int)=>bif decide (v1047<(↑(ByteArray.size v785):Int))then(gd (decide (0≤v1047)) (gd (decide (v1047.toNat<ByteArray.size v785)) ((Qrm F (a,(↑(BitVec.toFin (UInt8.toBitVec (ByteArray.get! v785 (v1047.toNat)))).1:Int))).bind fun(v1048:Int)=>bif !decide (v1048=0)then(some (Sum.inr (Sum.inl v1048)))else(some (Sum.inl (w64 (v1047+1)))))))else(some (Sum.inr (Sum.inr ())))) F ((0:Int))).bind fun(v787:Int ⊕ Unit)=>Sum.elim (fun(v788:Int)=>some (v788)) (fun(v789:Unit)=>(bif Qc a.2.1 {data:=List.toArray (108::105::99::101::110::99::101::Qa UInt8)}then(some (decide (a.2.2.2.2.2.2.2.1<a.2.2.2.2.2.2.1)))else(some (false))).bind fun(v790:Bool)=>bif v790 then(some ((11:Int)))else(((Xn F (v785,(97:Int))).bind fun(v792:Bool)=>bif !v792 then(bif !Qc a.2.2.1 {data:=List.toArray (Qa UInt8)}then(some (true))else(Qpp F a v785))else(Qpp F a v785)).bind fun(v791:Bool)=>bif v791 then(some ((1:Int)))else(some ((0:Int))))) (v787)))
def Zx3(F:Nat):PC:={ats:=Kp,rts:=Zg,code:=c24 F}
theorem Znu(F:Nat):Qg cx 24 (Zx3 F):=qE (Yg3 F) (Zb 4 (.two (.two .leaf (.one (.loop ⟨[.slot 4 (.val (.int .i64))],[]⟩ [(.ret,⟨[.slot 2 (.val (.int .i64))],[]⟩),(.exit 0,⟨[],[]⟩)] ⟨[20,21,22,23,24,5,27,2,26,25,4,19,18,17,16,15,14],[],[]⟩ F .leaf))) (.two (.two (.join [(.normal,⟨[.slot 37 (.val (.bool))],[]⟩)] ⟨(Qn 37 10 []),[],[]⟩ .leaf) .leaf) (.two (.two (.join [(.normal,⟨[.slot 117 (.val (.bool))],[]⟩)] ⟨(Qn 117 80 []),[],[]⟩ .leaf) .leaf) .leaf)))) f24 (by kernel_rfl) fun a=>by kernel_rfl
def Zqm(F:Nat):LK:=lN
def c40(F:Nat)(a:(Qh)×ByteArray):Option (Int):=
 (Q4 (σ:=Int) (β:=Int ⊕ Unit) (fun(v13:Int)=>bif decide (v13<(↑(a.1.2.1.length):Int))then(gd (decide (0≤v13)) (gd (decide (v13<(↑(a.1.2.1.length):Int))) (gd (decide (v13.toNat<a.1.2.1.length)) (bif Qc (a.1.2.1.getD (v13.toNat) Zu).1 a.2 then(some (Sum.inr (Sum.inl v13)))else(some (Sum.inl (w64 (v13+1))))))))else(some (Sum.inr (Sum.inr ())))) F ((0:Int))).bind fun(v10:Int ⊕ Unit)=>Sum.elim (fun(v11:Int)=>some (v11)) (fun(v12:Unit)=>some ((-1:Int))) (v10)
def Zoh(F:Nat):PC:={ats:=Qfm,rts:=Zg,code:=c40 F}
theorem Wd(F:Nat):Qg cx 40 (Zoh F):=qE (Zqm F) (.two .leaf (.two (.two .leaf (.one (.loop ⟨[.slot 5 (.val (.int .i64))],[]⟩ [(.ret,⟨[.slot 4 (.val (.int .i64))],[]⟩),(.exit 0,⟨[],[]⟩)] ⟨(Ye 13 8 (4::21::5::Qn 12 7 [])),[],[]⟩ F .leaf))) .leaf)) f40 (by kernel_rfl) fun a=>by kernel_rfl
def Zvx(F:Nat):LK:=lN
def c53(F:Nat)(a:(Qh)×ByteArray×ByteArray):Option (Int):=
 (Q4 (σ:=Int) (β:=Int ⊕ Unit) (fun(v15:Int)=>bif decide (v15<(↑(a.1.2.2.2.1.length):Int))then((gd (decide (0≤v15)) (gd (decide (v15<(↑(a.1.2.2.2.1.length):Int))) (gd (decide (v15.toNat<a.1.2.2.2.1.length)) (bif Qc (a.1.2.2.2.1.getD (v15.toNat) Q9).1 a.2.1 then(gd (decide (0≤v15)) (gd (decide (v15<(↑(a.1.2.2.2.1.length):Int))) (gd (decide (v15.toNat<a.1.2.2.2.1.length)) (some (Qc (a.1.2.2.2.1.getD (v15.toNat) Q9).2.1 a.2.2)))))else(some (false)))))).bind fun(v16:Bool)=>bif v16 then(some (Sum.inr (Sum.inl v15)))else(some (Sum.inl (w64 (v15+1)))))else(some (Sum.inr (Sum.inr ())))) F ((0:Int))).bind fun(v12:Int ⊕ Unit)=>Sum.elim (fun(v13:Int)=>some (v13)) (fun(v14:Unit)=>some ((-1:Int))) (v12)
def Zse(F:Nat):PC:={ats:=Qjg,rts:=Zg,code:=c53 F}
theorem U8(F:Nat):Qg cx 53 (Zse F):=qE (Zvx F) (.two .leaf (.two (.two .leaf (.one (.loop ⟨[.slot 7 (.val (.int .i64))],[]⟩ [(.ret,⟨[.slot 6 (.val (.int .i64))],[]⟩),(.exit 0,⟨[],[]⟩)] ⟨(Ye 15 18 (6::33::7::Qn 14 7 [])),[],[]⟩ F (.two .leaf (.two (.one (.two (.join [(.normal,⟨[.slot 32 (.val (.bool))],[]⟩)] ⟨(Qn 32 18 []),[],[]⟩ .leaf) .leaf)) .leaf))))) .leaf)) f53 (by kernel_rfl) fun a=>by kernel_rfl
def Zxk(F:Nat):LK:=lC (Qej F) (lC (Qxc F) (lC (Zhg F) (lC (Qwy F) (lC (U8 F) (lC (Wd F) lN)))))
def Qni(F:Nat)(a:(Qh)×(Q7)×Int):Option (Int):=
 gd (decide (0≤a.2.2)) (gd (decide (a.2.2<(↑(a.1.2.2.2.1.length):Int))) (gd (decide (a.2.2.toNat<a.1.2.2.2.1.length)) ((c47 F (a.2.1,(a.1.2.2.2.1.getD (a.2.2.toNat) Q9).2.1)).bind fun(v26:Int)=>((c40 F (a.1,(a.1.2.2.2.1.getD (a.2.2.toNat) Q9).1)).bind fun(v35:Int)=>bif decide (v35<0)then(some (true))else(some (decide (v26<0)))).bind fun(v27:Bool)=>bif v27 then(some ((10:Int)))else(gd (decide (0≤v26)) (gd (decide (v26<(↑(a.2.1.2.2.2.2.length):Int))) (gd (decide (v26.toNat<a.2.1.2.2.2.2.length)) (bif decide (0<(a.2.1.2.2.2.2.getD (v26.toNat) Zc).2.2.2.2.2.2.2.2.2.2)then(some ((13:Int)))else((c53 F (a.1,(a.1.2.2.2.1.getD (a.2.2.toNat) Q9).1,(a.1.2.2.2.1.getD (a.2.2.toNat) Q9).2.1)).bind fun(v28:Int)=>bif decide (v28<a.2.2)then(some ((9:Int)))else((Qip F ((a.1.2.2.2.1.getD (a.2.2.toNat) Q9).2.2.1,(a.1.2.2.2.1.getD (a.2.2.toNat) Q9).2.2.2.1,(a.1.2.2.2.1.getD (a.2.2.toNat) Q9).2.2.2.2.1)).bind fun(v29:Int)=>(bif decide (v29=0)then(gd (decide (0≤v26)) (gd (decide (v26<(↑(a.2.1.2.2.2.2.length):Int))) (gd (decide (v26.toNat<a.2.1.2.2.2.2.length)) ((Qg0 F (((a.1.2.2.2.1.getD (a.2.2.toNat) Q9).2.2.1,(a.1.2.2.2.1.getD (a.2.2.toNat) Q9).2.2.2.1,(a.1.2.2.2.1.getD (a.2.2.toNat) Q9).2.2.2.2.1),(a.2.1.2.2.2.2.getD (v26.toNat) Zc).2.1)).bind fun(v34:Bool)=>some (!v34)))))else(some (false))).bind fun(v30:Bool)=>(bif v30 then(some ((13:Int)))else(some (v29))).bind fun(v31:Int)=>(bif decide (v31=0)then((Qh6 F (a.1.2.2.2.1.getD (a.2.2.toNat) Q9).2.2.2.2.2.1).bind fun(v33:Int)=>some (v33))else(some (v31))).bind fun(v32:Int)=>some (v32))))))))))
def Yjd(F:Nat):PC:={ats:=Zbc,rts:=Zg,code:=Qni F}
theorem Zrj(F:Nat):Qg cx 122 (Yjd F):=qE (Zxk F) (Zb 3 (.two (.two (.join [(.normal,⟨[.slot 27 (.val (.bool))],[]⟩)] ⟨(Qn 27 9 []),[],[]⟩ .leaf) .leaf) (Zb 3 (.two (.two (.join [(.normal,⟨[.slot 59 (.val (.bool))],[]⟩)] ⟨(Qn 59 14 []),[],[]⟩ .leaf) (.join [(.normal,⟨[.slot 9 (.val (.int .i64))],[]⟩)] ⟨[9],[],[]⟩ .leaf)) (.two (.two .leaf (.join [(.normal,⟨[.slot 9 (.val (.int .i64))],[]⟩)] ⟨[9,64,63,62],[],[]⟩ .leaf)) .leaf))))) f122 (by kernel_rfl) fun a=>by kernel_rfl
def Zly(F:Nat):LK:=lN
def c54(F:Nat)(a:List ByteArray×ByteArray):Option (Bool):=
 (Q4 (σ:=Int) (β:=Bool ⊕ Unit) (fun(v13:Int)=>bif decide (v13<(↑(a.1.length):Int))then(gd (decide (0≤v13)) (gd (decide (v13<(↑(a.1.length):Int))) (gd (decide (v13.toNat<a.1.length)) (bif Qc (a.1.getD (v13.toNat) ByteArray.empty) a.2 then(some (Sum.inr (Sum.inl true)))else(some (Sum.inl (w64 (v13+1))))))))else(some (Sum.inr (Sum.inr ())))) F ((0:Int))).bind fun(v10:Bool ⊕ Unit)=>Sum.elim (fun(v11:Bool)=>some (v11)) (fun(v12:Unit)=>some (false)) (v10)
def Zwd(F:Nat):PC:={ats:=Qo7,rts:=Y8,code:=c54 F}
theorem Qjn(F:Nat):Qg cx 54 (Zwd F):=qE (Zly F) (.two .leaf (.two (.two .leaf (.one (.loop ⟨[.slot 5 (.val (.int .i64))],[]⟩ [(.ret,⟨[.slot 4 (.val (.bool))],[]⟩),(.exit 0,⟨[],[]⟩)] ⟨(Ye 12 6 (4::5::Qn 11 6 [])),[],[]⟩ F .leaf))) .leaf)) f54 (by kernel_rfl) fun a=>by kernel_rfl
def Ynb(F:Nat):LK:=lN
def Qg3(F:Nat)(a:(Qh)×ByteArray×ByteArray):Option (Int):=
 (Q4 (σ:=Int) (β:=Int ⊕ Unit) (fun(v15:Int)=>bif decide (v15<(↑(a.1.2.2.2.2.length):Int))then((gd (decide (0≤v15)) (gd (decide (v15<(↑(a.1.2.2.2.2.length):Int))) (gd (decide (v15.toNat<a.1.2.2.2.2.length)) (bif Qc (a.1.2.2.2.2.getD (v15.toNat) (ByteArray.empty,ByteArray.empty,Qa ByteArray)).1 a.2.1 then(gd (decide (0≤v15)) (gd (decide (v15<(↑(a.1.2.2.2.2.length):Int))) (gd (decide (v15.toNat<a.1.2.2.2.2.length)) (some (Qc (a.1.2.2.2.2.getD (v15.toNat) (ByteArray.empty,ByteArray.empty,Qa ByteArray)).2.1 a.2.2)))))else(some (false)))))).bind fun(v16:Bool)=>bif v16 then(some (Sum.inr (Sum.inl v15)))else(some (Sum.inl (w64 (v15+1)))))else(some (Sum.inr (Sum.inr ())))) F ((0:Int))).bind fun(v12:Int ⊕ Unit)=>Sum.elim (fun(v13:Int)=>some (v13)) (fun(v14:Unit)=>some ((-1:Int))) (v12)
def Ybj(F:Nat):PC:={ats:=Qjg,rts:=Zg,code:=Qg3 F}
theorem Qbo(F:Nat):Qg cx 145 (Ybj F):=qE (Ynb F) (.two .leaf (.two (.two .leaf (.one (.loop ⟨[.slot 7 (.val (.int .i64))],[]⟩ [(.ret,⟨[.slot 6 (.val (.int .i64))],[]⟩),(.exit 0,⟨[],[]⟩)] ⟨(Ye 15 18 (6::33::7::Qn 14 7 [])),[],[]⟩ F (.two .leaf (.two (.one (.two (.join [(.normal,⟨[.slot 32 (.val (.bool))],[]⟩)] ⟨(Qn 32 18 []),[],[]⟩ .leaf) .leaf)) .leaf))))) .leaf)) f145 (by kernel_rfl) fun a=>by kernel_rfl
def Zuh(F:Nat):LK:=lC (Qej F) (lC (Wd F) (lC (Qbo F) (lC (Qjn F) lN)))
def Qoh(F:Nat)(a:(Qh)×(Q7)×Int):Option (Int):=
 gd (decide (0≤a.2.2)) (gd (decide (a.2.2<(↑(a.1.2.2.2.2.length):Int))) (gd (decide (a.2.2.toNat<a.1.2.2.2.2.length)) ((c47 F (a.2.1,(a.1.2.2.2.2.getD (a.2.2.toNat) (ByteArray.empty,ByteArray.empty,Qa ByteArray)).2.1)).bind fun(v23:Int)=>((c54 F (a.1.1,(a.1.2.2.2.2.getD (a.2.2.toNat) (ByteArray.empty,ByteArray.empty,Qa ByteArray)).1)).bind fun(v32:Bool)=>bif !v32 then(some (true))else(some (decide (v23<0)))).bind fun(v24:Bool)=>bif v24 then(some ((10:Int)))else(gd (decide (0≤v23)) (gd (decide (v23<(↑(a.2.1.2.2.2.2.length):Int))) (gd (decide (v23.toNat<a.2.1.2.2.2.2.length)) (bif decide ((a.2.1.2.2.2.2.getD (v23.toNat) Zc).2.2.2.2.2.2.2.2.2.2=0)then(some ((13:Int)))else((Qg3 F (a.1,(a.1.2.2.2.2.getD (a.2.2.toNat) (ByteArray.empty,ByteArray.empty,Qa ByteArray)).1,(a.1.2.2.2.2.getD (a.2.2.toNat) (ByteArray.empty,ByteArray.empty,Qa ByteArray)).2.1)).bind fun(v25:Int)=>bif decide (v25<a.2.2)then(some ((9:Int)))else(gd (decide (0≤v23)) (gd (decide (v23<(↑(a.2.1.2.2.2.2.length):Int))) (gd (decide (v23.toNat<a.2.1.2.2.2.2.length)) (bif !decide ((↑(List.length (a.1.2.2.2.2.getD (a.2.2.toNat) (ByteArray.empty,ByteArray.empty,Qa ByteArray)).2.2):Int)=(a.2.1.2.2.2.2.getD (v23.toNat) Zc).2.2.2.2.2.2.2.2.2.2)then(some ((2:Int)))else((Q4 (σ:=Int) (β:=Int ⊕ Unit) (fun(v29:Int)=>bif decide (v29<(↑(List.length (a.1.2.2.2.2.getD (a.2.2.toNat) (ByteArray.empty,ByteArray.empty,Qa ByteArray)).2.2):Int))then(gd (decide (0≤v29)) (gd (decide (v29<(↑(List.length (a.1.2.2.2.2.getD (a.2.2.toNat) (ByteArray.empty,ByteArray.empty,Qa ByteArray)).2.2):Int))) (gd (decide (v29.toNat<List.length (a.1.2.2.2.2.getD (a.2.2.toNat) (ByteArray.empty,ByteArray.empty,Qa ByteArray)).2.2)) ((c40 F (a.1,List.getD (a.1.2.2.2.2.getD (a.2.2.toNat) (ByteArray.empty,ByteArray.empty,Qa ByteArray)).2.2 (v29.toNat) ByteArray.empty)).bind fun(v30:Int)=>bif decide (v30<0)then(some (Sum.inr (Sum.inl (10:Int))))else(gd (decide (0≤v29)) (gd (decide (v29≤(↑(List.length (a.1.2.2.2.2.getD (a.2.2.toNat) (ByteArray.empty,ByteArray.empty,Qa ByteArray)).2.2):Int))) (gd (decide (0≤v29)) (gd (decide (v29<(↑(List.length (a.1.2.2.2.2.getD (a.2.2.toNat) (ByteArray.empty,ByteArray.empty,Qa ByteArray)).2.2):Int))) (gd (decide (v29.toNat<List.length (a.1.2.2.2.2.getD (a.2.2.toNat) (ByteArray.empty,ByteArray.empty,Qa ByteArray)).2.2)) ((c54 F (List.drop (0:Nat) (List.take (v29.toNat) (a.1.2.2.2.2.getD (a.2.2.toNat) (ByteArray.empty,ByteArray.empty,Qa ByteArray)).2.2),List.getD (a.1.2.2.2.2.getD (a.2.2.toNat) (ByteArray.empty,ByteArray.empty,Qa ByteArray)).2.2 (v29.toNat) ByteArray.empty)).bind fun(v31:Bool)=>bif v31 then(some (Sum.inr (Sum.inl (9:Int))))else(some (Sum.inl (w64 (v29+1))))))))))))))else(some (Sum.inr (Sum.inr ())))) F ((0:Int))).bind fun(v26:Int ⊕ Unit)=>Sum.elim (fun(v27:Int)=>some (v27)) (fun(v28:Unit)=>some ((0:Int))) (v26))))))))))))))
def Zjz(F:Nat):PC:={ats:=Zbc,rts:=Zg,code:=Qoh F}
theorem Yib(F:Nat):Qg cx 123 (Zjz F):=qE (Zuh F) (Zb 3 (.two (.two (.join [(.normal,⟨[.slot 28 (.val (.bool))],[]⟩)] ⟨(Qn 28 10 []),[],[]⟩ .leaf) .leaf) (Zb 3 (.two (.two .leaf (.one (.loop ⟨[.slot 9 (.val (.int .i64))],[]⟩ [(.ret,⟨[.slot 6 (.val (.int .i64))],[]⟩),(.exit 0,⟨[],[]⟩)] ⟨(Ye 61 8 (6::Qn 78 10 (9::Qn 60 7 []))),[],[]⟩ F .leaf))) .leaf)))) f123 (by kernel_rfl) fun a=>by kernel_rfl
def Zlu(F:Nat):LK:=lC (Qk3 F) (lC (Qjn F) (lC (Zeg F) (lC (Qhp F) (lC (Wd F) lN))))
def Qnd(F:Nat)(a:(Qh)×Int):Option (Int):=
 gd (decide (0≤a.2)) (gd (decide (a.2<(↑(a.1.2.1.length):Int))) (gd (decide (a.2.toNat<a.1.2.1.length)) ((c67 F (a.1.2.1.getD (a.2.toNat) Zu).1).bind fun(v13:Bool)=>bif !v13 then(some ((8:Int)))else((c40 F (a.1,(a.1.2.1.getD (a.2.toNat) Zu).1)).bind fun(v14:Int)=>bif decide (v14<a.2)then(some ((9:Int)))else((c54 F (a.1.1,(a.1.2.1.getD (a.2.toNat) Zu).2.1)).bind fun(v15:Bool)=>bif !v15 then(some ((10:Int)))else((c94 F ((a.1.2.1.getD (a.2.toNat) Zu).2.2.1,(99999:Int))).bind fun(v16:Bool)=>bif v16 then(some ((3:Int)))else((Qcs F (a.1.2.1.getD (a.2.toNat) Zu).2.2.2).bind fun(v17:Int)=>some (v17))))))))
def Ycv(F:Nat):PC:={ats:=Qaa,rts:=Zg,code:=Qnd F}
theorem Zzv(F:Nat):Qg cx 189 (Ycv F):=qE (Zlu F) .leaf f189 (by kernel_rfl) fun a=>by kernel_rfl
def Zm5(F:Nat):LK:=lC (Qhp F) (lC (Wd F) (lC (Zzv F) (lC (Qjn F) (lC (Qk3 F) lN))))
def Qnn(F:Nat)(a:Qh):Option (Int):=
 (Q4 (σ:=Int) (β:=Int ⊕ Unit) (fun(v70:Int)=>bif decide (v70<(↑(a.1.length):Int))then(gd (decide (0≤v70)) (gd (decide (v70<(↑(a.1.length):Int))) (gd (decide (v70.toNat<a.1.length)) ((c67 F (a.1.getD (v70.toNat) ByteArray.empty)).bind fun(v71:Bool)=>bif !v71 then(some (Sum.inr (Sum.inl (8:Int))))else(gd (decide (0≤v70)) (gd (decide (v70≤(↑(a.1.length):Int))) (gd (decide (0≤v70)) (gd (decide (v70<(↑(a.1.length):Int))) (gd (decide (v70.toNat<a.1.length)) ((c54 F (List.drop (0:Nat) (List.take (v70.toNat) a.1),a.1.getD (v70.toNat) ByteArray.empty)).bind fun(v72:Bool)=>bif v72 then(some (Sum.inr (Sum.inl (9:Int))))else(some (Sum.inl (w64 (v70+1))))))))))))))else(some (Sum.inr (Sum.inr ())))) F ((0:Int))).bind fun(v53:Int ⊕ Unit)=>Sum.elim (fun(v54:Int)=>some (v54)) (fun(v55:Unit)=>(Q4 (σ:=Int×Int) (β:=Int) (fun(v67:Int×Int)=>(bif decide (v67.2<(↑(a.2.1.length):Int))then(some (decide (v67.1=0)))else(some (false))).bind fun(v68:Bool)=>bif v68 then((Qnd F (a,v67.2)).bind fun(v69:Int)=>some (Sum.inl (v69,w64 (v67.2+1))))else(some (Sum.inr v67.1))) F (((0:Int),(0:Int)))).bind fun(v56:Int)=>(Q4 (σ:=Int×Int) (β:=Int) (fun(v58:Int×Int)=>(bif decide (v58.2<(↑(a.2.2.1.length):Int))then(some (decide (v58.1=0)))else(some (false))).bind fun(v59:Bool)=>bif v59 then(gd (decide (0≤v58.2)) (gd (decide (v58.2<(↑(a.2.2.1.length):Int))) (gd (decide (v58.2.toNat<a.2.2.1.length)) ((c40 F (a,(a.2.2.1.getD (v58.2.toNat) (ByteArray.empty,(0:Int),(0:Int))).1)).bind fun(v60:Int)=>(bif decide (v60<0)then(some ((10:Int)))else(((c94 F ((a.2.2.1.getD (v58.2.toNat) (ByteArray.empty,(0:Int),(0:Int))).2.1,(99999:Int))).bind fun(v65:Bool)=>bif v65 then(some (true))else((c94 F ((a.2.2.1.getD (v58.2.toNat) (ByteArray.empty,(0:Int),(0:Int))).2.2,(99999:Int))).bind fun(v66:Bool)=>some (v66))).bind fun(v62:Bool)=>(bif v62 then(some ((3:Int)))else((bif decide ((a.2.2.1.getD (v58.2.toNat) (ByteArray.empty,(0:Int),(0:Int))).2.2<(a.2.2.1.getD (v58.2.toNat) (ByteArray.empty,(0:Int),(0:Int))).2.1)then(some ((11:Int)))else(some v58.1)).bind fun(v64:Int)=>some (v64))).bind fun(v63:Int)=>some (v63))).bind fun(v61:Int)=>some (Sum.inl (v61,w64 (v58.2+1)))))))else(some (Sum.inr v58.1))) F ((v56,(0:Int)))).bind fun(v57:Int)=>some (v57)) (v53)
def Ylm(F:Nat):PC:={ats:=Wb,rts:=Zg,code:=Qnn F}
theorem Yoo(F:Nat):Qg cx 121 (Ylm F):=qE (Zm5 F) (.two .leaf (.two (.two .leaf (.one (.loop ⟨[.slot 3 (.val (.int .i64))],[]⟩ [(.ret,⟨[.slot 2 (.val (.int .i64))],[]⟩),(.exit 0,⟨[],[]⟩)] ⟨(Ye 15 7 (2::Qn 31 10 (3::Qn 14 7 []))),[],[]⟩ F .leaf))) (.two .leaf (.two (.two .leaf (.one (.loop ⟨[.slot 4 (.val (.int .i64)),.slot 5 (.val (.int .i64))],[]⟩ [(.exit 2,⟨[.slot 4 (.val (.int .i64))],[]⟩)] ⟨(43::44::45::4::5::Qn 42 11 []),[],[]⟩ F (.two (.two (.join [(.normal,⟨[.slot 40 (.val (.bool))],[]⟩)] ⟨(Qn 40 9 []),[],[]⟩ .leaf) .leaf) .leaf)))) (.two (.two .leaf (.one (.loop ⟨[.slot 4 (.val (.int .i64)),.slot 6 (.val (.int .i64))],[]⟩ [(.exit 4,⟨[.slot 4 (.val (.int .i64))],[]⟩)] ⟨(57::58::59::60::61::7::4::Qn 79 18 (6::Qn 56 11 [])),[],[]⟩ F (.two (.two (.join [(.normal,⟨[.slot 54 (.val (.bool))],[]⟩)] ⟨(Qn 54 9 []),[],[]⟩ .leaf) .leaf) (.two (.one (Zb 2 (.join [(.normal,⟨[.slot 4 (.val (.int .i64))],[]⟩)] ⟨(Ye 67 13 (4::[])),[],[]⟩ (.two .leaf (.two (.join [(.normal,⟨[.slot 74 (.val (.bool))],[]⟩)] ⟨(Qn 74 8 []),[],[]⟩ .leaf) (.join [(.normal,⟨[.slot 4 (.val (.int .i64))],[]⟩)] ⟨[75,76,77,78,79,4],[],[]⟩ (Zb 2 (.join [(.normal,⟨[.slot 4 (.val (.int .i64))],[]⟩)] ⟨[4],[],[]⟩ .leaf)))))))) .leaf))))) .leaf))))) f121 (by kernel_rfl) fun a=>by kernel_rfl
def Yho(F:Nat):LK:=lC (Yoo F) (lC (Yib F) (lC (Zrj F) (lC (Yj9 F) lN)))
def c26(F:Nat)(a:(Q7)×Qh):Option (Int):=
 (c22 F a.1).bind fun(v25:Int)=>bif !decide (v25=0)then(some (v25))else((bif decide (256<(↑(a.2.1.length):Int))then(some (true))else(bif decide (256<(↑(a.2.2.1.length):Int))then(some (true))else(bif decide (256<(↑(a.2.2.2.1.length):Int))then(some (true))else(bif decide (256<(↑(a.2.2.2.2.1.length):Int))then(some (true))else(some (decide (256<(↑(a.2.2.2.2.2.length):Int)))))))).bind fun(v26:Bool)=>bif v26 then(some ((5:Int)))else((Qnn F a.2).bind fun(v27:Int)=>(Q4 (σ:=Int×Int) (β:=Int) (fun(v33:Int×Int)=>(bif decide (v33.2<(↑(a.2.2.2.2.1.length):Int))then(some (decide (v33.1=0)))else(some (false))).bind fun(v34:Bool)=>bif v34 then((Qni F (a.2,a.1,v33.2)).bind fun(v35:Int)=>some (Sum.inl (v35,w64 (v33.2+1))))else(some (Sum.inr v33.1))) F ((v27,(0:Int)))).bind fun(v28:Int)=>(Q4 (σ:=Int×Int) (β:=Int) (fun(v30:Int×Int)=>(bif decide (v30.2<(↑(a.2.2.2.2.2.length):Int))then(some (decide (v30.1=0)))else(some (false))).bind fun(v31:Bool)=>bif v31 then((Qoh F (a.2,a.1,v30.2)).bind fun(v32:Int)=>some (Sum.inl (v32,w64 (v30.2+1))))else(some (Sum.inr v30.1))) F ((v28,(0:Int)))).bind fun(v29:Int)=>some (v29)))
def Yc6(F:Nat):PC:={ats:=Qnb,rts:=Zg,code:=c26 F}
theorem Zlv(F:Nat):Qg cx 26 (Yc6 F):=qE (Yho F) (Zb 3 (.two (.two (.join [(.normal,⟨[.slot 40 (.val (.bool))],[]⟩)] ⟨(Qn 40 28 []),[],[]⟩ .leaf) .leaf) (.two .leaf (.two (.two .leaf (.one (.loop ⟨[.slot 5 (.val (.int .i64)),.slot 6 (.val (.int .i64))],[]⟩ [(.exit 0,⟨[.slot 5 (.val (.int .i64))],[]⟩)] ⟨(54::55::56::57::5::6::Qn 53 11 []),[],[]⟩ F (.two (.two (.join [(.normal,⟨[.slot 51 (.val (.bool))],[]⟩)] ⟨(Qn 51 9 []),[],[]⟩ .leaf) .leaf) .leaf)))) (.two (.two .leaf (.one (.loop ⟨[.slot 5 (.val (.int .i64)),.slot 7 (.val (.int .i64))],[]⟩ [(.exit 2,⟨[.slot 5 (.val (.int .i64))],[]⟩)] ⟨(69::70::71::72::5::7::Qn 68 11 []),[],[]⟩ F (.two (.two (.join [(.normal,⟨[.slot 66 (.val (.bool))],[]⟩)] ⟨(Qn 66 9 []),[],[]⟩ .leaf) .leaf) .leaf)))) .leaf))))) f26 (by kernel_rfl) fun a=>by kernel_rfl
def Zyk(F:Nat):LK:=lC (Z8 F) lN
def c87(F:Nat)(a:Int×Int):Option (Int):=
 (bif decide (a.1<0)then(some ((3:Int)))else((Qo F (decide (a.2<a.1),(3:Int))).bind fun(v9:Int)=>some (v9))).bind fun(v8:Int)=>some (v8)
def Zl9(F:Nat):PC:={ats:=Qo1,rts:=Zg,code:=c87 F}
theorem Zdl(F:Nat):Qg cx 87 (Zl9 F):=qE (Zyk F) (.two .leaf (.two (.join [(.normal,⟨[.slot 4 (.val (.int .i64))],[]⟩)] ⟨(4::Qn 12 8 []),[],[]⟩ .leaf) .leaf)) f87 (by kernel_rfl) fun a=>by kernel_rfl
def Ycy(F:Nat):LK:=lN
def Wq(F:Nat)(a:List Int):Option (Int):=
 (Q4 (σ:=Int) (β:=Int ⊕ Unit) (fun(v13:Int)=>bif decide (v13<(↑(a.length):Int))then(gd (decide (0≤v13)) (gd (decide (v13<(↑(a.length):Int))) (gd (decide (v13.toNat<a.length)) (bif !decide (a.getD (v13.toNat) (0:Int)=(0:Int))then(some (Sum.inr (Sum.inl (a.getD (v13.toNat) (0:Int)))))else(some (Sum.inl (w64 (v13+1))))))))else(some (Sum.inr (Sum.inr ())))) F ((0:Int))).bind fun(v10:Int ⊕ Unit)=>Sum.elim (fun(v11:Int)=>some (v11)) (fun(v12:Unit)=>some ((0:Int))) (v10)
def Yim(F:Nat):PC:={ats:=[.val (.seq K3)],rts:=Zg,code:=Wq F}
theorem Za8(F:Nat):Qg cx 175 (Yim F):=qE (Ycy F) (.two .leaf (.two (.two .leaf (.one (.loop ⟨[.slot 7 (.val (.int .i64))],[]⟩ [(.ret,⟨[.slot 2 (.val (.int .i64))],[]⟩),(.exit 0,⟨[],[]⟩)] ⟨[14,7,11,12,2,13,4,10,9,8],[],[]⟩ F .leaf))) .leaf)) f175 (by kernel_rfl) fun a=>by kernel_rfl
def Zyg(F:Nat):LK:=lN
def Jc(F:Nat)(a:Bool×Int):Option (Int):=
 bif a.1 then(some a.2)else(some ((0:Int)))
def Yg2(F:Nat):PC:={ats:=Qvk,rts:=Zg,code:=Jc F}
theorem Qza(F:Nat):Qg cx 176 (Yg2 F):=qE (Zyg F) .leaf f176 (by kernel_rfl) fun a=>by kernel_rfl
def Yjs(F:Nat):LK:=lN
def Qmu(F:Nat)(a:List ByteArray×ByteArray):Option (Int):=
 (Q4 (σ:=Int) (β:=Int ⊕ Unit) (fun(v13:Int)=>bif decide (v13<(↑(a.1.length):Int))then(gd (decide (0≤v13)) (gd (decide (v13<(↑(a.1.length):Int))) (gd (decide (v13.toNat<a.1.length)) (bif Qc a.2 (a.1.getD (v13.toNat) ByteArray.empty)then(some (Sum.inr (Sum.inl v13)))else(some (Sum.inl (w64 (v13+1))))))))else(some (Sum.inr (Sum.inr ())))) F ((0:Int))).bind fun(v10:Int ⊕ Unit)=>Sum.elim (fun(v11:Int)=>some (v11)) (fun(v12:Unit)=>some ((-1:Int))) (v10)
def Zxi(F:Nat):PC:={ats:=Qo7,rts:=Zg,code:=Qmu F}
theorem Zyv(F:Nat):Qg cx 183 (Zxi F):=qE (Yjs F) (.two .leaf (.two (.two .leaf (.one (.loop ⟨[.slot 8 (.val (.int .i64))],[]⟩ [(.ret,⟨[.slot 4 (.val (.int .i64))],[]⟩),(.exit 0,⟨[],[]⟩)] ⟨[18,8,11,12,13,14,15,16,4,17,5,10,9],[],[]⟩ F .leaf))) .leaf)) f183 (by kernel_rfl) fun a=>by kernel_rfl
def Ydz(F:Nat):LK:=lC (Zyv F) lN
def Vs(F:Nat)(a:List ByteArray×ByteArray):Option (Bool):=
 (Qmu F a).bind fun(v5:Int)=>some (decide (0≤v5))
def Zyn(F:Nat):PC:={ats:=Qo7,rts:=Y8,code:=Vs F}
theorem J7(F:Nat):Qg cx 107 (Zyn F):=qE (Ydz F) .leaf f107 (by kernel_rfl) fun a=>by kernel_rfl
def Zku(F:Nat):LK:=lC (J7 F) lN
def Qp9(F:Nat)(a:ByteArray):Option (Bool):=
 (Vs F ({data:=List.toArray (68::78::83::Qa UInt8)}::{data:=List.toArray (68::78::70::Qa UInt8)}::{data:=List.toArray (68::81::Qa UInt8)}::{data:=List.toArray (78::77::Qa UInt8)}::Qa ByteArray,a)).bind fun(v5:Bool)=>some (v5)
def Ynq(F:Nat):PC:={ats:=Uu,rts:=Y8,code:=Qp9 F}
theorem Yk2(F:Nat):Qg cx 177 (Ynq F):=qE (Zku F) .leaf f177 (by kernel_rfl) fun a=>by kernel_rfl
def Zpa(F:Nat):LK:=lN
def U3(F:Nat)(a:Int×Int×Int):Option (Bool):=
 (bif decide (a.1<a.2.1)then(some (true))else(some (decide (a.2.2<a.1)))).bind fun(v5:Bool)=>some (v5)
def Zoy(F:Nat):PC:={ats:=Zbq,rts:=Y8,code:=U3 F}
theorem Yg8(F:Nat):Qg cx 179 (Zoy F):=qE (Zpa F) (.two .leaf (.two (.join [(.normal,⟨[.slot 6 (.val (.bool))],[]⟩)] ⟨(6::Qn 14 8 []),[],[]⟩ .leaf) .leaf)) f179 (by kernel_rfl) fun a=>by kernel_rfl
def Zqu(F:Nat):LK:=lC (Yg8 F) (lC (Yk2 F) (lC (Qza F) (lC (Za8 F) lN)))
def c99(F:Nat)(a:ByteArray×Int×ByteArray):Option (Int):=
 bif Qc a.1 {data:=List.toArray (110::111::110::101::Qa UInt8)}then((Qp9 F a.2.2).bind fun(v66:Bool)=>(Jc F (!v66,(1:Int))).bind fun(v67:Int)=>(Jc F (!decide (a.2.1=0),(3:Int))).bind fun(v68:Int)=>(Wq F (v67::v68::Qa Int)).bind fun(v69:Int)=>some (v69))else((bif Qc a.1 {data:=List.toArray (116::105::109::101::Qa UInt8)}then((Jc F (!Qc a.2.2 {data:=List.toArray (Qa UInt8)},(1:Int))).bind fun(v88:Int)=>(U3 F (a.2.1,(1:Int),(863999999:Int))).bind fun(v89:Bool)=>(Jc F (v89,(3:Int))).bind fun(v90:Int)=>(Wq F ((0:Int)::v88::v90::Qa Int)).bind fun(v91:Int)=>some (v91))else(bif Qc a.1 {data:=List.toArray (108::101::110::103::116::104::Qa UInt8)}then((Jc F (!Qc a.2.2 {data:=List.toArray (Qa UInt8)},(1:Int))).bind fun(v92:Int)=>(U3 F (a.2.1,(0:Int),(999999:Int))).bind fun(v93:Bool)=>(Jc F (v93,(3:Int))).bind fun(v94:Int)=>(Wq F ((0:Int)::v92::v94::Qa Int)).bind fun(v95:Int)=>some (v95))else(bif Qc a.1 {data:=List.toArray (112::111::105::110::116::115::Qa UInt8)}then((Jc F (!Qc a.2.2 {data:=List.toArray (Qa UInt8)},(1:Int))).bind fun(v96:Int)=>(U3 F (a.2.1,(0:Int),(99999:Int))).bind fun(v97:Bool)=>(Jc F (v97,(3:Int))).bind fun(v98:Int)=>(Wq F ((0:Int)::v96::v98::Qa Int)).bind fun(v99:Int)=>some (v99))else((Jc F (!Qc a.2.2 {data:=List.toArray (Qa UInt8)},(1:Int))).bind fun(v100:Int)=>(U3 F (a.2.1,(0:Int),(0:Int))).bind fun(v101:Bool)=>(Jc F (v101,(3:Int))).bind fun(v102:Int)=>(Wq F ((13:Int)::v100::v102::Qa Int)).bind fun(v103:Int)=>some (v103))))).bind fun(v70:Int)=>(bif Qc a.1 {data:=List.toArray (116::105::109::101::Qa UInt8)}then((Jc F (!Qc a.2.2 {data:=List.toArray (Qa UInt8)},(1:Int))).bind fun(v72:Int)=>(U3 F (a.2.1,(1:Int),(863999999:Int))).bind fun(v73:Bool)=>(Jc F (v73,(3:Int))).bind fun(v74:Int)=>(Wq F ((0:Int)::v72::v74::Qa Int)).bind fun(v75:Int)=>some (v75))else(bif Qc a.1 {data:=List.toArray (108::101::110::103::116::104::Qa UInt8)}then((Jc F (!Qc a.2.2 {data:=List.toArray (Qa UInt8)},(1:Int))).bind fun(v76:Int)=>(U3 F (a.2.1,(0:Int),(999999:Int))).bind fun(v77:Bool)=>(Jc F (v77,(3:Int))).bind fun(v78:Int)=>(Wq F ((0:Int)::v76::v78::Qa Int)).bind fun(v79:Int)=>some (v79))else(bif Qc a.1 {data:=List.toArray (112::111::105::110::116::115::Qa UInt8)}then((Jc F (!Qc a.2.2 {data:=List.toArray (Qa UInt8)},(1:Int))).bind fun(v80:Int)=>(U3 F (a.2.1,(0:Int),(99999:Int))).bind fun(v81:Bool)=>(Jc F (v81,(3:Int))).bind fun(v82:Int)=>(Wq F ((0:Int)::v80::v82::Qa Int)).bind fun(v83:Int)=>some (v83))else((Jc F (!Qc a.2.2 {data:=List.toArray (Qa UInt8)},(1:Int))).bind fun(v84:Int)=>(U3 F (a.2.1,(0:Int),(0:Int))).bind fun(v85:Bool)=>(Jc F (v85,(3:Int))).bind fun(v86:Int)=>(Wq F ((13:Int)::v84::v86::Qa Int)).bind fun(v87:Int)=>some (v87))))).bind fun(v71:Int)=>gd (Qm.eqv (Qd.val (Ty.int Go.IntKind.i64)::Qa Qd) v70 v71) (some (v70)))
def Qq7(F:Nat):PC:={ats:=[.agg Wx],rts:=Zg,code:=c99 F}
theorem Vk(F:Nat):Qg cx 99 (Qq7 F):=qE (Zqu F) (Zb 2 (.two (.within [(178,.leaf)]) .leaf)) f99 (by kernel_rfl) fun a=>by kernel_rfl
def Yll(F:Nat):LK:=lN
def Jb(F:Nat)(a:(Yg)×ByteArray×Int×ByteArray):Option (Bool):=
 (bif Qc a.2.1 a.1.2.1 then(some (true))else(some (Qc a.2.1 {data:=List.toArray (110::111::110::101::Qa UInt8)}))).bind fun(v5:Bool)=>some (v5)
def Zke(F:Nat):PC:={ats:=[.agg Xh,.agg Wx],rts:=Y8,code:=Jb F}
theorem Qnt(F:Nat):Qg cx 155 (Zke F):=qE (Yll F) (.two .leaf (.two (.join [(.normal,⟨[.slot 4 (.val (.bool))],[]⟩)] ⟨(4::Qn 14 10 []),[],[]⟩ .leaf) .leaf)) f155 (by kernel_rfl) fun a=>by kernel_rfl
def Yid(F:Nat):LK:=lC (J7 F) (lC (Z8 F) (lC (Vu F) (lC (Zdl F) (lC (Ya F) (lC (Qnt F) (lC (Vk F) lN))))))
def c93(F:Nat)(a:Yg):Option (Int):=
 ((Vs F ({data:=List.toArray (116::105::109::101::Qa UInt8)}::{data:=List.toArray (108::101::110::103::116::104::Qa UInt8)}::{data:=List.toArray (112::111::105::110::116::115::Qa UInt8)}::Qa ByteArray,a.2.1)).bind fun(v63:Bool)=>(Qo F (!v63,(13:Int))).bind fun(v64:Int)=>bif !Qc a.2.2.1 {data:=List.toArray (Qa UInt8)}then((c98 F a.2.2.1).bind fun(v65:Bool)=>(Qo F (!v65,(8:Int))).bind fun(v66:Int)=>(c87 F (a.2.2.2.1,(120:Int))).bind fun(v67:Int)=>(c87 F (a.2.2.2.2.1,(120:Int))).bind fun(v68:Int)=>(Qo F (decide (a.2.2.2.2.1<a.2.2.2.1),(11:Int))).bind fun(v69:Int)=>(Q0 F (v64::v66::v67::v68::v69::Qa Int)).bind fun(v70:Int)=>some (v70))else((c87 F (a.2.2.2.1,(120:Int))).bind fun(v71:Int)=>(c87 F (a.2.2.2.2.1,(120:Int))).bind fun(v72:Int)=>(Qo F (decide (a.2.2.2.2.1<a.2.2.2.1),(11:Int))).bind fun(v73:Int)=>(Q0 F (v64::(0:Int)::v71::v72::v73::Qa Int)).bind fun(v74:Int)=>some (v74))).bind fun(v55:Int)=>bif !decide (v55=0)then(some (v55))else((c87 F (a.2.2.2.2.2.1,(160:Int))).bind fun(v56:Int)=>(c87 F (a.2.2.2.2.2.2.1,(160:Int))).bind fun(v57:Int)=>(c87 F (a.2.2.2.2.2.2.2.2.2.2,(8:Int))).bind fun(v58:Int)=>(c99 F (a.2.2.2.2.2.2.2.1,a.2.2.2.2.2.2.2.2.1,a.2.2.2.2.2.2.2.2.2.1)).bind fun(v59:Int)=>(Jb F (a,a.2.2.2.2.2.2.2.1,a.2.2.2.2.2.2.2.2.1,a.2.2.2.2.2.2.2.2.2.1)).bind fun(v60:Bool)=>(Qo F (!v60,(13:Int))).bind fun(v61:Int)=>(Q0 F (v56::v57::v58::v59::v61::Qa Int)).bind fun(v62:Int)=>some (v62))
def Zr8(F:Nat):PC:={ats:=[.agg Xh],rts:=Zg,code:=c93 F}
theorem Qtk(F:Nat):Qg cx 93 (Zr8 F):=qE (Yid F) (Zb 2 (.two (.two (.join [(.normal,⟨[.slot 4 (.val (.int .i64))],[]⟩)] ⟨(4::Qn 35 30 []),[],[]⟩ .leaf) .leaf) .leaf)) f93 (by kernel_rfl) fun a=>by kernel_rfl
def Ycw:Ql:=⟨[.slot 0 (.agg Xh),.one 0 110 Xh],[(1,.stat (.ptr 0 11 0 0))]⟩
def Zst:Ql:=⟨[.slot 0 (.val (.bool))],[]⟩
def Yio(F:Nat):LK:=lN
def Zrp(F:Nat):PX:=qX (Yio F) .leaf f91 (pxB 2 [.arg 1] Ycw 1 Zst [] [])
theorem Qj7(F:Nat):Zf cx 91 (Zrp F):=W1 (by kernel_rfl)
def Ycd:Ql:=⟨[.slot 0 (.val (.seq Xh)),.one 0 110 Xh],[(1,.stat (.fn (.func 91) [] [.ptr 0 11 0 0]))]⟩
def Ykw:Ql:=⟨[.slot 0 (.val (.int .i64))],[]⟩
def Yg9(F:Nat):LK:=lX (Qj7 F) lN
def Qq9(F:Nat)(a:List (Yg)×Yg):Option (Int):=
 (Q4 (σ:=Int) (β:=Int ⊕ Unit) (fun(v13:Int)=>bif decide (v13<(↑(a.1.length):Int))then(gd (decide (0≤v13)) (gd (decide (v13<(↑(a.1.length):Int))) (gd (decide (v13.toNat<a.1.length)) (bif Qc (a.1.getD (v13.toNat) Zc).1 a.2.1 then(some (Sum.inr (Sum.inl v13)))else(some (Sum.inl (w64 (v13+1))))))))else(some (Sum.inr (Sum.inr ())))) F ((0:Int))).bind fun(v10:Int ⊕ Unit)=>Sum.elim (fun(v11:Int)=>some (v11)) (fun(v12:Unit)=>some ((-1:Int))) (v10)
def Yej(F:Nat):PX:={np:=2,locs:=[.cap (.arg 1) 0],τ:=Ycd,nr:=1,ω:=Ykw,ids:=[],mv:=[],code:=Qq9 F}
theorem Qky(F:Nat):Zf cx 154 (Yej F):=Yh (Yg9 F) (.two .leaf (.two (.two .leaf (.one (.loop ⟨[.slot 8 (.val (.int .i64))],[]⟩ [(.ret,⟨[.slot 4 (.val (.int .i64))],[]⟩),(.exit 0,⟨[],[]⟩)] ⟨[18,8,11,12,13,14,15,16,4,17,5,10,9],[],[]⟩ F .leaf))) .leaf)) f154 (by kernel_rfl) fun a=>by kernel_rfl
def Zvh:Ql:=⟨[.slot 0 (.val (.seq Xh)),.one 0 110 Xh],[(1,.stat (.fn (.func 91) [] [.ptr 0 11 0 0]))]⟩
def Ycj:Ql:=⟨[.slot 0 (.val (.bool))],[]⟩
def Yd1(F:Nat):LK:=lX (Qj7 F) (lX (Qky F) lN)
def Qq4(F:Nat)(a:List (Yg)×Yg):Option (Bool):=
 (Qq9 F a).bind fun(v5:Int)=>some (decide (0≤v5))
def Zwn(F:Nat):PX:={np:=2,locs:=[.cap (.arg 1) 0],τ:=Zvh,nr:=1,ω:=Ycj,ids:=[],mv:=[],code:=Qq4 F}
theorem Qs7(F:Nat):Zf cx 90 (Zwn F):=Yh (Yd1 F) .leaf f90 (by kernel_rfl) fun a=>by kernel_rfl
def Yj7:Ql:=⟨[.slot 0 (.val (.int .i64)),.slot 1 (.agg Xh),.one 0 24 Xs],[(2,.stat (.ptr 0 5 0 0))]⟩
def Zpm:Ql:=⟨[.slot 0 (.val (.int .i64))],[]⟩
def Zso(F:Nat):LK:=lC (Vr F) (lC (Z8 F) (lC (Qtk F) (lC (Ya F) (lX (Qj7 F) (lX (Qky F) (lX (Qs7 F) lN))))))
def Qn6(F:Nat)(a:Int×(Yg)×Q7):Option (Int):=
 gd (decide (0≤a.1)) (gd (decide (a.1≤(↑(a.2.2.2.2.2.2.length):Int))) ((Qq4 F (List.drop (0:Nat) (List.take (a.1.toNat) a.2.2.2.2.2.2),a.2.1.1,a.2.1.2.1,a.2.1.2.2.1,a.2.1.2.2.2.1,a.2.1.2.2.2.2.1,a.2.1.2.2.2.2.2.1,a.2.1.2.2.2.2.2.2.1,a.2.1.2.2.2.2.2.2.2.1,a.2.1.2.2.2.2.2.2.2.2.1,a.2.1.2.2.2.2.2.2.2.2.2.1,a.2.1.2.2.2.2.2.2.2.2.2.2)).bind fun(v13:Bool)=>(c92 F a.2.1.1).bind fun(v14:Int)=>(Qo F (v13,(9:Int))).bind fun(v15:Int)=>(c93 F a.2.1).bind fun(v16:Int)=>(Q0 F (v14::v15::v16::Qa Int)).bind fun(v17:Int)=>some (v17)))
def Zms(F:Nat):PX:={np:=3,locs:=[.arg 2],τ:=Yj7,nr:=1,ω:=Zpm,ids:=[],mv:=[],code:=Qn6 F}
theorem Zfq(F:Nat):Zf cx 89 (Zms F):=Yh (Zso F) .leaf f89 (by kernel_rfl) fun a=>by kernel_rfl
def Zww:Ql:=⟨[.slot 0 (.val (.seq Xh)),.one 0 24 Xs],[(1,.stat (.fn (.func 89) [] [.ptr 0 5 0 0]))]⟩
def Zk0:Ql:=⟨[.slot 0 (.val (.int .i64))],[]⟩
def Ycc(F:Nat):LK:=lC (Vr F) (lC (Z8 F) (lC (Qtk F) (lC (Ya F) (lX (Qj7 F) (lX (Qky F) (lX (Qs7 F) (lX (Zfq F) lN)))))))
def Qox(F:Nat)(a:List (Yg)×Q7):Option (Int):=
 (Q4 (σ:=Int) (β:=Int ⊕ Unit) (fun(v15:Int)=>bif decide (v15<(↑(a.1.length):Int))then(gd (decide (0≤v15)) (gd (decide (v15<(↑(a.1.length):Int))) (gd (decide (v15.toNat<a.1.length)) ((Qn6 F (v15,(a.1.getD (v15.toNat) Zc),a.2.1,a.2.2.1,a.2.2.2.1,a.2.2.2.2.1,a.2.2.2.2.2)).bind fun(v16:Int)=>bif !decide (v16=0)then(some (Sum.inr (Sum.inl v16)))else(some (Sum.inl (w64 (v15+1))))))))else(some (Sum.inr (Sum.inr ())))) F ((0:Int))).bind fun(v12:Int ⊕ Unit)=>Sum.elim (fun(v13:Int)=>some (v13)) (fun(v14:Unit)=>some ((0:Int))) (v12)
def Yiy(F:Nat):PX:={np:=2,locs:=[.cap (.arg 1) 0],τ:=Zww,nr:=1,ω:=Zk0,ids:=[],mv:=[],code:=Qox F}
theorem Zy6(F:Nat):Zf cx 88 (Yiy F):=Yh (Ycc F) (.two .leaf (.two (.two .leaf (.one (.loop ⟨[.slot 10 (.val (.int .i64))],[]⟩ [(.ret,⟨[.slot 4 (.val (.int .i64))],[]⟩),(.exit 0,⟨[],[]⟩)] ⟨[22,10,15,16,17,18,7,21,4,20,19,5,6,14,13,12,11],[],[]⟩ F .leaf))) .leaf)) f88 (by kernel_rfl) fun a=>by kernel_rfl
def Ykk(F:Nat):LK:=lC (Vr F) (lC (Qtk F) (lC (Ya F) (lC (Zdl F) (lC (Z8 F) (lC (Wn F) (lX (Qj7 F) (lX (Qky F) (lX (Qs7 F) (lX (Zfq F) (lX (Zy6 F) lN))))))))))
def c21(F:Nat)(a:Q7):Option (Int):=
 ((Z6 F (a.1::a.2.1::a.2.2.1::Qa Int)).bind fun(v33:Int)=>bif decide (a.2.2.1<a.2.1)then((c87 F (a.2.2.2.1,(32:Int))).bind fun(v34:Int)=>(Qo F (decide (32<(↑(a.2.2.2.2.length):Int)),(5:Int))).bind fun(v35:Int)=>(Q0 F (v33::(11:Int)::v34::v35::Qa Int)).bind fun(v36:Int)=>some (v36))else((Qo F (decide (a.1<a.2.2.1),(11:Int))).bind fun(v37:Int)=>(c87 F (a.2.2.2.1,(32:Int))).bind fun(v38:Int)=>(Qo F (decide (32<(↑(a.2.2.2.2.length):Int)),(5:Int))).bind fun(v39:Int)=>(Q0 F (v33::v37::v38::v39::Qa Int)).bind fun(v40:Int)=>some (v40))).bind fun(v31:Int)=>bif !decide (v31=0)then(some (v31))else((Qox F (a.2.2.2.2,a.1,a.2.1,a.2.2.1,a.2.2.2.1,a.2.2.2.2)).bind fun(v32:Int)=>some (v32))
def Qxs(F:Nat):PC:={ats:=[.agg Xs],rts:=Zg,code:=c21 F}
theorem Qt7(F:Nat):Qg cx 21 (Qxs F):=qE (Ykk F) (.two .leaf (.two (.two (.join [(.normal,⟨[.slot 3 (.val (.int .i64))],[]⟩)] ⟨(3::Qn 34 31 []),[],[]⟩ .leaf) .leaf) .leaf)) f21 (by kernel_rfl) fun a=>by kernel_rfl
def Yhg(F:Nat):LK:=lN
def Qsk(F:Nat):PC:=qT (Yhg F) .leaf f105 Wb Y8
theorem Qto(F:Nat):Qg cx 105 (Qsk F):=Qx9 (by kernel_rfl)
def Zkp:Ql:=⟨[.slot 0 (.agg Xh),.one 0 9 Z2],[(1,.stat (.ptr 0 1 0 0))]⟩
def Zmk:Ql:=⟨[.slot 0 (.val (.bool))],[]⟩
def Yd4(F:Nat):LK:=lN
def Yhc(F:Nat):PX:=qX (Yd4 F) .leaf f195 (pxB 2 [.arg 1] Zkp 1 Zmk [] [])
theorem Qzx(F:Nat):Zf cx 195 (Yhc F):=W1 (by kernel_rfl)
def Ykl:Ql:=⟨[.slot 0 (.val (.seq Xh)),.one 0 9 Z2],[(1,.stat (.fn (.func 195) [] [.ptr 0 1 0 0]))]⟩
def Ygs:Ql:=⟨[.slot 0 (.val (.int .i64))],[]⟩
def Ynz(F:Nat):LK:=lX (Qzx F) lN
def Qmv(F:Nat)(a:List (Yg)×ByteArray):Option (Int):=
 (Q4 (σ:=Int) (β:=Int ⊕ Unit) (fun(v13:Int)=>bif decide (v13<(↑(a.1.length):Int))then(gd (decide (0≤v13)) (gd (decide (v13<(↑(a.1.length):Int))) (gd (decide (v13.toNat<a.1.length)) (bif Qc (a.1.getD (v13.toNat) Zc).1 a.2 then(some (Sum.inr (Sum.inl v13)))else(some (Sum.inl (w64 (v13+1))))))))else(some (Sum.inr (Sum.inr ())))) F ((0:Int))).bind fun(v10:Int ⊕ Unit)=>Sum.elim (fun(v11:Int)=>some (v11)) (fun(v12:Unit)=>some ((-1:Int))) (v10)
def Zzk(F:Nat):PX:={np:=2,locs:=[.cap (.arg 1) 0],τ:=Ykl,nr:=1,ω:=Ygs,ids:=[],mv:=[],code:=Qmv F}
theorem Zv9(F:Nat):Zf cx 154 (Zzk F):=Yh (Ynz F) (.two .leaf (.two (.two .leaf (.one (.loop ⟨[.slot 8 (.val (.int .i64))],[]⟩ [(.ret,⟨[.slot 4 (.val (.int .i64))],[]⟩),(.exit 0,⟨[],[]⟩)] ⟨[18,8,11,12,13,14,15,16,4,17,5,10,9],[],[]⟩ F .leaf))) .leaf)) f154 (by kernel_rfl) fun a=>by kernel_rfl
def Ymo(F:Nat):LK:=lX (Qky F) (lX (Qzx F) (lX (Zv9 F) lN))
def Qch(F:Nat)(a:(Q7)×ByteArray):Option ((Yg)×Bool):=
 (Qmv F (a.1.2.2.2.2,a.2)).bind fun(v5:Int)=>bif decide (v5<0)then(some ((({data:=List.toArray (Qa UInt8)},{data:=List.toArray (Qa UInt8)},{data:=List.toArray (Qa UInt8)},(0:Int),(0:Int),(0:Int),(0:Int),{data:=List.toArray (Qa UInt8)},(0:Int),{data:=List.toArray (Qa UInt8)},(0:Int)),false)))else(gd (decide (0≤v5)) (gd (decide (v5<(↑(a.1.2.2.2.2.length):Int))) (gd (decide (v5.toNat<a.1.2.2.2.2.length)) (some (((a.1.2.2.2.2.getD (v5.toNat) Zc),true))))))
def Zgb(F:Nat):PC:={ats:=[.agg Xs,.val (.str)],rts:=[.agg Xh,.val (.bool)],code:=Qch F}
theorem Qbi(F:Nat):Qg cx 131 (Zgb F):=qE (Ymo F) .leaf f131 (by kernel_rfl) fun a=>by kernel_rfl
def Zpq:Ql:=⟨[.slot 0 (.agg Xi),.one 0 9 Z2],[(1,.stat (.ptr 0 1 0 0))]⟩
def Zy4:Ql:=⟨[.slot 0 (.val (.bool))],[]⟩
def Ylw(F:Nat):LK:=lN
def Ztx(F:Nat):PX:=qX (Ylw F) .leaf f185 (pxB 2 [.arg 1] Zpq 1 Zy4 [] [])
theorem Zhr(F:Nat):Zf cx 185 (Ztx F):=W1 (by kernel_rfl)
def Znl:Ql:=⟨[.slot 0 (.val (.seq Xi)),.one 0 9 Z2],[(1,.stat (.fn (.func 185) [] [.ptr 0 1 0 0]))]⟩
def Znm:Ql:=⟨[.slot 0 (.val (.int .i64))],[]⟩
def Zv5(F:Nat):LK:=lX (Zhr F) lN
def Qrl(F:Nat)(a:List (Qt)×ByteArray):Option (Int):=
 (Q4 (σ:=Int) (β:=Int ⊕ Unit) (fun(v13:Int)=>bif decide (v13<(↑(a.1.length):Int))then(gd (decide (0≤v13)) (gd (decide (v13<(↑(a.1.length):Int))) (gd (decide (v13.toNat<a.1.length)) (bif Qc (a.1.getD (v13.toNat) Zu).1 a.2 then(some (Sum.inr (Sum.inl v13)))else(some (Sum.inl (w64 (v13+1))))))))else(some (Sum.inr (Sum.inr ())))) F ((0:Int))).bind fun(v10:Int ⊕ Unit)=>Sum.elim (fun(v11:Int)=>some (v11)) (fun(v12:Unit)=>some ((-1:Int))) (v10)
def Ztu(F:Nat):PX:={np:=2,locs:=[.cap (.arg 1) 0],τ:=Znl,nr:=1,ω:=Znm,ids:=[],mv:=[],code:=Qrl F}
theorem Qxf(F:Nat):Zf cx 184 (Ztu F):=Yh (Zv5 F) (.two .leaf (.two (.two .leaf (.one (.loop ⟨[.slot 8 (.val (.int .i64))],[]⟩ [(.ret,⟨[.slot 4 (.val (.int .i64))],[]⟩),(.exit 0,⟨[],[]⟩)] ⟨[18,8,11,12,13,14,15,16,4,17,5,10,9],[],[]⟩ F .leaf))) .leaf)) f184 (by kernel_rfl) fun a=>by kernel_rfl
def Yhm(F:Nat):LK:=lX (Zhr F) (lX (Qxf F) lN)
def Jh(F:Nat)(a:(Qh)×ByteArray):Option (Int):=
 (Qrl F (a.1.2.1,a.2)).bind fun(v5:Int)=>some (v5)
def Ze2(F:Nat):PC:={ats:=Qfm,rts:=Zg,code:=Jh F}
theorem Y1(F:Nat):Qg cx 110 (Ze2 F):=qE (Yhm F) .leaf f110 (by kernel_rfl) fun a=>by kernel_rfl
def Ykg:Ql:=⟨[.slot 0 (.agg Yt),.one 0 9 Z2,.one 1 9 Z2],[(1,.stat (.ptr 0 1 0 0)),(2,.stat (.ptr 1 1 0 0))]⟩
def Zrl:Ql:=⟨[.slot 0 (.val (.bool))],[]⟩
def Ymb(F:Nat):LK:=lN
def Qmt(F:Nat)(a:(Qw)×ByteArray×ByteArray):Option (Bool):=
 (bif Qc a.1.1 a.2.1 then(some (Qc a.1.2.1 a.2.2))else(some (false))).bind fun(v5:Bool)=>some (v5)
def Yjx(F:Nat):PX:={np:=3,locs:=[.arg 1,.arg 2],τ:=Ykg,nr:=1,ω:=Zrl,ids:=[],mv:=[],code:=Qmt F}
theorem Zen(F:Nat):Zf cx 226 (Yjx F):=Yh (Ymb F) (.two .leaf (.two (.join [(.normal,⟨[.slot 4 (.val (.bool))],[]⟩)] ⟨(4::Qn 14 10 []),[],[]⟩ .leaf) .leaf)) f226 (by kernel_rfl) fun a=>by kernel_rfl
def Zrq:Ql:=⟨[.slot 0 (.val (.seq Yt)),.one 0 9 Z2,.one 1 9 Z2],[(1,.stat (.fn (.func 226) [] [.ptr 0 1 0 0,.ptr 1 1 0 0]))]⟩
def Yiw:Ql:=⟨[.slot 0 (.val (.int .i64))],[]⟩
def Yax(F:Nat):LK:=lX (Zen F) lN
def Qp2(F:Nat)(a:List (Qw)×ByteArray×ByteArray):Option (Int):=
 (Q4 (σ:=Int) (β:=Int ⊕ Unit) (fun(v15:Int)=>bif decide (v15<(↑(a.1.length):Int))then(gd (decide (0≤v15)) (gd (decide (v15<(↑(a.1.length):Int))) (gd (decide (v15.toNat<a.1.length)) ((Qmt F ((a.1.getD (v15.toNat) (ByteArray.empty,ByteArray.empty,Qa ByteArray)),a.2.1,a.2.2)).bind fun(v16:Bool)=>bif v16 then(some (Sum.inr (Sum.inl v15)))else(some (Sum.inl (w64 (v15+1))))))))else(some (Sum.inr (Sum.inr ())))) F ((0:Int))).bind fun(v12:Int ⊕ Unit)=>Sum.elim (fun(v13:Int)=>some (v13)) (fun(v14:Unit)=>some ((-1:Int))) (v12)
def Ym9(F:Nat):PX:={np:=2,locs:=[.cap (.arg 1) 0,.cap (.arg 1) 1],τ:=Zrq,nr:=1,ω:=Yiw,ids:=[],mv:=[],code:=Qp2 F}
theorem Qv7(F:Nat):Zf cx 225 (Ym9 F):=Yh (Yax F) (.two .leaf (.two (.two .leaf (.one (.loop ⟨[.slot 8 (.val (.int .i64))],[]⟩ [(.ret,⟨[.slot 4 (.val (.int .i64))],[]⟩),(.exit 0,⟨[],[]⟩)] ⟨[18,8,11,12,13,14,15,16,4,17,5,10,9],[],[]⟩ F .leaf))) .leaf)) f225 (by kernel_rfl) fun a=>by kernel_rfl
def Zkk(F:Nat):LK:=lX (Zen F) (lX (Qv7 F) lN)
def Qh1(F:Nat)(a:(Qh)×ByteArray×ByteArray):Option (Int):=
 (Qp2 F (a.1.2.2.2.2,a.2.1,a.2.2)).bind fun(v5:Int)=>some (v5)
def Qv5(F:Nat):PC:={ats:=Qjg,rts:=Zg,code:=Qh1 F}
theorem W9(F:Nat):Qg cx 187 (Qv5 F):=qE (Zkk F) .leaf f187 (by kernel_rfl) fun a=>by kernel_rfl
def Zpb(F:Nat):LK:=lC (J7 F) lN
def Kb(F:Nat)(a:(Qh)×ByteArray):Option (Bool):=
 (Vs F (a.1.1,a.2)).bind fun(v5:Bool)=>some (v5)
def Zhw(F:Nat):PC:={ats:=Qfm,rts:=Y8,code:=Kb F}
theorem Vq(F:Nat):Qg cx 111 (Zhw F):=qE (Zpb F) .leaf f111 (by kernel_rfl) fun a=>by kernel_rfl
end
end Go.Proofs.Tryz

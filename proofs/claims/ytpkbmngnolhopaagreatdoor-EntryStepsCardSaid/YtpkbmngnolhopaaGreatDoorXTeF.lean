/- Functions of the program as functions of data. By program. -/
import Derived.Test.YtpkbmngnolhopaaGreatDoorXTeCx
set_option maxRecDepth 100000
set_option linter.all false
open Sum renaming inr->j,inl->C,elim->J
open Go.Utf8 renaming decode->o
open Go.IntKind renaming i64->I
open UInt8 renaming toBitVec->R
open ByteArray renaming get!->ZA,empty->ZB,size->ZC
open BitVec renaming toFin->ZD
open List renaming length->ZE,getD->ZF,drop->ZG,take->ZH
namespace Go.Proofs.Tryz
open Go Go.Sx
noncomputable section
def Yg5(F:Nat):LK:=lN
def c98(F:Nat)(a:ByteArray):Option (Bool):=
 (Q4 (U:=ByteArray×Nat) (β:=(ByteArray×Nat)×Bool ⊕ ByteArray×Nat) (fun v23=>bif decide (v23.2<ZC v23.1)then(bif decide (97<=(↑(o v23.1 v23.2).1:Int))then(bif decide ((↑(o v23.1 v23.2).1:Int)<=(122:Int))then(some (C (v23.1,v23.2+(o v23.1 v23.2).2)))else(bif decide (65<=(↑(o v23.1 v23.2).1:Int))then(bif !decide ((↑(o v23.1 v23.2).1:Int)<=(90:Int))then(bif decide ((↑v23.2:Int)=(0:Int))then(some (j (C ((v23.1,v23.2+(o v23.1 v23.2).2),false))))else(bif !decide ((↑(o v23.1 v23.2).1:Int)=(95:Int))then(bif decide ((↑(o v23.1 v23.2).1:Int)<(48:Int))then(some (j (C ((v23.1,v23.2+(o v23.1 v23.2).2),false))))else(bif decide (57<(↑(o v23.1 v23.2).1:Int))then(some (j (C ((v23.1,v23.2+(o v23.1 v23.2).2),false))))else(some (C (v23.1,v23.2+(o v23.1 v23.2).2)))))else(some (C (v23.1,v23.2+(o v23.1 v23.2).2)))))else(some (C (v23.1,v23.2+(o v23.1 v23.2).2))))else(bif decide ((↑v23.2:Int)=(0:Int))then(some (j (C ((v23.1,v23.2+(o v23.1 v23.2).2),false))))else(bif !decide ((↑(o v23.1 v23.2).1:Int)=(95:Int))then(bif decide ((↑(o v23.1 v23.2).1:Int)<(48:Int))then(some (j (C ((v23.1,v23.2+(o v23.1 v23.2).2),false))))else(bif decide (57<(↑(o v23.1 v23.2).1:Int))then(some (j (C ((v23.1,v23.2+(o v23.1 v23.2).2),false))))else(some (C (v23.1,v23.2+(o v23.1 v23.2).2)))))else(some (C (v23.1,v23.2+(o v23.1 v23.2).2)))))))else(bif decide (65<=(↑(o v23.1 v23.2).1:Int))then(bif !decide ((↑(o v23.1 v23.2).1:Int)<=(90:Int))then(bif decide ((↑v23.2:Int)=(0:Int))then(some (j (C ((v23.1,v23.2+(o v23.1 v23.2).2),false))))else(bif !decide ((↑(o v23.1 v23.2).1:Int)=(95:Int))then(bif decide ((↑(o v23.1 v23.2).1:Int)<(48:Int))then(some (j (C ((v23.1,v23.2+(o v23.1 v23.2).2),false))))else(bif decide (57<(↑(o v23.1 v23.2).1:Int))then(some (j (C ((v23.1,v23.2+(o v23.1 v23.2).2),false))))else(some (C (v23.1,v23.2+(o v23.1 v23.2).2)))))else(some (C (v23.1,v23.2+(o v23.1 v23.2).2)))))else(some (C (v23.1,v23.2+(o v23.1 v23.2).2))))else(bif decide ((↑v23.2:Int)=(0:Int))then(some (j (C ((v23.1,v23.2+(o v23.1 v23.2).2),false))))else(bif !decide ((↑(o v23.1 v23.2).1:Int)=(95:Int))then(bif decide ((↑(o v23.1 v23.2).1:Int)<(48:Int))then(some (j (C ((v23.1,v23.2+(o v23.1 v23.2).2),false))))else(bif decide (57<(↑(o v23.1 v23.2).1:Int))then(some (j (C ((v23.1,v23.2+(o v23.1 v23.2).2),false))))else(some (C (v23.1,v23.2+(o v23.1 v23.2).2)))))else(some (C (v23.1,v23.2+(o v23.1 v23.2).2)))))))else(some (j (j v23)))) F ((a,(0:Nat)))).bind fun v19=>J (fun v20=>some v20.2) (fun v21=>(bif decide (0<(↑(ZC a):Int))then(some (decide ((↑(ZC a):Int)<=(24:Int))))else(some (false))).bind fun v22=>some (v22)) (v19)
def Qpl(F:Nat):PC:={ats:=Qab,rts:=Xi,code:=c98 F}
theorem Ks(F:Nat):Qg cx 98 (Qpl F):=qE (Yg5 F) (.two .leaf (.two (.two .leaf (.one (.loop ⟨[.iter 0],[]⟩ [(.ret,⟨[.iter 0,.slot 2 (.val (.bool))],[]⟩),(.exit 0,⟨[.iter 0],[]⟩)] ⟨(kU 12 14 (5::2::kD 43 18 (4::3::11::10::9::8::[]))),[0],[]⟩ F .leaf))) (.two (.join [(.normal,⟨[.slot 2 (.val (.bool))],[]⟩)] ⟨(2::kD 51 8 []),[],[]⟩ .leaf) .leaf))) f98 (by kernel_rfl) fun a=>by kernel_rfl
def Ygc(F:Nat):LK:=lN
def Qn(F:Nat)(a:Bool×Int):Option (Int):=
 bif a.1 then(some a.2)else(some ((0:Int)))
def Zcv(F:Nat):PC:={ats:=Zai,rts:=Zj,code:=Qn F}
theorem Yd(F:Nat):Qg cx 86 (Zcv F):=qE (Ygc F) .leaf f86 (by kernel_rfl) fun a=>by kernel_rfl
def Znn(F:Nat):LK:=lC (Yd F) (lC (Ks F) lN)
def c92(F:Nat)(a:ByteArray):Option (Int):=
 (c98 F a).bind fun v7=>(Qn F (!v7,(8:Int))).bind fun v8=>some (v8)
def Zm6(F:Nat):PC:={ats:=Qab,rts:=Zj,code:=c92 F}
theorem Kq(F:Nat):Qg cx 92 (Zm6 F):=qE (Znn F) .leaf f92 (by kernel_rfl) fun a=>by kernel_rfl
def Yrg(F:Nat):LK:=lN
def Qrz(F:Nat)(a:Int):Option (Bool):=
 (bif decide (a<0)then(some (true))else(some (decide (99999<a)))).bind fun v5=>some (v5)
def Ylq(F:Nat):PC:={ats:=Zj,rts:=Xi,code:=Qrz F}
theorem Qvz(F:Nat):Qg cx 153 (Ylq F):=qE (Yrg F) (.two .leaf (.two (.join [(.normal,⟨[.slot 2 (.val (.bool))],[]⟩)] ⟨(2::kD 8 6 []),[],[]⟩ .leaf) .leaf)) f153 (by kernel_rfl) fun a=>by kernel_rfl
def Ybu:Qm:=⟨[.slot 0 (.val (.seq kt6))],[(1,.stat (.pv (.lit (.func (.func 153) #[] #[]))))]⟩
def Ya2:Qm:=⟨[.slot 0 (.val (.int .i64))],[]⟩
def Ydd(F:Nat):LK:=lC (Qvz F) lN
def Qpj(F:Nat)(a:List Int):Option (Int):=
 (Q4 (U:=Int) (β:=Int ⊕ Unit) (fun v15=>bif decide (v15<(↑(a.length):Int))then(gd (decide (0<=v15)) (gd (decide (v15<(↑(a.length):Int))) (gd (decide (v15.toNat<a.length)) ((Qrz F (a.getD (v15.toNat) (0:Int))).bind fun v16=>bif v16 then(some (j (C v15)))else(some (C (w64 (v15+1))))))))else(some (j (j ())))) F ((0:Int))).bind fun v12=>J (fun v13=>some (v13)) (fun v14=>some ((-1:Int))) (v12)
def Zzj(F:Nat):PX:={np:=2,locs:=[],O:=Ybu,nr:=1,ω:=Ya2,ids:=[],mv:=[],code:=Qpj F}
theorem Zj2(F:Nat):Zi cx 209 (Zzj F):=Yn (Ydd F) (.two .leaf (.two (.two .leaf (.one (.loop ⟨[.slot 8 (.val (.int .i64))],[]⟩ [(.ret,⟨[.slot 4 (.val (.int .i64))],[]⟩),(.exit 0,⟨[],[]⟩)] ⟨[18,8,11,12,13,14,15,16,4,17,5,10,9],[],[]⟩ F .leaf))) .leaf)) f209 (by kernel_rfl) fun a=>by kernel_rfl
def Zv9:Qm:=⟨[.slot 0 (.val (.seq kt6))],[(1,.stat (.pv (.lit (.func (.func 153) #[] #[]))))]⟩
def Zs2:Qm:=⟨[.slot 0 (.val (.bool))],[]⟩
def Yi9(F:Nat):LK:=lC (Qvz F) (lX (Zj2 F) lN)
def Qxk(F:Nat)(a:List Int):Option (Bool):=
 (Qpj F a).bind fun v5=>some (decide (0<=v5))
def Yl8(F:Nat):PX:={np:=2,locs:=[],O:=Zv9,nr:=1,ω:=Zs2,ids:=[],mv:=[],code:=Qxk F}
theorem Ynq(F:Nat):Zi cx 152 (Yl8 F):=Yn (Yi9 F) .leaf f152 (by kernel_rfl) fun a=>by kernel_rfl
def Ybf(F:Nat):LK:=lC (Yd F) (lC (Qvz F) (lX (Zj2 F) (lX (Ynq F) lN)))
def Ye(F:Nat)(a:List Int):Option (Int):=
 (Qxk F a).bind fun v7=>(Qn F (v7,(3:Int))).bind fun v8=>some (v8)
def Zy8(F:Nat):PC:={ats:=[.val (.seq kt6)],rts:=Zj,code:=Ye F}
theorem Va(F:Nat):Qg cx 85 (Zy8 F):=qE (Ybf F) .leaf f85 (by kernel_rfl) fun a=>by kernel_rfl
def Ym2(F:Nat):LK:=lN
def Q2(F:Nat)(a:List Int):Option (Int):=
 (Q4 (U:=Int) (β:=Int ⊕ Unit) (fun v13=>bif decide (v13<(↑(a.length):Int))then(gd (decide (0<=v13)) (gd (decide (v13<(↑(a.length):Int))) (gd (decide (v13.toNat<a.length)) (bif !decide (a.getD (v13.toNat) (0:Int)=(0:Int))then(some (j (C (a.getD (v13.toNat) (0:Int)))))else(some (C (w64 (v13+1))))))))else(some (j (j ())))) F ((0:Int))).bind fun v10=>J (fun v11=>some (v11)) (fun v12=>some ((0:Int))) (v10)
def Zji(F:Nat):PC:={ats:=[.val (.seq kt6)],rts:=Zj,code:=Q2 F}
theorem Ym(F:Nat):Qg cx 84 (Zji F):=qE (Ym2 F) (.two .leaf (.two (.two .leaf (.one (.loop ⟨[.slot 7 (.val (.int .i64))],[]⟩ [(.ret,⟨[.slot 2 (.val (.int .i64))],[]⟩),(.exit 0,⟨[],[]⟩)] ⟨[14,7,11,12,2,13,4,10,9,8],[],[]⟩ F .leaf))) .leaf)) f84 (by kernel_rfl) fun a=>by kernel_rfl
def Yqh(F:Nat):LK:=lC (Ym F) (lC (Yd F) (lC (Va F) (lC (Kq F) lN)))
def c63(F:Nat)(a:(Qs)×Int):Option (Int×Int):=
 ((c92 F a.1.1).bind fun v132=>(tw (X:=Int×Int) (Qt.eqv (Qe.val (Ty.int I)::Qe.val (Ty.int I)::Qa Qe)) ((Ye F (a.1.2.2.1::Qa Int)).bind fun v145=>(Ye F (a.2::Qa Int)).bind fun v146=>(Qn F (decide (a.2<a.1.2.2.1),(11:Int))).bind fun v147=>(Q2 F (v132::v145::v146::v147::Qa Int)).bind fun v148=>bif !decide (v148=0)then(some (((0:Int),v148)))else(some ((w64 (Int.tdiv (w64 (a.2-a.1.2.2.1)) (365:Int)),(0:Int)))))).bind fun v133=>((Ye F (a.1.2.2.1::Qa Int)).bind fun v135=>(Ye F (a.2::Qa Int)).bind fun v136=>(Qn F (decide (a.2<a.1.2.2.1),(11:Int))).bind fun v137=>(Q2 F (v132::v135::v136::v137::Qa Int)).bind fun v138=>bif !decide (v138=0)then(some (((0:Int),v138)))else(some ((w64 (Int.tdiv (w64 (a.2-a.1.2.2.1)) (365:Int)),(0:Int))))).bind fun v134=>gd (Qt.eqv (Qe.val (Ty.int I)::Qe.val (Ty.int I)::Qa Qe) v133 v134) (some (v133))).bind fun v98=>((((c92 F a.1.1).bind fun v121=>tw (X:=Int×Int) (Qt.eqv (Qe.val (Ty.int I)::Qe.val (Ty.int I)::Qa Qe)) ((Ye F (a.1.2.2.1::Qa Int)).bind fun v128=>(Ye F (a.2::Qa Int)).bind fun v129=>(Qn F (decide (a.2<a.1.2.2.1),(11:Int))).bind fun v130=>(Q2 F (v121::v128::v129::v130::Qa Int)).bind fun v131=>bif !decide (v131=0)then(some (((0:Int),v131)))else(some ((w64 (Int.tdiv (w64 (a.2-a.1.2.2.1)) (365:Int)),(0:Int)))))).bind fun v114=>((c92 F a.1.1).bind fun v116=>(Ye F (a.1.2.2.1::Qa Int)).bind fun v117=>(Ye F (a.2::Qa Int)).bind fun v118=>(Qn F (decide (a.2<a.1.2.2.1),(11:Int))).bind fun v119=>(Q2 F (v116::v117::v118::v119::Qa Int)).bind fun v120=>bif !decide (v120=0)then(some (((0:Int),v120)))else(some ((w64 (Int.tdiv (w64 (a.2-a.1.2.2.1)) (365:Int)),(0:Int))))).bind fun v115=>gd (Qt.eqv (Qe.val (Ty.int I)::Qe.val (Ty.int I)::Qa Qe) v114 v115) (some (v114))).bind fun v100=>(tw (X:=Int×Int) (Qt.eqv (Qe.val (Ty.int I)::Qe.val (Ty.int I)::Qa Qe)) ((c92 F a.1.1).bind fun v109=>(Ye F (a.1.2.2.1::Qa Int)).bind fun v110=>(Ye F (a.2::Qa Int)).bind fun v111=>(Qn F (decide (a.2<a.1.2.2.1),(11:Int))).bind fun v112=>(Q2 F (v109::v110::v111::v112::Qa Int)).bind fun v113=>bif !decide (v113=0)then(some (((0:Int),v113)))else(some ((w64 (Int.tdiv (w64 (a.2-a.1.2.2.1)) (365:Int)),(0:Int)))))).bind fun v101=>gd (Qt.eqv (Qe.val (Ty.int I)::Qe.val (Ty.int I)::Qa Qe) v100 v101) (some (v100))).bind fun v99=>gd (Qt.eqv (Qe.val (Ty.int I)::Qe.val (Ty.int I)::Qa Qe) v98 v99) (some (v98))
def Zdf(F:Nat):PC:={ats:=[.agg kt3,.val (.int .i64)],rts:=Qn9,code:=c63 F}
theorem Zq0(F:Nat):Qg cx 63 (Zdf F):=qE (Yqh F) .leaf f63 (by kernel_rfl) fun a=>by kernel_rfl
def Yf0(F:Nat):LK:=lN
def Vl(F:Nat)(a:List (Qw)×ByteArray×Int):Option (Bool):=
 (Q4 (U:=Bool×Int) (β:=Bool) (fun v10=>bif decide (v10.2<(↑(a.1.length):Int))then(gd (decide (0<=v10.2)) (gd (decide (v10.2<(↑(a.1.length):Int))) (gd (decide (v10.2.toNat<a.1.length)) ((bif !Qc (a.1.getD (v10.2.toNat) YP).1 a.2.1 then(some (true))else(bif decide (a.2.2<(a.1.getD (v10.2.toNat) YP).2.1)then(some (true))else(some (decide ((a.1.getD (v10.2.toNat) YP).2.2<a.2.2))))).bind fun v11=>bif v11 then(some (C (v10.1,w64 (v10.2+1))))else(some (j true))))))else(some (j v10.1))) F ((false,(0:Int)))).bind fun v9=>some (v9)
def Ydp(F:Nat):PC:={ats:=Zge,rts:=Xi,code:=Vl F}
theorem Yqo(F:Nat):Qg cx 147 (Ydp F):=qE (Yf0 F) (.two .leaf (.one (Q5 2 (.two (.two .leaf (.one (.loop ⟨[.slot 7 (.val (.bool)),.slot 12 (.val (.int .i64))],[]⟩ [(.exit 0,⟨[.slot 7 (.val (.bool))],[]⟩)] ⟨(32::12::kU 16 16 (7::9::15::14::13::[])),[],[]⟩ F (Q5 2 (.two (.one (.two .leaf (.two (.two (.join [(.normal,⟨[.slot 31 (.val (.bool))],[]⟩)] ⟨(kD 31 16 []),[],[]⟩ .leaf) .leaf) .leaf))) .leaf))))) .leaf)))) f147 (by kernel_rfl) fun a=>by kernel_rfl
def Zw4(F:Nat):LK:=lC (Ym F) (lC (Yd F) (lC (Va F) lN))
def Qke(F:Nat)(a:Qw):Option (Int):=
 (Ye F (a.2.1::a.2.2::Qa Int)).bind fun v9=>(Qn F (decide (a.2.2<a.2.1),(11:Int))).bind fun v10=>(Q2 F (v9::v10::Qa Int)).bind fun v11=>some (v11)
def Ybv(F:Nat):PC:={ats:=[.agg kt2],rts:=Zj,code:=Qke F}
theorem Qj6(F:Nat):Qg cx 114 (Ybv F):=qE (Zw4 F) .leaf f114 (by kernel_rfl) fun a=>by kernel_rfl
def Zz5(F:Nat):LK:=lC (Ym F) (lC (Qj6 F) (lC (Kq F) lN))
def Zsv(F:Nat):PC:=qT (Zz5 F) .leaf f146 [.val (.int .i64),.agg kt2] Zj
theorem Yhw(F:Nat):Qg cx 146 (Zsv F):=Qt9 (by kernel_rfl)
def Yoh:Qm:=⟨[.slot 0 (.val (.seq kt2))],[(1,.stat (.pv (.lit (.func (.func 146) #[] #[]))))]⟩
def Yf8:Qm:=⟨[.slot 0 (.val (.int .i64))],[]⟩
def Zx9(F:Nat):LK:=lC (Ym F) (lC (Qj6 F) (lC (Kq F) (lC (Yhw F) lN)))
def Zy1(F:Nat):PX:=qX (Zx9 F) (.two .leaf (.two (.two .leaf (.one (.loop ⟨[.slot 10 (.val (.int .i64))],[]⟩ [(.ret,⟨[.slot 4 (.val (.int .i64))],[]⟩),(.exit 0,⟨[],[]⟩)] ⟨[22,10,15,16,17,18,7,21,4,20,19,5,6,14,13,12,11],[],[]⟩ F .leaf))) .leaf)) f112 (pxB 2 [] Yoh 1 Yf8 [] [])
theorem Yjc(F:Nat):Zi cx 112 (Zy1 F):=Vr (by kernel_rfl)
def Yaw(F:Nat):LK:=lN
def c67(F:Nat)(a:ByteArray):Option (Bool):=
 (bif decide ((↑(ZC a):Int)<(1:Int))then(some (true))else(some (decide (24<(↑(ZC a):Int))))).bind fun v16=>bif v16 then(some (false))else((Q4 (U:=Int) (β:=Bool ⊕ Unit) (fun v20=>bif decide (v20<(↑(ZC a):Int))then(gd (decide (0<=v20)) (gd (decide (v20.toNat<ZC a)) ((bif decide (97<=(↑(ZD (R (ZA a (v20.toNat)))).1:Int))then(bif decide ((↑(ZD (R (ZA a (v20.toNat)))).1:Int)<=(122:Int))then(some (true))else(bif decide (65<=(↑(ZD (R (ZA a (v20.toNat)))).1:Int))then(some (decide ((↑(ZD (R (ZA a (v20.toNat)))).1:Int)<=(90:Int))))else(some (false))))else(bif decide (65<=(↑(ZD (R (ZA a (v20.toNat)))).1:Int))then(some (decide ((↑(ZD (R (ZA a (v20.toNat)))).1:Int)<=(90:Int))))else(some (false)))).bind fun v21=>(bif !v21 then(bif decide (v20=0)then(some (true))else(bif decide (48<=(↑(ZD (R (ZA a (v20.toNat)))).1:Int))then(bif decide ((↑(ZD (R (ZA a (v20.toNat)))).1:Int)<=(57:Int))then(some (!true))else(some (!decide ((↑(ZD (R (ZA a (v20.toNat)))).1:Int)=(95:Int)))))else(some (!decide ((↑(ZD (R (ZA a (v20.toNat)))).1:Int)=(95:Int))))))else(some (false))).bind fun v22=>bif v22 then(some (j (C false)))else(some (C (w64 (v20+1)))))))else(some (j (j ())))) F ((0:Int))).bind fun v17=>J (fun v18=>some (v18)) (fun v19=>some (true)) (v17))
def Zvg(F:Nat):PC:={ats:=Qab,rts:=Xi,code:=c67 F}
theorem Qma(F:Nat):Qg cx 67 (Zvg F):=qE (Yaw F) (.two .leaf (.two (.two (.join [(.normal,⟨[.slot 13 (.val (.bool))],[]⟩)] ⟨(kD 13 8 []),[],[]⟩ .leaf) .leaf) (.two (.two .leaf (.one (.loop ⟨[.slot 3 (.val (.int .i64))],[]⟩ [(.ret,⟨[.slot 2 (.val (.bool))],[]⟩),(.exit 0,⟨[],[]⟩)] ⟨(20::21::22::4::kU 37 19 (2::5::kD 36 14 (3::kD 19 6 []))),[],[]⟩ F (.two .leaf (.two (.one (.two .leaf (.two (.join [(.normal,⟨[.slot 5 (.val (.bool))],[]⟩)] ⟨(5::kD 36 14 []),[],[]⟩ .leaf) (.two (.join [(.normal,⟨[.slot 55 (.val (.bool))],[]⟩)] ⟨(kD 55 19 []),[],[]⟩ .leaf) .leaf)))) .leaf))))) .leaf))) f67 (by kernel_rfl) fun a=>by kernel_rfl
def Zxe(F:Nat):LK:=lN
def c94(F:Nat)(a:Int×Int):Option (Bool):=
 (bif decide (a.1<0)then(some (true))else(some (decide (a.2<a.1)))).bind fun v5=>some (v5)
def Zv4(F:Nat):PC:={ats:=Qn9,rts:=Xi,code:=c94 F}
theorem Qjf(F:Nat):Qg cx 94 (Zv4 F):=qE (Zxe F) (.two .leaf (.two (.join [(.normal,⟨[.slot 4 (.val (.bool))],[]⟩)] ⟨(4::kD 11 7 []),[],[]⟩ .leaf) .leaf)) f94 (by kernel_rfl) fun a=>by kernel_rfl
def Yeh(F:Nat):LK:=lN
def c68(F:Nat)(a:List (Qw)×ByteArray×Int):Option (Bool):=
 (Q4 (U:=Int) (β:=Bool ⊕ Unit) (fun v15=>bif decide (v15<(↑(a.1.length):Int))then((gd (decide (0<=v15)) (gd (decide (v15<(↑(a.1.length):Int))) (gd (decide (v15.toNat<a.1.length)) (bif Qc (a.1.getD (v15.toNat) YP).1 a.2.1 then(gd (decide (0<=v15)) (gd (decide (v15<(↑(a.1.length):Int))) (gd (decide (v15.toNat<a.1.length)) (bif decide ((a.1.getD (v15.toNat) YP).2.1<=a.2.2)then(gd (decide (0<=v15)) (gd (decide (v15<(↑(a.1.length):Int))) (gd (decide (v15.toNat<a.1.length)) (some (decide (a.2.2<=(a.1.getD (v15.toNat) YP).2.2))))))else(some (false))))))else(some (false)))))).bind fun v16=>bif v16 then(some (j (C true)))else(some (C (w64 (v15+1)))))else(some (j (j ())))) F ((0:Int))).bind fun v12=>J (fun v13=>some (v13)) (fun v14=>some (false)) (v12)
def Zsz(F:Nat):PC:={ats:=Zge,rts:=Xi,code:=c68 F}
theorem Yfi(F:Nat):Qg cx 68 (Zsz F):=qE (Yeh F) (.two .leaf (.two (.two .leaf (.one (.loop ⟨[.slot 7 (.val (.int .i64))],[]⟩ [(.ret,⟨[.slot 6 (.val (.bool))],[]⟩),(.exit 0,⟨[],[]⟩)] ⟨(kU 14 25 (6::7::kD 13 6 [])),[],[]⟩ F (.two .leaf (.two (.one (.two (.join [(.normal,⟨[.slot 38 (.val (.bool))],[]⟩)] ⟨(kD 38 25 []),[],[]⟩ .leaf) .leaf)) .leaf))))) .leaf)) f68 (by kernel_rfl) fun a=>by kernel_rfl
def c30(F:Nat)(a:List Int):Option (Int):=
 (Q4 (U:=Int) (β:=Int ⊕ Unit) (fun v13=>bif decide (v13<(↑(a.length):Int))then(gd (decide (0<=v13)) (gd (decide (v13<(↑(a.length):Int))) (gd (decide (v13.toNat<a.length)) (bif !decide (a.getD (v13.toNat) (0:Int)=(0:Int))then(some (j (C (a.getD (v13.toNat) (0:Int)))))else(some (C (w64 (v13+1))))))))else(some (j (j ())))) F ((0:Int))).bind fun v10=>J (fun v11=>some (v11)) (fun v12=>some ((0:Int))) (v10)
def Yae(F:Nat):LK:=lN
def c44(F:Nat)(a:List ByteArray×List ByteArray):Option (Bool):=
 bif !decide ((↑(a.1.length):Int)=(↑(a.2.length):Int))then(some (false))else((Q4 (U:=Int) (β:=Bool ⊕ Unit) (fun v13=>bif decide (v13<(↑(a.1.length):Int))then(gd (decide (0<=v13)) (gd (decide (v13<(↑(a.1.length):Int))) (gd (decide (v13.toNat<a.1.length)) (gd (decide (0<=v13)) (gd (decide (v13<(↑(a.2.length):Int))) (gd (decide (v13.toNat<a.2.length)) (bif !Qc (a.1.getD (v13.toNat) ZB) (a.2.getD (v13.toNat) ZB)then(some (j (C false)))else(some (C (w64 (v13+1)))))))))))else(some (j (j ())))) F ((0:Int))).bind fun v10=>J (fun v11=>some (v11)) (fun v12=>some (true)) (v10))
def Zk0(F:Nat):PC:={ats:=[.val (.seq Z9),.val (.seq Z9)],rts:=Xi,code:=c44 F}
theorem Qzo(F:Nat):Qg cx 44 (Zk0 F):=qE (Yae F) (Q5 2 (.two (.two .leaf (.one (.loop ⟨[.slot 5 (.val (.int .i64))],[]⟩ [(.ret,⟨[.slot 4 (.val (.bool))],[]⟩),(.exit 0,⟨[],[]⟩)] ⟨(kU 17 9 (4::5::kD 16 6 [])),[],[]⟩ F .leaf))) .leaf)) f44 (by kernel_rfl) fun a=>by kernel_rfl
def Zxf(F:Nat):LK:=lN
def c45(F:Nat)(a:List Int×List Int):Option (Bool):=
 bif !decide ((↑(a.1.length):Int)=(↑(a.2.length):Int))then(some (false))else((Q4 (U:=Int) (β:=Bool ⊕ Unit) (fun v13=>bif decide (v13<(↑(a.1.length):Int))then(gd (decide (0<=v13)) (gd (decide (v13<(↑(a.1.length):Int))) (gd (decide (v13.toNat<a.1.length)) (gd (decide (0<=v13)) (gd (decide (v13<(↑(a.2.length):Int))) (gd (decide (v13.toNat<a.2.length)) (bif !decide (a.1.getD (v13.toNat) (0:Int)=a.2.getD (v13.toNat) (0:Int))then(some (j (C false)))else(some (C (w64 (v13+1)))))))))))else(some (j (j ())))) F ((0:Int))).bind fun v10=>J (fun v11=>some (v11)) (fun v12=>some (true)) (v10))
def Zhq(F:Nat):PC:={ats:=[.val (.seq kt6),.val (.seq kt6)],rts:=Xi,code:=c45 F}
theorem Ybr(F:Nat):Qg cx 45 (Zhq F):=qE (Zxf F) (Q5 2 (.two (.two .leaf (.one (.loop ⟨[.slot 5 (.val (.int .i64))],[]⟩ [(.ret,⟨[.slot 4 (.val (.bool))],[]⟩),(.exit 0,⟨[],[]⟩)] ⟨(kU 17 9 (4::5::kD 16 6 [])),[],[]⟩ F .leaf))) .leaf)) f45 (by kernel_rfl) fun a=>by kernel_rfl
def Yh2(F:Nat):LK:=lN
def c47(F:Nat)(a:(Zc)×ByteArray):Option (Int):=
 (Q4 (U:=Int) (β:=Int ⊕ Unit) (fun v13=>bif decide (v13<(↑(a.1.2.2.2.2.length):Int))then(gd (decide (0<=v13)) (gd (decide (v13<(↑(a.1.2.2.2.2.length):Int))) (gd (decide (v13.toNat<a.1.2.2.2.2.length)) (bif Qc (a.1.2.2.2.2.getD (v13.toNat) Zd).1 a.2 then(some (j (C v13)))else(some (C (w64 (v13+1))))))))else(some (j (j ())))) F ((0:Int))).bind fun v10=>J (fun v11=>some (v11)) (fun v12=>some ((-1:Int))) (v10)
def Yf3(F:Nat):PC:={ats:=[.agg Xj,.val (.str)],rts:=Zj,code:=c47 F}
theorem Qi9(F:Nat):Qg cx 47 (Yf3 F):=qE (Yh2 F) (.two .leaf (.two (.two .leaf (.one (.loop ⟨[.slot 5 (.val (.int .i64))],[]⟩ [(.ret,⟨[.slot 4 (.val (.int .i64))],[]⟩),(.exit 0,⟨[],[]⟩)] ⟨(kU 13 8 (4::21::5::kD 12 7 [])),[],[]⟩ F .leaf))) .leaf)) f47 (by kernel_rfl) fun a=>by kernel_rfl
def Yiv(F:Nat):LK:=lN
def Qsw(F:Nat)(a:ByteArray):Option (Bool):=
 (bif Qc a YR then(some (true))else(bif Qc a YS then(some (true))else(bif Qc a YT then(some (true))else(some (Qc a YQ))))).bind fun v5=>some (v5)
def Yqv(F:Nat):PC:={ats:=Qab,rts:=Xi,code:=Qsw F}
theorem Zpw(F:Nat):Qg cx 210 (Yqv F):=qE (Yiv F) (.two .leaf (.two (.join [(.normal,⟨[.slot 2 (.val (.bool))],[]⟩)] ⟨(2::kD 16 14 []),[],[]⟩ .leaf) .leaf)) f210 (by kernel_rfl) fun a=>by kernel_rfl
def Yn1(F:Nat):LK:=lN
def Qx7(F:Nat)(a:ByteArray):Option (Int):=
 bif Qc a YL then(some ((863999999:Int)))else(bif Qc a YM then(some ((999999:Int)))else(some ((99999:Int))))
def Zzu(F:Nat):PC:={ats:=Qab,rts:=Zj,code:=Qx7 F}
theorem Ynj(F:Nat):Qg cx 212 (Zzu F):=qE (Yn1 F) .leaf f212 (by kernel_rfl) fun a=>by kernel_rfl
def Ypr(F:Nat):LK:=lN
def Qvy(F:Nat)(a:ByteArray):Option (Int):=
 bif Qc a YL then(some ((1:Int)))else(some ((0:Int)))
def Ygp(F:Nat):PC:={ats:=Qab,rts:=Zj,code:=Qvy F}
theorem Zql(F:Nat):Qg cx 211 (Ygp F):=qE (Ypr F) .leaf f211 (by kernel_rfl) fun a=>by kernel_rfl
def Ztc(F:Nat):LK:=lC (Zql F) (lC (Ynj F) (lC (Zpw F) lN))
def Qh2(F:Nat)(a:ByteArray×Int×ByteArray):Option (Int):=
 bif Qc a.1 YN then((Qsw F a.2.2).bind fun v18=>bif !v18 then(some ((1:Int)))else(bif !decide (a.2.1=0)then(some ((3:Int)))else(some ((0:Int)))))else((bif Qc a.1 YL then(some (Qc a.1 YL))else((bif Qc a.1 YM then(some (Qc a.1 YM))else(some (Qc a.1 YO))).bind fun v23=>some (v23))).bind fun v19=>bif v19 then(bif !Qc a.2.2 YD then(some ((1:Int)))else(((Qvy F a.1).bind fun v21=>bif decide (a.2.1<v21)then(some (true))else((Qx7 F a.1).bind fun v22=>some (decide (v22<a.2.1)))).bind fun v20=>bif v20 then(some ((3:Int)))else(some ((0:Int)))))else(some ((13:Int))))
def Yek(F:Nat):PC:={ats:=[.agg kt7],rts:=Zj,code:=Qh2 F}
theorem Qu7(F:Nat):Qg cx 156 (Yek F):=qE (Ztc F) (.two .leaf (.two (.two .leaf (.one (Q5 2 (.two (.two .leaf (.join [(.normal,⟨[.slot 14 (.val (.bool))],[]⟩)] ⟨[16,14,17],[],[]⟩ (Q5 2 (.join [(.normal,⟨[.slot 14 (.val (.bool))],[]⟩)] ⟨[17,14],[],[]⟩ .leaf)))) (.two (.two .leaf (.two (.two (.join [(.normal,⟨[.slot 34 (.val (.bool))],[]⟩)] ⟨(kD 34 14 []),[],[]⟩ .leaf) .leaf) .leaf)) .leaf))))) .leaf)) f156 (by kernel_rfl) fun a=>by kernel_rfl
def Zuc(F:Nat):LK:=lN
def Qin(F:Nat)(a:(ByteArray×Int×ByteArray)×ByteArray):Option (Bool):=
 (bif Qc a.1.1 a.2 then(some (true))else(some (Qc a.1.1 YN))).bind fun v5=>some (v5)
def Yms(F:Nat):PC:={ats:=[.agg kt7,.val (.str)],rts:=Xi,code:=Qin F}
theorem Qyq(F:Nat):Qg cx 157 (Yms F):=qE (Zuc F) (.two .leaf (.two (.join [(.normal,⟨[.slot 4 (.val (.bool))],[]⟩)] ⟨(4::kD 13 9 []),[],[]⟩ .leaf) .leaf)) f157 (by kernel_rfl) fun a=>by kernel_rfl
def Zre(F:Nat):LK:=lC (Qma F) (lC (Qjf F) (lC (Qyq F) (lC (Qu7 F) (lC (Qi9 F) lN))))
def c95(F:Nat)(a:(Zc)×Int):Option (Int):=
 gd (decide (0<=a.2)) (gd (decide (a.2<(↑(a.1.2.2.2.2.length):Int))) (gd (decide (a.2.toNat<a.1.2.2.2.2.length)) ((c67 F (a.1.2.2.2.2.getD (a.2.toNat) Zd).1).bind fun v42=>bif !v42 then(some ((8:Int)))else((c47 F (a.1,(a.1.2.2.2.2.getD (a.2.toNat) Zd).1)).bind fun v43=>bif decide (v43<a.2)then(some ((9:Int)))else((bif !Qc (a.1.2.2.2.2.getD (a.2.toNat) Zd).2.1 YL then(bif !Qc (a.1.2.2.2.2.getD (a.2.toNat) Zd).2.1 YM then(some (!Qc (a.1.2.2.2.2.getD (a.2.toNat) Zd).2.1 YO))else(some (false)))else(some (false))).bind fun v44=>bif v44 then(some ((13:Int)))else((bif !Qc (a.1.2.2.2.2.getD (a.2.toNat) Zd).2.2.1 YD then((c67 F (a.1.2.2.2.2.getD (a.2.toNat) Zd).2.2.1).bind fun v57=>some (!v57))else(some (false))).bind fun v45=>bif v45 then(some ((8:Int)))else(((c94 F ((a.1.2.2.2.2.getD (a.2.toNat) Zd).2.2.2.1,(120:Int))).bind fun v55=>bif v55 then(some (true))else((c94 F ((a.1.2.2.2.2.getD (a.2.toNat) Zd).2.2.2.2.1,(120:Int))).bind fun v56=>some (v56))).bind fun v46=>bif v46 then(some ((3:Int)))else(bif decide ((a.1.2.2.2.2.getD (a.2.toNat) Zd).2.2.2.2.1<(a.1.2.2.2.2.getD (a.2.toNat) Zd).2.2.2.1)then(some ((11:Int)))else(((c94 F ((a.1.2.2.2.2.getD (a.2.toNat) Zd).2.2.2.2.2.1,(160:Int))).bind fun v52=>bif v52 then(some (true))else((c94 F ((a.1.2.2.2.2.getD (a.2.toNat) Zd).2.2.2.2.2.2.1,(160:Int))).bind fun v53=>bif v53 then(some (true))else((c94 F ((a.1.2.2.2.2.getD (a.2.toNat) Zd).2.2.2.2.2.2.2.2.2.2,(8:Int))).bind fun v54=>some (v54)))).bind fun v47=>bif v47 then(some ((3:Int)))else((Qh2 F ((a.1.2.2.2.2.getD (a.2.toNat) Zd).2.2.2.2.2.2.2.1,(a.1.2.2.2.2.getD (a.2.toNat) Zd).2.2.2.2.2.2.2.2.1,(a.1.2.2.2.2.getD (a.2.toNat) Zd).2.2.2.2.2.2.2.2.2.1)).bind fun v48=>(bif decide (v48=0)then((Qin F (((a.1.2.2.2.2.getD (a.2.toNat) Zd).2.2.2.2.2.2.2.1,(a.1.2.2.2.2.getD (a.2.toNat) Zd).2.2.2.2.2.2.2.2.1,(a.1.2.2.2.2.getD (a.2.toNat) Zd).2.2.2.2.2.2.2.2.2.1),(a.1.2.2.2.2.getD (a.2.toNat) Zd).2.1)).bind fun v51=>some (!v51))else(some (false))).bind fun v49=>(bif v49 then(some ((13:Int)))else(some (v48))).bind fun v50=>some (v50)))))))))))
def Zxt(F:Nat):PC:={ats:=[.agg Xj,.val (.int .i64)],rts:=Zj,code:=c95 F}
theorem Zvw(F:Nat):Qg cx 95 (Zxt F):=qE (Zre F) (Q5 4 (.two (.two (.join [(.normal,⟨[.slot 34 (.val (.bool))],[]⟩)] ⟨(kD 34 13 []),[],[]⟩ .leaf) .leaf) (.two (.two (.join [(.normal,⟨[.slot 43 (.val (.bool))],[]⟩)] ⟨(kD 43 9 []),[],[]⟩ .leaf) .leaf) (.two (.two (.join [(.normal,⟨[.slot 51 (.val (.bool))],[]⟩)] ⟨(kD 51 8 []),[],[]⟩ .leaf) .leaf) (.two .leaf (.two (.two (.join [(.normal,⟨[.slot 69 (.val (.bool))],[]⟩)] ⟨(kD 69 13 []),[],[]⟩ .leaf) .leaf) (.two .leaf (.two (.two (.join [(.normal,⟨[.slot 82 (.val (.bool))],[]⟩)] ⟨(kD 82 10 []),[],[]⟩ .leaf) (.join [(.normal,⟨[.slot 6 (.val (.int .i64))],[]⟩)] ⟨[6],[],[]⟩ .leaf)) .leaf)))))))) f95 (by kernel_rfl) fun a=>by kernel_rfl
def Zyy(F:Nat):LK:=lC (Zvw F) (lC (Qjf F) lN)
def c22(F:Nat)(a:Zc):Option (Int):=
 ((c94 F (a.1,(99999:Int))).bind fun v35=>bif v35 then(some (true))else((c94 F (a.2.1,(99999:Int))).bind fun v36=>bif v36 then(some (true))else((c94 F (a.2.2.1,(99999:Int))).bind fun v37=>some (v37)))).bind fun v27=>bif v27 then(some ((3:Int)))else((bif decide (a.2.2.1<a.2.1)then(some (true))else(some (decide (a.1<a.2.2.1)))).bind fun v28=>bif v28 then(some ((11:Int)))else((c94 F (a.2.2.2.1,(32:Int))).bind fun v29=>bif v29 then(some ((3:Int)))else(bif decide (32<(↑(a.2.2.2.2.length):Int))then(some ((5:Int)))else((Q4 (U:=Int) (β:=Int ⊕ Unit) (fun v33=>bif decide (v33<(↑(a.2.2.2.2.length):Int))then((c95 F (a,v33)).bind fun v34=>bif !decide (v34=0)then(some (j (C v34)))else(some (C (w64 (v33+1)))))else(some (j (j ())))) F ((0:Int))).bind fun v30=>J (fun v31=>some (v31)) (fun v32=>some ((0:Int))) (v30)))))
def Yei(F:Nat):PC:={ats:=[.agg Xj],rts:=Zj,code:=c22 F}
theorem Zeu(F:Nat):Qg cx 22 (Yei F):=qE (Zyy F) (.two .leaf (.two (.two (.join [(.normal,⟨[.slot 17 (.val (.bool))],[]⟩)] ⟨(kD 17 13 []),[],[]⟩ .leaf) .leaf) (.two (.two (.join [(.normal,⟨[.slot 29 (.val (.bool))],[]⟩)] ⟨(kD 29 12 []),[],[]⟩ .leaf) .leaf) (Q5 2 (.two (.two .leaf (.one (.loop ⟨[.slot 3 (.val (.int .i64))],[]⟩ [(.ret,⟨[.slot 2 (.val (.int .i64))],[]⟩),(.exit 0,⟨[],[]⟩)] ⟨(44::45::46::4::49::2::48::47::3::kD 43 7 []),[],[]⟩ F .leaf))) .leaf))))) f22 (by kernel_rfl) fun a=>by kernel_rfl
def Yi3(F:Nat):LK:=lN
def Ub(F:Nat)(a:ByteArray):Option (ByteArray):=
 (Q4 (U:=Int) (β:=ByteArray ⊕ Unit) (fun v14=>bif decide (v14<(↑(8:Nat):Int))then(gd (decide (0<=v14)) (gd (decide (v14<(↑(8:Nat):Int))) (gd (decide ((0:Nat)+v14.toNat<8)) (bif Qc (ZF (YK::YG::YH::YE::YF::YC::YI::YJ::Qa ByteArray) ((0:Nat)+v14.toNat) ZB) a then(gd (decide (0<=v14)) (gd (decide (v14<(↑(8:Nat):Int))) (gd (decide ((0:Nat)+v14.toNat<8)) (some (j (C (ZF (WA::YV::YW::YZ::YX::YU::YU::YY::Qa ByteArray) ((0:Nat)+v14.toNat) ZB)))))))else(some (C (w64 (v14+1))))))))else(some (j (j ())))) F ((0:Int))).bind fun v11=>J (fun v12=>some (v12)) (fun v13=>some (YD)) (v11)
def Yn2(F:Nat):PC:={ats:=Qab,rts:=Qab,code:=Ub F}
theorem Yh7(F:Nat):Qg cx 102 (Yn2 F):=qE (Yi3 F) (Q5 3 (.two (.two .leaf (.one (.typ 0 9 Z9 (.typ 1 9 Z9 (.loop ⟨[.slot 5 (.val (.int .i64))],[]⟩ [(.ret,⟨[.slot 2 (.val (.str))],[]⟩),(.exit 0,⟨[],[]⟩)] ⟨(kU 14 6 (2::23::22::21::20::5::kD 13 6 [])),[],[]⟩ F .leaf))))) .leaf)) f102 (by kernel_rfl) fun a=>by kernel_rfl
def Yfu(F:Nat):LK:=lN
def Xs(F:Nat)(a:ByteArray×Int):Option (Bool):=
 (Q4 (U:=Int) (β:=Bool ⊕ Unit) (fun v13=>bif decide (v13<(↑(ZC a.1):Int))then(gd (decide (0<=v13)) (gd (decide (v13.toNat<ZC a.1)) (bif decide ((↑(ZD (R (ZA a.1 (v13.toNat)))).1:Int)=a.2)then(some (j (C true)))else(some (C (w64 (v13+1)))))))else(some (j (j ())))) F ((0:Int))).bind fun v10=>J (fun v11=>some (v11)) (fun v12=>some (false)) (v10)
def Zm5(F:Nat):PC:={ats:=[.val (.str),.val (.int .u8)],rts:=Xi,code:=Xs F}
theorem Zrm(F:Nat):Qg cx 104 (Zm5 F):=qE (Yfu F) (.two .leaf (.two (.two .leaf (.one (.loop ⟨[.slot 5 (.val (.int .i64))],[]⟩ [(.ret,⟨[.slot 4 (.val (.bool))],[]⟩),(.exit 0,⟨[],[]⟩)] ⟨[12,13,14,15,16,4,5,11,10,9,8,7,6],[],[]⟩ F .leaf))) .leaf)) f104 (by kernel_rfl) fun a=>by kernel_rfl
def Zn5(F:Nat):LK:=lC (Qma F) lN
def Qc3(F:Nat)(a:ByteArray):Option (Int):=
 (c67 F a).bind fun v5=>bif !v5 then(some ((8:Int)))else(some ((0:Int)))
def Zpf(F:Nat):PC:={ats:=Qab,rts:=Zj,code:=Qc3 F}
theorem Zg7(F:Nat):Qg cx 180 (Zpf F):=qE (Zn5 F) .leaf f180 (by kernel_rfl) fun a=>by kernel_rfl
def Ymg(F:Nat):LK:=lC (Qjf F) lN
def Qjv(F:Nat)(a:Int):Option (Int):=
 (c94 F (a,(99999:Int))).bind fun v5=>bif v5 then(some ((3:Int)))else(some ((0:Int)))
def Yeg(F:Nat):PC:={ats:=Zj,rts:=Zj,code:=Qjv F}
theorem Zao(F:Nat):Qg cx 181 (Yeg F):=qE (Ymg F) .leaf f181 (by kernel_rfl) fun a=>by kernel_rfl
def Zo0(F:Nat):LK:=lC (Qma F) lN
def Qsr(F:Nat)(a:List ByteArray):Option (Int):=
 bif decide (8<(↑(a.length):Int))then(some ((5:Int)))else((Q4 (U:=Int) (β:=Int ⊕ Unit) (fun v15=>bif decide (v15<(↑(a.length):Int))then(gd (decide (0<=v15)) (gd (decide (v15<(↑(a.length):Int))) (gd (decide (v15.toNat<a.length)) ((c67 F (a.getD (v15.toNat) ZB)).bind fun v16=>bif !v16 then(some (j (C (8:Int))))else(some (C (w64 (v15+1))))))))else(some (j (j ())))) F ((0:Int))).bind fun v12=>J (fun v13=>some (v13)) (fun v14=>some ((0:Int))) (v12))
def Zua(F:Nat):PC:={ats:=Qcj,rts:=Zj,code:=Qsr F}
theorem Yaa(F:Nat):Qg cx 182 (Zua F):=qE (Zo0 F) (Q5 2 (.two (.two .leaf (.one (.loop ⟨[.slot 3 (.val (.int .i64))],[]⟩ [(.ret,⟨[.slot 2 (.val (.int .i64))],[]⟩),(.exit 0,⟨[],[]⟩)] ⟨(kU 13 6 (2::3::kD 12 6 [])),[],[]⟩ F .leaf))) .leaf)) f182 (by kernel_rfl) fun a=>by kernel_rfl
def Yk8(F:Nat):LK:=lC (Yaa F) (lC (Qu7 F) (lC (Zao F) (lC (Zg7 F) lN)))
def Qn4(F:Nat)(a:(Qz)×Int):Option (Int):=
 bif decide (a.2=97)then((Qc3 F a.1.2.2.1).bind fun v19=>some (v19))else(bif decide (a.2=99)then((Qc3 F a.1.2.2.2.1).bind fun v20=>some (v20))else(bif decide (a.2=103)then((Qc3 F a.1.2.2.2.2.1).bind fun v21=>some (v21))else(bif decide (a.2=102)then((Qjv F a.1.2.2.2.2.2.2.1).bind fun v22=>some (v22))else(bif decide (a.2=116)then((Qjv F a.1.2.2.2.2.2.2.2.1).bind fun v23=>some (v23))else(bif decide (a.2=107)then((Qc3 F a.1.2.2.2.2.2.1).bind fun v24=>some (v24))else(bif decide (a.2=109)then((Qh2 F (a.1.2.2.2.2.2.2.2.2.1,a.1.2.2.2.2.2.2.2.2.2.1,a.1.2.2.2.2.2.2.2.2.2.2.1)).bind fun v25=>some (v25))else((Qsr F a.1.2.2.2.2.2.2.2.2.2.2.2).bind fun v26=>some (v26))))))))
def Zrv(F:Nat):PC:={ats:=[.agg Xe,.val (.int .u8)],rts:=Zj,code:=Qn4 F}
theorem Zz4(F:Nat):Qg cx 103 (Zrv F):=qE (Yk8 F) .leaf f103 (by kernel_rfl) fun a=>by kernel_rfl
def Zpp(F:Nat):LK:=lC (Zz4 F) (lC (Zrm F) (lC (Qjf F) (lC (Yh7 F) lN)))
def Qxo(F:Nat)(a:Qz)(x0:ByteArray):Option (Bool):=
 (Xs F (x0,(110:Int))).bind fun(u1:Bool)=>bif !u1 then(some (decide (0<(↑(a.2.2.2.2.2.2.2.2.2.2.2.length):Int))))else(some (false))
def Qux(F:Nat)(a:Qz)(x0:ByteArray):Option (Bool):=
 (Xs F (x0,(109:Int))).bind fun(u1:Bool)=>bif !u1 then(bif !(a.2.2.2.2.2.2.2.2.1==YD&&(decide (a.2.2.2.2.2.2.2.2.2.1=0)&&(a.2.2.2.2.2.2.2.2.2.2.1==YD&&true)))then(some (true))else(Qxo F a x0))else(Qxo F a x0)
def Qyk(F:Nat)(a:Qz)(x0:ByteArray):Option (Bool):=
 (Xs F (x0,(116:Int))).bind fun(u1:Bool)=>bif !u1 then(bif !decide (a.2.2.2.2.2.2.2.1=0)then(some (true))else(Qux F a x0))else(Qux F a x0)
def Qxb(F:Nat)(a:Qz)(x0:ByteArray):Option (Bool):=
 (Xs F (x0,(102:Int))).bind fun(u1:Bool)=>bif !u1 then(bif !decide (a.2.2.2.2.2.2.1=0)then(some (true))else(Qyk F a x0))else(Qyk F a x0)
def Qv3(F:Nat)(a:Qz)(x0:ByteArray):Option (Bool):=
 (Xs F (x0,(107:Int))).bind fun(u1:Bool)=>bif !u1 then(bif !Qc a.2.2.2.2.2.1 YD then(some (true))else(Qxb F a x0))else(Qxb F a x0)
def Qx0(F:Nat)(a:Qz)(x0:ByteArray):Option (Bool):=
 (Xs F (x0,(103:Int))).bind fun(u1:Bool)=>bif !u1 then(bif !Qc a.2.2.2.2.1 YD then(some (true))else(Qv3 F a x0))else(Qv3 F a x0)
def Qsd(F:Nat)(a:Qz)(x0:ByteArray):Option (Bool):=
 (Xs F (x0,(99:Int))).bind fun(u1:Bool)=>bif !u1 then(bif !Qc a.2.2.2.1 YD then(some (true))else(Qx0 F a x0))else(Qx0 F a x0)
def c24(F:Nat)(a:Qz):Option (Int):=
 (Ub F a.2.1).bind fun v785=>bif Qc v785 YD then(some ((13:Int)))else((c94 F (a.1,(99999:Int))).bind fun v786=>bif v786 then(some ((3:Int)))else((Q4 (U:=Int) (β:=Int ⊕ Unit) (fun v1047=>bif decide (v1047<(↑(ZC v785):Int))then(gd (decide (0<=v1047)) (gd (decide (v1047.toNat<ZC v785)) ((Qn4 F (a,(↑(ZD (R (ZA v785 (v1047.toNat)))).1:Int))).bind fun v1048=>bif !decide (v1048=0)then(some (j (C v1048)))else(some (C (w64 (v1047+1)))))))else(some (j (j ())))) F ((0:Int))).bind fun v787=>J (fun v788=>some (v788)) (fun v789=>(bif Qc a.2.1 YH then(some (decide (a.2.2.2.2.2.2.2.1<a.2.2.2.2.2.2.1)))else(some (false))).bind fun v790=>bif v790 then(some ((11:Int)))else(((Xs F (v785,(97:Int))).bind fun v792=>bif !v792 then(bif !Qc a.2.2.1 YD then(some (true))else(Qsd F a v785))else(Qsd F a v785)).bind fun v791=>bif v791 then(some ((1:Int)))else(some ((0:Int))))) (v787)))
def Ymu(F:Nat):PC:={ats:=Uk,rts:=Zj,code:=c24 F}
theorem Yar(F:Nat):Qg cx 24 (Ymu F):=qE (Zpp F) (Q5 4 (.two (.two .leaf (.one (.loop ⟨[.slot 4 (.val (.int .i64))],[]⟩ [(.ret,⟨[.slot 2 (.val (.int .i64))],[]⟩),(.exit 0,⟨[],[]⟩)] ⟨[20,21,22,23,24,5,27,2,26,25,4,19,18,17,16,15,14],[],[]⟩ F .leaf))) (.two (.two (.join [(.normal,⟨[.slot 37 (.val (.bool))],[]⟩)] ⟨(kD 37 10 []),[],[]⟩ .leaf) .leaf) (.two (.two (.join [(.normal,⟨[.slot 117 (.val (.bool))],[]⟩)] ⟨(kD 117 80 []),[],[]⟩ .leaf) .leaf) .leaf)))) f24 (by kernel_rfl) fun a=>by kernel_rfl
def Yc1(F:Nat):LK:=lN
def c40(F:Nat)(a:(Qh)×ByteArray):Option (Int):=
 (Q4 (U:=Int) (β:=Int ⊕ Unit) (fun v13=>bif decide (v13<(↑(a.1.2.1.length):Int))then(gd (decide (0<=v13)) (gd (decide (v13<(↑(a.1.2.1.length):Int))) (gd (decide (v13.toNat<a.1.2.1.length)) (bif Qc (a.1.2.1.getD (v13.toNat) Zy).1 a.2 then(some (j (C v13)))else(some (C (w64 (v13+1))))))))else(some (j (j ())))) F ((0:Int))).bind fun v10=>J (fun v11=>some (v11)) (fun v12=>some ((-1:Int))) (v10)
def Zom(F:Nat):PC:={ats:=Qfe,rts:=Zj,code:=c40 F}
theorem W6(F:Nat):Qg cx 40 (Zom F):=qE (Yc1 F) (.two .leaf (.two (.two .leaf (.one (.loop ⟨[.slot 5 (.val (.int .i64))],[]⟩ [(.ret,⟨[.slot 4 (.val (.int .i64))],[]⟩),(.exit 0,⟨[],[]⟩)] ⟨(kU 13 8 (4::21::5::kD 12 7 [])),[],[]⟩ F .leaf))) .leaf)) f40 (by kernel_rfl) fun a=>by kernel_rfl
def Ztm(F:Nat):LK:=lN
def c53(F:Nat)(a:(Qh)×ByteArray×ByteArray):Option (Int):=
 (Q4 (U:=Int) (β:=Int ⊕ Unit) (fun v15=>bif decide (v15<(↑(a.1.2.2.2.1.length):Int))then((gd (decide (0<=v15)) (gd (decide (v15<(↑(a.1.2.2.2.1.length):Int))) (gd (decide (v15.toNat<a.1.2.2.2.1.length)) (bif Qc (a.1.2.2.2.1.getD (v15.toNat) Zg).1 a.2.1 then(gd (decide (0<=v15)) (gd (decide (v15<(↑(a.1.2.2.2.1.length):Int))) (gd (decide (v15.toNat<a.1.2.2.2.1.length)) (some (Qc (a.1.2.2.2.1.getD (v15.toNat) Zg).2.1 a.2.2)))))else(some (false)))))).bind fun v16=>bif v16 then(some (j (C v15)))else(some (C (w64 (v15+1)))))else(some (j (j ())))) F ((0:Int))).bind fun v12=>J (fun v13=>some (v13)) (fun v14=>some ((-1:Int))) (v12)
def Zts(F:Nat):PC:={ats:=Ql8,rts:=Zj,code:=c53 F}
theorem U6(F:Nat):Qg cx 53 (Zts F):=qE (Ztm F) (.two .leaf (.two (.two .leaf (.one (.loop ⟨[.slot 7 (.val (.int .i64))],[]⟩ [(.ret,⟨[.slot 6 (.val (.int .i64))],[]⟩),(.exit 0,⟨[],[]⟩)] ⟨(kU 15 18 (6::33::7::kD 14 7 [])),[],[]⟩ F (.two .leaf (.two (.one (.two (.join [(.normal,⟨[.slot 32 (.val (.bool))],[]⟩)] ⟨(kD 32 18 []),[],[]⟩ .leaf) .leaf)) .leaf))))) .leaf)) f53 (by kernel_rfl) fun a=>by kernel_rfl
def Ygx(F:Nat):LK:=lC (Qi9 F) (lC (Qu7 F) (lC (Zao F) (lC (Qyq F) (lC (U6 F) (lC (W6 F) lN)))))
def Qsk(F:Nat)(a:(Qh)×(Zc)×Int):Option (Int):=
 gd (decide (0<=a.2.2)) (gd (decide (a.2.2<(↑(a.1.2.2.2.1.length):Int))) (gd (decide (a.2.2.toNat<a.1.2.2.2.1.length)) ((c47 F (a.2.1,(a.1.2.2.2.1.getD (a.2.2.toNat) Zg).2.1)).bind fun v26=>((c40 F (a.1,(a.1.2.2.2.1.getD (a.2.2.toNat) Zg).1)).bind fun v35=>bif decide (v35<0)then(some (true))else(some (decide (v26<0)))).bind fun v27=>bif v27 then(some ((10:Int)))else(gd (decide (0<=v26)) (gd (decide (v26<(↑(a.2.1.2.2.2.2.length):Int))) (gd (decide (v26.toNat<a.2.1.2.2.2.2.length)) (bif decide (0<(a.2.1.2.2.2.2.getD (v26.toNat) Zd).2.2.2.2.2.2.2.2.2.2)then(some ((13:Int)))else((c53 F (a.1,(a.1.2.2.2.1.getD (a.2.2.toNat) Zg).1,(a.1.2.2.2.1.getD (a.2.2.toNat) Zg).2.1)).bind fun v28=>bif decide (v28<a.2.2)then(some ((9:Int)))else((Qh2 F ((a.1.2.2.2.1.getD (a.2.2.toNat) Zg).2.2.1,(a.1.2.2.2.1.getD (a.2.2.toNat) Zg).2.2.2.1,(a.1.2.2.2.1.getD (a.2.2.toNat) Zg).2.2.2.2.1)).bind fun v29=>(bif decide (v29=0)then(gd (decide (0<=v26)) (gd (decide (v26<(↑(a.2.1.2.2.2.2.length):Int))) (gd (decide (v26.toNat<a.2.1.2.2.2.2.length)) ((Qin F (((a.1.2.2.2.1.getD (a.2.2.toNat) Zg).2.2.1,(a.1.2.2.2.1.getD (a.2.2.toNat) Zg).2.2.2.1,(a.1.2.2.2.1.getD (a.2.2.toNat) Zg).2.2.2.2.1),(a.2.1.2.2.2.2.getD (v26.toNat) Zd).2.1)).bind fun v34=>some (!v34)))))else(some (false))).bind fun v30=>(bif v30 then(some ((13:Int)))else(some (v29))).bind fun v31=>(bif decide (v31=0)then((Qjv F (a.1.2.2.2.1.getD (a.2.2.toNat) Zg).2.2.2.2.2.1).bind fun v33=>some (v33))else(some (v31))).bind fun v32=>some (v32))))))))))
def Yk3(F:Nat):PC:={ats:=[.agg Ze,.agg Xj,.val (.int .i64)],rts:=Zj,code:=Qsk F}
theorem Yb1(F:Nat):Qg cx 122 (Yk3 F):=qE (Ygx F) (Q5 3 (.two (.two (.join [(.normal,⟨[.slot 27 (.val (.bool))],[]⟩)] ⟨(kD 27 9 []),[],[]⟩ .leaf) .leaf) (Q5 3 (.two (.two (.join [(.normal,⟨[.slot 59 (.val (.bool))],[]⟩)] ⟨(kD 59 14 []),[],[]⟩ .leaf) (.join [(.normal,⟨[.slot 9 (.val (.int .i64))],[]⟩)] ⟨[9],[],[]⟩ .leaf)) (.two (.two .leaf (.join [(.normal,⟨[.slot 9 (.val (.int .i64))],[]⟩)] ⟨[9,64,63,62],[],[]⟩ .leaf)) .leaf))))) f122 (by kernel_rfl) fun a=>by kernel_rfl
def Yhy(F:Nat):LK:=lN
def c54(F:Nat)(a:List ByteArray×ByteArray):Option (Bool):=
 (Q4 (U:=Int) (β:=Bool ⊕ Unit) (fun v13=>bif decide (v13<(↑(a.1.length):Int))then(gd (decide (0<=v13)) (gd (decide (v13<(↑(a.1.length):Int))) (gd (decide (v13.toNat<a.1.length)) (bif Qc (a.1.getD (v13.toNat) ZB) a.2 then(some (j (C true)))else(some (C (w64 (v13+1))))))))else(some (j (j ())))) F ((0:Int))).bind fun v10=>J (fun v11=>some (v11)) (fun v12=>some (false)) (v10)
def Zu5(F:Nat):PC:={ats:=Qoh,rts:=Xi,code:=c54 F}
theorem Qkl(F:Nat):Qg cx 54 (Zu5 F):=qE (Yhy F) (.two .leaf (.two (.two .leaf (.one (.loop ⟨[.slot 5 (.val (.int .i64))],[]⟩ [(.ret,⟨[.slot 4 (.val (.bool))],[]⟩),(.exit 0,⟨[],[]⟩)] ⟨(kU 12 6 (4::5::kD 11 6 [])),[],[]⟩ F .leaf))) .leaf)) f54 (by kernel_rfl) fun a=>by kernel_rfl
def Ymj(F:Nat):LK:=lN
def Qiw(F:Nat)(a:(Qh)×ByteArray×ByteArray):Option (Int):=
 (Q4 (U:=Int) (β:=Int ⊕ Unit) (fun v15=>bif decide (v15<(↑(a.1.2.2.2.2.length):Int))then((gd (decide (0<=v15)) (gd (decide (v15<(↑(a.1.2.2.2.2.length):Int))) (gd (decide (v15.toNat<a.1.2.2.2.2.length)) (bif Qc (a.1.2.2.2.2.getD (v15.toNat) YB).1 a.2.1 then(gd (decide (0<=v15)) (gd (decide (v15<(↑(a.1.2.2.2.2.length):Int))) (gd (decide (v15.toNat<a.1.2.2.2.2.length)) (some (Qc (a.1.2.2.2.2.getD (v15.toNat) YB).2.1 a.2.2)))))else(some (false)))))).bind fun v16=>bif v16 then(some (j (C v15)))else(some (C (w64 (v15+1)))))else(some (j (j ())))) F ((0:Int))).bind fun v12=>J (fun v13=>some (v13)) (fun v14=>some ((-1:Int))) (v12)
def Zx5(F:Nat):PC:={ats:=Ql8,rts:=Zj,code:=Qiw F}
theorem Qcl(F:Nat):Qg cx 145 (Zx5 F):=qE (Ymj F) (.two .leaf (.two (.two .leaf (.one (.loop ⟨[.slot 7 (.val (.int .i64))],[]⟩ [(.ret,⟨[.slot 6 (.val (.int .i64))],[]⟩),(.exit 0,⟨[],[]⟩)] ⟨(kU 15 18 (6::33::7::kD 14 7 [])),[],[]⟩ F (.two .leaf (.two (.one (.two (.join [(.normal,⟨[.slot 32 (.val (.bool))],[]⟩)] ⟨(kD 32 18 []),[],[]⟩ .leaf) .leaf)) .leaf))))) .leaf)) f145 (by kernel_rfl) fun a=>by kernel_rfl
def Zpd(F:Nat):LK:=lC (Qi9 F) (lC (W6 F) (lC (Qcl F) (lC (Qkl F) lN)))
def Qqr(F:Nat)(a:(Qh)×(Zc)×Int):Option (Int):=
 gd (decide (0<=a.2.2)) (gd (decide (a.2.2<(↑(a.1.2.2.2.2.length):Int))) (gd (decide (a.2.2.toNat<a.1.2.2.2.2.length)) ((c47 F (a.2.1,(a.1.2.2.2.2.getD (a.2.2.toNat) YB).2.1)).bind fun v23=>((c54 F (a.1.1,(a.1.2.2.2.2.getD (a.2.2.toNat) YB).1)).bind fun v32=>bif !v32 then(some (true))else(some (decide (v23<0)))).bind fun v24=>bif v24 then(some ((10:Int)))else(gd (decide (0<=v23)) (gd (decide (v23<(↑(a.2.1.2.2.2.2.length):Int))) (gd (decide (v23.toNat<a.2.1.2.2.2.2.length)) (bif decide ((a.2.1.2.2.2.2.getD (v23.toNat) Zd).2.2.2.2.2.2.2.2.2.2=0)then(some ((13:Int)))else((Qiw F (a.1,(a.1.2.2.2.2.getD (a.2.2.toNat) YB).1,(a.1.2.2.2.2.getD (a.2.2.toNat) YB).2.1)).bind fun v25=>bif decide (v25<a.2.2)then(some ((9:Int)))else(gd (decide (0<=v23)) (gd (decide (v23<(↑(a.2.1.2.2.2.2.length):Int))) (gd (decide (v23.toNat<a.2.1.2.2.2.2.length)) (bif !decide ((↑(ZE (a.1.2.2.2.2.getD (a.2.2.toNat) YB).2.2):Int)=(a.2.1.2.2.2.2.getD (v23.toNat) Zd).2.2.2.2.2.2.2.2.2.2)then(some ((2:Int)))else((Q4 (U:=Int) (β:=Int ⊕ Unit) (fun v29=>bif decide (v29<(↑(ZE (a.1.2.2.2.2.getD (a.2.2.toNat) YB).2.2):Int))then(gd (decide (0<=v29)) (gd (decide (v29<(↑(ZE (a.1.2.2.2.2.getD (a.2.2.toNat) YB).2.2):Int))) (gd (decide (v29.toNat<ZE (a.1.2.2.2.2.getD (a.2.2.toNat) YB).2.2)) ((c40 F (a.1,ZF (a.1.2.2.2.2.getD (a.2.2.toNat) YB).2.2 (v29.toNat) ZB)).bind fun v30=>bif decide (v30<0)then(some (j (C (10:Int))))else(gd (decide (0<=v29)) (gd (decide (v29<=(↑(ZE (a.1.2.2.2.2.getD (a.2.2.toNat) YB).2.2):Int))) (gd (decide (0<=v29)) (gd (decide (v29<(↑(ZE (a.1.2.2.2.2.getD (a.2.2.toNat) YB).2.2):Int))) (gd (decide (v29.toNat<ZE (a.1.2.2.2.2.getD (a.2.2.toNat) YB).2.2)) ((c54 F (ZG (0:Nat) (ZH (v29.toNat) (a.1.2.2.2.2.getD (a.2.2.toNat) YB).2.2),ZF (a.1.2.2.2.2.getD (a.2.2.toNat) YB).2.2 (v29.toNat) ZB)).bind fun v31=>bif v31 then(some (j (C (9:Int))))else(some (C (w64 (v29+1))))))))))))))else(some (j (j ())))) F ((0:Int))).bind fun v26=>J (fun v27=>some (v27)) (fun v28=>some ((0:Int))) (v26))))))))))))))
def Zqu(F:Nat):PC:={ats:=[.agg Ze,.agg Xj,.val (.int .i64)],rts:=Zj,code:=Qqr F}
theorem Ypi(F:Nat):Qg cx 123 (Zqu F):=qE (Zpd F) (Q5 3 (.two (.two (.join [(.normal,⟨[.slot 28 (.val (.bool))],[]⟩)] ⟨(kD 28 10 []),[],[]⟩ .leaf) .leaf) (Q5 3 (.two (.two .leaf (.one (.loop ⟨[.slot 9 (.val (.int .i64))],[]⟩ [(.ret,⟨[.slot 6 (.val (.int .i64))],[]⟩),(.exit 0,⟨[],[]⟩)] ⟨(kU 61 8 (6::kD 78 10 (9::kD 60 7 []))),[],[]⟩ F .leaf))) .leaf)))) f123 (by kernel_rfl) fun a=>by kernel_rfl
def Yfw(F:Nat):LK:=lC (Qma F) (lC (Qkl F) (lC (Zg7 F) (lC (Qjf F) (lC (W6 F) lN))))
def Qpz(F:Nat)(a:(Qh)×Int):Option (Int):=
 gd (decide (0<=a.2)) (gd (decide (a.2<(↑(a.1.2.1.length):Int))) (gd (decide (a.2.toNat<a.1.2.1.length)) ((c67 F (a.1.2.1.getD (a.2.toNat) Zy).1).bind fun v13=>bif !v13 then(some ((8:Int)))else((c40 F (a.1,(a.1.2.1.getD (a.2.toNat) Zy).1)).bind fun v14=>bif decide (v14<a.2)then(some ((9:Int)))else((c54 F (a.1.1,(a.1.2.1.getD (a.2.toNat) Zy).2.1)).bind fun v15=>bif !v15 then(some ((10:Int)))else((c94 F ((a.1.2.1.getD (a.2.toNat) Zy).2.2.1,(99999:Int))).bind fun v16=>bif v16 then(some ((3:Int)))else((Qc3 F (a.1.2.1.getD (a.2.toNat) Zy).2.2.2).bind fun v17=>some (v17))))))))
def Yfj(F:Nat):PC:={ats:=U2,rts:=Zj,code:=Qpz F}
theorem Yka(F:Nat):Qg cx 189 (Yfj F):=qE (Yfw F) .leaf f189 (by kernel_rfl) fun a=>by kernel_rfl
def Zos(F:Nat):LK:=lC (Qjf F) (lC (W6 F) (lC (Yka F) (lC (Qkl F) (lC (Qma F) lN))))
def Qom(F:Nat)(a:Qh):Option (Int):=
 (Q4 (U:=Int) (β:=Int ⊕ Unit) (fun v70=>bif decide (v70<(↑(a.1.length):Int))then(gd (decide (0<=v70)) (gd (decide (v70<(↑(a.1.length):Int))) (gd (decide (v70.toNat<a.1.length)) ((c67 F (a.1.getD (v70.toNat) ZB)).bind fun v71=>bif !v71 then(some (j (C (8:Int))))else(gd (decide (0<=v70)) (gd (decide (v70<=(↑(a.1.length):Int))) (gd (decide (0<=v70)) (gd (decide (v70<(↑(a.1.length):Int))) (gd (decide (v70.toNat<a.1.length)) ((c54 F (ZG (0:Nat) (ZH (v70.toNat) a.1),a.1.getD (v70.toNat) ZB)).bind fun v72=>bif v72 then(some (j (C (9:Int))))else(some (C (w64 (v70+1))))))))))))))else(some (j (j ())))) F ((0:Int))).bind fun v53=>J (fun v54=>some (v54)) (fun v55=>(Q4 (U:=Int×Int) (β:=Int) (fun v67=>(bif decide (v67.2<(↑(a.2.1.length):Int))then(some (decide (v67.1=0)))else(some (false))).bind fun v68=>bif v68 then((Qpz F (a,v67.2)).bind fun v69=>some (C (v69,w64 (v67.2+1))))else(some (j v67.1))) F (((0:Int),(0:Int)))).bind fun v56=>(Q4 (U:=Int×Int) (β:=Int) (fun v58=>(bif decide (v58.2<(↑(a.2.2.1.length):Int))then(some (decide (v58.1=0)))else(some (false))).bind fun v59=>bif v59 then(gd (decide (0<=v58.2)) (gd (decide (v58.2<(↑(a.2.2.1.length):Int))) (gd (decide (v58.2.toNat<a.2.2.1.length)) ((c40 F (a,(a.2.2.1.getD (v58.2.toNat) YP).1)).bind fun v60=>(bif decide (v60<0)then(some ((10:Int)))else(((c94 F ((a.2.2.1.getD (v58.2.toNat) YP).2.1,(99999:Int))).bind fun v65=>bif v65 then(some (true))else((c94 F ((a.2.2.1.getD (v58.2.toNat) YP).2.2,(99999:Int))).bind fun v66=>some (v66))).bind fun v62=>(bif v62 then(some ((3:Int)))else((bif decide ((a.2.2.1.getD (v58.2.toNat) YP).2.2<(a.2.2.1.getD (v58.2.toNat) YP).2.1)then(some ((11:Int)))else(some v58.1)).bind fun v64=>some (v64))).bind fun v63=>some (v63))).bind fun v61=>some (C (v61,w64 (v58.2+1)))))))else(some (j v58.1))) F ((v56,(0:Int)))).bind fun v57=>some (v57)) (v53)
def Yn9(F:Nat):PC:={ats:=Vf,rts:=Zj,code:=Qom F}
theorem Zqc(F:Nat):Qg cx 121 (Yn9 F):=qE (Zos F) (.two .leaf (.two (.two .leaf (.one (.loop ⟨[.slot 3 (.val (.int .i64))],[]⟩ [(.ret,⟨[.slot 2 (.val (.int .i64))],[]⟩),(.exit 0,⟨[],[]⟩)] ⟨(kU 15 7 (2::kD 31 10 (3::kD 14 7 []))),[],[]⟩ F .leaf))) (.two .leaf (.two (.two .leaf (.one (.loop ⟨[.slot 4 (.val (.int .i64)),.slot 5 (.val (.int .i64))],[]⟩ [(.exit 2,⟨[.slot 4 (.val (.int .i64))],[]⟩)] ⟨(43::44::45::4::5::kD 42 11 []),[],[]⟩ F (.two (.two (.join [(.normal,⟨[.slot 40 (.val (.bool))],[]⟩)] ⟨(kD 40 9 []),[],[]⟩ .leaf) .leaf) .leaf)))) (.two (.two .leaf (.one (.loop ⟨[.slot 4 (.val (.int .i64)),.slot 6 (.val (.int .i64))],[]⟩ [(.exit 4,⟨[.slot 4 (.val (.int .i64))],[]⟩)] ⟨(57::58::59::60::61::7::4::kD 79 18 (6::kD 56 11 [])),[],[]⟩ F (.two (.two (.join [(.normal,⟨[.slot 54 (.val (.bool))],[]⟩)] ⟨(kD 54 9 []),[],[]⟩ .leaf) .leaf) (.two (.one (Q5 2 (.join [(.normal,⟨[.slot 4 (.val (.int .i64))],[]⟩)] ⟨(kU 67 13 (4::[])),[],[]⟩ (.two .leaf (.two (.join [(.normal,⟨[.slot 74 (.val (.bool))],[]⟩)] ⟨(kD 74 8 []),[],[]⟩ .leaf) (.join [(.normal,⟨[.slot 4 (.val (.int .i64))],[]⟩)] ⟨[75,76,77,78,79,4],[],[]⟩ (Q5 2 (.join [(.normal,⟨[.slot 4 (.val (.int .i64))],[]⟩)] ⟨[4],[],[]⟩ .leaf)))))))) .leaf))))) .leaf))))) f121 (by kernel_rfl) fun a=>by kernel_rfl
def Zzk(F:Nat):LK:=lC (Zqc F) (lC (Ypi F) (lC (Yb1 F) (lC (Zeu F) lN)))
def c26(F:Nat)(a:(Zc)×Qh):Option (Int):=
 (c22 F a.1).bind fun v25=>bif !decide (v25=0)then(some (v25))else((bif decide (256<(↑(a.2.1.length):Int))then(some (true))else(bif decide (256<(↑(a.2.2.1.length):Int))then(some (true))else(bif decide (256<(↑(a.2.2.2.1.length):Int))then(some (true))else(bif decide (256<(↑(a.2.2.2.2.1.length):Int))then(some (true))else(some (decide (256<(↑(a.2.2.2.2.2.length):Int)))))))).bind fun v26=>bif v26 then(some ((5:Int)))else((Qom F a.2).bind fun v27=>(Q4 (U:=Int×Int) (β:=Int) (fun v33=>(bif decide (v33.2<(↑(a.2.2.2.2.1.length):Int))then(some (decide (v33.1=0)))else(some (false))).bind fun v34=>bif v34 then((Qsk F (a.2,a.1,v33.2)).bind fun v35=>some (C (v35,w64 (v33.2+1))))else(some (j v33.1))) F ((v27,(0:Int)))).bind fun v28=>(Q4 (U:=Int×Int) (β:=Int) (fun v30=>(bif decide (v30.2<(↑(a.2.2.2.2.2.length):Int))then(some (decide (v30.1=0)))else(some (false))).bind fun v31=>bif v31 then((Qqr F (a.2,a.1,v30.2)).bind fun v32=>some (C (v32,w64 (v30.2+1))))else(some (j v30.1))) F ((v28,(0:Int)))).bind fun v29=>some (v29)))
def Zng(F:Nat):PC:={ats:=Qo8,rts:=Zj,code:=c26 F}
theorem Yhf(F:Nat):Qg cx 26 (Zng F):=qE (Zzk F) (Q5 3 (.two (.two (.join [(.normal,⟨[.slot 40 (.val (.bool))],[]⟩)] ⟨(kD 40 28 []),[],[]⟩ .leaf) .leaf) (.two .leaf (.two (.two .leaf (.one (.loop ⟨[.slot 5 (.val (.int .i64)),.slot 6 (.val (.int .i64))],[]⟩ [(.exit 0,⟨[.slot 5 (.val (.int .i64))],[]⟩)] ⟨(54::55::56::57::5::6::kD 53 11 []),[],[]⟩ F (.two (.two (.join [(.normal,⟨[.slot 51 (.val (.bool))],[]⟩)] ⟨(kD 51 9 []),[],[]⟩ .leaf) .leaf) .leaf)))) (.two (.two .leaf (.one (.loop ⟨[.slot 5 (.val (.int .i64)),.slot 7 (.val (.int .i64))],[]⟩ [(.exit 2,⟨[.slot 5 (.val (.int .i64))],[]⟩)] ⟨(69::70::71::72::5::7::kD 68 11 []),[],[]⟩ F (.two (.two (.join [(.normal,⟨[.slot 66 (.val (.bool))],[]⟩)] ⟨(kD 66 9 []),[],[]⟩ .leaf) .leaf) .leaf)))) .leaf))))) f26 (by kernel_rfl) fun a=>by kernel_rfl
def Yj8(F:Nat):LK:=lC (Yd F) lN
def c87(F:Nat)(a:Int×Int):Option (Int):=
 (bif decide (a.1<0)then(some ((3:Int)))else((Qn F (decide (a.2<a.1),(3:Int))).bind fun v9=>some (v9))).bind fun v8=>some (v8)
def Zy2(F:Nat):PC:={ats:=Qn9,rts:=Zj,code:=c87 F}
theorem Zlz(F:Nat):Qg cx 87 (Zy2 F):=qE (Yj8 F) (.two .leaf (.two (.join [(.normal,⟨[.slot 4 (.val (.int .i64))],[]⟩)] ⟨(4::kD 12 8 []),[],[]⟩ .leaf) .leaf)) f87 (by kernel_rfl) fun a=>by kernel_rfl
def Zrl(F:Nat):LK:=lN
def Vd(F:Nat)(a:List Int):Option (Int):=
 (Q4 (U:=Int) (β:=Int ⊕ Unit) (fun v13=>bif decide (v13<(↑(a.length):Int))then(gd (decide (0<=v13)) (gd (decide (v13<(↑(a.length):Int))) (gd (decide (v13.toNat<a.length)) (bif !decide (a.getD (v13.toNat) (0:Int)=(0:Int))then(some (j (C (a.getD (v13.toNat) (0:Int)))))else(some (C (w64 (v13+1))))))))else(some (j (j ())))) F ((0:Int))).bind fun v10=>J (fun v11=>some (v11)) (fun v12=>some ((0:Int))) (v10)
def Yoe(F:Nat):PC:={ats:=[.val (.seq kt6)],rts:=Zj,code:=Vd F}
theorem Zkn(F:Nat):Qg cx 175 (Yoe F):=qE (Zrl F) (.two .leaf (.two (.two .leaf (.one (.loop ⟨[.slot 7 (.val (.int .i64))],[]⟩ [(.ret,⟨[.slot 2 (.val (.int .i64))],[]⟩),(.exit 0,⟨[],[]⟩)] ⟨[14,7,11,12,2,13,4,10,9,8],[],[]⟩ F .leaf))) .leaf)) f175 (by kernel_rfl) fun a=>by kernel_rfl
def Zuz(F:Nat):LK:=lN
def Jk(F:Nat)(a:Bool×Int):Option (Int):=
 bif a.1 then(some a.2)else(some ((0:Int)))
def Zw2(F:Nat):PC:={ats:=Zai,rts:=Zj,code:=Jk F}
theorem Zkq(F:Nat):Qg cx 176 (Zw2 F):=qE (Zuz F) .leaf f176 (by kernel_rfl) fun a=>by kernel_rfl
def Zn6(F:Nat):LK:=lN
def Qq5(F:Nat)(a:List ByteArray×ByteArray):Option (Int):=
 (Q4 (U:=Int) (β:=Int ⊕ Unit) (fun v13=>bif decide (v13<(↑(a.1.length):Int))then(gd (decide (0<=v13)) (gd (decide (v13<(↑(a.1.length):Int))) (gd (decide (v13.toNat<a.1.length)) (bif Qc a.2 (a.1.getD (v13.toNat) ZB)then(some (j (C v13)))else(some (C (w64 (v13+1))))))))else(some (j (j ())))) F ((0:Int))).bind fun v10=>J (fun v11=>some (v11)) (fun v12=>some ((-1:Int))) (v10)
def Yl2(F:Nat):PC:={ats:=Qoh,rts:=Zj,code:=Qq5 F}
theorem Zr3(F:Nat):Qg cx 183 (Yl2 F):=qE (Zn6 F) (.two .leaf (.two (.two .leaf (.one (.loop ⟨[.slot 8 (.val (.int .i64))],[]⟩ [(.ret,⟨[.slot 4 (.val (.int .i64))],[]⟩),(.exit 0,⟨[],[]⟩)] ⟨[18,8,11,12,13,14,15,16,4,17,5,10,9],[],[]⟩ F .leaf))) .leaf)) f183 (by kernel_rfl) fun a=>by kernel_rfl
def Ztk(F:Nat):LK:=lC (Zr3 F) lN
def Kh(F:Nat)(a:List ByteArray×ByteArray):Option (Bool):=
 (Qq5 F a).bind fun v5=>some (decide (0<=v5))
def Yne(F:Nat):PC:={ats:=Qoh,rts:=Xi,code:=Kh F}
theorem Ww(F:Nat):Qg cx 107 (Yne F):=qE (Ztk F) .leaf f107 (by kernel_rfl) fun a=>by kernel_rfl
def Yd2(F:Nat):LK:=lC (Ww F) lN
def Qp4(F:Nat)(a:ByteArray):Option (Bool):=
 (Kh F (YR::YS::YT::YQ::Qa ByteArray,a)).bind fun v5=>some (v5)
def Ynk(F:Nat):PC:={ats:=Qab,rts:=Xi,code:=Qp4 F}
theorem Zni(F:Nat):Qg cx 177 (Ynk F):=qE (Yd2 F) .leaf f177 (by kernel_rfl) fun a=>by kernel_rfl
def Yc0(F:Nat):LK:=lN
def Uu(F:Nat)(a:Int×Int×Int):Option (Bool):=
 (bif decide (a.1<a.2.1)then(some (true))else(some (decide (a.2.2<a.1)))).bind fun v5=>some (v5)
def Ylt(F:Nat):PC:={ats:=Zct,rts:=Xi,code:=Uu F}
theorem Zvv(F:Nat):Qg cx 179 (Ylt F):=qE (Yc0 F) (.two .leaf (.two (.join [(.normal,⟨[.slot 6 (.val (.bool))],[]⟩)] ⟨(6::kD 14 8 []),[],[]⟩ .leaf) .leaf)) f179 (by kernel_rfl) fun a=>by kernel_rfl
def Yhi(F:Nat):LK:=lC (Zvv F) (lC (Zni F) (lC (Zkq F) (lC (Zkn F) lN)))
def c99(F:Nat)(a:ByteArray×Int×ByteArray):Option (Int):=
 bif Qc a.1 YN then((Qp4 F a.2.2).bind fun v66=>(Jk F (!v66,(1:Int))).bind fun v67=>(Jk F (!decide (a.2.1=0),(3:Int))).bind fun v68=>(Vd F (v67::v68::Qa Int)).bind fun v69=>some (v69))else((bif Qc a.1 YL then((Jk F (!Qc a.2.2 YD,(1:Int))).bind fun v88=>(Uu F (a.2.1,(1:Int),(863999999:Int))).bind fun v89=>(Jk F (v89,(3:Int))).bind fun v90=>(Vd F ((0:Int)::v88::v90::Qa Int)).bind fun v91=>some (v91))else(bif Qc a.1 YM then((Jk F (!Qc a.2.2 YD,(1:Int))).bind fun v92=>(Uu F (a.2.1,(0:Int),(999999:Int))).bind fun v93=>(Jk F (v93,(3:Int))).bind fun v94=>(Vd F ((0:Int)::v92::v94::Qa Int)).bind fun v95=>some (v95))else(bif Qc a.1 YO then((Jk F (!Qc a.2.2 YD,(1:Int))).bind fun v96=>(Uu F (a.2.1,(0:Int),(99999:Int))).bind fun v97=>(Jk F (v97,(3:Int))).bind fun v98=>(Vd F ((0:Int)::v96::v98::Qa Int)).bind fun v99=>some (v99))else((Jk F (!Qc a.2.2 YD,(1:Int))).bind fun v100=>(Uu F (a.2.1,(0:Int),(0:Int))).bind fun v101=>(Jk F (v101,(3:Int))).bind fun v102=>(Vd F ((13:Int)::v100::v102::Qa Int)).bind fun v103=>some (v103))))).bind fun v70=>(bif Qc a.1 YL then((Jk F (!Qc a.2.2 YD,(1:Int))).bind fun v72=>(Uu F (a.2.1,(1:Int),(863999999:Int))).bind fun v73=>(Jk F (v73,(3:Int))).bind fun v74=>(Vd F ((0:Int)::v72::v74::Qa Int)).bind fun v75=>some (v75))else(bif Qc a.1 YM then((Jk F (!Qc a.2.2 YD,(1:Int))).bind fun v76=>(Uu F (a.2.1,(0:Int),(999999:Int))).bind fun v77=>(Jk F (v77,(3:Int))).bind fun v78=>(Vd F ((0:Int)::v76::v78::Qa Int)).bind fun v79=>some (v79))else(bif Qc a.1 YO then((Jk F (!Qc a.2.2 YD,(1:Int))).bind fun v80=>(Uu F (a.2.1,(0:Int),(99999:Int))).bind fun v81=>(Jk F (v81,(3:Int))).bind fun v82=>(Vd F ((0:Int)::v80::v82::Qa Int)).bind fun v83=>some (v83))else((Jk F (!Qc a.2.2 YD,(1:Int))).bind fun v84=>(Uu F (a.2.1,(0:Int),(0:Int))).bind fun v85=>(Jk F (v85,(3:Int))).bind fun v86=>(Vd F ((13:Int)::v84::v86::Qa Int)).bind fun v87=>some (v87))))).bind fun v71=>gd (Qt.eqv (Qe.val (Ty.int I)::Qa Qe) v70 v71) (some (v70)))
def Qs4(F:Nat):PC:={ats:=[.agg kt7],rts:=Zj,code:=c99 F}
theorem Vt(F:Nat):Qg cx 99 (Qs4 F):=qE (Yhi F) (Q5 2 (.two (.within [(178,.leaf)]) .leaf)) f99 (by kernel_rfl) fun a=>by kernel_rfl
def Zwk(F:Nat):LK:=lN
def Jj(F:Nat)(a:(Yu)×ByteArray×Int×ByteArray):Option (Bool):=
 (bif Qc a.2.1 a.1.2.1 then(some (true))else(some (Qc a.2.1 YN))).bind fun v5=>some (v5)
def Ybn(F:Nat):PC:={ats:=[.agg kt4,.agg kt7],rts:=Xi,code:=Jj F}
theorem Qoy(F:Nat):Qg cx 155 (Ybn F):=qE (Zwk F) (.two .leaf (.two (.join [(.normal,⟨[.slot 4 (.val (.bool))],[]⟩)] ⟨(4::kD 14 10 []),[],[]⟩ .leaf) .leaf)) f155 (by kernel_rfl) fun a=>by kernel_rfl
def Yos(F:Nat):LK:=lC (Ww F) (lC (Yd F) (lC (Ks F) (lC (Zlz F) (lC (Ym F) (lC (Qoy F) (lC (Vt F) lN))))))
def c93(F:Nat)(a:Yu):Option (Int):=
 ((Kh F (YL::YM::YO::Qa ByteArray,a.2.1)).bind fun v63=>(Qn F (!v63,(13:Int))).bind fun v64=>bif !Qc a.2.2.1 YD then((c98 F a.2.2.1).bind fun v65=>(Qn F (!v65,(8:Int))).bind fun v66=>(c87 F (a.2.2.2.1,(120:Int))).bind fun v67=>(c87 F (a.2.2.2.2.1,(120:Int))).bind fun v68=>(Qn F (decide (a.2.2.2.2.1<a.2.2.2.1),(11:Int))).bind fun v69=>(Q2 F (v64::v66::v67::v68::v69::Qa Int)).bind fun v70=>some (v70))else((c87 F (a.2.2.2.1,(120:Int))).bind fun v71=>(c87 F (a.2.2.2.2.1,(120:Int))).bind fun v72=>(Qn F (decide (a.2.2.2.2.1<a.2.2.2.1),(11:Int))).bind fun v73=>(Q2 F (v64::(0:Int)::v71::v72::v73::Qa Int)).bind fun v74=>some (v74))).bind fun v55=>bif !decide (v55=0)then(some (v55))else((c87 F (a.2.2.2.2.2.1,(160:Int))).bind fun v56=>(c87 F (a.2.2.2.2.2.2.1,(160:Int))).bind fun v57=>(c87 F (a.2.2.2.2.2.2.2.2.2.2,(8:Int))).bind fun v58=>(c99 F (a.2.2.2.2.2.2.2.1,a.2.2.2.2.2.2.2.2.1,a.2.2.2.2.2.2.2.2.2.1)).bind fun v59=>(Jj F (a,a.2.2.2.2.2.2.2.1,a.2.2.2.2.2.2.2.2.1,a.2.2.2.2.2.2.2.2.2.1)).bind fun v60=>(Qn F (!v60,(13:Int))).bind fun v61=>(Q2 F (v56::v57::v58::v59::v61::Qa Int)).bind fun v62=>some (v62))
def Zp9(F:Nat):PC:={ats:=[.agg kt4],rts:=Zj,code:=c93 F}
theorem Qtp(F:Nat):Qg cx 93 (Zp9 F):=qE (Yos F) (Q5 2 (.two (.two (.join [(.normal,⟨[.slot 4 (.val (.int .i64))],[]⟩)] ⟨(4::kD 35 30 []),[],[]⟩ .leaf) .leaf) .leaf)) f93 (by kernel_rfl) fun a=>by kernel_rfl
def Yb9:Qm:=⟨[.slot 0 (.agg kt4),.one 0 110 kt4],[(1,.stat (.ptr 0 11 0 0))]⟩
def Zzp:Qm:=⟨[.slot 0 (.val (.bool))],[]⟩
def Zrf(F:Nat):LK:=lN
def Yox(F:Nat):PX:=qX (Zrf F) .leaf f91 (pxB 2 [.arg 1] Yb9 1 Zzp [] [])
theorem Qne(F:Nat):Zi cx 91 (Yox F):=Vr (by kernel_rfl)
def Zsc:Qm:=⟨[.slot 0 (.val (.seq kt4)),.one 0 110 kt4],[(1,.stat (.fn (.func 91) [] [.ptr 0 11 0 0]))]⟩
def Yb6:Qm:=⟨[.slot 0 (.val (.int .i64))],[]⟩
def Ykx(F:Nat):LK:=lX (Qne F) lN
def Qsu(F:Nat)(a:List (Yu)×Yu):Option (Int):=
 (Q4 (U:=Int) (β:=Int ⊕ Unit) (fun v13=>bif decide (v13<(↑(a.1.length):Int))then(gd (decide (0<=v13)) (gd (decide (v13<(↑(a.1.length):Int))) (gd (decide (v13.toNat<a.1.length)) (bif Qc (a.1.getD (v13.toNat) Zd).1 a.2.1 then(some (j (C v13)))else(some (C (w64 (v13+1))))))))else(some (j (j ())))) F ((0:Int))).bind fun v10=>J (fun v11=>some (v11)) (fun v12=>some ((-1:Int))) (v10)
def Yk4(F:Nat):PX:={np:=2,locs:=[.cap (.arg 1) 0],O:=Zsc,nr:=1,ω:=Yb6,ids:=[],mv:=[],code:=Qsu F}
theorem Qkw(F:Nat):Zi cx 154 (Yk4 F):=Yn (Ykx F) (.two .leaf (.two (.two .leaf (.one (.loop ⟨[.slot 8 (.val (.int .i64))],[]⟩ [(.ret,⟨[.slot 4 (.val (.int .i64))],[]⟩),(.exit 0,⟨[],[]⟩)] ⟨[18,8,11,12,13,14,15,16,4,17,5,10,9],[],[]⟩ F .leaf))) .leaf)) f154 (by kernel_rfl) fun a=>by kernel_rfl
def Yoy:Qm:=⟨[.slot 0 (.val (.seq kt4)),.one 0 110 kt4],[(1,.stat (.fn (.func 91) [] [.ptr 0 11 0 0]))]⟩
def Yii:Qm:=⟨[.slot 0 (.val (.bool))],[]⟩
def Zr5(F:Nat):LK:=lX (Qne F) (lX (Qkw F) lN)
def Qsn(F:Nat)(a:List (Yu)×Yu):Option (Bool):=
 (Qsu F a).bind fun v5=>some (decide (0<=v5))
def Zta(F:Nat):PX:={np:=2,locs:=[.cap (.arg 1) 0],O:=Yoy,nr:=1,ω:=Yii,ids:=[],mv:=[],code:=Qsn F}
theorem Que(F:Nat):Zi cx 90 (Zta F):=Yn (Zr5 F) .leaf f90 (by kernel_rfl) fun a=>by kernel_rfl
def Zpm:Qm:=⟨[.slot 0 (.val (.int .i64)),.slot 1 (.agg kt4),.one 0 24 Xj],[(2,.stat (.ptr 0 5 0 0))]⟩
def Ylm:Qm:=⟨[.slot 0 (.val (.int .i64))],[]⟩
def Zqd(F:Nat):LK:=lC (Kq F) (lC (Yd F) (lC (Qtp F) (lC (Ym F) (lX (Qne F) (lX (Qkw F) (lX (Que F) lN))))))
def Qqb(F:Nat)(a:Int×(Yu)×Zc):Option (Int):=
 gd (decide (0<=a.1)) (gd (decide (a.1<=(↑(a.2.2.2.2.2.2.length):Int))) ((Qsn F (ZG (0:Nat) (ZH (a.1.toNat) a.2.2.2.2.2.2),a.2.1.1,a.2.1.2.1,a.2.1.2.2.1,a.2.1.2.2.2.1,a.2.1.2.2.2.2.1,a.2.1.2.2.2.2.2.1,a.2.1.2.2.2.2.2.2.1,a.2.1.2.2.2.2.2.2.2.1,a.2.1.2.2.2.2.2.2.2.2.1,a.2.1.2.2.2.2.2.2.2.2.2.1,a.2.1.2.2.2.2.2.2.2.2.2.2)).bind fun v13=>(c92 F a.2.1.1).bind fun v14=>(Qn F (v13,(9:Int))).bind fun v15=>(c93 F a.2.1).bind fun v16=>(Q2 F (v14::v15::v16::Qa Int)).bind fun v17=>some (v17)))
def Yre(F:Nat):PX:={np:=3,locs:=[.arg 2],O:=Zpm,nr:=1,ω:=Ylm,ids:=[],mv:=[],code:=Qqb F}
theorem Zil(F:Nat):Zi cx 89 (Yre F):=Yn (Zqd F) .leaf f89 (by kernel_rfl) fun a=>by kernel_rfl
def Yja:Qm:=⟨[.slot 0 (.val (.seq kt4)),.one 0 24 Xj],[(1,.stat (.fn (.func 89) [] [.ptr 0 5 0 0]))]⟩
def Zzi:Qm:=⟨[.slot 0 (.val (.int .i64))],[]⟩
def Ybl(F:Nat):LK:=lC (Kq F) (lC (Yd F) (lC (Qtp F) (lC (Ym F) (lX (Qne F) (lX (Qkw F) (lX (Que F) (lX (Zil F) lN)))))))
def Qo2(F:Nat)(a:List (Yu)×Zc):Option (Int):=
 (Q4 (U:=Int) (β:=Int ⊕ Unit) (fun v15=>bif decide (v15<(↑(a.1.length):Int))then(gd (decide (0<=v15)) (gd (decide (v15<(↑(a.1.length):Int))) (gd (decide (v15.toNat<a.1.length)) ((Qqb F (v15,(a.1.getD (v15.toNat) Zd),a.2.1,a.2.2.1,a.2.2.2.1,a.2.2.2.2.1,a.2.2.2.2.2)).bind fun v16=>bif !decide (v16=0)then(some (j (C v16)))else(some (C (w64 (v15+1))))))))else(some (j (j ())))) F ((0:Int))).bind fun v12=>J (fun v13=>some (v13)) (fun v14=>some ((0:Int))) (v12)
def Zum(F:Nat):PX:={np:=2,locs:=[.cap (.arg 1) 0],O:=Yja,nr:=1,ω:=Zzi,ids:=[],mv:=[],code:=Qo2 F}
theorem Zyt(F:Nat):Zi cx 88 (Zum F):=Yn (Ybl F) (.two .leaf (.two (.two .leaf (.one (.loop ⟨[.slot 10 (.val (.int .i64))],[]⟩ [(.ret,⟨[.slot 4 (.val (.int .i64))],[]⟩),(.exit 0,⟨[],[]⟩)] ⟨[22,10,15,16,17,18,7,21,4,20,19,5,6,14,13,12,11],[],[]⟩ F .leaf))) .leaf)) f88 (by kernel_rfl) fun a=>by kernel_rfl
def Ye0(F:Nat):LK:=lC (Kq F) (lC (Qtp F) (lC (Ym F) (lC (Zlz F) (lC (Yd F) (lC (Va F) (lX (Qne F) (lX (Qkw F) (lX (Que F) (lX (Zil F) (lX (Zyt F) lN))))))))))
def c21(F:Nat)(a:Zc):Option (Int):=
 ((Ye F (a.1::a.2.1::a.2.2.1::Qa Int)).bind fun v33=>bif decide (a.2.2.1<a.2.1)then((c87 F (a.2.2.2.1,(32:Int))).bind fun v34=>(Qn F (decide (32<(↑(a.2.2.2.2.length):Int)),(5:Int))).bind fun v35=>(Q2 F (v33::(11:Int)::v34::v35::Qa Int)).bind fun v36=>some (v36))else((Qn F (decide (a.1<a.2.2.1),(11:Int))).bind fun v37=>(c87 F (a.2.2.2.1,(32:Int))).bind fun v38=>(Qn F (decide (32<(↑(a.2.2.2.2.length):Int)),(5:Int))).bind fun v39=>(Q2 F (v33::v37::v38::v39::Qa Int)).bind fun v40=>some (v40))).bind fun v31=>bif !decide (v31=0)then(some (v31))else((Qo2 F (a.2.2.2.2,a.1,a.2.1,a.2.2.1,a.2.2.2.1,a.2.2.2.2)).bind fun v32=>some (v32))
def Qu6(F:Nat):PC:={ats:=[.agg Xj],rts:=Zj,code:=c21 F}
theorem Qlh(F:Nat):Qg cx 21 (Qu6 F):=qE (Ye0 F) (.two .leaf (.two (.two (.join [(.normal,⟨[.slot 3 (.val (.int .i64))],[]⟩)] ⟨(3::kD 34 31 []),[],[]⟩ .leaf) .leaf) .leaf)) f21 (by kernel_rfl) fun a=>by kernel_rfl
def Ye9(F:Nat):LK:=lN
def Qx5(F:Nat):PC:=qT (Ye9 F) .leaf f105 Vf Xi
theorem Qyz(F:Nat):Qg cx 105 (Qx5 F):=Qt9 (by kernel_rfl)
def Zr8:Qm:=⟨[.slot 0 (.agg kt4),.one 0 9 Z9],[(1,.stat (.ptr 0 1 0 0))]⟩
def Zvp:Qm:=⟨[.slot 0 (.val (.bool))],[]⟩
def Znw(F:Nat):LK:=lN
def Zs0(F:Nat):PX:=qX (Znw F) .leaf f195 (pxB 2 [.arg 1] Zr8 1 Zvp [] [])
theorem Zca(F:Nat):Zi cx 195 (Zs0 F):=Vr (by kernel_rfl)
def Yov:Qm:=⟨[.slot 0 (.val (.seq kt4)),.one 0 9 Z9],[(1,.stat (.fn (.func 195) [] [.ptr 0 1 0 0]))]⟩
def Znt:Qm:=⟨[.slot 0 (.val (.int .i64))],[]⟩
def Zn2(F:Nat):LK:=lX (Zca F) lN
def Qoi(F:Nat)(a:List (Yu)×ByteArray):Option (Int):=
 (Q4 (U:=Int) (β:=Int ⊕ Unit) (fun v13=>bif decide (v13<(↑(a.1.length):Int))then(gd (decide (0<=v13)) (gd (decide (v13<(↑(a.1.length):Int))) (gd (decide (v13.toNat<a.1.length)) (bif Qc (a.1.getD (v13.toNat) Zd).1 a.2 then(some (j (C v13)))else(some (C (w64 (v13+1))))))))else(some (j (j ())))) F ((0:Int))).bind fun v10=>J (fun v11=>some (v11)) (fun v12=>some ((-1:Int))) (v10)
def Ygs(F:Nat):PX:={np:=2,locs:=[.cap (.arg 1) 0],O:=Yov,nr:=1,ω:=Znt,ids:=[],mv:=[],code:=Qoi F}
theorem Ymw(F:Nat):Zi cx 154 (Ygs F):=Yn (Zn2 F) (.two .leaf (.two (.two .leaf (.one (.loop ⟨[.slot 8 (.val (.int .i64))],[]⟩ [(.ret,⟨[.slot 4 (.val (.int .i64))],[]⟩),(.exit 0,⟨[],[]⟩)] ⟨[18,8,11,12,13,14,15,16,4,17,5,10,9],[],[]⟩ F .leaf))) .leaf)) f154 (by kernel_rfl) fun a=>by kernel_rfl
def Zv1(F:Nat):LK:=lX (Qkw F) (lX (Zca F) (lX (Ymw F) lN))
def Qcy(F:Nat)(a:(Zc)×ByteArray):Option ((Yu)×Bool):=
 (Qoi F (a.1.2.2.2.2,a.2)).bind fun v5=>bif decide (v5<0)then(some (((YD,YD,YD,(0:Int),(0:Int),(0:Int),(0:Int),YD,(0:Int),YD,(0:Int)),false)))else(gd (decide (0<=v5)) (gd (decide (v5<(↑(a.1.2.2.2.2.length):Int))) (gd (decide (v5.toNat<a.1.2.2.2.2.length)) (some (((a.1.2.2.2.2.getD (v5.toNat) Zd),true))))))
def Zd1(F:Nat):PC:={ats:=[.agg Xj,.val (.str)],rts:=[.agg kt4,.val (.bool)],code:=Qcy F}
theorem Qd3(F:Nat):Qg cx 131 (Zd1 F):=qE (Zv1 F) .leaf f131 (by kernel_rfl) fun a=>by kernel_rfl
def Zve:Qm:=⟨[.slot 0 (.agg kt3),.one 0 9 Z9],[(1,.stat (.ptr 0 1 0 0))]⟩
def Yp9:Qm:=⟨[.slot 0 (.val (.bool))],[]⟩
def Yoq(F:Nat):LK:=lN
def Zzz(F:Nat):PX:=qX (Yoq F) .leaf f185 (pxB 2 [.arg 1] Zve 1 Yp9 [] [])
theorem Zb2(F:Nat):Zi cx 185 (Zzz F):=Vr (by kernel_rfl)
def Zn1:Qm:=⟨[.slot 0 (.val (.seq kt3)),.one 0 9 Z9],[(1,.stat (.fn (.func 185) [] [.ptr 0 1 0 0]))]⟩
def Yn4:Qm:=⟨[.slot 0 (.val (.int .i64))],[]⟩
def Zwo(F:Nat):LK:=lX (Zb2 F) lN
def Qp7(F:Nat)(a:List (Qs)×ByteArray):Option (Int):=
 (Q4 (U:=Int) (β:=Int ⊕ Unit) (fun v13=>bif decide (v13<(↑(a.1.length):Int))then(gd (decide (0<=v13)) (gd (decide (v13<(↑(a.1.length):Int))) (gd (decide (v13.toNat<a.1.length)) (bif Qc (a.1.getD (v13.toNat) Zy).1 a.2 then(some (j (C v13)))else(some (C (w64 (v13+1))))))))else(some (j (j ())))) F ((0:Int))).bind fun v10=>J (fun v11=>some (v11)) (fun v12=>some ((-1:Int))) (v10)
def Yen(F:Nat):PX:={np:=2,locs:=[.cap (.arg 1) 0],O:=Zn1,nr:=1,ω:=Yn4,ids:=[],mv:=[],code:=Qp7 F}
theorem Qun(F:Nat):Zi cx 184 (Yen F):=Yn (Zwo F) (.two .leaf (.two (.two .leaf (.one (.loop ⟨[.slot 8 (.val (.int .i64))],[]⟩ [(.ret,⟨[.slot 4 (.val (.int .i64))],[]⟩),(.exit 0,⟨[],[]⟩)] ⟨[18,8,11,12,13,14,15,16,4,17,5,10,9],[],[]⟩ F .leaf))) .leaf)) f184 (by kernel_rfl) fun a=>by kernel_rfl
def Zv8(F:Nat):LK:=lX (Zb2 F) (lX (Qun F) lN)
def Jt(F:Nat)(a:(Qh)×ByteArray):Option (Int):=
 (Qp7 F (a.1.2.1,a.2)).bind fun v5=>some (v5)
def Zdq(F:Nat):PC:={ats:=Qfe,rts:=Zj,code:=Jt F}
theorem Y4(F:Nat):Qg cx 110 (Zdq F):=qE (Zv8 F) .leaf f110 (by kernel_rfl) fun a=>by kernel_rfl
def Zub:Qm:=⟨[.slot 0 (.agg kt9),.one 0 9 Z9,.one 1 9 Z9],[(1,.stat (.ptr 0 1 0 0)),(2,.stat (.ptr 1 1 0 0))]⟩
def Yo7:Qm:=⟨[.slot 0 (.val (.bool))],[]⟩
def Zrr(F:Nat):LK:=lN
def Qqm(F:Nat)(a:(Qv)×ByteArray×ByteArray):Option (Bool):=
 (bif Qc a.1.1 a.2.1 then(some (Qc a.1.2.1 a.2.2))else(some (false))).bind fun v5=>some (v5)
def Yd6(F:Nat):PX:={np:=3,locs:=[.arg 1,.arg 2],O:=Zub,nr:=1,ω:=Yo7,ids:=[],mv:=[],code:=Qqm F}
theorem Zgz(F:Nat):Zi cx 226 (Yd6 F):=Yn (Zrr F) (.two .leaf (.two (.join [(.normal,⟨[.slot 4 (.val (.bool))],[]⟩)] ⟨(4::kD 14 10 []),[],[]⟩ .leaf) .leaf)) f226 (by kernel_rfl) fun a=>by kernel_rfl
def Znf:Qm:=⟨[.slot 0 (.val (.seq kt9)),.one 0 9 Z9,.one 1 9 Z9],[(1,.stat (.fn (.func 226) [] [.ptr 0 1 0 0,.ptr 1 1 0 0]))]⟩
def Yb0:Qm:=⟨[.slot 0 (.val (.int .i64))],[]⟩
def Yq3(F:Nat):LK:=lX (Zgz F) lN
def Qqz(F:Nat)(a:List (Qv)×ByteArray×ByteArray):Option (Int):=
 (Q4 (U:=Int) (β:=Int ⊕ Unit) (fun v15=>bif decide (v15<(↑(a.1.length):Int))then(gd (decide (0<=v15)) (gd (decide (v15<(↑(a.1.length):Int))) (gd (decide (v15.toNat<a.1.length)) ((Qqm F ((a.1.getD (v15.toNat) YB),a.2.1,a.2.2)).bind fun v16=>bif v16 then(some (j (C v15)))else(some (C (w64 (v15+1))))))))else(some (j (j ())))) F ((0:Int))).bind fun v12=>J (fun v13=>some (v13)) (fun v14=>some ((-1:Int))) (v12)
def Ym4(F:Nat):PX:={np:=2,locs:=[.cap (.arg 1) 0,.cap (.arg 1) 1],O:=Znf,nr:=1,ω:=Yb0,ids:=[],mv:=[],code:=Qqz F}
theorem Qvp(F:Nat):Zi cx 225 (Ym4 F):=Yn (Yq3 F) (.two .leaf (.two (.two .leaf (.one (.loop ⟨[.slot 8 (.val (.int .i64))],[]⟩ [(.ret,⟨[.slot 4 (.val (.int .i64))],[]⟩),(.exit 0,⟨[],[]⟩)] ⟨[18,8,11,12,13,14,15,16,4,17,5,10,9],[],[]⟩ F .leaf))) .leaf)) f225 (by kernel_rfl) fun a=>by kernel_rfl
def Zz2(F:Nat):LK:=lX (Zgz F) (lX (Qvp F) lN)
def Qjs(F:Nat)(a:(Qh)×ByteArray×ByteArray):Option (Int):=
 (Qqz F (a.1.2.2.2.2,a.2.1,a.2.2)).bind fun v5=>some (v5)
def Qvd(F:Nat):PC:={ats:=Ql8,rts:=Zj,code:=Qjs F}
theorem Vb(F:Nat):Qg cx 187 (Qvd F):=qE (Zz2 F) .leaf f187 (by kernel_rfl) fun a=>by kernel_rfl
def Ylc(F:Nat):LK:=lC (Ww F) lN
def Kl(F:Nat)(a:(Qh)×ByteArray):Option (Bool):=
 (Kh F (a.1.1,a.2)).bind fun v5=>some (v5)
def Zir(F:Nat):PC:={ats:=Qfe,rts:=Xi,code:=Kl F}
theorem Ko(F:Nat):Qg cx 111 (Zir F):=qE (Ylc F) .leaf f111 (by kernel_rfl) fun a=>by kernel_rfl
end
end Go.Proofs.Tryz

/- Functions of the program as functions of data. By program. -/
import Derived.Test.YtpkbmngnolhopaaGreatDoorXTeB1
set_option maxRecDepth 100000
set_option linter.all false
open List renaming length->j,take->C,drop->I,set->ZA
open Int renaming toNat->o,tdiv->U
open Sum renaming inr->J,inl->R
namespace Go.Proofs.Tryz
open Go Go.Sx
noncomputable section
def Yrx(F:Nat):LK:=lC (Yb F) (lC (Kg F) lN)
def Qpl(F:Nat)(a:(Zr)×(Qm)×Q4):Option (Int):=
 (Ki F (a.2.1,a.2.2.2.2.2.1)).bind fun v7=>(Qn F (v7,(9:Int))).bind fun v8=>some (v8)
def Yj8(F:Nat):PC:={ats:=K8,rts:=Zo,code:=Qpl F}
theorem Qts(F:Nat):Qg cx 158 (Yj8 F):=qE (Yrx F) .leaf f158 (by kernel_rfl) fun a=>by kernel_rfl
def Za5(F:Nat):LK:=lN
def Ql8(F:Nat)(a:List ByteArray):Option (List ByteArray):=
 bif decide (a.length=0)then((gd (decide (j (Qa ByteArray++a)*(16:Nat)<=(140737488355328:Nat))) (gd (decide (j (Qa ByteArray++a)<=9223372036854775807)) (gd (decide (j (Qa ByteArray++a)=j (Qa ByteArray++a))) (some (Qa ByteArray++a))))).bind fun v4=>gd (Wp (Qj.eqv Z3) (Qa ByteArray) v4) (some (Qa ByteArray)))else(gd (decide (j (Qa ByteArray++a)*(16:Nat)<=(140737488355328:Nat))) (gd (decide (j (Qa ByteArray++a)<=9223372036854775807)) (gd (decide (j (Qa ByteArray++a)=j (Qa ByteArray++a))) (some (Qa ByteArray++a)))))
def Qrf(F:Nat):PF:={ats:=Qb3,ty:=9,row:=Z3,code:=Ql8 F}
theorem Zuv(F:Nat)(a:List ByteArray):codeF cx (Za5 F).x 1000 .leaf f150 (Qs f150) Qb3 9 Z3 a=Ql8 F a:=by kernel_rfl
theorem Vf(F:Nat):Wi cx 150 (Qrf F):=Wi.Yg Yh (Za5 F).ok (n:=1000) (an:=.leaf) (fn:=f150) (c:=Qs f150) (by kernel_rfl) (by kernel_rfl) (fun a y h=>(Zuv F a).trans h) (by kernel_rfl)
def Zp5(F:Nat):LK:=lS (PF.Qu (Vf F)) lN
def Qy5(F:Nat)(a:List ByteArray×ByteArray):Option (List ByteArray):=
 (Ql8 F a.1).bind fun v5=>gd (decide (v5.length=v5.length)) (gd (decide (j (v5++a.2::Qa ByteArray)*(16:Nat)<=(140737488355328:Nat))) (gd (decide (j (v5++a.2::Qa ByteArray)<=9223372036854775807)) (gd (decide ((0:Nat)+j (v5++a.2::Qa ByteArray)<=j (v5++a.2::Qa ByteArray))) (some (C (j (v5++a.2::Qa ByteArray)) (I (0:Nat) (v5++a.2::Qa ByteArray)))))))
def Zhx(F:Nat):PC:={ats:=Qp2,rts:=Qb3,code:=Qy5 F}
theorem Qm7(F:Nat):Qg cx 160 (Zhx F):=qE (Zp5 F) .leaf f160 (by kernel_rfl) fun a=>by kernel_rfl
def Yk6(F:Nat):LK:=lC (Yj F) (lC (Xu F) (lC (Yb F) (lC (Kg F) lN)))
def Qos(F:Nat)(a:(Zr)×(Qm)×Q4):Option (Int):=
 (Ki F (a.2.1,a.2.2.2.2.2.1)).bind fun v15=>(Qn F (!v15,(10:Int))).bind fun v16=>(Jt F (a.2.1,a.2.2.2.2.1)).bind fun v17=>(Qn F (decide (0<=v17),(9:Int))).bind fun v18=>(Qn F (decide (a.2.2.1<a.2.2.2.2.2.2.2.2.1),(3:Int))).bind fun v19=>(Qy F (v16::v18::v19::Qa Int)).bind fun v20=>some (v20)
def Zqt(F:Nat):PC:={ats:=K8,rts:=Zo,code:=Qos F}
theorem Qy2(F:Nat):Qg cx 161 (Zqt F):=qE (Yk6 F) .leaf f161 (by kernel_rfl) fun a=>by kernel_rfl
def Zgj(F:Nat):LK:=lN
def Qgz(F:Nat)(a:List (Q3)):Option (List (Q3)):=
 bif decide (a.length=0)then((gd (decide (j (Qa (Q3)++a)*(56:Nat)<=(140737488355328:Nat))) (gd (decide (j (Qa (Q3)++a)<=9223372036854775807)) (gd (decide (j (Qa (Q3)++a)=j (Qa (Q3)++a))) (some (Qa (Q3)++a))))).bind fun v4=>gd (Wp (Qj.eqv kt3) (Qa (Q3)) v4) (some (Qa (Q3))))else(gd (decide (j (Qa (Q3)++a)*(56:Nat)<=(140737488355328:Nat))) (gd (decide (j (Qa (Q3)++a)<=9223372036854775807)) (gd (decide (j (Qa (Q3)++a)=j (Qa (Q3)++a))) (some (Qa (Q3)++a)))))
def Qok(F:Nat):PF:={ats:=Qxf,ty:=116,row:=kt3,code:=Qgz F}
theorem Zwa(F:Nat)(a:List (Q3)):codeF cx (Zgj F).x 1000 .leaf f199 (Qs f199) Qxf 116 kt3 a=Qgz F a:=by kernel_rfl
theorem Wo(F:Nat):Wi cx 199 (Qok F):=Wi.Yg Yh (Zgj F).ok (n:=1000) (an:=.leaf) (fn:=f199) (c:=Qs f199) (by kernel_rfl) (by kernel_rfl) (fun a y h=>(Zwa F a).trans h) (by kernel_rfl)
def Zo5(F:Nat):LK:=lS (PF.Qu (Wo F)) lN
def Qx2(F:Nat)(a:List (Q3)×Q3):Option (List (Q3)):=
 tw (X:=List (Q3)) (Qt.eqv (Qe.val (Ty.seq kt3)::Qa Qe)) ((Qgz F a.1).bind fun v13=>gd (decide (v13.length=v13.length)) (gd (decide (j (v13++a.2::Qa (Q3))*(56:Nat)<=(140737488355328:Nat))) (gd (decide (j (v13++a.2::Qa (Q3))<=9223372036854775807)) (gd (decide ((0:Nat)+j (v13++a.2::Qa (Q3))<=j (v13++a.2::Qa (Q3)))) (some (C (j (v13++a.2::Qa (Q3))) (I (0:Nat) (v13++a.2::Qa (Q3)))))))))
def Zea(F:Nat):PC:={ats:=[.val (.seq kt3),.agg kt3],rts:=Qxf,code:=Qx2 F}
theorem Qkn(F:Nat):Qg cx 213 (Zea F):=qE (Zo5 F) .leaf f213 (by kernel_rfl) fun a=>by kernel_rfl
def Yma(F:Nat):LK:=lC (Yb F) (lC (Xu F) lN)
def Qo7(F:Nat)(a:(Zr)×(Qm)×Q4):Option (Int):=
 (Jt F (a.2.1,a.2.2.2.2.1)).bind fun v7=>(Qn F (decide (v7<0),(10:Int))).bind fun v8=>some (v8)
def Zqe(F:Nat):PC:={ats:=K8,rts:=Zo,code:=Qo7 F}
theorem Qwm(F:Nat):Qg cx 163 (Zqe F):=qE (Yma F) .leaf f163 (by kernel_rfl) fun a=>by kernel_rfl
def Zgv(F:Nat):LK:=lN
def Qjz(F:Nat)(a:List (Zc)):Option (List (Zc)):=
 bif decide (a.length=0)then((gd (decide (j (Qa (Zc)++a)*(32:Nat)<=(140737488355328:Nat))) (gd (decide (j (Qa (Zc)++a)<=9223372036854775807)) (gd (decide (j (Qa (Zc)++a)=j (Qa (Zc)++a))) (some (Qa (Zc)++a))))).bind fun v4=>gd (Wp (Qj.eqv kt2) (Qa (Zc)) v4) (some (Qa (Zc))))else(gd (decide (j (Qa (Zc)++a)*(32:Nat)<=(140737488355328:Nat))) (gd (decide (j (Qa (Zc)++a)<=9223372036854775807)) (gd (decide (j (Qa (Zc)++a)=j (Qa (Zc)++a))) (some (Qa (Zc)++a)))))
def Qr8(F:Nat):PF:={ats:=Qy6,ty:=124,row:=kt2,code:=Qjz F}
theorem Zn9(F:Nat)(a:List (Zc)):codeF cx (Zgv F).x 1000 .leaf f200 (Qs f200) Qy6 124 kt2 a=Qjz F a:=by kernel_rfl
theorem Qqj(F:Nat):Wi cx 200 (Qr8 F):=Wi.Yg Yh (Zgv F).ok (n:=1000) (an:=.leaf) (fn:=f200) (c:=Qs f200) (by kernel_rfl) (by kernel_rfl) (fun a y h=>(Zn9 F a).trans h) (by kernel_rfl)
def Yey(F:Nat):LK:=lS (PF.Qu (Qqj F)) lN
def Qyo(F:Nat)(a:List (Zc)×Zc):Option (List (Zc)):=
 tw (X:=List (Zc)) (Qt.eqv (Qe.val (Ty.seq kt2)::Qa Qe)) ((Qjz F a.1).bind fun v13=>gd (decide (v13.length=v13.length)) (gd (decide (j (v13++a.2::Qa (Zc))*(32:Nat)<=(140737488355328:Nat))) (gd (decide (j (v13++a.2::Qa (Zc))<=9223372036854775807)) (gd (decide ((0:Nat)+j (v13++a.2::Qa (Zc))<=j (v13++a.2::Qa (Zc)))) (some (C (j (v13++a.2::Qa (Zc))) (I (0:Nat) (v13++a.2::Qa (Zc)))))))))
def Zky(F:Nat):PC:={ats:=[.val (.seq kt2),.agg kt2],rts:=Qy6,code:=Qyo F}
theorem Qm2(F:Nat):Qg cx 214 (Zky F):=qE (Yey F) .leaf f214 (by kernel_rfl) fun a=>by kernel_rfl
def Zw3(F:Nat):LK:=lN
def Qie(F:Nat)(a:(Qm)×ByteArray):Option (Int):=
 (Qx (O:=Int×Int) (β:=Int) (fun v10=>bif decide (v10.2<(↑(a.1.2.2.2.1.length):Int))then(gd (decide (0<=v10.2)) (gd (decide (v10.2<(↑(a.1.2.2.2.1.length):Int))) (gd (decide (v10.2.toNat<a.1.2.2.2.1.length)) ((bif Qc (a.1.2.2.2.1.getD (v10.2.toNat) Zk).1 a.2 then(some (w64 (v10.1+1)))else(some v10.1)).bind fun v11=>some (R (v11,w64 (v10.2+1)))))))else(some (J v10.1))) F (((0:Int),(0:Int)))).bind fun v9=>some (v9)
def Yhs(F:Nat):PC:={ats:=Qeu,rts:=Zo,code:=Qie F}
theorem Qns(F:Nat):Qg cx 215 (Yhs F):=qE (Zw3 F) (Q8 2 (.two (.two .leaf (.one (.loop ⟨[.slot 5 (.val (.int .i64)),.slot 11 (.val (.int .i64))],[]⟩ [(.exit 0,⟨[.slot 5 (.val (.int .i64))],[]⟩)] ⟨[21,11,15,16,17,18,5,20,19,7,14,13,12],[],[]⟩ F (Q8 2 (.two (.one (Q8 2 (.join [(.normal,⟨[.slot 5 (.val (.int .i64))],[]⟩)] ⟨[5,20,19],[],[]⟩ .leaf))) .leaf))))) .leaf)) f215 (by kernel_rfl) fun a=>by kernel_rfl
def Zrz(F:Nat):LK:=lC (Ux F) (lC (Yb F) (lC (Qns F) (lC (Yj F) (lC (Kg F) (lC (Xu F) lN)))))
def Qrk(F:Nat)(a:(Zr)×(Qm)×Q4):Option (Int):=
 ((Jt F (a.2.1,a.2.2.2.2.1)).bind fun v27=>bif decide (v27<0)then(some (true))else((Ki F (a.2.1,a.2.2.2.2.2.1)).bind fun v28=>some (!v28))).bind fun v21=>bif v21 then(some ((10:Int)))else((Qcg F (a.2.1,a.2.2.2.2.1)).bind fun v22=>(Qn F (Qc v22 a.2.2.2.2.2.1,(9:Int))).bind fun v23=>(Qie F (a.2.1,a.2.2.2.2.1)).bind fun v24=>(Qn F (decide (0<v24),(19:Int))).bind fun v25=>(Qy F (v23::v25::Qa Int)).bind fun v26=>some (v26))
def Zu3(F:Nat):PC:={ats:=K8,rts:=Zo,code:=Qrk F}
theorem Qx3(F:Nat):Qg cx 165 (Zu3 F):=qE (Zrz F) (.two .leaf (.two (.two (.join [(.normal,⟨[.slot 18 (.val (.bool))],[]⟩)] ⟨(kD 18 12 []),[],[]⟩ .leaf) .leaf) .leaf)) f165 (by kernel_rfl) fun a=>by kernel_rfl
def Yl9(F:Nat):LK:=lC (Yj F) (lC (Zxg F) (lC (Yb F) (lC (Xu F) lN)))
def Qht(F:Nat)(a:(Qm)×(Zr)×(Yk)×ByteArray):Option (Int):=
 ((Jt F (a.1,a.2.2.2)).bind fun v122=>gd (decide (0<=v122)) (gd (decide (v122<(↑(a.1.2.1.length):Int))) (gd (decide (v122.toNat<a.1.2.1.length)) ((bif !Qc a.2.2.1.2.2.1 YC then((Qn F (!Qc a.2.2.1.2.2.1 (a.1.2.1.getD (v122.toNat) Yf).2.2.2,(18:Int))).bind fun v124=>bif decide (a.2.1.1<(a.1.2.1.getD (v122.toNat) Yf).2.2.1)then((W8 F (a.1.2.2.1,a.2.2.2,a.2.1.1)).bind fun v125=>(Qn F (!v125,(7:Int))).bind fun v126=>(Qy F (v124::(18:Int)::v126::Qa Int)).bind fun v127=>some (v127))else(bif decide (w64 (U (w64 (a.2.1.1-(a.1.2.1.getD (v122.toNat) Yf).2.2.1)) (365:Int))<a.2.2.1.2.2.2.1)then((W8 F (a.1.2.2.1,a.2.2.2,a.2.1.1)).bind fun v128=>(Qn F (!v128,(7:Int))).bind fun v129=>(Qy F (v124::(18:Int)::v129::Qa Int)).bind fun v130=>some (v130))else((Qn F (decide (a.2.2.1.2.2.2.2.1<w64 (U (w64 (a.2.1.1-(a.1.2.1.getD (v122.toNat) Yf).2.2.1)) (365:Int))),(18:Int))).bind fun v131=>(W8 F (a.1.2.2.1,a.2.2.2,a.2.1.1)).bind fun v132=>(Qn F (!v132,(7:Int))).bind fun v133=>(Qy F (v124::v131::v133::Qa Int)).bind fun v134=>some (v134))))else(bif decide (a.2.1.1<(a.1.2.1.getD (v122.toNat) Yf).2.2.1)then((W8 F (a.1.2.2.1,a.2.2.2,a.2.1.1)).bind fun v135=>(Qn F (!v135,(7:Int))).bind fun v136=>(Qy F ((0:Int)::(18:Int)::v136::Qa Int)).bind fun v137=>some (v137))else(bif decide (w64 (U (w64 (a.2.1.1-(a.1.2.1.getD (v122.toNat) Yf).2.2.1)) (365:Int))<a.2.2.1.2.2.2.1)then((W8 F (a.1.2.2.1,a.2.2.2,a.2.1.1)).bind fun v138=>(Qn F (!v138,(7:Int))).bind fun v139=>(Qy F ((0:Int)::(18:Int)::v139::Qa Int)).bind fun v140=>some (v140))else((Qn F (decide (a.2.2.1.2.2.2.2.1<w64 (U (w64 (a.2.1.1-(a.1.2.1.getD (v122.toNat) Yf).2.2.1)) (365:Int))),(18:Int))).bind fun v141=>(W8 F (a.1.2.2.1,a.2.2.2,a.2.1.1)).bind fun v142=>(Qn F (!v142,(7:Int))).bind fun v143=>(Qy F ((0:Int)::v141::v143::Qa Int)).bind fun v144=>some (v144))))).bind fun v123=>some (v123))))).bind fun v97=>((Jt F (a.1,a.2.2.2)).bind fun v99=>gd (decide (0<=v99)) (gd (decide (v99<(↑(a.1.2.1.length):Int))) (gd (decide (v99.toNat<a.1.2.1.length)) ((bif !Qc a.2.2.1.2.2.1 YC then((Qn F (!Qc a.2.2.1.2.2.1 (a.1.2.1.getD (v99.toNat) Yf).2.2.2,(18:Int))).bind fun v101=>bif decide (a.2.1.1<(a.1.2.1.getD (v99.toNat) Yf).2.2.1)then((W8 F (a.1.2.2.1,a.2.2.2,a.2.1.1)).bind fun v102=>(Qn F (!v102,(7:Int))).bind fun v103=>(Qy F (v101::(18:Int)::v103::Qa Int)).bind fun v104=>some (v104))else(bif decide (w64 (U (w64 (a.2.1.1-(a.1.2.1.getD (v99.toNat) Yf).2.2.1)) (365:Int))<a.2.2.1.2.2.2.1)then((W8 F (a.1.2.2.1,a.2.2.2,a.2.1.1)).bind fun v105=>(Qn F (!v105,(7:Int))).bind fun v106=>(Qy F (v101::(18:Int)::v106::Qa Int)).bind fun v107=>some (v107))else((Qn F (decide (a.2.2.1.2.2.2.2.1<w64 (U (w64 (a.2.1.1-(a.1.2.1.getD (v99.toNat) Yf).2.2.1)) (365:Int))),(18:Int))).bind fun v108=>(W8 F (a.1.2.2.1,a.2.2.2,a.2.1.1)).bind fun v109=>(Qn F (!v109,(7:Int))).bind fun v110=>(Qy F (v101::v108::v110::Qa Int)).bind fun v111=>some (v111))))else(bif decide (a.2.1.1<(a.1.2.1.getD (v99.toNat) Yf).2.2.1)then((W8 F (a.1.2.2.1,a.2.2.2,a.2.1.1)).bind fun v112=>(Qn F (!v112,(7:Int))).bind fun v113=>(Qy F ((0:Int)::(18:Int)::v113::Qa Int)).bind fun v114=>some (v114))else(bif decide (w64 (U (w64 (a.2.1.1-(a.1.2.1.getD (v99.toNat) Yf).2.2.1)) (365:Int))<a.2.2.1.2.2.2.1)then((W8 F (a.1.2.2.1,a.2.2.2,a.2.1.1)).bind fun v115=>(Qn F (!v115,(7:Int))).bind fun v116=>(Qy F ((0:Int)::(18:Int)::v116::Qa Int)).bind fun v117=>some (v117))else((Qn F (decide (a.2.2.1.2.2.2.2.1<w64 (U (w64 (a.2.1.1-(a.1.2.1.getD (v99.toNat) Yf).2.2.1)) (365:Int))),(18:Int))).bind fun v118=>(W8 F (a.1.2.2.1,a.2.2.2,a.2.1.1)).bind fun v119=>(Qn F (!v119,(7:Int))).bind fun v120=>(Qy F ((0:Int)::v118::v120::Qa Int)).bind fun v121=>some (v121))))).bind fun v100=>some (v100))))).bind fun v98=>gd (Qt.eqv (Qe.val (Ty.int Go.IntKind.i64)::Qa Qe) v97 v98) (some (v97))
def Zyn(F:Nat):PC:={ats:=[.agg Zn,.agg Xo,.agg kt4,.val (.str)],rts:=Zo,code:=Qht F}
theorem Qjj(F:Nat):Qg cx 140 (Zyn F):=qE (Yl9 F) (Q8 3 (.two (.join [(.normal,⟨[.slot 8 (.val (.int .i64))],[]⟩)] ⟨(8::kD 62 39 []),[],[]⟩ .leaf) .leaf)) f140 (by kernel_rfl) fun a=>by kernel_rfl
def Zui(F:Nat):LK:=lN
def Qoz(F:Nat)(a:(ByteArray×Int×ByteArray)×ByteArray×Int×ByteArray):Option (Bool):=
 (bif !Qc a.1.1 a.2.1 then(bif !Qc a.1.1 YN then(some (!Qc a.2.1 YN))else(some (false)))else(some (false))).bind fun v5=>some (v5)
def Zwz(F:Nat):PC:={ats:=[.agg kt7,.agg kt7],rts:=Xp,code:=Qoz F}
theorem Ynw(F:Nat):Qg cx 240 (Zwz F):=qE (Zui F) (.two .leaf (.two (.join [(.normal,⟨[.slot 4 (.val (.bool))],[]⟩)] ⟨(4::kD 19 15 []),[],[]⟩ .leaf) .leaf)) f240 (by kernel_rfl) fun a=>by kernel_rfl
def Zxp(F:Nat):LK:=lN
def Qm8(F:Nat)(a:ByteArray×Int×ByteArray):Option (Int):=
 tw (X:=Int) (Qt.eqv (Qe.val (Ty.int Go.IntKind.i64)::Qa Qe)) (bif Qc a.1 YL then(some (Go.IntKind.wrap Go.IntKind.i64 ((0:Int)-a.2.1)))else(bif Qc a.1 YM then(some a.2.1)else(bif Qc a.1 YO then(some a.2.1)else(some ((-864000000:Int))))))
def Zuw(F:Nat):PC:={ats:=[.agg kt7],rts:=Zo,code:=Qm8 F}
theorem Ztj(F:Nat):Qg cx 252 (Zuw F):=qE (Zxp F) (.two .leaf (.two (.within [(178,.leaf)]) .leaf)) f252 (by kernel_rfl) fun a=>by kernel_rfl
def Zzv(F:Nat):LK:=lC (Ztj F) lN
def Qqy(F:Nat)(a:(ByteArray×Int×ByteArray)×ByteArray×Int×ByteArray):Option (Int):=
 (Qm8 F a.1).bind fun v7=>(Qm8 F a.2).bind fun v8=>bif decide (v8<v7)then(some ((-1:Int)))else(bif decide (v7<v8)then(some ((1:Int)))else(some ((0:Int))))
def Zv7(F:Nat):PC:={ats:=[.agg kt7,.agg kt7],rts:=Zo,code:=Qqy F}
theorem Zn8(F:Nat):Qg cx 241 (Zv7 F):=qE (Zzv F) .leaf f241 (by kernel_rfl) fun a=>by kernel_rfl
def Zo6(F:Nat):LK:=lC (Zn8 F) (lC (Zc6 F) (lC (Zig F) (lC (Ynw F) (lC (Vs F) lN))))
def Qmf(F:Nat)(a:(ByteArray×Int×ByteArray)×ByteArray×Int×ByteArray):Option (Int×Int):=
 (c99 F a.1).bind fun v15=>(c99 F a.2).bind fun v16=>(Qoz F (a.1,a.2.1,a.2.2.1,a.2.2.2)).bind fun v17=>(Jl F (v17,(13:Int))).bind fun v18=>(Vb F (v15::v16::v18::Qa Int)).bind fun v19=>bif !decide (v19=0)then(some (((0:Int),v19)))else((Qqy F (a.1,a.2.1,a.2.2.1,a.2.2.2)).bind fun v20=>some ((v20,(0:Int))))
def Zh7(F:Nat):PC:={ats:=[.agg kt7,.agg kt7],rts:=Qo0,code:=Qmf F}
theorem Qce(F:Nat):Qg cx 205 (Zh7 F):=qE (Zo6 F) .leaf f205 (by kernel_rfl) fun a=>by kernel_rfl
def Zv9(F:Nat):LK:=lC (Xu F) (lC (Qce F) (lC (Qns F) (lC (Yj F) (lC (Qq5 F) (lC (Qjj F) (lC (Vl F) (lC (Yb F) (lC (Qct F) lN))))))))
def Qs9(F:Nat)(a:(Zr)×(Qm)×Q4):Option (Int):=
 (Qa3 F (a.1,a.2.2.2.2.2.2.2.1)).bind fun v79=>(bif !v79.2 then(some (true))else((Jt F (a.2.1,a.2.2.2.2.1)).bind fun v105=>some (decide (v105<0)))).bind fun v80=>bif v80 then(some ((10:Int)))else(((Qn F (decide (0<v79.1.2.2.2.2.2.2.2.2.2.2),(13:Int))).bind fun v91=>bif decide (a.2.2.1<a.1.2.1)then((Jx F (a.2.1,a.2.2.2.2.1,a.2.2.2.2.2.2.2.1)).bind fun v92=>(Qn F (decide (0<=v92),(9:Int))).bind fun v93=>(Qht F (a.2.1,a.1,v79.1,a.2.2.2.2.1)).bind fun v94=>(Jm F (v79.1,a.2.2.2.2.2.2.2.2.2.2.1,a.2.2.2.2.2.2.2.2.2.2.2.1,a.2.2.2.2.2.2.2.2.2.2.2.2.1)).bind fun v95=>(Qn F (!v95,(30:Int))).bind fun v96=>(Qy F (v91::(19:Int)::v93::v94::v96::Qa Int)).bind fun v97=>some (v97))else((Qn F (decide (a.1.2.2.1<a.2.2.1),(19:Int))).bind fun v98=>(Jx F (a.2.1,a.2.2.2.2.1,a.2.2.2.2.2.2.2.1)).bind fun v99=>(Qn F (decide (0<=v99),(9:Int))).bind fun v100=>(Qht F (a.2.1,a.1,v79.1,a.2.2.2.2.1)).bind fun v101=>(Jm F (v79.1,a.2.2.2.2.2.2.2.2.2.2.1,a.2.2.2.2.2.2.2.2.2.2.2.1,a.2.2.2.2.2.2.2.2.2.2.2.2.1)).bind fun v102=>(Qn F (!v102,(30:Int))).bind fun v103=>(Qy F (v91::v98::v100::v101::v103::Qa Int)).bind fun v104=>some (v104))).bind fun v81=>bif !decide (v81=0)then(some (v81))else((Qmf F ((a.2.2.2.2.2.2.2.2.2.2.1,a.2.2.2.2.2.2.2.2.2.2.2.1,a.2.2.2.2.2.2.2.2.2.2.2.2.1),v79.1.2.2.2.2.2.2.2.1,v79.1.2.2.2.2.2.2.2.2.1,v79.1.2.2.2.2.2.2.2.2.2.1)).bind fun v82=>(bif !Qc v79.1.2.2.2.2.2.2.2.1 YN then((Qn F (decide (0<v82.1),(30:Int))).bind fun v84=>(Qie F (a.2.1,a.2.2.2.2.1)).bind fun v85=>(Qn F (decide (a.1.2.2.2.1<=v85),(5:Int))).bind fun v86=>(Qy F (v84::v86::Qa Int)).bind fun v87=>some (v87))else((Qie F (a.2.1,a.2.2.2.2.1)).bind fun v88=>(Qn F (decide (a.1.2.2.2.1<=v88),(5:Int))).bind fun v89=>(Qy F ((0:Int)::v89::Qa Int)).bind fun v90=>some (v90))).bind fun v83=>some (v83)))
def Yg6(F:Nat):PC:={ats:=K8,rts:=Zo,code:=Qs9 F}
theorem Qz0(F:Nat):Qg cx 167 (Yg6 F):=qE (Zv9 F) (Q8 2 (.two (.two (.join [(.normal,⟨[.slot 27 (.val (.bool))],[]⟩)] ⟨(kD 27 9 []),[],[]⟩ .leaf) .leaf) (.two (.two (.join [(.normal,⟨[.slot 9 (.val (.int .i64))],[]⟩)] ⟨(9::kD 66 39 []),[],[]⟩ .leaf) .leaf) (.two .leaf (.two (.join [(.normal,⟨[.slot 6 (.val (.int .i64))],[]⟩)] ⟨(6::kD 96 19 []),[],[]⟩ .leaf) .leaf))))) f167 (by kernel_rfl) fun a=>by kernel_rfl
def Zke(F:Nat):LK:=lN
def Qfv(F:Nat)(a:List (Ql)):Option (List (Ql)):=
 bif decide (a.length=0)then((gd (decide (j (Qa (Ql)++a)*(88:Nat)<=(140737488355328:Nat))) (gd (decide (j (Qa (Ql)++a)<=9223372036854775807)) (gd (decide (j (Qa (Ql)++a)=j (Qa (Ql)++a))) (some (Qa (Ql)++a))))).bind fun v4=>gd (Wp (Qj.eqv Zx) (Qa (Ql)) v4) (some (Qa (Ql))))else(gd (decide (j (Qa (Ql)++a)*(88:Nat)<=(140737488355328:Nat))) (gd (decide (j (Qa (Ql)++a)<=9223372036854775807)) (gd (decide (j (Qa (Ql)++a)=j (Qa (Ql)++a))) (some (Qa (Ql)++a)))))
def Qpz(F:Nat):PF:={ats:=Ql2,ty:=106,row:=Zx,code:=Qfv F}
theorem Zsf(F:Nat)(a:List (Ql)):codeF cx (Zke F).x 1000 .leaf f201 (Qs f201) Ql2 106 Zx a=Qfv F a:=by kernel_rfl
theorem J2(F:Nat):Wi cx 201 (Qpz F):=Wi.Yg Yh (Zke F).ok (n:=1000) (an:=.leaf) (fn:=f201) (c:=Qs f201) (by kernel_rfl) (by kernel_rfl) (fun a y h=>(Zsf F a).trans h) (by kernel_rfl)
def Yl4(F:Nat):LK:=lS (PF.Qu (J2 F)) lN
def Qv8(F:Nat)(a:List (Ql)×Ql):Option (List (Ql)):=
 tw (X:=List (Ql)) (Qt.eqv (Qe.val (Ty.seq Zx)::Qa Qe)) ((Qfv F a.1).bind fun v13=>gd (decide (v13.length=v13.length)) (gd (decide (j (v13++a.2::Qa (Ql))*(88:Nat)<=(140737488355328:Nat))) (gd (decide (j (v13++a.2::Qa (Ql))<=9223372036854775807)) (gd (decide ((0:Nat)+j (v13++a.2::Qa (Ql))<=j (v13++a.2::Qa (Ql)))) (some (C (j (v13++a.2::Qa (Ql))) (I (0:Nat) (v13++a.2::Qa (Ql)))))))))
def Zfj(F:Nat):PC:={ats:=[.val (.seq Zx),.agg Zx],rts:=Ql2,code:=Qv8 F}
theorem Qj4(F:Nat):Qg cx 216 (Zfj F):=qE (Yl4 F) .leaf f216 (by kernel_rfl) fun a=>by kernel_rfl
def Zmw(F:Nat):LK:=lC (Yj F) (lC (Yb F) (lC (Vl F) lN))
def Qs7(F:Nat)(a:(Zr)×(Qm)×Q4):Option (Int):=
 (Jx F (a.2.1,a.2.2.2.2.1,a.2.2.2.2.2.2.2.1)).bind fun v11=>(Qn F (decide (v11<0),(10:Int))).bind fun v12=>(Qn F (decide (a.1.1<a.2.2.1),(20:Int))).bind fun v13=>(Qy F (v12::v13::Qa Int)).bind fun v14=>some (v14)
def Ypw(F:Nat):PC:={ats:=K8,rts:=Zo,code:=Qs7 F}
theorem Qyi(F:Nat):Qg cx 169 (Ypw F):=qE (Zmw F) .leaf f169 (by kernel_rfl) fun a=>by kernel_rfl
def Yrc(F:Nat):LK:=lN
def Zx3(F:Nat):PC:=qT (Yrc F) .leaf f217 [.val (.seq Zx),.val (.int .i64),.val (.int .i64)] Ql2
theorem Qw5(F:Nat):Qg cx 217 (Zx3 F):=Ql3 (by kernel_rfl)
def Yji(F:Nat):LK:=lC (Yj F) (lC (Yb F) (lC (Vl F) lN))
def Qo4(F:Nat)(a:(Zr)×(Qm)×Q4):Option (Int):=
 (Jx F (a.2.1,a.2.2.2.2.1,a.2.2.2.2.2.2.2.1)).bind fun v11=>bif decide (v11<0)then(some ((10:Int)))else(gd (decide (0<=v11)) (gd (decide (v11<(↑(a.2.1.2.2.2.1.length):Int))) (gd (decide (v11.toNat<a.2.1.2.2.2.1.length)) ((Qn F ((a.2.1.2.2.2.1.getD (v11.toNat) Zk).2.2.2.2.2.2,(9:Int))).bind fun v12=>(Qn F (!decide (a.2.2.1=a.1.1),(19:Int))).bind fun v13=>(Qy F (v12::v13::Qa Int)).bind fun v14=>some (v14)))))
def Yfv(F:Nat):PC:={ats:=K8,rts:=Zo,code:=Qo4 F}
theorem Qwx(F:Nat):Qg cx 171 (Yfv F):=qE (Yji F) .leaf f171 (by kernel_rfl) fun a=>by kernel_rfl
def Ylm:Qk:=⟨[.slot 0 (.val (.int .i64)),.slot 1 (.val (.str)),.one 0 31 Zn,.one 1 35 Xd,.one 2 24 Xo,.one 3 110 kt4],[(2,.stat (.ptr 0 5 0 0)),(3,.stat (.ptr 1 12 0 0)),(4,.stat (.ptr 2 5 0 0)),(5,.stat (.ptr 3 11 0 0))]⟩
def Zy3:Qk:=⟨[.slot 0 (.val (.int .i64))],[]⟩
def Zvg(F:Nat):LK:=lC (Ux F) (lC (Yb F) (lC (Wq F) (lC (Qjj F) (lC (Yj F) (lC (Xu F) lN)))))
def Qsx(F:Nat)(a:Int×ByteArray×(Qm)×(Q4)×(Zr)×Yk):Option (Int):=
 (Jt F (a.2.2.1,a.2.1)).bind fun v17=>bif decide (v17<0)then(some ((10:Int)))else(gd (decide (0<=a.1)) (gd (decide (a.1<=(↑(a.2.2.2.1.2.2.2.2.2.2.2.2.2.2.2.length):Int))) ((Qcg F (a.2.2.1,a.2.1)).bind fun v18=>(Qn F (!Qc v18 a.2.2.2.1.2.2.2.1,(18:Int))).bind fun v19=>(V8 F (I (0:Nat) (C (a.1.toNat) a.2.2.2.1.2.2.2.2.2.2.2.2.2.2.2),a.2.1)).bind fun v20=>(Qn F (v20,(9:Int))).bind fun v21=>(Qht F (a.2.2.1,a.2.2.2.2.1,a.2.2.2.2.2,a.2.1)).bind fun v22=>(Qy F (v19::v21::v22::Qa Int)).bind fun v23=>some (v23))))
def Zrx(F:Nat):PX:={np:=6,locs:=[.arg 2,.arg 3,.arg 4,.arg 5],τ:=Ylm,nr:=1,ω:=Zy3,ids:=[],mv:=[],code:=Qsx F}
theorem Qu9(F:Nat):Zm cx 218 (Zrx F):=Yl (Zvg F) .leaf f218 (by kernel_rfl) fun a=>by kernel_rfl
def Ykd:Qk:=⟨[.slot 0 (.val (.seq Z3)),.one 0 31 Zn,.one 1 35 Xd,.one 2 24 Xo,.one 3 110 kt4],[(1,.stat (.fn (.func 218) [] [.ptr 0 5 0 0,.ptr 1 12 0 0,.ptr 2 5 0 0,.ptr 3 11 0 0]))]⟩
def Yok:Qk:=⟨[.slot 0 (.val (.int .i64))],[]⟩
def Zux(F:Nat):LK:=lC (Ux F) (lC (Yb F) (lC (Wq F) (lC (Qjj F) (lC (Yj F) (lC (Xu F) (lX (Qu9 F) lN))))))
def Qq3(F:Nat)(a:List ByteArray×(Qm)×(Q4)×(Zr)×Yk):Option (Int):=
 (Qx (O:=Int) (β:=Int ⊕ Unit) (fun v15=>bif decide (v15<(↑(a.1.length):Int))then(gd (decide (0<=v15)) (gd (decide (v15<(↑(a.1.length):Int))) (gd (decide (v15.toNat<a.1.length)) ((Qsx F (v15,a.1.getD (v15.toNat) ByteArray.empty,a.2.1,a.2.2.1,a.2.2.2.1,a.2.2.2.2.1,a.2.2.2.2.2.1,a.2.2.2.2.2.2.1,a.2.2.2.2.2.2.2.1,a.2.2.2.2.2.2.2.2.1,a.2.2.2.2.2.2.2.2.2.1,a.2.2.2.2.2.2.2.2.2.2.1,a.2.2.2.2.2.2.2.2.2.2.2.1,a.2.2.2.2.2.2.2.2.2.2.2.2.1,a.2.2.2.2.2.2.2.2.2.2.2.2.2.1,a.2.2.2.2.2.2.2.2.2.2.2.2.2.2)).bind fun v16=>bif !decide (v16=0)then(some (J (R v16)))else(some (R (w64 (v15+1))))))))else(some (J (J ())))) F ((0:Int))).bind fun v12=>Sum.elim (fun v13=>some (v13)) (fun v14=>some ((0:Int))) (v12)
def Zug(F:Nat):PX:={np:=2,locs:=[.cap (.arg 1) 0,.cap (.arg 1) 1,.cap (.arg 1) 2,.cap (.arg 1) 3],τ:=Ykd,nr:=1,ω:=Yok,ids:=[],mv:=[],code:=Qq3 F}
theorem U9(F:Nat):Zm cx 100 (Zug F):=Yl (Zux F) (.two .leaf (.two (.two .leaf (.one (.loop ⟨[.slot 10 (.val (.int .i64))],[]⟩ [(.ret,⟨[.slot 4 (.val (.int .i64))],[]⟩),(.exit 0,⟨[],[]⟩)] ⟨[22,10,15,16,17,18,7,21,4,20,19,6,5,14,13,12,11],[],[]⟩ F .leaf))) .leaf)) f100 (by kernel_rfl) fun a=>by kernel_rfl
def Zr0(F:Nat):LK:=lC (Kg F) (lC (Ux F) (lC (Yb F) (lC (Wq F) (lC (Qjj F) (lC (Yj F) (lC (Xu F) (lC (Qct F) (lX (Kb F) (lX (Ub F) (lX (Qu9 F) (lX (U9 F) lN)))))))))))
def Qtc(F:Nat)(a:(Zr)×(Qm)×Q4):Option (Int):=
 (Qa3 F (a.1,a.2.2.2.2.2.2.2.1)).bind fun v39=>(bif !v39.2 then((Qn F (decide (v39.1.2.2.2.2.2.2.2.2.2.2=0),(13:Int))).bind fun v42=>(Qn F (decide (a.1.1<a.2.2.1),(20:Int))).bind fun v43=>(Qn F (!decide ((↑(a.2.2.2.2.2.2.2.2.2.2.2.2.2.length):Int)=v39.1.2.2.2.2.2.2.2.2.2.2),(2:Int))).bind fun v44=>(Qy F ((10:Int)::v42::v43::v44::Qa Int)).bind fun v45=>some (v45))else((Ki F (a.2.1,a.2.2.2.2.2.1)).bind fun v46=>(Qn F (!v46,(10:Int))).bind fun v47=>(Qn F (decide (v39.1.2.2.2.2.2.2.2.2.2.2=0),(13:Int))).bind fun v48=>(Qn F (decide (a.1.1<a.2.2.1),(20:Int))).bind fun v49=>(Qn F (!decide ((↑(a.2.2.2.2.2.2.2.2.2.2.2.2.2.length):Int)=v39.1.2.2.2.2.2.2.2.2.2.2),(2:Int))).bind fun v50=>(Qy F (v47::v48::v49::v50::Qa Int)).bind fun v51=>some (v51))).bind fun v40=>bif !decide (v40=0)then(some (v40))else((Qq3 F (a.2.2.2.2.2.2.2.2.2.2.2.2.2,a.2.1,a.2.2,a.1,v39.1.1,v39.1.2.1,v39.1.2.2.1,v39.1.2.2.2.1,v39.1.2.2.2.2.1,v39.1.2.2.2.2.2.1,v39.1.2.2.2.2.2.2.1,v39.1.2.2.2.2.2.2.2.1,v39.1.2.2.2.2.2.2.2.2.1,v39.1.2.2.2.2.2.2.2.2.2.1,v39.1.2.2.2.2.2.2.2.2.2.2)).bind fun v41=>some (v41))
def Zsl(F:Nat):PC:={ats:=K8,rts:=Zo,code:=Qtc F}
theorem Qxc(F:Nat):Qg cx 173 (Zsl F):=qE (Zr0 F) (Q8 2 (.two (.two (.join [(.normal,⟨[.slot 9 (.val (.int .i64))],[]⟩)] ⟨(9::kD 45 29 []),[],[]⟩ .leaf) .leaf) .leaf)) f173 (by kernel_rfl) fun a=>by kernel_rfl
def Zen(F:Nat):LK:=lN
def Qg6(F:Nat)(a:List (Zd)):Option (List (Zd)):=
 bif decide (a.length=0)then((gd (decide (j (Qa (Zd)++a)*(56:Nat)<=(140737488355328:Nat))) (gd (decide (j (Qa (Zd)++a)<=9223372036854775807)) (gd (decide (j (Qa (Zd)++a)=j (Qa (Zd)++a))) (some (Qa (Zd)++a))))).bind fun v4=>gd (Wp (Qj.eqv kt9) (Qa (Zd)) v4) (some (Qa (Zd))))else(gd (decide (j (Qa (Zd)++a)*(56:Nat)<=(140737488355328:Nat))) (gd (decide (j (Qa (Zd)++a)<=9223372036854775807)) (gd (decide (j (Qa (Zd)++a)=j (Qa (Zd)++a))) (some (Qa (Zd)++a)))))
def Qo9(F:Nat):PF:={ats:=Qyd,ty:=147,row:=kt9,code:=Qg6 F}
theorem Yqs(F:Nat)(a:List (Zd)):codeF cx (Zen F).x 1000 .leaf f202 (Qs f202) Qyd 147 kt9 a=Qg6 F a:=by kernel_rfl
theorem Wl(F:Nat):Wi cx 202 (Qo9 F):=Wi.Yg Yh (Zen F).ok (n:=1000) (an:=.leaf) (fn:=f202) (c:=Qs f202) (by kernel_rfl) (by kernel_rfl) (fun a y h=>(Yqs F a).trans h) (by kernel_rfl)
def Yhd(F:Nat):LK:=lS (PF.Qu (Wl F)) lN
def Qv0(F:Nat)(a:List (Zd)×Zd):Option (List (Zd)):=
 tw (X:=List (Zd)) (Qt.eqv (Qe.val (Ty.seq kt9)::Qa Qe)) ((Qg6 F a.1).bind fun v13=>gd (decide (v13.length=v13.length)) (gd (decide (j (v13++a.2::Qa (Zd))*(56:Nat)<=(140737488355328:Nat))) (gd (decide (j (v13++a.2::Qa (Zd))<=9223372036854775807)) (gd (decide ((0:Nat)+j (v13++a.2::Qa (Zd))<=j (v13++a.2::Qa (Zd)))) (some (C (j (v13++a.2::Qa (Zd))) (I (0:Nat) (v13++a.2::Qa (Zd)))))))))
def Qt4(F:Nat):PC:={ats:=[.val (.seq kt9),.agg kt9],rts:=Qyd,code:=Qv0 F}
theorem Qh0(F:Nat):Qg cx 219 (Qt4 F):=qE (Yhd F) .leaf f219 (by kernel_rfl) fun a=>by kernel_rfl
def Zrn(F:Nat):LK:=lC (V0 F) lN
def Qqg(F:Nat)(a:Int×ByteArray):Option (Int):=
 (c92 F a.2).bind fun v5=>some (v5)
def Zsy(F:Nat):PC:={ats:=[.val (.int .i64),.val (.str)],rts:=Zo,code:=Qqg F}
theorem Qbw(F:Nat):Qg cx 101 (Zsy F):=qE (Zrn F) .leaf f101 (by kernel_rfl) fun a=>by kernel_rfl
def Zp8(F:Nat):LK:=lC (Qce F) lN
def Qom(F:Nat)(a:(Ql)×Ql):Option (Int):=
 (Qmf F ((a.1.2.2.1,a.1.2.2.2.1,a.1.2.2.2.2.1),a.2.2.2.1,a.2.2.2.2.1,a.2.2.2.2.2.1)).bind fun v5=>bif !decide (v5.1=0)then(some v5.1)else(some (w64 (a.1.2.2.2.2.2.1-a.2.2.2.2.2.2.1)))
def Zfu(F:Nat):PC:={ats:=[.agg Zx,.agg Zx],rts:=Zo,code:=Qom F}
theorem Qfe(F:Nat):Qg cx 204 (Zfu F):=qE (Zp8 F) .leaf f204 (by kernel_rfl) fun a=>by kernel_rfl
def Yqx:Qk:=⟨[.slot 1 (.val (.int .i64)),.slot 2 (.val (.int .i64)),.vec 0 106 Zx],[(0,.own 0),(3,.stat (.pv (.lit (.func (.func 204) #[] #[]))))]⟩
def Zy0:Qk:=⟨[.vec 0 106 Zx],[]⟩
def Ye5(F:Nat):LK:=lC (Qce F) (lC (Qfe F) lN)
def Qbp(F:Nat)(a:Int×Int×List (Ql)):Option (List (Ql)):=
 (Qx (O:=List (Ql)×Int) (β:=List (Ql)) (fun v31=>bif decide (v31.2<a.2.1)then((Qx (O:=List (Ql)×Int) (β:=List (Ql)) (fun v33=>(bif decide (a.1<v33.2)then(gd (decide (0<=v33.2)) (gd (decide (v33.2<(↑(a.2.2.length):Int))) (gd (decide ((0:Nat)+v33.2.toNat<v33.1.length)) (gd (decide (0<=w64 (v33.2-1))) (gd (decide (w64 (v33.2-1)<(↑(a.2.2.length):Int))) (gd (decide ((0:Nat)+o (w64 (v33.2-1))<v33.1.length)) ((Qom F ((v33.1.getD ((0:Nat)+v33.2.toNat) Zk),(v33.1.getD ((0:Nat)+o (w64 (v33.2-1))) Zk).1,(v33.1.getD ((0:Nat)+o (w64 (v33.2-1))) Zk).2.1,(v33.1.getD ((0:Nat)+o (w64 (v33.2-1))) Zk).2.2.1,(v33.1.getD ((0:Nat)+o (w64 (v33.2-1))) Zk).2.2.2.1,(v33.1.getD ((0:Nat)+o (w64 (v33.2-1))) Zk).2.2.2.2.1,(v33.1.getD ((0:Nat)+o (w64 (v33.2-1))) Zk).2.2.2.2.2.1,(v33.1.getD ((0:Nat)+o (w64 (v33.2-1))) Zk).2.2.2.2.2.2)).bind fun v35=>some (decide (v35<0)))))))))else(some (false))).bind fun v34=>bif v34 then(gd (decide (0<=w64 (v33.2-1))) (gd (decide (w64 (v33.2-1)<(↑(a.2.2.length):Int))) (gd (decide ((0:Nat)+o (w64 (v33.2-1))<v33.1.length)) (gd (decide (0<=v33.2)) (gd (decide (v33.2<(↑(a.2.2.length):Int))) (gd (decide ((0:Nat)+v33.2.toNat<v33.1.length)) (gd (decide (0<=v33.2)) (gd (decide (v33.2<(↑(a.2.2.length):Int))) (gd (decide ((0:Nat)+v33.2.toNat<v33.1.length)) (gd (decide (0<=w64 (v33.2-1))) (gd (decide (w64 (v33.2-1)<(↑(a.2.2.length):Int))) (gd (decide ((0:Nat)+o (w64 (v33.2-1))<j (ZA v33.1 ((0:Nat)+v33.2.toNat) (v33.1.getD ((0:Nat)+o (w64 (v33.2-1))) Zk)))) (some (R (ZA (ZA v33.1 ((0:Nat)+v33.2.toNat) (v33.1.getD ((0:Nat)+o (w64 (v33.2-1))) Zk)) ((0:Nat)+o (w64 (v33.2-1))) (v33.1.getD ((0:Nat)+v33.2.toNat) Zk),w64 (v33.2-1))))))))))))))))else(some (J v33.1))) F (v31)).bind fun v32=>some (R (v32,w64 (v31.2+1))))else(some (J v31.1))) F ((a.2.2,w64 (a.1+1)))).bind fun v30=>some (v30)
def Ygn(F:Nat):PX:={np:=4,locs:=[.arg 0],τ:=Yqx,nr:=0,ω:=Zy0,ids:=[0],mv:=[],code:=Qbp F}
theorem Qvr(F:Nat):Zm cx 250 (Ygn F):=Yl (Ye5 F) (.two .leaf (.one (.loop ⟨[.vec 0 106 Zx,.slot 8 (.val (.int .i64))],[]⟩ [(.exit 0,⟨[.vec 0 106 Zx],[]⟩)] ⟨(17::9::kU 37 16 (kD 36 19 (8::16::15::14::13::12::[]))),[0],[]⟩ F (.two .leaf (.two (.one (.two .leaf (.one (.loop ⟨[.vec 0 106 Zx,.slot 9 (.val (.int .i64))],[]⟩ [(.exit 2,⟨[.vec 0 106 Zx],[]⟩)] ⟨(kU 37 16 (9::kD 36 19 [])),[0],[]⟩ F (.two (.two (.join [(.normal,⟨[.slot 34 (.val (.bool))],[]⟩)] ⟨(kD 34 17 []),[],[]⟩ .leaf) .leaf) .leaf))))) .leaf))))) f250 (by kernel_rfl) fun a=>by kernel_rfl
def Zuq:Qk:=⟨[.slot 1 (.val (.int .i64)),.slot 2 (.val (.int .i64)),.slot 3 (.val (.int .i64)),.vec 0 106 Zx],[(0,.own 0),(4,.stat (.pv (.lit (.func (.func 204) #[] #[]))))]⟩
def Zr1:Qk:=⟨[.vec 0 106 Zx],[]⟩
def Yos(F:Nat):LK:=lC (Qce F) (lC (Qfe F) lN)
def Zk8(F:Nat):PX:=qX (Yos F) (.two .leaf (.one (.loop ⟨[.vec 0 106 Zx,.slot 10 (.val (.int .i64))],[]⟩ [(.exit 0,⟨[.vec 0 106 Zx],[]⟩)] ⟨(kU 16 22 (10::15::14::13::12::11::[])),[0],[]⟩ F .leaf))) f267 (pxB 5 [.arg 0] Zuq 0 Zr1 [0] [])
theorem Qkx(F:Nat):Zm cx 267 (Zk8 F):=Vz (by kernel_rfl)
def Yne:Qk:=⟨[.slot 1 (.val (.int .i64)),.slot 2 (.val (.int .i64)),.slot 3 (.val (.int .i64)),.vec 0 106 Zx],[(0,.own 0),(4,.stat (.pv (.lit (.func (.func 204) #[] #[]))))]⟩
def Ylu:Qk:=⟨[.vec 0 106 Zx],[]⟩
def Ynk(F:Nat):LK:=lC (Qce F) (lC (Qfe F) (lX (Qkx F) lN))
def Zhq(F:Nat):PX:=qX (Ynk F) (Q8 2 (.two (.one (.loop ⟨[.vec 0 106 Zx,.slot 10 (.val (.int .i64)),.slot 11 (.val (.int .i64))],[]⟩ [(.exit 0,⟨[.vec 0 106 Zx,.slot 10 (.val (.int .i64))],[]⟩)] ⟨(21::22::23::kU 35 12 (11::49::48::47::32::33::34::10::kD 31 8 (20::19::18::[]))),[0],[]⟩ F (.two .leaf (.one (.two .leaf (.join [(.normal,⟨[.vec 0 106 Zx,.slot 10 (.val (.int .i64)),.slot 11 (.val (.int .i64))],[]⟩)] ⟨(kU 35 12 (11::49::48::47::32::33::34::10::kD 31 8 [])),[0],[]⟩ .leaf)))))) .leaf)) f256 (pxB 5 [.arg 0] Yne 0 Ylu [0] [])
theorem Qqn(F:Nat):Zm cx 256 (Zhq F):=Vz (by kernel_rfl)
def Qf0:Qk:=⟨[.slot 1 (.val (.int .i64)),.slot 2 (.val (.int .i64)),.slot 3 (.val (.int .i64)),.vec 0 106 Zx],[(0,.own 0),(4,.stat (.pv (.lit (.func (.func 204) #[] #[]))))]⟩
def Qfq:Qk:=⟨[.vec 0 106 Zx],[]⟩
def Qyz(g:Qf0.El->Option (Qfq.El))(F:Nat):Lx:={ext:=[(251,(PX.sm {np:=5,locs:=[.arg 0],τ:=Qf0,nr:=0,ω:=Qfq,ids:=[0],mv:=[],code:=g})),(205,(Zh7 F).sm),(204,(Zfu F).sm),(267,(Zk8 F).sm),(256,(Zhq F).sm)],anns:=[],still:=[]}
def Qtu:PX:=pxB 5 [.arg 0] Qf0 0 Qfq [0] []
def Zly(F:Nat):Zi:=(.two (.two .leaf (.two (Q8 2 (.two (.one (.loop ⟨[.slot 10 (.val (.int .i64)),.slot 11 (.val (.int .i64))],[]⟩ [(.exit 0,⟨[.slot 10 (.val (.int .i64))],[]⟩)] ⟨(kU 34 6 (12::51::52::10::11::53::kD 50 11 (33::32::31::[]))),[],[]⟩ F (.two .leaf (.one (Q8 2 (.join [(.normal,⟨[.slot 10 (.val (.int .i64)),.slot 11 (.val (.int .i64))],[]⟩)] ⟨[53,11,10,52,51],[],[]⟩ .leaf)))))) (.two (.two .leaf (.one (.loop ⟨[.vec 0 106 Zx,.slot 13 (.val (.int .i64))],[]⟩ [(.exit 2,⟨[.vec 0 106 Zx],[]⟩)] ⟨(kU 61 16 (13::kD 60 6 [])),[0],[]⟩ F .leaf))) .leaf))) .leaf)) (.two (.two .leaf (.two (Q8 2 (.two (.one (.loop ⟨[.slot 14 (.val (.int .i64)),.slot 15 (.val (.int .i64))],[]⟩ [(.exit 4,⟨[.slot 14 (.val (.int .i64))],[]⟩)] ⟨(kU 86 6 (16::104::105::14::15::106::kD 103 12 (85::84::83::[]))),[],[]⟩ F (.two .leaf (.one (Q8 2 (.join [(.normal,⟨[.slot 14 (.val (.int .i64)),.slot 15 (.val (.int .i64))],[]⟩)] ⟨[106,15,14,105,104],[],[]⟩ .leaf)))))) (.two (.two .leaf (.one (.loop ⟨[.vec 0 106 Zx,.slot 17 (.val (.int .i64))],[]⟩ [(.exit 6,⟨[.vec 0 106 Zx],[]⟩)] ⟨(kU 113 16 (17::112::111::110::109::108::[])),[0],[]⟩ F .leaf))) .leaf))) .leaf)) (Q8 3 (.two (.two .leaf (.join [(.normal,⟨[.slot 20 (.val (.int .i64)),.slot 21 (.val (.int .i64))],[]⟩)] ⟨[145,146,144,21,20,143,142,141],[],[]⟩ .leaf)) (.two .leaf (.two (.one (.loop ⟨[.slot 20 (.val (.int .i64)),.slot 21 (.val (.int .i64))],[]⟩ [(.exit 8,⟨[.slot 20 (.val (.int .i64))],[]⟩)] ⟨(kU 152 6 (23::172::173::20::21::174::kD 171 14 (151::150::149::[]))),[],[]⟩ F (.two .leaf (.one (Q8 2 (.join [(.normal,⟨[.slot 20 (.val (.int .i64)),.slot 21 (.val (.int .i64))],[]⟩)] ⟨[174,21,20,173,172],[],[]⟩ .leaf)))))) (.two .leaf (.two (.two (.join [(.normal,⟨[.slot 185 (.val (.bool))],[]⟩)] ⟨(kD 185 8 []),[],[]⟩ .leaf) (.join [(.normal,⟨[.vec 0 106 Zx],[]⟩)] ⟨(kD 191 6 []),[0],[]⟩ .leaf)) (.two (.two (.join [(.normal,⟨[.slot 199 (.val (.bool))],[]⟩)] ⟨(kD 199 8 []),[],[]⟩ .leaf) (.join [(.normal,⟨[.vec 0 106 Zx],[]⟩)] ⟨(kD 205 6 []),[0],[]⟩ .leaf)) (.two (.join [(.normal,⟨[.slot 213 (.val (.bool))],[]⟩)] ⟨(kD 213 8 []),[],[]⟩ .leaf) (.join [(.normal,⟨[.vec 0 106 Zx],[]⟩)] ⟨(kD 219 6 []),[0],[]⟩ .leaf)))))))))))
def Ymz(g:Qf0.El->Option Qfq.El)(F:Nat):=Qr7 cx (Qyz g F) 1000 (Zly F) f251 (Qs f251) Qtu
def Qqi(F n:Nat):Qf0.El->Option Qfq.El:=Nat.rec (motive:=fun _=>Qf0.El->Option Qfq.El) (fun _=>none) (fun _ ih=>Ymz ih F) n
def Zfp(F:Nat):Qf0.El->Option Qfq.El:=Qqi F F
def Qxi(F n:Nat):PX:={Qtu with code:=Qqi F n}
def Yaj(F:Nat):PX:=Qxi F F
theorem Yb2(F n:Nat)(h:Zm cx 251 (Qxi F n)):(Qyz (Qqi F n) F).Ok cx:=Lx.Zp (PX.Qu h) (kC (Qce F) (kC (Qfe F) (kX (Qkx F) (kX (Qqn F) (Lx.Ud)))))
theorem Zkl(F:Nat):∀n,Zm cx 251 (Qxi F n)
 |0=>⟨⟨f251,by kernel_rfl⟩,fun a y h=>absurd (show(none:Option _)=some y from h) (by simp)⟩
 |n+1=>Zm.cast (q:=pxT cx (Qyz (Qqi F n) F) (Zly F) f251 (Qs f251) Qtu) (by kernel_rfl) (Zfh Yh (Yb2 F n (Zkl F n)) (by kernel_rfl) (by kernel_rfl) (by kernel_rfl) (by kernel_rfl))
theorem Qxz(F:Nat):Zm cx 251 (Yaj F):=Zkl F F
def Ya4:Qk:=⟨[.slot 1 (.val (.int .i64)),.vec 0 106 Zx],[(0,.own 0),(2,.stat (.pv (.lit (.func (.func 204) #[] #[]))))]⟩
def Yde:Qk:=⟨[.vec 0 106 Zx],[]⟩
def Yhi(F:Nat):LK:=lC (Qce F) (lC (Qfe F) (lX (Qvr F) (lX (Qkx F) (lX (Qqn F) (lX (Qxz F) lN)))))
def Qp7(F:Nat)(a:Int×List (Ql)):Option (List (Ql)):=
 (Qx (O:=List (Ql)×Int×Int) (β:=List (Ql)×Int) (fun v66=>bif decide (v66.2.2<=a.1)then((gd (decide (a.2.length=v66.1.length)&&(true&&true)&&(true&&(true&&true))) (some ((v66.2.1,v66.2.2,v66.1)))).bind fun v67=>(Qbp F v67).bind fun v68=>some (R (v68,v66.2.2,w64 (v66.2.2+20))))else(some (J (v66.1,v66.2.1)))) F ((a.2,(0:Int),(20:Int)))).bind fun v54=>(gd (decide (a.2.length=v54.1.length)&&(true&&true)&&(true&&(true&&true))) (some ((v54.2,a.1,v54.1)))).bind fun v55=>(Qbp F v55).bind fun v56=>(Qx (O:=List (Ql)×Int) (β:=List (Ql)) (fun v58=>bif decide (v58.2<a.1)then((Qx (O:=List (Ql)×Int×Int) (β:=List (Ql)×Int) (fun v63=>bif decide (v63.2.2<=a.1)then((gd (decide (a.2.length=v63.1.length)&&(true&&true)&&(true&&(true&&(true&&true)))) (some ((v63.2.1,w64 (v63.2.1+v58.2),v63.2.2,v63.1)))).bind fun v64=>(Zfp F v64).bind fun v65=>some (R (v65,v63.2.2,w64 (v63.2.2+w64 ((2:Int)*v58.2)))))else(some (J (v63.1,v63.2.1)))) F ((v58.1,(0:Int),w64 ((2:Int)*v58.2)))).bind fun v59=>(bif decide (w64 (v59.2+v58.2)<a.1)then((gd (decide (a.2.length=v59.1.length)&&(true&&true)&&(true&&(true&&(true&&true)))) (some ((v59.2,w64 (v59.2+v58.2),a.1,v59.1)))).bind fun v61=>(Zfp F v61).bind fun v62=>some (v62))else(some v59.1)).bind fun v60=>some (R (v60,w64 (v58.2*(2:Int)))))else(some (J v58.1))) F ((v56,(20:Int)))).bind fun v57=>some (v57)
def Znv(F:Nat):PX:={np:=3,locs:=[.arg 0],τ:=Ya4,nr:=0,ω:=Yde,ids:=[0],mv:=[],code:=Qp7 F}
theorem Zhf(F:Nat):Zm cx 239 (Znv F):=Yl (Yhi F) (Q8 2 (.two (.one (.loop ⟨[.vec 0 106 Zx,.slot 7 (.val (.int .i64)),.slot 8 (.val (.int .i64))],[]⟩ [(.exit 0,⟨[.vec 0 106 Zx,.slot 7 (.val (.int .i64))],[]⟩)] ⟨[14,15,16,17,18,20,21,22,8,7,19,13,12,11],[0],[]⟩ F .leaf)) (.two .leaf (.one (.loop ⟨[.vec 0 106 Zx,.slot 6 (.val (.int .i64))],[]⟩ [(.exit 2,⟨[.vec 0 106 Zx],[]⟩)] ⟨[31,32,7,8,49,50,51,9,55,56,57,58,59,60,54,53,52,6,62,61,36,37,38,39,40,41,42,43,45,46,47,48,44,35,34,33,30,29,28],[0],[]⟩ F (.two .leaf (.one (.two .leaf (.two (.one (.loop ⟨[.vec 0 106 Zx,.slot 7 (.val (.int .i64)),.slot 8 (.val (.int .i64))],[]⟩ [(.exit 4,⟨[.vec 0 106 Zx,.slot 7 (.val (.int .i64))],[]⟩)] ⟨(kU 36 8 (45::46::47::48::8::7::44::35::34::33::[])),[0],[]⟩ F .leaf)) (.two (Q8 2 (.join [(.normal,⟨[.vec 0 106 Zx],[]⟩)] ⟨(kD 60 6 []),[0],[]⟩ .leaf)) .leaf)))))))))) f239 (by kernel_rfl) fun a=>by kernel_rfl
def Yj1:Qk:=⟨[.vec 0 106 Zx],[(0,.own 0),(1,.stat (.pv (.lit (.func (.func 204) #[] #[]))))]⟩
def Zyv:Qk:=⟨[.vec 0 106 Zx],[]⟩
def Ymt(F:Nat):LK:=lC (Qce F) (lC (Qfe F) (lX (Qvr F) (lX (Qkx F) (lX (Qqn F) (lX (Qxz F) (lX (Zhf F) lN))))))
def Qqp(F:Nat)(a:List (Ql)):Option (List (Ql)):=
 (gd (decide (a.length=a.length)&&(true&&true)&&(true&&true)) (some (((↑(a.length):Int),a)))).bind fun v7=>(Qp7 F v7).bind fun v8=>some (v8)
def Ynq(F:Nat):PX:={np:=2,locs:=[.arg 0],τ:=Yj1,nr:=0,ω:=Zyv,ids:=[0],mv:=[],code:=Qqp F}
theorem Yc6(F:Nat):Zm cx 203 (Ynq F):=Yl (Ymt F) .leaf f203 (by kernel_rfl) fun a=>by kernel_rfl
def Ym1(F:Nat):LK:=lC (Qfe F) (lX (Qvr F) (lX (Qkx F) (lX (Qqn F) (lX (Qxz F) (lX (Zhf F) (lX (Yc6 F) lN))))))
def Qb1(F:Nat)(a:(Qm)×ByteArray):Option (List (Ql)):=
 (Qx (O:=List (Ql)×Int) (β:=List (Ql)) (fun v18=>bif decide (v18.2<(↑(a.1.2.2.2.1.length):Int))then(gd (decide (0<=v18.2)) (gd (decide (v18.2<(↑(a.1.2.2.2.1.length):Int))) (gd (decide (v18.2.toNat<a.1.2.2.2.1.length)) ((bif Qc (a.1.2.2.2.1.getD (v18.2.toNat) Zk).2.1 a.2 then(gd (decide (v18.1.length=v18.1.length)) (gd (decide (j (v18.1++(a.1.2.2.2.1.getD (v18.2.toNat) Zk)::Qa (Ql))*(88:Nat)<=(140737488355328:Nat))) (gd (decide (j (v18.1++(a.1.2.2.2.1.getD (v18.2.toNat) Zk)::Qa (Ql))<=9223372036854775807)) (gd (decide (j (v18.1++(a.1.2.2.2.1.getD (v18.2.toNat) Zk)::Qa (Ql))=j (v18.1++(a.1.2.2.2.1.getD (v18.2.toNat) Zk)::Qa (Ql)))&&true&&true) (some (v18.1++(a.1.2.2.2.1.getD (v18.2.toNat) Zk)::Qa (Ql)))))))else(gd (decide (v18.1.length=v18.1.length)&&true&&true) (some v18.1))).bind fun v19=>(gd (decide (v19.length=v19.length)&&true&&(true&&true)) (some ((v19,w64 (v18.2+1))))).bind fun v20=>some (R v20)))))else((gd (decide (v18.1.length=v18.1.length)&&true&&true) (some v18.1)).bind fun v21=>some (J v21))) F ((Qa (Ql),(0:Int)))).bind fun v15=>(gd (decide (v15.length=v15.length)&&(true&&true)&&true) (some (v15))).bind fun v16=>(Qqp F v16).bind fun v17=>gd (decide ((0:Nat)+v15.length<=v17.length)) (some (C (v15.length) (I (0:Nat) v17)))
def Zgk(F:Nat):PC:={ats:=Qeu,rts:=Ql2,code:=Qb1 F}
theorem Ql4(F:Nat):Qg cx 139 (Zgk F):=qE (Ym1 F) (Q8 2 (.two (.two .leaf (.one (.virt 5 106 Zx (.loop ⟨[.vec 1 106 Zx,.slot 11 (.val (.int .i64))],[(5,.own 1)]⟩ [(.exit 0,⟨[.vec 1 106 Zx],[(5,.own 1)]⟩)] ⟨[23,11,15,16,17,18,5,22,21,20,19,7,14,13,12],[1],[1]⟩ F (Q8 2 (.two (.one (Q8 2 (.join [(.normal,⟨[.vec 1 106 Zx],[(5,.own 1)]⟩)] ⟨[5,22,21,20,19],[1],[1]⟩ .leaf))) .leaf)))))) .leaf)) f139 (by kernel_rfl) fun a=>by kernel_rfl
def Yoz(F:Nat):LK:=lC (Qfs F) (lS (PF.Qu (Wl F)) (lC (Qh0 F) (lS (PF.Qu (Vf F)) (lC (Qxc F) (lC (Qwx F) (lS (PF.Qu (J2 F)) (lC (Qw5 F) (lC (Vl F) (lC (Qyi F) (lC (Qj4 F) (lC (Qz0 F) (lC (Xu F) (lS (PF.Qu (Wo F)) (lC (Qx3 F) (lC (Qm2 F) (lC (Qwm F) (lC (Qkn F) (lC (Qy2 F) (lC (Qm7 F) (lC (Qts F) lN))))))))))))))))))))
def Js(F:Nat)(a:(Zr)×(Qm)×Q4):Option (Int):=
 (bif Qc a.2.2.2.1 YJ then((Qpl F (a.1,a.2.1,a.2.2.1,a.2.2.2.1,a.2.2.2.2.1,a.2.2.2.2.2.1,a.2.2.2.2.2.2.1,a.2.2.2.2.2.2.2.1,a.2.2.2.2.2.2.2.2.1,a.2.2.2.2.2.2.2.2.2.1,a.2.2.2.2.2.2.2.2.2.2.1,a.2.2.2.2.2.2.2.2.2.2.2.1,a.2.2.2.2.2.2.2.2.2.2.2.2.1,a.2.2.2.2.2.2.2.2.2.2.2.2.2)).bind fun v32=>some (v32))else(bif Qc a.2.2.2.1 YF then((Qos F (a.1,a.2.1,a.2.2.1,a.2.2.2.1,a.2.2.2.2.1,a.2.2.2.2.2.1,a.2.2.2.2.2.2.1,a.2.2.2.2.2.2.2.1,a.2.2.2.2.2.2.2.2.1,a.2.2.2.2.2.2.2.2.2.1,a.2.2.2.2.2.2.2.2.2.2.1,a.2.2.2.2.2.2.2.2.2.2.2.1,a.2.2.2.2.2.2.2.2.2.2.2.2.1,a.2.2.2.2.2.2.2.2.2.2.2.2.2)).bind fun v33=>some (v33))else(bif Qc a.2.2.2.1 YG then((Qo7 F (a.1,a.2.1,a.2.2.1,a.2.2.2.1,a.2.2.2.2.1,a.2.2.2.2.2.1,a.2.2.2.2.2.2.1,a.2.2.2.2.2.2.2.1,a.2.2.2.2.2.2.2.2.1,a.2.2.2.2.2.2.2.2.2.1,a.2.2.2.2.2.2.2.2.2.2.1,a.2.2.2.2.2.2.2.2.2.2.2.1,a.2.2.2.2.2.2.2.2.2.2.2.2.1,a.2.2.2.2.2.2.2.2.2.2.2.2.2)).bind fun v34=>some (v34))else(bif Qc a.2.2.2.1 YD then((Qrk F (a.1,a.2.1,a.2.2.1,a.2.2.2.1,a.2.2.2.2.1,a.2.2.2.2.2.1,a.2.2.2.2.2.2.1,a.2.2.2.2.2.2.2.1,a.2.2.2.2.2.2.2.2.1,a.2.2.2.2.2.2.2.2.2.1,a.2.2.2.2.2.2.2.2.2.2.1,a.2.2.2.2.2.2.2.2.2.2.2.1,a.2.2.2.2.2.2.2.2.2.2.2.2.1,a.2.2.2.2.2.2.2.2.2.2.2.2.2)).bind fun v35=>some (v35))else(bif Qc a.2.2.2.1 YE then((Qs9 F (a.1,a.2.1,a.2.2.1,a.2.2.2.1,a.2.2.2.2.1,a.2.2.2.2.2.1,a.2.2.2.2.2.2.1,a.2.2.2.2.2.2.2.1,a.2.2.2.2.2.2.2.2.1,a.2.2.2.2.2.2.2.2.2.1,a.2.2.2.2.2.2.2.2.2.2.1,a.2.2.2.2.2.2.2.2.2.2.2.1,a.2.2.2.2.2.2.2.2.2.2.2.2.1,a.2.2.2.2.2.2.2.2.2.2.2.2.2)).bind fun v36=>some (v36))else(bif Qc a.2.2.2.1 YB then((Qs7 F (a.1,a.2.1,a.2.2.1,a.2.2.2.1,a.2.2.2.2.1,a.2.2.2.2.2.1,a.2.2.2.2.2.2.1,a.2.2.2.2.2.2.2.1,a.2.2.2.2.2.2.2.2.1,a.2.2.2.2.2.2.2.2.2.1,a.2.2.2.2.2.2.2.2.2.2.1,a.2.2.2.2.2.2.2.2.2.2.2.1,a.2.2.2.2.2.2.2.2.2.2.2.2.1,a.2.2.2.2.2.2.2.2.2.2.2.2.2)).bind fun v37=>some (v37))else(bif Qc a.2.2.2.1 YH then((Qo4 F (a.1,a.2.1,a.2.2.1,a.2.2.2.1,a.2.2.2.2.1,a.2.2.2.2.2.1,a.2.2.2.2.2.2.1,a.2.2.2.2.2.2.2.1,a.2.2.2.2.2.2.2.2.1,a.2.2.2.2.2.2.2.2.2.1,a.2.2.2.2.2.2.2.2.2.2.1,a.2.2.2.2.2.2.2.2.2.2.2.1,a.2.2.2.2.2.2.2.2.2.2.2.2.1,a.2.2.2.2.2.2.2.2.2.2.2.2.2)).bind fun v38=>some (v38))else(gd (Qc a.2.2.2.1 YI) ((Qtc F (a.1,a.2.1,a.2.2.1,a.2.2.2.1,a.2.2.2.2.1,a.2.2.2.2.2.1,a.2.2.2.2.2.2.1,a.2.2.2.2.2.2.2.1,a.2.2.2.2.2.2.2.2.1,a.2.2.2.2.2.2.2.2.2.1,a.2.2.2.2.2.2.2.2.2.2.1,a.2.2.2.2.2.2.2.2.2.2.2.1,a.2.2.2.2.2.2.2.2.2.2.2.2.1,a.2.2.2.2.2.2.2.2.2.2.2.2.2)).bind fun v39=>some (v39)))))))))).bind fun v31=>some (v31)
def Quz(F:Nat):PC:={ats:=K8,rts:=Zo,code:=Js F}
theorem Qx7(F:Nat):Qg cx 135 (Quz F):=qE (Yoz F) (.two .leaf (.two (.join [(.normal,⟨[.slot 6 (.val (.int .i64))],[]⟩)] ⟨(6::kD 15 9 []),[],[]⟩ (.within [(96,.leaf)])) .leaf)) f135 (by kernel_rfl) fun a=>by kernel_rfl
def Yc1(F:Nat):LK:=lC (Qi7 F) (lC (Yb F) (lC (Yj F) (lC (Qct F) lN)))
def Qje(F:Nat)(a:(Zr)×(Qm)×ByteArray×Bool):Option ((Yk)×Int):=
 (Qa3 F (a.1,a.2.2.1)).bind fun v13=>(c25 F (a.1,a.2.1.1,a.2.1.2.1,a.2.1.2.2.1,a.2.1.2.2.2.1,a.2.1.2.2.2.2)).bind fun v14=>(Qn F (!v13.2,(10:Int))).bind fun v15=>(Qn F (!decide (0<v13.1.2.2.2.2.2.2.2.2.2.2)==a.2.2.2,(13:Int))).bind fun v16=>(Qy F (v14::v15::v16::Qa Int)).bind fun v17=>some ((v13.1,v17))
def Zjm(F:Nat):PC:={ats:=Yr2,rts:=[.agg kt4,.val (.int .i64)],code:=Qje F}
theorem Qpv(F:Nat):Qg cx 137 (Zjm F):=qE (Yc1 F) .leaf f137 (by kernel_rfl) fun a=>by kernel_rfl
def Yai(F:Nat):LK:=lC (Ux F) lN
def Qzt(F:Nat)(a:(Qm)×(Yk)×List (Ql)×Bool):Option (List ByteArray):=
 (Qx (O:=Unit×List (ByteArray×Int)×List ByteArray×Int×Int) (β:=Unit×List (ByteArray×Int)×List ByteArray) (fun v37=>bif decide (v37.2.2.2.2<(↑(a.2.2.1.length):Int))then(gd (decide (0<=v37.2.2.2.2)) (gd (decide (v37.2.2.2.2<(↑(a.2.2.1.length):Int))) (gd (decide (v37.2.2.2.2.toNat<a.2.2.1.length)) ((Qcg F (a.1,(a.2.2.1.getD (v37.2.2.2.2.toNat) Zk).1)).bind fun v38=>(bif decide (v37.2.2.2.1<a.2.1.2.2.2.2.2.1)then(some (decide (Y6 Qc v38 v37.2.1 (0:Int)<a.2.1.2.2.2.2.2.2.1)))else(some (false))).bind fun v39=>(bif v39 then(some ((Jf Qc v38 (w64 (Y6 Qc v38 v37.2.1 (0:Int)+(1:Int))) v37.2.1,w64 (v37.2.2.2.1+1))))else(some ((v37.2.1,v37.2.2.2.1)))).bind fun v40=>(bif v39==a.2.2.2 then(gd (decide (v37.2.2.1.length=v37.2.2.1.length)) (gd (decide (j (v37.2.2.1++(a.2.2.1.getD (v37.2.2.2.2.toNat) Zk).1::Qa ByteArray)*(16:Nat)<=(140737488355328:Nat))) (gd (decide (j (v37.2.2.1++(a.2.2.1.getD (v37.2.2.2.2.toNat) Zk).1::Qa ByteArray)<=9223372036854775807)) (gd (true&&(decide (j (v37.2.2.1++(a.2.2.1.getD (v37.2.2.2.2.toNat) Zk).1::Qa ByteArray)=j (v37.2.2.1++(a.2.2.1.getD (v37.2.2.2.2.toNat) Zk).1::Qa ByteArray))&&true&&true&&true)) (some (((),v37.2.2.1++(a.2.2.1.getD (v37.2.2.2.2.toNat) Zk).1::Qa ByteArray)))))))else(gd (true&&(decide (v37.2.2.1.length=v37.2.2.1.length)&&true&&true&&true)) (some (((),v37.2.2.1))))).bind fun v41=>(gd (true&&(decide (v41.2.length=v41.2.length)&&true&&true&&(true&&(true&&(true&&true))))) (some (((),v40.1,v41.2,v40.2,w64 (v37.2.2.2.2+1))))).bind fun v42=>some (R v42)))))else((gd (true&&(decide (v37.2.2.1.length=v37.2.2.1.length)&&true&&true&&(true&&true))) (some (((),v37.2.1,v37.2.2.1)))).bind fun v43=>some (J v43))) F (((),Qa (ByteArray×Int),Qa ByteArray,(0:Int),(0:Int)))).bind fun v36=>gd (decide ((0:Nat)+v36.2.2.length<=v36.2.2.length)) (some (C (v36.2.2.length) (I (0:Nat) v36.2.2)))
def Zj4(F:Nat):PC:={ats:=[.agg Zn,.agg kt4,.val (.seq Zx),.val (.bool)],rts:=Qb3,code:=Qzt F}
theorem Qzw(F:Nat):Qg cx 138 (Zj4 F):=qE (Yai F) (Q8 2 (.two (.two (.within [(196,.leaf)]) (.one (.within [(100000227,(Q8 3 (.one (.virtF 3 0 9 Z3 (.loop ⟨[.mix 3 25 1 [] [(0,.own 10)],.map 9 (.val (.str)) (.val (.int .i64)),.vec 10 9 Z3,.slot 5 (.val (.int .i64)),.slot 14 (.val (.int .i64))],[]⟩ [(.exit 0,⟨[.mix 3 25 1 [] [(0,.own 10)],.map 9 (.val (.str)) (.val (.int .i64)),.vec 10 9 Z3],[]⟩)] ⟨[46,14,18,19,20,21,9,34,37,38,39,40,5,36,35,45,44,43,42,41,10,33,32,31,30,29,28,27,26,25,24,23,22,8,17,16,15],[10,3,9],[10]⟩ F (Q8 2 (.two (.one (Q8 2 (.two (.join [(.normal,⟨[.slot 10 (.val (.bool))],[]⟩)] ⟨(10::kD 33 12 []),[],[]⟩ .leaf) (.two (.two .leaf (.join [(.normal,⟨[.map 9 (.val (.str)) (.val (.int .i64)),.slot 5 (.val (.int .i64))],[]⟩)] ⟨[37,38,39,40,5,36,35],[9],[]⟩ .leaf)) (.two (.within [(1000008,(.one (.two .leaf (.join [(.normal,⟨[.mix 3 25 1 [] [(0,.own 10)],.vec 10 9 Z3],[]⟩)] ⟨[25,24,23,22,21],[10,3],[10]⟩ .leaf))))]) .leaf))))) .leaf)))))))]))) .leaf)) f138 (by kernel_rfl) fun a=>by kernel_rfl
def Ypv(F:Nat):LK:=lC (Qzw F) (lC (Ql4 F) (lC (Qpv F) lN))
def c52(F:Nat)(a:(Zr)×(Qm)×ByteArray):Option (List ByteArray×Int):=
 (Qje F (a.1,a.2.1,a.2.2,false)).bind fun v9=>bif !decide (v9.2=0)then(some ((Qa ByteArray,v9.2)))else((Qb1 F (a.2.1,a.2.2)).bind fun v10=>(Qzt F (a.2.1,v9.1,v10,true)).bind fun v11=>some ((v11,(0:Int))))
def Qy1(F:Nat):PC:={ats:=Qrv,rts:=Qog,code:=c52 F}
theorem Zf3(F:Nat):Qg cx 52 (Qy1 F):=qE (Ypv F) .leaf f52 (by kernel_rfl) fun a=>by kernel_rfl
def Ztd(F:Nat):LK:=lC (Ql4 F) (lC (Qpv F) lN)
def c55(F:Nat)(a:(Zr)×(Qm)×ByteArray):Option (List (Ql)×Int):=
 (Qje F (a.1,a.2.1,a.2.2,false)).bind fun v7=>bif !decide (v7.2=0)then(some ((Qa (Ql),v7.2)))else((Qb1 F (a.2.1,a.2.2)).bind fun v8=>some ((v8,(0:Int))))
def Yau(F:Nat):PC:={ats:=Qrv,rts:=[.val (.seq Zx),.val (.int .i64)],code:=c55 F}
theorem Zxd(F:Nat):Qg cx 55 (Yau F):=qE (Ztd F) .leaf f55 (by kernel_rfl) fun a=>by kernel_rfl
def Yqh(F:Nat):LK:=lC (Qzw F) (lC (Ql4 F) (lC (Qpv F) lN))
def c56(F:Nat)(a:(Zr)×(Qm)×ByteArray):Option (List ByteArray×Int):=
 (Qje F (a.1,a.2.1,a.2.2,false)).bind fun v9=>bif !decide (v9.2=0)then(some ((Qa ByteArray,v9.2)))else((Qb1 F (a.2.1,a.2.2)).bind fun v10=>(Qzt F (a.2.1,v9.1,v10,false)).bind fun v11=>some ((v11,(0:Int))))
def Zhj(F:Nat):PC:={ats:=Qrv,rts:=Qog,code:=c56 F}
theorem Zoh(F:Nat):Qg cx 56 (Zhj F):=qE (Yqh F) .leaf f56 (by kernel_rfl) fun a=>by kernel_rfl
end
end Go.Proofs.Tryz

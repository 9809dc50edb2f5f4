/- Functions of the program as functions of data. By program. -/
import Derived.Test.YtpkbmngnolhopaaGreatDoorXTeB1
set_option maxRecDepth 100000
set_option linter.all false
open List renaming length->j,take->C,drop->I,set->ZA
open Int renaming toNat->o,tdiv->U
open Sum renaming inr->J,inl->R
namespace Go.Proofs.Tryz
open Go Go.Sx
noncomputable section
def Zy3(F:Nat):LK:=lC (Z9 F) (lC (V8 F) lN)
def Qph(F:Nat)(a:(Zs)×(Ql)×Q9):Option (Int):=
 (Vu F (a.2.1,a.2.2.2.2.2.1)).bind fun v7=>(Qm F (v7,(9:Int))).bind fun v8=>some (v8)
def Ybw(F:Nat):PC:={ats:=Kz,rts:=Zp,code:=Qph F}
theorem Quw(F:Nat):Qg cx 158 (Ybw F):=qE (Zy3 F) .leaf f158 (by kernel_rfl) fun a=>by kernel_rfl
def Zfk(F:Nat):LK:=lN
def Qmo(F:Nat)(a:List ByteArray):Option (List ByteArray):=
 bif decide (a.length=0)then((gd (decide (j (Qa ByteArray++a)*(16:Nat)<=(140737488355328:Nat))) (gd (decide (j (Qa ByteArray++a)<=9223372036854775807)) (gd (decide (j (Qa ByteArray++a)=j (Qa ByteArray++a))) (some (Qa ByteArray++a))))).bind fun v4=>gd (Wj (Qj.eqv Ze) (Qa ByteArray) v4) (some (Qa ByteArray)))else(gd (decide (j (Qa ByteArray++a)*(16:Nat)<=(140737488355328:Nat))) (gd (decide (j (Qa ByteArray++a)<=9223372036854775807)) (gd (decide (j (Qa ByteArray++a)=j (Qa ByteArray++a))) (some (Qa ByteArray++a)))))
def Qn7(F:Nat):PF:={ats:=Qaz,ty:=9,row:=Ze,code:=Qmo F}
theorem Yp8(F:Nat)(a:List ByteArray):codeF cx (Zfk F).x 1000 .leaf f150 (Qs f150) Qaz 9 Ze a=Qmo F a:=by kernel_rfl
theorem W4(F:Nat):J8 cx 150 (Qn7 F):=J8.Yc Yd (Zfk F).ok (n:=1000) (an:=.leaf) (fn:=f150) (c:=Qs f150) (by kernel_rfl) (by kernel_rfl) (fun a y h=>(Yp8 F a).trans h) (by kernel_rfl)
def Ztx(F:Nat):LK:=lS (PF.Qu (W4 F)) lN
def Qs5(F:Nat)(a:List ByteArray×ByteArray):Option (List ByteArray):=
 (Qmo F a.1).bind fun v5=>gd (decide (v5.length=v5.length)) (gd (decide (j (v5++a.2::Qa ByteArray)*(16:Nat)<=(140737488355328:Nat))) (gd (decide (j (v5++a.2::Qa ByteArray)<=9223372036854775807)) (gd (decide ((0:Nat)+j (v5++a.2::Qa ByteArray)<=j (v5++a.2::Qa ByteArray))) (some (C (j (v5++a.2::Qa ByteArray)) (I (0:Nat) (v5++a.2::Qa ByteArray)))))))
def Zg4(F:Nat):PC:={ats:=Qpu,rts:=Qaz,code:=Qs5 F}
theorem Qmn(F:Nat):Qg cx 160 (Zg4 F):=qE (Ztx F) .leaf f160 (by kernel_rfl) fun a=>by kernel_rfl
def Zv0(F:Nat):LK:=lC (Yh F) (lC (Xu F) (lC (Z9 F) (lC (V8 F) lN)))
def Qpp(F:Nat)(a:(Zs)×(Ql)×Q9):Option (Int):=
 (Vu F (a.2.1,a.2.2.2.2.2.1)).bind fun v15=>(Qm F (!v15,(10:Int))).bind fun v16=>(Jx F (a.2.1,a.2.2.2.2.1)).bind fun v17=>(Qm F (decide (0<=v17),(9:Int))).bind fun v18=>(Qm F (decide (a.2.2.1<a.2.2.2.2.2.2.2.2.1),(3:Int))).bind fun v19=>(Q4 F (v16::v18::v19::Qa Int)).bind fun v20=>some (v20)
def Zxp(F:Nat):PC:={ats:=Kz,rts:=Zp,code:=Qpp F}
theorem Qzd(F:Nat):Qg cx 161 (Zxp F):=qE (Zv0 F) .leaf f161 (by kernel_rfl) fun a=>by kernel_rfl
def Zdc(F:Nat):LK:=lN
def Qgf(F:Nat)(a:List (Qz)):Option (List (Qz)):=
 bif decide (a.length=0)then((gd (decide (j (Qa (Qz)++a)*(56:Nat)<=(140737488355328:Nat))) (gd (decide (j (Qa (Qz)++a)<=9223372036854775807)) (gd (decide (j (Qa (Qz)++a)=j (Qa (Qz)++a))) (some (Qa (Qz)++a))))).bind fun v4=>gd (Wj (Qj.eqv kt3) (Qa (Qz)) v4) (some (Qa (Qz))))else(gd (decide (j (Qa (Qz)++a)*(56:Nat)<=(140737488355328:Nat))) (gd (decide (j (Qa (Qz)++a)<=9223372036854775807)) (gd (decide (j (Qa (Qz)++a)=j (Qa (Qz)++a))) (some (Qa (Qz)++a)))))
def Qnw(F:Nat):PF:={ats:=Quq,ty:=116,row:=kt3,code:=Qgf F}
theorem Yh6(F:Nat)(a:List (Qz)):codeF cx (Zdc F).x 1000 .leaf f199 (Qs f199) Quq 116 kt3 a=Qgf F a:=by kernel_rfl
theorem Wo(F:Nat):J8 cx 199 (Qnw F):=J8.Yc Yd (Zdc F).ok (n:=1000) (an:=.leaf) (fn:=f199) (c:=Qs f199) (by kernel_rfl) (by kernel_rfl) (fun a y h=>(Yh6 F a).trans h) (by kernel_rfl)
def Yka(F:Nat):LK:=lS (PF.Qu (Wo F)) lN
def Qy4(F:Nat)(a:List (Qz)×Qz):Option (List (Qz)):=
 tw (X:=List (Qz)) (Qt.eqv (Qe.val (Ty.seq kt3)::Qa Qe)) ((Qgf F a.1).bind fun v13=>gd (decide (v13.length=v13.length)) (gd (decide (j (v13++a.2::Qa (Qz))*(56:Nat)<=(140737488355328:Nat))) (gd (decide (j (v13++a.2::Qa (Qz))<=9223372036854775807)) (gd (decide ((0:Nat)+j (v13++a.2::Qa (Qz))<=j (v13++a.2::Qa (Qz)))) (some (C (j (v13++a.2::Qa (Qz))) (I (0:Nat) (v13++a.2::Qa (Qz)))))))))
def Zc5(F:Nat):PC:={ats:=[.val (.seq kt3),.agg kt3],rts:=Quq,code:=Qy4 F}
theorem Qkv(F:Nat):Qg cx 213 (Zc5 F):=qE (Yka F) .leaf f213 (by kernel_rfl) fun a=>by kernel_rfl
def Yno(F:Nat):LK:=lC (Z9 F) (lC (Xu F) lN)
def Qru(F:Nat)(a:(Zs)×(Ql)×Q9):Option (Int):=
 (Jx F (a.2.1,a.2.2.2.2.1)).bind fun v7=>(Qm F (decide (v7<0),(10:Int))).bind fun v8=>some (v8)
def Ycd(F:Nat):PC:={ats:=Kz,rts:=Zp,code:=Qru F}
theorem Qu6(F:Nat):Qg cx 163 (Ycd F):=qE (Yno F) .leaf f163 (by kernel_rfl) fun a=>by kernel_rfl
def Zim(F:Nat):LK:=lN
def Ql9(F:Nat)(a:List (Zb)):Option (List (Zb)):=
 bif decide (a.length=0)then((gd (decide (j (Qa (Zb)++a)*(32:Nat)<=(140737488355328:Nat))) (gd (decide (j (Qa (Zb)++a)<=9223372036854775807)) (gd (decide (j (Qa (Zb)++a)=j (Qa (Zb)++a))) (some (Qa (Zb)++a))))).bind fun v4=>gd (Wj (Qj.eqv kt2) (Qa (Zb)) v4) (some (Qa (Zb))))else(gd (decide (j (Qa (Zb)++a)*(32:Nat)<=(140737488355328:Nat))) (gd (decide (j (Qa (Zb)++a)<=9223372036854775807)) (gd (decide (j (Qa (Zb)++a)=j (Qa (Zb)++a))) (some (Qa (Zb)++a)))))
def Qo7(F:Nat):PF:={ats:=Qw3,ty:=124,row:=kt2,code:=Ql9 F}
theorem Zql(F:Nat)(a:List (Zb)):codeF cx (Zim F).x 1000 .leaf f200 (Qs f200) Qw3 124 kt2 a=Ql9 F a:=by kernel_rfl
theorem Qpb(F:Nat):J8 cx 200 (Qo7 F):=J8.Yc Yd (Zim F).ok (n:=1000) (an:=.leaf) (fn:=f200) (c:=Qs f200) (by kernel_rfl) (by kernel_rfl) (fun a y h=>(Zql F a).trans h) (by kernel_rfl)
def Zvk(F:Nat):LK:=lS (PF.Qu (Qpb F)) lN
def Qtq(F:Nat)(a:List (Zb)×Zb):Option (List (Zb)):=
 tw (X:=List (Zb)) (Qt.eqv (Qe.val (Ty.seq kt2)::Qa Qe)) ((Ql9 F a.1).bind fun v13=>gd (decide (v13.length=v13.length)) (gd (decide (j (v13++a.2::Qa (Zb))*(32:Nat)<=(140737488355328:Nat))) (gd (decide (j (v13++a.2::Qa (Zb))<=9223372036854775807)) (gd (decide ((0:Nat)+j (v13++a.2::Qa (Zb))<=j (v13++a.2::Qa (Zb)))) (some (C (j (v13++a.2::Qa (Zb))) (I (0:Nat) (v13++a.2::Qa (Zb)))))))))
def Zd1(F:Nat):PC:={ats:=[.val (.seq kt2),.agg kt2],rts:=Qw3,code:=Qtq F}
theorem Qk7(F:Nat):Qg cx 214 (Zd1 F):=qE (Zvk F) .leaf f214 (by kernel_rfl) fun a=>by kernel_rfl
def Zow(F:Nat):LK:=lN
def Qg9(F:Nat)(a:(Ql)×ByteArray):Option (Int):=
 (Qw (O:=Int×Int) (β:=Int) (fun v10=>bif decide (v10.2<(↑(a.1.2.2.2.1.length):Int))then(gd (decide (0<=v10.2)) (gd (decide (v10.2<(↑(a.1.2.2.2.1.length):Int))) (gd (decide (v10.2.toNat<a.1.2.2.2.1.length)) ((bif Qc (a.1.2.2.2.1.getD (v10.2.toNat) Q8).1 a.2 then(some (w64 (v10.1+1)))else(some v10.1)).bind fun v11=>some (R (v11,w64 (v10.2+1)))))))else(some (J v10.1))) F (((0:Int),(0:Int)))).bind fun v9=>some (v9)
def Yml(F:Nat):PC:={ats:=Qfr,rts:=Zp,code:=Qg9 F}
theorem Qqo(F:Nat):Qg cx 215 (Yml F):=qE (Zow F) (Q7 2 (.two (.two .leaf (.one (.loop ⟨[.slot 5 (.val (.int .i64)),.slot 11 (.val (.int .i64))],[]⟩ [(.exit 0,⟨[.slot 5 (.val (.int .i64))],[]⟩)] ⟨[21,11,15,16,17,18,5,20,19,7,14,13,12],[],[]⟩ F (Q7 2 (.two (.one (Q7 2 (.join [(.normal,⟨[.slot 5 (.val (.int .i64))],[]⟩)] ⟨[5,20,19],[],[]⟩ .leaf))) .leaf))))) .leaf)) f215 (by kernel_rfl) fun a=>by kernel_rfl
def Yjr(F:Nat):LK:=lC (Uu F) (lC (Z9 F) (lC (Qqo F) (lC (Yh F) (lC (V8 F) (lC (Xu F) lN)))))
def Qqm(F:Nat)(a:(Zs)×(Ql)×Q9):Option (Int):=
 ((Jx F (a.2.1,a.2.2.2.2.1)).bind fun v27=>bif decide (v27<0)then(some (true))else((Vu F (a.2.1,a.2.2.2.2.2.1)).bind fun v28=>some (!v28))).bind fun v21=>bif v21 then(some ((10:Int)))else((Qb0 F (a.2.1,a.2.2.2.2.1)).bind fun v22=>(Qm F (Qc v22 a.2.2.2.2.2.1,(9:Int))).bind fun v23=>(Qg9 F (a.2.1,a.2.2.2.2.1)).bind fun v24=>(Qm F (decide (0<v24),(19:Int))).bind fun v25=>(Q4 F (v23::v25::Qa Int)).bind fun v26=>some (v26))
def Yg4(F:Nat):PC:={ats:=Kz,rts:=Zp,code:=Qqm F}
theorem Quz(F:Nat):Qg cx 165 (Yg4 F):=qE (Yjr F) (.two .leaf (.two (.two (.join [(.normal,⟨[.slot 18 (.val (.bool))],[]⟩)] ⟨(kD 18 12 []),[],[]⟩ .leaf) .leaf) .leaf)) f165 (by kernel_rfl) fun a=>by kernel_rfl
def Zsp(F:Nat):LK:=lC (Yh F) (lC (Yrj F) (lC (Z9 F) (lC (Xu F) lN)))
def Qhe(F:Nat)(a:(Ql)×(Zs)×(Yj)×ByteArray):Option (Int):=
 ((Jx F (a.1,a.2.2.2)).bind fun v122=>gd (decide (0<=v122)) (gd (decide (v122<(↑(a.1.2.1.length):Int))) (gd (decide (v122.toNat<a.1.2.1.length)) ((bif !Qc a.2.2.1.2.2.1 YC then((Qm F (!Qc a.2.2.1.2.2.1 (a.1.2.1.getD (v122.toNat) Zw).2.2.2,(18:Int))).bind fun v124=>bif decide (a.2.1.1<(a.1.2.1.getD (v122.toNat) Zw).2.2.1)then((W7 F (a.1.2.2.1,a.2.2.2,a.2.1.1)).bind fun v125=>(Qm F (!v125,(7:Int))).bind fun v126=>(Q4 F (v124::(18:Int)::v126::Qa Int)).bind fun v127=>some (v127))else(bif decide (w64 (U (w64 (a.2.1.1-(a.1.2.1.getD (v122.toNat) Zw).2.2.1)) (365:Int))<a.2.2.1.2.2.2.1)then((W7 F (a.1.2.2.1,a.2.2.2,a.2.1.1)).bind fun v128=>(Qm F (!v128,(7:Int))).bind fun v129=>(Q4 F (v124::(18:Int)::v129::Qa Int)).bind fun v130=>some (v130))else((Qm F (decide (a.2.2.1.2.2.2.2.1<w64 (U (w64 (a.2.1.1-(a.1.2.1.getD (v122.toNat) Zw).2.2.1)) (365:Int))),(18:Int))).bind fun v131=>(W7 F (a.1.2.2.1,a.2.2.2,a.2.1.1)).bind fun v132=>(Qm F (!v132,(7:Int))).bind fun v133=>(Q4 F (v124::v131::v133::Qa Int)).bind fun v134=>some (v134))))else(bif decide (a.2.1.1<(a.1.2.1.getD (v122.toNat) Zw).2.2.1)then((W7 F (a.1.2.2.1,a.2.2.2,a.2.1.1)).bind fun v135=>(Qm F (!v135,(7:Int))).bind fun v136=>(Q4 F ((0:Int)::(18:Int)::v136::Qa Int)).bind fun v137=>some (v137))else(bif decide (w64 (U (w64 (a.2.1.1-(a.1.2.1.getD (v122.toNat) Zw).2.2.1)) (365:Int))<a.2.2.1.2.2.2.1)then((W7 F (a.1.2.2.1,a.2.2.2,a.2.1.1)).bind fun v138=>(Qm F (!v138,(7:Int))).bind fun v139=>(Q4 F ((0:Int)::(18:Int)::v139::Qa Int)).bind fun v140=>some (v140))else((Qm F (decide (a.2.2.1.2.2.2.2.1<w64 (U (w64 (a.2.1.1-(a.1.2.1.getD (v122.toNat) Zw).2.2.1)) (365:Int))),(18:Int))).bind fun v141=>(W7 F (a.1.2.2.1,a.2.2.2,a.2.1.1)).bind fun v142=>(Qm F (!v142,(7:Int))).bind fun v143=>(Q4 F ((0:Int)::v141::v143::Qa Int)).bind fun v144=>some (v144))))).bind fun v123=>some (v123))))).bind fun v97=>((Jx F (a.1,a.2.2.2)).bind fun v99=>gd (decide (0<=v99)) (gd (decide (v99<(↑(a.1.2.1.length):Int))) (gd (decide (v99.toNat<a.1.2.1.length)) ((bif !Qc a.2.2.1.2.2.1 YC then((Qm F (!Qc a.2.2.1.2.2.1 (a.1.2.1.getD (v99.toNat) Zw).2.2.2,(18:Int))).bind fun v101=>bif decide (a.2.1.1<(a.1.2.1.getD (v99.toNat) Zw).2.2.1)then((W7 F (a.1.2.2.1,a.2.2.2,a.2.1.1)).bind fun v102=>(Qm F (!v102,(7:Int))).bind fun v103=>(Q4 F (v101::(18:Int)::v103::Qa Int)).bind fun v104=>some (v104))else(bif decide (w64 (U (w64 (a.2.1.1-(a.1.2.1.getD (v99.toNat) Zw).2.2.1)) (365:Int))<a.2.2.1.2.2.2.1)then((W7 F (a.1.2.2.1,a.2.2.2,a.2.1.1)).bind fun v105=>(Qm F (!v105,(7:Int))).bind fun v106=>(Q4 F (v101::(18:Int)::v106::Qa Int)).bind fun v107=>some (v107))else((Qm F (decide (a.2.2.1.2.2.2.2.1<w64 (U (w64 (a.2.1.1-(a.1.2.1.getD (v99.toNat) Zw).2.2.1)) (365:Int))),(18:Int))).bind fun v108=>(W7 F (a.1.2.2.1,a.2.2.2,a.2.1.1)).bind fun v109=>(Qm F (!v109,(7:Int))).bind fun v110=>(Q4 F (v101::v108::v110::Qa Int)).bind fun v111=>some (v111))))else(bif decide (a.2.1.1<(a.1.2.1.getD (v99.toNat) Zw).2.2.1)then((W7 F (a.1.2.2.1,a.2.2.2,a.2.1.1)).bind fun v112=>(Qm F (!v112,(7:Int))).bind fun v113=>(Q4 F ((0:Int)::(18:Int)::v113::Qa Int)).bind fun v114=>some (v114))else(bif decide (w64 (U (w64 (a.2.1.1-(a.1.2.1.getD (v99.toNat) Zw).2.2.1)) (365:Int))<a.2.2.1.2.2.2.1)then((W7 F (a.1.2.2.1,a.2.2.2,a.2.1.1)).bind fun v115=>(Qm F (!v115,(7:Int))).bind fun v116=>(Q4 F ((0:Int)::(18:Int)::v116::Qa Int)).bind fun v117=>some (v117))else((Qm F (decide (a.2.2.1.2.2.2.2.1<w64 (U (w64 (a.2.1.1-(a.1.2.1.getD (v99.toNat) Zw).2.2.1)) (365:Int))),(18:Int))).bind fun v118=>(W7 F (a.1.2.2.1,a.2.2.2,a.2.1.1)).bind fun v119=>(Qm F (!v119,(7:Int))).bind fun v120=>(Q4 F ((0:Int)::v118::v120::Qa Int)).bind fun v121=>some (v121))))).bind fun v100=>some (v100))))).bind fun v98=>gd (Qt.eqv (Qe.val (Ty.int Go.IntKind.i64)::Qa Qe) v97 v98) (some (v97))
def Ydo(F:Nat):PC:={ats:=[.agg Zm,.agg Xs,.agg kt4,.val (.str)],rts:=Zp,code:=Qhe F}
theorem Qhj(F:Nat):Qg cx 140 (Ydo F):=qE (Zsp F) (Q7 3 (.two (.join [(.normal,⟨[.slot 8 (.val (.int .i64))],[]⟩)] ⟨(8::kD 62 39 []),[],[]⟩ .leaf) .leaf)) f140 (by kernel_rfl) fun a=>by kernel_rfl
def Ymj(F:Nat):LK:=lN
def Qqp(F:Nat)(a:(ByteArray×Int×ByteArray)×ByteArray×Int×ByteArray):Option (Bool):=
 (bif !Qc a.1.1 a.2.1 then(bif !Qc a.1.1 YM then(some (!Qc a.2.1 YM))else(some (false)))else(some (false))).bind fun v5=>some (v5)
def Ydv(F:Nat):PC:={ats:=[.agg kt7,.agg kt7],rts:=Xn,code:=Qqp F}
theorem Zx7(F:Nat):Qg cx 240 (Ydv F):=qE (Ymj F) (.two .leaf (.two (.join [(.normal,⟨[.slot 4 (.val (.bool))],[]⟩)] ⟨(4::kD 19 15 []),[],[]⟩ .leaf) .leaf)) f240 (by kernel_rfl) fun a=>by kernel_rfl
def Ynl(F:Nat):LK:=lN
def Ql7(F:Nat)(a:ByteArray×Int×ByteArray):Option (Int):=
 tw (X:=Int) (Qt.eqv (Qe.val (Ty.int Go.IntKind.i64)::Qa Qe)) (bif Qc a.1 YK then(some (Go.IntKind.wrap Go.IntKind.i64 ((0:Int)-a.2.1)))else(bif Qc a.1 YL then(some a.2.1)else(bif Qc a.1 YN then(some a.2.1)else(some ((-864000000:Int))))))
def Ybe(F:Nat):PC:={ats:=[.agg kt7],rts:=Zp,code:=Ql7 F}
theorem Zvz(F:Nat):Qg cx 252 (Ybe F):=qE (Ynl F) (.two .leaf (.two (.within [(178,.leaf)]) .leaf)) f252 (by kernel_rfl) fun a=>by kernel_rfl
def Ygo(F:Nat):LK:=lC (Zvz F) lN
def Qo1(F:Nat)(a:(ByteArray×Int×ByteArray)×ByteArray×Int×ByteArray):Option (Int):=
 (Ql7 F a.1).bind fun v7=>(Ql7 F a.2).bind fun v8=>bif decide (v8<v7)then(some ((-1:Int)))else(bif decide (v7<v8)then(some ((1:Int)))else(some ((0:Int))))
def Yb3(F:Nat):PC:={ats:=[.agg kt7,.agg kt7],rts:=Zp,code:=Qo1 F}
theorem Ypw(F:Nat):Qg cx 241 (Yb3 F):=qE (Ygo F) .leaf f241 (by kernel_rfl) fun a=>by kernel_rfl
def Zok(F:Nat):LK:=lC (Ypw F) (lC (Zhv F) (lC (Zl5 F) (lC (Zx7 F) (lC (Vh F) lN))))
def Qi8(F:Nat)(a:(ByteArray×Int×ByteArray)×ByteArray×Int×ByteArray):Option (Int×Int):=
 (c99 F a.1).bind fun v15=>(c99 F a.2).bind fun v16=>(Qqp F (a.1,a.2.1,a.2.2.1,a.2.2.2)).bind fun v17=>(Jk F (v17,(13:Int))).bind fun v18=>(Vb F (v15::v16::v18::Qa Int)).bind fun v19=>bif !decide (v19=0)then(some (((0:Int),v19)))else((Qo1 F (a.1,a.2.1,a.2.2.1,a.2.2.2)).bind fun v20=>some ((v20,(0:Int))))
def Zdo(F:Nat):PC:={ats:=[.agg kt7,.agg kt7],rts:=Qni,code:=Qi8 F}
theorem Qb9(F:Nat):Qg cx 205 (Zdo F):=qE (Zok F) .leaf f205 (by kernel_rfl) fun a=>by kernel_rfl
def Ydn(F:Nat):LK:=lC (Xu F) (lC (Qb9 F) (lC (Qqo F) (lC (Yh F) (lC (Qrm F) (lC (Qhj F) (lC (Vk F) (lC (Z9 F) (lC (Qcc F) lN))))))))
def Qqa(F:Nat)(a:(Zs)×(Ql)×Q9):Option (Int):=
 (Qai F (a.1,a.2.2.2.2.2.2.2.1)).bind fun v79=>(bif !v79.2 then(some (true))else((Jx F (a.2.1,a.2.2.2.2.1)).bind fun v105=>some (decide (v105<0)))).bind fun v80=>bif v80 then(some ((10:Int)))else(((Qm F (decide (0<v79.1.2.2.2.2.2.2.2.2.2.2),(13:Int))).bind fun v91=>bif decide (a.2.2.1<a.1.2.1)then((Jw F (a.2.1,a.2.2.2.2.1,a.2.2.2.2.2.2.2.1)).bind fun v92=>(Qm F (decide (0<=v92),(9:Int))).bind fun v93=>(Qhe F (a.2.1,a.1,v79.1,a.2.2.2.2.1)).bind fun v94=>(Jm F (v79.1,a.2.2.2.2.2.2.2.2.2.2.1,a.2.2.2.2.2.2.2.2.2.2.2.1,a.2.2.2.2.2.2.2.2.2.2.2.2.1)).bind fun v95=>(Qm F (!v95,(30:Int))).bind fun v96=>(Q4 F (v91::(19:Int)::v93::v94::v96::Qa Int)).bind fun v97=>some (v97))else((Qm F (decide (a.1.2.2.1<a.2.2.1),(19:Int))).bind fun v98=>(Jw F (a.2.1,a.2.2.2.2.1,a.2.2.2.2.2.2.2.1)).bind fun v99=>(Qm F (decide (0<=v99),(9:Int))).bind fun v100=>(Qhe F (a.2.1,a.1,v79.1,a.2.2.2.2.1)).bind fun v101=>(Jm F (v79.1,a.2.2.2.2.2.2.2.2.2.2.1,a.2.2.2.2.2.2.2.2.2.2.2.1,a.2.2.2.2.2.2.2.2.2.2.2.2.1)).bind fun v102=>(Qm F (!v102,(30:Int))).bind fun v103=>(Q4 F (v91::v98::v100::v101::v103::Qa Int)).bind fun v104=>some (v104))).bind fun v81=>bif !decide (v81=0)then(some (v81))else((Qi8 F ((a.2.2.2.2.2.2.2.2.2.2.1,a.2.2.2.2.2.2.2.2.2.2.2.1,a.2.2.2.2.2.2.2.2.2.2.2.2.1),v79.1.2.2.2.2.2.2.2.1,v79.1.2.2.2.2.2.2.2.2.1,v79.1.2.2.2.2.2.2.2.2.2.1)).bind fun v82=>(bif !Qc v79.1.2.2.2.2.2.2.2.1 YM then((Qm F (decide (0<v82.1),(30:Int))).bind fun v84=>(Qg9 F (a.2.1,a.2.2.2.2.1)).bind fun v85=>(Qm F (decide (a.1.2.2.2.1<=v85),(5:Int))).bind fun v86=>(Q4 F (v84::v86::Qa Int)).bind fun v87=>some (v87))else((Qg9 F (a.2.1,a.2.2.2.2.1)).bind fun v88=>(Qm F (decide (a.1.2.2.2.1<=v88),(5:Int))).bind fun v89=>(Q4 F ((0:Int)::v89::Qa Int)).bind fun v90=>some (v90))).bind fun v83=>some (v83)))
def Zy7(F:Nat):PC:={ats:=Kz,rts:=Zp,code:=Qqa F}
theorem Qys(F:Nat):Qg cx 167 (Zy7 F):=qE (Ydn F) (Q7 2 (.two (.two (.join [(.normal,⟨[.slot 27 (.val (.bool))],[]⟩)] ⟨(kD 27 9 []),[],[]⟩ .leaf) .leaf) (.two (.two (.join [(.normal,⟨[.slot 9 (.val (.int .i64))],[]⟩)] ⟨(9::kD 66 39 []),[],[]⟩ .leaf) .leaf) (.two .leaf (.two (.join [(.normal,⟨[.slot 6 (.val (.int .i64))],[]⟩)] ⟨(6::kD 96 19 []),[],[]⟩ .leaf) .leaf))))) f167 (by kernel_rfl) fun a=>by kernel_rfl
def Zhz(F:Nat):LK:=lN
def Qep(F:Nat)(a:List (Qh)):Option (List (Qh)):=
 bif decide (a.length=0)then((gd (decide (j (Qa (Qh)++a)*(88:Nat)<=(140737488355328:Nat))) (gd (decide (j (Qa (Qh)++a)<=9223372036854775807)) (gd (decide (j (Qa (Qh)++a)=j (Qa (Qh)++a))) (some (Qa (Qh)++a))))).bind fun v4=>gd (Wj (Qj.eqv Zl) (Qa (Qh)) v4) (some (Qa (Qh))))else(gd (decide (j (Qa (Qh)++a)*(88:Nat)<=(140737488355328:Nat))) (gd (decide (j (Qa (Qh)++a)<=9223372036854775807)) (gd (decide (j (Qa (Qh)++a)=j (Qa (Qh)++a))) (some (Qa (Qh)++a)))))
def Qp1(F:Nat):PF:={ats:=Qdf,ty:=106,row:=Zl,code:=Qep F}
theorem Zrh(F:Nat)(a:List (Qh)):codeF cx (Zhz F).x 1000 .leaf f201 (Qs f201) Qdf 106 Zl a=Qep F a:=by kernel_rfl
theorem J3(F:Nat):J8 cx 201 (Qp1 F):=J8.Yc Yd (Zhz F).ok (n:=1000) (an:=.leaf) (fn:=f201) (c:=Qs f201) (by kernel_rfl) (by kernel_rfl) (fun a y h=>(Zrh F a).trans h) (by kernel_rfl)
def Zut(F:Nat):LK:=lS (PF.Qu (J3 F)) lN
def Qws(F:Nat)(a:List (Qh)×Qh):Option (List (Qh)):=
 tw (X:=List (Qh)) (Qt.eqv (Qe.val (Ty.seq Zl)::Qa Qe)) ((Qep F a.1).bind fun v13=>gd (decide (v13.length=v13.length)) (gd (decide (j (v13++a.2::Qa (Qh))*(88:Nat)<=(140737488355328:Nat))) (gd (decide (j (v13++a.2::Qa (Qh))<=9223372036854775807)) (gd (decide ((0:Nat)+j (v13++a.2::Qa (Qh))<=j (v13++a.2::Qa (Qh)))) (some (C (j (v13++a.2::Qa (Qh))) (I (0:Nat) (v13++a.2::Qa (Qh)))))))))
def Zec(F:Nat):PC:={ats:=[.val (.seq Zl),.agg Zl],rts:=Qdf,code:=Qws F}
theorem Ql5(F:Nat):Qg cx 216 (Zec F):=qE (Zut F) .leaf f216 (by kernel_rfl) fun a=>by kernel_rfl
def Zqx(F:Nat):LK:=lC (Yh F) (lC (Z9 F) (lC (Vk F) lN))
def Qn0(F:Nat)(a:(Zs)×(Ql)×Q9):Option (Int):=
 (Jw F (a.2.1,a.2.2.2.2.1,a.2.2.2.2.2.2.2.1)).bind fun v11=>(Qm F (decide (v11<0),(10:Int))).bind fun v12=>(Qm F (decide (a.1.1<a.2.2.1),(20:Int))).bind fun v13=>(Q4 F (v12::v13::Qa Int)).bind fun v14=>some (v14)
def Zyc(F:Nat):PC:={ats:=Kz,rts:=Zp,code:=Qn0 F}
theorem Qze(F:Nat):Qg cx 169 (Zyc F):=qE (Zqx F) .leaf f169 (by kernel_rfl) fun a=>by kernel_rfl
def Yro(F:Nat):LK:=lN
def Zvq(F:Nat):PC:=qT (Yro F) .leaf f217 [.val (.seq Zl),.val (.int .i64),.val (.int .i64)] Qdf
theorem Qwj(F:Nat):Qg cx 217 (Zvq F):=Qci (by kernel_rfl)
def Zor(F:Nat):LK:=lC (Yh F) (lC (Z9 F) (lC (Vk F) lN))
def Qpx(F:Nat)(a:(Zs)×(Ql)×Q9):Option (Int):=
 (Jw F (a.2.1,a.2.2.2.2.1,a.2.2.2.2.2.2.2.1)).bind fun v11=>bif decide (v11<0)then(some ((10:Int)))else(gd (decide (0<=v11)) (gd (decide (v11<(↑(a.2.1.2.2.2.1.length):Int))) (gd (decide (v11.toNat<a.2.1.2.2.2.1.length)) ((Qm F ((a.2.1.2.2.2.1.getD (v11.toNat) Q8).2.2.2.2.2.2,(9:Int))).bind fun v12=>(Qm F (!decide (a.2.2.1=a.1.1),(19:Int))).bind fun v13=>(Q4 F (v12::v13::Qa Int)).bind fun v14=>some (v14)))))
def Yb9(F:Nat):PC:={ats:=Kz,rts:=Zp,code:=Qpx F}
theorem Qsy(F:Nat):Qg cx 171 (Yb9 F):=qE (Zor F) .leaf f171 (by kernel_rfl) fun a=>by kernel_rfl
def Yjs:Qk:=⟨[.slot 0 (.val (.int .i64)),.slot 1 (.val (.str)),.one 0 31 Zm,.one 1 35 Xq,.one 2 24 Xs,.one 3 110 kt4],[(2,.stat (.ptr 0 5 0 0)),(3,.stat (.ptr 1 12 0 0)),(4,.stat (.ptr 2 5 0 0)),(5,.stat (.ptr 3 11 0 0))]⟩
def Yer:Qk:=⟨[.slot 0 (.val (.int .i64))],[]⟩
def Yjl(F:Nat):LK:=lC (Uu F) (lC (Z9 F) (lC (Wf F) (lC (Qhj F) (lC (Yh F) (lC (Xu F) lN)))))
def Qr0(F:Nat)(a:Int×ByteArray×(Ql)×(Q9)×(Zs)×Yj):Option (Int):=
 (Jx F (a.2.2.1,a.2.1)).bind fun v17=>bif decide (v17<0)then(some ((10:Int)))else(gd (decide (0<=a.1)) (gd (decide (a.1<=(↑(a.2.2.2.1.2.2.2.2.2.2.2.2.2.2.2.length):Int))) ((Qb0 F (a.2.2.1,a.2.1)).bind fun v18=>(Qm F (!Qc v18 a.2.2.2.1.2.2.2.1,(18:Int))).bind fun v19=>(Vv F (I (0:Nat) (C (a.1.toNat) a.2.2.2.1.2.2.2.2.2.2.2.2.2.2.2),a.2.1)).bind fun v20=>(Qm F (v20,(9:Int))).bind fun v21=>(Qhe F (a.2.2.1,a.2.2.2.2.1,a.2.2.2.2.2,a.2.1)).bind fun v22=>(Q4 F (v19::v21::v22::Qa Int)).bind fun v23=>some (v23))))
def Zxr(F:Nat):PX:={np:=6,locs:=[.arg 2,.arg 3,.arg 4,.arg 5],τ:=Yjs,nr:=1,ω:=Yer,ids:=[],mv:=[],code:=Qr0 F}
theorem Qv8(F:Nat):Zk cx 218 (Zxr F):=Yi (Yjl F) .leaf f218 (by kernel_rfl) fun a=>by kernel_rfl
def Yhn:Qk:=⟨[.slot 0 (.val (.seq Ze)),.one 0 31 Zm,.one 1 35 Xq,.one 2 24 Xs,.one 3 110 kt4],[(1,.stat (.fn (.func 218) [] [.ptr 0 5 0 0,.ptr 1 12 0 0,.ptr 2 5 0 0,.ptr 3 11 0 0]))]⟩
def Yrg:Qk:=⟨[.slot 0 (.val (.int .i64))],[]⟩
def Zpu(F:Nat):LK:=lC (Uu F) (lC (Z9 F) (lC (Wf F) (lC (Qhj F) (lC (Yh F) (lC (Xu F) (lX (Qv8 F) lN))))))
def Qrz(F:Nat)(a:List ByteArray×(Ql)×(Q9)×(Zs)×Yj):Option (Int):=
 (Qw (O:=Int) (β:=Int ⊕ Unit) (fun v15=>bif decide (v15<(↑(a.1.length):Int))then(gd (decide (0<=v15)) (gd (decide (v15<(↑(a.1.length):Int))) (gd (decide (v15.toNat<a.1.length)) ((Qr0 F (v15,a.1.getD (v15.toNat) ByteArray.empty,a.2.1,a.2.2.1,a.2.2.2.1,a.2.2.2.2.1,a.2.2.2.2.2.1,a.2.2.2.2.2.2.1,a.2.2.2.2.2.2.2.1,a.2.2.2.2.2.2.2.2.1,a.2.2.2.2.2.2.2.2.2.1,a.2.2.2.2.2.2.2.2.2.2.1,a.2.2.2.2.2.2.2.2.2.2.2.1,a.2.2.2.2.2.2.2.2.2.2.2.2.1,a.2.2.2.2.2.2.2.2.2.2.2.2.2.1,a.2.2.2.2.2.2.2.2.2.2.2.2.2.2)).bind fun v16=>bif !decide (v16=0)then(some (J (R v16)))else(some (R (w64 (v15+1))))))))else(some (J (J ())))) F ((0:Int))).bind fun v12=>Sum.elim (fun v13=>some (v13)) (fun v14=>some ((0:Int))) (v12)
def Ymf(F:Nat):PX:={np:=2,locs:=[.cap (.arg 1) 0,.cap (.arg 1) 1,.cap (.arg 1) 2,.cap (.arg 1) 3],τ:=Yhn,nr:=1,ω:=Yrg,ids:=[],mv:=[],code:=Qrz F}
theorem Ue(F:Nat):Zk cx 100 (Ymf F):=Yi (Zpu F) (.two .leaf (.two (.two .leaf (.one (.loop ⟨[.slot 10 (.val (.int .i64))],[]⟩ [(.ret,⟨[.slot 4 (.val (.int .i64))],[]⟩),(.exit 0,⟨[],[]⟩)] ⟨[22,10,15,16,17,18,7,21,4,20,19,6,5,14,13,12,11],[],[]⟩ F .leaf))) .leaf)) f100 (by kernel_rfl) fun a=>by kernel_rfl
def Yf7(F:Nat):LK:=lC (V8 F) (lC (Uu F) (lC (Z9 F) (lC (Wf F) (lC (Qhj F) (lC (Yh F) (lC (Xu F) (lC (Qcc F) (lX (V1 F) (lX (Kw F) (lX (Qv8 F) (lX (Ue F) lN)))))))))))
def Qq0(F:Nat)(a:(Zs)×(Ql)×Q9):Option (Int):=
 (Qai F (a.1,a.2.2.2.2.2.2.2.1)).bind fun v39=>(bif !v39.2 then((Qm F (decide (v39.1.2.2.2.2.2.2.2.2.2.2=0),(13:Int))).bind fun v42=>(Qm F (decide (a.1.1<a.2.2.1),(20:Int))).bind fun v43=>(Qm F (!decide ((↑(a.2.2.2.2.2.2.2.2.2.2.2.2.2.length):Int)=v39.1.2.2.2.2.2.2.2.2.2.2),(2:Int))).bind fun v44=>(Q4 F ((10:Int)::v42::v43::v44::Qa Int)).bind fun v45=>some (v45))else((Vu F (a.2.1,a.2.2.2.2.2.1)).bind fun v46=>(Qm F (!v46,(10:Int))).bind fun v47=>(Qm F (decide (v39.1.2.2.2.2.2.2.2.2.2.2=0),(13:Int))).bind fun v48=>(Qm F (decide (a.1.1<a.2.2.1),(20:Int))).bind fun v49=>(Qm F (!decide ((↑(a.2.2.2.2.2.2.2.2.2.2.2.2.2.length):Int)=v39.1.2.2.2.2.2.2.2.2.2.2),(2:Int))).bind fun v50=>(Q4 F (v47::v48::v49::v50::Qa Int)).bind fun v51=>some (v51))).bind fun v40=>bif !decide (v40=0)then(some (v40))else((Qrz F (a.2.2.2.2.2.2.2.2.2.2.2.2.2,a.2.1,a.2.2,a.1,v39.1.1,v39.1.2.1,v39.1.2.2.1,v39.1.2.2.2.1,v39.1.2.2.2.2.1,v39.1.2.2.2.2.2.1,v39.1.2.2.2.2.2.2.1,v39.1.2.2.2.2.2.2.2.1,v39.1.2.2.2.2.2.2.2.2.1,v39.1.2.2.2.2.2.2.2.2.2.1,v39.1.2.2.2.2.2.2.2.2.2.2)).bind fun v41=>some (v41))
def Zsx(F:Nat):PC:={ats:=Kz,rts:=Zp,code:=Qq0 F}
theorem Qxz(F:Nat):Qg cx 173 (Zsx F):=qE (Yf7 F) (Q7 2 (.two (.two (.join [(.normal,⟨[.slot 9 (.val (.int .i64))],[]⟩)] ⟨(9::kD 45 29 []),[],[]⟩ .leaf) .leaf) .leaf)) f173 (by kernel_rfl) fun a=>by kernel_rfl
def Zgz(F:Nat):LK:=lN
def Qg6(F:Nat)(a:List (Zc)):Option (List (Zc)):=
 bif decide (a.length=0)then((gd (decide (j (Qa (Zc)++a)*(56:Nat)<=(140737488355328:Nat))) (gd (decide (j (Qa (Zc)++a)<=9223372036854775807)) (gd (decide (j (Qa (Zc)++a)=j (Qa (Zc)++a))) (some (Qa (Zc)++a))))).bind fun v4=>gd (Wj (Qj.eqv kt9) (Qa (Zc)) v4) (some (Qa (Zc))))else(gd (decide (j (Qa (Zc)++a)*(56:Nat)<=(140737488355328:Nat))) (gd (decide (j (Qa (Zc)++a)<=9223372036854775807)) (gd (decide (j (Qa (Zc)++a)=j (Qa (Zc)++a))) (some (Qa (Zc)++a)))))
def Qqf(F:Nat):PF:={ats:=Qw0,ty:=147,row:=kt9,code:=Qg6 F}
theorem Znw(F:Nat)(a:List (Zc)):codeF cx (Zgz F).x 1000 .leaf f202 (Qs f202) Qw0 147 kt9 a=Qg6 F a:=by kernel_rfl
theorem Wh(F:Nat):J8 cx 202 (Qqf F):=J8.Yc Yd (Zgz F).ok (n:=1000) (an:=.leaf) (fn:=f202) (c:=Qs f202) (by kernel_rfl) (by kernel_rfl) (fun a y h=>(Znw F a).trans h) (by kernel_rfl)
def Zxf(F:Nat):LK:=lS (PF.Qu (Wh F)) lN
def Qyb(F:Nat)(a:List (Zc)×Zc):Option (List (Zc)):=
 tw (X:=List (Zc)) (Qt.eqv (Qe.val (Ty.seq kt9)::Qa Qe)) ((Qg6 F a.1).bind fun v13=>gd (decide (v13.length=v13.length)) (gd (decide (j (v13++a.2::Qa (Zc))*(56:Nat)<=(140737488355328:Nat))) (gd (decide (j (v13++a.2::Qa (Zc))<=9223372036854775807)) (gd (decide ((0:Nat)+j (v13++a.2::Qa (Zc))<=j (v13++a.2::Qa (Zc)))) (some (C (j (v13++a.2::Qa (Zc))) (I (0:Nat) (v13++a.2::Qa (Zc)))))))))
def Qum(F:Nat):PC:={ats:=[.val (.seq kt9),.agg kt9],rts:=Qw0,code:=Qyb F}
theorem Qg0(F:Nat):Qg cx 219 (Qum F):=qE (Zxf F) .leaf f219 (by kernel_rfl) fun a=>by kernel_rfl
def Yam(F:Nat):LK:=lC (V6 F) lN
def Qp0(F:Nat)(a:Int×ByteArray):Option (Int):=
 (c92 F a.2).bind fun v5=>some (v5)
def Zst(F:Nat):PC:={ats:=[.val (.int .i64),.val (.str)],rts:=Zp,code:=Qp0 F}
theorem Qcb(F:Nat):Qg cx 101 (Zst F):=qE (Yam F) .leaf f101 (by kernel_rfl) fun a=>by kernel_rfl
def Ya0(F:Nat):LK:=lC (Qb9 F) lN
def Qox(F:Nat)(a:(Qh)×Qh):Option (Int):=
 (Qi8 F ((a.1.2.2.1,a.1.2.2.2.1,a.1.2.2.2.2.1),a.2.2.2.1,a.2.2.2.2.1,a.2.2.2.2.2.1)).bind fun v5=>bif !decide (v5.1=0)then(some v5.1)else(some (w64 (a.1.2.2.2.2.2.1-a.2.2.2.2.2.2.1)))
def Zby(F:Nat):PC:={ats:=[.agg Zl,.agg Zl],rts:=Zp,code:=Qox F}
theorem Qeu(F:Nat):Qg cx 204 (Zby F):=qE (Ya0 F) .leaf f204 (by kernel_rfl) fun a=>by kernel_rfl
def Zzl:Qk:=⟨[.slot 1 (.val (.int .i64)),.slot 2 (.val (.int .i64)),.vec 0 106 Zl],[(0,.own 0),(3,.stat (.pv (.lit (.func (.func 204) #[] #[]))))]⟩
def Yhj:Qk:=⟨[.vec 0 106 Zl],[]⟩
def Ysb(F:Nat):LK:=lC (Qb9 F) (lC (Qeu F) lN)
def Qbo(F:Nat)(a:Int×Int×List (Qh)):Option (List (Qh)):=
 (Qw (O:=List (Qh)×Int) (β:=List (Qh)) (fun v31=>bif decide (v31.2<a.2.1)then((Qw (O:=List (Qh)×Int) (β:=List (Qh)) (fun v33=>(bif decide (a.1<v33.2)then(gd (decide (0<=v33.2)) (gd (decide (v33.2<(↑(a.2.2.length):Int))) (gd (decide ((0:Nat)+v33.2.toNat<v33.1.length)) (gd (decide (0<=w64 (v33.2-1))) (gd (decide (w64 (v33.2-1)<(↑(a.2.2.length):Int))) (gd (decide ((0:Nat)+o (w64 (v33.2-1))<v33.1.length)) ((Qox F ((v33.1.getD ((0:Nat)+v33.2.toNat) Q8),(v33.1.getD ((0:Nat)+o (w64 (v33.2-1))) Q8).1,(v33.1.getD ((0:Nat)+o (w64 (v33.2-1))) Q8).2.1,(v33.1.getD ((0:Nat)+o (w64 (v33.2-1))) Q8).2.2.1,(v33.1.getD ((0:Nat)+o (w64 (v33.2-1))) Q8).2.2.2.1,(v33.1.getD ((0:Nat)+o (w64 (v33.2-1))) Q8).2.2.2.2.1,(v33.1.getD ((0:Nat)+o (w64 (v33.2-1))) Q8).2.2.2.2.2.1,(v33.1.getD ((0:Nat)+o (w64 (v33.2-1))) Q8).2.2.2.2.2.2)).bind fun v35=>some (decide (v35<0)))))))))else(some (false))).bind fun v34=>bif v34 then(gd (decide (0<=w64 (v33.2-1))) (gd (decide (w64 (v33.2-1)<(↑(a.2.2.length):Int))) (gd (decide ((0:Nat)+o (w64 (v33.2-1))<v33.1.length)) (gd (decide (0<=v33.2)) (gd (decide (v33.2<(↑(a.2.2.length):Int))) (gd (decide ((0:Nat)+v33.2.toNat<v33.1.length)) (gd (decide (0<=v33.2)) (gd (decide (v33.2<(↑(a.2.2.length):Int))) (gd (decide ((0:Nat)+v33.2.toNat<v33.1.length)) (gd (decide (0<=w64 (v33.2-1))) (gd (decide (w64 (v33.2-1)<(↑(a.2.2.length):Int))) (gd (decide ((0:Nat)+o (w64 (v33.2-1))<j (ZA v33.1 ((0:Nat)+v33.2.toNat) (v33.1.getD ((0:Nat)+o (w64 (v33.2-1))) Q8)))) (some (R (ZA (ZA v33.1 ((0:Nat)+v33.2.toNat) (v33.1.getD ((0:Nat)+o (w64 (v33.2-1))) Q8)) ((0:Nat)+o (w64 (v33.2-1))) (v33.1.getD ((0:Nat)+v33.2.toNat) Q8),w64 (v33.2-1))))))))))))))))else(some (J v33.1))) F (v31)).bind fun v32=>some (R (v32,w64 (v31.2+1))))else(some (J v31.1))) F ((a.2.2,w64 (a.1+1)))).bind fun v30=>some (v30)
def Zwv(F:Nat):PX:={np:=4,locs:=[.arg 0],τ:=Zzl,nr:=0,ω:=Yhj,ids:=[0],mv:=[],code:=Qbo F}
theorem Qt1(F:Nat):Zk cx 250 (Zwv F):=Yi (Ysb F) (.two .leaf (.one (.loop ⟨[.vec 0 106 Zl,.slot 8 (.val (.int .i64))],[]⟩ [(.exit 0,⟨[.vec 0 106 Zl],[]⟩)] ⟨(17::9::kU 37 16 (kD 36 19 (8::16::15::14::13::12::[]))),[0],[]⟩ F (.two .leaf (.two (.one (.two .leaf (.one (.loop ⟨[.vec 0 106 Zl,.slot 9 (.val (.int .i64))],[]⟩ [(.exit 2,⟨[.vec 0 106 Zl],[]⟩)] ⟨(kU 37 16 (9::kD 36 19 [])),[0],[]⟩ F (.two (.two (.join [(.normal,⟨[.slot 34 (.val (.bool))],[]⟩)] ⟨(kD 34 17 []),[],[]⟩ .leaf) .leaf) .leaf))))) .leaf))))) f250 (by kernel_rfl) fun a=>by kernel_rfl
def Zsv:Qk:=⟨[.slot 1 (.val (.int .i64)),.slot 2 (.val (.int .i64)),.slot 3 (.val (.int .i64)),.vec 0 106 Zl],[(0,.own 0),(4,.stat (.pv (.lit (.func (.func 204) #[] #[]))))]⟩
def Ysg:Qk:=⟨[.vec 0 106 Zl],[]⟩
def Zns(F:Nat):LK:=lC (Qb9 F) (lC (Qeu F) lN)
def Zjc(F:Nat):PX:=qX (Zns F) (.two .leaf (.one (.loop ⟨[.vec 0 106 Zl,.slot 10 (.val (.int .i64))],[]⟩ [(.exit 0,⟨[.vec 0 106 Zl],[]⟩)] ⟨(kU 16 22 (10::15::14::13::12::11::[])),[0],[]⟩ F .leaf))) f267 (pxB 5 [.arg 0] Zsv 0 Ysg [0] [])
theorem Qj1(F:Nat):Zk cx 267 (Zjc F):=Vq (by kernel_rfl)
def Ync:Qk:=⟨[.slot 1 (.val (.int .i64)),.slot 2 (.val (.int .i64)),.slot 3 (.val (.int .i64)),.vec 0 106 Zl],[(0,.own 0),(4,.stat (.pv (.lit (.func (.func 204) #[] #[]))))]⟩
def Yl5:Qk:=⟨[.vec 0 106 Zl],[]⟩
def Zrt(F:Nat):LK:=lC (Qb9 F) (lC (Qeu F) (lX (Qj1 F) lN))
def Zb6(F:Nat):PX:=qX (Zrt F) (Q7 2 (.two (.one (.loop ⟨[.vec 0 106 Zl,.slot 10 (.val (.int .i64)),.slot 11 (.val (.int .i64))],[]⟩ [(.exit 0,⟨[.vec 0 106 Zl,.slot 10 (.val (.int .i64))],[]⟩)] ⟨(21::22::23::kU 35 12 (11::49::48::47::32::33::34::10::kD 31 8 (20::19::18::[]))),[0],[]⟩ F (.two .leaf (.one (.two .leaf (.join [(.normal,⟨[.vec 0 106 Zl,.slot 10 (.val (.int .i64)),.slot 11 (.val (.int .i64))],[]⟩)] ⟨(kU 35 12 (11::49::48::47::32::33::34::10::kD 31 8 [])),[0],[]⟩ .leaf)))))) .leaf)) f256 (pxB 5 [.arg 0] Ync 0 Yl5 [0] [])
theorem Qqg(F:Nat):Zk cx 256 (Zb6 F):=Vq (by kernel_rfl)
def Qes:Qk:=⟨[.slot 1 (.val (.int .i64)),.slot 2 (.val (.int .i64)),.slot 3 (.val (.int .i64)),.vec 0 106 Zl],[(0,.own 0),(4,.stat (.pv (.lit (.func (.func 204) #[] #[]))))]⟩
def Qei:Qk:=⟨[.vec 0 106 Zl],[]⟩
def Qto(g:Qes.El->Option (Qei.El))(F:Nat):Lx:={ext:=[(251,(PX.sm {np:=5,locs:=[.arg 0],τ:=Qes,nr:=0,ω:=Qei,ids:=[0],mv:=[],code:=g})),(205,(Zdo F).sm),(204,(Zby F).sm),(267,(Zjc F).sm),(256,(Zb6 F).sm)],anns:=[],still:=[]}
def Qs8:PX:=pxB 5 [.arg 0] Qes 0 Qei [0] []
def Zk6(F:Nat):Zg:=(.two (.two .leaf (.two (Q7 2 (.two (.one (.loop ⟨[.slot 10 (.val (.int .i64)),.slot 11 (.val (.int .i64))],[]⟩ [(.exit 0,⟨[.slot 10 (.val (.int .i64))],[]⟩)] ⟨(kU 34 6 (12::51::52::10::11::53::kD 50 11 (33::32::31::[]))),[],[]⟩ F (.two .leaf (.one (Q7 2 (.join [(.normal,⟨[.slot 10 (.val (.int .i64)),.slot 11 (.val (.int .i64))],[]⟩)] ⟨[53,11,10,52,51],[],[]⟩ .leaf)))))) (.two (.two .leaf (.one (.loop ⟨[.vec 0 106 Zl,.slot 13 (.val (.int .i64))],[]⟩ [(.exit 2,⟨[.vec 0 106 Zl],[]⟩)] ⟨(kU 61 16 (13::kD 60 6 [])),[0],[]⟩ F .leaf))) .leaf))) .leaf)) (.two (.two .leaf (.two (Q7 2 (.two (.one (.loop ⟨[.slot 14 (.val (.int .i64)),.slot 15 (.val (.int .i64))],[]⟩ [(.exit 4,⟨[.slot 14 (.val (.int .i64))],[]⟩)] ⟨(kU 86 6 (16::104::105::14::15::106::kD 103 12 (85::84::83::[]))),[],[]⟩ F (.two .leaf (.one (Q7 2 (.join [(.normal,⟨[.slot 14 (.val (.int .i64)),.slot 15 (.val (.int .i64))],[]⟩)] ⟨[106,15,14,105,104],[],[]⟩ .leaf)))))) (.two (.two .leaf (.one (.loop ⟨[.vec 0 106 Zl,.slot 17 (.val (.int .i64))],[]⟩ [(.exit 6,⟨[.vec 0 106 Zl],[]⟩)] ⟨(kU 113 16 (17::112::111::110::109::108::[])),[0],[]⟩ F .leaf))) .leaf))) .leaf)) (Q7 3 (.two (.two .leaf (.join [(.normal,⟨[.slot 20 (.val (.int .i64)),.slot 21 (.val (.int .i64))],[]⟩)] ⟨[145,146,144,21,20,143,142,141],[],[]⟩ .leaf)) (.two .leaf (.two (.one (.loop ⟨[.slot 20 (.val (.int .i64)),.slot 21 (.val (.int .i64))],[]⟩ [(.exit 8,⟨[.slot 20 (.val (.int .i64))],[]⟩)] ⟨(kU 152 6 (23::172::173::20::21::174::kD 171 14 (151::150::149::[]))),[],[]⟩ F (.two .leaf (.one (Q7 2 (.join [(.normal,⟨[.slot 20 (.val (.int .i64)),.slot 21 (.val (.int .i64))],[]⟩)] ⟨[174,21,20,173,172],[],[]⟩ .leaf)))))) (.two .leaf (.two (.two (.join [(.normal,⟨[.slot 185 (.val (.bool))],[]⟩)] ⟨(kD 185 8 []),[],[]⟩ .leaf) (.join [(.normal,⟨[.vec 0 106 Zl],[]⟩)] ⟨(kD 191 6 []),[0],[]⟩ .leaf)) (.two (.two (.join [(.normal,⟨[.slot 199 (.val (.bool))],[]⟩)] ⟨(kD 199 8 []),[],[]⟩ .leaf) (.join [(.normal,⟨[.vec 0 106 Zl],[]⟩)] ⟨(kD 205 6 []),[0],[]⟩ .leaf)) (.two (.join [(.normal,⟨[.slot 213 (.val (.bool))],[]⟩)] ⟨(kD 213 8 []),[],[]⟩ .leaf) (.join [(.normal,⟨[.vec 0 106 Zl],[]⟩)] ⟨(kD 219 6 []),[0],[]⟩ .leaf)))))))))))
def Yeg(g:Qes.El->Option Qei.El)(F:Nat):=Qne cx (Qto g F) 1000 (Zk6 F) f251 (Qs f251) Qs8
def Qn9(F n:Nat):Qes.El->Option Qei.El:=Nat.rec (motive:=fun _=>Qes.El->Option Qei.El) (fun _=>none) (fun _ ih=>Yeg ih F) n
def Zgp(F:Nat):Qes.El->Option Qei.El:=Qn9 F F
def Qx2(F n:Nat):PX:={Qs8 with code:=Qn9 F n}
def Yj1(F:Nat):PX:=Qx2 F F
theorem Zuo(F n:Nat)(h:Zk cx 251 (Qx2 F n)):(Qto (Qn9 F n) F).Ok cx:=Lx.Zn (PX.Qu h) (kC (Qb9 F) (kC (Qeu F) (kX (Qj1 F) (kX (Qqg F) (Lx.K4)))))
theorem Zjm(F:Nat):∀n,Zk cx 251 (Qx2 F n)
 |0=>⟨⟨f251,by kernel_rfl⟩,fun a y h=>absurd (show(none:Option _)=some y from h) (by simp)⟩
 |n+1=>Zk.cast (q:=pxT cx (Qto (Qn9 F n) F) (Zk6 F) f251 (Qs f251) Qs8) (by kernel_rfl) (Zib Yd (Zuo F n (Zjm F n)) (by kernel_rfl) (by kernel_rfl) (by kernel_rfl) (by kernel_rfl))
theorem Qx1(F:Nat):Zk cx 251 (Yj1 F):=Zjm F F
def Zy4:Qk:=⟨[.slot 1 (.val (.int .i64)),.vec 0 106 Zl],[(0,.own 0),(2,.stat (.pv (.lit (.func (.func 204) #[] #[]))))]⟩
def Yo0:Qk:=⟨[.vec 0 106 Zl],[]⟩
def Zqj(F:Nat):LK:=lC (Qb9 F) (lC (Qeu F) (lX (Qt1 F) (lX (Qj1 F) (lX (Qqg F) (lX (Qx1 F) lN)))))
def Qro(F:Nat)(a:Int×List (Qh)):Option (List (Qh)):=
 (Qw (O:=List (Qh)×Int×Int) (β:=List (Qh)×Int) (fun v66=>bif decide (v66.2.2<=a.1)then((gd (decide (a.2.length=v66.1.length)&&(true&&true)&&(true&&(true&&true))) (some ((v66.2.1,v66.2.2,v66.1)))).bind fun v67=>(Qbo F v67).bind fun v68=>some (R (v68,v66.2.2,w64 (v66.2.2+20))))else(some (J (v66.1,v66.2.1)))) F ((a.2,(0:Int),(20:Int)))).bind fun v54=>(gd (decide (a.2.length=v54.1.length)&&(true&&true)&&(true&&(true&&true))) (some ((v54.2,a.1,v54.1)))).bind fun v55=>(Qbo F v55).bind fun v56=>(Qw (O:=List (Qh)×Int) (β:=List (Qh)) (fun v58=>bif decide (v58.2<a.1)then((Qw (O:=List (Qh)×Int×Int) (β:=List (Qh)×Int) (fun v63=>bif decide (v63.2.2<=a.1)then((gd (decide (a.2.length=v63.1.length)&&(true&&true)&&(true&&(true&&(true&&true)))) (some ((v63.2.1,w64 (v63.2.1+v58.2),v63.2.2,v63.1)))).bind fun v64=>(Zgp F v64).bind fun v65=>some (R (v65,v63.2.2,w64 (v63.2.2+w64 ((2:Int)*v58.2)))))else(some (J (v63.1,v63.2.1)))) F ((v58.1,(0:Int),w64 ((2:Int)*v58.2)))).bind fun v59=>(bif decide (w64 (v59.2+v58.2)<a.1)then((gd (decide (a.2.length=v59.1.length)&&(true&&true)&&(true&&(true&&(true&&true)))) (some ((v59.2,w64 (v59.2+v58.2),a.1,v59.1)))).bind fun v61=>(Zgp F v61).bind fun v62=>some (v62))else(some v59.1)).bind fun v60=>some (R (v60,w64 (v58.2*(2:Int)))))else(some (J v58.1))) F ((v56,(20:Int)))).bind fun v57=>some (v57)
def Zxq(F:Nat):PX:={np:=3,locs:=[.arg 0],τ:=Zy4,nr:=0,ω:=Yo0,ids:=[0],mv:=[],code:=Qro F}
theorem Zft(F:Nat):Zk cx 239 (Zxq F):=Yi (Zqj F) (Q7 2 (.two (.one (.loop ⟨[.vec 0 106 Zl,.slot 7 (.val (.int .i64)),.slot 8 (.val (.int .i64))],[]⟩ [(.exit 0,⟨[.vec 0 106 Zl,.slot 7 (.val (.int .i64))],[]⟩)] ⟨[14,15,16,17,18,20,21,22,8,7,19,13,12,11],[0],[]⟩ F .leaf)) (.two .leaf (.one (.loop ⟨[.vec 0 106 Zl,.slot 6 (.val (.int .i64))],[]⟩ [(.exit 2,⟨[.vec 0 106 Zl],[]⟩)] ⟨[31,32,7,8,49,50,51,9,55,56,57,58,59,60,54,53,52,6,62,61,36,37,38,39,40,41,42,43,45,46,47,48,44,35,34,33,30,29,28],[0],[]⟩ F (.two .leaf (.one (.two .leaf (.two (.one (.loop ⟨[.vec 0 106 Zl,.slot 7 (.val (.int .i64)),.slot 8 (.val (.int .i64))],[]⟩ [(.exit 4,⟨[.vec 0 106 Zl,.slot 7 (.val (.int .i64))],[]⟩)] ⟨(kU 36 8 (45::46::47::48::8::7::44::35::34::33::[])),[0],[]⟩ F .leaf)) (.two (Q7 2 (.join [(.normal,⟨[.vec 0 106 Zl],[]⟩)] ⟨(kD 60 6 []),[0],[]⟩ .leaf)) .leaf)))))))))) f239 (by kernel_rfl) fun a=>by kernel_rfl
def Ycu:Qk:=⟨[.vec 0 106 Zl],[(0,.own 0),(1,.stat (.pv (.lit (.func (.func 204) #[] #[]))))]⟩
def Yi6:Qk:=⟨[.vec 0 106 Zl],[]⟩
def Ykt(F:Nat):LK:=lC (Qb9 F) (lC (Qeu F) (lX (Qt1 F) (lX (Qj1 F) (lX (Qqg F) (lX (Qx1 F) (lX (Zft F) lN))))))
def Qo9(F:Nat)(a:List (Qh)):Option (List (Qh)):=
 (gd (decide (a.length=a.length)&&(true&&true)&&(true&&true)) (some (((↑(a.length):Int),a)))).bind fun v7=>(Qro F v7).bind fun v8=>some (v8)
def Zps(F:Nat):PX:={np:=2,locs:=[.arg 0],τ:=Ycu,nr:=0,ω:=Yi6,ids:=[0],mv:=[],code:=Qo9 F}
theorem Zz8(F:Nat):Zk cx 203 (Zps F):=Yi (Ykt F) .leaf f203 (by kernel_rfl) fun a=>by kernel_rfl
def Yet(F:Nat):LK:=lC (Qeu F) (lX (Qt1 F) (lX (Qj1 F) (lX (Qqg F) (lX (Qx1 F) (lX (Zft F) (lX (Zz8 F) lN))))))
def Qd5(F:Nat)(a:(Ql)×ByteArray):Option (List (Qh)):=
 (Qw (O:=List (Qh)×Int) (β:=List (Qh)) (fun v18=>bif decide (v18.2<(↑(a.1.2.2.2.1.length):Int))then(gd (decide (0<=v18.2)) (gd (decide (v18.2<(↑(a.1.2.2.2.1.length):Int))) (gd (decide (v18.2.toNat<a.1.2.2.2.1.length)) ((bif Qc (a.1.2.2.2.1.getD (v18.2.toNat) Q8).2.1 a.2 then(gd (decide (v18.1.length=v18.1.length)) (gd (decide (j (v18.1++(a.1.2.2.2.1.getD (v18.2.toNat) Q8)::Qa (Qh))*(88:Nat)<=(140737488355328:Nat))) (gd (decide (j (v18.1++(a.1.2.2.2.1.getD (v18.2.toNat) Q8)::Qa (Qh))<=9223372036854775807)) (gd (decide (j (v18.1++(a.1.2.2.2.1.getD (v18.2.toNat) Q8)::Qa (Qh))=j (v18.1++(a.1.2.2.2.1.getD (v18.2.toNat) Q8)::Qa (Qh)))&&true&&true) (some (v18.1++(a.1.2.2.2.1.getD (v18.2.toNat) Q8)::Qa (Qh)))))))else(gd (decide (v18.1.length=v18.1.length)&&true&&true) (some v18.1))).bind fun v19=>(gd (decide (v19.length=v19.length)&&true&&(true&&true)) (some ((v19,w64 (v18.2+1))))).bind fun v20=>some (R v20)))))else((gd (decide (v18.1.length=v18.1.length)&&true&&true) (some v18.1)).bind fun v21=>some (J v21))) F ((Qa (Qh),(0:Int)))).bind fun v15=>(gd (decide (v15.length=v15.length)&&(true&&true)&&true) (some (v15))).bind fun v16=>(Qo9 F v16).bind fun v17=>gd (decide ((0:Nat)+v15.length<=v17.length)) (some (C (v15.length) (I (0:Nat) v17)))
def Zi5(F:Nat):PC:={ats:=Qfr,rts:=Qdf,code:=Qd5 F}
theorem Qoy(F:Nat):Qg cx 139 (Zi5 F):=qE (Yet F) (Q7 2 (.two (.two .leaf (.one (.virt 5 106 Zl (.loop ⟨[.vec 1 106 Zl,.slot 11 (.val (.int .i64))],[(5,.own 1)]⟩ [(.exit 0,⟨[.vec 1 106 Zl],[(5,.own 1)]⟩)] ⟨[23,11,15,16,17,18,5,22,21,20,19,7,14,13,12],[1],[1]⟩ F (Q7 2 (.two (.one (Q7 2 (.join [(.normal,⟨[.vec 1 106 Zl],[(5,.own 1)]⟩)] ⟨[5,22,21,20,19],[1],[1]⟩ .leaf))) .leaf)))))) .leaf)) f139 (by kernel_rfl) fun a=>by kernel_rfl
def Ygd(F:Nat):LK:=lC (Qfe F) (lS (PF.Qu (Wh F)) (lC (Qg0 F) (lS (PF.Qu (W4 F)) (lC (Qxz F) (lC (Qsy F) (lS (PF.Qu (J3 F)) (lC (Qwj F) (lC (Vk F) (lC (Qze F) (lC (Ql5 F) (lC (Qys F) (lC (Xu F) (lS (PF.Qu (Wo F)) (lC (Quz F) (lC (Qk7 F) (lC (Qu6 F) (lC (Qkv F) (lC (Qzd F) (lC (Qmn F) (lC (Quw F) lN))))))))))))))))))))
def Ju(F:Nat)(a:(Zs)×(Ql)×Q9):Option (Int):=
 (bif Qc a.2.2.2.1 YJ then((Qph F (a.1,a.2.1,a.2.2.1,a.2.2.2.1,a.2.2.2.2.1,a.2.2.2.2.2.1,a.2.2.2.2.2.2.1,a.2.2.2.2.2.2.2.1,a.2.2.2.2.2.2.2.2.1,a.2.2.2.2.2.2.2.2.2.1,a.2.2.2.2.2.2.2.2.2.2.1,a.2.2.2.2.2.2.2.2.2.2.2.1,a.2.2.2.2.2.2.2.2.2.2.2.2.1,a.2.2.2.2.2.2.2.2.2.2.2.2.2)).bind fun v32=>some (v32))else(bif Qc a.2.2.2.1 YF then((Qpp F (a.1,a.2.1,a.2.2.1,a.2.2.2.1,a.2.2.2.2.1,a.2.2.2.2.2.1,a.2.2.2.2.2.2.1,a.2.2.2.2.2.2.2.1,a.2.2.2.2.2.2.2.2.1,a.2.2.2.2.2.2.2.2.2.1,a.2.2.2.2.2.2.2.2.2.2.1,a.2.2.2.2.2.2.2.2.2.2.2.1,a.2.2.2.2.2.2.2.2.2.2.2.2.1,a.2.2.2.2.2.2.2.2.2.2.2.2.2)).bind fun v33=>some (v33))else(bif Qc a.2.2.2.1 YG then((Qru F (a.1,a.2.1,a.2.2.1,a.2.2.2.1,a.2.2.2.2.1,a.2.2.2.2.2.1,a.2.2.2.2.2.2.1,a.2.2.2.2.2.2.2.1,a.2.2.2.2.2.2.2.2.1,a.2.2.2.2.2.2.2.2.2.1,a.2.2.2.2.2.2.2.2.2.2.1,a.2.2.2.2.2.2.2.2.2.2.2.1,a.2.2.2.2.2.2.2.2.2.2.2.2.1,a.2.2.2.2.2.2.2.2.2.2.2.2.2)).bind fun v34=>some (v34))else(bif Qc a.2.2.2.1 YD then((Qqm F (a.1,a.2.1,a.2.2.1,a.2.2.2.1,a.2.2.2.2.1,a.2.2.2.2.2.1,a.2.2.2.2.2.2.1,a.2.2.2.2.2.2.2.1,a.2.2.2.2.2.2.2.2.1,a.2.2.2.2.2.2.2.2.2.1,a.2.2.2.2.2.2.2.2.2.2.1,a.2.2.2.2.2.2.2.2.2.2.2.1,a.2.2.2.2.2.2.2.2.2.2.2.2.1,a.2.2.2.2.2.2.2.2.2.2.2.2.2)).bind fun v35=>some (v35))else(bif Qc a.2.2.2.1 YE then((Qqa F (a.1,a.2.1,a.2.2.1,a.2.2.2.1,a.2.2.2.2.1,a.2.2.2.2.2.1,a.2.2.2.2.2.2.1,a.2.2.2.2.2.2.2.1,a.2.2.2.2.2.2.2.2.1,a.2.2.2.2.2.2.2.2.2.1,a.2.2.2.2.2.2.2.2.2.2.1,a.2.2.2.2.2.2.2.2.2.2.2.1,a.2.2.2.2.2.2.2.2.2.2.2.2.1,a.2.2.2.2.2.2.2.2.2.2.2.2.2)).bind fun v36=>some (v36))else(bif Qc a.2.2.2.1 YB then((Qn0 F (a.1,a.2.1,a.2.2.1,a.2.2.2.1,a.2.2.2.2.1,a.2.2.2.2.2.1,a.2.2.2.2.2.2.1,a.2.2.2.2.2.2.2.1,a.2.2.2.2.2.2.2.2.1,a.2.2.2.2.2.2.2.2.2.1,a.2.2.2.2.2.2.2.2.2.2.1,a.2.2.2.2.2.2.2.2.2.2.2.1,a.2.2.2.2.2.2.2.2.2.2.2.2.1,a.2.2.2.2.2.2.2.2.2.2.2.2.2)).bind fun v37=>some (v37))else(bif Qc a.2.2.2.1 YH then((Qpx F (a.1,a.2.1,a.2.2.1,a.2.2.2.1,a.2.2.2.2.1,a.2.2.2.2.2.1,a.2.2.2.2.2.2.1,a.2.2.2.2.2.2.2.1,a.2.2.2.2.2.2.2.2.1,a.2.2.2.2.2.2.2.2.2.1,a.2.2.2.2.2.2.2.2.2.2.1,a.2.2.2.2.2.2.2.2.2.2.2.1,a.2.2.2.2.2.2.2.2.2.2.2.2.1,a.2.2.2.2.2.2.2.2.2.2.2.2.2)).bind fun v38=>some (v38))else(gd (Qc a.2.2.2.1 YI) ((Qq0 F (a.1,a.2.1,a.2.2.1,a.2.2.2.1,a.2.2.2.2.1,a.2.2.2.2.2.1,a.2.2.2.2.2.2.1,a.2.2.2.2.2.2.2.1,a.2.2.2.2.2.2.2.2.1,a.2.2.2.2.2.2.2.2.2.1,a.2.2.2.2.2.2.2.2.2.2.1,a.2.2.2.2.2.2.2.2.2.2.2.1,a.2.2.2.2.2.2.2.2.2.2.2.2.1,a.2.2.2.2.2.2.2.2.2.2.2.2.2)).bind fun v39=>some (v39)))))))))).bind fun v31=>some (v31)
def Qtb(F:Nat):PC:={ats:=Kz,rts:=Zp,code:=Ju F}
theorem Qyf(F:Nat):Qg cx 135 (Qtb F):=qE (Ygd F) (.two .leaf (.two (.join [(.normal,⟨[.slot 6 (.val (.int .i64))],[]⟩)] ⟨(6::kD 15 9 []),[],[]⟩ (.within [(96,.leaf)])) .leaf)) f135 (by kernel_rfl) fun a=>by kernel_rfl
def Zo3(F:Nat):LK:=lC (Qgg F) (lC (Z9 F) (lC (Yh F) (lC (Qcc F) lN)))
def Quf(F:Nat)(a:(Zs)×(Ql)×ByteArray×Bool):Option ((Yj)×Int):=
 (Qai F (a.1,a.2.2.1)).bind fun v13=>(c25 F (a.1,a.2.1.1,a.2.1.2.1,a.2.1.2.2.1,a.2.1.2.2.2.1,a.2.1.2.2.2.2)).bind fun v14=>(Qm F (!v13.2,(10:Int))).bind fun v15=>(Qm F (!decide (0<v13.1.2.2.2.2.2.2.2.2.2.2)==a.2.2.2,(13:Int))).bind fun v16=>(Q4 F (v14::v15::v16::Qa Int)).bind fun v17=>some ((v13.1,v17))
def Zi2(F:Nat):PC:={ats:=Zg6,rts:=[.agg kt4,.val (.int .i64)],code:=Quf F}
theorem Qtj(F:Nat):Qg cx 137 (Zi2 F):=qE (Zo3 F) .leaf f137 (by kernel_rfl) fun a=>by kernel_rfl
def Yn0(F:Nat):LK:=lC (Uu F) lN
def Quj(F:Nat)(a:(Ql)×(Yj)×List (Qh)×Bool):Option (List ByteArray):=
 (Qw (O:=Unit×List (ByteArray×Int)×List ByteArray×Int×Int) (β:=Unit×List (ByteArray×Int)×List ByteArray) (fun v37=>bif decide (v37.2.2.2.2<(↑(a.2.2.1.length):Int))then(gd (decide (0<=v37.2.2.2.2)) (gd (decide (v37.2.2.2.2<(↑(a.2.2.1.length):Int))) (gd (decide (v37.2.2.2.2.toNat<a.2.2.1.length)) ((Qb0 F (a.1,(a.2.2.1.getD (v37.2.2.2.2.toNat) Q8).1)).bind fun v38=>(bif decide (v37.2.2.2.1<a.2.1.2.2.2.2.2.1)then(some (decide (Y5 Qc v38 v37.2.1 (0:Int)<a.2.1.2.2.2.2.2.2.1)))else(some (false))).bind fun v39=>(bif v39 then(some ((Ji Qc v38 (w64 (Y5 Qc v38 v37.2.1 (0:Int)+(1:Int))) v37.2.1,w64 (v37.2.2.2.1+1))))else(some ((v37.2.1,v37.2.2.2.1)))).bind fun v40=>(bif v39==a.2.2.2 then(gd (decide (v37.2.2.1.length=v37.2.2.1.length)) (gd (decide (j (v37.2.2.1++(a.2.2.1.getD (v37.2.2.2.2.toNat) Q8).1::Qa ByteArray)*(16:Nat)<=(140737488355328:Nat))) (gd (decide (j (v37.2.2.1++(a.2.2.1.getD (v37.2.2.2.2.toNat) Q8).1::Qa ByteArray)<=9223372036854775807)) (gd (true&&(decide (j (v37.2.2.1++(a.2.2.1.getD (v37.2.2.2.2.toNat) Q8).1::Qa ByteArray)=j (v37.2.2.1++(a.2.2.1.getD (v37.2.2.2.2.toNat) Q8).1::Qa ByteArray))&&true&&true&&true)) (some (((),v37.2.2.1++(a.2.2.1.getD (v37.2.2.2.2.toNat) Q8).1::Qa ByteArray)))))))else(gd (true&&(decide (v37.2.2.1.length=v37.2.2.1.length)&&true&&true&&true)) (some (((),v37.2.2.1))))).bind fun v41=>(gd (true&&(decide (v41.2.length=v41.2.length)&&true&&true&&(true&&(true&&(true&&true))))) (some (((),v40.1,v41.2,v40.2,w64 (v37.2.2.2.2+1))))).bind fun v42=>some (R v42)))))else((gd (true&&(decide (v37.2.2.1.length=v37.2.2.1.length)&&true&&true&&(true&&true))) (some (((),v37.2.1,v37.2.2.1)))).bind fun v43=>some (J v43))) F (((),Qa (ByteArray×Int),Qa ByteArray,(0:Int),(0:Int)))).bind fun v36=>gd (decide ((0:Nat)+v36.2.2.length<=v36.2.2.length)) (some (C (v36.2.2.length) (I (0:Nat) v36.2.2)))
def Zlm(F:Nat):PC:={ats:=[.agg Zm,.agg kt4,.val (.seq Zl),.val (.bool)],rts:=Qaz,code:=Quj F}
theorem Qvo(F:Nat):Qg cx 138 (Zlm F):=qE (Yn0 F) (Q7 2 (.two (.two (.within [(196,.leaf)]) (.one (.within [(100000227,(Q7 3 (.one (.virtF 3 0 9 Ze (.loop ⟨[.mix 3 25 1 [] [(0,.own 10)],.map 9 (.val (.str)) (.val (.int .i64)),.vec 10 9 Ze,.slot 5 (.val (.int .i64)),.slot 14 (.val (.int .i64))],[]⟩ [(.exit 0,⟨[.mix 3 25 1 [] [(0,.own 10)],.map 9 (.val (.str)) (.val (.int .i64)),.vec 10 9 Ze],[]⟩)] ⟨[46,14,18,19,20,21,9,34,37,38,39,40,5,36,35,45,44,43,42,41,10,33,32,31,30,29,28,27,26,25,24,23,22,8,17,16,15],[10,3,9],[10]⟩ F (Q7 2 (.two (.one (Q7 2 (.two (.join [(.normal,⟨[.slot 10 (.val (.bool))],[]⟩)] ⟨(10::kD 33 12 []),[],[]⟩ .leaf) (.two (.two .leaf (.join [(.normal,⟨[.map 9 (.val (.str)) (.val (.int .i64)),.slot 5 (.val (.int .i64))],[]⟩)] ⟨[37,38,39,40,5,36,35],[9],[]⟩ .leaf)) (.two (.within [(1000008,(.one (.two .leaf (.join [(.normal,⟨[.mix 3 25 1 [] [(0,.own 10)],.vec 10 9 Ze],[]⟩)] ⟨[25,24,23,22,21],[10,3],[10]⟩ .leaf))))]) .leaf))))) .leaf)))))))]))) .leaf)) f138 (by kernel_rfl) fun a=>by kernel_rfl
def Zs5(F:Nat):LK:=lC (Qvo F) (lC (Qoy F) (lC (Qtj F) lN))
def c52(F:Nat)(a:(Zs)×(Ql)×ByteArray):Option (List ByteArray×Int):=
 (Quf F (a.1,a.2.1,a.2.2,false)).bind fun v9=>bif !decide (v9.2=0)then(some ((Qa ByteArray,v9.2)))else((Qd5 F (a.2.1,a.2.2)).bind fun v10=>(Quj F (a.2.1,v9.1,v10,true)).bind fun v11=>some ((v11,(0:Int))))
def Qya(F:Nat):PC:={ats:=Qxw,rts:=Qp2,code:=c52 F}
theorem Zco(F:Nat):Qg cx 52 (Qya F):=qE (Zs5 F) .leaf f52 (by kernel_rfl) fun a=>by kernel_rfl
def Znv(F:Nat):LK:=lC (Qvo F) (lC (Qoy F) (lC (Qtj F) lN))
def c56(F:Nat)(a:(Zs)×(Ql)×ByteArray):Option (List ByteArray×Int):=
 (Quf F (a.1,a.2.1,a.2.2,false)).bind fun v9=>bif !decide (v9.2=0)then(some ((Qa ByteArray,v9.2)))else((Qd5 F (a.2.1,a.2.2)).bind fun v10=>(Quj F (a.2.1,v9.1,v10,false)).bind fun v11=>some ((v11,(0:Int))))
def Zik(F:Nat):PC:={ats:=Qxw,rts:=Qp2,code:=c56 F}
theorem Zvf(F:Nat):Qg cx 56 (Zik F):=qE (Znv F) .leaf f56 (by kernel_rfl) fun a=>by kernel_rfl
end
end Go.Proofs.Tryz

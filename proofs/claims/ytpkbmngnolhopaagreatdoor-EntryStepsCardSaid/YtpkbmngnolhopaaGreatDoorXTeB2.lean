/- Functions of the program as functions of data. By program. -/
import Derived.Test.YtpkbmngnolhopaaGreatDoorXTeB1
set_option maxRecDepth 100000
set_option linter.all false
open List renaming length->j,take->C,drop->I,set->ZB
open Int renaming toNat->o,tdiv->ZA
open Sum renaming inr->J,inl->R
namespace Go.Proofs.Tryz
open Go Go.Sx
noncomputable section
def Ykc(F:Nat):LK:=lC (Yd F) (lC (Ko F) lN)
def Qrp(F:Nat)(a:(Zc)×(Qh)×Qz):Option (Int):=
 (Kl F (a.2.1,a.2.2.2.2.2.1)).bind fun v7=>(Qn F (v7,(9:Int))).bind fun v8=>some (v8)
def Zx1(F:Nat):PC:={ats:=X8,rts:=Zj,code:=Qrp F}
theorem Qnw(F:Nat):Qg cx 158 (Zx1 F):=qE (Ykc F) .leaf f158 (by kernel_rfl) fun a=>by kernel_rfl
def Zkh(F:Nat):LK:=lN
def Qmu(F:Nat)(a:List ByteArray):Option (List ByteArray):=
 bif decide (a.length=0)then((gd (decide (j (Qa ByteArray++a)*(16:Nat)<=(140737488355328:Nat))) (gd (decide (j (Qa ByteArray++a)<=9223372036854775807)) (gd (decide (j (Qa ByteArray++a)=j (Qa ByteArray++a))) (some (Qa ByteArray++a))))).bind fun v4=>gd (Wr (Ql.eqv Z9) (Qa ByteArray) v4) (some (Qa ByteArray)))else(gd (decide (j (Qa ByteArray++a)*(16:Nat)<=(140737488355328:Nat))) (gd (decide (j (Qa ByteArray++a)<=9223372036854775807)) (gd (decide (j (Qa ByteArray++a)=j (Qa ByteArray++a))) (some (Qa ByteArray++a)))))
def Qsb(F:Nat):PF:={ats:=Qcj,ty:=9,row:=Z9,code:=Qmu F}
theorem Ynw(F:Nat)(a:List ByteArray):codeF cx (Zkh F).x 1000 .leaf f150 (Qo f150) Qcj 9 Z9 a=Qmu F a:=by kernel_rfl
theorem Ve(F:Nat):Wh cx 150 (Qsb F):=Wh.Z6 Z7 (Zkh F).ok (n:=1000) (an:=.leaf) (fn:=f150) (c:=Qo f150) (by kernel_rfl) (by kernel_rfl) (fun a y h=>(Ynw F a).trans h) (by kernel_rfl)
def Yb2(F:Nat):LK:=lS (PF.Qq (Ve F)) lN
def Qyw(F:Nat)(a:List ByteArray×ByteArray):Option (List ByteArray):=
 (Qmu F a.1).bind fun v5=>gd (decide (v5.length=v5.length)) (gd (decide (j (v5++a.2::Qa ByteArray)*(16:Nat)<=(140737488355328:Nat))) (gd (decide (j (v5++a.2::Qa ByteArray)<=9223372036854775807)) (gd (decide ((0:Nat)+j (v5++a.2::Qa ByteArray)<=j (v5++a.2::Qa ByteArray))) (some (C (j (v5++a.2::Qa ByteArray)) (I (0:Nat) (v5++a.2::Qa ByteArray)))))))
def Zei(F:Nat):PC:={ats:=Qoh,rts:=Qcj,code:=Qyw F}
theorem V1(F:Nat):Qg cx 160 (Zei F):=qE (Yb2 F) .leaf f160 (by kernel_rfl) fun a=>by kernel_rfl
def Yk2(F:Nat):LK:=lC (Ym F) (lC (Y4 F) (lC (Yd F) (lC (Ko F) lN)))
def Qoq(F:Nat)(a:(Zc)×(Qh)×Qz):Option (Int):=
 (Kl F (a.2.1,a.2.2.2.2.2.1)).bind fun v15=>(Qn F (!v15,(10:Int))).bind fun v16=>(Jt F (a.2.1,a.2.2.2.2.1)).bind fun v17=>(Qn F (decide (0<=v17),(9:Int))).bind fun v18=>(Qn F (decide (a.2.2.1<a.2.2.2.2.2.2.2.2.1),(3:Int))).bind fun v19=>(Q2 F (v16::v18::v19::Qa Int)).bind fun v20=>some (v20)
def Zye(F:Nat):PC:={ats:=X8,rts:=Zj,code:=Qoq F}
theorem Qo6(F:Nat):Qg cx 161 (Zye F):=qE (Yk2 F) .leaf f161 (by kernel_rfl) fun a=>by kernel_rfl
def Zep(F:Nat):LK:=lN
def Qhp(F:Nat)(a:List (Qs)):Option (List (Qs)):=
 bif decide (a.length=0)then((gd (decide (j (Qa (Qs)++a)*(56:Nat)<=(140737488355328:Nat))) (gd (decide (j (Qa (Qs)++a)<=9223372036854775807)) (gd (decide (j (Qa (Qs)++a)=j (Qa (Qs)++a))) (some (Qa (Qs)++a))))).bind fun v4=>gd (Wr (Ql.eqv kt3) (Qa (Qs)) v4) (some (Qa (Qs))))else(gd (decide (j (Qa (Qs)++a)*(56:Nat)<=(140737488355328:Nat))) (gd (decide (j (Qa (Qs)++a)<=9223372036854775807)) (gd (decide (j (Qa (Qs)++a)=j (Qa (Qs)++a))) (some (Qa (Qs)++a)))))
def Qot(F:Nat):PF:={ats:=Qfy,ty:=116,row:=kt3,code:=Qhp F}
theorem Yi0(F:Nat)(a:List (Qs)):codeF cx (Zep F).x 1000 .leaf f199 (Qo f199) Qfy 116 kt3 a=Qhp F a:=by kernel_rfl
theorem Xu(F:Nat):Wh cx 199 (Qot F):=Wh.Z6 Z7 (Zep F).ok (n:=1000) (an:=.leaf) (fn:=f199) (c:=Qo f199) (by kernel_rfl) (by kernel_rfl) (fun a y h=>(Yi0 F a).trans h) (by kernel_rfl)
def Ydi(F:Nat):LK:=lS (PF.Qq (Xu F)) lN
def Qtn(F:Nat)(a:List (Qs)×Qs):Option (List (Qs)):=
 tw (X:=List (Qs)) (Qt.eqv (Qe.val (Ty.seq kt3)::Qa Qe)) ((Qhp F a.1).bind fun v13=>gd (decide (v13.length=v13.length)) (gd (decide (j (v13++a.2::Qa (Qs))*(56:Nat)<=(140737488355328:Nat))) (gd (decide (j (v13++a.2::Qa (Qs))<=9223372036854775807)) (gd (decide ((0:Nat)+j (v13++a.2::Qa (Qs))<=j (v13++a.2::Qa (Qs)))) (some (C (j (v13++a.2::Qa (Qs))) (I (0:Nat) (v13++a.2::Qa (Qs)))))))))
def Zbh(F:Nat):PC:={ats:=[.val (.seq kt3),.agg kt3],rts:=Qfy,code:=Qtn F}
theorem V4(F:Nat):Qg cx 213 (Zbh F):=qE (Ydi F) .leaf f213 (by kernel_rfl) fun a=>by kernel_rfl
def Yku(F:Nat):LK:=lC (Yd F) (lC (Y4 F) lN)
def Qq0(F:Nat)(a:(Zc)×(Qh)×Qz):Option (Int):=
 (Jt F (a.2.1,a.2.2.2.2.1)).bind fun v7=>(Qn F (decide (v7<0),(10:Int))).bind fun v8=>some (v8)
def Yps(F:Nat):PC:={ats:=X8,rts:=Zj,code:=Qq0 F}
theorem Qoj(F:Nat):Qg cx 163 (Yps F):=qE (Yku F) .leaf f163 (by kernel_rfl) fun a=>by kernel_rfl
def Zel(F:Nat):LK:=lN
def Qlw(F:Nat)(a:List (Qw)):Option (List (Qw)):=
 bif decide (a.length=0)then((gd (decide (j (Qa (Qw)++a)*(32:Nat)<=(140737488355328:Nat))) (gd (decide (j (Qa (Qw)++a)<=9223372036854775807)) (gd (decide (j (Qa (Qw)++a)=j (Qa (Qw)++a))) (some (Qa (Qw)++a))))).bind fun v4=>gd (Wr (Ql.eqv kt2) (Qa (Qw)) v4) (some (Qa (Qw))))else(gd (decide (j (Qa (Qw)++a)*(32:Nat)<=(140737488355328:Nat))) (gd (decide (j (Qa (Qw)++a)<=9223372036854775807)) (gd (decide (j (Qa (Qw)++a)=j (Qa (Qw)++a))) (some (Qa (Qw)++a)))))
def Qq2(F:Nat):PF:={ats:=Qgi,ty:=124,row:=kt2,code:=Qlw F}
theorem Yji(F:Nat)(a:List (Qw)):codeF cx (Zel F).x 1000 .leaf f200 (Qo f200) Qgi 124 kt2 a=Qlw F a:=by kernel_rfl
theorem Qou(F:Nat):Wh cx 200 (Qq2 F):=Wh.Z6 Z7 (Zel F).ok (n:=1000) (an:=.leaf) (fn:=f200) (c:=Qo f200) (by kernel_rfl) (by kernel_rfl) (fun a y h=>(Yji F a).trans h) (by kernel_rfl)
def Yo2(F:Nat):LK:=lS (PF.Qq (Qou F)) lN
def Qzi(F:Nat)(a:List (Qw)×Qw):Option (List (Qw)):=
 tw (X:=List (Qw)) (Qt.eqv (Qe.val (Ty.seq kt2)::Qa Qe)) ((Qlw F a.1).bind fun v13=>gd (decide (v13.length=v13.length)) (gd (decide (j (v13++a.2::Qa (Qw))*(32:Nat)<=(140737488355328:Nat))) (gd (decide (j (v13++a.2::Qa (Qw))<=9223372036854775807)) (gd (decide ((0:Nat)+j (v13++a.2::Qa (Qw))<=j (v13++a.2::Qa (Qw)))) (some (C (j (v13++a.2::Qa (Qw))) (I (0:Nat) (v13++a.2::Qa (Qw)))))))))
def Zgs(F:Nat):PC:={ats:=[.val (.seq kt2),.agg kt2],rts:=Qgi,code:=Qzi F}
theorem V2(F:Nat):Qg cx 214 (Zgs F):=qE (Yo2 F) .leaf f214 (by kernel_rfl) fun a=>by kernel_rfl
def Yai(F:Nat):LK:=lN
def Qjq(F:Nat)(a:(Qh)×ByteArray):Option (Int):=
 (Q4 (U:=Int×Int) (β:=Int) (fun v10=>bif decide (v10.2<(↑(a.1.2.2.2.1.length):Int))then(gd (decide (0<=v10.2)) (gd (decide (v10.2<(↑(a.1.2.2.2.1.length):Int))) (gd (decide (v10.2.toNat<a.1.2.2.2.1.length)) ((bif Qc (a.1.2.2.2.1.getD (v10.2.toNat) Zg).1 a.2 then(some (w64 (v10.1+1)))else(some v10.1)).bind fun v11=>some (R (v11,w64 (v10.2+1)))))))else(some (J v10.1))) F (((0:Int),(0:Int)))).bind fun v9=>some (v9)
def Yqc(F:Nat):PC:={ats:=Qfe,rts:=Zj,code:=Qjq F}
theorem Qrb(F:Nat):Qg cx 215 (Yqc F):=qE (Yai F) (Q5 2 (.two (.two .leaf (.one (.loop ⟨[.slot 5 (.val (.int .i64)),.slot 11 (.val (.int .i64))],[]⟩ [(.exit 0,⟨[.slot 5 (.val (.int .i64))],[]⟩)] ⟨[21,11,15,16,17,18,5,20,19,7,14,13,12],[],[]⟩ F (Q5 2 (.two (.one (Q5 2 (.join [(.normal,⟨[.slot 5 (.val (.int .i64))],[]⟩)] ⟨[5,20,19],[],[]⟩ .leaf))) .leaf))))) .leaf)) f215 (by kernel_rfl) fun a=>by kernel_rfl
def Zuh(F:Nat):LK:=lC (Qa6 F) (lC (Yd F) (lC (Qrb F) (lC (Ym F) (lC (Ko F) (lC (Y4 F) lN)))))
def Qpo(F:Nat)(a:(Zc)×(Qh)×Qz):Option (Int):=
 ((Jt F (a.2.1,a.2.2.2.2.1)).bind fun v27=>bif decide (v27<0)then(some (true))else((Kl F (a.2.1,a.2.2.2.2.2.1)).bind fun v28=>some (!v28))).bind fun v21=>bif v21 then(some ((10:Int)))else((Qeu F (a.2.1,a.2.2.2.2.1)).bind fun v22=>(Qn F (Qc v22 a.2.2.2.2.2.1,(9:Int))).bind fun v23=>(Qjq F (a.2.1,a.2.2.2.2.1)).bind fun v24=>(Qn F (decide (0<v24),(19:Int))).bind fun v25=>(Q2 F (v23::v25::Qa Int)).bind fun v26=>some (v26))
def Zyw(F:Nat):PC:={ats:=X8,rts:=Zj,code:=Qpo F}
theorem Qo5(F:Nat):Qg cx 165 (Zyw F):=qE (Zuh F) (.two .leaf (.two (.two (.join [(.normal,⟨[.slot 18 (.val (.bool))],[]⟩)] ⟨(kD 18 12 []),[],[]⟩ .leaf) .leaf) .leaf)) f165 (by kernel_rfl) fun a=>by kernel_rfl
def Zy6(F:Nat):LK:=lC (Ym F) (lC (Yqo F) (lC (Yd F) (lC (Y4 F) lN)))
def Qjb(F:Nat)(a:(Qh)×(Zc)×(Yu)×ByteArray):Option (Int):=
 ((Jt F (a.1,a.2.2.2)).bind fun v122=>gd (decide (0<=v122)) (gd (decide (v122<(↑(a.1.2.1.length):Int))) (gd (decide (v122.toNat<a.1.2.1.length)) ((bif !Qc a.2.2.1.2.2.1 YD then((Qn F (!Qc a.2.2.1.2.2.1 (a.1.2.1.getD (v122.toNat) Zy).2.2.2,(18:Int))).bind fun v124=>bif decide (a.2.1.1<(a.1.2.1.getD (v122.toNat) Zy).2.2.1)then((Vl F (a.1.2.2.1,a.2.2.2,a.2.1.1)).bind fun v125=>(Qn F (!v125,(7:Int))).bind fun v126=>(Q2 F (v124::(18:Int)::v126::Qa Int)).bind fun v127=>some (v127))else(bif decide (w64 (ZA (w64 (a.2.1.1-(a.1.2.1.getD (v122.toNat) Zy).2.2.1)) (365:Int))<a.2.2.1.2.2.2.1)then((Vl F (a.1.2.2.1,a.2.2.2,a.2.1.1)).bind fun v128=>(Qn F (!v128,(7:Int))).bind fun v129=>(Q2 F (v124::(18:Int)::v129::Qa Int)).bind fun v130=>some (v130))else((Qn F (decide (a.2.2.1.2.2.2.2.1<w64 (ZA (w64 (a.2.1.1-(a.1.2.1.getD (v122.toNat) Zy).2.2.1)) (365:Int))),(18:Int))).bind fun v131=>(Vl F (a.1.2.2.1,a.2.2.2,a.2.1.1)).bind fun v132=>(Qn F (!v132,(7:Int))).bind fun v133=>(Q2 F (v124::v131::v133::Qa Int)).bind fun v134=>some (v134))))else(bif decide (a.2.1.1<(a.1.2.1.getD (v122.toNat) Zy).2.2.1)then((Vl F (a.1.2.2.1,a.2.2.2,a.2.1.1)).bind fun v135=>(Qn F (!v135,(7:Int))).bind fun v136=>(Q2 F ((0:Int)::(18:Int)::v136::Qa Int)).bind fun v137=>some (v137))else(bif decide (w64 (ZA (w64 (a.2.1.1-(a.1.2.1.getD (v122.toNat) Zy).2.2.1)) (365:Int))<a.2.2.1.2.2.2.1)then((Vl F (a.1.2.2.1,a.2.2.2,a.2.1.1)).bind fun v138=>(Qn F (!v138,(7:Int))).bind fun v139=>(Q2 F ((0:Int)::(18:Int)::v139::Qa Int)).bind fun v140=>some (v140))else((Qn F (decide (a.2.2.1.2.2.2.2.1<w64 (ZA (w64 (a.2.1.1-(a.1.2.1.getD (v122.toNat) Zy).2.2.1)) (365:Int))),(18:Int))).bind fun v141=>(Vl F (a.1.2.2.1,a.2.2.2,a.2.1.1)).bind fun v142=>(Qn F (!v142,(7:Int))).bind fun v143=>(Q2 F ((0:Int)::v141::v143::Qa Int)).bind fun v144=>some (v144))))).bind fun v123=>some (v123))))).bind fun v97=>((Jt F (a.1,a.2.2.2)).bind fun v99=>gd (decide (0<=v99)) (gd (decide (v99<(↑(a.1.2.1.length):Int))) (gd (decide (v99.toNat<a.1.2.1.length)) ((bif !Qc a.2.2.1.2.2.1 YD then((Qn F (!Qc a.2.2.1.2.2.1 (a.1.2.1.getD (v99.toNat) Zy).2.2.2,(18:Int))).bind fun v101=>bif decide (a.2.1.1<(a.1.2.1.getD (v99.toNat) Zy).2.2.1)then((Vl F (a.1.2.2.1,a.2.2.2,a.2.1.1)).bind fun v102=>(Qn F (!v102,(7:Int))).bind fun v103=>(Q2 F (v101::(18:Int)::v103::Qa Int)).bind fun v104=>some (v104))else(bif decide (w64 (ZA (w64 (a.2.1.1-(a.1.2.1.getD (v99.toNat) Zy).2.2.1)) (365:Int))<a.2.2.1.2.2.2.1)then((Vl F (a.1.2.2.1,a.2.2.2,a.2.1.1)).bind fun v105=>(Qn F (!v105,(7:Int))).bind fun v106=>(Q2 F (v101::(18:Int)::v106::Qa Int)).bind fun v107=>some (v107))else((Qn F (decide (a.2.2.1.2.2.2.2.1<w64 (ZA (w64 (a.2.1.1-(a.1.2.1.getD (v99.toNat) Zy).2.2.1)) (365:Int))),(18:Int))).bind fun v108=>(Vl F (a.1.2.2.1,a.2.2.2,a.2.1.1)).bind fun v109=>(Qn F (!v109,(7:Int))).bind fun v110=>(Q2 F (v101::v108::v110::Qa Int)).bind fun v111=>some (v111))))else(bif decide (a.2.1.1<(a.1.2.1.getD (v99.toNat) Zy).2.2.1)then((Vl F (a.1.2.2.1,a.2.2.2,a.2.1.1)).bind fun v112=>(Qn F (!v112,(7:Int))).bind fun v113=>(Q2 F ((0:Int)::(18:Int)::v113::Qa Int)).bind fun v114=>some (v114))else(bif decide (w64 (ZA (w64 (a.2.1.1-(a.1.2.1.getD (v99.toNat) Zy).2.2.1)) (365:Int))<a.2.2.1.2.2.2.1)then((Vl F (a.1.2.2.1,a.2.2.2,a.2.1.1)).bind fun v115=>(Qn F (!v115,(7:Int))).bind fun v116=>(Q2 F ((0:Int)::(18:Int)::v116::Qa Int)).bind fun v117=>some (v117))else((Qn F (decide (a.2.2.1.2.2.2.2.1<w64 (ZA (w64 (a.2.1.1-(a.1.2.1.getD (v99.toNat) Zy).2.2.1)) (365:Int))),(18:Int))).bind fun v118=>(Vl F (a.1.2.2.1,a.2.2.2,a.2.1.1)).bind fun v119=>(Qn F (!v119,(7:Int))).bind fun v120=>(Q2 F ((0:Int)::v118::v120::Qa Int)).bind fun v121=>some (v121))))).bind fun v100=>some (v100))))).bind fun v98=>gd (Qt.eqv (Qe.val (Ty.int Go.IntKind.i64)::Qa Qe) v97 v98) (some (v97))
def Yi6(F:Nat):PC:={ats:=[.agg Ze,.agg Xj,.agg kt4,.val (.str)],rts:=Zj,code:=Qjb F}
theorem Qit(F:Nat):Qg cx 140 (Yi6 F):=qE (Zy6 F) (Q5 3 (.two (.join [(.normal,⟨[.slot 8 (.val (.int .i64))],[]⟩)] ⟨(8::kD 62 39 []),[],[]⟩ .leaf) .leaf)) f140 (by kernel_rfl) fun a=>by kernel_rfl
def Yab(F:Nat):LK:=lN
def Qr4(F:Nat)(a:(ByteArray×Int×ByteArray)×ByteArray×Int×ByteArray):Option (Bool):=
 (bif !Qc a.1.1 a.2.1 then(bif !Qc a.1.1 YN then(some (!Qc a.2.1 YN))else(some (false)))else(some (false))).bind fun v5=>some (v5)
def Ymp(F:Nat):PC:={ats:=[.agg kt7,.agg kt7],rts:=Xi,code:=Qr4 F}
theorem Ycf(F:Nat):Qg cx 240 (Ymp F):=qE (Yab F) (.two .leaf (.two (.join [(.normal,⟨[.slot 4 (.val (.bool))],[]⟩)] ⟨(4::kD 19 15 []),[],[]⟩ .leaf) .leaf)) f240 (by kernel_rfl) fun a=>by kernel_rfl
def Ykp(F:Nat):LK:=lN
def Qj5(F:Nat)(a:ByteArray×Int×ByteArray):Option (Int):=
 tw (X:=Int) (Qt.eqv (Qe.val (Ty.int Go.IntKind.i64)::Qa Qe)) (bif Qc a.1 YL then(some (Go.IntKind.wrap Go.IntKind.i64 ((0:Int)-a.2.1)))else(bif Qc a.1 YM then(some a.2.1)else(bif Qc a.1 YO then(some a.2.1)else(some ((-864000000:Int))))))
def Zo5(F:Nat):PC:={ats:=[.agg kt7],rts:=Zj,code:=Qj5 F}
theorem Zs8(F:Nat):Qg cx 252 (Zo5 F):=qE (Ykp F) (.two .leaf (.two (.within [(178,.leaf)]) .leaf)) f252 (by kernel_rfl) fun a=>by kernel_rfl
def Yah(F:Nat):LK:=lC (Zs8 F) lN
def Qn1(F:Nat)(a:(ByteArray×Int×ByteArray)×ByteArray×Int×ByteArray):Option (Int):=
 (Qj5 F a.1).bind fun v7=>(Qj5 F a.2).bind fun v8=>bif decide (v8<v7)then(some ((-1:Int)))else(bif decide (v7<v8)then(some ((1:Int)))else(some ((0:Int))))
def Yg0(F:Nat):PC:={ats:=[.agg kt7,.agg kt7],rts:=Zj,code:=Qn1 F}
theorem Yc2(F:Nat):Qg cx 241 (Yg0 F):=qE (Yah F) .leaf f241 (by kernel_rfl) fun a=>by kernel_rfl
def Ya9(F:Nat):LK:=lC (Yc2 F) (lC (Zkn F) (lC (Zkq F) (lC (Ycf F) (lC (Vt F) lN))))
def Qlb(F:Nat)(a:(ByteArray×Int×ByteArray)×ByteArray×Int×ByteArray):Option (Int×Int):=
 (c99 F a.1).bind fun v15=>(c99 F a.2).bind fun v16=>(Qr4 F (a.1,a.2.1,a.2.2.1,a.2.2.2)).bind fun v17=>(Jk F (v17,(13:Int))).bind fun v18=>(Vd F (v15::v16::v18::Qa Int)).bind fun v19=>bif !decide (v19=0)then(some (((0:Int),v19)))else((Qn1 F (a.1,a.2.1,a.2.2.1,a.2.2.2)).bind fun v20=>some ((v20,(0:Int))))
def Zh7(F:Nat):PC:={ats:=[.agg kt7,.agg kt7],rts:=Qn9,code:=Qlb F}
theorem Qcq(F:Nat):Qg cx 205 (Zh7 F):=qE (Ya9 F) .leaf f205 (by kernel_rfl) fun a=>by kernel_rfl
def Yfz(F:Nat):LK:=lC (Y4 F) (lC (Qcq F) (lC (Qrb F) (lC (Ym F) (lC (Qoy F) (lC (Qit F) (lC (X9 F) (lC (Yd F) (lC (Qd3 F) lN))))))))
def Qp8(F:Nat)(a:(Zc)×(Qh)×Qz):Option (Int):=
 (Qcy F (a.1,a.2.2.2.2.2.2.2.1)).bind fun v79=>(bif !v79.2 then(some (true))else((Jt F (a.2.1,a.2.2.2.2.1)).bind fun v105=>some (decide (v105<0)))).bind fun v80=>bif v80 then(some ((10:Int)))else(((Qn F (decide (0<v79.1.2.2.2.2.2.2.2.2.2.2),(13:Int))).bind fun v91=>bif decide (a.2.2.1<a.1.2.1)then((J3 F (a.2.1,a.2.2.2.2.1,a.2.2.2.2.2.2.2.1)).bind fun v92=>(Qn F (decide (0<=v92),(9:Int))).bind fun v93=>(Qjb F (a.2.1,a.1,v79.1,a.2.2.2.2.1)).bind fun v94=>(Jj F (v79.1,a.2.2.2.2.2.2.2.2.2.2.1,a.2.2.2.2.2.2.2.2.2.2.2.1,a.2.2.2.2.2.2.2.2.2.2.2.2.1)).bind fun v95=>(Qn F (!v95,(30:Int))).bind fun v96=>(Q2 F (v91::(19:Int)::v93::v94::v96::Qa Int)).bind fun v97=>some (v97))else((Qn F (decide (a.1.2.2.1<a.2.2.1),(19:Int))).bind fun v98=>(J3 F (a.2.1,a.2.2.2.2.1,a.2.2.2.2.2.2.2.1)).bind fun v99=>(Qn F (decide (0<=v99),(9:Int))).bind fun v100=>(Qjb F (a.2.1,a.1,v79.1,a.2.2.2.2.1)).bind fun v101=>(Jj F (v79.1,a.2.2.2.2.2.2.2.2.2.2.1,a.2.2.2.2.2.2.2.2.2.2.2.1,a.2.2.2.2.2.2.2.2.2.2.2.2.1)).bind fun v102=>(Qn F (!v102,(30:Int))).bind fun v103=>(Q2 F (v91::v98::v100::v101::v103::Qa Int)).bind fun v104=>some (v104))).bind fun v81=>bif !decide (v81=0)then(some (v81))else((Qlb F ((a.2.2.2.2.2.2.2.2.2.2.1,a.2.2.2.2.2.2.2.2.2.2.2.1,a.2.2.2.2.2.2.2.2.2.2.2.2.1),v79.1.2.2.2.2.2.2.2.1,v79.1.2.2.2.2.2.2.2.2.1,v79.1.2.2.2.2.2.2.2.2.2.1)).bind fun v82=>(bif !Qc v79.1.2.2.2.2.2.2.2.1 YN then((Qn F (decide (0<v82.1),(30:Int))).bind fun v84=>(Qjq F (a.2.1,a.2.2.2.2.1)).bind fun v85=>(Qn F (decide (a.1.2.2.2.1<=v85),(5:Int))).bind fun v86=>(Q2 F (v84::v86::Qa Int)).bind fun v87=>some (v87))else((Qjq F (a.2.1,a.2.2.2.2.1)).bind fun v88=>(Qn F (decide (a.1.2.2.2.1<=v88),(5:Int))).bind fun v89=>(Q2 F ((0:Int)::v89::Qa Int)).bind fun v90=>some (v90))).bind fun v83=>some (v83)))
def Zxd(F:Nat):PC:={ats:=X8,rts:=Zj,code:=Qp8 F}
theorem Qok(F:Nat):Qg cx 167 (Zxd F):=qE (Yfz F) (Q5 2 (.two (.two (.join [(.normal,⟨[.slot 27 (.val (.bool))],[]⟩)] ⟨(kD 27 9 []),[],[]⟩ .leaf) .leaf) (.two (.two (.join [(.normal,⟨[.slot 9 (.val (.int .i64))],[]⟩)] ⟨(9::kD 66 39 []),[],[]⟩ .leaf) .leaf) (.two .leaf (.two (.join [(.normal,⟨[.slot 6 (.val (.int .i64))],[]⟩)] ⟨(6::kD 96 19 []),[],[]⟩ .leaf) .leaf))))) f167 (by kernel_rfl) fun a=>by kernel_rfl
def Zjs(F:Nat):LK:=lN
def Qfh(F:Nat)(a:List (Qi)):Option (List (Qi)):=
 bif decide (a.length=0)then((gd (decide (j (Qa (Qi)++a)*(88:Nat)<=(140737488355328:Nat))) (gd (decide (j (Qa (Qi)++a)<=9223372036854775807)) (gd (decide (j (Qa (Qi)++a)=j (Qa (Qi)++a))) (some (Qa (Qi)++a))))).bind fun v4=>gd (Wr (Ql.eqv Zr) (Qa (Qi)) v4) (some (Qa (Qi))))else(gd (decide (j (Qa (Qi)++a)*(88:Nat)<=(140737488355328:Nat))) (gd (decide (j (Qa (Qi)++a)<=9223372036854775807)) (gd (decide (j (Qa (Qi)++a)=j (Qa (Qi)++a))) (some (Qa (Qi)++a)))))
def Qp5(F:Nat):PF:={ats:=Qcc,ty:=106,row:=Zr,code:=Qfh F}
theorem Yjd(F:Nat)(a:List (Qi)):codeF cx (Zjs F).x 1000 .leaf f201 (Qo f201) Qcc 106 Zr a=Qfh F a:=by kernel_rfl
theorem Xm(F:Nat):Wh cx 201 (Qp5 F):=Wh.Z6 Z7 (Zjs F).ok (n:=1000) (an:=.leaf) (fn:=f201) (c:=Qo f201) (by kernel_rfl) (by kernel_rfl) (fun a y h=>(Yjd F a).trans h) (by kernel_rfl)
def Ylz(F:Nat):LK:=lS (PF.Qq (Xm F)) lN
def Qyu(F:Nat)(a:List (Qi)×Qi):Option (List (Qi)):=
 tw (X:=List (Qi)) (Qt.eqv (Qe.val (Ty.seq Zr)::Qa Qe)) ((Qfh F a.1).bind fun v13=>gd (decide (v13.length=v13.length)) (gd (decide (j (v13++a.2::Qa (Qi))*(88:Nat)<=(140737488355328:Nat))) (gd (decide (j (v13++a.2::Qa (Qi))<=9223372036854775807)) (gd (decide ((0:Nat)+j (v13++a.2::Qa (Qi))<=j (v13++a.2::Qa (Qi)))) (some (C (j (v13++a.2::Qa (Qi))) (I (0:Nat) (v13++a.2::Qa (Qi)))))))))
def Zdt(F:Nat):PC:={ats:=[.val (.seq Zr),.agg Zr],rts:=Qcc,code:=Qyu F}
theorem V0(F:Nat):Qg cx 216 (Zdt F):=qE (Ylz F) .leaf f216 (by kernel_rfl) fun a=>by kernel_rfl
def Zs1(F:Nat):LK:=lC (Ym F) (lC (Yd F) (lC (X9 F) lN))
def Qq7(F:Nat)(a:(Zc)×(Qh)×Qz):Option (Int):=
 (J3 F (a.2.1,a.2.2.2.2.1,a.2.2.2.2.2.2.2.1)).bind fun v11=>(Qn F (decide (v11<0),(10:Int))).bind fun v12=>(Qn F (decide (a.1.1<a.2.2.1),(20:Int))).bind fun v13=>(Q2 F (v12::v13::Qa Int)).bind fun v14=>some (v14)
def Ym5(F:Nat):PC:={ats:=X8,rts:=Zj,code:=Qq7 F}
theorem Qqk(F:Nat):Qg cx 169 (Ym5 F):=qE (Zs1 F) .leaf f169 (by kernel_rfl) fun a=>by kernel_rfl
def Yh8(F:Nat):LK:=lN
def Zw1(F:Nat):PC:=qT (Yh8 F) .leaf f217 [.val (.seq Zr),.val (.int .i64),.val (.int .i64)] Qcc
theorem Qp2(F:Nat):Qg cx 217 (Zw1 F):=Qt9 (by kernel_rfl)
def Yng(F:Nat):LK:=lC (Ym F) (lC (Yd F) (lC (X9 F) lN))
def Qpg(F:Nat)(a:(Zc)×(Qh)×Qz):Option (Int):=
 (J3 F (a.2.1,a.2.2.2.2.1,a.2.2.2.2.2.2.2.1)).bind fun v11=>bif decide (v11<0)then(some ((10:Int)))else(gd (decide (0<=v11)) (gd (decide (v11<(↑(a.2.1.2.2.2.1.length):Int))) (gd (decide (v11.toNat<a.2.1.2.2.2.1.length)) ((Qn F ((a.2.1.2.2.2.1.getD (v11.toNat) Zg).2.2.2.2.2.2,(9:Int))).bind fun v12=>(Qn F (!decide (a.2.2.1=a.1.1),(19:Int))).bind fun v13=>(Q2 F (v12::v13::Qa Int)).bind fun v14=>some (v14)))))
def Ydf(F:Nat):PC:={ats:=X8,rts:=Zj,code:=Qpg F}
theorem Qs9(F:Nat):Qg cx 171 (Ydf F):=qE (Yng F) .leaf f171 (by kernel_rfl) fun a=>by kernel_rfl
def Zno:Qm:=⟨[.slot 0 (.val (.int .i64)),.slot 1 (.val (.str)),.one 0 31 Ze,.one 1 35 Xe,.one 2 24 Xj,.one 3 110 kt4],[(2,.stat (.ptr 0 5 0 0)),(3,.stat (.ptr 1 12 0 0)),(4,.stat (.ptr 2 5 0 0)),(5,.stat (.ptr 3 11 0 0))]⟩
def Zqn:Qm:=⟨[.slot 0 (.val (.int .i64))],[]⟩
def Ypz(F:Nat):LK:=lC (Qa6 F) (lC (Yd F) (lC (Ww F) (lC (Qit F) (lC (Ym F) (lC (Y4 F) lN)))))
def Qry(F:Nat)(a:Int×ByteArray×(Qh)×(Qz)×(Zc)×Yu):Option (Int):=
 (Jt F (a.2.2.1,a.2.1)).bind fun v17=>bif decide (v17<0)then(some ((10:Int)))else(gd (decide (0<=a.1)) (gd (decide (a.1<=(↑(a.2.2.2.1.2.2.2.2.2.2.2.2.2.2.2.length):Int))) ((Qeu F (a.2.2.1,a.2.1)).bind fun v18=>(Qn F (!Qc v18 a.2.2.2.1.2.2.2.1,(18:Int))).bind fun v19=>(Kh F (I (0:Nat) (C (a.1.toNat) a.2.2.2.1.2.2.2.2.2.2.2.2.2.2.2),a.2.1)).bind fun v20=>(Qn F (v20,(9:Int))).bind fun v21=>(Qjb F (a.2.2.1,a.2.2.2.2.1,a.2.2.2.2.2,a.2.1)).bind fun v22=>(Q2 F (v19::v21::v22::Qa Int)).bind fun v23=>some (v23))))
def Zus(F:Nat):PX:={np:=6,locs:=[.arg 2,.arg 3,.arg 4,.arg 5],O:=Zno,nr:=1,ω:=Zqn,ids:=[],mv:=[],code:=Qry F}
theorem Qzv(F:Nat):Zi cx 218 (Zus F):=Yn (Ypz F) .leaf f218 (by kernel_rfl) fun a=>by kernel_rfl
def Ya5:Qm:=⟨[.slot 0 (.val (.seq Z9)),.one 0 31 Ze,.one 1 35 Xe,.one 2 24 Xj,.one 3 110 kt4],[(1,.stat (.fn (.func 218) [] [.ptr 0 5 0 0,.ptr 1 12 0 0,.ptr 2 5 0 0,.ptr 3 11 0 0]))]⟩
def Zpt:Qm:=⟨[.slot 0 (.val (.int .i64))],[]⟩
def Yas(F:Nat):LK:=lC (Qa6 F) (lC (Yd F) (lC (Ww F) (lC (Qit F) (lC (Ym F) (lC (Y4 F) (lX (Qzv F) lN))))))
def Qpf(F:Nat)(a:List ByteArray×(Qh)×(Qz)×(Zc)×Yu):Option (Int):=
 (Q4 (U:=Int) (β:=Int ⊕ Unit) (fun v15=>bif decide (v15<(↑(a.1.length):Int))then(gd (decide (0<=v15)) (gd (decide (v15<(↑(a.1.length):Int))) (gd (decide (v15.toNat<a.1.length)) ((Qry F (v15,a.1.getD (v15.toNat) ByteArray.empty,a.2.1,a.2.2.1,a.2.2.2.1,a.2.2.2.2.1,a.2.2.2.2.2.1,a.2.2.2.2.2.2.1,a.2.2.2.2.2.2.2.1,a.2.2.2.2.2.2.2.2.1,a.2.2.2.2.2.2.2.2.2.1,a.2.2.2.2.2.2.2.2.2.2.1,a.2.2.2.2.2.2.2.2.2.2.2.1,a.2.2.2.2.2.2.2.2.2.2.2.2.1,a.2.2.2.2.2.2.2.2.2.2.2.2.2.1,a.2.2.2.2.2.2.2.2.2.2.2.2.2.2)).bind fun v16=>bif !decide (v16=0)then(some (J (R v16)))else(some (R (w64 (v15+1))))))))else(some (J (J ())))) F ((0:Int))).bind fun v12=>Sum.elim (fun v13=>some (v13)) (fun v14=>some ((0:Int))) (v12)
def Ydx(F:Nat):PX:={np:=2,locs:=[.cap (.arg 1) 0,.cap (.arg 1) 1,.cap (.arg 1) 2,.cap (.arg 1) 3],O:=Ya5,nr:=1,ω:=Zpt,ids:=[],mv:=[],code:=Qpf F}
theorem Ur(F:Nat):Zi cx 100 (Ydx F):=Yn (Yas F) (.two .leaf (.two (.two .leaf (.one (.loop ⟨[.slot 10 (.val (.int .i64))],[]⟩ [(.ret,⟨[.slot 4 (.val (.int .i64))],[]⟩),(.exit 0,⟨[],[]⟩)] ⟨[22,10,15,16,17,18,7,21,4,20,19,6,5,14,13,12,11],[],[]⟩ F .leaf))) .leaf)) f100 (by kernel_rfl) fun a=>by kernel_rfl
def Zvj(F:Nat):LK:=lC (Ko F) (lC (Qa6 F) (lC (Yd F) (lC (Ww F) (lC (Qit F) (lC (Ym F) (lC (Y4 F) (lC (Qd3 F) (lX (Kc F) (lX (Uf F) (lX (Qzv F) (lX (Ur F) lN)))))))))))
def Qq4(F:Nat)(a:(Zc)×(Qh)×Qz):Option (Int):=
 (Qcy F (a.1,a.2.2.2.2.2.2.2.1)).bind fun v39=>(bif !v39.2 then((Qn F (decide (v39.1.2.2.2.2.2.2.2.2.2.2=0),(13:Int))).bind fun v42=>(Qn F (decide (a.1.1<a.2.2.1),(20:Int))).bind fun v43=>(Qn F (!decide ((↑(a.2.2.2.2.2.2.2.2.2.2.2.2.2.length):Int)=v39.1.2.2.2.2.2.2.2.2.2.2),(2:Int))).bind fun v44=>(Q2 F ((10:Int)::v42::v43::v44::Qa Int)).bind fun v45=>some (v45))else((Kl F (a.2.1,a.2.2.2.2.2.1)).bind fun v46=>(Qn F (!v46,(10:Int))).bind fun v47=>(Qn F (decide (v39.1.2.2.2.2.2.2.2.2.2.2=0),(13:Int))).bind fun v48=>(Qn F (decide (a.1.1<a.2.2.1),(20:Int))).bind fun v49=>(Qn F (!decide ((↑(a.2.2.2.2.2.2.2.2.2.2.2.2.2.length):Int)=v39.1.2.2.2.2.2.2.2.2.2.2),(2:Int))).bind fun v50=>(Q2 F (v47::v48::v49::v50::Qa Int)).bind fun v51=>some (v51))).bind fun v40=>bif !decide (v40=0)then(some (v40))else((Qpf F (a.2.2.2.2.2.2.2.2.2.2.2.2.2,a.2.1,a.2.2,a.1,v39.1.1,v39.1.2.1,v39.1.2.2.1,v39.1.2.2.2.1,v39.1.2.2.2.2.1,v39.1.2.2.2.2.2.1,v39.1.2.2.2.2.2.2.1,v39.1.2.2.2.2.2.2.2.1,v39.1.2.2.2.2.2.2.2.2.1,v39.1.2.2.2.2.2.2.2.2.2.1,v39.1.2.2.2.2.2.2.2.2.2.2)).bind fun v41=>some (v41))
def Zq6(F:Nat):PC:={ats:=X8,rts:=Zj,code:=Qq4 F}
theorem Qpa(F:Nat):Qg cx 173 (Zq6 F):=qE (Zvj F) (Q5 2 (.two (.two (.join [(.normal,⟨[.slot 9 (.val (.int .i64))],[]⟩)] ⟨(9::kD 45 29 []),[],[]⟩ .leaf) .leaf) .leaf)) f173 (by kernel_rfl) fun a=>by kernel_rfl
def Zgy(F:Nat):LK:=lN
def Qaf(F:Nat)(a:List (Qv)):Option (List (Qv)):=
 bif decide (a.length=0)then((gd (decide (j (Qa (Qv)++a)*(56:Nat)<=(140737488355328:Nat))) (gd (decide (j (Qa (Qv)++a)<=9223372036854775807)) (gd (decide (j (Qa (Qv)++a)=j (Qa (Qv)++a))) (some (Qa (Qv)++a))))).bind fun v4=>gd (Wr (Ql.eqv kt9) (Qa (Qv)) v4) (some (Qa (Qv))))else(gd (decide (j (Qa (Qv)++a)*(56:Nat)<=(140737488355328:Nat))) (gd (decide (j (Qa (Qv)++a)<=9223372036854775807)) (gd (decide (j (Qa (Qv)++a)=j (Qa (Qv)++a))) (some (Qa (Qv)++a)))))
def Vo(F:Nat):PF:={ats:=Qub,ty:=147,row:=kt9,code:=Qaf F}
theorem Yct(F:Nat)(a:List (Qv)):codeF cx (Zgy F).x 1000 .leaf f202 (Qo f202) Qub 147 kt9 a=Qaf F a:=by kernel_rfl
theorem Xn(F:Nat):Wh cx 202 (Vo F):=Wh.Z6 Z7 (Zgy F).ok (n:=1000) (an:=.leaf) (fn:=f202) (c:=Qo f202) (by kernel_rfl) (by kernel_rfl) (fun a y h=>(Yct F a).trans h) (by kernel_rfl)
def Yaj(F:Nat):LK:=lS (PF.Qq (Xn F)) lN
def Qyb(F:Nat)(a:List (Qv)×Qv):Option (List (Qv)):=
 tw (X:=List (Qv)) (Qt.eqv (Qe.val (Ty.seq kt9)::Qa Qe)) ((Qaf F a.1).bind fun v13=>gd (decide (v13.length=v13.length)) (gd (decide (j (v13++a.2::Qa (Qv))*(56:Nat)<=(140737488355328:Nat))) (gd (decide (j (v13++a.2::Qa (Qv))<=9223372036854775807)) (gd (decide ((0:Nat)+j (v13++a.2::Qa (Qv))<=j (v13++a.2::Qa (Qv)))) (some (C (j (v13++a.2::Qa (Qv))) (I (0:Nat) (v13++a.2::Qa (Qv)))))))))
def Qxd(F:Nat):PC:={ats:=[.val (.seq kt9),.agg kt9],rts:=Qub,code:=Qyb F}
theorem Vn(F:Nat):Qg cx 219 (Qxd F):=qE (Yaj F) .leaf f219 (by kernel_rfl) fun a=>by kernel_rfl
def Yp0(F:Nat):LK:=lC (Kq F) lN
def Qqd(F:Nat)(a:Int×ByteArray):Option (Int):=
 (c92 F a.2).bind fun v5=>some (v5)
def Zy5(F:Nat):PC:={ats:=[.val (.int .i64),.val (.str)],rts:=Zj,code:=Qqd F}
theorem Qb4(F:Nat):Qg cx 101 (Zy5 F):=qE (Yp0 F) .leaf f101 (by kernel_rfl) fun a=>by kernel_rfl
def Yd0(F:Nat):LK:=lC (Qcq F) lN
def Zed(F:Nat)(a:(Qi)×Qi):Option (Int):=
 (Qlb F ((a.1.2.2.1,a.1.2.2.2.1,a.1.2.2.2.2.1),a.2.2.2.1,a.2.2.2.2.1,a.2.2.2.2.2.1)).bind fun v5=>bif !decide (v5.1=0)then(some v5.1)else(some (w64 (a.1.2.2.2.2.2.1-a.2.2.2.2.2.2.1)))
def Zkd(F:Nat):PC:={ats:=[.agg Zr,.agg Zr],rts:=Zj,code:=Zed F}
theorem Qfn(F:Nat):Qg cx 204 (Zkd F):=qE (Yd0 F) .leaf f204 (by kernel_rfl) fun a=>by kernel_rfl
def Ztd:Qm:=⟨[.slot 1 (.val (.int .i64)),.slot 2 (.val (.int .i64)),.vec 0 106 Zr],[(0,.own 0),(3,.stat (.pv (.lit (.func (.func 204) #[] #[]))))]⟩
def Zzg:Qm:=⟨[.vec 0 106 Zr],[]⟩
def Zmr(F:Nat):LK:=lC (Qcq F) (lC (Qfn F) lN)
def Qwb(F:Nat)(a:Int×Int×List (Qi)):Option (List (Qi)):=
 (Q4 (U:=List (Qi)×Int) (β:=List (Qi)) (fun v31=>bif decide (v31.2<a.2.1)then((Q4 (U:=List (Qi)×Int) (β:=List (Qi)) (fun v33=>(bif decide (a.1<v33.2)then(gd (decide (0<=v33.2)) (gd (decide (v33.2<(↑(a.2.2.length):Int))) (gd (decide ((0:Nat)+v33.2.toNat<v33.1.length)) (gd (decide (0<=w64 (v33.2-1))) (gd (decide (w64 (v33.2-1)<(↑(a.2.2.length):Int))) (gd (decide ((0:Nat)+o (w64 (v33.2-1))<v33.1.length)) ((Zed F ((v33.1.getD ((0:Nat)+v33.2.toNat) Zg),(v33.1.getD ((0:Nat)+o (w64 (v33.2-1))) Zg).1,(v33.1.getD ((0:Nat)+o (w64 (v33.2-1))) Zg).2.1,(v33.1.getD ((0:Nat)+o (w64 (v33.2-1))) Zg).2.2.1,(v33.1.getD ((0:Nat)+o (w64 (v33.2-1))) Zg).2.2.2.1,(v33.1.getD ((0:Nat)+o (w64 (v33.2-1))) Zg).2.2.2.2.1,(v33.1.getD ((0:Nat)+o (w64 (v33.2-1))) Zg).2.2.2.2.2.1,(v33.1.getD ((0:Nat)+o (w64 (v33.2-1))) Zg).2.2.2.2.2.2)).bind fun v35=>some (decide (v35<0)))))))))else(some (false))).bind fun v34=>bif v34 then(gd (decide (0<=w64 (v33.2-1))) (gd (decide (w64 (v33.2-1)<(↑(a.2.2.length):Int))) (gd (decide ((0:Nat)+o (w64 (v33.2-1))<v33.1.length)) (gd (decide (0<=v33.2)) (gd (decide (v33.2<(↑(a.2.2.length):Int))) (gd (decide ((0:Nat)+v33.2.toNat<v33.1.length)) (gd (decide (0<=v33.2)) (gd (decide (v33.2<(↑(a.2.2.length):Int))) (gd (decide ((0:Nat)+v33.2.toNat<v33.1.length)) (gd (decide (0<=w64 (v33.2-1))) (gd (decide (w64 (v33.2-1)<(↑(a.2.2.length):Int))) (gd (decide ((0:Nat)+o (w64 (v33.2-1))<j (ZB v33.1 ((0:Nat)+v33.2.toNat) (v33.1.getD ((0:Nat)+o (w64 (v33.2-1))) Zg)))) (some (R (ZB (ZB v33.1 ((0:Nat)+v33.2.toNat) (v33.1.getD ((0:Nat)+o (w64 (v33.2-1))) Zg)) ((0:Nat)+o (w64 (v33.2-1))) (v33.1.getD ((0:Nat)+v33.2.toNat) Zg),w64 (v33.2-1))))))))))))))))else(some (J v33.1))) F (v31)).bind fun v32=>some (R (v32,w64 (v31.2+1))))else(some (J v31.1))) F ((a.2.2,w64 (a.1+1)))).bind fun v30=>some (v30)
def Zrs(F:Nat):PX:={np:=4,locs:=[.arg 0],O:=Ztd,nr:=0,ω:=Zzg,ids:=[0],mv:=[],code:=Qwb F}
theorem Qxl(F:Nat):Zi cx 250 (Zrs F):=Yn (Zmr F) (.two .leaf (.one (.loop ⟨[.vec 0 106 Zr,.slot 8 (.val (.int .i64))],[]⟩ [(.exit 0,⟨[.vec 0 106 Zr],[]⟩)] ⟨(17::9::kU 37 16 (kD 36 19 (8::16::15::14::13::12::[]))),[0],[]⟩ F (.two .leaf (.two (.one (.two .leaf (.one (.loop ⟨[.vec 0 106 Zr,.slot 9 (.val (.int .i64))],[]⟩ [(.exit 2,⟨[.vec 0 106 Zr],[]⟩)] ⟨(kU 37 16 (9::kD 36 19 [])),[0],[]⟩ F (.two (.two (.join [(.normal,⟨[.slot 34 (.val (.bool))],[]⟩)] ⟨(kD 34 17 []),[],[]⟩ .leaf) .leaf) .leaf))))) .leaf))))) f250 (by kernel_rfl) fun a=>by kernel_rfl
def Ymk:Qm:=⟨[.slot 1 (.val (.int .i64)),.slot 2 (.val (.int .i64)),.slot 3 (.val (.int .i64)),.vec 0 106 Zr],[(0,.own 0),(4,.stat (.pv (.lit (.func (.func 204) #[] #[]))))]⟩
def Zsf:Qm:=⟨[.vec 0 106 Zr],[]⟩
def Zy3(F:Nat):LK:=lC (Qcq F) (lC (Qfn F) lN)
def Zcf(F:Nat):PX:=qX (Zy3 F) (.two .leaf (.one (.loop ⟨[.vec 0 106 Zr,.slot 10 (.val (.int .i64))],[]⟩ [(.exit 0,⟨[.vec 0 106 Zr],[]⟩)] ⟨(kU 16 22 (10::15::14::13::12::11::[])),[0],[]⟩ F .leaf))) f267 (pxB 5 [.arg 0] Ymk 0 Zsf [0] [])
theorem Qly(F:Nat):Zi cx 267 (Zcf F):=Vr (by kernel_rfl)
def Zzf:Qm:=⟨[.slot 1 (.val (.int .i64)),.slot 2 (.val (.int .i64)),.slot 3 (.val (.int .i64)),.vec 0 106 Zr],[(0,.own 0),(4,.stat (.pv (.lit (.func (.func 204) #[] #[]))))]⟩
def Yqq:Qm:=⟨[.vec 0 106 Zr],[]⟩
def Zp2(F:Nat):LK:=lC (Qcq F) (lC (Qfn F) (lX (Qly F) lN))
def Zjj(F:Nat):PX:=qX (Zp2 F) (Q5 2 (.two (.one (.loop ⟨[.vec 0 106 Zr,.slot 10 (.val (.int .i64)),.slot 11 (.val (.int .i64))],[]⟩ [(.exit 0,⟨[.vec 0 106 Zr,.slot 10 (.val (.int .i64))],[]⟩)] ⟨(21::22::23::kU 35 12 (11::49::48::47::32::33::34::10::kD 31 8 (20::19::18::[]))),[0],[]⟩ F (.two .leaf (.one (.two .leaf (.join [(.normal,⟨[.vec 0 106 Zr,.slot 10 (.val (.int .i64)),.slot 11 (.val (.int .i64))],[]⟩)] ⟨(kU 35 12 (11::49::48::47::32::33::34::10::kD 31 8 [])),[0],[]⟩ .leaf)))))) .leaf)) f256 (pxB 5 [.arg 0] Zzf 0 Yqq [0] [])
theorem Qpx(F:Nat):Zi cx 256 (Zjj F):=Vr (by kernel_rfl)
def Qgf:Qm:=⟨[.slot 1 (.val (.int .i64)),.slot 2 (.val (.int .i64)),.slot 3 (.val (.int .i64)),.vec 0 106 Zr],[(0,.own 0),(4,.stat (.pv (.lit (.func (.func 204) #[] #[]))))]⟩
def Qfo:Qm:=⟨[.vec 0 106 Zr],[]⟩
def Qyf(g:Qgf.El->Option (Qfo.El))(F:Nat):Lx:={ext:=[(251,(PX.sm {np:=5,locs:=[.arg 0],O:=Qgf,nr:=0,ω:=Qfo,ids:=[0],mv:=[],code:=g})),(205,(Zh7 F).sm),(204,(Zkd F).sm),(267,(Zcf F).sm),(256,(Zjj F).sm)],anns:=[],still:=[]}
def Qyv:PX:=pxB 5 [.arg 0] Qgf 0 Qfo [0] []
def Zg9(F:Nat):Zb:=(.two (.two .leaf (.two (Q5 2 (.two (.one (.loop ⟨[.slot 10 (.val (.int .i64)),.slot 11 (.val (.int .i64))],[]⟩ [(.exit 0,⟨[.slot 10 (.val (.int .i64))],[]⟩)] ⟨(kU 34 6 (12::51::52::10::11::53::kD 50 11 (33::32::31::[]))),[],[]⟩ F (.two .leaf (.one (Q5 2 (.join [(.normal,⟨[.slot 10 (.val (.int .i64)),.slot 11 (.val (.int .i64))],[]⟩)] ⟨[53,11,10,52,51],[],[]⟩ .leaf)))))) (.two (.two .leaf (.one (.loop ⟨[.vec 0 106 Zr,.slot 13 (.val (.int .i64))],[]⟩ [(.exit 2,⟨[.vec 0 106 Zr],[]⟩)] ⟨(kU 61 16 (13::kD 60 6 [])),[0],[]⟩ F .leaf))) .leaf))) .leaf)) (.two (.two .leaf (.two (Q5 2 (.two (.one (.loop ⟨[.slot 14 (.val (.int .i64)),.slot 15 (.val (.int .i64))],[]⟩ [(.exit 4,⟨[.slot 14 (.val (.int .i64))],[]⟩)] ⟨(kU 86 6 (16::104::105::14::15::106::kD 103 12 (85::84::83::[]))),[],[]⟩ F (.two .leaf (.one (Q5 2 (.join [(.normal,⟨[.slot 14 (.val (.int .i64)),.slot 15 (.val (.int .i64))],[]⟩)] ⟨[106,15,14,105,104],[],[]⟩ .leaf)))))) (.two (.two .leaf (.one (.loop ⟨[.vec 0 106 Zr,.slot 17 (.val (.int .i64))],[]⟩ [(.exit 6,⟨[.vec 0 106 Zr],[]⟩)] ⟨(kU 113 16 (17::112::111::110::109::108::[])),[0],[]⟩ F .leaf))) .leaf))) .leaf)) (Q5 3 (.two (.two .leaf (.join [(.normal,⟨[.slot 20 (.val (.int .i64)),.slot 21 (.val (.int .i64))],[]⟩)] ⟨[145,146,144,21,20,143,142,141],[],[]⟩ .leaf)) (.two .leaf (.two (.one (.loop ⟨[.slot 20 (.val (.int .i64)),.slot 21 (.val (.int .i64))],[]⟩ [(.exit 8,⟨[.slot 20 (.val (.int .i64))],[]⟩)] ⟨(kU 152 6 (23::172::173::20::21::174::kD 171 14 (151::150::149::[]))),[],[]⟩ F (.two .leaf (.one (Q5 2 (.join [(.normal,⟨[.slot 20 (.val (.int .i64)),.slot 21 (.val (.int .i64))],[]⟩)] ⟨[174,21,20,173,172],[],[]⟩ .leaf)))))) (.two .leaf (.two (.two (.join [(.normal,⟨[.slot 185 (.val (.bool))],[]⟩)] ⟨(kD 185 8 []),[],[]⟩ .leaf) (.join [(.normal,⟨[.vec 0 106 Zr],[]⟩)] ⟨(kD 191 6 []),[0],[]⟩ .leaf)) (.two (.two (.join [(.normal,⟨[.slot 199 (.val (.bool))],[]⟩)] ⟨(kD 199 8 []),[],[]⟩ .leaf) (.join [(.normal,⟨[.vec 0 106 Zr],[]⟩)] ⟨(kD 205 6 []),[0],[]⟩ .leaf)) (.two (.join [(.normal,⟨[.slot 213 (.val (.bool))],[]⟩)] ⟨(kD 213 8 []),[],[]⟩ .leaf) (.join [(.normal,⟨[.vec 0 106 Zr],[]⟩)] ⟨(kD 219 6 []),[0],[]⟩ .leaf)))))))))))
def Yom(g:Qgf.El->Option Qfo.El)(F:Nat):=Qr6 cx (Qyf g F) 1000 (Zg9 F) f251 (Qo f251) Qyv
def Qs5(F n:Nat):Qgf.El->Option Qfo.El:=Nat.rec (motive:=fun _=>Qgf.El->Option Qfo.El) (fun _=>none) (fun _ ih=>Yom ih F) n
def Zcq(F:Nat):Qgf.El->Option Qfo.El:=Qs5 F F
def Qt3(F n:Nat):PX:={Qyv with code:=Qs5 F n}
def Yfc(F:Nat):PX:=Qt3 F F
theorem Ykm(F n:Nat)(h:Zi cx 251 (Qt3 F n)):(Qyf (Qs5 F n) F).Ok cx:=Lx.Zk (PX.Qq h) (kC (Qcq F) (kC (Qfn F) (kX (Qly F) (kX (Qpx F) (Lx.Um)))))
theorem Zjc(F:Nat):∀n,Zi cx 251 (Qt3 F n)
 |0=>⟨⟨f251,by kernel_rfl⟩,fun a y h=>absurd (show(none:Option _)=some y from h) (by simp)⟩
 |n+1=>Zi.cast (q:=pxT cx (Qyf (Qs5 F n) F) (Zg9 F) f251 (Qo f251) Qyv) (by kernel_rfl) (Zg4 Z7 (Ykm F n (Zjc F n)) (by kernel_rfl) (by kernel_rfl) (by kernel_rfl) (by kernel_rfl))
theorem Qx9(F:Nat):Zi cx 251 (Yfc F):=Zjc F F
def Yqj:Qm:=⟨[.slot 1 (.val (.int .i64)),.vec 0 106 Zr],[(0,.own 0),(2,.stat (.pv (.lit (.func (.func 204) #[] #[]))))]⟩
def Ycd:Qm:=⟨[.vec 0 106 Zr],[]⟩
def Yq8(F:Nat):LK:=lC (Qcq F) (lC (Qfn F) (lX (Qxl F) (lX (Qly F) (lX (Qpx F) (lX (Qx9 F) lN)))))
def Za3(F:Nat)(a:Int×List (Qi)):Option (List (Qi)):=
 (Q4 (U:=List (Qi)×Int×Int) (β:=List (Qi)×Int) (fun v66=>bif decide (v66.2.2<=a.1)then((gd (decide (a.2.length=v66.1.length)&&(true&&true)&&(true&&(true&&true))) (some ((v66.2.1,v66.2.2,v66.1)))).bind fun v67=>(Qwb F v67).bind fun v68=>some (R (v68,v66.2.2,w64 (v66.2.2+20))))else(some (J (v66.1,v66.2.1)))) F ((a.2,(0:Int),(20:Int)))).bind fun v54=>(gd (decide (a.2.length=v54.1.length)&&(true&&true)&&(true&&(true&&true))) (some ((v54.2,a.1,v54.1)))).bind fun v55=>(Qwb F v55).bind fun v56=>(Q4 (U:=List (Qi)×Int) (β:=List (Qi)) (fun v58=>bif decide (v58.2<a.1)then((Q4 (U:=List (Qi)×Int×Int) (β:=List (Qi)×Int) (fun v63=>bif decide (v63.2.2<=a.1)then((gd (decide (a.2.length=v63.1.length)&&(true&&true)&&(true&&(true&&(true&&true)))) (some ((v63.2.1,w64 (v63.2.1+v58.2),v63.2.2,v63.1)))).bind fun v64=>(Zcq F v64).bind fun v65=>some (R (v65,v63.2.2,w64 (v63.2.2+w64 ((2:Int)*v58.2)))))else(some (J (v63.1,v63.2.1)))) F ((v58.1,(0:Int),w64 ((2:Int)*v58.2)))).bind fun v59=>(bif decide (w64 (v59.2+v58.2)<a.1)then((gd (decide (a.2.length=v59.1.length)&&(true&&true)&&(true&&(true&&(true&&true)))) (some ((v59.2,w64 (v59.2+v58.2),a.1,v59.1)))).bind fun v61=>(Zcq F v61).bind fun v62=>some (v62))else(some v59.1)).bind fun v60=>some (R (v60,w64 (v58.2*(2:Int)))))else(some (J v58.1))) F ((v56,(20:Int)))).bind fun v57=>some (v57)
def Ylo(F:Nat):PX:={np:=3,locs:=[.arg 0],O:=Yqj,nr:=0,ω:=Ycd,ids:=[0],mv:=[],code:=Za3 F}
theorem Zaw(F:Nat):Zi cx 239 (Ylo F):=Yn (Yq8 F) (Q5 2 (.two (.one (.loop ⟨[.vec 0 106 Zr,.slot 7 (.val (.int .i64)),.slot 8 (.val (.int .i64))],[]⟩ [(.exit 0,⟨[.vec 0 106 Zr,.slot 7 (.val (.int .i64))],[]⟩)] ⟨[14,15,16,17,18,20,21,22,8,7,19,13,12,11],[0],[]⟩ F .leaf)) (.two .leaf (.one (.loop ⟨[.vec 0 106 Zr,.slot 6 (.val (.int .i64))],[]⟩ [(.exit 2,⟨[.vec 0 106 Zr],[]⟩)] ⟨[31,32,7,8,49,50,51,9,55,56,57,58,59,60,54,53,52,6,62,61,36,37,38,39,40,41,42,43,45,46,47,48,44,35,34,33,30,29,28],[0],[]⟩ F (.two .leaf (.one (.two .leaf (.two (.one (.loop ⟨[.vec 0 106 Zr,.slot 7 (.val (.int .i64)),.slot 8 (.val (.int .i64))],[]⟩ [(.exit 4,⟨[.vec 0 106 Zr,.slot 7 (.val (.int .i64))],[]⟩)] ⟨(kU 36 8 (45::46::47::48::8::7::44::35::34::33::[])),[0],[]⟩ F .leaf)) (.two (Q5 2 (.join [(.normal,⟨[.vec 0 106 Zr],[]⟩)] ⟨(kD 60 6 []),[0],[]⟩ .leaf)) .leaf)))))))))) f239 (by kernel_rfl) fun a=>by kernel_rfl
def Zoq:Qm:=⟨[.vec 0 106 Zr],[(0,.own 0),(1,.stat (.pv (.lit (.func (.func 204) #[] #[]))))]⟩
def Yg7:Qm:=⟨[.vec 0 106 Zr],[]⟩
def Yfr(F:Nat):LK:=lC (Qcq F) (lC (Qfn F) (lX (Qxl F) (lX (Qly F) (lX (Qpx F) (lX (Qx9 F) (lX (Zaw F) lN))))))
def Zi8(F:Nat)(a:List (Qi)):Option (List (Qi)):=
 (gd (decide (a.length=a.length)&&(true&&true)&&(true&&true)) (some (((↑(a.length):Int),a)))).bind fun v7=>(Za3 F v7).bind fun v8=>some (v8)
def Zpj(F:Nat):PX:={np:=2,locs:=[.arg 0],O:=Zoq,nr:=0,ω:=Yg7,ids:=[0],mv:=[],code:=Zi8 F}
theorem Yj6(F:Nat):Zi cx 203 (Zpj F):=Yn (Yfr F) .leaf f203 (by kernel_rfl) fun a=>by kernel_rfl
def Ydb(F:Nat):LK:=lC (Qfn F) (lX (Qxl F) (lX (Qly F) (lX (Qpx F) (lX (Qx9 F) (lX (Zaw F) (lX (Yj6 F) lN))))))
def Qyg(F:Nat)(a:(Qh)×ByteArray):Option (List (Qi)):=
 (Q4 (U:=List (Qi)×Int) (β:=List (Qi)) (fun v18=>bif decide (v18.2<(↑(a.1.2.2.2.1.length):Int))then(gd (decide (0<=v18.2)) (gd (decide (v18.2<(↑(a.1.2.2.2.1.length):Int))) (gd (decide (v18.2.toNat<a.1.2.2.2.1.length)) ((bif Qc (a.1.2.2.2.1.getD (v18.2.toNat) Zg).2.1 a.2 then(gd (decide (v18.1.length=v18.1.length)) (gd (decide (j (v18.1++(a.1.2.2.2.1.getD (v18.2.toNat) Zg)::Qa (Qi))*(88:Nat)<=(140737488355328:Nat))) (gd (decide (j (v18.1++(a.1.2.2.2.1.getD (v18.2.toNat) Zg)::Qa (Qi))<=9223372036854775807)) (gd (decide (j (v18.1++(a.1.2.2.2.1.getD (v18.2.toNat) Zg)::Qa (Qi))=j (v18.1++(a.1.2.2.2.1.getD (v18.2.toNat) Zg)::Qa (Qi)))&&true&&true) (some (v18.1++(a.1.2.2.2.1.getD (v18.2.toNat) Zg)::Qa (Qi)))))))else(gd (decide (v18.1.length=v18.1.length)&&true&&true) (some v18.1))).bind fun v19=>(gd (decide (v19.length=v19.length)&&true&&(true&&true)) (some ((v19,w64 (v18.2+1))))).bind fun v20=>some (R v20)))))else((gd (decide (v18.1.length=v18.1.length)&&true&&true) (some v18.1)).bind fun v21=>some (J v21))) F ((Qa (Qi),(0:Int)))).bind fun v15=>(gd (decide (v15.length=v15.length)&&(true&&true)&&true) (some (v15))).bind fun v16=>(Zi8 F v16).bind fun v17=>gd (decide ((0:Nat)+v15.length<=v17.length)) (some (C (v15.length) (I (0:Nat) v17)))
def Zds(F:Nat):PC:={ats:=Qfe,rts:=Qcc,code:=Qyg F}
theorem Qw5(F:Nat):Qg cx 139 (Zds F):=qE (Ydb F) (Q5 2 (.two (.two .leaf (.one (.virt 5 106 Zr (.loop ⟨[.vec 1 106 Zr,.slot 11 (.val (.int .i64))],[(5,.own 1)]⟩ [(.exit 0,⟨[.vec 1 106 Zr],[(5,.own 1)]⟩)] ⟨[23,11,15,16,17,18,5,22,21,20,19,7,14,13,12],[1],[1]⟩ F (Q5 2 (.two (.one (Q5 2 (.join [(.normal,⟨[.vec 1 106 Zr],[(5,.own 1)]⟩)] ⟨[5,22,21,20,19],[1],[1]⟩ .leaf))) .leaf)))))) .leaf)) f139 (by kernel_rfl) fun a=>by kernel_rfl
def Ybw(F:Nat):LK:=lC (Vb F) (lS (PF.Qq (Xn F)) (lC (Vn F) (lS (PF.Qq (Ve F)) (lC (Qpa F) (lC (Qs9 F) (lS (PF.Qq (Xm F)) (lC (Qp2 F) (lC (X9 F) (lC (Qqk F) (lC (V0 F) (lC (Qok F) (lC (Y4 F) (lS (PF.Qq (Xu F)) (lC (Qo5 F) (lC (V2 F) (lC (Qoj F) (lC (V4 F) (lC (Qo6 F) (lC (V1 F) (lC (Qnw F) lN))))))))))))))))))))
def Je(F:Nat)(a:(Zc)×(Qh)×Qz):Option (Int):=
 (bif Qc a.2.2.2.1 YK then((Qrp F (a.1,a.2.1,a.2.2.1,a.2.2.2.1,a.2.2.2.2.1,a.2.2.2.2.2.1,a.2.2.2.2.2.2.1,a.2.2.2.2.2.2.2.1,a.2.2.2.2.2.2.2.2.1,a.2.2.2.2.2.2.2.2.2.1,a.2.2.2.2.2.2.2.2.2.2.1,a.2.2.2.2.2.2.2.2.2.2.2.1,a.2.2.2.2.2.2.2.2.2.2.2.2.1,a.2.2.2.2.2.2.2.2.2.2.2.2.2)).bind fun v32=>some (v32))else(bif Qc a.2.2.2.1 YG then((Qoq F (a.1,a.2.1,a.2.2.1,a.2.2.2.1,a.2.2.2.2.1,a.2.2.2.2.2.1,a.2.2.2.2.2.2.1,a.2.2.2.2.2.2.2.1,a.2.2.2.2.2.2.2.2.1,a.2.2.2.2.2.2.2.2.2.1,a.2.2.2.2.2.2.2.2.2.2.1,a.2.2.2.2.2.2.2.2.2.2.2.1,a.2.2.2.2.2.2.2.2.2.2.2.2.1,a.2.2.2.2.2.2.2.2.2.2.2.2.2)).bind fun v33=>some (v33))else(bif Qc a.2.2.2.1 YH then((Qq0 F (a.1,a.2.1,a.2.2.1,a.2.2.2.1,a.2.2.2.2.1,a.2.2.2.2.2.1,a.2.2.2.2.2.2.1,a.2.2.2.2.2.2.2.1,a.2.2.2.2.2.2.2.2.1,a.2.2.2.2.2.2.2.2.2.1,a.2.2.2.2.2.2.2.2.2.2.1,a.2.2.2.2.2.2.2.2.2.2.2.1,a.2.2.2.2.2.2.2.2.2.2.2.2.1,a.2.2.2.2.2.2.2.2.2.2.2.2.2)).bind fun v34=>some (v34))else(bif Qc a.2.2.2.1 YE then((Qpo F (a.1,a.2.1,a.2.2.1,a.2.2.2.1,a.2.2.2.2.1,a.2.2.2.2.2.1,a.2.2.2.2.2.2.1,a.2.2.2.2.2.2.2.1,a.2.2.2.2.2.2.2.2.1,a.2.2.2.2.2.2.2.2.2.1,a.2.2.2.2.2.2.2.2.2.2.1,a.2.2.2.2.2.2.2.2.2.2.2.1,a.2.2.2.2.2.2.2.2.2.2.2.2.1,a.2.2.2.2.2.2.2.2.2.2.2.2.2)).bind fun v35=>some (v35))else(bif Qc a.2.2.2.1 YF then((Qp8 F (a.1,a.2.1,a.2.2.1,a.2.2.2.1,a.2.2.2.2.1,a.2.2.2.2.2.1,a.2.2.2.2.2.2.1,a.2.2.2.2.2.2.2.1,a.2.2.2.2.2.2.2.2.1,a.2.2.2.2.2.2.2.2.2.1,a.2.2.2.2.2.2.2.2.2.2.1,a.2.2.2.2.2.2.2.2.2.2.2.1,a.2.2.2.2.2.2.2.2.2.2.2.2.1,a.2.2.2.2.2.2.2.2.2.2.2.2.2)).bind fun v36=>some (v36))else(bif Qc a.2.2.2.1 YC then((Qq7 F (a.1,a.2.1,a.2.2.1,a.2.2.2.1,a.2.2.2.2.1,a.2.2.2.2.2.1,a.2.2.2.2.2.2.1,a.2.2.2.2.2.2.2.1,a.2.2.2.2.2.2.2.2.1,a.2.2.2.2.2.2.2.2.2.1,a.2.2.2.2.2.2.2.2.2.2.1,a.2.2.2.2.2.2.2.2.2.2.2.1,a.2.2.2.2.2.2.2.2.2.2.2.2.1,a.2.2.2.2.2.2.2.2.2.2.2.2.2)).bind fun v37=>some (v37))else(bif Qc a.2.2.2.1 YI then((Qpg F (a.1,a.2.1,a.2.2.1,a.2.2.2.1,a.2.2.2.2.1,a.2.2.2.2.2.1,a.2.2.2.2.2.2.1,a.2.2.2.2.2.2.2.1,a.2.2.2.2.2.2.2.2.1,a.2.2.2.2.2.2.2.2.2.1,a.2.2.2.2.2.2.2.2.2.2.1,a.2.2.2.2.2.2.2.2.2.2.2.1,a.2.2.2.2.2.2.2.2.2.2.2.2.1,a.2.2.2.2.2.2.2.2.2.2.2.2.2)).bind fun v38=>some (v38))else(gd (Qc a.2.2.2.1 YJ) ((Qq4 F (a.1,a.2.1,a.2.2.1,a.2.2.2.1,a.2.2.2.2.1,a.2.2.2.2.2.1,a.2.2.2.2.2.2.1,a.2.2.2.2.2.2.2.1,a.2.2.2.2.2.2.2.2.1,a.2.2.2.2.2.2.2.2.2.1,a.2.2.2.2.2.2.2.2.2.2.1,a.2.2.2.2.2.2.2.2.2.2.2.1,a.2.2.2.2.2.2.2.2.2.2.2.2.1,a.2.2.2.2.2.2.2.2.2.2.2.2.2)).bind fun v39=>some (v39)))))))))).bind fun v31=>some (v31)
def Qxs(F:Nat):PC:={ats:=X8,rts:=Zj,code:=Je F}
theorem Qks(F:Nat):Qg cx 135 (Qxs F):=qE (Ybw F) (.two .leaf (.two (.join [(.normal,⟨[.slot 6 (.val (.int .i64))],[]⟩)] ⟨(6::kD 15 9 []),[],[]⟩ (.within [(96,.leaf)])) .leaf)) f135 (by kernel_rfl) fun a=>by kernel_rfl
def Ye5(F:Nat):LK:=lC (Qe0 F) (lC (Yd F) (lC (Ym F) (lC (Qd3 F) lN)))
def Qw9(F:Nat)(a:(Zc)×(Qh)×ByteArray×Bool):Option ((Yu)×Int):=
 (Qcy F (a.1,a.2.2.1)).bind fun v13=>(c25 F (a.1,a.2.1.1,a.2.1.2.1,a.2.1.2.2.1,a.2.1.2.2.2.1,a.2.1.2.2.2.2)).bind fun v14=>(Qn F (!v13.2,(10:Int))).bind fun v15=>(Qn F (!decide (0<v13.1.2.2.2.2.2.2.2.2.2.2)==a.2.2.2,(13:Int))).bind fun v16=>(Q2 F (v14::v15::v16::Qa Int)).bind fun v17=>some ((v13.1,v17))
def Zd6(F:Nat):PC:={ats:=Zmo,rts:=[.agg kt4,.val (.int .i64)],code:=Qw9 F}
theorem Qym(F:Nat):Qg cx 137 (Zd6 F):=qE (Ye5 F) .leaf f137 (by kernel_rfl) fun a=>by kernel_rfl
def Zrb(F:Nat):LK:=lC (Qa6 F) lN
def Qvn(F:Nat)(a:(Qh)×(Yu)×List (Qi)×Bool):Option (List ByteArray):=
 (Q4 (U:=Unit×List (ByteArray×Int)×List ByteArray×Int×Int) (β:=Unit×List (ByteArray×Int)×List ByteArray) (fun v37=>bif decide (v37.2.2.2.2<(↑(a.2.2.1.length):Int))then(gd (decide (0<=v37.2.2.2.2)) (gd (decide (v37.2.2.2.2<(↑(a.2.2.1.length):Int))) (gd (decide (v37.2.2.2.2.toNat<a.2.2.1.length)) ((Qeu F (a.1,(a.2.2.1.getD (v37.2.2.2.2.toNat) Zg).1)).bind fun v38=>(bif decide (v37.2.2.2.1<a.2.1.2.2.2.2.2.1)then(some (decide (X5 Qc v38 v37.2.1 (0:Int)<a.2.1.2.2.2.2.2.2.1)))else(some (false))).bind fun v39=>(bif v39 then(some ((Ke Qc v38 (w64 (X5 Qc v38 v37.2.1 (0:Int)+(1:Int))) v37.2.1,w64 (v37.2.2.2.1+1))))else(some ((v37.2.1,v37.2.2.2.1)))).bind fun v40=>(bif v39==a.2.2.2 then(gd (decide (v37.2.2.1.length=v37.2.2.1.length)) (gd (decide (j (v37.2.2.1++(a.2.2.1.getD (v37.2.2.2.2.toNat) Zg).1::Qa ByteArray)*(16:Nat)<=(140737488355328:Nat))) (gd (decide (j (v37.2.2.1++(a.2.2.1.getD (v37.2.2.2.2.toNat) Zg).1::Qa ByteArray)<=9223372036854775807)) (gd (true&&(decide (j (v37.2.2.1++(a.2.2.1.getD (v37.2.2.2.2.toNat) Zg).1::Qa ByteArray)=j (v37.2.2.1++(a.2.2.1.getD (v37.2.2.2.2.toNat) Zg).1::Qa ByteArray))&&true&&true&&true)) (some (((),v37.2.2.1++(a.2.2.1.getD (v37.2.2.2.2.toNat) Zg).1::Qa ByteArray)))))))else(gd (true&&(decide (v37.2.2.1.length=v37.2.2.1.length)&&true&&true&&true)) (some (((),v37.2.2.1))))).bind fun v41=>(gd (true&&(decide (v41.2.length=v41.2.length)&&true&&true&&(true&&(true&&(true&&true))))) (some (((),v40.1,v41.2,v40.2,w64 (v37.2.2.2.2+1))))).bind fun v42=>some (R v42)))))else((gd (true&&(decide (v37.2.2.1.length=v37.2.2.1.length)&&true&&true&&(true&&true))) (some (((),v37.2.1,v37.2.2.1)))).bind fun v43=>some (J v43))) F (((),Qa (ByteArray×Int),Qa ByteArray,(0:Int),(0:Int)))).bind fun v36=>gd (decide ((0:Nat)+v36.2.2.length<=v36.2.2.length)) (some (C (v36.2.2.length) (I (0:Nat) v36.2.2)))
def Zka(F:Nat):PC:={ats:=[.agg Ze,.agg kt4,.val (.seq Zr),.val (.bool)],rts:=Qcj,code:=Qvn F}
theorem Qwc(F:Nat):Qg cx 138 (Zka F):=qE (Zrb F) (Q5 2 (.two (.two (.within [(196,.leaf)]) (.one (.within [(100000227,(Q5 3 (.one (.virtF 3 0 9 Z9 (.loop ⟨[.mix 3 25 1 [] [(0,.own 10)],.map 9 (.val (.str)) (.val (.int .i64)),.vec 10 9 Z9,.slot 5 (.val (.int .i64)),.slot 14 (.val (.int .i64))],[]⟩ [(.exit 0,⟨[.mix 3 25 1 [] [(0,.own 10)],.map 9 (.val (.str)) (.val (.int .i64)),.vec 10 9 Z9],[]⟩)] ⟨[46,14,18,19,20,21,9,34,37,38,39,40,5,36,35,45,44,43,42,41,10,33,32,31,30,29,28,27,26,25,24,23,22,8,17,16,15],[10,3,9],[10]⟩ F (Q5 2 (.two (.one (Q5 2 (.two (.join [(.normal,⟨[.slot 10 (.val (.bool))],[]⟩)] ⟨(10::kD 33 12 []),[],[]⟩ .leaf) (.two (.two .leaf (.join [(.normal,⟨[.map 9 (.val (.str)) (.val (.int .i64)),.slot 5 (.val (.int .i64))],[]⟩)] ⟨[37,38,39,40,5,36,35],[9],[]⟩ .leaf)) (.two (.within [(1000008,(.one (.two .leaf (.join [(.normal,⟨[.mix 3 25 1 [] [(0,.own 10)],.vec 10 9 Z9],[]⟩)] ⟨[25,24,23,22,21],[10,3],[10]⟩ .leaf))))]) .leaf))))) .leaf)))))))]))) .leaf)) f138 (by kernel_rfl) fun a=>by kernel_rfl
def Zm9(F:Nat):LK:=lC (Qwc F) (lC (Qw5 F) (lC (Qym F) lN))
def c52(F:Nat)(a:(Zc)×(Qh)×ByteArray):Option (List ByteArray×Int):=
 (Qw9 F (a.1,a.2.1,a.2.2,false)).bind fun v9=>bif !decide (v9.2=0)then(some ((Qa ByteArray,v9.2)))else((Qyg F (a.2.1,a.2.2)).bind fun v10=>(Qvn F (a.2.1,v9.1,v10,true)).bind fun v11=>some ((v11,(0:Int))))
def Qyr(F:Nat):PC:={ats:=Qzk,rts:=Qv5,code:=c52 F}
theorem Zcl(F:Nat):Qg cx 52 (Qyr F):=qE (Zm9 F) .leaf f52 (by kernel_rfl) fun a=>by kernel_rfl
def Yfs(F:Nat):LK:=lC (Qwc F) (lC (Qw5 F) (lC (Qym F) lN))
def c56(F:Nat)(a:(Zc)×(Qh)×ByteArray):Option (List ByteArray×Int):=
 (Qw9 F (a.1,a.2.1,a.2.2,false)).bind fun v9=>bif !decide (v9.2=0)then(some ((Qa ByteArray,v9.2)))else((Qyg F (a.2.1,a.2.2)).bind fun v10=>(Qvn F (a.2.1,v9.1,v10,false)).bind fun v11=>some ((v11,(0:Int))))
def Zd7(F:Nat):PC:={ats:=Qzk,rts:=Qv5,code:=c56 F}
theorem Yoa(F:Nat):Qg cx 56 (Zd7 F):=qE (Yfs F) .leaf f56 (by kernel_rfl) fun a=>by kernel_rfl
end
end Go.Proofs.Tryz

/- Functions of the program as functions of data. By program. -/
import Derived.Test.YtpkbmngnolhopaaGreatDoorXTeB1
set_option maxRecDepth 100000
set_option linter.all false
namespace Go.Proofs.Tryz
open Go Go.Sx
noncomputable section
def Zc6(F:Nat):LK:=lC (Yf F) (lC (K1 F) lN)
def Zh6(F:Nat):PC:=qT (Zc6 F) .leaf f158 Kw Zn
theorem Zy3(F:Nat):Qg cx 158 (Zh6 F):=Xk (by kernel_rfl)
def Qxm(F:Nat):LK:=lN
def Qs9(F:Nat)(a:List ByteArray):Option (List ByteArray):=
 bif decide (a.length=0)then((gd (decide (List.length (Qb ByteArray++a)*(16:Nat)≤(140737488355328:Nat))) (gd (decide (List.length (Qb ByteArray++a)≤9223372036854775807)) (gd (decide (List.length (Qb ByteArray++a)=List.length (Qb ByteArray++a))) (some (Qb ByteArray++a))))).bind fun(v4:List ByteArray)=>gd (Je (Qh.eqv Zq) (Qb ByteArray) v4) (some (Qb ByteArray)))else(gd (decide (List.length (Qb ByteArray++a)*(16:Nat)≤(140737488355328:Nat))) (gd (decide (List.length (Qb ByteArray++a)≤9223372036854775807)) (gd (decide (List.length (Qb ByteArray++a)=List.length (Qb ByteArray++a))) (some (Qb ByteArray++a)))))
def Qky(F:Nat):PF:={ats:=Qmd,ty:=9,row:=Zq,code:=Qs9 F}
theorem Zxl(F:Nat)(a:List ByteArray):codeF cx (Qxm F).x 1000 .leaf f150 (Qv f150) Qmd 9 Zq a=Qs9 F a:=by kernel_rfl
theorem Qhh(F:Nat):X1 cx 150 (Qky F):=X1.Zr Zs (Qxm F).ok (n:=1000) (an:=.leaf) (fn:=f150) (c:=Qv f150) (by kernel_rfl) (by kernel_rfl) (fun a y h=>(Zxl F a).trans h) (by kernel_rfl)
def Zyr(F:Nat):LK:=lS (PF.Q0 (Qhh F)) lN
def Qtx(F:Nat):PC:=qT (Zyr F) .leaf f160 Qmi Qmd
theorem Qyr(F:Nat):Qg cx 160 (Qtx F):=Xk (by kernel_rfl)
def Zgk(F:Nat):LK:=lC (Yl F) (lC (Xg F) (lC (Yf F) (lC (K1 F) lN)))
def Ze7(F:Nat):PC:=qT (Zgk F) .leaf f161 Kw Zn
theorem Zsm(F:Nat):Qg cx 161 (Ze7 F):=Xk (by kernel_rfl)
def Zbb(F:Nat):LK:=lN
def Qyt(F:Nat)(a:List (Zu)):Option (List (Zu)):=
 bif decide (a.length=0)then((gd (decide (List.length (Qb (Zu)++a)*(56:Nat)≤(140737488355328:Nat))) (gd (decide (List.length (Qb (Zu)++a)≤9223372036854775807)) (gd (decide (List.length (Qb (Zu)++a)=List.length (Qb (Zu)++a))) (some (Qb (Zu)++a))))).bind fun(v4:List (Zu))=>gd (Je (Qh.eqv kt3) (Qb (Zu)) v4) (some (Qb (Zu))))else(gd (decide (List.length (Qb (Zu)++a)*(56:Nat)≤(140737488355328:Nat))) (gd (decide (List.length (Qb (Zu)++a)≤9223372036854775807)) (gd (decide (List.length (Qb (Zu)++a)=List.length (Qb (Zu)++a))) (some (Qb (Zu)++a)))))
def Qju(F:Nat):PF:={ats:=Qqn,ty:=116,row:=kt3,code:=Qyt F}
theorem Zn8(F:Nat)(a:List (Zu)):codeF cx (Zbb F).x 1000 .leaf f199 (Qv f199) Qqn 116 kt3 a=Qyt F a:=by kernel_rfl
theorem Qem(F:Nat):X1 cx 199 (Qju F):=X1.Zr Zs (Zbb F).ok (n:=1000) (an:=.leaf) (fn:=f199) (c:=Qv f199) (by kernel_rfl) (by kernel_rfl) (fun a y h=>(Zn8 F a).trans h) (by kernel_rfl)
def Zyh(F:Nat):LK:=lS (PF.Q0 (Qem F)) lN
def Qv5(F:Nat):PC:=qT (Zyh F) .leaf f213 [.val (.seq kt3),.agg kt3] Qqn
theorem Qvb(F:Nat):Qg cx 213 (Qv5 F):=Xk (by kernel_rfl)
def Zcv(F:Nat):LK:=lC (Yf F) (lC (Xg F) lN)
def Znk(F:Nat):PC:=qT (Zcv F) .leaf f163 Kw Zn
theorem Zij(F:Nat):Qg cx 163 (Znk F):=Xk (by kernel_rfl)
def Zbd(F:Nat):LK:=lN
def Qwh(F:Nat)(a:List (Zt)):Option (List (Zt)):=
 bif decide (a.length=0)then((gd (decide (List.length (Qb (Zt)++a)*(32:Nat)≤(140737488355328:Nat))) (gd (decide (List.length (Qb (Zt)++a)≤9223372036854775807)) (gd (decide (List.length (Qb (Zt)++a)=List.length (Qb (Zt)++a))) (some (Qb (Zt)++a))))).bind fun(v4:List (Zt))=>gd (Je (Qh.eqv kt2) (Qb (Zt)) v4) (some (Qb (Zt))))else(gd (decide (List.length (Qb (Zt)++a)*(32:Nat)≤(140737488355328:Nat))) (gd (decide (List.length (Qb (Zt)++a)≤9223372036854775807)) (gd (decide (List.length (Qb (Zt)++a)=List.length (Qb (Zt)++a))) (some (Qb (Zt)++a)))))
def Qld(F:Nat):PF:={ats:=Qoz,ty:=124,row:=kt2,code:=Qwh F}
theorem Zqb(F:Nat)(a:List (Zt)):codeF cx (Zbd F).x 1000 .leaf f200 (Qv f200) Qoz 124 kt2 a=Qwh F a:=by kernel_rfl
theorem Qmj(F:Nat):X1 cx 200 (Qld F):=X1.Zr Zs (Zbd F).ok (n:=1000) (an:=.leaf) (fn:=f200) (c:=Qv f200) (by kernel_rfl) (by kernel_rfl) (fun a y h=>(Zqb F a).trans h) (by kernel_rfl)
def Ze8(F:Nat):LK:=lS (PF.Q0 (Qmj F)) lN
def Qyu(F:Nat):PC:=qT (Ze8 F) .leaf f214 [.val (.seq kt2),.agg kt2] Qoz
theorem Quu(F:Nat):Qg cx 214 (Qyu F):=Xk (by kernel_rfl)
def Zue(F:Nat):LK:=lN
def Zka(F:Nat):PC:=qT (Zue F) (Zg 2 (.two (.two .leaf (.one (.loop ⟨[.slot 5 (.val (.int .i64)),.slot 11 (.val (.int .i64))],[]⟩ [(.exit 0,⟨[.slot 5 (.val (.int .i64))],[]⟩)] ⟨[21,11,15,16,17,18,5,20,19,7,14,13,12],[],[]⟩ F (Zg 2 (.two (.one (Zg 2 (.join [(.normal,⟨[.slot 5 (.val (.int .i64))],[]⟩)] ⟨[5,20,19],[],[]⟩ .leaf))) .leaf))))) .leaf)) f215 Qed Zn
theorem Qug(F:Nat):Qg cx 215 (Zka F):=Xk (by kernel_rfl)
def Zp4(F:Nat):LK:=lC (Ut F) (lC (Yf F) (lC (Qug F) (lC (Yl F) (lC (K1 F) (lC (Xg F) lN)))))
def Zf2(F:Nat):PC:=qT (Zp4 F) (.two .leaf (.two (.two (.join [(.normal,⟨[.slot 18 (.val (.bool))],[]⟩)] ⟨(kD 18 12 []),[],[]⟩ .leaf) .leaf) .leaf)) f165 Kw Zn
theorem Zcy(F:Nat):Qg cx 165 (Zf2 F):=Xk (by kernel_rfl)
def Zv0(F:Nat):LK:=lC (Yl F) (lC (Zpj F) (lC (Yf F) (lC (Xg F) lN)))
def Zxm(F:Nat):PC:=qT (Zv0 F) (Zg 3 (.two (.join [(.normal,⟨[.slot 8 (.val (.int .i64))],[]⟩)] ⟨(8::kD 62 39 []),[],[]⟩ .leaf) .leaf)) f140 [.agg Ym,.agg Yx,.agg kt4,.val (.str)] Zn
theorem Qil(F:Nat):Qg cx 140 (Zxm F):=Xk (by kernel_rfl)
def Zu4(F:Nat):LK:=lN
def Qkh(F:Nat)(a:(ByteArray×Int×ByteArray)×ByteArray×Int×ByteArray):Option (Bool):=
 (bif !Qe a.1.1 a.2.1 then(bif !Qe a.1.1 {data:=List.toArray (110::111::110::101::Qb UInt8)}then(some (!Qe a.2.1 {data:=List.toArray (110::111::110::101::Qb UInt8)}))else(some (false)))else(some (false))).bind fun(v5:Bool)=>some (v5)
def Zlx(F:Nat):PC:={ats:=[.agg kt6,.agg kt6],rts:=Yz,code:=Qkh F}
theorem Ziq(F:Nat):Qg cx 240 (Zlx F):=qE (Zu4 F) (.two .leaf (.two (.join [(.normal,⟨[.slot 4 (.val (.bool))],[]⟩)] ⟨(4::kD 19 15 []),[],[]⟩ .leaf) .leaf)) f240 (by kernel_rfl) fun a=>by kernel_rfl
def Zdi(F:Nat):LK:=lN
def Qew(F:Nat)(a:ByteArray×Int×ByteArray):Option (Int):=
 tw (X:=Int) (Qw.eqv (Qf.val (Ty.int Go.IntKind.i64)::Qb Qf)) (bif Qe a.1 {data:=List.toArray (116::105::109::101::Qb UInt8)}then(some (Go.IntKind.wrap Go.IntKind.i64 ((0:Int)-a.2.1)))else(bif Qe a.1 {data:=List.toArray (108::101::110::103::116::104::Qb UInt8)}then(some a.2.1)else(bif Qe a.1 {data:=List.toArray (112::111::105::110::116::115::Qb UInt8)}then(some a.2.1)else(some ((-864000000:Int))))))
def Zlc(F:Nat):PC:={ats:=[.agg kt6],rts:=Zn,code:=Qew F}
theorem Zre(F:Nat):Qg cx 252 (Zlc F):=qE (Zdi F) (.two .leaf (.two (.within [(178,.leaf)]) .leaf)) f252 (by kernel_rfl) fun a=>by kernel_rfl
def Zvk(F:Nat):LK:=lC (Zre F) lN
def Qir(F:Nat)(a:(ByteArray×Int×ByteArray)×ByteArray×Int×ByteArray):Option (Int):=
 (Qew F a.1).bind fun(v7:Int)=>(Qew F a.2).bind fun(v8:Int)=>bif decide (v8<v7)then(some ((-1:Int)))else(bif decide (v7<v8)then(some ((1:Int)))else(some ((0:Int))))
def Ze0(F:Nat):PC:={ats:=[.agg kt6,.agg kt6],rts:=Zn,code:=Qir F}
theorem Zx6(F:Nat):Qg cx 241 (Ze0 F):=qE (Zvk F) .leaf f241 (by kernel_rfl) fun a=>by kernel_rfl
def Zh0(F:Nat):LK:=lC (Zx6 F) (lC (Qx7 F) (lC (Qsh F) (lC (Ziq F) (lC (Qef F) lN))))
def Qk1(F:Nat)(a:(ByteArray×Int×ByteArray)×ByteArray×Int×ByteArray):Option (Int×Int):=
 (c99 F a.1).bind fun(v15:Int)=>(c99 F a.2).bind fun(v16:Int)=>(Qkh F (a.1,a.2.1,a.2.2.1,a.2.2.2)).bind fun(v17:Bool)=>(Xc F (v17,(13:Int))).bind fun(v18:Int)=>(Jm F (v15::v16::v18::Qb Int)).bind fun(v19:Int)=>bif !decide (v19=0)then(some (((0:Int),v19)))else((Qir F (a.1,a.2.1,a.2.2.1,a.2.2.2)).bind fun(v20:Int)=>some ((v20,(0:Int))))
def Zb5(F:Nat):PC:={ats:=[.agg kt6,.agg kt6],rts:=Qlt,code:=Qk1 F}
theorem Uy(F:Nat):Qg cx 205 (Zb5 F):=qE (Zh0 F) .leaf f205 (by kernel_rfl) fun a=>by kernel_rfl
def Zp9(F:Nat):LK:=lC (Xg F) (lC (Uy F) (lC (Qug F) (lC (Yl F) (lC (Qpt F) (lC (Qil F) (lC (U0 F) (lC (Yf F) (lC (Qch F) lN))))))))
def Zho(F:Nat):PC:=qT (Zp9 F) (Zg 2 (.two (.two (.join [(.normal,⟨[.slot 27 (.val (.bool))],[]⟩)] ⟨(kD 27 9 []),[],[]⟩ .leaf) .leaf) (.two (.two (.join [(.normal,⟨[.slot 9 (.val (.int .i64))],[]⟩)] ⟨(9::kD 66 39 []),[],[]⟩ .leaf) .leaf) (.two .leaf (.two (.join [(.normal,⟨[.slot 6 (.val (.int .i64))],[]⟩)] ⟨(6::kD 96 19 []),[],[]⟩ .leaf) .leaf))))) f167 Kw Zn
theorem Zdw(F:Nat):Qg cx 167 (Zho F):=Xk (by kernel_rfl)
def Qzg(F:Nat):LK:=lN
def Zaa(F:Nat)(a:List (Qr)):Option (List (Qr)):=
 bif decide (a.length=0)then((gd (decide (List.length (Qb (Qr)++a)*(88:Nat)≤(140737488355328:Nat))) (gd (decide (List.length (Qb (Qr)++a)≤9223372036854775807)) (gd (decide (List.length (Qb (Qr)++a)=List.length (Qb (Qr)++a))) (some (Qb (Qr)++a))))).bind fun(v4:List (Qr))=>gd (Je (Qh.eqv Ze) (Qb (Qr)) v4) (some (Qb (Qr))))else(gd (decide (List.length (Qb (Qr)++a)*(88:Nat)≤(140737488355328:Nat))) (gd (decide (List.length (Qb (Qr)++a)≤9223372036854775807)) (gd (decide (List.length (Qb (Qr)++a)=List.length (Qb (Qr)++a))) (some (Qb (Qr)++a)))))
def Qiq(F:Nat):PF:={ats:=Qev,ty:=106,row:=Ze,code:=Zaa F}
theorem Zyf(F:Nat)(a:List (Qr)):codeF cx (Qzg F).x 1000 .leaf f201 (Qv f201) Qev 106 Ze a=Zaa F a:=by kernel_rfl
theorem Qha(F:Nat):X1 cx 201 (Qiq F):=X1.Zr Zs (Qzg F).ok (n:=1000) (an:=.leaf) (fn:=f201) (c:=Qv f201) (by kernel_rfl) (by kernel_rfl) (fun a y h=>(Zyf F a).trans h) (by kernel_rfl)
def Zjc(F:Nat):LK:=lS (PF.Q0 (Qha F)) lN
def Qv1(F:Nat):PC:=qT (Zjc F) .leaf f216 [.val (.seq Ze),.agg Ze] Qev
theorem Qus(F:Nat):Qg cx 216 (Qv1 F):=Xk (by kernel_rfl)
def Zl4(F:Nat):LK:=lC (Yl F) (lC (Yf F) (lC (U0 F) lN))
def Zza(F:Nat):PC:=qT (Zl4 F) .leaf f169 Kw Zn
theorem Ztl(F:Nat):Qg cx 169 (Zza F):=Xk (by kernel_rfl)
def Zgs(F:Nat):LK:=lN
def Ze1(F:Nat):PC:=qT (Zgs F) .leaf f217 [.val (.seq Ze),.val (.int .i64),.val (.int .i64)] Qev
theorem Zx5(F:Nat):Qg cx 217 (Ze1 F):=Xk (by kernel_rfl)
def Zrm(F:Nat):LK:=lC (Yl F) (lC (Yf F) (lC (U0 F) lN))
def Zrz(F:Nat):PC:=qT (Zrm F) .leaf f171 Kw Zn
theorem Zvo(F:Nat):Qg cx 171 (Zrz F):=Xk (by kernel_rfl)
def Zj3:Qi:=⟨[.slot 0 (.val (.int .i64)),.slot 1 (.val (.str)),.one 0 31 Ym,.one 1 35 Qrz,.one 2 24 Yx,.one 3 110 kt4],[(2,.stat (.ptr 0 5 0 0)),(3,.stat (.ptr 1 12 0 0)),(4,.stat (.ptr 2 5 0 0)),(5,.stat (.ptr 3 11 0 0))]⟩
def Zff:Qi:=⟨[.slot 0 (.val (.int .i64))],[]⟩
def Zrx(F:Nat):LK:=lC (Ut F) (lC (Yf F) (lC (Jf F) (lC (Qil F) (lC (Yl F) (lC (Xg F) lN)))))
def Zfq(F:Nat):PX:=qX (Zrx F) .leaf f218 (pxB 6 [.arg 2,.arg 3,.arg 4,.arg 5] Zj3 1 Zff [] [])
theorem Qxn(F:Nat):Zc cx 218 (Zfq F):=Uu (by kernel_rfl)
def Zui:Qi:=⟨[.slot 0 (.val (.seq Zq)),.one 0 31 Ym,.one 1 35 Qrz,.one 2 24 Yx,.one 3 110 kt4],[(1,.stat (.fn (.func 218) [] [.ptr 0 5 0 0,.ptr 1 12 0 0,.ptr 2 5 0 0,.ptr 3 11 0 0]))]⟩
def Ztp:Qi:=⟨[.slot 0 (.val (.int .i64))],[]⟩
def Zwi(F:Nat):LK:=lC (Ut F) (lC (Yf F) (lC (Jf F) (lC (Qil F) (lC (Yl F) (lC (Xg F) (lX (Qxn F) lN))))))
def Zpx(F:Nat):PX:=qX (Zwi F) (.two .leaf (.two (.two .leaf (.one (.loop ⟨[.slot 10 (.val (.int .i64))],[]⟩ [(.ret,⟨[.slot 4 (.val (.int .i64))],[]⟩),(.exit 0,⟨[],[]⟩)] ⟨[22,10,15,16,17,18,7,21,4,20,19,6,5,14,13,12,11],[],[]⟩ F .leaf))) .leaf)) f100 (pxB 2 [.cap (.arg 1) 0,.cap (.arg 1) 1,.cap (.arg 1) 2,.cap (.arg 1) 3] Zui 1 Ztp [] [])
theorem Znq(F:Nat):Zc cx 100 (Zpx F):=Uu (by kernel_rfl)
def Znx(F:Nat):LK:=lC (K1 F) (lC (Ut F) (lC (Yf F) (lC (Jf F) (lC (Qil F) (lC (Yl F) (lC (Xg F) (lC (Qch F) (lX (Qm3 F) (lX (Zbi F) (lX (Qxn F) (lX (Znq F) lN)))))))))))
def Zyz(F:Nat):PC:=qT (Znx F) (Zg 2 (.two (.two (.join [(.normal,⟨[.slot 9 (.val (.int .i64))],[]⟩)] ⟨(9::kD 45 29 []),[],[]⟩ .leaf) .leaf) .leaf)) f173 Kw Zn
theorem Zfa(F:Nat):Qg cx 173 (Zyz F):=Xk (by kernel_rfl)
def Qvc(F:Nat):LK:=lN
def Qt4(F:Nat)(a:List (Z3)):Option (List (Z3)):=
 bif decide (a.length=0)then((gd (decide (List.length (Qb (Z3)++a)*(56:Nat)≤(140737488355328:Nat))) (gd (decide (List.length (Qb (Z3)++a)≤9223372036854775807)) (gd (decide (List.length (Qb (Z3)++a)=List.length (Qb (Z3)++a))) (some (Qb (Z3)++a))))).bind fun(v4:List (Z3))=>gd (Je (Qh.eqv kt9) (Qb (Z3)) v4) (some (Qb (Z3))))else(gd (decide (List.length (Qb (Z3)++a)*(56:Nat)≤(140737488355328:Nat))) (gd (decide (List.length (Qb (Z3)++a)≤9223372036854775807)) (gd (decide (List.length (Qb (Z3)++a)=List.length (Qb (Z3)++a))) (some (Qb (Z3)++a)))))
def Qi1(F:Nat):PF:={ats:=Qkw,ty:=147,row:=kt9,code:=Qt4 F}
theorem Zxh(F:Nat)(a:List (Z3)):codeF cx (Qvc F).x 1000 .leaf f202 (Qv f202) Qkw 147 kt9 a=Qt4 F a:=by kernel_rfl
theorem Qf9(F:Nat):X1 cx 202 (Qi1 F):=X1.Zr Zs (Qvc F).ok (n:=1000) (an:=.leaf) (fn:=f202) (c:=Qv f202) (by kernel_rfl) (by kernel_rfl) (fun a y h=>(Zxh F a).trans h) (by kernel_rfl)
def Zsb(F:Nat):LK:=lS (PF.Q0 (Qf9 F)) lN
def Qm0(F:Nat):PC:=qT (Zsb F) .leaf f219 [.val (.seq kt9),.agg kt9] Qkw
theorem Qpk(F:Nat):Qg cx 219 (Qm0 F):=Xk (by kernel_rfl)
def Zi9(F:Nat):LK:=lC (Uy F) lN
def Qkp(F:Nat)(a:(Qr)×Qr):Option (Int):=
 (Qk1 F ((a.1.2.2.1,a.1.2.2.2.1,a.1.2.2.2.2.1),a.2.2.2.1,a.2.2.2.2.1,a.2.2.2.2.2.1)).bind fun(v5:Int×Int)=>bif !decide (v5.1=0)then(some v5.1)else(some (w64 (a.1.2.2.2.2.2.1-a.2.2.2.2.2.2.1)))
def Zbu(F:Nat):PC:={ats:=[.agg Ze,.agg Ze],rts:=Zn,code:=Qkp F}
theorem Qbg(F:Nat):Qg cx 204 (Zbu F):=qE (Zi9 F) .leaf f204 (by kernel_rfl) fun a=>by kernel_rfl
def Zia:Qi:=⟨[.slot 1 (.val (.int .i64)),.slot 2 (.val (.int .i64)),.vec 0 106 Ze],[(0,.own 0),(3,.stat (.pv (.lit (.func (.func 204) #[] #[]))))]⟩
def Zxf:Qi:=⟨[.vec 0 106 Ze],[]⟩
def Zeo(F:Nat):LK:=lC (Uy F) (lC (Qbg F) lN)
def Ug(F:Nat)(a:Int×Int×List (Qr)):Option (List (Qr)):=
 (Qu (σ:=List (Qr)×Int) (β:=List (Qr)) (fun(v31:List (Qr)×Int)=>bif decide (v31.2<a.2.1)then((Qu (σ:=List (Qr)×Int) (β:=List (Qr)) (fun(v33:List (Qr)×Int)=>(bif decide (a.1<v33.2)then(gd (decide (0≤v33.2)) (gd (decide (v33.2<(↑(a.2.2.length):Int))) (gd (decide ((0:Nat)+v33.2.toNat<v33.1.length)) (gd (decide (0≤w64 (v33.2-1))) (gd (decide (w64 (v33.2-1)<(↑(a.2.2.length):Int))) (gd (decide ((0:Nat)+Int.toNat (w64 (v33.2-1))<v33.1.length)) ((Qkp F ((v33.1.getD ((0:Nat)+v33.2.toNat) Q5),(v33.1.getD ((0:Nat)+Int.toNat (w64 (v33.2-1))) Q5).1,(v33.1.getD ((0:Nat)+Int.toNat (w64 (v33.2-1))) Q5).2.1,(v33.1.getD ((0:Nat)+Int.toNat (w64 (v33.2-1))) Q5).2.2.1,(v33.1.getD ((0:Nat)+Int.toNat (w64 (v33.2-1))) Q5).2.2.2.1,(v33.1.getD ((0:Nat)+Int.toNat (w64 (v33.2-1))) Q5).2.2.2.2.1,(v33.1.getD ((0:Nat)+Int.toNat (w64 (v33.2-1))) Q5).2.2.2.2.2.1,(v33.1.getD ((0:Nat)+Int.toNat (w64 (v33.2-1))) Q5).2.2.2.2.2.2)).bind fun(v35:Int)=>some (decide (v35<0)))))))))else(some (false))).bind fun(v34:Bool)=>bif v34 then(gd (decide (0≤w64 (v33.2-1))) (gd (decide (w64 (v33.2-1)<(↑(a.2.2.length):Int))) (gd (decide ((0:Nat)+Int.toNat (w64 (v33.2-1))<v33.1.length)) (gd (decide (0≤v33.2)) (gd (decide (v33.2<(↑(a.2.2.length):Int))) (gd (decide ((0:Nat)+v33.2.toNat<v33.1.length)) (gd (decide (0≤v33.2)) (gd (decide (v33.2<(↑(a.2.2.length):Int))) (gd (decide ((0:Nat)+v33.2.toNat<v33.1.length)) (gd (decide (0≤w64 (v33.2-1))) (gd (decide (w64 (v33.2-1)<(↑(a.2.2.length):Int))) (gd (decide ((0:Nat)+Int.toNat (w64 (v33.2-1))<List.length (List.set v33.1 ((0:Nat)+v33.2.toNat) (v33.1.getD ((0:Nat)+Int.toNat (w64 (v33.2-1))) Q5)))) (some (Sum.inl (List.set (List.set v33.1 ((0:Nat)+v33.2.toNat) (v33.1.getD ((0:Nat)+Int.toNat (w64 (v33.2-1))) Q5)) ((0:Nat)+Int.toNat (w64 (v33.2-1))) (v33.1.getD ((0:Nat)+v33.2.toNat) Q5),w64 (v33.2-1))))))))))))))))else(some (Sum.inr v33.1))) F (v31)).bind fun(v32:List (Qr))=>some (Sum.inl (v32,w64 (v31.2+1))))else(some (Sum.inr v31.1))) F ((a.2.2,w64 (a.1+1)))).bind fun(v30:List (Qr))=>some (v30)
def Zp3(F:Nat):PX:={np:=4,locs:=[.arg 0],τ:=Zia,nr:=0,ω:=Zxf,ids:=[0],mv:=[],code:=Ug F}
theorem Qqi(F:Nat):Zc cx 250 (Zp3 F):=qXE (Zeo F) (.two .leaf (.one (.loop ⟨[.vec 0 106 Ze,.slot 8 (.val (.int .i64))],[]⟩ [(.exit 0,⟨[.vec 0 106 Ze],[]⟩)] ⟨(17::9::kU 37 16 (kD 36 19 (8::16::15::14::13::12::[]))),[0],[]⟩ F (.two .leaf (.two (.one (.two .leaf (.one (.loop ⟨[.vec 0 106 Ze,.slot 9 (.val (.int .i64))],[]⟩ [(.exit 2,⟨[.vec 0 106 Ze],[]⟩)] ⟨(kU 37 16 (9::kD 36 19 [])),[0],[]⟩ F (.two (.two (.join [(.normal,⟨[.slot 34 (.val (.bool))],[]⟩)] ⟨(kD 34 17 []),[],[]⟩ .leaf) .leaf) .leaf))))) .leaf))))) f250 (by kernel_rfl) fun a=>by kernel_rfl
def Zot:Qi:=⟨[.slot 1 (.val (.int .i64)),.slot 2 (.val (.int .i64)),.slot 3 (.val (.int .i64)),.vec 0 106 Ze],[(0,.own 0),(4,.stat (.pv (.lit (.func (.func 204) #[] #[]))))]⟩
def Zud:Qi:=⟨[.vec 0 106 Ze],[]⟩
def Zx1(F:Nat):LK:=lC (Uy F) (lC (Qbg F) lN)
def Qzd(F:Nat):PX:=qX (Zx1 F) (.two .leaf (.one (.loop ⟨[.vec 0 106 Ze,.slot 10 (.val (.int .i64))],[]⟩ [(.exit 0,⟨[.vec 0 106 Ze],[]⟩)] ⟨(kU 16 22 (10::15::14::13::12::11::[])),[0],[]⟩ F .leaf))) f267 (pxB 5 [.arg 0] Zot 0 Zud [0] [])
theorem Qgl(F:Nat):Zc cx 267 (Qzd F):=Uu (by kernel_rfl)
def Zhz:Qi:=⟨[.slot 1 (.val (.int .i64)),.slot 2 (.val (.int .i64)),.slot 3 (.val (.int .i64)),.vec 0 106 Ze],[(0,.own 0),(4,.stat (.pv (.lit (.func (.func 204) #[] #[]))))]⟩
def Ztt:Qi:=⟨[.vec 0 106 Ze],[]⟩
def Zwl(F:Nat):LK:=lC (Uy F) (lC (Qbg F) (lX (Qgl F) lN))
def Zaz(F:Nat):PX:=qX (Zwl F) (Zg 2 (.two (.one (.loop ⟨[.vec 0 106 Ze,.slot 10 (.val (.int .i64)),.slot 11 (.val (.int .i64))],[]⟩ [(.exit 0,⟨[.vec 0 106 Ze,.slot 10 (.val (.int .i64))],[]⟩)] ⟨(21::22::23::kU 35 12 (11::49::48::47::32::33::34::10::kD 31 8 (20::19::18::[]))),[0],[]⟩ F (.two .leaf (.one (.two .leaf (.join [(.normal,⟨[.vec 0 106 Ze,.slot 10 (.val (.int .i64)),.slot 11 (.val (.int .i64))],[]⟩)] ⟨(kU 35 12 (11::49::48::47::32::33::34::10::kD 31 8 [])),[0],[]⟩ .leaf)))))) .leaf)) f256 (pxB 5 [.arg 0] Zhz 0 Ztt [0] [])
theorem Qh7(F:Nat):Zc cx 256 (Zaz F):=Uu (by kernel_rfl)
def Qa5:Qi:=⟨[.slot 1 (.val (.int .i64)),.slot 2 (.val (.int .i64)),.slot 3 (.val (.int .i64)),.vec 0 106 Ze],[(0,.own 0),(4,.stat (.pv (.lit (.func (.func 204) #[] #[]))))]⟩
def Qas:Qi:=⟨[.vec 0 106 Ze],[]⟩
def Qmy(g:Qa5.El→Option (Qas.El))(F:Nat):Lx:={ext:=[(251,(PX.sm {np:=5,locs:=[.arg 0],τ:=Qa5,nr:=0,ω:=Qas,ids:=[0],mv:=[],code:=g})),(205,(Zb5 F).sm),(204,(Zbu F).sm),(267,(Qzd F).sm),(256,(Zaz F).sm)],anns:=[],still:=[]}
def Qpa:PX:=pxB 5 [.arg 0] Qa5 0 Qas [0] []
def Qyb(F:Nat):Q6:=(.two (.two .leaf (.two (Zg 2 (.two (.one (.loop ⟨[.slot 10 (.val (.int .i64)),.slot 11 (.val (.int .i64))],[]⟩ [(.exit 0,⟨[.slot 10 (.val (.int .i64))],[]⟩)] ⟨(kU 34 6 (12::51::52::10::11::53::kD 50 11 (33::32::31::[]))),[],[]⟩ F (.two .leaf (.one (Zg 2 (.join [(.normal,⟨[.slot 10 (.val (.int .i64)),.slot 11 (.val (.int .i64))],[]⟩)] ⟨[53,11,10,52,51],[],[]⟩ .leaf)))))) (.two (.two .leaf (.one (.loop ⟨[.vec 0 106 Ze,.slot 13 (.val (.int .i64))],[]⟩ [(.exit 2,⟨[.vec 0 106 Ze],[]⟩)] ⟨(kU 61 16 (13::kD 60 6 [])),[0],[]⟩ F .leaf))) .leaf))) .leaf)) (.two (.two .leaf (.two (Zg 2 (.two (.one (.loop ⟨[.slot 14 (.val (.int .i64)),.slot 15 (.val (.int .i64))],[]⟩ [(.exit 4,⟨[.slot 14 (.val (.int .i64))],[]⟩)] ⟨(kU 86 6 (16::104::105::14::15::106::kD 103 12 (85::84::83::[]))),[],[]⟩ F (.two .leaf (.one (Zg 2 (.join [(.normal,⟨[.slot 14 (.val (.int .i64)),.slot 15 (.val (.int .i64))],[]⟩)] ⟨[106,15,14,105,104],[],[]⟩ .leaf)))))) (.two (.two .leaf (.one (.loop ⟨[.vec 0 106 Ze,.slot 17 (.val (.int .i64))],[]⟩ [(.exit 6,⟨[.vec 0 106 Ze],[]⟩)] ⟨(kU 113 16 (17::112::111::110::109::108::[])),[0],[]⟩ F .leaf))) .leaf))) .leaf)) (Zg 3 (.two (.two .leaf (.join [(.normal,⟨[.slot 20 (.val (.int .i64)),.slot 21 (.val (.int .i64))],[]⟩)] ⟨[145,146,144,21,20,143,142,141],[],[]⟩ .leaf)) (.two .leaf (.two (.one (.loop ⟨[.slot 20 (.val (.int .i64)),.slot 21 (.val (.int .i64))],[]⟩ [(.exit 8,⟨[.slot 20 (.val (.int .i64))],[]⟩)] ⟨(kU 152 6 (23::172::173::20::21::174::kD 171 14 (151::150::149::[]))),[],[]⟩ F (.two .leaf (.one (Zg 2 (.join [(.normal,⟨[.slot 20 (.val (.int .i64)),.slot 21 (.val (.int .i64))],[]⟩)] ⟨[174,21,20,173,172],[],[]⟩ .leaf)))))) (.two .leaf (.two (.two (.join [(.normal,⟨[.slot 185 (.val (.bool))],[]⟩)] ⟨(kD 185 8 []),[],[]⟩ .leaf) (.join [(.normal,⟨[.vec 0 106 Ze],[]⟩)] ⟨(kD 191 6 []),[0],[]⟩ .leaf)) (.two (.two (.join [(.normal,⟨[.slot 199 (.val (.bool))],[]⟩)] ⟨(kD 199 8 []),[],[]⟩ .leaf) (.join [(.normal,⟨[.vec 0 106 Ze],[]⟩)] ⟨(kD 205 6 []),[0],[]⟩ .leaf)) (.two (.join [(.normal,⟨[.slot 213 (.val (.bool))],[]⟩)] ⟨(kD 213 8 []),[],[]⟩ .leaf) (.join [(.normal,⟨[.vec 0 106 Ze],[]⟩)] ⟨(kD 219 6 []),[0],[]⟩ .leaf)))))))))))
def Zd9(g:Qa5.El→Option Qas.El)(F:Nat):=Qlo cx (Qmy g F) 1000 (Qyb F) f251 (Qv f251) Qpa
def Qll(F n:Nat):Qa5.El→Option Qas.El:=Nat.rec (motive:=fun _=>Qa5.El→Option Qas.El) (fun _=>none) (fun _ ih=>Zd9 ih F) n
def Za4(F:Nat):Qa5.El→Option Qas.El:=Qll F F
def Qpp(F n:Nat):PX:={Qpa with code:=Qll F n}
def Zgh(F:Nat):PX:=Qpp F F
theorem Zj4(F n:Nat)(h:Zc cx 251 (Qpp F n)):(Qmy (Qll F n) F).Ok cx:=Lx.Q3 (PX.Q0 h) (kC (Uy F) (kC (Qbg F) (kX (Qgl F) (kX (Qh7 F) (Lx.W7)))))
theorem Za5(F:Nat):∀n,Zc cx 251 (Qpp F n)
 |0=>⟨⟨f251,by kernel_rfl⟩,fun a y h=>absurd (show(none:Option _)=some y from h) (by simp)⟩
 |n+1=>Zc.cast (q:=pxT cx (Qmy (Qll F n) F) (Qyb F) f251 (Qv f251) Qpa) (by kernel_rfl) (Qsn Zs (Zj4 F n (Za5 F n)) (by kernel_rfl) (by kernel_rfl) (by kernel_rfl) (by kernel_rfl))
theorem Qo1(F:Nat):Zc cx 251 (Zgh F):=Za5 F F
def Zr2:Qi:=⟨[.slot 1 (.val (.int .i64)),.vec 0 106 Ze],[(0,.own 0),(2,.stat (.pv (.lit (.func (.func 204) #[] #[]))))]⟩
def Zgd:Qi:=⟨[.vec 0 106 Ze],[]⟩
def Zp0(F:Nat):LK:=lC (Uy F) (lC (Qbg F) (lX (Qqi F) (lX (Qgl F) (lX (Qh7 F) (lX (Qo1 F) lN)))))
def Qj2(F:Nat)(a:Int×List (Qr)):Option (List (Qr)):=
 (Qu (σ:=List (Qr)×Int×Int) (β:=List (Qr)×Int) (fun(v66:List (Qr)×Int×Int)=>bif decide (v66.2.2≤a.1)then((gd (decide (a.2.length=v66.1.length)&&(true&&true)&&(true&&(true&&true))) (some ((v66.2.1,v66.2.2,v66.1)))).bind fun(v67:Int×Int×List (Qr))=>(Ug F v67).bind fun(v68:List (Qr))=>some (Sum.inl (v68,v66.2.2,w64 (v66.2.2+20))))else(some (Sum.inr (v66.1,v66.2.1)))) F ((a.2,(0:Int),(20:Int)))).bind fun(v54:List (Qr)×Int)=>(gd (decide (a.2.length=v54.1.length)&&(true&&true)&&(true&&(true&&true))) (some ((v54.2,a.1,v54.1)))).bind fun(v55:Int×Int×List (Qr))=>(Ug F v55).bind fun(v56:List (Qr))=>(Qu (σ:=List (Qr)×Int) (β:=List (Qr)) (fun(v58:List (Qr)×Int)=>bif decide (v58.2<a.1)then((Qu (σ:=List (Qr)×Int×Int) (β:=List (Qr)×Int) (fun(v63:List (Qr)×Int×Int)=>bif decide (v63.2.2≤a.1)then((gd (decide (a.2.length=v63.1.length)&&(true&&true)&&(true&&(true&&(true&&true)))) (some ((v63.2.1,w64 (v63.2.1+v58.2),v63.2.2,v63.1)))).bind fun(v64:Int×Int×Int×List (Qr))=>(Za4 F v64).bind fun(v65:List (Qr))=>some (Sum.inl (v65,v63.2.2,w64 (v63.2.2+w64 ((2:Int)*v58.2)))))else(some (Sum.inr (v63.1,v63.2.1)))) F ((v58.1,(0:Int),w64 ((2:Int)*v58.2)))).bind fun(v59:List (Qr)×Int)=>(bif decide (w64 (v59.2+v58.2)<a.1)then((gd (decide (a.2.length=v59.1.length)&&(true&&true)&&(true&&(true&&(true&&true)))) (some ((v59.2,w64 (v59.2+v58.2),a.1,v59.1)))).bind fun(v61:Int×Int×Int×List (Qr))=>(Za4 F v61).bind fun(v62:List (Qr))=>some (v62))else(some v59.1)).bind fun(v60:List (Qr))=>some (Sum.inl (v60,w64 (v58.2*(2:Int)))))else(some (Sum.inr v58.1))) F ((v56,(20:Int)))).bind fun(v57:List (Qr))=>some (v57)
def Zfr(F:Nat):PX:={np:=3,locs:=[.arg 0],τ:=Zr2,nr:=0,ω:=Zgd,ids:=[0],mv:=[],code:=Qj2 F}
theorem Qws(F:Nat):Zc cx 239 (Zfr F):=qXE (Zp0 F) (Zg 2 (.two (.one (.loop ⟨[.vec 0 106 Ze,.slot 7 (.val (.int .i64)),.slot 8 (.val (.int .i64))],[]⟩ [(.exit 0,⟨[.vec 0 106 Ze,.slot 7 (.val (.int .i64))],[]⟩)] ⟨[14,15,16,17,18,20,21,22,8,7,19,13,12,11],[0],[]⟩ F .leaf)) (.two .leaf (.one (.loop ⟨[.vec 0 106 Ze,.slot 6 (.val (.int .i64))],[]⟩ [(.exit 2,⟨[.vec 0 106 Ze],[]⟩)] ⟨[31,32,7,8,49,50,51,9,55,56,57,58,59,60,54,53,52,6,62,61,36,37,38,39,40,41,42,43,45,46,47,48,44,35,34,33,30,29,28],[0],[]⟩ F (.two .leaf (.one (.two .leaf (.two (.one (.loop ⟨[.vec 0 106 Ze,.slot 7 (.val (.int .i64)),.slot 8 (.val (.int .i64))],[]⟩ [(.exit 4,⟨[.vec 0 106 Ze,.slot 7 (.val (.int .i64))],[]⟩)] ⟨(kU 36 8 (45::46::47::48::8::7::44::35::34::33::[])),[0],[]⟩ F .leaf)) (.two (Zg 2 (.join [(.normal,⟨[.vec 0 106 Ze],[]⟩)] ⟨(kD 60 6 []),[0],[]⟩ .leaf)) .leaf)))))))))) f239 (by kernel_rfl) fun a=>by kernel_rfl
def Zs6:Qi:=⟨[.vec 0 106 Ze],[(0,.own 0),(1,.stat (.pv (.lit (.func (.func 204) #[] #[]))))]⟩
def Ziz:Qi:=⟨[.vec 0 106 Ze],[]⟩
def Zki(F:Nat):LK:=lC (Uy F) (lC (Qbg F) (lX (Qqi F) (lX (Qgl F) (lX (Qh7 F) (lX (Qo1 F) (lX (Qws F) lN))))))
def Qh1(F:Nat)(a:List (Qr)):Option (List (Qr)):=
 (gd (decide (a.length=a.length)&&(true&&true)&&(true&&true)) (some (((↑(a.length):Int),a)))).bind fun(v7:Int×List (Qr))=>(Qj2 F v7).bind fun(v8:List (Qr))=>some (v8)
def Zol(F:Nat):PX:={np:=2,locs:=[.arg 0],τ:=Zs6,nr:=0,ω:=Ziz,ids:=[0],mv:=[],code:=Qh1 F}
theorem Zny(F:Nat):Zc cx 203 (Zol F):=qXE (Zki F) .leaf f203 (by kernel_rfl) fun a=>by kernel_rfl
def Zv5(F:Nat):LK:=lC (Qbg F) (lX (Qqi F) (lX (Qgl F) (lX (Qh7 F) (lX (Qo1 F) (lX (Qws F) (lX (Zny F) lN))))))
def Qbi(F:Nat)(a:(Qz)×ByteArray):Option (List (Qr)):=
 (Qu (σ:=List (Qr)×Int) (β:=List (Qr)) (fun(v18:List (Qr)×Int)=>bif decide (v18.2<(↑(a.1.2.2.2.1.length):Int))then(gd (decide (0≤v18.2)) (gd (decide (v18.2<(↑(a.1.2.2.2.1.length):Int))) (gd (decide (v18.2.toNat<a.1.2.2.2.1.length)) ((bif Qe (a.1.2.2.2.1.getD (v18.2.toNat) Q5).2.1 a.2 then(gd (decide (v18.1.length=v18.1.length)) (gd (decide (List.length (v18.1++(a.1.2.2.2.1.getD (v18.2.toNat) Q5)::Qb (Qr))*(88:Nat)≤(140737488355328:Nat))) (gd (decide (List.length (v18.1++(a.1.2.2.2.1.getD (v18.2.toNat) Q5)::Qb (Qr))≤9223372036854775807)) (gd (decide (List.length (v18.1++(a.1.2.2.2.1.getD (v18.2.toNat) Q5)::Qb (Qr))=List.length (v18.1++(a.1.2.2.2.1.getD (v18.2.toNat) Q5)::Qb (Qr)))&&true&&true) (some (v18.1++(a.1.2.2.2.1.getD (v18.2.toNat) Q5)::Qb (Qr)))))))else(gd (decide (v18.1.length=v18.1.length)&&true&&true) (some v18.1))).bind fun(v19:List (Qr))=>(gd (decide (v19.length=v19.length)&&true&&(true&&true)) (some ((v19,w64 (v18.2+1))))).bind fun(v20:List (Qr)×Int)=>some (Sum.inl v20)))))else((gd (decide (v18.1.length=v18.1.length)&&true&&true) (some v18.1)).bind fun(v21:List (Qr))=>some (Sum.inr v21))) F ((Qb (Qr),(0:Int)))).bind fun(v15:List (Qr))=>(gd (decide (v15.length=v15.length)&&(true&&true)&&true) (some (v15))).bind fun(v16:List (Qr))=>(Qh1 F v16).bind fun(v17:List (Qr))=>gd (decide ((0:Nat)+v15.length≤v17.length)) (some (List.take (v15.length) (List.drop (0:Nat) v17)))
def Zau(F:Nat):PC:={ats:=Qed,rts:=Qev,code:=Qbi F}
theorem Qi9(F:Nat):Qg cx 139 (Zau F):=qE (Zv5 F) (Zg 2 (.two (.two .leaf (.one (.virt 5 106 Ze (.loop ⟨[.vec 1 106 Ze,.slot 11 (.val (.int .i64))],[(5,.own 1)]⟩ [(.exit 0,⟨[.vec 1 106 Ze],[(5,.own 1)]⟩)] ⟨[23,11,15,16,17,18,5,22,21,20,19,7,14,13,12],[1],[1]⟩ F (Zg 2 (.two (.one (Zg 2 (.join [(.normal,⟨[.vec 1 106 Ze],[(5,.own 1)]⟩)] ⟨[5,22,21,20,19],[1],[1]⟩ .leaf))) .leaf)))))) .leaf)) f139 (by kernel_rfl) fun a=>by kernel_rfl
def Zg3(F:Nat):LK:=lC (Qkn F) (lS (PF.Q0 (Qf9 F)) (lC (Qpk F) (lS (PF.Q0 (Qhh F)) (lC (Zfa F) (lC (Zvo F) (lS (PF.Q0 (Qha F)) (lC (Zx5 F) (lC (U0 F) (lC (Ztl F) (lC (Qus F) (lC (Zdw F) (lC (Xg F) (lS (PF.Q0 (Qem F)) (lC (Zcy F) (lC (Quu F) (lC (Zij F) (lC (Qvb F) (lC (Zsm F) (lC (Qyr F) (lC (Zy3 F) lN))))))))))))))))))))
def Qoi(F:Nat):PC:=qT (Zg3 F) (.two .leaf (.two (.join [(.normal,⟨[.slot 6 (.val (.int .i64))],[]⟩)] ⟨(6::kD 15 9 []),[],[]⟩ (.within [(96,.leaf)])) .leaf)) f135 Kw Zn
theorem Qyh(F:Nat):Qg cx 135 (Qoi F):=Xk (by kernel_rfl)
def Zjm(F:Nat):LK:=lC (Qcm F) (lC (Yf F) (lC (Yl F) (lC (Qch F) lN)))
def Qcn(F:Nat)(a:(Zd)×(Qz)×ByteArray×Bool):Option ((Z6)×Int):=
 (Qdl F (a.1,a.2.2.1)).bind fun(v13:(Z6)×Bool)=>(c25 F (a.1,a.2.1.1,a.2.1.2.1,a.2.1.2.2.1,a.2.1.2.2.2.1,a.2.1.2.2.2.2)).bind fun(v14:Int)=>(Q1 F (!v13.2,(10:Int))).bind fun(v15:Int)=>(Q1 F (!decide (0<v13.1.2.2.2.2.2.2.2.2.2.2)==a.2.2.2,(13:Int))).bind fun(v16:Int)=>(Zm F (v14::v15::v16::Qb Int)).bind fun(v17:Int)=>some ((v13.1,v17))
def Qsm(F:Nat):PC:={ats:=Zo5,rts:=[.agg kt4,.val (.int .i64)],code:=Qcn F}
theorem Qh6(F:Nat):Qg cx 137 (Qsm F):=qE (Zjm F) .leaf f137 (by kernel_rfl) fun a=>by kernel_rfl
def Zpd(F:Nat):LK:=lC (Ut F) lN
def Qfo(F:Nat)(a:(Qz)×(Z6)×List (Qr)×Bool):Option (List ByteArray):=
 (Qu (σ:=Unit×List (ByteArray×Int)×List ByteArray×Int×Int) (β:=Unit×List (ByteArray×Int)×List ByteArray) (fun(v37:Unit×List (ByteArray×Int)×List ByteArray×Int×Int)=>bif decide (v37.2.2.2.2<(↑(a.2.2.1.length):Int))then(gd (decide (0≤v37.2.2.2.2)) (gd (decide (v37.2.2.2.2<(↑(a.2.2.1.length):Int))) (gd (decide (v37.2.2.2.2.toNat<a.2.2.1.length)) ((Qg2 F (a.1,(a.2.2.1.getD (v37.2.2.2.2.toNat) Q5).1)).bind fun(v38:ByteArray)=>(bif decide (v37.2.2.2.1<a.2.1.2.2.2.2.2.1)then(some (decide (Zz Qe v38 v37.2.1 (0:Int)<a.2.1.2.2.2.2.2.2.1)))else(some (false))).bind fun(v39:Bool)=>(bif v39 then(some ((Yy Qe v38 (w64 (Zz Qe v38 v37.2.1 (0:Int)+(1:Int))) v37.2.1,w64 (v37.2.2.2.1+1))))else(some ((v37.2.1,v37.2.2.2.1)))).bind fun(v40:List (ByteArray×Int)×Int)=>(bif v39==a.2.2.2 then(gd (decide (v37.2.2.1.length=v37.2.2.1.length)) (gd (decide (List.length (v37.2.2.1++(a.2.2.1.getD (v37.2.2.2.2.toNat) Q5).1::Qb ByteArray)*(16:Nat)≤(140737488355328:Nat))) (gd (decide (List.length (v37.2.2.1++(a.2.2.1.getD (v37.2.2.2.2.toNat) Q5).1::Qb ByteArray)≤9223372036854775807)) (gd (true&&(decide (List.length (v37.2.2.1++(a.2.2.1.getD (v37.2.2.2.2.toNat) Q5).1::Qb ByteArray)=List.length (v37.2.2.1++(a.2.2.1.getD (v37.2.2.2.2.toNat) Q5).1::Qb ByteArray))&&true&&true&&true)) (some (((),v37.2.2.1++(a.2.2.1.getD (v37.2.2.2.2.toNat) Q5).1::Qb ByteArray)))))))else(gd (true&&(decide (v37.2.2.1.length=v37.2.2.1.length)&&true&&true&&true)) (some (((),v37.2.2.1))))).bind fun(v41:Unit×List ByteArray)=>(gd (true&&(decide (v41.2.length=v41.2.length)&&true&&true&&(true&&(true&&(true&&true))))) (some (((),v40.1,v41.2,v40.2,w64 (v37.2.2.2.2+1))))).bind fun(v42:Unit×List (ByteArray×Int)×List ByteArray×Int×Int)=>some (Sum.inl v42)))))else((gd (true&&(decide (v37.2.2.1.length=v37.2.2.1.length)&&true&&true&&(true&&true))) (some (((),v37.2.1,v37.2.2.1)))).bind fun(v43:Unit×List (ByteArray×Int)×List ByteArray)=>some (Sum.inr v43))) F (((),Qb (ByteArray×Int),Qb ByteArray,(0:Int),(0:Int)))).bind fun(v36:Unit×List (ByteArray×Int)×List ByteArray)=>gd (decide ((0:Nat)+v36.2.2.length≤v36.2.2.length)) (some (List.take (v36.2.2.length) (List.drop (0:Nat) v36.2.2)))
def Qvf(F:Nat):PC:={ats:=[.agg Ym,.agg kt4,.val (.seq Ze),.val (.bool)],rts:=Qmd,code:=Qfo F}
theorem Qnx(F:Nat):Qg cx 138 (Qvf F):=qE (Zpd F) (Zg 2 (.two (.two (.within [(196,.leaf)]) (.one (.within [(100000227,(Zg 3 (.one (.virtF 3 0 9 Zq (.loop ⟨[.mix 3 25 1 [] [(0,.own 10)],.map 9 (.val (.str)) (.val (.int .i64)),.vec 10 9 Zq,.slot 5 (.val (.int .i64)),.slot 14 (.val (.int .i64))],[]⟩ [(.exit 0,⟨[.mix 3 25 1 [] [(0,.own 10)],.map 9 (.val (.str)) (.val (.int .i64)),.vec 10 9 Zq],[]⟩)] ⟨[46,14,18,19,20,21,9,34,37,38,39,40,5,36,35,45,44,43,42,41,10,33,32,31,30,29,28,27,26,25,24,23,22,8,17,16,15],[10,3,9],[10]⟩ F (Zg 2 (.two (.one (Zg 2 (.two (.join [(.normal,⟨[.slot 10 (.val (.bool))],[]⟩)] ⟨(10::kD 33 12 []),[],[]⟩ .leaf) (.two (.two .leaf (.join [(.normal,⟨[.map 9 (.val (.str)) (.val (.int .i64)),.slot 5 (.val (.int .i64))],[]⟩)] ⟨[37,38,39,40,5,36,35],[9],[]⟩ .leaf)) (.two (.within [(1000008,(.one (.two .leaf (.join [(.normal,⟨[.mix 3 25 1 [] [(0,.own 10)],.vec 10 9 Zq],[]⟩)] ⟨[25,24,23,22,21],[10,3],[10]⟩ .leaf))))]) .leaf))))) .leaf)))))))]))) .leaf)) f138 (by kernel_rfl) fun a=>by kernel_rfl
def Zo1(F:Nat):LK:=lC (Qnx F) (lC (Qi9 F) (lC (Qh6 F) lN))
def c52(F:Nat)(a:(Zd)×(Qz)×ByteArray):Option (List ByteArray×Int):=
 (Qcn F (a.1,a.2.1,a.2.2,false)).bind fun(v9:(Z6)×Int)=>bif !decide (v9.2=0)then(some ((Qb ByteArray,v9.2)))else((Qbi F (a.2.1,a.2.2)).bind fun(v10:List (Qr))=>(Qfo F (a.2.1,v9.1,v10,true)).bind fun(v11:List ByteArray)=>some ((v11,(0:Int))))
def Qo2(F:Nat):PC:={ats:=Qen,rts:=Qrs,code:=c52 F}
theorem Qmv(F:Nat):Qg cx 52 (Qo2 F):=qE (Zo1 F) .leaf f52 (by kernel_rfl) fun a=>by kernel_rfl
def Zkt(F:Nat):LK:=lC (Qi9 F) (lC (Qh6 F) lN)
def c55(F:Nat)(a:(Zd)×(Qz)×ByteArray):Option (List (Qr)×Int):=
 (Qcn F (a.1,a.2.1,a.2.2,false)).bind fun(v7:(Z6)×Int)=>bif !decide (v7.2=0)then(some ((Qb (Qr),v7.2)))else((Qbi F (a.2.1,a.2.2)).bind fun(v8:List (Qr))=>some ((v8,(0:Int))))
def Zr7(F:Nat):PC:={ats:=Qen,rts:=[.val (.seq Ze),.val (.int .i64)],code:=c55 F}
theorem Zen(F:Nat):Qg cx 55 (Zr7 F):=qE (Zkt F) .leaf f55 (by kernel_rfl) fun a=>by kernel_rfl
def Zuq(F:Nat):LK:=lC (Qnx F) (lC (Qi9 F) (lC (Qh6 F) lN))
def c56(F:Nat)(a:(Zd)×(Qz)×ByteArray):Option (List ByteArray×Int):=
 (Qcn F (a.1,a.2.1,a.2.2,false)).bind fun(v9:(Z6)×Int)=>bif !decide (v9.2=0)then(some ((Qb ByteArray,v9.2)))else((Qbi F (a.2.1,a.2.2)).bind fun(v10:List (Qr))=>(Qfo F (a.2.1,v9.1,v10,false)).bind fun(v11:List ByteArray)=>some ((v11,(0:Int))))
def Qzq(F:Nat):PC:={ats:=Qen,rts:=Qrs,code:=c56 F}
theorem Qzk(F:Nat):Qg cx 56 (Qzq F):=qE (Zuq F) .leaf f56 (by kernel_rfl) fun a=>by kernel_rfl
end
end Go.Proofs.Tryz

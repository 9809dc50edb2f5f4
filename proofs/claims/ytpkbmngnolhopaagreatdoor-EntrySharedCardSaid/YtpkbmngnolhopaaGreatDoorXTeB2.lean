/- Functions of the program as functions of data. By program. -/
import Derived.Test.YtpkbmngnolhopaaGreatDoorXTeB1
set_option maxRecDepth 100000
set_option linter.all false
namespace Go.Proofs.Tryz
open Go Go.Sx
noncomputable section
def Zs0(F:Nat):LK:=lC (Ya F) (lC (Kv F) lN)
def Zjg(F:Nat):PC:=qT (Zs0 F) .leaf f158 K4 Zq
theorem Zhh(F:Nat):Qg cx 158 (Zjg F):=Xl (by kernel_rfl)
def Qxq(F:Nat):LK:=lN
def Qs4(F:Nat)(a:List ByteArray):Option (List ByteArray):=
 bif decide (a.length=0)then((gd (decide (List.length (Qb ByteArray++a)*(16:Nat)≤(140737488355328:Nat))) (gd (decide (List.length (Qb ByteArray++a)≤9223372036854775807)) (gd (decide (List.length (Qb ByteArray++a)=List.length (Qb ByteArray++a))) (some (Qb ByteArray++a))))).bind fun(v4:List ByteArray)=>gd (X8 (Qh.eqv Zr) (Qb ByteArray) v4) (some (Qb ByteArray)))else(gd (decide (List.length (Qb ByteArray++a)*(16:Nat)≤(140737488355328:Nat))) (gd (decide (List.length (Qb ByteArray++a)≤9223372036854775807)) (gd (decide (List.length (Qb ByteArray++a)=List.length (Qb ByteArray++a))) (some (Qb ByteArray++a)))))
def Qlr(F:Nat):PF:={ats:=Ux,ty:=9,row:=Zr,code:=Qs4 F}
theorem Zr3(F:Nat)(a:List ByteArray):codeF cx (Qxq F).x 1000 .leaf f150 (Qv f150) Ux 9 Zr a=Qs4 F a:=by kernel_rfl
theorem Qf6(F:Nat):Xv cx 150 (Qlr F):=Xv.Zs Zt (Qxq F).ok (n:=1000) (an:=.leaf) (fn:=f150) (c:=Qv f150) (by kernel_rfl) (by kernel_rfl) (fun a y h=>(Zr3 F a).trans h) (by kernel_rfl)
def Zpd(F:Nat):LK:=lS (PF.Q0 (Qf6 F)) lN
def Qy3(F:Nat):PC:=qT (Zpd F) .leaf f160 Qkt Ux
theorem Qxg(F:Nat):Qg cx 160 (Qy3 F):=Xl (by kernel_rfl)
def Zmz(F:Nat):LK:=lC (Yi F) (lC (Xe F) (lC (Ya F) (lC (Kv F) lN)))
def Zqe(F:Nat):PC:=qT (Zmz F) .leaf f161 K4 Zq
theorem Zx9(F:Nat):Qg cx 161 (Zqe F):=Xl (by kernel_rfl)
def Za3(F:Nat):LK:=lN
def Qul(F:Nat)(a:List (Zx)):Option (List (Zx)):=
 bif decide (a.length=0)then((gd (decide (List.length (Qb (Zx)++a)*(56:Nat)≤(140737488355328:Nat))) (gd (decide (List.length (Qb (Zx)++a)≤9223372036854775807)) (gd (decide (List.length (Qb (Zx)++a)=List.length (Qb (Zx)++a))) (some (Qb (Zx)++a))))).bind fun(v4:List (Zx))=>gd (X8 (Qh.eqv kt3) (Qb (Zx)) v4) (some (Qb (Zx))))else(gd (decide (List.length (Qb (Zx)++a)*(56:Nat)≤(140737488355328:Nat))) (gd (decide (List.length (Qb (Zx)++a)≤9223372036854775807)) (gd (decide (List.length (Qb (Zx)++a)=List.length (Qb (Zx)++a))) (some (Qb (Zx)++a)))))
def Qj0(F:Nat):PF:={ats:=Qqo,ty:=116,row:=kt3,code:=Qul F}
theorem Zrn(F:Nat)(a:List (Zx)):codeF cx (Za3 F).x 1000 .leaf f199 (Qv f199) Qqo 116 kt3 a=Qul F a:=by kernel_rfl
theorem Qe5(F:Nat):Xv cx 199 (Qj0 F):=Xv.Zs Zt (Za3 F).ok (n:=1000) (an:=.leaf) (fn:=f199) (c:=Qv f199) (by kernel_rfl) (by kernel_rfl) (fun a y h=>(Zrn F a).trans h) (by kernel_rfl)
def Zre(F:Nat):LK:=lS (PF.Q0 (Qe5 F)) lN
def Qwh(F:Nat):PC:=qT (Zre F) .leaf f213 [.val (.seq kt3),.agg kt3] Qqo
theorem Qu4(F:Nat):Qg cx 213 (Qwh F):=Xl (by kernel_rfl)
def Zhr(F:Nat):LK:=lC (Ya F) (lC (Xe F) lN)
def Zr7(F:Nat):PC:=qT (Zhr F) .leaf f163 K4 Zq
theorem Zqs(F:Nat):Qg cx 163 (Zr7 F):=Xl (by kernel_rfl)
def Quj(F:Nat):LK:=lN
def Zcd(F:Nat)(a:List (Zw)):Option (List (Zw)):=
 bif decide (a.length=0)then((gd (decide (List.length (Qb (Zw)++a)*(32:Nat)≤(140737488355328:Nat))) (gd (decide (List.length (Qb (Zw)++a)≤9223372036854775807)) (gd (decide (List.length (Qb (Zw)++a)=List.length (Qb (Zw)++a))) (some (Qb (Zw)++a))))).bind fun(v4:List (Zw))=>gd (X8 (Qh.eqv kt2) (Qb (Zw)) v4) (some (Qb (Zw))))else(gd (decide (List.length (Qb (Zw)++a)*(32:Nat)≤(140737488355328:Nat))) (gd (decide (List.length (Qb (Zw)++a)≤9223372036854775807)) (gd (decide (List.length (Qb (Zw)++a)=List.length (Qb (Zw)++a))) (some (Qb (Zw)++a)))))
def Qjm(F:Nat):PF:={ats:=Qnv,ty:=124,row:=kt2,code:=Zcd F}
theorem Zjf(F:Nat)(a:List (Zw)):codeF cx (Quj F).x 1000 .leaf f200 (Qv f200) Qnv 124 kt2 a=Zcd F a:=by kernel_rfl
theorem Qi9(F:Nat):Xv cx 200 (Qjm F):=Xv.Zs Zt (Quj F).ok (n:=1000) (an:=.leaf) (fn:=f200) (c:=Qv f200) (by kernel_rfl) (by kernel_rfl) (fun a y h=>(Zjf F a).trans h) (by kernel_rfl)
def Zrg(F:Nat):LK:=lS (PF.Q0 (Qi9 F)) lN
def Qzm(F:Nat):PC:=qT (Zrg F) .leaf f214 [.val (.seq kt2),.agg kt2] Qnv
theorem Qyb(F:Nat):Qg cx 214 (Qzm F):=Xl (by kernel_rfl)
def Zk0(F:Nat):LK:=lN
def Zns(F:Nat):PC:=qT (Zk0 F) (Q8 2 (.two (.two .leaf (.one (.loop ⟨[.slot 5 (.val (.int .i64)),.slot 11 (.val (.int .i64))],[]⟩ [(.exit 0,⟨[.slot 5 (.val (.int .i64))],[]⟩)] ⟨[21,11,15,16,17,18,5,20,19,7,14,13,12],[],[]⟩ F (Q8 2 (.two (.one (Q8 2 (.join [(.normal,⟨[.slot 5 (.val (.int .i64))],[]⟩)] ⟨[5,20,19],[],[]⟩ .leaf))) .leaf))))) .leaf)) f215 Qeh Zq
theorem Qy2(F:Nat):Qg cx 215 (Zns F):=Xl (by kernel_rfl)
def Zxl(F:Nat):LK:=lC (Qas F) (lC (Ya F) (lC (Qy2 F) (lC (Yi F) (lC (Kv F) (lC (Xe F) lN)))))
def Zsu(F:Nat):PC:=qT (Zxl F) (.two .leaf (.two (.two (.join [(.normal,⟨[.slot 18 (.val (.bool))],[]⟩)] ⟨(kD 18 12 []),[],[]⟩ .leaf) .leaf) .leaf)) f165 K4 Zq
theorem Zt7(F:Nat):Qg cx 165 (Zsu F):=Xl (by kernel_rfl)
def Zmw(F:Nat):LK:=lC (Yi F) (lC (Zr4 F) (lC (Ya F) (lC (Xe F) lN)))
def Zhy(F:Nat):PC:=qT (Zmw F) (Q8 3 (.two (.join [(.normal,⟨[.slot 8 (.val (.int .i64))],[]⟩)] ⟨(8::kD 62 39 []),[],[]⟩ .leaf) .leaf)) f140 [.agg Yj,.agg Yv,.agg kt5,.val (.str)] Zq
theorem Qlj(F:Nat):Qg cx 140 (Zhy F):=Xl (by kernel_rfl)
def Zja(F:Nat):LK:=lN
def Qji(F:Nat)(a:(ByteArray×Int×ByteArray)×ByteArray×Int×ByteArray):Option (Bool):=
 (bif !Qf a.1.1 a.2.1 then(bif !Qf a.1.1 {data:=List.toArray (110::111::110::101::Qb UInt8)}then(some (!Qf a.2.1 {data:=List.toArray (110::111::110::101::Qb UInt8)}))else(some (false)))else(some (false))).bind fun(v5:Bool)=>some (v5)
def Zei(F:Nat):PC:={ats:=[.agg kt7,.agg kt7],rts:=Yz,code:=Qji F}
theorem Zh0(F:Nat):Qg cx 240 (Zei F):=qE (Zja F) (.two .leaf (.two (.join [(.normal,⟨[.slot 4 (.val (.bool))],[]⟩)] ⟨(4::kD 19 15 []),[],[]⟩ .leaf) .leaf)) f240 (by kernel_rfl) fun a=>by kernel_rfl
def Zrl(F:Nat):LK:=lN
def Qg9(F:Nat)(a:ByteArray×Int×ByteArray):Option (Int):=
 tw (X:=Int) (Qx.eqv (Qe.val (Ty.int Go.IntKind.i64)::Qb Qe)) (bif Qf a.1 {data:=List.toArray (116::105::109::101::Qb UInt8)}then(some (Go.IntKind.wrap Go.IntKind.i64 ((0:Int)-a.2.1)))else(bif Qf a.1 {data:=List.toArray (108::101::110::103::116::104::Qb UInt8)}then(some a.2.1)else(bif Qf a.1 {data:=List.toArray (112::111::105::110::116::115::Qb UInt8)}then(some a.2.1)else(some ((-864000000:Int))))))
def Zu9(F:Nat):PC:={ats:=[.agg kt7],rts:=Zq,code:=Qg9 F}
theorem Zix(F:Nat):Qg cx 252 (Zu9 F):=qE (Zrl F) (.two .leaf (.two (.within [(178,.leaf)]) .leaf)) f252 (by kernel_rfl) fun a=>by kernel_rfl
def Yad(F:Nat):LK:=lC (Zix F) lN
def Qjn(F:Nat)(a:(ByteArray×Int×ByteArray)×ByteArray×Int×ByteArray):Option (Int):=
 (Qg9 F a.1).bind fun(v7:Int)=>(Qg9 F a.2).bind fun(v8:Int)=>bif decide (v8<v7)then(some ((-1:Int)))else(bif decide (v7<v8)then(some ((1:Int)))else(some ((0:Int))))
def Zs4(F:Nat):PC:={ats:=[.agg kt7,.agg kt7],rts:=Zq,code:=Qjn F}
theorem Ztd(F:Nat):Qg cx 241 (Zs4 F):=qE (Yad F) .leaf f241 (by kernel_rfl) fun a=>by kernel_rfl
def Zc8(F:Nat):LK:=lC (Ztd F) (lC (Qta F) (lC (Za9 F) (lC (Zh0 F) (lC (Qee F) lN))))
def Qlv(F:Nat)(a:(ByteArray×Int×ByteArray)×ByteArray×Int×ByteArray):Option (Int×Int):=
 (c99 F a.1).bind fun(v15:Int)=>(c99 F a.2).bind fun(v16:Int)=>(Qji F (a.1,a.2.1,a.2.2.1,a.2.2.2)).bind fun(v17:Bool)=>(Xb F (v17,(13:Int))).bind fun(v18:Int)=>(Jh F (v15::v16::v18::Qb Int)).bind fun(v19:Int)=>bif !decide (v19=0)then(some (((0:Int),v19)))else((Qjn F (a.1,a.2.1,a.2.2.1,a.2.2.2)).bind fun(v20:Int)=>some ((v20,(0:Int))))
def Qw5(F:Nat):PC:={ats:=[.agg kt7,.agg kt7],rts:=Qh5,code:=Qlv F}
theorem Qak(F:Nat):Qg cx 205 (Qw5 F):=qE (Zc8 F) .leaf f205 (by kernel_rfl) fun a=>by kernel_rfl
def Zx7(F:Nat):LK:=lC (Xe F) (lC (Qak F) (lC (Qy2 F) (lC (Yi F) (lC (Qrh F) (lC (Qlj F) (lC (U9 F) (lC (Ya F) (lC (Qdl F) lN))))))))
def Zrp(F:Nat):PC:=qT (Zx7 F) (Q8 2 (.two (.two (.join [(.normal,⟨[.slot 27 (.val (.bool))],[]⟩)] ⟨(kD 27 9 []),[],[]⟩ .leaf) .leaf) (.two (.two (.join [(.normal,⟨[.slot 9 (.val (.int .i64))],[]⟩)] ⟨(9::kD 66 39 []),[],[]⟩ .leaf) .leaf) (.two .leaf (.two (.join [(.normal,⟨[.slot 6 (.val (.int .i64))],[]⟩)] ⟨(6::kD 96 19 []),[],[]⟩ .leaf) .leaf))))) f167 K4 Zq
theorem Zfe(F:Nat):Qg cx 167 (Zrp F):=Xl (by kernel_rfl)
def Quk(F:Nat):LK:=lN
def Zaq(F:Nat)(a:List (Qr)):Option (List (Qr)):=
 bif decide (a.length=0)then((gd (decide (List.length (Qb (Qr)++a)*(88:Nat)≤(140737488355328:Nat))) (gd (decide (List.length (Qb (Qr)++a)≤9223372036854775807)) (gd (decide (List.length (Qb (Qr)++a)=List.length (Qb (Qr)++a))) (some (Qb (Qr)++a))))).bind fun(v4:List (Qr))=>gd (X8 (Qh.eqv Ze) (Qb (Qr)) v4) (some (Qb (Qr))))else(gd (decide (List.length (Qb (Qr)++a)*(88:Nat)≤(140737488355328:Nat))) (gd (decide (List.length (Qb (Qr)++a)≤9223372036854775807)) (gd (decide (List.length (Qb (Qr)++a)=List.length (Qb (Qr)++a))) (some (Qb (Qr)++a)))))
def Qii(F:Nat):PF:={ats:=Qgw,ty:=106,row:=Ze,code:=Zaq F}
theorem Zjc(F:Nat)(a:List (Qr)):codeF cx (Quk F).x 1000 .leaf f201 (Qv f201) Qgw 106 Ze a=Zaq F a:=by kernel_rfl
theorem Qg8(F:Nat):Xv cx 201 (Qii F):=Xv.Zs Zt (Quk F).ok (n:=1000) (an:=.leaf) (fn:=f201) (c:=Qv f201) (by kernel_rfl) (by kernel_rfl) (fun a y h=>(Zjc F a).trans h) (by kernel_rfl)
def Zft(F:Nat):LK:=lS (PF.Q0 (Qg8 F)) lN
def Qu5(F:Nat):PC:=qT (Zft F) .leaf f216 [.val (.seq Ze),.agg Ze] Qgw
theorem Qxa(F:Nat):Qg cx 216 (Qu5 F):=Xl (by kernel_rfl)
def Zkg(F:Nat):LK:=lC (Yi F) (lC (Ya F) (lC (U9 F) lN))
def Zq4(F:Nat):PC:=qT (Zkg F) .leaf f169 K4 Zq
theorem Zg5(F:Nat):Qg cx 169 (Zq4 F):=Xl (by kernel_rfl)
def Zlx(F:Nat):LK:=lN
def Zko(F:Nat):PC:=qT (Zlx F) .leaf f217 [.val (.seq Ze),.val (.int .i64),.val (.int .i64)] Qgw
theorem Zwl(F:Nat):Qg cx 217 (Zko F):=Xl (by kernel_rfl)
def Zhk(F:Nat):LK:=lC (Yi F) (lC (Ya F) (lC (U9 F) lN))
def Zma(F:Nat):PC:=qT (Zhk F) .leaf f171 K4 Zq
theorem Zed(F:Nat):Qg cx 171 (Zma F):=Xl (by kernel_rfl)
def Zkk:Qi:=⟨[.slot 0 (.val (.int .i64)),.slot 1 (.val (.str)),.one 0 31 Yj,.one 1 35 Qr4,.one 2 24 Yv,.one 3 110 kt5],[(2,.stat (.ptr 0 5 0 0)),(3,.stat (.ptr 1 12 0 0)),(4,.stat (.ptr 2 5 0 0)),(5,.stat (.ptr 3 11 0 0))]⟩
def Zuc:Qi:=⟨[.slot 0 (.val (.int .i64))],[]⟩
def Zdg(F:Nat):LK:=lC (Qas F) (lC (Ya F) (lC (Jc F) (lC (Qlj F) (lC (Yi F) (lC (Xe F) lN)))))
def Zgw(F:Nat):PX:=qX (Zdg F) .leaf f218 (pxB 6 [.arg 2,.arg 3,.arg 4,.arg 5] Zkk 1 Zuc [] [])
theorem Qyt(F:Nat):Zf cx 218 (Zgw F):=Qap (by kernel_rfl)
def Zw9:Qi:=⟨[.slot 0 (.val (.seq Zr)),.one 0 31 Yj,.one 1 35 Qr4,.one 2 24 Yv,.one 3 110 kt5],[(1,.stat (.fn (.func 218) [] [.ptr 0 5 0 0,.ptr 1 12 0 0,.ptr 2 5 0 0,.ptr 3 11 0 0]))]⟩
def Zkq:Qi:=⟨[.slot 0 (.val (.int .i64))],[]⟩
def Zj9(F:Nat):LK:=lC (Qas F) (lC (Ya F) (lC (Jc F) (lC (Qlj F) (lC (Yi F) (lC (Xe F) (lX (Qyt F) lN))))))
def Zfp(F:Nat):PX:=qX (Zj9 F) (.two .leaf (.two (.two .leaf (.one (.loop ⟨[.slot 10 (.val (.int .i64))],[]⟩ [(.ret,⟨[.slot 4 (.val (.int .i64))],[]⟩),(.exit 0,⟨[],[]⟩)] ⟨[22,10,15,16,17,18,7,21,4,20,19,6,5,14,13,12,11],[],[]⟩ F .leaf))) .leaf)) f100 (pxB 2 [.cap (.arg 1) 0,.cap (.arg 1) 1,.cap (.arg 1) 2,.cap (.arg 1) 3] Zw9 1 Zkq [] [])
theorem Zc2(F:Nat):Zf cx 100 (Zfp F):=Qap (by kernel_rfl)
def Zyn(F:Nat):LK:=lC (Kv F) (lC (Qas F) (lC (Ya F) (lC (Jc F) (lC (Qlj F) (lC (Yi F) (lC (Xe F) (lC (Qdl F) (lX (Qrj F) (lX (Qtn F) (lX (Qyt F) (lX (Zc2 F) lN)))))))))))
def Zpl(F:Nat):PC:=qT (Zyn F) (Q8 2 (.two (.two (.join [(.normal,⟨[.slot 9 (.val (.int .i64))],[]⟩)] ⟨(9::kD 45 29 []),[],[]⟩ .leaf) .leaf) .leaf)) f173 K4 Zq
theorem Zmv(F:Nat):Qg cx 173 (Zpl F):=Xl (by kernel_rfl)
def Qx5(F:Nat):LK:=lN
def Qxn(F:Nat)(a:List (Zh)):Option (List (Zh)):=
 bif decide (a.length=0)then((gd (decide (List.length (Qb (Zh)++a)*(56:Nat)≤(140737488355328:Nat))) (gd (decide (List.length (Qb (Zh)++a)≤9223372036854775807)) (gd (decide (List.length (Qb (Zh)++a)=List.length (Qb (Zh)++a))) (some (Qb (Zh)++a))))).bind fun(v4:List (Zh))=>gd (X8 (Qh.eqv kt9) (Qb (Zh)) v4) (some (Qb (Zh))))else(gd (decide (List.length (Qb (Zh)++a)*(56:Nat)≤(140737488355328:Nat))) (gd (decide (List.length (Qb (Zh)++a)≤9223372036854775807)) (gd (decide (List.length (Qb (Zh)++a)=List.length (Qb (Zh)++a))) (some (Qb (Zh)++a)))))
def Qka(F:Nat):PF:={ats:=Qj3,ty:=147,row:=kt9,code:=Qxn F}
theorem Zj7(F:Nat)(a:List (Zh)):codeF cx (Qx5 F).x 1000 .leaf f202 (Qv f202) Qj3 147 kt9 a=Qxn F a:=by kernel_rfl
theorem Qf3(F:Nat):Xv cx 202 (Qka F):=Xv.Zs Zt (Qx5 F).ok (n:=1000) (an:=.leaf) (fn:=f202) (c:=Qv f202) (by kernel_rfl) (by kernel_rfl) (fun a y h=>(Zj7 F a).trans h) (by kernel_rfl)
def Zje(F:Nat):LK:=lS (PF.Q0 (Qf3 F)) lN
def Qny(F:Nat):PC:=qT (Zje F) .leaf f219 [.val (.seq kt9),.agg kt9] Qj3
theorem Qrt(F:Nat):Qg cx 219 (Qny F):=Xl (by kernel_rfl)
def Zhs(F:Nat):LK:=lC (Qak F) lN
def Qj6(F:Nat)(a:(Qr)×Qr):Option (Int):=
 (Qlv F ((a.1.2.2.1,a.1.2.2.2.1,a.1.2.2.2.2.1),a.2.2.2.1,a.2.2.2.2.1,a.2.2.2.2.2.1)).bind fun(v5:Int×Int)=>bif !decide (v5.1=0)then(some v5.1)else(some (w64 (a.1.2.2.2.2.2.1-a.2.2.2.2.2.2.1)))
def Za6(F:Nat):PC:={ats:=[.agg Ze,.agg Ze],rts:=Zq,code:=Qj6 F}
theorem Qa9(F:Nat):Qg cx 204 (Za6 F):=qE (Zhs F) .leaf f204 (by kernel_rfl) fun a=>by kernel_rfl
def Zz4:Qi:=⟨[.slot 1 (.val (.int .i64)),.slot 2 (.val (.int .i64)),.vec 0 106 Ze],[(0,.own 0),(3,.stat (.pv (.lit (.func (.func 204) #[] #[]))))]⟩
def Zou:Qi:=⟨[.vec 0 106 Ze],[]⟩
def Zj2(F:Nat):LK:=lC (Qak F) (lC (Qa9 F) lN)
def K2(F:Nat)(a:Int×Int×List (Qr)):Option (List (Qr)):=
 (Qq (σ:=List (Qr)×Int) (β:=List (Qr)) (fun(v31:List (Qr)×Int)=>bif decide (v31.2<a.2.1)then((Qq (σ:=List (Qr)×Int) (β:=List (Qr)) (fun(v33:List (Qr)×Int)=>(bif decide (a.1<v33.2)then(gd (decide (0≤v33.2)) (gd (decide (v33.2<(↑(a.2.2.length):Int))) (gd (decide ((0:Nat)+v33.2.toNat<v33.1.length)) (gd (decide (0≤w64 (v33.2-1))) (gd (decide (w64 (v33.2-1)<(↑(a.2.2.length):Int))) (gd (decide ((0:Nat)+Int.toNat (w64 (v33.2-1))<v33.1.length)) ((Qj6 F ((v33.1.getD ((0:Nat)+v33.2.toNat) Zm),(v33.1.getD ((0:Nat)+Int.toNat (w64 (v33.2-1))) Zm).1,(v33.1.getD ((0:Nat)+Int.toNat (w64 (v33.2-1))) Zm).2.1,(v33.1.getD ((0:Nat)+Int.toNat (w64 (v33.2-1))) Zm).2.2.1,(v33.1.getD ((0:Nat)+Int.toNat (w64 (v33.2-1))) Zm).2.2.2.1,(v33.1.getD ((0:Nat)+Int.toNat (w64 (v33.2-1))) Zm).2.2.2.2.1,(v33.1.getD ((0:Nat)+Int.toNat (w64 (v33.2-1))) Zm).2.2.2.2.2.1,(v33.1.getD ((0:Nat)+Int.toNat (w64 (v33.2-1))) Zm).2.2.2.2.2.2)).bind fun(v35:Int)=>some (decide (v35<0)))))))))else(some (false))).bind fun(v34:Bool)=>bif v34 then(gd (decide (0≤w64 (v33.2-1))) (gd (decide (w64 (v33.2-1)<(↑(a.2.2.length):Int))) (gd (decide ((0:Nat)+Int.toNat (w64 (v33.2-1))<v33.1.length)) (gd (decide (0≤v33.2)) (gd (decide (v33.2<(↑(a.2.2.length):Int))) (gd (decide ((0:Nat)+v33.2.toNat<v33.1.length)) (gd (decide (0≤v33.2)) (gd (decide (v33.2<(↑(a.2.2.length):Int))) (gd (decide ((0:Nat)+v33.2.toNat<v33.1.length)) (gd (decide (0≤w64 (v33.2-1))) (gd (decide (w64 (v33.2-1)<(↑(a.2.2.length):Int))) (gd (decide ((0:Nat)+Int.toNat (w64 (v33.2-1))<List.length (List.set v33.1 ((0:Nat)+v33.2.toNat) (v33.1.getD ((0:Nat)+Int.toNat (w64 (v33.2-1))) Zm)))) (some (Sum.inl (List.set (List.set v33.1 ((0:Nat)+v33.2.toNat) (v33.1.getD ((0:Nat)+Int.toNat (w64 (v33.2-1))) Zm)) ((0:Nat)+Int.toNat (w64 (v33.2-1))) (v33.1.getD ((0:Nat)+v33.2.toNat) Zm),w64 (v33.2-1))))))))))))))))else(some (Sum.inr v33.1))) F (v31)).bind fun(v32:List (Qr))=>some (Sum.inl (v32,w64 (v31.2+1))))else(some (Sum.inr v31.1))) F ((a.2.2,w64 (a.1+1)))).bind fun(v30:List (Qr))=>some (v30)
def Zio(F:Nat):PX:={np:=4,locs:=[.arg 0],τ:=Zz4,nr:=0,ω:=Zou,ids:=[0],mv:=[],code:=K2 F}
theorem Qps(F:Nat):Zf cx 250 (Zio F):=qXE (Zj2 F) (.two .leaf (.one (.loop ⟨[.vec 0 106 Ze,.slot 8 (.val (.int .i64))],[]⟩ [(.exit 0,⟨[.vec 0 106 Ze],[]⟩)] ⟨(17::9::kU 37 16 (kD 36 19 (8::16::15::14::13::12::[]))),[0],[]⟩ F (.two .leaf (.two (.one (.two .leaf (.one (.loop ⟨[.vec 0 106 Ze,.slot 9 (.val (.int .i64))],[]⟩ [(.exit 2,⟨[.vec 0 106 Ze],[]⟩)] ⟨(kU 37 16 (9::kD 36 19 [])),[0],[]⟩ F (.two (.two (.join [(.normal,⟨[.slot 34 (.val (.bool))],[]⟩)] ⟨(kD 34 17 []),[],[]⟩ .leaf) .leaf) .leaf))))) .leaf))))) f250 (by kernel_rfl) fun a=>by kernel_rfl
def Zr9:Qi:=⟨[.slot 1 (.val (.int .i64)),.slot 2 (.val (.int .i64)),.slot 3 (.val (.int .i64)),.vec 0 106 Ze],[(0,.own 0),(4,.stat (.pv (.lit (.func (.func 204) #[] #[]))))]⟩
def Zps:Qi:=⟨[.vec 0 106 Ze],[]⟩
def Zm2(F:Nat):LK:=lC (Qak F) (lC (Qa9 F) lN)
def Qs7(F:Nat):PX:=qX (Zm2 F) (.two .leaf (.one (.loop ⟨[.vec 0 106 Ze,.slot 10 (.val (.int .i64))],[]⟩ [(.exit 0,⟨[.vec 0 106 Ze],[]⟩)] ⟨(kU 16 22 (10::15::14::13::12::11::[])),[0],[]⟩ F .leaf))) f267 (pxB 5 [.arg 0] Zr9 0 Zps [0] [])
theorem Qgn(F:Nat):Zf cx 267 (Qs7 F):=Qap (by kernel_rfl)
def Ztt:Qi:=⟨[.slot 1 (.val (.int .i64)),.slot 2 (.val (.int .i64)),.slot 3 (.val (.int .i64)),.vec 0 106 Ze],[(0,.own 0),(4,.stat (.pv (.lit (.func (.func 204) #[] #[]))))]⟩
def Zfw:Qi:=⟨[.vec 0 106 Ze],[]⟩
def Zto(F:Nat):LK:=lC (Qak F) (lC (Qa9 F) (lX (Qgn F) lN))
def Qvz(F:Nat):PX:=qX (Zto F) (Q8 2 (.two (.one (.loop ⟨[.vec 0 106 Ze,.slot 10 (.val (.int .i64)),.slot 11 (.val (.int .i64))],[]⟩ [(.exit 0,⟨[.vec 0 106 Ze,.slot 10 (.val (.int .i64))],[]⟩)] ⟨(21::22::23::kU 35 12 (11::49::48::47::32::33::34::10::kD 31 8 (20::19::18::[]))),[0],[]⟩ F (.two .leaf (.one (.two .leaf (.join [(.normal,⟨[.vec 0 106 Ze,.slot 10 (.val (.int .i64)),.slot 11 (.val (.int .i64))],[]⟩)] ⟨(kU 35 12 (11::49::48::47::32::33::34::10::kD 31 8 [])),[0],[]⟩ .leaf)))))) .leaf)) f256 (pxB 5 [.arg 0] Ztt 0 Zfw [0] [])
theorem Qih(F:Nat):Zf cx 256 (Qvz F):=Qap (by kernel_rfl)
def Qbf:Qi:=⟨[.slot 1 (.val (.int .i64)),.slot 2 (.val (.int .i64)),.slot 3 (.val (.int .i64)),.vec 0 106 Ze],[(0,.own 0),(4,.stat (.pv (.lit (.func (.func 204) #[] #[]))))]⟩
def Qbw:Qi:=⟨[.vec 0 106 Ze],[]⟩
def Qrb(g:Qbf.El→Option (Qbw.El))(F:Nat):Lx:={ext:=[(251,(PX.sm {np:=5,locs:=[.arg 0],τ:=Qbf,nr:=0,ω:=Qbw,ids:=[0],mv:=[],code:=g})),(205,(Qw5 F).sm),(204,(Za6 F).sm),(267,(Qs7 F).sm),(256,(Qvz F).sm)],anns:=[],still:=[]}
def Qog:PX:=pxB 5 [.arg 0] Qbf 0 Qbw [0] []
def Qvj(F:Nat):Q6:=(.two (.two .leaf (.two (Q8 2 (.two (.one (.loop ⟨[.slot 10 (.val (.int .i64)),.slot 11 (.val (.int .i64))],[]⟩ [(.exit 0,⟨[.slot 10 (.val (.int .i64))],[]⟩)] ⟨(kU 34 6 (12::51::52::10::11::53::kD 50 11 (33::32::31::[]))),[],[]⟩ F (.two .leaf (.one (Q8 2 (.join [(.normal,⟨[.slot 10 (.val (.int .i64)),.slot 11 (.val (.int .i64))],[]⟩)] ⟨[53,11,10,52,51],[],[]⟩ .leaf)))))) (.two (.two .leaf (.one (.loop ⟨[.vec 0 106 Ze,.slot 13 (.val (.int .i64))],[]⟩ [(.exit 2,⟨[.vec 0 106 Ze],[]⟩)] ⟨(kU 61 16 (13::kD 60 6 [])),[0],[]⟩ F .leaf))) .leaf))) .leaf)) (.two (.two .leaf (.two (Q8 2 (.two (.one (.loop ⟨[.slot 14 (.val (.int .i64)),.slot 15 (.val (.int .i64))],[]⟩ [(.exit 4,⟨[.slot 14 (.val (.int .i64))],[]⟩)] ⟨(kU 86 6 (16::104::105::14::15::106::kD 103 12 (85::84::83::[]))),[],[]⟩ F (.two .leaf (.one (Q8 2 (.join [(.normal,⟨[.slot 14 (.val (.int .i64)),.slot 15 (.val (.int .i64))],[]⟩)] ⟨[106,15,14,105,104],[],[]⟩ .leaf)))))) (.two (.two .leaf (.one (.loop ⟨[.vec 0 106 Ze,.slot 17 (.val (.int .i64))],[]⟩ [(.exit 6,⟨[.vec 0 106 Ze],[]⟩)] ⟨(kU 113 16 (17::112::111::110::109::108::[])),[0],[]⟩ F .leaf))) .leaf))) .leaf)) (Q8 3 (.two (.two .leaf (.join [(.normal,⟨[.slot 20 (.val (.int .i64)),.slot 21 (.val (.int .i64))],[]⟩)] ⟨[145,146,144,21,20,143,142,141],[],[]⟩ .leaf)) (.two .leaf (.two (.one (.loop ⟨[.slot 20 (.val (.int .i64)),.slot 21 (.val (.int .i64))],[]⟩ [(.exit 8,⟨[.slot 20 (.val (.int .i64))],[]⟩)] ⟨(kU 152 6 (23::172::173::20::21::174::kD 171 14 (151::150::149::[]))),[],[]⟩ F (.two .leaf (.one (Q8 2 (.join [(.normal,⟨[.slot 20 (.val (.int .i64)),.slot 21 (.val (.int .i64))],[]⟩)] ⟨[174,21,20,173,172],[],[]⟩ .leaf)))))) (.two .leaf (.two (.two (.join [(.normal,⟨[.slot 185 (.val (.bool))],[]⟩)] ⟨(kD 185 8 []),[],[]⟩ .leaf) (.join [(.normal,⟨[.vec 0 106 Ze],[]⟩)] ⟨(kD 191 6 []),[0],[]⟩ .leaf)) (.two (.two (.join [(.normal,⟨[.slot 199 (.val (.bool))],[]⟩)] ⟨(kD 199 8 []),[],[]⟩ .leaf) (.join [(.normal,⟨[.vec 0 106 Ze],[]⟩)] ⟨(kD 205 6 []),[0],[]⟩ .leaf)) (.two (.join [(.normal,⟨[.slot 213 (.val (.bool))],[]⟩)] ⟨(kD 213 8 []),[],[]⟩ .leaf) (.join [(.normal,⟨[.vec 0 106 Ze],[]⟩)] ⟨(kD 219 6 []),[0],[]⟩ .leaf)))))))))))
def Zza(g:Qbf.El→Option Qbw.El)(F:Nat):=Ql3 cx (Qrb g F) 1000 (Qvj F) f251 (Qv f251) Qog
def Qjd(F n:Nat):Qbf.El→Option Qbw.El:=Nat.rec (motive:=fun _=>Qbf.El→Option Qbw.El) (fun _=>none) (fun _ ih=>Zza ih F) n
def Qyg(F:Nat):Qbf.El→Option Qbw.El:=Qjd F F
def Qot(F n:Nat):PX:={Qog with code:=Qjd F n}
def Zoe(F:Nat):PX:=Qot F F
theorem Zi1(F n:Nat)(h:Zf cx 251 (Qot F n)):(Qrb (Qjd F n) F).Ok cx:=Lx.Q3 (PX.Q0 h) (kC (Qak F) (kC (Qa9 F) (kX (Qgn F) (kX (Qih F) (Lx.W4)))))
theorem Qy5(F:Nat):∀n,Zf cx 251 (Qot F n)
 |0=>⟨⟨f251,by kernel_rfl⟩,fun a y h=>absurd (show(none:Option _)=some y from h) (by simp)⟩
 |n+1=>Zf.cast (q:=pxT cx (Qrb (Qjd F n) F) (Qvj F) f251 (Qv f251) Qog) (by kernel_rfl) (Zbb Zt (Zi1 F n (Qy5 F n)) (by kernel_rfl) (by kernel_rfl) (by kernel_rfl) (by kernel_rfl))
theorem Qoe(F:Nat):Zf cx 251 (Zoe F):=Qy5 F F
def Zij:Qi:=⟨[.slot 1 (.val (.int .i64)),.vec 0 106 Ze],[(0,.own 0),(2,.stat (.pv (.lit (.func (.func 204) #[] #[]))))]⟩
def Zqg:Qi:=⟨[.vec 0 106 Ze],[]⟩
def Zxb(F:Nat):LK:=lC (Qak F) (lC (Qa9 F) (lX (Qps F) (lX (Qgn F) (lX (Qih F) (lX (Qoe F) lN)))))
def Qip(F:Nat)(a:Int×List (Qr)):Option (List (Qr)):=
 (Qq (σ:=List (Qr)×Int×Int) (β:=List (Qr)×Int) (fun(v66:List (Qr)×Int×Int)=>bif decide (v66.2.2≤a.1)then((gd (decide (a.2.length=v66.1.length)&&(true&&true)&&(true&&(true&&true))) (some ((v66.2.1,v66.2.2,v66.1)))).bind fun(v67:Int×Int×List (Qr))=>(K2 F v67).bind fun(v68:List (Qr))=>some (Sum.inl (v68,v66.2.2,w64 (v66.2.2+20))))else(some (Sum.inr (v66.1,v66.2.1)))) F ((a.2,(0:Int),(20:Int)))).bind fun(v54:List (Qr)×Int)=>(gd (decide (a.2.length=v54.1.length)&&(true&&true)&&(true&&(true&&true))) (some ((v54.2,a.1,v54.1)))).bind fun(v55:Int×Int×List (Qr))=>(K2 F v55).bind fun(v56:List (Qr))=>(Qq (σ:=List (Qr)×Int) (β:=List (Qr)) (fun(v58:List (Qr)×Int)=>bif decide (v58.2<a.1)then((Qq (σ:=List (Qr)×Int×Int) (β:=List (Qr)×Int) (fun(v63:List (Qr)×Int×Int)=>bif decide (v63.2.2≤a.1)then((gd (decide (a.2.length=v63.1.length)&&(true&&true)&&(true&&(true&&(true&&true)))) (some ((v63.2.1,w64 (v63.2.1+v58.2),v63.2.2,v63.1)))).bind fun(v64:Int×Int×Int×List (Qr))=>(Qyg F v64).bind fun(v65:List (Qr))=>some (Sum.inl (v65,v63.2.2,w64 (v63.2.2+w64 ((2:Int)*v58.2)))))else(some (Sum.inr (v63.1,v63.2.1)))) F ((v58.1,(0:Int),w64 ((2:Int)*v58.2)))).bind fun(v59:List (Qr)×Int)=>(bif decide (w64 (v59.2+v58.2)<a.1)then((gd (decide (a.2.length=v59.1.length)&&(true&&true)&&(true&&(true&&(true&&true)))) (some ((v59.2,w64 (v59.2+v58.2),a.1,v59.1)))).bind fun(v61:Int×Int×Int×List (Qr))=>(Qyg F v61).bind fun(v62:List (Qr))=>some (v62))else(some v59.1)).bind fun(v60:List (Qr))=>some (Sum.inl (v60,w64 (v58.2*(2:Int)))))else(some (Sum.inr v58.1))) F ((v56,(20:Int)))).bind fun(v57:List (Qr))=>some (v57)
def Zmn(F:Nat):PX:={np:=3,locs:=[.arg 0],τ:=Zij,nr:=0,ω:=Zqg,ids:=[0],mv:=[],code:=Qip F}
theorem Quf(F:Nat):Zf cx 239 (Zmn F):=qXE (Zxb F) (Q8 2 (.two (.one (.loop ⟨[.vec 0 106 Ze,.slot 7 (.val (.int .i64)),.slot 8 (.val (.int .i64))],[]⟩ [(.exit 0,⟨[.vec 0 106 Ze,.slot 7 (.val (.int .i64))],[]⟩)] ⟨[14,15,16,17,18,20,21,22,8,7,19,13,12,11],[0],[]⟩ F .leaf)) (.two .leaf (.one (.loop ⟨[.vec 0 106 Ze,.slot 6 (.val (.int .i64))],[]⟩ [(.exit 2,⟨[.vec 0 106 Ze],[]⟩)] ⟨[31,32,7,8,49,50,51,9,55,56,57,58,59,60,54,53,52,6,62,61,36,37,38,39,40,41,42,43,45,46,47,48,44,35,34,33,30,29,28],[0],[]⟩ F (.two .leaf (.one (.two .leaf (.two (.one (.loop ⟨[.vec 0 106 Ze,.slot 7 (.val (.int .i64)),.slot 8 (.val (.int .i64))],[]⟩ [(.exit 4,⟨[.vec 0 106 Ze,.slot 7 (.val (.int .i64))],[]⟩)] ⟨(kU 36 8 (45::46::47::48::8::7::44::35::34::33::[])),[0],[]⟩ F .leaf)) (.two (Q8 2 (.join [(.normal,⟨[.vec 0 106 Ze],[]⟩)] ⟨(kD 60 6 []),[0],[]⟩ .leaf)) .leaf)))))))))) f239 (by kernel_rfl) fun a=>by kernel_rfl
def Ztp:Qi:=⟨[.vec 0 106 Ze],[(0,.own 0),(1,.stat (.pv (.lit (.func (.func 204) #[] #[]))))]⟩
def Zkf:Qi:=⟨[.vec 0 106 Ze],[]⟩
def Ztm(F:Nat):LK:=lC (Qak F) (lC (Qa9 F) (lX (Qps F) (lX (Qgn F) (lX (Qih F) (lX (Qoe F) (lX (Quf F) lN))))))
def Qjo(F:Nat)(a:List (Qr)):Option (List (Qr)):=
 (gd (decide (a.length=a.length)&&(true&&true)&&(true&&true)) (some (((↑(a.length):Int),a)))).bind fun(v7:Int×List (Qr))=>(Qip F v7).bind fun(v8:List (Qr))=>some (v8)
def Zk1(F:Nat):PX:={np:=2,locs:=[.arg 0],τ:=Ztp,nr:=0,ω:=Zkf,ids:=[0],mv:=[],code:=Qjo F}
theorem Zig(F:Nat):Zf cx 203 (Zk1 F):=qXE (Ztm F) .leaf f203 (by kernel_rfl) fun a=>by kernel_rfl
def Zeu(F:Nat):LK:=lC (Qa9 F) (lX (Qps F) (lX (Qgn F) (lX (Qih F) (lX (Qoe F) (lX (Quf F) (lX (Zig F) lN))))))
def Qb9(F:Nat)(a:(Qz)×ByteArray):Option (List (Qr)):=
 (Qq (σ:=List (Qr)×Int) (β:=List (Qr)) (fun(v18:List (Qr)×Int)=>bif decide (v18.2<(↑(a.1.2.2.2.1.length):Int))then(gd (decide (0≤v18.2)) (gd (decide (v18.2<(↑(a.1.2.2.2.1.length):Int))) (gd (decide (v18.2.toNat<a.1.2.2.2.1.length)) ((bif Qf (a.1.2.2.2.1.getD (v18.2.toNat) Zm).2.1 a.2 then(gd (decide (v18.1.length=v18.1.length)) (gd (decide (List.length (v18.1++(a.1.2.2.2.1.getD (v18.2.toNat) Zm)::Qb (Qr))*(88:Nat)≤(140737488355328:Nat))) (gd (decide (List.length (v18.1++(a.1.2.2.2.1.getD (v18.2.toNat) Zm)::Qb (Qr))≤9223372036854775807)) (gd (decide (List.length (v18.1++(a.1.2.2.2.1.getD (v18.2.toNat) Zm)::Qb (Qr))=List.length (v18.1++(a.1.2.2.2.1.getD (v18.2.toNat) Zm)::Qb (Qr)))&&true&&true) (some (v18.1++(a.1.2.2.2.1.getD (v18.2.toNat) Zm)::Qb (Qr)))))))else(gd (decide (v18.1.length=v18.1.length)&&true&&true) (some v18.1))).bind fun(v19:List (Qr))=>(gd (decide (v19.length=v19.length)&&true&&(true&&true)) (some ((v19,w64 (v18.2+1))))).bind fun(v20:List (Qr)×Int)=>some (Sum.inl v20)))))else((gd (decide (v18.1.length=v18.1.length)&&true&&true) (some v18.1)).bind fun(v21:List (Qr))=>some (Sum.inr v21))) F ((Qb (Qr),(0:Int)))).bind fun(v15:List (Qr))=>(gd (decide (v15.length=v15.length)&&(true&&true)&&true) (some (v15))).bind fun(v16:List (Qr))=>(Qjo F v16).bind fun(v17:List (Qr))=>gd (decide ((0:Nat)+v15.length≤v17.length)) (some (List.take (v15.length) (List.drop (0:Nat) v17)))
def Qye(F:Nat):PC:={ats:=Qeh,rts:=Qgw,code:=Qb9 F}
theorem Qi7(F:Nat):Qg cx 139 (Qye F):=qE (Zeu F) (Q8 2 (.two (.two .leaf (.one (.virt 5 106 Ze (.loop ⟨[.vec 1 106 Ze,.slot 11 (.val (.int .i64))],[(5,.own 1)]⟩ [(.exit 0,⟨[.vec 1 106 Ze],[(5,.own 1)]⟩)] ⟨[23,11,15,16,17,18,5,22,21,20,19,7,14,13,12],[1],[1]⟩ F (Q8 2 (.two (.one (Q8 2 (.join [(.normal,⟨[.vec 1 106 Ze],[(5,.own 1)]⟩)] ⟨[5,22,21,20,19],[1],[1]⟩ .leaf))) .leaf)))))) .leaf)) f139 (by kernel_rfl) fun a=>by kernel_rfl
def Zgq(F:Nat):LK:=lC (Qlx F) (lS (PF.Q0 (Qf3 F)) (lC (Qrt F) (lS (PF.Q0 (Qf6 F)) (lC (Zmv F) (lC (Zed F) (lS (PF.Q0 (Qg8 F)) (lC (Zwl F) (lC (U9 F) (lC (Zg5 F) (lC (Qxa F) (lC (Zfe F) (lC (Xe F) (lS (PF.Q0 (Qe5 F)) (lC (Zt7 F) (lC (Qyb F) (lC (Zqs F) (lC (Qu4 F) (lC (Zx9 F) (lC (Qxg F) (lC (Zhh F) lN))))))))))))))))))))
def Qpf(F:Nat):PC:=qT (Zgq F) (.two .leaf (.two (.join [(.normal,⟨[.slot 6 (.val (.int .i64))],[]⟩)] ⟨(6::kD 15 9 []),[],[]⟩ (.within [(96,.leaf)])) .leaf)) f135 K4 Zq
theorem Zcc(F:Nat):Qg cx 135 (Qpf F):=Xl (by kernel_rfl)
def Zqa(F:Nat):LK:=lC (Qdc F) (lC (Ya F) (lC (Yi F) (lC (Qdl F) lN)))
def Qaw(F:Nat)(a:(Zi)×(Qz)×ByteArray×Bool):Option ((Z4)×Int):=
 (Qdj F (a.1,a.2.2.1)).bind fun(v13:(Z4)×Bool)=>(c25 F (a.1,a.2.1.1,a.2.1.2.1,a.2.1.2.2.1,a.2.1.2.2.2.1,a.2.1.2.2.2.2)).bind fun(v14:Int)=>(Q1 F (!v13.2,(10:Int))).bind fun(v15:Int)=>(Q1 F (!decide (0<v13.1.2.2.2.2.2.2.2.2.2.2)==a.2.2.2,(13:Int))).bind fun(v16:Int)=>(Zl F (v14::v15::v16::Qb Int)).bind fun(v17:Int)=>some ((v13.1,v17))
def Qv8(F:Nat):PC:={ats:=Ziv,rts:=[.agg kt5,.val (.int .i64)],code:=Qaw F}
theorem Qfw(F:Nat):Qg cx 137 (Qv8 F):=qE (Zqa F) .leaf f137 (by kernel_rfl) fun a=>by kernel_rfl
def Ze5(F:Nat):LK:=lC (Qas F) lN
def Qoa(F:Nat)(a:(Qz)×(Z4)×List (Qr)×Bool):Option (List ByteArray):=
 (Qq (σ:=Unit×List (ByteArray×Int)×List ByteArray×Int×Int) (β:=Unit×List (ByteArray×Int)×List ByteArray) (fun(v37:Unit×List (ByteArray×Int)×List ByteArray×Int×Int)=>bif decide (v37.2.2.2.2<(↑(a.2.2.1.length):Int))then(gd (decide (0≤v37.2.2.2.2)) (gd (decide (v37.2.2.2.2<(↑(a.2.2.1.length):Int))) (gd (decide (v37.2.2.2.2.toNat<a.2.2.1.length)) ((Qru F (a.1,(a.2.2.1.getD (v37.2.2.2.2.toNat) Zm).1)).bind fun(v38:ByteArray)=>(bif decide (v37.2.2.2.1<a.2.1.2.2.2.2.2.1)then(some (decide (Yp Qf v38 v37.2.1 (0:Int)<a.2.1.2.2.2.2.2.2.1)))else(some (false))).bind fun(v39:Bool)=>(bif v39 then(some ((Je Qf v38 (w64 (Yp Qf v38 v37.2.1 (0:Int)+(1:Int))) v37.2.1,w64 (v37.2.2.2.1+1))))else(some ((v37.2.1,v37.2.2.2.1)))).bind fun(v40:List (ByteArray×Int)×Int)=>(bif v39==a.2.2.2 then(gd (decide (v37.2.2.1.length=v37.2.2.1.length)) (gd (decide (List.length (v37.2.2.1++(a.2.2.1.getD (v37.2.2.2.2.toNat) Zm).1::Qb ByteArray)*(16:Nat)≤(140737488355328:Nat))) (gd (decide (List.length (v37.2.2.1++(a.2.2.1.getD (v37.2.2.2.2.toNat) Zm).1::Qb ByteArray)≤9223372036854775807)) (gd (true&&(decide (List.length (v37.2.2.1++(a.2.2.1.getD (v37.2.2.2.2.toNat) Zm).1::Qb ByteArray)=List.length (v37.2.2.1++(a.2.2.1.getD (v37.2.2.2.2.toNat) Zm).1::Qb ByteArray))&&true&&true&&true)) (some (((),v37.2.2.1++(a.2.2.1.getD (v37.2.2.2.2.toNat) Zm).1::Qb ByteArray)))))))else(gd (true&&(decide (v37.2.2.1.length=v37.2.2.1.length)&&true&&true&&true)) (some (((),v37.2.2.1))))).bind fun(v41:Unit×List ByteArray)=>(gd (true&&(decide (v41.2.length=v41.2.length)&&true&&true&&(true&&(true&&(true&&true))))) (some (((),v40.1,v41.2,v40.2,w64 (v37.2.2.2.2+1))))).bind fun(v42:Unit×List (ByteArray×Int)×List ByteArray×Int×Int)=>some (Sum.inl v42)))))else((gd (true&&(decide (v37.2.2.1.length=v37.2.2.1.length)&&true&&true&&(true&&true))) (some (((),v37.2.1,v37.2.2.1)))).bind fun(v43:Unit×List (ByteArray×Int)×List ByteArray)=>some (Sum.inr v43))) F (((),Qb (ByteArray×Int),Qb ByteArray,(0:Int),(0:Int)))).bind fun(v36:Unit×List (ByteArray×Int)×List ByteArray)=>gd (decide ((0:Nat)+v36.2.2.length≤v36.2.2.length)) (some (List.take (v36.2.2.length) (List.drop (0:Nat) v36.2.2)))
def Qzb(F:Nat):PC:={ats:=[.agg Yj,.agg kt5,.val (.seq Ze),.val (.bool)],rts:=Ux,code:=Qoa F}
theorem Qpi(F:Nat):Qg cx 138 (Qzb F):=qE (Ze5 F) (Q8 2 (.two (.two (.within [(196,.leaf)]) (.one (.within [(100000227,(Q8 3 (.one (.virtF 3 0 9 Zr (.loop ⟨[.mix 3 25 1 [] [(0,.own 10)],.map 9 (.val (.str)) (.val (.int .i64)),.vec 10 9 Zr,.slot 5 (.val (.int .i64)),.slot 14 (.val (.int .i64))],[]⟩ [(.exit 0,⟨[.mix 3 25 1 [] [(0,.own 10)],.map 9 (.val (.str)) (.val (.int .i64)),.vec 10 9 Zr],[]⟩)] ⟨[46,14,18,19,20,21,9,34,37,38,39,40,5,36,35,45,44,43,42,41,10,33,32,31,30,29,28,27,26,25,24,23,22,8,17,16,15],[10,3,9],[10]⟩ F (Q8 2 (.two (.one (Q8 2 (.two (.join [(.normal,⟨[.slot 10 (.val (.bool))],[]⟩)] ⟨(10::kD 33 12 []),[],[]⟩ .leaf) (.two (.two .leaf (.join [(.normal,⟨[.map 9 (.val (.str)) (.val (.int .i64)),.slot 5 (.val (.int .i64))],[]⟩)] ⟨[37,38,39,40,5,36,35],[9],[]⟩ .leaf)) (.two (.within [(1000008,(.one (.two .leaf (.join [(.normal,⟨[.mix 3 25 1 [] [(0,.own 10)],.vec 10 9 Zr],[]⟩)] ⟨[25,24,23,22,21],[10,3],[10]⟩ .leaf))))]) .leaf))))) .leaf)))))))]))) .leaf)) f138 (by kernel_rfl) fun a=>by kernel_rfl
def Zzv(F:Nat):LK:=lC (Qpi F) (lC (Qi7 F) (lC (Qfw F) lN))
def c52(F:Nat)(a:(Zi)×(Qz)×ByteArray):Option (List ByteArray×Int):=
 (Qaw F (a.1,a.2.1,a.2.2,false)).bind fun(v9:(Z4)×Int)=>bif !decide (v9.2=0)then(some ((Qb ByteArray,v9.2)))else((Qb9 F (a.2.1,a.2.2)).bind fun(v10:List (Qr))=>(Qoa F (a.2.1,v9.1,v10,true)).bind fun(v11:List ByteArray)=>some ((v11,(0:Int))))
def Qob(F:Nat):PC:={ats:=Qhv,rts:=Qpx,code:=c52 F}
theorem Qxk(F:Nat):Qg cx 52 (Qob F):=qE (Zzv F) .leaf f52 (by kernel_rfl) fun a=>by kernel_rfl
def Znu(F:Nat):LK:=lC (Qi7 F) (lC (Qfw F) lN)
def c55(F:Nat)(a:(Zi)×(Qz)×ByteArray):Option (List (Qr)×Int):=
 (Qaw F (a.1,a.2.1,a.2.2,false)).bind fun(v7:(Z4)×Int)=>bif !decide (v7.2=0)then(some ((Qb (Qr),v7.2)))else((Qb9 F (a.2.1,a.2.2)).bind fun(v8:List (Qr))=>some ((v8,(0:Int))))
def Zk6(F:Nat):PC:={ats:=Qhv,rts:=[.val (.seq Ze),.val (.int .i64)],code:=c55 F}
theorem Zsc(F:Nat):Qg cx 55 (Zk6 F):=qE (Znu F) .leaf f55 (by kernel_rfl) fun a=>by kernel_rfl
def Ztq(F:Nat):LK:=lC (Qpi F) (lC (Qi7 F) (lC (Qfw F) lN))
def c56(F:Nat)(a:(Zi)×(Qz)×ByteArray):Option (List ByteArray×Int):=
 (Qaw F (a.1,a.2.1,a.2.2,false)).bind fun(v9:(Z4)×Int)=>bif !decide (v9.2=0)then(some ((Qb ByteArray,v9.2)))else((Qb9 F (a.2.1,a.2.2)).bind fun(v10:List (Qr))=>(Qoa F (a.2.1,v9.1,v10,false)).bind fun(v11:List ByteArray)=>some ((v11,(0:Int))))
def Qxw(F:Nat):PC:={ats:=Qhv,rts:=Qpx,code:=c56 F}
theorem Zve(F:Nat):Qg cx 56 (Qxw F):=qE (Ztq F) .leaf f56 (by kernel_rfl) fun a=>by kernel_rfl
end
end Go.Proofs.Tryz

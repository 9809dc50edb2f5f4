/- Functions of the program as functions of data. By program. -/
import Derived.Test.YtpkbmngnolhopaaGreatDoorXTeB1
set_option maxRecDepth 100000
set_option linter.all false
namespace Go.Proofs.Tryz
open Go Go.Sx
noncomputable section
def Znt(F:Nat):LK:=lC (Ya F) (lC (K4 F) lN)
def Zu4(F:Nat):PC:=qT (Znt F) .leaf f158 K2 Zq
theorem Zmv(F:Nat):Qg cx 158 (Zu4 F):=Xh (by kernel_rfl)
def Zbj(F:Nat):LK:=lN
def Qun(F:Nat)(a:List ByteArray):Option (List ByteArray):=
 bif decide (a.length=0)then((gd (decide (List.length (Qb ByteArray++a)*(16:Nat)≤(140737488355328:Nat))) (gd (decide (List.length (Qb ByteArray++a)≤9223372036854775807)) (gd (decide (List.length (Qb ByteArray++a)=List.length (Qb ByteArray++a))) (some (Qb ByteArray++a))))).bind fun(v4:List ByteArray)=>gd (X9 (Qh.eqv Zr) (Qb ByteArray) v4) (some (Qb ByteArray)))else(gd (decide (List.length (Qb ByteArray++a)*(16:Nat)≤(140737488355328:Nat))) (gd (decide (List.length (Qb ByteArray++a)≤9223372036854775807)) (gd (decide (List.length (Qb ByteArray++a)=List.length (Qb ByteArray++a))) (some (Qb ByteArray++a)))))
def Qjb(F:Nat):PF:={ats:=Ux,ty:=9,row:=Zr,code:=Qun F}
theorem Zec(F:Nat)(a:List ByteArray):codeF cx (Zbj F).x 1000 .leaf f150 (Qv f150) Ux 9 Zr a=Qun F a:=by kernel_rfl
theorem Qf6(F:Nat):Xx cx 150 (Qjb F):=Xx.Zs Zt (Zbj F).ok (n:=1000) (an:=.leaf) (fn:=f150) (c:=Qv f150) (by kernel_rfl) (by kernel_rfl) (fun a y h=>(Zec F a).trans h) (by kernel_rfl)
def Zdw(F:Nat):LK:=lS (PF.Q0 (Qf6 F)) lN
def Qyb(F:Nat):PC:=qT (Zdw F) .leaf f160 Qja Ux
theorem Qzf(F:Nat):Qg cx 160 (Qyb F):=Xh (by kernel_rfl)
def Zzg(F:Nat):LK:=lC (Yl F) (lC (Xc F) (lC (Ya F) (lC (K4 F) lN)))
def Zm2(F:Nat):PC:=qT (Zzg F) .leaf f161 K2 Zq
theorem Ztw(F:Nat):Qg cx 161 (Zm2 F):=Xh (by kernel_rfl)
def Qzj(F:Nat):LK:=lN
def Qtg(F:Nat)(a:List (Zu)):Option (List (Zu)):=
 bif decide (a.length=0)then((gd (decide (List.length (Qb (Zu)++a)*(56:Nat)≤(140737488355328:Nat))) (gd (decide (List.length (Qb (Zu)++a)≤9223372036854775807)) (gd (decide (List.length (Qb (Zu)++a)=List.length (Qb (Zu)++a))) (some (Qb (Zu)++a))))).bind fun(v4:List (Zu))=>gd (X9 (Qh.eqv kt3) (Qb (Zu)) v4) (some (Qb (Zu))))else(gd (decide (List.length (Qb (Zu)++a)*(56:Nat)≤(140737488355328:Nat))) (gd (decide (List.length (Qb (Zu)++a)≤9223372036854775807)) (gd (decide (List.length (Qb (Zu)++a)=List.length (Qb (Zu)++a))) (some (Qb (Zu)++a)))))
def Ql7(F:Nat):PF:={ats:=Qpk,ty:=116,row:=kt3,code:=Qtg F}
theorem Zfk(F:Nat)(a:List (Zu)):codeF cx (Qzj F).x 1000 .leaf f199 (Qv f199) Qpk 116 kt3 a=Qtg F a:=by kernel_rfl
theorem Qhl(F:Nat):Xx cx 199 (Ql7 F):=Xx.Zs Zt (Qzj F).ok (n:=1000) (an:=.leaf) (fn:=f199) (c:=Qv f199) (by kernel_rfl) (by kernel_rfl) (fun a y h=>(Zfk F a).trans h) (by kernel_rfl)
def Zdl(F:Nat):LK:=lS (PF.Q0 (Qhl F)) lN
def Qvq(F:Nat):PC:=qT (Zdl F) .leaf f213 [.val (.seq kt3),.agg kt3] Qpk
theorem Qvj(F:Nat):Qg cx 213 (Qvq F):=Xh (by kernel_rfl)
def Ztu(F:Nat):LK:=lC (Ya F) (lC (Xc F) lN)
def Zuk(F:Nat):PC:=qT (Ztu F) .leaf f163 K2 Zq
theorem Zrn(F:Nat):Qg cx 163 (Zuk F):=Xh (by kernel_rfl)
def Qxh(F:Nat):LK:=lN
def Qzx(F:Nat)(a:List (Zx)):Option (List (Zx)):=
 bif decide (a.length=0)then((gd (decide (List.length (Qb (Zx)++a)*(32:Nat)≤(140737488355328:Nat))) (gd (decide (List.length (Qb (Zx)++a)≤9223372036854775807)) (gd (decide (List.length (Qb (Zx)++a)=List.length (Qb (Zx)++a))) (some (Qb (Zx)++a))))).bind fun(v4:List (Zx))=>gd (X9 (Qh.eqv kt2) (Qb (Zx)) v4) (some (Qb (Zx))))else(gd (decide (List.length (Qb (Zx)++a)*(32:Nat)≤(140737488355328:Nat))) (gd (decide (List.length (Qb (Zx)++a)≤9223372036854775807)) (gd (decide (List.length (Qb (Zx)++a)=List.length (Qb (Zx)++a))) (some (Qb (Zx)++a)))))
def Qi8(F:Nat):PF:={ats:=Qq1,ty:=124,row:=kt2,code:=Qzx F}
theorem Zl2(F:Nat)(a:List (Zx)):codeF cx (Qxh F).x 1000 .leaf f200 (Qv f200) Qq1 124 kt2 a=Qzx F a:=by kernel_rfl
theorem Qke(F:Nat):Xx cx 200 (Qi8 F):=Xx.Zs Zt (Qxh F).ok (n:=1000) (an:=.leaf) (fn:=f200) (c:=Qv f200) (by kernel_rfl) (by kernel_rfl) (fun a y h=>(Zl2 F a).trans h) (by kernel_rfl)
def Zyo(F:Nat):LK:=lS (PF.Q0 (Qke F)) lN
def Qx8(F:Nat):PC:=qT (Zyo F) .leaf f214 [.val (.seq kt2),.agg kt2] Qq1
theorem Qud(F:Nat):Qg cx 214 (Qx8 F):=Xh (by kernel_rfl)
def Zsz(F:Nat):LK:=lN
def Zd4(F:Nat):PC:=qT (Zsz F) (Q8 2 (.two (.two .leaf (.one (.loop ⟨[.slot 5 (.val (.int .i64)),.slot 11 (.val (.int .i64))],[]⟩ [(.exit 0,⟨[.slot 5 (.val (.int .i64))],[]⟩)] ⟨[21,11,15,16,17,18,5,20,19,7,14,13,12],[],[]⟩ F (Q8 2 (.two (.one (Q8 2 (.join [(.normal,⟨[.slot 5 (.val (.int .i64))],[]⟩)] ⟨[5,20,19],[],[]⟩ .leaf))) .leaf))))) .leaf)) f215 Qc4 Zq
theorem Qzh(F:Nat):Qg cx 215 (Zd4 F):=Xh (by kernel_rfl)
def Zpl(F:Nat):LK:=lC (Qap F) (lC (Ya F) (lC (Qzh F) (lC (Yl F) (lC (K4 F) (lC (Xc F) lN)))))
def Zrg(F:Nat):PC:=qT (Zpl F) (.two .leaf (.two (.two (.join [(.normal,⟨[.slot 18 (.val (.bool))],[]⟩)] ⟨(kD 18 12 []),[],[]⟩ .leaf) .leaf) .leaf)) f165 K2 Zq
theorem Znx(F:Nat):Qg cx 165 (Zrg F):=Xh (by kernel_rfl)
def Zf2(F:Nat):LK:=lC (Yl F) (lC (Zuu F) (lC (Ya F) (lC (Xc F) lN)))
def Zju(F:Nat):PC:=qT (Zf2 F) (Q8 3 (.two (.join [(.normal,⟨[.slot 8 (.val (.int .i64))],[]⟩)] ⟨(8::kD 62 39 []),[],[]⟩ .leaf) .leaf)) f140 [.agg Yk,.agg Yu,.agg kt5,.val (.str)] Zq
theorem Qks(F:Nat):Qg cx 140 (Zju F):=Xh (by kernel_rfl)
def Ztk(F:Nat):LK:=lN
def Qjl(F:Nat)(a:(ByteArray×Int×ByteArray)×ByteArray×Int×ByteArray):Option (Bool):=
 (bif !Qf a.1.1 a.2.1 then(bif !Qf a.1.1 {data:=List.toArray (110::111::110::101::Qb UInt8)}then(some (!Qf a.2.1 {data:=List.toArray (110::111::110::101::Qb UInt8)}))else(some (false)))else(some (false))).bind fun(v5:Bool)=>some (v5)
def Zfm(F:Nat):PC:={ats:=[.agg kt7,.agg kt7],rts:=Yx,code:=Qjl F}
theorem Zry(F:Nat):Qg cx 240 (Zfm F):=qE (Ztk F) (.two .leaf (.two (.join [(.normal,⟨[.slot 4 (.val (.bool))],[]⟩)] ⟨(4::kD 19 15 []),[],[]⟩ .leaf) .leaf)) f240 (by kernel_rfl) fun a=>by kernel_rfl
def Ze3(F:Nat):LK:=lN
def Qf5(F:Nat)(a:ByteArray×Int×ByteArray):Option (Int):=
 tw (X:=Int) (Qx.eqv (Qe.val (Ty.int Go.IntKind.i64)::Qb Qe)) (bif Qf a.1 {data:=List.toArray (116::105::109::101::Qb UInt8)}then(some (Go.IntKind.wrap Go.IntKind.i64 ((0:Int)-a.2.1)))else(bif Qf a.1 {data:=List.toArray (108::101::110::103::116::104::Qb UInt8)}then(some a.2.1)else(bif Qf a.1 {data:=List.toArray (112::111::105::110::116::115::Qb UInt8)}then(some a.2.1)else(some ((-864000000:Int))))))
def Zj5(F:Nat):PC:={ats:=[.agg kt7],rts:=Zq,code:=Qf5 F}
theorem Zgl(F:Nat):Qg cx 252 (Zj5 F):=qE (Ze3 F) (.two .leaf (.two (.within [(178,.leaf)]) .leaf)) f252 (by kernel_rfl) fun a=>by kernel_rfl
def Zux(F:Nat):LK:=lC (Zgl F) lN
def Qmh(F:Nat)(a:(ByteArray×Int×ByteArray)×ByteArray×Int×ByteArray):Option (Int):=
 (Qf5 F a.1).bind fun(v7:Int)=>(Qf5 F a.2).bind fun(v8:Int)=>bif decide (v8<v7)then(some ((-1:Int)))else(bif decide (v7<v8)then(some ((1:Int)))else(some ((0:Int))))
def Zjl(F:Nat):PC:={ats:=[.agg kt7,.agg kt7],rts:=Zq,code:=Qmh F}
theorem Zty(F:Nat):Qg cx 241 (Zjl F):=qE (Zux F) .leaf f241 (by kernel_rfl) fun a=>by kernel_rfl
def Zvb(F:Nat):LK:=lC (Zty F) (lC (Qyp F) (lC (Qvm F) (lC (Zry F) (lC (Qdq F) lN))))
def Qh9(F:Nat)(a:(ByteArray×Int×ByteArray)×ByteArray×Int×ByteArray):Option (Int×Int):=
 (c99 F a.1).bind fun(v15:Int)=>(c99 F a.2).bind fun(v16:Int)=>(Qjl F (a.1,a.2.1,a.2.2.1,a.2.2.2)).bind fun(v17:Bool)=>(Y9 F (v17,(13:Int))).bind fun(v18:Int)=>(Jg F (v15::v16::v18::Qb Int)).bind fun(v19:Int)=>bif !decide (v19=0)then(some (((0:Int),v19)))else((Qmh F (a.1,a.2.1,a.2.2.1,a.2.2.2)).bind fun(v20:Int)=>some ((v20,(0:Int))))
def Quy(F:Nat):PC:={ats:=[.agg kt7,.agg kt7],rts:=Qk3,code:=Qh9 F}
theorem U6(F:Nat):Qg cx 205 (Quy F):=qE (Zvb F) .leaf f205 (by kernel_rfl) fun a=>by kernel_rfl
def Zmc(F:Nat):LK:=lC (Xc F) (lC (U6 F) (lC (Qzh F) (lC (Yl F) (lC (Qok F) (lC (Qks F) (lC (Qaa F) (lC (Ya F) (lC (Qcz F) lN))))))))
def Zo7(F:Nat):PC:=qT (Zmc F) (Q8 2 (.two (.two (.join [(.normal,⟨[.slot 27 (.val (.bool))],[]⟩)] ⟨(kD 27 9 []),[],[]⟩ .leaf) .leaf) (.two (.two (.join [(.normal,⟨[.slot 9 (.val (.int .i64))],[]⟩)] ⟨(9::kD 66 39 []),[],[]⟩ .leaf) .leaf) (.two .leaf (.two (.join [(.normal,⟨[.slot 6 (.val (.int .i64))],[]⟩)] ⟨(6::kD 96 19 []),[],[]⟩ .leaf) .leaf))))) f167 K2 Zq
theorem Zxa(F:Nat):Qg cx 167 (Zo7 F):=Xh (by kernel_rfl)
def Qvv(F:Nat):LK:=lN
def Qvl(F:Nat)(a:List (Qr)):Option (List (Qr)):=
 bif decide (a.length=0)then((gd (decide (List.length (Qb (Qr)++a)*(88:Nat)≤(140737488355328:Nat))) (gd (decide (List.length (Qb (Qr)++a)≤9223372036854775807)) (gd (decide (List.length (Qb (Qr)++a)=List.length (Qb (Qr)++a))) (some (Qb (Qr)++a))))).bind fun(v4:List (Qr))=>gd (X9 (Qh.eqv Zf) (Qb (Qr)) v4) (some (Qb (Qr))))else(gd (decide (List.length (Qb (Qr)++a)*(88:Nat)≤(140737488355328:Nat))) (gd (decide (List.length (Qb (Qr)++a)≤9223372036854775807)) (gd (decide (List.length (Qb (Qr)++a)=List.length (Qb (Qr)++a))) (some (Qb (Qr)++a)))))
def Qmj(F:Nat):PF:={ats:=Qe2,ty:=106,row:=Zf,code:=Qvl F}
theorem Zro(F:Nat)(a:List (Qr)):codeF cx (Qvv F).x 1000 .leaf f201 (Qv f201) Qe2 106 Zf a=Qvl F a:=by kernel_rfl
theorem Qgb(F:Nat):Xx cx 201 (Qmj F):=Xx.Zs Zt (Qvv F).ok (n:=1000) (an:=.leaf) (fn:=f201) (c:=Qv f201) (by kernel_rfl) (by kernel_rfl) (fun a y h=>(Zro F a).trans h) (by kernel_rfl)
def Zf8(F:Nat):LK:=lS (PF.Q0 (Qgb F)) lN
def Qvd(F:Nat):PC:=qT (Zf8 F) .leaf f216 [.val (.seq Zf),.agg Zf] Qe2
theorem Qxe(F:Nat):Qg cx 216 (Qvd F):=Xh (by kernel_rfl)
def Zvh(F:Nat):LK:=lC (Yl F) (lC (Ya F) (lC (Qaa F) lN))
def Ztz(F:Nat):PC:=qT (Zvh F) .leaf f169 K2 Zq
theorem Ziy(F:Nat):Qg cx 169 (Ztz F):=Xh (by kernel_rfl)
def Zwk(F:Nat):LK:=lN
def Zxw(F:Nat):PC:=qT (Zwk F) .leaf f217 [.val (.seq Zf),.val (.int .i64),.val (.int .i64)] Qe2
theorem Zyb(F:Nat):Qg cx 217 (Zxw F):=Xh (by kernel_rfl)
def Zgj(F:Nat):LK:=lC (Yl F) (lC (Ya F) (lC (Qaa F) lN))
def Zyl(F:Nat):PC:=qT (Zgj F) .leaf f171 K2 Zq
theorem Zke(F:Nat):Qg cx 171 (Zyl F):=Xh (by kernel_rfl)
def Zs1:Qi:=⟨[.slot 0 (.val (.int .i64)),.slot 1 (.val (.str)),.one 0 31 Yk,.one 1 35 Qnk,.one 2 24 Yu,.one 3 110 kt5],[(2,.stat (.ptr 0 5 0 0)),(3,.stat (.ptr 1 12 0 0)),(4,.stat (.ptr 2 5 0 0)),(5,.stat (.ptr 3 11 0 0))]⟩
def Zjj:Qi:=⟨[.slot 0 (.val (.int .i64))],[]⟩
def Zc6(F:Nat):LK:=lC (Qap F) (lC (Ya F) (lC (X8 F) (lC (Qks F) (lC (Yl F) (lC (Xc F) lN)))))
def Zqz(F:Nat):PX:=qX (Zc6 F) .leaf f218 (pxB 6 [.arg 2,.arg 3,.arg 4,.arg 5] Zs1 1 Zjj [] [])
theorem Qsy(F:Nat):Zg cx 218 (Zqz F):=Qaf (by kernel_rfl)
def Zql:Qi:=⟨[.slot 0 (.val (.seq Zr)),.one 0 31 Yk,.one 1 35 Qnk,.one 2 24 Yu,.one 3 110 kt5],[(1,.stat (.fn (.func 218) [] [.ptr 0 5 0 0,.ptr 1 12 0 0,.ptr 2 5 0 0,.ptr 3 11 0 0]))]⟩
def Zuh:Qi:=⟨[.slot 0 (.val (.int .i64))],[]⟩
def Zu6(F:Nat):LK:=lC (Qap F) (lC (Ya F) (lC (X8 F) (lC (Qks F) (lC (Yl F) (lC (Xc F) (lX (Qsy F) lN))))))
def Zvt(F:Nat):PX:=qX (Zu6 F) (.two .leaf (.two (.two .leaf (.one (.loop ⟨[.slot 10 (.val (.int .i64))],[]⟩ [(.ret,⟨[.slot 4 (.val (.int .i64))],[]⟩),(.exit 0,⟨[],[]⟩)] ⟨[22,10,15,16,17,18,7,21,4,20,19,6,5,14,13,12,11],[],[]⟩ F .leaf))) .leaf)) f100 (pxB 2 [.cap (.arg 1) 0,.cap (.arg 1) 1,.cap (.arg 1) 2,.cap (.arg 1) 3] Zql 1 Zuh [] [])
theorem Zwv(F:Nat):Zg cx 100 (Zvt F):=Qaf (by kernel_rfl)
def Zzy(F:Nat):LK:=lC (K4 F) (lC (Qap F) (lC (Ya F) (lC (X8 F) (lC (Qks F) (lC (Yl F) (lC (Xc F) (lC (Qcz F) (lX (Qrm F) (lX (Qxm F) (lX (Qsy F) (lX (Zwv F) lN)))))))))))
def Zpr(F:Nat):PC:=qT (Zzy F) (Q8 2 (.two (.two (.join [(.normal,⟨[.slot 9 (.val (.int .i64))],[]⟩)] ⟨(9::kD 45 29 []),[],[]⟩ .leaf) .leaf) .leaf)) f173 K2 Zq
theorem Zze(F:Nat):Qg cx 173 (Zpr F):=Xh (by kernel_rfl)
def Qul(F:Nat):LK:=lN
def Zam(F:Nat)(a:List (Zh)):Option (List (Zh)):=
 bif decide (a.length=0)then((gd (decide (List.length (Qb (Zh)++a)*(56:Nat)≤(140737488355328:Nat))) (gd (decide (List.length (Qb (Zh)++a)≤9223372036854775807)) (gd (decide (List.length (Qb (Zh)++a)=List.length (Qb (Zh)++a))) (some (Qb (Zh)++a))))).bind fun(v4:List (Zh))=>gd (X9 (Qh.eqv kt9) (Qb (Zh)) v4) (some (Qb (Zh))))else(gd (decide (List.length (Qb (Zh)++a)*(56:Nat)≤(140737488355328:Nat))) (gd (decide (List.length (Qb (Zh)++a)≤9223372036854775807)) (gd (decide (List.length (Qb (Zh)++a)=List.length (Qb (Zh)++a))) (some (Qb (Zh)++a)))))
def Qik(F:Nat):PF:={ats:=Qil,ty:=147,row:=kt9,code:=Zam F}
theorem Zp9(F:Nat)(a:List (Zh)):codeF cx (Qul F).x 1000 .leaf f202 (Qv f202) Qil 147 kt9 a=Zam F a:=by kernel_rfl
theorem Qgp(F:Nat):Xx cx 202 (Qik F):=Xx.Zs Zt (Qul F).ok (n:=1000) (an:=.leaf) (fn:=f202) (c:=Qv f202) (by kernel_rfl) (by kernel_rfl) (fun a y h=>(Zp9 F a).trans h) (by kernel_rfl)
def Yaf(F:Nat):LK:=lS (PF.Q0 (Qgp F)) lN
def Qnz(F:Nat):PC:=qT (Yaf F) .leaf f219 [.val (.seq kt9),.agg kt9] Qil
theorem Qqf(F:Nat):Qg cx 219 (Qnz F):=Xh (by kernel_rfl)
def Zqw(F:Nat):LK:=lC (U6 F) lN
def Qia(F:Nat)(a:(Qr)×Qr):Option (Int):=
 (Qh9 F ((a.1.2.2.1,a.1.2.2.2.1,a.1.2.2.2.2.1),a.2.2.2.1,a.2.2.2.2.1,a.2.2.2.2.2.1)).bind fun(v5:Int×Int)=>bif !decide (v5.1=0)then(some v5.1)else(some (w64 (a.1.2.2.2.2.2.1-a.2.2.2.2.2.2.1)))
def Qvg(F:Nat):PC:={ats:=[.agg Zf,.agg Zf],rts:=Zq,code:=Qia F}
theorem Qa5(F:Nat):Qg cx 204 (Qvg F):=qE (Zqw F) .leaf f204 (by kernel_rfl) fun a=>by kernel_rfl
def Zlp:Qi:=⟨[.slot 1 (.val (.int .i64)),.slot 2 (.val (.int .i64)),.vec 0 106 Zf],[(0,.own 0),(3,.stat (.pv (.lit (.func (.func 204) #[] #[]))))]⟩
def Zqq:Qi:=⟨[.vec 0 106 Zf],[]⟩
def Zxs(F:Nat):LK:=lC (U6 F) (lC (Qa5 F) lN)
def K0(F:Nat)(a:Int×Int×List (Qr)):Option (List (Qr)):=
 (Qq (σ:=List (Qr)×Int) (β:=List (Qr)) (fun(v31:List (Qr)×Int)=>bif decide (v31.2<a.2.1)then((Qq (σ:=List (Qr)×Int) (β:=List (Qr)) (fun(v33:List (Qr)×Int)=>(bif decide (a.1<v33.2)then(gd (decide (0≤v33.2)) (gd (decide (v33.2<(↑(a.2.2.length):Int))) (gd (decide ((0:Nat)+v33.2.toNat<v33.1.length)) (gd (decide (0≤w64 (v33.2-1))) (gd (decide (w64 (v33.2-1)<(↑(a.2.2.length):Int))) (gd (decide ((0:Nat)+Int.toNat (w64 (v33.2-1))<v33.1.length)) ((Qia F ((v33.1.getD ((0:Nat)+v33.2.toNat) Zm),(v33.1.getD ((0:Nat)+Int.toNat (w64 (v33.2-1))) Zm).1,(v33.1.getD ((0:Nat)+Int.toNat (w64 (v33.2-1))) Zm).2.1,(v33.1.getD ((0:Nat)+Int.toNat (w64 (v33.2-1))) Zm).2.2.1,(v33.1.getD ((0:Nat)+Int.toNat (w64 (v33.2-1))) Zm).2.2.2.1,(v33.1.getD ((0:Nat)+Int.toNat (w64 (v33.2-1))) Zm).2.2.2.2.1,(v33.1.getD ((0:Nat)+Int.toNat (w64 (v33.2-1))) Zm).2.2.2.2.2.1,(v33.1.getD ((0:Nat)+Int.toNat (w64 (v33.2-1))) Zm).2.2.2.2.2.2)).bind fun(v35:Int)=>some (decide (v35<0)))))))))else(some (false))).bind fun(v34:Bool)=>bif v34 then(gd (decide (0≤w64 (v33.2-1))) (gd (decide (w64 (v33.2-1)<(↑(a.2.2.length):Int))) (gd (decide ((0:Nat)+Int.toNat (w64 (v33.2-1))<v33.1.length)) (gd (decide (0≤v33.2)) (gd (decide (v33.2<(↑(a.2.2.length):Int))) (gd (decide ((0:Nat)+v33.2.toNat<v33.1.length)) (gd (decide (0≤v33.2)) (gd (decide (v33.2<(↑(a.2.2.length):Int))) (gd (decide ((0:Nat)+v33.2.toNat<v33.1.length)) (gd (decide (0≤w64 (v33.2-1))) (gd (decide (w64 (v33.2-1)<(↑(a.2.2.length):Int))) (gd (decide ((0:Nat)+Int.toNat (w64 (v33.2-1))<List.length (List.set v33.1 ((0:Nat)+v33.2.toNat) (v33.1.getD ((0:Nat)+Int.toNat (w64 (v33.2-1))) Zm)))) (some (Sum.inl (List.set (List.set v33.1 ((0:Nat)+v33.2.toNat) (v33.1.getD ((0:Nat)+Int.toNat (w64 (v33.2-1))) Zm)) ((0:Nat)+Int.toNat (w64 (v33.2-1))) (v33.1.getD ((0:Nat)+v33.2.toNat) Zm),w64 (v33.2-1))))))))))))))))else(some (Sum.inr v33.1))) F (v31)).bind fun(v32:List (Qr))=>some (Sum.inl (v32,w64 (v31.2+1))))else(some (Sum.inr v31.1))) F ((a.2.2,w64 (a.1+1)))).bind fun(v30:List (Qr))=>some (v30)
def Zij(F:Nat):PX:={np:=4,locs:=[.arg 0],τ:=Zlp,nr:=0,ω:=Zqq,ids:=[0],mv:=[],code:=K0 F}
theorem Qn7(F:Nat):Zg cx 250 (Zij F):=qXE (Zxs F) (.two .leaf (.one (.loop ⟨[.vec 0 106 Zf,.slot 8 (.val (.int .i64))],[]⟩ [(.exit 0,⟨[.vec 0 106 Zf],[]⟩)] ⟨(17::9::kU 37 16 (kD 36 19 (8::16::15::14::13::12::[]))),[0],[]⟩ F (.two .leaf (.two (.one (.two .leaf (.one (.loop ⟨[.vec 0 106 Zf,.slot 9 (.val (.int .i64))],[]⟩ [(.exit 2,⟨[.vec 0 106 Zf],[]⟩)] ⟨(kU 37 16 (9::kD 36 19 [])),[0],[]⟩ F (.two (.two (.join [(.normal,⟨[.slot 34 (.val (.bool))],[]⟩)] ⟨(kD 34 17 []),[],[]⟩ .leaf) .leaf) .leaf))))) .leaf))))) f250 (by kernel_rfl) fun a=>by kernel_rfl
def Zzu:Qi:=⟨[.slot 1 (.val (.int .i64)),.slot 2 (.val (.int .i64)),.slot 3 (.val (.int .i64)),.vec 0 106 Zf],[(0,.own 0),(4,.stat (.pv (.lit (.func (.func 204) #[] #[]))))]⟩
def Zj4:Qi:=⟨[.vec 0 106 Zf],[]⟩
def Zlz(F:Nat):LK:=lC (U6 F) (lC (Qa5 F) lN)
def Zbc(F:Nat):PX:=qX (Zlz F) (.two .leaf (.one (.loop ⟨[.vec 0 106 Zf,.slot 10 (.val (.int .i64))],[]⟩ [(.exit 0,⟨[.vec 0 106 Zf],[]⟩)] ⟨(kU 16 22 (10::15::14::13::12::11::[])),[0],[]⟩ F .leaf))) f267 (pxB 5 [.arg 0] Zzu 0 Zj4 [0] [])
theorem Qg4(F:Nat):Zg cx 267 (Zbc F):=Qaf (by kernel_rfl)
def Zr9:Qi:=⟨[.slot 1 (.val (.int .i64)),.slot 2 (.val (.int .i64)),.slot 3 (.val (.int .i64)),.vec 0 106 Zf],[(0,.own 0),(4,.stat (.pv (.lit (.func (.func 204) #[] #[]))))]⟩
def Zyr:Qi:=⟨[.vec 0 106 Zf],[]⟩
def Zfw(F:Nat):LK:=lC (U6 F) (lC (Qa5 F) (lX (Qg4 F) lN))
def Quu(F:Nat):PX:=qX (Zfw F) (Q8 2 (.two (.one (.loop ⟨[.vec 0 106 Zf,.slot 10 (.val (.int .i64)),.slot 11 (.val (.int .i64))],[]⟩ [(.exit 0,⟨[.vec 0 106 Zf,.slot 10 (.val (.int .i64))],[]⟩)] ⟨(21::22::23::kU 35 12 (11::49::48::47::32::33::34::10::kD 31 8 (20::19::18::[]))),[0],[]⟩ F (.two .leaf (.one (.two .leaf (.join [(.normal,⟨[.vec 0 106 Zf,.slot 10 (.val (.int .i64)),.slot 11 (.val (.int .i64))],[]⟩)] ⟨(kU 35 12 (11::49::48::47::32::33::34::10::kD 31 8 [])),[0],[]⟩ .leaf)))))) .leaf)) f256 (pxB 5 [.arg 0] Zr9 0 Zyr [0] [])
theorem Qin(F:Nat):Zg cx 256 (Quu F):=Qaf (by kernel_rfl)
def Qbl:Qi:=⟨[.slot 1 (.val (.int .i64)),.slot 2 (.val (.int .i64)),.slot 3 (.val (.int .i64)),.vec 0 106 Zf],[(0,.own 0),(4,.stat (.pv (.lit (.func (.func 204) #[] #[]))))]⟩
def Qbn:Qi:=⟨[.vec 0 106 Zf],[]⟩
def Qq4(g:Qbl.El→Option (Qbn.El))(F:Nat):Lx:={ext:=[(251,(PX.sm {np:=5,locs:=[.arg 0],τ:=Qbl,nr:=0,ω:=Qbn,ids:=[0],mv:=[],code:=g})),(205,(Quy F).sm),(204,(Qvg F).sm),(267,(Zbc F).sm),(256,(Quu F).sm)],anns:=[],still:=[]}
def Qro:PX:=pxB 5 [.arg 0] Qbl 0 Qbn [0] []
def Qzp(F:Nat):Q6:=(.two (.two .leaf (.two (Q8 2 (.two (.one (.loop ⟨[.slot 10 (.val (.int .i64)),.slot 11 (.val (.int .i64))],[]⟩ [(.exit 0,⟨[.slot 10 (.val (.int .i64))],[]⟩)] ⟨(kU 34 6 (12::51::52::10::11::53::kD 50 11 (33::32::31::[]))),[],[]⟩ F (.two .leaf (.one (Q8 2 (.join [(.normal,⟨[.slot 10 (.val (.int .i64)),.slot 11 (.val (.int .i64))],[]⟩)] ⟨[53,11,10,52,51],[],[]⟩ .leaf)))))) (.two (.two .leaf (.one (.loop ⟨[.vec 0 106 Zf,.slot 13 (.val (.int .i64))],[]⟩ [(.exit 2,⟨[.vec 0 106 Zf],[]⟩)] ⟨(kU 61 16 (13::kD 60 6 [])),[0],[]⟩ F .leaf))) .leaf))) .leaf)) (.two (.two .leaf (.two (Q8 2 (.two (.one (.loop ⟨[.slot 14 (.val (.int .i64)),.slot 15 (.val (.int .i64))],[]⟩ [(.exit 4,⟨[.slot 14 (.val (.int .i64))],[]⟩)] ⟨(kU 86 6 (16::104::105::14::15::106::kD 103 12 (85::84::83::[]))),[],[]⟩ F (.two .leaf (.one (Q8 2 (.join [(.normal,⟨[.slot 14 (.val (.int .i64)),.slot 15 (.val (.int .i64))],[]⟩)] ⟨[106,15,14,105,104],[],[]⟩ .leaf)))))) (.two (.two .leaf (.one (.loop ⟨[.vec 0 106 Zf,.slot 17 (.val (.int .i64))],[]⟩ [(.exit 6,⟨[.vec 0 106 Zf],[]⟩)] ⟨(kU 113 16 (17::112::111::110::109::108::[])),[0],[]⟩ F .leaf))) .leaf))) .leaf)) (Q8 3 (.two (.two .leaf (.join [(.normal,⟨[.slot 20 (.val (.int .i64)),.slot 21 (.val (.int .i64))],[]⟩)] ⟨[145,146,144,21,20,143,142,141],[],[]⟩ .leaf)) (.two .leaf (.two (.one (.loop ⟨[.slot 20 (.val (.int .i64)),.slot 21 (.val (.int .i64))],[]⟩ [(.exit 8,⟨[.slot 20 (.val (.int .i64))],[]⟩)] ⟨(kU 152 6 (23::172::173::20::21::174::kD 171 14 (151::150::149::[]))),[],[]⟩ F (.two .leaf (.one (Q8 2 (.join [(.normal,⟨[.slot 20 (.val (.int .i64)),.slot 21 (.val (.int .i64))],[]⟩)] ⟨[174,21,20,173,172],[],[]⟩ .leaf)))))) (.two .leaf (.two (.two (.join [(.normal,⟨[.slot 185 (.val (.bool))],[]⟩)] ⟨(kD 185 8 []),[],[]⟩ .leaf) (.join [(.normal,⟨[.vec 0 106 Zf],[]⟩)] ⟨(kD 191 6 []),[0],[]⟩ .leaf)) (.two (.two (.join [(.normal,⟨[.slot 199 (.val (.bool))],[]⟩)] ⟨(kD 199 8 []),[],[]⟩ .leaf) (.join [(.normal,⟨[.vec 0 106 Zf],[]⟩)] ⟨(kD 205 6 []),[0],[]⟩ .leaf)) (.two (.join [(.normal,⟨[.slot 213 (.val (.bool))],[]⟩)] ⟨(kD 213 8 []),[],[]⟩ .leaf) (.join [(.normal,⟨[.vec 0 106 Zf],[]⟩)] ⟨(kD 219 6 []),[0],[]⟩ .leaf)))))))))))
def Zq5(g:Qbl.El→Option Qbn.El)(F:Nat):=Qk0 cx (Qq4 g F) 1000 (Qzp F) f251 (Qv f251) Qro
def Qj9(F n:Nat):Qbl.El→Option Qbn.El:=Nat.rec (motive:=fun _=>Qbl.El→Option Qbn.El) (fun _=>none) (fun _ ih=>Zq5 ih F) n
def Qvh(F:Nat):Qbl.El→Option Qbn.El:=Qj9 F F
def Qq8(F n:Nat):PX:={Qro with code:=Qj9 F n}
def Ze5(F:Nat):PX:=Qq8 F F
theorem Zn7(F n:Nat)(h:Zg cx 251 (Qq8 F n)):(Qq4 (Qj9 F n) F).Ok cx:=Lx.Q3 (PX.Q0 h) (kC (U6 F) (kC (Qa5 F) (kX (Qg4 F) (kX (Qin F) (Lx.W3)))))
theorem Qzo(F:Nat):∀n,Zg cx 251 (Qq8 F n)
 |0=>⟨⟨f251,by kernel_rfl⟩,fun a y h=>absurd (show(none:Option _)=some y from h) (by simp)⟩
 |n+1=>Zg.cast (q:=pxT cx (Qq4 (Qj9 F n) F) (Qzp F) f251 (Qv f251) Qro) (by kernel_rfl) (Qtu Zt (Zn7 F n (Qzo F n)) (by kernel_rfl) (by kernel_rfl) (by kernel_rfl) (by kernel_rfl))
theorem Qr1(F:Nat):Zg cx 251 (Ze5 F):=Qzo F F
def Zdk:Qi:=⟨[.slot 1 (.val (.int .i64)),.vec 0 106 Zf],[(0,.own 0),(2,.stat (.pv (.lit (.func (.func 204) #[] #[]))))]⟩
def Zhs:Qi:=⟨[.vec 0 106 Zf],[]⟩
def Znu(F:Nat):LK:=lC (U6 F) (lC (Qa5 F) (lX (Qn7 F) (lX (Qg4 F) (lX (Qin F) (lX (Qr1 F) lN)))))
def Ql4(F:Nat)(a:Int×List (Qr)):Option (List (Qr)):=
 (Qq (σ:=List (Qr)×Int×Int) (β:=List (Qr)×Int) (fun(v66:List (Qr)×Int×Int)=>bif decide (v66.2.2≤a.1)then((gd (decide (a.2.length=v66.1.length)&&(true&&true)&&(true&&(true&&true))) (some ((v66.2.1,v66.2.2,v66.1)))).bind fun(v67:Int×Int×List (Qr))=>(K0 F v67).bind fun(v68:List (Qr))=>some (Sum.inl (v68,v66.2.2,w64 (v66.2.2+20))))else(some (Sum.inr (v66.1,v66.2.1)))) F ((a.2,(0:Int),(20:Int)))).bind fun(v54:List (Qr)×Int)=>(gd (decide (a.2.length=v54.1.length)&&(true&&true)&&(true&&(true&&true))) (some ((v54.2,a.1,v54.1)))).bind fun(v55:Int×Int×List (Qr))=>(K0 F v55).bind fun(v56:List (Qr))=>(Qq (σ:=List (Qr)×Int) (β:=List (Qr)) (fun(v58:List (Qr)×Int)=>bif decide (v58.2<a.1)then((Qq (σ:=List (Qr)×Int×Int) (β:=List (Qr)×Int) (fun(v63:List (Qr)×Int×Int)=>bif decide (v63.2.2≤a.1)then((gd (decide (a.2.length=v63.1.length)&&(true&&true)&&(true&&(true&&(true&&true)))) (some ((v63.2.1,w64 (v63.2.1+v58.2),v63.2.2,v63.1)))).bind fun(v64:Int×Int×Int×List (Qr))=>(Qvh F v64).bind fun(v65:List (Qr))=>some (Sum.inl (v65,v63.2.2,w64 (v63.2.2+w64 ((2:Int)*v58.2)))))else(some (Sum.inr (v63.1,v63.2.1)))) F ((v58.1,(0:Int),w64 ((2:Int)*v58.2)))).bind fun(v59:List (Qr)×Int)=>(bif decide (w64 (v59.2+v58.2)<a.1)then((gd (decide (a.2.length=v59.1.length)&&(true&&true)&&(true&&(true&&(true&&true)))) (some ((v59.2,w64 (v59.2+v58.2),a.1,v59.1)))).bind fun(v61:Int×Int×Int×List (Qr))=>(Qvh F v61).bind fun(v62:List (Qr))=>some (v62))else(some v59.1)).bind fun(v60:List (Qr))=>some (Sum.inl (v60,w64 (v58.2*(2:Int)))))else(some (Sum.inr v58.1))) F ((v56,(20:Int)))).bind fun(v57:List (Qr))=>some (v57)
def Zig(F:Nat):PX:={np:=3,locs:=[.arg 0],τ:=Zdk,nr:=0,ω:=Zhs,ids:=[0],mv:=[],code:=Ql4 F}
theorem Qzs(F:Nat):Zg cx 239 (Zig F):=qXE (Znu F) (Q8 2 (.two (.one (.loop ⟨[.vec 0 106 Zf,.slot 7 (.val (.int .i64)),.slot 8 (.val (.int .i64))],[]⟩ [(.exit 0,⟨[.vec 0 106 Zf,.slot 7 (.val (.int .i64))],[]⟩)] ⟨[14,15,16,17,18,20,21,22,8,7,19,13,12,11],[0],[]⟩ F .leaf)) (.two .leaf (.one (.loop ⟨[.vec 0 106 Zf,.slot 6 (.val (.int .i64))],[]⟩ [(.exit 2,⟨[.vec 0 106 Zf],[]⟩)] ⟨[31,32,7,8,49,50,51,9,55,56,57,58,59,60,54,53,52,6,62,61,36,37,38,39,40,41,42,43,45,46,47,48,44,35,34,33,30,29,28],[0],[]⟩ F (.two .leaf (.one (.two .leaf (.two (.one (.loop ⟨[.vec 0 106 Zf,.slot 7 (.val (.int .i64)),.slot 8 (.val (.int .i64))],[]⟩ [(.exit 4,⟨[.vec 0 106 Zf,.slot 7 (.val (.int .i64))],[]⟩)] ⟨(kU 36 8 (45::46::47::48::8::7::44::35::34::33::[])),[0],[]⟩ F .leaf)) (.two (Q8 2 (.join [(.normal,⟨[.vec 0 106 Zf],[]⟩)] ⟨(kD 60 6 []),[0],[]⟩ .leaf)) .leaf)))))))))) f239 (by kernel_rfl) fun a=>by kernel_rfl
def Zzd:Qi:=⟨[.vec 0 106 Zf],[(0,.own 0),(1,.stat (.pv (.lit (.func (.func 204) #[] #[]))))]⟩
def Zdr:Qi:=⟨[.vec 0 106 Zf],[]⟩
def Zwb(F:Nat):LK:=lC (U6 F) (lC (Qa5 F) (lX (Qn7 F) (lX (Qg4 F) (lX (Qin F) (lX (Qr1 F) (lX (Qzs F) lN))))))
def Qjf(F:Nat)(a:List (Qr)):Option (List (Qr)):=
 (gd (decide (a.length=a.length)&&(true&&true)&&(true&&true)) (some (((↑(a.length):Int),a)))).bind fun(v7:Int×List (Qr))=>(Ql4 F v7).bind fun(v8:List (Qr))=>some (v8)
def Zok(F:Nat):PX:={np:=2,locs:=[.arg 0],τ:=Zzd,nr:=0,ω:=Zdr,ids:=[0],mv:=[],code:=Qjf F}
theorem Zn6(F:Nat):Zg cx 203 (Zok F):=qXE (Zwb F) .leaf f203 (by kernel_rfl) fun a=>by kernel_rfl
def Zw2(F:Nat):LK:=lC (Qa5 F) (lX (Qn7 F) (lX (Qg4 F) (lX (Qin F) (lX (Qr1 F) (lX (Qzs F) (lX (Zn6 F) lN))))))
def Qbp(F:Nat)(a:(Qz)×ByteArray):Option (List (Qr)):=
 (Qq (σ:=List (Qr)×Int) (β:=List (Qr)) (fun(v18:List (Qr)×Int)=>bif decide (v18.2<(↑(a.1.2.2.2.1.length):Int))then(gd (decide (0≤v18.2)) (gd (decide (v18.2<(↑(a.1.2.2.2.1.length):Int))) (gd (decide (v18.2.toNat<a.1.2.2.2.1.length)) ((bif Qf (a.1.2.2.2.1.getD (v18.2.toNat) Zm).2.1 a.2 then(gd (decide (v18.1.length=v18.1.length)) (gd (decide (List.length (v18.1++(a.1.2.2.2.1.getD (v18.2.toNat) Zm)::Qb (Qr))*(88:Nat)≤(140737488355328:Nat))) (gd (decide (List.length (v18.1++(a.1.2.2.2.1.getD (v18.2.toNat) Zm)::Qb (Qr))≤9223372036854775807)) (gd (decide (List.length (v18.1++(a.1.2.2.2.1.getD (v18.2.toNat) Zm)::Qb (Qr))=List.length (v18.1++(a.1.2.2.2.1.getD (v18.2.toNat) Zm)::Qb (Qr)))&&true&&true) (some (v18.1++(a.1.2.2.2.1.getD (v18.2.toNat) Zm)::Qb (Qr)))))))else(gd (decide (v18.1.length=v18.1.length)&&true&&true) (some v18.1))).bind fun(v19:List (Qr))=>(gd (decide (v19.length=v19.length)&&true&&(true&&true)) (some ((v19,w64 (v18.2+1))))).bind fun(v20:List (Qr)×Int)=>some (Sum.inl v20)))))else((gd (decide (v18.1.length=v18.1.length)&&true&&true) (some v18.1)).bind fun(v21:List (Qr))=>some (Sum.inr v21))) F ((Qb (Qr),(0:Int)))).bind fun(v15:List (Qr))=>(gd (decide (v15.length=v15.length)&&(true&&true)&&true) (some (v15))).bind fun(v16:List (Qr))=>(Qjf F v16).bind fun(v17:List (Qr))=>gd (decide ((0:Nat)+v15.length≤v17.length)) (some (List.take (v15.length) (List.drop (0:Nat) v17)))
def Qvu(F:Nat):PC:={ats:=Qc4,rts:=Qe2,code:=Qbp F}
theorem Qlr(F:Nat):Qg cx 139 (Qvu F):=qE (Zw2 F) (Q8 2 (.two (.two .leaf (.one (.virt 5 106 Zf (.loop ⟨[.vec 1 106 Zf,.slot 11 (.val (.int .i64))],[(5,.own 1)]⟩ [(.exit 0,⟨[.vec 1 106 Zf],[(5,.own 1)]⟩)] ⟨[23,11,15,16,17,18,5,22,21,20,19,7,14,13,12],[1],[1]⟩ F (Q8 2 (.two (.one (Q8 2 (.join [(.normal,⟨[.vec 1 106 Zf],[(5,.own 1)]⟩)] ⟨[5,22,21,20,19],[1],[1]⟩ .leaf))) .leaf)))))) .leaf)) f139 (by kernel_rfl) fun a=>by kernel_rfl
def Zqu(F:Nat):LK:=lC (Qko F) (lS (PF.Q0 (Qgp F)) (lC (Qqf F) (lS (PF.Q0 (Qf6 F)) (lC (Zze F) (lC (Zke F) (lS (PF.Q0 (Qgb F)) (lC (Zyb F) (lC (Qaa F) (lC (Ziy F) (lC (Qxe F) (lC (Zxa F) (lC (Xc F) (lS (PF.Q0 (Qhl F)) (lC (Znx F) (lC (Qud F) (lC (Zrn F) (lC (Qvj F) (lC (Ztw F) (lC (Qzf F) (lC (Zmv F) lN))))))))))))))))))))
def Qqa(F:Nat):PC:=qT (Zqu F) (.two .leaf (.two (.join [(.normal,⟨[.slot 6 (.val (.int .i64))],[]⟩)] ⟨(6::kD 15 9 []),[],[]⟩ (.within [(96,.leaf)])) .leaf)) f135 K2 Zq
theorem Qye(F:Nat):Qg cx 135 (Qqa F):=Xh (by kernel_rfl)
def Zpw(F:Nat):LK:=lC (Qc6 F) (lC (Ya F) (lC (Yl F) (lC (Qcz F) lN)))
def Qa2(F:Nat)(a:(Zi)×(Qz)×ByteArray×Bool):Option ((Z4)×Int):=
 (Qdg F (a.1,a.2.2.1)).bind fun(v13:(Z4)×Bool)=>(c25 F (a.1,a.2.1.1,a.2.1.2.1,a.2.1.2.2.1,a.2.1.2.2.2.1,a.2.1.2.2.2.2)).bind fun(v14:Int)=>(Q1 F (!v13.2,(10:Int))).bind fun(v15:Int)=>(Q1 F (!decide (0<v13.1.2.2.2.2.2.2.2.2.2.2)==a.2.2.2,(13:Int))).bind fun(v16:Int)=>(Zn F (v14::v15::v16::Qb Int)).bind fun(v17:Int)=>some ((v13.1,v17))
def Qxu(F:Nat):PC:={ats:=Zd1,rts:=[.agg kt5,.val (.int .i64)],code:=Qa2 F}
theorem Qhq(F:Nat):Qg cx 137 (Qxu F):=qE (Zpw F) .leaf f137 (by kernel_rfl) fun a=>by kernel_rfl
def Znk(F:Nat):LK:=lC (Qap F) lN
def Qpv(F:Nat)(a:(Qz)×(Z4)×List (Qr)×Bool):Option (List ByteArray):=
 (Qq (σ:=Unit×List (ByteArray×Int)×List ByteArray×Int×Int) (β:=Unit×List (ByteArray×Int)×List ByteArray) (fun(v37:Unit×List (ByteArray×Int)×List ByteArray×Int×Int)=>bif decide (v37.2.2.2.2<(↑(a.2.2.1.length):Int))then(gd (decide (0≤v37.2.2.2.2)) (gd (decide (v37.2.2.2.2<(↑(a.2.2.1.length):Int))) (gd (decide (v37.2.2.2.2.toNat<a.2.2.1.length)) ((Qrz F (a.1,(a.2.2.1.getD (v37.2.2.2.2.toNat) Zm).1)).bind fun(v38:ByteArray)=>(bif decide (v37.2.2.2.1<a.2.1.2.2.2.2.2.1)then(some (decide (Ym Qf v38 v37.2.1 (0:Int)<a.2.1.2.2.2.2.2.2.1)))else(some (false))).bind fun(v39:Bool)=>(bif v39 then(some ((Ji Qf v38 (w64 (Ym Qf v38 v37.2.1 (0:Int)+(1:Int))) v37.2.1,w64 (v37.2.2.2.1+1))))else(some ((v37.2.1,v37.2.2.2.1)))).bind fun(v40:List (ByteArray×Int)×Int)=>(bif v39==a.2.2.2 then(gd (decide (v37.2.2.1.length=v37.2.2.1.length)) (gd (decide (List.length (v37.2.2.1++(a.2.2.1.getD (v37.2.2.2.2.toNat) Zm).1::Qb ByteArray)*(16:Nat)≤(140737488355328:Nat))) (gd (decide (List.length (v37.2.2.1++(a.2.2.1.getD (v37.2.2.2.2.toNat) Zm).1::Qb ByteArray)≤9223372036854775807)) (gd (true&&(decide (List.length (v37.2.2.1++(a.2.2.1.getD (v37.2.2.2.2.toNat) Zm).1::Qb ByteArray)=List.length (v37.2.2.1++(a.2.2.1.getD (v37.2.2.2.2.toNat) Zm).1::Qb ByteArray))&&true&&true&&true)) (some (((),v37.2.2.1++(a.2.2.1.getD (v37.2.2.2.2.toNat) Zm).1::Qb ByteArray)))))))else(gd (true&&(decide (v37.2.2.1.length=v37.2.2.1.length)&&true&&true&&true)) (some (((),v37.2.2.1))))).bind fun(v41:Unit×List ByteArray)=>(gd (true&&(decide (v41.2.length=v41.2.length)&&true&&true&&(true&&(true&&(true&&true))))) (some (((),v40.1,v41.2,v40.2,w64 (v37.2.2.2.2+1))))).bind fun(v42:Unit×List (ByteArray×Int)×List ByteArray×Int×Int)=>some (Sum.inl v42)))))else((gd (true&&(decide (v37.2.2.1.length=v37.2.2.1.length)&&true&&true&&(true&&true))) (some (((),v37.2.1,v37.2.2.1)))).bind fun(v43:Unit×List (ByteArray×Int)×List ByteArray)=>some (Sum.inr v43))) F (((),Qb (ByteArray×Int),Qb ByteArray,(0:Int),(0:Int)))).bind fun(v36:Unit×List (ByteArray×Int)×List ByteArray)=>gd (decide ((0:Nat)+v36.2.2.length≤v36.2.2.length)) (some (List.take (v36.2.2.length) (List.drop (0:Nat) v36.2.2)))
def Qzd(F:Nat):PC:={ats:=[.agg Yk,.agg kt5,.val (.seq Zf),.val (.bool)],rts:=Ux,code:=Qpv F}
theorem Qny(F:Nat):Qg cx 138 (Qzd F):=qE (Znk F) (Q8 2 (.two (.two (.within [(196,.leaf)]) (.one (.within [(100000227,(Q8 3 (.one (.virtF 3 0 9 Zr (.loop ⟨[.mix 3 25 1 [] [(0,.own 10)],.map 9 (.val (.str)) (.val (.int .i64)),.vec 10 9 Zr,.slot 5 (.val (.int .i64)),.slot 14 (.val (.int .i64))],[]⟩ [(.exit 0,⟨[.mix 3 25 1 [] [(0,.own 10)],.map 9 (.val (.str)) (.val (.int .i64)),.vec 10 9 Zr],[]⟩)] ⟨[46,14,18,19,20,21,9,34,37,38,39,40,5,36,35,45,44,43,42,41,10,33,32,31,30,29,28,27,26,25,24,23,22,8,17,16,15],[10,3,9],[10]⟩ F (Q8 2 (.two (.one (Q8 2 (.two (.join [(.normal,⟨[.slot 10 (.val (.bool))],[]⟩)] ⟨(10::kD 33 12 []),[],[]⟩ .leaf) (.two (.two .leaf (.join [(.normal,⟨[.map 9 (.val (.str)) (.val (.int .i64)),.slot 5 (.val (.int .i64))],[]⟩)] ⟨[37,38,39,40,5,36,35],[9],[]⟩ .leaf)) (.two (.within [(1000008,(.one (.two .leaf (.join [(.normal,⟨[.mix 3 25 1 [] [(0,.own 10)],.vec 10 9 Zr],[]⟩)] ⟨[25,24,23,22,21],[10,3],[10]⟩ .leaf))))]) .leaf))))) .leaf)))))))]))) .leaf)) f138 (by kernel_rfl) fun a=>by kernel_rfl
def Zg6(F:Nat):LK:=lC (Qny F) (lC (Qlr F) (lC (Qhq F) lN))
def c52(F:Nat)(a:(Zi)×(Qz)×ByteArray):Option (List ByteArray×Int):=
 (Qa2 F (a.1,a.2.1,a.2.2,false)).bind fun(v9:(Z4)×Int)=>bif !decide (v9.2=0)then(some ((Qb ByteArray,v9.2)))else((Qbp F (a.2.1,a.2.2)).bind fun(v10:List (Qr))=>(Qpv F (a.2.1,v9.1,v10,true)).bind fun(v11:List ByteArray)=>some ((v11,(0:Int))))
def Qrq(F:Nat):PC:={ats:=Qe9,rts:=Qoz,code:=c52 F}
theorem Quz(F:Nat):Qg cx 52 (Qrq F):=qE (Zg6 F) .leaf f52 (by kernel_rfl) fun a=>by kernel_rfl
def Zmg(F:Nat):LK:=lC (Qlr F) (lC (Qhq F) lN)
def c55(F:Nat)(a:(Zi)×(Qz)×ByteArray):Option (List (Qr)×Int):=
 (Qa2 F (a.1,a.2.1,a.2.2,false)).bind fun(v7:(Z4)×Int)=>bif !decide (v7.2=0)then(some ((Qb (Qr),v7.2)))else((Qbp F (a.2.1,a.2.2)).bind fun(v8:List (Qr))=>some ((v8,(0:Int))))
def Zfu(F:Nat):PC:={ats:=Qe9,rts:=[.val (.seq Zf),.val (.int .i64)],code:=c55 F}
theorem Zf6(F:Nat):Qg cx 55 (Zfu F):=qE (Zmg F) .leaf f55 (by kernel_rfl) fun a=>by kernel_rfl
def Zhi(F:Nat):LK:=lC (Qny F) (lC (Qlr F) (lC (Qhq F) lN))
def c56(F:Nat)(a:(Zi)×(Qz)×ByteArray):Option (List ByteArray×Int):=
 (Qa2 F (a.1,a.2.1,a.2.2,false)).bind fun(v9:(Z4)×Int)=>bif !decide (v9.2=0)then(some ((Qb ByteArray,v9.2)))else((Qbp F (a.2.1,a.2.2)).bind fun(v10:List (Qr))=>(Qpv F (a.2.1,v9.1,v10,false)).bind fun(v11:List ByteArray)=>some ((v11,(0:Int))))
def Qug(F:Nat):PC:={ats:=Qe9,rts:=Qoz,code:=c56 F}
theorem Zy7(F:Nat):Qg cx 56 (Qug F):=qE (Zhi F) .leaf f56 (by kernel_rfl) fun a=>by kernel_rfl
end
end Go.Proofs.Tryz

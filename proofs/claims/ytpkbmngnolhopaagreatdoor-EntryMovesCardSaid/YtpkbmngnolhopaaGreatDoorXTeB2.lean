/- Functions of the program as functions of data. By program. -/
import Derived.Test.YtpkbmngnolhopaaGreatDoorXTeB1
set_option maxRecDepth 100000
set_option linter.all false
namespace Go.Proofs.Tryz
open Go Go.Sx
noncomputable section
def Zrk(F:Nat):LK:=lC (Z3 F) (lC (Vd F) lN)
def Qzw(F:Nat):PC:=qT (Zrk F) .leaf f158 Xv Zg
def Ycf(F:Nat):=(Qzw F).code
theorem Zdj(F:Nat):Qg cx 158 (Qzw F):=Xw (by kernel_rfl)
def Qv3(F:Nat):LK:=lN
def Zgu(F:Nat)(a:List ByteArray):Option (List ByteArray):=
 bif decide (a.length=0)then((gd (decide (List.length (Qa ByteArray++a)*(16:Nat)≤(140737488355328:Nat))) (gd (decide (List.length (Qa ByteArray++a)≤9223372036854775807)) (gd (decide (List.length (Qa ByteArray++a)=List.length (Qa ByteArray++a))) (some (Qa ByteArray++a))))).bind fun(v4:List ByteArray)=>gd (Wb (Qi.eqv Z2) (Qa ByteArray) v4) (some (Qa ByteArray)))else(gd (decide (List.length (Qa ByteArray++a)*(16:Nat)≤(140737488355328:Nat))) (gd (decide (List.length (Qa ByteArray++a)≤9223372036854775807)) (gd (decide (List.length (Qa ByteArray++a)=List.length (Qa ByteArray++a))) (some (Qa ByteArray++a)))))
def Qnh(F:Nat):PF:={ats:=Qbg,ty:=9,row:=Z2,code:=Zgu F}
theorem Zna(F:Nat)(a:List ByteArray):codeF cx (Qv3 F).x 1000 .leaf f150 (Qq f150) Qbg 9 Z2 a=Zgu F a:=by kernel_rfl
theorem Wh(F:Nat):Jj cx 150 (Qnh F):=Jj.Zr Zs (Qv3 F).ok (n:=1000) (an:=.leaf) (fn:=f150) (c:=Qq f150) (by kernel_rfl) (by kernel_rfl) (fun a y h=>(Zna F a).trans h) (by kernel_rfl)
def Zju(F:Nat):LK:=lS (PF.Qo (Wh F)) lN
def Qz2(F:Nat):PC:=qT (Zju F) .leaf f160 Qoy Qbg
theorem Qme(F:Nat):Qg cx 160 (Qz2 F):=Xw (by kernel_rfl)
def Yj7(F:Nat):LK:=lC (Z6 F) (lC (Y7 F) (lC (Z3 F) (lC (Vd F) lN)))
def Qxl(F:Nat):PC:=qT (Yj7 F) .leaf f161 Xv Zg
def Ycc(F:Nat):=(Qxl F).code
theorem Zes(F:Nat):Qg cx 161 (Qxl F):=Xw (by kernel_rfl)
def Zdx(F:Nat):LK:=lN
def Zfr(F:Nat)(a:List (Qu)):Option (List (Qu)):=
 bif decide (a.length=0)then((gd (decide (List.length (Qa (Qu)++a)*(56:Nat)≤(140737488355328:Nat))) (gd (decide (List.length (Qa (Qu)++a)≤9223372036854775807)) (gd (decide (List.length (Qa (Qu)++a)=List.length (Qa (Qu)++a))) (some (Qa (Qu)++a))))).bind fun(v4:List (Qu))=>gd (Wb (Qi.eqv Xm) (Qa (Qu)) v4) (some (Qa (Qu))))else(gd (decide (List.length (Qa (Qu)++a)*(56:Nat)≤(140737488355328:Nat))) (gd (decide (List.length (Qa (Qu)++a)≤9223372036854775807)) (gd (decide (List.length (Qa (Qu)++a)=List.length (Qa (Qu)++a))) (some (Qa (Qu)++a)))))
def Qn3(F:Nat):PF:={ats:=Qc8,ty:=116,row:=Xm,code:=Zfr F}
theorem Yb5(F:Nat)(a:List (Qu)):codeF cx (Zdx F).x 1000 .leaf f199 (Qq f199) Qc8 116 Xm a=Zfr F a:=by kernel_rfl
theorem Xg(F:Nat):Jj cx 199 (Qn3 F):=Jj.Zr Zs (Zdx F).ok (n:=1000) (an:=.leaf) (fn:=f199) (c:=Qq f199) (by kernel_rfl) (by kernel_rfl) (fun a y h=>(Yb5 F a).trans h) (by kernel_rfl)
def Yaz(F:Nat):LK:=lS (PF.Qo (Xg F)) lN
def Qx2(F:Nat):PC:=qT (Yaz F) .leaf f213 [.val (.seq Xm),.agg Xm] Qc8
theorem Qpq(F:Nat):Qg cx 213 (Qx2 F):=Xw (by kernel_rfl)
def Zul(F:Nat):LK:=lC (Z3 F) (lC (Y7 F) lN)
def Zaz(F:Nat):PC:=qT (Zul F) .leaf f163 Xv Zg
def Ziw(F:Nat):=(Zaz F).code
theorem Zao(F:Nat):Qg cx 163 (Zaz F):=Xw (by kernel_rfl)
def Zaq(F:Nat):LK:=lN
def Zfs(F:Nat)(a:List (Qz)):Option (List (Qz)):=
 bif decide (a.length=0)then((gd (decide (List.length (Qa (Qz)++a)*(32:Nat)≤(140737488355328:Nat))) (gd (decide (List.length (Qa (Qz)++a)≤9223372036854775807)) (gd (decide (List.length (Qa (Qz)++a)=List.length (Qa (Qz)++a))) (some (Qa (Qz)++a))))).bind fun(v4:List (Qz))=>gd (Wb (Qi.eqv Xp) (Qa (Qz)) v4) (some (Qa (Qz))))else(gd (decide (List.length (Qa (Qz)++a)*(32:Nat)≤(140737488355328:Nat))) (gd (decide (List.length (Qa (Qz)++a)≤9223372036854775807)) (gd (decide (List.length (Qa (Qz)++a)=List.length (Qa (Qz)++a))) (some (Qa (Qz)++a)))))
def Qm5(F:Nat):PF:={ats:=Qc1,ty:=124,row:=Xp,code:=Zfs F}
theorem Zk6(F:Nat)(a:List (Qz)):codeF cx (Zaq F).x 1000 .leaf f200 (Qq f200) Qc1 124 Xp a=Zfs F a:=by kernel_rfl
theorem Qlz(F:Nat):Jj cx 200 (Qm5 F):=Jj.Zr Zs (Zaq F).ok (n:=1000) (an:=.leaf) (fn:=f200) (c:=Qq f200) (by kernel_rfl) (by kernel_rfl) (fun a y h=>(Zk6 F a).trans h) (by kernel_rfl)
def Ziv(F:Nat):LK:=lS (PF.Qo (Qlz F)) lN
def Qw2(F:Nat):PC:=qT (Ziv F) .leaf f214 [.val (.seq Xp),.agg Xp] Qc1
theorem Qph(F:Nat):Qg cx 214 (Qw2 F):=Xw (by kernel_rfl)
def Zz0(F:Nat):LK:=lN
def Zu4(F:Nat):PC:=qT (Zz0 F) (Q8 2 (.two (.two .leaf (.one (.loop ⟨[.slot 5 (.val (.int .i64)),.slot 11 (.val (.int .i64))],[]⟩ [(.exit 0,⟨[.slot 5 (.val (.int .i64))],[]⟩)] ⟨[21,11,15,16,17,18,5,20,19,7,14,13,12],[],[]⟩ F (Q8 2 (.two (.one (Q8 2 (.join [(.normal,⟨[.slot 5 (.val (.int .i64))],[]⟩)] ⟨[5,20,19],[],[]⟩ .leaf))) .leaf))))) .leaf)) f215 Qct Zg
theorem Qnv(F:Nat):Qg cx 215 (Zu4 F):=Xw (by kernel_rfl)
def Zjk(F:Nat):LK:=lC (Ul F) (lC (Z3 F) (lC (Qnv F) (lC (Z6 F) (lC (Vd F) (lC (Y7 F) lN)))))
def Za7(F:Nat):PC:=qT (Zjk F) (.two .leaf (.two (.two (.join [(.normal,⟨[.slot 18 (.val (.bool))],[]⟩)] ⟨(Ql 18 12 []),[],[]⟩ .leaf) .leaf) .leaf)) f165 Xv Zg
def Zmb(F:Nat):=(Za7 F).code
theorem Zeg(F:Nat):Qg cx 165 (Za7 F):=Xw (by kernel_rfl)
def Yf7(F:Nat):LK:=lC (Z6 F) (lC (Zri F) (lC (Z3 F) (lC (Y7 F) lN)))
def Yhm(F:Nat):PC:=qT (Yf7 F) (Q8 3 (.two (.join [(.normal,⟨[.slot 8 (.val (.int .i64))],[]⟩)] ⟨(8::Ql 62 39 []),[],[]⟩ .leaf) .leaf)) f140 [.agg Zj,.agg Y9,.agg Y1,.val (.str)] Zg
theorem Qgu(F:Nat):Qg cx 140 (Yhm F):=Xw (by kernel_rfl)
def Zrh(F:Nat):LK:=lN
def Qm2(F:Nat)(a:(ByteArray×Int×ByteArray)×ByteArray×Int×ByteArray):Option (Bool):=
 (bif !Qc a.1.1 a.2.1 then(bif !Qc a.1.1 {data:=List.toArray (110::111::110::101::Qa UInt8)}then(some (!Qc a.2.1 {data:=List.toArray (110::111::110::101::Qa UInt8)}))else(some (false)))else(some (false))).bind fun(v5:Bool)=>some (v5)
def Zw7(F:Nat):PC:={ats:=[.agg Wk,.agg Wk],rts:=Xd,code:=Qm2 F}
theorem Zjv(F:Nat):Qg cx 240 (Zw7 F):=qE (Zrh F) (.two .leaf (.two (.join [(.normal,⟨[.slot 4 (.val (.bool))],[]⟩)] ⟨(4::Ql 19 15 []),[],[]⟩ .leaf) .leaf)) f240 (by kernel_rfl) fun a=>by kernel_rfl
def Yfu(F:Nat):LK:=lN
def Qj4(F:Nat)(a:ByteArray×Int×ByteArray):Option (Int):=
 tw (X:=Int) (Qs.eqv (Qf.val (Ty.int Go.IntKind.i64)::Qa Qf)) (bif Qc a.1 {data:=List.toArray (116::105::109::101::Qa UInt8)}then(some (Go.IntKind.wrap Go.IntKind.i64 ((0:Int)-a.2.1)))else(bif Qc a.1 {data:=List.toArray (108::101::110::103::116::104::Qa UInt8)}then(some a.2.1)else(bif Qc a.1 {data:=List.toArray (112::111::105::110::116::115::Qa UInt8)}then(some a.2.1)else(some ((-864000000:Int))))))
def Zim(F:Nat):PC:={ats:=[.agg Wk],rts:=Zg,code:=Qj4 F}
theorem Zh3(F:Nat):Qg cx 252 (Zim F):=qE (Yfu F) (.two .leaf (.two (.within [(178,.leaf)]) .leaf)) f252 (by kernel_rfl) fun a=>by kernel_rfl
def Ygd(F:Nat):LK:=lC (Zh3 F) lN
def Qmq(F:Nat)(a:(ByteArray×Int×ByteArray)×ByteArray×Int×ByteArray):Option (Int):=
 (Qj4 F a.1).bind fun(v7:Int)=>(Qj4 F a.2).bind fun(v8:Int)=>bif decide (v8<v7)then(some ((-1:Int)))else(bif decide (v7<v8)then(some ((1:Int)))else(some ((0:Int))))
def Ygk(F:Nat):PC:={ats:=[.agg Wk,.agg Wk],rts:=Zg,code:=Qmq F}
theorem Zuy(F:Nat):Qg cx 241 (Ygk F):=qE (Ygd F) .leaf f241 (by kernel_rfl) fun a=>by kernel_rfl
def Zj4(F:Nat):LK:=lC (Zuy F) (lC (Za9 F) (lC (Qxg F) (lC (Zjv F) (lC (Wx F) lN))))
def Qlx(F:Nat)(a:(ByteArray×Int×ByteArray)×ByteArray×Int×ByteArray):Option (Int×Int):=
 (c99 F a.1).bind fun(v15:Int)=>(c99 F a.2).bind fun(v16:Int)=>(Qm2 F (a.1,a.2.1,a.2.2.1,a.2.2.2)).bind fun(v17:Bool)=>(Xx F (v17,(13:Int))).bind fun(v18:Int)=>(Wl F (v15::v16::v18::Qa Int)).bind fun(v19:Int)=>bif !decide (v19=0)then(some (((0:Int),v19)))else((Qmq F (a.1,a.2.1,a.2.2.1,a.2.2.2)).bind fun(v20:Int)=>some ((v20,(0:Int))))
def Zgg(F:Nat):PC:={ats:=[.agg Wk,.agg Wk],rts:=Qpb,code:=Qlx F}
theorem U5(F:Nat):Qg cx 205 (Zgg F):=qE (Zj4 F) .leaf f205 (by kernel_rfl) fun a=>by kernel_rfl
def Zxx(F:Nat):LK:=lC (Y7 F) (lC (U5 F) (lC (Qnv F) (lC (Z6 F) (lC (Qle F) (lC (Qgu F) (lC (X0 F) (lC (Z3 F) (lC (Qb4 F) lN))))))))
def Qzp(F:Nat):PC:=qT (Zxx F) (Q8 2 (.two (.two (.join [(.normal,⟨[.slot 27 (.val (.bool))],[]⟩)] ⟨(Ql 27 9 []),[],[]⟩ .leaf) .leaf) (.two (.two (.join [(.normal,⟨[.slot 9 (.val (.int .i64))],[]⟩)] ⟨(9::Ql 66 39 []),[],[]⟩ .leaf) .leaf) (.two .leaf (.two (.join [(.normal,⟨[.slot 6 (.val (.int .i64))],[]⟩)] ⟨(6::Ql 96 19 []),[],[]⟩ .leaf) .leaf))))) f167 Xv Zg
def Zmc(F:Nat):=(Qzp F).code
theorem Qv7(F:Nat):Qg cx 167 (Qzp F):=Xw (by kernel_rfl)
def Zdl(F:Nat):LK:=lN
def Qim(F:Nat)(a:List (Qh)):Option (List (Qh)):=
 bif decide (a.length=0)then((gd (decide (List.length (Qa (Qh)++a)*(88:Nat)≤(140737488355328:Nat))) (gd (decide (List.length (Qa (Qh)++a)≤9223372036854775807)) (gd (decide (List.length (Qa (Qh)++a)=List.length (Qa (Qh)++a))) (some (Qa (Qh)++a))))).bind fun(v4:List (Qh))=>gd (Wb (Qi.eqv Zn) (Qa (Qh)) v4) (some (Qa (Qh))))else(gd (decide (List.length (Qa (Qh)++a)*(88:Nat)≤(140737488355328:Nat))) (gd (decide (List.length (Qa (Qh)++a)≤9223372036854775807)) (gd (decide (List.length (Qa (Qh)++a)=List.length (Qa (Qh)++a))) (some (Qa (Qh)++a)))))
def Qk5(F:Nat):PF:={ats:=Qa3,ty:=106,row:=Zn,code:=Qim F}
theorem Zsn(F:Nat)(a:List (Qh)):codeF cx (Zdl F).x 1000 .leaf f201 (Qq f201) Qa3 106 Zn a=Qim F a:=by kernel_rfl
theorem Y8(F:Nat):Jj cx 201 (Qk5 F):=Jj.Zr Zs (Zdl F).ok (n:=1000) (an:=.leaf) (fn:=f201) (c:=Qq f201) (by kernel_rfl) (by kernel_rfl) (fun a y h=>(Zsn F a).trans h) (by kernel_rfl)
def Yik(F:Nat):LK:=lS (PF.Qo (Y8 F)) lN
def Qw1(F:Nat):PC:=qT (Yik F) .leaf f216 [.val (.seq Zn),.agg Zn] Qa3
theorem Qn1(F:Nat):Qg cx 216 (Qw1 F):=Xw (by kernel_rfl)
def Ybq(F:Nat):LK:=lC (Z6 F) (lC (Z3 F) (lC (X0 F) lN))
def Qk6(F:Nat)(a:(Za)×(Qk)×Z4):Option (Int):=
 (J5 F (a.2.1,a.2.2.2.2.1,a.2.2.2.2.2.2.2.1)).bind fun(v11:Int)=>(Qx F (decide (v11<0),(10:Int))).bind fun(v12:Int)=>(Qx F (decide (a.1.1<a.2.2.1),(20:Int))).bind fun(v13:Int)=>(Q9 F (v12::v13::Qa Int)).bind fun(v14:Int)=>some (v14)
def Zus(F:Nat):PC:={ats:=Xv,rts:=Zg,code:=Qk6 F}
theorem Qzn(F:Nat):Qg cx 169 (Zus F):=qE (Ybq F) .leaf f169 (by kernel_rfl) fun a=>by kernel_rfl
def Yiu(F:Nat):LK:=lN
def Ydk(F:Nat):PC:=qT (Yiu F) .leaf f217 [.val (.seq Zn),.val (.int .i64),.val (.int .i64)] Qa3
theorem Zd3(F:Nat):Qg cx 217 (Ydk F):=Xw (by kernel_rfl)
def Yky(F:Nat):LK:=lC (Z6 F) (lC (Z3 F) (lC (X0 F) lN))
def Qwc(F:Nat):PC:=qT (Yky F) .leaf f171 Xv Zg
def Zwp(F:Nat):=(Qwc F).code
theorem Zee(F:Nat):Qg cx 171 (Qwc F):=Xw (by kernel_rfl)
def Zk2:Qj:=⟨[.slot 0 (.val (.int .i64)),.slot 1 (.val (.str)),.one 0 31 Zj,.one 1 35 W7,.one 2 24 Y9,.one 3 110 Y1],[(2,.stat (.ptr 0 5 0 0)),(3,.stat (.ptr 1 12 0 0)),(4,.stat (.ptr 2 5 0 0)),(5,.stat (.ptr 3 11 0 0))]⟩
def Yd0:Qj:=⟨[.slot 0 (.val (.int .i64))],[]⟩
def Zoa(F:Nat):LK:=lC (Ul F) (lC (Z3 F) (lC (Jt F) (lC (Qgu F) (lC (Z6 F) (lC (Y7 F) lN)))))
def Yed(F:Nat):PX:=qX (Zoa F) .leaf f218 (pxB 6 [.arg 2,.arg 3,.arg 4,.arg 5] Zk2 1 Yd0 [] [])
theorem Qu8(F:Nat):Zb cx 218 (Yed F):=Xo (by kernel_rfl)
def Zq9:Qj:=⟨[.slot 0 (.val (.seq Z2)),.one 0 31 Zj,.one 1 35 W7,.one 2 24 Y9,.one 3 110 Y1],[(1,.stat (.fn (.func 218) [] [.ptr 0 5 0 0,.ptr 1 12 0 0,.ptr 2 5 0 0,.ptr 3 11 0 0]))]⟩
def Ykh:Qj:=⟨[.slot 0 (.val (.int .i64))],[]⟩
def Zzz(F:Nat):LK:=lC (Ul F) (lC (Z3 F) (lC (Jt F) (lC (Qgu F) (lC (Z6 F) (lC (Y7 F) (lX (Qu8 F) lN))))))
def Zn4(F:Nat):PX:=qX (Zzz F) (.two .leaf (.two (.two .leaf (.one (.loop ⟨[.slot 10 (.val (.int .i64))],[]⟩ [(.ret,⟨[.slot 4 (.val (.int .i64))],[]⟩),(.exit 0,⟨[],[]⟩)] ⟨[22,10,15,16,17,18,7,21,4,20,19,6,5,14,13,12,11],[],[]⟩ F .leaf))) .leaf)) f100 (pxB 2 [.cap (.arg 1) 0,.cap (.arg 1) 1,.cap (.arg 1) 2,.cap (.arg 1) 3] Zq9 1 Ykh [] [])
theorem Ku(F:Nat):Zb cx 100 (Zn4 F):=Xo (by kernel_rfl)
def Zwg(F:Nat):LK:=lC (Vd F) (lC (Ul F) (lC (Z3 F) (lC (Jt F) (lC (Qgu F) (lC (Z6 F) (lC (Y7 F) (lC (Qb4 F) (lX (Vi F) (lX (V1 F) (lX (Qu8 F) (lX (Ku F) lN)))))))))))
def Qz0(F:Nat):PC:=qT (Zwg F) (Q8 2 (.two (.two (.join [(.normal,⟨[.slot 9 (.val (.int .i64))],[]⟩)] ⟨(9::Ql 45 29 []),[],[]⟩ .leaf) .leaf) .leaf)) f173 Xv Zg
def Zv9(F:Nat):=(Qz0 F).code
theorem Zen(F:Nat):Qg cx 173 (Qz0 F):=Xw (by kernel_rfl)
def Zce(F:Nat):LK:=lN
def Qa4(F:Nat)(a:List (Qy)):Option (List (Qy)):=
 bif decide (a.length=0)then((gd (decide (List.length (Qa (Qy)++a)*(56:Nat)≤(140737488355328:Nat))) (gd (decide (List.length (Qa (Qy)++a)≤9223372036854775807)) (gd (decide (List.length (Qa (Qy)++a)=List.length (Qa (Qy)++a))) (some (Qa (Qy)++a))))).bind fun(v4:List (Qy))=>gd (Wb (Qi.eqv Ys) (Qa (Qy)) v4) (some (Qa (Qy))))else(gd (decide (List.length (Qa (Qy)++a)*(56:Nat)≤(140737488355328:Nat))) (gd (decide (List.length (Qa (Qy)++a)≤9223372036854775807)) (gd (decide (List.length (Qa (Qy)++a)=List.length (Qa (Qy)++a))) (some (Qa (Qy)++a)))))
def Ws(F:Nat):PF:={ats:=Qpg,ty:=147,row:=Ys,code:=Qa4 F}
theorem Yfx(F:Nat)(a:List (Qy)):codeF cx (Zce F).x 1000 .leaf f202 (Qq f202) Qpg 147 Ys a=Qa4 F a:=by kernel_rfl
theorem Xb(F:Nat):Jj cx 202 (Ws F):=Jj.Zr Zs (Zce F).ok (n:=1000) (an:=.leaf) (fn:=f202) (c:=Qq f202) (by kernel_rfl) (by kernel_rfl) (fun a y h=>(Yfx F a).trans h) (by kernel_rfl)
def Zix(F:Nat):LK:=lS (PF.Qo (Xb F)) lN
def Qt4(F:Nat):PC:=qT (Zix F) .leaf f219 [.val (.seq Ys),.agg Ys] Qpg
theorem Qhh(F:Nat):Qg cx 219 (Qt4 F):=Xw (by kernel_rfl)
def Yeo(F:Nat):LK:=lC (Vc F) lN
def Qm4(F:Nat)(a:Int×ByteArray):Option (Int):=
 (c92 F a.2).bind fun(v5:Int)=>some (v5)
def Yds(F:Nat):PC:={ats:=[.val (.int .i64),.val (.str)],rts:=Zg,code:=Qm4 F}
theorem Qa0(F:Nat):Qg cx 101 (Yds F):=qE (Yeo F) .leaf f101 (by kernel_rfl) fun a=>by kernel_rfl
def Yez(F:Nat):LK:=lC (U5 F) lN
def Qlk(F:Nat)(a:(Qh)×Qh):Option (Int):=
 (Qlx F ((a.1.2.2.1,a.1.2.2.2.1,a.1.2.2.2.2.1),a.2.2.2.1,a.2.2.2.2.1,a.2.2.2.2.2.1)).bind fun(v5:Int×Int)=>bif !decide (v5.1=0)then(some v5.1)else(some (w64 (a.1.2.2.2.2.2.1-a.2.2.2.2.2.2.1)))
def Zg8(F:Nat):PC:={ats:=[.agg Zn,.agg Zn],rts:=Zg,code:=Qlk F}
theorem Qd9(F:Nat):Qg cx 204 (Zg8 F):=qE (Yez F) .leaf f204 (by kernel_rfl) fun a=>by kernel_rfl
def Zx4:Qj:=⟨[.slot 1 (.val (.int .i64)),.slot 2 (.val (.int .i64)),.vec 0 106 Zn],[(0,.own 0),(3,.stat (.pv (.lit (.func (.func 204) #[] #[]))))]⟩
def Yjo:Qj:=⟨[.vec 0 106 Zn],[]⟩
def Zki(F:Nat):LK:=lC (U5 F) (lC (Qd9 F) lN)
def Qaw(F:Nat)(a:Int×Int×List (Qh)):Option (List (Qh)):=
 (Q2 (σ:=List (Qh)×Int) (β:=List (Qh)) (fun(v31:List (Qh)×Int)=>bif decide (v31.2<a.2.1)then((Q2 (σ:=List (Qh)×Int) (β:=List (Qh)) (fun(v33:List (Qh)×Int)=>(bif decide (a.1<v33.2)then(gd (decide (0≤v33.2)) (gd (decide (v33.2<(↑(a.2.2.length):Int))) (gd (decide ((0:Nat)+v33.2.toNat<v33.1.length)) (gd (decide (0≤w64 (v33.2-1))) (gd (decide (w64 (v33.2-1)<(↑(a.2.2.length):Int))) (gd (decide ((0:Nat)+Int.toNat (w64 (v33.2-1))<v33.1.length)) ((Qlk F ((v33.1.getD ((0:Nat)+v33.2.toNat) Q6),(v33.1.getD ((0:Nat)+Int.toNat (w64 (v33.2-1))) Q6).1,(v33.1.getD ((0:Nat)+Int.toNat (w64 (v33.2-1))) Q6).2.1,(v33.1.getD ((0:Nat)+Int.toNat (w64 (v33.2-1))) Q6).2.2.1,(v33.1.getD ((0:Nat)+Int.toNat (w64 (v33.2-1))) Q6).2.2.2.1,(v33.1.getD ((0:Nat)+Int.toNat (w64 (v33.2-1))) Q6).2.2.2.2.1,(v33.1.getD ((0:Nat)+Int.toNat (w64 (v33.2-1))) Q6).2.2.2.2.2.1,(v33.1.getD ((0:Nat)+Int.toNat (w64 (v33.2-1))) Q6).2.2.2.2.2.2)).bind fun(v35:Int)=>some (decide (v35<0)))))))))else(some (false))).bind fun(v34:Bool)=>bif v34 then(gd (decide (0≤w64 (v33.2-1))) (gd (decide (w64 (v33.2-1)<(↑(a.2.2.length):Int))) (gd (decide ((0:Nat)+Int.toNat (w64 (v33.2-1))<v33.1.length)) (gd (decide (0≤v33.2)) (gd (decide (v33.2<(↑(a.2.2.length):Int))) (gd (decide ((0:Nat)+v33.2.toNat<v33.1.length)) (gd (decide (0≤v33.2)) (gd (decide (v33.2<(↑(a.2.2.length):Int))) (gd (decide ((0:Nat)+v33.2.toNat<v33.1.length)) (gd (decide (0≤w64 (v33.2-1))) (gd (decide (w64 (v33.2-1)<(↑(a.2.2.length):Int))) (gd (decide ((0:Nat)+Int.toNat (w64 (v33.2-1))<List.length (List.set v33.1 ((0:Nat)+v33.2.toNat) (v33.1.getD ((0:Nat)+Int.toNat (w64 (v33.2-1))) Q6)))) (some (Sum.inl (List.set (List.set v33.1 ((0:Nat)+v33.2.toNat) (v33.1.getD ((0:Nat)+Int.toNat (w64 (v33.2-1))) Q6)) ((0:Nat)+Int.toNat (w64 (v33.2-1))) (v33.1.getD ((0:Nat)+v33.2.toNat) Q6),w64 (v33.2-1))))))))))))))))else(some (Sum.inr v33.1))) F (v31)).bind fun(v32:List (Qh))=>some (Sum.inl (v32,w64 (v31.2+1))))else(some (Sum.inr v31.1))) F ((a.2.2,w64 (a.1+1)))).bind fun(v30:List (Qh))=>some (v30)
def Yfi(F:Nat):PX:={np:=4,locs:=[.arg 0],τ:=Zx4,nr:=0,ω:=Yjo,ids:=[0],mv:=[],code:=Qaw F}
theorem Qsm(F:Nat):Zb cx 250 (Yfi F):=qXE (Zki F) (.two .leaf (.one (.loop ⟨[.vec 0 106 Zn,.slot 8 (.val (.int .i64))],[]⟩ [(.exit 0,⟨[.vec 0 106 Zn],[]⟩)] ⟨(17::9::Yd 37 16 (Ql 36 19 (8::16::15::14::13::12::[]))),[0],[]⟩ F (.two .leaf (.two (.one (.two .leaf (.one (.loop ⟨[.vec 0 106 Zn,.slot 9 (.val (.int .i64))],[]⟩ [(.exit 2,⟨[.vec 0 106 Zn],[]⟩)] ⟨(Yd 37 16 (9::Ql 36 19 [])),[0],[]⟩ F (.two (.two (.join [(.normal,⟨[.slot 34 (.val (.bool))],[]⟩)] ⟨(Ql 34 17 []),[],[]⟩ .leaf) .leaf) .leaf))))) .leaf))))) f250 (by kernel_rfl) fun a=>by kernel_rfl
def Ycm:Qj:=⟨[.slot 1 (.val (.int .i64)),.slot 2 (.val (.int .i64)),.slot 3 (.val (.int .i64)),.vec 0 106 Zn],[(0,.own 0),(4,.stat (.pv (.lit (.func (.func 204) #[] #[]))))]⟩
def Ydj:Qj:=⟨[.vec 0 106 Zn],[]⟩
def Zso(F:Nat):LK:=lC (U5 F) (lC (Qd9 F) lN)
def Qyc(F:Nat):PX:=qX (Zso F) (.two .leaf (.one (.loop ⟨[.vec 0 106 Zn,.slot 10 (.val (.int .i64))],[]⟩ [(.exit 0,⟨[.vec 0 106 Zn],[]⟩)] ⟨(Yd 16 22 (10::15::14::13::12::11::[])),[0],[]⟩ F .leaf))) f267 (pxB 5 [.arg 0] Ycm 0 Ydj [0] [])
theorem Qhx(F:Nat):Zb cx 267 (Qyc F):=Xo (by kernel_rfl)
def Ygu:Qj:=⟨[.slot 1 (.val (.int .i64)),.slot 2 (.val (.int .i64)),.slot 3 (.val (.int .i64)),.vec 0 106 Zn],[(0,.own 0),(4,.stat (.pv (.lit (.func (.func 204) #[] #[]))))]⟩
def Zpf:Qj:=⟨[.vec 0 106 Zn],[]⟩
def Yg6(F:Nat):LK:=lC (U5 F) (lC (Qd9 F) (lX (Qhx F) lN))
def Zb4(F:Nat):PX:=qX (Yg6 F) (Q8 2 (.two (.one (.loop ⟨[.vec 0 106 Zn,.slot 10 (.val (.int .i64)),.slot 11 (.val (.int .i64))],[]⟩ [(.exit 0,⟨[.vec 0 106 Zn,.slot 10 (.val (.int .i64))],[]⟩)] ⟨(21::22::23::Yd 35 12 (11::49::48::47::32::33::34::10::Ql 31 8 (20::19::18::[]))),[0],[]⟩ F (.two .leaf (.one (.two .leaf (.join [(.normal,⟨[.vec 0 106 Zn,.slot 10 (.val (.int .i64)),.slot 11 (.val (.int .i64))],[]⟩)] ⟨(Yd 35 12 (11::49::48::47::32::33::34::10::Ql 31 8 [])),[0],[]⟩ .leaf)))))) .leaf)) f256 (pxB 5 [.arg 0] Ygu 0 Zpf [0] [])
theorem Ql7(F:Nat):Zb cx 256 (Zb4 F):=Xo (by kernel_rfl)
def Qdh:Qj:=⟨[.slot 1 (.val (.int .i64)),.slot 2 (.val (.int .i64)),.slot 3 (.val (.int .i64)),.vec 0 106 Zn],[(0,.own 0),(4,.stat (.pv (.lit (.func (.func 204) #[] #[]))))]⟩
def Qdq:Qj:=⟨[.vec 0 106 Zn],[]⟩
def Qrd(g:Qdh.El→Option (Qdq.El))(F:Nat):Lx:={ext:=[(251,(PX.sm {np:=5,locs:=[.arg 0],τ:=Qdh,nr:=0,ω:=Qdq,ids:=[0],mv:=[],code:=g})),(205,(Zgg F).sm),(204,(Zg8 F).sm),(267,(Qyc F).sm),(256,(Zb4 F).sm)],anns:=[],still:=[]}
def Qva:PX:=pxB 5 [.arg 0] Qdh 0 Qdq [0] []
def Zem(F:Nat):Q7:=(.two (.two .leaf (.two (Q8 2 (.two (.one (.loop ⟨[.slot 10 (.val (.int .i64)),.slot 11 (.val (.int .i64))],[]⟩ [(.exit 0,⟨[.slot 10 (.val (.int .i64))],[]⟩)] ⟨(Yd 34 6 (12::51::52::10::11::53::Ql 50 11 (33::32::31::[]))),[],[]⟩ F (.two .leaf (.one (Q8 2 (.join [(.normal,⟨[.slot 10 (.val (.int .i64)),.slot 11 (.val (.int .i64))],[]⟩)] ⟨[53,11,10,52,51],[],[]⟩ .leaf)))))) (.two (.two .leaf (.one (.loop ⟨[.vec 0 106 Zn,.slot 13 (.val (.int .i64))],[]⟩ [(.exit 2,⟨[.vec 0 106 Zn],[]⟩)] ⟨(Yd 61 16 (13::Ql 60 6 [])),[0],[]⟩ F .leaf))) .leaf))) .leaf)) (.two (.two .leaf (.two (Q8 2 (.two (.one (.loop ⟨[.slot 14 (.val (.int .i64)),.slot 15 (.val (.int .i64))],[]⟩ [(.exit 4,⟨[.slot 14 (.val (.int .i64))],[]⟩)] ⟨(Yd 86 6 (16::104::105::14::15::106::Ql 103 12 (85::84::83::[]))),[],[]⟩ F (.two .leaf (.one (Q8 2 (.join [(.normal,⟨[.slot 14 (.val (.int .i64)),.slot 15 (.val (.int .i64))],[]⟩)] ⟨[106,15,14,105,104],[],[]⟩ .leaf)))))) (.two (.two .leaf (.one (.loop ⟨[.vec 0 106 Zn,.slot 17 (.val (.int .i64))],[]⟩ [(.exit 6,⟨[.vec 0 106 Zn],[]⟩)] ⟨(Yd 113 16 (17::112::111::110::109::108::[])),[0],[]⟩ F .leaf))) .leaf))) .leaf)) (Q8 3 (.two (.two .leaf (.join [(.normal,⟨[.slot 20 (.val (.int .i64)),.slot 21 (.val (.int .i64))],[]⟩)] ⟨[145,146,144,21,20,143,142,141],[],[]⟩ .leaf)) (.two .leaf (.two (.one (.loop ⟨[.slot 20 (.val (.int .i64)),.slot 21 (.val (.int .i64))],[]⟩ [(.exit 8,⟨[.slot 20 (.val (.int .i64))],[]⟩)] ⟨(Yd 152 6 (23::172::173::20::21::174::Ql 171 14 (151::150::149::[]))),[],[]⟩ F (.two .leaf (.one (Q8 2 (.join [(.normal,⟨[.slot 20 (.val (.int .i64)),.slot 21 (.val (.int .i64))],[]⟩)] ⟨[174,21,20,173,172],[],[]⟩ .leaf)))))) (.two .leaf (.two (.two (.join [(.normal,⟨[.slot 185 (.val (.bool))],[]⟩)] ⟨(Ql 185 8 []),[],[]⟩ .leaf) (.join [(.normal,⟨[.vec 0 106 Zn],[]⟩)] ⟨(Ql 191 6 []),[0],[]⟩ .leaf)) (.two (.two (.join [(.normal,⟨[.slot 199 (.val (.bool))],[]⟩)] ⟨(Ql 199 8 []),[],[]⟩ .leaf) (.join [(.normal,⟨[.vec 0 106 Zn],[]⟩)] ⟨(Ql 205 6 []),[0],[]⟩ .leaf)) (.two (.join [(.normal,⟨[.slot 213 (.val (.bool))],[]⟩)] ⟨(Ql 213 8 []),[],[]⟩ .leaf) (.join [(.normal,⟨[.vec 0 106 Zn],[]⟩)] ⟨(Ql 219 6 []),[0],[]⟩ .leaf)))))))))))
def Ybv(g:Qdh.El→Option Qdq.El)(F:Nat):=Qoh cx (Qrd g F) 1000 (Zem F) f251 (Qq f251) Qva
def Qni(F n:Nat):Qdh.El→Option Qdq.El:=Nat.rec (motive:=fun _=>Qdh.El→Option Qdq.El) (fun _=>none) (fun _ ih=>Ybv ih F) n
def Zhc(F:Nat):Qdh.El→Option Qdq.El:=Qni F F
def Qr5(F n:Nat):PX:={Qva with code:=Qni F n}
def Ya2(F:Nat):PX:=Qr5 F F
theorem Yfq(F n:Nat)(h:Zb cx 251 (Qr5 F n)):(Qrd (Qni F n) F).Ok cx:=Lx.Zd (PX.Qo h) (kC (U5 F) (kC (Qd9 F) (kX (Qhx F) (kX (Ql7 F) (Lx.V9)))))
theorem Qxo(F:Nat):∀n,Zb cx 251 (Qr5 F n)
 |0=>⟨⟨f251,by kernel_rfl⟩,fun a y h=>absurd (show(none:Option _)=some y from h) (by simp)⟩
 |n+1=>Zb.cast (q:=pxT cx (Qrd (Qni F n) F) (Zem F) f251 (Qq f251) Qva) (by kernel_rfl) (Qzg Zs (Yfq F n (Qxo F n)) (by kernel_rfl) (by kernel_rfl) (by kernel_rfl) (by kernel_rfl))
theorem Qtx(F:Nat):Zb cx 251 (Ya2 F):=Qxo F F
def Zkb:Qj:=⟨[.slot 1 (.val (.int .i64)),.vec 0 106 Zn],[(0,.own 0),(2,.stat (.pv (.lit (.func (.func 204) #[] #[]))))]⟩
def Yjb:Qj:=⟨[.vec 0 106 Zn],[]⟩
def Yey(F:Nat):LK:=lC (U5 F) (lC (Qd9 F) (lX (Qsm F) (lX (Qhx F) (lX (Ql7 F) (lX (Qtx F) lN)))))
def Qm8(F:Nat)(a:Int×List (Qh)):Option (List (Qh)):=
 (Q2 (σ:=List (Qh)×Int×Int) (β:=List (Qh)×Int) (fun(v66:List (Qh)×Int×Int)=>bif decide (v66.2.2≤a.1)then((gd (decide (a.2.length=v66.1.length)&&(true&&true)&&(true&&(true&&true))) (some ((v66.2.1,v66.2.2,v66.1)))).bind fun(v67:Int×Int×List (Qh))=>(Qaw F v67).bind fun(v68:List (Qh))=>some (Sum.inl (v68,v66.2.2,w64 (v66.2.2+20))))else(some (Sum.inr (v66.1,v66.2.1)))) F ((a.2,(0:Int),(20:Int)))).bind fun(v54:List (Qh)×Int)=>(gd (decide (a.2.length=v54.1.length)&&(true&&true)&&(true&&(true&&true))) (some ((v54.2,a.1,v54.1)))).bind fun(v55:Int×Int×List (Qh))=>(Qaw F v55).bind fun(v56:List (Qh))=>(Q2 (σ:=List (Qh)×Int) (β:=List (Qh)) (fun(v58:List (Qh)×Int)=>bif decide (v58.2<a.1)then((Q2 (σ:=List (Qh)×Int×Int) (β:=List (Qh)×Int) (fun(v63:List (Qh)×Int×Int)=>bif decide (v63.2.2≤a.1)then((gd (decide (a.2.length=v63.1.length)&&(true&&true)&&(true&&(true&&(true&&true)))) (some ((v63.2.1,w64 (v63.2.1+v58.2),v63.2.2,v63.1)))).bind fun(v64:Int×Int×Int×List (Qh))=>(Zhc F v64).bind fun(v65:List (Qh))=>some (Sum.inl (v65,v63.2.2,w64 (v63.2.2+w64 ((2:Int)*v58.2)))))else(some (Sum.inr (v63.1,v63.2.1)))) F ((v58.1,(0:Int),w64 ((2:Int)*v58.2)))).bind fun(v59:List (Qh)×Int)=>(bif decide (w64 (v59.2+v58.2)<a.1)then((gd (decide (a.2.length=v59.1.length)&&(true&&true)&&(true&&(true&&(true&&true)))) (some ((v59.2,w64 (v59.2+v58.2),a.1,v59.1)))).bind fun(v61:Int×Int×Int×List (Qh))=>(Zhc F v61).bind fun(v62:List (Qh))=>some (v62))else(some v59.1)).bind fun(v60:List (Qh))=>some (Sum.inl (v60,w64 (v58.2*(2:Int)))))else(some (Sum.inr v58.1))) F ((v56,(20:Int)))).bind fun(v57:List (Qh))=>some (v57)
def Ykg(F:Nat):PX:={np:=3,locs:=[.arg 0],τ:=Zkb,nr:=0,ω:=Yjb,ids:=[0],mv:=[],code:=Qm8 F}
theorem Qyf(F:Nat):Zb cx 239 (Ykg F):=qXE (Yey F) (Q8 2 (.two (.one (.loop ⟨[.vec 0 106 Zn,.slot 7 (.val (.int .i64)),.slot 8 (.val (.int .i64))],[]⟩ [(.exit 0,⟨[.vec 0 106 Zn,.slot 7 (.val (.int .i64))],[]⟩)] ⟨[14,15,16,17,18,20,21,22,8,7,19,13,12,11],[0],[]⟩ F .leaf)) (.two .leaf (.one (.loop ⟨[.vec 0 106 Zn,.slot 6 (.val (.int .i64))],[]⟩ [(.exit 2,⟨[.vec 0 106 Zn],[]⟩)] ⟨[31,32,7,8,49,50,51,9,55,56,57,58,59,60,54,53,52,6,62,61,36,37,38,39,40,41,42,43,45,46,47,48,44,35,34,33,30,29,28],[0],[]⟩ F (.two .leaf (.one (.two .leaf (.two (.one (.loop ⟨[.vec 0 106 Zn,.slot 7 (.val (.int .i64)),.slot 8 (.val (.int .i64))],[]⟩ [(.exit 4,⟨[.vec 0 106 Zn,.slot 7 (.val (.int .i64))],[]⟩)] ⟨[36,37,38,39,40,41,42,43,45,46,47,48,8,7,44,35,34,33],[0],[]⟩ F .leaf)) (.two (Q8 2 (.join [(.normal,⟨[.vec 0 106 Zn],[]⟩)] ⟨(Ql 60 6 []),[0],[]⟩ .leaf)) .leaf)))))))))) f239 (by kernel_rfl) fun a=>by kernel_rfl
def Zrj:Qj:=⟨[.vec 0 106 Zn],[(0,.own 0),(1,.stat (.pv (.lit (.func (.func 204) #[] #[]))))]⟩
def Zyb:Qj:=⟨[.vec 0 106 Zn],[]⟩
def Zpa(F:Nat):LK:=lC (U5 F) (lC (Qd9 F) (lX (Qsm F) (lX (Qhx F) (lX (Ql7 F) (lX (Qtx F) (lX (Qyf F) lN))))))
def Qnq(F:Nat)(a:List (Qh)):Option (List (Qh)):=
 (gd (decide (a.length=a.length)&&(true&&true)&&(true&&true)) (some (((↑(a.length):Int),a)))).bind fun(v7:Int×List (Qh))=>(Qm8 F v7).bind fun(v8:List (Qh))=>some (v8)
def Zvp(F:Nat):PX:={np:=2,locs:=[.arg 0],τ:=Zrj,nr:=0,ω:=Zyb,ids:=[0],mv:=[],code:=Qnq F}
theorem Yjk(F:Nat):Zb cx 203 (Zvp F):=qXE (Zpa F) .leaf f203 (by kernel_rfl) fun a=>by kernel_rfl
def Zop(F:Nat):LK:=lC (Qd9 F) (lX (Qsm F) (lX (Qhx F) (lX (Ql7 F) (lX (Qtx F) (lX (Qyf F) (lX (Yjk F) lN))))))
def Qff(F:Nat)(a:(Qk)×ByteArray):Option (List (Qh)):=
 (Q2 (σ:=List (Qh)×Int) (β:=List (Qh)) (fun(v18:List (Qh)×Int)=>bif decide (v18.2<(↑(a.1.2.2.2.1.length):Int))then(gd (decide (0≤v18.2)) (gd (decide (v18.2<(↑(a.1.2.2.2.1.length):Int))) (gd (decide (v18.2.toNat<a.1.2.2.2.1.length)) ((bif Qc (a.1.2.2.2.1.getD (v18.2.toNat) Q6).2.1 a.2 then(gd (decide (v18.1.length=v18.1.length)) (gd (decide (List.length (v18.1++(a.1.2.2.2.1.getD (v18.2.toNat) Q6)::Qa (Qh))*(88:Nat)≤(140737488355328:Nat))) (gd (decide (List.length (v18.1++(a.1.2.2.2.1.getD (v18.2.toNat) Q6)::Qa (Qh))≤9223372036854775807)) (gd (decide (List.length (v18.1++(a.1.2.2.2.1.getD (v18.2.toNat) Q6)::Qa (Qh))=List.length (v18.1++(a.1.2.2.2.1.getD (v18.2.toNat) Q6)::Qa (Qh)))&&true&&true) (some (v18.1++(a.1.2.2.2.1.getD (v18.2.toNat) Q6)::Qa (Qh)))))))else(gd (decide (v18.1.length=v18.1.length)&&true&&true) (some v18.1))).bind fun(v19:List (Qh))=>(gd (decide (v19.length=v19.length)&&true&&(true&&true)) (some ((v19,w64 (v18.2+1))))).bind fun(v20:List (Qh)×Int)=>some (Sum.inl v20)))))else((gd (decide (v18.1.length=v18.1.length)&&true&&true) (some v18.1)).bind fun(v21:List (Qh))=>some (Sum.inr v21))) F ((Qa (Qh),(0:Int)))).bind fun(v15:List (Qh))=>(gd (decide (v15.length=v15.length)&&(true&&true)&&true) (some (v15))).bind fun(v16:List (Qh))=>(Qnq F v16).bind fun(v17:List (Qh))=>gd (decide ((0:Nat)+v15.length≤v17.length)) (some (List.take (v15.length) (List.drop (0:Nat) v17)))
def Zdi(F:Nat):PC:={ats:=Qct,rts:=Qa3,code:=Qff F}
theorem Qs5(F:Nat):Qg cx 139 (Zdi F):=qE (Zop F) (Q8 2 (.two (.two .leaf (.one (.virt 5 106 Zn (.loop ⟨[.vec 1 106 Zn,.slot 11 (.val (.int .i64))],[(5,.own 1)]⟩ [(.exit 0,⟨[.vec 1 106 Zn],[(5,.own 1)]⟩)] ⟨[23,11,15,16,17,18,5,22,21,20,19,7,14,13,12],[1],[1]⟩ F (Q8 2 (.two (.one (Q8 2 (.join [(.normal,⟨[.vec 1 106 Zn],[(5,.own 1)]⟩)] ⟨[5,22,21,20,19],[1],[1]⟩ .leaf))) .leaf)))))) .leaf)) f139 (by kernel_rfl) fun a=>by kernel_rfl
def Zjl(F:Nat):LK:=lC (Qew F) (lS (PF.Qo (Xb F)) (lC (Qhh F) (lS (PF.Qo (Wh F)) (lC (Zen F) (lC (Zee F) (lS (PF.Qo (Y8 F)) (lC (Zd3 F) (lC (X0 F) (lC (Qzn F) (lC (Qn1 F) (lC (Qv7 F) (lC (Y7 F) (lS (PF.Qo (Xg F)) (lC (Zeg F) (lC (Qph F) (lC (Zao F) (lC (Qpq F) (lC (Zes F) (lC (Qme F) (lC (Zdj F) lN))))))))))))))))))))
def Qir(F:Nat)(a:(Za)×(Qk)×Z4):Option (Int):=
 (bif Qc a.2.2.2.1 {data:=List.toArray (99::108::117::98::Qa UInt8)}then((Ycf F (a.1,a.2.1,a.2.2.1,a.2.2.2.1,a.2.2.2.2.1,a.2.2.2.2.2.1,a.2.2.2.2.2.2.1,a.2.2.2.2.2.2.2.1,a.2.2.2.2.2.2.2.2.1,a.2.2.2.2.2.2.2.2.2.1,a.2.2.2.2.2.2.2.2.2.2.1,a.2.2.2.2.2.2.2.2.2.2.2.1,a.2.2.2.2.2.2.2.2.2.2.2.2.1,a.2.2.2.2.2.2.2.2.2.2.2.2.2)).bind fun(v32:Int)=>some (v32))else(bif Qc a.2.2.2.1 {data:=List.toArray (97::116::104::108::101::116::101::Qa UInt8)}then((Ycc F (a.1,a.2.1,a.2.2.1,a.2.2.2.1,a.2.2.2.2.1,a.2.2.2.2.2.1,a.2.2.2.2.2.2.1,a.2.2.2.2.2.2.2.1,a.2.2.2.2.2.2.2.2.1,a.2.2.2.2.2.2.2.2.2.1,a.2.2.2.2.2.2.2.2.2.2.1,a.2.2.2.2.2.2.2.2.2.2.2.1,a.2.2.2.2.2.2.2.2.2.2.2.2.1,a.2.2.2.2.2.2.2.2.2.2.2.2.2)).bind fun(v33:Int)=>some (v33))else(bif Qc a.2.2.2.1 {data:=List.toArray (108::105::99::101::110::99::101::Qa UInt8)}then((Ziw F (a.1,a.2.1,a.2.2.1,a.2.2.2.1,a.2.2.2.2.1,a.2.2.2.2.2.1,a.2.2.2.2.2.2.1,a.2.2.2.2.2.2.2.1,a.2.2.2.2.2.2.2.2.1,a.2.2.2.2.2.2.2.2.2.1,a.2.2.2.2.2.2.2.2.2.2.1,a.2.2.2.2.2.2.2.2.2.2.2.1,a.2.2.2.2.2.2.2.2.2.2.2.2.1,a.2.2.2.2.2.2.2.2.2.2.2.2.2)).bind fun(v34:Int)=>some (v34))else(bif Qc a.2.2.2.1 {data:=List.toArray (116::114::97::110::115::102::101::114::Qa UInt8)}then((Zmb F (a.1,a.2.1,a.2.2.1,a.2.2.2.1,a.2.2.2.2.1,a.2.2.2.2.2.1,a.2.2.2.2.2.2.1,a.2.2.2.2.2.2.2.1,a.2.2.2.2.2.2.2.2.1,a.2.2.2.2.2.2.2.2.2.1,a.2.2.2.2.2.2.2.2.2.2.1,a.2.2.2.2.2.2.2.2.2.2.2.1,a.2.2.2.2.2.2.2.2.2.2.2.2.1,a.2.2.2.2.2.2.2.2.2.2.2.2.2)).bind fun(v35:Int)=>some (v35))else(bif Qc a.2.2.2.1 {data:=List.toArray (101::110::116::101::114::Qa UInt8)}then((Zmc F (a.1,a.2.1,a.2.2.1,a.2.2.2.1,a.2.2.2.2.1,a.2.2.2.2.2.1,a.2.2.2.2.2.2.1,a.2.2.2.2.2.2.2.1,a.2.2.2.2.2.2.2.2.1,a.2.2.2.2.2.2.2.2.2.1,a.2.2.2.2.2.2.2.2.2.2.1,a.2.2.2.2.2.2.2.2.2.2.2.1,a.2.2.2.2.2.2.2.2.2.2.2.2.1,a.2.2.2.2.2.2.2.2.2.2.2.2.2)).bind fun(v36:Int)=>some (v36))else(bif Qc a.2.2.2.1 {data:=List.toArray (119::105::116::104::100::114::97::119::Qa UInt8)}then((Qk6 F (a.1,a.2.1,a.2.2.1,a.2.2.2.1,a.2.2.2.2.1,a.2.2.2.2.2.1,a.2.2.2.2.2.2.1,a.2.2.2.2.2.2.2.1,a.2.2.2.2.2.2.2.2.1,a.2.2.2.2.2.2.2.2.2.1,a.2.2.2.2.2.2.2.2.2.2.1,a.2.2.2.2.2.2.2.2.2.2.2.1,a.2.2.2.2.2.2.2.2.2.2.2.2.1,a.2.2.2.2.2.2.2.2.2.2.2.2.2)).bind fun(v37:Int)=>some (v37))else(bif Qc a.2.2.2.1 {data:=List.toArray (99::104::101::99::107::Qa UInt8)}then((Zwp F (a.1,a.2.1,a.2.2.1,a.2.2.2.1,a.2.2.2.2.1,a.2.2.2.2.2.1,a.2.2.2.2.2.2.1,a.2.2.2.2.2.2.2.1,a.2.2.2.2.2.2.2.2.1,a.2.2.2.2.2.2.2.2.2.1,a.2.2.2.2.2.2.2.2.2.2.1,a.2.2.2.2.2.2.2.2.2.2.2.1,a.2.2.2.2.2.2.2.2.2.2.2.2.1,a.2.2.2.2.2.2.2.2.2.2.2.2.2)).bind fun(v38:Int)=>some (v38))else(gd (Qc a.2.2.2.1 {data:=List.toArray (116::101::97::109::Qa UInt8)}) ((Zv9 F (a.1,a.2.1,a.2.2.1,a.2.2.2.1,a.2.2.2.2.1,a.2.2.2.2.2.1,a.2.2.2.2.2.2.1,a.2.2.2.2.2.2.2.1,a.2.2.2.2.2.2.2.2.1,a.2.2.2.2.2.2.2.2.2.1,a.2.2.2.2.2.2.2.2.2.2.1,a.2.2.2.2.2.2.2.2.2.2.2.1,a.2.2.2.2.2.2.2.2.2.2.2.2.1,a.2.2.2.2.2.2.2.2.2.2.2.2.2)).bind fun(v39:Int)=>some (v39)))))))))).bind fun(v31:Int)=>some (v31)
def Qup(F:Nat):PC:={ats:=Xv,rts:=Zg,code:=Qir F}
theorem Qrb(F:Nat):Qg cx 135 (Qup F):=qE (Zjl F) (.two .leaf (.two (.join [(.normal,⟨[.slot 6 (.val (.int .i64))],[]⟩)] ⟨(6::Ql 15 9 []),[],[]⟩ (.within [(96,.leaf)])) .leaf)) f135 (by kernel_rfl) fun a=>by kernel_rfl
def Zzr(F:Nat):LK:=lC (Qdk F) (lC (Z3 F) (lC (Z6 F) (lC (Qb4 F) lN)))
def Qjz(F:Nat)(a:(Za)×(Qk)×ByteArray×Bool):Option ((Yh)×Int):=
 (Qfp F (a.1,a.2.2.1)).bind fun(v13:(Yh)×Bool)=>(c25 F (a.1,a.2.1.1,a.2.1.2.1,a.2.1.2.2.1,a.2.1.2.2.2.1,a.2.1.2.2.2.2)).bind fun(v14:Int)=>(Qx F (!v13.2,(10:Int))).bind fun(v15:Int)=>(Qx F (!decide (0<v13.1.2.2.2.2.2.2.2.2.2.2)==a.2.2.2,(13:Int))).bind fun(v16:Int)=>(Q9 F (v14::v15::v16::Qa Int)).bind fun(v17:Int)=>some ((v13.1,v17))
def Zcp(F:Nat):PC:={ats:=Zr0,rts:=[.agg Y1,.val (.int .i64)],code:=Qjz F}
theorem Qul(F:Nat):Qg cx 137 (Zcp F):=qE (Zzr F) .leaf f137 (by kernel_rfl) fun a=>by kernel_rfl
def Zjw(F:Nat):LK:=lC (Ul F) lN
def Qhb(F:Nat)(a:(Qk)×(Yh)×List (Qh)×Bool):Option (List ByteArray):=
 (Q2 (σ:=Unit×List (ByteArray×Int)×List ByteArray×Int×Int) (β:=Unit×List (ByteArray×Int)×List ByteArray) (fun(v37:Unit×List (ByteArray×Int)×List ByteArray×Int×Int)=>bif decide (v37.2.2.2.2<(↑(a.2.2.1.length):Int))then(gd (decide (0≤v37.2.2.2.2)) (gd (decide (v37.2.2.2.2<(↑(a.2.2.1.length):Int))) (gd (decide (v37.2.2.2.2.toNat<a.2.2.1.length)) ((Qja F (a.1,(a.2.2.1.getD (v37.2.2.2.2.toNat) Q6).1)).bind fun(v38:ByteArray)=>(bif decide (v37.2.2.2.1<a.2.1.2.2.2.2.2.1)then(some (decide (Y2 Qc v38 v37.2.1 (0:Int)<a.2.1.2.2.2.2.2.2.1)))else(some (false))).bind fun(v39:Bool)=>(bif v39 then(some ((Wc Qc v38 (w64 (Y2 Qc v38 v37.2.1 (0:Int)+(1:Int))) v37.2.1,w64 (v37.2.2.2.1+1))))else(some ((v37.2.1,v37.2.2.2.1)))).bind fun(v40:List (ByteArray×Int)×Int)=>(bif v39==a.2.2.2 then(gd (decide (v37.2.2.1.length=v37.2.2.1.length)) (gd (decide (List.length (v37.2.2.1++(a.2.2.1.getD (v37.2.2.2.2.toNat) Q6).1::Qa ByteArray)*(16:Nat)≤(140737488355328:Nat))) (gd (decide (List.length (v37.2.2.1++(a.2.2.1.getD (v37.2.2.2.2.toNat) Q6).1::Qa ByteArray)≤9223372036854775807)) (gd (true&&(decide (List.length (v37.2.2.1++(a.2.2.1.getD (v37.2.2.2.2.toNat) Q6).1::Qa ByteArray)=List.length (v37.2.2.1++(a.2.2.1.getD (v37.2.2.2.2.toNat) Q6).1::Qa ByteArray))&&true&&true&&true)) (some (((),v37.2.2.1++(a.2.2.1.getD (v37.2.2.2.2.toNat) Q6).1::Qa ByteArray)))))))else(gd (true&&(decide (v37.2.2.1.length=v37.2.2.1.length)&&true&&true&&true)) (some (((),v37.2.2.1))))).bind fun(v41:Unit×List ByteArray)=>(gd (true&&(decide (v41.2.length=v41.2.length)&&true&&true&&(true&&(true&&(true&&true))))) (some (((),v40.1,v41.2,v40.2,w64 (v37.2.2.2.2+1))))).bind fun(v42:Unit×List (ByteArray×Int)×List ByteArray×Int×Int)=>some (Sum.inl v42)))))else((gd (true&&(decide (v37.2.2.1.length=v37.2.2.1.length)&&true&&true&&(true&&true))) (some (((),v37.2.1,v37.2.2.1)))).bind fun(v43:Unit×List (ByteArray×Int)×List ByteArray)=>some (Sum.inr v43))) F (((),Qa (ByteArray×Int),Qa ByteArray,(0:Int),(0:Int)))).bind fun(v36:Unit×List (ByteArray×Int)×List ByteArray)=>gd (decide ((0:Nat)+v36.2.2.length≤v36.2.2.length)) (some (List.take (v36.2.2.length) (List.drop (0:Nat) v36.2.2)))
def Ze6(F:Nat):PC:={ats:=[.agg Zj,.agg Y1,.val (.seq Zn),.val (.bool)],rts:=Qbg,code:=Qhb F}
theorem Qtf(F:Nat):Qg cx 138 (Ze6 F):=qE (Zjw F) (Q8 2 (.two (.two (.within [(196,.leaf)]) (.one (.within [(100000227,(Q8 3 (.one (.virtF 3 0 9 Z2 (.loop ⟨[.mix 3 25 1 [] [(0,.own 10)],.map 9 (.val (.str)) (.val (.int .i64)),.vec 10 9 Z2,.slot 5 (.val (.int .i64)),.slot 14 (.val (.int .i64))],[]⟩ [(.exit 0,⟨[.mix 3 25 1 [] [(0,.own 10)],.map 9 (.val (.str)) (.val (.int .i64)),.vec 10 9 Z2],[]⟩)] ⟨[46,14,18,19,20,21,9,34,37,38,39,40,5,36,35,45,44,43,42,41,10,33,32,31,30,29,28,27,26,25,24,23,22,8,17,16,15],[10,3,9],[10]⟩ F (Q8 2 (.two (.one (Q8 2 (.two (.join [(.normal,⟨[.slot 10 (.val (.bool))],[]⟩)] ⟨(10::Ql 33 12 []),[],[]⟩ .leaf) (.two (.two .leaf (.join [(.normal,⟨[.map 9 (.val (.str)) (.val (.int .i64)),.slot 5 (.val (.int .i64))],[]⟩)] ⟨[37,38,39,40,5,36,35],[9],[]⟩ .leaf)) (.two (.within [(1000008,(.one (.two .leaf (.join [(.normal,⟨[.mix 3 25 1 [] [(0,.own 10)],.vec 10 9 Z2],[]⟩)] ⟨[25,24,23,22,21],[10,3],[10]⟩ .leaf))))]) .leaf))))) .leaf)))))))]))) .leaf)) f138 (by kernel_rfl) fun a=>by kernel_rfl
def Zui(F:Nat):LK:=lC (Qtf F) (lC (Qs5 F) (lC (Qul F) lN))
def c52(F:Nat)(a:(Za)×(Qk)×ByteArray):Option (List ByteArray×Int):=
 (Qjz F (a.1,a.2.1,a.2.2,false)).bind fun(v9:(Yh)×Int)=>bif !decide (v9.2=0)then(some ((Qa ByteArray,v9.2)))else((Qff F (a.2.1,a.2.2)).bind fun(v10:List (Qh))=>(Qhb F (a.2.1,v9.1,v10,true)).bind fun(v11:List ByteArray)=>some ((v11,(0:Int))))
def Qss(F:Nat):PC:={ats:=Qrs,rts:=Qp7,code:=c52 F}
theorem Qq0(F:Nat):Qg cx 52 (Qss F):=qE (Zui F) .leaf f52 (by kernel_rfl) fun a=>by kernel_rfl
def Ztd(F:Nat):LK:=lC (Qtf F) (lC (Qs5 F) (lC (Qul F) lN))
def c56(F:Nat)(a:(Za)×(Qk)×ByteArray):Option (List ByteArray×Int):=
 (Qjz F (a.1,a.2.1,a.2.2,false)).bind fun(v9:(Yh)×Int)=>bif !decide (v9.2=0)then(some ((Qa ByteArray,v9.2)))else((Qff F (a.2.1,a.2.2)).bind fun(v10:List (Qh))=>(Qhb F (a.2.1,v9.1,v10,false)).bind fun(v11:List ByteArray)=>some ((v11,(0:Int))))
def Qwa(F:Nat):PC:={ats:=Qrs,rts:=Qp7,code:=c56 F}
theorem Zr7(F:Nat):Qg cx 56 (Qwa F):=qE (Ztd F) .leaf f56 (by kernel_rfl) fun a=>by kernel_rfl
end
end Go.Proofs.Tryz

/- awake: the program run at its fixed examples returns true Functions of the program as functions of data. By program. And further parts. -/
import Derived.Test.YtpkbmngnolhopaaGreatDoorXTeW2
import Derived.Test.YtpkbmngnolhopaaGreatDoorXT3u
import Derived.Test.YtpkbmngnolhopaaGreatDoorXTeK23b
set_option maxRecDepth 1000000
set_option linter.unusedVariables false
set_option linter.all false
namespace Go.Proofs.Tryz
open Go Go.Sx
noncomputable def lxB:Lx:={ext:=[(82,Qx2.sm),(29,Qo3.sm),(52,(Qur.at Qhq Qhz).sm),(56,Zbg.sm),(50,(((Qhr.at Qex Qew).at Qix Qj6).at Ql7 Qpc).sm),(49,((Qn9.at Qkc Qjq).at Qor Qlo).sm),(37,Qyt.sm),(38,Qxl.sm),(36,Zcz.sm),(69,Qyu.sm),(46,Zex.sm),(81,(Zde 400).sm),(83,(Qwc 400).sm),(63,(Qz9 400).sm),(44,(Qxz 400).sm),(45,(Zfv 400).sm)],anns:=[(2000029,.leaf),(2000046,.leaf),(2000049,.leaf),(2000050,.leaf)],still:=[]}
theorem Zyh:lxB.Ok cx.bare:=Lx.Ze (PF.Qs Ylv) (Lx.Ze (PC.Qs Zgp) (Lx.Ze (PC.Qs (Qg.at2 (pc:=Qur) Ykh (a0:=Qhq) (y0:=Qhz) Zjr)) (Lx.Ze (PC.Qs Zrk) (Lx.Ze (PC.Qs (Qg.at2 (pc:=((Qhr.at Qex Qew).at Qix Qj6)) (Qg.at2 (pc:=(Qhr.at Qex Qew)) (Qg.at2 (pc:=Qhr) Ydh (a0:=Qex) (y0:=Qew) Zz2) (a0:=Qix) (y0:=Qj6) Zt1) (a0:=Ql7) (y0:=Qpc) Yep)) (Lx.Ze (PC.Qs (Qg.at2 (pc:=(Qn9.at Qkc Qjq)) (Qg.at2 (pc:=Qn9) Zrv (a0:=Qkc) (y0:=Qjq) Ybh) (a0:=Qor) (y0:=Qlo) Yd0)) (Lx.Ze (PC.Qs Yip) (Lx.Ze (PC.Qs Zz6) (Lx.Ze (PC.Qs Yjh) (Lx.Ze (PC.Qs Yk7) (Lx.Ze (PC.Qs Zxh) (Lx.Ze (PC.Qs (Ybz 400).bare) (Lx.Ze (PC.Qs (Qw9 400).bare) (Lx.Ze (PC.Qs (Zy2 400).bare) (Lx.Ze (PC.Qs (Qq4 400).bare) (Lx.Ze (PC.Qs (Yes 400).bare) (Lx.V8))))))))))))))))
noncomputable def c20(F:Nat)(a:Unit):Option Bool:=some true
noncomputable def Zse(F:Nat):PC:={ats:=[],rts:=[.val .bool],code:=c20 F}
theorem Zwu:Zs cx.bare lxB 3000 .leaf f20 (Qr f20) [] [.val .bool] ()=some true:=by kernel_rfl
theorem Yju(F:Nat):Qg cx 20 (Zse F):=Qg.full (Qg.Z3 (Cx.Yo Z4) Zyh (n:=3000) (an:=.leaf) (fn:=f20) (c:=Qr f20) (by kernel_rfl) (by kernel_rfl) (fun a y h=>Zwu.trans h) (by kernel_rfl))
end Go.Proofs.Tryz
section
namespace Go.Proofs.Tryz
open Go Go.Sx
end Go.Proofs.Tryz
end
section

end
section
namespace Go.Proofs.Tryz
open Go Go.Sx
end Go.Proofs.Tryz
end
section
namespace Go.Proofs.Tryz
open Go Go.Sx
noncomputable section
def Zvc:Qi:=⟨[.slot 1 (.agg Xn),.one 0 31 Zg],[(0,.stat (.ptr 0 5 0 0))]⟩
def Zkk:Qi:=⟨[.one 0 31 Zg],[]⟩
def Zqf(F:Nat):LK:=lC (Qiu F) (lB [(217,Jv (Qr f217))])
def Qgs(F:Nat)(a:(Q6)×Qk):Option (Qk):=
 (Qrm F (a.2.1,a.1.2.2.2.1)).bind fun(v5:List ByteArray)=>some ((v5,a.2.2.1,a.2.2.2.1,a.2.2.2.2.1,a.2.2.2.2.2))
def Yc0(F:Nat):PX:={np:=2,locs:=[.arg 0],τ:=Zvc,nr:=0,ω:=Zkk,ids:=[0],mv:=[],code:=Qgs F}
theorem Zyo(F:Nat):Zb cx 159 (Yc0 F):=Yb (Zqf F) .leaf f159 (by kernel_rfl) fun a=>by kernel_rfl
def Yds:Qi:=⟨[.slot 1 (.agg Xn),.one 0 31 Zg],[(0,.stat (.ptr 0 5 0 0))]⟩
def Yke:Qi:=⟨[.one 0 31 Zg],[]⟩
def Zul(F:Nat):LK:=lC (Qh6 F) (lB [(217,Jv (Qr f217))])
def Qfn(F:Nat)(a:(Q6)×Qk):Option (Qk):=
 (Qv5 F (a.2.2.1,a.1.2.2.1,a.1.2.2.2.1,a.1.2.2.2.2.2.2.1,a.1.2.2.2.2.1)).bind fun(v5:List (Qw))=>some ((a.2.1,v5,a.2.2.2.1,a.2.2.2.2.1,a.2.2.2.2.2))
def Yfy(F:Nat):PX:={np:=2,locs:=[.arg 0],τ:=Yds,nr:=0,ω:=Yke,ids:=[0],mv:=[],code:=Qfn F}
theorem Zuw(F:Nat):Zb cx 162 (Yfy F):=Yb (Zul F) .leaf f162 (by kernel_rfl) fun a=>by kernel_rfl
def Zr5:Qi:=⟨[.slot 1 (.agg Xn),.one 0 31 Zg],[(0,.stat (.ptr 0 5 0 0))]⟩
def Zon:Qi:=⟨[.one 0 31 Zg],[]⟩
def Ya6(F:Nat):LK:=lC (Qkf F) (lB [(217,Jv (Qr f217))])
def Qgu(F:Nat)(a:(Q6)×Qk):Option (Qk):=
 (Qq0 F (a.2.2.2.1,a.1.2.2.1,a.1.2.2.2.2.2.2.1,a.1.2.2.2.2.2.2.2.1)).bind fun(v5:List (Q2))=>some ((a.2.1,a.2.2.1,v5,a.2.2.2.2.1,a.2.2.2.2.2))
def Ylc(F:Nat):PX:={np:=2,locs:=[.arg 0],τ:=Zr5,nr:=0,ω:=Zon,ids:=[0],mv:=[],code:=Qgu F}
theorem Zoh(F:Nat):Zb cx 164 (Ylc F):=Yb (Ya6 F) .leaf f164 (by kernel_rfl) fun a=>by kernel_rfl
def Ydg:Qi:=⟨[.slot 1 (.agg Xn),.one 0 31 Zg],[(0,.stat (.ptr 0 5 0 0))]⟩
def Zqj:Qi:=⟨[.one 0 31 Zg],[]⟩
def Yjk(F:Nat):LK:=lC (Xc F) (lS (PF.Qs (Jx F)) (lB [(217,Jv (Qr f217))]))
def Qhj(F:Nat)(a:(Q6)×Qk):Option (Qk):=
 (Qgh F a.2.2.1).bind fun(v7:List (Qw))=>gd (true&&(decide ((0:Nat)+v7.length≤v7.length)&&(true&&(true&&true)))&&true&&true) ((X7 F ((a.2.1,List.take (v7.length) (List.drop (0:Nat) v7),a.2.2.2.1,a.2.2.2.2.1,a.2.2.2.2.2),a.1.2.2.1)).bind fun(v8:Int)=>gd (decide (0≤v8)) (gd (decide (v8<(↑(v7.length):Int))) (gd (decide ((0:Nat)+v8.toNat<v7.length)) (gd (true&&(true&&(decide ((0:Nat)+v7.length≤List.length (List.set v7 ((0:Nat)+v8.toNat) ((v7.getD ((0:Nat)+v8.toNat) Zx).1,a.1.2.2.2.1,(v7.getD ((0:Nat)+v8.toNat) Zx).2.2.1,(v7.getD ((0:Nat)+v8.toNat) Zx).2.2.2)))&&(true&&(true&&true))))) (some ((a.2.1,List.take (v7.length) (List.drop (0:Nat) (List.set v7 ((0:Nat)+v8.toNat) ((v7.getD ((0:Nat)+v8.toNat) Zx).1,a.1.2.2.2.1,(v7.getD ((0:Nat)+v8.toNat) Zx).2.2.1,(v7.getD ((0:Nat)+v8.toNat) Zx).2.2.2))),a.2.2.2.1,a.2.2.2.2.1,a.2.2.2.2.2)))))))
def Ygd(F:Nat):PX:={np:=2,locs:=[.arg 0],τ:=Ydg,nr:=0,ω:=Zqj,ids:=[0],mv:=[],code:=Qhj F}
theorem Yb6(F:Nat):Zb cx 166 (Ygd F):=Yb (Yjk F) .leaf f166 (by kernel_rfl) fun a=>by kernel_rfl
def Yiw:Qi:=⟨[.slot 1 (.agg Xn),.one 0 31 Zg],[(0,.stat (.ptr 0 5 0 0))]⟩
def Zwp:Qi:=⟨[.one 0 31 Zg],[]⟩
def Yll(F:Nat):LK:=lC (Qim F) (lB [(217,Jv (Qr f217))])
def Qfr(F:Nat)(a:(Q6)×Qk):Option (Qk):=
 (Qsp F (a.2.2.2.2.1,a.1.2.2.1,a.1.2.2.2.2.2.1,a.1.2.2.2.2.2.2.2.2.1,a.1.2.2.2.2.2.2.2.2.2.1,a.1.2.2.2.2.2.2.2.2.2.2.1,a.1.1,false)).bind fun(v5:List (Qj))=>some ((a.2.1,a.2.2.1,a.2.2.2.1,v5,a.2.2.2.2.2))
def Yfb(F:Nat):PX:={np:=2,locs:=[.arg 0],τ:=Yiw,nr:=0,ω:=Zwp,ids:=[0],mv:=[],code:=Qfr F}
theorem Zil(F:Nat):Zb cx 168 (Yfb F):=Yb (Yll F) .leaf f168 (by kernel_rfl) fun a=>by kernel_rfl
def Zmf:Qi:=⟨[.slot 1 (.agg Xn),.one 0 31 Zg],[(0,.stat (.ptr 0 5 0 0))]⟩
def Zlh:Qi:=⟨[.one 0 31 Zg],[]⟩
def Zp1(F:Nat):LK:=lS (PF.Qs (Jg F)) (lC (Wm F) (lB [(217,Jv (Qr f217))]))
def Qgz(F:Nat)(a:(Q6)×Qk):Option (Qk):=
 (Je F (a.2,a.1.2.2.1,a.1.2.2.2.2.2.1)).bind fun(v10:Int)=>((Qeq F a.2.2.2.2.1).bind fun(v12:List (Qj))=>gd (decide (0≤v10)) (gd (decide (v10≤w64 (v10+1))) (gd (decide (w64 (v10+1)≤(↑(v12.length):Int))) (gd (decide ((↑(v12.length):Int)≤(↑(v12.length):Int))) (bif decide (v10=w64 (v10+1))then(gd (true&&(true&&(true&&(true&&(decide ((0:Nat)+v12.length≤v12.length)&&true))))) (some ((a.2.1,a.2.2.1,a.2.2.2.1,List.take (v12.length) (List.drop (0:Nat) v12),a.2.2.2.2.2))))else(gd (decide (0≤v10)) (gd (decide (v10≤(↑(v12.length):Int))) (gd (decide (0≤w64 (v10+1))) (gd (decide (w64 (v10+1)≤(↑(v12.length):Int))) (gd (decide ((↑(v12.length):Int)≤(↑(v12.length):Int))) (bif decide (Int.toNat (↑(v12.length):Int)-Int.toNat (w64 (v10+1))=0)then(gd (decide ((↑(v10.toNat-0):Int)≤(↑(v12.length):Int))) (gd (decide ((↑(v12.length):Int)≤(↑(v12.length-0):Int))) (gd (decide ((0:Nat)+Int.toNat (↑(v10.toNat-0):Int)+(Int.toNat (↑(v12.length):Int)-Int.toNat (↑(v10.toNat-0):Int))≤v12.length)) (gd (true&&(true&&(true&&(true&&(decide ((0:Nat)+(v10.toNat-0)≤List.length (List.take ((0:Nat)+Int.toNat (↑(v10.toNat-0):Int)) v12++List.replicate (Int.toNat (↑(v12.length):Int)-Int.toNat (↑(v10.toNat-0):Int)) ((ByteArray.mk (List.toArray (Qa UInt8))),(ByteArray.mk (List.toArray (Qa UInt8))),(ByteArray.mk (List.toArray (Qa UInt8))),(0:Int),(ByteArray.mk (List.toArray (Qa UInt8))),(0:Int),false)++List.drop ((0:Nat)+Int.toNat (↑(v10.toNat-0):Int)+(Int.toNat (↑(v12.length):Int)-Int.toNat (↑(v10.toNat-0):Int))) v12))&&true))))) (some ((a.2.1,a.2.2.1,a.2.2.2.1,List.take (v10.toNat-0) (List.drop (0:Nat) (List.take ((0:Nat)+Int.toNat (↑(v10.toNat-0):Int)) v12++List.replicate (Int.toNat (↑(v12.length):Int)-Int.toNat (↑(v10.toNat-0):Int)) ((ByteArray.mk (List.toArray (Qa UInt8))),(ByteArray.mk (List.toArray (Qa UInt8))),(ByteArray.mk (List.toArray (Qa UInt8))),(0:Int),(ByteArray.mk (List.toArray (Qa UInt8))),(0:Int),false)++List.drop ((0:Nat)+Int.toNat (↑(v10.toNat-0):Int)+(Int.toNat (↑(v12.length):Int)-Int.toNat (↑(v10.toNat-0):Int))) v12)),a.2.2.2.2.2)))))))else(gd (decide (v10.toNat-0+(Int.toNat (↑(v12.length):Int)-Int.toNat (w64 (v10+1)))≤v12.length-0)) (gd (decide (v10.toNat-0+(Int.toNat (↑(v12.length):Int)-Int.toNat (w64 (v10+1)))≤v12.length)) (gd (decide ((0:Nat)+Int.toNat (w64 (v10+1))+(Int.toNat (↑(v12.length):Int)-Int.toNat (w64 (v10+1)))≤v12.length)) (gd (decide ((↑(v10.toNat-0+(Int.toNat (↑(v12.length):Int)-Int.toNat (w64 (v10+1)))):Int)≤(↑(v12.length):Int))) (gd (decide ((↑(v12.length):Int)≤(↑(v12.length-0):Int))) (gd (decide ((0:Nat)+Int.toNat (↑(v10.toNat-0+(Int.toNat (↑(v12.length):Int)-Int.toNat (w64 (v10+1)))):Int)+(Int.toNat (↑(v12.length):Int)-Int.toNat (↑(v10.toNat-0+(Int.toNat (↑(v12.length):Int)-Int.toNat (w64 (v10+1)))):Int))≤List.length (Jm v12 (v10.toNat-0) ((0:Nat)+Int.toNat (w64 (v10+1))) (Int.toNat (↑(v12.length):Int)-Int.toNat (w64 (v10+1)))))) (gd (true&&(true&&(true&&(true&&(decide ((0:Nat)+(v10.toNat-0+(Int.toNat (↑(v12.length):Int)-Int.toNat (w64 (v10+1))))≤List.length (List.take ((0:Nat)+Int.toNat (↑(v10.toNat-0+(Int.toNat (↑(v12.length):Int)-Int.toNat (w64 (v10+1)))):Int)) (Jm v12 (v10.toNat-0) ((0:Nat)+Int.toNat (w64 (v10+1))) (Int.toNat (↑(v12.length):Int)-Int.toNat (w64 (v10+1))))++List.replicate (Int.toNat (↑(v12.length):Int)-Int.toNat (↑(v10.toNat-0+(Int.toNat (↑(v12.length):Int)-Int.toNat (w64 (v10+1)))):Int)) ((ByteArray.mk (List.toArray (Qa UInt8))),(ByteArray.mk (List.toArray (Qa UInt8))),(ByteArray.mk (List.toArray (Qa UInt8))),(0:Int),(ByteArray.mk (List.toArray (Qa UInt8))),(0:Int),false)++List.drop ((0:Nat)+Int.toNat (↑(v10.toNat-0+(Int.toNat (↑(v12.length):Int)-Int.toNat (w64 (v10+1)))):Int)+(Int.toNat (↑(v12.length):Int)-Int.toNat (↑(v10.toNat-0+(Int.toNat (↑(v12.length):Int)-Int.toNat (w64 (v10+1)))):Int))) (Jm v12 (v10.toNat-0) ((0:Nat)+Int.toNat (w64 (v10+1))) (Int.toNat (↑(v12.length):Int)-Int.toNat (w64 (v10+1))))))&&true))))) (some ((a.2.1,a.2.2.1,a.2.2.2.1,List.take (v10.toNat-0+(Int.toNat (↑(v12.length):Int)-Int.toNat (w64 (v10+1)))) (List.drop (0:Nat) (List.take ((0:Nat)+Int.toNat (↑(v10.toNat-0+(Int.toNat (↑(v12.length):Int)-Int.toNat (w64 (v10+1)))):Int)) (Jm v12 (v10.toNat-0) ((0:Nat)+Int.toNat (w64 (v10+1))) (Int.toNat (↑(v12.length):Int)-Int.toNat (w64 (v10+1))))++List.replicate (Int.toNat (↑(v12.length):Int)-Int.toNat (↑(v10.toNat-0+(Int.toNat (↑(v12.length):Int)-Int.toNat (w64 (v10+1)))):Int)) ((ByteArray.mk (List.toArray (Qa UInt8))),(ByteArray.mk (List.toArray (Qa UInt8))),(ByteArray.mk (List.toArray (Qa UInt8))),(0:Int),(ByteArray.mk (List.toArray (Qa UInt8))),(0:Int),false)++List.drop ((0:Nat)+Int.toNat (↑(v10.toNat-0+(Int.toNat (↑(v12.length):Int)-Int.toNat (w64 (v10+1)))):Int)+(Int.toNat (↑(v12.length):Int)-Int.toNat (↑(v10.toNat-0+(Int.toNat (↑(v12.length):Int)-Int.toNat (w64 (v10+1)))):Int))) (Jm v12 (v10.toNat-0) ((0:Nat)+Int.toNat (w64 (v10+1))) (Int.toNat (↑(v12.length):Int)-Int.toNat (w64 (v10+1)))))),a.2.2.2.2.2))))))))))))))))))))).bind fun(v11:Qk)=>some (v11)
def Zsb(F:Nat):PX:={np:=2,locs:=[.arg 0],τ:=Zmf,nr:=0,ω:=Zlh,ids:=[0],mv:=[],code:=Qgz F}
theorem Zss(F:Nat):Zb cx 170 (Zsb F):=Yb (Zp1 F) (Q8 2 (.join [(.normal,⟨[.one 0 31 Zg],[]⟩)] ⟨(kD 24 12 []),[0],[]⟩ .leaf)) f170 (by kernel_rfl) fun a=>by kernel_rfl
def Ycf:Qi:=⟨[.slot 1 (.agg Xn),.one 0 31 Zg],[(0,.stat (.ptr 0 5 0 0))]⟩
def Yc7:Qi:=⟨[.one 0 31 Zg],[]⟩
def Yig(F:Nat):LK:=lC (Wm F) (lS (PF.Qs (Jg F)) (lB [(217,Jv (Qr f217))]))
def Qeu(F:Nat)(a:(Q6)×Qk):Option (Qk):=
 (Qeq F a.2.2.2.2.1).bind fun(v7:List (Qj))=>gd (true&&(true&&(true&&(decide ((0:Nat)+v7.length≤v7.length)&&true)))&&(true&&true)&&true) ((Je F ((a.2.1,a.2.2.1,a.2.2.2.1,List.take (v7.length) (List.drop (0:Nat) v7),a.2.2.2.2.2),a.1.2.2.1,a.1.2.2.2.2.2.1)).bind fun(v8:Int)=>gd (decide (0≤v8)) (gd (decide (v8<(↑(v7.length):Int))) (gd (decide ((0:Nat)+v8.toNat<v7.length)) (gd (true&&(true&&(true&&(true&&(decide ((0:Nat)+v7.length≤List.length (List.set v7 ((0:Nat)+v8.toNat) ((v7.getD ((0:Nat)+v8.toNat) Zd).1,(v7.getD ((0:Nat)+v8.toNat) Zd).2.1,(v7.getD ((0:Nat)+v8.toNat) Zd).2.2.1,(v7.getD ((0:Nat)+v8.toNat) Zd).2.2.2.1,(v7.getD ((0:Nat)+v8.toNat) Zd).2.2.2.2.1,(v7.getD ((0:Nat)+v8.toNat) Zd).2.2.2.2.2.1,true)))&&true))))) (some ((a.2.1,a.2.2.1,a.2.2.2.1,List.take (v7.length) (List.drop (0:Nat) (List.set v7 ((0:Nat)+v8.toNat) ((v7.getD ((0:Nat)+v8.toNat) Zd).1,(v7.getD ((0:Nat)+v8.toNat) Zd).2.1,(v7.getD ((0:Nat)+v8.toNat) Zd).2.2.1,(v7.getD ((0:Nat)+v8.toNat) Zd).2.2.2.1,(v7.getD ((0:Nat)+v8.toNat) Zd).2.2.2.2.1,(v7.getD ((0:Nat)+v8.toNat) Zd).2.2.2.2.2.1,true))),a.2.2.2.2.2)))))))
def Zxs(F:Nat):PX:={np:=2,locs:=[.arg 0],τ:=Ycf,nr:=0,ω:=Yc7,ids:=[0],mv:=[],code:=Qeu F}
theorem Zpw(F:Nat):Zb cx 172 (Zxs F):=Yb (Yig F) .leaf f172 (by kernel_rfl) fun a=>by kernel_rfl
def Yhr:Qi:=⟨[.slot 1 (.agg Xn),.one 0 31 Zg],[(0,.stat (.ptr 0 5 0 0))]⟩
def Yab:Qi:=⟨[.one 0 31 Zg],[]⟩
def Yb0(F:Nat):LK:=lC (Qc2 F) (lS (PF.Qs (J0 F)) (lC (Qfs F) (lC (Zcp F) (lB [(217,Jv (Qr f217))]))))
def Qff(F:Nat)(a:(Q6)×Qk):Option (Qk):=
 tw (X:=Qk) (Ya.eqv (Qq.one (0:Nat) (31:Nat) Zg::Qa Qq)) ((Qjw F a.1.2.2.2.2.2.2.2.2.2.2.2).bind fun(v25:List ByteArray)=>(Qhl F (a.2,a.1.2.2.2.1,a.1.2.2.2.2.2.1)).bind fun(v26:Int)=>bif decide (v26<0)then((Qtm F (a.2.2.2.2.2,a.1.2.2.2.1,a.1.2.2.2.2.2.1,v25)).bind fun(v27:List (Q4))=>some ((a.2.1,a.2.2.1,a.2.2.2.1,a.2.2.2.2.1,v27)))else((Qgw F a.2.2.2.2.2).bind fun(v28:List (Q4))=>gd (decide (0≤v26)) (gd (decide (v26<(↑(v28.length):Int))) (gd (decide ((0:Nat)+v26.toNat<v28.length)) (gd (true&&(true&&(true&&(true&&(true&&decide ((0:Nat)+v28.length≤List.length (List.set v28 ((0:Nat)+v26.toNat) (a.1.2.2.2.1,a.1.2.2.2.2.2.1,v25)))))))) (some ((a.2.1,a.2.2.1,a.2.2.2.1,a.2.2.2.2.1,List.take (v28.length) (List.drop (0:Nat) (List.set v28 ((0:Nat)+v26.toNat) (a.1.2.2.2.1,a.1.2.2.2.2.2.1,v25)))))))))))
def Zxk(F:Nat):PX:={np:=2,locs:=[.arg 0],τ:=Yhr,nr:=0,ω:=Yab,ids:=[0],mv:=[],code:=Qff F}
theorem Zpk(F:Nat):Zb cx 174 (Zxk F):=Yb (Yb0 F) .leaf f174 (by kernel_rfl) fun a=>by kernel_rfl
end
end Go.Proofs.Tryz
end
section
namespace Go.Proofs.Tryz
open Go Go.Sx
end Go.Proofs.Tryz
end
section
namespace Go.Proofs.Tryz
open Go Go.Sx
end Go.Proofs.Tryz
end

/- awake: the program run at its fixed examples returns true Functions of the program as functions of data. By program. And further parts. -/
import Derived.Test.YtpkbmngnolhopaaGreatDoorXTeW2
import Derived.Test.YtpkbmngnolhopaaGreatDoorXT3u
import Derived.Test.YtpkbmngnolhopaaGreatDoorXTeK23b
set_option maxRecDepth 1000000
set_option linter.unusedVariables false
set_option linter.all false
open Int renaming toNat->j
open ByteArray renaming mk->o
open List renaming toArray->C,take->I,drop->J,length->R,replicate->U,set->ZA
namespace Go.Proofs.Tryz
open Go Go.Sx
noncomputable def lxB:Lx:={ext:=[(82,Zfp.sm),(29,Qo2.sm),(52,(Que.at Qmi Qj2).sm),(56,Zc4.sm),(50,(((Qla.at Qin Qhi).at Qkw Qkz).at Qow Qoh).sm),(49,((Qpm.at Qjv Qli).at Qqv Qqz).sm),(37,Zfa.sm),(38,Zdv.sm),(36,Zkx.sm),(69,Zhm.sm),(46,Zdr.sm),(81,(Zi1 400).sm),(83,(Qsr 400).sm),(63,(Zku 400).sm),(44,(Zbo 400).sm),(45,(Zff 400).sm)],anns:=[(2000029,.leaf),(2000046,.leaf),(2000049,.leaf),(2000050,.leaf)],still:=[]}
theorem Yqp:lxB.Ok cx.bare:=Lx.Zn (PF.Qu Yj4) (Lx.Zn (PC.Qu Zlq) (Lx.Zn (PC.Qu (Qg.at2 (pc:=Que) Zxc (a0:=Qmi) (y0:=Qj2) Zqb)) (Lx.Zn (PC.Qu Zp1) (Lx.Zn (PC.Qu (Qg.at2 (pc:=((Qla.at Qin Qhi).at Qkw Qkz)) (Qg.at2 (pc:=(Qla.at Qin Qhi)) (Qg.at2 (pc:=Qla) Yl8 (a0:=Qin) (y0:=Qhi) Ztn) (a0:=Qkw) (y0:=Qkz) Yh4) (a0:=Qow) (y0:=Qoh) Yfi)) (Lx.Zn (PC.Qu (Qg.at2 (pc:=(Qpm.at Qjv Qli)) (Qg.at2 (pc:=Qpm) Zxd (a0:=Qjv) (y0:=Qli) Yb6) (a0:=Qqv) (y0:=Qqz) Ylj)) (Lx.Zn (PC.Qu Ye0) (Lx.Zn (PC.Qu Zzn) (Lx.Zn (PC.Qu Yq8) (Lx.Zn (PC.Qu Zt8) (Lx.Zn (PC.Qu Ym7) (Lx.Zn (PC.Qu (Yog 400).bare) (Lx.Zn (PC.Qu (Zfm 400).bare) (Lx.Zn (PC.Qu (Ysh 400).bare) (Lx.Zn (PC.Qu (Qqd 400).bare) (Lx.Zn (PC.Qu (Zpv 400).bare) (Lx.K4))))))))))))))))
noncomputable def c20(F:Nat)(a:Unit):Option Bool:=some true
noncomputable def Zxm(F:Nat):PC:={ats:=[],rts:=[.val .bool],code:=c20 F}
theorem Zom:Z2 cx.bare lxB 3000 .leaf f20 (Qs f20) [] [.val .bool] ()=some true:=by kernel_rfl
theorem Qzw(F:Nat):Qg cx 20 (Zxm F):=Qg.full (Qg.Yc (Cx.Y2 Yd) Yqp (n:=3000) (an:=.leaf) (fn:=f20) (c:=Qs f20) (by kernel_rfl) (by kernel_rfl) (fun a y h=>Zom.trans h) (by kernel_rfl))
end Go.Proofs.Tryz
section
namespace Go.Proofs.Tryz
open Go Go.Sx
end Go.Proofs.Tryz
end
section

end
section
namespace Go.Proofs.Tryz
open Go Go.Sx
end Go.Proofs.Tryz
end
section
namespace Go.Proofs.Tryz
open Go Go.Sx
noncomputable section
def Zrw:Qk:=⟨[.slot 1 (.agg Xq),.one 0 31 Zm],[(0,.stat (.ptr 0 5 0 0))]⟩
def Zp6:Qk:=⟨[.one 0 31 Zm],[]⟩
def Zqf(F:Nat):LK:=lC (Qmn F) (lB [(217,Jr (Qs f217))])
def Qio(F:Nat)(a:(Q9)×Ql):Option (Ql):=
 (Qs5 F (a.2.1,a.1.2.2.2.1)).bind fun v5=>some ((v5,a.2.2.1,a.2.2.2.1,a.2.2.2.2.1,a.2.2.2.2.2))
def Ya8(F:Nat):PX:={np:=2,locs:=[.arg 0],τ:=Zrw,nr:=0,ω:=Zp6,ids:=[0],mv:=[],code:=Qio F}
theorem Zwk(F:Nat):Zk cx 159 (Ya8 F):=Yi (Zqf F) .leaf f159 (by kernel_rfl) fun a=>by kernel_rfl
def Ye2:Qk:=⟨[.slot 1 (.agg Xq),.one 0 31 Zm],[(0,.stat (.ptr 0 5 0 0))]⟩
def Zzu:Qk:=⟨[.one 0 31 Zm],[]⟩
def Zyg(F:Nat):LK:=lC (Qkv F) (lB [(217,Jr (Qs f217))])
def Qgq(F:Nat)(a:(Q9)×Ql):Option (Ql):=
 (Qy4 F (a.2.2.1,a.1.2.2.1,a.1.2.2.2.1,a.1.2.2.2.2.2.2.1,a.1.2.2.2.2.1)).bind fun v5=>some ((a.2.1,v5,a.2.2.2.1,a.2.2.2.2.1,a.2.2.2.2.2))
def Ypy(F:Nat):PX:={np:=2,locs:=[.arg 0],τ:=Ye2,nr:=0,ω:=Zzu,ids:=[0],mv:=[],code:=Qgq F}
theorem Zqk(F:Nat):Zk cx 162 (Ypy F):=Yi (Zyg F) .leaf f162 (by kernel_rfl) fun a=>by kernel_rfl
def Yp3:Qk:=⟨[.slot 1 (.agg Xq),.one 0 31 Zm],[(0,.stat (.ptr 0 5 0 0))]⟩
def Yda:Qk:=⟨[.one 0 31 Zm],[]⟩
def Yiv(F:Nat):LK:=lC (Qk7 F) (lB [(217,Jr (Qs f217))])
def Qh1(F:Nat)(a:(Q9)×Ql):Option (Ql):=
 (Qtq F (a.2.2.2.1,a.1.2.2.1,a.1.2.2.2.2.2.2.1,a.1.2.2.2.2.2.2.2.1)).bind fun v5=>some ((a.2.1,a.2.2.1,v5,a.2.2.2.2.1,a.2.2.2.2.2))
def Zyv(F:Nat):PX:={np:=2,locs:=[.arg 0],τ:=Yp3,nr:=0,ω:=Yda,ids:=[0],mv:=[],code:=Qh1 F}
theorem Zp0(F:Nat):Zk cx 164 (Zyv F):=Yi (Yiv F) .leaf f164 (by kernel_rfl) fun a=>by kernel_rfl
def Yk3:Qk:=⟨[.slot 1 (.agg Xq),.one 0 31 Zm],[(0,.stat (.ptr 0 5 0 0))]⟩
def Ydc:Qk:=⟨[.one 0 31 Zm],[]⟩
def Ynd(F:Nat):LK:=lC (Xu F) (lS (PF.Qu (Wo F)) (lB [(217,Jr (Qs f217))]))
def Qgm(F:Nat)(a:(Q9)×Ql):Option (Ql):=
 (Qgf F a.2.2.1).bind fun v7=>gd (true&&(decide ((0:Nat)+v7.length<=v7.length)&&(true&&(true&&true)))&&true&&true) ((Jx F ((a.2.1,I (v7.length) (J (0:Nat) v7),a.2.2.2.1,a.2.2.2.2.1,a.2.2.2.2.2),a.1.2.2.1)).bind fun v8=>gd (decide (0<=v8)) (gd (decide (v8<(↑(v7.length):Int))) (gd (decide ((0:Nat)+v8.toNat<v7.length)) (gd (true&&(true&&(decide ((0:Nat)+v7.length<=R (ZA v7 ((0:Nat)+v8.toNat) ((v7.getD ((0:Nat)+v8.toNat) Zw).1,a.1.2.2.2.1,(v7.getD ((0:Nat)+v8.toNat) Zw).2.2.1,(v7.getD ((0:Nat)+v8.toNat) Zw).2.2.2)))&&(true&&(true&&true))))) (some ((a.2.1,I (v7.length) (J (0:Nat) (ZA v7 ((0:Nat)+v8.toNat) ((v7.getD ((0:Nat)+v8.toNat) Zw).1,a.1.2.2.2.1,(v7.getD ((0:Nat)+v8.toNat) Zw).2.2.1,(v7.getD ((0:Nat)+v8.toNat) Zw).2.2.2))),a.2.2.2.1,a.2.2.2.2.1,a.2.2.2.2.2)))))))
def Zuw(F:Nat):PX:={np:=2,locs:=[.arg 0],τ:=Yk3,nr:=0,ω:=Ydc,ids:=[0],mv:=[],code:=Qgm F}
theorem Yey(F:Nat):Zk cx 166 (Zuw F):=Yi (Ynd F) .leaf f166 (by kernel_rfl) fun a=>by kernel_rfl
def Ybx:Qk:=⟨[.slot 1 (.agg Xq),.one 0 31 Zm],[(0,.stat (.ptr 0 5 0 0))]⟩
def Ybt:Qk:=⟨[.one 0 31 Zm],[]⟩
def Zth(F:Nat):LK:=lC (Ql5 F) (lB [(217,Jr (Qs f217))])
def Qgl(F:Nat)(a:(Q9)×Ql):Option (Ql):=
 (Qws F (a.2.2.2.2.1,a.1.2.2.1,a.1.2.2.2.2.2.1,a.1.2.2.2.2.2.2.2.2.1,a.1.2.2.2.2.2.2.2.2.2.1,a.1.2.2.2.2.2.2.2.2.2.2.1,a.1.1,false)).bind fun v5=>some ((a.2.1,a.2.2.1,a.2.2.2.1,v5,a.2.2.2.2.2))
def Ycv(F:Nat):PX:={np:=2,locs:=[.arg 0],τ:=Ybx,nr:=0,ω:=Ybt,ids:=[0],mv:=[],code:=Qgl F}
theorem Zm6(F:Nat):Zk cx 168 (Ycv F):=Yi (Zth F) .leaf f168 (by kernel_rfl) fun a=>by kernel_rfl
def Yi5:Qk:=⟨[.slot 1 (.agg Xq),.one 0 31 Zm],[(0,.stat (.ptr 0 5 0 0))]⟩
def Yks:Qk:=⟨[.one 0 31 Zm],[]⟩
def Yj7(F:Nat):LK:=lS (PF.Qu (J3 F)) (lC (Vk F) (lB [(217,Jr (Qs f217))]))
def Qib(F:Nat)(a:(Q9)×Ql):Option (Ql):=
 (Jw F (a.2,a.1.2.2.1,a.1.2.2.2.2.2.1)).bind fun v10=>((Qep F a.2.2.2.2.1).bind fun v12=>gd (decide (0<=v10)) (gd (decide (v10<=w64 (v10+1))) (gd (decide (w64 (v10+1)<=(↑(v12.length):Int))) (gd (decide ((↑(v12.length):Int)<=(↑(v12.length):Int))) (bif decide (v10=w64 (v10+1))then(gd (true&&(true&&(true&&(true&&(decide ((0:Nat)+v12.length<=v12.length)&&true))))) (some ((a.2.1,a.2.2.1,a.2.2.2.1,I (v12.length) (J (0:Nat) v12),a.2.2.2.2.2))))else(gd (decide (0<=v10)) (gd (decide (v10<=(↑(v12.length):Int))) (gd (decide (0<=w64 (v10+1))) (gd (decide (w64 (v10+1)<=(↑(v12.length):Int))) (gd (decide ((↑(v12.length):Int)<=(↑(v12.length):Int))) (bif decide (j (↑(v12.length):Int)-j (w64 (v10+1))=0)then(gd (decide ((↑(v10.toNat-0):Int)<=(↑(v12.length):Int))) (gd (decide ((↑(v12.length):Int)<=(↑(v12.length-0):Int))) (gd (decide ((0:Nat)+j (↑(v10.toNat-0):Int)+(j (↑(v12.length):Int)-j (↑(v10.toNat-0):Int))<=v12.length)) (gd (true&&(true&&(true&&(true&&(decide ((0:Nat)+(v10.toNat-0)<=R (I ((0:Nat)+j (↑(v10.toNat-0):Int)) v12++U (j (↑(v12.length):Int)-j (↑(v10.toNat-0):Int)) ((o (C (Qa UInt8))),(o (C (Qa UInt8))),(o (C (Qa UInt8))),(0:Int),(o (C (Qa UInt8))),(0:Int),false)++J ((0:Nat)+j (↑(v10.toNat-0):Int)+(j (↑(v12.length):Int)-j (↑(v10.toNat-0):Int))) v12))&&true))))) (some ((a.2.1,a.2.2.1,a.2.2.2.1,I (v10.toNat-0) (J (0:Nat) (I ((0:Nat)+j (↑(v10.toNat-0):Int)) v12++U (j (↑(v12.length):Int)-j (↑(v10.toNat-0):Int)) ((o (C (Qa UInt8))),(o (C (Qa UInt8))),(o (C (Qa UInt8))),(0:Int),(o (C (Qa UInt8))),(0:Int),false)++J ((0:Nat)+j (↑(v10.toNat-0):Int)+(j (↑(v12.length):Int)-j (↑(v10.toNat-0):Int))) v12)),a.2.2.2.2.2)))))))else(gd (decide (v10.toNat-0+(j (↑(v12.length):Int)-j (w64 (v10+1)))<=v12.length-0)) (gd (decide (v10.toNat-0+(j (↑(v12.length):Int)-j (w64 (v10+1)))<=v12.length)) (gd (decide ((0:Nat)+j (w64 (v10+1))+(j (↑(v12.length):Int)-j (w64 (v10+1)))<=v12.length)) (gd (decide ((↑(v10.toNat-0+(j (↑(v12.length):Int)-j (w64 (v10+1)))):Int)<=(↑(v12.length):Int))) (gd (decide ((↑(v12.length):Int)<=(↑(v12.length-0):Int))) (gd (decide ((0:Nat)+j (↑(v10.toNat-0+(j (↑(v12.length):Int)-j (w64 (v10+1)))):Int)+(j (↑(v12.length):Int)-j (↑(v10.toNat-0+(j (↑(v12.length):Int)-j (w64 (v10+1)))):Int))<=R (Wa v12 (v10.toNat-0) ((0:Nat)+j (w64 (v10+1))) (j (↑(v12.length):Int)-j (w64 (v10+1)))))) (gd (true&&(true&&(true&&(true&&(decide ((0:Nat)+(v10.toNat-0+(j (↑(v12.length):Int)-j (w64 (v10+1))))<=R (I ((0:Nat)+j (↑(v10.toNat-0+(j (↑(v12.length):Int)-j (w64 (v10+1)))):Int)) (Wa v12 (v10.toNat-0) ((0:Nat)+j (w64 (v10+1))) (j (↑(v12.length):Int)-j (w64 (v10+1))))++U (j (↑(v12.length):Int)-j (↑(v10.toNat-0+(j (↑(v12.length):Int)-j (w64 (v10+1)))):Int)) ((o (C (Qa UInt8))),(o (C (Qa UInt8))),(o (C (Qa UInt8))),(0:Int),(o (C (Qa UInt8))),(0:Int),false)++J ((0:Nat)+j (↑(v10.toNat-0+(j (↑(v12.length):Int)-j (w64 (v10+1)))):Int)+(j (↑(v12.length):Int)-j (↑(v10.toNat-0+(j (↑(v12.length):Int)-j (w64 (v10+1)))):Int))) (Wa v12 (v10.toNat-0) ((0:Nat)+j (w64 (v10+1))) (j (↑(v12.length):Int)-j (w64 (v10+1))))))&&true))))) (some ((a.2.1,a.2.2.1,a.2.2.2.1,I (v10.toNat-0+(j (↑(v12.length):Int)-j (w64 (v10+1)))) (J (0:Nat) (I ((0:Nat)+j (↑(v10.toNat-0+(j (↑(v12.length):Int)-j (w64 (v10+1)))):Int)) (Wa v12 (v10.toNat-0) ((0:Nat)+j (w64 (v10+1))) (j (↑(v12.length):Int)-j (w64 (v10+1))))++U (j (↑(v12.length):Int)-j (↑(v10.toNat-0+(j (↑(v12.length):Int)-j (w64 (v10+1)))):Int)) ((o (C (Qa UInt8))),(o (C (Qa UInt8))),(o (C (Qa UInt8))),(0:Int),(o (C (Qa UInt8))),(0:Int),false)++J ((0:Nat)+j (↑(v10.toNat-0+(j (↑(v12.length):Int)-j (w64 (v10+1)))):Int)+(j (↑(v12.length):Int)-j (↑(v10.toNat-0+(j (↑(v12.length):Int)-j (w64 (v10+1)))):Int))) (Wa v12 (v10.toNat-0) ((0:Nat)+j (w64 (v10+1))) (j (↑(v12.length):Int)-j (w64 (v10+1)))))),a.2.2.2.2.2))))))))))))))))))))).bind fun v11=>some (v11)
def Ymr(F:Nat):PX:={np:=2,locs:=[.arg 0],τ:=Yi5,nr:=0,ω:=Yks,ids:=[0],mv:=[],code:=Qib F}
theorem Yle(F:Nat):Zk cx 170 (Ymr F):=Yi (Yj7 F) (Q7 2 (.join [(.normal,⟨[.one 0 31 Zm],[]⟩)] ⟨(kD 24 12 []),[0],[]⟩ .leaf)) f170 (by kernel_rfl) fun a=>by kernel_rfl
def Yhc:Qk:=⟨[.slot 1 (.agg Xq),.one 0 31 Zm],[(0,.stat (.ptr 0 5 0 0))]⟩
def Znp:Qk:=⟨[.one 0 31 Zm],[]⟩
def Ztm(F:Nat):LK:=lC (Vk F) (lS (PF.Qu (J3 F)) (lB [(217,Jr (Qs f217))]))
def Qg7(F:Nat)(a:(Q9)×Ql):Option (Ql):=
 (Qep F a.2.2.2.2.1).bind fun v7=>gd (true&&(true&&(true&&(decide ((0:Nat)+v7.length<=v7.length)&&true)))&&(true&&true)&&true) ((Jw F ((a.2.1,a.2.2.1,a.2.2.2.1,I (v7.length) (J (0:Nat) v7),a.2.2.2.2.2),a.1.2.2.1,a.1.2.2.2.2.2.1)).bind fun v8=>gd (decide (0<=v8)) (gd (decide (v8<(↑(v7.length):Int))) (gd (decide ((0:Nat)+v8.toNat<v7.length)) (gd (true&&(true&&(true&&(true&&(decide ((0:Nat)+v7.length<=R (ZA v7 ((0:Nat)+v8.toNat) ((v7.getD ((0:Nat)+v8.toNat) Q8).1,(v7.getD ((0:Nat)+v8.toNat) Q8).2.1,(v7.getD ((0:Nat)+v8.toNat) Q8).2.2.1,(v7.getD ((0:Nat)+v8.toNat) Q8).2.2.2.1,(v7.getD ((0:Nat)+v8.toNat) Q8).2.2.2.2.1,(v7.getD ((0:Nat)+v8.toNat) Q8).2.2.2.2.2.1,true)))&&true))))) (some ((a.2.1,a.2.2.1,a.2.2.2.1,I (v7.length) (J (0:Nat) (ZA v7 ((0:Nat)+v8.toNat) ((v7.getD ((0:Nat)+v8.toNat) Q8).1,(v7.getD ((0:Nat)+v8.toNat) Q8).2.1,(v7.getD ((0:Nat)+v8.toNat) Q8).2.2.1,(v7.getD ((0:Nat)+v8.toNat) Q8).2.2.2.1,(v7.getD ((0:Nat)+v8.toNat) Q8).2.2.2.2.1,(v7.getD ((0:Nat)+v8.toNat) Q8).2.2.2.2.2.1,true))),a.2.2.2.2.2)))))))
def Zri(F:Nat):PX:={np:=2,locs:=[.arg 0],τ:=Yhc,nr:=0,ω:=Znp,ids:=[0],mv:=[],code:=Qg7 F}
theorem Yh2(F:Nat):Zk cx 172 (Zri F):=Yi (Ztm F) .leaf f172 (by kernel_rfl) fun a=>by kernel_rfl
def Ymk:Qk:=⟨[.slot 1 (.agg Xq),.one 0 31 Zm],[(0,.stat (.ptr 0 5 0 0))]⟩
def Zs2:Qk:=⟨[.one 0 31 Zm],[]⟩
def Ylh(F:Nat):LK:=lC (Qfe F) (lS (PF.Qu (Wh F)) (lC (Qg0 F) (lC (Zji F) (lB [(217,Jr (Qs f217))]))))
def Qht(F:Nat)(a:(Q9)×Ql):Option (Ql):=
 tw (X:=Ql) (Yg.eqv (Qr.one (0:Nat) (31:Nat) Zm::Qa Qr)) ((Qkn F a.1.2.2.2.2.2.2.2.2.2.2.2).bind fun v25=>(Qh8 F (a.2,a.1.2.2.2.1,a.1.2.2.2.2.2.1)).bind fun v26=>bif decide (v26<0)then((Qyb F (a.2.2.2.2.2,a.1.2.2.2.1,a.1.2.2.2.2.2.1,v25)).bind fun v27=>some ((a.2.1,a.2.2.1,a.2.2.2.1,a.2.2.2.2.1,v27)))else((Qg6 F a.2.2.2.2.2).bind fun v28=>gd (decide (0<=v26)) (gd (decide (v26<(↑(v28.length):Int))) (gd (decide ((0:Nat)+v26.toNat<v28.length)) (gd (true&&(true&&(true&&(true&&(true&&decide ((0:Nat)+v28.length<=R (ZA v28 ((0:Nat)+v26.toNat) (a.1.2.2.2.1,a.1.2.2.2.2.2.1,v25)))))))) (some ((a.2.1,a.2.2.1,a.2.2.2.1,a.2.2.2.2.1,I (v28.length) (J (0:Nat) (ZA v28 ((0:Nat)+v26.toNat) (a.1.2.2.2.1,a.1.2.2.2.2.2.1,v25)))))))))))
def Ycq(F:Nat):PX:={np:=2,locs:=[.arg 0],τ:=Ymk,nr:=0,ω:=Zs2,ids:=[0],mv:=[],code:=Qht F}
theorem Zyw(F:Nat):Zk cx 174 (Ycq F):=Yi (Ylh F) .leaf f174 (by kernel_rfl) fun a=>by kernel_rfl
end
end Go.Proofs.Tryz
end
section
namespace Go.Proofs.Tryz
open Go Go.Sx
end Go.Proofs.Tryz
end
section
namespace Go.Proofs.Tryz
open Go Go.Sx
end Go.Proofs.Tryz
end

/- awake: the program run at its fixed examples returns true Functions of the program as functions of data. By program. And further parts. -/
import Derived.Test.YtpkbmngnolhopaaGreatDoorXTeW2
import Derived.Test.YtpkbmngnolhopaaGreatDoorXT3u
import Derived.Test.YtpkbmngnolhopaaGreatDoorXTeK23b
set_option maxRecDepth 1000000
set_option linter.unusedVariables false
set_option linter.all false
open Int renaming toNat->j
open ByteArray renaming mk->o
open List renaming toArray->C,take->I,drop->J,length->R,replicate->U,set->ZA
namespace Go.Proofs.Tryz
open Go Go.Sx
noncomputable def lxB:Lx:={ext:=[(82,Zko.sm),(29,Qsf.sm),(52,(Qvj.at Qkt Ql1).sm),(56,Zbp.sm),(50,(((Qmm.at Qi0 Qhe).at Qne Qly).at Qs4 Qqa).sm),(49,((Qpo.at Qj1 Qm9).at Qpc Qp3).sm),(37,Zin.sm),(38,Zie.sm),(36,Zdx.sm),(69,Zc9.sm),(46,Zia.sm),(81,(Zfz 400).sm),(83,(Qyy 400).sm),(63,(Zew 400).sm),(44,(Zlq 400).sm),(45,(Zcn 400).sm)],anns:=[(2000029,.leaf),(2000046,.leaf),(2000049,.leaf),(2000050,.leaf)],still:=[]}
theorem Zub:lxB.Ok cx.bare:=Lx.Zp (PF.Qu Ylv) (Lx.Zp (PC.Qu Zh0) (Lx.Zp (PC.Qu (Qg.at2 (pc:=Qvj) Yof (a0:=Qkt) (y0:=Ql1) Yot)) (Lx.Zp (PC.Qu Ztx) (Lx.Zp (PC.Qu (Qg.at2 (pc:=((Qmm.at Qi0 Qhe).at Qne Qly)) (Qg.at2 (pc:=(Qmm.at Qi0 Qhe)) (Qg.at2 (pc:=Qmm) Zys (a0:=Qi0) (y0:=Qhe) Zz3) (a0:=Qne) (y0:=Qly) Yba) (a0:=Qs4) (y0:=Qqa) Zp4)) (Lx.Zp (PC.Qu (Qg.at2 (pc:=(Qpo.at Qj1 Qm9)) (Qg.at2 (pc:=Qpo) Yb1 (a0:=Qj1) (y0:=Qm9) Ysd) (a0:=Qpc) (y0:=Qp3) Ygj)) (Lx.Zp (PC.Qu Yj6) (Lx.Zp (PC.Qu Yk0) (Lx.Zp (PC.Qu Zt0) (Lx.Zp (PC.Qu Yk3) (Lx.Zp (PC.Qu Zqb) (Lx.Zp (PC.Qu (Ye9 400).bare) (Lx.Zp (PC.Qu (Zdn 400).bare) (Lx.Zp (PC.Qu (Yfr 400).bare) (Lx.Zp (PC.Qu (Qvk 400).bare) (Lx.Zp (PC.Qu (Yfe 400).bare) (Lx.Ud))))))))))))))))
noncomputable def c20(F:Nat)(a:Unit):Option Bool:=some true
noncomputable def Ye8(F:Nat):PC:={ats:=[],rts:=[.val .bool],code:=c20 F}
theorem Ycf:Z6 cx.bare lxB 3000 .leaf f20 (Qs f20) [] [.val .bool] ()=some true:=by kernel_rfl
theorem Yfg(F:Nat):Qg cx 20 (Ye8 F):=Qg.full (Qg.Yg (Cx.Y4 Yh) Zub (n:=3000) (an:=.leaf) (fn:=f20) (c:=Qs f20) (by kernel_rfl) (by kernel_rfl) (fun a y h=>Ycf.trans h) (by kernel_rfl))
end Go.Proofs.Tryz
section
namespace Go.Proofs.Tryz
open Go Go.Sx
end Go.Proofs.Tryz
end
section

end
section
namespace Go.Proofs.Tryz
open Go Go.Sx
end Go.Proofs.Tryz
end
section
namespace Go.Proofs.Tryz
open Go Go.Sx
noncomputable section
def Zs5:Qk:=⟨[.slot 1 (.agg Xd),.one 0 31 Zn],[(0,.stat (.ptr 0 5 0 0))]⟩
def Zwt:Qk:=⟨[.one 0 31 Zn],[]⟩
def Yrj(F:Nat):LK:=lC (Qm7 F) (lB [(217,Wg (Qs f217))])
def Qi6(F:Nat)(a:(Q4)×Qm):Option (Qm):=
 (Qy5 F (a.2.1,a.1.2.2.2.1)).bind fun v5=>some ((v5,a.2.2.1,a.2.2.2.1,a.2.2.2.2.1,a.2.2.2.2.2))
def Zwp(F:Nat):PX:={np:=2,locs:=[.arg 0],τ:=Zs5,nr:=0,ω:=Zwt,ids:=[0],mv:=[],code:=Qi6 F}
theorem Zu2(F:Nat):Zm cx 159 (Zwp F):=Yl (Yrj F) .leaf f159 (by kernel_rfl) fun a=>by kernel_rfl
def Yi7:Qk:=⟨[.slot 1 (.agg Xd),.one 0 31 Zn],[(0,.stat (.ptr 0 5 0 0))]⟩
def Zya:Qk:=⟨[.one 0 31 Zn],[]⟩
def Yem(F:Nat):LK:=lC (Qkn F) (lB [(217,Wg (Qs f217))])
def Qgo(F:Nat)(a:(Q4)×Qm):Option (Qm):=
 (Qx2 F (a.2.2.1,a.1.2.2.1,a.1.2.2.2.1,a.1.2.2.2.2.2.2.1,a.1.2.2.2.2.1)).bind fun v5=>some ((a.2.1,v5,a.2.2.2.1,a.2.2.2.2.1,a.2.2.2.2.2))
def Yjd(F:Nat):PX:={np:=2,locs:=[.arg 0],τ:=Yi7,nr:=0,ω:=Zya,ids:=[0],mv:=[],code:=Qgo F}
theorem Ym2(F:Nat):Zm cx 162 (Yjd F):=Yl (Yem F) .leaf f162 (by kernel_rfl) fun a=>by kernel_rfl
def Yp7:Qk:=⟨[.slot 1 (.agg Xd),.one 0 31 Zn],[(0,.stat (.ptr 0 5 0 0))]⟩
def Zx5:Qk:=⟨[.one 0 31 Zn],[]⟩
def Yb6(F:Nat):LK:=lC (Qm2 F) (lB [(217,Wg (Qs f217))])
def Qi3(F:Nat)(a:(Q4)×Qm):Option (Qm):=
 (Qyo F (a.2.2.2.1,a.1.2.2.1,a.1.2.2.2.2.2.2.1,a.1.2.2.2.2.2.2.2.1)).bind fun v5=>some ((a.2.1,a.2.2.1,v5,a.2.2.2.2.1,a.2.2.2.2.2))
def Yqv(F:Nat):PX:={np:=2,locs:=[.arg 0],τ:=Yp7,nr:=0,ω:=Zx5,ids:=[0],mv:=[],code:=Qi3 F}
theorem Znh(F:Nat):Zm cx 164 (Yqv F):=Yl (Yb6 F) .leaf f164 (by kernel_rfl) fun a=>by kernel_rfl
def Yjw:Qk:=⟨[.slot 1 (.agg Xd),.one 0 31 Zn],[(0,.stat (.ptr 0 5 0 0))]⟩
def Ym6:Qk:=⟨[.one 0 31 Zn],[]⟩
def Yrq(F:Nat):LK:=lC (Xu F) (lS (PF.Qu (Wo F)) (lB [(217,Wg (Qs f217))]))
def Qir(F:Nat)(a:(Q4)×Qm):Option (Qm):=
 (Qgz F a.2.2.1).bind fun v7=>gd (true&&(decide ((0:Nat)+v7.length<=v7.length)&&(true&&(true&&true)))&&true&&true) ((Jt F ((a.2.1,I (v7.length) (J (0:Nat) v7),a.2.2.2.1,a.2.2.2.2.1,a.2.2.2.2.2),a.1.2.2.1)).bind fun v8=>gd (decide (0<=v8)) (gd (decide (v8<(↑(v7.length):Int))) (gd (decide ((0:Nat)+v8.toNat<v7.length)) (gd (true&&(true&&(decide ((0:Nat)+v7.length<=R (ZA v7 ((0:Nat)+v8.toNat) ((v7.getD ((0:Nat)+v8.toNat) Yf).1,a.1.2.2.2.1,(v7.getD ((0:Nat)+v8.toNat) Yf).2.2.1,(v7.getD ((0:Nat)+v8.toNat) Yf).2.2.2)))&&(true&&(true&&true))))) (some ((a.2.1,I (v7.length) (J (0:Nat) (ZA v7 ((0:Nat)+v8.toNat) ((v7.getD ((0:Nat)+v8.toNat) Yf).1,a.1.2.2.2.1,(v7.getD ((0:Nat)+v8.toNat) Yf).2.2.1,(v7.getD ((0:Nat)+v8.toNat) Yf).2.2.2))),a.2.2.2.1,a.2.2.2.2.1,a.2.2.2.2.2)))))))
def Zze(F:Nat):PX:={np:=2,locs:=[.arg 0],τ:=Yjw,nr:=0,ω:=Ym6,ids:=[0],mv:=[],code:=Qir F}
theorem Yjo(F:Nat):Zm cx 166 (Zze F):=Yl (Yrq F) .leaf f166 (by kernel_rfl) fun a=>by kernel_rfl
def Zxv:Qk:=⟨[.slot 1 (.agg Xd),.one 0 31 Zn],[(0,.stat (.ptr 0 5 0 0))]⟩
def Ypj:Qk:=⟨[.one 0 31 Zn],[]⟩
def Ydp(F:Nat):LK:=lC (Qj4 F) (lB [(217,Wg (Qs f217))])
def Qh4(F:Nat)(a:(Q4)×Qm):Option (Qm):=
 (Qv8 F (a.2.2.2.2.1,a.1.2.2.1,a.1.2.2.2.2.2.1,a.1.2.2.2.2.2.2.2.2.1,a.1.2.2.2.2.2.2.2.2.2.1,a.1.2.2.2.2.2.2.2.2.2.2.1,a.1.1,false)).bind fun v5=>some ((a.2.1,a.2.2.1,a.2.2.2.1,v5,a.2.2.2.2.2))
def Yju(F:Nat):PX:={np:=2,locs:=[.arg 0],τ:=Zxv,nr:=0,ω:=Ypj,ids:=[0],mv:=[],code:=Qh4 F}
theorem Zx6(F:Nat):Zm cx 168 (Yju F):=Yl (Ydp F) .leaf f168 (by kernel_rfl) fun a=>by kernel_rfl
def Yjz:Qk:=⟨[.slot 1 (.agg Xd),.one 0 31 Zn],[(0,.stat (.ptr 0 5 0 0))]⟩
def Yee:Qk:=⟨[.one 0 31 Zn],[]⟩
def Yak(F:Nat):LK:=lS (PF.Qu (J2 F)) (lC (Vl F) (lB [(217,Wg (Qs f217))]))
def Qjm(F:Nat)(a:(Q4)×Qm):Option (Qm):=
 (Jx F (a.2,a.1.2.2.1,a.1.2.2.2.2.2.1)).bind fun v10=>((Qfv F a.2.2.2.2.1).bind fun v12=>gd (decide (0<=v10)) (gd (decide (v10<=w64 (v10+1))) (gd (decide (w64 (v10+1)<=(↑(v12.length):Int))) (gd (decide ((↑(v12.length):Int)<=(↑(v12.length):Int))) (bif decide (v10=w64 (v10+1))then(gd (true&&(true&&(true&&(true&&(decide ((0:Nat)+v12.length<=v12.length)&&true))))) (some ((a.2.1,a.2.2.1,a.2.2.2.1,I (v12.length) (J (0:Nat) v12),a.2.2.2.2.2))))else(gd (decide (0<=v10)) (gd (decide (v10<=(↑(v12.length):Int))) (gd (decide (0<=w64 (v10+1))) (gd (decide (w64 (v10+1)<=(↑(v12.length):Int))) (gd (decide ((↑(v12.length):Int)<=(↑(v12.length):Int))) (bif decide (j (↑(v12.length):Int)-j (w64 (v10+1))=0)then(gd (decide ((↑(v10.toNat-0):Int)<=(↑(v12.length):Int))) (gd (decide ((↑(v12.length):Int)<=(↑(v12.length-0):Int))) (gd (decide ((0:Nat)+j (↑(v10.toNat-0):Int)+(j (↑(v12.length):Int)-j (↑(v10.toNat-0):Int))<=v12.length)) (gd (true&&(true&&(true&&(true&&(decide ((0:Nat)+(v10.toNat-0)<=R (I ((0:Nat)+j (↑(v10.toNat-0):Int)) v12++U (j (↑(v12.length):Int)-j (↑(v10.toNat-0):Int)) ((o (C (Qa UInt8))),(o (C (Qa UInt8))),(o (C (Qa UInt8))),(0:Int),(o (C (Qa UInt8))),(0:Int),false)++J ((0:Nat)+j (↑(v10.toNat-0):Int)+(j (↑(v12.length):Int)-j (↑(v10.toNat-0):Int))) v12))&&true))))) (some ((a.2.1,a.2.2.1,a.2.2.2.1,I (v10.toNat-0) (J (0:Nat) (I ((0:Nat)+j (↑(v10.toNat-0):Int)) v12++U (j (↑(v12.length):Int)-j (↑(v10.toNat-0):Int)) ((o (C (Qa UInt8))),(o (C (Qa UInt8))),(o (C (Qa UInt8))),(0:Int),(o (C (Qa UInt8))),(0:Int),false)++J ((0:Nat)+j (↑(v10.toNat-0):Int)+(j (↑(v12.length):Int)-j (↑(v10.toNat-0):Int))) v12)),a.2.2.2.2.2)))))))else(gd (decide (v10.toNat-0+(j (↑(v12.length):Int)-j (w64 (v10+1)))<=v12.length-0)) (gd (decide (v10.toNat-0+(j (↑(v12.length):Int)-j (w64 (v10+1)))<=v12.length)) (gd (decide ((0:Nat)+j (w64 (v10+1))+(j (↑(v12.length):Int)-j (w64 (v10+1)))<=v12.length)) (gd (decide ((↑(v10.toNat-0+(j (↑(v12.length):Int)-j (w64 (v10+1)))):Int)<=(↑(v12.length):Int))) (gd (decide ((↑(v12.length):Int)<=(↑(v12.length-0):Int))) (gd (decide ((0:Nat)+j (↑(v10.toNat-0+(j (↑(v12.length):Int)-j (w64 (v10+1)))):Int)+(j (↑(v12.length):Int)-j (↑(v10.toNat-0+(j (↑(v12.length):Int)-j (w64 (v10+1)))):Int))<=R (Wh v12 (v10.toNat-0) ((0:Nat)+j (w64 (v10+1))) (j (↑(v12.length):Int)-j (w64 (v10+1)))))) (gd (true&&(true&&(true&&(true&&(decide ((0:Nat)+(v10.toNat-0+(j (↑(v12.length):Int)-j (w64 (v10+1))))<=R (I ((0:Nat)+j (↑(v10.toNat-0+(j (↑(v12.length):Int)-j (w64 (v10+1)))):Int)) (Wh v12 (v10.toNat-0) ((0:Nat)+j (w64 (v10+1))) (j (↑(v12.length):Int)-j (w64 (v10+1))))++U (j (↑(v12.length):Int)-j (↑(v10.toNat-0+(j (↑(v12.length):Int)-j (w64 (v10+1)))):Int)) ((o (C (Qa UInt8))),(o (C (Qa UInt8))),(o (C (Qa UInt8))),(0:Int),(o (C (Qa UInt8))),(0:Int),false)++J ((0:Nat)+j (↑(v10.toNat-0+(j (↑(v12.length):Int)-j (w64 (v10+1)))):Int)+(j (↑(v12.length):Int)-j (↑(v10.toNat-0+(j (↑(v12.length):Int)-j (w64 (v10+1)))):Int))) (Wh v12 (v10.toNat-0) ((0:Nat)+j (w64 (v10+1))) (j (↑(v12.length):Int)-j (w64 (v10+1))))))&&true))))) (some ((a.2.1,a.2.2.1,a.2.2.2.1,I (v10.toNat-0+(j (↑(v12.length):Int)-j (w64 (v10+1)))) (J (0:Nat) (I ((0:Nat)+j (↑(v10.toNat-0+(j (↑(v12.length):Int)-j (w64 (v10+1)))):Int)) (Wh v12 (v10.toNat-0) ((0:Nat)+j (w64 (v10+1))) (j (↑(v12.length):Int)-j (w64 (v10+1))))++U (j (↑(v12.length):Int)-j (↑(v10.toNat-0+(j (↑(v12.length):Int)-j (w64 (v10+1)))):Int)) ((o (C (Qa UInt8))),(o (C (Qa UInt8))),(o (C (Qa UInt8))),(0:Int),(o (C (Qa UInt8))),(0:Int),false)++J ((0:Nat)+j (↑(v10.toNat-0+(j (↑(v12.length):Int)-j (w64 (v10+1)))):Int)+(j (↑(v12.length):Int)-j (↑(v10.toNat-0+(j (↑(v12.length):Int)-j (w64 (v10+1)))):Int))) (Wh v12 (v10.toNat-0) ((0:Nat)+j (w64 (v10+1))) (j (↑(v12.length):Int)-j (w64 (v10+1)))))),a.2.2.2.2.2))))))))))))))))))))).bind fun v11=>some (v11)
def Zvw(F:Nat):PX:={np:=2,locs:=[.arg 0],τ:=Yjz,nr:=0,ω:=Yee,ids:=[0],mv:=[],code:=Qjm F}
theorem Ztf(F:Nat):Zm cx 170 (Zvw F):=Yl (Yak F) (Q8 2 (.join [(.normal,⟨[.one 0 31 Zn],[]⟩)] ⟨(kD 24 12 []),[0],[]⟩ .leaf)) f170 (by kernel_rfl) fun a=>by kernel_rfl
def Yc3:Qk:=⟨[.slot 1 (.agg Xd),.one 0 31 Zn],[(0,.stat (.ptr 0 5 0 0))]⟩
def Yj9:Qk:=⟨[.one 0 31 Zn],[]⟩
def Yhz(F:Nat):LK:=lC (Vl F) (lS (PF.Qu (J2 F)) (lB [(217,Wg (Qs f217))]))
def Qid(F:Nat)(a:(Q4)×Qm):Option (Qm):=
 (Qfv F a.2.2.2.2.1).bind fun v7=>gd (true&&(true&&(true&&(decide ((0:Nat)+v7.length<=v7.length)&&true)))&&(true&&true)&&true) ((Jx F ((a.2.1,a.2.2.1,a.2.2.2.1,I (v7.length) (J (0:Nat) v7),a.2.2.2.2.2),a.1.2.2.1,a.1.2.2.2.2.2.1)).bind fun v8=>gd (decide (0<=v8)) (gd (decide (v8<(↑(v7.length):Int))) (gd (decide ((0:Nat)+v8.toNat<v7.length)) (gd (true&&(true&&(true&&(true&&(decide ((0:Nat)+v7.length<=R (ZA v7 ((0:Nat)+v8.toNat) ((v7.getD ((0:Nat)+v8.toNat) Zk).1,(v7.getD ((0:Nat)+v8.toNat) Zk).2.1,(v7.getD ((0:Nat)+v8.toNat) Zk).2.2.1,(v7.getD ((0:Nat)+v8.toNat) Zk).2.2.2.1,(v7.getD ((0:Nat)+v8.toNat) Zk).2.2.2.2.1,(v7.getD ((0:Nat)+v8.toNat) Zk).2.2.2.2.2.1,true)))&&true))))) (some ((a.2.1,a.2.2.1,a.2.2.2.1,I (v7.length) (J (0:Nat) (ZA v7 ((0:Nat)+v8.toNat) ((v7.getD ((0:Nat)+v8.toNat) Zk).1,(v7.getD ((0:Nat)+v8.toNat) Zk).2.1,(v7.getD ((0:Nat)+v8.toNat) Zk).2.2.1,(v7.getD ((0:Nat)+v8.toNat) Zk).2.2.2.1,(v7.getD ((0:Nat)+v8.toNat) Zk).2.2.2.2.1,(v7.getD ((0:Nat)+v8.toNat) Zk).2.2.2.2.2.1,true))),a.2.2.2.2.2)))))))
def Yeb(F:Nat):PX:={np:=2,locs:=[.arg 0],τ:=Yc3,nr:=0,ω:=Yj9,ids:=[0],mv:=[],code:=Qid F}
theorem Zuk(F:Nat):Zm cx 172 (Yeb F):=Yl (Yhz F) .leaf f172 (by kernel_rfl) fun a=>by kernel_rfl
def Zrj:Qk:=⟨[.slot 1 (.agg Xd),.one 0 31 Zn],[(0,.stat (.ptr 0 5 0 0))]⟩
def Yfc:Qk:=⟨[.one 0 31 Zn],[]⟩
def Ylq(F:Nat):LK:=lC (Qfs F) (lS (PF.Qu (Wl F)) (lC (Qh0 F) (lC (Zis F) (lB [(217,Wg (Qs f217))]))))
def Qim(F:Nat)(a:(Q4)×Qm):Option (Qm):=
 tw (X:=Qm) (Yi.eqv (Qq.one (0:Nat) (31:Nat) Zn::Qa Qq)) ((Qk5 F a.1.2.2.2.2.2.2.2.2.2.2.2).bind fun v25=>(Qgr F (a.2,a.1.2.2.2.1,a.1.2.2.2.2.2.1)).bind fun v26=>bif decide (v26<0)then((Qv0 F (a.2.2.2.2.2,a.1.2.2.2.1,a.1.2.2.2.2.2.1,v25)).bind fun v27=>some ((a.2.1,a.2.2.1,a.2.2.2.1,a.2.2.2.2.1,v27)))else((Qg6 F a.2.2.2.2.2).bind fun v28=>gd (decide (0<=v26)) (gd (decide (v26<(↑(v28.length):Int))) (gd (decide ((0:Nat)+v26.toNat<v28.length)) (gd (true&&(true&&(true&&(true&&(true&&decide ((0:Nat)+v28.length<=R (ZA v28 ((0:Nat)+v26.toNat) (a.1.2.2.2.1,a.1.2.2.2.2.2.1,v25)))))))) (some ((a.2.1,a.2.2.1,a.2.2.2.1,a.2.2.2.2.1,I (v28.length) (J (0:Nat) (ZA v28 ((0:Nat)+v26.toNat) (a.1.2.2.2.1,a.1.2.2.2.2.2.1,v25)))))))))))
def Ybv(F:Nat):PX:={np:=2,locs:=[.arg 0],τ:=Zrj,nr:=0,ω:=Yfc,ids:=[0],mv:=[],code:=Qim F}
theorem Ymm(F:Nat):Zm cx 174 (Ybv F):=Yl (Ylq F) .leaf f174 (by kernel_rfl) fun a=>by kernel_rfl
end
end Go.Proofs.Tryz
end
section
namespace Go.Proofs.Tryz
open Go Go.Sx
end Go.Proofs.Tryz
end
section
namespace Go.Proofs.Tryz
open Go Go.Sx
end Go.Proofs.Tryz
end

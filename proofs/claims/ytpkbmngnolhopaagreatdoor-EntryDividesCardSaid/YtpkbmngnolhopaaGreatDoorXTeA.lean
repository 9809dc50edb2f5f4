/- awake: the program run at its fixed examples returns true Functions of the program as functions of data. By program. And further parts. -/
import Derived.Test.YtpkbmngnolhopaaGreatDoorXTeW2
import Derived.Test.YtpkbmngnolhopaaGreatDoorXT3r
import Derived.Test.YtpkbmngnolhopaaGreatDoorXT3g
import Derived.Test.YtpkbmngnolhopaaGreatDoorXT3i
set_option maxRecDepth 1000000
set_option linter.unusedVariables false
set_option linter.all false
set_option linter.unusedSimpArgs false
namespace Go.Proofs.Tryz
open Go Go.Sx
noncomputable def lxB:Lx:={ext:=[(82,Qxp.sm),(29,Qlg.sm),(52,(Qnu.at Qg0 Qf2).sm),(56,Qyj.sm),(50,(((Qho.at Qdf Qdp).at Qf1 Qfm).at Qk2 Qlw).sm),(49,((Qip.at Qff Qgc).at Qjv Qhx).sm),(37,Qvz.sm),(38,Zbe.sm),(36,Qt2.sm),(69,Za2.sm),(46,Zbt.sm),(81,(Qvs 400).sm),(83,(Qr1 400).sm),(63,(Qx2 400).sm),(44,(Qyv 400).sm),(45,(Qvv 400).sm)],anns:=[(2000029,.leaf),(2000046,.leaf),(2000049,.leaf),(2000050,.leaf)],still:=[]}
theorem Zvv:lxB.Ok cx.bare:=Lx.Q3 (PF.Q0 Zqq) (Lx.Q3 (PC.Q0 Qzu) (Lx.Q3 (PC.Q0 (Qg.at2 (pc:=Qnu) Zkq (a0:=Qg0) (y0:=Qf2) Zvn)) (Lx.Q3 (PC.Q0 Zmg) (Lx.Q3 (PC.Q0 (Qg.at2 (pc:=((Qho.at Qdf Qdp).at Qf1 Qfm)) (Qg.at2 (pc:=(Qho.at Qdf Qdp)) (Qg.at2 (pc:=Qho) Zuu (a0:=Qdf) (y0:=Qdp) Zm9) (a0:=Qf1) (y0:=Qfm) Zon) (a0:=Qk2) (y0:=Qlw) Zub)) (Lx.Q3 (PC.Q0 (Qg.at2 (pc:=(Qip.at Qff Qgc)) (Qg.at2 (pc:=Qip) Zy0 (a0:=Qff) (y0:=Qgc) Ztn) (a0:=Qjv) (y0:=Qhx) Zi2)) (Lx.Q3 (PC.Q0 Zqz) (Lx.Q3 (PC.Q0 Zmj) (Lx.Q3 (PC.Q0 Zjn) (Lx.Q3 (PC.Q0 Zyd) (Lx.Q3 (PC.Q0 Zs2) (Lx.Q3 (PC.Q0 (Zrb 400).bare) (Lx.Q3 (PC.Q0 (Qv2 400).bare) (Lx.Q3 (PC.Q0 (Zkf 400).bare) (Lx.Q3 (PC.Q0 (Zve 400).bare) (Lx.Q3 (PC.Q0 (Zkv 400).bare) (Lx.W7))))))))))))))))
noncomputable def c20(F:Nat)(a:Unit):Option Bool:=some true
noncomputable def Ztk(F:Nat):PC:={ats:=[],rts:=[.val .bool],code:=c20 F}
theorem Znc:Z9 cx.bare lxB 3000 .leaf f20 (Qv f20) [] [.val .bool] ()=some true:=by kernel_rfl
theorem Zp7(F:Nat):Qg cx 20 (Ztk F):=Qg.full (Qg.Zr (Cx.Yc Zs) Zvv (n:=3000) (an:=.leaf) (fn:=f20) (c:=Qv f20) (by kernel_rfl) (by kernel_rfl) (fun a y h=>Znc.trans h) (by kernel_rfl))
end Go.Proofs.Tryz
section
namespace Go.Proofs.Tryz
open Go Go.Sx
end Go.Proofs.Tryz
end
section

end
section
namespace Go.Proofs.Tryz
open Go Go.Sx
end Go.Proofs.Tryz
end
section
namespace Go.Proofs.Tryz
open Go Go.Sx
noncomputable section
end
end Go.Proofs.Tryz
end
section
namespace Go.Proofs.Tryz
open Go Go.Sx
end Go.Proofs.Tryz
end
section
namespace Go.Proofs.Tryz
open Go Go.Sx
end Go.Proofs.Tryz
end
section
namespace Go.Proofs.Tryz
open Go Go.Sx
noncomputable section
end
end Go.Proofs.Tryz
end
section
namespace Go.Proofs.Tryz
open Go Go.Sx
end Go.Proofs.Tryz
end
section

end
section
namespace Go.Proofs.Tryz
open Go Go.Sx
end Go.Proofs.Tryz
end
section

end
section
namespace Go.Proofs.Tryz
open Go Go.Sx
end Go.Proofs.Tryz
end
section
namespace Go.Proofs.Tryz
open Go Go.Sx
end Go.Proofs.Tryz
end
section
namespace Go.Proofs.Tryz
open Go Go.Sx
end Go.Proofs.Tryz
end
namespace Go.Proofs.Tryz
open Go Go.Sx
abbrev atM:Qf:=.agg [.int .i64,.int .i64,.int .i64,.int .i64,.seq [.str,.str,.str,.int .i64,.int .i64,.int .i64,.int .i64,.str,.int .i64,.str,.int .i64]]
abbrev atS:Qf:=.agg [.seq Zq,.seq [.str,.str,.int .i64,.str],.seq [.str,.int .i64,.int .i64],.seq [.str,.str,.str,.int .i64,.str,.int .i64,.bool],.seq [.str,.str,.seq Zq]]
theorem okM{m:Mt}(h:Qf.ok atM m):m.2.2.2.2.length*128≤140737488355328:=by obtain⟨-,-,-,-,h,-⟩:=h;have h:m.2.2.2.2.length*128≤140737488351232:=h;omega
theorem okS{s:Qy}(h:Qf.ok atS s):ByS s:=by obtain⟨⟨h1,-⟩,⟨h2,-⟩,⟨h3,-⟩,⟨h4,-⟩,⟨h5,h6⟩⟩:=h;have h1:s.1.length*16≤140737488351232:=h1;have h2:s.2.1.length*56≤140737488351232:=h2;have h3:s.2.2.1.length*32≤140737488351232:=h3;have h4:s.2.2.2.1.length*88≤140737488351232:=h4;have h5:s.2.2.2.2.length*56≤140737488351232:=h5;refine⟨by omega,by omega,by omega,by omega,by omega,fun x hx=>?_⟩;have h7:x.2.2.length*16≤140737488351232:=(h6 x hx).2.2.1;omega
def Qcc:List Tm→Nat
 |[]=>0
 |x::l=>x.2.2.length+1+Qcc l
theorem Qvq:∀(l:List Tm),l.length≤Qcc l∧∀x∈l,x.2.2.length≤Qcc l
 |[]=>⟨Nat.le_refl _,fun x hx=>(by cases hx)⟩
 |y::l=>by
  obtain⟨h1,h2⟩:=Qvq l;refine⟨by simp only[Qcc,List.length_cons];omega,fun x hx=>?_⟩;simp only[Qcc];rcases List.mem_cons.1 hx with rfl|hx
  ·omega
  ·have:=h2 x hx;omega
def Qd4(m:Mt)(s:Qy):Nat:=m.2.2.2.2.length+s.1.length+s.2.1.length+s.2.2.1.length+s.2.2.2.1.length+s.2.2.2.2.length+Qcc s.2.2.2.2+100000
theorem Zv2(m:Mt)(s:Qy):100000≤Qd4 m s∧m.2.2.2.2.length<Qd4 m s∧Qk0 (Qd4 m s) s:=by obtain⟨h1,h2⟩:=Qvq s.2.2.2.2;unfold Qd4;refine⟨by omega,by omega,by omega,by omega,by omega,by omega,by omega,fun x hx=>?_⟩;have:=h2 x hx;omega
theorem MtS.bd{m:Mt}(h:MtS m):∀x∈m.2.2.2.2,x.1.size≤300∧x.2.2.1.size≤300:=fun x hx=>by have:=h.c x hx;unfold CsS at this;omega
theorem MtS.len{m:Mt}(h:MtS m):m.2.2.2.2.length≤300:=by have:=h.n;omega
theorem Quc(b:Bool):Qw.eqv (Qf.val Ty.bool::Qb Qf) b b=true:=Qw.eqv_rf (Qf.val Ty.bool::Qb Qf) b
structure Zva (s:Qy):Prop where
 c:s.1.length≤6
 a:s.2.1.length≤8
 l:s.2.2.1.length≤12
 e:s.2.2.2.1.length≤20
 t:s.2.2.2.2.length≤6
theorem Zg4{m:Mt}{s:Qy}(hv:stE m s=0)(h:ShS s):Zva s:=by
 have h1:=Qqf hv;have h2:¬Jk s:=fun h=>by rw[stE,if_pos h1,if_pos h]at hv;exact absurd hv (by decide)
 unfold Jk at h2;refine⟨?_,?_,?_,?_,?_⟩
 ·rcases h.c with q|q
  ·exact q
  ·omega
 ·rcases h.a with q|q
  ·exact q
  ·omega
 ·rcases h.l with q|q
  ·exact q
  ·omega
 ·rcases h.e with q|q
  ·exact q
  ·omega
 ·rcases h.t with q|q
  ·exact q
  ·omega
end Go.Proofs.Tryz
section
namespace Go.Proofs.Tryz
open Go Go.Sx
end Go.Proofs.Tryz
end
section
namespace Go.Proofs.Tryz
open Go Go.Sx
end Go.Proofs.Tryz
end
namespace Go.Proofs.Tryz
open Go Go.Sx
theorem Zbw(s:Qy)(P C:Int)(L:List Qm):(Zy s P C L).1.length+(Zy s P C L).2.1.length=L.length:=by
 have h:∀(L:List Qm) (d:Dv),(L.foldl (Yb s P C) d).1.length+(L.foldl (Yb s P C) d).2.1.length=d.1.length+d.2.1.length+L.length:=by
  intro L;induction L with
  |nil=>intro d;rfl
  |cons x L ih=>intro d;rw[List.foldl_cons,ih,(Qsg s P C d x).1,List.length_cons];omega
 have:=h L ([],[],[]);unfold Zy;simpa using this
end Go.Proofs.Tryz
section
namespace Go.Proofs.Tryz
open Go Go.Sx
noncomputable section
def Zw1(F:Nat):LK:=lC (Zv1 F) (lC (Zrs F) (lC (Zlb F) lN))
def c51(F:Nat)(a:(Zd)×Qz):Option (Bool):=
 ((c17 F a.1).bind fun(v15:Bool)=>bif v15 then((c18 F a.2).bind fun(v16:Bool)=>bif v16 then((c26 F (a.1,a.2.1,a.2.2.1,a.2.2.2.1,a.2.2.2.2.1,a.2.2.2.2.2)).bind fun(v17:Int)=>some (decide (v17=0)))else(some (false)))else(some (false))).bind fun(v14:Bool)=>some (v14)
def Zdy(F:Nat):PC:={ats:=Qex,rts:=Yz,code:=c51 F}
theorem Zgv(F:Nat):Qg cx 51 (Zdy F):=qE (Zw1 F) (.two .leaf (.two (.join [(.normal,⟨[.slot 4 (.val (.bool))],[]⟩)] ⟨(4::kD 16 12 []),[],[]⟩ .leaf) .leaf)) f51 (by kernel_rfl) fun a=>by kernel_rfl
def lx9(F:Nat):LK:=lC (Zgv F) (lC (Qi8 F) (lC (Zp7 F) (lC (Zen F) (lC (Qzk F) (lC (Qhk F) (lC (Zuw F) (lC (Zbo F) (lC (Qmv F) (lC (Ztr F) (lC (Zoe F) lN))))))))))
def ck9(F:Nat)(a:(Zd)×(Qz)×ByteArray)(x0:Zd)(x1:Qz):Option (Bool):=
 (c47 F (x0,a.2.2)).bind fun(u2:Int)=>gd (decide (0≤u2)) (gd (decide (u2<(↑(a.1.2.2.2.2.length):Int))) (gd (decide (u2.toNat<a.1.2.2.2.2.length)) ((c55 F (a.1,a.2.1,a.2.2)).bind fun(u3:List (Qr)×Int)=>(c52 F (a.1,a.2.1,a.2.2)).bind fun(u4:List ByteArray×Int)=>(c56 F (a.1,a.2.1,a.2.2)).bind fun(u5:List ByteArray×Int)=>(bif !decide (u3.2=0)then(some (true))else(bif !decide (u4.2=0)then(some (true))else(bif !decide (u5.2=0)then(some (true))else(bif !decide (w64 ((↑(u4.1.length):Int)+(↑(u5.1.length):Int))=(↑(u3.1.length):Int))then(some (true))else(some (decide ((a.1.2.2.2.2.getD (u2.toNat) Q2).2.2.2.2.2.1<(↑(u4.1.length):Int)))))))).bind fun(u6:Bool)=>bif u6 then(some (false))else((Qu (σ:=List (ByteArray×Int)×Int×Int×Int) (β:=List (ByteArray×Int)×Bool ⊕ List (ByteArray×Int)) (fun(u7:List (ByteArray×Int)×Int×Int×Int)=>bif decide (u7.2.2.2<(↑(u3.1.length):Int))then((gd (decide (0≤u7.2.2.2)) (gd (decide (u7.2.2.2<(↑(u3.1.length):Int))) (gd (decide (u7.2.2.2.toNat<u3.1.length)) ((c40 F (x1,(u3.1.getD (u7.2.2.2.toNat) Q5).1)).bind fun(u8:Int)=>(bif decide (u8<0)then(some (true))else(bif !Qe (u3.1.getD (u7.2.2.2.toNat) Q5).2.1 a.2.2 then(some (true))else(bif decide (0<u7.2.2.2)then(gd (decide (0≤w64 (u7.2.2.2-1))) (gd (decide (w64 (u7.2.2.2-1)<(↑(u3.1.length):Int))) (gd (decide (Int.toNat (w64 (u7.2.2.2-1))<u3.1.length)) ((c57 F (((u3.1.getD (Int.toNat (w64 (u7.2.2.2-1))) Q5).2.2.1,(u3.1.getD (Int.toNat (w64 (u7.2.2.2-1))) Q5).2.2.2.1,(u3.1.getD (Int.toNat (w64 (u7.2.2.2-1))) Q5).2.2.2.2.1),(u3.1.getD (u7.2.2.2.toNat) Q5).2.2.1,(u3.1.getD (u7.2.2.2.toNat) Q5).2.2.2.1,(u3.1.getD (u7.2.2.2.toNat) Q5).2.2.2.2.1)).bind fun(u9:Int)=>bif decide (0<u9)then(some (true))else(gd (decide (0≤w64 (u7.2.2.2-1))) (gd (decide (w64 (u7.2.2.2-1)<(↑(u3.1.length):Int))) (gd (decide (Int.toNat (w64 (u7.2.2.2-1))<u3.1.length)) ((c57 F (((u3.1.getD (Int.toNat (w64 (u7.2.2.2-1))) Q5).2.2.1,(u3.1.getD (Int.toNat (w64 (u7.2.2.2-1))) Q5).2.2.2.1,(u3.1.getD (Int.toNat (w64 (u7.2.2.2-1))) Q5).2.2.2.2.1),(u3.1.getD (u7.2.2.2.toNat) Q5).2.2.1,(u3.1.getD (u7.2.2.2.toNat) Q5).2.2.2.1,(u3.1.getD (u7.2.2.2.toNat) Q5).2.2.2.2.1)).bind fun(u10:Int)=>bif decide (u10=0)then(gd (decide (0≤w64 (u7.2.2.2-1))) (gd (decide (w64 (u7.2.2.2-1)<(↑(u3.1.length):Int))) (gd (decide (Int.toNat (w64 (u7.2.2.2-1))<u3.1.length)) (some (decide ((u3.1.getD (u7.2.2.2.toNat) Q5).2.2.2.2.2.1<(u3.1.getD (Int.toNat (w64 (u7.2.2.2-1))) Q5).2.2.2.2.2.1))))))else(some (false))))))))))else(some (false))))).bind fun(u11:Bool)=>bif u11 then(some (Sum.inl (u7.1,false)))else(gd (decide (0≤u8)) (gd (decide (u8<(↑(a.2.1.2.1.length):Int))) (gd (decide (u8.toNat<a.2.1.2.1.length)) ((bif decide ((a.1.2.2.2.2.getD (u2.toNat) Q2).2.2.2.2.2.1≤u7.2.1)then(some (true))else(some (decide ((a.1.2.2.2.2.getD (u2.toNat) Q2).2.2.2.2.2.2.1≤Zz Qe (a.2.1.2.1.getD (u8.toNat) Xf).2.1 u7.1 (0:Int))))).bind fun(u12:Bool)=>bif u12 then((bif decide ((↑(u5.1.length):Int)≤u7.2.2.1)then(some (true))else(gd (decide (0≤u7.2.2.1)) (gd (decide (u7.2.2.1<(↑(u5.1.length):Int))) (gd (decide (u7.2.2.1.toNat<u5.1.length)) (some (!Qe (u5.1.getD (u7.2.2.1.toNat) ByteArray.empty) (u3.1.getD (u7.2.2.2.toNat) Q5).1)))))).bind fun(u13:Bool)=>bif u13 then(some (Sum.inl (u7.1,false)))else(some (Sum.inr (u7.1,u7.2.1,w64 (u7.2.2.1+1)))))else((bif decide ((↑(u4.1.length):Int)≤u7.2.1)then(some (true))else(gd (decide (0≤u7.2.1)) (gd (decide (u7.2.1<(↑(u4.1.length):Int))) (gd (decide (u7.2.1.toNat<u4.1.length)) (some (!Qe (u4.1.getD (u7.2.1.toNat) ByteArray.empty) (u3.1.getD (u7.2.2.2.toNat) Q5).1)))))).bind fun(u14:Bool)=>bif u14 then(some (Sum.inl (u7.1,false)))else(some (Sum.inr (Yy Qe (a.2.1.2.1.getD (u8.toNat) Xf).2.1 (w64 (Zz Qe (a.2.1.2.1.getD (u8.toNat) Xf).2.1 u7.1 (0:Int)+(1:Int))) u7.1,w64 (u7.2.1+1),u7.2.2.1)))))))))))).bind fun(u15:List (ByteArray×Int)×Bool ⊕ List (ByteArray×Int)×Int×Int)=>Sum.elim (fun(u16:List (ByteArray×Int)×Bool)=>some (Sum.inr (Sum.inl u16))) (fun(u17:List (ByteArray×Int)×Int×Int)=>some (Sum.inl (u17.1,u17.2.1,u17.2.2,w64 (u7.2.2.2+1)))) (u15))else(some (Sum.inr (Sum.inr u7.1)))) F ((Qb (ByteArray×Int),(0:Int),(0:Int),(0:Int)))).bind fun(u18:List (ByteArray×Int)×Bool ⊕ List (ByteArray×Int))=>Sum.elim (fun(u19:List (ByteArray×Int)×Bool)=>some u19.2) (fun(u20:List (ByteArray×Int))=>(c38 F (a.1,a.2.1.1,a.2.1.2.1,a.2.1.2.2.1,a.2.1.2.2.2.1,a.2.1.2.2.2.2)).bind fun(u21:List Int×Int)=>(bif !decide (u21.2=0)then(some (true))else(some (!decide ((↑(u21.1.length):Int)=(↑(a.2.1.1.length):Int))))).bind fun(u22:Bool)=>bif u22 then(some (false))else((Qu (σ:=Int×Int) (β:=Int) (fun(u23:Int×Int)=>bif decide (u23.2<(↑(u21.1.length):Int))then(gd (decide (0≤u23.2)) (gd (decide (u23.2<(↑(u21.1.length):Int))) (gd (decide (u23.2.toNat<u21.1.length)) (some (Sum.inl (w64 (u23.1+u21.1.getD (u23.2.toNat) (0:Int)),w64 (u23.2+1)))))))else(some (Sum.inr u23.1))) F (((0:Int),(0:Int)))).bind fun(u24:Int)=>(bif decide (u24=(↑(a.2.1.2.2.2.1.length):Int))then(some (true))else(some (false))).bind fun(u25:Bool)=>some (u25))) (u18)))))
def cv9(F:Nat)(a:(Zd)×(Qz)×ByteArray)(x0:Zd)(x1:Qz):Option (Bool):=
 ((c51 F (x0,x1.1,x1.2.1,x1.2.2.1,x1.2.2.2.1,x1.2.2.2.2)).bind fun(u2:Bool)=>bif !u2 then(some (true))else((c47 F (x0,a.2.2)).bind fun(u3:Int)=>bif decide (u3<0)then(some (true))else((c47 F (x0,a.2.2)).bind fun(u4:Int)=>gd (decide (0≤u4)) (gd (decide (u4<(↑(x0.2.2.2.2.length):Int))) (gd (decide (u4.toNat<x0.2.2.2.2.length)) (some (decide (0<(x0.2.2.2.2.getD (u4.toNat) Q2).2.2.2.2.2.2.2.2.2.2)))))))).bind fun(u5:Bool)=>bif u5 then(some (true))else((ck9 F a x0 x1).bind fun(u6:Bool)=>(ck9 F a x0 x1).bind fun(u7:Bool)=>gd (Qw.eqv (Qf.val Ty.bool::Qb Qf) u6 u7) (some (u6)))
def c9(F:Nat)(a:(Zd)×(Qz)×ByteArray):Option (Bool):=
 ((c15 F a.1).bind fun(v1124:Zd)=>((c16 F a.2.1).bind fun(v1353:Qz)=>tw (X:=Bool) (Qw.eqv (Qf.val Ty.bool::Qb Qf)) (cv9 F a v1124 v1353)).bind fun(v1125:Bool)=>(tw (X:=Bool) (Qw.eqv (Qf.val Ty.bool::Qb Qf)) (tw (X:=Bool) (Qw.eqv (Qf.val Ty.bool::Qb Qf)) ((c16 F a.2.1).bind fun(v1298:Qz)=>cv9 F a v1124 v1298))).bind fun(v1126:Bool)=>gd (Qw.eqv (Qf.val Ty.bool::Qb Qf) v1125 v1126) (some (v1125))).bind fun(v778:Bool)=>((((c15 F a.1).bind fun(v1011:Zd)=>tw (X:=Bool) (Qw.eqv (Qf.val Ty.bool::Qb Qf)) ((c16 F a.2.1).bind fun(v1069:Qz)=>cv9 F a v1011 v1069)).bind fun(v953:Bool)=>((c15 F a.1).bind fun(v955:Zd)=>(c16 F a.2.1).bind fun(v956:Qz)=>cv9 F a v955 v956).bind fun(v954:Bool)=>gd (Qw.eqv (Qf.val Ty.bool::Qb Qf) v953 v954) (some (v953))).bind fun(v780:Bool)=>(((c15 F a.1).bind fun(v840:Zd)=>tw (X:=Bool) (Qw.eqv (Qf.val Ty.bool::Qb Qf)) ((c16 F a.2.1).bind fun(v898:Qz)=>cv9 F a v840 v898)).bind fun(v782:Bool)=>((c15 F a.1).bind fun(v784:Zd)=>(c16 F a.2.1).bind fun(v785:Qz)=>cv9 F a v784 v785).bind fun(v783:Bool)=>gd (Qw.eqv (Qf.val Ty.bool::Qb Qf) v782 v783) (some (v782))).bind fun(v781:Bool)=>gd (Qw.eqv (Qf.val Ty.bool::Qb Qf) v780 v781) (some (v780))).bind fun(v779:Bool)=>gd (Qw.eqv (Qf.val Ty.bool::Qb Qf) v778 v779) (some (v778))
def pc9(F:Nat):PC:={ats:=Qen,rts:=Yz,code:=c9 F}
theorem Zmk(F:Nat):Qg cx 9 (pc9 F):=qE (lx9 F) (Zg 2 (.two (.two (.join [(.normal,⟨[.slot 53 (.val (.bool))],[]⟩)] ⟨(kD 53 21 []),[],[]⟩ .leaf) .leaf) (Zg 4 (.two (.two (.join [(.normal,⟨[.slot 109 (.val (.bool))],[]⟩)] ⟨(kD 109 27 []),[],[]⟩ .leaf) .leaf) (Zg 2 (.two (.two .leaf (.one (.loop ⟨[.map 5 (.val (.str)) (.val (.int .i64)),.slot 17 (.val (.int .i64)),.slot 18 (.val (.int .i64)),.slot 113 (.val (.int .i64))],[]⟩ [(.ret,⟨[.map 5 (.val (.str)) (.val (.int .i64)),.slot 6 (.val (.bool))],[]⟩),(.exit 0,⟨[.map 5 (.val (.str)) (.val (.int .i64))],[]⟩)] ⟨(222::113::118::119::120::121::21::kU 169 6 (22::187::201::202::18::kD 200 13 (216::217::17::221::220::219::218::kD 215 13 (23::kD 186 12 (6::kD 168 47 (19::20::117::116::115::114::[])))))),[5],[]⟩ F (Zg 2 (.two (.join [(.ret,⟨[.map 5 (.val (.str)) (.val (.int .i64)),.slot 6 (.val (.bool))],[]⟩),(.normal,⟨[.map 5 (.val (.str)) (.val (.int .i64)),.slot 17 (.val (.int .i64)),.slot 18 (.val (.int .i64))],[]⟩)] ⟨(118::119::120::121::21::kU 169 6 (22::187::201::202::18::kD 200 13 (216::217::17::221::220::219::218::kD 215 13 (23::kD 186 12 (6::kD 168 47 (19::20::117::116::115::[])))))),[5],[]⟩ (.one (Zg 2 (.two (.two (.join [(.normal,⟨[.slot 168 (.val (.bool))],[]⟩)] ⟨(kD 168 47 []),[],[]⟩ .leaf) .leaf) (.two .leaf (.two (.join [(.normal,⟨[.slot 23 (.val (.bool))],[]⟩)] ⟨(23::kD 186 12 []),[],[]⟩ .leaf) (.two (.two .leaf (.two (.two (.two (.join [(.normal,⟨[.slot 200 (.val (.bool))],[]⟩)] ⟨(kD 200 13 []),[],[]⟩ .leaf) .leaf) .leaf) .leaf)) (.two (.two (.join [(.normal,⟨[.slot 215 (.val (.bool))],[]⟩)] ⟨(kD 215 13 []),[],[]⟩ .leaf) .leaf) .leaf)))))))) .leaf))))) (.two .leaf (.two (.two (.join [(.normal,⟨[.slot 238 (.val (.bool))],[]⟩)] ⟨(kD 238 10 []),[],[]⟩ .leaf) .leaf) (.two .leaf (.two (.two .leaf (.one (.loop ⟨[.slot 26 (.val (.int .i64)),.slot 241 (.val (.int .i64))],[]⟩ [(.exit 2,⟨[.slot 26 (.val (.int .i64))],[]⟩)] ⟨[248,241,245,246,247,26,28,244,243,242],[],[]⟩ F .leaf))) (.two (.join [(.normal,⟨[.slot 6 (.val (.bool))],[]⟩)] ⟨(6::kD 256 8 []),[],[]⟩ .leaf) .leaf))))))))))) f9 (by kernel_rfl) fun a=>by kernel_rfl
end
end Go.Proofs.Tryz
end

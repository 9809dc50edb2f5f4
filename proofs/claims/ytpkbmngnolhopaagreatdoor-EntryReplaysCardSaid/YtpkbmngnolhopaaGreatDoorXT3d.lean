/- Plain law: states, in the program and in the reference. Plain law: states, in the reference. -/
import Derived.Test.YtpkbmngnolhopaaGreatDoorXT3c
import Derived.Test.YtpkbmngnolhopaaGreatDoorXTeB1
set_option maxRecDepth 100000
set_option linter.unusedVariables false
set_option linter.unusedSimpArgs false
namespace Go.Proofs.Tryz
open Go Go.Sx
theorem Zbp(n:Nat)(x:Int):Zv.eqv ((Exit.normal,({cells:=Qq.slot n (Qf.val (Ty.int IntKind.i64))::Qa Qq,owns:=Qa (Nat×Lk)}:Qi))::Qa (Exit×Qi)) x x=true:=
 Zv.eqv_rf ((Exit.normal,({cells:=Qq.slot n (Qf.val (Ty.int IntKind.i64))::Qa Qq,owns:=Qa (Nat×Lk)}:Qi))::Qa (Exit×Qi)) x
theorem Qau(a b:ByteArray):Qc a b=Qc b a:=by rw[Zci,Zci];exact decide_eq_decide.2 ⟨Eq.symm,Eq.symm⟩
abbrev Ath:=Qw
abbrev Lic:=Q2
abbrev Zr:=Qj
abbrev Tm:=Q4
abbrev Qo:=List ByteArray×List Ath×List Lic×List Zr×List Tm
def dA:Ath:=Zx
def dL:Lic:=(ByteArray.empty,(0:Int),(0:Int))
def dE:Zr:=Zd
def dT:Tm:=(ByteArray.empty,ByteArray.empty,Qa ByteArray)
structure Zn (s:Qo):Prop where
 c:s.1.length≤300
 a:s.2.1.length≤300
 l:s.2.2.1.length≤300
 e:s.2.2.2.1.length≤300
 t:s.2.2.2.2.length≤300
 cn:∀x∈s.1,x.size≤300
 an:∀x∈s.2.1,x.1.size≤300∧x.2.2.2.size≤300
 tn:∀x∈s.2.2.2.2,x.2.2.length≤300
def aI(s:Qo)(x:ByteArray):Int:=Y4 (fun y=>Qc y.1 x) s.2.1
def eP(a c:ByteArray)(y:Zr):Bool:=Qc y.1 a&&Qc y.2.1 c
def tP(a c:ByteArray)(y:Tm):Bool:=Qc y.1 a&&Qc y.2.1 c
def eI(s:Qo)(a c:ByteArray):Int:=Y4 (eP a c) s.2.2.2.1
def tI(s:Qo)(a c:ByteArray):Int:=Y4 (tP a c) s.2.2.2.2
def cI(m:Mt)(x:ByteArray):Int:=Y4 (fun y=>Qc y.1 x) m.2.2.2.2
def hasB(l:List ByteArray)(x:ByteArray):Bool:=l.any fun y=>Qc y x
theorem Zqy(l:List ByteArray)(x:ByteArray):(l.any fun y=>Qc x y)=hasB l x:=by unfold hasB;congr 1;funext y;exact Qau _ _
theorem Zf6{F:Nat}(hF:400≤F){l:List ByteArray}{x:ByteArray}(hl:l.length≤300):W6 F (l,x)=some (hasB l x):=by rw[Qzy hF hl,Zqy]
theorem Zun{F:Nat}{l:List Ath}(hF:l.length<F)(hl:l.length≤1000)(x:ByteArray):Qmg F (l,x)=some (Y4 (fun y=>Qc y.1 x) l):=by
 unfold Qmg;refine U4 l _ hF ?_ ?_
 ·intro i y hi hy;simp(disch:=omega)only[Z7,Zc,Int.toNat_natCast,getD_some hy,Z0];cases Qc y.1 x<;>rfl
 ·simp(disch:=omega)only[Z8]
theorem Qbm{F:Nat}(hF:400≤F){s:Qo}(h:Zn s)(x:ByteArray):X7 F (s,x)=some (aI s x):=by unfold X7 aI;have:=h.a;simp only[Zun (F:=F) (l:=s.2.1) (by omega) (by omega),Option.bind_some]
theorem Qni{F:Nat}(hF:400≤F){s:Qo}(h:Zn s)(x:ByteArray):W0 F (s,x)=some (hasB s.1 x):=by unfold W0;simp only[Zf6 hF h.c,Option.bind_some]
theorem Zth(F:Nat)(y:Zr)(a c:ByteArray):Qou F (y,a,c)=some (eP a c y):=by unfold Qou eP;cases Qc y.1 a<;>rfl
theorem Zq2(F:Nat)(y:Tm)(a c:ByteArray):Qpt F (y,a,c)=some (tP a c y):=by unfold Qpt tP;cases Qc y.1 a<;>rfl
theorem Yeg{F:Nat}{l:List Zr}(hF:l.length<F)(hl:l.length≤1000)(a c:ByteArray):Qoj F (l,a,c)=some (Y4 (eP a c) l):=by
 unfold Qoj;refine U4 l _ hF ?_ ?_
 ·intro i y hi hy;simp(disch:=omega)only[Z7,Zc,Int.toNat_natCast,getD_some hy,Z0,Zh,Zth,Option.bind_some];cases eP a c y<;>rfl
 ·simp(disch:=omega)only[Z8]
theorem Zod{F:Nat}{l:List Tm}(hF:l.length<F)(hl:l.length≤1000)(a c:ByteArray):Qmu F (l,a,c)=some (Y4 (tP a c) l):=by
 unfold Qmu;refine U4 l _ hF ?_ ?_
 ·intro i y hi hy;simp(disch:=omega)only[Z7,Zc,Int.toNat_natCast,getD_some hy,Z0,Zh,Zq2,Option.bind_some];cases tP a c y<;>rfl
 ·simp(disch:=omega)only[Z8]
theorem Qj3{F:Nat}(hF:400≤F){s:Qo}(h:Zn s)(a c:ByteArray):Je F (s,a,c)=some (eI s a c):=by unfold Je eI;have:=h.e;simp only[Yeg (F:=F) (l:=s.2.2.2.1) (by omega) (by omega),Option.bind_some]
theorem Zyq{F:Nat}(hF:400≤F){s:Qo}(h:Zn s)(a c:ByteArray):Qhl F (s,a,c)=some (tI s a c):=by unfold Qhl tI;have:=h.t;simp only[Zod (F:=F) (l:=s.2.2.2.2) (by omega) (by omega),Option.bind_some]
def Yj2:Cst:=({data:=List.toArray (Qa UInt8)},{data:=List.toArray (Qa UInt8)},{data:=List.toArray (Qa UInt8)},0,0,0,0,{data:=List.toArray (Qa UInt8)},0,{data:=List.toArray (Qa UInt8)},0)
def cAt(m:Mt)(x:ByteArray):Cst:=m.2.2.2.2.getD (cI m x).toNat dC
theorem Zha{F:Nat}(hF:400≤F){m:Mt}(hl:m.2.2.2.2.length≤300)(x:ByteArray):Qcg F (m,x)=some (if cI m x<0 then(Yj2,false)else(cAt m x,true)):=by
 have hd:Q7=dC:=rfl;unfold Qcg;simp only[Zn1 (F:=F) (l:=m.2.2.2.2) (by omega) (by omega),Option.bind_some];by_cases h:cI m x<0
 ·have h':Y4 (fun y:Cst=>Qc y.1 x) m.2.2.2.2<0:=h;simp only[h,h',decide_true,cond_true,if_true];rfl
 ·have h':¬Y4 (fun y:Cst=>Qc y.1 x) m.2.2.2.2<0:=h;obtain⟨k,y,h1,h2,h3,h4⟩:=Ul (p:=fun y:Cst=>Qc y.1 x) (l:=m.2.2.2.2) (by omega);simp only[h,h',decide_false,cond_false,if_false];unfold cAt cI;simp(disch:=omega)only[h1,Zc,Int.toNat_natCast,hd,Zh]
def Ygf(l:List ByteArray)(i:Nat):Int:=if X4 (l.getD i ByteArray.empty)=true then(if hasB (l.take i) (l.getD i ByteArray.empty)=true then 9 else 0)else 8
def Yez(s:Qo)(i:Nat):Int:=
 if X4 (s.2.1.getD i dA).1=true then
  (if((s.2.1.take i).any fun y=>Qc y.1 (s.2.1.getD i dA).1)=true then 9 else if hasB s.1 (s.2.1.getD i dA).2.1=true then(if Yz (s.2.1.getD i dA).2.2.1=true then 3 else if X4 (s.2.1.getD i dA).2.2.2=true then 0 else 8)else 10)
 else 8
def Ybf(s:Qo)(i:Nat):Int:=if aI s (s.2.2.1.getD i dL).1<0 then 10 else Ydx (s.2.2.1.getD i dL).2.1 (s.2.2.1.getD i dL).2.2
def Yb7(m:Mt)(s:Qo)(i:Nat):Int:=
 if aI s (s.2.2.2.1.getD i dE).1<0∨cI m (s.2.2.2.1.getD i dE).2.1<0 then 10 else if 0<(cAt m (s.2.2.2.1.getD i dE).2.1).2.2.2.2.2.2.2.2.2.2 then 13
 else if(s.2.2.2.1.take i).any (eP (s.2.2.2.1.getD i dE).1 (s.2.2.2.1.getD i dE).2.1)=true then 9
 else if Wd (s.2.2.2.1.getD i dE).2.2.1 (s.2.2.2.1.getD i dE).2.2.2.1 (s.2.2.2.1.getD i dE).2.2.2.2.1=0 then(if Wh (cAt m (s.2.2.2.1.getD i dE).2.1).2.1 (s.2.2.2.1.getD i dE).2.2.1=true then(if Yz (s.2.2.2.1.getD i dE).2.2.2.2.2.1=true then 3 else 0)else 13)
 else Wd (s.2.2.2.1.getD i dE).2.2.1 (s.2.2.2.1.getD i dE).2.2.2.1 (s.2.2.2.1.getD i dE).2.2.2.2.1
def Ykc(s:Qo)(l:List ByteArray)(i:Nat):Int:=if aI s (l.getD i ByteArray.empty)<0 then 10 else if hasB (l.take i) (l.getD i ByteArray.empty)=true then 9 else 0
def Ykw(m:Mt)(s:Qo)(i:Nat):Int:=
 if hasB s.1 (s.2.2.2.2.getD i dT).1=false∨cI m (s.2.2.2.2.getD i dT).2.1<0 then 10 else if(cAt m (s.2.2.2.2.getD i dT).2.1).2.2.2.2.2.2.2.2.2.2=0 then 13
 else if(s.2.2.2.2.take i).any (tP (s.2.2.2.2.getD i dT).1 (s.2.2.2.2.getD i dT).2.1)=true then 9
 else if((s.2.2.2.2.getD i dT).2.2.length:Int)=(cAt m (s.2.2.2.2.getD i dT).2.1).2.2.2.2.2.2.2.2.2.2 then Qp ((List.range (s.2.2.2.2.getD i dT).2.2.length).map (Ykc s (s.2.2.2.2.getD i dT).2.2))else 2
theorem Qub{γ:Type}{step:Int→Option (Int ⊕ (Int ⊕ Unit))}{F:Nat}{k:Int ⊕ Unit→Option γ}{r:Option γ}(n:Nat)(e:Nat→Int)(hF:n<F)(hn:n≤1000)
  (hstep:∀(i:Nat),i<n→step (i:Int)=some (if e i=0 then .inl ((i:Int)+1)else .inr (.inl (e i))))
  (hend:step (n:Int)=some (.inr (.inr ())))
  (hk:k (if Qp ((List.range n).map e)=0 then .inr ()else .inl (Qp ((List.range n).map e)))=r):Option.bind (Q5 step F 0) k=r:=by
 refine Qdm (List.range n) e (by simpa using hF) ?_ ?_ hk
 ·intro i x hi hx;obtain rfl:=Qga hx;exact hstep x (by simpa using hi)
 ·simpa using hend
theorem Qzm(x:Int):Sum.elim (fun(a:Int)=>some a) (fun(_:Unit)=>some (0:Int)) (if x=0 then Sum.inr ()else Sum.inl x)=some x:=by by_cases h:x=0<;>simp[h]
theorem Qzw(x:Int)(a:Int):(bif !decide (x=0)then some (Sum.inr (Sum.inl x):Int ⊕ (Int ⊕ Unit))else some (Sum.inl a))=some (if x=0 then .inl a else .inr (.inl x)):=by by_cases h:x=0<;>simp[h]
def Qvd(s:Qo):Prop:=256<s.1.length∨256<s.2.1.length∨256<s.2.2.1.length∨256<s.2.2.2.1.length∨256<s.2.2.2.2.length
instance (s:Qo):Decidable (Qvd s):=by unfold Qvd;infer_instance
def stE(m:Mt)(s:Qo):Int:=
 if Ye m=0 then(if Qvd s then 5 else Qp [Qp ((List.range s.1.length).map (Ygf s.1)),Qp ((List.range s.2.1.length).map (Yez s)),Qp ((List.range s.2.2.1.length).map (Ybf s)),
  Qp ((List.range s.2.2.2.1.length).map (Yb7 m s)),Qp ((List.range s.2.2.2.2.length).map (Ykw m s))])else Ye m
theorem l40{F:Nat}(hF:400≤F){s:Qo}(h:Zn s)(x:ByteArray):c40 F (s,x)=some (aI s x):=by
 have h1:=h.a;unfold c40 aI;refine U4 s.2.1 _ (by omega) ?_ ?_
 ·intro i y hi hy;simp(disch:=omega)only[Z7,Zc,Int.toNat_natCast,getD_some hy,Z0];cases Qc y.1 x<;>rfl
 ·simp(disch:=omega)only[Z8]
theorem l53{F:Nat}(hF:400≤F){s:Qo}(h:Zn s)(a c:ByteArray):c53 F (s,a,c)=some (eI s a c):=by
 have h1:=h.e;unfold c53 eI;refine U4 s.2.2.2.1 _ (by omega) ?_ ?_
 ·intro i y hi hy;simp(disch:=omega)only[Z7,Zc,Int.toNat_natCast,getD_some hy,Z0];unfold eP;cases Qc y.1 a
  ·rfl
  ·cases Qc y.2.1 c<;>rfl
 ·simp(disch:=omega)only[Z8]
theorem Zku{F:Nat}(hF:400≤F){s:Qo}(h:Zn s)(a c:ByteArray):Qjl F (s,a,c)=some (tI s a c):=by
 have h1:=h.t;unfold Qjl tI;refine U4 s.2.2.2.2 _ (by omega) ?_ ?_
 ·intro i y hi hy;simp(disch:=omega)only[Z7,Zc,Int.toNat_natCast,getD_some hy,Z0];unfold tP;cases Qc y.1 a
  ·rfl
  ·cases Qc y.2.1 c<;>rfl
 ·simp(disch:=omega)only[Z8]
theorem l54{F:Nat}(hF:400≤F){l:List ByteArray}(hl:l.length≤300)(x:ByteArray):c54 F (l,x)=some (hasB l x):=by
 unfold c54;refine Xr l (fun(_:Unit) i=>(i:Int)) (fun y (_:Unit)=>if Qc y x=true then .inr (.inl true)else .inl ()) (fun _=>(.inr ():Bool ⊕ Unit)) (fun _ _=>True) () (by omega) rfl trivial ?_ ?_ ?_
 ·intro i y _ hi hy _;refine⟨?_,fun _ _=>trivial⟩;simp(disch:=omega)only[Z7,Zc,Int.toNat_natCast,getD_some hy,Z0];cases Qc y x<;>rfl
 ·intro _ _;simp(disch:=omega)only[Z8]
 ·rw[Qag (fun y=>Qc y x)];unfold hasB;cases l.any fun y=>Qc y x<;>rfl
theorem Zpl{F:Nat}(hF:400≤F)(x:ByteArray):Qdd F x=some (if X4 x=true then 0 else 8):=by unfold Qdd;simp only[l67 hF,Option.bind_some];cases X4 x<;>rfl
theorem Zjg(F:Nat)(x:Int):Qif F x=some (if Yz x=true then 3 else 0):=by unfold Qif;simp only[l94,Option.bind_some];cases Yz x<;>rfl
end Go.Proofs.Tryz

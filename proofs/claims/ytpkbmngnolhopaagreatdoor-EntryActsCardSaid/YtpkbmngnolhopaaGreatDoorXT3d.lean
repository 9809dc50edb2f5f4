/- Plain law: states, in the program and in the reference. -/
import Derived.Test.YtpkbmngnolhopaaGreatDoorXT3c
import Derived.Test.YtpkbmngnolhopaaGreatDoorXTeB1
set_option maxRecDepth 100000
set_option linter.unusedVariables false
set_option linter.unusedSimpArgs false
namespace Go.Proofs.Tryz
open Go Go.Sx
theorem Qk2(n:Nat)(x:Int):Z3.eqv ((Exit.normal,({cells:=Qu.slot n (Qd.val (Ty.int IntKind.i64))::Qa Qu,owns:=Qa (Nat×Lk)}:Ql))::Qa (Exit×Ql)) x x=true:=
 Z3.eqv_rf ((Exit.normal,({cells:=Qu.slot n (Qd.val (Ty.int IntKind.i64))::Qa Qu,owns:=Qa (Nat×Lk)}:Ql))::Qa (Exit×Ql)) x
theorem Qb0(a b:ByteArray):Qc a b=Qc b a:=by rw[Zb2,Zb2];exact decide_eq_decide.2 ⟨Eq.symm,Eq.symm⟩
abbrev Ath:=Qt
abbrev Lic:=Qx
abbrev Zt:=Qi
abbrev Tm:=Qw
abbrev Qq:=List ByteArray×List Ath×List Lic×List Zt×List Tm
def dA:Ath:=Zu
def dL:Lic:=(ByteArray.empty,(0:Int),(0:Int))
def dE:Zt:=Q9
def dT:Tm:=(ByteArray.empty,ByteArray.empty,Qa ByteArray)
theorem Qfb{α:Type}{l:List α}{i:Nat}(d:α)(hi:i<l.length):l[i]? =some (l.getD i d):=by rw[List.getD_eq_getElem?_getD,List.getElem?_eq_getElem hi];rfl
theorem Qly{α:Type}{l:List α}{i:Nat}(d:α)(hi:i<l.length):l.getD i d∈l:=List.mem_of_getElem? (Qfb d hi)
structure Zi (s:Qq):Prop where
 c:s.1.length≤300
 a:s.2.1.length≤300
 l:s.2.2.1.length≤300
 e:s.2.2.2.1.length≤300
 t:s.2.2.2.2.length≤300
 cn:∀x∈s.1,x.size≤300
 an:∀x∈s.2.1,x.1.size≤300∧x.2.2.2.size≤300
 tn:∀x∈s.2.2.2.2,x.2.2.length≤300
def aI(s:Qq)(x:ByteArray):Int:=Xb (fun y=>Qc y.1 x) s.2.1
def eP(a c:ByteArray)(y:Zt):Bool:=Qc y.1 a&&Qc y.2.1 c
def tP(a c:ByteArray)(y:Tm):Bool:=Qc y.1 a&&Qc y.2.1 c
def eI(s:Qq)(a c:ByteArray):Int:=Xb (eP a c) s.2.2.2.1
def tI(s:Qq)(a c:ByteArray):Int:=Xb (tP a c) s.2.2.2.2
def cI(m:Mt)(x:ByteArray):Int:=Xb (fun y=>Qc y.1 x) m.2.2.2.2
def hasB(l:List ByteArray)(x:ByteArray):Bool:=l.any fun y=>Qc y x
theorem Yn3(l:List ByteArray)(x:ByteArray):(l.any fun y=>Qc x y)=hasB l x:=by unfold hasB;congr 1;funext y;exact Qb0 _ _
theorem Qmy{F:Nat}(hF:400≤F){l:List ByteArray}{x:ByteArray}(hl:l.length≤300):Vs F (l,x)=some (hasB l x):=by rw[Qys hF hl,Yn3]
theorem Zzn{F:Nat}{l:List Ath}(hF:l.length<F)(hl:l.length≤1000)(x:ByteArray):Qrl F (l,x)=some (Xb (fun y=>Qc y.1 x) l):=by
 unfold Qrl;refine Qbz l _ hF ?_ ?_
 ·intro i y hi hy;simp(disch:=omega)only[Zw,Zd,Int.toNat_natCast,getD_some hy,Zv];cases Qc y.1 x<;>rfl
 ·simp(disch:=omega)only[Zz]
theorem V0{F:Nat}(hF:400≤F){s:Qq}(h:Zi s)(x:ByteArray):Jh F (s,x)=some (aI s x):=by unfold Jh aI;have:=h.a;simp only[Zzn (F:=F) (l:=s.2.1) (by omega) (by omega),Option.bind_some]
theorem Qhf{F:Nat}(hF:400≤F){s:Qq}(h:Zi s)(x:ByteArray):Kb F (s,x)=some (hasB s.1 x):=by unfold Kb;simp only[Qmy hF h.c,Option.bind_some]
theorem Zqa(F:Nat)(y:Zt)(a c:ByteArray):Qnv F (y,a,c)=some (eP a c y):=by unfold Qnv eP;cases Qc y.1 a<;>rfl
theorem Zwq(F:Nat)(y:Tm)(a c:ByteArray):Qmt F (y,a,c)=some (tP a c y):=by unfold Qmt tP;cases Qc y.1 a<;>rfl
theorem Yhf{F:Nat}{l:List Zt}(hF:l.length<F)(hl:l.length≤1000)(a c:ByteArray):Qng F (l,a,c)=some (Xb (eP a c) l):=by
 unfold Qng;refine Qbz l _ hF ?_ ?_
 ·intro i y hi hy;simp(disch:=omega)only[Zw,Zd,Int.toNat_natCast,getD_some hy,Zv,Q3,Zqa,Option.bind_some];cases eP a c y<;>rfl
 ·simp(disch:=omega)only[Zz]
theorem Zxs{F:Nat}{l:List Tm}(hF:l.length<F)(hl:l.length≤1000)(a c:ByteArray):Qp2 F (l,a,c)=some (Xb (tP a c) l):=by
 unfold Qp2;refine Qbz l _ hF ?_ ?_
 ·intro i y hi hy;simp(disch:=omega)only[Zw,Zd,Int.toNat_natCast,getD_some hy,Zv,Q3,Zwq,Option.bind_some];cases tP a c y<;>rfl
 ·simp(disch:=omega)only[Zz]
theorem Qio{F:Nat}(hF:400≤F){s:Qq}(h:Zi s)(a c:ByteArray):Jk F (s,a,c)=some (eI s a c):=by unfold Jk eI;have:=h.e;simp only[Yhf (F:=F) (l:=s.2.2.2.1) (by omega) (by omega),Option.bind_some]
theorem Zez{F:Nat}(hF:400≤F){s:Qq}(h:Zi s)(a c:ByteArray):Qh1 F (s,a,c)=some (tI s a c):=by unfold Qh1 tI;have:=h.t;simp only[Zxs (F:=F) (l:=s.2.2.2.2) (by omega) (by omega),Option.bind_some]
def Qwc:Cst:=({data:=List.toArray (Qa UInt8)},{data:=List.toArray (Qa UInt8)},{data:=List.toArray (Qa UInt8)},0,0,0,0,{data:=List.toArray (Qa UInt8)},0,{data:=List.toArray (Qa UInt8)},0)
def Yb(m:Mt)(x:ByteArray):Cst:=m.2.2.2.2.getD (cI m x).toNat dC
theorem Qjx{F:Nat}(hF:400≤F){m:Mt}(hl:m.2.2.2.2.length≤300)(x:ByteArray):Qch F (m,x)=some (if cI m x<0 then(Qwc,false)else(Yb m x,true)):=by
 have hd:Zc=dC:=rfl;unfold Qch;simp only[Zun (F:=F) (l:=m.2.2.2.2) (by omega) (by omega),Option.bind_some];by_cases h:cI m x<0
 ·have h':Xb (fun y:Cst=>Qc y.1 x) m.2.2.2.2<0:=h;simp only[h,h',decide_true,cond_true,if_true];rfl
 ·have h':¬Xb (fun y:Cst=>Qc y.1 x) m.2.2.2.2<0:=h;obtain⟨k,y,h1,h2,h3,h4⟩:=Km (p:=fun y:Cst=>Qc y.1 x) (l:=m.2.2.2.2) (by omega);simp only[h,h',decide_false,cond_false,if_false];unfold Yb cI;simp(disch:=omega)only[h1,Zd,Int.toNat_natCast,hd,Q3]
def Uj(l:List ByteArray)(i:Nat):Int:=if Xl (l.getD i ByteArray.empty)=true then(if hasB (l.take i) (l.getD i ByteArray.empty)=true then 9 else 0)else 8
def K8(s:Qq)(i:Nat):Int:=
 if Xl (s.2.1.getD i dA).1=true then
  (if((s.2.1.take i).any fun y=>Qc y.1 (s.2.1.getD i dA).1)=true then 9 else if hasB s.1 (s.2.1.getD i dA).2.1=true then(if Yl (s.2.1.getD i dA).2.2.1=true then 3 else if Xl (s.2.1.getD i dA).2.2.2=true then 0 else 8)else 10)
 else 8
def Ug(s:Qq)(i:Nat):Int:=if aI s (s.2.2.1.getD i dL).1<0 then 10 else Qhx (s.2.2.1.getD i dL).2.1 (s.2.2.1.getD i dL).2.2
def U6(m:Mt)(s:Qq)(i:Nat):Int:=
 if aI s (s.2.2.2.1.getD i dE).1<0∨cI m (s.2.2.2.1.getD i dE).2.1<0 then 10 else if 0<(Yb m (s.2.2.2.1.getD i dE).2.1).2.2.2.2.2.2.2.2.2.2 then 13
 else if(s.2.2.2.1.take i).any (eP (s.2.2.2.1.getD i dE).1 (s.2.2.2.1.getD i dE).2.1)=true then 9
 else if Wc (s.2.2.2.1.getD i dE).2.2.1 (s.2.2.2.1.getD i dE).2.2.2.1 (s.2.2.2.1.getD i dE).2.2.2.2.1=0 then(if J8 (Yb m (s.2.2.2.1.getD i dE).2.1).2.1 (s.2.2.2.1.getD i dE).2.2.1=true then(if Yl (s.2.2.2.1.getD i dE).2.2.2.2.2.1=true then 3 else 0)else 13)
 else Wc (s.2.2.2.1.getD i dE).2.2.1 (s.2.2.2.1.getD i dE).2.2.2.1 (s.2.2.2.1.getD i dE).2.2.2.2.1
def Qa9(s:Qq)(l:List ByteArray)(i:Nat):Int:=if aI s (l.getD i ByteArray.empty)<0 then 10 else if hasB (l.take i) (l.getD i ByteArray.empty)=true then 9 else 0
def Ul(m:Mt)(s:Qq)(i:Nat):Int:=
 if hasB s.1 (s.2.2.2.2.getD i dT).1=false∨cI m (s.2.2.2.2.getD i dT).2.1<0 then 10 else if(Yb m (s.2.2.2.2.getD i dT).2.1).2.2.2.2.2.2.2.2.2.2=0 then 13
 else if(s.2.2.2.2.take i).any (tP (s.2.2.2.2.getD i dT).1 (s.2.2.2.2.getD i dT).2.1)=true then 9
 else if((s.2.2.2.2.getD i dT).2.2.length:Int)=(Yb m (s.2.2.2.2.getD i dT).2.1).2.2.2.2.2.2.2.2.2.2 then Qj ((List.range (s.2.2.2.2.getD i dT).2.2.length).map (Qa9 s (s.2.2.2.2.getD i dT).2.2))else 2
theorem Um{γ:Type}{step:Int→Option (Int ⊕ (Int ⊕ Unit))}{F:Nat}{k:Int ⊕ Unit→Option γ}{r:Option γ}(n:Nat)(e:Nat→Int)(hF:n<F)(hn:n≤1000)
  (hstep:∀(i:Nat),i<n→step (i:Int)=some (if e i=0 then .inl ((i:Int)+1)else .inr (.inl (e i))))
  (hend:step (n:Int)=some (.inr (.inr ())))
  (hk:k (if Qj ((List.range n).map e)=0 then .inr ()else .inl (Qj ((List.range n).map e)))=r):Option.bind (Q4 step F 0) k=r:=by
 refine Qke (List.range n) e (by simpa using hF) ?_ ?_ hk
 ·intro i x hi hx;obtain rfl:=Qgl hx;exact hstep x (by simpa using hi)
 ·simpa using hend
theorem Qci(x:Int):Sum.elim (fun(a:Int)=>some a) (fun(_:Unit)=>some (0:Int)) (if x=0 then Sum.inr ()else Sum.inl x)=some x:=by by_cases h:x=0<;>simp[h]
theorem Qcv(x:Int)(a:Int):(bif !decide (x=0)then some (Sum.inr (Sum.inl x):Int ⊕ (Int ⊕ Unit))else some (Sum.inl a))=some (if x=0 then .inl a else .inr (.inl x)):=by by_cases h:x=0<;>simp[h]
theorem Zym{F:Nat}(hF:400≤F){s:Qq}(h:Zi s){i:Nat}(hi:i<s.1.length):Qod F ((i:Int),s.1.getD i ByteArray.empty,s)=some (Uj s.1 i):=by
 have h1:=h.c;unfold Qod Uj;have hi':(i:Int)≤s.1.length:=by omega
 simp only[Int.toNat_natCast,List.drop_zero,hi',Int.natCast_nonneg,decide_true,Zh,l92 hF (h.cn _ (Qly _ hi)),Qmy hF (l:=s.1.take i) (x:=s.1.getD i ByteArray.empty) (by simp;omega),l86,Option.bind_some];rw[X6 hF (by simp[Qa])];simp only[Option.bind_some,Qa,Qj];cases Xl (s.1.getD i ByteArray.empty)
 ·simp
 ·cases hasB (s.1.take i) (s.1.getD i ByteArray.empty)<;>simp
theorem Zw7{F:Nat}(hF:400≤F){s:Qq}(h:Zi s):Qp1 F (s.1,s)=some (Qj ((List.range s.1.length).map (Uj s.1))):=by
 have h1:=h.c;unfold Qp1;refine Um s.1.length (Uj s.1) (by omega) (by omega) ?_ ?_ (Qci _)
 ·intro i hi;simp(disch:=omega)only[Zw,Zd,Int.toNat_natCast,Zv,Q3,Zym hF h hi,Option.bind_some,Qcv]
 ·simp(disch:=omega)only[Zz]
theorem Ydi{F:Nat}(hF:400≤F){s:Qq}(h:Zi s){i:Nat}(hi:i<s.2.1.length):Qqv F ((i:Int),s.2.1.getD i dA,s)=some (K8 s i):=by
 have h1:=h.c;obtain⟨hn1,hn2⟩:=h.an _ (Qly dA hi);have e1:∀x,Z6 F (x::Qa Int)=some (if Yl x=true then 3 else 0):=fun x=>by rw[l85 (by simp[Qa];omega) (by simp[Qa])];simp[Qa]
 have e5:∀a b c d e,Q0 F (a::b::c::d::e::Qa Int)=some (Qj [a,b,c,d,e]):=fun a b c d e=>X6 hF (by simp[Qa]);have hlt:=Qc0 (p:=fun y:Ath=>Qc y.1 (s.2.1.getD i dA).1) (Qfb dA hi) (Ks _);unfold Qqv K8 tw;simp only[Q3,l92 hF hn1,l92 hF hn2,V0 hF h,Qhf hF h,l86,e1,e5,Option.bind_some];rw[show decide (aI s (s.2.1.getD i dA).1<(i:Int))=_ from hlt];generalize Xl (s.2.1.getD i dA).1=q1;generalize ((s.2.1.take i).any fun y=>Qc y.1 (s.2.1.getD i dA).1)=q2;generalize hasB s.1 (s.2.1.getD i dA).2.1=q3;generalize Yl (s.2.1.getD i dA).2.2.1=q4;generalize Xl (s.2.1.getD i dA).2.2.2=q5;have key:Qj [if q1=true then 0 else 8,if q2=true then 9 else 0,if(!q3)=true then 10 else 0,if q4=true then 3 else 0,if q5=true then 0 else 8]=if q1=true then(if q2=true then 9 else if q3=true then(if q4=true then 3 else if q5=true then 0 else 8)else 10)else 8:=by cases q1<;>cases q2<;>cases q3<;>cases q4<;>cases q5<;>rfl
 simp only[key,Option.bind_some,decide_true,Bool.and_self,Zh,Vf,Qjj,Qk2]
theorem Zre{F:Nat}(hF:400≤F){s:Qq}(h:Zi s):Qrd F (s.2.1,s)=some (Qj ((List.range s.2.1.length).map (K8 s))):=by
 have h1:=h.a;have hd:Zu=dA:=rfl;unfold Qrd;refine Um s.2.1.length (K8 s) (by omega) (by omega) ?_ ?_ (Qci _)
 ·intro i hi;simp(disch:=omega)only[Zw,Zd,Int.toNat_natCast,Zv,hd,Q3,Ydi hF h hi,Option.bind_some,Qcv]
 ·simp(disch:=omega)only[Zz]
theorem Ygv{F:Nat}(hF:400≤F){s:Qq}(h:Zi s)(i:Nat):Qol F ((i:Int),s.2.2.1.getD i dL,s)=some (Ug s i):=by
 unfold Qol Ug;simp only[Q3,V0 hF h,l86,Option.bind_some];rw[show Qjb F (s.2.2.1.getD i dL)=some (Qhx (s.2.2.1.getD i dL).2.1 (s.2.2.1.getD i dL).2.2)from Zrn hF _ _ _];simp only[Option.bind_some];rw[X6 hF (by simp[Qa])];simp only[Option.bind_some,Qa,Qj];generalize Qhx (s.2.2.1.getD i dL).2.1 (s.2.2.1.getD i dL).2.2=w;generalize aI s (s.2.2.1.getD i dL).1=v;by_cases h1:v<0
 ·simp[h1]
 ·by_cases h2:w=0<;>simp[h1,h2]
theorem Yan{F:Nat}(hF:400≤F){s:Qq}(h:Zi s):Qoq F (s.2.2.1,s)=some (Qj ((List.range s.2.2.1.length).map (Ug s))):=by
 have h1:=h.l;have hd:(ByteArray.empty,(0:Int),(0:Int))=dL:=rfl;unfold Qoq;refine Um s.2.2.1.length (Ug s) (by omega) (by omega) ?_ ?_ (Qci _)
 ·intro i hi;simp(disch:=omega)only[Zw,Zd,Int.toNat_natCast,Zv,hd,Q3,Ygv hF h,Option.bind_some,Qcv]
 ·simp(disch:=omega)only[Zz]
theorem Zus{F:Nat}(hF:400≤F){m:Mt}(hm:m.2.2.2.2.length≤300){s:Qq}(h:Zi s){i:Nat}(hi:i<s.2.2.2.1.length):Qpk F (s,m,(i:Int),s.2.2.2.1.getD i dE)=some (U6 m s i):=by
 have e1:∀x,Z6 F (x::Qa Int)=some (if Yl x=true then 3 else 0):=fun x=>by rw[l85 (by simp[Qa];omega) (by simp[Qa])];simp[Qa]
 have e6:∀a b c d e f,Q0 F (a::b::c::d::e::f::Qa Int)=some (Qj [a,b,c,d,e,f]):=fun a b c d e f=>X6 hF (by simp[Qa]);have hlt:=Qc0 (p:=eP (s.2.2.2.1.getD i dE).1 (s.2.2.2.1.getD i dE).2.1) (Qfb dE hi) (by simp[eP,Ks]);unfold Qpk U6 tw;simp only[Q3,Qjx hF hm,Option.bind_some];generalize s.2.2.2.1.getD i dE=x at hlt;have hlt:decide (eI s x.1 x.2.1<(i:Int))=_:=hlt;generalize Yb m x.2.1=ct;generalize hw:(if cI m x.2.1<0 then(Qwc,false)else(ct,true))=w;simp only[l86,l99 hF,V0 hF h,Qxd,Qio hF h,e1,e6,hlt,Option.bind_some];generalize hsu:J8 w.1.2.1 x.2.2.1=su;generalize ((s.2.2.2.1.take i).any (eP x.1 x.2.1))=tw;generalize hme:Wc x.2.2.1 x.2.2.2.1 x.2.2.2.2.1=me;generalize Yl x.2.2.2.2.2.1=db;have ea:(decide (aI s x.1<0))=decide (aI s x.1<0):=rfl;by_cases hc:cI m x.2.1<0
 ·rw[if_pos hc]at hw;subst hw;have k0:∀a b c d e,Qj [10,a,b,c,d,e]=10:=fun _ _ _ _ _=>by simp[Qj]
  simp only[hc,or_true,if_true,Bool.not_false,cond_true,k0,Option.bind_some,decide_true,Bool.and_self,Zh,Vf,Qjj,Qk2]
 ·rw[if_neg hc]at hw;subst hw;simp only[hc,or_false,Bool.not_true,cond_false];have key:Qj [if decide (aI s x.1<0)=true then 10 else 0,if decide (0<ct.2.2.2.2.2.2.2.2.2.2)=true then 13 else 0,if tw=true then 9 else 0,me,if(!su)=true then 13 else 0,if db=true then 3 else 0]
    =if aI s x.1<0 then 10 else if 0<ct.2.2.2.2.2.2.2.2.2.2 then 13 else if tw=true then 9 else if me=0 then(if su=true then(if db=true then 3 else 0)else 13)else me:=by
   by_cases g1:aI s x.1<0
   ·simp[g1,Qj]
   ·by_cases g2:0<ct.2.2.2.2.2.2.2.2.2.2
    ·simp[g1,g2,Qj]
    ·cases tw
     ·by_cases g3:me=0
      ·cases su<;>cases db<;>simp[g1,g2,g3,Qj]
      ·simp[g1,g2,g3,Qj]
     ·simp[g1,g2,Qj]
  simp only[hsu,key,Option.bind_some,decide_true,Bool.and_self,Zh,Vf,Qjj,Qk2]
theorem Zkc{F:Nat}(hF:400≤F){m:Mt}(hm:m.2.2.2.2.length≤300){s:Qq}(h:Zi s):Qm9 F (s.2.2.2.1,s,m)=some (Qj ((List.range s.2.2.2.1.length).map (U6 m s))):=by
 have h1:=h.e;have hd:Q9=dE:=rfl;have e:∀i,i<s.2.2.2.1.length→Qrk F ((i:Int),s.2.2.2.1.getD i dE,s,m)=some (U6 m s i):=fun i hi=>by unfold Qrk;simp only[Q3,Zus hF hm h hi,Option.bind_some]
 unfold Qm9;refine Um s.2.2.2.1.length (U6 m s) (by omega) (by omega) ?_ ?_ (Qci _)
 ·intro i hi;simp(disch:=omega)only[Zw,Zd,Int.toNat_natCast,Zv,hd,Q3,e i hi,Option.bind_some,Qcv]
 ·simp(disch:=omega)only[Zz]
theorem Zsq{F:Nat}(hF:400≤F){s:Qq}(h:Zi s){l:List ByteArray}(hl:l.length≤300)(a b:ByteArray):Qpj F (l,s,a,b,l)=some (Qj ((List.range l.length).map (Qa9 s l))):=by
 have e:∀i,i<l.length→Qn0 F ((i:Int),l.getD i ByteArray.empty,s,a,b,l)=some (Qa9 s l i):=fun i hi=>by
  unfold Qn0 Qa9;have hi':(i:Int)≤l.length:=by omega
  simp only[Q3,Int.toNat_natCast,List.drop_zero,hi',Int.natCast_nonneg,decide_true,Zh,V0 hF h,Qmy hF (l:=l.take i) (x:=l.getD i ByteArray.empty) (by simp;omega),l86,Option.bind_some];rw[X6 hF (by simp[Qa])];simp only[Option.bind_some,Qa,Qj];generalize aI s (l.getD i ByteArray.empty)=v;generalize hasB (l.take i) (l.getD i ByteArray.empty)=q;by_cases h1:v<0
  ·simp[h1]
  ·cases q<;>simp[h1]
 unfold Qpj;refine Um l.length (Qa9 s l) (by omega) (by omega) ?_ ?_ (Qci _)
 ·intro i hi;simp(disch:=omega)only[Zw,Zd,Int.toNat_natCast,Zv,Q3,e i hi,Option.bind_some,Qcv]
 ·simp(disch:=omega)only[Zz]
theorem Yfu{F:Nat}(hF:400≤F){m:Mt}(hm:m.2.2.2.2.length≤300){s:Qq}(h:Zi s){i:Nat}(hi:i<s.2.2.2.2.length):Qp0 F (s,m,(i:Int),s.2.2.2.2.getD i dT)=some (Ul m s i):=by
 have e4:∀a b c d,Q0 F (a::b::c::d::Qa Int)=some (Qj [a,b,c,d]):=fun a b c d=>X6 hF (by simp[Qa]);have hlt:=Qc0 (p:=tP (s.2.2.2.2.getD i dT).1 (s.2.2.2.2.getD i dT).2.1) (Qfb dT hi) (by simp[tP,Ks]);have hrl:=h.tn _ (Qly dT hi);unfold Qp0 Ul;simp only[Q3,Qjx hF hm,Option.bind_some];generalize s.2.2.2.2.getD i dT=x at hlt hrl;have hlt:decide (tI s x.1 x.2.1<(i:Int))=_:=hlt;generalize Yb m x.2.1=ct;generalize hw:(if cI m x.2.1<0 then(Qwc,false)else(ct,true))=w;simp only[l86,Qhf hF h,Zez hF h,e4,hlt,Zsq hF h hrl,Option.bind_some];generalize ((s.2.2.2.2.take i).any (tP x.1 x.2.1))=tw;generalize Qj ((List.range x.2.2.length).map (Qa9 s x.2.2))=re;by_cases hc:cI m x.2.1<0
 ·rw[if_pos hc]at hw;subst hw;have k0:∀a b c,Qj [10,a,b,c]=10:=fun _ _ _=>by simp[Qj]
  simp[hc,k0]
 ·rw[if_neg hc]at hw;subst hw;simp only[hc,or_false,Bool.not_true,cond_false];cases hasB s.1 x.1
  ·simp[Qj]
  ·by_cases g1:ct.2.2.2.2.2.2.2.2.2.2=0
   ·simp[g1,Qj]
   ·cases tw
    ·by_cases g2:(x.2.2.length:Int)=ct.2.2.2.2.2.2.2.2.2.2
     ·simp[g1,g2,Qj]
     ·simp[g1,g2,Qj]
    ·simp[g1,Qj]
theorem Ykf{F:Nat}(hF:400≤F){m:Mt}(hm:m.2.2.2.2.length≤300){s:Qq}(h:Zi s):Qo0 F (s.2.2.2.2,s,m)=some (Qj ((List.range s.2.2.2.2.length).map (Ul m s))):=by
 have h1:=h.t;have hd:(ByteArray.empty,ByteArray.empty,Qa ByteArray)=dT:=rfl;have e:∀i,i<s.2.2.2.2.length→Qne F ((i:Int),s.2.2.2.2.getD i dT,s,m)=some (Ul m s i):=fun i hi=>by unfold Qne;simp only[Q3,Yfu hF hm h hi,Option.bind_some]
 unfold Qo0;refine Um s.2.2.2.2.length (Ul m s) (by omega) (by omega) ?_ ?_ (Qci _)
 ·intro i hi;simp(disch:=omega)only[Zw,Zd,Int.toNat_natCast,Zv,hd,Q3,e i hi,Option.bind_some,Qcv]
 ·simp(disch:=omega)only[Zz]
def Uw(s:Qq):Prop:=256<s.1.length∨256<s.2.1.length∨256<s.2.2.1.length∨256<s.2.2.2.1.length∨256<s.2.2.2.2.length
instance (s:Qq):Decidable (Uw s):=by unfold Uw;infer_instance
def Yi(m:Mt)(s:Qq):Int:=
 if mtE m=0 then(if Uw s then 5 else Qj [Qj ((List.range s.1.length).map (Uj s.1)),Qj ((List.range s.2.1.length).map (K8 s)),Qj ((List.range s.2.2.1.length).map (Ug s)),
  Qj ((List.range s.2.2.2.1.length).map (U6 m s)),Qj ((List.range s.2.2.2.2.length).map (Ul m s))])else mtE m
theorem Qbg(a b:Int):(256<if a<b then b else a)↔(256<a∨256<b):=by split<;>omega
theorem l25{F:Nat}(hF:400≤F){m:Mt}(hl:m.2.2.2.2.length≤300)(hb:∀x∈m.2.2.2.2,x.1.size≤300∧x.2.2.1.size≤300){s:Qq}(h:Zi s):c25 F (m,s)=some (Yi m s):=by
 have e2:∀a b,Q0 F (a::b::Qa Int)=some (Qj [a,b]):=fun a b=>X6 hF (by simp[Qa]);have e5:∀a b c d e,Q0 F (a::b::c::d::e::Qa Int)=some (Qj [a,b,c,d,e]):=fun a b c d e=>X6 hF (by simp[Qa]);unfold c25 Yi;simp only[Q3,l21 hF hl hb,l86,e2,e5,Zw7 hF h,Zre hF h,Yan hF h,Zkc hF hl h,Ykf hF hl h,Option.bind_some,Qbg];have hm:((((256<(s.1.length:Int)∨256<(s.2.1.length:Int))∨256<(s.2.2.1.length:Int))∨256<(s.2.2.2.1.length:Int))∨256<(s.2.2.2.2.length:Int))↔Uw s:=by unfold Uw;omega
 simp only[hm];generalize Qj [Qj ((List.range s.1.length).map (Uj s.1)),Qj ((List.range s.2.1.length).map (K8 s)),Qj ((List.range s.2.2.1.length).map (Ug s)),
  Qj ((List.range s.2.2.2.1.length).map (U6 m s)),Qj ((List.range s.2.2.2.2.length).map (Ul m s))]=w
 by_cases h1:mtE m=0
 ·by_cases h2:Uw s<;>simp[h1,h2,Qj]
 ·simp[h1,Qj]
end Go.Proofs.Tryz

/- Plain law: states, in the program and in the reference. -/
import Derived.Test.YtpkbmngnolhopaaGreatDoorXT3c
import Derived.Test.YtpkbmngnolhopaaGreatDoorXTeB1
set_option maxRecDepth 100000
set_option linter.unusedVariables false
set_option linter.unusedSimpArgs false
namespace Go.Proofs.Tryz
open Go Go.Sx
theorem Qrd(n:Nat)(x:Int):Zj.eqv ((Exit.normal,({cells:=Ql.slot n (Qf.val (Ty.int IntKind.i64))::Qb Ql,owns:=Qb (Nat×Lk)}:Qi))::Qb (Exit×Qi)) x x=true:=
 Zj.eqv_rf ((Exit.normal,({cells:=Ql.slot n (Qf.val (Ty.int IntKind.i64))::Qb Ql,owns:=Qb (Nat×Lk)}:Qi))::Qb (Exit×Qi)) x
theorem Zmz(a b:ByteArray):Qe a b=Qe b a:=by rw[Qta,Qta];exact decide_eq_decide.2 ⟨Eq.symm,Eq.symm⟩
abbrev Ath:=Zu
abbrev Lic:=Zt
abbrev Qm:=Qr
abbrev Tm:=Z3
abbrev Qy:=List ByteArray×List Ath×List Lic×List Qm×List Tm
def dA:Ath:=Xf
def dL:Lic:=(ByteArray.empty,(0:Int),(0:Int))
def dE:Qm:=Q5
def dT:Tm:=(ByteArray.empty,ByteArray.empty,Qb ByteArray)
theorem U5{α:Type}{l:List α}{i:Nat}(d:α)(hi:i<l.length):l[i]? =some (l.getD i d):=by rw[List.getD_eq_getElem?_getD,List.getElem?_eq_getElem hi];rfl
theorem Qgz{α:Type}{l:List α}{i:Nat}(d:α)(hi:i<l.length):l.getD i d∈l:=List.mem_of_getElem? (U5 d hi)
structure SmS (s:Qy):Prop where
 c:s.1.length≤300
 a:s.2.1.length≤300
 l:s.2.2.1.length≤300
 e:s.2.2.2.1.length≤300
 t:s.2.2.2.2.length≤300
 cn:∀x∈s.1,x.size≤300
 an:∀x∈s.2.1,x.1.size≤300∧x.2.2.2.size≤300
 tn:∀x∈s.2.2.2.2,x.2.2.length≤300
def aI(s:Qy)(x:ByteArray):Int:=Yo (fun y=>Qe y.1 x) s.2.1
def eP(a c:ByteArray)(y:Qm):Bool:=Qe y.1 a&&Qe y.2.1 c
def tP(a c:ByteArray)(y:Tm):Bool:=Qe y.1 a&&Qe y.2.1 c
def eI(s:Qy)(a c:ByteArray):Int:=Yo (eP a c) s.2.2.2.1
def tI(s:Qy)(a c:ByteArray):Int:=Yo (tP a c) s.2.2.2.2
def cI(m:Mt)(x:ByteArray):Int:=Yo (fun y=>Qe y.1 x) m.2.2.2.2
def hasB(l:List ByteArray)(x:ByteArray):Bool:=l.any fun y=>Qe y x
theorem Zds(l:List ByteArray)(x:ByteArray):(l.any fun y=>Qe x y)=hasB l x:=by unfold hasB;congr 1;funext y;exact Zmz _ _
theorem Qom{F:Nat}(hF:400≤F){l:List ByteArray}{x:ByteArray}(hl:l.length≤300):W3 F (l,x)=some (hasB l x):=by rw[Zbn hF hl,Zds]
theorem Zq0{F:Nat}{l:List Ath}(hF:l.length<F)(hl:l.length≤1000)(x:ByteArray):Qk3 F (l,x)=some (Yo (fun y=>Qe y.1 x) l):=by
 unfold Qk3;refine Kp l _ hF ?_ ?_
 ·intro i y hi hy;simp(disch:=omega)only[Zk,Zi,Int.toNat_natCast,getD_some hy,Zh];cases Qe y.1 x<;>rfl
 ·simp(disch:=omega)only[Zf]
theorem Qfv{F:Nat}(hF:400≤F){s:Qy}(h:SmS s)(x:ByteArray):Wv F (s,x)=some (aI s x):=by unfold Wv aI;have:=h.a;simp only[Zq0 (F:=F) (l:=s.2.1) (by omega) (by omega),Option.bind_some]
theorem Qzz{F:Nat}(hF:400≤F){s:Qy}(h:SmS s)(x:ByteArray):Kv F (s,x)=some (hasB s.1 x):=by unfold Kv;simp only[Qom hF h.c,Option.bind_some]
theorem Zn3(F:Nat)(y:Qm)(a c:ByteArray):Ql4 F (y,a,c)=some (eP a c y):=by unfold Ql4 eP;cases Qe y.1 a<;>rfl
theorem Zdd(F:Nat)(y:Tm)(a c:ByteArray):Qkq F (y,a,c)=some (tP a c y):=by unfold Qkq tP;cases Qe y.1 a<;>rfl
theorem Zkp{F:Nat}{l:List Qm}(hF:l.length<F)(hl:l.length≤1000)(a c:ByteArray):Qkt F (l,a,c)=some (Yo (eP a c) l):=by
 unfold Qkt;refine Kp l _ hF ?_ ?_
 ·intro i y hi hy;simp(disch:=omega)only[Zk,Zi,Int.toNat_natCast,getD_some hy,Zh,Zo,Zn3,Option.bind_some];cases eP a c y<;>rfl
 ·simp(disch:=omega)only[Zf]
theorem Zoa{F:Nat}{l:List Tm}(hF:l.length<F)(hl:l.length≤1000)(a c:ByteArray):Qhz F (l,a,c)=some (Yo (tP a c) l):=by
 unfold Qhz;refine Kp l _ hF ?_ ?_
 ·intro i y hi hy;simp(disch:=omega)only[Zk,Zi,Int.toNat_natCast,getD_some hy,Zh,Zo,Zdd,Option.bind_some];cases tP a c y<;>rfl
 ·simp(disch:=omega)only[Zf]
theorem Zwu{F:Nat}(hF:400≤F){s:Qy}(h:SmS s)(a c:ByteArray):Jr F (s,a,c)=some (eI s a c):=by unfold Jr eI;have:=h.e;simp only[Zkp (F:=F) (l:=s.2.2.2.1) (by omega) (by omega),Option.bind_some]
theorem Zyc{F:Nat}(hF:400≤F){s:Qy}(h:SmS s)(a c:ByteArray):Qhj F (s,a,c)=some (tI s a c):=by unfold Qhj tI;have:=h.t;simp only[Zoa (F:=F) (l:=s.2.2.2.2) (by omega) (by omega),Option.bind_some]
def Qgn:Cst:=({data:=List.toArray (Qb UInt8)},{data:=List.toArray (Qb UInt8)},{data:=List.toArray (Qb UInt8)},0,0,0,0,{data:=List.toArray (Qb UInt8)},0,{data:=List.toArray (Qb UInt8)},0)
def cAt(m:Mt)(x:ByteArray):Cst:=m.2.2.2.2.getD (cI m x).toNat dC
theorem Qoy{F:Nat}(hF:400≤F){m:Mt}(hl:m.2.2.2.2.length≤300)(x:ByteArray):Qdl F (m,x)=some (if cI m x<0 then(Qgn,false)else(cAt m x,true)):=by
 have hd:Q2=dC:=rfl;unfold Qdl;simp only[Zut (F:=F) (l:=m.2.2.2.2) (by omega) (by omega),Option.bind_some];by_cases h:cI m x<0
 ·have h':Yo (fun y:Cst=>Qe y.1 x) m.2.2.2.2<0:=h;simp only[h,h',decide_true,cond_true,if_true];rfl
 ·have h':¬Yo (fun y:Cst=>Qe y.1 x) m.2.2.2.2<0:=h;obtain⟨k,y,h1,h2,h3,h4⟩:=Qaj (p:=fun y:Cst=>Qe y.1 x) (l:=m.2.2.2.2) (by omega);simp only[h,h',decide_false,cond_false,if_false];unfold cAt cI;simp(disch:=omega)only[h1,Zi,Int.toNat_natCast,hd,Zo]
def W1(l:List ByteArray)(i:Nat):Int:=if Y9 (l.getD i ByteArray.empty)=true then(if hasB (l.take i) (l.getD i ByteArray.empty)=true then 9 else 0)else 8
def J8(s:Qy)(i:Nat):Int:=
 if Y9 (s.2.1.getD i dA).1=true then
  (if((s.2.1.take i).any fun y=>Qe y.1 (s.2.1.getD i dA).1)=true then 9 else if hasB s.1 (s.2.1.getD i dA).2.1=true then(if Z1 (s.2.1.getD i dA).2.2.1=true then 3 else if Y9 (s.2.1.getD i dA).2.2.2=true then 0 else 8)else 10)
 else 8
def Va(s:Qy)(i:Nat):Int:=if aI s (s.2.2.1.getD i dL).1<0 then 10 else Qec (s.2.2.1.getD i dL).2.1 (s.2.2.1.getD i dL).2.2
def Jt(m:Mt)(s:Qy)(i:Nat):Int:=
 if aI s (s.2.2.2.1.getD i dE).1<0∨cI m (s.2.2.2.1.getD i dE).2.1<0 then 10 else if 0<(cAt m (s.2.2.2.1.getD i dE).2.1).2.2.2.2.2.2.2.2.2.2 then 13
 else if(s.2.2.2.1.take i).any (eP (s.2.2.2.1.getD i dE).1 (s.2.2.2.1.getD i dE).2.1)=true then 9
 else if Jb (s.2.2.2.1.getD i dE).2.2.1 (s.2.2.2.1.getD i dE).2.2.2.1 (s.2.2.2.1.getD i dE).2.2.2.2.1=0 then(if Wa (cAt m (s.2.2.2.1.getD i dE).2.1).2.1 (s.2.2.2.1.getD i dE).2.2.1=true then(if Z1 (s.2.2.2.1.getD i dE).2.2.2.2.2.1=true then 3 else 0)else 13)
 else Jb (s.2.2.2.1.getD i dE).2.2.1 (s.2.2.2.1.getD i dE).2.2.2.1 (s.2.2.2.1.getD i dE).2.2.2.2.1
def V1(s:Qy)(l:List ByteArray)(i:Nat):Int:=if aI s (l.getD i ByteArray.empty)<0 then 10 else if hasB (l.take i) (l.getD i ByteArray.empty)=true then 9 else 0
def Vb(m:Mt)(s:Qy)(i:Nat):Int:=
 if hasB s.1 (s.2.2.2.2.getD i dT).1=false∨cI m (s.2.2.2.2.getD i dT).2.1<0 then 10 else if(cAt m (s.2.2.2.2.getD i dT).2.1).2.2.2.2.2.2.2.2.2.2=0 then 13
 else if(s.2.2.2.2.take i).any (tP (s.2.2.2.2.getD i dT).1 (s.2.2.2.2.getD i dT).2.1)=true then 9
 else if((s.2.2.2.2.getD i dT).2.2.length:Int)=(cAt m (s.2.2.2.2.getD i dT).2.1).2.2.2.2.2.2.2.2.2.2 then Qo ((List.range (s.2.2.2.2.getD i dT).2.2.length).map (V1 s (s.2.2.2.2.getD i dT).2.2))else 2
theorem U2{γ:Type}{step:Int→Option (Int ⊕ (Int ⊕ Unit))}{F:Nat}{k:Int ⊕ Unit→Option γ}{r:Option γ}(n:Nat)(e:Nat→Int)(hF:n<F)(hn:n≤1000)
  (hstep:∀(i:Nat),i<n→step (i:Int)=some (if e i=0 then .inl ((i:Int)+1)else .inr (.inl (e i))))
  (hend:step (n:Int)=some (.inr (.inr ())))
  (hk:k (if Qo ((List.range n).map e)=0 then .inr ()else .inl (Qo ((List.range n).map e)))=r):Option.bind (Qu step F 0) k=r:=by
 refine Qp9 (List.range n) e (by simpa using hF) ?_ ?_ hk
 ·intro i x hi hx;obtain rfl:=Qf4 hx;exact hstep x (by simpa using hi)
 ·simpa using hend
theorem Qa0(x:Int):Sum.elim (fun(a:Int)=>some a) (fun(_:Unit)=>some (0:Int)) (if x=0 then Sum.inr ()else Sum.inl x)=some x:=by by_cases h:x=0<;>simp[h]
theorem Qd1(x:Int)(a:Int):(bif !decide (x=0)then some (Sum.inr (Sum.inl x):Int ⊕ (Int ⊕ Unit))else some (Sum.inl a))=some (if x=0 then .inl a else .inr (.inl x)):=by by_cases h:x=0<;>simp[h]
theorem Zpt{F:Nat}(hF:400≤F){s:Qy}(h:SmS s){i:Nat}(hi:i<s.1.length):Qla F ((i:Int),s.1.getD i ByteArray.empty,s)=some (W1 s.1 i):=by
 have h1:=h.c;unfold Qla W1;have hi':(i:Int)≤s.1.length:=by omega
 simp only[Int.toNat_natCast,List.drop_zero,hi',Int.natCast_nonneg,decide_true,Z2,l92 hF (h.cn _ (Qgz _ hi)),Qom hF (l:=s.1.take i) (x:=s.1.getD i ByteArray.empty) (by simp;omega),l86,Option.bind_some];rw[Wp hF (by simp[Qb])];simp only[Option.bind_some,Qb,Qo];cases Y9 (s.1.getD i ByteArray.empty)
 ·simp
 ·cases hasB (s.1.take i) (s.1.getD i ByteArray.empty)<;>simp
theorem Zyo{F:Nat}(hF:400≤F){s:Qy}(h:SmS s):Qku F (s.1,s)=some (Qo ((List.range s.1.length).map (W1 s.1))):=by
 have h1:=h.c;unfold Qku;refine U2 s.1.length (W1 s.1) (by omega) (by omega) ?_ ?_ (Qa0 _)
 ·intro i hi;simp(disch:=omega)only[Zk,Zi,Int.toNat_natCast,Zh,Zo,Zpt hF h hi,Option.bind_some,Qd1]
 ·simp(disch:=omega)only[Zf]
theorem Zu6{F:Nat}(hF:400≤F){s:Qy}(h:SmS s){i:Nat}(hi:i<s.2.1.length):Qlh F ((i:Int),s.2.1.getD i dA,s)=some (J8 s i):=by
 have h1:=h.c;obtain⟨hn1,hn2⟩:=h.an _ (Qgz dA hi);have e1:∀x,c85 F (x::Qb Int)=some (if Z1 x=true then 3 else 0):=fun x=>by rw[l85 (by simp[Qb];omega) (by simp[Qb])];simp[Qb]
 have e5:∀a b c d e,Zm F (a::b::c::d::e::Qb Int)=some (Qo [a,b,c,d,e]):=fun a b c d e=>Wp hF (by simp[Qb]);have hlt:=Qal (p:=fun y:Ath=>Qe y.1 (s.2.1.getD i dA).1) (U5 dA hi) (X2 _);unfold Qlh J8 tw;simp only[Zo,l92 hF hn1,l92 hF hn2,Qfv hF h,Qzz hF h,l86,e1,e5,Option.bind_some];rw[show decide (aI s (s.2.1.getD i dA).1<(i:Int))=_ from hlt];generalize Y9 (s.2.1.getD i dA).1=q1;generalize ((s.2.1.take i).any fun y=>Qe y.1 (s.2.1.getD i dA).1)=q2;generalize hasB s.1 (s.2.1.getD i dA).2.1=q3;generalize Z1 (s.2.1.getD i dA).2.2.1=q4;generalize Y9 (s.2.1.getD i dA).2.2.2=q5;have key:Qo [if q1=true then 0 else 8,if q2=true then 9 else 0,if(!q3)=true then 10 else 0,if q4=true then 3 else 0,if q5=true then 0 else 8]=if q1=true then(if q2=true then 9 else if q3=true then(if q4=true then 3 else if q5=true then 0 else 8)else 10)else 8:=by cases q1<;>cases q2<;>cases q3<;>cases q4<;>cases q5<;>rfl
 simp only[key,Option.bind_some,decide_true,Bool.and_self,Z2,Qm4,Qpl,Qrd]
theorem Zqh{F:Nat}(hF:400≤F){s:Qy}(h:SmS s):Qks F (s.2.1,s)=some (Qo ((List.range s.2.1.length).map (J8 s))):=by
 have h1:=h.a;have hd:Xf=dA:=rfl;unfold Qks;refine U2 s.2.1.length (J8 s) (by omega) (by omega) ?_ ?_ (Qa0 _)
 ·intro i hi;simp(disch:=omega)only[Zk,Zi,Int.toNat_natCast,Zh,hd,Zo,Zu6 hF h hi,Option.bind_some,Qd1]
 ·simp(disch:=omega)only[Zf]
theorem Zzo{F:Nat}(hF:400≤F){s:Qy}(h:SmS s)(i:Nat):Qko F ((i:Int),s.2.2.1.getD i dL,s)=some (Va s i):=by
 unfold Qko Va;simp only[Zo,Qfv hF h,l86,Option.bind_some];rw[show Qhl F (s.2.2.1.getD i dL)=some (Qec (s.2.2.1.getD i dL).2.1 (s.2.2.1.getD i dL).2.2)from Zfo hF _ _ _];simp only[Option.bind_some];rw[Wp hF (by simp[Qb])];simp only[Option.bind_some,Qb,Qo];generalize Qec (s.2.2.1.getD i dL).2.1 (s.2.2.1.getD i dL).2.2=w;generalize aI s (s.2.2.1.getD i dL).1=v;by_cases h1:v<0
 ·simp[h1]
 ·by_cases h2:w=0<;>simp[h1,h2]
theorem Zv8{F:Nat}(hF:400≤F){s:Qy}(h:SmS s):Qiv F (s.2.2.1,s)=some (Qo ((List.range s.2.2.1.length).map (Va s))):=by
 have h1:=h.l;have hd:(ByteArray.empty,(0:Int),(0:Int))=dL:=rfl;unfold Qiv;refine U2 s.2.2.1.length (Va s) (by omega) (by omega) ?_ ?_ (Qa0 _)
 ·intro i hi;simp(disch:=omega)only[Zk,Zi,Int.toNat_natCast,Zh,hd,Zo,Zzo hF h,Option.bind_some,Qd1]
 ·simp(disch:=omega)only[Zf]
theorem Zfc{F:Nat}(hF:400≤F){m:Mt}(hm:m.2.2.2.2.length≤300){s:Qy}(h:SmS s){i:Nat}(hi:i<s.2.2.2.1.length):Qka F (s,m,(i:Int),s.2.2.2.1.getD i dE)=some (Jt m s i):=by
 have e1:∀x,c85 F (x::Qb Int)=some (if Z1 x=true then 3 else 0):=fun x=>by rw[l85 (by simp[Qb];omega) (by simp[Qb])];simp[Qb]
 have e6:∀a b c d e f,Zm F (a::b::c::d::e::f::Qb Int)=some (Qo [a,b,c,d,e,f]):=fun a b c d e f=>Wp hF (by simp[Qb]);have hlt:=Qal (p:=eP (s.2.2.2.1.getD i dE).1 (s.2.2.2.1.getD i dE).2.1) (U5 dE hi) (by simp[eP,X2]);unfold Qka Jt tw;simp only[Zo,Qoy hF hm,Option.bind_some];generalize s.2.2.2.1.getD i dE=x at hlt;have hlt:decide (eI s x.1 x.2.1<(i:Int))=_:=hlt;generalize cAt m x.2.1=ct;generalize hw:(if cI m x.2.1<0 then(Qgn,false)else(ct,true))=w;simp only[l86,l99 hF,Qfv hF h,Qvj,Zwu hF h,e1,e6,hlt,Option.bind_some];generalize hsu:Wa w.1.2.1 x.2.2.1=su;generalize ((s.2.2.2.1.take i).any (eP x.1 x.2.1))=tw;generalize hme:Jb x.2.2.1 x.2.2.2.1 x.2.2.2.2.1=me;generalize Z1 x.2.2.2.2.2.1=db;have ea:(decide (aI s x.1<0))=decide (aI s x.1<0):=rfl;by_cases hc:cI m x.2.1<0
 ·rw[if_pos hc]at hw;subst hw;have k0:∀a b c d e,Qo [10,a,b,c,d,e]=10:=fun _ _ _ _ _=>by simp[Qo]
  simp only[hc,or_true,if_true,Bool.not_false,cond_true,k0,Option.bind_some,decide_true,Bool.and_self,Z2,Qm4,Qpl,Qrd]
 ·rw[if_neg hc]at hw;subst hw;simp only[hc,or_false,Bool.not_true,cond_false];have key:Qo [if decide (aI s x.1<0)=true then 10 else 0,if decide (0<ct.2.2.2.2.2.2.2.2.2.2)=true then 13 else 0,if tw=true then 9 else 0,me,if(!su)=true then 13 else 0,if db=true then 3 else 0]
    =if aI s x.1<0 then 10 else if 0<ct.2.2.2.2.2.2.2.2.2.2 then 13 else if tw=true then 9 else if me=0 then(if su=true then(if db=true then 3 else 0)else 13)else me:=by
   by_cases g1:aI s x.1<0
   ·simp[g1,Qo]
   ·by_cases g2:0<ct.2.2.2.2.2.2.2.2.2.2
    ·simp[g1,g2,Qo]
    ·cases tw
     ·by_cases g3:me=0
      ·cases su<;>cases db<;>simp[g1,g2,g3,Qo]
      ·simp[g1,g2,g3,Qo]
     ·simp[g1,g2,Qo]
  simp only[hsu,key,Option.bind_some,decide_true,Bool.and_self,Z2,Qm4,Qpl,Qrd]
theorem Zhj{F:Nat}(hF:400≤F){m:Mt}(hm:m.2.2.2.2.length≤300){s:Qy}(h:SmS s):Qlk F (s.2.2.2.1,s,m)=some (Qo ((List.range s.2.2.2.1.length).map (Jt m s))):=by
 have h1:=h.e;have hd:Q5=dE:=rfl;have e:∀i,i<s.2.2.2.1.length→Qij F ((i:Int),s.2.2.2.1.getD i dE,s,m)=some (Jt m s i):=fun i hi=>by unfold Qij;simp only[Zo,Zfc hF hm h hi,Option.bind_some]
 unfold Qlk;refine U2 s.2.2.2.1.length (Jt m s) (by omega) (by omega) ?_ ?_ (Qa0 _)
 ·intro i hi;simp(disch:=omega)only[Zk,Zi,Int.toNat_natCast,Zh,hd,Zo,e i hi,Option.bind_some,Qd1]
 ·simp(disch:=omega)only[Zf]
theorem Zt3{F:Nat}(hF:400≤F){s:Qy}(h:SmS s){l:List ByteArray}(hl:l.length≤300)(a b:ByteArray):Qjd F (l,s,a,b,l)=some (Qo ((List.range l.length).map (V1 s l))):=by
 have e:∀i,i<l.length→Qlb F ((i:Int),l.getD i ByteArray.empty,s,a,b,l)=some (V1 s l i):=fun i hi=>by
  unfold Qlb V1;have hi':(i:Int)≤l.length:=by omega
  simp only[Zo,Int.toNat_natCast,List.drop_zero,hi',Int.natCast_nonneg,decide_true,Z2,Qfv hF h,Qom hF (l:=l.take i) (x:=l.getD i ByteArray.empty) (by simp;omega),l86,Option.bind_some];rw[Wp hF (by simp[Qb])];simp only[Option.bind_some,Qb,Qo];generalize aI s (l.getD i ByteArray.empty)=v;generalize hasB (l.take i) (l.getD i ByteArray.empty)=q;by_cases h1:v<0
  ·simp[h1]
  ·cases q<;>simp[h1]
 unfold Qjd;refine U2 l.length (V1 s l) (by omega) (by omega) ?_ ?_ (Qa0 _)
 ·intro i hi;simp(disch:=omega)only[Zk,Zi,Int.toNat_natCast,Zh,Zo,e i hi,Option.bind_some,Qd1]
 ·simp(disch:=omega)only[Zf]
theorem Zsi{F:Nat}(hF:400≤F){m:Mt}(hm:m.2.2.2.2.length≤300){s:Qy}(h:SmS s){i:Nat}(hi:i<s.2.2.2.2.length):Qjp F (s,m,(i:Int),s.2.2.2.2.getD i dT)=some (Vb m s i):=by
 have e4:∀a b c d,Zm F (a::b::c::d::Qb Int)=some (Qo [a,b,c,d]):=fun a b c d=>Wp hF (by simp[Qb]);have hlt:=Qal (p:=tP (s.2.2.2.2.getD i dT).1 (s.2.2.2.2.getD i dT).2.1) (U5 dT hi) (by simp[tP,X2]);have hrl:=h.tn _ (Qgz dT hi);unfold Qjp Vb;simp only[Zo,Qoy hF hm,Option.bind_some];generalize s.2.2.2.2.getD i dT=x at hlt hrl;have hlt:decide (tI s x.1 x.2.1<(i:Int))=_:=hlt;generalize cAt m x.2.1=ct;generalize hw:(if cI m x.2.1<0 then(Qgn,false)else(ct,true))=w;simp only[l86,Qzz hF h,Zyc hF h,e4,hlt,Zt3 hF h hrl,Option.bind_some];generalize ((s.2.2.2.2.take i).any (tP x.1 x.2.1))=tw;generalize Qo ((List.range x.2.2.length).map (V1 s x.2.2))=re;by_cases hc:cI m x.2.1<0
 ·rw[if_pos hc]at hw;subst hw;have k0:∀a b c,Qo [10,a,b,c]=10:=fun _ _ _=>by simp[Qo]
  simp[hc,k0]
 ·rw[if_neg hc]at hw;subst hw;simp only[hc,or_false,Bool.not_true,cond_false];cases hasB s.1 x.1
  ·simp[Qo]
  ·by_cases g1:ct.2.2.2.2.2.2.2.2.2.2=0
   ·simp[g1,Qo]
   ·cases tw
    ·by_cases g2:(x.2.2.length:Int)=ct.2.2.2.2.2.2.2.2.2.2
     ·simp[g1,g2,Qo]
     ·simp[g1,g2,Qo]
    ·simp[g1,Qo]
theorem Zk6{F:Nat}(hF:400≤F){m:Mt}(hm:m.2.2.2.2.length≤300){s:Qy}(h:SmS s):Qik F (s.2.2.2.2,s,m)=some (Qo ((List.range s.2.2.2.2.length).map (Vb m s))):=by
 have h1:=h.t;have hd:(ByteArray.empty,ByteArray.empty,Qb ByteArray)=dT:=rfl;have e:∀i,i<s.2.2.2.2.length→Qj8 F ((i:Int),s.2.2.2.2.getD i dT,s,m)=some (Vb m s i):=fun i hi=>by unfold Qj8;simp only[Zo,Zsi hF hm h hi,Option.bind_some]
 unfold Qik;refine U2 s.2.2.2.2.length (Vb m s) (by omega) (by omega) ?_ ?_ (Qa0 _)
 ·intro i hi;simp(disch:=omega)only[Zk,Zi,Int.toNat_natCast,Zh,hd,Zo,e i hi,Option.bind_some,Qd1]
 ·simp(disch:=omega)only[Zf]
def Jk(s:Qy):Prop:=256<s.1.length∨256<s.2.1.length∨256<s.2.2.1.length∨256<s.2.2.2.1.length∨256<s.2.2.2.2.length
instance (s:Qy):Decidable (Jk s):=by unfold Jk;infer_instance
def stE(m:Mt)(s:Qy):Int:=
 if mtE m=0 then(if Jk s then 5 else Qo [Qo ((List.range s.1.length).map (W1 s.1)),Qo ((List.range s.2.1.length).map (J8 s)),Qo ((List.range s.2.2.1.length).map (Va s)),
  Qo ((List.range s.2.2.2.1.length).map (Jt m s)),Qo ((List.range s.2.2.2.2.length).map (Vb m s))])else mtE m
theorem Zfm(a b:Int):(256<if a<b then b else a)↔(256<a∨256<b):=by split<;>omega
theorem l25{F:Nat}(hF:400≤F){m:Mt}(hl:m.2.2.2.2.length≤300)(hb:∀x∈m.2.2.2.2,x.1.size≤300∧x.2.2.1.size≤300){s:Qy}(h:SmS s):c25 F (m,s)=some (stE m s):=by
 have e2:∀a b,Zm F (a::b::Qb Int)=some (Qo [a,b]):=fun a b=>Wp hF (by simp[Qb]);have e5:∀a b c d e,Zm F (a::b::c::d::e::Qb Int)=some (Qo [a,b,c,d,e]):=fun a b c d e=>Wp hF (by simp[Qb]);unfold c25 stE;simp only[Zo,l21 hF hl hb,l86,e2,e5,Zyo hF h,Zqh hF h,Zv8 hF h,Zhj hF hl h,Zk6 hF hl h,Option.bind_some,Zfm];have hm:((((256<(s.1.length:Int)∨256<(s.2.1.length:Int))∨256<(s.2.2.1.length:Int))∨256<(s.2.2.2.1.length:Int))∨256<(s.2.2.2.2.length:Int))↔Jk s:=by unfold Jk;omega
 simp only[hm];generalize Qo [Qo ((List.range s.1.length).map (W1 s.1)),Qo ((List.range s.2.1.length).map (J8 s)),Qo ((List.range s.2.2.1.length).map (Va s)),
  Qo ((List.range s.2.2.2.1.length).map (Jt m s)),Qo ((List.range s.2.2.2.2.length).map (Vb m s))]=w
 by_cases h1:mtE m=0
 ·by_cases h2:Jk s<;>simp[h1,h2,Qo]
 ·simp[h1,Qo]
end Go.Proofs.Tryz

/- Plain law: states, in the program and in the reference. -/
import Derived.Test.YtpkbmngnolhopaaGreatDoorXT3c
import Derived.Test.YtpkbmngnolhopaaGreatDoorXTeB1
set_option maxRecDepth 100000
set_option linter.unusedVariables false
set_option linter.unusedSimpArgs false
namespace Go.Proofs.Tryz
open Go Go.Sx
theorem Qrl(n:Nat)(x:Int):Zt.eqv ((Exit.normal,({cells:=Qt.slot n (Qf.val (Ty.int IntKind.i64))::Qa Qt,owns:=Qa (Nat×Lk)}:Qj))::Qa (Exit×Qj)) x x=true:=
 Zt.eqv_rf ((Exit.normal,({cells:=Qt.slot n (Qf.val (Ty.int IntKind.i64))::Qa Qt,owns:=Qa (Nat×Lk)}:Qj))::Qa (Exit×Qj)) x
theorem Zrd(a b:ByteArray):Qc a b=Qc b a:=by rw[Zby,Zby];exact decide_eq_decide.2 ⟨Eq.symm,Eq.symm⟩
abbrev Ath:=Qu
abbrev Lic:=Qz
abbrev Qp:=Qh
abbrev Tm:=Qy
abbrev Qw:=List ByteArray×List Ath×List Lic×List Qp×List Tm
def dA:Ath:=Xn
def dL:Lic:=(ByteArray.empty,(0:Int),(0:Int))
def dE:Qp:=Q6
def dT:Tm:=(ByteArray.empty,ByteArray.empty,Qa ByteArray)
theorem Qbv{α:Type}{l:List α}{i:Nat}(d:α)(hi:i<l.length):l[i]? =some (l.getD i d):=by rw[List.getD_eq_getElem?_getD,List.getElem?_eq_getElem hi];rfl
theorem Qe0{α:Type}{l:List α}{i:Nat}(d:α)(hi:i<l.length):l.getD i d∈l:=List.mem_of_getElem? (Qbv d hi)
structure SmS (s:Qw):Prop where
 c:s.1.length≤300
 a:s.2.1.length≤300
 l:s.2.2.1.length≤300
 e:s.2.2.2.1.length≤300
 t:s.2.2.2.2.length≤300
 cn:∀x∈s.1,x.size≤300
 an:∀x∈s.2.1,x.1.size≤300∧x.2.2.2.size≤300
 tn:∀x∈s.2.2.2.2,x.2.2.length≤300
def aI(s:Qw)(x:ByteArray):Int:=Yw (fun y=>Qc y.1 x) s.2.1
def eP(a c:ByteArray)(y:Qp):Bool:=Qc y.1 a&&Qc y.2.1 c
def tP(a c:ByteArray)(y:Tm):Bool:=Qc y.1 a&&Qc y.2.1 c
def eI(s:Qw)(a c:ByteArray):Int:=Yw (eP a c) s.2.2.2.1
def tI(s:Qw)(a c:ByteArray):Int:=Yw (tP a c) s.2.2.2.2
def cI(m:Mt)(x:ByteArray):Int:=Yw (fun y=>Qc y.1 x) m.2.2.2.2
def hasB(l:List ByteArray)(x:ByteArray):Bool:=l.any fun y=>Qc y x
theorem Yf5(l:List ByteArray)(x:ByteArray):(l.any fun y=>Qc x y)=hasB l x:=by unfold hasB;congr 1;funext y;exact Zrd _ _
theorem Qr1{F:Nat}(hF:400≤F){l:List ByteArray}{x:ByteArray}(hl:l.length≤300):Vt F (l,x)=some (hasB l x):=by rw[Qws hF hl,Yf5]
theorem Zlw{F:Nat}{l:List Ath}(hF:l.length<F)(hl:l.length≤1000)(x:ByteArray):Qo3 F (l,x)=some (Yw (fun y=>Qc y.1 x) l):=by
 unfold Qo3;refine Qao l _ hF ?_ ?_
 ·intro i y hi hy;simp(disch:=omega)only[Zy,Zv,Int.toNat_natCast,getD_some hy,Zo];cases Qc y.1 x<;>rfl
 ·simp(disch:=omega)only[Zq]
theorem Qjv{F:Nat}(hF:400≤F){s:Qw}(h:SmS s)(x:ByteArray):V6 F (s,x)=some (aI s x):=by unfold V6 aI;have:=h.a;simp only[Zlw (F:=F) (l:=s.2.1) (by omega) (by omega),Option.bind_some]
theorem Qy4{F:Nat}(hF:400≤F){s:Qw}(h:SmS s)(x:ByteArray):Qay F (s,x)=some (hasB s.1 x):=by unfold Qay;simp only[Qr1 hF h.c,Option.bind_some]
theorem Zmf(F:Nat)(y:Qp)(a c:ByteArray):Qnp F (y,a,c)=some (eP a c y):=by unfold Qnp eP;cases Qc y.1 a<;>rfl
theorem Zth(F:Nat)(y:Tm)(a c:ByteArray):Qmx F (y,a,c)=some (tP a c y):=by unfold Qmx tP;cases Qc y.1 a<;>rfl
theorem Zv0{F:Nat}{l:List Qp}(hF:l.length<F)(hl:l.length≤1000)(a c:ByteArray):Qmv F (l,a,c)=some (Yw (eP a c) l):=by
 unfold Qmv;refine Qao l _ hF ?_ ?_
 ·intro i y hi hy;simp(disch:=omega)only[Zy,Zv,Int.toNat_natCast,getD_some hy,Zo,Zu,Zmf,Option.bind_some];cases eP a c y<;>rfl
 ·simp(disch:=omega)only[Zq]
theorem Yc1{F:Nat}{l:List Tm}(hF:l.length<F)(hl:l.length≤1000)(a c:ByteArray):Qnd F (l,a,c)=some (Yw (tP a c) l):=by
 unfold Qnd;refine Qao l _ hF ?_ ?_
 ·intro i y hi hy;simp(disch:=omega)only[Zy,Zv,Int.toNat_natCast,getD_some hy,Zo,Zu,Zth,Option.bind_some];cases tP a c y<;>rfl
 ·simp(disch:=omega)only[Zq]
theorem Qqq{F:Nat}(hF:400≤F){s:Qw}(h:SmS s)(a c:ByteArray):J5 F (s,a,c)=some (eI s a c):=by unfold J5 eI;have:=h.e;simp only[Zv0 (F:=F) (l:=s.2.2.2.1) (by omega) (by omega),Option.bind_some]
theorem Yif{F:Nat}(hF:400≤F){s:Qw}(h:SmS s)(a c:ByteArray):Qhc F (s,a,c)=some (tI s a c):=by unfold Qhc tI;have:=h.t;simp only[Yc1 (F:=F) (l:=s.2.2.2.2) (by omega) (by omega),Option.bind_some]
def Qi8:Cst:=({data:=List.toArray (Qa UInt8)},{data:=List.toArray (Qa UInt8)},{data:=List.toArray (Qa UInt8)},0,0,0,0,{data:=List.toArray (Qa UInt8)},0,{data:=List.toArray (Qa UInt8)},0)
def cAt(m:Mt)(x:ByteArray):Cst:=m.2.2.2.2.getD (cI m x).toNat dC
theorem Qqv{F:Nat}(hF:400≤F){m:Mt}(hl:m.2.2.2.2.length≤300)(x:ByteArray):Qfp F (m,x)=some (if cI m x<0 then(Qi8,false)else(cAt m x,true)):=by
 have hd:Zc=dC:=rfl;unfold Qfp;simp only[Zrm (F:=F) (l:=m.2.2.2.2) (by omega) (by omega),Option.bind_some];by_cases h:cI m x<0
 ·have h':Yw (fun y:Cst=>Qc y.1 x) m.2.2.2.2<0:=h;simp only[h,h',decide_true,cond_true,if_true];rfl
 ·have h':¬Yw (fun y:Cst=>Qc y.1 x) m.2.2.2.2<0:=h;obtain⟨k,y,h1,h2,h3,h4⟩:=Qbz (p:=fun y:Cst=>Qc y.1 x) (l:=m.2.2.2.2) (by omega);simp only[h,h',decide_false,cond_false,if_false];unfold cAt cI;simp(disch:=omega)only[h1,Zv,Int.toNat_natCast,hd,Zu]
def Kp(l:List ByteArray)(i:Nat):Int:=if Yy (l.getD i ByteArray.empty)=true then(if hasB (l.take i) (l.getD i ByteArray.empty)=true then 9 else 0)else 8
def W1(s:Qw)(i:Nat):Int:=
 if Yy (s.2.1.getD i dA).1=true then
  (if((s.2.1.take i).any fun y=>Qc y.1 (s.2.1.getD i dA).1)=true then 9 else if hasB s.1 (s.2.1.getD i dA).2.1=true then(if Z7 (s.2.1.getD i dA).2.2.1=true then 3 else if Yy (s.2.1.getD i dA).2.2.2=true then 0 else 8)else 10)
 else 8
def Kh(s:Qw)(i:Nat):Int:=if aI s (s.2.2.1.getD i dL).1<0 then 10 else Qgg (s.2.2.1.getD i dL).2.1 (s.2.2.1.getD i dL).2.2
def Jw(m:Mt)(s:Qw)(i:Nat):Int:=
 if aI s (s.2.2.2.1.getD i dE).1<0∨cI m (s.2.2.2.1.getD i dE).2.1<0 then 10 else if 0<(cAt m (s.2.2.2.1.getD i dE).2.1).2.2.2.2.2.2.2.2.2.2 then 13
 else if(s.2.2.2.1.take i).any (eP (s.2.2.2.1.getD i dE).1 (s.2.2.2.1.getD i dE).2.1)=true then 9
 else if Jf (s.2.2.2.1.getD i dE).2.2.1 (s.2.2.2.1.getD i dE).2.2.2.1 (s.2.2.2.1.getD i dE).2.2.2.2.1=0 then(if Wv (cAt m (s.2.2.2.1.getD i dE).2.1).2.1 (s.2.2.2.1.getD i dE).2.2.1=true then(if Z7 (s.2.2.2.1.getD i dE).2.2.2.2.2.1=true then 3 else 0)else 13)
 else Jf (s.2.2.2.1.getD i dE).2.2.1 (s.2.2.2.1.getD i dE).2.2.2.1 (s.2.2.2.1.getD i dE).2.2.2.2.1
def Ut(s:Qw)(l:List ByteArray)(i:Nat):Int:=if aI s (l.getD i ByteArray.empty)<0 then 10 else if hasB (l.take i) (l.getD i ByteArray.empty)=true then 9 else 0
def Kd(m:Mt)(s:Qw)(i:Nat):Int:=
 if hasB s.1 (s.2.2.2.2.getD i dT).1=false∨cI m (s.2.2.2.2.getD i dT).2.1<0 then 10 else if(cAt m (s.2.2.2.2.getD i dT).2.1).2.2.2.2.2.2.2.2.2.2=0 then 13
 else if(s.2.2.2.2.take i).any (tP (s.2.2.2.2.getD i dT).1 (s.2.2.2.2.getD i dT).2.1)=true then 9
 else if((s.2.2.2.2.getD i dT).2.2.length:Int)=(cAt m (s.2.2.2.2.getD i dT).2.1).2.2.2.2.2.2.2.2.2.2 then Qn ((List.range (s.2.2.2.2.getD i dT).2.2.length).map (Ut s (s.2.2.2.2.getD i dT).2.2))else 2
theorem Qbe{γ:Type}{step:Int→Option (Int ⊕ (Int ⊕ Unit))}{F:Nat}{k:Int ⊕ Unit→Option γ}{r:Option γ}(n:Nat)(e:Nat→Int)(hF:n<F)(hn:n≤1000)
  (hstep:∀(i:Nat),i<n→step (i:Int)=some (if e i=0 then .inl ((i:Int)+1)else .inr (.inl (e i))))
  (hend:step (n:Int)=some (.inr (.inr ())))
  (hk:k (if Qn ((List.range n).map e)=0 then .inr ()else .inl (Qn ((List.range n).map e)))=r):Option.bind (Q2 step F 0) k=r:=by
 refine Qmp (List.range n) e (by simpa using hF) ?_ ?_ hk
 ·intro i x hi hx;obtain rfl:=Qjr hx;exact hstep x (by simpa using hi)
 ·simpa using hend
theorem Qc2(x:Int):Sum.elim (fun(a:Int)=>some a) (fun(_:Unit)=>some (0:Int)) (if x=0 then Sum.inr ()else Sum.inl x)=some x:=by by_cases h:x=0<;>simp[h]
theorem Qf0(x:Int)(a:Int):(bif !decide (x=0)then some (Sum.inr (Sum.inl x):Int ⊕ (Int ⊕ Unit))else some (Sum.inl a))=some (if x=0 then .inl a else .inr (.inl x)):=by by_cases h:x=0<;>simp[h]
theorem Zom{F:Nat}(hF:400≤F){s:Qw}(h:SmS s){i:Nat}(hi:i<s.1.length):Qpr F ((i:Int),s.1.getD i ByteArray.empty,s)=some (Kp s.1 i):=by
 have h1:=h.c;unfold Qpr Kp;have hi':(i:Int)≤s.1.length:=by omega
 simp only[Int.toNat_natCast,List.drop_zero,hi',Int.natCast_nonneg,decide_true,Zp,l92 hF (h.cn _ (Qe0 _ hi)),Qr1 hF (l:=s.1.take i) (x:=s.1.getD i ByteArray.empty) (by simp;omega),l86,Option.bind_some];rw[J1 hF (by simp[Qa])];simp only[Option.bind_some,Qa,Qn];cases Yy (s.1.getD i ByteArray.empty)
 ·simp
 ·cases hasB (s.1.take i) (s.1.getD i ByteArray.empty)<;>simp
theorem Zvf{F:Nat}(hF:400≤F){s:Qw}(h:SmS s):Qmg F (s.1,s)=some (Qn ((List.range s.1.length).map (Kp s.1))):=by
 have h1:=h.c;unfold Qmg;refine Qbe s.1.length (Kp s.1) (by omega) (by omega) ?_ ?_ (Qc2 _)
 ·intro i hi;simp(disch:=omega)only[Zy,Zv,Int.toNat_natCast,Zo,Zu,Zom hF h hi,Option.bind_some,Qf0]
 ·simp(disch:=omega)only[Zq]
theorem Ybw{F:Nat}(hF:400≤F){s:Qw}(h:SmS s){i:Nat}(hi:i<s.2.1.length):Qpt F ((i:Int),s.2.1.getD i dA,s)=some (W1 s i):=by
 have h1:=h.c;obtain⟨hn1,hn2⟩:=h.an _ (Qe0 dA hi);have e1:∀x,Zz F (x::Qa Int)=some (if Z7 x=true then 3 else 0):=fun x=>by rw[l85 (by simp[Qa];omega) (by simp[Qa])];simp[Qa]
 have e5:∀a b c d e,Q9 F (a::b::c::d::e::Qa Int)=some (Qn [a,b,c,d,e]):=fun a b c d e=>J1 hF (by simp[Qa]);have hlt:=Qaz (p:=fun y:Ath=>Qc y.1 (s.2.1.getD i dA).1) (Qbv dA hi) (Jm _);unfold Qpt W1 tw;simp only[Zu,l92 hF hn1,l92 hF hn2,Qjv hF h,Qy4 hF h,l86,e1,e5,Option.bind_some];rw[show decide (aI s (s.2.1.getD i dA).1<(i:Int))=_ from hlt];generalize Yy (s.2.1.getD i dA).1=q1;generalize ((s.2.1.take i).any fun y=>Qc y.1 (s.2.1.getD i dA).1)=q2;generalize hasB s.1 (s.2.1.getD i dA).2.1=q3;generalize Z7 (s.2.1.getD i dA).2.2.1=q4;generalize Yy (s.2.1.getD i dA).2.2.2=q5;have key:Qn [if q1=true then 0 else 8,if q2=true then 9 else 0,if(!q3)=true then 10 else 0,if q4=true then 3 else 0,if q5=true then 0 else 8]=if q1=true then(if q2=true then 9 else if q3=true then(if q4=true then 3 else if q5=true then 0 else 8)else 10)else 8:=by cases q1<;>cases q2<;>cases q3<;>cases q4<;>cases q5<;>rfl
 simp only[key,Option.bind_some,decide_true,Bool.and_self,Zp,V3,Qve,Qrl]
theorem Ykd{F:Nat}(hF:400≤F){s:Qw}(h:SmS s):Qow F (s.2.1,s)=some (Qn ((List.range s.2.1.length).map (W1 s))):=by
 have h1:=h.a;have hd:Xn=dA:=rfl;unfold Qow;refine Qbe s.2.1.length (W1 s) (by omega) (by omega) ?_ ?_ (Qc2 _)
 ·intro i hi;simp(disch:=omega)only[Zy,Zv,Int.toNat_natCast,Zo,hd,Zu,Ybw hF h hi,Option.bind_some,Qf0]
 ·simp(disch:=omega)only[Zq]
theorem Zhz{F:Nat}(hF:400≤F){s:Qw}(h:SmS s)(i:Nat):Qmc F ((i:Int),s.2.2.1.getD i dL,s)=some (Kh s i):=by
 unfold Qmc Kh;simp only[Zu,Qjv hF h,l86,Option.bind_some];rw[show Qie F (s.2.2.1.getD i dL)=some (Qgg (s.2.2.1.getD i dL).2.1 (s.2.2.1.getD i dL).2.2)from Zs8 hF _ _ _];simp only[Option.bind_some];rw[J1 hF (by simp[Qa])];simp only[Option.bind_some,Qa,Qn];generalize Qgg (s.2.2.1.getD i dL).2.1 (s.2.2.1.getD i dL).2.2=w;generalize aI s (s.2.2.1.getD i dL).1=v;by_cases h1:v<0
 ·simp[h1]
 ·by_cases h2:w=0<;>simp[h1,h2]
theorem Zi3{F:Nat}(hF:400≤F){s:Qw}(h:SmS s):Qk8 F (s.2.2.1,s)=some (Qn ((List.range s.2.2.1.length).map (Kh s))):=by
 have h1:=h.l;have hd:(ByteArray.empty,(0:Int),(0:Int))=dL:=rfl;unfold Qk8;refine Qbe s.2.2.1.length (Kh s) (by omega) (by omega) ?_ ?_ (Qc2 _)
 ·intro i hi;simp(disch:=omega)only[Zy,Zv,Int.toNat_natCast,Zo,hd,Zu,Zhz hF h,Option.bind_some,Qf0]
 ·simp(disch:=omega)only[Zq]
theorem Ybp{F:Nat}(hF:400≤F){m:Mt}(hm:m.2.2.2.2.length≤300){s:Qw}(h:SmS s){i:Nat}(hi:i<s.2.2.2.1.length):Qps F (s,m,(i:Int),s.2.2.2.1.getD i dE)=some (Jw m s i):=by
 have e1:∀x,Zz F (x::Qa Int)=some (if Z7 x=true then 3 else 0):=fun x=>by rw[l85 (by simp[Qa];omega) (by simp[Qa])];simp[Qa]
 have e6:∀a b c d e f,Q9 F (a::b::c::d::e::f::Qa Int)=some (Qn [a,b,c,d,e,f]):=fun a b c d e f=>J1 hF (by simp[Qa]);have hlt:=Qaz (p:=eP (s.2.2.2.1.getD i dE).1 (s.2.2.2.1.getD i dE).2.1) (Qbv dE hi) (by simp[eP,Jm]);unfold Qps Jw tw;simp only[Zu,Qqv hF hm,Option.bind_some];generalize s.2.2.2.1.getD i dE=x at hlt;have hlt:decide (eI s x.1 x.2.1<(i:Int))=_:=hlt;generalize cAt m x.2.1=ct;generalize hw:(if cI m x.2.1<0 then(Qi8,false)else(ct,true))=w;simp only[l86,l99 hF,Qjv hF h,Zac,Qqq hF h,e1,e6,hlt,Option.bind_some];generalize hsu:Wv w.1.2.1 x.2.2.1=su;generalize ((s.2.2.2.1.take i).any (eP x.1 x.2.1))=tw;generalize hme:Jf x.2.2.1 x.2.2.2.1 x.2.2.2.2.1=me;generalize Z7 x.2.2.2.2.2.1=db;have ea:(decide (aI s x.1<0))=decide (aI s x.1<0):=rfl;by_cases hc:cI m x.2.1<0
 ·rw[if_pos hc]at hw;subst hw;have k0:∀a b c d e,Qn [10,a,b,c,d,e]=10:=fun _ _ _ _ _=>by simp[Qn]
  simp only[hc,or_true,if_true,Bool.not_false,cond_true,k0,Option.bind_some,decide_true,Bool.and_self,Zp,V3,Qve,Qrl]
 ·rw[if_neg hc]at hw;subst hw;simp only[hc,or_false,Bool.not_true,cond_false];have key:Qn [if decide (aI s x.1<0)=true then 10 else 0,if decide (0<ct.2.2.2.2.2.2.2.2.2.2)=true then 13 else 0,if tw=true then 9 else 0,me,if(!su)=true then 13 else 0,if db=true then 3 else 0]
    =if aI s x.1<0 then 10 else if 0<ct.2.2.2.2.2.2.2.2.2.2 then 13 else if tw=true then 9 else if me=0 then(if su=true then(if db=true then 3 else 0)else 13)else me:=by
   by_cases g1:aI s x.1<0
   ·simp[g1,Qn]
   ·by_cases g2:0<ct.2.2.2.2.2.2.2.2.2.2
    ·simp[g1,g2,Qn]
    ·cases tw
     ·by_cases g3:me=0
      ·cases su<;>cases db<;>simp[g1,g2,g3,Qn]
      ·simp[g1,g2,g3,Qn]
     ·simp[g1,g2,Qn]
  simp only[hsu,key,Option.bind_some,decide_true,Bool.and_self,Zp,V3,Qve,Qrl]
theorem Znl{F:Nat}(hF:400≤F){m:Mt}(hm:m.2.2.2.2.length≤300){s:Qw}(h:SmS s):Qou F (s.2.2.2.1,s,m)=some (Qn ((List.range s.2.2.2.1.length).map (Jw m s))):=by
 have h1:=h.e;have hd:Q6=dE:=rfl;have e:∀i,i<s.2.2.2.1.length→Qom F ((i:Int),s.2.2.2.1.getD i dE,s,m)=some (Jw m s i):=fun i hi=>by unfold Qom;simp only[Zu,Ybp hF hm h hi,Option.bind_some]
 unfold Qou;refine Qbe s.2.2.2.1.length (Jw m s) (by omega) (by omega) ?_ ?_ (Qc2 _)
 ·intro i hi;simp(disch:=omega)only[Zy,Zv,Int.toNat_natCast,Zo,hd,Zu,e i hi,Option.bind_some,Qf0]
 ·simp(disch:=omega)only[Zq]
theorem Zk3{F:Nat}(hF:400≤F){s:Qw}(h:SmS s){l:List ByteArray}(hl:l.length≤300)(a b:ByteArray):Qnn F (l,s,a,b,l)=some (Qn ((List.range l.length).map (Ut s l))):=by
 have e:∀i,i<l.length→Qlp F ((i:Int),l.getD i ByteArray.empty,s,a,b,l)=some (Ut s l i):=fun i hi=>by
  unfold Qlp Ut;have hi':(i:Int)≤l.length:=by omega
  simp only[Zu,Int.toNat_natCast,List.drop_zero,hi',Int.natCast_nonneg,decide_true,Zp,Qjv hF h,Qr1 hF (l:=l.take i) (x:=l.getD i ByteArray.empty) (by simp;omega),l86,Option.bind_some];rw[J1 hF (by simp[Qa])];simp only[Option.bind_some,Qa,Qn];generalize aI s (l.getD i ByteArray.empty)=v;generalize hasB (l.take i) (l.getD i ByteArray.empty)=q;by_cases h1:v<0
  ·simp[h1]
  ·cases q<;>simp[h1]
 unfold Qnn;refine Qbe l.length (Ut s l) (by omega) (by omega) ?_ ?_ (Qc2 _)
 ·intro i hi;simp(disch:=omega)only[Zy,Zv,Int.toNat_natCast,Zo,Zu,e i hi,Option.bind_some,Qf0]
 ·simp(disch:=omega)only[Zq]
theorem Yhy{F:Nat}(hF:400≤F){m:Mt}(hm:m.2.2.2.2.length≤300){s:Qw}(h:SmS s){i:Nat}(hi:i<s.2.2.2.2.length):Qn2 F (s,m,(i:Int),s.2.2.2.2.getD i dT)=some (Kd m s i):=by
 have e4:∀a b c d,Q9 F (a::b::c::d::Qa Int)=some (Qn [a,b,c,d]):=fun a b c d=>J1 hF (by simp[Qa]);have hlt:=Qaz (p:=tP (s.2.2.2.2.getD i dT).1 (s.2.2.2.2.getD i dT).2.1) (Qbv dT hi) (by simp[tP,Jm]);have hrl:=h.tn _ (Qe0 dT hi);unfold Qn2 Kd;simp only[Zu,Qqv hF hm,Option.bind_some];generalize s.2.2.2.2.getD i dT=x at hlt hrl;have hlt:decide (tI s x.1 x.2.1<(i:Int))=_:=hlt;generalize cAt m x.2.1=ct;generalize hw:(if cI m x.2.1<0 then(Qi8,false)else(ct,true))=w;simp only[l86,Qy4 hF h,Yif hF h,e4,hlt,Zk3 hF h hrl,Option.bind_some];generalize ((s.2.2.2.2.take i).any (tP x.1 x.2.1))=tw;generalize Qn ((List.range x.2.2.length).map (Ut s x.2.2))=re;by_cases hc:cI m x.2.1<0
 ·rw[if_pos hc]at hw;subst hw;have k0:∀a b c,Qn [10,a,b,c]=10:=fun _ _ _=>by simp[Qn]
  simp[hc,k0]
 ·rw[if_neg hc]at hw;subst hw;simp only[hc,or_false,Bool.not_true,cond_false];cases hasB s.1 x.1
  ·simp[Qn]
  ·by_cases g1:ct.2.2.2.2.2.2.2.2.2.2=0
   ·simp[g1,Qn]
   ·cases tw
    ·by_cases g2:(x.2.2.length:Int)=ct.2.2.2.2.2.2.2.2.2.2
     ·simp[g1,g2,Qn]
     ·simp[g1,g2,Qn]
    ·simp[g1,Qn]
theorem Zva{F:Nat}(hF:400≤F){m:Mt}(hm:m.2.2.2.2.length≤300){s:Qw}(h:SmS s):Qlg F (s.2.2.2.2,s,m)=some (Qn ((List.range s.2.2.2.2.length).map (Kd m s))):=by
 have h1:=h.t;have hd:(ByteArray.empty,ByteArray.empty,Qa ByteArray)=dT:=rfl;have e:∀i,i<s.2.2.2.2.length→Qks F ((i:Int),s.2.2.2.2.getD i dT,s,m)=some (Kd m s i):=fun i hi=>by unfold Qks;simp only[Zu,Yhy hF hm h hi,Option.bind_some]
 unfold Qlg;refine Qbe s.2.2.2.2.length (Kd m s) (by omega) (by omega) ?_ ?_ (Qc2 _)
 ·intro i hi;simp(disch:=omega)only[Zy,Zv,Int.toNat_natCast,Zo,hd,Zu,e i hi,Option.bind_some,Qf0]
 ·simp(disch:=omega)only[Zq]
def Jr(s:Qw):Prop:=256<s.1.length∨256<s.2.1.length∨256<s.2.2.1.length∨256<s.2.2.2.1.length∨256<s.2.2.2.2.length
instance (s:Qw):Decidable (Jr s):=by unfold Jr;infer_instance
def Z0(m:Mt)(s:Qw):Int:=
 if mtE m=0 then(if Jr s then 5 else Qn [Qn ((List.range s.1.length).map (Kp s.1)),Qn ((List.range s.2.1.length).map (W1 s)),Qn ((List.range s.2.2.1.length).map (Kh s)),
  Qn ((List.range s.2.2.2.1.length).map (Jw m s)),Qn ((List.range s.2.2.2.2.length).map (Kd m s))])else mtE m
theorem Zcb(a b:Int):(256<if a<b then b else a)↔(256<a∨256<b):=by split<;>omega
theorem l25{F:Nat}(hF:400≤F){m:Mt}(hl:m.2.2.2.2.length≤300)(hb:∀x∈m.2.2.2.2,x.1.size≤300∧x.2.2.1.size≤300){s:Qw}(h:SmS s):c25 F (m,s)=some (Z0 m s):=by
 have e2:∀a b,Q9 F (a::b::Qa Int)=some (Qn [a,b]):=fun a b=>J1 hF (by simp[Qa]);have e5:∀a b c d e,Q9 F (a::b::c::d::e::Qa Int)=some (Qn [a,b,c,d,e]):=fun a b c d e=>J1 hF (by simp[Qa]);unfold c25 Z0;simp only[Zu,l21 hF hl hb,l86,e2,e5,Zvf hF h,Ykd hF h,Zi3 hF h,Znl hF hl h,Zva hF hl h,Option.bind_some,Zcb];have hm:((((256<(s.1.length:Int)∨256<(s.2.1.length:Int))∨256<(s.2.2.1.length:Int))∨256<(s.2.2.2.1.length:Int))∨256<(s.2.2.2.2.length:Int))↔Jr s:=by unfold Jr;omega
 simp only[hm];generalize Qn [Qn ((List.range s.1.length).map (Kp s.1)),Qn ((List.range s.2.1.length).map (W1 s)),Qn ((List.range s.2.2.1.length).map (Kh s)),
  Qn ((List.range s.2.2.2.1.length).map (Jw m s)),Qn ((List.range s.2.2.2.2.length).map (Kd m s))]=w
 by_cases h1:mtE m=0
 ·by_cases h2:Jr s<;>simp[h1,h2,Qn]
 ·simp[h1,Qn]
end Go.Proofs.Tryz

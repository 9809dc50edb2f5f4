/- Plain law: states, in the program and in the reference. -/
import Derived.Test.YtpkbmngnolhopaaGreatDoorXT3c
import Derived.Test.YtpkbmngnolhopaaGreatDoorXTeB1
set_option maxRecDepth 100000
set_option linter.unusedVariables false
set_option linter.unusedSimpArgs false
open Option renaming bind_some->j
open Int renaming toNat_natCast->o,natCast_nonneg->J
open List renaming range->C,drop_zero->R
open ByteArray renaming empty->I
namespace Go.Proofs.Tryz
open Go Go.Sx
theorem Qm4(n:Nat)(x:Int):Zv.eqv ((Exit.normal,({cells:=Qq.slot n (Qe.val (Ty.int IntKind.i64))::Qa Qq,owns:=Qa (Nat×Lk)}:Qk))::Qa (Exit×Qk)) x x=true:=
 Zv.eqv_rf ((Exit.normal,({cells:=Qq.slot n (Qe.val (Ty.int IntKind.i64))::Qa Qq,owns:=Qa (Nat×Lk)}:Qk))::Qa (Exit×Qk)) x
theorem Qb5(a b:ByteArray):Qc a b=Qc b a:=by rw[Zbn,Zbn];exact decide_eq_decide.2 ⟨Eq.symm,Eq.symm⟩
abbrev Ath:=Q3
abbrev Lic:=Zc
abbrev Qr:=Ql
abbrev Tm:=Zd
abbrev Qh:=List ByteArray×List Ath×List Lic×List Qr×List Tm
def dA:Ath:=Yf
def dL:Lic:=YP
def dE:Qr:=Zk
def dT:Tm:=YK
theorem Qc6{α:Type}{l:List α}{i:Nat}(d:α)(hi:i<l.length):l[i]? =some (l.getD i d):=by rw[List.getD_eq_getElem?_getD,List.getElem?_eq_getElem hi];rfl
theorem Qme{α:Type}{l:List α}{i:Nat}(d:α)(hi:i<l.length):l.getD i d∈l:=List.mem_of_getElem? (Qc6 d hi)
structure Zh (s:Qh):Prop where
 c:s.1.length<=300
 a:s.2.1.length<=300
 l:s.2.2.1.length<=300
 e:s.2.2.2.1.length<=300
 t:s.2.2.2.2.length<=300
 cn:∀x∈s.1,x.size<=300
 an:∀x∈s.2.1,x.1.size<=300∧x.2.2.2.size<=300
 tn:∀x∈s.2.2.2.2,x.2.2.length<=300
def aI(s:Qh)(x:ByteArray):Int:=Xe (fun y=>Qc y.1 x) s.2.1
def eP(a c:ByteArray)(y:Qr):Bool:=Qc y.1 a&&Qc y.2.1 c
def tP(a c:ByteArray)(y:Tm):Bool:=Qc y.1 a&&Qc y.2.1 c
def eI(s:Qh)(a c:ByteArray):Int:=Xe (eP a c) s.2.2.2.1
def tI(s:Qh)(a c:ByteArray):Int:=Xe (tP a c) s.2.2.2.2
def cI(m:Mt)(x:ByteArray):Int:=Xe (fun y=>Qc y.1 x) m.2.2.2.2
def hasB(l:List ByteArray)(x:ByteArray):Bool:=l.any fun y=>Qc y x
theorem Zo1(l:List ByteArray)(x:ByteArray):(l.any fun y=>Qc x y)=hasB l x:=by unfold hasB;congr 1;funext y;exact Qb5 _ _
theorem Qre{F:Nat}(hF:400<=F){l:List ByteArray}{x:ByteArray}(hl:l.length<=300):V8 F (l,x)=some (hasB l x):=by rw[Zj5 hF hl,Zo1]
theorem Ykc{F:Nat}{l:List Ath}(hF:l.length<F)(hl:l.length<=1000)(x:ByteArray):Qsr F (l,x)=some (Xe (fun y=>Qc y.1 x) l):=by
 unfold Qsr;refine Qbt l _ hF ?_ ?_
 ·intro i y hi hy;simp(disch:=omega)only[Z1,Ze,o,getD_some hy,Zu];cases Qc y.1 x<;>rfl
 ·simp(disch:=omega)only[Zz]
theorem Ko{F:Nat}(hF:400<=F){s:Qh}(h:Zh s)(x:ByteArray):Jt F (s,x)=some (aI s x):=by unfold Jt aI;have:=h.a;simp only[Ykc (F:=F) (l:=s.2.1) (by omega) (by omega),j]
theorem Qjp{F:Nat}(hF:400<=F){s:Qh}(h:Zh s)(x:ByteArray):Ki F (s,x)=some (hasB s.1 x):=by unfold Ki;simp only[Qre hF h.c,j]
theorem Zs1(F:Nat)(y:Qr)(a c:ByteArray):Qsu F (y,a,c)=some (eP a c y):=by unfold Qsu eP;cases Qc y.1 a<;>rfl
theorem Yl5(F:Nat)(y:Tm)(a c:ByteArray):Qoq F (y,a,c)=some (tP a c y):=by unfold Qoq tP;cases Qc y.1 a<;>rfl
theorem Ybl{F:Nat}{l:List Qr}(hF:l.length<F)(hl:l.length<=1000)(a c:ByteArray):Qq6 F (l,a,c)=some (Xe (eP a c) l):=by
 unfold Qq6;refine Qbt l _ hF ?_ ?_
 ·intro i y hi hy;simp(disch:=omega)only[Z1,Ze,o,getD_some hy,Zu,Za,Zs1,j];cases eP a c y<;>rfl
 ·simp(disch:=omega)only[Zz]
theorem Zpm{F:Nat}{l:List Tm}(hF:l.length<F)(hl:l.length<=1000)(a c:ByteArray):Qss F (l,a,c)=some (Xe (tP a c) l):=by
 unfold Qss;refine Qbt l _ hF ?_ ?_
 ·intro i y hi hy;simp(disch:=omega)only[Z1,Ze,o,getD_some hy,Zu,Za,Yl5,j];cases tP a c y<;>rfl
 ·simp(disch:=omega)only[Zz]
theorem Qij{F:Nat}(hF:400<=F){s:Qh}(h:Zh s)(a c:ByteArray):Jx F (s,a,c)=some (eI s a c):=by unfold Jx eI;have:=h.e;simp only[Ybl (F:=F) (l:=s.2.2.2.1) (by omega) (by omega),j]
theorem Zht{F:Nat}(hF:400<=F){s:Qh}(h:Zh s)(a c:ByteArray):Qgr F (s,a,c)=some (tI s a c):=by unfold Qgr tI;have:=h.t;simp only[Zpm (F:=F) (l:=s.2.2.2.2) (by omega) (by omega),j]
def Qmz:Cst:=(YC,YC,YC,0,0,0,0,YC,0,YC,0)
def Zl(m:Mt)(x:ByteArray):Cst:=m.2.2.2.2.getD (cI m x).toNat dC
theorem Qjn{F:Nat}(hF:400<=F){m:Mt}(hl:m.2.2.2.2.length<=300)(x:ByteArray):Qa3 F (m,x)=some (if cI m x<0 then(Qmz,false)else(Zl m x,true)):=by
 have hd:Zf=dC:=rfl;unfold Qa3;simp only[Zri (F:=F) (l:=m.2.2.2.2) (by omega) (by omega),j];by_cases h:cI m x<0
 ·have h':Xe (fun y:Cst=>Qc y.1 x) m.2.2.2.2<0:=h;simp only[h,h',decide_true,cond_true,if_true];rfl
 ·have h':¬Xe (fun y:Cst=>Qc y.1 x) m.2.2.2.2<0:=h;obtain⟨k,y,h1,h2,h3,h4⟩:=Wf (p:=fun y:Cst=>Qc y.1 x) (l:=m.2.2.2.2) (by omega);simp only[h,h',decide_false,cond_false,if_false];unfold Zl cI;simp(disch:=omega)only[h1,Ze,o,hd,Za]
def Kc(l:List ByteArray)(i:Nat):Int:=if Y2 (l.getD i I)=true then(if hasB (l.take i) (l.getD i I)=true then 9 else 0)else 8
def Vr(s:Qh)(i:Nat):Int:=
 if Y2 (s.2.1.getD i dA).1=true then
  (if((s.2.1.take i).any fun y=>Qc y.1 (s.2.1.getD i dA).1)=true then 9 else if hasB s.1 (s.2.1.getD i dA).2.1=true then(if Yc (s.2.1.getD i dA).2.2.1=true then 3 else if Y2 (s.2.1.getD i dA).2.2.2=true then 0 else 8)else 10)
 else 8
def Vk(s:Qh)(i:Nat):Int:=if aI s (s.2.2.1.getD i dL).1<0 then 10 else Qco (s.2.2.1.getD i dL).2.1 (s.2.2.1.getD i dL).2.2
def J5(m:Mt)(s:Qh)(i:Nat):Int:=
 if aI s (s.2.2.2.1.getD i dE).1<0∨cI m (s.2.2.2.1.getD i dE).2.1<0 then 10 else if 0<(Zl m (s.2.2.2.1.getD i dE).2.1).2.2.2.2.2.2.2.2.2.2 then 13
 else if(s.2.2.2.1.take i).any (eP (s.2.2.2.1.getD i dE).1 (s.2.2.2.1.getD i dE).2.1)=true then 9
 else if Jo (s.2.2.2.1.getD i dE).2.2.1 (s.2.2.2.1.getD i dE).2.2.2.1 (s.2.2.2.1.getD i dE).2.2.2.2.1=0 then(if X8 (Zl m (s.2.2.2.1.getD i dE).2.1).2.1 (s.2.2.2.1.getD i dE).2.2.1=true then(if Yc (s.2.2.2.1.getD i dE).2.2.2.2.2.1=true then 3 else 0)else 13)
 else Jo (s.2.2.2.1.getD i dE).2.2.1 (s.2.2.2.1.getD i dE).2.2.2.1 (s.2.2.2.1.getD i dE).2.2.2.2.1
def Vu(s:Qh)(l:List ByteArray)(i:Nat):Int:=if aI s (l.getD i I)<0 then 10 else if hasB (l.take i) (l.getD i I)=true then 9 else 0
def V1(m:Mt)(s:Qh)(i:Nat):Int:=
 if hasB s.1 (s.2.2.2.2.getD i dT).1=false∨cI m (s.2.2.2.2.getD i dT).2.1<0 then 10 else if(Zl m (s.2.2.2.2.getD i dT).2.1).2.2.2.2.2.2.2.2.2.2=0 then 13
 else if(s.2.2.2.2.take i).any (tP (s.2.2.2.2.getD i dT).1 (s.2.2.2.2.getD i dT).2.1)=true then 9
 else if((s.2.2.2.2.getD i dT).2.2.length:Int)=(Zl m (s.2.2.2.2.getD i dT).2.1).2.2.2.2.2.2.2.2.2.2 then Qi ((C (s.2.2.2.2.getD i dT).2.2.length).map (Vu s (s.2.2.2.2.getD i dT).2.2))else 2
theorem Qab{γ:Type}{step:Int->Option (Int ⊕ (Int ⊕ Unit))}{F:Nat}{k:Int ⊕ Unit->Option γ}{r:Option γ}(n:Nat)(e:Nat->Int)(hF:n<F)(hn:n<=1000)
  (hstep:∀(i:Nat),i<n->step (i:Int)=some (if e i=0 then .inl ((i:Int)+1)else .inr (.inl (e i))))
  (hend:step (n:Int)=some (.inr (.inr ())))
  (hk:k (if Qi ((C n).map e)=0 then .inr ()else .inl (Qi ((C n).map e)))=r):Option.bind (Qx step F 0) k=r:=by
 refine Qex (C n) e (by simpa using hF) ?_ ?_ hk
 ·intro i x hi hx;obtain rfl:=Qh3 hx;exact hstep x (by simpa using hi)
 ·simpa using hend
theorem Qcw(x:Int):Sum.elim (fun(a:Int)=>some a) (fun(_:Unit)=>some (0:Int)) (if x=0 then Sum.inr ()else Sum.inl x)=some x:=by by_cases h:x=0<;>simp[h]
theorem Qdb(x:Int)(a:Int):(bif !decide (x=0)then some (Sum.inr (Sum.inl x):Int ⊕ (Int ⊕ Unit))else some (Sum.inl a))=some (if x=0 then .inl a else .inr (.inl x)):=by by_cases h:x=0<;>simp[h]
theorem Yg1{F:Nat}(hF:400<=F){s:Qh}(h:Zh s){i:Nat}(hi:i<s.1.length):Qpy F ((i:Int),s.1.getD i I,s)=some (Kc s.1 i):=by
 have h1:=h.c;unfold Qpy Kc;have hi':(i:Int)<=s.1.length:=by omega
 simp only[o,R,hi',J,decide_true,Zb,l92 hF (h.cn _ (Qme _ hi)),Qre hF (l:=s.1.take i) (x:=s.1.getD i I) (by simp;omega),Yt,j];rw[X9 hF (by simp[Qa])];simp only[j,Qa,Qi];cases Y2 (s.1.getD i I)
 ·simp
 ·cases hasB (s.1.take i) (s.1.getD i I)<;>simp
theorem Yrw{F:Nat}(hF:400<=F){s:Qh}(h:Zh s):Qnx F (s.1,s)=some (Qi ((C s.1.length).map (Kc s.1))):=by
 have h1:=h.c;unfold Qnx;refine Qab s.1.length (Kc s.1) (by omega) (by omega) ?_ ?_ (Qcw _)
 ·intro i hi;simp(disch:=omega)only[Z1,Ze,o,Zu,Za,Yg1 hF h hi,j,Qdb]
 ·simp(disch:=omega)only[Zz]
theorem Zy2{F:Nat}(hF:400<=F){s:Qh}(h:Zh s){i:Nat}(hi:i<s.2.1.length):Qoa F ((i:Int),s.2.1.getD i dA,s)=some (Vr s i):=by
 have h1:=h.c;obtain⟨hn1,hn2⟩:=h.an _ (Qme dA hi);have e1:∀x,Ye F (x::Qa Int)=some (if Yc x=true then 3 else 0):=fun x=>by rw[l85 (by simp[Qa];omega) (by simp[Qa])];simp[Qa]
 have e5:∀a b c d e,Qy F (a::b::c::d::e::Qa Int)=some (Qi [a,b,c,d,e]):=fun a b c d e=>X9 hF (by simp[Qa]);have hlt:=Qd4 (p:=fun y:Ath=>Qc y.1 (s.2.1.getD i dA).1) (Qc6 dA hi) (Wr _);unfold Qoa Vr tw;simp only[Za,l92 hF hn1,l92 hF hn2,Ko hF h,Qjp hF h,Yt,e1,e5,j];rw[show decide (aI s (s.2.1.getD i dA).1<(i:Int))=_ from hlt];generalize Y2 (s.2.1.getD i dA).1=q1;generalize ((s.2.1.take i).any fun y=>Qc y.1 (s.2.1.getD i dA).1)=q2;generalize hasB s.1 (s.2.1.getD i dA).2.1=q3;generalize Yc (s.2.1.getD i dA).2.2.1=q4;generalize Y2 (s.2.1.getD i dA).2.2.2=q5;have key:Qi [if q1=true then 0 else 8,if q2=true then 9 else 0,if(!q3)=true then 10 else 0,if q4=true then 3 else 0,if q5=true then 0 else 8]=if q1=true then(if q2=true then 9 else if q3=true then(if q4=true then 3 else if q5=true then 0 else 8)else 10)else 8:=by cases q1<;>cases q2<;>cases q3<;>cases q4<;>cases q5<;>rfl
 simp only[key,j,decide_true,Bool.and_self,Zb,Vi,Qj2,Qm4]
theorem Znk{F:Nat}(hF:400<=F){s:Qh}(h:Zh s):Qof F (s.2.1,s)=some (Qi ((C s.2.1.length).map (Vr s))):=by
 have h1:=h.a;have hd:Yf=dA:=rfl;unfold Qof;refine Qab s.2.1.length (Vr s) (by omega) (by omega) ?_ ?_ (Qcw _)
 ·intro i hi;simp(disch:=omega)only[Z1,Ze,o,Zu,hd,Za,Zy2 hF h hi,j,Qdb]
 ·simp(disch:=omega)only[Zz]
theorem Yph{F:Nat}(hF:400<=F){s:Qh}(h:Zh s)(i:Nat):Qny F ((i:Int),s.2.2.1.getD i dL,s)=some (Vk s i):=by
 unfold Qny Vk;simp only[Za,Ko hF h,Yt,j];rw[show Ql6 F (s.2.2.1.getD i dL)=some (Qco (s.2.2.1.getD i dL).2.1 (s.2.2.1.getD i dL).2.2)from Zv0 hF _ _ _];simp only[j];rw[X9 hF (by simp[Qa])];simp only[j,Qa,Qi];generalize Qco (s.2.2.1.getD i dL).2.1 (s.2.2.1.getD i dL).2.2=w;generalize aI s (s.2.2.1.getD i dL).1=v;by_cases h1:v<0
 ·simp[h1]
 ·by_cases h2:w=0<;>simp[h1,h2]
theorem Yfj{F:Nat}(hF:400<=F){s:Qh}(h:Zh s):Qst F (s.2.2.1,s)=some (Qi ((C s.2.2.1.length).map (Vk s))):=by
 have h1:=h.l;have hd:YP=dL:=rfl;unfold Qst;refine Qab s.2.2.1.length (Vk s) (by omega) (by omega) ?_ ?_ (Qcw _)
 ·intro i hi;simp(disch:=omega)only[Z1,Ze,o,Zu,hd,Za,Yph hF h,j,Qdb]
 ·simp(disch:=omega)only[Zz]
theorem Zq1{F:Nat}(hF:400<=F){m:Mt}(hm:m.2.2.2.2.length<=300){s:Qh}(h:Zh s){i:Nat}(hi:i<s.2.2.2.1.length):Qqc F (s,m,(i:Int),s.2.2.2.1.getD i dE)=some (J5 m s i):=by
 have e1:∀x,Ye F (x::Qa Int)=some (if Yc x=true then 3 else 0):=fun x=>by rw[l85 (by simp[Qa];omega) (by simp[Qa])];simp[Qa]
 have e6:∀a b c d e f,Qy F (a::b::c::d::e::f::Qa Int)=some (Qi [a,b,c,d,e,f]):=fun a b c d e f=>X9 hF (by simp[Qa]);have hlt:=Qd4 (p:=eP (s.2.2.2.1.getD i dE).1 (s.2.2.2.1.getD i dE).2.1) (Qc6 dE hi) (by simp[eP,Wr]);unfold Qqc J5 tw;simp only[Za,Qjn hF hm,j];generalize s.2.2.2.1.getD i dE=x at hlt;have hlt:decide (eI s x.1 x.2.1<(i:Int))=_:=hlt;generalize Zl m x.2.1=ct;generalize hw:(if cI m x.2.1<0 then(Qmz,false)else(ct,true))=w;simp only[Yt,l99 hF,Ko hF h,Qwk,Qij hF h,e1,e6,hlt,j];generalize hsu:X8 w.1.2.1 x.2.2.1=su;generalize ((s.2.2.2.1.take i).any (eP x.1 x.2.1))=tw;generalize hme:Jo x.2.2.1 x.2.2.2.1 x.2.2.2.2.1=me;generalize Yc x.2.2.2.2.2.1=db;have ea:(decide (aI s x.1<0))=decide (aI s x.1<0):=rfl;by_cases hc:cI m x.2.1<0
 ·rw[if_pos hc]at hw;subst hw;have k0:∀a b c d e,Qi [10,a,b,c,d,e]=10:=fun _ _ _ _ _=>by simp[Qi]
  simp only[hc,or_true,if_true,Bool.not_false,cond_true,k0,j,decide_true,Bool.and_self,Zb,Vi,Qj2,Qm4]
 ·rw[if_neg hc]at hw;subst hw;simp only[hc,or_false,Bool.not_true,cond_false];have key:Qi [if decide (aI s x.1<0)=true then 10 else 0,if decide (0<ct.2.2.2.2.2.2.2.2.2.2)=true then 13 else 0,if tw=true then 9 else 0,me,if(!su)=true then 13 else 0,if db=true then 3 else 0]
    =if aI s x.1<0 then 10 else if 0<ct.2.2.2.2.2.2.2.2.2.2 then 13 else if tw=true then 9 else if me=0 then(if su=true then(if db=true then 3 else 0)else 13)else me:=by
   by_cases g1:aI s x.1<0
   ·simp[g1,Qi]
   ·by_cases g2:0<ct.2.2.2.2.2.2.2.2.2.2
    ·simp[g1,g2,Qi]
    ·cases tw
     ·by_cases g3:me=0
      ·cases su<;>cases db<;>simp[g1,g2,g3,Qi]
      ·simp[g1,g2,g3,Qi]
     ·simp[g1,g2,Qi]
  simp only[hsu,key,j,decide_true,Bool.and_self,Zb,Vi,Qj2,Qm4]
theorem Zzp{F:Nat}(hF:400<=F){m:Mt}(hm:m.2.2.2.2.length<=300){s:Qh}(h:Zh s):Qrl F (s.2.2.2.1,s,m)=some (Qi ((C s.2.2.2.1.length).map (J5 m s))):=by
 have h1:=h.e;have hd:Zk=dE:=rfl;have e:∀i,i<s.2.2.2.1.length->Qr1 F ((i:Int),s.2.2.2.1.getD i dE,s,m)=some (J5 m s i):=fun i hi=>by unfold Qr1;simp only[Za,Zq1 hF hm h hi,j]
 unfold Qrl;refine Qab s.2.2.2.1.length (J5 m s) (by omega) (by omega) ?_ ?_ (Qcw _)
 ·intro i hi;simp(disch:=omega)only[Z1,Ze,o,Zu,hd,Za,e i hi,j,Qdb]
 ·simp(disch:=omega)only[Zz]
theorem Zq2{F:Nat}(hF:400<=F){s:Qh}(h:Zh s){l:List ByteArray}(hl:l.length<=300)(a b:ByteArray):Qse F (l,s,a,b,l)=some (Qi ((C l.length).map (Vu s l))):=by
 have e:∀i,i<l.length->Qpd F ((i:Int),l.getD i I,s,a,b,l)=some (Vu s l i):=fun i hi=>by
  unfold Qpd Vu;have hi':(i:Int)<=l.length:=by omega
  simp only[Za,o,R,hi',J,decide_true,Zb,Ko hF h,Qre hF (l:=l.take i) (x:=l.getD i I) (by simp;omega),Yt,j];rw[X9 hF (by simp[Qa])];simp only[j,Qa,Qi];generalize aI s (l.getD i I)=v;generalize hasB (l.take i) (l.getD i I)=q;by_cases h1:v<0
  ·simp[h1]
  ·cases q<;>simp[h1]
 unfold Qse;refine Qab l.length (Vu s l) (by omega) (by omega) ?_ ?_ (Qcw _)
 ·intro i hi;simp(disch:=omega)only[Z1,Ze,o,Zu,Za,e i hi,j,Qdb]
 ·simp(disch:=omega)only[Zz]
theorem Yc5{F:Nat}(hF:400<=F){m:Mt}(hm:m.2.2.2.2.length<=300){s:Qh}(h:Zh s){i:Nat}(hi:i<s.2.2.2.2.length):Qqk F (s,m,(i:Int),s.2.2.2.2.getD i dT)=some (V1 m s i):=by
 have e4:∀a b c d,Qy F (a::b::c::d::Qa Int)=some (Qi [a,b,c,d]):=fun a b c d=>X9 hF (by simp[Qa]);have hlt:=Qd4 (p:=tP (s.2.2.2.2.getD i dT).1 (s.2.2.2.2.getD i dT).2.1) (Qc6 dT hi) (by simp[tP,Wr]);have hrl:=h.tn _ (Qme dT hi);unfold Qqk V1;simp only[Za,Qjn hF hm,j];generalize s.2.2.2.2.getD i dT=x at hlt hrl;have hlt:decide (tI s x.1 x.2.1<(i:Int))=_:=hlt;generalize Zl m x.2.1=ct;generalize hw:(if cI m x.2.1<0 then(Qmz,false)else(ct,true))=w;simp only[Yt,Qjp hF h,Zht hF h,e4,hlt,Zq2 hF h hrl,j];generalize ((s.2.2.2.2.take i).any (tP x.1 x.2.1))=tw;generalize Qi ((C x.2.2.length).map (Vu s x.2.2))=re;by_cases hc:cI m x.2.1<0
 ·rw[if_pos hc]at hw;subst hw;have k0:∀a b c,Qi [10,a,b,c]=10:=fun _ _ _=>by simp[Qi]
  simp[hc,k0]
 ·rw[if_neg hc]at hw;subst hw;simp only[hc,or_false,Bool.not_true,cond_false];cases hasB s.1 x.1
  ·simp[Qi]
  ·by_cases g1:ct.2.2.2.2.2.2.2.2.2.2=0
   ·simp[g1,Qi]
   ·cases tw
    ·by_cases g2:(x.2.2.length:Int)=ct.2.2.2.2.2.2.2.2.2.2
     ·simp[g1,g2,Qi]
     ·simp[g1,g2,Qi]
    ·simp[g1,Qi]
theorem Zqm{F:Nat}(hF:400<=F){m:Mt}(hm:m.2.2.2.2.length<=300){s:Qh}(h:Zh s):Qrd F (s.2.2.2.2,s,m)=some (Qi ((C s.2.2.2.2.length).map (V1 m s))):=by
 have h1:=h.t;have hd:YK=dT:=rfl;have e:∀i,i<s.2.2.2.2.length->Qo5 F ((i:Int),s.2.2.2.2.getD i dT,s,m)=some (V1 m s i):=fun i hi=>by unfold Qo5;simp only[Za,Yc5 hF hm h hi,j]
 unfold Qrd;refine Qab s.2.2.2.2.length (V1 m s) (by omega) (by omega) ?_ ?_ (Qcw _)
 ·intro i hi;simp(disch:=omega)only[Z1,Ze,o,Zu,hd,Za,e i hi,j,Qdb]
 ·simp(disch:=omega)only[Zz]
def J8(s:Qh):Prop:=256<s.1.length∨256<s.2.1.length∨256<s.2.2.1.length∨256<s.2.2.2.1.length∨256<s.2.2.2.2.length
instance (s:Qh):Decidable (J8 s):=by unfold J8;infer_instance
def stE(m:Mt)(s:Qh):Int:=
 if Z9 m=0 then(if J8 s then 5 else Qi [Qi ((C s.1.length).map (Kc s.1)),Qi ((C s.2.1.length).map (Vr s)),Qi ((C s.2.2.1.length).map (Vk s)),
  Qi ((C s.2.2.2.1.length).map (J5 m s)),Qi ((C s.2.2.2.2.length).map (V1 m s))])else Z9 m
theorem Yb3(a b:Int):(256<if a<b then b else a)↔(256<a∨256<b):=by split<;>omega
theorem l25{F:Nat}(hF:400<=F){m:Mt}(hl:m.2.2.2.2.length<=300)(hb:∀x∈m.2.2.2.2,x.1.size<=300∧x.2.2.1.size<=300){s:Qh}(h:Zh s):c25 F (m,s)=some (stE m s):=by
 have e2:∀a b,Qy F (a::b::Qa Int)=some (Qi [a,b]):=fun a b=>X9 hF (by simp[Qa]);have e5:∀a b c d e,Qy F (a::b::c::d::e::Qa Int)=some (Qi [a,b,c,d,e]):=fun a b c d e=>X9 hF (by simp[Qa]);unfold c25 stE;simp only[Za,l21 hF hl hb,Yt,e2,e5,Yrw hF h,Znk hF h,Yfj hF h,Zzp hF hl h,Zqm hF hl h,j,Yb3];have hm:((((256<(s.1.length:Int)∨256<(s.2.1.length:Int))∨256<(s.2.2.1.length:Int))∨256<(s.2.2.2.1.length:Int))∨256<(s.2.2.2.2.length:Int))↔J8 s:=by unfold J8;omega
 simp only[hm];generalize Qi [Qi ((C s.1.length).map (Kc s.1)),Qi ((C s.2.1.length).map (Vr s)),Qi ((C s.2.2.1.length).map (Vk s)),
  Qi ((C s.2.2.2.1.length).map (J5 m s)),Qi ((C s.2.2.2.2.length).map (V1 m s))]=w
 by_cases h1:Z9 m=0
 ·by_cases h2:J8 s<;>simp[h1,h2,Qi]
 ·simp[h1,Qi]
end Go.Proofs.Tryz

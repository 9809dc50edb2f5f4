/- Plain law: states, in the program and in the reference. -/
import Derived.Test.YtpkbmngnolhopaaGreatDoorXT3c
import Derived.Test.YtpkbmngnolhopaaGreatDoorXTeB1
set_option maxRecDepth 100000
set_option linter.unusedVariables false
set_option linter.unusedSimpArgs false
open Option renaming bind_some->j
open Int renaming toNat_natCast->o,natCast_nonneg->J
open List renaming range->C,drop_zero->R
open ByteArray renaming empty->I
namespace Go.Proofs.Tryz
open Go Go.Sx
theorem Qkd(n:Nat)(x:Int):Z8.eqv ((Exit.normal,({cells:=Qu.slot n (Qe.val (Ty.int IntKind.i64))::Qa Qu,owns:=Qa (Nat×Lk)}:Qm))::Qa (Exit×Qm)) x x=true:=
 Z8.eqv_rf ((Exit.normal,({cells:=Qu.slot n (Qe.val (Ty.int IntKind.i64))::Qa Qu,owns:=Qa (Nat×Lk)}:Qm))::Qa (Exit×Qm)) x
theorem Qb7(a b:ByteArray):Qc a b=Qc b a:=by rw[Zbf,Zbf];exact decide_eq_decide.2 ⟨Eq.symm,Eq.symm⟩
abbrev Ath:=Qs
abbrev Lic:=Qw
abbrev Zo:=Qi
abbrev Tm:=Qv
abbrev Qj:=List ByteArray×List Ath×List Lic×List Zo×List Tm
def dA:Ath:=Zy
def dL:Lic:=YP
def dE:Zo:=Zg
def dT:Tm:=YB
theorem Qgt{α:Type}{l:List α}{i:Nat}(d:α)(hi:i<l.length):l[i]? =some (l.getD i d):=by rw[List.getD_eq_getElem?_getD,List.getElem?_eq_getElem hi];rfl
theorem Qll{α:Type}{l:List α}{i:Nat}(d:α)(hi:i<l.length):l.getD i d∈l:=List.mem_of_getElem? (Qgt d hi)
structure Za (s:Qj):Prop where
 c:s.1.length<=300
 a:s.2.1.length<=300
 l:s.2.2.1.length<=300
 e:s.2.2.2.1.length<=300
 t:s.2.2.2.2.length<=300
 cn:∀x∈s.1,x.size<=300
 an:∀x∈s.2.1,x.1.size<=300∧x.2.2.2.size<=300
 tn:∀x∈s.2.2.2.2,x.2.2.length<=300
def aI(s:Qj)(x:ByteArray):Int:=Y9 (fun y=>Qc y.1 x) s.2.1
def eP(a c:ByteArray)(y:Zo):Bool:=Qc y.1 a&&Qc y.2.1 c
def tP(a c:ByteArray)(y:Tm):Bool:=Qc y.1 a&&Qc y.2.1 c
def eI(s:Qj)(a c:ByteArray):Int:=Y9 (eP a c) s.2.2.2.1
def tI(s:Qj)(a c:ByteArray):Int:=Y9 (tP a c) s.2.2.2.2
def cI(m:Mt)(x:ByteArray):Int:=Y9 (fun y=>Qc y.1 x) m.2.2.2.2
def hasB(l:List ByteArray)(x:ByteArray):Bool:=l.any fun y=>Qc y x
theorem Zt1(l:List ByteArray)(x:ByteArray):(l.any fun y=>Qc x y)=hasB l x:=by unfold hasB;congr 1;funext y;exact Qb7 _ _
theorem Qta{F:Nat}(hF:400<=F){l:List ByteArray}{x:ByteArray}(hl:l.length<=300):Kh F (l,x)=some (hasB l x):=by rw[Zda hF hl,Zt1]
theorem Yow{F:Nat}{l:List Ath}(hF:l.length<F)(hl:l.length<=1000)(x:ByteArray):Qp7 F (l,x)=some (Y9 (fun y=>Qc y.1 x) l):=by
 unfold Qp7;refine Qbp l _ hF ?_ ?_
 ·intro i y hi hy;simp(disch:=omega)only[Zx,Zf,o,getD_some hy,Zv];cases Qc y.1 x<;>rfl
 ·simp(disch:=omega)only[Zz]
theorem K4{F:Nat}(hF:400<=F){s:Qj}(h:Za s)(x:ByteArray):Jt F (s,x)=some (aI s x):=by unfold Jt aI;have:=h.a;simp only[Yow (F:=F) (l:=s.2.1) (by omega) (by omega),j]
theorem Qiy{F:Nat}(hF:400<=F){s:Qj}(h:Za s)(x:ByteArray):Kl F (s,x)=some (hasB s.1 x):=by unfold Kl;simp only[Qta hF h.c,j]
theorem Zya(F:Nat)(y:Zo)(a c:ByteArray):Qrw F (y,a,c)=some (eP a c y):=by unfold Qrw eP;cases Qc y.1 a<;>rfl
theorem Ymy(F:Nat)(y:Tm)(a c:ByteArray):Qqm F (y,a,c)=some (tP a c y):=by unfold Qqm tP;cases Qc y.1 a<;>rfl
theorem Yo3{F:Nat}{l:List Zo}(hF:l.length<F)(hl:l.length<=1000)(a c:ByteArray):Qpb F (l,a,c)=some (Y9 (eP a c) l):=by
 unfold Qpb;refine Qbp l _ hF ?_ ?_
 ·intro i y hi hy;simp(disch:=omega)only[Zx,Zf,o,getD_some hy,Zv,Q3,Zya,j];cases eP a c y<;>rfl
 ·simp(disch:=omega)only[Zz]
theorem Zs4{F:Nat}{l:List Tm}(hF:l.length<F)(hl:l.length<=1000)(a c:ByteArray):Qqz F (l,a,c)=some (Y9 (tP a c) l):=by
 unfold Qqz;refine Qbp l _ hF ?_ ?_
 ·intro i y hi hy;simp(disch:=omega)only[Zx,Zf,o,getD_some hy,Zv,Q3,Ymy,j];cases tP a c y<;>rfl
 ·simp(disch:=omega)only[Zz]
theorem Qjh{F:Nat}(hF:400<=F){s:Qj}(h:Za s)(a c:ByteArray):J3 F (s,a,c)=some (eI s a c):=by unfold J3 eI;have:=h.e;simp only[Yo3 (F:=F) (l:=s.2.2.2.1) (by omega) (by omega),j]
theorem Zfc{F:Nat}(hF:400<=F){s:Qj}(h:Za s)(a c:ByteArray):Qjs F (s,a,c)=some (tI s a c):=by unfold Qjs tI;have:=h.t;simp only[Zs4 (F:=F) (l:=s.2.2.2.2) (by omega) (by omega),j]
def Qup:Cst:=(YD,YD,YD,0,0,0,0,YD,0,YD,0)
def Z3(m:Mt)(x:ByteArray):Cst:=m.2.2.2.2.getD (cI m x).toNat dC
theorem Qoa{F:Nat}(hF:400<=F){m:Mt}(hl:m.2.2.2.2.length<=300)(x:ByteArray):Qcy F (m,x)=some (if cI m x<0 then(Qup,false)else(Z3 m x,true)):=by
 have hd:Zd=dC:=rfl;unfold Qcy;simp only[Zoo (F:=F) (l:=m.2.2.2.2) (by omega) (by omega),j];by_cases h:cI m x<0
 ·have h':Y9 (fun y:Cst=>Qc y.1 x) m.2.2.2.2<0:=h;simp only[h,h',decide_true,cond_true,if_true];rfl
 ·have h':¬Y9 (fun y:Cst=>Qc y.1 x) m.2.2.2.2<0:=h;obtain⟨k,y,h1,h2,h3,h4⟩:=W1 (p:=fun y:Cst=>Qc y.1 x) (l:=m.2.2.2.2) (by omega);simp only[h,h',decide_false,cond_false,if_false];unfold Z3 cI;simp(disch:=omega)only[h1,Zf,o,hd,Q3]
def Kg(l:List ByteArray)(i:Nat):Int:=if Y3 (l.getD i I)=true then(if hasB (l.take i) (l.getD i I)=true then 9 else 0)else 8
def V7(s:Qj)(i:Nat):Int:=
 if Y3 (s.2.1.getD i dA).1=true then
  (if((s.2.1.take i).any fun y=>Qc y.1 (s.2.1.getD i dA).1)=true then 9 else if hasB s.1 (s.2.1.getD i dA).2.1=true then(if Yj (s.2.1.getD i dA).2.2.1=true then 3 else if Y3 (s.2.1.getD i dA).2.2.2=true then 0 else 8)else 10)
 else 8
def Vu(s:Qj)(i:Nat):Int:=if aI s (s.2.2.1.getD i dL).1<0 then 10 else Qck (s.2.2.1.getD i dL).2.1 (s.2.2.1.getD i dL).2.2
def Wn(m:Mt)(s:Qj)(i:Nat):Int:=
 if aI s (s.2.2.2.1.getD i dE).1<0∨cI m (s.2.2.2.1.getD i dE).2.1<0 then 10 else if 0<(Z3 m (s.2.2.2.1.getD i dE).2.1).2.2.2.2.2.2.2.2.2.2 then 13
 else if(s.2.2.2.1.take i).any (eP (s.2.2.2.1.getD i dE).1 (s.2.2.2.1.getD i dE).2.1)=true then 9
 else if Jq (s.2.2.2.1.getD i dE).2.2.1 (s.2.2.2.1.getD i dE).2.2.2.1 (s.2.2.2.1.getD i dE).2.2.2.2.1=0 then(if Jo (Z3 m (s.2.2.2.1.getD i dE).2.1).2.1 (s.2.2.2.1.getD i dE).2.2.1=true then(if Yj (s.2.2.2.1.getD i dE).2.2.2.2.2.1=true then 3 else 0)else 13)
 else Jq (s.2.2.2.1.getD i dE).2.2.1 (s.2.2.2.1.getD i dE).2.2.2.1 (s.2.2.2.1.getD i dE).2.2.2.2.1
def V6(s:Qj)(l:List ByteArray)(i:Nat):Int:=if aI s (l.getD i I)<0 then 10 else if hasB (l.take i) (l.getD i I)=true then 9 else 0
def Kj(m:Mt)(s:Qj)(i:Nat):Int:=
 if hasB s.1 (s.2.2.2.2.getD i dT).1=false∨cI m (s.2.2.2.2.getD i dT).2.1<0 then 10 else if(Z3 m (s.2.2.2.2.getD i dT).2.1).2.2.2.2.2.2.2.2.2.2=0 then 13
 else if(s.2.2.2.2.take i).any (tP (s.2.2.2.2.getD i dT).1 (s.2.2.2.2.getD i dT).2.1)=true then 9
 else if((s.2.2.2.2.getD i dT).2.2.length:Int)=(Z3 m (s.2.2.2.2.getD i dT).2.1).2.2.2.2.2.2.2.2.2.2 then Qk ((C (s.2.2.2.2.getD i dT).2.2.length).map (V6 s (s.2.2.2.2.getD i dT).2.2))else 2
theorem U8{γ:Type}{step:Int->Option (Int ⊕ (Int ⊕ Unit))}{F:Nat}{k:Int ⊕ Unit->Option γ}{r:Option γ}(n:Nat)(e:Nat->Int)(hF:n<F)(hn:n<=1000)
  (hstep:∀(i:Nat),i<n->step (i:Int)=some (if e i=0 then .inl ((i:Int)+1)else .inr (.inl (e i))))
  (hend:step (n:Int)=some (.inr (.inr ())))
  (hk:k (if Qk ((C n).map e)=0 then .inr ()else .inl (Qk ((C n).map e)))=r):Option.bind (Q4 step F 0) k=r:=by
 refine Qgk (C n) e (by simpa using hF) ?_ ?_ hk
 ·intro i x hi hx;obtain rfl:=Qhy hx;exact hstep x (by simpa using hi)
 ·simpa using hend
theorem Qbz(x:Int):Sum.elim (fun(a:Int)=>some a) (fun(_:Unit)=>some (0:Int)) (if x=0 then Sum.inr ()else Sum.inl x)=some x:=by by_cases h:x=0<;>simp[h]
theorem Qdh(x:Int)(a:Int):(bif !decide (x=0)then some (Sum.inr (Sum.inl x):Int ⊕ (Int ⊕ Unit))else some (Sum.inl a))=some (if x=0 then .inl a else .inr (.inl x)):=by by_cases h:x=0<;>simp[h]
theorem Ybp{F:Nat}(hF:400<=F){s:Qj}(h:Za s){i:Nat}(hi:i<s.1.length):Qp3 F ((i:Int),s.1.getD i I,s)=some (Kg s.1 i):=by
 have h1:=h.c;unfold Qp3 Kg;have hi':(i:Int)<=s.1.length:=by omega
 simp only[o,R,hi',J,decide_true,Zh,l92 hF (h.cn _ (Qll _ hi)),Qta hF (l:=s.1.take i) (x:=s.1.getD i I) (by simp;omega),l86,j];rw[Jb hF (by simp[Qa])];simp only[j,Qa,Qk];cases Y3 (s.1.getD i I)
 ·simp
 ·cases hasB (s.1.take i) (s.1.getD i I)<;>simp
theorem Ylv{F:Nat}(hF:400<=F){s:Qj}(h:Za s):Qrx F (s.1,s)=some (Qk ((C s.1.length).map (Kg s.1))):=by
 have h1:=h.c;unfold Qrx;refine U8 s.1.length (Kg s.1) (by omega) (by omega) ?_ ?_ (Qbz _)
 ·intro i hi;simp(disch:=omega)only[Zx,Zf,o,Zv,Q3,Ybp hF h hi,j,Qdh]
 ·simp(disch:=omega)only[Zz]
theorem Zyr{F:Nat}(hF:400<=F){s:Qj}(h:Za s){i:Nat}(hi:i<s.2.1.length):Qru F ((i:Int),s.2.1.getD i dA,s)=some (V7 s i):=by
 have h1:=h.c;obtain⟨hn1,hn2⟩:=h.an _ (Qll dA hi);have e1:∀x,Ye F (x::Qa Int)=some (if Yj x=true then 3 else 0):=fun x=>by rw[l85 (by simp[Qa];omega) (by simp[Qa])];simp[Qa]
 have e5:∀a b c d e,Q2 F (a::b::c::d::e::Qa Int)=some (Qk [a,b,c,d,e]):=fun a b c d e=>Jb hF (by simp[Qa]);have hlt:=Qeg (p:=fun y:Ath=>Qc y.1 (s.2.1.getD i dA).1) (Qgt dA hi) (K9 _);unfold Qru V7 tw;simp only[Q3,l92 hF hn1,l92 hF hn2,K4 hF h,Qiy hF h,l86,e1,e5,j];rw[show decide (aI s (s.2.1.getD i dA).1<(i:Int))=_ from hlt];generalize Y3 (s.2.1.getD i dA).1=q1;generalize ((s.2.1.take i).any fun y=>Qc y.1 (s.2.1.getD i dA).1)=q2;generalize hasB s.1 (s.2.1.getD i dA).2.1=q3;generalize Yj (s.2.1.getD i dA).2.2.1=q4;generalize Y3 (s.2.1.getD i dA).2.2.2=q5;have key:Qk [if q1=true then 0 else 8,if q2=true then 9 else 0,if(!q3)=true then 10 else 0,if q4=true then 3 else 0,if q5=true then 0 else 8]=if q1=true then(if q2=true then 9 else if q3=true then(if q4=true then 3 else if q5=true then 0 else 8)else 10)else 8:=by cases q1<;>cases q2<;>cases q3<;>cases q4<;>cases q5<;>rfl
 simp only[key,j,decide_true,Bool.and_self,Zh,Vv,Qms,Qkd]
theorem Yc6{F:Nat}(hF:400<=F){s:Qj}(h:Za s):Qpu F (s.2.1,s)=some (Qk ((C s.2.1.length).map (V7 s))):=by
 have h1:=h.a;have hd:Zy=dA:=rfl;unfold Qpu;refine U8 s.2.1.length (V7 s) (by omega) (by omega) ?_ ?_ (Qbz _)
 ·intro i hi;simp(disch:=omega)only[Zx,Zf,o,Zv,hd,Q3,Zyr hF h hi,j,Qdh]
 ·simp(disch:=omega)only[Zz]
theorem Zok{F:Nat}(hF:400<=F){s:Qj}(h:Za s)(i:Nat):Qqj F ((i:Int),s.2.2.1.getD i dL,s)=some (Vu s i):=by
 unfold Qqj Vu;simp only[Q3,K4 hF h,l86,j];rw[show Qke F (s.2.2.1.getD i dL)=some (Qck (s.2.2.1.getD i dL).2.1 (s.2.2.1.getD i dL).2.2)from Yk5 hF _ _ _];simp only[j];rw[Jb hF (by simp[Qa])];simp only[j,Qa,Qk];generalize Qck (s.2.2.1.getD i dL).2.1 (s.2.2.1.getD i dL).2.2=w;generalize aI s (s.2.2.1.getD i dL).1=v;by_cases h1:v<0
 ·simp[h1]
 ·by_cases h2:w=0<;>simp[h1,h2]
theorem Zpu{F:Nat}(hF:400<=F){s:Qj}(h:Za s):Qnz F (s.2.2.1,s)=some (Qk ((C s.2.2.1.length).map (Vu s))):=by
 have h1:=h.l;have hd:YP=dL:=rfl;unfold Qnz;refine U8 s.2.2.1.length (Vu s) (by omega) (by omega) ?_ ?_ (Qbz _)
 ·intro i hi;simp(disch:=omega)only[Zx,Zf,o,Zv,hd,Q3,Zok hF h,j,Qdh]
 ·simp(disch:=omega)only[Zz]
theorem Zvh{F:Nat}(hF:400<=F){m:Mt}(hm:m.2.2.2.2.length<=300){s:Qj}(h:Za s){i:Nat}(hi:i<s.2.2.2.1.length):Qph F (s,m,(i:Int),s.2.2.2.1.getD i dE)=some (Wn m s i):=by
 have e1:∀x,Ye F (x::Qa Int)=some (if Yj x=true then 3 else 0):=fun x=>by rw[l85 (by simp[Qa];omega) (by simp[Qa])];simp[Qa]
 have e6:∀a b c d e f,Q2 F (a::b::c::d::e::f::Qa Int)=some (Qk [a,b,c,d,e,f]):=fun a b c d e f=>Jb hF (by simp[Qa]);have hlt:=Qeg (p:=eP (s.2.2.2.1.getD i dE).1 (s.2.2.2.1.getD i dE).2.1) (Qgt dE hi) (by simp[eP,K9]);unfold Qph Wn tw;simp only[Q3,Qoa hF hm,j];generalize s.2.2.2.1.getD i dE=x at hlt;have hlt:decide (eI s x.1 x.2.1<(i:Int))=_:=hlt;generalize Z3 m x.2.1=ct;generalize hw:(if cI m x.2.1<0 then(Qup,false)else(ct,true))=w;simp only[l86,l99 hF,K4 hF h,Qwj,Qjh hF h,e1,e6,hlt,j];generalize hsu:Jo w.1.2.1 x.2.2.1=su;generalize ((s.2.2.2.1.take i).any (eP x.1 x.2.1))=tw;generalize hme:Jq x.2.2.1 x.2.2.2.1 x.2.2.2.2.1=me;generalize Yj x.2.2.2.2.2.1=db;have ea:(decide (aI s x.1<0))=decide (aI s x.1<0):=rfl;by_cases hc:cI m x.2.1<0
 ·rw[if_pos hc]at hw;subst hw;have k0:∀a b c d e,Qk [10,a,b,c,d,e]=10:=fun _ _ _ _ _=>by simp[Qk]
  simp only[hc,or_true,if_true,Bool.not_false,cond_true,k0,j,decide_true,Bool.and_self,Zh,Vv,Qms,Qkd]
 ·rw[if_neg hc]at hw;subst hw;simp only[hc,or_false,Bool.not_true,cond_false];have key:Qk [if decide (aI s x.1<0)=true then 10 else 0,if decide (0<ct.2.2.2.2.2.2.2.2.2.2)=true then 13 else 0,if tw=true then 9 else 0,me,if(!su)=true then 13 else 0,if db=true then 3 else 0]
    =if aI s x.1<0 then 10 else if 0<ct.2.2.2.2.2.2.2.2.2.2 then 13 else if tw=true then 9 else if me=0 then(if su=true then(if db=true then 3 else 0)else 13)else me:=by
   by_cases g1:aI s x.1<0
   ·simp[g1,Qk]
   ·by_cases g2:0<ct.2.2.2.2.2.2.2.2.2.2
    ·simp[g1,g2,Qk]
    ·cases tw
     ·by_cases g3:me=0
      ·cases su<;>cases db<;>simp[g1,g2,g3,Qk]
      ·simp[g1,g2,g3,Qk]
     ·simp[g1,g2,Qk]
  simp only[hsu,key,j,decide_true,Bool.and_self,Zh,Vv,Qms,Qkd]
theorem Ych{F:Nat}(hF:400<=F){m:Mt}(hm:m.2.2.2.2.length<=300){s:Qj}(h:Za s):Qrd F (s.2.2.2.1,s,m)=some (Qk ((C s.2.2.2.1.length).map (Wn m s))):=by
 have h1:=h.e;have hd:Zg=dE:=rfl;have e:∀i,i<s.2.2.2.1.length->Qqx F ((i:Int),s.2.2.2.1.getD i dE,s,m)=some (Wn m s i):=fun i hi=>by unfold Qqx;simp only[Q3,Zvh hF hm h hi,j]
 unfold Qrd;refine U8 s.2.2.2.1.length (Wn m s) (by omega) (by omega) ?_ ?_ (Qbz _)
 ·intro i hi;simp(disch:=omega)only[Zx,Zf,o,Zv,hd,Q3,e i hi,j,Qdh]
 ·simp(disch:=omega)only[Zz]
theorem Yic{F:Nat}(hF:400<=F){s:Qj}(h:Za s){l:List ByteArray}(hl:l.length<=300)(a b:ByteArray):Qpy F (l,s,a,b,l)=some (Qk ((C l.length).map (V6 s l))):=by
 have e:∀i,i<l.length->Qo0 F ((i:Int),l.getD i I,s,a,b,l)=some (V6 s l i):=fun i hi=>by
  unfold Qo0 V6;have hi':(i:Int)<=l.length:=by omega
  simp only[Q3,o,R,hi',J,decide_true,Zh,K4 hF h,Qta hF (l:=l.take i) (x:=l.getD i I) (by simp;omega),l86,j];rw[Jb hF (by simp[Qa])];simp only[j,Qa,Qk];generalize aI s (l.getD i I)=v;generalize hasB (l.take i) (l.getD i I)=q;by_cases h1:v<0
  ·simp[h1]
  ·cases q<;>simp[h1]
 unfold Qpy;refine U8 l.length (V6 s l) (by omega) (by omega) ?_ ?_ (Qbz _)
 ·intro i hi;simp(disch:=omega)only[Zx,Zf,o,Zv,Q3,e i hi,j,Qdh]
 ·simp(disch:=omega)only[Zz]
theorem Yqk{F:Nat}(hF:400<=F){m:Mt}(hm:m.2.2.2.2.length<=300){s:Qj}(h:Za s){i:Nat}(hi:i<s.2.2.2.2.length):Qqa F (s,m,(i:Int),s.2.2.2.2.getD i dT)=some (Kj m s i):=by
 have e4:∀a b c d,Q2 F (a::b::c::d::Qa Int)=some (Qk [a,b,c,d]):=fun a b c d=>Jb hF (by simp[Qa]);have hlt:=Qeg (p:=tP (s.2.2.2.2.getD i dT).1 (s.2.2.2.2.getD i dT).2.1) (Qgt dT hi) (by simp[tP,K9]);have hrl:=h.tn _ (Qll dT hi);unfold Qqa Kj;simp only[Q3,Qoa hF hm,j];generalize s.2.2.2.2.getD i dT=x at hlt hrl;have hlt:decide (tI s x.1 x.2.1<(i:Int))=_:=hlt;generalize Z3 m x.2.1=ct;generalize hw:(if cI m x.2.1<0 then(Qup,false)else(ct,true))=w;simp only[l86,Qiy hF h,Zfc hF h,e4,hlt,Yic hF h hrl,j];generalize ((s.2.2.2.2.take i).any (tP x.1 x.2.1))=tw;generalize Qk ((C x.2.2.length).map (V6 s x.2.2))=re;by_cases hc:cI m x.2.1<0
 ·rw[if_pos hc]at hw;subst hw;have k0:∀a b c,Qk [10,a,b,c]=10:=fun _ _ _=>by simp[Qk]
  simp[hc,k0]
 ·rw[if_neg hc]at hw;subst hw;simp only[hc,or_false,Bool.not_true,cond_false];cases hasB s.1 x.1
  ·simp[Qk]
  ·by_cases g1:ct.2.2.2.2.2.2.2.2.2.2=0
   ·simp[g1,Qk]
   ·cases tw
    ·by_cases g2:(x.2.2.length:Int)=ct.2.2.2.2.2.2.2.2.2.2
     ·simp[g1,g2,Qk]
     ·simp[g1,g2,Qk]
    ·simp[g1,Qk]
theorem Zu6{F:Nat}(hF:400<=F){m:Mt}(hm:m.2.2.2.2.length<=300){s:Qj}(h:Za s):Qpi F (s.2.2.2.2,s,m)=some (Qk ((C s.2.2.2.2.length).map (Kj m s))):=by
 have h1:=h.t;have hd:YB=dT:=rfl;have e:∀i,i<s.2.2.2.2.length->Qrk F ((i:Int),s.2.2.2.2.getD i dT,s,m)=some (Kj m s i):=fun i hi=>by unfold Qrk;simp only[Q3,Yqk hF hm h hi,j]
 unfold Qpi;refine U8 s.2.2.2.2.length (Kj m s) (by omega) (by omega) ?_ ?_ (Qbz _)
 ·intro i hi;simp(disch:=omega)only[Zx,Zf,o,Zv,hd,Q3,e i hi,j,Qdh]
 ·simp(disch:=omega)only[Zz]
def Wm(s:Qj):Prop:=256<s.1.length∨256<s.2.1.length∨256<s.2.2.1.length∨256<s.2.2.2.1.length∨256<s.2.2.2.2.length
instance (s:Qj):Decidable (Wm s):=by unfold Wm;infer_instance
def Yi(m:Mt)(s:Qj):Int:=
 if Yg m=0 then(if Wm s then 5 else Qk [Qk ((C s.1.length).map (Kg s.1)),Qk ((C s.2.1.length).map (V7 s)),Qk ((C s.2.2.1.length).map (Vu s)),
  Qk ((C s.2.2.2.1.length).map (Wn m s)),Qk ((C s.2.2.2.2.length).map (Kj m s))])else Yg m
theorem Qbn(a b:Int):(256<if a<b then b else a)↔(256<a∨256<b):=by split<;>omega
theorem l25{F:Nat}(hF:400<=F){m:Mt}(hl:m.2.2.2.2.length<=300)(hb:∀x∈m.2.2.2.2,x.1.size<=300∧x.2.2.1.size<=300){s:Qj}(h:Za s):c25 F (m,s)=some (Yi m s):=by
 have e2:∀a b,Q2 F (a::b::Qa Int)=some (Qk [a,b]):=fun a b=>Jb hF (by simp[Qa]);have e5:∀a b c d e,Q2 F (a::b::c::d::e::Qa Int)=some (Qk [a,b,c,d,e]):=fun a b c d e=>Jb hF (by simp[Qa]);unfold c25 Yi;simp only[Q3,l21 hF hl hb,l86,e2,e5,Ylv hF h,Yc6 hF h,Zpu hF h,Ych hF hl h,Zu6 hF hl h,j,Qbn];have hm:((((256<(s.1.length:Int)∨256<(s.2.1.length:Int))∨256<(s.2.2.1.length:Int))∨256<(s.2.2.2.1.length:Int))∨256<(s.2.2.2.2.length:Int))↔Wm s:=by unfold Wm;omega
 simp only[hm];generalize Qk [Qk ((C s.1.length).map (Kg s.1)),Qk ((C s.2.1.length).map (V7 s)),Qk ((C s.2.2.1.length).map (Vu s)),
  Qk ((C s.2.2.2.1.length).map (Wn m s)),Qk ((C s.2.2.2.2.length).map (Kj m s))]=w
 by_cases h1:Yg m=0
 ·by_cases h2:Wm s<;>simp[h1,h2,Qk]
 ·simp[h1,Qk]
end Go.Proofs.Tryz

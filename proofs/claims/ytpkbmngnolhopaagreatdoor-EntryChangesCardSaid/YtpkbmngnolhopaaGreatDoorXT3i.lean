/- Plain law: marks compared, in the program and in the reference. Plain law: entries in order, in the program and in the reference. And further parts. -/
import Derived.Test.YtpkbmngnolhopaaGreatDoorXT3f
import Derived.Test.YtpkbmngnolhopaaGreatDoorXTeB2
import Derived.Test.YtpkbmngnolhopaaGreatDoorXTeB3
set_option maxRecDepth 100000
set_option linter.unusedVariables false
set_option linter.unusedSimpArgs false
open Option renaming bind_some->I
open Bool renaming and_self->J,false_eq_true->ZL,or_eq_true->ZQ,not_false->ZR,not_true->ZS
open Int renaming toNat_natCast->U
open List renaming mem_of_mem_take->ZA,getElem?_eq_getElem->ZB,length_drop->ZC,drop->ZD,getD_eq_getElem?_getD->ZE,drop_zero->ZF,drop_eq_getElem_cons->ZG,take_length->ZH,take_append_drop->ZI,length_filter_le->ZJ,mem_of_getElem?->ZK,length_append->ZM,take_add_one->ZN,perm_middle->ZO,append_nil->ZP
namespace Go.Proofs.Tryz
open Go Go.Sx
abbrev Mk:=ByteArray×Int×ByteArray
theorem Ygw:(YL:ByteArray)=kL:=rfl
theorem Ypq:(YN:ByteArray)=kP:=rfl
theorem Zam:(YK:ByteArray)=kT:=rfl
theorem Zkj:(YM:ByteArray)=kN:=rfl
def wM(k:ByteArray)(v:Int):Int:=if Qc k kT=true then-v else if Qc k kL=true then v else if Qc k kP=true then v else-864000000
def Wg(a b:Int):Int:=if b<a then-1 else if a<b then 1 else 0
def Jp(x:Mk):Prop:=Jv x.1 x.2.1 x.2.2=0
def kindOk(x:Mk):Prop:=Qc x.1 kN=true∨Qc x.1 kT=true∨Qc x.1 kL=true∨Qc x.1 kP=true
theorem Yo8{x:Mk}(h:Jp x):kindOk x:=by
 unfold Jp Jv at h;unfold kindOk;by_cases h1:Qc x.1 kN=true
 ·exact .inl h1
 ·by_cases h2:Qc x.1 kT=true
  ·exact .inr (.inl h2)
  ·by_cases h3:Qc x.1 kL=true
   ·exact .inr (.inr (.inl h3))
   ·by_cases h4:Qc x.1 kP=true
    ·exact .inr (.inr (.inr h4))
    ·rw[if_neg h1,if_neg h2,if_neg h3,if_neg h4]at h;cases h
theorem Qta{a b k:ByteArray}(h:Qc k a=true)(hab:Qc a b=false):Qc k b=false:=by rw[Yy]at h;rw[h];exact hab
theorem Zaz(F:Nat){k:ByteArray}{v:Int}(r:ByteArray)(hv:-999999999<=v∧v<=999999999):Ql7 F (k,v,r)=some (wM k v):=by
 unfold Ql7 tw;have hw:IntKind.wrap IntKind.i64 (0-v)= -v:=by rw[show IntKind.wrap IntKind.i64 (0-v)=w64 (0-v)from rfl,Zy (by omega) (by omega)];omega
 simp only[hw,Zam,Ygw,Ypq];have g:∀x:Int,gd (Qt.eqv (Qe.val (Ty.int Go.IntKind.i64)::Qa Qe) x x) (some x)=some x:=by
  intro x;have:Qt.eqv (Qe.val (Ty.int Go.IntKind.i64)::Qa Qe) x x=true:=by change Up x x=true;simp[Up]
  rw[this];rfl
 unfold wM;cases Qc k kT<;>cases Qc k kL<;>cases Qc k kP<;>simp[g]
theorem Qnk{x:Mk}(h:Jp x):0<=x.2.1∧x.2.1<=863999999:=by
 unfold Jp Jv at h;split at h
 ·split at h
  ·cases h
  ·split at h
   ·cases h
   ·rename_i h3;have:x.2.1=0:=by simpa using h3
    omega
 ·split at h
  ·split at h
   ·cases h
   ·split at h
    ·cases h
    ·omega
  ·split at h
   ·split at h
    ·cases h
    ·split at h
     ·cases h
     ·omega
   ·split at h
    ·split at h
     ·cases h
     ·split at h
      ·cases h
      ·omega
    ·cases h
def wE(x:Mk):Int:=wM x.1 x.2.1
def Qdx(x y:Mk):Prop:=Qc x.1 kN=true∨Qc y.1 kN=true∨Qc x.1 y.1=true
theorem Yjp(F:Nat){x y:Mk}(hx:Jp x)(hy:Jp y):Qo1 F (x,y)=some (Wg (wE x) (wE y)):=by
 unfold Qo1 Wg wE;obtain⟨a1,a2⟩:=Qnk hx;obtain⟨b1,b2⟩:=Qnk hy;simp only[Zaz F _ (show-999999999<=x.2.1∧x.2.1<=999999999 by omega),Zaz F _ (show-999999999<=y.2.1∧y.2.1<=999999999 by omega),I];by_cases h1:wM y.1 y.2.1<wM x.1 x.2.1
 ·rw[Z3 h1,if_pos h1]
 ·rw[Z0 h1,if_neg h1];by_cases h2:wM x.1 x.2.1<wM y.1 y.2.1
  ·rw[Z3 h2,if_pos h2]
  ·rw[Z0 h2,if_neg h2]
theorem Yjd(F:Nat){x y:Mk}(h:Qdx x y):Qqp F (x,y)=some false:=by unfold Qqp;simp only[Zkj];unfold Qdx at h;cases h1:Qc x.1 y.1<;>cases h2:Qc x.1 kN<;>cases h3:Qc y.1 kN<;>simp_all
theorem Zcc{F:Nat}(hF:400<=F){x y:Mk}(hx:Jp x)(hy:Jp y)(h:Qdx x y):Qi8 F (x,y)=some (Wg (wE x) (wE y),0):=by
 unfold Qi8;have q:∀(a b c:Int),Vb F (a::b::c::Qa Int)=some (Qn [a,b,c]):=by intro a b c;rw[Qvq (by simp[Qa];omega) (by simp[Qa])];rfl
 have hx':=hx;have hy':=hy;unfold Jp at hx' hy';simp only[Zj,l99 hF,Yjd F h,Zf5,q,hx',hy',I,Yjp F hx hy];rfl
theorem kinds{x:Mk}(h:Jp x):(Qc x.1 kN=true∧wE x= -864000000)∨(Qc x.1 kN=false∧Qc x.1 kT=true∧wE x= -x.2.1)∨(Qc x.1 kN=false∧Qc x.1 kT=false∧wE x=x.2.1):=by
 have hk:=Yo8 h;unfold kindOk at hk;unfold wE wM;cases hN:Qc x.1 kN with
 |true=>left;refine⟨rfl,?_⟩;rw[if_neg (by rw[Qta hN rfl];simp),if_neg (by rw[Qta hN rfl];simp),if_neg (by rw[Qta hN rfl];simp)]
 |false=>
  right;cases hT:Qc x.1 kT with
  |true=>left;exact⟨rfl,rfl,by rw[if_pos rfl]⟩
  |false=>
   right;refine⟨rfl,rfl,?_⟩;rw[if_neg (by simp)];rcases hk with hk|hk|hk|hk
   ·rw[hk]at hN;cases hN
   ·rw[hk]at hT;cases hT
   ·rw[if_pos hk]
   ·by_cases hL:Qc x.1 kL=true
    ·rw[if_pos hL]
    ·rw[if_neg hL,if_pos hk]
theorem l57(F:Nat){x y:Mk}(hx:Jp x)(hy:Jp y)(h:Qdx x y):c57 F (x,y)=some (Wg (wE x) (wE y)):=by
 unfold c57;obtain⟨a1,a2⟩:=Qnk hx;obtain⟨b1,b2⟩:=Qnk hy;simp only[Zkj,Zam];have ne1:Qc x.1 kN=true->Qc y.1 kN=false->Qc x.1 y.1=false:=fun p q=>by
  cases e:Qc x.1 y.1 with
  |false=>rfl
  |true=>rw[Yy]at e;rw[<-e,p]at q;cases q
 have ne2:Qc x.1 kN=false->Qc y.1 kN=true->Qc x.1 y.1=false:=fun p q=>by
  cases e:Qc x.1 y.1 with
  |false=>rfl
  |true=>rw[Yy]at e;rw[<-e,p]at q;cases q
 have fin:∀a b:Int,(bif decide (b<a)then some (-1:Int)else bif decide (a<b)then some 1 else some 0)=some (Wg a b):=by
  intro a b;unfold Wg;by_cases h1:b<a
  ·rw[if_pos h1,Z3 h1]
  ·rw[if_neg h1,Z0 h1];by_cases h2:a<b
   ·rw[if_pos h2,Z3 h2]
   ·rw[if_neg h2,Z0 h2]
 rcases kinds hx with⟨p1,p2⟩|⟨p1,p3,p2⟩|⟨p1,p3,p2⟩
 ·rcases kinds hy with⟨q1,q2⟩|⟨q1,q3,q2⟩|⟨q1,q3,q2⟩
  ·have:Qc x.1 y.1=true:=by rw[Yy]at p1 q1⊢;rw[p1,q1]
   simp[p1,this,Wg,p2,q2]
  ·have h1:¬wE y<wE x:=by omega
   have h2:wE x<wE y:=by omega
   simp[p1,ne1 p1 q1,q1,Wg,h1,h2]
  ·have h1:¬wE y<wE x:=by omega
   have h2:wE x<wE y:=by omega
   simp[p1,ne1 p1 q1,q1,Wg,h1,h2]
 ·rcases kinds hy with⟨q1,q2⟩|⟨q1,q3,q2⟩|⟨q1,q3,q2⟩
  ·have h1:wE y<wE x:=by omega
   simp[p1,ne2 p1 q1,q1,Wg,h1]
  ·simp only[p1,q1,p3,cond_false,cond_true,I];rw[fin,p2,q2];unfold Wg;congr 1
   (repeat' split)<;>omega
  ·exfalso;rcases h with h|h|h
   ·rw[h]at p1;cases p1
   ·rw[h]at q1;cases q1
   ·rw[Yy]at h;rw[<-h,p3]at q3;cases q3
 ·rcases kinds hy with⟨q1,q2⟩|⟨q1,q3,q2⟩|⟨q1,q3,q2⟩
  ·have h1:wE y<wE x:=by omega
   simp[p1,ne2 p1 q1,q1,Wg,h1]
  ·exfalso;rcases h with h|h|h
   ·rw[h]at p1;cases p1
   ·rw[h]at q1;cases q1
   ·rw[Yy]at h;rw[<-h,p3]at q3;cases q3
  ·simp only[p1,q1,p3,cond_false,cond_true,I];rw[fin,p2,q2]
def mkE(x:Qq):Mk:=(x.2.2.1,x.2.2.2.1,x.2.2.2.2.1)
def dyE(x:Qq):Int:=x.2.2.2.2.2.1
def ltE(x y:Qq):Bool:=decide (wE (mkE y)<wE (mkE x))||(decide (wE (mkE x)=wE (mkE y))&&decide (dyE x<dyE y))
structure Qye (x y:Qq):Prop where
 mx:Jp (mkE x)
 my:Jp (mkE y)
 k:Qdx (mkE x) (mkE y)
 dx:0<=dyE x∧dyE x<=99999
 dy:0<=dyE y∧dyE y<=99999
theorem Zlh{F:Nat}(hF:400<=F){x y:Qq}(h:Qye x y):∃v,Qox F (x,y)=some v∧decide (v<0)=ltE x y:=by
 unfold Qox;have e:=Zcc hF h.mx h.my h.k;simp only[mkE]at e;simp only[e,I];have d1:=h.dx;have d2:=h.dy;have e2:w64 (x.2.2.2.2.2.1-y.2.2.2.2.2.1)=dyE x-dyE y:=by unfold dyE at d1 d2⊢;rw[Zy (by omega) (by omega)]
 unfold Wg ltE;simp only[mkE]at*;by_cases h1:wE (y.2.2.1,y.2.2.2.1,y.2.2.2.2.1)<wE (x.2.2.1,x.2.2.2.1,x.2.2.2.2.1)
 ·refine⟨-1,?_,?_⟩<;>simp[h1]
 ·by_cases h2:wE (x.2.2.1,x.2.2.2.1,x.2.2.2.2.1)<wE (y.2.2.1,y.2.2.2.1,y.2.2.2.2.1)
  ·refine⟨1,?_,?_⟩
   ·simp[h1,h2]
   ·have:¬wE (x.2.2.1,x.2.2.2.1,x.2.2.2.2.1)=wE (y.2.2.1,y.2.2.2.1,y.2.2.2.2.1):=by omega
    simp[h1,this]
  ·have h3:wE (x.2.2.1,x.2.2.2.1,x.2.2.2.2.1)=wE (y.2.2.1,y.2.2.2.1,y.2.2.2.2.1):=by omega
   refine⟨dyE x-dyE y,?_,?_⟩
   ·simp[h3,e2]
   ·by_cases h4:dyE x<dyE y
    ·have:dyE x-dyE y<0:=by omega
     simp[h3,h4,this]
    ·have:¬dyE x-dyE y<0:=by omega
     simp[h3,h4,this]
theorem Zc1(F:Nat){x y:Qq}(h:Qye x y):Qp8 F (x,y)=some (!ltE y x):=by
 unfold Qp8;have e:=l57 F h.mx h.my h.k;simp only[mkE]at e;simp only[e,I];unfold Wg ltE;simp only[mkE,dyE]at*;by_cases h1:wE (y.2.2.1,y.2.2.2.1,y.2.2.2.2.1)<wE (x.2.2.1,x.2.2.2.1,x.2.2.2.2.1)
 ·have h2:¬wE (x.2.2.1,x.2.2.2.1,x.2.2.2.2.1)<wE (y.2.2.1,y.2.2.2.1,y.2.2.2.2.1):=by omega
  have h3:¬wE (y.2.2.1,y.2.2.2.1,y.2.2.2.2.1)=wE (x.2.2.1,x.2.2.2.1,x.2.2.2.2.1):=by omega
  simp[h1,h2,h3]
 ·by_cases h2:wE (x.2.2.1,x.2.2.2.1,x.2.2.2.2.1)<wE (y.2.2.1,y.2.2.2.1,y.2.2.2.2.1)
  ·simp[h1,h2]
  ·have h3:wE (y.2.2.1,y.2.2.2.1,y.2.2.2.2.1)=wE (x.2.2.1,x.2.2.2.1,x.2.2.2.2.1):=by omega
   by_cases h4:x.2.2.2.2.2.1<=y.2.2.2.2.2.1
   ·have h5:¬y.2.2.2.2.2.1<x.2.2.2.2.2.1:=by omega
    simp[h1,h2,h3,h4,h5]
   ·have h5:y.2.2.2.2.2.1<x.2.2.2.2.2.1:=by omega
    simp[h1,h2,h3,h4,h5]
theorem tE:Q8=dE:=rfl
def Xl(x:Qq)(l:List Qq):Nat->Nat
 |0=>0
 |n+1=>if ltE x (l.getD n dE)=true then Xl x l n else n+1
theorem Zkt(x:Qq)(l:List Qq):∀n,Xl x l n<=n
 |0=>Nat.le_refl _
 |n+1=>by
  unfold Xl;split
  ·have:=Zkt x l n;omega
  ·exact Nat.le_refl _
def Qbb(l:List Qq)(x:Qq):List Qq:=l.take (Xl x l l.length)++x::l.drop (Xl x l l.length)
def Z6(l:List Qq):List Qq:=l.foldl Qbb []
theorem Ye5(l:List Qq)(x:Qq):(Qbb l x).Perm (x::l):=by unfold Qbb;refine ZO.trans ?_;rw[ZI]
theorem Zcy:∀(l o:List Qq),(l.foldl Qbb o).Perm (l++o)
 |[],o=>List.Perm.refl _
 |x::l,o=>by rw[List.foldl_cons];refine(Zcy l (Qbb o x)).trans ?_;refine(List.Perm.append_left l (Ye5 o x)).trans ?_;exact ZO
theorem Qgc(l:List Qq):(Z6 l).Perm l:=by have:=Zcy l [];rw[ZP]at this;exact this
theorem Qd3(l:List Qq):(Z6 l).length=l.length:=(Qgc l).length_eq
theorem Ykr(l:List Qq)(x:Qq):Z6 (l++[x])=Qbb (Z6 l) x:=by unfold Z6;rw[List.foldl_append];rfl
theorem Zi0{l:List Qq}{i:Nat}{x:Qq}(h:l[i]? =some x):Z6 (l.take (i+1))=Qbb (Z6 (l.take i)) x:=by rw[ZN,h];exact Ykr _ _
def Ko(l:List Qq):Prop:=∀x∈l,∀y∈l,Qye x y
theorem Ko.take{l:List Qq}(h:Ko l)(i:Nat):Ko (l.take i):=fun x hx y hy=>h x (ZA hx) y (ZA hy)
theorem Za6{A R:List Qq}{y x:Qq}{j:Nat}(h:A.length=j):(A++y::x::R).getD (j+1) dE=x:=by rw[ZE,List.getElem?_append_right (by omega),show j+1-A.length=1 by omega];rfl
theorem Ylt{A R:List Qq}{y x:Qq}{j:Nat}(h:A.length=j):((A++y::x::R).set (j+1) y).set j x=A++x::y::R:=by
 have e:A++y::x::R=(A++[y])++x::R:=by simp
 rw[e,Zgc (by simp[h]),show(A++[y])++y::R=A++y::(y::R)by simp,Zgc h]
theorem Ygh{P:List Qq}{j:Nat}(h:j<P.length):P.take (j+1)=P.take j++[P.getD j dE]:=by rw[ZN,Zda dE h];rfl
theorem Zta{P:List Qq}{j:Nat}(h:j<P.length):P.drop j=P.getD j dE::P.drop (j+1):=by rw[ZG h,ZE,ZB h];rfl
theorem Yqy{P R:List Qq}{x:Qq}{n:Nat}(h:P.length=n):P++x::R=P.take n++x::(P.drop n++R):=by subst h;simp
theorem Zee{step:List Qq×Int->Option ((List Qq×Int) ⊕ List Qq)}{x:Qq}{P R:List Qq}
  (hstep:∀j,j<P.length->ltE x (P.getD j dE)=true->step (P.take j++P.getD j dE::x::(P.drop (j+1)++R),((j+1:Nat):Int))=some (.inl (P.take j++x::P.getD j dE::(P.drop (j+1)++R),(j:Int))))
  (hstop:∀j,j<P.length->ltE x (P.getD j dE)=false->step (P.take j++P.getD j dE::x::(P.drop (j+1)++R),((j+1:Nat):Int))=some (.inr (P.take j++P.getD j dE::x::(P.drop (j+1)++R))))
  (h0:step (x::(P++R),((0:Nat):Int))=some (.inr (x::(P++R)))):
  ∀(j F:Nat),j<=P.length->j<F->Qw step F (P.take j++x::(P.drop j++R),(j:Int))=some (P.take (Xl x P j)++x::(P.drop (Xl x P j)++R))
 |0,F,hj,hF=>by obtain⟨G,rfl⟩:∃G,F=G+1:=⟨F-1,by omega⟩;simp only[Qw,List.take_zero,ZF,List.nil_append,h0,Xl]
 |j+1,F,hj,hF=>by
  obtain⟨G,rfl⟩:∃G,F=G+1:=⟨F-1,by omega⟩;have e:P.take (j+1)++x::(P.drop (j+1)++R)=P.take j++P.getD j dE::x::(P.drop (j+1)++R):=by rw[Ygh (by omega)];simp
  rw[e];cases h:ltE x (P.getD j dE)with
  |true=>
   simp only[Qw,hstep j (by omega) h];have e2:P.take j++x::P.getD j dE::(P.drop (j+1)++R)=P.take j++x::(P.drop j++R):=by rw[Zta (show j<P.length by omega)];simp
   rw[e2,Zee hstep hstop h0 j G (by omega) (by omega)];simp only[Xl,h,if_true]
  |false=>simp only[Qw,hstop j (by omega) h,Xl,h,ZL,if_false];rw[<-e]
theorem Zjq{F:Nat}(hF:400<=F){L:List Qq}(hl:L.length<=300)(h:Ko L):Qbo F (0,(L.length:Int),L)=some (Z6 L):=by
 unfold Qbo;have e1:w64 (0+1)=1:=Zy (by omega) (by omega);simp only[tE,Zj,e1,Nat.zero_add];by_cases hn:L.length=0
 ·obtain rfl:L=[]:=List.eq_nil_of_length_eq_zero hn;obtain⟨G,rfl⟩:∃G,F=G+1:=⟨F-1,by omega⟩;simp(disch:=decide)only[Qw,Z0,List.length_nil,Int.natCast_zero,I];rfl
 refine Jl (L.drop 1) (fun(_:Unit) i=>(Z6 (L.take (i+1))++L.drop (i+1),((i+1:Nat):Int))) (fun _ _=>(.inl ():Unit ⊕ List Qq)) (fun _=>Z6 L) (fun _ _=>True) () (by rw[ZC];omega) ?_ trivial ?_ ?_ ?_
 ·show(L,((1:Nat):Int))=_;have:L.take 1++L.drop 1=L:=ZI 1 L;rw[Nat.zero_add];congr 1;cases L with
  |nil=>rfl
  |cons y t=>rfl
 ·intro i x _ hi hx _;refine⟨?_,fun _ _=>trivial⟩;rw[ZC]at hi;rw[List.getElem?_drop,Nat.add_comm 1 i]at hx;have hx':L[i+1]? =some x:=hx;have hP:(Z6 (L.take (i+1))).length=i+1:=by rw[Qd3];exact Qmv (by omega)
  have hd:L.drop (i+1)=x::L.drop (i+1+1):=by rw[ZG (show i+1<L.length by omega)];congr 1;rw[ZB (show i+1<L.length by omega)]at hx';exact Option.some.inj hx'
  have hmem:∀j,j<i+1->(Z6 (L.take (i+1))).getD j dE∈L:=fun j hj=>
   ZA ((Qgc _).mem_iff.1 (Zh9 dE (by omega)))
  have hxm:x∈L:=ZK hx';have hlen:∀j,j<i+1->∀a b:Qq,((Z6 (L.take (i+1))).take j++a::b::((Z6 (L.take (i+1))).drop (j+1)++L.drop (i+1+1))).length=L.length:=fun j hj a b=>by simp only[ZM,List.length_cons,List.length_take,ZC,hP];omega
  have htl:∀j,j<i+1->((Z6 (L.take (i+1))).take j).length=j:=fun j hj=>Qmv (by omega);simp(disch:=omega)only[Z3];rw[Zi0 hx',hd];rw[Yqy (R:=L.drop (i+1+1)) (x:=x) hP];rw[Zee (x:=x) (P:=Z6 (L.take (i+1))) (R:=L.drop (i+1+1)) ?_ ?_ ?_ (i+1) F (by omega) (by omega)]
  ·simp(disch:=omega)only[I,Zy];have:Qbb (Z6 (L.take (i+1))) x=(Z6 (L.take (i+1))).take (Xl x (Z6 (L.take (i+1))) (i+1))++x::(Z6 (L.take (i+1))).drop (Xl x (Z6 (L.take (i+1))) (i+1)):=by unfold Qbb;rw[hP]
   rw[this,List.append_assoc];rfl
  ·intro j hj hlt;rw[hP]at hj;obtain⟨v,hv1,hv2⟩:=Zlh hF (h x hxm _ (hmem j hj));rw[hlt]at hv2;have hw:w64 (((j+1:Nat):Int)-1)=(j:Int):=by rw[Zy (by omega) (by omega)];omega
   have:=hlen j hj;simp(disch:=first|omega|(rw[hlen j hj];omega)|(rw[List.length_set,hlen j hj];omega))only[Z3,Zf,hw,U,Za6 (htl j hj),Zhn (htl j hj),hv1,hv2,I,cond_true,Ylt (htl j hj)]
  ·intro j hj hlt;rw[hP]at hj;obtain⟨v,hv1,hv2⟩:=Zlh hF (h x hxm _ (hmem j hj));rw[hlt]at hv2;have hw:w64 (((j+1:Nat):Int)-1)=(j:Int):=by rw[Zy (by omega) (by omega)];omega
   have:=hlen j hj;simp(disch:=first|omega|(rw[hlen j hj];omega))only[Z3,Zf,hw,U,Za6 (htl j hj),Zhn (htl j hj),hv1,hv2,I,cond_false]
  ·simp(disch:=omega)only[Z0,I,cond_false]
 ·intro _ _;rw[ZC];simp(disch:=omega)only[Z0];rw[show L.length-1+1=L.length by omega,ZH,List.drop_length,ZP]
 ·rw[Qyu]
theorem Zr5{F:Nat}(hF:400<=F){a n:Int}(ha:0<=a∧a<=1000)(hn:n<=a+1)(L:List Qq):Qbo F (a,n,L)=some L:=by unfold Qbo;obtain⟨G,rfl⟩:∃G,F=G+1:=⟨F-1,by omega⟩;simp(disch:=omega)only[Qw,Zy,Z0,I]
theorem Zos{F:Nat}(hF:400<=F){L:List Qq}(hl:L.length<=20)(h:Ko L):Qro F ((L.length:Int),L)=some (Z6 L):=by
 unfold Qro;obtain⟨G,hG⟩:∃G,F=G+2:=⟨F-2,by omega⟩;by_cases h20:L.length=20
 ·have hs:(Z6 L).length=L.length:=Qd3 L;have e1:=Zjq hF (show L.length<=300 by omega) h;rw[h20]at e1;have e1:Qbo F (0,20,L)=some (Z6 L):=e1;have hw:w64 (20+20)=40:=Zy (by omega) (by omega);have hl1:∀(step:List Qq×Int×Int->Option ((List Qq×Int×Int) ⊕ (List Qq×Int))),step (L,0,20)=some (.inl (Z6 L,20,40))->step (Z6 L,20,40)=some (.inr (Z6 L,20))->Qw step F (L,0,20)=some (Z6 L,20):=fun step q1 q2=>by rw[hG];simp only[Qw,q1,q2]
  rw[hl1]
  ·have e2:=Zr5 hF (a:=20) (n:=20) (by omega) (by omega) (Z6 L);simp only[h20,hs,decide_true,J,Q3,I];have e3:Qbo F (20,((20:Nat):Int),Z6 L)=some (Z6 L):=e2;simp only[e3,I];have hl2:∀(step:List Qq×Int->Option ((List Qq×Int) ⊕ List Qq)),step (Z6 L,20)=some (.inr (Z6 L))->Qw step F (Z6 L,20)=some (Z6 L):=fun step q=>by rw[hG];simp only[Qw,q]
   rw[hl2]
   ·rfl
   ·simp(disch:=omega)only[Z0]
  ·simp(disch:=omega)only[Z3,h20,decide_true,J,Q3,I,e1,hw]
  ·simp(disch:=omega)only[Z0,h20]
 ·have hs:(Z6 L).length=L.length:=Qd3 L;have e1:=Zjq hF (show L.length<=300 by omega) h;have hl1:∀(step:List Qq×Int×Int->Option ((List Qq×Int×Int) ⊕ (List Qq×Int))),step (L,0,20)=some (.inr (L,0))->Qw step F (L,0,20)=some (L,0):=fun step q1=>by rw[hG];simp only[Qw,q1]
  rw[hl1]
  ·simp only[decide_true,J,Q3,I,e1];have hl2:∀(step:List Qq×Int->Option ((List Qq×Int) ⊕ List Qq)),step (Z6 L,20)=some (.inr (Z6 L))->Qw step F (Z6 L,20)=some (Z6 L):=fun step q=>by rw[hG];simp only[Qw,q]
   rw[hl2]
   ·rfl
   ·simp(disch:=omega)only[Z0]
  ·simp(disch:=omega)only[Z0]
theorem Yrk{F:Nat}(hF:400<=F){L:List Qq}(hl:L.length<=20)(h:Ko L):Qo9 F L=some (Z6 L):=by unfold Qo9;simp only[decide_true,J,Q3,I,Zos hF hl h]
def V0(s:Qi)(c:ByteArray):List Qq:=s.2.2.2.1.filter fun e=>Qc e.2.1 c
def X5(s:Qi)(c:ByteArray):List Qq:=Z6 (V0 s c)
theorem l139{F:Nat}(hF:400<=F){s:Qi}(hS:Zr s){c:ByteArray}(hl:(V0 s c).length<=20)(h:Ko (V0 s c)):Qd5 F (s,c)=some (X5 s c):=by
 have e:∀y:Qq,y::Qa Qq=[y]:=fun _=>rfl;have h1:=hS.e;unfold Qd5;simp only[tE,Zj];refine Zle s.2.2.2.1 (fun x=>Qc x.2.1 c) (fun x=>x) (by omega) ?_ ?_ ?_
 ·intro i x out hi hx ho;have hl2:(out++[x]).length<=301:=by simp;omega
  simp(disch:=omega)only[Z3,Zf,U,getD_some hx,Zy,e,decide_true,J,Q3,I];cases Qc x.2.1 c
  ·simp[Q3]
  ·simp only[cond_true,if_true,I]
 ·intro out ho;simp(disch:=omega)only[Z0,decide_true,J,Q3,I]
 ·intro _;rw[List.map_id'];have hs:=Qd3 (V0 s c);have e2:=Yrk hF hl h;unfold V0 at hs e2 h hl;simp only[decide_true,J,Q3,I,e2,Nat.zero_add,hs,Nat.le_refl,ZF];rw[<-hs,ZH];rfl
theorem Zd9{step:Int->Option (Int ⊕ Int)}{x:Qq}{P:List Qq}
  (hstep:∀j,j<P.length->ltE x (P.getD j dE)=true->step ((j+1:Nat):Int)=some (.inl (j:Int)))
  (hstop:∀j,j<P.length->ltE x (P.getD j dE)=false->step ((j+1:Nat):Int)=some (.inr ((j+1:Nat):Int)))
  (h0:step ((0:Nat):Int)=some (.inr ((0:Nat):Int))):∀(j F:Nat),j<=P.length->j<F->Qw step F (j:Int)=some ((Xl x P j:Nat):Int)
 |0,F,hj,hF=>by obtain⟨G,rfl⟩:∃G,F=G+1:=⟨F-1,by omega⟩;simp only[Qw,h0,Xl]
 |j+1,F,hj,hF=>by
  obtain⟨G,rfl⟩:∃G,F=G+1:=⟨F-1,by omega⟩;cases h:ltE x (P.getD j dE)with
  |true=>simp only[Qw,hstep j (by omega) h];rw[Zd9 hstep hstop h0 j G (by omega) (by omega)];simp only[Xl,h,if_true]
  |false=>simp only[Qw,hstop j (by omega) h,Xl,h,ZL,if_false]
theorem Ynx{F:Nat}(hF:400<=F){L:List Qq}(hl:L.length<=300)(h:Ko L):Qod F L=some (Z6 L):=by
 have e:∀y:Qq,y::Qa Qq=[y]:=fun _=>rfl;unfold Qod;simp only[tE,Zj,Nat.zero_add];refine Jl L (fun(_:Unit) i=>(Z6 (L.take i),(i:Int))) (fun _ _=>(.inl ():Unit ⊕ List Qq)) (fun _=>Z6 L) (fun _ _=>True) () (by omega) rfl trivial ?_ ?_ ?_
 ·intro i x _ hi hx _;refine⟨?_,fun _ _=>trivial⟩;have hP:(Z6 (L.take i)).length=i:=by rw[Qd3];exact Qmv (by omega)
  have hmem:∀j,j<i->(Z6 (L.take i)).getD j dE∈L:=fun j hj=>
   ZA ((Qgc _).mem_iff.1 (Zh9 dE (by omega)))
  have hxm:x∈L:=ZK hx;have hp:=Zkt x (Z6 (L.take i)) i;have hti:=Zi0 hx;unfold Qbb at hti;rw[hP]at hti;generalize Z6 (L.take i)=P at hP hmem hp hti;simp(disch:=omega)only[Z3];rw[show((P.length:Nat):Int)=((i:Nat):Int)by rw[hP]];rw[Zd9 (x:=x) (P:=P) ?_ ?_ ?_ i F (by omega) (by omega)]
  ·have n1:(P.take (Xl x P i)).length=Xl x P i:=Qmv (by omega);have n2:(Qa Qq++ZD 0 (P.take (Xl x P i))).length=Xl x P i:=by simp[Qa];omega
   have n3:(Qa Qq++ZD 0 (P.take (Xl x P i))++[x]).length=Xl x P i+1:=by simp[Qa];omega
   have n4:(Qa Qq++ZD 0 (P.take (Xl x P i))++[x]++ZD (Xl x P i) (P.take i)).length=i+1:=by simp[Qa];omega
   rw[hti];have n5:Qa Qq++ZD 0 (P.take (Xl x P i))++[x]++ZD (Xl x P i) (P.take i)=P.take (Xl x P i)++x::P.drop (Xl x P i):=by rw[<-hP];simp[Qa]
   simp(disch:=omega)only[I,U,getD_some hx,Zf,e,n2,n3,n4,decide_true,J,Bool.true_and,Bool.and_true,Q3,Zy,hP];rw[ZF]at n4 n5;have n6:List.take (i+1) (Qa Qq++P.take (Xl x P i)++[x]++ZD (Xl x P i) (P.take i))=P.take (Xl x P i)++x::P.drop (Xl x P i):=by rw[List.take_of_length_le (by omega),n5]
   simp only[ZF,n6];rfl
  ·intro j hj hlt;have hw:w64 (((j+1:Nat):Int)-1)=(j:Int):=by rw[Zy (by omega) (by omega)];omega
   simp(disch:=omega)only[Z3,Zf,hw,U,getD_some hx,Zc1 F (h _ (hmem j (by omega)) x hxm),hlt,I,ZS,ZR,cond_true]
  ·intro j hj hlt;have hw:w64 (((j+1:Nat):Int)-1)=(j:Int):=by rw[Zy (by omega) (by omega)];omega
   simp(disch:=omega)only[Z3,Zf,hw,U,getD_some hx,Zc1 F (h _ (hmem j (by omega)) x hxm),hlt,I,ZS,ZR,cond_false]
  ·simp(disch:=omega)only[Z0,I,cond_false]
 ·intro _ _;rw[ZH];simp(disch:=omega)only[Z0,decide_true,J,Q3,I]
 ·rw[Qyu]
theorem Zfu{m:Mt}{s:Qi}(hv:stE m s=0){x:Qq}(hx:x∈s.2.2.2.1):
  0<=cI m x.2.1∧(Zh m x.2.1).2.2.2.2.2.2.2.2.2.2<=0∧Jp (mkE x)∧Jj (Zh m x.2.1).2.1 x.2.2.1=true∧0<=dyE x∧dyE x<=99999:=by
 obtain⟨i,hi,e⟩:=List.getElem_of_mem hx;have h:=Qwd hv hi;have e2:s.2.2.2.1.getD i dE=x:=by rw[getD_some (ZB hi),e]
 unfold Qbz at h;rw[e2]at h;by_cases h1:aI s x.1<0∨cI m x.2.1<0
 ·simp[h1]at h
 ·rw[if_neg h1]at h;by_cases h2:0<(Zh m x.2.1).2.2.2.2.2.2.2.2.2.2
  ·simp[h2]at h
  ·rw[if_neg h2]at h;by_cases h3:(s.2.2.2.1.take i).any (eP x.1 x.2.1)=true
   ·simp[h3]at h
   ·rw[if_neg h3]at h;by_cases h4:Jv x.2.2.1 x.2.2.2.1 x.2.2.2.2.1=0
    ·rw[if_pos h4]at h;by_cases h5:Jj (Zh m x.2.1).2.1 x.2.2.1=true
     ·rw[if_pos h5]at h;by_cases h6:Yq x.2.2.2.2.2.1=true
      ·simp[h6]at h
      ·unfold Yq at h6;simp only[ZQ,decide_eq_true_eq]at h6;refine⟨by omega,by omega,h4,h5,?_,?_⟩<;>(unfold dyE;omega)
     ·simp[h5]at h
    ·rw[if_neg h4]at h;exact absurd h h4
theorem Zad{m:Mt}{s:Qi}(hv:stE m s=0)(c:ByteArray){l:List Qq}(hl:∀x∈l,x∈s.2.2.2.1∧Qc x.2.1 c=true):Ko l:=by
 intro x hx y hy;obtain⟨hx1,hx2⟩:=hl x hx;obtain⟨hy1,hy2⟩:=hl y hy;obtain⟨-,-,a3,a4,a5⟩:=Zfu hv hx1;obtain⟨-,-,b3,b4,b5⟩:=Zfu hv hy1;refine⟨a3,b3,?_,a5,b5⟩;have ex:=Yy.1 hx2;have ey:=Yy.1 hy2;rw[ex]at a4;rw[ey]at b4;unfold Jj at a4 b4;simp only[ZQ]at a4 b4;unfold Qdx mkE;rcases a4 with a4|a4
 ·rcases b4 with b4|b4
  ·right;right;rw[Yy.1 a4,Yy.1 b4];exact Ku _
  ·exact .inr (.inl b4)
 ·exact .inl a4
def Ww(s:Qi)(c:ByteArray)(k:Bool):List Qq:=s.2.2.2.1.filter fun e=>Qc e.2.1 c&&(!k||e.2.2.2.2.2.2)
theorem Zky(s:Qi)(c:ByteArray):Ww s c false=V0 s c:=by unfold Ww V0;simp
theorem Qtp{s:Qi}{c:ByteArray}{k:Bool}:∀x∈Ww s c k,x∈s.2.2.2.1∧Qc x.2.1 c=true:=fun x hx=>by unfold Ww at hx;rw[List.mem_filter]at hx;obtain⟨h1,h2⟩:=hx;simp only[Bool.and_eq_true]at h2;exact⟨h1,h2.1⟩
theorem Zjs(s:Qi)(c:ByteArray)(k:Bool):(Ww s c k).length<=s.2.2.2.1.length:=ZJ _ _
theorem l71{F:Nat}(hF:400<=F){s:Qi}(hS:Zr s){c:ByteArray}{k:Bool}(h:Ko (Ww s c k)):c71 F (s,c,k)=some (Z6 (Ww s c k)):=by
 have e:∀y:Qq,y::Qa Qq=[y]:=fun _=>rfl;have h1:=hS.e;have h2:=Zjs s c k;unfold c71;simp only[tE,Zj];refine Zle s.2.2.2.1 (fun x=>Qc x.2.1 c&&(!k||x.2.2.2.2.2.2)) (fun x=>x) (by omega) ?_ ?_ ?_
 ·intro i x out hi hx ho;have hl2:(out++[x]).length<=301:=by simp;omega
  simp(disch:=omega)only[Z3,Zf,U,getD_some hx,Zy,e,decide_true,J,Q3,I];cases Qc x.2.1 c
  ·simp[Q3]
  ·cases k
   ·simp[Q3]
   ·cases x.2.2.2.2.2.2<;>simp[Q3]
 ·intro out ho;simp(disch:=omega)only[Z0,decide_true,J,Q3,I]
 ·intro _;rw[List.map_id'];have e2:=Ynx hF (show(Ww s c k).length<=300 by omega) h;unfold Ww at e2⊢;simp only[decide_true,J,Q3,I,e2]
def U7(l:List ByteArray)(c:ByteArray):Nat:=(l.filter fun x=>Qc x c).length
theorem Ye1(l:List ByteArray)(b c:ByteArray):U7 (l++[b]) c=U7 l c+if Qc b c=true then 1 else 0:=by unfold U7;rw[List.filter_append,ZM];cases h:Qc b c<;>simp[h]
theorem Qu2(l:List ByteArray)(c:ByteArray):U7 l c<=l.length:=ZJ _ _
abbrev Dv:=List ByteArray×List ByteArray×List ByteArray
def inD(s:Qi)(P C:Int)(d:Dv)(e:Qq):Bool:=decide ((d.2.1.length:Int)<P)&&decide ((U7 d.2.2 (X2 s e.1):Int)<C)
def Y3(s:Qi)(P C:Int)(d:Dv)(e:Qq):Dv:=if inD s P C d e=true then(d.1,d.2.1++[e.1],d.2.2++[X2 s e.1])else(d.1++[e.1],d.2.1,d.2.2)
def Vm(s:Qi)(P C:Int)(L:List Qq):Dv:=L.foldl (Y3 s P C) ([],[],[])
theorem Qw4(s:Qi)(P C:Int)(d:Dv)(e:Qq):(Y3 s P C d e).1.length+(Y3 s P C d e).2.1.length=d.1.length+d.2.1.length+1∧((Y3 s P C d e).2.1.length=(Y3 s P C d e).2.2.length↔d.2.1.length=d.2.2.length):=by unfold Y3;cases inD s P C d e<;>simp<;>omega
def Qgp(q:List (ByteArray×Int))(l:List ByteArray):Prop:=∀k,Y5 Qc k q 0=(U7 l k:Int)
theorem Qgp.put{q:List (ByteArray×Int)}{l:List ByteArray}(h:Qgp q l)(b:ByteArray):Qgp (Ji Qc b (Y5 Qc b q 0+1) q) (l++[b]):=by
 intro k;rw[Za9 Zgb,Ye1];have h1:=h k;have h2:=h b;by_cases e:b=k
 ·subst e;simp[Ku,h1]
 ·simp[Qf7 e,Qf7 (fun h:k=b=>e h.symm),h1]
end Go.Proofs.Tryz

/- Plain law: marks compared, in the program and in the reference. Plain law: entries in order, in the program and in the reference. And further parts. -/
import Derived.Test.YtpkbmngnolhopaaGreatDoorXT3f
import Derived.Test.YtpkbmngnolhopaaGreatDoorXTeB2
import Derived.Test.YtpkbmngnolhopaaGreatDoorXTeB3
set_option maxRecDepth 100000
set_option linter.unusedVariables false
set_option linter.unusedSimpArgs false
open Option renaming bind_some->I
open Bool renaming and_self->J,or_eq_true->ZL
open List renaming getElem?_eq_getElem->U,length_drop->ZA,mem_of_mem_take->ZB,getD_eq_getElem?_getD->ZC,drop_eq_getElem_cons->ZD,take_append_drop->ZE,length_filter_le->ZF,length_append->ZG,take_add_one->ZH,perm_middle->ZI,take_length->ZJ,append_nil->ZK,drop_zero->ZM
namespace Go.Proofs.Tryz
open Go Go.Sx
abbrev Mk:=ByteArray×Int×ByteArray
theorem Zu7:(YM:ByteArray)=kL:=rfl
theorem Ypc:(YO:ByteArray)=kP:=rfl
theorem Zg3:(YL:ByteArray)=kT:=rfl
theorem Zdl:(YN:ByteArray)=kN:=rfl
def wM(k:ByteArray)(v:Int):Int:=if Qc k kT=true then-v else if Qc k kL=true then v else if Qc k kP=true then v else-864000000
def Wt(a b:Int):Int:=if b<a then-1 else if a<b then 1 else 0
def Jn(x:Mk):Prop:=Jo x.1 x.2.1 x.2.2=0
def kindOk(x:Mk):Prop:=Qc x.1 kN=true∨Qc x.1 kT=true∨Qc x.1 kL=true∨Qc x.1 kP=true
theorem Ye7{x:Mk}(h:Jn x):kindOk x:=by
 unfold Jn Jo at h;unfold kindOk;by_cases h1:Qc x.1 kN=true
 ·exact .inl h1
 ·by_cases h2:Qc x.1 kT=true
  ·exact .inr (.inl h2)
  ·by_cases h3:Qc x.1 kL=true
   ·exact .inr (.inr (.inl h3))
   ·by_cases h4:Qc x.1 kP=true
    ·exact .inr (.inr (.inr h4))
    ·rw[if_neg h1,if_neg h2,if_neg h3,if_neg h4]at h;cases h
theorem Qtv{a b k:ByteArray}(h:Qc k a=true)(hab:Qc a b=false):Qc k b=false:=by rw[Y1]at h;rw[h];exact hab
theorem Ze5(F:Nat){k:ByteArray}{v:Int}(r:ByteArray)(hv:-999999999<=v∧v<=999999999):Qm8 F (k,v,r)=some (wM k v):=by
 unfold Qm8 tw;have hw:IntKind.wrap IntKind.i64 (0-v)= -v:=by rw[show IntKind.wrap IntKind.i64 (0-v)=w64 (0-v)from rfl,Zu (by omega) (by omega)];omega
 simp only[hw,Zg3,Zu7,Ypc];have g:∀x:Int,gd (Qt.eqv (Qe.val (Ty.int Go.IntKind.i64)::Qa Qe) x x) (some x)=some x:=by
  intro x;have:Qt.eqv (Qe.val (Ty.int Go.IntKind.i64)::Qa Qe) x x=true:=by change U2 x x=true;simp[U2]
  rw[this];rfl
 unfold wM;cases Qc k kT<;>cases Qc k kL<;>cases Qc k kP<;>simp[g]
theorem Qrp{x:Mk}(h:Jn x):0<=x.2.1∧x.2.1<=863999999:=by
 unfold Jn Jo at h;split at h
 ·split at h
  ·cases h
  ·split at h
   ·cases h
   ·rename_i h3;have:x.2.1=0:=by simpa using h3
    omega
 ·split at h
  ·split at h
   ·cases h
   ·split at h
    ·cases h
    ·omega
  ·split at h
   ·split at h
    ·cases h
    ·split at h
     ·cases h
     ·omega
   ·split at h
    ·split at h
     ·cases h
     ·split at h
      ·cases h
      ·omega
    ·cases h
def wE(x:Mk):Int:=wM x.1 x.2.1
def Qdk(x y:Mk):Prop:=Qc x.1 kN=true∨Qc y.1 kN=true∨Qc x.1 y.1=true
theorem Yo2(F:Nat){x y:Mk}(hx:Jn x)(hy:Jn y):Qqy F (x,y)=some (Wt (wE x) (wE y)):=by
 unfold Qqy Wt wE;obtain⟨a1,a2⟩:=Qrp hx;obtain⟨b1,b2⟩:=Qrp hy;simp only[Ze5 F _ (show-999999999<=x.2.1∧x.2.1<=999999999 by omega),Ze5 F _ (show-999999999<=y.2.1∧y.2.1<=999999999 by omega),I];by_cases h1:wM y.1 y.2.1<wM x.1 x.2.1
 ·rw[Z1 h1,if_pos h1]
 ·rw[Zz h1,if_neg h1];by_cases h2:wM x.1 x.2.1<wM y.1 y.2.1
  ·rw[Z1 h2,if_pos h2]
  ·rw[Zz h2,if_neg h2]
theorem Ym7(F:Nat){x y:Mk}(h:Qdk x y):Qoz F (x,y)=some false:=by unfold Qoz;simp only[Zdl];unfold Qdk at h;cases h1:Qc x.1 y.1<;>cases h2:Qc x.1 kN<;>cases h3:Qc y.1 kN<;>simp_all
theorem Zc1{F:Nat}(hF:400<=F){x y:Mk}(hx:Jn x)(hy:Jn y)(h:Qdk x y):Qmf F (x,y)=some (Wt (wE x) (wE y),0):=by
 unfold Qmf;have q:∀(a b c:Int),Vb F (a::b::c::Qa Int)=some (Qi [a,b,c]):=by intro a b c;rw[Qxk (by simp[Qa];omega) (by simp[Qa])];rfl
 have hx':=hx;have hy':=hy;unfold Jn at hx' hy';simp only[Za,l99 hF,Ym7 F h,Zeh,q,hx',hy',I,Yo2 F hx hy];rfl
theorem kinds{x:Mk}(h:Jn x):(Qc x.1 kN=true∧wE x= -864000000)∨(Qc x.1 kN=false∧Qc x.1 kT=true∧wE x= -x.2.1)∨(Qc x.1 kN=false∧Qc x.1 kT=false∧wE x=x.2.1):=by
 have hk:=Ye7 h;unfold kindOk at hk;unfold wE wM;cases hN:Qc x.1 kN with
 |true=>left;refine⟨rfl,?_⟩;rw[if_neg (by rw[Qtv hN rfl];simp),if_neg (by rw[Qtv hN rfl];simp),if_neg (by rw[Qtv hN rfl];simp)]
 |false=>
  right;cases hT:Qc x.1 kT with
  |true=>left;exact⟨rfl,rfl,by rw[if_pos rfl]⟩
  |false=>
   right;refine⟨rfl,rfl,?_⟩;rw[if_neg (by simp)];rcases hk with hk|hk|hk|hk
   ·rw[hk]at hN;cases hN
   ·rw[hk]at hT;cases hT
   ·rw[if_pos hk]
   ·by_cases hL:Qc x.1 kL=true
    ·rw[if_pos hL]
    ·rw[if_neg hL,if_pos hk]
theorem l57(F:Nat){x y:Mk}(hx:Jn x)(hy:Jn y)(h:Qdk x y):c57 F (x,y)=some (Wt (wE x) (wE y)):=by
 unfold c57;obtain⟨a1,a2⟩:=Qrp hx;obtain⟨b1,b2⟩:=Qrp hy;simp only[Zdl,Zg3];have ne1:Qc x.1 kN=true->Qc y.1 kN=false->Qc x.1 y.1=false:=fun p q=>by
  cases e:Qc x.1 y.1 with
  |false=>rfl
  |true=>rw[Y1]at e;rw[<-e,p]at q;cases q
 have ne2:Qc x.1 kN=false->Qc y.1 kN=true->Qc x.1 y.1=false:=fun p q=>by
  cases e:Qc x.1 y.1 with
  |false=>rfl
  |true=>rw[Y1]at e;rw[<-e,p]at q;cases q
 have fin:∀a b:Int,(bif decide (b<a)then some (-1:Int)else bif decide (a<b)then some 1 else some 0)=some (Wt a b):=by
  intro a b;unfold Wt;by_cases h1:b<a
  ·rw[if_pos h1,Z1 h1]
  ·rw[if_neg h1,Zz h1];by_cases h2:a<b
   ·rw[if_pos h2,Z1 h2]
   ·rw[if_neg h2,Zz h2]
 rcases kinds hx with⟨p1,p2⟩|⟨p1,p3,p2⟩|⟨p1,p3,p2⟩
 ·rcases kinds hy with⟨q1,q2⟩|⟨q1,q3,q2⟩|⟨q1,q3,q2⟩
  ·have:Qc x.1 y.1=true:=by rw[Y1]at p1 q1⊢;rw[p1,q1]
   simp[p1,this,Wt,p2,q2]
  ·have h1:¬wE y<wE x:=by omega
   have h2:wE x<wE y:=by omega
   simp[p1,ne1 p1 q1,q1,Wt,h1,h2]
  ·have h1:¬wE y<wE x:=by omega
   have h2:wE x<wE y:=by omega
   simp[p1,ne1 p1 q1,q1,Wt,h1,h2]
 ·rcases kinds hy with⟨q1,q2⟩|⟨q1,q3,q2⟩|⟨q1,q3,q2⟩
  ·have h1:wE y<wE x:=by omega
   simp[p1,ne2 p1 q1,q1,Wt,h1]
  ·simp only[p1,q1,p3,cond_false,cond_true,I];rw[fin,p2,q2];unfold Wt;congr 1
   (repeat' split)<;>omega
  ·exfalso;rcases h with h|h|h
   ·rw[h]at p1;cases p1
   ·rw[h]at q1;cases q1
   ·rw[Y1]at h;rw[<-h,p3]at q3;cases q3
 ·rcases kinds hy with⟨q1,q2⟩|⟨q1,q3,q2⟩|⟨q1,q3,q2⟩
  ·have h1:wE y<wE x:=by omega
   simp[p1,ne2 p1 q1,q1,Wt,h1]
  ·exfalso;rcases h with h|h|h
   ·rw[h]at p1;cases p1
   ·rw[h]at q1;cases q1
   ·rw[Y1]at h;rw[<-h,p3]at q3;cases q3
  ·simp only[p1,q1,p3,cond_false,cond_true,I];rw[fin,p2,q2]
def mkE(x:Qr):Mk:=(x.2.2.1,x.2.2.2.1,x.2.2.2.2.1)
def dyE(x:Qr):Int:=x.2.2.2.2.2.1
def ltE(x y:Qr):Bool:=decide (wE (mkE y)<wE (mkE x))||(decide (wE (mkE x)=wE (mkE y))&&decide (dyE x<dyE y))
structure Zjy (x y:Qr):Prop where
 mx:Jn (mkE x)
 my:Jn (mkE y)
 k:Qdk (mkE x) (mkE y)
 dx:0<=dyE x∧dyE x<=99999
 dy:0<=dyE y∧dyE y<=99999
theorem Zay{F:Nat}(hF:400<=F){x y:Qr}(h:Zjy x y):∃v,Qom F (x,y)=some v∧decide (v<0)=ltE x y:=by
 unfold Qom;have e:=Zc1 hF h.mx h.my h.k;simp only[mkE]at e;simp only[e,I];have d1:=h.dx;have d2:=h.dy;have e2:w64 (x.2.2.2.2.2.1-y.2.2.2.2.2.1)=dyE x-dyE y:=by unfold dyE at d1 d2⊢;rw[Zu (by omega) (by omega)]
 unfold Wt ltE;simp only[mkE]at*;by_cases h1:wE (y.2.2.1,y.2.2.2.1,y.2.2.2.2.1)<wE (x.2.2.1,x.2.2.2.1,x.2.2.2.2.1)
 ·refine⟨-1,?_,?_⟩<;>simp[h1]
 ·by_cases h2:wE (x.2.2.1,x.2.2.2.1,x.2.2.2.2.1)<wE (y.2.2.1,y.2.2.2.1,y.2.2.2.2.1)
  ·refine⟨1,?_,?_⟩
   ·simp[h1,h2]
   ·have:¬wE (x.2.2.1,x.2.2.2.1,x.2.2.2.2.1)=wE (y.2.2.1,y.2.2.2.1,y.2.2.2.2.1):=by omega
    simp[h1,this]
  ·have h3:wE (x.2.2.1,x.2.2.2.1,x.2.2.2.2.1)=wE (y.2.2.1,y.2.2.2.1,y.2.2.2.2.1):=by omega
   refine⟨dyE x-dyE y,?_,?_⟩
   ·simp[h3,e2]
   ·by_cases h4:dyE x<dyE y
    ·have:dyE x-dyE y<0:=by omega
     simp[h3,h4,this]
    ·have:¬dyE x-dyE y<0:=by omega
     simp[h3,h4,this]
theorem tE:Zk=dE:=rfl
def Qar(x:Qr)(l:List Qr):Nat->Nat
 |0=>0
 |n+1=>if ltE x (l.getD n dE)=true then Qar x l n else n+1
def Qcn(l:List Qr)(x:Qr):List Qr:=l.take (Qar x l l.length)++x::l.drop (Qar x l l.length)
def Yr(l:List Qr):List Qr:=l.foldl Qcn []
theorem Yql(l:List Qr)(x:Qr):(Qcn l x).Perm (x::l):=by unfold Qcn;refine ZI.trans ?_;rw[ZE]
theorem Zjd:∀(l o:List Qr),(l.foldl Qcn o).Perm (l++o)
 |[],o=>List.Perm.refl _
 |x::l,o=>by rw[List.foldl_cons];refine(Zjd l (Qcn o x)).trans ?_;refine(List.Perm.append_left l (Yql o x)).trans ?_;exact ZI
theorem Qks(l:List Qr):(Yr l).Perm l:=by have:=Zjd l [];rw[ZK]at this;exact this
theorem Qjg(l:List Qr):(Yr l).length=l.length:=(Qks l).length_eq
theorem Zo7(l:List Qr)(x:Qr):Yr (l++[x])=Qcn (Yr l) x:=by unfold Yr;rw[List.foldl_append];rfl
theorem Ztn{l:List Qr}{i:Nat}{x:Qr}(h:l[i]? =some x):Yr (l.take (i+1))=Qcn (Yr (l.take i)) x:=by rw[ZH,h];exact Zo7 _ _
def Qd0(l:List Qr):Prop:=∀x∈l,∀y∈l,Zjy x y
theorem Qd0.take{l:List Qr}(h:Qd0 l)(i:Nat):Qd0 (l.take i):=fun x hx y hy=>h x (ZB hx) y (ZB hy)
theorem Zdj{A R:List Qr}{y x:Qr}{j:Nat}(h:A.length=j):(A++y::x::R).getD (j+1) dE=x:=by rw[ZC,List.getElem?_append_right (by omega),show j+1-A.length=1 by omega];rfl
theorem Ylk{A R:List Qr}{y x:Qr}{j:Nat}(h:A.length=j):((A++y::x::R).set (j+1) y).set j x=A++x::y::R:=by
 have e:A++y::x::R=(A++[y])++x::R:=by simp
 rw[e,Zem (by simp[h]),show(A++[y])++y::R=A++y::(y::R)by simp,Zem h]
theorem Zuf{P:List Qr}{j:Nat}(h:j<P.length):P.take (j+1)=P.take j++[P.getD j dE]:=by rw[ZH,Qc6 dE h];rfl
theorem Ypo{P:List Qr}{j:Nat}(h:j<P.length):P.drop j=P.getD j dE::P.drop (j+1):=by rw[ZD h,ZC,U h];rfl
theorem Zth{P R:List Qr}{x:Qr}{n:Nat}(h:P.length=n):P++x::R=P.take n++x::(P.drop n++R):=by subst h;simp
theorem Zbe{step:List Qr×Int->Option ((List Qr×Int) ⊕ List Qr)}{x:Qr}{P R:List Qr}
  (hstep:∀j,j<P.length->ltE x (P.getD j dE)=true->step (P.take j++P.getD j dE::x::(P.drop (j+1)++R),((j+1:Nat):Int))=some (.inl (P.take j++x::P.getD j dE::(P.drop (j+1)++R),(j:Int))))
  (hstop:∀j,j<P.length->ltE x (P.getD j dE)=false->step (P.take j++P.getD j dE::x::(P.drop (j+1)++R),((j+1:Nat):Int))=some (.inr (P.take j++P.getD j dE::x::(P.drop (j+1)++R))))
  (h0:step (x::(P++R),((0:Nat):Int))=some (.inr (x::(P++R)))):
  ∀(j F:Nat),j<=P.length->j<F->Qx step F (P.take j++x::(P.drop j++R),(j:Int))=some (P.take (Qar x P j)++x::(P.drop (Qar x P j)++R))
 |0,F,hj,hF=>by obtain⟨G,rfl⟩:∃G,F=G+1:=⟨F-1,by omega⟩;simp only[Qx,List.take_zero,ZM,List.nil_append,h0,Qar]
 |j+1,F,hj,hF=>by
  obtain⟨G,rfl⟩:∃G,F=G+1:=⟨F-1,by omega⟩;have e:P.take (j+1)++x::(P.drop (j+1)++R)=P.take j++P.getD j dE::x::(P.drop (j+1)++R):=by rw[Zuf (by omega)];simp
  rw[e];cases h:ltE x (P.getD j dE)with
  |true=>
   simp only[Qx,hstep j (by omega) h];have e2:P.take j++x::P.getD j dE::(P.drop (j+1)++R)=P.take j++x::(P.drop j++R):=by rw[Ypo (show j<P.length by omega)];simp
   rw[e2,Zbe hstep hstop h0 j G (by omega) (by omega)];simp only[Qar,h,if_true]
  |false=>simp only[Qx,hstop j (by omega) h,Qar,h,Bool.false_eq_true,if_false];rw[<-e]
theorem Zb8{F:Nat}(hF:400<=F){L:List Qr}(hl:L.length<=300)(h:Qd0 L):Qbp F (0,(L.length:Int),L)=some (Yr L):=by
 unfold Qbp;have e1:w64 (0+1)=1:=Zu (by omega) (by omega);simp only[tE,Za,e1,Nat.zero_add];by_cases hn:L.length=0
 ·obtain rfl:L=[]:=List.eq_nil_of_length_eq_zero hn;obtain⟨G,rfl⟩:∃G,F=G+1:=⟨F-1,by omega⟩;simp(disch:=decide)only[Qx,Zz,List.length_nil,Int.natCast_zero,I];rfl
 refine Jy (L.drop 1) (fun(_:Unit) i=>(Yr (L.take (i+1))++L.drop (i+1),((i+1:Nat):Int))) (fun _ _=>(.inl ():Unit ⊕ List Qr)) (fun _=>Yr L) (fun _ _=>True) () (by rw[ZA];omega) ?_ trivial ?_ ?_ ?_
 ·show(L,((1:Nat):Int))=_;have:L.take 1++L.drop 1=L:=ZE 1 L;rw[Nat.zero_add];congr 1;cases L with
  |nil=>rfl
  |cons y t=>rfl
 ·intro i x _ hi hx _;refine⟨?_,fun _ _=>trivial⟩;rw[ZA]at hi;rw[List.getElem?_drop,Nat.add_comm 1 i]at hx;have hx':L[i+1]? =some x:=hx;have hP:(Yr (L.take (i+1))).length=i+1:=by rw[Qjg];exact Zhg (by omega)
  have hd:L.drop (i+1)=x::L.drop (i+1+1):=by rw[ZD (show i+1<L.length by omega)];congr 1;rw[U (show i+1<L.length by omega)]at hx';exact Option.some.inj hx'
  have hmem:∀j,j<i+1->(Yr (L.take (i+1))).getD j dE∈L:=fun j hj=>
   ZB ((Qks _).mem_iff.1 (Qme dE (by omega)))
  have hxm:x∈L:=List.mem_of_getElem? hx';have hlen:∀j,j<i+1->∀a b:Qr,((Yr (L.take (i+1))).take j++a::b::((Yr (L.take (i+1))).drop (j+1)++L.drop (i+1+1))).length=L.length:=fun j hj a b=>by simp only[ZG,List.length_cons,List.length_take,ZA,hP];omega
  have htl:∀j,j<i+1->((Yr (L.take (i+1))).take j).length=j:=fun j hj=>Zhg (by omega);simp(disch:=omega)only[Z1];rw[Ztn hx',hd];rw[Zth (R:=L.drop (i+1+1)) (x:=x) hP];rw[Zbe (x:=x) (P:=Yr (L.take (i+1))) (R:=L.drop (i+1+1)) ?_ ?_ ?_ (i+1) F (by omega) (by omega)]
  ·simp(disch:=omega)only[I,Zu];have:Qcn (Yr (L.take (i+1))) x=(Yr (L.take (i+1))).take (Qar x (Yr (L.take (i+1))) (i+1))++x::(Yr (L.take (i+1))).drop (Qar x (Yr (L.take (i+1))) (i+1)):=by unfold Qcn;rw[hP]
   rw[this,List.append_assoc];rfl
  ·intro j hj hlt;rw[hP]at hj;obtain⟨v,hv1,hv2⟩:=Zay hF (h x hxm _ (hmem j hj));rw[hlt]at hv2;have hw:w64 (((j+1:Nat):Int)-1)=(j:Int):=by rw[Zu (by omega) (by omega)];omega
   have:=hlen j hj;simp(disch:=first|omega|(rw[hlen j hj];omega)|(rw[List.length_set,hlen j hj];omega))only[Z1,Ze,hw,Int.toNat_natCast,Zdj (htl j hj),Zkk (htl j hj),hv1,hv2,I,cond_true,Ylk (htl j hj)]
  ·intro j hj hlt;rw[hP]at hj;obtain⟨v,hv1,hv2⟩:=Zay hF (h x hxm _ (hmem j hj));rw[hlt]at hv2;have hw:w64 (((j+1:Nat):Int)-1)=(j:Int):=by rw[Zu (by omega) (by omega)];omega
   have:=hlen j hj;simp(disch:=first|omega|(rw[hlen j hj];omega))only[Z1,Ze,hw,Int.toNat_natCast,Zdj (htl j hj),Zkk (htl j hj),hv1,hv2,I,cond_false]
  ·simp(disch:=omega)only[Zz,I,cond_false]
 ·intro _ _;rw[ZA];simp(disch:=omega)only[Zz];rw[show L.length-1+1=L.length by omega,ZJ,List.drop_length,ZK]
 ·rw[Zib]
theorem Zng{F:Nat}(hF:400<=F){a n:Int}(ha:0<=a∧a<=1000)(hn:n<=a+1)(L:List Qr):Qbp F (a,n,L)=some L:=by unfold Qbp;obtain⟨G,rfl⟩:∃G,F=G+1:=⟨F-1,by omega⟩;simp(disch:=omega)only[Qx,Zu,Zz,I]
theorem Zr8{F:Nat}(hF:400<=F){L:List Qr}(hl:L.length<=20)(h:Qd0 L):Qp7 F ((L.length:Int),L)=some (Yr L):=by
 unfold Qp7;obtain⟨G,hG⟩:∃G,F=G+2:=⟨F-2,by omega⟩;by_cases h20:L.length=20
 ·have hs:(Yr L).length=L.length:=Qjg L;have e1:=Zb8 hF (show L.length<=300 by omega) h;rw[h20]at e1;have e1:Qbp F (0,20,L)=some (Yr L):=e1;have hw:w64 (20+20)=40:=Zu (by omega) (by omega);have hl1:∀(step:List Qr×Int×Int->Option ((List Qr×Int×Int) ⊕ (List Qr×Int))),step (L,0,20)=some (.inl (Yr L,20,40))->step (Yr L,20,40)=some (.inr (Yr L,20))->Qx step F (L,0,20)=some (Yr L,20):=fun step q1 q2=>by rw[hG];simp only[Qx,q1,q2]
  rw[hl1]
  ·have e2:=Zng hF (a:=20) (n:=20) (by omega) (by omega) (Yr L);simp only[h20,hs,decide_true,J,Zb,I];have e3:Qbp F (20,((20:Nat):Int),Yr L)=some (Yr L):=e2;simp only[e3,I];have hl2:∀(step:List Qr×Int->Option ((List Qr×Int) ⊕ List Qr)),step (Yr L,20)=some (.inr (Yr L))->Qx step F (Yr L,20)=some (Yr L):=fun step q=>by rw[hG];simp only[Qx,q]
   rw[hl2]
   ·rfl
   ·simp(disch:=omega)only[Zz]
  ·simp(disch:=omega)only[Z1,h20,decide_true,J,Zb,I,e1,hw]
  ·simp(disch:=omega)only[Zz,h20]
 ·have hs:(Yr L).length=L.length:=Qjg L;have e1:=Zb8 hF (show L.length<=300 by omega) h;have hl1:∀(step:List Qr×Int×Int->Option ((List Qr×Int×Int) ⊕ (List Qr×Int))),step (L,0,20)=some (.inr (L,0))->Qx step F (L,0,20)=some (L,0):=fun step q1=>by rw[hG];simp only[Qx,q1]
  rw[hl1]
  ·simp only[decide_true,J,Zb,I,e1];have hl2:∀(step:List Qr×Int->Option ((List Qr×Int) ⊕ List Qr)),step (Yr L,20)=some (.inr (Yr L))->Qx step F (Yr L,20)=some (Yr L):=fun step q=>by rw[hG];simp only[Qx,q]
   rw[hl2]
   ·rfl
   ·simp(disch:=omega)only[Zz]
  ·simp(disch:=omega)only[Zz]
theorem Zym{F:Nat}(hF:400<=F){L:List Qr}(hl:L.length<=20)(h:Qd0 L):Qqp F L=some (Yr L):=by unfold Qqp;simp only[decide_true,J,Zb,I,Zr8 hF hl h]
def V5(s:Qh)(c:ByteArray):List Qr:=s.2.2.2.1.filter fun e=>Qc e.2.1 c
def X3(s:Qh)(c:ByteArray):List Qr:=Yr (V5 s c)
theorem l139{F:Nat}(hF:400<=F){s:Qh}(hS:Zh s){c:ByteArray}(hl:(V5 s c).length<=20)(h:Qd0 (V5 s c)):Qb1 F (s,c)=some (X3 s c):=by
 have e:∀y:Qr,y::Qa Qr=[y]:=fun _=>rfl;have h1:=hS.e;unfold Qb1;simp only[tE,Za];refine Yjy s.2.2.2.1 (fun x=>Qc x.2.1 c) (fun x=>x) (by omega) ?_ ?_ ?_
 ·intro i x out hi hx ho;have hl2:(out++[x]).length<=301:=by simp;omega
  simp(disch:=omega)only[Z1,Ze,Int.toNat_natCast,getD_some hx,Zu,e,decide_true,J,Zb,I];cases Qc x.2.1 c
  ·simp[Zb]
  ·simp only[cond_true,if_true,I]
 ·intro out ho;simp(disch:=omega)only[Zz,decide_true,J,Zb,I]
 ·intro _;rw[List.map_id'];have hs:=Qjg (V5 s c);have e2:=Zym hF hl h;unfold V5 at hs e2 h hl;simp only[decide_true,J,Zb,I,e2,Nat.zero_add,hs,Nat.le_refl,ZM];rw[<-hs,ZJ];rfl
theorem Ziy{m:Mt}{s:Qh}(hv:stE m s=0){x:Qr}(hx:x∈s.2.2.2.1):
  0<=cI m x.2.1∧(Zl m x.2.1).2.2.2.2.2.2.2.2.2.2<=0∧Jn (mkE x)∧X8 (Zl m x.2.1).2.1 x.2.2.1=true∧0<=dyE x∧dyE x<=99999:=by
 obtain⟨i,hi,e⟩:=List.getElem_of_mem hx;have h:=Qw4 hv hi;have e2:s.2.2.2.1.getD i dE=x:=by rw[getD_some (U hi),e]
 unfold J5 at h;rw[e2]at h;by_cases h1:aI s x.1<0∨cI m x.2.1<0
 ·simp[h1]at h
 ·rw[if_neg h1]at h;by_cases h2:0<(Zl m x.2.1).2.2.2.2.2.2.2.2.2.2
  ·simp[h2]at h
  ·rw[if_neg h2]at h;by_cases h3:(s.2.2.2.1.take i).any (eP x.1 x.2.1)=true
   ·simp[h3]at h
   ·rw[if_neg h3]at h;by_cases h4:Jo x.2.2.1 x.2.2.2.1 x.2.2.2.2.1=0
    ·rw[if_pos h4]at h;by_cases h5:X8 (Zl m x.2.1).2.1 x.2.2.1=true
     ·rw[if_pos h5]at h;by_cases h6:Yc x.2.2.2.2.2.1=true
      ·simp[h6]at h
      ·unfold Yc at h6;simp only[ZL,decide_eq_true_eq]at h6;refine⟨by omega,by omega,h4,h5,?_,?_⟩<;>(unfold dyE;omega)
     ·simp[h5]at h
    ·rw[if_neg h4]at h;exact absurd h h4
theorem Yjg{m:Mt}{s:Qh}(hv:stE m s=0)(c:ByteArray){l:List Qr}(hl:∀x∈l,x∈s.2.2.2.1∧Qc x.2.1 c=true):Qd0 l:=by
 intro x hx y hy;obtain⟨hx1,hx2⟩:=hl x hx;obtain⟨hy1,hy2⟩:=hl y hy;obtain⟨-,-,a3,a4,a5⟩:=Ziy hv hx1;obtain⟨-,-,b3,b4,b5⟩:=Ziy hv hy1;refine⟨a3,b3,?_,a5,b5⟩;have ex:=Y1.1 hx2;have ey:=Y1.1 hy2;rw[ex]at a4;rw[ey]at b4;unfold X8 at a4 b4;simp only[ZL]at a4 b4;unfold Qdk mkE;rcases a4 with a4|a4
 ·rcases b4 with b4|b4
  ·right;right;rw[Y1.1 a4,Y1.1 b4];exact Wr _
  ·exact .inr (.inl b4)
 ·exact .inl a4
def Qpe(s:Qh)(c:ByteArray)(k:Bool):List Qr:=s.2.2.2.1.filter fun e=>Qc e.2.1 c&&(!k||e.2.2.2.2.2.2)
theorem Yq6(s:Qh)(c:ByteArray):Qpe s c false=V5 s c:=by unfold Qpe V5;simp
theorem Yn9{s:Qh}{c:ByteArray}{k:Bool}:∀x∈Qpe s c k,x∈s.2.2.2.1∧Qc x.2.1 c=true:=fun x hx=>by unfold Qpe at hx;rw[List.mem_filter]at hx;obtain⟨h1,h2⟩:=hx;simp only[Bool.and_eq_true]at h2;exact⟨h1,h2.1⟩
def Qb8(l:List ByteArray)(c:ByteArray):Nat:=(l.filter fun x=>Qc x c).length
theorem Yq9(l:List ByteArray)(b c:ByteArray):Qb8 (l++[b]) c=Qb8 l c+if Qc b c=true then 1 else 0:=by unfold Qb8;rw[List.filter_append,ZG];cases h:Qc b c<;>simp[h]
theorem Zhw(l:List ByteArray)(c:ByteArray):Qb8 l c<=l.length:=ZF _ _
abbrev Dv:=List ByteArray×List ByteArray×List ByteArray
def inD(s:Qh)(P C:Int)(d:Dv)(e:Qr):Bool:=decide ((d.2.1.length:Int)<P)&&decide ((Qb8 d.2.2 (Wz s e.1):Int)<C)
def Xv(s:Qh)(P C:Int)(d:Dv)(e:Qr):Dv:=if inD s P C d e=true then(d.1,d.2.1++[e.1],d.2.2++[Wz s e.1])else(d.1++[e.1],d.2.1,d.2.2)
def Qbo(s:Qh)(P C:Int)(L:List Qr):Dv:=L.foldl (Xv s P C) ([],[],[])
theorem Ym9(s:Qh)(P C:Int)(d:Dv)(e:Qr):(Xv s P C d e).1.length+(Xv s P C d e).2.1.length=d.1.length+d.2.1.length+1∧((Xv s P C d e).2.1.length=(Xv s P C d e).2.2.length↔d.2.1.length=d.2.2.length):=by unfold Xv;cases inD s P C d e<;>simp<;>omega
def Qiv(q:List (ByteArray×Int))(l:List ByteArray):Prop:=∀k,Y6 Qc k q 0=(Qb8 l k:Int)
theorem Qiv.put{q:List (ByteArray×Int)}{l:List ByteArray}(h:Qiv q l)(b:ByteArray):Qiv (Jf Qc b (Y6 Qc b q 0+1) q) (l++[b]):=by
 intro k;rw[Zic Zce,Yq9];have h1:=h k;have h2:=h b;by_cases e:b=k
 ·subst e;simp[Wr,h1]
 ·simp[Qfa e,Qfa (fun h:k=b=>e h.symm),h1]
def Vo(m:Mt)(c:ByteArray):Cst:=if cI m c<0 then Qmz else Zl m c
def Qnr(m:Mt)(s:Qh)(c:ByteArray)(relay:Bool):Int:=Qi [stE m s,if cI m c<0 then 10 else 0,if(decide (0<(Vo m c).2.2.2.2.2.2.2.2.2.2)==relay)=true then 0 else 13]
theorem Zvl{F:Nat}(hF:400<=F){m:Mt}(hm:m.2.2.2.2.length<=300)(hb:∀x∈m.2.2.2.2,x.1.size<=300∧x.2.2.1.size<=300){s:Qh}(h:Zh s)(c:ByteArray)(relay:Bool):
  Qje F (m,s,c,relay)=some (Vo m c,Qnr m s c relay):=by
 have e3:∀a b c,Qy F (a::b::c::Qa Int)=some (Qi [a,b,c]):=fun a b c=>X9 hF (by simp[Qa]);unfold Qje Qnr Vo;simp only[Za,Qjn hF hm,l25 hF hm hb h,Yt,I];by_cases hc:cI m c<0
 ·simp only[hc,if_true,Yt,e3,I];cases(decide (0<Qmz.2.2.2.2.2.2.2.2.2.2)==relay)<;>rfl
 ·simp only[hc,if_false,Yt,e3,I];cases(decide (0<(Zl m c).2.2.2.2.2.2.2.2.2.2)==relay)<;>rfl
def We(m:Mt)(s:Qh)(c:ByteArray):Dv:=Qbo s (Zl m c).2.2.2.2.2.1 (Zl m c).2.2.2.2.2.2.1 (X3 s c)
theorem Qz4{s:Qh}{c:ByteArray}:∀x∈V5 s c,x∈s.2.2.2.1∧Qc x.2.1 c=true:=fun x hx=>by rw[<-Yq6]at hx;exact Yn9 x hx
theorem Ymk(s:Qh)(c:ByteArray):(V5 s c).length<=s.2.2.2.1.length:=ZF _ _
theorem Zbv{m:Mt}{s:Qh}(hv:stE m s=0){c:ByteArray}:∀x∈X3 s c,0<=aI s x.1:=fun x hx=>
 Zpk hv (Qz4 x ((Qks _).mem_iff.1 hx)).1
theorem Zjg{m:Mt}{c:ByteArray}(h:0<=cI m c):Vo m c=Zl m c:=by unfold Vo;rw[if_neg (by omega)]
end Go.Proofs.Tryz

/- Plain law: marks compared, in the program and in the reference. Plain law: entries in order, in the program and in the reference. And further parts. -/
import Derived.Test.YtpkbmngnolhopaaGreatDoorXT3f
import Derived.Test.YtpkbmngnolhopaaGreatDoorXTeB2
import Derived.Test.YtpkbmngnolhopaaGreatDoorXTeB3
set_option maxRecDepth 100000
set_option linter.unusedVariables false
set_option linter.unusedSimpArgs false
namespace Go.Proofs.Tryz
open Go Go.Sx
abbrev Mk:=ByteArray×Int×ByteArray
theorem Zql:({data:=List.toArray ((108:UInt8)::(101:UInt8)::(110:UInt8)::(103:UInt8)::(116:UInt8)::(104:UInt8)::Qa UInt8)}:ByteArray)=kL:=rfl
theorem Ygo:({data:=List.toArray ((112:UInt8)::(111:UInt8)::(105:UInt8)::(110:UInt8)::(116:UInt8)::(115:UInt8)::Qa UInt8)}:ByteArray)=kP:=rfl
theorem Zra:({data:=List.toArray ((116:UInt8)::(105:UInt8)::(109:UInt8)::(101:UInt8)::Qa UInt8)}:ByteArray)=kT:=rfl
theorem Ycg:({data:=List.toArray ((110:UInt8)::(111:UInt8)::(110:UInt8)::(101:UInt8)::Qa UInt8)}:ByteArray)=kN:=rfl
def wM(k:ByteArray)(v:Int):Int:=if Qc k kT=true then-v else if Qc k kL=true then v else if Qc k kP=true then v else-864000000
def Qlv(a b:Int):Int:=if b<a then-1 else if a<b then 1 else 0
def Uv(x:Mk):Prop:=Jf x.1 x.2.1 x.2.2=0
theorem Qwm(F:Nat){k:ByteArray}{v:Int}(r:ByteArray)(hv:-999999999≤v∧v≤999999999):Qj4 F (k,v,r)=some (wM k v):=by
 unfold Qj4 tw;have hw:IntKind.wrap IntKind.i64 (0-v)= -v:=by rw[show IntKind.wrap IntKind.i64 (0-v)=w64 (0-v)from rfl,Zo (by omega) (by omega)];omega
 simp only[hw,Zra,Zql,Ygo];have g:∀x:Int,gd (Qs.eqv (Qf.val (Ty.int Go.IntKind.i64)::Qa Qf) x x) (some x)=some x:=by
  intro x;have:Qs.eqv (Qf.val (Ty.int Go.IntKind.i64)::Qa Qf) x x=true:=by change Qaa x x=true;simp[Qaa]
  rw[this];rfl
 unfold wM;cases Qc k kT<;>cases Qc k kL<;>cases Qc k kP<;>simp[g]
theorem Qzt{x:Mk}(h:Uv x):0≤x.2.1∧x.2.1≤863999999:=by
 unfold Uv Jf at h;split at h
 ·split at h
  ·cases h
  ·split at h
   ·cases h
   ·rename_i h3;have:x.2.1=0:=by simpa using h3
    omega
 ·split at h
  ·split at h
   ·cases h
   ·split at h
    ·cases h
    ·omega
  ·split at h
   ·split at h
    ·cases h
    ·split at h
     ·cases h
     ·omega
   ·split at h
    ·split at h
     ·cases h
     ·split at h
      ·cases h
      ·omega
    ·cases h
def wE(x:Mk):Int:=wM x.1 x.2.1
def Qi4(x y:Mk):Prop:=Qc x.1 kN=true∨Qc y.1 kN=true∨Qc x.1 y.1=true
theorem Zj2(F:Nat){x y:Mk}(hx:Uv x)(hy:Uv y):Qmq F (x,y)=some (Qlv (wE x) (wE y)):=by
 unfold Qmq Qlv wE;obtain⟨a1,a2⟩:=Qzt hx;obtain⟨b1,b2⟩:=Qzt hy;simp only[Qwm F _ (show-999999999≤x.2.1∧x.2.1≤999999999 by omega),Qwm F _ (show-999999999≤y.2.1∧y.2.1≤999999999 by omega),Option.bind_some];by_cases h1:wM y.1 y.2.1<wM x.1 x.2.1
 ·rw[Zy h1,if_pos h1]
 ·rw[Zq h1,if_neg h1];by_cases h2:wM x.1 x.2.1<wM y.1 y.2.1
  ·rw[Zy h2,if_pos h2]
  ·rw[Zq h2,if_neg h2]
theorem Zm4(F:Nat){x y:Mk}(h:Qi4 x y):Qm2 F (x,y)=some false:=by unfold Qm2;simp only[Ycg];unfold Qi4 at h;cases h1:Qc x.1 y.1<;>cases h2:Qc x.1 kN<;>cases h3:Qc y.1 kN<;>simp_all
theorem Zpg{F:Nat}(hF:400≤F){x y:Mk}(hx:Uv x)(hy:Uv y)(h:Qi4 x y):Qlx F (x,y)=some (Qlv (wE x) (wE y),0):=by
 unfold Qlx;have q:∀(a b c:Int),Wl F (a::b::c::Qa Int)=some (Qn [a,b,c]):=by intro a b c;rw[Quy (by simp[Qa];omega) (by simp[Qa])];rfl
 have hx':=hx;have hy':=hy;unfold Uv at hx' hy';simp only[Zu,l99 hF,Zm4 F h,Zf8,q,hx',hy',Option.bind_some,Zj2 F hx hy];rfl
def mkE(x:Qp):Mk:=(x.2.2.1,x.2.2.2.1,x.2.2.2.2.1)
def dyE(x:Qp):Int:=x.2.2.2.2.2.1
def ltE(x y:Qp):Bool:=decide (wE (mkE y)<wE (mkE x))||(decide (wE (mkE x)=wE (mkE y))&&decide (dyE x<dyE y))
structure Zfb (x y:Qp):Prop where
 mx:Uv (mkE x)
 my:Uv (mkE y)
 k:Qi4 (mkE x) (mkE y)
 dx:0≤dyE x∧dyE x≤99999
 dy:0≤dyE y∧dyE y≤99999
theorem Zal{F:Nat}(hF:400≤F){x y:Qp}(h:Zfb x y):∃v,Qlk F (x,y)=some v∧decide (v<0)=ltE x y:=by
 unfold Qlk;have e:=Zpg hF h.mx h.my h.k;simp only[mkE]at e;simp only[e,Option.bind_some];have d1:=h.dx;have d2:=h.dy;have e2:w64 (x.2.2.2.2.2.1-y.2.2.2.2.2.1)=dyE x-dyE y:=by unfold dyE at d1 d2⊢;rw[Zo (by omega) (by omega)]
 unfold Qlv ltE;simp only[mkE]at*;by_cases h1:wE (y.2.2.1,y.2.2.2.1,y.2.2.2.2.1)<wE (x.2.2.1,x.2.2.2.1,x.2.2.2.2.1)
 ·refine⟨-1,?_,?_⟩<;>simp[h1]
 ·by_cases h2:wE (x.2.2.1,x.2.2.2.1,x.2.2.2.2.1)<wE (y.2.2.1,y.2.2.2.1,y.2.2.2.2.1)
  ·refine⟨1,?_,?_⟩
   ·simp[h1,h2]
   ·have:¬wE (x.2.2.1,x.2.2.2.1,x.2.2.2.2.1)=wE (y.2.2.1,y.2.2.2.1,y.2.2.2.2.1):=by omega
    simp[h1,this]
  ·have h3:wE (x.2.2.1,x.2.2.2.1,x.2.2.2.2.1)=wE (y.2.2.1,y.2.2.2.1,y.2.2.2.2.1):=by omega
   refine⟨dyE x-dyE y,?_,?_⟩
   ·simp[h3,e2]
   ·by_cases h4:dyE x<dyE y
    ·have:dyE x-dyE y<0:=by omega
     simp[h3,h4,this]
    ·have:¬dyE x-dyE y<0:=by omega
     simp[h3,h4,this]
theorem tE:Q6=dE:=rfl
def X9(x:Qp)(l:List Qp):Nat→Nat
 |0=>0
 |n+1=>if ltE x (l.getD n dE)=true then X9 x l n else n+1
theorem Zcr(x:Qp)(l:List Qp):∀n,X9 x l n≤n
 |0=>Nat.le_refl _
 |n+1=>by
  unfold X9;split
  ·have:=Zcr x l n;omega
  ·exact Nat.le_refl _
def Wn(l:List Qp)(x:Qp):List Qp:=l.take (X9 x l l.length)++x::l.drop (X9 x l l.length)
def Z5(l:List Qp):List Qp:=l.foldl Wn []
theorem Zx2(l:List Qp)(x:Qp):(Wn l x).Perm (x::l):=by unfold Wn;refine List.perm_middle.trans ?_;rw[List.take_append_drop]
theorem Zcq:∀(l o:List Qp),(l.foldl Wn o).Perm (l++o)
 |[],o=>List.Perm.refl _
 |x::l,o=>by rw[List.foldl_cons];refine(Zcq l (Wn o x)).trans ?_;refine(List.Perm.append_left l (Zx2 o x)).trans ?_;exact List.perm_middle
theorem Qjo(l:List Qp):(Z5 l).Perm l:=by have:=Zcq l [];rw[List.append_nil]at this;exact this
theorem Qj2(l:List Qp):(Z5 l).length=l.length:=(Qjo l).length_eq
theorem Qk1(l:List Qp)(x:Qp):Z5 (l++[x])=Wn (Z5 l) x:=by unfold Z5;rw[List.foldl_append];rfl
theorem Zzb{l:List Qp}{i:Nat}{x:Qp}(h:l[i]? =some x):Z5 (l.take (i+1))=Wn (Z5 (l.take i)) x:=by rw[List.take_add_one,h];exact Qk1 _ _
def Qbx(l:List Qp):Prop:=∀x∈l,∀y∈l,Zfb x y
theorem Qbx.take{l:List Qp}(h:Qbx l)(i:Nat):Qbx (l.take i):=fun x hx y hy=>h x (List.mem_of_mem_take hx) y (List.mem_of_mem_take hy)
theorem Zgp{A R:List Qp}{y x:Qp}{j:Nat}(h:A.length=j):(A++y::x::R).getD (j+1) dE=x:=by rw[List.getD_eq_getElem?_getD,List.getElem?_append_right (by omega),show j+1-A.length=1 by omega];rfl
theorem Zy0{A R:List Qp}{y x:Qp}{j:Nat}(h:A.length=j):((A++y::x::R).set (j+1) y).set j x=A++x::y::R:=by
 have e:A++y::x::R=(A++[y])++x::R:=by simp
 rw[e,Qwl (by simp[h]),show(A++[y])++y::R=A++y::(y::R)by simp,Qwl h]
theorem Zkh{P:List Qp}{j:Nat}(h:j<P.length):P.take (j+1)=P.take j++[P.getD j dE]:=by rw[List.take_add_one,Qbv dE h];rfl
theorem Zia{P:List Qp}{j:Nat}(h:j<P.length):P.drop j=P.getD j dE::P.drop (j+1):=by rw[List.drop_eq_getElem_cons h,List.getD_eq_getElem?_getD,List.getElem?_eq_getElem h];rfl
theorem Ybu{P R:List Qp}{x:Qp}{n:Nat}(h:P.length=n):P++x::R=P.take n++x::(P.drop n++R):=by subst h;simp
theorem Qyt{step:List Qp×Int→Option ((List Qp×Int) ⊕ List Qp)}{x:Qp}{P R:List Qp}
  (hstep:∀j,j<P.length→ltE x (P.getD j dE)=true→step (P.take j++P.getD j dE::x::(P.drop (j+1)++R),((j+1:Nat):Int))=some (.inl (P.take j++x::P.getD j dE::(P.drop (j+1)++R),(j:Int))))
  (hstop:∀j,j<P.length→ltE x (P.getD j dE)=false→step (P.take j++P.getD j dE::x::(P.drop (j+1)++R),((j+1:Nat):Int))=some (.inr (P.take j++P.getD j dE::x::(P.drop (j+1)++R))))
  (h0:step (x::(P++R),((0:Nat):Int))=some (.inr (x::(P++R)))):
  ∀(j F:Nat),j≤P.length→j<F→Q2 step F (P.take j++x::(P.drop j++R),(j:Int))=some (P.take (X9 x P j)++x::(P.drop (X9 x P j)++R))
 |0,F,hj,hF=>by obtain⟨G,rfl⟩:∃G,F=G+1:=⟨F-1,by omega⟩;simp only[Q2,List.take_zero,List.drop_zero,List.nil_append,h0,X9]
 |j+1,F,hj,hF=>by
  obtain⟨G,rfl⟩:∃G,F=G+1:=⟨F-1,by omega⟩;have e:P.take (j+1)++x::(P.drop (j+1)++R)=P.take j++P.getD j dE::x::(P.drop (j+1)++R):=by rw[Zkh (by omega)];simp
  rw[e];cases h:ltE x (P.getD j dE)with
  |true=>
   simp only[Q2,hstep j (by omega) h];have e2:P.take j++x::P.getD j dE::(P.drop (j+1)++R)=P.take j++x::(P.drop j++R):=by rw[Zia (show j<P.length by omega)];simp
   rw[e2,Qyt hstep hstop h0 j G (by omega) (by omega)];simp only[X9,h,if_true]
  |false=>simp only[Q2,hstop j (by omega) h,X9,h,Bool.false_eq_true,if_false];rw[←e]
theorem Zg3{F:Nat}(hF:400≤F){L:List Qp}(hl:L.length≤300)(h:Qbx L):Qaw F (0,(L.length:Int),L)=some (Z5 L):=by
 unfold Qaw;have e1:w64 (0+1)=1:=Zo (by omega) (by omega);simp only[tE,Zu,e1,Nat.zero_add];by_cases hn:L.length=0
 ·obtain rfl:L=[]:=List.eq_nil_of_length_eq_zero hn;obtain⟨G,rfl⟩:∃G,F=G+1:=⟨F-1,by omega⟩;simp(disch:=decide)only[Q2,Zq,List.length_nil,Int.natCast_zero,Option.bind_some];rfl
 refine Wm (L.drop 1) (fun(_:Unit) i=>(Z5 (L.take (i+1))++L.drop (i+1),((i+1:Nat):Int))) (fun _ _=>(.inl ():Unit ⊕ List Qp)) (fun _=>Z5 L) (fun _ _=>True) () (by rw[List.length_drop];omega) ?_ trivial ?_ ?_ ?_
 ·show(L,((1:Nat):Int))=_;have:L.take 1++L.drop 1=L:=List.take_append_drop 1 L;rw[Nat.zero_add];congr 1;cases L with
  |nil=>rfl
  |cons y t=>rfl
 ·intro i x _ hi hx _;refine⟨?_,fun _ _=>trivial⟩;rw[List.length_drop]at hi;rw[List.getElem?_drop,Nat.add_comm 1 i]at hx;have hx':L[i+1]? =some x:=hx;have hP:(Z5 (L.take (i+1))).length=i+1:=by rw[Qj2];exact Zc7 (by omega)
  have hd:L.drop (i+1)=x::L.drop (i+1+1):=by rw[List.drop_eq_getElem_cons (show i+1<L.length by omega)];congr 1;rw[List.getElem?_eq_getElem (show i+1<L.length by omega)]at hx';exact Option.some.inj hx'
  have hmem:∀j,j<i+1→(Z5 (L.take (i+1))).getD j dE∈L:=fun j hj=>
   List.mem_of_mem_take ((Qjo _).mem_iff.1 (Qe0 dE (by omega)))
  have hxm:x∈L:=List.mem_of_getElem? hx';have hlen:∀j,j<i+1→∀a b:Qp,((Z5 (L.take (i+1))).take j++a::b::((Z5 (L.take (i+1))).drop (j+1)++L.drop (i+1+1))).length=L.length:=fun j hj a b=>by simp only[List.length_append,List.length_cons,List.length_take,List.length_drop,hP];omega
  have htl:∀j,j<i+1→((Z5 (L.take (i+1))).take j).length=j:=fun j hj=>Zc7 (by omega);simp(disch:=omega)only[Zy];rw[Zzb hx',hd];rw[Ybu (R:=L.drop (i+1+1)) (x:=x) hP];rw[Qyt (x:=x) (P:=Z5 (L.take (i+1))) (R:=L.drop (i+1+1)) ?_ ?_ ?_ (i+1) F (by omega) (by omega)]
  ·simp(disch:=omega)only[Option.bind_some,Zo];have:Wn (Z5 (L.take (i+1))) x=(Z5 (L.take (i+1))).take (X9 x (Z5 (L.take (i+1))) (i+1))++x::(Z5 (L.take (i+1))).drop (X9 x (Z5 (L.take (i+1))) (i+1)):=by unfold Wn;rw[hP]
   rw[this,List.append_assoc];rfl
  ·intro j hj hlt;rw[hP]at hj;obtain⟨v,hv1,hv2⟩:=Zal hF (h x hxm _ (hmem j hj));rw[hlt]at hv2;have hw:w64 (((j+1:Nat):Int)-1)=(j:Int):=by rw[Zo (by omega) (by omega)];omega
   have:=hlen j hj;simp(disch:=first|omega|(rw[hlen j hj];omega)|(rw[List.length_set,hlen j hj];omega))only[Zy,Zv,hw,Int.toNat_natCast,Zgp (htl j hj),Zeb (htl j hj),hv1,hv2,Option.bind_some,cond_true,Zy0 (htl j hj)]
  ·intro j hj hlt;rw[hP]at hj;obtain⟨v,hv1,hv2⟩:=Zal hF (h x hxm _ (hmem j hj));rw[hlt]at hv2;have hw:w64 (((j+1:Nat):Int)-1)=(j:Int):=by rw[Zo (by omega) (by omega)];omega
   have:=hlen j hj;simp(disch:=first|omega|(rw[hlen j hj];omega))only[Zy,Zv,hw,Int.toNat_natCast,Zgp (htl j hj),Zeb (htl j hj),hv1,hv2,Option.bind_some,cond_false]
  ·simp(disch:=omega)only[Zq,Option.bind_some,cond_false]
 ·intro _ _;rw[List.length_drop];simp(disch:=omega)only[Zq];rw[show L.length-1+1=L.length by omega,List.take_length,List.drop_length,List.append_nil]
 ·rw[Qg6]
theorem Zux{F:Nat}(hF:400≤F){a n:Int}(ha:0≤a∧a≤1000)(hn:n≤a+1)(L:List Qp):Qaw F (a,n,L)=some L:=by unfold Qaw;obtain⟨G,rfl⟩:∃G,F=G+1:=⟨F-1,by omega⟩;simp(disch:=omega)only[Q2,Zo,Zq,Option.bind_some]
theorem Zmw{F:Nat}(hF:400≤F){L:List Qp}(hl:L.length≤20)(h:Qbx L):Qm8 F ((L.length:Int),L)=some (Z5 L):=by
 unfold Qm8;obtain⟨G,hG⟩:∃G,F=G+2:=⟨F-2,by omega⟩;by_cases h20:L.length=20
 ·have hs:(Z5 L).length=L.length:=Qj2 L;have e1:=Zg3 hF (show L.length≤300 by omega) h;rw[h20]at e1;have e1:Qaw F (0,20,L)=some (Z5 L):=e1;have hw:w64 (20+20)=40:=Zo (by omega) (by omega);have hl1:∀(step:List Qp×Int×Int→Option ((List Qp×Int×Int) ⊕ (List Qp×Int))),step (L,0,20)=some (.inl (Z5 L,20,40))→step (Z5 L,20,40)=some (.inr (Z5 L,20))→Q2 step F (L,0,20)=some (Z5 L,20):=fun step q1 q2=>by rw[hG];simp only[Q2,q1,q2]
  rw[hl1]
  ·have e2:=Zux hF (a:=20) (n:=20) (by omega) (by omega) (Z5 L);simp only[h20,hs,decide_true,Bool.and_self,Zp,Option.bind_some];have e3:Qaw F (20,((20:Nat):Int),Z5 L)=some (Z5 L):=e2;simp only[e3,Option.bind_some];have hl2:∀(step:List Qp×Int→Option ((List Qp×Int) ⊕ List Qp)),step (Z5 L,20)=some (.inr (Z5 L))→Q2 step F (Z5 L,20)=some (Z5 L):=fun step q=>by rw[hG];simp only[Q2,q]
   rw[hl2]
   ·rfl
   ·simp(disch:=omega)only[Zq]
  ·simp(disch:=omega)only[Zy,h20,decide_true,Bool.and_self,Zp,Option.bind_some,e1,hw]
  ·simp(disch:=omega)only[Zq,h20]
 ·have hs:(Z5 L).length=L.length:=Qj2 L;have e1:=Zg3 hF (show L.length≤300 by omega) h;have hl1:∀(step:List Qp×Int×Int→Option ((List Qp×Int×Int) ⊕ (List Qp×Int))),step (L,0,20)=some (.inr (L,0))→Q2 step F (L,0,20)=some (L,0):=fun step q1=>by rw[hG];simp only[Q2,q1]
  rw[hl1]
  ·simp only[decide_true,Bool.and_self,Zp,Option.bind_some,e1];have hl2:∀(step:List Qp×Int→Option ((List Qp×Int) ⊕ List Qp)),step (Z5 L,20)=some (.inr (Z5 L))→Q2 step F (Z5 L,20)=some (Z5 L):=fun step q=>by rw[hG];simp only[Q2,q]
   rw[hl2]
   ·rfl
   ·simp(disch:=omega)only[Zq]
  ·simp(disch:=omega)only[Zq]
theorem Zvs{F:Nat}(hF:400≤F){L:List Qp}(hl:L.length≤20)(h:Qbx L):Qnq F L=some (Z5 L):=by unfold Qnq;simp only[decide_true,Bool.and_self,Zp,Option.bind_some,Zmw hF hl h]
def J4(s:Qw)(c:ByteArray):List Qp:=s.2.2.2.1.filter fun e=>Qc e.2.1 c
def Jv(s:Qw)(c:ByteArray):List Qp:=Z5 (J4 s c)
theorem Yfc{F:Nat}(hF:400≤F){s:Qw}(hS:SmS s){c:ByteArray}(hl:(J4 s c).length≤20)(h:Qbx (J4 s c)):Qff F (s,c)=some (Jv s c):=by
 have e:∀y:Qp,y::Qa Qp=[y]:=fun _=>rfl;have h1:=hS.e;unfold Qff;simp only[tE,Zu];refine Zsu s.2.2.2.1 (fun x=>Qc x.2.1 c) (fun x=>x) (by omega) ?_ ?_ ?_
 ·intro i x out hi hx ho;have hl2:(out++[x]).length≤301:=by simp;omega
  simp(disch:=omega)only[Zy,Zv,Int.toNat_natCast,getD_some hx,Zo,e,decide_true,Bool.and_self,Zp,Option.bind_some];cases Qc x.2.1 c
  ·simp[Zp]
  ·simp only[cond_true,if_true,Option.bind_some]
 ·intro out ho;simp(disch:=omega)only[Zq,decide_true,Bool.and_self,Zp,Option.bind_some]
 ·intro _;rw[List.map_id'];have hs:=Qj2 (J4 s c);have e2:=Zvs hF hl h;unfold J4 at hs e2 h hl;simp only[decide_true,Bool.and_self,Zp,Option.bind_some,e2,Nat.zero_add,hs,Nat.le_refl,List.drop_zero];rw[←hs,List.take_length];rfl
theorem Qt9{m:Mt}{s:Qw}(hv:Z0 m s=0){x:Qp}(hx:x∈s.2.2.2.1):
  0≤cI m x.2.1∧(cAt m x.2.1).2.2.2.2.2.2.2.2.2.2≤0∧Uv (mkE x)∧Wv (cAt m x.2.1).2.1 x.2.2.1=true∧0≤dyE x∧dyE x≤99999:=by
 obtain⟨i,hi,e⟩:=List.getElem_of_mem hx;have h:=Qoo hv hi;have e2:s.2.2.2.1.getD i dE=x:=by rw[getD_some (List.getElem?_eq_getElem hi),e]
 unfold Jw at h;rw[e2]at h;by_cases h1:aI s x.1<0∨cI m x.2.1<0
 ·simp[h1]at h
 ·rw[if_neg h1]at h;by_cases h2:0<(cAt m x.2.1).2.2.2.2.2.2.2.2.2.2
  ·simp[h2]at h
  ·rw[if_neg h2]at h;by_cases h3:(s.2.2.2.1.take i).any (eP x.1 x.2.1)=true
   ·simp[h3]at h
   ·rw[if_neg h3]at h;by_cases h4:Jf x.2.2.1 x.2.2.2.1 x.2.2.2.2.1=0
    ·rw[if_pos h4]at h;by_cases h5:Wv (cAt m x.2.1).2.1 x.2.2.1=true
     ·rw[if_pos h5]at h;by_cases h6:Z7 x.2.2.2.2.2.1=true
      ·simp[h6]at h
      ·unfold Z7 at h6;simp only[Bool.or_eq_true,decide_eq_true_eq]at h6;refine⟨by omega,by omega,h4,h5,?_,?_⟩<;>(unfold dyE;omega)
     ·simp[h5]at h
    ·rw[if_neg h4]at h;exact absurd h h4
theorem Yc8{m:Mt}{s:Qw}(hv:Z0 m s=0)(c:ByteArray){l:List Qp}(hl:∀x∈l,x∈s.2.2.2.1∧Qc x.2.1 c=true):Qbx l:=by
 intro x hx y hy;obtain⟨hx1,hx2⟩:=hl x hx;obtain⟨hy1,hy2⟩:=hl y hy;obtain⟨-,-,a3,a4,a5⟩:=Qt9 hv hx1;obtain⟨-,-,b3,b4,b5⟩:=Qt9 hv hy1;refine⟨a3,b3,?_,a5,b5⟩;have ex:=Je.1 hx2;have ey:=Je.1 hy2;rw[ex]at a4;rw[ey]at b4;unfold Wv at a4 b4;simp only[Bool.or_eq_true]at a4 b4;unfold Qi4 mkE;rcases a4 with a4|a4
 ·rcases b4 with b4|b4
  ·right;right;rw[Je.1 a4,Je.1 b4];exact Jm _
  ·exact .inr (.inl b4)
 ·exact .inl a4
def Qkn(s:Qw)(c:ByteArray)(k:Bool):List Qp:=s.2.2.2.1.filter fun e=>Qc e.2.1 c&&(!k||e.2.2.2.2.2.2)
theorem Zol(s:Qw)(c:ByteArray):Qkn s c false=J4 s c:=by unfold Qkn J4;simp
theorem Zxk{s:Qw}{c:ByteArray}{k:Bool}:∀x∈Qkn s c k,x∈s.2.2.2.1∧Qc x.2.1 c=true:=fun x hx=>by unfold Qkn at hx;rw[List.mem_filter]at hx;obtain⟨h1,h2⟩:=hx;simp only[Bool.and_eq_true]at h2;exact⟨h1,h2.1⟩
def Vz(l:List ByteArray)(c:ByteArray):Nat:=(l.filter fun x=>Qc x c).length
theorem Qmj(l:List ByteArray)(b c:ByteArray):Vz (l++[b]) c=Vz l c+if Qc b c=true then 1 else 0:=by unfold Vz;rw[List.filter_append,List.length_append];cases h:Qc b c<;>simp[h]
theorem Yi1(l:List ByteArray)(c:ByteArray):Vz l c≤l.length:=List.length_filter_le _ _
abbrev Dv:=List ByteArray×List ByteArray×List ByteArray
def inD(s:Qw)(P C:Int)(d:Dv)(e:Qp):Bool:=decide ((d.2.1.length:Int)<P)&&decide ((Vz d.2.2 (X8 s e.1):Int)<C)
def Yi(s:Qw)(P C:Int)(d:Dv)(e:Qp):Dv:=if inD s P C d e=true then(d.1,d.2.1++[e.1],d.2.2++[X8 s e.1])else(d.1++[e.1],d.2.1,d.2.2)
def X2(s:Qw)(P C:Int)(L:List Qp):Dv:=L.foldl (Yi s P C) ([],[],[])
theorem Zlc(s:Qw)(P C:Int)(d:Dv)(e:Qp):(Yi s P C d e).1.length+(Yi s P C d e).2.1.length=d.1.length+d.2.1.length+1∧((Yi s P C d e).2.1.length=(Yi s P C d e).2.2.length↔d.2.1.length=d.2.2.length):=by unfold Yi;cases inD s P C d e<;>simp<;>omega
def Qpu(q:List (ByteArray×Int))(l:List ByteArray):Prop:=∀k,Y2 Qc k q 0=(Vz l k:Int)
theorem Qpu.put{q:List (ByteArray×Int)}{l:List ByteArray}(h:Qpu q l)(b:ByteArray):Qpu (Wc Qc b (Y2 Qc b q 0+1) q) (l++[b]):=by
 intro k;rw[Zha Zbs,Qmj];have h1:=h k;have h2:=h b;by_cases e:b=k
 ·subst e;simp[Jm,h1]
 ·simp[Qs3 e,Qs3 (fun h:k=b=>e h.symm),h1]
theorem Zda{α β γ:Type}(f:β×γ→α→β)(g:γ→α→γ):∀(l:List α) (z:β×γ),(l.foldl (fun q x=>(f q x,g q.2 x)) z).2=l.foldl g z.2
 |[],_=>rfl
 |x::l,z=>by rw[List.foldl_cons,Zda f g l,List.foldl_cons]
theorem Yi8{F:Nat}(hF:400≤F){s:Qw}(hS:SmS s)(ct:Cst){L:List Qp}(hl:L.length≤300)(hk:∀x∈L,0≤aI s x.1)(w:Bool):
  Qhb F (s,ct,L,w)=some (if w=true then(X2 s ct.2.2.2.2.2.1 ct.2.2.2.2.2.2.1 L).2.1 else(X2 s ct.2.2.2.2.2.1 ct.2.2.2.2.2.2.1 L).1):=by
 have e:∀y:ByteArray,y::Qa ByteArray=[y]:=fun _=>rfl;unfold Qhb;simp only[tE,Zu];generalize hP:ct.2.2.2.2.2.1=P;generalize hC:ct.2.2.2.2.2.2.1=C;refine Wm L (fun(q:List (ByteArray×Int)×Dv) i=>((),q.1,(if w=true then q.2.2.1 else q.2.1),(q.2.2.1.length:Int),(i:Int)))
  (fun x q=>.inl (if inD s P C q.2 x=true then Wc Qc (X8 s x.1) (Y2 Qc (X8 s x.1) q.1 0+1) q.1 else q.1,Yi s P C q.2 x)) (fun q=>((),q.1,if w=true then q.2.2.1 else q.2.1))
  (fun i q=>Qpu q.1 q.2.2.2∧q.2.1.length+q.2.2.1.length=i∧q.2.2.1.length=q.2.2.2.length) ([],[],[],[]) (by omega) (by cases w<;>rfl) ⟨fun k=>by simp[Zmn,Vz],rfl,rfl⟩ ?_ ?_ ?_
 ·rintro i x ⟨q,r,a,cl⟩ hi hx ⟨hq,hn,hc⟩
  simp only at hq hn hc;have hkx:=hk x (List.mem_of_getElem? hx);have hc1:=hq (X8 s x.1);have hc2:=Yi1 cl (X8 s x.1);have n1:(a++[x.1]).length≤301:=by simp;omega
  have n2:(r++[x.1]).length≤301:=by simp;omega
  refine⟨?_,fun s' hs=>?_⟩
  ·have n3:(if w=true then a else r).length≤300:=by cases w<;>simp<;>omega
   have n4:((if w=true then a else r)++[x.1]).length≤301:=by simp;omega
   simp(disch:=omega)only[Zy,Zv,Int.toNat_natCast,getD_some hx,Zo,Zu,Ye0 hF hS hkx,hc1,hP,hC,Option.bind_some,e,decide_true,Bool.and_self,Zp];by_cases p1:(a.length:Int)<P
   ·by_cases p2:(Vz cl (X8 s x.1):Int)<C
    ·have hd:inD s P C (r,a,cl) x=true:=by simp[inD,p1,p2]
     simp only[p1,p2,hd,Yi,decide_true,cond_true,if_true,Option.bind_some];cases w<;>simp[Zp]
    ·have hd:inD s P C (r,a,cl) x=false:=by simp[inD,p1,p2]
     simp only[p1,p2,hd,Yi,decide_true,decide_false,cond_true,cond_false,if_true,if_false,Bool.false_eq_true,Option.bind_some];cases w<;>simp[Zp]
   ·have hd:inD s P C (r,a,cl) x=false:=by simp[inD,p1]
    simp only[p1,hd,Yi,decide_false,cond_false,if_false,Bool.false_eq_true,Option.bind_some];cases w<;>simp[Zp]
  ·simp only[Sum.inl.injEq]at hs;subst hs;cases hd:inD s P C (r,a,cl) x
   ·simp only[hd,Yi,Bool.false_eq_true,if_false];refine⟨hq,?_,hc⟩;simp only[List.length_append,List.length_singleton];omega
   ·simp only[hd,Yi,if_true];refine⟨hq.put _,?_,?_⟩<;>simp only[List.length_append,List.length_singleton]<;>omega
 ·rintro ⟨q,r,a,cl⟩ ⟨hq,hn,hc⟩
  simp only at hn hc;have n3:(if w=true then a else r).length≤300:=by cases w<;>simp<;>omega
  simp(disch:=omega)only[Zq,decide_true,Bool.and_self,Zp,Option.bind_some]
 ·rw[Qhr (fun(q:List (ByteArray×Int)×Dv) (x:Qp)=>(if inD s P C q.2 x=true then Wc Qc (X8 s x.1) (Y2 Qc (X8 s x.1) q.1 0+1) q.1 else q.1,Yi s P C q.2 x))];rw[Zda (fun(q:List (ByteArray×Int)×Dv) (x:Qp)=>if inD s P C q.2 x=true then Wc Qc (X8 s x.1) (Y2 Qc (X8 s x.1) q.1 0+1) q.1 else q.1) (Yi s P C) L ([],[],[],[])];change gd _ (some (List.take (List.length (if w=true then(X2 s P C L).2.1 else(X2 s P C L).1)) (List.drop 0 (if w=true then(X2 s P C L).2.1 else(X2 s P C L).1))))=_;simp only[Nat.zero_add,Nat.le_refl,decide_true,Bool.and_self,Zp,List.drop_zero,List.take_length]
def Qkc(m:Mt)(c:ByteArray):Cst:=if cI m c<0 then Qi8 else cAt m c
def Qb5(m:Mt)(s:Qw)(c:ByteArray)(relay:Bool):Int:=Qn [Z0 m s,if cI m c<0 then 10 else 0,if(decide (0<(Qkc m c).2.2.2.2.2.2.2.2.2.2)==relay)=true then 0 else 13]
theorem Zr1{F:Nat}(hF:400≤F){m:Mt}(hm:m.2.2.2.2.length≤300)(hb:∀x∈m.2.2.2.2,x.1.size≤300∧x.2.2.1.size≤300){s:Qw}(h:SmS s)(c:ByteArray)(relay:Bool):
  Qjz F (m,s,c,relay)=some (Qkc m c,Qb5 m s c relay):=by
 have e3:∀a b c,Q9 F (a::b::c::Qa Int)=some (Qn [a,b,c]):=fun a b c=>J1 hF (by simp[Qa]);unfold Qjz Qb5 Qkc;simp only[Zu,Qqv hF hm,l25 hF hm hb h,l86,Option.bind_some];by_cases hc:cI m c<0
 ·simp only[hc,if_true,l86,e3,Option.bind_some];cases(decide (0<Qi8.2.2.2.2.2.2.2.2.2.2)==relay)<;>rfl
 ·simp only[hc,if_false,l86,e3,Option.bind_some];cases(decide (0<(cAt m c).2.2.2.2.2.2.2.2.2.2)==relay)<;>rfl
theorem Zyj{m:Mt}{s:Qw}{c:ByteArray}{r:Bool}(h:Qb5 m s c r=0):Z0 m s=0∧0≤cI m c:=by
 have h1:=U1 h (Z0 m s) (by simp);have h2:=U1 h (if cI m c<0 then 10 else 0) (by simp);refine⟨h1,?_⟩;by_cases h3:cI m c<0
 ·simp[h3]at h2
 ·omega
theorem Qo5{m:Mt}{s:Qw}(hv:Z0 m s=0)(h:ShS s):s.2.2.2.1.length≤20:=by
 rcases h.e with h1|⟨h1,-⟩
 ·exact h1
 ·have h3:mtE m=0:=by
   by_cases h:mtE m=0
   ·exact h
   ·rw[Z0,if_neg h]at hv;exact absurd hv h
  have h2:Jr s:=by unfold Jr;omega
  rw[Z0,if_pos h3,if_pos h2]at hv;exact absurd hv (by decide)
def Xu(m:Mt)(s:Qw)(c:ByteArray):Dv:=X2 s (cAt m c).2.2.2.2.2.1 (cAt m c).2.2.2.2.2.2.1 (Jv s c)
theorem Zbt{s:Qw}{c:ByteArray}:∀x∈J4 s c,x∈s.2.2.2.1∧Qc x.2.1 c=true:=fun x hx=>by rw[←Zol]at hx;exact Zxk x hx
theorem Zet(s:Qw)(c:ByteArray):(J4 s c).length≤s.2.2.2.1.length:=List.length_filter_le _ _
theorem Zmo{F:Nat}(hF:400≤F){m:Mt}{s:Qw}(h:ShS s){c:ByteArray}(hv:Z0 m s=0):Qff F (s,c)=some (Jv s c):=
 Yfc hF h.sm (by have:=Qo5 hv h;have:=Zet s c;omega) (Yc8 hv c Zbt)
theorem Zlh{m:Mt}{s:Qw}(hv:Z0 m s=0){c:ByteArray}:∀x∈Jv s c,0≤aI s x.1:=fun x hx=>
 Qwy hv (Zbt x ((Qjo _).mem_iff.1 hx)).1
theorem Qqx{m:Mt}{s:Qw}(h:ShS s)(hv:Z0 m s=0)(c:ByteArray):(Jv s c).length≤20:=by unfold Jv;rw[Qj2];have:=Qo5 hv h;have:=Zet s c;omega
theorem Qwz{m:Mt}{c:ByteArray}(h:0≤cI m c):Qkc m c=cAt m c:=by unfold Qkc;rw[if_neg (by omega)]
theorem l52{F:Nat}(hF:400≤F){m:Mt}(hm:m.2.2.2.2.length≤300)(hb:∀x∈m.2.2.2.2,x.1.size≤300∧x.2.2.1.size≤300){s:Qw}(h:ShS s)(c:ByteArray):
  c52 F (m,s,c)=some (if Qb5 m s c false=0 then((Xu m s c).2.1,0)else([],Qb5 m s c false)):=by
 unfold c52;simp only[Zu,Zr1 hF hm hb h.sm,Option.bind_some];by_cases hv:Qb5 m s c false=0
 ·obtain⟨v1,v2⟩:=Zyj hv;simp only[hv,decide_true,Bool.not_true,cond_false,if_true,Zmo hF h v1,Qwz v2,Yi8 hF h.sm (cAt m c) (show(Jv s c).length≤300 by have:=Qqx h v1 c;omega) (Zlh v1),Option.bind_some];rfl
 ·simp only[hv,decide_false,Bool.not_false,cond_true,if_false];rfl
theorem Yfb{x a b:Qp}(h1:ltE x a=true)(h2:ltE b a=false):ltE x b=true:=by unfold ltE at*;simp only[Bool.or_eq_true,Bool.and_eq_true,decide_eq_true_eq,Bool.or_eq_false_iff,Bool.and_eq_false_iff,decide_eq_false_iff_not]at*;omega
theorem Yjq{x y:Qp}(h:ltE x y=true):ltE y x=false:=by unfold ltE at*;simp only[Bool.or_eq_true,Bool.and_eq_true,decide_eq_true_eq,Bool.or_eq_false_iff,Bool.and_eq_false_iff,decide_eq_false_iff_not]at*;omega
theorem Yc9{x y z:Qp}(h:ltE x y=true)(h2:ltE y z=true):ltE x z=true:=by unfold ltE at*;simp only[Bool.or_eq_true,Bool.and_eq_true,decide_eq_true_eq]at*;omega
def Us(l:List Qp):Prop:=l.Pairwise fun a b=>ltE b a=false
theorem Qy9(x:Qp)(Q R:List Qp):∀n,n≤Q.length→X9 x (Q++R) n=X9 x Q n
 |0,_=>rfl
 |n+1,h=>by
  have e:(Q++R).getD n dE=Q.getD n dE:=by simp only[List.getD_eq_getElem?_getD];rw[List.getElem?_append_left (by omega)]
  simp only[X9,e,Qy9 x Q R n (by omega)]
theorem Quo{α:Type}(l:List α):l=[]∨∃q z,l=q++[z]:=by
 rcases l.eq_nil_or_concat with h|⟨q,z,h⟩
 ·exact .inl h
 ·exact .inr ⟨q,z,by simpa using h⟩
theorem Qy3(x:Qp):∀(n:Nat) (P:List Qp),P.length=n→Us P→P.take (X9 x P n)=P.filter (fun y=>!ltE x y)∧P.drop (X9 x P n)=P.filter fun y=>ltE x y
 |0,P,h,_=>by obtain rfl:=List.eq_nil_of_length_eq_zero h;exact⟨rfl,rfl⟩
 |n+1,P,h,hs=>by
  rcases Quo P with rfl|⟨Q,z,rfl⟩
  ·simp at h
  ·have hQ:Q.length=n:=by simpa using h
   unfold Us at hs;rw[List.pairwise_append]at hs;obtain⟨s1,-,s2⟩:=hs;have e:(Q++[z]).getD n dE=z:=by simp only[List.getD_eq_getElem?_getD];rw[List.getElem?_append_right (by omega),hQ];simp
   have hp:X9 x (Q++[z]) (n+1)=if ltE x z=true then X9 x Q n else n+1:=by simp only[X9,e,Qy9 x Q [z] n (by omega)]
   rw[hp];cases hz:ltE x z with
   |true=>obtain⟨i1,i2⟩:=Qy3 x n Q hQ s1;have hle:=Zcr x Q n;simp only[if_true];rw[List.take_append_of_le_length (by omega),List.drop_append_of_le_length (by omega),i1,i2];simp[hz]
   |false=>
    have all:∀y∈Q,ltE x y=false:=fun y hy=>by
     cases hxy:ltE x y with
     |false=>rfl
     |true=>rw[Yfb hxy (s2 y hy z (by simp))]at hz;cases hz
    simp only[Bool.false_eq_true,if_false];rw[List.take_of_length_le (by simp;omega),List.drop_of_length_le (by simp;omega)];constructor
    ·rw[List.filter_eq_self.2];intro y hy;rcases List.mem_append.1 hy with hy|hy
     ·simp[all y hy]
     ·obtain rfl:=List.mem_singleton.1 hy;simp[hz]
    ·rw[List.filter_eq_nil_iff.2];intro y hy;rcases List.mem_append.1 hy with hy|hy
     ·simp[all y hy]
     ·obtain rfl:=List.mem_singleton.1 hy;simp[hz]
theorem Qt6{P:List Qp}(hs:Us P)(x:Qp):Wn P x=P.filter (fun y=>!ltE x y)++x::P.filter fun y=>ltE x y:=by obtain⟨h1,h2⟩:=Qy3 x P.length P rfl hs;unfold Wn;rw[h1,h2]
theorem Yj1{P:List Qp}(hs:Us P)(x:Qp):Us (Wn P x):=by
 rw[Qt6 hs];unfold Us;rw[List.pairwise_append];refine⟨List.Pairwise.filter _ hs,?_,?_⟩
 ·rw[List.pairwise_cons];refine⟨fun b hb=>?_,List.Pairwise.filter _ hs⟩;exact Yjq (List.mem_filter.1 hb).2
 ·intro a ha b hb;have h1:ltE x a=false:=by simpa using(List.mem_filter.1 ha).2
  rcases List.mem_cons.1 hb with rfl|hb
  ·exact h1
  ·have h2:=(List.mem_filter.1 hb).2;cases h3:ltE b a with
   |false=>rfl
   |true=>rw[Yc9 h2 h3]at h1;cases h1
theorem Zob{P:List Qp}(hs:Us P)(x:Qp)(p:Qp→Bool):(Wn P x).filter p=if p x=true then Wn (P.filter p) x else P.filter p:=by
 cases hp:p x with
 |true=>have hs2:Us (P.filter p):=List.Pairwise.filter _ hs;rw[Qt6 hs,Qt6 hs2,if_pos rfl,List.filter_append,List.filter_cons,if_pos hp];simp only[List.filter_filter,Bool.and_comm]
 |false=>unfold Wn;rw[List.filter_append,List.filter_cons];simp only[hp,Bool.false_eq_true,if_false];rw[←List.filter_append,List.take_append_drop]
theorem Zii(l:List Qp):Us (Z5 l):=by
 have h:∀(n:Nat) (l:List Qp),l.length=n→Us (Z5 l):=by
  intro n;induction n with
  |zero=>intro l h;obtain rfl:=List.eq_nil_of_length_eq_zero h;exact List.Pairwise.nil
  |succ n ih=>
   intro l h;rcases Quo l with rfl|⟨q,z,rfl⟩
   ·simp at h
   ·rw[Qk1];exact Yj1 (ih q (by simpa using h)) z
 exact h _ l rfl
theorem Yg3(p:Qp→Bool)(l:List Qp):(Z5 l).filter p=Z5 (l.filter p):=by
 have h:∀(n:Nat) (l:List Qp),l.length=n→(Z5 l).filter p=Z5 (l.filter p):=by
  intro n;induction n with
  |zero=>intro l h;obtain rfl:=List.eq_nil_of_length_eq_zero h;rfl
  |succ n ih=>
   intro l h;rcases Quo l with rfl|⟨q,z,rfl⟩
   ·simp at h
   ·rw[Qk1,Zob (Zii q),ih q (by simpa using h),List.filter_append];cases hp:p z with
    |true=>simp only[List.filter_cons,hp,if_true,List.filter_nil];rw[Qk1]
    |false=>simp[hp]
 exact h _ l rfl
end Go.Proofs.Tryz
section

end

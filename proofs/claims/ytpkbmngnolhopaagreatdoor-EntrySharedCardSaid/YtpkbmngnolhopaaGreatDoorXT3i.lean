/- Plain law: marks compared, in the program and in the reference. Plain law: entries in order, in the program and in the reference. And further parts. -/
import Derived.Test.YtpkbmngnolhopaaGreatDoorXT3g
import Derived.Test.YtpkbmngnolhopaaGreatDoorXTeB2
import Derived.Test.YtpkbmngnolhopaaGreatDoorXTeB3
set_option maxRecDepth 100000
set_option linter.unusedVariables false
set_option linter.unusedSimpArgs false
set_option linter.all false
namespace Go.Proofs.Tryz
open Go Go.Sx
abbrev Mk:=ByteArray×Int×ByteArray
theorem Zdc:({data:=List.toArray ((108:UInt8)::(101:UInt8)::(110:UInt8)::(103:UInt8)::(116:UInt8)::(104:UInt8)::Qb UInt8)}:ByteArray)=kL:=rfl
theorem Zd0:({data:=List.toArray ((112:UInt8)::(111:UInt8)::(105:UInt8)::(110:UInt8)::(116:UInt8)::(115:UInt8)::Qb UInt8)}:ByteArray)=kP:=rfl
theorem Zlj:({data:=List.toArray ((116:UInt8)::(105:UInt8)::(109:UInt8)::(101:UInt8)::Qb UInt8)}:ByteArray)=kT:=rfl
theorem Yag:({data:=List.toArray ((110:UInt8)::(111:UInt8)::(110:UInt8)::(101:UInt8)::Qb UInt8)}:ByteArray)=kN:=rfl
def wM(k:ByteArray)(v:Int):Int:=if Qf k kT=true then-v else if Qf k kL=true then v else if Qf k kP=true then v else-864000000
def Qlo(a b:Int):Int:=if b<a then-1 else if a<b then 1 else 0
def Ka(x:Mk):Prop:=Jh x.1 x.2.1 x.2.2=0
theorem Qw1(F:Nat){k:ByteArray}{v:Int}(r:ByteArray)(hv:-999999999≤v∧v≤999999999):Qf5 F (k,v,r)=some (wM k v):=by
 unfold Qf5 tw;have hw:IntKind.wrap IntKind.i64 (0-v)= -v:=by rw[show IntKind.wrap IntKind.i64 (0-v)=w64 (0-v)from rfl,Zb (by omega) (by omega)];omega
 simp only[hw,Zlj,Zdc,Zd0];have g:∀x:Int,gd (Qx.eqv (Qe.val (Ty.int Go.IntKind.i64)::Qb Qe) x x) (some x)=some x:=by
  intro x;have:Qx.eqv (Qe.val (Ty.int Go.IntKind.i64)::Qb Qe) x x=true:=by change Vh x x=true;simp[Vh]
  rw[this];rfl
 unfold wM;cases Qf k kT<;>cases Qf k kL<;>cases Qf k kP<;>simp[g]
theorem Qyh{x:Mk}(h:Ka x):0≤x.2.1∧x.2.1≤863999999:=by
 unfold Ka Jh at h;split at h
 ·split at h
  ·cases h
  ·split at h
   ·cases h
   ·rename_i h3;have:x.2.1=0:=by simpa using h3
    omega
 ·split at h
  ·split at h
   ·cases h
   ·split at h
    ·cases h
    ·omega
  ·split at h
   ·split at h
    ·cases h
    ·split at h
     ·cases h
     ·omega
   ·split at h
    ·split at h
     ·cases h
     ·split at h
      ·cases h
      ·omega
    ·cases h
def wE(x:Mk):Int:=wM x.1 x.2.1
def Qfk(x y:Mk):Prop:=Qf x.1 kN=true∨Qf y.1 kN=true∨Qf x.1 y.1=true
theorem Zlh(F:Nat){x y:Mk}(hx:Ka x)(hy:Ka y):Qmh F (x,y)=some (Qlo (wE x) (wE y)):=by
 unfold Qmh Qlo wE;obtain⟨a1,a2⟩:=Qyh hx;obtain⟨b1,b2⟩:=Qyh hy;simp only[Qw1 F _ (show-999999999≤x.2.1∧x.2.1≤999999999 by omega),Qw1 F _ (show-999999999≤y.2.1∧y.2.1≤999999999 by omega),Option.bind_some];by_cases h1:wM y.1 y.2.1<wM x.1 x.2.1
 ·rw[Ze h1,if_pos h1]
 ·rw[Zd h1,if_neg h1];by_cases h2:wM x.1 x.2.1<wM y.1 y.2.1
  ·rw[Ze h2,if_pos h2]
  ·rw[Zd h2,if_neg h2]
theorem Zfd(F:Nat){x y:Mk}(h:Qfk x y):Qjl F (x,y)=some false:=by unfold Qjl;simp only[Yag];unfold Qfk at h;cases h1:Qf x.1 y.1<;>cases h2:Qf x.1 kN<;>cases h3:Qf y.1 kN<;>simp_all
theorem Zdp{F:Nat}(hF:400≤F){x y:Mk}(hx:Ka x)(hy:Ka y)(h:Qfk x y):Qh9 F (x,y)=some (Qlo (wE x) (wE y),0):=by
 unfold Qh9;have q:∀(a b c:Int),Jg F (a::b::c::Qb Int)=some (Qn [a,b,c]):=by intro a b c;rw[Qp6 (by simp[Qb];omega) (by simp[Qb])];rfl
 have hx':=hx;have hy':=hy;unfold Ka at hx' hy';simp only[Zp,l99 hF,Zfd F h,Qwc,q,hx',hy',Option.bind_some,Zlh F hx hy];rfl
def mkE(x:Qy):Mk:=(x.2.2.1,x.2.2.2.1,x.2.2.2.2.1)
def dyE(x:Qy):Int:=x.2.2.2.2.2.1
def ltE(x y:Qy):Bool:=decide (wE (mkE y)<wE (mkE x))||(decide (wE (mkE x)=wE (mkE y))&&decide (dyE x<dyE y))
structure Qze (x y:Qy):Prop where
 mx:Ka (mkE x)
 my:Ka (mkE y)
 k:Qfk (mkE x) (mkE y)
 dx:0≤dyE x∧dyE x≤99999
 dy:0≤dyE y∧dyE y≤99999
theorem Qzl{F:Nat}(hF:400≤F){x y:Qy}(h:Qze x y):∃v,Qia F (x,y)=some v∧decide (v<0)=ltE x y:=by
 unfold Qia;have e:=Zdp hF h.mx h.my h.k;simp only[mkE]at e;simp only[e,Option.bind_some];have d1:=h.dx;have d2:=h.dy;have e2:w64 (x.2.2.2.2.2.1-y.2.2.2.2.2.1)=dyE x-dyE y:=by unfold dyE at d1 d2⊢;rw[Zb (by omega) (by omega)]
 unfold Qlo ltE;simp only[mkE]at*;by_cases h1:wE (y.2.2.1,y.2.2.2.1,y.2.2.2.2.1)<wE (x.2.2.1,x.2.2.2.1,x.2.2.2.2.1)
 ·refine⟨-1,?_,?_⟩<;>simp[h1]
 ·by_cases h2:wE (x.2.2.1,x.2.2.2.1,x.2.2.2.2.1)<wE (y.2.2.1,y.2.2.2.1,y.2.2.2.2.1)
  ·refine⟨1,?_,?_⟩
   ·simp[h1,h2]
   ·have:¬wE (x.2.2.1,x.2.2.2.1,x.2.2.2.2.1)=wE (y.2.2.1,y.2.2.2.1,y.2.2.2.2.1):=by omega
    simp[h1,this]
  ·have h3:wE (x.2.2.1,x.2.2.2.1,x.2.2.2.2.1)=wE (y.2.2.1,y.2.2.2.1,y.2.2.2.2.1):=by omega
   refine⟨dyE x-dyE y,?_,?_⟩
   ·simp[h3,e2]
   ·by_cases h4:dyE x<dyE y
    ·have:dyE x-dyE y<0:=by omega
     simp[h3,h4,this]
    ·have:¬dyE x-dyE y<0:=by omega
     simp[h3,h4,this]
theorem tE:Zm=dE:=rfl
def Ke(x:Qy)(l:List Qy):Nat→Nat
 |0=>0
 |n+1=>if ltE x (l.getD n dE)=true then Ke x l n else n+1
def Kv(l:List Qy)(x:Qy):List Qy:=l.take (Ke x l l.length)++x::l.drop (Ke x l l.length)
def Z2(l:List Qy):List Qy:=l.foldl Kv []
theorem Zpz(l:List Qy)(x:Qy):(Kv l x).Perm (x::l):=by unfold Kv;refine List.perm_middle.trans ?_;rw[List.take_append_drop]
theorem Qxj:∀(l o:List Qy),(l.foldl Kv o).Perm (l++o)
 |[],o=>List.Perm.refl _
 |x::l,o=>by rw[List.foldl_cons];refine(Qxj l (Kv o x)).trans ?_;refine(List.Perm.append_left l (Zpz o x)).trans ?_;exact List.perm_middle
theorem Qn0(l:List Qy):(Z2 l).Perm l:=by have:=Qxj l [];rw[List.append_nil]at this;exact this
theorem Qf7(l:List Qy):(Z2 l).length=l.length:=(Qn0 l).length_eq
theorem Zkq(l:List Qy)(x:Qy):Z2 (l++[x])=Kv (Z2 l) x:=by unfold Z2;rw[List.foldl_append];rfl
theorem Zv1{l:List Qy}{i:Nat}{x:Qy}(h:l[i]? =some x):Z2 (l.take (i+1))=Kv (Z2 (l.take i)) x:=by rw[List.take_add_one,h];exact Zkq _ _
def Qao(l:List Qy):Prop:=∀x∈l,∀y∈l,Qze x y
theorem Qao.take{l:List Qy}(h:Qao l)(i:Nat):Qao (l.take i):=fun x hx y hy=>h x (List.mem_of_mem_take hx) y (List.mem_of_mem_take hy)
theorem Qw5{A R:List Qy}{y x:Qy}{j:Nat}(h:A.length=j):(A++y::x::R).getD (j+1) dE=x:=by rw[List.getD_eq_getElem?_getD,List.getElem?_append_right (by omega),show j+1-A.length=1 by omega];rfl
theorem Zxm{A R:List Qy}{y x:Qy}{j:Nat}(h:A.length=j):((A++y::x::R).set (j+1) y).set j x=A++x::y::R:=by
 have e:A++y::x::R=(A++[y])++x::R:=by simp
 rw[e,Qup (by simp[h]),show(A++[y])++y::R=A++y::(y::R)by simp,Qup h]
theorem Zic{P:List Qy}{j:Nat}(h:j<P.length):P.take (j+1)=P.take j++[P.getD j dE]:=by rw[List.take_add_one,Uw dE h];rfl
theorem Zmp{P:List Qy}{j:Nat}(h:j<P.length):P.drop j=P.getD j dE::P.drop (j+1):=by rw[List.drop_eq_getElem_cons h,List.getD_eq_getElem?_getD,List.getElem?_eq_getElem h];rfl
theorem Yab{P R:List Qy}{x:Qy}{n:Nat}(h:P.length=n):P++x::R=P.take n++x::(P.drop n++R):=by subst h;simp
theorem Zcg{step:List Qy×Int→Option ((List Qy×Int) ⊕ List Qy)}{x:Qy}{P R:List Qy}
  (hstep:∀j,j<P.length→ltE x (P.getD j dE)=true→step (P.take j++P.getD j dE::x::(P.drop (j+1)++R),((j+1:Nat):Int))=some (.inl (P.take j++x::P.getD j dE::(P.drop (j+1)++R),(j:Int))))
  (hstop:∀j,j<P.length→ltE x (P.getD j dE)=false→step (P.take j++P.getD j dE::x::(P.drop (j+1)++R),((j+1:Nat):Int))=some (.inr (P.take j++P.getD j dE::x::(P.drop (j+1)++R))))
  (h0:step (x::(P++R),((0:Nat):Int))=some (.inr (x::(P++R)))):
  ∀(j F:Nat),j≤P.length→j<F→Qq step F (P.take j++x::(P.drop j++R),(j:Int))=some (P.take (Ke x P j)++x::(P.drop (Ke x P j)++R))
 |0,F,hj,hF=>by obtain⟨G,rfl⟩:∃G,F=G+1:=⟨F-1,by omega⟩;simp only[Qq,List.take_zero,List.drop_zero,List.nil_append,h0,Ke]
 |j+1,F,hj,hF=>by
  obtain⟨G,rfl⟩:∃G,F=G+1:=⟨F-1,by omega⟩;have e:P.take (j+1)++x::(P.drop (j+1)++R)=P.take j++P.getD j dE::x::(P.drop (j+1)++R):=by rw[Zic (by omega)];simp
  rw[e];cases h:ltE x (P.getD j dE)with
  |true=>
   simp only[Qq,hstep j (by omega) h];have e2:P.take j++x::P.getD j dE::(P.drop (j+1)++R)=P.take j++x::(P.drop j++R):=by rw[Zmp (show j<P.length by omega)];simp
   rw[e2,Zcg hstep hstop h0 j G (by omega) (by omega)];simp only[Ke,h,if_true]
  |false=>simp only[Qq,hstop j (by omega) h,Ke,h,Bool.false_eq_true,if_false];rw[←e]
theorem Qtm{F:Nat}(hF:400≤F){L:List Qy}(hl:L.length≤300)(h:Qao L):K0 F (0,(L.length:Int),L)=some (Z2 L):=by
 unfold K0;have e1:w64 (0+1)=1:=Zb (by omega) (by omega);simp only[tE,Zp,e1,Nat.zero_add];by_cases hn:L.length=0
 ·obtain rfl:L=[]:=List.eq_nil_of_length_eq_zero hn;obtain⟨G,rfl⟩:∃G,F=G+1:=⟨F-1,by omega⟩;simp(disch:=decide)only[Qq,Zd,List.length_nil,Int.natCast_zero,Option.bind_some];rfl
 refine Xz (L.drop 1) (fun(_:Unit) i=>(Z2 (L.take (i+1))++L.drop (i+1),((i+1:Nat):Int))) (fun _ _=>(.inl ():Unit ⊕ List Qy)) (fun _=>Z2 L) (fun _ _=>True) () (by rw[List.length_drop];omega) ?_ trivial ?_ ?_ ?_
 ·show(L,((1:Nat):Int))=_;have:L.take 1++L.drop 1=L:=List.take_append_drop 1 L;rw[Nat.zero_add];congr 1;cases L with
  |nil=>rfl
  |cons y t=>rfl
 ·intro i x _ hi hx _;refine⟨?_,fun _ _=>trivial⟩;rw[List.length_drop]at hi;rw[List.getElem?_drop,Nat.add_comm 1 i]at hx;have hx':L[i+1]? =some x:=hx;have hP:(Z2 (L.take (i+1))).length=i+1:=by rw[Qf7];exact Za2 (by omega)
  have hd:L.drop (i+1)=x::L.drop (i+1+1):=by rw[List.drop_eq_getElem_cons (show i+1<L.length by omega)];congr 1;rw[List.getElem?_eq_getElem (show i+1<L.length by omega)]at hx';exact Option.some.inj hx'
  have hmem:∀j,j<i+1→(Z2 (L.take (i+1))).getD j dE∈L:=fun j hj=>
   List.mem_of_mem_take ((Qn0 _).mem_iff.1 (Qfj dE (by omega)))
  have hxm:x∈L:=List.mem_of_getElem? hx';have hlen:∀j,j<i+1→∀a b:Qy,((Z2 (L.take (i+1))).take j++a::b::((Z2 (L.take (i+1))).drop (j+1)++L.drop (i+1+1))).length=L.length:=fun j hj a b=>by simp only[List.length_append,List.length_cons,List.length_take,List.length_drop,hP];omega
  have htl:∀j,j<i+1→((Z2 (L.take (i+1))).take j).length=j:=fun j hj=>Za2 (by omega);simp(disch:=omega)only[Ze];rw[Zv1 hx',hd];rw[Yab (R:=L.drop (i+1+1)) (x:=x) hP];rw[Zcg (x:=x) (P:=Z2 (L.take (i+1))) (R:=L.drop (i+1+1)) ?_ ?_ ?_ (i+1) F (by omega) (by omega)]
  ·simp(disch:=omega)only[Option.bind_some,Zb];have:Kv (Z2 (L.take (i+1))) x=(Z2 (L.take (i+1))).take (Ke x (Z2 (L.take (i+1))) (i+1))++x::(Z2 (L.take (i+1))).drop (Ke x (Z2 (L.take (i+1))) (i+1)):=by unfold Kv;rw[hP]
   rw[this,List.append_assoc];rfl
  ·intro j hj hlt;rw[hP]at hj;obtain⟨v,hv1,hv2⟩:=Qzl hF (h x hxm _ (hmem j hj));rw[hlt]at hv2;have hw:w64 (((j+1:Nat):Int)-1)=(j:Int):=by rw[Zb (by omega) (by omega)];omega
   have:=hlen j hj;simp(disch:=first|omega|(rw[hlen j hj];omega)|(rw[List.length_set,hlen j hj];omega))only[Ze,Zj,hw,Int.toNat_natCast,Qw5 (htl j hj),Qz0 (htl j hj),hv1,hv2,Option.bind_some,cond_true,Zxm (htl j hj)]
  ·intro j hj hlt;rw[hP]at hj;obtain⟨v,hv1,hv2⟩:=Qzl hF (h x hxm _ (hmem j hj));rw[hlt]at hv2;have hw:w64 (((j+1:Nat):Int)-1)=(j:Int):=by rw[Zb (by omega) (by omega)];omega
   have:=hlen j hj;simp(disch:=first|omega|(rw[hlen j hj];omega))only[Ze,Zj,hw,Int.toNat_natCast,Qw5 (htl j hj),Qz0 (htl j hj),hv1,hv2,Option.bind_some,cond_false]
  ·simp(disch:=omega)only[Zd,Option.bind_some,cond_false]
 ·intro _ _;rw[List.length_drop];simp(disch:=omega)only[Zd];rw[show L.length-1+1=L.length by omega,List.take_length,List.drop_length,List.append_nil]
 ·rw[Qrx]
theorem Zl5{F:Nat}(hF:400≤F){a n:Int}(ha:0≤a∧a≤1000)(hn:n≤a+1)(L:List Qy):K0 F (a,n,L)=some L:=by unfold K0;obtain⟨G,rfl⟩:∃G,F=G+1:=⟨F-1,by omega⟩;simp(disch:=omega)only[Qq,Zb,Zd,Option.bind_some]
theorem Zho{F:Nat}(hF:400≤F){L:List Qy}(hl:L.length≤20)(h:Qao L):Ql4 F ((L.length:Int),L)=some (Z2 L):=by
 unfold Ql4;obtain⟨G,hG⟩:∃G,F=G+2:=⟨F-2,by omega⟩;by_cases h20:L.length=20
 ·have hs:(Z2 L).length=L.length:=Qf7 L;have e1:=Qtm hF (show L.length≤300 by omega) h;rw[h20]at e1;have e1:K0 F (0,20,L)=some (Z2 L):=e1;have hw:w64 (20+20)=40:=Zb (by omega) (by omega);have hl1:∀(step:List Qy×Int×Int→Option ((List Qy×Int×Int) ⊕ (List Qy×Int))),step (L,0,20)=some (.inl (Z2 L,20,40))→step (Z2 L,20,40)=some (.inr (Z2 L,20))→Qq step F (L,0,20)=some (Z2 L,20):=fun step q1 q2=>by rw[hG];simp only[Qq,q1,q2]
  rw[hl1]
  ·have e2:=Zl5 hF (a:=20) (n:=20) (by omega) (by omega) (Z2 L);simp only[h20,hs,decide_true,Bool.and_self,Zw,Option.bind_some];have e3:K0 F (20,((20:Nat):Int),Z2 L)=some (Z2 L):=e2;simp only[e3,Option.bind_some];have hl2:∀(step:List Qy×Int→Option ((List Qy×Int) ⊕ List Qy)),step (Z2 L,20)=some (.inr (Z2 L))→Qq step F (Z2 L,20)=some (Z2 L):=fun step q=>by rw[hG];simp only[Qq,q]
   rw[hl2]
   ·rfl
   ·simp(disch:=omega)only[Zd]
  ·simp(disch:=omega)only[Ze,h20,decide_true,Bool.and_self,Zw,Option.bind_some,e1,hw]
  ·simp(disch:=omega)only[Zd,h20]
 ·have hs:(Z2 L).length=L.length:=Qf7 L;have e1:=Qtm hF (show L.length≤300 by omega) h;have hl1:∀(step:List Qy×Int×Int→Option ((List Qy×Int×Int) ⊕ (List Qy×Int))),step (L,0,20)=some (.inr (L,0))→Qq step F (L,0,20)=some (L,0):=fun step q1=>by rw[hG];simp only[Qq,q1]
  rw[hl1]
  ·simp only[decide_true,Bool.and_self,Zw,Option.bind_some,e1];have hl2:∀(step:List Qy×Int→Option ((List Qy×Int) ⊕ List Qy)),step (Z2 L,20)=some (.inr (Z2 L))→Qq step F (Z2 L,20)=some (Z2 L):=fun step q=>by rw[hG];simp only[Qq,q]
   rw[hl2]
   ·rfl
   ·simp(disch:=omega)only[Zd]
  ·simp(disch:=omega)only[Zd]
theorem Zex{F:Nat}(hF:400≤F){L:List Qy}(hl:L.length≤20)(h:Qao L):Qjf F L=some (Z2 L):=by unfold Qjf;simp only[decide_true,Bool.and_self,Zw,Option.bind_some,Zho hF hl h]
def Vf(s:Qw)(c:ByteArray):List Qy:=s.2.2.2.1.filter fun e=>Qf e.2.1 c
def Jk(s:Qw)(c:ByteArray):List Qy:=Z2 (Vf s c)
theorem Zh3{F:Nat}(hF:400≤F){s:Qw}(hS:SmS s){c:ByteArray}(hl:(Vf s c).length≤20)(h:Qao (Vf s c)):Qbp F (s,c)=some (Jk s c):=by
 have e:∀y:Qy,y::Qb Qy=[y]:=fun _=>rfl;have h1:=hS.e;unfold Qbp;simp only[tE,Zp];refine Qne s.2.2.2.1 (fun x=>Qf x.2.1 c) (fun x=>x) (by omega) ?_ ?_ ?_
 ·intro i x out hi hx ho;have hl2:(out++[x]).length≤301:=by simp;omega
  simp(disch:=omega)only[Ze,Zj,Int.toNat_natCast,getD_some hx,Zb,e,decide_true,Bool.and_self,Zw,Option.bind_some];cases Qf x.2.1 c
  ·simp[Zw]
  ·simp only[cond_true,if_true,Option.bind_some]
 ·intro out ho;simp(disch:=omega)only[Zd,decide_true,Bool.and_self,Zw,Option.bind_some]
 ·intro _;rw[List.map_id'];have hs:=Qf7 (Vf s c);have e2:=Zex hF hl h;unfold Vf at hs e2 h hl;simp only[decide_true,Bool.and_self,Zw,Option.bind_some,e2,Nat.zero_add,hs,Nat.le_refl,List.drop_zero];rw[←hs,List.take_length];rfl
theorem Qz9{m:Mt}{s:Qw}(hv:stE m s=0){x:Qy}(hx:x∈s.2.2.2.1):
  0≤cI m x.2.1∧(cAt m x.2.1).2.2.2.2.2.2.2.2.2.2≤0∧Ka (mkE x)∧J1 (cAt m x.2.1).2.1 x.2.2.1=true∧0≤dyE x∧dyE x≤99999:=by
 obtain⟨i,hi,e⟩:=List.getElem_of_mem hx;have h:=Qvr hv hi;have e2:s.2.2.2.1.getD i dE=x:=by rw[getD_some (List.getElem?_eq_getElem hi),e]
 unfold Jm at h;rw[e2]at h;by_cases h1:aI s x.1<0∨cI m x.2.1<0
 ·simp[h1]at h
 ·rw[if_neg h1]at h;by_cases h2:0<(cAt m x.2.1).2.2.2.2.2.2.2.2.2.2
  ·simp[h2]at h
  ·rw[if_neg h2]at h;by_cases h3:(s.2.2.2.1.take i).any (eP x.1 x.2.1)=true
   ·simp[h3]at h
   ·rw[if_neg h3]at h;by_cases h4:Jh x.2.2.1 x.2.2.2.1 x.2.2.2.2.1=0
    ·rw[if_pos h4]at h;by_cases h5:J1 (cAt m x.2.1).2.1 x.2.2.1=true
     ·rw[if_pos h5]at h;by_cases h6:Z0 x.2.2.2.2.2.1=true
      ·simp[h6]at h
      ·unfold Z0 at h6;simp only[Bool.or_eq_true,decide_eq_true_eq]at h6;refine⟨by omega,by omega,h4,h5,?_,?_⟩<;>(unfold dyE;omega)
     ·simp[h5]at h
    ·rw[if_neg h4]at h;exact absurd h h4
theorem Zsl{m:Mt}{s:Qw}(hv:stE m s=0)(c:ByteArray){l:List Qy}(hl:∀x∈l,x∈s.2.2.2.1∧Qf x.2.1 c=true):Qao l:=by
 intro x hx y hy;obtain⟨hx1,hx2⟩:=hl x hx;obtain⟨hy1,hy2⟩:=hl y hy;obtain⟨-,-,a3,a4,a5⟩:=Qz9 hv hx1;obtain⟨-,-,b3,b4,b5⟩:=Qz9 hv hy1;refine⟨a3,b3,?_,a5,b5⟩;have ex:=X4.1 hx2;have ey:=X4.1 hy2;rw[ex]at a4;rw[ey]at b4;unfold J1 at a4 b4;simp only[Bool.or_eq_true]at a4 b4;unfold Qfk mkE;rcases a4 with a4|a4
 ·rcases b4 with b4|b4
  ·right;right;rw[X4.1 a4,X4.1 b4];exact J8 _
  ·exact .inr (.inl b4)
 ·exact .inl a4
def Qiu(s:Qw)(c:ByteArray)(k:Bool):List Qy:=s.2.2.2.1.filter fun e=>Qf e.2.1 c&&(!k||e.2.2.2.2.2.2)
theorem Zy1(s:Qw)(c:ByteArray):Qiu s c false=Vf s c:=by unfold Qiu Vf;simp
theorem Zid{s:Qw}{c:ByteArray}{k:Bool}:∀x∈Qiu s c k,x∈s.2.2.2.1∧Qf x.2.1 c=true:=fun x hx=>by unfold Qiu at hx;rw[List.mem_filter]at hx;obtain⟨h1,h2⟩:=hx;simp only[Bool.and_eq_true]at h2;exact⟨h1,h2.1⟩
def Qi7(l:List ByteArray)(c:ByteArray):Nat:=(l.filter fun x=>Qf x c).length
theorem Zeo(l:List ByteArray)(b c:ByteArray):Qi7 (l++[b]) c=Qi7 l c+if Qf b c=true then 1 else 0:=by unfold Qi7;rw[List.filter_append,List.length_append];cases h:Qf b c<;>simp[h]
def Qnr(q:List (ByteArray×Int))(l:List ByteArray):Prop:=∀k,Ym Qf k q 0=(Qi7 l k:Int)
theorem Qnr.put{q:List (ByteArray×Int)}{l:List ByteArray}(h:Qnr q l)(b:ByteArray):Qnr (Ji Qf b (Ym Qf b q 0+1) q) (l++[b]):=by
 intro k;rw[Qpz Qyx,Zeo];have h1:=h k;have h2:=h b;by_cases e:b=k
 ·subst e;simp[J8,h1]
 ·simp[Qn2 e,Qn2 (fun h:k=b=>e h.symm),h1]
def Qc3(m:Mt)(c:ByteArray):Zv:=if cI m c<0 then Qfl else cAt m c
def Vr(m:Mt)(s:Qw)(c:ByteArray)(relay:Bool):Int:=Qn [stE m s,if cI m c<0 then 10 else 0,if(decide (0<(Qc3 m c).2.2.2.2.2.2.2.2.2.2)==relay)=true then 0 else 13]
theorem Qxb{F:Nat}(hF:400≤F){m:Mt}(hm:m.2.2.2.2.length≤300)(hb:∀x∈m.2.2.2.2,x.1.size≤300∧x.2.2.1.size≤300){s:Qw}(h:SmS s)(c:ByteArray)(relay:Bool):
  Qa2 F (m,s,c,relay)=some (Qc3 m c,Vr m s c relay):=by
 have e3:∀a b c,Zn F (a::b::c::Qb Int)=some (Qn [a,b,c]):=fun a b c=>J0 hF (by simp[Qb]);unfold Qa2 Vr Qc3;simp only[Zp,Qoq hF hm,l25 hF hm hb h,l86,Option.bind_some];by_cases hc:cI m c<0
 ·simp only[hc,if_true,l86,e3,Option.bind_some];cases(decide (0<Qfl.2.2.2.2.2.2.2.2.2.2)==relay)<;>rfl
 ·simp only[hc,if_false,l86,e3,Option.bind_some];cases(decide (0<(cAt m c).2.2.2.2.2.2.2.2.2.2)==relay)<;>rfl
theorem Zp8{m:Mt}{s:Qw}{c:ByteArray}{r:Bool}(h:Vr m s c r=0):stE m s=0∧0≤cI m c:=by
 have h1:=Uv h (stE m s) (by simp);have h2:=Uv h (if cI m c<0 then 10 else 0) (by simp);refine⟨h1,?_⟩;by_cases h3:cI m c<0
 ·simp[h3]at h2
 ·omega
theorem Qwf{m:Mt}{s:Qw}(hv:stE m s=0)(h:ShS s):s.2.2.2.1.length≤20:=by
 rcases h.e with h1|⟨h1,-⟩
 ·exact h1
 ·have h3:mtE m=0:=by
   by_cases h:mtE m=0
   ·exact h
   ·rw[stE,if_neg h]at hv;exact absurd hv h
  have h2:J9 s:=by unfold J9;omega
  rw[stE,if_pos h3,if_pos h2]at hv;exact absurd hv (by decide)
theorem Zi5{s:Qw}{c:ByteArray}:∀x∈Vf s c,x∈s.2.2.2.1∧Qf x.2.1 c=true:=fun x hx=>by rw[←Zy1]at hx;exact Zid x hx
theorem Zag(s:Qw)(c:ByteArray):(Vf s c).length≤s.2.2.2.1.length:=List.length_filter_le _ _
theorem Zxu{F:Nat}(hF:400≤F){m:Mt}{s:Qw}(h:ShS s){c:ByteArray}(hv:stE m s=0):Qbp F (s,c)=some (Jk s c):=
 Zh3 hF h.sm (by have:=Qwf hv h;have:=Zag s c;omega) (Zsl hv c Zi5)
theorem Ze0{m:Mt}{s:Qw}(h:ShS s)(hv:stE m s=0)(c:ByteArray):(Jk s c).length≤20:=by unfold Jk;rw[Qf7];have:=Qwf hv h;have:=Zag s c;omega
theorem l55{F:Nat}(hF:400≤F){m:Mt}(hm:m.2.2.2.2.length≤300)(hb:∀x∈m.2.2.2.2,x.1.size≤300∧x.2.2.1.size≤300){s:Qw}(h:ShS s)(c:ByteArray):
  c55 F (m,s,c)=some (if Vr m s c false=0 then(Jk s c,0)else([],Vr m s c false)):=by
 unfold c55;simp only[Zp,Qxb hF hm hb h.sm,Option.bind_some];by_cases hv:Vr m s c false=0
 ·simp only[hv,decide_true,Bool.not_true,cond_false,if_true,Zxu hF h (Zp8 hv).1,Option.bind_some]
 ·simp only[hv,decide_false,Bool.not_false,cond_true,if_false];rfl
theorem Zqo{m:Mt}{c:ByteArray}(h:0≤cI m c):Qc3 m c=cAt m c:=by unfold Qc3;rw[if_neg (by omega)]
end Go.Proofs.Tryz
section
namespace Go.Proofs.Tryz
open Go Go.Sx
end Go.Proofs.Tryz
end
section

end
section
namespace Go.Proofs.Tryz
open Go Go.Sx
noncomputable section
def Qyq(F:Nat):LK:=lN
def Qf2(F:Nat)(a:List ByteArray):Option (List ByteArray):=
 bif decide (a.length=0)then((gd (decide (List.length (Qb ByteArray++a)*(16:Nat)≤(140737488355328:Nat))) (gd (decide (List.length (Qb ByteArray++a)≤9223372036854775807)) (gd (decide ((0:Nat)+List.length (Qb ByteArray++a)≤List.length (Qb ByteArray++a))) (some (List.take (List.length (Qb ByteArray++a)) (List.drop (0:Nat) (Qb ByteArray++a))))))).bind fun(v4:List ByteArray)=>gd (Qx.eqv (Qe.val (Ty.seq Zr)::Qb Qe) (Qb ByteArray) v4) (some (Qb ByteArray)))else(gd (decide (List.length (Qb ByteArray++a)*(16:Nat)≤(140737488355328:Nat))) (gd (decide (List.length (Qb ByteArray++a)≤9223372036854775807)) (gd (decide ((0:Nat)+List.length (Qb ByteArray++a)≤List.length (Qb ByteArray++a))) (some (List.take (List.length (Qb ByteArray++a)) (List.drop (0:Nat) (Qb ByteArray++a)))))))
def Zvd(F:Nat):PC:={ats:=Ux,rts:=Ux,code:=Qf2 F}
theorem Zy2(F:Nat)(a:List ByteArray):Z5 cx (Qyq F).x 1000 .leaf f150 (Qv f150) Ux Ux a=Qf2 F a:=by kernel_rfl
theorem Zlo(F:Nat):Qg cx 150 (Zvd F):=Qg.Zs Zt (Qyq F).ok (n:=1000) (an:=.leaf) (fn:=f150) (c:=Qv f150) (by kernel_rfl) (by kernel_rfl) (fun a y h=>(Zy2 F a).trans h) (by kernel_rfl)
end
end Go.Proofs.Tryz
end
section
namespace Go.Proofs.Tryz
open Go Go.Sx
noncomputable section
def Zue(F:Nat):LK:=lC (Zlo F) (lC (Qhq F) lN)
def c70(F:Nat)(a:(Zi)×(Qz)×ByteArray):Option (List (Zh)×Int):=
 (Qa2 F (a.1,a.2.1,a.2.2,true)).bind fun(v16:(Z4)×Int)=>bif !decide (v16.2=0)then(some ((Qb (Zh),v16.2)))else((Qq (σ:=List (Zh)×Int) (β:=List (Zh)) (fun(v18:List (Zh)×Int)=>bif decide (v18.2<(↑(a.2.1.2.2.2.2.length):Int))then(gd (decide (0≤v18.2)) (gd (decide (v18.2<(↑(a.2.1.2.2.2.2.length):Int))) (gd (decide (v18.2.toNat<a.2.1.2.2.2.2.length)) ((bif Qf (a.2.1.2.2.2.2.getD (v18.2.toNat) (ByteArray.empty,ByteArray.empty,Qb ByteArray)).2.1 a.2.2 then((Qf2 F (a.2.1.2.2.2.2.getD (v18.2.toNat) (ByteArray.empty,ByteArray.empty,Qb ByteArray)).2.2).bind fun(v21:List ByteArray)=>gd (decide (v18.1.length=v18.1.length)) (gd (decide (List.length (v18.1++((a.2.1.2.2.2.2.getD (v18.2.toNat) (ByteArray.empty,ByteArray.empty,Qb ByteArray)).1,(a.2.1.2.2.2.2.getD (v18.2.toNat) (ByteArray.empty,ByteArray.empty,Qb ByteArray)).2.1,v21)::Qb (Zh))*(56:Nat)≤(140737488355328:Nat))) (gd (decide (List.length (v18.1++((a.2.1.2.2.2.2.getD (v18.2.toNat) (ByteArray.empty,ByteArray.empty,Qb ByteArray)).1,(a.2.1.2.2.2.2.getD (v18.2.toNat) (ByteArray.empty,ByteArray.empty,Qb ByteArray)).2.1,v21)::Qb (Zh))≤9223372036854775807)) (gd (decide (List.length (v18.1++((a.2.1.2.2.2.2.getD (v18.2.toNat) (ByteArray.empty,ByteArray.empty,Qb ByteArray)).1,(a.2.1.2.2.2.2.getD (v18.2.toNat) (ByteArray.empty,ByteArray.empty,Qb ByteArray)).2.1,v21)::Qb (Zh))=List.length (v18.1++((a.2.1.2.2.2.2.getD (v18.2.toNat) (ByteArray.empty,ByteArray.empty,Qb ByteArray)).1,(a.2.1.2.2.2.2.getD (v18.2.toNat) (ByteArray.empty,ByteArray.empty,Qb ByteArray)).2.1,v21)::Qb (Zh)))&&true&&(true&&(true&&(true&&true)))) (some ((v18.1++((a.2.1.2.2.2.2.getD (v18.2.toNat) (ByteArray.empty,ByteArray.empty,Qb ByteArray)).1,(a.2.1.2.2.2.2.getD (v18.2.toNat) (ByteArray.empty,ByteArray.empty,Qb ByteArray)).2.1,v21)::Qb (Zh),(a.2.1.2.2.2.2.getD (v18.2.toNat) (ByteArray.empty,ByteArray.empty,Qb ByteArray)).1,(a.2.1.2.2.2.2.getD (v18.2.toNat) (ByteArray.empty,ByteArray.empty,Qb ByteArray)).2.1,v21)))))))else(gd (decide (v18.1.length=v18.1.length)&&true&&(true&&(true&&(true&&true)))) (some ((v18.1,(a.2.1.2.2.2.2.getD (v18.2.toNat) (ByteArray.empty,ByteArray.empty,Qb ByteArray)).1,(a.2.1.2.2.2.2.getD (v18.2.toNat) (ByteArray.empty,ByteArray.empty,Qb ByteArray)).2.1,(a.2.1.2.2.2.2.getD (v18.2.toNat) (ByteArray.empty,ByteArray.empty,Qb ByteArray)).2.2))))).bind fun(v19:List (Zh)×Zh)=>(gd (decide (v19.1.length=v19.1.length)&&true&&(true&&true)) (some ((v19.1,w64 (v18.2+1))))).bind fun(v20:List (Zh)×Int)=>some (Sum.inl v20)))))else((gd (decide (v18.1.length=v18.1.length)&&true&&true) (some v18.1)).bind fun(v22:List (Zh))=>some (Sum.inr v22))) F ((Qb (Zh),(0:Int)))).bind fun(v17:List (Zh))=>gd (decide ((0:Nat)+v17.length≤v17.length)&&true) (some ((List.take (v17.length) (List.drop (0:Nat) v17),(0:Int)))))
def Zh9(F:Nat):PC:={ats:=Qe9,rts:=[.val (.seq kt9),.val (.int .i64)],code:=c70 F}
theorem Zuq(F:Nat):Qg cx 70 (Zh9 F):=qE (Zue F) (Q8 3 (.two (.two .leaf (.one (.virt 10 147 kt9 (.loop ⟨[.vec 3 147 kt9,.slot 26 (.val (.int .i64))],[(10,.own 3)]⟩ [(.exit 0,⟨[.vec 3 147 kt9],[(10,.own 3)]⟩)] ⟨[42,26,30,31,32,33,38,39,40,41,10,37,36,35,34,12,29,28,27],[3],[3]⟩ F (Q8 2 (.two (.one (Q8 2 (.join [(.normal,⟨[.vec 3 147 kt9,.one 4 147 kt9],[(10,.own 3)]⟩)] ⟨[38,39,40,41,10,37,36,35,34],[4,3],[3]⟩ .leaf))) .leaf)))))) .leaf)) f70 (by kernel_rfl) fun a=>by kernel_rfl
end
end Go.Proofs.Tryz
end
namespace Go.Proofs.Tryz
open Go Go.Sx
theorem Zyk{F:Nat}{l:List ByteArray}(h:l.length≤1000):Qf2 F l=some l:=by
 have e:Qb ByteArray++l=l:=rfl;have h1:l.length*16≤140737488355328:=by omega
 have h2:l.length≤9223372036854775807:=by omega
 unfold Qf2;simp only[e,h1,h2,Nat.zero_add,Nat.le_refl,decide_true,Zw,List.drop_zero,List.take_length,Option.bind_some];by_cases h0:l.length=0
 ·obtain rfl:=List.eq_nil_of_length_eq_zero h0;rfl
 ·simp only[h0,decide_false,cond_false]
theorem l70{F:Nat}(hF:400≤F){m:Mt}(hm:m.2.2.2.2.length≤300)(hb:∀x∈m.2.2.2.2,x.1.size≤300∧x.2.2.1.size≤300){s:Qw}(h:ShS s)(c:ByteArray):
  c70 F (m,s,c)=some (if Vr m s c true=0 then(s.2.2.2.2.filter fun t=>Qf t.2.1 c,0)else([],Vr m s c true)):=by
 have e:∀y:Tm,y::Qb Tm=[y]:=fun _=>rfl;have hd:(ByteArray.empty,ByteArray.empty,Qb ByteArray)=dT:=rfl;have h1:=h.sm.t;unfold c70;simp only[Zp,Qxb hF hm hb h.sm,Option.bind_some,hd];by_cases hv:Vr m s c true=0
 ·simp only[hv,decide_true,Bool.not_true,cond_false,if_true];refine Qne s.2.2.2.2 (fun x=>Qf x.2.1 c) (fun x=>x) (by omega) ?_ ?_ ?_
  ·intro i x out hi hx ho;have hl2:(out++[x]).length≤301:=by simp;omega
   have hn:x.2.2.length≤10:=(h.ts x (List.mem_of_getElem? hx)).2.2.1;simp(disch:=omega)only[Ze,Zj,Int.toNat_natCast,getD_some hx,Zb,Zp,Zyk (F:=F) (l:=x.2.2) (by omega),e,decide_true,Bool.and_self,Zw,Option.bind_some];cases Qf x.2.1 c<;>rfl
  ·intro out ho;simp(disch:=omega)only[Zd,decide_true,Bool.and_self,Zw,Option.bind_some]
  ·intro _;rw[List.map_id'];simp only[decide_true,Bool.and_self,Zw,Nat.zero_add,Nat.le_refl,List.drop_zero,List.take_length]
 ·simp only[hv,decide_false,Bool.not_false,cond_true,if_false];rfl
theorem Zxp{l:List ByteArray}{x:ByteArray}:hasB l x=true↔x∈l:=by
 unfold hasB;rw[List.any_eq_true];constructor
 ·rintro ⟨y,hy,e⟩
  rw[X4.1 e]at hy;exact hy
 ·intro h;exact⟨x,h,J8 x⟩
end Go.Proofs.Tryz
section
namespace Go.Proofs.Tryz
open Go Go.Sx
end Go.Proofs.Tryz
end
section
namespace Go.Proofs.Tryz
open Go Go.Sx
noncomputable section
end
end Go.Proofs.Tryz
end
section
namespace Go.Proofs.Tryz
open Go Go.Sx
end Go.Proofs.Tryz
end
section
namespace Go.Sx
open Go
theorem Qg.cases{cx:Cx}{g:Nat}{ats rts:List Qe}{p:Qx ats→Bool}{c q:Qx ats→Option (Qx rts)}(h1:Qg cx g {ats:=ats,rts:=rts,code:=fun a=>bif p a then c a else none})
  (h2:Qg cx g {ats:=ats,rts:=rts,code:=q}):Qg cx g {ats:=ats,rts:=rts,code:=fun a=>bif p a then c a else q a}:=
 ⟨h1.fn,fun a y hy=>by
  have hy:(bif p a then c a else q a)=some y:=hy;cases e:p a with
  |true=>rw[e]at hy;exact h1.ok a y (by show(bif p a then c a else none)=some y;rw[e];exact hy)
  |false=>rw[e]at hy;exact h2.ok a y hy⟩
end Go.Sx
namespace Go.Proofs.Tryz
open Go Go.Sx
end Go.Proofs.Tryz
end
section
namespace Go.Proofs.Tryz
open Go Go.Sx
end Go.Proofs.Tryz
end
section
namespace Go.Proofs.Tryz
open Go Go.Sx
end Go.Proofs.Tryz
end
namespace Go.Proofs.Tryz
open Go Go.Sx
theorem Qa8{m:Mt}{s:Qw}(hv:stE m s=0):mtE m=0:=by
 by_cases h:mtE m=0
 ·exact h
 ·rw[stE,if_neg h]at hv;exact absurd hv h
end Go.Proofs.Tryz

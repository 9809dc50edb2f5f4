/- Plain law: marks compared, in the program and in the reference. Plain law: entries in order, in the program and in the reference. And further parts. -/
import Derived.Test.YtpkbmngnolhopaaGreatDoorXT3g
import Derived.Test.YtpkbmngnolhopaaGreatDoorXTeB2
import Derived.Test.YtpkbmngnolhopaaGreatDoorXTeB3
set_option maxRecDepth 100000
set_option linter.unusedVariables false
set_option linter.unusedSimpArgs false
set_option linter.all false
namespace Go.Proofs.Tryz
open Go Go.Sx
abbrev Mk:=ByteArray×Int×ByteArray
theorem Zzt:({data:=List.toArray ((108:UInt8)::(101:UInt8)::(110:UInt8)::(103:UInt8)::(116:UInt8)::(104:UInt8)::Qb UInt8)}:ByteArray)=kL:=rfl
theorem Zss:({data:=List.toArray ((112:UInt8)::(111:UInt8)::(105:UInt8)::(110:UInt8)::(116:UInt8)::(115:UInt8)::Qb UInt8)}:ByteArray)=kP:=rfl
theorem Zvp:({data:=List.toArray ((116:UInt8)::(105:UInt8)::(109:UInt8)::(101:UInt8)::Qb UInt8)}:ByteArray)=kT:=rfl
theorem Zpt:({data:=List.toArray ((110:UInt8)::(111:UInt8)::(110:UInt8)::(101:UInt8)::Qb UInt8)}:ByteArray)=kN:=rfl
def wM(k:ByteArray)(v:Int):Int:=if Qf k kT=true then-v else if Qf k kL=true then v else if Qf k kP=true then v else-864000000
def Qiu(a b:Int):Int:=if b<a then-1 else if a<b then 1 else 0
def V6(x:Mk):Prop:=Jd x.1 x.2.1 x.2.2=0
theorem Qum(F:Nat){k:ByteArray}{v:Int}(r:ByteArray)(hv:-999999999≤v∧v≤999999999):Qg9 F (k,v,r)=some (wM k v):=by
 unfold Qg9 tw;have hw:IntKind.wrap IntKind.i64 (0-v)= -v:=by rw[show IntKind.wrap IntKind.i64 (0-v)=w64 (0-v)from rfl,Zb (by omega) (by omega)];omega
 simp only[hw,Zvp,Zzt,Zss];have g:∀x:Int,gd (Qx.eqv (Qe.val (Ty.int Go.IntKind.i64)::Qb Qe) x x) (some x)=some x:=by
  intro x;have:Qx.eqv (Qe.val (Ty.int Go.IntKind.i64)::Qb Qe) x x=true:=by change Vg x x=true;simp[Vg]
  rw[this];rfl
 unfold wM;cases Qf k kT<;>cases Qf k kL<;>cases Qf k kP<;>simp[g]
theorem Qvd{x:Mk}(h:V6 x):0≤x.2.1∧x.2.1≤863999999:=by
 unfold V6 Jd at h;split at h
 ·split at h
  ·cases h
  ·split at h
   ·cases h
   ·rename_i h3;have:x.2.1=0:=by simpa using h3
    omega
 ·split at h
  ·split at h
   ·cases h
   ·split at h
    ·cases h
    ·omega
  ·split at h
   ·split at h
    ·cases h
    ·split at h
     ·cases h
     ·omega
   ·split at h
    ·split at h
     ·cases h
     ·split at h
      ·cases h
      ·omega
    ·cases h
def wE(x:Mk):Int:=wM x.1 x.2.1
def Qev(x y:Mk):Prop:=Qf x.1 kN=true∨Qf y.1 kN=true∨Qf x.1 y.1=true
theorem Zeg(F:Nat){x y:Mk}(hx:V6 x)(hy:V6 y):Qjn F (x,y)=some (Qiu (wE x) (wE y)):=by
 unfold Qjn Qiu wE;obtain⟨a1,a2⟩:=Qvd hx;obtain⟨b1,b2⟩:=Qvd hy;simp only[Qum F _ (show-999999999≤x.2.1∧x.2.1≤999999999 by omega),Qum F _ (show-999999999≤y.2.1∧y.2.1≤999999999 by omega),Option.bind_some];by_cases h1:wM y.1 y.2.1<wM x.1 x.2.1
 ·rw[Zg h1,if_pos h1]
 ·rw[Zd h1,if_neg h1];by_cases h2:wM x.1 x.2.1<wM y.1 y.2.1
  ·rw[Zg h2,if_pos h2]
  ·rw[Zd h2,if_neg h2]
theorem Zj5(F:Nat){x y:Mk}(h:Qev x y):Qji F (x,y)=some false:=by unfold Qji;simp only[Zpt];unfold Qev at h;cases h1:Qf x.1 y.1<;>cases h2:Qf x.1 kN<;>cases h3:Qf y.1 kN<;>simp_all
theorem Zdy{F:Nat}(hF:400≤F){x y:Mk}(hx:V6 x)(hy:V6 y)(h:Qev x y):Qlv F (x,y)=some (Qiu (wE x) (wE y),0):=by
 unfold Qlv;have q:∀(a b c:Int),Jh F (a::b::c::Qb Int)=some (Qn [a,b,c]):=by intro a b c;rw[Qql (by simp[Qb];omega) (by simp[Qb])];rfl
 have hx':=hx;have hy':=hy;unfold V6 at hx' hy';simp only[Zp,l99 hF,Zj5 F h,Qtl,q,hx',hy',Option.bind_some,Zeg F hx hy];rfl
def mkE(x:Qy):Mk:=(x.2.2.1,x.2.2.2.1,x.2.2.2.2.1)
def dyE(x:Qy):Int:=x.2.2.2.2.2.1
def ltE(x y:Qy):Bool:=decide (wE (mkE y)<wE (mkE x))||(decide (wE (mkE x)=wE (mkE y))&&decide (dyE x<dyE y))
structure Qt8 (x y:Qy):Prop where
 mx:V6 (mkE x)
 my:V6 (mkE y)
 k:Qev (mkE x) (mkE y)
 dx:0≤dyE x∧dyE x≤99999
 dy:0≤dyE y∧dyE y≤99999
theorem Qvm{F:Nat}(hF:400≤F){x y:Qy}(h:Qt8 x y):∃v,Qj6 F (x,y)=some v∧decide (v<0)=ltE x y:=by
 unfold Qj6;have e:=Zdy hF h.mx h.my h.k;simp only[mkE]at e;simp only[e,Option.bind_some];have d1:=h.dx;have d2:=h.dy;have e2:w64 (x.2.2.2.2.2.1-y.2.2.2.2.2.1)=dyE x-dyE y:=by unfold dyE at d1 d2⊢;rw[Zb (by omega) (by omega)]
 unfold Qiu ltE;simp only[mkE]at*;by_cases h1:wE (y.2.2.1,y.2.2.2.1,y.2.2.2.2.1)<wE (x.2.2.1,x.2.2.2.1,x.2.2.2.2.1)
 ·refine⟨-1,?_,?_⟩<;>simp[h1]
 ·by_cases h2:wE (x.2.2.1,x.2.2.2.1,x.2.2.2.2.1)<wE (y.2.2.1,y.2.2.2.1,y.2.2.2.2.1)
  ·refine⟨1,?_,?_⟩
   ·simp[h1,h2]
   ·have:¬wE (x.2.2.1,x.2.2.2.1,x.2.2.2.2.1)=wE (y.2.2.1,y.2.2.2.1,y.2.2.2.2.1):=by omega
    simp[h1,this]
  ·have h3:wE (x.2.2.1,x.2.2.2.1,x.2.2.2.2.1)=wE (y.2.2.1,y.2.2.2.1,y.2.2.2.2.1):=by omega
   refine⟨dyE x-dyE y,?_,?_⟩
   ·simp[h3,e2]
   ·by_cases h4:dyE x<dyE y
    ·have:dyE x-dyE y<0:=by omega
     simp[h3,h4,this]
    ·have:¬dyE x-dyE y<0:=by omega
     simp[h3,h4,this]
theorem tE:Zm=dE:=rfl
def Ke(x:Qy)(l:List Qy):Nat→Nat
 |0=>0
 |n+1=>if ltE x (l.getD n dE)=true then Ke x l n else n+1
def Kr(l:List Qy)(x:Qy):List Qy:=l.take (Ke x l l.length)++x::l.drop (Ke x l l.length)
def Z2(l:List Qy):List Qy:=l.foldl Kr []
theorem Zsj(l:List Qy)(x:Qy):(Kr l x).Perm (x::l):=by unfold Kr;refine List.perm_middle.trans ?_;rw[List.take_append_drop]
theorem Qv7:∀(l o:List Qy),(l.foldl Kr o).Perm (l++o)
 |[],o=>List.Perm.refl _
 |x::l,o=>by rw[List.foldl_cons];refine(Qv7 l (Kr o x)).trans ?_;refine(List.Perm.append_left l (Zsj o x)).trans ?_;exact List.perm_middle
theorem Qo7(l:List Qy):(Z2 l).Perm l:=by have:=Qv7 l [];rw[List.append_nil]at this;exact this
theorem Qhr(l:List Qy):(Z2 l).length=l.length:=(Qo7 l).length_eq
theorem Zvh(l:List Qy)(x:Qy):Z2 (l++[x])=Kr (Z2 l) x:=by unfold Z2;rw[List.foldl_append];rfl
theorem Zov{l:List Qy}{i:Nat}{x:Qy}(h:l[i]? =some x):Z2 (l.take (i+1))=Kr (Z2 (l.take i)) x:=by rw[List.take_add_one,h];exact Zvh _ _
def Qao(l:List Qy):Prop:=∀x∈l,∀y∈l,Qt8 x y
theorem Qao.take{l:List Qy}(h:Qao l)(i:Nat):Qao (l.take i):=fun x hx y hy=>h x (List.mem_of_mem_take hx) y (List.mem_of_mem_take hy)
theorem Qws{A R:List Qy}{y x:Qy}{j:Nat}(h:A.length=j):(A++y::x::R).getD (j+1) dE=x:=by rw[List.getD_eq_getElem?_getD,List.getElem?_append_right (by omega),show j+1-A.length=1 by omega];rfl
theorem Zoi{A R:List Qy}{y x:Qy}{j:Nat}(h:A.length=j):((A++y::x::R).set (j+1) y).set j x=A++x::y::R:=by
 have e:A++y::x::R=(A++[y])++x::R:=by simp
 rw[e,Zap (by simp[h]),show(A++[y])++y::R=A++y::(y::R)by simp,Zap h]
theorem Zt8{P:List Qy}{j:Nat}(h:j<P.length):P.take (j+1)=P.take j++[P.getD j dE]:=by rw[List.take_add_one,Qad dE h];rfl
theorem Zoy{P:List Qy}{j:Nat}(h:j<P.length):P.drop j=P.getD j dE::P.drop (j+1):=by rw[List.drop_eq_getElem_cons h,List.getD_eq_getElem?_getD,List.getElem?_eq_getElem h];rfl
theorem Zp1{P R:List Qy}{x:Qy}{n:Nat}(h:P.length=n):P++x::R=P.take n++x::(P.drop n++R):=by subst h;simp
theorem Qu2{step:List Qy×Int→Option ((List Qy×Int) ⊕ List Qy)}{x:Qy}{P R:List Qy}
  (hstep:∀j,j<P.length→ltE x (P.getD j dE)=true→step (P.take j++P.getD j dE::x::(P.drop (j+1)++R),((j+1:Nat):Int))=some (.inl (P.take j++x::P.getD j dE::(P.drop (j+1)++R),(j:Int))))
  (hstop:∀j,j<P.length→ltE x (P.getD j dE)=false→step (P.take j++P.getD j dE::x::(P.drop (j+1)++R),((j+1:Nat):Int))=some (.inr (P.take j++P.getD j dE::x::(P.drop (j+1)++R))))
  (h0:step (x::(P++R),((0:Nat):Int))=some (.inr (x::(P++R)))):
  ∀(j F:Nat),j≤P.length→j<F→Qq step F (P.take j++x::(P.drop j++R),(j:Int))=some (P.take (Ke x P j)++x::(P.drop (Ke x P j)++R))
 |0,F,hj,hF=>by obtain⟨G,rfl⟩:∃G,F=G+1:=⟨F-1,by omega⟩;simp only[Qq,List.take_zero,List.drop_zero,List.nil_append,h0,Ke]
 |j+1,F,hj,hF=>by
  obtain⟨G,rfl⟩:∃G,F=G+1:=⟨F-1,by omega⟩;have e:P.take (j+1)++x::(P.drop (j+1)++R)=P.take j++P.getD j dE::x::(P.drop (j+1)++R):=by rw[Zt8 (by omega)];simp
  rw[e];cases h:ltE x (P.getD j dE)with
  |true=>
   simp only[Qq,hstep j (by omega) h];have e2:P.take j++x::P.getD j dE::(P.drop (j+1)++R)=P.take j++x::(P.drop j++R):=by rw[Zoy (show j<P.length by omega)];simp
   rw[e2,Qu2 hstep hstop h0 j G (by omega) (by omega)];simp only[Ke,h,if_true]
  |false=>simp only[Qq,hstop j (by omega) h,Ke,h,Bool.false_eq_true,if_false];rw[←e]
theorem Qzt{F:Nat}(hF:400≤F){L:List Qy}(hl:L.length≤300)(h:Qao L):K2 F (0,(L.length:Int),L)=some (Z2 L):=by
 unfold K2;have e1:w64 (0+1)=1:=Zb (by omega) (by omega);simp only[tE,Zp,e1,Nat.zero_add];by_cases hn:L.length=0
 ·obtain rfl:L=[]:=List.eq_nil_of_length_eq_zero hn;obtain⟨G,rfl⟩:∃G,F=G+1:=⟨F-1,by omega⟩;simp(disch:=decide)only[Qq,Zd,List.length_nil,Int.natCast_zero,Option.bind_some];rfl
 refine X0 (L.drop 1) (fun(_:Unit) i=>(Z2 (L.take (i+1))++L.drop (i+1),((i+1:Nat):Int))) (fun _ _=>(.inl ():Unit ⊕ List Qy)) (fun _=>Z2 L) (fun _ _=>True) () (by rw[List.length_drop];omega) ?_ trivial ?_ ?_ ?_
 ·show(L,((1:Nat):Int))=_;have:L.take 1++L.drop 1=L:=List.take_append_drop 1 L;rw[Nat.zero_add];congr 1;cases L with
  |nil=>rfl
  |cons y t=>rfl
 ·intro i x _ hi hx _;refine⟨?_,fun _ _=>trivial⟩;rw[List.length_drop]at hi;rw[List.getElem?_drop,Nat.add_comm 1 i]at hx;have hx':L[i+1]? =some x:=hx;have hP:(Z2 (L.take (i+1))).length=i+1:=by rw[Qhr];exact Quc (by omega)
  have hd:L.drop (i+1)=x::L.drop (i+1+1):=by rw[List.drop_eq_getElem_cons (show i+1<L.length by omega)];congr 1;rw[List.getElem?_eq_getElem (show i+1<L.length by omega)]at hx';exact Option.some.inj hx'
  have hmem:∀j,j<i+1→(Z2 (L.take (i+1))).getD j dE∈L:=fun j hj=>
   List.mem_of_mem_take ((Qo7 _).mem_iff.1 (Qff dE (by omega)))
  have hxm:x∈L:=List.mem_of_getElem? hx';have hlen:∀j,j<i+1→∀a b:Qy,((Z2 (L.take (i+1))).take j++a::b::((Z2 (L.take (i+1))).drop (j+1)++L.drop (i+1+1))).length=L.length:=fun j hj a b=>by simp only[List.length_append,List.length_cons,List.length_take,List.length_drop,hP];omega
  have htl:∀j,j<i+1→((Z2 (L.take (i+1))).take j).length=j:=fun j hj=>Quc (by omega);simp(disch:=omega)only[Zg];rw[Zov hx',hd];rw[Zp1 (R:=L.drop (i+1+1)) (x:=x) hP];rw[Qu2 (x:=x) (P:=Z2 (L.take (i+1))) (R:=L.drop (i+1+1)) ?_ ?_ ?_ (i+1) F (by omega) (by omega)]
  ·simp(disch:=omega)only[Option.bind_some,Zb];have:Kr (Z2 (L.take (i+1))) x=(Z2 (L.take (i+1))).take (Ke x (Z2 (L.take (i+1))) (i+1))++x::(Z2 (L.take (i+1))).drop (Ke x (Z2 (L.take (i+1))) (i+1)):=by unfold Kr;rw[hP]
   rw[this,List.append_assoc];rfl
  ·intro j hj hlt;rw[hP]at hj;obtain⟨v,hv1,hv2⟩:=Qvm hF (h x hxm _ (hmem j hj));rw[hlt]at hv2;have hw:w64 (((j+1:Nat):Int)-1)=(j:Int):=by rw[Zb (by omega) (by omega)];omega
   have:=hlen j hj;simp(disch:=first|omega|(rw[hlen j hj];omega)|(rw[List.length_set,hlen j hj];omega))only[Zg,Zj,hw,Int.toNat_natCast,Qws (htl j hj),Zac (htl j hj),hv1,hv2,Option.bind_some,cond_true,Zoi (htl j hj)]
  ·intro j hj hlt;rw[hP]at hj;obtain⟨v,hv1,hv2⟩:=Qvm hF (h x hxm _ (hmem j hj));rw[hlt]at hv2;have hw:w64 (((j+1:Nat):Int)-1)=(j:Int):=by rw[Zb (by omega) (by omega)];omega
   have:=hlen j hj;simp(disch:=first|omega|(rw[hlen j hj];omega))only[Zg,Zj,hw,Int.toNat_natCast,Qws (htl j hj),Zac (htl j hj),hv1,hv2,Option.bind_some,cond_false]
  ·simp(disch:=omega)only[Zd,Option.bind_some,cond_false]
 ·intro _ _;rw[List.length_drop];simp(disch:=omega)only[Zd];rw[show L.length-1+1=L.length by omega,List.take_length,List.drop_length,List.append_nil]
 ·rw[Qno]
theorem Zng{F:Nat}(hF:400≤F){a n:Int}(ha:0≤a∧a≤1000)(hn:n≤a+1)(L:List Qy):K2 F (a,n,L)=some L:=by unfold K2;obtain⟨G,rfl⟩:∃G,F=G+1:=⟨F-1,by omega⟩;simp(disch:=omega)only[Qq,Zb,Zd,Option.bind_some]
theorem Ztb{F:Nat}(hF:400≤F){L:List Qy}(hl:L.length≤20)(h:Qao L):Qip F ((L.length:Int),L)=some (Z2 L):=by
 unfold Qip;obtain⟨G,hG⟩:∃G,F=G+2:=⟨F-2,by omega⟩;by_cases h20:L.length=20
 ·have hs:(Z2 L).length=L.length:=Qhr L;have e1:=Qzt hF (show L.length≤300 by omega) h;rw[h20]at e1;have e1:K2 F (0,20,L)=some (Z2 L):=e1;have hw:w64 (20+20)=40:=Zb (by omega) (by omega);have hl1:∀(step:List Qy×Int×Int→Option ((List Qy×Int×Int) ⊕ (List Qy×Int))),step (L,0,20)=some (.inl (Z2 L,20,40))→step (Z2 L,20,40)=some (.inr (Z2 L,20))→Qq step F (L,0,20)=some (Z2 L,20):=fun step q1 q2=>by rw[hG];simp only[Qq,q1,q2]
  rw[hl1]
  ·have e2:=Zng hF (a:=20) (n:=20) (by omega) (by omega) (Z2 L);simp only[h20,hs,decide_true,Bool.and_self,Zu,Option.bind_some];have e3:K2 F (20,((20:Nat):Int),Z2 L)=some (Z2 L):=e2;simp only[e3,Option.bind_some];have hl2:∀(step:List Qy×Int→Option ((List Qy×Int) ⊕ List Qy)),step (Z2 L,20)=some (.inr (Z2 L))→Qq step F (Z2 L,20)=some (Z2 L):=fun step q=>by rw[hG];simp only[Qq,q]
   rw[hl2]
   ·rfl
   ·simp(disch:=omega)only[Zd]
  ·simp(disch:=omega)only[Zg,h20,decide_true,Bool.and_self,Zu,Option.bind_some,e1,hw]
  ·simp(disch:=omega)only[Zd,h20]
 ·have hs:(Z2 L).length=L.length:=Qhr L;have e1:=Qzt hF (show L.length≤300 by omega) h;have hl1:∀(step:List Qy×Int×Int→Option ((List Qy×Int×Int) ⊕ (List Qy×Int))),step (L,0,20)=some (.inr (L,0))→Qq step F (L,0,20)=some (L,0):=fun step q1=>by rw[hG];simp only[Qq,q1]
  rw[hl1]
  ·simp only[decide_true,Bool.and_self,Zu,Option.bind_some,e1];have hl2:∀(step:List Qy×Int→Option ((List Qy×Int) ⊕ List Qy)),step (Z2 L,20)=some (.inr (Z2 L))→Qq step F (Z2 L,20)=some (Z2 L):=fun step q=>by rw[hG];simp only[Qq,q]
   rw[hl2]
   ·rfl
   ·simp(disch:=omega)only[Zd]
  ·simp(disch:=omega)only[Zd]
theorem Zy2{F:Nat}(hF:400≤F){L:List Qy}(hl:L.length≤20)(h:Qao L):Qjo F L=some (Z2 L):=by unfold Qjo;simp only[decide_true,Bool.and_self,Zu,Option.bind_some,Ztb hF hl h]
def W5(s:Qw)(c:ByteArray):List Qy:=s.2.2.2.1.filter fun e=>Qf e.2.1 c
def Jq(s:Qw)(c:ByteArray):List Qy:=Z2 (W5 s c)
theorem Zqo{F:Nat}(hF:400≤F){s:Qw}(hS:SmS s){c:ByteArray}(hl:(W5 s c).length≤20)(h:Qao (W5 s c)):Qb9 F (s,c)=some (Jq s c):=by
 have e:∀y:Qy,y::Qb Qy=[y]:=fun _=>rfl;have h1:=hS.e;unfold Qb9;simp only[tE,Zp];refine Qq0 s.2.2.2.1 (fun x=>Qf x.2.1 c) (fun x=>x) (by omega) ?_ ?_ ?_
 ·intro i x out hi hx ho;have hl2:(out++[x]).length≤301:=by simp;omega
  simp(disch:=omega)only[Zg,Zj,Int.toNat_natCast,getD_some hx,Zb,e,decide_true,Bool.and_self,Zu,Option.bind_some];cases Qf x.2.1 c
  ·simp[Zu]
  ·simp only[cond_true,if_true,Option.bind_some]
 ·intro out ho;simp(disch:=omega)only[Zd,decide_true,Bool.and_self,Zu,Option.bind_some]
 ·intro _;rw[List.map_id'];have hs:=Qhr (W5 s c);have e2:=Zy2 hF hl h;unfold W5 at hs e2 h hl;simp only[decide_true,Bool.and_self,Zu,Option.bind_some,e2,Nat.zero_add,hs,Nat.le_refl,List.drop_zero];rw[←hs,List.take_length];rfl
theorem Qxv{m:Mt}{s:Qw}(hv:stE m s=0){x:Qy}(hx:x∈s.2.2.2.1):
  0≤cI m x.2.1∧(cAt m x.2.1).2.2.2.2.2.2.2.2.2.2≤0∧V6 (mkE x)∧J4 (cAt m x.2.1).2.1 x.2.2.1=true∧0≤dyE x∧dyE x≤99999:=by
 obtain⟨i,hi,e⟩:=List.getElem_of_mem hx;have h:=Qy4 hv hi;have e2:s.2.2.2.1.getD i dE=x:=by rw[getD_some (List.getElem?_eq_getElem hi),e]
 unfold Jn at h;rw[e2]at h;by_cases h1:aI s x.1<0∨cI m x.2.1<0
 ·simp[h1]at h
 ·rw[if_neg h1]at h;by_cases h2:0<(cAt m x.2.1).2.2.2.2.2.2.2.2.2.2
  ·simp[h2]at h
  ·rw[if_neg h2]at h;by_cases h3:(s.2.2.2.1.take i).any (eP x.1 x.2.1)=true
   ·simp[h3]at h
   ·rw[if_neg h3]at h;by_cases h4:Jd x.2.2.1 x.2.2.2.1 x.2.2.2.2.1=0
    ·rw[if_pos h4]at h;by_cases h5:J4 (cAt m x.2.1).2.1 x.2.2.1=true
     ·rw[if_pos h5]at h;by_cases h6:Z0 x.2.2.2.2.2.1=true
      ·simp[h6]at h
      ·unfold Z0 at h6;simp only[Bool.or_eq_true,decide_eq_true_eq]at h6;refine⟨by omega,by omega,h4,h5,?_,?_⟩<;>(unfold dyE;omega)
     ·simp[h5]at h
    ·rw[if_neg h4]at h;exact absurd h h4
theorem Zno{m:Mt}{s:Qw}(hv:stE m s=0)(c:ByteArray){l:List Qy}(hl:∀x∈l,x∈s.2.2.2.1∧Qf x.2.1 c=true):Qao l:=by
 intro x hx y hy;obtain⟨hx1,hx2⟩:=hl x hx;obtain⟨hy1,hy2⟩:=hl y hy;obtain⟨-,-,a3,a4,a5⟩:=Qxv hv hx1;obtain⟨-,-,b3,b4,b5⟩:=Qxv hv hy1;refine⟨a3,b3,?_,a5,b5⟩;have ex:=X1.1 hx2;have ey:=X1.1 hy2;rw[ex]at a4;rw[ey]at b4;unfold J4 at a4 b4;simp only[Bool.or_eq_true]at a4 b4;unfold Qev mkE;rcases a4 with a4|a4
 ·rcases b4 with b4|b4
  ·right;right;rw[X1.1 a4,X1.1 b4];exact J1 _
  ·exact .inr (.inl b4)
 ·exact .inl a4
def Qi4(s:Qw)(c:ByteArray)(k:Bool):List Qy:=s.2.2.2.1.filter fun e=>Qf e.2.1 c&&(!k||e.2.2.2.2.2.2)
theorem Zp3(s:Qw)(c:ByteArray):Qi4 s c false=W5 s c:=by unfold Qi4 W5;simp
theorem Ztw{s:Qw}{c:ByteArray}{k:Bool}:∀x∈Qi4 s c k,x∈s.2.2.2.1∧Qf x.2.1 c=true:=fun x hx=>by unfold Qi4 at hx;rw[List.mem_filter]at hx;obtain⟨h1,h2⟩:=hx;simp only[Bool.and_eq_true]at h2;exact⟨h1,h2.1⟩
def Qkd(l:List ByteArray)(c:ByteArray):Nat:=(l.filter fun x=>Qf x c).length
theorem Zht(l:List ByteArray)(b c:ByteArray):Qkd (l++[b]) c=Qkd l c+if Qf b c=true then 1 else 0:=by unfold Qkd;rw[List.filter_append,List.length_append];cases h:Qf b c<;>simp[h]
def Qqa(q:List (ByteArray×Int))(l:List ByteArray):Prop:=∀k,Yp Qf k q 0=(Qkd l k:Int)
theorem Qqa.put{q:List (ByteArray×Int)}{l:List ByteArray}(h:Qqa q l)(b:ByteArray):Qqa (Je Qf b (Yp Qf b q 0+1) q) (l++[b]):=by
 intro k;rw[Qrp Zai,Zht];have h1:=h k;have h2:=h b;by_cases e:b=k
 ·subst e;simp[J1,h1]
 ·simp[Qrk e,Qrk (fun h:k=b=>e h.symm),h1]
def Qen(m:Mt)(c:ByteArray):Zv:=if cI m c<0 then Qe0 else cAt m c
def Vs(m:Mt)(s:Qw)(c:ByteArray)(relay:Bool):Int:=Qn [stE m s,if cI m c<0 then 10 else 0,if(decide (0<(Qen m c).2.2.2.2.2.2.2.2.2.2)==relay)=true then 0 else 13]
theorem Qs1{F:Nat}(hF:400≤F){m:Mt}(hm:m.2.2.2.2.length≤300)(hb:∀x∈m.2.2.2.2,x.1.size≤300∧x.2.2.1.size≤300){s:Qw}(h:SmS s)(c:ByteArray)(relay:Bool):
  Qaw F (m,s,c,relay)=some (Qen m c,Vs m s c relay):=by
 have e3:∀a b c,Zl F (a::b::c::Qb Int)=some (Qn [a,b,c]):=fun a b c=>J9 hF (by simp[Qb]);unfold Qaw Vs Qen;simp only[Zp,Qoh hF hm,l25 hF hm hb h,l86,Option.bind_some];by_cases hc:cI m c<0
 ·simp only[hc,if_true,l86,e3,Option.bind_some];cases(decide (0<Qe0.2.2.2.2.2.2.2.2.2.2)==relay)<;>rfl
 ·simp only[hc,if_false,l86,e3,Option.bind_some];cases(decide (0<(cAt m c).2.2.2.2.2.2.2.2.2.2)==relay)<;>rfl
theorem Zhf{m:Mt}{s:Qw}{c:ByteArray}{r:Bool}(h:Vs m s c r=0):stE m s=0∧0≤cI m c:=by
 have h1:=Qac h (stE m s) (by simp);have h2:=Qac h (if cI m c<0 then 10 else 0) (by simp);refine⟨h1,?_⟩;by_cases h3:cI m c<0
 ·simp[h3]at h2
 ·omega
theorem Qvl{m:Mt}{s:Qw}(hv:stE m s=0)(h:ShS s):s.2.2.2.1.length≤20:=by
 rcases h.e with h1|⟨h1,-⟩
 ·exact h1
 ·have h3:mtE m=0:=by
   by_cases h:mtE m=0
   ·exact h
   ·rw[stE,if_neg h]at hv;exact absurd hv h
  have h2:J7 s:=by unfold J7;omega
  rw[stE,if_pos h3,if_pos h2]at hv;exact absurd hv (by decide)
theorem Zk3{s:Qw}{c:ByteArray}:∀x∈W5 s c,x∈s.2.2.2.1∧Qf x.2.1 c=true:=fun x hx=>by rw[←Zp3]at hx;exact Ztw x hx
theorem Qzo(s:Qw)(c:ByteArray):(W5 s c).length≤s.2.2.2.1.length:=List.length_filter_le _ _
theorem Znh{F:Nat}(hF:400≤F){m:Mt}{s:Qw}(h:ShS s){c:ByteArray}(hv:stE m s=0):Qb9 F (s,c)=some (Jq s c):=
 Zqo hF h.sm (by have:=Qvl hv h;have:=Qzo s c;omega) (Zno hv c Zk3)
theorem Zmb{m:Mt}{s:Qw}(h:ShS s)(hv:stE m s=0)(c:ByteArray):(Jq s c).length≤20:=by unfold Jq;rw[Qhr];have:=Qvl hv h;have:=Qzo s c;omega
theorem l55{F:Nat}(hF:400≤F){m:Mt}(hm:m.2.2.2.2.length≤300)(hb:∀x∈m.2.2.2.2,x.1.size≤300∧x.2.2.1.size≤300){s:Qw}(h:ShS s)(c:ByteArray):
  c55 F (m,s,c)=some (if Vs m s c false=0 then(Jq s c,0)else([],Vs m s c false)):=by
 unfold c55;simp only[Zp,Qs1 hF hm hb h.sm,Option.bind_some];by_cases hv:Vs m s c false=0
 ·simp only[hv,decide_true,Bool.not_true,cond_false,if_true,Znh hF h (Zhf hv).1,Option.bind_some]
 ·simp only[hv,decide_false,Bool.not_false,cond_true,if_false];rfl
theorem Zku{m:Mt}{c:ByteArray}(h:0≤cI m c):Qen m c=cAt m c:=by unfold Qen;rw[if_neg (by omega)]
end Go.Proofs.Tryz
section
namespace Go.Proofs.Tryz
open Go Go.Sx
end Go.Proofs.Tryz
end
section

end
section
namespace Go.Proofs.Tryz
open Go Go.Sx
noncomputable section
def Qu3(F:Nat):LK:=lN
def Qez(F:Nat)(a:List ByteArray):Option (List ByteArray):=
 bif decide (a.length=0)then((gd (decide (List.length (Qb ByteArray++a)*(16:Nat)≤(140737488355328:Nat))) (gd (decide (List.length (Qb ByteArray++a)≤9223372036854775807)) (gd (decide ((0:Nat)+List.length (Qb ByteArray++a)≤List.length (Qb ByteArray++a))) (some (List.take (List.length (Qb ByteArray++a)) (List.drop (0:Nat) (Qb ByteArray++a))))))).bind fun(v4:List ByteArray)=>gd (Qx.eqv (Qe.val (Ty.seq Zr)::Qb Qe) (Qb ByteArray) v4) (some (Qb ByteArray)))else(gd (decide (List.length (Qb ByteArray++a)*(16:Nat)≤(140737488355328:Nat))) (gd (decide (List.length (Qb ByteArray++a)≤9223372036854775807)) (gd (decide ((0:Nat)+List.length (Qb ByteArray++a)≤List.length (Qb ByteArray++a))) (some (List.take (List.length (Qb ByteArray++a)) (List.drop (0:Nat) (Qb ByteArray++a)))))))
def Zh7(F:Nat):PC:={ats:=Ux,rts:=Ux,code:=Qez F}
theorem Zfn(F:Nat)(a:List ByteArray):Z5 cx (Qu3 F).x 1000 .leaf f150 (Qv f150) Ux Ux a=Qez F a:=by kernel_rfl
theorem Zmx(F:Nat):Qg cx 150 (Zh7 F):=Qg.Zs Zt (Qu3 F).ok (n:=1000) (an:=.leaf) (fn:=f150) (c:=Qv f150) (by kernel_rfl) (by kernel_rfl) (fun a y h=>(Zfn F a).trans h) (by kernel_rfl)
end
end Go.Proofs.Tryz
end
section
namespace Go.Proofs.Tryz
open Go Go.Sx
noncomputable section
def Zgx(F:Nat):LK:=lC (Zmx F) (lC (Qfw F) lN)
def c70(F:Nat)(a:(Zi)×(Qz)×ByteArray):Option (List (Zh)×Int):=
 (Qaw F (a.1,a.2.1,a.2.2,true)).bind fun(v16:(Z4)×Int)=>bif !decide (v16.2=0)then(some ((Qb (Zh),v16.2)))else((Qq (σ:=List (Zh)×Int) (β:=List (Zh)) (fun(v18:List (Zh)×Int)=>bif decide (v18.2<(↑(a.2.1.2.2.2.2.length):Int))then(gd (decide (0≤v18.2)) (gd (decide (v18.2<(↑(a.2.1.2.2.2.2.length):Int))) (gd (decide (v18.2.toNat<a.2.1.2.2.2.2.length)) ((bif Qf (a.2.1.2.2.2.2.getD (v18.2.toNat) (ByteArray.empty,ByteArray.empty,Qb ByteArray)).2.1 a.2.2 then((Qez F (a.2.1.2.2.2.2.getD (v18.2.toNat) (ByteArray.empty,ByteArray.empty,Qb ByteArray)).2.2).bind fun(v21:List ByteArray)=>gd (decide (v18.1.length=v18.1.length)) (gd (decide (List.length (v18.1++((a.2.1.2.2.2.2.getD (v18.2.toNat) (ByteArray.empty,ByteArray.empty,Qb ByteArray)).1,(a.2.1.2.2.2.2.getD (v18.2.toNat) (ByteArray.empty,ByteArray.empty,Qb ByteArray)).2.1,v21)::Qb (Zh))*(56:Nat)≤(140737488355328:Nat))) (gd (decide (List.length (v18.1++((a.2.1.2.2.2.2.getD (v18.2.toNat) (ByteArray.empty,ByteArray.empty,Qb ByteArray)).1,(a.2.1.2.2.2.2.getD (v18.2.toNat) (ByteArray.empty,ByteArray.empty,Qb ByteArray)).2.1,v21)::Qb (Zh))≤9223372036854775807)) (gd (decide (List.length (v18.1++((a.2.1.2.2.2.2.getD (v18.2.toNat) (ByteArray.empty,ByteArray.empty,Qb ByteArray)).1,(a.2.1.2.2.2.2.getD (v18.2.toNat) (ByteArray.empty,ByteArray.empty,Qb ByteArray)).2.1,v21)::Qb (Zh))=List.length (v18.1++((a.2.1.2.2.2.2.getD (v18.2.toNat) (ByteArray.empty,ByteArray.empty,Qb ByteArray)).1,(a.2.1.2.2.2.2.getD (v18.2.toNat) (ByteArray.empty,ByteArray.empty,Qb ByteArray)).2.1,v21)::Qb (Zh)))&&true&&(true&&(true&&(true&&true)))) (some ((v18.1++((a.2.1.2.2.2.2.getD (v18.2.toNat) (ByteArray.empty,ByteArray.empty,Qb ByteArray)).1,(a.2.1.2.2.2.2.getD (v18.2.toNat) (ByteArray.empty,ByteArray.empty,Qb ByteArray)).2.1,v21)::Qb (Zh),(a.2.1.2.2.2.2.getD (v18.2.toNat) (ByteArray.empty,ByteArray.empty,Qb ByteArray)).1,(a.2.1.2.2.2.2.getD (v18.2.toNat) (ByteArray.empty,ByteArray.empty,Qb ByteArray)).2.1,v21)))))))else(gd (decide (v18.1.length=v18.1.length)&&true&&(true&&(true&&(true&&true)))) (some ((v18.1,(a.2.1.2.2.2.2.getD (v18.2.toNat) (ByteArray.empty,ByteArray.empty,Qb ByteArray)).1,(a.2.1.2.2.2.2.getD (v18.2.toNat) (ByteArray.empty,ByteArray.empty,Qb ByteArray)).2.1,(a.2.1.2.2.2.2.getD (v18.2.toNat) (ByteArray.empty,ByteArray.empty,Qb ByteArray)).2.2))))).bind fun(v19:List (Zh)×Zh)=>(gd (decide (v19.1.length=v19.1.length)&&true&&(true&&true)) (some ((v19.1,w64 (v18.2+1))))).bind fun(v20:List (Zh)×Int)=>some (Sum.inl v20)))))else((gd (decide (v18.1.length=v18.1.length)&&true&&true) (some v18.1)).bind fun(v22:List (Zh))=>some (Sum.inr v22))) F ((Qb (Zh),(0:Int)))).bind fun(v17:List (Zh))=>gd (decide ((0:Nat)+v17.length≤v17.length)&&true) (some ((List.take (v17.length) (List.drop (0:Nat) v17),(0:Int)))))
def Zsw(F:Nat):PC:={ats:=Qhv,rts:=[.val (.seq kt9),.val (.int .i64)],code:=c70 F}
theorem Zyi(F:Nat):Qg cx 70 (Zsw F):=qE (Zgx F) (Q8 3 (.two (.two .leaf (.one (.virt 10 147 kt9 (.loop ⟨[.vec 3 147 kt9,.slot 26 (.val (.int .i64))],[(10,.own 3)]⟩ [(.exit 0,⟨[.vec 3 147 kt9],[(10,.own 3)]⟩)] ⟨[42,26,30,31,32,33,38,39,40,41,10,37,36,35,34,12,29,28,27],[3],[3]⟩ F (Q8 2 (.two (.one (Q8 2 (.join [(.normal,⟨[.vec 3 147 kt9,.one 4 147 kt9],[(10,.own 3)]⟩)] ⟨[38,39,40,41,10,37,36,35,34],[4,3],[3]⟩ .leaf))) .leaf)))))) .leaf)) f70 (by kernel_rfl) fun a=>by kernel_rfl
end
end Go.Proofs.Tryz
end
namespace Go.Proofs.Tryz
open Go Go.Sx
theorem Zwj{F:Nat}{l:List ByteArray}(h:l.length≤1000):Qez F l=some l:=by
 have e:Qb ByteArray++l=l:=rfl;have h1:l.length*16≤140737488355328:=by omega
 have h2:l.length≤9223372036854775807:=by omega
 unfold Qez;simp only[e,h1,h2,Nat.zero_add,Nat.le_refl,decide_true,Zu,List.drop_zero,List.take_length,Option.bind_some];by_cases h0:l.length=0
 ·obtain rfl:=List.eq_nil_of_length_eq_zero h0;rfl
 ·simp only[h0,decide_false,cond_false]
theorem l70{F:Nat}(hF:400≤F){m:Mt}(hm:m.2.2.2.2.length≤300)(hb:∀x∈m.2.2.2.2,x.1.size≤300∧x.2.2.1.size≤300){s:Qw}(h:ShS s)(c:ByteArray):
  c70 F (m,s,c)=some (if Vs m s c true=0 then(s.2.2.2.2.filter fun t=>Qf t.2.1 c,0)else([],Vs m s c true)):=by
 have e:∀y:Tm,y::Qb Tm=[y]:=fun _=>rfl;have hd:(ByteArray.empty,ByteArray.empty,Qb ByteArray)=dT:=rfl;have h1:=h.sm.t;unfold c70;simp only[Zp,Qs1 hF hm hb h.sm,Option.bind_some,hd];by_cases hv:Vs m s c true=0
 ·simp only[hv,decide_true,Bool.not_true,cond_false,if_true];refine Qq0 s.2.2.2.2 (fun x=>Qf x.2.1 c) (fun x=>x) (by omega) ?_ ?_ ?_
  ·intro i x out hi hx ho;have hl2:(out++[x]).length≤301:=by simp;omega
   have hn:x.2.2.length≤10:=(h.ts x (List.mem_of_getElem? hx)).2.2.1;simp(disch:=omega)only[Zg,Zj,Int.toNat_natCast,getD_some hx,Zb,Zp,Zwj (F:=F) (l:=x.2.2) (by omega),e,decide_true,Bool.and_self,Zu,Option.bind_some];cases Qf x.2.1 c<;>rfl
  ·intro out ho;simp(disch:=omega)only[Zd,decide_true,Bool.and_self,Zu,Option.bind_some]
  ·intro _;rw[List.map_id'];simp only[decide_true,Bool.and_self,Zu,Nat.zero_add,Nat.le_refl,List.drop_zero,List.take_length]
 ·simp only[hv,decide_false,Bool.not_false,cond_true,if_false];rfl
theorem Zp7{l:List ByteArray}{x:ByteArray}:hasB l x=true↔x∈l:=by
 unfold hasB;rw[List.any_eq_true];constructor
 ·rintro ⟨y,hy,e⟩
  rw[X1.1 e]at hy;exact hy
 ·intro h;exact⟨x,h,J1 x⟩
end Go.Proofs.Tryz
section
namespace Go.Proofs.Tryz
open Go Go.Sx
end Go.Proofs.Tryz
end
section
namespace Go.Proofs.Tryz
open Go Go.Sx
noncomputable section
end
end Go.Proofs.Tryz
end
section
namespace Go.Proofs.Tryz
open Go Go.Sx
end Go.Proofs.Tryz
end
section
namespace Go.Sx
open Go
theorem Qg.cases{cx:Cx}{g:Nat}{ats rts:List Qe}{p:Qx ats→Bool}{c q:Qx ats→Option (Qx rts)}(h1:Qg cx g {ats:=ats,rts:=rts,code:=fun a=>bif p a then c a else none})
  (h2:Qg cx g {ats:=ats,rts:=rts,code:=q}):Qg cx g {ats:=ats,rts:=rts,code:=fun a=>bif p a then c a else q a}:=
 ⟨h1.fn,fun a y hy=>by
  have hy:(bif p a then c a else q a)=some y:=hy;cases e:p a with
  |true=>rw[e]at hy;exact h1.ok a y (by show(bif p a then c a else none)=some y;rw[e];exact hy)
  |false=>rw[e]at hy;exact h2.ok a y hy⟩
end Go.Sx
namespace Go.Proofs.Tryz
open Go Go.Sx
end Go.Proofs.Tryz
end
section
namespace Go.Proofs.Tryz
open Go Go.Sx
end Go.Proofs.Tryz
end
section
namespace Go.Proofs.Tryz
open Go Go.Sx
end Go.Proofs.Tryz
end
namespace Go.Proofs.Tryz
open Go Go.Sx
theorem Qbn{m:Mt}{s:Qw}(hv:stE m s=0):mtE m=0:=by
 by_cases h:mtE m=0
 ·exact h
 ·rw[stE,if_neg h]at hv;exact absurd hv h
end Go.Proofs.Tryz

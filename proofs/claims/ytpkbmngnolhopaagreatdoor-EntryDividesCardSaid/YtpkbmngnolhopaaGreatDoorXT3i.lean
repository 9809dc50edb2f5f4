/- Plain law: marks compared, in the program and in the reference. Plain law: entries in order, in the program and in the reference. And further parts. -/
import Derived.Test.YtpkbmngnolhopaaGreatDoorXT3g
import Derived.Test.YtpkbmngnolhopaaGreatDoorXTeB2
import Derived.Test.YtpkbmngnolhopaaGreatDoorXTeB3
set_option maxRecDepth 100000
set_option linter.unusedVariables false
set_option linter.unusedSimpArgs false
namespace Go.Proofs.Tryz
open Go Go.Sx
abbrev Mk:=ByteArray×Int×ByteArray
theorem Zrh:({data:=List.toArray ((108:UInt8)::(101:UInt8)::(110:UInt8)::(103:UInt8)::(116:UInt8)::(104:UInt8)::Qb UInt8)}:ByteArray)=kL:=rfl
theorem Zdm:({data:=List.toArray ((112:UInt8)::(111:UInt8)::(105:UInt8)::(110:UInt8)::(116:UInt8)::(115:UInt8)::Qb UInt8)}:ByteArray)=kP:=rfl
theorem Quh:({data:=List.toArray ((116:UInt8)::(105:UInt8)::(109:UInt8)::(101:UInt8)::Qb UInt8)}:ByteArray)=kT:=rfl
theorem Zae:({data:=List.toArray ((110:UInt8)::(111:UInt8)::(110:UInt8)::(101:UInt8)::Qb UInt8)}:ByteArray)=kN:=rfl
def wM(k:ByteArray)(v:Int):Int:=if Qe k kT=true then-v else if Qe k kL=true then v else if Qe k kP=true then v else-864000000
def Xm(a b:Int):Int:=if b<a then-1 else if a<b then 1 else 0
def Jj(x:Mk):Prop:=Jb x.1 x.2.1 x.2.2=0
def kindOk(x:Mk):Prop:=Qe x.1 kN=true∨Qe x.1 kT=true∨Qe x.1 kL=true∨Qe x.1 kP=true
theorem Zr6{x:Mk}(h:Jj x):kindOk x:=by
 unfold Jj Jb at h;unfold kindOk;by_cases h1:Qe x.1 kN=true
 ·exact .inl h1
 ·by_cases h2:Qe x.1 kT=true
  ·exact .inr (.inl h2)
  ·by_cases h3:Qe x.1 kL=true
   ·exact .inr (.inr (.inl h3))
   ·by_cases h4:Qe x.1 kP=true
    ·exact .inr (.inr (.inr h4))
    ·rw[if_neg h1,if_neg h2,if_neg h3,if_neg h4]at h;cases h
theorem Qnl{a b k:ByteArray}(h:Qe k a=true)(hab:Qe a b=false):Qe k b=false:=by rw[Jl]at h;rw[h];exact hab
theorem Qyy(F:Nat){k:ByteArray}{v:Int}(r:ByteArray)(hv:-999999999≤v∧v≤999999999):Qew F (k,v,r)=some (wM k v):=by
 unfold Qew tw;have hw:IntKind.wrap IntKind.i64 (0-v)= -v:=by rw[show IntKind.wrap IntKind.i64 (0-v)=w64 (0-v)from rfl,Zh (by omega) (by omega)];omega
 simp only[hw,Quh,Zrh,Zdm];have g:∀x:Int,gd (Qw.eqv (Qf.val (Ty.int Go.IntKind.i64)::Qb Qf) x x) (some x)=some x:=by
  intro x;have:Qw.eqv (Qf.val (Ty.int Go.IntKind.i64)::Qb Qf) x x=true:=by change Ku x x=true;simp[Ku]
  rw[this];rfl
 unfold wM;cases Qe k kT<;>cases Qe k kL<;>cases Qe k kP<;>simp[g]
theorem Qjk{x:Mk}(h:Jj x):0≤x.2.1∧x.2.1≤863999999:=by
 unfold Jj Jb at h;split at h
 ·split at h
  ·cases h
  ·split at h
   ·cases h
   ·rename_i h3;have:x.2.1=0:=by simpa using h3
    omega
 ·split at h
  ·split at h
   ·cases h
   ·split at h
    ·cases h
    ·omega
  ·split at h
   ·split at h
    ·cases h
    ·split at h
     ·cases h
     ·omega
   ·split at h
    ·split at h
     ·cases h
     ·split at h
      ·cases h
      ·omega
    ·cases h
def wE(x:Mk):Int:=wM x.1 x.2.1
def Qdx(x y:Mk):Prop:=Qe x.1 kN=true∨Qe y.1 kN=true∨Qe x.1 y.1=true
theorem Zmt(F:Nat){x y:Mk}(hx:Jj x)(hy:Jj y):Qir F (x,y)=some (Xm (wE x) (wE y)):=by
 unfold Qir Xm wE;obtain⟨a1,a2⟩:=Qjk hx;obtain⟨b1,b2⟩:=Qjk hy;simp only[Qyy F _ (show-999999999≤x.2.1∧x.2.1≤999999999 by omega),Qyy F _ (show-999999999≤y.2.1∧y.2.1≤999999999 by omega),Option.bind_some];by_cases h1:wM y.1 y.2.1<wM x.1 x.2.1
 ·rw[Zk h1,if_pos h1]
 ·rw[Zf h1,if_neg h1];by_cases h2:wM x.1 x.2.1<wM y.1 y.2.1
  ·rw[Zk h2,if_pos h2]
  ·rw[Zf h2,if_neg h2]
theorem Zoc(F:Nat){x y:Mk}(h:Qdx x y):Qkh F (x,y)=some false:=by unfold Qkh;simp only[Zae];unfold Qdx at h;cases h1:Qe x.1 y.1<;>cases h2:Qe x.1 kN<;>cases h3:Qe y.1 kN<;>simp_all
theorem Zii{F:Nat}(hF:400≤F){x y:Mk}(hx:Jj x)(hy:Jj y)(h:Qdx x y):Qk1 F (x,y)=some (Xm (wE x) (wE y),0):=by
 unfold Qk1;have q:∀(a b c:Int),Jm F (a::b::c::Qb Int)=some (Qo [a,b,c]):=by intro a b c;rw[Qo9 (by simp[Qb];omega) (by simp[Qb])];rfl
 have hx':=hx;have hy':=hy;unfold Jj at hx' hy';simp only[Zo,l99 hF,Zoc F h,Qwf,q,hx',hy',Option.bind_some,Zmt F hx hy];rfl
theorem kinds{x:Mk}(h:Jj x):(Qe x.1 kN=true∧wE x= -864000000)∨(Qe x.1 kN=false∧Qe x.1 kT=true∧wE x= -x.2.1)∨(Qe x.1 kN=false∧Qe x.1 kT=false∧wE x=x.2.1):=by
 have hk:=Zr6 h;unfold kindOk at hk;unfold wE wM;cases hN:Qe x.1 kN with
 |true=>left;refine⟨rfl,?_⟩;rw[if_neg (by rw[Qnl hN rfl];simp),if_neg (by rw[Qnl hN rfl];simp),if_neg (by rw[Qnl hN rfl];simp)]
 |false=>
  right;cases hT:Qe x.1 kT with
  |true=>left;exact⟨rfl,rfl,by rw[if_pos rfl]⟩
  |false=>
   right;refine⟨rfl,rfl,?_⟩;rw[if_neg (by simp)];rcases hk with hk|hk|hk|hk
   ·rw[hk]at hN;cases hN
   ·rw[hk]at hT;cases hT
   ·rw[if_pos hk]
   ·by_cases hL:Qe x.1 kL=true
    ·rw[if_pos hL]
    ·rw[if_neg hL,if_pos hk]
theorem l57(F:Nat){x y:Mk}(hx:Jj x)(hy:Jj y)(h:Qdx x y):c57 F (x,y)=some (Xm (wE x) (wE y)):=by
 unfold c57;obtain⟨a1,a2⟩:=Qjk hx;obtain⟨b1,b2⟩:=Qjk hy;simp only[Zae,Quh];have ne1:Qe x.1 kN=true→Qe y.1 kN=false→Qe x.1 y.1=false:=fun p q=>by
  cases e:Qe x.1 y.1 with
  |false=>rfl
  |true=>rw[Jl]at e;rw[←e,p]at q;cases q
 have ne2:Qe x.1 kN=false→Qe y.1 kN=true→Qe x.1 y.1=false:=fun p q=>by
  cases e:Qe x.1 y.1 with
  |false=>rfl
  |true=>rw[Jl]at e;rw[←e,p]at q;cases q
 have fin:∀a b:Int,(bif decide (b<a)then some (-1:Int)else bif decide (a<b)then some 1 else some 0)=some (Xm a b):=by
  intro a b;unfold Xm;by_cases h1:b<a
  ·rw[if_pos h1,Zk h1]
  ·rw[if_neg h1,Zf h1];by_cases h2:a<b
   ·rw[if_pos h2,Zk h2]
   ·rw[if_neg h2,Zf h2]
 rcases kinds hx with⟨p1,p2⟩|⟨p1,p3,p2⟩|⟨p1,p3,p2⟩
 ·rcases kinds hy with⟨q1,q2⟩|⟨q1,q3,q2⟩|⟨q1,q3,q2⟩
  ·have:Qe x.1 y.1=true:=by rw[Jl]at p1 q1⊢;rw[p1,q1]
   simp[p1,this,Xm,p2,q2]
  ·have h1:¬wE y<wE x:=by omega
   have h2:wE x<wE y:=by omega
   simp[p1,ne1 p1 q1,q1,Xm,h1,h2]
  ·have h1:¬wE y<wE x:=by omega
   have h2:wE x<wE y:=by omega
   simp[p1,ne1 p1 q1,q1,Xm,h1,h2]
 ·rcases kinds hy with⟨q1,q2⟩|⟨q1,q3,q2⟩|⟨q1,q3,q2⟩
  ·have h1:wE y<wE x:=by omega
   simp[p1,ne2 p1 q1,q1,Xm,h1]
  ·simp only[p1,q1,p3,cond_false,cond_true,Option.bind_some];rw[fin,p2,q2];unfold Xm;congr 1
   (repeat' split)<;>omega
  ·exfalso;rcases h with h|h|h
   ·rw[h]at p1;cases p1
   ·rw[h]at q1;cases q1
   ·rw[Jl]at h;rw[←h,p3]at q3;cases q3
 ·rcases kinds hy with⟨q1,q2⟩|⟨q1,q3,q2⟩|⟨q1,q3,q2⟩
  ·have h1:wE y<wE x:=by omega
   simp[p1,ne2 p1 q1,q1,Xm,h1]
  ·exfalso;rcases h with h|h|h
   ·rw[h]at p1;cases p1
   ·rw[h]at q1;cases q1
   ·rw[Jl]at h;rw[←h,p3]at q3;cases q3
  ·simp only[p1,q1,p3,cond_false,cond_true,Option.bind_some];rw[fin,p2,q2]
def mkE(x:Qm):Mk:=(x.2.2.1,x.2.2.2.1,x.2.2.2.2.1)
def dyE(x:Qm):Int:=x.2.2.2.2.2.1
def ltE(x y:Qm):Bool:=decide (wE (mkE y)<wE (mkE x))||(decide (wE (mkE x)=wE (mkE y))&&decide (dyE x<dyE y))
structure Qt9 (x y:Qm):Prop where
 mx:Jj (mkE x)
 my:Jj (mkE y)
 k:Qdx (mkE x) (mkE y)
 dx:0≤dyE x∧dyE x≤99999
 dy:0≤dyE y∧dyE y≤99999
theorem Quo{F:Nat}(hF:400≤F){x y:Qm}(h:Qt9 x y):∃v,Qkp F (x,y)=some v∧decide (v<0)=ltE x y:=by
 unfold Qkp;have e:=Zii hF h.mx h.my h.k;simp only[mkE]at e;simp only[e,Option.bind_some];have d1:=h.dx;have d2:=h.dy;have e2:w64 (x.2.2.2.2.2.1-y.2.2.2.2.2.1)=dyE x-dyE y:=by unfold dyE at d1 d2⊢;rw[Zh (by omega) (by omega)]
 unfold Xm ltE;simp only[mkE]at*;by_cases h1:wE (y.2.2.1,y.2.2.2.1,y.2.2.2.2.1)<wE (x.2.2.1,x.2.2.2.1,x.2.2.2.2.1)
 ·refine⟨-1,?_,?_⟩<;>simp[h1]
 ·by_cases h2:wE (x.2.2.1,x.2.2.2.1,x.2.2.2.2.1)<wE (y.2.2.1,y.2.2.2.1,y.2.2.2.2.1)
  ·refine⟨1,?_,?_⟩
   ·simp[h1,h2]
   ·have:¬wE (x.2.2.1,x.2.2.2.1,x.2.2.2.2.1)=wE (y.2.2.1,y.2.2.2.1,y.2.2.2.2.1):=by omega
    simp[h1,this]
  ·have h3:wE (x.2.2.1,x.2.2.2.1,x.2.2.2.2.1)=wE (y.2.2.1,y.2.2.2.1,y.2.2.2.2.1):=by omega
   refine⟨dyE x-dyE y,?_,?_⟩
   ·simp[h3,e2]
   ·by_cases h4:dyE x<dyE y
    ·have:dyE x-dyE y<0:=by omega
     simp[h3,h4,this]
    ·have:¬dyE x-dyE y<0:=by omega
     simp[h3,h4,this]
theorem tE:Q5=dE:=rfl
def Xq(x:Qm)(l:List Qm):Nat→Nat
 |0=>0
 |n+1=>if ltE x (l.getD n dE)=true then Xq x l n else n+1
theorem Qxb(x:Qm)(l:List Qm):∀n,Xq x l n≤n
 |0=>Nat.le_refl _
 |n+1=>by
  unfold Xq;split
  ·have:=Qxb x l n;omega
  ·exact Nat.le_refl _
def Wr(l:List Qm)(x:Qm):List Qm:=l.take (Xq x l l.length)++x::l.drop (Xq x l l.length)
def Zw(l:List Qm):List Qm:=l.foldl Wr []
theorem Zf3(l:List Qm)(x:Qm):(Wr l x).Perm (x::l):=by unfold Wr;refine List.perm_middle.trans ?_;rw[List.take_append_drop]
theorem Qzs:∀(l o:List Qm),(l.foldl Wr o).Perm (l++o)
 |[],o=>List.Perm.refl _
 |x::l,o=>by rw[List.foldl_cons];refine(Qzs l (Wr o x)).trans ?_;refine(List.Perm.append_left l (Zf3 o x)).trans ?_;exact List.perm_middle
theorem Qgb(l:List Qm):(Zw l).Perm l:=by have:=Qzs l [];rw[List.append_nil]at this;exact this
theorem Qfd(l:List Qm):(Zw l).length=l.length:=(Qgb l).length_eq
theorem Qyc(l:List Qm)(x:Qm):Zw (l++[x])=Wr (Zw l) x:=by unfold Zw;rw[List.foldl_append];rfl
theorem Zkm{l:List Qm}{i:Nat}{x:Qm}(h:l[i]? =some x):Zw (l.take (i+1))=Wr (Zw (l.take i)) x:=by rw[List.take_add_one,h];exact Qyc _ _
def Qaa(l:List Qm):Prop:=∀x∈l,∀y∈l,Qt9 x y
theorem Qaa.take{l:List Qm}(h:Qaa l)(i:Nat):Qaa (l.take i):=fun x hx y hy=>h x (List.mem_of_mem_take hx) y (List.mem_of_mem_take hy)
theorem Qz4{A R:List Qm}{y x:Qm}{j:Nat}(h:A.length=j):(A++y::x::R).getD (j+1) dE=x:=by rw[List.getD_eq_getElem?_getD,List.getElem?_append_right (by omega),show j+1-A.length=1 by omega];rfl
theorem Zct{A R:List Qm}{y x:Qm}{j:Nat}(h:A.length=j):((A++y::x::R).set (j+1) y).set j x=A++x::y::R:=by
 have e:A++y::x::R=(A++[y])++x::R:=by simp
 rw[e,Qxj (by simp[h]),show(A++[y])++y::R=A++y::(y::R)by simp,Qxj h]
theorem Zf7{P:List Qm}{j:Nat}(h:j<P.length):P.take (j+1)=P.take j++[P.getD j dE]:=by rw[List.take_add_one,U5 dE h];rfl
theorem Zpv{P:List Qm}{j:Nat}(h:j<P.length):P.drop j=P.getD j dE::P.drop (j+1):=by rw[List.drop_eq_getElem_cons h,List.getD_eq_getElem?_getD,List.getElem?_eq_getElem h];rfl
theorem Ztc{P R:List Qm}{x:Qm}{n:Nat}(h:P.length=n):P++x::R=P.take n++x::(P.drop n++R):=by subst h;simp
theorem Qvh{step:List Qm×Int→Option ((List Qm×Int) ⊕ List Qm)}{x:Qm}{P R:List Qm}
  (hstep:∀j,j<P.length→ltE x (P.getD j dE)=true→step (P.take j++P.getD j dE::x::(P.drop (j+1)++R),((j+1:Nat):Int))=some (.inl (P.take j++x::P.getD j dE::(P.drop (j+1)++R),(j:Int))))
  (hstop:∀j,j<P.length→ltE x (P.getD j dE)=false→step (P.take j++P.getD j dE::x::(P.drop (j+1)++R),((j+1:Nat):Int))=some (.inr (P.take j++P.getD j dE::x::(P.drop (j+1)++R))))
  (h0:step (x::(P++R),((0:Nat):Int))=some (.inr (x::(P++R)))):
  ∀(j F:Nat),j≤P.length→j<F→Qu step F (P.take j++x::(P.drop j++R),(j:Int))=some (P.take (Xq x P j)++x::(P.drop (Xq x P j)++R))
 |0,F,hj,hF=>by obtain⟨G,rfl⟩:∃G,F=G+1:=⟨F-1,by omega⟩;simp only[Qu,List.take_zero,List.drop_zero,List.nil_append,h0,Xq]
 |j+1,F,hj,hF=>by
  obtain⟨G,rfl⟩:∃G,F=G+1:=⟨F-1,by omega⟩;have e:P.take (j+1)++x::(P.drop (j+1)++R)=P.take j++P.getD j dE::x::(P.drop (j+1)++R):=by rw[Zf7 (by omega)];simp
  rw[e];cases h:ltE x (P.getD j dE)with
  |true=>
   simp only[Qu,hstep j (by omega) h];have e2:P.take j++x::P.getD j dE::(P.drop (j+1)++R)=P.take j++x::(P.drop j++R):=by rw[Zpv (show j<P.length by omega)];simp
   rw[e2,Qvh hstep hstop h0 j G (by omega) (by omega)];simp only[Xq,h,if_true]
  |false=>simp only[Qu,hstop j (by omega) h,Xq,h,Bool.false_eq_true,if_false];rw[←e]
theorem Qx8{F:Nat}(hF:400≤F){L:List Qm}(hl:L.length≤300)(h:Qaa L):Ug F (0,(L.length:Int),L)=some (Zw L):=by
 unfold Ug;have e1:w64 (0+1)=1:=Zh (by omega) (by omega);simp only[tE,Zo,e1,Nat.zero_add];by_cases hn:L.length=0
 ·obtain rfl:L=[]:=List.eq_nil_of_length_eq_zero hn;obtain⟨G,rfl⟩:∃G,F=G+1:=⟨F-1,by omega⟩;simp(disch:=decide)only[Qu,Zf,List.length_nil,Int.natCast_zero,Option.bind_some];rfl
 refine Jn (L.drop 1) (fun(_:Unit) i=>(Zw (L.take (i+1))++L.drop (i+1),((i+1:Nat):Int))) (fun _ _=>(.inl ():Unit ⊕ List Qm)) (fun _=>Zw L) (fun _ _=>True) () (by rw[List.length_drop];omega) ?_ trivial ?_ ?_ ?_
 ·show(L,((1:Nat):Int))=_;have:L.take 1++L.drop 1=L:=List.take_append_drop 1 L;rw[Nat.zero_add];congr 1;cases L with
  |nil=>rfl
  |cons y t=>rfl
 ·intro i x _ hi hx _;refine⟨?_,fun _ _=>trivial⟩;rw[List.length_drop]at hi;rw[List.getElem?_drop,Nat.add_comm 1 i]at hx;have hx':L[i+1]? =some x:=hx;have hP:(Zw (L.take (i+1))).length=i+1:=by rw[Qfd];exact Zb4 (by omega)
  have hd:L.drop (i+1)=x::L.drop (i+1+1):=by rw[List.drop_eq_getElem_cons (show i+1<L.length by omega)];congr 1;rw[List.getElem?_eq_getElem (show i+1<L.length by omega)]at hx';exact Option.some.inj hx'
  have hmem:∀j,j<i+1→(Zw (L.take (i+1))).getD j dE∈L:=fun j hj=>
   List.mem_of_mem_take ((Qgb _).mem_iff.1 (Qgz dE (by omega)))
  have hxm:x∈L:=List.mem_of_getElem? hx';have hlen:∀j,j<i+1→∀a b:Qm,((Zw (L.take (i+1))).take j++a::b::((Zw (L.take (i+1))).drop (j+1)++L.drop (i+1+1))).length=L.length:=fun j hj a b=>by simp only[List.length_append,List.length_cons,List.length_take,List.length_drop,hP];omega
  have htl:∀j,j<i+1→((Zw (L.take (i+1))).take j).length=j:=fun j hj=>Zb4 (by omega);simp(disch:=omega)only[Zk];rw[Zkm hx',hd];rw[Ztc (R:=L.drop (i+1+1)) (x:=x) hP];rw[Qvh (x:=x) (P:=Zw (L.take (i+1))) (R:=L.drop (i+1+1)) ?_ ?_ ?_ (i+1) F (by omega) (by omega)]
  ·simp(disch:=omega)only[Option.bind_some,Zh];have:Wr (Zw (L.take (i+1))) x=(Zw (L.take (i+1))).take (Xq x (Zw (L.take (i+1))) (i+1))++x::(Zw (L.take (i+1))).drop (Xq x (Zw (L.take (i+1))) (i+1)):=by unfold Wr;rw[hP]
   rw[this,List.append_assoc];rfl
  ·intro j hj hlt;rw[hP]at hj;obtain⟨v,hv1,hv2⟩:=Quo hF (h x hxm _ (hmem j hj));rw[hlt]at hv2;have hw:w64 (((j+1:Nat):Int)-1)=(j:Int):=by rw[Zh (by omega) (by omega)];omega
   have:=hlen j hj;simp(disch:=first|omega|(rw[hlen j hj];omega)|(rw[List.length_set,hlen j hj];omega))only[Zk,Zi,hw,Int.toNat_natCast,Qz4 (htl j hj),Qxz (htl j hj),hv1,hv2,Option.bind_some,cond_true,Zct (htl j hj)]
  ·intro j hj hlt;rw[hP]at hj;obtain⟨v,hv1,hv2⟩:=Quo hF (h x hxm _ (hmem j hj));rw[hlt]at hv2;have hw:w64 (((j+1:Nat):Int)-1)=(j:Int):=by rw[Zh (by omega) (by omega)];omega
   have:=hlen j hj;simp(disch:=first|omega|(rw[hlen j hj];omega))only[Zk,Zi,hw,Int.toNat_natCast,Qz4 (htl j hj),Qxz (htl j hj),hv1,hv2,Option.bind_some,cond_false]
  ·simp(disch:=omega)only[Zf,Option.bind_some,cond_false]
 ·intro _ _;rw[List.length_drop];simp(disch:=omega)only[Zf];rw[show L.length-1+1=L.length by omega,List.take_length,List.drop_length,List.append_nil]
 ·rw[Zl2]
theorem Zlz{F:Nat}(hF:400≤F){a n:Int}(ha:0≤a∧a≤1000)(hn:n≤a+1)(L:List Qm):Ug F (a,n,L)=some L:=by unfold Ug;obtain⟨G,rfl⟩:∃G,F=G+1:=⟨F-1,by omega⟩;simp(disch:=omega)only[Qu,Zh,Zf,Option.bind_some]
theorem Zwt{F:Nat}(hF:400≤F){L:List Qm}(hl:L.length≤20)(h:Qaa L):Qj2 F ((L.length:Int),L)=some (Zw L):=by
 unfold Qj2;obtain⟨G,hG⟩:∃G,F=G+2:=⟨F-2,by omega⟩;by_cases h20:L.length=20
 ·have hs:(Zw L).length=L.length:=Qfd L;have e1:=Qx8 hF (show L.length≤300 by omega) h;rw[h20]at e1;have e1:Ug F (0,20,L)=some (Zw L):=e1;have hw:w64 (20+20)=40:=Zh (by omega) (by omega);have hl1:∀(step:List Qm×Int×Int→Option ((List Qm×Int×Int) ⊕ (List Qm×Int))),step (L,0,20)=some (.inl (Zw L,20,40))→step (Zw L,20,40)=some (.inr (Zw L,20))→Qu step F (L,0,20)=some (Zw L,20):=fun step q1 q2=>by rw[hG];simp only[Qu,q1,q2]
  rw[hl1]
  ·have e2:=Zlz hF (a:=20) (n:=20) (by omega) (by omega) (Zw L);simp only[h20,hs,decide_true,Bool.and_self,Z2,Option.bind_some];have e3:Ug F (20,((20:Nat):Int),Zw L)=some (Zw L):=e2;simp only[e3,Option.bind_some];have hl2:∀(step:List Qm×Int→Option ((List Qm×Int) ⊕ List Qm)),step (Zw L,20)=some (.inr (Zw L))→Qu step F (Zw L,20)=some (Zw L):=fun step q=>by rw[hG];simp only[Qu,q]
   rw[hl2]
   ·rfl
   ·simp(disch:=omega)only[Zf]
  ·simp(disch:=omega)only[Zk,h20,decide_true,Bool.and_self,Z2,Option.bind_some,e1,hw]
  ·simp(disch:=omega)only[Zf,h20]
 ·have hs:(Zw L).length=L.length:=Qfd L;have e1:=Qx8 hF (show L.length≤300 by omega) h;have hl1:∀(step:List Qm×Int×Int→Option ((List Qm×Int×Int) ⊕ (List Qm×Int))),step (L,0,20)=some (.inr (L,0))→Qu step F (L,0,20)=some (L,0):=fun step q1=>by rw[hG];simp only[Qu,q1]
  rw[hl1]
  ·simp only[decide_true,Bool.and_self,Z2,Option.bind_some,e1];have hl2:∀(step:List Qm×Int→Option ((List Qm×Int) ⊕ List Qm)),step (Zw L,20)=some (.inr (Zw L))→Qu step F (Zw L,20)=some (Zw L):=fun step q=>by rw[hG];simp only[Qu,q]
   rw[hl2]
   ·rfl
   ·simp(disch:=omega)only[Zf]
  ·simp(disch:=omega)only[Zf]
theorem Zts{F:Nat}(hF:400≤F){L:List Qm}(hl:L.length≤20)(h:Qaa L):Qh1 F L=some (Zw L):=by unfold Qh1;simp only[decide_true,Bool.and_self,Z2,Option.bind_some,Zwt hF hl h]
def Ua(s:Qy)(c:ByteArray):List Qm:=s.2.2.2.1.filter fun e=>Qe e.2.1 c
def Ji(s:Qy)(c:ByteArray):List Qm:=Zw (Ua s c)
theorem Zga{F:Nat}(hF:400≤F){s:Qy}(hS:SmS s){c:ByteArray}(hl:(Ua s c).length≤20)(h:Qaa (Ua s c)):Qbi F (s,c)=some (Ji s c):=by
 have e:∀y:Qm,y::Qb Qm=[y]:=fun _=>rfl;have h1:=hS.e;unfold Qbi;simp only[tE,Zo];refine Zzc s.2.2.2.1 (fun x=>Qe x.2.1 c) (fun x=>x) (by omega) ?_ ?_ ?_
 ·intro i x out hi hx ho;have hl2:(out++[x]).length≤301:=by simp;omega
  simp(disch:=omega)only[Zk,Zi,Int.toNat_natCast,getD_some hx,Zh,e,decide_true,Bool.and_self,Z2,Option.bind_some];cases Qe x.2.1 c
  ·simp[Z2]
  ·simp only[cond_true,if_true,Option.bind_some]
 ·intro out ho;simp(disch:=omega)only[Zf,decide_true,Bool.and_self,Z2,Option.bind_some]
 ·intro _;rw[List.map_id'];have hs:=Qfd (Ua s c);have e2:=Zts hF hl h;unfold Ua at hs e2 h hl;simp only[decide_true,Bool.and_self,Z2,Option.bind_some,e2,Nat.zero_add,hs,Nat.le_refl,List.drop_zero];rw[←hs,List.take_length];rfl
theorem Qw6{m:Mt}{s:Qy}(hv:stE m s=0){x:Qm}(hx:x∈s.2.2.2.1):
  0≤cI m x.2.1∧(cAt m x.2.1).2.2.2.2.2.2.2.2.2.2≤0∧Jj (mkE x)∧Wa (cAt m x.2.1).2.1 x.2.2.1=true∧0≤dyE x∧dyE x≤99999:=by
 obtain⟨i,hi,e⟩:=List.getElem_of_mem hx;have h:=Qzb hv hi;have e2:s.2.2.2.1.getD i dE=x:=by rw[getD_some (List.getElem?_eq_getElem hi),e]
 unfold Jt at h;rw[e2]at h;by_cases h1:aI s x.1<0∨cI m x.2.1<0
 ·simp[h1]at h
 ·rw[if_neg h1]at h;by_cases h2:0<(cAt m x.2.1).2.2.2.2.2.2.2.2.2.2
  ·simp[h2]at h
  ·rw[if_neg h2]at h;by_cases h3:(s.2.2.2.1.take i).any (eP x.1 x.2.1)=true
   ·simp[h3]at h
   ·rw[if_neg h3]at h;by_cases h4:Jb x.2.2.1 x.2.2.2.1 x.2.2.2.2.1=0
    ·rw[if_pos h4]at h;by_cases h5:Wa (cAt m x.2.1).2.1 x.2.2.1=true
     ·rw[if_pos h5]at h;by_cases h6:Z1 x.2.2.2.2.2.1=true
      ·simp[h6]at h
      ·unfold Z1 at h6;simp only[Bool.or_eq_true,decide_eq_true_eq]at h6;refine⟨by omega,by omega,h4,h5,?_,?_⟩<;>(unfold dyE;omega)
     ·simp[h5]at h
    ·rw[if_neg h4]at h;exact absurd h h4
theorem Qu4{m:Mt}{s:Qy}(hv:stE m s=0)(c:ByteArray){l:List Qm}(hl:∀x∈l,x∈s.2.2.2.1∧Qe x.2.1 c=true):Qaa l:=by
 intro x hx y hy;obtain⟨hx1,hx2⟩:=hl x hx;obtain⟨hy1,hy2⟩:=hl y hy;obtain⟨-,-,a3,a4,a5⟩:=Qw6 hv hx1;obtain⟨-,-,b3,b4,b5⟩:=Qw6 hv hy1;refine⟨a3,b3,?_,a5,b5⟩;have ex:=Jl.1 hx2;have ey:=Jl.1 hy2;rw[ex]at a4;rw[ey]at b4;unfold Wa at a4 b4;simp only[Bool.or_eq_true]at a4 b4;unfold Qdx mkE;rcases a4 with a4|a4
 ·rcases b4 with b4|b4
  ·right;right;rw[Jl.1 a4,Jl.1 b4];exact X2 _
  ·exact .inr (.inl b4)
 ·exact .inl a4
def Qj0(s:Qy)(c:ByteArray)(k:Bool):List Qm:=s.2.2.2.1.filter fun e=>Qe e.2.1 c&&(!k||e.2.2.2.2.2.2)
theorem Zso(s:Qy)(c:ByteArray):Qj0 s c false=Ua s c:=by unfold Qj0 Ua;simp
theorem Zqi{s:Qy}{c:ByteArray}{k:Bool}:∀x∈Qj0 s c k,x∈s.2.2.2.1∧Qe x.2.1 c=true:=fun x hx=>by unfold Qj0 at hx;rw[List.mem_filter]at hx;obtain⟨h1,h2⟩:=hx;simp only[Bool.and_eq_true]at h2;exact⟨h1,h2.1⟩
def X3(l:List ByteArray)(c:ByteArray):Nat:=(l.filter fun x=>Qe x c).length
theorem Zhi(l:List ByteArray)(b c:ByteArray):X3 (l++[b]) c=X3 l c+if Qe b c=true then 1 else 0:=by unfold X3;rw[List.filter_append,List.length_append];cases h:Qe b c<;>simp[h]
theorem Qy7(l:List ByteArray)(c:ByteArray):X3 l c≤l.length:=List.length_filter_le _ _
abbrev Dv:=List ByteArray×List ByteArray×List ByteArray
def inD(s:Qy)(P C:Int)(d:Dv)(e:Qm):Bool:=decide ((d.2.1.length:Int)<P)&&decide ((X3 d.2.2 (Zp s e.1):Int)<C)
def Yb(s:Qy)(P C:Int)(d:Dv)(e:Qm):Dv:=if inD s P C d e=true then(d.1,d.2.1++[e.1],d.2.2++[Zp s e.1])else(d.1++[e.1],d.2.1,d.2.2)
def Zy(s:Qy)(P C:Int)(L:List Qm):Dv:=L.foldl (Yb s P C) ([],[],[])
theorem Qsg(s:Qy)(P C:Int)(d:Dv)(e:Qm):(Yb s P C d e).1.length+(Yb s P C d e).2.1.length=d.1.length+d.2.1.length+1∧((Yb s P C d e).2.1.length=(Yb s P C d e).2.2.length↔d.2.1.length=d.2.2.length):=by unfold Yb;cases inD s P C d e<;>simp<;>omega
def Qhg(q:List (ByteArray×Int))(l:List ByteArray):Prop:=∀k,Zz Qe k q 0=(X3 l k:Int)
theorem Qhg.put{q:List (ByteArray×Int)}{l:List ByteArray}(h:Qhg q l)(b:ByteArray):Qhg (Yy Qe b (Zz Qe b q 0+1) q) (l++[b]):=by
 intro k;rw[Qjl Qle,Zhi];have h1:=h k;have h2:=h b;by_cases e:b=k
 ·subst e;simp[X2,h1]
 ·simp[Qe2 e,Qe2 (fun h:k=b=>e h.symm),h1]
theorem Zb1{α β γ:Type}(f:β×γ→α→β)(g:γ→α→γ):∀(l:List α) (z:β×γ),(l.foldl (fun q x=>(f q x,g q.2 x)) z).2=l.foldl g z.2
 |[],_=>rfl
 |x::l,z=>by rw[List.foldl_cons,Zb1 f g l,List.foldl_cons]
theorem Qz5{F:Nat}(hF:400≤F){s:Qy}(hS:SmS s)(ct:Cst){L:List Qm}(hl:L.length≤300)(hk:∀x∈L,0≤aI s x.1)(w:Bool):
  Qfo F (s,ct,L,w)=some (if w=true then(Zy s ct.2.2.2.2.2.1 ct.2.2.2.2.2.2.1 L).2.1 else(Zy s ct.2.2.2.2.2.1 ct.2.2.2.2.2.2.1 L).1):=by
 have e:∀y:ByteArray,y::Qb ByteArray=[y]:=fun _=>rfl;unfold Qfo;simp only[tE,Zo];generalize hP:ct.2.2.2.2.2.1=P;generalize hC:ct.2.2.2.2.2.2.1=C;refine Jn L (fun(q:List (ByteArray×Int)×Dv) i=>((),q.1,(if w=true then q.2.2.1 else q.2.1),(q.2.2.1.length:Int),(i:Int)))
  (fun x q=>.inl (if inD s P C q.2 x=true then Yy Qe (Zp s x.1) (Zz Qe (Zp s x.1) q.1 0+1) q.1 else q.1,Yb s P C q.2 x)) (fun q=>((),q.1,if w=true then q.2.2.1 else q.2.1))
  (fun i q=>Qhg q.1 q.2.2.2∧q.2.1.length+q.2.2.1.length=i∧q.2.2.1.length=q.2.2.2.length) ([],[],[],[]) (by omega) (by cases w<;>rfl) ⟨fun k=>by simp[Qmf,X3],rfl,rfl⟩ ?_ ?_ ?_
 ·rintro i x ⟨q,r,a,cl⟩ hi hx ⟨hq,hn,hc⟩
  simp only at hq hn hc;have hkx:=hk x (List.mem_of_getElem? hx);have hc1:=hq (Zp s x.1);have hc2:=Qy7 cl (Zp s x.1);have n1:(a++[x.1]).length≤301:=by simp;omega
  have n2:(r++[x.1]).length≤301:=by simp;omega
  refine⟨?_,fun s' hs=>?_⟩
  ·have n3:(if w=true then a else r).length≤300:=by cases w<;>simp<;>omega
   have n4:((if w=true then a else r)++[x.1]).length≤301:=by simp;omega
   simp(disch:=omega)only[Zk,Zi,Int.toNat_natCast,getD_some hx,Zh,Zo,Qt6 hF hS hkx,hc1,hP,hC,Option.bind_some,e,decide_true,Bool.and_self,Z2];by_cases p1:(a.length:Int)<P
   ·by_cases p2:(X3 cl (Zp s x.1):Int)<C
    ·have hd:inD s P C (r,a,cl) x=true:=by simp[inD,p1,p2]
     simp only[p1,p2,hd,Yb,decide_true,cond_true,if_true,Option.bind_some];cases w<;>simp[Z2]
    ·have hd:inD s P C (r,a,cl) x=false:=by simp[inD,p1,p2]
     simp only[p1,p2,hd,Yb,decide_true,decide_false,cond_true,cond_false,if_true,if_false,Bool.false_eq_true,Option.bind_some];cases w<;>simp[Z2]
   ·have hd:inD s P C (r,a,cl) x=false:=by simp[inD,p1]
    simp only[p1,hd,Yb,decide_false,cond_false,if_false,Bool.false_eq_true,Option.bind_some];cases w<;>simp[Z2]
  ·simp only[Sum.inl.injEq]at hs;subst hs;cases hd:inD s P C (r,a,cl) x
   ·simp only[hd,Yb,Bool.false_eq_true,if_false];refine⟨hq,?_,hc⟩;simp only[List.length_append,List.length_singleton];omega
   ·simp only[hd,Yb,if_true];refine⟨hq.put _,?_,?_⟩<;>simp only[List.length_append,List.length_singleton]<;>omega
 ·rintro ⟨q,r,a,cl⟩ ⟨hq,hn,hc⟩
  simp only at hn hc;have n3:(if w=true then a else r).length≤300:=by cases w<;>simp<;>omega
  simp(disch:=omega)only[Zf,decide_true,Bool.and_self,Z2,Option.bind_some]
 ·rw[Qb8 (fun(q:List (ByteArray×Int)×Dv) (x:Qm)=>(if inD s P C q.2 x=true then Yy Qe (Zp s x.1) (Zz Qe (Zp s x.1) q.1 0+1) q.1 else q.1,Yb s P C q.2 x))];rw[Zb1 (fun(q:List (ByteArray×Int)×Dv) (x:Qm)=>if inD s P C q.2 x=true then Yy Qe (Zp s x.1) (Zz Qe (Zp s x.1) q.1 0+1) q.1 else q.1) (Yb s P C) L ([],[],[],[])];change gd _ (some (List.take (List.length (if w=true then(Zy s P C L).2.1 else(Zy s P C L).1)) (List.drop 0 (if w=true then(Zy s P C L).2.1 else(Zy s P C L).1))))=_;simp only[Nat.zero_add,Nat.le_refl,decide_true,Bool.and_self,Z2,List.drop_zero,List.take_length]
def Qgj(m:Mt)(c:ByteArray):Cst:=if cI m c<0 then Qgn else cAt m c
def Jw(m:Mt)(s:Qy)(c:ByteArray)(relay:Bool):Int:=Qo [stE m s,if cI m c<0 then 10 else 0,if(decide (0<(Qgj m c).2.2.2.2.2.2.2.2.2.2)==relay)=true then 0 else 13]
theorem Qnp{F:Nat}(hF:400≤F){m:Mt}(hm:m.2.2.2.2.length≤300)(hb:∀x∈m.2.2.2.2,x.1.size≤300∧x.2.2.1.size≤300){s:Qy}(h:SmS s)(c:ByteArray)(relay:Bool):
  Qcn F (m,s,c,relay)=some (Qgj m c,Jw m s c relay):=by
 have e3:∀a b c,Zm F (a::b::c::Qb Int)=some (Qo [a,b,c]):=fun a b c=>Wp hF (by simp[Qb]);unfold Qcn Jw Qgj;simp only[Zo,Qoy hF hm,l25 hF hm hb h,l86,Option.bind_some];by_cases hc:cI m c<0
 ·simp only[hc,if_true,l86,e3,Option.bind_some];cases(decide (0<Qgn.2.2.2.2.2.2.2.2.2.2)==relay)<;>rfl
 ·simp only[hc,if_false,l86,e3,Option.bind_some];cases(decide (0<(cAt m c).2.2.2.2.2.2.2.2.2.2)==relay)<;>rfl
theorem Qnw{m:Mt}{s:Qy}{c:ByteArray}{r:Bool}(h:Jw m s c r=0):stE m s=0∧0≤cI m c:=by
 have h1:=V4 h (stE m s) (by simp);have h2:=V4 h (if cI m c<0 then 10 else 0) (by simp);refine⟨h1,?_⟩;by_cases h3:cI m c<0
 ·simp[h3]at h2
 ·omega
theorem Qxf{m:Mt}{s:Qy}(hv:stE m s=0)(h:ShS s):s.2.2.2.1.length≤20:=by
 rcases h.e with h1|⟨h1,-⟩
 ·exact h1
 ·have h3:mtE m=0:=by
   by_cases h:mtE m=0
   ·exact h
   ·rw[stE,if_neg h]at hv;exact absurd hv h
  have h2:Jk s:=by unfold Jk;omega
  rw[stE,if_pos h3,if_pos h2]at hv;exact absurd hv (by decide)
def Qgr(m:Mt)(s:Qy)(c:ByteArray):Dv:=Zy s (cAt m c).2.2.2.2.2.1 (cAt m c).2.2.2.2.2.2.1 (Ji s c)
theorem Qly{s:Qy}{c:ByteArray}:∀x∈Ua s c,x∈s.2.2.2.1∧Qe x.2.1 c=true:=fun x hx=>by rw[←Zso]at hx;exact Zqi x hx
theorem Za1(s:Qy)(c:ByteArray):(Ua s c).length≤s.2.2.2.1.length:=List.length_filter_le _ _
theorem Qp6{F:Nat}(hF:400≤F){m:Mt}{s:Qy}(h:ShS s){c:ByteArray}(hv:stE m s=0):Qbi F (s,c)=some (Ji s c):=
 Zga hF h.sm (by have:=Qxf hv h;have:=Za1 s c;omega) (Qu4 hv c Qly)
theorem Qrk{m:Mt}{s:Qy}(hv:stE m s=0){c:ByteArray}:∀x∈Ji s c,0≤aI s x.1:=fun x hx=>
 Qpg hv (Qly x ((Qgb _).mem_iff.1 hx)).1
theorem Qqb{m:Mt}{s:Qy}(h:ShS s)(hv:stE m s=0)(c:ByteArray):(Ji s c).length≤20:=by unfold Ji;rw[Qfd];have:=Qxf hv h;have:=Za1 s c;omega
theorem l55{F:Nat}(hF:400≤F){m:Mt}(hm:m.2.2.2.2.length≤300)(hb:∀x∈m.2.2.2.2,x.1.size≤300∧x.2.2.1.size≤300){s:Qy}(h:ShS s)(c:ByteArray):
  c55 F (m,s,c)=some (if Jw m s c false=0 then(Ji s c,0)else([],Jw m s c false)):=by
 unfold c55;simp only[Zo,Qnp hF hm hb h.sm,Option.bind_some];by_cases hv:Jw m s c false=0
 ·simp only[hv,decide_true,Bool.not_true,cond_false,if_true,Qp6 hF h (Qnw hv).1,Option.bind_some]
 ·simp only[hv,decide_false,Bool.not_false,cond_true,if_false];rfl
theorem Qn0{m:Mt}{c:ByteArray}(h:0≤cI m c):Qgj m c=cAt m c:=by unfold Qgj;rw[if_neg (by omega)]
theorem l52{F:Nat}(hF:400≤F){m:Mt}(hm:m.2.2.2.2.length≤300)(hb:∀x∈m.2.2.2.2,x.1.size≤300∧x.2.2.1.size≤300){s:Qy}(h:ShS s)(c:ByteArray):
  c52 F (m,s,c)=some (if Jw m s c false=0 then((Qgr m s c).2.1,0)else([],Jw m s c false)):=by
 unfold c52;simp only[Zo,Qnp hF hm hb h.sm,Option.bind_some];by_cases hv:Jw m s c false=0
 ·obtain⟨v1,v2⟩:=Qnw hv;simp only[hv,decide_true,Bool.not_true,cond_false,if_true,Qp6 hF h v1,Qn0 v2,Qz5 hF h.sm (cAt m c) (show(Ji s c).length≤300 by have:=Qqb h v1 c;omega) (Qrk v1),Option.bind_some];rfl
 ·simp only[hv,decide_false,Bool.not_false,cond_true,if_false];rfl
theorem l56{F:Nat}(hF:400≤F){m:Mt}(hm:m.2.2.2.2.length≤300)(hb:∀x∈m.2.2.2.2,x.1.size≤300∧x.2.2.1.size≤300){s:Qy}(h:ShS s)(c:ByteArray):
  c56 F (m,s,c)=some (if Jw m s c false=0 then((Qgr m s c).1,0)else([],Jw m s c false)):=by
 unfold c56;simp only[Zo,Qnp hF hm hb h.sm,Option.bind_some];by_cases hv:Jw m s c false=0
 ·obtain⟨v1,v2⟩:=Qnw hv;simp only[hv,decide_true,Bool.not_true,cond_false,if_true,Qp6 hF h v1,Qn0 v2,Qz5 hF h.sm (cAt m c) (show(Ji s c).length≤300 by have:=Qqb h v1 c;omega) (Qrk v1),Option.bind_some];rfl
 ·simp only[hv,decide_false,Bool.not_false,cond_true,if_false];rfl
end Go.Proofs.Tryz

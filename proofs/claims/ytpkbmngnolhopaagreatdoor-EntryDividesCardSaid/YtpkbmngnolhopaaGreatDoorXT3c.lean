/- Plain law: meetings, in the program and in the reference. -/
import Derived.Test.YtpkbmngnolhopaaGreatDoorXT3a
set_option maxRecDepth 100000
set_option linter.unusedVariables false
set_option linter.unusedSimpArgs false
namespace Go.Proofs.Tryz
open Go Go.Sx
theorem Zo{α β:Type}(p:α×β):(p.1,p.2)=p:=rfl
abbrev Cst:=Z6
abbrev Mt:=Int×Int×Int×Int×List Cst
def Yo{α:Type}(p:α→Bool)(l:List α):Int:=(l.findIdx? p).elim (-1) fun i=>(i:Int)
theorem Qqa{α:Type}{p:α→Bool}{y:α}(l:List α)(h:p y=true):Yo p (y::l)=0:=by simp[Yo,List.findIdx?_cons,h]
theorem Qzc{α:Type}{p:α→Bool}{y:α}(l:List α)(h:p y=false):Yo p (y::l)=if 0≤Yo p l then Yo p l+1 else-1:=by
 unfold Yo;rw[List.findIdx?_cons,h];simp only[Bool.false_eq_true,if_false];cases l.findIdx? p with
 |none=>simp
 |some i=>
  have h1:(0:Int)≤i:=by omega
  simp[h1]
theorem Qq1{α:Type}(p:α→Bool):∀(l:List α),decide (0≤Yo p l)=l.any p
 |[]=>rfl
 |y::l=>by
  have ih:=Qq1 p l;rw[List.any_cons];cases h:p y with
  |true=>simp[Qqa l h]
  |false=>
   rw[Qzc l h,←ih];by_cases k:0≤Yo p l
   ·have:0≤Yo p l+1:=by omega
    simp[k,this]
   ·simp[k]
theorem Qal{α:Type}{p:α→Bool}:∀{l:List α} {i:Nat} {x:α},l[i]? =some x→p x=true→decide (Yo p l<(i:Int))=(l.take i).any p
 |[],i,x,hx,_=>by simp at hx
 |y::l,0,x,hx,hp=>by simp only[List.getElem?_cons_zero,Option.some.injEq]at hx;subst hx;simp[Qqa l hp]
 |y::l,i+1,x,hx,hp=>by
  simp only[List.getElem?_cons_succ]at hx;have ih:=Qal hx hp;have ha:=Qq1 p l;have hm:l.any p=true:=List.any_eq_true.2 ⟨x,List.mem_of_getElem? hx,hp⟩;rw[hm,decide_eq_true_eq]at ha;rw[List.take_succ_cons,List.any_cons];cases h:p y with
  |true=>
   rw[Qqa l h];have:(0:Int)<((i+1:Nat):Int):=by omega
   simp only[this,decide_true,Bool.true_or]
  |false=>
   rw[Qzc l h,if_pos ha,Bool.false_or,←ih];by_cases k:Yo p l<(i:Int)
   ·have:Yo p l+1<((i+1:Nat):Int):=by omega
    simp only[k,this,decide_true]
   ·have:¬Yo p l+1<((i+1:Nat):Int):=by omega
    simp only[k,this,decide_false]
theorem Qaj{α:Type}{p:α→Bool}{l:List α}(h:0≤Yo p l):∃(k:Nat) (x:α),Yo p l=k∧k<l.length∧l[k]? =some x∧p x=true:=by
 unfold Yo at h⊢;cases e:l.findIdx? p with
 |none=>rw[e]at h;simp at h
 |some k=>obtain⟨h1,h2,-⟩:=List.findIdx?_eq_some_iff_getElem.1 e;exact⟨k,l[k],rfl,h1,List.getElem?_eq_getElem h1,h2⟩
theorem Kp{α:Type}{step:Int→Option (Int ⊕ (Int ⊕ Unit))}{F:Nat}(l:List α)(p:α→Bool)(hF:l.length<F)
  (hstep:∀(i:Nat) x,i<l.length→l[i]? =some x→step (i:Int)=some (if p x=true then .inr (.inl (i:Int))else .inl ((i:Int)+1)))
  (hend:step (l.length:Int)=some (.inr (.inr ()))):Option.bind (Qu step F 0) (fun v=>Sum.elim (fun(a:Int)=>some a) (fun(_:Unit)=>some (-1:Int)) v)=some (Yo p l):=by
 refine Zwf l p (fun i=>.inl (i:Int)) (.inr ()) hF hstep hend ?_;unfold Yo;cases l.findIdx? p<;>rfl
def Y1(n k:Int):Bool:=decide (n<0)||decide (k<n)
theorem Zim(n:Int):Z1 n=Y1 n 99999:=rfl
theorem l87(F:Nat)(n k:Int):c87 F (n,k)=some (if Y1 n k=true then 3 else 0):=by unfold c87 Y1;simp only[l86,Option.bind_some];by_cases h:n<0<;>by_cases h2:k<n<;>simp[h,h2]
theorem Qsl(F:Nat)(n k:Int):c94 F (n,k)=some (Y1 n k):=by unfold c94 Y1;by_cases h:n<0<;>simp[h]
theorem Wp{F:Nat}(hF:400≤F){l:List Int}(h:l.length≤300):Zm F l=some (Qo l):=l84 (by omega) (by omega)
theorem Zbn{F:Nat}(hF:400≤F){l:List ByteArray}{x:ByteArray}(hl:l.length≤300):W3 F (l,x)=some (l.any fun y=>Qe x y):=by unfold W3;obtain⟨v,h1,h2⟩:=Qsr hF (l:=l) (x:=x) hl;simp only[h1,Option.bind_some,h2]
def Qhc(k:ByteArray):Bool:=Qe k kT||Qe k kL||Qe k kP
def Wa(k s:ByteArray):Bool:=Qe s k||Qe s kN
theorem Qvj(F:Nat)(x:Cst)(k:ByteArray)(v:Int)(r:ByteArray):Xl F (x,k,v,r)=some (Wa x.2.1 k):=by unfold Xl Wa kN;cases Qe k x.2.1<;>rfl
theorem Qx0(F:Nat)(k:ByteArray)(v:Int)(r:ByteArray)(s:ByteArray):Qgg F ((k,v,r),s)=some (Wa s k):=by unfold Qgg Wa kN;cases Qe k s<;>rfl
def Qdb(x:Cst):Int:=
 if Qhc x.2.1=false then 13 else if(!Qe x.2.2.1 k0&& !Y9 x.2.2.1)=true then 8 else if(Y1 x.2.2.2.1 120||Y1 x.2.2.2.2.1 120)=true then 3 else if x.2.2.2.2.1<x.2.2.2.1 then 11
 else if(Y1 x.2.2.2.2.2.1 160||Y1 x.2.2.2.2.2.2.1 160||Y1 x.2.2.2.2.2.2.2.2.2.2 8)=true then 3
 else if Jb x.2.2.2.2.2.2.2.1 x.2.2.2.2.2.2.2.2.1 x.2.2.2.2.2.2.2.2.2.1=0 then(if Wa x.2.1 x.2.2.2.2.2.2.2.1=true then 0 else 13)else Jb x.2.2.2.2.2.2.2.1 x.2.2.2.2.2.2.2.2.1 x.2.2.2.2.2.2.2.2.2.1
theorem l93{F:Nat}(hF:400≤F)(x:Cst)(hx:x.2.2.1.size≤300):c93 F x=some (Qdb x):=by
 obtain⟨nm,kd,ct,le,mo,pl,pc,sk,sv,sr,tm⟩:=x;have e5:∀a b c d e,Zm F (a::b::c::d::e::Qb Int)=some (Qo [a,b,c,d,e]):=fun a b c d e=>Wp hF (by simp[Qb]);have e7:∀x,W3 F ({data:=List.toArray ((116:UInt8)::(105:UInt8)::(109:UInt8)::(101:UInt8)::Qb UInt8)}::{data:=List.toArray ((108:UInt8)::(101:UInt8)::(110:UInt8)::(103:UInt8)::(116:UInt8)::(104:UInt8)::Qb UInt8)}::{data:=List.toArray ((112:UInt8)::(111:UInt8)::(105:UInt8)::(110:UInt8)::(116:UInt8)::(115:UInt8)::Qb UInt8)}::Qb ByteArray,x)=some (Qhc x):=fun x=>by rw[Zbn hF (by simp[Qb])];simp[Qb,Qhc,kT,kL,kP,Bool.or_assoc]
 have hk0:({data:=List.toArray (Qb UInt8)}:ByteArray)=k0:=rfl;unfold c93;simp only[e7,e5,l86,l87,l98 hF hx,l99 hF,Qvj,Option.bind_some,hk0];generalize hs:Wa kd sk=su;generalize hm:Jb sk sv sr=me;unfold Qdb;simp only[hs,hm];generalize Y1 le 120=o1;generalize Y1 mo 120=o2;generalize Y1 pl 160=o3;generalize Y1 pc 160=o4;generalize Y1 tm 8=o5;generalize Qhc kd=kb;generalize Qe ct k0=c0;generalize Y9 ct=nb;cases kb
 ·cases c0<;>simp[Qo]
 ·by_cases hl:mo<le
  ·cases c0<;>cases nb<;>cases o1<;>cases o2<;>simp[Qo,hl]
  ·have key:Qo [if o3=true then 3 else 0,if o4=true then 3 else 0,if o5=true then 3 else 0,me,if(!su)=true then 13 else 0]=if(o3||o4||o5)=true then 3 else if me=0 then(if su=true then 0 else 13)else me:=by
    cases o3
    ·cases o4
     ·cases o5
      ·cases su<;>by_cases h:me=0<;>simp[Qo,h]
      ·simp[Qo]
     ·simp[Qo]
    ·simp[Qo]
   rw[key];generalize (if(o3||o4||o5)=true then(3:Int)else if me=0 then(if su=true then 0 else 13)else me)=w;cases c0<;>cases nb<;>cases o1<;>cases o2<;>simp[Qo,hl]
theorem Zm7{F:Nat}{l:List Cst}(hF:l.length<F)(hl:l.length≤1000)(x:Cst):Qjo F (l,x)=some (Yo (fun y=>Qe y.1 x.1) l):=by
 unfold Qjo;refine Kp l _ hF ?_ ?_
 ·intro i y hi hy;simp(disch:=omega)only[Zk,Zi,Int.toNat_natCast,getD_some hy,Zh];cases Qe y.1 x.1<;>rfl
 ·simp(disch:=omega)only[Zf]
theorem Zut{F:Nat}{l:List Cst}(hF:l.length<F)(hl:l.length≤1000)(x:ByteArray):Ql2 F (l,x)=some (Yo (fun y=>Qe y.1 x) l):=by
 unfold Ql2;refine Kp l _ hF ?_ ?_
 ·intro i y hi hy;simp(disch:=omega)only[Zk,Zi,Int.toNat_natCast,getD_some hy,Zh];cases Qe y.1 x<;>rfl
 ·simp(disch:=omega)only[Zf]
theorem l47{F:Nat}{m:Mt}(hF:m.2.2.2.2.length<F)(hl:m.2.2.2.2.length≤1000)(x:ByteArray):c47 F (m,x)=some (Yo (fun y=>Qe y.1 x) m.2.2.2.2):=by
 unfold c47;refine Kp m.2.2.2.2 _ hF ?_ ?_
 ·intro i y hi hy;simp(disch:=omega)only[Zk,Zi,Int.toNat_natCast,getD_some hy,Zh];cases Qe y.1 x<;>rfl
 ·simp(disch:=omega)only[Zf]
theorem x90{F:Nat}{l:List Cst}(hF:l.length<F)(hl:l.length≤1000)(x:Cst):Qi6 F (l,x)=some (l.any fun y=>Qe y.1 x.1):=by unfold Qi6;simp only[Zo,Zm7 hF hl,Option.bind_some,Qq1]
def dC:Cst:=Q2
def Jd(l:List Cst)(i:Nat):Int:=if Y9 (l.getD i dC).1=true then(if((l.take i).any fun y=>Qe y.1 (l.getD i dC).1)=true then 9 else Qdb (l.getD i dC))else 8
theorem x89{F:Nat}(hF:400≤F){l:List Cst}(hl:l.length≤300){i:Nat}(hi:i<l.length)(hb:∀x∈l,x.1.size≤300∧x.2.2.1.size≤300)(a b c d:Int):
  Ql0 F ((i:Int),l.getD i dC,a,b,c,d,l)=some (Jd l i):=by
 have hx:l.getD i dC∈l:=by rw[List.getD_eq_getElem?_getD,List.getElem?_eq_getElem hi];exact List.getElem_mem hi
 obtain⟨b1,b2⟩:=hb _ hx;unfold Ql0 Jd;have hi':(i:Int)≤l.length:=by omega
 simp only[Zo,Int.toNat_natCast,List.drop_zero,hi',Int.natCast_nonneg,decide_true,Z2,x90 (F:=F) (l:=l.take i) (by simp;omega) (by simp;omega),l92 hF b1,l86,l93 hF _ b2,Option.bind_some];rw[Wp hF (by simp[Qb])];simp only[Option.bind_some,Qb,Qo];generalize Y9 (l.getD i dC).1=q1;generalize ((l.take i).any fun y=>Qe y.1 (l.getD i dC).1)=q2;generalize Qdb (l.getD i dC)=w;cases q1
 ·simp
 ·cases q2
  ·by_cases h:w=0<;>simp[h]
  ·simp
def mtE(m:Mt):Int:=
 if(Z1 m.1||Z1 m.2.1||Z1 m.2.2.1)=true then 3 else if m.2.2.1<m.2.1∨m.1<m.2.2.1 then 11 else if Y1 m.2.2.2.1 32=true then 3 else if 32<m.2.2.2.2.length then 5
 else Qo ((List.range m.2.2.2.2.length).map (Jd m.2.2.2.2))
theorem x88{F:Nat}(hF:400≤F){l:List Cst}(hl:l.length≤300)(hb:∀x∈l,x.1.size≤300∧x.2.2.1.size≤300)(a b c d:Int):
  Qjb F (l,a,b,c,d,l)=some (Qo ((List.range l.length).map (Jd l))):=by
 unfold Qjb;refine Qp9 (List.range l.length) (Jd l) (by simp;omega) ?_ ?_ ?_
 ·intro i x hi hx;obtain rfl:=Qf4 hx;simp only[List.length_range]at hi;have hd:Q2=dC:=rfl;simp(disch:=omega)only[Zk,Zi,Int.toNat_natCast,Zh,hd,Zo,x89 hF hl hi hb,Option.bind_some];by_cases h:Jd l x=0<;>simp[h]
 ·simp(disch:=omega)only[Zf,List.length_range]
 ·by_cases h:Qo ((List.range l.length).map (Jd l))=0<;>simp[h]
theorem l21{F:Nat}(hF:400≤F){m:Mt}(hl:m.2.2.2.2.length≤300)(hb:∀x∈m.2.2.2.2,x.1.size≤300∧x.2.2.1.size≤300):c21 F m=some (mtE m):=by
 obtain⟨d,o,c,lim,l⟩:=m;have e4:∀a b c d,Zm F (a::b::c::d::Qb Int)=some (Qo [a,b,c,d]):=fun a b c d=>Wp hF (by simp[Qb]);have e3:c85 F (d::o::c::Qb Int)=some (if(Z1 d||Z1 o||Z1 c)=true then 3 else 0):=by rw[l85 (by simp[Qb];omega) (by simp[Qb])];simp[Qb,Bool.or_assoc]
 unfold c21;simp only[e3,e4,l86,l87,x88 hF hl hb,Option.bind_some,Zo];unfold mtE;simp only[];generalize Qo ((List.range l.length).map (Jd l))=w;generalize (Z1 d||Z1 o||Z1 c)=b1;generalize Y1 lim 32=b2;by_cases h1:c<o
 ·cases b1<;>simp[h1,Qo]
 ·by_cases h2:d<c
  ·cases b1<;>simp[h1,h2,Qo]
  ·by_cases h3:32<l.length
   ·have h3':(32:Int)<l.length:=by omega
    cases b1<;>cases b2<;>simp[h1,h2,h3,h3',Qo]
   ·have h3':¬(32:Int)<l.length:=by omega
    cases b1<;>cases b2<;>simp[h1,h2,h3,h3',Qo]
theorem l95{F:Nat}(hF:400≤F){m:Mt}(hl:m.2.2.2.2.length≤300){i:Nat}(hi:i<m.2.2.2.2.length):c95 F (m,(i:Int))=some (Jd m.2.2.2.2 i):=by
 obtain⟨d,o,c,lim,l⟩:=m;have hl:l.length≤300:=hl;have hi:i<l.length:=hi;have hd:Q2=dC:=rfl;have hk0:({data:=List.toArray (Qb UInt8)}:ByteArray)=k0:=rfl;have hkT:({data:=List.toArray ((116:UInt8)::(105:UInt8)::(109:UInt8)::(101:UInt8)::Qb UInt8)}:ByteArray)=kT:=rfl;have hkL:({data:=List.toArray ((108:UInt8)::(101:UInt8)::(110:UInt8)::(103:UInt8)::(116:UInt8)::(104:UInt8)::Qb UInt8)}:ByteArray)=kL:=rfl;have hkP:({data:=List.toArray ((112:UInt8)::(111:UInt8)::(105:UInt8)::(110:UInt8)::(116:UInt8)::(115:UInt8)::Qb UInt8)}:ByteArray)=kP:=rfl;have hx:l[i]? =some (l.getD i dC):=by rw[List.getD_eq_getElem?_getD,List.getElem?_eq_getElem hi];rfl
 have hlt:=Qal (p:=fun y:Cst=>Qe y.1 (l.getD i dC).1) hx (X2 _);unfold c95 Jd;simp(disch:=omega)only[Zi,Int.toNat_natCast,hd,hk0,hkT,hkL,hkP,Zo,l67 hF,l47 (F:=F) (m:=(d,o,c,lim,l)) (by show l.length<F;omega) (by show l.length≤1000;omega),hlt,Qsl,Qy5,Qx0,Option.bind_some];generalize l.getD i dC=x;obtain⟨nm,kd,ct,le,mo,pl,pc,sk,sv,sr,tm⟩:=x;simp only[];unfold Qdb Qhc;simp only[];generalize Wa kd sk=su;generalize Jb sk sv sr=me;generalize Y1 le 120=o1;generalize Y1 mo 120=o2;generalize Y1 pl 160=o3;generalize Y1 pc 160=o4;generalize Y1 tm 8=o5;generalize Qe ct k0=c0;generalize Y9 ct=nb;generalize Y9 nm=nn;generalize ((l.take i).any fun y=>Qe y.1 nm)=tw;generalize Qe kd kT=q1;generalize Qe kd kL=q2;generalize Qe kd kP=q3;cases nn
 ·rfl
 ·cases tw
  ·cases q1<;>cases q2<;>cases q3<;>(try rfl)<;>
   ·cases c0<;>cases nb<;>(try rfl)<;>
    ·cases o1<;>cases o2<;>(try rfl)<;>
     ·by_cases h:mo<le
      ·simp[h]
      ·cases o3<;>cases o4<;>cases o5<;>(try (simp[h];done))<;>
       ·by_cases h2:me=0
        ·cases su<;>simp[h,h2]
        ·simp[h,h2]
  ·rfl
theorem l22{F:Nat}(hF:400≤F){m:Mt}(hl:m.2.2.2.2.length≤300):c22 F m=some (mtE m):=by
 unfold c22;simp only[Zo,Qsl,Option.bind_some];simp only[←Zim];unfold mtE;by_cases h0:32<m.2.2.2.2.length
 ·have h0':(32:Int)<m.2.2.2.2.length:=by omega
  simp only[h0,h0',decide_true,cond_true,if_true];cases Z1 m.1<;>cases Z1 m.2.1<;>cases Z1 m.2.2.1<;>cases Y1 m.2.2.2.1 32<;>by_cases h1:m.2.2.1<m.2.1<;>by_cases h2:m.1<m.2.2.1<;>simp[h1,h2]
 ·have h0':¬(32:Int)<m.2.2.2.2.length:=by omega
  have hloop:(Option.bind (Qu (σ:=Int) (β:=Int ⊕ Unit) (fun(v33:Int)=>bif Decidable.decide (v33<(↑(List.length m.2.2.2.2):Int))then(Option.bind (c95 F (m,v33)) fun(v34:Int)=>bif !Decidable.decide (v34=(0:Int))then(some (Sum.inr (Sum.inl v34)))else(some (Sum.inl (Go.Sx.w64 (v33+(1:Int))))))else(some (Sum.inr (Sum.inr Unit.unit)))) F (0:Int)) fun(v30:Int ⊕ Unit)=>Sum.elim (fun(v31:Int)=>some v31) (fun(v32:Unit)=>some (0:Int)) v30)=some (Qo ((List.range m.2.2.2.2.length).map (Jd m.2.2.2.2))):=by
   refine Qp9 (List.range m.2.2.2.2.length) (Jd m.2.2.2.2) (by simp;omega) ?_ ?_ ?_
   ·intro i x hi hx;obtain rfl:=Qf4 hx;simp only[List.length_range]at hi;simp(disch:=omega)only[Zk,Zh,l95 hF hl hi,Option.bind_some];by_cases h:Jd m.2.2.2.2 x=0<;>simp[h]
   ·simp(disch:=omega)only[Zf,List.length_range]
   ·by_cases h:Qo ((List.range m.2.2.2.2.length).map (Jd m.2.2.2.2))=0<;>simp[h]
  simp only[h0,h0',decide_false,cond_false,if_false,hloop];generalize Qo ((List.range m.2.2.2.2.length).map (Jd m.2.2.2.2))=w;cases Z1 m.1<;>cases Z1 m.2.1<;>cases Z1 m.2.2.1<;>cases Y1 m.2.2.2.1 32<;>by_cases h1:m.2.2.1<m.2.1<;>by_cases h2:m.1<m.2.2.1<;>simp[h1,h2]
end Go.Proofs.Tryz

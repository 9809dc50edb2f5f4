/- Plain law: meetings, in the program and in the reference. -/
import Derived.Test.YtpkbmngnolhopaaGreatDoorXT3a
set_option maxRecDepth 100000
set_option linter.unusedVariables false
set_option linter.unusedSimpArgs false
namespace Go.Proofs.Tryz
open Go Go.Sx
theorem Zp{α β:Type}(p:α×β):(p.1,p.2)=p:=rfl
abbrev Zv:=Z4
abbrev Mt:=Int×Int×Int×Int×List Zv
def Yh{α:Type}(p:α→Bool)(l:List α):Int:=(l.findIdx? p).elim (-1) fun i=>(i:Int)
theorem Qni{α:Type}{p:α→Bool}{y:α}(l:List α)(h:p y=true):Yh p (y::l)=0:=by simp[Yh,List.findIdx?_cons,h]
theorem Qxs{α:Type}{p:α→Bool}{y:α}(l:List α)(h:p y=false):Yh p (y::l)=if 0≤Yh p l then Yh p l+1 else-1:=by
 unfold Yh;rw[List.findIdx?_cons,h];simp only[Bool.false_eq_true,if_false];cases l.findIdx? p with
 |none=>simp
 |some i=>
  have h1:(0:Int)≤i:=by omega
  simp[h1]
theorem Qam{α:Type}(p:α→Bool):∀(l:List α),decide (0≤Yh p l)=l.any p
 |[]=>rfl
 |y::l=>by
  have ih:=Qam p l;rw[List.any_cons];cases h:p y with
  |true=>simp[Qni l h]
  |false=>
   rw[Qxs l h,←ih];by_cases k:0≤Yh p l
   ·have:0≤Yh p l+1:=by omega
    simp[k,this]
   ·simp[k]
theorem Ud{α:Type}{p:α→Bool}:∀{l:List α} {i:Nat} {x:α},l[i]? =some x→p x=true→decide (Yh p l<(i:Int))=(l.take i).any p
 |[],i,x,hx,_=>by simp at hx
 |y::l,0,x,hx,hp=>by simp only[List.getElem?_cons_zero,Option.some.injEq]at hx;subst hx;simp[Qni l hp]
 |y::l,i+1,x,hx,hp=>by
  simp only[List.getElem?_cons_succ]at hx;have ih:=Ud hx hp;have ha:=Qam p l;have hm:l.any p=true:=List.any_eq_true.2 ⟨x,List.mem_of_getElem? hx,hp⟩;rw[hm,decide_eq_true_eq]at ha;rw[List.take_succ_cons,List.any_cons];cases h:p y with
  |true=>
   rw[Qni l h];have:(0:Int)<((i+1:Nat):Int):=by omega
   simp only[this,decide_true,Bool.true_or]
  |false=>
   rw[Qxs l h,if_pos ha,Bool.false_or,←ih];by_cases k:Yh p l<(i:Int)
   ·have:Yh p l+1<((i+1:Nat):Int):=by omega
    simp only[k,this,decide_true]
   ·have:¬Yh p l+1<((i+1:Nat):Int):=by omega
    simp only[k,this,decide_false]
theorem Qfw{α:Type}{p:α→Bool}{l:List α}(h:0≤Yh p l):∃(k:Nat) (x:α),Yh p l=k∧k<l.length∧l[k]? =some x∧p x=true:=by
 unfold Yh at h⊢;cases e:l.findIdx? p with
 |none=>rw[e]at h;simp at h
 |some k=>obtain⟨h1,h2,-⟩:=List.findIdx?_eq_some_iff_getElem.1 e;exact⟨k,l[k],rfl,h1,List.getElem?_eq_getElem h1,h2⟩
theorem W9{α:Type}{step:Int→Option (Int ⊕ (Int ⊕ Unit))}{F:Nat}(l:List α)(p:α→Bool)(hF:l.length<F)
  (hstep:∀(i:Nat) x,i<l.length→l[i]? =some x→step (i:Int)=some (if p x=true then .inr (.inl (i:Int))else .inl ((i:Int)+1)))
  (hend:step (l.length:Int)=some (.inr (.inr ()))):Option.bind (Qq step F 0) (fun v=>Sum.elim (fun(a:Int)=>some a) (fun(_:Unit)=>some (-1:Int)) v)=some (Yh p l):=by
 refine Zf9 l p (fun i=>.inl (i:Int)) (.inr ()) hF hstep hend ?_;unfold Yh;cases l.findIdx? p<;>rfl
def Yy(n k:Int):Bool:=decide (n<0)||decide (k<n)
theorem Zsc(n:Int):Z0 n=Yy n 99999:=rfl
theorem l87(F:Nat)(n k:Int):c87 F (n,k)=some (if Yy n k=true then 3 else 0):=by unfold c87 Yy;simp only[l86,Option.bind_some];by_cases h:n<0<;>by_cases h2:k<n<;>simp[h,h2]
theorem Qwt(F:Nat)(n k:Int):c94 F (n,k)=some (Yy n k):=by unfold c94 Yy;by_cases h:n<0<;>simp[h]
theorem J0{F:Nat}(hF:400≤F){l:List Int}(h:l.length≤300):Zn F l=some (Qn l):=l84 (by omega) (by omega)
theorem Quo{F:Nat}(hF:400≤F){l:List ByteArray}{x:ByteArray}(hl:l.length≤300):Wq F (l,x)=some (l.any fun y=>Qf x y):=by unfold Wq;obtain⟨v,h1,h2⟩:=Qyc hF (l:=l) (x:=x) hl;simp only[h1,Option.bind_some,h2]
def Qhw(k:ByteArray):Bool:=Qf k kT||Qf k kL||Qf k kP
def J1(k s:ByteArray):Bool:=Qf s k||Qf s kN
theorem Zcc(F:Nat)(x:Zv)(k:ByteArray)(v:Int)(r:ByteArray):Xl F (x,k,v,r)=some (J1 x.2.1 k):=by unfold Xl J1 kN;cases Qf k x.2.1<;>rfl
theorem Qtw(F:Nat)(k:ByteArray)(v:Int)(r:ByteArray)(s:ByteArray):Qgg F ((k,v,r),s)=some (J1 s k):=by unfold Qgg J1 kN;cases Qf k s<;>rfl
def Qd0(x:Zv):Int:=
 if Qhw x.2.1=false then 13 else if(!Qf x.2.2.1 k0&& !Y5 x.2.2.1)=true then 8 else if(Yy x.2.2.2.1 120||Yy x.2.2.2.2.1 120)=true then 3 else if x.2.2.2.2.1<x.2.2.2.1 then 11
 else if(Yy x.2.2.2.2.2.1 160||Yy x.2.2.2.2.2.2.1 160||Yy x.2.2.2.2.2.2.2.2.2.2 8)=true then 3
 else if Jh x.2.2.2.2.2.2.2.1 x.2.2.2.2.2.2.2.2.1 x.2.2.2.2.2.2.2.2.2.1=0 then(if J1 x.2.1 x.2.2.2.2.2.2.2.1=true then 0 else 13)else Jh x.2.2.2.2.2.2.2.1 x.2.2.2.2.2.2.2.2.1 x.2.2.2.2.2.2.2.2.2.1
theorem l93{F:Nat}(hF:400≤F)(x:Zv)(hx:x.2.2.1.size≤300):c93 F x=some (Qd0 x):=by
 obtain⟨nm,kd,ct,le,mo,pl,pc,sk,sv,sr,tm⟩:=x;have e5:∀a b c d e,Zn F (a::b::c::d::e::Qb Int)=some (Qn [a,b,c,d,e]):=fun a b c d e=>J0 hF (by simp[Qb]);have e7:∀x,Wq F ({data:=List.toArray ((116:UInt8)::(105:UInt8)::(109:UInt8)::(101:UInt8)::Qb UInt8)}::{data:=List.toArray ((108:UInt8)::(101:UInt8)::(110:UInt8)::(103:UInt8)::(116:UInt8)::(104:UInt8)::Qb UInt8)}::{data:=List.toArray ((112:UInt8)::(111:UInt8)::(105:UInt8)::(110:UInt8)::(116:UInt8)::(115:UInt8)::Qb UInt8)}::Qb ByteArray,x)=some (Qhw x):=fun x=>by rw[Quo hF (by simp[Qb])];simp[Qb,Qhw,kT,kL,kP,Bool.or_assoc]
 have hk0:({data:=List.toArray (Qb UInt8)}:ByteArray)=k0:=rfl;unfold c93;simp only[e7,e5,l86,l87,l98 hF hx,l99 hF,Zcc,Option.bind_some,hk0];generalize hs:J1 kd sk=su;generalize hm:Jh sk sv sr=me;unfold Qd0;simp only[hs,hm];generalize Yy le 120=o1;generalize Yy mo 120=o2;generalize Yy pl 160=o3;generalize Yy pc 160=o4;generalize Yy tm 8=o5;generalize Qhw kd=kb;generalize Qf ct k0=c0;generalize Y5 ct=nb;cases kb
 ·cases c0<;>simp[Qn]
 ·by_cases hl:mo<le
  ·cases c0<;>cases nb<;>cases o1<;>cases o2<;>simp[Qn,hl]
  ·have key:Qn [if o3=true then 3 else 0,if o4=true then 3 else 0,if o5=true then 3 else 0,me,if(!su)=true then 13 else 0]=if(o3||o4||o5)=true then 3 else if me=0 then(if su=true then 0 else 13)else me:=by
    cases o3
    ·cases o4
     ·cases o5
      ·cases su<;>by_cases h:me=0<;>simp[Qn,h]
      ·simp[Qn]
     ·simp[Qn]
    ·simp[Qn]
   rw[key];generalize (if(o3||o4||o5)=true then(3:Int)else if me=0 then(if su=true then 0 else 13)else me)=w;cases c0<;>cases nb<;>cases o1<;>cases o2<;>simp[Qn,hl]
theorem Zf5{F:Nat}{l:List Zv}(hF:l.length<F)(hl:l.length≤1000)(x:Zv):Qjv F (l,x)=some (Yh (fun y=>Qf y.1 x.1) l):=by
 unfold Qjv;refine W9 l _ hF ?_ ?_
 ·intro i y hi hy;simp(disch:=omega)only[Ze,Zj,Int.toNat_natCast,getD_some hy,Zb];cases Qf y.1 x.1<;>rfl
 ·simp(disch:=omega)only[Zd]
theorem Zy8{F:Nat}{l:List Zv}(hF:l.length<F)(hl:l.length≤1000)(x:ByteArray):Qmn F (l,x)=some (Yh (fun y=>Qf y.1 x) l):=by
 unfold Qmn;refine W9 l _ hF ?_ ?_
 ·intro i y hi hy;simp(disch:=omega)only[Ze,Zj,Int.toNat_natCast,getD_some hy,Zb];cases Qf y.1 x<;>rfl
 ·simp(disch:=omega)only[Zd]
theorem l47{F:Nat}{m:Mt}(hF:m.2.2.2.2.length<F)(hl:m.2.2.2.2.length≤1000)(x:ByteArray):c47 F (m,x)=some (Yh (fun y=>Qf y.1 x) m.2.2.2.2):=by
 unfold c47;refine W9 m.2.2.2.2 _ hF ?_ ?_
 ·intro i y hi hy;simp(disch:=omega)only[Ze,Zj,Int.toNat_natCast,getD_some hy,Zb];cases Qf y.1 x<;>rfl
 ·simp(disch:=omega)only[Zd]
theorem x90{F:Nat}{l:List Zv}(hF:l.length<F)(hl:l.length≤1000)(x:Zv):Qlj F (l,x)=some (l.any fun y=>Qf y.1 x.1):=by unfold Qlj;simp only[Zp,Zf5 hF hl,Option.bind_some,Qam]
def dC:Zv:=Q2
def Xu(l:List Zv)(i:Nat):Int:=if Y5 (l.getD i dC).1=true then(if((l.take i).any fun y=>Qf y.1 (l.getD i dC).1)=true then 9 else Qd0 (l.getD i dC))else 8
theorem x89{F:Nat}(hF:400≤F){l:List Zv}(hl:l.length≤300){i:Nat}(hi:i<l.length)(hb:∀x∈l,x.1.size≤300∧x.2.2.1.size≤300)(a b c d:Int):
  Qiz F ((i:Int),l.getD i dC,a,b,c,d,l)=some (Xu l i):=by
 have hx:l.getD i dC∈l:=by rw[List.getD_eq_getElem?_getD,List.getElem?_eq_getElem hi];exact List.getElem_mem hi
 obtain⟨b1,b2⟩:=hb _ hx;unfold Qiz Xu;have hi':(i:Int)≤l.length:=by omega
 simp only[Zp,Int.toNat_natCast,List.drop_zero,hi',Int.natCast_nonneg,decide_true,Zw,x90 (F:=F) (l:=l.take i) (by simp;omega) (by simp;omega),l92 hF b1,l86,l93 hF _ b2,Option.bind_some];rw[J0 hF (by simp[Qb])];simp only[Option.bind_some,Qb,Qn];generalize Y5 (l.getD i dC).1=q1;generalize ((l.take i).any fun y=>Qf y.1 (l.getD i dC).1)=q2;generalize Qd0 (l.getD i dC)=w;cases q1
 ·simp
 ·cases q2
  ·by_cases h:w=0<;>simp[h]
  ·simp
def mtE(m:Mt):Int:=
 if(Z0 m.1||Z0 m.2.1||Z0 m.2.2.1)=true then 3 else if m.2.2.1<m.2.1∨m.1<m.2.2.1 then 11 else if Yy m.2.2.2.1 32=true then 3 else if 32<m.2.2.2.2.length then 5
 else Qn ((List.range m.2.2.2.2.length).map (Xu m.2.2.2.2))
theorem x88{F:Nat}(hF:400≤F){l:List Zv}(hl:l.length≤300)(hb:∀x∈l,x.1.size≤300∧x.2.2.1.size≤300)(a b c d:Int):
  Qjg F (l,a,b,c,d,l)=some (Qn ((List.range l.length).map (Xu l))):=by
 unfold Qjg;refine Qr3 (List.range l.length) (Xu l) (by simp;omega) ?_ ?_ ?_
 ·intro i x hi hx;obtain rfl:=Qdx hx;simp only[List.length_range]at hi;have hd:Q2=dC:=rfl;simp(disch:=omega)only[Ze,Zj,Int.toNat_natCast,Zb,hd,Zp,x89 hF hl hi hb,Option.bind_some];by_cases h:Xu l x=0<;>simp[h]
 ·simp(disch:=omega)only[Zd,List.length_range]
 ·by_cases h:Qn ((List.range l.length).map (Xu l))=0<;>simp[h]
theorem l21{F:Nat}(hF:400≤F){m:Mt}(hl:m.2.2.2.2.length≤300)(hb:∀x∈m.2.2.2.2,x.1.size≤300∧x.2.2.1.size≤300):c21 F m=some (mtE m):=by
 obtain⟨d,o,c,lim,l⟩:=m;have e4:∀a b c d,Zn F (a::b::c::d::Qb Int)=some (Qn [a,b,c,d]):=fun a b c d=>J0 hF (by simp[Qb]);have e3:c85 F (d::o::c::Qb Int)=some (if(Z0 d||Z0 o||Z0 c)=true then 3 else 0):=by rw[l85 (by simp[Qb];omega) (by simp[Qb])];simp[Qb,Bool.or_assoc]
 unfold c21;simp only[e3,e4,l86,l87,x88 hF hl hb,Option.bind_some,Zp];unfold mtE;simp only[];generalize Qn ((List.range l.length).map (Xu l))=w;generalize (Z0 d||Z0 o||Z0 c)=b1;generalize Yy lim 32=b2;by_cases h1:c<o
 ·cases b1<;>simp[h1,Qn]
 ·by_cases h2:d<c
  ·cases b1<;>simp[h1,h2,Qn]
  ·by_cases h3:32<l.length
   ·have h3':(32:Int)<l.length:=by omega
    cases b1<;>cases b2<;>simp[h1,h2,h3,h3',Qn]
   ·have h3':¬(32:Int)<l.length:=by omega
    cases b1<;>cases b2<;>simp[h1,h2,h3,h3',Qn]
theorem l95{F:Nat}(hF:400≤F){m:Mt}(hl:m.2.2.2.2.length≤300){i:Nat}(hi:i<m.2.2.2.2.length):c95 F (m,(i:Int))=some (Xu m.2.2.2.2 i):=by
 obtain⟨d,o,c,lim,l⟩:=m;have hl:l.length≤300:=hl;have hi:i<l.length:=hi;have hd:Q2=dC:=rfl;have hk0:({data:=List.toArray (Qb UInt8)}:ByteArray)=k0:=rfl;have hkT:({data:=List.toArray ((116:UInt8)::(105:UInt8)::(109:UInt8)::(101:UInt8)::Qb UInt8)}:ByteArray)=kT:=rfl;have hkL:({data:=List.toArray ((108:UInt8)::(101:UInt8)::(110:UInt8)::(103:UInt8)::(116:UInt8)::(104:UInt8)::Qb UInt8)}:ByteArray)=kL:=rfl;have hkP:({data:=List.toArray ((112:UInt8)::(111:UInt8)::(105:UInt8)::(110:UInt8)::(116:UInt8)::(115:UInt8)::Qb UInt8)}:ByteArray)=kP:=rfl;have hx:l[i]? =some (l.getD i dC):=by rw[List.getD_eq_getElem?_getD,List.getElem?_eq_getElem hi];rfl
 have hlt:=Ud (p:=fun y:Zv=>Qf y.1 (l.getD i dC).1) hx (J8 _);unfold c95 Xu;simp(disch:=omega)only[Zj,Int.toNat_natCast,hd,hk0,hkT,hkL,hkP,Zp,l67 hF,l47 (F:=F) (m:=(d,o,c,lim,l)) (by show l.length<F;omega) (by show l.length≤1000;omega),hlt,Qwt,Qy6,Qtw,Option.bind_some];generalize l.getD i dC=x;obtain⟨nm,kd,ct,le,mo,pl,pc,sk,sv,sr,tm⟩:=x;simp only[];unfold Qd0 Qhw;simp only[];generalize J1 kd sk=su;generalize Jh sk sv sr=me;generalize Yy le 120=o1;generalize Yy mo 120=o2;generalize Yy pl 160=o3;generalize Yy pc 160=o4;generalize Yy tm 8=o5;generalize Qf ct k0=c0;generalize Y5 ct=nb;generalize Y5 nm=nn;generalize ((l.take i).any fun y=>Qf y.1 nm)=tw;generalize Qf kd kT=q1;generalize Qf kd kL=q2;generalize Qf kd kP=q3;cases nn
 ·rfl
 ·cases tw
  ·cases q1<;>cases q2<;>cases q3<;>(try rfl)<;>
   ·cases c0<;>cases nb<;>(try rfl)<;>
    ·cases o1<;>cases o2<;>(try rfl)<;>
     ·by_cases h:mo<le
      ·simp[h]
      ·cases o3<;>cases o4<;>cases o5<;>(try (simp[h];done))<;>
       ·by_cases h2:me=0
        ·cases su<;>simp[h,h2]
        ·simp[h,h2]
  ·rfl
theorem l22{F:Nat}(hF:400≤F){m:Mt}(hl:m.2.2.2.2.length≤300):c22 F m=some (mtE m):=by
 unfold c22;simp only[Zp,Qwt,Option.bind_some];simp only[←Zsc];unfold mtE;by_cases h0:32<m.2.2.2.2.length
 ·have h0':(32:Int)<m.2.2.2.2.length:=by omega
  simp only[h0,h0',decide_true,cond_true,if_true];cases Z0 m.1<;>cases Z0 m.2.1<;>cases Z0 m.2.2.1<;>cases Yy m.2.2.2.1 32<;>by_cases h1:m.2.2.1<m.2.1<;>by_cases h2:m.1<m.2.2.1<;>simp[h1,h2]
 ·have h0':¬(32:Int)<m.2.2.2.2.length:=by omega
  have hloop:(Option.bind (Qq (σ:=Int) (β:=Int ⊕ Unit) (fun(v33:Int)=>bif Decidable.decide (v33<(↑(List.length m.2.2.2.2):Int))then(Option.bind (c95 F (m,v33)) fun(v34:Int)=>bif !Decidable.decide (v34=(0:Int))then(some (Sum.inr (Sum.inl v34)))else(some (Sum.inl (Go.Sx.w64 (v33+(1:Int))))))else(some (Sum.inr (Sum.inr Unit.unit)))) F (0:Int)) fun(v30:Int ⊕ Unit)=>Sum.elim (fun(v31:Int)=>some v31) (fun(v32:Unit)=>some (0:Int)) v30)=some (Qn ((List.range m.2.2.2.2.length).map (Xu m.2.2.2.2))):=by
   refine Qr3 (List.range m.2.2.2.2.length) (Xu m.2.2.2.2) (by simp;omega) ?_ ?_ ?_
   ·intro i x hi hx;obtain rfl:=Qdx hx;simp only[List.length_range]at hi;simp(disch:=omega)only[Ze,Zb,l95 hF hl hi,Option.bind_some];by_cases h:Xu m.2.2.2.2 x=0<;>simp[h]
   ·simp(disch:=omega)only[Zd,List.length_range]
   ·by_cases h:Qn ((List.range m.2.2.2.2.length).map (Xu m.2.2.2.2))=0<;>simp[h]
  simp only[h0,h0',decide_false,cond_false,if_false,hloop];generalize Qn ((List.range m.2.2.2.2.length).map (Xu m.2.2.2.2))=w;cases Z0 m.1<;>cases Z0 m.2.1<;>cases Z0 m.2.2.1<;>cases Yy m.2.2.2.1 32<;>by_cases h1:m.2.2.1<m.2.1<;>by_cases h2:m.1<m.2.2.1<;>simp[h1,h2]
end Go.Proofs.Tryz

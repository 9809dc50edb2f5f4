/- Plain law: meetings, in the program and in the reference. -/
import Derived.Test.YtpkbmngnolhopaaGreatDoorXT3a
set_option maxRecDepth 100000
set_option linter.unusedVariables false
set_option linter.unusedSimpArgs false
namespace Go.Proofs.Tryz
open Go Go.Sx
theorem Zh{α β:Type}(p:α×β):(p.1,p.2)=p:=rfl
abbrev Cst:=Yc
abbrev Mt:=Int×Int×Int×Int×List Cst
def Y4{α:Type}(p:α→Bool)(l:List α):Int:=(l.findIdx? p).elim (-1) fun i=>(i:Int)
theorem Qsz{α:Type}{p:α→Bool}{y:α}(l:List α)(h:p y=true):Y4 p (y::l)=0:=by simp[Y4,List.findIdx?_cons,h]
theorem Qxm{α:Type}{p:α→Bool}{y:α}(l:List α)(h:p y=false):Y4 p (y::l)=if 0≤Y4 p l then Y4 p l+1 else-1:=by
 unfold Y4;rw[List.findIdx?_cons,h];simp only[Bool.false_eq_true,if_false];cases l.findIdx? p with
 |none=>simp
 |some i=>
  have h1:(0:Int)≤i:=by omega
  simp[h1]
theorem Qri{α:Type}(p:α→Bool):∀(l:List α),decide (0≤Y4 p l)=l.any p
 |[]=>rfl
 |y::l=>by
  have ih:=Qri p l;rw[List.any_cons];cases h:p y with
  |true=>simp[Qsz l h]
  |false=>
   rw[Qxm l h,←ih];by_cases k:0≤Y4 p l
   ·have:0≤Y4 p l+1:=by omega
    simp[k,this]
   ·simp[k]
theorem Ze2{α:Type}{p:α→Bool}:∀{l:List α} {i:Nat} {x:α},l[i]? =some x→p x=true→decide (Y4 p l<(i:Int))=(l.take i).any p
 |[],i,x,hx,_=>by simp at hx
 |y::l,0,x,hx,hp=>by simp only[List.getElem?_cons_zero,Option.some.injEq]at hx;subst hx;simp[Qsz l hp]
 |y::l,i+1,x,hx,hp=>by
  simp only[List.getElem?_cons_succ]at hx;have ih:=Ze2 hx hp;have ha:=Qri p l;have hm:l.any p=true:=List.any_eq_true.2 ⟨x,List.mem_of_getElem? hx,hp⟩;rw[hm,decide_eq_true_eq]at ha;rw[List.take_succ_cons,List.any_cons];cases h:p y with
  |true=>
   rw[Qsz l h];have:(0:Int)<((i+1:Nat):Int):=by omega
   simp only[this,decide_true,Bool.true_or]
  |false=>
   rw[Qxm l h,if_pos ha,Bool.false_or,←ih];by_cases k:Y4 p l<(i:Int)
   ·have:Y4 p l+1<((i+1:Nat):Int):=by omega
    simp only[k,this,decide_true]
   ·have:¬Y4 p l+1<((i+1:Nat):Int):=by omega
    simp only[k,this,decide_false]
theorem Ul{α:Type}{p:α→Bool}{l:List α}(h:0≤Y4 p l):∃(k:Nat) (x:α),Y4 p l=k∧k<l.length∧l[k]? =some x∧p x=true:=by
 unfold Y4 at h⊢;cases e:l.findIdx? p with
 |none=>rw[e]at h;simp at h
 |some k=>obtain⟨h1,h2,-⟩:=List.findIdx?_eq_some_iff_getElem.1 e;exact⟨k,l[k],rfl,h1,List.getElem?_eq_getElem h1,h2⟩
theorem U4{α:Type}{step:Int→Option (Int ⊕ (Int ⊕ Unit))}{F:Nat}(l:List α)(p:α→Bool)(hF:l.length<F)
  (hstep:∀(i:Nat) x,i<l.length→l[i]? =some x→step (i:Int)=some (if p x=true then .inr (.inl (i:Int))else .inl ((i:Int)+1)))
  (hend:step (l.length:Int)=some (.inr (.inr ()))):Option.bind (Q5 step F 0) (fun v=>Sum.elim (fun(a:Int)=>some a) (fun(_:Unit)=>some (-1:Int)) v)=some (Y4 p l):=by
 refine Yd8 l p (fun i=>.inl (i:Int)) (.inr ()) hF hstep hend ?_;unfold Y4;cases l.findIdx? p<;>rfl
def Xl(n k:Int):Bool:=decide (n<0)||decide (k<n)
theorem Qr3(n:Int):Yz n=Xl n 99999:=rfl
theorem l87(F:Nat)(n k:Int):c87 F (n,k)=some (if Xl n k=true then 3 else 0):=by unfold c87 Xl;simp only[l86,Option.bind_some];by_cases h:n<0<;>by_cases h2:k<n<;>simp[h,h2]
theorem Quk(F:Nat)(n k:Int):c94 F (n,k)=some (Xl n k):=by unfold c94 Xl;by_cases h:n<0<;>simp[h]
theorem Ww{F:Nat}(hF:400≤F){l:List Int}(h:l.length≤300):Qy F l=some (Qp l):=l84 (by omega) (by omega)
theorem Qzy{F:Nat}(hF:400≤F){l:List ByteArray}{x:ByteArray}(hl:l.length≤300):W6 F (l,x)=some (l.any fun y=>Qc x y):=by unfold W6;obtain⟨v,h1,h2⟩:=Zf8 hF (l:=l) (x:=x) hl;simp only[h1,Option.bind_some,h2]
def Qid(k:ByteArray):Bool:=Qc k kT||Qc k kL||Qc k kP
def Wh(k s:ByteArray):Bool:=Qc s k||Qc s kN
theorem Qwx(F:Nat)(x:Cst)(k:ByteArray)(v:Int)(r:ByteArray):X1 F (x,k,v,r)=some (Wh x.2.1 k):=by unfold X1 Wh kN;cases Qc k x.2.1<;>rfl
theorem Qy1(F:Nat)(k:ByteArray)(v:Int)(r:ByteArray)(s:ByteArray):Qjr F ((k,v,r),s)=some (Wh s k):=by unfold Qjr Wh kN;cases Qc k s<;>rfl
def Qfd(x:Cst):Int:=
 if Qid x.2.1=false then 13 else if(!Qc x.2.2.1 k0&& !X4 x.2.2.1)=true then 8 else if(Xl x.2.2.2.1 120||Xl x.2.2.2.2.1 120)=true then 3 else if x.2.2.2.2.1<x.2.2.2.1 then 11
 else if(Xl x.2.2.2.2.2.1 160||Xl x.2.2.2.2.2.2.1 160||Xl x.2.2.2.2.2.2.2.2.2.2 8)=true then 3
 else if Wd x.2.2.2.2.2.2.2.1 x.2.2.2.2.2.2.2.2.1 x.2.2.2.2.2.2.2.2.2.1=0 then(if Wh x.2.1 x.2.2.2.2.2.2.2.1=true then 0 else 13)else Wd x.2.2.2.2.2.2.2.1 x.2.2.2.2.2.2.2.2.1 x.2.2.2.2.2.2.2.2.2.1
theorem l93{F:Nat}(hF:400≤F)(x:Cst)(hx:x.2.2.1.size≤300):c93 F x=some (Qfd x):=by
 obtain⟨nm,kd,ct,le,mo,pl,pc,sk,sv,sr,tm⟩:=x;have e5:∀a b c d e,Qy F (a::b::c::d::e::Qa Int)=some (Qp [a,b,c,d,e]):=fun a b c d e=>Ww hF (by simp[Qa]);have e7:∀x,W6 F ({data:=List.toArray ((116:UInt8)::(105:UInt8)::(109:UInt8)::(101:UInt8)::Qa UInt8)}::{data:=List.toArray ((108:UInt8)::(101:UInt8)::(110:UInt8)::(103:UInt8)::(116:UInt8)::(104:UInt8)::Qa UInt8)}::{data:=List.toArray ((112:UInt8)::(111:UInt8)::(105:UInt8)::(110:UInt8)::(116:UInt8)::(115:UInt8)::Qa UInt8)}::Qa ByteArray,x)=some (Qid x):=fun x=>by rw[Qzy hF (by simp[Qa])];simp[Qa,Qid,kT,kL,kP,Bool.or_assoc]
 have hk0:({data:=List.toArray (Qa UInt8)}:ByteArray)=k0:=rfl;unfold c93;simp only[e7,e5,l86,l87,l98 hF hx,l99 hF,Qwx,Option.bind_some,hk0];generalize hs:Wh kd sk=su;generalize hm:Wd sk sv sr=me;unfold Qfd;simp only[hs,hm];generalize Xl le 120=o1;generalize Xl mo 120=o2;generalize Xl pl 160=o3;generalize Xl pc 160=o4;generalize Xl tm 8=o5;generalize Qid kd=kb;generalize Qc ct k0=c0;generalize X4 ct=nb;cases kb
 ·cases c0<;>simp[Qp]
 ·by_cases hl:mo<le
  ·cases c0<;>cases nb<;>cases o1<;>cases o2<;>simp[Qp,hl]
  ·have key:Qp [if o3=true then 3 else 0,if o4=true then 3 else 0,if o5=true then 3 else 0,me,if(!su)=true then 13 else 0]=if(o3||o4||o5)=true then 3 else if me=0 then(if su=true then 0 else 13)else me:=by
    cases o3
    ·cases o4
     ·cases o5
      ·cases su<;>by_cases h:me=0<;>simp[Qp,h]
      ·simp[Qp]
     ·simp[Qp]
    ·simp[Qp]
   rw[key];generalize (if(o3||o4||o5)=true then(3:Int)else if me=0 then(if su=true then 0 else 13)else me)=w;cases c0<;>cases nb<;>cases o1<;>cases o2<;>simp[Qp,hl]
theorem Yit{F:Nat}{l:List Cst}(hF:l.length<F)(hl:l.length≤1000)(x:Cst):Ql4 F (l,x)=some (Y4 (fun y=>Qc y.1 x.1) l):=by
 unfold Ql4;refine U4 l _ hF ?_ ?_
 ·intro i y hi hy;simp(disch:=omega)only[Z7,Zc,Int.toNat_natCast,getD_some hy,Z0];cases Qc y.1 x.1<;>rfl
 ·simp(disch:=omega)only[Z8]
theorem Zn1{F:Nat}{l:List Cst}(hF:l.length<F)(hl:l.length≤1000)(x:ByteArray):Qpr F (l,x)=some (Y4 (fun y=>Qc y.1 x) l):=by
 unfold Qpr;refine U4 l _ hF ?_ ?_
 ·intro i y hi hy;simp(disch:=omega)only[Z7,Zc,Int.toNat_natCast,getD_some hy,Z0];cases Qc y.1 x<;>rfl
 ·simp(disch:=omega)only[Z8]
theorem l47{F:Nat}{m:Mt}(hF:m.2.2.2.2.length<F)(hl:m.2.2.2.2.length≤1000)(x:ByteArray):c47 F (m,x)=some (Y4 (fun y=>Qc y.1 x) m.2.2.2.2):=by
 unfold c47;refine U4 m.2.2.2.2 _ hF ?_ ?_
 ·intro i y hi hy;simp(disch:=omega)only[Z7,Zc,Int.toNat_natCast,getD_some hy,Z0];cases Qc y.1 x<;>rfl
 ·simp(disch:=omega)only[Z8]
theorem x90{F:Nat}{l:List Cst}(hF:l.length<F)(hl:l.length≤1000)(x:Cst):Qm7 F (l,x)=some (l.any fun y=>Qc y.1 x.1):=by unfold Qm7;simp only[Zh,Yit hF hl,Option.bind_some,Qri]
def dC:Cst:=Q7
def J6(l:List Cst)(i:Nat):Int:=if X4 (l.getD i dC).1=true then(if((l.take i).any fun y=>Qc y.1 (l.getD i dC).1)=true then 9 else Qfd (l.getD i dC))else 8
theorem x89{F:Nat}(hF:400≤F){l:List Cst}(hl:l.length≤300){i:Nat}(hi:i<l.length)(hb:∀x∈l,x.1.size≤300∧x.2.2.1.size≤300)(a b c d:Int):
  Qp0 F ((i:Int),l.getD i dC,a,b,c,d,l)=some (J6 l i):=by
 have hx:l.getD i dC∈l:=by rw[List.getD_eq_getElem?_getD,List.getElem?_eq_getElem hi];exact List.getElem_mem hi
 obtain⟨b1,b2⟩:=hb _ hx;unfold Qp0 J6;have hi':(i:Int)≤l.length:=by omega
 simp only[Zh,Int.toNat_natCast,List.drop_zero,hi',Int.natCast_nonneg,decide_true,Za,x90 (F:=F) (l:=l.take i) (by simp;omega) (by simp;omega),l92 hF b1,l86,l93 hF _ b2,Option.bind_some];rw[Ww hF (by simp[Qa])];simp only[Option.bind_some,Qa,Qp];generalize X4 (l.getD i dC).1=q1;generalize ((l.take i).any fun y=>Qc y.1 (l.getD i dC).1)=q2;generalize Qfd (l.getD i dC)=w;cases q1
 ·simp
 ·cases q2
  ·by_cases h:w=0<;>simp[h]
  ·simp
def Ye(m:Mt):Int:=
 if(Yz m.1||Yz m.2.1||Yz m.2.2.1)=true then 3 else if m.2.2.1<m.2.1∨m.1<m.2.2.1 then 11 else if Xl m.2.2.2.1 32=true then 3 else if 32<m.2.2.2.2.length then 5
 else Qp ((List.range m.2.2.2.2.length).map (J6 m.2.2.2.2))
theorem x88{F:Nat}(hF:400≤F){l:List Cst}(hl:l.length≤300)(hb:∀x∈l,x.1.size≤300∧x.2.2.1.size≤300)(a b c d:Int):
  Qog F (l,a,b,c,d,l)=some (Qp ((List.range l.length).map (J6 l))):=by
 unfold Qog;refine Qdm (List.range l.length) (J6 l) (by simp;omega) ?_ ?_ ?_
 ·intro i x hi hx;obtain rfl:=Qga hx;simp only[List.length_range]at hi;have hd:Q7=dC:=rfl;simp(disch:=omega)only[Z7,Zc,Int.toNat_natCast,Z0,hd,Zh,x89 hF hl hi hb,Option.bind_some];by_cases h:J6 l x=0<;>simp[h]
 ·simp(disch:=omega)only[Z8,List.length_range]
 ·by_cases h:Qp ((List.range l.length).map (J6 l))=0<;>simp[h]
theorem l21{F:Nat}(hF:400≤F){m:Mt}(hl:m.2.2.2.2.length≤300)(hb:∀x∈m.2.2.2.2,x.1.size≤300∧x.2.2.1.size≤300):c21 F m=some (Ye m):=by
 obtain⟨d,o,c,lim,l⟩:=m;have e4:∀a b c d,Qy F (a::b::c::d::Qa Int)=some (Qp [a,b,c,d]):=fun a b c d=>Ww hF (by simp[Qa]);have e3:Z5 F (d::o::c::Qa Int)=some (if(Yz d||Yz o||Yz c)=true then 3 else 0):=by rw[l85 (by simp[Qa];omega) (by simp[Qa])];simp[Qa,Bool.or_assoc]
 unfold c21;simp only[e3,e4,l86,l87,x88 hF hl hb,Option.bind_some,Zh];unfold Ye;simp only[];generalize Qp ((List.range l.length).map (J6 l))=w;generalize (Yz d||Yz o||Yz c)=b1;generalize Xl lim 32=b2;by_cases h1:c<o
 ·cases b1<;>simp[h1,Qp]
 ·by_cases h2:d<c
  ·cases b1<;>simp[h1,h2,Qp]
  ·by_cases h3:32<l.length
   ·have h3':(32:Int)<l.length:=by omega
    cases b1<;>cases b2<;>simp[h1,h2,h3,h3',Qp]
   ·have h3':¬(32:Int)<l.length:=by omega
    cases b1<;>cases b2<;>simp[h1,h2,h3,h3',Qp]
theorem l95{F:Nat}(hF:400≤F){m:Mt}(hl:m.2.2.2.2.length≤300){i:Nat}(hi:i<m.2.2.2.2.length):c95 F (m,(i:Int))=some (J6 m.2.2.2.2 i):=by
 obtain⟨d,o,c,lim,l⟩:=m;have hl:l.length≤300:=hl;have hi:i<l.length:=hi;have hd:Q7=dC:=rfl;have hk0:({data:=List.toArray (Qa UInt8)}:ByteArray)=k0:=rfl;have hkT:({data:=List.toArray ((116:UInt8)::(105:UInt8)::(109:UInt8)::(101:UInt8)::Qa UInt8)}:ByteArray)=kT:=rfl;have hkL:({data:=List.toArray ((108:UInt8)::(101:UInt8)::(110:UInt8)::(103:UInt8)::(116:UInt8)::(104:UInt8)::Qa UInt8)}:ByteArray)=kL:=rfl;have hkP:({data:=List.toArray ((112:UInt8)::(111:UInt8)::(105:UInt8)::(110:UInt8)::(116:UInt8)::(115:UInt8)::Qa UInt8)}:ByteArray)=kP:=rfl;have hx:l[i]? =some (l.getD i dC):=by rw[List.getD_eq_getElem?_getD,List.getElem?_eq_getElem hi];rfl
 have hlt:=Ze2 (p:=fun y:Cst=>Qc y.1 (l.getD i dC).1) hx (Qf5 _);unfold c95 J6;simp(disch:=omega)only[Zc,Int.toNat_natCast,hd,hk0,hkT,hkL,hkP,Zh,l67 hF,l47 (F:=F) (m:=(d,o,c,lim,l)) (by show l.length<F;omega) (by show l.length≤1000;omega),hlt,Quk,Zb7,Qy1,Option.bind_some];generalize l.getD i dC=x;obtain⟨nm,kd,ct,le,mo,pl,pc,sk,sv,sr,tm⟩:=x;simp only[];unfold Qfd Qid;simp only[];generalize Wh kd sk=su;generalize Wd sk sv sr=me;generalize Xl le 120=o1;generalize Xl mo 120=o2;generalize Xl pl 160=o3;generalize Xl pc 160=o4;generalize Xl tm 8=o5;generalize Qc ct k0=c0;generalize X4 ct=nb;generalize X4 nm=nn;generalize ((l.take i).any fun y=>Qc y.1 nm)=tw;generalize Qc kd kT=q1;generalize Qc kd kL=q2;generalize Qc kd kP=q3;cases nn
 ·rfl
 ·cases tw
  ·cases q1<;>cases q2<;>cases q3<;>(try rfl)<;>
   ·cases c0<;>cases nb<;>(try rfl)<;>
    ·cases o1<;>cases o2<;>(try rfl)<;>
     ·by_cases h:mo<le
      ·simp[h]
      ·cases o3<;>cases o4<;>cases o5<;>(try (simp[h];done))<;>
       ·by_cases h2:me=0
        ·cases su<;>simp[h,h2]
        ·simp[h,h2]
  ·rfl
theorem l22{F:Nat}(hF:400≤F){m:Mt}(hl:m.2.2.2.2.length≤300):c22 F m=some (Ye m):=by
 unfold c22;simp only[Zh,Quk,Option.bind_some];simp only[←Qr3];unfold Ye;by_cases h0:32<m.2.2.2.2.length
 ·have h0':(32:Int)<m.2.2.2.2.length:=by omega
  simp only[h0,h0',decide_true,cond_true,if_true];cases Yz m.1<;>cases Yz m.2.1<;>cases Yz m.2.2.1<;>cases Xl m.2.2.2.1 32<;>by_cases h1:m.2.2.1<m.2.1<;>by_cases h2:m.1<m.2.2.1<;>simp[h1,h2]
 ·have h0':¬(32:Int)<m.2.2.2.2.length:=by omega
  have hloop:(Option.bind (Q5 (σ:=Int) (β:=Int ⊕ Unit) (fun(v33:Int)=>bif Decidable.decide (v33<(↑(List.length m.2.2.2.2):Int))then(Option.bind (c95 F (m,v33)) fun(v34:Int)=>bif !Decidable.decide (v34=(0:Int))then(some (Sum.inr (Sum.inl v34)))else(some (Sum.inl (Go.Sx.w64 (v33+(1:Int))))))else(some (Sum.inr (Sum.inr Unit.unit)))) F (0:Int)) fun(v30:Int ⊕ Unit)=>Sum.elim (fun(v31:Int)=>some v31) (fun(v32:Unit)=>some (0:Int)) v30)=some (Qp ((List.range m.2.2.2.2.length).map (J6 m.2.2.2.2))):=by
   refine Qdm (List.range m.2.2.2.2.length) (J6 m.2.2.2.2) (by simp;omega) ?_ ?_ ?_
   ·intro i x hi hx;obtain rfl:=Qga hx;simp only[List.length_range]at hi;simp(disch:=omega)only[Z7,Z0,l95 hF hl hi,Option.bind_some];by_cases h:J6 m.2.2.2.2 x=0<;>simp[h]
   ·simp(disch:=omega)only[Z8,List.length_range]
   ·by_cases h:Qp ((List.range m.2.2.2.2.length).map (J6 m.2.2.2.2))=0<;>simp[h]
  simp only[h0,h0',decide_false,cond_false,if_false,hloop];generalize Qp ((List.range m.2.2.2.2.length).map (J6 m.2.2.2.2))=w;cases Yz m.1<;>cases Yz m.2.1<;>cases Yz m.2.2.1<;>cases Xl m.2.2.2.1 32<;>by_cases h1:m.2.2.1<m.2.1<;>by_cases h2:m.1<m.2.2.1<;>simp[h1,h2]
end Go.Proofs.Tryz

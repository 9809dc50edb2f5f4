/- Plain law: meetings, in the program and in the reference. -/
import Derived.Test.YtpkbmngnolhopaaGreatDoorXT3a
set_option maxRecDepth 100000
set_option linter.unusedVariables false
set_option linter.unusedSimpArgs false
open Option renaming bind_some->j,bind->ZB
open Int renaming toNat_natCast->C
open List renaming range->I,getElem?_eq_getElem->J,length_range->R,getD_eq_getElem?_getD->U,findIdx?_cons->ZA,any_cons->ZC
namespace Go.Proofs.Tryz
open Go Go.Sx
theorem Za{α β:Type}(p:α×β):(p.1,p.2)=p:=rfl
abbrev Cst:=Yk
abbrev Mt:=Int×Int×Int×Int×List Cst
def Xe{α:Type}(p:α->Bool)(l:List α):Int:=(l.findIdx? p).elim (-1) fun i=>(i:Int)
theorem Qzn{α:Type}{p:α->Bool}{y:α}(l:List α)(h:p y=true):Xe p (y::l)=0:=by simp[Xe,ZA,h]
theorem Zdb{α:Type}{p:α->Bool}{y:α}(l:List α)(h:p y=false):Xe p (y::l)=if 0<=Xe p l then Xe p l+1 else-1:=by
 unfold Xe;rw[ZA,h];simp only[Bool.false_eq_true,if_false];cases l.findIdx? p with
 |none=>simp
 |some i=>
  have h1:(0:Int)<=i:=by omega
  simp[h1]
theorem Qhz{α:Type}(p:α->Bool):∀(l:List α),decide (0<=Xe p l)=l.any p
 |[]=>rfl
 |y::l=>by
  have ih:=Qhz p l;rw[ZC];cases h:p y with
  |true=>simp[Qzn l h]
  |false=>
   rw[Zdb l h,<-ih];by_cases k:0<=Xe p l
   ·have:0<=Xe p l+1:=by omega
    simp[k,this]
   ·simp[k]
theorem Qd4{α:Type}{p:α->Bool}:∀{l:List α} {i:Nat} {x:α},l[i]? =some x->p x=true->decide (Xe p l<(i:Int))=(l.take i).any p
 |[],i,x,hx,_=>by simp at hx
 |y::l,0,x,hx,hp=>by simp only[List.getElem?_cons_zero,Option.some.injEq]at hx;subst hx;simp[Qzn l hp]
 |y::l,i+1,x,hx,hp=>by
  simp only[List.getElem?_cons_succ]at hx;have ih:=Qd4 hx hp;have ha:=Qhz p l;have hm:l.any p=true:=List.any_eq_true.2 ⟨x,List.mem_of_getElem? hx,hp⟩;rw[hm,decide_eq_true_eq]at ha;rw[List.take_succ_cons,ZC];cases h:p y with
  |true=>
   rw[Qzn l h];have:(0:Int)<((i+1:Nat):Int):=by omega
   simp only[this,decide_true,Bool.true_or]
  |false=>
   rw[Zdb l h,if_pos ha,Bool.false_or,<-ih];by_cases k:Xe p l<(i:Int)
   ·have:Xe p l+1<((i+1:Nat):Int):=by omega
    simp only[k,this,decide_true]
   ·have:¬Xe p l+1<((i+1:Nat):Int):=by omega
    simp only[k,this,decide_false]
theorem Wf{α:Type}{p:α->Bool}{l:List α}(h:0<=Xe p l):∃(k:Nat) (x:α),Xe p l=k∧k<l.length∧l[k]? =some x∧p x=true:=by
 unfold Xe at h⊢;cases e:l.findIdx? p with
 |none=>rw[e]at h;simp at h
 |some k=>obtain⟨h1,h2,-⟩:=List.findIdx?_eq_some_iff_getElem.1 e;exact⟨k,l[k],rfl,h1,J h1,h2⟩
theorem Qbt{α:Type}{step:Int->Option (Int ⊕ (Int ⊕ Unit))}{F:Nat}(l:List α)(p:α->Bool)(hF:l.length<F)
  (hstep:∀(i:Nat) x,i<l.length->l[i]? =some x->step (i:Int)=some (if p x=true then .inr (.inl (i:Int))else .inl ((i:Int)+1)))
  (hend:step (l.length:Int)=some (.inr (.inr ()))):ZB (Qx step F 0) (fun v=>Sum.elim (fun(a:Int)=>some a) (fun(_:Unit)=>some (-1:Int)) v)=some (Xe p l):=by
 refine Zzi l p (fun i=>.inl (i:Int)) (.inr ()) hF hstep hend ?_;unfold Xe;cases l.findIdx? p<;>rfl
def X4(n k:Int):Bool:=decide (n<0)||decide (k<n)
theorem Qy7(n:Int):Yc n=X4 n 99999:=rfl
theorem l87(F:Nat)(n k:Int):c87 F (n,k)=some (if X4 n k=true then 3 else 0):=by unfold c87 X4;simp only[Yt,j];by_cases h:n<0<;>by_cases h2:k<n<;>simp[h,h2]
theorem Qvb(F:Nat)(n k:Int):c94 F (n,k)=some (X4 n k):=by unfold c94 X4;by_cases h:n<0<;>simp[h]
theorem X9{F:Nat}(hF:400<=F){l:List Int}(h:l.length<=300):Qy F l=some (Qi l):=l84 (by omega) (by omega)
theorem Zj5{F:Nat}(hF:400<=F){l:List ByteArray}{x:ByteArray}(hl:l.length<=300):V8 F (l,x)=some (l.any fun y=>Qc x y):=by unfold V8;obtain⟨v,h1,h2⟩:=Zgy hF (l:=l) (x:=x) hl;simp only[h1,j,h2]
def Qng(k:ByteArray):Bool:=Qc k kT||Qc k kL||Qc k kP
def X8(k s:ByteArray):Bool:=Qc s k||Qc s kN
theorem Qwk(F:Nat)(x:Cst)(k:ByteArray)(v:Int)(r:ByteArray):Jm F (x,k,v,r)=some (X8 x.2.1 k):=by unfold Jm X8 kN;cases Qc k x.2.1<;>rfl
theorem Qud(F:Nat)(k:ByteArray)(v:Int)(r:ByteArray)(s:ByteArray):Qgp F ((k,v,r),s)=some (X8 s k):=by unfold Qgp X8 kN;cases Qc k s<;>rfl
def Qjd(x:Cst):Int:=
 if Qng x.2.1=false then 13 else if(!Qc x.2.2.1 k0&& !Y2 x.2.2.1)=true then 8 else if(X4 x.2.2.2.1 120||X4 x.2.2.2.2.1 120)=true then 3 else if x.2.2.2.2.1<x.2.2.2.1 then 11
 else if(X4 x.2.2.2.2.2.1 160||X4 x.2.2.2.2.2.2.1 160||X4 x.2.2.2.2.2.2.2.2.2.2 8)=true then 3
 else if Jo x.2.2.2.2.2.2.2.1 x.2.2.2.2.2.2.2.2.1 x.2.2.2.2.2.2.2.2.2.1=0 then(if X8 x.2.1 x.2.2.2.2.2.2.2.1=true then 0 else 13)else Jo x.2.2.2.2.2.2.2.1 x.2.2.2.2.2.2.2.2.1 x.2.2.2.2.2.2.2.2.2.1
theorem l93{F:Nat}(hF:400<=F)(x:Cst)(hx:x.2.2.1.size<=300):c93 F x=some (Qjd x):=by
 obtain⟨nm,kd,ct,le,mo,pl,pc,sk,sv,sr,tm⟩:=x;have e5:∀a b c d e,Qy F (a::b::c::d::e::Qa Int)=some (Qi [a,b,c,d,e]):=fun a b c d e=>X9 hF (by simp[Qa]);have e7:∀x,V8 F (YL::YM::YO::Qa ByteArray,x)=some (Qng x):=fun x=>by rw[Zj5 hF (by simp[Qa])];simp[Qa,Qng,kT,kL,kP,Bool.or_assoc]
 have hk0:(YC:ByteArray)=k0:=rfl;unfold c93;simp only[e7,e5,Yt,l87,l98 hF hx,l99 hF,Qwk,j,hk0];generalize hs:X8 kd sk=su;generalize hm:Jo sk sv sr=me;unfold Qjd;simp only[hs,hm];generalize X4 le 120=o1;generalize X4 mo 120=o2;generalize X4 pl 160=o3;generalize X4 pc 160=o4;generalize X4 tm 8=o5;generalize Qng kd=kb;generalize Qc ct k0=c0;generalize Y2 ct=nb;cases kb
 ·cases c0<;>simp[Qi]
 ·by_cases hl:mo<le
  ·cases c0<;>cases nb<;>cases o1<;>cases o2<;>simp[Qi,hl]
  ·have key:Qi [if o3=true then 3 else 0,if o4=true then 3 else 0,if o5=true then 3 else 0,me,if(!su)=true then 13 else 0]=if(o3||o4||o5)=true then 3 else if me=0 then(if su=true then 0 else 13)else me:=by
    cases o3
    ·cases o4
     ·cases o5
      ·cases su<;>by_cases h:me=0<;>simp[Qi,h]
      ·simp[Qi]
     ·simp[Qi]
    ·simp[Qi]
   rw[key];generalize (if(o3||o4||o5)=true then(3:Int)else if me=0 then(if su=true then 0 else 13)else me)=w;cases c0<;>cases nb<;>cases o1<;>cases o2<;>simp[Qi,hl]
theorem Yni{F:Nat}{l:List Cst}(hF:l.length<F)(hl:l.length<=1000)(x:Cst):Qsi F (l,x)=some (Xe (fun y=>Qc y.1 x.1) l):=by
 unfold Qsi;refine Qbt l _ hF ?_ ?_
 ·intro i y hi hy;simp(disch:=omega)only[Z1,Ze,C,getD_some hy,Zu];cases Qc y.1 x.1<;>rfl
 ·simp(disch:=omega)only[Zz]
theorem Zri{F:Nat}{l:List Cst}(hF:l.length<F)(hl:l.length<=1000)(x:ByteArray):Qoj F (l,x)=some (Xe (fun y=>Qc y.1 x) l):=by
 unfold Qoj;refine Qbt l _ hF ?_ ?_
 ·intro i y hi hy;simp(disch:=omega)only[Z1,Ze,C,getD_some hy,Zu];cases Qc y.1 x<;>rfl
 ·simp(disch:=omega)only[Zz]
theorem l47{F:Nat}{m:Mt}(hF:m.2.2.2.2.length<F)(hl:m.2.2.2.2.length<=1000)(x:ByteArray):c47 F (m,x)=some (Xe (fun y=>Qc y.1 x) m.2.2.2.2):=by
 unfold c47;refine Qbt m.2.2.2.2 _ hF ?_ ?_
 ·intro i y hi hy;simp(disch:=omega)only[Z1,Ze,C,getD_some hy,Zu];cases Qc y.1 x<;>rfl
 ·simp(disch:=omega)only[Zz]
theorem x90{F:Nat}{l:List Cst}(hF:l.length<F)(hl:l.length<=1000)(x:Cst):Qs0 F (l,x)=some (l.any fun y=>Qc y.1 x.1):=by unfold Qs0;simp only[Za,Yni hF hl,j,Qhz]
def dC:Cst:=Zf
def W4(l:List Cst)(i:Nat):Int:=if Y2 (l.getD i dC).1=true then(if((l.take i).any fun y=>Qc y.1 (l.getD i dC).1)=true then 9 else Qjd (l.getD i dC))else 8
theorem x89{F:Nat}(hF:400<=F){l:List Cst}(hl:l.length<=300){i:Nat}(hi:i<l.length)(hb:∀x∈l,x.1.size<=300∧x.2.2.1.size<=300)(a b c d:Int):
  Qrx F ((i:Int),l.getD i dC,a,b,c,d,l)=some (W4 l i):=by
 have hx:l.getD i dC∈l:=by rw[U,J hi];exact List.getElem_mem hi
 obtain⟨b1,b2⟩:=hb _ hx;unfold Qrx W4;have hi':(i:Int)<=l.length:=by omega
 simp only[Za,C,List.drop_zero,hi',Int.natCast_nonneg,decide_true,Zb,x90 (F:=F) (l:=l.take i) (by simp;omega) (by simp;omega),l92 hF b1,Yt,l93 hF _ b2,j];rw[X9 hF (by simp[Qa])];simp only[j,Qa,Qi];generalize Y2 (l.getD i dC).1=q1;generalize ((l.take i).any fun y=>Qc y.1 (l.getD i dC).1)=q2;generalize Qjd (l.getD i dC)=w;cases q1
 ·simp
 ·cases q2
  ·by_cases h:w=0<;>simp[h]
  ·simp
def Z9(m:Mt):Int:=
 if(Yc m.1||Yc m.2.1||Yc m.2.2.1)=true then 3 else if m.2.2.1<m.2.1∨m.1<m.2.2.1 then 11 else if X4 m.2.2.2.1 32=true then 3 else if 32<m.2.2.2.2.length then 5
 else Qi ((I m.2.2.2.2.length).map (W4 m.2.2.2.2))
theorem x88{F:Nat}(hF:400<=F){l:List Cst}(hl:l.length<=300)(hb:∀x∈l,x.1.size<=300∧x.2.2.1.size<=300)(a b c d:Int):
  Qq1 F (l,a,b,c,d,l)=some (Qi ((I l.length).map (W4 l))):=by
 unfold Qq1;refine Qex (I l.length) (W4 l) (by simp;omega) ?_ ?_ ?_
 ·intro i x hi hx;obtain rfl:=Qh3 hx;simp only[R]at hi;have hd:Zf=dC:=rfl;simp(disch:=omega)only[Z1,Ze,C,Zu,hd,Za,x89 hF hl hi hb,j];by_cases h:W4 l x=0<;>simp[h]
 ·simp(disch:=omega)only[Zz,R]
 ·by_cases h:Qi ((I l.length).map (W4 l))=0<;>simp[h]
theorem l21{F:Nat}(hF:400<=F){m:Mt}(hl:m.2.2.2.2.length<=300)(hb:∀x∈m.2.2.2.2,x.1.size<=300∧x.2.2.1.size<=300):c21 F m=some (Z9 m):=by
 obtain⟨d,o,c,lim,l⟩:=m;have e4:∀a b c d,Qy F (a::b::c::d::Qa Int)=some (Qi [a,b,c,d]):=fun a b c d=>X9 hF (by simp[Qa]);have e3:Ye F (d::o::c::Qa Int)=some (if(Yc d||Yc o||Yc c)=true then 3 else 0):=by rw[l85 (by simp[Qa];omega) (by simp[Qa])];simp[Qa,Bool.or_assoc]
 unfold c21;simp only[e3,e4,Yt,l87,x88 hF hl hb,j,Za];unfold Z9;simp only[];generalize Qi ((I l.length).map (W4 l))=w;generalize (Yc d||Yc o||Yc c)=b1;generalize X4 lim 32=b2;by_cases h1:c<o
 ·cases b1<;>simp[h1,Qi]
 ·by_cases h2:d<c
  ·cases b1<;>simp[h1,h2,Qi]
  ·by_cases h3:32<l.length
   ·have h3':(32:Int)<l.length:=by omega
    cases b1<;>cases b2<;>simp[h1,h2,h3,h3',Qi]
   ·have h3':¬(32:Int)<l.length:=by omega
    cases b1<;>cases b2<;>simp[h1,h2,h3,h3',Qi]
theorem l95{F:Nat}(hF:400<=F){m:Mt}(hl:m.2.2.2.2.length<=300){i:Nat}(hi:i<m.2.2.2.2.length):c95 F (m,(i:Int))=some (W4 m.2.2.2.2 i):=by
 obtain⟨d,o,c,lim,l⟩:=m;have hl:l.length<=300:=hl;have hi:i<l.length:=hi;have hd:Zf=dC:=rfl;have hk0:(YC:ByteArray)=k0:=rfl;have hkT:(YL:ByteArray)=kT:=rfl;have hkL:(YM:ByteArray)=kL:=rfl;have hkP:(YO:ByteArray)=kP:=rfl;have hx:l[i]? =some (l.getD i dC):=by rw[U,J hi];rfl
 have hlt:=Qd4 (p:=fun y:Cst=>Qc y.1 (l.getD i dC).1) hx (Wr _);unfold c95 W4;simp(disch:=omega)only[Ze,C,hd,hk0,hkT,hkL,hkP,Za,l67 hF,l47 (F:=F) (m:=(d,o,c,lim,l)) (by show l.length<F;omega) (by show l.length<=1000;omega),hlt,Qvb,Qyj,Qud,j];generalize l.getD i dC=x;obtain⟨nm,kd,ct,le,mo,pl,pc,sk,sv,sr,tm⟩:=x;simp only[];unfold Qjd Qng;simp only[];generalize X8 kd sk=su;generalize Jo sk sv sr=me;generalize X4 le 120=o1;generalize X4 mo 120=o2;generalize X4 pl 160=o3;generalize X4 pc 160=o4;generalize X4 tm 8=o5;generalize Qc ct k0=c0;generalize Y2 ct=nb;generalize Y2 nm=nn;generalize ((l.take i).any fun y=>Qc y.1 nm)=tw;generalize Qc kd kT=q1;generalize Qc kd kL=q2;generalize Qc kd kP=q3;cases nn
 ·rfl
 ·cases tw
  ·cases q1<;>cases q2<;>cases q3<;>(try rfl)<;>
   ·cases c0<;>cases nb<;>(try rfl)<;>
    ·cases o1<;>cases o2<;>(try rfl)<;>
     ·by_cases h:mo<le
      ·simp[h]
      ·cases o3<;>cases o4<;>cases o5<;>(try (simp[h];done))<;>
       ·by_cases h2:me=0
        ·cases su<;>simp[h,h2]
        ·simp[h,h2]
  ·rfl
theorem l22{F:Nat}(hF:400<=F){m:Mt}(hl:m.2.2.2.2.length<=300):c22 F m=some (Z9 m):=by
 unfold c22;simp only[Za,Qvb,j];simp only[<-Qy7];unfold Z9;by_cases h0:32<m.2.2.2.2.length
 ·have h0':(32:Int)<m.2.2.2.2.length:=by omega
  simp only[h0,h0',decide_true,cond_true,if_true];cases Yc m.1<;>cases Yc m.2.1<;>cases Yc m.2.2.1<;>cases X4 m.2.2.2.1 32<;>by_cases h1:m.2.2.1<m.2.1<;>by_cases h2:m.1<m.2.2.1<;>simp[h1,h2]
 ·have h0':¬(32:Int)<m.2.2.2.2.length:=by omega
  have hloop:(ZB (Qx (O:=Int) (β:=Int ⊕ Unit) (fun(v33:Int)=>bif Decidable.decide (v33<(↑(List.length m.2.2.2.2):Int))then(ZB (c95 F (m,v33)) fun(v34:Int)=>bif !Decidable.decide (v34=(0:Int))then(some (Sum.inr (Sum.inl v34)))else(some (Sum.inl (Go.Sx.w64 (v33+(1:Int))))))else(some (Sum.inr (Sum.inr Unit.unit)))) F (0:Int)) fun(v30:Int ⊕ Unit)=>Sum.elim (fun(v31:Int)=>some v31) (fun(v32:Unit)=>some (0:Int)) v30)=some (Qi ((I m.2.2.2.2.length).map (W4 m.2.2.2.2))):=by
   refine Qex (I m.2.2.2.2.length) (W4 m.2.2.2.2) (by simp;omega) ?_ ?_ ?_
   ·intro i x hi hx;obtain rfl:=Qh3 hx;simp only[R]at hi;simp(disch:=omega)only[Z1,Zu,l95 hF hl hi,j];by_cases h:W4 m.2.2.2.2 x=0<;>simp[h]
   ·simp(disch:=omega)only[Zz,R]
   ·by_cases h:Qi ((I m.2.2.2.2.length).map (W4 m.2.2.2.2))=0<;>simp[h]
  simp only[h0,h0',decide_false,cond_false,if_false,hloop];generalize Qi ((I m.2.2.2.2.length).map (W4 m.2.2.2.2))=w;cases Yc m.1<;>cases Yc m.2.1<;>cases Yc m.2.2.1<;>cases X4 m.2.2.2.1 32<;>by_cases h1:m.2.2.1<m.2.1<;>by_cases h2:m.1<m.2.2.1<;>simp[h1,h2]
end Go.Proofs.Tryz

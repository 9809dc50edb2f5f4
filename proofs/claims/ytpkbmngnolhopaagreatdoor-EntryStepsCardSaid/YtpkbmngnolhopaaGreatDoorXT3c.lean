/- Plain law: meetings, in the program and in the reference. -/
import Derived.Test.YtpkbmngnolhopaaGreatDoorXT3a
set_option maxRecDepth 100000
set_option linter.unusedVariables false
set_option linter.unusedSimpArgs false
open Option renaming bind_some->j,bind->ZC
open Int renaming toNat_natCast->C
open List renaming range->I,getElem?_eq_getElem->J,length_range->R,getD_eq_getElem?_getD->ZA,findIdx?_cons->ZB,any_cons->ZD
namespace Go.Proofs.Tryz
open Go Go.Sx
theorem Q3{α β:Type}(p:α×β):(p.1,p.2)=p:=rfl
abbrev Cst:=Yu
abbrev Mt:=Int×Int×Int×Int×List Cst
def Y9{α:Type}(p:α->Bool)(l:List α):Int:=(l.findIdx? p).elim (-1) fun i=>(i:Int)
theorem Qy5{α:Type}{p:α->Bool}{y:α}(l:List α)(h:p y=true):Y9 p (y::l)=0:=by simp[Y9,ZB,h]
theorem Zlu{α:Type}{p:α->Bool}{y:α}(l:List α)(h:p y=false):Y9 p (y::l)=if 0<=Y9 p l then Y9 p l+1 else-1:=by
 unfold Y9;rw[ZB,h];simp only[Bool.false_eq_true,if_false];cases l.findIdx? p with
 |none=>simp
 |some i=>
  have h1:(0:Int)<=i:=by omega
  simp[h1]
theorem Qky{α:Type}(p:α->Bool):∀(l:List α),decide (0<=Y9 p l)=l.any p
 |[]=>rfl
 |y::l=>by
  have ih:=Qky p l;rw[ZD];cases h:p y with
  |true=>simp[Qy5 l h]
  |false=>
   rw[Zlu l h,<-ih];by_cases k:0<=Y9 p l
   ·have:0<=Y9 p l+1:=by omega
    simp[k,this]
   ·simp[k]
theorem Qeg{α:Type}{p:α->Bool}:∀{l:List α} {i:Nat} {x:α},l[i]? =some x->p x=true->decide (Y9 p l<(i:Int))=(l.take i).any p
 |[],i,x,hx,_=>by simp at hx
 |y::l,0,x,hx,hp=>by simp only[List.getElem?_cons_zero,Option.some.injEq]at hx;subst hx;simp[Qy5 l hp]
 |y::l,i+1,x,hx,hp=>by
  simp only[List.getElem?_cons_succ]at hx;have ih:=Qeg hx hp;have ha:=Qky p l;have hm:l.any p=true:=List.any_eq_true.2 ⟨x,List.mem_of_getElem? hx,hp⟩;rw[hm,decide_eq_true_eq]at ha;rw[List.take_succ_cons,ZD];cases h:p y with
  |true=>
   rw[Qy5 l h];have:(0:Int)<((i+1:Nat):Int):=by omega
   simp only[this,decide_true,Bool.true_or]
  |false=>
   rw[Zlu l h,if_pos ha,Bool.false_or,<-ih];by_cases k:Y9 p l<(i:Int)
   ·have:Y9 p l+1<((i+1:Nat):Int):=by omega
    simp only[k,this,decide_true]
   ·have:¬Y9 p l+1<((i+1:Nat):Int):=by omega
    simp only[k,this,decide_false]
theorem W1{α:Type}{p:α->Bool}{l:List α}(h:0<=Y9 p l):∃(k:Nat) (x:α),Y9 p l=k∧k<l.length∧l[k]? =some x∧p x=true:=by
 unfold Y9 at h⊢;cases e:l.findIdx? p with
 |none=>rw[e]at h;simp at h
 |some k=>obtain⟨h1,h2,-⟩:=List.findIdx?_eq_some_iff_getElem.1 e;exact⟨k,l[k],rfl,h1,J h1,h2⟩
theorem Qbp{α:Type}{step:Int->Option (Int ⊕ (Int ⊕ Unit))}{F:Nat}(l:List α)(p:α->Bool)(hF:l.length<F)
  (hstep:∀(i:Nat) x,i<l.length->l[i]? =some x->step (i:Int)=some (if p x=true then .inr (.inl (i:Int))else .inl ((i:Int)+1)))
  (hend:step (l.length:Int)=some (.inr (.inr ()))):ZC (Q4 step F 0) (fun v=>Sum.elim (fun(a:Int)=>some a) (fun(_:Unit)=>some (-1:Int)) v)=some (Y9 p l):=by
 refine Zs6 l p (fun i=>.inl (i:Int)) (.inr ()) hF hstep hend ?_;unfold Y9;cases l.findIdx? p<;>rfl
def Xx(n k:Int):Bool:=decide (n<0)||decide (k<n)
theorem Qw3(n:Int):Yj n=Xx n 99999:=rfl
theorem l87(F:Nat)(n k:Int):c87 F (n,k)=some (if Xx n k=true then 3 else 0):=by unfold c87 Xx;simp only[l86,j];by_cases h:n<0<;>by_cases h2:k<n<;>simp[h,h2]
theorem Qt1(F:Nat)(n k:Int):c94 F (n,k)=some (Xx n k):=by unfold c94 Xx;by_cases h:n<0<;>simp[h]
theorem Jb{F:Nat}(hF:400<=F){l:List Int}(h:l.length<=300):Q2 F l=some (Qk l):=l84 (by omega) (by omega)
theorem Zda{F:Nat}(hF:400<=F){l:List ByteArray}{x:ByteArray}(hl:l.length<=300):Kh F (l,x)=some (l.any fun y=>Qc x y):=by unfold Kh;obtain⟨v,h1,h2⟩:=Zgo hF (l:=l) (x:=x) hl;simp only[h1,j,h2]
def Qlt(k:ByteArray):Bool:=Qc k kT||Qc k kL||Qc k kP
def Jo(k s:ByteArray):Bool:=Qc s k||Qc s kN
theorem Qwj(F:Nat)(x:Cst)(k:ByteArray)(v:Int)(r:ByteArray):Jj F (x,k,v,r)=some (Jo x.2.1 k):=by unfold Jj Jo kN;cases Qc k x.2.1<;>rfl
theorem Qtt(F:Nat)(k:ByteArray)(v:Int)(r:ByteArray)(s:ByteArray):Qin F ((k,v,r),s)=some (Jo s k):=by unfold Qin Jo kN;cases Qc k s<;>rfl
def Qh8(x:Cst):Int:=
 if Qlt x.2.1=false then 13 else if(!Qc x.2.2.1 k0&& !Y3 x.2.2.1)=true then 8 else if(Xx x.2.2.2.1 120||Xx x.2.2.2.2.1 120)=true then 3 else if x.2.2.2.2.1<x.2.2.2.1 then 11
 else if(Xx x.2.2.2.2.2.1 160||Xx x.2.2.2.2.2.2.1 160||Xx x.2.2.2.2.2.2.2.2.2.2 8)=true then 3
 else if Jq x.2.2.2.2.2.2.2.1 x.2.2.2.2.2.2.2.2.1 x.2.2.2.2.2.2.2.2.2.1=0 then(if Jo x.2.1 x.2.2.2.2.2.2.2.1=true then 0 else 13)else Jq x.2.2.2.2.2.2.2.1 x.2.2.2.2.2.2.2.2.1 x.2.2.2.2.2.2.2.2.2.1
theorem l93{F:Nat}(hF:400<=F)(x:Cst)(hx:x.2.2.1.size<=300):c93 F x=some (Qh8 x):=by
 obtain⟨nm,kd,ct,le,mo,pl,pc,sk,sv,sr,tm⟩:=x;have e5:∀a b c d e,Q2 F (a::b::c::d::e::Qa Int)=some (Qk [a,b,c,d,e]):=fun a b c d e=>Jb hF (by simp[Qa]);have e7:∀x,Kh F (YL::YM::YO::Qa ByteArray,x)=some (Qlt x):=fun x=>by rw[Zda hF (by simp[Qa])];simp[Qa,Qlt,kT,kL,kP,Bool.or_assoc]
 have hk0:(YD:ByteArray)=k0:=rfl;unfold c93;simp only[e7,e5,l86,l87,l98 hF hx,l99 hF,Qwj,j,hk0];generalize hs:Jo kd sk=su;generalize hm:Jq sk sv sr=me;unfold Qh8;simp only[hs,hm];generalize Xx le 120=o1;generalize Xx mo 120=o2;generalize Xx pl 160=o3;generalize Xx pc 160=o4;generalize Xx tm 8=o5;generalize Qlt kd=kb;generalize Qc ct k0=c0;generalize Y3 ct=nb;cases kb
 ·cases c0<;>simp[Qk]
 ·by_cases hl:mo<le
  ·cases c0<;>cases nb<;>cases o1<;>cases o2<;>simp[Qk,hl]
  ·have key:Qk [if o3=true then 3 else 0,if o4=true then 3 else 0,if o5=true then 3 else 0,me,if(!su)=true then 13 else 0]=if(o3||o4||o5)=true then 3 else if me=0 then(if su=true then 0 else 13)else me:=by
    cases o3
    ·cases o4
     ·cases o5
      ·cases su<;>by_cases h:me=0<;>simp[Qk,h]
      ·simp[Qk]
     ·simp[Qk]
    ·simp[Qk]
   rw[key];generalize (if(o3||o4||o5)=true then(3:Int)else if me=0 then(if su=true then 0 else 13)else me)=w;cases c0<;>cases nb<;>cases o1<;>cases o2<;>simp[Qk,hl]
theorem Yhq{F:Nat}{l:List Cst}(hF:l.length<F)(hl:l.length<=1000)(x:Cst):Qsu F (l,x)=some (Y9 (fun y=>Qc y.1 x.1) l):=by
 unfold Qsu;refine Qbp l _ hF ?_ ?_
 ·intro i y hi hy;simp(disch:=omega)only[Zx,Zf,C,getD_some hy,Zv];cases Qc y.1 x.1<;>rfl
 ·simp(disch:=omega)only[Zz]
theorem Zoo{F:Nat}{l:List Cst}(hF:l.length<F)(hl:l.length<=1000)(x:ByteArray):Qoi F (l,x)=some (Y9 (fun y=>Qc y.1 x) l):=by
 unfold Qoi;refine Qbp l _ hF ?_ ?_
 ·intro i y hi hy;simp(disch:=omega)only[Zx,Zf,C,getD_some hy,Zv];cases Qc y.1 x<;>rfl
 ·simp(disch:=omega)only[Zz]
theorem l47{F:Nat}{m:Mt}(hF:m.2.2.2.2.length<F)(hl:m.2.2.2.2.length<=1000)(x:ByteArray):c47 F (m,x)=some (Y9 (fun y=>Qc y.1 x) m.2.2.2.2):=by
 unfold c47;refine Qbp m.2.2.2.2 _ hF ?_ ?_
 ·intro i y hi hy;simp(disch:=omega)only[Zx,Zf,C,getD_some hy,Zv];cases Qc y.1 x<;>rfl
 ·simp(disch:=omega)only[Zz]
theorem x90{F:Nat}{l:List Cst}(hF:l.length<F)(hl:l.length<=1000)(x:Cst):Qsn F (l,x)=some (l.any fun y=>Qc y.1 x.1):=by unfold Qsn;simp only[Q3,Yhq hF hl,j,Qky]
def dC:Cst:=Zd
def W4(l:List Cst)(i:Nat):Int:=if Y3 (l.getD i dC).1=true then(if((l.take i).any fun y=>Qc y.1 (l.getD i dC).1)=true then 9 else Qh8 (l.getD i dC))else 8
theorem x89{F:Nat}(hF:400<=F){l:List Cst}(hl:l.length<=300){i:Nat}(hi:i<l.length)(hb:∀x∈l,x.1.size<=300∧x.2.2.1.size<=300)(a b c d:Int):
  Qqb F ((i:Int),l.getD i dC,a,b,c,d,l)=some (W4 l i):=by
 have hx:l.getD i dC∈l:=by rw[ZA,J hi];exact List.getElem_mem hi
 obtain⟨b1,b2⟩:=hb _ hx;unfold Qqb W4;have hi':(i:Int)<=l.length:=by omega
 simp only[Q3,C,List.drop_zero,hi',Int.natCast_nonneg,decide_true,Zh,x90 (F:=F) (l:=l.take i) (by simp;omega) (by simp;omega),l92 hF b1,l86,l93 hF _ b2,j];rw[Jb hF (by simp[Qa])];simp only[j,Qa,Qk];generalize Y3 (l.getD i dC).1=q1;generalize ((l.take i).any fun y=>Qc y.1 (l.getD i dC).1)=q2;generalize Qh8 (l.getD i dC)=w;cases q1
 ·simp
 ·cases q2
  ·by_cases h:w=0<;>simp[h]
  ·simp
def Yg(m:Mt):Int:=
 if(Yj m.1||Yj m.2.1||Yj m.2.2.1)=true then 3 else if m.2.2.1<m.2.1∨m.1<m.2.2.1 then 11 else if Xx m.2.2.2.1 32=true then 3 else if 32<m.2.2.2.2.length then 5
 else Qk ((I m.2.2.2.2.length).map (W4 m.2.2.2.2))
theorem x88{F:Nat}(hF:400<=F){l:List Cst}(hl:l.length<=300)(hb:∀x∈l,x.1.size<=300∧x.2.2.1.size<=300)(a b c d:Int):
  Qo2 F (l,a,b,c,d,l)=some (Qk ((I l.length).map (W4 l))):=by
 unfold Qo2;refine Qgk (I l.length) (W4 l) (by simp;omega) ?_ ?_ ?_
 ·intro i x hi hx;obtain rfl:=Qhy hx;simp only[R]at hi;have hd:Zd=dC:=rfl;simp(disch:=omega)only[Zx,Zf,C,Zv,hd,Q3,x89 hF hl hi hb,j];by_cases h:W4 l x=0<;>simp[h]
 ·simp(disch:=omega)only[Zz,R]
 ·by_cases h:Qk ((I l.length).map (W4 l))=0<;>simp[h]
theorem l21{F:Nat}(hF:400<=F){m:Mt}(hl:m.2.2.2.2.length<=300)(hb:∀x∈m.2.2.2.2,x.1.size<=300∧x.2.2.1.size<=300):c21 F m=some (Yg m):=by
 obtain⟨d,o,c,lim,l⟩:=m;have e4:∀a b c d,Q2 F (a::b::c::d::Qa Int)=some (Qk [a,b,c,d]):=fun a b c d=>Jb hF (by simp[Qa]);have e3:Ye F (d::o::c::Qa Int)=some (if(Yj d||Yj o||Yj c)=true then 3 else 0):=by rw[l85 (by simp[Qa];omega) (by simp[Qa])];simp[Qa,Bool.or_assoc]
 unfold c21;simp only[e3,e4,l86,l87,x88 hF hl hb,j,Q3];unfold Yg;simp only[];generalize Qk ((I l.length).map (W4 l))=w;generalize (Yj d||Yj o||Yj c)=b1;generalize Xx lim 32=b2;by_cases h1:c<o
 ·cases b1<;>simp[h1,Qk]
 ·by_cases h2:d<c
  ·cases b1<;>simp[h1,h2,Qk]
  ·by_cases h3:32<l.length
   ·have h3':(32:Int)<l.length:=by omega
    cases b1<;>cases b2<;>simp[h1,h2,h3,h3',Qk]
   ·have h3':¬(32:Int)<l.length:=by omega
    cases b1<;>cases b2<;>simp[h1,h2,h3,h3',Qk]
theorem l95{F:Nat}(hF:400<=F){m:Mt}(hl:m.2.2.2.2.length<=300){i:Nat}(hi:i<m.2.2.2.2.length):c95 F (m,(i:Int))=some (W4 m.2.2.2.2 i):=by
 obtain⟨d,o,c,lim,l⟩:=m;have hl:l.length<=300:=hl;have hi:i<l.length:=hi;have hd:Zd=dC:=rfl;have hk0:(YD:ByteArray)=k0:=rfl;have hkT:(YL:ByteArray)=kT:=rfl;have hkL:(YM:ByteArray)=kL:=rfl;have hkP:(YO:ByteArray)=kP:=rfl;have hx:l[i]? =some (l.getD i dC):=by rw[ZA,J hi];rfl
 have hlt:=Qeg (p:=fun y:Cst=>Qc y.1 (l.getD i dC).1) hx (K9 _);unfold c95 W4;simp(disch:=omega)only[Zf,C,hd,hk0,hkT,hkL,hkP,Q3,l67 hF,l47 (F:=F) (m:=(d,o,c,lim,l)) (by show l.length<F;omega) (by show l.length<=1000;omega),hlt,Qt1,Qt2,Qtt,j];generalize l.getD i dC=x;obtain⟨nm,kd,ct,le,mo,pl,pc,sk,sv,sr,tm⟩:=x;simp only[];unfold Qh8 Qlt;simp only[];generalize Jo kd sk=su;generalize Jq sk sv sr=me;generalize Xx le 120=o1;generalize Xx mo 120=o2;generalize Xx pl 160=o3;generalize Xx pc 160=o4;generalize Xx tm 8=o5;generalize Qc ct k0=c0;generalize Y3 ct=nb;generalize Y3 nm=nn;generalize ((l.take i).any fun y=>Qc y.1 nm)=tw;generalize Qc kd kT=q1;generalize Qc kd kL=q2;generalize Qc kd kP=q3;cases nn
 ·rfl
 ·cases tw
  ·cases q1<;>cases q2<;>cases q3<;>(try rfl)<;>
   ·cases c0<;>cases nb<;>(try rfl)<;>
    ·cases o1<;>cases o2<;>(try rfl)<;>
     ·by_cases h:mo<le
      ·simp[h]
      ·cases o3<;>cases o4<;>cases o5<;>(try (simp[h];done))<;>
       ·by_cases h2:me=0
        ·cases su<;>simp[h,h2]
        ·simp[h,h2]
  ·rfl
theorem l22{F:Nat}(hF:400<=F){m:Mt}(hl:m.2.2.2.2.length<=300):c22 F m=some (Yg m):=by
 unfold c22;simp only[Q3,Qt1,j];simp only[<-Qw3];unfold Yg;by_cases h0:32<m.2.2.2.2.length
 ·have h0':(32:Int)<m.2.2.2.2.length:=by omega
  simp only[h0,h0',decide_true,cond_true,if_true];cases Yj m.1<;>cases Yj m.2.1<;>cases Yj m.2.2.1<;>cases Xx m.2.2.2.1 32<;>by_cases h1:m.2.2.1<m.2.1<;>by_cases h2:m.1<m.2.2.1<;>simp[h1,h2]
 ·have h0':¬(32:Int)<m.2.2.2.2.length:=by omega
  have hloop:(ZC (Q4 (U:=Int) (β:=Int ⊕ Unit) (fun(v33:Int)=>bif Decidable.decide (v33<(↑(List.length m.2.2.2.2):Int))then(ZC (c95 F (m,v33)) fun(v34:Int)=>bif !Decidable.decide (v34=(0:Int))then(some (Sum.inr (Sum.inl v34)))else(some (Sum.inl (Go.Sx.w64 (v33+(1:Int))))))else(some (Sum.inr (Sum.inr Unit.unit)))) F (0:Int)) fun(v30:Int ⊕ Unit)=>Sum.elim (fun(v31:Int)=>some v31) (fun(v32:Unit)=>some (0:Int)) v30)=some (Qk ((I m.2.2.2.2.length).map (W4 m.2.2.2.2))):=by
   refine Qgk (I m.2.2.2.2.length) (W4 m.2.2.2.2) (by simp;omega) ?_ ?_ ?_
   ·intro i x hi hx;obtain rfl:=Qhy hx;simp only[R]at hi;simp(disch:=omega)only[Zx,Zv,l95 hF hl hi,j];by_cases h:W4 m.2.2.2.2 x=0<;>simp[h]
   ·simp(disch:=omega)only[Zz,R]
   ·by_cases h:Qk ((I m.2.2.2.2.length).map (W4 m.2.2.2.2))=0<;>simp[h]
  simp only[h0,h0',decide_false,cond_false,if_false,hloop];generalize Qk ((I m.2.2.2.2.length).map (W4 m.2.2.2.2))=w;cases Yj m.1<;>cases Yj m.2.1<;>cases Yj m.2.2.1<;>cases Xx m.2.2.2.1 32<;>by_cases h1:m.2.2.1<m.2.1<;>by_cases h2:m.1<m.2.2.1<;>simp[h1,h2]
end Go.Proofs.Tryz

/- Plain law: who takes part, clashes, clubs. Plain law: clashes and clubs. And further parts. -/
import Derived.Test.YtpkbmngnolhopaaGreatDoorXT3d
import Derived.Test.YtpkbmngnolhopaaGreatDoorXTeB3
set_option maxRecDepth 100000
set_option linter.unusedVariables false
set_option linter.unusedSimpArgs false
open Option renaming bind_some->j
open Int renaming toNat_natCast->o
open List renaming mem_cons_of_mem->C,foldl_cons->J
open Bool renaming not_true->I,not_false->R,and_self->U,true_and->ZA
namespace Go.Proofs.Tryz
open Go Go.Sx
theorem Qlo{α β:Type}(p:α->Bool)(f:α->β):∀(l:List α) (out:List β),l.foldl (fun out x=>if p x=true then out++[f x]else out) out=out++(l.filter p).map f
 |[],out=>by simp
 |x::l,out=>by rw[J,Qlo p f l];cases h:p x<;>simp[h]
theorem Zle{α β γ:Type}{step:List β×Int->Option ((List β×Int) ⊕ List β)}{F:Nat}{k:List β->Option γ}{r:Option γ}(l:List α)(p:α->Bool)(f:α->β)(hF:l.length<F)
  (hstep:∀(i:Nat) x out,i<l.length->l[i]? =some x->out.length<=i->step (out,(i:Int))=some (.inl (if p x=true then out++[f x]else out,(i:Int)+1)))
  (hend:∀out,out.length<=l.length->step (out,(l.length:Int))=some (.inr out))
  (hk:((l.filter p).map f).length<=l.length->k ((l.filter p).map f)=r):Option.bind (Qw step F ([],0)) k=r:=by
 refine Jl l (fun out i=>(out,(i:Int))) (fun x out=>.inl (if p x=true then out++[f x]else out)) (fun out=>out) (fun i s=>s.length<=i) [] hF rfl (Nat.le_refl _) ?_ ?_ ?_
 ·intro i x out hi hx ho;refine⟨?_,fun s' hs=>?_⟩
  ·rw[hstep i x out hi hx ho];rfl
  ·simp only[Sum.inl.injEq]at hs;subst hs;cases p x<;>simp<;>omega
 ·intro out ho;exact hend out ho
 ·rw[Uw (fun out x=>if p x=true then out++[f x]else out),Qlo p f];simp only[List.nil_append];exact hk (by rw[List.length_map];exact List.length_filter_le p l)
def Jf(m:Mt)(s:Qi)(a:ByteArray):Int:=Qn [stE m s,if aI s a<0 then 10 else 0]
def X2(s:Qi)(x:ByteArray):ByteArray:=(s.2.1.getD (aI s x).toNat dA).2.1
theorem Qc8{s:Qi}{x:ByteArray}(h:0<=aI s x):∃k:Nat,aI s x=k∧k<s.2.1.length:=by obtain⟨k,y,h1,h2,h3,h4⟩:=Wl (p:=fun y:Ath=>Qc y.1 x) (l:=s.2.1) h;exact⟨k,h1,h2⟩
theorem Qrj{F:Nat}(hF:400<=F){s:Qi}(h:Zr s){x:ByteArray}(hx:0<=aI s x):Qb0 F (s,x)=some (X2 s x):=by obtain⟨k,h1,h2⟩:=Qc8 hx;have hd:Zw=dA:=rfl;unfold Qb0 X2;simp only[Zj,Qc1 hF h,j,h1,hd];simp(disch:=omega)only[Zf,o]
theorem Y1:∀{l:List Int},Qn l=0->∀x∈l,x=0
 |[],_,x,hx=>by cases hx
 |y::l,h,x,hx=>by
  by_cases hy:y=0
  ·rw[show Qn (y::l)=if y=0 then Qn l else y from rfl,if_pos hy]at h;rcases List.mem_cons.1 hx with rfl|hx
   ·exact hy
   ·exact Y1 h x hx
  ·rw[show Qn (y::l)=if y=0 then Qn l else y from rfl,if_neg hy]at h;exact absurd h hy
theorem Qwd{m:Mt}{s:Qi}(hv:stE m s=0){i:Nat}(hi:i<s.2.2.2.1.length):Qbz m s i=0:=by
 have h1:Z4 m=0:=by
  by_cases h:Z4 m=0
  ·exact h
  ·rw[stE,if_neg h]at hv;exact absurd hv h
 have h2:¬K2 s:=fun h=>by rw[stE,if_pos h1,if_pos h]at hv;exact absurd hv (by decide)
 rw[stE,if_pos h1,if_neg h2]at hv;have h3:=Y1 hv _ (C _ (C _ (C _ List.mem_cons_self)));exact Y1 h3 _ (List.mem_map.2 ⟨i,List.mem_range.2 hi,rfl⟩)
theorem Zkd{m:Mt}{s:Qi}(hv:stE m s=0){x:Qq}(hx:x∈s.2.2.2.1):0<=aI s x.1:=by
 obtain⟨i,hi,e⟩:=List.getElem_of_mem hx;have h:=Qwd hv hi;have e2:s.2.2.2.1.getD i dE=x:=by rw[getD_some (List.getElem?_eq_getElem hi),e]
 unfold Qbz at h;rw[e2]at h;by_cases h3:aI s x.1<0
 ·simp[h3]at h
 ·omega
theorem Qpi{α:Type}(p:α->Bool):∀(l:List α) (n:Int),l.foldl (fun n x=>if p x=true then n+1 else n) n=n+((l.filter p).length:Int)
 |[],n=>by simp
 |x::l,n=>by rw[J,Qpi p l];cases h:p x<;>simp[h];omega
theorem l15{F:Nat}{m:Mt}(hF:m.2.2.2.2.length<F)(hb:m.2.2.2.2.length*128<=140737488355328):c15 F m=some m:=by
 have e:∀y:Cst,y::Qa Cst=[y]:=fun _=>rfl;have hd:Zd=dC:=rfl;unfold c15;refine Jl m.2.2.2.2 (fun out i=>((m.1,m.2.1,m.2.2.1,m.2.2.2.1),out,(i:Int))) (fun x out=>.inl (out++[x])) (fun out=>((m.1,m.2.1,m.2.2.1,m.2.2.2.1),out)) (fun i out=>out.length=i) (Qa Cst) hF rfl rfl ?_ ?_ ?_
 ·intro i x out hi hx ho;have hl2:(out++[x]).length=i+1:=by simp[ho]
  refine⟨?_,fun s' hs=>?_⟩
  ·simp(disch:=omega)only[Z3,Zf,o,getD_some hx,Zy,Zj,e,hl2,ho,decide_true,U,ZA,Q3,j];rfl
  ·simp only[Sum.inl.injEq]at hs;subst hs;exact hl2
 ·intro out ho;simp(disch:=omega)only[Z0,ho,decide_true,U,ZA,Q3,j]
 ·rw[Qoz (fun x:Cst=>x)];simp[Qa,Q3]
theorem l78(F:Nat)(n k m:Int)(hm:0<=m∧m<=1000):c78 F (n,k,m)=some (decide (n<=k∨(m<n∧n<=m+3))):=by
 unfold c78;simp(disch:=omega)only[Zy];by_cases h1:n<=k
 ·simp[h1]
 ·by_cases h2:m<n<;>simp[h1,h2]
theorem l79(F:Nat)(k:ByteArray)(v:Int)(r:ByteArray):c79 F (k,v,r)=some (decide (k.size<=40∧r.size<=40)):=by
 unfold c79;by_cases h1:k.size<=40
 ·have h1':(k.size:Int)<=40:=by omega
  by_cases h2:r.size<=40
  ·have h2':(r.size:Int)<=40:=by omega
   simp[h1,h2,h1',h2']
  ·have h2':¬(r.size:Int)<=40:=by omega
   simp[h1,h2,h1',h2']
 ·have h1':¬(k.size:Int)<=40:=by omega
  simp[h1,h1']
def CsS(x:Cst):Prop:=x.1.size<=60∧x.2.1.size<=60∧x.2.2.1.size<=60∧x.2.2.2.2.2.2.2.1.size<=40∧x.2.2.2.2.2.2.2.2.2.1.size<=40
structure MtS (m:Mt):Prop where
 n:m.2.2.2.2.length<=35
 n2:m.2.2.2.2.length<=5∨32<m.2.2.2.2.length
 c:∀x∈m.2.2.2.2,CsS x
theorem l17{F:Nat}{m:Mt}(hF:m.2.2.2.2.length<F)(hb:m.2.2.2.2.length*128<=140737488355328):∃b,c17 F m=some b∧(b=true->MtS m):=by
 unfold c17;rw[l78 F _ _ _ (by omega)];by_cases h0:(m.2.2.2.2.length:Int)<=5∨(32:Int)<m.2.2.2.2.length∧(m.2.2.2.2.length:Int)<=32+3
 ·simp only[h0,decide_true,I,cond_false,j];refine Qtv m.2.2.2.2 CsS (fun b:Bool ⊕ Unit=>b=.inl false∨(b=.inr ()∧∀x∈m.2.2.2.2,CsS x)) hF ?_ ?_ ?_
  ·intro i x hi hx;simp(disch:=omega)only[Z3,Zf,o,getD_some hx,Zy,l79];by_cases h1:(60:Int)<x.1.size
   ·exact⟨_,by simp only[h1,decide_true,cond_true,j],.inr ⟨_,rfl,.inl rfl⟩⟩
   ·by_cases h2:(60:Int)<x.2.1.size
    ·exact⟨_,by simp only[h1,h2,decide_true,decide_false,cond_true,cond_false,j],.inr ⟨_,rfl,.inl rfl⟩⟩
    ·by_cases h3:(60:Int)<x.2.2.1.size
     ·exact⟨_,by simp only[h1,h2,h3,decide_true,decide_false,cond_true,cond_false,j],.inr ⟨_,rfl,.inl rfl⟩⟩
     ·by_cases h4:x.2.2.2.2.2.2.2.1.size<=40∧x.2.2.2.2.2.2.2.2.2.1.size<=40
      ·exact⟨_,by simp only[h1,h2,h3,h4,and_self,decide_true,decide_false,I,cond_true,cond_false,j],.inl ⟨rfl,by omega,by omega,by omega,h4.1,h4.2⟩⟩
      ·exact⟨_,by simp only[h1,h2,h3,h4,decide_true,decide_false,R,cond_true,cond_false,j],.inr ⟨_,rfl,.inl rfl⟩⟩
  ·intro h;exact⟨_,by simp(disch:=omega)only[Z0],.inr ⟨rfl,h⟩⟩
  ·rintro b (rfl|⟨rfl,h⟩)
   ·exact⟨false,rfl,fun h=>by cases h⟩
   ·exact⟨true,rfl,fun _=>⟨by omega,by omega,h⟩⟩
 ·simp only[h0,decide_false,R,cond_true,j];exact⟨false,rfl,fun h=>by cases h⟩
def EnS(x:Qq):Prop:=x.1.size<=60∧x.2.1.size<=60∧x.2.2.1.size<=40∧x.2.2.2.2.1.size<=40
def TmS(x:Tm):Prop:=x.1.size<=60∧x.2.1.size<=60∧x.2.2.length<=10∧∀y∈x.2.2,y.size<=60
def AtS(x:Ath):Prop:=x.1.size<=60∧x.2.1.size<=60∧x.2.2.2.size<=60
structure ShS (s:Qi):Prop where
 c:s.1.length<=6∨256<s.1.length∧s.1.length<=259
 a:s.2.1.length<=8∨256<s.2.1.length∧s.2.1.length<=259
 l:s.2.2.1.length<=12∨256<s.2.2.1.length∧s.2.2.1.length<=259
 e:s.2.2.2.1.length<=20∨256<s.2.2.2.1.length∧s.2.2.2.1.length<=259
 t:s.2.2.2.2.length<=6∨256<s.2.2.2.2.length∧s.2.2.2.2.length<=259
 cs:∀x∈s.1,x.size<=60
 ats:∀x∈s.2.1,AtS x
 ls:∀x∈s.2.2.1,x.1.size<=60
 es:∀x∈s.2.2.2.1,EnS x
 ts:∀x∈s.2.2.2.2,TmS x
theorem ShS.sm{s:Qi}(h:ShS s):Zr s:=by
 obtain⟨h1,h2,h3,h4,h5,h6,h7,h8,h9,h10⟩:=h;refine⟨by omega,by omega,by omega,by omega,by omega,fun x hx=>?_,fun x hx=>?_,fun x hx=>?_⟩
 ·have:=h6 x hx;omega
 ·have:=h7 x hx;unfold AtS at this;omega
 ·have:=(h10 x hx).2.2.1;omega
theorem l44{F:Nat}{l:List ByteArray}(hF:l.length<F)(hl:l.length<=100000):c44 F (l,l)=some true:=by
 unfold c44;simp only[decide_true,I,cond_false];refine Jl l (fun(_:Unit) i=>(i:Int)) (fun _ _=>(.inl ():Unit ⊕ (Bool ⊕ Unit))) (fun _=>.inr ()) (fun _ _=>True) () hF rfl trivial ?_ ?_ ?_
 ·intro i x _ hi hx _;refine⟨?_,fun _ _=>trivial⟩;simp(disch:=omega)only[Z3,Zf,o,getD_some hx,Zy,Ku,I,cond_false];rfl
 ·intro _ _;simp(disch:=omega)only[Z0]
 ·rw[Qyu];rfl
end Go.Proofs.Tryz

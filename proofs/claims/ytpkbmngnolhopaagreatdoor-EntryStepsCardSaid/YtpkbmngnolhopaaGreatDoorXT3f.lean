/- Plain law: who takes part, clashes, clubs. Plain law: clashes and clubs. And further parts. -/
import Derived.Test.YtpkbmngnolhopaaGreatDoorXT3e
import Derived.Test.YtpkbmngnolhopaaGreatDoorXTeB3
set_option maxRecDepth 100000
set_option linter.unusedVariables false
set_option linter.unusedSimpArgs false
open Option renaming bind_some->j
open Bool renaming and_self->o,true_and->C,not_true->U,not_false->ZA
open Int renaming toNat_natCast->I
open List renaming mem_cons_of_mem->J
open Sum.inl renaming injEq->R
namespace Go.Proofs.Tryz
open Go Go.Sx
def Jc(m:Mt)(s:Qj)(a:ByteArray):Int:=Qk [Yi m s,if aI s a<0 then 10 else 0]
def Qnx(s:Qj)(x:ByteArray):ByteArray:=(s.2.1.getD (aI s x).toNat dA).2.1
theorem Qfq{s:Qj}{x:ByteArray}(h:0<=aI s x):∃k:Nat,aI s x=k∧k<s.2.1.length:=by obtain⟨k,y,h1,h2,h3,h4⟩:=W1 (p:=fun y:Ath=>Qc y.1 x) (l:=s.2.1) h;exact⟨k,h1,h2⟩
theorem Zkr{F:Nat}(hF:400<=F){s:Qj}(h:Za s){x:ByteArray}(hx:0<=aI s x):Qeu F (s,x)=some (Qnx s x):=by obtain⟨k,h1,h2⟩:=Qfq hx;have hd:Zy=dA:=rfl;unfold Qeu Qnx;simp only[Q3,K4 hF h,j,h1,hd];simp(disch:=omega)only[Zf,I]
theorem X1:∀{l:List Int},Qk l=0->∀x∈l,x=0
 |[],_,x,hx=>by cases hx
 |y::l,h,x,hx=>by
  by_cases hy:y=0
  ·rw[show Qk (y::l)=if y=0 then Qk l else y from rfl,if_pos hy]at h;rcases List.mem_cons.1 hx with rfl|hx
   ·exact hy
   ·exact X1 h x hx
  ·rw[show Qk (y::l)=if y=0 then Qk l else y from rfl,if_neg hy]at h;exact absurd h hy
theorem Yfn{m:Mt}{s:Qj}(hv:Yi m s=0){i:Nat}(hi:i<s.2.2.2.1.length):Wn m s i=0:=by
 have h1:Yg m=0:=by
  by_cases h:Yg m=0
  ·exact h
  ·rw[Yi,if_neg h]at hv;exact absurd hv h
 have h2:¬Wm s:=fun h=>by rw[Yi,if_pos h1,if_pos h]at hv;exact absurd hv (by decide)
 rw[Yi,if_pos h1,if_neg h2]at hv;have h3:=X1 hv _ (J _ (J _ (J _ List.mem_cons_self)));exact X1 h3 _ (List.mem_map.2 ⟨i,List.mem_range.2 hi,rfl⟩)
theorem Quz{α:Type}(p:α->Bool):∀(l:List α) (n:Int),l.foldl (fun n x=>if p x=true then n+1 else n) n=n+((l.filter p).length:Int)
 |[],n=>by simp
 |x::l,n=>by rw[List.foldl_cons,Quz p l];cases h:p x<;>simp[h];omega
theorem l15{F:Nat}{m:Mt}(hF:m.2.2.2.2.length<F)(hb:m.2.2.2.2.length*128<=140737488355328):c15 F m=some m:=by
 have e:∀y:Cst,y::Qa Cst=[y]:=fun _=>rfl;have hd:Zd=dC:=rfl;unfold c15;refine Jh m.2.2.2.2 (fun out i=>((m.1,m.2.1,m.2.2.1,m.2.2.2.1),out,(i:Int))) (fun x out=>.inl (out++[x])) (fun out=>((m.1,m.2.1,m.2.2.1,m.2.2.2.1),out)) (fun i out=>out.length=i) (Qa Cst) hF rfl rfl ?_ ?_ ?_
 ·intro i x out hi hx ho;have hl2:(out++[x]).length=i+1:=by simp[ho]
  refine⟨?_,fun s' hs=>?_⟩
  ·simp(disch:=omega)only[Zx,Zf,I,getD_some hx,Zv,Q3,e,hl2,ho,decide_true,o,C,Zh,j];rfl
  ·simp only[R]at hs;subst hs;exact hl2
 ·intro out ho;simp(disch:=omega)only[Zz,ho,decide_true,o,C,Zh,j]
 ·rw[Qjd (fun x:Cst=>x)];simp[Qa,Zh]
theorem l16{F:Nat}{s:Qj}(hF:s.2.2.1.length<F∧s.2.2.2.1.length<F∧s.2.2.2.2.length<F)(hb:s.2.2.1.length*32<=140737488355328∧s.2.2.2.1.length*88<=140737488355328∧s.2.2.2.2.length*56<=140737488355328):c16 F s=some s:=by
 have e1:∀y:Lic,y::Qa Lic=[y]:=fun _=>rfl;have e2:∀y:Zo,y::Qa Zo=[y]:=fun _=>rfl;have e3:∀y:Tm,y::Qa Tm=[y]:=fun _=>rfl;obtain⟨f1,f2,f3⟩:=hF;obtain⟨b1,b2,b3⟩:=hb;unfold c16;refine Jh s.2.2.1 (fun out i=>((s.1,s.2.1),out,(i:Int))) (fun x out=>.inl (out++[x])) (fun out=>((s.1,s.2.1),out)) (fun i out=>out.length=i) (Qa Lic) f1 rfl rfl ?_ ?_ ?_
 ·intro i x out hi hx ho;have hl2:(out++[x]).length=i+1:=by simp[ho]
  refine⟨?_,fun s' hs=>?_⟩
  ·simp(disch:=omega)only[Zx,Zf,I,getD_some hx,Zv,Q3,e1,hl2,ho,decide_true,o,C,Zh,j];rfl
  ·simp only[R]at hs;subst hs;exact hl2
 ·intro out ho;simp(disch:=omega)only[Zz,ho,decide_true,o,C,Zh,j]
 ·rw[Qjd (fun x:Lic=>x)];rw[show Qa Lic++List.map (fun x:Lic=>x) s.2.2.1=s.2.2.1 by simp[Qa]];simp only[decide_true,o,C,Zh,j];refine Jh s.2.2.2.1 (fun out i=>((s.1,s.2.1),s.2.2.1,out,(i:Int))) (fun x out=>.inl (out++[x])) (fun out=>((s.1,s.2.1),s.2.2.1,out)) (fun i out=>out.length=i) (Qa Zo) f2 rfl rfl ?_ ?_ ?_
  ·intro i x out hi hx ho;have hl2:(out++[x]).length=i+1:=by simp[ho]
   refine⟨?_,fun s' hs=>?_⟩
   ·simp(disch:=omega)only[Zx,Zf,I,getD_some hx,Zv,Q3,e2,hl2,ho,decide_true,o,C,Zh,j];rfl
   ·simp only[R]at hs;subst hs;exact hl2
  ·intro out ho;simp(disch:=omega)only[Zz,ho,decide_true,o,C,Zh,j]
  ·rw[Qjd (fun x:Zo=>x)];rw[show Qa Zo++List.map (fun x:Zo=>x) s.2.2.2.1=s.2.2.2.1 by simp[Qa]];simp only[decide_true,o,C,Zh,j];refine Jh s.2.2.2.2 (fun out i=>((s.1,s.2.1),s.2.2.1,s.2.2.2.1,out,(i:Int))) (fun x out=>.inl (out++[x])) (fun out=>((s.1,s.2.1),s.2.2.1,s.2.2.2.1,out)) (fun i out=>out.length=i) (Qa Tm) f3 rfl rfl ?_ ?_ ?_
   ·intro i x out hi hx ho;have hl2:(out++[x]).length=i+1:=by simp[ho]
    refine⟨?_,fun s' hs=>?_⟩
    ·simp(disch:=omega)only[Zx,Zf,I,getD_some hx,Zv,Q3,e3,hl2,ho,decide_true,o,C,Zh,j];rfl
    ·simp only[R]at hs;subst hs;exact hl2
   ·intro out ho;simp(disch:=omega)only[Zz,ho,decide_true,o,C,Zh,j]
   ·rw[Qjd (fun x:Tm=>x)];simp[Qa,Zh]
theorem l78(F:Nat)(n k m:Int)(hm:0<=m∧m<=1000):c78 F (n,k,m)=some (decide (n<=k∨(m<n∧n<=m+3))):=by
 unfold c78;simp(disch:=omega)only[Zv];by_cases h1:n<=k
 ·simp[h1]
 ·by_cases h2:m<n<;>simp[h1,h2]
theorem l79(F:Nat)(k:ByteArray)(v:Int)(r:ByteArray):c79 F (k,v,r)=some (decide (k.size<=40∧r.size<=40)):=by
 unfold c79;by_cases h1:k.size<=40
 ·have h1':(k.size:Int)<=40:=by omega
  by_cases h2:r.size<=40
  ·have h2':(r.size:Int)<=40:=by omega
   simp[h1,h2,h1',h2']
  ·have h2':¬(r.size:Int)<=40:=by omega
   simp[h1,h2,h1',h2']
 ·have h1':¬(k.size:Int)<=40:=by omega
  simp[h1,h1']
def CsS(x:Cst):Prop:=x.1.size<=60∧x.2.1.size<=60∧x.2.2.1.size<=60∧x.2.2.2.2.2.2.2.1.size<=40∧x.2.2.2.2.2.2.2.2.2.1.size<=40
structure MtS (m:Mt):Prop where
 n:m.2.2.2.2.length<=35
 n2:m.2.2.2.2.length<=5∨32<m.2.2.2.2.length
 c:∀x∈m.2.2.2.2,CsS x
theorem l17{F:Nat}{m:Mt}(hF:m.2.2.2.2.length<F)(hb:m.2.2.2.2.length*128<=140737488355328):∃b,c17 F m=some b∧(b=true->MtS m):=by
 unfold c17;rw[l78 F _ _ _ (by omega)];by_cases h0:(m.2.2.2.2.length:Int)<=5∨(32:Int)<m.2.2.2.2.length∧(m.2.2.2.2.length:Int)<=32+3
 ·simp only[h0,decide_true,U,cond_false,j];refine Qu0 m.2.2.2.2 CsS (fun b:Bool ⊕ Unit=>b=.inl false∨(b=.inr ()∧∀x∈m.2.2.2.2,CsS x)) hF ?_ ?_ ?_
  ·intro i x hi hx;simp(disch:=omega)only[Zx,Zf,I,getD_some hx,Zv,l79];by_cases h1:(60:Int)<x.1.size
   ·exact⟨_,by simp only[h1,decide_true,cond_true,j],.inr ⟨_,rfl,.inl rfl⟩⟩
   ·by_cases h2:(60:Int)<x.2.1.size
    ·exact⟨_,by simp only[h1,h2,decide_true,decide_false,cond_true,cond_false,j],.inr ⟨_,rfl,.inl rfl⟩⟩
    ·by_cases h3:(60:Int)<x.2.2.1.size
     ·exact⟨_,by simp only[h1,h2,h3,decide_true,decide_false,cond_true,cond_false,j],.inr ⟨_,rfl,.inl rfl⟩⟩
     ·by_cases h4:x.2.2.2.2.2.2.2.1.size<=40∧x.2.2.2.2.2.2.2.2.2.1.size<=40
      ·exact⟨_,by simp only[h1,h2,h3,h4,and_self,decide_true,decide_false,U,cond_true,cond_false,j],.inl ⟨rfl,by omega,by omega,by omega,h4.1,h4.2⟩⟩
      ·exact⟨_,by simp only[h1,h2,h3,h4,decide_true,decide_false,ZA,cond_true,cond_false,j],.inr ⟨_,rfl,.inl rfl⟩⟩
  ·intro h;exact⟨_,by simp(disch:=omega)only[Zz],.inr ⟨rfl,h⟩⟩
  ·rintro b (rfl|⟨rfl,h⟩)
   ·exact⟨false,rfl,fun h=>by cases h⟩
   ·exact⟨true,rfl,fun _=>⟨by omega,by omega,h⟩⟩
 ·simp only[h0,decide_false,ZA,cond_true,j];exact⟨false,rfl,fun h=>by cases h⟩
def EnS(x:Zo):Prop:=x.1.size<=60∧x.2.1.size<=60∧x.2.2.1.size<=40∧x.2.2.2.2.1.size<=40
def TmS(x:Tm):Prop:=x.1.size<=60∧x.2.1.size<=60∧x.2.2.length<=10∧∀y∈x.2.2,y.size<=60
def AtS(x:Ath):Prop:=x.1.size<=60∧x.2.1.size<=60∧x.2.2.2.size<=60
structure ShS (s:Qj):Prop where
 c:s.1.length<=6∨256<s.1.length∧s.1.length<=259
 a:s.2.1.length<=8∨256<s.2.1.length∧s.2.1.length<=259
 l:s.2.2.1.length<=12∨256<s.2.2.1.length∧s.2.2.1.length<=259
 e:s.2.2.2.1.length<=20∨256<s.2.2.2.1.length∧s.2.2.2.1.length<=259
 t:s.2.2.2.2.length<=6∨256<s.2.2.2.2.length∧s.2.2.2.2.length<=259
 cs:∀x∈s.1,x.size<=60
 ats:∀x∈s.2.1,AtS x
 ls:∀x∈s.2.2.1,x.1.size<=60
 es:∀x∈s.2.2.2.1,EnS x
 ts:∀x∈s.2.2.2.2,TmS x
theorem ShS.sm{s:Qj}(h:ShS s):Za s:=by
 obtain⟨h1,h2,h3,h4,h5,h6,h7,h8,h9,h10⟩:=h;refine⟨by omega,by omega,by omega,by omega,by omega,fun x hx=>?_,fun x hx=>?_,fun x hx=>?_⟩
 ·have:=h6 x hx;omega
 ·have:=h7 x hx;unfold AtS at this;omega
 ·have:=(h10 x hx).2.2.1;omega
theorem l44{F:Nat}{l:List ByteArray}(hF:l.length<F)(hl:l.length<=100000):c44 F (l,l)=some true:=by
 unfold c44;simp only[decide_true,U,cond_false];refine Jh l (fun(_:Unit) i=>(i:Int)) (fun _ _=>(.inl ():Unit ⊕ (Bool ⊕ Unit))) (fun _=>.inr ()) (fun _ _=>True) () hF rfl trivial ?_ ?_ ?_
 ·intro i x _ hi hx _;refine⟨?_,fun _ _=>trivial⟩;simp(disch:=omega)only[Zx,Zf,I,getD_some hx,Zv,K9,U,cond_false];rfl
 ·intro _ _;simp(disch:=omega)only[Zz]
 ·rw[Qir];rfl
end Go.Proofs.Tryz

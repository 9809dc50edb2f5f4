/- Plain law: states, in the reference. -/
import Derived.Test.YtpkbmngnolhopaaGreatDoorXT3d
set_option maxRecDepth 100000
set_option linter.unusedVariables false
set_option linter.unusedSimpArgs false
open Option renaming bind_some->j,bind->ZB
open Int renaming toNat_natCast->o,toNat->ZA
open List renaming range->C,length->R,drop_zero->ZC
open Decidable renaming decide->I
open ByteArray renaming empty->J
namespace Go.Proofs.Tryz
open Go Go.Sx
theorem Qp0{γ:Type}{step:Int×Int->Option ((Int×Int) ⊕ Int)}{F:Nat}{k:Int->Option γ}{r:Option γ}(n:Nat)(f:Nat->Int)(e0:Int)(hF:n+1<F)
  (hstep:∀(i:Nat),i<n->step (0,(i:Int))=some (.inl (f i,(i:Int)+1)))
  (hout:∀(e:Int) (i:Nat),e≠0->step (e,(i:Int))=some (.inr e))
  (hend:step (0,(n:Int))=some (.inr 0))
  (hk:k (if e0=0 then Qk ((C n).map f)else e0)=r):ZB (Q4 step F (e0,0)) k=r:=by
 have hW:∀i,i<n->((C n).map f).getD i 0=f i:=fun i hi=>by rw[List.getD_eq_getElem?_getD,List.getElem?_map,List.getElem?_range hi];rfl
 obtain⟨b,h1,h2⟩:=Ql1 (step:=step) (fun x:Int×Int=>∃i:Nat,x.2=i∧i<=n∧(if e0=0 then Qk ((C n).map f)else e0)=(if x.1=0 then Qk (((C n).map f).drop i)else x.1))
  (fun x=>if x.1=0 then n+1-x.2.toNat else 0) (fun b=>b=(if e0=0 then Qk ((C n).map f)else e0))
  (fun ⟨e,v⟩ ⟨i,hv,hi,hx⟩=>by
   simp only at hv hx;subst hv;by_cases he:e=0
   ·subst he;rw[if_pos rfl]at hx;by_cases hin:i<n
    ·left;refine⟨_,hstep i hin,⟨i+1,by simp,by omega,?_⟩,?_⟩
     ·rw[hx,Qzd (by simpa using hin),hW i hin]
     ·show(if f i=0 then n+1-((i:Int)+1).toNat else 0)<(if(0:Int)=0 then n+1-(i:Int).toNat else 0);rw[if_pos rfl];split<;>omega
    ·right;obtain rfl:i=n:=by omega
     refine⟨0,hend,?_⟩;rw[hx,List.drop_eq_nil_of_le (by simp)];rfl
   ·right;refine⟨e,hout e i he,?_⟩;rw[hx,if_neg he])
  F (e0,0) ⟨0,rfl,by omega,by simp⟩ (by
   show(if e0=0 then n+1-ZA 0 else 0)<F;split
   ·show n+1-0<F;omega
   ·omega)
 rw[h1,j,h2];exact hk
theorem l40{F:Nat}(hF:400<=F){s:Qj}(h:Za s)(x:ByteArray):c40 F (s,x)=some (aI s x):=by
 have h1:=h.a;unfold c40 aI;refine Qbp s.2.1 _ (by omega) ?_ ?_
 ·intro i y hi hy;simp(disch:=omega)only[Zx,Zf,o,getD_some hy,Zv];cases Qc y.1 x<;>rfl
 ·simp(disch:=omega)only[Zz]
theorem l53{F:Nat}(hF:400<=F){s:Qj}(h:Za s)(a c:ByteArray):c53 F (s,a,c)=some (eI s a c):=by
 have h1:=h.e;unfold c53 eI;refine Qbp s.2.2.2.1 _ (by omega) ?_ ?_
 ·intro i y hi hy;simp(disch:=omega)only[Zx,Zf,o,getD_some hy,Zv];unfold eP;cases Qc y.1 a
  ·rfl
  ·cases Qc y.2.1 c<;>rfl
 ·simp(disch:=omega)only[Zz]
theorem Zie{F:Nat}(hF:400<=F){s:Qj}(h:Za s)(a c:ByteArray):Qiw F (s,a,c)=some (tI s a c):=by
 have h1:=h.t;unfold Qiw tI;refine Qbp s.2.2.2.2 _ (by omega) ?_ ?_
 ·intro i y hi hy;simp(disch:=omega)only[Zx,Zf,o,getD_some hy,Zv];unfold tP;cases Qc y.1 a
  ·rfl
  ·cases Qc y.2.1 c<;>rfl
 ·simp(disch:=omega)only[Zz]
theorem l54{F:Nat}(hF:400<=F){l:List ByteArray}(hl:l.length<=300)(x:ByteArray):c54 F (l,x)=some (hasB l x):=by
 unfold c54;refine Jh l (fun(_:Unit) i=>(i:Int)) (fun y (_:Unit)=>if Qc y x=true then .inr (.inl true)else .inl ()) (fun _=>(.inr ():Bool ⊕ Unit)) (fun _ _=>True) () (by omega) rfl trivial ?_ ?_ ?_
 ·intro i y _ hi hy _;refine⟨?_,fun _ _=>trivial⟩;simp(disch:=omega)only[Zx,Zf,o,getD_some hy,Zv];cases Qc y x<;>rfl
 ·intro _ _;simp(disch:=omega)only[Zz]
 ·rw[Qcn (fun y=>Qc y x)];unfold hasB;cases l.any fun y=>Qc y x<;>rfl
theorem Zkg{F:Nat}(hF:400<=F)(x:ByteArray):Qc3 F x=some (if Y3 x=true then 0 else 8):=by unfold Qc3;simp only[l67 hF,j];cases Y3 x<;>rfl
theorem Zjp(F:Nat)(x:Int):Qjv F x=some (if Yj x=true then 3 else 0):=by unfold Qjv;simp only[l94,j];cases Yj x<;>rfl
theorem Znh{F:Nat}(hF:400<=F){s:Qj}(h:Za s){i:Nat}(hi:i<s.2.1.length):Qpz F (s,(i:Int))=some (V7 s i):=by have hd:Zy=dA:=rfl;have hlt:=Qeg (p:=fun y:Ath=>Qc y.1 (s.2.1.getD i dA).1) (Qgt dA hi) (K9 _);unfold Qpz V7;simp(disch:=omega)only[Zf,o,hd,Q3,l67 hF,l40 hF h,l54 hF h.c,l94,Zkg hF,j];rw[show decide (aI s (s.2.1.getD i dA).1<(i:Int))=_ from hlt];generalize Y3 (s.2.1.getD i dA).1=q1;generalize ((s.2.1.take i).any fun y=>Qc y.1 (s.2.1.getD i dA).1)=q2;generalize hasB s.1 (s.2.1.getD i dA).2.1=q3;generalize Yj (s.2.1.getD i dA).2.2.1=q4;generalize Y3 (s.2.1.getD i dA).2.2.2=q5;cases q1<;>cases q2<;>cases q3<;>cases q4<;>rfl
theorem Yrq{F:Nat}(hF:400<=F){s:Qj}(h:Za s):Qom F s=some (Qk [Qk ((C s.1.length).map (Kg s.1)),Qk ((C s.2.1.length).map (V7 s)),Qk ((C s.2.2.1.length).map (Vu s))]):=by
 have h1:=h.c;have h2:=h.a;have h3:=h.l;have hd:YP=dL:=rfl;unfold Qom;refine U8 s.1.length (Kg s.1) (by omega) (by omega) ?_ ?_ ?_
 ·intro i hi;simp(disch:=omega)only[Zx,Zf,o,Zv,ZC,l67 hF,l54 hF (l:=s.1.take i) (by simp;omega),j];unfold Kg;cases Y3 (s.1.getD i J)
  ·rfl
  ·cases hasB (s.1.take i) (s.1.getD i J)<;>rfl
 ·simp(disch:=omega)only[Zz]
 ·by_cases g1:Qk ((C s.1.length).map (Kg s.1))=0
  ·simp only[g1,if_true,Sum.elim_inr,Qk];refine Qp0 s.2.1.length (V7 s) 0 (by omega) ?_ ?_ ?_ ?_
   ·intro i hi;simp(disch:=omega)only[Zx,Zv,Q3,decide_true,j,cond_true,Znh hF h hi]
   ·intro e i he;by_cases hi:(i:Int)<s.2.1.length<;>simp[hi,he]
   ·simp(disch:=omega)only[Zz,j,cond_false]
   ·simp only[if_true];refine Qp0 s.2.2.1.length (Vu s) _ (by omega) ?_ ?_ ?_ ?_
    ·intro i hi;simp(disch:=omega)only[Zx,Zf,o,Zv,hd,Q3,decide_true,j,cond_true,l40 hF h,l94];unfold Vu Qck;generalize s.2.2.1.getD i dL=x;by_cases k1:aI s x.1<0
     ·simp[k1]
     ·by_cases k2:x.2.2<x.2.1<;>cases Yj x.2.1<;>cases Yj x.2.2<;>simp[k1,k2]
    ·intro e i he;by_cases hi:(i:Int)<s.2.2.1.length<;>simp[hi,he]
    ·simp(disch:=omega)only[Zz,j,cond_false]
    ·generalize Qk ((C s.2.1.length).map (V7 s))=w1;generalize Qk ((C s.2.2.1.length).map (Vu s))=w2;by_cases k1:w1=0
     ·by_cases k2:w2=0<;>simp[k1,k2]
     ·simp[k1]
  ·simp[g1,Qk]
theorem Zrc{F:Nat}(hF:400<=F){m:Mt}(hm:m.2.2.2.2.length<=300){s:Qj}(h:Za s){i:Nat}(hi:i<s.2.2.2.1.length):Qsk F (s,m,(i:Int))=some (Wn m s i):=by
 have hd:Zg=dE:=rfl;have hd2:Zd=dC:=rfl;have hlt:=Qeg (p:=eP (s.2.2.2.1.getD i dE).1 (s.2.2.2.1.getD i dE).2.1) (Qgt dE hi) (by simp[eP,K9]);have h47:∀x,c47 F (m,x)=some (cI m x):=fun x=>l47 (by omega) (by omega) x;unfold Qsk Wn;simp(disch:=omega)only[Zf,o,hd,hd2,Q3,h47,l40 hF h,j];generalize s.2.2.2.1.getD i dE=x at hlt;have hlt:decide (eI s x.1 x.2.1<(i:Int))=_:=hlt;simp only[l53 hF h,hlt,Qt2,Qtt,Zjp,j];by_cases k1:aI s x.1<0
 ·simp[k1]
 ·by_cases k2:cI m x.2.1<0
  ·simp[k1,k2]
  ·obtain⟨k,y,g1,g2,g3,g4⟩:=W1 (p:=fun y:Cst=>Qc y.1 x.2.1) (l:=m.2.2.2.2) (show 0<=cI m x.2.1 by omega);have g1:cI m x.2.1=k:=g1;have hct:m.2.2.2.2.getD (cI m x.2.1).toNat dC=Z3 m x.2.1:=rfl;have hk1:0<=cI m x.2.1:=by omega
   have hk2:cI m x.2.1<(m.2.2.2.2.length:Int):=by omega
   have hk3:(cI m x.2.1).toNat<m.2.2.2.2.length:=by omega
   simp only[k1,k2,hk1,hk2,hk3,hct,decide_true,decide_false,Zh,cond_true,cond_false,or_self,if_false,j];generalize Z3 m x.2.1=ct;generalize ((s.2.2.2.1.take i).any (eP x.1 x.2.1))=tw;generalize Jo ct.2.1 x.2.2.1=su;generalize Jq x.2.2.1 x.2.2.2.1 x.2.2.2.2.1=me;generalize Yj x.2.2.2.2.2.1=db;by_cases k3:0<ct.2.2.2.2.2.2.2.2.2.2
   ·simp[k3]
   ·cases tw
    ·by_cases k4:me=0
     ·cases su<;>cases db<;>simp[k3,k4]
     ·simp[k3,k4]
    ·simp[k3]
theorem Ydr{F:Nat}(hF:400<=F){m:Mt}(hm:m.2.2.2.2.length<=300){s:Qj}(h:Za s){i:Nat}(hi:i<s.2.2.2.2.length):Qqr F (s,m,(i:Int))=some (Kj m s i):=by
 have hd:YB=dT:=rfl;have hd2:Zd=dC:=rfl;have hlt:=Qeg (p:=tP (s.2.2.2.2.getD i dT).1 (s.2.2.2.2.getD i dT).2.1) (Qgt dT hi) (by simp[tP,K9]);have h47:∀x,c47 F (m,x)=some (cI m x):=fun x=>l47 (by omega) (by omega) x;have hrl:=h.tn _ (Qll dT hi);unfold Qqr Kj;simp(disch:=omega)only[Zf,o,hd,hd2,Q3,h47,j];generalize s.2.2.2.2.getD i dT=x at hlt hrl;have hlt:decide (tI s x.1 x.2.1<(i:Int))=_:=hlt;have hloop:(ZB (Q4 (U:=Int) (β:=Int ⊕ Unit) (fun(v29:Int)=>bif I (v29<(↑(R x.2.2):Int))then(gd (I ((0:Int)<=v29)) (gd (I (v29<(↑(R x.2.2):Int))) (gd (I (ZA v29<R x.2.2)) (ZB (c40 F (s,List.getD x.2.2 (ZA v29) J)) fun(v30:Int)=>bif I (v30<(0:Int))then(some (Sum.inr (Sum.inl (10:Int))))else(gd (I ((0:Int)<=v29)) (gd (I (v29<=(↑(R x.2.2):Int))) (gd (I ((0:Int)<=v29)) (gd (I (v29<(↑(R x.2.2):Int))) (gd (I (ZA v29<R x.2.2)) (ZB (c54 F (List.drop (0:Nat) (List.take (ZA v29) x.2.2),List.getD x.2.2 (ZA v29) J)) fun(v31:Bool)=>bif v31 then(some (Sum.inr (Sum.inl (9:Int))))else(some (Sum.inl (Go.Sx.w64 (v29+(1:Int)))))))))))))))else(some (Sum.inr (Sum.inr Unit.unit)))) F (0:Int)) fun(v26:Int ⊕ Unit)=>Sum.elim (fun(v27:Int)=>some v27) (fun(v28:Unit)=>some (0:Int)) v26)=some (Qk ((C x.2.2.length).map (V6 s x.2.2))):=by
  refine U8 x.2.2.length (V6 s x.2.2) (by omega) (by omega) ?_ ?_ (Qbz _)
  ·intro i hi;simp(disch:=omega)only[Zx,Zf,o,Zv,ZC,l40 hF h,l54 hF (l:=x.2.2.take i) (by simp;omega),j];unfold V6;generalize aI s (x.2.2.getD i J)=v;generalize hasB (x.2.2.take i) (x.2.2.getD i J)=q;by_cases k1:v<0
   ·simp[k1]
   ·cases q<;>simp[k1]
  ·simp(disch:=omega)only[Zz]
 simp only[l54 hF h.c,Zie hF h,hlt,hloop,j];generalize Qk ((C x.2.2.length).map (V6 s x.2.2))=re;cases hasB s.1 x.1
 ·simp
 ·by_cases k2:cI m x.2.1<0
  ·simp[k2]
  ·obtain⟨k,y,g1,g2,g3,g4⟩:=W1 (p:=fun y:Cst=>Qc y.1 x.2.1) (l:=m.2.2.2.2) (show 0<=cI m x.2.1 by omega);have g1:cI m x.2.1=k:=g1;have hct:m.2.2.2.2.getD (cI m x.2.1).toNat dC=Z3 m x.2.1:=rfl;have hk1:0<=cI m x.2.1:=by omega
   have hk2:cI m x.2.1<(m.2.2.2.2.length:Int):=by omega
   have hk3:(cI m x.2.1).toNat<m.2.2.2.2.length:=by omega
   simp only[k2,hk1,hk2,hk3,hct,decide_true,decide_false,Zh,cond_true,cond_false,Bool.not_true,Bool.true_eq_false,or_self,if_false,j];generalize Z3 m x.2.1=ct;generalize ((s.2.2.2.2.take i).any (tP x.1 x.2.1))=tw;by_cases k3:ct.2.2.2.2.2.2.2.2.2.2=0
   ·simp[k3]
   ·cases tw
    ·by_cases k4:(x.2.2.length:Int)=ct.2.2.2.2.2.2.2.2.2.2
     ·simp[k3,k4]
     ·simp[k3,k4]
    ·simp[k3]
theorem l26{F:Nat}(hF:400<=F){m:Mt}(hl:m.2.2.2.2.length<=300){s:Qj}(h:Za s):c26 F (m,s)=some (Yi m s):=by
 have h1:=h.e;have h2:=h.t;unfold c26 Yi;simp only[Q3,l22 hF hl,j];by_cases g1:Yg m=0
 ·have e0:(bif decide ((256:Int)<s.1.length)then some true else(bif decide ((256:Int)<s.2.1.length)then some true else(bif decide ((256:Int)<s.2.2.1.length)then some true else(bif decide ((256:Int)<s.2.2.2.1.length)then some true else some (decide ((256:Int)<s.2.2.2.2.length))))))=some (decide (Wm s)):=by
   unfold Wm;by_cases k1:256<s.1.length
   ·have:(256:Int)<s.1.length:=by omega
    simp[k1,this]
   ·have a1:¬(256:Int)<s.1.length:=by omega
    by_cases k2:256<s.2.1.length
    ·have:(256:Int)<s.2.1.length:=by omega
     simp[k1,a1,k2,this]
    ·have a2:¬(256:Int)<s.2.1.length:=by omega
     by_cases k3:256<s.2.2.1.length
     ·have:(256:Int)<s.2.2.1.length:=by omega
      simp[k1,a1,k2,a2,k3,this]
     ·have a3:¬(256:Int)<s.2.2.1.length:=by omega
      by_cases k4:256<s.2.2.2.1.length
      ·have:(256:Int)<s.2.2.2.1.length:=by omega
       simp[k1,a1,k2,a2,k3,a3,k4,this]
      ·have a4:¬(256:Int)<s.2.2.2.1.length:=by omega
       by_cases k5:256<s.2.2.2.2.length
       ·have:(256:Int)<s.2.2.2.2.length:=by omega
        simp[k1,a1,k2,a2,k3,a3,k4,a4,k5,this]
       ·have a5:¬(256:Int)<s.2.2.2.2.length:=by omega
        simp[k1,a1,k2,a2,k3,a3,k4,a4,k5,a5]
  rw[e0];simp only[g1,decide_true,Bool.not_true,cond_false,if_true,j];by_cases g2:Wm s
  ·simp[g2]
  ·simp only[g2,decide_false,cond_false,if_false,Yrq hF h,j];generalize Qk ((C s.1.length).map (Kg s.1))=w1;generalize Qk ((C s.2.1.length).map (V7 s))=w2;generalize Qk ((C s.2.2.1.length).map (Vu s))=w3;refine Qp0 s.2.2.2.1.length (Wn m s) _ (by omega) ?_ ?_ ?_ ?_
   ·intro i hi;simp(disch:=omega)only[Zx,Zv,Q3,decide_true,j,cond_true,Zrc hF hl h hi]
   ·intro e i he;by_cases hi:(i:Int)<s.2.2.2.1.length<;>simp[hi,he]
   ·simp(disch:=omega)only[Zz,j,cond_false]
   ·refine Qp0 s.2.2.2.2.length (Kj m s) _ (by omega) ?_ ?_ ?_ ?_
    ·intro i hi;simp(disch:=omega)only[Zx,Zv,Q3,decide_true,j,cond_true,Ydr hF hl h hi]
    ·intro e i he;by_cases hi:(i:Int)<s.2.2.2.2.length<;>simp[hi,he]
    ·simp(disch:=omega)only[Zz,j,cond_false]
    ·generalize Qk ((C s.2.2.2.1.length).map (Wn m s))=w4;generalize Qk ((C s.2.2.2.2.length).map (Kj m s))=w5;by_cases k1:w1=0<;>by_cases k2:w2=0<;>by_cases k3:w3=0<;>by_cases k4:w4=0<;>simp[Qk,k1,k2,k3,k4]
 ·simp[g1]
end Go.Proofs.Tryz

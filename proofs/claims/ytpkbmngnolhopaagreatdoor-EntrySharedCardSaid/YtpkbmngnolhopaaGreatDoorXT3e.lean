/- Plain law: states, in the reference. -/
import Derived.Test.YtpkbmngnolhopaaGreatDoorXT3d
set_option maxRecDepth 100000
set_option linter.unusedVariables false
set_option linter.unusedSimpArgs false
namespace Go.Proofs.Tryz
open Go Go.Sx
theorem Qk5{γ:Type}{step:Int×Int→Option ((Int×Int) ⊕ Int)}{F:Nat}{k:Int→Option γ}{r:Option γ}(n:Nat)(f:Nat→Int)(e0:Int)(hF:n+1<F)
  (hstep:∀(i:Nat),i<n→step (0,(i:Int))=some (.inl (f i,(i:Int)+1)))
  (hout:∀(e:Int) (i:Nat),e≠0→step (e,(i:Int))=some (.inr e))
  (hend:step (0,(n:Int))=some (.inr 0))
  (hk:k (if e0=0 then Qn ((List.range n).map f)else e0)=r):Option.bind (Qq step F (e0,0)) k=r:=by
 have hW:∀i,i<n→((List.range n).map f).getD i 0=f i:=fun i hi=>by rw[List.getD_eq_getElem?_getD,List.getElem?_map,List.getElem?_range hi];rfl
 obtain⟨b,h1,h2⟩:=Qgw (step:=step) (fun x:Int×Int=>∃i:Nat,x.2=i∧i≤n∧(if e0=0 then Qn ((List.range n).map f)else e0)=(if x.1=0 then Qn (((List.range n).map f).drop i)else x.1))
  (fun x=>if x.1=0 then n+1-x.2.toNat else 0) (fun b=>b=(if e0=0 then Qn ((List.range n).map f)else e0))
  (fun ⟨e,v⟩ ⟨i,hv,hi,hx⟩=>by
   simp only at hv hx;subst hv;by_cases he:e=0
   ·subst he;rw[if_pos rfl]at hx;by_cases hin:i<n
    ·left;refine⟨_,hstep i hin,⟨i+1,by simp,by omega,?_⟩,?_⟩
     ·rw[hx,Qpo (by simpa using hin),hW i hin]
     ·show(if f i=0 then n+1-((i:Int)+1).toNat else 0)<(if(0:Int)=0 then n+1-(i:Int).toNat else 0);rw[if_pos rfl];split<;>omega
    ·right;obtain rfl:i=n:=by omega
     refine⟨0,hend,?_⟩;rw[hx,List.drop_eq_nil_of_le (by simp)];rfl
   ·right;refine⟨e,hout e i he,?_⟩;rw[hx,if_neg he])
  F (e0,0) ⟨0,rfl,by omega,by simp⟩ (by
   show(if e0=0 then n+1-Int.toNat 0 else 0)<F;split
   ·show n+1-0<F;omega
   ·omega)
 rw[h1,Option.bind_some,h2];exact hk
theorem l40{F:Nat}(hF:400≤F){s:Qw}(h:SmS s)(x:ByteArray):c40 F (s,x)=some (aI s x):=by
 have h1:=h.a;unfold c40 aI;refine W9 s.2.1 _ (by omega) ?_ ?_
 ·intro i y hi hy;simp(disch:=omega)only[Ze,Zj,Int.toNat_natCast,getD_some hy,Zb];cases Qf y.1 x<;>rfl
 ·simp(disch:=omega)only[Zd]
theorem l53{F:Nat}(hF:400≤F){s:Qw}(h:SmS s)(a c:ByteArray):c53 F (s,a,c)=some (eI s a c):=by
 have h1:=h.e;unfold c53 eI;refine W9 s.2.2.2.1 _ (by omega) ?_ ?_
 ·intro i y hi hy;simp(disch:=omega)only[Ze,Zj,Int.toNat_natCast,getD_some hy,Zb];unfold eP;cases Qf y.1 a
  ·rfl
  ·cases Qf y.2.1 c<;>rfl
 ·simp(disch:=omega)only[Zd]
theorem Zix{F:Nat}(hF:400≤F){s:Qw}(h:SmS s)(a c:ByteArray):Ql1 F (s,a,c)=some (tI s a c):=by
 have h1:=h.t;unfold Ql1 tI;refine W9 s.2.2.2.2 _ (by omega) ?_ ?_
 ·intro i y hi hy;simp(disch:=omega)only[Ze,Zj,Int.toNat_natCast,getD_some hy,Zb];unfold tP;cases Qf y.1 a
  ·rfl
  ·cases Qf y.2.1 c<;>rfl
 ·simp(disch:=omega)only[Zd]
theorem l54{F:Nat}(hF:400≤F){l:List ByteArray}(hl:l.length≤300)(x:ByteArray):c54 F (l,x)=some (hasB l x):=by
 unfold c54;refine Xz l (fun(_:Unit) i=>(i:Int)) (fun y (_:Unit)=>if Qf y x=true then .inr (.inl true)else .inl ()) (fun _=>(.inr ():Bool ⊕ Unit)) (fun _ _=>True) () (by omega) rfl trivial ?_ ?_ ?_
 ·intro i y _ hi hy _;refine⟨?_,fun _ _=>trivial⟩;simp(disch:=omega)only[Ze,Zj,Int.toNat_natCast,getD_some hy,Zb];cases Qf y x<;>rfl
 ·intro _ _;simp(disch:=omega)only[Zd]
 ·rw[Qed (fun y=>Qf y x)];unfold hasB;cases l.any fun y=>Qf y x<;>rfl
theorem Zoc{F:Nat}(hF:400≤F)(x:ByteArray):Qla F x=some (if Y5 x=true then 0 else 8):=by unfold Qla;simp only[l67 hF,Option.bind_some];cases Y5 x<;>rfl
theorem Zkb(F:Nat)(x:Int):Qlt F x=some (if Z0 x=true then 3 else 0):=by unfold Qlt;simp only[l94,Option.bind_some];cases Z0 x<;>rfl
theorem Zpa{F:Nat}(hF:400≤F){s:Qw}(h:SmS s){i:Nat}(hi:i<s.2.1.length):Qlz F (s,(i:Int))=some (Wn s i):=by have hd:Xd=dA:=rfl;have hlt:=Ud (p:=fun y:Ath=>Qf y.1 (s.2.1.getD i dA).1) (Uw dA hi) (J8 _);unfold Qlz Wn;simp(disch:=omega)only[Zj,Int.toNat_natCast,hd,Zp,l67 hF,l40 hF h,l54 hF h.c,l94,Zoc hF,Option.bind_some];rw[show decide (aI s (s.2.1.getD i dA).1<(i:Int))=_ from hlt];generalize Y5 (s.2.1.getD i dA).1=q1;generalize ((s.2.1.take i).any fun y=>Qf y.1 (s.2.1.getD i dA).1)=q2;generalize hasB s.1 (s.2.1.getD i dA).2.1=q3;generalize Z0 (s.2.1.getD i dA).2.2.1=q4;generalize Y5 (s.2.1.getD i dA).2.2.2=q5;cases q1<;>cases q2<;>cases q3<;>cases q4<;>rfl
theorem Zeb{F:Nat}(hF:400≤F){s:Qw}(h:SmS s):Qj7 F s=some (Qn [Qn ((List.range s.1.length).map (W5 s.1)),Qn ((List.range s.2.1.length).map (Wn s)),Qn ((List.range s.2.2.1.length).map (Vc s))]):=by
 have h1:=h.c;have h2:=h.a;have h3:=h.l;have hd:(ByteArray.empty,(0:Int),(0:Int))=dL:=rfl;unfold Qj7;refine Qak s.1.length (W5 s.1) (by omega) (by omega) ?_ ?_ ?_
 ·intro i hi;simp(disch:=omega)only[Ze,Zj,Int.toNat_natCast,Zb,List.drop_zero,l67 hF,l54 hF (l:=s.1.take i) (by simp;omega),Option.bind_some];unfold W5;cases Y5 (s.1.getD i ByteArray.empty)
  ·rfl
  ·cases hasB (s.1.take i) (s.1.getD i ByteArray.empty)<;>rfl
 ·simp(disch:=omega)only[Zd]
 ·by_cases g1:Qn ((List.range s.1.length).map (W5 s.1))=0
  ·simp only[g1,if_true,Sum.elim_inr,Qn];refine Qk5 s.2.1.length (Wn s) 0 (by omega) ?_ ?_ ?_ ?_
   ·intro i hi;simp(disch:=omega)only[Ze,Zb,Zp,decide_true,Option.bind_some,cond_true,Zpa hF h hi]
   ·intro e i he;by_cases hi:(i:Int)<s.2.1.length<;>simp[hi,he]
   ·simp(disch:=omega)only[Zd,Option.bind_some,cond_false]
   ·simp only[if_true];refine Qk5 s.2.2.1.length (Vc s) _ (by omega) ?_ ?_ ?_ ?_
    ·intro i hi;simp(disch:=omega)only[Ze,Zj,Int.toNat_natCast,Zb,hd,Zp,decide_true,Option.bind_some,cond_true,l40 hF h,l94];unfold Vc Qd9;generalize s.2.2.1.getD i dL=x;by_cases k1:aI s x.1<0
     ·simp[k1]
     ·by_cases k2:x.2.2<x.2.1<;>cases Z0 x.2.1<;>cases Z0 x.2.2<;>simp[k1,k2]
    ·intro e i he;by_cases hi:(i:Int)<s.2.2.1.length<;>simp[hi,he]
    ·simp(disch:=omega)only[Zd,Option.bind_some,cond_false]
    ·generalize Qn ((List.range s.2.1.length).map (Wn s))=w1;generalize Qn ((List.range s.2.2.1.length).map (Vc s))=w2;by_cases k1:w1=0
     ·by_cases k2:w2=0<;>simp[k1,k2]
     ·simp[k1]
  ·simp[g1,Qn]
theorem Zgd{F:Nat}(hF:400≤F){m:Mt}(hm:m.2.2.2.2.length≤300){s:Qw}(h:SmS s){i:Nat}(hi:i<s.2.2.2.1.length):Qkk F (s,m,(i:Int))=some (Jm m s i):=by
 have hd:Zm=dE:=rfl;have hd2:Q2=dC:=rfl;have hlt:=Ud (p:=eP (s.2.2.2.1.getD i dE).1 (s.2.2.2.1.getD i dE).2.1) (Uw dE hi) (by simp[eP,J8]);have h47:∀x,c47 F (m,x)=some (cI m x):=fun x=>l47 (by omega) (by omega) x;unfold Qkk Jm;simp(disch:=omega)only[Zj,Int.toNat_natCast,hd,hd2,Zp,h47,l40 hF h,Option.bind_some];generalize s.2.2.2.1.getD i dE=x at hlt;have hlt:decide (eI s x.1 x.2.1<(i:Int))=_:=hlt;simp only[l53 hF h,hlt,Qy6,Qtw,Zkb,Option.bind_some];by_cases k1:aI s x.1<0
 ·simp[k1]
 ·by_cases k2:cI m x.2.1<0
  ·simp[k1,k2]
  ·obtain⟨k,y,g1,g2,g3,g4⟩:=Qfw (p:=fun y:Zv=>Qf y.1 x.2.1) (l:=m.2.2.2.2) (show 0≤cI m x.2.1 by omega);have g1:cI m x.2.1=k:=g1;have hct:m.2.2.2.2.getD (cI m x.2.1).toNat dC=cAt m x.2.1:=rfl;have hk1:0≤cI m x.2.1:=by omega
   have hk2:cI m x.2.1<(m.2.2.2.2.length:Int):=by omega
   have hk3:(cI m x.2.1).toNat<m.2.2.2.2.length:=by omega
   simp only[k1,k2,hk1,hk2,hk3,hct,decide_true,decide_false,Zw,cond_true,cond_false,or_self,if_false,Option.bind_some];generalize cAt m x.2.1=ct;generalize ((s.2.2.2.1.take i).any (eP x.1 x.2.1))=tw;generalize J1 ct.2.1 x.2.2.1=su;generalize Jh x.2.2.1 x.2.2.2.1 x.2.2.2.2.1=me;generalize Z0 x.2.2.2.2.2.1=db;by_cases k3:0<ct.2.2.2.2.2.2.2.2.2.2
   ·simp[k3]
   ·cases tw
    ·by_cases k4:me=0
     ·cases su<;>cases db<;>simp[k3,k4]
     ·simp[k3,k4]
    ·simp[k3]
theorem Zml{F:Nat}(hF:400≤F){m:Mt}(hm:m.2.2.2.2.length≤300){s:Qw}(h:SmS s){i:Nat}(hi:i<s.2.2.2.2.length):Qk7 F (s,m,(i:Int))=some (Jz m s i):=by
 have hd:(ByteArray.empty,ByteArray.empty,Qb ByteArray)=dT:=rfl;have hd2:Q2=dC:=rfl;have hlt:=Ud (p:=tP (s.2.2.2.2.getD i dT).1 (s.2.2.2.2.getD i dT).2.1) (Uw dT hi) (by simp[tP,J8]);have h47:∀x,c47 F (m,x)=some (cI m x):=fun x=>l47 (by omega) (by omega) x;have hrl:=h.tn _ (Qfj dT hi);unfold Qk7 Jz;simp(disch:=omega)only[Zj,Int.toNat_natCast,hd,hd2,Zp,h47,Option.bind_some];generalize s.2.2.2.2.getD i dT=x at hlt hrl;have hlt:decide (tI s x.1 x.2.1<(i:Int))=_:=hlt;have hloop:(Option.bind (Qq (σ:=Int) (β:=Int ⊕ Unit) (fun(v29:Int)=>bif Decidable.decide (v29<(↑(List.length x.2.2):Int))then(gd (Decidable.decide ((0:Int)≤v29)) (gd (Decidable.decide (v29<(↑(List.length x.2.2):Int))) (gd (Decidable.decide (Int.toNat v29<List.length x.2.2)) (Option.bind (c40 F (s,List.getD x.2.2 (Int.toNat v29) ByteArray.empty)) fun(v30:Int)=>bif Decidable.decide (v30<(0:Int))then(some (Sum.inr (Sum.inl (10:Int))))else(gd (Decidable.decide ((0:Int)≤v29)) (gd (Decidable.decide (v29≤(↑(List.length x.2.2):Int))) (gd (Decidable.decide ((0:Int)≤v29)) (gd (Decidable.decide (v29<(↑(List.length x.2.2):Int))) (gd (Decidable.decide (Int.toNat v29<List.length x.2.2)) (Option.bind (c54 F (List.drop (0:Nat) (List.take (Int.toNat v29) x.2.2),List.getD x.2.2 (Int.toNat v29) ByteArray.empty)) fun(v31:Bool)=>bif v31 then(some (Sum.inr (Sum.inl (9:Int))))else(some (Sum.inl (Go.Sx.w64 (v29+(1:Int)))))))))))))))else(some (Sum.inr (Sum.inr Unit.unit)))) F (0:Int)) fun(v26:Int ⊕ Unit)=>Sum.elim (fun(v27:Int)=>some v27) (fun(v28:Unit)=>some (0:Int)) v26)=some (Qn ((List.range x.2.2.length).map (Kh s x.2.2))):=by
  refine Qak x.2.2.length (Kh s x.2.2) (by omega) (by omega) ?_ ?_ (Qbb _)
  ·intro i hi;simp(disch:=omega)only[Ze,Zj,Int.toNat_natCast,Zb,List.drop_zero,l40 hF h,l54 hF (l:=x.2.2.take i) (by simp;omega),Option.bind_some];unfold Kh;generalize aI s (x.2.2.getD i ByteArray.empty)=v;generalize hasB (x.2.2.take i) (x.2.2.getD i ByteArray.empty)=q;by_cases k1:v<0
   ·simp[k1]
   ·cases q<;>simp[k1]
  ·simp(disch:=omega)only[Zd]
 simp only[l54 hF h.c,Zix hF h,hlt,hloop,Option.bind_some];generalize Qn ((List.range x.2.2.length).map (Kh s x.2.2))=re;cases hasB s.1 x.1
 ·simp
 ·by_cases k2:cI m x.2.1<0
  ·simp[k2]
  ·obtain⟨k,y,g1,g2,g3,g4⟩:=Qfw (p:=fun y:Zv=>Qf y.1 x.2.1) (l:=m.2.2.2.2) (show 0≤cI m x.2.1 by omega);have g1:cI m x.2.1=k:=g1;have hct:m.2.2.2.2.getD (cI m x.2.1).toNat dC=cAt m x.2.1:=rfl;have hk1:0≤cI m x.2.1:=by omega
   have hk2:cI m x.2.1<(m.2.2.2.2.length:Int):=by omega
   have hk3:(cI m x.2.1).toNat<m.2.2.2.2.length:=by omega
   simp only[k2,hk1,hk2,hk3,hct,decide_true,decide_false,Zw,cond_true,cond_false,Bool.not_true,Bool.true_eq_false,or_self,if_false,Option.bind_some];generalize cAt m x.2.1=ct;generalize ((s.2.2.2.2.take i).any (tP x.1 x.2.1))=tw;by_cases k3:ct.2.2.2.2.2.2.2.2.2.2=0
   ·simp[k3]
   ·cases tw
    ·by_cases k4:(x.2.2.length:Int)=ct.2.2.2.2.2.2.2.2.2.2
     ·simp[k3,k4]
     ·simp[k3,k4]
    ·simp[k3]
theorem l26{F:Nat}(hF:400≤F){m:Mt}(hl:m.2.2.2.2.length≤300){s:Qw}(h:SmS s):c26 F (m,s)=some (stE m s):=by
 have h1:=h.e;have h2:=h.t;unfold c26 stE;simp only[Zp,l22 hF hl,Option.bind_some];by_cases g1:mtE m=0
 ·have e0:(bif decide ((256:Int)<s.1.length)then some true else(bif decide ((256:Int)<s.2.1.length)then some true else(bif decide ((256:Int)<s.2.2.1.length)then some true else(bif decide ((256:Int)<s.2.2.2.1.length)then some true else some (decide ((256:Int)<s.2.2.2.2.length))))))=some (decide (J9 s)):=by
   unfold J9;by_cases k1:256<s.1.length
   ·have:(256:Int)<s.1.length:=by omega
    simp[k1,this]
   ·have a1:¬(256:Int)<s.1.length:=by omega
    by_cases k2:256<s.2.1.length
    ·have:(256:Int)<s.2.1.length:=by omega
     simp[k1,a1,k2,this]
    ·have a2:¬(256:Int)<s.2.1.length:=by omega
     by_cases k3:256<s.2.2.1.length
     ·have:(256:Int)<s.2.2.1.length:=by omega
      simp[k1,a1,k2,a2,k3,this]
     ·have a3:¬(256:Int)<s.2.2.1.length:=by omega
      by_cases k4:256<s.2.2.2.1.length
      ·have:(256:Int)<s.2.2.2.1.length:=by omega
       simp[k1,a1,k2,a2,k3,a3,k4,this]
      ·have a4:¬(256:Int)<s.2.2.2.1.length:=by omega
       by_cases k5:256<s.2.2.2.2.length
       ·have:(256:Int)<s.2.2.2.2.length:=by omega
        simp[k1,a1,k2,a2,k3,a3,k4,a4,k5,this]
       ·have a5:¬(256:Int)<s.2.2.2.2.length:=by omega
        simp[k1,a1,k2,a2,k3,a3,k4,a4,k5,a5]
  rw[e0];simp only[g1,decide_true,Bool.not_true,cond_false,if_true,Option.bind_some];by_cases g2:J9 s
  ·simp[g2]
  ·simp only[g2,decide_false,cond_false,if_false,Zeb hF h,Option.bind_some];generalize Qn ((List.range s.1.length).map (W5 s.1))=w1;generalize Qn ((List.range s.2.1.length).map (Wn s))=w2;generalize Qn ((List.range s.2.2.1.length).map (Vc s))=w3;refine Qk5 s.2.2.2.1.length (Jm m s) _ (by omega) ?_ ?_ ?_ ?_
   ·intro i hi;simp(disch:=omega)only[Ze,Zb,Zp,decide_true,Option.bind_some,cond_true,Zgd hF hl h hi]
   ·intro e i he;by_cases hi:(i:Int)<s.2.2.2.1.length<;>simp[hi,he]
   ·simp(disch:=omega)only[Zd,Option.bind_some,cond_false]
   ·refine Qk5 s.2.2.2.2.length (Jz m s) _ (by omega) ?_ ?_ ?_ ?_
    ·intro i hi;simp(disch:=omega)only[Ze,Zb,Zp,decide_true,Option.bind_some,cond_true,Zml hF hl h hi]
    ·intro e i he;by_cases hi:(i:Int)<s.2.2.2.2.length<;>simp[hi,he]
    ·simp(disch:=omega)only[Zd,Option.bind_some,cond_false]
    ·generalize Qn ((List.range s.2.2.2.1.length).map (Jm m s))=w4;generalize Qn ((List.range s.2.2.2.2.length).map (Jz m s))=w5;by_cases k1:w1=0<;>by_cases k2:w2=0<;>by_cases k3:w3=0<;>by_cases k4:w4=0<;>simp[Qn,k1,k2,k3,k4]
 ·simp[g1]
end Go.Proofs.Tryz

/- Plain law: who takes part, clashes, clubs. Plain law: clashes and clubs. And further parts. -/
import Derived.Test.YtpkbmngnolhopaaGreatDoorXT3e
import Derived.Test.YtpkbmngnolhopaaGreatDoorXTeB3
set_option maxRecDepth 100000
set_option linter.unusedVariables false
set_option linter.unusedSimpArgs false
namespace Go.Proofs.Tryz
open Go Go.Sx
theorem Qwp{α β:Type}(p:α→Bool)(f:α→β):∀(l:List α) (out:List β),l.foldl (fun out x=>if p x=true then out++[f x]else out) out=out++(l.filter p).map f
 |[],out=>by simp
 |x::l,out=>by rw[List.foldl_cons,Qwp p f l];cases h:p x<;>simp[h]
theorem Zsu{α β γ:Type}{step:List β×Int→Option ((List β×Int) ⊕ List β)}{F:Nat}{k:List β→Option γ}{r:Option γ}(l:List α)(p:α→Bool)(f:α→β)(hF:l.length<F)
  (hstep:∀(i:Nat) x out,i<l.length→l[i]? =some x→out.length≤i→step (out,(i:Int))=some (.inl (if p x=true then out++[f x]else out,(i:Int)+1)))
  (hend:∀out,out.length≤l.length→step (out,(l.length:Int))=some (.inr out))
  (hk:((l.filter p).map f).length≤l.length→k ((l.filter p).map f)=r):Option.bind (Q2 step F ([],0)) k=r:=by
 refine Wm l (fun out i=>(out,(i:Int))) (fun x out=>.inl (if p x=true then out++[f x]else out)) (fun out=>out) (fun i s=>s.length≤i) [] hF rfl (Nat.le_refl _) ?_ ?_ ?_
 ·intro i x out hi hx ho;refine⟨?_,fun s' hs=>?_⟩
  ·rw[hstep i x out hi hx ho];rfl
  ·simp only[Sum.inl.injEq]at hs;subst hs;cases p x<;>simp<;>omega
 ·intro out ho;exact hend out ho
 ·rw[Qhr (fun out x=>if p x=true then out++[f x]else out),Qwp p f];simp only[List.nil_append];exact hk (by rw[List.length_map];exact List.length_filter_le p l)
def Xs(m:Mt)(s:Qw)(a:ByteArray):Int:=Qn [Z0 m s,if aI s a<0 then 10 else 0]
def X8(s:Qw)(x:ByteArray):ByteArray:=(s.2.1.getD (aI s x).toNat dA).2.1
theorem Ybs{s:Qw}{x:ByteArray}(h:0≤aI s x):∃k:Nat,aI s x=k∧k<s.2.1.length:=by obtain⟨k,y,h1,h2,h3,h4⟩:=Qbz (p:=fun y:Ath=>Qc y.1 x) (l:=s.2.1) h;exact⟨k,h1,h2⟩
theorem Ye0{F:Nat}(hF:400≤F){s:Qw}(h:SmS s){x:ByteArray}(hx:0≤aI s x):Qja F (s,x)=some (X8 s x):=by obtain⟨k,h1,h2⟩:=Ybs hx;have hd:Xn=dA:=rfl;unfold Qja X8;simp only[Zu,Qjv hF h,Option.bind_some,h1,hd];simp(disch:=omega)only[Zv,Int.toNat_natCast]
theorem U1:∀{l:List Int},Qn l=0→∀x∈l,x=0
 |[],_,x,hx=>by cases hx
 |y::l,h,x,hx=>by
  by_cases hy:y=0
  ·rw[show Qn (y::l)=if y=0 then Qn l else y from rfl,if_pos hy]at h;rcases List.mem_cons.1 hx with rfl|hx
   ·exact hy
   ·exact U1 h x hx
  ·rw[show Qn (y::l)=if y=0 then Qn l else y from rfl,if_neg hy]at h;exact absurd h hy
theorem Qoo{m:Mt}{s:Qw}(hv:Z0 m s=0){i:Nat}(hi:i<s.2.2.2.1.length):Jw m s i=0:=by
 have h1:mtE m=0:=by
  by_cases h:mtE m=0
  ·exact h
  ·rw[Z0,if_neg h]at hv;exact absurd hv h
 have h2:¬Jr s:=fun h=>by rw[Z0,if_pos h1,if_pos h]at hv;exact absurd hv (by decide)
 rw[Z0,if_pos h1,if_neg h2]at hv;have h3:=U1 hv _ (List.mem_cons_of_mem _ (List.mem_cons_of_mem _ (List.mem_cons_of_mem _ List.mem_cons_self)));exact U1 h3 _ (List.mem_map.2 ⟨i,List.mem_range.2 hi,rfl⟩)
theorem Qwy{m:Mt}{s:Qw}(hv:Z0 m s=0){x:Qp}(hx:x∈s.2.2.2.1):0≤aI s x.1:=by
 obtain⟨i,hi,e⟩:=List.getElem_of_mem hx;have h:=Qoo hv hi;have e2:s.2.2.2.1.getD i dE=x:=by rw[getD_some (List.getElem?_eq_getElem hi),e]
 unfold Jw at h;rw[e2]at h;by_cases h3:aI s x.1<0
 ·simp[h3]at h
 ·omega
theorem l15{F:Nat}{m:Mt}(hF:m.2.2.2.2.length<F)(hb:m.2.2.2.2.length*128≤140737488355328):c15 F m=some m:=by
 have e:∀y:Cst,y::Qa Cst=[y]:=fun _=>rfl;have hd:Zc=dC:=rfl;unfold c15;refine Wm m.2.2.2.2 (fun out i=>((m.1,m.2.1,m.2.2.1,m.2.2.2.1),out,(i:Int))) (fun x out=>.inl (out++[x])) (fun out=>((m.1,m.2.1,m.2.2.1,m.2.2.2.1),out)) (fun i out=>out.length=i) (Qa Cst) hF rfl rfl ?_ ?_ ?_
 ·intro i x out hi hx ho;have hl2:(out++[x]).length=i+1:=by simp[ho]
  refine⟨?_,fun s' hs=>?_⟩
  ·simp(disch:=omega)only[Zy,Zv,Int.toNat_natCast,getD_some hx,Zo,Zu,e,hl2,ho,decide_true,Bool.and_self,Bool.true_and,Zp,Option.bind_some];rfl
  ·simp only[Sum.inl.injEq]at hs;subst hs;exact hl2
 ·intro out ho;simp(disch:=omega)only[Zq,ho,decide_true,Bool.and_self,Bool.true_and,Zp,Option.bind_some]
 ·rw[Qi6 (fun x:Cst=>x)];simp[Qa,Zp]
theorem l16{F:Nat}{s:Qw}(hF:s.2.2.1.length<F∧s.2.2.2.1.length<F∧s.2.2.2.2.length<F)(hb:s.2.2.1.length*32≤140737488355328∧s.2.2.2.1.length*88≤140737488355328∧s.2.2.2.2.length*56≤140737488355328):c16 F s=some s:=by
 have e1:∀y:Lic,y::Qa Lic=[y]:=fun _=>rfl;have e2:∀y:Qp,y::Qa Qp=[y]:=fun _=>rfl;have e3:∀y:Tm,y::Qa Tm=[y]:=fun _=>rfl;obtain⟨f1,f2,f3⟩:=hF;obtain⟨b1,b2,b3⟩:=hb;unfold c16;refine Wm s.2.2.1 (fun out i=>((s.1,s.2.1),out,(i:Int))) (fun x out=>.inl (out++[x])) (fun out=>((s.1,s.2.1),out)) (fun i out=>out.length=i) (Qa Lic) f1 rfl rfl ?_ ?_ ?_
 ·intro i x out hi hx ho;have hl2:(out++[x]).length=i+1:=by simp[ho]
  refine⟨?_,fun s' hs=>?_⟩
  ·simp(disch:=omega)only[Zy,Zv,Int.toNat_natCast,getD_some hx,Zo,Zu,e1,hl2,ho,decide_true,Bool.and_self,Bool.true_and,Zp,Option.bind_some];rfl
  ·simp only[Sum.inl.injEq]at hs;subst hs;exact hl2
 ·intro out ho;simp(disch:=omega)only[Zq,ho,decide_true,Bool.and_self,Bool.true_and,Zp,Option.bind_some]
 ·rw[Qi6 (fun x:Lic=>x)];rw[show Qa Lic++List.map (fun x:Lic=>x) s.2.2.1=s.2.2.1 by simp[Qa]];simp only[decide_true,Bool.and_self,Bool.true_and,Zp,Option.bind_some];refine Wm s.2.2.2.1 (fun out i=>((s.1,s.2.1),s.2.2.1,out,(i:Int))) (fun x out=>.inl (out++[x])) (fun out=>((s.1,s.2.1),s.2.2.1,out)) (fun i out=>out.length=i) (Qa Qp) f2 rfl rfl ?_ ?_ ?_
  ·intro i x out hi hx ho;have hl2:(out++[x]).length=i+1:=by simp[ho]
   refine⟨?_,fun s' hs=>?_⟩
   ·simp(disch:=omega)only[Zy,Zv,Int.toNat_natCast,getD_some hx,Zo,Zu,e2,hl2,ho,decide_true,Bool.and_self,Bool.true_and,Zp,Option.bind_some];rfl
   ·simp only[Sum.inl.injEq]at hs;subst hs;exact hl2
  ·intro out ho;simp(disch:=omega)only[Zq,ho,decide_true,Bool.and_self,Bool.true_and,Zp,Option.bind_some]
  ·rw[Qi6 (fun x:Qp=>x)];rw[show Qa Qp++List.map (fun x:Qp=>x) s.2.2.2.1=s.2.2.2.1 by simp[Qa]];simp only[decide_true,Bool.and_self,Bool.true_and,Zp,Option.bind_some];refine Wm s.2.2.2.2 (fun out i=>((s.1,s.2.1),s.2.2.1,s.2.2.2.1,out,(i:Int))) (fun x out=>.inl (out++[x])) (fun out=>((s.1,s.2.1),s.2.2.1,s.2.2.2.1,out)) (fun i out=>out.length=i) (Qa Tm) f3 rfl rfl ?_ ?_ ?_
   ·intro i x out hi hx ho;have hl2:(out++[x]).length=i+1:=by simp[ho]
    refine⟨?_,fun s' hs=>?_⟩
    ·simp(disch:=omega)only[Zy,Zv,Int.toNat_natCast,getD_some hx,Zo,Zu,e3,hl2,ho,decide_true,Bool.and_self,Bool.true_and,Zp,Option.bind_some];rfl
    ·simp only[Sum.inl.injEq]at hs;subst hs;exact hl2
   ·intro out ho;simp(disch:=omega)only[Zq,ho,decide_true,Bool.and_self,Bool.true_and,Zp,Option.bind_some]
   ·rw[Qi6 (fun x:Tm=>x)];simp[Qa,Zp]
theorem l78(F:Nat)(n k m:Int)(hm:0≤m∧m≤1000):c78 F (n,k,m)=some (decide (n≤k∨(m<n∧n≤m+3))):=by
 unfold c78;simp(disch:=omega)only[Zo];by_cases h1:n≤k
 ·simp[h1]
 ·by_cases h2:m<n<;>simp[h1,h2]
theorem l79(F:Nat)(k:ByteArray)(v:Int)(r:ByteArray):c79 F (k,v,r)=some (decide (k.size≤40∧r.size≤40)):=by
 unfold c79;by_cases h1:k.size≤40
 ·have h1':(k.size:Int)≤40:=by omega
  by_cases h2:r.size≤40
  ·have h2':(r.size:Int)≤40:=by omega
   simp[h1,h2,h1',h2']
  ·have h2':¬(r.size:Int)≤40:=by omega
   simp[h1,h2,h1',h2']
 ·have h1':¬(k.size:Int)≤40:=by omega
  simp[h1,h1']
def CsS(x:Cst):Prop:=x.1.size≤60∧x.2.1.size≤60∧x.2.2.1.size≤60∧x.2.2.2.2.2.2.2.1.size≤40∧x.2.2.2.2.2.2.2.2.2.1.size≤40
structure MtS (m:Mt):Prop where
 n:m.2.2.2.2.length≤35
 n2:m.2.2.2.2.length≤5∨32<m.2.2.2.2.length
 c:∀x∈m.2.2.2.2,CsS x
theorem l17{F:Nat}{m:Mt}(hF:m.2.2.2.2.length<F)(hb:m.2.2.2.2.length*128≤140737488355328):∃b,c17 F m=some b∧(b=true→MtS m):=by
 unfold c17;rw[l78 F _ _ _ (by omega)];by_cases h0:(m.2.2.2.2.length:Int)≤5∨(32:Int)<m.2.2.2.2.length∧(m.2.2.2.2.length:Int)≤32+3
 ·simp only[h0,decide_true,Bool.not_true,cond_false,Option.bind_some];refine Qcq m.2.2.2.2 CsS (fun b:Bool ⊕ Unit=>b=.inl false∨(b=.inr ()∧∀x∈m.2.2.2.2,CsS x)) hF ?_ ?_ ?_
  ·intro i x hi hx;simp(disch:=omega)only[Zy,Zv,Int.toNat_natCast,getD_some hx,Zo,l79];by_cases h1:(60:Int)<x.1.size
   ·exact⟨_,by simp only[h1,decide_true,cond_true,Option.bind_some],.inr ⟨_,rfl,.inl rfl⟩⟩
   ·by_cases h2:(60:Int)<x.2.1.size
    ·exact⟨_,by simp only[h1,h2,decide_true,decide_false,cond_true,cond_false,Option.bind_some],.inr ⟨_,rfl,.inl rfl⟩⟩
    ·by_cases h3:(60:Int)<x.2.2.1.size
     ·exact⟨_,by simp only[h1,h2,h3,decide_true,decide_false,cond_true,cond_false,Option.bind_some],.inr ⟨_,rfl,.inl rfl⟩⟩
     ·by_cases h4:x.2.2.2.2.2.2.2.1.size≤40∧x.2.2.2.2.2.2.2.2.2.1.size≤40
      ·exact⟨_,by simp only[h1,h2,h3,h4,and_self,decide_true,decide_false,Bool.not_true,cond_true,cond_false,Option.bind_some],.inl ⟨rfl,by omega,by omega,by omega,h4.1,h4.2⟩⟩
      ·exact⟨_,by simp only[h1,h2,h3,h4,decide_true,decide_false,Bool.not_false,cond_true,cond_false,Option.bind_some],.inr ⟨_,rfl,.inl rfl⟩⟩
  ·intro h;exact⟨_,by simp(disch:=omega)only[Zq],.inr ⟨rfl,h⟩⟩
  ·rintro b (rfl|⟨rfl,h⟩)
   ·exact⟨false,rfl,fun h=>by cases h⟩
   ·exact⟨true,rfl,fun _=>⟨by omega,by omega,h⟩⟩
 ·simp only[h0,decide_false,Bool.not_false,cond_true,Option.bind_some];exact⟨false,rfl,fun h=>by cases h⟩
def EnS(x:Qp):Prop:=x.1.size≤60∧x.2.1.size≤60∧x.2.2.1.size≤40∧x.2.2.2.2.1.size≤40
def TmS(x:Tm):Prop:=x.1.size≤60∧x.2.1.size≤60∧x.2.2.length≤10∧∀y∈x.2.2,y.size≤60
def AtS(x:Ath):Prop:=x.1.size≤60∧x.2.1.size≤60∧x.2.2.2.size≤60
structure ShS (s:Qw):Prop where
 c:s.1.length≤6∨256<s.1.length∧s.1.length≤259
 a:s.2.1.length≤8∨256<s.2.1.length∧s.2.1.length≤259
 l:s.2.2.1.length≤12∨256<s.2.2.1.length∧s.2.2.1.length≤259
 e:s.2.2.2.1.length≤20∨256<s.2.2.2.1.length∧s.2.2.2.1.length≤259
 t:s.2.2.2.2.length≤6∨256<s.2.2.2.2.length∧s.2.2.2.2.length≤259
 cs:∀x∈s.1,x.size≤60
 ats:∀x∈s.2.1,AtS x
 ls:∀x∈s.2.2.1,x.1.size≤60
 es:∀x∈s.2.2.2.1,EnS x
 ts:∀x∈s.2.2.2.2,TmS x
theorem ShS.sm{s:Qw}(h:ShS s):SmS s:=by
 obtain⟨h1,h2,h3,h4,h5,h6,h7,h8,h9,h10⟩:=h;refine⟨by omega,by omega,by omega,by omega,by omega,fun x hx=>?_,fun x hx=>?_,fun x hx=>?_⟩
 ·have:=h6 x hx;omega
 ·have:=h7 x hx;unfold AtS at this;omega
 ·have:=(h10 x hx).2.2.1;omega
structure Qno (F:Nat) (s:Qw):Prop where
 c:s.1.length<F
 a:s.2.1.length<F
 l:s.2.2.1.length<F
 e:s.2.2.2.1.length<F
 t:s.2.2.2.2.length<F
 r:∀x∈s.2.2.2.2,x.2.2.length<F
structure ByS (s:Qw):Prop where
 c:s.1.length*16≤140737488355328
 a:s.2.1.length*56≤140737488355328
 l:s.2.2.1.length*32≤140737488355328
 e:s.2.2.2.1.length*88≤140737488355328
 t:s.2.2.2.2.length*56≤140737488355328
 r:∀x∈s.2.2.2.2,x.2.2.length*16≤140737488355328
theorem l80{F:Nat}{l:List Tm}(hF:l.length<F)(hr:∀x∈l,x.2.2.length<F)(hb:l.length*56≤140737488355328)(hrb:∀x∈l,x.2.2.length*16≤140737488355328):∃b,c80 F l=some b∧(b=true→∀x∈l,TmS x):=by
 unfold c80;refine Qcq l TmS (fun b:Bool ⊕ Unit=>b=.inl false∨(b=.inr ()∧∀x∈l,TmS x)) hF ?_ ?_ ?_
 ·intro i x hi hx;have hx1:=hr _ (List.mem_of_getElem? hx);have hx2:=hrb _ (List.mem_of_getElem? hx);simp(disch:=omega)only[Zy,Zv,Int.toNat_natCast,getD_some hx,Zo];by_cases h1:(60:Int)<x.1.size
  ·exact⟨_,by simp only[h1,decide_true,cond_true,Option.bind_some],.inr ⟨_,rfl,.inl rfl⟩⟩
  ·by_cases h2:(60:Int)<x.2.1.size
   ·exact⟨_,by simp only[h1,h2,decide_true,decide_false,cond_true,cond_false,Option.bind_some],.inr ⟨_,rfl,.inl rfl⟩⟩
   ·by_cases h3:(10:Int)<x.2.2.length
    ·exact⟨_,by simp only[h1,h2,h3,decide_true,decide_false,cond_true,cond_false,Option.bind_some],.inr ⟨_,rfl,.inl rfl⟩⟩
    ·simp only[h1,h2,h3,decide_false,cond_false,Option.bind_some];refine Qcq x.2.2 (fun y=>y.size≤60) (fun b:Bool ⊕ Unit=>b=.inl false∨(b=.inr ()∧∀y∈x.2.2,y.size≤60)) hx1 ?_ ?_ ?_
     ·intro j y hj hy;simp(disch:=omega)only[Zy,Zv,Int.toNat_natCast,getD_some hy,Zo];by_cases h4:(60:Int)<y.size
      ·exact⟨_,by simp only[h4,decide_true,cond_true],.inr ⟨_,rfl,.inl rfl⟩⟩
      ·exact⟨_,by simp only[h4,decide_false,cond_false],.inl ⟨rfl,by omega⟩⟩
     ·intro h;exact⟨_,by simp(disch:=omega)only[Zq],.inr ⟨rfl,h⟩⟩
     ·rintro b (rfl|⟨rfl,h⟩)
      ·exact⟨_,rfl,.inr ⟨_,rfl,.inl rfl⟩⟩
      ·exact⟨_,rfl,.inl ⟨rfl,by omega,by omega,by omega,h⟩⟩
 ·intro h;exact⟨_,by simp(disch:=omega)only[Zq],.inr ⟨rfl,h⟩⟩
 ·rintro b (rfl|⟨rfl,h⟩)
  ·exact⟨false,rfl,fun h=>by cases h⟩
  ·exact⟨true,rfl,fun _=>h⟩
theorem l18{F:Nat}{s:Qw}(f:Qno F s)(hb:ByS s):∃b,c18 F s=some b∧(b=true→ShS s):=by
 obtain⟨f1,f2,f3,f4,f5,f6⟩:=f;obtain⟨b1,b2,b3,b4,b5,b6⟩:=hb;obtain⟨tb,ht,ht2⟩:=l80 f5 f6 b5 b6;unfold c18;simp only[l78 F _ _ _ (show(0:Int)≤256∧(256:Int)≤1000 by omega),ht,Option.bind_some];have no:∃b,(some false:Option Bool)=some b∧(b=true→ShS s):=⟨false,rfl,fun h=>by cases h⟩;by_cases h1:(s.1.length:Int)≤6∨(256:Int)<s.1.length∧(s.1.length:Int)≤256+3
 case neg=>simp only[h1,decide_false,Bool.not_false,cond_true,Option.bind_some];exact no
 by_cases h2:(s.2.1.length:Int)≤8∨(256:Int)<s.2.1.length∧(s.2.1.length:Int)≤256+3
 case neg=>simp only[h1,h2,decide_true,decide_false,Bool.not_false,Bool.not_true,cond_true,cond_false,Option.bind_some];exact no
 by_cases h3:(s.2.2.1.length:Int)≤12∨(256:Int)<s.2.2.1.length∧(s.2.2.1.length:Int)≤256+3
 case neg=>simp only[h1,h2,h3,decide_true,decide_false,Bool.not_false,Bool.not_true,cond_true,cond_false,Option.bind_some];exact no
 by_cases h4:(s.2.2.2.1.length:Int)≤20∨(256:Int)<s.2.2.2.1.length∧(s.2.2.2.1.length:Int)≤256+3
 case neg=>simp only[h1,h2,h3,h4,decide_true,decide_false,Bool.not_false,Bool.not_true,cond_true,cond_false,Option.bind_some];exact no
 by_cases h5:(s.2.2.2.2.length:Int)≤6∨(256:Int)<s.2.2.2.2.length∧(s.2.2.2.2.length:Int)≤256+3
 case neg=>simp only[h1,h2,h3,h4,h5,decide_true,decide_false,Bool.not_false,Bool.not_true,cond_true,cond_false,Option.bind_some];exact no
 cases tb with
 |false=>simp only[h1,h2,h3,h4,h5,decide_true,Bool.not_false,Bool.not_true,cond_true,cond_false,Option.bind_some];exact no
 |true=>
  have ht2:=ht2 rfl;simp only[h1,h2,h3,h4,h5,decide_true,Bool.not_true,cond_false,Option.bind_some];refine Qcq s.1 (fun y=>y.size≤60) (fun b:Bool ⊕ Unit=>b=.inl false∨(b=.inr ()∧∀y∈s.1,y.size≤60)) f1 ?_ ?_ ?_
  ·intro j y hj hy;simp(disch:=omega)only[Zy,Zv,Int.toNat_natCast,getD_some hy,Zo];by_cases h4:(60:Int)<y.size
   ·exact⟨_,by simp only[h4,decide_true,cond_true],.inr ⟨_,rfl,.inl rfl⟩⟩
   ·exact⟨_,by simp only[h4,decide_false,cond_false],.inl ⟨rfl,by omega⟩⟩
  ·intro h;exact⟨_,by simp(disch:=omega)only[Zq],.inr ⟨rfl,h⟩⟩
  rintro b (rfl|⟨rfl,hc⟩)
  ·exact no
  simp only[Sum.elim_inr];refine Qcq s.2.1 AtS (fun b:Bool ⊕ Unit=>b=.inl false∨(b=.inr ()∧∀y∈s.2.1,AtS y)) f2 ?_ ?_ ?_
  ·intro j y hj hy;simp(disch:=omega)only[Zy,Zv,Int.toNat_natCast,getD_some hy,Zo];by_cases q1:(60:Int)<y.1.size
   ·exact⟨_,by simp only[q1,decide_true,cond_true,Option.bind_some],.inr ⟨_,rfl,.inl rfl⟩⟩
   ·by_cases q2:(60:Int)<y.2.1.size
    ·exact⟨_,by simp only[q1,q2,decide_true,decide_false,cond_true,cond_false,Option.bind_some],.inr ⟨_,rfl,.inl rfl⟩⟩
    ·by_cases q3:(60:Int)<y.2.2.2.size
     ·exact⟨_,by simp only[q1,q2,q3,decide_true,decide_false,cond_true,cond_false,Option.bind_some],.inr ⟨_,rfl,.inl rfl⟩⟩
     ·exact⟨_,by simp only[q1,q2,q3,decide_true,decide_false,cond_true,cond_false,Option.bind_some],.inl ⟨rfl,by omega,by omega,by omega⟩⟩
  ·intro h;exact⟨_,by simp(disch:=omega)only[Zq],.inr ⟨rfl,h⟩⟩
  rintro b (rfl|⟨rfl,ha⟩)
  ·exact no
  simp only[Sum.elim_inr];refine Qcq s.2.2.1 (fun y=>y.1.size≤60) (fun b:Bool ⊕ Unit=>b=.inl false∨(b=.inr ()∧∀y∈s.2.2.1,y.1.size≤60)) f3 ?_ ?_ ?_
  ·intro j y hj hy;simp(disch:=omega)only[Zy,Zv,Int.toNat_natCast,getD_some hy,Zo];by_cases h4:(60:Int)<y.1.size
   ·exact⟨_,by simp only[h4,decide_true,cond_true],.inr ⟨_,rfl,.inl rfl⟩⟩
   ·exact⟨_,by simp only[h4,decide_false,cond_false],.inl ⟨rfl,by omega⟩⟩
  ·intro h;exact⟨_,by simp(disch:=omega)only[Zq],.inr ⟨rfl,h⟩⟩
  rintro b (rfl|⟨rfl,hl⟩)
  ·exact no
  simp only[Sum.elim_inr];refine Qcq s.2.2.2.1 EnS (fun b:Bool ⊕ Unit=>b=.inl false∨(b=.inr ()∧∀y∈s.2.2.2.1,EnS y)) f4 ?_ ?_ ?_
  ·intro j y hj hy;simp(disch:=omega)only[Zy,Zv,Int.toNat_natCast,getD_some hy,Zo,l79];by_cases q1:(60:Int)<y.1.size
   ·exact⟨_,by simp only[q1,decide_true,cond_true,Option.bind_some],.inr ⟨_,rfl,.inl rfl⟩⟩
   ·by_cases q2:(60:Int)<y.2.1.size
    ·exact⟨_,by simp only[q1,q2,decide_true,decide_false,cond_true,cond_false,Option.bind_some],.inr ⟨_,rfl,.inl rfl⟩⟩
    ·by_cases q3:y.2.2.1.size≤40∧y.2.2.2.2.1.size≤40
     ·exact⟨_,by simp only[q1,q2,q3,and_self,decide_true,decide_false,Bool.not_true,cond_true,cond_false,Option.bind_some],.inl ⟨rfl,by omega,by omega,q3.1,q3.2⟩⟩
     ·exact⟨_,by simp only[q1,q2,q3,decide_true,decide_false,Bool.not_false,cond_true,cond_false,Option.bind_some],.inr ⟨_,rfl,.inl rfl⟩⟩
  ·intro h;exact⟨_,by simp(disch:=omega)only[Zq],.inr ⟨rfl,h⟩⟩
  rintro b (rfl|⟨rfl,he⟩)
  ·exact no
  ·exact⟨true,rfl,fun _=>⟨by omega,by omega,by omega,by omega,by omega,hc,ha,hl,he,ht2⟩⟩
theorem l44{F:Nat}{l:List ByteArray}(hF:l.length<F)(hl:l.length≤100000):c44 F (l,l)=some true:=by
 unfold c44;simp only[decide_true,Bool.not_true,cond_false];refine Wm l (fun(_:Unit) i=>(i:Int)) (fun _ _=>(.inl ():Unit ⊕ (Bool ⊕ Unit))) (fun _=>.inr ()) (fun _ _=>True) () hF rfl trivial ?_ ?_ ?_
 ·intro i x _ hi hx _;refine⟨?_,fun _ _=>trivial⟩;simp(disch:=omega)only[Zy,Zv,Int.toNat_natCast,getD_some hx,Zo,Jm,Bool.not_true,cond_false];rfl
 ·intro _ _;simp(disch:=omega)only[Zq]
 ·rw[Qg6];rfl
end Go.Proofs.Tryz

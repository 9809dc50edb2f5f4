/- Plain law: clashes and clubs. Plain law: copies of meetings and states, small ones, sameness of lists. -/
import Derived.Test.YtpkbmngnolhopaaGreatDoorXTeB3
set_option maxRecDepth 100000
set_option linter.unusedVariables false
set_option linter.unusedSimpArgs false
namespace Go.Proofs.Tryz
open Go Go.Sx
def Zp(s:Qy)(x:ByteArray):ByteArray:=(s.2.1.getD (aI s x).toNat dA).2.1
theorem Qz6{s:Qy}{x:ByteArray}(h:0≤aI s x):∃k:Nat,aI s x=k∧k<s.2.1.length:=by obtain⟨k,y,h1,h2,h3,h4⟩:=Qaj (p:=fun y:Ath=>Qe y.1 x) (l:=s.2.1) h;exact⟨k,h1,h2⟩
theorem Qt6{F:Nat}(hF:400≤F){s:Qy}(h:SmS s){x:ByteArray}(hx:0≤aI s x):Qg2 F (s,x)=some (Zp s x):=by obtain⟨k,h1,h2⟩:=Qz6 hx;have hd:Xf=dA:=rfl;unfold Qg2 Zp;simp only[Zo,Qfv hF h,Option.bind_some,h1,hd];simp(disch:=omega)only[Zi,Int.toNat_natCast]
theorem V4:∀{l:List Int},Qo l=0→∀x∈l,x=0
 |[],_,x,hx=>by cases hx
 |y::l,h,x,hx=>by
  by_cases hy:y=0
  ·rw[show Qo (y::l)=if y=0 then Qo l else y from rfl,if_pos hy]at h;rcases List.mem_cons.1 hx with rfl|hx
   ·exact hy
   ·exact V4 h x hx
  ·rw[show Qo (y::l)=if y=0 then Qo l else y from rfl,if_neg hy]at h;exact absurd h hy
theorem Qzb{m:Mt}{s:Qy}(hv:stE m s=0){i:Nat}(hi:i<s.2.2.2.1.length):Jt m s i=0:=by
 have h1:mtE m=0:=by
  by_cases h:mtE m=0
  ·exact h
  ·rw[stE,if_neg h]at hv;exact absurd hv h
 have h2:¬Jk s:=fun h=>by rw[stE,if_pos h1,if_pos h]at hv;exact absurd hv (by decide)
 rw[stE,if_pos h1,if_neg h2]at hv;have h3:=V4 hv _ (List.mem_cons_of_mem _ (List.mem_cons_of_mem _ (List.mem_cons_of_mem _ List.mem_cons_self)));exact V4 h3 _ (List.mem_map.2 ⟨i,List.mem_range.2 hi,rfl⟩)
theorem Qpg{m:Mt}{s:Qy}(hv:stE m s=0){x:Qm}(hx:x∈s.2.2.2.1):0≤aI s x.1:=by
 obtain⟨i,hi,e⟩:=List.getElem_of_mem hx;have h:=Qzb hv hi;have e2:s.2.2.2.1.getD i dE=x:=by rw[getD_some (List.getElem?_eq_getElem hi),e]
 unfold Jt at h;rw[e2]at h;by_cases h3:aI s x.1<0
 ·simp[h3]at h
 ·omega
def Qoc(l:List ByteArray):List (ByteArray×Int):=l.foldl (fun m b=>Yy Qe b (Zz Qe b m 0+1) m) []
theorem Qtk(k:ByteArray):∀(l:List ByteArray) (m:List (ByteArray×Int)),Zz Qe k (l.foldl (fun m b=>Yy Qe b (Zz Qe b m 0+1) m) m) 0=Zz Qe k m 0+((l.filter fun b=>Qe b k).length:Int)
 |[],m=>by simp
 |b::l,m=>by
  rw[List.foldl_cons,Qtk k l,Qjl Qle];by_cases h:b=k
  ·subst h;simp[X2];omega
  ·simp[Qe2 h,Qe2 (fun e:k=b=>h e.symm)]
theorem Zql(l:List ByteArray)(k:ByteArray):Zz Qe k (Qoc l) 0=((l.filter fun b=>Qe b k).length:Int):=by unfold Qoc;rw[Qtk];simp[Qmf]
def Kk(s:Qy):List Int:=s.1.map fun c=>((s.2.2.2.1.filter fun e=>Qe (Zp s e.1) c).length:Int)
theorem foldl_map'{α β γ:Type}(f:α→β)(g:γ→β→γ)(l:List α)(z:γ):l.foldl (fun z x=>g z (f x)) z=(l.map f).foldl g z:=by rw[List.foldl_map]
theorem Qsk(s:Qy)(c:ByteArray):((s.2.2.2.1.map fun e=>Zp s e.1).filter fun b=>Qe b c).length=(s.2.2.2.1.filter fun e=>Qe (Zp s e.1) c).length:=by rw[List.filter_map,List.length_map];rfl
theorem l38{F:Nat}(hF:400≤F){m:Mt}(hm:m.2.2.2.2.length≤300)(hb:∀x∈m.2.2.2.2,x.1.size≤300∧x.2.2.1.size≤300){s:Qy}(h:SmS s):
  c38 F (m,s)=some (if stE m s=0 then(Kk s,0)else([],stE m s)):=by
 have e:∀y:Int,y::Qb Int=[y]:=fun _=>rfl;have h1:=h.e;have h2:=h.c;unfold c38;simp only[Zo,l25 hF hm hb h,Option.bind_some];by_cases hv:stE m s=0
 ·simp only[hv,decide_true,Bool.not_true,cond_false,if_true];refine Jn s.2.2.2.1 (fun q i=>(q,(i:Int))) (fun x q=>.inl (Yy Qe (Zp s x.1) (Zz Qe (Zp s x.1) q 0+1) q)) (fun q=>q) (fun i q=>∀k,0≤Zz Qe k q 0∧Zz Qe k q 0≤i) [] (by omega) rfl (fun k=>by simp[Qmf]) ?_ ?_ ?_
  ·intro i x q hi hx hq;have hk:=Qpg hv (List.mem_of_getElem? hx);have hq2:=hq (Zp s x.1);refine⟨?_,fun s' hs=>?_⟩
   ·simp(disch:=omega)only[Zk,Zi,Int.toNat_natCast,getD_some hx,Zh,Zo,Qt6 hF h hk,Option.bind_some];rfl
   ·simp only[Sum.inl.injEq]at hs;subst hs;intro k;rw[Qjl Qle];have:=hq k;split<;>omega
  ·intro q _;simp(disch:=omega)only[Zf]
  ·rw[Qb8 (fun q (x:Qm)=>Yy Qe (Zp s x.1) (Zz Qe (Zp s x.1) q 0+1) q),foldl_map' (fun x:Qm=>Zp s x.1) (fun q b=>Yy Qe b (Zz Qe b q 0+1) q)];rw[show List.foldl (fun q b=>Yy Qe b (Zz Qe b q 0+1) q) [] (s.2.2.2.1.map fun x:Qm=>Zp s x.1)=Qoc (s.2.2.2.1.map fun x:Qm=>Zp s x.1)from rfl];refine Jn s.1 (fun out i=>(out,(i:Int))) (fun c out=>.inl (out++[((s.2.2.2.1.filter fun e=>Qe (Zp s e.1) c).length:Int)])) (fun out=>out) (fun i out=>out.length=i) [] (by omega) rfl rfl ?_ ?_ ?_
   ·intro i x out hi hx ho;have hl2:(out++[((s.2.2.2.1.filter fun e=>Qe (Zp s e.1) x).length:Int)]).length≤301:=by simp;omega
    refine⟨?_,fun s' hs=>?_⟩
    ·simp(disch:=omega)only[Zk,Zi,Int.toNat_natCast,getD_some hx,Zh,e,Zql,Qsk,decide_true,Bool.and_self,Z2,Option.bind_some];rfl
    ·simp only[Sum.inl.injEq]at hs;subst hs;simp[ho]
   ·intro out ho;simp(disch:=omega)only[Zf,decide_true,Bool.and_self,Z2,Option.bind_some]
   ·rw[Qcw (fun c=>((s.2.2.2.1.filter fun e=>Qe (Zp s e.1) c).length:Int)) (fun out=>out)];simp only[List.nil_append,decide_true,Bool.and_self,Z2,List.drop_zero,List.take_length,Nat.zero_add,Nat.le_refl];rfl
 ·simp only[hv,decide_false,Bool.not_false,cond_true,if_false];rfl
theorem l15{F:Nat}{m:Mt}(hF:m.2.2.2.2.length<F)(hb:m.2.2.2.2.length*128≤140737488355328):c15 F m=some m:=by
 have e:∀y:Cst,y::Qb Cst=[y]:=fun _=>rfl;have hd:Q2=dC:=rfl;unfold c15;refine Jn m.2.2.2.2 (fun out i=>((m.1,m.2.1,m.2.2.1,m.2.2.2.1),out,(i:Int))) (fun x out=>.inl (out++[x])) (fun out=>((m.1,m.2.1,m.2.2.1,m.2.2.2.1),out)) (fun i out=>out.length=i) (Qb Cst) hF rfl rfl ?_ ?_ ?_
 ·intro i x out hi hx ho;have hl2:(out++[x]).length=i+1:=by simp[ho]
  refine⟨?_,fun s' hs=>?_⟩
  ·simp(disch:=omega)only[Zk,Zi,Int.toNat_natCast,getD_some hx,Zh,Zo,e,hl2,ho,decide_true,Bool.and_self,Bool.true_and,Z2,Option.bind_some];rfl
  ·simp only[Sum.inl.injEq]at hs;subst hs;exact hl2
 ·intro out ho;simp(disch:=omega)only[Zf,ho,decide_true,Bool.and_self,Bool.true_and,Z2,Option.bind_some]
 ·rw[Qcw (fun x:Cst=>x)];simp[Qb,Z2]
theorem l16{F:Nat}{s:Qy}(hF:s.2.2.1.length<F∧s.2.2.2.1.length<F∧s.2.2.2.2.length<F)(hb:s.2.2.1.length*32≤140737488355328∧s.2.2.2.1.length*88≤140737488355328∧s.2.2.2.2.length*56≤140737488355328):c16 F s=some s:=by
 have e1:∀y:Lic,y::Qb Lic=[y]:=fun _=>rfl;have e2:∀y:Qm,y::Qb Qm=[y]:=fun _=>rfl;have e3:∀y:Tm,y::Qb Tm=[y]:=fun _=>rfl;obtain⟨f1,f2,f3⟩:=hF;obtain⟨b1,b2,b3⟩:=hb;unfold c16;refine Jn s.2.2.1 (fun out i=>((s.1,s.2.1),out,(i:Int))) (fun x out=>.inl (out++[x])) (fun out=>((s.1,s.2.1),out)) (fun i out=>out.length=i) (Qb Lic) f1 rfl rfl ?_ ?_ ?_
 ·intro i x out hi hx ho;have hl2:(out++[x]).length=i+1:=by simp[ho]
  refine⟨?_,fun s' hs=>?_⟩
  ·simp(disch:=omega)only[Zk,Zi,Int.toNat_natCast,getD_some hx,Zh,Zo,e1,hl2,ho,decide_true,Bool.and_self,Bool.true_and,Z2,Option.bind_some];rfl
  ·simp only[Sum.inl.injEq]at hs;subst hs;exact hl2
 ·intro out ho;simp(disch:=omega)only[Zf,ho,decide_true,Bool.and_self,Bool.true_and,Z2,Option.bind_some]
 ·rw[Qcw (fun x:Lic=>x)];rw[show Qb Lic++List.map (fun x:Lic=>x) s.2.2.1=s.2.2.1 by simp[Qb]];simp only[decide_true,Bool.and_self,Bool.true_and,Z2,Option.bind_some];refine Jn s.2.2.2.1 (fun out i=>((s.1,s.2.1),s.2.2.1,out,(i:Int))) (fun x out=>.inl (out++[x])) (fun out=>((s.1,s.2.1),s.2.2.1,out)) (fun i out=>out.length=i) (Qb Qm) f2 rfl rfl ?_ ?_ ?_
  ·intro i x out hi hx ho;have hl2:(out++[x]).length=i+1:=by simp[ho]
   refine⟨?_,fun s' hs=>?_⟩
   ·simp(disch:=omega)only[Zk,Zi,Int.toNat_natCast,getD_some hx,Zh,Zo,e2,hl2,ho,decide_true,Bool.and_self,Bool.true_and,Z2,Option.bind_some];rfl
   ·simp only[Sum.inl.injEq]at hs;subst hs;exact hl2
  ·intro out ho;simp(disch:=omega)only[Zf,ho,decide_true,Bool.and_self,Bool.true_and,Z2,Option.bind_some]
  ·rw[Qcw (fun x:Qm=>x)];rw[show Qb Qm++List.map (fun x:Qm=>x) s.2.2.2.1=s.2.2.2.1 by simp[Qb]];simp only[decide_true,Bool.and_self,Bool.true_and,Z2,Option.bind_some];refine Jn s.2.2.2.2 (fun out i=>((s.1,s.2.1),s.2.2.1,s.2.2.2.1,out,(i:Int))) (fun x out=>.inl (out++[x])) (fun out=>((s.1,s.2.1),s.2.2.1,s.2.2.2.1,out)) (fun i out=>out.length=i) (Qb Tm) f3 rfl rfl ?_ ?_ ?_
   ·intro i x out hi hx ho;have hl2:(out++[x]).length=i+1:=by simp[ho]
    refine⟨?_,fun s' hs=>?_⟩
    ·simp(disch:=omega)only[Zk,Zi,Int.toNat_natCast,getD_some hx,Zh,Zo,e3,hl2,ho,decide_true,Bool.and_self,Bool.true_and,Z2,Option.bind_some];rfl
    ·simp only[Sum.inl.injEq]at hs;subst hs;exact hl2
   ·intro out ho;simp(disch:=omega)only[Zf,ho,decide_true,Bool.and_self,Bool.true_and,Z2,Option.bind_some]
   ·rw[Qcw (fun x:Tm=>x)];simp[Qb,Z2]
theorem l78(F:Nat)(n k m:Int)(hm:0≤m∧m≤1000):c78 F (n,k,m)=some (decide (n≤k∨(m<n∧n≤m+3))):=by
 unfold c78;simp(disch:=omega)only[Zh];by_cases h1:n≤k
 ·simp[h1]
 ·by_cases h2:m<n<;>simp[h1,h2]
theorem l79(F:Nat)(k:ByteArray)(v:Int)(r:ByteArray):c79 F (k,v,r)=some (decide (k.size≤40∧r.size≤40)):=by
 unfold c79;by_cases h1:k.size≤40
 ·have h1':(k.size:Int)≤40:=by omega
  by_cases h2:r.size≤40
  ·have h2':(r.size:Int)≤40:=by omega
   simp[h1,h2,h1',h2']
  ·have h2':¬(r.size:Int)≤40:=by omega
   simp[h1,h2,h1',h2']
 ·have h1':¬(k.size:Int)≤40:=by omega
  simp[h1,h1']
def CsS(x:Cst):Prop:=x.1.size≤60∧x.2.1.size≤60∧x.2.2.1.size≤60∧x.2.2.2.2.2.2.2.1.size≤40∧x.2.2.2.2.2.2.2.2.2.1.size≤40
structure MtS (m:Mt):Prop where
 n:m.2.2.2.2.length≤35
 n2:m.2.2.2.2.length≤5∨32<m.2.2.2.2.length
 c:∀x∈m.2.2.2.2,CsS x
theorem l17{F:Nat}{m:Mt}(hF:m.2.2.2.2.length<F)(hb:m.2.2.2.2.length*128≤140737488355328):∃b,c17 F m=some b∧(b=true→MtS m):=by
 unfold c17;rw[l78 F _ _ _ (by omega)];by_cases h0:(m.2.2.2.2.length:Int)≤5∨(32:Int)<m.2.2.2.2.length∧(m.2.2.2.2.length:Int)≤32+3
 ·simp only[h0,decide_true,Bool.not_true,cond_false,Option.bind_some];refine Qbn m.2.2.2.2 CsS (fun b:Bool ⊕ Unit=>b=.inl false∨(b=.inr ()∧∀x∈m.2.2.2.2,CsS x)) hF ?_ ?_ ?_
  ·intro i x hi hx;simp(disch:=omega)only[Zk,Zi,Int.toNat_natCast,getD_some hx,Zh,l79];by_cases h1:(60:Int)<x.1.size
   ·exact⟨_,by simp only[h1,decide_true,cond_true,Option.bind_some],.inr ⟨_,rfl,.inl rfl⟩⟩
   ·by_cases h2:(60:Int)<x.2.1.size
    ·exact⟨_,by simp only[h1,h2,decide_true,decide_false,cond_true,cond_false,Option.bind_some],.inr ⟨_,rfl,.inl rfl⟩⟩
    ·by_cases h3:(60:Int)<x.2.2.1.size
     ·exact⟨_,by simp only[h1,h2,h3,decide_true,decide_false,cond_true,cond_false,Option.bind_some],.inr ⟨_,rfl,.inl rfl⟩⟩
     ·by_cases h4:x.2.2.2.2.2.2.2.1.size≤40∧x.2.2.2.2.2.2.2.2.2.1.size≤40
      ·exact⟨_,by simp only[h1,h2,h3,h4,and_self,decide_true,decide_false,Bool.not_true,cond_true,cond_false,Option.bind_some],.inl ⟨rfl,by omega,by omega,by omega,h4.1,h4.2⟩⟩
      ·exact⟨_,by simp only[h1,h2,h3,h4,decide_true,decide_false,Bool.not_false,cond_true,cond_false,Option.bind_some],.inr ⟨_,rfl,.inl rfl⟩⟩
  ·intro h;exact⟨_,by simp(disch:=omega)only[Zf],.inr ⟨rfl,h⟩⟩
  ·rintro b (rfl|⟨rfl,h⟩)
   ·exact⟨false,rfl,fun h=>by cases h⟩
   ·exact⟨true,rfl,fun _=>⟨by omega,by omega,h⟩⟩
 ·simp only[h0,decide_false,Bool.not_false,cond_true,Option.bind_some];exact⟨false,rfl,fun h=>by cases h⟩
def EnS(x:Qm):Prop:=x.1.size≤60∧x.2.1.size≤60∧x.2.2.1.size≤40∧x.2.2.2.2.1.size≤40
def TmS(x:Tm):Prop:=x.1.size≤60∧x.2.1.size≤60∧x.2.2.length≤10∧∀y∈x.2.2,y.size≤60
def AtS(x:Ath):Prop:=x.1.size≤60∧x.2.1.size≤60∧x.2.2.2.size≤60
structure ShS (s:Qy):Prop where
 c:s.1.length≤6∨256<s.1.length∧s.1.length≤259
 a:s.2.1.length≤8∨256<s.2.1.length∧s.2.1.length≤259
 l:s.2.2.1.length≤12∨256<s.2.2.1.length∧s.2.2.1.length≤259
 e:s.2.2.2.1.length≤20∨256<s.2.2.2.1.length∧s.2.2.2.1.length≤259
 t:s.2.2.2.2.length≤6∨256<s.2.2.2.2.length∧s.2.2.2.2.length≤259
 cs:∀x∈s.1,x.size≤60
 ats:∀x∈s.2.1,AtS x
 ls:∀x∈s.2.2.1,x.1.size≤60
 es:∀x∈s.2.2.2.1,EnS x
 ts:∀x∈s.2.2.2.2,TmS x
theorem ShS.sm{s:Qy}(h:ShS s):SmS s:=by
 obtain⟨h1,h2,h3,h4,h5,h6,h7,h8,h9,h10⟩:=h;refine⟨by omega,by omega,by omega,by omega,by omega,fun x hx=>?_,fun x hx=>?_,fun x hx=>?_⟩
 ·have:=h6 x hx;omega
 ·have:=h7 x hx;unfold AtS at this;omega
 ·have:=(h10 x hx).2.2.1;omega
structure Qk0 (F:Nat) (s:Qy):Prop where
 c:s.1.length<F
 a:s.2.1.length<F
 l:s.2.2.1.length<F
 e:s.2.2.2.1.length<F
 t:s.2.2.2.2.length<F
 r:∀x∈s.2.2.2.2,x.2.2.length<F
structure ByS (s:Qy):Prop where
 c:s.1.length*16≤140737488355328
 a:s.2.1.length*56≤140737488355328
 l:s.2.2.1.length*32≤140737488355328
 e:s.2.2.2.1.length*88≤140737488355328
 t:s.2.2.2.2.length*56≤140737488355328
 r:∀x∈s.2.2.2.2,x.2.2.length*16≤140737488355328
theorem l80{F:Nat}{l:List Tm}(hF:l.length<F)(hr:∀x∈l,x.2.2.length<F)(hb:l.length*56≤140737488355328)(hrb:∀x∈l,x.2.2.length*16≤140737488355328):∃b,c80 F l=some b∧(b=true→∀x∈l,TmS x):=by
 unfold c80;refine Qbn l TmS (fun b:Bool ⊕ Unit=>b=.inl false∨(b=.inr ()∧∀x∈l,TmS x)) hF ?_ ?_ ?_
 ·intro i x hi hx;have hx1:=hr _ (List.mem_of_getElem? hx);have hx2:=hrb _ (List.mem_of_getElem? hx);simp(disch:=omega)only[Zk,Zi,Int.toNat_natCast,getD_some hx,Zh];by_cases h1:(60:Int)<x.1.size
  ·exact⟨_,by simp only[h1,decide_true,cond_true,Option.bind_some],.inr ⟨_,rfl,.inl rfl⟩⟩
  ·by_cases h2:(60:Int)<x.2.1.size
   ·exact⟨_,by simp only[h1,h2,decide_true,decide_false,cond_true,cond_false,Option.bind_some],.inr ⟨_,rfl,.inl rfl⟩⟩
   ·by_cases h3:(10:Int)<x.2.2.length
    ·exact⟨_,by simp only[h1,h2,h3,decide_true,decide_false,cond_true,cond_false,Option.bind_some],.inr ⟨_,rfl,.inl rfl⟩⟩
    ·simp only[h1,h2,h3,decide_false,cond_false,Option.bind_some];refine Qbn x.2.2 (fun y=>y.size≤60) (fun b:Bool ⊕ Unit=>b=.inl false∨(b=.inr ()∧∀y∈x.2.2,y.size≤60)) hx1 ?_ ?_ ?_
     ·intro j y hj hy;simp(disch:=omega)only[Zk,Zi,Int.toNat_natCast,getD_some hy,Zh];by_cases h4:(60:Int)<y.size
      ·exact⟨_,by simp only[h4,decide_true,cond_true],.inr ⟨_,rfl,.inl rfl⟩⟩
      ·exact⟨_,by simp only[h4,decide_false,cond_false],.inl ⟨rfl,by omega⟩⟩
     ·intro h;exact⟨_,by simp(disch:=omega)only[Zf],.inr ⟨rfl,h⟩⟩
     ·rintro b (rfl|⟨rfl,h⟩)
      ·exact⟨_,rfl,.inr ⟨_,rfl,.inl rfl⟩⟩
      ·exact⟨_,rfl,.inl ⟨rfl,by omega,by omega,by omega,h⟩⟩
 ·intro h;exact⟨_,by simp(disch:=omega)only[Zf],.inr ⟨rfl,h⟩⟩
 ·rintro b (rfl|⟨rfl,h⟩)
  ·exact⟨false,rfl,fun h=>by cases h⟩
  ·exact⟨true,rfl,fun _=>h⟩
theorem l18{F:Nat}{s:Qy}(f:Qk0 F s)(hb:ByS s):∃b,c18 F s=some b∧(b=true→ShS s):=by
 obtain⟨f1,f2,f3,f4,f5,f6⟩:=f;obtain⟨b1,b2,b3,b4,b5,b6⟩:=hb;obtain⟨tb,ht,ht2⟩:=l80 f5 f6 b5 b6;unfold c18;simp only[l78 F _ _ _ (show(0:Int)≤256∧(256:Int)≤1000 by omega),ht,Option.bind_some];have no:∃b,(some false:Option Bool)=some b∧(b=true→ShS s):=⟨false,rfl,fun h=>by cases h⟩;by_cases h1:(s.1.length:Int)≤6∨(256:Int)<s.1.length∧(s.1.length:Int)≤256+3
 case neg=>simp only[h1,decide_false,Bool.not_false,cond_true,Option.bind_some];exact no
 by_cases h2:(s.2.1.length:Int)≤8∨(256:Int)<s.2.1.length∧(s.2.1.length:Int)≤256+3
 case neg=>simp only[h1,h2,decide_true,decide_false,Bool.not_false,Bool.not_true,cond_true,cond_false,Option.bind_some];exact no
 by_cases h3:(s.2.2.1.length:Int)≤12∨(256:Int)<s.2.2.1.length∧(s.2.2.1.length:Int)≤256+3
 case neg=>simp only[h1,h2,h3,decide_true,decide_false,Bool.not_false,Bool.not_true,cond_true,cond_false,Option.bind_some];exact no
 by_cases h4:(s.2.2.2.1.length:Int)≤20∨(256:Int)<s.2.2.2.1.length∧(s.2.2.2.1.length:Int)≤256+3
 case neg=>simp only[h1,h2,h3,h4,decide_true,decide_false,Bool.not_false,Bool.not_true,cond_true,cond_false,Option.bind_some];exact no
 by_cases h5:(s.2.2.2.2.length:Int)≤6∨(256:Int)<s.2.2.2.2.length∧(s.2.2.2.2.length:Int)≤256+3
 case neg=>simp only[h1,h2,h3,h4,h5,decide_true,decide_false,Bool.not_false,Bool.not_true,cond_true,cond_false,Option.bind_some];exact no
 cases tb with
 |false=>simp only[h1,h2,h3,h4,h5,decide_true,Bool.not_false,Bool.not_true,cond_true,cond_false,Option.bind_some];exact no
 |true=>
  have ht2:=ht2 rfl;simp only[h1,h2,h3,h4,h5,decide_true,Bool.not_true,cond_false,Option.bind_some];refine Qbn s.1 (fun y=>y.size≤60) (fun b:Bool ⊕ Unit=>b=.inl false∨(b=.inr ()∧∀y∈s.1,y.size≤60)) f1 ?_ ?_ ?_
  ·intro j y hj hy;simp(disch:=omega)only[Zk,Zi,Int.toNat_natCast,getD_some hy,Zh];by_cases h4:(60:Int)<y.size
   ·exact⟨_,by simp only[h4,decide_true,cond_true],.inr ⟨_,rfl,.inl rfl⟩⟩
   ·exact⟨_,by simp only[h4,decide_false,cond_false],.inl ⟨rfl,by omega⟩⟩
  ·intro h;exact⟨_,by simp(disch:=omega)only[Zf],.inr ⟨rfl,h⟩⟩
  rintro b (rfl|⟨rfl,hc⟩)
  ·exact no
  simp only[Sum.elim_inr];refine Qbn s.2.1 AtS (fun b:Bool ⊕ Unit=>b=.inl false∨(b=.inr ()∧∀y∈s.2.1,AtS y)) f2 ?_ ?_ ?_
  ·intro j y hj hy;simp(disch:=omega)only[Zk,Zi,Int.toNat_natCast,getD_some hy,Zh];by_cases q1:(60:Int)<y.1.size
   ·exact⟨_,by simp only[q1,decide_true,cond_true,Option.bind_some],.inr ⟨_,rfl,.inl rfl⟩⟩
   ·by_cases q2:(60:Int)<y.2.1.size
    ·exact⟨_,by simp only[q1,q2,decide_true,decide_false,cond_true,cond_false,Option.bind_some],.inr ⟨_,rfl,.inl rfl⟩⟩
    ·by_cases q3:(60:Int)<y.2.2.2.size
     ·exact⟨_,by simp only[q1,q2,q3,decide_true,decide_false,cond_true,cond_false,Option.bind_some],.inr ⟨_,rfl,.inl rfl⟩⟩
     ·exact⟨_,by simp only[q1,q2,q3,decide_true,decide_false,cond_true,cond_false,Option.bind_some],.inl ⟨rfl,by omega,by omega,by omega⟩⟩
  ·intro h;exact⟨_,by simp(disch:=omega)only[Zf],.inr ⟨rfl,h⟩⟩
  rintro b (rfl|⟨rfl,ha⟩)
  ·exact no
  simp only[Sum.elim_inr];refine Qbn s.2.2.1 (fun y=>y.1.size≤60) (fun b:Bool ⊕ Unit=>b=.inl false∨(b=.inr ()∧∀y∈s.2.2.1,y.1.size≤60)) f3 ?_ ?_ ?_
  ·intro j y hj hy;simp(disch:=omega)only[Zk,Zi,Int.toNat_natCast,getD_some hy,Zh];by_cases h4:(60:Int)<y.1.size
   ·exact⟨_,by simp only[h4,decide_true,cond_true],.inr ⟨_,rfl,.inl rfl⟩⟩
   ·exact⟨_,by simp only[h4,decide_false,cond_false],.inl ⟨rfl,by omega⟩⟩
  ·intro h;exact⟨_,by simp(disch:=omega)only[Zf],.inr ⟨rfl,h⟩⟩
  rintro b (rfl|⟨rfl,hl⟩)
  ·exact no
  simp only[Sum.elim_inr];refine Qbn s.2.2.2.1 EnS (fun b:Bool ⊕ Unit=>b=.inl false∨(b=.inr ()∧∀y∈s.2.2.2.1,EnS y)) f4 ?_ ?_ ?_
  ·intro j y hj hy;simp(disch:=omega)only[Zk,Zi,Int.toNat_natCast,getD_some hy,Zh,l79];by_cases q1:(60:Int)<y.1.size
   ·exact⟨_,by simp only[q1,decide_true,cond_true,Option.bind_some],.inr ⟨_,rfl,.inl rfl⟩⟩
   ·by_cases q2:(60:Int)<y.2.1.size
    ·exact⟨_,by simp only[q1,q2,decide_true,decide_false,cond_true,cond_false,Option.bind_some],.inr ⟨_,rfl,.inl rfl⟩⟩
    ·by_cases q3:y.2.2.1.size≤40∧y.2.2.2.2.1.size≤40
     ·exact⟨_,by simp only[q1,q2,q3,and_self,decide_true,decide_false,Bool.not_true,cond_true,cond_false,Option.bind_some],.inl ⟨rfl,by omega,by omega,q3.1,q3.2⟩⟩
     ·exact⟨_,by simp only[q1,q2,q3,decide_true,decide_false,Bool.not_false,cond_true,cond_false,Option.bind_some],.inr ⟨_,rfl,.inl rfl⟩⟩
  ·intro h;exact⟨_,by simp(disch:=omega)only[Zf],.inr ⟨rfl,h⟩⟩
  rintro b (rfl|⟨rfl,he⟩)
  ·exact no
  ·exact⟨true,rfl,fun _=>⟨by omega,by omega,by omega,by omega,by omega,hc,ha,hl,he,ht2⟩⟩
end Go.Proofs.Tryz

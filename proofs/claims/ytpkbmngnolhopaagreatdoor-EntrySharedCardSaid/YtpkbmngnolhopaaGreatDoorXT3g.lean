/- Plain law: clashes and clubs. Plain law: copies of meetings and states, small ones, sameness of lists. -/
import Derived.Test.YtpkbmngnolhopaaGreatDoorXTeB3
set_option maxRecDepth 100000
set_option linter.unusedVariables false
set_option linter.unusedSimpArgs false
namespace Go.Proofs.Tryz
open Go Go.Sx
theorem Zm5{α β γ:Type}{step:List β×Int→Option ((List β×Int) ⊕ List β)}{F:Nat}{k:List β→Option γ}{r:Option γ}(l:List α)(p:α→Bool)(f:α→β)(o:Nat)(out0:List β)(hF:l.length<F)
  (hstep:∀(i:Nat) x out,i<l.length→l[i]? =some x→out.length≤out0.length+i→step (out,((o+i:Nat):Int))=some (.inl (if p x=true then out++[f x]else out,((o+i+1:Nat):Int))))
  (hend:∀out,out.length≤out0.length+l.length→step (out,((o+l.length:Nat):Int))=some (.inr out))
  (hk:(out0++(l.filter p).map f).length≤out0.length+l.length→k (out0++(l.filter p).map f)=r):Option.bind (Qq step F (out0,(o:Int))) k=r:=by
 refine Xz l (fun out i=>(out,((o+i:Nat):Int))) (fun x out=>.inl (if p x=true then out++[f x]else out)) (fun out=>out) (fun i s=>s.length≤out0.length+i) out0 hF rfl (Nat.le_refl _) ?_ ?_ ?_
 ·intro i x out hi hx ho;refine⟨?_,fun s' hs=>?_⟩
  ·rw[hstep i x out hi hx ho];rfl
  ·simp only[Sum.inl.injEq]at hs;subst hs;cases p x<;>simp<;>omega
 ·intro out ho;exact hend out ho
 ·rw[V9 (fun out x=>if p x=true then out++[f x]else out),Qqw p f];exact hk (by rw[List.length_append,List.length_map];have:=List.length_filter_le p l;omega)
theorem Zbe{α β:Type}(g:α→List β):∀(l:List α) (out:List β),l.foldl (fun out x=>out++g x) out=out++l.flatMap g
 |[],out=>by simp
 |x::l,out=>by rw[List.foldl_cons,Zbe g l,List.flatMap_cons,List.append_assoc]
theorem Qq0{α:Type}(p:α→Bool):∀(l:List α) (b:Bool),l.foldl (fun b x=>b||p x) b=(b||l.any p)
 |[],b=>by simp
 |x::l,b=>by rw[List.foldl_cons,Qq0 p l,List.any_cons,Bool.or_assoc]
def clB(s:Qw)(a b:ByteArray):Bool:=s.2.1.any fun y=>inP s y.1 a&&inP s y.1 b
def Qeh(m:Mt)(s:Qw)(i:Nat):List (ByteArray×ByteArray):=((m.2.2.2.2.drop (i+1)).filter fun c=>clB s (m.2.2.2.2.getD i dC).1 c.1).map fun c=>((m.2.2.2.2.getD i dC).1,c.1)
def clS(m:Mt)(s:Qw):List (ByteArray×ByteArray):=(List.range m.2.2.2.2.length).flatMap (Qeh m s)
theorem Zc8(m:Mt)(s:Qw)(i:Nat):(Qeh m s i).length≤m.2.2.2.2.length:=by unfold Qeh;rw[List.length_map];have:=List.length_filter_le (fun c:Zv=>clB s (m.2.2.2.2.getD i dC).1 c.1) (m.2.2.2.2.drop (i+1));rw[List.length_drop]at this;omega
theorem Zff{F:Nat}(hF:400≤F){s:Qw}(h:SmS s)(y:Ath)(c d:Zv):Qma F (y,s,c,d)=some (inP s y.1 c.1&&inP s y.1 d.1):=by unfold Qma;simp only[Zp,Qv8 hF h,Option.bind_some];cases inP s y.1 c.1<;>rfl
theorem Zt9{F:Nat}(hF:400≤F){s:Qw}(h:SmS s)(c d:Zv):Qmt F (s.2.1,s,c,d)=some (Yh (fun y=>inP s y.1 c.1&&inP s y.1 d.1) s.2.1):=by
 have h1:=h.a;unfold Qmt;refine W9 s.2.1 _ (by omega) ?_ ?_
 ·intro i y hi hy;have hd:Xd=dA:=rfl;simp(disch:=omega)only[Ze,Zj,Int.toNat_natCast,getD_some hy,Zb,Zp,Zff hF h,Option.bind_some];cases inP s y.1 c.1&&inP s y.1 d.1<;>rfl
 ·simp(disch:=omega)only[Zd]
theorem Zxh{F:Nat}(hF:400≤F){s:Qw}(h:SmS s)(c d:Zv):Qjc F (s.2.1,s,c,d)=some (clB s c.1 d.1):=by unfold Qjc clB;simp only[Zp,Zt9 hF h,Qam,Option.bind_some]
theorem l37{F:Nat}(hF:400≤F){m:Mt}(hm:m.2.2.2.2.length≤300)(hb:∀x∈m.2.2.2.2,x.1.size≤300∧x.2.2.1.size≤300){s:Qw}(h:SmS s):
  c37 F (m,s)=some (if stE m s=0 then(clS m s,0)else([],stE m s)):=by
 have e:∀y:ByteArray×ByteArray,y::Qb (ByteArray×ByteArray)=[y]:=fun _=>rfl;have hd:Q2=dC:=rfl;unfold c37;simp only[Zp,l25 hF hm hb h,Option.bind_some];by_cases hv:stE m s=0
 ·simp only[hv,decide_true,Bool.not_true,cond_false,if_true];refine Xz (List.range m.2.2.2.2.length) (fun out i=>(out,(i:Int))) (fun i out=>.inl (out++Qeh m s i)) (fun out=>out) (fun i out=>out.length≤i*300) [] (by simp;omega) rfl (by simp) ?_ ?_ ?_
  ·intro i x out hi hx ho;obtain rfl:=Qdx hx;have hi':x<m.2.2.2.2.length:=by simpa using hi
   have ho2:out.length≤90000:=by omega
   refine⟨?_,fun s' hs=>?_⟩
   ·simp(disch:=omega)only[Ze,Zj,Int.toNat_natCast,Zb,decide_true,Bool.and_self,Zw,Option.bind_some];have hw:((x:Int)+1)=((x+1:Nat):Int):=rfl;simp only[hw,Int.toNat_natCast,List.take_length];refine Zm5 (m.2.2.2.2.drop (x+1)) (fun c=>clB s (m.2.2.2.2.getD x dC).1 c.1) (fun c=>((m.2.2.2.2.getD x dC).1,c.1)) 0 out (by rw[List.length_drop];omega) ?_ ?_ ?_
    ·intro j y out2 hj hy ho3;rw[List.length_drop]at hj;have hl2:(out2++[((m.2.2.2.2.getD x dC).1,y.1)]).length≤91000:=by simp;omega
     simp(disch:=first|omega|(rw[List.length_drop];omega))only[Nat.zero_add,Ze,Zj,Int.toNat_natCast,Zb,hd,getD_some hy,Zp,Zxh hF h,e,decide_true,Bool.and_self,Zw,Option.bind_some]
     cases clB s (m.2.2.2.2.getD x dC).1 y.1
     ·simp[Zw]
     ·simp only[cond_true,if_true,Option.bind_some,Zw,decide_true];rfl
    ·intro out2 ho3;rw[Nat.zero_add];simp(disch:=omega)only[Zd,decide_true,Bool.and_self,Zw,Option.bind_some]
    ·intro hl;rfl
   ·simp only[Sum.inl.injEq]at hs;subst hs;have:=Zc8 m s x;rw[List.length_append,Nat.add_mul];omega
  ·intro out ho;rw[List.length_range];simp(disch:=omega)only[Zd,decide_true,Bool.and_self,Zw,Option.bind_some]
  ·rw[V9 (fun out i=>out++Qeh m s i),Zbe (Qeh m s)];simp only[List.nil_append,decide_true,Bool.and_self,Zw,List.drop_zero,List.take_length,Nat.zero_add,Nat.le_refl];rfl
 ·simp only[hv,decide_false,Bool.not_false,cond_true,if_false];rfl
theorem Uv:∀{l:List Int},Qn l=0→∀x∈l,x=0
 |[],_,x,hx=>by cases hx
 |y::l,h,x,hx=>by
  by_cases hy:y=0
  ·rw[show Qn (y::l)=if y=0 then Qn l else y from rfl,if_pos hy]at h;rcases List.mem_cons.1 hx with rfl|hx
   ·exact hy
   ·exact Uv h x hx
  ·rw[show Qn (y::l)=if y=0 then Qn l else y from rfl,if_neg hy]at h;exact absurd h hy
theorem Qvr{m:Mt}{s:Qw}(hv:stE m s=0){i:Nat}(hi:i<s.2.2.2.1.length):Jm m s i=0:=by
 have h1:mtE m=0:=by
  by_cases h:mtE m=0
  ·exact h
  ·rw[stE,if_neg h]at hv;exact absurd hv h
 have h2:¬J9 s:=fun h=>by rw[stE,if_pos h1,if_pos h]at hv;exact absurd hv (by decide)
 rw[stE,if_pos h1,if_neg h2]at hv;have h3:=Uv hv _ (List.mem_cons_of_mem _ (List.mem_cons_of_mem _ (List.mem_cons_of_mem _ List.mem_cons_self)));exact Uv h3 _ (List.mem_map.2 ⟨i,List.mem_range.2 hi,rfl⟩)
theorem l15{F:Nat}{m:Mt}(hF:m.2.2.2.2.length<F)(hb:m.2.2.2.2.length*128≤140737488355328):c15 F m=some m:=by
 have e:∀y:Zv,y::Qb Zv=[y]:=fun _=>rfl;have hd:Q2=dC:=rfl;unfold c15;refine Xz m.2.2.2.2 (fun out i=>((m.1,m.2.1,m.2.2.1,m.2.2.2.1),out,(i:Int))) (fun x out=>.inl (out++[x])) (fun out=>((m.1,m.2.1,m.2.2.1,m.2.2.2.1),out)) (fun i out=>out.length=i) (Qb Zv) hF rfl rfl ?_ ?_ ?_
 ·intro i x out hi hx ho;have hl2:(out++[x]).length=i+1:=by simp[ho]
  refine⟨?_,fun s' hs=>?_⟩
  ·simp(disch:=omega)only[Ze,Zj,Int.toNat_natCast,getD_some hx,Zb,Zp,e,hl2,ho,decide_true,Bool.and_self,Bool.true_and,Zw,Option.bind_some];rfl
  ·simp only[Sum.inl.injEq]at hs;subst hs;exact hl2
 ·intro out ho;simp(disch:=omega)only[Zd,ho,decide_true,Bool.and_self,Bool.true_and,Zw,Option.bind_some]
 ·rw[Qhg (fun x:Zv=>x)];simp[Qb,Zw]
theorem l16{F:Nat}{s:Qw}(hF:s.2.2.1.length<F∧s.2.2.2.1.length<F∧s.2.2.2.2.length<F)(hb:s.2.2.1.length*32≤140737488355328∧s.2.2.2.1.length*88≤140737488355328∧s.2.2.2.2.length*56≤140737488355328):c16 F s=some s:=by
 have e1:∀y:Lic,y::Qb Lic=[y]:=fun _=>rfl;have e2:∀y:Qy,y::Qb Qy=[y]:=fun _=>rfl;have e3:∀y:Tm,y::Qb Tm=[y]:=fun _=>rfl;obtain⟨f1,f2,f3⟩:=hF;obtain⟨b1,b2,b3⟩:=hb;unfold c16;refine Xz s.2.2.1 (fun out i=>((s.1,s.2.1),out,(i:Int))) (fun x out=>.inl (out++[x])) (fun out=>((s.1,s.2.1),out)) (fun i out=>out.length=i) (Qb Lic) f1 rfl rfl ?_ ?_ ?_
 ·intro i x out hi hx ho;have hl2:(out++[x]).length=i+1:=by simp[ho]
  refine⟨?_,fun s' hs=>?_⟩
  ·simp(disch:=omega)only[Ze,Zj,Int.toNat_natCast,getD_some hx,Zb,Zp,e1,hl2,ho,decide_true,Bool.and_self,Bool.true_and,Zw,Option.bind_some];rfl
  ·simp only[Sum.inl.injEq]at hs;subst hs;exact hl2
 ·intro out ho;simp(disch:=omega)only[Zd,ho,decide_true,Bool.and_self,Bool.true_and,Zw,Option.bind_some]
 ·rw[Qhg (fun x:Lic=>x)];rw[show Qb Lic++List.map (fun x:Lic=>x) s.2.2.1=s.2.2.1 by simp[Qb]];simp only[decide_true,Bool.and_self,Bool.true_and,Zw,Option.bind_some];refine Xz s.2.2.2.1 (fun out i=>((s.1,s.2.1),s.2.2.1,out,(i:Int))) (fun x out=>.inl (out++[x])) (fun out=>((s.1,s.2.1),s.2.2.1,out)) (fun i out=>out.length=i) (Qb Qy) f2 rfl rfl ?_ ?_ ?_
  ·intro i x out hi hx ho;have hl2:(out++[x]).length=i+1:=by simp[ho]
   refine⟨?_,fun s' hs=>?_⟩
   ·simp(disch:=omega)only[Ze,Zj,Int.toNat_natCast,getD_some hx,Zb,Zp,e2,hl2,ho,decide_true,Bool.and_self,Bool.true_and,Zw,Option.bind_some];rfl
   ·simp only[Sum.inl.injEq]at hs;subst hs;exact hl2
  ·intro out ho;simp(disch:=omega)only[Zd,ho,decide_true,Bool.and_self,Bool.true_and,Zw,Option.bind_some]
  ·rw[Qhg (fun x:Qy=>x)];rw[show Qb Qy++List.map (fun x:Qy=>x) s.2.2.2.1=s.2.2.2.1 by simp[Qb]];simp only[decide_true,Bool.and_self,Bool.true_and,Zw,Option.bind_some];refine Xz s.2.2.2.2 (fun out i=>((s.1,s.2.1),s.2.2.1,s.2.2.2.1,out,(i:Int))) (fun x out=>.inl (out++[x])) (fun out=>((s.1,s.2.1),s.2.2.1,s.2.2.2.1,out)) (fun i out=>out.length=i) (Qb Tm) f3 rfl rfl ?_ ?_ ?_
   ·intro i x out hi hx ho;have hl2:(out++[x]).length=i+1:=by simp[ho]
    refine⟨?_,fun s' hs=>?_⟩
    ·simp(disch:=omega)only[Ze,Zj,Int.toNat_natCast,getD_some hx,Zb,Zp,e3,hl2,ho,decide_true,Bool.and_self,Bool.true_and,Zw,Option.bind_some];rfl
    ·simp only[Sum.inl.injEq]at hs;subst hs;exact hl2
   ·intro out ho;simp(disch:=omega)only[Zd,ho,decide_true,Bool.and_self,Bool.true_and,Zw,Option.bind_some]
   ·rw[Qhg (fun x:Tm=>x)];simp[Qb,Zw]
theorem l78(F:Nat)(n k m:Int)(hm:0≤m∧m≤1000):c78 F (n,k,m)=some (decide (n≤k∨(m<n∧n≤m+3))):=by
 unfold c78;simp(disch:=omega)only[Zb];by_cases h1:n≤k
 ·simp[h1]
 ·by_cases h2:m<n<;>simp[h1,h2]
theorem l79(F:Nat)(k:ByteArray)(v:Int)(r:ByteArray):c79 F (k,v,r)=some (decide (k.size≤40∧r.size≤40)):=by
 unfold c79;by_cases h1:k.size≤40
 ·have h1':(k.size:Int)≤40:=by omega
  by_cases h2:r.size≤40
  ·have h2':(r.size:Int)≤40:=by omega
   simp[h1,h2,h1',h2']
  ·have h2':¬(r.size:Int)≤40:=by omega
   simp[h1,h2,h1',h2']
 ·have h1':¬(k.size:Int)≤40:=by omega
  simp[h1,h1']
def CsS(x:Zv):Prop:=x.1.size≤60∧x.2.1.size≤60∧x.2.2.1.size≤60∧x.2.2.2.2.2.2.2.1.size≤40∧x.2.2.2.2.2.2.2.2.2.1.size≤40
structure MtS (m:Mt):Prop where
 n:m.2.2.2.2.length≤35
 n2:m.2.2.2.2.length≤5∨32<m.2.2.2.2.length
 c:∀x∈m.2.2.2.2,CsS x
theorem l17{F:Nat}{m:Mt}(hF:m.2.2.2.2.length<F)(hb:m.2.2.2.2.length*128≤140737488355328):∃b,c17 F m=some b∧(b=true→MtS m):=by
 unfold c17;rw[l78 F _ _ _ (by omega)];by_cases h0:(m.2.2.2.2.length:Int)≤5∨(32:Int)<m.2.2.2.2.length∧(m.2.2.2.2.length:Int)≤32+3
 ·simp only[h0,decide_true,Bool.not_true,cond_false,Option.bind_some];refine Qb7 m.2.2.2.2 CsS (fun b:Bool ⊕ Unit=>b=.inl false∨(b=.inr ()∧∀x∈m.2.2.2.2,CsS x)) hF ?_ ?_ ?_
  ·intro i x hi hx;simp(disch:=omega)only[Ze,Zj,Int.toNat_natCast,getD_some hx,Zb,l79];by_cases h1:(60:Int)<x.1.size
   ·exact⟨_,by simp only[h1,decide_true,cond_true,Option.bind_some],.inr ⟨_,rfl,.inl rfl⟩⟩
   ·by_cases h2:(60:Int)<x.2.1.size
    ·exact⟨_,by simp only[h1,h2,decide_true,decide_false,cond_true,cond_false,Option.bind_some],.inr ⟨_,rfl,.inl rfl⟩⟩
    ·by_cases h3:(60:Int)<x.2.2.1.size
     ·exact⟨_,by simp only[h1,h2,h3,decide_true,decide_false,cond_true,cond_false,Option.bind_some],.inr ⟨_,rfl,.inl rfl⟩⟩
     ·by_cases h4:x.2.2.2.2.2.2.2.1.size≤40∧x.2.2.2.2.2.2.2.2.2.1.size≤40
      ·exact⟨_,by simp only[h1,h2,h3,h4,and_self,decide_true,decide_false,Bool.not_true,cond_true,cond_false,Option.bind_some],.inl ⟨rfl,by omega,by omega,by omega,h4.1,h4.2⟩⟩
      ·exact⟨_,by simp only[h1,h2,h3,h4,decide_true,decide_false,Bool.not_false,cond_true,cond_false,Option.bind_some],.inr ⟨_,rfl,.inl rfl⟩⟩
  ·intro h;exact⟨_,by simp(disch:=omega)only[Zd],.inr ⟨rfl,h⟩⟩
  ·rintro b (rfl|⟨rfl,h⟩)
   ·exact⟨false,rfl,fun h=>by cases h⟩
   ·exact⟨true,rfl,fun _=>⟨by omega,by omega,h⟩⟩
 ·simp only[h0,decide_false,Bool.not_false,cond_true,Option.bind_some];exact⟨false,rfl,fun h=>by cases h⟩
def EnS(x:Qy):Prop:=x.1.size≤60∧x.2.1.size≤60∧x.2.2.1.size≤40∧x.2.2.2.2.1.size≤40
def TmS(x:Tm):Prop:=x.1.size≤60∧x.2.1.size≤60∧x.2.2.length≤10∧∀y∈x.2.2,y.size≤60
def AtS(x:Ath):Prop:=x.1.size≤60∧x.2.1.size≤60∧x.2.2.2.size≤60
structure ShS (s:Qw):Prop where
 c:s.1.length≤6∨256<s.1.length∧s.1.length≤259
 a:s.2.1.length≤8∨256<s.2.1.length∧s.2.1.length≤259
 l:s.2.2.1.length≤12∨256<s.2.2.1.length∧s.2.2.1.length≤259
 e:s.2.2.2.1.length≤20∨256<s.2.2.2.1.length∧s.2.2.2.1.length≤259
 t:s.2.2.2.2.length≤6∨256<s.2.2.2.2.length∧s.2.2.2.2.length≤259
 cs:∀x∈s.1,x.size≤60
 ats:∀x∈s.2.1,AtS x
 ls:∀x∈s.2.2.1,x.1.size≤60
 es:∀x∈s.2.2.2.1,EnS x
 ts:∀x∈s.2.2.2.2,TmS x
theorem ShS.sm{s:Qw}(h:ShS s):SmS s:=by
 obtain⟨h1,h2,h3,h4,h5,h6,h7,h8,h9,h10⟩:=h;refine⟨by omega,by omega,by omega,by omega,by omega,fun x hx=>?_,fun x hx=>?_,fun x hx=>?_⟩
 ·have:=h6 x hx;omega
 ·have:=h7 x hx;unfold AtS at this;omega
 ·have:=(h10 x hx).2.2.1;omega
structure Qlc (F:Nat) (s:Qw):Prop where
 c:s.1.length<F
 a:s.2.1.length<F
 l:s.2.2.1.length<F
 e:s.2.2.2.1.length<F
 t:s.2.2.2.2.length<F
 r:∀x∈s.2.2.2.2,x.2.2.length<F
structure ByS (s:Qw):Prop where
 c:s.1.length*16≤140737488355328
 a:s.2.1.length*56≤140737488355328
 l:s.2.2.1.length*32≤140737488355328
 e:s.2.2.2.1.length*88≤140737488355328
 t:s.2.2.2.2.length*56≤140737488355328
 r:∀x∈s.2.2.2.2,x.2.2.length*16≤140737488355328
theorem l80{F:Nat}{l:List Tm}(hF:l.length<F)(hr:∀x∈l,x.2.2.length<F)(hb:l.length*56≤140737488355328)(hrb:∀x∈l,x.2.2.length*16≤140737488355328):∃b,c80 F l=some b∧(b=true→∀x∈l,TmS x):=by
 unfold c80;refine Qb7 l TmS (fun b:Bool ⊕ Unit=>b=.inl false∨(b=.inr ()∧∀x∈l,TmS x)) hF ?_ ?_ ?_
 ·intro i x hi hx;have hx1:=hr _ (List.mem_of_getElem? hx);have hx2:=hrb _ (List.mem_of_getElem? hx);simp(disch:=omega)only[Ze,Zj,Int.toNat_natCast,getD_some hx,Zb];by_cases h1:(60:Int)<x.1.size
  ·exact⟨_,by simp only[h1,decide_true,cond_true,Option.bind_some],.inr ⟨_,rfl,.inl rfl⟩⟩
  ·by_cases h2:(60:Int)<x.2.1.size
   ·exact⟨_,by simp only[h1,h2,decide_true,decide_false,cond_true,cond_false,Option.bind_some],.inr ⟨_,rfl,.inl rfl⟩⟩
   ·by_cases h3:(10:Int)<x.2.2.length
    ·exact⟨_,by simp only[h1,h2,h3,decide_true,decide_false,cond_true,cond_false,Option.bind_some],.inr ⟨_,rfl,.inl rfl⟩⟩
    ·simp only[h1,h2,h3,decide_false,cond_false,Option.bind_some];refine Qb7 x.2.2 (fun y=>y.size≤60) (fun b:Bool ⊕ Unit=>b=.inl false∨(b=.inr ()∧∀y∈x.2.2,y.size≤60)) hx1 ?_ ?_ ?_
     ·intro j y hj hy;simp(disch:=omega)only[Ze,Zj,Int.toNat_natCast,getD_some hy,Zb];by_cases h4:(60:Int)<y.size
      ·exact⟨_,by simp only[h4,decide_true,cond_true],.inr ⟨_,rfl,.inl rfl⟩⟩
      ·exact⟨_,by simp only[h4,decide_false,cond_false],.inl ⟨rfl,by omega⟩⟩
     ·intro h;exact⟨_,by simp(disch:=omega)only[Zd],.inr ⟨rfl,h⟩⟩
     ·rintro b (rfl|⟨rfl,h⟩)
      ·exact⟨_,rfl,.inr ⟨_,rfl,.inl rfl⟩⟩
      ·exact⟨_,rfl,.inl ⟨rfl,by omega,by omega,by omega,h⟩⟩
 ·intro h;exact⟨_,by simp(disch:=omega)only[Zd],.inr ⟨rfl,h⟩⟩
 ·rintro b (rfl|⟨rfl,h⟩)
  ·exact⟨false,rfl,fun h=>by cases h⟩
  ·exact⟨true,rfl,fun _=>h⟩
theorem l18{F:Nat}{s:Qw}(f:Qlc F s)(hb:ByS s):∃b,c18 F s=some b∧(b=true→ShS s):=by
 obtain⟨f1,f2,f3,f4,f5,f6⟩:=f;obtain⟨b1,b2,b3,b4,b5,b6⟩:=hb;obtain⟨tb,ht,ht2⟩:=l80 f5 f6 b5 b6;unfold c18;simp only[l78 F _ _ _ (show(0:Int)≤256∧(256:Int)≤1000 by omega),ht,Option.bind_some];have no:∃b,(some false:Option Bool)=some b∧(b=true→ShS s):=⟨false,rfl,fun h=>by cases h⟩;by_cases h1:(s.1.length:Int)≤6∨(256:Int)<s.1.length∧(s.1.length:Int)≤256+3
 case neg=>simp only[h1,decide_false,Bool.not_false,cond_true,Option.bind_some];exact no
 by_cases h2:(s.2.1.length:Int)≤8∨(256:Int)<s.2.1.length∧(s.2.1.length:Int)≤256+3
 case neg=>simp only[h1,h2,decide_true,decide_false,Bool.not_false,Bool.not_true,cond_true,cond_false,Option.bind_some];exact no
 by_cases h3:(s.2.2.1.length:Int)≤12∨(256:Int)<s.2.2.1.length∧(s.2.2.1.length:Int)≤256+3
 case neg=>simp only[h1,h2,h3,decide_true,decide_false,Bool.not_false,Bool.not_true,cond_true,cond_false,Option.bind_some];exact no
 by_cases h4:(s.2.2.2.1.length:Int)≤20∨(256:Int)<s.2.2.2.1.length∧(s.2.2.2.1.length:Int)≤256+3
 case neg=>simp only[h1,h2,h3,h4,decide_true,decide_false,Bool.not_false,Bool.not_true,cond_true,cond_false,Option.bind_some];exact no
 by_cases h5:(s.2.2.2.2.length:Int)≤6∨(256:Int)<s.2.2.2.2.length∧(s.2.2.2.2.length:Int)≤256+3
 case neg=>simp only[h1,h2,h3,h4,h5,decide_true,decide_false,Bool.not_false,Bool.not_true,cond_true,cond_false,Option.bind_some];exact no
 cases tb with
 |false=>simp only[h1,h2,h3,h4,h5,decide_true,Bool.not_false,Bool.not_true,cond_true,cond_false,Option.bind_some];exact no
 |true=>
  have ht2:=ht2 rfl;simp only[h1,h2,h3,h4,h5,decide_true,Bool.not_true,cond_false,Option.bind_some];refine Qb7 s.1 (fun y=>y.size≤60) (fun b:Bool ⊕ Unit=>b=.inl false∨(b=.inr ()∧∀y∈s.1,y.size≤60)) f1 ?_ ?_ ?_
  ·intro j y hj hy;simp(disch:=omega)only[Ze,Zj,Int.toNat_natCast,getD_some hy,Zb];by_cases h4:(60:Int)<y.size
   ·exact⟨_,by simp only[h4,decide_true,cond_true],.inr ⟨_,rfl,.inl rfl⟩⟩
   ·exact⟨_,by simp only[h4,decide_false,cond_false],.inl ⟨rfl,by omega⟩⟩
  ·intro h;exact⟨_,by simp(disch:=omega)only[Zd],.inr ⟨rfl,h⟩⟩
  rintro b (rfl|⟨rfl,hc⟩)
  ·exact no
  simp only[Sum.elim_inr];refine Qb7 s.2.1 AtS (fun b:Bool ⊕ Unit=>b=.inl false∨(b=.inr ()∧∀y∈s.2.1,AtS y)) f2 ?_ ?_ ?_
  ·intro j y hj hy;simp(disch:=omega)only[Ze,Zj,Int.toNat_natCast,getD_some hy,Zb];by_cases q1:(60:Int)<y.1.size
   ·exact⟨_,by simp only[q1,decide_true,cond_true,Option.bind_some],.inr ⟨_,rfl,.inl rfl⟩⟩
   ·by_cases q2:(60:Int)<y.2.1.size
    ·exact⟨_,by simp only[q1,q2,decide_true,decide_false,cond_true,cond_false,Option.bind_some],.inr ⟨_,rfl,.inl rfl⟩⟩
    ·by_cases q3:(60:Int)<y.2.2.2.size
     ·exact⟨_,by simp only[q1,q2,q3,decide_true,decide_false,cond_true,cond_false,Option.bind_some],.inr ⟨_,rfl,.inl rfl⟩⟩
     ·exact⟨_,by simp only[q1,q2,q3,decide_true,decide_false,cond_true,cond_false,Option.bind_some],.inl ⟨rfl,by omega,by omega,by omega⟩⟩
  ·intro h;exact⟨_,by simp(disch:=omega)only[Zd],.inr ⟨rfl,h⟩⟩
  rintro b (rfl|⟨rfl,ha⟩)
  ·exact no
  simp only[Sum.elim_inr];refine Qb7 s.2.2.1 (fun y=>y.1.size≤60) (fun b:Bool ⊕ Unit=>b=.inl false∨(b=.inr ()∧∀y∈s.2.2.1,y.1.size≤60)) f3 ?_ ?_ ?_
  ·intro j y hj hy;simp(disch:=omega)only[Ze,Zj,Int.toNat_natCast,getD_some hy,Zb];by_cases h4:(60:Int)<y.1.size
   ·exact⟨_,by simp only[h4,decide_true,cond_true],.inr ⟨_,rfl,.inl rfl⟩⟩
   ·exact⟨_,by simp only[h4,decide_false,cond_false],.inl ⟨rfl,by omega⟩⟩
  ·intro h;exact⟨_,by simp(disch:=omega)only[Zd],.inr ⟨rfl,h⟩⟩
  rintro b (rfl|⟨rfl,hl⟩)
  ·exact no
  simp only[Sum.elim_inr];refine Qb7 s.2.2.2.1 EnS (fun b:Bool ⊕ Unit=>b=.inl false∨(b=.inr ()∧∀y∈s.2.2.2.1,EnS y)) f4 ?_ ?_ ?_
  ·intro j y hj hy;simp(disch:=omega)only[Ze,Zj,Int.toNat_natCast,getD_some hy,Zb,l79];by_cases q1:(60:Int)<y.1.size
   ·exact⟨_,by simp only[q1,decide_true,cond_true,Option.bind_some],.inr ⟨_,rfl,.inl rfl⟩⟩
   ·by_cases q2:(60:Int)<y.2.1.size
    ·exact⟨_,by simp only[q1,q2,decide_true,decide_false,cond_true,cond_false,Option.bind_some],.inr ⟨_,rfl,.inl rfl⟩⟩
    ·by_cases q3:y.2.2.1.size≤40∧y.2.2.2.2.1.size≤40
     ·exact⟨_,by simp only[q1,q2,q3,and_self,decide_true,decide_false,Bool.not_true,cond_true,cond_false,Option.bind_some],.inl ⟨rfl,by omega,by omega,q3.1,q3.2⟩⟩
     ·exact⟨_,by simp only[q1,q2,q3,decide_true,decide_false,Bool.not_false,cond_true,cond_false,Option.bind_some],.inr ⟨_,rfl,.inl rfl⟩⟩
  ·intro h;exact⟨_,by simp(disch:=omega)only[Zd],.inr ⟨rfl,h⟩⟩
  rintro b (rfl|⟨rfl,he⟩)
  ·exact no
  ·exact⟨true,rfl,fun _=>⟨by omega,by omega,by omega,by omega,by omega,hc,ha,hl,he,ht2⟩⟩
end Go.Proofs.Tryz

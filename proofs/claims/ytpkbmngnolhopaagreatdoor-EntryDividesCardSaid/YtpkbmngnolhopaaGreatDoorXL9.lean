/- Plain law: EntryDivides. -/
import Derived.Test.YtpkbmngnolhopaaGreatDoorXTeA
set_option maxRecDepth 100000
set_option linter.unusedVariables false
set_option linter.unusedSimpArgs false
namespace Go.Proofs.Tryz
open Go Go.Sx
theorem l51{F:Nat}{m:Mt}{s:Qy}(hF:100000≤F)(hm:m.2.2.2.2.length<F)(hmb:m.2.2.2.2.length*128≤140737488355328)(f:Qk0 F s)(hb:ByS s):
  ∃b,c51 F (m,s)=some b∧(b=true→MtS m∧ShS s∧stE m s=0):=by
 obtain⟨b1,h1,h1'⟩:=l17 hm hmb;obtain⟨b2,h2,h2'⟩:=l18 f hb;unfold c51;simp only[Zo,h1,h2,Option.bind_some];cases b1 with
 |false=>exact⟨false,rfl,fun h=>by cases h⟩
 |true=>
  cases b2 with
  |false=>exact⟨false,rfl,fun h=>by cases h⟩
  |true=>have hM:=h1' rfl;have hH:=h2' rfl;simp only[cond_true,l26 (show 400≤F by omega) hM.len hH.sm,Option.bind_some];exact⟨_,rfl,fun h=>⟨hM,hH,of_decide_eq_true h⟩⟩
theorem Zyk{m:Mt}(hv:mtE m=0){x:ByteArray}(hc:0≤cI m x):0≤(cAt m x).2.2.2.2.2.1:=by
 obtain⟨j,y,j1,j2,j3,j4⟩:=Qaj hc;have j1':cI m x=(j:Int):=j1;have hC:m.2.2.2.2.getD j dC=cAt m x:=by unfold cAt;rw[j1'];rfl
 unfold mtE at hv;split at hv
 ·cases hv
 ·split at hv
  ·cases hv
  ·split at hv
   ·cases hv
   ·split at hv
    ·cases hv
    ·have h:=V4 hv _ (List.mem_map.2 ⟨j,List.mem_range.2 j2,rfl⟩);unfold Jd at h;rw[hC]at h;split at h
     ·split at h
      ·cases h
      ·unfold Qdb at h;split at h
       ·cases h
       ·split at h
        ·cases h
        ·split at h
         ·cases h
         ·split at h
          ·cases h
          ·split at h
           ·cases h
           ·rename_i h5;unfold Y1 at h5;simp only[Bool.or_eq_true,decide_eq_true_eq]at h5;omega
     ·cases h
theorem Zzd{m:Mt}{s:Qy}(hv:stE m s=0):s.1.Pairwise (fun x y=>x≠y)∧∀x:ByteArray,0≤aI s x→Zp s x∈s.1:=by
 have h1:=Qqf hv;have h2:¬Jk s:=fun h=>by rw[stE,if_pos h1,if_pos h]at hv;exact absurd hv (by decide)
 rw[stE,if_pos h1,if_neg h2]at hv;have g0:=V4 hv _ (List.mem_cons_self ..);have g1:=V4 hv _ (List.mem_cons_of_mem _ (List.mem_cons_self ..));constructor
 ·rw[List.pairwise_iff_getElem];intro i j hi hj hij e;have h:=V4 g0 _ (List.mem_map.2 ⟨j,List.mem_range.2 hj,rfl⟩);unfold W1 at h;rw[getD_some (List.getElem?_eq_getElem hj)]at h;split at h
  ·split at h
   ·cases h
   ·rename_i h3;refine h3 (Za3.2 ?_);rw[List.mem_take_iff_getElem];exact⟨i,by omega,e⟩
  ·cases h
 ·intro x hx;obtain⟨j,y,j1,j2,j3,j4⟩:=Qaj hx;have j1':aI s x=(j:Int):=j1;have h:=V4 g1 _ (List.mem_map.2 ⟨j,List.mem_range.2 j2,rfl⟩);have e:Zp s x=y.2.1:=by unfold Zp;rw[j1',Int.toNat_natCast,getD_some j3]
  rw[e];unfold J8 at h;rw[getD_some j3]at h;split at h
  ·split at h
   ·cases h
   ·split at h
    ·rename_i h5;exact Za3.1 h5
    ·cases h
  ·cases h
theorem Qwt{b:ByteArray}:∀{l:List ByteArray},l.Pairwise (fun x y=>x≠y)→b∈l→(l.map fun c=>if Qe b c=true then 1 else 0).sum=1
 |x::l,hp,hb=>by
  rw[List.pairwise_cons]at hp;obtain⟨p1,p2⟩:=hp;rw[List.map_cons,List.sum_cons];rcases List.mem_cons.1 hb with rfl|hb
  ·have:(l.map fun c=>if Qe b c=true then 1 else 0).sum=0:=by
    have z:∀l:List ByteArray,(∀c∈l,b≠c)→(l.map fun c=>if Qe b c=true then 1 else 0).sum=0:=by
     intro l;induction l with
     |nil=>intro _;rfl
     |cons y l ih=>intro h;rw[List.map_cons,List.sum_cons,ih fun c hc=>h c (List.mem_cons_of_mem _ hc),if_neg fun e=>h y (List.mem_cons_self ..) (Jl.1 e)]
    exact z l p1
   rw[this,if_pos (X2 b)]
  ·rw[Qwt p2 hb,if_neg fun e=>p1 b hb (Jl.1 e).symm]
theorem Qza{l:List ByteArray}(hp:l.Pairwise (fun x y=>x≠y)):∀(K:List ByteArray),(∀b∈K,b∈l)→(l.map fun c=>(K.filter fun b=>Qe b c).length).sum=K.length
 |[],_=>by
  have:∀l:List ByteArray,(l.map fun c=>(([]:List ByteArray).filter fun b=>Qe b c).length).sum=0:=by
   intro l;induction l with
   |nil=>rfl
   |cons y l ih=>rw[List.map_cons,List.sum_cons,ih];rfl
  exact this l
 |b::K,h=>by
  have ih:=Qza hp K fun x hx=>h x (List.mem_cons_of_mem _ hx);have h1:=Qwt hp (h b (List.mem_cons_self ..));have e:∀l:List ByteArray,(l.map fun c=>((b::K).filter fun b=>Qe b c).length).sum=(l.map fun c=>if Qe b c=true then 1 else 0).sum+(l.map fun c=>(K.filter fun b=>Qe b c).length).sum:=by
   intro l;induction l with
   |nil=>rfl
   |cons y l ih=>simp only[List.map_cons,List.sum_cons];rw[ih,List.filter_cons];split<;>simp<;>omega
  rw[e,h1,ih,List.length_cons];omega
theorem Qs5:∀(l:List Nat) (z:Nat),(l.map fun(n:Nat)=>(n:Int)).foldl (fun z (x:Int)=>z+x.toNat) z=z+l.sum
 |[],z=>rfl
 |x::l,z=>by rw[List.map_cons,List.foldl_cons,Qs5 l,List.sum_cons,Int.toNat_natCast];omega
theorem Zmi{m:Mt}{s:Qy}(hv:stE m s=0):(Kk s).foldl (fun z (x:Int)=>z+x.toNat) 0=s.2.2.2.1.length:=by
 obtain⟨p1,p2⟩:=Zzd hv;have e:Kk s=(s.1.map fun c=>((s.2.2.2.1.map fun e=>Zp s e.1).filter fun b=>Qe b c).length).map fun(n:Nat)=>(n:Int):=by unfold Kk;rw[List.map_map];refine List.map_congr_left fun c _=>?_;show _=(((s.2.2.2.1.map fun e=>Zp s e.1).filter fun b=>Qe b c).length:Int);rw[Qsk]
 rw[e,Qs5,Qza p1 _ (fun b hb=>by rw[List.mem_map]at hb;obtain⟨x,hx,rfl⟩:=hb;exact p2 x.1 (Qpg hv hx)),List.length_map];omega
theorem Qv9{s:Qy}{P C:Int}:∀(R:List Qm) (d:Dv),∃X Y,(R.foldl (Yb s P C) d).1=d.1++X∧(R.foldl (Yb s P C) d).2.1=d.2.1++Y
 |[],d=>⟨[],[],(List.append_nil _).symm,(List.append_nil _).symm⟩
 |x::R,d=>by
  obtain⟨X,Y,e1,e2⟩:=Qv9 R (Yb s P C d x);rw[List.foldl_cons,e1,e2];unfold Yb;split
  ·exact⟨X,x.1::Y,rfl,by simp⟩
  ·exact⟨x.1::X,Y,by simp,rfl⟩
theorem Zyu{s:Qy}{P C:Int}{L:List Qm}{i:Nat}{x:Qm}(hx:L[i]? =some x):(if inD s P C (Zy s P C (L.take i)) x=true then(Zy s P C L).2.1[(Zy s P C (L.take i)).2.1.length]? =some x.1 else(Zy s P C L).1[(Zy s P C (L.take i)).1.length]? =some x.1):=by
 obtain⟨hl,e⟩:=List.getElem?_eq_some_iff.1 hx;have hs:L=L.take i++x::L.drop (i+1):=by rw[←e,←List.drop_eq_getElem_cons hl,List.take_append_drop]
 have hd:Zy s P C L=(L.drop (i+1)).foldl (Yb s P C) (Yb s P C (Zy s P C (L.take i)) x):=by
  conv=>lhs;rw[hs]
  unfold Zy;rw[List.foldl_append,List.foldl_cons]
 obtain⟨X,Y,e1,e2⟩:=Qv9 (s:=s) (P:=P) (C:=C) (L.drop (i+1)) (Yb s P C (Zy s P C (L.take i)) x);rw[←hd]at e1 e2;rw[e1,e2];generalize Zy s P C (L.take i)=d;unfold Yb;cases inD s P C d x<;>simp
theorem Zg5{s:Qy}{P C:Int}{L:List Qm}{i:Nat}{x:Qm}(hx:L[i]? =some x):Zy s P C (L.take (i+1))=Yb s P C (Zy s P C (L.take i)) x:=by unfold Zy;rw[List.take_add_one,hx,Option.toList_some,List.foldl_append];rfl
theorem Qwr(s:Qy)(P C:Int)(L:List Qm)(hP:0≤P):((Zy s P C L).2.1.length=(Zy s P C L).2.2.length)∧((Zy s P C L).2.1.length:Int)≤P:=by
 have h:∀(L:List Qm) (d:Dv),d.2.1.length=d.2.2.length→(d.2.1.length:Int)≤P→(L.foldl (Yb s P C) d).2.1.length=(L.foldl (Yb s P C) d).2.2.length∧((L.foldl (Yb s P C) d).2.1.length:Int)≤P:=by
  intro L;induction L with
  |nil=>intro d h1 h2;exact⟨h1,h2⟩
  |cons x L ih=>
   intro d h1 h2;rw[List.foldl_cons];refine ih _ ((Qsg s P C d x).2.2 h1) ?_;unfold Yb;cases hi:inD s P C d x
   ·exact h2
   ·unfold inD at hi;simp only[Bool.and_eq_true,decide_eq_true_eq]at hi;simp only[if_true,List.length_append,List.length_singleton];omega
 exact h L _ rfl hP
theorem Zyx{F:Nat}{m:Mt}{s:Qy}{c:ByteArray}(hF:400≤F)(hM:MtS m)(hH:ShS s)(hv:stE m s=0)(hc:0≤cI m c)(hr:¬ 0<(cAt m c).2.2.2.2.2.2.2.2.2.2):ck9 F (m,s,c) m s=some true:=by
 have hS:=hH.sm;have hd:Q2=dC:=rfl;have he:Q5=dE:=rfl;have ha:Xf=dA:=rfl;obtain⟨j,y,j1,j2,j3,-⟩:=Qaj hc;have j1':cI m c=(j:Int):=j1;have hC:m.2.2.2.2.getD j dC=cAt m c:=by unfold cAt;rw[j1'];rfl
 have e47:c47 F (m,c)=some (j:Int):=by rw[l47 (by have:=hM.n;omega) (by have:=hM.n;omega) c];exact congrArg some j1'
 have op:Jw m s c false=0:=by unfold Jw;rw[hv,Qn0 hc,if_neg (by omega),decide_eq_false hr];rfl
 have e55:c55 F (m,s,c)=some (Ji s c,0):=by rw[l55 hF hM.len hM.bd hH,op];rfl
 have e52:c52 F (m,s,c)=some ((Qgr m s c).2.1,0):=by rw[l52 hF hM.len hM.bd hH,op];rfl
 have e56:c56 F (m,s,c)=some ((Qgr m s c).1,0):=by rw[l56 hF hM.len hM.bd hH,op];rfl
 have e38:c38 F (m,s)=some (Kk s,0):=by rw[l38 hF hM.len hM.bd hS,if_pos hv]
 have few:=Zg4 hv hH;have hP:=Zyk (Qqf hv) hc;have hll:=Qqb hH hv c;have hd0:Qgr m s c=Zy s (cAt m c).2.2.2.2.2.1 (cAt m c).2.2.2.2.2.2.1 (Ji s c):=rfl;have hA:=Qu4 hv c (l:=Ji s c) (fun x hx=>Qly x ((Qgb _).mem_iff.1 hx));have hst:Ks (Ji s c):=Zrv _;have hLk:=Qrk (c:=c) hv;have hLm:∀x∈Ji s c,Qe x.2.1 c=true:=fun x hx=>(Qly x ((Qgb _).mem_iff.1 hx)).2;unfold ck9;simp(disch:=omega)only[Zo,e47,Option.bind_some,Zi,Int.toNat_natCast,e55,e52,e56,hd,he,ha,hC,hd0,decide_true,Bool.not_true,cond_false];generalize (cAt m c).2.2.2.2.2.1=P at hP;generalize (cAt m c).2.2.2.2.2.2.1=C;generalize Ji s c=L at hll hA hst hLk hLm;have w1:=Zbw s P C L;obtain⟨w2,w3⟩:=Qwr s P C L hP;have w4:w64 (((Zy s P C L).2.1.length:Int)+((Zy s P C L).1.length:Int))=(L.length:Int):=by rw[Zh (by omega) (by omega)];omega
 have w5:¬P<((Zy s P C L).2.1.length:Int):=by omega
 simp only[w4,w5,decide_true,decide_false,Bool.not_true,cond_false,Option.bind_some];refine Jn L (fun(q:List (ByteArray×Int)×Dv) i=>(q.1,(q.2.2.1.length:Int),(q.2.1.length:Int),(i:Int)))
  (fun x q=>.inl (if inD s P C q.2 x=true then Yy Qe (Zp s x.1) (Zz Qe (Zp s x.1) q.1 0+1) q.1 else q.1,Yb s P C q.2 x)) (fun q=>(.inr q.1:List (ByteArray×Int)×Bool ⊕ List (ByteArray×Int)))
  (fun i q=>Qhg q.1 q.2.2.2∧q.2=Zy s P C (L.take i)) ([],[],[],[]) (by omega) rfl ⟨fun k=>by simp[Qmf,X3],rfl⟩ ?_ ?_ ?_
 ·rintro i x ⟨q,d⟩ hi hx ⟨hq,hdd⟩
  simp only at hq hdd;have hxm:=List.mem_of_getElem? hx;have hkx:=hLk x hxm;obtain⟨k,hk1,hk2⟩:=Qz6 hkx;have e40:c40 F (s,x.1)=some (k:Int):=by rw[l40 hF hS,hk1]
  have eC:(s.2.1.getD k dA).2.1=Zp s x.1:=by unfold Zp;rw[hk1];rfl
  have hin:=Zyu (s:=s) (P:=P) (C:=C) hx;rw[←hdd]at hin;have v1:=Zbw s P C (L.take i);obtain⟨v2,v3⟩:=Qwr s P C (L.take i) hP;rw[←hdd]at v1 v2 v3;have v4:(L.take i).length≤20:=by simp;omega
  have hc1:=hq (Zp s x.1);have hc2:=Qy7 d.2.2 (Zp s x.1);have hnx:=hLm x hxm;refine⟨?_,fun s' hs=>?_⟩
  ·by_cases h0:i=0
   ·have h0':¬(0:Int)<(i:Int):=by omega
    simp(disch:=omega)only[Zk,Zi,Int.toNat_natCast,getD_some hx,Zh,Zo,e40,eC,hnx,h0',hc1,Option.bind_some,decide_true,decide_false,Bool.and_self,Bool.not_true,cond_true,cond_false,Z2,Zf];cases hdi:inD s P C d x
    ·rw[hdi]at hin;have hin':(Zy s P C L).1[d.1.length]? =some x.1:=hin;have lt:d.1.length<(Zy s P C L).1.length:=(List.getElem?_eq_some_iff.1 hin').1;have nle:¬((Zy s P C L).1.length:Int)≤(d.1.length:Int):=by omega
     have full:(bif decide (P≤(d.2.1.length:Int))then some true else some (decide (C≤(X3 d.2.2 (Zp s x.1):Int))))=some true:=by
      unfold inD at hdi;simp only[Bool.and_eq_false_iff,decide_eq_false_iff_not]at hdi;by_cases q1:P≤(d.2.1.length:Int)
      ·rw[decide_eq_true q1];rfl
      ·rw[decide_eq_false q1,decide_eq_true (show C≤(X3 d.2.2 (Zp s x.1):Int)by omega)];rfl
     simp(disch:=omega)only[full,nle,hdi,Yb,decide_false,cond_true,cond_false,Zi,getD_some hin',X2,Bool.not_true,Bool.false_eq_true,if_false,Option.bind_some,Sum.elim_inr,List.length_append,List.length_singleton];rfl
    ·rw[hdi]at hin;have hin':(Zy s P C L).2.1[d.2.1.length]? =some x.1:=hin;have lt:d.2.1.length<(Zy s P C L).2.1.length:=(List.getElem?_eq_some_iff.1 hin').1;have nle:¬((Zy s P C L).2.1.length:Int)≤(d.2.1.length:Int):=by omega
     have full:(bif decide (P≤(d.2.1.length:Int))then some true else some (decide (C≤(X3 d.2.2 (Zp s x.1):Int))))=some false:=by unfold inD at hdi;simp only[Bool.and_eq_true,decide_eq_true_eq]at hdi;rw[decide_eq_false (show¬P≤(d.2.1.length:Int)by omega),decide_eq_false (show¬C≤(X3 d.2.2 (Zp s x.1):Int)by omega)];rfl
     simp(disch:=omega)only[full,nle,hdi,Yb,decide_false,cond_true,cond_false,Zi,getD_some hin',X2,Bool.not_true,if_true,hc1,Option.bind_some,Sum.elim_inr,List.length_append,List.length_singleton];rfl
   ·have hi1:w64 ((i:Int)-1)=((i-1:Nat):Int):=by rw[Zh (by omega) (by omega)];omega
    have hpr:L[i-1]? =some L[i-1]:=List.getElem?_eq_getElem (by omega);generalize L[i-1]'(by omega)=pr at hpr;have h0':(0:Int)<(i:Int):=by omega
    have hsx:ltE x pr=false:=by have:=List.pairwise_iff_getElem.1 hst (i-1) i (by omega) hi (by omega);rw[(List.getElem?_eq_some_iff.1 hx).2,(List.getElem?_eq_some_iff.1 hpr).2]at this;exact this
    have ok:=hA pr (List.mem_of_getElem? hpr) x hxm;have e57:c57 F ((pr.2.2.1,pr.2.2.2.1,pr.2.2.2.2.1),x.2.2.1,x.2.2.2.1,x.2.2.2.2.1)=some (Xm (wE (mkE pr)) (wE (mkE x))):=l57 F ok.mx ok.my ok.k;unfold ltE at hsx;simp only[Bool.or_eq_false_iff,Bool.and_eq_false_iff,decide_eq_false_iff_not]at hsx;obtain⟨s1,s2⟩:=hsx;have c1:¬ 0<Xm (wE (mkE pr)) (wE (mkE x)):=by unfold Xm;split<;>(try split)<;>omega
    have c2:decide (x.2.2.2.2.2.1<pr.2.2.2.2.2.1)=false∨Xm (wE (mkE pr)) (wE (mkE x))≠0:=by
     by_cases q:wE (mkE x)=wE (mkE pr)
     ·left;rcases s2 with s2|s2
      ·exact absurd q s2
      ·exact decide_eq_false s2
     ·right;unfold Xm;split<;>(try split)<;>omega
    have hib:(i:Int)-1<L.length:=by omega
    have hi2:((i:Int)-1).toNat=i-1:=by omega
    simp(disch:=omega)only[Zk,Zi,Int.toNat_natCast,getD_some hx,getD_some hpr,Zh,Zo,e40,eC,hnx,hi2,h0',e57,c1,hc1,Option.bind_some,decide_true,decide_false,Bool.and_self,Bool.not_true,cond_true,cond_false,Z2,Zf];have z:(bif decide (Xm (wE (mkE pr)) (wE (mkE x))=0)then some (decide (x.2.2.2.2.2.1<pr.2.2.2.2.2.1))else some false)=some false:=by
     rcases c2 with c2|c2
     ·rw[c2];cases decide (Xm (wE (mkE pr)) (wE (mkE x))=0)<;>rfl
     ·rw[decide_eq_false c2];rfl
    rw[z];simp only[Option.bind_some,cond_false];cases hdi:inD s P C d x
    ·rw[hdi]at hin;have hin':(Zy s P C L).1[d.1.length]? =some x.1:=hin;have lt:d.1.length<(Zy s P C L).1.length:=(List.getElem?_eq_some_iff.1 hin').1;have nle:¬((Zy s P C L).1.length:Int)≤(d.1.length:Int):=by omega
     have full:(bif decide (P≤(d.2.1.length:Int))then some true else some (decide (C≤(X3 d.2.2 (Zp s x.1):Int))))=some true:=by
      unfold inD at hdi;simp only[Bool.and_eq_false_iff,decide_eq_false_iff_not]at hdi;by_cases q1:P≤(d.2.1.length:Int)
      ·rw[decide_eq_true q1];rfl
      ·rw[decide_eq_false q1,decide_eq_true (show C≤(X3 d.2.2 (Zp s x.1):Int)by omega)];rfl
     simp(disch:=omega)only[full,nle,hdi,Yb,decide_false,cond_true,cond_false,Zi,getD_some hin',X2,Bool.not_true,Bool.false_eq_true,if_false,Option.bind_some,Sum.elim_inr,List.length_append,List.length_singleton];rfl
    ·rw[hdi]at hin;have hin':(Zy s P C L).2.1[d.2.1.length]? =some x.1:=hin;have lt:d.2.1.length<(Zy s P C L).2.1.length:=(List.getElem?_eq_some_iff.1 hin').1;have nle:¬((Zy s P C L).2.1.length:Int)≤(d.2.1.length:Int):=by omega
     have full:(bif decide (P≤(d.2.1.length:Int))then some true else some (decide (C≤(X3 d.2.2 (Zp s x.1):Int))))=some false:=by unfold inD at hdi;simp only[Bool.and_eq_true,decide_eq_true_eq]at hdi;rw[decide_eq_false (show¬P≤(d.2.1.length:Int)by omega),decide_eq_false (show¬C≤(X3 d.2.2 (Zp s x.1):Int)by omega)];rfl
     simp(disch:=omega)only[full,nle,hdi,Yb,decide_false,cond_true,cond_false,Zi,getD_some hin',X2,Bool.not_true,if_true,hc1,Option.bind_some,Sum.elim_inr,List.length_append,List.length_singleton];rfl
  ·simp only[Sum.inl.injEq]at hs;subst hs;refine⟨?_,?_⟩
   ·cases hdi:inD s P C d x
    ·simp only[hdi,Yb,Bool.false_eq_true,if_false];exact hq
    ·simp only[hdi,Yb,if_true];exact hq.put _
   ·simp only[];rw[Zg5 hx,hdd]
 ·rintro ⟨q,d⟩ ⟨hq,hdd⟩
  simp(disch:=omega)only[Zf]
 ·rw[Qb8 (fun(q:List (ByteArray×Int)×Dv) (x:Qm)=>(if inD s P C q.2 x=true then Yy Qe (Zp s x.1) (Zz Qe (Zp s x.1) q.1 0+1) q.1 else q.1,Yb s P C q.2 x))];simp only[Sum.elim_inr,e38,Option.bind_some,decide_true,Bool.not_true,cond_false];have hcl:(Kk s).length=s.1.length:=by unfold Kk;rw[List.length_map]
  have hce:∀x∈Kk s,0≤x∧x≤20:=fun x hx=>by unfold Kk at hx;rw[List.mem_map]at hx;obtain⟨b,-,rfl⟩:=hx;have:=List.length_filter_le (fun e:Qm=>Qe (Zp s e.1) b) s.2.2.2.1;have:=few.e;omega
  simp only[hcl,decide_true,Bool.not_true,cond_false,Option.bind_some];have hfc:=few.c;rw[←hcl];rw[←hcl]at hfc;have hsum:=Zmi hv;generalize Kk s=K at hce hsum hfc;refine Jn K (fun(z:Nat) i=>((z:Int),(i:Int))) (fun x z=>.inl (z+x.toNat)) (fun z=>(z:Int)) (fun i z=>z≤20*i) 0 (by omega) rfl (by omega) ?_ ?_ ?_
  ·intro i x z hi hx hz;obtain⟨x1,x2⟩:=hce x (List.mem_of_getElem? hx);refine⟨?_,fun z' h=>?_⟩
   ·have hz2:(z:Int)+x=((z+x.toNat:Nat):Int):=by omega
    simp(disch:=omega)only[Zk,Zi,Int.toNat_natCast,getD_some hx,Zh];rw[hz2];rfl
   ·simp only[Sum.inl.injEq]at h;omega
  ·intro z hz;simp(disch:=omega)only[Zf]
  ·rw[Qb8 (fun(z:Nat) (x:Int)=>z+x.toNat),hsum];simp only[decide_true,cond_true,Option.bind_some]
theorem Zum{F:Nat}{m:Mt}{s:Qy}{c:ByteArray}(hF:100000≤F)(hm:m.2.2.2.2.length<F)(hmb:m.2.2.2.2.length*128≤140737488355328)(f:Qk0 F s)(hb:ByS s):cv9 F (m,s,c) m s=some true:=by
 have hF4:400≤F:=by omega
 have hd:Q2=dC:=rfl;obtain⟨b1,h1,h1'⟩:=l51 hF hm hmb f hb;unfold cv9;simp only[Zo,h1,hd,Option.bind_some];cases b1 with
 |false=>rfl
 |true=>
  obtain⟨hM,hH,hv⟩:=h1' rfl;have e47:c47 F (m,c)=some (cI m c):=l47 hm (by have:=hM.n;omega) c;simp only[Bool.not_true,cond_false,e47,Option.bind_some];by_cases hc:cI m c<0
  ·simp only[hc,decide_true,cond_true,Option.bind_some]
  ·have hc':0≤cI m c:=by omega
   obtain⟨j,y,j1,j2,j3,-⟩:=Qaj hc';have j1':cI m c=(j:Int):=j1;have hC:m.2.2.2.2.getD j dC=cAt m c:=by unfold cAt;rw[j1'];rfl
   simp only[hc,decide_false,cond_false];simp(disch:=omega)only[j1',Zi,Int.toNat_natCast,hC,Option.bind_some];by_cases hr:0<(cAt m c).2.2.2.2.2.2.2.2.2.2
   ·simp only[hr,decide_true,cond_true,Option.bind_some]
   ·simp only[hr,decide_false,cond_false,Zyx hF4 hM hH hv hc' hr,Option.bind_some,Quc,Z2]
theorem Zyb(a:Mt×Qy×ByteArray)(hok:Qw.ok [atM,atS,.val .str] a):∃F,c9 F a=some true:=by obtain⟨m,s,c⟩:=a;obtain⟨k1,k2,-⟩:=hok;have hmb:=okM k1;have hb:=okS k2;obtain⟨r1,r2,r3⟩:=Zv2 m s;refine⟨Qd4 m s,?_⟩;generalize Qd4 m s=F at r1 r2 r3;have e15:c15 F (m.1,m.2.1,m.2.2.1,m.2.2.2.1,m.2.2.2.2)=some m:=l15 r2 hmb;have e16:c16 F (s.1,s.2.1,s.2.2.1,s.2.2.2.1,s.2.2.2.2)=some s:=l16 ⟨r3.l,r3.e,r3.t⟩ ⟨hb.l,hb.e,hb.t⟩;unfold c9 tw;simp only[e15,e16,Zum r1 r2 hmb r3 hb,Option.bind_some,Quc,Z2]
end Go.Proofs.Tryz

/- Plain lemmas: data is the same as itself. Part An of the own logic: annotations at each return. And further parts. -/
import Derived.Test.YtpkbmngnolhopaaGreatDoorXSxQf
import Derived.Shelf.SortM.Plain
import Derived.Shelf.SortM.SortNone
import Derived.Test.YtpkbmngnolhopaaGreatDoorXSxQs
set_option linter.unusedVariables false
set_option linter.unusedSimpArgs false
open List renaming getElem?_eq_some_iff->C,eq_nil_of_length_eq_zero->I,length_map->J,mergeSort_perm->R,length_append->ZA,pairwise_mergeSort->ZB,length_mergeSort->ZC,mem_singleton->ZD,size_toArray->ZE,nodup_append->ZF,getElem_map->ZG,nodup_range->ZH,mem_append->ZI,mem_range->ZJ
namespace Go.Sx
open Go
def Jp{α:Type}(f:α->α->Bool):Prop:=∀x,f x x=true
theorem Qf2{α:Type}{f:α->α->Bool}(hf:Jp f):Jp (Wp f)
 |[]=>rfl
 |x::l=>by simp only[Wp,hf x];exact Qf2 hf l
theorem Qfx{α β:Type}{f:α->α->Bool}{g:β->β->Bool}(hf:Jp f)(hg:Jp g):Jp (W9 f g):=fun x=>by simp only[W9,hf x.1,hg x.2]
theorem Yj5{α β:Type}{f:α->α->Bool}{g:β->β->Bool}(hf:Jp f)(hg:Jp g):Jp (Qcd f g):=fun x=>by
 cases x with
 |inl a=>exact hf a
 |inr b=>exact hg b
theorem Ysm:Jp Qfm:=fun x=>by cases x<;>rfl
theorem Ynt:Jp U2:=fun x=>by simp[U2]
theorem Zas:Jp Qc:=fun x=>by simp[Qc]
theorem Qze:Jp Qip:=fun x=>by simp[Qip]
theorem eqv_rf:∀(n:Nat),(∀(t:Ty),SizeOf.sizeOf t<=n->Jp t.eqv)∧(∀(ts:List Ty),SizeOf.sizeOf ts<=n->Jp (Qj.eqv ts)):=by
 intro n;induction n with
 |zero=>exact⟨fun t ht=>by(cases t<;>simp at ht),fun ts ht=>by(cases ts<;>simp at ht)⟩
 |succ n ih=>
  obtain⟨ih1,ih2⟩:=ih;refine⟨fun t ht=>?_,fun ts ht=>?_⟩
  ·match t,ht with
   |.int k,ht=>exact Ynt
   |.bool,ht=>exact Ysm
   |.str,ht=>exact Zas
   |.seq row,ht=>exact Qf2 (ih2 row (by simp at ht;omega))
  ·match ts,ht with
   |[],ht=>exact fun a=>rfl
   |[t],ht=>exact ih1 t (by simp at ht;omega)
   |t::t'::ts,ht=>exact Qfx (ih1 t (by simp at ht;omega)) (ih2 (t'::ts) (by simp at ht⊢;omega))
theorem Ty.eqv_rf(t:Ty):Jp t.eqv:=(Sx.eqv_rf _).1 t (Nat.le_refl _)
theorem Qj.eqv_rf(ts:List Ty):Jp (Qj.eqv ts):=(Sx.eqv_rf _).2 ts (Nat.le_refl _)
theorem Qe.eqv_rf:∀(a:Qe),Jp a.eqv
 |.val t=>Ty.eqv_rf t
 |.agg row=>Qj.eqv_rf row
theorem Qt.eqv_rf:∀(l:List Qe),Jp (Qt.eqv l)
 |[]=>fun a=>rfl
 |[a]=>Qe.eqv_rf a
 |a::a'::l=>Qfx (Qe.eqv_rf a) (Qt.eqv_rf (a'::l))
theorem Ji.eqv_rf:∀(l:PL),Jp (Ji.eqv l)
 |[]=>fun a=>rfl
 |[p]=>Qe.eqv_rf p.2
 |p::p'::l=>Qfx (Qe.eqv_rf p.2) (Ji.eqv_rf (p'::l))
theorem Qq.eqv_rf:∀(c:Qq),Jp c.eqv
 |.slot _ a=>Qe.eqv_rf a
 |.vec _ _ row=>Qf2 (Qj.eqv_rf row)
 |.one _ _ row=>Qj.eqv_rf row
 |.mix _ _ _ dat _=>Ji.eqv_rf dat
 |.map _ k v=>Qf2 (Qfx (Qe.eqv_rf k) (Qe.eqv_rf v))
 |.iter _=>Qfx Zas Qze
 |.over _ _=>fun a=>rfl
 |.nest _ _ _ row=>Qf2 (Qf2 (Qj.eqv_rf row))
 |.fix _ _ _=>fun a=>rfl
 |.mit _ _=>Qfx Qze (Qf2 Qze)
theorem Yi.eqv_rf:∀(l:List Qq),Jp (Yi.eqv l)
 |[]=>fun a=>rfl
 |[c]=>Qq.eqv_rf c
 |c::c'::l=>Qfx (Qq.eqv_rf c) (Yi.eqv_rf (c'::l))
theorem Zv.eqv_rf:∀(l:Xq),Jp (Zv.eqv l)
 |[]=>fun a=>by cases a
 |[a]=>Yi.eqv_rf _
 |a::a'::l=>Yj5 (Yi.eqv_rf _) (Zv.eqv_rf (a'::l))
def Qb6(e:Zi):Code->Zi
 |.seq a b=>.two (Qb6 e a) (Qb6 e b)
 |.cond _ a b=>.two (Qb6 e a) (Qb6 e b)
 |.block _ c=>.one (Qb6 e c)
 |.loop c=>.one (Qb6 e c)
 |.scope c=>.one (Qb6 e c)
 |.ret=>e
 |_=>.leaf
def Qdz(slot:Nat):Code->Zi
 |.seq a b=>.two (Qdz slot a) (Qdz slot b)
 |.cond _ a b=>.two (Qdz slot a) (Qdz slot b)
 |.block _ c=>.one (Qdz slot c)
 |.loop c=>.one (Qdz slot c)
 |.scope c=>.one (Qdz slot c)
 |.ret=>.unslb slot .leaf
 |_=>.leaf
def Wg:Code->Zi
 |.seq _ (.seq _ r)=>.two .leaf (.two .leaf (.slb 0 (Qdz 6 r)))
 |_=>.leaf
theorem Wi.bare{cx:Cx}{g:Nat}{pf:PF}(h:Wi cx g pf):Wi cx.bare g pf:=⟨h.fn,h.ok⟩
theorem Qg.at2{cx:Cx}{g:Nat}{pc:PC}(h:Qg cx g pc){a0:Qt pc.ats}{y0:Qt pc.rts}(h0:Qg cx g {ats:=pc.ats,rts:=pc.rts,code:=Go.Sx.one a0 y0}):Qg cx g (pc.at a0 y0):=
 ⟨h.fn,fun a y hy=>by
  have hy:(bif Qt.eqv pc.ats a a0 then some y0 else pc.code a)=some y:=hy;cases e:Qt.eqv pc.ats a a0 with
  |true=>rw[e]at hy;exact h0.ok a y (by show(bif Qt.eqv pc.ats a a0 then some y0 else none)=some y;rw[e];exact hy)
  |false=>rw[e]at hy;exact h.ok a y hy⟩
def Yq(l:List ByteArray):List ByteArray:=((l.map fun s=>s.data.toList).mergeSort fun x y=>decide (x<=y)).map fun b=>⟨b.toArray⟩
def Qzg:Sm where
 pre:=fun args H=>match args with
  |[.sl d _ _ _]=>match H[d]? with
   |some (.tvec _ [.str] _)=>true
   |_=>false
  |_=>false
 run:=fun X args H k=>match args with
  |[.sl d sz st n]=>match H[d]? with
   |some (.tvec ty [.str] l)=>gd (Nat.beq sz 1&&(Nat.beq st 0&&(decide (n=l.length)&&decide (l.length<4611686018427387904)))) (k .any (H.set d (.tvec ty [.str] (Yq l))) [d] [])
   |_=>none
  |_=>none
theorem Zcg{α:Type}[Inhabited α](enc:α->Value)(d:Array α)(c:Array Value)(k:Nat)(h:k<c.size):(Sort.putCells enc 0 d c)[k]? =some (if k<d.size then enc d[k]! else c[k]):=by unfold Sort.putCells;rw[Array.getElem?_mapIdx,Array.getElem?_eq_getElem h];simp
theorem Zk3(L:List (Qj [Ty.str])):(Qw [Ty.str] L).length=L.length:=by unfold Qw;exact J _
theorem Que(s:Nat):∀(l:List ByteArray) (q:Nat),Ys (Qw [Ty.str] l) q s=if s=0 then(l[q]?).map (fun z=>SV.pv (.lit (.string z)))else none
 |[],q=>by cases s<;>rfl
 |z::l,0=>by
  cases s with
  |zero=>rfl
  |succ s=>rfl
 |z::l,q+1=>Que s l q
theorem Yfy{M:Qd}{U:Env}{H:List Qb}{w:World}(h:Mem M U H w)(os:Array Obj):Mem M U H (Sort.grow w os)∧Fr M U H w M U H (Sort.grow w os) H.length [] []:=by
 have lt:∀s o p b,H[s]? =some o->o.live=true->U s=some p->p.has b->b<w.heap.size:=fun s o p b a b' c d=>h.J0 a b' c d;have eqb:∀b,b<w.heap.size->(Sort.grow w os).heap[b]? =w.heap[b]? :=fun b hb=>by show(w.heap++os)[b]? =w.heap[b]?;rw[Array.getElem?_append_left hb]
 have hsz:w.heap.size<=(Sort.grow w os).heap.size:=by show w.heap.size<=(w.heap++os).size;rw[Array.size_append];omega
 refine⟨⟨fun b o hb=>(eqb b (h.Qnj hb)).trans (h.imm b o hb),fun s o he=>?_,h.seps,h.diss,h.fresh,fun s o p b he hl hp hb=>Nat.lt_of_lt_of_le (h.lts s o p b he hl hp hb) hsz⟩,?_⟩
 ·by_cases hl:o.live=true
  ·exact(h.own s o he).mono M.le_refl U.le_refl rfl fun p b hp hb=>eqb _ (lt s o p b he hl hp hb)
  ·cases o<;>simp[Qb.live]at hl;trivial
 ·exact⟨M.le_refl,fun b o a c=>(by rw[a]at c;cases c),fun b hb=>.inr hb,fun b hb _=>eqb b hb,hsz,fun s o hs _ he hl=>⟨⟨o,he,hl⟩,fun p hp=>⟨hp,fun b hb=>eqb _ (lt s o p b he hl hp hb)⟩⟩,fun s hs _=>rfl,rfl,rfl⟩
theorem Qgx(l:List ByteArray):(Yq l).length=l.length:=by unfold Yq;rw[J,ZC,J]
theorem Yk2{P:Program}{ρ0:Shelf.Ren}{g:Nat}(hg:ρ0.f 6=g)(L:Proofs.SlLaysM.n6 P ρ0){H:List Qb}{d n ty:Nat}{l:List ByteArray}(ho:H[d]? =some (.tvec ty [.str] l))(h3:n=l.length)(h4:l.length<4611686018427387904):
  Xw P g [.sl d 1 0 n] H fun x H' t f=>x=.any∧H'=H.set d (.tvec ty [.str] (Yq l))∧t=[d]∧f=[]:=by
 intro M U w vs hm hr;obtain⟨hr1,hr2⟩:=hr;match vs,hr1 with
 |[v0],_=>
  have r0:=hr2 0 v0 _ rfl rfl;cases r0 with
  |slz=>
   have hl:l=[]:=I h3.symm;subst hl;have hset:H.set d (.tvec ty [.str] (Yq []))=H:=by
    have:Yq []=[]:=I (Qgx []);rw[this];exact List.ext_getElem? fun i=>by
     rw[List.getElem?_set];split
     ·rename_i e;subst e;rw[ho,if_pos (C.1 ho).1]
     ·rfl
   have hcall:=fun p=>Proofs.AnyM.slices_Sort_string_none L p 0 w;rw[hg]at hcall;refine callsIn_wide.2 ((hcall _).mono ?_)
   rintro e w' ⟨rfl,rfl⟩
   exact⟨_,_,H,M,U,[d],[],rfl,⟨rfl,hset.symm,rfl,rfl⟩,.any _,hm,Fr.refl ..⟩
  |sl _ _ _ _ c kk p hp hkk hcc hn hc6=>
   have hown:=hm.own d _ ho;rcases hown with⟨hx,_⟩|⟨p',hp',hrow⟩
   ·rw[hx]at hp;cases hp
   ·rw[hp]at hp';cases hp';obtain⟨cs,a1,a2,a3,a4,a5,a6⟩:=hrow.ex;have hk0:kk=0:=by simpa using hkk
    subst hk0;have hll:=Zk3 l;rw[hll]at a3 a4;have hl1:([Ty.str]:List Ty).length=1:=rfl;rw[hl1]at a3;have hcs:∀q (h:q<l.length),cs[q]? =some (.string l[q]):=by
     intro q hq;obtain⟨v,e1,e2⟩:=a4 q 0 hq (by simp);have e1':cs[q]? =some v:=by simpa using e1
     have hcell:Ys (Qw [Ty.str] l) q 0=some (.pv (.lit (.string l[q]))):=by rw[Que,if_pos rfl,List.getElem?_eq_getElem hq];rfl
     have e3:=(a5 q 0 _ v hcell e1).2.2.Zt;rw[e1',e3]
    let ss:=l.map fun s=>s.data.toList;have hsl:ss.length=l.length:=J _;have hH:Sort.Holds Proofs.encStr w p.block 0 ss.toArray:=by
     intro q hq;have hq':q<l.length:=by rw[ZE,hsl]at hq;exact hq
     refine⟨?_,?_⟩
     ·have e:=hcs q hq';simp only[World.cell?,a1,Nat.zero_add];rw[e,getElem!_pos ss.toArray q hq];simp[ss,Proofs.encStr]
     ·simp[World.frozen?,a1]
    have hblk:p.block<w.heap.size:=(Array.getElem?_eq_some_iff.1 a1).1;have hcall:=Proofs.AnyM.slices_Sort_string L p.block 0 c ss w hH hblk (by rw[hsl];exact h4);rw[hg]at hcall;refine(callsIn_wide.2 ?_);have ev:([Value.slice (some ⟨p.block,0,none⟩) n c]:List Value).toArray= #[.slice (some ⟨p.block,0,none⟩) ss.length c]:=by rw[h3,hsl]
    rw[ev];refine hcall.mono ?_
    rintro e w' ⟨rfl,q,os,rfl⟩
    generalize hD:(ss.mergeSort fun x y=>decide (x<=y)).toArray=D;have hDs:D.size=l.length:=by rw[<-hD,ZE,ZC,hsl]
    have hnl:=Qgx l;have hln:(Qw [Ty.str] (Yq l)).length=(Yq l).length:=Zk3 (Yq l);have hcl:∀q s,Ys (Qw [Ty.str] (Yq l)) q s=if s=0 then((Yq l)[q]?).map (fun z=>SV.pv (.lit (.string z)))else none:=fun q s=>Que s (Yq l) q;have hget:∀q (h:q<(Yq l).length),Proofs.encStr D[q]! =.string (Yq l)[q]:=by intro q hq;rw[getElem!_pos D q (by omega)];subst hD;simp only[Yq,List.getElem_toArray,ZG];rfl
    have hheap:(Sort.putRow Proofs.encStr (Sort.ahead w q) p.block 0 D).heap[p.block]? =some (.cells (Sort.putCells Proofs.encStr 0 D cs) ty (0,0)):=by simp[Sort.putRow,Sort.mapBlock,Sort.ahead,Array.getElem?_modify,a1,Sort.onCells]
    have hsz:(Sort.putCells Proofs.encStr 0 D cs).size=cs.size:=by simp[Sort.putCells]
    have hos:Q9 M U (Sort.putRow Proofs.encStr (Sort.ahead w q) p.block 0 D) d (.tvec ty [.str] (Yq l)):=by
     refine .inr ⟨p,hp,⟨_,hheap,by rw[hsz];exact a2,?_,?_,?_,?_⟩⟩
     ·rw[hln,hl1];omega
     ·intro r s hr hs;have hr':r<(Yq l).length:=by rw[hln]at hr;exact hr
      have hs':s=0:=by simp at hs;exact hs
      subst hs';refine⟨Proofs.encStr D[r]!,?_,?_⟩
      ·rw[hl1,Nat.mul_one,Nat.add_zero,Zcg _ _ _ _ (by omega),if_pos (by omega)]
      ·rfl
     ·intro r s x v hx hv;rw[hcl]at hx;split at hx
      ·rename_i hs0;subst hs0;cases hq:(Yq l)[r]? with
       |none=>rw[hq]at hx;cases hx
       |some z=>have hr':=(C.1 hq).1;rw[hq]at hx;cases hx;refine⟨by rw[hln];exact hr',by simp,?_⟩;rw[hl1,Nat.mul_one,Nat.add_zero,Zcg _ _ _ _ (by omega),if_pos (by omega),hget r hr']at hv;have hz:(Yq l)[r]=z:=(C.1 hq).2;rw[hz]at hv;cases hv;exact .pv (.lit _)
      ·cases hx
     ·intro r s x hx;rw[hcl]at hx;split at hx
      ·rename_i hs0;subst hs0;cases hq:(Yq l)[r]? with
       |none=>rw[hq]at hx;cases hx
       |some z=>exact⟨by rw[hln];exact(C.1 hq).1,by simp⟩
      ·cases hx
    obtain⟨g1,g2⟩:=hm.put (so:=.tvec ty [.str] (Yq l)) (w':=Sort.putRow Proofs.encStr (Sort.ahead w q) p.block 0 D) ho rfl hp (fun b hb=>by simp[Sort.putRow,Sort.mapBlock,Sort.ahead,Array.getElem?_modify,Ne.symm hb]) (by simp[Sort.putRow,Sort.mapBlock,Sort.ahead]) rfl hos;obtain⟨k1,k2⟩:=Yfy g1 os;refine⟨_,_,_,_,_,[d],[],rfl,⟨rfl,rfl,rfl,rfl⟩,.any _,k1,?_⟩;rw[List.length_set]at k2;exact g2.trans k2 (fun _ h=>h) (fun _ h=>by cases h) (fun _ h=>h) (fun _ h=>h)
theorem Zx2{cx:Cx}{ρ0:Shelf.Ren}{g:Nat}(hg:ρ0.f 6=g)(hf:∃fn,cx.fns.lookup g=some fn)(L:Proofs.SlLaysM.n6 cx.P ρ0):Qbu cx g Qzg:=by
 refine⟨hf,fun X args H k y hk=>?_⟩;simp only[Qzg]at hk;split at hk
 ·rename_i d sz st n;split at hk
  ·rename_i ty l ho;obtain⟨hc,hk2⟩:=Ym hk;simp only[Bool.and_eq_true,decide_eq_true_eq]at hc;obtain⟨h1,h2,h3,h4⟩:=hc;have h1:=Nat.eq_of_beq_eq_true h1;have h2:=Nat.eq_of_beq_eq_true h2;subst h1;subst h2;refine(Yk2 hg L (l:=l) ho h3 h4).mono ?_
   rintro x H' t f ⟨rfl,rfl,rfl,rfl⟩
   exact hk2
  ·cases hk
 ·cases hk
theorem Qvg{n j:Nat}{seen:List Nat}:j∈Ww n seen↔j<n∧j∉seen:=by unfold Ww;rw[List.mem_filter,ZJ];simp
theorem Zyk(n:Nat)(seen:List Nat):(Ww n seen).Nodup:=List.Nodup.sublist List.filter_sublist ZH
theorem Zc3{n:Nat}{seen:List Nat}(h1:seen.Nodup)(h2:∀j∈seen,j<n):(seen++Ww n seen).Perm (List.range n):=by
 refine(List.perm_ext_iff_of_nodup ?_ ZH).2 fun j=>?_
 ·rw[ZF];refine⟨h1,Zyk n seen,fun a ha b hb e=>?_⟩;subst e;exact(Qvg.1 hb).2 ha
 ·rw[ZI,Qvg,ZJ];constructor
  ·rintro (h|h)
   ·exact h2 j h
   ·exact h.1
  ·intro h;by_cases hj:j∈seen
   ·exact .inl hj
   ·exact .inr ⟨h,hj⟩
theorem Zbi{n:Nat}{seen:List Nat}(h1:seen.Nodup)(h2:∀j∈seen,j<n):seen.length+(Ww n seen).length=n:=by have:=(Zc3 h1 h2).length_eq;rwa[ZA,List.length_range]at this
theorem Zhr(l:List Nat)(j:Nat):X2 (l++[j])=j:=by unfold X2;rw[List.getLastD_eq_getLast?,List.getLast?_append];rfl
theorem Zpz{O β Y A E:Type}[Inhabited E]{eq:Y->Y->Bool}(he:∀y,eq y y=true){left:O->Nat×List Nat}{nil:O->Option (O ⊕ β)}{step:O->Nat->Option (O ⊕ β)}{K:β->Option Y}{y:Y}
  (l:List E) (mk:List Nat->A->O) (f:A->E->A) (out:A->β->Prop) (a0:A) (P:Nat->A->Prop)
  (hl:∀seen a,left (mk seen a)=(l.length,seen))
  (hstep:∀seen a j (hj:j<l.length),j∉seen->seen.length<l.length->P seen.length a->step (mk seen a) j=some (.inl (mk (seen++[j]) (f a l[j])))∧P (seen.length+1) (f a l[j]))
  (hnil:∀seen a,seen.length=l.length->P l.length a->∃b,nil (mk seen a)=some (.inr b)∧out a b)
  (hP:P 0 a0) (hK:∀l':List E,l'.Perm l->P l.length (l'.foldl f a0)->∀b,out (l'.foldl f a0) b->K b=some y) {F:Nat} (hF:l.length<F):Vj eq left nil step K F (mk [] a0)=some y:=by
 have key:∀(n:Nat) (seen:List Nat) (F:Nat),seen.Nodup->(∀j∈seen,j<l.length)->n+seen.length=l.length->n<F->P seen.length ((seen.map fun j=>l[j]!).foldl f a0)->
   Vj eq left nil step K F (mk seen ((seen.map fun j=>l[j]!).foldl f a0))=some y:=by
  intro n;induction n with
  |zero=>
   intro seen F h1 h2 h3 h4 h5;obtain⟨F,rfl⟩:∃F',F=F'+1:=⟨F-1,by omega⟩;have hlen:=Zbi h1 h2;have h0:Ww l.length seen=[]:=I (by omega);have hls:seen.length=l.length:=by omega
   rw[hls]at h5;obtain⟨b,n1,n2⟩:=hnil seen _ hls h5;simp only[Vj,hl,h0,n1];have hp:(seen.map fun j=>l[j]!).Perm l:=by
    have hp:=Zc3 h1 h2;rw[h0,List.append_nil]at hp;have:=hp.map fun j=>l[j]!;have e:(List.range l.length).map (fun j=>l[j]!)=l:=by
     apply List.ext_getElem
     ·simp
     ·intro i hi hi';simp only[ZG,List.getElem_range,getElem!_pos l i hi']
    rwa[e]at this
   exact hK _ hp h5 b n2
  |succ n ih=>
   intro seen F h1 h2 h3 h4 h5;obtain⟨F,rfl⟩:∃F',F=F'+1:=⟨F-1,by omega⟩;have hlen:=Zbi h1 h2;cases hlf:Ww l.length seen with
   |nil=>rw[hlf]at hlen;simp at hlen;omega
   |cons j0 l0=>
    simp only[Vj,hl,hlf];rw[<-hlf];refine Zjn he (by rw[hlf];simp) fun j hj=>?_;obtain⟨hj1,hj2⟩:=Qvg.1 hj;obtain⟨s1,s2⟩:=hstep seen _ j hj1 hj2 (by omega) h5;rw[s1];have e:f ((seen.map fun j=>l[j]!).foldl f a0) l[j]=((seen++[j]).map fun j=>l[j]!).foldl f a0:=by simp only[List.map_append,List.map_cons,List.map_nil,List.foldl_append,List.foldl_cons,List.foldl_nil,getElem!_pos l j hj1]
    simp only;rw[e]at s2⊢;refine ih (seen++[j]) F ?_ ?_ ?_ (by omega) (by rw[ZA];exact s2)
    ·rw[ZF];refine⟨h1,by simp,fun a ha b hb e=>?_⟩;rw[ZD]at hb;subst e;subst hb;exact hj2 ha
    ·intro i hi;rcases ZI.1 hi with hi|hi
     ·exact h2 i hi
     ·rw[ZD]at hi;omega
    ·rw[ZA];simp;omega
 exact key l.length [] F (by simp) (fun j hj=>by cases hj) (by simp) hF hP
theorem Zho{O β Y A E Z:Type}[Inhabited E]{eq:Y->Y->Bool}{left:O->Nat×List Nat}{nil:O->Option (O ⊕ β)}{step:O->Nat->Option (O ⊕ β)}{K:β->Option Y}{k:Y->Option Z}{r:Option Z}{t:O}{F:Nat}
  (l:List E) (mk:List Nat->A->O) (f:A->E->A) (out:A->β->Prop) (a0:A) (P:Nat->A->Prop) (y:Y) (ht:t=mk [] a0) (he:∀y,eq y y=true)
  (hl:∀seen a,left (mk seen a)=(l.length,seen)) (hF:l.length<F)
  (hstep:∀seen a j (hj:j<l.length),j∉seen->seen.length<l.length->P seen.length a->step (mk seen a) j=some (.inl (mk (seen++[j]) (f a l[j])))∧P (seen.length+1) (f a l[j]))
  (hnil:∀seen a,seen.length=l.length->P l.length a->∃b,nil (mk seen a)=some (.inr b)∧out a b)
  (hP:P 0 a0) (hK:∀l':List E,l'.Perm l->P l.length (l'.foldl f a0)->∀b,out (l'.foldl f a0) b->K b=some y) (hk:k y=r):Option.bind (Vj eq left nil step K F t) k=r:=by
 rw[ht,Zpz he l mk f out a0 P hl hstep hnil hP hK hF];exact hk
theorem Zr4{l l':List ByteArray}(h:l.Perm l'):Yq l=Yq l':=by
 unfold Yq;congr 1;have hle:∀(a b:List UInt8),a<=b->b<=a->a=b:=fun a b h1 h2=>List.le_antisymm h1 h2;have tot:∀(a b:List UInt8),(decide (a<=b)||decide (b<=a))=true:=fun a b=>by have:=List.le_total a b;simpa using this
 have trans:∀(a b c:List UInt8),decide (a<=b)=true->decide (b<=c)=true->decide (a<=c)=true:=fun a b c h1 h2=>by have h1:=of_decide_eq_true h1;have h2:=of_decide_eq_true h2;exact decide_eq_true (List.le_trans h1 h2)
 refine List.Perm.eq_of_pairwise (le:=fun a b=>decide (a<=b)=true) (fun a b _ _ h1 h2=>hle a b (of_decide_eq_true h1) (of_decide_eq_true h2)) (ZB trans tot _) (ZB trans tot _) ?_;exact(R ..).trans ((h.map _).trans (R ..).symm)
theorem Qvh(l:List ByteArray):(Yq l).Perm l:=by
 unfold Yq;refine((R ..).map _).trans ?_;rw[List.map_map];have:((fun b:List UInt8=>(⟨b.toArray⟩:ByteArray))∘fun s:ByteArray=>s.data.toList)=id:=by funext s;rfl
 rw[this,List.map_id]
end Go.Sx

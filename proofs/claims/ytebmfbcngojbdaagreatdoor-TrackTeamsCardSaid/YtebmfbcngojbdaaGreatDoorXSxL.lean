/- Part L of the own logic: operations that may be taken first. Written by gen/mk.py out of the parts E, G, J. Part M of the own logic: a region whose order is asked of the tape. And further parts. -/
import Derived.Test.YtebmfbcngojbdaaGreatDoorXSxAb
import Derived.RangeFuncRecord
import Derived.ScopeJumps
set_option linter.unusedVariables false
set_option linter.unusedSimpArgs false
set_option linter.unnecessarySimpa false
namespace Go.Sx
open Go
def Q5(P:Program)(S:Sem Value)(M:Qc)(ρ:Env)(Sw:World→Prop)(H:List Qa)(K:Qr):Prop:=
 ∃v x,K x H [] []∧Qe M ρ v x∧∀w,Sw w→S.run P w=.ok v w
def Z7(P:Program)(S:Sem Next)(M:Qc)(ρ:Env)(Sw:World→Prop)(H:List Qa)(K:Qr):Prop:=
 ∃v x,K x H [] []∧Qe M ρ v x∧∀w,Sw w→S.run P w=.ok (.value v) w
theorem Q5.same{P:Program}{S:Sem Value}{M:Qc}{ρ:Env}{H:List Qa}{Sw:World→Prop}{K:Qr}{v:Value}{x:SV}(hr:∀w,Sw w→S.run P w=.ok v w)(hx:Qe M ρ v x)(hk:K x H [] []):Q5 P S M ρ Sw H K:=⟨v,x,hk,hx,hr⟩
theorem Z7.same{P:Program}{S:Sem Next}{M:Qc}{ρ:Env}{H:List Qa}{Sw:World→Prop}{K:Qr}{v:Value}{x:SV}(hr:∀w,Sw w→S.run P w=.ok (.value v) w)(hx:Qe M ρ v x)(hk:K x H [] []):Z7 P S M ρ Sw H K:=⟨v,x,hk,hx,hr⟩
theorem Q5.toN{P:Program}{S:Sem Value}{M:Qc}{ρ:Env}{H:List Qa}{Sw:World→Prop}{K:Qr}(h:Q5 P S M ρ Sw H K):Z7 P (do pure (.value (←S))) M ρ Sw H K:=by obtain⟨v,x,h1,h2,h3⟩:=h;exact⟨v,x,h1,h2,fun w hw=>by simp[Sem.run_bind,h3 w hw]⟩
theorem Qt3{P:Program}{M:Qc}{ρ:Env}{H:List Qa}{w0:World}{Sw:World→Prop}{K:Qr}{t:TypeId}{i:TI}(ht:Yf P t i)(hm:Mem M ρ H w0){b o n r j sz:Nat}{row:List SV}
  (hrow:r<n→∀k x,row[k]? =some x→∃v,(∀w,Sw w→w.cell? ⟨b,o+r*sz+k,none⟩=some v)∧Qe M ρ v x)
  (h:(Jx i n row r j).holds H K):Q5 P (Instr.loadAt t (.pointer (some ⟨b,o+r*sz+j,none⟩))) M ρ Sw H K:=by
 simp only[Jx,Qn.holds,decide_eq_true_eq]at h;obtain⟨hr,h⟩:=h;have hrow:=hrow hr;split at h
 ·rename_i hd;simp only[Qn.holds,decide_eq_true_eq]at h;obtain⟨hj,hk⟩:=h;have hex:∀k,k<i.size→∃v,(∀w,Sw w→w.cell? ⟨b,o+r*sz+(j+k),none⟩=some v)∧Qe M ρ v (row.getD (j+k) .any):=fun k hk=>by
   have hlt:j+k<row.length:=by omega
   obtain⟨v,h1,h2⟩:=hrow (j+k) row[j+k] (by simp[hlt]);exact⟨v,h1,by simpa[List.getD,hlt]using h2⟩
  let f:Nat→Value:=fun k=>if h:k<i.size then Classical.choose (hex k h)else undef;have hf:∀k,k<i.size→(∀w,Sw w→w.cell? ⟨b,o+r*sz+(j+k),none⟩=some (f k))∧Qe M ρ (f k) (row.getD (j+k) .any):=fun k hk=>by simp only[f,dif_pos hk];exact Classical.choose_spec (hex k hk)
  have hcs:∀(k:Nat) (v:Value),((List.range i.size).map f)[k]? =some v→k<i.size∧v=f k:=fun k v hv=>by simp only[List.getElem?_map,Option.map_eq_some_iff]at hv;obtain⟨m,hm',rfl⟩:=hv;obtain⟨h1,h2⟩:=List.getElem?_eq_some_iff.1 hm';simp at h1 h2;subst h2;exact⟨h1,rfl⟩
  refine Q5.same (v:=.agg ((List.range i.size).map f).toArray) ?_ ?_ hk
  ·intro w hw;simp only[Instr.loadAt,Instr.sureAddr,Sem.run_bind,Sem.run_pure,Result.andThen_ok];exact Qzg ht hd _ (by simp) fun k v hv=>by obtain⟨h1,rfl⟩:=hcs k v hv;rw[Nat.add_assoc (o+r*sz)];exact(hf k h1).1 w hw
  ·refine Qe.Yd (by simp;omega) fun k v x hv hx=>?_;obtain⟨h1,rfl⟩:=hcs k v hv;have h2:=(hf k h1).2;rw[List.getElem?_take]at hx;simp only[h1,if_true,List.getElem?_drop]at hx;simpa[List.getD,hx]using h2
 ·rename_i hd;simp only[Qn.holds,decide_eq_true_eq]at h;obtain⟨hj,hk⟩:=h;obtain⟨v,h1,h2⟩:=hrow j row[j] (by simp[hj]);refine Q5.same (v:=v) ?_ ?_ hk
  ·intro w hw;simp only[Instr.loadAt,Instr.sureAddr,Sem.run_bind,Sem.run_pure,Result.andThen_ok];exact Qf1 ht (by simpa using hd) (h1 w hw)
  ·simpa[List.getD,hj]using h2
theorem Zg7{M:Qc}{w:World}(hm:∀b o,M b=some o→w.heap[b]? =some o){b k:Nat}{v:Value}(h:M.cell b k=some v):w.cell? ⟨b,k,none⟩=some v:=by
 unfold Qc.cell at h;cases e:M b with
 |none=>simp[e]at h
 |some o=>rw[e]at h;have:=hm b o e;unfold World.cell?;simp only[this];cases o<;>simp_all
theorem Qqo{P:Program}{M:Qc}{ρ:Env}{H:List Qa}{w0:World}{Sw:World→Prop}{K:Qr}{t:TypeId}{i:TI}(ht:Yf P t i)(hm:Mem M ρ H w0)(hS:∀u,Sw u→∀b o,M b=some o→u.heap[b]? =some o){sz r j:Nat}{rows:List (List PV)}{v:Value}(hp:Q6 M v (.rptr sz rows r j))
  (h:(Jx i rows.length ((rows.getD r []).map .pv) r j).holds H K):Q5 P (Instr.loadAt t v) M ρ Sw H K:=by
 cases hp with
 |rptr b off _ _ _ k _ hk h0 h1 h2=>rw[hk];refine Qt3 (w0:=w0) ht hm (fun hr k x hx=>?_) h;simp only[List.getElem?_map,Option.map_eq_some_iff]at hx;obtain⟨q,hq,rfl⟩:=hx;simp[List.getD,hr]at hq;have hk2:k<sz:=Nat.lt_of_lt_of_le (List.getElem?_eq_some_iff.1 hq).1 (h2 r rows[r] (by simp[hr]));obtain⟨u,hu,_⟩:=h0 r k hr hk2;exact⟨u,fun w hw=>Zg7 (hS w hw) hu,.pv (h1 r rows[r] k q u (by simp[hr]) hq hu)⟩
theorem Zli{P:Program}{M:Qc}{ρ:Env}{H:List Qa}{w0:World}{Sw:World→Prop}{K:Qr}{t:TypeId}{i:TI}(ht:Yf P t i)(hm:Mem M ρ H w0){s sz r j:Nat}(hR:∀u,Sw u→∀p,ρ s=some p→u.heap[p.block]? =w0.heap[p.block]?){o:Qa}(ho:H[s]? =some o){v:Value}(ha:Qe M ρ v (.ptr s sz r j))
  (h:(Qba i o sz r j).holds H K):Q5 P (Instr.loadAt t v) M ρ Sw H K:=by
 unfold Qba at h;split at h
 ·rename_i ty ity row ll q;split at h
  ·exact h.elim
  ·rename_i hd;obtain⟨hc,hc2,h⟩:=h;have e1:=Nat.eq_of_beq_eq_true hc;have e2:=of_decide_eq_true hc2;cases ha with
   |ptr _ _ _ _ k p hp hk=>
    obtain⟨p',hp',hn⟩:∃p',ρ s=some p'∧Kl M ρ w0 p' ty ity row ll (some q):=by
     rcases hm.own s _ ho with⟨_,_,h3⟩|h3
     ·cases h3
     ·exact h3
    rw[hp]at hp';cases hp';obtain⟨cs,bl,a1,a2,a3,a4,a5,a6,a7,a8⟩:=hn.ex;obtain⟨q1,q2⟩:=q;have hk':k=q1:=by have:=norm_eq sz r j 1;rw[e1,e2]at this;simp only[Nat.mul_one,Nat.add_zero]at this;omega
    obtain⟨b1,b2⟩:=a6 q1 q2 rfl;obtain⟨u,hu,_⟩:=a4 q1 b1;refine Q5.same (v:=u) (fun w hw=>?_) (b2 u hu) h;simp only[Instr.loadAt,Instr.sureAddr,Sem.run_bind,Sem.run_pure,Result.andThen_ok];exact Qf1 ht hd (by rw[hk'];simp[World.cell?,hR w hw p hp,a1,hu])
 ·exact h.elim
theorem Qx1{P:Program}{tab:Qo}(htab:Qf P tab){M:Qc}{ρ:Env}{H:List Qa}{w0:World}{Sw:World→Prop}{K:Qr}(hm:Mem M ρ H w0)(hS:∀u,Sw u→∀b o,M b=some o→u.heap[b]? =some o){R:List Nat}(hR:∀u,Sw u→∀s∈R,∀p,ρ s=some p→u.heap[p.block]? =w0.heap[p.block]?)
  {t:TypeId} {a:SV} {v:Value} (ha:Qe M ρ v a) (hin:∀s sz r j,a=.ptr s sz r j→s∈R)
  (h:(Ka tab H t a).holds H K):Q5 P (Instr.loadAt t v) M ρ Sw H K:=by
 unfold Ka at h;split at h
 ·exact h.elim
 ·rename_i i hi;have ht:=htab.get hi;split at h
  ·rename_i s sz r j;split at h
   ·exact h.elim
   ·rename_i o ho;split at h
    ·exact Zli ht hm (fun u hu p hp=>hR u hu s (hin _ _ _ _ rfl) p hp) ho ha h
    ·rename_i szo hz;cases ha with
     |ptr _ _ _ _ k p hp hk=>
      obtain⟨cs,ty,a1,a2,a3,a4,a5⟩:=((hm.own s o ho).rowOf hz hp).ex;have hk':k=0+(norm sz r j szo).1*szo+(norm sz r j szo).2:=by rw[Nat.zero_add,norm_eq];exact hk
      rw[hk'];obtain⟨hfit,h⟩:=h;rw[Qnz hfit]at h;refine Qt3 (w0:=w0) ht hm (fun hr k x hx=>?_) h;obtain⟨b1,b2⟩:=a5 _ k x hr hx;obtain⟨u,hu,_⟩:=a4 _ k hr b1;exact⟨u,fun w hw=>by simp[World.cell?,hR w hw s (hin _ _ _ _ rfl) p hp,a1,hu],b2 u hu⟩
  ·rename_i sz rows r j;cases ha with
   |pv hp=>exact Qqo (w0:=w0) ht hm hS hp h
  ·rename_i row l r j;cases ha with
   |pv hp=>cases hp with
    |tptr _ _ _ _ hp=>exact Qqo (w0:=w0) ht hm hS hp (Qu1 h)
  ·exact h.elim
theorem Zsd{P:Program}{tab:Qo}(htab:Qf P tab){M:Qc}{ρ:Env}{H:List Qa}{w0:World}{Sw:World→Prop}{K:Qr}(hm:Mem M ρ H w0){t f:Nat}{x:SV}{v:Value}(hx:Qe M ρ v x)
  (h:(V5 tab t x f).holds H K):Q5 P (Instr.fieldAt t v f) M ρ Sw H K:=by
 unfold V5 at h;split at h
 ·rename_i fields sz' by' zr rw' hte;have htt:=htab.get hte;split at h
  ·exact h.elim
  ·rename_i fd hfd;split at h
   ·exact h.elim
   ·rename_i i hi;obtain⟨n,hn,i1,_⟩:=(htab.get hi).inf;split at h
    ·exact h.elim
    ·rename_i hz;have key:∀(w:World) b k,(Instr.fieldAt t (.pointer (some ⟨b,k,none⟩)) f).run P w=.ok (.pointer (some ⟨b,k+fd.offset,none⟩)) w:=fun w b k=>by simp[Instr.fieldAt,run_underlying htt.und,hfd,Instr.sureAddr,fieldPlace,sizeOf,typeInfo,hn,i1,hz,Addr.add_mid]
     split at h
     ·rename_i s sz r j;cases hx with
      |ptr _ _ _ _ k p hp hk=>exact Q5.same (fun w _=>key w _ _) (.ptr _ _ _ _ _ p hp (by omega)) h
     ·rename_i sz rows r j;cases hx with
      |pv hp=>cases hp with
       |rptr b off _ _ _ k _ hk h0 h1 h2=>exact Q5.same (fun w _=>key w _ _) (.pv (.rptr b off sz r (j+fd.offset) _ rows (by omega) h0 h1 h2)) h
     ·exact h.elim
 ·exact h.elim
theorem Zj3{P:Program}{tab:Qo}(htab:Qf P tab){M:Qc}{ρ:Env}{H:List Qa}{w0:World}{Sw:World→Prop}{K:Qr}(hm:Mem M ρ H w0){t:Nat}{x ix:SV}{v u:Value}(hx:Qe M ρ v x)(hix:Qe M ρ u ix)
  (h:(Vu tab t x ix).holds H K):Q5 P (Instr.indexAt t v u) M ρ Sw H K:=by
 unfold Vu at h;split at h
 ·rename_i k n;have:=hix.Q1;subst this;split at h
  ·rename_i e sz' by' zr rw' hte;have htt:=htab.get hte;split at h
   ·exact h.elim
   ·rename_i i hi;have ht:=htab.get hi;split at h
    ·rename_i s sz st len;split at h
     ·rename_i hsz;subst hsz;simp only[Qn.holds,decide_eq_true_eq]at h;obtain⟨h0,h1,h⟩:=h;cases hx with
      |sl _ _ _ _ c k' p hp hk hc hn h6=>refine Q5.same (fun w _=>(Qek htt.und ht h0 h1)) (.ptr _ _ _ _ _ p hp ?_) h;rw[hk,Nat.add_mul];omega
      |slz=>simp at h1;omega
     ·exact h.elim
    ·rename_i sz rows;split at h
     ·rename_i hsz;subst hsz;simp only[Qn.holds,decide_eq_true_eq]at h;obtain⟨h0,h1,h⟩:=h;cases hx with
      |pv hp=>cases hp with
       |rnil=>simp at h1;omega
       |remp=>simp at h1;omega
       |rsl b off c _ n' _ hn hc g0 g1 g2=>refine Q5.same (fun w _=>(Qek htt.und ht h0 (by omega))) (.pv (.rptr b off i.size n.toNat 0 _ rows (by omega) g0 g1 g2)) h
     ·exact h.elim
    ·exact h.elim
  ·rename_i m e sz' by' zr rw' hte;have htt:=htab.get hte;split at h
   ·exact h.elim
   ·rename_i i hi;have ht:=htab.get hi;split at h
    ·rename_i s sz r j;simp only[Qn.holds,decide_eq_true_eq]at h;obtain⟨h0,h1,h⟩:=h;cases hx with
     |ptr _ _ _ _ k' p hp hk=>exact Q5.same (fun w _=>(Qet htt.und ht h0 h1)) (.ptr _ _ _ _ _ p hp (by omega)) h
    ·rename_i sz rows r j;simp only[Qn.holds,decide_eq_true_eq]at h;obtain⟨h0,h1,h⟩:=h;cases hx with
     |pv hp=>cases hp with
      |rptr b off _ _ _ k' _ hk g0 g1 g2=>exact Q5.same (fun w _=>(Qet htt.und ht h0 h1)) (.pv (.rptr b off sz r _ _ rows (by omega) g0 g1 g2)) h
    ·exact h.elim
  ·exact h.elim
 ·exact h.elim
theorem Zfz{P:Program}{tab:Qo}(htab:Qf P tab){M:Qc}{ρ:Env}{H:List Qa}{w0:World}{Sw:World→Prop}{K:Qr}(hm:Mem M ρ H w0){t:Nat}{x:SV}{lo hi:Option SV}{v:Value}{vl vh:Option Value}
  (hx:Qe M ρ v x) (hsl:vl.isSome=lo.isSome) (hrl:∀v x,vl=some v→lo=some x→Qe M ρ v x) (hsh:vh.isSome=hi.isSome) (hrh:∀v x,vh=some v→hi=some x→Qe M ρ v x)
  (h:(Ud tab H t x lo hi).holds H K):Q5 P (Instr.sliceAt t v vl vh none) M ρ Sw H K:=by
 unfold Ud at h;split at h
 ·rename_i e sz' by' zr rw' hte;have htt:=htab.get hte;split at h
  ·exact h.elim
  ·rename_i i hi';have ht:=htab.get hi';split at h
   ·rename_i s sz st len;split at h
    ·rename_i hsz;subst hsz;split at h
     ·rename_i l hh e1 e2;simp only[Qn.holds,decide_eq_true_eq]at h;obtain⟨h0,h1,h2,h⟩:=h;have bl:=Yb hsl hrl e1;have bh:=Yb hsh hrh e2;cases hx with
      |sl _ _ _ _ c k p hp hk hc hn h6=>
       refine Q5.same (fun w _=>(Xc htt.und ht bl bh h0 h1 (by omega))) ?_ h;by_cases hcl:c=l.toNat
       ·have e0:hh.toNat-l.toNat=0:=by omega
        rw[if_pos hcl,e0,hcl,Nat.sub_self];exact .slz _ _ _ _
       ·rw[if_neg hcl];simp only[Option.map_some,Addr.add_mid];refine .sl _ _ _ _ _ _ p hp (by rw[hk,Nat.add_mul]) ?_ (by omega) (by omega);rw[show st+l.toNat+(c-l.toNat)=st+c by omega];exact hc
      |slz a b c' a'=>
       refine Q5.same (fun w _=>(Xc htt.und ht bl bh h0 h1 (by omega))) ?_ h;have hl0:l.toNat=0:=by omega
       have hh0:hh.toNat=0:=by omega
       rw[hl0,hh0];simp only[Nat.sub_self,if_true];exact .slz _ _ _ _
     ·exact h.elim
    ·exact h.elim
   ·rename_i s sz st len m;split at h
    ·rename_i hsz;subst hsz;split at h
     ·rename_i l hh e1 e2;simp only[Qn.holds,decide_eq_true_eq]at h;obtain⟨h0,h1,h2,h⟩:=h;have bl:=Yb hsl hrl e1;have bh:=Yb hsh hrh e2;cases hx with
      |slb _ _ _ _ _ hx hmc=>
      obtain⟨_,_,c9,e9,hmc⟩:=hmc;cases hx with
      |sl _ _ _ _ c k p hp hk hc hn h6=>
       injection e9 with _ _ e9;subst e9;refine Q5.same (fun w _=>(Xc htt.und ht bl bh h0 h1 (by omega))) ?_ h;by_cases hcl:c=l.toNat
       ·have e0:hh.toNat-l.toNat=0:=by omega
        have e00:m-l.toNat=0:=by omega
        rw[if_pos hcl,e0,e00,hcl,Nat.sub_self];exact .slb _ _ _ _ _ (.slz _ _ _ _) ⟨_,_,_,rfl,Nat.le_refl _⟩
       ·rw[if_neg hcl];simp only[Option.map_some,Addr.add_mid];refine .slb _ _ _ _ _ (.sl _ _ _ _ _ _ p hp (by rw[hk,Nat.add_mul]) ?_ (by omega) (by omega)) ⟨_,_,_,rfl,by omega⟩;rw[show st+l.toNat+(c-l.toNat)=st+c by omega];exact hc
      |slz a b c' a'=>
       injection e9 with _ _ e9;subst e9;refine Q5.same (fun w _=>(Xc htt.und ht bl bh h0 h1 (by omega))) ?_ h;have hl0:l.toNat=0:=by omega
       have hh0:hh.toNat=0:=by omega
       have hm0:m=0:=by omega
       subst hm0;rw[hl0,hh0];simp only[Nat.sub_self,if_true];exact .slb _ _ _ _ _ (.slz _ _ _ _) ⟨_,_,_,rfl,Nat.le_refl _⟩
     ·exact h.elim
    ·exact h.elim
   ·rename_i sz rows;split at h
    ·rename_i hsz;subst hsz;split at h
     ·rename_i l hh e1 e2;simp only[Qn.holds,decide_eq_true_eq]at h;obtain⟨h0,h1,h2,h⟩:=h;have bl:=Yb hsl hrl e1;have bh:=Yb hsh hrh e2;cases hx with
      |pv hp=>
       have hlen:((rows.take hh.toNat).drop l.toNat).length=hh.toNat-l.toNat:=by simp;omega
       cases hp with
       |rnil=>
        refine Q5.same (fun w _=>(Xc htt.und ht bl (by simpa using bh) h0 h1 (by simpa using h2))) ?_ h;have hl0:l.toNat=0:=by simp at h2;omega
        have hh0:hh.toNat=0:=by simp at h2;omega
        rw[hl0,hh0];simp;exact .pv (.rnil _)
       |remp a c=>
        refine Q5.same (fun w _=>(Xc htt.und ht bl (by simpa using bh) h0 h1 (by simp at h2;omega))) ?_ h;have hl0:l.toNat=0:=by simp at h2;omega
        have hh0:hh.toNat=0:=by simp at h2;omega
        rw[hl0,hh0];simp only[List.take_nil,List.drop_nil,Nat.sub_zero,Nat.zero_mul];split
        ·exact .pv (.remp _ _ _)
        ·exact .pv (.remp _ _ _)
       |rsl b off c _ n' _ hn hc g0 g1 g2=>
        subst hn;refine Q5.same (fun w _=>(Xc htt.und ht bl bh h0 h1 (by omega))) ?_ h;by_cases hcl:c=l.toNat
        ·have e0:hh.toNat-l.toNat=0:=by omega
         have:(rows.take hh.toNat).drop l.toNat=[]:=List.eq_nil_of_length_eq_zero (by rw[hlen,e0]);rw[if_pos hcl,this,e0,hcl,Nat.sub_self];exact .pv (.remp _ _ _)
        ·rw[if_neg hcl];simp only[Option.map_some,Addr.add_mid];have at':∀(m:Nat) (r:List PV),((rows.take hh.toNat).drop l.toNat)[m]? =some r→rows[l.toNat+m]? =some r:=fun m r hm'=>by
          rw[List.getElem?_drop,List.getElem?_take]at hm';split at hm'
          ·exact hm'
          ·cases hm'
         have mul:∀m j:Nat,off+l.toNat*i.size+m*i.size+j=off+(l.toNat+m)*i.size+j:=fun m j=>by rw[Nat.add_mul];omega
         refine .pv (.rsl b (off+l.toNat*i.size) (c-l.toNat) i.size _ _ hlen.symm (by omega) (fun m j hm' hj=>?_) (fun m r j p u hm' hj hu=>?_) (fun m r hm'=>g2 _ r (at' m r hm')))
         ·rw[mul];rw[hlen]at hm';exact g0 _ j (by omega) hj
         ·rw[mul]at hu;exact g1 _ r j p u (at' m r hm') hj hu
     ·exact h.elim
    ·exact h.elim
   ·split at h
    ·rename_i l hh e1 e2;simp only[Qn.holds,decide_eq_true_eq]at h;obtain⟨h0,h1,h⟩:=h;have:=hx.Q1;subst this;subst h0;subst h1;have bl:=Yb hsl hrl e1;have bh:=Yb hsh hrh e2;have:=fun w (_:Sw w)=>Xc (w:=w) (a:=none) (len:=0) (cap:=0) htt.und ht bl (by simpa using bh) (Int.le_refl _) (Int.le_refl _) (by simp);exact Q5.same this (.pv (.lit _)) h
    ·exact h.elim
   ·exact h.elim
 ·rename_i sz' by' zr rw' hte;have htt:=htab.get hte;split at h
  ·rename_i b;split at h
   ·rename_i l hh e1 e2;simp only[Qn.holds,decide_eq_true_eq]at h;obtain⟨h0,h1,h2,h⟩:=h;have:=hx.Q1;subst this;have bl:=Yb hsl hrl e1;have bh:=Yb hsh hrh e2;refine Q5.same ?_ (.pv (.lit _)) h;have hu:P.underlying t=some .string:=htt.und;simp[Instr.sliceAt,Instr.slice,run_underlying hu,Qb9 bl bh h0 h1 h2]
   ·exact h.elim
  ·exact h.elim
 ·exact h.elim
 ·rename_i n e sz' by' zr rw' hte;have htt:=htab.get hte;split at h
  ·exact h.elim
  ·rename_i i hi';have ht:=htab.get hi';obtain⟨inf,hinf,i1,_⟩:=ht.inf;split at h
   ·rename_i s sz r j;split at h
    ·exact h.elim
    ·rename_i o ho;split at h
     ·rename_i szo l hh hz e1 e2;split at h
      ·exact h.elim
      ·rename_i hi0;simp only[Qn.holds,decide_eq_true_eq]at h;obtain⟨hdiv,hfit,h0,h1,h2,h⟩:=h;have bl:=Yb hsl hrl e1;have bh:=Yb hsh hrh e2;cases hx with
       |ptr _ _ _ _ k p hp hk=>
        obtain⟨cs,ty,a1,a2,a3,a4,a5⟩:=((hm.own s o ho).rowOf hz hp).ex;have hrun:∀w,(Instr.sliceAt t (.pointer (some ⟨p.block,k,none⟩)) vl vh none).run P w=.ok (.slice (some (if n=l.toNat then⟨p.block,k,none⟩else⟨p.block,k+l.toNat*i.size,none⟩)) (hh.toNat-l.toNat) (n-l.toNat)) w:=fun w=>by have hu:P.underlying t=some (.array n e):=htt.und;simp[Instr.sliceAt,run_underlying hu,Instr.sureAddr,Qb9 bl bh h0 h1 h2,sizeOf,typeInfo,hinf,i1,Addr.add_mid]
        refine Q5.same (fun w _=>hrun w) ?_ h;by_cases hcl:n=l.toNat
        ·have e0:hh.toNat-l.toNat=0:=by omega
         have e1':n-l.toNat=0:=by omega
         rw[if_pos hcl,e0,e1'];exact .slz _ _ _ _
        ·rw[if_neg hcl];have hb:(r*sz+j)/i.size*i.size=r*sz+j:=by have:=Nat.div_add_mod' (r*sz+j) i.size;omega
         refine .sl _ _ _ _ _ _ p hp (by rw[Nat.add_mul,hb,hk]) ?_ (by omega) (by omega);rw[show(r*sz+j)/i.size+l.toNat+(n-l.toNat)=(r*sz+j)/i.size+n by omega,Nat.add_mul,hb];omega
     ·exact h.elim
   ·exact h.elim
 ·exact h.elim
theorem Zss{P:Program}{tab:Qo}(htab:Qf P tab){M:Qc}{ρ:Env}{H:List Qa}{w0:World}{Sw:World→Prop}{K:Qr}(hm:Mem M ρ H w0){t ty:Nat}{x:SV}{v:Value}(hx:Qe M ρ v x)(hnm:∀s,x≠.mp s)
  (h:(Ul tab H t x).holds H K):Q5 P (Builtin.len_ #[t] ty #[v]) M ρ Sw H K:=by
 unfold Ul at h;split at h
 ·rename_i e sz' by' zr rw' hte;have hu:P.underlying t=some (.slice e):=(htab.get hte).und;have key:∀(w:World) a n c,(Builtin.len_ #[t] ty #[.slice a n c]).run P w=.ok (.int .i64 n) w:=fun w a n c=>by simp[Builtin.len_,run_underlying hu,goInt]
  split at h
  ·rename_i s sz st len;cases hx with
   |sl _ _ _ _ c k p hp hk hc hn h6=>exact Q5.same (fun w _=>key w _ _ _) (.pv (.lit _)) h
   |slz=>exact Q5.same (fun w _=>key w _ _ _) (.pv (.lit _)) h
  ·cases hx with
   |slb _ _ _ _ _ hx hmc=>
   cases hx with
   |sl _ _ _ _ c k p hp hk hc hn h6=>exact Q5.same (fun w _=>key w _ _ _) (.pv (.lit _)) h
   |slz=>exact Q5.same (fun w _=>key w _ _ _) (.pv (.lit _)) h
  ·cases hx with
   |pv hp=>cases hp with
    |rnil=>exact Q5.same (fun w _=>key w _ _ _) (.pv (.lit _)) h
    |remp=>exact Q5.same (fun w _=>key w _ _ _) (.pv (.lit _)) h
    |rsl b off c _ n' _ hn hc g0 g1 g2=>subst hn;exact Q5.same (fun w _=>key w _ _ _) (.pv (.lit _)) h
  ·have:=hx.Q1;subst this;exact Q5.same (fun w _=>key w _ _ _) (.pv (.lit _)) h
  ·exact h.elim
 ·rename_i sz' by' zr rw' hte;have hu:P.underlying t=some .string:=(htab.get hte).und;split at h
  ·have:=hx.Q1;subst this;exact Q5.same (fun w _=>by simp[Builtin.len_,run_underlying hu,goInt]) (.pv (.lit _)) h
  ·exact h.elim
 ·rename_i kk ee sz' by' zr rw' hte;have hu:P.underlying t=some (.map kk ee):=(htab.get hte).und;split at h
  ·rename_i s;exact(hnm s rfl).elim
  ·have:=hx.Q1;subst this;exact Q5.same (fun w _=>by simp[Builtin.len_,run_underlying hu,goInt]) (.pv (.lit _)) h
  ·exact h.elim
 ·rename_i n e sz' by' zr rw' hte;have hu:P.underlying t=some (.array n e):=(htab.get hte).und;refine Q5.same ?_ (.pv (.lit _)) h;simp[Builtin.len_,run_underlying hu,goInt]
 ·exact h.elim
theorem Vr{P:Program}{M:Qc}{ρ:Env}{H:List Qa}{w0:World}{Sw:World→Prop}{K:Qr}{ev:Operand→SV}{va:Operand→Value}(hm:Mem M ρ H w0)(hev:∀x,Qe M ρ (va x) (ev x)){o:Oper}
  (h:(X3 P ev o).holds H K):Z7 P (execOp va o) M ρ Sw H K:=by
 unfold X3 at h;split at h
 ·rename_i hc;simp only[Bool.and_eq_true,Bool.not_eq_true']at hc;split at h
  ·rename_i v hv;have he:execOp va o=execOp (fun x=>(ev x).Qga) o:=by refine execOp_congr o (fun cs b hsel=>by rw[hsel]at hc;simp[Qk3]at hc) fun x hx=>?_;have:=Array.all_eq_true_iff_forall_mem.1 hc.2 x hx;exact Qq1 (hev x) this
   rw[he];exact Z7.same (fun w _=>Kn hv w) (.pv (.lit _)) h
  ·exact h.elim
 ·exact h.elim
theorem Zkm{P:Program}{tab:Qo}(htab:Qf P tab){M:Qc}{ρ:Env}{H:List Qa}{w0:World}{Sw:World→Prop}{K:Qr}{ev:Operand→SV}{va:Operand→Value}(hm:Mem M ρ H w0)(hev:∀x,Qe M ρ (va x) (ev x)){o:Oper}
  {op:BinOp} {t t':TypeId} {x y:Operand} (ho:o.op=.binOp op t x y t') (h:(Qcr P tab ev o op t (ev x) (ev y)).holds H K):Z7 P (execOp va o) M ρ Sw H K:=by
 have hx:=hev x;have hy:=hev y;have exec:execOp va o=(do pure (.value (←(do eqGuard op t x y (va x) (va y);binOp op t (va x) (va y))))):=by simp[execOp,ho]
 unfold Qcr at h;split at h<;>first
  | (rename_i e1 e2
     rw[e1]at hx;rw[e2]at hy;have ex:=hx.Q1;have ey:=hy.Q1;rw[exec,ex,ey];simp only[Qn.holds]at h
     first
    | (refine Z7.same ?_ (.pv (.lit _)) h
       intro w _;simp[Sem.run_bind,Xr,binOp,Op.intArith,w64];done)
    | (obtain ⟨hn,h⟩ := h
       first
      | (have hz := of_decide_eq_true hn
         refine Z7.same ?_ (.pv (.lit _)) h;intro w _;simp[Sem.run_bind,Xr,binOp,Op.intDiv,hz,w64];done)
      | (have hz := Int.not_lt.2 (of_decide_eq_true hn)
         refine Z7.same ?_ (.pv (.lit _)) h;intro w _;simp only[Sem.run_bind,Xr,Result.andThen_ok,binOp,Op.shift,if_neg hz,Sem.run_pure];rfl)
      | (have hz := Int.not_lt.2 (of_decide_eq_true hn)
         refine Z7.same ?_ (.pv (.lit _)) h;intro w _;simp only[Sem.run_bind,Qaw,Result.andThen_ok,binOp,Op.stringOp,gt_iff_lt,if_neg hz,Sem.run_pure];done)
      | (obtain ⟨hn2,h⟩ := h
         have hz:=of_decide_eq_true hn;refine Z7.same ?_ (.pv (.lit _)) h;intro w _;simp[Sem.run_bind,Xr,binOp,Op.intDiv,hz,Qqq hn2];done))
    | (refine Z7.same ?_ (.pv (.lit _)) h
       intro w _;simp[Sem.run_bind,Xr,Qaw,binOp,Op.intCmp,Op.stringOp,bne];done)
    | (refine Z7.same ?_ (.pv (.lit _)) h
       intro w _;simp only[Sem.run_bind,Xr,Qaw,Result.andThen_ok,binOp,Op.intCmp,Op.stringOp,Qrf];rfl))
  | (split at h
     · rename_i neg hk
       split at h
       · rename_i hc
         simp only[Bool.and_eq_true]at hc;obtain⟨v,hk2,hrun⟩:=Qv5 htab hx hy hc.1 hc.2 h;have ho:=Qup hk;rw[exec,ho];refine Z7.same (fun w _=>?_) (.pv (.lit _)) hk2;have:=hrun w;simp only[Sem.run_bind]at this⊢;simp[this]
       · exact h.elim
     · split at h
       · rename_i r hr
         have hrun:=Qrt (P:=P) (t:=t) hx hy hr;rw[exec];refine Z7.same (fun w _=>?_) (.pv (.lit _)) h;have:=hrun w x y;simp only[Sem.run_bind]at this⊢;simp[this]
       · exact Vr (w0:=w0) hm hev h)
theorem Znh{P:Program}{tab:Qo}(htab:Qf P tab){M:Qc}{ρ:Env}{H:List Qa}{w0:World}{Sw:World→Prop}{K:Qr}(hm:Mem M ρ H w0){t f:Nat}{x:SV}{v:Value}(hx:Qe M ρ v x)
  (h:(Qb7 tab t x f).holds H K):Q5 P (Instr.field t v f) M ρ Sw H K:=by
 unfold Qb7 at h;split at h
 ·rename_i l fields sz' by' zr rw' hte;have hu:P.underlying t=some (.struct fields):=(htab.get hte).und;cases hx with
  |agg cs _ hl hr=>
   split at h
   ·exact h.elim
   ·rename_i fd hfd;split at h
    ·exact h.elim
    ·rename_i i hi;have ht:=htab.get hi;obtain⟨inf,hinf,i1,_⟩:=ht.inf;split at h
     ·rename_i hd;simp only[Qn.holds,decide_eq_true_eq]at h;obtain⟨hle,h⟩:=h;refine Q5.same (v:=.agg (cs.extract fd.offset (fd.offset+i.size))) ?_ ?_ h
      ·simp[Instr.field,run_underlying hu,hfd,asAgg,part,Uf ht,hd,sizeOf,typeInfo,hinf,i1]
      ·have:=Qe.Yd (M:=M) (ρ:=ρ) (cs:=(cs.extract fd.offset (fd.offset+i.size)).toList) (l:=(l.drop fd.offset).take i.size) (by simp;omega) (fun k v x hv hx=>by
        rw[List.getElem?_take]at hx;split at hx
        ·rename_i hk;rw[List.getElem?_drop]at hx;rw[Array.getElem?_toList,Array.getElem?_extract]at hv;split at hv
         ·exact hr _ v x hv hx
         ·cases hv
        ·cases hx)
       rwa[Array.toArray_toList]at this
     ·rename_i hd;simp only[Qn.holds,decide_eq_true_eq]at h;obtain⟨hle,h⟩:=h;have hlt:fd.offset<cs.size:=by omega
      refine Q5.same (v:=cs[fd.offset]) ?_ ?_ h
      ·simp[Instr.field,run_underlying hu,hfd,asAgg,part,Uf ht,hd,hlt]
      ·rw[List.getD_eq_getElem?_getD,List.getElem?_eq_getElem hle];exact hr fd.offset _ _ (by simp[hlt]) (by simp[hle])
 ·exact h.elim
theorem Qmk{P:Program}{tab:Qo}(htab:Qf P tab){M:Qc}{ρ:Env}{H:List Qa}{w0:World}{Sw:World→Prop}{K:Qr}(hm:Mem M ρ H w0){R:List Nat}(hR:∀u,Sw u→∀s∈R,∀p,ρ s=some p→u.heap[p.block]? =w0.heap[p.block]?)
  {t:Nat} {m k:SV} {vm vk:Value} {ok:Bool} (hmr:Qe M ρ vm m) (hkr:Qe M ρ vk k) (hin:∀s,m=.mp s→s∈R)
  (h:(Ub P tab H t m k ok).holds H K):Q5 P (Instr.lookup t vm vk ok) M ρ Sw H K:=by
 unfold Ub at h;split at h
 ·rename_i kt et sz' by' zr rw' hte;have hu:P.underlying t=some (.map kt et):=(htab.get hte).und;split at h
  ·rename_i kv;have:=hkr.Q1;subst this;split at h
   ·rename_i s;split at h
    ·rename_i es c ho;split at h
     ·rename_i hko;cases hmr with
      |mp _ p hp=>
       obtain⟨arr,hheap,hrep⟩:=(hm.own s _ ho).Uq hp;have hempty:arr.isEmpty=es.isEmpty:=by have:=hrep.sz;simp only[Array.isEmpty,this];cases es<;>simp
       have hget:∀u,Sw u→(getObj p.block).run P u=.ok (.map arr c) u:=fun u hu'=>run_getObj_map (P:=P) (by rw[hR u hu' s (hin s rfl) p hp];exact hheap);have hkey:∀u,_:=fun u=>V7 hko u;rw[←hempty]at hkey;split at h
       ·rename_i j hj;obtain⟨e,x,a1,a2,a3,a4,a5,a6⟩:=(Wd (P:=P) (kt:=kt) (k:=vk) hrep w0).2 j hj;rw[a2]at h;simp only at h;refine Q5.same ?_ (J7 (ok:=ok) (b:=true) a5) h;intro u hw;obtain⟨e',x',b1,_,_,_,_,b6⟩:=(Wd (P:=P) (kt:=kt) (k:=vk) hrep u).2 j hj;rw[a1]at b1;cases b1;simp[Instr.lookup,run_underlying hu,hget u hw,hkey u,b6]
       ·rename_i hj;split at h
        ·rename_i i hi;refine Q5.same ?_ (J7 (ok:=ok) (b:=false) (.pv (.lit _))) h;intro u hw;simp[Instr.lookup,run_underlying hu,hget u hw,hkey u,(Wd (P:=P) (kt:=kt) (k:=vk) hrep u).1 hj,We (htab.get hi)]
        ·exact h.elim
       ·exact h.elim
     ·exact h.elim
    ·exact h.elim
   ·split at h
    ·rename_i hko;have:=hmr.Q1;subst this;split at h
     ·rename_i i ik hi hik;refine Q5.same ?_ (J7 (ok:=ok) (b:=false) (.pv (.lit _))) h;intro w _;have hkey:=V7 hko w;have hnone:(Instr.findKey kt vk []).run P w=.ok none w:=by simp only[Instr.findKey,Instr.findNow,Sem.run_bind,run_underlying (htab.get hik).und,Result.andThen_ok,Sem.run_pure]
      simp[Instr.lookup,run_underlying hu,hkey,hnone,We (htab.get hi)]
     ·exact h.elim
    ·exact h.elim
   ·exact h.elim
  ·exact h.elim
 ·exact h.elim
theorem Zhe{P:Program}{tab:Qo}(htab:Qf P tab){M:Qc}{ρ:Env}{H:List Qa}{w0:World}{Sw:World→Prop}{K:Qr}(hm:Mem M ρ H w0){R:List Nat}(hR:∀u,Sw u→∀s∈R,∀p,ρ s=some p→u.heap[p.block]? =w0.heap[p.block]?)
  {t:Nat} {m k:SV} {vm vk:Value} {ok:Bool} (hmr:Qe M ρ vm m) (hkr:Qe M ρ vk k) (hin:∀s,m=.mp s→s∈R)
  (h:(Qcz P tab H t m k ok).holds H K):Q5 P (Instr.lookup t vm vk ok) M ρ Sw H K:=by
 unfold Qcz at h;split at h
 ·rename_i s;split at h
  ·rename_i ka va l ho;split at h
   ·rename_i kt et _ _ _ _ hte;cases hmr with
    |mp _ p hp=>obtain⟨arr,hheap,hrep⟩:=Y7.rep (hm.own s _ ho) hp;obtain⟨v,x,h1,h2,h3⟩:=Qss htab hkr h hrep;exact Q5.same (fun u hu=>h3 u t p.block _ (htab.get hte).und (by rw[hR u hu s (hin s rfl) p hp];exact hheap)) h2 h1
   ·exact h.elim
  ·rename_i es c ho;split at h
   ·rename_i kt et _ _ _ _ hte;split at h
    ·split at h
     ·cases hmr with
      |mp _ p hp=>obtain⟨arr,hheap,hrep⟩:=(hm.own s _ ho).Uq hp;obtain⟨v,x,h1,h2,h3⟩:=Qxq htab hkr h hrep;exact Q5.same (fun u hu=>h3 u t p.block _ (htab.get hte).und (by rw[hR u hu s (hin s rfl) p hp];exact hheap)) h2 h1
     ·exact Qmk htab hm hR hmr hkr hin h
    ·exact h.elim
   ·exact h.elim
  ·exact Qmk htab hm hR hmr hkr hin h
 ·exact Qmk htab hm hR hmr hkr hin h
theorem Ziq{P:Program}{tab:Qo}(htab:Qf P tab){M:Qc}{ρ:Env}{H:List Qa}{Sw:World→Prop}{K:Qr}{t:Nat}{vp:Array (Nat×Value)}{sp:List (Nat×SV)}
  (hl:vp.size=sp.length) (hp:∀(k:Nat) (a:Nat×Value) (b:Nat×SV),vp.toList[k]? =some a→sp[k]? =some b→a.1=b.1∧Qe M ρ a.2 b.2)
  (h:(Qbg P tab t sp).holds H K):Q5 P (Instr.build t vp) M ρ Sw H K:=by
 unfold Qbg at h;split at h
 ·exact h.elim
 ·rename_i i hi;have ht:=htab.get hi;have hz:=fun w=>We ht w;split at h
  ·rename_i fields hd;have hu:P.underlying t=some (.struct fields):=by rw[ht.und,hd]
   split at h
   ·exact h.elim
   ·rename_i places hpl;split at h
    ·exact h.elim
    ·rename_i l hf;obtain⟨cs',g1,g2⟩:=Qam (M:=M) (ρ:=ρ) (Qeg ht) (by simpa using hl) hp hf;refine Q5.same (v:=.agg cs') ?_ ?_ h
     ·intro w _;have hrun:=Kn hpl w;simp only[Qn4,Sem.run_bind,run_underlying hu,Result.andThen_ok]at hrun;simp only[Instr.build,Sem.run_bind,hz,Result.andThen_ok,run_underlying hu,hrun];rw[g1];rfl
     ·have:=Qe.Yd (M:=M) (ρ:=ρ) (cs:=cs'.toList) (l:=l) (by simpa using g2.sz) (fun k v x hv hx=>g2.rep k v x (by rw[←Array.getElem?_toList];exact hv) hx);simpa using this
  ·rename_i n e hd;have hu:P.underlying t=some (.array n e):=by rw[ht.und,hd]
   split at h
   ·exact h.elim
   ·rename_i ie hie;obtain⟨inf,hinf,i1,_⟩:=(htab.get hie).inf;split at h
    ·exact h.elim
    ·rename_i l hf;obtain⟨cs',g1,g2⟩:=Qam (M:=M) (ρ:=ρ) (Qeg ht) (by simpa using hl) hp hf;refine Q5.same (v:=.agg cs') ?_ ?_ h
     ·intro w _;simp only[Instr.build,Sem.run_bind,hz,Result.andThen_ok,run_underlying hu,sizeOf,typeInfo,run_program,hinf,Sem.run_pure,i1];rw[g1];rfl
     ·have:=Qe.Yd (M:=M) (ρ:=ρ) (cs:=cs'.toList) (l:=l) (by simpa using g2.sz) (fun k v x hv hx=>g2.rep k v x (by rw[←Array.getElem?_toList];exact hv) hx);simpa using this
  ·exact h.elim
theorem Q5.seen{P:Program}{S:Sem Value}{M:Qc}{ρ:Env}{Sw:World→Prop}{H:List Qa}{K:Qr}(h:Q5 P S M ρ Sw H (Seen K)):Q5 P S M ρ Sw H K:=by obtain⟨v,x,⟨y,hy,hk⟩,hx,hr⟩:=h;exact⟨v,y,hk,hy _ _ _ hx,hr⟩
theorem Zl0{P:Program}{tab:Qo}(htab:Qf P tab){M:Qc}{ρ:Env}{H:List Qa}{w0:World}{Sw:World→Prop}{K:Qr}(hm:Mem M ρ H w0){t f:Nat}{x:SV}{v:Value}(hx:Qe M ρ v x)
  (h:(Qbe tab t x f).holds H K):Q5 P (Instr.fieldAt t v f) M ρ Sw H K:=Q5.seen (Zsd (w0:=w0) htab hm hx.Zi (Qsd h))
theorem Zsj{P:Program}{tab:Qo}(htab:Qf P tab){M:Qc}{ρ:Env}{H:List Qa}{w0:World}{Sw:World→Prop}{K:Qr}(hm:Mem M ρ H w0){t:Nat}{x ix:SV}{v u:Value}(hx:Qe M ρ v x)(hix:Qe M ρ u ix)
  (h:(Qcu tab t x ix).holds H K):Q5 P (Instr.indexAt t v u) M ρ Sw H K:=Q5.seen (Zj3 (w0:=w0) htab hm hx.Zi hix (Qqu h))
theorem Zg1{P:Program}{tab:Qo}(htab:Qf P tab){M:Qc}{ρ:Env}{H:List Qa}{w0:World}{Sw:World→Prop}{K:Qr}(hm:Mem M ρ H w0){t:Nat}{x:SV}{lo hi:Option SV}{v:Value}{vl vh:Option Value}
  (hx:Qe M ρ v x) (hsl:vl.isSome=lo.isSome) (hrl:∀v x,vl=some v→lo=some x→Qe M ρ v x) (hsh:vh.isSome=hi.isSome) (hrh:∀v x,vh=some v→hi=some x→Qe M ρ v x)
  (h:(Qbv tab H t x lo hi).holds H K):Q5 P (Instr.sliceAt t v vl vh none) M ρ Sw H K:=Q5.seen (Zfz (w0:=w0) htab hm hx.Zi hsl hrl hsh hrh (Qzc h))
theorem Zi2{x:SV}(h:∀s,x≠.mp s):∀s,x.Zi≠.mp s:=by
 intro s;unfold SV.Zi;split
 ·intro e;cases e
 ·intro e;cases e
 ·exact h s
theorem Zgs{P:Program}{tab:Qo}(htab:Qf P tab){M:Qc}{ρ:Env}{H:List Qa}{w0:World}{Sw:World→Prop}{K:Qr}(hm:Mem M ρ H w0){t ty:Nat}{x:SV}{v:Value}(hx:Qe M ρ v x)(hnm:∀s,x≠.mp s)
  (h:(Qbq tab H t x).holds H K):Q5 P (Builtin.len_ #[t] ty #[v]) M ρ Sw H K:=Q5.seen (Zss (w0:=w0) htab hm hx.Zi (Zi2 hnm) (Qyg h))
end Go.Sx
section
namespace Go.Sx
open Go
def Yx:Op→Bool
 |.move _|.assign _|.pick .. |.build .. |.load .. |.lookup .. |.nilCheck _|.binOp .. |.makeFunc .. |.slice .. |.fieldAddr .. |.field .. |.indexAddr .. |.extract .. |.unOp .. |.convert .. |.index .. |.makeInterface ..=>true
 |.call {callee:=.builtin .len,..}=>true
 |_=>false
def hdyn(R:List Nat)(ev:Operand→SV)(o:Oper):Bool:=match o.op with
 |.load _ a=>match ev a with
  |.ptr s ..=>R.contains s
  |_=>true
 |.lookup _ m _ _=>match ev m with
  |.mp s=>R.contains s
  |_=>true
 |.call {callee:=.builtin .len,args,..}=>args.toList.all fun x=>match ev x with
  |.mp _=>false
  |_=>true
 |_=>true
theorem Zcg{R:List Nat}{ev:Operand→SV}{o:Oper}{t:TypeId}{a:Operand}(ho:o.op=.load t a):hdyn R ev o=match ev a with
  |.ptr s ..=>R.contains s
  |_=>true:=by simp only[hdyn,ho]
theorem Zgt{R:List Nat}{ev:Operand→SV}{o:Oper}{t:TypeId}{m k:Operand}{ok:Bool}(ho:o.op=.lookup t m k ok):hdyn R ev o=match ev m with
  |.mp s=>R.contains s
  |_=>true:=by simp only[hdyn,ho]
theorem Zoo{P:Program}{tab:Qo}(htab:Qf P tab){M:Qc}{ρ:Env}{H:List Qa}{w:World}{Sw:World→Prop}{K:Qr}{ev:Operand→SV}{va:Operand→Value}(hm:Mem M ρ H w)(hev:∀x,Qe M ρ (va x) (ev x)){o:Oper}
  (hS:∀u,Sw u→∀b o,M b=some o→u.heap[b]? =some o) {R:List Nat} (hR:∀u,Sw u→∀s∈R,∀p,ρ s=some p→u.heap[p.block]? =w.heap[p.block]?) (hk:Yx o.op=true) (hdyn:hdyn R ev o=true)
  (h:(sop P tab H ev o).holds H K):Z7 P (execOp va o) M ρ Sw H K:=by
 unfold sop at h;split at h
 ·rename_i x ho;exact Z7.same (fun w _=>by simp[execOp,ho]) (hev x) h
 ·rename_i x ho;exact Z7.same (fun w _=>by simp[execOp,ho]) (hev x) h
 ·rename_i c a b ho;have hc:=hev c;split at h
  ·rename_i t e;rw[e]at hc;have ec:=hc.Q1;obtain⟨h1,h2⟩:=h;cases t with
   |true=>exact Z7.same (fun w _=>by simp[execOp,ho,ec,asBool]) (hev a) (h1 rfl)
   |false=>exact Z7.same (fun w _=>by simp[execOp,ho,ec,asBool]) (hev b) (h2 rfl)
  ·exact h.elim
 ·rename_i ho;exact absurd hk (by simp[Yx,ho])
 ·rename_i ho;exact absurd hk (by simp[Yx,ho])
 ·rename_i t parts ho;obtain⟨h1,h2⟩:=Qje hev parts;have:=(Ziq (Sw:=Sw) htab h1 h2 h).toN;simpa[execOp,ho]using this
 ·rename_i ho;exact absurd hk (by simp[Yx,ho])
 ·rename_i t a ho;have:=(Qx1 (w0:=w) (Sw:=Sw) htab hm hS hR (hev a) (fun s sz r j e=>by rw[Zcg ho]at hdyn;rw[e]at hdyn;simpa using hdyn) h).toN;simpa[execOp,ho]using this
 ·rename_i ho;exact absurd hk (by simp[Yx,ho])
 ·rename_i x ho;have hx:=hev x;split at h
  ·rename_i s sz i j e;rw[e]at hx;cases hv:va x with
   |pointer a=>
    rw[hv]at hx;cases hx with
    |ptr _ _ _ _ k p hp hk=>exact Z7.same (v:=.pointer (some ⟨p.block,k,none⟩)) (fun w _=>by simp[execOp,ho,hv]) (.ptr _ _ _ _ k p hp hk) h
   |_=>rw[hv]at hx;cases hx
  ·rename_i sz r i j e;rw[e]at hx;generalize hv:va x=vx at hx;cases hx with
   |pv hp=>
    cases hp with
    |rptr b off _ _ _ k _ hk h0 h1 h2=>exact Z7.same (v:=.pointer (some ⟨b,k,none⟩)) (fun w _=>by simp[execOp,ho,hv]) (.pv (.rptr b off sz i j k r hk h0 h1 h2)) h
  ·rename_i s e;rw[e]at hx;cases hv:va x with
   |map a=>rw[hv]at hx;exact Z7.same (v:=.map a) (fun w _=>by simp[execOp,ho,hv]) hx h
   |_=>rw[hv]at hx;cases hx
  ·rename_i f a b e;rw[e]at hx;cases hv:va x with
   |func g c d=>
    rw[hv]at hx;cases hx with
    |fn _ _ _ _ _ ha hb hh hk=>exact Z7.same (v:=.func (.func f) c d) (fun w _=>by simp[execOp,ho,hv]) (.fn _ _ _ _ _ ha hb hh hk) h
   |_=>rw[hv]at hx;cases hx
  ·exact Vr (w0:=w) (Sw:=Sw) hm hev h
 ·rename_i op t x y t' ho;split at h
  ·rename_i r hr;obtain⟨q,hrun,hk⟩:=Qtp (P:=P) htab (hev x) (hev y) hr h;have exec:execOp va o=(do pure (.value (←(do eqGuard op t x y (va x) (va y);binOp op t (va x) (va y))))):=by simp[execOp,ho]
   rw[exec];exact Z7.same (fun w _=>by have:=hrun w x y;simp only[Sem.run_bind]at this⊢;simp[this]) (.pv (.lit _)) hk
  ·exact Zkm htab (w0:=w) (Sw:=Sw) hm hev ho h
 ·rename_i fn a b ho;obtain⟨a1,a2⟩:=Qck hev a;obtain⟨b1,b2⟩:=Qck hev b;exact Z7.same (fun w _=>by simp[execOp,ho,Instr.makeFunc]) (.fn fn _ _ _ _ a1 b1 a2 b2) h
 ·rename_i ho;exact absurd hk (by simp[Yx,ho])
 ·rename_i ho;exact absurd hk (by simp[Yx,ho])
 ·rename_i t x lo hi mx ho;split at h
  ·obtain⟨l1,l2⟩:=V6 hev lo;obtain⟨h1,h2⟩:=V6 hev hi;have:=(Zg1 (w0:=w) (Sw:=Sw) htab hm (hev x) l1 l2 h1 h2 h).toN;simpa[execOp,ho]using this
  ·rename_i m;obtain⟨l1,l2⟩:=V6 hev lo;obtain⟨h1,h2⟩:=V6 hev hi;obtain⟨v',hr,y,hy,hk⟩:=Qq6 htab (hev x) l1 l2 h1 h2 (hev m) h;have:=Q5.toN (Sw:=Sw) ⟨v',y,hk,hy,fun w _=>hr w⟩;simpa[execOp,ho]using this
 ·rename_i t x f ho;have:=(Zl0 (w0:=w) (Sw:=Sw) htab hm (hev x) h).toN;simpa[execOp,ho]using this
 ·rename_i t x f ho;split at h
  ·rename_i l e;have hx:=hev x;rw[e]at hx;have:=(Znh (w0:=w) (Sw:=Sw) htab hm hx h).toN;simpa[execOp,ho]using this
  ·exact Vr (w0:=w) (Sw:=Sw) hm hev h
 ·rename_i t x ix ho;have:=(Zsj (w0:=w) (Sw:=Sw) htab hm (hev x) (hev ix) h).toN;simpa[execOp,ho]using this
 ·rename_i t m k ok ho;have:=(Zhe (w0:=w) (Sw:=Sw) htab hm hR (hev m) (hev k) (fun s e=>by rw[Zgt ho]at hdyn;rw[e]at hdyn;simpa using hdyn) h).toN;simpa[execOp,ho]using this
 ·rename_i ho;exact absurd hk (by simp[Yx,ho])
 ·rename_i ho;exact absurd hk (by simp[Yx,ho])
 ·rename_i ho;exact absurd hk (by simp[Yx,ho])
 ·rename_i ho;exact absurd hk (by simp[Yx,ho])
 ·rename_i ho;exact absurd hk (by simp[Yx,ho])
 ·rename_i ho;exact absurd hk (by simp[Yx,ho])
 ·rename_i ho;exact absurd hk (by simp[Yx,ho])
 ·rename_i x i ho;split at h
  ·rename_i l e;have hx:=hev x;rw[e]at hx;cases hv:va x with
   |tuple cs=>
    rw[hv]at hx;cases hx with
    |tup _ _ hl hr=>
     split at h
     ·rename_i y hy;have hlt:i<cs.size:=by have:=(List.getElem?_eq_some_iff.1 hy).1;omega
      exact Z7.same (v:=cs[i]) (fun w _=>by simp[execOp,ho,hv,Instr.extract,hlt]) (hr i _ y (by simp[hlt]) hy) h
     ·exact h.elim
   |_=>rw[hv]at hx;cases hx
  ·exact Vr (w0:=w) (Sw:=Sw) hm hev h
 ·rename_i ho;exact absurd hk (by simp[Yx,ho])
 ·rename_i args argTypes ho;split at h
  ·rename_i x t ea et;have ea':args= #[x]:=by rw[←Array.toArray_toList (xs:=args),ea]
   have et':argTypes= #[t]:=by rw[←Array.toArray_toList (xs:=argTypes),et]
   subst ea';subst et';have:=(Zgs (w0:=w) (Sw:=Sw) (ty:=o.type) htab hm (hev x) (fun s e=>by simp[Sx.hdyn,ho,e]at hdyn) h).toN;simpa[execOp,ho,resolve,invoke,builtin]using this
  ·exact h.elim
 ·rename_i ho;exact absurd hk (by simp[Yx,ho])
 ·rename_i ho;exact absurd hk (by simp[Yx,ho])
 ·rename_i b args argTypes hb1 hb2 hb3 hb4 ho;cases b<;>first
   |exact(hb1 rfl).elim
   |exact(hb2 rfl).elim
   |exact(hb3 rfl).elim
   |exact(hb4 rfl).elim
   |(rw[ho]at hk;cases hk)
 ·exact Vr (w0:=w) (Sw:=Sw) hm hev h
 ·exact Vr (w0:=w) (Sw:=Sw) hm hev h
 ·rename_i t x ix ho;generalize ex:ev x=sx at h;generalize ei:ev ix=si at h;unfold Uh at h;split at h
  ·have hx:=hev x;have hi:=hev ix;rw[ex]at hx;rw[ei]at hi;have ex':=hx.Q1;have ei':=hi.Q1;rename_i k _;obtain⟨v,hk,hr⟩:=Qwm (P:=P) (ev:=ev) (o:=o) (k:=k) (H:=H) (K:=K) htab (by simpa only[Uh]using h);exact Z7.same (fun w _=>by simp[execOp,ho,ex',ei',hr]) (.pv (.lit v)) hk
  ·exact Vr (w0:=w) (Sw:=Sw) hm hev h
 ·exact Vr (w0:=w) (Sw:=Sw) hm hev h
 ·exact h.elim
section
variable {R:Option Nat} {P:Program} {ops:Array Oper} {Q:Exit→Act→World→Prop} {md:Region.Mode}
def goOp(R:Option Nat)(P:Program)(ops:Array Oper)(Q:Exit→Act→World→Prop)(i:Nat)(K:Act→World→Prop)(a:Act)(w:World):Prop:=
 match ops[i]? with
 |none=>K a w
 |some o=>if Region.wanted o (yielded ops a.tmps)then Xl o.op=true∧o.wpIn (FW R) 0 P a w K Q else K (a.put o.dst undef) w
theorem Qs0{o:Oper}{a:Act}{w:World}{K K':Act→World→Prop}(h:∀a w,K a w→K' a w)(hh:o.wpIn (FW R) 0 P a w K Q):o.wpIn (FW R) 0 P a w K' Q:=by
 refine⟨hh.1,?_⟩;have h2:=hh.2;generalize (o.semAt (FW R).round a.eval).run P w=r at*;cases r with
 |ok n w'=>
  cases n<;>simp only[Oper.uponIn]at h2⊢ <;>
   first
    |exact h _ _ h2
    |exact⟨h2.1,CallsIn.mono h2.2 (fun e w'' he=>by cases e<;>first|exact h _ _ he|exact he)⟩
    |exact⟨h2.1,RoundIn.mono h2.2 (fun e w'' he=>by cases e<;>first|exact h _ _ he|exact he)⟩
    |exact⟨h2.1,RowsIn.mono h2.2 (fun _ _ he=>h _ _ he)⟩
 |halt x w'=>cases x<;>simp only[Oper.uponIn]at h2⊢ <;>exact h2
theorem Qqe{i:Nat}{a:Act}{w:World}{K K':Act→World→Prop}(h:∀a w,K a w→K' a w)(hh:goOp R P ops Q i K a w):goOp R P ops Q i K' a w:=by
 unfold goOp at*;split
 ·exact h _ _ (by simpa[*]using hh)
 ·rename_i o ho;simp only[ho]at hh;split
  ·rename_i hw;simp only[hw,if_true]at hh;exact⟨hh.1,Qs0 h hh.2⟩
  ·rename_i hw;simp only[hw]at hh;exact h _ _ hh
theorem YieldsIf.goOp{S:World→Prop}{i:Nat}{o:Oper}{v:Value}{a:Act}(hi:ops[i]? =some o)(hd:Xl o.op=true)(hy:YieldsIf P ops S o v a)
  {K:Act→World→Prop} {w:World} (hS:S w) (h:K (a.put o.dst v) w):goOp R P ops Q i K a w:=by
 unfold Sx.goOp;simp only[hi];rcases hy with⟨hw,hv⟩|⟨hw,rfl⟩
 ·simp only[hw,if_true];exact⟨hd,Vq.wpIn hd (N:=fun u w'=>u=v∧w'=w) (.inl ⟨v,w,.inl (hv w hS),rfl,rfl⟩) fun u w' ⟨e,e'⟩=>by subst e;subst e';exact h⟩
 ·simp only[hw,Bool.false_eq_true,if_false];exact h
theorem Zho{S:World→Prop}{j:Nat}{oi oj:Oper}{v:Value}(hj:ops[j]? =some oj)(hap:oi.apart ops oj=true)
  (hsi:∀cs b,oi.op≠.select cs b) (hsj:∀cs b,oj.op≠.select cs b)
  (hQ:∀c a w,Q (.panic c) (a.put oi.dst v) w→Q (.panic c) a w) {K:Act→World→Prop} {a:Act} {w:World}
  (hy:YieldsIf P ops S oi v a) (h:goOp R P ops Q j K (a.put oi.dst v) w):
  goOp R P ops Q j (fun a' w'=>YieldsIf P ops S oi v a'∧K (a'.put oi.dst v) w') a w:=by
 obtain⟨h1,h2,h3⟩:=Oper.apart_spec hap;have keep:∀(a:Act),YieldsIf P ops S oi v a→∀u,YieldsIf P ops S oi v (a.put oj.dst u):=fun a hy u=>
  hy.of_same (execOp_put oi hsi a oj.dst u h3) (wanted_put oi a oj.dst u h3)
 have keepD:∀d,YieldsIf P ops S oi v {a with defers:=d::a.defers}:=fun d=>hy.of_same rfl rfl;unfold goOp at*;simp only[hj]at*;rw[wanted_put oj a oi.dst v h1]at h;split
 ·rename_i hw;simp only[hw,if_true]at h;obtain⟨hd,h⟩:=h;refine⟨hd,fun _ _=>trivial,?_⟩;have h:=h.2;have hs:∀ρ,oj.semAt (FW R).round ρ=execOp ρ oj:=fun ρ=>Oper.semAt_eq _ ρ oj fun c hc=>by rw[hc]at hd;cases hd
  rw[hs]at h⊢;rw[execOp_put oj hsj a oi.dst v h1]at h;generalize (execOp a.eval oj).run P w=r at*;cases r with
  |ok n w'=>
   cases n<;>simp only[Oper.uponIn]at h⊢
   case value u=>exact⟨keep a hy u,by rw[←Act.put_comm a v u h2];exact h⟩
   case skip=>exact⟨keep a hy _,by rw[←Act.put_comm a v undef h2];exact h⟩
   case defer d=>
    refine⟨keep _ (keepD d) _,?_⟩;rw[←Act.put_comm _ v undef h2,←Act.put_defers];exact h
   case enter f args=>
    refine⟨h.1,CallsIn.mono h.2 fun e w'' he=>?_⟩;cases e with
    |returned u=>exact⟨keep a hy u,by rw[←Act.put_comm a v u h2];exact he⟩
    |panicked c=>exact hQ _ _ _ he
    |outgrown=>exact he
   case round=>
    refine⟨h.1,RoundIn.mono h.2 fun e w'' he=>?_⟩;cases e with
    |returned u=>exact⟨keep a hy u,by rw[←Act.put_comm a v u h2];exact he⟩
    |panicked c=>exact hQ _ _ _ he
    |outgrown=>exact he
   case row row args=>exact⟨h.1,RowsIn.mono h.2 fun u w'' he=>⟨keep a hy u,by rw[←Act.put_comm a v u h2];exact he⟩⟩
  |halt x w'=>
   cases x<;>simp only[Oper.uponIn]at h⊢
   case panic u=>exact hQ _ _ _ h
 ·rename_i hw;simp only[hw]at h;exact⟨keep a hy _,by rw[←Act.put_comm a v undef h2];exact h⟩
def Qas(md:Region.Mode)(o:Oper)(i:Nat):Bool:=o.after.any fun e=>Region.binds md e&&Nat.beq e.on i
def waits(md:Region.Mode)(ops:Array Oper)(j i:Nat):Bool:=match ops[j]? with
 |some o=>Qas md o i
 |none=>false
abbrev Uu:=List (Nat×(World→Prop))
def Va(R:Option Nat)(P:Program)(md:Region.Mode)(ops:Array Oper)(Q:Exit→Act→World→Prop):Nat→Array Bool→Act→World→(World→Prop)→Uu→Prop
 |0,listed,a,w,S,L=>Region.ready md ops listed=[]∧Q .normal a w
 |fuel+1,listed,a,w,S,L=>
  (Region.ready md ops listed=[]→Q .normal a w)∧
  ∀j∈Region.ready md ops listed,goOp R P ops Q j (fun a' w'=>∃S':World→Prop,(∀u,S' u→S u)∧S' w'∧(∀p∈L,waits md ops j p.1=false→p.2 w')∧
   Va R P md ops Q fuel (listed.setIfInBounds j true) a' w' S' (L.filter fun p=>!waits md ops j p.1)) a w
theorem Ze5:∀(fuel t:Nat) (listed:Array Bool) (a:Act) (w:World) (S:World→Prop) (L:Uu),Va R P md ops Q fuel listed a w S L→
  wpOpsIn (FW R) 0 P ops Q (Region.linearise.go md ops fuel t listed []) a w:=by
 intro fuel;induction fuel with
 |zero=>intro t listed a w S L h;simpa[Region.linearise.go,wpOpsIn]using h.2
 |succ fuel ih=>
  intro t listed a w S L h;obtain⟨h₀,h₁⟩:=h;simp only[Region.linearise.go];change wpOpsIn (FW R) 0 P ops Q (match(Region.ready md ops listed)[t%(Region.ready md ops listed).length]? with
   |some i=>Region.linearise.go md ops fuel (t/(Region.ready md ops listed).length) (listed.setIfInBounds i true) [i]
   |none=>[].reverse) a w
  cases hi:(Region.ready md ops listed)[t%(Region.ready md ops listed).length]? with
  |none=>
   have hnil:Region.ready md ops listed=[]:=by
    cases hr:Region.ready md ops listed with
    |nil=>rfl
    |cons x xs=>rw[hr]at hi;have hlt:t%(x::xs).length<(x::xs).length:=Nat.mod_lt _ (by simp);simp at hi;simp at hlt;omega
   simpa[wpOpsIn]using h₀ hnil
  |some i=>
   simp only[];rw[linearise_go_acc,List.reverse_singleton,List.singleton_append];have h2:=h₁ i (List.mem_of_getElem? hi);simp only[wpOpsIn];unfold goOp at h2;split
   ·rename_i e;simp only[e]at h2;obtain⟨S',_,_,_,h3⟩:=h2;exact ih _ _ _ _ _ _ h3
   ·rename_i o e;simp only[e]at h2;split
    ·rename_i hw;rw[if_pos hw]at h2;exact Qs0 (fun a' w' ⟨S',_,_,_,h3⟩=>ih _ _ _ _ _ _ h3) h2.2
    ·rename_i hw;rw[if_neg hw]at h2;obtain⟨S',_,_,_,h3⟩:=h2;exact⟨fun _ _=>trivial,ih _ _ _ _ _ _ h3⟩
theorem Qaf:∀{fuel:Nat} {listed:Array Bool} {a:Act} {w:World} {S S2:World→Prop} {L L2:Uu},(∀u,S2 u→S u)→(∀p∈L,(∀u,p.2 u)∨∃q∈L2,q.1=p.1∧∀u,q.2 u→p.2 u)→
  Va R P md ops Q fuel listed a w S2 L2→Va R P md ops Q fuel listed a w S L
 |0,_,_,_,_,_,_,_,_,_,h=>h
 | fuel + 1,_,_,_,_,_,L,L2,hs,hl,h=>⟨h.1,fun j hj=>Qqe (fun a' w' ⟨S',h1,h2,h3,h4⟩=>by
   refine⟨S',fun u hu=>hs u (h1 u hu),h2,fun p hp hw=>?_,Qaf (fun u hu=>hu) (fun p hp=>?_) h4⟩
   ·rcases hl p hp with h|⟨q,hq,e,hi⟩
    ·exact h w'
    ·exact hi w' (h3 q hq (by rw[e];exact hw))
   ·obtain⟨hp1,hp2⟩:=List.mem_filter.1 hp;rcases hl p hp1 with h|⟨q,hq,e,hi⟩
    ·exact .inl h
    ·exact .inr ⟨q,List.mem_filter.2 ⟨hq,by rw[e];exact hp2⟩,e,hi⟩) (h.2 j hj)⟩
theorem YieldsIf.less{S S':World→Prop}(hs:∀u,S' u→S u){o:Oper}{v:Value}{a:Act}(h:YieldsIf P ops S o v a):YieldsIf P ops S' o v a:=
 h.imp (fun⟨h1,h2⟩=>⟨h1,fun w hw=>h2 w (hs w hw)⟩) id
theorem Zcu{i:Nat}{oi:Oper}{v:Value}(hi:ops[i]? =some oi)(hdi:Xl oi.op=true)(hsel:∀(j:Nat) (o:Oper) cs b,ops[j]? =some o→o.op≠.select cs b)
  (hQ:∀c a w,Q (.panic c) (a.put oi.dst v) w→Q (.panic c) a w):
  ∀(fuel:Nat) (listed:Array Bool) (a:Act) (w:World) (S T:World→Prop) (L:Uu),
   (∀j oj,ops[j]? =some oj→j≠i→listed.getD j true=false→(∀e∈oj.after,Region.binds md e=true→e.on≠i)→oi.apart ops oj=true)→
   i∈Region.ready md ops listed→YieldsIf P ops (fun u=>S u∧T u) oi v a→S w→T w→(∀p∈L,p.2 w)→
   Va R P md ops Q fuel (listed.setIfInBounds i true) (a.put oi.dst v) w S ((i,T)::L)→Va R P md ops Q (fuel+1) listed a w S L:=by
 intro fuel;induction fuel with
 |zero=>
  intro listed a w S T L _ hr hy hS hT hL H;refine⟨fun h=>(by rw[h]at hr;cases hr),fun j hj=>?_⟩;by_cases hji:j=i
  ·subst hji;exact YieldsIf.goOp hi hdi hy ⟨hS,hT⟩ ⟨S,fun _ h=>h,hS,fun p hp _=>hL p hp,H⟩
  ·have:=ready_mono hj hji;rw[H.1]at this;cases this
 |succ fuel ih=>
  intro listed a w S T L hfree hr hy hS hT hL H;refine⟨fun h=>(by rw[h]at hr;cases hr),fun j hj=>?_⟩;by_cases hji:j=i
  ·subst hji;refine YieldsIf.goOp hi hdi hy ⟨hS,hT⟩ ⟨S,fun _ h=>h,hS,fun p hp _=>hL p hp,Qaf (fun _ h=>h) (fun p hp=>?_) H⟩;exact .inr ⟨p,List.mem_cons_of_mem _ (List.mem_filter.1 hp).1,rfl,fun _ h=>h⟩
  ·have h1:=H.2 j (ready_mono hj hji);obtain⟨hjun,oj,hoj,hall⟩:=mem_ready.1 hj;have hnot:∀e∈oj.after,Region.binds md e=true→e.on≠i:=fun e he hb heq=>by
    have h1:=hall e he hb;have h0:=(mem_ready.1 hr).1;rw[heq]at h1;rcases Nat.lt_or_ge i listed.size with h'|h'
    ·simp[h']at h0 h1;rw[h0]at h1;cases h1
    ·simp[Array.getElem?_eq_none h']at h1
   have hw:waits md ops j i=false:=by unfold waits Qas;simp only[hoj];rw[Array.any_eq_false'];intro e he h;simp only[Bool.and_eq_true]at h;exact hnot e he h.1 (Nat.eq_of_beq_eq_true h.2)
   have h2:=Zho hoj (hfree j oj hoj hji hjun hnot) (fun cs b=>hsel i oi cs b hi) (fun cs b=>hsel j oj cs b hoj) hQ hy h1;have hfree':∀k ok,ops[k]? =some ok→k≠i→(listed.setIfInBounds j true).getD k true=false→
     (∀e∈ok.after,Region.binds md e=true→e.on≠i)→oi.apart ops ok=true:=fun k ok hk hki hun hno=>by
    refine hfree k ok hk hki ?_ hno;by_cases hjk:j=k
    ·subst hjk;exact hjun
    ·rw[getD_set_ne true hjk]at hun;exact hun
   refine Qqe (fun a' w' h3=>?_) h2;obtain⟨h4,S',h5,h6,h7,h8⟩:=h3;refine⟨S',h5,h6,fun p hp=>h7 p (List.mem_cons_of_mem _ hp),ih (listed.setIfInBounds j true) a' w' S' T _ hfree' (ready_mono hr (Ne.symm hji)) (YieldsIf.less (fun u hu=>⟨h5 u hu.1,hu.2⟩) h4) h6 (h7 _ List.mem_cons_self hw) (fun p hp=>?_) ?_⟩
   ·obtain⟨hp1,hp2⟩:=List.mem_filter.1 hp;exact h7 p (List.mem_cons_of_mem _ hp1) (by simpa using hp2)
   ·rw[Array.setIfInBounds_comm _ _ hji];rw[List.filter_cons,if_pos (by simp[hw])]at h8;exact h8
theorem Qvc{i:Nat}{oi:Oper}{v:Value}{fuel:Nat}{listed:Array Bool}{a:Act}{w:World}{S T:World→Prop}{L:Uu}(hi:ops[i]? =some oi)(hdi:Xl oi.op=true)
  (hs:Region.noSelect ops=true) (hf:Region.free md ops listed i=true) (hr:i∈Region.ready md ops listed)
  (hQ:∀c a w,Q (.panic c) (a.put oi.dst v) w→Q (.panic c) a w) (hy:YieldsIf P ops (fun u=>S u∧T u) oi v a) (hS:S w) (hT:T w) (hL:∀p∈L,p.2 w)
  (h:Va R P md ops Q fuel (listed.setIfInBounds i true) (a.put oi.dst v) w S ((i,T)::L)):Va R P md ops Q (fuel+1) listed a w S L:=
 Zcu hi hdi (Region.noSelect_spec hs) hQ fuel listed a w S T L (Region.free_spec hi hf) hr hy hS hT hL h
end
def Qeh(M:Qc)(u:World):Prop:=∀b o,M b=some o→u.heap[b]? =some o
def Ww(ρ:Env)(R:List Nat)(w u:World):Prop:=∀s∈R,∀p,ρ s=some p→u.heap[p.block]? =w.heap[p.block]?
def Jp(ev:Operand→SV)(o:Oper):List Nat:=match o.op with
 |.load _ a=>match ev a with
  |.ptr s ..=>[s]
  |_=>[]
 |.lookup _ m _ _=>match ev m with
  |.mp s=>[s]
  |_=>[]
 |_=>[]
def Qax(H:List Qa)(s:Nat):Bool:=match H[s]? with
 |some o=>o.live
 |none=>false
def Qj3(hl:Bool)(ops:Array Oper)(listed:Array Bool):Option Nat:=
 (Region.ready .any ops listed).find? fun i=>match ops[i]? with
  |some o=>Yx o.op&&(hl||(match o.op with|.load ..=>false|.lookup ..=>false|_=>true))&&Region.free .any ops listed i
  |none=>false
def keeps(o:Oper)(pend:List (Nat×List Nat))(tch fg:List Nat):Bool:=
 pend.all fun q=>Qas .any o q.1||q.2.all fun r=>!tch.contains r&& !fg.contains r
def Xi(o:Oper)(pend:List (Nat×List Nat)):List (Nat×List Nat):=pend.filter fun q=>!Qas .any o q.1
def Qah(i:Nat)(R:List Nat)(pend:List (Nat×List Nat)):List (Nat×List Nat):=match R with
 |[]=>pend
 |_=>(i,R)::pend
def Xq(cx:Cx)(nt:Nat)(hl:Bool)(ops:Array Oper):Nat→Array Bool→List (Nat×List Nat)→St→(St→Prop)→Prop
 |0,listed,pend,s,K=>Region.ready .any ops listed=[]∧K s
 |fuel+1,listed,pend,s,K=>match Qj3 hl ops listed with
  |some i=>match ops[i]? with
   |none=>False
   | some o=>Y2 nt o.dst = true ∧ W3 ops o s
     (fun s'=>((Jp s'.ev o).all (Qax s'.H) && hdyn (Jp s'.ev o) s'.ev o) = true ∧
      (sop cx.P cx.tab s'.H s'.ev o).holds s'.H fun x _ _ _=>Xq cx nt hl ops fuel (listed.setIfInBounds i true) (Qah i (Jp s'.ev o) pend) (s'.put o.dst x) K)
     (fun s'=>Xq cx nt hl ops fuel (listed.setIfInBounds i true) pend (s'.put o.dst (.lit undef)) K)
  |none=>match Region.ready .any ops listed with
   |[]=>K s
   |r::rs=>∀i∈r::rs,match ops[i]? with
    |none=>False
    | some o=>W3 ops o s
      (fun s'=>Xl o.op=true∧opP cx s'.ev s'.H o fun x H tch fg=>(keeps o pend tch fg=true∧s'.adv nt o.dst (fun s''=>Xq cx nt hl ops fuel (listed.setIfInBounds i true) (Xi o pend) s'' K) x H tch fg))
      (fun s'=>Y2 nt o.dst=true∧Xq cx nt hl ops fuel (listed.setIfInBounds i true) (Xi o pend) (s'.put o.dst (.lit undef)) K)
theorem Zm.put{M:Qc}{ρ:Env}{s:St}{w:World}(dst:Option Tmp)(x:SV):Zm M ρ s w M ρ (s.put dst x) w:=by
 cases dst with
 |none=>exact Zm.refl ..
 |some d=>exact⟨Fr.refl ..,rfl,fun _ h=>h,fun _ h=>h⟩
theorem put_H(s:St)(dst:Option Tmp)(x:SV):(s.put dst x).H=s.H:=rfl
def Qe1(ρ:Env)(w:World)(pend:List (Nat×List Nat)):Uu:=pend.map fun q=>(q.1,Ww ρ q.2 w)
theorem Ww.self(ρ:Env)(R:List Nat)(w:World):Ww ρ R w w:=fun _ _ _ _=>rfl
theorem Qxd{o:Oper}(h:Yx o.op=true):Xl o.op=true:=by cases e:o.op<;>rw[e]at h<;>first|rfl|cases h
theorem Zk9{cx:Cx}(hcx:cx.Ok){R:Option Nat}{B:Nat→Value}{nt:Nat}{hl:Bool}{ops:Array Oper}(hns:Region.noSelect ops=true){M0:Qc}{ρ0:Env}{s0:St}{w0:World}{K:St→Prop}:
  ∀(fuel:Nat) (listed:Array Bool) (pend:List (Nat×List Nat)) (s:St) (M:Qc) (ρ:Env) (a:Act) (w:World),Xq cx nt hl ops fuel listed pend s K→Good B nt M ρ s a w→Zm M0 ρ0 s0 w0 M ρ s w→
   (∀q∈pend,∀r∈q.2,Qax s.H r=true)→
   Va R cx.P .any ops (fun e a' w'=>e=.normal∧∃M' ρ' s',K s'∧Good B nt M' ρ' s' a' w'∧Zm M0 ρ0 s0 w0 M' ρ' s' w') fuel listed a w (Qeh M) (Qe1 ρ w pend):=by
 intro fuel;induction fuel with
 |zero=>intro listed pend s M ρ a w h hg go _;exact⟨h.1,rfl,M,ρ,s,h.2,hg,go⟩
 |succ fuel ih=>
  intro listed pend s M ρ a w h hg go hR;have selfL:∀p∈Qe1 ρ w pend,p.2 w:=fun p hp=>by obtain⟨q,_,rfl⟩:=List.mem_map.1 hp;exact Ww.self ρ q.2 w
  unfold Xq at h;split at h
  ·rename_i i hp;have hmem:=List.mem_of_find?_eq_some hp;have hcond:=List.find?_some hp;split at h
   ·exact h.elim
   ·rename_i o ho;simp only[ho,Bool.and_eq_true]at hcond;obtain⟨⟨hk,_⟩,hfree⟩:=hcond;obtain⟨hdst,h⟩:=h;rcases Qh5 hg h with⟨hw,s',⟨hb,hrun⟩,hg',go',hH⟩|⟨hw,s',hskip,hg',go',hH⟩
    ·simp only[Bool.and_eq_true]at hb;obtain⟨hlv,hdyn'⟩:=hb;obtain⟨v,x,hk',hx,hr⟩:=Zoo (Sw:=fun u=>Qeh M u∧Ww ρ (Jp s'.ev o) w u) hcx.tab hg'.mem (fun x=>hg'.ev x) (fun u hu=>hu.1) (fun u hu=>hu.2) hk hdyn' hrun;refine Qvc (T:=Ww ρ (Jp s'.ev o) w) ho (Qxd hk) hns hfree hmem (fun c a w hq=>(by cases hq.1)) (.inl ⟨hw,hr⟩) hg.mem.imm (Ww.self ρ _ w) selfL ?_;refine Qaf (L2:=Qe1 ρ w (Qah i (Jp s'.ev o) pend)) (fun _ h=>h) (fun p hp=>?_) (ih _ _ _ M ρ _ w hk' (hg'.put hdst hx) ((go.trans go').trans (Zm.put _ _)) fun q hq r hr'=>?_)
     ·unfold Qah;rcases List.mem_cons.1 hp with rfl|hp
      ·split
       ·rename_i e;refine .inl fun u=>?_;show Ww ρ (Jp s'.ev o) w u;rw[e];intro r hr;cases hr
       ·exact .inr ⟨_,List.mem_cons_self,rfl,fun _ h=>h⟩
      ·split
       ·exact .inr ⟨p,hp,rfl,fun _ h=>h⟩
       ·exact .inr ⟨p,List.mem_cons_of_mem _ hp,rfl,fun _ h=>h⟩
     ·rw[put_H];have hold:∀q∈pend,∀r∈q.2,Qax s'.H r=true:=fun q hq r hr'=>by rw[hH];exact hR q hq r hr'
      unfold Qah at hq;split at hq
      ·exact hold q hq r hr'
      ·rcases List.mem_cons.1 hq with rfl|hq
       ·exact List.all_eq_true.1 hlv r hr'
       ·exact hold q hq r hr'
    ·refine Qvc (v:=undef) (T:=fun _=>True) ho (Qxd hk) hns hfree hmem (fun c a w hq=>(by cases hq.1)) (.inr ⟨hw,rfl⟩) hg.mem.imm trivial selfL ?_;refine Qaf (L2:=Qe1 ρ w pend) (fun _ h=>h) (fun p hp=>?_) (ih _ _ _ M ρ _ w hskip (hg'.put hdst (.pv (.lit _))) ((go.trans go').trans (Zm.put _ _)) fun q hq r hr'=>?_)
     ·rcases List.mem_cons.1 hp with rfl|hp
      ·exact .inl fun _=>trivial
      ·exact .inr ⟨p,hp,rfl,fun _ h=>h⟩
     ·rw[put_H,hH];exact hR q hq r hr'
  ·split at h
   ·rename_i hr;exact⟨fun _=>⟨rfl,M,ρ,s,h,hg,go⟩,fun i hi=>by rw[hr]at hi;cases hi⟩
   ·rename_i r0 rs hr;refine⟨fun hn=>(by rw[hr]at hn;cases hn),fun i hi=>?_⟩;rw[hr]at hi;have h:=h i hi;split at h
    ·exact h.elim
    ·rename_i o ho;unfold goOp;simp only[ho];have hwt:∀k,waits .any ops i k=Qas .any o k:=fun k=>by unfold waits;simp only[ho]
     rcases Qh5 hg h with⟨hw,s',⟨hd,hrun⟩,hg',go',hH⟩|⟨hw,s',⟨hdst,hskip⟩,hg',go',hH⟩
     ·rw[if_pos hw];refine⟨hd,(Qsc hcx hg'.mem (fun x=>hg'.ev x) hrun).wpIn hd ?_⟩
      rintro v w' ⟨x,H',tch,fg,M',ρ',⟨hdis,hadv⟩,hx,hm,hf⟩
      obtain⟨sn,hk,hsn,g1,g2⟩:=Qsk hg' hadv hx hm hf;have keepR:∀q∈pend,Qas .any o q.1=false→∀r∈q.2,(∃o',H'[r]? =some o'∧o'.live=true)∧∀p,ρ r=some p→ρ' r=some p∧w'.heap[p.block]? =w.heap[p.block]? :=fun q hq hwq r hr'=>by
       suffices hh:(∃o',H'[r]? =some o'∧o'.live=true)∧∀p,ρ r=some p→ρ' r=some p∧∀b,p.has b→w'.heap[b]? =w.heap[b]? from⟨hh.1,fun p hp=>⟨(hh.2 p hp).1,(hh.2 p hp).2 _ p.self⟩⟩
       have h0:=List.all_eq_true.1 hdis q hq;rw[hwq,Bool.false_or]at h0;have h1:=List.all_eq_true.1 h0 r hr';simp only[Bool.and_eq_true,Bool.not_eq_true',List.contains_eq_mem,decide_eq_false_iff_not]at h1;have h2:=hR q hq r hr';unfold Qax at h2;rw[←hH]at h2;split at h2
       ·rename_i o' ho';exact hf.keep r o' (List.getElem?_eq_some_iff.1 ho').1 h1.1 ho' h2
       ·cases h2
      refine⟨Qeh M',fun u hu b ob hb=>hu b ob (hf.imm b ob hb),hm.imm,fun p hp hwp=>?_,?_⟩
      ·obtain⟨q,hq,rfl⟩:=List.mem_map.1 hp;rw[hwt]at hwp;exact fun r hr' p hp'=>((keepR q hq hwp r hr').2 p hp').2
      ·refine Qaf (fun _ h=>h) (fun p hp=>?_) (ih _ _ _ M' ρ' _ w' hk g1 ((go.trans go').trans g2) fun q hq r hr'=>?_)
       ·obtain⟨hp1,hp2⟩:=List.mem_filter.1 hp;obtain⟨q,hq,rfl⟩:=List.mem_map.1 hp1;simp only[hwt,Bool.not_eq_true']at hp2;refine .inr ⟨(q.1,Ww ρ' q.2 w'),List.mem_map.2 ⟨q,List.mem_filter.2 ⟨hq,by simp[hp2]⟩,rfl⟩,rfl,fun u hu r hr' p hp'=>?_⟩;obtain⟨_,h2⟩:=keepR q hq hp2 r hr';obtain⟨h3,h4⟩:=h2 p hp';rw[hu r hr' p h3,h4]
       ·obtain⟨hq1,hq2⟩:=List.mem_filter.1 hq;obtain⟨⟨o',h1,h2⟩,_⟩:=keepR q hq1 (by simpa using hq2) r hr';rw[hsn];simp[Qax,h1,h2]
     ·rw[if_neg (by simp[hw])];refine⟨Qeh M,fun _ h=>h,hg.mem.imm,fun p hp _=>selfL p hp,?_⟩;refine Qaf (fun _ h=>h) (fun p hp=>?_) (ih _ _ _ M ρ _ w hskip (hg'.put hdst (.pv (.lit _))) ((go.trans go').trans (Zm.put _ _)) fun q hq r hr'=>?_)
      ·obtain⟨hp1,hp2⟩:=List.mem_filter.1 hp;obtain⟨q,hq,rfl⟩:=List.mem_map.1 hp1;simp only[hwt,Bool.not_eq_true']at hp2;exact .inr ⟨(q.1,Ww ρ q.2 w),List.mem_map.2 ⟨q,List.mem_filter.2 ⟨hq,by simp[hp2]⟩,rfl⟩,rfl,fun _ h=>h⟩
      ·rw[put_H,hH];exact hR q (List.mem_filter.1 hq).1 r hr'
theorem Mem.of_heap{M:Qc}{ρ:Env}{H:List Qa}{w w':World}(hw:w'.heap=w.heap)(h:Mem M ρ H w):Mem M ρ H w':=
 ⟨fun b o hb=>by rw[hw];exact h.imm b o hb,fun s o ho=>(h.own s o ho).mono M.le_refl ρ.le_refl rfl fun p _ _ _=>by rw[hw],h.seps,h.diss,h.fresh,fun s o p b a c d e=>by rw[hw];exact h.lts s o p b a c d e⟩
theorem Fr.of_heap{M:Qc}{ρ:Env}{H:List Qa}{w w':World}(hw:w'.heap=w.heap)(n:Nat)(t f:List Nat)(io:w'.os=w.os∧w'.output=w.output:=by exact⟨rfl,rfl⟩):Fr M ρ H w M ρ H w' n t f:=
 ⟨M.le_refl,fun b o h h'=>by(rw[h]at h';cases h'),fun b h=>.inr h,fun _ _ _=>by rw[hw],by rw[hw];exact Nat.le_refl _,fun _ o _ _ h hl=>⟨⟨o,h,hl⟩,fun _ hp=>⟨hp,fun _ _=>by rw[hw]⟩⟩,fun _ _ _=>rfl,io⟩
theorem Qyq{cx:Cx}(hcx:cx.Ok){R:Option Nat}{nt id:Nat}{hl:Bool}{ops:Array Oper}{Q:Exit→St→Prop}{s:St}(hns:Region.noSelect ops=true)
  (h:Xq cx nt hl ops ops.size (Array.replicate ops.size false) [] s (Q .normal)):Q7 R cx.P nt (.region id ops true) Q s:=by
 intro B M ρ a w hg;refine wpIn_mono (wpIn_region_draw (Q:=fun e a' w'=>e=.normal∧∃M' ρ' s',Q .normal s'∧Good B nt M' ρ' s' a' w'∧Zm M ρ s w M' ρ' s' w') fun t=>?_) ?_
 ·simp only[Region.schedule,hcx.mix,Bool.true_or,if_true];exact Ze5 ops.size t _ a _ _ _ (Zk9 hcx hns (M0:=M) (ρ0:=ρ) (s0:=s) (w0:=w) _ _ _ s M ρ a {w with drawn:=w.drawn+1} h
   ⟨hg.tm,hg.sz,Mem.of_heap (w:=w) rfl hg.mem,hg.df,hg.mks,hg.nle,hg.fix⟩ ⟨Fr.of_heap (w:=w) (w':={w with drawn:=w.drawn+1}) rfl _ _ _,rfl,fun _ h=>h,fun _ h=>h⟩ (fun q hq=>by cases hq))
 ·rintro e a' w' ⟨rfl,M',ρ',s',hk,g,go⟩
  exact⟨M',ρ',s',hk,g,go⟩
end Go.Sx
end
namespace Go.Sx
open Go
def Kb:TT→Nat→List SV→TT
 |T,_,[]=>T
 |T,i,x::xs=>Kb (T.set i x) (i+1) xs
theorem Qn6:∀(xs:List SV) (T:TT) (i t:Nat) (x:SV),(∀t x,T.get t=some x→t<i)→(Kb T i xs).get t=some x→T.get t=some x∨(i≤t∧xs[t-i]? =some x)
 |[],T,i,t,x,_,h=>.inl h
 |y::xs,T,i,t,x,hT,h=>by
  rcases Qn6 xs (T.set i y) (i+1) t x (fun t x h=>by
    rcases TT.Jl _ _ _ _ _ h with⟨e,_⟩|⟨_,h⟩
    ·omega
    ·have:=hT t x h;omega) h with h|⟨h1,h2⟩
  ·rcases TT.Jl _ _ _ _ _ h with⟨rfl,rfl⟩|⟨_,h⟩
   ·exact .inr ⟨Nat.le_refl _,by simp⟩
   ·exact .inl h
  ·refine .inr ⟨by omega,?_⟩;rw[show t-i=(t-(i+1))+1 by omega];simpa using h2
def St.entry(args:List SV)(H:List Qa):St:={T:=Kb (.full 8) 0 args,H:=H,n0:=H.length,tch:=[],fg:=[],marks:=[],er:=[]}
theorem Good.entry{M:Qc}{ρ:Env}{H:List Qa}{w:World}{vs:List Value}{args:List SV}{nt:Nat}(hm:Mem M ρ H w)(hr:Yu M ρ vs args)(hn:args.length≤nt):
  Good (fun t=>(vs.toArray++Array.replicate (nt-vs.toArray.size) undef).getD t undef) nt M ρ (.entry args H) {tmps:=vs.toArray++Array.replicate (nt-vs.toArray.size) undef,defers:=[]} w:=by
 refine⟨fun t x hx=>?_,?_,hm,⟨rfl,fun i d s h=>by simp at h⟩,fun m h=>by simp[St.entry]at h,Nat.le_refl _,fun _ _=>rfl⟩
 ·rcases Qn6 args (.full 8) 0 t x (fun t x h=>by rw[TT.Ur]at h;cases h) hx with h2|⟨_,h2⟩
  ·rw[TT.Ur]at h2;cases h2
  simp only[Nat.sub_zero]at h2;have hlt:t<args.length:=(List.getElem?_eq_some_iff.1 h2).1;have hlt':t<vs.length:=by rw[hr.1];exact hlt
  refine hr.2 t _ x ?_ h2;simp[Array.getD_eq_getD_getElem?,hlt',Array.getElem?_append]
 ·have:=hr.1;simp;omega
def Jb(cx:Cx)(s:St):List ResultVar→(List SV→Prop)→Prop
 |[],K=>K []
 |.tmp t::rs,K=>Jb cx s rs fun l=>K (s.ev (.tmp t)::l)
 |.cell a t::rs,K=>(Ka cx.tab s.H t (s.ev (.tmp a))).holds s.H fun x _ _ _=>Jb cx s rs fun l=>K (x::l)
def Zw:List SV→SV
 |[x]=>x
 |l=>.tup l
def Qke(tmps:Array Value):ResultVar→Sem Value
 |.tmp t=>pure (tmps.getD t undef)
 |.cell a t=>do loadVar t (←asAddr (tmps.getD a undef))
theorem Zs9(fn:Func)(tmps:Array Value):results fn tmps=(do let vs ←fn.results.mapM (Qke tmps);pure (if h:vs.size=1 then vs[0]else .tuple vs)):=by unfold results;congr 2
theorem Quh{α:Type}{P:Program}{w:World}(f:α→Sem Value)(x:α)(xs:List α){v:Value}{vs:List Value}(h:(f x).run P w=.ok v w)(hs:(xs.mapM f).run P w=.ok vs w):((x::xs).mapM f).run P w=.ok (v::vs) w:=by simp only[List.mapM_cons,Sem.run_bind,h,Result.andThen_ok,hs,Sem.run_pure]
theorem Qii{cx:Cx}(hcx:cx.Ok){B:Nat→Value}{nt:Nat}{M:Qc}{ρ:Env}{s:St}{a:Act}{w:World}(hg:Good B nt M ρ s a w):∀(rs:List ResultVar) (K:List SV→Prop),Jb cx s rs K→
  ∃(vs:List Value) (l:List SV),K l∧Yu M ρ vs l∧(rs.mapM (Qke a.tmps)).run cx.P w=.ok vs w
 |[],K,h=>⟨[],[],h,⟨rfl,fun i v x hv=>by simp at hv⟩,by simp⟩
 |.tmp t::rs,K,h=>by
  obtain⟨vs,l,hk,hr,hrun⟩:=Qii hcx hg rs _ h;refine⟨a.tmps.getD t undef::vs,_,hk,⟨by simp[hr.1],fun i v x hv hx=>?_⟩,Quh _ _ _ rfl hrun⟩;match i with
  |0=>simp only[List.getElem?_cons_zero,Option.some.injEq]at hv hx;subst hv;subst hx;exact hg.ev (.tmp t)
  |i+1=>exact hr.2 i v x (by simpa using hv) (by simpa using hx)
 |.cell a' t::rs,K,h=>by
  have hin:∀s' sz r j,s.ev (.tmp a')=.ptr s' sz r j→s'∈(List.range s.H.length):=fun s' sz r j e=>by
   simp only[Jb,e]at h;unfold Ka at h;split at h
   ·exact h.elim
   ·dsimp only at h;split at h
    ·exact h.elim
    ·rename_i o ho;simp;exact(List.getElem?_eq_some_iff.1 ho).1
  obtain⟨v,x,hk,hx,hrun⟩:=Qx1 (Sw:=fun u=>u=w) hcx.tab hg.mem (fun u hu=>by rw[hu];exact hg.mem.imm) (R:=List.range s.H.length) (fun u hu _ _ _ _=>by rw[hu]) (hg.ev (.tmp a')) hin h;have hrun:=hrun w rfl;obtain⟨vs,l,hk2,hr,hrun2⟩:=Qii hcx hg rs _ hk;refine⟨v::vs,_,hk2,⟨by simp[hr.1],fun i u y hu hy=>?_⟩,Quh _ _ _ ?_ hrun2⟩
  ·match i with
   |0=>simp only[List.getElem?_cons_zero,Option.some.injEq]at hu hy;subst hu;subst hy;exact hx
   |i+1=>exact hr.2 i u y (by simpa using hu) (by simpa using hy)
  ·have e:a.eval (.tmp a')=a.tmps.getD a' undef:=rfl;rw[e]at hrun;show(do loadVar t (←asAddr (a.tmps.getD a' undef)):Sem Value).run cx.P w=.ok v w;generalize a.tmps.getD a' undef=p at hrun;cases p with
   |pointer q=>cases q with
    |some q=>simpa[Instr.loadAt,Instr.sureAddr,asAddr,Sem.run_bind]using hrun
    |none=>simp[Instr.loadAt,Instr.sureAddr,Sem.run_bind]at hrun
   |_=>simp[Instr.loadAt,Instr.sureAddr,Sem.run_bind]at hrun
theorem Mem.Qdk{M:Qc}{ρ:Env}{H:List Qa}{w:World}{s:Nat}{o so:Qa}{p:Place}{ob:Obj}(h:Mem M ρ H w)(hs:H[s]? =some o)(hl:o.live=true)(hp:ρ s=some p)(hlo:so.live=true)
  (ho:Qy M ρ (w.putObj p.block ob) s so):Mem M ρ (H.set s so) (w.putObj p.block ob)∧Fr M ρ H w M ρ (H.set s so) (w.putObj p.block ob) H.length [s] []:=
 h.put hs hl hp (fun b hb=>World.putObj_heap_other hb) World.putObj_size hlo ho
def shut:List Nat→List Qa→Option (List Qa)
 |[],H=>some H
 |m::ms,H=>match H[m]? with
  |some (.dfr false)=>shut ms (H.set m (.dfr true))
  |_=>none
theorem Qqv:∀{ms:List Nat} {H H':List Qa},shut ms H=some H'→H'.length=H.length
 |[],H,H',h=>by simp only[shut,Option.some.injEq]at h;rw[h]
 |m::ms,H,H',h=>by
  simp only[shut]at h;split at h
  ·rw[Qqv h];simp
  ·cases h
theorem Qyx{P:Program}{fn:Func}{tmps:Array Value}{E:Ending→World→Prop}{M:Qc}{ρ:Env}{H0:List Qa}{w0:World}{n:Nat}:
  ∀(ms:List Nat) (ds:List Deferred) (H H':List Qa) (w:World),shut ms H=some H'→Mem M ρ H w→Qap ρ ms ds→n≤H.length→
   (∀w',Mem M ρ H' w'→Fr M ρ H w M ρ H' w' n ms []→LeavesIn Fence.wide 0 P fn tmps E [] .returning w')→LeavesInM Fence.wide 0 P fn tmps E ds .returning w
 |[],ds,H,H',w,hs,hm,hd,hn,h=>by cases hs;have:ds=[]:=List.eq_nil_of_length_eq_zero hd.1;subst this;exact h w hm (Fr.refl ..)
 |m::ms,[],H,H',w,hs,hm,hd,hn,h=>by have:=hd.1;simp at this
 |m::ms,d::ds,H,H',w,hs,hm,hd,hn,h=>by
  unfold shut at hs;split at hs
  ·rename_i hH;obtain⟨p,hp,rfl⟩:=hd.2 0 d m rfl rfl;obtain⟨q,h1,h2⟩:=hm.own m _ hH;rw[hp]at h1;cases h1;obtain⟨m1,f1⟩:=hm.Qdk (so:=.dfr true) (ob:=.deferred none) hH rfl hp rfl ⟨p,hp,World.putObj_heap_same (Array.getElem?_eq_some_iff.1 h2).1⟩;refine⟨by simp,.inl ⟨p.block,_,rfl,run_takeDeferred h2,?_⟩⟩;refine Qyx (H0:=H0) (w0:=w0) (n:=n) ms ds _ H' _ hs m1 ⟨by have:=hd.1;simpa using this,fun i d s hi hk=>hd.2 (i+1) d s (by simpa using hi) (by simpa using hk)⟩ (by simpa using hn) fun w' hm' hf=>?_;refine h w' hm' ((f1.weaken hn (fun _ _ h=>h) (fun _ _ h=>h)).trans hf (fun x hx=>?_) (fun x hx=>List.mem_cons_of_mem _ hx) (fun x hx=>hx) (fun x hx=>hx));rw[List.mem_singleton.1 hx];exact List.mem_cons_self
  ·cases hs
theorem Qcv{cx:Cx}(hcx:cx.Ok){f:FuncId}{fn:Func}{c:Code}{args:List SV}{H:List Qa}{K:Qr}(hf:cx.fns.lookup f=some fn)(hb:fn.body=some c)(hn:args.length≤fn.ntmps)
  (h:Q7 none cx.P fn.ntmps c (fun e s=>(e=.normal∨e=.ret)∧(H.length≤s.H.length∨s.marks=[])∧∃H',shut s.marks s.H=some H'∧Jb cx {s with H:=H',marks:=[]} fn.results.toList fun l=>K (Zw l) H' s.tch s.fg) (.entry args H)):Z2 cx.P f args H K:=by
 intro M ρ w vs hm hr;obtain⟨f1,_⟩:=hcx.fn hf;refine callsIn_of_wp_marks f1 hb trivial ?_;have h0:=h _ M ρ _ w (Good.entry hm hr hn);rw[Qja]at h0;refine wpIn_mono h0 ?_
 rintro e a' w' ⟨M',ρ',s',⟨he,hlen,H',hshut,hres⟩,hg,go⟩
 have hmk:∀m∈s'.marks,H.length≤m:=fun m hm=>by have:=hg.mks m hm;rw[go.n0]at this;exact this
 have fin:∀w'',Mem M' ρ' H' w''→Fr M ρ H w M' ρ' H' w'' H.length s'.tch s'.fg→LeavesIn Fence.wide 0 cx.P fn a'.tmps (fun e w'=>∃v r H' M' ρ' tch fg,e=.returned v∧K r H' tch fg∧Qe M' ρ' v r∧Mem M' ρ' H' w'∧Fr M ρ H w M' ρ' H' w' H.length tch fg) [] .returning w'':=by
  intro w'' hm'' hfr;have hg':Good _ fn.ntmps M' ρ' {s' with H:=H',marks:=[]} {tmps:=a'.tmps,defers:=[]} w'':=⟨hg.tm,hg.sz,hm'',⟨rfl,fun i d s h=>by simp at h⟩,(fun m h=>by simp at h),(show s'.n0≤H'.length by rw[Qqv hshut];exact hg.nle),hg.fix⟩;obtain⟨vs',l,hk,hreps,hrun⟩:=Qii hcx hg' _ _ hres;have hv:∃v,(results fn a'.tmps).run cx.P w''=.ok v w''∧Qe M' ρ' v (Zw l):=by
   have hrun':(fn.results.mapM (Qke a'.tmps)).run cx.P w''=.ok vs'.toArray w'':=by rw[Array.mapM_eq_mapM_toList,Sem.run_map,hrun];rfl
   refine⟨if h:vs'.toArray.size=1 then vs'.toArray[0]else .tuple vs'.toArray,?_,?_⟩
   ·rw[Zs9,Sem.run_bind,hrun'];rfl
   ·obtain⟨hl1,hl2⟩:=hreps;match vs',l,hl1,hl2 with
    |[v],[x],_,hl2=>exact hl2 0 v x rfl rfl
    |[],[],_,hl2=>simp[Zw];exact .tup _ _ rfl fun i v x hv=>by simp at hv
    |v::v2::vs,x::y::l,hl1,hl2=>simp[Zw];exact .tup _ _ (by simpa using hl1) fun i u z hu hz=>hl2 i u z (by simpa using hu) hz
    |[],_::_,hl1,_=>simp at hl1
    |[_],[],hl1,_=>simp at hl1
    |[_],_::_::_,hl1,_=>simp at hl1
    |_::_::_,[],hl1,_=>simp at hl1
    |_::_::_,[_],hl1,_=>simp at hl1
  obtain⟨v,hv1,hv2⟩:=hv;exact⟨v,hv1,v,_,_,M',ρ',_,_,rfl,hk,hv2,hm'',hfr⟩
 have hfr:Fr M ρ H w M' ρ' s'.H w' H.length s'.tch s'.fg:=go.fr;have out:LeavesInM Fence.wide 0 cx.P fn a'.tmps (fun e w'=>∃v r H' M' ρ' tch fg,e=.returned v∧K r H' tch fg∧Qe M' ρ' v r∧Mem M' ρ' H' w'∧Fr M ρ H w M' ρ' H' w' H.length tch fg) a'.defers .returning w':=by
  by_cases hmk0:s'.marks=[]
  ·rw[hmk0]at hshut;cases hshut;have hd:a'.defers=[]:=by have:=hg.df.1;rw[hmk0]at this;exact List.eq_nil_of_length_eq_zero this
   rw[hd];exact fin w' hg.mem hfr
  ·have hlen:=hlen.resolve_right hmk0;refine Qyx (H0:=H) (w0:=w) (n:=H.length) s'.marks a'.defers s'.H H' w' hshut hg.mem hg.df hlen fun w'' hm'' hf=>?_;have hf':Fr M' ρ' s'.H w' M' ρ' H' w'' H.length [] []:=hf.weaken (Nat.le_refl _) (fun x hx hx'=>by have:=hmk x hx';omega) (fun _ _ h=>h);exact fin w'' hm'' (hfr.trans hf' (fun _ h=>h) (fun x hx=>by cases hx) (fun _ h=>h) (fun x hx=>by cases hx))
 rcases he with rfl|rfl
 ·exact out
 ·exact out
def Jv(m n:Nat):List Nat:=(List.range n).filter fun i=>decide (m≤i)
def Env.cut(m:Nat)(ρ:Env):Env:=fun s=>if s<m then ρ s else none
theorem Ux{M:Qc}{ρ:Env}{H:List Qa}{w:World}(hm:Mem M ρ H w)(m:Nat):Env.J1 (Jv m H.length) ρ (ρ.cut m):=by
 intro s p hs hp;unfold Env.cut;split
 ·exact hp
 ·rename_i h;rcases Nat.lt_or_ge s H.length with h'|h'
  ·simp[Jv,h']at hs;omega
  ·rw[hm.fresh s h']at hp;cases hp
theorem Znn(d:List Nat)(o:Qa):(o.forget d).live=o.live:=by cases o<;>rfl
def Qce(R:Option Nat)(P:Program)(nt:Nat)(c:Code)(Q:Exit→St→Prop):Nat→St→Prop
 |0,_=>False
 |n+1,s=>Q7 R P nt c (Qh9 (fun s'=>∃m,m≤n∧Qce R P nt c Q n s') Q) s
theorem Zof{R:Option Nat}{P:Program}{nt:Nat}{c:Code}{Q:Exit→St→Prop}{n:Nat}{s:St}(h:Qce R P nt c Q n s):Q7 R P nt (.loop c) Q s:=by
 refine Zg0 (Qce R P nt c Q) h fun k s hk=>?_;cases k with
 |zero=>exact hk.elim
 |succ k=>
  refine Q7.mono hk fun e s'=>?_;cases e with
  |normal=>rintro ⟨m,hm,h⟩;exact⟨k,Nat.lt_succ_self k,h⟩
  |_=>exact id
def Qei:TT→List Tmp→List SV→TT
 |T,p::ps,x::xs=>Qei (T.set p x) ps xs
 |T,_,_=>T
theorem Qve{M:Qc}{ρ:Env}{nt:Nat}:∀(ps:List Tmp) (vs:List Value) (xs:List SV) (T:TT) (tmps:Array Value),(ps.all fun p=>Nat.blt p nt)=true→Yu M ρ vs xs→tmps.size=nt→
  (∀t x,T.get t=some x→Qe M ρ (tmps.getD t undef) x)→ps.length=vs.length→
  ((ps.zip vs).foldl (fun tmps (t,a)=>tmps.setIfInBounds t a) tmps).size=nt∧∀t x,(Qei T ps xs).get t=some x→Qe M ρ (((ps.zip vs).foldl (fun tmps (t,a)=>tmps.setIfInBounds t a) tmps).getD t undef) x
 |[],vs,xs,T,tmps,hp,hr,hs,ht,hl=>⟨hs,fun t x h=>ht t x h⟩
 |p::ps,[],xs,T,tmps,hp,hr,hs,ht,hl=>by simp at hl
 |p::ps,v::vs,[],T,tmps,hp,hr,hs,ht,hl=>by have:=hr.1;simp at this
 |p::ps,v::vs,x::xs,T,tmps,hp,hr,hs,ht,hl=>by
  simp only[List.all_cons,Bool.and_eq_true]at hp;have hpn:=blt_lt' hp.1;simp only[List.zip_cons_cons,List.foldl_cons,Qei];refine Qve ps vs xs _ _ hp.2 ⟨by have:=hr.1;simpa using this,fun i v x hv hx=>hr.2 (i+1) v x (by simpa using hv) (by simpa using hx)⟩ (by simp[hs]) (fun t y hy=>?_) (by simpa using hl);rw[Array.getD_eq_getD_getElem?,Array.getElem?_setIfInBounds];rcases TT.Jl _ _ _ _ _ hy with⟨e,rfl⟩|⟨e,hy⟩
  ·subst e;simp only[if_true,hs,hpn];exact hr.2 0 v _ rfl rfl
  ·rw[if_neg (fun e'=>e e'.symm),←Array.getD_eq_getD_getElem?];exact ht t y hy
where
 blt_lt' {a b:Nat} (h:Nat.blt a b=true):a<b:=by rw[Nat.blt_eq]at h;exact h
def Wq(s:Nat)(L:Ky)(st:St):St:={st with H:=st.H.set s (.loop {L with state:=.busy})}
def Qnn(s:Nat)(L:Ky)(jump:Option Code)(H:List Qa):List Qa:=match jump with
 |none=>H.set s (.loop {L with state:=.ready,pending:=none})
 |some c=>H.set s (.over .done (some c))
def Qzn(s:Nat)(jump:Option Code)(t:List Nat):List Nat:=match jump with
 |none=>t
 |some _=>s::t
def loopAt:Option Qa→Option (LoopState×Option Code)
 |some (.loop L)=>some (L.state,L.pending)
 |some (.over st pd)=>some (st,pd)
 |_=>none
theorem Qy.Zt4{M:Qc}{ρ:Env}{w:World}{s:Nat}{o:Qa}{st:LoopState}{pd:Option Code}{p:Place}(h:Qy M ρ w s o)(ho:loopAt (some o)=some (st,pd))(hp:ρ s=some p):
  o.live=true∧∃r:Loop,w.heap[p.block]? =some (.loop r)∧r.state=st∧r.pending=pd:=by
 cases o with
 |loop L=>obtain⟨q,fn,tmps,d,h1,h2,_⟩:=h;rw[hp]at h1;cases h1;simp only[loopAt,Option.some.injEq,Prod.mk.injEq]at ho;exact⟨rfl,_,h2,ho.1,ho.2⟩
 |over a b=>obtain⟨q,r,h1,h2,h3,h4⟩:=h;rw[hp]at h1;cases h1;simp only[loopAt,Option.some.injEq,Prod.mk.injEq]at ho;exact⟨rfl,r,h2,h3.trans ho.1,h4.trans ho.2⟩
 |_=>cases ho
def Qfv(L:Ky)(args:List SV)(H:List Qa):St:={T:=Qei L.T L.params.toList args,H:=H,n0:=H.length,tch:=[],fg:=[],marks:=[],er:=[]}
theorem Qy.loopAt{M:Qc}{ρ:Env}{w:World}{s:Nat}{L:Ky}{p:Place}(h:Qy M ρ w s (.loop L))(hp:ρ s=some p):
  ∃r:Loop,w.heap[p.block]? =some (.loop r)∧r.state=L.state∧r.pending=L.pending∧r.params=L.params∧r.assign=L.assign∧r.body=L.body∧r.tmps.size=L.nt∧∀t x,L.T.get t=some x→Qe M ρ (r.tmps.getD t undef) x:=by
 obtain⟨q,fn,tmps,d,h1,h2,h3,h4⟩:=h;rw[hp]at h1;cases h1;exact⟨_,h2,rfl,rfl,rfl,rfl,rfl,h3,h4⟩
theorem Qor{M:Qc}{ρ:Env}{w:World}{s:Nat}{L:Ky}{p:Place}{r:Loop}(hp:ρ s=some p)(hr:w.heap[p.block]? =some (.loop r))(h1:r.state=L.state)(h2:r.pending=L.pending)(h3:r.params=L.params)(h4:r.assign=L.assign)(h5:r.body=L.body)
  (h6:r.tmps.size=L.nt) (h7:∀t x,L.T.get t=some x→Qe M ρ (r.tmps.getD t undef) x):Qy M ρ w s (.loop L):=by
 obtain⟨st,pd,fn,tmps,ps,as,bd,d⟩:=r;simp only at h1 h2 h3 h4 h5 h6 h7;subst h1;subst h2;subst h3;subst h4;subst h5;exact⟨p,fn,tmps,d,hp,hr,h6,h7⟩
theorem Zqu{P:Program}{s:Nat}{args:List SV}{H:List Qa}{L:Ky}{K:Qr}(hH:H[s]? =some (.loop L))(hn:L.params.toList.length=args.length)(hps:(L.params.toList.all fun p=>Nat.blt p L.nt)=true)
  (h:∀ R,Q7 R P L.nt L.assign (fun e s1=>e = .normal ∧ s ∉ s1.fg ∧ H.length ≤ s1.H.length ∧ ∃ L1,s1.H[s]? = some (.loop L1) ∧ L1.state = .ready ∧ L1.pending = none ∧
   Q7 R P L.nt L.body (fun e s2=>∃jump,Qpm e=some jump∧s∉s2.fg∧H.length≤s2.H.length∧∃L2,s2.H[s]? =some (.loop L2)∧K (.lit (.bool jump.isNone)) (Qnn s L2 jump s2.H) (Qzn s jump s2.tch) s2.fg) (Wq s L1 s1)) (Qfv L args H)):
  Ke P s args H K:=by
 intro M ρ w p vs hm hp hr;have hs:s<H.length:=(List.getElem?_eq_some_iff.1 hH).1;obtain⟨r,h1,_,_,h3,h4,h5,h6,h7⟩:=(hm.own s _ hH).loopAt hp;have hsz:vs.toArray.size=r.params.size:=by rw[h3];have:=hr.1;simp;rw[this,←hn];simp
 refine⟨_,_,_,_,_,w,run_yield h1 hsz,?_⟩;obtain⟨t1,t2⟩:=Qve (M:=M) (ρ:=ρ) (nt:=L.nt) L.params.toList vs args L.T r.tmps hps hr h6 h7 (by rw[hn,hr.1]);have hz:(r.params.zip vs.toArray).foldl (fun tmps (t,a)=>tmps.setIfInBounds t a) r.tmps=(L.params.toList.zip vs).foldl (fun tmps (t,a)=>tmps.setIfInBounds t a) r.tmps:=by rw[h3,←Array.foldl_toList];simp[Array.toList_zip]
 rw[hz,h4,h5];refine roundIn_of_wpIn trivial ?_;have hg:Good (fun t=>((L.params.toList.zip vs).foldl (fun tmps (t,a)=>tmps.setIfInBounds t a) r.tmps).getD t undef) L.nt M ρ (Qfv L args H) {tmps:=(L.params.toList.zip vs).foldl (fun tmps (t,a)=>tmps.setIfInBounds t a) r.tmps,defers:=[]} w:=
  ⟨t2,t1,hm,⟨rfl,fun i d s h=>by simp at h⟩,fun m h=>by simp[Qfv]at h,Nat.le_refl _,fun _ _=>rfl⟩
 refine wpIn_mono (h (some p.block) _ M ρ _ w hg) ?_
 rintro e a1 w1 ⟨M1,ρ1,s1,⟨rfl,hfg1,hl1,L1,hH1,hst1,hpd1,hbody⟩,g1,go1⟩
 have hn1:s1.n0=H.length:=go1.n0;have hp1:ρ1 s=some p:=by rw[go1.fr.stay s hs hfg1];exact hp
 obtain⟨r1,k1,k2,k3,k4,k5,k6,k7,k8⟩:=(g1.mem.own s _ hH1).loopAt hp1;have hb1:p.block<w1.heap.size:=(Array.getElem?_eq_some_iff.1 k1).1;refine⟨_,run_beginRound k1 (k2.trans hst1),?_⟩;obtain⟨m2,f2⟩:=g1.mem.Qdk (so:=.loop {L1 with state:=.busy}) (ob:=.loop {r1 with state:=.busy}) hH1 rfl hp1 rfl
  (Qor (r:={r1 with state:=.busy}) hp1 (World.putObj_heap_same hb1) rfl k3 k4 k5 k6 k7 k8)
 have g2:Good _ L.nt M1 ρ1 (Wq s L1 s1) a1 (w1.putObj p.block (.loop {r1 with state:=.busy})):=⟨g1.tm,g1.sz,m2,g1.df,g1.mks,by have:=g1.nle;simpa[Wq]using this,g1.fix⟩;refine wpIn_mono (hbody _ M1 ρ1 a1 _ g2) ?_
 rintro e a3 w3 ⟨M3,ρ3,s3,⟨jump,hj,hfg3,hl3,L3,hH3,hk⟩,g3,go3⟩
 have hs1:s<(Wq s L1 s1).n0:=by show s<s1.n0;rw[hn1];exact hs
 have hp3:ρ3 s=some p:=by rw[go3.fr.stay s hs1 hfg3];exact hp1
 obtain⟨r3,q1,q2,q3,q4,q5,q6,q7,q8⟩:=(g3.mem.own s _ hH3).loopAt hp3;have hb3:p.block<w3.heap.size:=(Array.getElem?_eq_some_iff.1 q1).1;have hn3:(Wq s L1 s1).n0=H.length:=hn1;have fr1:Fr M ρ H w M1 ρ1 s1.H w1 H.length s1.tch s1.fg:=go1.fr;have fr2:Fr M1 ρ1 s1.H w1 M1 ρ1 (Wq s L1 s1).H (w1.putObj p.block (.loop {r1 with state:=.busy})) H.length [s] []:=f2.weaken hl1 (fun _ _ h=>h) (fun _ _ h=>h);have fr3:Fr M1 ρ1 (Wq s L1 s1).H (w1.putObj p.block (.loop {r1 with state:=.busy})) M3 ρ3 s3.H w3 H.length s3.tch s3.fg:=hn3▸go3.fr;have sub1:∀x,x∈s1.tch→x∈s3.tch:=fun x hx=>go3.tch x hx;have fr123:Fr M ρ H w M3 ρ3 s3.H w3 H.length (s::s3.tch) s3.fg:=(fr1.trans fr2 (t:=s::s3.tch) (f:=s3.fg) (fun x hx=>List.mem_cons_of_mem _ (sub1 x hx)) (fun x hx=>by rw[List.mem_singleton.1 hx];exact List.mem_cons_self) (fun x hx=>go3.fg x hx) (fun x hx=>by cases hx)).trans fr3 (fun _ h=>h) (fun _ h=>List.mem_cons_of_mem _ h) (fun _ h=>h) (fun _ h=>h);have done:∃v w',(Instr.endRound p.block jump).run P w3=.ok v w'∧∃v' r' H' M' ρ' tch fg,Ending.returned v=.returned v'∧K r' H' tch fg∧Qe M' ρ' v' r'∧Mem M' ρ' H' w'∧Fr M ρ H w M' ρ' H' w' H.length tch fg:=by
  cases jump with
  |some c=>
   obtain⟨m4,f4⟩:=g3.mem.Qdk (so:=.over .done (some c)) (ob:=.loop {r3 with state:=.done,pending:=some c}) hH3 rfl hp3 rfl
    ⟨p,{r3 with state:=.done,pending:=some c},hp3,World.putObj_heap_same hb3,rfl,rfl⟩
   have fr4:=f4.weaken (n':=H.length) (t':=s::s3.tch) (f':=[]) hl3 (fun x _ h=>by rw[List.mem_singleton.1 h];exact List.mem_cons_self) (fun _ _ h=>h);exact⟨_,_,run_endRound (some c) q1,_,_,_,M3,ρ3,_,_,rfl,hk,.pv (.lit _),m4,fr123.trans fr4 (fun _ h=>h) (fun _ h=>h) (fun _ h=>h) (fun x hx=>by cases hx)⟩
  |none=>
   obtain⟨m4,f4⟩:=g3.mem.Qdk (so:=.loop {L3 with state:=.ready,pending:=none}) (ob:=.loop {r3 with state:=.ready,pending:=none}) hH3 rfl hp3 rfl
    (Qor (r:={r3 with state:=.ready,pending:=none}) hp3 (World.putObj_heap_same hb3) rfl rfl q4 q5 q6 q7 q8)
   have fr4:=f4.weaken (n':=H.length) (t':=s::s3.tch) (f':=[]) hl3 (fun x _ h=>by rw[List.mem_singleton.1 h];exact List.mem_cons_self) (fun _ _ h=>h);have fin:=fr123.trans fr4 (t:=s::s3.tch) (f:=s3.fg) (fun _ h=>h) (fun _ h=>h) (fun _ h=>h) (fun x hx=>by cases hx);refine⟨_,_,run_endRound none q1,_,_,_,M3,ρ3,_,_,rfl,hk,.pv (.lit _),m4,fin.imm,fin.new,fin.own,fin.same,fin.grow,fun x o hx hnx ho hl=>?_,fin.stay,fin.io⟩;by_cases hxs:x=s
   ·subst hxs;have hnx1:x∉s1.tch:=fun h=>hnx (sub1 x h);obtain⟨_,a2⟩:=fr1.keep x _ hx hnx1 hH rfl;have hL2:(Wq x L1 s1).H[x]? =some (.loop {L1 with state:=.busy}):=by have:x<s1.H.length:=(List.getElem?_eq_some_iff.1 hH1).1;simp[Wq,this]
    obtain⟨_,b2⟩:=fr3.keep x _ hx hnx hL2 rfl;have e1:=(a2 p hp).2 _ p.self;rw[h1,k1]at e1;have e1:r1=r:=by simpa using e1
    have e3:=(b2 p hp1).2 _ p.self;rw[World.putObj_heap_same hb1,q1]at e3;have e3:r3={r1 with state:=.busy}:=by simpa using e3
    refine⟨⟨.loop {L3 with state:=.ready,pending:=none},?_,rfl⟩,fun p' hp'=>?_⟩
    ·have:x<s3.H.length:=(List.getElem?_eq_some_iff.1 hH3).1;simp[Qnn,this]
    ·rw[hp]at hp';cases hp';refine⟨hp3,fun b hb=>?_⟩;by_cases hbp:b≠p.block
     ·have c1:=(a2 p hp).2 b hb;have c2:=(b2 p hp1).2 b hb;rw[World.putObj_heap_other hbp,c2,World.putObj_heap_other hbp,c1]
     have hbp:b=p.block:=by simpa using hbp
     rw[hbp];rw[World.putObj_heap_same hb3,h1,e3,←e1];obtain⟨st1,pd1,fn1,tm1,ps1,as1,bd1,d1⟩:=r1;simp only at k2 k3;rw[hst1]at k2;rw[hpd1]at k3;subst k2;subst k3;rfl
   ·exact fin.keep x o hx (fun h=>by rcases List.mem_cons.1 h with h|h;exact hxs h;exact hnx h) ho hl
 cases e with
 |normal=>cases hj;exact done
 |ret=>cases hj;exact done
 |exit id=>cases hj;exact done
 |goto t=>cases hj;exact done
 |panic c=>cases hj
 |outgrown=>cases hj
def Qfd(v:SV)(y:SV):Option (Nat×List SV):=match v with
 |.pv (.lit (.func (.func g) first cap))=>some (g,first.toList.map SV.lit++[y]++cap.toList.map SV.lit)
 |.fn (.func g) first cap=>some (g,first++[y]++cap)
 |_=>none
def Qdn(s:St)(nt:Nat)(ps:Array Tmp)(assign body:Code):List Qa:=s.H++[.dfr false]++[.loop {state:=.ready,pending:=none,T:=s.T,nt:=nt,params:=ps,assign:=assign,body:=body}]
def Wi(s:St)(pd:Option Code)(H:List Qa)(t f:List Nat):St:=
 {T:=Wo f s.T,H:=H.set (s.H.length+1) (.over .exhausted pd),n0:=s.n0,tch:=Ye s.n0 t s.tch,fg:=Ye s.n0 f s.fg,marks:=s.H.length::s.marks,er:=s.er}
theorem Zbw{cx:Cx}(hcx:cx.Ok){nt:Nat}{g:Operand}{ps:Array Tmp}{assign body:Code}{Q:Exit→St→Prop}{s:St}{gf:Nat}{args:List SV}{fn:Func}(hn:s.n0≤s.H.length)
  (ht:Qfd (s.ev g) (.yld (s.H.length+1))=some (gf,args)) (hfn:cx.fns.lookup gf=some fn)
  (h:Z2 cx.P gf args (Qdn s nt ps assign body) fun r H' t f=>s.H.length ∉ f ∧ s.H.length + 1 ∉ f ∧ (∀ m ∈ s.marks,m ∉ f ∧ m < s.H.length) ∧ s.n0 ≤ H'.length ∧ ∃ st pd,loopAt H'[s.H.length + 1]? = some (st,pd) ∧ st ≠ .busy ∧
   match pd with
   |none=>Q .normal (Wi s pd H' t f)
   |some c=>Q7 none cx.P nt c Q (Wi s pd H' t f)):Q7 none cx.P nt (.rangeFunc g ps assign body) Q s:=by
 intro B M ρ a w hg;rw[Qja];refine wpIn_rangeFunc fun fid _=>?_;have callf:∀vs w,(callFunc gf vs).run cx.P w=.ok (.enter gf vs) w:=(hcx.fn hfn).2;obtain⟨m1,fr1⟩:=hg.mem.alloc (w':=w.alloc (.deferred (some []))) (o:=.deferred (some [])) (so:=.dfr false) (cap:=0) rfl ⟨⟨w.heap.size,0,[]⟩,Env.set_self ..,World.alloc_heap_new w _⟩;have hH1:(s.H++[Qa.dfr false]).length=s.H.length+1:=by simp
 have hle1:ρ.le (ρ.set s.H.length (some ⟨w.heap.size,0,[]⟩)):=fun t p hp=>by
  have:t≠s.H.length:=fun e=>by rw[e,hg.mem.fresh _ (Nat.le_refl _)]at hp;cases hp
  rw[Env.Zu _ _ this];exact hp
 obtain⟨m2,fr2⟩:=m1.alloc (w':=(w.alloc (.deferred (some []))).alloc (.loop {state:=.ready,pending:=none,fn:=fid,tmps:=a.tmps,params:=ps,assign,body,defers:=w.heap.size}))
  (o := .loop { state := .ready,pending := none,fn := fid,tmps := a.tmps,params := ps,assign,body,defers := w.heap.size }) (so := .loop { state := .ready,pending := none,T := s.T,nt := nt,params := ps,assign := assign,body := body }) (cap := 0) rfl (by
   refine Qor (r:={state:=.ready,pending:=none,fn:=fid,tmps:=a.tmps,params:=ps,assign,body,defers:=w.heap.size}) (Env.set_self ..) (World.alloc_heap_new _ _) rfl rfl rfl rfl rfl hg.sz fun t x hx=>?_;refine(hg.tm t x hx).mono M.le_refl (Env.le_trans hle1 fun t p hp=>?_);have:t≠(s.H++[Qa.dfr false]).length:=fun e=>by rw[e,m1.fresh _ (Nat.le_refl _)]at hp;cases hp
   rw[Env.Zu _ _ this];exact hp)
 rw[hH1]at m2 fr2;have hw1:(w.alloc (Obj.deferred (some []))).heap.size=w.heap.size+1:=by rw[World.size_alloc]
 rw[hw1]at m2 fr2;generalize hρ2:(ρ.set s.H.length (some ⟨w.heap.size,0,[]⟩)).set (s.H.length+1) (some ⟨w.heap.size+1,0,[]⟩)=ρ2 at m2 fr2;have hle2:ρ.le ρ2:=fun t p hp=>by
  have:t≠s.H.length+1:=fun e=>by rw[e,hg.mem.fresh _ (by omega)]at hp;cases hp
  rw[←hρ2,Env.Zu _ _ this];exact hle1 t p hp
 have p1:ρ2 s.H.length=some ⟨w.heap.size,0,[]⟩:=by rw[←hρ2,Env.Zu _ _ (by omega),Env.set_self]
 have p2:ρ2 (s.H.length+1)=some ⟨w.heap.size+1,0,[]⟩:=by rw[←hρ2,Env.set_self]
 have hgv:=(hg.ev g).mono M.le_refl hle2;have hargs:∃first cap:Array Value,a.eval g=.func (.func gf) first cap∧Yu M ρ2 (first.toList++[.func (.yield (w.heap.size+1)) #[] #[]]++cap.toList) args:=by
  have hy:Yu M ρ2 [Value.func (.yield (w.heap.size+1)) #[] #[]] [.yld (s.H.length+1)]:=⟨rfl,fun i v x hv hx=>by
   match i with
   |0=>simp at hv hx;subst hv;subst hx;exact .yld _ _ p2
   |i+1=>simp at hv⟩
  generalize hsv:s.ev g=sv at ht hgv;unfold Qfd at ht;split at ht
  ·cases ht;rename_i first cap
   exact⟨first,cap,hgv.Q1,Qa6 (Qa6 ⟨by simp,Qen first⟩ hy) ⟨by simp,Qen cap⟩⟩
  ·cases ht;generalize a.eval g=vg at hgv;cases hgv with
   |fn _ fa fb _ _ ha hb hh hk=>exact⟨fa,fb,rfl,Qa6 (Qa6 ⟨by simpa using ha,fun i v x hv hx=>hh i v x (by rw[←Array.getElem?_toList];exact hv) hx⟩ hy) ⟨by simpa using hb,fun i v x hv hx=>hk i v x (by rw[←Array.getElem?_toList];exact hv) hx⟩⟩
  ·cases ht
 obtain⟨first,cap,hfv,hreps⟩:=hargs
 obtain⟨W2,hW2⟩:∃W,W=(w.alloc (.deferred (some []))).alloc (.loop {state:=.ready,pending:=none,fn:=fid,tmps:=a.tmps,params:=ps,assign,body,defers:=w.heap.size}):=⟨_,rfl⟩;rw[←hW2]at m2 fr2;refine⟨w.heap.size+1,[{target:=.collected w.heap.size,args:= #[]}],W2,{target:=.fn (.func gf) cap,args:=first++ #[.func (.yield (w.heap.size+1)) #[] #[]]},W2,gf,first++ #[.func (.yield (w.heap.size+1)) #[] #[]]++cap,W2,?_,?_,fun _ _=>trivial,?_,fun hx=>(by simp[Fence.wide]at hx),?_⟩
 ·show(Instr.enterLoop fid a.tmps ps assign body none).run cx.P w=_;rw[run_enterLoop_outer,←hW2]
 ·show(Deferred.ofValue (a.eval g) (#[Operand.const (.func (.yield (w.heap.size+1)) #[] #[])].map a.eval)).run cx.P W2=_;rw[hfv];simp[Deferred.ofValue,Act.eval]
 ·simp only[invoke];exact callf _ _
 ·have hc:=h M ρ2 _ _ m2 hreps;have e:(first.toList++[Value.func (.yield (w.heap.size+1)) #[] #[]]++cap.toList).toArray=first++ #[.func (.yield (w.heap.size+1)) #[] #[]]++cap:=by simp
  rw[e]at hc;have hc':CallsIn Fence.wide (0-1) cx.P gf (first++ #[.func (.yield (w.heap.size+1)) #[] #[]]++cap) _ _:=hc
  refine hc'.mono ?_
  rintro e w3 ⟨v,r,H',M',ρ',t,f,rfl,⟨hf1,hf2,hmk,hn3,st,pd,hL,hst,hpend⟩,hs,hm',hfr⟩
  have hlen:(Qdn s nt ps assign body).length=s.H.length+2:=by simp[Qdn]
  have e1:ρ' s.H.length=some ⟨w.heap.size,0,[]⟩:=by rw[hfr.stay _ (by rw[hlen];omega) hf1];exact p1
  have e2:ρ' (s.H.length+1)=some ⟨w.heap.size+1,0,[]⟩:=by rw[hfr.stay _ (by rw[hlen];omega) hf2];exact p2
  obtain⟨oL,hoL⟩:∃o,H'[s.H.length+1]? =some o:=by
   cases hh:H'[s.H.length+1]? with
   |none=>rw[hh]at hL;cases hL
   |some o=>exact⟨o,rfl⟩
  rw[hoL]at hL;obtain⟨hlv,r3,q1,q2,q3⟩:=(hm'.own _ _ hoL).Zt4 hL e2;have hb3:w.heap.size+1<w3.heap.size:=(Array.getElem?_eq_some_iff.1 q1).1;obtain⟨m4,f4⟩:=hm'.Qdk (so:=.over .exhausted pd) (ob:=.loop {r3 with state:=.exhausted}) hoL hlv e2 rfl ⟨_,{r3 with state:=.exhausted},e2,World.putObj_heap_same hb3,rfl,q3⟩;have h3:s.n0≤H'.length:=hn3;have hstay:∀x,x∉f→∀q,ρ x=some q→ρ' x=some q:=fun x hx q hq=>by
   have hx':x<s.H.length:=by
    rcases Nat.lt_or_ge x s.H.length with h'|h'
    ·exact h'
    ·rw[hg.mem.fresh x h']at hq;cases hq
   rw[hfr.stay x (by rw[hlen];omega) hx];exact hle2 x q hq
  have hgood:Good B nt M' ρ' (Wi s pd H' t f) {a with defers:=[{target:=.collected w.heap.size,args:= #[]}]++a.defers} (w3.putObj (w.heap.size+1) (.loop {r3 with state:=.exhausted})):=by
   refine⟨fun x y hy=>?_,hg.sz,m4,⟨by simp[Wi,hg.df.1],fun i d m hd hk=>?_⟩,fun m hm=>?_,by simpa[Wi]using h3,hg.fix⟩
   ·obtain⟨z,hz,hyz⟩:=Qgv hy;exact(hg.tm x z hz).after hfr.imm hstay hyz
   ·match i with
    |0=>simp[Wi]at hd hk;subst hd;subst hk;exact⟨_,e1,rfl⟩
    |i+1=>simp[Wi]at hd hk;obtain⟨q,hq,e⟩:=hg.df.2 i d m hd hk;exact⟨q,hstay m (hmk m (List.mem_of_getElem? hk)).1 q hq,e⟩
   ·rcases List.mem_cons.1 hm with rfl|hm
    ·exact hn
    ·exact hg.mks m hm
  have hgo:Zm M ρ s w M' ρ' (Wi s pd H' t f) (w3.putObj (w.heap.size+1) (.loop {r3 with state:=.exhausted})):=by refine⟨?_,rfl,fun x hx=>Qa1 hx,fun x hx=>Qa1 hx⟩;have a1:Fr M ρ s.H w M _ _ _ s.n0 (Ye s.n0 t s.tch) (Ye s.n0 f s.fg):=fr1.weaken hn (fun x _ h=>by cases h) (fun x _ h=>by cases h);have a2:=fr2.weaken (n':=s.n0) (t':=Ye s.n0 t s.tch) (f':=Ye s.n0 f s.fg) (by omega) (fun x _ h=>by cases h) (fun x _ h=>by cases h);have a3:=hfr.weaken (n':=s.n0) (t':=Ye s.n0 t s.tch) (f':=Ye s.n0 f s.fg) (by rw[hlen];omega) (fun x hx h=>Qae hx h) (fun x hx h=>Qae hx h);have a4:=f4.weaken (n':=s.n0) (t':=Ye s.n0 t s.tch) (f':=Ye s.n0 f s.fg) h3 (fun x hx h=>by rw[List.mem_singleton.1 h]at hx;omega) (fun x _ h=>by cases h);exact((a1.trans a2 (fun _ h=>h) (fun _ h=>h) (fun _ h=>h) (fun _ h=>h)).trans a3 (fun _ h=>h) (fun _ h=>h) (fun _ h=>h) (fun _ h=>h)).trans a4 (fun _ h=>h) (fun _ h=>h) (fun _ h=>h) (fun _ h=>h)
  refine⟨pd,_,by rw[←q3];exact run_endLoop q1 (by rw[q2];exact hst),?_⟩;cases pd with
  |none=>exact⟨M',ρ',_,hpend,hgood,hgo⟩
  |some c=>exact wpIn_mono (hpend B M' ρ' _ _ hgood) fun e a'' w'' ⟨M'',ρ'',s'',q,g',k'⟩=>⟨M'',ρ'',s'',q,g',hgo.trans k'⟩
def Ztl(Q:Exit→St→Prop):Exit→St→Prop
 |.goto _,_=>False
 |e,s=>Q e s
theorem Zj7{P:Program}{nt:Nat}{c:Code}{Q:Exit→St→Prop}{s:St}(h:Q7 none P nt c (Ztl Q) s):Q7 none P nt (.scope c) Q s:=by
 intro B M ρ a w hg;have h0:=h B M ρ a w hg;rw[Qja]at h0⊢;refine wpIn_wide.2 (wp_scope_straight (wp_mono (wpIn_wide.1 h0) ?_))
 rintro e a' w' ⟨M',ρ',s',q,r⟩
 cases e with
 |goto l=>exact q.elim
 |normal=>exact⟨M',ρ',s',q,r⟩
 |exit id=>exact⟨M',ρ',s',q,r⟩
 |ret=>exact⟨M',ρ',s',q,r⟩
 |panic c=>exact⟨M',ρ',s',q,r⟩
 |outgrown=>exact⟨M',ρ',s',q,r⟩
end Go.Sx
section
namespace Go.Sx
open Go
mutual
def frz(H:List Qa)(n:Nat):Nat→SV→Option PV
 |0,_=>none
 |_+1,.pv p=>some p
 |k+1,.sl s sz st len=>match Nat.ble n s,H[s]? with
  |true,some (.vec _ sz' rows)=>if sz=sz'∧st+len≤rows.length then some (.rsl sz ((rows.drop st).take len))else none
  |true,some (.mix _ sz' rows)=>if sz=sz'∧st+len≤rows.length then(U8 H n k ((rows.drop st).take len)).map (.rsl sz)else none
  |_,_=>none
 |_+1,_=>none
def Ku(H:List Qa)(n:Nat):Nat→List SV→Option (List PV)
 |0,_=>none
 |_+1,[]=>some []
 |k+1,x::l=>match frz H n k x,Ku H n k l with
  |some p,some ps=>some (p::ps)
  |_,_=>none
def U8(H:List Qa)(n:Nat):Nat→List (List SV)→Option (List (List PV))
 |0,_=>none
 |_+1,[]=>some []
 |k+1,r::l=>match Ku H n k r,U8 H n k l with
  |some p,some ps=>some (p::ps)
  |_,_=>none
end
theorem Qrp{H:List Qa}{n:Nat}:∀(k:Nat) (l:List SV) (ps:List PV),Ku H n k l=some ps→ps.length=l.length∧∀(i:Nat) (p:PV),ps[i]? =some p→∃x m,l[i]? =some x∧m<k∧frz H n m x=some p
 |0,_,_,h=>by simp[Ku]at h
 |k+1,[],ps,h=>by simp[Ku]at h;subst h;simp
 |k+1,x::l,ps,h=>by
  simp only[Ku]at h;split at h
  ·rename_i p q h1 h2;cases h;obtain⟨g1,g2⟩:=Qrp k l q h2;refine⟨by simp[g1],fun i p' hi=>?_⟩;cases i with
   |zero=>simp at hi;subst hi;exact⟨x,k,rfl,Nat.lt_succ_self k,h1⟩
   |succ i=>simp at hi;obtain⟨y,m,a,b,c⟩:=g2 i p' hi;exact⟨y,m,by simpa using a,by omega,c⟩
  ·cases h
theorem Quv{H:List Qa}{n:Nat}:∀(k:Nat) (l:List (List SV)) (ps:List (List PV)),U8 H n k l=some ps→ps.length=l.length∧
  ∀(i:Nat) (r:List PV),ps[i]? =some r→∃x m,l[i]? =some x∧m<k∧Ku H n m x=some r
 |0,_,_,h=>by simp[U8]at h
 |k+1,[],ps,h=>by simp[U8]at h;subst h;simp
 |k+1,x::l,ps,h=>by
  simp only[U8]at h;split at h
  ·rename_i p q h1 h2;cases h;obtain⟨g1,g2⟩:=Quv k l q h2;refine⟨by simp[g1],fun i p' hi=>?_⟩;cases i with
   |zero=>simp at hi;subst hi;exact⟨x,k,rfl,Nat.lt_succ_self k,h1⟩
   |succ i=>simp at hi;obtain⟨y,m,a,b,c⟩:=g2 i p' hi;exact⟨y,m,by simpa using a,by omega,c⟩
  ·cases h
theorem Zlj{M:Qc}{ρ:Env}{H:List Qa}{w:World}{n:Nat}(hm:Mem M ρ H w):∀(k:Nat) (x:SV) (p:PV) (v:Value),frz H n k x=some p→Qe M ρ v x→Q6 (M.Q9 ρ H n w) v p:=by
 intro k;induction k using Nat.strongRecOn with
 |_ k ih=>
 intro x p v h hr;have hle:=Qc.Y5 M ρ H n w;match k,x,h with
 |0,_,h=>simp[frz]at h
 |k+1,.pv q,h=>
  simp only[frz]at h;cases h;cases hr with
  |pv hp=>exact hp.mono hle
 |k+1,.sl s sz st len,h=>
  simp only[frz]at h;have main:∀(o:Qa) (sz':Nat) (rows:List (List SV)) (ps:List (List PV)),n≤s→H[s]? =some o→o.Xt=true→o.Qx =some sz'→o.len=rows.length→(∀i,i<rows.length→o.row i=rows.getD i [])→sz=sz'→st+len≤rows.length→
    ps.length=len→(∀(i:Nat) (r:List PV),ps[i]? =some r→∃row,rows[st+i]? =some row∧r.length=row.length∧∀(j:Nat) (q:PV),r[j]? =some q→∃y,row[j]? =some y∧∀u,Qe M ρ u y→Q6 (M.Q9 ρ H n w) u q)→
    Q6 (M.Q9 ρ H n w) v (.rsl sz ps):=by
   intro o sz' rows ps hns hs hro hz hlen hrow e hfit hpl hps;subst e;cases hr with
   |slz=>
    have:ps=[]:=List.eq_nil_of_length_eq_zero hpl;subst this;rename_i a;cases a with
    |none=>exact .rnil sz
    |some a=>exact .remp a 0 sz
   |sl _ _ _ _ c k' p hp hk hc hn' h6=>
    obtain⟨cs,ty,a1,a2,a3,a4,a5⟩:=((hm.own s o hs).rowOf hz hp).ex;have hM:M.Q9 ρ H n w p.block=some (.cells cs ty (0,0)):=by rw[Qc.Qzw hm hns hs hro hp];exact a1
    refine .rsl p.block k' c sz len ps hpl.symm hn' (fun i j hi hj=>?_) (fun i r j q u hi hj hcell=>?_) (fun i r hi=>?_)
    ·obtain⟨u,hu,hone⟩:=a4 (st+i) j (by omega) hj;refine⟨u,?_,hone⟩;rw[Qc.Qge hM,hk,←Nat.add_mul];exact hu
    ·obtain⟨row,g1,g2,g3⟩:=hps i r hi;obtain⟨y,y1,y2⟩:=g3 j q hj;have hlt:st+i<rows.length:=(List.getElem?_eq_some_iff.1 g1).1;obtain⟨b1,b2⟩:=a5 (st+i) j y (by omega) (by rw[hrow _ hlt,List.getD,g1];exact y1);rw[Qc.Qge hM,hk,←Nat.add_mul]at hcell;exact y2 u (b2 u hcell)
    ·obtain⟨row,g1,g2,g3⟩:=hps i r hi;have hlt:st+i<rows.length:=(List.getElem?_eq_some_iff.1 g1).1;rcases Nat.eq_zero_or_pos r.length with e|e
     ·omega
     ·have hx:row[r.length-1]? =some (row[r.length-1]'(by omega)):=List.getElem?_eq_getElem _;obtain⟨b1,_⟩:=a5 (st+i) (r.length-1) _ (by omega) (by rw[hrow _ hlt,List.getD,g1];exact hx);omega
  split at h
  ·rename_i e1 e2;split at h
   ·rename_i ty sz' rows hc;cases h;refine main _ sz' (rows.map (·.map .pv)) _ (by simpa using e1) e2 rfl rfl (by simp[Qa.len]) (fun i hi=>?_) hc.1 (by simpa using hc.2) (by simp;omega) (fun i r hi=>?_)
    ·simp at hi;simp[Qa.row,List.getD,hi]
    ·rw[List.getElem?_take]at hi;split at hi
     ·rw[List.getElem?_drop]at hi;refine⟨r.map .pv,by simp[hi],by simp,fun j q hj=>⟨.pv q,by simp[hj],fun u hu=>?_⟩⟩;cases hu with
      |pv hp=>exact hp.mono hle
     ·cases hi
   ·cases h
  ·rename_i e1 e2;split at h
   ·rename_i ty sz' rows hc;simp only[Option.map_eq_some_iff]at h;obtain⟨ps,hps,rfl⟩:=h;obtain⟨g1,g2⟩:=Quv _ _ _ hps;refine main _ sz' rows _ (by simpa using e1) e2 rfl rfl rfl (fun i hi=>rfl) hc.1 hc.2 (by rw[g1];simp;omega) (fun i r hi=>?_);obtain⟨row,m,q1,q2,q3⟩:=g2 i r hi;rw[List.getElem?_take]at q1;split at q1
    ·rw[List.getElem?_drop]at q1;obtain⟨z1,z2⟩:=Qrp _ _ _ q3;refine⟨row,q1,z1,fun j q hj=>?_⟩;obtain⟨y,m',y1,y2,y3⟩:=z2 j q hj;exact⟨y,y1,fun u hu=>ih m' (by omega) y q u y3 hu⟩
    ·cases q1
   ·cases h
  ·cases h
 |k+1,.any,h=>simp[frz]at h
 |k+1,.agg _,h=>simp[frz]at h
 |k+1,.tup _,h=>simp[frz]at h
 |k+1,.ptr _ _ _ _,h=>simp[frz]at h
 |k+1,.mp _,h=>simp[frz]at h
 |k+1,.yld _,h=>simp[frz]at h
 |k+1,.slb _ _ _ _ _,h=>simp[frz]at h
 |k+1,.fn _ _ _,h=>simp[frz]at h
end Go.Sx
end
namespace Go.Sx
open Go
abbrev KB:=SV→List Qa→List Nat→List Nat→Bool
def Qn.run(H:List Qa)(k:KB):Qn→Bool
 |.fail=>false
 |.ok x=>k x H [] []
 |.eff x H' t g=>k x H' t g
 |.need c r=>match c with
  |true=>r.run H k
  |false=>false
 |.split c a b=>match c with
  |true=>a.run H k
  |false=>b.run H k
 |.both a b=>a.run H k&&b.run H k
abbrev Qxw:=Bool→Nat→List SV→List Qa→KB→Bool
structure Qxw.Ok (cx:Cx) (cb:Qxw):Prop where
 ok:∀g args H k,cb false g args H k=true→(∃fn,cx.fns.lookup g=some fn)∧Z2 cx.P g args H fun x H' t f=>k x H' t f=true
 rd:∀s args H k,cb true s args H k=true→Ke cx.P s args H fun x H' t f=>k x H' t f=true
inductive Kj where
 |done
 |bad
 |stop
 |take (i:Nat) (o:Oper) (p:Kj)
 |alt (o:Oper) (p rest:Kj)
def K3(ops:Array Oper)(next:Nat→Kj):List Nat→Kj
 |[]=>.stop
 |i::rs=>match ops[i]? with
  |none=>.bad
  |some o=>.alt o (next i) (K3 ops next rs)
def Jc(hl:Bool)(ops:Array Oper):Nat→Array Bool→Kj
 |0,listed=>match Region.ready .any ops listed with
  |[]=>.done
  |_=>.bad
 |n+1,listed=>match Qj3 hl ops listed with
  |some i=>match ops[i]? with
   |none=>.bad
   |some o=>.take i o (Jc hl ops n (listed.setIfInBounds i true))
  |none=>match Region.ready .any ops listed with
   |[]=>.done
   |r::rs=>K3 ops (fun i=>Jc hl ops n (listed.setIfInBounds i true)) (r::rs)
theorem Zc8(o:Oper)(pend:List (Nat×List Nat)):keeps o pend [] []=true:=by unfold keeps;rw[List.all_eq_true];intro q _;simp
end Go.Sx

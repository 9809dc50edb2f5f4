/- Part L of the own logic: operations that may be taken first. Written by gen/mk.py out of the parts E, G, J. Part M of the own logic: a region whose order is asked of the tape. And further parts. -/
import Derived.Test.YtpkbmngnolhopaaGreatDoorXSxAb
import Derived.RangeFuncRecord
import Derived.ScopeJumps
set_option linter.unusedVariables false
set_option linter.unusedSimpArgs false
set_option linter.unnecessarySimpa false
open List renaming getElem?_eq_some_iff->C,mem_filter->ZB,mem_cons_of_mem->ZC,eq_nil_of_length_eq_zero->ZD,mem_cons_self->ZH,getElem?_take->ZM,getElem?_drop->ZN,mem_singleton->ZO,mem_map->ZY,all_eq_true->ZZ,mem_cons->QB,getD->QG,getElem?_eq_getElem->QJ,getElem?_cons_zero->QK,range->QM,mem_of_getElem?->QT,getElem?_map->QV
open Go.Sem renaming run_bind->I,run_pure->ZL
open Go.Region renaming ready->J,binds->QN,noSelect->QP,Mode->QS,free->XC
open Go.Result renaming andThen_ok->U
open Go.World renaming putObj_heap_same->ZA,putObj_heap_other->ZV,alloc_heap_new->QU,cell?->QX
open Go.Instr renaming loadAt->ZE,sureAddr->ZG,sliceAt->QA,lookup->QF,fieldAt->QI,field->QY,build->QZ,indexAt->XA,findKey->XB
open Bool renaming and_eq_true->ZF,not_eq_true'->ZX
open Array renaming getElem?_eq_some_iff->ZI,getElem?_toList->ZJ,getD_eq_getD_getElem?->ZP,toArray_toList->QC,replicate->QQ
open Nat renaming le_refl->ZK,add_mul->ZR,sub_self->QE,lt_succ_self->QL,eq_of_beq_eq_true->QR,lt_or_ge->QW
open Option.some renaming injEq->ZQ
open Go.Builtin renaming len_->ZS
open Go.Act renaming put_comm->ZT
open Go.Region.linearise renaming go->ZU
open Option renaming map_eq_some_iff->ZW,map_some->QO
open Go.Addr renaming add_mid->QD
open Go.Fence renaming wide->QH
namespace Go.Sx
open Go
def Zt(P:Program)(S:Sem Value)(M:Qd)(Z:Env)(Sw:World->Prop)(H:List Qb)(K:Qy):Prop:=
 ∃v x,K x H [] []∧Qf M Z v x∧∀w,Sw w->S.run P w=.ok v w
def Xp(P:Program)(S:Sem Next)(M:Qd)(Z:Env)(Sw:World->Prop)(H:List Qb)(K:Qy):Prop:=
 ∃v x,K x H [] []∧Qf M Z v x∧∀w,Sw w->S.run P w=.ok (.value v) w
theorem Zt.same{P:Program}{S:Sem Value}{M:Qd}{Z:Env}{H:List Qb}{Sw:World->Prop}{K:Qy}{v:Value}{x:SV}(hr:∀w,Sw w->S.run P w=.ok v w)(hx:Qf M Z v x)(hk:K x H [] []):Zt P S M Z Sw H K:=⟨v,x,hk,hx,hr⟩
theorem Xp.same{P:Program}{S:Sem Next}{M:Qd}{Z:Env}{H:List Qb}{Sw:World->Prop}{K:Qy}{v:Value}{x:SV}(hr:∀w,Sw w->S.run P w=.ok (.value v) w)(hx:Qf M Z v x)(hk:K x H [] []):Xp P S M Z Sw H K:=⟨v,x,hk,hx,hr⟩
theorem Zt.toN{P:Program}{S:Sem Value}{M:Qd}{Z:Env}{H:List Qb}{Sw:World->Prop}{K:Qy}(h:Zt P S M Z Sw H K):Xp P (do pure (.value (<-S))) M Z Sw H K:=by obtain⟨v,x,h1,h2,h3⟩:=h;exact⟨v,x,h1,h2,fun w hw=>by simp[I,h3 w hw]⟩
theorem Zbo{P:Program}{M:Qd}{Z:Env}{H:List Qb}{w0:World}{Sw:World->Prop}{K:Qy}{t:TypeId}{i:TI}(ht:X3 P t i)(hm:Mem M Z H w0){b o n r j sz:Nat}{row:List SV}
  (hrow:r<n->∀k x,row[k]? =some x->∃v,(∀w,Sw w->w.cell? ⟨b,o+r*sz+k,none⟩=some v)∧Qf M Z v x)
  (h:(U7 i n row r j).holds H K):Zt P (ZE t (.pointer (some ⟨b,o+r*sz+j,none⟩))) M Z Sw H K:=by
 simp only[U7,Qp.holds,decide_eq_true_eq]at h;obtain⟨hr,h⟩:=h;have hrow:=hrow hr;split at h
 ·rename_i hd;simp only[Qp.holds,decide_eq_true_eq]at h;obtain⟨hj,hk⟩:=h;have hex:∀k,k<i.size->∃v,(∀w,Sw w->w.cell? ⟨b,o+r*sz+(j+k),none⟩=some v)∧Qf M Z v (row.getD (j+k) .any):=fun k hk=>by
   have hlt:j+k<row.length:=by omega
   obtain⟨v,h1,h2⟩:=hrow (j+k) row[j+k] (by simp[hlt]);exact⟨v,h1,by simpa[QG,hlt]using h2⟩
  let f:Nat->Value:=fun k=>if h:k<i.size then Classical.choose (hex k h)else undef;have hf:∀k,k<i.size->(∀w,Sw w->w.cell? ⟨b,o+r*sz+(j+k),none⟩=some (f k))∧Qf M Z (f k) (row.getD (j+k) .any):=fun k hk=>by simp only[f,dif_pos hk];exact Classical.choose_spec (hex k hk)
  have hcs:∀(k:Nat) (v:Value),((QM i.size).map f)[k]? =some v->k<i.size∧v=f k:=fun k v hv=>by simp only[QV,ZW]at hv;obtain⟨m,hm',rfl⟩:=hv;obtain⟨h1,h2⟩:=C.1 hm';simp at h1 h2;subst h2;exact⟨h1,rfl⟩
  refine Zt.same (v:=.agg ((QM i.size).map f).toArray) ?_ ?_ hk
  ·intro w hw;simp only[ZE,ZG,I,ZL,U];exact Zbn ht hd _ (by simp) fun k v hv=>by obtain⟨h1,rfl⟩:=hcs k v hv;rw[Nat.add_assoc (o+r*sz)];exact(hf k h1).1 w hw
  ·refine Qf.X2 (by simp;omega) fun k v x hv hx=>?_;obtain⟨h1,rfl⟩:=hcs k v hv;have h2:=(hf k h1).2;rw[ZM]at hx;simp only[h1,if_true,ZN]at hx;simpa[QG,hx]using h2
 ·rename_i hd;simp only[Qp.holds,decide_eq_true_eq]at h;obtain⟨hj,hk⟩:=h;obtain⟨v,h1,h2⟩:=hrow j row[j] (by simp[hj]);refine Zt.same (v:=v) ?_ ?_ hk
  ·intro w hw;simp only[ZE,ZG,I,ZL,U];exact Qtb ht (by simpa using hd) (h1 w hw)
  ·simpa[QG,hj]using h2
theorem Zwu{M:Qd}{w:World}(hm:∀b o,M b=some o->w.heap[b]? =some o){b k:Nat}{v:Value}(h:M.cell b k=some v):w.cell? ⟨b,k,none⟩=some v:=by
 unfold Qd.cell at h;cases e:M b with
 |none=>simp[e]at h
 |some o=>rw[e]at h;have:=hm b o e;unfold QX;simp only[this];cases o<;>simp_all
theorem Zev{P:Program}{M:Qd}{Z:Env}{H:List Qb}{w0:World}{Sw:World->Prop}{K:Qy}{t:TypeId}{i:TI}(ht:X3 P t i)(hm:Mem M Z H w0)(hS:∀u,Sw u->∀b o,M b=some o->u.heap[b]? =some o){sz r j:Nat}{rows:List (List PV)}{v:Value}(hp:Zu M v (.rptr sz rows r j))
  (h:(U7 i rows.length ((rows.getD r []).map .pv) r j).holds H K):Zt P (ZE t v) M Z Sw H K:=by
 cases hp with
 |rptr b off _ _ _ k _ hk h0 h1 h2=>rw[hk];refine Zbo (w0:=w0) ht hm (fun hr k x hx=>?_) h;simp only[QV,ZW]at hx;obtain⟨q,hq,rfl⟩:=hx;simp[QG,hr]at hq;have hk2:k<sz:=Nat.lt_of_lt_of_le (C.1 hq).1 (h2 r rows[r] (by simp[hr]));obtain⟨u,hu,_⟩:=h0 r k hr hk2;exact⟨u,fun w hw=>Zwu (hS w hw) hu,.pv (h1 r rows[r] k q u (by simp[hr]) hq hu)⟩
theorem Ycs{P:Program}{M:Qd}{Z:Env}{H:List Qb}{w0:World}{Sw:World->Prop}{K:Qy}{t:TypeId}{i:TI}(ht:X3 P t i)(hm:Mem M Z H w0){s sz r j:Nat}(hR:∀u,Sw u->∀p,Z s=some p->u.heap[p.block]? =w0.heap[p.block]?){o:Qb}(ho:H[s]? =some o){v:Value}(ha:Qf M Z v (.ptr s sz r j))
  (h:(Qj7 i o sz r j).holds H K):Zt P (ZE t v) M Z Sw H K:=by
 unfold Qj7 at h;split at h
 ·rename_i ty ity row ll q;split at h
  ·exact h.elim
  ·rename_i hd;obtain⟨hc,hc2,h⟩:=h;have e1:=QR hc;have e2:=of_decide_eq_true hc2;cases ha with
   |ptr _ _ _ _ k p hp hk=>
    obtain⟨p',hp',hn⟩:∃p',Z s=some p'∧Qet M Z w0 p' ty ity row ll (some q):=by
     rcases hm.own s _ ho with⟨_,_,h3⟩|h3
     ·cases h3
     ·exact h3
    rw[hp]at hp';cases hp';obtain⟨cs,bl,a1,a2,a3,a4,a5,a6,a7,a8⟩:=hn.ex;obtain⟨q1,q2⟩:=q;have hk':k=q1:=by have:=norm_eq sz r j 1;rw[e1,e2]at this;simp only[Nat.mul_one,Nat.add_zero]at this;omega
    obtain⟨b1,b2⟩:=a6 q1 q2 rfl;obtain⟨u,hu,_⟩:=a4 q1 b1;refine Zt.same (v:=u) (fun w hw=>?_) (b2 u hu) h;simp only[ZE,ZG,I,ZL,U];exact Qtb ht hd (by rw[hk'];simp[QX,hR w hw p hp,a1,hu])
 ·exact h.elim
theorem Zif{P:Program}{tab:Qr}(htab:Q9 P tab){M:Qd}{Z:Env}{H:List Qb}{w0:World}{Sw:World->Prop}{K:Qy}(hm:Mem M Z H w0)(hS:∀u,Sw u->∀b o,M b=some o->u.heap[b]? =some o){R:List Nat}(hR:∀u,Sw u->∀s∈R,∀p,Z s=some p->u.heap[p.block]? =w0.heap[p.block]?)
  {t:TypeId} {a:SV} {v:Value} (ha:Qf M Z v a) (hin:∀s sz r j,a=.ptr s sz r j->s∈R)
  (h:(Qdz tab H t a).holds H K):Zt P (ZE t v) M Z Sw H K:=by
 unfold Qdz at h;split at h
 ·exact h.elim
 ·rename_i i hi;have ht:=htab.get hi;split at h
  ·rename_i s sz r j;split at h
   ·exact h.elim
   ·rename_i o ho;split at h
    ·exact Ycs ht hm (fun u hu p hp=>hR u hu s (hin _ _ _ _ rfl) p hp) ho ha h
    ·rename_i szo hz;cases ha with
     |ptr _ _ _ _ k p hp hk=>
      obtain⟨cs,ty,a1,a2,a3,a4,a5⟩:=((hm.own s o ho).rowOf hz hp).ex;have hk':k=0+(norm sz r j szo).1*szo+(norm sz r j szo).2:=by rw[Nat.zero_add,norm_eq];exact hk
      rw[hk'];obtain⟨hfit,h⟩:=h;rw[Qzu hfit]at h;refine Zbo (w0:=w0) ht hm (fun hr k x hx=>?_) h;obtain⟨b1,b2⟩:=a5 _ k x hr hx;obtain⟨u,hu,_⟩:=a4 _ k hr b1;exact⟨u,fun w hw=>by simp[QX,hR w hw s (hin _ _ _ _ rfl) p hp,a1,hu],b2 u hu⟩
  ·rename_i sz rows r j;cases ha with
   |pv hp=>exact Zev (w0:=w0) ht hm hS hp h
  ·rename_i row l r j;cases ha with
   |pv hp=>cases hp with
    |tptr _ _ _ _ hp=>exact Zev (w0:=w0) ht hm hS hp (Zhy h)
  ·exact h.elim
theorem Zm3{P:Program}{tab:Qr}(htab:Q9 P tab){M:Qd}{Z:Env}{H:List Qb}{w0:World}{Sw:World->Prop}{K:Qy}(hm:Mem M Z H w0){t f:Nat}{x:SV}{v:Value}(hx:Qf M Z v x)
  (h:(Qdx tab t x f).holds H K):Zt P (QI t v f) M Z Sw H K:=by
 unfold Qdx at h;split at h
 ·rename_i fields sz' by' zr rw' hte;have htt:=htab.get hte;split at h
  ·exact h.elim
  ·rename_i fd hfd;split at h
   ·exact h.elim
   ·rename_i i hi;obtain⟨n,hn,i1,_⟩:=(htab.get hi).inf;split at h
    ·exact h.elim
    ·rename_i hz;have key:∀(w:World) b k,(QI t (.pointer (some ⟨b,k,none⟩)) f).run P w=.ok (.pointer (some ⟨b,k+fd.offset,none⟩)) w:=fun w b k=>by simp[QI,run_underlying htt.und,hfd,ZG,fieldPlace,sizeOf,typeInfo,hn,i1,hz,QD]
     split at h
     ·rename_i s sz r j;cases hx with
      |ptr _ _ _ _ k p hp hk=>exact Zt.same (fun w _=>key w _ _) (.ptr _ _ _ _ _ p hp (by omega)) h
     ·rename_i sz rows r j;cases hx with
      |pv hp=>cases hp with
       |rptr b off _ _ _ k _ hk h0 h1 h2=>exact Zt.same (fun w _=>key w _ _) (.pv (.rptr b off sz r (j+fd.offset) _ rows (by omega) h0 h1 h2)) h
     ·exact h.elim
 ·exact h.elim
theorem Yph{P:Program}{tab:Qr}(htab:Q9 P tab){M:Qd}{Z:Env}{H:List Qb}{w0:World}{Sw:World->Prop}{K:Qy}(hm:Mem M Z H w0){t:Nat}{x ix:SV}{v u:Value}(hx:Qf M Z v x)(hix:Qf M Z u ix)
  (h:(Qd8 tab t x ix).holds H K):Zt P (XA t v u) M Z Sw H K:=by
 unfold Qd8 at h;split at h
 ·rename_i k n;have:=hix.Zq;subst this;split at h
  ·rename_i e sz' by' zr rw' hte;have htt:=htab.get hte;split at h
   ·exact h.elim
   ·rename_i i hi;have ht:=htab.get hi;split at h
    ·rename_i s sz st len;split at h
     ·rename_i hsz;subst hsz;simp only[Qp.holds,decide_eq_true_eq]at h;obtain⟨h0,h1,h⟩:=h;cases hx with
      |sl _ _ _ _ c k' p hp hk hc hn h6=>refine Zt.same (fun w _=>(Qp1 htt.und ht h0 h1)) (.ptr _ _ _ _ _ p hp ?_) h;rw[hk,ZR];omega
      |slz=>simp at h1;omega
     ·exact h.elim
    ·rename_i sz rows;split at h
     ·rename_i hsz;subst hsz;simp only[Qp.holds,decide_eq_true_eq]at h;obtain⟨h0,h1,h⟩:=h;cases hx with
      |pv hp=>cases hp with
       |rnil=>simp at h1;omega
       |remp=>simp at h1;omega
       |rsl b off c _ n' _ hn hc g0 g1 g2=>refine Zt.same (fun w _=>(Qp1 htt.und ht h0 (by omega))) (.pv (.rptr b off i.size n.toNat 0 _ rows (by omega) g0 g1 g2)) h
     ·exact h.elim
    ·exact h.elim
  ·rename_i m e sz' by' zr rw' hte;have htt:=htab.get hte;split at h
   ·exact h.elim
   ·rename_i i hi;have ht:=htab.get hi;split at h
    ·rename_i s sz r j;simp only[Qp.holds,decide_eq_true_eq]at h;obtain⟨h0,h1,h⟩:=h;cases hx with
     |ptr _ _ _ _ k' p hp hk=>exact Zt.same (fun w _=>(Qqq htt.und ht h0 h1)) (.ptr _ _ _ _ _ p hp (by omega)) h
    ·rename_i sz rows r j;simp only[Qp.holds,decide_eq_true_eq]at h;obtain⟨h0,h1,h⟩:=h;cases hx with
     |pv hp=>cases hp with
      |rptr b off _ _ _ k' _ hk g0 g1 g2=>exact Zt.same (fun w _=>(Qqq htt.und ht h0 h1)) (.pv (.rptr b off sz r _ _ rows (by omega) g0 g1 g2)) h
    ·exact h.elim
  ·exact h.elim
 ·exact h.elim
theorem Zxu{P:Program}{tab:Qr}(htab:Q9 P tab){M:Qd}{Z:Env}{H:List Qb}{w0:World}{Sw:World->Prop}{K:Qy}(hm:Mem M Z H w0){t:Nat}{x:SV}{lo hi:Option SV}{v:Value}{vl vh:Option Value}
  (hx:Qf M Z v x) (hsl:vl.isSome=lo.isSome) (hrl:∀v x,vl=some v->lo=some x->Qf M Z v x) (hsh:vh.isSome=hi.isSome) (hrh:∀v x,vh=some v->hi=some x->Qf M Z v x)
  (h:(Qgj tab H t x lo hi).holds H K):Zt P (QA t v vl vh none) M Z Sw H K:=by
 unfold Qgj at h;split at h
 ·rename_i e sz' by' zr rw' hte;have htt:=htab.get hte;split at h
  ·exact h.elim
  ·rename_i i hi';have ht:=htab.get hi';split at h
   ·rename_i s sz st len;split at h
    ·rename_i hsz;subst hsz;split at h
     ·rename_i l hh e1 e2;simp only[Qp.holds,decide_eq_true_eq]at h;obtain⟨h0,h1,h2,h⟩:=h;have bl:=Xw hsl hrl e1;have bh:=Xw hsh hrh e2;cases hx with
      |sl _ _ _ _ c k p hp hk hc hn h6=>
       refine Zt.same (fun w _=>(W9 htt.und ht bl bh h0 h1 (by omega))) ?_ h;by_cases hcl:c=l.toNat
       ·have e0:hh.toNat-l.toNat=0:=by omega
        rw[if_pos hcl,e0,hcl,QE];exact .slz _ _ _ _
       ·rw[if_neg hcl];simp only[QO,QD];refine .sl _ _ _ _ _ _ p hp (by rw[hk,ZR]) ?_ (by omega) (by omega);rw[show st+l.toNat+(c-l.toNat)=st+c by omega];exact hc
      |slz a b c' a'=>
       refine Zt.same (fun w _=>(W9 htt.und ht bl bh h0 h1 (by omega))) ?_ h;have hl0:l.toNat=0:=by omega
       have hh0:hh.toNat=0:=by omega
       rw[hl0,hh0];simp only[QE,if_true];exact .slz _ _ _ _
     ·exact h.elim
    ·exact h.elim
   ·rename_i s sz st len m;split at h
    ·rename_i hsz;subst hsz;split at h
     ·rename_i l hh e1 e2;simp only[Qp.holds,decide_eq_true_eq]at h;obtain⟨h0,h1,h2,h⟩:=h;have bl:=Xw hsl hrl e1;have bh:=Xw hsh hrh e2;cases hx with
      |slb _ _ _ _ _ hx hmc=>
      obtain⟨_,_,c9,e9,hmc⟩:=hmc;cases hx with
      |sl _ _ _ _ c k p hp hk hc hn h6=>
       injection e9 with _ _ e9;subst e9;refine Zt.same (fun w _=>(W9 htt.und ht bl bh h0 h1 (by omega))) ?_ h;by_cases hcl:c=l.toNat
       ·have e0:hh.toNat-l.toNat=0:=by omega
        have e00:m-l.toNat=0:=by omega
        rw[if_pos hcl,e0,e00,hcl,QE];exact .slb _ _ _ _ _ (.slz _ _ _ _) ⟨_,_,_,rfl,ZK _⟩
       ·rw[if_neg hcl];simp only[QO,QD];refine .slb _ _ _ _ _ (.sl _ _ _ _ _ _ p hp (by rw[hk,ZR]) ?_ (by omega) (by omega)) ⟨_,_,_,rfl,by omega⟩;rw[show st+l.toNat+(c-l.toNat)=st+c by omega];exact hc
      |slz a b c' a'=>
       injection e9 with _ _ e9;subst e9;refine Zt.same (fun w _=>(W9 htt.und ht bl bh h0 h1 (by omega))) ?_ h;have hl0:l.toNat=0:=by omega
       have hh0:hh.toNat=0:=by omega
       have hm0:m=0:=by omega
       subst hm0;rw[hl0,hh0];simp only[QE,if_true];exact .slb _ _ _ _ _ (.slz _ _ _ _) ⟨_,_,_,rfl,ZK _⟩
     ·exact h.elim
    ·exact h.elim
   ·rename_i sz rows;split at h
    ·rename_i hsz;subst hsz;split at h
     ·rename_i l hh e1 e2;simp only[Qp.holds,decide_eq_true_eq]at h;obtain⟨h0,h1,h2,h⟩:=h;have bl:=Xw hsl hrl e1;have bh:=Xw hsh hrh e2;cases hx with
      |pv hp=>
       have hlen:((rows.take hh.toNat).drop l.toNat).length=hh.toNat-l.toNat:=by simp;omega
       cases hp with
       |rnil=>
        refine Zt.same (fun w _=>(W9 htt.und ht bl (by simpa using bh) h0 h1 (by simpa using h2))) ?_ h;have hl0:l.toNat=0:=by simp at h2;omega
        have hh0:hh.toNat=0:=by simp at h2;omega
        rw[hl0,hh0];simp;exact .pv (.rnil _)
       |remp a c=>
        refine Zt.same (fun w _=>(W9 htt.und ht bl (by simpa using bh) h0 h1 (by simp at h2;omega))) ?_ h;have hl0:l.toNat=0:=by simp at h2;omega
        have hh0:hh.toNat=0:=by simp at h2;omega
        rw[hl0,hh0];simp only[List.take_nil,List.drop_nil,Nat.sub_zero,Nat.zero_mul];split
        ·exact .pv (.remp _ _ _)
        ·exact .pv (.remp _ _ _)
       |rsl b off c _ n' _ hn hc g0 g1 g2=>
        subst hn;refine Zt.same (fun w _=>(W9 htt.und ht bl bh h0 h1 (by omega))) ?_ h;by_cases hcl:c=l.toNat
        ·have e0:hh.toNat-l.toNat=0:=by omega
         have:(rows.take hh.toNat).drop l.toNat=[]:=ZD (by rw[hlen,e0]);rw[if_pos hcl,this,e0,hcl,QE];exact .pv (.remp _ _ _)
        ·rw[if_neg hcl];simp only[QO,QD];have at':∀(m:Nat) (r:List PV),((rows.take hh.toNat).drop l.toNat)[m]? =some r->rows[l.toNat+m]? =some r:=fun m r hm'=>by
          rw[ZN,ZM]at hm';split at hm'
          ·exact hm'
          ·cases hm'
         have mul:∀m j:Nat,off+l.toNat*i.size+m*i.size+j=off+(l.toNat+m)*i.size+j:=fun m j=>by rw[ZR];omega
         refine .pv (.rsl b (off+l.toNat*i.size) (c-l.toNat) i.size _ _ hlen.symm (by omega) (fun m j hm' hj=>?_) (fun m r j p u hm' hj hu=>?_) (fun m r hm'=>g2 _ r (at' m r hm')))
         ·rw[mul];rw[hlen]at hm';exact g0 _ j (by omega) hj
         ·rw[mul]at hu;exact g1 _ r j p u (at' m r hm') hj hu
     ·exact h.elim
    ·exact h.elim
   ·split at h
    ·rename_i l hh e1 e2;simp only[Qp.holds,decide_eq_true_eq]at h;obtain⟨h0,h1,h⟩:=h;have:=hx.Zq;subst this;subst h0;subst h1;have bl:=Xw hsl hrl e1;have bh:=Xw hsh hrh e2;have:=fun w (_:Sw w)=>W9 (w:=w) (a:=none) (len:=0) (cap:=0) htt.und ht bl (by simpa using bh) (Int.le_refl _) (Int.le_refl _) (by simp);exact Zt.same this (.pv (.lit _)) h
    ·exact h.elim
   ·exact h.elim
 ·rename_i sz' by' zr rw' hte;have htt:=htab.get hte;split at h
  ·rename_i b;split at h
   ·rename_i l hh e1 e2;simp only[Qp.holds,decide_eq_true_eq]at h;obtain⟨h0,h1,h2,h⟩:=h;have:=hx.Zq;subst this;have bl:=Xw hsl hrl e1;have bh:=Xw hsh hrh e2;refine Zt.same ?_ (.pv (.lit _)) h;have hu:P.underlying t=some .string:=htt.und;simp[QA,Instr.slice,run_underlying hu,Qlm bl bh h0 h1 h2]
   ·exact h.elim
  ·exact h.elim
 ·exact h.elim
 ·rename_i n e sz' by' zr rw' hte;have htt:=htab.get hte;split at h
  ·exact h.elim
  ·rename_i i hi';have ht:=htab.get hi';obtain⟨inf,hinf,i1,_⟩:=ht.inf;split at h
   ·rename_i s sz r j;split at h
    ·exact h.elim
    ·rename_i o ho;split at h
     ·rename_i szo l hh hz e1 e2;split at h
      ·exact h.elim
      ·rename_i hi0;simp only[Qp.holds,decide_eq_true_eq]at h;obtain⟨hdiv,hfit,h0,h1,h2,h⟩:=h;have bl:=Xw hsl hrl e1;have bh:=Xw hsh hrh e2;cases hx with
       |ptr _ _ _ _ k p hp hk=>
        obtain⟨cs,ty,a1,a2,a3,a4,a5⟩:=((hm.own s o ho).rowOf hz hp).ex;have hrun:∀w,(QA t (.pointer (some ⟨p.block,k,none⟩)) vl vh none).run P w=.ok (.slice (some (if n=l.toNat then⟨p.block,k,none⟩else⟨p.block,k+l.toNat*i.size,none⟩)) (hh.toNat-l.toNat) (n-l.toNat)) w:=fun w=>by have hu:P.underlying t=some (.array n e):=htt.und;simp[QA,run_underlying hu,ZG,Qlm bl bh h0 h1 h2,sizeOf,typeInfo,hinf,i1,QD]
        refine Zt.same (fun w _=>hrun w) ?_ h;by_cases hcl:n=l.toNat
        ·have e0:hh.toNat-l.toNat=0:=by omega
         have e1':n-l.toNat=0:=by omega
         rw[if_pos hcl,e0,e1'];exact .slz _ _ _ _
        ·rw[if_neg hcl];have hb:(r*sz+j)/i.size*i.size=r*sz+j:=by have:=Nat.div_add_mod' (r*sz+j) i.size;omega
         refine .sl _ _ _ _ _ _ p hp (by rw[ZR,hb,hk]) ?_ (by omega) (by omega);rw[show(r*sz+j)/i.size+l.toNat+(n-l.toNat)=(r*sz+j)/i.size+n by omega,ZR,hb];omega
     ·exact h.elim
   ·exact h.elim
 ·exact h.elim
theorem Zz0{P:Program}{tab:Qr}(htab:Q9 P tab){M:Qd}{Z:Env}{H:List Qb}{w0:World}{Sw:World->Prop}{K:Qy}(hm:Mem M Z H w0){t ty:Nat}{x:SV}{v:Value}(hx:Qf M Z v x)(hnm:∀s,x≠.mp s)
  (h:(Qg0 tab H t x).holds H K):Zt P (ZS #[t] ty #[v]) M Z Sw H K:=by
 unfold Qg0 at h;split at h
 ·rename_i e sz' by' zr rw' hte;have hu:P.underlying t=some (.slice e):=(htab.get hte).und;have key:∀(w:World) a n c,(ZS #[t] ty #[.slice a n c]).run P w=.ok (.int .i64 n) w:=fun w a n c=>by simp[ZS,run_underlying hu,goInt]
  split at h
  ·rename_i s sz st len;cases hx with
   |sl _ _ _ _ c k p hp hk hc hn h6=>exact Zt.same (fun w _=>key w _ _ _) (.pv (.lit _)) h
   |slz=>exact Zt.same (fun w _=>key w _ _ _) (.pv (.lit _)) h
  ·cases hx with
   |slb _ _ _ _ _ hx hmc=>
   cases hx with
   |sl _ _ _ _ c k p hp hk hc hn h6=>exact Zt.same (fun w _=>key w _ _ _) (.pv (.lit _)) h
   |slz=>exact Zt.same (fun w _=>key w _ _ _) (.pv (.lit _)) h
  ·cases hx with
   |pv hp=>cases hp with
    |rnil=>exact Zt.same (fun w _=>key w _ _ _) (.pv (.lit _)) h
    |remp=>exact Zt.same (fun w _=>key w _ _ _) (.pv (.lit _)) h
    |rsl b off c _ n' _ hn hc g0 g1 g2=>subst hn;exact Zt.same (fun w _=>key w _ _ _) (.pv (.lit _)) h
  ·have:=hx.Zq;subst this;exact Zt.same (fun w _=>key w _ _ _) (.pv (.lit _)) h
  ·exact h.elim
 ·rename_i sz' by' zr rw' hte;have hu:P.underlying t=some .string:=(htab.get hte).und;split at h
  ·have:=hx.Zq;subst this;exact Zt.same (fun w _=>by simp[ZS,run_underlying hu,goInt]) (.pv (.lit _)) h
  ·exact h.elim
 ·rename_i kk ee sz' by' zr rw' hte;have hu:P.underlying t=some (.map kk ee):=(htab.get hte).und;split at h
  ·rename_i s;exact(hnm s rfl).elim
  ·have:=hx.Zq;subst this;exact Zt.same (fun w _=>by simp[ZS,run_underlying hu,goInt]) (.pv (.lit _)) h
  ·exact h.elim
 ·rename_i n e sz' by' zr rw' hte;have hu:P.underlying t=some (.array n e):=(htab.get hte).und;refine Zt.same ?_ (.pv (.lit _)) h;simp[ZS,run_underlying hu,goInt]
 ·exact h.elim
theorem Qd5{P:Program}{M:Qd}{Z:Env}{H:List Qb}{w0:World}{Sw:World->Prop}{K:Qy}{ev:Operand->SV}{va:Operand->Value}(hm:Mem M Z H w0)(hev:∀x,Qf M Z (va x) (ev x)){o:Oper}
  (h:(Kb P ev o).holds H K):Xp P (execOp va o) M Z Sw H K:=by
 unfold Kb at h;split at h
 ·rename_i hc;simp only[ZF,ZX]at hc;split at h
  ·rename_i v hv;have he:execOp va o=execOp (fun x=>(ev x).Qti) o:=by refine execOp_congr o (fun cs b hsel=>by rw[hsel]at hc;simp[Qwr]at hc) fun x hx=>?_;have:=Array.all_eq_true_iff_forall_mem.1 hc.2 x hx;exact Ze3 (hev x) this
   rw[he];exact Xp.same (fun w _=>Qf4 hv w) (.pv (.lit _)) h
  ·exact h.elim
 ·exact h.elim
theorem Yq6{P:Program}{tab:Qr}(htab:Q9 P tab){M:Qd}{Z:Env}{H:List Qb}{w0:World}{Sw:World->Prop}{K:Qy}{ev:Operand->SV}{va:Operand->Value}(hm:Mem M Z H w0)(hev:∀x,Qf M Z (va x) (ev x)){o:Oper}
  {op:BinOp} {t t':TypeId} {x y:Operand} (ho:o.op=.binOp op t x y t') (h:(Qng P tab ev o op t (ev x) (ev y)).holds H K):Xp P (execOp va o) M Z Sw H K:=by
 have hx:=hev x;have hy:=hev y;have exec:execOp va o=(do pure (.value (<-(do eqGuard op t x y (va x) (va y);binOp op t (va x) (va y))))):=by simp[execOp,ho]
 unfold Qng at h;split at h<;>first
  | (rename_i e1 e2
     rw[e1]at hx;rw[e2]at hy;have ex:=hx.Zq;have ey:=hy.Zq;rw[exec,ex,ey];simp only[Qp.holds]at h
     first
    | (refine Xp.same ?_ (.pv (.lit _)) h
       intro w _;simp[I,Vz,binOp,Op.intArith,w64];done)
    | (obtain ⟨hn,h⟩ := h
       first
      | (have hz := of_decide_eq_true hn
         refine Xp.same ?_ (.pv (.lit _)) h;intro w _;simp[I,Vz,binOp,Op.intDiv,hz,w64];done)
      | (have hz := Int.not_lt.2 (of_decide_eq_true hn)
         refine Xp.same ?_ (.pv (.lit _)) h;intro w _;simp only[I,Vz,U,binOp,Op.shift,if_neg hz,ZL];rfl)
      | (have hz := Int.not_lt.2 (of_decide_eq_true hn)
         refine Xp.same ?_ (.pv (.lit _)) h;intro w _;simp only[I,Qje,U,binOp,Op.stringOp,gt_iff_lt,if_neg hz,ZL];done)
      | (obtain ⟨hn2,h⟩ := h
         have hz:=of_decide_eq_true hn;refine Xp.same ?_ (.pv (.lit _)) h;intro w _;simp[I,Vz,binOp,Op.intDiv,hz,Ze5 hn2];done))
    | (refine Xp.same ?_ (.pv (.lit _)) h
       intro w _;simp[I,Vz,Qje,binOp,Op.intCmp,Op.stringOp,bne];done)
    | (refine Xp.same ?_ (.pv (.lit _)) h
       intro w _;simp only[I,Vz,Qje,U,binOp,Op.intCmp,Op.stringOp,Zgr];rfl))
  | (split at h
     · rename_i neg hk
       split at h
       · rename_i hc
         simp only[ZF]at hc;obtain⟨v,hk2,hrun⟩:=Zkk htab hx hy hc.1 hc.2 h;have ho:=Zh1 hk;rw[exec,ho];refine Xp.same (fun w _=>?_) (.pv (.lit _)) hk2;have:=hrun w;simp only[I]at this⊢;simp[this]
       · exact h.elim
     · split at h
       · rename_i r hr
         have hrun:=Zki (P:=P) (t:=t) hx hy hr;rw[exec];refine Xp.same (fun w _=>?_) (.pv (.lit _)) h;have:=hrun w x y;simp only[I]at this⊢;simp[this]
       · exact Qd5 (w0:=w0) hm hev h)
theorem Zoj{P:Program}{tab:Qr}(htab:Q9 P tab){M:Qd}{Z:Env}{H:List Qb}{w0:World}{Sw:World->Prop}{K:Qy}(hm:Mem M Z H w0){t f:Nat}{x:SV}{v:Value}(hx:Qf M Z v x)
  (h:(Qm5 tab t x f).holds H K):Zt P (QY t v f) M Z Sw H K:=by
 unfold Qm5 at h;split at h
 ·rename_i l fields sz' by' zr rw' hte;have hu:P.underlying t=some (.struct fields):=(htab.get hte).und;cases hx with
  |agg cs _ hl hr=>
   split at h
   ·exact h.elim
   ·rename_i fd hfd;split at h
    ·exact h.elim
    ·rename_i i hi;have ht:=htab.get hi;obtain⟨inf,hinf,i1,_⟩:=ht.inf;split at h
     ·rename_i hd;simp only[Qp.holds,decide_eq_true_eq]at h;obtain⟨hle,h⟩:=h;refine Zt.same (v:=.agg (cs.extract fd.offset (fd.offset+i.size))) ?_ ?_ h
      ·simp[QY,run_underlying hu,hfd,asAgg,part,Qe6 ht,hd,sizeOf,typeInfo,hinf,i1]
      ·have:=Qf.X2 (M:=M) (Z:=Z) (cs:=(cs.extract fd.offset (fd.offset+i.size)).toList) (l:=(l.drop fd.offset).take i.size) (by simp;omega) (fun k v x hv hx=>by
        rw[ZM]at hx;split at hx
        ·rename_i hk;rw[ZN]at hx;rw[ZJ,Array.getElem?_extract]at hv;split at hv
         ·exact hr _ v x hv hx
         ·cases hv
        ·cases hx)
       rwa[QC]at this
     ·rename_i hd;simp only[Qp.holds,decide_eq_true_eq]at h;obtain⟨hle,h⟩:=h;have hlt:fd.offset<cs.size:=by omega
      refine Zt.same (v:=cs[fd.offset]) ?_ ?_ h
      ·simp[QY,run_underlying hu,hfd,asAgg,part,Qe6 ht,hd,hlt]
      ·rw[List.getD_eq_getElem?_getD,QJ hle];exact hr fd.offset _ _ (by simp[hlt]) (by simp[hle])
 ·exact h.elim
theorem Qt0{P:Program}{tab:Qr}(htab:Q9 P tab){M:Qd}{Z:Env}{H:List Qb}{w0:World}{Sw:World->Prop}{K:Qy}(hm:Mem M Z H w0){R:List Nat}(hR:∀u,Sw u->∀s∈R,∀p,Z s=some p->u.heap[p.block]? =w0.heap[p.block]?)
  {t:Nat} {m k:SV} {vm vk:Value} {ok:Bool} (hmr:Qf M Z vm m) (hkr:Qf M Z vk k) (hin:∀s,m=.mp s->s∈R)
  (h:(Qgu P tab H t m k ok).holds H K):Zt P (QF t vm vk ok) M Z Sw H K:=by
 unfold Qgu at h;split at h
 ·rename_i kt et sz' by' zr rw' hte;have hu:P.underlying t=some (.map kt et):=(htab.get hte).und;split at h
  ·rename_i kv;have:=hkr.Zq;subst this;split at h
   ·rename_i s;split at h
    ·rename_i es c ho;split at h
     ·rename_i hko;cases hmr with
      |mp _ p hp=>
       obtain⟨arr,hheap,hrep⟩:=(hm.own s _ ho).Qhb hp;have hempty:arr.isEmpty=es.isEmpty:=by have:=hrep.sz;simp only[Array.isEmpty,this];cases es<;>simp
       have hget:∀u,Sw u->(getObj p.block).run P u=.ok (.map arr c) u:=fun u hu'=>run_getObj_map (P:=P) (by rw[hR u hu' s (hin s rfl) p hp];exact hheap);have hkey:∀u,_:=fun u=>Qdl hko u;rw[<-hempty]at hkey;split at h
       ·rename_i j hj;obtain⟨e,x,a1,a2,a3,a4,a5,a6⟩:=(Qa9 (P:=P) (kt:=kt) (k:=vk) hrep w0).2 j hj;rw[a2]at h;simp only at h;refine Zt.same ?_ (Qa0 (ok:=ok) (b:=true) a5) h;intro u hw;obtain⟨e',x',b1,_,_,_,_,b6⟩:=(Qa9 (P:=P) (kt:=kt) (k:=vk) hrep u).2 j hj;rw[a1]at b1;cases b1;simp[QF,run_underlying hu,hget u hw,hkey u,b6]
       ·rename_i hj;split at h
        ·rename_i i hi;refine Zt.same ?_ (Qa0 (ok:=ok) (b:=false) (.pv (.lit _))) h;intro u hw;simp[QF,run_underlying hu,hget u hw,hkey u,(Qa9 (P:=P) (kt:=kt) (k:=vk) hrep u).1 hj,Qa4 (htab.get hi)]
        ·exact h.elim
       ·exact h.elim
     ·exact h.elim
    ·exact h.elim
   ·split at h
    ·rename_i hko;have:=hmr.Zq;subst this;split at h
     ·rename_i i ik hi hik;refine Zt.same ?_ (Qa0 (ok:=ok) (b:=false) (.pv (.lit _))) h;intro w _;have hkey:=Qdl hko w;have hnone:(XB kt vk []).run P w=.ok none w:=by simp only[XB,Instr.findNow,I,run_underlying (htab.get hik).und,U,ZL]
      simp[QF,run_underlying hu,hkey,hnone,Qa4 (htab.get hi)]
     ·exact h.elim
    ·exact h.elim
   ·exact h.elim
  ·exact h.elim
 ·exact h.elim
theorem Zui{P:Program}{tab:Qr}(htab:Q9 P tab){M:Qd}{Z:Env}{H:List Qb}{w0:World}{Sw:World->Prop}{K:Qy}(hm:Mem M Z H w0){R:List Nat}(hR:∀u,Sw u->∀s∈R,∀p,Z s=some p->u.heap[p.block]? =w0.heap[p.block]?)
  {t:Nat} {m k:SV} {vm vk:Value} {ok:Bool} (hmr:Qf M Z vm m) (hkr:Qf M Z vk k) (hin:∀s,m=.mp s->s∈R)
  (h:(Qmg P tab H t m k ok).holds H K):Zt P (QF t vm vk ok) M Z Sw H K:=by
 unfold Qmg at h;split at h
 ·rename_i s;split at h
  ·rename_i ka va l ho;split at h
   ·rename_i kt et _ _ _ _ hte;cases hmr with
    |mp _ p hp=>obtain⟨arr,hheap,hrep⟩:=Wz.rep (hm.own s _ ho) hp;obtain⟨v,x,h1,h2,h3⟩:=Zaa htab hkr h hrep;exact Zt.same (fun u hu=>h3 u t p.block _ (htab.get hte).und (by rw[hR u hu s (hin s rfl) p hp];exact hheap)) h2 h1
   ·exact h.elim
  ·rename_i es c ho;split at h
   ·rename_i kt et _ _ _ _ hte;split at h
    ·split at h
     ·cases hmr with
      |mp _ p hp=>obtain⟨arr,hheap,hrep⟩:=(hm.own s _ ho).Qhb hp;obtain⟨v,x,h1,h2,h3⟩:=Zbu htab hkr h hrep;exact Zt.same (fun u hu=>h3 u t p.block _ (htab.get hte).und (by rw[hR u hu s (hin s rfl) p hp];exact hheap)) h2 h1
     ·exact Qt0 htab hm hR hmr hkr hin h
    ·exact h.elim
   ·exact h.elim
  ·exact Qt0 htab hm hR hmr hkr hin h
 ·exact Qt0 htab hm hR hmr hkr hin h
theorem Ybq{P:Program}{tab:Qr}(htab:Q9 P tab){M:Qd}{Z:Env}{H:List Qb}{Sw:World->Prop}{K:Qy}{t:Nat}{vp:Array (Nat×Value)}{sp:List (Nat×SV)}
  (hl:vp.size=sp.length) (hp:∀(k:Nat) (a:Nat×Value) (b:Nat×SV),vp.toList[k]? =some a->sp[k]? =some b->a.1=b.1∧Qf M Z a.2 b.2)
  (h:(Qmd P tab t sp).holds H K):Zt P (QZ t vp) M Z Sw H K:=by
 unfold Qmd at h;split at h
 ·exact h.elim
 ·rename_i i hi;have ht:=htab.get hi;have hz:=fun w=>Qa4 ht w;split at h
  ·rename_i fields hd;have hu:P.underlying t=some (.struct fields):=by rw[ht.und,hd]
   split at h
   ·exact h.elim
   ·rename_i places hpl;split at h
    ·exact h.elim
    ·rename_i l hf;obtain⟨cs',g1,g2⟩:=Qi3 (M:=M) (Z:=Z) (Qr8 ht) (by simpa using hl) hp hf;refine Zt.same (v:=.agg cs') ?_ ?_ h
     ·intro w _;have hrun:=Qf4 hpl w;simp only[Qxa,I,run_underlying hu,U]at hrun;simp only[QZ,I,hz,U,run_underlying hu,hrun];rw[g1];rfl
     ·have:=Qf.X2 (M:=M) (Z:=Z) (cs:=cs'.toList) (l:=l) (by simpa using g2.sz) (fun k v x hv hx=>g2.rep k v x (by rw[<-ZJ];exact hv) hx);simpa using this
  ·rename_i n e hd;have hu:P.underlying t=some (.array n e):=by rw[ht.und,hd]
   split at h
   ·exact h.elim
   ·rename_i ie hie;obtain⟨inf,hinf,i1,_⟩:=(htab.get hie).inf;split at h
    ·exact h.elim
    ·rename_i l hf;obtain⟨cs',g1,g2⟩:=Qi3 (M:=M) (Z:=Z) (Qr8 ht) (by simpa using hl) hp hf;refine Zt.same (v:=.agg cs') ?_ ?_ h
     ·intro w _;simp only[QZ,I,hz,U,run_underlying hu,sizeOf,typeInfo,run_program,hinf,ZL,i1];rw[g1];rfl
     ·have:=Qf.X2 (M:=M) (Z:=Z) (cs:=cs'.toList) (l:=l) (by simpa using g2.sz) (fun k v x hv hx=>g2.rep k v x (by rw[<-ZJ];exact hv) hx);simpa using this
  ·exact h.elim
theorem Zt.seen{P:Program}{S:Sem Value}{M:Qd}{Z:Env}{Sw:World->Prop}{H:List Qb}{K:Qy}(h:Zt P S M Z Sw H (Seen K)):Zt P S M Z Sw H K:=by obtain⟨v,x,⟨y,hy,hk⟩,hx,hr⟩:=h;exact⟨v,y,hk,hy _ _ _ hx,hr⟩
theorem Ypu{P:Program}{tab:Qr}(htab:Q9 P tab){M:Qd}{Z:Env}{H:List Qb}{w0:World}{Sw:World->Prop}{K:Qy}(hm:Mem M Z H w0){t f:Nat}{x:SV}{v:Value}(hx:Qf M Z v x)
  (h:(Qmx tab t x f).holds H K):Zt P (QI t v f) M Z Sw H K:=Zt.seen (Zm3 (w0:=w0) htab hm hx.Yz (Zld h))
theorem Yhp{P:Program}{tab:Qr}(htab:Q9 P tab){M:Qd}{Z:Env}{H:List Qb}{w0:World}{Sw:World->Prop}{K:Qy}(hm:Mem M Z H w0){t:Nat}{x ix:SV}{v u:Value}(hx:Qf M Z v x)(hix:Qf M Z u ix)
  (h:(Ql9 tab t x ix).holds H K):Zt P (XA t v u) M Z Sw H K:=Zt.seen (Yph (w0:=w0) htab hm hx.Yz hix (Zf2 h))
theorem Yri{P:Program}{tab:Qr}(htab:Q9 P tab){M:Qd}{Z:Env}{H:List Qb}{w0:World}{Sw:World->Prop}{K:Qy}(hm:Mem M Z H w0){t:Nat}{x:SV}{lo hi:Option SV}{v:Value}{vl vh:Option Value}
  (hx:Qf M Z v x) (hsl:vl.isSome=lo.isSome) (hrl:∀v x,vl=some v->lo=some x->Qf M Z v x) (hsh:vh.isSome=hi.isSome) (hrh:∀v x,vh=some v->hi=some x->Qf M Z v x)
  (h:(Qmw tab H t x lo hi).holds H K):Zt P (QA t v vl vh none) M Z Sw H K:=Zt.seen (Zxu (w0:=w0) htab hm hx.Yz hsl hrl hsh hrh (Zk4 h))
theorem Yc5{x:SV}(h:∀s,x≠.mp s):∀s,x.Yz≠.mp s:=by
 intro s;unfold SV.Yz;split
 ·intro e;cases e
 ·intro e;cases e
 ·exact h s
theorem Zp6{P:Program}{tab:Qr}(htab:Q9 P tab){M:Qd}{Z:Env}{H:List Qb}{w0:World}{Sw:World->Prop}{K:Qy}(hm:Mem M Z H w0){t ty:Nat}{x:SV}{v:Value}(hx:Qf M Z v x)(hnm:∀s,x≠.mp s)
  (h:(Qmv tab H t x).holds H K):Zt P (ZS #[t] ty #[v]) M Z Sw H K:=Zt.seen (Zz0 (w0:=w0) htab hm hx.Yz (Yc5 hnm) (Zd9 h))
end Go.Sx
section
namespace Go.Sx
open Go
def J8:Op->Bool
 |.move _|.assign _|.pick .. |.build .. |.load .. |.lookup .. |.nilCheck _|.binOp .. |.makeFunc .. |.slice .. |.fieldAddr .. |.field .. |.indexAddr .. |.extract .. |.unOp .. |.convert .. |.index .. |.makeInterface ..=>true
 |.call {callee:=.builtin .len,..}=>true
 |_=>false
def hdyn(R:List Nat)(ev:Operand->SV)(o:Oper):Bool:=match o.op with
 |.load _ a=>match ev a with
  |.ptr s ..=>R.contains s
  |_=>true
 |.lookup _ m _ _=>match ev m with
  |.mp s=>R.contains s
  |_=>true
 |.call {callee:=.builtin .len,args,..}=>args.toList.all fun x=>match ev x with
  |.mp _=>false
  |_=>true
 |_=>true
theorem Ym7{R:List Nat}{ev:Operand->SV}{o:Oper}{t:TypeId}{a:Operand}(ho:o.op=.load t a):hdyn R ev o=match ev a with
  |.ptr s ..=>R.contains s
  |_=>true:=by simp only[hdyn,ho]
theorem Zuw{R:List Nat}{ev:Operand->SV}{o:Oper}{t:TypeId}{m k:Operand}{ok:Bool}(ho:o.op=.lookup t m k ok):hdyn R ev o=match ev m with
  |.mp s=>R.contains s
  |_=>true:=by simp only[hdyn,ho]
theorem Ycz{P:Program}{tab:Qr}(htab:Q9 P tab){M:Qd}{Z:Env}{H:List Qb}{w:World}{Sw:World->Prop}{K:Qy}{ev:Operand->SV}{va:Operand->Value}(hm:Mem M Z H w)(hev:∀x,Qf M Z (va x) (ev x)){o:Oper}
  (hS:∀u,Sw u->∀b o,M b=some o->u.heap[b]? =some o) {R:List Nat} (hR:∀u,Sw u->∀s∈R,∀p,Z s=some p->u.heap[p.block]? =w.heap[p.block]?) (hk:J8 o.op=true) (hdyn:hdyn R ev o=true)
  (h:(sop P tab H ev o).holds H K):Xp P (execOp va o) M Z Sw H K:=by
 unfold sop at h;split at h
 ·rename_i x ho;exact Xp.same (fun w _=>by simp[execOp,ho]) (hev x) h
 ·rename_i x ho;exact Xp.same (fun w _=>by simp[execOp,ho]) (hev x) h
 ·rename_i c a b ho;have hc:=hev c;split at h
  ·rename_i t e;rw[e]at hc;have ec:=hc.Zq;obtain⟨h1,h2⟩:=h;cases t with
   |true=>exact Xp.same (fun w _=>by simp[execOp,ho,ec,asBool]) (hev a) (h1 rfl)
   |false=>exact Xp.same (fun w _=>by simp[execOp,ho,ec,asBool]) (hev b) (h2 rfl)
  ·exact h.elim
 ·rename_i ho;exact absurd hk (by simp[J8,ho])
 ·rename_i ho;exact absurd hk (by simp[J8,ho])
 ·rename_i t parts ho;obtain⟨h1,h2⟩:=Qzm hev parts;have:=(Ybq (Sw:=Sw) htab h1 h2 h).toN;simpa[execOp,ho]using this
 ·rename_i ho;exact absurd hk (by simp[J8,ho])
 ·rename_i t a ho;have:=(Zif (w0:=w) (Sw:=Sw) htab hm hS hR (hev a) (fun s sz r j e=>by rw[Ym7 ho]at hdyn;rw[e]at hdyn;simpa using hdyn) h).toN;simpa[execOp,ho]using this
 ·rename_i ho;exact absurd hk (by simp[J8,ho])
 ·rename_i x ho;have hx:=hev x;split at h
  ·rename_i s sz i j e;rw[e]at hx;cases hv:va x with
   |pointer a=>
    rw[hv]at hx;cases hx with
    |ptr _ _ _ _ k p hp hk=>exact Xp.same (v:=.pointer (some ⟨p.block,k,none⟩)) (fun w _=>by simp[execOp,ho,hv]) (.ptr _ _ _ _ k p hp hk) h
   |_=>rw[hv]at hx;cases hx
  ·rename_i sz r i j e;rw[e]at hx;generalize hv:va x=vx at hx;cases hx with
   |pv hp=>
    cases hp with
    |rptr b off _ _ _ k _ hk h0 h1 h2=>exact Xp.same (v:=.pointer (some ⟨b,k,none⟩)) (fun w _=>by simp[execOp,ho,hv]) (.pv (.rptr b off sz i j k r hk h0 h1 h2)) h
  ·rename_i s e;rw[e]at hx;cases hv:va x with
   |map a=>rw[hv]at hx;exact Xp.same (v:=.map a) (fun w _=>by simp[execOp,ho,hv]) hx h
   |_=>rw[hv]at hx;cases hx
  ·rename_i f a b e;rw[e]at hx;cases hv:va x with
   |func g c d=>
    rw[hv]at hx;cases hx with
    |fn _ _ _ _ _ ha hb hh hk=>exact Xp.same (v:=.func (.func f) c d) (fun w _=>by simp[execOp,ho,hv]) (.fn _ _ _ _ _ ha hb hh hk) h
   |_=>rw[hv]at hx;cases hx
  ·exact Qd5 (w0:=w) (Sw:=Sw) hm hev h
 ·rename_i op t x y t' ho;split at h
  ·rename_i r hr;obtain⟨q,hrun,hk⟩:=Zlx (P:=P) htab (hev x) (hev y) hr h;have exec:execOp va o=(do pure (.value (<-(do eqGuard op t x y (va x) (va y);binOp op t (va x) (va y))))):=by simp[execOp,ho]
   rw[exec];exact Xp.same (fun w _=>by have:=hrun w x y;simp only[I]at this⊢;simp[this]) (.pv (.lit _)) hk
  ·exact Yq6 htab (w0:=w) (Sw:=Sw) hm hev ho h
 ·rename_i fn a b ho;obtain⟨a1,a2⟩:=Qnb hev a;obtain⟨b1,b2⟩:=Qnb hev b;exact Xp.same (fun w _=>by simp[execOp,ho,Instr.makeFunc]) (.fn fn _ _ _ _ a1 b1 a2 b2) h
 ·rename_i ho;exact absurd hk (by simp[J8,ho])
 ·rename_i ho;exact absurd hk (by simp[J8,ho])
 ·rename_i t x lo hi mx ho;split at h
  ·obtain⟨l1,l2⟩:=Qdo hev lo;obtain⟨h1,h2⟩:=Qdo hev hi;have:=(Yri (w0:=w) (Sw:=Sw) htab hm (hev x) l1 l2 h1 h2 h).toN;simpa[execOp,ho]using this
  ·rename_i m;obtain⟨l1,l2⟩:=Qdo hev lo;obtain⟨h1,h2⟩:=Qdo hev hi;obtain⟨v',hr,y,hy,hk⟩:=Zeo htab (hev x) l1 l2 h1 h2 (hev m) h;have:=Zt.toN (Sw:=Sw) ⟨v',y,hk,hy,fun w _=>hr w⟩;simpa[execOp,ho]using this
 ·rename_i t x f ho;have:=(Ypu (w0:=w) (Sw:=Sw) htab hm (hev x) h).toN;simpa[execOp,ho]using this
 ·rename_i t x f ho;split at h
  ·rename_i l e;have hx:=hev x;rw[e]at hx;have:=(Zoj (w0:=w) (Sw:=Sw) htab hm hx h).toN;simpa[execOp,ho]using this
  ·exact Qd5 (w0:=w) (Sw:=Sw) hm hev h
 ·rename_i t x ix ho;have:=(Yhp (w0:=w) (Sw:=Sw) htab hm (hev x) (hev ix) h).toN;simpa[execOp,ho]using this
 ·rename_i t m k ok ho;have:=(Zui (w0:=w) (Sw:=Sw) htab hm hR (hev m) (hev k) (fun s e=>by rw[Zuw ho]at hdyn;rw[e]at hdyn;simpa using hdyn) h).toN;simpa[execOp,ho]using this
 ·rename_i ho;exact absurd hk (by simp[J8,ho])
 ·rename_i ho;exact absurd hk (by simp[J8,ho])
 ·rename_i ho;exact absurd hk (by simp[J8,ho])
 ·rename_i ho;exact absurd hk (by simp[J8,ho])
 ·rename_i ho;exact absurd hk (by simp[J8,ho])
 ·rename_i ho;exact absurd hk (by simp[J8,ho])
 ·rename_i ho;exact absurd hk (by simp[J8,ho])
 ·rename_i x i ho;split at h
  ·rename_i l e;have hx:=hev x;rw[e]at hx;cases hv:va x with
   |tuple cs=>
    rw[hv]at hx;cases hx with
    |tup _ _ hl hr=>
     split at h
     ·rename_i y hy;have hlt:i<cs.size:=by have:=(C.1 hy).1;omega
      exact Xp.same (v:=cs[i]) (fun w _=>by simp[execOp,ho,hv,Instr.extract,hlt]) (hr i _ y (by simp[hlt]) hy) h
     ·exact h.elim
   |_=>rw[hv]at hx;cases hx
  ·exact Qd5 (w0:=w) (Sw:=Sw) hm hev h
 ·rename_i ho;exact absurd hk (by simp[J8,ho])
 ·rename_i args argTypes ho;split at h
  ·rename_i x t ea et;have ea':args= #[x]:=by rw[<-QC (xs:=args),ea]
   have et':argTypes= #[t]:=by rw[<-QC (xs:=argTypes),et]
   subst ea';subst et';have:=(Zp6 (w0:=w) (Sw:=Sw) (ty:=o.type) htab hm (hev x) (fun s e=>by simp[Sx.hdyn,ho,e]at hdyn) h).toN;simpa[execOp,ho,resolve,invoke,builtin]using this
  ·exact h.elim
 ·rename_i ho;exact absurd hk (by simp[J8,ho])
 ·rename_i ho;exact absurd hk (by simp[J8,ho])
 ·rename_i b args argTypes hb1 hb2 hb3 hb4 ho;cases b<;>first
   |exact(hb1 rfl).elim
   |exact(hb2 rfl).elim
   |exact(hb3 rfl).elim
   |exact(hb4 rfl).elim
   |(rw[ho]at hk;cases hk)
 ·exact Qd5 (w0:=w) (Sw:=Sw) hm hev h
 ·exact Qd5 (w0:=w) (Sw:=Sw) hm hev h
 ·rename_i t x ix ho;generalize ex:ev x=sx at h;generalize ei:ev ix=si at h;unfold Qe2 at h;split at h
  ·have hx:=hev x;have hi:=hev ix;rw[ex]at hx;rw[ei]at hi;have ex':=hx.Zq;have ei':=hi.Zq;rename_i k _;obtain⟨v,hk,hr⟩:=Zkb (P:=P) (ev:=ev) (o:=o) (k:=k) (H:=H) (K:=K) htab (by simpa only[Qe2]using h);exact Xp.same (fun w _=>by simp[execOp,ho,ex',ei',hr]) (.pv (.lit v)) hk
  ·exact Qd5 (w0:=w) (Sw:=Sw) hm hev h
 ·exact Qd5 (w0:=w) (Sw:=Sw) hm hev h
 ·exact h.elim
section
variable {R:Option Nat} {P:Program} {ops:Array Oper} {Q:Exit->Act->World->Prop} {md:QS}
def goOp(R:Option Nat)(P:Program)(ops:Array Oper)(Q:Exit->Act->World->Prop)(i:Nat)(K:Act->World->Prop)(a:Act)(w:World):Prop:=
 match ops[i]? with
 |none=>K a w
 |some o=>if Region.wanted o (yielded ops a.tmps)then Vy o.op=true∧o.wpIn (FW R) 0 P a w K Q else K (a.put o.dst undef) w
theorem Zfz{o:Oper}{a:Act}{w:World}{K K':Act->World->Prop}(h:∀a w,K a w->K' a w)(hh:o.wpIn (FW R) 0 P a w K Q):o.wpIn (FW R) 0 P a w K' Q:=by
 refine⟨hh.1,?_⟩;have h2:=hh.2;generalize (o.semAt (FW R).round a.eval).run P w=r at*;cases r with
 |ok n w'=>
  cases n<;>simp only[Oper.uponIn]at h2⊢ <;>
   first
    |exact h _ _ h2
    |exact⟨h2.1,CallsIn.mono h2.2 (fun e w'' he=>by cases e<;>first|exact h _ _ he|exact he)⟩
    |exact⟨h2.1,RoundIn.mono h2.2 (fun e w'' he=>by cases e<;>first|exact h _ _ he|exact he)⟩
    |exact⟨h2.1,RowsIn.mono h2.2 (fun _ _ he=>h _ _ he)⟩
 |halt x w'=>cases x<;>simp only[Oper.uponIn]at h2⊢ <;>exact h2
theorem Zhp{i:Nat}{a:Act}{w:World}{K K':Act->World->Prop}(h:∀a w,K a w->K' a w)(hh:goOp R P ops Q i K a w):goOp R P ops Q i K' a w:=by
 unfold goOp at*;split
 ·exact h _ _ (by simpa[*]using hh)
 ·rename_i o ho;simp only[ho]at hh;split
  ·rename_i hw;simp only[hw,if_true]at hh;exact⟨hh.1,Zfz h hh.2⟩
  ·rename_i hw;simp only[hw]at hh;exact h _ _ hh
theorem YieldsIf.goOp{S:World->Prop}{i:Nat}{o:Oper}{v:Value}{a:Act}(hi:ops[i]? =some o)(hd:Vy o.op=true)(hy:YieldsIf P ops S o v a)
  {K:Act->World->Prop} {w:World} (hS:S w) (h:K (a.put o.dst v) w):goOp R P ops Q i K a w:=by
 unfold Sx.goOp;simp only[hi];rcases hy with⟨hw,hv⟩|⟨hw,rfl⟩
 ·simp only[hw,if_true];exact⟨hd,Qed.wpIn hd (N:=fun u w'=>u=v∧w'=w) (.inl ⟨v,w,.inl (hv w hS),rfl,rfl⟩) fun u w' ⟨e,e'⟩=>by subst e;subst e';exact h⟩
 ·simp only[hw,Bool.false_eq_true,if_false];exact h
theorem Zu7{S:World->Prop}{j:Nat}{oi oj:Oper}{v:Value}(hj:ops[j]? =some oj)(hap:oi.apart ops oj=true)
  (hsi:∀cs b,oi.op≠.select cs b) (hsj:∀cs b,oj.op≠.select cs b)
  (hQ:∀c a w,Q (.panic c) (a.put oi.dst v) w->Q (.panic c) a w) {K:Act->World->Prop} {a:Act} {w:World}
  (hy:YieldsIf P ops S oi v a) (h:goOp R P ops Q j K (a.put oi.dst v) w):
  goOp R P ops Q j (fun a' w'=>YieldsIf P ops S oi v a'∧K (a'.put oi.dst v) w') a w:=by
 obtain⟨h1,h2,h3⟩:=Oper.apart_spec hap;have keep:∀(a:Act),YieldsIf P ops S oi v a->∀u,YieldsIf P ops S oi v (a.put oj.dst u):=fun a hy u=>
  hy.of_same (execOp_put oi hsi a oj.dst u h3) (wanted_put oi a oj.dst u h3)
 have keepD:∀d,YieldsIf P ops S oi v {a with defers:=d::a.defers}:=fun d=>hy.of_same rfl rfl;unfold goOp at*;simp only[hj]at*;rw[wanted_put oj a oi.dst v h1]at h;split
 ·rename_i hw;simp only[hw,if_true]at h;obtain⟨hd,h⟩:=h;refine⟨hd,fun _ _=>trivial,?_⟩;have h:=h.2;have hs:∀Z,oj.semAt (FW R).round Z=execOp Z oj:=fun Z=>Oper.semAt_eq _ Z oj fun c hc=>by rw[hc]at hd;cases hd
  rw[hs]at h⊢;rw[execOp_put oj hsj a oi.dst v h1]at h;generalize (execOp a.eval oj).run P w=r at*;cases r with
  |ok n w'=>
   cases n<;>simp only[Oper.uponIn]at h⊢
   case value u=>exact⟨keep a hy u,by rw[<-ZT a v u h2];exact h⟩
   case skip=>exact⟨keep a hy _,by rw[<-ZT a v undef h2];exact h⟩
   case defer d=>
    refine⟨keep _ (keepD d) _,?_⟩;rw[<-ZT _ v undef h2,<-Act.put_defers];exact h
   case enter f args=>
    refine⟨h.1,CallsIn.mono h.2 fun e w'' he=>?_⟩;cases e with
    |returned u=>exact⟨keep a hy u,by rw[<-ZT a v u h2];exact he⟩
    |panicked c=>exact hQ _ _ _ he
    |outgrown=>exact he
   case round=>
    refine⟨h.1,RoundIn.mono h.2 fun e w'' he=>?_⟩;cases e with
    |returned u=>exact⟨keep a hy u,by rw[<-ZT a v u h2];exact he⟩
    |panicked c=>exact hQ _ _ _ he
    |outgrown=>exact he
   case row row args=>exact⟨h.1,RowsIn.mono h.2 fun u w'' he=>⟨keep a hy u,by rw[<-ZT a v u h2];exact he⟩⟩
  |halt x w'=>
   cases x<;>simp only[Oper.uponIn]at h⊢
   case panic u=>exact hQ _ _ _ h
 ·rename_i hw;simp only[hw]at h;exact⟨keep a hy _,by rw[<-ZT a v undef h2];exact h⟩
def Qhk(md:QS)(o:Oper)(i:Nat):Bool:=o.after.any fun e=>QN md e&&Nat.beq e.on i
def waits(md:QS)(ops:Array Oper)(j i:Nat):Bool:=match ops[j]? with
 |some o=>Qhk md o i
 |none=>false
abbrev Qia:=List (Nat×(World->Prop))
def Qco(R:Option Nat)(P:Program)(md:QS)(ops:Array Oper)(Q:Exit->Act->World->Prop):Nat->Array Bool->Act->World->(World->Prop)->Qia->Prop
 |0,listed,a,w,S,L=>J md ops listed=[]∧Q .normal a w
 |fuel+1,listed,a,w,S,L=>
  (J md ops listed=[]->Q .normal a w)∧
  ∀j∈J md ops listed,goOp R P ops Q j (fun a' w'=>∃S':World->Prop,(∀u,S' u->S u)∧S' w'∧(∀p∈L,waits md ops j p.1=false->p.2 w')∧
   Qco R P md ops Q fuel (listed.setIfInBounds j true) a' w' S' (L.filter fun p=>!waits md ops j p.1)) a w
theorem Ylf:∀(fuel t:Nat) (listed:Array Bool) (a:Act) (w:World) (S:World->Prop) (L:Qia),Qco R P md ops Q fuel listed a w S L->
  wpOpsIn (FW R) 0 P ops Q (ZU md ops fuel t listed []) a w:=by
 intro fuel;induction fuel with
 |zero=>intro t listed a w S L h;simpa[ZU,wpOpsIn]using h.2
 |succ fuel ih=>
  intro t listed a w S L h;obtain⟨h₀,h₁⟩:=h;simp only[ZU];change wpOpsIn (FW R) 0 P ops Q (match(J md ops listed)[t%(J md ops listed).length]? with
   |some i=>ZU md ops fuel (t/(J md ops listed).length) (listed.setIfInBounds i true) [i]
   |none=>[].reverse) a w
  cases hi:(J md ops listed)[t%(J md ops listed).length]? with
  |none=>
   have hnil:J md ops listed=[]:=by
    cases hr:J md ops listed with
    |nil=>rfl
    |cons x xs=>rw[hr]at hi;have hlt:t%(x::xs).length<(x::xs).length:=Nat.mod_lt _ (by simp);simp at hi;simp at hlt;omega
   simpa[wpOpsIn]using h₀ hnil
  |some i=>
   simp only[];rw[linearise_go_acc,List.reverse_singleton,List.singleton_append];have h2:=h₁ i (QT hi);simp only[wpOpsIn];unfold goOp at h2;split
   ·rename_i e;simp only[e]at h2;obtain⟨S',_,_,_,h3⟩:=h2;exact ih _ _ _ _ _ _ h3
   ·rename_i o e;simp only[e]at h2;split
    ·rename_i hw;rw[if_pos hw]at h2;exact Zfz (fun a' w' ⟨S',_,_,_,h3⟩=>ih _ _ _ _ _ _ h3) h2.2
    ·rename_i hw;rw[if_neg hw]at h2;obtain⟨S',_,_,_,h3⟩:=h2;exact⟨fun _ _=>trivial,ih _ _ _ _ _ _ h3⟩
theorem Qi5:∀{fuel:Nat} {listed:Array Bool} {a:Act} {w:World} {S S2:World->Prop} {L L2:Qia},(∀u,S2 u->S u)->(∀p∈L,(∀u,p.2 u)∨∃q∈L2,q.1=p.1∧∀u,q.2 u->p.2 u)->
  Qco R P md ops Q fuel listed a w S2 L2->Qco R P md ops Q fuel listed a w S L
 |0,_,_,_,_,_,_,_,_,_,h=>h
 | fuel + 1,_,_,_,_,_,L,L2,hs,hl,h=>⟨h.1,fun j hj=>Zhp (fun a' w' ⟨S',h1,h2,h3,h4⟩=>by
   refine⟨S',fun u hu=>hs u (h1 u hu),h2,fun p hp hw=>?_,Qi5 (fun u hu=>hu) (fun p hp=>?_) h4⟩
   ·rcases hl p hp with h|⟨q,hq,e,hi⟩
    ·exact h w'
    ·exact hi w' (h3 q hq (by rw[e];exact hw))
   ·obtain⟨hp1,hp2⟩:=ZB.1 hp;rcases hl p hp1 with h|⟨q,hq,e,hi⟩
    ·exact .inl h
    ·exact .inr ⟨q,ZB.2 ⟨hq,by rw[e];exact hp2⟩,e,hi⟩) (h.2 j hj)⟩
theorem YieldsIf.less{S S':World->Prop}(hs:∀u,S' u->S u){o:Oper}{v:Value}{a:Act}(h:YieldsIf P ops S o v a):YieldsIf P ops S' o v a:=
 h.imp (fun⟨h1,h2⟩=>⟨h1,fun w hw=>h2 w (hs w hw)⟩) id
theorem Ynx{i:Nat}{oi:Oper}{v:Value}(hi:ops[i]? =some oi)(hdi:Vy oi.op=true)(hsel:∀(j:Nat) (o:Oper) cs b,ops[j]? =some o->o.op≠.select cs b)
  (hQ:∀c a w,Q (.panic c) (a.put oi.dst v) w->Q (.panic c) a w):
  ∀(fuel:Nat) (listed:Array Bool) (a:Act) (w:World) (S T:World->Prop) (L:Qia),
   (∀j oj,ops[j]? =some oj->j≠i->listed.getD j true=false->(∀e∈oj.after,QN md e=true->e.on≠i)->oi.apart ops oj=true)->
   i∈J md ops listed->YieldsIf P ops (fun u=>S u∧T u) oi v a->S w->T w->(∀p∈L,p.2 w)->
   Qco R P md ops Q fuel (listed.setIfInBounds i true) (a.put oi.dst v) w S ((i,T)::L)->Qco R P md ops Q (fuel+1) listed a w S L:=by
 intro fuel;induction fuel with
 |zero=>
  intro listed a w S T L _ hr hy hS hT hL H;refine⟨fun h=>(by rw[h]at hr;cases hr),fun j hj=>?_⟩;by_cases hji:j=i
  ·subst hji;exact YieldsIf.goOp hi hdi hy ⟨hS,hT⟩ ⟨S,fun _ h=>h,hS,fun p hp _=>hL p hp,H⟩
  ·have:=ready_mono hj hji;rw[H.1]at this;cases this
 |succ fuel ih=>
  intro listed a w S T L hfree hr hy hS hT hL H;refine⟨fun h=>(by rw[h]at hr;cases hr),fun j hj=>?_⟩;by_cases hji:j=i
  ·subst hji;refine YieldsIf.goOp hi hdi hy ⟨hS,hT⟩ ⟨S,fun _ h=>h,hS,fun p hp _=>hL p hp,Qi5 (fun _ h=>h) (fun p hp=>?_) H⟩;exact .inr ⟨p,ZC _ (ZB.1 hp).1,rfl,fun _ h=>h⟩
  ·have h1:=H.2 j (ready_mono hj hji);obtain⟨hjun,oj,hoj,hall⟩:=mem_ready.1 hj;have hnot:∀e∈oj.after,QN md e=true->e.on≠i:=fun e he hb heq=>by
    have h1:=hall e he hb;have h0:=(mem_ready.1 hr).1;rw[heq]at h1;rcases QW i listed.size with h'|h'
    ·simp[h']at h0 h1;rw[h0]at h1;cases h1
    ·simp[Array.getElem?_eq_none h']at h1
   have hw:waits md ops j i=false:=by unfold waits Qhk;simp only[hoj];rw[Array.any_eq_false'];intro e he h;simp only[ZF]at h;exact hnot e he h.1 (QR h.2)
   have h2:=Zu7 hoj (hfree j oj hoj hji hjun hnot) (fun cs b=>hsel i oi cs b hi) (fun cs b=>hsel j oj cs b hoj) hQ hy h1;have hfree':∀k ok,ops[k]? =some ok->k≠i->(listed.setIfInBounds j true).getD k true=false->
     (∀e∈ok.after,QN md e=true->e.on≠i)->oi.apart ops ok=true:=fun k ok hk hki hun hno=>by
    refine hfree k ok hk hki ?_ hno;by_cases hjk:j=k
    ·subst hjk;exact hjun
    ·rw[getD_set_ne true hjk]at hun;exact hun
   refine Zhp (fun a' w' h3=>?_) h2;obtain⟨h4,S',h5,h6,h7,h8⟩:=h3;refine⟨S',h5,h6,fun p hp=>h7 p (ZC _ hp),ih (listed.setIfInBounds j true) a' w' S' T _ hfree' (ready_mono hr (Ne.symm hji)) (YieldsIf.less (fun u hu=>⟨h5 u hu.1,hu.2⟩) h4) h6 (h7 _ ZH hw) (fun p hp=>?_) ?_⟩
   ·obtain⟨hp1,hp2⟩:=ZB.1 hp;exact h7 p (ZC _ hp1) (by simpa using hp2)
   ·rw[Array.setIfInBounds_comm _ _ hji];rw[List.filter_cons,if_pos (by simp[hw])]at h8;exact h8
theorem Zgu{i:Nat}{oi:Oper}{v:Value}{fuel:Nat}{listed:Array Bool}{a:Act}{w:World}{S T:World->Prop}{L:Qia}(hi:ops[i]? =some oi)(hdi:Vy oi.op=true)
  (hs:QP ops=true) (hf:XC md ops listed i=true) (hr:i∈J md ops listed)
  (hQ:∀c a w,Q (.panic c) (a.put oi.dst v) w->Q (.panic c) a w) (hy:YieldsIf P ops (fun u=>S u∧T u) oi v a) (hS:S w) (hT:T w) (hL:∀p∈L,p.2 w)
  (h:Qco R P md ops Q fuel (listed.setIfInBounds i true) (a.put oi.dst v) w S ((i,T)::L)):Qco R P md ops Q (fuel+1) listed a w S L:=
 Ynx hi hdi (Region.noSelect_spec hs) hQ fuel listed a w S T L (Region.free_spec hi hf) hr hy hS hT hL h
end
def Qpp(M:Qd)(u:World):Prop:=∀b o,M b=some o->u.heap[b]? =some o
def Qbb(Z:Env)(R:List Nat)(w u:World):Prop:=∀s∈R,∀p,Z s=some p->u.heap[p.block]? =w.heap[p.block]?
def Uz(ev:Operand->SV)(o:Oper):List Nat:=match o.op with
 |.load _ a=>match ev a with
  |.ptr s ..=>[s]
  |_=>[]
 |.lookup _ m _ _=>match ev m with
  |.mp s=>[s]
  |_=>[]
 |_=>[]
def Qi2(H:List Qb)(s:Nat):Bool:=match H[s]? with
 |some o=>o.live
 |none=>false
def Qx4(hl:Bool)(ops:Array Oper)(listed:Array Bool):Option Nat:=
 (J .any ops listed).find? fun i=>match ops[i]? with
  |some o=>J8 o.op&&(hl||(match o.op with|.load ..=>false|.lookup ..=>false|_=>true))&&XC .any ops listed i
  |none=>false
def keeps(o:Oper)(pend:List (Nat×List Nat))(tch fg:List Nat):Bool:=
 pend.all fun q=>Qhk .any o q.1||q.2.all fun r=>!tch.contains r&& !fg.contains r
def Vg(o:Oper)(pend:List (Nat×List Nat)):List (Nat×List Nat):=pend.filter fun q=>!Qhk .any o q.1
def Qij(i:Nat)(R:List Nat)(pend:List (Nat×List Nat)):List (Nat×List Nat):=match R with
 |[]=>pend
 |_=>(i,R)::pend
def Vw(cx:Cx)(nt:Nat)(hl:Bool)(ops:Array Oper):Nat->Array Bool->List (Nat×List Nat)->St->(St->Prop)->Prop
 |0,listed,pend,s,K=>J .any ops listed=[]∧K s
 |fuel+1,listed,pend,s,K=>match Qx4 hl ops listed with
  |some i=>match ops[i]? with
   |none=>False
   | some o=>Wk nt o.dst = true ∧ Qci ops o s
     (fun s'=>((Uz s'.ev o).all (Qi2 s'.H) && hdyn (Uz s'.ev o) s'.ev o) = true ∧
      (sop cx.P cx.tab s'.H s'.ev o).holds s'.H fun x _ _ _=>Vw cx nt hl ops fuel (listed.setIfInBounds i true) (Qij i (Uz s'.ev o) pend) (s'.put o.dst x) K)
     (fun s'=>Vw cx nt hl ops fuel (listed.setIfInBounds i true) pend (s'.put o.dst (.lit undef)) K)
  |none=>match J .any ops listed with
   |[]=>K s
   |r::rs=>∀i∈r::rs,match ops[i]? with
    |none=>False
    | some o=>Qci ops o s
      (fun s'=>Vy o.op=true∧opP cx s'.ev s'.H o fun x H tch fg=>(keeps o pend tch fg=true∧s'.adv nt o.dst (fun s''=>Vw cx nt hl ops fuel (listed.setIfInBounds i true) (Vg o pend) s'' K) x H tch fg))
      (fun s'=>Wk nt o.dst=true∧Vw cx nt hl ops fuel (listed.setIfInBounds i true) (Vg o pend) (s'.put o.dst (.lit undef)) K)
theorem Y2.put{M:Qd}{Z:Env}{s:St}{w:World}(dst:Option Tmp)(x:SV):Y2 M Z s w M Z (s.put dst x) w:=by
 cases dst with
 |none=>exact Y2.refl ..
 |some d=>exact⟨Fr.refl ..,rfl,fun _ h=>h,fun _ h=>h⟩
theorem put_H(s:St)(dst:Option Tmp)(x:SV):(s.put dst x).H=s.H:=rfl
def Qow(Z:Env)(w:World)(pend:List (Nat×List Nat)):Qia:=pend.map fun q=>(q.1,Qbb Z q.2 w)
theorem Qbb.self(Z:Env)(R:List Nat)(w:World):Qbb Z R w w:=fun _ _ _ _=>rfl
theorem Zbm{o:Oper}(h:J8 o.op=true):Vy o.op=true:=by cases e:o.op<;>rw[e]at h<;>first|rfl|cases h
theorem Znx{cx:Cx}(hcx:cx.Ok){R:Option Nat}{B:Nat->Value}{nt:Nat}{hl:Bool}{ops:Array Oper}(hns:QP ops=true){M0:Qd}{ρ0:Env}{s0:St}{w0:World}{K:St->Prop}:
  ∀(fuel:Nat) (listed:Array Bool) (pend:List (Nat×List Nat)) (s:St) (M:Qd) (Z:Env) (a:Act) (w:World),Vw cx nt hl ops fuel listed pend s K->Good B nt M Z s a w->Y2 M0 ρ0 s0 w0 M Z s w->
   (∀q∈pend,∀r∈q.2,Qi2 s.H r=true)->
   Qco R cx.P .any ops (fun e a' w'=>e=.normal∧∃M' Z' s',K s'∧Good B nt M' Z' s' a' w'∧Y2 M0 ρ0 s0 w0 M' Z' s' w') fuel listed a w (Qpp M) (Qow Z w pend):=by
 intro fuel;induction fuel with
 |zero=>intro listed pend s M Z a w h hg go _;exact⟨h.1,rfl,M,Z,s,h.2,hg,go⟩
 |succ fuel ih=>
  intro listed pend s M Z a w h hg go hR;have selfL:∀p∈Qow Z w pend,p.2 w:=fun p hp=>by obtain⟨q,_,rfl⟩:=ZY.1 hp;exact Qbb.self Z q.2 w
  unfold Vw at h;split at h
  ·rename_i i hp;have hmem:=List.mem_of_find?_eq_some hp;have hcond:=List.find?_some hp;split at h
   ·exact h.elim
   ·rename_i o ho;simp only[ho,ZF]at hcond;obtain⟨⟨hk,_⟩,hfree⟩:=hcond;obtain⟨hdst,h⟩:=h;rcases Qzs hg h with⟨hw,s',⟨hb,hrun⟩,hg',go',hH⟩|⟨hw,s',hskip,hg',go',hH⟩
    ·simp only[ZF]at hb;obtain⟨hlv,hdyn'⟩:=hb;obtain⟨v,x,hk',hx,hr⟩:=Ycz (Sw:=fun u=>Qpp M u∧Qbb Z (Uz s'.ev o) w u) hcx.tab hg'.mem (fun x=>hg'.ev x) (fun u hu=>hu.1) (fun u hu=>hu.2) hk hdyn' hrun;refine Zgu (T:=Qbb Z (Uz s'.ev o) w) ho (Zbm hk) hns hfree hmem (fun c a w hq=>(by cases hq.1)) (.inl ⟨hw,hr⟩) hg.mem.imm (Qbb.self Z _ w) selfL ?_;refine Qi5 (L2:=Qow Z w (Qij i (Uz s'.ev o) pend)) (fun _ h=>h) (fun p hp=>?_) (ih _ _ _ M Z _ w hk' (hg'.put hdst hx) ((go.trans go').trans (Y2.put _ _)) fun q hq r hr'=>?_)
     ·unfold Qij;rcases QB.1 hp with rfl|hp
      ·split
       ·rename_i e;refine .inl fun u=>?_;show Qbb Z (Uz s'.ev o) w u;rw[e];intro r hr;cases hr
       ·exact .inr ⟨_,ZH,rfl,fun _ h=>h⟩
      ·split
       ·exact .inr ⟨p,hp,rfl,fun _ h=>h⟩
       ·exact .inr ⟨p,ZC _ hp,rfl,fun _ h=>h⟩
     ·rw[put_H];have hold:∀q∈pend,∀r∈q.2,Qi2 s'.H r=true:=fun q hq r hr'=>by rw[hH];exact hR q hq r hr'
      unfold Qij at hq;split at hq
      ·exact hold q hq r hr'
      ·rcases QB.1 hq with rfl|hq
       ·exact ZZ.1 hlv r hr'
       ·exact hold q hq r hr'
    ·refine Zgu (v:=undef) (T:=fun _=>True) ho (Zbm hk) hns hfree hmem (fun c a w hq=>(by cases hq.1)) (.inr ⟨hw,rfl⟩) hg.mem.imm trivial selfL ?_;refine Qi5 (L2:=Qow Z w pend) (fun _ h=>h) (fun p hp=>?_) (ih _ _ _ M Z _ w hskip (hg'.put hdst (.pv (.lit _))) ((go.trans go').trans (Y2.put _ _)) fun q hq r hr'=>?_)
     ·rcases QB.1 hp with rfl|hp
      ·exact .inl fun _=>trivial
      ·exact .inr ⟨p,hp,rfl,fun _ h=>h⟩
     ·rw[put_H,hH];exact hR q hq r hr'
  ·split at h
   ·rename_i hr;exact⟨fun _=>⟨rfl,M,Z,s,h,hg,go⟩,fun i hi=>by rw[hr]at hi;cases hi⟩
   ·rename_i r0 rs hr;refine⟨fun hn=>(by rw[hr]at hn;cases hn),fun i hi=>?_⟩;rw[hr]at hi;have h:=h i hi;split at h
    ·exact h.elim
    ·rename_i o ho;unfold goOp;simp only[ho];have hwt:∀k,waits .any ops i k=Qhk .any o k:=fun k=>by unfold waits;simp only[ho]
     rcases Qzs hg h with⟨hw,s',⟨hd,hrun⟩,hg',go',hH⟩|⟨hw,s',⟨hdst,hskip⟩,hg',go',hH⟩
     ·rw[if_pos hw];refine⟨hd,(Zfw hcx hg'.mem (fun x=>hg'.ev x) hrun).wpIn hd ?_⟩
      rintro v w' ⟨x,H',tch,fg,M',Z',⟨hdis,hadv⟩,hx,hm,hf⟩
      obtain⟨sn,hk,hsn,g1,g2⟩:=Zjd hg' hadv hx hm hf;have keepR:∀q∈pend,Qhk .any o q.1=false->∀r∈q.2,(∃o',H'[r]? =some o'∧o'.live=true)∧∀p,Z r=some p->Z' r=some p∧w'.heap[p.block]? =w.heap[p.block]? :=fun q hq hwq r hr'=>by
       suffices hh:(∃o',H'[r]? =some o'∧o'.live=true)∧∀p,Z r=some p->Z' r=some p∧∀b,p.has b->w'.heap[b]? =w.heap[b]? from⟨hh.1,fun p hp=>⟨(hh.2 p hp).1,(hh.2 p hp).2 _ p.self⟩⟩
       have h0:=ZZ.1 hdis q hq;rw[hwq,Bool.false_or]at h0;have h1:=ZZ.1 h0 r hr';simp only[ZF,ZX,List.contains_eq_mem,decide_eq_false_iff_not]at h1;have h2:=hR q hq r hr';unfold Qi2 at h2;rw[<-hH]at h2;split at h2
       ·rename_i o' ho';exact hf.keep r o' (C.1 ho').1 h1.1 ho' h2
       ·cases h2
      refine⟨Qpp M',fun u hu b ob hb=>hu b ob (hf.imm b ob hb),hm.imm,fun p hp hwp=>?_,?_⟩
      ·obtain⟨q,hq,rfl⟩:=ZY.1 hp;rw[hwt]at hwp;exact fun r hr' p hp'=>((keepR q hq hwp r hr').2 p hp').2
      ·refine Qi5 (fun _ h=>h) (fun p hp=>?_) (ih _ _ _ M' Z' _ w' hk g1 ((go.trans go').trans g2) fun q hq r hr'=>?_)
       ·obtain⟨hp1,hp2⟩:=ZB.1 hp;obtain⟨q,hq,rfl⟩:=ZY.1 hp1;simp only[hwt,ZX]at hp2;refine .inr ⟨(q.1,Qbb Z' q.2 w'),ZY.2 ⟨q,ZB.2 ⟨hq,by simp[hp2]⟩,rfl⟩,rfl,fun u hu r hr' p hp'=>?_⟩;obtain⟨_,h2⟩:=keepR q hq hp2 r hr';obtain⟨h3,h4⟩:=h2 p hp';rw[hu r hr' p h3,h4]
       ·obtain⟨hq1,hq2⟩:=ZB.1 hq;obtain⟨⟨o',h1,h2⟩,_⟩:=keepR q hq1 (by simpa using hq2) r hr';rw[hsn];simp[Qi2,h1,h2]
     ·rw[if_neg (by simp[hw])];refine⟨Qpp M,fun _ h=>h,hg.mem.imm,fun p hp _=>selfL p hp,?_⟩;refine Qi5 (fun _ h=>h) (fun p hp=>?_) (ih _ _ _ M Z _ w hskip (hg'.put hdst (.pv (.lit _))) ((go.trans go').trans (Y2.put _ _)) fun q hq r hr'=>?_)
      ·obtain⟨hp1,hp2⟩:=ZB.1 hp;obtain⟨q,hq,rfl⟩:=ZY.1 hp1;simp only[hwt,ZX]at hp2;exact .inr ⟨(q.1,Qbb Z q.2 w),ZY.2 ⟨q,ZB.2 ⟨hq,by simp[hp2]⟩,rfl⟩,rfl,fun _ h=>h⟩
      ·rw[put_H,hH];exact hR q (ZB.1 hq).1 r hr'
theorem Mem.of_heap{M:Qd}{Z:Env}{H:List Qb}{w w':World}(hw:w'.heap=w.heap)(h:Mem M Z H w):Mem M Z H w':=
 ⟨fun b o hb=>by rw[hw];exact h.imm b o hb,fun s o ho=>(h.own s o ho).mono M.le_refl Z.le_refl rfl fun p _ _ _=>by rw[hw],h.seps,h.diss,h.fresh,fun s o p b a c d e=>by rw[hw];exact h.lts s o p b a c d e⟩
theorem Fr.of_heap{M:Qd}{Z:Env}{H:List Qb}{w w':World}(hw:w'.heap=w.heap)(n:Nat)(t f:List Nat)(io:w'.os=w.os∧w'.output=w.output:=by exact⟨rfl,rfl⟩):Fr M Z H w M Z H w' n t f:=
 ⟨M.le_refl,fun b o h h'=>by(rw[h]at h';cases h'),fun b h=>.inr h,fun _ _ _=>by rw[hw],by rw[hw];exact ZK _,fun _ o _ _ h hl=>⟨⟨o,h,hl⟩,fun _ hp=>⟨hp,fun _ _=>by rw[hw]⟩⟩,fun _ _ _=>rfl,io⟩
theorem Zd3{cx:Cx}(hcx:cx.Ok){R:Option Nat}{nt id:Nat}{hl:Bool}{ops:Array Oper}{Q:Exit->St->Prop}{s:St}(hns:QP ops=true)
  (h:Vw cx nt hl ops ops.size (QQ ops.size false) [] s (Q .normal)):Zl R cx.P nt (.region id ops true) Q s:=by
 intro B M Z a w hg;refine wpIn_mono (wpIn_region_draw (Q:=fun e a' w'=>e=.normal∧∃M' Z' s',Q .normal s'∧Good B nt M' Z' s' a' w'∧Y2 M Z s w M' Z' s' w') fun t=>?_) ?_
 ·simp only[Region.schedule,hcx.mix,Bool.true_or,if_true];exact Ylf ops.size t _ a _ _ _ (Znx hcx hns (M0:=M) (ρ0:=Z) (s0:=s) (w0:=w) _ _ _ s M Z a {w with drawn:=w.drawn+1} h
   ⟨hg.tm,hg.sz,Mem.of_heap (w:=w) rfl hg.mem,hg.df,hg.mks,hg.nle,hg.fix⟩ ⟨Fr.of_heap (w:=w) (w':={w with drawn:=w.drawn+1}) rfl _ _ _,rfl,fun _ h=>h,fun _ h=>h⟩ (fun q hq=>by cases hq))
 ·rintro e a' w' ⟨rfl,M',Z',s',hk,g,go⟩
  exact⟨M',Z',s',hk,g,go⟩
end Go.Sx
end
namespace Go.Sx
open Go
def Qd0:TT->Nat->List SV->TT
 |T,_,[]=>T
 |T,i,x::xs=>Qd0 (T.set i x) (i+1) xs
theorem Qvm:∀(xs:List SV) (T:TT) (i t:Nat) (x:SV),(∀t x,T.get t=some x->t<i)->(Qd0 T i xs).get t=some x->T.get t=some x∨(i<=t∧xs[t-i]? =some x)
 |[],T,i,t,x,_,h=>.inl h
 |y::xs,T,i,t,x,hT,h=>by
  rcases Qvm xs (T.set i y) (i+1) t x (fun t x h=>by
    rcases TT.Kv _ _ _ _ _ h with⟨e,_⟩|⟨_,h⟩
    ·omega
    ·have:=hT t x h;omega) h with h|⟨h1,h2⟩
  ·rcases TT.Kv _ _ _ _ _ h with⟨rfl,rfl⟩|⟨_,h⟩
   ·exact .inr ⟨ZK _,by simp⟩
   ·exact .inl h
  ·refine .inr ⟨by omega,?_⟩;rw[show t-i=(t-(i+1))+1 by omega];simpa using h2
def St.entry(args:List SV)(H:List Qb):St:={T:=Qd0 (.full 8) 0 args,H:=H,n0:=H.length,tch:=[],fg:=[],marks:=[],er:=[]}
theorem Good.entry{M:Qd}{Z:Env}{H:List Qb}{w:World}{vs:List Value}{args:List SV}{nt:Nat}(hm:Mem M Z H w)(hr:J0 M Z vs args)(hn:args.length<=nt):
  Good (fun t=>(vs.toArray++QQ (nt-vs.toArray.size) undef).getD t undef) nt M Z (.entry args H) {tmps:=vs.toArray++QQ (nt-vs.toArray.size) undef,defers:=[]} w:=by
 refine⟨fun t x hx=>?_,?_,hm,⟨rfl,fun i d s h=>by simp at h⟩,fun m h=>by simp[St.entry]at h,ZK _,fun _ _=>rfl⟩
 ·rcases Qvm args (.full 8) 0 t x (fun t x h=>by rw[TT.Qg8]at h;cases h) hx with h2|⟨_,h2⟩
  ·rw[TT.Qg8]at h2;cases h2
  simp only[Nat.sub_zero]at h2;have hlt:t<args.length:=(C.1 h2).1;have hlt':t<vs.length:=by rw[hr.1];exact hlt
  refine hr.2 t _ x ?_ h2;simp[ZP,hlt',Array.getElem?_append]
 ·have:=hr.1;simp;omega
def Qac(cx:Cx)(s:St):List ResultVar->(List SV->Prop)->Prop
 |[],K=>K []
 |.tmp t::rs,K=>Qac cx s rs fun l=>K (s.ev (.tmp t)::l)
 |.cell a t::rs,K=>(Qdz cx.tab s.H t (s.ev (.tmp a))).holds s.H fun x _ _ _=>Qac cx s rs fun l=>K (x::l)
def X0:List SV->SV
 |[x]=>x
 |l=>.tup l
def Qxv(tmps:Array Value):ResultVar->Sem Value
 |.tmp t=>pure (tmps.getD t undef)
 |.cell a t=>do loadVar t (<-asAddr (tmps.getD a undef))
theorem Ymv(fn:Func)(tmps:Array Value):results fn tmps=(do let vs <-fn.results.mapM (Qxv tmps);pure (if h:vs.size=1 then vs[0]else .tuple vs)):=by unfold results;congr 2
theorem Zjw{α:Type}{P:Program}{w:World}(f:α->Sem Value)(x:α)(xs:List α){v:Value}{vs:List Value}(h:(f x).run P w=.ok v w)(hs:(xs.mapM f).run P w=.ok vs w):((x::xs).mapM f).run P w=.ok (v::vs) w:=by simp only[List.mapM_cons,I,h,U,hs,ZL]
theorem Qw6{cx:Cx}(hcx:cx.Ok){B:Nat->Value}{nt:Nat}{M:Qd}{Z:Env}{s:St}{a:Act}{w:World}(hg:Good B nt M Z s a w):∀(rs:List ResultVar) (K:List SV->Prop),Qac cx s rs K->
  ∃(vs:List Value) (l:List SV),K l∧J0 M Z vs l∧(rs.mapM (Qxv a.tmps)).run cx.P w=.ok vs w
 |[],K,h=>⟨[],[],h,⟨rfl,fun i v x hv=>by simp at hv⟩,by simp⟩
 |.tmp t::rs,K,h=>by
  obtain⟨vs,l,hk,hr,hrun⟩:=Qw6 hcx hg rs _ h;refine⟨a.tmps.getD t undef::vs,_,hk,⟨by simp[hr.1],fun i v x hv hx=>?_⟩,Zjw _ _ _ rfl hrun⟩;match i with
  |0=>simp only[QK,ZQ]at hv hx;subst hv;subst hx;exact hg.ev (.tmp t)
  |i+1=>exact hr.2 i v x (by simpa using hv) (by simpa using hx)
 |.cell a' t::rs,K,h=>by
  have hin:∀s' sz r j,s.ev (.tmp a')=.ptr s' sz r j->s'∈(QM s.H.length):=fun s' sz r j e=>by
   simp only[Qac,e]at h;unfold Qdz at h;split at h
   ·exact h.elim
   ·dsimp only at h;split at h
    ·exact h.elim
    ·rename_i o ho;simp;exact(C.1 ho).1
  obtain⟨v,x,hk,hx,hrun⟩:=Zif (Sw:=fun u=>u=w) hcx.tab hg.mem (fun u hu=>by rw[hu];exact hg.mem.imm) (R:=QM s.H.length) (fun u hu _ _ _ _=>by rw[hu]) (hg.ev (.tmp a')) hin h;have hrun:=hrun w rfl;obtain⟨vs,l,hk2,hr,hrun2⟩:=Qw6 hcx hg rs _ hk;refine⟨v::vs,_,hk2,⟨by simp[hr.1],fun i u y hu hy=>?_⟩,Zjw _ _ _ ?_ hrun2⟩
  ·match i with
   |0=>simp only[QK,ZQ]at hu hy;subst hu;subst hy;exact hx
   |i+1=>exact hr.2 i u y (by simpa using hu) (by simpa using hy)
  ·have e:a.eval (.tmp a')=a.tmps.getD a' undef:=rfl;rw[e]at hrun;show(do loadVar t (<-asAddr (a.tmps.getD a' undef)):Sem Value).run cx.P w=.ok v w;generalize a.tmps.getD a' undef=p at hrun;cases p with
   |pointer q=>cases q with
    |some q=>simpa[ZE,ZG,asAddr,I]using hrun
    |none=>simp[ZE,ZG,I]at hrun
   |_=>simp[ZE,ZG,I]at hrun
theorem Mem.Qnm{M:Qd}{Z:Env}{H:List Qb}{w:World}{s:Nat}{o so:Qb}{p:Place}{ob:Obj}(h:Mem M Z H w)(hs:H[s]? =some o)(hl:o.live=true)(hp:Z s=some p)(hlo:so.live=true)
  (ho:Q6 M Z (w.putObj p.block ob) s so):Mem M Z (H.set s so) (w.putObj p.block ob)∧Fr M Z H w M Z (H.set s so) (w.putObj p.block ob) H.length [s] []:=
 h.put hs hl hp (fun b hb=>ZV hb) World.putObj_size hlo ho
def shut:List Nat->List Qb->Option (List Qb)
 |[],H=>some H
 |m::ms,H=>match H[m]? with
  |some (.dfr false)=>shut ms (H.set m (.dfr true))
  |_=>none
theorem Zer:∀{ms:List Nat} {H H':List Qb},shut ms H=some H'->H'.length=H.length
 |[],H,H',h=>by simp only[shut,ZQ]at h;rw[h]
 |m::ms,H,H',h=>by
  simp only[shut]at h;split at h
  ·rw[Zer h];simp
  ·cases h
theorem Zdj{P:Program}{fn:Func}{tmps:Array Value}{E:Ending->World->Prop}{M:Qd}{Z:Env}{H0:List Qb}{w0:World}{n:Nat}:
  ∀(ms:List Nat) (ds:List Deferred) (H H':List Qb) (w:World),shut ms H=some H'->Mem M Z H w->Qih Z ms ds->n<=H.length->
   (∀w',Mem M Z H' w'->Fr M Z H w M Z H' w' n ms []->LeavesIn QH 0 P fn tmps E [] .returning w')->LeavesInM QH 0 P fn tmps E ds .returning w
 |[],ds,H,H',w,hs,hm,hd,hn,h=>by cases hs;have:ds=[]:=ZD hd.1;subst this;exact h w hm (Fr.refl ..)
 |m::ms,[],H,H',w,hs,hm,hd,hn,h=>by have:=hd.1;simp at this
 |m::ms,d::ds,H,H',w,hs,hm,hd,hn,h=>by
  unfold shut at hs;split at hs
  ·rename_i hH;obtain⟨p,hp,rfl⟩:=hd.2 0 d m rfl rfl;obtain⟨q,h1,h2⟩:=hm.own m _ hH;rw[hp]at h1;cases h1;obtain⟨m1,f1⟩:=hm.Qnm (so:=.dfr true) (ob:=.deferred none) hH rfl hp rfl ⟨p,hp,ZA (ZI.1 h2).1⟩;refine⟨by simp,.inl ⟨p.block,_,rfl,run_takeDeferred h2,?_⟩⟩;refine Zdj (H0:=H0) (w0:=w0) (n:=n) ms ds _ H' _ hs m1 ⟨by have:=hd.1;simpa using this,fun i d s hi hk=>hd.2 (i+1) d s (by simpa using hi) (by simpa using hk)⟩ (by simpa using hn) fun w' hm' hf=>?_;refine h w' hm' ((f1.weaken hn (fun _ _ h=>h) (fun _ _ h=>h)).trans hf (fun x hx=>?_) (fun x hx=>ZC _ hx) (fun x hx=>hx) (fun x hx=>hx));rw[ZO.1 hx];exact ZH
  ·cases hs
theorem Qsy{cx:Cx}(hcx:cx.Ok){f:FuncId}{fn:Func}{c:Code}{args:List SV}{H:List Qb}{K:Qy}(hf:cx.fns.lookup f=some fn)(hb:fn.body=some c)(hn:args.length<=fn.ntmps)
  (h:Zl none cx.P fn.ntmps c (fun e s=>(e=.normal∨e=.ret)∧(H.length<=s.H.length∨s.marks=[])∧∃H',shut s.marks s.H=some H'∧Qac cx {s with H:=H',marks:=[]} fn.results.toList fun l=>K (X0 l) H' s.tch s.fg) (.entry args H)):Xt cx.P f args H K:=by
 intro M Z w vs hm hr;obtain⟨f1,_⟩:=hcx.fn hf;refine callsIn_of_wp_marks f1 hb trivial ?_;have h0:=h _ M Z _ w (Good.entry hm hr hn);rw[Qvb]at h0;refine wpIn_mono h0 ?_
 rintro e a' w' ⟨M',Z',s',⟨he,hlen,H',hshut,hres⟩,hg,go⟩
 have hmk:∀m∈s'.marks,H.length<=m:=fun m hm=>by have:=hg.mks m hm;rw[go.n0]at this;exact this
 have fin:∀w'',Mem M' Z' H' w''->Fr M Z H w M' Z' H' w'' H.length s'.tch s'.fg->LeavesIn QH 0 cx.P fn a'.tmps (fun e w'=>∃v r H' M' Z' tch fg,e=.returned v∧K r H' tch fg∧Qf M' Z' v r∧Mem M' Z' H' w'∧Fr M Z H w M' Z' H' w' H.length tch fg) [] .returning w'':=by
  intro w'' hm'' hfr;have hg':Good _ fn.ntmps M' Z' {s' with H:=H',marks:=[]} {tmps:=a'.tmps,defers:=[]} w'':=⟨hg.tm,hg.sz,hm'',⟨rfl,fun i d s h=>by simp at h⟩,(fun m h=>by simp at h),(show s'.n0<=H'.length by rw[Zer hshut];exact hg.nle),hg.fix⟩;obtain⟨vs',l,hk,hreps,hrun⟩:=Qw6 hcx hg' _ _ hres;have hv:∃v,(results fn a'.tmps).run cx.P w''=.ok v w''∧Qf M' Z' v (X0 l):=by
   have hrun':(fn.results.mapM (Qxv a'.tmps)).run cx.P w''=.ok vs'.toArray w'':=by rw[Array.mapM_eq_mapM_toList,Sem.run_map,hrun];rfl
   refine⟨if h:vs'.toArray.size=1 then vs'.toArray[0]else .tuple vs'.toArray,?_,?_⟩
   ·rw[Ymv,I,hrun'];rfl
   ·obtain⟨hl1,hl2⟩:=hreps;match vs',l,hl1,hl2 with
    |[v],[x],_,hl2=>exact hl2 0 v x rfl rfl
    |[],[],_,hl2=>simp[X0];exact .tup _ _ rfl fun i v x hv=>by simp at hv
    |v::v2::vs,x::y::l,hl1,hl2=>simp[X0];exact .tup _ _ (by simpa using hl1) fun i u z hu hz=>hl2 i u z (by simpa using hu) hz
    |[],_::_,hl1,_=>simp at hl1
    |[_],[],hl1,_=>simp at hl1
    |[_],_::_::_,hl1,_=>simp at hl1
    |_::_::_,[],hl1,_=>simp at hl1
    |_::_::_,[_],hl1,_=>simp at hl1
  obtain⟨v,hv1,hv2⟩:=hv;exact⟨v,hv1,v,_,_,M',Z',_,_,rfl,hk,hv2,hm'',hfr⟩
 have hfr:Fr M Z H w M' Z' s'.H w' H.length s'.tch s'.fg:=go.fr;have out:LeavesInM QH 0 cx.P fn a'.tmps (fun e w'=>∃v r H' M' Z' tch fg,e=.returned v∧K r H' tch fg∧Qf M' Z' v r∧Mem M' Z' H' w'∧Fr M Z H w M' Z' H' w' H.length tch fg) a'.defers .returning w':=by
  by_cases hmk0:s'.marks=[]
  ·rw[hmk0]at hshut;cases hshut;have hd:a'.defers=[]:=by have:=hg.df.1;rw[hmk0]at this;exact ZD this
   rw[hd];exact fin w' hg.mem hfr
  ·have hlen:=hlen.resolve_right hmk0;refine Zdj (H0:=H) (w0:=w) (n:=H.length) s'.marks a'.defers s'.H H' w' hshut hg.mem hg.df hlen fun w'' hm'' hf=>?_;have hf':Fr M' Z' s'.H w' M' Z' H' w'' H.length [] []:=hf.weaken (ZK _) (fun x hx hx'=>by have:=hmk x hx';omega) (fun _ _ h=>h);exact fin w'' hm'' (hfr.trans hf' (fun _ h=>h) (fun x hx=>by cases hx) (fun _ h=>h) (fun x hx=>by cases hx))
 rcases he with rfl|rfl
 ·exact out
 ·exact out
def U0(m n:Nat):List Nat:=(QM n).filter fun i=>decide (m<=i)
def Env.cut(m:Nat)(Z:Env):Env:=fun s=>if s<m then Z s else none
theorem Qiv{M:Qd}{Z:Env}{H:List Qb}{w:World}(hm:Mem M Z H w)(m:Nat):Env.Qai (U0 m H.length) Z (Z.cut m):=by
 intro s p hs hp;unfold Env.cut;split
 ·exact hp
 ·rename_i h;rcases QW s H.length with h'|h'
  ·simp[U0,h']at hs;omega
  ·rw[hm.fresh s h']at hp;cases hp
theorem Zri(d:List Nat)(o:Qb):(o.forget d).live=o.live:=by cases o<;>rfl
def Ql4(R:Option Nat)(P:Program)(nt:Nat)(c:Code)(Q:Exit->St->Prop):Nat->St->Prop
 |0,_=>False
 |n+1,s=>Zl R P nt c (Qwe (fun s'=>∃m,m<=n∧Ql4 R P nt c Q n s') Q) s
theorem Yd8{R:Option Nat}{P:Program}{nt:Nat}{c:Code}{Q:Exit->St->Prop}{n:Nat}{s:St}(h:Ql4 R P nt c Q n s):Zl R P nt (.loop c) Q s:=by
 refine Yd3 (Ql4 R P nt c Q) h fun k s hk=>?_;cases k with
 |zero=>exact hk.elim
 |succ k=>
  refine Zl.mono hk fun e s'=>?_;cases e with
  |normal=>rintro ⟨m,hm,h⟩;exact⟨k,QL k,h⟩
  |_=>exact id
def Qql:TT->List Tmp->List SV->TT
 |T,p::ps,x::xs=>Qql (T.set p x) ps xs
 |T,_,_=>T
theorem Zal{M:Qd}{Z:Env}{nt:Nat}:∀(ps:List Tmp) (vs:List Value) (xs:List SV) (T:TT) (tmps:Array Value),(ps.all fun p=>Nat.blt p nt)=true->J0 M Z vs xs->tmps.size=nt->
  (∀t x,T.get t=some x->Qf M Z (tmps.getD t undef) x)->ps.length=vs.length->
  ((ps.zip vs).foldl (fun tmps (t,a)=>tmps.setIfInBounds t a) tmps).size=nt∧∀t x,(Qql T ps xs).get t=some x->Qf M Z (((ps.zip vs).foldl (fun tmps (t,a)=>tmps.setIfInBounds t a) tmps).getD t undef) x
 |[],vs,xs,T,tmps,hp,hr,hs,ht,hl=>⟨hs,fun t x h=>ht t x h⟩
 |p::ps,[],xs,T,tmps,hp,hr,hs,ht,hl=>by simp at hl
 |p::ps,v::vs,[],T,tmps,hp,hr,hs,ht,hl=>by have:=hr.1;simp at this
 |p::ps,v::vs,x::xs,T,tmps,hp,hr,hs,ht,hl=>by
  simp only[List.all_cons,ZF]at hp;have hpn:=blt_lt' hp.1;simp only[List.zip_cons_cons,List.foldl_cons,Qql];refine Zal ps vs xs _ _ hp.2 ⟨by have:=hr.1;simpa using this,fun i v x hv hx=>hr.2 (i+1) v x (by simpa using hv) (by simpa using hx)⟩ (by simp[hs]) (fun t y hy=>?_) (by simpa using hl);rw[ZP,Array.getElem?_setIfInBounds];rcases TT.Kv _ _ _ _ _ hy with⟨e,rfl⟩|⟨e,hy⟩
  ·subst e;simp only[if_true,hs,hpn];exact hr.2 0 v _ rfl rfl
  ·rw[if_neg (fun e'=>e e'.symm),<-ZP];exact ht t y hy
where
 blt_lt' {a b:Nat} (h:Nat.blt a b=true):a<b:=by rw[Nat.blt_eq]at h;exact h
def Qao(s:Nat)(L:Qgs)(st:St):St:={st with H:=st.H.set s (.loop {L with state:=.busy})}
def Quo(s:Nat)(L:Qgs)(jump:Option Code)(H:List Qb):List Qb:=match jump with
 |none=>H.set s (.loop {L with state:=.ready,pending:=none})
 |some c=>H.set s (.over .done (some c))
def Zi5(s:Nat)(jump:Option Code)(t:List Nat):List Nat:=match jump with
 |none=>t
 |some _=>s::t
def loopAt:Option Qb->Option (LoopState×Option Code)
 |some (.loop L)=>some (L.state,L.pending)
 |some (.over st pd)=>some (st,pd)
 |_=>none
theorem Q6.Yrz{M:Qd}{Z:Env}{w:World}{s:Nat}{o:Qb}{st:LoopState}{pd:Option Code}{p:Place}(h:Q6 M Z w s o)(ho:loopAt (some o)=some (st,pd))(hp:Z s=some p):
  o.live=true∧∃r:Loop,w.heap[p.block]? =some (.loop r)∧r.state=st∧r.pending=pd:=by
 cases o with
 |loop L=>obtain⟨q,fn,tmps,d,h1,h2,_⟩:=h;rw[hp]at h1;cases h1;simp only[loopAt,ZQ,Prod.mk.injEq]at ho;exact⟨rfl,_,h2,ho.1,ho.2⟩
 |over a b=>obtain⟨q,r,h1,h2,h3,h4⟩:=h;rw[hp]at h1;cases h1;simp only[loopAt,ZQ,Prod.mk.injEq]at ho;exact⟨rfl,r,h2,h3.trans ho.1,h4.trans ho.2⟩
 |_=>cases ho
def Qpm(L:Qgs)(args:List SV)(H:List Qb):St:={T:=Qql L.T L.params.toList args,H:=H,n0:=H.length,tch:=[],fg:=[],marks:=[],er:=[]}
theorem Q6.loopAt{M:Qd}{Z:Env}{w:World}{s:Nat}{L:Qgs}{p:Place}(h:Q6 M Z w s (.loop L))(hp:Z s=some p):
  ∃r:Loop,w.heap[p.block]? =some (.loop r)∧r.state=L.state∧r.pending=L.pending∧r.params=L.params∧r.assign=L.assign∧r.body=L.body∧r.tmps.size=L.nt∧∀t x,L.T.get t=some x->Qf M Z (r.tmps.getD t undef) x:=by
 obtain⟨q,fn,tmps,d,h1,h2,h3,h4⟩:=h;rw[hp]at h1;cases h1;exact⟨_,h2,rfl,rfl,rfl,rfl,rfl,h3,h4⟩
theorem Qy9{M:Qd}{Z:Env}{w:World}{s:Nat}{L:Qgs}{p:Place}{r:Loop}(hp:Z s=some p)(hr:w.heap[p.block]? =some (.loop r))(h1:r.state=L.state)(h2:r.pending=L.pending)(h3:r.params=L.params)(h4:r.assign=L.assign)(h5:r.body=L.body)
  (h6:r.tmps.size=L.nt) (h7:∀t x,L.T.get t=some x->Qf M Z (r.tmps.getD t undef) x):Q6 M Z w s (.loop L):=by
 obtain⟨st,pd,fn,tmps,ps,as,bd,d⟩:=r;simp only at h1 h2 h3 h4 h5 h6 h7;subst h1;subst h2;subst h3;subst h4;subst h5;exact⟨p,fn,tmps,d,hp,hr,h6,h7⟩
theorem Zsx{P:Program}{s:Nat}{args:List SV}{H:List Qb}{L:Qgs}{K:Qy}(hH:H[s]? =some (.loop L))(hn:L.params.toList.length=args.length)(hps:(L.params.toList.all fun p=>Nat.blt p L.nt)=true)
  (h:∀ R,Zl R P L.nt L.assign (fun e s1=>e = .normal ∧ s ∉ s1.fg ∧ H.length <= s1.H.length ∧ ∃ L1,s1.H[s]? = some (.loop L1) ∧ L1.state = .ready ∧ L1.pending = none ∧
   Zl R P L.nt L.body (fun e s2=>∃jump,Qv9 e=some jump∧s∉s2.fg∧H.length<=s2.H.length∧∃L2,s2.H[s]? =some (.loop L2)∧K (.lit (.bool jump.isNone)) (Quo s L2 jump s2.H) (Zi5 s jump s2.tch) s2.fg) (Qao s L1 s1)) (Qpm L args H)):
  Qdv P s args H K:=by
 intro M Z w p vs hm hp hr;have hs:s<H.length:=(C.1 hH).1;obtain⟨r,h1,_,_,h3,h4,h5,h6,h7⟩:=(hm.own s _ hH).loopAt hp;have hsz:vs.toArray.size=r.params.size:=by rw[h3];have:=hr.1;simp;rw[this,<-hn];simp
 refine⟨_,_,_,_,_,w,run_yield h1 hsz,?_⟩;obtain⟨t1,t2⟩:=Zal (M:=M) (Z:=Z) (nt:=L.nt) L.params.toList vs args L.T r.tmps hps hr h6 h7 (by rw[hn,hr.1]);have hz:(r.params.zip vs.toArray).foldl (fun tmps (t,a)=>tmps.setIfInBounds t a) r.tmps=(L.params.toList.zip vs).foldl (fun tmps (t,a)=>tmps.setIfInBounds t a) r.tmps:=by rw[h3,<-Array.foldl_toList];simp[Array.toList_zip]
 rw[hz,h4,h5];refine roundIn_of_wpIn trivial ?_;have hg:Good (fun t=>((L.params.toList.zip vs).foldl (fun tmps (t,a)=>tmps.setIfInBounds t a) r.tmps).getD t undef) L.nt M Z (Qpm L args H) {tmps:=(L.params.toList.zip vs).foldl (fun tmps (t,a)=>tmps.setIfInBounds t a) r.tmps,defers:=[]} w:=
  ⟨t2,t1,hm,⟨rfl,fun i d s h=>by simp at h⟩,fun m h=>by simp[Qpm]at h,ZK _,fun _ _=>rfl⟩
 refine wpIn_mono (h (some p.block) _ M Z _ w hg) ?_
 rintro e a1 w1 ⟨M1,ρ1,s1,⟨rfl,hfg1,hl1,L1,hH1,hst1,hpd1,hbody⟩,g1,go1⟩
 have hn1:s1.n0=H.length:=go1.n0;have hp1:ρ1 s=some p:=by rw[go1.fr.stay s hs hfg1];exact hp
 obtain⟨r1,k1,k2,k3,k4,k5,k6,k7,k8⟩:=(g1.mem.own s _ hH1).loopAt hp1;have hb1:p.block<w1.heap.size:=(ZI.1 k1).1;refine⟨_,run_beginRound k1 (k2.trans hst1),?_⟩;obtain⟨m2,f2⟩:=g1.mem.Qnm (so:=.loop {L1 with state:=.busy}) (ob:=.loop {r1 with state:=.busy}) hH1 rfl hp1 rfl
  (Qy9 (r:={r1 with state:=.busy}) hp1 (ZA hb1) rfl k3 k4 k5 k6 k7 k8)
 have g2:Good _ L.nt M1 ρ1 (Qao s L1 s1) a1 (w1.putObj p.block (.loop {r1 with state:=.busy})):=⟨g1.tm,g1.sz,m2,g1.df,g1.mks,by have:=g1.nle;simpa[Qao]using this,g1.fix⟩;refine wpIn_mono (hbody _ M1 ρ1 a1 _ g2) ?_
 rintro e a3 w3 ⟨M3,ρ3,s3,⟨jump,hj,hfg3,hl3,L3,hH3,hk⟩,g3,go3⟩
 have hs1:s<(Qao s L1 s1).n0:=by show s<s1.n0;rw[hn1];exact hs
 have hp3:ρ3 s=some p:=by rw[go3.fr.stay s hs1 hfg3];exact hp1
 obtain⟨r3,q1,q2,q3,q4,q5,q6,q7,q8⟩:=(g3.mem.own s _ hH3).loopAt hp3;have hb3:p.block<w3.heap.size:=(ZI.1 q1).1;have hn3:(Qao s L1 s1).n0=H.length:=hn1;have fr1:Fr M Z H w M1 ρ1 s1.H w1 H.length s1.tch s1.fg:=go1.fr;have fr2:Fr M1 ρ1 s1.H w1 M1 ρ1 (Qao s L1 s1).H (w1.putObj p.block (.loop {r1 with state:=.busy})) H.length [s] []:=f2.weaken hl1 (fun _ _ h=>h) (fun _ _ h=>h);have fr3:Fr M1 ρ1 (Qao s L1 s1).H (w1.putObj p.block (.loop {r1 with state:=.busy})) M3 ρ3 s3.H w3 H.length s3.tch s3.fg:=hn3▸go3.fr;have sub1:∀x,x∈s1.tch->x∈s3.tch:=fun x hx=>go3.tch x hx;have fr123:Fr M Z H w M3 ρ3 s3.H w3 H.length (s::s3.tch) s3.fg:=(fr1.trans fr2 (t:=s::s3.tch) (f:=s3.fg) (fun x hx=>ZC _ (sub1 x hx)) (fun x hx=>by rw[ZO.1 hx];exact ZH) (fun x hx=>go3.fg x hx) (fun x hx=>by cases hx)).trans fr3 (fun _ h=>h) (fun _ h=>ZC _ h) (fun _ h=>h) (fun _ h=>h);have done:∃v w',(Instr.endRound p.block jump).run P w3=.ok v w'∧∃v' r' H' M' Z' tch fg,Ending.returned v=.returned v'∧K r' H' tch fg∧Qf M' Z' v' r'∧Mem M' Z' H' w'∧Fr M Z H w M' Z' H' w' H.length tch fg:=by
  cases jump with
  |some c=>
   obtain⟨m4,f4⟩:=g3.mem.Qnm (so:=.over .done (some c)) (ob:=.loop {r3 with state:=.done,pending:=some c}) hH3 rfl hp3 rfl
    ⟨p,{r3 with state:=.done,pending:=some c},hp3,ZA hb3,rfl,rfl⟩
   have fr4:=f4.weaken (n':=H.length) (t':=s::s3.tch) (f':=[]) hl3 (fun x _ h=>by rw[ZO.1 h];exact ZH) (fun _ _ h=>h);exact⟨_,_,run_endRound (some c) q1,_,_,_,M3,ρ3,_,_,rfl,hk,.pv (.lit _),m4,fr123.trans fr4 (fun _ h=>h) (fun _ h=>h) (fun _ h=>h) (fun x hx=>by cases hx)⟩
  |none=>
   obtain⟨m4,f4⟩:=g3.mem.Qnm (so:=.loop {L3 with state:=.ready,pending:=none}) (ob:=.loop {r3 with state:=.ready,pending:=none}) hH3 rfl hp3 rfl
    (Qy9 (r:={r3 with state:=.ready,pending:=none}) hp3 (ZA hb3) rfl rfl q4 q5 q6 q7 q8)
   have fr4:=f4.weaken (n':=H.length) (t':=s::s3.tch) (f':=[]) hl3 (fun x _ h=>by rw[ZO.1 h];exact ZH) (fun _ _ h=>h);have fin:=fr123.trans fr4 (t:=s::s3.tch) (f:=s3.fg) (fun _ h=>h) (fun _ h=>h) (fun _ h=>h) (fun x hx=>by cases hx);refine⟨_,_,run_endRound none q1,_,_,_,M3,ρ3,_,_,rfl,hk,.pv (.lit _),m4,fin.imm,fin.new,fin.own,fin.same,fin.grow,fun x o hx hnx ho hl=>?_,fin.stay,fin.io⟩;by_cases hxs:x=s
   ·subst hxs;have hnx1:x∉s1.tch:=fun h=>hnx (sub1 x h);obtain⟨_,a2⟩:=fr1.keep x _ hx hnx1 hH rfl;have hL2:(Qao x L1 s1).H[x]? =some (.loop {L1 with state:=.busy}):=by have:x<s1.H.length:=(C.1 hH1).1;simp[Qao,this]
    obtain⟨_,b2⟩:=fr3.keep x _ hx hnx hL2 rfl;have e1:=(a2 p hp).2 _ p.self;rw[h1,k1]at e1;have e1:r1=r:=by simpa using e1
    have e3:=(b2 p hp1).2 _ p.self;rw[ZA hb1,q1]at e3;have e3:r3={r1 with state:=.busy}:=by simpa using e3
    refine⟨⟨.loop {L3 with state:=.ready,pending:=none},?_,rfl⟩,fun p' hp'=>?_⟩
    ·have:x<s3.H.length:=(C.1 hH3).1;simp[Quo,this]
    ·rw[hp]at hp';cases hp';refine⟨hp3,fun b hb=>?_⟩;by_cases hbp:b≠p.block
     ·have c1:=(a2 p hp).2 b hb;have c2:=(b2 p hp1).2 b hb;rw[ZV hbp,c2,ZV hbp,c1]
     have hbp:b=p.block:=by simpa using hbp
     rw[hbp];rw[ZA hb3,h1,e3,<-e1];obtain⟨st1,pd1,fn1,tm1,ps1,as1,bd1,d1⟩:=r1;simp only at k2 k3;rw[hst1]at k2;rw[hpd1]at k3;subst k2;subst k3;rfl
   ·exact fin.keep x o hx (fun h=>by rcases QB.1 h with h|h;exact hxs h;exact hnx h) ho hl
 cases e with
 |normal=>cases hj;exact done
 |ret=>cases hj;exact done
 |exit id=>cases hj;exact done
 |goto t=>cases hj;exact done
 |panic c=>cases hj
 |outgrown=>cases hj
def Qo7(v:SV)(y:SV):Option (Nat×List SV):=match v with
 |.pv (.lit (.func (.func g) first cap))=>some (g,first.toList.map SV.lit++[y]++cap.toList.map SV.lit)
 |.fn (.func g) first cap=>some (g,first++[y]++cap)
 |_=>none
def Qqp(s:St)(nt:Nat)(ps:Array Tmp)(assign body:Code):List Qb:=s.H++[.dfr false]++[.loop {state:=.ready,pending:=none,T:=s.T,nt:=nt,params:=ps,assign:=assign,body:=body}]
def Qau(s:St)(pd:Option Code)(H:List Qb)(t f:List Nat):St:=
 {T:=Qbg f s.T,H:=H.set (s.H.length+1) (.over .exhausted pd),n0:=s.n0,tch:=Xq s.n0 t s.tch,fg:=Xq s.n0 f s.fg,marks:=s.H.length::s.marks,er:=s.er}
theorem Zms{cx:Cx}(hcx:cx.Ok){nt:Nat}{g:Operand}{ps:Array Tmp}{assign body:Code}{Q:Exit->St->Prop}{s:St}{gf:Nat}{args:List SV}{fn:Func}(hn:s.n0<=s.H.length)
  (ht:Qo7 (s.ev g) (.yld (s.H.length+1))=some (gf,args)) (hfn:cx.fns.lookup gf=some fn)
  (h:Xt cx.P gf args (Qqp s nt ps assign body) fun r H' t f=>s.H.length ∉ f ∧ s.H.length + 1 ∉ f ∧ (∀ m ∈ s.marks,m ∉ f ∧ m < s.H.length) ∧ s.n0 <= H'.length ∧ ∃ st pd,loopAt H'[s.H.length + 1]? = some (st,pd) ∧ st ≠ .busy ∧
   match pd with
   |none=>Q .normal (Qau s pd H' t f)
   |some c=>Zl none cx.P nt c Q (Qau s pd H' t f)):Zl none cx.P nt (.rangeFunc g ps assign body) Q s:=by
 intro B M Z a w hg;rw[Qvb];refine wpIn_rangeFunc fun fid _=>?_;have callf:∀vs w,(callFunc gf vs).run cx.P w=.ok (.enter gf vs) w:=(hcx.fn hfn).2;obtain⟨m1,fr1⟩:=hg.mem.alloc (w':=w.alloc (.deferred (some []))) (o:=.deferred (some [])) (so:=.dfr false) (cap:=0) rfl ⟨⟨w.heap.size,0,[]⟩,Env.set_self ..,QU w _⟩;have hH1:(s.H++[Qb.dfr false]).length=s.H.length+1:=by simp
 have hle1:Z.le (Z.set s.H.length (some ⟨w.heap.size,0,[]⟩)):=fun t p hp=>by
  have:t≠s.H.length:=fun e=>by rw[e,hg.mem.fresh _ (ZK _)]at hp;cases hp
  rw[Env.Xc _ _ this];exact hp
 obtain⟨m2,fr2⟩:=m1.alloc (w':=(w.alloc (.deferred (some []))).alloc (.loop {state:=.ready,pending:=none,fn:=fid,tmps:=a.tmps,params:=ps,assign,body,defers:=w.heap.size}))
  (o := .loop { state := .ready,pending := none,fn := fid,tmps := a.tmps,params := ps,assign,body,defers := w.heap.size }) (so := .loop { state := .ready,pending := none,T := s.T,nt := nt,params := ps,assign := assign,body := body }) (cap := 0) rfl (by
   refine Qy9 (r:={state:=.ready,pending:=none,fn:=fid,tmps:=a.tmps,params:=ps,assign,body,defers:=w.heap.size}) (Env.set_self ..) (QU _ _) rfl rfl rfl rfl rfl hg.sz fun t x hx=>?_;refine(hg.tm t x hx).mono M.le_refl (Env.le_trans hle1 fun t p hp=>?_);have:t≠(s.H++[Qb.dfr false]).length:=fun e=>by rw[e,m1.fresh _ (ZK _)]at hp;cases hp
   rw[Env.Xc _ _ this];exact hp)
 rw[hH1]at m2 fr2;have hw1:(w.alloc (Obj.deferred (some []))).heap.size=w.heap.size+1:=by rw[World.size_alloc]
 rw[hw1]at m2 fr2;generalize hρ2:(Z.set s.H.length (some ⟨w.heap.size,0,[]⟩)).set (s.H.length+1) (some ⟨w.heap.size+1,0,[]⟩)=ρ2 at m2 fr2;have hle2:Z.le ρ2:=fun t p hp=>by
  have:t≠s.H.length+1:=fun e=>by rw[e,hg.mem.fresh _ (by omega)]at hp;cases hp
  rw[<-hρ2,Env.Xc _ _ this];exact hle1 t p hp
 have p1:ρ2 s.H.length=some ⟨w.heap.size,0,[]⟩:=by rw[<-hρ2,Env.Xc _ _ (by omega),Env.set_self]
 have p2:ρ2 (s.H.length+1)=some ⟨w.heap.size+1,0,[]⟩:=by rw[<-hρ2,Env.set_self]
 have hgv:=(hg.ev g).mono M.le_refl hle2;have hargs:∃first cap:Array Value,a.eval g=.func (.func gf) first cap∧J0 M ρ2 (first.toList++[.func (.yield (w.heap.size+1)) #[] #[]]++cap.toList) args:=by
  have hy:J0 M ρ2 [Value.func (.yield (w.heap.size+1)) #[] #[]] [.yld (s.H.length+1)]:=⟨rfl,fun i v x hv hx=>by
   match i with
   |0=>simp at hv hx;subst hv;subst hx;exact .yld _ _ p2
   |i+1=>simp at hv⟩
  generalize hsv:s.ev g=sv at ht hgv;unfold Qo7 at ht;split at ht
  ·cases ht;rename_i first cap
   exact⟨first,cap,hgv.Zq,Qjm (Qjm ⟨by simp,Qs8 first⟩ hy) ⟨by simp,Qs8 cap⟩⟩
  ·cases ht;generalize a.eval g=vg at hgv;cases hgv with
   |fn _ fa fb _ _ ha hb hh hk=>exact⟨fa,fb,rfl,Qjm (Qjm ⟨by simpa using ha,fun i v x hv hx=>hh i v x (by rw[<-ZJ];exact hv) hx⟩ hy) ⟨by simpa using hb,fun i v x hv hx=>hk i v x (by rw[<-ZJ];exact hv) hx⟩⟩
  ·cases ht
 obtain⟨first,cap,hfv,hreps⟩:=hargs
 obtain⟨W2,hW2⟩:∃W,W=(w.alloc (.deferred (some []))).alloc (.loop {state:=.ready,pending:=none,fn:=fid,tmps:=a.tmps,params:=ps,assign,body,defers:=w.heap.size}):=⟨_,rfl⟩;rw[<-hW2]at m2 fr2;refine⟨w.heap.size+1,[{target:=.collected w.heap.size,args:= #[]}],W2,{target:=.fn (.func gf) cap,args:=first++ #[.func (.yield (w.heap.size+1)) #[] #[]]},W2,gf,first++ #[.func (.yield (w.heap.size+1)) #[] #[]]++cap,W2,?_,?_,fun _ _=>trivial,?_,fun hx=>(by simp[QH]at hx),?_⟩
 ·show(Instr.enterLoop fid a.tmps ps assign body none).run cx.P w=_;rw[run_enterLoop_outer,<-hW2]
 ·show(Deferred.ofValue (a.eval g) (#[Operand.const (.func (.yield (w.heap.size+1)) #[] #[])].map a.eval)).run cx.P W2=_;rw[hfv];simp[Deferred.ofValue,Act.eval]
 ·simp only[invoke];exact callf _ _
 ·have hc:=h M ρ2 _ _ m2 hreps;have e:(first.toList++[Value.func (.yield (w.heap.size+1)) #[] #[]]++cap.toList).toArray=first++ #[.func (.yield (w.heap.size+1)) #[] #[]]++cap:=by simp
  rw[e]at hc;have hc':CallsIn QH (0-1) cx.P gf (first++ #[.func (.yield (w.heap.size+1)) #[] #[]]++cap) _ _:=hc
  refine hc'.mono ?_
  rintro e w3 ⟨v,r,H',M',Z',t,f,rfl,⟨hf1,hf2,hmk,hn3,st,pd,hL,hst,hpend⟩,hs,hm',hfr⟩
  have hlen:(Qqp s nt ps assign body).length=s.H.length+2:=by simp[Qqp]
  have e1:Z' s.H.length=some ⟨w.heap.size,0,[]⟩:=by rw[hfr.stay _ (by rw[hlen];omega) hf1];exact p1
  have e2:Z' (s.H.length+1)=some ⟨w.heap.size+1,0,[]⟩:=by rw[hfr.stay _ (by rw[hlen];omega) hf2];exact p2
  obtain⟨oL,hoL⟩:∃o,H'[s.H.length+1]? =some o:=by
   cases hh:H'[s.H.length+1]? with
   |none=>rw[hh]at hL;cases hL
   |some o=>exact⟨o,rfl⟩
  rw[hoL]at hL;obtain⟨hlv,r3,q1,q2,q3⟩:=(hm'.own _ _ hoL).Yrz hL e2;have hb3:w.heap.size+1<w3.heap.size:=(ZI.1 q1).1;obtain⟨m4,f4⟩:=hm'.Qnm (so:=.over .exhausted pd) (ob:=.loop {r3 with state:=.exhausted}) hoL hlv e2 rfl ⟨_,{r3 with state:=.exhausted},e2,ZA hb3,rfl,q3⟩;have h3:s.n0<=H'.length:=hn3;have hstay:∀x,x∉f->∀q,Z x=some q->Z' x=some q:=fun x hx q hq=>by
   have hx':x<s.H.length:=by
    rcases QW x s.H.length with h'|h'
    ·exact h'
    ·rw[hg.mem.fresh x h']at hq;cases hq
   rw[hfr.stay x (by rw[hlen];omega) hx];exact hle2 x q hq
  have hgood:Good B nt M' Z' (Qau s pd H' t f) {a with defers:=[{target:=.collected w.heap.size,args:= #[]}]++a.defers} (w3.putObj (w.heap.size+1) (.loop {r3 with state:=.exhausted})):=by
   refine⟨fun x y hy=>?_,hg.sz,m4,⟨by simp[Qau,hg.df.1],fun i d m hd hk=>?_⟩,fun m hm=>?_,by simpa[Qau]using h3,hg.fix⟩
   ·obtain⟨z,hz,hyz⟩:=Quf hy;exact(hg.tm x z hz).after hfr.imm hstay hyz
   ·match i with
    |0=>simp[Qau]at hd hk;subst hd;subst hk;exact⟨_,e1,rfl⟩
    |i+1=>simp[Qau]at hd hk;obtain⟨q,hq,e⟩:=hg.df.2 i d m hd hk;exact⟨q,hstay m (hmk m (QT hk)).1 q hq,e⟩
   ·rcases QB.1 hm with rfl|hm
    ·exact hn
    ·exact hg.mks m hm
  have hgo:Y2 M Z s w M' Z' (Qau s pd H' t f) (w3.putObj (w.heap.size+1) (.loop {r3 with state:=.exhausted})):=by refine⟨?_,rfl,fun x hx=>Qf1 hx,fun x hx=>Qf1 hx⟩;have a1:Fr M Z s.H w M _ _ _ s.n0 (Xq s.n0 t s.tch) (Xq s.n0 f s.fg):=fr1.weaken hn (fun x _ h=>by cases h) (fun x _ h=>by cases h);have a2:=fr2.weaken (n':=s.n0) (t':=Xq s.n0 t s.tch) (f':=Xq s.n0 f s.fg) (by omega) (fun x _ h=>by cases h) (fun x _ h=>by cases h);have a3:=hfr.weaken (n':=s.n0) (t':=Xq s.n0 t s.tch) (f':=Xq s.n0 f s.fg) (by rw[hlen];omega) (fun x hx h=>Qf9 hx h) (fun x hx h=>Qf9 hx h);have a4:=f4.weaken (n':=s.n0) (t':=Xq s.n0 t s.tch) (f':=Xq s.n0 f s.fg) h3 (fun x hx h=>by rw[ZO.1 h]at hx;omega) (fun x _ h=>by cases h);exact((a1.trans a2 (fun _ h=>h) (fun _ h=>h) (fun _ h=>h) (fun _ h=>h)).trans a3 (fun _ h=>h) (fun _ h=>h) (fun _ h=>h) (fun _ h=>h)).trans a4 (fun _ h=>h) (fun _ h=>h) (fun _ h=>h) (fun _ h=>h)
  refine⟨pd,_,by rw[<-q3];exact run_endLoop q1 (by rw[q2];exact hst),?_⟩;cases pd with
  |none=>exact⟨M',Z',_,hpend,hgood,hgo⟩
  |some c=>exact wpIn_mono (hpend B M' Z' _ _ hgood) fun e a'' w'' ⟨M'',Z'',s'',q,g',k'⟩=>⟨M'',Z'',s'',q,g',hgo.trans k'⟩
def Zpi(Q:Exit->St->Prop):Exit->St->Prop
 |.goto _,_=>False
 |e,s=>Q e s
theorem Yel{P:Program}{nt:Nat}{c:Code}{Q:Exit->St->Prop}{s:St}(h:Zl none P nt c (Zpi Q) s):Zl none P nt (.scope c) Q s:=by
 intro B M Z a w hg;have h0:=h B M Z a w hg;rw[Qvb]at h0⊢;refine wpIn_wide.2 (wp_scope_straight (wp_mono (wpIn_wide.1 h0) ?_))
 rintro e a' w' ⟨M',Z',s',q,r⟩
 cases e with
 |goto l=>exact q.elim
 |normal=>exact⟨M',Z',s',q,r⟩
 |exit id=>exact⟨M',Z',s',q,r⟩
 |ret=>exact⟨M',Z',s',q,r⟩
 |panic c=>exact⟨M',Z',s',q,r⟩
 |outgrown=>exact⟨M',Z',s',q,r⟩
end Go.Sx
section
namespace Go.Sx
open Go
mutual
def frz(H:List Qb)(n:Nat):Nat->SV->Option PV
 |0,_=>none
 |_+1,.pv p=>some p
 |k+1,.sl s sz st len=>match Nat.ble n s,H[s]? with
  |true,some (.vec _ sz' rows)=>if sz=sz'∧st+len<=rows.length then some (.rsl sz ((rows.drop st).take len))else none
  |true,some (.mix _ sz' rows)=>if sz=sz'∧st+len<=rows.length then(Qh0 H n k ((rows.drop st).take len)).map (.rsl sz)else none
  |_,_=>none
 |_+1,_=>none
def Qg2(H:List Qb)(n:Nat):Nat->List SV->Option (List PV)
 |0,_=>none
 |_+1,[]=>some []
 |k+1,x::l=>match frz H n k x,Qg2 H n k l with
  |some p,some ps=>some (p::ps)
  |_,_=>none
def Qh0(H:List Qb)(n:Nat):Nat->List (List SV)->Option (List (List PV))
 |0,_=>none
 |_+1,[]=>some []
 |k+1,r::l=>match Qg2 H n k r,Qh0 H n k l with
  |some p,some ps=>some (p::ps)
  |_,_=>none
end
theorem Zg6{H:List Qb}{n:Nat}:∀(k:Nat) (l:List SV) (ps:List PV),Qg2 H n k l=some ps->ps.length=l.length∧∀(i:Nat) (p:PV),ps[i]? =some p->∃x m,l[i]? =some x∧m<k∧frz H n m x=some p
 |0,_,_,h=>by simp[Qg2]at h
 |k+1,[],ps,h=>by simp[Qg2]at h;subst h;simp
 |k+1,x::l,ps,h=>by
  simp only[Qg2]at h;split at h
  ·rename_i p q h1 h2;cases h;obtain⟨g1,g2⟩:=Zg6 k l q h2;refine⟨by simp[g1],fun i p' hi=>?_⟩;cases i with
   |zero=>simp at hi;subst hi;exact⟨x,k,rfl,QL k,h1⟩
   |succ i=>simp at hi;obtain⟨y,m,a,b,c⟩:=g2 i p' hi;exact⟨y,m,by simpa using a,by omega,c⟩
  ·cases h
theorem Zbp{H:List Qb}{n:Nat}:∀(k:Nat) (l:List (List SV)) (ps:List (List PV)),Qh0 H n k l=some ps->ps.length=l.length∧
  ∀(i:Nat) (r:List PV),ps[i]? =some r->∃x m,l[i]? =some x∧m<k∧Qg2 H n m x=some r
 |0,_,_,h=>by simp[Qh0]at h
 |k+1,[],ps,h=>by simp[Qh0]at h;subst h;simp
 |k+1,x::l,ps,h=>by
  simp only[Qh0]at h;split at h
  ·rename_i p q h1 h2;cases h;obtain⟨g1,g2⟩:=Zbp k l q h2;refine⟨by simp[g1],fun i p' hi=>?_⟩;cases i with
   |zero=>simp at hi;subst hi;exact⟨x,k,rfl,QL k,h1⟩
   |succ i=>simp at hi;obtain⟨y,m,a,b,c⟩:=g2 i p' hi;exact⟨y,m,by simpa using a,by omega,c⟩
  ·cases h
theorem Yad{M:Qd}{Z:Env}{H:List Qb}{w:World}{n:Nat}(hm:Mem M Z H w):∀(k:Nat) (x:SV) (p:PV) (v:Value),frz H n k x=some p->Qf M Z v x->Zu (M.sealing Z H n w) v p:=by
 intro k;induction k using Nat.strongRecOn with
 |_ k ih=>
 intro x p v h hr;have hle:=Qd.W0 M Z H n w;match k,x,h with
 |0,_,h=>simp[frz]at h
 |k+1,.pv q,h=>
  simp only[frz]at h;cases h;cases hr with
  |pv hp=>exact hp.mono hle
 |k+1,.sl s sz st len,h=>
  simp only[frz]at h;have main:∀(o:Qb) (sz':Nat) (rows:List (List SV)) (ps:List (List PV)),n<=s->H[s]? =some o->o.Kw=true->o.Q8 =some sz'->o.len=rows.length->(∀i,i<rows.length->o.row i=rows.getD i [])->sz=sz'->st+len<=rows.length->
    ps.length=len->(∀(i:Nat) (r:List PV),ps[i]? =some r->∃row,rows[st+i]? =some row∧r.length=row.length∧∀(j:Nat) (q:PV),r[j]? =some q->∃y,row[j]? =some y∧∀u,Qf M Z u y->Zu (M.sealing Z H n w) u q)->
    Zu (M.sealing Z H n w) v (.rsl sz ps):=by
   intro o sz' rows ps hns hs hro hz hlen hrow e hfit hpl hps;subst e;cases hr with
   |slz=>
    have:ps=[]:=ZD hpl;subst this;rename_i a;cases a with
    |none=>exact .rnil sz
    |some a=>exact .remp a 0 sz
   |sl _ _ _ _ c k' p hp hk hc hn' h6=>
    obtain⟨cs,ty,a1,a2,a3,a4,a5⟩:=((hm.own s o hs).rowOf hz hp).ex;have hM:M.sealing Z H n w p.block=some (.cells cs ty (0,0)):=by rw[Qd.Zmg hm hns hs hro hp];exact a1
    refine .rsl p.block k' c sz len ps hpl.symm hn' (fun i j hi hj=>?_) (fun i r j q u hi hj hcell=>?_) (fun i r hi=>?_)
    ·obtain⟨u,hu,hone⟩:=a4 (st+i) j (by omega) hj;refine⟨u,?_,hone⟩;rw[Qd.Qtd hM,hk,<-ZR];exact hu
    ·obtain⟨row,g1,g2,g3⟩:=hps i r hi;obtain⟨y,y1,y2⟩:=g3 j q hj;have hlt:st+i<rows.length:=(C.1 g1).1;obtain⟨b1,b2⟩:=a5 (st+i) j y (by omega) (by rw[hrow _ hlt,QG,g1];exact y1);rw[Qd.Qtd hM,hk,<-ZR]at hcell;exact y2 u (b2 u hcell)
    ·obtain⟨row,g1,g2,g3⟩:=hps i r hi;have hlt:st+i<rows.length:=(C.1 g1).1;rcases Nat.eq_zero_or_pos r.length with e|e
     ·omega
     ·have hx:row[r.length-1]? =some (row[r.length-1]'(by omega)):=QJ _;obtain⟨b1,_⟩:=a5 (st+i) (r.length-1) _ (by omega) (by rw[hrow _ hlt,QG,g1];exact hx);omega
  split at h
  ·rename_i e1 e2;split at h
   ·rename_i ty sz' rows hc;cases h;refine main _ sz' (rows.map (·.map .pv)) _ (by simpa using e1) e2 rfl rfl (by simp[Qb.len]) (fun i hi=>?_) hc.1 (by simpa using hc.2) (by simp;omega) (fun i r hi=>?_)
    ·simp at hi;simp[Qb.row,QG,hi]
    ·rw[ZM]at hi;split at hi
     ·rw[ZN]at hi;refine⟨r.map .pv,by simp[hi],by simp,fun j q hj=>⟨.pv q,by simp[hj],fun u hu=>?_⟩⟩;cases hu with
      |pv hp=>exact hp.mono hle
     ·cases hi
   ·cases h
  ·rename_i e1 e2;split at h
   ·rename_i ty sz' rows hc;simp only[ZW]at h;obtain⟨ps,hps,rfl⟩:=h;obtain⟨g1,g2⟩:=Zbp _ _ _ hps;refine main _ sz' rows _ (by simpa using e1) e2 rfl rfl rfl (fun i hi=>rfl) hc.1 hc.2 (by rw[g1];simp;omega) (fun i r hi=>?_);obtain⟨row,m,q1,q2,q3⟩:=g2 i r hi;rw[ZM]at q1;split at q1
    ·rw[ZN]at q1;obtain⟨z1,z2⟩:=Zg6 _ _ _ q3;refine⟨row,q1,z1,fun j q hj=>?_⟩;obtain⟨y,m',y1,y2,y3⟩:=z2 j q hj;exact⟨y,y1,fun u hu=>ih m' (by omega) y q u y3 hu⟩
    ·cases q1
   ·cases h
  ·cases h
 |k+1,.any,h=>simp[frz]at h
 |k+1,.agg _,h=>simp[frz]at h
 |k+1,.tup _,h=>simp[frz]at h
 |k+1,.ptr _ _ _ _,h=>simp[frz]at h
 |k+1,.mp _,h=>simp[frz]at h
 |k+1,.yld _,h=>simp[frz]at h
 |k+1,.slb _ _ _ _ _,h=>simp[frz]at h
 |k+1,.fn _ _ _,h=>simp[frz]at h
end Go.Sx
end
namespace Go.Sx
open Go
abbrev KB:=SV->List Qb->List Nat->List Nat->Bool
def Qp.run(H:List Qb)(k:KB):Qp->Bool
 |.fail=>false
 |.ok x=>k x H [] []
 |.eff x H' t g=>k x H' t g
 |.need c r=>match c with
  |true=>r.run H k
  |false=>false
 |.split c a b=>match c with
  |true=>a.run H k
  |false=>b.run H k
 |.both a b=>a.run H k&&b.run H k
abbrev Zdy:=Bool->Nat->List SV->List Qb->KB->Bool
structure Zdy.Ok (cx:Cx) (cb:Zdy):Prop where
 ok:∀g args H k,cb false g args H k=true->(∃fn,cx.fns.lookup g=some fn)∧Xt cx.P g args H fun x H' t f=>k x H' t f=true
 rd:∀s args H k,cb true s args H k=true->Qdv cx.P s args H fun x H' t f=>k x H' t f=true
inductive Qfv where
 |done
 |bad
 |stop
 |take (i:Nat) (o:Oper) (p:Qfv)
 |alt (o:Oper) (p rest:Qfv)
def Qgc(ops:Array Oper)(next:Nat->Qfv):List Nat->Qfv
 |[]=>.stop
 |i::rs=>match ops[i]? with
  |none=>.bad
  |some o=>.alt o (next i) (Qgc ops next rs)
def Uj(hl:Bool)(ops:Array Oper):Nat->Array Bool->Qfv
 |0,listed=>match J .any ops listed with
  |[]=>.done
  |_=>.bad
 |n+1,listed=>match Qx4 hl ops listed with
  |some i=>match ops[i]? with
   |none=>.bad
   |some o=>.take i o (Uj hl ops n (listed.setIfInBounds i true))
  |none=>match J .any ops listed with
   |[]=>.done
   |r::rs=>Qgc ops (fun i=>Uj hl ops n (listed.setIfInBounds i true)) (r::rs)
theorem Zyu(o:Oper)(pend:List (Nat×List Nat)):keeps o pend [] []=true:=by unfold keeps;rw[ZZ];intro q _;simp
end Go.Sx

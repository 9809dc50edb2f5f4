/- Part H of the own logic: append. Part Hs of the own logic: rows that become immutable; reading data out of them; append with them. -/
import Derived.Test.YtpkbmngnolhopaaGreatDoorXSxE
set_option linter.unusedVariables false
set_option linter.unusedSimpArgs false
set_option linter.unnecessarySimpa false
open Option renaming map_eq_some_iff->C
open List renaming getElem?_map->I,getElem?_take->ZA,getElem?_eq_some_iff->ZC,getD->ZF,getElem?_drop->ZJ,getElem?_set->ZM,getElem?_append_right->ZN,getElem?_append_left->ZO,map_congr_left->ZP,length_map->ZQ,getElem?_cons_zero->ZR,mem_append_right->ZU,range->ZV,eq_nil_of_length_eq_zero->ZW,mem_append_left->ZX,map_append->ZY,map_map->ZZ,size_toArray->QA,length_eq_zero_iff->QC,getElem?_cons_succ->QD,getElem?_eq_none->QG,mem_of_getElem?->QH,getElem?_append->QI,mem_map->QL,mem_cons->QN
open Nat renaming mul_le_mul_right->J,le_refl->ZB,eq_of_beq_eq_true->ZD,add_mul->ZH,le_trans->ZI,le_of_ble_eq_true->ZT,zero_add->QE,min_eq_left->QF,add_assoc->QJ,eq_zero_or_pos->QK,beq->QM
open Array renaming getElem?_append_left->R,getElem?_toList->ZK,getElem?_append_right->Q1,size_append->Q2
open Go.Builtin renaming append_->ZE,zeroCells->ZL
open Bool renaming and_eq_true->ZG
open Decidable renaming not_not->ZS
open Prod.mk renaming injEq->QB
namespace Go.Sx
open Go
inductive Src where
 |pure (rows:List (List PV))
 |mixed (rows:List (List SV))
def Src.rows:Src->List (List SV)
 |.pure r=>r.map (·.map .pv)
 |.mixed r=>r
def Src.len:Src->Nat
 |.pure r=>r.length
 |.mixed r=>r.length
def Src.forget(d:List Nat):Src->Src
 |.pure r=>.pure r
 |.mixed r=>.mixed (r.map (·.map (SV.forget d)))
theorem Src.Qcz(d:List Nat)(s:Src):(s.forget d).len=s.len:=by cases s<;>simp[Src.forget,Src.len]
def Src.Zmi:Src->Bool
 |.pure _=>true
 |.mixed r=>!r.isEmpty
theorem Src.Ysz(s:Src):s.rows.length=s.len:=by cases s<;>simp[Src.rows,Src.len]
def Uo(H:List Qb)(sz:Nat):SV->Option Src
 |.sl s sz' st len=>if sz'=sz then match H[s]? with
   |some (.vec _ so rows)=>if so=sz∧st+len<=rows.length then some (.pure ((rows.drop st).take len))else none
   |some (.mix _ so rows)=>if so=sz∧st+len<=rows.length then some (.mixed ((rows.drop st).take len))else none
   |_=>none
  else none
 |.pv (.rsl sz' rows)=>if sz'=sz then some (.pure rows)else none
 |.pv (.lit (.slice none 0 0))=>some (.pure [])
 |_=>none
structure Qs6 (M:Qd) (U:Env) (w:World) (sz:Nat) (v:Value) (s:Src):Prop where
 ex:∃a c,v=.slice a s.len c∧(s.len=0∨∃b o,a=some ⟨b,o,none⟩∧
  (∀i j,i<s.len->j<sz->∃u,w.cell? ⟨b,o+(i*sz+j),none⟩=some u∧Wv u=true)∧
  (∀i j x,i<s.len->(s.rows.getD i [])[j]? =some x->j<sz∧∀u,w.cell? ⟨b,o+(i*sz+j),none⟩=some u->Qf M U u x))
theorem Qwv{M:Qd}{U:Env}{H:List Qb}{w:World}(hm:Mem M U H w){sz:Nat}{x:SV}{v:Value}{s:Src}(hx:Qf M U v x)(h:Uo H sz x=some s):Qs6 M U w sz v s:=by
 unfold Uo at h;split at h
 ·rename_i sd sz' st len;split at h
  ·rename_i e;subst e;have own:∀(o:Qb) (s:Src),H[sd]? =some o->o.Q5 =some sz'->st+len<=o.len->s.len=len->(∀i,i<len->s.rows.getD i []=o.row (st+i))->Qs6 M U w sz' v s:=by
    intro o s ho hz hle hl hr;cases hx with
    |slz a b c a'=>exact⟨_,_,by rw[hl],.inl hl⟩
    |sl _ _ _ _ c k p hp hk hc hn h6=>
     obtain⟨cs,ty,a1,a2,a3,a4,a5⟩:=((hm.own sd o ho).rowOf hz hp).ex;refine⟨_,c,by rw[hl],.inr ⟨p.block,k,rfl,fun i j hi hj=>?_,fun i j x hi hx=>?_⟩⟩
     ·rw[hl]at hi;obtain⟨u,h1,h2⟩:=a4 (st+i) j (by omega) hj;exact⟨u,by simp[World.cell?,a1];rw[hk,<-h1];congr 1;rw[ZH];omega,h2⟩
     ·rw[hl]at hi;rw[hr i hi]at hx;obtain⟨h1,h2⟩:=a5 (st+i) j x (by omega) hx;refine⟨h1,fun u hu=>h2 u ?_⟩;simp[World.cell?,a1]at hu;rw[<-hu,hk];congr 1;rw[ZH];omega
   split at h
   ·rename_i ty so rows ho;split at h
    ·rename_i hc;cases h;obtain⟨rfl,hle⟩:=hc;refine own _ _ ho rfl hle (by simp[Src.len];omega) (fun i hi=>?_);have hlt:st+i<rows.length:=by omega
     simp[Src.rows,Qb.row,ZF,ZA,ZJ,hi,hlt]
    ·cases h
   ·rename_i ty so rows ho;split at h
    ·rename_i hc;cases h;obtain⟨rfl,hle⟩:=hc;refine own _ _ ho rfl hle (by simp[Src.len];omega) (fun i hi=>?_);have hlt:st+i<rows.length:=by omega
     simp[Src.rows,Qb.row,ZF,ZA,ZJ,hi,hlt]
    ·cases h
   ·cases h
  ·cases h
 ·rename_i sz' rows;split at h
  ·rename_i e;subst e;cases h;cases hx with
   |pv hp=>cases hp with
    |rnil=>exact⟨_,_,rfl,.inl rfl⟩
    |remp a c=>exact⟨_,_,rfl,.inl rfl⟩
    |rsl b off c _ n _ hn hc g0 g1 g2=>
     refine⟨_,c,by simp[Src.len];exact hn,.inr ⟨b,off,rfl,fun i j hi hj=>?_,fun i j x hi hx=>?_⟩⟩
     ·obtain⟨u,h1,h2⟩:=g0 i j hi hj;exact⟨u,by rw[<-QJ];exact Qd.Zaa hm h1,h2⟩
     ·have hi':i<rows.length:=hi;simp[Src.rows,ZF,hi']at hx;obtain⟨q,hq,rfl⟩:=hx;have hj:j<sz':=Nat.lt_of_lt_of_le (ZC.1 hq).1 (g2 i rows[i] (by simp[hi']));refine⟨hj,fun u hu=>?_⟩;obtain⟨u',h1,h2⟩:=g0 i j hi' hj;have:=Qd.Zaa hm h1;rw[<-QJ,this]at hu;cases hu;exact .pv (g1 i rows[i] j q u (by simp[hi']) hq h1)
  ·cases h
 ·cases h;have:=hx.Zt;subst this;exact⟨_,_,rfl,.inl rfl⟩
 ·cases h
def Qb.plain:Qb->Qb
 |.tvec ty row l=>.vec ty row.length (Qw row l)
 |.tlnk ty row l r c x=>.mix ty row.length ((ZV l.length).map fun i=>(Qb.tlnk ty row l r c x).row i)
 |o=>o
theorem Zdy{ty:Nat}{row:List Ty}{l:List (Qj row)}{r c i:Nat}{x:SV}{d:List Nat}:((Qb.tlnk ty row l r c x).row i).map (SV.forget d)=(Qb.tlnk ty row l r c (x.forget d)).row i:=by
 have e:∀L:List PV,(L.map SV.pv).map (SV.forget d)=L.map SV.pv:=fun L=>by rw[ZZ];rfl
 simp only[Qb.row];split
 ·rw[List.map_set,e]
 ·rw[e]
theorem W0(o:Qb):o.plain.Q5 =o.Q5 ∧o.plain.len=o.len∧o.plain.ty=o.ty∧o.plain.live=o.live∧(∀i,i<o.len->o.plain.row i=o.row i)∧(∀d,o.plain.forget d=(o.forget d).plain):=by
 cases o with
 |tvec ty row l=>refine⟨rfl,by simp[Qb.plain,Qb.len,Qw],rfl,rfl,fun i hi=>?_,fun d=>rfl⟩;have hi:i<l.length:=hi;simp only[Qb.plain,Qb.row,Qhw hi]
 |tlnk ty row l r c x=>
  refine⟨rfl,by simp[Qb.plain,Qb.len],rfl,rfl,fun i hi=>?_,fun d=>?_⟩
  ·have hi:i<l.length:=hi;simp only[Qb.plain];show((ZV l.length).map fun i=>(Qb.tlnk ty row l r c x).row i).getD i []=_;simp[ZF,hi]
  ·show Qb.mix _ _ _=Qb.mix _ _ _;rw[ZZ];congr 1;refine ZP fun i _=>?_;exact Zdy
 |_=>exact⟨rfl,rfl,rfl,rfl,fun i _=>rfl,fun d=>rfl⟩
theorem Q9.plain{M:Qd}{U:Env}{w:World}{s:Nat}{o:Qb}:Q9 M U w s o.plain↔Q9 M U w s o:=by
 cases o with
 |tlnk ty row l r c x=>
  have e:Xz ((ZV l.length).map fun i=>(Qb.tlnk ty row l r c x).row i)=Wb row l r c x:=by
   funext i j;by_cases hi:i<l.length
   ·refine Option.ext fun y=>?_;rw[Qup (ty:=ty) hi];simp[Xz,hi]
   ·have h1:Xz ((ZV l.length).map fun i=>(Qb.tlnk ty row l r c x).row i) i j=none:=by unfold Xz;rw[QG (by simpa using hi)];rfl
    have h2:Wb row l r c x i j=none:=by unfold Wb Ys;rw[QG (by simpa[Qw]using hi)];rfl
    rw[h1,h2]
  have e2:((ZV l.length).map fun i=>(Qb.tlnk ty row l r c x).row i).length=(Qw row l).length:=by simp[Qw]
  show(_∨∃p,_∧Kd M U w p ty row.length _ (Xz _))↔(_∨∃p,_∧Kd M U w p ty row.length _ (Wb row l r c x));rw[e,e2];refine or_congr (and_congr Iff.rfl ?_) Iff.rfl;rw[<-QC,e2,QC]
 |_=>exact Iff.rfl
def Xc(o:Qb)(n:Nat)(s:Src):Qb:=
 match o.plain,s with
 |.vec ty sz rows,.pure ps=>.vec ty sz ((if n=rows.length then rows else rows.take n)++ps)
 |.vec ty sz rows,.mixed xs=>.mix ty sz (((if n=rows.length then rows else rows.take n).map (·.map .pv))++xs)
 |.mix ty sz rows,s=>.mix ty sz ((if n=rows.length then rows else rows.take n)++s.rows)
 |o,_=>o
theorem Qto{α:Type}(l:List α)(n:Nat):(if n=l.length then l else l.take n)=l.take n:=by
 split
 ·rename_i h;rw[h,List.take_length]
 ·rfl
theorem Yeu(o:Qb){sz n:Nat}(s:Src)(hz:o.Q5 =some sz)(hn:n<=o.len)(ho:o.plain=o):
  (Xc o n s).Q5 =some sz∧(Xc o n s).len=n+s.len∧(Xc o n s).ty=o.ty∧
  ∀i,i<n+s.len->(Xc o n s).row i=if i<n then o.row i else s.rows.getD (i-n) []:=by
 cases o with
 |tvec ty row l=>cases ho
 |tlnk ty row l r c x=>cases ho
 |vec ty sz' rows=>
  simp[Qb.Q5]at hz;subst hz;have hn':n<=rows.length:=hn;cases s with
  |pure ps=>
   simp only[Xc,Qb.plain,Qto];refine⟨rfl,by simp[Qb.len,Src.len];omega,rfl,fun i hi=>?_⟩;simp only[Qb.row,Src.rows,ZF];split
   ·rename_i h;rw[ZO (by simp;omega),ZA];simp[h]
   ·rename_i h;rw[ZN (by simp;omega)];simp only[List.length_take,QF hn',I];cases ps[i-n]? <;>simp
  |mixed xs=>
   simp only[Xc,Qb.plain,Qto];refine⟨rfl,by simp[Qb.len,Src.len];omega,rfl,fun i hi=>?_⟩;simp only[Qb.row,Src.rows,ZF];split
   ·rename_i h;rw[ZO (by simp;omega),I,ZA];simp only[h,if_true];cases rows[i]? <;>simp
   ·rename_i h;rw[ZN (by simp;omega)];simp[QF hn']
 |mix ty sz' rows=>
  simp[Qb.Q5]at hz;subst hz;have hn':n<=rows.length:=hn;simp only[Xc,Qb.plain,Qto];refine⟨rfl,by simp[Qb.len,<-Src.Ysz];omega,rfl,fun i hi=>?_⟩;simp only[Qb.row,ZF];split
  ·rename_i h;rw[ZO (by simp;omega),ZA];simp[h]
  ·rename_i h;rw[ZN (by simp;omega)];simp[QF hn']
 |map es c=>simp[Qb.Q5]at hz
 |nest _ _ _ _ _=>simp[Qb.Q5]at hz
 |tmap k v l=>simp[Qb.Q5]at hz
 |iter a b=>simp[Qb.Q5]at hz
 |loop a=>simp[Qb.Q5]at hz
 |over a b=>simp[Qb.Q5]at hz
 |mit a b c=>simp[Qb.Q5]at hz
 |dfr a=>simp[Qb.Q5]at hz
 |dead=>simp[Qb.Q5]at hz
theorem Qna(o:Qb):o.plain.plain=o.plain:=by cases o<;>rfl
theorem Zbo(o:Qb){sz n:Nat}(s:Src)(hz:o.Q5 =some sz)(hn:n<=o.len):
  (Xc o n s).Q5 =some sz∧(Xc o n s).len=n+s.len∧(Xc o n s).ty=o.ty∧
  ∀i,i<n+s.len->(Xc o n s).row i=if i<n then o.row i else s.rows.getD (i-n) []:=by
 obtain⟨f1,f2,f3,_,f4,_⟩:=W0 o;obtain⟨g1,g2,g3,g4⟩:=Yeu o.plain s (by rw[f1];exact hz) (by rw[f2];exact hn) (Qna o);have e:Xc o.plain n s=Xc o n s:=by unfold Xc;rw[Qna]
 rw[e]at g1 g2 g3 g4;refine⟨g1,g2,g3.trans f3,fun i hi=>?_⟩;rw[g4 i hi];split
 ·rename_i h;rw[f4 i (by omega)]
 ·rfl
def Qad(tab:Qp)(H:List Qb)(t t':Nat)(a x:SV):Qo:=
 match tab.lookup t with
 |some {desc:=.slice e,..}=>match tab.lookup e with
  |none=>.fail
  |some i=>if t'≠t∨i.size=0 then .fail else match Uo H i.size x with
   |none=>.fail
   |some s=>match a with
    |.pv (.lit (.slice none 0 0))=>.need s.Zmi <| .need (decide (s.len*i.bytes<=140737488355328)) <| .need (decide (s.len<=9223372036854775807)) <|
      .eff (.sl H.length i.size 0 s.len) (H++[Xc (.vec e i.size []) 0 s]) [] []
    |.sl d sz st n=>match H[d]? with
     |none=>.fail
     | some o=>if sz = i.size ∧ o.Q5 = some i.size ∧ o.ty = e ∧ st = 0 then
       .need (decide (n<=o.len)) <| .need (decide ((n+s.len)*i.bytes<=140737488355328)) <| .need (decide (n+s.len<=9223372036854775807)) <|
        .eff (.sl d i.size 0 (n+s.len)) ((H.map (Qb.forget [d])).set d (Xc (o.forget [d]) n (s.forget [d]))) [d] [d]
      else .fail
    |.pv (.csl row l)=>if row.length=i.size then
      .need (decide (0<s.len)) <| .need (decide ((l.length+s.len)*i.bytes<=140737488355328)) <| .need (decide (l.length+s.len<=9223372036854775807)) <|
       .eff (.sl H.length i.size 0 (l.length+s.len)) (H++[Xc (.vec e i.size (Qw row l)) l.length s]) [] []
     else .fail
    |_=>.fail
 |_=>.fail
theorem Qs6.news{M:Qd}{U:Env}{w:World}{sz:Nat}{v:Value}{s:Src}(h:Qs6 M U w sz v s)(hsz:0<sz):∃(a:Option Addr) (c:Nat) (news:List Value),v=.slice a s.len c∧news.length=s.len*sz∧
  (s.len=0∨∃b o,a=some ⟨b,o,none⟩∧∀(j:Nat) (u:Value),news[j]? =some u->w.cell? ((⟨b,o,none⟩:Addr).add j)=some u)∧(∀u∈news,u.oneCell'=true)∧
  (∀i j x,i<s.len->(s.rows.getD i [])[j]? =some x->j<sz∧∀u,news[i*sz+j]? =some u->Qf M U u x):=by
 obtain⟨a,c,hv,h|⟨b,o,ha,h1,h2⟩⟩:=h.ex
 ·refine⟨a,c,[],hv,by simp[h],.inl h,by simp,fun i j x hi=>by omega⟩
 ·have hex:∀k,k<s.len*sz->∃u,w.cell? ⟨b,o+k,none⟩=some u∧Wv u=true:=fun k hk=>by have hlt:k/sz<s.len:=(Nat.div_lt_iff_lt_mul hsz).2 hk;have:=h1 (k/sz) (k%sz) hlt (Nat.mod_lt _ hsz);rwa[Nat.div_add_mod']at this
  let f:Nat->Value:=fun k=>if h:k<s.len*sz then Classical.choose (hex k h)else undef;have hf:∀k,k<s.len*sz->w.cell? ⟨b,o+k,none⟩=some (f k)∧Wv (f k)=true:=fun k hk=>by simp only[f,dif_pos hk];exact Classical.choose_spec (hex k hk)
  have hget:∀(k:Nat) (u:Value),((ZV (s.len*sz)).map f)[k]? =some u->k<s.len*sz∧u=f k:=fun k u hu=>by simp only[I,C]at hu;obtain⟨m,hm,rfl⟩:=hu;obtain⟨g1,g2⟩:=ZC.1 hm;simp at g1 g2;subst g2;exact⟨g1,rfl⟩
  refine⟨a,c,(ZV (s.len*sz)).map f,hv,by simp,.inr ⟨b,o,ha,fun j u hu=>?_⟩,fun u hu=>?_,fun i j x hi hx=>?_⟩
  ·obtain⟨g1,rfl⟩:=hget j u hu;rw[Addr.add_mid];exact(hf j g1).1
  ·obtain⟨k,hk,rfl⟩:=QL.1 hu;exact(hf k (by simpa using hk)).2
  ·obtain⟨g1,g2⟩:=h2 i j x hi hx;refine⟨g1,fun u hu=>?_⟩;obtain⟨g3,rfl⟩:=hget _ u hu;exact g2 _ (hf _ g3).1
theorem Qu5{P:Program}{w:World}{t ty e:Nat}{i:TI}(hu:P.underlying t=some (.slice e))(he:Jd P e i){a b:Option Addr}{n c c':Nat}(hn:n<=c):
  (ZE #[t,t] ty #[.slice a n c,.slice b 0 c']).run P w=.ok (.slice a n c) w:=by
 obtain⟨inf,hi,i1,_⟩:=he.inf;cases a<;>cases b<;>simp[ZE,run_underlying hu,sizeOf,typeInfo,hi,Builtin.lenOf,hn,Builtin.firstCells,loadCells,loadCellsFrom,storeCells]
theorem Qw3{P:Program}{w:World}{t ty e:Nat}{i:TI}(hu:P.underlying t=some (.slice e))(he:Jd P e i)(hsz:0<i.size)
  {base:Option Addr} {n c:Nat} {cs:Array Value} (hg:(n=0∧c=0)∨∃k,base=some ⟨k,0,none⟩∧w.heap[k]? =some (.cells cs e (0,0))∧c*i.size<=cs.size) (hn:n<=c)
  {a:Option Addr} {m c':Nat} {news:List Value} (hl:news.length=m*i.size) (ha:m=0∨∃b o,a=some ⟨b,o,none⟩∧∀(j:Nat) (u:Value),news[j]? =some u->w.cell? ((⟨b,o,none⟩:Addr).add j)=some u)
  (h1:∀u∈news,u.oneCell'=true) (hb:(n+m)*i.bytes<=140737488355328) (h63:n+m<=9223372036854775807):
  ∃v' w',(ZE #[t,t] ty #[.slice base n c,.slice a m c']).run P w=.ok v' w'∧
   ((m = 0 ∧ v' = .slice base n c ∧ w' = w) ∨
    (∃cs' gc,v'=.slice (some ⟨w.heap.size,0,none⟩) (n+m) gc∧(w'.heap=w.heap.push (.cells cs' e (0,0))∧w'.os=w.os∧w'.output=w.output)∧(n+m<=gc∧gc<=9223372036854775807)∧gc*i.size<=cs'.size∧
     (∀k,k<n*i.size->cs'[k]? =cs[k]?)∧(∀k,k<m*i.size->cs'[n*i.size+k]? =news[k]?))∨
    (∃k,base=some ⟨k,0,none⟩∧0<m∧w.heap[k]? =some (.cells cs e (0,0))∧n+m<=c∧c*i.size<=cs.size∧v'=.slice (some ⟨k,0,none⟩) (n+m) c∧w'=w.setRow k (cs.toList.take (n*i.size)++news++cs.toList.drop (n*i.size+news.length)).toArray)):=by
 obtain⟨inf,hinf,i1,i2,i3⟩:=he.inf;rcases QK m with rfl|hm
 ·exact⟨_,w,Qu5 hu he hn,.inl ⟨rfl,rfl,rfl⟩⟩
 ·obtain⟨b,o,rfl,hnews⟩:=ha.resolve_left (by omega);have hlz:∀x,(ZL i.zero.cells x).size=x*i.size:=fun x=>by rw[size_zeroCells,he.zsz]
  rcases hg with⟨rfl,rfl⟩|⟨k,rfl,hgk,hcs⟩
  ·have fin:∀(cc:Nat),m<=cc->cc<=9223372036854775807->∃cs' gc,Value.slice (some ⟨w.heap.size,0,none⟩) m cc=.slice (some ⟨w.heap.size,0,none⟩) (0+m) gc∧((w.drew.alloc (.cells (news.toArray++ZL i.zero.cells (cc-m)) e)).heap=w.heap.push (.cells cs' e (0,0))∧(w.drew.alloc (.cells (news.toArray++ZL i.zero.cells (cc-m)) e)).os=w.os∧(w.drew.alloc (.cells (news.toArray++ZL i.zero.cells (cc-m)) e)).output=w.output)∧(0+m<=gc∧gc<=9223372036854775807)∧gc*i.size<=cs'.size∧
     (∀k,k<0*i.size->cs'[k]? =cs[k]?)∧(∀k,k<m*i.size->cs'[0*i.size+k]? =news[k]?):=fun cc hge hcm=>by
    refine⟨_,cc,by simp,⟨rfl,rfl,rfl⟩,⟨by simpa using hge,hcm⟩,?_,fun k hk=>by omega,fun k hk=>?_⟩
    ·simp only[Q2,QA,hl,hlz,<-ZH];exact J _ (by omega)
    ·simp only[Nat.zero_mul,QE];rw[R (by simp[hl];exact hk)];simp
   cases base with
   |none=>have hr:=run_append_nil (P:=P) w t ty e inf i.zero hu hinf i3 ⟨b,o,none⟩ m c' news (by rw[i1];exact hl) hnews hm (by omega) (by rw[i2];simp at hb;omega);exact⟨_,_,hr,.inr (.inl (fin _ (grownCap_ge w m 0 e) (grownCap_le_maxLen w m 0 e (by unfold maxLen;omega))))⟩
   |some ad=>
    have hr:=run_append_grow (P:=P) w t ty e inf i.zero hu hinf i3 ad 0 0 [] (by simp) (fun j u hu'=>by simp at hu') ⟨b,o,none⟩ m c' news (by rw[i1];exact hl) hnews (by omega) (by omega)
     (growslice_fits (by omega) (by rw[i2];exact hb))
    simp only[QE,Array.empty_append]at hr;exact⟨_,_,hr,.inr (.inl (fin _ (grownCap_ge w m 0 e) (grownCap_le_maxLen w m 0 e (by unfold maxLen;omega))))⟩
  ·by_cases hroom:n+m<=c
   ·have hfit:n*inf.size+news.length<=cs.size:=by rw[hl,i1,<-ZH];exact ZI (J _ hroom) hcs
    have hr:=run_append_room (P:=P) w t ty e inf hu hinf k n c cs hgk ⟨b,o,none⟩ m c' news (by rw[i1];exact hl) hnews h1 hroom hfit;rw[i1]at hr;exact⟨_,_,hr,.inr (.inr ⟨k,rfl,hm,hgk,hroom,hcs,rfl,rfl⟩)⟩
   ·have hnc:n*i.size<=cs.size:=ZI (J _ hn) hcs;have holds:∀(j:Nat) (u:Value),(cs.toList.take (n*i.size))[j]? =some u->w.cell? ((⟨k,0,none⟩:Addr).add j)=some u:=fun j u hu'=>by
     rw[ZA]at hu';split at hu'
     ·rw[Addr.add_mid,QE];simp[World.cell?,hgk];simpa using hu'
     ·cases hu'
    have hge:=grownCap_ge w (n+m) c e;have hgm:grownCap w (n+m) c e<=9223372036854775807:=grownCap_le_maxLen w (n+m) c e (by unfold maxLen;omega);have hr:=run_append_grow (P:=P) w t ty e inf i.zero hu hinf i3 ⟨k,0,none⟩ n c (cs.toList.take (n*i.size)) (by simp[i1];omega) holds ⟨b,o,none⟩ m c' news (by rw[i1];exact hl) hnews (by omega) (by omega)
     (growslice_fits (by omega) (by rw[i2];exact hb))
    have hlt:(cs.toList.take (n*i.size)).length=n*i.size:=by simp;omega
    refine⟨_,_,hr,.inr (.inl ⟨_,_,rfl,⟨rfl,rfl,rfl⟩,⟨hge,hgm⟩,?_,fun j hj=>?_,fun j hj=>?_⟩)⟩
    ·simp only[Q2,QA,hl,hlz,hlt,<-ZH];exact J _ (by omega)
    ·rw[R (by simp[hlt];omega),R (by simp[hlt];omega)];simp[hj]
    ·rw[R (by simp[hlt,hl];omega),Q1 (by simp[hlt])];simp[hlt]
theorem Qlu{M:Qd}{U':Env}{w':World}{s:Nat}{o:Qb}{sz n e:Nat}{src:Src}{p':Place}{cs':Array Value}{news:List Value}(hz:o.Q5 =some sz)(hn:n<=o.len)(hty:o.ty=e)
  (hp':U' s=some p') (hheap:w'.heap[p'.block]? =some (.cells cs' e (0,0))) (hcap:p'.cap<=cs'.size) (hfit:(n+src.len)*sz<=p'.cap)
  (h4:∀i j,i<n->j<sz->∃v,cs'[i*sz+j]? =some v∧Wv v=true) (h4':∀k,k<src.len*sz->cs'[n*sz+k]? =news[k]?) (hl:news.length=src.len*sz) (h1:∀u∈news,u.oneCell'=true)
  (h5:∀i j x,i<n->(o.row i)[j]? =some x->j<sz∧∀v,cs'[i*sz+j]? =some v->Qf M U' v x)
  (h6:∀i j x,i<src.len->(src.rows.getD i [])[j]? =some x->j<sz∧∀u,news[i*sz+j]? =some u->Qf M U' u x):Q9 M U' w' s (Xc o n src):=by
 obtain⟨m1,m2,m3,m4⟩:=Zbo o src hz hn;have at':∀i j,n<=i->i<n+src.len->j<sz->cs'[i*sz+j]? =news[(i-n)*sz+j]? ∧(i-n)*sz+j<news.length:=fun i j hi hi' hj=>by
  have e1:i*sz=n*sz+(i-n)*sz:=by rw[<-ZH];congr 1;omega
  have hlt:=V4 hj (show i-n<src.len by omega);rw[e1,QJ];exact⟨h4' _ hlt,by rw[hl];exact hlt⟩
 refine Qdf.Qjr m1 hp' (fun ty' sz' rows eq=>?_) (fun ty' sz' rows eq=>?_) (fun ty' row l2 eq=>?_) (fun ty' row l2 r c x eq=>?_) hheap hcap (by rw[m2];exact hfit) (fun i j hi hj=>?_) (fun i j x hi hx=>?_)
 ·rw[eq]at m3;exact m3.trans hty
 ·rw[eq]at m3;exact m3.trans hty
 ·rw[eq]at m3;exact m3.trans hty
 ·rw[eq]at m3;exact m3.trans hty
 ·rw[m2]at hi;by_cases hin:i<n
  ·exact h4 i j hin hj
  ·obtain⟨q1,q2⟩:=at' i j (by omega) hi hj;rw[q1];exact⟨news[(i-n)*sz+j],by simp[q2],h1 _ (List.getElem_mem q2)⟩
 ·rw[m2]at hi;rw[m4 i hi]at hx;split at hx
  ·rename_i hin;exact h5 i j x hin hx
  ·rename_i hin;obtain⟨q1,q2⟩:=h6 (i-n) j x (by omega) hx;exact⟨q1,fun v hv=>by rw[(at' i j (by omega) hi q1).1]at hv;exact q2 v hv⟩
theorem Zuy(d:List Nat)(o:Qb)(i:Nat):(o.forget d).row i=(o.row i).map (SV.forget d)∨(o.forget d).row i=o.row i∧∀x∈o.row i,∃p,x=.pv p:=by
 cases o with
 |mix ty sz rows=>left;simp only[Qb.forget,Qb.row,ZF,I];cases rows[i]? <;>simp
 |vec ty sz rows=>right;refine⟨rfl,fun x hx=>?_⟩;simp only[Qb.row,QL]at hx;obtain⟨p,_,rfl⟩:=hx;exact⟨p,rfl⟩
 |tvec ty row l=>right;refine⟨rfl,fun x hx=>?_⟩;simp only[Qb.row,QL]at hx;obtain⟨p,_,rfl⟩:=hx;exact⟨p,rfl⟩
 |tlnk ty row l r c x=>left;exact Zdy.symm
 |nest _ _ _ _ _=>left;rfl
 |map es c=>left;rfl
 |tmap k v l=>left;rfl
 |iter a b=>left;rfl
 |loop a=>left;rfl
 |over a b=>left;rfl
 |mit a b c=>left;rfl
 |dfr a=>left;rfl
 |dead=>left;rfl
theorem Zx0(d:List Nat)(o:Qb):(o.forget d).Q5 =o.Q5 ∧(o.forget d).len=o.len∧(o.forget d).ty=o.ty:=by cases o<;>simp[Qb.forget,Qb.Q5,Qb.len,Qb.ty]
theorem Zmy{M:Qd}{U U':Env}{d:List Nat}(hρ:Env.Qah d U U'){o:Qb}{i j:Nat}{x:SV}(hx:((o.forget d).row i)[j]? =some x):
  ∃y,(o.row i)[j]? =some y∧∀v,Qf M U v y->Qf M U' v x:=by
 rcases Zuy d o i with h|⟨h,hp⟩
 ·rw[h,I,C]at hx;obtain⟨y,hy,rfl⟩:=hx;exact⟨y,hy,fun v hv=>hv.forget M.le_refl hρ⟩
 ·rw[h]at hx;obtain⟨p,rfl⟩:=hp x (QH hx);exact⟨_,hx,fun v hv=>by cases hv with|pv hv=>exact .pv hv⟩
theorem Yj2{M:Qd}{U U':Env}{d:List Nat}(hρ:Env.Qah d U U'){s:Src}{i j:Nat}{x:SV}(hx:((s.forget d).rows.getD i [])[j]? =some x):
  ∃y,(s.rows.getD i [])[j]? =some y∧∀v,Qf M U v y->Qf M U' v x:=by
 cases s with
 |pure r=>
  refine⟨x,hx,fun v hv=>?_⟩;simp only[Src.forget,Src.rows,ZF,I]at hx;cases e:r[i]? with
  |none=>simp[e]at hx
  |some q=>simp[e]at hx;obtain⟨p,_,rfl⟩:=hx;cases hv with|pv hv=>exact .pv hv
 |mixed r=>
  simp only[Src.forget,Src.rows,ZF,I]at hx⊢;cases e:r[i]? with
  |none=>simp[e]at hx
  |some q=>simp[e]at hx⊢;obtain⟨y,hy,rfl⟩:=hx;exact⟨y,hy,fun v hv=>hv.forget M.le_refl hρ⟩
theorem Ynm{P:Program}{w:World}{t ty e:Nat}{i:TI}(hu:P.underlying t=some (.slice e))(he:Jd P e i)(hsz:0<i.size)
  {base:Option Addr} {n:Nat} {olds:List Value} (hlo:olds.length=n*i.size) (hb0:n=0∨∃b o,base=some ⟨b,o,none⟩∧∀(j:Nat) (u:Value),olds[j]? =some u->w.cell? ((⟨b,o,none⟩:Addr).add j)=some u)
  {a:Option Addr} {m c':Nat} {news:List Value} (hm:0<m) (hl:news.length=m*i.size) (ha:m=0∨∃b o,a=some ⟨b,o,none⟩∧∀(j:Nat) (u:Value),news[j]? =some u->w.cell? ((⟨b,o,none⟩:Addr).add j)=some u)
  (h1:∀u∈news,u.oneCell'=true) (hb:(n+m)*i.bytes<=140737488355328) (h63:n+m<=9223372036854775807):
  ∃cs' gc w',(ZE #[t,t] ty #[.slice base n n,.slice a m c']).run P w=.ok (.slice (some ⟨w.heap.size,0,none⟩) (n+m) gc) w'∧(w'.heap=w.heap.push (.cells cs' e (0,0))∧w'.os=w.os∧w'.output=w.output)∧(n+m<=gc∧gc<=9223372036854775807)∧gc*i.size<=cs'.size∧
   (∀k,k<n*i.size->cs'[k]? =olds[k]?)∧(∀k,k<m*i.size->cs'[n*i.size+k]? =news[k]?):=by
 obtain⟨inf,hinf,i1,i2,i3⟩:=he.inf;rcases QK n with rfl|hn
 ·obtain⟨v',w',hr,hcase⟩:=Qw3 (P:=P) (w:=w) (ty:=ty) (base:=base) (n:=0) (c:=0) (cs:=olds.toArray) (c':=c') hu he hsz (.inl ⟨rfl,rfl⟩) (ZB _) hl ha h1 hb h63;rcases hcase with⟨h0,_⟩|⟨cs',gc,rfl,hh,hgc,hcs,ho,hnw⟩|⟨k,_,_,_,hroom,_⟩
  ·omega
  ·exact⟨cs',gc,w',hr,hh,hgc,hcs,fun k hk=>by omega,hnw⟩
  ·omega
 ·obtain⟨b0,o0,rfl,holds⟩:=hb0.resolve_left (by omega);obtain⟨b,o,rfl,hnews⟩:=ha.resolve_left (by omega);have hlz:∀x,(ZL i.zero.cells x).size=x*i.size:=fun x=>by rw[size_zeroCells,he.zsz]
  have hge:=grownCap_ge w (n+m) n e;have hgm:grownCap w (n+m) n e<=9223372036854775807:=grownCap_le_maxLen w (n+m) n e (by unfold maxLen;omega);have hr:=run_append_grow (P:=P) w t ty e inf i.zero hu hinf i3 ⟨b0,o0,none⟩ n n olds (by rw[i1];exact hlo) holds ⟨b,o,none⟩ m c' news (by rw[i1];exact hl) hnews (by omega) (by omega)
   (growslice_fits (by omega) (by rw[i2];exact hb))
  refine⟨_,_,_,hr,⟨rfl,rfl,rfl⟩,⟨hge,hgm⟩,?_,fun k hk=>?_,fun k hk=>?_⟩
  ·simp only[Q2,QA,hl,hlz,hlo,<-ZH];exact J _ (by omega)
  ·rw[R (by simp[hlo];omega),R (by simp[hlo];omega)];simp
  ·rw[R (by simp[hlo,hl];omega),Q1 (by simp[hlo])];simp[hlo]
theorem Qbz{P:Program}{tab:Qp}(htab:Q6 P tab){M:Qd}{U:Env}{H:List Qb}{w:World}{K:Qv}(hm:Mem M U H w){t t' ty:Nat}{a x:SV}{v u:Value}(ha:Qf M U v a)(hx:Qf M U u x)
  (h:(Qad tab H t t' a x).holds H K):Qz P (ZE #[t,t'] ty #[v,u]) M U H w K:=by
 unfold Qad at h;split at h
 ·rename_i e sz' by' zr rw' hte;have htt:=htab.get hte;split at h
  ·exact h.elim
  ·rename_i i hi;have ht:=htab.get hi;split at h
   ·exact h.elim
   ·rename_i hcond;obtain⟨rfl,hsz⟩:t'=t∧0<i.size:=⟨Classical.byContradiction fun e=>hcond (.inl e),Nat.pos_of_ne_zero fun e=>hcond (.inr e)⟩;split at h
    ·exact h.elim
    ·rename_i src hsrc;obtain⟨ad,c',news,rfl,hl,hcell,hone,hrep⟩:=(Qwv hm hx hsrc).news hsz;split at h
     ·simp only[Qo.holds,decide_eq_true_eq]at h;obtain⟨hsol,hb,h63,h⟩:=h;have:=ha.Zt;subst this;obtain⟨v',w',hr,hcase⟩:=Qw3 (P:=P) (w:=w) (ty:=ty) (base:=none) (n:=0) (c:=0) (cs:= #[]) (c':=c') htt.und ht hsz (.inl ⟨rfl,rfl⟩) (ZB _) hl hcell hone (by simpa using hb) (by simpa using h63);rcases hcase with⟨hm0,rfl,rfl⟩|⟨cs',gc,rfl,⟨hheap,hio⟩,hgc,hcs,_,hnew⟩|⟨k,hk,_⟩
      ·obtain⟨g1,g2⟩:=hm.virt (ty:=e) (sz:=i.size);have e':Xc (.vec e i.size []) 0 src=.vec e i.size []:=by
        cases src with
        |pure ps=>simp[Src.len]at hm0;subst hm0;rfl
        |mixed xs=>simp[Src.len]at hm0;subst hm0;simp[Src.Zmi]at hsol
       rw[e',hm0]at h;exact⟨_,_,hr,_,_,[],[],M,U,h,.slz _ _ _ _,g1,g2⟩
      ·have hle:∀q,U.le (U.set H.length q):=fun q s p hp=>by
        by_cases e:s=H.length
        ·subst e;rw[hm.fresh _ (ZB _)]at hp;cases hp
        ·rw[Env.Xj _ _ e];exact hp
       have ho:Q9 M (U.set H.length (some ⟨w.heap.size,cs'.size,[]⟩)) w' H.length (Xc (.vec e i.size []) 0 src):=by
        refine Qlu (p':=⟨w.heap.size,cs'.size,[]⟩) (e:=e) (sz:=i.size) rfl (Nat.zero_le _) rfl (Env.set_self ..) (by rw[hheap];simp) (ZB _) ?_ (fun i j hi=>by omega) (by simpa using hnew) hl hone (fun i j x hi=>by omega) (fun i j x hi hx=>?_)
        ·exact ZI (J _ hgc.1) hcs
        ·obtain⟨q1,q2⟩:=hrep i j x hi hx;exact⟨q1,fun u hu=>(q2 u hu).mono M.le_refl (hle _)⟩
       obtain⟨g1,g2⟩:=hm.alloc hheap ho hio;refine⟨_,_,hr,_,_,[],[],M,_,h,?_,g1,g2⟩;rw[QE];exact .sl _ _ 0 _ gc 0 ⟨w.heap.size,cs'.size,[]⟩ (Env.set_self ..) (by simp) (by simpa using hcs) (by omega) hgc.2
      ·cases hk
     ·rename_i d sz st n;split at h
      ·exact h.elim
      ·rename_i o ho;split at h
       ·rename_i hc2;obtain⟨rfl,hz,hty,rfl⟩:=hc2;simp only[Qo.holds,decide_eq_true_eq]at h;obtain⟨hn,hb,h63,h⟩:=h;have hlive:=Qgt hz;obtain⟨f1,f2,f3⟩:=Zx0 [d] o;have hz':(o.forget [d]).Q5 =some i.size:=f1.trans hz;have hn':n<=(o.forget [d]).len:=by rw[f2];exact hn
        obtain⟨m1,m2,m3,m4⟩:=Zbo (o.forget [d]) (src.forget [d]) hz' hn';have hlv':=Qgt m1;have hown:=hm.own d o ho;have but:∀q,Env.Qah [d] U (U.set d q):=fun q s p hs hp=>by
         have:s≠d:=by simpa using hs
         rw[Env.Xj _ _ this];exact hp
        obtain⟨base,c,cs,rfl,hg,⟨hnc,hc6⟩,hcap⟩:∃(base:Option Addr) (c:Nat) (cs:Array Value),v=.slice base n c∧((n=0∧c=0)∨∃k,base=some ⟨k,0,none⟩∧w.heap[k]? =some (.cells cs e (0,0))∧c*i.size<=cs.size)∧(n<=c∧c<=9223372036854775807)∧
          ((n=0∧c=0)∨∃p,U d=some p∧base=some ⟨p.block,0,none⟩∧c*i.size<=p.cap∧w.heap[p.block]? =some (.cells cs e (0,0))):=by
         cases ha with
         |slz _ _ _ a'=>exact⟨a',0,#[],rfl,.inl ⟨rfl,rfl⟩,⟨ZB _,by omega⟩,.inl ⟨rfl,rfl⟩⟩
         |sl _ _ _ _ c k p hp hk hc hnc h6=>
          obtain⟨cs,ty0,a1,a2,a3,_⟩:=(hown.rowOf hz hp).ex;obtain⟨cs2,b1⟩:=hown.heap hz hp;rw[hty]at b1;rw[a1]at b1;cases b1;have hk0:k=0:=by simpa using hk
          subst hk0;have hcc:c*i.size<=p.cap:=by simpa using hc
          exact⟨_,c,cs,rfl,.inr ⟨p.block,rfl,a1,ZI hcc a2⟩,⟨hnc,h6⟩,.inr ⟨p,hp,rfl,hcc,a1⟩⟩
        obtain⟨v',w',hr,hcase⟩:=Qw3 (P:=P) (w:=w) (ty:=ty) (c':=c') htt.und ht hsz hg hnc hl hcell hone hb h63;have old:∀p,U d=some p->∃cs0,w.heap[p.block]? =some (.cells cs0 e (0,0))∧p.cap<=cs0.size∧n*i.size<=p.cap∧
          (∀r j,r<n->j<i.size->∃v,cs0[r*i.size+j]? =some v∧Wv v=true)∧
          (∀q r j x,r<n->((o.forget [d]).row r)[j]? =some x->j<i.size∧∀v,cs0[r*i.size+j]? =some v->Qf M (U.set d q) v x):=fun p hp=>by
         obtain⟨cs0,ty0,a1,a2,a3,a4,a5⟩:=(hown.rowOf hz hp).ex;obtain⟨cs2,b1⟩:=hown.heap hz hp;rw[hty]at b1;rw[a1]at b1;cases b1;refine⟨cs0,a1,a2,ZI (J _ hn) a3,fun r j hr hj=>a4 r j (by omega) hj,fun q r j x hr hx=>?_⟩;obtain⟨y,hy,hv⟩:=Zmy (M:=M) (but q) hx;obtain⟨c1,c2⟩:=a5 r j y (by omega) hy;exact⟨c1,fun v hvv=>hv v (c2 v hvv)⟩
        have srcs:∀q r j x,r<(src.forget [d]).len->((src.forget [d]).rows.getD r [])[j]? =some x->j<i.size∧∀u,news[r*i.size+j]? =some u->Qf M (U.set d q) u x:=fun q r j x hr hx=>by rw[Src.Qcz]at hr;obtain⟨y,hy,hv⟩:=Yj2 (M:=M) (but q) hx;obtain⟨c1,c2⟩:=hrep r j y hr hy;exact⟨c1,fun u hu=>hv u (c2 u hu)⟩
        have hl':news.length=(src.forget [d]).len*i.size:=by rw[Src.Qcz];exact hl
        rcases hcase with⟨hm0,rfl,hww⟩|⟨cs',gc,rfl,⟨hheap,hio⟩,hgc,hcs,hold,hnew⟩|⟨k,hk,hmp,hheap,hroom,hcs,rfl,rfl⟩
        ·
         have hww':=hww.symm;subst hww';have hos:Q9 M (U.set d (U d)) w d (Xc (o.forget [d]) n (src.forget [d])):=by
          cases hp:U d with
          |none=>
           have hn0:n=0:=by
            rcases hcap with⟨h0,_⟩|⟨p,h0,_⟩
            ·exact h0
            ·rw[hp]at h0;cases h0
           have hl0:(Xc (o.forget [d]) n (src.forget [d])).len=0:=by rw[m2,Src.Qcz,hn0,hm0]
           generalize Xc (o.forget [d]) n (src.forget [d])=oo at*;cases oo with
           |vec _ _ rows=>exact .inl ⟨by rw[Env.set_self],by simpa[Qb.len]using hl0⟩
           |tvec _ _ l2=>exact .inl ⟨by rw[Env.set_self],by simpa[Qb.len,Qw]using hl0⟩
           |mix _ _ rows=>exact .inl ⟨by rw[Env.set_self],by simpa[Qb.len]using hl0⟩
           |tlnk _ _ l2 _ _ _=>exact .inl ⟨by rw[Env.set_self],by simpa[Qb.len,Qw]using hl0⟩
           |map _ _=>simp[Qb.Q5]at m1
           |nest _ _ _ _ _=>simp[Qb.Q5]at m1
           |tmap _ _ _=>simp[Qb.Q5]at m1
           |iter _ _=>simp[Qb.Q5]at m1
           |loop _=>simp[Qb.Q5]at m1
           |over _ _=>simp[Qb.Q5]at m1
           |mit _ _ _=>simp[Qb.Q5]at m1
           |dfr _=>simp[Qb.Q5]at m1
           |dead=>simp[Qb.Q5]at m1
          |some p=>obtain⟨cs0,b1,b2,b3,b4,b5⟩:=old p hp;refine Qlu (p':=p) (e:=e) hz' hn' (f3.trans hty) (Env.set_self ..) b1 b2 (by rw[Src.Qcz,hm0];exact b3) b4 (fun k hk=>by rw[Src.Qcz,hm0]at hk;omega) hl' hone (b5 _) (srcs _)
         obtain⟨g1,g2⟩:=hm.Qz8 (q:=U d) ho hlive hlv' (fun b hb _=>rfl) (ZB _) (fun p' hp'=>.inr ⟨p',hp',rfl⟩) hos;refine⟨_,_,hr,_,_,[d],[d],M,_,h,?_,g1,g2⟩;rw[hm0,Nat.add_zero];rcases hcap with⟨h0,h0'⟩|⟨p,hp,rfl,hcp,_⟩
         ·rw[h0,h0'];exact .slz _ _ _ _
         ·exact .sl _ _ 0 n c 0 p (by rw[Env.set_self,hp]) (by simp) (by simpa using hcp) hnc hc6
        ·
         have hos:Q9 M (U.set d (some ⟨w.heap.size,cs'.size,[]⟩)) w' d (Xc (o.forget [d]) n (src.forget [d])):=by
          refine Qlu (p':=⟨w.heap.size,cs'.size,[]⟩) (e:=e) hz' hn' (f3.trans hty) (Env.set_self ..) (by rw[hheap];simp) (ZB _) (by rw[Src.Qcz];exact ZI (J _ hgc.1) hcs)
           (fun r j hr hj=>?_) (by rw[Src.Qcz];exact hnew) hl' hone (fun r j x hr hx=>?_) (srcs _)
          ·rcases hcap with⟨h0,_⟩|⟨p,hp,_,_,hcs0⟩
           ·omega
           ·obtain⟨cs0,b1,b2,b3,b4,b5⟩:=old p hp;rw[hcs0]at b1;cases b1;rw[hold _ (V4 hj hr)];exact b4 r j hr hj
          ·rcases hcap with⟨h0,_⟩|⟨p,hp,_,_,hcs0⟩
           ·omega
           ·obtain⟨cs0,b1,b2,b3,b4,b5⟩:=old p hp;rw[hcs0]at b1;cases b1;obtain⟨c1,c2⟩:=b5 (some ⟨w.heap.size,cs'.size,[]⟩) r j x hr hx;exact⟨c1,fun v hv=>c2 v (by rw[hold _ (V4 c1 hr)]at hv;exact hv)⟩
         obtain⟨g1,g2⟩:=hm.Qz8 (q:=some ⟨w.heap.size,cs'.size,[]⟩) (w':=w') ho hlive hlv' (fun b hb _=>by rw[hheap,Array.getElem?_push];simp[Nat.ne_of_lt hb]) (by rw[hheap];simp) (fun p' hp'=>by cases hp';exact .inl (ZB _)) hos hio;refine⟨_,_,hr,_,_,[d],[d],M,_,h,?_,g1,g2⟩;exact .sl _ _ 0 _ gc 0 ⟨w.heap.size,cs'.size,[]⟩ (Env.set_self ..) (by simp) (by simpa using hcs) hgc.1 hgc.2
        ·
         obtain⟨p,hp,hbase,hcp,hcs0⟩:∃p,U d=some p∧k=p.block∧c*i.size<=p.cap∧w.heap[p.block]? =some (.cells cs e (0,0)):=by
          rcases hcap with⟨h0,h0'⟩|⟨p,hp,hb,hcp,hcs0⟩
          ·omega
          ·rw[hk]at hb;cases hb;exact⟨p,hp,rfl,hcp,hcs0⟩
         subst hbase;have hnc':n*i.size+news.length<=cs.size:=by rw[hl,<-ZH];exact ZI (J _ hroom) hcs
         generalize hcs':(cs.toList.take (n*i.size)++news++cs.toList.drop (n*i.size+news.length)).toArray=cs' at*;have hget:∀m:Nat,cs'[m]? =if m<n*i.size then cs[m]? else if m<n*i.size+news.length then news[m-n*i.size]? else cs[m]? :=fun m=>by rw[<-hcs',List.getElem?_toArray,Qap _ _ _ _ (by simpa using hnc')];simp only[ZK]
         have hsize:cs'.size=cs.size:=by rw[<-hcs'];simp;omega
         have hheap':(w.setRow p.block cs').heap[p.block]? =some (.cells cs' e (0,0)):=setRow_heap w p.block cs cs' e (0,0) hcs0;obtain⟨cs0,b1,b2,b3,b4,b5⟩:=old p hp;rw[hcs0]at b1;cases b1;have hos:Q9 M (U.set d (some p)) (w.setRow p.block cs') d (Xc (o.forget [d]) n (src.forget [d])):=by
          refine Qlu (p':=p) (e:=e) hz' hn' (f3.trans hty) (Env.set_self ..) hheap' (by rw[hsize];exact b2) (by rw[Src.Qcz];exact ZI (J _ hroom) hcp)
           (fun r j hr hj=>?_) (fun k hk=>?_) hl' hone (fun r j x hr hx=>?_) (srcs _)
          ·rw[hget,if_pos (V4 hj hr)];exact b4 r j hr hj
          ·rw[Src.Qcz,<-hl]at hk;rw[hget,if_neg (by omega),if_pos (by omega)];congr 1;omega
          ·obtain⟨c1,c2⟩:=b5 (some p) r j x hr hx;exact⟨c1,fun v hv=>c2 v (by rw[hget,if_pos (V4 c1 hr)]at hv;exact hv)⟩
         obtain⟨g1,g2⟩:=hm.Qz8 (q:=some p) (w':=w.setRow p.block cs') ho hlive hlv' (fun b hb hbp=>Qep (hbp p hp)) (by rw[setRow_size];exact ZB _) (fun p' hp'=>by cases hp';exact .inr ⟨p,hp,rfl⟩) hos;refine⟨_,_,hr,_,_,[d],[d],M,_,h,?_,g1,g2⟩;exact .sl _ _ 0 _ c 0 p (Env.set_self ..) (by simp) (by simpa using hcp) hroom hc6
       ·exact h.elim
     ·rename_i row l;split at h
      ·rename_i hrl;simp only[Qo.holds,decide_eq_true_eq]at h;obtain⟨hpos,hb,h63,h⟩:=h;have hll:(Qw row l).length=l.length:=by simp[Qw]
       obtain⟨base,n,rfl,hp⟩:∃base n,v=.slice base n n∧Z4 M (.slice base n n) (.rsl row.length (Qw row l)):=by
        cases ha with
        |pv hp=>cases hp with
         |csl a n _ _ hp=>exact⟨a,n,rfl,hp⟩
       obtain⟨base',cb,olds,hbv,hlo,hbh,hbone,hbrep⟩:=(Qwv (sz:=i.size) hm (Qf.pv hp) (s:=.pure (Qw row l)) (by simp[Uo,hrl])).news hsz;have hsl:(Src.pure (Qw row l)).len=l.length:=by simp[Src.len,hll]
       rw[hsl]at hbv hlo hbh hbrep;have hbv':=hbv;cases hbv;obtain⟨cs',gc,w',hr,⟨hheap,hio⟩,hgc,hcs,hold,hnew⟩:=Ynm (P:=P) (w:=w) (ty:=ty) (c':=c') htt.und ht hsz hlo hbh hpos hl hcell hone hb h63;have hle:∀q,U.le (U.set H.length q):=fun q s p hp=>by
        by_cases e:s=H.length
        ·subst e;rw[hm.fresh _ (ZB _)]at hp;cases hp
        ·rw[Env.Xj _ _ e];exact hp
       have hlt:∀r j,r<l.length->j<i.size->∃u,olds[r*i.size+j]? =some u:=fun r j hr hj=>by have:=V4 hj hr;exact⟨olds[r*i.size+j]'(by rw[hlo];exact this),by simp[hlo,this]⟩
       have ho:Q9 M (U.set H.length (some ⟨w.heap.size,cs'.size,[]⟩)) w' H.length (Xc (.vec e i.size (Qw row l)) l.length src):=by
        refine Qlu (p':=⟨w.heap.size,cs'.size,[]⟩) (e:=e) (sz:=i.size) rfl (by simp[Qb.len,hll]) rfl (Env.set_self ..) (by rw[hheap];simp) (ZB _) (ZI (J _ hgc.1) hcs)
         (fun r j hr hj=>?_) hnew hl hone (fun r j x hr hx=>?_) (fun r j x hr hx=>?_)
        ·rw[hold _ (V4 hj hr)];obtain⟨u,hu⟩:=hlt r j hr hj;exact⟨u,hu,hbone u (QH hu)⟩
        ·have hx':((Src.pure (Qw row l)).rows.getD r [])[j]? =some x:=by
          simp only[Qb.row,Src.rows,ZF,I]at hx⊢;cases hq:l[r]? with
          |none=>rw[hq]at hx;simp at hx
          |some q=>rw[hq]at hx;simpa using hx
         obtain⟨q1,q2⟩:=hbrep r j x hr hx';exact⟨q1,fun v hv=>(q2 v (by rw[hold _ (V4 q1 hr)]at hv;exact hv)).mono M.le_refl (hle _)⟩
        ·obtain⟨q1,q2⟩:=hrep r j x hr hx;exact⟨q1,fun u hu=>(q2 u hu).mono M.le_refl (hle _)⟩
       obtain⟨g1,g2⟩:=hm.alloc hheap ho hio;refine⟨_,_,hr,_,_,[],[],M,_,h,?_,g1,g2⟩;exact .sl _ _ 0 _ gc 0 ⟨w.heap.size,cs'.size,[]⟩ (Env.set_self ..) (by simp) (by simpa using hcs) hgc.1 hgc.2
      ·exact h.elim
     ·exact h.elim
 ·exact h.elim
theorem Mem.plain{M:Qd}{U:Env}{H:List Qb}{w:World}:Mem M U (H.map Qb.plain) w↔Mem M U H w:=by
 have back:∀(s:Nat) (o:Qb),(H.map Qb.plain)[s]? =some o->∃x,H[s]? =some x∧o=x.plain:=fun s o ho=>by simp only[I,C]at ho;obtain⟨x,hx,rfl⟩:=ho;exact⟨x,hx,rfl⟩
 have there:∀(s:Nat) (o:Qb),H[s]? =some o->(H.map Qb.plain)[s]? =some o.plain:=fun s o ho=>by simp[ho]
 constructor
 ·intro h;exact⟨h.imm,fun s o ho=>Q9.plain.1 (h.own s _ (there s o ho)),fun s o p b ho hl hp hb=>h.seps s _ p b (there s o ho) (by rw[(W0 o).2.2.2.1];exact hl) hp hb,
   fun s s' o o' p p' b ho ho' hl hl' hp hp' hb hb'=>h.diss s s' _ _ p p' b (there s o ho) (there s' o' ho') (by rw[(W0 o).2.2.2.1];exact hl) (by rw[(W0 o').2.2.2.1];exact hl') hp hp' hb hb',
   fun s hs=>h.fresh s (by simpa using hs),fun s o p b ho hl hp hb=>h.lts s _ p b (there s o ho) (by rw[(W0 o).2.2.2.1];exact hl) hp hb⟩
 ·intro h;refine⟨h.imm,fun s o ho=>?_,fun s o p b ho hl hp hb=>?_,fun s s' o o' p p' b ho ho' hl hl' hp hp' hb hb'=>?_,fun s hs=>h.fresh s (by simpa using hs),fun s o p b ho hl hp hb=>?_⟩
  ·obtain⟨x,hx,rfl⟩:=back s o ho;exact Q9.plain.2 (h.own s x hx)
  ·obtain⟨x,hx,rfl⟩:=back s o ho;rw[(W0 x).2.2.2.1]at hl;exact h.seps s x p b hx hl hp hb
  ·obtain⟨x,hx,rfl⟩:=back s o ho;obtain⟨y,hy,rfl⟩:=back s' o' ho';rw[(W0 x).2.2.2.1]at hl;rw[(W0 y).2.2.2.1]at hl';exact h.diss s s' x y p p' b hx hy hl hl' hp hp' hb hb'
  ·obtain⟨x,hx,rfl⟩:=back s o ho;rw[(W0 x).2.2.2.1]at hl;exact h.lts s x p b hx hl hp hb
theorem J7.plain{U:Env}{H:List Qb}{b:Nat}:J7 U (H.map Qb.plain) b↔J7 U H b:=by
 constructor
 ·rintro ⟨s,o,p,h1,h2,h3,h4⟩
  simp only[I,C]at h1;obtain⟨x,hx,rfl⟩:=h1;rw[(W0 x).2.2.2.1]at h2;exact⟨s,x,p,hx,h2,h3,h4⟩
 ·rintro ⟨s,o,p,h1,h2,h3,h4⟩
  exact⟨s,o.plain,p,by simp[h1],by rw[(W0 o).2.2.2.1];exact h2,h3,h4⟩
theorem Fr.plain{M M':Qd}{U U':Env}{H H':List Qb}{w w':World}{n:Nat}{t f:List Nat}(h:Fr M U (H.map Qb.plain) w M' U' (H'.map Qb.plain) w' n t f):Fr M U H w M' U' H' w' n t f:=by refine⟨h.imm,fun b o a c=>(h.new b o a c).imp id J7.plain.1,fun b hb=>(h.own b (J7.plain.2 hb)).imp id J7.plain.1,fun b hb hn=>h.same b hb (fun hh=>hn (J7.plain.1 hh)),h.grow,fun s o hs hx ho hl=>?_,h.stay,h.io⟩;obtain⟨⟨o',h1,h2⟩,h3⟩:=h.keep s o.plain hs hx (by simp[ho]) (by rw[(W0 o).2.2.2.1];exact hl);simp only[I,C]at h1;obtain⟨x,hx',rfl⟩:=h1;rw[(W0 x).2.2.2.1]at h2;exact⟨⟨x,hx',h2⟩,h3⟩
theorem Zcr(H:List Qb):(H.map Qb.plain).map Qb.plain=H.map Qb.plain:=by rw[ZZ];exact ZP fun o _=>Qna o
theorem Qz.plain{P:Program}{S:Sem Value}{M:Qd}{U:Env}{H:List Qb}{w:World}{K:Qv}(h:Qz P S M U (H.map Qb.plain) w fun x H1 t f=>∃H',H1.map Qb.plain=H'.map Qb.plain∧K x H' t f):Qz P S M U H w K:=by
 obtain⟨v,w',hr,x,H1,t,f,M',U',⟨H',e,hk⟩,hs,hm,hf⟩:=h;refine⟨v,w',hr,x,H',t,f,M',U',hk,hs,?_,?_⟩
 ·rw[<-Mem.plain,<-e,Mem.plain];exact hm
 ·rw[ZQ]at hf;refine Fr.plain ?_;rw[<-e];have h2:Fr M U (H.map Qb.plain) w M' U' ((H1.map Qb.plain)) w' H.length t f:=by refine⟨hf.imm,hf.new,fun b hb=>hf.own b (J7.plain.1 hb),hf.same,hf.grow,fun s o hs hx ho hl=>?_,hf.stay,hf.io⟩;obtain⟨⟨o',h1,h2⟩,h3⟩:=hf.keep s o hs hx ho hl;exact⟨⟨o'.plain,by simp[h1],by rw[(W0 o').2.2.2.1];exact h2⟩,h3⟩
  exact h2
def Jz(row:List Ty)(ps:List (List PV))(l:List (Qj row)):Prop:=
 l.length=ps.length∧∀(i:Nat) (r':List PV),(Qw row l)[i]? =some r'->∃r,ps[i]? =some r∧∀(j:Nat) (q:PV),r'[j]? =some q->∃p,r[j]? =some p∧∀(M:Qd) (v:Value),Z4 M v p->Z4 M v q
theorem Jz.refl(row:List Ty)(l:List (Qj row)):Jz row (Qw row l) l:=⟨by simp[Qw],fun i r' h=>⟨r',h,fun j q hq=>⟨q,hq,fun _ _ h=>h⟩⟩⟩
theorem Jz.of{row:List Ty}{ps:List (List PV)}{l:List (Qj row)}(h:Wn (ofRow row) ps=some l):Jz row ps l:=by obtain⟨g1,g2⟩:=Qj7 h;refine⟨g1,fun i r' hr=>?_⟩;simp only[Qw,I,C]at hr;obtain⟨y,hy,rfl⟩:=hr;obtain⟨q,hq,hq2⟩:=g2 i y hy;exact⟨q,hq,(Qf8 hq2).2⟩
theorem Jz.append{row:List Ty}{ps:List (List PV)}{l:List (Qj row)}(l0:List (Qj row))(h:Jz row ps l):Jz row (Qw row l0++ps) (l0++l):=by
 refine⟨by simp[Qw,h.1],fun i r' hr=>?_⟩;simp only[Qw,ZY]at hr⊢;rw[QI]at hr⊢;split at hr
 ·rename_i hlt;rw[if_pos hlt];exact⟨r',hr,fun j q hq=>⟨q,hq,fun _ _ h=>h⟩⟩
 ·rename_i hlt;rw[if_neg hlt];exact h.2 _ r' hr
def Qi9(H:List Qb)(row:List Ty)(x:SV):Option (Bool×List (Qj row)):=
 match x with
 |.pv (.tsl row' l)=>(K5 row' row l).map fun l=>(true,l)
 |.pv (.rsl sz rows)=>if sz=row.length then(Wn (ofRow row) rows).map fun l=>(true,l)else none
 |.pv (.lit v)=>if Value.isNil v=true then some (true,[])else none
 |.sl s sz st len=>if sz=row.length then match H[s]? with
   |some (.tvec _ row' l)=>(K5 row' row l).map fun l=>(decide (st+len<=l.length),(l.drop st).take len)
   |some (.vec _ so rows)=>if so=row.length∧st+len<=rows.length then(Wn (ofRow row) ((rows.drop st).take len)).map fun l=>(true,l)else none
   |_=>none
  else none
 |_=>none
theorem Qoc{H:List Qb}{row:List Ty}{x:SV}{l:List (Qj row)}{c:Bool}(h:Qi9 H row x=some (c,l))(hc:c=true):∃ps,Uo (H.map Qb.plain) row.length x.Yw=some (.pure ps)∧Jz row ps l:=by
 unfold Qi9 at h;split at h
 ·rename_i row' l0;simp only[C,QB]at h;obtain⟨l1,h1,_,rfl⟩:=h;obtain⟨e,rfl⟩:=Qa9 h1;subst e;exact⟨Qw row' l0,by simp[SV.Yw,Uo],Jz.refl _ _⟩
 ·rename_i sz rows;split at h
  ·rename_i e;simp only[C,QB]at h;obtain⟨l1,h1,_,rfl⟩:=h;exact⟨rows,by simp[SV.Yw,Uo,e],Jz.of h1⟩
  ·cases h
 ·rename_i v;split at h
  ·rename_i hn;cases h;unfold Value.isNil at hn;split at hn
   ·simp only[ZG]at hn;cases ZD hn.1;cases ZD hn.2;exact⟨[],by simp[SV.Yw,Uo],Jz.refl row []⟩
   ·cases hn
  ·cases h
 ·rename_i s sz st len;split at h
  ·rename_i e;split at h
   ·rename_i ty row' l0 hs;simp only[C,QB]at h;obtain⟨l1,h1,hcc,rfl⟩:=h;obtain⟨e2,rfl⟩:=Qa9 h1;subst e2;rw[<-hcc]at hc;have hle:st+len<=l0.length:=of_decide_eq_true hc;refine⟨((Qw row' l0).drop st).take len,?_,?_⟩
    ·simp[SV.Yw,Uo,e,hs,Qb.plain,Qw,hle]
    ·have:Qw row' ((l0.drop st).take len)=((Qw row' l0).drop st).take len:=by simp[Qw,List.map_take,List.map_drop]
     rw[<-this];exact Jz.refl _ _
   ·rename_i ty so rows hs;split at h
    ·rename_i hcond;simp only[C,QB]at h;obtain⟨l1,h1,_,rfl⟩:=h;refine⟨(rows.drop st).take len,?_,Jz.of h1⟩;simp[SV.Yw,Uo,e,hs,Qb.plain,hcond]
    ·cases h
   ·cases h
  ·cases h
 ·cases h
theorem Jz.app{row:List Ty}{ps0 ps:List (List PV)}{l0 l:List (Qj row)}(h0:Jz row ps0 l0)(h:Jz row ps l):Jz row (ps0++ps) (l0++l):=by
 refine⟨by simp[h0.1,h.1],fun i r' hr=>?_⟩;simp only[Qw,ZY]at hr;rw[QI]at hr⊢;rw[ZQ,h0.1]at hr;split at hr
 ·rename_i hlt;rw[if_pos hlt];exact h0.2 i r' hr
 ·rename_i hlt;rw[if_neg hlt];exact h.2 _ r' hr
def Ziu(H:List Qb):SV->Bool
 |.pv (.tsl _ _)=>true
 |.sl s _ _ _=>match H[s]? with
  |some (.tvec _ _ _)=>true
  |_=>false
 |_=>false
def Qph(tab:Qp)(H:List Qb)(t t':Nat)(a x:SV):Qo:=
 match a with
 |.pv (.lit (.slice none 0 0))=>match tab.lookup t with
  |some {desc:=.slice e,..}=>match tab.lookup e with
   |none=>.fail
   |some i=>match i.row with
    |none=>Qad tab H t t' a x
    |some row=>if t'≠t∨i.size=0∨row.length≠i.size then .fail else match Qi9 H row x with
     |none=>Qad tab H t t' a x
     | some (c,l)=>.need c <| .need (decide (l.length * i.bytes <= 140737488355328)) <| .need (decide (l.length <= 9223372036854775807)) <|
       .eff (.sl H.length i.size 0 l.length) (H++[.tvec e row l]) [] []
  |_=>.fail
 |.sl d sz st n=>match H[d]? with
  |some (.tvec ty row l)=>match tab.lookup t with
   |some {desc:=.slice e,..}=>match tab.lookup e with
    |none=>.fail
    |some i=>if t'≠t∨i.size=0∨row.length≠i.size∨sz≠i.size∨ty≠e∨st≠0 then .fail else match Qi9 H row x with
     |none=>.fail
     | some (c,l')=>.need c <| .need (decide (n = l.length)) <| .need (decide ((l ++ l').length * i.bytes <= 140737488355328)) <| .need (decide ((l ++ l').length <= 9223372036854775807)) <|
       .eff (.sl d i.size 0 (l++l').length) ((H.map (Qb.forget [d])).set d (.tvec ty row (l++l'))) [d] [d]
   |_=>.fail
  |some (.vec ty so rows0)=>match Ziu H x with
   |false=>Qad tab H t t' a x
   |true=>match tab.lookup t with
    |some {desc:=.slice e,..}=>match tab.lookup e with
     |none=>.fail
     |some i=>match i.row with
      |none=>.fail
      |some row=>if t'≠t∨i.size=0∨row.length≠i.size∨sz≠i.size∨ty≠e∨st≠0∨so≠i.size then .fail else match Qi9 H row x with
       |none=>.fail
       |some (c,l')=>match Wn (ofRow row) rows0 with
        |none=>.fail
        |some l=>.need c <| .need (decide (n=rows0.length)) <| .need (decide ((l++l').length*i.bytes<=140737488355328)) <| .need (decide ((l++l').length<=9223372036854775807)) <|
         .eff (.sl d i.size 0 (l++l').length) ((H.map (Qb.forget [d])).set d (.tvec ty row (l++l'))) [d] [d]
    |_=>.fail
  |_=>Qad tab H t t' a x
 |.pv (.csl row l)=>match tab.lookup t with
  |some {desc:=.slice e,..}=>match tab.lookup e with
   |none=>.fail
   |some i=>if t'≠t∨i.size=0∨row.length≠i.size then .fail else match Qi9 H row x with
    |none=>.fail
    | some (c,l')=>.need c <| .need (decide (0 < l'.length)) <| .need (decide ((l ++ l').length * i.bytes <= 140737488355328)) <| .need (decide ((l ++ l').length <= 9223372036854775807)) <|
      .eff (.sl H.length i.size 0 (l++l').length) (H++[.tvec e row (l++l')]) [] []
  |_=>.fail
 |_=>Qad tab H t t' a x
theorem Qob(H:List Qb)(d:Nat)(o:Qb):(H.set d o).map Qb.plain=(H.map Qb.plain).set d o.plain:=by rw[List.map_set]
theorem Zbg{P:Program}{tab:Qp}(htab:Q6 P tab){M:Qd}{U:Env}{H:List Qb}{w:World}{K:Qv}(hm:Mem M U H w){t t' ty:Nat}{a x:SV}{v u:Value}(ha:Qf M U v a)(hx:Qf M U u x)
  (h:(Qph tab H t t' a x).holds H K):Qz P (ZE #[t,t'] ty #[v,u]) M U H w K:=by
 unfold Qph at h;split at h
 ·split at h
  ·rename_i e sz' by' zr rw' hte;split at h
   ·exact h.elim
   ·rename_i i hi;split at h
    ·exact Qbz htab hm ha hx h
    ·rename_i row hrow;split at h
     ·exact h.elim
     ·rename_i hcond;split at h
      ·exact Qbz htab hm ha hx h
      ·rename_i c l hsrc;obtain⟨hc,hb,h63,h⟩:=h;have hcond':t'=t∧i.size≠0∧row.length=i.size:=by simp only[not_or,ZS]at hcond;exact hcond
       obtain⟨rfl,hz,hlen⟩:=hcond';obtain⟨ps,hps,hok⟩:=Qoc hsrc hc;refine Qz.plain (Qz.described (Qbz htab (Mem.plain.2 hm) ha hx.Yw ?_));unfold Qad;have hneg:¬(t'≠t'∨i.size=0):=by simp[hz]
       rw[hlen]at hps;simp only[hte,hi,if_neg hneg,hps];refine⟨rfl,by simpa[Src.len,<-hok.1]using hb,by simpa[Src.len,<-hok.1]using h63,?_⟩;have e1:Xc (.vec e i.size []) 0 (.pure ps)=.vec e row.length ps:=by simp[Xc,Qb.plain,hlen]
       rw[e1];have e2:(Src.pure ps).len=l.length:=by simp[Src.len,hok.1]
       rw[e2];refine Qrz (K:=fun y H1=>∃H',H1.map Qb.plain=H'.map Qb.plain∧K y H' [] []) hok.1 hok.2 ⟨H++[.tvec e row l],?_,(by rw[ZQ];exact h)⟩;simp only[ZY,Zcr]
  ·exact h.elim
 ·rename_i d sz st n;split at h
  ·rename_i oty row l hd;split at h
   ·rename_i e sz' by' zr rw' hte;split at h
    ·exact h.elim
    ·rename_i i hi;split at h
     ·exact h.elim
     ·rename_i hcond;split at h
      ·exact h.elim
      ·rename_i c l' hsrc;obtain⟨hc,hn,hb,h63,h⟩:=h;have hn:=of_decide_eq_true hn;subst hn;have hcond':t'=t∧i.size≠0∧row.length=i.size∧sz=i.size∧oty=e∧st=0:=by simp only[not_or,ZS]at hcond;exact hcond
       obtain⟨rfl,hz,hlen,rfl,rfl,rfl⟩:=hcond';obtain⟨ps,hps,hok⟩:=Qoc hsrc hc;refine Qz.plain (Qz.described (Qbz htab (Mem.plain.2 hm) ha hx.Yw ?_));unfold Qad;have hneg:¬(t'≠t'∨i.size=0):=by simp[hz]
       rw[hlen]at hps;have hd':(H.map Qb.plain)[d]? =some (.vec oty row.length (Qw row l)):=by simp[hd,Qb.plain]
       simp only[hte,hi,if_neg hneg,hps,hd'];rw[if_pos (by simp[Qb.Q5,Qb.ty,hlen])];have e2:l.length+(Src.pure ps).len=(l++l').length:=by simp[Src.len,hok.1]
       rw[e2];refine⟨by simp[Qb.len,Qw],hb,h63,?_⟩;have e1:Xc ((Qb.vec oty row.length (Qw row l)).forget [d]) l.length ((Src.pure ps).forget [d])=.vec oty row.length (Qw row l++ps):=by simp[Xc,Qb.plain,Qb.forget,Src.forget,Qw]
       rw[e1];have hdl:d<H.length:=(ZC.1 hd).1;refine⟨_,fun _ _ _ h=>h,.inr ⟨d,.vec oty row.length (Qw row l++ps),.tvec oty row (l++l'),by simp[hdl],rfl,fun M U w hh=>(hh.Qnl (hok.append l).1 (hok.append l).2),?_⟩⟩;refine⟨_,?_,h⟩;rw[List.set_set,Qob,Qob];congr 1;simp only[ZZ];refine ZP fun o _=>?_;simp only[Function.comp,(W0 o).2.2.2.2.2,Qna]
   ·exact h.elim
  ·rename_i oty so rows0 hd;split at h
   ·exact Qbz htab hm ha hx h
   split at h
   ·rename_i e sz' by' zr rw' hte;split at h
    ·exact h.elim
    ·rename_i i hi;split at h
     ·exact h.elim
     ·rename_i row hrow;split at h
      ·exact h.elim
      ·rename_i hcond;split at h
       ·exact h.elim
       ·rename_i c l' hsrc;split at h
        ·exact h.elim
        ·rename_i l hl;obtain⟨hc,hn,hb,h63,h⟩:=h;have hn:=of_decide_eq_true hn;subst hn;have hcond':t'=t∧i.size≠0∧row.length=i.size∧sz=i.size∧oty=e∧st=0∧so=i.size:=by simp only[not_or,ZS]at hcond;exact hcond
         obtain⟨rfl,hz,hlen,rfl,rfl,rfl,rfl⟩:=hcond';obtain⟨ps,hps,hok⟩:=Qoc hsrc hc;have hok0:=Jz.of hl;refine Qz.plain (Qz.described (Qbz htab (Mem.plain.2 hm) ha hx.Yw ?_));unfold Qad;have hneg:¬(t'≠t'∨i.size=0):=by simp[hz]
         rw[hlen]at hps;have hd':(H.map Qb.plain)[d]? =some (.vec oty i.size rows0):=by simp[hd,Qb.plain]
         simp only[hte,hi,if_neg hneg,hps,hd'];rw[if_pos (by simp[Qb.Q5,Qb.ty])];have e2:rows0.length+(Src.pure ps).len=(l++l').length:=by simp[Src.len,hok.1,hok0.1]
         rw[e2];refine⟨by simp[Qb.len],hb,h63,?_⟩;have e1:Xc ((Qb.vec oty i.size rows0).forget [d]) rows0.length ((Src.pure ps).forget [d])=.vec oty row.length (rows0++ps):=by simp[Xc,Qb.plain,Qb.forget,Src.forget,hlen]
         rw[e1];have hdl:d<H.length:=(ZC.1 hd).1;refine⟨_,fun _ _ _ h=>h,.inr ⟨d,.vec oty row.length (rows0++ps),.tvec oty row (l++l'),by simp[hdl],rfl,fun M U w hh=>(hh.Qnl (hok0.app hok).1 (hok0.app hok).2),?_⟩⟩;refine⟨_,?_,h⟩;rw[List.set_set,Qob,Qob];congr 1;simp only[ZZ];refine ZP fun o _=>?_;simp only[Function.comp,(W0 o).2.2.2.2.2,Qna]
   ·exact h.elim
  ·exact Qbz htab hm ha hx h
 ·rename_i row l;split at h
  ·rename_i e sz' by' zr rw' hte;split at h
   ·exact h.elim
   ·rename_i i hi;split at h
    ·exact h.elim
    ·rename_i hcond;split at h
     ·exact h.elim
     ·rename_i c l' hsrc;obtain⟨hc,hpos,hb,h63,h⟩:=h;have hcond':t'=t∧i.size≠0∧row.length=i.size:=by simp only[not_or,ZS]at hcond;exact hcond
      obtain⟨rfl,hz,hlen⟩:=hcond';obtain⟨ps,hps,hok⟩:=Qoc hsrc hc;refine Qz.plain (Qz.described (Qbz htab (Mem.plain.2 hm) ha hx.Yw ?_));unfold Qad;have hneg:¬(t'≠t'∨i.size=0):=by simp[hz]
      rw[hlen]at hps;simp only[hte,hi,if_neg hneg,hps,if_pos hlen];have e2:l.length+(Src.pure ps).len=(l++l').length:=by simp[Src.len,hok.1]
      rw[e2];refine⟨by simpa[Src.len,<-hok.1]using hpos,hb,h63,?_⟩;have e1:Xc (.vec e i.size (Qw row l)) l.length (.pure ps)=.vec e row.length (Qw row l++ps):=by simp[Xc,Qb.plain,hlen,Qw]
      rw[e1];refine Qrz (K:=fun y H1=>∃H',H1.map Qb.plain=H'.map Qb.plain∧K y H' [] []) (hok.append l).1 (hok.append l).2 ⟨H++[.tvec e row (l++l')],?_,(by rw[ZQ];exact h)⟩;simp only[ZY,Zcr]
  ·exact h.elim
 ·exact Qbz htab hm ha hx h
end Go.Sx
section
namespace Go.Sx
open Go
def Qb.Km:Qb->Bool
 |.vec ..=>true
 |.tvec ..=>true
 |.mix ..=>true
 |_=>false
def Za3(U:Env)(H:List Qb)(n b:Nat):Prop:=∃s o p,n<=s∧H[s]? =some o∧o.Km=true∧U s=some p∧p.block=b
open Classical in
noncomputable def Qd.sealing(M:Qd)(U:Env)(H:List Qb)(n:Nat)(w:World):Qd:=fun b=>
 match M b with
 |some o=>some o
 |none=>if Za3 U H n b then w.heap[b]? else none
theorem Qd.Ws(M:Qd)(U:Env)(H:List Qb)(n:Nat)(w:World):M.le (M.sealing U H n w):=fun b o h=>by simp[Qd.sealing,h]
theorem Qd.Kl{M:Qd}{U:Env}{H:List Qb}{n:Nat}{w:World}{b:Nat}{o:Obj}(h0:M b=none)(h:M.sealing U H n w b=some o):Za3 U H n b∧w.heap[b]? =some o:=by
 unfold Qd.sealing at h;rw[h0]at h;simp only at h;split at h
 ·rename_i hs;exact⟨hs,h⟩
 ·cases h
theorem Qd.Zmd{M:Qd}{U:Env}{H:List Qb}{n:Nat}{w:World}(hm:Mem M U H w){s:Nat}{o:Qb}{p:Place}(hn:n<=s)(hs:H[s]? =some o)(ho:o.Km=true)(hp:U s=some p):
  M.sealing U H n w p.block=w.heap[p.block]? :=by
 have hl:o.live=true:=by cases o<;>simp_all [Qb.Km,Qb.live]
 unfold Qd.sealing;rw[hm.sep s o p hs hl hp];simp only;rw[if_pos ⟨s,o,p,hn,hs,ho,hp,rfl⟩]
theorem Qd.Qti{M:Qd}{b i:Nat}{cs:Array Value}{ty:TypeId}{f:Nat×Nat}(h:M b=some (.cells cs ty f)):M.cell b i=cs[i]? :=by simp[Qd.cell,h]
def Qe.sv:(a:Qe)->a.El->SV
 |.val t,x=>.pv (t.pv x)
 |.agg row,x=>SV.X7 ((Zs row x).map .pv)
theorem Qe.Zlz{M:Qd}{U:Env}{v:Value}:∀{a:Qe} {x:a.El},Qf M U v (a.raw x)->Qf M U v (a.sv x)
 |.val t,x,h=>h
 |.agg row,x,h=>by
  cases h with
  |agg cs _ hl hr=>have:=Qf.X7 (M:=M) (U:=U) (cs:=cs.toList) (l:=(Zs row x).map .pv) (by simpa using hl) (fun i v y hv hy=>hr i v y (by rw[<-ZK];exact hv) hy);rw[Array.toArray_toList]at this;exact this
def Qmu{α:Type}(f:PV->Option α):SV->Option (Bool×α)
 |.pv p=>match f p with
  |some y=>some (true,y)
  |none=>none
 |_=>none
def Qbb{α β:Type}(f:α->Option (Bool×β)):List α->Option (Bool×List β)
 |[]=>some (true,[])
 |x::l=>match f x with
  |none=>none
  |some a=>match Qbb f l with
   |none=>none
   |some b=>some (a.1&&b.1,a.2::b.2)
def Qj8(H:List Qb)(n:Nat)(row:List Ty)(f:List SV->Option (Bool×Qj row)):SV->Option (Bool×List (Qj row))
 |.pv p=>match(Ty.seq row).of p with
  |some y=>some (true,y)
  |none=>none
 |.sl s sz st len=>match Nat.ble n s&&QM sz row.length with
  |false=>none
  |true=>match H[s]? with
   |some (.tvec _ row' l)=>match K5 row' row l with
    |some l=>some (decide (st+len<=l.length),(l.drop st).take len)
    |none=>none
   |some (.vec _ so rows)=>match QM so row.length&&Nat.ble (st+len) rows.length with
    |false=>none
    |true=>match Wn (ofRow row) ((rows.drop st).take len)with
     |some l=>some (true,l)
     |none=>none
   |some (.mix _ so rows)=>match QM so row.length&&Nat.ble (st+len) rows.length with
    |false=>none
    |true=>Qbb f ((rows.drop st).take len)
   |_=>none
 |_=>none
def Qs8:List SV->Option (Bool×Unit)
 |[]=>some (true,())
 |_=>none
def Qyr{α:Type}(f:SV->Option (Bool×α)):List SV->Option (Bool×α)
 |[x]=>f x
 |_=>none
def Qit{α β:Type}(f:SV->Option (Bool×α))(g:List SV->Option (Bool×β)):List SV->Option (Bool×(α×β))
 |x::xs=>match f x with
  |none=>none
  |some a=>match g xs with
   |none=>none
   |some b=>some (a.1&&b.1,(a.2,b.2))
 |[]=>none
mutual
def rdT(H:List Qb)(n:Nat):(t:Ty)->SV->Option (Bool×t.El)
 |.int k=>Qmu (Qpx k)
 |.bool=>Qmu Qpi
 |.str=>Qmu Qqr
 |.seq row=>Qj8 H n row (Va H n row)
def Va(H:List Qb)(n:Nat):(ts:List Ty)->List SV->Option (Bool×Qj ts)
 |[]=>Qs8
 |[t]=>Qyr (rdT H n t)
 |t::t'::ts=>Qit (rdT H n t) (Va H n (t'::ts))
end
theorem Ylw{M:Qd}{U:Env}{H:List Qb}{w:World}{n:Nat}(hm:Mem M U H w){s sz st len:Nat}{o:Qb}{v:Value}{ps:List (List PV)}(hns:n<=s)(hs:H[s]? =some o)(hro:o.Km=true)(hz:o.Q5 =some sz)
  (hfit:st+len<=o.len) (hpl:ps.length=len)
  (hps:∀(i:Nat) (r:List PV),ps[i]? =some r->r.length<=sz∧∀(j:Nat) (q:PV),r[j]? =some q->∃y,(o.row (st+i))[j]? =some y∧∀u,Qf M U u y->Z4 (M.sealing U H n w) u q)
  (hr:Qf M U v (.sl s sz st len)):Z4 (M.sealing U H n w) v (.rsl sz ps):=by
 cases hr with
 |slz=>
  have:ps=[]:=ZW hpl;subst this;rename_i a;cases a with
  |none=>exact .rnil sz
  |some a=>exact .remp a 0 sz
 |sl _ _ _ _ c k' p hp hk hc hn' h6=>
  obtain⟨cs,ty,a1,a2,a3,a4,a5⟩:=((hm.own s o hs).rowOf hz hp).ex;have hM:M.sealing U H n w p.block=some (.cells cs ty (0,0)):=by rw[Qd.Zmd hm hns hs hro hp];exact a1
  refine .rsl p.block k' c sz len ps hpl.symm hn' (fun i j hi hj=>?_) (fun i r j q u hi hj hcell=>?_) (fun i r hi=>(hps i r hi).1)
  ·obtain⟨u,hu,hone⟩:=a4 (st+i) j (by omega) hj;refine⟨u,?_,hone⟩;rw[Qd.Qti hM,hk,<-ZH];exact hu
  ·obtain⟨g2,g3⟩:=hps i r hi;obtain⟨y,y1,y2⟩:=g3 j q hj;have hlt:i<ps.length:=(ZC.1 hi).1;obtain⟨b1,b2⟩:=a5 (st+i) j y (by omega) y1;rw[Qd.Qti hM,hk,<-ZH]at hcell;exact y2 u (b2 u hcell)
def Kh(M:Qd)(U:Env)(M2:Qd)(ts:List Ty)(xs:List SV)(y:Qj ts):Prop:=
 xs.length=ts.length∧∀(j:Nat) (q:PV),(Zs ts y)[j]? =some q->∃x,xs[j]? =some x∧∀u,Qf M U u x->Z4 M2 u q
def Qci(M:Qd)(U:Env)(M2:Qd)(row:List Ty)(rs:List (List SV))(l:List (Qj row)):Prop:=
 l.length=rs.length∧∀(i:Nat) (y:Qj row),l[i]? =some y->∃r,rs[i]? =some r∧Kh M U M2 row r y
theorem Kh.of{M:Qd}{U:Env}{M2:Qd}(hle:M.le M2){ts:List Ty}{r:List PV}{y:Qj ts}(h:ofRow ts r=some y):Kh M U M2 ts (r.map .pv) y:=by
 obtain⟨g1,g2⟩:=Qf8 h;refine⟨by rw[ZQ,<-g1,V3],fun j q hq=>?_⟩;obtain⟨p,hp,himp⟩:=g2 j q hq;refine⟨.pv p,by simp[hp],fun u hu=>?_⟩;cases hu with
 |pv hu=>exact(himp M u hu).mono hle
theorem Qci.of{M:Qd}{U:Env}{M2:Qd}(hle:M.le M2){row:List Ty}{rs:List (List PV)}{l:List (Qj row)}(h:Wn (ofRow row) rs=some l):Qci M U M2 row (rs.map (·.map .pv)) l:=by obtain⟨g1,g2⟩:=Qj7 h;refine⟨by simpa using g1,fun i y hy=>?_⟩;obtain⟨r,hr,hr2⟩:=g2 i y hy;exact⟨r.map .pv,by simp[hr],.of hle hr2⟩
theorem Kh.self{M:Qd}{U:Env}{M2:Qd}(hle:M.le M2){ts:List Ty}(y:Qj ts):Kh M U M2 ts ((Zs ts y).map .pv) y:=by
 refine⟨by simp[V3],fun j q hq=>⟨.pv q,by simp[hq],fun u hu=>?_⟩⟩;cases hu with
 |pv hu=>exact hu.mono hle
theorem Qci.self{M:Qd}{U:Env}{M2:Qd}(hle:M.le M2){row:List Ty}(l:List (Qj row)):Qci M U M2 row ((Qw row l).map (·.map .pv)) l:=by refine⟨by simp[Qw],fun i y hy=>⟨(Zs row y).map .pv,by simp[Qw,hy],.self hle y⟩⟩
theorem Ql5{M:Qd}{U:Env}{H:List Qb}{w:World}{n:Nat}(hm:Mem M U H w){s st len:Nat}{row:List Ty}{o:Qb}{v:Value}{l:List (Qj row)}(hns:n<=s)(hs:H[s]? =some o)(hro:o.Km=true)(hz:o.Q5 =some row.length)
  (hfit:st+len<=o.len) (hl:l.length=len) (hrows:∀(i:Nat) (y:Qj row),l[i]? =some y->Kh M U (M.sealing U H n w) row (o.row (st+i)) y)
  (hr:Qf M U v (.sl s row.length st len)):Z4 (M.sealing U H n w) v ((Ty.seq row).pv l):=by
 refine .tsl row l (Ylw hm hns hs hro hz hfit (by simp[Qw,hl]) (fun i r hi=>?_) hr);simp only[Qw,I,C]at hi;obtain⟨y,hy,rfl⟩:=hi;obtain⟨g1,g2⟩:=hrows i y hy;exact⟨by rw[V3];exact ZB _,g2⟩
def Qe7(M:Qd)(U:Env)(M2:Qd){α:Type}(f:SV->Option (Bool×α))(g:α->PV):Prop:=
 ∀(x:SV) (c:Bool) (y:α) (v:Value),f x=some (c,y)->c=true->Qf M U v x->Z4 M2 v (g y)
def Qb0(M:Qd)(U:Env)(M2:Qd)(ts:List Ty)(f:List SV->Option (Bool×Qj ts)):Prop:=
 ∀(xs:List SV) (c:Bool) (y:Qj ts),f xs=some (c,y)->c=true->Kh M U M2 ts xs y
theorem Qhl{M:Qd}{U:Env}{M2:Qd}(hle:M.le M2){α:Type}{f:PV->Option α}{g:α->PV}(hf:Qdr f g):Qe7 M U M2 (Qmu f) g:=by
 intro x c y v h hc hr;unfold Qmu at h;split at h
 ·split at h
  ·rename_i y' hy;cases h;cases hr with
   |pv hp=>exact(hf _ _ hy M v hp).mono hle
  ·cases h
 ·cases h
theorem Qpu{M:Qd}{U:Env}{M2:Qd}{row:List Ty}{f:List SV->Option (Bool×Qj row)}(hf:Qb0 M U M2 row f):∀(rs:List (List SV)) (c:Bool) (l:List (Qj row)),Qbb f rs=some (c,l)->c=true->Qci M U M2 row rs l
 |[],c,l,h,hc=>by cases h;exact⟨rfl,fun i y hy=>by simp at hy⟩
 |r::rs,c,l,h,hc=>by
  simp only[Qbb]at h;split at h
  ·cases h
  ·rename_i a h1;split at h
   ·cases h
   ·rename_i b h2;cases h;rw[ZG]at hc;obtain⟨g1,g2⟩:=Qpu hf rs b.1 b.2 h2 hc.2;refine⟨by simp[g1],fun i y hy=>?_⟩;cases i with
    |zero=>simp at hy;subst hy;exact⟨r,rfl,hf _ a.1 a.2 h1 hc.1⟩
    |succ i=>simp at hy;obtain⟨r',q1,q2⟩:=g2 i y hy;exact⟨r',by simpa using q1,q2⟩
theorem Zs6{M:Qd}{U:Env}{H:List Qb}{w:World}{n:Nat}(hm:Mem M U H w){row:List Ty}{f:List SV->Option (Bool×Qj row)}(hf:Qb0 M U (M.sealing U H n w) row f):Qe7 M U (M.sealing U H n w) (Qj8 H n row f) (Ty.seq row).pv:=by
 have hle:=Qd.Ws M U H n w;intro x c y v h hc hr;unfold Qj8 at h;split at h
 ·split at h
  ·rename_i y' hy;cases h;cases hr with
   |pv hp=>exact(Ty.Zab (t:=.seq row) hy hp).mono hle
  ·cases h
 ·rename_i s sz st len;split at h
  ·cases h
  ·rename_i e2;rw[ZG]at e2;have hns:=ZT e2.1;have hsz:=ZD e2.2;subst hsz;split at h
   ·rename_i ty row' l ho;split at h
    ·rename_i l' hcast;cases h;obtain⟨e3,rfl⟩:=Qa9 hcast;subst e3;have hfit:=of_decide_eq_true hc;refine Ql5 hm hns ho rfl rfl hfit (by simp;simp at hfit;omega) (fun i y hy=>?_) hr;rw[ZA]at hy;split at hy
     ·rw[ZJ]at hy;have:(Qb.tvec ty row' l).row (st+i)=(Zs row' y).map .pv:=by simp only[Qb.row,ZF,hy,Option.getD_some]
      rw[this];exact .self hle y
     ·cases hy
    ·cases h
   ·rename_i ty so rows ho;split at h
    ·cases h
    ·rename_i e3;rw[ZG]at e3;have hso:=ZD e3.1;have hfit:=ZT e3.2;split at h
     ·rename_i l hl;cases h;have hrf:=Qci.of (M:=M) (U:=U) hle hl;refine Ql5 hm hns ho rfl (by simp[Qb.Q5,hso]) hfit (by rw[hrf.1];simp;omega) (fun i y hy=>?_) hr;obtain⟨r,g1,g2⟩:=hrf.2 i y hy;simp only[I,C]at g1;obtain⟨r0,g1,rfl⟩:=g1;rw[ZA]at g1;split at g1
      ·rw[ZJ]at g1;have:(Qb.vec ty so rows).row (st+i)=r0.map .pv:=by simp[Qb.row,ZF,g1]
       rw[this];exact g2
      ·cases g1
     ·cases h
   ·rename_i ty so rows ho;split at h
    ·cases h
    ·rename_i e3;rw[ZG]at e3;have hso:=ZD e3.1;have hfit:=ZT e3.2;have hrf:=Qpu hf _ _ _ h hc;refine Ql5 hm hns ho rfl (by simp[Qb.Q5,hso]) hfit (by rw[hrf.1];simp;omega) (fun i y hy=>?_) hr;obtain⟨r,g1,g2⟩:=hrf.2 i y hy;rw[ZA]at g1;split at g1
     ·rw[ZJ]at g1;have:(Qb.mix ty so rows).row (st+i)=r:=by simp[Qb.row,ZF,g1]
      rw[this];exact g2
     ·cases g1
   ·cases h
 ·cases h
theorem Zcx{M:Qd}{U:Env}{M2:Qd}:Qb0 M U M2 [] Qs8:=by
 intro xs c y h hc;unfold Qs8 at h;split at h
 ·exact⟨rfl,fun j q hq=>by simp[Zs]at hq⟩
 ·cases h
theorem Zlb{M:Qd}{U:Env}{M2:Qd}{t:Ty}{f:SV->Option (Bool×t.El)}(hf:Qe7 M U M2 f t.pv):Qb0 M U M2 [t] (Qyr f):=by
 intro xs c y h hc;match xs,h with
 |[],h=>cases h
 |_::_::_,h=>cases h
 |[x],h=>
  replace h:f x=some (c,y):=h;refine⟨rfl,fun j q hq=>?_⟩;cases j with
  |zero=>simp only[Zs,ZR,Option.some.injEq]at hq;subst hq;exact⟨x,rfl,fun u hu=>hf x c y u h hc hu⟩
  |succ j=>simp[Zs]at hq
theorem Zco{M:Qd}{U:Env}{M2:Qd}{t t':Ty}{ts:List Ty}{f:SV->Option (Bool×t.El)}{g:List SV->Option (Bool×Qj (t'::ts))}(hf:Qe7 M U M2 f t.pv)(hg:Qb0 M U M2 (t'::ts) g):Qb0 M U M2 (t::t'::ts) (Qit f g):=by
 intro xs c y h hc;unfold Qit at h;split at h
 ·rename_i x xs;split at h
  ·cases h
  ·rename_i a h1;split at h
   ·cases h
   ·rename_i b h2;cases h;rw[ZG]at hc;obtain⟨g1,g2⟩:=hg _ b.1 b.2 h2 hc.2;refine⟨by simp only[List.length_cons]at g1⊢;omega,fun j q hq=>?_⟩;have hq:(t.pv a.2::Zs (t'::ts) b.2)[j]? =some q:=hq;cases j with
    |zero=>simp only[ZR,Option.some.injEq]at hq;subst hq;exact⟨x,rfl,fun u hu=>hf x a.1 a.2 u h1 hc.1 hu⟩
    |succ j=>simp only[QD]at hq;obtain⟨z,z1,z2⟩:=g2 j q hq;exact⟨z,by simpa using z1,z2⟩
 ·cases h
theorem Zfc{M:Qd}{U:Env}{H:List Qb}{w:World}{n:Nat}(hm:Mem M U H w):∀(k:Nat),
  (∀(t:Ty),SizeOf.sizeOf t<=k->Qe7 M U (M.sealing U H n w) (rdT H n t) t.pv)∧(∀(ts:List Ty),SizeOf.sizeOf ts<=k->Qb0 M U (M.sealing U H n w) ts (Va H n ts)):=by
 have hle:=Qd.Ws M U H n w;intro k;induction k with
 |zero=>exact⟨fun t ht=>by(cases t<;>simp at ht),fun ts ht=>by(cases ts<;>simp at ht)⟩
 |succ k ih=>
  obtain⟨ih1,ih2⟩:=ih;refine⟨fun t ht=>?_,fun ts ht=>?_⟩
  ·match t,ht with
   |.int k,ht=>exact Qhl hle (Qxd k)
   |.bool,ht=>exact Qhl hle Quf
   |.str,ht=>exact Qhl hle Qvw
   |.seq row,ht=>exact Zs6 hm (ih2 row (by simp at ht;omega))
  ·match ts,ht with
   |[],ht=>exact Zcx
   |[t],ht=>exact Zlb (ih1 t (by simp at ht;omega))
   |t::t'::ts,ht=>exact Zco (ih1 t (by simp at ht;omega)) (ih2 (t'::ts) (by simp at ht⊢;omega))
theorem Qws{M:Qd}{U:Env}{H:List Qb}{w:World}(n:Nat)(hm:Mem M U H w)(t:Ty):Qe7 M U (M.sealing U H n w) (rdT H n t) t.pv:=(Zfc hm _).1 t (ZB _)
theorem Qk1{M:Qd}{U:Env}{H:List Qb}{w:World}(n:Nat)(hm:Mem M U H w)(ts:List Ty):Qb0 M U (M.sealing U H n w) ts (Va H n ts):=(Zfc hm _).2 ts (ZB _)
def Qfr(H:List Qb)(n:Nat)(row:List Ty):SV->Option (Bool×Qj row)
 |.pv (.lit (.agg cs))=>match ofRow row (cs.toList.map .lit)with
  |some y=>some (true,y)
  |none=>none
 |.agg l=>Va H n row l
 |_=>none
def rdA(H:List Qb)(n:Nat):(a:Qe)->SV->Option (Bool×a.El)
 |.val t=>rdT H n t
 |.agg row=>Qfr H n row
theorem Qyt{M:Qd}{U ρ2:Env}{H:List Qb}{w:World}{n:Nat}(hm:Mem M U H w){a:Qe}{x:SV}{c:Bool}{y:a.El}{v:Value}(h:rdA H n a x=some (c,y))(hc:c=true)(hr:Qf M U v x):Qf (M.sealing U H n w) ρ2 v (a.sv y):=by
 cases a with
 |val t=>exact .pv (Qws n hm t x c y v h hc hr)
 |agg row=>
  refine Qe.Zlz ?_;have fin:∀(cs:Array Value) (xs:List SV) (y:Qj row),Kh M U (M.sealing U H n w) row xs y->cs.size=xs.length->(∀(i:Nat) (u:Value) (x:SV),cs[i]? =some u->xs[i]? =some x->Qf M U u x)->Qf (M.sealing U H n w) ρ2 (.agg cs) ((Qe.agg row).raw y):=fun cs xs y hf hl hr=>by refine .agg cs _ (by rw[hl,hf.1];simp[V3]) fun i u z hu hz=>?_;simp only[I,C]at hz;obtain⟨q,hq,rfl⟩:=hz;obtain⟨x,hx,himp⟩:=hf.2 i q hq;exact .pv (himp u (hr i u x hu hx))
  replace h:Qfr H n row x=some (c,y):=h;unfold Qfr at h;split at h
  ·rename_i cs;split at h
   ·rename_i y' hy;cases h;have:=hr.Zt;subst this;refine fin cs _ _ (Kh.of (Qd.Ws M U H n w) hy) (by simp) fun i u x hu hx=>?_;simp only[I,C,ZK]at hx;obtain⟨p,⟨u',hu',rfl⟩,rfl⟩:=hx;rw[hu]at hu';cases hu';exact .pv (.lit _)
   ·cases h
  ·rename_i l;cases hr with
   |agg cs _ hl hr=>exact fin cs l y (Qk1 n hm row _ _ _ h hc) hl hr
  ·cases h
theorem Ya3{M:Qd}{U ρ2:Env}{H:List Qb}{w:World}{n:Nat}(hm:Mem M U H w){a:Qe}{x:SV}{c:Bool}{y:a.El}{v:Value}(h:rdA H n a x=some (c,y))(hc:c=true)(hr:Qf M U v x):Qf (M.sealing U H n w) ρ2 v (a.raw y):=by
 cases a with
 |val t=>exact .pv (Qws n hm t x c y v h hc hr)
 |agg row=>
  have fin:∀(cs:Array Value) (xs:List SV) (y:Qj row),Kh M U (M.sealing U H n w) row xs y->cs.size=xs.length->(∀(i:Nat) (u:Value) (x:SV),cs[i]? =some u->xs[i]? =some x->Qf M U u x)->Qf (M.sealing U H n w) ρ2 (.agg cs) ((Qe.agg row).raw y):=fun cs xs y hf hl hr=>by refine .agg cs _ (by rw[hl,hf.1];simp[V3]) fun i u z hu hz=>?_;simp only[I,C]at hz;obtain⟨q,hq,rfl⟩:=hz;obtain⟨x,hx,himp⟩:=hf.2 i q hq;exact .pv (himp u (hr i u x hu hx))
  replace h:Qfr H n row x=some (c,y):=h;unfold Qfr at h;split at h
  ·rename_i cs;split at h
   ·rename_i y' hy;cases h;have:=hr.Zt;subst this;refine fin cs _ _ (Kh.of (Qd.Ws M U H n w) hy) (by simp) fun i u x hu hx=>?_;simp only[I,C,ZK]at hx;obtain⟨p,⟨u',hu',rfl⟩,rfl⟩:=hx;rw[hu]at hu';cases hu';exact .pv (.lit _)
   ·cases h
  ·rename_i l;cases hr with
   |agg cs _ hl hr=>exact fin cs l y (Qk1 n hm row _ _ _ h hc) hl hr
  ·cases h
theorem Q9.Qte{M:Qd}{U:Env}{w:World}{s ty sz:Nat}{rows:List (List PV)}(h:Q9 M U w s (.vec ty sz rows)):Q9 M U w s (.mix ty sz (rows.map (·.map .pv))):=by
 have key:∀i j,Xz (rows.map (·.map SV.pv)) i j=Ys rows i j:=fun i j=>by
  unfold Ys Xz;simp only[I];cases rows[i]? with
  |none=>rfl
  |some r=>simp
 rcases h with⟨h1,h2⟩|⟨p,h1,h2⟩
 ·exact .inl ⟨h1,by simp[h2]⟩
 ·refine .inr ⟨p,h1,?_⟩;obtain⟨cs,a1,a2,a3,a4,a5,a6⟩:=h2.ex;exact⟨cs,a1,a2,by simpa using a3,by simpa using a4,fun i j x v hx hv=>by rw[key]at hx;simpa using a5 i j x v hx hv,fun i j x hx=>by rw[key]at hx;simpa using a6 i j x hx⟩
theorem Q9.Qno{M M2:Qd}{U ρ2:Env}{w:World}{s ty:Nat}{row:List Ty}{rs:List (List SV)}{l:List (Qj row)}(hle:M.le M2)(hs:ρ2 s=U s)(hf:Qci M U M2 row rs l)(h:Q9 M U w s (.mix ty row.length rs)):Q9 M2 ρ2 w s (.tvec ty row l):=by
 have hlen:(Qw row l).length=rs.length:=by simp[Qw,hf.1]
 rcases h with⟨h1,h2⟩|⟨p,h1,h2⟩
 ·exact .inl ⟨hs.trans h1,ZW (by rw[hlen,h2];rfl)⟩
 ·refine .inr ⟨p,hs.trans h1,?_⟩;obtain⟨cs,a1,a2,a3,a4,a5,a6⟩:=h2.ex;have key:∀i j x,Ys (Qw row l) i j=some x->∃y,Xz rs i j=some y∧∀v,Qf M U v y->Qf M2 ρ2 v x:=fun i j x hx=>by unfold Ys at hx;simp only[C,Option.bind_eq_some_iff,Qw,I]at hx;obtain⟨q,⟨r',⟨y,hy,rfl⟩,hq⟩,rfl⟩:=hx;obtain⟨r,g1,g2⟩:=hf.2 i y hy;obtain⟨x,g3,g4⟩:=g2.2 j q hq;exact⟨x,by simp[Xz,g1,g3],fun v h=>.pv (g4 v h)⟩
  refine⟨cs,a1,a2,by rw[hlen];exact a3,by rw[hlen];exact a4,fun i j x v hx hv=>?_,fun i j x hx=>?_⟩
  ·obtain⟨y,hy,himp⟩:=key i j x hx;obtain⟨b1,b2,b3⟩:=a5 i j y v hy hv;exact⟨by rw[hlen];exact b1,b2,himp _ b3⟩
  ·obtain⟨y,hy,_⟩:=key i j x hx;rw[hlen];exact a6 i j y hy
def Yi4:SV->List Nat
 |.sl s _ _ _=>[s]
 |_=>[]
def Zd7:List SV->List Nat
 |[]=>[]
 |x::l=>Yi4 x++Zd7 l
def W5:List (List SV)->List Nat
 |[]=>[]
 |r::l=>Zd7 r++W5 l
def Ju(S:List Nat):Nat->List Qb->List Qb
 |_,[]=>[]
 |n,o::l=>(match S.contains n with
  |true=>o
  |false=>.dead)::Ju S (n+1) l
def Kf:List Nat->List Qb->List Qb
 |[],H=>H
 |s::S,H=>Kf S (H.set s .dead)
theorem Qk7{S:List Nat}:∀{H:List Qb} {n s:Nat} {x:Qb},(Ju S n H)[s]? =some x->(S.contains (n+s)=true∧H[s]? =some x)∨x=.dead
 |[],n,s,x,h=>by simp[Ju]at h
 |o::l,n,s,x,h=>by
  cases s with
  |zero=>
   simp only[Ju,ZR,Option.some.injEq]at h;split at h
   ·rename_i e;subst h;exact .inl ⟨e,rfl⟩
   ·exact .inr h.symm
  |succ s=>
   simp only[Ju,QD]at h;rcases Qk7 h with⟨h1,h2⟩|h1
   ·exact .inl ⟨by rw[show n+(s+1)=n+1+s by omega];exact h1,by simpa using h2⟩
   ·exact .inr h1
theorem Qwp{S:List Nat}:∀{H:List Qb} {n:Nat},(Ju S n H).length=H.length
 |[],n=>rfl
 |o::l,n=>by simp[Ju,Qwp (H:=l)]
theorem Qi2:∀{S:List Nat} {H:List Qb},(Kf S H).length=H.length
 |[],H=>rfl
 |s::S,H=>by simp[Kf,Qi2]
theorem Qvs:∀{S:List Nat} {H:List Qb} {s:Nat} {x:Qb},(Kf S H)[s]? =some x->x=.dead∨(s∉S∧H[s]? =some x)
 |[],H,s,x,h=>.inr ⟨by simp,h⟩
 |t::S,H,s,x,h=>by
  simp only[Kf]at h;rcases Qvs h with h1|⟨h1,h2⟩
  ·exact .inl h1
  ·rw[ZM]at h2;split at h2
   ·split at h2
    ·cases h2;exact .inl rfl
    ·cases h2
   ·rename_i e;exact .inr ⟨by simp only[QN,not_or];exact⟨fun h=>e h.symm,h1⟩,h2⟩
theorem Qzy:∀{S:List Nat} {H:List Qb} {s:Nat},s∉S->(Kf S H)[s]? =H[s]?
 |[],H,s,_=>rfl
 |t::S,H,s,h=>by simp only[QN,not_or]at h;simp only[Kf];rw[Qzy h.2,ZM,if_neg fun e=>h.1 e.symm]
theorem Mem.sub{M:Qd}{U:Env}{H H2:List Qb}{w:World}(hm:Mem M U H w)(hl:H2.length=H.length)(hs:∀(s:Nat) (x:Qb),H2[s]? =some x->x.live=true->H[s]? =some x):Mem M U H2 w:=by
 refine⟨hm.imm,fun s x hx=>?_,fun s x p b hx hlx hp hb=>hm.seps s x p b (hs s x hx hlx) hlx hp hb,fun s s' x x' p p' b hx hx' hlx hlx' hp hp' hb hb'=>hm.diss s s' x x' p p' b (hs s x hx hlx) (hs s' x' hx' hlx') hlx hlx' hp hp' hb hb',fun s h=>hm.fresh s (by rw[<-hl];exact h),fun s x p b hx hlx hp hb=>hm.lts s x p b (hs s x hx hlx) hlx hp hb⟩;by_cases hlx:x.live=true
 ·exact hm.own s x (hs s x hx hlx)
 ·rw[Qcc hlx];trivial
def Qo.Qag(S:List Nat)(H:List Qb):Qo->Qo
 |.fail=>.fail
 |.ok x=>.eff x H S []
 |.eff x H' t g=>.eff x H' (S++t) g
 |.need c r=>.need c (r.Qag S H)
 |.split c a b=>.split c (a.Qag S H) (b.Qag S H)
 |.both a b=>.both (a.Qag S H) (b.Qag S H)
theorem Qo.touch_holds{S:List Nat}{H H0:List Qb}{K:Qv}:∀{r:Qo},(r.Qag S H).holds H0 K->r.holds H fun x H' t g=>K x H' (S++t) g
 |.fail,h=>h
 |.ok x,h=>by show K x H (S++[]) [];rw[List.append_nil];exact h
 |.eff x H' t g,h=>h
 |.need c r,h=>⟨h.1,touch_holds h.2⟩
 |.split c a b,h=>⟨fun e=>touch_holds (h.1 e),fun e=>touch_holds (h.2 e)⟩
 |.both a b,h=>⟨touch_holds h.1,touch_holds h.2⟩
def Qo1(tab:Qp)(H:List Qb)(t:Nat)(x:SV):Option (Bool×List Nat×List Qb):=match x with
 |.sl tmp sz st n=>match H[tmp]? with
  |some (.mix ty so rows)=>match tab.lookup t with
   |some {desc:=.slice e,..}=>match tab.lookup e with
    |none=>none
    |some i=>match i.row with
     |none=>none
     |some row=>match QM so row.length&& !(W5 rows).contains tmp with
      |false=>none
      |true=>match Qbb (Va (Ju (W5 rows) 0 H) 0 row) rows with
       |none=>none
       |some a=>some (a.1,W5 rows,(Kf (W5 rows) H).set tmp (.tvec ty row a.2))
   |_=>none
  |_=>none
 |_=>none
theorem Zbk{tab:Qp}{M:Qd}{U:Env}{H:List Qb}{w:World}(hm:Mem M U H w){t:Nat}{x:SV}{c:Bool}{S:List Nat}{H2:List Qb}(h:Qo1 tab H t x=some (c,S,H2))(hc:c=true):
  H2.length=H.length∧∃M2,Mem M2 U H2 w∧Fr M U H w M2 U H2 w H.length S []∧M.le M2:=by
 unfold Qo1 at h;split at h
 ·rename_i tmp sz st n;split at h
  ·rename_i ty so rows ho;split at h
   ·split at h
    ·cases h
    ·split at h
     ·cases h
     ·rename_i i _ _ row hrow;split at h
      ·cases h
      ·rename_i hcond;rw[ZG,Bool.not_eq_true']at hcond;have hso:=ZD hcond.1;subst hso;have htmp:tmp∉W5 rows:=by simpa using hcond.2
       split at h
       ·cases h
       ·rename_i a ha;cases h;obtain⟨c1,l⟩:=a;have hsub:Mem M U (Ju (W5 rows) 0 H) w:=hm.sub Qwp fun s x hx hl=>by
         rcases Qk7 hx with⟨_,h2⟩|rfl
         ·exact h2
         ·cases hl
        have hle:=Qd.Ws M U (Ju (W5 rows) 0 H) 0 w;have hrf:=Qpu (Qk1 0 hsub row) rows c1 l ha hc;have hnew:∀b ob,M b=none->M.sealing U (Ju (W5 rows) 0 H) 0 w b=some ob->(∃(s:Nat) (o:Qb) (p:Place),s∈W5 rows∧H[s]? =some o∧o.live=true∧U s=some p∧p.block=b)∧w.heap[b]? =some ob:=fun b ob h0 h1=>by
         obtain⟨⟨s2,o2,p2,q1,q2,q3,q4,q5⟩,q6⟩:=Qd.Kl h0 h1;rcases Qk7 q2 with⟨k1,k2⟩|rfl
         ·exact⟨⟨s2,o2,p2,by simpa using k1,k2,by cases o2<;>simp_all [Qb.Km,Qb.live],q4,q5⟩,q6⟩
         ·cases q3
        generalize M.sealing U (Ju (W5 rows) 0 H) 0 w=M2 at hle hrf hnew;have hlt:tmp<H.length:=(ZC.1 ho).1;have hobj:∀s x,((Kf (W5 rows) H).set tmp (.tvec ty row l))[s]? =some x->(s=tmp∧x=.tvec ty row l)∨x=.dead∨(s≠tmp∧s∉W5 rows∧H[s]? =some x):=fun s x hx=>by
         rw[ZM]at hx;split at hx
         ·rename_i e;subst e;split at hx
          ·cases hx;exact .inl ⟨rfl,rfl⟩
          ·cases hx
         ·rename_i e;rcases Qvs hx with h1|⟨h1,h2⟩
          ·exact .inr (.inl h1)
          ·exact .inr (.inr ⟨fun h=>e h.symm,h1,h2⟩)
        have hold:∀s x,((Kf (W5 rows) H).set tmp (.tvec ty row l))[s]? =some x->x.live=true->s∉W5 rows∧∃y,H[s]? =some y∧y.live=true:=fun s x hx hl=>by
         rcases hobj s x hx with⟨rfl,rfl⟩|rfl|⟨_,h1,h2⟩
         ·exact⟨htmp,_,ho,rfl⟩
         ·cases hl
         ·exact⟨h1,x,h2,hl⟩
        refine⟨by simp[Qi2],M2,⟨fun b ob hb=>?_,fun s x hx=>?_,fun s x p b hx hlx hp hb=>?_,fun s s' x x' p p' b hx hx' hlx hlx' hp hp' hbk hbk'=>?_,fun s hs=>hm.fresh s (by simpa[Qi2]using hs),fun s x p b hx hlx hp hb=>?_⟩,⟨hle,fun b ob h0 h1=>?_,fun b hb=>?_,fun _ _ _=>rfl,ZB _,fun s x hs hx hy hlx=>?_,fun _ _ _=>rfl,rfl,rfl⟩,hle⟩
        ·cases e:M b with
         |some o'=>rw[hle b o' e]at hb;cases hb;exact hm.imm b _ e
         |none=>exact(hnew b ob e hb).2
        ·rcases hobj s x hx with⟨rfl,rfl⟩|rfl|⟨_,_,h2⟩
         ·have h0:Q9 M U w s (.mix ty row.length rows):=hm.own s _ ho;exact h0.Qno hle rfl hrf
         ·trivial
         ·exact(hm.own s x h2).mono hle U.le_refl rfl fun _ _ _ _=>rfl
        ·obtain⟨h1,y,h2,h3⟩:=hold s x hx hlx;have h0:=hm.seps s y p b h2 h3 hp hb;cases e:M2 b with
         |none=>rfl
         |some ob=>obtain⟨⟨s2,o2,p2,q1,q2,q3,q4,q5⟩,_⟩:=hnew _ _ h0 e;have:=hm.diss s s2 y o2 p p2 b h2 q2 h3 q3 hp q4 hb (.inl q5);subst this;exact absurd q1 h1
        ·obtain⟨_,y,h2,h3⟩:=hold s x hx hlx;obtain⟨_,y',h2',h3'⟩:=hold s' x' hx' hlx';exact hm.diss s s' y y' p p' b h2 h2' h3 h3' hp hp' hbk hbk'
        ·obtain⟨_,y,h2,h3⟩:=hold s x hx hlx;exact hm.lts s y p b h2 h3 hp hb
        ·obtain⟨⟨s2,o2,p2,q1,q2,q3,q4,q5⟩,_⟩:=hnew b ob h0 h1;exact .inr ⟨s2,o2,p2,q2,q3,q4,.inl q5⟩
        ·obtain⟨s,x,p,h1,h2,h3,h4⟩:=hb;obtain⟨_,y,q1,q2⟩:=hold s x h1 h2;exact .inr ⟨s,y,p,q1,q2,h3,h4⟩
        ·refine⟨?_,fun p hp=>⟨hp,fun _ _=>rfl⟩⟩;by_cases e:s=tmp
         ·subst e;exact⟨.tvec ty row l,by rw[ZM,if_pos rfl,if_pos (by rw[Qi2];exact hlt)],rfl⟩
         ·refine⟨x,?_,hlx⟩;rw[ZM,if_neg fun h=>e h.symm,Qzy hx];exact hy
   ·cases h
  ·cases h
 ·cases h
def Qky(tab:Qp)(H:List Qb)(t t':Nat)(a x:SV):Qo:=match Qo1 tab H t x with
 |some q=>.need q.1 ((Qph tab q.2.2 t t' a x).Qag q.2.1 q.2.2)
 |none=>Qph tab H t t' a x
theorem Qv6{P:Program}{tab:Qp}(htab:Q6 P tab){M:Qd}{U:Env}{H:List Qb}{w:World}{K:Qv}(hm:Mem M U H w){t t' ty:Nat}{a x:SV}{v u:Value}(ha:Qf M U v a)(hx:Qf M U u x)
  (h:(Qky tab H t t' a x).holds H K):Qz P (ZE #[t,t'] ty #[v,u]) M U H w K:=by
 unfold Qky at h;split at h
 ·rename_i q hq;obtain⟨c,S,H2⟩:=q;obtain⟨hc,h⟩:=h;obtain⟨hlen,M2,m1,m2,m3⟩:=Zbk hm hq hc;obtain⟨v',w',h1,y,H',tch,fg,M',U',hk,h2,h3,h4⟩:=Zbg htab m1 (ha.mono m3 U.le_refl) (hx.mono m3 U.le_refl) (Qo.touch_holds h);rw[hlen]at h4;exact⟨v',w',h1,y,H',S++tch,fg,M',U',hk,h2,h3,m2.trans h4 (fun x h=>ZX _ h) (fun x h=>ZU _ h) (fun x h=>by cases h) (fun x h=>h)⟩
 ·exact Zbg htab hm ha hx h
def Ylj(H:List Qb)(a x:SV):Bool:=match a with
 |.sl d _ _ _=>match H[d]? with
  |some (.mix _ _ rows)=>!(W5 rows).isEmpty&&Ziu H x
  |_=>false
 |_=>false
def Qwh(tab:Qp)(H:List Qb)(t t':Nat)(a x:SV):Qo:=match Ylj H a x with
 |true=>match Qo1 tab H t a with
  |some q=>.need q.1 ((Qky tab q.2.2 t t' a x).Qag q.2.1 q.2.2)
  |none=>Qky tab H t t' a x
 |false=>Qky tab H t t' a x
theorem Yed{P:Program}{tab:Qp}(htab:Q6 P tab){M:Qd}{U:Env}{H:List Qb}{w:World}{K:Qv}(hm:Mem M U H w){t t' ty:Nat}{a x:SV}{v u:Value}(ha:Qf M U v a)(hx:Qf M U u x)
  (h:(Qwh tab H t t' a x).holds H K):Qz P (ZE #[t,t'] ty #[v,u]) M U H w K:=by
 unfold Qwh at h;split at h
 ·split at h
  ·rename_i q hq;obtain⟨c,S,H2⟩:=q;obtain⟨hc,h⟩:=h;obtain⟨hlen,M2,m1,m2,m3⟩:=Zbk hm hq hc;obtain⟨v',w',h1,y,H',tch,fg,M',U',hk,h2,h3,h4⟩:=Qv6 (ty:=ty) htab m1 (ha.mono m3 U.le_refl) (hx.mono m3 U.le_refl) (Qo.touch_holds h);rw[hlen]at h4;exact⟨v',w',h1,y,H',S++tch,fg,M',U',hk,h2,h3,m2.trans h4 (fun x h=>ZX _ h) (fun x h=>ZU _ h) (fun x h=>by cases h) (fun x h=>h)⟩
  ·exact Qv6 htab hm ha hx h
 ·exact Qv6 htab hm ha hx h
theorem Ybz{M:Qd}{U:Env}{H:List Qb}{w:World}(hm:Mem M U H w)(S:List Nat):
  Mem (M.sealing U (Ju S 0 H) 0 w) U (Kf S H) w∧Fr M U H w (M.sealing U (Ju S 0 H) 0 w) U (Kf S H) w H.length S []:=by
 have hle:=Qd.Ws M U (Ju S 0 H) 0 w;have hnew:∀b ob,M b=none->M.sealing U (Ju S 0 H) 0 w b=some ob->(∃(s:Nat) (o:Qb) (p:Place),s∈S∧H[s]? =some o∧o.live=true∧U s=some p∧p.block=b)∧w.heap[b]? =some ob:=fun b ob h0 h1=>by
  obtain⟨⟨s2,o2,p2,q1,q2,q3,q4,q5⟩,q6⟩:=Qd.Kl h0 h1;rcases Qk7 q2 with⟨k1,k2⟩|rfl
  ·exact⟨⟨s2,o2,p2,by simpa using k1,k2,by cases o2<;>simp_all [Qb.Km,Qb.live],q4,q5⟩,q6⟩
  ·cases q3
 generalize M.sealing U (Ju S 0 H) 0 w=M2 at hle hnew;have hold:∀s x,(Kf S H)[s]? =some x->x.live=true->s∉S∧H[s]? =some x:=fun s x hx hl=>by
  rcases Qvs hx with rfl|h
  ·cases hl
  ·exact h
 refine⟨⟨fun b ob hb=>?_,fun s x hx=>?_,fun s x p b hx hlx hp hb=>?_,fun s s' x x' p p' b hx hx' hlx hlx' hp hp' hbk hbk'=>?_,fun s hs=>hm.fresh s (by simpa[Qi2]using hs),fun s x p b hx hlx hp hb=>?_⟩,⟨hle,fun b ob h0 h1=>?_,fun b hb=>?_,fun _ _ _=>rfl,ZB _,fun s x hs hx hy hlx=>?_,fun _ _ _=>rfl,rfl,rfl⟩⟩
 ·cases e:M b with
  |some o'=>rw[hle b o' e]at hb;cases hb;exact hm.imm b _ e
  |none=>exact(hnew b ob e hb).2
 ·by_cases hl:x.live=true
  ·exact(hm.own s x (hold s x hx hl).2).mono hle U.le_refl rfl fun _ _ _ _=>rfl
  ·rw[Qcc hl];trivial
 ·obtain⟨h1,h2⟩:=hold s x hx hlx;have h0:=hm.seps s x p b h2 hlx hp hb;cases e:M2 b with
  |none=>rfl
  |some ob=>obtain⟨⟨s2,o2,p2,q1,q2,q3,q4,q5⟩,_⟩:=hnew _ _ h0 e;have:=hm.diss s s2 x o2 p p2 b h2 q2 hlx q3 hp q4 hb (.inl q5);subst this;exact absurd q1 h1
 ·exact hm.diss s s' x x' p p' b (hold s x hx hlx).2 (hold s' x' hx' hlx').2 hlx hlx' hp hp' hbk hbk'
 ·exact hm.lts s x p b (hold s x hx hlx).2 hlx hp hb
 ·obtain⟨⟨s2,o2,p2,q1,q2,q3,q4,q5⟩,_⟩:=hnew b ob h0 h1;exact .inr ⟨s2,o2,p2,q2,q3,q4,.inl q5⟩
 ·obtain⟨s,x,p,h1,h2,h3,h4⟩:=hb;exact .inr ⟨s,x,p,(hold s x h1 h2).2,h2,h3,h4⟩
 ·refine⟨⟨x,?_,hlx⟩,fun p hp=>⟨hp,fun _ _=>rfl⟩⟩;rw[Qzy hx];exact hy
def Zg7(H:List Qb)(a x:SV):Option (Bool×Nat×SV):=match a with
 |.ptr s' sz' r j=>match H[s']? with
  |some (.tvec _ row _)=>match x with
   |.sl s sz st n=>match QM s s' with
    |true=>none
    |false=>match row[(norm sz' r j row.length).2]? with
     |some (.seq row')=>match rdT (Ju [s] 0 H) 0 (.seq row') (.sl s sz st n)with
      |some q=>some (q.1,s,.pv ((Ty.seq row').pv q.2))
      |none=>none
     |_=>none
   |_=>none
  |_=>none
 |_=>none
def Qv3(tab:Qp)(H:List Qb)(t:Nat)(a x:SV):Qo:=match Zg7 H a x with
 |some q=>.need q.1 ((Qox tab (H.set q.2.1 .dead) t a q.2.2).Qag [q.2.1] (H.set q.2.1 .dead))
 |none=>Qox tab H t a x
theorem Yct{P:Program}{tab:Qp}(htab:Q6 P tab){M:Qd}{U:Env}{H:List Qb}{w:World}{K:Qv}(hm:Mem M U H w){t:TypeId}{a x:SV}{v u:Value}(ha:Qf M U v a)(hx:Qf M U u x)
  (h:(Qv3 tab H t a x).holds H K):Qcb P (Instr.storeAt t v u) M U H w K:=by
 unfold Qv3 at h;split at h
 ·rename_i q hq;obtain⟨hc,h⟩:=h;unfold Zg7 at hq;split at hq
  ·split at hq
   ·split at hq
    ·rename_i s sz st n;split at hq
     ·cases hq
     ·split at hq
      ·rename_i row' _;split at hq
       ·rename_i q' hq';cases hq;obtain⟨c,y⟩:=q';have hsub:Mem M U (Ju [s] 0 H) w:=hm.sub Qwp fun s x hx hl=>by
         rcases Qk7 hx with⟨_,h2⟩|rfl
         ·exact h2
         ·cases hl
        obtain⟨m1,m2⟩:=Ybz hm [s];have hv:=Qws 0 hsub (.seq row') _ c y u hq' hc hx;have hle:=Qd.Ws M U (Ju [s] 0 H) 0 w;obtain⟨w',h1,y',H',tch,fg,M',U',hk,h2,h3,h4⟩:=Zj9 htab m1 (ha.mono hle U.le_refl) (.pv hv) (Qo.touch_holds h);rw[Qi2]at h4;exact⟨w',h1,y',H',[s]++tch,fg,M',U',hk,h2,h3,m2.trans h4 (fun x h=>ZX _ h) (fun x h=>ZU _ h) (fun x h=>by cases h) (fun x h=>h)⟩
       ·cases hq
      ·cases hq
    ·cases hq
   ·cases hq
  ·cases hq
 ·exact Zj9 htab hm ha hx h
end Go.Sx
end

/- Part H of the own logic: append. Part Hs of the own logic: rows that become immutable; reading data out of them; append with them. -/
import Derived.Test.YtpkbmngnolhopaaGreatDoorXSxE
set_option linter.unusedVariables false
set_option linter.unusedSimpArgs false
set_option linter.unnecessarySimpa false
open Option renaming map_eq_some_iff->C
open List renaming getElem?_map->I,getElem?_take->U,getElem?_eq_some_iff->ZB,getD->ZE,getElem?_drop->ZI,getElem?_set->ZL,getElem?_append_right->ZM,getElem?_append_left->ZN,map_congr_left->ZO,length_map->ZP,getElem?_cons_zero->ZQ,mem_append_right->ZT,range->ZU,eq_nil_of_length_eq_zero->ZV,mem_append_left->ZW,map_append->ZX,map_map->ZY,size_toArray->QB,length_eq_zero_iff->QD,getElem?_cons_succ->QE,getElem?_eq_none->QH,mem_of_getElem?->QI,getElem?_append->QJ,mem_map->QM,mem_cons->QO
open Nat renaming mul_le_mul_right->J,le_refl->ZA,eq_of_beq_eq_true->ZC,add_mul->ZG,le_trans->ZH,le_of_ble_eq_true->ZS,zero_add->QF,min_eq_left->QG,add_assoc->QK,eq_zero_or_pos->QL,beq->QN
open Array renaming getElem?_append_left->R,getElem?_toList->ZJ,getElem?_append_right->ZZ,size_append->QA
open Go.Builtin renaming append_->ZD,zeroCells->ZK
open Bool renaming and_eq_true->ZF
open Decidable renaming not_not->ZR
open Prod.mk renaming injEq->QC
namespace Go.Sx
open Go
inductive Src where
 |pure (rows:List (List PV))
 |mixed (rows:List (List SV))
def Src.rows:Src->List (List SV)
 |.pure r=>r.map (·.map .pv)
 |.mixed r=>r
def Src.len:Src->Nat
 |.pure r=>r.length
 |.mixed r=>r.length
def Src.forget(d:List Nat):Src->Src
 |.pure r=>.pure r
 |.mixed r=>.mixed (r.map (·.map (SV.forget d)))
theorem Src.Qcr(d:List Nat)(s:Src):(s.forget d).len=s.len:=by cases s<;>simp[Src.forget,Src.len]
def Src.Zl8:Src->Bool
 |.pure _=>true
 |.mixed r=>!r.isEmpty
theorem Src.Yr4(s:Src):s.rows.length=s.len:=by cases s<;>simp[Src.rows,Src.len]
def U5(H:List Qb)(sz:Nat):SV->Option Src
 |.sl s sz' st len=>if sz'=sz then match H[s]? with
   |some (.vec _ so rows)=>if so=sz∧st+len<=rows.length then some (.pure ((rows.drop st).take len))else none
   |some (.mix _ so rows)=>if so=sz∧st+len<=rows.length then some (.mixed ((rows.drop st).take len))else none
   |_=>none
  else none
 |.pv (.rsl sz' rows)=>if sz'=sz then some (.pure rows)else none
 |.pv (.lit (.slice none 0 0))=>some (.pure [])
 |_=>none
structure Qrh (M:Qd) (Z:Env) (w:World) (sz:Nat) (v:Value) (s:Src):Prop where
 ex:∃a c,v=.slice a s.len c∧(s.len=0∨∃b o,a=some ⟨b,o,none⟩∧
  (∀i j,i<s.len->j<sz->∃u,w.cell? ⟨b,o+(i*sz+j),none⟩=some u∧W5 u=true)∧
  (∀i j x,i<s.len->(s.rows.getD i [])[j]? =some x->j<sz∧∀u,w.cell? ⟨b,o+(i*sz+j),none⟩=some u->Qf M Z u x))
theorem Qv0{M:Qd}{Z:Env}{H:List Qb}{w:World}(hm:Mem M Z H w){sz:Nat}{x:SV}{v:Value}{s:Src}(hx:Qf M Z v x)(h:U5 H sz x=some s):Qrh M Z w sz v s:=by
 unfold U5 at h;split at h
 ·rename_i sd sz' st len;split at h
  ·rename_i e;subst e;have own:∀(o:Qb) (s:Src),H[sd]? =some o->o.Q8 =some sz'->st+len<=o.len->s.len=len->(∀i,i<len->s.rows.getD i []=o.row (st+i))->Qrh M Z w sz' v s:=by
    intro o s ho hz hle hl hr;cases hx with
    |slz a b c a'=>exact⟨_,_,by rw[hl],.inl hl⟩
    |sl _ _ _ _ c k p hp hk hc hn h6=>
     obtain⟨cs,ty,a1,a2,a3,a4,a5⟩:=((hm.own sd o ho).rowOf hz hp).ex;refine⟨_,c,by rw[hl],.inr ⟨p.block,k,rfl,fun i j hi hj=>?_,fun i j x hi hx=>?_⟩⟩
     ·rw[hl]at hi;obtain⟨u,h1,h2⟩:=a4 (st+i) j (by omega) hj;exact⟨u,by simp[World.cell?,a1];rw[hk,<-h1];congr 1;rw[ZG];omega,h2⟩
     ·rw[hl]at hi;rw[hr i hi]at hx;obtain⟨h1,h2⟩:=a5 (st+i) j x (by omega) hx;refine⟨h1,fun u hu=>h2 u ?_⟩;simp[World.cell?,a1]at hu;rw[<-hu,hk];congr 1;rw[ZG];omega
   split at h
   ·rename_i ty so rows ho;split at h
    ·rename_i hc;cases h;obtain⟨rfl,hle⟩:=hc;refine own _ _ ho rfl hle (by simp[Src.len];omega) (fun i hi=>?_);have hlt:st+i<rows.length:=by omega
     simp[Src.rows,Qb.row,ZE,U,ZI,hi,hlt]
    ·cases h
   ·rename_i ty so rows ho;split at h
    ·rename_i hc;cases h;obtain⟨rfl,hle⟩:=hc;refine own _ _ ho rfl hle (by simp[Src.len];omega) (fun i hi=>?_);have hlt:st+i<rows.length:=by omega
     simp[Src.rows,Qb.row,ZE,U,ZI,hi,hlt]
    ·cases h
   ·cases h
  ·cases h
 ·rename_i sz' rows;split at h
  ·rename_i e;subst e;cases h;cases hx with
   |pv hp=>cases hp with
    |rnil=>exact⟨_,_,rfl,.inl rfl⟩
    |remp a c=>exact⟨_,_,rfl,.inl rfl⟩
    |rsl b off c _ n _ hn hc g0 g1 g2=>
     refine⟨_,c,by simp[Src.len];exact hn,.inr ⟨b,off,rfl,fun i j hi hj=>?_,fun i j x hi hx=>?_⟩⟩
     ·obtain⟨u,h1,h2⟩:=g0 i j hi hj;exact⟨u,by rw[<-QK];exact Qd.Qz6 hm h1,h2⟩
     ·have hi':i<rows.length:=hi;simp[Src.rows,ZE,hi']at hx;obtain⟨q,hq,rfl⟩:=hx;have hj:j<sz':=Nat.lt_of_lt_of_le (ZB.1 hq).1 (g2 i rows[i] (by simp[hi']));refine⟨hj,fun u hu=>?_⟩;obtain⟨u',h1,h2⟩:=g0 i j hi' hj;have:=Qd.Qz6 hm h1;rw[<-QK,this]at hu;cases hu;exact .pv (g1 i rows[i] j q u (by simp[hi']) hq h1)
  ·cases h
 ·cases h;have:=hx.Zq;subst this;exact⟨_,_,rfl,.inl rfl⟩
 ·cases h
def Qb.plain:Qb->Qb
 |.tvec ty row l=>.vec ty row.length (Q0 row l)
 |.tlnk ty row l r c x=>.mix ty row.length ((ZU l.length).map fun i=>(Qb.tlnk ty row l r c x).row i)
 |o=>o
theorem Zaz{ty:Nat}{row:List Ty}{l:List (Ql row)}{r c i:Nat}{x:SV}{d:List Nat}:((Qb.tlnk ty row l r c x).row i).map (SV.forget d)=(Qb.tlnk ty row l r c (x.forget d)).row i:=by
 have e:∀L:List PV,(L.map SV.pv).map (SV.forget d)=L.map SV.pv:=fun L=>by rw[ZY];rfl
 simp only[Qb.row];split
 ·rw[List.map_set,e]
 ·rw[e]
theorem W8(o:Qb):o.plain.Q8 =o.Q8 ∧o.plain.len=o.len∧o.plain.ty=o.ty∧o.plain.live=o.live∧(∀i,i<o.len->o.plain.row i=o.row i)∧(∀d,o.plain.forget d=(o.forget d).plain):=by
 cases o with
 |tvec ty row l=>refine⟨rfl,by simp[Qb.plain,Qb.len,Q0],rfl,rfl,fun i hi=>?_,fun d=>rfl⟩;have hi:i<l.length:=hi;simp only[Qb.plain,Qb.row,Qjc hi]
 |tlnk ty row l r c x=>
  refine⟨rfl,by simp[Qb.plain,Qb.len],rfl,rfl,fun i hi=>?_,fun d=>?_⟩
  ·have hi:i<l.length:=hi;simp only[Qb.plain];show((ZU l.length).map fun i=>(Qb.tlnk ty row l r c x).row i).getD i []=_;simp[ZE,hi]
  ·show Qb.mix _ _ _=Qb.mix _ _ _;rw[ZY];congr 1;refine ZO fun i _=>?_;exact Zaz
 |_=>exact⟨rfl,rfl,rfl,rfl,fun i _=>rfl,fun d=>rfl⟩
theorem Q6.plain{M:Qd}{Z:Env}{w:World}{s:Nat}{o:Qb}:Q6 M Z w s o.plain↔Q6 M Z w s o:=by
 cases o with
 |tlnk ty row l r c x=>
  have e:Xo ((ZU l.length).map fun i=>(Qb.tlnk ty row l r c x).row i)=Wd row l r c x:=by
   funext i j;by_cases hi:i<l.length
   ·refine Option.ext fun y=>?_;rw[Qxi (ty:=ty) hi];simp[Xo,hi]
   ·have h1:Xo ((ZU l.length).map fun i=>(Qb.tlnk ty row l r c x).row i) i j=none:=by unfold Xo;rw[QH (by simpa using hi)];rfl
    have h2:Wd row l r c x i j=none:=by unfold Wd Y0;rw[QH (by simpa[Q0]using hi)];rfl
    rw[h1,h2]
  have e2:((ZU l.length).map fun i=>(Qb.tlnk ty row l r c x).row i).length=(Q0 row l).length:=by simp[Q0]
  show(_∨∃p,_∧Kp M Z w p ty row.length _ (Xo _))↔(_∨∃p,_∧Kp M Z w p ty row.length _ (Wd row l r c x));rw[e,e2];refine or_congr (and_congr Iff.rfl ?_) Iff.rfl;rw[<-QD,e2,QD]
 |_=>exact Iff.rfl
def Y7(o:Qb)(n:Nat)(s:Src):Qb:=
 match o.plain,s with
 |.vec ty sz rows,.pure ps=>.vec ty sz ((if n=rows.length then rows else rows.take n)++ps)
 |.vec ty sz rows,.mixed xs=>.mix ty sz (((if n=rows.length then rows else rows.take n).map (·.map .pv))++xs)
 |.mix ty sz rows,s=>.mix ty sz ((if n=rows.length then rows else rows.take n)++s.rows)
 |o,_=>o
theorem Qwv{α:Type}(l:List α)(n:Nat):(if n=l.length then l else l.take n)=l.take n:=by
 split
 ·rename_i h;rw[h,List.take_length]
 ·rfl
theorem Yha(o:Qb){sz n:Nat}(s:Src)(hz:o.Q8 =some sz)(hn:n<=o.len)(ho:o.plain=o):
  (Y7 o n s).Q8 =some sz∧(Y7 o n s).len=n+s.len∧(Y7 o n s).ty=o.ty∧
  ∀i,i<n+s.len->(Y7 o n s).row i=if i<n then o.row i else s.rows.getD (i-n) []:=by
 cases o with
 |tvec ty row l=>cases ho
 |tlnk ty row l r c x=>cases ho
 |vec ty sz' rows=>
  simp[Qb.Q8]at hz;subst hz;have hn':n<=rows.length:=hn;cases s with
  |pure ps=>
   simp only[Y7,Qb.plain,Qwv];refine⟨rfl,by simp[Qb.len,Src.len];omega,rfl,fun i hi=>?_⟩;simp only[Qb.row,Src.rows,ZE];split
   ·rename_i h;rw[ZN (by simp;omega),U];simp[h]
   ·rename_i h;rw[ZM (by simp;omega)];simp only[List.length_take,QG hn',I];cases ps[i-n]? <;>simp
  |mixed xs=>
   simp only[Y7,Qb.plain,Qwv];refine⟨rfl,by simp[Qb.len,Src.len];omega,rfl,fun i hi=>?_⟩;simp only[Qb.row,Src.rows,ZE];split
   ·rename_i h;rw[ZN (by simp;omega),I,U];simp only[h,if_true];cases rows[i]? <;>simp
   ·rename_i h;rw[ZM (by simp;omega)];simp[QG hn']
 |mix ty sz' rows=>
  simp[Qb.Q8]at hz;subst hz;have hn':n<=rows.length:=hn;simp only[Y7,Qb.plain,Qwv];refine⟨rfl,by simp[Qb.len,<-Src.Yr4];omega,rfl,fun i hi=>?_⟩;simp only[Qb.row,ZE];split
  ·rename_i h;rw[ZN (by simp;omega),U];simp[h]
  ·rename_i h;rw[ZM (by simp;omega)];simp[QG hn']
 |map es c=>simp[Qb.Q8]at hz
 |nest _ _ _ _ _=>simp[Qb.Q8]at hz
 |tmap k v l=>simp[Qb.Q8]at hz
 |iter a b=>simp[Qb.Q8]at hz
 |loop a=>simp[Qb.Q8]at hz
 |over a b=>simp[Qb.Q8]at hz
 |mit a b c=>simp[Qb.Q8]at hz
 |dfr a=>simp[Qb.Q8]at hz
 |dead=>simp[Qb.Q8]at hz
theorem Qmm(o:Qb):o.plain.plain=o.plain:=by cases o<;>rfl
theorem Zli(o:Qb){sz n:Nat}(s:Src)(hz:o.Q8 =some sz)(hn:n<=o.len):
  (Y7 o n s).Q8 =some sz∧(Y7 o n s).len=n+s.len∧(Y7 o n s).ty=o.ty∧
  ∀i,i<n+s.len->(Y7 o n s).row i=if i<n then o.row i else s.rows.getD (i-n) []:=by
 obtain⟨f1,f2,f3,_,f4,_⟩:=W8 o;obtain⟨g1,g2,g3,g4⟩:=Yha o.plain s (by rw[f1];exact hz) (by rw[f2];exact hn) (Qmm o);have e:Y7 o.plain n s=Y7 o n s:=by unfold Y7;rw[Qmm]
 rw[e]at g1 g2 g3 g4;refine⟨g1,g2,g3.trans f3,fun i hi=>?_⟩;rw[g4 i hi];split
 ·rename_i h;rw[f4 i (by omega)]
 ·rfl
def Qae(tab:Qr)(H:List Qb)(t t':Nat)(a x:SV):Qp:=
 match tab.lookup t with
 |some {desc:=.slice e,..}=>match tab.lookup e with
  |none=>.fail
  |some i=>if t'≠t∨i.size=0 then .fail else match U5 H i.size x with
   |none=>.fail
   |some s=>match a with
    |.pv (.lit (.slice none 0 0))=>.need s.Zl8 <| .need (decide (s.len*i.bytes<=140737488355328)) <| .need (decide (s.len<=9223372036854775807)) <|
      .eff (.sl H.length i.size 0 s.len) (H++[Y7 (.vec e i.size []) 0 s]) [] []
    |.sl d sz st n=>match H[d]? with
     |none=>.fail
     | some o=>if sz = i.size ∧ o.Q8 = some i.size ∧ o.ty = e ∧ st = 0 then
       .need (decide (n<=o.len)) <| .need (decide ((n+s.len)*i.bytes<=140737488355328)) <| .need (decide (n+s.len<=9223372036854775807)) <|
        .eff (.sl d i.size 0 (n+s.len)) ((H.map (Qb.forget [d])).set d (Y7 (o.forget [d]) n (s.forget [d]))) [d] [d]
      else .fail
    |.pv (.csl row l)=>if row.length=i.size then
      .need (decide (0<s.len)) <| .need (decide ((l.length+s.len)*i.bytes<=140737488355328)) <| .need (decide (l.length+s.len<=9223372036854775807)) <|
       .eff (.sl H.length i.size 0 (l.length+s.len)) (H++[Y7 (.vec e i.size (Q0 row l)) l.length s]) [] []
     else .fail
    |_=>.fail
 |_=>.fail
theorem Qrh.news{M:Qd}{Z:Env}{w:World}{sz:Nat}{v:Value}{s:Src}(h:Qrh M Z w sz v s)(hsz:0<sz):∃(a:Option Addr) (c:Nat) (news:List Value),v=.slice a s.len c∧news.length=s.len*sz∧
  (s.len=0∨∃b o,a=some ⟨b,o,none⟩∧∀(j:Nat) (u:Value),news[j]? =some u->w.cell? ((⟨b,o,none⟩:Addr).add j)=some u)∧(∀u∈news,u.oneCell'=true)∧
  (∀i j x,i<s.len->(s.rows.getD i [])[j]? =some x->j<sz∧∀u,news[i*sz+j]? =some u->Qf M Z u x):=by
 obtain⟨a,c,hv,h|⟨b,o,ha,h1,h2⟩⟩:=h.ex
 ·refine⟨a,c,[],hv,by simp[h],.inl h,by simp,fun i j x hi=>by omega⟩
 ·have hex:∀k,k<s.len*sz->∃u,w.cell? ⟨b,o+k,none⟩=some u∧W5 u=true:=fun k hk=>by have hlt:k/sz<s.len:=(Nat.div_lt_iff_lt_mul hsz).2 hk;have:=h1 (k/sz) (k%sz) hlt (Nat.mod_lt _ hsz);rwa[Nat.div_add_mod']at this
  let f:Nat->Value:=fun k=>if h:k<s.len*sz then Classical.choose (hex k h)else undef;have hf:∀k,k<s.len*sz->w.cell? ⟨b,o+k,none⟩=some (f k)∧W5 (f k)=true:=fun k hk=>by simp only[f,dif_pos hk];exact Classical.choose_spec (hex k hk)
  have hget:∀(k:Nat) (u:Value),((ZU (s.len*sz)).map f)[k]? =some u->k<s.len*sz∧u=f k:=fun k u hu=>by simp only[I,C]at hu;obtain⟨m,hm,rfl⟩:=hu;obtain⟨g1,g2⟩:=ZB.1 hm;simp at g1 g2;subst g2;exact⟨g1,rfl⟩
  refine⟨a,c,(ZU (s.len*sz)).map f,hv,by simp,.inr ⟨b,o,ha,fun j u hu=>?_⟩,fun u hu=>?_,fun i j x hi hx=>?_⟩
  ·obtain⟨g1,rfl⟩:=hget j u hu;rw[Addr.add_mid];exact(hf j g1).1
  ·obtain⟨k,hk,rfl⟩:=QM.1 hu;exact(hf k (by simpa using hk)).2
  ·obtain⟨g1,g2⟩:=h2 i j x hi hx;refine⟨g1,fun u hu=>?_⟩;obtain⟨g3,rfl⟩:=hget _ u hu;exact g2 _ (hf _ g3).1
theorem Quy{P:Program}{w:World}{t ty e:Nat}{i:TI}(hu:P.underlying t=some (.slice e))(he:X3 P e i){a b:Option Addr}{n c c':Nat}(hn:n<=c):
  (ZD #[t,t] ty #[.slice a n c,.slice b 0 c']).run P w=.ok (.slice a n c) w:=by
 obtain⟨inf,hi,i1,_⟩:=he.inf;cases a<;>cases b<;>simp[ZD,run_underlying hu,sizeOf,typeInfo,hi,Builtin.lenOf,hn,Builtin.firstCells,loadCells,loadCellsFrom,storeCells]
theorem Quw{P:Program}{w:World}{t ty e:Nat}{i:TI}(hu:P.underlying t=some (.slice e))(he:X3 P e i)(hsz:0<i.size)
  {base:Option Addr} {n c:Nat} {cs:Array Value} (hg:(n=0∧c=0)∨∃k,base=some ⟨k,0,none⟩∧w.heap[k]? =some (.cells cs e (0,0))∧c*i.size<=cs.size) (hn:n<=c)
  {a:Option Addr} {m c':Nat} {news:List Value} (hl:news.length=m*i.size) (ha:m=0∨∃b o,a=some ⟨b,o,none⟩∧∀(j:Nat) (u:Value),news[j]? =some u->w.cell? ((⟨b,o,none⟩:Addr).add j)=some u)
  (h1:∀u∈news,u.oneCell'=true) (hb:(n+m)*i.bytes<=140737488355328) (h63:n+m<=9223372036854775807):
  ∃v' w',(ZD #[t,t] ty #[.slice base n c,.slice a m c']).run P w=.ok v' w'∧
   ((m = 0 ∧ v' = .slice base n c ∧ w' = w) ∨
    (∃cs' gc,v'=.slice (some ⟨w.heap.size,0,none⟩) (n+m) gc∧(w'.heap=w.heap.push (.cells cs' e (0,0))∧w'.os=w.os∧w'.output=w.output)∧(n+m<=gc∧gc<=9223372036854775807)∧gc*i.size<=cs'.size∧
     (∀k,k<n*i.size->cs'[k]? =cs[k]?)∧(∀k,k<m*i.size->cs'[n*i.size+k]? =news[k]?))∨
    (∃k,base=some ⟨k,0,none⟩∧0<m∧w.heap[k]? =some (.cells cs e (0,0))∧n+m<=c∧c*i.size<=cs.size∧v'=.slice (some ⟨k,0,none⟩) (n+m) c∧w'=w.setRow k (cs.toList.take (n*i.size)++news++cs.toList.drop (n*i.size+news.length)).toArray)):=by
 obtain⟨inf,hinf,i1,i2,i3⟩:=he.inf;rcases QL m with rfl|hm
 ·exact⟨_,w,Quy hu he hn,.inl ⟨rfl,rfl,rfl⟩⟩
 ·obtain⟨b,o,rfl,hnews⟩:=ha.resolve_left (by omega);have hlz:∀x,(ZK i.zero.cells x).size=x*i.size:=fun x=>by rw[size_zeroCells,he.zsz]
  rcases hg with⟨rfl,rfl⟩|⟨k,rfl,hgk,hcs⟩
  ·have fin:∀(cc:Nat),m<=cc->cc<=9223372036854775807->∃cs' gc,Value.slice (some ⟨w.heap.size,0,none⟩) m cc=.slice (some ⟨w.heap.size,0,none⟩) (0+m) gc∧((w.drew.alloc (.cells (news.toArray++ZK i.zero.cells (cc-m)) e)).heap=w.heap.push (.cells cs' e (0,0))∧(w.drew.alloc (.cells (news.toArray++ZK i.zero.cells (cc-m)) e)).os=w.os∧(w.drew.alloc (.cells (news.toArray++ZK i.zero.cells (cc-m)) e)).output=w.output)∧(0+m<=gc∧gc<=9223372036854775807)∧gc*i.size<=cs'.size∧
     (∀k,k<0*i.size->cs'[k]? =cs[k]?)∧(∀k,k<m*i.size->cs'[0*i.size+k]? =news[k]?):=fun cc hge hcm=>by
    refine⟨_,cc,by simp,⟨rfl,rfl,rfl⟩,⟨by simpa using hge,hcm⟩,?_,fun k hk=>by omega,fun k hk=>?_⟩
    ·simp only[QA,QB,hl,hlz,<-ZG];exact J _ (by omega)
    ·simp only[Nat.zero_mul,QF];rw[R (by simp[hl];exact hk)];simp
   cases base with
   |none=>have hr:=run_append_nil (P:=P) w t ty e inf i.zero hu hinf i3 ⟨b,o,none⟩ m c' news (by rw[i1];exact hl) hnews hm (by omega) (by rw[i2];simp at hb;omega);exact⟨_,_,hr,.inr (.inl (fin _ (grownCap_ge w m 0 e) (grownCap_le_maxLen w m 0 e (by unfold maxLen;omega))))⟩
   |some ad=>
    have hr:=run_append_grow (P:=P) w t ty e inf i.zero hu hinf i3 ad 0 0 [] (by simp) (fun j u hu'=>by simp at hu') ⟨b,o,none⟩ m c' news (by rw[i1];exact hl) hnews (by omega) (by omega)
     (growslice_fits (by omega) (by rw[i2];exact hb))
    simp only[QF,Array.empty_append]at hr;exact⟨_,_,hr,.inr (.inl (fin _ (grownCap_ge w m 0 e) (grownCap_le_maxLen w m 0 e (by unfold maxLen;omega))))⟩
  ·by_cases hroom:n+m<=c
   ·have hfit:n*inf.size+news.length<=cs.size:=by rw[hl,i1,<-ZG];exact ZH (J _ hroom) hcs
    have hr:=run_append_room (P:=P) w t ty e inf hu hinf k n c cs hgk ⟨b,o,none⟩ m c' news (by rw[i1];exact hl) hnews h1 hroom hfit;rw[i1]at hr;exact⟨_,_,hr,.inr (.inr ⟨k,rfl,hm,hgk,hroom,hcs,rfl,rfl⟩)⟩
   ·have hnc:n*i.size<=cs.size:=ZH (J _ hn) hcs;have holds:∀(j:Nat) (u:Value),(cs.toList.take (n*i.size))[j]? =some u->w.cell? ((⟨k,0,none⟩:Addr).add j)=some u:=fun j u hu'=>by
     rw[U]at hu';split at hu'
     ·rw[Addr.add_mid,QF];simp[World.cell?,hgk];simpa using hu'
     ·cases hu'
    have hge:=grownCap_ge w (n+m) c e;have hgm:grownCap w (n+m) c e<=9223372036854775807:=grownCap_le_maxLen w (n+m) c e (by unfold maxLen;omega);have hr:=run_append_grow (P:=P) w t ty e inf i.zero hu hinf i3 ⟨k,0,none⟩ n c (cs.toList.take (n*i.size)) (by simp[i1];omega) holds ⟨b,o,none⟩ m c' news (by rw[i1];exact hl) hnews (by omega) (by omega)
     (growslice_fits (by omega) (by rw[i2];exact hb))
    have hlt:(cs.toList.take (n*i.size)).length=n*i.size:=by simp;omega
    refine⟨_,_,hr,.inr (.inl ⟨_,_,rfl,⟨rfl,rfl,rfl⟩,⟨hge,hgm⟩,?_,fun j hj=>?_,fun j hj=>?_⟩)⟩
    ·simp only[QA,QB,hl,hlz,hlt,<-ZG];exact J _ (by omega)
    ·rw[R (by simp[hlt];omega),R (by simp[hlt];omega)];simp[hj]
    ·rw[R (by simp[hlt,hl];omega),ZZ (by simp[hlt])];simp[hlt]
theorem Qkh{M:Qd}{Z':Env}{w':World}{s:Nat}{o:Qb}{sz n e:Nat}{src:Src}{p':Place}{cs':Array Value}{news:List Value}(hz:o.Q8 =some sz)(hn:n<=o.len)(hty:o.ty=e)
  (hp':Z' s=some p') (hheap:w'.heap[p'.block]? =some (.cells cs' e (0,0))) (hcap:p'.cap<=cs'.size) (hfit:(n+src.len)*sz<=p'.cap)
  (h4:∀i j,i<n->j<sz->∃v,cs'[i*sz+j]? =some v∧W5 v=true) (h4':∀k,k<src.len*sz->cs'[n*sz+k]? =news[k]?) (hl:news.length=src.len*sz) (h1:∀u∈news,u.oneCell'=true)
  (h5:∀i j x,i<n->(o.row i)[j]? =some x->j<sz∧∀v,cs'[i*sz+j]? =some v->Qf M Z' v x)
  (h6:∀i j x,i<src.len->(src.rows.getD i [])[j]? =some x->j<sz∧∀u,news[i*sz+j]? =some u->Qf M Z' u x):Q6 M Z' w' s (Y7 o n src):=by
 obtain⟨m1,m2,m3,m4⟩:=Zli o src hz hn;have at':∀i j,n<=i->i<n+src.len->j<sz->cs'[i*sz+j]? =news[(i-n)*sz+j]? ∧(i-n)*sz+j<news.length:=fun i j hi hi' hj=>by
  have e1:i*sz=n*sz+(i-n)*sz:=by rw[<-ZG];congr 1;omega
  have hlt:=Kr hj (show i-n<src.len by omega);rw[e1,QK];exact⟨h4' _ hlt,by rw[hl];exact hlt⟩
 refine Qcd.Qg9 m1 hp' (fun ty' sz' rows eq=>?_) (fun ty' sz' rows eq=>?_) (fun ty' row l2 eq=>?_) (fun ty' row l2 r c x eq=>?_) hheap hcap (by rw[m2];exact hfit) (fun i j hi hj=>?_) (fun i j x hi hx=>?_)
 ·rw[eq]at m3;exact m3.trans hty
 ·rw[eq]at m3;exact m3.trans hty
 ·rw[eq]at m3;exact m3.trans hty
 ·rw[eq]at m3;exact m3.trans hty
 ·rw[m2]at hi;by_cases hin:i<n
  ·exact h4 i j hin hj
  ·obtain⟨q1,q2⟩:=at' i j (by omega) hi hj;rw[q1];exact⟨news[(i-n)*sz+j],by simp[q2],h1 _ (List.getElem_mem q2)⟩
 ·rw[m2]at hi;rw[m4 i hi]at hx;split at hx
  ·rename_i hin;exact h5 i j x hin hx
  ·rename_i hin;obtain⟨q1,q2⟩:=h6 (i-n) j x (by omega) hx;exact⟨q1,fun v hv=>by rw[(at' i j (by omega) hi q1).1]at hv;exact q2 v hv⟩
theorem Ydu(d:List Nat)(o:Qb)(i:Nat):(o.forget d).row i=(o.row i).map (SV.forget d)∨(o.forget d).row i=o.row i∧∀x∈o.row i,∃p,x=.pv p:=by
 cases o with
 |mix ty sz rows=>left;simp only[Qb.forget,Qb.row,ZE,I];cases rows[i]? <;>simp
 |vec ty sz rows=>right;refine⟨rfl,fun x hx=>?_⟩;simp only[Qb.row,QM]at hx;obtain⟨p,_,rfl⟩:=hx;exact⟨p,rfl⟩
 |tvec ty row l=>right;refine⟨rfl,fun x hx=>?_⟩;simp only[Qb.row,QM]at hx;obtain⟨p,_,rfl⟩:=hx;exact⟨p,rfl⟩
 |tlnk ty row l r c x=>left;exact Zaz.symm
 |nest _ _ _ _ _=>left;rfl
 |map es c=>left;rfl
 |tmap k v l=>left;rfl
 |iter a b=>left;rfl
 |loop a=>left;rfl
 |over a b=>left;rfl
 |mit a b c=>left;rfl
 |dfr a=>left;rfl
 |dead=>left;rfl
theorem Zuv(d:List Nat)(o:Qb):(o.forget d).Q8 =o.Q8 ∧(o.forget d).len=o.len∧(o.forget d).ty=o.ty:=by cases o<;>simp[Qb.forget,Qb.Q8,Qb.len,Qb.ty]
theorem Yg1{M:Qd}{Z Z':Env}{d:List Nat}(hρ:Env.Qai d Z Z'){o:Qb}{i j:Nat}{x:SV}(hx:((o.forget d).row i)[j]? =some x):
  ∃y,(o.row i)[j]? =some y∧∀v,Qf M Z v y->Qf M Z' v x:=by
 rcases Ydu d o i with h|⟨h,hp⟩
 ·rw[h,I,C]at hx;obtain⟨y,hy,rfl⟩:=hx;exact⟨y,hy,fun v hv=>hv.forget M.le_refl hρ⟩
 ·rw[h]at hx;obtain⟨p,rfl⟩:=hp x (QI hx);exact⟨_,hx,fun v hv=>by cases hv with|pv hv=>exact .pv hv⟩
theorem Ypg{M:Qd}{Z Z':Env}{d:List Nat}(hρ:Env.Qai d Z Z'){s:Src}{i j:Nat}{x:SV}(hx:((s.forget d).rows.getD i [])[j]? =some x):
  ∃y,(s.rows.getD i [])[j]? =some y∧∀v,Qf M Z v y->Qf M Z' v x:=by
 cases s with
 |pure r=>
  refine⟨x,hx,fun v hv=>?_⟩;simp only[Src.forget,Src.rows,ZE,I]at hx;cases e:r[i]? with
  |none=>simp[e]at hx
  |some q=>simp[e]at hx;obtain⟨p,_,rfl⟩:=hx;cases hv with|pv hv=>exact .pv hv
 |mixed r=>
  simp only[Src.forget,Src.rows,ZE,I]at hx⊢;cases e:r[i]? with
  |none=>simp[e]at hx
  |some q=>simp[e]at hx⊢;obtain⟨y,hy,rfl⟩:=hx;exact⟨y,hy,fun v hv=>hv.forget M.le_refl hρ⟩
theorem Zym{P:Program}{w:World}{t ty e:Nat}{i:TI}(hu:P.underlying t=some (.slice e))(he:X3 P e i)(hsz:0<i.size)
  {base:Option Addr} {n:Nat} {olds:List Value} (hlo:olds.length=n*i.size) (hb0:n=0∨∃b o,base=some ⟨b,o,none⟩∧∀(j:Nat) (u:Value),olds[j]? =some u->w.cell? ((⟨b,o,none⟩:Addr).add j)=some u)
  {a:Option Addr} {m c':Nat} {news:List Value} (hm:0<m) (hl:news.length=m*i.size) (ha:m=0∨∃b o,a=some ⟨b,o,none⟩∧∀(j:Nat) (u:Value),news[j]? =some u->w.cell? ((⟨b,o,none⟩:Addr).add j)=some u)
  (h1:∀u∈news,u.oneCell'=true) (hb:(n+m)*i.bytes<=140737488355328) (h63:n+m<=9223372036854775807):
  ∃cs' gc w',(ZD #[t,t] ty #[.slice base n n,.slice a m c']).run P w=.ok (.slice (some ⟨w.heap.size,0,none⟩) (n+m) gc) w'∧(w'.heap=w.heap.push (.cells cs' e (0,0))∧w'.os=w.os∧w'.output=w.output)∧(n+m<=gc∧gc<=9223372036854775807)∧gc*i.size<=cs'.size∧
   (∀k,k<n*i.size->cs'[k]? =olds[k]?)∧(∀k,k<m*i.size->cs'[n*i.size+k]? =news[k]?):=by
 obtain⟨inf,hinf,i1,i2,i3⟩:=he.inf;rcases QL n with rfl|hn
 ·obtain⟨v',w',hr,hcase⟩:=Quw (P:=P) (w:=w) (ty:=ty) (base:=base) (n:=0) (c:=0) (cs:=olds.toArray) (c':=c') hu he hsz (.inl ⟨rfl,rfl⟩) (ZA _) hl ha h1 hb h63;rcases hcase with⟨h0,_⟩|⟨cs',gc,rfl,hh,hgc,hcs,ho,hnw⟩|⟨k,_,_,_,hroom,_⟩
  ·omega
  ·exact⟨cs',gc,w',hr,hh,hgc,hcs,fun k hk=>by omega,hnw⟩
  ·omega
 ·obtain⟨b0,o0,rfl,holds⟩:=hb0.resolve_left (by omega);obtain⟨b,o,rfl,hnews⟩:=ha.resolve_left (by omega);have hlz:∀x,(ZK i.zero.cells x).size=x*i.size:=fun x=>by rw[size_zeroCells,he.zsz]
  have hge:=grownCap_ge w (n+m) n e;have hgm:grownCap w (n+m) n e<=9223372036854775807:=grownCap_le_maxLen w (n+m) n e (by unfold maxLen;omega);have hr:=run_append_grow (P:=P) w t ty e inf i.zero hu hinf i3 ⟨b0,o0,none⟩ n n olds (by rw[i1];exact hlo) holds ⟨b,o,none⟩ m c' news (by rw[i1];exact hl) hnews (by omega) (by omega)
   (growslice_fits (by omega) (by rw[i2];exact hb))
  refine⟨_,_,_,hr,⟨rfl,rfl,rfl⟩,⟨hge,hgm⟩,?_,fun k hk=>?_,fun k hk=>?_⟩
  ·simp only[QA,QB,hl,hlz,hlo,<-ZG];exact J _ (by omega)
  ·rw[R (by simp[hlo];omega),R (by simp[hlo];omega)];simp
  ·rw[R (by simp[hlo,hl];omega),ZZ (by simp[hlo])];simp[hlo]
theorem Qb9{P:Program}{tab:Qr}(htab:Q9 P tab){M:Qd}{Z:Env}{H:List Qb}{w:World}{K:Qy}(hm:Mem M Z H w){t t' ty:Nat}{a x:SV}{v u:Value}(ha:Qf M Z v a)(hx:Qf M Z u x)
  (h:(Qae tab H t t' a x).holds H K):Q1 P (ZD #[t,t'] ty #[v,u]) M Z H w K:=by
 unfold Qae at h;split at h
 ·rename_i e sz' by' zr rw' hte;have htt:=htab.get hte;split at h
  ·exact h.elim
  ·rename_i i hi;have ht:=htab.get hi;split at h
   ·exact h.elim
   ·rename_i hcond;obtain⟨rfl,hsz⟩:t'=t∧0<i.size:=⟨Classical.byContradiction fun e=>hcond (.inl e),Nat.pos_of_ne_zero fun e=>hcond (.inr e)⟩;split at h
    ·exact h.elim
    ·rename_i src hsrc;obtain⟨ad,c',news,rfl,hl,hcell,hone,hrep⟩:=(Qv0 hm hx hsrc).news hsz;split at h
     ·simp only[Qp.holds,decide_eq_true_eq]at h;obtain⟨hsol,hb,h63,h⟩:=h;have:=ha.Zq;subst this;obtain⟨v',w',hr,hcase⟩:=Quw (P:=P) (w:=w) (ty:=ty) (base:=none) (n:=0) (c:=0) (cs:= #[]) (c':=c') htt.und ht hsz (.inl ⟨rfl,rfl⟩) (ZA _) hl hcell hone (by simpa using hb) (by simpa using h63);rcases hcase with⟨hm0,rfl,rfl⟩|⟨cs',gc,rfl,⟨hheap,hio⟩,hgc,hcs,_,hnew⟩|⟨k,hk,_⟩
      ·obtain⟨g1,g2⟩:=hm.virt (ty:=e) (sz:=i.size);have e':Y7 (.vec e i.size []) 0 src=.vec e i.size []:=by
        cases src with
        |pure ps=>simp[Src.len]at hm0;subst hm0;rfl
        |mixed xs=>simp[Src.len]at hm0;subst hm0;simp[Src.Zl8]at hsol
       rw[e',hm0]at h;exact⟨_,_,hr,_,_,[],[],M,Z,h,.slz _ _ _ _,g1,g2⟩
      ·have hle:∀q,Z.le (Z.set H.length q):=fun q s p hp=>by
        by_cases e:s=H.length
        ·subst e;rw[hm.fresh _ (ZA _)]at hp;cases hp
        ·rw[Env.Xc _ _ e];exact hp
       have ho:Q6 M (Z.set H.length (some ⟨w.heap.size,cs'.size,[]⟩)) w' H.length (Y7 (.vec e i.size []) 0 src):=by
        refine Qkh (p':=⟨w.heap.size,cs'.size,[]⟩) (e:=e) (sz:=i.size) rfl (Nat.zero_le _) rfl (Env.set_self ..) (by rw[hheap];simp) (ZA _) ?_ (fun i j hi=>by omega) (by simpa using hnew) hl hone (fun i j x hi=>by omega) (fun i j x hi hx=>?_)
        ·exact ZH (J _ hgc.1) hcs
        ·obtain⟨q1,q2⟩:=hrep i j x hi hx;exact⟨q1,fun u hu=>(q2 u hu).mono M.le_refl (hle _)⟩
       obtain⟨g1,g2⟩:=hm.alloc hheap ho hio;refine⟨_,_,hr,_,_,[],[],M,_,h,?_,g1,g2⟩;rw[QF];exact .sl _ _ 0 _ gc 0 ⟨w.heap.size,cs'.size,[]⟩ (Env.set_self ..) (by simp) (by simpa using hcs) (by omega) hgc.2
      ·cases hk
     ·rename_i d sz st n;split at h
      ·exact h.elim
      ·rename_i o ho;split at h
       ·rename_i hc2;obtain⟨rfl,hz,hty,rfl⟩:=hc2;simp only[Qp.holds,decide_eq_true_eq]at h;obtain⟨hn,hb,h63,h⟩:=h;have hlive:=Qhm hz;obtain⟨f1,f2,f3⟩:=Zuv [d] o;have hz':(o.forget [d]).Q8 =some i.size:=f1.trans hz;have hn':n<=(o.forget [d]).len:=by rw[f2];exact hn
        obtain⟨m1,m2,m3,m4⟩:=Zli (o.forget [d]) (src.forget [d]) hz' hn';have hlv':=Qhm m1;have hown:=hm.own d o ho;have but:∀q,Env.Qai [d] Z (Z.set d q):=fun q s p hs hp=>by
         have:s≠d:=by simpa using hs
         rw[Env.Xc _ _ this];exact hp
        obtain⟨base,c,cs,rfl,hg,⟨hnc,hc6⟩,hcap⟩:∃(base:Option Addr) (c:Nat) (cs:Array Value),v=.slice base n c∧((n=0∧c=0)∨∃k,base=some ⟨k,0,none⟩∧w.heap[k]? =some (.cells cs e (0,0))∧c*i.size<=cs.size)∧(n<=c∧c<=9223372036854775807)∧
          ((n=0∧c=0)∨∃p,Z d=some p∧base=some ⟨p.block,0,none⟩∧c*i.size<=p.cap∧w.heap[p.block]? =some (.cells cs e (0,0))):=by
         cases ha with
         |slz _ _ _ a'=>exact⟨a',0,#[],rfl,.inl ⟨rfl,rfl⟩,⟨ZA _,by omega⟩,.inl ⟨rfl,rfl⟩⟩
         |sl _ _ _ _ c k p hp hk hc hnc h6=>
          obtain⟨cs,ty0,a1,a2,a3,_⟩:=(hown.rowOf hz hp).ex;obtain⟨cs2,b1⟩:=hown.heap hz hp;rw[hty]at b1;rw[a1]at b1;cases b1;have hk0:k=0:=by simpa using hk
          subst hk0;have hcc:c*i.size<=p.cap:=by simpa using hc
          exact⟨_,c,cs,rfl,.inr ⟨p.block,rfl,a1,ZH hcc a2⟩,⟨hnc,h6⟩,.inr ⟨p,hp,rfl,hcc,a1⟩⟩
        obtain⟨v',w',hr,hcase⟩:=Quw (P:=P) (w:=w) (ty:=ty) (c':=c') htt.und ht hsz hg hnc hl hcell hone hb h63;have old:∀p,Z d=some p->∃cs0,w.heap[p.block]? =some (.cells cs0 e (0,0))∧p.cap<=cs0.size∧n*i.size<=p.cap∧
          (∀r j,r<n->j<i.size->∃v,cs0[r*i.size+j]? =some v∧W5 v=true)∧
          (∀q r j x,r<n->((o.forget [d]).row r)[j]? =some x->j<i.size∧∀v,cs0[r*i.size+j]? =some v->Qf M (Z.set d q) v x):=fun p hp=>by
         obtain⟨cs0,ty0,a1,a2,a3,a4,a5⟩:=(hown.rowOf hz hp).ex;obtain⟨cs2,b1⟩:=hown.heap hz hp;rw[hty]at b1;rw[a1]at b1;cases b1;refine⟨cs0,a1,a2,ZH (J _ hn) a3,fun r j hr hj=>a4 r j (by omega) hj,fun q r j x hr hx=>?_⟩;obtain⟨y,hy,hv⟩:=Yg1 (M:=M) (but q) hx;obtain⟨c1,c2⟩:=a5 r j y (by omega) hy;exact⟨c1,fun v hvv=>hv v (c2 v hvv)⟩
        have srcs:∀q r j x,r<(src.forget [d]).len->((src.forget [d]).rows.getD r [])[j]? =some x->j<i.size∧∀u,news[r*i.size+j]? =some u->Qf M (Z.set d q) u x:=fun q r j x hr hx=>by rw[Src.Qcr]at hr;obtain⟨y,hy,hv⟩:=Ypg (M:=M) (but q) hx;obtain⟨c1,c2⟩:=hrep r j y hr hy;exact⟨c1,fun u hu=>hv u (c2 u hu)⟩
        have hl':news.length=(src.forget [d]).len*i.size:=by rw[Src.Qcr];exact hl
        rcases hcase with⟨hm0,rfl,hww⟩|⟨cs',gc,rfl,⟨hheap,hio⟩,hgc,hcs,hold,hnew⟩|⟨k,hk,hmp,hheap,hroom,hcs,rfl,rfl⟩
        ·
         have hww':=hww.symm;subst hww';have hos:Q6 M (Z.set d (Z d)) w d (Y7 (o.forget [d]) n (src.forget [d])):=by
          cases hp:Z d with
          |none=>
           have hn0:n=0:=by
            rcases hcap with⟨h0,_⟩|⟨p,h0,_⟩
            ·exact h0
            ·rw[hp]at h0;cases h0
           have hl0:(Y7 (o.forget [d]) n (src.forget [d])).len=0:=by rw[m2,Src.Qcr,hn0,hm0]
           generalize Y7 (o.forget [d]) n (src.forget [d])=oo at*;cases oo with
           |vec _ _ rows=>exact .inl ⟨by rw[Env.set_self],by simpa[Qb.len]using hl0⟩
           |tvec _ _ l2=>exact .inl ⟨by rw[Env.set_self],by simpa[Qb.len,Q0]using hl0⟩
           |mix _ _ rows=>exact .inl ⟨by rw[Env.set_self],by simpa[Qb.len]using hl0⟩
           |tlnk _ _ l2 _ _ _=>exact .inl ⟨by rw[Env.set_self],by simpa[Qb.len,Q0]using hl0⟩
           |map _ _=>simp[Qb.Q8]at m1
           |nest _ _ _ _ _=>simp[Qb.Q8]at m1
           |tmap _ _ _=>simp[Qb.Q8]at m1
           |iter _ _=>simp[Qb.Q8]at m1
           |loop _=>simp[Qb.Q8]at m1
           |over _ _=>simp[Qb.Q8]at m1
           |mit _ _ _=>simp[Qb.Q8]at m1
           |dfr _=>simp[Qb.Q8]at m1
           |dead=>simp[Qb.Q8]at m1
          |some p=>obtain⟨cs0,b1,b2,b3,b4,b5⟩:=old p hp;refine Qkh (p':=p) (e:=e) hz' hn' (f3.trans hty) (Env.set_self ..) b1 b2 (by rw[Src.Qcr,hm0];exact b3) b4 (fun k hk=>by rw[Src.Qcr,hm0]at hk;omega) hl' hone (b5 _) (srcs _)
         obtain⟨g1,g2⟩:=hm.Qzz (q:=Z d) ho hlive hlv' (fun b hb _=>rfl) (ZA _) (fun p' hp'=>.inr ⟨p',hp',rfl⟩) hos;refine⟨_,_,hr,_,_,[d],[d],M,_,h,?_,g1,g2⟩;rw[hm0,Nat.add_zero];rcases hcap with⟨h0,h0'⟩|⟨p,hp,rfl,hcp,_⟩
         ·rw[h0,h0'];exact .slz _ _ _ _
         ·exact .sl _ _ 0 n c 0 p (by rw[Env.set_self,hp]) (by simp) (by simpa using hcp) hnc hc6
        ·
         have hos:Q6 M (Z.set d (some ⟨w.heap.size,cs'.size,[]⟩)) w' d (Y7 (o.forget [d]) n (src.forget [d])):=by
          refine Qkh (p':=⟨w.heap.size,cs'.size,[]⟩) (e:=e) hz' hn' (f3.trans hty) (Env.set_self ..) (by rw[hheap];simp) (ZA _) (by rw[Src.Qcr];exact ZH (J _ hgc.1) hcs)
           (fun r j hr hj=>?_) (by rw[Src.Qcr];exact hnew) hl' hone (fun r j x hr hx=>?_) (srcs _)
          ·rcases hcap with⟨h0,_⟩|⟨p,hp,_,_,hcs0⟩
           ·omega
           ·obtain⟨cs0,b1,b2,b3,b4,b5⟩:=old p hp;rw[hcs0]at b1;cases b1;rw[hold _ (Kr hj hr)];exact b4 r j hr hj
          ·rcases hcap with⟨h0,_⟩|⟨p,hp,_,_,hcs0⟩
           ·omega
           ·obtain⟨cs0,b1,b2,b3,b4,b5⟩:=old p hp;rw[hcs0]at b1;cases b1;obtain⟨c1,c2⟩:=b5 (some ⟨w.heap.size,cs'.size,[]⟩) r j x hr hx;exact⟨c1,fun v hv=>c2 v (by rw[hold _ (Kr c1 hr)]at hv;exact hv)⟩
         obtain⟨g1,g2⟩:=hm.Qzz (q:=some ⟨w.heap.size,cs'.size,[]⟩) (w':=w') ho hlive hlv' (fun b hb _=>by rw[hheap,Array.getElem?_push];simp[Nat.ne_of_lt hb]) (by rw[hheap];simp) (fun p' hp'=>by cases hp';exact .inl (ZA _)) hos hio;refine⟨_,_,hr,_,_,[d],[d],M,_,h,?_,g1,g2⟩;exact .sl _ _ 0 _ gc 0 ⟨w.heap.size,cs'.size,[]⟩ (Env.set_self ..) (by simp) (by simpa using hcs) hgc.1 hgc.2
        ·
         obtain⟨p,hp,hbase,hcp,hcs0⟩:∃p,Z d=some p∧k=p.block∧c*i.size<=p.cap∧w.heap[p.block]? =some (.cells cs e (0,0)):=by
          rcases hcap with⟨h0,h0'⟩|⟨p,hp,hb,hcp,hcs0⟩
          ·omega
          ·rw[hk]at hb;cases hb;exact⟨p,hp,rfl,hcp,hcs0⟩
         subst hbase;have hnc':n*i.size+news.length<=cs.size:=by rw[hl,<-ZG];exact ZH (J _ hroom) hcs
         generalize hcs':(cs.toList.take (n*i.size)++news++cs.toList.drop (n*i.size+news.length)).toArray=cs' at*;have hget:∀m:Nat,cs'[m]? =if m<n*i.size then cs[m]? else if m<n*i.size+news.length then news[m-n*i.size]? else cs[m]? :=fun m=>by rw[<-hcs',List.getElem?_toArray,Ut _ _ _ _ (by simpa using hnc')];simp only[ZJ]
         have hsize:cs'.size=cs.size:=by rw[<-hcs'];simp;omega
         have hheap':(w.setRow p.block cs').heap[p.block]? =some (.cells cs' e (0,0)):=setRow_heap w p.block cs cs' e (0,0) hcs0;obtain⟨cs0,b1,b2,b3,b4,b5⟩:=old p hp;rw[hcs0]at b1;cases b1;have hos:Q6 M (Z.set d (some p)) (w.setRow p.block cs') d (Y7 (o.forget [d]) n (src.forget [d])):=by
          refine Qkh (p':=p) (e:=e) hz' hn' (f3.trans hty) (Env.set_self ..) hheap' (by rw[hsize];exact b2) (by rw[Src.Qcr];exact ZH (J _ hroom) hcp)
           (fun r j hr hj=>?_) (fun k hk=>?_) hl' hone (fun r j x hr hx=>?_) (srcs _)
          ·rw[hget,if_pos (Kr hj hr)];exact b4 r j hr hj
          ·rw[Src.Qcr,<-hl]at hk;rw[hget,if_neg (by omega),if_pos (by omega)];congr 1;omega
          ·obtain⟨c1,c2⟩:=b5 (some p) r j x hr hx;exact⟨c1,fun v hv=>c2 v (by rw[hget,if_pos (Kr c1 hr)]at hv;exact hv)⟩
         obtain⟨g1,g2⟩:=hm.Qzz (q:=some p) (w':=w.setRow p.block cs') ho hlive hlv' (fun b hb hbp=>Qgg (hbp p hp)) (by rw[setRow_size];exact ZA _) (fun p' hp'=>by cases hp';exact .inr ⟨p,hp,rfl⟩) hos;refine⟨_,_,hr,_,_,[d],[d],M,_,h,?_,g1,g2⟩;exact .sl _ _ 0 _ c 0 p (Env.set_self ..) (by simp) (by simpa using hcp) hroom hc6
       ·exact h.elim
     ·rename_i row l;split at h
      ·rename_i hrl;simp only[Qp.holds,decide_eq_true_eq]at h;obtain⟨hpos,hb,h63,h⟩:=h;have hll:(Q0 row l).length=l.length:=by simp[Q0]
       obtain⟨base,n,rfl,hp⟩:∃base n,v=.slice base n n∧Zu M (.slice base n n) (.rsl row.length (Q0 row l)):=by
        cases ha with
        |pv hp=>cases hp with
         |csl a n _ _ hp=>exact⟨a,n,rfl,hp⟩
       obtain⟨base',cb,olds,hbv,hlo,hbh,hbone,hbrep⟩:=(Qv0 (sz:=i.size) hm (Qf.pv hp) (s:=.pure (Q0 row l)) (by simp[U5,hrl])).news hsz;have hsl:(Src.pure (Q0 row l)).len=l.length:=by simp[Src.len,hll]
       rw[hsl]at hbv hlo hbh hbrep;have hbv':=hbv;cases hbv;obtain⟨cs',gc,w',hr,⟨hheap,hio⟩,hgc,hcs,hold,hnew⟩:=Zym (P:=P) (w:=w) (ty:=ty) (c':=c') htt.und ht hsz hlo hbh hpos hl hcell hone hb h63;have hle:∀q,Z.le (Z.set H.length q):=fun q s p hp=>by
        by_cases e:s=H.length
        ·subst e;rw[hm.fresh _ (ZA _)]at hp;cases hp
        ·rw[Env.Xc _ _ e];exact hp
       have hlt:∀r j,r<l.length->j<i.size->∃u,olds[r*i.size+j]? =some u:=fun r j hr hj=>by have:=Kr hj hr;exact⟨olds[r*i.size+j]'(by rw[hlo];exact this),by simp[hlo,this]⟩
       have ho:Q6 M (Z.set H.length (some ⟨w.heap.size,cs'.size,[]⟩)) w' H.length (Y7 (.vec e i.size (Q0 row l)) l.length src):=by
        refine Qkh (p':=⟨w.heap.size,cs'.size,[]⟩) (e:=e) (sz:=i.size) rfl (by simp[Qb.len,hll]) rfl (Env.set_self ..) (by rw[hheap];simp) (ZA _) (ZH (J _ hgc.1) hcs)
         (fun r j hr hj=>?_) hnew hl hone (fun r j x hr hx=>?_) (fun r j x hr hx=>?_)
        ·rw[hold _ (Kr hj hr)];obtain⟨u,hu⟩:=hlt r j hr hj;exact⟨u,hu,hbone u (QI hu)⟩
        ·have hx':((Src.pure (Q0 row l)).rows.getD r [])[j]? =some x:=by
          simp only[Qb.row,Src.rows,ZE,I]at hx⊢;cases hq:l[r]? with
          |none=>rw[hq]at hx;simp at hx
          |some q=>rw[hq]at hx;simpa using hx
         obtain⟨q1,q2⟩:=hbrep r j x hr hx';exact⟨q1,fun v hv=>(q2 v (by rw[hold _ (Kr q1 hr)]at hv;exact hv)).mono M.le_refl (hle _)⟩
        ·obtain⟨q1,q2⟩:=hrep r j x hr hx;exact⟨q1,fun u hu=>(q2 u hu).mono M.le_refl (hle _)⟩
       obtain⟨g1,g2⟩:=hm.alloc hheap ho hio;refine⟨_,_,hr,_,_,[],[],M,_,h,?_,g1,g2⟩;exact .sl _ _ 0 _ gc 0 ⟨w.heap.size,cs'.size,[]⟩ (Env.set_self ..) (by simp) (by simpa using hcs) hgc.1 hgc.2
      ·exact h.elim
     ·exact h.elim
 ·exact h.elim
theorem Mem.plain{M:Qd}{Z:Env}{H:List Qb}{w:World}:Mem M Z (H.map Qb.plain) w↔Mem M Z H w:=by
 have back:∀(s:Nat) (o:Qb),(H.map Qb.plain)[s]? =some o->∃x,H[s]? =some x∧o=x.plain:=fun s o ho=>by simp only[I,C]at ho;obtain⟨x,hx,rfl⟩:=ho;exact⟨x,hx,rfl⟩
 have there:∀(s:Nat) (o:Qb),H[s]? =some o->(H.map Qb.plain)[s]? =some o.plain:=fun s o ho=>by simp[ho]
 constructor
 ·intro h;exact⟨h.imm,fun s o ho=>Q6.plain.1 (h.own s _ (there s o ho)),fun s o p b ho hl hp hb=>h.seps s _ p b (there s o ho) (by rw[(W8 o).2.2.2.1];exact hl) hp hb,
   fun s s' o o' p p' b ho ho' hl hl' hp hp' hb hb'=>h.diss s s' _ _ p p' b (there s o ho) (there s' o' ho') (by rw[(W8 o).2.2.2.1];exact hl) (by rw[(W8 o').2.2.2.1];exact hl') hp hp' hb hb',
   fun s hs=>h.fresh s (by simpa using hs),fun s o p b ho hl hp hb=>h.lts s _ p b (there s o ho) (by rw[(W8 o).2.2.2.1];exact hl) hp hb⟩
 ·intro h;refine⟨h.imm,fun s o ho=>?_,fun s o p b ho hl hp hb=>?_,fun s s' o o' p p' b ho ho' hl hl' hp hp' hb hb'=>?_,fun s hs=>h.fresh s (by simpa using hs),fun s o p b ho hl hp hb=>?_⟩
  ·obtain⟨x,hx,rfl⟩:=back s o ho;exact Q6.plain.2 (h.own s x hx)
  ·obtain⟨x,hx,rfl⟩:=back s o ho;rw[(W8 x).2.2.2.1]at hl;exact h.seps s x p b hx hl hp hb
  ·obtain⟨x,hx,rfl⟩:=back s o ho;obtain⟨y,hy,rfl⟩:=back s' o' ho';rw[(W8 x).2.2.2.1]at hl;rw[(W8 y).2.2.2.1]at hl';exact h.diss s s' x y p p' b hx hy hl hl' hp hp' hb hb'
  ·obtain⟨x,hx,rfl⟩:=back s o ho;rw[(W8 x).2.2.2.1]at hl;exact h.lts s x p b hx hl hp hb
theorem J4.plain{Z:Env}{H:List Qb}{b:Nat}:J4 Z (H.map Qb.plain) b↔J4 Z H b:=by
 constructor
 ·rintro ⟨s,o,p,h1,h2,h3,h4⟩
  simp only[I,C]at h1;obtain⟨x,hx,rfl⟩:=h1;rw[(W8 x).2.2.2.1]at h2;exact⟨s,x,p,hx,h2,h3,h4⟩
 ·rintro ⟨s,o,p,h1,h2,h3,h4⟩
  exact⟨s,o.plain,p,by simp[h1],by rw[(W8 o).2.2.2.1];exact h2,h3,h4⟩
theorem Fr.plain{M M':Qd}{Z Z':Env}{H H':List Qb}{w w':World}{n:Nat}{t f:List Nat}(h:Fr M Z (H.map Qb.plain) w M' Z' (H'.map Qb.plain) w' n t f):Fr M Z H w M' Z' H' w' n t f:=by refine⟨h.imm,fun b o a c=>(h.new b o a c).imp id J4.plain.1,fun b hb=>(h.own b (J4.plain.2 hb)).imp id J4.plain.1,fun b hb hn=>h.same b hb (fun hh=>hn (J4.plain.1 hh)),h.grow,fun s o hs hx ho hl=>?_,h.stay,h.io⟩;obtain⟨⟨o',h1,h2⟩,h3⟩:=h.keep s o.plain hs hx (by simp[ho]) (by rw[(W8 o).2.2.2.1];exact hl);simp only[I,C]at h1;obtain⟨x,hx',rfl⟩:=h1;rw[(W8 x).2.2.2.1]at h2;exact⟨⟨x,hx',h2⟩,h3⟩
theorem Zlo(H:List Qb):(H.map Qb.plain).map Qb.plain=H.map Qb.plain:=by rw[ZY];exact ZO fun o _=>Qmm o
theorem Q1.plain{P:Program}{S:Sem Value}{M:Qd}{Z:Env}{H:List Qb}{w:World}{K:Qy}(h:Q1 P S M Z (H.map Qb.plain) w fun x H1 t f=>∃H',H1.map Qb.plain=H'.map Qb.plain∧K x H' t f):Q1 P S M Z H w K:=by
 obtain⟨v,w',hr,x,H1,t,f,M',Z',⟨H',e,hk⟩,hs,hm,hf⟩:=h;refine⟨v,w',hr,x,H',t,f,M',Z',hk,hs,?_,?_⟩
 ·rw[<-Mem.plain,<-e,Mem.plain];exact hm
 ·rw[ZP]at hf;refine Fr.plain ?_;rw[<-e];have h2:Fr M Z (H.map Qb.plain) w M' Z' ((H1.map Qb.plain)) w' H.length t f:=by refine⟨hf.imm,hf.new,fun b hb=>hf.own b (J4.plain.1 hb),hf.same,hf.grow,fun s o hs hx ho hl=>?_,hf.stay,hf.io⟩;obtain⟨⟨o',h1,h2⟩,h3⟩:=hf.keep s o hs hx ho hl;exact⟨⟨o'.plain,by simp[h1],by rw[(W8 o').2.2.2.1];exact h2⟩,h3⟩
  exact h2
def Jx(row:List Ty)(ps:List (List PV))(l:List (Ql row)):Prop:=
 l.length=ps.length∧∀(i:Nat) (r':List PV),(Q0 row l)[i]? =some r'->∃r,ps[i]? =some r∧∀(j:Nat) (q:PV),r'[j]? =some q->∃p,r[j]? =some p∧∀(M:Qd) (v:Value),Zu M v p->Zu M v q
theorem Jx.refl(row:List Ty)(l:List (Ql row)):Jx row (Q0 row l) l:=⟨by simp[Q0],fun i r' h=>⟨r',h,fun j q hq=>⟨q,hq,fun _ _ h=>h⟩⟩⟩
theorem Jx.of{row:List Ty}{ps:List (List PV)}{l:List (Ql row)}(h:Wo (ofRow row) ps=some l):Jx row ps l:=by obtain⟨g1,g2⟩:=Qme h;refine⟨g1,fun i r' hr=>?_⟩;simp only[Q0,I,C]at hr;obtain⟨y,hy,rfl⟩:=hr;obtain⟨q,hq,hq2⟩:=g2 i y hy;exact⟨q,hq,(Qf3 hq2).2⟩
theorem Jx.append{row:List Ty}{ps:List (List PV)}{l:List (Ql row)}(l0:List (Ql row))(h:Jx row ps l):Jx row (Q0 row l0++ps) (l0++l):=by
 refine⟨by simp[Q0,h.1],fun i r' hr=>?_⟩;simp only[Q0,ZX]at hr⊢;rw[QJ]at hr⊢;split at hr
 ·rename_i hlt;rw[if_pos hlt];exact⟨r',hr,fun j q hq=>⟨q,hq,fun _ _ h=>h⟩⟩
 ·rename_i hlt;rw[if_neg hlt];exact h.2 _ r' hr
def Qi8(H:List Qb)(row:List Ty)(x:SV):Option (Bool×List (Ql row)):=
 match x with
 |.pv (.tsl row' l)=>(Ug row' row l).map fun l=>(true,l)
 |.pv (.rsl sz rows)=>if sz=row.length then(Wo (ofRow row) rows).map fun l=>(true,l)else none
 |.pv (.lit v)=>if Value.isNil v=true then some (true,[])else none
 |.sl s sz st len=>if sz=row.length then match H[s]? with
   |some (.tvec _ row' l)=>(Ug row' row l).map fun l=>(decide (st+len<=l.length),(l.drop st).take len)
   |some (.vec _ so rows)=>if so=row.length∧st+len<=rows.length then(Wo (ofRow row) ((rows.drop st).take len)).map fun l=>(true,l)else none
   |_=>none
  else none
 |_=>none
theorem Qpr{H:List Qb}{row:List Ty}{x:SV}{l:List (Ql row)}{c:Bool}(h:Qi8 H row x=some (c,l))(hc:c=true):∃ps,U5 (H.map Qb.plain) row.length x.Yz=some (.pure ps)∧Jx row ps l:=by
 unfold Qi8 at h;split at h
 ·rename_i row' l0;simp only[C,QC]at h;obtain⟨l1,h1,_,rfl⟩:=h;obtain⟨e,rfl⟩:=Qbd h1;subst e;exact⟨Q0 row' l0,by simp[SV.Yz,U5],Jx.refl _ _⟩
 ·rename_i sz rows;split at h
  ·rename_i e;simp only[C,QC]at h;obtain⟨l1,h1,_,rfl⟩:=h;exact⟨rows,by simp[SV.Yz,U5,e],Jx.of h1⟩
  ·cases h
 ·rename_i v;split at h
  ·rename_i hn;cases h;unfold Value.isNil at hn;split at hn
   ·simp only[ZF]at hn;cases ZC hn.1;cases ZC hn.2;exact⟨[],by simp[SV.Yz,U5],Jx.refl row []⟩
   ·cases hn
  ·cases h
 ·rename_i s sz st len;split at h
  ·rename_i e;split at h
   ·rename_i ty row' l0 hs;simp only[C,QC]at h;obtain⟨l1,h1,hcc,rfl⟩:=h;obtain⟨e2,rfl⟩:=Qbd h1;subst e2;rw[<-hcc]at hc;have hle:st+len<=l0.length:=of_decide_eq_true hc;refine⟨((Q0 row' l0).drop st).take len,?_,?_⟩
    ·simp[SV.Yz,U5,e,hs,Qb.plain,Q0,hle]
    ·have:Q0 row' ((l0.drop st).take len)=((Q0 row' l0).drop st).take len:=by simp[Q0,List.map_take,List.map_drop]
     rw[<-this];exact Jx.refl _ _
   ·rename_i ty so rows hs;split at h
    ·rename_i hcond;simp only[C,QC]at h;obtain⟨l1,h1,_,rfl⟩:=h;refine⟨(rows.drop st).take len,?_,Jx.of h1⟩;simp[SV.Yz,U5,e,hs,Qb.plain,hcond]
    ·cases h
   ·cases h
  ·cases h
 ·cases h
theorem Jx.app{row:List Ty}{ps0 ps:List (List PV)}{l0 l:List (Ql row)}(h0:Jx row ps0 l0)(h:Jx row ps l):Jx row (ps0++ps) (l0++l):=by
 refine⟨by simp[h0.1,h.1],fun i r' hr=>?_⟩;simp only[Q0,ZX]at hr;rw[QJ]at hr⊢;rw[ZP,h0.1]at hr;split at hr
 ·rename_i hlt;rw[if_pos hlt];exact h0.2 i r' hr
 ·rename_i hlt;rw[if_neg hlt];exact h.2 _ r' hr
def Zjm(H:List Qb):SV->Bool
 |.pv (.tsl _ _)=>true
 |.sl s _ _ _=>match H[s]? with
  |some (.tvec _ _ _)=>true
  |_=>false
 |_=>false
def Qos(tab:Qr)(H:List Qb)(t t':Nat)(a x:SV):Qp:=
 match a with
 |.pv (.lit (.slice none 0 0))=>match tab.lookup t with
  |some {desc:=.slice e,..}=>match tab.lookup e with
   |none=>.fail
   |some i=>match i.row with
    |none=>Qae tab H t t' a x
    |some row=>if t'≠t∨i.size=0∨row.length≠i.size then .fail else match Qi8 H row x with
     |none=>Qae tab H t t' a x
     | some (c,l)=>.need c <| .need (decide (l.length * i.bytes <= 140737488355328)) <| .need (decide (l.length <= 9223372036854775807)) <|
       .eff (.sl H.length i.size 0 l.length) (H++[.tvec e row l]) [] []
  |_=>.fail
 |.sl d sz st n=>match H[d]? with
  |some (.tvec ty row l)=>match tab.lookup t with
   |some {desc:=.slice e,..}=>match tab.lookup e with
    |none=>.fail
    |some i=>if t'≠t∨i.size=0∨row.length≠i.size∨sz≠i.size∨ty≠e∨st≠0 then .fail else match Qi8 H row x with
     |none=>.fail
     | some (c,l')=>.need c <| .need (decide (n = l.length)) <| .need (decide ((l ++ l').length * i.bytes <= 140737488355328)) <| .need (decide ((l ++ l').length <= 9223372036854775807)) <|
       .eff (.sl d i.size 0 (l++l').length) ((H.map (Qb.forget [d])).set d (.tvec ty row (l++l'))) [d] [d]
   |_=>.fail
  |some (.vec ty so rows0)=>match Zjm H x with
   |false=>Qae tab H t t' a x
   |true=>match tab.lookup t with
    |some {desc:=.slice e,..}=>match tab.lookup e with
     |none=>.fail
     |some i=>match i.row with
      |none=>.fail
      |some row=>if t'≠t∨i.size=0∨row.length≠i.size∨sz≠i.size∨ty≠e∨st≠0∨so≠i.size then .fail else match Qi8 H row x with
       |none=>.fail
       |some (c,l')=>match Wo (ofRow row) rows0 with
        |none=>.fail
        |some l=>.need c <| .need (decide (n=rows0.length)) <| .need (decide ((l++l').length*i.bytes<=140737488355328)) <| .need (decide ((l++l').length<=9223372036854775807)) <|
         .eff (.sl d i.size 0 (l++l').length) ((H.map (Qb.forget [d])).set d (.tvec ty row (l++l'))) [d] [d]
    |_=>.fail
  |_=>Qae tab H t t' a x
 |.pv (.csl row l)=>match tab.lookup t with
  |some {desc:=.slice e,..}=>match tab.lookup e with
   |none=>.fail
   |some i=>if t'≠t∨i.size=0∨row.length≠i.size then .fail else match Qi8 H row x with
    |none=>.fail
    | some (c,l')=>.need c <| .need (decide (0 < l'.length)) <| .need (decide ((l ++ l').length * i.bytes <= 140737488355328)) <| .need (decide ((l ++ l').length <= 9223372036854775807)) <|
      .eff (.sl H.length i.size 0 (l++l').length) (H++[.tvec e row (l++l')]) [] []
  |_=>.fail
 |_=>Qae tab H t t' a x
theorem Qrl(H:List Qb)(d:Nat)(o:Qb):(H.set d o).map Qb.plain=(H.map Qb.plain).set d o.plain:=by rw[List.map_set]
theorem Zh6{P:Program}{tab:Qr}(htab:Q9 P tab){M:Qd}{Z:Env}{H:List Qb}{w:World}{K:Qy}(hm:Mem M Z H w){t t' ty:Nat}{a x:SV}{v u:Value}(ha:Qf M Z v a)(hx:Qf M Z u x)
  (h:(Qos tab H t t' a x).holds H K):Q1 P (ZD #[t,t'] ty #[v,u]) M Z H w K:=by
 unfold Qos at h;split at h
 ·split at h
  ·rename_i e sz' by' zr rw' hte;split at h
   ·exact h.elim
   ·rename_i i hi;split at h
    ·exact Qb9 htab hm ha hx h
    ·rename_i row hrow;split at h
     ·exact h.elim
     ·rename_i hcond;split at h
      ·exact Qb9 htab hm ha hx h
      ·rename_i c l hsrc;obtain⟨hc,hb,h63,h⟩:=h;have hcond':t'=t∧i.size≠0∧row.length=i.size:=by simp only[not_or,ZR]at hcond;exact hcond
       obtain⟨rfl,hz,hlen⟩:=hcond';obtain⟨ps,hps,hok⟩:=Qpr hsrc hc;refine Q1.plain (Q1.described (Qb9 htab (Mem.plain.2 hm) ha hx.Yz ?_));unfold Qae;have hneg:¬(t'≠t'∨i.size=0):=by simp[hz]
       rw[hlen]at hps;simp only[hte,hi,if_neg hneg,hps];refine⟨rfl,by simpa[Src.len,<-hok.1]using hb,by simpa[Src.len,<-hok.1]using h63,?_⟩;have e1:Y7 (.vec e i.size []) 0 (.pure ps)=.vec e row.length ps:=by simp[Y7,Qb.plain,hlen]
       rw[e1];have e2:(Src.pure ps).len=l.length:=by simp[Src.len,hok.1]
       rw[e2];refine Qrq (K:=fun y H1=>∃H',H1.map Qb.plain=H'.map Qb.plain∧K y H' [] []) hok.1 hok.2 ⟨H++[.tvec e row l],?_,(by rw[ZP];exact h)⟩;simp only[ZX,Zlo]
  ·exact h.elim
 ·rename_i d sz st n;split at h
  ·rename_i oty row l hd;split at h
   ·rename_i e sz' by' zr rw' hte;split at h
    ·exact h.elim
    ·rename_i i hi;split at h
     ·exact h.elim
     ·rename_i hcond;split at h
      ·exact h.elim
      ·rename_i c l' hsrc;obtain⟨hc,hn,hb,h63,h⟩:=h;have hn:=of_decide_eq_true hn;subst hn;have hcond':t'=t∧i.size≠0∧row.length=i.size∧sz=i.size∧oty=e∧st=0:=by simp only[not_or,ZR]at hcond;exact hcond
       obtain⟨rfl,hz,hlen,rfl,rfl,rfl⟩:=hcond';obtain⟨ps,hps,hok⟩:=Qpr hsrc hc;refine Q1.plain (Q1.described (Qb9 htab (Mem.plain.2 hm) ha hx.Yz ?_));unfold Qae;have hneg:¬(t'≠t'∨i.size=0):=by simp[hz]
       rw[hlen]at hps;have hd':(H.map Qb.plain)[d]? =some (.vec oty row.length (Q0 row l)):=by simp[hd,Qb.plain]
       simp only[hte,hi,if_neg hneg,hps,hd'];rw[if_pos (by simp[Qb.Q8,Qb.ty,hlen])];have e2:l.length+(Src.pure ps).len=(l++l').length:=by simp[Src.len,hok.1]
       rw[e2];refine⟨by simp[Qb.len,Q0],hb,h63,?_⟩;have e1:Y7 ((Qb.vec oty row.length (Q0 row l)).forget [d]) l.length ((Src.pure ps).forget [d])=.vec oty row.length (Q0 row l++ps):=by simp[Y7,Qb.plain,Qb.forget,Src.forget,Q0]
       rw[e1];have hdl:d<H.length:=(ZB.1 hd).1;refine⟨_,fun _ _ _ h=>h,.inr ⟨d,.vec oty row.length (Q0 row l++ps),.tvec oty row (l++l'),by simp[hdl],rfl,fun M Z w hh=>(hh.Qnj (hok.append l).1 (hok.append l).2),?_⟩⟩;refine⟨_,?_,h⟩;rw[List.set_set,Qrl,Qrl];congr 1;simp only[ZY];refine ZO fun o _=>?_;simp only[Function.comp,(W8 o).2.2.2.2.2,Qmm]
   ·exact h.elim
  ·rename_i oty so rows0 hd;split at h
   ·exact Qb9 htab hm ha hx h
   split at h
   ·rename_i e sz' by' zr rw' hte;split at h
    ·exact h.elim
    ·rename_i i hi;split at h
     ·exact h.elim
     ·rename_i row hrow;split at h
      ·exact h.elim
      ·rename_i hcond;split at h
       ·exact h.elim
       ·rename_i c l' hsrc;split at h
        ·exact h.elim
        ·rename_i l hl;obtain⟨hc,hn,hb,h63,h⟩:=h;have hn:=of_decide_eq_true hn;subst hn;have hcond':t'=t∧i.size≠0∧row.length=i.size∧sz=i.size∧oty=e∧st=0∧so=i.size:=by simp only[not_or,ZR]at hcond;exact hcond
         obtain⟨rfl,hz,hlen,rfl,rfl,rfl,rfl⟩:=hcond';obtain⟨ps,hps,hok⟩:=Qpr hsrc hc;have hok0:=Jx.of hl;refine Q1.plain (Q1.described (Qb9 htab (Mem.plain.2 hm) ha hx.Yz ?_));unfold Qae;have hneg:¬(t'≠t'∨i.size=0):=by simp[hz]
         rw[hlen]at hps;have hd':(H.map Qb.plain)[d]? =some (.vec oty i.size rows0):=by simp[hd,Qb.plain]
         simp only[hte,hi,if_neg hneg,hps,hd'];rw[if_pos (by simp[Qb.Q8,Qb.ty])];have e2:rows0.length+(Src.pure ps).len=(l++l').length:=by simp[Src.len,hok.1,hok0.1]
         rw[e2];refine⟨by simp[Qb.len],hb,h63,?_⟩;have e1:Y7 ((Qb.vec oty i.size rows0).forget [d]) rows0.length ((Src.pure ps).forget [d])=.vec oty row.length (rows0++ps):=by simp[Y7,Qb.plain,Qb.forget,Src.forget,hlen]
         rw[e1];have hdl:d<H.length:=(ZB.1 hd).1;refine⟨_,fun _ _ _ h=>h,.inr ⟨d,.vec oty row.length (rows0++ps),.tvec oty row (l++l'),by simp[hdl],rfl,fun M Z w hh=>(hh.Qnj (hok0.app hok).1 (hok0.app hok).2),?_⟩⟩;refine⟨_,?_,h⟩;rw[List.set_set,Qrl,Qrl];congr 1;simp only[ZY];refine ZO fun o _=>?_;simp only[Function.comp,(W8 o).2.2.2.2.2,Qmm]
   ·exact h.elim
  ·exact Qb9 htab hm ha hx h
 ·rename_i row l;split at h
  ·rename_i e sz' by' zr rw' hte;split at h
   ·exact h.elim
   ·rename_i i hi;split at h
    ·exact h.elim
    ·rename_i hcond;split at h
     ·exact h.elim
     ·rename_i c l' hsrc;obtain⟨hc,hpos,hb,h63,h⟩:=h;have hcond':t'=t∧i.size≠0∧row.length=i.size:=by simp only[not_or,ZR]at hcond;exact hcond
      obtain⟨rfl,hz,hlen⟩:=hcond';obtain⟨ps,hps,hok⟩:=Qpr hsrc hc;refine Q1.plain (Q1.described (Qb9 htab (Mem.plain.2 hm) ha hx.Yz ?_));unfold Qae;have hneg:¬(t'≠t'∨i.size=0):=by simp[hz]
      rw[hlen]at hps;simp only[hte,hi,if_neg hneg,hps,if_pos hlen];have e2:l.length+(Src.pure ps).len=(l++l').length:=by simp[Src.len,hok.1]
      rw[e2];refine⟨by simpa[Src.len,<-hok.1]using hpos,hb,h63,?_⟩;have e1:Y7 (.vec e i.size (Q0 row l)) l.length (.pure ps)=.vec e row.length (Q0 row l++ps):=by simp[Y7,Qb.plain,hlen,Q0]
      rw[e1];refine Qrq (K:=fun y H1=>∃H',H1.map Qb.plain=H'.map Qb.plain∧K y H' [] []) (hok.append l).1 (hok.append l).2 ⟨H++[.tvec e row (l++l')],?_,(by rw[ZP];exact h)⟩;simp only[ZX,Zlo]
  ·exact h.elim
 ·exact Qb9 htab hm ha hx h
end Go.Sx
section
namespace Go.Sx
open Go
def Qb.Kw:Qb->Bool
 |.vec ..=>true
 |.tvec ..=>true
 |.mix ..=>true
 |_=>false
def Zcw(Z:Env)(H:List Qb)(n b:Nat):Prop:=∃s o p,n<=s∧H[s]? =some o∧o.Kw=true∧Z s=some p∧p.block=b
open Classical in
noncomputable def Qd.sealing(M:Qd)(Z:Env)(H:List Qb)(n:Nat)(w:World):Qd:=fun b=>
 match M b with
 |some o=>some o
 |none=>if Zcw Z H n b then w.heap[b]? else none
theorem Qd.W0(M:Qd)(Z:Env)(H:List Qb)(n:Nat)(w:World):M.le (M.sealing Z H n w):=fun b o h=>by simp[Qd.sealing,h]
theorem Qd.Kx{M:Qd}{Z:Env}{H:List Qb}{n:Nat}{w:World}{b:Nat}{o:Obj}(h0:M b=none)(h:M.sealing Z H n w b=some o):Zcw Z H n b∧w.heap[b]? =some o:=by
 unfold Qd.sealing at h;rw[h0]at h;simp only at h;split at h
 ·rename_i hs;exact⟨hs,h⟩
 ·cases h
theorem Qd.Zmg{M:Qd}{Z:Env}{H:List Qb}{n:Nat}{w:World}(hm:Mem M Z H w){s:Nat}{o:Qb}{p:Place}(hn:n<=s)(hs:H[s]? =some o)(ho:o.Kw=true)(hp:Z s=some p):
  M.sealing Z H n w p.block=w.heap[p.block]? :=by
 have hl:o.live=true:=by cases o<;>simp_all [Qb.Kw,Qb.live]
 unfold Qd.sealing;rw[hm.sep s o p hs hl hp];simp only;rw[if_pos ⟨s,o,p,hn,hs,ho,hp,rfl⟩]
theorem Qd.Qtd{M:Qd}{b i:Nat}{cs:Array Value}{ty:TypeId}{f:Nat×Nat}(h:M b=some (.cells cs ty f)):M.cell b i=cs[i]? :=by simp[Qd.cell,h]
def Qe.sv:(a:Qe)->a.El->SV
 |.val t,x=>.pv (t.pv x)
 |.agg row,x=>SV.X2 ((Zn row x).map .pv)
theorem Qe.Zme{M:Qd}{Z:Env}{v:Value}:∀{a:Qe} {x:a.El},Qf M Z v (a.raw x)->Qf M Z v (a.sv x)
 |.val t,x,h=>h
 |.agg row,x,h=>by
  cases h with
  |agg cs _ hl hr=>have:=Qf.X2 (M:=M) (Z:=Z) (cs:=cs.toList) (l:=(Zn row x).map .pv) (by simpa using hl) (fun i v y hv hy=>hr i v y (by rw[<-ZJ];exact hv) hy);rw[Array.toArray_toList]at this;exact this
def Qkx{α:Type}(f:PV->Option α):SV->Option (Bool×α)
 |.pv p=>match f p with
  |some y=>some (true,y)
  |none=>none
 |_=>none
def Qay{α β:Type}(f:α->Option (Bool×β)):List α->Option (Bool×List β)
 |[]=>some (true,[])
 |x::l=>match f x with
  |none=>none
  |some a=>match Qay f l with
   |none=>none
   |some b=>some (a.1&&b.1,a.2::b.2)
def Qlv(H:List Qb)(n:Nat)(row:List Ty)(f:List SV->Option (Bool×Ql row)):SV->Option (Bool×List (Ql row))
 |.pv p=>match(Ty.seq row).of p with
  |some y=>some (true,y)
  |none=>none
 |.sl s sz st len=>match Nat.ble n s&&QN sz row.length with
  |false=>none
  |true=>match H[s]? with
   |some (.tvec _ row' l)=>match Ug row' row l with
    |some l=>some (decide (st+len<=l.length),(l.drop st).take len)
    |none=>none
   |some (.vec _ so rows)=>match QN so row.length&&Nat.ble (st+len) rows.length with
    |false=>none
    |true=>match Wo (ofRow row) ((rows.drop st).take len)with
     |some l=>some (true,l)
     |none=>none
   |some (.mix _ so rows)=>match QN so row.length&&Nat.ble (st+len) rows.length with
    |false=>none
    |true=>Qay f ((rows.drop st).take len)
   |_=>none
 |_=>none
def Qn5:List SV->Option (Bool×Unit)
 |[]=>some (true,())
 |_=>none
def Qx1{α:Type}(f:SV->Option (Bool×α)):List SV->Option (Bool×α)
 |[x]=>f x
 |_=>none
def Qjr{α β:Type}(f:SV->Option (Bool×α))(g:List SV->Option (Bool×β)):List SV->Option (Bool×(α×β))
 |x::xs=>match f x with
  |none=>none
  |some a=>match g xs with
   |none=>none
   |some b=>some (a.1&&b.1,(a.2,b.2))
 |[]=>none
mutual
def rdT(H:List Qb)(n:Nat):(t:Ty)->SV->Option (Bool×t.El)
 |.int k=>Qkx (Qr9 k)
 |.bool=>Qkx Qs0
 |.str=>Qkx Qqc
 |.seq row=>Qlv H n row (Vh H n row)
def Vh(H:List Qb)(n:Nat):(ts:List Ty)->List SV->Option (Bool×Ql ts)
 |[]=>Qn5
 |[t]=>Qx1 (rdT H n t)
 |t::t'::ts=>Qjr (rdT H n t) (Vh H n (t'::ts))
end
theorem Zy4{M:Qd}{Z:Env}{H:List Qb}{w:World}{n:Nat}(hm:Mem M Z H w){s sz st len:Nat}{o:Qb}{v:Value}{ps:List (List PV)}(hns:n<=s)(hs:H[s]? =some o)(hro:o.Kw=true)(hz:o.Q8 =some sz)
  (hfit:st+len<=o.len) (hpl:ps.length=len)
  (hps:∀(i:Nat) (r:List PV),ps[i]? =some r->r.length<=sz∧∀(j:Nat) (q:PV),r[j]? =some q->∃y,(o.row (st+i))[j]? =some y∧∀u,Qf M Z u y->Zu (M.sealing Z H n w) u q)
  (hr:Qf M Z v (.sl s sz st len)):Zu (M.sealing Z H n w) v (.rsl sz ps):=by
 cases hr with
 |slz=>
  have:ps=[]:=ZV hpl;subst this;rename_i a;cases a with
  |none=>exact .rnil sz
  |some a=>exact .remp a 0 sz
 |sl _ _ _ _ c k' p hp hk hc hn' h6=>
  obtain⟨cs,ty,a1,a2,a3,a4,a5⟩:=((hm.own s o hs).rowOf hz hp).ex;have hM:M.sealing Z H n w p.block=some (.cells cs ty (0,0)):=by rw[Qd.Zmg hm hns hs hro hp];exact a1
  refine .rsl p.block k' c sz len ps hpl.symm hn' (fun i j hi hj=>?_) (fun i r j q u hi hj hcell=>?_) (fun i r hi=>(hps i r hi).1)
  ·obtain⟨u,hu,hone⟩:=a4 (st+i) j (by omega) hj;refine⟨u,?_,hone⟩;rw[Qd.Qtd hM,hk,<-ZG];exact hu
  ·obtain⟨g2,g3⟩:=hps i r hi;obtain⟨y,y1,y2⟩:=g3 j q hj;have hlt:i<ps.length:=(ZB.1 hi).1;obtain⟨b1,b2⟩:=a5 (st+i) j y (by omega) y1;rw[Qd.Qtd hM,hk,<-ZG]at hcell;exact y2 u (b2 u hcell)
def Kn(M:Qd)(Z:Env)(M2:Qd)(ts:List Ty)(xs:List SV)(y:Ql ts):Prop:=
 xs.length=ts.length∧∀(j:Nat) (q:PV),(Zn ts y)[j]? =some q->∃x,xs[j]? =some x∧∀u,Qf M Z u x->Zu M2 u q
def Qcb(M:Qd)(Z:Env)(M2:Qd)(row:List Ty)(rs:List (List SV))(l:List (Ql row)):Prop:=
 l.length=rs.length∧∀(i:Nat) (y:Ql row),l[i]? =some y->∃r,rs[i]? =some r∧Kn M Z M2 row r y
theorem Kn.of{M:Qd}{Z:Env}{M2:Qd}(hle:M.le M2){ts:List Ty}{r:List PV}{y:Ql ts}(h:ofRow ts r=some y):Kn M Z M2 ts (r.map .pv) y:=by
 obtain⟨g1,g2⟩:=Qf3 h;refine⟨by rw[ZP,<-g1,Vc],fun j q hq=>?_⟩;obtain⟨p,hp,himp⟩:=g2 j q hq;refine⟨.pv p,by simp[hp],fun u hu=>?_⟩;cases hu with
 |pv hu=>exact(himp M u hu).mono hle
theorem Qcb.of{M:Qd}{Z:Env}{M2:Qd}(hle:M.le M2){row:List Ty}{rs:List (List PV)}{l:List (Ql row)}(h:Wo (ofRow row) rs=some l):Qcb M Z M2 row (rs.map (·.map .pv)) l:=by obtain⟨g1,g2⟩:=Qme h;refine⟨by simpa using g1,fun i y hy=>?_⟩;obtain⟨r,hr,hr2⟩:=g2 i y hy;exact⟨r.map .pv,by simp[hr],.of hle hr2⟩
theorem Kn.self{M:Qd}{Z:Env}{M2:Qd}(hle:M.le M2){ts:List Ty}(y:Ql ts):Kn M Z M2 ts ((Zn ts y).map .pv) y:=by
 refine⟨by simp[Vc],fun j q hq=>⟨.pv q,by simp[hq],fun u hu=>?_⟩⟩;cases hu with
 |pv hu=>exact hu.mono hle
theorem Qcb.self{M:Qd}{Z:Env}{M2:Qd}(hle:M.le M2){row:List Ty}(l:List (Ql row)):Qcb M Z M2 row ((Q0 row l).map (·.map .pv)) l:=by refine⟨by simp[Q0],fun i y hy=>⟨(Zn row y).map .pv,by simp[Q0,hy],.self hle y⟩⟩
theorem Qnh{M:Qd}{Z:Env}{H:List Qb}{w:World}{n:Nat}(hm:Mem M Z H w){s st len:Nat}{row:List Ty}{o:Qb}{v:Value}{l:List (Ql row)}(hns:n<=s)(hs:H[s]? =some o)(hro:o.Kw=true)(hz:o.Q8 =some row.length)
  (hfit:st+len<=o.len) (hl:l.length=len) (hrows:∀(i:Nat) (y:Ql row),l[i]? =some y->Kn M Z (M.sealing Z H n w) row (o.row (st+i)) y)
  (hr:Qf M Z v (.sl s row.length st len)):Zu (M.sealing Z H n w) v ((Ty.seq row).pv l):=by
 refine .tsl row l (Zy4 hm hns hs hro hz hfit (by simp[Q0,hl]) (fun i r hi=>?_) hr);simp only[Q0,I,C]at hi;obtain⟨y,hy,rfl⟩:=hi;obtain⟨g1,g2⟩:=hrows i y hy;exact⟨by rw[Vc];exact ZA _,g2⟩
def Qg4(M:Qd)(Z:Env)(M2:Qd){α:Type}(f:SV->Option (Bool×α))(g:α->PV):Prop:=
 ∀(x:SV) (c:Bool) (y:α) (v:Value),f x=some (c,y)->c=true->Qf M Z v x->Zu M2 v (g y)
def Qb0(M:Qd)(Z:Env)(M2:Qd)(ts:List Ty)(f:List SV->Option (Bool×Ql ts)):Prop:=
 ∀(xs:List SV) (c:Bool) (y:Ql ts),f xs=some (c,y)->c=true->Kn M Z M2 ts xs y
theorem Qhu{M:Qd}{Z:Env}{M2:Qd}(hle:M.le M2){α:Type}{f:PV->Option α}{g:α->PV}(hf:Qd9 f g):Qg4 M Z M2 (Qkx f) g:=by
 intro x c y v h hc hr;unfold Qkx at h;split at h
 ·split at h
  ·rename_i y' hy;cases h;cases hr with
   |pv hp=>exact(hf _ _ hy M v hp).mono hle
  ·cases h
 ·cases h
theorem Qqi{M:Qd}{Z:Env}{M2:Qd}{row:List Ty}{f:List SV->Option (Bool×Ql row)}(hf:Qb0 M Z M2 row f):∀(rs:List (List SV)) (c:Bool) (l:List (Ql row)),Qay f rs=some (c,l)->c=true->Qcb M Z M2 row rs l
 |[],c,l,h,hc=>by cases h;exact⟨rfl,fun i y hy=>by simp at hy⟩
 |r::rs,c,l,h,hc=>by
  simp only[Qay]at h;split at h
  ·cases h
  ·rename_i a h1;split at h
   ·cases h
   ·rename_i b h2;cases h;rw[ZF]at hc;obtain⟨g1,g2⟩:=Qqi hf rs b.1 b.2 h2 hc.2;refine⟨by simp[g1],fun i y hy=>?_⟩;cases i with
    |zero=>simp at hy;subst hy;exact⟨r,rfl,hf _ a.1 a.2 h1 hc.1⟩
    |succ i=>simp at hy;obtain⟨r',q1,q2⟩:=g2 i y hy;exact⟨r',by simpa using q1,q2⟩
theorem Yp2{M:Qd}{Z:Env}{H:List Qb}{w:World}{n:Nat}(hm:Mem M Z H w){row:List Ty}{f:List SV->Option (Bool×Ql row)}(hf:Qb0 M Z (M.sealing Z H n w) row f):Qg4 M Z (M.sealing Z H n w) (Qlv H n row f) (Ty.seq row).pv:=by
 have hle:=Qd.W0 M Z H n w;intro x c y v h hc hr;unfold Qlv at h;split at h
 ·split at h
  ·rename_i y' hy;cases h;cases hr with
   |pv hp=>exact(Ty.Qz1 (t:=.seq row) hy hp).mono hle
  ·cases h
 ·rename_i s sz st len;split at h
  ·cases h
  ·rename_i e2;rw[ZF]at e2;have hns:=ZS e2.1;have hsz:=ZC e2.2;subst hsz;split at h
   ·rename_i ty row' l ho;split at h
    ·rename_i l' hcast;cases h;obtain⟨e3,rfl⟩:=Qbd hcast;subst e3;have hfit:=of_decide_eq_true hc;refine Qnh hm hns ho rfl rfl hfit (by simp;simp at hfit;omega) (fun i y hy=>?_) hr;rw[U]at hy;split at hy
     ·rw[ZI]at hy;have:(Qb.tvec ty row' l).row (st+i)=(Zn row' y).map .pv:=by simp only[Qb.row,ZE,hy,Option.getD_some]
      rw[this];exact .self hle y
     ·cases hy
    ·cases h
   ·rename_i ty so rows ho;split at h
    ·cases h
    ·rename_i e3;rw[ZF]at e3;have hso:=ZC e3.1;have hfit:=ZS e3.2;split at h
     ·rename_i l hl;cases h;have hrf:=Qcb.of (M:=M) (Z:=Z) hle hl;refine Qnh hm hns ho rfl (by simp[Qb.Q8,hso]) hfit (by rw[hrf.1];simp;omega) (fun i y hy=>?_) hr;obtain⟨r,g1,g2⟩:=hrf.2 i y hy;simp only[I,C]at g1;obtain⟨r0,g1,rfl⟩:=g1;rw[U]at g1;split at g1
      ·rw[ZI]at g1;have:(Qb.vec ty so rows).row (st+i)=r0.map .pv:=by simp[Qb.row,ZE,g1]
       rw[this];exact g2
      ·cases g1
     ·cases h
   ·rename_i ty so rows ho;split at h
    ·cases h
    ·rename_i e3;rw[ZF]at e3;have hso:=ZC e3.1;have hfit:=ZS e3.2;have hrf:=Qqi hf _ _ _ h hc;refine Qnh hm hns ho rfl (by simp[Qb.Q8,hso]) hfit (by rw[hrf.1];simp;omega) (fun i y hy=>?_) hr;obtain⟨r,g1,g2⟩:=hrf.2 i y hy;rw[U]at g1;split at g1
     ·rw[ZI]at g1;have:(Qb.mix ty so rows).row (st+i)=r:=by simp[Qb.row,ZE,g1]
      rw[this];exact g2
     ·cases g1
   ·cases h
 ·cases h
theorem Zdl{M:Qd}{Z:Env}{M2:Qd}:Qb0 M Z M2 [] Qn5:=by
 intro xs c y h hc;unfold Qn5 at h;split at h
 ·exact⟨rfl,fun j q hq=>by simp[Zn]at hq⟩
 ·cases h
theorem Zbv{M:Qd}{Z:Env}{M2:Qd}{t:Ty}{f:SV->Option (Bool×t.El)}(hf:Qg4 M Z M2 f t.pv):Qb0 M Z M2 [t] (Qx1 f):=by
 intro xs c y h hc;match xs,h with
 |[],h=>cases h
 |_::_::_,h=>cases h
 |[x],h=>
  replace h:f x=some (c,y):=h;refine⟨rfl,fun j q hq=>?_⟩;cases j with
  |zero=>simp only[Zn,ZQ,Option.some.injEq]at hq;subst hq;exact⟨x,rfl,fun u hu=>hf x c y u h hc hu⟩
  |succ j=>simp[Zn]at hq
theorem Zcn{M:Qd}{Z:Env}{M2:Qd}{t t':Ty}{ts:List Ty}{f:SV->Option (Bool×t.El)}{g:List SV->Option (Bool×Ql (t'::ts))}(hf:Qg4 M Z M2 f t.pv)(hg:Qb0 M Z M2 (t'::ts) g):Qb0 M Z M2 (t::t'::ts) (Qjr f g):=by
 intro xs c y h hc;unfold Qjr at h;split at h
 ·rename_i x xs;split at h
  ·cases h
  ·rename_i a h1;split at h
   ·cases h
   ·rename_i b h2;cases h;rw[ZF]at hc;obtain⟨g1,g2⟩:=hg _ b.1 b.2 h2 hc.2;refine⟨by simp only[List.length_cons]at g1⊢;omega,fun j q hq=>?_⟩;have hq:(t.pv a.2::Zn (t'::ts) b.2)[j]? =some q:=hq;cases j with
    |zero=>simp only[ZQ,Option.some.injEq]at hq;subst hq;exact⟨x,rfl,fun u hu=>hf x a.1 a.2 u h1 hc.1 hu⟩
    |succ j=>simp only[QE]at hq;obtain⟨z,z1,z2⟩:=g2 j q hq;exact⟨z,by simpa using z1,z2⟩
 ·cases h
theorem Zaj{M:Qd}{Z:Env}{H:List Qb}{w:World}{n:Nat}(hm:Mem M Z H w):∀(k:Nat),
  (∀(t:Ty),SizeOf.sizeOf t<=k->Qg4 M Z (M.sealing Z H n w) (rdT H n t) t.pv)∧(∀(ts:List Ty),SizeOf.sizeOf ts<=k->Qb0 M Z (M.sealing Z H n w) ts (Vh H n ts)):=by
 have hle:=Qd.W0 M Z H n w;intro k;induction k with
 |zero=>exact⟨fun t ht=>by(cases t<;>simp at ht),fun ts ht=>by(cases ts<;>simp at ht)⟩
 |succ k ih=>
  obtain⟨ih1,ih2⟩:=ih;refine⟨fun t ht=>?_,fun ts ht=>?_⟩
  ·match t,ht with
   |.int k,ht=>exact Qhu hle (Qvj k)
   |.bool,ht=>exact Qhu hle Qw8
   |.str,ht=>exact Qhu hle Qzl
   |.seq row,ht=>exact Yp2 hm (ih2 row (by simp at ht;omega))
  ·match ts,ht with
   |[],ht=>exact Zdl
   |[t],ht=>exact Zbv (ih1 t (by simp at ht;omega))
   |t::t'::ts,ht=>exact Zcn (ih1 t (by simp at ht;omega)) (ih2 (t'::ts) (by simp at ht⊢;omega))
theorem Qu1{M:Qd}{Z:Env}{H:List Qb}{w:World}(n:Nat)(hm:Mem M Z H w)(t:Ty):Qg4 M Z (M.sealing Z H n w) (rdT H n t) t.pv:=(Zaj hm _).1 t (ZA _)
theorem Qlc{M:Qd}{Z:Env}{H:List Qb}{w:World}(n:Nat)(hm:Mem M Z H w)(ts:List Ty):Qb0 M Z (M.sealing Z H n w) ts (Vh H n ts):=(Zaj hm _).2 ts (ZA _)
def Qfb(H:List Qb)(n:Nat)(row:List Ty):SV->Option (Bool×Ql row)
 |.pv (.lit (.agg cs))=>match ofRow row (cs.toList.map .lit)with
  |some y=>some (true,y)
  |none=>none
 |.agg l=>Vh H n row l
 |_=>none
def rdA(H:List Qb)(n:Nat):(a:Qe)->SV->Option (Bool×a.El)
 |.val t=>rdT H n t
 |.agg row=>Qfb H n row
theorem Qu5{M:Qd}{Z ρ2:Env}{H:List Qb}{w:World}{n:Nat}(hm:Mem M Z H w){a:Qe}{x:SV}{c:Bool}{y:a.El}{v:Value}(h:rdA H n a x=some (c,y))(hc:c=true)(hr:Qf M Z v x):Qf (M.sealing Z H n w) ρ2 v (a.sv y):=by
 cases a with
 |val t=>exact .pv (Qu1 n hm t x c y v h hc hr)
 |agg row=>
  refine Qe.Zme ?_;have fin:∀(cs:Array Value) (xs:List SV) (y:Ql row),Kn M Z (M.sealing Z H n w) row xs y->cs.size=xs.length->(∀(i:Nat) (u:Value) (x:SV),cs[i]? =some u->xs[i]? =some x->Qf M Z u x)->Qf (M.sealing Z H n w) ρ2 (.agg cs) ((Qe.agg row).raw y):=fun cs xs y hf hl hr=>by refine .agg cs _ (by rw[hl,hf.1];simp[Vc]) fun i u z hu hz=>?_;simp only[I,C]at hz;obtain⟨q,hq,rfl⟩:=hz;obtain⟨x,hx,himp⟩:=hf.2 i q hq;exact .pv (himp u (hr i u x hu hx))
  replace h:Qfb H n row x=some (c,y):=h;unfold Qfb at h;split at h
  ·rename_i cs;split at h
   ·rename_i y' hy;cases h;have:=hr.Zq;subst this;refine fin cs _ _ (Kn.of (Qd.W0 M Z H n w) hy) (by simp) fun i u x hu hx=>?_;simp only[I,C,ZJ]at hx;obtain⟨p,⟨u',hu',rfl⟩,rfl⟩:=hx;rw[hu]at hu';cases hu';exact .pv (.lit _)
   ·cases h
  ·rename_i l;cases hr with
   |agg cs _ hl hr=>exact fin cs l y (Qlc n hm row _ _ _ h hc) hl hr
  ·cases h
theorem Ztv{M:Qd}{Z ρ2:Env}{H:List Qb}{w:World}{n:Nat}(hm:Mem M Z H w){a:Qe}{x:SV}{c:Bool}{y:a.El}{v:Value}(h:rdA H n a x=some (c,y))(hc:c=true)(hr:Qf M Z v x):Qf (M.sealing Z H n w) ρ2 v (a.raw y):=by
 cases a with
 |val t=>exact .pv (Qu1 n hm t x c y v h hc hr)
 |agg row=>
  have fin:∀(cs:Array Value) (xs:List SV) (y:Ql row),Kn M Z (M.sealing Z H n w) row xs y->cs.size=xs.length->(∀(i:Nat) (u:Value) (x:SV),cs[i]? =some u->xs[i]? =some x->Qf M Z u x)->Qf (M.sealing Z H n w) ρ2 (.agg cs) ((Qe.agg row).raw y):=fun cs xs y hf hl hr=>by refine .agg cs _ (by rw[hl,hf.1];simp[Vc]) fun i u z hu hz=>?_;simp only[I,C]at hz;obtain⟨q,hq,rfl⟩:=hz;obtain⟨x,hx,himp⟩:=hf.2 i q hq;exact .pv (himp u (hr i u x hu hx))
  replace h:Qfb H n row x=some (c,y):=h;unfold Qfb at h;split at h
  ·rename_i cs;split at h
   ·rename_i y' hy;cases h;have:=hr.Zq;subst this;refine fin cs _ _ (Kn.of (Qd.W0 M Z H n w) hy) (by simp) fun i u x hu hx=>?_;simp only[I,C,ZJ]at hx;obtain⟨p,⟨u',hu',rfl⟩,rfl⟩:=hx;rw[hu]at hu';cases hu';exact .pv (.lit _)
   ·cases h
  ·rename_i l;cases hr with
   |agg cs _ hl hr=>exact fin cs l y (Qlc n hm row _ _ _ h hc) hl hr
  ·cases h
theorem Q6.Qth{M:Qd}{Z:Env}{w:World}{s ty sz:Nat}{rows:List (List PV)}(h:Q6 M Z w s (.vec ty sz rows)):Q6 M Z w s (.mix ty sz (rows.map (·.map .pv))):=by
 have key:∀i j,Xo (rows.map (·.map SV.pv)) i j=Y0 rows i j:=fun i j=>by
  unfold Y0 Xo;simp only[I];cases rows[i]? with
  |none=>rfl
  |some r=>simp
 rcases h with⟨h1,h2⟩|⟨p,h1,h2⟩
 ·exact .inl ⟨h1,by simp[h2]⟩
 ·refine .inr ⟨p,h1,?_⟩;obtain⟨cs,a1,a2,a3,a4,a5,a6⟩:=h2.ex;exact⟨cs,a1,a2,by simpa using a3,by simpa using a4,fun i j x v hx hv=>by rw[key]at hx;simpa using a5 i j x v hx hv,fun i j x hx=>by rw[key]at hx;simpa using a6 i j x hx⟩
theorem Q6.Qno{M M2:Qd}{Z ρ2:Env}{w:World}{s ty:Nat}{row:List Ty}{rs:List (List SV)}{l:List (Ql row)}(hle:M.le M2)(hs:ρ2 s=Z s)(hf:Qcb M Z M2 row rs l)(h:Q6 M Z w s (.mix ty row.length rs)):Q6 M2 ρ2 w s (.tvec ty row l):=by
 have hlen:(Q0 row l).length=rs.length:=by simp[Q0,hf.1]
 rcases h with⟨h1,h2⟩|⟨p,h1,h2⟩
 ·exact .inl ⟨hs.trans h1,ZV (by rw[hlen,h2];rfl)⟩
 ·refine .inr ⟨p,hs.trans h1,?_⟩;obtain⟨cs,a1,a2,a3,a4,a5,a6⟩:=h2.ex;have key:∀i j x,Y0 (Q0 row l) i j=some x->∃y,Xo rs i j=some y∧∀v,Qf M Z v y->Qf M2 ρ2 v x:=fun i j x hx=>by unfold Y0 at hx;simp only[C,Option.bind_eq_some_iff,Q0,I]at hx;obtain⟨q,⟨r',⟨y,hy,rfl⟩,hq⟩,rfl⟩:=hx;obtain⟨r,g1,g2⟩:=hf.2 i y hy;obtain⟨x,g3,g4⟩:=g2.2 j q hq;exact⟨x,by simp[Xo,g1,g3],fun v h=>.pv (g4 v h)⟩
  refine⟨cs,a1,a2,by rw[hlen];exact a3,by rw[hlen];exact a4,fun i j x v hx hv=>?_,fun i j x hx=>?_⟩
  ·obtain⟨y,hy,himp⟩:=key i j x hx;obtain⟨b1,b2,b3⟩:=a5 i j y v hy hv;exact⟨by rw[hlen];exact b1,b2,himp _ b3⟩
  ·obtain⟨y,hy,_⟩:=key i j x hx;rw[hlen];exact a6 i j y hy
def Ypp:SV->List Nat
 |.sl s _ _ _=>[s]
 |_=>[]
def Zi3:List SV->List Nat
 |[]=>[]
 |x::l=>Ypp x++Zi3 l
def W3:List (List SV)->List Nat
 |[]=>[]
 |r::l=>Zi3 r++W3 l
def Jv(S:List Nat):Nat->List Qb->List Qb
 |_,[]=>[]
 |n,o::l=>(match S.contains n with
  |true=>o
  |false=>.dead)::Jv S (n+1) l
def V9:List Nat->List Qb->List Qb
 |[],H=>H
 |s::S,H=>V9 S (H.set s .dead)
theorem Qm6{S:List Nat}:∀{H:List Qb} {n s:Nat} {x:Qb},(Jv S n H)[s]? =some x->(S.contains (n+s)=true∧H[s]? =some x)∨x=.dead
 |[],n,s,x,h=>by simp[Jv]at h
 |o::l,n,s,x,h=>by
  cases s with
  |zero=>
   simp only[Jv,ZQ,Option.some.injEq]at h;split at h
   ·rename_i e;subst h;exact .inl ⟨e,rfl⟩
   ·exact .inr h.symm
  |succ s=>
   simp only[Jv,QE]at h;rcases Qm6 h with⟨h1,h2⟩|h1
   ·exact .inl ⟨by rw[show n+(s+1)=n+1+s by omega];exact h1,by simpa using h2⟩
   ·exact .inr h1
theorem Qv7{S:List Nat}:∀{H:List Qb} {n:Nat},(Jv S n H).length=H.length
 |[],n=>rfl
 |o::l,n=>by simp[Jv,Qv7 (H:=l)]
theorem Qjy:∀{S:List Nat} {H:List Qb},(V9 S H).length=H.length
 |[],H=>rfl
 |s::S,H=>by simp[V9,Qjy]
theorem Qv2:∀{S:List Nat} {H:List Qb} {s:Nat} {x:Qb},(V9 S H)[s]? =some x->x=.dead∨(s∉S∧H[s]? =some x)
 |[],H,s,x,h=>.inr ⟨by simp,h⟩
 |t::S,H,s,x,h=>by
  simp only[V9]at h;rcases Qv2 h with h1|⟨h1,h2⟩
  ·exact .inl h1
  ·rw[ZL]at h2;split at h2
   ·split at h2
    ·cases h2;exact .inl rfl
    ·cases h2
   ·rename_i e;exact .inr ⟨by simp only[QO,not_or];exact⟨fun h=>e h.symm,h1⟩,h2⟩
theorem Qui:∀{S:List Nat} {H:List Qb} {s:Nat},s∉S->(V9 S H)[s]? =H[s]?
 |[],H,s,_=>rfl
 |t::S,H,s,h=>by simp only[QO,not_or]at h;simp only[V9];rw[Qui h.2,ZL,if_neg fun e=>h.1 e.symm]
theorem Mem.sub{M:Qd}{Z:Env}{H H2:List Qb}{w:World}(hm:Mem M Z H w)(hl:H2.length=H.length)(hs:∀(s:Nat) (x:Qb),H2[s]? =some x->x.live=true->H[s]? =some x):Mem M Z H2 w:=by
 refine⟨hm.imm,fun s x hx=>?_,fun s x p b hx hlx hp hb=>hm.seps s x p b (hs s x hx hlx) hlx hp hb,fun s s' x x' p p' b hx hx' hlx hlx' hp hp' hb hb'=>hm.diss s s' x x' p p' b (hs s x hx hlx) (hs s' x' hx' hlx') hlx hlx' hp hp' hb hb',fun s h=>hm.fresh s (by rw[<-hl];exact h),fun s x p b hx hlx hp hb=>hm.lts s x p b (hs s x hx hlx) hlx hp hb⟩;by_cases hlx:x.live=true
 ·exact hm.own s x (hs s x hx hlx)
 ·rw[Qbv hlx];trivial
def Qp.Qaj(S:List Nat)(H:List Qb):Qp->Qp
 |.fail=>.fail
 |.ok x=>.eff x H S []
 |.eff x H' t g=>.eff x H' (S++t) g
 |.need c r=>.need c (r.Qaj S H)
 |.split c a b=>.split c (a.Qaj S H) (b.Qaj S H)
 |.both a b=>.both (a.Qaj S H) (b.Qaj S H)
theorem Qp.touch_holds{S:List Nat}{H H0:List Qb}{K:Qy}:∀{r:Qp},(r.Qaj S H).holds H0 K->r.holds H fun x H' t g=>K x H' (S++t) g
 |.fail,h=>h
 |.ok x,h=>by show K x H (S++[]) [];rw[List.append_nil];exact h
 |.eff x H' t g,h=>h
 |.need c r,h=>⟨h.1,touch_holds h.2⟩
 |.split c a b,h=>⟨fun e=>touch_holds (h.1 e),fun e=>touch_holds (h.2 e)⟩
 |.both a b,h=>⟨touch_holds h.1,touch_holds h.2⟩
def Qsx(tab:Qr)(H:List Qb)(t:Nat)(x:SV):Option (Bool×List Nat×List Qb):=match x with
 |.sl tmp sz st n=>match H[tmp]? with
  |some (.mix ty so rows)=>match tab.lookup t with
   |some {desc:=.slice e,..}=>match tab.lookup e with
    |none=>none
    |some i=>match i.row with
     |none=>none
     |some row=>match QN so row.length&& !(W3 rows).contains tmp with
      |false=>none
      |true=>match Qay (Vh (Jv (W3 rows) 0 H) 0 row) rows with
       |none=>none
       |some a=>some (a.1,W3 rows,(V9 (W3 rows) H).set tmp (.tvec ty row a.2))
   |_=>none
  |_=>none
 |_=>none
theorem Za2{tab:Qr}{M:Qd}{Z:Env}{H:List Qb}{w:World}(hm:Mem M Z H w){t:Nat}{x:SV}{c:Bool}{S:List Nat}{H2:List Qb}(h:Qsx tab H t x=some (c,S,H2))(hc:c=true):
  H2.length=H.length∧∃M2,Mem M2 Z H2 w∧Fr M Z H w M2 Z H2 w H.length S []∧M.le M2:=by
 unfold Qsx at h;split at h
 ·rename_i tmp sz st n;split at h
  ·rename_i ty so rows ho;split at h
   ·split at h
    ·cases h
    ·split at h
     ·cases h
     ·rename_i i _ _ row hrow;split at h
      ·cases h
      ·rename_i hcond;rw[ZF,Bool.not_eq_true']at hcond;have hso:=ZC hcond.1;subst hso;have htmp:tmp∉W3 rows:=by simpa using hcond.2
       split at h
       ·cases h
       ·rename_i a ha;cases h;obtain⟨c1,l⟩:=a;have hsub:Mem M Z (Jv (W3 rows) 0 H) w:=hm.sub Qv7 fun s x hx hl=>by
         rcases Qm6 hx with⟨_,h2⟩|rfl
         ·exact h2
         ·cases hl
        have hle:=Qd.W0 M Z (Jv (W3 rows) 0 H) 0 w;have hrf:=Qqi (Qlc 0 hsub row) rows c1 l ha hc;have hnew:∀b ob,M b=none->M.sealing Z (Jv (W3 rows) 0 H) 0 w b=some ob->(∃(s:Nat) (o:Qb) (p:Place),s∈W3 rows∧H[s]? =some o∧o.live=true∧Z s=some p∧p.block=b)∧w.heap[b]? =some ob:=fun b ob h0 h1=>by
         obtain⟨⟨s2,o2,p2,q1,q2,q3,q4,q5⟩,q6⟩:=Qd.Kx h0 h1;rcases Qm6 q2 with⟨k1,k2⟩|rfl
         ·exact⟨⟨s2,o2,p2,by simpa using k1,k2,by cases o2<;>simp_all [Qb.Kw,Qb.live],q4,q5⟩,q6⟩
         ·cases q3
        generalize M.sealing Z (Jv (W3 rows) 0 H) 0 w=M2 at hle hrf hnew;have hlt:tmp<H.length:=(ZB.1 ho).1;have hobj:∀s x,((V9 (W3 rows) H).set tmp (.tvec ty row l))[s]? =some x->(s=tmp∧x=.tvec ty row l)∨x=.dead∨(s≠tmp∧s∉W3 rows∧H[s]? =some x):=fun s x hx=>by
         rw[ZL]at hx;split at hx
         ·rename_i e;subst e;split at hx
          ·cases hx;exact .inl ⟨rfl,rfl⟩
          ·cases hx
         ·rename_i e;rcases Qv2 hx with h1|⟨h1,h2⟩
          ·exact .inr (.inl h1)
          ·exact .inr (.inr ⟨fun h=>e h.symm,h1,h2⟩)
        have hold:∀s x,((V9 (W3 rows) H).set tmp (.tvec ty row l))[s]? =some x->x.live=true->s∉W3 rows∧∃y,H[s]? =some y∧y.live=true:=fun s x hx hl=>by
         rcases hobj s x hx with⟨rfl,rfl⟩|rfl|⟨_,h1,h2⟩
         ·exact⟨htmp,_,ho,rfl⟩
         ·cases hl
         ·exact⟨h1,x,h2,hl⟩
        refine⟨by simp[Qjy],M2,⟨fun b ob hb=>?_,fun s x hx=>?_,fun s x p b hx hlx hp hb=>?_,fun s s' x x' p p' b hx hx' hlx hlx' hp hp' hbk hbk'=>?_,fun s hs=>hm.fresh s (by simpa[Qjy]using hs),fun s x p b hx hlx hp hb=>?_⟩,⟨hle,fun b ob h0 h1=>?_,fun b hb=>?_,fun _ _ _=>rfl,ZA _,fun s x hs hx hy hlx=>?_,fun _ _ _=>rfl,rfl,rfl⟩,hle⟩
        ·cases e:M b with
         |some o'=>rw[hle b o' e]at hb;cases hb;exact hm.imm b _ e
         |none=>exact(hnew b ob e hb).2
        ·rcases hobj s x hx with⟨rfl,rfl⟩|rfl|⟨_,_,h2⟩
         ·have h0:Q6 M Z w s (.mix ty row.length rows):=hm.own s _ ho;exact h0.Qno hle rfl hrf
         ·trivial
         ·exact(hm.own s x h2).mono hle Z.le_refl rfl fun _ _ _ _=>rfl
        ·obtain⟨h1,y,h2,h3⟩:=hold s x hx hlx;have h0:=hm.seps s y p b h2 h3 hp hb;cases e:M2 b with
         |none=>rfl
         |some ob=>obtain⟨⟨s2,o2,p2,q1,q2,q3,q4,q5⟩,_⟩:=hnew _ _ h0 e;have:=hm.diss s s2 y o2 p p2 b h2 q2 h3 q3 hp q4 hb (.inl q5);subst this;exact absurd q1 h1
        ·obtain⟨_,y,h2,h3⟩:=hold s x hx hlx;obtain⟨_,y',h2',h3'⟩:=hold s' x' hx' hlx';exact hm.diss s s' y y' p p' b h2 h2' h3 h3' hp hp' hbk hbk'
        ·obtain⟨_,y,h2,h3⟩:=hold s x hx hlx;exact hm.lts s y p b h2 h3 hp hb
        ·obtain⟨⟨s2,o2,p2,q1,q2,q3,q4,q5⟩,_⟩:=hnew b ob h0 h1;exact .inr ⟨s2,o2,p2,q2,q3,q4,.inl q5⟩
        ·obtain⟨s,x,p,h1,h2,h3,h4⟩:=hb;obtain⟨_,y,q1,q2⟩:=hold s x h1 h2;exact .inr ⟨s,y,p,q1,q2,h3,h4⟩
        ·refine⟨?_,fun p hp=>⟨hp,fun _ _=>rfl⟩⟩;by_cases e:s=tmp
         ·subst e;exact⟨.tvec ty row l,by rw[ZL,if_pos rfl,if_pos (by rw[Qjy];exact hlt)],rfl⟩
         ·refine⟨x,?_,hlx⟩;rw[ZL,if_neg fun h=>e h.symm,Qui hx];exact hy
   ·cases h
  ·cases h
 ·cases h
def Qla(tab:Qr)(H:List Qb)(t t':Nat)(a x:SV):Qp:=match Qsx tab H t x with
 |some q=>.need q.1 ((Qos tab q.2.2 t t' a x).Qaj q.2.1 q.2.2)
 |none=>Qos tab H t t' a x
theorem Qwu{P:Program}{tab:Qr}(htab:Q9 P tab){M:Qd}{Z:Env}{H:List Qb}{w:World}{K:Qy}(hm:Mem M Z H w){t t' ty:Nat}{a x:SV}{v u:Value}(ha:Qf M Z v a)(hx:Qf M Z u x)
  (h:(Qla tab H t t' a x).holds H K):Q1 P (ZD #[t,t'] ty #[v,u]) M Z H w K:=by
 unfold Qla at h;split at h
 ·rename_i q hq;obtain⟨c,S,H2⟩:=q;obtain⟨hc,h⟩:=h;obtain⟨hlen,M2,m1,m2,m3⟩:=Za2 hm hq hc;obtain⟨v',w',h1,y,H',tch,fg,M',Z',hk,h2,h3,h4⟩:=Zh6 htab m1 (ha.mono m3 Z.le_refl) (hx.mono m3 Z.le_refl) (Qp.touch_holds h);rw[hlen]at h4;exact⟨v',w',h1,y,H',S++tch,fg,M',Z',hk,h2,h3,m2.trans h4 (fun x h=>ZW _ h) (fun x h=>ZT _ h) (fun x h=>by cases h) (fun x h=>h)⟩
 ·exact Zh6 htab hm ha hx h
def Yp6(H:List Qb)(a x:SV):Bool:=match a with
 |.sl d _ _ _=>match H[d]? with
  |some (.mix _ _ rows)=>!(W3 rows).isEmpty&&Zjm H x
  |_=>false
 |_=>false
def Qu9(tab:Qr)(H:List Qb)(t t':Nat)(a x:SV):Qp:=match Yp6 H a x with
 |true=>match Qsx tab H t a with
  |some q=>.need q.1 ((Qla tab q.2.2 t t' a x).Qaj q.2.1 q.2.2)
  |none=>Qla tab H t t' a x
 |false=>Qla tab H t t' a x
theorem Zp8{P:Program}{tab:Qr}(htab:Q9 P tab){M:Qd}{Z:Env}{H:List Qb}{w:World}{K:Qy}(hm:Mem M Z H w){t t' ty:Nat}{a x:SV}{v u:Value}(ha:Qf M Z v a)(hx:Qf M Z u x)
  (h:(Qu9 tab H t t' a x).holds H K):Q1 P (ZD #[t,t'] ty #[v,u]) M Z H w K:=by
 unfold Qu9 at h;split at h
 ·split at h
  ·rename_i q hq;obtain⟨c,S,H2⟩:=q;obtain⟨hc,h⟩:=h;obtain⟨hlen,M2,m1,m2,m3⟩:=Za2 hm hq hc;obtain⟨v',w',h1,y,H',tch,fg,M',Z',hk,h2,h3,h4⟩:=Qwu (ty:=ty) htab m1 (ha.mono m3 Z.le_refl) (hx.mono m3 Z.le_refl) (Qp.touch_holds h);rw[hlen]at h4;exact⟨v',w',h1,y,H',S++tch,fg,M',Z',hk,h2,h3,m2.trans h4 (fun x h=>ZW _ h) (fun x h=>ZT _ h) (fun x h=>by cases h) (fun x h=>h)⟩
  ·exact Qwu htab hm ha hx h
 ·exact Qwu htab hm ha hx h
theorem Ymh{M:Qd}{Z:Env}{H:List Qb}{w:World}(hm:Mem M Z H w)(S:List Nat):
  Mem (M.sealing Z (Jv S 0 H) 0 w) Z (V9 S H) w∧Fr M Z H w (M.sealing Z (Jv S 0 H) 0 w) Z (V9 S H) w H.length S []:=by
 have hle:=Qd.W0 M Z (Jv S 0 H) 0 w;have hnew:∀b ob,M b=none->M.sealing Z (Jv S 0 H) 0 w b=some ob->(∃(s:Nat) (o:Qb) (p:Place),s∈S∧H[s]? =some o∧o.live=true∧Z s=some p∧p.block=b)∧w.heap[b]? =some ob:=fun b ob h0 h1=>by
  obtain⟨⟨s2,o2,p2,q1,q2,q3,q4,q5⟩,q6⟩:=Qd.Kx h0 h1;rcases Qm6 q2 with⟨k1,k2⟩|rfl
  ·exact⟨⟨s2,o2,p2,by simpa using k1,k2,by cases o2<;>simp_all [Qb.Kw,Qb.live],q4,q5⟩,q6⟩
  ·cases q3
 generalize M.sealing Z (Jv S 0 H) 0 w=M2 at hle hnew;have hold:∀s x,(V9 S H)[s]? =some x->x.live=true->s∉S∧H[s]? =some x:=fun s x hx hl=>by
  rcases Qv2 hx with rfl|h
  ·cases hl
  ·exact h
 refine⟨⟨fun b ob hb=>?_,fun s x hx=>?_,fun s x p b hx hlx hp hb=>?_,fun s s' x x' p p' b hx hx' hlx hlx' hp hp' hbk hbk'=>?_,fun s hs=>hm.fresh s (by simpa[Qjy]using hs),fun s x p b hx hlx hp hb=>?_⟩,⟨hle,fun b ob h0 h1=>?_,fun b hb=>?_,fun _ _ _=>rfl,ZA _,fun s x hs hx hy hlx=>?_,fun _ _ _=>rfl,rfl,rfl⟩⟩
 ·cases e:M b with
  |some o'=>rw[hle b o' e]at hb;cases hb;exact hm.imm b _ e
  |none=>exact(hnew b ob e hb).2
 ·by_cases hl:x.live=true
  ·exact(hm.own s x (hold s x hx hl).2).mono hle Z.le_refl rfl fun _ _ _ _=>rfl
  ·rw[Qbv hl];trivial
 ·obtain⟨h1,h2⟩:=hold s x hx hlx;have h0:=hm.seps s x p b h2 hlx hp hb;cases e:M2 b with
  |none=>rfl
  |some ob=>obtain⟨⟨s2,o2,p2,q1,q2,q3,q4,q5⟩,_⟩:=hnew _ _ h0 e;have:=hm.diss s s2 x o2 p p2 b h2 q2 hlx q3 hp q4 hb (.inl q5);subst this;exact absurd q1 h1
 ·exact hm.diss s s' x x' p p' b (hold s x hx hlx).2 (hold s' x' hx' hlx').2 hlx hlx' hp hp' hbk hbk'
 ·exact hm.lts s x p b (hold s x hx hlx).2 hlx hp hb
 ·obtain⟨⟨s2,o2,p2,q1,q2,q3,q4,q5⟩,_⟩:=hnew b ob h0 h1;exact .inr ⟨s2,o2,p2,q2,q3,q4,.inl q5⟩
 ·obtain⟨s,x,p,h1,h2,h3,h4⟩:=hb;exact .inr ⟨s,x,p,(hold s x h1 h2).2,h2,h3,h4⟩
 ·refine⟨⟨x,?_,hlx⟩,fun p hp=>⟨hp,fun _ _=>rfl⟩⟩;rw[Qui hx];exact hy
def Zh2(H:List Qb)(a x:SV):Option (Bool×Nat×SV):=match a with
 |.ptr s' sz' r j=>match H[s']? with
  |some (.tvec _ row _)=>match x with
   |.sl s sz st n=>match QN s s' with
    |true=>none
    |false=>match row[(norm sz' r j row.length).2]? with
     |some (.seq row')=>match rdT (Jv [s] 0 H) 0 (.seq row') (.sl s sz st n)with
      |some q=>some (q.1,s,.pv ((Ty.seq row').pv q.2))
      |none=>none
     |_=>none
   |_=>none
  |_=>none
 |_=>none
def Qyc(tab:Qr)(H:List Qb)(t:Nat)(a x:SV):Qp:=match Zh2 H a x with
 |some q=>.need q.1 ((Qon tab (H.set q.2.1 .dead) t a q.2.2).Qaj [q.2.1] (H.set q.2.1 .dead))
 |none=>Qon tab H t a x
theorem Zth{P:Program}{tab:Qr}(htab:Q9 P tab){M:Qd}{Z:Env}{H:List Qb}{w:World}{K:Qy}(hm:Mem M Z H w){t:TypeId}{a x:SV}{v u:Value}(ha:Qf M Z v a)(hx:Qf M Z u x)
  (h:(Qyc tab H t a x).holds H K):Qcm P (Instr.storeAt t v u) M Z H w K:=by
 unfold Qyc at h;split at h
 ·rename_i q hq;obtain⟨hc,h⟩:=h;unfold Zh2 at hq;split at hq
  ·split at hq
   ·split at hq
    ·rename_i s sz st n;split at hq
     ·cases hq
     ·split at hq
      ·rename_i row' _;split at hq
       ·rename_i q' hq';cases hq;obtain⟨c,y⟩:=q';have hsub:Mem M Z (Jv [s] 0 H) w:=hm.sub Qv7 fun s x hx hl=>by
         rcases Qm6 hx with⟨_,h2⟩|rfl
         ·exact h2
         ·cases hl
        obtain⟨m1,m2⟩:=Ymh hm [s];have hv:=Qu1 0 hsub (.seq row') _ c y u hq' hc hx;have hle:=Qd.W0 M Z (Jv [s] 0 H) 0 w;obtain⟨w',h1,y',H',tch,fg,M',Z',hk,h2,h3,h4⟩:=Zh4 htab m1 (ha.mono hle Z.le_refl) (.pv hv) (Qp.touch_holds h);rw[Qjy]at h4;exact⟨w',h1,y',H',[s]++tch,fg,M',Z',hk,h2,h3,m2.trans h4 (fun x h=>ZW _ h) (fun x h=>ZT _ h) (fun x h=>by cases h) (fun x h=>h)⟩
       ·cases hq
      ·cases hq
    ·cases hq
   ·cases hq
  ·cases hq
 ·exact Zh4 htab hm ha hx h
end Go.Sx
end

/- Part H of the own logic: append. Part Hs of the own logic: rows that become immutable; reading data out of them; append with them. -/
import Derived.Test.YtebmfbcngojbdaaGreatDoorXSxE
set_option linter.unusedVariables false
set_option linter.unusedSimpArgs false
set_option linter.unnecessarySimpa false
namespace Go.Sx
open Go
inductive Src where
 |pure (rows:List (List PV))
 |mixed (rows:List (List SV))
def Src.rows:Src→List (List SV)
 |.pure r=>r.map (·.map .pv)
 |.mixed r=>r
def Src.len:Src→Nat
 |.pure r=>r.length
 |.mixed r=>r.length
def Src.forget(d:List Nat):Src→Src
 |.pure r=>.pure r
 |.mixed r=>.mixed (r.map (·.map (SV.forget d)))
theorem Src.Vl(d:List Nat)(s:Src):(s.forget d).len=s.len:=by cases s<;>simp[Src.forget,Src.len]
def Src.Qz7:Src→Bool
 |.pure _=>true
 |.mixed r=>!r.isEmpty
theorem Src.Zua(s:Src):s.rows.length=s.len:=by cases s<;>simp[Src.rows,Src.len]
def Jn(H:List Qa)(sz:Nat):SV→Option Src
 |.sl s sz' st len=>if sz'=sz then match H[s]? with
   |some (.vec _ so rows)=>if so=sz∧st+len≤rows.length then some (.pure ((rows.drop st).take len))else none
   |some (.mix _ so rows)=>if so=sz∧st+len≤rows.length then some (.mixed ((rows.drop st).take len))else none
   |_=>none
  else none
 |.pv (.rsl sz' rows)=>if sz'=sz then some (.pure rows)else none
 |.pv (.lit (.slice none 0 0))=>some (.pure [])
 |_=>none
structure Qff (M:Qc) (ρ:Env) (w:World) (sz:Nat) (v:Value) (s:Src):Prop where
 ex:∃a c,v=.slice a s.len c∧(s.len=0∨∃b o,a=some ⟨b,o,none⟩∧
  (∀i j,i<s.len→j<sz→∃u,w.cell? ⟨b,o+(i*sz+j),none⟩=some u∧Xd u=true)∧
  (∀i j x,i<s.len→(s.rows.getD i [])[j]? =some x→j<sz∧∀u,w.cell? ⟨b,o+(i*sz+j),none⟩=some u→Qe M ρ u x))
theorem Qmj{M:Qc}{ρ:Env}{H:List Qa}{w:World}(hm:Mem M ρ H w){sz:Nat}{x:SV}{v:Value}{s:Src}(hx:Qe M ρ v x)(h:Jn H sz x=some s):Qff M ρ w sz v s:=by
 unfold Jn at h;split at h
 ·rename_i sd sz' st len;split at h
  ·rename_i e;subst e;have own:∀(o:Qa) (s:Src),H[sd]? =some o→o.Qx =some sz'→st+len≤o.len→s.len=len→(∀i,i<len→s.rows.getD i []=o.row (st+i))→Qff M ρ w sz' v s:=by
    intro o s ho hz hle hl hr;cases hx with
    |slz a b c a'=>exact⟨_,_,by rw[hl],.inl hl⟩
    |sl _ _ _ _ c k p hp hk hc hn h6=>
     obtain⟨cs,ty,a1,a2,a3,a4,a5⟩:=((hm.own sd o ho).rowOf hz hp).ex;refine⟨_,c,by rw[hl],.inr ⟨p.block,k,rfl,fun i j hi hj=>?_,fun i j x hi hx=>?_⟩⟩
     ·rw[hl]at hi;obtain⟨u,h1,h2⟩:=a4 (st+i) j (by omega) hj;exact⟨u,by simp[World.cell?,a1];rw[hk,←h1];congr 1;rw[Nat.add_mul];omega,h2⟩
     ·rw[hl]at hi;rw[hr i hi]at hx;obtain⟨h1,h2⟩:=a5 (st+i) j x (by omega) hx;refine⟨h1,fun u hu=>h2 u ?_⟩;simp[World.cell?,a1]at hu;rw[←hu,hk];congr 1;rw[Nat.add_mul];omega
   split at h
   ·rename_i ty so rows ho;split at h
    ·rename_i hc;cases h;obtain⟨rfl,hle⟩:=hc;refine own _ _ ho rfl hle (by simp[Src.len];omega) (fun i hi=>?_);have hlt:st+i<rows.length:=by omega
     simp[Src.rows,Qa.row,List.getD,List.getElem?_take,List.getElem?_drop,hi,hlt]
    ·cases h
   ·rename_i ty so rows ho;split at h
    ·rename_i hc;cases h;obtain⟨rfl,hle⟩:=hc;refine own _ _ ho rfl hle (by simp[Src.len];omega) (fun i hi=>?_);have hlt:st+i<rows.length:=by omega
     simp[Src.rows,Qa.row,List.getD,List.getElem?_take,List.getElem?_drop,hi,hlt]
    ·cases h
   ·cases h
  ·cases h
 ·rename_i sz' rows;split at h
  ·rename_i e;subst e;cases h;cases hx with
   |pv hp=>cases hp with
    |rnil=>exact⟨_,_,rfl,.inl rfl⟩
    |remp a c=>exact⟨_,_,rfl,.inl rfl⟩
    |rsl b off c _ n _ hn hc g0 g1 g2=>
     refine⟨_,c,by simp[Src.len];exact hn,.inr ⟨b,off,rfl,fun i j hi hj=>?_,fun i j x hi hx=>?_⟩⟩
     ·obtain⟨u,h1,h2⟩:=g0 i j hi hj;exact⟨u,by rw[←Nat.add_assoc];exact Qc.Qp5 hm h1,h2⟩
     ·have hi':i<rows.length:=hi;simp[Src.rows,List.getD,hi']at hx;obtain⟨q,hq,rfl⟩:=hx;have hj:j<sz':=Nat.lt_of_lt_of_le (List.getElem?_eq_some_iff.1 hq).1 (g2 i rows[i] (by simp[hi']));refine⟨hj,fun u hu=>?_⟩;obtain⟨u',h1,h2⟩:=g0 i j hi' hj;have:=Qc.Qp5 hm h1;rw[←Nat.add_assoc,this]at hu;cases hu;exact .pv (g1 i rows[i] j q u (by simp[hi']) hq h1)
  ·cases h
 ·cases h;have:=hx.Q1;subst this;exact⟨_,_,rfl,.inl rfl⟩
 ·cases h
def Qa.plain:Qa→Qa
 |.tvec ty row l=>.vec ty row.length (Qu row l)
 |.tlnk ty row l r c x=>.mix ty row.length ((List.range l.length).map fun i=>(Qa.tlnk ty row l r c x).row i)
 |o=>o
theorem Qqf{ty:Nat}{row:List Ty}{l:List (Els row)}{r c i:Nat}{x:SV}{d:List Nat}:((Qa.tlnk ty row l r c x).row i).map (SV.forget d)=(Qa.tlnk ty row l r c (x.forget d)).row i:=by
 have e:∀L:List PV,(L.map SV.pv).map (SV.forget d)=L.map SV.pv:=fun L=>by rw[List.map_map];rfl
 simp only[Qa.row];split
 ·rw[List.map_set,e]
 ·rw[e]
theorem Xf(o:Qa):o.plain.Qx =o.Qx ∧o.plain.len=o.len∧o.plain.ty=o.ty∧o.plain.live=o.live∧(∀i,i<o.len→o.plain.row i=o.row i)∧(∀d,o.plain.forget d=(o.forget d).plain):=by
 cases o with
 |tvec ty row l=>refine⟨rfl,by simp[Qa.plain,Qa.len,Qu],rfl,rfl,fun i hi=>?_,fun d=>rfl⟩;have hi:i<l.length:=hi;simp only[Qa.plain,Qa.row,U0 hi]
 |tlnk ty row l r c x=>
  refine⟨rfl,by simp[Qa.plain,Qa.len],rfl,rfl,fun i hi=>?_,fun d=>?_⟩
  ·have hi:i<l.length:=hi;simp only[Qa.plain];show((List.range l.length).map fun i=>(Qa.tlnk ty row l r c x).row i).getD i []=_;simp[List.getD,hi]
  ·show Qa.mix _ _ _=Qa.mix _ _ _;rw[List.map_map];congr 1;refine List.map_congr_left fun i _=>?_;exact Qqf
 |_=>exact⟨rfl,rfl,rfl,rfl,fun i _=>rfl,fun d=>rfl⟩
theorem Qy.plain{M:Qc}{ρ:Env}{w:World}{s:Nat}{o:Qa}:Qy M ρ w s o.plain↔Qy M ρ w s o:=by
 cases o with
 |tlnk ty row l r c x=>
  have e:Yg ((List.range l.length).map fun i=>(Qa.tlnk ty row l r c x).row i)=Y1 row l r c x:=by
   funext i j;by_cases hi:i<l.length
   ·refine Option.ext fun y=>?_;rw[Qml (ty:=ty) hi];simp[Yg,hi]
   ·have h1:Yg ((List.range l.length).map fun i=>(Qa.tlnk ty row l r c x).row i) i j=none:=by unfold Yg;rw[List.getElem?_eq_none (by simpa using hi)];rfl
    have h2:Y1 row l r c x i j=none:=by unfold Y1 Zj;rw[List.getElem?_eq_none (by simpa[Qu]using hi)];rfl
    rw[h1,h2]
  have e2:((List.range l.length).map fun i=>(Qa.tlnk ty row l r c x).row i).length=(Qu row l).length:=by simp[Qu]
  show(_∨∃p,_∧X0 M ρ w p ty row.length _ (Yg _))↔(_∨∃p,_∧X0 M ρ w p ty row.length _ (Y1 row l r c x));rw[e,e2];refine or_congr (and_congr Iff.rfl ?_) Iff.rfl;rw[←List.length_eq_zero_iff,e2,List.length_eq_zero_iff]
 |_=>exact Iff.rfl
def Zq(o:Qa)(n:Nat)(s:Src):Qa:=
 match o.plain,s with
 |.vec ty sz rows,.pure ps=>.vec ty sz ((if n=rows.length then rows else rows.take n)++ps)
 |.vec ty sz rows,.mixed xs=>.mix ty sz (((if n=rows.length then rows else rows.take n).map (·.map .pv))++xs)
 |.mix ty sz rows,s=>.mix ty sz ((if n=rows.length then rows else rows.take n)++s.rows)
 |o,_=>o
theorem Qpq{α:Type}(l:List α)(n:Nat):(if n=l.length then l else l.take n)=l.take n:=by
 split
 ·rename_i h;rw[h,List.take_length]
 ·rfl
theorem Zj2(o:Qa){sz n:Nat}(s:Src)(hz:o.Qx =some sz)(hn:n≤o.len)(ho:o.plain=o):
  (Zq o n s).Qx =some sz∧(Zq o n s).len=n+s.len∧(Zq o n s).ty=o.ty∧
  ∀i,i<n+s.len→(Zq o n s).row i=if i<n then o.row i else s.rows.getD (i-n) []:=by
 cases o with
 |tvec ty row l=>cases ho
 |tlnk ty row l r c x=>cases ho
 |vec ty sz' rows=>
  simp[Qa.Qx]at hz;subst hz;have hn':n≤rows.length:=hn;cases s with
  |pure ps=>
   simp only[Zq,Qa.plain,Qpq];refine⟨rfl,by simp[Qa.len,Src.len];omega,rfl,fun i hi=>?_⟩;simp only[Qa.row,Src.rows,List.getD];split
   ·rename_i h;rw[List.getElem?_append_left (by simp;omega),List.getElem?_take];simp[h]
   ·rename_i h;rw[List.getElem?_append_right (by simp;omega)];simp only[List.length_take,Nat.min_eq_left hn',List.getElem?_map];cases ps[i-n]? <;>simp
  |mixed xs=>
   simp only[Zq,Qa.plain,Qpq];refine⟨rfl,by simp[Qa.len,Src.len];omega,rfl,fun i hi=>?_⟩;simp only[Qa.row,Src.rows,List.getD];split
   ·rename_i h;rw[List.getElem?_append_left (by simp;omega),List.getElem?_map,List.getElem?_take];simp only[h,if_true];cases rows[i]? <;>simp
   ·rename_i h;rw[List.getElem?_append_right (by simp;omega)];simp[Nat.min_eq_left hn']
 |mix ty sz' rows=>
  simp[Qa.Qx]at hz;subst hz;have hn':n≤rows.length:=hn;simp only[Zq,Qa.plain,Qpq];refine⟨rfl,by simp[Qa.len,←Src.Zua];omega,rfl,fun i hi=>?_⟩;simp only[Qa.row,List.getD];split
  ·rename_i h;rw[List.getElem?_append_left (by simp;omega),List.getElem?_take];simp[h]
  ·rename_i h;rw[List.getElem?_append_right (by simp;omega)];simp[Nat.min_eq_left hn']
 |map es c=>simp[Qa.Qx]at hz
 |nest _ _ _ _ _=>simp[Qa.Qx]at hz
 |tmap k v l=>simp[Qa.Qx]at hz
 |iter a b=>simp[Qa.Qx]at hz
 |loop a=>simp[Qa.Qx]at hz
 |over a b=>simp[Qa.Qx]at hz
 |mit a b c=>simp[Qa.Qx]at hz
 |dfr a=>simp[Qa.Qx]at hz
 |dead=>simp[Qa.Qx]at hz
theorem Qbb(o:Qa):o.plain.plain=o.plain:=by cases o<;>rfl
theorem Qth(o:Qa){sz n:Nat}(s:Src)(hz:o.Qx =some sz)(hn:n≤o.len):
  (Zq o n s).Qx =some sz∧(Zq o n s).len=n+s.len∧(Zq o n s).ty=o.ty∧
  ∀i,i<n+s.len→(Zq o n s).row i=if i<n then o.row i else s.rows.getD (i-n) []:=by
 obtain⟨f1,f2,f3,_,f4,_⟩:=Xf o;obtain⟨g1,g2,g3,g4⟩:=Zj2 o.plain s (by rw[f1];exact hz) (by rw[f2];exact hn) (Qbb o);have e:Zq o.plain n s=Zq o n s:=by unfold Zq;rw[Qbb]
 rw[e]at g1 g2 g3 g4;refine⟨g1,g2,g3.trans f3,fun i hi=>?_⟩;rw[g4 i hi];split
 ·rename_i h;rw[f4 i (by omega)]
 ·rfl
def Jm(tab:Qo)(H:List Qa)(t t':Nat)(a x:SV):Qn:=
 match tab.lookup t with
 |some {desc:=.slice e,..}=>match tab.lookup e with
  |none=>.fail
  |some i=>if t'≠t∨i.size=0 then .fail else match Jn H i.size x with
   |none=>.fail
   |some s=>match a with
    |.pv (.lit (.slice none 0 0))=>.need s.Qz7 <| .need (decide (s.len*i.bytes≤140737488355328)) <| .need (decide (s.len≤9223372036854775807)) <|
      .eff (.sl H.length i.size 0 s.len) (H++[Zq (.vec e i.size []) 0 s]) [] []
    |.sl d sz st n=>match H[d]? with
     |none=>.fail
     | some o=>if sz = i.size ∧ o.Qx = some i.size ∧ o.ty = e ∧ st = 0 then
       .need (decide (n≤o.len)) <| .need (decide ((n+s.len)*i.bytes≤140737488355328)) <| .need (decide (n+s.len≤9223372036854775807)) <|
        .eff (.sl d i.size 0 (n+s.len)) ((H.map (Qa.forget [d])).set d (Zq (o.forget [d]) n (s.forget [d]))) [d] [d]
      else .fail
    |.pv (.csl row l)=>if row.length=i.size then
      .need (decide (0<s.len)) <| .need (decide ((l.length+s.len)*i.bytes≤140737488355328)) <| .need (decide (l.length+s.len≤9223372036854775807)) <|
       .eff (.sl H.length i.size 0 (l.length+s.len)) (H++[Zq (.vec e i.size (Qu row l)) l.length s]) [] []
     else .fail
    |_=>.fail
 |_=>.fail
theorem Qff.news{M:Qc}{ρ:Env}{w:World}{sz:Nat}{v:Value}{s:Src}(h:Qff M ρ w sz v s)(hsz:0<sz):∃(a:Option Addr) (c:Nat) (news:List Value),v=.slice a s.len c∧news.length=s.len*sz∧
  (s.len=0∨∃b o,a=some ⟨b,o,none⟩∧∀(j:Nat) (u:Value),news[j]? =some u→w.cell? ((⟨b,o,none⟩:Addr).add j)=some u)∧(∀u∈news,u.oneCell'=true)∧
  (∀i j x,i<s.len→(s.rows.getD i [])[j]? =some x→j<sz∧∀u,news[i*sz+j]? =some u→Qe M ρ u x):=by
 obtain⟨a,c,hv,h|⟨b,o,ha,h1,h2⟩⟩:=h.ex
 ·refine⟨a,c,[],hv,by simp[h],.inl h,by simp,fun i j x hi=>by omega⟩
 ·have hex:∀k,k<s.len*sz→∃u,w.cell? ⟨b,o+k,none⟩=some u∧Xd u=true:=fun k hk=>by have hlt:k/sz<s.len:=(Nat.div_lt_iff_lt_mul hsz).2 hk;have:=h1 (k/sz) (k%sz) hlt (Nat.mod_lt _ hsz);rwa[Nat.div_add_mod']at this
  let f:Nat→Value:=fun k=>if h:k<s.len*sz then Classical.choose (hex k h)else undef;have hf:∀k,k<s.len*sz→w.cell? ⟨b,o+k,none⟩=some (f k)∧Xd (f k)=true:=fun k hk=>by simp only[f,dif_pos hk];exact Classical.choose_spec (hex k hk)
  have hget:∀(k:Nat) (u:Value),((List.range (s.len*sz)).map f)[k]? =some u→k<s.len*sz∧u=f k:=fun k u hu=>by simp only[List.getElem?_map,Option.map_eq_some_iff]at hu;obtain⟨m,hm,rfl⟩:=hu;obtain⟨g1,g2⟩:=List.getElem?_eq_some_iff.1 hm;simp at g1 g2;subst g2;exact⟨g1,rfl⟩
  refine⟨a,c,(List.range (s.len*sz)).map f,hv,by simp,.inr ⟨b,o,ha,fun j u hu=>?_⟩,fun u hu=>?_,fun i j x hi hx=>?_⟩
  ·obtain⟨g1,rfl⟩:=hget j u hu;rw[Addr.add_mid];exact(hf j g1).1
  ·obtain⟨k,hk,rfl⟩:=List.mem_map.1 hu;exact(hf k (by simpa using hk)).2
  ·obtain⟨g1,g2⟩:=h2 i j x hi hx;refine⟨g1,fun u hu=>?_⟩;obtain⟨g3,rfl⟩:=hget _ u hu;exact g2 _ (hf _ g3).1
theorem Qhk{P:Program}{w:World}{t ty e:Nat}{i:TI}(hu:P.underlying t=some (.slice e))(he:Yf P e i){a b:Option Addr}{n c c':Nat}(hn:n≤c):
  (Builtin.append_ #[t,t] ty #[.slice a n c,.slice b 0 c']).run P w=.ok (.slice a n c) w:=by
 obtain⟨inf,hi,i1,_⟩:=he.inf;cases a<;>cases b<;>simp[Builtin.append_,run_underlying hu,sizeOf,typeInfo,hi,Builtin.lenOf,hn,Builtin.firstCells,loadCells,loadCellsFrom,storeCells]
theorem Qly{P:Program}{w:World}{t ty e:Nat}{i:TI}(hu:P.underlying t=some (.slice e))(he:Yf P e i)(hsz:0<i.size)
  {base:Option Addr} {n c:Nat} {cs:Array Value} (hg:(n=0∧c=0)∨∃k,base=some ⟨k,0,none⟩∧w.heap[k]? =some (.cells cs e (0,0))∧c*i.size≤cs.size) (hn:n≤c)
  {a:Option Addr} {m c':Nat} {news:List Value} (hl:news.length=m*i.size) (ha:m=0∨∃b o,a=some ⟨b,o,none⟩∧∀(j:Nat) (u:Value),news[j]? =some u→w.cell? ((⟨b,o,none⟩:Addr).add j)=some u)
  (h1:∀u∈news,u.oneCell'=true) (hb:(n+m)*i.bytes≤140737488355328) (h63:n+m≤9223372036854775807):
  ∃v' w',(Builtin.append_ #[t,t] ty #[.slice base n c,.slice a m c']).run P w=.ok v' w'∧
   ((m = 0 ∧ v' = .slice base n c ∧ w' = w) ∨
    (∃cs' gc,v'=.slice (some ⟨w.heap.size,0,none⟩) (n+m) gc∧(w'.heap=w.heap.push (.cells cs' e (0,0))∧w'.os=w.os∧w'.output=w.output)∧(n+m≤gc∧gc≤9223372036854775807)∧gc*i.size≤cs'.size∧
     (∀k,k<n*i.size→cs'[k]? =cs[k]?)∧(∀k,k<m*i.size→cs'[n*i.size+k]? =news[k]?))∨
    (∃k,base=some ⟨k,0,none⟩∧0<m∧w.heap[k]? =some (.cells cs e (0,0))∧n+m≤c∧c*i.size≤cs.size∧v'=.slice (some ⟨k,0,none⟩) (n+m) c∧w'=w.setRow k (cs.toList.take (n*i.size)++news++cs.toList.drop (n*i.size+news.length)).toArray)):=by
 obtain⟨inf,hinf,i1,i2,i3⟩:=he.inf;rcases Nat.eq_zero_or_pos m with rfl|hm
 ·exact⟨_,w,Qhk hu he hn,.inl ⟨rfl,rfl,rfl⟩⟩
 ·obtain⟨b,o,rfl,hnews⟩:=ha.resolve_left (by omega);have hlz:∀x,(Builtin.zeroCells i.zero.cells x).size=x*i.size:=fun x=>by rw[size_zeroCells,he.zsz]
  rcases hg with⟨rfl,rfl⟩|⟨k,rfl,hgk,hcs⟩
  ·have fin:∀(cc:Nat),m≤cc→cc≤9223372036854775807→∃cs' gc,Value.slice (some ⟨w.heap.size,0,none⟩) m cc=.slice (some ⟨w.heap.size,0,none⟩) (0+m) gc∧((w.drew.alloc (.cells (news.toArray++Builtin.zeroCells i.zero.cells (cc-m)) e)).heap=w.heap.push (.cells cs' e (0,0))∧(w.drew.alloc (.cells (news.toArray++Builtin.zeroCells i.zero.cells (cc-m)) e)).os=w.os∧(w.drew.alloc (.cells (news.toArray++Builtin.zeroCells i.zero.cells (cc-m)) e)).output=w.output)∧(0+m≤gc∧gc≤9223372036854775807)∧gc*i.size≤cs'.size∧
     (∀k,k<0*i.size→cs'[k]? =cs[k]?)∧(∀k,k<m*i.size→cs'[0*i.size+k]? =news[k]?):=fun cc hge hcm=>by
    refine⟨_,cc,by simp,⟨rfl,rfl,rfl⟩,⟨by simpa using hge,hcm⟩,?_,fun k hk=>by omega,fun k hk=>?_⟩
    ·simp only[Array.size_append,List.size_toArray,hl,hlz,←Nat.add_mul];exact Nat.mul_le_mul_right _ (by omega)
    ·simp only[Nat.zero_mul,Nat.zero_add];rw[Array.getElem?_append_left (by simp[hl];exact hk)];simp
   cases base with
   |none=>have hr:=run_append_nil (P:=P) w t ty e inf i.zero hu hinf i3 ⟨b,o,none⟩ m c' news (by rw[i1];exact hl) hnews hm (by omega) (by rw[i2];simp at hb;omega);exact⟨_,_,hr,.inr (.inl (fin _ (grownCap_ge w m 0 e) (grownCap_le_maxLen w m 0 e (by unfold maxLen;omega))))⟩
   |some ad=>
    have hr:=run_append_grow (P:=P) w t ty e inf i.zero hu hinf i3 ad 0 0 [] (by simp) (fun j u hu'=>by simp at hu') ⟨b,o,none⟩ m c' news (by rw[i1];exact hl) hnews (by omega) (by omega)
     (growslice_fits (by omega) (by rw[i2];exact hb))
    simp only[Nat.zero_add,Array.empty_append]at hr;exact⟨_,_,hr,.inr (.inl (fin _ (grownCap_ge w m 0 e) (grownCap_le_maxLen w m 0 e (by unfold maxLen;omega))))⟩
  ·by_cases hroom:n+m≤c
   ·have hfit:n*inf.size+news.length≤cs.size:=by rw[hl,i1,←Nat.add_mul];exact Nat.le_trans (Nat.mul_le_mul_right _ hroom) hcs
    have hr:=run_append_room (P:=P) w t ty e inf hu hinf k n c cs hgk ⟨b,o,none⟩ m c' news (by rw[i1];exact hl) hnews h1 hroom hfit;rw[i1]at hr;exact⟨_,_,hr,.inr (.inr ⟨k,rfl,hm,hgk,hroom,hcs,rfl,rfl⟩)⟩
   ·have hnc:n*i.size≤cs.size:=Nat.le_trans (Nat.mul_le_mul_right _ hn) hcs;have holds:∀(j:Nat) (u:Value),(cs.toList.take (n*i.size))[j]? =some u→w.cell? ((⟨k,0,none⟩:Addr).add j)=some u:=fun j u hu'=>by
     rw[List.getElem?_take]at hu';split at hu'
     ·rw[Addr.add_mid,Nat.zero_add];simp[World.cell?,hgk];simpa using hu'
     ·cases hu'
    have hge:=grownCap_ge w (n+m) c e;have hgm:grownCap w (n+m) c e≤9223372036854775807:=grownCap_le_maxLen w (n+m) c e (by unfold maxLen;omega);have hr:=run_append_grow (P:=P) w t ty e inf i.zero hu hinf i3 ⟨k,0,none⟩ n c (cs.toList.take (n*i.size)) (by simp[i1];omega) holds ⟨b,o,none⟩ m c' news (by rw[i1];exact hl) hnews (by omega) (by omega)
     (growslice_fits (by omega) (by rw[i2];exact hb))
    have hlt:(cs.toList.take (n*i.size)).length=n*i.size:=by simp;omega
    refine⟨_,_,hr,.inr (.inl ⟨_,_,rfl,⟨rfl,rfl,rfl⟩,⟨hge,hgm⟩,?_,fun j hj=>?_,fun j hj=>?_⟩)⟩
    ·simp only[Array.size_append,List.size_toArray,hl,hlz,hlt,←Nat.add_mul];exact Nat.mul_le_mul_right _ (by omega)
    ·rw[Array.getElem?_append_left (by simp[hlt];omega),Array.getElem?_append_left (by simp[hlt];omega)];simp[hj]
    ·rw[Array.getElem?_append_left (by simp[hlt,hl];omega),Array.getElem?_append_right (by simp[hlt])];simp[hlt]
theorem Qc3{M:Qc}{ρ':Env}{w':World}{s:Nat}{o:Qa}{sz n e:Nat}{src:Src}{p':Place}{cs':Array Value}{news:List Value}(hz:o.Qx =some sz)(hn:n≤o.len)(hty:o.ty=e)
  (hp':ρ' s=some p') (hheap:w'.heap[p'.block]? =some (.cells cs' e (0,0))) (hcap:p'.cap≤cs'.size) (hfit:(n+src.len)*sz≤p'.cap)
  (h4:∀i j,i<n→j<sz→∃v,cs'[i*sz+j]? =some v∧Xd v=true) (h4':∀k,k<src.len*sz→cs'[n*sz+k]? =news[k]?) (hl:news.length=src.len*sz) (h1:∀u∈news,u.oneCell'=true)
  (h5:∀i j x,i<n→(o.row i)[j]? =some x→j<sz∧∀v,cs'[i*sz+j]? =some v→Qe M ρ' v x)
  (h6:∀i j x,i<src.len→(src.rows.getD i [])[j]? =some x→j<sz∧∀u,news[i*sz+j]? =some u→Qe M ρ' u x):Qy M ρ' w' s (Zq o n src):=by
 obtain⟨m1,m2,m3,m4⟩:=Qth o src hz hn;have at':∀i j,n≤i→i<n+src.len→j<sz→cs'[i*sz+j]? =news[(i-n)*sz+j]? ∧(i-n)*sz+j<news.length:=fun i j hi hi' hj=>by
  have e1:i*sz=n*sz+(i-n)*sz:=by rw[←Nat.add_mul];congr 1;omega
  have hlt:=Xv hj (show i-n<src.len by omega);rw[e1,Nat.add_assoc];exact⟨h4' _ hlt,by rw[hl];exact hlt⟩
 refine Vz.Qa8 m1 hp' (fun ty' sz' rows eq=>?_) (fun ty' sz' rows eq=>?_) (fun ty' row l2 eq=>?_) (fun ty' row l2 r c x eq=>?_) hheap hcap (by rw[m2];exact hfit) (fun i j hi hj=>?_) (fun i j x hi hx=>?_)
 ·rw[eq]at m3;exact m3.trans hty
 ·rw[eq]at m3;exact m3.trans hty
 ·rw[eq]at m3;exact m3.trans hty
 ·rw[eq]at m3;exact m3.trans hty
 ·rw[m2]at hi;by_cases hin:i<n
  ·exact h4 i j hin hj
  ·obtain⟨q1,q2⟩:=at' i j (by omega) hi hj;rw[q1];exact⟨news[(i-n)*sz+j],by simp[q2],h1 _ (List.getElem_mem q2)⟩
 ·rw[m2]at hi;rw[m4 i hi]at hx;split at hx
  ·rename_i hin;exact h5 i j x hin hx
  ·rename_i hin;obtain⟨q1,q2⟩:=h6 (i-n) j x (by omega) hx;exact⟨q1,fun v hv=>by rw[(at' i j (by omega) hi q1).1]at hv;exact q2 v hv⟩
theorem Ztf(d:List Nat)(o:Qa)(i:Nat):(o.forget d).row i=(o.row i).map (SV.forget d)∨(o.forget d).row i=o.row i∧∀x∈o.row i,∃p,x=.pv p:=by
 cases o with
 |mix ty sz rows=>left;simp only[Qa.forget,Qa.row,List.getD,List.getElem?_map];cases rows[i]? <;>simp
 |vec ty sz rows=>right;refine⟨rfl,fun x hx=>?_⟩;simp only[Qa.row,List.mem_map]at hx;obtain⟨p,_,rfl⟩:=hx;exact⟨p,rfl⟩
 |tvec ty row l=>right;refine⟨rfl,fun x hx=>?_⟩;simp only[Qa.row,List.mem_map]at hx;obtain⟨p,_,rfl⟩:=hx;exact⟨p,rfl⟩
 |tlnk ty row l r c x=>left;exact Qqf.symm
 |nest _ _ _ _ _=>left;rfl
 |map es c=>left;rfl
 |tmap k v l=>left;rfl
 |iter a b=>left;rfl
 |loop a=>left;rfl
 |over a b=>left;rfl
 |mit a b c=>left;rfl
 |dfr a=>left;rfl
 |dead=>left;rfl
theorem Zl3(d:List Nat)(o:Qa):(o.forget d).Qx =o.Qx ∧(o.forget d).len=o.len∧(o.forget d).ty=o.ty:=by cases o<;>simp[Qa.forget,Qa.Qx,Qa.len,Qa.ty]
theorem Znm{M:Qc}{ρ ρ':Env}{d:List Nat}(hρ:Env.J1 d ρ ρ'){o:Qa}{i j:Nat}{x:SV}(hx:((o.forget d).row i)[j]? =some x):
  ∃y,(o.row i)[j]? =some y∧∀v,Qe M ρ v y→Qe M ρ' v x:=by
 rcases Ztf d o i with h|⟨h,hp⟩
 ·rw[h,List.getElem?_map,Option.map_eq_some_iff]at hx;obtain⟨y,hy,rfl⟩:=hx;exact⟨y,hy,fun v hv=>hv.forget M.le_refl hρ⟩
 ·rw[h]at hx;obtain⟨p,rfl⟩:=hp x (List.mem_of_getElem? hx);exact⟨_,hx,fun v hv=>by cases hv with|pv hv=>exact .pv hv⟩
theorem Zd3{M:Qc}{ρ ρ':Env}{d:List Nat}(hρ:Env.J1 d ρ ρ'){s:Src}{i j:Nat}{x:SV}(hx:((s.forget d).rows.getD i [])[j]? =some x):
  ∃y,(s.rows.getD i [])[j]? =some y∧∀v,Qe M ρ v y→Qe M ρ' v x:=by
 cases s with
 |pure r=>
  refine⟨x,hx,fun v hv=>?_⟩;simp only[Src.forget,Src.rows,List.getD,List.getElem?_map]at hx;cases e:r[i]? with
  |none=>simp[e]at hx
  |some q=>simp[e]at hx;obtain⟨p,_,rfl⟩:=hx;cases hv with|pv hv=>exact .pv hv
 |mixed r=>
  simp only[Src.forget,Src.rows,List.getD,List.getElem?_map]at hx⊢;cases e:r[i]? with
  |none=>simp[e]at hx
  |some q=>simp[e]at hx⊢;obtain⟨y,hy,rfl⟩:=hx;exact⟨y,hy,fun v hv=>hv.forget M.le_refl hρ⟩
theorem Ze3{P:Program}{w:World}{t ty e:Nat}{i:TI}(hu:P.underlying t=some (.slice e))(he:Yf P e i)(hsz:0<i.size)
  {base:Option Addr} {n:Nat} {olds:List Value} (hlo:olds.length=n*i.size) (hb0:n=0∨∃b o,base=some ⟨b,o,none⟩∧∀(j:Nat) (u:Value),olds[j]? =some u→w.cell? ((⟨b,o,none⟩:Addr).add j)=some u)
  {a:Option Addr} {m c':Nat} {news:List Value} (hm:0<m) (hl:news.length=m*i.size) (ha:m=0∨∃b o,a=some ⟨b,o,none⟩∧∀(j:Nat) (u:Value),news[j]? =some u→w.cell? ((⟨b,o,none⟩:Addr).add j)=some u)
  (h1:∀u∈news,u.oneCell'=true) (hb:(n+m)*i.bytes≤140737488355328) (h63:n+m≤9223372036854775807):
  ∃cs' gc w',(Builtin.append_ #[t,t] ty #[.slice base n n,.slice a m c']).run P w=.ok (.slice (some ⟨w.heap.size,0,none⟩) (n+m) gc) w'∧(w'.heap=w.heap.push (.cells cs' e (0,0))∧w'.os=w.os∧w'.output=w.output)∧(n+m≤gc∧gc≤9223372036854775807)∧gc*i.size≤cs'.size∧
   (∀k,k<n*i.size→cs'[k]? =olds[k]?)∧(∀k,k<m*i.size→cs'[n*i.size+k]? =news[k]?):=by
 obtain⟨inf,hinf,i1,i2,i3⟩:=he.inf;rcases Nat.eq_zero_or_pos n with rfl|hn
 ·obtain⟨v',w',hr,hcase⟩:=Qly (P:=P) (w:=w) (ty:=ty) (base:=base) (n:=0) (c:=0) (cs:=olds.toArray) (c':=c') hu he hsz (.inl ⟨rfl,rfl⟩) (Nat.le_refl _) hl ha h1 hb h63;rcases hcase with⟨h0,_⟩|⟨cs',gc,rfl,hh,hgc,hcs,ho,hnw⟩|⟨k,_,_,_,hroom,_⟩
  ·omega
  ·exact⟨cs',gc,w',hr,hh,hgc,hcs,fun k hk=>by omega,hnw⟩
  ·omega
 ·obtain⟨b0,o0,rfl,holds⟩:=hb0.resolve_left (by omega);obtain⟨b,o,rfl,hnews⟩:=ha.resolve_left (by omega);have hlz:∀x,(Builtin.zeroCells i.zero.cells x).size=x*i.size:=fun x=>by rw[size_zeroCells,he.zsz]
  have hge:=grownCap_ge w (n+m) n e;have hgm:grownCap w (n+m) n e≤9223372036854775807:=grownCap_le_maxLen w (n+m) n e (by unfold maxLen;omega);have hr:=run_append_grow (P:=P) w t ty e inf i.zero hu hinf i3 ⟨b0,o0,none⟩ n n olds (by rw[i1];exact hlo) holds ⟨b,o,none⟩ m c' news (by rw[i1];exact hl) hnews (by omega) (by omega)
   (growslice_fits (by omega) (by rw[i2];exact hb))
  refine⟨_,_,_,hr,⟨rfl,rfl,rfl⟩,⟨hge,hgm⟩,?_,fun k hk=>?_,fun k hk=>?_⟩
  ·simp only[Array.size_append,List.size_toArray,hl,hlz,hlo,←Nat.add_mul];exact Nat.mul_le_mul_right _ (by omega)
  ·rw[Array.getElem?_append_left (by simp[hlo];omega),Array.getElem?_append_left (by simp[hlo];omega)];simp
  ·rw[Array.getElem?_append_left (by simp[hlo,hl];omega),Array.getElem?_append_right (by simp[hlo])];simp[hlo]
theorem Vc{P:Program}{tab:Qo}(htab:Qf P tab){M:Qc}{ρ:Env}{H:List Qa}{w:World}{K:Qr}(hm:Mem M ρ H w){t t' ty:Nat}{a x:SV}{v u:Value}(ha:Qe M ρ v a)(hx:Qe M ρ u x)
  (h:(Jm tab H t t' a x).holds H K):Qv P (Builtin.append_ #[t,t'] ty #[v,u]) M ρ H w K:=by
 unfold Jm at h;split at h
 ·rename_i e sz' by' zr rw' hte;have htt:=htab.get hte;split at h
  ·exact h.elim
  ·rename_i i hi;have ht:=htab.get hi;split at h
   ·exact h.elim
   ·rename_i hcond;obtain⟨rfl,hsz⟩:t'=t∧0<i.size:=⟨Classical.byContradiction fun e=>hcond (.inl e),Nat.pos_of_ne_zero fun e=>hcond (.inr e)⟩;split at h
    ·exact h.elim
    ·rename_i src hsrc;obtain⟨ad,c',news,rfl,hl,hcell,hone,hrep⟩:=(Qmj hm hx hsrc).news hsz;split at h
     ·simp only[Qn.holds,decide_eq_true_eq]at h;obtain⟨hsol,hb,h63,h⟩:=h;have:=ha.Q1;subst this;obtain⟨v',w',hr,hcase⟩:=Qly (P:=P) (w:=w) (ty:=ty) (base:=none) (n:=0) (c:=0) (cs:= #[]) (c':=c') htt.und ht hsz (.inl ⟨rfl,rfl⟩) (Nat.le_refl _) hl hcell hone (by simpa using hb) (by simpa using h63);rcases hcase with⟨hm0,rfl,rfl⟩|⟨cs',gc,rfl,⟨hheap,hio⟩,hgc,hcs,_,hnew⟩|⟨k,hk,_⟩
      ·obtain⟨g1,g2⟩:=hm.virt (ty:=e) (sz:=i.size);have e':Zq (.vec e i.size []) 0 src=.vec e i.size []:=by
        cases src with
        |pure ps=>simp[Src.len]at hm0;subst hm0;rfl
        |mixed xs=>simp[Src.len]at hm0;subst hm0;simp[Src.Qz7]at hsol
       rw[e',hm0]at h;exact⟨_,_,hr,_,_,[],[],M,ρ,h,.slz _ _ _ _,g1,g2⟩
      ·have hle:∀q,ρ.le (ρ.set H.length q):=fun q s p hp=>by
        by_cases e:s=H.length
        ·subst e;rw[hm.fresh _ (Nat.le_refl _)]at hp;cases hp
        ·rw[Env.Zu _ _ e];exact hp
       have ho:Qy M (ρ.set H.length (some ⟨w.heap.size,cs'.size,[]⟩)) w' H.length (Zq (.vec e i.size []) 0 src):=by
        refine Qc3 (p':=⟨w.heap.size,cs'.size,[]⟩) (e:=e) (sz:=i.size) rfl (Nat.zero_le _) rfl (Env.set_self ..) (by rw[hheap];simp) (Nat.le_refl _) ?_ (fun i j hi=>by omega) (by simpa using hnew) hl hone (fun i j x hi=>by omega) (fun i j x hi hx=>?_)
        ·exact Nat.le_trans (Nat.mul_le_mul_right _ hgc.1) hcs
        ·obtain⟨q1,q2⟩:=hrep i j x hi hx;exact⟨q1,fun u hu=>(q2 u hu).mono M.le_refl (hle _)⟩
       obtain⟨g1,g2⟩:=hm.alloc hheap ho hio;refine⟨_,_,hr,_,_,[],[],M,_,h,?_,g1,g2⟩;rw[Nat.zero_add];exact .sl _ _ 0 _ gc 0 ⟨w.heap.size,cs'.size,[]⟩ (Env.set_self ..) (by simp) (by simpa using hcs) (by omega) hgc.2
      ·cases hk
     ·rename_i d sz st n;split at h
      ·exact h.elim
      ·rename_i o ho;split at h
       ·rename_i hc2;obtain⟨rfl,hz,hty,rfl⟩:=hc2;simp only[Qn.holds,decide_eq_true_eq]at h;obtain⟨hn,hb,h63,h⟩:=h;have hlive:=U9 hz;obtain⟨f1,f2,f3⟩:=Zl3 [d] o;have hz':(o.forget [d]).Qx =some i.size:=f1.trans hz;have hn':n≤(o.forget [d]).len:=by rw[f2];exact hn
        obtain⟨m1,m2,m3,m4⟩:=Qth (o.forget [d]) (src.forget [d]) hz' hn';have hlv':=U9 m1;have hown:=hm.own d o ho;have but:∀q,Env.J1 [d] ρ (ρ.set d q):=fun q s p hs hp=>by
         have:s≠d:=by simpa using hs
         rw[Env.Zu _ _ this];exact hp
        obtain⟨base,c,cs,rfl,hg,⟨hnc,hc6⟩,hcap⟩:∃(base:Option Addr) (c:Nat) (cs:Array Value),v=.slice base n c∧((n=0∧c=0)∨∃k,base=some ⟨k,0,none⟩∧w.heap[k]? =some (.cells cs e (0,0))∧c*i.size≤cs.size)∧(n≤c∧c≤9223372036854775807)∧
          ((n=0∧c=0)∨∃p,ρ d=some p∧base=some ⟨p.block,0,none⟩∧c*i.size≤p.cap∧w.heap[p.block]? =some (.cells cs e (0,0))):=by
         cases ha with
         |slz _ _ _ a'=>exact⟨a',0,#[],rfl,.inl ⟨rfl,rfl⟩,⟨Nat.le_refl _,by omega⟩,.inl ⟨rfl,rfl⟩⟩
         |sl _ _ _ _ c k p hp hk hc hnc h6=>
          obtain⟨cs,ty0,a1,a2,a3,_⟩:=(hown.rowOf hz hp).ex;obtain⟨cs2,b1⟩:=hown.heap hz hp;rw[hty]at b1;rw[a1]at b1;cases b1;have hk0:k=0:=by simpa using hk
          subst hk0;have hcc:c*i.size≤p.cap:=by simpa using hc
          exact⟨_,c,cs,rfl,.inr ⟨p.block,rfl,a1,Nat.le_trans hcc a2⟩,⟨hnc,h6⟩,.inr ⟨p,hp,rfl,hcc,a1⟩⟩
        obtain⟨v',w',hr,hcase⟩:=Qly (P:=P) (w:=w) (ty:=ty) (c':=c') htt.und ht hsz hg hnc hl hcell hone hb h63;have old:∀p,ρ d=some p→∃cs0,w.heap[p.block]? =some (.cells cs0 e (0,0))∧p.cap≤cs0.size∧n*i.size≤p.cap∧
          (∀r j,r<n→j<i.size→∃v,cs0[r*i.size+j]? =some v∧Xd v=true)∧
          (∀q r j x,r<n→((o.forget [d]).row r)[j]? =some x→j<i.size∧∀v,cs0[r*i.size+j]? =some v→Qe M (ρ.set d q) v x):=fun p hp=>by
         obtain⟨cs0,ty0,a1,a2,a3,a4,a5⟩:=(hown.rowOf hz hp).ex;obtain⟨cs2,b1⟩:=hown.heap hz hp;rw[hty]at b1;rw[a1]at b1;cases b1;refine⟨cs0,a1,a2,Nat.le_trans (Nat.mul_le_mul_right _ hn) a3,fun r j hr hj=>a4 r j (by omega) hj,fun q r j x hr hx=>?_⟩;obtain⟨y,hy,hv⟩:=Znm (M:=M) (but q) hx;obtain⟨c1,c2⟩:=a5 r j y (by omega) hy;exact⟨c1,fun v hvv=>hv v (c2 v hvv)⟩
        have srcs:∀q r j x,r<(src.forget [d]).len→((src.forget [d]).rows.getD r [])[j]? =some x→j<i.size∧∀u,news[r*i.size+j]? =some u→Qe M (ρ.set d q) u x:=fun q r j x hr hx=>by rw[Src.Vl]at hr;obtain⟨y,hy,hv⟩:=Zd3 (M:=M) (but q) hx;obtain⟨c1,c2⟩:=hrep r j y hr hy;exact⟨c1,fun u hu=>hv u (c2 u hu)⟩
        have hl':news.length=(src.forget [d]).len*i.size:=by rw[Src.Vl];exact hl
        rcases hcase with⟨hm0,rfl,hww⟩|⟨cs',gc,rfl,⟨hheap,hio⟩,hgc,hcs,hold,hnew⟩|⟨k,hk,hmp,hheap,hroom,hcs,rfl,rfl⟩
        ·
         have hww':=hww.symm;subst hww';have hos:Qy M (ρ.set d (ρ d)) w d (Zq (o.forget [d]) n (src.forget [d])):=by
          cases hp:ρ d with
          |none=>
           have hn0:n=0:=by
            rcases hcap with⟨h0,_⟩|⟨p,h0,_⟩
            ·exact h0
            ·rw[hp]at h0;cases h0
           have hl0:(Zq (o.forget [d]) n (src.forget [d])).len=0:=by rw[m2,Src.Vl,hn0,hm0]
           generalize Zq (o.forget [d]) n (src.forget [d])=oo at*;cases oo with
           |vec _ _ rows=>exact .inl ⟨by rw[Env.set_self],by simpa[Qa.len]using hl0⟩
           |tvec _ _ l2=>exact .inl ⟨by rw[Env.set_self],by simpa[Qa.len,Qu]using hl0⟩
           |mix _ _ rows=>exact .inl ⟨by rw[Env.set_self],by simpa[Qa.len]using hl0⟩
           |tlnk _ _ l2 _ _ _=>exact .inl ⟨by rw[Env.set_self],by simpa[Qa.len,Qu]using hl0⟩
           |map _ _=>simp[Qa.Qx]at m1
           |nest _ _ _ _ _=>simp[Qa.Qx]at m1
           |tmap _ _ _=>simp[Qa.Qx]at m1
           |iter _ _=>simp[Qa.Qx]at m1
           |loop _=>simp[Qa.Qx]at m1
           |over _ _=>simp[Qa.Qx]at m1
           |mit _ _ _=>simp[Qa.Qx]at m1
           |dfr _=>simp[Qa.Qx]at m1
           |dead=>simp[Qa.Qx]at m1
          |some p=>obtain⟨cs0,b1,b2,b3,b4,b5⟩:=old p hp;refine Qc3 (p':=p) (e:=e) hz' hn' (f3.trans hty) (Env.set_self ..) b1 b2 (by rw[Src.Vl,hm0];exact b3) b4 (fun k hk=>by rw[Src.Vl,hm0]at hk;omega) hl' hone (b5 _) (srcs _)
         obtain⟨g1,g2⟩:=hm.Qp8 (q:=ρ d) ho hlive hlv' (fun b hb _=>rfl) (Nat.le_refl _) (fun p' hp'=>.inr ⟨p',hp',rfl⟩) hos;refine⟨_,_,hr,_,_,[d],[d],M,_,h,?_,g1,g2⟩;rw[hm0,Nat.add_zero];rcases hcap with⟨h0,h0'⟩|⟨p,hp,rfl,hcp,_⟩
         ·rw[h0,h0'];exact .slz _ _ _ _
         ·exact .sl _ _ 0 n c 0 p (by rw[Env.set_self,hp]) (by simp) (by simpa using hcp) hnc hc6
        ·
         have hos:Qy M (ρ.set d (some ⟨w.heap.size,cs'.size,[]⟩)) w' d (Zq (o.forget [d]) n (src.forget [d])):=by
          refine Qc3 (p':=⟨w.heap.size,cs'.size,[]⟩) (e:=e) hz' hn' (f3.trans hty) (Env.set_self ..) (by rw[hheap];simp) (Nat.le_refl _) (by rw[Src.Vl];exact Nat.le_trans (Nat.mul_le_mul_right _ hgc.1) hcs)
           (fun r j hr hj=>?_) (by rw[Src.Vl];exact hnew) hl' hone (fun r j x hr hx=>?_) (srcs _)
          ·rcases hcap with⟨h0,_⟩|⟨p,hp,_,_,hcs0⟩
           ·omega
           ·obtain⟨cs0,b1,b2,b3,b4,b5⟩:=old p hp;rw[hcs0]at b1;cases b1;rw[hold _ (Xv hj hr)];exact b4 r j hr hj
          ·rcases hcap with⟨h0,_⟩|⟨p,hp,_,_,hcs0⟩
           ·omega
           ·obtain⟨cs0,b1,b2,b3,b4,b5⟩:=old p hp;rw[hcs0]at b1;cases b1;obtain⟨c1,c2⟩:=b5 (some ⟨w.heap.size,cs'.size,[]⟩) r j x hr hx;exact⟨c1,fun v hv=>c2 v (by rw[hold _ (Xv c1 hr)]at hv;exact hv)⟩
         obtain⟨g1,g2⟩:=hm.Qp8 (q:=some ⟨w.heap.size,cs'.size,[]⟩) (w':=w') ho hlive hlv' (fun b hb _=>by rw[hheap,Array.getElem?_push];simp[Nat.ne_of_lt hb]) (by rw[hheap];simp) (fun p' hp'=>by cases hp';exact .inl (Nat.le_refl _)) hos hio;refine⟨_,_,hr,_,_,[d],[d],M,_,h,?_,g1,g2⟩;exact .sl _ _ 0 _ gc 0 ⟨w.heap.size,cs'.size,[]⟩ (Env.set_self ..) (by simp) (by simpa using hcs) hgc.1 hgc.2
        ·
         obtain⟨p,hp,hbase,hcp,hcs0⟩:∃p,ρ d=some p∧k=p.block∧c*i.size≤p.cap∧w.heap[p.block]? =some (.cells cs e (0,0)):=by
          rcases hcap with⟨h0,h0'⟩|⟨p,hp,hb,hcp,hcs0⟩
          ·omega
          ·rw[hk]at hb;cases hb;exact⟨p,hp,rfl,hcp,hcs0⟩
         subst hbase;have hnc':n*i.size+news.length≤cs.size:=by rw[hl,←Nat.add_mul];exact Nat.le_trans (Nat.mul_le_mul_right _ hroom) hcs
         generalize hcs':(cs.toList.take (n*i.size)++news++cs.toList.drop (n*i.size+news.length)).toArray=cs' at*;have hget:∀m:Nat,cs'[m]? =if m<n*i.size then cs[m]? else if m<n*i.size+news.length then news[m-n*i.size]? else cs[m]? :=fun m=>by rw[←hcs',List.getElem?_toArray,Wl _ _ _ _ (by simpa using hnc')];simp only[Array.getElem?_toList]
         have hsize:cs'.size=cs.size:=by rw[←hcs'];simp;omega
         have hheap':(w.setRow p.block cs').heap[p.block]? =some (.cells cs' e (0,0)):=setRow_heap w p.block cs cs' e (0,0) hcs0;obtain⟨cs0,b1,b2,b3,b4,b5⟩:=old p hp;rw[hcs0]at b1;cases b1;have hos:Qy M (ρ.set d (some p)) (w.setRow p.block cs') d (Zq (o.forget [d]) n (src.forget [d])):=by
          refine Qc3 (p':=p) (e:=e) hz' hn' (f3.trans hty) (Env.set_self ..) hheap' (by rw[hsize];exact b2) (by rw[Src.Vl];exact Nat.le_trans (Nat.mul_le_mul_right _ hroom) hcp)
           (fun r j hr hj=>?_) (fun k hk=>?_) hl' hone (fun r j x hr hx=>?_) (srcs _)
          ·rw[hget,if_pos (Xv hj hr)];exact b4 r j hr hj
          ·rw[Src.Vl,←hl]at hk;rw[hget,if_neg (by omega),if_pos (by omega)];congr 1;omega
          ·obtain⟨c1,c2⟩:=b5 (some p) r j x hr hx;exact⟨c1,fun v hv=>c2 v (by rw[hget,if_pos (Xv c1 hr)]at hv;exact hv)⟩
         obtain⟨g1,g2⟩:=hm.Qp8 (q:=some p) (w':=w.setRow p.block cs') ho hlive hlv' (fun b hb hbp=>K5 (hbp p hp)) (by rw[setRow_size];exact Nat.le_refl _) (fun p' hp'=>by cases hp';exact .inr ⟨p,hp,rfl⟩) hos;refine⟨_,_,hr,_,_,[d],[d],M,_,h,?_,g1,g2⟩;exact .sl _ _ 0 _ c 0 p (Env.set_self ..) (by simp) (by simpa using hcp) hroom hc6
       ·exact h.elim
     ·rename_i row l;split at h
      ·rename_i hrl;simp only[Qn.holds,decide_eq_true_eq]at h;obtain⟨hpos,hb,h63,h⟩:=h;have hll:(Qu row l).length=l.length:=by simp[Qu]
       obtain⟨base,n,rfl,hp⟩:∃base n,v=.slice base n n∧Q6 M (.slice base n n) (.rsl row.length (Qu row l)):=by
        cases ha with
        |pv hp=>cases hp with
         |csl a n _ _ hp=>exact⟨a,n,rfl,hp⟩
       obtain⟨base',cb,olds,hbv,hlo,hbh,hbone,hbrep⟩:=(Qmj (sz:=i.size) hm (Qe.pv hp) (s:=.pure (Qu row l)) (by simp[Jn,hrl])).news hsz;have hsl:(Src.pure (Qu row l)).len=l.length:=by simp[Src.len,hll]
       rw[hsl]at hbv hlo hbh hbrep;have hbv':=hbv;cases hbv;obtain⟨cs',gc,w',hr,⟨hheap,hio⟩,hgc,hcs,hold,hnew⟩:=Ze3 (P:=P) (w:=w) (ty:=ty) (c':=c') htt.und ht hsz hlo hbh hpos hl hcell hone hb h63;have hle:∀q,ρ.le (ρ.set H.length q):=fun q s p hp=>by
        by_cases e:s=H.length
        ·subst e;rw[hm.fresh _ (Nat.le_refl _)]at hp;cases hp
        ·rw[Env.Zu _ _ e];exact hp
       have hlt:∀r j,r<l.length→j<i.size→∃u,olds[r*i.size+j]? =some u:=fun r j hr hj=>by have:=Xv hj hr;exact⟨olds[r*i.size+j]'(by rw[hlo];exact this),by simp[hlo,this]⟩
       have ho:Qy M (ρ.set H.length (some ⟨w.heap.size,cs'.size,[]⟩)) w' H.length (Zq (.vec e i.size (Qu row l)) l.length src):=by
        refine Qc3 (p':=⟨w.heap.size,cs'.size,[]⟩) (e:=e) (sz:=i.size) rfl (by simp[Qa.len,hll]) rfl (Env.set_self ..) (by rw[hheap];simp) (Nat.le_refl _) (Nat.le_trans (Nat.mul_le_mul_right _ hgc.1) hcs)
         (fun r j hr hj=>?_) hnew hl hone (fun r j x hr hx=>?_) (fun r j x hr hx=>?_)
        ·rw[hold _ (Xv hj hr)];obtain⟨u,hu⟩:=hlt r j hr hj;exact⟨u,hu,hbone u (List.mem_of_getElem? hu)⟩
        ·have hx':((Src.pure (Qu row l)).rows.getD r [])[j]? =some x:=by
          simp only[Qa.row,Src.rows,List.getD,List.getElem?_map]at hx⊢;cases hq:l[r]? with
          |none=>rw[hq]at hx;simp at hx
          |some q=>rw[hq]at hx;simpa using hx
         obtain⟨q1,q2⟩:=hbrep r j x hr hx';exact⟨q1,fun v hv=>(q2 v (by rw[hold _ (Xv q1 hr)]at hv;exact hv)).mono M.le_refl (hle _)⟩
        ·obtain⟨q1,q2⟩:=hrep r j x hr hx;exact⟨q1,fun u hu=>(q2 u hu).mono M.le_refl (hle _)⟩
       obtain⟨g1,g2⟩:=hm.alloc hheap ho hio;refine⟨_,_,hr,_,_,[],[],M,_,h,?_,g1,g2⟩;exact .sl _ _ 0 _ gc 0 ⟨w.heap.size,cs'.size,[]⟩ (Env.set_self ..) (by simp) (by simpa using hcs) hgc.1 hgc.2
      ·exact h.elim
     ·exact h.elim
 ·exact h.elim
theorem Mem.plain{M:Qc}{ρ:Env}{H:List Qa}{w:World}:Mem M ρ (H.map Qa.plain) w↔Mem M ρ H w:=by
 have back:∀(s:Nat) (o:Qa),(H.map Qa.plain)[s]? =some o→∃x,H[s]? =some x∧o=x.plain:=fun s o ho=>by simp only[List.getElem?_map,Option.map_eq_some_iff]at ho;obtain⟨x,hx,rfl⟩:=ho;exact⟨x,hx,rfl⟩
 have there:∀(s:Nat) (o:Qa),H[s]? =some o→(H.map Qa.plain)[s]? =some o.plain:=fun s o ho=>by simp[ho]
 constructor
 ·intro h;exact⟨h.imm,fun s o ho=>Qy.plain.1 (h.own s _ (there s o ho)),fun s o p b ho hl hp hb=>h.seps s _ p b (there s o ho) (by rw[(Xf o).2.2.2.1];exact hl) hp hb,
   fun s s' o o' p p' b ho ho' hl hl' hp hp' hb hb'=>h.diss s s' _ _ p p' b (there s o ho) (there s' o' ho') (by rw[(Xf o).2.2.2.1];exact hl) (by rw[(Xf o').2.2.2.1];exact hl') hp hp' hb hb',
   fun s hs=>h.fresh s (by simpa using hs),fun s o p b ho hl hp hb=>h.lts s _ p b (there s o ho) (by rw[(Xf o).2.2.2.1];exact hl) hp hb⟩
 ·intro h;refine⟨h.imm,fun s o ho=>?_,fun s o p b ho hl hp hb=>?_,fun s s' o o' p p' b ho ho' hl hl' hp hp' hb hb'=>?_,fun s hs=>h.fresh s (by simpa using hs),fun s o p b ho hl hp hb=>?_⟩
  ·obtain⟨x,hx,rfl⟩:=back s o ho;exact Qy.plain.2 (h.own s x hx)
  ·obtain⟨x,hx,rfl⟩:=back s o ho;rw[(Xf x).2.2.2.1]at hl;exact h.seps s x p b hx hl hp hb
  ·obtain⟨x,hx,rfl⟩:=back s o ho;obtain⟨y,hy,rfl⟩:=back s' o' ho';rw[(Xf x).2.2.2.1]at hl;rw[(Xf y).2.2.2.1]at hl';exact h.diss s s' x y p p' b hx hy hl hl' hp hp' hb hb'
  ·obtain⟨x,hx,rfl⟩:=back s o ho;rw[(Xf x).2.2.2.1]at hl;exact h.lts s x p b hx hl hp hb
theorem Yz.plain{ρ:Env}{H:List Qa}{b:Nat}:Yz ρ (H.map Qa.plain) b↔Yz ρ H b:=by
 constructor
 ·rintro ⟨s,o,p,h1,h2,h3,h4⟩
  simp only[List.getElem?_map,Option.map_eq_some_iff]at h1;obtain⟨x,hx,rfl⟩:=h1;rw[(Xf x).2.2.2.1]at h2;exact⟨s,x,p,hx,h2,h3,h4⟩
 ·rintro ⟨s,o,p,h1,h2,h3,h4⟩
  exact⟨s,o.plain,p,by simp[h1],by rw[(Xf o).2.2.2.1];exact h2,h3,h4⟩
theorem Fr.plain{M M':Qc}{ρ ρ':Env}{H H':List Qa}{w w':World}{n:Nat}{t f:List Nat}(h:Fr M ρ (H.map Qa.plain) w M' ρ' (H'.map Qa.plain) w' n t f):Fr M ρ H w M' ρ' H' w' n t f:=by refine⟨h.imm,fun b o a c=>(h.new b o a c).imp id Yz.plain.1,fun b hb=>(h.own b (Yz.plain.2 hb)).imp id Yz.plain.1,fun b hb hn=>h.same b hb (fun hh=>hn (Yz.plain.1 hh)),h.grow,fun s o hs hx ho hl=>?_,h.stay,h.io⟩;obtain⟨⟨o',h1,h2⟩,h3⟩:=h.keep s o.plain hs hx (by simp[ho]) (by rw[(Xf o).2.2.2.1];exact hl);simp only[List.getElem?_map,Option.map_eq_some_iff]at h1;obtain⟨x,hx',rfl⟩:=h1;rw[(Xf x).2.2.2.1]at h2;exact⟨⟨x,hx',h2⟩,h3⟩
theorem Qsx(H:List Qa):(H.map Qa.plain).map Qa.plain=H.map Qa.plain:=by rw[List.map_map];exact List.map_congr_left fun o _=>Qbb o
theorem Qv.plain{P:Program}{S:Sem Value}{M:Qc}{ρ:Env}{H:List Qa}{w:World}{K:Qr}(h:Qv P S M ρ (H.map Qa.plain) w fun x H1 t f=>∃H',H1.map Qa.plain=H'.map Qa.plain∧K x H' t f):Qv P S M ρ H w K:=by
 obtain⟨v,w',hr,x,H1,t,f,M',ρ',⟨H',e,hk⟩,hs,hm,hf⟩:=h;refine⟨v,w',hr,x,H',t,f,M',ρ',hk,hs,?_,?_⟩
 ·rw[←Mem.plain,←e,Mem.plain];exact hm
 ·rw[List.length_map]at hf;refine Fr.plain ?_;rw[←e];have h2:Fr M ρ (H.map Qa.plain) w M' ρ' ((H1.map Qa.plain)) w' H.length t f:=by refine⟨hf.imm,hf.new,fun b hb=>hf.own b (Yz.plain.1 hb),hf.same,hf.grow,fun s o hs hx ho hl=>?_,hf.stay,hf.io⟩;obtain⟨⟨o',h1,h2⟩,h3⟩:=hf.keep s o hs hx ho hl;exact⟨⟨o'.plain,by simp[h1],by rw[(Xf o').2.2.2.1];exact h2⟩,h3⟩
  exact h2
def Yt(row:List Ty)(ps:List (List PV))(l:List (Els row)):Prop:=
 l.length=ps.length∧∀(i:Nat) (r':List PV),(Qu row l)[i]? =some r'→∃r,ps[i]? =some r∧∀(j:Nat) (q:PV),r'[j]? =some q→∃p,r[j]? =some p∧∀(M:Qc) (v:Value),Q6 M v p→Q6 M v q
theorem Yt.refl(row:List Ty)(l:List (Els row)):Yt row (Qu row l) l:=⟨by simp[Qu],fun i r' h=>⟨r',h,fun j q hq=>⟨q,hq,fun _ _ h=>h⟩⟩⟩
theorem Yt.of{row:List Ty}{ps:List (List PV)}{l:List (Els row)}(h:Xb (ofRow row) ps=some l):Yt row ps l:=by obtain⟨g1,g2⟩:=Qcm h;refine⟨g1,fun i r' hr=>?_⟩;simp only[Qu,List.getElem?_map,Option.map_eq_some_iff]at hr;obtain⟨y,hy,rfl⟩:=hr;obtain⟨q,hq,hq2⟩:=g2 i y hy;exact⟨q,hq,(Kk hq2).2⟩
theorem Yt.append{row:List Ty}{ps:List (List PV)}{l:List (Els row)}(l0:List (Els row))(h:Yt row ps l):Yt row (Qu row l0++ps) (l0++l):=by
 refine⟨by simp[Qu,h.1],fun i r' hr=>?_⟩;simp only[Qu,List.map_append]at hr⊢;rw[List.getElem?_append]at hr⊢;split at hr
 ·rename_i hlt;rw[if_pos hlt];exact⟨r',hr,fun j q hq=>⟨q,hq,fun _ _ h=>h⟩⟩
 ·rename_i hlt;rw[if_neg hlt];exact h.2 _ r' hr
def U2(H:List Qa)(row:List Ty)(x:SV):Option (Bool×List (Els row)):=
 match x with
 |.pv (.tsl row' l)=>(X7 row' row l).map fun l=>(true,l)
 |.pv (.rsl sz rows)=>if sz=row.length then(Xb (ofRow row) rows).map fun l=>(true,l)else none
 |.pv (.lit v)=>if Value.isNil v=true then some (true,[])else none
 |.sl s sz st len=>if sz=row.length then match H[s]? with
   |some (.tvec _ row' l)=>(X7 row' row l).map fun l=>(decide (st+len≤l.length),(l.drop st).take len)
   |some (.vec _ so rows)=>if so=row.length∧st+len≤rows.length then(Xb (ofRow row) ((rows.drop st).take len)).map fun l=>(true,l)else none
   |_=>none
  else none
 |_=>none
theorem Qel{H:List Qa}{row:List Ty}{x:SV}{l:List (Els row)}{c:Bool}(h:U2 H row x=some (c,l))(hc:c=true):∃ps,Jn (H.map Qa.plain) row.length x.Zi=some (.pure ps)∧Yt row ps l:=by
 unfold U2 at h;split at h
 ·rename_i row' l0;simp only[Option.map_eq_some_iff,Prod.mk.injEq]at h;obtain⟨l1,h1,_,rfl⟩:=h;obtain⟨e,rfl⟩:=Wk h1;subst e;exact⟨Qu row' l0,by simp[SV.Zi,Jn],Yt.refl _ _⟩
 ·rename_i sz rows;split at h
  ·rename_i e;simp only[Option.map_eq_some_iff,Prod.mk.injEq]at h;obtain⟨l1,h1,_,rfl⟩:=h;exact⟨rows,by simp[SV.Zi,Jn,e],Yt.of h1⟩
  ·cases h
 ·rename_i v;split at h
  ·rename_i hn;cases h;unfold Value.isNil at hn;split at hn
   ·simp only[Bool.and_eq_true]at hn;cases Nat.eq_of_beq_eq_true hn.1;cases Nat.eq_of_beq_eq_true hn.2;exact⟨[],by simp[SV.Zi,Jn],Yt.refl row []⟩
   ·cases hn
  ·cases h
 ·rename_i s sz st len;split at h
  ·rename_i e;split at h
   ·rename_i ty row' l0 hs;simp only[Option.map_eq_some_iff,Prod.mk.injEq]at h;obtain⟨l1,h1,hcc,rfl⟩:=h;obtain⟨e2,rfl⟩:=Wk h1;subst e2;rw[←hcc]at hc;have hle:st+len≤l0.length:=of_decide_eq_true hc;refine⟨((Qu row' l0).drop st).take len,?_,?_⟩
    ·simp[SV.Zi,Jn,e,hs,Qa.plain,Qu,hle]
    ·have:Qu row' ((l0.drop st).take len)=((Qu row' l0).drop st).take len:=by simp[Qu,List.map_take,List.map_drop]
     rw[←this];exact Yt.refl _ _
   ·rename_i ty so rows hs;split at h
    ·rename_i hcond;simp only[Option.map_eq_some_iff,Prod.mk.injEq]at h;obtain⟨l1,h1,_,rfl⟩:=h;refine⟨(rows.drop st).take len,?_,Yt.of h1⟩;simp[SV.Zi,Jn,e,hs,Qa.plain,hcond]
    ·cases h
   ·cases h
  ·cases h
 ·cases h
theorem Yt.app{row:List Ty}{ps0 ps:List (List PV)}{l0 l:List (Els row)}(h0:Yt row ps0 l0)(h:Yt row ps l):Yt row (ps0++ps) (l0++l):=by
 refine⟨by simp[h0.1,h.1],fun i r' hr=>?_⟩;simp only[Qu,List.map_append]at hr;rw[List.getElem?_append]at hr⊢;rw[List.length_map,h0.1]at hr;split at hr
 ·rename_i hlt;rw[if_pos hlt];exact h0.2 i r' hr
 ·rename_i hlt;rw[if_neg hlt];exact h.2 _ r' hr
def Qxl(H:List Qa):SV→Bool
 |.pv (.tsl _ _)=>true
 |.sl s _ _ _=>match H[s]? with
  |some (.tvec _ _ _)=>true
  |_=>false
 |_=>false
def Qd5(tab:Qo)(H:List Qa)(t t':Nat)(a x:SV):Qn:=
 match a with
 |.pv (.lit (.slice none 0 0))=>match tab.lookup t with
  |some {desc:=.slice e,..}=>match tab.lookup e with
   |none=>.fail
   |some i=>match i.row with
    |none=>Jm tab H t t' a x
    |some row=>if t'≠t∨i.size=0∨row.length≠i.size then .fail else match U2 H row x with
     |none=>Jm tab H t t' a x
     | some (c,l)=>.need c <| .need (decide (l.length * i.bytes ≤ 140737488355328)) <| .need (decide (l.length ≤ 9223372036854775807)) <|
       .eff (.sl H.length i.size 0 l.length) (H++[.tvec e row l]) [] []
  |_=>.fail
 |.sl d sz st n=>match H[d]? with
  |some (.tvec ty row l)=>match tab.lookup t with
   |some {desc:=.slice e,..}=>match tab.lookup e with
    |none=>.fail
    |some i=>if t'≠t∨i.size=0∨row.length≠i.size∨sz≠i.size∨ty≠e∨st≠0 then .fail else match U2 H row x with
     |none=>.fail
     | some (c,l')=>.need c <| .need (decide (n = l.length)) <| .need (decide ((l ++ l').length * i.bytes ≤ 140737488355328)) <| .need (decide ((l ++ l').length ≤ 9223372036854775807)) <|
       .eff (.sl d i.size 0 (l++l').length) ((H.map (Qa.forget [d])).set d (.tvec ty row (l++l'))) [d] [d]
   |_=>.fail
  |some (.vec ty so rows0)=>match Qxl H x with
   |false=>Jm tab H t t' a x
   |true=>match tab.lookup t with
    |some {desc:=.slice e,..}=>match tab.lookup e with
     |none=>.fail
     |some i=>match i.row with
      |none=>.fail
      |some row=>if t'≠t∨i.size=0∨row.length≠i.size∨sz≠i.size∨ty≠e∨st≠0∨so≠i.size then .fail else match U2 H row x with
       |none=>.fail
       |some (c,l')=>match Xb (ofRow row) rows0 with
        |none=>.fail
        |some l=>.need c <| .need (decide (n=rows0.length)) <| .need (decide ((l++l').length*i.bytes≤140737488355328)) <| .need (decide ((l++l').length≤9223372036854775807)) <|
         .eff (.sl d i.size 0 (l++l').length) ((H.map (Qa.forget [d])).set d (.tvec ty row (l++l'))) [d] [d]
    |_=>.fail
  |_=>Jm tab H t t' a x
 |.pv (.csl row l)=>match tab.lookup t with
  |some {desc:=.slice e,..}=>match tab.lookup e with
   |none=>.fail
   |some i=>if t'≠t∨i.size=0∨row.length≠i.size then .fail else match U2 H row x with
    |none=>.fail
    | some (c,l')=>.need c <| .need (decide (0 < l'.length)) <| .need (decide ((l ++ l').length * i.bytes ≤ 140737488355328)) <| .need (decide ((l ++ l').length ≤ 9223372036854775807)) <|
      .eff (.sl H.length i.size 0 (l++l').length) (H++[.tvec e row (l++l')]) [] []
  |_=>.fail
 |_=>Jm tab H t t' a x
theorem Qfq(H:List Qa)(d:Nat)(o:Qa):(H.set d o).map Qa.plain=(H.map Qa.plain).set d o.plain:=by rw[List.map_set]
theorem Qus{P:Program}{tab:Qo}(htab:Qf P tab){M:Qc}{ρ:Env}{H:List Qa}{w:World}{K:Qr}(hm:Mem M ρ H w){t t' ty:Nat}{a x:SV}{v u:Value}(ha:Qe M ρ v a)(hx:Qe M ρ u x)
  (h:(Qd5 tab H t t' a x).holds H K):Qv P (Builtin.append_ #[t,t'] ty #[v,u]) M ρ H w K:=by
 unfold Qd5 at h;split at h
 ·split at h
  ·rename_i e sz' by' zr rw' hte;split at h
   ·exact h.elim
   ·rename_i i hi;split at h
    ·exact Vc htab hm ha hx h
    ·rename_i row hrow;split at h
     ·exact h.elim
     ·rename_i hcond;split at h
      ·exact Vc htab hm ha hx h
      ·rename_i c l hsrc;obtain⟨hc,hb,h63,h⟩:=h;have hcond':t'=t∧i.size≠0∧row.length=i.size:=by simp only[not_or,Decidable.not_not]at hcond;exact hcond
       obtain⟨rfl,hz,hlen⟩:=hcond';obtain⟨ps,hps,hok⟩:=Qel hsrc hc;refine Qv.plain (Qv.described (Vc htab (Mem.plain.2 hm) ha hx.Zi ?_));unfold Jm;have hneg:¬(t'≠t'∨i.size=0):=by simp[hz]
       rw[hlen]at hps;simp only[hte,hi,if_neg hneg,hps];refine⟨rfl,by simpa[Src.len,←hok.1]using hb,by simpa[Src.len,←hok.1]using h63,?_⟩;have e1:Zq (.vec e i.size []) 0 (.pure ps)=.vec e row.length ps:=by simp[Zq,Qa.plain,hlen]
       rw[e1];have e2:(Src.pure ps).len=l.length:=by simp[Src.len,hok.1]
       rw[e2];refine Qe7 (K:=fun y H1=>∃H',H1.map Qa.plain=H'.map Qa.plain∧K y H' [] []) hok.1 hok.2 ⟨H++[.tvec e row l],?_,(by rw[List.length_map];exact h)⟩;simp only[List.map_append,Qsx]
  ·exact h.elim
 ·rename_i d sz st n;split at h
  ·rename_i oty row l hd;split at h
   ·rename_i e sz' by' zr rw' hte;split at h
    ·exact h.elim
    ·rename_i i hi;split at h
     ·exact h.elim
     ·rename_i hcond;split at h
      ·exact h.elim
      ·rename_i c l' hsrc;obtain⟨hc,hn,hb,h63,h⟩:=h;have hn:=of_decide_eq_true hn;subst hn;have hcond':t'=t∧i.size≠0∧row.length=i.size∧sz=i.size∧oty=e∧st=0:=by simp only[not_or,Decidable.not_not]at hcond;exact hcond
       obtain⟨rfl,hz,hlen,rfl,rfl,rfl⟩:=hcond';obtain⟨ps,hps,hok⟩:=Qel hsrc hc;refine Qv.plain (Qv.described (Vc htab (Mem.plain.2 hm) ha hx.Zi ?_));unfold Jm;have hneg:¬(t'≠t'∨i.size=0):=by simp[hz]
       rw[hlen]at hps;have hd':(H.map Qa.plain)[d]? =some (.vec oty row.length (Qu row l)):=by simp[hd,Qa.plain]
       simp only[hte,hi,if_neg hneg,hps,hd'];rw[if_pos (by simp[Qa.Qx,Qa.ty,hlen])];have e2:l.length+(Src.pure ps).len=(l++l').length:=by simp[Src.len,hok.1]
       rw[e2];refine⟨by simp[Qa.len,Qu],hb,h63,?_⟩;have e1:Zq ((Qa.vec oty row.length (Qu row l)).forget [d]) l.length ((Src.pure ps).forget [d])=.vec oty row.length (Qu row l++ps):=by simp[Zq,Qa.plain,Qa.forget,Src.forget,Qu]
       rw[e1];have hdl:d<H.length:=(List.getElem?_eq_some_iff.1 hd).1;refine⟨_,fun _ _ _ h=>h,.inr ⟨d,.vec oty row.length (Qu row l++ps),.tvec oty row (l++l'),by simp[hdl],rfl,fun M ρ w hh=>(hh.Qde (hok.append l).1 (hok.append l).2),?_⟩⟩;refine⟨_,?_,h⟩;rw[List.set_set,Qfq,Qfq];congr 1;simp only[List.map_map];refine List.map_congr_left fun o _=>?_;simp only[Function.comp,(Xf o).2.2.2.2.2,Qbb]
   ·exact h.elim
  ·rename_i oty so rows0 hd;split at h
   ·exact Vc htab hm ha hx h
   split at h
   ·rename_i e sz' by' zr rw' hte;split at h
    ·exact h.elim
    ·rename_i i hi;split at h
     ·exact h.elim
     ·rename_i row hrow;split at h
      ·exact h.elim
      ·rename_i hcond;split at h
       ·exact h.elim
       ·rename_i c l' hsrc;split at h
        ·exact h.elim
        ·rename_i l hl;obtain⟨hc,hn,hb,h63,h⟩:=h;have hn:=of_decide_eq_true hn;subst hn;have hcond':t'=t∧i.size≠0∧row.length=i.size∧sz=i.size∧oty=e∧st=0∧so=i.size:=by simp only[not_or,Decidable.not_not]at hcond;exact hcond
         obtain⟨rfl,hz,hlen,rfl,rfl,rfl,rfl⟩:=hcond';obtain⟨ps,hps,hok⟩:=Qel hsrc hc;have hok0:=Yt.of hl;refine Qv.plain (Qv.described (Vc htab (Mem.plain.2 hm) ha hx.Zi ?_));unfold Jm;have hneg:¬(t'≠t'∨i.size=0):=by simp[hz]
         rw[hlen]at hps;have hd':(H.map Qa.plain)[d]? =some (.vec oty i.size rows0):=by simp[hd,Qa.plain]
         simp only[hte,hi,if_neg hneg,hps,hd'];rw[if_pos (by simp[Qa.Qx,Qa.ty])];have e2:rows0.length+(Src.pure ps).len=(l++l').length:=by simp[Src.len,hok.1,hok0.1]
         rw[e2];refine⟨by simp[Qa.len],hb,h63,?_⟩;have e1:Zq ((Qa.vec oty i.size rows0).forget [d]) rows0.length ((Src.pure ps).forget [d])=.vec oty row.length (rows0++ps):=by simp[Zq,Qa.plain,Qa.forget,Src.forget,hlen]
         rw[e1];have hdl:d<H.length:=(List.getElem?_eq_some_iff.1 hd).1;refine⟨_,fun _ _ _ h=>h,.inr ⟨d,.vec oty row.length (rows0++ps),.tvec oty row (l++l'),by simp[hdl],rfl,fun M ρ w hh=>(hh.Qde (hok0.app hok).1 (hok0.app hok).2),?_⟩⟩;refine⟨_,?_,h⟩;rw[List.set_set,Qfq,Qfq];congr 1;simp only[List.map_map];refine List.map_congr_left fun o _=>?_;simp only[Function.comp,(Xf o).2.2.2.2.2,Qbb]
   ·exact h.elim
  ·exact Vc htab hm ha hx h
 ·rename_i row l;split at h
  ·rename_i e sz' by' zr rw' hte;split at h
   ·exact h.elim
   ·rename_i i hi;split at h
    ·exact h.elim
    ·rename_i hcond;split at h
     ·exact h.elim
     ·rename_i c l' hsrc;obtain⟨hc,hpos,hb,h63,h⟩:=h;have hcond':t'=t∧i.size≠0∧row.length=i.size:=by simp only[not_or,Decidable.not_not]at hcond;exact hcond
      obtain⟨rfl,hz,hlen⟩:=hcond';obtain⟨ps,hps,hok⟩:=Qel hsrc hc;refine Qv.plain (Qv.described (Vc htab (Mem.plain.2 hm) ha hx.Zi ?_));unfold Jm;have hneg:¬(t'≠t'∨i.size=0):=by simp[hz]
      rw[hlen]at hps;simp only[hte,hi,if_neg hneg,hps,if_pos hlen];have e2:l.length+(Src.pure ps).len=(l++l').length:=by simp[Src.len,hok.1]
      rw[e2];refine⟨by simpa[Src.len,←hok.1]using hpos,hb,h63,?_⟩;have e1:Zq (.vec e i.size (Qu row l)) l.length (.pure ps)=.vec e row.length (Qu row l++ps):=by simp[Zq,Qa.plain,hlen,Qu]
      rw[e1];refine Qe7 (K:=fun y H1=>∃H',H1.map Qa.plain=H'.map Qa.plain∧K y H' [] []) (hok.append l).1 (hok.append l).2 ⟨H++[.tvec e row (l++l')],?_,(by rw[List.length_map];exact h)⟩;simp only[List.map_append,Qsx]
  ·exact h.elim
 ·exact Vc htab hm ha hx h
end Go.Sx
section
namespace Go.Sx
open Go
def Qa.Xt:Qa→Bool
 |.vec ..=>true
 |.tvec ..=>true
 |.mix ..=>true
 |_=>false
def Qyn(ρ:Env)(H:List Qa)(n b:Nat):Prop:=∃s o p,n≤s∧H[s]? =some o∧o.Xt=true∧ρ s=some p∧p.block=b
open Classical in
noncomputable def Qc.Q9(M:Qc)(ρ:Env)(H:List Qa)(n:Nat)(w:World):Qc:=⟨fun b=>
 match M b with
 |some o=>some o
 |none=>if Qyn ρ H n b then w.heap[b]? else none,fun b cs h=>by obtain⟨t,z,e⟩:=M.2 b cs h;exact⟨t,z,by simp only[e]⟩⟩
theorem Qc.Y5(M:Qc)(ρ:Env)(H:List Qa)(n:Nat)(w:World):M.le (M.Q9 ρ H n w):=fun b o h=>by simp[Qc.Q9,h]
theorem Qc.Xs{M:Qc}{ρ:Env}{H:List Qa}{n:Nat}{w:World}{b:Nat}{o:Obj}(h0:M b=none)(h:M.Q9 ρ H n w b=some o):Qyn ρ H n b∧w.heap[b]? =some o:=by
 unfold Qc.Q9 at h;dsimp only at h;rw[h0]at h;simp only at h;split at h
 ·rename_i hs;exact⟨hs,h⟩
 ·cases h
theorem Qc.Qzw{M:Qc}{ρ:Env}{H:List Qa}{n:Nat}{w:World}(hm:Mem M ρ H w){s:Nat}{o:Qa}{p:Place}(hn:n≤s)(hs:H[s]? =some o)(ho:o.Xt=true)(hp:ρ s=some p):
  M.Q9 ρ H n w p.block=w.heap[p.block]? :=by
 have hl:o.live=true:=by cases o<;>simp_all [Qa.Xt,Qa.live]
 unfold Qc.Q9;dsimp only;rw[hm.sep s o p hs hl hp];simp only;rw[if_pos ⟨s,o,p,hn,hs,ho,hp,rfl⟩]
theorem Qc.Qge{M:Qc}{b i:Nat}{cs:Array Value}{ty:TypeId}{f:Nat×Nat}(h:M b=some (.cells cs ty f)):M.cell b i=cs[i]? :=by simp[Qc.cell,h]
def Qk.sv:(a:Qk)→a.El→SV
 |.val t,x=>.pv (t.pv x)
 |.agg row,x=>SV.Yd ((Q3 row x).map .pv)
theorem Qk.Qzu{M:Qc}{ρ:Env}{v:Value}:∀{a:Qk} {x:a.El},Qe M ρ v (a.raw x)→Qe M ρ v (a.sv x)
 |.val t,x,h=>h
 |.agg row,x,h=>by
  cases h with
  |agg cs _ hl hr=>have:=Qe.Yd (M:=M) (ρ:=ρ) (cs:=cs.toList) (l:=(Q3 row x).map .pv) (by simpa using hl) (fun i v y hv hy=>hr i v y (by rw[←Array.getElem?_toList];exact hv) hy);rw[Array.toArray_toList]at this;exact this
def Qcd{α:Type}(f:PV→Option α):SV→Option (Bool×α)
 |.pv p=>match f p with
  |some y=>some (true,y)
  |none=>none
 |_=>none
def Wc{α β:Type}(f:α→Option (Bool×β)):List α→Option (Bool×List β)
 |[]=>some (true,[])
 |x::l=>match f x with
  |none=>none
  |some a=>match Wc f l with
   |none=>none
   |some b=>some (a.1&&b.1,a.2::b.2)
def Qcp(H:List Qa)(n:Nat)(row:List Ty)(f:List SV→Option (Bool×Els row)):SV→Option (Bool×List (Els row))
 |.pv p=>match(Ty.seq row).of p with
  |some y=>some (true,y)
  |none=>none
 |.sl s sz st len=>match Nat.ble n s&&Nat.beq sz row.length with
  |false=>none
  |true=>match H[s]? with
   |some (.tvec _ row' l)=>match X7 row' row l with
    |some l=>some (decide (st+len≤l.length),(l.drop st).take len)
    |none=>none
   |some (.vec _ so rows)=>match Nat.beq so row.length&&Nat.ble (st+len) rows.length with
    |false=>none
    |true=>match Xb (ofRow row) ((rows.drop st).take len)with
     |some l=>some (true,l)
     |none=>none
   |some (.mix _ so rows)=>match Nat.beq so row.length&&Nat.ble (st+len) rows.length with
    |false=>none
    |true=>Wc f ((rows.drop st).take len)
   |_=>none
 |_=>none
def Qe6:List SV→Option (Bool×Unit)
 |[]=>some (true,())
 |_=>none
def Ql7{α:Type}(f:SV→Option (Bool×α)):List SV→Option (Bool×α)
 |[x]=>f x
 |_=>none
def Qay{α β:Type}(f:SV→Option (Bool×α))(g:List SV→Option (Bool×β)):List SV→Option (Bool×(α×β))
 |x::xs=>match f x with
  |none=>none
  |some a=>match g xs with
   |none=>none
   |some b=>some (a.1&&b.1,(a.2,b.2))
 |[]=>none
mutual
def rdT(H:List Qa)(n:Nat):(t:Ty)→SV→Option (Bool×t.El)
 |.int k=>Qcd (Qd9 k)
 |.bool=>Qcd Qd1
 |.str=>Qcd strOf
 |.seq row=>Qcp H n row (Xk H n row)
def Xk(H:List Qa)(n:Nat):(ts:List Ty)→List SV→Option (Bool×Els ts)
 |[]=>Qe6
 |[t]=>Ql7 (rdT H n t)
 |t::t'::ts=>Qay (rdT H n t) (Xk H n (t'::ts))
end
theorem Zn2{M:Qc}{ρ:Env}{H:List Qa}{w:World}{n:Nat}(hm:Mem M ρ H w){s sz st len:Nat}{o:Qa}{v:Value}{ps:List (List PV)}(hns:n≤s)(hs:H[s]? =some o)(hro:o.Xt=true)(hz:o.Qx =some sz)
  (hfit:st+len≤o.len) (hpl:ps.length=len)
  (hps:∀(i:Nat) (r:List PV),ps[i]? =some r→r.length≤sz∧∀(j:Nat) (q:PV),r[j]? =some q→∃y,(o.row (st+i))[j]? =some y∧∀u,Qe M ρ u y→Q6 (M.Q9 ρ H n w) u q)
  (hr:Qe M ρ v (.sl s sz st len)):Q6 (M.Q9 ρ H n w) v (.rsl sz ps):=by
 cases hr with
 |slz=>
  have:ps=[]:=List.eq_nil_of_length_eq_zero hpl;subst this;rename_i a;cases a with
  |none=>exact .rnil sz
  |some a=>exact .remp a 0 sz
 |sl _ _ _ _ c k' p hp hk hc hn' h6=>
  obtain⟨cs,ty,a1,a2,a3,a4,a5⟩:=((hm.own s o hs).rowOf hz hp).ex;have hM:M.Q9 ρ H n w p.block=some (.cells cs ty (0,0)):=by rw[Qc.Qzw hm hns hs hro hp];exact a1
  refine .rsl p.block k' c sz len ps hpl.symm hn' (fun i j hi hj=>?_) (fun i r j q u hi hj hcell=>?_) (fun i r hi=>(hps i r hi).1)
  ·obtain⟨u,hu,hone⟩:=a4 (st+i) j (by omega) hj;refine⟨u,?_,hone⟩;rw[Qc.Qge hM,hk,←Nat.add_mul];exact hu
  ·obtain⟨g2,g3⟩:=hps i r hi;obtain⟨y,y1,y2⟩:=g3 j q hj;have hlt:i<ps.length:=(List.getElem?_eq_some_iff.1 hi).1;obtain⟨b1,b2⟩:=a5 (st+i) j y (by omega) y1;rw[Qc.Qge hM,hk,←Nat.add_mul]at hcell;exact y2 u (b2 u hcell)
def X1(M:Qc)(ρ:Env)(M2:Qc)(ts:List Ty)(xs:List SV)(y:Els ts):Prop:=
 xs.length=ts.length∧∀(j:Nat) (q:PV),(Q3 ts y)[j]? =some q→∃x,xs[j]? =some x∧∀u,Qe M ρ u x→Q6 M2 u q
def W0(M:Qc)(ρ:Env)(M2:Qc)(row:List Ty)(rs:List (List SV))(l:List (Els row)):Prop:=
 l.length=rs.length∧∀(i:Nat) (y:Els row),l[i]? =some y→∃r,rs[i]? =some r∧X1 M ρ M2 row r y
theorem X1.of{M:Qc}{ρ:Env}{M2:Qc}(hle:M.le M2){ts:List Ty}{r:List PV}{y:Els ts}(h:ofRow ts r=some y):X1 M ρ M2 ts (r.map .pv) y:=by
 obtain⟨g1,g2⟩:=Kk h;refine⟨by rw[List.length_map,←g1,Xw],fun j q hq=>?_⟩;obtain⟨p,hp,himp⟩:=g2 j q hq;refine⟨.pv p,by simp[hp],fun u hu=>?_⟩;cases hu with
 |pv hu=>exact(himp M u hu).mono hle
theorem W0.of{M:Qc}{ρ:Env}{M2:Qc}(hle:M.le M2){row:List Ty}{rs:List (List PV)}{l:List (Els row)}(h:Xb (ofRow row) rs=some l):W0 M ρ M2 row (rs.map (·.map .pv)) l:=by obtain⟨g1,g2⟩:=Qcm h;refine⟨by simpa using g1,fun i y hy=>?_⟩;obtain⟨r,hr,hr2⟩:=g2 i y hy;exact⟨r.map .pv,by simp[hr],.of hle hr2⟩
theorem X1.self{M:Qc}{ρ:Env}{M2:Qc}(hle:M.le M2){ts:List Ty}(y:Els ts):X1 M ρ M2 ts ((Q3 ts y).map .pv) y:=by
 refine⟨by simp[Xw],fun j q hq=>⟨.pv q,by simp[hq],fun u hu=>?_⟩⟩;cases hu with
 |pv hu=>exact hu.mono hle
theorem W0.self{M:Qc}{ρ:Env}{M2:Qc}(hle:M.le M2){row:List Ty}(l:List (Els row)):W0 M ρ M2 row ((Qu row l).map (·.map .pv)) l:=by refine⟨by simp[Qu],fun i y hy=>⟨(Q3 row y).map .pv,by simp[Qu,hy],.self hle y⟩⟩
theorem Qef{M:Qc}{ρ:Env}{H:List Qa}{w:World}{n:Nat}(hm:Mem M ρ H w){s st len:Nat}{row:List Ty}{o:Qa}{v:Value}{l:List (Els row)}(hns:n≤s)(hs:H[s]? =some o)(hro:o.Xt=true)(hz:o.Qx =some row.length)
  (hfit:st+len≤o.len) (hl:l.length=len) (hrows:∀(i:Nat) (y:Els row),l[i]? =some y→X1 M ρ (M.Q9 ρ H n w) row (o.row (st+i)) y)
  (hr:Qe M ρ v (.sl s row.length st len)):Q6 (M.Q9 ρ H n w) v ((Ty.seq row).pv l):=by
 refine .tsl row l (Zn2 hm hns hs hro hz hfit (by simp[Qu,hl]) (fun i r hi=>?_) hr);simp only[Qu,List.getElem?_map,Option.map_eq_some_iff]at hi;obtain⟨y,hy,rfl⟩:=hi;obtain⟨g1,g2⟩:=hrows i y hy;exact⟨by rw[Xw];exact Nat.le_refl _,g2⟩
def K6(M:Qc)(ρ:Env)(M2:Qc){α:Type}(f:SV→Option (Bool×α))(g:α→PV):Prop:=
 ∀(x:SV) (c:Bool) (y:α) (v:Value),f x=some (c,y)→c=true→Qe M ρ v x→Q6 M2 v (g y)
def W8(M:Qc)(ρ:Env)(M2:Qc)(ts:List Ty)(f:List SV→Option (Bool×Els ts)):Prop:=
 ∀(xs:List SV) (c:Bool) (y:Els ts),f xs=some (c,y)→c=true→X1 M ρ M2 ts xs y
theorem Uv{M:Qc}{ρ:Env}{M2:Qc}(hle:M.le M2){α:Type}{f:PV→Option α}{g:α→PV}(hf:Kc f g):K6 M ρ M2 (Qcd f) g:=by
 intro x c y v h hc hr;unfold Qcd at h;split at h
 ·split at h
  ·rename_i y' hy;cases h;cases hr with
   |pv hp=>exact(hf _ _ hy M v hp).mono hle
  ·cases h
 ·cases h
theorem Qed{M:Qc}{ρ:Env}{M2:Qc}{row:List Ty}{f:List SV→Option (Bool×Els row)}(hf:W8 M ρ M2 row f):∀(rs:List (List SV)) (c:Bool) (l:List (Els row)),Wc f rs=some (c,l)→c=true→W0 M ρ M2 row rs l
 |[],c,l,h,hc=>by cases h;exact⟨rfl,fun i y hy=>by simp at hy⟩
 |r::rs,c,l,h,hc=>by
  simp only[Wc]at h;split at h
  ·cases h
  ·rename_i a h1;split at h
   ·cases h
   ·rename_i b h2;cases h;rw[Bool.and_eq_true]at hc;obtain⟨g1,g2⟩:=Qed hf rs b.1 b.2 h2 hc.2;refine⟨by simp[g1],fun i y hy=>?_⟩;cases i with
    |zero=>simp at hy;subst hy;exact⟨r,rfl,hf _ a.1 a.2 h1 hc.1⟩
    |succ i=>simp at hy;obtain⟨r',q1,q2⟩:=g2 i y hy;exact⟨r',by simpa using q1,q2⟩
theorem Zov{M:Qc}{ρ:Env}{H:List Qa}{w:World}{n:Nat}(hm:Mem M ρ H w){row:List Ty}{f:List SV→Option (Bool×Els row)}(hf:W8 M ρ (M.Q9 ρ H n w) row f):K6 M ρ (M.Q9 ρ H n w) (Qcp H n row f) (Ty.seq row).pv:=by
 have hle:=Qc.Y5 M ρ H n w;intro x c y v h hc hr;unfold Qcp at h;split at h
 ·split at h
  ·rename_i y' hy;cases h;cases hr with
   |pv hp=>exact(Ty.Qp7 (t:=.seq row) hy hp).mono hle
  ·cases h
 ·rename_i s sz st len;split at h
  ·cases h
  ·rename_i e2;rw[Bool.and_eq_true]at e2;have hns:=Nat.le_of_ble_eq_true e2.1;have hsz:=Nat.eq_of_beq_eq_true e2.2;subst hsz;split at h
   ·rename_i ty row' l ho;split at h
    ·rename_i l' hcast;cases h;obtain⟨e3,rfl⟩:=Wk hcast;subst e3;have hfit:=of_decide_eq_true hc;refine Qef hm hns ho rfl rfl hfit (by simp;simp at hfit;omega) (fun i y hy=>?_) hr;rw[List.getElem?_take]at hy;split at hy
     ·rw[List.getElem?_drop]at hy;have:(Qa.tvec ty row' l).row (st+i)=(Q3 row' y).map .pv:=by simp only[Qa.row,List.getD,hy,Option.getD_some]
      rw[this];exact .self hle y
     ·cases hy
    ·cases h
   ·rename_i ty so rows ho;split at h
    ·cases h
    ·rename_i e3;rw[Bool.and_eq_true]at e3;have hso:=Nat.eq_of_beq_eq_true e3.1;have hfit:=Nat.le_of_ble_eq_true e3.2;split at h
     ·rename_i l hl;cases h;have hrf:=W0.of (M:=M) (ρ:=ρ) hle hl;refine Qef hm hns ho rfl (by simp[Qa.Qx,hso]) hfit (by rw[hrf.1];simp;omega) (fun i y hy=>?_) hr;obtain⟨r,g1,g2⟩:=hrf.2 i y hy;simp only[List.getElem?_map,Option.map_eq_some_iff]at g1;obtain⟨r0,g1,rfl⟩:=g1;rw[List.getElem?_take]at g1;split at g1
      ·rw[List.getElem?_drop]at g1;have:(Qa.vec ty so rows).row (st+i)=r0.map .pv:=by simp[Qa.row,List.getD,g1]
       rw[this];exact g2
      ·cases g1
     ·cases h
   ·rename_i ty so rows ho;split at h
    ·cases h
    ·rename_i e3;rw[Bool.and_eq_true]at e3;have hso:=Nat.eq_of_beq_eq_true e3.1;have hfit:=Nat.le_of_ble_eq_true e3.2;have hrf:=Qed hf _ _ _ h hc;refine Qef hm hns ho rfl (by simp[Qa.Qx,hso]) hfit (by rw[hrf.1];simp;omega) (fun i y hy=>?_) hr;obtain⟨r,g1,g2⟩:=hrf.2 i y hy;rw[List.getElem?_take]at g1;split at g1
     ·rw[List.getElem?_drop]at g1;have:(Qa.mix ty so rows).row (st+i)=r:=by simp[Qa.row,List.getD,g1]
      rw[this];exact g2
     ·cases g1
   ·cases h
 ·cases h
theorem Qva{M:Qc}{ρ:Env}{M2:Qc}:W8 M ρ M2 [] Qe6:=by
 intro xs c y h hc;unfold Qe6 at h;split at h
 ·exact⟨rfl,fun j q hq=>by simp[Q3]at hq⟩
 ·cases h
theorem Qvr{M:Qc}{ρ:Env}{M2:Qc}{t:Ty}{f:SV→Option (Bool×t.El)}(hf:K6 M ρ M2 f t.pv):W8 M ρ M2 [t] (Ql7 f):=by
 intro xs c y h hc;match xs,h with
 |[],h=>cases h
 |_::_::_,h=>cases h
 |[x],h=>
  replace h:f x=some (c,y):=h;refine⟨rfl,fun j q hq=>?_⟩;cases j with
  |zero=>simp only[Q3,List.getElem?_cons_zero,Option.some.injEq]at hq;subst hq;exact⟨x,rfl,fun u hu=>hf x c y u h hc hu⟩
  |succ j=>simp[Q3]at hq
theorem Qza{M:Qc}{ρ:Env}{M2:Qc}{t t':Ty}{ts:List Ty}{f:SV→Option (Bool×t.El)}{g:List SV→Option (Bool×Els (t'::ts))}(hf:K6 M ρ M2 f t.pv)(hg:W8 M ρ M2 (t'::ts) g):W8 M ρ M2 (t::t'::ts) (Qay f g):=by
 intro xs c y h hc;unfold Qay at h;split at h
 ·rename_i x xs;split at h
  ·cases h
  ·rename_i a h1;split at h
   ·cases h
   ·rename_i b h2;cases h;rw[Bool.and_eq_true]at hc;obtain⟨g1,g2⟩:=hg _ b.1 b.2 h2 hc.2;refine⟨by simp only[List.length_cons]at g1⊢;omega,fun j q hq=>?_⟩;have hq:(t.pv a.2::Q3 (t'::ts) b.2)[j]? =some q:=hq;cases j with
    |zero=>simp only[List.getElem?_cons_zero,Option.some.injEq]at hq;subst hq;exact⟨x,rfl,fun u hu=>hf x a.1 a.2 u h1 hc.1 hu⟩
    |succ j=>simp only[List.getElem?_cons_succ]at hq;obtain⟨z,z1,z2⟩:=g2 j q hq;exact⟨z,by simpa using z1,z2⟩
 ·cases h
theorem Qy4{M:Qc}{ρ:Env}{H:List Qa}{w:World}{n:Nat}(hm:Mem M ρ H w):∀(k:Nat),
  (∀(t:Ty),SizeOf.sizeOf t≤k→K6 M ρ (M.Q9 ρ H n w) (rdT H n t) t.pv)∧(∀(ts:List Ty),SizeOf.sizeOf ts≤k→W8 M ρ (M.Q9 ρ H n w) ts (Xk H n ts)):=by
 have hle:=Qc.Y5 M ρ H n w;intro k;induction k with
 |zero=>exact⟨fun t ht=>by(cases t<;>simp at ht),fun ts ht=>by(cases ts<;>simp at ht)⟩
 |succ k ih=>
  obtain⟨ih1,ih2⟩:=ih;refine⟨fun t ht=>?_,fun ts ht=>?_⟩
  ·match t,ht with
   |.int k,ht=>exact Uv hle (Qks k)
   |.bool,ht=>exact Uv hle Qp4
   |.str,ht=>exact Uv hle Qmv
   |.seq row,ht=>exact Zov hm (ih2 row (by simp at ht;omega))
  ·match ts,ht with
   |[],ht=>exact Qva
   |[t],ht=>exact Qvr (ih1 t (by simp at ht;omega))
   |t::t'::ts,ht=>exact Qza (ih1 t (by simp at ht;omega)) (ih2 (t'::ts) (by simp at ht⊢;omega))
theorem Qir{M:Qc}{ρ:Env}{H:List Qa}{w:World}(n:Nat)(hm:Mem M ρ H w)(t:Ty):K6 M ρ (M.Q9 ρ H n w) (rdT H n t) t.pv:=(Qy4 hm _).1 t (Nat.le_refl _)
theorem Qc2{M:Qc}{ρ:Env}{H:List Qa}{w:World}(n:Nat)(hm:Mem M ρ H w)(ts:List Ty):W8 M ρ (M.Q9 ρ H n w) ts (Xk H n ts):=(Qy4 hm _).2 ts (Nat.le_refl _)
def Ks(H:List Qa)(n:Nat)(row:List Ty):SV→Option (Bool×Els row)
 |.pv (.lit (.agg cs))=>match ofRow row (cs.toList.map .lit)with
  |some y=>some (true,y)
  |none=>none
 |.agg l=>Xk H n row l
 |_=>none
def rdA(H:List Qa)(n:Nat):(a:Qk)→SV→Option (Bool×a.El)
 |.val t=>rdT H n t
 |.agg row=>Ks H n row
theorem Qk0{M:Qc}{ρ ρ2:Env}{H:List Qa}{w:World}{n:Nat}(hm:Mem M ρ H w){a:Qk}{x:SV}{c:Bool}{y:a.El}{v:Value}(h:rdA H n a x=some (c,y))(hc:c=true)(hr:Qe M ρ v x):Qe (M.Q9 ρ H n w) ρ2 v (a.sv y):=by
 cases a with
 |val t=>exact .pv (Qir n hm t x c y v h hc hr)
 |agg row=>
  refine Qk.Qzu ?_;have fin:∀(cs:Array Value) (xs:List SV) (y:Els row),X1 M ρ (M.Q9 ρ H n w) row xs y→cs.size=xs.length→(∀(i:Nat) (u:Value) (x:SV),cs[i]? =some u→xs[i]? =some x→Qe M ρ u x)→Qe (M.Q9 ρ H n w) ρ2 (.agg cs) ((Qk.agg row).raw y):=fun cs xs y hf hl hr=>by refine .agg cs _ (by rw[hl,hf.1];simp[Xw]) fun i u z hu hz=>?_;simp only[List.getElem?_map,Option.map_eq_some_iff]at hz;obtain⟨q,hq,rfl⟩:=hz;obtain⟨x,hx,himp⟩:=hf.2 i q hq;exact .pv (himp u (hr i u x hu hx))
  replace h:Ks H n row x=some (c,y):=h;unfold Ks at h;split at h
  ·rename_i cs;split at h
   ·rename_i y' hy;cases h;have:=hr.Q1;subst this;refine fin cs _ _ (X1.of (Qc.Y5 M ρ H n w) hy) (by simp) fun i u x hu hx=>?_;simp only[List.getElem?_map,Option.map_eq_some_iff,Array.getElem?_toList]at hx;obtain⟨p,⟨u',hu',rfl⟩,rfl⟩:=hx;rw[hu]at hu';cases hu';exact .pv (.lit _)
   ·cases h
  ·rename_i l;cases hr with
   |agg cs _ hl hr=>exact fin cs l y (Qc2 n hm row _ _ _ h hc) hl hr
  ·cases h
theorem Zm9{M:Qc}{ρ ρ2:Env}{H:List Qa}{w:World}{n:Nat}(hm:Mem M ρ H w){a:Qk}{x:SV}{c:Bool}{y:a.El}{v:Value}(h:rdA H n a x=some (c,y))(hc:c=true)(hr:Qe M ρ v x):Qe (M.Q9 ρ H n w) ρ2 v (a.raw y):=by
 cases a with
 |val t=>exact .pv (Qir n hm t x c y v h hc hr)
 |agg row=>
  have fin:∀(cs:Array Value) (xs:List SV) (y:Els row),X1 M ρ (M.Q9 ρ H n w) row xs y→cs.size=xs.length→(∀(i:Nat) (u:Value) (x:SV),cs[i]? =some u→xs[i]? =some x→Qe M ρ u x)→Qe (M.Q9 ρ H n w) ρ2 (.agg cs) ((Qk.agg row).raw y):=fun cs xs y hf hl hr=>by refine .agg cs _ (by rw[hl,hf.1];simp[Xw]) fun i u z hu hz=>?_;simp only[List.getElem?_map,Option.map_eq_some_iff]at hz;obtain⟨q,hq,rfl⟩:=hz;obtain⟨x,hx,himp⟩:=hf.2 i q hq;exact .pv (himp u (hr i u x hu hx))
  replace h:Ks H n row x=some (c,y):=h;unfold Ks at h;split at h
  ·rename_i cs;split at h
   ·rename_i y' hy;cases h;have:=hr.Q1;subst this;refine fin cs _ _ (X1.of (Qc.Y5 M ρ H n w) hy) (by simp) fun i u x hu hx=>?_;simp only[List.getElem?_map,Option.map_eq_some_iff,Array.getElem?_toList]at hx;obtain⟨p,⟨u',hu',rfl⟩,rfl⟩:=hx;rw[hu]at hu';cases hu';exact .pv (.lit _)
   ·cases h
  ·rename_i l;cases hr with
   |agg cs _ hl hr=>exact fin cs l y (Qc2 n hm row _ _ _ h hc) hl hr
  ·cases h
theorem Qy.Qgd{M:Qc}{ρ:Env}{w:World}{s ty sz:Nat}{rows:List (List PV)}(h:Qy M ρ w s (.vec ty sz rows)):Qy M ρ w s (.mix ty sz (rows.map (·.map .pv))):=by
 have key:∀i j,Yg (rows.map (·.map SV.pv)) i j=Zj rows i j:=fun i j=>by
  unfold Zj Yg;simp only[List.getElem?_map];cases rows[i]? with
  |none=>rfl
  |some r=>simp
 rcases h with⟨h1,h2⟩|⟨p,h1,h2⟩
 ·exact .inl ⟨h1,by simp[h2]⟩
 ·refine .inr ⟨p,h1,?_⟩;obtain⟨cs,a1,a2,a3,a4,a5,a6⟩:=h2.ex;exact⟨cs,a1,a2,by simpa using a3,by simpa using a4,fun i j x v hx hv=>by rw[key]at hx;simpa using a5 i j x v hx hv,fun i j x hx=>by rw[key]at hx;simpa using a6 i j x hx⟩
theorem Qy.Qdg{M M2:Qc}{ρ ρ2:Env}{w:World}{s ty:Nat}{row:List Ty}{rs:List (List SV)}{l:List (Els row)}(hle:M.le M2)(hs:ρ2 s=ρ s)(hf:W0 M ρ M2 row rs l)(h:Qy M ρ w s (.mix ty row.length rs)):Qy M2 ρ2 w s (.tvec ty row l):=by
 have hlen:(Qu row l).length=rs.length:=by simp[Qu,hf.1]
 rcases h with⟨h1,h2⟩|⟨p,h1,h2⟩
 ·exact .inl ⟨hs.trans h1,List.eq_nil_of_length_eq_zero (by rw[hlen,h2];rfl)⟩
 ·refine .inr ⟨p,hs.trans h1,?_⟩;obtain⟨cs,a1,a2,a3,a4,a5,a6⟩:=h2.ex;have key:∀i j x,Zj (Qu row l) i j=some x→∃y,Yg rs i j=some y∧∀v,Qe M ρ v y→Qe M2 ρ2 v x:=fun i j x hx=>by unfold Zj at hx;simp only[Option.map_eq_some_iff,Option.bind_eq_some_iff,Qu,List.getElem?_map]at hx;obtain⟨q,⟨r',⟨y,hy,rfl⟩,hq⟩,rfl⟩:=hx;obtain⟨r,g1,g2⟩:=hf.2 i y hy;obtain⟨x,g3,g4⟩:=g2.2 j q hq;exact⟨x,by simp[Yg,g1,g3],fun v h=>.pv (g4 v h)⟩
  refine⟨cs,a1,a2,by rw[hlen];exact a3,by rw[hlen];exact a4,fun i j x v hx hv=>?_,fun i j x hx=>?_⟩
  ·obtain⟨y,hy,himp⟩:=key i j x hx;obtain⟨b1,b2,b3⟩:=a5 i j y v hy hv;exact⟨by rw[hlen];exact b1,b2,himp _ b3⟩
  ·obtain⟨y,hy,_⟩:=key i j x hx;rw[hlen];exact a6 i j y hy
def Zfr:SV→List Nat
 |.sl s _ _ _=>[s]
 |_=>[]
def Qt0:List SV→List Nat
 |[]=>[]
 |x::l=>Zfr x++Qt0 l
def Xe:List (List SV)→List Nat
 |[]=>[]
 |r::l=>Qt0 r++Xe l
def Yp(S:List Nat):Nat→List Qa→List Qa
 |_,[]=>[]
 |n,o::l=>(match S.contains n with
  |true=>o
  |false=>.dead)::Yp S (n+1) l
def Xx:List Nat→List Qa→List Qa
 |[],H=>H
 |s::S,H=>Xx S (H.set s .dead)
theorem Qc0{S:List Nat}:∀{H:List Qa} {n s:Nat} {x:Qa},(Yp S n H)[s]? =some x→(S.contains (n+s)=true∧H[s]? =some x)∨x=.dead
 |[],n,s,x,h=>by simp[Yp]at h
 |o::l,n,s,x,h=>by
  cases s with
  |zero=>
   simp only[Yp,List.getElem?_cons_zero,Option.some.injEq]at h;split at h
   ·rename_i e;subst h;exact .inl ⟨e,rfl⟩
   ·exact .inr h.symm
  |succ s=>
   simp only[Yp,List.getElem?_cons_succ]at h;rcases Qc0 h with⟨h1,h2⟩|h1
   ·exact .inl ⟨by rw[show n+(s+1)=n+1+s by omega];exact h1,by simpa using h2⟩
   ·exact .inr h1
theorem Qkn{S:List Nat}:∀{H:List Qa} {n:Nat},(Yp S n H).length=H.length
 |[],n=>rfl
 |o::l,n=>by simp[Yp,Qkn (H:=l)]
theorem Qau:∀{S:List Nat} {H:List Qa},(Xx S H).length=H.length
 |[],H=>rfl
 |s::S,H=>by simp[Xx,Qau]
theorem Qox:∀{S:List Nat} {H:List Qa} {s:Nat} {x:Qa},(Xx S H)[s]? =some x→x=.dead∨(s∉S∧H[s]? =some x)
 |[],H,s,x,h=>.inr ⟨by simp,h⟩
 |t::S,H,s,x,h=>by
  simp only[Xx]at h;rcases Qox h with h1|⟨h1,h2⟩
  ·exact .inl h1
  ·rw[List.getElem?_set]at h2;split at h2
   ·split at h2
    ·cases h2;exact .inl rfl
    ·cases h2
   ·rename_i e;exact .inr ⟨by simp only[List.mem_cons,not_or];exact⟨fun h=>e h.symm,h1⟩,h2⟩
theorem Qjk:∀{S:List Nat} {H:List Qa} {s:Nat},s∉S→(Xx S H)[s]? =H[s]?
 |[],H,s,_=>rfl
 |t::S,H,s,h=>by simp only[List.mem_cons,not_or]at h;simp only[Xx];rw[Qjk h.2,List.getElem?_set,if_neg fun e=>h.1 e.symm]
theorem Mem.sub{M:Qc}{ρ:Env}{H H2:List Qa}{w:World}(hm:Mem M ρ H w)(hl:H2.length=H.length)(hs:∀(s:Nat) (x:Qa),H2[s]? =some x→x.live=true→H[s]? =some x):Mem M ρ H2 w:=by
 refine⟨hm.imm,fun s x hx=>?_,fun s x p b hx hlx hp hb=>hm.seps s x p b (hs s x hx hlx) hlx hp hb,fun s s' x x' p p' b hx hx' hlx hlx' hp hp' hb hb'=>hm.diss s s' x x' p p' b (hs s x hx hlx) (hs s' x' hx' hlx') hlx hlx' hp hp' hb hb',fun s h=>hm.fresh s (by rw[←hl];exact h),fun s x p b hx hlx hp hb=>hm.lts s x p b (hs s x hx hlx) hlx hp hb⟩;by_cases hlx:x.live=true
 ·exact hm.own s x (hs s x hx hlx)
 ·rw[Wu hlx];trivial
def Qn.J4(S:List Nat)(H:List Qa):Qn→Qn
 |.fail=>.fail
 |.ok x=>.eff x H S []
 |.eff x H' t g=>.eff x H' (S++t) g
 |.need c r=>.need c (r.J4 S H)
 |.split c a b=>.split c (a.J4 S H) (b.J4 S H)
 |.both a b=>.both (a.J4 S H) (b.J4 S H)
theorem Qn.touch_holds{S:List Nat}{H H0:List Qa}{K:Qr}:∀{r:Qn},(r.J4 S H).holds H0 K→r.holds H fun x H' t g=>K x H' (S++t) g
 |.fail,h=>h
 |.ok x,h=>by show K x H (S++[]) [];rw[List.append_nil];exact h
 |.eff x H' t g,h=>h
 |.need c r,h=>⟨h.1,touch_holds h.2⟩
 |.split c a b,h=>⟨fun e=>touch_holds (h.1 e),fun e=>touch_holds (h.2 e)⟩
 |.both a b,h=>⟨touch_holds h.1,touch_holds h.2⟩
def Qdm(tab:Qo)(H:List Qa)(t:Nat)(x:SV):Option (Bool×List Nat×List Qa):=match x with
 |.sl tmp sz st n=>match H[tmp]? with
  |some (.mix ty so rows)=>match tab.lookup t with
   |some {desc:=.slice e,..}=>match tab.lookup e with
    |none=>none
    |some i=>match i.row with
     |none=>none
     |some row=>match Nat.beq so row.length&& !(Xe rows).contains tmp with
      |false=>none
      |true=>match Wc (Xk (Yp (Xe rows) 0 H) 0 row) rows with
       |none=>none
       |some a=>some (a.1,Xe rows,(Xx (Xe rows) H).set tmp (.tvec ty row a.2))
   |_=>none
  |_=>none
 |_=>none
theorem Qr5{tab:Qo}{M:Qc}{ρ:Env}{H:List Qa}{w:World}(hm:Mem M ρ H w){t:Nat}{x:SV}{c:Bool}{S:List Nat}{H2:List Qa}(h:Qdm tab H t x=some (c,S,H2))(hc:c=true):
  H2.length=H.length∧∃M2,Mem M2 ρ H2 w∧Fr M ρ H w M2 ρ H2 w H.length S []∧M.le M2:=by
 unfold Qdm at h;split at h
 ·rename_i tmp sz st n;split at h
  ·rename_i ty so rows ho;split at h
   ·split at h
    ·cases h
    ·split at h
     ·cases h
     ·rename_i i _ _ row hrow;split at h
      ·cases h
      ·rename_i hcond;rw[Bool.and_eq_true,Bool.not_eq_true']at hcond;have hso:=Nat.eq_of_beq_eq_true hcond.1;subst hso;have htmp:tmp∉Xe rows:=by simpa using hcond.2
       split at h
       ·cases h
       ·rename_i a ha;cases h;obtain⟨c1,l⟩:=a;have hsub:Mem M ρ (Yp (Xe rows) 0 H) w:=hm.sub Qkn fun s x hx hl=>by
         rcases Qc0 hx with⟨_,h2⟩|rfl
         ·exact h2
         ·cases hl
        have hle:=Qc.Y5 M ρ (Yp (Xe rows) 0 H) 0 w;have hrf:=Qed (Qc2 0 hsub row) rows c1 l ha hc;have hnew:∀b ob,M b=none→M.Q9 ρ (Yp (Xe rows) 0 H) 0 w b=some ob→(∃(s:Nat) (o:Qa) (p:Place),s∈Xe rows∧H[s]? =some o∧o.live=true∧ρ s=some p∧p.block=b)∧w.heap[b]? =some ob:=fun b ob h0 h1=>by
         obtain⟨⟨s2,o2,p2,q1,q2,q3,q4,q5⟩,q6⟩:=Qc.Xs h0 h1;rcases Qc0 q2 with⟨k1,k2⟩|rfl
         ·exact⟨⟨s2,o2,p2,by simpa using k1,k2,by cases o2<;>simp_all [Qa.Xt,Qa.live],q4,q5⟩,q6⟩
         ·cases q3
        generalize M.Q9 ρ (Yp (Xe rows) 0 H) 0 w=M2 at hle hrf hnew;have hlt:tmp<H.length:=(List.getElem?_eq_some_iff.1 ho).1;have hobj:∀s x,((Xx (Xe rows) H).set tmp (.tvec ty row l))[s]? =some x→(s=tmp∧x=.tvec ty row l)∨x=.dead∨(s≠tmp∧s∉Xe rows∧H[s]? =some x):=fun s x hx=>by
         rw[List.getElem?_set]at hx;split at hx
         ·rename_i e;subst e;split at hx
          ·cases hx;exact .inl ⟨rfl,rfl⟩
          ·cases hx
         ·rename_i e;rcases Qox hx with h1|⟨h1,h2⟩
          ·exact .inr (.inl h1)
          ·exact .inr (.inr ⟨fun h=>e h.symm,h1,h2⟩)
        have hold:∀s x,((Xx (Xe rows) H).set tmp (.tvec ty row l))[s]? =some x→x.live=true→s∉Xe rows∧∃y,H[s]? =some y∧y.live=true:=fun s x hx hl=>by
         rcases hobj s x hx with⟨rfl,rfl⟩|rfl|⟨_,h1,h2⟩
         ·exact⟨htmp,_,ho,rfl⟩
         ·cases hl
         ·exact⟨h1,x,h2,hl⟩
        refine⟨by simp[Qau],M2,⟨fun b ob hb=>?_,fun s x hx=>?_,fun s x p b hx hlx hp hb=>?_,fun s s' x x' p p' b hx hx' hlx hlx' hp hp' hbk hbk'=>?_,fun s hs=>hm.fresh s (by simpa[Qau]using hs),fun s x p b hx hlx hp hb=>?_⟩,⟨hle,fun b ob h0 h1=>?_,fun b hb=>?_,fun _ _ _=>rfl,Nat.le_refl _,fun s x hs hx hy hlx=>?_,fun _ _ _=>rfl,rfl,rfl⟩,hle⟩
        ·cases e:M b with
         |some o'=>rw[hle b o' e]at hb;cases hb;exact hm.imm b _ e
         |none=>exact(hnew b ob e hb).2
        ·rcases hobj s x hx with⟨rfl,rfl⟩|rfl|⟨_,_,h2⟩
         ·have h0:Qy M ρ w s (.mix ty row.length rows):=hm.own s _ ho;exact h0.Qdg hle rfl hrf
         ·trivial
         ·exact(hm.own s x h2).mono hle ρ.le_refl rfl fun _ _ _ _=>rfl
        ·obtain⟨h1,y,h2,h3⟩:=hold s x hx hlx;have h0:=hm.seps s y p b h2 h3 hp hb;cases e:M2 b with
         |none=>rfl
         |some ob=>obtain⟨⟨s2,o2,p2,q1,q2,q3,q4,q5⟩,_⟩:=hnew _ _ h0 e;have:=hm.diss s s2 y o2 p p2 b h2 q2 h3 q3 hp q4 hb (.inl q5);subst this;exact absurd q1 h1
        ·obtain⟨_,y,h2,h3⟩:=hold s x hx hlx;obtain⟨_,y',h2',h3'⟩:=hold s' x' hx' hlx';exact hm.diss s s' y y' p p' b h2 h2' h3 h3' hp hp' hbk hbk'
        ·obtain⟨_,y,h2,h3⟩:=hold s x hx hlx;exact hm.lts s y p b h2 h3 hp hb
        ·obtain⟨⟨s2,o2,p2,q1,q2,q3,q4,q5⟩,_⟩:=hnew b ob h0 h1;exact .inr ⟨s2,o2,p2,q2,q3,q4,.inl q5⟩
        ·obtain⟨s,x,p,h1,h2,h3,h4⟩:=hb;obtain⟨_,y,q1,q2⟩:=hold s x h1 h2;exact .inr ⟨s,y,p,q1,q2,h3,h4⟩
        ·refine⟨?_,fun p hp=>⟨hp,fun _ _=>rfl⟩⟩;by_cases e:s=tmp
         ·subst e;exact⟨.tvec ty row l,by rw[List.getElem?_set,if_pos rfl,if_pos (by rw[Qau];exact hlt)],rfl⟩
         ·refine⟨x,?_,hlx⟩;rw[List.getElem?_set,if_neg fun h=>e h.symm,Qjk hx];exact hy
   ·cases h
  ·cases h
 ·cases h
def Qcl(tab:Qo)(H:List Qa)(t t':Nat)(a x:SV):Qn:=match Qdm tab H t x with
 |some q=>.need q.1 ((Qd5 tab q.2.2 t t' a x).J4 q.2.1 q.2.2)
 |none=>Qd5 tab H t t' a x
theorem Qmm{P:Program}{tab:Qo}(htab:Qf P tab){M:Qc}{ρ:Env}{H:List Qa}{w:World}{K:Qr}(hm:Mem M ρ H w){t t' ty:Nat}{a x:SV}{v u:Value}(ha:Qe M ρ v a)(hx:Qe M ρ u x)
  (h:(Qcl tab H t t' a x).holds H K):Qv P (Builtin.append_ #[t,t'] ty #[v,u]) M ρ H w K:=by
 unfold Qcl at h;split at h
 ·rename_i q hq;obtain⟨c,S,H2⟩:=q;obtain⟨hc,h⟩:=h;obtain⟨hlen,M2,m1,m2,m3⟩:=Qr5 hm hq hc;obtain⟨v',w',h1,y,H',tch,fg,M',ρ',hk,h2,h3,h4⟩:=Qus htab m1 (ha.mono m3 ρ.le_refl) (hx.mono m3 ρ.le_refl) (Qn.touch_holds h);rw[hlen]at h4;exact⟨v',w',h1,y,H',S++tch,fg,M',ρ',hk,h2,h3,m2.trans h4 (fun x h=>List.mem_append_left _ h) (fun x h=>List.mem_append_right _ h) (fun x h=>by cases h) (fun x h=>h)⟩
 ·exact Qus htab hm ha hx h
def Zr2(H:List Qa)(a x:SV):Bool:=match a with
 |.sl d _ _ _=>match H[d]? with
  |some (.mix _ _ rows)=>!(Xe rows).isEmpty&&Qxl H x
  |_=>false
 |_=>false
def Qj8(tab:Qo)(H:List Qa)(t t':Nat)(a x:SV):Qn:=match Zr2 H a x with
 |true=>match Qdm tab H t a with
  |some q=>.need q.1 ((Qcl tab q.2.2 t t' a x).J4 q.2.1 q.2.2)
  |none=>Qcl tab H t t' a x
 |false=>Qcl tab H t t' a x
theorem Zda{P:Program}{tab:Qo}(htab:Qf P tab){M:Qc}{ρ:Env}{H:List Qa}{w:World}{K:Qr}(hm:Mem M ρ H w){t t' ty:Nat}{a x:SV}{v u:Value}(ha:Qe M ρ v a)(hx:Qe M ρ u x)
  (h:(Qj8 tab H t t' a x).holds H K):Qv P (Builtin.append_ #[t,t'] ty #[v,u]) M ρ H w K:=by
 unfold Qj8 at h;split at h
 ·split at h
  ·rename_i q hq;obtain⟨c,S,H2⟩:=q;obtain⟨hc,h⟩:=h;obtain⟨hlen,M2,m1,m2,m3⟩:=Qr5 hm hq hc;obtain⟨v',w',h1,y,H',tch,fg,M',ρ',hk,h2,h3,h4⟩:=Qmm (ty:=ty) htab m1 (ha.mono m3 ρ.le_refl) (hx.mono m3 ρ.le_refl) (Qn.touch_holds h);rw[hlen]at h4;exact⟨v',w',h1,y,H',S++tch,fg,M',ρ',hk,h2,h3,m2.trans h4 (fun x h=>List.mem_append_left _ h) (fun x h=>List.mem_append_right _ h) (fun x h=>by cases h) (fun x h=>h)⟩
  ·exact Qmm htab hm ha hx h
 ·exact Qmm htab hm ha hx h
theorem Zl8{M:Qc}{ρ:Env}{H:List Qa}{w:World}(hm:Mem M ρ H w)(S:List Nat):
  Mem (M.Q9 ρ (Yp S 0 H) 0 w) ρ (Xx S H) w∧Fr M ρ H w (M.Q9 ρ (Yp S 0 H) 0 w) ρ (Xx S H) w H.length S []:=by
 have hle:=Qc.Y5 M ρ (Yp S 0 H) 0 w;have hnew:∀b ob,M b=none→M.Q9 ρ (Yp S 0 H) 0 w b=some ob→(∃(s:Nat) (o:Qa) (p:Place),s∈S∧H[s]? =some o∧o.live=true∧ρ s=some p∧p.block=b)∧w.heap[b]? =some ob:=fun b ob h0 h1=>by
  obtain⟨⟨s2,o2,p2,q1,q2,q3,q4,q5⟩,q6⟩:=Qc.Xs h0 h1;rcases Qc0 q2 with⟨k1,k2⟩|rfl
  ·exact⟨⟨s2,o2,p2,by simpa using k1,k2,by cases o2<;>simp_all [Qa.Xt,Qa.live],q4,q5⟩,q6⟩
  ·cases q3
 generalize M.Q9 ρ (Yp S 0 H) 0 w=M2 at hle hnew;have hold:∀s x,(Xx S H)[s]? =some x→x.live=true→s∉S∧H[s]? =some x:=fun s x hx hl=>by
  rcases Qox hx with rfl|h
  ·cases hl
  ·exact h
 refine⟨⟨fun b ob hb=>?_,fun s x hx=>?_,fun s x p b hx hlx hp hb=>?_,fun s s' x x' p p' b hx hx' hlx hlx' hp hp' hbk hbk'=>?_,fun s hs=>hm.fresh s (by simpa[Qau]using hs),fun s x p b hx hlx hp hb=>?_⟩,⟨hle,fun b ob h0 h1=>?_,fun b hb=>?_,fun _ _ _=>rfl,Nat.le_refl _,fun s x hs hx hy hlx=>?_,fun _ _ _=>rfl,rfl,rfl⟩⟩
 ·cases e:M b with
  |some o'=>rw[hle b o' e]at hb;cases hb;exact hm.imm b _ e
  |none=>exact(hnew b ob e hb).2
 ·by_cases hl:x.live=true
  ·exact(hm.own s x (hold s x hx hl).2).mono hle ρ.le_refl rfl fun _ _ _ _=>rfl
  ·rw[Wu hl];trivial
 ·obtain⟨h1,h2⟩:=hold s x hx hlx;have h0:=hm.seps s x p b h2 hlx hp hb;cases e:M2 b with
  |none=>rfl
  |some ob=>obtain⟨⟨s2,o2,p2,q1,q2,q3,q4,q5⟩,_⟩:=hnew _ _ h0 e;have:=hm.diss s s2 x o2 p p2 b h2 q2 hlx q3 hp q4 hb (.inl q5);subst this;exact absurd q1 h1
 ·exact hm.diss s s' x x' p p' b (hold s x hx hlx).2 (hold s' x' hx' hlx').2 hlx hlx' hp hp' hbk hbk'
 ·exact hm.lts s x p b (hold s x hx hlx).2 hlx hp hb
 ·obtain⟨⟨s2,o2,p2,q1,q2,q3,q4,q5⟩,_⟩:=hnew b ob h0 h1;exact .inr ⟨s2,o2,p2,q2,q3,q4,.inl q5⟩
 ·obtain⟨s,x,p,h1,h2,h3,h4⟩:=hb;exact .inr ⟨s,x,p,(hold s x h1 h2).2,h2,h3,h4⟩
 ·refine⟨⟨x,?_,hlx⟩,fun p hp=>⟨hp,fun _ _=>rfl⟩⟩;rw[Qjk hx];exact hy
def Qyh(H:List Qa)(a x:SV):Option (Bool×Nat×SV):=match a with
 |.ptr s' sz' r j=>match H[s']? with
  |some (.tvec _ row _)=>match x with
   |.sl s sz st n=>match Nat.beq s s' with
    |true=>none
    |false=>match row[(norm sz' r j row.length).2]? with
     |some (.seq row')=>match rdT (Yp [s] 0 H) 0 (.seq row') (.sl s sz st n)with
      |some q=>some (q.1,s,.pv ((Ty.seq row').pv q.2))
      |none=>none
     |_=>none
   |_=>none
  |_=>none
 |_=>none
def Qgx(tab:Qo)(H:List Qa)(t:Nat)(a x:SV):Qn:=match Qyh H a x with
 |some q=>.need q.1 ((Qep tab (H.set q.2.1 .dead) t a q.2.2).J4 [q.2.1] (H.set q.2.1 .dead))
 |none=>Qep tab H t a x
theorem Zbs{P:Program}{tab:Qo}(htab:Qf P tab){M:Qc}{ρ:Env}{H:List Qa}{w:World}{K:Qr}(hm:Mem M ρ H w){t:TypeId}{a x:SV}{v u:Value}(ha:Qe M ρ v a)(hx:Qe M ρ u x)
  (h:(Qgx tab H t a x).holds H K):Ve P (Instr.storeAt t v u) M ρ H w K:=by
 unfold Qgx at h;split at h
 ·rename_i q hq;obtain⟨hc,h⟩:=h;unfold Qyh at hq;split at hq
  ·split at hq
   ·split at hq
    ·rename_i s sz st n;split at hq
     ·cases hq
     ·split at hq
      ·rename_i row' _;split at hq
       ·rename_i q' hq';cases hq;obtain⟨c,y⟩:=q';have hsub:Mem M ρ (Yp [s] 0 H) w:=hm.sub Qkn fun s x hx hl=>by
         rcases Qc0 hx with⟨_,h2⟩|rfl
         ·exact h2
         ·cases hl
        obtain⟨m1,m2⟩:=Zl8 hm [s];have hv:=Qir 0 hsub (.seq row') _ c y u hq' hc hx;have hle:=Qc.Y5 M ρ (Yp [s] 0 H) 0 w;obtain⟨w',h1,y',H',tch,fg,M',ρ',hk,h2,h3,h4⟩:=Qu8 htab m1 (ha.mono hle ρ.le_refl) (.pv hv) (Qn.touch_holds h);rw[Qau]at h4;exact⟨w',h1,y',H',[s]++tch,fg,M',ρ',hk,h2,h3,m2.trans h4 (fun x h=>List.mem_append_left _ h) (fun x h=>List.mem_append_right _ h) (fun x h=>by cases h) (fun x h=>h)⟩
       ·cases hq
      ·cases hq
    ·cases hq
   ·cases hq
  ·cases hq
 ·exact Qu8 htab hm ha hx h
end Go.Sx
end

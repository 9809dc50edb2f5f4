/- Part I of the own logic: maps and ranges over strings. Part Ab of the own logic: append within one own row, where there is room; slices of which room is known. And further parts. -/
import Derived.Test.YtpkbmngnolhopaaGreatDoorXSxH
import Derived.Maps.RangeRun
set_option linter.unusedVariables false
set_option linter.unusedSimpArgs false
set_option linter.unnecessarySimpa false
namespace Go.Sx
open Go
theorem Qdh{α β:Type}(P:Program)(x:Sem α)(f:α→Sem β):Yk P (x>>=f)=(Yk P x).bind fun a=>Yk P (f a):=by
 show Yk P (x.bind f)=_;induction x with
 |pure a=>rfl
 |program k ih=>simp only[Sem.bind,Yk];exact ih P
 |mark m k ih=>simp only[Sem.bind,Yk];exact ih
 |_=>simp[Sem.bind,Yk]
theorem Vv{α:Type}(P:Program)(a:α):Yk P (pure a:Sem α)=some a:=rfl
theorem Qwe(kind:TypeDesc)(k:Value):∀(l1 l2:List MapEntry) (i:Nat) (r:Option (Nat×Value)),l1.map (·.key)=l2.map (·.key)→Instr.findNow kind k l1 i=some r→
  (r=none∧Instr.findNow kind k l2 i=some none)∨∃(j:Nat) (v:Value) (e:MapEntry),r=some (i+j,v)∧l2[j]? =some e∧Instr.findNow kind k l2 i=some (some (i+j,e.val))
 |[],[],i,r,_,h=>by simp[Instr.findNow]at h;subst h;exact .inl ⟨rfl,rfl⟩
 |[],_::_,_,_,hk,_=>by simp at hk
 |_::_,[],_,_,hk,_=>by simp at hk
 |a::l1,b::l2,i,r,hk,h=>by
  simp only[List.map_cons,List.cons.injEq]at hk;obtain⟨hk0,hk⟩:=hk;simp only[Instr.findNow,hk0]at h⊢;split at h
  ·rename_i hs;cases h;exact .inr ⟨0,a.val,b,rfl,rfl,by simp[hs]⟩
  ·rename_i hs;rcases Qwe kind k l1 l2 (i+1) r hk h with⟨h1,h2⟩|⟨j,v,e,h1,h2,h3⟩
   ·exact .inl ⟨h1,by simp[hs,h2]⟩
   ·exact .inr ⟨j+1,v,e,by rw[h1];congr 2;omega,by simpa using h2,by simp[hs,h3];omega⟩
  ·cases h
theorem Qx1(kind:TypeDesc)(k:Value):∀(l1 l2:List MapEntry) (i:Nat),l1.map (·.key)=l2.map (·.key)→Instr.findNow kind k l1 i=none→Instr.findNow kind k l2 i=none
 |[],[],i,_,h=>by simp[Instr.findNow]at h
 |[],_::_,_,hk,_=>by simp at hk
 |_::_,[],_,hk,_=>by simp at hk
 |a::l1,b::l2,i,hk,h=>by
  simp only[List.map_cons,List.cons.injEq]at hk;obtain⟨hk0,hk⟩:=hk;simp only[Instr.findNow,hk0]at h⊢;split at h
  ·cases h
  ·rename_i hs;simp[hs,Qx1 kind k l1 l2 (i+1) hk h]
  ·rename_i hs;simp[hs]
theorem Qse(P:Program)(t:TypeId)(k:Value):∀(l1 l2:List MapEntry) (i:Nat) (r:Option (Nat×Value)),l1.map (·.key)=l2.map (·.key)→Yk P (Instr.findAsking t k l1 i)=some r→
  (r=none∧Yk P (Instr.findAsking t k l2 i)=some none)∨∃(j:Nat) (v:Value) (e:MapEntry),r=some (i+j,v)∧l2[j]? =some e∧Yk P (Instr.findAsking t k l2 i)=some (some (i+j,e.val))
 |[],[],i,r,_,h=>by simp[Instr.findAsking,Vv]at h;subst h;exact .inl ⟨rfl,rfl⟩
 |[],_::_,_,_,hk,_=>by simp at hk
 |_::_,[],_,_,hk,_=>by simp at hk
 |a::l1,b::l2,i,r,hk,h=>by
  simp only[List.map_cons,List.cons.injEq]at hk;obtain⟨hk0,hk⟩:=hk;simp only[Instr.findAsking,Qdh,hk0]at h⊢;cases hb:Yk P (Op.equal t k b.key)with
  |none=>simp[hb]at h
  |some c=>
   simp only[hb,Option.bind_some]at h⊢;cases c with
   |true=>simp[Vv]at h;subst h;exact .inr ⟨0,a.val,b,rfl,rfl,by simp[Vv]⟩
   |false=>
    simp only[Bool.false_eq_true,if_false]at h⊢;rcases Qse P t k l1 l2 (i+1) r hk h with⟨h1,h2⟩|⟨j,v,e,h1,h2,h3⟩
    ·exact .inl ⟨h1,h2⟩
    ·exact .inr ⟨j+1,v,e,by rw[h1];congr 2;omega,by simpa using h2,by rw[h3];congr 3;omega⟩
theorem Zqv(P:Program)(t:TypeId)(k:Value){l1 l2:List MapEntry}{r:Option (Nat×Value)}(hk:l1.map (·.key)=l2.map (·.key))(h:Yk P (Instr.findKey t k l1)=some r):
  (r=none∧Yk P (Instr.findKey t k l2)=some none)∨∃(j:Nat) (v:Value) (e:MapEntry),r=some (j,v)∧l2[j]? =some e∧Yk P (Instr.findKey t k l2)=some (some (j,e.val)):=by
 simp only[Instr.findKey,Qdh]at h⊢;cases hu:Yk P (underlying t)with
 |none=>simp[hu]at h
 |some d=>
  simp only[hu,Option.bind_some]at h⊢;cases hf:Instr.findNow d k l1 0 with
  |some q=>
   simp only[hf,Vv,Option.some.injEq]at h;subst h;rcases Qwe d k l1 l2 0 q hk hf with⟨h1,h2⟩|⟨j,v,e,h1,h2,h3⟩
   ·exact .inl ⟨h1,by simp[h2,Vv]⟩
   ·exact .inr ⟨j,v,e,by simpa using h1,h2,by simp[h3,Vv]⟩
  |none=>
   simp only[hf]at h;rw[Qx1 d k l1 l2 0 hk hf];simp only;rcases Qse P t k l1 l2 0 r hk h with⟨h1,h2⟩|⟨j,v,e,h1,h2,h3⟩
   ·exact .inl ⟨h1,h2⟩
   ·exact .inr ⟨j,v,e,by simpa using h1,h2,by simpa using h3⟩
abbrev Qm:=Value×SV×Nat
def Wc(es:List Qm):List MapEntry:=es.map fun e=>{key:=e.1,val:=.bool false,born:=e.2.2}
def Kc(P:Program)(kt:TypeId)(k:Value)(es:List Qm):Option (Option Nat):=
 match Yk P (Instr.findKey kt k (Wc es))with
 |none=>none
 |some none=>some none
 |some (some (j,_))=>some (some j)
structure X8 (M:Qc) (ρ:Env) (arr:Array MapEntry) (es:List Qm):Prop where
 sz:arr.size=es.length
 rep:∀(i:Nat) (k:Value) (x:SV) (b:Nat),es[i]? =some (k,x,b)→∃e:MapEntry,arr[i]? =some e∧e.key=k∧e.born=b∧Qd M ρ e.val x
theorem X8.keys{M:Qc}{ρ:Env}{arr:Array MapEntry}{es:List Qm}(h:X8 M ρ arr es):(Wc es).map (·.key)=arr.toList.map (·.key):=by
 apply List.ext_getElem?;intro i;simp only[Wc,List.map_map,List.getElem?_map];by_cases hi:i<es.length
 ·obtain⟨e,h1,h2,_⟩:=h.rep i es[i].1 es[i].2.1 es[i].2.2 (by simp[hi]);rw[←Array.getElem?_toList]at h1;simp[hi,h1,h2]
 ·rw[List.getElem?_eq_none (by omega),List.getElem?_eq_none (by simp;rw[h.sz];omega)];rfl
theorem V8{P:Program}{M:Qc}{ρ:Env}{arr:Array MapEntry}{es:List Qm}{kt:TypeId}{k:Value}(h:X8 M ρ arr es)(w:World):
  (Kc P kt k es=some none→(Instr.findKey kt k arr.toList).run P w=.ok none w)∧
  (∀j,Kc P kt k es=some (some j)→∃(e:MapEntry) (x:Qm),arr[j]? =some e∧es[j]? =some x∧e.key=x.1∧e.born=x.2.2∧Qd M ρ e.val x.2.1∧(Instr.findKey kt k arr.toList).run P w=.ok (some (j,e.val)) w):=by
 unfold Kc;cases hf:Yk P (Instr.findKey kt k (Wc es))with
 |none=>exact⟨fun h=>by simp at h,fun j h=>by simp at h⟩
 |some r=>
  rcases Zqv P kt k h.keys hf with⟨rfl,h2⟩|⟨j,v,e,rfl,h2,h3⟩
  ·exact⟨fun _=>Qb0 h2 w,fun j h=>by simp at h⟩
  ·refine⟨fun h=>by simp at h,fun j' hj=>?_⟩;simp at hj;subst hj;rw[Array.getElem?_toList]at h2;have hlt:j<es.length:=by have:=(Array.getElem?_eq_some_iff.1 h2).1;rw[h.sz]at this;exact this
   obtain⟨e',a1,a2,a3,a4⟩:=h.rep j es[j].1 es[j].2.1 es[j].2.2 (by simp[hlt]);rw[h2]at a1;cases a1;exact⟨e,es[j],h2,by simp[hlt],a2,a3,a4,Qb0 h3 w⟩
def Qb2(P:Program)(empty:Bool)(kt:TypeId)(k:Value):Bool:=(Yk P (Instr.checkKey empty 10000 kt k)).isSome
theorem Qag{P:Program}{empty:Bool}{kt:TypeId}{k:Value}(h:Qb2 P empty kt k=true)(w:World):(Instr.checkKey empty 10000 kt k).run P w=.ok () w:=by unfold Qb2 at h;obtain⟨u,hu⟩:=Option.isSome_iff_exists.1 h;exact Qb0 hu w
theorem Qt.Qca{M:Qc}{ρ:Env}{w:World}{s:Nat}{es:List Qm}{c:Nat}{p:Place}(h:Qt M ρ w s (.map es c))(hp:ρ s=some p):∃arr,w.heap[p.block]? =some (.map arr c)∧X8 M ρ arr es:=by obtain⟨q,arr,h1,h2,h3,h4⟩:=h;rw[hp]at h1;cases h1;exact⟨arr,h2,h3,h4⟩
def valOf(t:Ty):SV→Option t.El
 |.pv p=>t.of p
 |_=>none
def Qqr(row:List Ty):SV→Option (Qh row)
 |.pv (.lit (.agg cs))=>ofRow row (cs.toList.map .lit)
 |.agg l=>match Vp l with
  |some ps=>ofRow row ps
  |none=>none
 |_=>none
def Qf.Uj:(a:Qf)→SV→Option a.El
 |.val t=>valOf t
 |.agg row=>Qqr row
theorem Qf.Qan{M:Qc}{ρ:Env}{a:Qf}{x:SV}{v:Value}{y:a.El}(h:a.Uj x=some y)(hx:Qd M ρ v x):Qd M ρ v (a.raw y):=by
 cases a with
 |val t=>
  have h:valOf t x=some y:=h;unfold valOf at h;split at h
  ·cases hx with
   |pv hp=>exact .pv (Ty.Qr6 h hp)
  ·cases h
 |agg row=>
  replace h:Qqr row x=some y:=h;have fin:∀(cs:Array Value) (l:List PV),ofRow row l=some y→cs.size=l.length→(∀(i:Nat) (u:Value) (q:PV),cs[i]? =some u→l[i]? =some q→Zb M u q)→Qd M ρ (.agg cs) ((Qf.agg row).raw y):=fun cs l hy hl hr=>by obtain⟨g1,g2⟩:=Qbh hy;refine .agg cs _ (by simp[hl,g1]) fun i u z hu hz=>?_;simp only[List.getElem?_map,Option.map_eq_some_iff]at hz;obtain⟨q,hq,rfl⟩:=hz;obtain⟨p,hp,himp⟩:=g2 i q hq;exact .pv (himp M u (hr i u p hu hp))
  unfold Qqr at h;split at h
  ·rename_i cs;have:=hx.Q7;subst this;refine fin cs _ h (by simp) fun i u q hu hq=>?_;simp only[List.getElem?_map,Option.map_eq_some_iff,Array.getElem?_toList]at hq;obtain⟨q',hq',rfl⟩:=hq;rw[hu]at hq';cases hq';exact .lit _
  ·split at h
   ·rename_i l ps hps;have e:=Ux hps;subst e;cases hx with
    |agg cs _ hl hr=>
     refine fin cs ps h (by simpa using hl) fun i u q hu hq=>?_;have:=hr i u (.pv q) hu (by simp[hq]);cases this with
     |pv h=>exact h
   ·cases h
  ·cases h
theorem Ty.Zzr{M:Qc}{v:Value}:∀{t:Ty} {x:t.El},t.scalar=true→Zb M v (t.pv x)→v=t.toV x
 |.int _,_,_,h=>by cases h;rfl
 |.bool,_,_,h=>by cases h;rfl
 |.str,_,_,h=>by cases h;rfl
theorem Qsq:∀(ts:List Ty) (x:Qh ts),ts.all Ty.scalar=true→Za ts x=(Qc0 ts x).map .lit
 |[],_,_=>rfl
 |[t],x,h=>by cases t<;>first|rfl|(simp[Ty.scalar]at h)
 |t::t'::ts,x,h=>by simp only[List.all_cons,Bool.and_eq_true]at h;have:=Qsq (t'::ts) x.2 (by simp only[List.all_cons,Bool.and_eq_true];exact h.2);simp only[Za,Qc0,List.map_cons,this];cases t<;>first|rfl|(simp[Ty.scalar]at h)
theorem Qi0{M:Qc}{ρ:Env}{a:Qf}{x:a.El}{v:Value}(hs:a.scalar=true)(h:Qd M ρ v (a.raw x)):v=a.Yd x:=by
 cases a with
 |val t=>
  cases h with
  |pv h=>exact Ty.Zzr hs h
 |agg row=>
  have e:=Qsq row x hs;simp only[Qf.raw,e]at h;cases h with
  |agg cs _ hl hr=>
   show _=Value.agg (Qc0 row x).toArray;congr 1;apply Array.ext
   ·simpa using hl
   ·intro i h1 h2;have:=hr i cs[i] (.lit ((Qc0 row x).toArray[i])) (by simp[h1]) (by simp at h2;simp[h2]);rw[this.Q7]
def Y6{K V:Type}(eq:K→K→Bool)(k:K):List (K×V)→Nat→Option (Nat×V)
 |[],_=>none
 |e::l,i=>match eq k e.1 with
  |true=>some (i,e.2)
  |false=>Y6 eq k l (i+1)
theorem Kq{k v:Qf}:∀(l:List (k.El×v.El)) (n i:Nat),(Ys k v n l)[i]? =(l[i]?).map fun x=>(k.Yd x.1,v.raw x.2,n+i)
 |[],n,i=>by simp[Ys]
 |x::l,n,i=>by
  cases i with
  |zero=>simp[Ys]
  |succ i=>simp only[Ys,List.getElem?_cons_succ,Kq l (n+1) i];congr 1;funext x;rw[Nat.add_right_comm,Nat.add_assoc]
theorem Qmz{k v:Qf}(l:List (k.El×v.El))(n j:Nat)(x:k.El×v.El):Ys k v n (l.set j x)=(Ys k v n l).set j (k.Yd x.1,v.raw x.2,n+j):=by
 apply List.ext_getElem?;intro i;rw[Kq,List.getElem?_set,List.getElem?_set,Qds,Kq];split
 ·rename_i e;subst e;split<;>rfl
 ·rfl
theorem Quq{k v:Qf}(l:List (k.El×v.El))(n:Nat)(x:k.El×v.El):Ys k v n (l++[x])=Ys k v n l++[(k.Yd x.1,v.raw x.2,n+l.length)]:=by
 apply List.ext_getElem?;intro i;rw[Kq,List.getElem?_append,List.getElem?_append,Qds,Kq];split
 ·rfl
 ·rename_i h;by_cases e:i-l.length=0
  ·have:i=l.length:=by omega
   subst this;simp
  ·obtain⟨m,hm⟩:=Nat.exists_eq_succ_of_ne_zero e;rw[hm];simp
def J6:TypeDesc→Qf→Bool
 |.int k,.val (.int k')=>decide (k=k')
 |.string,.val .str=>true
 |.bool,.val .bool=>true
 |_,_=>false
theorem Qnc{d:TypeDesc}{a:Qf}(h:J6 d a=true):a.scalar=true:=by unfold J6 at h;split at h<;>first|rfl|cases h
theorem Qyf{d:TypeDesc}{k v:Qf}(hd:J6 d k=true)(x:k.El):∀(l:List (k.El×v.El)) (n i:Nat),
  ∃r,Instr.findNow d (k.Yd x) (Wc (Ys k v n l)) i=some r∧r.map (·.1)=(Y6 k.eqv x l i).map (·.1)
 |[],n,i=>⟨none,rfl,rfl⟩
 |y::l,n,i=>by
  obtain⟨r,h1,h2⟩:=Qyf hd x l (n+1) (i+1);have hs:Instr.sameNow d (k.Yd x) (k.Yd y.1)=some (k.eqv x y.1):=by
   unfold J6 at hd;split at hd
   ·rename_i a b;show Instr.sameNow (.int _) (.int b x) (.int b y.1)=some (Ku x y.1);simp only[Instr.sameNow,if_true];rfl
   ·show Instr.sameNow .string (.string x) (.string y.1)=some (Qe x y.1);have key:∀a b:ByteArray,Instr.sameNow .string (.string a) (.string b)=some (Qe a b):=fun a b=>by simp only[Instr.sameNow,Qqx]
    exact key x y.1
   ·show Instr.sameNow .bool (.bool x) (.bool y.1)=some (Qc3 x y.1);have key:∀a b:Bool,Instr.sameNow .bool (.bool a) (.bool b)=some (Qc3 a b):=by decide
    exact key x y.1
   ·cases hd
  show∃r,Instr.findNow d (k.Yd x) ({key:=k.Yd y.1,val:=.bool false,born:=n}::Wc (Ys k v (n+1) l)) i=some r∧_;simp only[Instr.findNow,hs,Y6];cases k.eqv x y.1 with
  |true=>exact⟨_,rfl,rfl⟩
  |false=>exact⟨r,h1,h2⟩
theorem Zrg{P:Program}{kt:TypeId}{d:TypeDesc}(hu:P.underlying kt=some d){k v:Qf}(hd:J6 d k=true)(x:k.El)(l:List (k.El×v.El)):
  Kc P kt (k.Yd x) (Ys k v 0 l)=some ((Y6 k.eqv x l 0).map (·.1)):=by
 obtain⟨r,h1,h2⟩:=Qyf hd x l 0 0;have:Yk P (Instr.findKey kt (k.Yd x) (Wc (Ys k v 0 l)))=some r:=by
  unfold Instr.findKey;rw[Qdh];have:Yk P (underlying kt)=some d:=by unfold underlying;rw[Qdh];show(some P).bind _=_;simp only[Option.bind_some,hu,Vv]
  rw[this];simp only[Option.bind_some,h1,Vv]
 unfold Kc;rw[this];cases r with
 |none=>simp only[Option.map_none]at h2;rw[←h2]
 |some p=>simp only[Option.map_some]at h2;rw[←h2]
theorem Qwk{K V:Type}{eq:K→K→Bool}{k:K}:∀{l:List (K×V)} {n j:Nat} {v:V},Y6 eq k l n=some (j,v)→∃i e,j=n+i∧l[i]? =some e∧e.2=v∧eq k e.1=true
 |[],n,j,v,h=>by cases h
 |e::l,n,j,v,h=>by
  simp only[Y6]at h;split at h
  ·rename_i he;cases h;exact⟨0,e,rfl,rfl,rfl,he⟩
  ·obtain⟨i,e',h1,h2,h3,h4⟩:=Qwk h;exact⟨i+1,e',by omega,by simpa using h2,h3,h4⟩
def Qf.ofZ:(a:Qf)→Value→Option a.El
 |a,z=>a.Uj (.lit z)
def Zz{K V:Type}(eq:K→K→Bool)(k:K)(l:List (K×V))(z:V):V:=match Y6 eq k l 0 with
 |some p=>p.2
 |none=>z
def Qa7{K V:Type}(eq:K→K→Bool)(k:K)(l:List (K×V)):Bool:=(Y6 eq k l 0).isSome
def Yy{K V:Type}(eq:K→K→Bool)(k:K)(x:V)(l:List (K×V)):List (K×V):=match Y6 eq k l 0 with
 |some p=>l.set p.1 (k,x)
 |none=>l++[(k,x)]
def Qfg{K V:Type}(eq:K→K→Bool)(k:K)(l:List (K×V)):Nat:=match Y6 eq k l 0 with
 |some p=>p.1
 |none=>l.length
theorem X5.rep{M:Qc}{ρ:Env}{w:World}{s:Nat}{es:List Qm}{c:Nat}{p:Place}(h:X5 M ρ w s es c)(hp:ρ s=some p):∃arr,w.heap[p.block]? =some (.map arr c)∧X8 M ρ arr es:=by obtain⟨q,arr,h1,h2,h3,h4⟩:=h;rw[hp]at h1;cases h1;exact⟨arr,h2,h3,h4⟩
def Zai(H:List Qa):Qj:=.eff (.mp H.length) (H++[.map [] 0]) [] []
theorem Zis{P:Program}{M:Qc}{ρ:Env}{H:List Qa}{w:World}{K:Qn}(hm:Mem M ρ H w){t:TypeId}(h:(Zai H).holds H K):Qq P (Instr.makeMap t none) M ρ H w K:=by
 have hrun:(Instr.makeMap t none).run P w=.ok (.map (some w.heap.size)) (w.alloc (.map #[] 0)):=by simp[Instr.makeMap]
 obtain⟨g1,g2⟩:=hm.alloc (w':=w.alloc (.map #[] 0)) (o:=.map #[] 0) (so:=.map [] 0) (cap:=0) rfl
  ⟨_,#[],Env.Zx ..,heap_alloc_new w _,rfl,fun i k x b hi=>by simp at hi⟩
 exact⟨_,_,hrun,_,_,[],[],M,_,h,.mp _ _ (Env.Zx ..),g1,g2⟩
def Qaq(P:Program)(tab:Qk)(H:List Qa)(t:Nat)(m k:SV)(ok:Bool):Qj:=
 match tab.lookup t with
 |some {desc:=.map kt et,..}=>match k with
  |.pv (.lit kv)=>match m with
   |.mp s=>match H[s]? with
    | some (.map es c)=>if Qb2 P es.isEmpty kt kv then match Kc P kt kv es with
      |some (some j)=>match es[j]? with
       |some e=>.ok (if ok then .tup [e.2.1,.lit (.bool true)]else e.2.1)
       |none=>.fail
      |some none=>match tab.lookup et with
       |some i=>.ok (if ok then .tup [.lit i.zero,.lit (.bool false)]else .lit i.zero)
       |none=>.fail
      |none=>.fail
     else .fail
    |_=>.fail
   |.pv (.lit (.map none))=>if Qb2 P true kt kv then match tab.lookup et,tab.lookup kt with
     |some i,some _=>.ok (if ok then .tup [.lit i.zero,.lit (.bool false)]else .lit i.zero)
     |_,_=>.fail
    else .fail
   |_=>.fail
  |_=>.fail
 |_=>.fail
theorem V0{M:Qc}{ρ:Env}{v:Value}{x:SV}{b ok:Bool}(h:Qd M ρ v x):Qd M ρ (if ok then .tuple #[v,.bool b]else v) (if ok then .tup [x,.lit (.bool b)]else x):=by
 cases ok with
 |false=>simpa using h
 |true=>
  simp only[if_true];refine .tup _ _ rfl fun i u y hu hy=>?_;match i with
  |0=>simp at hu hy;subst hu;subst hy;exact h
  |1=>simp at hu hy;subst hu;subst hy;exact .pv (.lit _)
  |i+2=>simp at hy
theorem Vy{P:Program}{t:TypeId}{i:TI}(h:Y5 P t i)(w:World):(zeroValue t).run P w=.ok i.zero w:=by obtain⟨n,hn,_,_,h3⟩:=h.inf;simp[zeroValue,typeInfo,hn,h3]
theorem Qoo{P:Program}{tab:Qk}(htab:Qx P tab){M:Qc}{ρ:Env}{H:List Qa}{w:World}{K:Qn}(hm:Mem M ρ H w){t:Nat}{m k:SV}{vm vk:Value}{ok:Bool}(hmr:Qd M ρ vm m)(hkr:Qd M ρ vk k)
  (h:(Qaq P tab H t m k ok).holds H K):Qq P (Instr.lookup t vm vk ok) M ρ H w K:=by
 unfold Qaq at h;split at h
 ·rename_i kt et sz' by' zr rw' hte;have hu:P.underlying t=some (.map kt et):=(htab.get hte).und;split at h
  ·rename_i kv;have:=hkr.Q7;subst this;split at h
   ·rename_i s;split at h
    ·rename_i es c ho;split at h
     ·rename_i hko;cases hmr with
      |mp _ p hp=>
       obtain⟨arr,hheap,hrep⟩:=(hm.own s _ ho).Qca hp;have hempty:arr.isEmpty=es.isEmpty:=by have:=hrep.sz;simp only[Array.isEmpty,this];cases es<;>simp
       obtain⟨f1,f2⟩:=V8 (P:=P) (kt:=kt) (k:=vk) hrep w;have hget:=run_getObj_map (P:=P) hheap;have hkey:=Qag hko w;rw[←hempty]at hkey;split at h
       ·rename_i j hj;obtain⟨e,x,a1,a2,a3,a4,a5,a6⟩:=f2 j hj;rw[a2]at h;simp only at h;refine Qq.same hm ?_ (V0 (ok:=ok) (b:=true) a5) h;simp[Instr.lookup,run_underlying hu,hget,hkey,a6]
       ·rename_i hj;split at h
        ·rename_i i hi;refine Qq.same hm ?_ (V0 (ok:=ok) (b:=false) (.pv (.lit _))) h;simp[Instr.lookup,run_underlying hu,hget,hkey,f1 hj,Vy (htab.get hi)]
        ·exact h.elim
       ·exact h.elim
     ·exact h.elim
    ·exact h.elim
   ·split at h
    ·rename_i hko;have:=hmr.Q7;subst this;have hkey:=Qag hko w;split at h
     ·rename_i i ik hi hik;have hnone:(Instr.findKey kt vk []).run P w=.ok none w:=by simp only[Instr.findKey,Instr.findNow,Sem.run_bind,run_underlying (htab.get hik).und,Result.andThen_ok,Sem.run_pure]
      refine Qq.same hm ?_ (V0 (ok:=ok) (b:=false) (.pv (.lit _))) h;simp[Instr.lookup,run_underlying hu,hkey,hnone,Vy (htab.get hi)]
     ·exact h.elim
    ·exact h.elim
   ·exact h.elim
  ·exact h.elim
 ·exact h.elim
def Qlz(P:Program)(tab:Qk)(H:List Qa)(t:Nat)(m k x:SV):Qj:=
 match tab.lookup t,m,k with
 |some {desc:=.map kt et,..},.mp s,.pv (.lit kv)=>match H[s]? with
  | some (.map es c)=>if Qb2 P false kt kv then match Kc P kt kv es with
    |some (some j)=>match es[j]? with
     |some e=>if Instr.sameBits 10000 e.1 kv then .eff .any (H.set s (.map (es.set j (kv,x,e.2.2)) c)) [s] []else .fail
     |none=>.fail
    |some none=>.eff .any (H.set s (.map (es++[(kv,x,c)]) (c+1))) [s] []
    |none=>.fail
   else .fail
  |_=>.fail
 |_,_,_=>.fail
theorem Kj{P:Program}{w:World}{b:Nat}{es:Array MapEntry}{c:Nat}(h:w.heap[b]? =some (.map es c))(o:Obj):(setObj b o).run P w=.ok () {w with heap:=w.heap.setIfInBounds b o}:=by simp[setObj,Sem.run,h]
theorem Qqm{w:World}{b k:Nat}{o:Obj}(h:k≠b):(w.heap.setIfInBounds b o)[k]? =w.heap[k]? :=Array.getElem?_setIfInBounds_ne (Ne.symm h)
theorem X8.set{M:Qc}{ρ:Env}{arr:Array MapEntry}{es:List Qm}{j:Nat}{e:MapEntry}{k:Value}{v:Value}{x:SV}{b:Nat}(h:X8 M ρ arr es)(hj:arr[j]? =some e)(hx:Qd M ρ v x)(hb:e.born=b)
  (f:MapEntry→MapEntry) (hf:f e={e with key:=k,val:=v}):X8 M ρ (arr.modify j f) (es.set j (k,x,b)):=by
 refine⟨by simp[h.sz],fun i k' x' b' hi=>?_⟩;have hlt:j<arr.size:=(Array.getElem?_eq_some_iff.1 hj).1;rw[List.getElem?_set]at hi;split at hi
 ·rename_i e';subst e';rw[if_pos (by rw[←h.sz];exact hlt)]at hi;cases hi;refine⟨{e with key:=k,val:=v},?_,rfl,hb,hx⟩;rw[Array.getElem?_modify];simp[hj,hf]
 ·rename_i e';obtain⟨q,a1,a2⟩:=h.rep i k' x' b' hi;exact⟨q,by rw[Array.getElem?_modify,if_neg e'];exact a1,a2⟩
theorem X8.push{M:Qc}{ρ:Env}{arr:Array MapEntry}{es:List Qm}{k v:Value}{x:SV}{c:Nat}(h:X8 M ρ arr es)(hx:Qd M ρ v x):X8 M ρ (arr.push {key:=k,val:=v,born:=c}) (es++[(k,x,c)]):=by
 refine⟨by simp[h.sz],fun i k' x' b' hi=>?_⟩;rw[List.getElem?_append]at hi;split at hi
 ·rename_i hlt;obtain⟨q,a1,a2⟩:=h.rep i k' x' b' hi;exact⟨q,by rw[Array.getElem?_push];rw[if_neg (by rw[h.sz];omega)];exact a1,a2⟩
 ·rename_i hlt;have e:i=es.length:=by
   by_cases e:i=es.length
   ·exact e
   ·rw[List.getElem?_eq_none (by simp;omega)]at hi;cases hi
  subst e;simp at hi;obtain⟨rfl,rfl,rfl⟩:=hi;exact⟨_,by rw[Array.getElem?_push,if_pos h.sz.symm],rfl,rfl,hx⟩
theorem Qgq{P:Program}{M:Qc}{ρ:Env}{H:List Qa}{w:World}{K:Qn}(hm:Mem M ρ H w){s:Nat}{es es':List Qm}{c c':Nat}{p:Place}{arr arr':Array MapEntry}(ho:H[s]? =some (.map es c))(hp:ρ s=some p)
  (hheap:w.heap[p.block]? =some (.map arr c)) (hr:X8 M ρ arr' es'):Mem M ρ (H.set s (.map es' c')) {w with heap:=w.heap.setIfInBounds p.block (.map arr' c')}∧Fr M ρ H w M ρ (H.set s (.map es' c')) {w with heap:=w.heap.setIfInBounds p.block (.map arr' c')} H.length [s] []:=by
 have hlt:p.block<w.heap.size:=(Array.getElem?_eq_some_iff.1 hheap).1;exact hm.put ho rfl hp (fun b hb=>Qqm hb) (by simp) rfl ⟨p,arr',hp,by simp[hlt],hr.sz,hr.rep⟩
theorem Qtn{P:Program}{tab:Qk}(htab:Qx P tab){M:Qc}{ρ:Env}{H:List Qa}{w:World}{K:Qn}(hm:Mem M ρ H w){t:Nat}{m k x:SV}{vm vk v:Value}(hmr:Qd M ρ vm m)(hkr:Qd M ρ vk k)(hx:Qd M ρ v x)
  (h:(Qlz P tab H t m k x).holds H K):K8 P (Instr.mapUpdate t vm vk v) M ρ H w K:=by
 unfold Qlz at h;split at h
 ·rename_i kt et sz' by' zr rw' s kv hte;have hu:P.underlying t=some (.map kt et):=(htab.get hte).und;have:=hkr.Q7;subst this;split at h
  ·rename_i es c ho;split at h
   ·rename_i hko;cases hmr with
    |mp _ p hp=>
     obtain⟨arr,hheap,hrep⟩:=(hm.own s _ ho).Qca hp;obtain⟨f1,f2⟩:=V8 (P:=P) (kt:=kt) (k:=vk) hrep w;have hget:=run_getObj_map (P:=P) hheap;have hkey:=Qag hko w;split at h
     ·rename_i j hj;obtain⟨e,x',a1,a2,a3,a4,a5,a6⟩:=f2 j hj;rw[a2]at h;simp only at h;split at h
      ·rename_i hsb;have hks:(Instr.keyThatStays (((arr[j]?).map (·.key)).getD vk) vk).run P w=.ok vk w:=by rw[a1];simp only[Option.map_some,Option.getD_some,a3];simp[Instr.keyThatStays,hsb]
       obtain⟨g1,g2⟩:=Qgq (P:=P) (K:=K) (c':=c) hm ho hp hheap (hrep.set a1 hx a4 (fun e=>{e with key:=vk,val:=v}) rfl);refine⟨_,?_,.any,_,[s],[],M,ρ,h,rfl,g1,g2⟩;simp[Instr.mapUpdate,run_underlying hu,hget,hkey,a6,hks,Kj hheap]
      ·exact h.elim
     ·rename_i hj;obtain⟨g1,g2⟩:=Qgq (P:=P) (K:=K) (c':=c+1) hm ho hp hheap (hrep.push (k:=vk) (c:=c) hx);refine⟨_,?_,.any,_,[s],[],M,ρ,h,rfl,g1,g2⟩;simp[Instr.mapUpdate,run_underlying hu,hget,hkey,f1 hj,Kj hheap]
     ·exact h.elim
   ·exact h.elim
  ·exact h.elim
 ·exact h.elim
def Qig(P:Program)(tab:Qk)(H:List Qa)(t:Nat)(m k:SV):Qj:=
 match tab.lookup t,m,k with
 |some {desc:=.map kt et,..},.mp s,.pv (.lit kv)=>match H[s]? with
  | some (.map es c)=>if Qb2 P false kt kv then match Kc P kt kv es with
    |some (some j)=>match es[j]? with
     |some e=>if Instr.sameBits 10000 e.1 kv then .eff (.tup [e.2.1,.lit (.int .i64 e.2.2)]) (H.set s (.map (es.set j (kv,e.2.1,e.2.2)) c)) [s] []else .fail
     |none=>.fail
    |some none=>match tab.lookup et with
     |some i=>.eff (.tup [.lit i.zero,.lit (.int .i64 c)]) (H.set s (.map (es++[(kv,.lit i.zero,c)]) (c+1))) [s] []
     |none=>.fail
    |none=>.fail
   else .fail
  |_=>.fail
 |_,_,_=>.fail
theorem Qlq{M:Qc}{ρ:Env}{v u:Value}{x y:SV}(h:Qd M ρ v x)(k:Qd M ρ u y):Qd M ρ (.tuple #[v,u]) (.tup [x,y]):=by
 refine .tup _ _ rfl fun i a b ha hb=>?_;match i with
 |0=>simp at ha hb;subst ha;subst hb;exact h
 |1=>simp at ha hb;subst ha;subst hb;exact k
 |i+2=>simp at hb
theorem Zax{P:Program}{tab:Qk}(htab:Qx P tab){M:Qc}{ρ:Env}{H:List Qa}{w:World}{K:Qn}(hm:Mem M ρ H w){t:Nat}{m k:SV}{vm vk:Value}(hmr:Qd M ρ vm m)(hkr:Qd M ρ vk k)
  (h:(Qig P tab H t m k).holds H K):Qq P (Instr.mapEntry t vm vk) M ρ H w K:=by
 unfold Qig at h;split at h
 ·rename_i kt et sz' by' zr rw' s kv hte;have hu:P.underlying t=some (.map kt et):=(htab.get hte).und;have:=hkr.Q7;subst this;split at h
  ·rename_i es c ho;split at h
   ·rename_i hko;cases hmr with
    |mp _ p hp=>
     obtain⟨arr,hheap,hrep⟩:=(hm.own s _ ho).Qca hp;obtain⟨f1,f2⟩:=V8 (P:=P) (kt:=kt) (k:=vk) hrep w;have hget:=run_getObj_map (P:=P) hheap;have hkey:=Qag hko w;split at h
     ·rename_i j hj;obtain⟨e,x',a1,a2,a3,a4,a5,a6⟩:=f2 j hj;rw[a2]at h;simp only at h;split at h
      ·rename_i hsb;have hks:(Instr.keyThatStays e.key vk).run P w=.ok vk w:=by rw[a3];simp[Instr.keyThatStays,hsb]
       obtain⟨g1,g2⟩:=Qgq (P:=P) (K:=K) (c':=c) hm ho hp hheap (hrep.set a1 a5 a4 (fun e=>{e with key:=vk}) rfl);refine⟨.tuple #[e.val,goInt e.born],_,?_,_,_,[s],[],M,ρ,h,?_,g1,g2⟩
       ·simp[Instr.mapEntry,run_underlying hu,hget,hkey,a6,hks,Kj hheap,a1]
       ·rw[a4];exact Qlq a5 (.pv (.lit _))
      ·exact h.elim
     ·rename_i hj;split at h
      ·rename_i i hi;obtain⟨g1,g2⟩:=Qgq (P:=P) (K:=K) (c':=c+1) hm ho hp hheap (hrep.push (k:=vk) (c:=c) (v:=i.zero) (x:=.lit i.zero) (.pv (.lit _)));refine⟨.tuple #[i.zero,goInt c],_,?_,_,_,[s],[],M,ρ,h,Qlq (.pv (.lit _)) (.pv (.lit _)),g1,g2⟩;simp[Instr.mapEntry,run_underlying hu,hget,hkey,f1 hj,Kj hheap,Vy (htab.get hi)]
      ·exact h.elim
     ·exact h.elim
   ·exact h.elim
  ·exact h.elim
 ·exact h.elim
def Qmh(H:List Qa)(m st x:SV):Qj:=
 match m,st with
 |.mp s,.pv (.lit (.int _ n))=>match H[s]? with
  |some (.map es c)=>match es.findIdx? (fun e=>(e.2.2:Int)==n)with
   |some j=>match es[j]? with
    |some e=>.eff .any (H.set s (.map (es.set j (e.1,x,e.2.2)) c)) [s] []
    |none=>.fail
   |none=>.fail
  |_=>.fail
 |_,_=>.fail
theorem Qvw{P:Program}{M:Qc}{ρ:Env}{H:List Qa}{w:World}{K:Qn}(hm:Mem M ρ H w){t:Nat}{m st x:SV}{vm vs v:Value}(hmr:Qd M ρ vm m)(hst:Qd M ρ vs st)(hx:Qd M ρ v x)
  (h:(Qmh H m st x).holds H K):K8 P (Instr.entryStore t vm vs v) M ρ H w K:=by
 unfold Qmh at h;split at h
 ·rename_i s k n;have:=hst.Q7;subst this;split at h
  ·rename_i es c ho;split at h
   ·rename_i j hj;split at h
    ·rename_i e he;cases hmr with
     |mp _ p hp=>
      obtain⟨arr,hheap,hrep⟩:=(hm.own s _ ho).Qca hp;obtain⟨q,a1,a2,a3,a4⟩:=hrep.rep j e.1 e.2.1 e.2.2 he;have hget:=run_getObj_map (P:=P) hheap;have hidx:arr.findIdx? (fun e=>(e.born:Int)==n)=some j:=by
       have hborn:∀i:Nat,(arr[i]?).map (fun e=>(e.born:Int)==n)=(es[i]?).map (fun e=>(e.2.2:Int)==n):=fun i=>by
        by_cases hi:i<es.length
        ·obtain⟨z,b1,b2,b3,_⟩:=hrep.rep i es[i].1 es[i].2.1 es[i].2.2 (by simp[hi]);rw[b1];simp[hi,b3]
        ·rw[List.getElem?_eq_none (by omega),Array.getElem?_eq_none (by rw[hrep.sz];omega)];rfl
       rw[List.findIdx?_eq_some_iff_getElem]at hj;rw[Array.findIdx?_eq_some_iff_getElem];obtain⟨c1,c2,c3⟩:=hj;have hl:j<arr.size:=by rw[hrep.sz];exact c1
       refine⟨hl,?_,fun i hi=>?_⟩
       ·have:=hborn j;simp only[Array.getElem?_eq_getElem hl,List.getElem?_eq_getElem c1,Option.map_some,Option.some.injEq]at this;rw[this];exact c2
       ·have hi2:i<arr.size:=by omega
        have hi3:i<es.length:=by omega
        have:=hborn i;simp only[Array.getElem?_eq_getElem hi2,List.getElem?_eq_getElem hi3,Option.map_some,Option.some.injEq]at this;rw[this];exact c3 i hi
      obtain⟨g1,g2⟩:=Qgq (P:=P) (K:=K) (c':=c) hm ho hp hheap (hrep.set (k:=e.1) a1 hx a3 (fun e=>{e with val:=v}) (by rw[←a2]));refine⟨_,?_,.any,_,[s],[],M,ρ,h,rfl,g1,g2⟩;simp[Instr.entryStore,hget,asInt,asIntOf,hidx,Kj hheap]
    ·exact h.elim
   ·exact h.elim
  ·exact h.elim
 ·exact h.elim
theorem Qda{P:Program}{kt:TypeId}{d:TypeDesc}(hu:P.underlying kt=some d){a:Qf}(hd:J6 d a=true)(x:a.El)(e:Bool)(w:World):(Instr.checkKey e 10000 kt (a.Yd x)).run P w=.ok () w:=by
 unfold Instr.checkKey;simp only[Sem.run_bind,run_underlying hu,Result.andThen_ok];unfold J6 at hd;split at hd
 ·rfl
 ·rfl
 ·rfl
 ·cases hd
theorem Qvl{d:TypeDesc}{a:Qf}(hd:J6 d a=true)(x:a.El):Instr.sameBits 10000 (a.Yd x) (a.Yd x)=true:=by
 unfold J6 at hd;split at hd
 ·rename_i j k;have key:∀a:Int,Instr.sameBits 10000 (.int k a) (.int k a)=true:=fun a=>by simp[Instr.sameBits]
  exact key x
 ·have key:∀a:ByteArray,Instr.sameBits 10000 (.string a) (.string a)=true:=fun a=>by simp only[Instr.sameBits,Qqx,Qe,decide_true]
  exact key x
 ·have key:∀a:Bool,Instr.sameBits 10000 (.bool a) (.bool a)=true:=fun a=>by simp[Instr.sameBits]
  exact key x
 ·cases hd
theorem Qby{P:Program}{M:Qc}{ρ:Env}{arr:Array MapEntry}{kt:TypeId}{d:TypeDesc}(hu:P.underlying kt=some d){k v:Qf}(hd:J6 d k=true){l:List (k.El×v.El)}(hr:X8 M ρ arr (Ys k v 0 l))(x:k.El)(w:World):
  (Y6 k.eqv x l 0=none→(Instr.findKey kt (k.Yd x) arr.toList).run P w=.ok none w)∧
  (∀j y,Y6 k.eqv x l 0=some (j,y)→∃e,arr[j]? =some e∧j<l.length∧e.key=k.Yd x∧e.born=j∧Qd M ρ e.val (v.raw y)∧(Instr.findKey kt (k.Yd x) arr.toList).run P w=.ok (some (j,e.val)) w):=by
 obtain⟨f1,f2⟩:=V8 (P:=P) (kt:=kt) (k:=k.Yd x) hr w;have hs:=Zrg (P:=P) hu hd x l;refine⟨fun h=>f1 (by rw[hs,h];rfl),fun j y h=>?_⟩;obtain⟨e,z,a1,a2,a3,a4,a5,a6⟩:=f2 j (by rw[hs,h];rfl);obtain⟨i,q,b1,b2,b3,b4⟩:=Qwk h;have:i=j:=by omega
 subst this;rw[Kq,b2]at a2;simp only[Option.map_some,Option.some.injEq]at a2;subst a2;have hk:=Qf.eqv_ok k _ _ b4;refine⟨e,a1,(List.getElem?_eq_some_iff.1 b2).1,by rw[a3,←hk],by rw[a4];simp,by rw[←b3];exact a5,a6⟩
def Qol(tab:Qk)(H:List Qa)(kt et:Nat)(ka va:Qf)(l:List (ka.El×va.El))(k:SV)(ok:Bool):Qj:=
 match tab.lookup kt with
 |none=>.fail
 |some ik=>match J6 ik.desc ka with
  |false=>.fail
  |true=>match tab.lookup et with
   |none=>.fail
   |some ie=>match ka.Uj k with
    |none=>.fail
    |some kx=>match va.ofZ ie.zero with
     |none=>.fail
     |some z=>.ok (if ok then .tup [va.raw (Zz ka.eqv kx l z),.lit (.bool (Qa7 ka.eqv kx l))]else va.raw (Zz ka.eqv kx l z))
def Qrt:TypeDesc→Value→Value→Option Bool
 |.int _,.int k a,.int k' b=>match decide (k=k')with
  |true=>some (decide (a=b))
  |false=>none
 |.string,.string a,.string b=>some (Qe a b)
 |.bool,.bool a,.bool b=>some (Qc3 a b)
 |_,_,_=>none
theorem Zll{d:TypeDesc}{a b:Value}{c:Bool}(h:Qrt d a b=some c):Instr.sameNow d a b=some c:=by
 unfold Qrt at h;split at h
 ·rename_i k' a k b;split at h
  ·rename_i e;have e:=of_decide_eq_true e;subst e;simp only[Instr.sameNow,if_true];rw[←h];rfl
  ·cases h
 ·simp only[Instr.sameNow,Qqx];exact h
 ·rename_i a b;cases a<;>cases b<;>(rw[←h];rfl)
 ·cases h
def Qio(d:TypeDesc)(kv:Value)(nf:Qj)(ok:Bool):List Qm→Qj
 |[]=>nf
 |e::es=>match Qrt d kv e.1 with
  |some c=>.split c (.ok (if ok then .tup [e.2.1,.lit (.bool true)]else e.2.1)) (Qio d kv nf ok es)
  |none=>.fail
theorem Qwx{H:List Qa}{K:Qn}{d:TypeDesc}{kv:Value}{nf:Qj}{ok:Bool}:∀(es:List Qm) (i:Nat),(Qio d kv nf ok es).holds H K→
  (∃j e,es[j]? =some e∧Instr.findNow d kv (Wc es) i=some (some (i+j,.bool false))∧K (if ok then .tup [e.2.1,.lit (.bool true)]else e.2.1) H [] [])∨
  (Instr.findNow d kv (Wc es) i=some none∧nf.holds H K)
 |[],i,h=>.inr ⟨rfl,h⟩
 |e::es,i,h=>by
  simp only[Qio]at h;split at h
  ·rename_i c hc;have hs:=Zll hc;have hd:Wc (e::es)={key:=e.1,val:=.bool false,born:=e.2.2}::Wc es:=rfl;rw[hd];simp only[Instr.findNow,hs];cases c with
   |true=>exact .inl ⟨0,e,rfl,rfl,h.1 rfl⟩
   |false=>
    rcases Qwx es (i+1) (h.2 rfl)with⟨j,e',h1,h2,h3⟩|⟨h1,h2⟩
    ·exact .inl ⟨j+1,e',by simpa using h1,by rw[h2];simp;omega,h3⟩
    ·exact .inr ⟨h1,h2⟩
  ·exact h.elim
def Zm3:TypeDesc→Bool
 |.int _=>true
 |.string=>true
 |.bool=>true
 |_=>false
def Qok(P:Program)(tab:Qk)(kt et:Nat)(es:List Qm)(k:SV)(ok:Bool):Qj:=match k with
 |.pv (.lit kv)=>match tab.lookup kt with
  |none=>.fail
  |some ik=>match Qb2 P es.isEmpty kt kv with
   |false=>.fail
   |true=>Qio ik.desc kv (match tab.lookup et with
    |some i=>.ok (if ok then .tup [.lit i.zero,.lit (.bool false)]else .lit i.zero)
    |none=>.fail) ok es
 |_=>.fail
theorem Qv7{P:Program}{tab:Qk}(htab:Qx P tab){M:Qc}{ρ:Env}{H:List Qa}{K:Qn}{kt et:Nat}{es:List Qm}{k:SV}{vk:Value}{ok:Bool}(hkr:Qd M ρ vk k)
  (h:(Qok P tab kt et es k ok).holds H K) {arr:Array MapEntry} (hrep:X8 M ρ arr es):∃ v x,K x H [] [] ∧ Qd M ρ v x ∧
   ∀(w:World) (t b:Nat) (c:Nat),P.underlying t=some (.map kt et)→w.heap[b]? =some (.map arr c)→(Instr.lookup t (.map (some b)) vk ok).run P w=.ok v w:=by
 unfold Qok at h;split at h
 ·rename_i kv;have:=hkr.Q7;subst this;split at h
  ·exact h.elim
  ·rename_i ik hik;split at h
   ·exact h.elim
   ·rename_i hko;have hdk:P.underlying kt=some ik.desc:=(htab.get hik).und;have hempty:arr.isEmpty=es.isEmpty:=by have:=hrep.sz;simp only[Array.isEmpty,this];cases es<;>simp
    have hseek:∀r,Instr.findNow ik.desc vk (Wc es) 0=some r→Kc P kt vk es=some (r.map (·.1)):=fun r hr=>by
     have:Yk P (Instr.findKey kt vk (Wc es))=some r:=by
      unfold Instr.findKey;rw[Qdh];have:Yk P (underlying kt)=some ik.desc:=by unfold underlying;rw[Qdh];show(some P).bind _=_;simp only[Option.bind_some,hdk,Vv]
      rw[this];simp only[Option.bind_some,hr,Vv]
     unfold Kc;rw[this];cases r with
     |none=>rfl
     |some p=>rfl
    rcases Qwx es 0 h with⟨j,e,h1,h2,h3⟩|⟨h1,h2⟩
    ·obtain⟨me,x,a1,a2,a3,a4,a5,_⟩:=(V8 (P:=P) (kt:=kt) (k:=vk) hrep default).2 j (by rw[hseek _ h2];simp);rw[h1]at a2;cases a2;refine⟨_,_,h3,V0 (ok:=ok) (b:=true) a5,fun w t b c hu hheap=>?_⟩;obtain⟨me',x',b1,_,_,_,_,b6⟩:=(V8 (P:=P) (kt:=kt) (k:=vk) hrep w).2 j (by rw[hseek _ h2];simp);rw[a1]at b1;cases b1;have hkey:=Qag hko w;rw[←hempty]at hkey;simp[Instr.lookup,run_underlying hu,run_getObj_map (P:=P) hheap,hkey,b6]
    ·split at h2
     ·rename_i i hi;refine⟨_,_,h2,V0 (ok:=ok) (b:=false) (.pv (.lit _)),fun w t b c hu hheap=>?_⟩;have hkey:=Qag hko w;rw[←hempty]at hkey;simp[Instr.lookup,run_underlying hu,run_getObj_map (P:=P) hheap,hkey,(V8 (P:=P) (kt:=kt) (k:=vk) hrep w).1 (by rw[hseek _ h1];rfl),Vy (htab.get hi)]
     ·exact h2.elim
 ·exact h.elim
def Qf6(P:Program)(tab:Qk)(H:List Qa)(t:Nat)(m k:SV)(ok:Bool):Qj:=
 match m with
 |.mp s=>match H[s]? with
  |some (.tmap ka va l)=>match tab.lookup t with
   |some {desc:=.map kt et,..}=>Qol tab H kt et ka va l k ok
   |_=>.fail
  |some (.map es c)=>match tab.lookup t with
   |some {desc:=.map kt et,..}=>match tab.lookup kt with
    |some ik=>match Zm3 ik.desc with
     |true=>Qok P tab kt et es k ok
     |false=>Qaq P tab H t m k ok
    |none=>.fail
   |_=>.fail
  |_=>Qaq P tab H t m k ok
 |_=>Qaq P tab H t m k ok
theorem Qvo{P:Program}{tab:Qk}(htab:Qx P tab){M:Qc}{ρ:Env}{H:List Qa}{K:Qn}{kt et:Nat}{ka va:Qf}{l:List (ka.El×va.El)}{k:SV}{vk:Value}{ok:Bool}(hkr:Qd M ρ vk k)
  (h:(Qol tab H kt et ka va l k ok).holds H K) {arr:Array MapEntry} (hr:X8 M ρ arr (Ys ka va 0 l)):∃ v x,K x H [] [] ∧ Qd M ρ v x ∧
   ∀(w:World) (t b:Nat) (c:Nat),P.underlying t=some (.map kt et)→w.heap[b]? =some (.map arr c)→(Instr.lookup t (.map (some b)) vk ok).run P w=.ok v w:=by
 unfold Qol at h;split at h
 ·exact h.elim
 ·rename_i ik hik;split at h
  ·exact h.elim
  ·rename_i hd;split at h
   ·exact h.elim
   ·rename_i ie hie;split at h
    ·exact h.elim
    ·rename_i kx hkx;split at h
     ·exact h.elim
     ·rename_i z hz;have hvk:=Qi0 (Qnc hd) (Qf.Qan hkx hkr);subst hvk;have hdk:P.underlying kt=some ik.desc:=(htab.get hik).und;have hzr:Qd M ρ ie.zero (va.raw z):=Qf.Qan (M:=M) (ρ:=ρ) hz (.pv (.lit _));cases hf:Y6 ka.eqv kx l 0 with
      |none=>
       refine⟨_,_,h,V0 (v:=ie.zero) (b:=Qa7 ka.eqv kx l) (ok:=ok) (by unfold Zz;rw[hf];exact hzr),fun w t b c hu hheap=>?_⟩;have hb:Qa7 ka.eqv kx l=false:=by unfold Qa7;rw[hf];rfl
       rw[hb];simp[Instr.lookup,run_underlying hu,run_getObj_map (P:=P) hheap,Qda hdk hd,(Qby hdk hd hr kx w).1 hf,Vy (htab.get hie)]
      |some q=>
       obtain⟨j,y⟩:=q;obtain⟨e,a1,a2,a3,a4,a5,_⟩:=(Qby hdk hd hr kx default).2 j y hf;refine⟨_,_,h,V0 (v:=e.val) (b:=Qa7 ka.eqv kx l) (ok:=ok) (by unfold Zz;rw[hf];exact a5),fun w t b c hu hheap=>?_⟩;have hb:Qa7 ka.eqv kx l=true:=by unfold Qa7;rw[hf];rfl
       rw[hb];obtain⟨e',b1,_,_,_,_,b6⟩:=(Qby hdk hd hr kx w).2 j y hf;rw[a1]at b1;cases b1;simp[Instr.lookup,run_underlying hu,run_getObj_map (P:=P) hheap,Qda hdk hd,b6]
theorem Zjf{P:Program}{tab:Qk}(htab:Qx P tab){M:Qc}{ρ:Env}{H:List Qa}{w:World}{K:Qn}(hm:Mem M ρ H w){t:Nat}{m k:SV}{vm vk:Value}{ok:Bool}(hmr:Qd M ρ vm m)(hkr:Qd M ρ vk k)
  (h:(Qf6 P tab H t m k ok).holds H K):Qq P (Instr.lookup t vm vk ok) M ρ H w K:=by
 unfold Qf6 at h;split at h
 ·rename_i s;split at h
  ·rename_i ka va l ho;split at h
   ·rename_i kt et _ _ _ _ hte;cases hmr with
    |mp _ p hp=>obtain⟨arr,hheap,hrep⟩:=X5.rep (hm.own s _ ho) hp;obtain⟨v,x,h1,h2,h3⟩:=Qvo htab hkr h hrep;exact Qq.same hm (h3 w t p.block _ (htab.get hte).und hheap) h2 h1
   ·exact h.elim
  ·rename_i es c ho;split at h
   ·rename_i kt et _ _ _ _ hte;split at h
    ·split at h
     ·cases hmr with
      |mp _ p hp=>obtain⟨arr,hheap,hrep⟩:=(hm.own s _ ho).Qca hp;obtain⟨v,x,h1,h2,h3⟩:=Qv7 htab hkr h hrep;exact Qq.same hm (h3 w t p.block _ (htab.get hte).und hheap) h2 h1
     ·exact Qoo htab hm hmr hkr h
    ·exact h.elim
   ·exact h.elim
  ·exact Qoo htab hm hmr hkr h
 ·exact Qoo htab hm hmr hkr h
theorem Qgf{P:Program}{M:Qc}{ρ:Env}{H:List Qa}{w:World}{s:Nat}{ka va:Qf}{l l':List (ka.El×va.El)}{p:Place}{arr arr':Array MapEntry}(hm:Mem M ρ H w)(ho:H[s]? =some (.tmap ka va l))(hp:ρ s=some p)
  (hheap:w.heap[p.block]? = some (.map arr l.length)) (hr:X8 M ρ arr' (Ys ka va 0 l')):Mem M ρ (H.set s (.tmap ka va l')) { w with heap := w.heap.setIfInBounds p.block (.map arr' l'.length) } ∧
   Fr M ρ H w M ρ (H.set s (.tmap ka va l')) {w with heap:=w.heap.setIfInBounds p.block (.map arr' l'.length)} H.length [s] []:=by
 have hlt:p.block<w.heap.size:=(Array.getElem?_eq_some_iff.1 hheap).1;exact hm.put ho rfl hp (fun b hb=>Qqm hb) (by simp) rfl ⟨p,arr',hp,by simp[hlt],hr.sz,hr.rep⟩
def Qkb(P:Program)(tab:Qk)(H:List Qa)(t:Nat)(m k x:SV):Qj:=
 match m with
 |.mp s=>match H[s]? with
  |some (.tmap ka va l)=>match tab.lookup t with
   |some {desc:=.map kt et,..}=>match tab.lookup kt with
    |none=>.fail
    |some ik=>match J6 ik.desc ka with
     |false=>.fail
     |true=>match ka.Uj k with
      |none=>.fail
      |some kx=>match va.Uj x with
       |none=>.fail
       |some y=>.eff .any (H.set s (.tmap ka va (Yy ka.eqv kx y l))) [s] []
   |_=>.fail
  |_=>Qlz P tab H t m k x
 |_=>Qlz P tab H t m k x
theorem Qyp{P:Program}{tab:Qk}(htab:Qx P tab){M:Qc}{ρ:Env}{H:List Qa}{w:World}{K:Qn}(hm:Mem M ρ H w){t:Nat}{m k x:SV}{vm vk v:Value}(hmr:Qd M ρ vm m)(hkr:Qd M ρ vk k)(hx:Qd M ρ v x)
  (h:(Qkb P tab H t m k x).holds H K):K8 P (Instr.mapUpdate t vm vk v) M ρ H w K:=by
 unfold Qkb at h;split at h
 ·rename_i s;split at h
  ·rename_i ka va l ho;split at h
   ·rename_i kt et _ _ _ _ hte;have hu:P.underlying t=some (.map kt et):=(htab.get hte).und;split at h
    ·exact h.elim
    ·rename_i ik hik;split at h
     ·exact h.elim
     ·rename_i hd;split at h
      ·exact h.elim
      ·rename_i kx hkx;split at h
       ·exact h.elim
       ·rename_i y hy;have hvk:=Qi0 (Qnc hd) (Qf.Qan hkx hkr);subst hvk;have hdk:P.underlying kt=some ik.desc:=(htab.get hik).und;have hyr:=Qf.Qan hy hx;cases hmr with
        |mp _ p hp=>
         obtain⟨arr,hheap,hrep⟩:=X5.rep (hm.own s _ ho) hp;have hget:=run_getObj_map (P:=P) hheap;cases hf:Y6 ka.eqv kx l 0 with
         |none=>
          have hl':Yy ka.eqv kx y l=l++[(kx,y)]:=by unfold Yy;rw[hf]
          rw[hl']at h;obtain⟨g1,g2⟩:=Qgf (P:=P) hm ho hp hheap (l':=l++[(kx,y)]) (arr':=arr.push {key:=ka.Yd kx,val:=v,born:=l.length}) (by have:=hrep.push (k:=ka.Yd kx) (c:=l.length) hyr;rw[Quq];simpa using this);refine⟨_,?_,.any,_,[s],[],M,ρ,h,rfl,g1,g2⟩;simp[Instr.mapUpdate,run_underlying hu,hget,Qda hdk hd,(Qby hdk hd hrep kx w).1 hf,Kj hheap]
         |some q=>
          obtain⟨j,y0⟩:=q;obtain⟨e,a1,a2,a3,a4,a5,a6⟩:=(Qby hdk hd hrep kx w).2 j y0 hf;have hl':Yy ka.eqv kx y l=l.set j (kx,y):=by unfold Yy;rw[hf]
          rw[hl']at h;obtain⟨g1,g2⟩:=Qgf (P:=P) hm ho hp hheap (l':=l.set j (kx,y)) (arr':=arr.modify j fun e=>{e with key:=ka.Yd kx,val:=v}) (by have:=hrep.set (k:=ka.Yd kx) a1 hyr a4 (fun e=>{e with key:=ka.Yd kx,val:=v}) rfl;rw[Qmz];simpa using this);refine⟨_,?_,.any,_,[s],[],M,ρ,h,rfl,g1,g2⟩;have hks:(Instr.keyThatStays (((arr[j]?).map (·.key)).getD (ka.Yd kx)) (ka.Yd kx)).run P w=.ok (ka.Yd kx) w:=by rw[a1];simp only[Option.map_some,Option.getD_some,a3];simp[Instr.keyThatStays,Qvl hd]
          simp[Instr.mapUpdate,run_underlying hu,hget,Qda hdk hd,a6,hks,Kj hheap]
   ·exact h.elim
  ·exact Qtn htab hm hmr hkr hx h
 ·exact Qtn htab hm hmr hkr hx h
def Qer{K V:Type}(eq:K→K→Bool)(k:K)(l:List (K×V))(z:V):List (K×V):=match Y6 eq k l 0 with
 |some p=>l.set p.1 (k,p.2)
 |none=>l++[(k,z)]
def Qqz(P:Program)(tab:Qk)(H:List Qa)(t:Nat)(m k:SV):Qj:=
 match m with
 |.mp s=>match H[s]? with
  |some (.tmap ka va l)=>match tab.lookup t with
   |some {desc:=.map kt et,..}=>match tab.lookup kt with
    |none=>.fail
    |some ik=>match J6 ik.desc ka with
     |false=>.fail
     |true=>match tab.lookup et with
      |none=>.fail
      |some ie=>match ka.Uj k with
       |none=>.fail
       |some kx=>match va.ofZ ie.zero with
        |none=>.fail
        |some z=>.eff (.tup [va.raw (Zz ka.eqv kx l z),.lit (.int .i64 (Qfg ka.eqv kx l))]) (H.set s (.tmap ka va (Qer ka.eqv kx l z))) [s] []
   |_=>.fail
  |_=>Qig P tab H t m k
 |_=>Qig P tab H t m k
theorem Zpn{P:Program}{tab:Qk}(htab:Qx P tab){M:Qc}{ρ:Env}{H:List Qa}{w:World}{K:Qn}(hm:Mem M ρ H w){t:Nat}{m k:SV}{vm vk:Value}(hmr:Qd M ρ vm m)(hkr:Qd M ρ vk k)
  (h:(Qqz P tab H t m k).holds H K):Qq P (Instr.mapEntry t vm vk) M ρ H w K:=by
 unfold Qqz at h;split at h
 ·rename_i s;split at h
  ·rename_i ka va l ho;split at h
   ·rename_i kt et _ _ _ _ hte;have hu:P.underlying t=some (.map kt et):=(htab.get hte).und;split at h
    ·exact h.elim
    ·rename_i ik hik;split at h
     ·exact h.elim
     ·rename_i hd;split at h
      ·exact h.elim
      ·rename_i ie hie;split at h
       ·exact h.elim
       ·rename_i kx hkx;split at h
        ·exact h.elim
        ·rename_i z hz;have hvk:=Qi0 (Qnc hd) (Qf.Qan hkx hkr);subst hvk;have hdk:P.underlying kt=some ik.desc:=(htab.get hik).und;have hzr:Qd M ρ ie.zero (va.raw z):=Qf.Qan (M:=M) (ρ:=ρ) hz (.pv (.lit _));cases hmr with
         |mp _ p hp=>
          obtain⟨arr,hheap,hrep⟩:=X5.rep (hm.own s _ ho) hp;have hget:=run_getObj_map (P:=P) hheap;cases hf:Y6 ka.eqv kx l 0 with
          |none=>
           have e1:Qer ka.eqv kx l z=l++[(kx,z)]:=by unfold Qer;rw[hf]
           have e2:Zz ka.eqv kx l z=z:=by unfold Zz;rw[hf]
           have e3:Qfg ka.eqv kx l=l.length:=by unfold Qfg;rw[hf]
           rw[e1,e2,e3]at h;obtain⟨g1,g2⟩:=Qgf (P:=P) hm ho hp hheap (l':=l++[(kx,z)]) (arr':=arr.push {key:=ka.Yd kx,val:=ie.zero,born:=l.length}) (by have:=hrep.push (k:=ka.Yd kx) (c:=l.length) hzr;rw[Quq];simpa using this);refine⟨.tuple #[ie.zero,goInt l.length],_,?_,_,_,[s],[],M,ρ,h,Qlq hzr (.pv (.lit _)),g1,g2⟩;simp[Instr.mapEntry,run_underlying hu,hget,Qda hdk hd,(Qby hdk hd hrep kx w).1 hf,Kj hheap,Vy (htab.get hie)]
          |some q=>
           obtain⟨j,y0⟩:=q;obtain⟨e,a1,a2,a3,a4,a5,a6⟩:=(Qby hdk hd hrep kx w).2 j y0 hf;have e1:Qer ka.eqv kx l z=l.set j (kx,y0):=by unfold Qer;rw[hf]
           have e2:Zz ka.eqv kx l z=y0:=by unfold Zz;rw[hf]
           have e3:Qfg ka.eqv kx l=j:=by unfold Qfg;rw[hf]
           rw[e1,e2,e3]at h;obtain⟨g1,g2⟩:=Qgf (P:=P) hm ho hp hheap (l':=l.set j (kx,y0)) (arr':=arr.modify j fun e=>{e with key:=ka.Yd kx}) (by have:=hrep.set (k:=ka.Yd kx) a1 a5 a4 (fun e=>{e with key:=ka.Yd kx}) rfl;rw[Qmz];simpa using this);refine⟨.tuple #[e.val,goInt e.born],_,?_,_,_,[s],[],M,ρ,h,?_,g1,g2⟩
           ·have hks:(Instr.keyThatStays e.key (ka.Yd kx)).run P w=.ok (ka.Yd kx) w:=by rw[a3];simp[Instr.keyThatStays,Qvl hd]
            simp[Instr.mapEntry,run_underlying hu,hget,Qda hdk hd,a6,hks,Kj hheap,a1]
           ·rw[a4];exact Qlq a5 (.pv (.lit _))
   ·exact h.elim
  ·exact Zax htab hm hmr hkr h
 ·exact Zax htab hm hmr hkr h
def Qpm{K V:Type}(j:Nat)(x:V)(l:List (K×V)):List (K×V):=match l[j]? with
 |some e=>l.set j (e.1,x)
 |none=>l
def Qm7(H:List Qa)(m st x:SV):Qj:=
 match m with
 |.mp s=>match H[s]? with
  |some (.tmap ka va l)=>match st with
   |.pv (.lit (.int _ n))=>match va.Uj x with
    |none=>.fail
    |some y=>.need (decide (0≤n)) (.need (decide (n.toNat<l.length)) (.eff .any (H.set s (.tmap ka va (Qpm n.toNat y l))) [s] []))
   |_=>.fail
  |_=>Qmh H m st x
 |_=>Qmh H m st x
theorem Zeq{P:Program}{M:Qc}{ρ:Env}{H:List Qa}{w:World}{K:Qn}(hm:Mem M ρ H w){t:Nat}{m st x:SV}{vm vs v:Value}(hmr:Qd M ρ vm m)(hst:Qd M ρ vs st)(hx:Qd M ρ v x)
  (h:(Qm7 H m st x).holds H K):K8 P (Instr.entryStore t vm vs v) M ρ H w K:=by
 unfold Qm7 at h;split at h
 ·rename_i s;split at h
  ·rename_i ka va l ho;split at h
   ·rename_i k n;have:=hst.Q7;subst this;split at h
    ·exact h.elim
    ·rename_i y hy;obtain⟨h0,h1,h⟩:=h;have h0:=of_decide_eq_true h0;have h1:=of_decide_eq_true h1;have hyr:=Qf.Qan hy hx;obtain⟨j,rfl⟩:∃j:Nat,n=j:=⟨n.toNat,by omega⟩;simp only[Int.toNat_natCast]at h h1;cases hmr with
     |mp _ p hp=>
      obtain⟨arr,hheap,hrep⟩:=X5.rep (hm.own s _ ho) hp;have hsz:=hrep.sz;rw[Qds]at hsz;have hgete:∀(i:Nat) (hi:i<l.length),∃e,arr[i]? =some e∧e.key=ka.Yd l[i].1∧e.born=i∧Qd M ρ e.val (va.raw l[i].2):=fun i hi=>by obtain⟨e,a1,a2,a3,a4⟩:=hrep.rep i (ka.Yd l[i].1) (va.raw l[i].2) i (by rw[Kq,List.getElem?_eq_getElem hi];simp);exact⟨e,a1,a2,a3,a4⟩
      obtain⟨e,a1,a2,a3,a4⟩:=hgete j h1;have hidx:arr.findIdx? (fun e=>(e.born:Int)==(j:Int))=some j:=by
       rw[Array.findIdx?_eq_some_iff_getElem];refine⟨by omega,?_,fun i hi=>?_⟩
       ·rw[Array.getElem?_eq_getElem (by omega)]at a1;simp only[Option.some.injEq]at a1;rw[a1,a3];simp
       ·obtain⟨e',b1,_,b3,_⟩:=hgete i (by omega);rw[Array.getElem?_eq_getElem (by omega)]at b1;simp only[Option.some.injEq]at b1;rw[b1,b3];simp;omega
      have el:Qpm j y l=l.set j (l[j].1,y):=by unfold Qpm;rw[List.getElem?_eq_getElem h1]
      rw[el]at h;obtain⟨g1,g2⟩:=Qgf (P:=P) hm ho hp hheap (l':=l.set j (l[j].1,y)) (arr':=arr.modify j fun e=>{e with val:=v}) (by have:=hrep.set (k:=ka.Yd l[j].1) a1 hyr a3 (fun e=>{e with val:=v}) (by rw[←a2]);rw[Qmz];simpa using this);refine⟨_,?_,.any,_,[s],[],M,ρ,h,rfl,g1,g2⟩;simp[Instr.entryStore,run_getObj_map (P:=P) hheap,asInt,asIntOf,hidx,Kj hheap]
   ·exact h.elim
  ·exact Qvw hm hmr hst hx h
 ·exact Qvw hm hmr hst hx h
def Qa.Qmq:Qa→Option (List (Value×SV×Nat)×Nat)
 |.map es c=>some (es,c)
 |.tmap k v l=>some (Ys k v 0 l,l.length)
 |_=>none
theorem Qne{M:Qc}{ρ:Env}{w:World}{s:Nat}{o:Qa}{q:List (Value×SV×Nat)×Nat}(h:o.Qmq=some q)(ho:Qt M ρ w s o):X5 M ρ w s q.1 q.2:=by cases o<;>first|(cases h;done)|(cases h;exact ho)
def Qnf(tab:Qk)(H:List Qa)(t:Nat)(x:SV):Qj:=
 match tab.lookup t,x with
 |some {desc:=.string,..},.pv (.lit (.string s))=>.eff (.ptr H.length 0 0 0) (H++[.iter s 0]) [] []
 |some {desc:=.map _ _,..},.mp m=>match H[m]? with
  |some o=>match o.Qmq with
   |some q=>.eff (.ptr H.length 0 0 0) (H++[.mit (some m) q.2 []]) [] []
   |none=>.fail
  |none=>.fail
 |_,_=>.fail
theorem Zrd{P:Program}{tab:Qk}(htab:Qx P tab){M:Qc}{ρ:Env}{H:List Qa}{w:World}{K:Qn}(hm:Mem M ρ H w){t:Nat}{x:SV}{v:Value}(hx:Qd M ρ v x)(h:(Qnf tab H t x).holds H K):Qq P (Instr.range t v) M ρ H w K:=by
 unfold Qnf at h;split at h
 ·rename_i sz' by' zr rw' s hte;have hu:P.underlying t=some .string:=(htab.get hte).und;have:=hx.Q7;subst this;have hrun:(Instr.range t (.string s)).run P w=.ok (.pointer (some ⟨w.heap.size,0,none⟩)) (w.alloc (.stringIter s 0)):=by simp[Instr.range,run_underlying hu]
  obtain⟨g1,g2⟩:=hm.alloc (w':=w.alloc (.stringIter s 0)) (o:=.stringIter s 0) (so:=.iter s 0) (cap:=0) rfl ⟨_,Env.Zx ..,heap_alloc_new w _⟩;exact⟨_,_,hrun,_,_,[],[],M,_,h,.ptr _ _ _ _ _ _ (Env.Zx ..) (by simp),g1,g2⟩
 ·rename_i k e sz' by' zr rw' m hte;have hu:P.underlying t=some (.map k e):=(htab.get hte).und;split at h
  ·rename_i o ho;split at h
   ·rename_i q hq;obtain⟨es,c⟩:=q;obtain⟨pm,arr,h1,h2,h3,h4⟩:=Qne hq (hm.own m _ ho);simp only at h2 h;cases hx with
    |mp _ p hp=>
     rw[hp]at h1;cases h1;have hget:(getObj pm.block).run P w=.ok (.map arr c) w:=by simp[getObj,Sem.run,h2]
     have hrun:(Instr.range t (.map (some pm.block))).run P w=.ok (.pointer (some ⟨w.heap.size,0,none⟩)) (w.alloc (.mapIter (some pm.block) c #[] c)):=by simp[Instr.range,run_underlying hu,hget]
     have hne:m≠H.length:=fun e=>by have:=(List.getElem?_eq_some_iff.1 ho).1;omega
     obtain⟨g1,g2⟩:=hm.alloc (w':=w.alloc (.mapIter (some pm.block) c #[] c)) (o:=.mapIter (some pm.block) c #[] c) (so:=.mit (some m) c []) (cap:=0) rfl
       ⟨_,_,_,Env.Zx ..,heap_alloc_new w _,rfl,fun mm e=>by cases e;exact⟨pm,by rw[Env.Yj _ _ hne];exact hp,rfl⟩⟩
     exact⟨_,_,hrun,_,_,[],[],M,_,h,.ptr _ _ _ _ _ _ (Env.Zx ..) (by simp),g1,g2⟩
   ·exact h.elim
  ·exact h.elim
 ·exact h.elim
def Qrh(H:List Qa)(x:SV):Qj:=
 match x with
 |.ptr s 0 0 0=>match H[s]? with
  | some (.iter b pos)=>.split (decide (pos < b.size))
    (.eff (.tup [.lit (.bool true),.lit (.int .i64 pos),.lit (.int .i32 (Utf8.decode b pos).1)]) (H.set s (.iter b (pos+(Utf8.decode b pos).2))) [s] [])
    (.ok (.tup [.lit (.bool false)]))
  |_=>.fail
 |_=>.fail
theorem Zl0{P:Program}{M:Qc}{ρ:Env}{H:List Qa}{w:World}{K:Qn}(hm:Mem M ρ H w){t:Nat}{x:SV}{v:Value}(hx:Qd M ρ v x)(h:(Qrh H x).holds H K):Qq P (Instr.next v true t) M ρ H w K:=by
 unfold Qrh at h;split at h
 ·rename_i s;split at h
  ·rename_i b pos ho;cases hx with
   |ptr _ _ _ _ k p hp hk=>
    obtain⟨q,h1,h2⟩:=hm.own s _ ho;rw[hp]at h1;cases h1;have hk0:k=0:=by simpa using hk
    subst hk0;have hget:(getObj p.block).run P w=.ok (.stringIter b pos) w:=by simp[getObj,Sem.run,h2]
    have hset:∀o,(setObj p.block o).run P w=.ok () {w with heap:=w.heap.setIfInBounds p.block o}:=fun o=>by simp[setObj,Sem.run,h2]
    have hlt:p.block<w.heap.size:=(Array.getElem?_eq_some_iff.1 h2).1;obtain⟨ht,hf⟩:=h;by_cases hpos:pos<b.size
    ·have h':=ht (by simpa using hpos);obtain⟨g1,g2⟩:=hm.put (so:=.iter b (pos+(Utf8.decode b pos).2)) (w':={w with heap:=w.heap.setIfInBounds p.block (.stringIter b (pos+(Utf8.decode b pos).2))}) ho rfl hp (fun b' hb=>Qqm hb) (by simp) rfl
      ⟨p,hp,by simp[hlt]⟩
     refine⟨.tuple #[.bool true,goInt pos,.int .i32 (Utf8.decode b pos).1],_,?_,_,_,[s],[],M,ρ,h',?_,g1,g2⟩
     ·simp[Instr.next,hget,hpos,hset]
     ·refine .tup _ _ rfl fun i a c ha hc=>?_;match i with
      |0=>simp at ha hc;subst ha;subst hc;exact .pv (.lit _)
      |1=>simp at ha hc;subst ha;subst hc;exact .pv (.lit _)
      |2=>simp at ha hc;subst ha;subst hc;exact .pv (.lit _)
      |i+3=>simp at hc
    ·have h':=hf (by simpa using hpos);refine Qq.same hm (v:=.tuple #[.bool false]) ?_ ?_ h'
     ·simp[Instr.next,hget,hpos]
     ·refine .tup _ _ rfl fun i a c ha hc=>?_;match i with
      |0=>simp at ha hc;subst ha;subst hc;exact .pv (.lit _)
      |i+1=>simp at hc
  ·exact h.elim
 ·exact h.elim
def Qlx(s m c:Nat)(seen:List Nat)(H:List Qa):List (Value×SV×Nat)→Qj
 |[]=>.ok (.tup [.lit (.bool false)])
 |[e]=>.eff (.tup [.lit (.bool true),.lit e.1,e.2.1]) (H.set s (.mit (some m) c (seen++[e.2.2]))) [s] []
 |e::e'::es=>.both (.eff (.tup [.lit (.bool true),.lit e.1,e.2.1]) (H.set s (.mit (some m) c (seen++[e.2.2]))) [s] []) (Qlx s m c seen H (e'::es))
def Qn9(H:List Qa)(x:SV):Qj:=
 match x with
 |.ptr s 0 0 0=>match H[s]? with
  |some (.mit (some m) c seen)=>match H[m]? with
   |some o=>match o.Qmq with
    |some q=>.need (Nat.beq q.2 c&&q.1.all fun e=>Nat.blt e.2.2 c) (Qlx s m c seen H (q.1.filter fun e=>!seen.contains e.2.2))
    |none=>.fail
   |none=>.fail
  |_=>.fail
 |_=>.fail
theorem Zfn{s m c:Nat}{seen:List Nat}{H:List Qa}{K:Qn}{l:List (Value×SV×Nat)}(h:(Qlx s m c seen H l).holds H K)(hl:l=[]):K (.tup [.lit (.bool false)]) H [] []:=by subst hl;exact h
theorem Qs3{s m c:Nat}{seen:List Nat}{H:List Qa}{K:Qn}:∀{l:List (Value×SV×Nat)},(Qlx s m c seen H l).holds H K→∀e∈l,K (.tup [.lit (.bool true),.lit e.1,e.2.1]) (H.set s (.mit (some m) c (seen++[e.2.2]))) [s] []
 |[],h,e,he=>by cases he
 |[e0],h,e,he=>by rw[List.mem_singleton.1 he];exact h
 |e0::e1::l,h,e,he=>by
  rcases List.mem_cons.1 he with rfl|he
  ·exact h.1
  ·exact Qs3 (l:=e1::l) h.2 e he
theorem Zu8{P:Program}{M:Qc}{ρ:Env}{H:List Qa}{w:World}{K:Qn}(hm:Mem M ρ H w){t:Nat}{x:SV}{v:Value}(hx:Qd M ρ v x)(h:(Qn9 H x).holds H K):Qq P (Instr.next v false t) M ρ H w K:=by
 unfold Qn9 at h;split at h
 ·rename_i s;split at h
  ·rename_i m c seen ho;split at h
   rotate_left
   ·exact h.elim
   rename_i om hom0;split at h
   ·rename_i qm hqm;obtain⟨es,c'⟩:=qm;have hom:=Qne hqm (hm.own m _ hom0);obtain⟨hc,h⟩:=h;rw[Bool.and_eq_true]at hc;simp only at hc h hom;have hcc:=Nat.eq_of_beq_eq_true hc.1;subst hcc;have hbn:∀e∈es,e.2.2<c':=fun e he=>by have:=List.all_eq_true.1 hc.2 e he;rwa[Nat.blt_eq]at this
    cases hx with
    |ptr _ _ _ _ k p hp hk=>
     obtain⟨p',q,sn,h1,h2,h3,h4⟩:=hm.own s _ ho;rw[hp]at h1;cases h1;obtain⟨pm,a1,a2⟩:=h4 m rfl;subst a2;obtain⟨pm',arr,b1,b2,b3,b4⟩:=hom;rw[a1]at b1;cases b1;have hk0:k=0:=by simpa using hk
     subst hk0;have hent:∀(i:Nat) (me:MapEntry),arr[i]? =some me→∃e,es[i]? =some e∧me.key=e.1∧me.born=e.2.2∧Qd M ρ me.val e.2.1:=fun i me hme=>by
      have hi:i<es.length:=by rw[←b3];exact(Array.getElem?_eq_some_iff.1 hme).1
      obtain⟨e,d1,d2,d3,d4⟩:=b4 i _ _ _ (List.getElem?_eq_getElem hi);rw[hme]at d1;cases d1;exact⟨_,List.getElem?_eq_getElem hi,d2,d3,d4⟩
     have hold:∀me∈arr.toList,me.born<c':=fun me hme=>by obtain⟨i,hi⟩:=List.getElem?_of_mem hme;obtain⟨e,d1,_,d3,_⟩:=hent i me (by simpa using hi);rw[d3];exact hbn e (List.mem_of_getElem? d1)
     have hleft:∀me,me∈(leftOf arr sn).toList↔me∈arr.toList∧¬me.born∈seen:=fun me=>by unfold leftOf;simp[←h3]
     rcases run_next_at (P:=P) w t p.block pm.block c' c' sn arr c' h2 b2 hold (Nat.le_refl _)with⟨hz,hr⟩|⟨me,hme,w1,hw1,hr⟩
     ·have hnil:(es.filter fun e=>!seen.contains e.2.2)=[]:=by
       rw[List.filter_eq_nil_iff];intro e he;obtain⟨i,hi⟩:=List.getElem?_of_mem he;obtain⟨me,d1,d2,d3,d4⟩:=b4 i e.1 e.2.1 e.2.2 hi;intro hn;have hmem:me∈(leftOf arr sn).toList:=(hleft me).2 ⟨by simpa using Array.mem_of_getElem? d1,by rw[d3];simpa using hn⟩;have:(leftOf arr sn).toList=[]:=by simpa using hz
       rw[this]at hmem;cases hmem
      have hk:=Zfn h hnil;refine Qq.same hm hr ?_ hk;refine .tup _ _ rfl fun i a c ha hc=>?_;match i with
      |0=>simp at ha hc;subst ha;subst hc;exact .pv (.lit _)
      |i+1=>simp at hc
     ·obtain⟨m1,m2⟩:=(hleft me).1 hme;obtain⟨i,hi⟩:=List.getElem?_of_mem m1;obtain⟨e,d1,d2,d3,d4⟩:=hent i me (by simpa using hi);have hein:e∈es.filter fun e=>!seen.contains e.2.2:=List.mem_filter.2 ⟨List.mem_of_getElem? d1,by rw[←d3];simpa using m2⟩;have hk:=Qs3 h e hein;have hlt:p.block<w.heap.size:=(Array.getElem?_eq_some_iff.1 h2).1;have hh1:w1.heap=w.heap∧w1.os=w.os∧w1.output=w.output:=by rcases hw1 with rfl|rfl<;>exact⟨rfl,rfl,rfl⟩
      obtain⟨g1,g2⟩:=hm.put (so:=.mit (some m) c' (seen++[e.2.2])) (w':=ChangeMaps.setBlock w1 p.block (.mapIter (some pm.block) c' (sn.push me.born) c')) ho rfl hp
       (fun b' hb=>by show(w1.heap.setIfInBounds p.block _)[b']? =_;rw[hh1.1,Array.getElem?_setIfInBounds,if_neg fun e=>hb e.symm])
       (by show(w1.heap.setIfInBounds p.block _).size=_;rw[hh1.1];simp) rfl
       ⟨p,some pm.block,sn.push me.born,hp,by show(w1.heap.setIfInBounds p.block _)[p.block]? =_;rw[hh1.1];simp[hlt],by simp[h3,d3],fun mm e=>by cases e;exact⟨pm,a1,rfl⟩⟩
       ⟨hh1.2.1,hh1.2.2⟩
      refine⟨_,_,hr,_,_,[s],[],M,ρ,hk,?_,g1,g2⟩;refine .tup _ _ rfl fun i a c ha hc=>?_;match i with
      |0=>simp at ha hc;subst ha;subst hc;exact .pv (.lit _)
      |1=>simp at ha hc;subst ha;subst hc;rw[d2];exact .pv (.lit _)
      |2=>simp at ha hc;subst ha;subst hc;exact d4
      |i+3=>simp at hc
   ·exact h.elim
  ·exact h.elim
 ·exact h.elim
def Qmw(H:List Qa)(x:SV):Qj:=
 match x with
 |.ptr s 0 0 0=>match H[s]? with
  |some (.mit (some m) c seen)=>match H[m]? with
   |some o=>match o.Qmq with
    |some q=>match seen.getLast? with
     |some st=>match q.1.find? fun e=>Nat.beq e.2.2 st with
      |some e=>.need (Nat.beq q.2 c) (.ok (.tup [.lit e.1,e.2.1]))
      |none=>.fail
     |none=>.fail
    |none=>.fail
   |none=>.fail
  |_=>.fail
 |_=>.fail
theorem Zyw{P:Program}{M:Qc}{ρ:Env}{H:List Qa}{w:World}{K:Qn}(hm:Mem M ρ H w){x:SV}{v:Value}(hx:Qd M ρ v x)(h:(Qmw H x).holds H K):Qq P (Instr.entry v) M ρ H w K:=by
 unfold Qmw at h;split at h
 rotate_left
 ·exact h.elim
 rename_i s;split at h
 rotate_left
 ·exact h.elim
 rename_i m c seen ho;split at h
 rotate_left
 ·exact h.elim
 rename_i om hom0;split at h
 rotate_left
 ·exact h.elim
 rename_i qm hqm;obtain⟨es,c'⟩:=qm;have hom:=Qne hqm (hm.own m _ hom0);split at h
 rotate_left
 ·exact h.elim
 rename_i st hst;split at h
 rotate_left
 ·exact h.elim
 rename_i e he;obtain⟨hc,h⟩:=h;simp only at hc h hom he;have hcc:=Nat.eq_of_beq_eq_true hc;subst hcc;cases hx with
 |ptr _ _ _ _ k p hp hk=>
  obtain⟨p',q,sn,h1,h2,h3,h4⟩:=hm.own s _ ho;rw[hp]at h1;cases h1;obtain⟨pm,a1,a2⟩:=h4 m rfl;subst a2;obtain⟨pm',arr,b1,b2,b3,b4⟩:=hom;rw[a1]at b1;cases b1;have hk0:k=0:=by simpa using hk
  subst hk0;obtain⟨hp1,i,hi,hei,hmin⟩:=List.find?_eq_some_iff_getElem.1 he;obtain⟨me,d1,d2,d3,d4⟩:=b4 i e.1 e.2.1 e.2.2 (by rw[List.getElem?_eq_getElem hi,hei]);have hst':e.2.2=st:=Nat.eq_of_beq_eq_true hp1;have hf:arr.find? (fun x=>x.born==st)=some me:=by
   rw[←Array.find?_toList];obtain⟨hia,hme⟩:=Array.getElem?_eq_some_iff.1 d1;refine List.find?_eq_some_iff_getElem.2 ⟨by rw[d3,hst'];simp,i,by simpa using hia,by simpa using hme,fun j hj=>?_⟩;have hj':j<es.length:=by omega
   obtain⟨mj,e1,e2,e3,e4⟩:=b4 j _ _ _ (List.getElem?_eq_getElem hj');have hja:j<arr.size:=by omega
   have e1':arr[j]=mj:=by rw[Array.getElem?_eq_getElem hja]at e1;exact Option.some.inj e1
   have hne:=hmin j hj;simp only[Array.getElem_toList,e1',e3];cases hb:Nat.beq (es[j]).2.2 st with
   |true=>rw[hb]at hne;simp at hne
   |false=>
    have:(es[j]).2.2≠st:=fun hh=>by rw[hh,Nat.beq_refl]at hb;cases hb
    simp[this]
  have hback:sn.back? =some st:=by rw[←h3]at hst;rw[←Array.getLast?_toList];exact hst
  refine Qq.same hm (v:=.tuple #[me.key,me.val]) ?_ ?_ h
  ·simp only[Instr.entry,getObj,Sem.run_bind,Sem.run,h2,b2,Result.andThen,hback,bne_self_eq_false,Bool.false_eq_true,if_false,hf];rfl
  ·refine .tup _ _ rfl fun i a b ha hb=>?_;match i with
   |0=>simp at ha hb;subst ha;subst hb;rw[d2];exact .pv (.lit _)
   |1=>simp at ha hb;subst ha;subst hb;exact d4
   |i+2=>simp at hb
def SV.unslb:SV→SV
 |.slb s sz st n _=>.sl s sz st n
 |x=>x
theorem Qd.unslb{M:Qc}{ρ:Env}{v:Value}{x:SV}(h:Qd M ρ v x):Qd M ρ v x.unslb:=by
 cases h with
 |slb s sz st n m h hm=>exact h
 |any v=>exact .any v
 |pv h=>exact .pv h
 |agg cs l hl h=>exact .agg cs l hl h
 |tup cs l hl h=>exact .tup cs l hl h
 |ptr s sz i j k p hp hk=>exact .ptr s sz i j k p hp hk
 |sl s sz st n c k p hp hk hc hn h6=>exact .sl s sz st n c k p hp hk hc hn h6
 |slz s sz st a=>exact .slz s sz st a
 |mp s p hp=>exact .mp s p hp
 |yld s p hp=>exact .yld s p hp
 |fn f a b x y ha hb h k=>exact .fn f a b x y ha hb h k
def Qb1{α:Type}(l:List α)(n st m:Nat):List α:=l.take n++(l.drop st).take m++l.drop (n+m)
def Qa.Qhs(o:Qa)(n st m:Nat):Option Qa:=match o with
 |.vec ty sz rows=>some (.vec ty sz (Qb1 rows n st m))
 |.tvec ty row l=>some (.tvec ty row (Qb1 l n st m))
 |.mix ty sz rows=>some (.mix ty sz (Qb1 rows n st m))
 |_=>none
theorem Qqp{α:Type}{l:List α}{n st m:Nat}(h1:n+m≤l.length)(h2:st+m≤l.length):(Qb1 l n st m).length=l.length:=by simp[Qb1];omega
theorem Qo7{α:Type}{l:List α}{n st m i:Nat}(h1:n+m≤l.length)(h2:st+m≤l.length):(Qb1 l n st m)[i]? =if n≤i∧i<n+m then l[st+(i-n)]? else l[i]? :=by
 unfold Qb1;by_cases a:i<n
 ·rw[if_neg (by omega),List.append_assoc,List.getElem?_append_left (by simp;omega),List.getElem?_take,if_pos a]
 ·by_cases b:i<n+m
  ·rw[if_pos ⟨by omega,b⟩,List.append_assoc,List.getElem?_append_right (by simp;omega),List.getElem?_append_left (by simp;omega)];simp only[List.length_take,List.getElem?_take,List.getElem?_drop];rw[show min n l.length=n by omega,if_pos (by omega)]
  ·rw[if_neg (by omega),List.getElem?_append_right (by simp;omega)];simp only[List.length_append,List.length_take,List.length_drop,List.getElem?_drop];congr 1;omega
theorem Zt6{o o':Qa}{sz n st m:Nat}(hz:o.Qs =some sz)(h1:n+m≤o.len)(h2:st+m≤o.len)(h:o.Qhs n st m=some o'):
  o'.Qs =some sz∧o'.len=o.len∧o'.ty=o.ty∧(∀ty row l r c x,o'≠.tlnk ty row l r c x)∧∀i,i<o.len→o'.row i=if n≤i∧i<n+m then o.row (st+(i-n))else o.row i:=by
 cases o with
 |vec ty sz' rows=>simp only[Qa.Qhs,Option.some.injEq]at h;subst h;refine⟨hz,Qqp h1 h2,rfl,fun _ _ _ _ _ _ e=>(by cases e),fun i hi=>?_⟩;simp only[Qa.row,List.getD,Qo7 (l:=rows) h1 h2];split<;>rfl
 |tvec ty row l=>simp only[Qa.Qhs,Option.some.injEq]at h;subst h;refine⟨hz,Qqp h1 h2,rfl,fun _ _ _ _ _ _ e=>(by cases e),fun i hi=>?_⟩;simp only[Qa.row,List.getD,Qo7 (l:=l) h1 h2];split<;>rfl
 |mix ty sz' rows=>simp only[Qa.Qhs,Option.some.injEq]at h;subst h;refine⟨hz,Qqp h1 h2,rfl,fun _ _ _ _ _ _ e=>(by cases e),fun i hi=>?_⟩;simp only[Qa.row,List.getD,Qo7 (l:=rows) h1 h2];split<;>rfl
 |_=>cases h
def Qou(tab:Qk)(H:List Qa)(t t':Nat)(a x:SV):Qj:=match a,x.unslb with
 |.slb d sz st n m,.sl d2 sz2 st2 n2=>match tab.lookup t with
  |some {desc:=.slice e,..}=>match tab.lookup e with
   |none=>.fail
   |some i=>match Nat.beq t' t&&(Nat.blt 0 i.size&&(Nat.beq sz i.size&&(Nat.beq sz2 i.size&&(Nat.beq st 0&&Nat.beq d2 d))))with
    |false=>.fail
    | true=>.split (decide (n2 = 0)) (.ok (.slb d sz 0 n m)) <| match H[d]? with
      |none=>.fail
      |some o=>match o.Qhs n st2 n2 with
       |none=>.fail
       | some o'=>.need (decide (o.Qs = some i.size)) <| .need (decide (o.ty = e)) <| .need (decide (n + n2 ≤ m)) <| .need (decide (n + n2 ≤ o.len)) <| .need (decide (st2 + n2 ≤ o.len)) <|
         .eff (.slb d sz 0 (n+n2) m) (H.set d o') [d] []
  |_=>.fail
 |_,_=>.fail
theorem Zjj{P:Program}{tab:Qk}(htab:Qx P tab){M:Qc}{ρ:Env}{H:List Qa}{w:World}{K:Qn}(hm:Mem M ρ H w){t t' ty:Nat}{a x:SV}{v u:Value}(ha:Qd M ρ v a)(hx:Qd M ρ u x)
  (h:(Qou tab H t t' a x).holds H K):Qq P (Builtin.append_ #[t,t'] ty #[v,u]) M ρ H w K:=by
 have hx:=hx.unslb;unfold Qou at h;split at h
 ·rename_i d sz st n m d2 sz2 st2 n2 ex;rw[ex]at hx;split at h
  ·rename_i e _ _ _ _ hte;have htt:=htab.get hte;split at h
   ·exact h.elim
   ·rename_i i hi;have ht:=htab.get hi;split at h
    ·exact h.elim
    ·rename_i hc;simp only[Bool.and_eq_true]at hc;have e1:=Nat.eq_of_beq_eq_true hc.1;have e2:=(by have:=hc.2.1;rw[Nat.blt_eq]at this;exact this:0<i.size);have e3:=Nat.eq_of_beq_eq_true hc.2.2.1;have e4:=Nat.eq_of_beq_eq_true hc.2.2.2.1;have e5:=Nat.eq_of_beq_eq_true hc.2.2.2.2.1;have e6:=Nat.eq_of_beq_eq_true hc.2.2.2.2.2;subst e1;subst e3;subst e4;subst e5;subst e6;cases ha with
     |slb _ _ _ _ _ ha hmc=>
     obtain⟨a9,n9,c9,e9,hmc⟩:=hmc;by_cases hz0:n2=0
     ·
      replace h:=h.1 (decide_eq_true hz0);subst hz0;obtain⟨ad,c',rfl⟩:∃ad c',u=.slice ad 0 c':=by
       cases hx with
       |slz=>exact⟨_,_,rfl⟩
       |sl _ _ _ _ c k p hp hk hcc hn h6=>exact⟨_,_,rfl⟩
      cases ha with
      |slz _ _ _ a'=>injection e9 with _ _ e9;subst e9;exact⟨_,_,Qp1 htt.und ht (Nat.le_refl _),_,_,[],[],M,ρ,h,.slb _ _ _ _ _ (.slz _ _ _ _) ⟨_,_,_,rfl,hmc⟩,hm,Fr.refl ..⟩
      |sl _ _ _ _ c k p hp hk hcc hn h6=>injection e9 with _ _ e9;subst e9;exact⟨_,_,Qp1 htt.und ht hn,_,_,[],[],M,ρ,h,.slb _ _ _ _ _ (.sl _ _ _ _ c k p hp hk hcc hn h6) ⟨_,_,_,rfl,hmc⟩,hm,Fr.refl ..⟩
     ·replace h:=h.2 (decide_eq_false hz0);obtain⟨k0,rfl⟩:∃k,n2=k+1:=⟨n2-1,by omega⟩;split at h
      ·exact h.elim
      ·rename_i o ho;split at h
       ·exact h.elim
       ·rename_i o' hmv;simp only[Qj.holds,decide_eq_true_eq]at h;obtain⟨hz,hty,hroom,hn1,hn2,h⟩:=h;obtain⟨f1,f2,f3,f4,f5⟩:=Zt6 hz hn1 hn2 hmv;obtain⟨inf,hinf,i1,i2,i3⟩:=ht.inf;have hown:=hm.own d2 o ho;cases ha with
        |slz=>injection e9 with _ _ e9;subst e9;omega
        |sl _ _ _ _ c k p hp hk hcc hn h6=>
         injection e9 with _ _ e9;subst e9;have hk0:k=0:=by simpa using hk
         subst hk0;cases hx with
         |sl _ _ _ _ c2 k2 p2 hp2 hk2 hcc2 hnn2 h62=>
          rw[hp]at hp2;cases hp2;obtain⟨cs,ty0,a1,a2,a3,a4,a5⟩:=(hown.rowOf hz hp).ex;obtain⟨cs2,b1⟩:=hown.heap hz hp;rw[hty]at b1;rw[a1]at b1;cases b1;have hfit2:(st2+(k0+1))*i.size≤cs.size:=Nat.le_trans (Nat.mul_le_mul_right _ hn2) (Nat.le_trans a3 a2);have hfit1:(n+(k0+1))*i.size≤cs.size:=Nat.le_trans (Nat.mul_le_mul_right _ hn1) (Nat.le_trans a3 a2);rw[Nat.add_mul]at hfit1 hfit2;generalize hnews:(cs.toList.drop (st2*i.size)).take ((k0+1)*i.size)=news;have hnl:news.length=(k0+1)*i.size:=by rw[←hnews];simp;omega
          have hng:∀j,j<(k0+1)*i.size→news[j]? =cs[st2*i.size+j]? :=fun j hj=>by rw[←hnews,List.getElem?_take,if_pos hj,List.getElem?_drop,Array.getElem?_toList]
          have hcell:∀(j:Nat) (y:Value),news[j]? =some y→w.cell? ((⟨p.block,k2,none⟩:Addr).add j)=some y:=fun j y hy=>by
           have hj:j<(k0+1)*i.size:=by rw[←hnl];exact(List.getElem?_eq_some_iff.1 hy).1
           rw[hng j hj]at hy;rw[Addr.add_mid,hk2];simp[World.cell?,a1,hy]
          have hone:∀y∈news,y.oneCell'=true:=fun y hy=>by
           obtain⟨j,hj,ej⟩:=List.mem_iff_getElem.1 hy;have hj':j<(k0+1)*i.size:=by omega
           have hjd:j/i.size<k0+1:=by rw[Nat.div_lt_iff_lt_mul e2];exact hj'
           obtain⟨z,z1,z2⟩:=a4 (st2+j/i.size) (j%i.size) (by omega) (Nat.mod_lt _ e2);have hzz:=hng j hj';rw[List.getElem?_eq_getElem hj,ej]at hzz;rw[Nat.add_mul,Nat.add_assoc,Nat.div_add_mod']at z1;rw[z1]at hzz;cases hzz;exact z2
          have hrun:=run_append_room (P:=P) w t' ty e inf htt.und hinf p.block n c cs (by rw[hty]at*;exact a1) ⟨p.block,k2,none⟩ (k0+1) c2 news (by rw[i1];exact hnl) hcell hone (by omega) (by rw[hnl,i1];omega);rw[i1]at hrun;generalize hcs':(cs.toList.take (n*i.size)++news++cs.toList.drop (n*i.size+news.length)).toArray=cs' at hrun;have hget:∀q:Nat,cs'[q]? =if q<n*i.size then cs[q]? else if q<n*i.size+news.length then news[q-n*i.size]? else cs[q]? :=fun q=>by rw[←hcs',List.getElem?_toArray,V5 _ _ _ _ (by rw[hnl];simp;omega)];simp only[Array.getElem?_toList]
          have hsize:cs'.size=cs.size:=by rw[←hcs'];simp[hnl];omega
          have hheap':(w.setRow p.block cs').heap[p.block]? =some (.cells cs' e (0,0)):=setRow_heap w p.block cs cs' e (0,0) (by rw[hty]at*;exact a1);have hat:∀r j,r<o.len→j<i.size→cs'[r*i.size+j]? =if n≤r∧r<n+(k0+1)then cs[(st2+(r-n))*i.size+j]? else cs[r*i.size+j]? :=fun r j hr hj=>by
           rw[hget,hnl];by_cases g1:r<n
           ·rw[if_pos (Wb hj g1),if_neg (by omega)]
           ·have g3:¬r*i.size+j<n*i.size:=by have:=Nat.mul_le_mul_right i.size (show n≤r by omega);omega
            rw[if_neg g3];by_cases g2:r<n+(k0+1)
            ·have g4:=Wb hj g2;rw[Nat.add_mul]at g4;have g5:r*i.size=n*i.size+(r-n)*i.size:=by rw[←Nat.add_mul];congr 1;omega
             rw[if_pos g4,if_pos ⟨by omega,g2⟩,hng _ (by omega)];congr 1;rw[Nat.add_mul];omega
            ·have g4:¬r*i.size+j<n*i.size+(k0+1)*i.size:=by have:=Nat.mul_le_mul_right i.size (show n+(k0+1)≤r by omega);rw[Nat.add_mul]at this;omega
             rw[if_neg g4,if_neg (by omega)]
          have hnew:Qt M ρ (w.setRow p.block cs') d2 o':=by
           refine Qad.Qeh f1 hp (fun ty' sz' rows eq=>?_) (fun ty' sz' rows eq=>?_) (fun ty' row l2 eq=>?_) (fun ty' row l2 r c x eq=>absurd eq (f4 _ _ _ _ _ _)) hheap' (by rw[hsize];exact a2) (by rw[f2];exact a3) (fun r j hr hj=>?_) (fun r j y hr hy=>?_)
           ·rw[eq]at f3;exact f3.trans hty
           ·rw[eq]at f3;exact f3.trans hty
           ·rw[eq]at f3;exact f3.trans hty
           ·rw[f2]at hr;rw[hat r j hr hj];split
            ·exact a4 _ j (by omega) hj
            ·exact a4 _ j hr hj
           ·rw[f2]at hr;rw[f5 r hr]at hy;split at hy
            ·rename_i g;obtain⟨q1,q2⟩:=a5 (st2+(r-n)) j y (by omega) hy;refine⟨q1,fun z hz=>q2 z ?_⟩;rw[hat r j hr q1,if_pos g]at hz;exact hz
            ·rename_i g;obtain⟨q1,q2⟩:=a5 r j y hr hy;refine⟨q1,fun z hz=>q2 z ?_⟩;rw[hat r j hr q1,if_neg g]at hz;exact hz
          obtain⟨g1,g2⟩:=hm.put (so:=o') ho (Qcl hz) hp (fun b hb=>Qa3 hb) (setRow_size ..) (Qcl f1) hnew;exact⟨_,_,hrun,_,_,[d2],[],M,ρ,h,.slb _ _ _ _ _ (.sl _ _ 0 _ c 0 p hp (by simp) hcc (by omega) h6) ⟨_,_,_,rfl,hmc⟩,g1,g2⟩
  ·exact h.elim
 ·exact h.elim
def Qql(tab:Qk)(H:List Qa)(t t':Nat)(a x:SV):Qj:=match a with
 |.slb _ _ _ _ _=>Qou tab H t t' a x
 |_=>Qm9 tab H t t' a x
theorem Zt5{P:Program}{tab:Qk}(htab:Qx P tab){M:Qc}{ρ:Env}{H:List Qa}{w:World}{K:Qn}(hm:Mem M ρ H w){t t' ty:Nat}{a x:SV}{v u:Value}(ha:Qd M ρ v a)(hx:Qd M ρ u x)
  (h:(Qql tab H t t' a x).holds H K):Qq P (Builtin.append_ #[t,t'] ty #[v,u]) M ρ H w K:=by
 unfold Qql at h;split at h
 ·exact Zjj htab hm ha hx h
 ·exact Zg9 htab hm ha hx h
def Qo6(tab:Qk)(H:List Qa)(t t':Nat)(a x:SV):Qj:=
 match tab.lookup t with
 |some {desc:=.slice e,..}=>match tab.lookup e with
  |none=>.fail
  |some i=>match Nat.beq t' t&&Nat.beq i.size 1 with
   |false=>.fail
   |true=>match a with
    |.sl d sz 0 n=>match H[d]? with
     |some (.tvec ty row l0)=>match x with
      |.pv (.tsl row' xs)=>match Nat.beq sz 1&&Nat.beq row.length 1 with
       |false=>.fail
       |true=>match Wx row' row xs with
        |none=>.fail
        |some ys=>.need (decide (n=l0.length)) <| .need (decide (ys.length=n)) <| .eff (.pv (.lit (.int .i64 n))) (H.set d (.tvec ty row ys)) [d] []
      |_=>.fail
     |_=>.fail
    |_=>.fail
 |_=>.fail
theorem Zua{P:Program}{w:World}{t ty e:Nat}{i:TI}(hu:P.underlying t=some (.slice e))(he:Y5 P e i){a b:Option Addr}{c c':Nat}:
  (Builtin.copy_ #[t,t] ty #[.slice a 0 c,.slice b 0 c']).run P w=.ok (.int .i64 0) w:=by
 obtain⟨inf,hi,i1,_⟩:=he.inf;cases a<;>cases b<;>simp[Builtin.copy_,run_underlying hu,sizeOf,typeInfo,hi,Builtin.lenOf,Builtin.firstCells,loadCells,loadCellsFrom,storeCells,goInt]
theorem Zky{P:Program}{tab:Qk}(htab:Qx P tab){M:Qc}{ρ:Env}{H:List Qa}{w:World}{K:Qn}(hm:Mem M ρ H w){t t' ty0:Nat}{a x:SV}{v u:Value}(ha:Qd M ρ v a)(hx:Qd M ρ u x)
  (h:(Qo6 tab H t t' a x).holds H K):Qq P (Builtin.copy_ #[t,t'] ty0 #[v,u]) M ρ H w K:=by
 unfold Qo6 at h;split at h
 ·rename_i e _ _ _ _ hT;have htt:=htab.get hT;split at h
  ·exact h.elim
  ·rename_i i hi;have he:=htab.get hi;split at h
   ·exact h.elim
   ·rename_i hc;rw[Bool.and_eq_true]at hc;have et:=Nat.eq_of_beq_eq_true hc.1;have ei:=Nat.eq_of_beq_eq_true hc.2;subst et;split at h
    ·rename_i d sz n;split at h
     ·rename_i ty row l0 ho;split at h
      ·rename_i row' xs;split at h
       ·exact h.elim
       ·rename_i hc2;rw[Bool.and_eq_true]at hc2;have es:=Nat.eq_of_beq_eq_true hc2.1;have er:=Nat.eq_of_beq_eq_true hc2.2;split at h
        ·exact h.elim
        ·rename_i ys hys;obtain⟨e3,e4⟩:=Kg hys;subst e3;have e4:ys=xs:=e4;subst e4;simp only[Qj.holds,decide_eq_true_eq]at h;obtain⟨hn,hl,hk⟩:=h;have hu:P.underlying t'=some (.slice e):=htt.und;have hx':Qd M ρ u (.pv (.rsl row'.length (Qp row' ys))):=by
          cases hx with
          |pv hp=>cases hp with
           |tsl _ _ hp=>exact .pv hp
         have hsrc:=Qp7 (H:=H) (sz:=row'.length) hm hx' (s:=.pure (Qp row' ys)) (by simp[Vl]);have hlen:(Qp row' ys).length=ys.length:=by simp[Qp]
         obtain⟨a0,c0,news,hv,hnl,hcell,hone,hrep⟩:=hsrc.news (show 0<row'.length by omega);have hsl:Src.len (.pure (Qp row' ys))=ys.length:=hlen;rw[hsl]at hv hnl hcell hrep;have hnl:news.length=ys.length:=by rw[hnl,er,Nat.mul_one]
         have hint:∀m:Nat,m=n→Qd M ρ (.int .i64 (m:Int)) (.pv (.lit (.int .i64 (n:Int)))):=fun m e=>by rw[e];exact .pv (.lit _)
         have hzero:ys.length=0→∀(b:Option Addr) (c:Nat),v=.slice b 0 c→Qq P (Builtin.copy_ #[t',t'] ty0 #[v,u]) M ρ H w K:=fun hz b c hb=>by
          have hn0:n=0:=by omega
          have hys0:ys=[]:=List.eq_nil_of_length_eq_zero hz;have hl0:l0=[]:=List.eq_nil_of_length_eq_zero (by omega);have hset:H.set d (.tvec ty row' ys)=H:=by
           rw[hys0,←hl0];refine List.ext_getElem? fun q=>?_;rw[List.getElem?_set];split
           ·rename_i e;subst e;rw[ho];simp[(List.getElem?_eq_some_iff.1 ho).1]
           ·rfl
          rw[hset]at hk;rw[hb,hv,hz];exact⟨_,w,Zua hu he,_,H,[d],[],M,ρ,hk,hint 0 hn0.symm,hm,Fr.refl ..⟩
         cases ha with
         |slz s sz st a=>exact hzero hl a 0 rfl
         |sl s sz st n c k p hp hkk hcc hnn h6=>
          have hk0:k=0:=by rw[hkk,Nat.zero_mul]
          subst hk0;rcases Nat.eq_zero_or_pos ys.length with hz|hpos
          ·exact hzero hz _ c (by rw[←hl,hz])
          ·obtain⟨b,o,ha0,hcell⟩:=hcell.resolve_left (by omega);have hown:=hm.own d _ ho;obtain⟨cs0,ty1,a1,a2,a3,a4,a5⟩:=(hown.rowOf (sz:=row'.length) rfl hp).ex;obtain⟨cs1,b1⟩:=hown.heap (sz:=row'.length) rfl hp;rw[a1]at b1;have ety:ty1=ty:=by simp[Qa.ty]at b1;exact b1.2
           subst ety;have a3:l0.length*row'.length≤p.cap:=a3;rw[er,Nat.mul_one]at a3;obtain⟨inf,hinf,i1,_⟩:=he.inf;have hrun:=run_copy_row (P:=P) w t' t' ty0 e p.block 0 n c ⟨b,o,none⟩ ys.length c0 cs0 ty1 news hu (by rw[hinf];simp[i1,ei]) a1 (by rw[hnl,hl];exact(Nat.min_self n).symm) (fun j z hj=>hcell j z hj) (by rw[hnl];omega) hone;generalize hcs':(cs0.toList.take 0++news++cs0.toList.drop (0+news.length)).toArray=cs' at hrun;have hget:∀m:Nat,cs'[m]? =if m<ys.length then news[m]? else cs0[m]? :=fun m=>by rw[←hcs',List.getElem?_toArray,V5 _ _ _ _ (by rw[hnl];simp;omega),hnl,if_neg (by omega)];simp only[Nat.zero_add,Nat.sub_zero,Array.getElem?_toList]
           have hsize:cs'.size=cs0.size:=by rw[←hcs'];simp[hnl];omega
           have hheap:(w.setRow p.block cs').heap[p.block]? =some (.cells cs' ty1 (0,0)):=setRow_heap w p.block cs0 cs' ty1 (0,0) a1;have hnew:Qt M ρ (w.setRow p.block cs') d (.tvec ty1 row' ys):=by
            refine Qad.Qeh (sz:=row'.length) rfl hp (fun ty' sz' rows e=>by cases e) (fun ty' sz' rows e=>by cases e) (fun ty' row l2 e=>by cases e;rfl) (fun ty' row l2 r c x e=>by cases e) hheap (by rw[hsize];exact a2) (show ys.length*row'.length≤p.cap by rw[er,Nat.mul_one];omega) (fun m q hmr hq=>?_) (fun m q y hmr hy=>?_)
            ·have hmr:m<ys.length:=hmr;have hq0:q=0:=by omega
             subst hq0;rw[er,Nat.mul_one,Nat.add_zero,hget,if_pos hmr];have hlt:m<news.length:=by omega
             exact⟨news[m],by simp[hlt],hone _ (List.getElem_mem hlt)⟩
            ·have hmr:m<ys.length:=hmr;have e1:((Src.pure (Qp row' ys)).rows.getD m [])=(Qa.tvec ty1 row' ys).row m:=by
              have hm2:m<(Qp row' ys).length:=by rw[hlen];exact hmr
              have e:=Qd5 (row:=row') hmr;simp only[Src.rows,Qa.row,List.getD,List.getElem?_map,List.getElem?_eq_getElem hm2,Option.map_some,Option.getD_some]at e⊢;rw[e]
             obtain⟨g1,g2⟩:=hrep m q y hmr (by rw[e1];exact hy);refine⟨g1,fun z hz=>g2 z ?_⟩;have hq0:q=0:=by omega
             subst hq0;rw[er,Nat.mul_one,Nat.add_zero]at hz⊢;rw[hget,if_pos hmr]at hz;exact hz
           obtain⟨g1,g2⟩:=hm.put (so:=.tvec ty1 row' ys) ho rfl hp (fun b hb=>Qa3 hb) (setRow_size ..) rfl hnew;refine⟨_,_,?_,_,_,[d],[],M,ρ,hk,hint news.length (by omega),g1,g2⟩;rw[hv,ha0];exact hrun
      ·exact h.elim
     ·exact h.elim
    ·exact h.elim
 ·exact h.elim
def ownRow(H:List Qa)(a:SV):List Ty:=match a with
 |.sl d _ _ _=>match H[d]? with
  |some (.tvec _ row _)=>row
  |_=>[]
 |_=>[]
def TI.Zcf(i:TI)(row:List Ty):TI:={i with row:=some row}
def Qrg(tab:Qk)(H:List Qa)(t:Nat)(a:SV):Qj:=
 match tab.lookup t with
 |some {desc:=.slice e,..}=>match tab.lookup e with
  |none=>.fail
  |some i=>match Qay (i.Zcf (ownRow H a))with
   |none=>.fail
   |some q=>match a with
    |.sl d sz st n=>match H[d]? with
     |some (.tvec ty row l)=>match Nat.beq sz i.size&&Nat.beq row.length i.size with
      |false=>.fail
      |true=>match Wx q.1 row [q.2]with
       |some [y]=>.need (decide (st+n≤l.length)) <| .eff (.tup []) (H.set d (.tvec ty row (l.take st++List.replicate n y++l.drop (st+n)))) [d] []
       |_=>.fail
     |_=>.fail
    |_=>.fail
 |_=>.fail
theorem Zzn{P:Program}{w:World}{t ty e:Nat}(hu:P.underlying t=some (.slice e)){a:Option Addr}{c:Nat}:
  (Builtin.clear_ #[t] ty #[.slice a 0 c]).run P w=.ok (.tuple #[]) w:=by
 cases a<;>simp[Builtin.clear_,run_underlying hu]
theorem Zjt{P:Program}{w:World}{t ty e:Nat}{i:TI}(hu:P.underlying t=some (.slice e))(he:Y5 P e i){g o n c:Nat}(hn:0<n){cur:Array Value}{ty1:TypeId}(hg:w.heap[g]? =some (.cells cur ty1 (0,0)))
  (hl:o+n*i.size≤cur.size) (h1:∀x∈(Builtin.zeroCells i.zero.cells n).toList,x.oneCell'=true):
  (Builtin.clear_ #[t] ty #[.slice (some ⟨g,o,none⟩) n c]).run P w=.ok (.tuple #[]) (w.setRow g (cur.toList.take o++(Builtin.zeroCells i.zero.cells n).toList++cur.toList.drop (o+(Builtin.zeroCells i.zero.cells n).toList.length)).toArray):=by
 obtain⟨inf,hi,i1,i2,i3⟩:=he.inf;have hlz:(Builtin.zeroCells i.zero.cells n).toList.length=n*i.size:=by rw[Array.length_toList,size_zeroCells,he.zsz]
 have hst:=run_storeCells_at P g o ty1 (Builtin.zeroCells i.zero.cells n).toList 0 cur w hg (by rw[hlz];simpa using hl) h1;simp only[Nat.add_zero]at hst;cases n with
 |zero=>omega
 |succ n=>simp[Builtin.clear_,run_underlying hu,zeroValue,typeInfo,hi,i3,hst]
theorem Zjg{P:Program}{tab:Qk}(htab:Qx P tab){M:Qc}{ρ:Env}{H:List Qa}{w:World}{K:Qn}(hm:Mem M ρ H w){t ty0:Nat}{a:SV}{v:Value}(ha:Qd M ρ v a)
  (h:(Qrg tab H t a).holds H K):Qq P (Builtin.clear_ #[t] ty0 #[v]) M ρ H w K:=by
 unfold Qrg at h;split at h
 ·rename_i e _ _ _ _ hT;have htt:=htab.get hT;have hu:P.underlying t=some (.slice e):=htt.und;split at h
  ·exact h.elim
  ·rename_i i hi;have he:=htab.get hi;split at h
   ·exact h.elim
   ·rename_i q hz;split at h
    ·rename_i d sz st n;split at h
     ·rename_i ty row l ho;split at h
      ·exact h.elim
      ·rename_i hc;rw[Bool.and_eq_true]at hc;have es:=Nat.eq_of_beq_eq_true hc.1;have er:=Nat.eq_of_beq_eq_true hc.2;subst es;split at h
       ·rename_i y hy;obtain⟨zr,z⟩:=q;obtain⟨e3,e4⟩:=Kg hy;subst e3;have e4:[y]=[z]:=e4;have e4:y=z:=List.head_eq_of_cons_eq e4;have hz:Qay (i.Zcf (ownRow H (.sl d i.size st n)))=some ⟨zr,y⟩:=by rw[e4];exact hz
        simp only[Qj.holds,decide_eq_true_eq]at h;obtain⟨hn,hk⟩:=h;have htup:Qd M ρ (.tuple #[]) (.tup []):=.tup _ _ rfl fun i v x hv=>by simp at hv
        have hzero:n=0→∀(b:Option Addr) (c:Nat),v=.slice b 0 c→Qq P (Builtin.clear_ #[t] ty0 #[v]) M ρ H w K:=fun h0 b c hb=>by
         subst h0;have hset:H.set d (.tvec ty zr (l.take st++List.replicate 0 y++l.drop (st+0)))=H:=by
          simp only[List.replicate_zero,List.append_nil,Nat.add_zero,List.take_append_drop];refine List.ext_getElem? fun q=>?_;rw[List.getElem?_set];split
          ·rename_i e;subst e;rw[ho];simp[(List.getElem?_eq_some_iff.1 ho).1]
          ·rfl
         rw[hset]at hk;rw[hb];exact⟨_,w,Zzn hu,_,H,[d],[],M,ρ,hk,htup,hm,Fr.refl ..⟩
        cases ha with
        |slz _ _ _ a=>exact hzero rfl a 0 rfl
        |sl _ _ _ _ c k p hp hkk hcc hnn h6=>
         rcases Nat.eq_zero_or_pos n with h0|hpos
         ·exact hzero h0 _ c (by rw[h0])
         ·subst hkk;have hown:=hm.own d _ ho;obtain⟨cs0,ty1,a1,a2,a3,a4,a5⟩:=(hown.rowOf (sz:=zr.length) rfl hp).ex;obtain⟨cs1,b1⟩:=hown.heap (sz:=zr.length) rfl hp;rw[a1]at b1;have ety:ty1=ty:=by simp[Qa.ty]at b1;exact b1.2
          subst ety;have a3:l.length*zr.length≤p.cap:=a3;rw[er]at a3 a4 a5;have hfit:st*i.size+n*i.size≤l.length*i.size:=by rw[←Nat.add_mul];exact Nat.mul_le_mul_right _ hn
          have hzc:Builtin.zeroCells i.zero.cells n=madeCells i.zero.cells (n*i.size):=by rw[←he.zsz];rfl
          have hzz:=Qkv (n:=n) (M:=M) (ρ:=ρ) he.zsz he.zon;have hone:∀x∈(Builtin.zeroCells i.zero.cells n).toList,x.oneCell'=true:=fun x hx=>by obtain⟨m,hm'⟩:=List.getElem?_of_mem hx;exact hzz.one m x (by rw[←hzc,←Array.getElem?_toList];exact hm')
          have hrun:=Zjt (P:=P) (ty:=ty0) (c:=c) hu he (o:=st*i.size) hpos a1 (by omega) hone;have hlz:(Builtin.zeroCells i.zero.cells n).toList.length=n*i.size:=by rw[Array.length_toList,size_zeroCells,he.zsz]
          generalize hvs:(Builtin.zeroCells i.zero.cells n).toList=vs at hrun hone hlz;have hvs':∀m:Nat,vs[m]? =(madeCells i.zero.cells (n*i.size))[m]? :=fun m=>by rw[←hvs,hzc,Array.getElem?_toList]
          generalize hcs':(cs0.toList.take (st*i.size)++vs++cs0.toList.drop (st*i.size+vs.length)).toArray=cs' at hrun;have hget:∀m:Nat,cs'[m]? =if m<st*i.size then cs0[m]? else if m<st*i.size+n*i.size then vs[m-st*i.size]? else cs0[m]? :=fun m=>by rw[←hcs',List.getElem?_toArray,V5 _ _ _ _ (by rw[hlz];simp;omega),hlz];simp only[Array.getElem?_toList]
          have hsize:cs'.size=cs0.size:=by rw[←hcs'];simp[hlz];omega
          have hheap:(w.setRow p.block cs').heap[p.block]? =some (.cells cs' ty1 (0,0)):=setRow_heap w p.block cs0 cs' ty1 (0,0) a1;have hll:(l.take st++List.replicate n y++l.drop (st+n)).length=l.length:=by simp;omega
          have hnew:Qt M ρ (w.setRow p.block cs') d (.tvec ty1 zr (l.take st++List.replicate n y++l.drop (st+n))):=by
           refine Qad.Qeh (sz:=zr.length) rfl hp (fun ty' sz' rows e=>by cases e) (fun ty' sz' rows e=>by cases e) (fun ty' row l2 e=>by cases e;rfl) (fun ty' row l2 r c x e=>by cases e) hheap (by rw[hsize];exact a2) (show(l.take st++List.replicate n y++l.drop (st+n)).length*zr.length≤p.cap by rw[hll,er];exact a3) (fun m q hmr hq=>?_) (fun m q x hmr hx=>?_)
           ·rw[er]at hq⊢;have hmr:m<l.length:=by rw[←hll];exact hmr
            obtain⟨u,hu1,hu2⟩:=a4 m q hmr hq;rw[hget];split
            ·exact⟨u,hu1,hu2⟩
            ·split
             ·have hlt:m*i.size+q-st*i.size<vs.length:=by rw[hlz];omega
              exact⟨vs[m*i.size+q-st*i.size],by simp[hlt],hone _ (List.getElem_mem hlt)⟩
             ·exact⟨u,hu1,hu2⟩
           ·have hmr:m<l.length:=by rw[←hll];exact hmr
            have hsp:(l.take st++List.replicate n y++l.drop (st+n))[m]? =if m<st then l[m]? else if m<st+n then(List.replicate n y)[m-st]? else l[m]? :=by have:=V5 l (List.replicate n y) st m (by simpa using hn);simpa using this
            have old:(l.take st++List.replicate n y++l.drop (st+n))[m]? =l[m]? →(∀q,q<i.size→cs'[m*i.size+q]? =cs0[m*i.size+q]?)→q<zr.length∧∀v,cs'[m*zr.length+q]? =some v→Qd M ρ v x:=fun e1 e2=>by
             have hx0:((Qa.tvec ty1 zr l).row m)[q]? =some x:=by simp only[Qa.row,List.getD]at hx⊢;rw[e1]at hx;exact hx
             obtain⟨g1,g2⟩:=a5 m q x hmr hx0;refine⟨by rw[show zr.length=i.size from er];exact g1,fun v hv=>g2 v ?_⟩;rw[show zr.length=i.size from er,e2 q g1]at hv;exact hv
            by_cases h1:m<st
            ·refine old (by rw[hsp,if_pos h1]) fun q hq=>?_;have:=Wb hq h1;rw[hget,if_pos (by omega)]
            ·by_cases h2:m<st+n
             ·have e1:(l.take st++List.replicate n y++l.drop (st+n)).getD m (Qh.Y2 zr)=y:=by rw[List.getD,hsp,if_neg h1,if_pos h2,List.getElem?_replicate,if_pos (by omega)];rfl
              simp only[Qa.row,e1,List.getElem?_map,Option.map_eq_some_iff]at hx;obtain⟨u,hu1,rfl⟩:=hx;have hq:q<i.size:=by have:=(List.getElem?_eq_some_iff.1 hu1).1;rw[Wf]at this;rw[←show zr.length=i.size from er];exact this
              refine⟨by rw[show zr.length=i.size from er];exact hq,fun v hv=>?_⟩;rw[show zr.length=i.size from er,hget,if_neg (by have:=Nat.mul_le_mul_right i.size (Nat.le_of_not_lt h1);omega)]at hv;have hflat:(m-st)*i.size+q<n*i.size:=Wb hq (by omega);have hms:m*i.size=st*i.size+(m-st)*i.size:=by rw[←Nat.add_mul];congr 1;omega
              rw[if_pos (by omega),hvs',show m*i.size+q-st*i.size=(m-st)*i.size+q by omega]at hv;unfold Qay at hz;split at hz
              ·cases hz
              ·split at hz
               ·cases hz
               ·rename_i z0 hz0;split at hz
                ·rename_i x0 hx0;split at hz
                 ·cases hz;obtain⟨_,g2⟩:=Qbh hx0;obtain⟨p0,hp0,himp⟩:=g2 q u hu1;have ez:i.zero.cells.toList.map SV.lit=z0.map SV.pv:=Ux hz0;have hl2:(i.zero.cells.toList.map SV.lit).length=i.size:=by simp[he.zsz]
                  have:=hzz.rep _ v (.pv p0) hv (by rw[Qi4 (by rw[hl2];omega),hl2,Nat.mul_comm,Nat.mul_add_mod,Nat.mod_eq_of_lt hq,ez,List.getElem?_map,hp0];rfl);cases this with
                  |pv this=>exact .pv (himp _ _ this)
                 ·cases hz
                ·cases hz
             ·refine old (by rw[hsp,if_neg h1,if_neg h2]) fun q hq=>?_;have:=Nat.mul_le_mul_right i.size (show st+n≤m by omega);rw[Nat.add_mul]at this;rw[hget,if_neg (by omega),if_neg (by omega)]
          obtain⟨g1,g2⟩:=hm.put (so:=.tvec ty1 zr (l.take st++List.replicate n y++l.drop (st+n))) ho rfl hp (fun b hb=>Qa3 hb) (setRow_size ..) rfl hnew;exact⟨_,_,hrun,_,_,[d],[],M,ρ,hk,htup,g1,g2⟩
       ·exact h.elim
     ·exact h.elim
    ·exact h.elim
 ·exact h.elim
def asData(H:List Qa)(row:List Ty)(a:SV):List Qa:=match a with
 |.sl d _ _ _=>match H[d]? with
  |some (.vec ty sz rows)=>match Nat.beq sz row.length with
   |true=>match X4 (ofRow row) rows with
    |some l=>H.set d (.tvec ty row l)
    |none=>H
   |false=>H
  |_=>H
 |_=>H
theorem Qrj{M:Qc}{ρ:Env}{H:List Qa}{w:World}(hm:Mem M ρ H w)(row:List Ty)(a:SV):Mem M ρ (asData H row a) w∧Fr M ρ H w M ρ (asData H row a) w H.length [] []∧(asData H row a).length=H.length:=by
 have same:Mem M ρ H w∧Fr M ρ H w M ρ H w H.length [] []∧H.length=H.length:=⟨hm,Fr.refl ..,rfl⟩;unfold asData;split
 ·split
  ·rename_i ty sz rows ho;split
   ·rename_i e;have e1:=Nat.eq_of_beq_eq_true e;subst e1;split
    ·rename_i l hl;have hok:=Xo.of hl;exact⟨hm.described ho rfl (fun hh=>hh.Qhr hok.1 hok.2),(Fr.refl M ρ H w H.length [] []).described ho rfl,by rw[List.length_set]⟩
    ·exact same
   ·exact same
  ·exact same
 ·exact same
def Qdn(tab:Qk)(t:Nat):List Ty:=match tab.lookup t with
 |some {desc:=.slice e,..}=>match tab.lookup e with
  |some i=>match i.row with
   |some row=>row
   |none=>[]
  |none=>[]
 |_=>[]
def Qwl(tab:Qk)(H:List Qa)(t:Nat)(a:SV):Qj:=(Qrg tab (asData H (Qdn tab t) a) t a).Vt [] (asData H (Qdn tab t) a)
theorem Ziv{P:Program}{tab:Qk}(htab:Qx P tab){M:Qc}{ρ:Env}{H:List Qa}{w:World}{K:Qn}(hm:Mem M ρ H w){t ty0:Nat}{a:SV}{v:Value}(ha:Qd M ρ v a)
  (h:(Qwl tab H t a).holds H K):Qq P (Builtin.clear_ #[t] ty0 #[v]) M ρ H w K:=by
 obtain⟨m1,m2,m3⟩:=Qrj hm (Qdn tab t) a;obtain⟨v',w',h1,y,H',tch,fg,M',ρ',hk,h2,h3,h4⟩:=Zjg (ty0:=ty0) htab m1 ha (Qj.touch_holds h);rw[m3]at h4;exact⟨v',w',h1,y,H',[]++tch,fg,M',ρ',hk,h2,h3,m2.trans h4 (fun x h=>List.mem_append_left _ h) (fun x h=>List.mem_append_right _ h) (fun x h=>by cases h) (fun x h=>h)⟩
def Zan(tab:Qk)(H:List Qa)(t t':Nat)(a x:SV):Qj:=(Qo6 tab (asData H (Qdn tab t) a) t t' a x).Vt [] (asData H (Qdn tab t) a)
theorem Zd7{P:Program}{tab:Qk}(htab:Qx P tab){M:Qc}{ρ:Env}{H:List Qa}{w:World}{K:Qn}(hm:Mem M ρ H w){t t' ty0:Nat}{a x:SV}{v u:Value}(ha:Qd M ρ v a)(hx:Qd M ρ u x)
  (h:(Zan tab H t t' a x).holds H K):Qq P (Builtin.copy_ #[t,t'] ty0 #[v,u]) M ρ H w K:=by
 obtain⟨m1,m2,m3⟩:=Qrj hm (Qdn tab t) a;obtain⟨v',w',h1,y,H',tch,fg,M',ρ',hk,h2,h3,h4⟩:=Zky (ty0:=ty0) htab m1 ha hx (Qj.touch_holds h);rw[m3]at h4;exact⟨v',w',h1,y,H',[]++tch,fg,M',ρ',hk,h2,h3,m2.trans h4 (fun x h=>List.mem_append_left _ h) (fun x h=>List.mem_append_right _ h) (fun x h=>by cases h) (fun x h=>h)⟩
end Go.Sx

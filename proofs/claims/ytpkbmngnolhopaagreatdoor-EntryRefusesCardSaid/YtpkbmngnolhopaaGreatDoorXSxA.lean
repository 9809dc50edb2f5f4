/- An own logic over the kit's walk: symbolic values, a symbolic heap of owned blocks, immutable memory. Part A: the relations and what keeps them. Part T of the own logic: data of one kind. And further parts. -/
import Derived.RangeFuncLeaves
import Derived.OrdersHeld
import Derived.KernelRfl
import Derived.Laws.Strings
import Derived.Deep.LoopGhost
import Derived.Deep.MidRow
import Derived.Laws.CopyRow
import Derived.Laws.AppendOwn
set_option linter.unusedVariables false
set_option linter.unusedSimpArgs false
open Option renaming map_eq_some_iff->ZA,map_some->ZU
open List renaming getElem?_eq_some_iff->ZB,getElem?_map->ZC,getElem?_append->ZI,map_cons->ZJ,getElem?_cons_zero->ZL,eq_nil_of_length_eq_zero->ZN,getElem?_append_left->ZO,getElem?_eq_none->ZP,getElem?_set_ne->ZQ,getElem?_set->ZS,length_cons->ZT
open Nat renaming lt_of_lt_of_le->ZD,beq->ZF,le_refl->ZG,ne_of_lt->ZH,eq_of_beq_eq_true->ZM,le_trans->ZR
open Option.some renaming injEq->ZE,inj->ZV
open SizeOf renaming sizeOf->ZK
section
namespace Go.Sx
open Go
structure Place where
 block:Nat
 cap:Nat
 subs:List Nat
def Place.has(p:Place)(b:Nat):Prop:=p.block=b∨b∈p.subs
theorem Place.self(p:Place):p.has p.block:=.inl rfl
abbrev Qd:=Nat->Option Obj
abbrev Env:=Nat->Option Place
def Qd.cell(M:Qd)(b i:Nat):Option Value:=
 match M b with
 |some (.cells c _ _)=>c[i]?
 |_=>none
def Qd.le(M M':Qd):Prop:=∀b o,M b=some o->M' b=some o
def Env.le(U U':Env):Prop:=∀s p,U s=some p->U' s=some p
theorem Qd.le_refl(M:Qd):M.le M:=fun _ _ h=>h
theorem Qd.le_trans{A B C:Qd}(h:A.le B)(k:B.le C):A.le C:=fun b o e=>k b o (h b o e)
theorem Env.le_refl(U:Env):U.le U:=fun _ _ h=>h
theorem Env.le_trans{A B C:Env}(h:A.le B)(k:B.le C):A.le C:=fun b o e=>k b o (h b o e)
theorem Qd.Qtd{M M':Qd}(h:M.le M'){b i:Nat}{v:Value}(hc:M.cell b i=some v):M'.cell b i=some v:=by
 unfold Qd.cell at*;cases hb:M b with
 |none=>simp[hb]at hc
 |some o=>rw[h b o hb];simpa[hb]using hc
abbrev Wv(v:Value):Bool:=v.oneCell'
inductive Ty where
 |int (k:IntKind)
 |bool
 |str
 |seq (row:List Ty)
mutual
def Ty.El:Ty->Type
 |.int _=>Int
 |.bool=>Bool
 |.str=>ByteArray
 |.seq row=>List (Qj row)
def Qj:List Ty->Type
 |[]=>Unit
 |[t]=>t.El
 |t::t'::ts=>t.El×Qj (t'::ts)
end
inductive PV where
 |lit (v:Value)
 |rsl (sz:Nat) (rows:List (List PV))
 |rptr (sz:Nat) (rows:List (List PV)) (i j:Nat)
 |tsl (row:List Ty) (l:List (Qj row))
 |tptr (row:List Ty) (l:List (Qj row)) (i j:Nat)
 |csl (row:List Ty) (l:List (Qj row))
def Ty.pv:(t:Ty)->t.El->PV
 |.int k,n=>.lit (.int k n)
 |.bool,b=>.lit (.bool b)
 |.str,s=>.lit (.string s)
 |.seq row,l=>.tsl row l
def Zs:(ts:List Ty)->Qj ts->List PV
 |[],_=>[]
 |[t],x=>[t.pv x]
 |t::t'::ts,x=>t.pv x.1::Zs (t'::ts) x.2
theorem V3:∀(ts:List Ty) (x:Qj ts),(Zs ts x).length=ts.length
 |[],_=>rfl
 |[t],x=>rfl
 |t::t'::ts,x=>by simp only[Zs,ZT,V3 (t'::ts) x.2]
def Ty.Xn:(t:Ty)->t.El
 |.int _=>(0:Int)
 |.bool=>false
 |.str=>ByteArray.empty
 |.seq _=>[]
def Qj.Xn:(ts:List Ty)->Qj ts
 |[]=>()
 |[t]=>t.Xn
 |t::t'::ts=>(t.Xn,Qj.Xn (t'::ts))
abbrev Qw(row:List Ty)(l:List (Qj row)):List (List PV):=l.map (Zs row)
inductive SV where
 |any
 |pv (p:PV)
 |agg (cells:List SV)
 |tup (parts:List SV)
 |ptr (sid sz i j:Nat)
 |sl (sid sz start len:Nat)
 |mp (sid:Nat)
 |fn (f:Fn) (first captured:List SV)
 |yld (sid:Nat)
 |slb (sid sz start len room:Nat)
instance:Inhabited PV:=⟨.lit (.bool false)⟩
instance:Inhabited SV:=⟨.any⟩
inductive Qe where
 |val (t:Ty)
 |agg (row:List Ty)
def Qe.El:Qe->Type
 |.val t=>t.El
 |.agg row=>Qj row
def Ty.toV:(t:Ty)->t.El->Value
 |.int k,n=>.int k n
 |.bool,b=>.bool b
 |.str,s=>.string s
 |.seq _,_=>.bool false
def Vd:(ts:List Ty)->Qj ts->List Value
 |[],_=>[]
 |[t],x=>[t.toV x]
 |t::t'::ts,x=>t.toV x.1::Vd (t'::ts) x.2
def Qe.Z5:(a:Qe)->a.El->Value
 |.val t,x=>t.toV x
 |.agg row,x=>.agg (Vd row x).toArray
def Qe.raw:(a:Qe)->a.El->SV
 |.val t,x=>.pv (t.pv x)
 |.agg row,x=>.agg ((Zs row x).map .pv)
def Xg(k v:Qe):Nat->List (k.El×v.El)->List (Value×SV×Nat)
 |_,[]=>[]
 |n,x::l=>(k.Z5 x.1,v.raw x.2,n)::Xg k v (n+1) l
abbrev SV.lit(v:Value):SV:=.pv (.lit v)
inductive Z4 (M:Qd):Value->PV->Prop where
 |lit (v:Value):Z4 M v (.lit v)
 |rnil (sz:Nat):Z4 M (.slice none 0 0) (.rsl sz [])
 | rsl (b off c sz n:Nat) (rows:List (List PV)) (hn:n = rows.length) (hc:n <= c)
   (h0:∀i j,i<rows.length->j<sz->∃v,M.cell b (off+i*sz+j)=some v∧Wv v=true)
   (h1:∀(i:Nat) (r:List PV) (j:Nat) (p:PV) (v:Value),rows[i]? =some r->r[j]? =some p->M.cell b (off+i*sz+j)=some v->Z4 M v p)
   (h2:∀(i:Nat) (r:List PV),rows[i]? =some r->r.length<=sz):Z4 M (.slice (some ⟨b,off,none⟩) n c) (.rsl sz rows)
 |remp (a:Addr) (c sz:Nat):Z4 M (.slice (some a) 0 c) (.rsl sz [])
 | rptr (b off sz i j k:Nat) (rows:List (List PV)) (hk:k = off + i * sz + j)
   (h0:∀i j,i<rows.length->j<sz->∃v,M.cell b (off+i*sz+j)=some v∧Wv v=true)
   (h1:∀(i:Nat) (r:List PV) (j:Nat) (p:PV) (v:Value),rows[i]? =some r->r[j]? =some p->M.cell b (off+i*sz+j)=some v->Z4 M v p)
   (h2:∀(i:Nat) (r:List PV),rows[i]? =some r->r.length<=sz):Z4 M (.pointer (some ⟨b,k,none⟩)) (.rptr sz rows i j)
 |tsl {v:Value} (row:List Ty) (l:List (Qj row)) (h:Z4 M v (.rsl row.length (Qw row l))):Z4 M v (.tsl row l)
 |tptr {v:Value} (row:List Ty) (l:List (Qj row)) (i j:Nat) (h:Z4 M v (.rptr row.length (Qw row l) i j)):Z4 M v (.tptr row l i j)
 |csl (a:Option Addr) (n:Nat) (row:List Ty) (l:List (Qj row)) (h:Z4 M (.slice a n n) (.rsl row.length (Qw row l))):Z4 M (.slice a n n) (.csl row l)
theorem Z4.mono{M M':Qd}(h:M.le M'){v:Value}{p:PV}(hp:Z4 M v p):Z4 M' v p:=by
 induction hp with
 |lit v=>exact .lit v
 |rnil sz=>exact .rnil sz
 |rsl b off c sz n rows hn hc h0 h1 h2 ih=>
  refine .rsl b off c sz n rows hn hc (fun i j hi hj=>?_) (fun i r j p v hi hj hcl=>?_) h2
  ·obtain⟨v,hv,hx⟩:=h0 i j hi hj;exact⟨v,Qd.Qtd h hv,hx⟩
  ·obtain⟨u,hu,_⟩:=h0 i j (ZB.1 hi).1 (ZD (ZB.1 hj).1 (h2 i r hi));have:=Qd.Qtd h hu;rw[hcl]at this;cases this;exact ih i r j p _ hi hj hu
 |remp a c sz=>exact .remp a c sz
 |tsl row l _ ih=>exact .tsl row l ih
 |tptr row l i j _ ih=>exact .tptr row l i j ih
 |csl a n row l _ ih=>exact .csl a n row l ih
 |rptr b off sz i j k rows hk h0 h1 h2 ih=>
  refine .rptr b off sz i j k rows hk (fun i j hi hj=>?_) (fun i r j p v hi hj hcl=>?_) h2
  ·obtain⟨v,hv,hx⟩:=h0 i j hi hj;exact⟨v,Qd.Qtd h hv,hx⟩
  ·obtain⟨u,hu,_⟩:=h0 i j (ZB.1 hi).1 (ZD (ZB.1 hj).1 (h2 i r hi));have:=Qd.Qtd h hu;rw[hcl]at this;cases this;exact ih i r j p _ hi hj hu
theorem Z4.Qtm{M:Qd}{v:Value}{sz:Nat}{rows:List (List PV)}(h:Z4 M v (.rsl sz rows)):∃a n c,v=.slice a n c:=by
 generalize e:PV.rsl sz rows=p at h;cases h<;>first|cases e|skip
 all_goals exact⟨_,_,_,rfl⟩
theorem Z4.Zl4{M:Qd}{v:Value}{sz i j:Nat}{rows:List (List PV)}(h:Z4 M v (.rptr sz rows i j)):∃b k,v=.pointer (some ⟨b,k,none⟩):=by
 generalize e:PV.rptr sz rows i j=p at h;cases h<;>first|cases e|skip
 all_goals exact⟨_,_,rfl⟩
theorem Ye0{M:Qd}{v:Value}{sz:Nat}{rows rows':List (List PV)}(hl:rows'.length=rows.length)
  (h:∀(i:Nat) (r':List PV),rows'[i]? =some r'->∃r,rows[i]? =some r∧r'.length=r.length∧∀(j:Nat) (q:PV),r'[j]? =some q->∃p,r[j]? =some p∧∀(M:Qd) (v:Value),Z4 M v p->Z4 M v q)
  (hp:Z4 M v (.rsl sz rows)):Z4 M v (.rsl sz rows'):=by
 cases hp with
 |rnil=>cases ZN (l:=rows') (by simpa using hl);exact .rnil _
 |remp a c=>cases ZN (l:=rows') (by simpa using hl);exact .remp a c _
 |rsl b off c _ n _ hn hc h0 h1 h2=>
  refine .rsl b off c sz n rows' (by rw[hl];exact hn) hc (fun i j hi hj=>h0 i j (by rw[<-hl];exact hi) hj) (fun i r' j q v hr hq hv=>?_) (fun i r' hr=>?_)
  ·obtain⟨r,g1,_,g3⟩:=h i r' hr;obtain⟨p,g4,g5⟩:=g3 j q hq;exact g5 M v (h1 i r j p v g1 g4 hv)
  ·obtain⟨r,g1,g2,_⟩:=h i r' hr;rw[g2];exact h2 i r g1
inductive Qf (M:Qd) (U:Env):Value->SV->Prop where
 |any (v:Value):Qf M U v .any
 |pv {v:Value} {p:PV} (h:Z4 M v p):Qf M U v (.pv p)
 |agg (cs:Array Value) (l:List SV) (hl:cs.size=l.length) (h:∀(i:Nat) (v:Value) (x:SV),cs[i]? =some v->l[i]? =some x->Qf M U v x):Qf M U (.agg cs) (.agg l)
 |tup (cs:Array Value) (l:List SV) (hl:cs.size=l.length) (h:∀(i:Nat) (v:Value) (x:SV),cs[i]? =some v->l[i]? =some x->Qf M U v x):Qf M U (.tuple cs) (.tup l)
 |ptr (s sz i j k:Nat) (p:Place) (hp:U s=some p) (hk:k=i*sz+j):Qf M U (.pointer (some ⟨p.block,k,none⟩)) (.ptr s sz i j)
 |sl (s sz st n c k:Nat) (p:Place) (hp:U s=some p) (hk:k=st*sz) (hc:(st+c)*sz<=p.cap) (hn:n<=c) (h6:c<=9223372036854775807):Qf M U (.slice (some ⟨p.block,k,none⟩) n c) (.sl s sz st n)
 |slz (s sz st:Nat) (a:Option Addr):Qf M U (.slice a 0 0) (.sl s sz st 0)
 |mp (s:Nat) (p:Place) (hp:U s=some p):Qf M U (.map (some p.block)) (.mp s)
 |yld (s:Nat) (p:Place) (hp:U s=some p):Qf M U (.func (.yield p.block) #[] #[]) (.yld s)
 |slb {v:Value} (s sz st n m:Nat) (h:Qf M U v (.sl s sz st n)) (hm:∃a n' c,v=.slice a n' c∧m<=c):Qf M U v (.slb s sz st n m)
 | fn (f:Fn) (a b:Array Value) (x y:List SV) (ha:a.size = x.length) (hb:b.size = y.length)
   (h:∀(i:Nat) (v:Value) (s:SV),a[i]? =some v->x[i]? =some s->Qf M U v s) (k:∀(i:Nat) (v:Value) (s:SV),b[i]? =some v->y[i]? =some s->Qf M U v s):Qf M U (.func f a b) (.fn f x y)
mutual
def SV.forget(d:List Nat):SV->SV
 |.agg l=>.agg (J9 d l)
 |.tup l=>.tup (J9 d l)
 |.fn f a b=>.fn f (J9 d a) (J9 d b)
 |.ptr s sz i j=>if d.contains s then .any else .ptr s sz i j
 |.sl s sz st n=>if d.contains s then .any else .sl s sz st n
 |.mp s=>if d.contains s then .any else .mp s
 |.yld s=>if d.contains s then .any else .yld s
 |.slb s sz st n m=>if d.contains s then .any else .slb s sz st n m
 |.any=>.any
 |.pv p=>.pv p
def J9(d:List Nat):List SV->List SV
 |[]=>[]
 |x::xs=>x.forget d::J9 d xs
end
theorem Qr4(d:List Nat)(l:List SV):J9 d l=l.map (SV.forget d):=by
 induction l with
 |nil=>simp[J9]
 |cons x xs ih=>simp[J9,ih]
def Env.Qah(d:List Nat)(U U':Env):Prop:=∀s p,d.contains s=false->U s=some p->U' s=some p
def Env.Qjs(d:List Nat)(U U':Env):Prop:=∀s p,d.contains s=false->U s=some p->∃p',U' s=some p'∧p'.block=p.block∧p'.cap=p.cap
theorem Env.Qah.sim{d:List Nat}{U U':Env}(h:Env.Qah d U U'):Env.Qjs d U U':=fun s p a b=>⟨p,h s p a b,rfl,rfl⟩
theorem Qf.Qaf{M M':Qd}{U U':Env}{d:List Nat}(hM:M.le M')(hρ:Env.Qjs d U U'){v:Value}{x:SV}(h:Qf M U v x):Qf M' U' v (x.forget d):=by
 induction h with
 |any v=>simp only[SV.forget];exact .any v
 |pv h=>simp only[SV.forget];exact .pv (h.mono hM)
 |agg cs l hl _ ih=>simp only[SV.forget,Qr4];refine .agg cs _ (by simpa using hl) fun i v x hv hx=>?_;simp only[ZC,ZA]at hx;obtain⟨y,hy,rfl⟩:=hx;exact ih i v y hv hy
 |tup cs l hl _ ih=>simp only[SV.forget,Qr4];refine .tup cs _ (by simpa using hl) fun i v x hv hx=>?_;simp only[ZC,ZA]at hx;obtain⟨y,hy,rfl⟩:=hx;exact ih i v y hv hy
 |ptr s sz i j k p hp hk=>
  simp only[SV.forget];split
  ·exact .any _
  ·rename_i hs;obtain⟨p',h1,h2,h3⟩:=hρ s p (by simpa using hs) hp;rw[<-h2];exact .ptr s sz i j k p' h1 hk
 |sl s sz st n c k p hp hk hc hn h6=>
  simp only[SV.forget];split
  ·exact .any _
  ·rename_i hs;obtain⟨p',h1,h2,h3⟩:=hρ s p (by simpa using hs) hp;rw[<-h2];exact .sl s sz st n c k p' h1 hk (by rw[h3];exact hc) hn h6
 |slz s sz st a=>
  simp only[SV.forget];split
  ·exact .any _
  ·exact .slz s sz st a
 |mp s p hp=>
  simp only[SV.forget];split
  ·exact .any _
  ·rename_i hs;obtain⟨p',h1,h2,h3⟩:=hρ s p (by simpa using hs) hp;rw[<-h2];exact .mp s p' h1
 |yld s p hp=>
  simp only[SV.forget];split
  ·exact .any _
  ·rename_i hs;obtain⟨p',h1,h2,h3⟩:=hρ s p (by simpa using hs) hp;rw[<-h2];exact .yld s p' h1
 |slb s sz st n m _ hm ih=>
  simp only[SV.forget]at ih⊢;split
  ·exact .any _
  ·rename_i hs;rw[if_neg hs]at ih;exact .slb s sz st n m ih hm
 |fn f a b x y ha hb _ _ ih jh=>
  simp only[SV.forget,Qr4];refine .fn f a b _ _ (by simpa using ha) (by simpa using hb) (fun i v s hv hs=>?_) (fun i v s hv hs=>?_)
  ·simp only[ZC,ZA]at hs;obtain⟨y,hy,rfl⟩:=hs;exact ih i v y hv hy
  ·simp only[ZC,ZA]at hs;obtain⟨y,hy,rfl⟩:=hs;exact jh i v y hv hy
theorem Qf.forget{M M':Qd}{U U':Env}{d:List Nat}(hM:M.le M')(hρ:Env.Qah d U U'){v:Value}{x:SV}(h:Qf M U v x):Qf M' U' v (x.forget d):=h.Qaf hM hρ.sim
theorem Qf.mono{M M':Qd}{U U':Env}(hM:M.le M')(hρ:U.le U'){v:Value}{x:SV}(h:Qf M U v x):Qf M' U' v x:=by
 induction h with
 |any v=>exact .any v
 |pv h=>exact .pv (h.mono hM)
 |agg cs l hl _ ih=>exact .agg cs l hl ih
 |tup cs l hl _ ih=>exact .tup cs l hl ih
 |ptr s sz i j k p hp hk=>exact .ptr s sz i j k p (hρ s p hp) hk
 |sl s sz st n c k p hp hk hc hn h6=>exact .sl s sz st n c k p (hρ s p hp) hk hc hn h6
 |slz s sz st a=>exact .slz s sz st a
 |mp s p hp=>exact .mp s p (hρ s p hp)
 |yld s p hp=>exact .yld s p (hρ s p hp)
 |slb s sz st n m _ hm ih=>exact .slb s sz st n m ih hm
 |fn f a b x y ha hb _ _ ih jh=>exact .fn f a b x y ha hb ih jh
inductive TT where
 |nil
 |node (l:TT) (v:Option SV) (r:TT)
def TT.get:TT->Nat->Option SV
 |.nil,_=>none
 |.node l v r,n=>bif ZF n 0 then v else bif ZF (n%2) 1 then l.get (n/2)else r.get (n/2-1)
def TT.one:Nat->Nat->SV->TT
 |0,_,_=>.nil
 |k+1,n,x=>bif ZF n 0 then .node .nil (some x) .nil else bif ZF (n%2) 1 then .node (TT.one k (n/2) x) none .nil else .node .nil none (TT.one k (n/2-1) x)
def TT.set:TT->Nat->SV->TT
 |.nil,n,x=>TT.one 12 n x
 |.node l v r,n,x=>bif ZF n 0 then .node l (some x) r else bif ZF (n%2) 1 then .node (l.set (n/2) x) v r else .node l v (r.set (n/2-1) x)
def TT.map(f:SV->SV):TT->TT
 |.nil=>.nil
 |.node l v r=>.node (l.map f) (v.map f) (r.map f)
def TT.full:Nat->TT
 |0=>.nil
 |n+1=>.node (TT.full n) none (TT.full n)
theorem TT.get_map(f:SV->SV):∀(T:TT) (t:Nat),(T.map f).get t=(T.get t).map f
 |.nil,_=>rfl
 |.node l v r,t=>by simp only[TT.map,TT.get,TT.get_map f l,TT.get_map f r];cases ZF t 0<;>cases ZF (t%2) 1<;>rfl
theorem W1{a b:Nat}(h:a=b):ZF a b=true:=by subst h;exact Nat.beq_refl a
theorem Y5{a b:Nat}(h:a≠b):ZF a b=false:=by
 cases e:ZF a b with
 |true=>exact absurd (ZM e) h
 |false=>rfl
theorem TT.Qtf:∀(k d t:Nat) (x y:SV),(TT.one k d x).get t=some y->t=d∧y=x
 |0,d,t,x,y,h=>by simp[TT.one,TT.get]at h
 |k+1,d,t,x,y,h=>by
  by_cases d0:d=0
  ·subst d0;have e0:TT.one (k+1) 0 x=.node .nil (some x) .nil:=rfl;rw[e0]at h;by_cases t0:t=0
   ·subst t0;have e1:TT.get (.node .nil (some x) .nil) 0=some x:=rfl;rw[e1]at h;cases h;exact⟨rfl,rfl⟩
   ·simp only[TT.get,Y5 t0,cond_false]at h;cases hm:ZF (t%2) 1<;>(rw[hm]at h;cases h)
  ·have ed:=Y5 d0;by_cases t0:t=0
   ·subst t0;simp only[TT.one,ed,cond_false]at h;have e2:∀l v r,TT.get (.node l v r) 0=v:=fun _ _ _=>rfl;cases hm:ZF (d%2) 1<;>(rw[hm]at h;simp only[cond_true,cond_false,e2]at h;cases h)
   ·have et:=Y5 t0;simp only[TT.one,ed,cond_false]at h;by_cases hd:d%2=1<;>by_cases ht:t%2=1<;>first|simp only[W1 hd]at h|simp only[Y5 hd]at h
    all_goals simp only[cond_true,cond_false,TT.get,et]at h
    ·simp only[W1 ht,cond_true]at h;obtain⟨e,rfl⟩:=TT.Qtf k _ _ _ _ h;exact⟨by omega,rfl⟩
    ·simp only[Y5 ht,cond_false]at h;cases h
    ·simp only[W1 ht,cond_true]at h;cases h
    ·simp only[Y5 ht,cond_false]at h;obtain⟨e,rfl⟩:=TT.Qtf k _ _ _ _ h;exact⟨by omega,rfl⟩
theorem TT.W6:∀(T:TT) (d t:Nat) (x y:SV),(T.set d x).get t=some y->(t=d∧y=x)∨(t≠d∧T.get t=some y)
 |.nil,d,t,x,y,h=>.inl (TT.Qtf 12 d t x y h)
 |.node l v r,d,t,x,y,h=>by
  by_cases d0:d=0
  ·subst d0;have e0:TT.set (.node l v r) 0 x=.node l (some x) r:=rfl;rw[e0]at h;by_cases t0:t=0
   ·subst t0;have e1:TT.get (.node l (some x) r) 0=some x:=rfl;rw[e1]at h;cases h;exact .inl ⟨rfl,rfl⟩
   ·have e:=Y5 t0;simp only[TT.get,e,cond_false]at h;exact .inr ⟨t0,by simp only[TT.get,e,cond_false];exact h⟩
  ·have ed:=Y5 d0;by_cases t0:t=0
   ·subst t0;refine .inr ⟨fun e=>d0 e.symm,?_⟩;simp only[TT.set,ed,cond_false]at h;have e2:∀l r,TT.get (.node l v r) 0=v:=fun _ _=>rfl;cases hm:ZF (d%2) 1<;>(rw[hm]at h;simp only[cond_true,cond_false,e2]at h;rw[e2];exact h)
   ·have et:=Y5 t0;simp only[TT.set,ed,cond_false]at h;by_cases hd:d%2=1<;>by_cases ht:t%2=1<;>first|simp only[W1 hd]at h|simp only[Y5 hd]at h
    all_goals simp only[cond_true,cond_false,TT.get,et]at h⊢
    ·simp only[W1 ht,cond_true]at h⊢;rcases TT.W6 l _ _ _ _ h with⟨e,rfl⟩|⟨e,h⟩
     ·exact .inl ⟨by omega,rfl⟩
     ·exact .inr ⟨fun e'=>e (by rw[e']),h⟩
    ·simp only[Y5 ht,cond_false]at h⊢;exact .inr ⟨fun e=>ht (by rw[e];exact hd),h⟩
    ·simp only[W1 ht,cond_true]at h⊢;exact .inr ⟨fun e=>hd (by rw[<-e];exact ht),h⟩
    ·simp only[Y5 ht,cond_false]at h⊢;rcases TT.W6 r _ _ _ _ h with⟨e,rfl⟩|⟨e,h⟩
     ·exact .inl ⟨by omega,rfl⟩
     ·exact .inr ⟨fun e'=>e (by rw[e']),h⟩
theorem TT.Qgk:∀(n t:Nat),(TT.full n).get t=none
 |0,_=>rfl
 |n+1,t=>by simp only[TT.full,TT.get,TT.Qgk n];cases ZF t 0<;>cases ZF (t%2) 1<;>rfl
structure Qfk where
 state:LoopState
 pending:Option Code
 T:TT
 nt:Nat
 params:Array Tmp
 assign:Code
 body:Code
def Qyn:Exit->Option (Option Code)
 |.normal=>some none
 |.ret=>some (some .ret)
 |.exit id=>some (some (.exit id))
 |.goto t=>some (some (.goto t))
 |_=>none
inductive Qb where
 |vec (ty sz:Nat) (rows:List (List PV))
 |tvec (ty:Nat) (row:List Ty) (l:List (Qj row))
 |mix (ty sz:Nat) (rows:List (List SV))
 |tlnk (ty:Nat) (row:List Ty) (l:List (Qj row)) (r c:Nat) (x:SV)
 |nest (ty ity:Nat) (row:List Ty) (ll:List (List (Qj row))) (op:Option (Nat×SV))
 |map (es:List (Value×SV×Nat)) (clock:Nat)
 |tmap (k v:Qe) (l:List (k.El×v.El))
 |iter (s:ByteArray) (pos:Nat)
 |loop (l:Qfk)
 |over (st:LoopState) (pd:Option Code)
 |mit (m:Option Nat) (clock:Nat) (seen:List Nat)
 |dfr (shut:Bool)
 |dead
instance:Inhabited Qb:=⟨.dead⟩
def Qb.live:Qb->Bool
 |.dead=>false
 |_=>true
def Qb.forget(d:List Nat):Qb->Qb
 |.mix ty sz rows=>.mix ty sz (rows.map (·.map (SV.forget d)))
 |.tlnk ty row l r c x=>.tlnk ty row l r c (x.forget d)
 |.nest ty ity row ll op=>.nest ty ity row ll (op.map fun x=>(x.1,x.2.forget d))
 |.map es c=>.map (es.map fun e=>(e.1,e.2.1.forget d,e.2.2)) c
 |.loop l=>.loop {l with T:=l.T.map (SV.forget d)}
 |.mit m c s=>.mit (m.bind fun x=>bif d.contains x then none else some x) c s
 |o=>o
structure Kd (M:Qd) (U:Env) (w:World) (p:Place) (ty sz n:Nat) (cell:Nat->Nat->Option SV):Prop where
 ex:∃cs,w.heap[p.block]? =some (.cells cs ty (0,0))∧p.cap<=cs.size∧n*sz<=p.cap∧
  (∀i j,i<n->j<sz->∃v,cs[i*sz+j]? =some v∧Wv v=true)∧
  (∀i j x v,cell i j=some x->cs[i*sz+j]? =some v->i<n∧j<sz∧Qf M U v x)∧
  (∀i j x,cell i j=some x->i<n∧j<sz)
def Ys(rows:List (List PV))(i j:Nat):Option SV:=(rows[i]?.bind (·[j]?)).map .pv
def Xz(rows:List (List SV))(i j:Nat):Option SV:=rows[i]?.bind (·[j]?)
def Wb(row:List Ty)(l:List (Qj row))(r c:Nat)(x:SV)(i j:Nat):Option SV:=(Ys (Qw row l) i j).map fun y=>if i=r∧j=c then x else y
structure Qeo (M:Qd) (U:Env) (w:World) (p:Place) (ty ity:Nat) (row:List Ty) (ll:List (List (Qj row))) (op:Option (Nat×SV)):Prop where
 ex:∃(cs:Array Value) (bl:Nat->Option Nat),w.heap[p.block]? =some (.cells cs ty (0,0))∧p.cap<=cs.size∧ll.length<=p.cap∧
  (∀i,i<ll.length->∃v,cs[i]? =some v∧Wv v=true)∧
  (∀i l,ll[i]? =some l->(∀x,op=some x->x.1≠i)->∃v,cs[i]? =some v∧
   ((bl i = none ∧ l = [] ∧ ∃ a,v = .slice a 0 0) ∨
    ∃b n c cap,bl i=some b∧b∈p.subs∧v=.slice (some ⟨b,0,none⟩) n c∧n=l.length∧n<=c∧c<=9223372036854775807∧c*row.length<=cap∧
    Kd M U w ⟨b,cap,[]⟩ ity row.length (Qw row l).length (Ys (Qw row l))))∧
  (∀i x,op=some (i,x)->i<ll.length∧∀v,cs[i]? =some v->Qf M U v x)∧
  (∀i j b,bl i=some b->bl j=some b->i=j)∧
  ¬p.block∈p.subs
def Wk(M:Qd)(U:Env)(w:World)(s:Nat)(es:List (Value×SV×Nat))(clock:Nat):Prop:=
 ∃p arr,U s=some p∧w.heap[p.block]? =some (.map arr clock)∧arr.size=es.length∧
  ∀(i:Nat) (k:Value) (x:SV) (b:Nat),es[i]? =some (k,x,b)->∃e:MapEntry,arr[i]? =some e∧e.key=k∧e.born=b∧Qf M U e.val x
def Q9(M:Qd)(U:Env)(w:World)(s:Nat):Qb->Prop
 |.dead=>True
 |.vec ty sz rows=>(U s=none∧rows=[])∨∃p,U s=some p∧Kd M U w p ty sz rows.length (Ys rows)
 |.tvec ty row l=>(U s=none∧Qw row l=[])∨∃p,U s=some p∧Kd M U w p ty row.length (Qw row l).length (Ys (Qw row l))
 |.mix ty sz rows=>(U s=none∧rows=[])∨∃p,U s=some p∧Kd M U w p ty sz rows.length (Xz rows)
 |.tlnk ty row l r c x=>(U s=none∧Qw row l=[])∨∃p,U s=some p∧Kd M U w p ty row.length (Qw row l).length (Wb row l r c x)
 |.nest ty ity row ll op=>(U s=none∧ll=[]∧op=none)∨∃p,U s=some p∧Qeo M U w p ty ity row ll op
 |.map es clock=>Wk M U w s es clock
 |.tmap k v l=>Wk M U w s (Xg k v 0 l) l.length
 |.iter str pos=>∃p,U s=some p∧w.heap[p.block]? =some (.stringIter str pos)
 |.loop l=>∃p fn tmps d,U s=some p∧w.heap[p.block]? =some (.loop {state:=l.state,pending:=l.pending,fn:=fn,tmps:=tmps,params:=l.params,assign:=l.assign,body:=l.body,defers:=d})∧tmps.size=l.nt∧
   ∀t x,l.T.get t=some x->Qf M U (tmps.getD t undef) x
 |.over st pd=>∃(p:Place) (r:Loop),U s=some p∧w.heap[p.block]? =some (.loop r)∧r.state=st∧r.pending=pd
 |.mit m c seen=>∃(p:Place) (q:Option Nat) (sn:Array Nat),U s=some p∧w.heap[p.block]? =some (.mapIter q c sn c)∧sn.toList=seen∧∀mm,m=some mm->∃pm,U mm=some pm∧q=some pm.block
 |.dfr shut=>∃p,U s=some p∧w.heap[p.block]? =some (.deferred (if shut then none else some []))
structure Mem (M:Qd) (U:Env) (H:List Qb) (w:World):Prop where
 imm:∀b o,M b=some o->w.heap[b]? =some o
 own:∀s o,H[s]? =some o->Q9 M U w s o
 seps:∀s o p b,H[s]? =some o->o.live=true->U s=some p->p.has b->M b=none
 diss:∀s s' o o' p p' b,H[s]? =some o->H[s']? =some o'->o.live=true->o'.live=true->U s=some p->U s'=some p'->p.has b->p'.has b->s=s'
 fresh:∀s,H.length<=s->U s=none
 lts:∀s o p b,H[s]? =some o->o.live=true->U s=some p->b∈p.subs->b<w.heap.size
theorem Mem.sep{M:Qd}{U:Env}{H:List Qb}{w:World}(h:Mem M U H w):∀s o p,H[s]? =some o->o.live=true->U s=some p->M p.block=none:=
 fun s o p a b c=>h.seps s o p _ a b c p.self
def J7(U:Env)(H:List Qb)(b:Nat):Prop:=∃s o p,H[s]? =some o∧o.live=true∧U s=some p∧p.has b
theorem Kd.mono{M M':Qd}{U U':Env}{w w':World}{p:Place}{ty sz n:Nat}{cell:Nat->Nat->Option SV}(hM:M.le M')(hρ:U.le U')
  (hw:w'.heap[p.block]? =w.heap[p.block]?) (h:Kd M U w p ty sz n cell):Kd M' U' w' p ty sz n cell:=by
 obtain⟨cs,h1,h2,h3,h4,h5,h6⟩:=h.ex;exact⟨cs,hw.trans h1,h2,h3,h4,fun i j x v hx hv=>let⟨a,b,c⟩:=h5 i j x v hx hv;⟨a,b,c.mono hM hρ⟩,h6⟩
theorem Qeo.goes{M M':Qd}{U U':Env}{w w':World}{p p':Place}{ty ity:Nat}{row:List Ty}{ll:List (List (Qj row))}{op op':Option (Nat×SV)}(hM:M.le M')(hb:p'.block=p.block)(hc:p'.cap=p.cap)(hsb:p'.subs=p.subs)
  (hw:∀b,p.has b->w'.heap[b]? =w.heap[b]?) (hi:op'.map Prod.fst=op.map Prod.fst) (hx:∀i x y v,op=some (i,x)->op'=some (i,y)->Qf M U v x->Qf M' U' v y)
  (h:Qeo M U w p ty ity row ll op):Qeo M' U' w' p' ty ity row ll op':=by
 obtain⟨cs,bl,h1,h2,h3,h4,h5,h6,h7,h8⟩:=h.ex;refine⟨cs,bl,by rw[hb,hw _ p.self];exact h1,by rw[hc];exact h2,by rw[hc];exact h3,h4,fun i l hl hne=>?_,fun i y hy=>?_,h7,by rw[hb,hsb];exact h8⟩
 ·obtain⟨v,hv,k⟩:=h5 i l hl (fun x hx'=>by
   cases op' with
   |none=>rw[hx']at hi;cases hi
   |some y=>rw[hx']at hi;simp only[ZU,ZE]at hi;rw[<-hi];exact hne y rfl)
  refine⟨v,hv,?_⟩;rcases k with k|⟨b,n,c,cap,k1,k2,k3,k4,k5,k6,k7,k8⟩
  ·exact .inl k
  ·refine .inr ⟨b,n,c,cap,k1,by rw[hsb];exact k2,k3,k4,k5,k6,k7,?_⟩;obtain⟨cs',a1,a2,a3,a4,a5,a6⟩:=k8.ex;refine⟨cs',(hw b (.inr k2)).trans a1,a2,a3,a4,fun i j x v hx hv=>?_,a6⟩;obtain⟨b1,b2,b3⟩:=a5 i j x v hx hv;refine⟨b1,b2,?_⟩;unfold Ys at hx;simp only[ZA]at hx;obtain⟨q,_,rfl⟩:=hx;cases b3 with
   |pv b3=>exact .pv (b3.mono hM)
 ·cases e:op with
  |none=>rw[e,hy]at hi;cases hi
  |some x=>
   obtain⟨j,x⟩:=x;have hij:i=j:=by rw[e,hy]at hi;simpa using hi
   subst hij;obtain⟨a,b⟩:=h6 i x e;exact⟨a,fun v hv=>hx i x y v e hy (b v hv)⟩
theorem Q9.tvec{M:Qd}{U:Env}{w:World}{s ty:Nat}{row:List Ty}{l:List (Qj row)}:Q9 M U w s (.tvec ty row l)=Q9 M U w s (.vec ty row.length (Qw row l)):=rfl
theorem Q9.mono{M M':Qd}{U U':Env}{w w':World}{s:Nat}{o:Qb}(hM:M.le M')(hρ:U.le U')(hs:U' s=U s)
  (hw:∀p b,U s=some p->p.has b->w'.heap[b]? =w.heap[b]?) (h:Q9 M U w s o):Q9 M' U' w' s o:=by
 have hws:=hw;replace hw:∀p,U s=some p->w'.heap[p.block]? =w.heap[p.block]? :=fun p hp=>hws p _ hp p.self;cases o with
 |dead=>trivial
 |vec ty sz rows=>
  rcases h with⟨h1,h2⟩|⟨p,h1,h2⟩
  ·exact .inl ⟨hs.trans h1,h2⟩
  ·exact .inr ⟨p,hs.trans h1,h2.mono hM hρ (hw p h1)⟩
 |tvec ty row l=>
  rcases h with⟨h1,h2⟩|⟨p,h1,h2⟩
  ·exact .inl ⟨hs.trans h1,h2⟩
  ·exact .inr ⟨p,hs.trans h1,h2.mono hM hρ (hw p h1)⟩
 |mix ty sz rows=>
  rcases h with⟨h1,h2⟩|⟨p,h1,h2⟩
  ·exact .inl ⟨hs.trans h1,h2⟩
  ·exact .inr ⟨p,hs.trans h1,h2.mono hM hρ (hw p h1)⟩
 |tlnk ty row l r c x=>
  rcases h with⟨h1,h2⟩|⟨p,h1,h2⟩
  ·exact .inl ⟨hs.trans h1,h2⟩
  ·exact .inr ⟨p,hs.trans h1,h2.mono hM hρ (hw p h1)⟩
 |nest ty ity row ll op=>
  rcases h with⟨h1,h2,h3⟩|⟨p,h1,h2⟩
  ·exact .inl ⟨hs.trans h1,h2,h3⟩
  exact .inr ⟨p,hs.trans h1,h2.goes hM rfl rfl rfl (fun b hb=>hws p b h1 hb) rfl fun i x y v e1 e2 hr=>by rw[e1]at e2;cases e2;exact hr.mono hM hρ⟩
 |map es clock=>obtain⟨p,arr,h1,h2,h3,h4⟩:=h;exact⟨p,arr,hs.trans h1,(hw p h1).trans h2,h3,fun i k x b hi=>let⟨e,a,b',c,d⟩:=h4 i k x b hi;⟨e,a,b',c,d.mono hM hρ⟩⟩
 |tmap k v l=>obtain⟨p,arr,h1,h2,h3,h4⟩:=h;exact⟨p,arr,hs.trans h1,(hw p h1).trans h2,h3,fun i k x b hi=>let⟨e,a,b',c,d⟩:=h4 i k x b hi;⟨e,a,b',c,d.mono hM hρ⟩⟩
 |iter str pos=>obtain⟨p,h1,h2⟩:=h;exact⟨p,hs.trans h1,(hw p h1).trans h2⟩
 |loop l=>obtain⟨p,fn,tmps,d,h1,h2,h3,h4⟩:=h;exact⟨p,fn,tmps,d,hs.trans h1,(hw p h1).trans h2,h3,fun t x hx=>(h4 t x hx).mono hM hρ⟩
 |mit m c sn=>obtain⟨p,q,sn,h1,h2,h3,h4⟩:=h;exact⟨p,q,sn,hs.trans h1,(hw p h1).trans h2,h3,fun mm e=>let⟨pm,a,b⟩:=h4 mm e;⟨pm,hρ mm pm a,b⟩⟩
 |over st pd=>obtain⟨p,r,h1,h2,h3⟩:=h;exact⟨p,r,hs.trans h1,(hw p h1).trans h2,h3⟩
 |dfr shut=>obtain⟨p,h1,h2⟩:=h;exact⟨p,hs.trans h1,(hw p h1).trans h2⟩
theorem Zaw(d:List Nat)(rows:List (List SV))(i j:Nat):Xz (rows.map (·.map (SV.forget d))) i j=(Xz rows i j).map (SV.forget d):=by
 unfold Xz;simp only[ZC];cases rows[i]? with
 |none=>rfl
 |some r=>simp
theorem Zd8{d:List Nat}{row:List Ty}{l:List (Qj row)}{r c:Nat}{x:SV}{i j:Nat}:Wb row l r c (x.forget d) i j=(Wb row l r c x i j).map (SV.forget d):=by
 unfold Wb Ys;simp only[Option.map_map];congr 1;funext y;simp only[Function.comp];split
 ·rfl
 ·rfl
theorem Zne(d:List Nat)(l:List PV):J9 d (l.map .pv)=l.map .pv:=by
 induction l with
 |nil=>rfl
 |cons x l ih=>simp only[ZJ,J9,SV.forget,ih]
theorem Qe.Yss(d:List Nat):∀(a:Qe) (x:a.El),(a.raw x).forget d=a.raw x
 |.val t,x=>rfl
 |.agg row,x=>by simp only[Qe.raw,SV.forget,Zne]
theorem Qcl{k v:Qe}:∀(l:List (k.El×v.El)) (n:Nat),(Xg k v n l).length=l.length
 |[],n=>rfl
 |x::l,n=>by simp[Xg,Qcl l (n+1)]
theorem Zec{k v:Qe}{d:List Nat}:∀(l:List (k.El×v.El)) (n i:Nat) (kk:Value) (x:SV) (b:Nat),(Xg k v n l)[i]? =some (kk,x,b)->x.forget d=x
 |[],n,i,kk,x,b,h=>by simp[Xg]at h
 |y::l,n,i,kk,x,b,h=>by
  cases i with
  |zero=>simp only[Xg,ZL,ZE,Prod.mk.injEq]at h;obtain⟨_,rfl,_⟩:=h;exact Qe.Yss d v y.2
  |succ i=>exact Zec l (n+1) i kk x b (by simpa[Xg]using h)
theorem Q9.Qaf{M M':Qd}{U U':Env}{w w':World}{s:Nat}{d:List Nat}{o:Qb}(hM:M.le M')(hρ:Env.Qjs d U U')(hs:U' s=U s)
  (hw:∀p b,U s=some p->p.has b->w'.heap[b]? =w.heap[b]?) (h:Q9 M U w s o):Q9 M' U' w' s (o.forget d):=by
 have hws:=hw;replace hw:∀p,U s=some p->w'.heap[p.block]? =w.heap[p.block]? :=fun p hp=>hws p _ hp p.self;cases o with
 |dead=>trivial
 |vec ty sz rows=>
  rcases h with⟨h1,h2⟩|⟨p,h1,h2⟩
  ·exact .inl ⟨hs.trans h1,h2⟩
  ·refine .inr ⟨p,hs.trans h1,?_⟩;obtain⟨cs,a1,a2,a3,a4,a5,a6⟩:=h2.ex;refine⟨cs,(hw p h1).trans a1,a2,a3,a4,fun i j x v hx hv=>?_,a6⟩;obtain⟨b1,b2,b3⟩:=a5 i j x v hx hv;refine⟨b1,b2,?_⟩;unfold Ys at hx;simp only[ZA]at hx;obtain⟨q,_,rfl⟩:=hx;cases b3 with
   |pv b3=>exact .pv (b3.mono hM)
 |tvec ty row l=>
  rcases h with⟨h1,h2⟩|⟨p,h1,h2⟩
  ·exact .inl ⟨hs.trans h1,h2⟩
  ·refine .inr ⟨p,hs.trans h1,?_⟩;obtain⟨cs,a1,a2,a3,a4,a5,a6⟩:=h2.ex;refine⟨cs,(hw p h1).trans a1,a2,a3,a4,fun i j x v hx hv=>?_,a6⟩;obtain⟨b1,b2,b3⟩:=a5 i j x v hx hv;refine⟨b1,b2,?_⟩;unfold Ys at hx;simp only[ZA]at hx;obtain⟨q,_,rfl⟩:=hx;cases b3 with
   |pv b3=>exact .pv (b3.mono hM)
 |mix ty sz rows=>
  rcases h with⟨h1,h2⟩|⟨p,h1,h2⟩
  ·exact .inl ⟨hs.trans h1,by simp[h2]⟩
  ·refine .inr ⟨p,hs.trans h1,?_⟩;obtain⟨cs,a1,a2,a3,a4,a5,a6⟩:=h2.ex;refine⟨cs,(hw p h1).trans a1,a2,by simpa using a3,by simpa using a4,fun i j x v hx hv=>?_,fun i j x hx=>?_⟩
   ·rw[Zaw,ZA]at hx;obtain⟨y,hy,rfl⟩:=hx;obtain⟨b1,b2,b3⟩:=a5 i j y v hy hv;exact⟨by simpa using b1,b2,b3.Qaf hM hρ⟩
   ·rw[Zaw,ZA]at hx;obtain⟨y,hy,rfl⟩:=hx;simpa using a6 i j y hy
 |tlnk ty row l r c x=>
  rcases h with⟨h1,h2⟩|⟨p,h1,h2⟩
  ·exact .inl ⟨hs.trans h1,h2⟩
  ·refine .inr ⟨p,hs.trans h1,?_⟩;obtain⟨cs,a1,a2,a3,a4,a5,a6⟩:=h2.ex;refine⟨cs,(hw p h1).trans a1,a2,a3,a4,fun i j x v hx hv=>?_,fun i j x hx=>?_⟩
   ·rw[Zd8,ZA]at hx;obtain⟨y,hy,rfl⟩:=hx;obtain⟨b1,b2,b3⟩:=a5 i j y v hy hv;exact⟨b1,b2,b3.Qaf hM hρ⟩
   ·rw[Zd8,ZA]at hx;obtain⟨y,hy,rfl⟩:=hx;exact a6 i j y hy
 |nest ty ity row ll op=>
  rcases h with⟨h1,h2,h3⟩|⟨p,h1,h2⟩
  ·subst h3;exact .inl ⟨hs.trans h1,h2,rfl⟩
  refine .inr ⟨p,hs.trans h1,h2.goes hM rfl rfl rfl (fun b hb=>hws p b h1 hb) (by cases op<;>rfl) fun i x y v e1 e2 hr=>?_⟩;rw[e1]at e2;simp only[ZU,ZE,Prod.mk.injEq,true_and]at e2;subst e2;exact hr.Qaf hM hρ
 |map es clock=>obtain⟨p,arr,h1,h2,h3,h4⟩:=h;refine⟨p,arr,hs.trans h1,(hw p h1).trans h2,by simpa using h3,fun i k x b hi=>?_⟩;simp only[ZC,ZA]at hi;obtain⟨⟨k',x',b'⟩,he,hq⟩:=hi;simp only[Prod.mk.injEq]at hq;obtain⟨rfl,rfl,rfl⟩:=hq;obtain⟨e,c1,c2,c3,c4⟩:=h4 i k' x' b' he;exact⟨e,c1,c2,c3,c4.Qaf hM hρ⟩
 |tmap k v l=>obtain⟨p,arr,h1,h2,h3,h4⟩:=h;refine⟨p,arr,hs.trans h1,(hw p h1).trans h2,h3,fun i kk x b hi=>?_⟩;obtain⟨e,c1,c2,c3,c4⟩:=h4 i kk x b hi;refine⟨e,c1,c2,c3,?_⟩;have:=c4.Qaf hM hρ;rwa[Zec l 0 i kk x b hi]at this
 |iter str pos=>obtain⟨p,h1,h2⟩:=h;exact⟨p,hs.trans h1,(hw p h1).trans h2⟩
 |loop l=>obtain⟨p,fn,tmps,q,h1,h2,h3,h4⟩:=h;refine⟨p,fn,tmps,q,hs.trans h1,(hw p h1).trans h2,h3,fun t x hx=>?_⟩;rw[TT.get_map,ZA]at hx;obtain⟨y,hy,rfl⟩:=hx;exact(h4 t y hy).Qaf hM hρ
 |mit m c sn=>
  obtain⟨p,q,sn,h1,h2,h3,h4⟩:=h;refine⟨p,q,sn,hs.trans h1,(hw p h1).trans h2,h3,fun mm e=>?_⟩;cases m with
  |none=>cases e
  |some x=>
   simp only[Option.bind_some]at e;cases hd:d.contains x with
   |true=>rw[hd]at e;cases e
   |false=>rw[hd]at e;have e:x=mm:=ZV e;subst e;obtain⟨pm,a,b⟩:=h4 _ rfl;obtain⟨p',h1,h2,h3⟩:=hρ _ pm hd a;exact⟨p',h1,by rw[h2];exact b⟩
 |over st pd=>obtain⟨p,r,h1,h2,h3⟩:=h;exact⟨p,r,hs.trans h1,(hw p h1).trans h2,h3⟩
 |dfr shut=>obtain⟨p,h1,h2⟩:=h;exact⟨p,hs.trans h1,(hw p h1).trans h2⟩
theorem Q9.forget{M M':Qd}{U U':Env}{w w':World}{s:Nat}{d:List Nat}{o:Qb}(hM:M.le M')(hρ:Env.Qah d U U')(hs:U' s=U s)
  (hw:∀p b,U s=some p->p.has b->w'.heap[b]? =w.heap[b]?) (h:Q9 M U w s o):Q9 M' U' w' s (o.forget d):=h.Qaf hM hρ.sim hs hw
theorem Vv(d:List Nat)(o:Qb):(o.forget d).live=o.live:=by cases o<;>rfl
theorem Q9.lt{M:Qd}{U:Env}{w:World}{s:Nat}{o:Qb}{p:Place}(h:Q9 M U w s o)(hl:o.live=true)(hp:U s=some p):p.block<w.heap.size:=by
 have key:∀x,w.heap[p.block]? =some x->p.block<w.heap.size:=fun x hx=>(Array.getElem?_eq_some_iff.1 hx).1;cases o with
 |dead=>simp[Qb.live]at hl
 |vec ty sz rows=>
  rcases h with⟨h1,_⟩|⟨q,h1,h2⟩
  ·rw[hp]at h1;cases h1
  ·rw[hp]at h1;cases h1;obtain⟨cs,a1,_⟩:=h2.ex;exact key _ a1
 |tvec ty row l=>
  rcases h with⟨h1,_⟩|⟨q,h1,h2⟩
  ·rw[hp]at h1;cases h1
  ·rw[hp]at h1;cases h1;obtain⟨cs,a1,_⟩:=h2.ex;exact key _ a1
 |mix ty sz rows=>
  rcases h with⟨h1,_⟩|⟨q,h1,h2⟩
  ·rw[hp]at h1;cases h1
  ·rw[hp]at h1;cases h1;obtain⟨cs,a1,_⟩:=h2.ex;exact key _ a1
 |tlnk ty row l r c x=>
  rcases h with⟨h1,_⟩|⟨q,h1,h2⟩
  ·rw[hp]at h1;cases h1
  ·rw[hp]at h1;cases h1;obtain⟨cs,a1,_⟩:=h2.ex;exact key _ a1
 |nest ty ity row ll op=>
  rcases h with⟨h1,_⟩|⟨q,h1,h2⟩
  ·rw[hp]at h1;cases h1
  ·rw[hp]at h1;cases h1;obtain⟨cs,bl,a1,_⟩:=h2.ex;exact key _ a1
 |map es clock=>obtain⟨q,arr,h1,h2,_⟩:=h;rw[hp]at h1;cases h1;exact key _ h2
 |tmap k v l=>obtain⟨q,arr,h1,h2,_⟩:=h;rw[hp]at h1;cases h1;exact key _ h2
 |iter str pos=>obtain⟨q,h1,h2⟩:=h;rw[hp]at h1;cases h1;exact key _ h2
 |loop l=>obtain⟨q,fn,tmps,d,h1,h2,_⟩:=h;rw[hp]at h1;cases h1;exact key _ h2
 |mit m c sn=>obtain⟨q,r,sn,h1,h2,_⟩:=h;rw[hp]at h1;cases h1;exact key _ h2
 |over st pd=>obtain⟨q,r,h1,h2,_⟩:=h;rw[hp]at h1;cases h1;exact key _ h2
 |dfr shut=>obtain⟨q,h1,h2⟩:=h;rw[hp]at h1;cases h1;exact key _ h2
theorem Mem.J0{M:Qd}{U:Env}{H:List Qb}{w:World}(h:Mem M U H w){s:Nat}{o:Qb}{p:Place}{b:Nat}(ho:H[s]? =some o)(hl:o.live=true)(hp:U s=some p)(hb:p.has b):b<w.heap.size:=by
 rcases hb with rfl|hb
 ·exact(h.own s o ho).lt hl hp
 ·exact h.lts s o p b ho hl hp hb
theorem Mem.Qnj{M:Qd}{U:Env}{H:List Qb}{w:World}(h:Mem M U H w){b:Nat}{o:Obj}(hb:M b=some o):b<w.heap.size:=
 (Array.getElem?_eq_some_iff.1 (h.imm b o hb)).1
theorem Mem.Zmb{M:Qd}{U:Env}{H:List Qb}{w:World}(h:Mem M U H w){b:Nat}(hb:w.heap.size<=b):M b=none:=by
 cases e:M b with
 |none=>rfl
 |some o=>have:=h.Qnj e;omega
end Go.Sx
end
section
namespace Go.Sx
open Go
mutual
def Ty.beq:Ty->Ty->Bool
 |.int k,.int k'=>decide (k=k')
 |.bool,.bool=>true
 |.str,.str=>true
 |.seq r,.seq r'=>Ty.Qc0 r r'
 |_,_=>false
def Ty.Qc0:List Ty->List Ty->Bool
 |[],[]=>true
 |a::l,b::m=>a.beq b&&Ty.Qc0 l m
 |_,_=>false
end
mutual
theorem Ty.beq_eq:∀(a b:Ty),a.beq b=true->a=b
 |.int k,b,h=>by cases b<;>simp_all [Ty.beq]
 |.bool,b,h=>by cases b<;>simp_all [Ty.beq]
 |.str,b,h=>by cases b<;>simp_all [Ty.beq]
 |.seq r,b,h=>by
  cases b with
  |seq r'=>simp only[Ty.beq]at h;rw[Ty.Qnq r r' h]
  |_=>simp[Ty.beq]at h
theorem Ty.Qnq:∀(a b:List Ty),Ty.Qc0 a b=true->a=b
 |[],b,h=>by cases b<;>simp_all [Ty.Qc0]
 |x::l,b,h=>by
  cases b with
  |nil=>simp[Ty.Qc0]at h
  |cons y m=>simp only[Ty.Qc0,Bool.and_eq_true]at h;rw[Ty.beq_eq x y h.1,Ty.Qnq l m h.2]
end
def Qyf(r r':List Ty)(l:List (Qj r)):(b:Bool)->(b=true->r=r')->Option (List (Qj r'))
 |true,h=>some (h rfl▸l)
 |false,_=>none
def K5(r r':List Ty)(l:List (Qj r)):Option (List (Qj r')):=Qyf r r' l (Ty.Qc0 r r') (Ty.Qnq r r')
theorem Qa9{r r':List Ty}{l:List (Qj r)}{l':List (Qj r')}(h:K5 r r' l=some l'):∃e:r=r',l'=e▸l:=by
 have:∀(b:Bool) (f:b=true->r=r'),Qyf r r' l b f=some l'->∃e:r=r',l'=e▸l:=by
  intro b f h;cases b with
  |true=>simp only[Qyf,ZE]at h;exact⟨f rfl,h.symm⟩
  |false=>cases h
 exact this _ _ h
def Qwa(r r':List Ty)(l:List (List (Qj r))):(b:Bool)->(b=true->r=r')->Option (List (List (Qj r')))
 |true,h=>some (h rfl▸l)
 |false,_=>none
def Qq4(r r':List Ty)(l:List (List (Qj r))):Option (List (List (Qj r'))):=Qwa r r' l (Ty.Qc0 r r') (Ty.Qnq r r')
theorem Zgt{r r':List Ty}{l:List (List (Qj r))}{l':List (List (Qj r'))}(h:Qq4 r r' l=some l'):∃e:r=r',l'=e▸l:=by
 have:∀(b:Bool) (f:b=true->r=r'),Qwa r r' l b f=some l'->∃e:r=r',l'=e▸l:=by
  intro b f h;cases b with
  |true=>simp only[Qwa,ZE]at h;exact⟨f rfl,h.symm⟩
  |false=>cases h
 exact this _ _ h
def Wn{α β:Type}(f:α->Option β):List α->Option (List β)
 |[]=>some []
 |x::l=>match f x,Wn f l with
  |some y,some ys=>some (y::ys)
  |_,_=>none
theorem Qj7{α β:Type}{f:α->Option β}:∀{l:List α} {l':List β},Wn f l=some l'->l'.length=l.length∧∀(i:Nat) (y:β),l'[i]? =some y->∃x,l[i]? =some x∧f x=some y
 |[],l',h=>by simp[Wn]at h;subst h;simp
 |x::l,l',h=>by
  simp only[Wn]at h;split at h
  ·rename_i y ys h1 h2;cases h;obtain⟨g1,g2⟩:=Qj7 h2;refine⟨by simp[g1],fun i z hz=>?_⟩;cases i with
   |zero=>simp at hz;subst hz;exact⟨x,rfl,h1⟩
   |succ i=>simp at hz;simpa using g2 i z hz
  ·cases h
def Value.asInt(k:IntKind):Value->Option Int
 |.int k' n=>if k=k' then some n else none
 |_=>none
def Value.asBool:Value->Option Bool
 |.bool b=>some b
 |_=>none
def Value.Zme:Value->Option ByteArray
 |.string b=>some b
 |_=>none
def Value.isNil:Value->Bool
 |.slice none a b=>ZF a 0&&ZF b 0
 |_=>false
def Qpx(k:IntKind):PV->Option Int
 |.lit v=>Value.asInt k v
 |_=>none
def Qpi:PV->Option Bool
 |.lit v=>Value.asBool v
 |_=>none
def Qqr:PV->Option ByteArray
 |.lit v=>Value.Zme v
 |_=>none
def Qu4(row:List Ty)(f:List PV->Option (Qj row)):PV->Option (List (Qj row))
 |.rsl sz rows=>if sz=row.length then Wn f rows else none
 |.tsl row' l=>K5 row' row l
 |.csl row' l=>K5 row' row l
 |.lit v=>if Value.isNil v=true then some []else none
 |_=>none
def Quq:List PV->Option Unit
 |[]=>some ()
 |_=>none
def oneOf{α:Type}(f:PV->Option α):List PV->Option α
 |[p]=>f p
 |_=>none
def Qtq{α β:Type}(f:PV->Option α)(g:List PV->Option β):List PV->Option (α×β)
 |p::ps=>match f p,g ps with
  |some x,some y=>some (x,y)
  |_,_=>none
 |[]=>none
mutual
def Ty.of:(t:Ty)->PV->Option t.El
 |.int k=>Qpx k
 |.bool=>Qpi
 |.str=>Qqr
 |.seq row=>Qu4 row (ofRow row)
def ofRow:(ts:List Ty)->List PV->Option (Qj ts)
 |[]=>Quq
 |[t]=>oneOf t.of
 |t::t'::ts=>Qtq t.of (ofRow (t'::ts))
end
def Qdr{α:Type}(f:PV->Option α)(g:α->PV):Prop:=∀(p:PV) (x:α),f p=some x->∀(M:Qd) (v:Value),Z4 M v p->Z4 M v (g x)
def Qg0{α:Type}(f:List PV->Option α)(g:α->List PV):Prop:=
 ∀(r:List PV) (x:α),f r=some x->(g x).length=r.length∧∀(j:Nat) (q:PV),(g x)[j]? =some q->∃p,r[j]? =some p∧∀(M:Qd) (v:Value),Z4 M v p->Z4 M v q
theorem Qxd(k:IntKind):Qdr (Qpx k) (Ty.int k).pv:=by
 intro p x h M v hp;unfold Qpx at h;split at h
 ·unfold Value.asInt at h;split at h
  ·split at h
   ·rename_i e;subst e;cases h;exact hp
   ·cases h
  ·cases h
 ·cases h
theorem Quf:Qdr Qpi Ty.bool.pv:=by
 intro p x h M v hp;unfold Qpi at h;split at h
 ·unfold Value.asBool at h;split at h
  ·cases h;exact hp
  ·cases h
 ·cases h
theorem Qvw:Qdr Qqr Ty.str.pv:=by
 intro p x h M v hp;unfold Qqr at h;split at h
 ·unfold Value.Zme at h;split at h
  ·cases h;exact hp
  ·cases h
 ·cases h
theorem Zxm{row:List Ty}{f:List PV->Option (Qj row)}(hf:Qg0 f (Zs row)):Qdr (Qu4 row f) (Ty.seq row).pv:=by
 intro p x h M v hp;unfold Qu4 at h;split at h
 ·rename_i sz rows;split at h
  ·rename_i e;obtain⟨g1,g2⟩:=Qj7 h;refine .tsl row x ?_;subst e;refine Ye0 (rows:=rows) (rows':=Qw row x) (by simp[Qw,g1]) (fun i r hr=>?_) hp;simp only[Qw,ZC,ZA]at hr;obtain⟨y,hy,rfl⟩:=hr;obtain⟨q,hq,hq2⟩:=g2 i y hy;obtain⟨h1,h2⟩:=hf q y hq2;exact⟨q,hq,h1,h2⟩
  ·cases h
 ·obtain⟨e,rfl⟩:=Qa9 h;subst e;exact hp
 ·rename_i row' u;obtain⟨e,h2⟩:=Qa9 h;cases e;have e:x=u:=h2;subst e;cases hp with
  |csl a n _ _ hp=>exact .tsl _ _ hp
 ·rename_i u;split at h
  ·rename_i hn;cases h;unfold Value.isNil at hn;split at hn
   ·simp only[Bool.and_eq_true]at hn;cases ZM hn.1;cases ZM hn.2;cases hp with
    |lit=>exact .tsl row [] (.rnil _)
   ·cases hn
  ·cases h
 ·cases h
theorem Zxk:Qg0 Quq (Zs []):=by
 intro r x h;unfold Quq at h;split at h
 ·exact⟨rfl,fun j q hq=>by simp[Zs]at hq⟩
 ·cases h
theorem Zvv{t:Ty}{f:PV->Option t.El}(hf:Qdr f t.pv):Qg0 (oneOf f) (Zs [t]):=by
 intro r x h;unfold oneOf at h;split at h
 ·rename_i p;refine⟨rfl,fun j q hq=>?_⟩;cases j with
  |zero=>simp only[Zs,ZL,ZE]at hq;subst hq;exact⟨p,rfl,fun M v hp=>hf p x h M v hp⟩
  |succ j=>simp[Zs]at hq
 ·cases h
theorem Yps{t t':Ty}{ts:List Ty}{f:PV->Option t.El}{g:List PV->Option (Qj (t'::ts))}(hf:Qdr f t.pv)(hg:Qg0 g (Zs (t'::ts))):Qg0 (Qtq f g) (Zs (t::t'::ts)):=by
 intro r x h;unfold Qtq at h;split at h
 ·rename_i p ps;split at h
  ·rename_i a b h1 h2;cases h;obtain⟨g1,g2⟩:=hg ps b h2;refine⟨by show(t.pv a::Zs (t'::ts) b).length=_;simp only[ZT,g1],fun j q hq=>?_⟩;have hq:(t.pv a::Zs (t'::ts) b)[j]? =some q:=hq;cases j with
   |zero=>simp only[ZL,ZE]at hq;subst hq;exact⟨p,rfl,fun M v hp=>hf p a h1 M v hp⟩
   |succ j=>simp only[List.getElem?_cons_succ]at hq;simpa using g2 j q hq
  ·cases h
 ·cases h
theorem Zdt:∀(n:Nat),(∀(t:Ty),ZK t<=n->Qdr t.of t.pv)∧(∀(ts:List Ty),ZK ts<=n->Qg0 (ofRow ts) (Zs ts)):=by
 intro n;induction n with
 |zero=>exact⟨fun t ht=>by(cases t<;>simp at ht),fun ts ht=>by(cases ts<;>simp at ht)⟩
 |succ n ih=>
  obtain⟨ih1,ih2⟩:=ih;refine⟨fun t ht=>?_,fun ts ht=>?_⟩
  ·match t,ht with
   |.int k,ht=>exact Qxd k
   |.bool,ht=>exact Quf
   |.str,ht=>exact Qvw
   |.seq row,ht=>exact Zxm (ih2 row (by simp at ht;omega))
  ·match ts,ht with
   |[],ht=>exact Zxk
   |[t],ht=>exact Zvv (ih1 t (by simp at ht;omega))
   |t::t'::ts,ht=>exact Yps (ih1 t (by simp at ht;omega)) (ih2 (t'::ts) (by simp at ht⊢;omega))
theorem Ty.Zab{t:Ty}{p:PV}{x:t.El}(h:t.of p=some x){M:Qd}{v:Value}(hp:Z4 M v p):Z4 M v (t.pv x):=(Zdt (ZK t)).1 t (ZG _) p x h M v hp
theorem Qf8{ts:List Ty}{r:List PV}{x:Qj ts}(h:ofRow ts r=some x):(Zs ts x).length=r.length∧∀(j:Nat) (q:PV),(Zs ts x)[j]? =some q->∃p,r[j]? =some p∧∀(M:Qd) (v:Value),Z4 M v p->Z4 M v q:=
 (Zdt (ZK ts)).2 ts (ZG _) r x h
theorem Qhw{row:List Ty}{l:List (Qj row)}{r:Nat}(h:r<l.length):(Qw row l).getD r []=Zs row (l.getD r (Qj.Xn row)):=by simp[Qw,List.getD,h]
def Y3{X:Type}(eq:X->X->Bool):Prop:=∀a b,eq a b=true->a=b
def Wp{α:Type}(f:α->α->Bool):List α->List α->Bool
 |[],[]=>true
 |x::l,y::m=>match f x y with
  |true=>Wp f l m
  |false=>false
 |_,_=>false
theorem Qec{α:Type}{f:α->α->Bool}(hf:Y3 f):Y3 (Wp f)
 |[],[],_=>rfl
 |[],_::_,h=>by cases h
 |_::_,[],h=>by cases h
 |x::l,y::m,h=>by
  simp only[Wp]at h;split at h
  ·rename_i e;rw[hf _ _ e,Qec hf l m h]
  ·cases h
def W9{α β:Type}(f:α->α->Bool)(g:β->β->Bool)(x y:α×β):Bool:=match f x.1 y.1 with
 |true=>g x.2 y.2
 |false=>false
theorem Qew{α β:Type}{f:α->α->Bool}{g:β->β->Bool}(hf:Y3 f)(hg:Y3 g):Y3 (W9 f g):=by
 intro ⟨a,b⟩ ⟨c,d⟩ h;simp only[W9]at h;split at h
 ·rename_i e;have h1:=hf a c e;have h2:=hg b d h;subst h1;subst h2;rfl
 ·cases h
def Qcd{α β:Type}(f:α->α->Bool)(g:β->β->Bool):α ⊕ β->α ⊕ β->Bool
 |.inl a,.inl b=>f a b
 |.inr a,.inr b=>g a b
 |_,_=>false
theorem Qkg{α β:Type}{f:α->α->Bool}{g:β->β->Bool}(hf:Y3 f)(hg:Y3 g):Y3 (Qcd f g):=by intro x y h;cases x<;>cases y<;>first|(cases h;done)|(simp only[Qcd]at h;first|rw[hf _ _ h]|rw[hg _ _ h])
def U2(a b:Int):Bool:=decide (a=b)
def Qfm(a b:Bool):Bool:=match a,b with
 |true,true=>true
 |false,false=>true
 |_,_=>false
def Qc(a b:ByteArray):Bool:=decide (a=b)
def Qhm(_ _:Unit):Bool:=true
mutual
def Ty.eqv:(t:Ty)->t.El->t.El->Bool
 |.int _=>U2
 |.bool=>Qfm
 |.str=>Qc
 |.seq row=>Wp (Qj.eqv row)
def Qj.eqv:(ts:List Ty)->Qj ts->Qj ts->Bool
 |[]=>Qhm
 |[t]=>t.eqv
 |t::t'::ts=>W9 t.eqv (Qj.eqv (t'::ts))
end
theorem Yj0:Y3 U2:=fun a b h=>of_decide_eq_true h
theorem Qqh:Y3 Qc:=fun a b h=>of_decide_eq_true h
theorem Zyi:Y3 Qfm:=by intro a b h;cases a<;>cases b<;>first|rfl|cases h
theorem eqv_ok:∀(n:Nat),(∀(t:Ty),ZK t<=n->Y3 t.eqv)∧(∀(ts:List Ty),ZK ts<=n->Y3 (Qj.eqv ts)):=by
 intro n;induction n with
 |zero=>exact⟨fun t ht=>by(cases t<;>simp at ht),fun ts ht=>by(cases ts<;>simp at ht)⟩
 |succ n ih=>
  obtain⟨ih1,ih2⟩:=ih;refine⟨fun t ht=>?_,fun ts ht=>?_⟩
  ·match t,ht with
   |.int k,ht=>exact Yj0
   |.bool,ht=>exact Zyi
   |.str,ht=>exact Qqh
   |.seq row,ht=>exact Qec (ih2 row (by simp at ht;omega))
  ·match ts,ht with
   |[],ht=>exact fun a b h=>rfl
   |[t],ht=>exact ih1 t (by simp at ht;omega)
   |t::t'::ts,ht=>exact Qew (ih1 t (by simp at ht;omega)) (ih2 (t'::ts) (by simp at ht⊢;omega))
theorem Ty.eqv_ok(t:Ty):Y3 t.eqv:=(Sx.eqv_ok _).1 t (ZG _)
theorem Qj.eqv_ok(ts:List Ty):Y3 (Qj.eqv ts):=(Sx.eqv_ok _).2 ts (ZG _)
def Qe.eqv:(a:Qe)->a.El->a.El->Bool
 |.val t=>t.eqv
 |.agg row=>Qj.eqv row
theorem Qe.eqv_ok:∀(a:Qe),Y3 a.eqv
 |.val t=>Ty.eqv_ok t
 |.agg row=>Qj.eqv_ok row
theorem Zdi(a b:ByteArray):(a.toList==b.toList)=Qc a b:=by unfold Qc;rw[Bool.eq_iff_iff,ByteArray.toList_eq,ByteArray.toList_eq];simp[ByteArray.ext_iff]
theorem Qj0(a b:ByteArray):(a==b)=Qc a b:=by unfold Qc;cases a;cases b;rename_i x y;show(x==y)=_;rw[Bool.eq_iff_iff,beq_iff_eq];simp[ByteArray.mk.injEq]
def Ty.scalar:Ty->Bool
 |.seq _=>false
 |_=>true
def Qe.scalar:Qe->Bool
 |.val t=>t.scalar
 |.agg row=>row.all Ty.scalar
end Go.Sx
end
section
namespace Go.Sx
open Go
structure St where
 T:TT
 H:List Qb
 n0:Nat
 tch:List Nat
 fg:List Nat
 marks:List Nat
 er:List Nat
def Qh5(U:Env)(marks:List Nat)(ds:List Deferred):Prop:=
 ds.length=marks.length∧∀(i:Nat) (d:Deferred) (s:Nat),ds[i]? =some d->marks[i]? =some s->∃p,U s=some p∧d={target:=.collected p.block,args:= #[]}
structure Good (B:Nat->Value) (nt:Nat) (M:Qd) (U:Env) (s:St) (a:Act) (w:World):Prop where
 tm:∀t x,s.T.get t=some x->Qf M U (a.tmps.getD t undef) x
 sz:a.tmps.size=nt
 mem:Mem M U s.H w
 df:Qh5 U s.marks a.defers
 mks:∀m,m∈s.marks->s.n0<=m
 nle:s.n0<=s.H.length
 fix:∀t,t∉s.er->a.tmps.getD t undef=B t
structure Fr (M:Qd) (U:Env) (H:List Qb) (w:World) (M':Qd) (U':Env) (H':List Qb) (w':World) (n:Nat) (tch fg:List Nat):Prop where
 imm:M.le M'
 new:∀b o,M b=none->M' b=some o->w.heap.size<=b∨J7 U H b
 own:∀b,J7 U' H' b->w.heap.size<=b∨J7 U H b
 same:∀b,b<w.heap.size->¬J7 U H b->w'.heap[b]? =w.heap[b]?
 grow:w.heap.size<=w'.heap.size
 keep:∀s o,s<n->s∉tch->H[s]? =some o->o.live=true->(∃o',H'[s]? =some o'∧o'.live=true)∧∀p,U s=some p->U' s=some p∧∀b,p.has b->w'.heap[b]? =w.heap[b]?
 stay:∀s,s<n->s∉fg->U' s=U s
 io:w'.os=w.os∧w'.output=w.output
theorem Fr.refl(M:Qd)(U:Env)(H:List Qb)(w:World)(n:Nat)(tch fg:List Nat):Fr M U H w M U H w n tch fg:=
 ⟨M.le_refl,fun b o h h'=>by(rw[h]at h';cases h'),fun b h=>.inr h,fun _ _ _=>rfl,ZG _,fun _ o _ _ h hl=>⟨⟨o,h,hl⟩,fun _ hp=>⟨hp,fun _ _=>rfl⟩⟩,fun _ _ _=>rfl,rfl,rfl⟩
theorem Fr.trans{M M1 M2:Qd}{U ρ1 ρ2:Env}{H H1 H2:List Qb}{w w1 w2:World}{n:Nat}{t1 f1 t2 f2 t f:List Nat}
  (h:Fr M U H w M1 ρ1 H1 w1 n t1 f1) (k:Fr M1 ρ1 H1 w1 M2 ρ2 H2 w2 n t2 f2)
  (ht1:∀x,x∈t1->x∈t) (ht2:∀x,x∈t2->x∈t) (hf1:∀x,x∈f1->x∈f) (hf2:∀x,x∈f2->x∈f):
  Fr M U H w M2 ρ2 H2 w2 n t f:=by
 refine⟨Qd.le_trans h.imm k.imm,fun b o h0 h2=>?_,fun b hb=>?_,fun b hb hn=>?_,ZR h.grow k.grow,fun s o hs hx ho hl=>?_,fun s hs hx=>?_,k.io.1.trans h.io.1,k.io.2.trans h.io.2⟩
 ·cases e:M1 b with
  |some o1=>exact h.new b o1 h0 e
  |none=>
   rcases k.new b o e h2 with h'|h'
   ·exact .inl (ZR h.grow h')
   ·exact h.own b h'
 ·rcases k.own b hb with h'|h'
  ·exact .inl (ZR h.grow h')
  ·exact h.own b h'
 ·rw[k.same b (ZD hb h.grow) (fun ho=>?_),h.same b hb hn];rcases h.own b ho with h'|h'
  ·omega
  ·exact hn h'
 ·obtain⟨⟨o1,ho1,hl1⟩,a2⟩:=h.keep s o hs (fun m=>hx (ht1 s m)) ho hl;obtain⟨hx2,b2⟩:=k.keep s o1 hs (fun m=>hx (ht2 s m)) ho1 hl1;exact⟨hx2,fun p hp=>let⟨c1,c2⟩:=a2 p hp;let⟨d1,d2⟩:=b2 p c1;⟨d1,fun b hb=>(d2 b hb).trans (c2 b hb)⟩⟩
 ·exact(k.stay s hs (fun m=>hx (hf2 s m))).trans (h.stay s hs (fun m=>hx (hf1 s m)))
theorem Fr.weaken{M M':Qd}{U U':Env}{H H':List Qb}{w w':World}{n n':Nat}{t f t' f':List Nat}(h:Fr M U H w M' U' H' w' n t f)
  (hn:n'<=n) (ht:∀x,x<n'->x∈t->x∈t') (hf:∀x,x<n'->x∈f->x∈f'):Fr M U H w M' U' H' w' n' t' f':=
 ⟨h.imm,h.new,h.own,h.same,h.grow,fun s o hs hx=>h.keep s o (ZD hs hn) (fun m=>hx (ht s hs m)),fun s hs hx=>h.stay s (ZD hs hn) (fun m=>hx (hf s hs m)),h.io⟩
structure Yx (M:Qd) (U:Env) (s:St) (w:World) (M':Qd) (U':Env) (s':St) (w':World):Prop where
 fr:Fr M U s.H w M' U' s'.H w' s.n0 s'.tch s'.fg
 n0:s'.n0=s.n0
 tch:∀x,x∈s.tch->x∈s'.tch
 fg:∀x,x∈s.fg->x∈s'.fg
theorem Yx.refl(M:Qd)(U:Env)(s:St)(w:World):Yx M U s w M U s w:=⟨Fr.refl ..,rfl,fun _ h=>h,fun _ h=>h⟩
theorem Yx.trans{M M1 M2:Qd}{U ρ1 ρ2:Env}{s s1 s2:St}{w w1 w2:World}(h:Yx M U s w M1 ρ1 s1 w1)(k:Yx M1 ρ1 s1 w1 M2 ρ2 s2 w2):Yx M U s w M2 ρ2 s2 w2:=
 ⟨h.fr.trans (h.n0▸k.fr) (fun x hx=>k.tch x hx) (fun x hx=>hx) (fun x hx=>k.fg x hx) (fun x hx=>hx),k.n0.trans h.n0,fun x hx=>k.tch x (h.tch x hx),fun x hx=>k.fg x (h.fg x hx)⟩
def FW(R:Option Nat):Fence:={Fence.wide with round:=R}
theorem Qw9:FW none=Fence.wide:=rfl
def Zj(R:Option Nat)(P:Program)(nt:Nat)(c:Code)(Q:Exit->St->Prop)(s:St):Prop:=
 ∀B M U a w,Good B nt M U s a w->c.wpIn (FW R) 0 P (fun e a' w'=>∃M' U' s',Q e s'∧Good B nt M' U' s' a' w'∧Yx M U s w M' U' s' w') a w
section
variable {R:Option Nat} {P:Program} {nt:Nat} {Q:Exit->St->Prop} {s:St}
theorem Zj.mono{c:Code}{Q':Exit->St->Prop}(h:Zj R P nt c Q s)(hq:∀e s',Q e s'->Q' e s'):Zj R P nt c Q' s:=
 fun B M U a w hg=>wpIn_mono (h B M U a w hg) fun e a' w' ⟨M',U',s',q,r⟩=>⟨M',U',s',hq e s' q,r⟩
theorem Yrv(h:Q .normal s):Zj R P nt .skip Q s:=fun B M U a w hg=>wpIn_skip ⟨M,U,s,h,hg,Yx.refl ..⟩
theorem Yfn{l:Nat}(h:Q .normal s):Zj R P nt (.label l) Q s:=fun B M U a w hg=>wpIn_label ⟨M,U,s,h,hg,Yx.refl ..⟩
theorem Ylf{id:Nat}(h:Q (.exit id) s):Zj R P nt (.exit id) Q s:=fun B M U a w hg=>wpIn_exit ⟨M,U,s,h,hg,Yx.refl ..⟩
theorem Znc(h:Q .ret s):Zj R P nt .ret Q s:=fun B M U a w hg=>wpIn_ret ⟨M,U,s,h,hg,Yx.refl ..⟩
theorem Zj.Qem{c:Code}{s':St}(hi:∀B M U a w,Good B nt M U s a w->∃U',Good B nt M U' s' a w∧Yx M U s w M U' s' w)(h:Zj R P nt c Q s'):Zj R P nt c Q s:=
 fun B M U a w hg=>let⟨U',hg',go⟩:=hi B M U a w hg
  wpIn_mono (h B M U' a w hg') fun e a' w' ⟨M',U'',s'',q,g,k⟩=>⟨M',U'',s'',q,g,go.trans k⟩
def Qqb(K:St->Prop)(Q:Exit->St->Prop):Exit->St->Prop
 |.normal,s=>K s
 |e,s=>Q e s
theorem Zcc{x y:Code}(h:Zj R P nt x (Qqb (Zj R P nt y Q) Q) s):Zj R P nt (.seq x y) Q s:=by
 intro B M U a w hg;refine wpIn_seq (wpIn_mono (h B M U a w hg) ?_)
 rintro e a' w' ⟨M',U',s',q,g,k⟩
 cases e with
 |normal=>exact wpIn_mono (q B M' U' a' w' g) fun e a'' w'' ⟨M'',U'',s'',q',g',k'⟩=>⟨M'',U'',s'',q',g',k.trans k'⟩
 |exit id=>exact⟨M',U',s',q,g,k⟩
 |goto l=>exact⟨M',U',s',q,g,k⟩
 |ret=>exact⟨M',U',s',q,g,k⟩
 |panic c=>exact⟨M',U',s',q,g,k⟩
 |outgrown=>exact⟨M',U',s',q,g,k⟩
def St.ev(s:St):Operand->SV
 |.tmp t=>(s.T.get t).getD .any
 |.const v=>.lit v
 |.global g=>.lit (.pointer (some ⟨g,0,none⟩))
 |.func f=>.lit (.func (.func f) #[] #[])
theorem Good.ev{B:Nat->Value}{nt:Nat}{M:Qd}{U:Env}{s:St}{a:Act}{w:World}(hg:Good B nt M U s a w)(x:Operand):Qf M U (a.eval x) (s.ev x):=by
 cases x with
 |tmp t=>
  simp only[St.ev,Act.eval];cases e:s.T.get t with
  |none=>exact .any _
  |some y=>exact hg.tm t y e
 |const v=>exact .pv (.lit v)
 |global g=>exact .pv (.lit _)
 |func f=>exact .pv (.lit _)
theorem Qf.Zt{M:Qd}{U:Env}{v u:Value}(h:Qf M U v (.pv (.lit u))):v=u:=by
 cases h with
 |pv h=>cases h with
  |lit=>rfl
theorem Good.Ysr{B:Nat->Value}{nt:Nat}{M:Qd}{U:Env}{s:St}{a:Act}{w:World}(hg:Good B nt M U s a w){x:Operand}{v:Value}(h:s.ev x=.lit v):a.eval x=v:=
 Qf.Zt (h▸hg.ev x)
theorem Yd1{c:Operand}{x y:Code}{t:Bool}(hc:s.ev c=.lit (.bool t))(ht:t=true->Zj R P nt x Q s)(hf:t=false->Zj R P nt y Q s):Zj R P nt (.cond c x y) Q s:=by intro B M U a w hg;exact wpIn_cond_split (hg.Ysr hc) (fun h=>ht h B M U a w hg) (fun h=>hf h B M U a w hg)
def Qwy(id:Nat)(Q:Exit->St->Prop):Exit->St->Prop
 |.exit id',s=>if id'=id then Q .normal s else Q (.exit id') s
 |e,s=>Q e s
theorem Ynf{id:Nat}{c:Code}(h:Zj R P nt c (Qwy id Q) s):Zj R P nt (.block id c) Q s:=by
 intro B M U a w hg;refine wpIn_block (wpIn_mono (h B M U a w hg) ?_)
 rintro e a' w' ⟨M',U',s',q,g,k⟩
 cases e with
 |exit id'=>
  simp only[Exit.inBlock,Qwy]at*;split
  ·rename_i he;rw[if_pos he]at q;exact⟨M',U',s',q,g,k⟩
  ·rename_i he;rw[if_neg he]at q;exact⟨M',U',s',q,g,k⟩
 |normal=>exact⟨M',U',s',q,g,k⟩
 |goto l=>exact⟨M',U',s',q,g,k⟩
 |ret=>exact⟨M',U',s',q,g,k⟩
 |panic c=>exact⟨M',U',s',q,g,k⟩
 |outgrown=>exact⟨M',U',s',q,g,k⟩
theorem Yhg{c:Code}(I:Nat->St->Prop){n0:Nat}(h0:I n0 s)
  (round:∀n s,I n s->Zj R P nt c (Qqb (fun s'=>∃n',n'<n∧I n' s') Q) s):Zj R P nt (.loop c) Q s:=by
 intro B M U a w hg;let J:Nat->Act->World->Prop:=fun n a' w'=>∃M' U' s',I n s'∧Good B nt M' U' s' a' w'∧Yx M U s w M' U' s' w';refine wpIn_loop (fun a w=>∃n,J n a w) (fun a w=>leastOf (fun n=>J n a w)) ⟨n0,M,U,s,h0,hg,Yx.refl ..⟩ ?_;intro a1 w1 hI;obtain⟨hJ,hmin⟩:=leastOf_spec hI;obtain⟨M',U',s',hi,g,k⟩:=hJ;refine wpIn_mono (round _ s' hi B M' U' a1 w1 g) ?_
 rintro e a2 w2 ⟨M2,ρ2,s2,q,g2,k2⟩
 cases e with
 |normal=>obtain⟨n',hlt,hi2⟩:=q;have hx:J n' a2 w2:=⟨M2,ρ2,s2,hi2,g2,k.trans k2⟩;exact show(∃n,J n a2 w2)∧leastOf (fun n=>J n a2 w2)<_ from⟨⟨n',hx⟩,Nat.lt_of_le_of_lt ((leastOf_spec ⟨n',hx⟩).2 n' hx) hlt⟩
 |exit id=>exact⟨M2,ρ2,s2,q,g2,k.trans k2⟩
 |goto l=>exact⟨M2,ρ2,s2,q,g2,k.trans k2⟩
 |ret=>exact⟨M2,ρ2,s2,q,g2,k.trans k2⟩
 |panic c=>exact⟨M2,ρ2,s2,q,g2,k.trans k2⟩
 |outgrown=>exact⟨M2,ρ2,s2,q,g2,k.trans k2⟩
end
def Jr(M:Qd)(U:Env)(vs:List Value)(xs:List SV):Prop:=vs.length=xs.length∧∀(i:Nat) (v:Value) (x:SV),vs[i]? =some v->xs[i]? =some x->Qf M U v x
abbrev Qv:=SV->List Qb->List Nat->List Nat->Prop
def Xw(P:Program)(f:FuncId)(args:List SV)(H:List Qb)(Q:Qv):Prop:=
 ∀M U w vs,Mem M U H w->Jr M U vs args->CallsIn Fence.wide 0 P f vs.toArray w fun e w'=>
  ∃v r H' M' U' tch fg,e=.returned v∧Q r H' tch fg∧Qf M' U' v r∧Mem M' U' H' w'∧Fr M U H w M' U' H' w' H.length tch fg
theorem Xw.mono{P:Program}{f:FuncId}{args:List SV}{H:List Qb}{Q Q':Qv}(h:Xw P f args H Q)(hq:∀r H' t g,Q r H' t g->Q' r H' t g):Xw P f args H Q':=
 fun M U w vs hm hr=>(h M U w vs hm hr).mono fun e w' ⟨v,r,H',M',U',t,g,he,q,rest⟩=>⟨v,r,H',M',U',t,g,he,hq _ _ _ _ q,rest⟩
end Go.Sx
end
section
namespace Go.Sx
open Go
def Env.set(U:Env)(s:Nat)(p:Option Place):Env:=fun t=>if t=s then p else U t
theorem Env.set_self(U:Env)(s:Nat)(p:Option Place):(U.set s p) s=p:=by simp[Env.set]
theorem Env.Xj(U:Env){s t:Nat}(p:Option Place)(h:t≠s):(U.set s p) t=U t:=by simp[Env.set,h]
section
variable {M:Qd} {U:Env} {H:List Qb} {w w':World}
theorem Mem.alloc{o:Obj}{so:Qb}{cap:Nat}(h:Mem M U H w)(hh:w'.heap=w.heap.push o)
  (ho:Q9 M (U.set H.length (some ⟨w.heap.size,cap,[]⟩)) w' H.length so) (io:w'.os=w.os∧w'.output=w.output:=by exact⟨rfl,rfl⟩):
  Mem M (U.set H.length (some ⟨w.heap.size,cap,[]⟩)) (H++[so]) w'∧Fr M U H w M (U.set H.length (some ⟨w.heap.size,cap,[]⟩)) (H++[so]) w' H.length [] []:=by
 have hle:U.le (U.set H.length (some ⟨w.heap.size,cap,[]⟩)):=fun s p hp=>by
  by_cases e:s=H.length
  ·subst e;rw[h.fresh _ (ZG _)]at hp;cases hp
  ·rw[Env.Xj _ _ e];exact hp
 have old:∀b,b<w.heap.size->w'.heap[b]? =w.heap[b]? :=fun b hb=>by rw[hh,Array.getElem?_push];simp[ZH hb]
 have hsz:w'.heap.size=w.heap.size+1:=by rw[hh];simp
 have lt:∀s o p b,H[s]? =some o->o.live=true->U s=some p->p.has b->b<w.heap.size:=fun s o p b a b' c d=>h.J0 a b' c d;have new1:∀b,Place.has ⟨w.heap.size,cap,[]⟩ b->w.heap.size=b:=fun b hb=>by rcases hb with h|h;exact h;cases h
 have sub:∀s o,(H++[so])[s]? =some o->(s<H.length∧H[s]? =some o)∨(s=H.length∧o=so):=fun s o he=>by
  rw[ZI]at he;split at he
  ·rename_i hs;exact .inl ⟨hs,he⟩
  ·rename_i hs;by_cases e:s=H.length
   ·subst e;simp at he;exact .inr ⟨rfl,he.symm⟩
   ·rw[ZP (by simp;omega)]at he;cases he
 refine⟨⟨fun b o hb=>(old b (h.Qnj hb)).trans (h.imm b o hb),fun s o he=>?_,fun s o p b he hl hp hb=>?_,fun s s' o o' p p' b he he' hl hl' hp hp' hb hb'=>?_,fun s hs=>?_,fun s o p b he hl hp hb=>?_⟩,?_⟩
 ·rcases sub s o he with⟨hs,he⟩|⟨rfl,rfl⟩
  ·by_cases hl:o.live=true
   ·exact(h.own s o he).mono M.le_refl hle (Env.Xj _ _ (ZH hs)) fun p b hp hb=>old _ (lt s o p b he hl hp hb)
   ·cases o<;>simp[Qb.live]at hl;trivial
  ·exact ho
 ·rcases sub s o he with⟨hs,he⟩|⟨rfl,rfl⟩
  ·rw[Env.Xj _ _ (ZH hs)]at hp;exact h.seps s o p b he hl hp hb
  ·rw[Env.set_self]at hp;cases hp;cases new1 b hb;exact h.Zmb (ZG _)
 ·rcases sub s o he with⟨hs,he⟩|⟨rfl,rfl⟩
  ·rw[Env.Xj _ _ (ZH hs)]at hp;have hlt:=lt s o p b he hl hp hb;rcases sub s' o' he' with⟨hs',he'⟩|⟨rfl,rfl⟩
   ·rw[Env.Xj _ _ (ZH hs')]at hp';exact h.diss s s' o o' p p' b he he' hl hl' hp hp' hb hb'
   ·rw[Env.set_self]at hp';cases hp';have:=new1 b hb';omega
  ·rw[Env.set_self]at hp;cases hp;rcases sub s' o' he' with⟨hs',he'⟩|⟨rfl,rfl⟩
   ·rw[Env.Xj _ _ (ZH hs')]at hp';have hlt:=lt s' o' p' b he' hl' hp' hb';have:=new1 b hb;omega
   ·rfl
 ·have:s≠H.length:=by simp at hs;omega
  rw[Env.Xj _ _ this];exact h.fresh s (by simp at hs;omega)
 ·rcases sub s o he with⟨hs,he⟩|⟨rfl,rfl⟩
  ·rw[Env.Xj _ _ (ZH hs)]at hp;have:=h.lts s o p b he hl hp hb;omega
  ·rw[Env.set_self]at hp;cases hp;cases hb
 ·refine⟨M.le_refl,fun b o a c=>(by rw[a]at c;cases c),fun b hb=>?_,fun b hb _=>old b hb,by omega,fun s o hs _ he hl=>⟨⟨o,by rw[ZO hs];exact he,hl⟩,fun p hp=>⟨hle s p hp,fun b hb=>old _ (lt s o p b he hl hp hb)⟩⟩,fun s hs _=>Env.Xj _ _ (ZH hs),io⟩;obtain⟨s,o,p,he,hl,hp,hb⟩:=hb;rcases sub s o he with⟨hs,he⟩|⟨rfl,rfl⟩
  ·rw[Env.Xj _ _ (ZH hs)]at hp;exact .inr ⟨s,o,p,he,hl,hp,hb⟩
  ·rw[Env.set_self]at hp;cases hp;cases new1 b hb;exact .inl (ZG _)
theorem Qcc{o:Qb}(h:¬o.live=true):o=.dead:=by cases o<;>simp[Qb.live]at h;rfl
theorem Mem.virt{ty sz:Nat}(h:Mem M U H w):Mem M U (H++[.vec ty sz []]) w∧Fr M U H w M U (H++[.vec ty sz []]) w H.length [] []:=by
 have hn:=h.fresh H.length (ZG _);have sub:∀s o,(H++[Qb.vec ty sz []])[s]? =some o->(s<H.length∧H[s]? =some o)∨(s=H.length∧o=.vec ty sz []):=fun s o he=>by
  rw[ZI]at he;split at he
  ·rename_i hs;exact .inl ⟨hs,he⟩
  ·rename_i hs;by_cases e:s=H.length
   ·subst e;simp at he;exact .inr ⟨rfl,he.symm⟩
   ·rw[ZP (by simp;omega)]at he;cases he
 refine⟨⟨h.imm,fun s o he=>?_,fun s o p b he hl hp hb=>?_,fun s s' o o' p p' b he he' hl hl' hp hp' hb hb'=>?_,fun s hs=>h.fresh s (by simp at hs;omega),fun s o p b he hl hp hb=>?_⟩,?_⟩
 ·rcases sub s o he with⟨hs,he⟩|⟨rfl,rfl⟩
  ·exact h.own s o he
  ·exact .inl ⟨hn,rfl⟩
 ·rcases sub s o he with⟨hs,he⟩|⟨rfl,rfl⟩
  ·exact h.seps s o p b he hl hp hb
  ·rw[hn]at hp;cases hp
 ·rcases sub s o he with⟨hs,he⟩|⟨rfl,rfl⟩
  ·rcases sub s' o' he' with⟨hs',he'⟩|⟨rfl,rfl⟩
   ·exact h.diss s s' o o' p p' b he he' hl hl' hp hp' hb hb'
   ·rw[hn]at hp';cases hp'
  ·rw[hn]at hp;cases hp
 ·rcases sub s o he with⟨hs,he⟩|⟨rfl,rfl⟩
  ·exact h.lts s o p b he hl hp hb
  ·rw[hn]at hp;cases hp
 ·refine⟨M.le_refl,fun b o a c=>(by rw[a]at c;cases c),fun b hb=>?_,fun b hb _=>rfl,ZG _,fun s o hs _ he hl=>⟨⟨o,by rw[ZO hs];exact he,hl⟩,fun p hp=>⟨hp,fun _ _=>rfl⟩⟩,fun s hs _=>rfl,rfl,rfl⟩;obtain⟨s,o,p,he,hl,hp,hb⟩:=hb;rcases sub s o he with⟨hs,he⟩|⟨rfl,rfl⟩
  ·exact .inr ⟨s,o,p,he,hl,hp,hb⟩
  ·rw[hn]at hp;cases hp
theorem Mem.put{s:Nat}{o so:Qb}{p:Place}(h:Mem M U H w)(hs:H[s]? =some o)(hl:o.live=true)(hp:U s=some p)
  (hw:∀b,b≠p.block->w'.heap[b]? =w.heap[b]?) (hz:w'.heap.size=w.heap.size) (hlo:so.live=true)
  (ho:Q9 M U w' s so) (io:w'.os=w.os∧w'.output=w.output:=by exact⟨rfl,rfl⟩):Mem M U (H.set s so) w'∧Fr M U H w M U (H.set s so) w' H.length [s] []:=by
 have hlt:s<H.length:=(ZB.1 hs).1;have sub:∀t o',(H.set s so)[t]? =some o'->(t≠s∧H[t]? =some o')∨(t=s∧o'=so):=fun t o' he=>by
  rw[ZS]at he;split at he
  ·rename_i e;subst e;cases he;exact .inr ⟨rfl,rfl⟩
  ·rename_i e;exact .inl ⟨fun e'=>e e'.symm,he⟩
 have ne:∀t o' q b,t≠s->H[t]? =some o'->o'.live=true->U t=some q->q.has b->b≠p.block:=fun t o' q b ht he hl' hq hb e=>ht (h.diss t s o' o q p b he hs hl' hl hq hp hb (.inl e.symm));refine⟨⟨fun b x hb=>?_,fun t o' he=>?_,fun t o' q b he hl' hq hb=>?_,fun t t' x x' q q' b he he' hlx hlx' hq hq' hb hb'=>?_,fun t ht=>h.fresh t (by simpa using ht),fun t o' q b he hl' hq hb=>?_⟩,?_⟩
 ·rw[hw b (fun e=>by rw[e,h.sep s o p hs hl hp]at hb;cases hb)];exact h.imm b x hb
 ·rcases sub t o' he with⟨ht,he⟩|⟨rfl,rfl⟩
  ·by_cases hl':o'.live=true
   ·exact(h.own t o' he).mono M.le_refl U.le_refl rfl fun q b hq hb=>hw _ (ne t o' q b ht he hl' hq hb)
   ·rw[Qcc hl'];trivial
  ·exact ho
 ·rcases sub t o' he with⟨ht,he⟩|⟨rfl,rfl⟩
  ·exact h.seps t o' q b he hl' hq hb
  ·exact h.seps t o q b hs hl hq hb
 ·have back:∀(t:Nat) (x:Qb),(H.set s so)[t]? =some x->x.live=true->∃y:Qb,H[t]? =some y∧y.live=true:=fun t x he hlx=>by
   rcases sub t x he with⟨_,he⟩|⟨rfl,rfl⟩
   ·exact⟨x,he,hlx⟩
   ·exact⟨o,hs,hl⟩
  obtain⟨y,hy,hly⟩:=back t x he hlx;obtain⟨y',hy',hly'⟩:=back t' x' he' hlx';exact h.diss t t' y y' q q' b hy hy' hly hly' hq hq' hb hb'
 ·rw[hz];rcases sub t o' he with⟨ht,he⟩|⟨rfl,rfl⟩
  ·exact h.lts t o' q b he hl' hq hb
  ·exact h.lts t o q b hs hl hq hb
 ·refine⟨M.le_refl,fun b o a c=>(by rw[a]at c;cases c),fun b hb=>?_,fun b hb hn=>hw b (fun e=>hn ⟨s,o,p,hs,hl,hp,.inl e.symm⟩),by omega,fun t x ht hx he hlx=>?_,fun _ _ _=>rfl,io⟩
  ·obtain⟨t,x,q,he,hlx,hq,hb⟩:=hb;rcases sub t x he with⟨_,he⟩|⟨rfl,rfl⟩
   ·exact .inr ⟨t,x,q,he,hlx,hq,hb⟩
   ·exact .inr ⟨t,o,q,hs,hl,hq,hb⟩
  ·have hts:t≠s:=by simpa using hx
   refine⟨⟨x,by rw[ZQ (fun e=>hts e.symm)];exact he,hlx⟩,fun q hq=>⟨hq,fun b hb=>hw _ (ne t x q b hts he hlx hq hb)⟩⟩
theorem Mem.Qz8{s:Nat}{o so:Qb}{q:Option Place}(h:Mem M U H w)(hs:H[s]? =some o)(hl:o.live=true)(hlo:so.live=true)
  (hw:∀b,b<w.heap.size->(∀p,U s=some p->b≠p.block)->w'.heap[b]? =w.heap[b]?) (hz:w.heap.size<=w'.heap.size)
  (hq:∀p',q=some p'->w.heap.size<=p'.block∨∃p,U s=some p∧p.block=p'.block)
  (ho:Q9 M (U.set s q) w' s so) (io:w'.os=w.os∧w'.output=w.output:=by exact⟨rfl,rfl⟩) (hqs:∀p',q=some p'->p'.subs=[]∨U s=some p':=by(intro p' e;first|(cases e;exact Or.inl rfl)|exact Or.inr e|(cases e;exact Or.inr (by assumption))|cases e)):Mem M (U.set s q) ((H.map (Qb.forget [s])).set s so) w'∧Fr M U H w M (U.set s q) ((H.map (Qb.forget [s])).set s so) w' H.length [s] [s]:=by
 have hlt:s<H.length:=(ZB.1 hs).1;have sub:∀t o',((H.map (Qb.forget [s])).set s so)[t]? =some o'->(t≠s∧∃x,H[t]? =some x∧o'=x.forget [s])∨(t=s∧o'=so):=fun t o' he=>by
  rw[ZS]at he;split at he
  ·rename_i e;subst e;simp[hlt]at he;exact .inr ⟨rfl,he.symm⟩
  ·rename_i e;simp only[ZC,ZA]at he;obtain⟨x,hx,rfl⟩:=he;exact .inl ⟨fun e'=>e e'.symm,x,hx,rfl⟩
 have ne:∀t x r b,t≠s->H[t]? =some x->x.live=true->U t=some r->r.has b->∀p,U s=some p->b≠p.block:=fun t x r b ht he hlx hr hb p hp e=>ht (h.diss t s x o r p b he hs hlx hl hr hp hb (.inl e.symm));have old:∀t x r b,t≠s->H[t]? =some x->x.live=true->U t=some r->r.has b->w'.heap[b]? =w.heap[b]? :=fun t x r b ht he hlx hr hb=>hw _ (h.J0 he hlx hr hb) (ne t x r b ht he hlx hr hb);have newb:∀r b,q=some r->r.has b->w.heap.size<=b∨∃p,U s=some p∧p.has b:=fun r b e hb=>by
  rcases hb with hb|hb
  ·rcases hq r e with h1|⟨p,hp,e'⟩
   ·exact .inl (hb▸h1)
   ·exact .inr ⟨p,hp,.inl (e'.trans hb)⟩
  ·rcases hqs r e with h1|h1
   ·rw[h1]at hb;cases hb
   ·exact .inr ⟨r,h1,.inr hb⟩
 have but:Env.Qah [s] U (U.set s q):=fun t p ht hp=>by
  have:t≠s:=by simpa using ht
  rw[Env.Xj _ _ this];exact hp
 refine⟨⟨fun b x hb=>?_,fun t o' he=>?_,fun t o' r b he hl' hr hb=>?_,fun t t' x x' r r' b he he' hlx hlx' hr hr' hb hb'=>?_,fun t ht=>?_,fun t o' r b he hl' hr hb=>?_⟩,?_⟩
 ·rw[hw b (h.Qnj hb) (fun p hp e=>by rw[e,h.sep s o p hs hl hp]at hb;cases hb)];exact h.imm b x hb
 ·rcases sub t o' he with⟨ht,x,hx,rfl⟩|⟨rfl,rfl⟩
  ·by_cases hlx:x.live=true
   ·exact(h.own t x hx).forget M.le_refl but (Env.Xj _ _ ht) fun r b hr hb=>old t x r b ht hx hlx hr hb
   ·rw[Qcc hlx];trivial
  ·exact ho
 ·rcases sub t o' he with⟨ht,x,hx,rfl⟩|⟨rfl,rfl⟩
  ·rw[Env.Xj _ _ ht]at hr;rw[Vv]at hl';exact h.seps t x r b hx hl' hr hb
  ·rw[Env.set_self]at hr;rcases newb r b hr hb with h1|⟨p,hp,e⟩
   ·exact h.Zmb h1
   ·exact h.seps t o p b hs hl hp e
 ·rcases sub t x he with⟨ht,y,hy,rfl⟩|⟨rfl,rfl⟩
  ·rw[Env.Xj _ _ ht]at hr;rw[Vv]at hlx;rcases sub t' x' he' with⟨ht',y',hy',rfl⟩|⟨rfl,rfl⟩
   ·rw[Env.Xj _ _ ht']at hr';rw[Vv]at hlx';exact h.diss t t' y y' r r' b hy hy' hlx hlx' hr hr' hb hb'
   ·rw[Env.set_self]at hr';rcases newb r' b hr' hb' with h1|⟨p,hp,e⟩
    ·have:=h.J0 hy hlx hr hb;omega
    ·exact absurd (h.diss t _ y o r p b hy hs hlx hl hr hp hb e) ht
  ·rw[Env.set_self]at hr;rcases sub t' x' he' with⟨ht',y',hy',rfl⟩|⟨rfl,rfl⟩
   ·rw[Env.Xj _ _ ht']at hr';rw[Vv]at hlx';rcases newb r b hr hb with h1|⟨p,hp,e⟩
    ·have:=h.J0 hy' hlx' hr' hb';omega
    ·exact absurd (h.diss t' _ y' o r' p b hy' hs hlx' hl hr' hp hb' e) ht'
   ·rfl
 ·have:t≠s:=by simp at ht;omega
  rw[Env.Xj _ _ this];exact h.fresh t (by simpa using ht)
 ·rcases sub t o' he with⟨ht,y,hy,rfl⟩|⟨rfl,rfl⟩
  ·rw[Env.Xj _ _ ht]at hr;rw[Vv]at hl';exact ZD (h.lts t y r b hy hl' hr hb) hz
  ·rw[Env.set_self]at hr;rcases hqs r hr with h1|h1
   ·rw[h1]at hb;cases hb
   ·exact ZD (h.lts t o r b hs hl h1 hb) hz
 ·refine⟨M.le_refl,fun b o a c=>(by rw[a]at c;cases c),fun b hb=>?_,fun b hb hn=>hw b hb (fun p hp e=>hn ⟨s,o,p,hs,hl,hp,.inl e.symm⟩),hz,fun t x ht hx he hlx=>?_,fun t _ ht=>Env.Xj _ _ (by simpa using ht),io⟩
  ·obtain⟨t,x,r,he,hlx,hr,hb⟩:=hb;rcases sub t x he with⟨ht,y,hy,rfl⟩|⟨rfl,rfl⟩
   ·rw[Env.Xj _ _ ht]at hr;rw[Vv]at hlx;exact .inr ⟨t,y,r,hy,hlx,hr,hb⟩
   ·rw[Env.set_self]at hr;rcases newb r b hr hb with h1|⟨p,hp,e⟩
    ·exact .inl h1
    ·exact .inr ⟨t,o,p,hs,hl,hp,e⟩
  ·have hts:t≠s:=by simpa using hx
   refine⟨⟨x.forget [s],by rw[ZQ (fun e=>hts e.symm)];simp[he],by rw[Vv];exact hlx⟩,fun r hr=>⟨by rw[Env.Xj _ _ hts];exact hr,fun b hb=>old t x r b hts he hlx hr hb⟩⟩
end
end Go.Sx
end
namespace Go.Sx
open Go
structure TI where
 desc:TypeDesc
 size:Nat
 bytes:Nat
 zero:Value
 row:Option (List Ty):=none
abbrev Qp:=List (Nat×TI)
structure Q6 (P:Program) (tab:Qp):Prop where
 und:tab.map (fun x=>P.underlying x.1)=tab.map (fun x=>some x.2.desc)
 siz:tab.map (fun x=>(P.info? x.1).map (·.size))=tab.map (fun x=>some x.2.size)
 byt:tab.map (fun x=>(P.info? x.1).map (·.bytes))=tab.map (fun x=>some x.2.bytes)
 zer:tab.map (fun x=>(P.info? x.1).bind (·.zero))=tab.map (fun x=>some x.2.zero)
 one:(tab.all fun x=>x.2.zero.cells.size==x.2.size&&x.2.zero.cells.all (·.oneCell')&&(x.2.desc.isRow||x.2.size==1))=true
theorem Zop{α:Type}{l:List (Nat×α)}{t:Nat}{x:α}(h:l.lookup t=some x):(t,x)∈l:=by
 induction l with
 |nil=>simp at h
 |cons y l ih=>
  obtain⟨k,v⟩:=y;rw[List.lookup_cons]at h;split at h
  ·rename_i e;simp at e;cases h;simp[e]
  ·exact List.mem_cons_of_mem _ (ih h)
theorem Qmc{α β:Type}{f g:α->β}:∀{l:List α},l.map f=l.map g->∀x∈l,f x=g x
 |[],_,x,h=>by cases h
 |y::l,h,x,hx=>by
  simp only[ZJ,List.cons.injEq]at h;rcases List.mem_cons.1 hx with rfl|hx
  ·exact h.1
  ·exact Qmc h.2 x hx
structure Jd (P:Program) (t:TypeId) (i:TI):Prop where
 und:P.underlying t=some i.desc
 inf:∃n,P.info? t=some n∧n.size=i.size∧n.bytes=i.bytes∧n.zero=some i.zero
 zsz:i.zero.cells.size=i.size
 zon:i.zero.cells.all (·.oneCell')=true
 row:i.desc.isRow=false->i.size=1
theorem Q6.get{P:Program}{tab:Qp}(h:Q6 P tab){t:Nat}{i:TI}(hi:tab.lookup t=some i):Jd P t i:=by
 have hm:=Zop hi;have h1:=Qmc h.und _ hm;have h2:=Qmc h.siz _ hm;have h3:=Qmc h.byt _ hm;have h4:=Qmc h.zer _ hm;have h5:=List.all_eq_true.1 h.one _ hm;simp only[Bool.and_eq_true,beq_iff_eq,Bool.or_eq_true]at h5 h1 h2 h3 h4;cases e:P.info? t with
 |none=>simp[e]at h2
 |some n=>simp[e]at h2 h3 h4;exact⟨h1,⟨n,e,h2,h3,h4⟩,h5.1.1,h5.1.2,fun hr=>by rcases h5.2 with h|h;rw[hr]at h;cases h;exact h⟩
theorem Q6.nil(P:Program):Q6 P []:=⟨rfl,rfl,rfl,rfl,rfl⟩
def Qe4(t u:TypeInfo):TI:={desc:=u.desc,size:=t.size,bytes:=t.bytes,zero:=t.zero.getD (.bool false)}
def Qwu(i:TI):Bool:=i.zero.cells.size==i.size&&i.zero.cells.all (·.oneCell')&&(i.desc.isRow||i.size==1)
theorem Q6.cons{P:Program}{t:Nat}{i j:TypeInfo}{rest:Qp}(hi:P.info? t=some i)(hu:P.underlying t=some j.desc)(hz:i.zero.isSome=true)(h1:Qwu (Qe4 i j)=true)(hr:Q6 P rest):Q6 P ((t,Qe4 i j)::rest):=by
 obtain⟨z,hz⟩:=Option.isSome_iff_exists.1 hz;refine⟨?_,?_,?_,?_,?_⟩
 ·simp only[ZJ,hr.und,hu];rfl
 ·simp only[ZJ,hr.siz,hi];rfl
 ·simp only[ZJ,hr.byt,hi];rfl
 ·simp only[ZJ,hr.zer,hi];simp[Qe4,hz]
 ·simp only[List.all_cons,hr.one,Bool.and_true];exact h1
theorem Q6.Ys4{P:Program}{t:Nat}{i j:TypeInfo}{rest:Qp}{r:Option (List Ty)}(hi:P.info? t=some i)(hu:P.underlying t=some j.desc)(hz:i.zero.isSome=true)(h1:Qwu (Qe4 i j)=true)(hr:Q6 P rest):Q6 P ((t,{Qe4 i j with row:=r})::rest):=by have h:=Q6.cons hi hu hz h1 hr;exact⟨h.und,h.siz,h.byt,h.zer,h.one⟩
inductive Qo where
 |fail
 |ok (x:SV)
 |eff (x:SV) (H:List Qb) (tch fg:List Nat)
 |need (c:Bool) (r:Qo)
 |split (c:Bool) (a b:Qo)
 |both (a b:Qo)
def Qo.holds(H:List Qb)(K:Qv):Qo->Prop
 |.fail=>False
 |.ok x=>K x H [] []
 |.eff x H' t g=>K x H' t g
 |.need c r=>c=true∧r.holds H K
 |.split c a b=>(c=true->a.holds H K)∧(c=false->b.holds H K)
 |.both a b=>a.holds H K∧b.holds H K
theorem Qo.Qbk{H:List Qb}{K K':Qv}(hk:∀x H' t g,K x H' t g->K' x H' t g):∀{r:Qo},r.holds H K->r.holds H K'
 |.fail,h=>h
 |.ok x,h=>hk _ _ _ _ h
 |.eff x H' t g,h=>hk _ _ _ _ h
 |.need c r,h=>⟨h.1,Qo.Qbk hk h.2⟩
 |.split c a b,h=>⟨fun e=>Qo.Qbk hk (h.1 e),fun e=>Qo.Qbk hk (h.2 e)⟩
 |.both a b,h=>⟨Qo.Qbk hk h.1,Qo.Qbk hk h.2⟩
def Seen(K:Qv):Qv:=fun x H t f=>∃y,(∀M U v,Qf M U v x->Qf M U v y)∧K y H t f
theorem Seen.of{K:Qv}{x:SV}{H:List Qb}{t f:List Nat}(h:K x H t f):Seen K x H t f:=⟨x,fun _ _ _ h=>h,h⟩
def SV.Yw:SV->SV
 |.pv (.tsl row l)=>.pv (.rsl row.length (Qw row l))
 |.pv (.tptr row l i j)=>.pv (.rptr row.length (Qw row l) i j)
 |x=>x
theorem Qf.Yw{M:Qd}{U:Env}{v:Value}{x:SV}(h:Qf M U v x):Qf M U v x.Yw:=by
 unfold SV.Yw;split
 ·cases h with
  |pv h=>cases h with
   |tsl _ _ h=>exact .pv h
 ·cases h with
  |pv h=>cases h with
   |tptr _ _ _ _ h=>exact .pv h
 ·exact h
def Qz(P:Program)(S:Sem Value)(M:Qd)(U:Env)(H:List Qb)(w:World)(K:Qv):Prop:=
 ∃v w',S.run P w=.ok v w'∧∃x H' tch fg M' U',K x H' tch fg∧Qf M' U' v x∧Mem M' U' H' w'∧Fr M U H w M' U' H' w' H.length tch fg
def Qcb(P:Program)(S:Sem Unit)(M:Qd)(U:Env)(H:List Qb)(w:World)(K:Qv):Prop:=
 ∃w',S.run P w=.ok () w'∧∃x H' tch fg M' U',K x H' tch fg∧x=.any∧Mem M' U' H' w'∧Fr M U H w M' U' H' w' H.length tch fg
theorem Qz.same{P:Program}{S:Sem Value}{M:Qd}{U:Env}{H:List Qb}{w:World}{K:Qv}{v:Value}{x:SV}(hm:Mem M U H w)(hr:S.run P w=.ok v w)(hx:Qf M U v x)(hk:K x H [] []):Qz P S M U H w K:=
 ⟨v,w,hr,x,H,[],[],M,U,hk,hx,hm,Fr.refl ..⟩
theorem Qz.seen{P:Program}{S:Sem Value}{M:Qd}{U:Env}{H:List Qb}{w:World}{K:Qv}(h:Qz P S M U H w (Seen K)):Qz P S M U H w K:=by obtain⟨v,w',hr,x,H',t,f,M',U',⟨y,hy,hk⟩,hs,hm,hf⟩:=h;exact⟨v,w',hr,y,H',t,f,M',U',hk,hy _ _ _ hs,hm,hf⟩
theorem Qap{α:Type}(l v:List α)(f k:Nat)(h:f+v.length<=l.length):
  (l.take f++v++l.drop (f+v.length))[k]? =if k<f then l[k]? else if k<f+v.length then v[k-f]? else l[k]? :=by
 have ht:(l.take f).length=f:=by simp;omega
 rw[List.append_assoc,ZI];split
 ·rename_i hk;rw[ht]at hk;rw[if_pos hk,List.getElem?_take];simp[hk]
 ·rename_i hk;rw[ht]at hk;rw[if_neg hk,ht,ZI];split
  ·rename_i hk2;rw[if_pos (by omega)]
  ·rename_i hk2;rw[if_neg (by omega),List.getElem?_drop];congr 1;omega
theorem V4{i r sz j:Nat}(hj:j<sz)(h:i<r):i*sz+j<r*sz:=by have:=Nat.mul_le_mul_right sz (show i+1<=r from h);rw[Nat.succ_mul]at this;omega
def Ql9:List SV->Option (List Value)
 |[]=>some []
 |.pv (.lit v)::r=>(Ql9 r).map (v::·)
 |_=>none
def SV.X7(l:List SV):SV:=match Ql9 l with
 |some vs=>.lit (.agg vs.toArray)
 |none=>.agg l
theorem Ziv{M:Qd}{U:Env}:∀{l:List SV} {vs:List Value} {cs:List Value},Ql9 l=some vs->cs.length=l.length->
  (∀(i:Nat) (v:Value) (x:SV),cs[i]? =some v->l[i]? =some x->Qf M U v x)->cs=vs
 |[],vs,cs,h,hl,_=>by simp[Ql9]at h;subst h;simpa using hl
 |x::l,vs,[],h,hl,_=>by simp at hl
 |x::l,vs,c::cs,h,hl,hr=>by
  have h0:=hr 0 c x rfl rfl;match x,h with
  |.pv (.lit v),h=>simp only[Ql9,ZA]at h;obtain⟨r,hr',rfl⟩:=h;have e:=Ziv (cs:=cs) hr' (by simpa using hl) (fun i v x hv hx=>hr (i+1) v x (by simpa using hv) (by simpa using hx));rw[e,h0.Zt]
theorem Qf.X7{M:Qd}{U:Env}{cs:List Value}{l:List SV}(hl:cs.length=l.length)
  (h:∀(i:Nat) (v:Value) (x:SV),cs[i]? =some v->l[i]? =some x->Qf M U v x):Qf M U (.agg cs.toArray) (SV.X7 l):=by
 unfold SV.X7;split
 ·rename_i vs hv;rw[Ziv hv hl h];exact .pv (.lit _)
 ·exact .agg _ _ (by simpa using hl) fun i v x hv hx=>h i v x (by simpa using hv) hx
def SV.parts(n:Nat):SV->Option (List SV)
 |.agg l=>if l.length=n then some l else none
 |.pv (.lit (.agg cs))=>if cs.size=n then some (cs.toList.map SV.lit)else none
 |.pv (.lit (.tuple _))=>none
 |.any=>none
 |.tup _=>none
 |x=>if n=1 then some [x]else none
def SV.known:SV->Bool
 |.pv (.lit v)=>v.oneCell'
 |.any=>false
 |.agg _=>false
 |.tup _=>false
 |_=>true
theorem Qf.known{M:Qd}{U:Env}{v:Value}{x:SV}(h:Qf M U v x)(hx:x.known=true):v.oneCell'=true:=by
 cases h with
 |any=>simp[SV.known]at hx
 |pv h=>cases h with
  |lit=>simpa[SV.known]using hx
  |tsl _ _ h=>obtain⟨_,_,_,rfl⟩:=h.Qtm;rfl
  |tptr _ _ _ _ h=>obtain⟨_,_,rfl⟩:=h.Zl4;rfl
  |_=>rfl
 |agg=>simp[SV.known]at hx
 |tup=>simp[SV.known]at hx
 |slb _ _ _ _ _ _ hm=>obtain⟨_,_,_,rfl,_⟩:=hm;rfl
 |_=>rfl
theorem Qf.parts{M:Qd}{U:Env}{v:Value}{x:SV}{n:Nat}{l:List SV}(h:Qf M U v x)(hx:x.parts n=some l):
  v.cells.size=n∧l.length=n∧∀(i:Nat) (u:Value) (y:SV),v.cells[i]? =some u->l[i]? =some y->Qf M U u y:=by
 have one:∀(v:Value) (x:SV) (l:List SV),v.cells= #[v]->Qf M U v x->(if n=1 then some [x]else none)=some l->
   v.cells.size=n∧l.length=n∧∀(i:Nat) (u:Value) (y:SV),v.cells[i]? =some u->l[i]? =some y->Qf M U u y:=by
  intro v x l hc hr hl;split at hl
  ·rename_i hn;cases hl;subst hn;refine⟨by simp[hc],rfl,fun i u y hu hy=>?_⟩;rw[hc]at hu;match i with
   |0=>simp at hu hy;subst hu;subst hy;exact hr
   |i+1=>simp at hy
  ·cases hl
 match v,x,h with
 |v,.any,_=>simp[SV.parts]at hx
 |_,.tup l',_=>simp[SV.parts]at hx
 |_,.agg l',.agg cs _ hl hr=>
  simp only[SV.parts]at hx;split at hx
  ·rename_i hn;cases hx;exact⟨by simp[Value.cells,hl,hn],hn,fun i u y hu hy=>hr i u y (by simpa[Value.cells]using hu) hy⟩
  ·cases hx
 |_,.pv _,.pv (.lit v)=>
  match v,hx with
  |.agg cs,hx=>
   simp only[SV.parts]at hx;split at hx
   ·rename_i hn;cases hx;refine⟨by simp[Value.cells,hn],by simp[hn],fun i u y hu hy=>?_⟩;simp only[ZC,ZA,Value.cells]at hu hy;obtain⟨z,hz,rfl⟩:=hy;have:u=z:=by rw[<-Array.getElem?_toList]at hu;rw[hz]at hu;exact(ZV hu).symm
    subst this;exact .pv (.lit _)
   ·cases hx
  |.bool b,hx=>exact one _ _ l rfl (.pv (.lit _)) hx
  |.int _ _,hx=>exact one _ _ l rfl (.pv (.lit _)) hx
  |.float _ _,hx=>exact one _ _ l rfl (.pv (.lit _)) hx
  |.complex _ _ _,hx=>exact one _ _ l rfl (.pv (.lit _)) hx
  |.string _,hx=>exact one _ _ l rfl (.pv (.lit _)) hx
  |.pointer _,hx=>exact one _ _ l rfl (.pv (.lit _)) hx
  |.slice _ _ _,hx=>exact one _ _ l rfl (.pv (.lit _)) hx
  |.map _,hx=>exact one _ _ l rfl (.pv (.lit _)) hx
  |.chan _,hx=>exact one _ _ l rfl (.pv (.lit _)) hx
  |.func _ _ _,hx=>exact one _ _ l rfl (.pv (.lit _)) hx
  |.nilFunc,hx=>exact one _ _ l rfl (.pv (.lit _)) hx
  |.iface _ _,hx=>exact one _ _ l rfl (.pv (.lit _)) hx
  |.nilIface,hx=>exact one _ _ l rfl (.pv (.lit _)) hx
  |.tuple _,hx=>simp[SV.parts]at hx
 |_,.pv _,.pv (.rnil sz)=>exact one _ _ l rfl (.pv (.rnil sz)) hx
 |_,.pv _,.pv (.rsl b off c sz n' rows hn hc h0 h1 h2)=>exact one _ _ l rfl (.pv (.rsl b off c sz n' rows hn hc h0 h1 h2)) hx
 |_,.pv _,.pv (.tsl row l' hp)=>exact one _ _ l (by obtain⟨_,_,_,rfl⟩:=hp.Qtm;rfl) (.pv (.tsl row l' hp)) hx
 |_,.pv _,.pv (.csl a n row l' hp)=>exact one _ _ l rfl (.pv (.csl a n row l' hp)) hx
 |_,.pv _,.pv (.tptr row l' i j hp)=>exact one _ _ l (by obtain⟨_,_,rfl⟩:=hp.Zl4;rfl) (.pv (.tptr row l' i j hp)) hx
 |_,.pv _,.pv (.remp a c sz)=>exact one _ _ l rfl (.pv (.remp a c sz)) hx
 |_,.pv _,.pv (.rptr b off sz i j k rows hk h0 h1 h2)=>exact one _ _ l rfl (.pv (.rptr b off sz i j k rows hk h0 h1 h2)) hx
 |_,.ptr _ _ _ _,.ptr s sz i j k p hp hk=>exact one _ _ l rfl (.ptr s sz i j k p hp hk) hx
 |_,.sl _ _ _ _,.sl s sz st n' c k p hp hk hc hn h6=>exact one _ _ l rfl (.sl s sz st n' c k p hp hk hc hn h6) hx
 |_,.sl _ _ _ _,.slz s sz st a=>exact one _ _ l rfl (.slz s sz st a) hx
 |_,.mp _,.mp s p hp=>exact one _ _ l rfl (.mp s p hp) hx
 |_,.yld _,.yld s p hp=>exact one _ _ l rfl (.yld s p hp) hx
 |_,.slb _ _ _ _ _,.slb s sz st n' m h hm=>exact one _ _ l (by obtain⟨_,_,_,rfl,_⟩:=hm;rfl) (.slb s sz st n' m h hm) hx
 |_,.fn _ _ _,.fn f a b x y ha hb h k=>exact one _ _ l rfl (.fn f a b x y ha hb h k) hx
end Go.Sx

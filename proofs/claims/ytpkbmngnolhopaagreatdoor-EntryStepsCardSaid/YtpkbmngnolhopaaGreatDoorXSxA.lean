/- An own logic over the kit's walk: symbolic values, a symbolic heap of owned blocks, immutable memory. Part A: the relations and what keeps them. Part T of the own logic: data of one kind. And further parts. -/
import Derived.RangeFuncLeaves
import Derived.OrdersHeld
import Derived.KernelRfl
import Derived.Laws.Strings
import Derived.Deep.LoopGhost
import Derived.Deep.MidRow
import Derived.Laws.CopyRow
import Derived.Laws.AppendOwn
set_option linter.unusedVariables false
set_option linter.unusedSimpArgs false
open Option renaming map_eq_some_iff->U,map_some->ZT
open List renaming getElem?_eq_some_iff->ZA,getElem?_map->ZB,getElem?_append->ZH,map_cons->ZI,getElem?_cons_zero->ZK,eq_nil_of_length_eq_zero->ZM,getElem?_append_left->ZN,getElem?_eq_none->ZO,getElem?_set_ne->ZP,getElem?_set->ZR,length_cons->ZS
open Nat renaming lt_of_lt_of_le->ZC,beq->ZE,le_refl->ZF,ne_of_lt->ZG,eq_of_beq_eq_true->ZL,le_trans->ZQ
open Option.some renaming injEq->ZD,inj->ZU
open SizeOf renaming sizeOf->ZJ
section
namespace Go.Sx
open Go
structure Place where
 block:Nat
 cap:Nat
 subs:List Nat
def Place.has(p:Place)(b:Nat):Prop:=p.block=b∨b∈p.subs
theorem Place.self(p:Place):p.has p.block:=.inl rfl
abbrev Qd:=Nat->Option Obj
abbrev Env:=Nat->Option Place
def Qd.cell(M:Qd)(b i:Nat):Option Value:=
 match M b with
 |some (.cells c _ _)=>c[i]?
 |_=>none
def Qd.le(M M':Qd):Prop:=∀b o,M b=some o->M' b=some o
def Env.le(Z Z':Env):Prop:=∀s p,Z s=some p->Z' s=some p
theorem Qd.le_refl(M:Qd):M.le M:=fun _ _ h=>h
theorem Qd.le_trans{A B C:Qd}(h:A.le B)(k:B.le C):A.le C:=fun b o e=>k b o (h b o e)
theorem Env.le_refl(Z:Env):Z.le Z:=fun _ _ h=>h
theorem Env.le_trans{A B C:Env}(h:A.le B)(k:B.le C):A.le C:=fun b o e=>k b o (h b o e)
theorem Qd.Qtf{M M':Qd}(h:M.le M'){b i:Nat}{v:Value}(hc:M.cell b i=some v):M'.cell b i=some v:=by
 unfold Qd.cell at*;cases hb:M b with
 |none=>simp[hb]at hc
 |some o=>rw[h b o hb];simpa[hb]using hc
abbrev W5(v:Value):Bool:=v.oneCell'
inductive Ty where
 |int (k:IntKind)
 |bool
 |str
 |seq (row:List Ty)
mutual
def Ty.El:Ty->Type
 |.int _=>Int
 |.bool=>Bool
 |.str=>ByteArray
 |.seq row=>List (Ql row)
def Ql:List Ty->Type
 |[]=>Unit
 |[t]=>t.El
 |t::t'::ts=>t.El×Ql (t'::ts)
end
inductive PV where
 |lit (v:Value)
 |rsl (sz:Nat) (rows:List (List PV))
 |rptr (sz:Nat) (rows:List (List PV)) (i j:Nat)
 |tsl (row:List Ty) (l:List (Ql row))
 |tptr (row:List Ty) (l:List (Ql row)) (i j:Nat)
 |csl (row:List Ty) (l:List (Ql row))
def Ty.pv:(t:Ty)->t.El->PV
 |.int k,n=>.lit (.int k n)
 |.bool,b=>.lit (.bool b)
 |.str,s=>.lit (.string s)
 |.seq row,l=>.tsl row l
def Zn:(ts:List Ty)->Ql ts->List PV
 |[],_=>[]
 |[t],x=>[t.pv x]
 |t::t'::ts,x=>t.pv x.1::Zn (t'::ts) x.2
theorem Vc:∀(ts:List Ty) (x:Ql ts),(Zn ts x).length=ts.length
 |[],_=>rfl
 |[t],x=>rfl
 |t::t'::ts,x=>by simp only[Zn,ZS,Vc (t'::ts) x.2]
def Ty.Y8:(t:Ty)->t.El
 |.int _=>(0:Int)
 |.bool=>false
 |.str=>ByteArray.empty
 |.seq _=>[]
def Ql.Y8:(ts:List Ty)->Ql ts
 |[]=>()
 |[t]=>t.Y8
 |t::t'::ts=>(t.Y8,Ql.Y8 (t'::ts))
abbrev Q0(row:List Ty)(l:List (Ql row)):List (List PV):=l.map (Zn row)
inductive SV where
 |any
 |pv (p:PV)
 |agg (cells:List SV)
 |tup (parts:List SV)
 |ptr (sid sz i j:Nat)
 |sl (sid sz start len:Nat)
 |mp (sid:Nat)
 |fn (f:Fn) (first captured:List SV)
 |yld (sid:Nat)
 |slb (sid sz start len room:Nat)
instance:Inhabited PV:=⟨.lit (.bool false)⟩
instance:Inhabited SV:=⟨.any⟩
inductive Qe where
 |val (t:Ty)
 |agg (row:List Ty)
def Qe.El:Qe->Type
 |.val t=>t.El
 |.agg row=>Ql row
def Ty.toV:(t:Ty)->t.El->Value
 |.int k,n=>.int k n
 |.bool,b=>.bool b
 |.str,s=>.string s
 |.seq _,_=>.bool false
def Vm:(ts:List Ty)->Ql ts->List Value
 |[],_=>[]
 |[t],x=>[t.toV x]
 |t::t'::ts,x=>t.toV x.1::Vm (t'::ts) x.2
def Qe.Z2:(a:Qe)->a.El->Value
 |.val t,x=>t.toV x
 |.agg row,x=>.agg (Vm row x).toArray
def Qe.raw:(a:Qe)->a.El->SV
 |.val t,x=>.pv (t.pv x)
 |.agg row,x=>.agg ((Zn row x).map .pv)
def Xb(k v:Qe):Nat->List (k.El×v.El)->List (Value×SV×Nat)
 |_,[]=>[]
 |n,x::l=>(k.Z2 x.1,v.raw x.2,n)::Xb k v (n+1) l
abbrev SV.lit(v:Value):SV:=.pv (.lit v)
inductive Zu (M:Qd):Value->PV->Prop where
 |lit (v:Value):Zu M v (.lit v)
 |rnil (sz:Nat):Zu M (.slice none 0 0) (.rsl sz [])
 | rsl (b off c sz n:Nat) (rows:List (List PV)) (hn:n = rows.length) (hc:n <= c)
   (h0:∀i j,i<rows.length->j<sz->∃v,M.cell b (off+i*sz+j)=some v∧W5 v=true)
   (h1:∀(i:Nat) (r:List PV) (j:Nat) (p:PV) (v:Value),rows[i]? =some r->r[j]? =some p->M.cell b (off+i*sz+j)=some v->Zu M v p)
   (h2:∀(i:Nat) (r:List PV),rows[i]? =some r->r.length<=sz):Zu M (.slice (some ⟨b,off,none⟩) n c) (.rsl sz rows)
 |remp (a:Addr) (c sz:Nat):Zu M (.slice (some a) 0 c) (.rsl sz [])
 | rptr (b off sz i j k:Nat) (rows:List (List PV)) (hk:k = off + i * sz + j)
   (h0:∀i j,i<rows.length->j<sz->∃v,M.cell b (off+i*sz+j)=some v∧W5 v=true)
   (h1:∀(i:Nat) (r:List PV) (j:Nat) (p:PV) (v:Value),rows[i]? =some r->r[j]? =some p->M.cell b (off+i*sz+j)=some v->Zu M v p)
   (h2:∀(i:Nat) (r:List PV),rows[i]? =some r->r.length<=sz):Zu M (.pointer (some ⟨b,k,none⟩)) (.rptr sz rows i j)
 |tsl {v:Value} (row:List Ty) (l:List (Ql row)) (h:Zu M v (.rsl row.length (Q0 row l))):Zu M v (.tsl row l)
 |tptr {v:Value} (row:List Ty) (l:List (Ql row)) (i j:Nat) (h:Zu M v (.rptr row.length (Q0 row l) i j)):Zu M v (.tptr row l i j)
 |csl (a:Option Addr) (n:Nat) (row:List Ty) (l:List (Ql row)) (h:Zu M (.slice a n n) (.rsl row.length (Q0 row l))):Zu M (.slice a n n) (.csl row l)
theorem Zu.mono{M M':Qd}(h:M.le M'){v:Value}{p:PV}(hp:Zu M v p):Zu M' v p:=by
 induction hp with
 |lit v=>exact .lit v
 |rnil sz=>exact .rnil sz
 |rsl b off c sz n rows hn hc h0 h1 h2 ih=>
  refine .rsl b off c sz n rows hn hc (fun i j hi hj=>?_) (fun i r j p v hi hj hcl=>?_) h2
  ·obtain⟨v,hv,hx⟩:=h0 i j hi hj;exact⟨v,Qd.Qtf h hv,hx⟩
  ·obtain⟨u,hu,_⟩:=h0 i j (ZA.1 hi).1 (ZC (ZA.1 hj).1 (h2 i r hi));have:=Qd.Qtf h hu;rw[hcl]at this;cases this;exact ih i r j p _ hi hj hu
 |remp a c sz=>exact .remp a c sz
 |tsl row l _ ih=>exact .tsl row l ih
 |tptr row l i j _ ih=>exact .tptr row l i j ih
 |csl a n row l _ ih=>exact .csl a n row l ih
 |rptr b off sz i j k rows hk h0 h1 h2 ih=>
  refine .rptr b off sz i j k rows hk (fun i j hi hj=>?_) (fun i r j p v hi hj hcl=>?_) h2
  ·obtain⟨v,hv,hx⟩:=h0 i j hi hj;exact⟨v,Qd.Qtf h hv,hx⟩
  ·obtain⟨u,hu,_⟩:=h0 i j (ZA.1 hi).1 (ZC (ZA.1 hj).1 (h2 i r hi));have:=Qd.Qtf h hu;rw[hcl]at this;cases this;exact ih i r j p _ hi hj hu
theorem Zu.Qtk{M:Qd}{v:Value}{sz:Nat}{rows:List (List PV)}(h:Zu M v (.rsl sz rows)):∃a n c,v=.slice a n c:=by
 generalize e:PV.rsl sz rows=p at h;cases h<;>first|cases e|skip
 all_goals exact⟨_,_,_,rfl⟩
theorem Zu.Zl9{M:Qd}{v:Value}{sz i j:Nat}{rows:List (List PV)}(h:Zu M v (.rptr sz rows i j)):∃b k,v=.pointer (some ⟨b,k,none⟩):=by
 generalize e:PV.rptr sz rows i j=p at h;cases h<;>first|cases e|skip
 all_goals exact⟨_,_,rfl⟩
theorem Ynd{M:Qd}{v:Value}{sz:Nat}{rows rows':List (List PV)}(hl:rows'.length=rows.length)
  (h:∀(i:Nat) (r':List PV),rows'[i]? =some r'->∃r,rows[i]? =some r∧r'.length=r.length∧∀(j:Nat) (q:PV),r'[j]? =some q->∃p,r[j]? =some p∧∀(M:Qd) (v:Value),Zu M v p->Zu M v q)
  (hp:Zu M v (.rsl sz rows)):Zu M v (.rsl sz rows'):=by
 cases hp with
 |rnil=>cases ZM (l:=rows') (by simpa using hl);exact .rnil _
 |remp a c=>cases ZM (l:=rows') (by simpa using hl);exact .remp a c _
 |rsl b off c _ n _ hn hc h0 h1 h2=>
  refine .rsl b off c sz n rows' (by rw[hl];exact hn) hc (fun i j hi hj=>h0 i j (by rw[<-hl];exact hi) hj) (fun i r' j q v hr hq hv=>?_) (fun i r' hr=>?_)
  ·obtain⟨r,g1,_,g3⟩:=h i r' hr;obtain⟨p,g4,g5⟩:=g3 j q hq;exact g5 M v (h1 i r j p v g1 g4 hv)
  ·obtain⟨r,g1,g2,_⟩:=h i r' hr;rw[g2];exact h2 i r g1
inductive Qf (M:Qd) (Z:Env):Value->SV->Prop where
 |any (v:Value):Qf M Z v .any
 |pv {v:Value} {p:PV} (h:Zu M v p):Qf M Z v (.pv p)
 |agg (cs:Array Value) (l:List SV) (hl:cs.size=l.length) (h:∀(i:Nat) (v:Value) (x:SV),cs[i]? =some v->l[i]? =some x->Qf M Z v x):Qf M Z (.agg cs) (.agg l)
 |tup (cs:Array Value) (l:List SV) (hl:cs.size=l.length) (h:∀(i:Nat) (v:Value) (x:SV),cs[i]? =some v->l[i]? =some x->Qf M Z v x):Qf M Z (.tuple cs) (.tup l)
 |ptr (s sz i j k:Nat) (p:Place) (hp:Z s=some p) (hk:k=i*sz+j):Qf M Z (.pointer (some ⟨p.block,k,none⟩)) (.ptr s sz i j)
 |sl (s sz st n c k:Nat) (p:Place) (hp:Z s=some p) (hk:k=st*sz) (hc:(st+c)*sz<=p.cap) (hn:n<=c) (h6:c<=9223372036854775807):Qf M Z (.slice (some ⟨p.block,k,none⟩) n c) (.sl s sz st n)
 |slz (s sz st:Nat) (a:Option Addr):Qf M Z (.slice a 0 0) (.sl s sz st 0)
 |mp (s:Nat) (p:Place) (hp:Z s=some p):Qf M Z (.map (some p.block)) (.mp s)
 |yld (s:Nat) (p:Place) (hp:Z s=some p):Qf M Z (.func (.yield p.block) #[] #[]) (.yld s)
 |slb {v:Value} (s sz st n m:Nat) (h:Qf M Z v (.sl s sz st n)) (hm:∃a n' c,v=.slice a n' c∧m<=c):Qf M Z v (.slb s sz st n m)
 | fn (f:Fn) (a b:Array Value) (x y:List SV) (ha:a.size = x.length) (hb:b.size = y.length)
   (h:∀(i:Nat) (v:Value) (s:SV),a[i]? =some v->x[i]? =some s->Qf M Z v s) (k:∀(i:Nat) (v:Value) (s:SV),b[i]? =some v->y[i]? =some s->Qf M Z v s):Qf M Z (.func f a b) (.fn f x y)
mutual
def SV.forget(d:List Nat):SV->SV
 |.agg l=>.agg (Wi d l)
 |.tup l=>.tup (Wi d l)
 |.fn f a b=>.fn f (Wi d a) (Wi d b)
 |.ptr s sz i j=>if d.contains s then .any else .ptr s sz i j
 |.sl s sz st n=>if d.contains s then .any else .sl s sz st n
 |.mp s=>if d.contains s then .any else .mp s
 |.yld s=>if d.contains s then .any else .yld s
 |.slb s sz st n m=>if d.contains s then .any else .slb s sz st n m
 |.any=>.any
 |.pv p=>.pv p
def Wi(d:List Nat):List SV->List SV
 |[]=>[]
 |x::xs=>x.forget d::Wi d xs
end
theorem Qss(d:List Nat)(l:List SV):Wi d l=l.map (SV.forget d):=by
 induction l with
 |nil=>simp[Wi]
 |cons x xs ih=>simp[Wi,ih]
def Env.Qai(d:List Nat)(Z Z':Env):Prop:=∀s p,d.contains s=false->Z s=some p->Z' s=some p
def Env.Qj0(d:List Nat)(Z Z':Env):Prop:=∀s p,d.contains s=false->Z s=some p->∃p',Z' s=some p'∧p'.block=p.block∧p'.cap=p.cap
theorem Env.Qai.sim{d:List Nat}{Z Z':Env}(h:Env.Qai d Z Z'):Env.Qj0 d Z Z':=fun s p a b=>⟨p,h s p a b,rfl,rfl⟩
theorem Qf.Qak{M M':Qd}{Z Z':Env}{d:List Nat}(hM:M.le M')(hρ:Env.Qj0 d Z Z'){v:Value}{x:SV}(h:Qf M Z v x):Qf M' Z' v (x.forget d):=by
 induction h with
 |any v=>simp only[SV.forget];exact .any v
 |pv h=>simp only[SV.forget];exact .pv (h.mono hM)
 |agg cs l hl _ ih=>simp only[SV.forget,Qss];refine .agg cs _ (by simpa using hl) fun i v x hv hx=>?_;simp only[ZB,U]at hx;obtain⟨y,hy,rfl⟩:=hx;exact ih i v y hv hy
 |tup cs l hl _ ih=>simp only[SV.forget,Qss];refine .tup cs _ (by simpa using hl) fun i v x hv hx=>?_;simp only[ZB,U]at hx;obtain⟨y,hy,rfl⟩:=hx;exact ih i v y hv hy
 |ptr s sz i j k p hp hk=>
  simp only[SV.forget];split
  ·exact .any _
  ·rename_i hs;obtain⟨p',h1,h2,h3⟩:=hρ s p (by simpa using hs) hp;rw[<-h2];exact .ptr s sz i j k p' h1 hk
 |sl s sz st n c k p hp hk hc hn h6=>
  simp only[SV.forget];split
  ·exact .any _
  ·rename_i hs;obtain⟨p',h1,h2,h3⟩:=hρ s p (by simpa using hs) hp;rw[<-h2];exact .sl s sz st n c k p' h1 hk (by rw[h3];exact hc) hn h6
 |slz s sz st a=>
  simp only[SV.forget];split
  ·exact .any _
  ·exact .slz s sz st a
 |mp s p hp=>
  simp only[SV.forget];split
  ·exact .any _
  ·rename_i hs;obtain⟨p',h1,h2,h3⟩:=hρ s p (by simpa using hs) hp;rw[<-h2];exact .mp s p' h1
 |yld s p hp=>
  simp only[SV.forget];split
  ·exact .any _
  ·rename_i hs;obtain⟨p',h1,h2,h3⟩:=hρ s p (by simpa using hs) hp;rw[<-h2];exact .yld s p' h1
 |slb s sz st n m _ hm ih=>
  simp only[SV.forget]at ih⊢;split
  ·exact .any _
  ·rename_i hs;rw[if_neg hs]at ih;exact .slb s sz st n m ih hm
 |fn f a b x y ha hb _ _ ih jh=>
  simp only[SV.forget,Qss];refine .fn f a b _ _ (by simpa using ha) (by simpa using hb) (fun i v s hv hs=>?_) (fun i v s hv hs=>?_)
  ·simp only[ZB,U]at hs;obtain⟨y,hy,rfl⟩:=hs;exact ih i v y hv hy
  ·simp only[ZB,U]at hs;obtain⟨y,hy,rfl⟩:=hs;exact jh i v y hv hy
theorem Qf.forget{M M':Qd}{Z Z':Env}{d:List Nat}(hM:M.le M')(hρ:Env.Qai d Z Z'){v:Value}{x:SV}(h:Qf M Z v x):Qf M' Z' v (x.forget d):=h.Qak hM hρ.sim
theorem Qf.mono{M M':Qd}{Z Z':Env}(hM:M.le M')(hρ:Z.le Z'){v:Value}{x:SV}(h:Qf M Z v x):Qf M' Z' v x:=by
 induction h with
 |any v=>exact .any v
 |pv h=>exact .pv (h.mono hM)
 |agg cs l hl _ ih=>exact .agg cs l hl ih
 |tup cs l hl _ ih=>exact .tup cs l hl ih
 |ptr s sz i j k p hp hk=>exact .ptr s sz i j k p (hρ s p hp) hk
 |sl s sz st n c k p hp hk hc hn h6=>exact .sl s sz st n c k p (hρ s p hp) hk hc hn h6
 |slz s sz st a=>exact .slz s sz st a
 |mp s p hp=>exact .mp s p (hρ s p hp)
 |yld s p hp=>exact .yld s p (hρ s p hp)
 |slb s sz st n m _ hm ih=>exact .slb s sz st n m ih hm
 |fn f a b x y ha hb _ _ ih jh=>exact .fn f a b x y ha hb ih jh
inductive TT where
 |nil
 |node (l:TT) (v:Option SV) (r:TT)
def TT.get:TT->Nat->Option SV
 |.nil,_=>none
 |.node l v r,n=>bif ZE n 0 then v else bif ZE (n%2) 1 then l.get (n/2)else r.get (n/2-1)
def TT.one:Nat->Nat->SV->TT
 |0,_,_=>.nil
 |k+1,n,x=>bif ZE n 0 then .node .nil (some x) .nil else bif ZE (n%2) 1 then .node (TT.one k (n/2) x) none .nil else .node .nil none (TT.one k (n/2-1) x)
def TT.set:TT->Nat->SV->TT
 |.nil,n,x=>TT.one 12 n x
 |.node l v r,n,x=>bif ZE n 0 then .node l (some x) r else bif ZE (n%2) 1 then .node (l.set (n/2) x) v r else .node l v (r.set (n/2-1) x)
def TT.map(f:SV->SV):TT->TT
 |.nil=>.nil
 |.node l v r=>.node (l.map f) (v.map f) (r.map f)
def TT.full:Nat->TT
 |0=>.nil
 |n+1=>.node (TT.full n) none (TT.full n)
theorem TT.get_map(f:SV->SV):∀(T:TT) (t:Nat),(T.map f).get t=(T.get t).map f
 |.nil,_=>rfl
 |.node l v r,t=>by simp only[TT.map,TT.get,TT.get_map f l,TT.get_map f r];cases ZE t 0<;>cases ZE (t%2) 1<;>rfl
theorem Qe5{a b:Nat}(h:a=b):ZE a b=true:=by subst h;exact Nat.beq_refl a
theorem V3{a b:Nat}(h:a≠b):ZE a b=false:=by
 cases e:ZE a b with
 |true=>exact absurd (ZL e) h
 |false=>rfl
theorem TT.Qz4:∀(k d t:Nat) (x y:SV),(TT.one k d x).get t=some y->t=d∧y=x
 |0,d,t,x,y,h=>by simp[TT.one,TT.get]at h
 |k+1,d,t,x,y,h=>by
  by_cases d0:d=0
  ·subst d0;have e0:TT.one (k+1) 0 x=.node .nil (some x) .nil:=rfl;rw[e0]at h;by_cases t0:t=0
   ·subst t0;have e1:TT.get (.node .nil (some x) .nil) 0=some x:=rfl;rw[e1]at h;cases h;exact⟨rfl,rfl⟩
   ·simp only[TT.get,V3 t0,cond_false]at h;cases hm:ZE (t%2) 1<;>(rw[hm]at h;cases h)
  ·have ed:=V3 d0;by_cases t0:t=0
   ·subst t0;simp only[TT.one,ed,cond_false]at h;have e2:∀l v r,TT.get (.node l v r) 0=v:=fun _ _ _=>rfl;cases hm:ZE (d%2) 1<;>(rw[hm]at h;simp only[cond_true,cond_false,e2]at h;cases h)
   ·have et:=V3 t0;simp only[TT.one,ed,cond_false]at h;by_cases hd:d%2=1<;>by_cases ht:t%2=1<;>first|simp only[Qe5 hd]at h|simp only[V3 hd]at h
    all_goals simp only[cond_true,cond_false,TT.get,et]at h
    ·simp only[Qe5 ht,cond_true]at h;obtain⟨e,rfl⟩:=TT.Qz4 k _ _ _ _ h;exact⟨by omega,rfl⟩
    ·simp only[V3 ht,cond_false]at h;cases h
    ·simp only[Qe5 ht,cond_true]at h;cases h
    ·simp only[V3 ht,cond_false]at h;obtain⟨e,rfl⟩:=TT.Qz4 k _ _ _ _ h;exact⟨by omega,rfl⟩
theorem TT.Kv:∀(T:TT) (d t:Nat) (x y:SV),(T.set d x).get t=some y->(t=d∧y=x)∨(t≠d∧T.get t=some y)
 |.nil,d,t,x,y,h=>.inl (TT.Qz4 12 d t x y h)
 |.node l v r,d,t,x,y,h=>by
  by_cases d0:d=0
  ·subst d0;have e0:TT.set (.node l v r) 0 x=.node l (some x) r:=rfl;rw[e0]at h;by_cases t0:t=0
   ·subst t0;have e1:TT.get (.node l (some x) r) 0=some x:=rfl;rw[e1]at h;cases h;exact .inl ⟨rfl,rfl⟩
   ·have e:=V3 t0;simp only[TT.get,e,cond_false]at h;exact .inr ⟨t0,by simp only[TT.get,e,cond_false];exact h⟩
  ·have ed:=V3 d0;by_cases t0:t=0
   ·subst t0;refine .inr ⟨fun e=>d0 e.symm,?_⟩;simp only[TT.set,ed,cond_false]at h;have e2:∀l r,TT.get (.node l v r) 0=v:=fun _ _=>rfl;cases hm:ZE (d%2) 1<;>(rw[hm]at h;simp only[cond_true,cond_false,e2]at h;rw[e2];exact h)
   ·have et:=V3 t0;simp only[TT.set,ed,cond_false]at h;by_cases hd:d%2=1<;>by_cases ht:t%2=1<;>first|simp only[Qe5 hd]at h|simp only[V3 hd]at h
    all_goals simp only[cond_true,cond_false,TT.get,et]at h⊢
    ·simp only[Qe5 ht,cond_true]at h⊢;rcases TT.Kv l _ _ _ _ h with⟨e,rfl⟩|⟨e,h⟩
     ·exact .inl ⟨by omega,rfl⟩
     ·exact .inr ⟨fun e'=>e (by rw[e']),h⟩
    ·simp only[V3 ht,cond_false]at h⊢;exact .inr ⟨fun e=>ht (by rw[e];exact hd),h⟩
    ·simp only[Qe5 ht,cond_true]at h⊢;exact .inr ⟨fun e=>hd (by rw[<-e];exact ht),h⟩
    ·simp only[V3 ht,cond_false]at h⊢;rcases TT.Kv r _ _ _ _ h with⟨e,rfl⟩|⟨e,h⟩
     ·exact .inl ⟨by omega,rfl⟩
     ·exact .inr ⟨fun e'=>e (by rw[e']),h⟩
theorem TT.Qg8:∀(n t:Nat),(TT.full n).get t=none
 |0,_=>rfl
 |n+1,t=>by simp only[TT.full,TT.get,TT.Qg8 n];cases ZE t 0<;>cases ZE (t%2) 1<;>rfl
structure Qgs where
 state:LoopState
 pending:Option Code
 T:TT
 nt:Nat
 params:Array Tmp
 assign:Code
 body:Code
def Qv9:Exit->Option (Option Code)
 |.normal=>some none
 |.ret=>some (some .ret)
 |.exit id=>some (some (.exit id))
 |.goto t=>some (some (.goto t))
 |_=>none
inductive Qb where
 |vec (ty sz:Nat) (rows:List (List PV))
 |tvec (ty:Nat) (row:List Ty) (l:List (Ql row))
 |mix (ty sz:Nat) (rows:List (List SV))
 |tlnk (ty:Nat) (row:List Ty) (l:List (Ql row)) (r c:Nat) (x:SV)
 |nest (ty ity:Nat) (row:List Ty) (ll:List (List (Ql row))) (op:Option (Nat×SV))
 |map (es:List (Value×SV×Nat)) (clock:Nat)
 |tmap (k v:Qe) (l:List (k.El×v.El))
 |iter (s:ByteArray) (pos:Nat)
 |loop (l:Qgs)
 |over (st:LoopState) (pd:Option Code)
 |mit (m:Option Nat) (clock:Nat) (seen:List Nat)
 |dfr (shut:Bool)
 |dead
instance:Inhabited Qb:=⟨.dead⟩
def Qb.live:Qb->Bool
 |.dead=>false
 |_=>true
def Qb.forget(d:List Nat):Qb->Qb
 |.mix ty sz rows=>.mix ty sz (rows.map (·.map (SV.forget d)))
 |.tlnk ty row l r c x=>.tlnk ty row l r c (x.forget d)
 |.nest ty ity row ll op=>.nest ty ity row ll (op.map fun x=>(x.1,x.2.forget d))
 |.map es c=>.map (es.map fun e=>(e.1,e.2.1.forget d,e.2.2)) c
 |.loop l=>.loop {l with T:=l.T.map (SV.forget d)}
 |.mit m c s=>.mit (m.bind fun x=>bif d.contains x then none else some x) c s
 |o=>o
structure Kp (M:Qd) (Z:Env) (w:World) (p:Place) (ty sz n:Nat) (cell:Nat->Nat->Option SV):Prop where
 ex:∃cs,w.heap[p.block]? =some (.cells cs ty (0,0))∧p.cap<=cs.size∧n*sz<=p.cap∧
  (∀i j,i<n->j<sz->∃v,cs[i*sz+j]? =some v∧W5 v=true)∧
  (∀i j x v,cell i j=some x->cs[i*sz+j]? =some v->i<n∧j<sz∧Qf M Z v x)∧
  (∀i j x,cell i j=some x->i<n∧j<sz)
def Y0(rows:List (List PV))(i j:Nat):Option SV:=(rows[i]?.bind (·[j]?)).map .pv
def Xo(rows:List (List SV))(i j:Nat):Option SV:=rows[i]?.bind (·[j]?)
def Wd(row:List Ty)(l:List (Ql row))(r c:Nat)(x:SV)(i j:Nat):Option SV:=(Y0 (Q0 row l) i j).map fun y=>if i=r∧j=c then x else y
structure Qet (M:Qd) (Z:Env) (w:World) (p:Place) (ty ity:Nat) (row:List Ty) (ll:List (List (Ql row))) (op:Option (Nat×SV)):Prop where
 ex:∃(cs:Array Value) (bl:Nat->Option Nat),w.heap[p.block]? =some (.cells cs ty (0,0))∧p.cap<=cs.size∧ll.length<=p.cap∧
  (∀i,i<ll.length->∃v,cs[i]? =some v∧W5 v=true)∧
  (∀i l,ll[i]? =some l->(∀x,op=some x->x.1≠i)->∃v,cs[i]? =some v∧
   ((bl i = none ∧ l = [] ∧ ∃ a,v = .slice a 0 0) ∨
    ∃b n c cap,bl i=some b∧b∈p.subs∧v=.slice (some ⟨b,0,none⟩) n c∧n=l.length∧n<=c∧c<=9223372036854775807∧c*row.length<=cap∧
    Kp M Z w ⟨b,cap,[]⟩ ity row.length (Q0 row l).length (Y0 (Q0 row l))))∧
  (∀i x,op=some (i,x)->i<ll.length∧∀v,cs[i]? =some v->Qf M Z v x)∧
  (∀i j b,bl i=some b->bl j=some b->i=j)∧
  ¬p.block∈p.subs
def Wz(M:Qd)(Z:Env)(w:World)(s:Nat)(es:List (Value×SV×Nat))(clock:Nat):Prop:=
 ∃p arr,Z s=some p∧w.heap[p.block]? =some (.map arr clock)∧arr.size=es.length∧
  ∀(i:Nat) (k:Value) (x:SV) (b:Nat),es[i]? =some (k,x,b)->∃e:MapEntry,arr[i]? =some e∧e.key=k∧e.born=b∧Qf M Z e.val x
def Q6(M:Qd)(Z:Env)(w:World)(s:Nat):Qb->Prop
 |.dead=>True
 |.vec ty sz rows=>(Z s=none∧rows=[])∨∃p,Z s=some p∧Kp M Z w p ty sz rows.length (Y0 rows)
 |.tvec ty row l=>(Z s=none∧Q0 row l=[])∨∃p,Z s=some p∧Kp M Z w p ty row.length (Q0 row l).length (Y0 (Q0 row l))
 |.mix ty sz rows=>(Z s=none∧rows=[])∨∃p,Z s=some p∧Kp M Z w p ty sz rows.length (Xo rows)
 |.tlnk ty row l r c x=>(Z s=none∧Q0 row l=[])∨∃p,Z s=some p∧Kp M Z w p ty row.length (Q0 row l).length (Wd row l r c x)
 |.nest ty ity row ll op=>(Z s=none∧ll=[]∧op=none)∨∃p,Z s=some p∧Qet M Z w p ty ity row ll op
 |.map es clock=>Wz M Z w s es clock
 |.tmap k v l=>Wz M Z w s (Xb k v 0 l) l.length
 |.iter str pos=>∃p,Z s=some p∧w.heap[p.block]? =some (.stringIter str pos)
 |.loop l=>∃p fn tmps d,Z s=some p∧w.heap[p.block]? =some (.loop {state:=l.state,pending:=l.pending,fn:=fn,tmps:=tmps,params:=l.params,assign:=l.assign,body:=l.body,defers:=d})∧tmps.size=l.nt∧
   ∀t x,l.T.get t=some x->Qf M Z (tmps.getD t undef) x
 |.over st pd=>∃(p:Place) (r:Loop),Z s=some p∧w.heap[p.block]? =some (.loop r)∧r.state=st∧r.pending=pd
 |.mit m c seen=>∃(p:Place) (q:Option Nat) (sn:Array Nat),Z s=some p∧w.heap[p.block]? =some (.mapIter q c sn c)∧sn.toList=seen∧∀mm,m=some mm->∃pm,Z mm=some pm∧q=some pm.block
 |.dfr shut=>∃p,Z s=some p∧w.heap[p.block]? =some (.deferred (if shut then none else some []))
structure Mem (M:Qd) (Z:Env) (H:List Qb) (w:World):Prop where
 imm:∀b o,M b=some o->w.heap[b]? =some o
 own:∀s o,H[s]? =some o->Q6 M Z w s o
 seps:∀s o p b,H[s]? =some o->o.live=true->Z s=some p->p.has b->M b=none
 diss:∀s s' o o' p p' b,H[s]? =some o->H[s']? =some o'->o.live=true->o'.live=true->Z s=some p->Z s'=some p'->p.has b->p'.has b->s=s'
 fresh:∀s,H.length<=s->Z s=none
 lts:∀s o p b,H[s]? =some o->o.live=true->Z s=some p->b∈p.subs->b<w.heap.size
theorem Mem.sep{M:Qd}{Z:Env}{H:List Qb}{w:World}(h:Mem M Z H w):∀s o p,H[s]? =some o->o.live=true->Z s=some p->M p.block=none:=
 fun s o p a b c=>h.seps s o p _ a b c p.self
def J4(Z:Env)(H:List Qb)(b:Nat):Prop:=∃s o p,H[s]? =some o∧o.live=true∧Z s=some p∧p.has b
theorem Kp.mono{M M':Qd}{Z Z':Env}{w w':World}{p:Place}{ty sz n:Nat}{cell:Nat->Nat->Option SV}(hM:M.le M')(hρ:Z.le Z')
  (hw:w'.heap[p.block]? =w.heap[p.block]?) (h:Kp M Z w p ty sz n cell):Kp M' Z' w' p ty sz n cell:=by
 obtain⟨cs,h1,h2,h3,h4,h5,h6⟩:=h.ex;exact⟨cs,hw.trans h1,h2,h3,h4,fun i j x v hx hv=>let⟨a,b,c⟩:=h5 i j x v hx hv;⟨a,b,c.mono hM hρ⟩,h6⟩
theorem Qet.goes{M M':Qd}{Z Z':Env}{w w':World}{p p':Place}{ty ity:Nat}{row:List Ty}{ll:List (List (Ql row))}{op op':Option (Nat×SV)}(hM:M.le M')(hb:p'.block=p.block)(hc:p'.cap=p.cap)(hsb:p'.subs=p.subs)
  (hw:∀b,p.has b->w'.heap[b]? =w.heap[b]?) (hi:op'.map Prod.fst=op.map Prod.fst) (hx:∀i x y v,op=some (i,x)->op'=some (i,y)->Qf M Z v x->Qf M' Z' v y)
  (h:Qet M Z w p ty ity row ll op):Qet M' Z' w' p' ty ity row ll op':=by
 obtain⟨cs,bl,h1,h2,h3,h4,h5,h6,h7,h8⟩:=h.ex;refine⟨cs,bl,by rw[hb,hw _ p.self];exact h1,by rw[hc];exact h2,by rw[hc];exact h3,h4,fun i l hl hne=>?_,fun i y hy=>?_,h7,by rw[hb,hsb];exact h8⟩
 ·obtain⟨v,hv,k⟩:=h5 i l hl (fun x hx'=>by
   cases op' with
   |none=>rw[hx']at hi;cases hi
   |some y=>rw[hx']at hi;simp only[ZT,ZD]at hi;rw[<-hi];exact hne y rfl)
  refine⟨v,hv,?_⟩;rcases k with k|⟨b,n,c,cap,k1,k2,k3,k4,k5,k6,k7,k8⟩
  ·exact .inl k
  ·refine .inr ⟨b,n,c,cap,k1,by rw[hsb];exact k2,k3,k4,k5,k6,k7,?_⟩;obtain⟨cs',a1,a2,a3,a4,a5,a6⟩:=k8.ex;refine⟨cs',(hw b (.inr k2)).trans a1,a2,a3,a4,fun i j x v hx hv=>?_,a6⟩;obtain⟨b1,b2,b3⟩:=a5 i j x v hx hv;refine⟨b1,b2,?_⟩;unfold Y0 at hx;simp only[U]at hx;obtain⟨q,_,rfl⟩:=hx;cases b3 with
   |pv b3=>exact .pv (b3.mono hM)
 ·cases e:op with
  |none=>rw[e,hy]at hi;cases hi
  |some x=>
   obtain⟨j,x⟩:=x;have hij:i=j:=by rw[e,hy]at hi;simpa using hi
   subst hij;obtain⟨a,b⟩:=h6 i x e;exact⟨a,fun v hv=>hx i x y v e hy (b v hv)⟩
theorem Q6.tvec{M:Qd}{Z:Env}{w:World}{s ty:Nat}{row:List Ty}{l:List (Ql row)}:Q6 M Z w s (.tvec ty row l)=Q6 M Z w s (.vec ty row.length (Q0 row l)):=rfl
theorem Q6.mono{M M':Qd}{Z Z':Env}{w w':World}{s:Nat}{o:Qb}(hM:M.le M')(hρ:Z.le Z')(hs:Z' s=Z s)
  (hw:∀p b,Z s=some p->p.has b->w'.heap[b]? =w.heap[b]?) (h:Q6 M Z w s o):Q6 M' Z' w' s o:=by
 have hws:=hw;replace hw:∀p,Z s=some p->w'.heap[p.block]? =w.heap[p.block]? :=fun p hp=>hws p _ hp p.self;cases o with
 |dead=>trivial
 |vec ty sz rows=>
  rcases h with⟨h1,h2⟩|⟨p,h1,h2⟩
  ·exact .inl ⟨hs.trans h1,h2⟩
  ·exact .inr ⟨p,hs.trans h1,h2.mono hM hρ (hw p h1)⟩
 |tvec ty row l=>
  rcases h with⟨h1,h2⟩|⟨p,h1,h2⟩
  ·exact .inl ⟨hs.trans h1,h2⟩
  ·exact .inr ⟨p,hs.trans h1,h2.mono hM hρ (hw p h1)⟩
 |mix ty sz rows=>
  rcases h with⟨h1,h2⟩|⟨p,h1,h2⟩
  ·exact .inl ⟨hs.trans h1,h2⟩
  ·exact .inr ⟨p,hs.trans h1,h2.mono hM hρ (hw p h1)⟩
 |tlnk ty row l r c x=>
  rcases h with⟨h1,h2⟩|⟨p,h1,h2⟩
  ·exact .inl ⟨hs.trans h1,h2⟩
  ·exact .inr ⟨p,hs.trans h1,h2.mono hM hρ (hw p h1)⟩
 |nest ty ity row ll op=>
  rcases h with⟨h1,h2,h3⟩|⟨p,h1,h2⟩
  ·exact .inl ⟨hs.trans h1,h2,h3⟩
  exact .inr ⟨p,hs.trans h1,h2.goes hM rfl rfl rfl (fun b hb=>hws p b h1 hb) rfl fun i x y v e1 e2 hr=>by rw[e1]at e2;cases e2;exact hr.mono hM hρ⟩
 |map es clock=>obtain⟨p,arr,h1,h2,h3,h4⟩:=h;exact⟨p,arr,hs.trans h1,(hw p h1).trans h2,h3,fun i k x b hi=>let⟨e,a,b',c,d⟩:=h4 i k x b hi;⟨e,a,b',c,d.mono hM hρ⟩⟩
 |tmap k v l=>obtain⟨p,arr,h1,h2,h3,h4⟩:=h;exact⟨p,arr,hs.trans h1,(hw p h1).trans h2,h3,fun i k x b hi=>let⟨e,a,b',c,d⟩:=h4 i k x b hi;⟨e,a,b',c,d.mono hM hρ⟩⟩
 |iter str pos=>obtain⟨p,h1,h2⟩:=h;exact⟨p,hs.trans h1,(hw p h1).trans h2⟩
 |loop l=>obtain⟨p,fn,tmps,d,h1,h2,h3,h4⟩:=h;exact⟨p,fn,tmps,d,hs.trans h1,(hw p h1).trans h2,h3,fun t x hx=>(h4 t x hx).mono hM hρ⟩
 |mit m c sn=>obtain⟨p,q,sn,h1,h2,h3,h4⟩:=h;exact⟨p,q,sn,hs.trans h1,(hw p h1).trans h2,h3,fun mm e=>let⟨pm,a,b⟩:=h4 mm e;⟨pm,hρ mm pm a,b⟩⟩
 |over st pd=>obtain⟨p,r,h1,h2,h3⟩:=h;exact⟨p,r,hs.trans h1,(hw p h1).trans h2,h3⟩
 |dfr shut=>obtain⟨p,h1,h2⟩:=h;exact⟨p,hs.trans h1,(hw p h1).trans h2⟩
theorem Zhn(d:List Nat)(rows:List (List SV))(i j:Nat):Xo (rows.map (·.map (SV.forget d))) i j=(Xo rows i j).map (SV.forget d):=by
 unfold Xo;simp only[ZB];cases rows[i]? with
 |none=>rfl
 |some r=>simp
theorem Zf8{d:List Nat}{row:List Ty}{l:List (Ql row)}{r c:Nat}{x:SV}{i j:Nat}:Wd row l r c (x.forget d) i j=(Wd row l r c x i j).map (SV.forget d):=by
 unfold Wd Y0;simp only[Option.map_map];congr 1;funext y;simp only[Function.comp];split
 ·rfl
 ·rfl
theorem Yml(d:List Nat)(l:List PV):Wi d (l.map .pv)=l.map .pv:=by
 induction l with
 |nil=>rfl
 |cons x l ih=>simp only[ZI,Wi,SV.forget,ih]
theorem Qe.Yr1(d:List Nat):∀(a:Qe) (x:a.El),(a.raw x).forget d=a.raw x
 |.val t,x=>rfl
 |.agg row,x=>by simp only[Qe.raw,SV.forget,Yml]
theorem Qb8{k v:Qe}:∀(l:List (k.El×v.El)) (n:Nat),(Xb k v n l).length=l.length
 |[],n=>rfl
 |x::l,n=>by simp[Xb,Qb8 l (n+1)]
theorem Zkt{k v:Qe}{d:List Nat}:∀(l:List (k.El×v.El)) (n i:Nat) (kk:Value) (x:SV) (b:Nat),(Xb k v n l)[i]? =some (kk,x,b)->x.forget d=x
 |[],n,i,kk,x,b,h=>by simp[Xb]at h
 |y::l,n,i,kk,x,b,h=>by
  cases i with
  |zero=>simp only[Xb,ZK,ZD,Prod.mk.injEq]at h;obtain⟨_,rfl,_⟩:=h;exact Qe.Yr1 d v y.2
  |succ i=>exact Zkt l (n+1) i kk x b (by simpa[Xb]using h)
theorem Q6.Qak{M M':Qd}{Z Z':Env}{w w':World}{s:Nat}{d:List Nat}{o:Qb}(hM:M.le M')(hρ:Env.Qj0 d Z Z')(hs:Z' s=Z s)
  (hw:∀p b,Z s=some p->p.has b->w'.heap[b]? =w.heap[b]?) (h:Q6 M Z w s o):Q6 M' Z' w' s (o.forget d):=by
 have hws:=hw;replace hw:∀p,Z s=some p->w'.heap[p.block]? =w.heap[p.block]? :=fun p hp=>hws p _ hp p.self;cases o with
 |dead=>trivial
 |vec ty sz rows=>
  rcases h with⟨h1,h2⟩|⟨p,h1,h2⟩
  ·exact .inl ⟨hs.trans h1,h2⟩
  ·refine .inr ⟨p,hs.trans h1,?_⟩;obtain⟨cs,a1,a2,a3,a4,a5,a6⟩:=h2.ex;refine⟨cs,(hw p h1).trans a1,a2,a3,a4,fun i j x v hx hv=>?_,a6⟩;obtain⟨b1,b2,b3⟩:=a5 i j x v hx hv;refine⟨b1,b2,?_⟩;unfold Y0 at hx;simp only[U]at hx;obtain⟨q,_,rfl⟩:=hx;cases b3 with
   |pv b3=>exact .pv (b3.mono hM)
 |tvec ty row l=>
  rcases h with⟨h1,h2⟩|⟨p,h1,h2⟩
  ·exact .inl ⟨hs.trans h1,h2⟩
  ·refine .inr ⟨p,hs.trans h1,?_⟩;obtain⟨cs,a1,a2,a3,a4,a5,a6⟩:=h2.ex;refine⟨cs,(hw p h1).trans a1,a2,a3,a4,fun i j x v hx hv=>?_,a6⟩;obtain⟨b1,b2,b3⟩:=a5 i j x v hx hv;refine⟨b1,b2,?_⟩;unfold Y0 at hx;simp only[U]at hx;obtain⟨q,_,rfl⟩:=hx;cases b3 with
   |pv b3=>exact .pv (b3.mono hM)
 |mix ty sz rows=>
  rcases h with⟨h1,h2⟩|⟨p,h1,h2⟩
  ·exact .inl ⟨hs.trans h1,by simp[h2]⟩
  ·refine .inr ⟨p,hs.trans h1,?_⟩;obtain⟨cs,a1,a2,a3,a4,a5,a6⟩:=h2.ex;refine⟨cs,(hw p h1).trans a1,a2,by simpa using a3,by simpa using a4,fun i j x v hx hv=>?_,fun i j x hx=>?_⟩
   ·rw[Zhn,U]at hx;obtain⟨y,hy,rfl⟩:=hx;obtain⟨b1,b2,b3⟩:=a5 i j y v hy hv;exact⟨by simpa using b1,b2,b3.Qak hM hρ⟩
   ·rw[Zhn,U]at hx;obtain⟨y,hy,rfl⟩:=hx;simpa using a6 i j y hy
 |tlnk ty row l r c x=>
  rcases h with⟨h1,h2⟩|⟨p,h1,h2⟩
  ·exact .inl ⟨hs.trans h1,h2⟩
  ·refine .inr ⟨p,hs.trans h1,?_⟩;obtain⟨cs,a1,a2,a3,a4,a5,a6⟩:=h2.ex;refine⟨cs,(hw p h1).trans a1,a2,a3,a4,fun i j x v hx hv=>?_,fun i j x hx=>?_⟩
   ·rw[Zf8,U]at hx;obtain⟨y,hy,rfl⟩:=hx;obtain⟨b1,b2,b3⟩:=a5 i j y v hy hv;exact⟨b1,b2,b3.Qak hM hρ⟩
   ·rw[Zf8,U]at hx;obtain⟨y,hy,rfl⟩:=hx;exact a6 i j y hy
 |nest ty ity row ll op=>
  rcases h with⟨h1,h2,h3⟩|⟨p,h1,h2⟩
  ·subst h3;exact .inl ⟨hs.trans h1,h2,rfl⟩
  refine .inr ⟨p,hs.trans h1,h2.goes hM rfl rfl rfl (fun b hb=>hws p b h1 hb) (by cases op<;>rfl) fun i x y v e1 e2 hr=>?_⟩;rw[e1]at e2;simp only[ZT,ZD,Prod.mk.injEq,true_and]at e2;subst e2;exact hr.Qak hM hρ
 |map es clock=>obtain⟨p,arr,h1,h2,h3,h4⟩:=h;refine⟨p,arr,hs.trans h1,(hw p h1).trans h2,by simpa using h3,fun i k x b hi=>?_⟩;simp only[ZB,U]at hi;obtain⟨⟨k',x',b'⟩,he,hq⟩:=hi;simp only[Prod.mk.injEq]at hq;obtain⟨rfl,rfl,rfl⟩:=hq;obtain⟨e,c1,c2,c3,c4⟩:=h4 i k' x' b' he;exact⟨e,c1,c2,c3,c4.Qak hM hρ⟩
 |tmap k v l=>obtain⟨p,arr,h1,h2,h3,h4⟩:=h;refine⟨p,arr,hs.trans h1,(hw p h1).trans h2,h3,fun i kk x b hi=>?_⟩;obtain⟨e,c1,c2,c3,c4⟩:=h4 i kk x b hi;refine⟨e,c1,c2,c3,?_⟩;have:=c4.Qak hM hρ;rwa[Zkt l 0 i kk x b hi]at this
 |iter str pos=>obtain⟨p,h1,h2⟩:=h;exact⟨p,hs.trans h1,(hw p h1).trans h2⟩
 |loop l=>obtain⟨p,fn,tmps,q,h1,h2,h3,h4⟩:=h;refine⟨p,fn,tmps,q,hs.trans h1,(hw p h1).trans h2,h3,fun t x hx=>?_⟩;rw[TT.get_map,U]at hx;obtain⟨y,hy,rfl⟩:=hx;exact(h4 t y hy).Qak hM hρ
 |mit m c sn=>
  obtain⟨p,q,sn,h1,h2,h3,h4⟩:=h;refine⟨p,q,sn,hs.trans h1,(hw p h1).trans h2,h3,fun mm e=>?_⟩;cases m with
  |none=>cases e
  |some x=>
   simp only[Option.bind_some]at e;cases hd:d.contains x with
   |true=>rw[hd]at e;cases e
   |false=>rw[hd]at e;have e:x=mm:=ZU e;subst e;obtain⟨pm,a,b⟩:=h4 _ rfl;obtain⟨p',h1,h2,h3⟩:=hρ _ pm hd a;exact⟨p',h1,by rw[h2];exact b⟩
 |over st pd=>obtain⟨p,r,h1,h2,h3⟩:=h;exact⟨p,r,hs.trans h1,(hw p h1).trans h2,h3⟩
 |dfr shut=>obtain⟨p,h1,h2⟩:=h;exact⟨p,hs.trans h1,(hw p h1).trans h2⟩
theorem Q6.forget{M M':Qd}{Z Z':Env}{w w':World}{s:Nat}{d:List Nat}{o:Qb}(hM:M.le M')(hρ:Env.Qai d Z Z')(hs:Z' s=Z s)
  (hw:∀p b,Z s=some p->p.has b->w'.heap[b]? =w.heap[b]?) (h:Q6 M Z w s o):Q6 M' Z' w' s (o.forget d):=h.Qak hM hρ.sim hs hw
theorem Qb1(d:List Nat)(o:Qb):(o.forget d).live=o.live:=by cases o<;>rfl
theorem Q6.lt{M:Qd}{Z:Env}{w:World}{s:Nat}{o:Qb}{p:Place}(h:Q6 M Z w s o)(hl:o.live=true)(hp:Z s=some p):p.block<w.heap.size:=by
 have key:∀x,w.heap[p.block]? =some x->p.block<w.heap.size:=fun x hx=>(Array.getElem?_eq_some_iff.1 hx).1;cases o with
 |dead=>simp[Qb.live]at hl
 |vec ty sz rows=>
  rcases h with⟨h1,_⟩|⟨q,h1,h2⟩
  ·rw[hp]at h1;cases h1
  ·rw[hp]at h1;cases h1;obtain⟨cs,a1,_⟩:=h2.ex;exact key _ a1
 |tvec ty row l=>
  rcases h with⟨h1,_⟩|⟨q,h1,h2⟩
  ·rw[hp]at h1;cases h1
  ·rw[hp]at h1;cases h1;obtain⟨cs,a1,_⟩:=h2.ex;exact key _ a1
 |mix ty sz rows=>
  rcases h with⟨h1,_⟩|⟨q,h1,h2⟩
  ·rw[hp]at h1;cases h1
  ·rw[hp]at h1;cases h1;obtain⟨cs,a1,_⟩:=h2.ex;exact key _ a1
 |tlnk ty row l r c x=>
  rcases h with⟨h1,_⟩|⟨q,h1,h2⟩
  ·rw[hp]at h1;cases h1
  ·rw[hp]at h1;cases h1;obtain⟨cs,a1,_⟩:=h2.ex;exact key _ a1
 |nest ty ity row ll op=>
  rcases h with⟨h1,_⟩|⟨q,h1,h2⟩
  ·rw[hp]at h1;cases h1
  ·rw[hp]at h1;cases h1;obtain⟨cs,bl,a1,_⟩:=h2.ex;exact key _ a1
 |map es clock=>obtain⟨q,arr,h1,h2,_⟩:=h;rw[hp]at h1;cases h1;exact key _ h2
 |tmap k v l=>obtain⟨q,arr,h1,h2,_⟩:=h;rw[hp]at h1;cases h1;exact key _ h2
 |iter str pos=>obtain⟨q,h1,h2⟩:=h;rw[hp]at h1;cases h1;exact key _ h2
 |loop l=>obtain⟨q,fn,tmps,d,h1,h2,_⟩:=h;rw[hp]at h1;cases h1;exact key _ h2
 |mit m c sn=>obtain⟨q,r,sn,h1,h2,_⟩:=h;rw[hp]at h1;cases h1;exact key _ h2
 |over st pd=>obtain⟨q,r,h1,h2,_⟩:=h;rw[hp]at h1;cases h1;exact key _ h2
 |dfr shut=>obtain⟨q,h1,h2⟩:=h;rw[hp]at h1;cases h1;exact key _ h2
theorem Mem.Wc{M:Qd}{Z:Env}{H:List Qb}{w:World}(h:Mem M Z H w){s:Nat}{o:Qb}{p:Place}{b:Nat}(ho:H[s]? =some o)(hl:o.live=true)(hp:Z s=some p)(hb:p.has b):b<w.heap.size:=by
 rcases hb with rfl|hb
 ·exact(h.own s o ho).lt hl hp
 ·exact h.lts s o p b ho hl hp hb
theorem Mem.Qtg{M:Qd}{Z:Env}{H:List Qb}{w:World}(h:Mem M Z H w){b:Nat}{o:Obj}(hb:M b=some o):b<w.heap.size:=
 (Array.getElem?_eq_some_iff.1 (h.imm b o hb)).1
theorem Mem.Zl3{M:Qd}{Z:Env}{H:List Qb}{w:World}(h:Mem M Z H w){b:Nat}(hb:w.heap.size<=b):M b=none:=by
 cases e:M b with
 |none=>rfl
 |some o=>have:=h.Qtg e;omega
end Go.Sx
end
section
namespace Go.Sx
open Go
mutual
def Ty.beq:Ty->Ty->Bool
 |.int k,.int k'=>decide (k=k')
 |.bool,.bool=>true
 |.str,.str=>true
 |.seq r,.seq r'=>Ty.Qcs r r'
 |_,_=>false
def Ty.Qcs:List Ty->List Ty->Bool
 |[],[]=>true
 |a::l,b::m=>a.beq b&&Ty.Qcs l m
 |_,_=>false
end
mutual
theorem Ty.beq_eq:∀(a b:Ty),a.beq b=true->a=b
 |.int k,b,h=>by cases b<;>simp_all [Ty.beq]
 |.bool,b,h=>by cases b<;>simp_all [Ty.beq]
 |.str,b,h=>by cases b<;>simp_all [Ty.beq]
 |.seq r,b,h=>by
  cases b with
  |seq r'=>simp only[Ty.beq]at h;rw[Ty.Qnk r r' h]
  |_=>simp[Ty.beq]at h
theorem Ty.Qnk:∀(a b:List Ty),Ty.Qcs a b=true->a=b
 |[],b,h=>by cases b<;>simp_all [Ty.Qcs]
 |x::l,b,h=>by
  cases b with
  |nil=>simp[Ty.Qcs]at h
  |cons y m=>simp only[Ty.Qcs,Bool.and_eq_true]at h;rw[Ty.beq_eq x y h.1,Ty.Qnk l m h.2]
end
def Qto(r r':List Ty)(l:List (Ql r)):(b:Bool)->(b=true->r=r')->Option (List (Ql r'))
 |true,h=>some (h rfl▸l)
 |false,_=>none
def Ug(r r':List Ty)(l:List (Ql r)):Option (List (Ql r')):=Qto r r' l (Ty.Qcs r r') (Ty.Qnk r r')
theorem Qbd{r r':List Ty}{l:List (Ql r)}{l':List (Ql r')}(h:Ug r r' l=some l'):∃e:r=r',l'=e▸l:=by
 have:∀(b:Bool) (f:b=true->r=r'),Qto r r' l b f=some l'->∃e:r=r',l'=e▸l:=by
  intro b f h;cases b with
  |true=>simp only[Qto,ZD]at h;exact⟨f rfl,h.symm⟩
  |false=>cases h
 exact this _ _ h
def Qwl(r r':List Ty)(l:List (List (Ql r))):(b:Bool)->(b=true->r=r')->Option (List (List (Ql r')))
 |true,h=>some (h rfl▸l)
 |false,_=>none
def Qop(r r':List Ty)(l:List (List (Ql r))):Option (List (List (Ql r'))):=Qwl r r' l (Ty.Qcs r r') (Ty.Qnk r r')
theorem Zj3{r r':List Ty}{l:List (List (Ql r))}{l':List (List (Ql r'))}(h:Qop r r' l=some l'):∃e:r=r',l'=e▸l:=by
 have:∀(b:Bool) (f:b=true->r=r'),Qwl r r' l b f=some l'->∃e:r=r',l'=e▸l:=by
  intro b f h;cases b with
  |true=>simp only[Qwl,ZD]at h;exact⟨f rfl,h.symm⟩
  |false=>cases h
 exact this _ _ h
def Wo{α β:Type}(f:α->Option β):List α->Option (List β)
 |[]=>some []
 |x::l=>match f x,Wo f l with
  |some y,some ys=>some (y::ys)
  |_,_=>none
theorem Qme{α β:Type}{f:α->Option β}:∀{l:List α} {l':List β},Wo f l=some l'->l'.length=l.length∧∀(i:Nat) (y:β),l'[i]? =some y->∃x,l[i]? =some x∧f x=some y
 |[],l',h=>by simp[Wo]at h;subst h;simp
 |x::l,l',h=>by
  simp only[Wo]at h;split at h
  ·rename_i y ys h1 h2;cases h;obtain⟨g1,g2⟩:=Qme h2;refine⟨by simp[g1],fun i z hz=>?_⟩;cases i with
   |zero=>simp at hz;subst hz;exact⟨x,rfl,h1⟩
   |succ i=>simp at hz;simpa using g2 i z hz
  ·cases h
def Value.asInt(k:IntKind):Value->Option Int
 |.int k' n=>if k=k' then some n else none
 |_=>none
def Value.asBool:Value->Option Bool
 |.bool b=>some b
 |_=>none
def Value.Zmh:Value->Option ByteArray
 |.string b=>some b
 |_=>none
def Value.isNil:Value->Bool
 |.slice none a b=>ZE a 0&&ZE b 0
 |_=>false
def Qr9(k:IntKind):PV->Option Int
 |.lit v=>Value.asInt k v
 |_=>none
def Qs0:PV->Option Bool
 |.lit v=>Value.asBool v
 |_=>none
def Qqc:PV->Option ByteArray
 |.lit v=>Value.Zmh v
 |_=>none
def Qt8(row:List Ty)(f:List PV->Option (Ql row)):PV->Option (List (Ql row))
 |.rsl sz rows=>if sz=row.length then Wo f rows else none
 |.tsl row' l=>Ug row' row l
 |.csl row' l=>Ug row' row l
 |.lit v=>if Value.isNil v=true then some []else none
 |_=>none
def Qvu:List PV->Option Unit
 |[]=>some ()
 |_=>none
def oneOf{α:Type}(f:PV->Option α):List PV->Option α
 |[p]=>f p
 |_=>none
def Quu{α β:Type}(f:PV->Option α)(g:List PV->Option β):List PV->Option (α×β)
 |p::ps=>match f p,g ps with
  |some x,some y=>some (x,y)
  |_,_=>none
 |[]=>none
mutual
def Ty.of:(t:Ty)->PV->Option t.El
 |.int k=>Qr9 k
 |.bool=>Qs0
 |.str=>Qqc
 |.seq row=>Qt8 row (ofRow row)
def ofRow:(ts:List Ty)->List PV->Option (Ql ts)
 |[]=>Qvu
 |[t]=>oneOf t.of
 |t::t'::ts=>Quu t.of (ofRow (t'::ts))
end
def Qd9{α:Type}(f:PV->Option α)(g:α->PV):Prop:=∀(p:PV) (x:α),f p=some x->∀(M:Qd) (v:Value),Zu M v p->Zu M v (g x)
def Qja{α:Type}(f:List PV->Option α)(g:α->List PV):Prop:=
 ∀(r:List PV) (x:α),f r=some x->(g x).length=r.length∧∀(j:Nat) (q:PV),(g x)[j]? =some q->∃p,r[j]? =some p∧∀(M:Qd) (v:Value),Zu M v p->Zu M v q
theorem Qvj(k:IntKind):Qd9 (Qr9 k) (Ty.int k).pv:=by
 intro p x h M v hp;unfold Qr9 at h;split at h
 ·unfold Value.asInt at h;split at h
  ·split at h
   ·rename_i e;subst e;cases h;exact hp
   ·cases h
  ·cases h
 ·cases h
theorem Qw8:Qd9 Qs0 Ty.bool.pv:=by
 intro p x h M v hp;unfold Qs0 at h;split at h
 ·unfold Value.asBool at h;split at h
  ·cases h;exact hp
  ·cases h
 ·cases h
theorem Qzl:Qd9 Qqc Ty.str.pv:=by
 intro p x h M v hp;unfold Qqc at h;split at h
 ·unfold Value.Zmh at h;split at h
  ·cases h;exact hp
  ·cases h
 ·cases h
theorem Yfm{row:List Ty}{f:List PV->Option (Ql row)}(hf:Qja f (Zn row)):Qd9 (Qt8 row f) (Ty.seq row).pv:=by
 intro p x h M v hp;unfold Qt8 at h;split at h
 ·rename_i sz rows;split at h
  ·rename_i e;obtain⟨g1,g2⟩:=Qme h;refine .tsl row x ?_;subst e;refine Ynd (rows:=rows) (rows':=Q0 row x) (by simp[Q0,g1]) (fun i r hr=>?_) hp;simp only[Q0,ZB,U]at hr;obtain⟨y,hy,rfl⟩:=hr;obtain⟨q,hq,hq2⟩:=g2 i y hy;obtain⟨h1,h2⟩:=hf q y hq2;exact⟨q,hq,h1,h2⟩
  ·cases h
 ·obtain⟨e,rfl⟩:=Qbd h;subst e;exact hp
 ·rename_i row' u;obtain⟨e,h2⟩:=Qbd h;cases e;have e:x=u:=h2;subst e;cases hp with
  |csl a n _ _ hp=>exact .tsl _ _ hp
 ·rename_i u;split at h
  ·rename_i hn;cases h;unfold Value.isNil at hn;split at hn
   ·simp only[Bool.and_eq_true]at hn;cases ZL hn.1;cases ZL hn.2;cases hp with
    |lit=>exact .tsl row [] (.rnil _)
   ·cases hn
  ·cases h
 ·cases h
theorem Yrb:Qja Qvu (Zn []):=by
 intro r x h;unfold Qvu at h;split at h
 ·exact⟨rfl,fun j q hq=>by simp[Zn]at hq⟩
 ·cases h
theorem Zxs{t:Ty}{f:PV->Option t.El}(hf:Qd9 f t.pv):Qja (oneOf f) (Zn [t]):=by
 intro r x h;unfold oneOf at h;split at h
 ·rename_i p;refine⟨rfl,fun j q hq=>?_⟩;cases j with
  |zero=>simp only[Zn,ZK,ZD]at hq;subst hq;exact⟨p,rfl,fun M v hp=>hf p x h M v hp⟩
  |succ j=>simp[Zn]at hq
 ·cases h
theorem Yhn{t t':Ty}{ts:List Ty}{f:PV->Option t.El}{g:List PV->Option (Ql (t'::ts))}(hf:Qd9 f t.pv)(hg:Qja g (Zn (t'::ts))):Qja (Quu f g) (Zn (t::t'::ts)):=by
 intro r x h;unfold Quu at h;split at h
 ·rename_i p ps;split at h
  ·rename_i a b h1 h2;cases h;obtain⟨g1,g2⟩:=hg ps b h2;refine⟨by show(t.pv a::Zn (t'::ts) b).length=_;simp only[ZS,g1],fun j q hq=>?_⟩;have hq:(t.pv a::Zn (t'::ts) b)[j]? =some q:=hq;cases j with
   |zero=>simp only[ZK,ZD]at hq;subst hq;exact⟨p,rfl,fun M v hp=>hf p a h1 M v hp⟩
   |succ j=>simp only[List.getElem?_cons_succ]at hq;simpa using g2 j q hq
  ·cases h
 ·cases h
theorem Zgt:∀(n:Nat),(∀(t:Ty),ZJ t<=n->Qd9 t.of t.pv)∧(∀(ts:List Ty),ZJ ts<=n->Qja (ofRow ts) (Zn ts)):=by
 intro n;induction n with
 |zero=>exact⟨fun t ht=>by(cases t<;>simp at ht),fun ts ht=>by(cases ts<;>simp at ht)⟩
 |succ n ih=>
  obtain⟨ih1,ih2⟩:=ih;refine⟨fun t ht=>?_,fun ts ht=>?_⟩
  ·match t,ht with
   |.int k,ht=>exact Qvj k
   |.bool,ht=>exact Qw8
   |.str,ht=>exact Qzl
   |.seq row,ht=>exact Yfm (ih2 row (by simp at ht;omega))
  ·match ts,ht with
   |[],ht=>exact Yrb
   |[t],ht=>exact Zxs (ih1 t (by simp at ht;omega))
   |t::t'::ts,ht=>exact Yhn (ih1 t (by simp at ht;omega)) (ih2 (t'::ts) (by simp at ht⊢;omega))
theorem Ty.Qz1{t:Ty}{p:PV}{x:t.El}(h:t.of p=some x){M:Qd}{v:Value}(hp:Zu M v p):Zu M v (t.pv x):=(Zgt (ZJ t)).1 t (ZF _) p x h M v hp
theorem Qf3{ts:List Ty}{r:List PV}{x:Ql ts}(h:ofRow ts r=some x):(Zn ts x).length=r.length∧∀(j:Nat) (q:PV),(Zn ts x)[j]? =some q->∃p,r[j]? =some p∧∀(M:Qd) (v:Value),Zu M v p->Zu M v q:=
 (Zgt (ZJ ts)).2 ts (ZF _) r x h
theorem Qjc{row:List Ty}{l:List (Ql row)}{r:Nat}(h:r<l.length):(Q0 row l).getD r []=Zn row (l.getD r (Ql.Y8 row)):=by simp[Q0,List.getD,h]
def Y6{X:Type}(eq:X->X->Bool):Prop:=∀a b,eq a b=true->a=b
def Wr{α:Type}(f:α->α->Bool):List α->List α->Bool
 |[],[]=>true
 |x::l,y::m=>match f x y with
  |true=>Wr f l m
  |false=>false
 |_,_=>false
theorem Qdg{α:Type}{f:α->α->Bool}(hf:Y6 f):Y6 (Wr f)
 |[],[],_=>rfl
 |[],_::_,h=>by cases h
 |_::_,[],h=>by cases h
 |x::l,y::m,h=>by
  simp only[Wr]at h;split at h
  ·rename_i e;rw[hf _ _ e,Qdg hf l m h]
  ·cases h
def Vi{α β:Type}(f:α->α->Bool)(g:β->β->Bool)(x y:α×β):Bool:=match f x.1 y.1 with
 |true=>g x.2 y.2
 |false=>false
theorem Qez{α β:Type}{f:α->α->Bool}{g:β->β->Bool}(hf:Y6 f)(hg:Y6 g):Y6 (Vi f g):=by
 intro ⟨a,b⟩ ⟨c,d⟩ h;simp only[Vi]at h;split at h
 ·rename_i e;have h1:=hf a c e;have h2:=hg b d h;subst h1;subst h2;rfl
 ·cases h
def Qig{α β:Type}(f:α->α->Bool)(g:β->β->Bool):α ⊕ β->α ⊕ β->Bool
 |.inl a,.inl b=>f a b
 |.inr a,.inr b=>g a b
 |_,_=>false
theorem Qr5{α β:Type}{f:α->α->Bool}{g:β->β->Bool}(hf:Y6 f)(hg:Y6 g):Y6 (Qig f g):=by intro x y h;cases x<;>cases y<;>first|(cases h;done)|(simp only[Qig]at h;first|rw[hf _ _ h]|rw[hg _ _ h])
def Qag(a b:Int):Bool:=decide (a=b)
def Qfp(a b:Bool):Bool:=match a,b with
 |true,true=>true
 |false,false=>true
 |_,_=>false
def Qc(a b:ByteArray):Bool:=decide (a=b)
def Qie(_ _:Unit):Bool:=true
mutual
def Ty.eqv:(t:Ty)->t.El->t.El->Bool
 |.int _=>Qag
 |.bool=>Qfp
 |.str=>Qc
 |.seq row=>Wr (Ql.eqv row)
def Ql.eqv:(ts:List Ty)->Ql ts->Ql ts->Bool
 |[]=>Qie
 |[t]=>t.eqv
 |t::t'::ts=>Vi t.eqv (Ql.eqv (t'::ts))
end
theorem Yo9:Y6 Qag:=fun a b h=>of_decide_eq_true h
theorem Qmy:Y6 Qc:=fun a b h=>of_decide_eq_true h
theorem Ymb:Y6 Qfp:=by intro a b h;cases a<;>cases b<;>first|rfl|cases h
theorem eqv_ok:∀(n:Nat),(∀(t:Ty),ZJ t<=n->Y6 t.eqv)∧(∀(ts:List Ty),ZJ ts<=n->Y6 (Ql.eqv ts)):=by
 intro n;induction n with
 |zero=>exact⟨fun t ht=>by(cases t<;>simp at ht),fun ts ht=>by(cases ts<;>simp at ht)⟩
 |succ n ih=>
  obtain⟨ih1,ih2⟩:=ih;refine⟨fun t ht=>?_,fun ts ht=>?_⟩
  ·match t,ht with
   |.int k,ht=>exact Yo9
   |.bool,ht=>exact Ymb
   |.str,ht=>exact Qmy
   |.seq row,ht=>exact Qdg (ih2 row (by simp at ht;omega))
  ·match ts,ht with
   |[],ht=>exact fun a b h=>rfl
   |[t],ht=>exact ih1 t (by simp at ht;omega)
   |t::t'::ts,ht=>exact Qez (ih1 t (by simp at ht;omega)) (ih2 (t'::ts) (by simp at ht⊢;omega))
theorem Ty.eqv_ok(t:Ty):Y6 t.eqv:=(Sx.eqv_ok _).1 t (ZF _)
theorem Ql.eqv_ok(ts:List Ty):Y6 (Ql.eqv ts):=(Sx.eqv_ok _).2 ts (ZF _)
def Qe.eqv:(a:Qe)->a.El->a.El->Bool
 |.val t=>t.eqv
 |.agg row=>Ql.eqv row
theorem Qe.eqv_ok:∀(a:Qe),Y6 a.eqv
 |.val t=>Ty.eqv_ok t
 |.agg row=>Ql.eqv_ok row
theorem Zgr(a b:ByteArray):(a.toList==b.toList)=Qc a b:=by unfold Qc;rw[Bool.eq_iff_iff,ByteArray.toList_eq,ByteArray.toList_eq];simp[ByteArray.ext_iff]
theorem Qm4(a b:ByteArray):(a==b)=Qc a b:=by unfold Qc;cases a;cases b;rename_i x y;show(x==y)=_;rw[Bool.eq_iff_iff,beq_iff_eq];simp[ByteArray.mk.injEq]
def Ty.scalar:Ty->Bool
 |.seq _=>false
 |_=>true
def Qe.scalar:Qe->Bool
 |.val t=>t.scalar
 |.agg row=>row.all Ty.scalar
end Go.Sx
end
section
namespace Go.Sx
open Go
structure St where
 T:TT
 H:List Qb
 n0:Nat
 tch:List Nat
 fg:List Nat
 marks:List Nat
 er:List Nat
def Qih(Z:Env)(marks:List Nat)(ds:List Deferred):Prop:=
 ds.length=marks.length∧∀(i:Nat) (d:Deferred) (s:Nat),ds[i]? =some d->marks[i]? =some s->∃p,Z s=some p∧d={target:=.collected p.block,args:= #[]}
structure Good (B:Nat->Value) (nt:Nat) (M:Qd) (Z:Env) (s:St) (a:Act) (w:World):Prop where
 tm:∀t x,s.T.get t=some x->Qf M Z (a.tmps.getD t undef) x
 sz:a.tmps.size=nt
 mem:Mem M Z s.H w
 df:Qih Z s.marks a.defers
 mks:∀m,m∈s.marks->s.n0<=m
 nle:s.n0<=s.H.length
 fix:∀t,t∉s.er->a.tmps.getD t undef=B t
structure Fr (M:Qd) (Z:Env) (H:List Qb) (w:World) (M':Qd) (Z':Env) (H':List Qb) (w':World) (n:Nat) (tch fg:List Nat):Prop where
 imm:M.le M'
 new:∀b o,M b=none->M' b=some o->w.heap.size<=b∨J4 Z H b
 own:∀b,J4 Z' H' b->w.heap.size<=b∨J4 Z H b
 same:∀b,b<w.heap.size->¬J4 Z H b->w'.heap[b]? =w.heap[b]?
 grow:w.heap.size<=w'.heap.size
 keep:∀s o,s<n->s∉tch->H[s]? =some o->o.live=true->(∃o',H'[s]? =some o'∧o'.live=true)∧∀p,Z s=some p->Z' s=some p∧∀b,p.has b->w'.heap[b]? =w.heap[b]?
 stay:∀s,s<n->s∉fg->Z' s=Z s
 io:w'.os=w.os∧w'.output=w.output
theorem Fr.refl(M:Qd)(Z:Env)(H:List Qb)(w:World)(n:Nat)(tch fg:List Nat):Fr M Z H w M Z H w n tch fg:=
 ⟨M.le_refl,fun b o h h'=>by(rw[h]at h';cases h'),fun b h=>.inr h,fun _ _ _=>rfl,ZF _,fun _ o _ _ h hl=>⟨⟨o,h,hl⟩,fun _ hp=>⟨hp,fun _ _=>rfl⟩⟩,fun _ _ _=>rfl,rfl,rfl⟩
theorem Fr.trans{M M1 M2:Qd}{Z ρ1 ρ2:Env}{H H1 H2:List Qb}{w w1 w2:World}{n:Nat}{t1 f1 t2 f2 t f:List Nat}
  (h:Fr M Z H w M1 ρ1 H1 w1 n t1 f1) (k:Fr M1 ρ1 H1 w1 M2 ρ2 H2 w2 n t2 f2)
  (ht1:∀x,x∈t1->x∈t) (ht2:∀x,x∈t2->x∈t) (hf1:∀x,x∈f1->x∈f) (hf2:∀x,x∈f2->x∈f):
  Fr M Z H w M2 ρ2 H2 w2 n t f:=by
 refine⟨Qd.le_trans h.imm k.imm,fun b o h0 h2=>?_,fun b hb=>?_,fun b hb hn=>?_,ZQ h.grow k.grow,fun s o hs hx ho hl=>?_,fun s hs hx=>?_,k.io.1.trans h.io.1,k.io.2.trans h.io.2⟩
 ·cases e:M1 b with
  |some o1=>exact h.new b o1 h0 e
  |none=>
   rcases k.new b o e h2 with h'|h'
   ·exact .inl (ZQ h.grow h')
   ·exact h.own b h'
 ·rcases k.own b hb with h'|h'
  ·exact .inl (ZQ h.grow h')
  ·exact h.own b h'
 ·rw[k.same b (ZC hb h.grow) (fun ho=>?_),h.same b hb hn];rcases h.own b ho with h'|h'
  ·omega
  ·exact hn h'
 ·obtain⟨⟨o1,ho1,hl1⟩,a2⟩:=h.keep s o hs (fun m=>hx (ht1 s m)) ho hl;obtain⟨hx2,b2⟩:=k.keep s o1 hs (fun m=>hx (ht2 s m)) ho1 hl1;exact⟨hx2,fun p hp=>let⟨c1,c2⟩:=a2 p hp;let⟨d1,d2⟩:=b2 p c1;⟨d1,fun b hb=>(d2 b hb).trans (c2 b hb)⟩⟩
 ·exact(k.stay s hs (fun m=>hx (hf2 s m))).trans (h.stay s hs (fun m=>hx (hf1 s m)))
theorem Fr.weaken{M M':Qd}{Z Z':Env}{H H':List Qb}{w w':World}{n n':Nat}{t f t' f':List Nat}(h:Fr M Z H w M' Z' H' w' n t f)
  (hn:n'<=n) (ht:∀x,x<n'->x∈t->x∈t') (hf:∀x,x<n'->x∈f->x∈f'):Fr M Z H w M' Z' H' w' n' t' f':=
 ⟨h.imm,h.new,h.own,h.same,h.grow,fun s o hs hx=>h.keep s o (ZC hs hn) (fun m=>hx (ht s hs m)),fun s hs hx=>h.stay s (ZC hs hn) (fun m=>hx (hf s hs m)),h.io⟩
structure Y2 (M:Qd) (Z:Env) (s:St) (w:World) (M':Qd) (Z':Env) (s':St) (w':World):Prop where
 fr:Fr M Z s.H w M' Z' s'.H w' s.n0 s'.tch s'.fg
 n0:s'.n0=s.n0
 tch:∀x,x∈s.tch->x∈s'.tch
 fg:∀x,x∈s.fg->x∈s'.fg
theorem Y2.refl(M:Qd)(Z:Env)(s:St)(w:World):Y2 M Z s w M Z s w:=⟨Fr.refl ..,rfl,fun _ h=>h,fun _ h=>h⟩
theorem Y2.trans{M M1 M2:Qd}{Z ρ1 ρ2:Env}{s s1 s2:St}{w w1 w2:World}(h:Y2 M Z s w M1 ρ1 s1 w1)(k:Y2 M1 ρ1 s1 w1 M2 ρ2 s2 w2):Y2 M Z s w M2 ρ2 s2 w2:=
 ⟨h.fr.trans (h.n0▸k.fr) (fun x hx=>k.tch x hx) (fun x hx=>hx) (fun x hx=>k.fg x hx) (fun x hx=>hx),k.n0.trans h.n0,fun x hx=>k.tch x (h.tch x hx),fun x hx=>k.fg x (h.fg x hx)⟩
def FW(R:Option Nat):Fence:={Fence.wide with round:=R}
theorem Qvb:FW none=Fence.wide:=rfl
def Zl(R:Option Nat)(P:Program)(nt:Nat)(c:Code)(Q:Exit->St->Prop)(s:St):Prop:=
 ∀B M Z a w,Good B nt M Z s a w->c.wpIn (FW R) 0 P (fun e a' w'=>∃M' Z' s',Q e s'∧Good B nt M' Z' s' a' w'∧Y2 M Z s w M' Z' s' w') a w
section
variable {R:Option Nat} {P:Program} {nt:Nat} {Q:Exit->St->Prop} {s:St}
theorem Zl.mono{c:Code}{Q':Exit->St->Prop}(h:Zl R P nt c Q s)(hq:∀e s',Q e s'->Q' e s'):Zl R P nt c Q' s:=
 fun B M Z a w hg=>wpIn_mono (h B M Z a w hg) fun e a' w' ⟨M',Z',s',q,r⟩=>⟨M',Z',s',hq e s' q,r⟩
theorem Yhd(h:Q .normal s):Zl R P nt .skip Q s:=fun B M Z a w hg=>wpIn_skip ⟨M,Z,s,h,hg,Y2.refl ..⟩
theorem Zvf{l:Nat}(h:Q .normal s):Zl R P nt (.label l) Q s:=fun B M Z a w hg=>wpIn_label ⟨M,Z,s,h,hg,Y2.refl ..⟩
theorem Yiq{id:Nat}(h:Q (.exit id) s):Zl R P nt (.exit id) Q s:=fun B M Z a w hg=>wpIn_exit ⟨M,Z,s,h,hg,Y2.refl ..⟩
theorem Zww(h:Q .ret s):Zl R P nt .ret Q s:=fun B M Z a w hg=>wpIn_ret ⟨M,Z,s,h,hg,Y2.refl ..⟩
theorem Zl.Qhc{c:Code}{s':St}(hi:∀B M Z a w,Good B nt M Z s a w->∃Z',Good B nt M Z' s' a w∧Y2 M Z s w M Z' s' w)(h:Zl R P nt c Q s'):Zl R P nt c Q s:=
 fun B M Z a w hg=>let⟨Z',hg',go⟩:=hi B M Z a w hg
  wpIn_mono (h B M Z' a w hg') fun e a' w' ⟨M',Z'',s'',q,g,k⟩=>⟨M',Z'',s'',q,g,go.trans k⟩
def Qwe(K:St->Prop)(Q:Exit->St->Prop):Exit->St->Prop
 |.normal,s=>K s
 |e,s=>Q e s
theorem Zqi{x y:Code}(h:Zl R P nt x (Qwe (Zl R P nt y Q) Q) s):Zl R P nt (.seq x y) Q s:=by
 intro B M Z a w hg;refine wpIn_seq (wpIn_mono (h B M Z a w hg) ?_)
 rintro e a' w' ⟨M',Z',s',q,g,k⟩
 cases e with
 |normal=>exact wpIn_mono (q B M' Z' a' w' g) fun e a'' w'' ⟨M'',Z'',s'',q',g',k'⟩=>⟨M'',Z'',s'',q',g',k.trans k'⟩
 |exit id=>exact⟨M',Z',s',q,g,k⟩
 |goto l=>exact⟨M',Z',s',q,g,k⟩
 |ret=>exact⟨M',Z',s',q,g,k⟩
 |panic c=>exact⟨M',Z',s',q,g,k⟩
 |outgrown=>exact⟨M',Z',s',q,g,k⟩
def St.ev(s:St):Operand->SV
 |.tmp t=>(s.T.get t).getD .any
 |.const v=>.lit v
 |.global g=>.lit (.pointer (some ⟨g,0,none⟩))
 |.func f=>.lit (.func (.func f) #[] #[])
theorem Good.ev{B:Nat->Value}{nt:Nat}{M:Qd}{Z:Env}{s:St}{a:Act}{w:World}(hg:Good B nt M Z s a w)(x:Operand):Qf M Z (a.eval x) (s.ev x):=by
 cases x with
 |tmp t=>
  simp only[St.ev,Act.eval];cases e:s.T.get t with
  |none=>exact .any _
  |some y=>exact hg.tm t y e
 |const v=>exact .pv (.lit v)
 |global g=>exact .pv (.lit _)
 |func f=>exact .pv (.lit _)
theorem Qf.Zq{M:Qd}{Z:Env}{v u:Value}(h:Qf M Z v (.pv (.lit u))):v=u:=by
 cases h with
 |pv h=>cases h with
  |lit=>rfl
theorem Good.Yru{B:Nat->Value}{nt:Nat}{M:Qd}{Z:Env}{s:St}{a:Act}{w:World}(hg:Good B nt M Z s a w){x:Operand}{v:Value}(h:s.ev x=.lit v):a.eval x=v:=
 Qf.Zq (h▸hg.ev x)
theorem Yie{c:Operand}{x y:Code}{t:Bool}(hc:s.ev c=.lit (.bool t))(ht:t=true->Zl R P nt x Q s)(hf:t=false->Zl R P nt y Q s):Zl R P nt (.cond c x y) Q s:=by intro B M Z a w hg;exact wpIn_cond_split (hg.Yru hc) (fun h=>ht h B M Z a w hg) (fun h=>hf h B M Z a w hg)
def Qzb(id:Nat)(Q:Exit->St->Prop):Exit->St->Prop
 |.exit id',s=>if id'=id then Q .normal s else Q (.exit id') s
 |e,s=>Q e s
theorem Zo6{id:Nat}{c:Code}(h:Zl R P nt c (Qzb id Q) s):Zl R P nt (.block id c) Q s:=by
 intro B M Z a w hg;refine wpIn_block (wpIn_mono (h B M Z a w hg) ?_)
 rintro e a' w' ⟨M',Z',s',q,g,k⟩
 cases e with
 |exit id'=>
  simp only[Exit.inBlock,Qzb]at*;split
  ·rename_i he;rw[if_pos he]at q;exact⟨M',Z',s',q,g,k⟩
  ·rename_i he;rw[if_neg he]at q;exact⟨M',Z',s',q,g,k⟩
 |normal=>exact⟨M',Z',s',q,g,k⟩
 |goto l=>exact⟨M',Z',s',q,g,k⟩
 |ret=>exact⟨M',Z',s',q,g,k⟩
 |panic c=>exact⟨M',Z',s',q,g,k⟩
 |outgrown=>exact⟨M',Z',s',q,g,k⟩
theorem Yd3{c:Code}(I:Nat->St->Prop){n0:Nat}(h0:I n0 s)
  (round:∀n s,I n s->Zl R P nt c (Qwe (fun s'=>∃n',n'<n∧I n' s') Q) s):Zl R P nt (.loop c) Q s:=by
 intro B M Z a w hg;let J:Nat->Act->World->Prop:=fun n a' w'=>∃M' Z' s',I n s'∧Good B nt M' Z' s' a' w'∧Y2 M Z s w M' Z' s' w';refine wpIn_loop (fun a w=>∃n,J n a w) (fun a w=>leastOf (fun n=>J n a w)) ⟨n0,M,Z,s,h0,hg,Y2.refl ..⟩ ?_;intro a1 w1 hI;obtain⟨hJ,hmin⟩:=leastOf_spec hI;obtain⟨M',Z',s',hi,g,k⟩:=hJ;refine wpIn_mono (round _ s' hi B M' Z' a1 w1 g) ?_
 rintro e a2 w2 ⟨M2,ρ2,s2,q,g2,k2⟩
 cases e with
 |normal=>obtain⟨n',hlt,hi2⟩:=q;have hx:J n' a2 w2:=⟨M2,ρ2,s2,hi2,g2,k.trans k2⟩;exact show(∃n,J n a2 w2)∧leastOf (fun n=>J n a2 w2)<_ from⟨⟨n',hx⟩,Nat.lt_of_le_of_lt ((leastOf_spec ⟨n',hx⟩).2 n' hx) hlt⟩
 |exit id=>exact⟨M2,ρ2,s2,q,g2,k.trans k2⟩
 |goto l=>exact⟨M2,ρ2,s2,q,g2,k.trans k2⟩
 |ret=>exact⟨M2,ρ2,s2,q,g2,k.trans k2⟩
 |panic c=>exact⟨M2,ρ2,s2,q,g2,k.trans k2⟩
 |outgrown=>exact⟨M2,ρ2,s2,q,g2,k.trans k2⟩
end
def J0(M:Qd)(Z:Env)(vs:List Value)(xs:List SV):Prop:=vs.length=xs.length∧∀(i:Nat) (v:Value) (x:SV),vs[i]? =some v->xs[i]? =some x->Qf M Z v x
abbrev Qy:=SV->List Qb->List Nat->List Nat->Prop
def Xt(P:Program)(f:FuncId)(args:List SV)(H:List Qb)(Q:Qy):Prop:=
 ∀M Z w vs,Mem M Z H w->J0 M Z vs args->CallsIn Fence.wide 0 P f vs.toArray w fun e w'=>
  ∃v r H' M' Z' tch fg,e=.returned v∧Q r H' tch fg∧Qf M' Z' v r∧Mem M' Z' H' w'∧Fr M Z H w M' Z' H' w' H.length tch fg
theorem Xt.mono{P:Program}{f:FuncId}{args:List SV}{H:List Qb}{Q Q':Qy}(h:Xt P f args H Q)(hq:∀r H' t g,Q r H' t g->Q' r H' t g):Xt P f args H Q':=
 fun M Z w vs hm hr=>(h M Z w vs hm hr).mono fun e w' ⟨v,r,H',M',Z',t,g,he,q,rest⟩=>⟨v,r,H',M',Z',t,g,he,hq _ _ _ _ q,rest⟩
end Go.Sx
end
section
namespace Go.Sx
open Go
def Env.set(Z:Env)(s:Nat)(p:Option Place):Env:=fun t=>if t=s then p else Z t
theorem Env.set_self(Z:Env)(s:Nat)(p:Option Place):(Z.set s p) s=p:=by simp[Env.set]
theorem Env.Xc(Z:Env){s t:Nat}(p:Option Place)(h:t≠s):(Z.set s p) t=Z t:=by simp[Env.set,h]
section
variable {M:Qd} {Z:Env} {H:List Qb} {w w':World}
theorem Mem.alloc{o:Obj}{so:Qb}{cap:Nat}(h:Mem M Z H w)(hh:w'.heap=w.heap.push o)
  (ho:Q6 M (Z.set H.length (some ⟨w.heap.size,cap,[]⟩)) w' H.length so) (io:w'.os=w.os∧w'.output=w.output:=by exact⟨rfl,rfl⟩):
  Mem M (Z.set H.length (some ⟨w.heap.size,cap,[]⟩)) (H++[so]) w'∧Fr M Z H w M (Z.set H.length (some ⟨w.heap.size,cap,[]⟩)) (H++[so]) w' H.length [] []:=by
 have hle:Z.le (Z.set H.length (some ⟨w.heap.size,cap,[]⟩)):=fun s p hp=>by
  by_cases e:s=H.length
  ·subst e;rw[h.fresh _ (ZF _)]at hp;cases hp
  ·rw[Env.Xc _ _ e];exact hp
 have old:∀b,b<w.heap.size->w'.heap[b]? =w.heap[b]? :=fun b hb=>by rw[hh,Array.getElem?_push];simp[ZG hb]
 have hsz:w'.heap.size=w.heap.size+1:=by rw[hh];simp
 have lt:∀s o p b,H[s]? =some o->o.live=true->Z s=some p->p.has b->b<w.heap.size:=fun s o p b a b' c d=>h.Wc a b' c d;have new1:∀b,Place.has ⟨w.heap.size,cap,[]⟩ b->w.heap.size=b:=fun b hb=>by rcases hb with h|h;exact h;cases h
 have sub:∀s o,(H++[so])[s]? =some o->(s<H.length∧H[s]? =some o)∨(s=H.length∧o=so):=fun s o he=>by
  rw[ZH]at he;split at he
  ·rename_i hs;exact .inl ⟨hs,he⟩
  ·rename_i hs;by_cases e:s=H.length
   ·subst e;simp at he;exact .inr ⟨rfl,he.symm⟩
   ·rw[ZO (by simp;omega)]at he;cases he
 refine⟨⟨fun b o hb=>(old b (h.Qtg hb)).trans (h.imm b o hb),fun s o he=>?_,fun s o p b he hl hp hb=>?_,fun s s' o o' p p' b he he' hl hl' hp hp' hb hb'=>?_,fun s hs=>?_,fun s o p b he hl hp hb=>?_⟩,?_⟩
 ·rcases sub s o he with⟨hs,he⟩|⟨rfl,rfl⟩
  ·by_cases hl:o.live=true
   ·exact(h.own s o he).mono M.le_refl hle (Env.Xc _ _ (ZG hs)) fun p b hp hb=>old _ (lt s o p b he hl hp hb)
   ·cases o<;>simp[Qb.live]at hl;trivial
  ·exact ho
 ·rcases sub s o he with⟨hs,he⟩|⟨rfl,rfl⟩
  ·rw[Env.Xc _ _ (ZG hs)]at hp;exact h.seps s o p b he hl hp hb
  ·rw[Env.set_self]at hp;cases hp;cases new1 b hb;exact h.Zl3 (ZF _)
 ·rcases sub s o he with⟨hs,he⟩|⟨rfl,rfl⟩
  ·rw[Env.Xc _ _ (ZG hs)]at hp;have hlt:=lt s o p b he hl hp hb;rcases sub s' o' he' with⟨hs',he'⟩|⟨rfl,rfl⟩
   ·rw[Env.Xc _ _ (ZG hs')]at hp';exact h.diss s s' o o' p p' b he he' hl hl' hp hp' hb hb'
   ·rw[Env.set_self]at hp';cases hp';have:=new1 b hb';omega
  ·rw[Env.set_self]at hp;cases hp;rcases sub s' o' he' with⟨hs',he'⟩|⟨rfl,rfl⟩
   ·rw[Env.Xc _ _ (ZG hs')]at hp';have hlt:=lt s' o' p' b he' hl' hp' hb';have:=new1 b hb;omega
   ·rfl
 ·have:s≠H.length:=by simp at hs;omega
  rw[Env.Xc _ _ this];exact h.fresh s (by simp at hs;omega)
 ·rcases sub s o he with⟨hs,he⟩|⟨rfl,rfl⟩
  ·rw[Env.Xc _ _ (ZG hs)]at hp;have:=h.lts s o p b he hl hp hb;omega
  ·rw[Env.set_self]at hp;cases hp;cases hb
 ·refine⟨M.le_refl,fun b o a c=>(by rw[a]at c;cases c),fun b hb=>?_,fun b hb _=>old b hb,by omega,fun s o hs _ he hl=>⟨⟨o,by rw[ZN hs];exact he,hl⟩,fun p hp=>⟨hle s p hp,fun b hb=>old _ (lt s o p b he hl hp hb)⟩⟩,fun s hs _=>Env.Xc _ _ (ZG hs),io⟩;obtain⟨s,o,p,he,hl,hp,hb⟩:=hb;rcases sub s o he with⟨hs,he⟩|⟨rfl,rfl⟩
  ·rw[Env.Xc _ _ (ZG hs)]at hp;exact .inr ⟨s,o,p,he,hl,hp,hb⟩
  ·rw[Env.set_self]at hp;cases hp;cases new1 b hb;exact .inl (ZF _)
theorem Qbv{o:Qb}(h:¬o.live=true):o=.dead:=by cases o<;>simp[Qb.live]at h;rfl
theorem Mem.virt{ty sz:Nat}(h:Mem M Z H w):Mem M Z (H++[.vec ty sz []]) w∧Fr M Z H w M Z (H++[.vec ty sz []]) w H.length [] []:=by
 have hn:=h.fresh H.length (ZF _);have sub:∀s o,(H++[Qb.vec ty sz []])[s]? =some o->(s<H.length∧H[s]? =some o)∨(s=H.length∧o=.vec ty sz []):=fun s o he=>by
  rw[ZH]at he;split at he
  ·rename_i hs;exact .inl ⟨hs,he⟩
  ·rename_i hs;by_cases e:s=H.length
   ·subst e;simp at he;exact .inr ⟨rfl,he.symm⟩
   ·rw[ZO (by simp;omega)]at he;cases he
 refine⟨⟨h.imm,fun s o he=>?_,fun s o p b he hl hp hb=>?_,fun s s' o o' p p' b he he' hl hl' hp hp' hb hb'=>?_,fun s hs=>h.fresh s (by simp at hs;omega),fun s o p b he hl hp hb=>?_⟩,?_⟩
 ·rcases sub s o he with⟨hs,he⟩|⟨rfl,rfl⟩
  ·exact h.own s o he
  ·exact .inl ⟨hn,rfl⟩
 ·rcases sub s o he with⟨hs,he⟩|⟨rfl,rfl⟩
  ·exact h.seps s o p b he hl hp hb
  ·rw[hn]at hp;cases hp
 ·rcases sub s o he with⟨hs,he⟩|⟨rfl,rfl⟩
  ·rcases sub s' o' he' with⟨hs',he'⟩|⟨rfl,rfl⟩
   ·exact h.diss s s' o o' p p' b he he' hl hl' hp hp' hb hb'
   ·rw[hn]at hp';cases hp'
  ·rw[hn]at hp;cases hp
 ·rcases sub s o he with⟨hs,he⟩|⟨rfl,rfl⟩
  ·exact h.lts s o p b he hl hp hb
  ·rw[hn]at hp;cases hp
 ·refine⟨M.le_refl,fun b o a c=>(by rw[a]at c;cases c),fun b hb=>?_,fun b hb _=>rfl,ZF _,fun s o hs _ he hl=>⟨⟨o,by rw[ZN hs];exact he,hl⟩,fun p hp=>⟨hp,fun _ _=>rfl⟩⟩,fun s hs _=>rfl,rfl,rfl⟩;obtain⟨s,o,p,he,hl,hp,hb⟩:=hb;rcases sub s o he with⟨hs,he⟩|⟨rfl,rfl⟩
  ·exact .inr ⟨s,o,p,he,hl,hp,hb⟩
  ·rw[hn]at hp;cases hp
theorem Mem.put{s:Nat}{o so:Qb}{p:Place}(h:Mem M Z H w)(hs:H[s]? =some o)(hl:o.live=true)(hp:Z s=some p)
  (hw:∀b,b≠p.block->w'.heap[b]? =w.heap[b]?) (hz:w'.heap.size=w.heap.size) (hlo:so.live=true)
  (ho:Q6 M Z w' s so) (io:w'.os=w.os∧w'.output=w.output:=by exact⟨rfl,rfl⟩):Mem M Z (H.set s so) w'∧Fr M Z H w M Z (H.set s so) w' H.length [s] []:=by
 have hlt:s<H.length:=(ZA.1 hs).1;have sub:∀t o',(H.set s so)[t]? =some o'->(t≠s∧H[t]? =some o')∨(t=s∧o'=so):=fun t o' he=>by
  rw[ZR]at he;split at he
  ·rename_i e;subst e;cases he;exact .inr ⟨rfl,rfl⟩
  ·rename_i e;exact .inl ⟨fun e'=>e e'.symm,he⟩
 have ne:∀t o' q b,t≠s->H[t]? =some o'->o'.live=true->Z t=some q->q.has b->b≠p.block:=fun t o' q b ht he hl' hq hb e=>ht (h.diss t s o' o q p b he hs hl' hl hq hp hb (.inl e.symm));refine⟨⟨fun b x hb=>?_,fun t o' he=>?_,fun t o' q b he hl' hq hb=>?_,fun t t' x x' q q' b he he' hlx hlx' hq hq' hb hb'=>?_,fun t ht=>h.fresh t (by simpa using ht),fun t o' q b he hl' hq hb=>?_⟩,?_⟩
 ·rw[hw b (fun e=>by rw[e,h.sep s o p hs hl hp]at hb;cases hb)];exact h.imm b x hb
 ·rcases sub t o' he with⟨ht,he⟩|⟨rfl,rfl⟩
  ·by_cases hl':o'.live=true
   ·exact(h.own t o' he).mono M.le_refl Z.le_refl rfl fun q b hq hb=>hw _ (ne t o' q b ht he hl' hq hb)
   ·rw[Qbv hl'];trivial
  ·exact ho
 ·rcases sub t o' he with⟨ht,he⟩|⟨rfl,rfl⟩
  ·exact h.seps t o' q b he hl' hq hb
  ·exact h.seps t o q b hs hl hq hb
 ·have back:∀(t:Nat) (x:Qb),(H.set s so)[t]? =some x->x.live=true->∃y:Qb,H[t]? =some y∧y.live=true:=fun t x he hlx=>by
   rcases sub t x he with⟨_,he⟩|⟨rfl,rfl⟩
   ·exact⟨x,he,hlx⟩
   ·exact⟨o,hs,hl⟩
  obtain⟨y,hy,hly⟩:=back t x he hlx;obtain⟨y',hy',hly'⟩:=back t' x' he' hlx';exact h.diss t t' y y' q q' b hy hy' hly hly' hq hq' hb hb'
 ·rw[hz];rcases sub t o' he with⟨ht,he⟩|⟨rfl,rfl⟩
  ·exact h.lts t o' q b he hl' hq hb
  ·exact h.lts t o q b hs hl hq hb
 ·refine⟨M.le_refl,fun b o a c=>(by rw[a]at c;cases c),fun b hb=>?_,fun b hb hn=>hw b (fun e=>hn ⟨s,o,p,hs,hl,hp,.inl e.symm⟩),by omega,fun t x ht hx he hlx=>?_,fun _ _ _=>rfl,io⟩
  ·obtain⟨t,x,q,he,hlx,hq,hb⟩:=hb;rcases sub t x he with⟨_,he⟩|⟨rfl,rfl⟩
   ·exact .inr ⟨t,x,q,he,hlx,hq,hb⟩
   ·exact .inr ⟨t,o,q,hs,hl,hq,hb⟩
  ·have hts:t≠s:=by simpa using hx
   refine⟨⟨x,by rw[ZP (fun e=>hts e.symm)];exact he,hlx⟩,fun q hq=>⟨hq,fun b hb=>hw _ (ne t x q b hts he hlx hq hb)⟩⟩
theorem Mem.Qzz{s:Nat}{o so:Qb}{q:Option Place}(h:Mem M Z H w)(hs:H[s]? =some o)(hl:o.live=true)(hlo:so.live=true)
  (hw:∀b,b<w.heap.size->(∀p,Z s=some p->b≠p.block)->w'.heap[b]? =w.heap[b]?) (hz:w.heap.size<=w'.heap.size)
  (hq:∀p',q=some p'->w.heap.size<=p'.block∨∃p,Z s=some p∧p.block=p'.block)
  (ho:Q6 M (Z.set s q) w' s so) (io:w'.os=w.os∧w'.output=w.output:=by exact⟨rfl,rfl⟩) (hqs:∀p',q=some p'->p'.subs=[]∨Z s=some p':=by(intro p' e;first|(cases e;exact Or.inl rfl)|exact Or.inr e|(cases e;exact Or.inr (by assumption))|cases e)):Mem M (Z.set s q) ((H.map (Qb.forget [s])).set s so) w'∧Fr M Z H w M (Z.set s q) ((H.map (Qb.forget [s])).set s so) w' H.length [s] [s]:=by
 have hlt:s<H.length:=(ZA.1 hs).1;have sub:∀t o',((H.map (Qb.forget [s])).set s so)[t]? =some o'->(t≠s∧∃x,H[t]? =some x∧o'=x.forget [s])∨(t=s∧o'=so):=fun t o' he=>by
  rw[ZR]at he;split at he
  ·rename_i e;subst e;simp[hlt]at he;exact .inr ⟨rfl,he.symm⟩
  ·rename_i e;simp only[ZB,U]at he;obtain⟨x,hx,rfl⟩:=he;exact .inl ⟨fun e'=>e e'.symm,x,hx,rfl⟩
 have ne:∀t x r b,t≠s->H[t]? =some x->x.live=true->Z t=some r->r.has b->∀p,Z s=some p->b≠p.block:=fun t x r b ht he hlx hr hb p hp e=>ht (h.diss t s x o r p b he hs hlx hl hr hp hb (.inl e.symm));have old:∀t x r b,t≠s->H[t]? =some x->x.live=true->Z t=some r->r.has b->w'.heap[b]? =w.heap[b]? :=fun t x r b ht he hlx hr hb=>hw _ (h.Wc he hlx hr hb) (ne t x r b ht he hlx hr hb);have newb:∀r b,q=some r->r.has b->w.heap.size<=b∨∃p,Z s=some p∧p.has b:=fun r b e hb=>by
  rcases hb with hb|hb
  ·rcases hq r e with h1|⟨p,hp,e'⟩
   ·exact .inl (hb▸h1)
   ·exact .inr ⟨p,hp,.inl (e'.trans hb)⟩
  ·rcases hqs r e with h1|h1
   ·rw[h1]at hb;cases hb
   ·exact .inr ⟨r,h1,.inr hb⟩
 have but:Env.Qai [s] Z (Z.set s q):=fun t p ht hp=>by
  have:t≠s:=by simpa using ht
  rw[Env.Xc _ _ this];exact hp
 refine⟨⟨fun b x hb=>?_,fun t o' he=>?_,fun t o' r b he hl' hr hb=>?_,fun t t' x x' r r' b he he' hlx hlx' hr hr' hb hb'=>?_,fun t ht=>?_,fun t o' r b he hl' hr hb=>?_⟩,?_⟩
 ·rw[hw b (h.Qtg hb) (fun p hp e=>by rw[e,h.sep s o p hs hl hp]at hb;cases hb)];exact h.imm b x hb
 ·rcases sub t o' he with⟨ht,x,hx,rfl⟩|⟨rfl,rfl⟩
  ·by_cases hlx:x.live=true
   ·exact(h.own t x hx).forget M.le_refl but (Env.Xc _ _ ht) fun r b hr hb=>old t x r b ht hx hlx hr hb
   ·rw[Qbv hlx];trivial
  ·exact ho
 ·rcases sub t o' he with⟨ht,x,hx,rfl⟩|⟨rfl,rfl⟩
  ·rw[Env.Xc _ _ ht]at hr;rw[Qb1]at hl';exact h.seps t x r b hx hl' hr hb
  ·rw[Env.set_self]at hr;rcases newb r b hr hb with h1|⟨p,hp,e⟩
   ·exact h.Zl3 h1
   ·exact h.seps t o p b hs hl hp e
 ·rcases sub t x he with⟨ht,y,hy,rfl⟩|⟨rfl,rfl⟩
  ·rw[Env.Xc _ _ ht]at hr;rw[Qb1]at hlx;rcases sub t' x' he' with⟨ht',y',hy',rfl⟩|⟨rfl,rfl⟩
   ·rw[Env.Xc _ _ ht']at hr';rw[Qb1]at hlx';exact h.diss t t' y y' r r' b hy hy' hlx hlx' hr hr' hb hb'
   ·rw[Env.set_self]at hr';rcases newb r' b hr' hb' with h1|⟨p,hp,e⟩
    ·have:=h.Wc hy hlx hr hb;omega
    ·exact absurd (h.diss t _ y o r p b hy hs hlx hl hr hp hb e) ht
  ·rw[Env.set_self]at hr;rcases sub t' x' he' with⟨ht',y',hy',rfl⟩|⟨rfl,rfl⟩
   ·rw[Env.Xc _ _ ht']at hr';rw[Qb1]at hlx';rcases newb r b hr hb with h1|⟨p,hp,e⟩
    ·have:=h.Wc hy' hlx' hr' hb';omega
    ·exact absurd (h.diss t' _ y' o r' p b hy' hs hlx' hl hr' hp hb' e) ht'
   ·rfl
 ·have:t≠s:=by simp at ht;omega
  rw[Env.Xc _ _ this];exact h.fresh t (by simpa using ht)
 ·rcases sub t o' he with⟨ht,y,hy,rfl⟩|⟨rfl,rfl⟩
  ·rw[Env.Xc _ _ ht]at hr;rw[Qb1]at hl';exact ZC (h.lts t y r b hy hl' hr hb) hz
  ·rw[Env.set_self]at hr;rcases hqs r hr with h1|h1
   ·rw[h1]at hb;cases hb
   ·exact ZC (h.lts t o r b hs hl h1 hb) hz
 ·refine⟨M.le_refl,fun b o a c=>(by rw[a]at c;cases c),fun b hb=>?_,fun b hb hn=>hw b hb (fun p hp e=>hn ⟨s,o,p,hs,hl,hp,.inl e.symm⟩),hz,fun t x ht hx he hlx=>?_,fun t _ ht=>Env.Xc _ _ (by simpa using ht),io⟩
  ·obtain⟨t,x,r,he,hlx,hr,hb⟩:=hb;rcases sub t x he with⟨ht,y,hy,rfl⟩|⟨rfl,rfl⟩
   ·rw[Env.Xc _ _ ht]at hr;rw[Qb1]at hlx;exact .inr ⟨t,y,r,hy,hlx,hr,hb⟩
   ·rw[Env.set_self]at hr;rcases newb r b hr hb with h1|⟨p,hp,e⟩
    ·exact .inl h1
    ·exact .inr ⟨t,o,p,hs,hl,hp,e⟩
  ·have hts:t≠s:=by simpa using hx
   refine⟨⟨x.forget [s],by rw[ZP (fun e=>hts e.symm)];simp[he],by rw[Qb1];exact hlx⟩,fun r hr=>⟨by rw[Env.Xc _ _ hts];exact hr,fun b hb=>old t x r b hts he hlx hr hb⟩⟩
end
end Go.Sx
end
namespace Go.Sx
open Go
structure TI where
 desc:TypeDesc
 size:Nat
 bytes:Nat
 zero:Value
 row:Option (List Ty):=none
abbrev Qr:=List (Nat×TI)
structure Q9 (P:Program) (tab:Qr):Prop where
 und:tab.map (fun x=>P.underlying x.1)=tab.map (fun x=>some x.2.desc)
 siz:tab.map (fun x=>(P.info? x.1).map (·.size))=tab.map (fun x=>some x.2.size)
 byt:tab.map (fun x=>(P.info? x.1).map (·.bytes))=tab.map (fun x=>some x.2.bytes)
 zer:tab.map (fun x=>(P.info? x.1).bind (·.zero))=tab.map (fun x=>some x.2.zero)
 one:(tab.all fun x=>x.2.zero.cells.size==x.2.size&&x.2.zero.cells.all (·.oneCell')&&(x.2.desc.isRow||x.2.size==1))=true
theorem Yrm{α:Type}{l:List (Nat×α)}{t:Nat}{x:α}(h:l.lookup t=some x):(t,x)∈l:=by
 induction l with
 |nil=>simp at h
 |cons y l ih=>
  obtain⟨k,v⟩:=y;rw[List.lookup_cons]at h;split at h
  ·rename_i e;simp at e;cases h;simp[e]
  ·exact List.mem_cons_of_mem _ (ih h)
theorem Ql7{α β:Type}{f g:α->β}:∀{l:List α},l.map f=l.map g->∀x∈l,f x=g x
 |[],_,x,h=>by cases h
 |y::l,h,x,hx=>by
  simp only[ZI,List.cons.injEq]at h;rcases List.mem_cons.1 hx with rfl|hx
  ·exact h.1
  ·exact Ql7 h.2 x hx
structure X3 (P:Program) (t:TypeId) (i:TI):Prop where
 und:P.underlying t=some i.desc
 inf:∃n,P.info? t=some n∧n.size=i.size∧n.bytes=i.bytes∧n.zero=some i.zero
 zsz:i.zero.cells.size=i.size
 zon:i.zero.cells.all (·.oneCell')=true
 row:i.desc.isRow=false->i.size=1
theorem Q9.get{P:Program}{tab:Qr}(h:Q9 P tab){t:Nat}{i:TI}(hi:tab.lookup t=some i):X3 P t i:=by
 have hm:=Yrm hi;have h1:=Ql7 h.und _ hm;have h2:=Ql7 h.siz _ hm;have h3:=Ql7 h.byt _ hm;have h4:=Ql7 h.zer _ hm;have h5:=List.all_eq_true.1 h.one _ hm;simp only[Bool.and_eq_true,beq_iff_eq,Bool.or_eq_true]at h5 h1 h2 h3 h4;cases e:P.info? t with
 |none=>simp[e]at h2
 |some n=>simp[e]at h2 h3 h4;exact⟨h1,⟨n,e,h2,h3,h4⟩,h5.1.1,h5.1.2,fun hr=>by rcases h5.2 with h|h;rw[hr]at h;cases h;exact h⟩
theorem Q9.nil(P:Program):Q9 P []:=⟨rfl,rfl,rfl,rfl,rfl⟩
def Qe7(t u:TypeInfo):TI:={desc:=u.desc,size:=t.size,bytes:=t.bytes,zero:=t.zero.getD (.bool false)}
def Qw2(i:TI):Bool:=i.zero.cells.size==i.size&&i.zero.cells.all (·.oneCell')&&(i.desc.isRow||i.size==1)
theorem Q9.cons{P:Program}{t:Nat}{i j:TypeInfo}{rest:Qr}(hi:P.info? t=some i)(hu:P.underlying t=some j.desc)(hz:i.zero.isSome=true)(h1:Qw2 (Qe7 i j)=true)(hr:Q9 P rest):Q9 P ((t,Qe7 i j)::rest):=by
 obtain⟨z,hz⟩:=Option.isSome_iff_exists.1 hz;refine⟨?_,?_,?_,?_,?_⟩
 ·simp only[ZI,hr.und,hu];rfl
 ·simp only[ZI,hr.siz,hi];rfl
 ·simp only[ZI,hr.byt,hi];rfl
 ·simp only[ZI,hr.zer,hi];simp[Qe7,hz]
 ·simp only[List.all_cons,hr.one,Bool.and_true];exact h1
theorem Q9.Yrx{P:Program}{t:Nat}{i j:TypeInfo}{rest:Qr}{r:Option (List Ty)}(hi:P.info? t=some i)(hu:P.underlying t=some j.desc)(hz:i.zero.isSome=true)(h1:Qw2 (Qe7 i j)=true)(hr:Q9 P rest):Q9 P ((t,{Qe7 i j with row:=r})::rest):=by have h:=Q9.cons hi hu hz h1 hr;exact⟨h.und,h.siz,h.byt,h.zer,h.one⟩
inductive Qp where
 |fail
 |ok (x:SV)
 |eff (x:SV) (H:List Qb) (tch fg:List Nat)
 |need (c:Bool) (r:Qp)
 |split (c:Bool) (a b:Qp)
 |both (a b:Qp)
def Qp.holds(H:List Qb)(K:Qy):Qp->Prop
 |.fail=>False
 |.ok x=>K x H [] []
 |.eff x H' t g=>K x H' t g
 |.need c r=>c=true∧r.holds H K
 |.split c a b=>(c=true->a.holds H K)∧(c=false->b.holds H K)
 |.both a b=>a.holds H K∧b.holds H K
theorem Qp.Qbi{H:List Qb}{K K':Qy}(hk:∀x H' t g,K x H' t g->K' x H' t g):∀{r:Qp},r.holds H K->r.holds H K'
 |.fail,h=>h
 |.ok x,h=>hk _ _ _ _ h
 |.eff x H' t g,h=>hk _ _ _ _ h
 |.need c r,h=>⟨h.1,Qp.Qbi hk h.2⟩
 |.split c a b,h=>⟨fun e=>Qp.Qbi hk (h.1 e),fun e=>Qp.Qbi hk (h.2 e)⟩
 |.both a b,h=>⟨Qp.Qbi hk h.1,Qp.Qbi hk h.2⟩
def Seen(K:Qy):Qy:=fun x H t f=>∃y,(∀M Z v,Qf M Z v x->Qf M Z v y)∧K y H t f
theorem Seen.of{K:Qy}{x:SV}{H:List Qb}{t f:List Nat}(h:K x H t f):Seen K x H t f:=⟨x,fun _ _ _ h=>h,h⟩
def SV.Yz:SV->SV
 |.pv (.tsl row l)=>.pv (.rsl row.length (Q0 row l))
 |.pv (.tptr row l i j)=>.pv (.rptr row.length (Q0 row l) i j)
 |x=>x
theorem Qf.Yz{M:Qd}{Z:Env}{v:Value}{x:SV}(h:Qf M Z v x):Qf M Z v x.Yz:=by
 unfold SV.Yz;split
 ·cases h with
  |pv h=>cases h with
   |tsl _ _ h=>exact .pv h
 ·cases h with
  |pv h=>cases h with
   |tptr _ _ _ _ h=>exact .pv h
 ·exact h
def Q1(P:Program)(S:Sem Value)(M:Qd)(Z:Env)(H:List Qb)(w:World)(K:Qy):Prop:=
 ∃v w',S.run P w=.ok v w'∧∃x H' tch fg M' Z',K x H' tch fg∧Qf M' Z' v x∧Mem M' Z' H' w'∧Fr M Z H w M' Z' H' w' H.length tch fg
def Qcm(P:Program)(S:Sem Unit)(M:Qd)(Z:Env)(H:List Qb)(w:World)(K:Qy):Prop:=
 ∃w',S.run P w=.ok () w'∧∃x H' tch fg M' Z',K x H' tch fg∧x=.any∧Mem M' Z' H' w'∧Fr M Z H w M' Z' H' w' H.length tch fg
theorem Q1.same{P:Program}{S:Sem Value}{M:Qd}{Z:Env}{H:List Qb}{w:World}{K:Qy}{v:Value}{x:SV}(hm:Mem M Z H w)(hr:S.run P w=.ok v w)(hx:Qf M Z v x)(hk:K x H [] []):Q1 P S M Z H w K:=
 ⟨v,w,hr,x,H,[],[],M,Z,hk,hx,hm,Fr.refl ..⟩
theorem Q1.seen{P:Program}{S:Sem Value}{M:Qd}{Z:Env}{H:List Qb}{w:World}{K:Qy}(h:Q1 P S M Z H w (Seen K)):Q1 P S M Z H w K:=by obtain⟨v,w',hr,x,H',t,f,M',Z',⟨y,hy,hk⟩,hs,hm,hf⟩:=h;exact⟨v,w',hr,y,H',t,f,M',Z',hk,hy _ _ _ hs,hm,hf⟩
theorem Ut{α:Type}(l v:List α)(f k:Nat)(h:f+v.length<=l.length):
  (l.take f++v++l.drop (f+v.length))[k]? =if k<f then l[k]? else if k<f+v.length then v[k-f]? else l[k]? :=by
 have ht:(l.take f).length=f:=by simp;omega
 rw[List.append_assoc,ZH];split
 ·rename_i hk;rw[ht]at hk;rw[if_pos hk,List.getElem?_take];simp[hk]
 ·rename_i hk;rw[ht]at hk;rw[if_neg hk,ht,ZH];split
  ·rename_i hk2;rw[if_pos (by omega)]
  ·rename_i hk2;rw[if_neg (by omega),List.getElem?_drop];congr 1;omega
theorem Kr{i r sz j:Nat}(hj:j<sz)(h:i<r):i*sz+j<r*sz:=by have:=Nat.mul_le_mul_right sz (show i+1<=r from h);rw[Nat.succ_mul]at this;omega
def Qku:List SV->Option (List Value)
 |[]=>some []
 |.pv (.lit v)::r=>(Qku r).map (v::·)
 |_=>none
def SV.X2(l:List SV):SV:=match Qku l with
 |some vs=>.lit (.agg vs.toArray)
 |none=>.agg l
theorem Zem{M:Qd}{Z:Env}:∀{l:List SV} {vs:List Value} {cs:List Value},Qku l=some vs->cs.length=l.length->
  (∀(i:Nat) (v:Value) (x:SV),cs[i]? =some v->l[i]? =some x->Qf M Z v x)->cs=vs
 |[],vs,cs,h,hl,_=>by simp[Qku]at h;subst h;simpa using hl
 |x::l,vs,[],h,hl,_=>by simp at hl
 |x::l,vs,c::cs,h,hl,hr=>by
  have h0:=hr 0 c x rfl rfl;match x,h with
  |.pv (.lit v),h=>simp only[Qku,U]at h;obtain⟨r,hr',rfl⟩:=h;have e:=Zem (cs:=cs) hr' (by simpa using hl) (fun i v x hv hx=>hr (i+1) v x (by simpa using hv) (by simpa using hx));rw[e,h0.Zq]
theorem Qf.X2{M:Qd}{Z:Env}{cs:List Value}{l:List SV}(hl:cs.length=l.length)
  (h:∀(i:Nat) (v:Value) (x:SV),cs[i]? =some v->l[i]? =some x->Qf M Z v x):Qf M Z (.agg cs.toArray) (SV.X2 l):=by
 unfold SV.X2;split
 ·rename_i vs hv;rw[Zem hv hl h];exact .pv (.lit _)
 ·exact .agg _ _ (by simpa using hl) fun i v x hv hx=>h i v x (by simpa using hv) hx
def SV.parts(n:Nat):SV->Option (List SV)
 |.agg l=>if l.length=n then some l else none
 |.pv (.lit (.agg cs))=>if cs.size=n then some (cs.toList.map SV.lit)else none
 |.pv (.lit (.tuple _))=>none
 |.any=>none
 |.tup _=>none
 |x=>if n=1 then some [x]else none
def SV.known:SV->Bool
 |.pv (.lit v)=>v.oneCell'
 |.any=>false
 |.agg _=>false
 |.tup _=>false
 |_=>true
theorem Qf.known{M:Qd}{Z:Env}{v:Value}{x:SV}(h:Qf M Z v x)(hx:x.known=true):v.oneCell'=true:=by
 cases h with
 |any=>simp[SV.known]at hx
 |pv h=>cases h with
  |lit=>simpa[SV.known]using hx
  |tsl _ _ h=>obtain⟨_,_,_,rfl⟩:=h.Qtk;rfl
  |tptr _ _ _ _ h=>obtain⟨_,_,rfl⟩:=h.Zl9;rfl
  |_=>rfl
 |agg=>simp[SV.known]at hx
 |tup=>simp[SV.known]at hx
 |slb _ _ _ _ _ _ hm=>obtain⟨_,_,_,rfl,_⟩:=hm;rfl
 |_=>rfl
theorem Qf.parts{M:Qd}{Z:Env}{v:Value}{x:SV}{n:Nat}{l:List SV}(h:Qf M Z v x)(hx:x.parts n=some l):
  v.cells.size=n∧l.length=n∧∀(i:Nat) (u:Value) (y:SV),v.cells[i]? =some u->l[i]? =some y->Qf M Z u y:=by
 have one:∀(v:Value) (x:SV) (l:List SV),v.cells= #[v]->Qf M Z v x->(if n=1 then some [x]else none)=some l->
   v.cells.size=n∧l.length=n∧∀(i:Nat) (u:Value) (y:SV),v.cells[i]? =some u->l[i]? =some y->Qf M Z u y:=by
  intro v x l hc hr hl;split at hl
  ·rename_i hn;cases hl;subst hn;refine⟨by simp[hc],rfl,fun i u y hu hy=>?_⟩;rw[hc]at hu;match i with
   |0=>simp at hu hy;subst hu;subst hy;exact hr
   |i+1=>simp at hy
  ·cases hl
 match v,x,h with
 |v,.any,_=>simp[SV.parts]at hx
 |_,.tup l',_=>simp[SV.parts]at hx
 |_,.agg l',.agg cs _ hl hr=>
  simp only[SV.parts]at hx;split at hx
  ·rename_i hn;cases hx;exact⟨by simp[Value.cells,hl,hn],hn,fun i u y hu hy=>hr i u y (by simpa[Value.cells]using hu) hy⟩
  ·cases hx
 |_,.pv _,.pv (.lit v)=>
  match v,hx with
  |.agg cs,hx=>
   simp only[SV.parts]at hx;split at hx
   ·rename_i hn;cases hx;refine⟨by simp[Value.cells,hn],by simp[hn],fun i u y hu hy=>?_⟩;simp only[ZB,U,Value.cells]at hu hy;obtain⟨z,hz,rfl⟩:=hy;have:u=z:=by rw[<-Array.getElem?_toList]at hu;rw[hz]at hu;exact(ZU hu).symm
    subst this;exact .pv (.lit _)
   ·cases hx
  |.bool b,hx=>exact one _ _ l rfl (.pv (.lit _)) hx
  |.int _ _,hx=>exact one _ _ l rfl (.pv (.lit _)) hx
  |.float _ _,hx=>exact one _ _ l rfl (.pv (.lit _)) hx
  |.complex _ _ _,hx=>exact one _ _ l rfl (.pv (.lit _)) hx
  |.string _,hx=>exact one _ _ l rfl (.pv (.lit _)) hx
  |.pointer _,hx=>exact one _ _ l rfl (.pv (.lit _)) hx
  |.slice _ _ _,hx=>exact one _ _ l rfl (.pv (.lit _)) hx
  |.map _,hx=>exact one _ _ l rfl (.pv (.lit _)) hx
  |.chan _,hx=>exact one _ _ l rfl (.pv (.lit _)) hx
  |.func _ _ _,hx=>exact one _ _ l rfl (.pv (.lit _)) hx
  |.nilFunc,hx=>exact one _ _ l rfl (.pv (.lit _)) hx
  |.iface _ _,hx=>exact one _ _ l rfl (.pv (.lit _)) hx
  |.nilIface,hx=>exact one _ _ l rfl (.pv (.lit _)) hx
  |.tuple _,hx=>simp[SV.parts]at hx
 |_,.pv _,.pv (.rnil sz)=>exact one _ _ l rfl (.pv (.rnil sz)) hx
 |_,.pv _,.pv (.rsl b off c sz n' rows hn hc h0 h1 h2)=>exact one _ _ l rfl (.pv (.rsl b off c sz n' rows hn hc h0 h1 h2)) hx
 |_,.pv _,.pv (.tsl row l' hp)=>exact one _ _ l (by obtain⟨_,_,_,rfl⟩:=hp.Qtk;rfl) (.pv (.tsl row l' hp)) hx
 |_,.pv _,.pv (.csl a n row l' hp)=>exact one _ _ l rfl (.pv (.csl a n row l' hp)) hx
 |_,.pv _,.pv (.tptr row l' i j hp)=>exact one _ _ l (by obtain⟨_,_,rfl⟩:=hp.Zl9;rfl) (.pv (.tptr row l' i j hp)) hx
 |_,.pv _,.pv (.remp a c sz)=>exact one _ _ l rfl (.pv (.remp a c sz)) hx
 |_,.pv _,.pv (.rptr b off sz i j k rows hk h0 h1 h2)=>exact one _ _ l rfl (.pv (.rptr b off sz i j k rows hk h0 h1 h2)) hx
 |_,.ptr _ _ _ _,.ptr s sz i j k p hp hk=>exact one _ _ l rfl (.ptr s sz i j k p hp hk) hx
 |_,.sl _ _ _ _,.sl s sz st n' c k p hp hk hc hn h6=>exact one _ _ l rfl (.sl s sz st n' c k p hp hk hc hn h6) hx
 |_,.sl _ _ _ _,.slz s sz st a=>exact one _ _ l rfl (.slz s sz st a) hx
 |_,.mp _,.mp s p hp=>exact one _ _ l rfl (.mp s p hp) hx
 |_,.yld _,.yld s p hp=>exact one _ _ l rfl (.yld s p hp) hx
 |_,.slb _ _ _ _ _,.slb s sz st n' m h hm=>exact one _ _ l (by obtain⟨_,_,_,rfl,_⟩:=hm;rfl) (.slb s sz st n' m h hm) hx
 |_,.fn _ _ _,.fn f a b x y ha hb h k=>exact one _ _ l rfl (.fn f a b x y ha hb h k) hx
end Go.Sx

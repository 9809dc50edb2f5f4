/- Functions at literal arguments: closed runs as summaries. -/
import Derived.Test.YtebmfbcngojbdaaGreatDoorXSxQh
set_option linter.unusedVariables false
set_option linter.unusedSimpArgs false
namespace Go.Sx
open Go
def Qfw(f:Value→Value→Bool):List Value→List Value→Bool
 |[],[]=>true
 |a::l,b::m=>f a b&&Qfw f l m
 |_,_=>false
def Qcw:Nat→Value→Value→Bool
 |0=>fun _ _=>false
 |n+1=>fun a b=>match a with
  |.int k x=>match b with
   |.int k' y=>decide (k=k')&&decide (x=y)
   |_=>false
  |.bool x=>match b with
   |.bool y=>x==y
   |_=>false
  |.string s=>match b with
   |.string t=>strEq s t
   |_=>false
  |.slice none l c=>match b with
   |.slice none l' c'=>decide (l=l')&&decide (c=c')
   |_=>false
  |.agg xs=>match b with
   |.agg ys=>Qfw (Qcw n) xs.toList ys.toList
   |_=>false
  |_=>false
theorem Quz{f:Value→Value→Bool}(hf:∀a b,f a b=true→a=b):∀{l m:List Value},Qfw f l m=true→l=m
 |[],[],_=>rfl
 |a::l,b::m,h=>by simp only[Qfw,Bool.and_eq_true]at h;rw[hf a b h.1,Quz hf h.2]
theorem Qrc:∀(n:Nat) (a b:Value),Qcw n a b=true→a=b
 |0,a,b,h=>by simp[Qcw]at h
 |n+1,a,b,h=>by
  simp only[Qcw]at h;split at h
  ·split at h
   ·simp only[Bool.and_eq_true,decide_eq_true_eq]at h;rw[h.1,h.2]
   ·cases h
  ·split at h
   ·simp only[beq_iff_eq]at h;rw[h]
   ·cases h
  ·split at h
   ·have:=(Qhe _ _ h);rw[this]
   ·cases h
  ·split at h
   ·simp only[Bool.and_eq_true,decide_eq_true_eq]at h;rw[h.1,h.2]
   ·cases h
  ·split at h
   ·have:=Quz (Qrc n) h;rw[Array.toList_inj]at this;rw[this]
   ·cases h
  ·cases h
def Qc4:List SV→List Value→Bool
 |[],[]=>true
 |x::l,v::m=>(match x with
  |.pv (.lit u)=>Qcw 9 u v
  |_=>false)&&Qc4 l m
 |_,_=>false
def Y9(l:List Value):List SV:=l.map fun v=>.pv (.lit v)
theorem Qi6:∀{l:List SV} {m:List Value},Qc4 l m=true→l=Y9 m
 |[],[],_=>rfl
 |x::l,v::m,h=>by
  simp only[Qc4,Bool.and_eq_true]at h;obtain⟨h1,h2⟩:=h;have e:=Qi6 h2;split at h1
  ·rename_i u;rw[Qrc _ _ _ h1,e];rfl
  ·cases h1
structure LC where
 args:List Value
 rets:List Value
def Qg(cx:Cx)(g:Nat)(lc:LC):Prop:=Z2 cx.P g (Y9 lc.args) [] fun r H' t f=>r=Zw (Y9 lc.rets)∧H'=[]∧t=[]∧f=[]
def Qzi(cx:Cx)(fn:Func)(rets:List Value):KX Unit:=fun e s=>
 gd (U7 e) (match shut s.marks s.H with
  |none=>none
  |some H'=>Vd cx {s with H:=H',marks:=[]} fn.results.toList fun l=>gd (Qc4 l rets) (some ()))
def Qp(cx:Cx)(lx:Lx)(n:Nat)(an:Ze)(fn:Func)(c:Code)(lc:LC):Option Unit:=
 Yo cx lx n Unit V2 an true fn.ntmps c (.entry (Y9 lc.args) []) (Qzi cx fn lc.rets)
theorem Zrc{cx:Cx}{fn:Func}{rets:List Value}{e:Exit}{s:St}{y:Unit}(h:Qzi cx fn rets e s=some y):
  (e=.normal∨e=.ret)∧∃H',shut s.marks s.H=some H'∧Jb cx {s with H:=H',marks:=[]} fn.results.toList fun l=>l=Y9 rets:=by
 obtain⟨h1,h⟩:=Zg h;refine⟨Qbz h1,?_⟩;split at h
 ·cases h
 ·rename_i H' hs;refine⟨H',hs,Wg _ _ _ (fun l hl=>?_) (Vv _ _ h)⟩;obtain⟨h2,_⟩:=Zg hl;exact Qi6 h2
theorem Qyv{M:Qc}{ρ:Env}{v:Value}{l:List Value}{M2:Qc}{ρ2:Env}(h:Qe M ρ v (Zw (Y9 l))):Qe M2 ρ2 v (Zw (Y9 l)):=by
 have one:∀{v:Value} {u:Value},Qe M ρ v (.pv (.lit u))→Qe M2 ρ2 v (.pv (.lit u)):=fun h=>by have:=h.Q1;subst this;exact .pv (.lit _)
 unfold Zw at h⊢;split at h
 ·rename_i x hx;match l,hx with
  |[u],hx=>simp only[Y9,List.map_cons,List.map_nil,List.cons.injEq,and_true]at hx;subst hx;exact one h
 ·cases h with
  |tup cs _ hl hr=>refine .tup cs _ hl (fun i u z hu hz=>?_);simp only[Y9,List.getElem?_map,Option.map_eq_some_iff]at hz;obtain⟨q,hq,rfl⟩:=hz;exact one (hr i u _ hu (by simp[Y9,hq]))
theorem Qg.Qi{cx:Cx}(hcx:cx.Ok){lx:Lx}(hlx:lx.Ok cx){n g:Nat}{an:Ze}{fn:Func}{c:Code}{lc:LC}(hf:cx.fns.lookup g=some fn)(hb:fn.body=some c)
  (hcode:Qp cx lx n an fn c lc=some ()) (hn:Nat.ble lc.args.length fn.ntmps=true):Qg cx g lc:=by
 have hw:=(Qcg hcx hlx n).1 Unit V2 (fun _ _ _=>rfl) none an true fn.ntmps c _ _ () (fun _=>rfl) hcode;have hcall:Z2 cx.P g (Y9 lc.args) [] fun r H' t f=>r=Zw (Y9 lc.rets):=by refine Qcv hcx hf hb (by simp only[Y9,List.length_map];exact Nat.le_of_ble_eq_true hn) (hw.mono fun e s hs=>?_);obtain⟨h1,H',h2,h3⟩:=Zrc hs;exact⟨h1,.inl (Nat.zero_le _),H',h2,Wg _ _ _ (fun l h4=>by rw[h4]) h3⟩
 intro M ρ w vs hm hr;refine(hcall M ρ w vs hm hr).mono ?_
 rintro e w' ⟨v,r,H',M',ρ',t,f,he,rfl,hs,hm',hfr⟩
 have hne:ρ=Yn:=by funext s;exact hm.fresh s (Nat.zero_le _)
 have hM2:∀b o,(M'.Q9 ρ' H' 0 w') b=some o→w'.heap[b]? =some o:=fun b o hb=>by
  cases e:M' b with
  |some o'=>rw[Qc.Y5 M' ρ' H' 0 w' b o' e]at hb;cases hb;exact hm'.imm b _ e
  |none=>exact(Qc.Xs e hb).2
 refine⟨v,_,[],M'.Q9 ρ' H' 0 w',Yn,[],[],he,⟨rfl,rfl,rfl,rfl⟩,Qyv hs,Kq hM2,?_⟩;have hsl:=Qc.Y5 M' ρ' H' 0 w';refine⟨Qc.le_trans hfr.imm hsl,fun b o h0 h1=>?_,fun b hb=>absurd hb X4,hfr.same,hfr.grow,fun s o hs=>absurd hs (Nat.not_lt_zero s),fun s hs=>absurd hs (Nat.not_lt_zero s),hfr.io⟩;cases e:M' b with
 |some o'=>exact hfr.new b o' h0 e
 |none=>obtain⟨⟨s2,o2,p2,k1,k2,k3,k4,k5⟩,_⟩:=Qc.Xs e h1;exact hfr.own b ⟨s2,o2,p2,k2,by cases o2<;>simp_all [Qa.Xt,Qa.live],k4,.inl k5⟩
def Uy(args:List SV):List LC→Option (List Value)
 |[]=>none
 |lc::l=>match Qc4 args lc.args with
  |true=>some lc.rets
  |false=>Uy args l
theorem Qwf{args:List SV}{rets:List Value}:∀{l:List LC},Uy args l=some rets→∃lc∈l,args=Y9 lc.args∧rets=lc.rets
 |lc::l,h=>by
  simp only[Uy]at h;split at h
  ·rename_i e;cases h;exact⟨lc,List.mem_cons_self ..,Qi6 e,rfl⟩
  ·obtain⟨lc',h1,h2⟩:=Qwf h;exact⟨lc',List.mem_cons_of_mem _ h1,h2⟩
def Z3(tab:List LC):Sm where
 pre:=fun args H=>(Uy args tab).isSome
 run:=fun X args H k=>match Uy args tab with
  |some rets=>k (Zw (Y9 rets)) H [] []
  |none=>none
theorem Jo{cx:Cx}{g:Nat}{tab:List LC}(hfn:∃fn,cx.fns.lookup g=some fn)(h:∀lc∈tab,Qg cx g lc):Yr cx g (Z3 tab):=by
 refine⟨hfn,fun X args H k y hk=>?_⟩;have hk:(match Uy args tab with
  |some rets=>k (Zw (Y9 rets)) H [] []
  |none=>none)=some y:=hk
 split at hk
 ·rename_i rets hf;obtain⟨lc,h1,h2,h3⟩:=Qwf hf;subst h2;subst h3;intro M ρ w vs hm hr;refine(h lc h1 M Yn w vs (Kq hm.imm) ⟨hr.1,fun i v x hv hx=>?_⟩).mono ?_
  ·have hx2:=hx;simp only[Y9,List.getElem?_map,Option.map_eq_some_iff]at hx2;obtain⟨q,hq,rfl⟩:=hx2;have:=(hr.2 i v _ hv hx).Q1;subst this;exact .pv (.lit _)
  ·rintro e w' ⟨v,r,H',M',ρ',t,f,he,⟨rfl,rfl,rfl,rfl⟩,hs,hm',hf⟩
   have hsame:∀b,b<w.heap.size→w'.heap[b]? =w.heap[b]? :=fun b hb=>hf.same b hb X4;refine⟨v,_,H,M',ρ,[],[],he,hk,Qyv hs,?_,?_⟩
   ·refine⟨hm'.imm,fun s o ho=>?_,fun s o p b ho hl hp hb=>?_,hm.diss,hm.fresh,fun s o p b ho hl hp hb=>Nat.lt_of_lt_of_le (hm.lts s o p b ho hl hp hb) hf.grow⟩
    ·by_cases hl:o.live=true
     ·exact(hm.own s o ho).mono hf.imm ρ.le_refl rfl fun p b hp hb=>hsame _ (hm.Yk ho hl hp hb)
     ·rw[Wu hl];trivial
    ·cases e:M' b with
     |none=>rfl
     |some ob=>
      rcases hf.new b ob (hm.seps s o p b ho hl hp hb) e with h1|h1
      ·have:=hm.Yk ho hl hp hb;omega
      ·exact absurd h1 X4
   ·exact⟨hf.imm,fun b o a c=>(hf.new b o a c).imp id fun h=>absurd h X4,fun b hb=>.inr hb,fun b hb _=>hsame b hb,hf.grow,fun s o _ _ ho hl=>⟨⟨o,ho,hl⟩,fun p hp=>⟨hp,fun b hb=>hsame _ (hm.Yk ho hl hp hb)⟩⟩,fun s hs _=>rfl,hf.io⟩
 ·cases hk
end Go.Sx
namespace Go.Sx
open Go
theorem Jq{cx:Cx}{g:Nat}:∀lc∈([]:List LC),Qg cx g lc:=fun _ h=>by cases h
theorem Qq{cx:Cx}{g:Nat}{lc:LC}{l:List LC}(h:Qg cx g lc)(hl:∀x∈l,Qg cx g x):∀x∈lc::l,Qg cx g x:=fun x hx=>by
 rcases List.mem_cons.1 hx with rfl|hx
 ·exact h
 ·exact hl x hx
end Go.Sx

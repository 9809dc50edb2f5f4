/- Part Qh of the own logic: functions that are lent owned objects: their summaries. Part Qi of the own logic: functions of data that return a fresh row, which is the caller's own. And further parts. -/
import Derived.Test.YtebmfbcngojbdaaGreatDoorXSxQs
import GoSem.ClaimJoined
import Derived.ChangeSame
import Derived.ChangeVars
import Derived.JoinedOf
import Derived.RowKit
import Derived.WideKeyArgs
import Derived.Below
import Derived.Handed
import Derived.CallsIn
import Derived.Shelf.SlIter.Nil
import Derived.Shelf.SortM.Plain
import Derived.Shelf.SortM.SortNone
import Derived.Shelf.Strconv.Itoa3
set_option linter.unusedVariables false
set_option linter.unusedSimpArgs false
set_option linter.unnecessarySimpa false
namespace Go.Sx
open Go
inductive Loc where
 |arg (i:Nat)
 |cap (l:Loc) (j:Nat)
 |fst (l:Loc) (j:Nat)
 |fld (k j:Nat)
structure PX where
 np:Nat
 locs:List Loc
 τ:Q4
 nr:Nat
 ω:Q4
 ids:List Nat
 mv:List Nat
 code:τ.El→Option ω.El
abbrev PX.no(px:PX):Nat:=px.locs.length
def Y3(H:List Qa):St:={T:=.full 8,H:=H,n0:=H.length,tch:=[],fg:=[],marks:=[],er:=[]}
def K4(T:TT)(n:Nat):List SV:=(List.range n).map fun i=>(T.get i).getD .any
def Je(n:Nat):List Qa:=List.replicate n .dead
def PX.Qz9(px:PX)(x:px.τ.El):St:=px.τ.st [] (List.range px.no) [] (Y3 (Je px.no)) x
def PX.args(px:PX)(x:px.τ.El):List SV:=K4 (px.Qz9 x).T px.np
def PX.objs(px:PX)(x:px.τ.El):List Qa:=(px.Qz9 x).H
def PX.Zaa(px:PX)(x:px.τ.El)(y:px.ω.El):St:=px.ω.st [] px.ids px.mv (Y3 (px.objs x)) y
def PX.res(px:PX)(x:px.τ.El)(y:px.ω.El):List SV:=K4 (px.Zaa x y).T px.nr
def PX.X5(px:PX)(x:px.τ.El)(y:px.ω.El):List Qa:=(px.Zaa x y).H
structure X8 (cx:Cx) (g:Nat) (px:PX):Prop where
 fn:∃fn,cx.fns.lookup g=some fn
 ok:∀x y,px.code x=some y→Z2 cx.P g (px.args x) (px.objs x) fun r H' t f=>r=Zw (px.res x y)∧H'=px.X5 x y∧(∀i∈t,i∈px.ids)∧∀i∈f,i∈px.mv
def Zjt:SV→Option Nat
 |.ptr s _ _ _=>some s
 |.sl s _ _ _=>some s
 |.mp s=>some s
 |_=>none
def Loc.find(args:List SV)(H:List Qa)(σ:List Nat):Loc→Option SV
 |.arg i=>args[i]?
 |.cap l j=>match l.find args H σ with
  |some (.fn _ _ b)=>b[j]?
  |_=>none
 |.fst l j=>match l.find args H σ with
  |some (.fn _ a _)=>a[j]?
  |_=>none
 |.fld k j=>match σ[k]? with
  |none=>none
  |some s=>match H[s]? with
   |none=>none
   |some o=>match J8 o with
    |some (_,_,r)=>r[j]?
    |none=>none
def Qe0(args:List SV)(H:List Qa):List Loc→List Nat→Option (List Nat)
 |[],σ=>some σ
 |l::ls,σ=>match l.find args H σ with
  |none=>none
  |some x=>match Zjt x with
   |none=>none
   |some s=>Qe0 args H ls (σ++[s])
def idx:List Nat→Nat→Nat→Option Nat
 |[],_,_=>none
 |a::l,i,s=>match Nat.beq a s with
  |true=>some i
  |false=>idx l (i+1) s
def Qcf(σ:List Nat)(H:List Qa)(s:Nat):Qa:=match H[s]? with
 |some o=>o.Zc (idx σ 0)
 |none=>.dead
def Jw(σ:List Nat)(H:List Qa):List Qa:=σ.map (Qcf σ H)
def Qg9(σ:List Nat)(args:List SV)(H:List Qa):St:=
 {T:=Kb (.full 8) 0 (J0 (idx σ 0) args),H:=Jw σ H,n0:=σ.length,tch:=[],fg:=[],marks:=[],er:=[]}
def Qcs:List Nat→Bool
 |[]=>true
 |x::l=>!l.contains x&&Qcs l
def Jf(σ:List Nat)(Hv:List Qa):List Nat→List Qa→List Qa
 |[],H=>H
 |k::ids,H=>Jf σ Hv ids (match σ[k]? with
  |none=>H
  |some s=>match Hv[k]? with
   |none=>H
   |some o=>H.set s (o.Zc fun k=>σ[k]?))
def through(σ:List Nat):List Nat→List Nat
 |[]=>[]
 |k::l=>match σ[k]? with
  |some s=>s::through σ l
  |none=>through σ l
def PX.fit(px:PX)(σ:List Nat)(args:List SV)(H:List Qa):Bool:=
 Nat.beq σ.length px.no&&(Qcs σ&&((σ.all fun s=>Nat.blt s H.length)&&(Nat.beq args.length px.np&&(px.τ.J3 (List.range px.no)&&((subset px.mv px.ids&&(px.ids.all fun k=>Nat.blt k px.no))&&(List.range px.no).all fun k=>px.ids.contains k||(px.τ.cells.filterMap Q0.id?).contains k)))))
def PX.sm(px:PX):Sm where
 pre:=fun args H=>match Qe0 args H px.locs []with
  |none=>false
  |some σ=>px.fit σ args H&&(px.τ.read px.no (Qg9 σ args H)).isSome
 run:=fun X args H k=>match Qe0 args H px.locs []with
  |none=>none
  |some σ=>gd (px.fit σ args H) (match Ue px.τ [] (List.range px.no) [] px.no (Qg9 σ args H)with
   |none=>none
   |some x=>match px.code x with
    |none=>none
    |some y=>k ((Zw (px.res x y)).Zc fun k=>σ[k]?) (Jf σ (px.X5 x y) px.ids (Xg (through σ px.mv) H)) (through σ px.ids) (through σ px.mv))
theorem Qfp:∀{σ:List Nat} {i s k:Nat},idx σ i s=some k→∃j,k=i+j∧σ[j]? =some s
 |[],i,s,k,h=>by cases h
 |a::l,i,s,k,h=>by
  simp only[idx]at h;split at h
  ·rename_i e;cases h;exact⟨0,rfl,by simp[Nat.eq_of_beq_eq_true e]⟩
  ·obtain⟨j,h1,h2⟩:=Qfp h;exact⟨j+1,by omega,by simpa using h2⟩
theorem Qnb:∀{σ:List Nat},Qcs σ=true→∀(i j s:Nat),σ[i]? =some s→σ[j]? =some s→i=j
 |[],_,i,j,s,h,_=>by simp at h
 |a::l,hn,i,j,s,hi,hj=>by
  simp only[Qcs,Bool.and_eq_true,Bool.not_eq_true']at hn;have hna:a∉l:=by have:=hn.1;simpa using this
  cases i with
  |zero=>
   cases j with
   |zero=>rfl
   |succ j=>simp at hi hj;subst hi;exact absurd (List.mem_of_getElem? hj) hna
  |succ i=>
   cases j with
   |zero=>simp at hi hj;subst hj;exact absurd (List.mem_of_getElem? hi) hna
   |succ j=>have:=Qnb hn.2 i j s (by simpa using hi) (by simpa using hj);omega
theorem Qgt{σ:List Nat}{H:List Qa}{k:Nat}{o:Qa}(h:(Jw σ H)[k]? =some o):∃s,σ[k]? =some s∧o=Qcf σ H s:=by unfold Jw at h;simp only[List.getElem?_map,Option.map_eq_some_iff]at h;obtain⟨s,hs,rfl⟩:=h;exact⟨s,hs,rfl⟩
def Yl(σ:List Nat)(ρ:Env):Env:=fun k=>match σ[k]? with
 |some s=>ρ s
 |none=>none
theorem Qv7{σ:List Nat}{ρ:Env}{s t:Nat}{p:Place}(h:idx σ 0 s=some t)(hp:ρ s=some p):Yl σ ρ t=some p:=by obtain⟨j,rfl,hj⟩:=Qfp h;simp only[Yl,Nat.zero_add,hj];exact hp
theorem Mem.view{M:Qc}{ρ:Env}{H:List Qa}{w:World}(hm:Mem M ρ H w){σ:List Nat}(hn:Qcs σ=true):Mem M (Yl σ ρ) (Jw σ H) w:=by
 have hobj:∀(k:Nat) (o:Qa),(Jw σ H)[k]? =some o→o.live=true→∃(s:Nat) (x:Qa),σ[k]? =some s∧H[s]? =some x∧o=x.Zc (idx σ 0)∧x.live=true:=fun k o ho hl=>by
  obtain⟨s,hs,rfl⟩:=Qgt ho;unfold Qcf at hl⊢;split at hl
  ·rename_i x hx;rw[Jt]at hl;exact⟨s,x,hs,hx,rfl,hl⟩
  ·cases hl
 refine⟨hm.imm,fun k o ho=>?_,fun k o p b ho hl hp hb=>?_,fun k k' o o' p p' b ho ho' hl hl' hp hp' hb hb'=>?_,fun k hk=>?_,fun k o p b ho hl hp hb=>?_⟩
 ·obtain⟨s,hs,rfl⟩:=Qgt ho;unfold Qcf;split
  ·rename_i x hx;exact(hm.own s x hx).Zc M.le_refl (fun s t p h hp=>Qv7 h hp) (by simp only[Yl,hs]) (fun _ _ _ _=>rfl)
  ·trivial
 ·obtain⟨s,x,h1,h2,_,h4⟩:=hobj k o ho hl;simp only[Yl,h1]at hp;exact hm.seps s x p b h2 h4 hp hb
 ·obtain⟨s,x,h1,h2,_,h4⟩:=hobj k o ho hl;obtain⟨s',x',k1,k2,_,k4⟩:=hobj k' o' ho' hl';simp only[Yl,h1]at hp;simp only[Yl,k1]at hp';have:=hm.diss s s' x x' p p' b h2 k2 h4 k4 hp hp' hb hb';subst this;exact Qnb hn k k' s h1 k1
 ·simp only[Yl];rw[List.getElem?_eq_none (by simpa[Jw]using hk)]
 ·obtain⟨s,x,h1,h2,_,h4⟩:=hobj k o ho hl;simp only[Yl,h1]at hp;exact hm.lts s x p b h2 h4 hp hb
theorem Ztq{ρ:Env}{H:List Qa}{σ:List Nat}{b:Nat}(h:Yz (Yl σ ρ) (Jw σ H) b):∃(k s:Nat) (x:Qa) (p:Place),σ[k]? =some s∧H[s]? =some x∧x.live=true∧ρ s=some p∧p.has b:=by
 obtain⟨k,o,p,h1,h2,h3,h4⟩:=h;obtain⟨s,hs,rfl⟩:=Qgt h1;unfold Qcf at h2;split at h2
 ·rename_i x hx;rw[Jt]at h2;simp only[Yl,hs]at h3;exact⟨k,s,x,p,hs,hx,h2,h3,h4⟩
 ·cases h2
theorem Qpi{σ:List Nat}{Hv:List Qa}:∀{ids:List Nat} {H:List Qa},(Jf σ Hv ids H).length=H.length
 |[],H=>rfl
 |k::ids,H=>by
  simp only[Jf];rw[Qpi];split
  ·rfl
  ·split
   ·rfl
   ·simp
theorem Qw0{σ:List Nat}{Hv:List Qa}:∀{ids:List Nat} {H:List Qa} {s:Nat} {o:Qa},(Jf σ Hv ids H)[s]? =some o→
  (∃k∈ids,σ[k]? =some s∧∃x,Hv[k]? =some x∧o=x.Zc fun k=>σ[k]?)∨(H[s]? =some o∧∀k∈ids,σ[k]? =some s→Hv[k]? =none)
 |[],H,s,o,h=>.inr ⟨h,fun k hk=>by cases hk⟩
 |k::ids,H,s,o,h=>by
  simp only[Jf]at h;rcases Qw0 h with⟨k',h1,h2⟩|⟨h1,h2⟩
  ·exact .inl ⟨k',List.mem_cons_of_mem _ h1,h2⟩
  ·split at h1
   ·rename_i hk;exact .inr ⟨h1,fun k' hk' h3=>by
     rcases List.mem_cons.1 hk' with rfl|hk'
     ·rw[hk]at h3;cases h3
     ·exact h2 k' hk' h3⟩
   ·rename_i t hk;split at h1
    ·rename_i hv;exact .inr ⟨h1,fun k' hk' h3=>by
      rcases List.mem_cons.1 hk' with rfl|hk'
      ·exact hv
      ·exact h2 k' hk' h3⟩
    ·rename_i x hv;rw[List.getElem?_set]at h1;split at h1
     ·rename_i e;subst e;split at h1
      ·cases h1;exact .inl ⟨k,List.mem_cons_self,hk,x,hv,rfl⟩
      ·cases h1
     ·rename_i e;exact .inr ⟨h1,fun k' hk' h3=>by
       rcases List.mem_cons.1 hk' with rfl|hk'
       ·rw[hk]at h3;cases h3;exact absurd rfl e
       ·exact h2 k' hk' h3⟩
theorem Qb6{σ:List Nat}:∀{l:List Nat} {s:Nat},s∈through σ l↔∃k∈l,σ[k]? =some s
 |[],s=>by simp[through]
 |k::l,s=>by
  simp only[through];split
  ·rename_i t ht;rw[List.mem_cons,Qb6];constructor
   ·rintro (rfl|⟨k',h1,h2⟩)
    ·exact⟨k,List.mem_cons_self,ht⟩
    ·exact⟨k',List.mem_cons_of_mem _ h1,h2⟩
   ·rintro ⟨k',h1,h2⟩
    rcases List.mem_cons.1 h1 with rfl|h1
    ·rw[ht]at h2;cases h2;exact .inl rfl
    ·exact .inr ⟨k',h1,h2⟩
  ·rename_i ht;rw[Qb6];constructor
   ·rintro ⟨k',h1,h2⟩;exact⟨k',List.mem_cons_of_mem _ h1,h2⟩
   ·rintro ⟨k',h1,h2⟩
    rcases List.mem_cons.1 h1 with rfl|h1
    ·rw[ht]at h2;cases h2
    ·exact⟨k',h1,h2⟩
theorem Zd8{T:TT}{n i:Nat}{x:SV}(h:(K4 T n)[i]? =some x):i<n∧x=(T.get i).getD .any:=by
 unfold K4 at h;simp only[List.getElem?_map,Option.map_eq_some_iff]at h;obtain⟨j,hj,rfl⟩:=h;by_cases hi:i<n
 ·rw[List.getElem?_range hi]at hj;cases hj;exact⟨hi,rfl⟩
 ·rw[List.getElem?_eq_none (by simpa using hi)]at hj;cases hj
theorem Qna(T:TT)(n:Nat):(K4 T n).length=n:=by simp[K4]
theorem Zgr{M:Qc}{ρ:Env}{H:List Qa}{w:World}{a:Act}(hm:Mem M ρ H w)(D ids mv:List Nat):Qfa D ids mv (Y3 H) M ρ H a w:=
 ⟨rfl,fun t y _ hy=>(by rw[show(Y3 H).T=TT.full 8 from rfl,TT.Ur]at hy;cases hy),
  fun i o _ ho=>⟨(hm.own i o ho).forget M.le_refl (fun _ _ _ h=>h) rfl (fun _ _ _ _=>rfl),fun hl=>⟨o,ho,hl⟩⟩,fun i o _ ho hl=>⟨o,ho,hl⟩⟩
theorem Zll{M:Qc}{ρ:Env}{H:List Qa}{w:World}{a:Act}{n:Nat}(hn:H.length=n):Qfa [] (List.range n) [] (Y3 (Je n)) M ρ H a w:=
 ⟨by simp[Y3,Je,hn],fun t y _ hy=>(by rw[show(Y3 (Je n)).T=TT.full 8 from rfl,TT.Ur]at hy;cases hy),
  fun i o hi ho=>absurd (List.mem_range.2 (by simpa[Y3,Je]using(List.getElem?_eq_some_iff.1 ho).1)) hi,
  fun i o hi ho hl=>absurd (List.mem_range.2 (by rw[←hn];exact(List.getElem?_eq_some_iff.1 ho).1)) hi⟩
def W9(vs:List Value):Act:={tmps:=vs.toArray,defers:=[]}
theorem Qwc(vs:List Value)(i:Nat)(v:Value)(h:vs[i]? =some v):(W9 vs).tmps.getD i undef=v:=by have:i<vs.length:=(List.getElem?_eq_some_iff.1 h).1;simp[W9,Array.getD,this];rw[List.getElem?_eq_getElem this]at h;simpa using h
theorem Qyl{M:Qc}{ρ:Env}{H:List Qa}{w:World}{vs:List Value}{xs:List SV}{n:Nat}{tch fg:List Nat}(hm:Mem M ρ H w)(hr:Yu M ρ vs xs)(hn:n≤H.length):
  Good (fun t=>(W9 vs).tmps.getD t undef) vs.length M ρ {T:=Kb (.full 8) 0 xs,H:=H,n0:=n,tch:=tch,fg:=fg,marks:=[],er:=[]} (W9 vs) w:=by
 refine⟨fun t x hx=>?_,by simp[W9],hm,⟨rfl,fun i d s h=>by simp[W9]at h⟩,fun m h=>(by cases h),hn,fun t _=>rfl⟩;rcases Qn6 xs (.full 8) 0 t x (fun t x h=>by rw[TT.Ur]at h;cases h) hx with h|⟨_,h⟩
 ·rw[TT.Ur]at h;cases h
 ·rw[Nat.sub_zero]at h;have hlt:t<vs.length:=by rw[hr.1];exact(List.getElem?_eq_some_iff.1 h).1
  rw[Qwc vs t vs[t] (List.getElem?_eq_getElem hlt)];exact hr.2 t vs[t] x (List.getElem?_eq_getElem hlt) h
theorem Qy3{B:Nat→Value}{nt n:Nat}{M:Qc}{ρ:Env}{s:St}{vs:List Value}{w:World}(hg:Good B nt M ρ s (W9 vs) w)(hn:vs.length=n):Yu M ρ vs (K4 s.T n):=by
 refine⟨by rw[Qna,hn],fun i v x hv hx=>?_⟩;obtain⟨hi,rfl⟩:=Zd8 hx;cases hT:s.T.get i with
 |none=>exact .any _
 |some y=>have:=hg.tm i y hT;rwa[Qwc vs i v hv]at this
theorem Zrh{M:Qc}{ρ:Env}{H:List Qa}{w:World}{n:Nat}(hn:H.length≤n):M.Q9 ρ H n w=M:=by
 refine Subtype.ext (funext fun b=>?_);unfold Qc.Q9;dsimp only;cases M b with
 |some o=>rfl
 |none=>
  simp only;rw[if_neg]
  rintro ⟨s,o,p,h1,h2,_⟩
  have:=(List.getElem?_eq_some_iff.1 h2).1;omega
theorem PX.Q2{cx:Cx}{g:Nat}{px:PX}(h:X8 cx g px):Yr cx g px.sm:=by
 refine⟨h.fn,fun X args H k y hk=>?_⟩;have hk:(match Qe0 args H px.locs []with
  |none=>none
  |some σ=>gd (px.fit σ args H) (match Ue px.τ [] (List.range px.no) [] px.no (Qg9 σ args H)with
   |none=>none
   |some x=>match px.code x with
    |none=>none
    |some y=>k ((Zw (px.res x y)).Zc fun k=>σ[k]?) (Jf σ (px.X5 x y) px.ids (Xg (through σ px.mv) H)) (through σ px.ids) (through σ px.mv)))=some y:=hk
 split at hk
 ·cases hk
 ·rename_i σ hσ;obtain⟨hfit,hk⟩:=Zg hk;split at hk
  ·cases hk
  ·rename_i x hx;split at hk
   ·cases hk
   ·rename_i z hz;simp only[PX.fit,Bool.and_eq_true]at hfit;obtain⟨f1,f2,f3,f4,f5,⟨f6,f7⟩,f8⟩:=hfit;have hno:σ.length=px.no:=Nat.eq_of_beq_eq_true f1;have hnp:args.length=px.np:=Nat.eq_of_beq_eq_true f4;have hlt:∀k s:Nat,σ[k]? =some s→s<H.length:=fun k s h=>Vf (List.all_eq_true.1 f3 s (List.mem_of_getElem? h));obtain⟨r1,c,hc,r2⟩:=Qkm hx;intro M ρ w vs hm hr;have hmv:=hm.view f2;have hrv:Yu M (Yl σ ρ) vs (J0 (idx σ 0) args):=by rw[Qfr];refine⟨by rw[List.length_map];exact hr.1,fun i v x hv hx=>?_⟩;simp only[List.getElem?_map,Option.map_eq_some_iff]at hx;obtain⟨u,hu,rfl⟩:=hx;exact(hr.2 i v u hv hu).Zc M.le_refl fun s t p h hp=>Qv7 h hp
    have hlen:(Jw σ H).length=px.no:=by simp[Jw,hno]
    have hbl:(Y3 (Je px.no)).H.length=px.no:=by simp[Y3,Je]
    have hg:=Qyl (n:=σ.length) (tch:=[]) (fg:=[]) hmv hrv (by rw[hlen,hno];exact Nat.le_refl _);obtain⟨M2,ρ2,g1,g2,e1,e2⟩:=Vi (τ:=px.τ) (D:=[]) (ids:=List.range px.no) (mv:=[]) (b:=Y3 (Je px.no)) (H0:=Jw σ H) (M0:=M) (ρ0:=Yl σ ρ) (a0:=W9 vs) (w0:=w) (fun _ _=>rfl) (Zll hlen) hmv hg
     (Fr.refl ..) rfl f5 (by rw[hbl];exact r1) (by rw[hbl];exact r2) hc
    rw[hbl]at e1 e2;have e1:M2=M:=by rw[e1];exact Zrh (by show(Jw σ H).length≤px.no;rw[hlen];exact Nat.le_refl _)
    have e2:ρ2=Yl σ ρ:=by rw[e2,←hlen];exact Zns hmv
    subst e1;subst e2;have hm2:Mem M2 (Yl σ ρ) (px.objs x) w:=g1.mem;have hol:(px.objs x).length=px.no:=by show(px.τ.st [] (List.range px.no) [] (Y3 (Je px.no)) x).H.length=_;rw[Q4.Us,Qaa,U3,Uj,hbl]
    have hreps:Yu M2 (Yl σ ρ) vs (px.args x):=Qy3 g1 (by rw[hr.1,hnp]);have hown:∀b,b<w.heap.size→Yz (Yl σ ρ) (px.objs x) b→∃(k s:Nat) (x:Qa) (p:Place),σ[k]? =some s∧H[s]? =some x∧x.live=true∧ρ s=some p∧p.has b:=fun b hb ho=>by
     rcases g2.own b ho with h1|h1
     ·omega
     ·exact Ztq h1
    refine(h.ok x z hz M2 (Yl σ ρ) w vs hm2 hreps).mono ?_
    rintro e w' ⟨v,r,H',M',ρ',t,f,he,⟨rfl,rfl,ht,hf⟩,hs,hm',hfr⟩
    let ρ3:Env:=fun s=>match idx σ 0 s with
     |some k=>ρ' k
     |none=>ρ s
    have hidx:∀k s:Nat,σ[k]? =some s→idx σ 0 s=some k:=fun k s hks=>by
     have key:∀(l:List Nat) (i j:Nat),l[j]? =some s→∃k,idx l i s=some k:=by
      intro l;induction l with
      |nil=>intro i j h;simp at h
      |cons a l ih=>
       intro i j h;simp only[idx];cases hb:Nat.beq a s with
       |true=>exact⟨i,rfl⟩
       |false=>
        cases j with
        |zero=>simp at h;subst h;rw[Nat.beq_refl]at hb;cases hb
        |succ j=>exact ih (i+1) j (by simpa using h)
     obtain⟨k',hk'⟩:=key σ 0 k hks;obtain⟨j,e,hj⟩:=Qfp hk';have e:k'=j:=by omega
     subst e;rw[hk',Qnb f2 k' k s hj hks]
    have hρ3:∀k s:Nat,σ[k]? =some s→ρ3 s=ρ' k:=fun k s hks=>by simp only[ρ3,hidx k s hks]
    have hρ3':∀s:Nat,(∀k:Nat,σ[k]? ≠some s)→ρ3 s=ρ s:=fun s hns=>by
     have:idx σ 0 s=none:=by
      cases hi:idx σ 0 s with
      |none=>rfl
      |some k=>obtain⟨j,_,hj⟩:=Qfp hi;exact absurd hj (hns j)
     simp only[ρ3,this]
    have hstay:∀k s:Nat,σ[k]? =some s→k∉px.mv→ρ3 s=ρ s:=fun k s hks hkm=>by
     rw[hρ3 k s hks];have hklt:k<(px.objs x).length:=by rw[hol,←hno];exact(List.getElem?_eq_some_iff.1 hks).1
     rw[hfr.stay k hklt fun h=>hkm (hf k h)];simp only[Yl,hks]
    have hback:∀s t p,(fun k=>σ[k]?) s=some t→ρ' s=some p→ρ3 t=some p:=fun k s p hks hp=>by rw[hρ3 k s hks];exact hp
    have hmvi:∀k,k∈px.mv→k∈px.ids:=fun k hk=>W4 f6 hk;have hkeep:∀k s:Nat,σ[k]? =some s→k∉px.ids→∀o,H[s]? =some o→o.live=true→(∃o':Qa,(px.X5 x z)[k]? =some o'∧o'.live=true)∧∀p,ρ s=some p→ρ' k=some p∧∀b,p.has b→w'.heap[b]? =w.heap[b]? :=fun k s hks hki o ho hl=>by
     have hkn:k<px.no:=by rw[←hno];exact(List.getElem?_eq_some_iff.1 hks).1
     have hcell:k∈px.τ.cells.filterMap Q0.id? :=by have:=List.all_eq_true.1 f8 k (List.mem_range.2 hkn);simp only[Bool.or_eq_true,List.contains_eq_mem,decide_eq_true_eq]at this;exact this.resolve_left hki
     have hko:k<(px.objs x).length:=by rw[hol];exact hkn
     obtain⟨ok,hok⟩:∃ok,(px.objs x)[k]? =some ok:=⟨_,List.getElem?_eq_getElem hko⟩;have hokl:ok.live=true:=by
      have hok':(px.τ.st [] (List.range px.no) [] (Y3 (Je px.no)) x).H[k]? =some ok:=hok;rw[Q4.Us]at hok';rcases Qbr hok' with⟨c',z',hi,hid,rfl⟩|⟨hni,_⟩
      ·cases c' with
       |slot=>cases hid
       |_=>rfl
      ·exact absurd hcell hni
     obtain⟨a1,a2⟩:=hfr.keep k ok hko (fun h=>hki (ht k h)) hok hokl;exact⟨a1,fun p hp=>a2 p (by simp only[Yl,hks];exact hp)⟩
    have hother:∀s o p b,H[s]? =some o→o.live=true→ρ s=some p→p.has b→(∀k:Nat,σ[k]? ≠some s)→¬Yz (Yl σ ρ) (px.objs x) b:=fun s o p b ho hl hp hb hns hw=>by obtain⟨k,s',x',p',h1,h2,h3,h4,h5⟩:=hown b (hm.Yk ho hl hp hb) hw;have:=hm.diss s' s x' o p' p b h2 ho h3 hl h4 hp h5 hb;subst this;exact hns k h1
    have hsame:∀s o,H[s]? =some o→o.live=true→(∀k:Nat,σ[k]? =some s→k∉px.ids)→∀p,ρ s=some p→ρ3 s=some p∧∀b,p.has b→w'.heap[b]? =w.heap[b]? :=fun s o ho hl hni p hp=>by
     by_cases hin:∃k:Nat,σ[k]? =some s
     ·obtain⟨k,hks⟩:=hin;obtain⟨_,a2⟩:=hkeep k s hks (hni k hks) o ho hl;obtain⟨b1,b2⟩:=a2 p hp;exact⟨by rw[hρ3 k s hks];exact b1,b2⟩
     ·have hns:∀k:Nat,σ[k]? ≠some s:=fun k h=>hin ⟨k,h⟩;exact⟨by rw[hρ3' s hns];exact hp,fun b hb=>hfr.same b (hm.Yk ho hl hp hb) (hother s o p b ho hl hp hb hns)⟩
    have hsplit:∀s o,(Jf σ (px.X5 x z) px.ids (Xg (through σ px.mv) H))[s]? =some o→
      (∃k∈px.ids,σ[k]? =some s∧∃q,(px.X5 x z)[k]? =some q∧o=q.Zc fun k=>σ[k]?)∨
      (∃q,H[s]? =some q∧(o=q.forget (through σ px.mv)∨(through σ px.mv=[]∧o=q))∧∀k:Nat,σ[k]? =some s→k∉px.ids):=fun s o ho=>by
     rcases Qw0 ho with h1|⟨h1,h2⟩
     ·exact .inl h1
     ·obtain⟨q,q1,q2⟩:=Qpw h1;refine .inr ⟨q,q1,q2,fun k hks hki=>?_⟩;have hkn:k<px.no:=Vf (List.all_eq_true.1 f7 k hki);have:k<(px.X5 x z).length:=by show k<(px.ω.st [] px.ids px.mv (Y3 (px.objs x)) z).H.length;rw[Q4.Us,Qaa,U3,Uj];show k<(px.objs x).length;rw[hol];exact hkn
      have hn:=h2 k hki hks;rw[List.getElem?_eq_getElem this]at hn;cases hn
    have hlf:∀(q o:Qa),(o=q.forget (through σ px.mv)∨(through σ px.mv=[]∧o=q))→o.live=q.live:=fun q o h=>by
     rcases h with rfl|⟨_,rfl⟩
     ·exact Vk _ q
     ·rfl
    have hbut:Env.J1 (through σ px.mv) ρ ρ3:=fun s p hs hp=>by
     have hs:s∉through σ px.mv:=by simpa using hs
     by_cases hin:∃k:Nat,σ[k]? =some s
     ·obtain⟨k,hks⟩:=hin;rw[hstay k s hks fun hkm=>hs (Qb6.2 ⟨k,hkm,hks⟩)];exact hp
     ·rw[hρ3' s fun k h=>hin ⟨k,h⟩];exact hp
    have hmem3:Mem M' ρ3 (Jf σ (px.X5 x z) px.ids (Xg (through σ px.mv) H)) w':=by
     refine⟨hm'.imm,fun s o ho=>?_,fun s o p b ho hl hp hb=>?_,fun s s' o o' p p' b ho ho' hl hl' hp hp' hb hb'=>?_,fun s hs=>?_,fun s o p b ho hl hp hb=>?_⟩
     ·rcases hsplit s o ho with⟨k,hki,hks,q,hq,rfl⟩|⟨q,hq,hqo,hni⟩
      ·exact(hm'.own k q hq).Zc M'.le_refl hback (hρ3 k s hks) (fun _ _ _ _=>rfl)
      ·by_cases hl:q.live=true
       ·have hρs:ρ3 s=ρ s:=by
         by_cases hin:∃k:Nat,σ[k]? =some s
         ·obtain⟨k,hks⟩:=hin;exact hstay k s hks fun hkm=>hni k hks (hmvi k hkm)
         ·exact hρ3' s fun k h=>hin ⟨k,h⟩
        have:=(hm.own s q hq).forget (d:=through σ px.mv) hfr.imm hbut hρs fun p b hp hb=>(hsame s q hq hl hni p hp).2 b hb;rcases hqo with rfl|⟨e,rfl⟩
        ·exact this
        ·rwa[e,Qa.Jk]at this
       ·have e0:=Wu hl;subst e0;rcases hqo with rfl|⟨_,rfl⟩<;>trivial
     ·rcases hsplit s o ho with⟨k,hki,hks,q,hq,rfl⟩|⟨q,hq,hqo,hni⟩
      ·rw[Jt]at hl;rw[hρ3 k s hks]at hp;exact hm'.seps k q p b hq hl hp hb
      ·rw[hlf q o hqo]at hl;by_cases hin:∃k:Nat,σ[k]? =some s
       ·obtain⟨k,hks⟩:=hin;obtain⟨⟨o',a1,a2⟩,_⟩:=hkeep k s hks (hni k hks) q hq hl;rw[hρ3 k s hks]at hp;exact hm'.seps k o' p b a1 a2 hp hb
       ·have hns:∀k:Nat,σ[k]? ≠some s:=fun k h=>hin ⟨k,h⟩;rw[hρ3' s hns]at hp;cases e:M' b with
        |none=>rfl
        |some ob=>
         rcases hfr.new b ob (hm.seps s q p b hq hl hp hb) e with h1|h1
         ·have:=hm.Yk hq hl hp hb;omega
         ·exact absurd h1 (hother s q p b hq hl hp hb hns)
     ·
      have htw:∀s o p,(Jf σ (px.X5 x z) px.ids (Xg (through σ px.mv) H))[s]? =some o→o.live=true→ρ3 s=some p→
        (∃k q,σ[k]? =some s∧(px.X5 x z)[k]? =some q∧q.live=true∧ρ' k=some p)∨((∀k:Nat,σ[k]? ≠some s)∧∃q,H[s]? =some q∧q.live=true∧ρ s=some p):=fun s o p ho hl hp=>by
       rcases hsplit s o ho with⟨k,hki,hks,q,hq,rfl⟩|⟨q,hq,hqo,hni⟩
       ·rw[Jt]at hl;rw[hρ3 k s hks]at hp;exact .inl ⟨k,q,hks,hq,hl,hp⟩
       ·rw[hlf q o hqo]at hl;by_cases hin:∃k:Nat,σ[k]? =some s
        ·obtain⟨k,hks⟩:=hin;obtain⟨⟨o',a1,a2⟩,_⟩:=hkeep k s hks (hni k hks) q hq hl;rw[hρ3 k s hks]at hp;exact .inl ⟨k,o',hks,a1,a2,hp⟩
        ·have hns:∀k:Nat,σ[k]? ≠some s:=fun k h=>hin ⟨k,h⟩;rw[hρ3' s hns]at hp;exact .inr ⟨hns,q,hq,hl,hp⟩
      have hcross:∀(k s':Nat) (q:Qa) (q':Qa) (p p':Place),(px.X5 x z)[k]? =some q→q.live=true→ρ' k=some p→(∀k:Nat,σ[k]? ≠some s')→H[s']? =some q'→q'.live=true→ρ s'=some p'→p.has b→p'.has b→False:=fun k s' q q' p p' h1 h2 h3 h4 h5 h6 h7 h8 h8'=>by
       have hlt2:=hm.Yk h5 h6 h7 h8';rcases hfr.own b ⟨k,q,p,h1,h2,h3,h8⟩with h9|h9
       ·omega
       ·exact hother s' q' p' b h5 h6 h7 h8' h4 h9
      rcases htw s o p ho hl hp with⟨k,q,a1,a2,a3,a4⟩|⟨a1,q,a2,a3,a4⟩
      ·rcases htw s' o' p' ho' hl' hp' with⟨k',q',b1,b2,b3,b4⟩|⟨b1,q',b2,b3,b4⟩
       ·have:=hm'.diss k k' q q' p p' b a2 b2 a3 b3 a4 b4 hb hb';subst this;rw[a1]at b1;cases b1;rfl
       ·exact(hcross k s' q q' p p' a2 a3 a4 b1 b2 b3 b4 hb hb').elim
      ·rcases htw s' o' p' ho' hl' hp' with⟨k',q',b1,b2,b3,b4⟩|⟨b1,q',b2,b3,b4⟩
       ·exact(hcross k' s q' q p' p b2 b3 b4 a1 a2 a3 a4 hb' hb).elim
       ·exact hm.diss s s' q q' p p' b a2 b2 a3 b3 a4 b4 hb hb'
     ·rw[Qpi,Uj]at hs;have hns:∀k:Nat,σ[k]? ≠some s:=fun k h=>by have:=hlt k s h;omega
      rw[hρ3' s hns];exact hm.fresh s hs
     ·rcases hsplit s o ho with⟨k,hki,hks,q,hq,rfl⟩|⟨q,hq,hqo,hni⟩
      ·rw[Jt]at hl;rw[hρ3 k s hks]at hp;exact hm'.lts k q p b hq hl hp hb
      ·rw[hlf q o hqo]at hl;by_cases hin:∃k:Nat,σ[k]? =some s
       ·obtain⟨k,hks⟩:=hin;obtain⟨⟨o',a1,a2⟩,_⟩:=hkeep k s hks (hni k hks) q hq hl;rw[hρ3 k s hks]at hp;exact hm'.lts k o' p b a1 a2 hp hb
       ·have hns:∀k:Nat,σ[k]? ≠some s:=fun k h=>hin ⟨k,h⟩;rw[hρ3' s hns]at hp;exact Nat.lt_of_lt_of_le (hm.lts s q p b hq hl hp hb) hfr.grow
    refine⟨v,_,_,M',ρ3,_,_,he,hk,hs.Zc M'.le_refl hback,hmem3,?_⟩;have hup:∀b,b<w.heap.size→Yz (Yl σ ρ) (px.objs x) b→Yz ρ H b:=fun b hb ho=>by obtain⟨k,s,x',p,h1,h2,h3,h4,h5⟩:=hown b hb ho;exact⟨s,x',p,h2,h3,h4,h5⟩
    refine⟨hfr.imm,fun b ob h0 h1=>?_,fun b hb=>?_,fun b hb hno2=>hfr.same b hb fun ho=>hno2 (hup b hb ho),hfr.grow,fun s o hsn hst ho hl=>?_,fun s hsn hsm=>?_,hfr.io⟩
    ·rcases hfr.new b ob h0 h1 with h2|h2
     ·exact .inl h2
     ·by_cases hb:b<w.heap.size
      ·exact .inr (hup b hb h2)
      ·exact .inl (by omega)
    ·obtain⟨s,o,p,h1,h2,h3,h4⟩:=hb;rcases hsplit s o h1 with⟨k,hki,hks,q,hq,rfl⟩|⟨q,hq,hqo,hni⟩
     ·rw[Jt]at h2;rw[hρ3 k s hks]at h3;rcases hfr.own b ⟨k,q,p,hq,h2,h3,h4⟩with h5|h5
      ·exact .inl h5
      ·by_cases hb:b<w.heap.size
       ·exact .inr (hup b hb h5)
       ·exact .inl (by omega)
     ·rw[hlf q o hqo]at h2;refine .inr ⟨s,q,p,hq,h2,?_,h4⟩;by_cases hin:∃k:Nat,σ[k]? =some s
      ·obtain⟨k,hks⟩:=hin;rw[hstay k s hks fun hkm=>hni k hks (hmvi k hkm)]at h3;exact h3
      ·rw[hρ3' s fun k h=>hin ⟨k,h⟩]at h3;exact h3
    ·have hni:∀k:Nat,σ[k]? =some s→k∉px.ids:=fun k hks hki=>hst (Qb6.2 ⟨k,hki,hks⟩);refine⟨?_,hsame s o ho hl hni⟩;have hlen2:s<(Jf σ (px.X5 x z) px.ids (Xg (through σ px.mv) H)).length:=by rw[Qpi,Uj];exact hsn
     obtain⟨o2,ho2⟩:∃o2,(Jf σ (px.X5 x z) px.ids (Xg (through σ px.mv) H))[s]? =some o2:=⟨_,List.getElem?_eq_getElem hlen2⟩;refine⟨o2,ho2,?_⟩;rcases hsplit s o2 ho2 with⟨k,hki,hks,_⟩|⟨q,hq,hqo,_⟩
     ·exact absurd hki (hni k hks)
     ·rw[ho]at hq;cases hq;rw[hlf o o2 hqo];exact hl
    ·by_cases hin:∃k:Nat,σ[k]? =some s
     ·obtain⟨k,hks⟩:=hin;exact hstay k s hks fun hkm=>hsm (Qb6.2 ⟨k,hkm,hks⟩)
     ·exact hρ3' s fun k h=>hin ⟨k,h⟩
def Qtd(cx:Cx)(fn:Func)(px:PX):KX px.ω.El:=fun e s=>
 gd (U7 e&&(s.marks.isEmpty||Nat.ble px.no s.H.length)) (match shut s.marks s.H with
  |none=>none
  |some H'=>Vd cx {s with H:=H',marks:=[]} fn.results.toList fun l=>
   gd (Nat.beq l.length px.nr) (Ue px.ω [] px.ids px.mv px.no {T:=Kb (.full 8) 0 l,H:=H',n0:=px.no,tch:=s.tch,fg:=s.fg,marks:=[],er:=[]}))
def Qe8(cx:Cx)(lx:Lx)(n:Nat)(an:Ze)(fn:Func)(c:Code)(px:PX)(x:px.τ.El):Option px.ω.El:=
 Yo cx lx n px.ω.El (Zy.eqv px.ω.cells) an true fn.ntmps c (.entry (px.args x) (px.objs x)) (Qtd cx fn px)
theorem Zlv{cx:Cx}{fn:Func}{px:PX}{e:Exit}{s:St}{y:px.ω.El}(h:Qtd cx fn px e s=some y):
  (e = .normal ∨ e = .ret) ∧ (px.no ≤ s.H.length ∨ s.marks = []) ∧ ∃ H',shut s.marks s.H = some H' ∧ Jb cx { s with H := H',marks := [] } fn.results.toList fun l =>
   l.length=px.nr∧Ue px.ω [] px.ids px.mv px.no {T:=Kb (.full 8) 0 l,H:=H',n0:=px.no,tch:=s.tch,fg:=s.fg,marks:=[],er:=[]}=some y:=by
 obtain⟨h1,h⟩:=Zg h;simp only[Bool.and_eq_true,Bool.or_eq_true,List.isEmpty_iff]at h1;refine⟨Qbz h1.1,h1.2.symm.imp (fun h=>Nat.le_of_ble_eq_true h) id,?_⟩;split at h
 ·cases h
 ·rename_i H' hs;refine⟨H',hs,Wg _ _ _ (fun l hl=>?_) (Vv _ _ h)⟩;obtain⟨h2,hl⟩:=Zg hl;exact⟨Nat.eq_of_beq_eq_true h2,hl⟩
theorem PX.Qf8(px:PX)(x:px.τ.El):(px.objs x).length=px.no:=by show(px.τ.st [] (List.range px.no) [] (Y3 (Je px.no)) x).H.length=_;rw[Q4.Us,Qaa,U3,Uj];simp[Y3,Je]
theorem Zey{M:Qc}{ρ:Env}{v:Value}{l:List SV}(h:Qe M ρ v (Zw l)):∃vs:List Value,Yu M ρ vs l∧∀(M2:Qc) (ρ2:Env) (l2:List SV),l2.length=l.length→Yu M2 ρ2 vs l2→Qe M2 ρ2 v (Zw l2):=by
 match l,h with
 |[x],h=>
  refine⟨[v],⟨rfl,fun i u y hu hy=>?_⟩,fun M2 ρ2 l2 hl hr=>?_⟩
  ·cases i with
   |zero=>simp at hu hy;subst hu;subst hy;exact h
   |succ i=>simp at hu
  ·match l2,hl,hr with
   |[y],_,hr=>exact hr.2 0 v y rfl rfl
 |[],h=>
  have h:Qe M ρ v (.tup []):=h;cases h with
  |tup cs _ hl hr=>
   refine⟨cs.toList,⟨by simpa using hl,fun i u y hu hy=>by simp at hy⟩,fun M2 ρ2 l2 hl2 hr2=>?_⟩;match l2,hl2 with
   |[],_=>exact .tup cs _ hl fun i v x hv hx=>by simp at hx
 |a::b::l,h=>
  have h:Qe M ρ v (.tup (a::b::l)):=h;cases h with
  |tup cs _ hl hr=>
   refine⟨cs.toList,⟨by simpa using hl,fun i u y hu hy=>hr i u y (by rw[←Array.getElem?_toList];exact hu) hy⟩,fun M2 ρ2 l2 hl2 hr2=>?_⟩;match l2,hl2,hr2 with
   |x::y::l2,hl2,hr2=>exact .tup cs _ (by rw[hl,hl2]) fun i v z hv hz=>hr2.2 i v z (by rw[Array.getElem?_toList];exact hv) hz
theorem X8.Qi{cx:Cx}(hcx:cx.Ok){lx:Lx}(hlx:lx.Ok cx){n g:Nat}{an:Ze}{fn:Func}{c:Code}{px:PX}(hf:cx.fns.lookup g=some fn)(hb:fn.body=some c)
  (hcode:∀x y,px.code x=some y→Qe8 cx lx n an fn c px x=some y) (hn:Nat.ble px.np fn.ntmps=true) (hcov:(px.ω.J3 px.ids&&subset px.mv px.ids)=true):X8 cx g px:=by
 rw[Bool.and_eq_true]at hcov;refine⟨⟨fn,hf⟩,fun x y hy=>?_⟩;have hw:=(Qcg hcx hlx n).1 _ _ (Zy.eqv_ok px.ω.cells) none an true fn.ntmps c _ _ y (fun _=>rfl) (hcode x y hy);have hcall:Z2 cx.P g (px.args x) (px.objs x) fun r H' t f=>∃l,r=Zw l∧l.length=px.nr∧Ue px.ω [] px.ids px.mv px.no {T:=Kb (.full 8) 0 l,H:=H',n0:=px.no,tch:=t,fg:=f,marks:=[],er:=[]}=some y:=by refine Qcv hcx hf hb (by rw[show(px.args x).length=px.np from Qna _ _];exact Nat.le_of_ble_eq_true hn) (hw.mono fun e s hs=>?_);obtain⟨h1,h1',H',h2,h3⟩:=Zlv hs;exact⟨h1,h1'.imp (fun h=>by rw[px.Qf8];exact h) id,H',h2,Wg _ _ _ (fun l h4=>⟨l,rfl,h4⟩) h3⟩
 intro M ρ w vs hm hr;refine(hcall M ρ w vs hm hr).mono ?_
 rintro e w' ⟨v,r,H',M',ρ',t,f,he,⟨l,rfl,hl,hrd⟩,hs,hm',hfr⟩
 obtain⟨us,hus,hback⟩:=Zey hs;obtain⟨r1,c',hc,r2⟩:=Qkm hrd;have hno:px.no≤H'.length:=by simp only[St.reads,Bool.and_eq_true]at r1;exact Nat.le_of_ble_eq_true r1.2.2.2.2
 have hg:=Qyl (n:=px.no) (tch:=t) (fg:=f) hm' hus hno;have hbl:(Y3 (px.objs x)).H.length=px.no:=px.Qf8 x;obtain⟨M2,ρ2,g1,g2,_,_⟩:=Vi (τ:=px.ω) (D:=[]) (ids:=px.ids) (mv:=px.mv) (b:=Y3 (px.objs x)) (H0:=px.objs x) (M0:=M) (ρ0:=ρ) (a0:=W9 us) (w0:=w) (fun _ _=>rfl) (Zgr hm _ _ _) hm hg
  (by rw[hbl];rw[px.Qf8]at hfr;exact hfr) hcov.2 hcov.1 (by rw[hbl];exact r1) (by rw[hbl];exact r2) hc
 rw[hbl]at g2;have hus2:us.length=px.nr:=by rw[hus.1,hl]
 refine⟨v,_,_,M2,ρ2,px.ids,px.mv,he,⟨rfl,rfl,fun i h=>h,fun i h=>h⟩,hback M2 ρ2 _ (by rw[hl];exact Qna _ _) (Qy3 g1 hus2),g1.mem,?_⟩;rw[px.Qf8];exact g2
structure PF where
 ats:List Qk
 ty:Nat
 row:List Ty
 code:Q8 ats→Option (List (Els row))
structure Kf (cx:Cx) (g:Nat) (pf:PF):Prop where
 fn:∃fn,cx.fns.lookup g=some fn
 ok:∀a l,pf.code a=some l→Z2 cx.P g (Zh pf.ats a) [] fun r H' t f=>r=.sl 0 pf.row.length 0 l.length∧H'=[.tvec pf.ty pf.row l]∧t=[]∧f=[]
def PF.sm(pf:PF):Sm where
 pre:=fun args H=>(rdL [] 0 pf.ats args).isSome
 run:=fun X args H k=>match rdL [] 0 pf.ats args with
  |some p=>gd p.1 (match pf.code p.2 with
   |some l=>k (.sl H.length pf.row.length 0 l.length) (H++[.tvec pf.ty pf.row l]) [] []
   |none=>none)
  |none=>none
theorem PF.Q2{cx:Cx}{g:Nat}{pf:PF}(h:Kf cx g pf):Yr cx g pf.sm:=by
 refine⟨h.fn,fun X args H k y hk=>?_⟩;have hk:(match rdL [] 0 pf.ats args with
  |some p=>gd p.1 (match pf.code p.2 with
   |some l=>k (.sl H.length pf.row.length 0 l.length) (H++[.tvec pf.ty pf.row l]) [] []
   |none=>none)
  |none=>none)=some y:=hk
 split at hk
 ·rename_i p hrd;obtain⟨hc,hk⟩:=Zg hk;split at hk
  ·rename_i z hz;intro M ρ w vs hm hr;obtain⟨l1,l2⟩:=Qvw (M:=M) (ρ:=ρ) (ρ2:=Yn) pf.ats args p.1 p.2 hrd hc;refine(h.ok p.2 z hz M Yn w vs (Kq hm.imm) ⟨by rw[hr.1,l1],fun i v x hv hx=>?_⟩).mono ?_
   ·obtain⟨x',hx'⟩:∃x',args[i]? =some x':=by
     have:i<args.length:=by rw[←l1];exact(List.getElem?_eq_some_iff.1 hx).1
     exact⟨_,List.getElem?_eq_getElem this⟩
    exact l2 i v x x' hx hx' (hr.2 i v x' hv hx')
   ·rintro e w' ⟨v,r,H',M',ρ',t,f,he,⟨rfl,rfl,rfl,rfl⟩,hs,hm',hf⟩
    have hsame:∀b,b<w.heap.size→w'.heap[b]? =w.heap[b]? :=fun b hb=>hf.same b hb X4;have hnewb:∀q b,ρ' 0=some q→q.has b→w.heap.size≤b:=fun q b hq hb=>by
     rcases hf.own b ⟨0,_,q,rfl,rfl,hq,hb⟩with h1|h1
     ·exact h1
     ·exact absurd h1 X4
    have hle:ρ.le (ρ.set H.length (ρ' 0)):=fun s p hp=>by
     have:s≠H.length:=fun e=>by subst e;rw[hm.fresh _ (Nat.le_refl _)]at hp;cases hp
     rw[Env.Zu _ _ this];exact hp
    have hobj:∀s o,(H++[Qa.tvec pf.ty pf.row z])[s]? =some o→(s<H.length∧H[s]? =some o)∨(s=H.length∧o=.tvec pf.ty pf.row z):=fun s o ho=>by
     rw[List.getElem?_append]at ho;split at ho
     ·exact .inl ⟨by assumption,ho⟩
     ·rename_i hlt;have:s-H.length=0:=by have:=(List.getElem?_eq_some_iff.1 ho).1;simp at this;omega
      rw[this]at ho;simp at ho;exact .inr ⟨by omega,ho.symm⟩
    have hset:∀s,s<H.length→(ρ.set H.length (ρ' 0)) s=ρ s:=fun s hs=>Env.Zu _ _ (by omega);refine⟨v,_,_,M',ρ.set H.length (ρ' 0),[],[],he,hk,?_,?_,?_⟩
    ·generalize z.length=n at hs;cases hs with
     |sl _ _ _ _ c k q hq hkk hcc hnn h6=>exact .sl _ _ _ _ c k q (by rw[Env.set_self];exact hq) hkk hcc hnn h6
     |slz _ _ _ a=>exact .slz _ _ _ _
    ·refine⟨hm'.imm,fun s o ho=>?_,fun s o q b ho hl hq hb=>?_,fun s s1 o o1 q q1 b ho ho1 hl hl1 hq hq1 hb hb'=>?_,fun s hs=>?_,fun s o q b ho hl hq hb=>?_⟩
     ·rcases hobj s o ho with⟨hs,ho⟩|⟨rfl,rfl⟩
      ·by_cases hl:o.live=true
       ·exact(hm.own s o ho).mono hf.imm hle (hset s hs) fun p b hp hb=>hsame _ (hm.Yk ho hl hp hb)
       ·rw[Wu hl];trivial
      ·have h0:=hm'.own 0 _ rfl;rcases h0 with⟨h1,h2⟩|⟨q,h1,h2⟩
       ·exact .inl ⟨by rw[Env.set_self];exact h1,h2⟩
       ·refine .inr ⟨q,by rw[Env.set_self];exact h1,?_⟩;obtain⟨cs,a1,a2,a3,a4,a5,a6⟩:=h2.ex;refine⟨cs,a1,a2,a3,a4,fun i j x v hx hv=>?_,a6⟩;obtain⟨b1,b2,b3⟩:=a5 i j x v hx hv;refine⟨b1,b2,?_⟩;unfold Zj at hx;simp only[Option.map_eq_some_iff]at hx;obtain⟨pp,_,rfl⟩:=hx;cases b3 with
        |pv b3=>exact .pv b3
     ·rcases hobj s o ho with⟨hs,ho⟩|⟨rfl,rfl⟩
      ·rw[hset s hs]at hq;cases e:M' b with
       |none=>rfl
       |some ob=>
        rcases hf.new b ob (hm.seps s o q b ho hl hq hb) e with h1|h1
        ·have:=hm.Yk ho hl hq hb;omega
        ·exact absurd h1 X4
      ·rw[Env.set_self]at hq;exact hm'.seps 0 _ q b rfl rfl hq hb
     ·rcases hobj s o ho with⟨hs,ho⟩|⟨rfl,rfl⟩<;>rcases hobj s1 o1 ho1 with⟨hs1,ho1⟩|⟨rfl,rfl⟩
      ·rw[hset s hs]at hq;rw[hset s1 hs1]at hq1;exact hm.diss s s1 o o1 q q1 b ho ho1 hl hl1 hq hq1 hb hb'
      ·rw[hset s hs]at hq;rw[Env.set_self]at hq1;have h1:=hm.Yk ho hl hq hb;have h2:=hnewb q1 b hq1 hb';omega
      ·rw[Env.set_self]at hq;rw[hset s1 hs1]at hq1;have h1:=hm.Yk ho1 hl1 hq1 hb';have h2:=hnewb q b hq hb;omega
      ·rfl
     ·have hs':H.length+1≤s:=by simpa using hs
      rw[Env.Zu _ _ (by omega)];exact hm.fresh s (by omega)
     ·rcases hobj s o ho with⟨hs,ho⟩|⟨rfl,rfl⟩
      ·rw[hset s hs]at hq;exact Nat.lt_of_lt_of_le (hm.lts s o q b ho hl hq hb) hf.grow
      ·rw[Env.set_self]at hq;exact hm'.lts 0 _ q b rfl rfl hq hb
    ·refine⟨hf.imm,fun b o a c=>(hf.new b o a c).imp id fun h=>absurd h X4,fun b hb=>?_,fun b hb _=>hsame b hb,hf.grow,fun s o hs _ ho hl=>⟨⟨o,by rw[List.getElem?_append_left hs];exact ho,hl⟩,fun p hp=>⟨hle s p hp,fun b hb=>hsame _ (hm.Yk ho hl hp hb)⟩⟩,fun s hs _=>hset s hs,hf.io⟩;obtain⟨s,o,q,h1,h2,h3,h4⟩:=hb;rcases hobj s o h1 with⟨hs,ho⟩|⟨rfl,rfl⟩
     ·rw[hset s hs]at h3;exact .inr ⟨s,o,q,ho,h2,h3,h4⟩
     ·rw[Env.set_self]at h3;exact .inl (hnewb q b h3 h4)
  ·cases hk
 ·cases hk
def Qho(ty:Nat)(row:List Ty)(H:List Qa)(r:SV):Option (List (Els row)):=match r with
 |.pv (.lit (.slice none 0 0))=>some []
 |.sl k sz 0 n=>match H[k]? with
  |some (.tvec ty' row' l)=>match Nat.beq ty' ty&&Nat.beq sz row.length with
   |true=>match X7 row' row l with
    |some l=>gd (decide (n=l.length)) (some l)
    |none=>none
   |false=>none
  |_=>none
 |_=>none
def Qmf(ty:Nat)(row:List Ty)(H:List Qa):List SV→Option (List (Els row))
 |[r]=>Qho ty row H r
 |_=>none
def Zgu(cx:Cx)(fn:Func)(ty:Nat)(row:List Ty):KX (List (Els row)):=fun e s=>
 gd (U7 e) (match shut s.marks s.H with
  |none=>none
  |some H'=>Vd cx {s with H:=H',marks:=[]} fn.results.toList fun l=>Qmf ty row H' l)
def codeF(cx:Cx)(lx:Lx)(n:Nat)(an:Ze)(fn:Func)(c:Code)(ats:List Qk)(ty:Nat)(row:List Ty)(a:Q8 ats):Option (List (Els row)):=
 Yo cx lx n (List (Els row)) (listEq (Els.eqv row)) an true fn.ntmps c (.entry (Zh ats a) []) (Zgu cx fn ty row)
theorem Kf.Qi{cx:Cx}(hcx:cx.Ok){lx:Lx}(hlx:lx.Ok cx){n g:Nat}{an:Ze}{fn:Func}{c:Code}{pf:PF}(hf:cx.fns.lookup g=some fn)(hb:fn.body=some c)
  (hcode:∀a y,pf.code a=some y→codeF cx lx n an fn c pf.ats pf.ty pf.row a=some y) (hn:Nat.ble pf.ats.length fn.ntmps=true):Kf cx g pf:=by
 refine⟨⟨fn,hf⟩,fun a y hy=>?_⟩;have hlen:∀(l:List Qk) (x:Q8 l),(Zh l x).length=l.length:=by
  intro l;induction l with
  |nil=>intro _;rfl
  |cons a l ih=>
   cases l with
   |nil=>intro _;rfl
   |cons b l=>intro x;simp only[Zh,List.length_cons,ih x.2]
 have hw:=(Qcg hcx hlx n).1 _ _ (V9 (Els.eqv_ok pf.row)) none an true fn.ntmps c _ _ y (fun _=>rfl) (hcode a y hy);have hcall:Z2 cx.P g (Zh pf.ats a) [] fun r H' t f=>∃l,r=Zw l∧Qmf pf.ty pf.row H' l=some y:=by
  refine Qcv hcx hf hb (by rw[hlen];exact Nat.le_of_ble_eq_true hn) (hw.mono fun e s hs=>?_);obtain⟨h1,h⟩:=Zg hs;split at h
  ·cases h
  ·rename_i H' hsh;exact⟨Qbz h1,.inl (Nat.zero_le _),H',hsh,Wg _ _ _ (fun l h4=>⟨l,rfl,h4⟩) (Vv _ _ h)⟩
 intro M ρ w vs hm hr;refine(hcall M ρ w vs hm hr).mono ?_
 rintro e w' ⟨v,r,H',M',ρ',t,f,he,⟨l,rfl,hrd⟩,hs,hm',hfr⟩
 obtain⟨x,rfl⟩:∃x,l=[x]:=by
  unfold Qmf at hrd;split at hrd
  ·exact⟨_,rfl⟩
  ·cases hrd
 replace hs:Qe M' ρ' v x:=hs;replace hrd:Qho pf.ty pf.row H' x=some y:=hrd;have key:∃q:Option Place,Qe M' (fun s=>bif Nat.beq s 0 then q else none) v (.sl 0 pf.row.length 0 y.length)∧Qy M' (fun s=>bif Nat.beq s 0 then q else none) w' 0 (.tvec pf.ty pf.row y)∧
   (∀p,q=some p→p.subs=[]∧M' p.block=none∧(w.heap.size≤p.block∨Yz ρ [] p.block)):=by
  unfold Qho at hrd;split at hrd
  ·cases hrd;have:=hs.Q1;subst this;exact⟨none,.slz _ _ _ _,.inl ⟨rfl,rfl⟩,fun p h=>by cases h⟩
  ·rename_i k sz n;split at hrd
   ·rename_i ty' row' l0 ho;split at hrd
    ·rename_i hc;rw[Bool.and_eq_true]at hc;have e1:=Nat.eq_of_beq_eq_true hc.1;have e2:=Nat.eq_of_beq_eq_true hc.2;subst e1;subst e2;split at hrd
     ·rename_i l1 hcast;obtain⟨hn2,hrd⟩:=Zg hrd;have hn2:=of_decide_eq_true hn2;have hrd:=Option.some.inj hrd;subst hrd;obtain⟨e3,e4⟩:=Wk hcast;subst e3;have e4:l1=l0:=e4;subst e4;subst hn2;have hown:=hm'.own k _ ho;refine⟨(ρ' k).map fun p=>⟨p.block,p.cap,[]⟩,?_,?_,fun p hp=>by obtain⟨p0,hp0,rfl⟩:=Option.map_eq_some_iff.1 hp;exact⟨rfl,hm'.sep k _ p0 ho rfl hp0,hfr.own p0.block ⟨k,_,p0,ho,rfl,hp0,p0.self⟩⟩⟩
      ·generalize l1.length=m at hs;cases hs with
       |sl _ _ _ _ c k2 q hq hkk hcc hnn h6=>exact .sl _ _ _ _ c k2 ⟨q.block,q.cap,[]⟩ (by show(ρ' k).map _=_;rw[hq];rfl) hkk hcc hnn h6
       |slz _ _ _ a=>exact .slz _ _ _ _
      ·rcases hown with⟨h1,h2⟩|⟨q,h1,h2⟩
       ·exact .inl ⟨by show(ρ' k).map _=_;rw[h1];rfl,h2⟩
       ·refine .inr ⟨⟨q.block,q.cap,[]⟩,by show(ρ' k).map _=_;rw[h1];rfl,?_⟩;obtain⟨cs,a1,a2,a3,a4,a5,a6⟩:=h2.ex;refine⟨cs,a1,a2,a3,a4,fun i j x v hx hv=>?_,a6⟩;obtain⟨b1,b2,b3⟩:=a5 i j x v hx hv;refine⟨b1,b2,?_⟩;unfold Zj at hx;simp only[Option.map_eq_some_iff]at hx;obtain⟨pp,_,rfl⟩:=hx;cases b3 with
        |pv b3=>exact .pv b3
     ·cases hrd
    ·cases hrd
   ·cases hrd
  ·cases hrd
 obtain⟨q,k1,k2,k3⟩:=key;have hone:∀(s:Nat) (o:Qa),([Qa.tvec pf.ty pf.row y]:List Qa)[s]? =some o→s=0∧o=.tvec pf.ty pf.row y:=fun s o h=>by
  match s,h with
  |0,h=>simp at h;exact⟨rfl,h.symm⟩
  |s+1,h=>simp at h
 refine⟨v,_,_,M',fun s=>bif Nat.beq s 0 then q else none,[],[],he,⟨rfl,rfl,rfl,rfl⟩,k1,?_,?_⟩
 ·refine⟨hm'.imm,fun s o ho=>?_,fun s o p b ho hl hp hb=>?_,fun s s1 o o1 p p1 b ho ho1 _ _ _ _ _ _=>?_,fun s hs=>?_,fun s o p b ho hl hp hb=>?_⟩
  ·obtain⟨rfl,rfl⟩:=hone s o ho;exact k2
  ·obtain⟨rfl,rfl⟩:=hone s o ho;obtain⟨e1,e2,e3⟩:=k3 p hp;rcases hb with rfl|hb
   ·exact e2
   ·rw[e1]at hb;cases hb
  ·rw[(hone s o ho).1,(hone s1 o1 ho1).1]
  ·have hs:1≤s:=by simpa using hs
   have:Nat.beq s 0=false:=Xo (by omega);simp only[this,cond_false]
  ·obtain⟨rfl,rfl⟩:=hone s o ho;rw[(k3 p hp).1]at hb;cases hb
 ·refine⟨hfr.imm,hfr.new,fun b hb=>?_,hfr.same,hfr.grow,fun s o hs=>absurd hs (Nat.not_lt_zero s),fun s hs=>absurd hs (Nat.not_lt_zero s),hfr.io⟩;obtain⟨s,o,p,h1,h2,h3,h4⟩:=hb;obtain⟨rfl,rfl⟩:=hone s o h1;obtain⟨e1,e2,e3⟩:=k3 p h3;rcases h4 with rfl|h4
  ·exact e3
  ·rw[e1]at h4;cases h4
def TI.bare(i:TI):TI:={i with row:=none}
def Cx.bare(cx:Cx):Cx:={P:=cx.P,tab:=cx.tab.map fun x=>(x.1,x.2.bare),fns:=cx.fns}
theorem Cx.Qm{cx:Cx}(h:cx.Ok):cx.bare.Ok:=by
 refine⟨⟨?_,?_,?_,?_,?_⟩,h.fns,h.mix⟩
 ·simpa[Cx.bare,List.map_map,Function.comp_def,TI.bare]using h.tab.und
 ·simpa[Cx.bare,List.map_map,Function.comp_def,TI.bare]using h.tab.siz
 ·simpa[Cx.bare,List.map_map,Function.comp_def,TI.bare]using h.tab.byt
 ·simpa[Cx.bare,List.map_map,Function.comp_def,TI.bare]using h.tab.zer
 ·simpa[Cx.bare,List.all_map,Function.comp_def,TI.bare]using h.tab.one
theorem Qw.bare{cx:Cx}{g:Nat}{pc:PC}(h:Qw cx g pc):Qw cx.bare g pc:=⟨h.fn,h.ok⟩
theorem Qw.full{cx:Cx}{g:Nat}{pc:PC}(h:Qw cx.bare g pc):Qw cx g pc:=⟨h.fn,h.ok⟩
theorem X8.bare{cx:Cx}{g:Nat}{px:PX}(h:X8 cx g px):X8 cx.bare g px:=⟨h.fn,h.ok⟩
def PC.at(pc:PC)(a0:Q8 pc.ats)(y0:Q8 pc.rts):PC:={ats:=pc.ats,rts:=pc.rts,code:=fun a=>bif Q8.eqv pc.ats a a0 then some y0 else pc.code a}
theorem Qw.at{cx:Cx}{g:Nat}{pc:PC}(h:Qw cx g pc){a0:Q8 pc.ats}{y0:Q8 pc.rts}(he:pc.code a0=some y0):Qw cx g (pc.at a0 y0):=
 ⟨h.fn,fun a y hy=>by
  have hy:(bif Q8.eqv pc.ats a a0 then some y0 else pc.code a)=some y:=hy;cases e:Q8.eqv pc.ats a a0 with
  |true=>rw[e]at hy;exact h.ok a y (by rw[Q8.eqv_ok _ _ _ e,he];exact hy)
  |false=>rw[e]at hy;exact h.ok a y hy⟩
def one{ats rts:List Qk}(a0:Q8 ats)(y0:Q8 rts)(a:Q8 ats):Option (Q8 rts):=bif Q8.eqv ats a a0 then some y0 else none
theorem one_some{ats rts:List Qk}{a0 a:Q8 ats}{y0 y:Q8 rts}(h:one a0 y0 a=some y):a=a0∧y=y0:=by
 unfold one at h;cases e:Q8.eqv ats a a0 with
 |true=>rw[e]at h;cases h;exact⟨Q8.eqv_ok _ _ _ e,rfl⟩
 |false=>rw[e]at h;cases h
def PC.one(pc:PC)(a0:Q8 pc.ats)(y0:Q8 pc.rts):PC:={ats:=pc.ats,rts:=pc.rts,code:=fun a=>Go.Sx.one a0 y0 a}
theorem Qw.one{cx:Cx}{g:Nat}{pc:PC}(h:Qw cx g pc)(a0:Q8 pc.ats)(y0:Q8 pc.rts)(he:pc.code a0=some y0):Qw cx g (pc.one a0 y0):=
 ⟨h.fn,fun a y hy=>by obtain⟨h1,h2⟩:=one_some (show Go.Sx.one a0 y0 a=some y from hy);rw[h1,h2];exact h.ok _ _ he⟩
end Go.Sx
section
namespace Go.Sx
open Go
open Classical in
noncomputable def Xp(w:World):Qc:=if h:Vy (fun b=>w.heap[b]?)then⟨_,h⟩else Qc.base
theorem Qyi{w:World}(hw:Vy (fun b=>w.heap[b]?))(b:Nat):Xp w b=w.heap[b]? :=by unfold Xp;rw[dif_pos hw]
theorem Ztn{w:World}(hw:Vy (fun b=>w.heap[b]?)){a:Addr}{v:Value}(h:w.cell? a=some v):a.spot=none∧(Xp w).cell a.block a.off=some v:=by
 unfold World.cell? at h;unfold Qc.cell;rw[Qyi hw];split at h
 ·rename_i c t f e;rw[e];split at h
  ·cases h
  ·rename_i hs;exact⟨by cases hh:a.spot<;>simp_all,h⟩
 ·cases h
def Zk3:IntKind→Nat
 |.i8=>1
 |.u8=>1
 |.i16=>2
 |.u16=>2
 |.i32=>4
 |.u32=>4
 |_=>8
def Ty.bytes:Ty→Nat
 |.int k=>Zk3 k
 |.bool=>1
 |.str=>16
 |.seq _=>24
def Qld:List Ty→Nat
 |[]=>0
 |t::ts=>t.bytes+Qld ts
def Qtz:List Ty→Bool
 |[]=>false
 |t::ts=>Nat.ble 8 t.bytes||Qtz ts
def Qjt(r:List Ty):Nat:=bif Qtz r then(Qld r+7)/8*8 else Qld r
def Zje(k:IntKind)(n:Int):Prop:=k.min≤n∧n≤k.max
def Qyu(s:ByteArray):Prop:=s.size≤140737488351232
def Zet{α:Type}(b:Nat)(f:α→Prop)(l:List α):Prop:=l.length*b≤140737488351232∧∀x∈l,f x
mutual
def Ty.ok:(t:Ty)→t.El→Prop
 |.int k=>Zje k
 |.bool=>fun _=>True
 |.str=>Qyu
 |.seq row=>Zet (Qjt row) (Els.ok row)
def Els.ok:(ts:List Ty)→Els ts→Prop
 |[]=>fun _=>True
 |[t]=>t.ok
 |t::t'::ts=>fun x=>t.ok x.1∧Els.ok (t'::ts) x.2
end
def Els.app:(r1 r2:List Ty)→Els r1→Els r2→Els (r1++r2)
 |[],_,_,y=>y
 |[_],[],x,_=>x
 |[_],_::_,x,y=>(x,y)
 |_::t'::ts,r2,x,y=>(x.1,Els.app (t'::ts) r2 x.2 y)
theorem Qx7:∀(r1 r2:List Ty) (x:Els r1) (y:Els r2),Q3 (r1++r2) (Els.app r1 r2 x y)=Q3 r1 x++Q3 r2 y
 |[],_,_,_=>rfl
 |[_],[],x,_=>rfl
 |[_],_::_,x,y=>rfl
 |t::t'::ts,r2,x,y=>by have:=Qx7 (t'::ts) r2 x.2 y;show t.pv x.1::Q3 (t'::ts++r2) (Els.app (t'::ts) r2 x.2 y)=t.pv x.1::(Q3 (t'::ts) x.2++Q3 r2 y);rw[this]
theorem Qws:∀(r1 r2:List Ty) (x:Els r1) (y:Els r2),Els.ok r1 x→Els.ok r2 y→Els.ok (r1++r2) (Els.app r1 r2 x y)
 |[],_,_,_,_,h=>h
 |[_],[],x,_,h,_=>h
 |[t],t'::ts,x,y,h,k=>by exact⟨h,k⟩
 |t::t'::ts,r2,x,y,h,k=>by exact⟨h.1,Qws (t'::ts) r2 x.2 y h.2 k⟩
structure Ys (w:World) (cs:List Value) (row:List Ty) (x:Els row):Prop where
 len:cs.length=row.length
 one:∀v∈cs,Xd v=true
 rep:∀(j:Nat) (v:Value) (p:PV),cs[j]? =some v→(Q3 row x)[j]? =some p→Q6 (Xp w) v p
 ok:Els.ok row x
theorem Ys.nil(w:World):Ys w [] [] ():=⟨rfl,fun v h=>(by cases h),fun j v p h=>(by simp at h),trivial⟩
theorem Ys.single{w:World}{v:Value}{t:Ty}{x:t.El}(h1:Xd v=true)(h2:Q6 (Xp w) v (t.pv x))(h3:t.ok x):Ys w [v] [t] x:=by
 refine⟨rfl,fun u hu=>?_,fun j u p hu hp=>?_,h3⟩
 ·rw[List.mem_singleton]at hu;rw[hu];exact h1
 ·cases j with
  |zero=>simp only[List.getElem?_cons_zero,Option.some.injEq]at hu;simp only[Q3,List.getElem?_cons_zero,Option.some.injEq]at hp;subst hu;subst hp;exact h2
  |succ j=>simp at hu
theorem Ys.app{w:World}{c1 c2:List Value}{r1 r2:List Ty}{x:Els r1}{y:Els r2}(h:Ys w c1 r1 x)(k:Ys w c2 r2 y):Ys w (c1++c2) (r1++r2) (Els.app r1 r2 x y):=by
 refine⟨by simp[h.len,k.len],fun v hv=>?_,fun j v p hv hp=>?_,Qws _ _ _ _ h.ok k.ok⟩
 ·rcases List.mem_append.1 hv with hv|hv
  ·exact h.one v hv
  ·exact k.one v hv
 ·rw[Qx7]at hp;rw[List.getElem?_append]at hv hp;rw[Xw,←h.len]at hp;split at hv
  ·rename_i hj;rw[if_pos hj]at hp;exact h.rep j v p hv hp
  ·rename_i hj;rw[if_neg hj]at hp;exact k.rep _ v p hv hp
def Qb0(P:Program)(k:TypeId→Option (List Ty)):List Field→Nat→Option (List Ty)
 |[],_=>some []
 |f::fs,off=>match decide (f.offset=off)with
  |false=>none
  |true=>match k f.type with
   |none=>none
   |some r=>match decide (r.length=P.cellsOf f.type)with
    |false=>none
    |true=>match Qb0 P k fs (off+r.length)with
     |none=>none
     |some rs=>some (r++rs)
def U1(r:List Ty):Nat→List Ty
 |0=>[]
 |n+1=>r++U1 r n
def Wv(P:Program):Nat→TypeId→Option (List Ty)
 |0,_=>none
 |n+1,t=>match P.underlying t with
  |some .bool=>some [.bool]
  |some (.int k)=>some [.int k]
  |some .string=>some [.str]
  |some (.slice e)=>match Wv P n e with
   |none=>none
   |some r=>match decide (r.length=P.cellsOf e)&&(decide (0<r.length)&&decide (Qjt r≤P.bytesOf e))with
    |true=>some [.seq r]
    |false=>none
  |some (.struct fs)=>match Qb0 P (Wv P n) fs.toList 0 with
   |none=>none
   |some r=>match decide (r.length=P.cellsOf t)with
    |true=>some r
    |false=>none
  |some (.array m e)=>match Wv P n e with
   |none=>none
   |some r=>match decide (r.length=P.cellsOf e)&&decide (m*r.length=P.cellsOf t)with
    |true=>some (U1 r m)
    |false=>none
  |_=>none
theorem mapM_some{α β:Type}{f:α→Option β}:∀{l:List α} {r:List β},l.mapM f=some r→r.length=l.length∧∀(i:Nat) (x:α),l[i]? =some x→∃y,r[i]? =some y∧f x=some y
 |[],r,h=>by simp at h;subst h;simp
 |a::l,r,h=>by
  rw[List.mapM_cons]at h;cases ha:f a with
  |none=>rw[ha]at h;cases h
  |some b=>
   cases hl:l.mapM f with
   |none=>rw[ha,hl]at h;cases h
   |some bs=>
    rw[ha,hl]at h;cases h;obtain⟨g1,g2⟩:=mapM_some hl;refine⟨by simp[g1],fun i x hx=>?_⟩;cases i with
    |zero=>simp at hx;subst hx;exact⟨b,rfl,ha⟩
    |succ i=>simp at hx;simpa using g2 i x hx
theorem Zqg{w:World}{a:Addr}{n:Nat}{cs:List Value}(h:w.cells? 0 a n=some cs):cs.length=n∧∀j,j<n→∃v,cs[j]? =some v∧w.cell? (a.add j)=some v:=by unfold World.cells? at h;rw[if_pos (Nat.zero_le _)]at h;obtain⟨h1,h2⟩:=mapM_some h;exact⟨by simpa using h1,fun j hj=>h2 j j (by simp[hj])⟩
end Go.Sx
end
section
namespace Go.Sx
open Go
variable {H:Type} {enc:TypeId×Value→H} {P:Program} {w:World} {sp:Nat→Bool} {held:Bool}
theorem Qzd{α:Type}{Q:Nat→α→Prop}:∀(n:Nat),(∀i,i<n→∃x,Q i x)→∃l:List α,l.length=n∧∀(i:Nat) (x:α),l[i]? =some x→Q i x
 |0,_=>⟨[],rfl,fun i x h=>by simp at h⟩
 |n+1,h=>by
  obtain⟨l,h1,h2⟩:=Qzd n fun i hi=>h i (by omega);obtain⟨x,hx⟩:=h n (by omega);refine⟨l++[x],by simp[h1],fun i y hy=>?_⟩;rw[List.getElem?_append]at hy;split at hy
  ·exact h2 i y hy
  ·rename_i hi;have:i=n:=by have:=(List.getElem?_eq_some_iff.1 hy).1;simp at this;omega
   subst this;simp[h1]at hy;rw[←hy];exact hx
theorem Qlf{e:TypeId}:∀{l:List (DataW H)} {d:DataW H} {x:Nat},d∈l→x∈d.weights P e→x∈DataW.weightsAll P e l
 |[],d,x,h,_=>by cases h
 |y::l,d,x,h,hx=>by
  simp only[DataW.weightsAll,List.mem_append];rcases List.mem_cons.1 h with rfl|h
  ·exact .inl hx
  ·exact .inr (Qlf h hx)
theorem Qt6(a:Addr)(n:Nat):(a.add n).block=a.block:=by unfold Addr.add;split<;>rfl
theorem Qx2(a:Addr)(n:Nat):(a.add n).off=a.off+n:=by
 unfold Addr.add;split
 ·rename_i h;subst h;rfl
 ·rfl
theorem Qv0{cs:List Value}{fuel:Nat}{k:TypeId→Option (List Ty)}
  (ih:∀(t:TypeId) (cs:List Value) (d:DataW H) (ps:List MemPlace) (row:List Ty),DataW.trod enc P w 0 sp held fuel t cs=some (d,ps)→k t=some row→(∀x∈d.weights P t,x≤reachBytes)→∃x:Els row,Ys w cs row x):
  ∀(fs:List Field) (off:Nat) (row:List Ty) (xs:List (DataW H×List MemPlace)),
   fs.mapM (fun f=>DataW.trod enc P w 0 sp held fuel f.type ((cs.drop f.offset).take (P.cellsOf f.type)))=some xs→Qb0 P k fs off=some row→
   (∀x∈DataW.weightsEach P (fs.map (·.type)) (xs.map (·.1)),x≤reachBytes)→∃x:Els row,Ys w ((cs.drop off).take row.length) row x
 |[],off,row,xs,h,hr,hw=>by simp only[Qb0,Option.some.injEq]at hr;subst hr;exact⟨(),by simpa using Ys.nil w⟩
 |f::fs,off,row,xs,h,hr,hw=>by
  simp only[Qb0]at hr;split at hr
  ·cases hr
  ·rename_i e1;split at hr
   ·cases hr
   ·rename_i r e2;split at hr
    ·cases hr
    ·rename_i e3;split at hr
     ·cases hr
     ·rename_i rs e4;cases hr;have e1:=of_decide_eq_true e1;have e3:=of_decide_eq_true e3;rw[List.mapM_cons]at h;cases hf:DataW.trod enc P w 0 sp held fuel f.type ((cs.drop f.offset).take (P.cellsOf f.type))with
      |none=>rw[hf]at h;cases h
      |some p=>
       cases hl:fs.mapM (fun f=>DataW.trod enc P w 0 sp held fuel f.type ((cs.drop f.offset).take (P.cellsOf f.type)))with
       |none=>rw[hf,hl]at h;cases h
       |some ps=>rw[hf,hl]at h;cases h;simp only[List.map_cons,DataW.weightsEach,List.mem_append]at hw;obtain⟨x,hx⟩:=ih f.type _ p.1 p.2 r hf e2 fun y hy=>hw y (.inl hy);obtain⟨y,hy⟩:=Qv0 ih fs (off+r.length) rs ps hl e4 fun y hy=>hw y (.inr hy);refine⟨Els.app r rs x y,?_⟩;have:=hx.app hy;rw[e1,←e3]at this;rw[List.length_append,List.take_add,List.drop_drop];exact this
theorem Qy1{cs:List Value}{r:List Ty}{m:Nat}(h:∀i,i<m→∃x:Els r,Ys w ((cs.drop (i*r.length)).take r.length) r x):
  ∀k,k≤m→∃x:Els (U1 r k),Ys w ((cs.drop ((m-k)*r.length)).take (k*r.length)) (U1 r k) x
 |0,_=>⟨(show Els (U1 r 0)from()),by show Ys w ((cs.drop _).take (0*r.length)) [] ();rw[Nat.zero_mul,List.take_zero];exact Ys.nil w⟩
 |k+1,hk=>by
  obtain⟨y,hy⟩:=Qy1 h k (by omega);obtain⟨x,hx⟩:=h (m-(k+1)) (by omega);refine⟨Els.app r (U1 r k) x y,?_⟩;have:=hx.app hy;have e:(m-k)*r.length=(m-(k+1))*r.length+r.length:=by rw[show m-k=m-(k+1)+1 by omega,Nat.succ_mul]
  rw[e,←List.drop_drop]at this;rw[show(k+1)*r.length=r.length+k*r.length by rw[Nat.succ_mul];omega,List.take_add];exact this
variable (hL:Vy (fun b=>w.heap[b]?))
include hL
theorem Znw{r:List Ty}{c cap:Nat}{a:Addr}{n:Nat}(hc:r.length=c)(h0:0<r.length)(hn:n≤cap)(l:List (Els r))(hl:l.length=n)
  (h:∀(i:Nat) (x:Els r),l[i]? =some x→∃cs,w.cells? 0 (a.add (i*c)) c=some cs∧Ys w cs r x):Q6 (Xp w) (.slice (some a) n cap) (.tsl r l):=by
 refine .tsl r l ?_;by_cases hz:n=0
 ·subst hz;have:l=[]:=List.eq_nil_of_length_eq_zero hl;subst this;exact .remp a cap _
 ·have cell:∀(i j:Nat) (x:Els r),l[i]? =some x→j<c→∃v,(Xp w).cell a.block (a.off+i*c+j)=some v∧Xd v=true∧a.add (i*c)=a.add (i*c)∧(∀p,(Q3 r x)[j]? =some p→Q6 (Xp w) v p)∧((a.add (i*c)).add j).spot=none:=fun i j x hx hj=>by obtain⟨cs,h1,h2⟩:=h i x hx;obtain⟨g1,g2⟩:=Zqg h1;obtain⟨v,hv,hcell⟩:=g2 j hj;obtain⟨k1,k2⟩:=Ztn hL hcell;rw[Qt6,Qt6,Qx2,Qx2]at k2;exact⟨v,k2,h2.one v (List.mem_of_getElem? hv),rfl,fun p hp=>h2.rep j v p hv hp,k1⟩
  have hspot:a.spot=none:=by obtain⟨x,hx⟩:∃x,l[0]? =some x:=⟨l[0]'(by omega),by simp⟩;obtain⟨v,_,_,_,_,k⟩:=cell 0 0 x hx (by omega);simpa[Addr.add]using k
  obtain⟨b,off,s⟩:=a;cases hspot;refine .rsl b off cap r.length n (Qu r l) (by simp[hl]) hn (fun i j hi hj=>?_) (fun i row j p v hrow hp hv=>?_) (fun i row hrow=>?_)
  ·obtain⟨x,hx⟩:∃x,l[i]? =some x:=⟨l[i]'(by simpa using hi),by simp⟩;obtain⟨v,k1,k2,_⟩:=cell i j x hx (by omega);rw[←hc]at k1;exact⟨v,k1,k2⟩
  ·simp only[List.getElem?_map,Option.map_eq_some_iff]at hrow;obtain⟨x,hx,rfl⟩:=hrow;have hj:j<c:=by have:=(List.getElem?_eq_some_iff.1 hp).1;rw[Xw]at this;omega
   obtain⟨v',k1,k2,_,k3,_⟩:=cell i j x hx hj;rw[←hc]at k1;rw[k1]at hv;cases hv;exact k3 p hp
  ·simp only[List.getElem?_map,Option.map_eq_some_iff]at hrow;obtain⟨x,hx,rfl⟩:=hrow;rw[Xw];exact Nat.le_refl _
theorem Qd2:∀(fuel n:Nat) (t:TypeId) (cs:List Value) (d:DataW H) (ps:List MemPlace) (row:List Ty),DataW.trod enc P w 0 sp held fuel t cs=some (d,ps)→Wv P n t=some row→
  (∀x∈d.weights P t,x≤reachBytes)→∃x:Els row,Ys w cs row x
 |0,n,t,cs,d,ps,row,h,hr,hw=>by simp[DataW.trod]at h
 |fuel+1,0,t,cs,d,ps,row,h,hr,hw=>by simp[Wv]at hr
 |fuel+1,n+1,t,cs,d,ps,row,h,hr,hw=>by
  have ih:=Qd2 fuel n;unfold Wv at hr;split at hr
  ·rename_i hu;cases hr;obtain⟨b,rfl,rfl⟩:∃b,cs=[.bool b]∧d=.lit (.bool b):=by unfold DataW.trod at h;rw[hu]at h;split at h<;>first|(cases h;done)|(rename_i heq;cases heq;done)|(cases h;exact⟨_,rfl,rfl⟩)
   exact⟨b,.single rfl (.lit _) trivial⟩
  ·rename_i k hu;cases hr;obtain⟨v,rfl,hv⟩:∃v:Int,cs=[.int k v]∧(k.min≤v∧v≤k.max):=by
    unfold DataW.trod at h;rw[hu]at h;split at h<;>first|(cases h;done)|(rename_i heq;cases heq;done)|skip
    ·rename_i heq;cases heq;split at h
     ·rename_i hk;obtain⟨rfl,hwf⟩:=hk;simp only[Lit.wf,Bool.and_eq_true,decide_eq_true_eq]at hwf;exact⟨_,rfl,hwf⟩
     ·cases h
   exact⟨v,.single rfl (.lit _) hv⟩
  ·rename_i hu;cases hr;obtain⟨b,rfl,rfl⟩:∃b,cs=[.string b]∧d=.lit (.string b.data.toList):=by
    unfold DataW.trod at h;rw[hu]at h;split at h<;>first|(cases h;done)|(rename_i heq;cases heq;done)|skip
    ·split at h
     ·cases h;exact⟨_,rfl,rfl⟩
     ·cases h
   refine⟨b,.single rfl (.lit _) ?_⟩;have:=hw b.data.toList.length (by simp[DataW.weights]);simp only[reachBytes]at this;simpa[Qyu,Ty.ok]using this
  ·rename_i e hu;split at hr
   ·cases hr
   ·rename_i r hrk;split at hr
    ·rename_i hcond;cases hr;simp only[Bool.and_eq_true,decide_eq_true_eq]at hcond;obtain⟨hc,h0,hby⟩:=hcond;have fin:∀(v:Value) (l:List (Els r)),Q6 (Xp w) v (.tsl r l)→Xd v=true→l.length*Qjt r≤140737488351232→(∀x∈l,Els.ok r x)→∃x:Els [.seq r],Ys w [v] [.seq r] x:=
      fun v l hp h1 h2 h3=>⟨l,.single h1 hp ⟨h2,h3⟩⟩
     unfold DataW.trod at h;rw[hu]at h;split at h<;>first|(cases h;done)|(rename_i heq;cases heq;done)|skip
     ·exact fin _ [] (.tsl r [] (.rnil _)) rfl (by simp) (fun x hx=>by cases hx)
     ·rename_i a len cap heq;cases heq;simp only[]at h;split at h
      ·rename_i hlc;obtain⟨elems,he,h⟩:=Option.bind_eq_some_iff.1 h;obtain⟨rest,hre,h⟩:=Option.map_eq_some_iff.1 h;cases h;obtain⟨g1,g2⟩:=mapM_some he;have hwt:∀x∈DataW.weightsAll P e (elems.map (·.1)),x≤reachBytes:=fun x hx=>hw x (by simp only[DataW.weights,hu,List.mem_cons,List.mem_append];exact .inr (.inl hx));have hlen:elems.length=len:=by simpa using g1
       have elt:∀i,i<len→∃x:Els r,∃cs,w.cells? 0 (a.add (i*P.cellsOf e)) (P.cellsOf e)=some cs∧Ys w cs r x:=fun i hi=>by obtain⟨y,hy,hf⟩:=g2 i i (by simp[hi]);obtain⟨cs,h1,h2⟩:=Option.bind_eq_some_iff.1 hf;obtain⟨x,hx⟩:=ih e cs y.1 y.2 r h2 hrk fun z hz=>hwt z (Qlf (List.mem_map.2 ⟨y,List.mem_of_getElem? hy,rfl⟩) hz);exact⟨x,cs,h1,hx⟩
       obtain⟨l,hl,hq⟩:=Qzd len elt;have hbound:=hw ((elems.map (·.1)).length+(rest.map (·.1)).length |> (·*P.bytesOf e)) (by simp only[DataW.weights,hu,List.mem_cons];exact .inl trivial);simp only[List.length_map,reachBytes,hlen]at hbound;refine fin _ l (Znw hL hc h0 hlc.2.1 l hl hq) rfl ?_ (fun x hx=>?_)
       ·rw[hl];refine Nat.le_trans (Nat.mul_le_mul_left _ hby) (Nat.le_trans (Nat.mul_le_mul_right _ (Nat.le_add_right _ _)) hbound)
       ·obtain⟨i,hi⟩:=List.getElem?_of_mem hx;obtain⟨cs,_,hrd⟩:=hq i x hi;exact hrd.ok
      ·cases h
    ·cases hr
  ·rename_i fs hu;split at hr
   ·cases hr
   ·rename_i r hrk;split at hr
    ·rename_i hcond;cases hr;have hcond:=of_decide_eq_true hcond;unfold DataW.trod at h;rw[hu]at h;split at h<;>first|(cases h;done)|(rename_i heq;cases heq;done)|skip
     ·rename_i heq;cases heq;split at h
      ·rename_i hl;obtain⟨xs,hx,h⟩:=Option.map_eq_some_iff.1 h;cases h;obtain⟨x,hrd⟩:=Qv0 ih fs.toList 0 row xs hx hrk fun y hy=>hw y (by simp only[DataW.weights,hu];exact hy);refine⟨x,?_⟩;rw[List.drop_zero,List.take_of_length_le (by omega)]at hrd;exact hrd
      ·cases h
     ·exact(‹∀fs':Array Field,some (TypeDesc.struct fs)=some (TypeDesc.struct fs')→False› fs rfl).elim
    ·cases hr
  ·rename_i m e hu;split at hr
   ·cases hr
   ·rename_i r hrk;split at hr
    ·rename_i hcond;cases hr;simp only[Bool.and_eq_true,decide_eq_true_eq]at hcond;unfold DataW.trod at h;rw[hu]at h;split at h<;>first|(cases h;done)|(rename_i heq;cases heq;done)|skip
     ·rename_i heq;cases heq;split at h
      ·rename_i hl;obtain⟨xs,hx,h⟩:=Option.map_eq_some_iff.1 h;cases h;obtain⟨g1,g2⟩:=mapM_some hx;have hwt:∀x∈DataW.weightsAll P e (xs.map (·.1)),x≤reachBytes:=fun x hx=>hw x (by simp only[DataW.weights,hu];exact hx);obtain⟨x,hrd⟩:=Qy1 (w:=w) (cs:=_) (r:=r) (m:=m) (fun i hi=>by obtain⟨y,hy,hf⟩:=g2 i i (by simp[hi]);rw[←hcond.1]at hf;exact ih e _ y.1 y.2 r hf hrk fun z hz=>hwt z (Qlf (List.mem_map.2 ⟨y,List.mem_of_getElem? hy,rfl⟩) hz)) m (Nat.le_refl _);refine⟨x,?_⟩;rw[Nat.sub_self,Nat.zero_mul,List.drop_zero,List.take_of_length_le (by omega)]at hrd;exact hrd
      ·cases h
     ·exact(‹∀(n:Nat) (e':TypeId),some (TypeDesc.array m e)=some (TypeDesc.array n e')→False› m e rfl).elim
    ·cases hr
  ·cases hr
end Go.Sx
end
section
namespace Go.Sx
open Go
def Qk.ok:(a:Qk)→a.El→Prop
 |.val t=>t.ok
 |.agg row=>Els.ok row
def Q8.ok:(l:List Qk)→Q8 l→Prop
 |[]=>fun _=>True
 |[a]=>a.ok
 |a::a'::l=>fun x=>a.ok x.1∧Q8.ok (a'::l) x.2
def Qne(P:Program)(t:TypeId):Option Qk:=match P.underlying t with
 |some (.struct _)=>match Wv P 12 t with
  |some r=>some (.agg r)
  |none=>none
 |some (.array _ _)=>match Wv P 12 t with
  |some r=>some (.agg r)
  |none=>none
 |some _=>match Wv P 12 t with
  |some [ty]=>some (.val ty)
  |_=>none
 |none=>none
def K7(P:Program):List TypeId→Option (List Qk)
 |[]=>some []
 |t::ts=>match Qne P t with
  |none=>none
  |some a=>match K7 P ts with
   |none=>none
   |some l=>some (a::l)
theorem Qqd{w:World}{cs:List Value}{row:List Ty}{x:Els row}(h:Ys w cs row x):Qe (Xp w) Yn (.agg cs.toArray) (SV.Yd ((Q3 row x).map .pv)):=by refine Qe.Yd (by rw[h.len,List.length_map,Xw]) fun i v y hv hy=>?_;simp only[List.getElem?_map,Option.map_eq_some_iff]at hy;obtain⟨p,hp,rfl⟩:=hy;exact .pv (h.rep i v p hv hp)
section
variable {H:Type} {enc:TypeId×Value→H} {P:Program} {w:World} {sp:Nat→Bool} {held:Bool} {r:Reach} {b0:Nat}
theorem Zef{t:TypeId}{v:Value}{u:TypeDesc}(hu:P.underlying t=some u)(hs:u=.bool∨(∃k,u=.int k)∨u=.string∨∃e,u=.slice e)(hval:Value.okWide P w r b0 t v):v.cells.toList=[v]:=by
 cases v with
 |agg cs=>rcases hs with rfl|⟨k,rfl⟩|rfl|⟨e,rfl⟩<;>simp[Value.okWide,Cell.okWide,Cell.ok,hu]at hval
 |_=>rfl
variable (hL:Vy (fun b=>w.heap[b]?))
include hL
theorem Zf0{t:TypeId}{a:Qk}{v:Value}{d:DataW H}{ps:List MemPlace}(hk:Qne P t=some a)(hval:Value.okWide P w r b0 t v)(hd:DataW.Trod enc P w 0 sp held t v d ps)(hw:∀x∈d.weights P t,x≤reachBytes):
  ∃x:a.El,Qe (Xp w) Yn v (a.sv x)∧a.ok x:=by
 obtain⟨fuel,hf⟩:=hd;unfold Qne at hk;split at hk
 ·rename_i fs hu;split at hk
  ·rename_i row hrow;cases hk;obtain⟨x,hx⟩:=Qd2 hL fuel 12 t _ d ps row hf hrow hw;obtain⟨cs,rfl,hsz⟩:∃cs,v=.agg cs∧cs.size=P.cellsOf t:=by simp only[Value.okWide,hu]at hval;obtain⟨cs,h1,h2,_⟩:=hval;exact⟨cs,h1,h2⟩
   have:=Qqd hx;simp only[Value.cells,Array.toArray_toList]at this;exact⟨x,this,hx.ok⟩
  ·cases hk
 ·rename_i m e hu;split at hk
  ·rename_i row hrow;cases hk;obtain⟨x,hx⟩:=Qd2 hL fuel 12 t _ d ps row hf hrow hw;obtain⟨cs,rfl,hsz⟩:∃cs,v=.agg cs∧cs.size=P.cellsOf t:=by simp only[Value.okWide,hu]at hval;obtain⟨cs,h1,h2,_⟩:=hval;exact⟨cs,h1,h2⟩
   have:=Qqd hx;simp only[Value.cells,Array.toArray_toList]at this;exact⟨x,this,hx.ok⟩
  ·cases hk
 ·rename_i u h1 h2 hu;split at hk
  ·rename_i ty hrow;cases hk;obtain⟨x,hx⟩:=Qd2 hL fuel 12 t _ d ps [ty] hf hrow hw;have hs:u=.bool∨(∃k,u=.int k)∨u=.string∨∃e,u=.slice e:=by
    unfold Wv at hrow;rw[hu]at hrow;cases u with
    |bool=>exact .inl rfl
    |int k=>exact .inr (.inl ⟨k,rfl⟩)
    |string=>exact .inr (.inr (.inl rfl))
    |slice e=>exact .inr (.inr (.inr ⟨e,rfl⟩))
    |struct fs=>exact(h1 fs rfl).elim
    |array m e=>exact(h2 m e rfl).elim
    |_=>simp at hrow
   rw[Zef hu hs hval]at hx;exact⟨x,.pv (hx.rep 0 v _ rfl rfl),hx.ok⟩
  ·cases hk
 ·cases hk
theorem Qvt:∀{ts:List TypeId} {vs:List Value} {ds:List (DataW H)} {ps:List MemPlace} {ats:List Qk},DataW.TrodAll enc P w 0 sp held ts vs ds ps→K7 P ts=some ats→
  (∀(j:Nat) t v,ts[j]? =some t→vs[j]? =some v→Value.okWide P w r b0 t v)→(∀x∈DataW.weightsEach P ts ds,x≤reachBytes)→∃a:Q8 ats,Yu (Xp w) Yn vs (Zh ats a)∧Q8.ok ats a
 |[],vs,ds,ps,ats,h,hk,hval,hw=>by simp only[K7,Option.some.injEq]at hk;subst hk;cases vs<;>cases ds<;>simp[DataW.TrodAll]at h;exact⟨(),⟨rfl,fun i v x hv=>by simp at hv⟩,trivial⟩
 |t::ts,vs,ds,ps,ats,h,hk,hval,hw=>by
  obtain⟨v,vs',d,ds',p,q,rfl,rfl,rfl,h1,h2⟩:=ChangeShapes.trodAll_cons h;simp only[K7]at hk;split at hk
  ·cases hk
  ·rename_i a ha;split at hk
   ·cases hk
   ·rename_i l hl;cases hk;simp only[DataW.weightsEach,List.mem_append]at hw;obtain⟨x,hx,hxo⟩:=Zf0 hL ha (hval 0 t v rfl rfl) h1 fun y hy=>hw y (.inl hy);obtain⟨y,hy,hyo⟩:=Qvt h2 hl (fun j t' v' h1 h2=>hval (j+1) t' v' (by simpa using h1) (by simpa using h2)) fun y hy=>hw y (.inr hy);have cons:∀(i:Nat) (u:Value) (z:SV) (zs:List SV),zs=Zh l y→(v::vs')[i]? =some u→(a.sv x::zs)[i]? =some z→Qe (Xp w) Yn u z:=fun i u z zs e hu hz=>by
     subst e;cases i with
     |zero=>simp at hu hz;subst hu;subst hz;exact hx
     |succ i=>exact hy.2 i u z (by simpa using hu) (by simpa using hz)
    have hlen:vs'.length=(Zh l y).length:=hy.1;match l,y,hyo,cons,hlen with
    |[],y,hyo,cons,hlen=>exact⟨x,⟨by simpa[Zh]using hlen,fun i u z hu hz=>cons i u z _ rfl hu hz⟩,hxo⟩
    |b::l,y,hyo,cons,hlen=>exact⟨(x,y),⟨by simp[Zh,hlen],fun i u z hu hz=>cons i u z _ rfl hu hz⟩,⟨hxo,hyo⟩⟩
end
end Go.Sx
end
section
namespace Go.Sx
open Go Go.ChangeShapes Go.WideShapes Go.RowKit
section
variable {H:Type} {enc:TypeId×Value→H} {P:Program}
theorem Qtn(hl:laidOutB P=true){W W':World}{sp:Nat→Bool}:∀{ts:List TypeId} {vs:List Value} {ds:List (DataW H)} {ps:List MemPlace},
  (ts.all fun t=>P.readableRec t&&decide (t<P.types.size))=true→DataW.TrodAll enc P W 0 (fun _=>true) true ts vs ds ps→(∀p∈ps,W.sameAt W' p)→(∀p∈ps,sp p.block=true)→DataW.TrodAll enc P W' 0 sp true ts vs ds ps
 |[],vs,ds,ps,_,h,_,_=>by cases vs<;>cases ds<;>simp[DataW.TrodAll]at h⊢;exact h
 |t::ts,vs,ds,ps,ht,h,hs,hb=>by
  obtain⟨v,vs',d,ds',p,q,rfl,rfl,rfl,h1,h2⟩:=trodAll_cons h;simp only[List.all_cons,Bool.and_eq_true,decide_eq_true_eq]at ht;exact⟨p,q,WideElems.Trod_stays hl ht.1.1 ht.1.2 h1 (fun x hx=>hs x (List.mem_append_left _ hx)) (fun x hx=>hb x (List.mem_append_left _ hx)),
   Qtn hl ht.2 h2 (fun x hx=>hs x (List.mem_append_right _ hx)) (fun x hx=>hb x (List.mem_append_right _ hx)),rfl⟩
theorem Qv9{W:World}{b:Nat}{sp:Nat→Bool}{hd:Bool}:∀{ts:List TypeId} {vs:List Value} {ds:List (DataW H)} {ps:List MemPlace},DataW.TrodAll enc P W b sp hd ts vs ds ps→ds.length=ts.length
 |[],vs,ds,ps,h=>by cases vs<;>cases ds<;>simp[DataW.TrodAll]at h⊢
 |t::ts,vs,ds,ps,h=>by obtain⟨v,vs',d,ds',p,q,rfl,rfl,rfl,h1,h2⟩:=trodAll_cons h;simp[Qv9 h2]
theorem Zmi{cx:Cx}{f:FuncId}{fn:Func}{s:ChangeSpec}{ats:List Qk}{c:Nat→Q8 ats→Option Bool}{tb:TypeId}
  (hl:laidOutB cx.P=true) (hps:(fn.params.toList.all fun t=>cx.P.readableRec t&&decide (t<cx.P.types.size))=true) (hk:K7 cx.P fn.params.toList=some ats)
  (hres:fn.resultTypes= #[tb]) (htb:cx.P.underlying tb=some .bool) (hvars:s.vars=[]) (hspec:∀ds:List (DataW H),ds.length=fn.params.toList.length→s.fn H ds={results:=[.lit (.bool true)],args:=ds})
  (hpc:∀F,Qw cx f ⟨ats,[.val .bool],c F⟩) (law:∀a,Q8.ok ats a→∃F,c F a=some true)
  {W:World} (hL:Vy (fun b=>W.heap[b]?)) {base:Nat} {args:Array Value} {ds gs:List (DataW H)} {before:List MemPlace} {hn:Bool}
  (hval:∀(j:Nat) t v,fn.params[j]? =some t→args[j]? =some v→Value.okWide cx.P W .any base t v)
  (hW:DataW.Whole enc cx.P fn.params.toList s.vars false W args.toList ds gs before)
  (hwt:(DataW.weightsEach cx.P (fn.params.toList++s.plain.varTypes cx.P) (ds++gs)).all (·≤reachBytes)=true):
  Calls cx.P f args W fun e W'=>∃v,e=.returned v∧s.post enc cx.P fn false true hn false W args v W':=by
 have hW':=hW;obtain⟨p,q,hA,hV,rfl,hfz,hnd⟩:=hW;rw[hvars]at hV;obtain⟨rfl,rfl⟩:gs=[]∧q=[]:=by
  cases gs with
  |nil=>exact⟨rfl,hV⟩
  |cons g r=>exact absurd hV (by intro h;cases h)
 have hlen:=Qv9 hA;have hw:∀x∈DataW.weightsEach cx.P fn.params.toList ds,x≤reachBytes:=by
  have happ:∀(ts:List TypeId) (ds:List (DataW H)) (us:List TypeId),ds.length=ts.length→DataW.weightsEach cx.P (ts++us) ds=DataW.weightsEach cx.P ts ds:=by
   intro ts;induction ts with
   |nil=>intro ds us h;cases ds with
    |nil=>cases us<;>rfl
    |cons _ _=>simp at h
   |cons t ts ih=>intro ds us h;cases ds with
    |nil=>simp at h
    |cons d ds=>simp only[List.cons_append,DataW.weightsEach];rw[ih ds us (by simpa using h)]
  rw[List.append_nil,happ _ _ _ hlen]at hwt;intro x hx;have:=List.all_eq_true.1 hwt x hx;simpa using this
 obtain⟨a,hr,ho⟩:=Qvt hL hA hk (fun j t v h1 h2=>hval j t v (by simpa using h1) (by simpa using h2)) hw;obtain⟨F,hF⟩:=law a ho;have hcall:=(hpc F).ok a true hF (Xp W) Yn W args.toList (Kq fun b o h=>by rw[Qyi hL]at h;exact h) hr;rw[Array.toArray_toList]at hcall;refine(callsIn_wide.1 hcall).mono fun e W' ⟨v,r,H',M',ρ',tch,fg,he,⟨hr',_⟩,hx,hm,hf⟩=>?_;subst hr';have hv:v=.bool true:=Qe.Q1 (show Qe M' ρ' v (.pv (.lit (.bool true)))from hx);subst hv;have hsame:∀b,b<W.heap.size→W'.heap[b]? =W.heap[b]? :=fun b hb=>hf.same b hb X4;refine⟨_,he,ds,[],p++[],[],p,[],hW',?_,?_,?_,?_,fun h=>by cases h⟩
 ·rw[List.append_nil,hspec ds hlen,hres];exact trodAll_mk1 (shut_bool htb true)
 ·rw[List.append_nil,hspec ds hlen];refine Qtn hl hps hA (fun x hx=>?_) (fun x hx=>?_)
  ·have hlt:=hW'.lt x (by simpa using hx);cases x with
   |cell b off=>simp only[World.sameAt,World.cell?];rw[hsame b hlt]
   |map b=>exact hsame b hlt
  ·exact decide_eq_true (hW'.lt x (by simpa using hx))
 ·rw[List.append_nil,hspec ds hlen,hvars];rfl
 ·refine⟨hf.io.1,hf.io.2,fun i hi=>?_⟩;rw[hsame i hi];split
  ·rename_i h1 h2;rw[h1]at h2;cases h2;exact⟨rfl,rfl,rfl,fun _ _=>rfl⟩
  ·rename_i h1 h2;rw[h1]at h2;cases h2;exact .inr ⟨rfl,rfl⟩
  ·rfl
end
end Go.Sx
end
namespace Go.Sx
open Go
theorem Y6{X:Type}(x:Option X):gd true x=x:=rfl
theorem Zf9{X:Type}{c:Bool}{x:Option X}(h:c=true):gd c x=x:=by rw[h];rfl
theorem Zt{X:Type}{p:Prop}[Decidable p]{x:Option X}(h:p):gd (decide p) x=x:=Zf9 (decide_eq_true h)
theorem Qpg{σ β:Type}{step:σ→Option (σ ⊕ β)}(Inv:σ→Prop)(m:σ→Nat)(Qr:β→Prop)
  (h:∀x,Inv x→(∃y,step x=some (.inl y)∧Inv y∧m y<m x)∨∃b,step x=some (.inr b)∧Qr b):∀(F:Nat) (x:σ),Inv x→m x<F→∃b,Zb step F x=some b∧Qr b
 |0,x,_,hF=>by omega
 |F+1,x,hx,hF=>by
  rcases h x hx with⟨y,h1,h2,h3⟩|⟨b,h1,h2⟩
  ·simp only[Zb,h1];exact Qpg Inv m Qr h F y h2 (by omega)
  ·simp only[Zb,h1];exact⟨b,rfl,h2⟩
def goL{α S β:Type}(body:α→S→S ⊕ β)(fin:S→β):List α→S→β
 |[],s=>fin s
 |x::l,s=>match body x s with
  |.inl s'=>goL body fin l s'
  |.inr b=>b
theorem Qtb{α S β:Type}(body:α→S→S ⊕ β)(fin:S→β)(s:S):goL body fin [] s=fin s:=rfl
theorem Wh{α S β:Type}(body:α→S→S ⊕ β)(fin:S→β)(x:α)(l:List α)(s:S):goL body fin (x::l) s=match body x s with
  |.inl s'=>goL body fin l s'
  |.inr b=>b:=rfl
def U6{S σ β β':Type}(R:S→σ→Prop)(Q:β'→β→Prop):S ⊕ β'→σ ⊕ β→Prop
 |.inl s,.inl t=>R s t
 |.inr b,.inr b'=>Q b b'
 |_,_=>False
theorem Qhn{α S σ β β':Type}{step:σ→Option (σ ⊕ β)}(l:List α)(body:α→S→S ⊕ β')(fin:S→β')(R:Nat→S→σ→Prop)(Q:β'→β→Prop)
  (hstep:∀i x s t,i<l.length→l[i]? =some x→R i s t→∃r,step t=some r∧U6 (R (i+1)) Q (body x s) r)
  (hend:∀s t,R l.length s t→∃b',step t=some (.inr b')∧Q (fin s) b'):
  ∀(F i:Nat) (s:S) (t:σ),i≤l.length→R i s t→l.length-i<F→∃b',Zb step F t=some b'∧Q (goL body fin (l.drop i) s) b'
 |0,i,s,t,hi,hR,hF=>by omega
 |F+1,i,s,t,hi,hR,hF=>by
  by_cases h:i<l.length
  ·obtain⟨r,h1,h2⟩:=hstep i l[i] s t h (List.getElem?_eq_getElem h) hR;rw[List.drop_eq_getElem_cons h,Wh];cases hb:body l[i] s with
   |inl s'=>
    rw[hb]at h2;cases r with
    |inl t'=>simp only[Zb,h1];exact Qhn l body fin R Q hstep hend F (i+1) s' t' h h2 (by omega)
    |inr b'=>exact h2.elim
   |inr b=>
    rw[hb]at h2;cases r with
    |inl t'=>exact h2.elim
    |inr b'=>simp only[Zb,h1];exact⟨b',rfl,h2⟩
  ·obtain rfl:i=l.length:=by omega
   rw[List.drop_length,Qtb];obtain⟨b',ht,hQ⟩:=hend s t hR;simp only[Zb,ht];exact⟨b',rfl,hQ⟩
theorem Qm9{α S σ β β' γ:Type}{step:σ→Option (σ ⊕ β)}{F:Nat}{t:σ}{k:β→Option γ}{P:γ→Prop}(l:List α)(body:α→S→S ⊕ β')(fin:S→β')(R:Nat→S→σ→Prop)(Q:β'→β→Prop)(s:S)
  (hF:l.length<F) (h0:R 0 s t)
  (hstep:∀i x s t,i<l.length→l[i]? =some x→R i s t→∃r,step t=some r∧U6 (R (i+1)) Q (body x s) r)
  (hend:∀s t,R l.length s t→∃b',step t=some (.inr b')∧Q (fin s) b')
  (hk:∀b',Q (goL body fin l s) b'→∃r,k b'=some r∧P r):∃r,Option.bind (Zb step F t) k=some r∧P r:=by
 obtain⟨b',h1,h2⟩:=Qhn l body fin R Q hstep hend F 0 s t (Nat.zero_le _) h0 (by omega);rw[h1];exact hk b' h2
theorem Zo9{γ:Type}{o:Option γ}{r:γ}(h:∃x,o=some x∧x=r):o=some r:=by obtain⟨x,h1,h2⟩:=h;rw[h1,h2]
theorem Zc3{α S σ β:Type}{step:σ→Option (σ ⊕ β)}(l:List α)(enc:S→Nat→σ)(body:α→S→S ⊕ β)(fin:S→β)(I:Nat→S→Prop)
  (hstep:∀i x s,i<l.length→l[i]? =some x→I i s→step (enc s i)=some (match body x s with|.inl s'=>.inl (enc s' (i+1))|.inr b=>.inr b)∧∀s',body x s=.inl s'→I (i+1) s')
  (hend:∀s,I l.length s→step (enc s l.length)=some (.inr (fin s))) {F:Nat} {s:S} {t:σ} (ht:t=enc s 0) (hI:I 0 s) (hF:l.length<F):Zb step F t=some (goL body fin l s):=by
 obtain⟨b,h1,h2⟩:=Qhn (step:=step) l body fin (fun i s t=>t=enc s i∧I i s) (fun a b=>a=b)
  (fun i x s t hi hx ⟨e,h⟩=>by
   obtain⟨h1,h2⟩:=hstep i x s hi hx h;subst e;refine⟨_,h1,?_⟩;cases hb:body x s with
   |inl s'=>exact⟨rfl,h2 s' hb⟩
   |inr b=>exact rfl)
  (fun s t ⟨e,h⟩=>by subst e;exact⟨_,hend s h,rfl⟩) F 0 s t (Nat.zero_le _) ⟨ht,hI⟩ (by omega)
 rw[h1,←h2];rfl
theorem Yy{α S σ β γ:Type}{step:σ→Option (σ ⊕ β)}{F:Nat}{t:σ}{k:β→Option γ}{r:Option γ}(l:List α)(enc:S→Nat→σ)(body:α→S→S ⊕ β)(fin:S→β)(I:Nat→S→Prop)(s:S)
  (hF:l.length<F) (ht:t=enc s 0) (hI:I 0 s)
  (hstep:∀i x s,i<l.length→l[i]? =some x→I i s→step (enc s i)=some (match body x s with|.inl s'=>.inl (enc s' (i+1))|.inr b=>.inr b)∧∀s',body x s=.inl s'→I (i+1) s')
  (hend:∀s,I l.length s→step (enc s l.length)=some (.inr (fin s)))
  (hk:k (goL body fin l s)=r):Option.bind (Zb step F t) k=r:=by
 rw[Zc3 l enc body fin I hstep hend ht hI hF];exact hk
theorem Wm{α S β:Type}(f:S→α→S)(fin:S→β):∀(l:List α) (s:S),goL (fun x s=>.inl (f s x)) fin l s=fin (l.foldl f s)
 |[],s=>rfl
 |x::l,s=>Wm f fin l (f s x)
theorem Qq2{α β:Type}(r:β)(l:List α):goL (fun(_:α) (_:Unit)=>(Sum.inl ():Unit ⊕ β)) (fun _=>r) l ()=r:=by rw[Wm (fun _ _=>())]
theorem Kp{α β:Type}(p:α→Bool)(b1 b2:β):∀(l:List α),goL (fun x (_:Unit)=>if p x=true then .inr b1 else .inl ()) (fun _=>b2) l ()=if l.any p=true then b1 else b2
 |[]=>rfl
 |x::l=>by
  rw[Wh,List.any_cons];cases h:p x with
  |true=>simp
  |false=>simpa using Kp p b1 b2 l
theorem Ya{X:Type}{p:Prop}[Decidable p]{a b:X}(h:p):cond (decide p) a b=a:=by simp[h]
theorem Z9{X:Type}{p:Prop}[Decidable p]{a b:X}(h:¬p):cond (decide p) a b=b:=by simp[h]
theorem getD_some{α:Type}{l:List α}{i:Nat}{x d:α}(h:l[i]? =some x):l.getD i d=x:=by rw[List.getD_eq_getElem?_getD,h];rfl
def Zom{β:Type}(good:Prop)(Q:β→Prop)(i:Nat)(r:Int ⊕ β):Prop:=(r=.inl ((i:Int)+1)∧good)∨∃b,r=.inr b∧Q b
theorem Qux{α β γ:Type}{step:Int→Option (Int ⊕ β)}{F:Nat}{k:β→Option γ}{P:γ→Prop}(l:List α)(good:α→Prop)(Q:β→Prop)(hF:l.length<F)
  (hstep:∀(i:Nat) x,i<l.length→l[i]? =some x→∃r,step (i:Int)=some r∧Zom (good x) Q i r)
  (hend:(∀x∈l,good x)→∃b,step (l.length:Int)=some (.inr b)∧Q b)
  (hk:∀b,Q b→∃r,k b=some r∧P r):∃r,Option.bind (Zb step F 0) k=some r∧P r:=by
 obtain⟨b,h1,h2⟩:=Qpg (step:=step) (fun v:Int=>0≤v∧v≤l.length∧∀x∈l.take v.toNat,good x) (fun v=>l.length-v.toNat) Q (by
  intro v ⟨h0,h1,h2⟩;by_cases hv:v<l.length
  ·have hk:v.toNat<l.length:=by omega
   have hx:=List.getElem?_eq_getElem hk;have ev:((v.toNat:Nat):Int)=v:=by omega
   obtain⟨r,hs,hr⟩:=hstep v.toNat _ hk hx;rw[ev]at hs;rcases hr with⟨rfl,hg⟩|⟨b,rfl,hb⟩
   ·left;rw[ev]at hs;refine⟨v+1,hs,⟨by omega,by omega,?_⟩,by omega⟩;rw[show(v+1).toNat=v.toNat+1 by omega,List.take_add_one,hx];intro y hy;rcases List.mem_append.1 hy with hy|hy
    ·exact h2 y hy
    ·obtain rfl:=List.mem_singleton.1 hy;exact hg
   ·exact .inr ⟨b,hs,hb⟩
  ·have ev:v=l.length:=by omega
   subst ev;right;refine hend ?_;simpa using h2) F 0 ⟨by omega,by omega,by simp⟩ (by simpa using hF)
 rw[h1];exact hk b h2
theorem Qbm{α:Type}{l:List α}{i:Nat}{x:α}(h:l[i]? =some x):l.take i++x::nilT α=l.take (i+1):=by rw[List.take_add_one,h];rfl
theorem Qmu{α:Type}{l:List α}{i:Nat}(h:i≤l.length):(l.take i).length=i:=by rw[List.length_take];omega
theorem Qvi{α:Type}(l:List α):List.take l.length (List.drop 0 l)=l:=by simp
theorem Qdq{K V:Type}{eq:K→K→Bool}{k:K}:∀(l:List (K×V)) (n:Nat),Z0 eq k l n=(Z0 eq k l 0).map fun p=>(n+p.1,p.2)
 |[],n=>rfl
 |e::l,n=>by
  simp only[Z0];cases eq k e.1 with
  |true=>simp
  |false=>
   simp only[];rw[Qdq l (n+1),Qdq l (0+1)];cases Z0 eq k l 0 with
   |none=>rfl
   |some p=>simp;omega
theorem Qcy{K V:Type}{eq:K→K→Bool}{k:K}{e:K×V}{l:List (K×V)}{z:V}:mgetD eq k (e::l) z=if eq k e.1=true then e.2 else mgetD eq k l z:=by
 unfold mgetD;simp only[Z0];cases eq k e.1 with
 |true=>simp
 |false=>
  simp only[];rw[Qdq l (0+1)];cases Z0 eq k l 0 with
  |none=>simp
  |some p=>simp
theorem Qv1{K V:Type}{eq:K→K→Bool}{k:K}{x:V}:mput eq k x []=[(k,x)]:=rfl
theorem Qw6{K V:Type}{eq:K→K→Bool}{k:K}{x:V}{e:K×V}{l:List (K×V)}:mput eq k x (e::l)=if eq k e.1=true then(k,x)::l else e::mput eq k x l:=by
 unfold mput;simp only[Z0];cases eq k e.1 with
 |true=>simp
 |false=>
  simp only[];rw[Qdq l (0+1)];cases Z0 eq k l 0 with
  |none=>simp
  |some p=>simp[Nat.add_comm 1 p.1]
def Qvf{K:Type}(eq:K→K→Bool):Prop:=∀a b,eq a b=true↔a=b
theorem Qy9:Qvf strEq:=fun a b=>by simp[strEq]
theorem Qst{K V:Type}{eq:K→K→Bool}(h:Qvf eq){k k':K}{x z:V}:∀{l:List (K×V)},mgetD eq k' (mput eq k x l) z=if eq k' k=true then x else mgetD eq k' l z
 |[]=>by rw[Qv1,Qcy]
 |e::l=>by
  rw[Qw6];by_cases he:eq k e.1=true
  ·have hk:=(h _ _).1 he;rw[if_pos he,Qcy,Qcy,←hk];by_cases hk:eq k' k=true
   ·rw[if_pos hk,if_pos hk]
   ·rw[if_neg hk,if_neg hk];simp[hk]
  ·rw[if_neg he,Qcy,Qcy,Qst h (l:=l)];by_cases hk:eq k' k=true
   ·have:=(h _ _).1 hk;subst this;rw[if_neg he,if_pos hk,if_pos hk]
   ·rw[if_neg hk,if_neg hk]
theorem Zou(x:UInt8):((BitVec.toFin (UInt8.toBitVec x)).1:Int)=(x.toNat:Int):=rfl
theorem Zrv{s:ByteArray}{i:Nat}(h:(s.get! i).toNat<128):Go.Utf8.decode s i=((s.get! i).toNat,1):=by simp only[Go.Utf8.decode,Nat.add_zero];rw[if_pos h]
theorem Za7{s:ByteArray}{i:Nat}(h:¬(s.get! i).toNat<128):128≤(Go.Utf8.decode s i).1:=by
 simp only[Go.Utf8.decode,Nat.add_zero,Go.Utf8.runeError];rw[if_neg h]
 repeat' split
 all_goals simp only[Bool.and_eq_true,decide_eq_true_eq,ge_iff_le]at*
 all_goals omega
theorem Qf3{a b:ByteArray}:strEq a b=true↔a=b:=Qy9 a b
theorem Qww{a b:ByteArray}(h:a≠b):strEq a b=false:=by
 cases e:strEq a b with
 |false=>rfl
 |true=>exact absurd (Qf3.1 e) h
theorem Qm4(a:ByteArray):strEq a a=true:=Qf3.2 rfl
def Uw(s:ByteArray):Lit×DataW Unit:=(.string s.data.toList,.nil)
def U5(l:List ByteArray):List (List UInt8):=strKeys (DataW.map ((l.map Uw).foldr DataW.insert []))
def Ju(l:List ByteArray):List ByteArray:=((U5 l).mergeSort Go.leB).map fun b=>⟨b.toArray⟩
def Qey:Qa→Option Nat
 |.mix _ _ ((.mp m::_)::_)=>some m
 |_=>none
def mkeys{α:Type}(l:List (ByteArray×α)):List ByteArray:=l.map fun x=>x.1
def keysFit(l:List ByteArray):Bool:=decide l.Nodup&&l.all fun s=>decide (s.size≤9223372036854775807)
def skeysM{α:Type}(l:List (ByteArray×α)):List ByteArray:=Ju (mkeys l)
def Zix{α:Type}(l:List (ByteArray×α)):Option (List ByteArray):=gd (decide (l.length*16≤140737488355328)) (gd (decide (keysFit (mkeys l)=true)) (some (skeysM l)))
structure Qhx where
 α:Type
 l:List (ByteArray×α)
def Qfb:Qa→Option Qhx
 |.tmap (.val .str) v l=>some ⟨v.El,l⟩
 |_=>none
def Qpt(gk:Nat)(args:List SV)(H:List Qa):Option Qhx:=match args with
 |[.fn (.func g) [] [.ptr d _ i j]]=>bif Nat.beq g gk&&Nat.beq i 0&&Nat.beq j 0 then(H[d]?.bind Qey).bind fun m=>(H[m]?.bind Qfb)else none
 |_=>none
def Qcc(gk:Nat):Sm where
 pre:=fun args H=>(Qpt gk args H).isSome
 run:=fun X args H k=>match Qpt gk args H with
  |some ⟨_,l⟩=>(Zix l).bind fun L=>k (.pv (.tsl [.str] L)) H [] []
  |none=>none
theorem Qu9{H:Type}(x:Lit×DataW H):∀l:List (Lit×DataW H),(DataW.insert x l).length=l.length+1
 |[]=>rfl
 |y::r=>by
  unfold DataW.insert;split
  ·rfl
  ·simp[Qu9 x r]
theorem Qqc{H:Type}:∀l:List (Lit×DataW H),(l.foldr DataW.insert []).length=l.length
 |[]=>rfl
 |x::l=>by rw[List.foldr_cons,Qu9,Qqc l,List.length_cons]
theorem Zco{o:Qa}{m:Nat}(h:Qey o=some m):∃ty sz r rs,o=.mix ty sz ((.mp m::r)::rs):=by
 unfold Qey at h;split at h
 ·cases h;exact⟨_,_,_,_,rfl⟩
 ·cases h
theorem Zhx{o:Qa}{l:Qhx}(h:Qfb o=some l):∃(v:Qk) (l':List (Qk.El (.val .str)×v.El)),o=.tmap (.val .str) v l'∧l=⟨v.El,l'⟩:=by
 unfold Qfb at h;split at h
 ·cases h;exact⟨_,_,rfl,rfl⟩
 ·cases h
def Jy{v:Qk}(x:(Qk.val Ty.str).El×v.El):ByteArray:=x.1
theorem Qvj{k v:Qk}:∀(n:Nat) (l:List (k.El×v.El)) (i:Nat),(Zn k v n l)[i]? =l[i]?.map fun x=>(k.Za x.1,v.raw x.2,n+i)
 |n,[],i=>by simp[Zn]
 |n,x::l,0=>rfl
 |n,x::l,i+1=>by simp only[Zn,List.getElem?_cons_succ];rw[Qvj (n+1) l i,show n+1+i=n+(i+1)by omega]
theorem Qyp{k v:Qk}:∀(n:Nat) (l:List (k.El×v.El)),(Zn k v n l).length=l.length
 |n,[]=>rfl
 |n,x::l=>by simp only[Zn,List.length_cons,Qyp (n+1) l]
theorem Qvz(L:List (Els [Ty.str])):(Qu [Ty.str] L).length=L.length:=by unfold Qu;exact List.length_map _
theorem Qk5:∀(L:List (Els [Ty.str])) (i:Nat) (r:List PV),(Qu [Ty.str] L)[i]? =some r→∃s:ByteArray,L[i]? =some s∧r=[.lit (.string s)]
 |[],i,r,h=>by simp[Qu]at h
 |s::L,0,r,h=>by cases h;exact⟨s,rfl,rfl⟩
 |s::L,i+1,r,h=>Qk5 L i r h
theorem Zrs{M:Qc}{b:Nat}{cs:Array Value}{e:TypeId}{c n:Nat}{L:List (Els [Ty.str])}(hb:M b=some (.cells cs e (0,0)))(hn:n=L.length)(hc:n≤c)(h:∀(i:Nat) (s:ByteArray),L[i]? =some s→cs[i]? =some (Value.string s)):
  Q6 M (.slice (some ⟨b,0,none⟩) n c) (.tsl [.str] L):=by
 refine .tsl _ _ (.rsl b 0 c 1 n (Qu [.str] L) (by rw[hn,Qvz]) hc (fun i j hi hj=>?_) (fun i r j p v hi hj hv=>?_) (fun i r hi=>?_))
 ·rw[Qvz]at hi;have h1:=h i _ (List.getElem?_eq_getElem hi);refine⟨Value.string L[i],?_,rfl⟩;unfold Qc.cell;rw[hb,show 0+i*1+j=i by omega];exact h1
 ·obtain⟨s,hs,rfl⟩:=Qk5 L i r hi;match j,hj with
  |0,hj=>cases hj;unfold Qc.cell at hv;rw[hb,show 0+i*1+0=i by omega]at hv;have h1:=h i s hs;simp only[h1]at hv;cases hv;exact .lit _
  |j+1,hj=>cases hj
 ·obtain⟨s,hs,rfl⟩:=Qk5 L i r hi;exact Nat.le_refl _
theorem Zdc{P:Program}{ρ1 ρ2 ρ3:Shelf.Ren}{g gk:Nat}(L1:Proofs.SlLaysZ.n10 P ρ1)(L2:Proofs.SlLaysZ.n6 P ρ2)(L3:Proofs.SlLaysM.n6 P ρ3)(h1:ρ1.f 10=gk)(h2:ρ2.f 6=g)(h3:ρ3.f 6=ρ2.f 9)
  (eg:∀args w,(callFunc gk args).run P w=.ok (.enter gk args) w) (e9:∀args w,(callFunc (ρ2.f 9) args).run P w=.ok (.enter (ρ2.f 9) args) w)
  {H:List Qa} {d m sz:Nat} {o:Qa} (ho:H[d]? =some o) (hb:Qey o=some m) {om:Qa} {α:Type} {l:List (ByteArray×α)} (hom:H[m]? =some om) (hk:Qfb om=some ⟨α,l⟩)
  (hlen:l.length*16≤140737488355328) (hfit:keysFit (mkeys l)=true):
  Z2 P g [.fn (.func gk) [] [.ptr d sz 0 0]] H fun x H' t f=>x=.pv (.tsl [.str] (skeysM l))∧H'=H∧t=[]∧f=[]:=by
 obtain⟨ty,so,r,rs,rfl⟩:=Zco hb;obtain⟨va,l',rfl,hkk⟩:=Zhx hk;cases hkk;have hfit:=(Bool.and_eq_true _ _).mp hfit;have hnd:(l'.map Jy).Nodup:=of_decide_eq_true hfit.1;have hall:((l'.map Jy).all fun s=>decide (s.size≤9223372036854775807))=true:=hfit.2;intro M ρ w vs hm hr;obtain⟨hr1,hr2⟩:=hr;match vs,hr1 with
 |[v0],_=>
  have r0:=hr2 0 v0 _ rfl rfl;cases r0 with
  |fn _ a b _ _ ha hbs hx hy=>
   obtain rfl:a= #[]:=Array.eq_empty_of_size_eq_zero (by simpa using ha);have hb1:b.size=1:=by simpa using hbs
   obtain⟨b0,rfl⟩:∃b0,b= #[b0]:=by
    refine⟨b[0],?_⟩;apply Array.ext
    ·simpa using hb1
    ·intro i h1 h2;obtain rfl:i=0:=by omega
     rfl
   have hp0:=hy 0 b0 _ rfl rfl;cases hp0 with
   |ptr _ _ _ _ kk p hp hkk=>
    obtain rfl:kk=0:=by simpa using hkk
    have hown:=hm.own d _ ho;rcases hown with⟨_,hx⟩|⟨p',hp',hrow⟩
    ·cases hx
    ·rw[hp]at hp';cases hp';obtain⟨cs,a1,a2,a3,a4,a5,a6⟩:=hrow.ex;have hz:=a6 0 0 (.mp m) rfl;obtain⟨v,e1,e2⟩:=a4 0 0 hz.1 hz.2;have e3:=(a5 0 0 (.mp m) v rfl e1).2.2;cases e3 with
     |mp _ pm hpm=>
      have hmap:=hm.own m _ hom;obtain⟨q,arr,b1,b2,b3,b4⟩:=hmap;rw[hpm]at b1;cases b1;rw[Qyp]at b3;have harr:∀i x,l'[i]? =some x→∃e:MapEntry,arr[i]? =some e∧e.key=Value.string x.1∧e.born=i:=by intro i x hx;obtain⟨e,c1,c2,c3,c4⟩:=b4 i (.string x.1) (va.raw x.2) i (by rw[Qvj,hx,Nat.zero_add];rfl);exact⟨e,c1,c2,c3⟩
      have hmem:∀e∈arr.toList,∃i x,l'[i]? =some x∧arr[i]? =some e∧e.key=Value.string x.1∧e.born=i:=by intro e he;obtain⟨i,hi⟩:=List.mem_iff_getElem?.1 he;rw[Array.getElem?_toList]at hi;have hlt:=(Array.getElem?_eq_some_iff.1 hi).1;obtain⟨x,hx⟩:∃x,l'[i]? =some x:=⟨_,List.getElem?_eq_getElem (by omega)⟩;obtain⟨e',f1,f2,f3⟩:=harr i x hx;rw[hi]at f1;cases f1;exact⟨i,x,hx,hi,f2,f3⟩
      have hsz:∀x∈l',(x.1:ByteArray).size≤maxLen:=by intro x hx;have:=List.all_eq_true.1 hall x.1 (List.mem_map_of_mem hx);exact of_decide_eq_true this
      have t26:=L1.t26;have hkey:∀e∈arr.toList,∃s:ByteArray,e.key=Value.string s∧Go.keyOf P (ρ1.t 26) e.key=some (Lit.string s.data.toList):=by intro e he;obtain⟨i,x,hx,_,hk,_⟩:=hmem e he;refine⟨x.1,hk,?_⟩;unfold Go.keyOf;rw[t26,hk];simp only[mapKey,t26];rw[if_pos (hsz x (List.mem_of_getElem? hx))]
      let R:Value→Option (DataW Unit×List MemPlace):=fun _=>some (.nil,[]);have hrd:∀(i:Nat) (x:Qk.El (.val .str)×va.El) (e:MapEntry),l'[i]? =some x→arr[i]? =some e→WideElems.rg P (ρ1.t 26) R e=Uw x.1:=by
       intro i x e hx he;obtain⟨e',f1,f2,f3⟩:=harr i x hx;rw[he]at f1;cases f1;unfold WideElems.rg WideElems.rd;have:Go.keyOf P (ρ1.t 26) e.key=some (Lit.string (x.1:ByteArray).data.toList):=by unfold Go.keyOf;rw[t26,f2];simp only[mapKey,t26];rw[if_pos (hsz x (List.mem_of_getElem? hx))]
       rw[this];rfl
      have hD:arr.toList.map (WideElems.rg P (ρ1.t 26) R)=(l'.map Jy).map Uw:=by
       apply List.ext_getElem?;intro i;simp only[List.getElem?_map,Array.getElem?_toList];cases hx:l'[i]? with
       |none=>have:arr[i]? =none:=Array.getElem?_eq_none (by have:=List.getElem?_eq_none_iff.1 hx;omega);rw[this];rfl
       |some x=>obtain⟨e,f1,-,-⟩:=harr i x hx;rw[f1];exact congrArg some (hrd i x e hx f1)
      have hlen':l'.length*16≤140737488355328:=hlen;have hownm:w.ownsMap P (ρ1.t 26) R pm.block arr.size (DataW.map (((l'.map Jy).map Uw).foldr DataW.insert [])):=by
       refine⟨arr,_,b2,⟨?_,⟨?_,?_,?_⟩,?_⟩,Nat.le_refl _,?_⟩
       ·unfold maxLen;omega
       ·intro e he;obtain⟨i,x,hx,_,_,hbn⟩:=hmem e he;rw[hbn];exact(List.getElem?_eq_some_iff.1 hx).1
       ·have:arr.toList.map (·.born)=List.range l'.length:=by
         apply List.ext_getElem?;intro i;simp only[List.getElem?_map,Array.getElem?_toList,List.getElem?_range];cases hx:l'[i]? with
         |none=>have hge:=List.getElem?_eq_none_iff.1 hx;have:arr[i]? =none:=Array.getElem?_eq_none (by omega);rw[this];simp;omega
         |some x=>obtain⟨e,f1,-,f3⟩:=harr i x hx;rw[f1];have:=(List.getElem?_eq_some_iff.1 hx).1;simp[f3,this]
        rw[this];exact List.nodup_range
       ·have:arr.toList.map (·.key)=(l'.map Jy).map Value.string:=by
         apply List.ext_getElem?;intro i;simp only[List.getElem?_map,Array.getElem?_toList];cases hx:l'[i]? with
         |none=>have hge:=List.getElem?_eq_none_iff.1 hx;have:arr[i]? =none:=Array.getElem?_eq_none (by omega);rw[this];rfl
         |some x=>obtain⟨e,f1,f2,-⟩:=harr i x hx;rw[f1];exact congrArg some f2
        rw[this];exact List.Pairwise.map _ (fun a b hab h=>hab (by cases h;rfl)) hnd
       ·intro e he;obtain⟨s,_,hs⟩:=hkey e he;unfold WideElems.rd;rw[hs];exact⟨_,rfl⟩
       ·rw[←hD]
      have hcell:w.cell? ⟨p.block,0,none⟩=some (.map (some pm.block)):=by simp only[World.cell?,a1];simpa using e1
      have hlt:p.block<w.heap.size:=(Array.getElem?_eq_some_iff.1 a1).1;have hsize:Maps.size (DataW.map (((l'.map Jy).map Uw).foldr DataW.insert []):DataW Unit)=l'.length:=by rw[Maps.size_eq,Qqc];simp
      have hseq:=Proofs.AnyZ.keys_gives L1 Fence.wide 2 trivial rfl (by omega) p.block pm.block arr.size _ w hlt hcell hownm;rw[h1]at hseq;have hsorts:Proofs.AnyZ.SortsIn P ρ2 Fence.wide 4:=
       ⟨fun blk off cap ss W hH hblk hsz=>callsIn_wide.2 (h3▸Proofs.AnyM.slices_Sort_string L3 blk off cap ss W hH hblk hsz),
        fun p cap W=>callsIn_wide.2 (h3▸Proofs.AnyM.slices_Sort_string_none L3 p cap W)⟩
      have cS:=Proofs.AnyZ.sorted_in L2 Fence.wide 5 trivial trivial trivial trivial rfl (by omega) hsorts e9 gk #[.pointer (some ⟨p.block,0,none⟩)] trivial eg _ _ (by rw[hsize];unfold maxLen;omega) (by rw[hsize];exact hlen') w hseq;rw[h2]at cS;refine callsIn_wide.2 ((callsIn_wide.1 cS).mono ?_)
      rintro e w' ⟨v,ss,rfl,hperm,hrow',hnil,hbel⟩
      have hss:ss.mergeSort (fun x y=>decide (x≤y))=(U5 (l'.map Jy)).mergeSort Go.leB:=mergeSort_of_perm hperm;have hL:(ss.mergeSort (fun x y=>decide (x≤y))).map Proofs.encStr=(Ju (l'.map Jy)).map Value.string:=by rw[hss];unfold Ju;rw[List.map_map];rfl
      have hlL:(Ju (l'.map Jy)).length=ss.length:=by have:=congrArg List.length hL;simpa using this.symm
      obtain⟨_,hcase⟩:=hrow';have lt:∀s o p b,H[s]? =some o→o.live=true→ρ s=some p→p.has b→b<w.heap.size:=fun s o p b a b' c d=>hm.Yk a b' c d;rcases hcase with⟨rfl,hz⟩|⟨gb,cap,cur,rfl,hbase,hgb,q1,q2,q3,q4⟩
      ·have hnl:Ju (l'.map Jy)=[]:=List.eq_nil_of_length_eq_zero (by omega);refine⟨_,_,H,M,ρ,[],[],rfl,⟨rfl,rfl,rfl,rfl⟩,?_,?_,?_⟩
       ·have hnl':(skeysM l':List ByteArray)=[]:=hnl;have h9:Qe M ρ (.slice none 0 0) (SV.pv (PV.tsl [Ty.str] ([]:List ByteArray))):=.pv (.tsl _ _ (.rnil _));exact hnl'▸h9
       ·refine⟨fun b o hb=>(hbel.block b (hm.Vp hb)).trans (hm.imm b o hb),fun s o he=>?_,hm.seps,hm.diss,hm.fresh,fun s o p b he hl hp hb=>Nat.lt_of_lt_of_le (hm.lts s o p b he hl hp hb) hbel.size⟩;by_cases hl:o.live=true
        ·exact(hm.own s o he).mono M.le_refl ρ.le_refl rfl fun p b hp hb=>hbel.block _ (lt s o p b he hl hp hb)
        ·cases o<;>simp[Qa.live]at hl;trivial
       ·exact⟨M.le_refl,fun b o a c=>(by rw[a]at c;cases c),fun b hb=>.inr hb,fun b hb _=>hbel.block b hb,hbel.size,fun s o hs _ he hl=>⟨⟨o,he,hl⟩,fun p hp=>⟨hp,fun b hb=>hbel.block _ (lt s o p b he hl hp hb)⟩⟩,fun s hs _=>rfl,hbel.os,hbel.output⟩
      ·let M':Qc:=⟨fun b=>if b=gb then some (.cells cur (ρ2.t 26) (0,0))else M b,fun b cs h=>by
        obtain⟨t,z,e⟩:=M.2 b cs h;have:b≠gb:=fun e2=>by have:=hm.Vp e;omega
        exact⟨t,z,by simp only[if_neg this];exact e⟩⟩
       have hM':∀b,M' b=if b=gb then some (.cells cur (ρ2.t 26) (0,0))else M b:=fun _=>rfl;have hM:M.le M':=fun b o hb=>by
        have:b≠gb:=fun e=>by have:=hm.Vp hb;omega
        rw[hM',if_neg this];exact hb
       refine⟨_,_,H,M',ρ,[],[],rfl,⟨rfl,rfl,rfl,rfl⟩,?_,?_,?_⟩
       ·refine .pv (Zrs (cs:=cur) (by rw[hM',if_pos rfl]) hlL.symm q1 fun i s hs=>?_);have hi:=(List.getElem?_eq_some_iff.1 hs).1;have hi2:i<ss.length:=by rw[←hlL];exact hi
        have hs':(Ju (l'.map Jy))[i]? =some s:=hs;have h5:(cur.toList.take (ss.length*1))[i]? =some (Value.string s):=by rw[q4,hL,List.getElem?_map];exact congrArg (Option.map Value.string) hs'
        rw[List.getElem?_take_of_lt (by rw[Nat.mul_one];exact hi2),Array.getElem?_toList]at h5;exact h5
       ·refine⟨fun b o hb=>?_,fun s o he=>?_,fun s o p b he hl hp hb=>?_,hm.diss,hm.fresh,fun s o p b he hl hp hb=>Nat.lt_of_lt_of_le (hm.lts s o p b he hl hp hb) hbel.size⟩
        ·by_cases e:b=gb
         ·subst e;rw[hM',if_pos rfl]at hb;cases hb;exact hgb
         ·rw[hM',if_neg e]at hb;exact(hbel.block b (hm.Vp hb)).trans (hm.imm b o hb)
        ·by_cases hl:o.live=true
         ·exact(hm.own s o he).mono hM ρ.le_refl rfl fun p b hp hb=>hbel.block _ (lt s o p b he hl hp hb)
         ·cases o<;>simp[Qa.live]at hl;trivial
        ·have:=lt s o p b he hl hp hb;have hne:b≠gb:=by omega
         rw[hM',if_neg hne];exact hm.seps s o p b he hl hp hb
       ·refine⟨hM,fun b o a c=>?_,fun b hb=>.inr hb,fun b hb _=>hbel.block b hb,hbel.size,fun s o hs _ he hl=>⟨⟨o,he,hl⟩,fun p hp=>⟨hp,fun b hb=>hbel.block _ (lt s o p b he hl hp hb)⟩⟩,fun s hs _=>rfl,hbel.os,hbel.output⟩;by_cases e:b=gb
        ·subst e;exact .inl hbase
        ·rw[hM',if_neg e]at c;rw[a]at c;cases c
theorem Zaw{cx:Cx}{ρ1 ρ2 ρ3:Shelf.Ren}{g gk:Nat}(hf:∃fn,cx.fns.lookup g=some fn)(L1:Proofs.SlLaysZ.n10 cx.P ρ1)(L2:Proofs.SlLaysZ.n6 cx.P ρ2)(L3:Proofs.SlLaysM.n6 cx.P ρ3)(h1:ρ1.f 10=gk)(h2:ρ2.f 6=g)(h3:ρ3.f 6=ρ2.f 9)
  (eg:∀args w,(callFunc gk args).run cx.P w=.ok (.enter gk args) w) (e9:∀args w,(callFunc (ρ2.f 9) args).run cx.P w=.ok (.enter (ρ2.f 9) args) w):Yr cx g (Qcc gk):=by
 refine⟨hf,fun X args H k y hk=>?_⟩;simp only[Qcc]at hk;split at hk
 ·rename_i x α l he;obtain⟨L,hL,hk⟩:=Option.bind_eq_some_iff.1 hk;obtain⟨c1,hL⟩:=Zg hL;obtain⟨c2,hL⟩:=Zg hL;cases hL;unfold Qpt at he;split at he
  ·rename_i g' d' sz i j;cases hc:(Nat.beq g' gk&&Nat.beq i 0&&Nat.beq j 0)with
   |false=>rw[hc]at he;cases he
   |true=>
    rw[hc]at he;simp only[Bool.and_eq_true]at hc;obtain⟨⟨d1,d2⟩,d3⟩:=hc;obtain rfl:=Nat.eq_of_beq_eq_true d1;obtain rfl:=Nat.eq_of_beq_eq_true d2;obtain rfl:=Nat.eq_of_beq_eq_true d3;simp only[cond_true,Option.bind_eq_some_iff]at he;obtain⟨m',⟨o,ho,hb⟩,om,hom,hk'⟩:=he;refine(Zdc L1 L2 L3 h1 h2 h3 eg e9 ho hb hom hk' (of_decide_eq_true c1) (of_decide_eq_true c2)).mono ?_
    rintro x H' t f ⟨rfl,rfl,rfl,rfl⟩
    exact hk
  ·cases he
 ·cases hk
theorem Zqt{M:Qc}{ρ:Env}{H:List Qa}{w:World}(h:Mem M ρ H w)(os:Array Obj):Mem M ρ H (Sort.grow w os)∧Fr M ρ H w M ρ H (Sort.grow w os) H.length [] []:=by
 have lt:∀s o p b,H[s]? =some o→o.live=true→ρ s=some p→p.has b→b<w.heap.size:=fun s o p b a b' c d=>h.Yk a b' c d;have eqb:∀b,b<w.heap.size→(Sort.grow w os).heap[b]? =w.heap[b]? :=fun b hb=>by show(w.heap++os)[b]? =w.heap[b]?;rw[Array.getElem?_append_left hb]
 have hsz:w.heap.size≤(Sort.grow w os).heap.size:=by show w.heap.size≤(w.heap++os).size;rw[Array.size_append];omega
 refine⟨⟨fun b o hb=>(eqb b (h.Vp hb)).trans (h.imm b o hb),fun s o he=>?_,h.seps,h.diss,h.fresh,fun s o p b he hl hp hb=>Nat.lt_of_lt_of_le (h.lts s o p b he hl hp hb) hsz⟩,?_⟩
 ·by_cases hl:o.live=true
  ·exact(h.own s o he).mono M.le_refl ρ.le_refl rfl fun p b hp hb=>eqb _ (lt s o p b he hl hp hb)
  ·cases o<;>simp[Qa.live]at hl;trivial
 ·exact⟨M.le_refl,fun b o a c=>(by rw[a]at c;cases c),fun b hb=>.inr hb,fun b hb _=>eqb b hb,hsz,fun s o hs _ he hl=>⟨⟨o,he,hl⟩,fun p hp=>⟨hp,fun b hb=>eqb _ (lt s o p b he hl hp hb)⟩⟩,fun s hs _=>rfl,rfl,rfl⟩
def Qeb(n:Int):Option ByteArray:=if Qf0 n=true then some ⟨(Lib.itoa n).toArray⟩else none
noncomputable def Zs0:PC:={ats:=[.val (.int .i64)],rts:=[.val .str],code:=Qeb}
theorem Zso{M:Qc}{ρ:Env}{H:List Qa}{w:World}(h:Mem M ρ H w)(k:Nat):Mem M ρ H (w.drewN k):=
 ⟨h.imm,fun s o he=>by
  by_cases hl:o.live=true
  ·exact Qy.mono (w:=w) (w':=w.drewN k) (M.le_refl) (ρ.le_refl) rfl (fun p b hp hb=>rfl) (h.own s o he)
  ·cases o<;>simp[Qa.live]at hl;trivial,h.seps,h.diss,h.fresh,h.lts⟩
theorem Zl5{P:Program}{M:Qc}{ρ:Env}{H:List Qa}{w:World}(hm:Mem M ρ H w){g:Nat}{name:String}{k:IntKind}{zs:List Int}(hg:P.globalNamed name=some g)
  (hl:Xm g=some (zs.map fun z=>Value.int k z).toArray):Lib.TabIs P w name k zs:=by
 obtain⟨t,z,e⟩:=M.2 g _ hl;have e2:=hm.imm g _ e;unfold Lib.TabIs World.var?;rw[hg,Option.bind_some,e2]
theorem Zjo{cx:Cx}{ρ0:Shelf.Ren}{g gt:Nat}(hg:ρ0.f 171=g)(L:Proofs.LaysM.n171 cx.P ρ0)(hfn:∃fn,cx.fns.lookup g=some fn)
  (hgt:cx.P.globalNamed "internal/strconv.uint64pow10" =some gt) (hl:Xm gt=some (Lib.pow10Tab.map fun z=>Value.int .u64 z).toArray):Qw cx g Zs0:=by
 refine⟨hfn,fun a y h=>?_⟩;intro M ρ w vs hm hr;have h:Qeb a=some y:=h;unfold Qeb at h;split at h
 ·rename_i hin;cases h;simp only[Qf0,Bool.and_eq_true,decide_eq_true_eq]at hin;obtain⟨hr1,hr2⟩:=hr;match vs,hr1 with
  |[v0],_=>
   have r0:Qe M ρ v0 (.pv (.lit (.int .i64 a))):=hr2 0 v0 _ rfl rfl;have:=r0.Q1;subst this;have hcall:=Proofs.Any.strconv_Itoa L a hin.1 hin.2 w (Zl5 hm hgt hl);rw[hg]at hcall;refine callsIn_wide.2 (hcall.mono ?_)
   rintro e w' ⟨rfl,k,os,rfl⟩
   obtain⟨m1,f1⟩:=Zqt (Zso hm k) os;refine⟨_,_,[],M,ρ,[],[],rfl,⟨rfl,rfl,rfl,rfl⟩,.pv (.lit _),m1,?_⟩;obtain⟨a1,a2,a3,a4,a5,a6,a7,a8,a9⟩:=f1;exact⟨a1,a2,a3,a4,a5,a6,a7,a8,a9⟩
 ·cases h
theorem Kf.bare{cx:Cx}{g:Nat}{pf:PF}(h:Kf cx g pf):Kf cx.bare g pf:=⟨h.fn,h.ok⟩
theorem Qw.at2{cx:Cx}{g:Nat}{pc:PC}(h:Qw cx g pc){a0:Q8 pc.ats}{y0:Q8 pc.rts}(h0:Qw cx g {ats:=pc.ats,rts:=pc.rts,code:=Go.Sx.one a0 y0}):Qw cx g (pc.at a0 y0):=
 ⟨h.fn,fun a y hy=>by
  have hy:(bif Q8.eqv pc.ats a a0 then some y0 else pc.code a)=some y:=hy;cases e:Q8.eqv pc.ats a a0 with
  |true=>rw[e]at hy;exact h0.ok a y (by show(bif Q8.eqv pc.ats a a0 then some y0 else none)=some y;rw[e];exact hy)
  |false=>rw[e]at hy;exact h.ok a y hy⟩
end Go.Sx

/- Part Qh of the own logic: functions that are lent owned objects: their summaries. Part Qi of the own logic: functions of data that return a fresh row, which is the caller's own. And further parts. -/
import Derived.Test.YtpkbmngnolhopaaGreatDoorXSxQs
import GoSem.ClaimJoined
import Derived.ChangeSame
import Derived.ChangeVars
import Derived.JoinedOf
import Derived.RowKit
import Derived.WideKeyArgs
import Derived.Below
import Derived.Handed
import Derived.CallsIn
set_option linter.unusedVariables false
set_option linter.unusedSimpArgs false
set_option linter.unnecessarySimpa false
set_option maxRecDepth 100000
open List renaming getElem?_eq_some_iff->C,getElem?_eq_getElem->ZA,mem_of_getElem?->ZE,mem_cons->ZF,getElem?_map->ZH,range->ZI,mem_append->ZJ,all_eq_true->ZP,mem_cons_of_mem->ZT,getElem?_append->ZU,append_nil->ZW,getD_eq_getElem?_getD->ZX,getElem?_cons_zero->ZZ,map_map->QB,take_of_length_le->QC,length_map->QD,getElem?_eq_none->QE,mem_append_right->QG,mem_range->QH,mem_append_left->QJ,mem_cons_self->QL,mem_singleton->QN,take_add_one->QP,mapM_cons->QS,drop_drop->QT,drop_zero->QU,take_add->QV
open Option renaming map_eq_some_iff->J,bind_eq_some_iff->QA,bind->QK
open Bool renaming and_eq_true->ZB,or_eq_true->QQ
open Go.DataW renaming weightsEach->ZC,trod->ZG,TrodAll->ZK,weightsAll->ZQ,weights->ZS
open Nat renaming eq_of_beq_eq_true->ZD,le_of_ble_eq_true->ZL,le_refl->ZN,beq->ZR,zero_le->QI,lt_of_lt_of_le->QM,ble->QO,not_lt_zero->QR
open Function renaming comp_def->ZM
open Option.some renaming injEq->ZO
open Array renaming toArray_toList->ZV,getElem?_toList->QF
open Go.Utf8 renaming decode->ZY
namespace Go.Sx
open Go
inductive Loc where
 |arg (i:Nat)
 |cap (l:Loc) (j:Nat)
 |fst (l:Loc) (j:Nat)
 |fld (k j:Nat)
structure PX where
 np:Nat
 locs:List Loc
 O:Qm
 nr:Nat
 ω:Qm
 ids:List Nat
 mv:List Nat
 code:O.El->Option ω.El
abbrev PX.no(px:PX):Nat:=px.locs.length
def Wl(H:List Qb):St:={T:=.full 8,H:=H,n0:=H.length,tch:=[],fg:=[],marks:=[],er:=[]}
def Qgl(T:TT)(n:Nat):List SV:=(ZI n).map fun i=>(T.get i).getD .any
def Kz(n:Nat):List Qb:=List.replicate n .dead
def PX.Zl1(px:PX)(x:px.O.El):St:=px.O.st [] (ZI px.no) [] (Wl (Kz px.no)) x
def PX.args(px:PX)(x:px.O.El):List SV:=Qgl (px.Zl1 x).T px.np
def PX.objs(px:PX)(x:px.O.El):List Qb:=(px.Zl1 x).H
def PX.Zmb(px:PX)(x:px.O.El)(y:px.ω.El):St:=px.ω.st [] px.ids px.mv (Wl (px.objs x)) y
def PX.res(px:PX)(x:px.O.El)(y:px.ω.El):List SV:=Qgl (px.Zmb x y).T px.nr
def PX.Ku(px:PX)(x:px.O.El)(y:px.ω.El):List Qb:=(px.Zmb x y).H
structure Zi (cx:Cx) (g:Nat) (px:PX):Prop where
 fn:∃fn,cx.fns.lookup g=some fn
 ok:∀x y,px.code x=some y->Xt cx.P g (px.args x) (px.objs x) fun r H' t f=>r=X0 (px.res x y)∧H'=px.Ku x y∧(∀i∈t,i∈px.ids)∧∀i∈f,i∈px.mv
def Yjf:SV->Option Nat
 |.ptr s _ _ _=>some s
 |.sl s _ _ _=>some s
 |.mp s=>some s
 |_=>none
def Loc.find(args:List SV)(H:List Qb)(U:List Nat):Loc->Option SV
 |.arg i=>args[i]?
 |.cap l j=>match l.find args H U with
  |some (.fn _ _ b)=>b[j]?
  |_=>none
 |.fst l j=>match l.find args H U with
  |some (.fn _ a _)=>a[j]?
  |_=>none
 |.fld k j=>match U[k]? with
  |none=>none
  |some s=>match H[s]? with
   |none=>none
   |some o=>match Qaw o with
    |some (_,_,r)=>r[j]?
    |none=>none
def Qsm(args:List SV)(H:List Qb):List Loc->List Nat->Option (List Nat)
 |[],U=>some U
 |l::ls,U=>match l.find args H U with
  |none=>none
  |some x=>match Yjf x with
   |none=>none
   |some s=>Qsm args H ls (U++[s])
def idx:List Nat->Nat->Nat->Option Nat
 |[],_,_=>none
 |a::l,i,s=>match ZR a s with
  |true=>some i
  |false=>idx l (i+1) s
def Qkz(U:List Nat)(H:List Qb)(s:Nat):Qb:=match H[s]? with
 |some o=>o.Yb (idx U 0)
 |none=>.dead
def Uv(U:List Nat)(H:List Qb):List Qb:=U.map (Qkz U H)
def Qwa(U:List Nat)(args:List SV)(H:List Qb):St:=
 {T:=Qd0 (.full 8) 0 (Uy (idx U 0) args),H:=Uv U H,n0:=U.length,tch:=[],fg:=[],marks:=[],er:=[]}
def Qkj:List Nat->Bool
 |[]=>true
 |x::l=>!l.contains x&&Qkj l
def Ue(U:List Nat)(Hv:List Qb):List Nat->List Qb->List Qb
 |[],H=>H
 |k::ids,H=>Ue U Hv ids (match U[k]? with
  |none=>H
  |some s=>match Hv[k]? with
   |none=>H
   |some o=>H.set s (o.Yb fun k=>U[k]?))
def through(U:List Nat):List Nat->List Nat
 |[]=>[]
 |k::l=>match U[k]? with
  |some s=>s::through U l
  |none=>through U l
def PX.fit(px:PX)(U:List Nat)(args:List SV)(H:List Qb):Bool:=
 ZR U.length px.no&&(Qkj U&&((U.all fun s=>Nat.blt s H.length)&&(ZR args.length px.np&&(px.O.V8 (ZI px.no)&&((subset px.mv px.ids&&(px.ids.all fun k=>Nat.blt k px.no))&&(ZI px.no).all fun k=>px.ids.contains k||(px.O.cells.filterMap Qu.id?).contains k)))))
def PX.sm(px:PX):Sm where
 pre:=fun args H=>match Qsm args H px.locs []with
  |none=>false
  |some U=>px.fit U args H&&(px.O.read px.no (Qwa U args H)).isSome
 run:=fun X args H k=>match Qsm args H px.locs []with
  |none=>none
  |some U=>gd (px.fit U args H) (match Qf8 px.O [] (ZI px.no) [] px.no (Qwa U args H)with
   |none=>none
   |some x=>match px.code x with
    |none=>none
    |some y=>k ((X0 (px.res x y)).Yb fun k=>U[k]?) (Ue U (px.Ku x y) px.ids (W7 (through U px.mv) H)) (through U px.ids) (through U px.mv))
theorem Qn0:∀{U:List Nat} {i s k:Nat},idx U i s=some k->∃j,k=i+j∧U[j]? =some s
 |[],i,s,k,h=>by cases h
 |a::l,i,s,k,h=>by
  simp only[idx]at h;split at h
  ·rename_i e;cases h;exact⟨0,rfl,by simp[ZD e]⟩
  ·obtain⟨j,h1,h2⟩:=Qn0 h;exact⟨j+1,by omega,by simpa using h2⟩
theorem Qum:∀{U:List Nat},Qkj U=true->∀(i j s:Nat),U[i]? =some s->U[j]? =some s->i=j
 |[],_,i,j,s,h,_=>by simp at h
 |a::l,hn,i,j,s,hi,hj=>by
  simp only[Qkj,ZB,Bool.not_eq_true']at hn;have hna:a∉l:=by have:=hn.1;simpa using this
  cases i with
  |zero=>
   cases j with
   |zero=>rfl
   |succ j=>simp at hi hj;subst hi;exact absurd (ZE hj) hna
  |succ i=>
   cases j with
   |zero=>simp at hi hj;subst hj;exact absurd (ZE hi) hna
   |succ j=>have:=Qum hn.2 i j s (by simpa using hi) (by simpa using hj);omega
theorem Qvw{U:List Nat}{H:List Qb}{k:Nat}{o:Qb}(h:(Uv U H)[k]? =some o):∃s,U[k]? =some s∧o=Qkz U H s:=by unfold Uv at h;simp only[ZH,J]at h;obtain⟨s,hs,rfl⟩:=h;exact⟨s,hs,rfl⟩
def Jc(U:List Nat)(Z:Env):Env:=fun k=>match U[k]? with
 |some s=>Z s
 |none=>none
theorem Zbj{U:List Nat}{Z:Env}{s t:Nat}{p:Place}(h:idx U 0 s=some t)(hp:Z s=some p):Jc U Z t=some p:=by obtain⟨j,rfl,hj⟩:=Qn0 h;simp only[Jc,Nat.zero_add,hj];exact hp
theorem Mem.view{M:Qd}{Z:Env}{H:List Qb}{w:World}(hm:Mem M Z H w){U:List Nat}(hn:Qkj U=true):Mem M (Jc U Z) (Uv U H) w:=by
 have hobj:∀(k:Nat) (o:Qb),(Uv U H)[k]? =some o->o.live=true->∃(s:Nat) (x:Qb),U[k]? =some s∧H[s]? =some x∧o=x.Yb (idx U 0)∧x.live=true:=fun k o ho hl=>by
  obtain⟨s,hs,rfl⟩:=Qvw ho;unfold Qkz at hl⊢;split at hl
  ·rename_i x hx;rw[Uq]at hl;exact⟨s,x,hs,hx,rfl,hl⟩
  ·cases hl
 refine⟨hm.imm,fun k o ho=>?_,fun k o p b ho hl hp hb=>?_,fun k k' o o' p p' b ho ho' hl hl' hp hp' hb hb'=>?_,fun k hk=>?_,fun k o p b ho hl hp hb=>?_⟩
 ·obtain⟨s,hs,rfl⟩:=Qvw ho;unfold Qkz;split
  ·rename_i x hx;exact(hm.own s x hx).Yb M.le_refl (fun s t p h hp=>Zbj h hp) (by simp only[Jc,hs]) (fun _ _ _ _=>rfl)
  ·trivial
 ·obtain⟨s,x,h1,h2,_,h4⟩:=hobj k o ho hl;simp only[Jc,h1]at hp;exact hm.seps s x p b h2 h4 hp hb
 ·obtain⟨s,x,h1,h2,_,h4⟩:=hobj k o ho hl;obtain⟨s',x',k1,k2,_,k4⟩:=hobj k' o' ho' hl';simp only[Jc,h1]at hp;simp only[Jc,k1]at hp';have:=hm.diss s s' x x' p p' b h2 k2 h4 k4 hp hp' hb hb';subst this;exact Qum hn k k' s h1 k1
 ·simp only[Jc];rw[QE (by simpa[Uv]using hk)]
 ·obtain⟨s,x,h1,h2,_,h4⟩:=hobj k o ho hl;simp only[Jc,h1]at hp;exact hm.lts s x p b h2 h4 hp hb
theorem Yfp{Z:Env}{H:List Qb}{U:List Nat}{b:Nat}(h:J4 (Jc U Z) (Uv U H) b):∃(k s:Nat) (x:Qb) (p:Place),U[k]? =some s∧H[s]? =some x∧x.live=true∧Z s=some p∧p.has b:=by
 obtain⟨k,o,p,h1,h2,h3,h4⟩:=h;obtain⟨s,hs,rfl⟩:=Qvw h1;unfold Qkz at h2;split at h2
 ·rename_i x hx;rw[Uq]at h2;simp only[Jc,hs]at h3;exact⟨k,s,x,p,hs,hx,h2,h3,h4⟩
 ·cases h2
theorem Qvf{U:List Nat}{Hv:List Qb}:∀{ids:List Nat} {H:List Qb},(Ue U Hv ids H).length=H.length
 |[],H=>rfl
 |k::ids,H=>by
  simp only[Ue];rw[Qvf];split
  ·rfl
  ·split
   ·rfl
   ·simp
theorem Zdd{U:List Nat}{Hv:List Qb}:∀{ids:List Nat} {H:List Qb} {s:Nat} {o:Qb},(Ue U Hv ids H)[s]? =some o->
  (∃k∈ids,U[k]? =some s∧∃x,Hv[k]? =some x∧o=x.Yb fun k=>U[k]?)∨(H[s]? =some o∧∀k∈ids,U[k]? =some s->Hv[k]? =none)
 |[],H,s,o,h=>.inr ⟨h,fun k hk=>by cases hk⟩
 |k::ids,H,s,o,h=>by
  simp only[Ue]at h;rcases Zdd h with⟨k',h1,h2⟩|⟨h1,h2⟩
  ·exact .inl ⟨k',ZT _ h1,h2⟩
  ·split at h1
   ·rename_i hk;exact .inr ⟨h1,fun k' hk' h3=>by
     rcases ZF.1 hk' with rfl|hk'
     ·rw[hk]at h3;cases h3
     ·exact h2 k' hk' h3⟩
   ·rename_i t hk;split at h1
    ·rename_i hv;exact .inr ⟨h1,fun k' hk' h3=>by
      rcases ZF.1 hk' with rfl|hk'
      ·exact hv
      ·exact h2 k' hk' h3⟩
    ·rename_i x hv;rw[List.getElem?_set]at h1;split at h1
     ·rename_i e;subst e;split at h1
      ·cases h1;exact .inl ⟨k,QL,hk,x,hv,rfl⟩
      ·cases h1
     ·rename_i e;exact .inr ⟨h1,fun k' hk' h3=>by
       rcases ZF.1 hk' with rfl|hk'
       ·rw[hk]at h3;cases h3;exact absurd rfl e
       ·exact h2 k' hk' h3⟩
theorem Qm1{U:List Nat}:∀{l:List Nat} {s:Nat},s∈through U l↔∃k∈l,U[k]? =some s
 |[],s=>by simp[through]
 |k::l,s=>by
  simp only[through];split
  ·rename_i t ht;rw[ZF,Qm1];constructor
   ·rintro (rfl|⟨k',h1,h2⟩)
    ·exact⟨k,QL,ht⟩
    ·exact⟨k',ZT _ h1,h2⟩
   ·rintro ⟨k',h1,h2⟩
    rcases ZF.1 h1 with rfl|h1
    ·rw[ht]at h2;cases h2;exact .inl rfl
    ·exact .inr ⟨k',h1,h2⟩
  ·rename_i ht;rw[Qm1];constructor
   ·rintro ⟨k',h1,h2⟩;exact⟨k',ZT _ h1,h2⟩
   ·rintro ⟨k',h1,h2⟩
    rcases ZF.1 h1 with rfl|h1
    ·rw[ht]at h2;cases h2
    ·exact⟨k',h1,h2⟩
theorem Ydw{T:TT}{n i:Nat}{x:SV}(h:(Qgl T n)[i]? =some x):i<n∧x=(T.get i).getD .any:=by
 unfold Qgl at h;simp only[ZH,J]at h;obtain⟨j,hj,rfl⟩:=h;by_cases hi:i<n
 ·rw[List.getElem?_range hi]at hj;cases hj;exact⟨hi,rfl⟩
 ·rw[QE (by simpa using hi)]at hj;cases hj
theorem Qwt(T:TT)(n:Nat):(Qgl T n).length=n:=by simp[Qgl]
theorem Ykt{M:Qd}{Z:Env}{H:List Qb}{w:World}{a:Act}(hm:Mem M Z H w)(D ids mv:List Nat):Qnr D ids mv (Wl H) M Z H a w:=
 ⟨rfl,fun t y _ hy=>(by rw[show(Wl H).T=TT.full 8 from rfl,TT.Qg8]at hy;cases hy),
  fun i o _ ho=>⟨(hm.own i o ho).forget M.le_refl (fun _ _ _ h=>h) rfl (fun _ _ _ _=>rfl),fun hl=>⟨o,ho,hl⟩⟩,fun i o _ ho hl=>⟨o,ho,hl⟩⟩
theorem Yly{M:Qd}{Z:Env}{H:List Qb}{w:World}{a:Act}{n:Nat}(hn:H.length=n):Qnr [] (ZI n) [] (Wl (Kz n)) M Z H a w:=
 ⟨by simp[Wl,Kz,hn],fun t y _ hy=>(by rw[show(Wl (Kz n)).T=TT.full 8 from rfl,TT.Qg8]at hy;cases hy),
  fun i o hi ho=>absurd (QH.2 (by simpa[Wl,Kz]using(C.1 ho).1)) hi,
  fun i o hi ho hl=>absurd (QH.2 (by rw[<-hn];exact(C.1 ho).1)) hi⟩
def Qbx(vs:List Value):Act:={tmps:=vs.toArray,defers:=[]}
theorem Zk6(vs:List Value)(i:Nat)(v:Value)(h:vs[i]? =some v):(Qbx vs).tmps.getD i undef=v:=by have:i<vs.length:=(C.1 h).1;simp[Qbx,Array.getD,this];rw[ZA this]at h;simpa using h
theorem Zgb{M:Qd}{Z:Env}{H:List Qb}{w:World}{vs:List Value}{xs:List SV}{n:Nat}{tch fg:List Nat}(hm:Mem M Z H w)(hr:J0 M Z vs xs)(hn:n<=H.length):
  Good (fun t=>(Qbx vs).tmps.getD t undef) vs.length M Z {T:=Qd0 (.full 8) 0 xs,H:=H,n0:=n,tch:=tch,fg:=fg,marks:=[],er:=[]} (Qbx vs) w:=by
 refine⟨fun t x hx=>?_,by simp[Qbx],hm,⟨rfl,fun i d s h=>by simp[Qbx]at h⟩,fun m h=>(by cases h),hn,fun t _=>rfl⟩;rcases Qvm xs (.full 8) 0 t x (fun t x h=>by rw[TT.Qg8]at h;cases h) hx with h|⟨_,h⟩
 ·rw[TT.Qg8]at h;cases h
 ·rw[Nat.sub_zero]at h;have hlt:t<vs.length:=by rw[hr.1];exact(C.1 h).1
  rw[Zk6 vs t vs[t] (ZA hlt)];exact hr.2 t vs[t] x (ZA hlt) h
theorem Zgp{B:Nat->Value}{nt n:Nat}{M:Qd}{Z:Env}{s:St}{vs:List Value}{w:World}(hg:Good B nt M Z s (Qbx vs) w)(hn:vs.length=n):J0 M Z vs (Qgl s.T n):=by
 refine⟨by rw[Qwt,hn],fun i v x hv hx=>?_⟩;obtain⟨hi,rfl⟩:=Ydw hx;cases hT:s.T.get i with
 |none=>exact .any _
 |some y=>have:=hg.tm i y hT;rwa[Zk6 vs i v hv]at this
theorem Yim{M:Qd}{Z:Env}{H:List Qb}{w:World}{n:Nat}(hn:H.length<=n):M.sealing Z H n w=M:=by
 funext b;unfold Qd.sealing;cases M b with
 |some o=>rfl
 |none=>
  simp only;rw[if_neg]
  rintro ⟨s,o,p,h1,h2,_⟩
  have:=(C.1 h2).1;omega
theorem PX.Qq{cx:Cx}{g:Nat}{px:PX}(h:Zi cx g px):Qfd cx g px.sm:=by
 refine⟨h.fn,fun X args H k y hk=>?_⟩;have hk:(match Qsm args H px.locs []with
  |none=>none
  |some U=>gd (px.fit U args H) (match Qf8 px.O [] (ZI px.no) [] px.no (Qwa U args H)with
   |none=>none
   |some x=>match px.code x with
    |none=>none
    |some y=>k ((X0 (px.res x y)).Yb fun k=>U[k]?) (Ue U (px.Ku x y) px.ids (W7 (through U px.mv) H)) (through U px.ids) (through U px.mv)))=some y:=hk
 split at hk
 ·cases hk
 ·rename_i U hσ;obtain⟨hfit,hk⟩:=Yy hk;split at hk
  ·cases hk
  ·rename_i x hx;split at hk
   ·cases hk
   ·rename_i z hz;simp only[PX.fit,ZB]at hfit;obtain⟨f1,f2,f3,f4,f5,⟨f6,f7⟩,f8⟩:=hfit;have hno:U.length=px.no:=ZD f1;have hnp:args.length=px.np:=ZD f4;have hlt:∀k s:Nat,U[k]? =some s->s<H.length:=fun k s h=>Qa1 (ZP.1 f3 s (ZE h));obtain⟨r1,c,hc,r2⟩:=Qwf hx;intro M Z w vs hm hr;have hmv:=hm.view f2;have hrv:J0 M (Jc U Z) vs (Uy (idx U 0) args):=by rw[Qpt];refine⟨by rw[QD];exact hr.1,fun i v x hv hx=>?_⟩;simp only[ZH,J]at hx;obtain⟨u,hu,rfl⟩:=hx;exact(hr.2 i v u hv hu).Yb M.le_refl fun s t p h hp=>Zbj h hp
    have hlen:(Uv U H).length=px.no:=by simp[Uv,hno]
    have hbl:(Wl (Kz px.no)).H.length=px.no:=by simp[Wl,Kz]
    have hg:=Zgb (n:=U.length) (tch:=[]) (fg:=[]) hmv hrv (by rw[hlen,hno];exact ZN _);obtain⟨M2,ρ2,g1,g2,e1,e2⟩:=Qbu (O:=px.O) (D:=[]) (ids:=ZI px.no) (mv:=[]) (b:=Wl (Kz px.no)) (H0:=Uv U H) (M0:=M) (ρ0:=Jc U Z) (a0:=Qbx vs) (w0:=w) (fun _ _=>rfl) (Yly hlen) hmv hg
     (Fr.refl ..) rfl f5 (by rw[hbl];exact r1) (by rw[hbl];exact r2) hc
    rw[hbl]at e1 e2;have e1:M2=M:=by rw[e1];exact Yim (by show(Uv U H).length<=px.no;rw[hlen];exact ZN _)
    have e2:ρ2=Jc U Z:=by rw[e2,<-hlen];exact Zbc hmv
    subst e1;subst e2;have hm2:Mem M2 (Jc U Z) (px.objs x) w:=g1.mem;have hol:(px.objs x).length=px.no:=by show(px.O.st [] (ZI px.no) [] (Wl (Kz px.no)) x).H.length=_;rw[Qm.Qha,Qi6,Qh9,Qg3,hbl]
    have hreps:J0 M2 (Jc U Z) vs (px.args x):=Zgp g1 (by rw[hr.1,hnp]);have hown:∀b,b<w.heap.size->J4 (Jc U Z) (px.objs x) b->∃(k s:Nat) (x:Qb) (p:Place),U[k]? =some s∧H[s]? =some x∧x.live=true∧Z s=some p∧p.has b:=fun b hb ho=>by
     rcases g2.own b ho with h1|h1
     ·omega
     ·exact Yfp h1
    refine(h.ok x z hz M2 (Jc U Z) w vs hm2 hreps).mono ?_
    rintro e w' ⟨v,r,H',M',Z',t,f,he,⟨rfl,rfl,ht,hf⟩,hs,hm',hfr⟩
    let ρ3:Env:=fun s=>match idx U 0 s with
     |some k=>Z' k
     |none=>Z s
    have hidx:∀k s:Nat,U[k]? =some s->idx U 0 s=some k:=fun k s hks=>by
     have key:∀(l:List Nat) (i j:Nat),l[j]? =some s->∃k,idx l i s=some k:=by
      intro l;induction l with
      |nil=>intro i j h;simp at h
      |cons a l ih=>
       intro i j h;simp only[idx];cases hb:ZR a s with
       |true=>exact⟨i,rfl⟩
       |false=>
        cases j with
        |zero=>simp at h;subst h;rw[Nat.beq_refl]at hb;cases hb
        |succ j=>exact ih (i+1) j (by simpa using h)
     obtain⟨k',hk'⟩:=key U 0 k hks;obtain⟨j,e,hj⟩:=Qn0 hk';have e:k'=j:=by omega
     subst e;rw[hk',Qum f2 k' k s hj hks]
    have hρ3:∀k s:Nat,U[k]? =some s->ρ3 s=Z' k:=fun k s hks=>by simp only[ρ3,hidx k s hks]
    have hρ3':∀s:Nat,(∀k:Nat,U[k]? ≠some s)->ρ3 s=Z s:=fun s hns=>by
     have:idx U 0 s=none:=by
      cases hi:idx U 0 s with
      |none=>rfl
      |some k=>obtain⟨j,_,hj⟩:=Qn0 hi;exact absurd hj (hns j)
     simp only[ρ3,this]
    have hstay:∀k s:Nat,U[k]? =some s->k∉px.mv->ρ3 s=Z s:=fun k s hks hkm=>by
     rw[hρ3 k s hks];have hklt:k<(px.objs x).length:=by rw[hol,<-hno];exact(C.1 hks).1
     rw[hfr.stay k hklt fun h=>hkm (hf k h)];simp only[Jc,hks]
    have hback:∀s t p,(fun k=>U[k]?) s=some t->Z' s=some p->ρ3 t=some p:=fun k s p hks hp=>by rw[hρ3 k s hks];exact hp
    have hmvi:∀k,k∈px.mv->k∈px.ids:=fun k hk=>Qb3 f6 hk;have hkeep:∀k s:Nat,U[k]? =some s->k∉px.ids->∀o,H[s]? =some o->o.live=true->(∃o':Qb,(px.Ku x z)[k]? =some o'∧o'.live=true)∧∀p,Z s=some p->Z' k=some p∧∀b,p.has b->w'.heap[b]? =w.heap[b]? :=fun k s hks hki o ho hl=>by
     have hkn:k<px.no:=by rw[<-hno];exact(C.1 hks).1
     have hcell:k∈px.O.cells.filterMap Qu.id? :=by have:=ZP.1 f8 k (QH.2 hkn);simp only[QQ,List.contains_eq_mem,decide_eq_true_eq]at this;exact this.resolve_left hki
     have hko:k<(px.objs x).length:=by rw[hol];exact hkn
     obtain⟨ok,hok⟩:∃ok,(px.objs x)[k]? =some ok:=⟨_,ZA hko⟩;have hokl:ok.live=true:=by
      have hok':(px.O.st [] (ZI px.no) [] (Wl (Kz px.no)) x).H[k]? =some ok:=hok;rw[Qm.Qha]at hok';rcases Qkp hok' with⟨c',z',hi,hid,rfl⟩|⟨hni,_⟩
      ·cases c' with
       |slot=>cases hid
       |_=>rfl
      ·exact absurd hcell hni
     obtain⟨a1,a2⟩:=hfr.keep k ok hko (fun h=>hki (ht k h)) hok hokl;exact⟨a1,fun p hp=>a2 p (by simp only[Jc,hks];exact hp)⟩
    have hother:∀s o p b,H[s]? =some o->o.live=true->Z s=some p->p.has b->(∀k:Nat,U[k]? ≠some s)->¬J4 (Jc U Z) (px.objs x) b:=fun s o p b ho hl hp hb hns hw=>by obtain⟨k,s',x',p',h1,h2,h3,h4,h5⟩:=hown b (hm.Wc ho hl hp hb) hw;have:=hm.diss s' s x' o p' p b h2 ho h3 hl h4 hp h5 hb;subst this;exact hns k h1
    have hsame:∀s o,H[s]? =some o->o.live=true->(∀k:Nat,U[k]? =some s->k∉px.ids)->∀p,Z s=some p->ρ3 s=some p∧∀b,p.has b->w'.heap[b]? =w.heap[b]? :=fun s o ho hl hni p hp=>by
     by_cases hin:∃k:Nat,U[k]? =some s
     ·obtain⟨k,hks⟩:=hin;obtain⟨_,a2⟩:=hkeep k s hks (hni k hks) o ho hl;obtain⟨b1,b2⟩:=a2 p hp;exact⟨by rw[hρ3 k s hks];exact b1,b2⟩
     ·have hns:∀k:Nat,U[k]? ≠some s:=fun k h=>hin ⟨k,h⟩;exact⟨by rw[hρ3' s hns];exact hp,fun b hb=>hfr.same b (hm.Wc ho hl hp hb) (hother s o p b ho hl hp hb hns)⟩
    have hsplit:∀s o,(Ue U (px.Ku x z) px.ids (W7 (through U px.mv) H))[s]? =some o->
      (∃k∈px.ids,U[k]? =some s∧∃q,(px.Ku x z)[k]? =some q∧o=q.Yb fun k=>U[k]?)∨
      (∃q,H[s]? =some q∧(o=q.forget (through U px.mv)∨(through U px.mv=[]∧o=q))∧∀k:Nat,U[k]? =some s->k∉px.ids):=fun s o ho=>by
     rcases Zdd ho with h1|⟨h1,h2⟩
     ·exact .inl h1
     ·obtain⟨q,q1,q2⟩:=Qxm h1;refine .inr ⟨q,q1,q2,fun k hks hki=>?_⟩;have hkn:k<px.no:=Qa1 (ZP.1 f7 k hki);have:k<(px.Ku x z).length:=by show k<(px.ω.st [] px.ids px.mv (Wl (px.objs x)) z).H.length;rw[Qm.Qha,Qi6,Qh9,Qg3];show k<(px.objs x).length;rw[hol];exact hkn
      have hn:=h2 k hki hks;rw[ZA this]at hn;cases hn
    have hlf:∀(q o:Qb),(o=q.forget (through U px.mv)∨(through U px.mv=[]∧o=q))->o.live=q.live:=fun q o h=>by
     rcases h with rfl|⟨_,rfl⟩
     ·exact Qb1 _ q
     ·rfl
    have hbut:Env.Qai (through U px.mv) Z ρ3:=fun s p hs hp=>by
     have hs:s∉through U px.mv:=by simpa using hs
     by_cases hin:∃k:Nat,U[k]? =some s
     ·obtain⟨k,hks⟩:=hin;rw[hstay k s hks fun hkm=>hs (Qm1.2 ⟨k,hkm,hks⟩)];exact hp
     ·rw[hρ3' s fun k h=>hin ⟨k,h⟩];exact hp
    have hmem3:Mem M' ρ3 (Ue U (px.Ku x z) px.ids (W7 (through U px.mv) H)) w':=by
     refine⟨hm'.imm,fun s o ho=>?_,fun s o p b ho hl hp hb=>?_,fun s s' o o' p p' b ho ho' hl hl' hp hp' hb hb'=>?_,fun s hs=>?_,fun s o p b ho hl hp hb=>?_⟩
     ·rcases hsplit s o ho with⟨k,hki,hks,q,hq,rfl⟩|⟨q,hq,hqo,hni⟩
      ·exact(hm'.own k q hq).Yb M'.le_refl hback (hρ3 k s hks) (fun _ _ _ _=>rfl)
      ·by_cases hl:q.live=true
       ·have hρs:ρ3 s=Z s:=by
         by_cases hin:∃k:Nat,U[k]? =some s
         ·obtain⟨k,hks⟩:=hin;exact hstay k s hks fun hkm=>hni k hks (hmvi k hkm)
         ·exact hρ3' s fun k h=>hin ⟨k,h⟩
        have:=(hm.own s q hq).forget (d:=through U px.mv) hfr.imm hbut hρs fun p b hp hb=>(hsame s q hq hl hni p hp).2 b hb;rcases hqo with rfl|⟨e,rfl⟩
        ·exact this
        ·rwa[e,Qb.Uo]at this
       ·have e0:=Qbv hl;subst e0;rcases hqo with rfl|⟨_,rfl⟩<;>trivial
     ·rcases hsplit s o ho with⟨k,hki,hks,q,hq,rfl⟩|⟨q,hq,hqo,hni⟩
      ·rw[Uq]at hl;rw[hρ3 k s hks]at hp;exact hm'.seps k q p b hq hl hp hb
      ·rw[hlf q o hqo]at hl;by_cases hin:∃k:Nat,U[k]? =some s
       ·obtain⟨k,hks⟩:=hin;obtain⟨⟨o',a1,a2⟩,_⟩:=hkeep k s hks (hni k hks) q hq hl;rw[hρ3 k s hks]at hp;exact hm'.seps k o' p b a1 a2 hp hb
       ·have hns:∀k:Nat,U[k]? ≠some s:=fun k h=>hin ⟨k,h⟩;rw[hρ3' s hns]at hp;cases e:M' b with
        |none=>rfl
        |some ob=>
         rcases hfr.new b ob (hm.seps s q p b hq hl hp hb) e with h1|h1
         ·have:=hm.Wc hq hl hp hb;omega
         ·exact absurd h1 (hother s q p b hq hl hp hb hns)
     ·
      have htw:∀s o p,(Ue U (px.Ku x z) px.ids (W7 (through U px.mv) H))[s]? =some o->o.live=true->ρ3 s=some p->
        (∃k q,U[k]? =some s∧(px.Ku x z)[k]? =some q∧q.live=true∧Z' k=some p)∨((∀k:Nat,U[k]? ≠some s)∧∃q,H[s]? =some q∧q.live=true∧Z s=some p):=fun s o p ho hl hp=>by
       rcases hsplit s o ho with⟨k,hki,hks,q,hq,rfl⟩|⟨q,hq,hqo,hni⟩
       ·rw[Uq]at hl;rw[hρ3 k s hks]at hp;exact .inl ⟨k,q,hks,hq,hl,hp⟩
       ·rw[hlf q o hqo]at hl;by_cases hin:∃k:Nat,U[k]? =some s
        ·obtain⟨k,hks⟩:=hin;obtain⟨⟨o',a1,a2⟩,_⟩:=hkeep k s hks (hni k hks) q hq hl;rw[hρ3 k s hks]at hp;exact .inl ⟨k,o',hks,a1,a2,hp⟩
        ·have hns:∀k:Nat,U[k]? ≠some s:=fun k h=>hin ⟨k,h⟩;rw[hρ3' s hns]at hp;exact .inr ⟨hns,q,hq,hl,hp⟩
      have hcross:∀(k s':Nat) (q:Qb) (q':Qb) (p p':Place),(px.Ku x z)[k]? =some q->q.live=true->Z' k=some p->(∀k:Nat,U[k]? ≠some s')->H[s']? =some q'->q'.live=true->Z s'=some p'->p.has b->p'.has b->False:=fun k s' q q' p p' h1 h2 h3 h4 h5 h6 h7 h8 h8'=>by
       have hlt2:=hm.Wc h5 h6 h7 h8';rcases hfr.own b ⟨k,q,p,h1,h2,h3,h8⟩with h9|h9
       ·omega
       ·exact hother s' q' p' b h5 h6 h7 h8' h4 h9
      rcases htw s o p ho hl hp with⟨k,q,a1,a2,a3,a4⟩|⟨a1,q,a2,a3,a4⟩
      ·rcases htw s' o' p' ho' hl' hp' with⟨k',q',b1,b2,b3,b4⟩|⟨b1,q',b2,b3,b4⟩
       ·have:=hm'.diss k k' q q' p p' b a2 b2 a3 b3 a4 b4 hb hb';subst this;rw[a1]at b1;cases b1;rfl
       ·exact(hcross k s' q q' p p' a2 a3 a4 b1 b2 b3 b4 hb hb').elim
      ·rcases htw s' o' p' ho' hl' hp' with⟨k',q',b1,b2,b3,b4⟩|⟨b1,q',b2,b3,b4⟩
       ·exact(hcross k' s q' q p' p b2 b3 b4 a1 a2 a3 a4 hb' hb).elim
       ·exact hm.diss s s' q q' p p' b a2 b2 a3 b3 a4 b4 hb hb'
     ·rw[Qvf,Qg3]at hs;have hns:∀k:Nat,U[k]? ≠some s:=fun k h=>by have:=hlt k s h;omega
      rw[hρ3' s hns];exact hm.fresh s hs
     ·rcases hsplit s o ho with⟨k,hki,hks,q,hq,rfl⟩|⟨q,hq,hqo,hni⟩
      ·rw[Uq]at hl;rw[hρ3 k s hks]at hp;exact hm'.lts k q p b hq hl hp hb
      ·rw[hlf q o hqo]at hl;by_cases hin:∃k:Nat,U[k]? =some s
       ·obtain⟨k,hks⟩:=hin;obtain⟨⟨o',a1,a2⟩,_⟩:=hkeep k s hks (hni k hks) q hq hl;rw[hρ3 k s hks]at hp;exact hm'.lts k o' p b a1 a2 hp hb
       ·have hns:∀k:Nat,U[k]? ≠some s:=fun k h=>hin ⟨k,h⟩;rw[hρ3' s hns]at hp;exact QM (hm.lts s q p b hq hl hp hb) hfr.grow
    refine⟨v,_,_,M',ρ3,_,_,he,hk,hs.Yb M'.le_refl hback,hmem3,?_⟩;have hup:∀b,b<w.heap.size->J4 (Jc U Z) (px.objs x) b->J4 Z H b:=fun b hb ho=>by obtain⟨k,s,x',p,h1,h2,h3,h4,h5⟩:=hown b hb ho;exact⟨s,x',p,h2,h3,h4,h5⟩
    refine⟨hfr.imm,fun b ob h0 h1=>?_,fun b hb=>?_,fun b hb hno2=>hfr.same b hb fun ho=>hno2 (hup b hb ho),hfr.grow,fun s o hsn hst ho hl=>?_,fun s hsn hsm=>?_,hfr.io⟩
    ·rcases hfr.new b ob h0 h1 with h2|h2
     ·exact .inl h2
     ·by_cases hb:b<w.heap.size
      ·exact .inr (hup b hb h2)
      ·exact .inl (by omega)
    ·obtain⟨s,o,p,h1,h2,h3,h4⟩:=hb;rcases hsplit s o h1 with⟨k,hki,hks,q,hq,rfl⟩|⟨q,hq,hqo,hni⟩
     ·rw[Uq]at h2;rw[hρ3 k s hks]at h3;rcases hfr.own b ⟨k,q,p,hq,h2,h3,h4⟩with h5|h5
      ·exact .inl h5
      ·by_cases hb:b<w.heap.size
       ·exact .inr (hup b hb h5)
       ·exact .inl (by omega)
     ·rw[hlf q o hqo]at h2;refine .inr ⟨s,q,p,hq,h2,?_,h4⟩;by_cases hin:∃k:Nat,U[k]? =some s
      ·obtain⟨k,hks⟩:=hin;rw[hstay k s hks fun hkm=>hni k hks (hmvi k hkm)]at h3;exact h3
      ·rw[hρ3' s fun k h=>hin ⟨k,h⟩]at h3;exact h3
    ·have hni:∀k:Nat,U[k]? =some s->k∉px.ids:=fun k hks hki=>hst (Qm1.2 ⟨k,hki,hks⟩);refine⟨?_,hsame s o ho hl hni⟩;have hlen2:s<(Ue U (px.Ku x z) px.ids (W7 (through U px.mv) H)).length:=by rw[Qvf,Qg3];exact hsn
     obtain⟨o2,ho2⟩:∃o2,(Ue U (px.Ku x z) px.ids (W7 (through U px.mv) H))[s]? =some o2:=⟨_,ZA hlen2⟩;refine⟨o2,ho2,?_⟩;rcases hsplit s o2 ho2 with⟨k,hki,hks,_⟩|⟨q,hq,hqo,_⟩
     ·exact absurd hki (hni k hks)
     ·rw[ho]at hq;cases hq;rw[hlf o o2 hqo];exact hl
    ·by_cases hin:∃k:Nat,U[k]? =some s
     ·obtain⟨k,hks⟩:=hin;exact hstay k s hks fun hkm=>hsm (Qm1.2 ⟨k,hkm,hks⟩)
     ·exact hρ3' s fun k h=>hin ⟨k,h⟩
def Zfy(cx:Cx)(fn:Func)(px:PX):KX px.ω.El:=fun e s=>
 gd (Qlu e&&(s.marks.isEmpty||QO px.no s.H.length)) (match shut s.marks s.H with
  |none=>none
  |some H'=>Qef cx {s with H:=H',marks:=[]} fn.results.toList fun l=>
   gd (ZR l.length px.nr) (Qf8 px.ω [] px.ids px.mv px.no {T:=Qd0 (.full 8) 0 l,H:=H',n0:=px.no,tch:=s.tch,fg:=s.fg,marks:=[],er:=[]}))
def Qr6(cx:Cx)(lx:Lx)(n:Nat)(an:Zb)(fn:Func)(c:Code)(px:PX)(x:px.O.El):Option px.ω.El:=
 Xz cx lx n px.ω.El (Yo.eqv px.ω.cells) an true fn.ntmps c (.entry (px.args x) (px.objs x)) (Zfy cx fn px)
theorem Zys{cx:Cx}{fn:Func}{px:PX}{e:Exit}{s:St}{y:px.ω.El}(h:Zfy cx fn px e s=some y):
  (e = .normal ∨ e = .ret) ∧ (px.no <= s.H.length ∨ s.marks = []) ∧ ∃ H',shut s.marks s.H = some H' ∧ Qac cx { s with H := H',marks := [] } fn.results.toList fun l =>
   l.length=px.nr∧Qf8 px.ω [] px.ids px.mv px.no {T:=Qd0 (.full 8) 0 l,H:=H',n0:=px.no,tch:=s.tch,fg:=s.fg,marks:=[],er:=[]}=some y:=by
 obtain⟨h1,h⟩:=Yy h;simp only[ZB,QQ,List.isEmpty_iff]at h1;refine⟨Qoe h1.1,h1.2.symm.imp (fun h=>ZL h) id,?_⟩;split at h
 ·cases h
 ·rename_i H' hs;refine⟨H',hs,Qdf _ _ _ (fun l hl=>?_) (Qgq _ _ h)⟩;obtain⟨h2,hl⟩:=Yy hl;exact⟨ZD h2,hl⟩
theorem PX.Qtj(px:PX)(x:px.O.El):(px.objs x).length=px.no:=by show(px.O.st [] (ZI px.no) [] (Wl (Kz px.no)) x).H.length=_;rw[Qm.Qha,Qi6,Qh9,Qg3];simp[Wl,Kz]
theorem Ye4{M:Qd}{Z:Env}{v:Value}{l:List SV}(h:Qf M Z v (X0 l)):∃vs:List Value,J0 M Z vs l∧∀(M2:Qd) (ρ2:Env) (l2:List SV),l2.length=l.length->J0 M2 ρ2 vs l2->Qf M2 ρ2 v (X0 l2):=by
 match l,h with
 |[x],h=>
  refine⟨[v],⟨rfl,fun i u y hu hy=>?_⟩,fun M2 ρ2 l2 hl hr=>?_⟩
  ·cases i with
   |zero=>simp at hu hy;subst hu;subst hy;exact h
   |succ i=>simp at hu
  ·match l2,hl,hr with
   |[y],_,hr=>exact hr.2 0 v y rfl rfl
 |[],h=>
  have h:Qf M Z v (.tup []):=h;cases h with
  |tup cs _ hl hr=>
   refine⟨cs.toList,⟨by simpa using hl,fun i u y hu hy=>by simp at hy⟩,fun M2 ρ2 l2 hl2 hr2=>?_⟩;match l2,hl2 with
   |[],_=>exact .tup cs _ hl fun i v x hv hx=>by simp at hx
 |a::b::l,h=>
  have h:Qf M Z v (.tup (a::b::l)):=h;cases h with
  |tup cs _ hl hr=>
   refine⟨cs.toList,⟨by simpa using hl,fun i u y hu hy=>hr i u y (by rw[<-QF];exact hu) hy⟩,fun M2 ρ2 l2 hl2 hr2=>?_⟩;match l2,hl2,hr2 with
   |x::y::l2,hl2,hr2=>exact .tup cs _ (by rw[hl,hl2]) fun i v z hv hz=>hr2.2 i v z (by rw[QF];exact hv) hz
theorem Zi.Z6{cx:Cx}(hcx:cx.Ok){lx:Lx}(hlx:lx.Ok cx){n g:Nat}{an:Zb}{fn:Func}{c:Code}{px:PX}(hf:cx.fns.lookup g=some fn)(hb:fn.body=some c)
  (hcode:∀x y,px.code x=some y->Qr6 cx lx n an fn c px x=some y) (hn:QO px.np fn.ntmps=true) (hcov:(px.ω.V8 px.ids&&subset px.mv px.ids)=true):Zi cx g px:=by
 rw[ZB]at hcov;refine⟨⟨fn,hf⟩,fun x y hy=>?_⟩;have hw:=(Qsg hcx hlx n).1 _ _ (Yo.eqv_ok px.ω.cells) none an true fn.ntmps c _ _ y (fun _=>rfl) (hcode x y hy);have hcall:Xt cx.P g (px.args x) (px.objs x) fun r H' t f=>∃l,r=X0 l∧l.length=px.nr∧Qf8 px.ω [] px.ids px.mv px.no {T:=Qd0 (.full 8) 0 l,H:=H',n0:=px.no,tch:=t,fg:=f,marks:=[],er:=[]}=some y:=by refine Qsy hcx hf hb (by rw[show(px.args x).length=px.np from Qwt _ _];exact ZL hn) (hw.mono fun e s hs=>?_);obtain⟨h1,h1',H',h2,h3⟩:=Zys hs;exact⟨h1,h1'.imp (fun h=>by rw[px.Qtj];exact h) id,H',h2,Qdf _ _ _ (fun l h4=>⟨l,rfl,h4⟩) h3⟩
 intro M Z w vs hm hr;refine(hcall M Z w vs hm hr).mono ?_
 rintro e w' ⟨v,r,H',M',Z',t,f,he,⟨l,rfl,hl,hrd⟩,hs,hm',hfr⟩
 obtain⟨us,hus,hback⟩:=Ye4 hs;obtain⟨r1,c',hc,r2⟩:=Qwf hrd;have hno:px.no<=H'.length:=by simp only[St.reads,ZB]at r1;exact ZL r1.2.2.2.2
 have hg:=Zgb (n:=px.no) (tch:=t) (fg:=f) hm' hus hno;have hbl:(Wl (px.objs x)).H.length=px.no:=px.Qtj x;obtain⟨M2,ρ2,g1,g2,_,_⟩:=Qbu (O:=px.ω) (D:=[]) (ids:=px.ids) (mv:=px.mv) (b:=Wl (px.objs x)) (H0:=px.objs x) (M0:=M) (ρ0:=Z) (a0:=Qbx us) (w0:=w) (fun _ _=>rfl) (Ykt hm _ _ _) hm hg
  (by rw[hbl];rw[px.Qtj]at hfr;exact hfr) hcov.2 hcov.1 (by rw[hbl];exact r1) (by rw[hbl];exact r2) hc
 rw[hbl]at g2;have hus2:us.length=px.nr:=by rw[hus.1,hl]
 refine⟨v,_,_,M2,ρ2,px.ids,px.mv,he,⟨rfl,rfl,fun i h=>h,fun i h=>h⟩,hback M2 ρ2 _ (by rw[hl];exact Qwt _ _) (Zgp g1 hus2),g1.mem,?_⟩;rw[px.Qtj];exact g2
structure PF where
 ats:List Qe
 ty:Nat
 row:List Ty
 code:Qt ats->Option (List (Ql row))
structure Wh (cx:Cx) (g:Nat) (pf:PF):Prop where
 fn:∃fn,cx.fns.lookup g=some fn
 ok:∀a l,pf.code a=some l->Xt cx.P g (Yx pf.ats a) [] fun r H' t f=>r=.sl 0 pf.row.length 0 l.length∧H'=[.tvec pf.ty pf.row l]∧t=[]∧f=[]
def PF.sm(pf:PF):Sm where
 pre:=fun args H=>(rdL [] 0 pf.ats args).isSome
 run:=fun X args H k=>match rdL [] 0 pf.ats args with
  |some p=>gd p.1 (match pf.code p.2 with
   |some l=>k (.sl H.length pf.row.length 0 l.length) (H++[.tvec pf.ty pf.row l]) [] []
   |none=>none)
  |none=>none
theorem PF.Qq{cx:Cx}{g:Nat}{pf:PF}(h:Wh cx g pf):Qfd cx g pf.sm:=by
 refine⟨h.fn,fun X args H k y hk=>?_⟩;have hk:(match rdL [] 0 pf.ats args with
  |some p=>gd p.1 (match pf.code p.2 with
   |some l=>k (.sl H.length pf.row.length 0 l.length) (H++[.tvec pf.ty pf.row l]) [] []
   |none=>none)
  |none=>none)=some y:=hk
 split at hk
 ·rename_i p hrd;obtain⟨hc,hk⟩:=Yy hk;split at hk
  ·rename_i z hz;intro M Z w vs hm hr;obtain⟨l1,l2⟩:=Zbr (M:=M) (Z:=Z) (ρ2:=Wf) pf.ats args p.1 p.2 hrd hc;refine(h.ok p.2 z hz M Wf w vs (Ql6 hm.imm) ⟨by rw[hr.1,l1],fun i v x hv hx=>?_⟩).mono ?_
   ·obtain⟨x',hx'⟩:∃x',args[i]? =some x':=by
     have:i<args.length:=by rw[<-l1];exact(C.1 hx).1
     exact⟨_,ZA this⟩
    exact l2 i v x x' hx hx' (hr.2 i v x' hv hx')
   ·rintro e w' ⟨v,r,H',M',Z',t,f,he,⟨rfl,rfl,rfl,rfl⟩,hs,hm',hf⟩
    have hsame:∀b,b<w.heap.size->w'.heap[b]? =w.heap[b]? :=fun b hb=>hf.same b hb Qbw;have hnewb:∀q b,Z' 0=some q->q.has b->w.heap.size<=b:=fun q b hq hb=>by
     rcases hf.own b ⟨0,_,q,rfl,rfl,hq,hb⟩with h1|h1
     ·exact h1
     ·exact absurd h1 Qbw
    have hle:Z.le (Z.set H.length (Z' 0)):=fun s p hp=>by
     have:s≠H.length:=fun e=>by subst e;rw[hm.fresh _ (ZN _)]at hp;cases hp
     rw[Env.Xc _ _ this];exact hp
    have hobj:∀s o,(H++[Qb.tvec pf.ty pf.row z])[s]? =some o->(s<H.length∧H[s]? =some o)∨(s=H.length∧o=.tvec pf.ty pf.row z):=fun s o ho=>by
     rw[ZU]at ho;split at ho
     ·exact .inl ⟨by assumption,ho⟩
     ·rename_i hlt;have:s-H.length=0:=by have:=(C.1 ho).1;simp at this;omega
      rw[this]at ho;simp at ho;exact .inr ⟨by omega,ho.symm⟩
    have hset:∀s,s<H.length->(Z.set H.length (Z' 0)) s=Z s:=fun s hs=>Env.Xc _ _ (by omega);refine⟨v,_,_,M',Z.set H.length (Z' 0),[],[],he,hk,?_,?_,?_⟩
    ·generalize z.length=n at hs;cases hs with
     |sl _ _ _ _ c k q hq hkk hcc hnn h6=>exact .sl _ _ _ _ c k q (by rw[Env.set_self];exact hq) hkk hcc hnn h6
     |slz _ _ _ a=>exact .slz _ _ _ _
    ·refine⟨hm'.imm,fun s o ho=>?_,fun s o q b ho hl hq hb=>?_,fun s s1 o o1 q q1 b ho ho1 hl hl1 hq hq1 hb hb'=>?_,fun s hs=>?_,fun s o q b ho hl hq hb=>?_⟩
     ·rcases hobj s o ho with⟨hs,ho⟩|⟨rfl,rfl⟩
      ·by_cases hl:o.live=true
       ·exact(hm.own s o ho).mono hf.imm hle (hset s hs) fun p b hp hb=>hsame _ (hm.Wc ho hl hp hb)
       ·rw[Qbv hl];trivial
      ·have h0:=hm'.own 0 _ rfl;rcases h0 with⟨h1,h2⟩|⟨q,h1,h2⟩
       ·exact .inl ⟨by rw[Env.set_self];exact h1,h2⟩
       ·refine .inr ⟨q,by rw[Env.set_self];exact h1,?_⟩;obtain⟨cs,a1,a2,a3,a4,a5,a6⟩:=h2.ex;refine⟨cs,a1,a2,a3,a4,fun i j x v hx hv=>?_,a6⟩;obtain⟨b1,b2,b3⟩:=a5 i j x v hx hv;refine⟨b1,b2,?_⟩;unfold Y0 at hx;simp only[J]at hx;obtain⟨pp,_,rfl⟩:=hx;cases b3 with
        |pv b3=>exact .pv b3
     ·rcases hobj s o ho with⟨hs,ho⟩|⟨rfl,rfl⟩
      ·rw[hset s hs]at hq;cases e:M' b with
       |none=>rfl
       |some ob=>
        rcases hf.new b ob (hm.seps s o q b ho hl hq hb) e with h1|h1
        ·have:=hm.Wc ho hl hq hb;omega
        ·exact absurd h1 Qbw
      ·rw[Env.set_self]at hq;exact hm'.seps 0 _ q b rfl rfl hq hb
     ·rcases hobj s o ho with⟨hs,ho⟩|⟨rfl,rfl⟩<;>rcases hobj s1 o1 ho1 with⟨hs1,ho1⟩|⟨rfl,rfl⟩
      ·rw[hset s hs]at hq;rw[hset s1 hs1]at hq1;exact hm.diss s s1 o o1 q q1 b ho ho1 hl hl1 hq hq1 hb hb'
      ·rw[hset s hs]at hq;rw[Env.set_self]at hq1;have h1:=hm.Wc ho hl hq hb;have h2:=hnewb q1 b hq1 hb';omega
      ·rw[Env.set_self]at hq;rw[hset s1 hs1]at hq1;have h1:=hm.Wc ho1 hl1 hq1 hb';have h2:=hnewb q b hq hb;omega
      ·rfl
     ·have hs':H.length+1<=s:=by simpa using hs
      rw[Env.Xc _ _ (by omega)];exact hm.fresh s (by omega)
     ·rcases hobj s o ho with⟨hs,ho⟩|⟨rfl,rfl⟩
      ·rw[hset s hs]at hq;exact QM (hm.lts s o q b ho hl hq hb) hf.grow
      ·rw[Env.set_self]at hq;exact hm'.lts 0 _ q b rfl rfl hq hb
    ·refine⟨hf.imm,fun b o a c=>(hf.new b o a c).imp id fun h=>absurd h Qbw,fun b hb=>?_,fun b hb _=>hsame b hb,hf.grow,fun s o hs _ ho hl=>⟨⟨o,by rw[List.getElem?_append_left hs];exact ho,hl⟩,fun p hp=>⟨hle s p hp,fun b hb=>hsame _ (hm.Wc ho hl hp hb)⟩⟩,fun s hs _=>hset s hs,hf.io⟩;obtain⟨s,o,q,h1,h2,h3,h4⟩:=hb;rcases hobj s o h1 with⟨hs,ho⟩|⟨rfl,rfl⟩
     ·rw[hset s hs]at h3;exact .inr ⟨s,o,q,ho,h2,h3,h4⟩
     ·rw[Env.set_self]at h3;exact .inl (hnewb q b h3 h4)
  ·cases hk
 ·cases hk
def Qwx(ty:Nat)(row:List Ty)(H:List Qb)(r:SV):Option (List (Ql row)):=match r with
 |.pv (.lit (.slice none 0 0))=>some []
 |.sl k sz 0 n=>match H[k]? with
  |some (.tvec ty' row' l)=>match ZR ty' ty&&ZR sz row.length with
   |true=>match Ug row' row l with
    |some l=>gd (decide (n=l.length)) (some l)
    |none=>none
   |false=>none
  |_=>none
 |_=>none
def Qwg(ty:Nat)(row:List Ty)(H:List Qb):List SV->Option (List (Ql row))
 |[r]=>Qwx ty row H r
 |_=>none
def Yhm(cx:Cx)(fn:Func)(ty:Nat)(row:List Ty):KX (List (Ql row)):=fun e s=>
 gd (Qlu e) (match shut s.marks s.H with
  |none=>none
  |some H'=>Qef cx {s with H:=H',marks:=[]} fn.results.toList fun l=>Qwg ty row H' l)
def codeF(cx:Cx)(lx:Lx)(n:Nat)(an:Zb)(fn:Func)(c:Code)(ats:List Qe)(ty:Nat)(row:List Ty)(a:Qt ats):Option (List (Ql row)):=
 Xz cx lx n (List (Ql row)) (Wr (Ql.eqv row)) an true fn.ntmps c (.entry (Yx ats a) []) (Yhm cx fn ty row)
theorem Wh.Z6{cx:Cx}(hcx:cx.Ok){lx:Lx}(hlx:lx.Ok cx){n g:Nat}{an:Zb}{fn:Func}{c:Code}{pf:PF}(hf:cx.fns.lookup g=some fn)(hb:fn.body=some c)
  (hcode:∀a y,pf.code a=some y->codeF cx lx n an fn c pf.ats pf.ty pf.row a=some y) (hn:QO pf.ats.length fn.ntmps=true):Wh cx g pf:=by
 refine⟨⟨fn,hf⟩,fun a y hy=>?_⟩;have hlen:∀(l:List Qe) (x:Qt l),(Yx l x).length=l.length:=by
  intro l;induction l with
  |nil=>intro _;rfl
  |cons a l ih=>
   cases l with
   |nil=>intro _;rfl
   |cons b l=>intro x;simp only[Yx,List.length_cons,ih x.2]
 have hw:=(Qsg hcx hlx n).1 _ _ (Qdg (Ql.eqv_ok pf.row)) none an true fn.ntmps c _ _ y (fun _=>rfl) (hcode a y hy);have hcall:Xt cx.P g (Yx pf.ats a) [] fun r H' t f=>∃l,r=X0 l∧Qwg pf.ty pf.row H' l=some y:=by
  refine Qsy hcx hf hb (by rw[hlen];exact ZL hn) (hw.mono fun e s hs=>?_);obtain⟨h1,h⟩:=Yy hs;split at h
  ·cases h
  ·rename_i H' hsh;exact⟨Qoe h1,.inl (QI _),H',hsh,Qdf _ _ _ (fun l h4=>⟨l,rfl,h4⟩) (Qgq _ _ h)⟩
 intro M Z w vs hm hr;refine(hcall M Z w vs hm hr).mono ?_
 rintro e w' ⟨v,r,H',M',Z',t,f,he,⟨l,rfl,hrd⟩,hs,hm',hfr⟩
 obtain⟨x,rfl⟩:∃x,l=[x]:=by
  unfold Qwg at hrd;split at hrd
  ·exact⟨_,rfl⟩
  ·cases hrd
 replace hs:Qf M' Z' v x:=hs;replace hrd:Qwx pf.ty pf.row H' x=some y:=hrd;have key:∃q:Option Place,Qf M' (fun s=>bif ZR s 0 then q else none) v (.sl 0 pf.row.length 0 y.length)∧Q6 M' (fun s=>bif ZR s 0 then q else none) w' 0 (.tvec pf.ty pf.row y)∧
   (∀p,q=some p->p.subs=[]∧M' p.block=none∧(w.heap.size<=p.block∨J4 Z [] p.block)):=by
  unfold Qwx at hrd;split at hrd
  ·cases hrd;have:=hs.Zq;subst this;exact⟨none,.slz _ _ _ _,.inl ⟨rfl,rfl⟩,fun p h=>by cases h⟩
  ·rename_i k sz n;split at hrd
   ·rename_i ty' row' l0 ho;split at hrd
    ·rename_i hc;rw[ZB]at hc;have e1:=ZD hc.1;have e2:=ZD hc.2;subst e1;subst e2;split at hrd
     ·rename_i l1 hcast;obtain⟨hn2,hrd⟩:=Yy hrd;have hn2:=of_decide_eq_true hn2;have hrd:=Option.some.inj hrd;subst hrd;obtain⟨e3,e4⟩:=Qbd hcast;subst e3;have e4:l1=l0:=e4;subst e4;subst hn2;have hown:=hm'.own k _ ho;refine⟨(Z' k).map fun p=>⟨p.block,p.cap,[]⟩,?_,?_,fun p hp=>by obtain⟨p0,hp0,rfl⟩:=J.1 hp;exact⟨rfl,hm'.sep k _ p0 ho rfl hp0,hfr.own p0.block ⟨k,_,p0,ho,rfl,hp0,p0.self⟩⟩⟩
      ·generalize l1.length=m at hs;cases hs with
       |sl _ _ _ _ c k2 q hq hkk hcc hnn h6=>exact .sl _ _ _ _ c k2 ⟨q.block,q.cap,[]⟩ (by show(Z' k).map _=_;rw[hq];rfl) hkk hcc hnn h6
       |slz _ _ _ a=>exact .slz _ _ _ _
      ·rcases hown with⟨h1,h2⟩|⟨q,h1,h2⟩
       ·exact .inl ⟨by show(Z' k).map _=_;rw[h1];rfl,h2⟩
       ·refine .inr ⟨⟨q.block,q.cap,[]⟩,by show(Z' k).map _=_;rw[h1];rfl,?_⟩;obtain⟨cs,a1,a2,a3,a4,a5,a6⟩:=h2.ex;refine⟨cs,a1,a2,a3,a4,fun i j x v hx hv=>?_,a6⟩;obtain⟨b1,b2,b3⟩:=a5 i j x v hx hv;refine⟨b1,b2,?_⟩;unfold Y0 at hx;simp only[J]at hx;obtain⟨pp,_,rfl⟩:=hx;cases b3 with
        |pv b3=>exact .pv b3
     ·cases hrd
    ·cases hrd
   ·cases hrd
  ·cases hrd
 obtain⟨q,k1,k2,k3⟩:=key;have hone:∀(s:Nat) (o:Qb),([Qb.tvec pf.ty pf.row y]:List Qb)[s]? =some o->s=0∧o=.tvec pf.ty pf.row y:=fun s o h=>by
  match s,h with
  |0,h=>simp at h;exact⟨rfl,h.symm⟩
  |s+1,h=>simp at h
 refine⟨v,_,_,M',fun s=>bif ZR s 0 then q else none,[],[],he,⟨rfl,rfl,rfl,rfl⟩,k1,?_,?_⟩
 ·refine⟨hm'.imm,fun s o ho=>?_,fun s o p b ho hl hp hb=>?_,fun s s1 o o1 p p1 b ho ho1 _ _ _ _ _ _=>?_,fun s hs=>?_,fun s o p b ho hl hp hb=>?_⟩
  ·obtain⟨rfl,rfl⟩:=hone s o ho;exact k2
  ·obtain⟨rfl,rfl⟩:=hone s o ho;obtain⟨e1,e2,e3⟩:=k3 p hp;rcases hb with rfl|hb
   ·exact e2
   ·rw[e1]at hb;cases hb
  ·rw[(hone s o ho).1,(hone s1 o1 ho1).1]
  ·have hs:1<=s:=by simpa using hs
   have:ZR s 0=false:=V3 (by omega);simp only[this,cond_false]
  ·obtain⟨rfl,rfl⟩:=hone s o ho;rw[(k3 p hp).1]at hb;cases hb
 ·refine⟨hfr.imm,hfr.new,fun b hb=>?_,hfr.same,hfr.grow,fun s o hs=>absurd hs (QR s),fun s hs=>absurd hs (QR s),hfr.io⟩;obtain⟨s,o,p,h1,h2,h3,h4⟩:=hb;obtain⟨rfl,rfl⟩:=hone s o h1;obtain⟨e1,e2,e3⟩:=k3 p h3;rcases h4 with rfl|h4
  ·exact e3
  ·rw[e1]at h4;cases h4
noncomputable def pcT(cx:Cx)(lx:Lx)(an:Zb)(fn:Func)(c:Code)(ats rts:List Qe):PC:={ats:=ats,rts:=rts,code:=Zp cx lx 1000 an fn c ats rts}
theorem Zpx{cx:Cx}(hcx:cx.Ok){lx:Lx}(hlx:lx.Ok cx){g:Nat}{an:Zb}{fn:Func}{c:Code}{ats rts:List Qe}(hf:cx.fns.lookup g=some fn)(hb:fn.body=some c)
  (hn:QO ats.length fn.ntmps=true):Qg cx g (pcT cx lx an fn c ats rts):=Qg.Z6 hcx hlx (n:=1000) hf hb (fun _ _ h=>h) hn
def pxB(np:Nat)(locs:List Loc)(O:Qm)(nr:Nat)(ω:Qm)(ids mv:List Nat):PX:={np:=np,locs:=locs,O:=O,nr:=nr,ω:=ω,ids:=ids,mv:=mv,code:=fun _=>none}
noncomputable def pxT(cx:Cx)(lx:Lx)(an:Zb)(fn:Func)(c:Code)(p:PX):PX:={p with code:=Qr6 cx lx 1000 an fn c p}
theorem Zg4{cx:Cx}(hcx:cx.Ok){lx:Lx}(hlx:lx.Ok cx){g:Nat}{an:Zb}{fn:Func}{c:Code}{p:PX}(hf:cx.fns.lookup g=some fn)(hb:fn.body=some c)
  (hn:QO p.np fn.ntmps=true) (hcov:(p.ω.V8 p.ids&&subset p.mv p.ids)=true):Zi cx g (pxT cx lx an fn c p):=Zi.Z6 hcx hlx (n:=1000) hf hb (fun _ _ h=>h) hn hcov
theorem Zi.cast{cx:Cx}{g:Nat}{p q:PX}(h:p=q)(hq:Zi cx g q):Zi cx g p:=by rw[h];exact hq
def TI.bare(i:TI):TI:={i with row:=none}
def Cx.bare(cx:Cx):Cx:={P:=cx.P,tab:=cx.tab.map fun x=>(x.1,x.2.bare),fns:=cx.fns}
theorem Cx.Y5{cx:Cx}(h:cx.Ok):cx.bare.Ok:=by
 refine⟨⟨?_,?_,?_,?_,?_⟩,h.fns,h.mix⟩
 ·simpa[Cx.bare,QB,ZM,TI.bare]using h.tab.und
 ·simpa[Cx.bare,QB,ZM,TI.bare]using h.tab.siz
 ·simpa[Cx.bare,QB,ZM,TI.bare]using h.tab.byt
 ·simpa[Cx.bare,QB,ZM,TI.bare]using h.tab.zer
 ·simpa[Cx.bare,List.all_map,ZM,TI.bare]using h.tab.one
theorem Qg.bare{cx:Cx}{g:Nat}{pc:PC}(h:Qg cx g pc):Qg cx.bare g pc:=⟨h.fn,h.ok⟩
theorem Qg.full{cx:Cx}{g:Nat}{pc:PC}(h:Qg cx.bare g pc):Qg cx g pc:=⟨h.fn,h.ok⟩
theorem Zi.bare{cx:Cx}{g:Nat}{px:PX}(h:Zi cx g px):Zi cx.bare g px:=⟨h.fn,h.ok⟩
def PC.at(pc:PC)(a0:Qt pc.ats)(y0:Qt pc.rts):PC:={ats:=pc.ats,rts:=pc.rts,code:=fun a=>bif Qt.eqv pc.ats a a0 then some y0 else pc.code a}
theorem Qg.at{cx:Cx}{g:Nat}{pc:PC}(h:Qg cx g pc){a0:Qt pc.ats}{y0:Qt pc.rts}(he:pc.code a0=some y0):Qg cx g (pc.at a0 y0):=
 ⟨h.fn,fun a y hy=>by
  have hy:(bif Qt.eqv pc.ats a a0 then some y0 else pc.code a)=some y:=hy;cases e:Qt.eqv pc.ats a a0 with
  |true=>rw[e]at hy;exact h.ok a y (by rw[Qt.eqv_ok _ _ _ e,he];exact hy)
  |false=>rw[e]at hy;exact h.ok a y hy⟩
def one{ats rts:List Qe}(a0:Qt ats)(y0:Qt rts)(a:Qt ats):Option (Qt rts):=bif Qt.eqv ats a a0 then some y0 else none
theorem one_some{ats rts:List Qe}{a0 a:Qt ats}{y0 y:Qt rts}(h:one a0 y0 a=some y):a=a0∧y=y0:=by
 unfold one at h;cases e:Qt.eqv ats a a0 with
 |true=>rw[e]at h;cases h;exact⟨Qt.eqv_ok _ _ _ e,rfl⟩
 |false=>rw[e]at h;cases h
def PC.one(pc:PC)(a0:Qt pc.ats)(y0:Qt pc.rts):PC:={ats:=pc.ats,rts:=pc.rts,code:=fun a=>Go.Sx.one a0 y0 a}
theorem Qg.one{cx:Cx}{g:Nat}{pc:PC}(h:Qg cx g pc)(a0:Qt pc.ats)(y0:Qt pc.rts)(he:pc.code a0=some y0):Qg cx g (pc.one a0 y0):=
 ⟨h.fn,fun a y hy=>by obtain⟨h1,h2⟩:=one_some (show Go.Sx.one a0 y0 a=some y from hy);rw[h1,h2];exact h.ok _ _ he⟩
end Go.Sx
section
namespace Go.Sx
open Go
def Kd(w:World):Qd:=fun b=>w.heap[b]?
theorem Ye3{w:World}{a:Addr}{v:Value}(h:w.cell? a=some v):a.spot=none∧(Kd w).cell a.block a.off=some v:=by
 unfold World.cell? at h;unfold Qd.cell Kd;split at h
 ·rename_i c t f e;rw[e];split at h
  ·cases h
  ·rename_i hs;exact⟨by cases hh:a.spot<;>simp_all,h⟩
 ·cases h
def Ym6:IntKind->Nat
 |.i8=>1
 |.u8=>1
 |.i16=>2
 |.u16=>2
 |.i32=>4
 |.u32=>4
 |_=>8
def Ty.bytes:Ty->Nat
 |.int k=>Ym6 k
 |.bool=>1
 |.str=>16
 |.seq _=>24
def Qy8:List Ty->Nat
 |[]=>0
 |t::ts=>t.bytes+Qy8 ts
def Zim:List Ty->Bool
 |[]=>false
 |t::ts=>QO 8 t.bytes||Zim ts
def Qyt(r:List Ty):Nat:=bif Zim r then(Qy8 r+7)/8*8 else Qy8 r
def Ym0(k:IntKind)(n:Int):Prop:=k.min<=n∧n<=k.max
def Zcg(s:ByteArray):Prop:=s.size<=140737488351232
def Yl7{α:Type}(b:Nat)(f:α->Prop)(l:List α):Prop:=l.length*b<=140737488351232∧∀x∈l,f x
mutual
def Ty.ok:(t:Ty)->t.El->Prop
 |.int k=>Ym0 k
 |.bool=>fun _=>True
 |.str=>Zcg
 |.seq row=>Yl7 (Qyt row) (Ql.ok row)
def Ql.ok:(ts:List Ty)->Ql ts->Prop
 |[]=>fun _=>True
 |[t]=>t.ok
 |t::t'::ts=>fun x=>t.ok x.1∧Ql.ok (t'::ts) x.2
end
def Ql.app:(r1 r2:List Ty)->Ql r1->Ql r2->Ql (r1++r2)
 |[],_,_,y=>y
 |[_],[],x,_=>x
 |[_],_::_,x,y=>(x,y)
 |_::t'::ts,r2,x,y=>(x.1,Ql.app (t'::ts) r2 x.2 y)
theorem Zkf:∀(r1 r2:List Ty) (x:Ql r1) (y:Ql r2),Zn (r1++r2) (Ql.app r1 r2 x y)=Zn r1 x++Zn r2 y
 |[],_,_,_=>rfl
 |[_],[],x,_=>rfl
 |[_],_::_,x,y=>rfl
 |t::t'::ts,r2,x,y=>by have:=Zkf (t'::ts) r2 x.2 y;show t.pv x.1::Zn (t'::ts++r2) (Ql.app (t'::ts) r2 x.2 y)=t.pv x.1::(Zn (t'::ts) x.2++Zn r2 y);rw[this]
theorem Zfm:∀(r1 r2:List Ty) (x:Ql r1) (y:Ql r2),Ql.ok r1 x->Ql.ok r2 y->Ql.ok (r1++r2) (Ql.app r1 r2 x y)
 |[],_,_,_,_,h=>h
 |[_],[],x,_,h,_=>h
 |[t],t'::ts,x,y,h,k=>by exact⟨h,k⟩
 |t::t'::ts,r2,x,y,h,k=>by exact⟨h.1,Zfm (t'::ts) r2 x.2 y h.2 k⟩
structure J2 (w:World) (cs:List Value) (row:List Ty) (x:Ql row):Prop where
 len:cs.length=row.length
 one:∀v∈cs,W5 v=true
 rep:∀(j:Nat) (v:Value) (p:PV),cs[j]? =some v->(Zn row x)[j]? =some p->Zu (Kd w) v p
 ok:Ql.ok row x
theorem J2.nil(w:World):J2 w [] [] ():=⟨rfl,fun v h=>(by cases h),fun j v p h=>(by simp at h),trivial⟩
theorem J2.single{w:World}{v:Value}{t:Ty}{x:t.El}(h1:W5 v=true)(h2:Zu (Kd w) v (t.pv x))(h3:t.ok x):J2 w [v] [t] x:=by
 refine⟨rfl,fun u hu=>?_,fun j u p hu hp=>?_,h3⟩
 ·rw[QN]at hu;rw[hu];exact h1
 ·cases j with
  |zero=>simp only[ZZ,ZO]at hu;simp only[Zn,ZZ,ZO]at hp;subst hu;subst hp;exact h2
  |succ j=>simp at hu
theorem J2.app{w:World}{c1 c2:List Value}{r1 r2:List Ty}{x:Ql r1}{y:Ql r2}(h:J2 w c1 r1 x)(k:J2 w c2 r2 y):J2 w (c1++c2) (r1++r2) (Ql.app r1 r2 x y):=by
 refine⟨by simp[h.len,k.len],fun v hv=>?_,fun j v p hv hp=>?_,Zfm _ _ _ _ h.ok k.ok⟩
 ·rcases ZJ.1 hv with hv|hv
  ·exact h.one v hv
  ·exact k.one v hv
 ·rw[Zkf]at hp;rw[ZU]at hv hp;rw[Vc,<-h.len]at hp;split at hv
  ·rename_i hj;rw[if_pos hj]at hp;exact h.rep j v p hv hp
  ·rename_i hj;rw[if_neg hj]at hp;exact k.rep _ v p hv hp
def Qnf(P:Program)(k:TypeId->Option (List Ty)):List Field->Nat->Option (List Ty)
 |[],_=>some []
 |f::fs,off=>match decide (f.offset=off)with
  |false=>none
  |true=>match k f.type with
   |none=>none
   |some r=>match decide (r.length=P.cellsOf f.type)with
    |false=>none
    |true=>match Qnf P k fs (off+r.length)with
     |none=>none
     |some rs=>some (r++rs)
def Qjj(r:List Ty):Nat->List Ty
 |0=>[]
 |n+1=>r++Qjj r n
def Qaq(P:Program):Nat->TypeId->Option (List Ty)
 |0,_=>none
 |n+1,t=>match P.underlying t with
  |some .bool=>some [.bool]
  |some (.int k)=>some [.int k]
  |some .string=>some [.str]
  |some (.slice e)=>match Qaq P n e with
   |none=>none
   |some r=>match decide (r.length=P.cellsOf e)&&(decide (0<r.length)&&decide (Qyt r<=P.bytesOf e))with
    |true=>some [.seq r]
    |false=>none
  |some (.struct fs)=>match Qnf P (Qaq P n) fs.toList 0 with
   |none=>none
   |some r=>match decide (r.length=P.cellsOf t)with
    |true=>some r
    |false=>none
  |some (.array m e)=>match Qaq P n e with
   |none=>none
   |some r=>match decide (r.length=P.cellsOf e)&&decide (m*r.length=P.cellsOf t)with
    |true=>some (Qjj r m)
    |false=>none
  |_=>none
theorem mapM_some{α β:Type}{f:α->Option β}:∀{l:List α} {r:List β},l.mapM f=some r->r.length=l.length∧∀(i:Nat) (x:α),l[i]? =some x->∃y,r[i]? =some y∧f x=some y
 |[],r,h=>by simp at h;subst h;simp
 |a::l,r,h=>by
  rw[QS]at h;cases ha:f a with
  |none=>rw[ha]at h;cases h
  |some b=>
   cases hl:l.mapM f with
   |none=>rw[ha,hl]at h;cases h
   |some bs=>
    rw[ha,hl]at h;cases h;obtain⟨g1,g2⟩:=mapM_some hl;refine⟨by simp[g1],fun i x hx=>?_⟩;cases i with
    |zero=>simp at hx;subst hx;exact⟨b,rfl,ha⟩
    |succ i=>simp at hx;simpa using g2 i x hx
theorem Zqz{w:World}{a:Addr}{n:Nat}{cs:List Value}(h:w.cells? 0 a n=some cs):cs.length=n∧∀j,j<n->∃v,cs[j]? =some v∧w.cell? (a.add j)=some v:=by unfold World.cells? at h;rw[if_pos (QI _)]at h;obtain⟨h1,h2⟩:=mapM_some h;exact⟨by simpa using h1,fun j hj=>h2 j j (by simp[hj])⟩
end Go.Sx
end
section
namespace Go.Sx
open Go
variable {H:Type} {enc:TypeId×Value->H} {P:Program} {w:World} {sp:Nat->Bool} {held:Bool}
theorem Zin{α:Type}{Q:Nat->α->Prop}:∀(n:Nat),(∀i,i<n->∃x,Q i x)->∃l:List α,l.length=n∧∀(i:Nat) (x:α),l[i]? =some x->Q i x
 |0,_=>⟨[],rfl,fun i x h=>by simp at h⟩
 |n+1,h=>by
  obtain⟨l,h1,h2⟩:=Zin n fun i hi=>h i (by omega);obtain⟨x,hx⟩:=h n (by omega);refine⟨l++[x],by simp[h1],fun i y hy=>?_⟩;rw[ZU]at hy;split at hy
  ·exact h2 i y hy
  ·rename_i hi;have:i=n:=by have:=(C.1 hy).1;simp at this;omega
   subst this;simp[h1]at hy;rw[<-hy];exact hx
theorem Qzq{e:TypeId}:∀{l:List (DataW H)} {d:DataW H} {x:Nat},d∈l->x∈d.weights P e->x∈ZQ P e l
 |[],d,x,h,_=>by cases h
 |y::l,d,x,h,hx=>by
  simp only[ZQ,ZJ];rcases ZF.1 h with rfl|h
  ·exact .inl hx
  ·exact .inr (Qzq h hx)
theorem Zid(a:Addr)(n:Nat):(a.add n).block=a.block:=by unfold Addr.add;split<;>rfl
theorem Zc3(a:Addr)(n:Nat):(a.add n).off=a.off+n:=by
 unfold Addr.add;split
 ·rename_i h;subst h;rfl
 ·rfl
theorem Zdi{cs:List Value}{fuel:Nat}{k:TypeId->Option (List Ty)}
  (ih:∀(t:TypeId) (cs:List Value) (d:DataW H) (ps:List MemPlace) (row:List Ty),ZG enc P w 0 sp held fuel t cs=some (d,ps)->k t=some row->(∀x∈d.weights P t,x<=reachBytes)->∃x:Ql row,J2 w cs row x):
  ∀(fs:List Field) (off:Nat) (row:List Ty) (xs:List (DataW H×List MemPlace)),
   fs.mapM (fun f=>ZG enc P w 0 sp held fuel f.type ((cs.drop f.offset).take (P.cellsOf f.type)))=some xs->Qnf P k fs off=some row->
   (∀x∈ZC P (fs.map (·.type)) (xs.map (·.1)),x<=reachBytes)->∃x:Ql row,J2 w ((cs.drop off).take row.length) row x
 |[],off,row,xs,h,hr,hw=>by simp only[Qnf,ZO]at hr;subst hr;exact⟨(),by simpa using J2.nil w⟩
 |f::fs,off,row,xs,h,hr,hw=>by
  simp only[Qnf]at hr;split at hr
  ·cases hr
  ·rename_i e1;split at hr
   ·cases hr
   ·rename_i r e2;split at hr
    ·cases hr
    ·rename_i e3;split at hr
     ·cases hr
     ·rename_i rs e4;cases hr;have e1:=of_decide_eq_true e1;have e3:=of_decide_eq_true e3;rw[QS]at h;cases hf:ZG enc P w 0 sp held fuel f.type ((cs.drop f.offset).take (P.cellsOf f.type))with
      |none=>rw[hf]at h;cases h
      |some p=>
       cases hl:fs.mapM (fun f=>ZG enc P w 0 sp held fuel f.type ((cs.drop f.offset).take (P.cellsOf f.type)))with
       |none=>rw[hf,hl]at h;cases h
       |some ps=>rw[hf,hl]at h;cases h;simp only[List.map_cons,ZC,ZJ]at hw;obtain⟨x,hx⟩:=ih f.type _ p.1 p.2 r hf e2 fun y hy=>hw y (.inl hy);obtain⟨y,hy⟩:=Zdi ih fs (off+r.length) rs ps hl e4 fun y hy=>hw y (.inr hy);refine⟨Ql.app r rs x y,?_⟩;have:=hx.app hy;rw[e1,<-e3]at this;rw[List.length_append,QV,QT];exact this
theorem Zgd{cs:List Value}{r:List Ty}{m:Nat}(h:∀i,i<m->∃x:Ql r,J2 w ((cs.drop (i*r.length)).take r.length) r x):
  ∀k,k<=m->∃x:Ql (Qjj r k),J2 w ((cs.drop ((m-k)*r.length)).take (k*r.length)) (Qjj r k) x
 |0,_=>⟨(show Ql (Qjj r 0)from()),by show J2 w ((cs.drop _).take (0*r.length)) [] ();rw[Nat.zero_mul,List.take_zero];exact J2.nil w⟩
 |k+1,hk=>by
  obtain⟨y,hy⟩:=Zgd h k (by omega);obtain⟨x,hx⟩:=h (m-(k+1)) (by omega);refine⟨Ql.app r (Qjj r k) x y,?_⟩;have:=hx.app hy;have e:(m-k)*r.length=(m-(k+1))*r.length+r.length:=by rw[show m-k=m-(k+1)+1 by omega,Nat.succ_mul]
  rw[e,<-QT]at this;rw[show(k+1)*r.length=r.length+k*r.length by rw[Nat.succ_mul];omega,QV];exact this
theorem Ykn{r:List Ty}{c cap:Nat}{a:Addr}{n:Nat}(hc:r.length=c)(h0:0<r.length)(hn:n<=cap)(l:List (Ql r))(hl:l.length=n)
  (h:∀(i:Nat) (x:Ql r),l[i]? =some x->∃cs,w.cells? 0 (a.add (i*c)) c=some cs∧J2 w cs r x):Zu (Kd w) (.slice (some a) n cap) (.tsl r l):=by
 refine .tsl r l ?_;by_cases hz:n=0
 ·subst hz;have:l=[]:=List.eq_nil_of_length_eq_zero hl;subst this;exact .remp a cap _
 ·have cell:∀(i j:Nat) (x:Ql r),l[i]? =some x->j<c->∃v,(Kd w).cell a.block (a.off+i*c+j)=some v∧W5 v=true∧a.add (i*c)=a.add (i*c)∧(∀p,(Zn r x)[j]? =some p->Zu (Kd w) v p)∧((a.add (i*c)).add j).spot=none:=fun i j x hx hj=>by obtain⟨cs,h1,h2⟩:=h i x hx;obtain⟨g1,g2⟩:=Zqz h1;obtain⟨v,hv,hcell⟩:=g2 j hj;obtain⟨k1,k2⟩:=Ye3 hcell;rw[Zid,Zid,Zc3,Zc3]at k2;exact⟨v,k2,h2.one v (ZE hv),rfl,fun p hp=>h2.rep j v p hv hp,k1⟩
  have hspot:a.spot=none:=by obtain⟨x,hx⟩:∃x,l[0]? =some x:=⟨l[0]'(by omega),by simp⟩;obtain⟨v,_,_,_,_,k⟩:=cell 0 0 x hx (by omega);simpa[Addr.add]using k
  obtain⟨b,off,s⟩:=a;cases hspot;refine .rsl b off cap r.length n (Q0 r l) (by simp[hl]) hn (fun i j hi hj=>?_) (fun i row j p v hrow hp hv=>?_) (fun i row hrow=>?_)
  ·obtain⟨x,hx⟩:∃x,l[i]? =some x:=⟨l[i]'(by simpa using hi),by simp⟩;obtain⟨v,k1,k2,_⟩:=cell i j x hx (by omega);rw[<-hc]at k1;exact⟨v,k1,k2⟩
  ·simp only[ZH,J]at hrow;obtain⟨x,hx,rfl⟩:=hrow;have hj:j<c:=by have:=(C.1 hp).1;rw[Vc]at this;omega
   obtain⟨v',k1,k2,_,k3,_⟩:=cell i j x hx hj;rw[<-hc]at k1;rw[k1]at hv;cases hv;exact k3 p hp
  ·simp only[ZH,J]at hrow;obtain⟨x,hx,rfl⟩:=hrow;rw[Vc];exact ZN _
theorem Qqy:∀(fuel n:Nat) (t:TypeId) (cs:List Value) (d:DataW H) (ps:List MemPlace) (row:List Ty),ZG enc P w 0 sp held fuel t cs=some (d,ps)->Qaq P n t=some row->
  (∀x∈d.weights P t,x<=reachBytes)->∃x:Ql row,J2 w cs row x
 |0,n,t,cs,d,ps,row,h,hr,hw=>by simp[ZG]at h
 |fuel+1,0,t,cs,d,ps,row,h,hr,hw=>by simp[Qaq]at hr
 |fuel+1,n+1,t,cs,d,ps,row,h,hr,hw=>by
  have ih:=Qqy fuel n;unfold Qaq at hr;split at hr
  ·rename_i hu;cases hr;obtain⟨b,rfl,rfl⟩:∃b,cs=[.bool b]∧d=.lit (.bool b):=by unfold ZG at h;rw[hu]at h;split at h<;>first|(cases h;done)|(rename_i heq;cases heq;done)|(cases h;exact⟨_,rfl,rfl⟩)
   exact⟨b,.single rfl (.lit _) trivial⟩
  ·rename_i k hu;cases hr;obtain⟨v,rfl,hv⟩:∃v:Int,cs=[.int k v]∧(k.min<=v∧v<=k.max):=by
    unfold ZG at h;rw[hu]at h;split at h<;>first|(cases h;done)|(rename_i heq;cases heq;done)|skip
    ·rename_i heq;cases heq;split at h
     ·rename_i hk;obtain⟨rfl,hwf⟩:=hk;simp only[Lit.wf,ZB,decide_eq_true_eq]at hwf;exact⟨_,rfl,hwf⟩
     ·cases h
   exact⟨v,.single rfl (.lit _) hv⟩
  ·rename_i hu;cases hr;obtain⟨b,rfl,rfl⟩:∃b,cs=[.string b]∧d=.lit (.string b.data.toList):=by
    unfold ZG at h;rw[hu]at h;split at h<;>first|(cases h;done)|(rename_i heq;cases heq;done)|skip
    ·split at h
     ·cases h;exact⟨_,rfl,rfl⟩
     ·cases h
   refine⟨b,.single rfl (.lit _) ?_⟩;have:=hw b.data.toList.length (by simp[ZS]);simp only[reachBytes]at this;simpa[Zcg,Ty.ok]using this
  ·rename_i e hu;split at hr
   ·cases hr
   ·rename_i r hrk;split at hr
    ·rename_i hcond;cases hr;simp only[ZB,decide_eq_true_eq]at hcond;obtain⟨hc,h0,hby⟩:=hcond;have fin:∀(v:Value) (l:List (Ql r)),Zu (Kd w) v (.tsl r l)->W5 v=true->l.length*Qyt r<=140737488351232->(∀x∈l,Ql.ok r x)->∃x:Ql [.seq r],J2 w [v] [.seq r] x:=
      fun v l hp h1 h2 h3=>⟨l,.single h1 hp ⟨h2,h3⟩⟩
     unfold ZG at h;rw[hu]at h;split at h<;>first|(cases h;done)|(rename_i heq;cases heq;done)|skip
     ·exact fin _ [] (.tsl r [] (.rnil _)) rfl (by simp) (fun x hx=>by cases hx)
     ·rename_i a len cap heq;cases heq;simp only[]at h;split at h
      ·rename_i hlc;obtain⟨elems,he,h⟩:=QA.1 h;obtain⟨rest,hre,h⟩:=J.1 h;cases h;obtain⟨g1,g2⟩:=mapM_some he;have hwt:∀x∈ZQ P e (elems.map (·.1)),x<=reachBytes:=fun x hx=>hw x (by simp only[ZS,hu,ZF,ZJ];exact .inr (.inl hx));have hlen:elems.length=len:=by simpa using g1
       have elt:∀i,i<len->∃x:Ql r,∃cs,w.cells? 0 (a.add (i*P.cellsOf e)) (P.cellsOf e)=some cs∧J2 w cs r x:=fun i hi=>by obtain⟨y,hy,hf⟩:=g2 i i (by simp[hi]);obtain⟨cs,h1,h2⟩:=QA.1 hf;obtain⟨x,hx⟩:=ih e cs y.1 y.2 r h2 hrk fun z hz=>hwt z (Qzq (List.mem_map.2 ⟨y,ZE hy,rfl⟩) hz);exact⟨x,cs,h1,hx⟩
       obtain⟨l,hl,hq⟩:=Zin len elt;have hbound:=hw ((elems.map (·.1)).length+(rest.map (·.1)).length |> (·*P.bytesOf e)) (by simp only[ZS,hu,ZF];exact .inl trivial);simp only[QD,reachBytes,hlen]at hbound;refine fin _ l (Ykn hc h0 hlc.2.1 l hl hq) rfl ?_ (fun x hx=>?_)
       ·rw[hl];refine Nat.le_trans (Nat.mul_le_mul_left _ hby) (Nat.le_trans (Nat.mul_le_mul_right _ (Nat.le_add_right _ _)) hbound)
       ·obtain⟨i,hi⟩:=List.getElem?_of_mem hx;obtain⟨cs,_,hrd⟩:=hq i x hi;exact hrd.ok
      ·cases h
    ·cases hr
  ·rename_i fs hu;split at hr
   ·cases hr
   ·rename_i r hrk;split at hr
    ·rename_i hcond;cases hr;have hcond:=of_decide_eq_true hcond;unfold ZG at h;rw[hu]at h;split at h<;>first|(cases h;done)|(rename_i heq;cases heq;done)|skip
     ·rename_i heq;cases heq;split at h
      ·rename_i hl;obtain⟨xs,hx,h⟩:=J.1 h;cases h;obtain⟨x,hrd⟩:=Zdi ih fs.toList 0 row xs hx hrk fun y hy=>hw y (by simp only[ZS,hu];exact hy);refine⟨x,?_⟩;rw[QU,QC (by omega)]at hrd;exact hrd
      ·cases h
     ·exact(‹∀fs':Array Field,some (TypeDesc.struct fs)=some (TypeDesc.struct fs')->False› fs rfl).elim
    ·cases hr
  ·rename_i m e hu;split at hr
   ·cases hr
   ·rename_i r hrk;split at hr
    ·rename_i hcond;cases hr;simp only[ZB,decide_eq_true_eq]at hcond;unfold ZG at h;rw[hu]at h;split at h<;>first|(cases h;done)|(rename_i heq;cases heq;done)|skip
     ·rename_i heq;cases heq;split at h
      ·rename_i hl;obtain⟨xs,hx,h⟩:=J.1 h;cases h;obtain⟨g1,g2⟩:=mapM_some hx;have hwt:∀x∈ZQ P e (xs.map (·.1)),x<=reachBytes:=fun x hx=>hw x (by simp only[ZS,hu];exact hx);obtain⟨x,hrd⟩:=Zgd (w:=w) (cs:=_) (r:=r) (m:=m) (fun i hi=>by obtain⟨y,hy,hf⟩:=g2 i i (by simp[hi]);rw[<-hcond.1]at hf;exact ih e _ y.1 y.2 r hf hrk fun z hz=>hwt z (Qzq (List.mem_map.2 ⟨y,ZE hy,rfl⟩) hz)) m (ZN _);refine⟨x,?_⟩;rw[Nat.sub_self,Nat.zero_mul,QU,QC (by omega)]at hrd;exact hrd
      ·cases h
     ·exact(‹∀(n:Nat) (e':TypeId),some (TypeDesc.array m e)=some (TypeDesc.array n e')->False› m e rfl).elim
    ·cases hr
  ·cases hr
end Go.Sx
end
section
namespace Go.Sx
open Go
def Qe.ok:(a:Qe)->a.El->Prop
 |.val t=>t.ok
 |.agg row=>Ql.ok row
def Qt.ok:(l:List Qe)->Qt l->Prop
 |[]=>fun _=>True
 |[a]=>a.ok
 |a::a'::l=>fun x=>a.ok x.1∧Qt.ok (a'::l) x.2
def Qx2(P:Program)(t:TypeId):Option Qe:=match P.underlying t with
 |some (.struct _)=>match Qaq P 12 t with
  |some r=>some (.agg r)
  |none=>none
 |some (.array _ _)=>match Qaq P 12 t with
  |some r=>some (.agg r)
  |none=>none
 |some _=>match Qaq P 12 t with
  |some [ty]=>some (.val ty)
  |_=>none
 |none=>none
def Qg7(P:Program):List TypeId->Option (List Qe)
 |[]=>some []
 |t::ts=>match Qx2 P t with
  |none=>none
  |some a=>match Qg7 P ts with
   |none=>none
   |some l=>some (a::l)
theorem Zdu{w:World}{cs:List Value}{row:List Ty}{x:Ql row}(h:J2 w cs row x):Qf (Kd w) Wf (.agg cs.toArray) (SV.X2 ((Zn row x).map .pv)):=by refine Qf.X2 (by rw[h.len,QD,Vc]) fun i v y hv hy=>?_;simp only[ZH,J]at hy;obtain⟨p,hp,rfl⟩:=hy;exact .pv (h.rep i v p hv hp)
section
variable {H:Type} {enc:TypeId×Value->H} {P:Program} {w:World} {sp:Nat->Bool} {held:Bool} {r:Reach} {b0:Nat}
theorem Zxx{t:TypeId}{v:Value}{u:TypeDesc}(hu:P.underlying t=some u)(hs:u=.bool∨(∃k,u=.int k)∨u=.string∨∃e,u=.slice e)(hval:Value.okWide P w r b0 t v):v.cells.toList=[v]:=by
 cases v with
 |agg cs=>rcases hs with rfl|⟨k,rfl⟩|rfl|⟨e,rfl⟩<;>simp[Value.okWide,Cell.okWide,Cell.ok,hu]at hval
 |_=>rfl
theorem Zzt{t:TypeId}{a:Qe}{v:Value}{d:DataW H}{ps:List MemPlace}(hk:Qx2 P t=some a)(hval:Value.okWide P w r b0 t v)(hd:DataW.Trod enc P w 0 sp held t v d ps)(hw:∀x∈d.weights P t,x<=reachBytes):
  ∃x:a.El,Qf (Kd w) Wf v (a.sv x)∧a.ok x:=by
 obtain⟨fuel,hf⟩:=hd;unfold Qx2 at hk;split at hk
 ·rename_i fs hu;split at hk
  ·rename_i row hrow;cases hk;obtain⟨x,hx⟩:=Qqy fuel 12 t _ d ps row hf hrow hw;obtain⟨cs,rfl,hsz⟩:∃cs,v=.agg cs∧cs.size=P.cellsOf t:=by simp only[Value.okWide,hu]at hval;obtain⟨cs,h1,h2,_⟩:=hval;exact⟨cs,h1,h2⟩
   have:=Zdu hx;simp only[Value.cells,ZV]at this;exact⟨x,this,hx.ok⟩
  ·cases hk
 ·rename_i m e hu;split at hk
  ·rename_i row hrow;cases hk;obtain⟨x,hx⟩:=Qqy fuel 12 t _ d ps row hf hrow hw;obtain⟨cs,rfl,hsz⟩:∃cs,v=.agg cs∧cs.size=P.cellsOf t:=by simp only[Value.okWide,hu]at hval;obtain⟨cs,h1,h2,_⟩:=hval;exact⟨cs,h1,h2⟩
   have:=Zdu hx;simp only[Value.cells,ZV]at this;exact⟨x,this,hx.ok⟩
  ·cases hk
 ·rename_i u h1 h2 hu;split at hk
  ·rename_i ty hrow;cases hk;obtain⟨x,hx⟩:=Qqy fuel 12 t _ d ps [ty] hf hrow hw;have hs:u=.bool∨(∃k,u=.int k)∨u=.string∨∃e,u=.slice e:=by
    unfold Qaq at hrow;rw[hu]at hrow;cases u with
    |bool=>exact .inl rfl
    |int k=>exact .inr (.inl ⟨k,rfl⟩)
    |string=>exact .inr (.inr (.inl rfl))
    |slice e=>exact .inr (.inr (.inr ⟨e,rfl⟩))
    |struct fs=>exact(h1 fs rfl).elim
    |array m e=>exact(h2 m e rfl).elim
    |_=>simp at hrow
   rw[Zxx hu hs hval]at hx;exact⟨x,.pv (hx.rep 0 v _ rfl rfl),hx.ok⟩
  ·cases hk
 ·cases hk
theorem Zek:∀{ts:List TypeId} {vs:List Value} {ds:List (DataW H)} {ps:List MemPlace} {ats:List Qe},ZK enc P w 0 sp held ts vs ds ps->Qg7 P ts=some ats->
  (∀(j:Nat) t v,ts[j]? =some t->vs[j]? =some v->Value.okWide P w r b0 t v)->(∀x∈ZC P ts ds,x<=reachBytes)->∃a:Qt ats,J0 (Kd w) Wf vs (Yx ats a)∧Qt.ok ats a
 |[],vs,ds,ps,ats,h,hk,hval,hw=>by simp only[Qg7,ZO]at hk;subst hk;cases vs<;>cases ds<;>simp[ZK]at h;exact⟨(),⟨rfl,fun i v x hv=>by simp at hv⟩,trivial⟩
 |t::ts,vs,ds,ps,ats,h,hk,hval,hw=>by
  obtain⟨v,vs',d,ds',p,q,rfl,rfl,rfl,h1,h2⟩:=ChangeShapes.trodAll_cons h;simp only[Qg7]at hk;split at hk
  ·cases hk
  ·rename_i a ha;split at hk
   ·cases hk
   ·rename_i l hl;cases hk;simp only[ZC,ZJ]at hw;obtain⟨x,hx,hxo⟩:=Zzt ha (hval 0 t v rfl rfl) h1 fun y hy=>hw y (.inl hy);obtain⟨y,hy,hyo⟩:=Zek h2 hl (fun j t' v' h1 h2=>hval (j+1) t' v' (by simpa using h1) (by simpa using h2)) fun y hy=>hw y (.inr hy);have cons:∀(i:Nat) (u:Value) (z:SV) (zs:List SV),zs=Yx l y->(v::vs')[i]? =some u->(a.sv x::zs)[i]? =some z->Qf (Kd w) Wf u z:=fun i u z zs e hu hz=>by
     subst e;cases i with
     |zero=>simp at hu hz;subst hu;subst hz;exact hx
     |succ i=>exact hy.2 i u z (by simpa using hu) (by simpa using hz)
    have hlen:vs'.length=(Yx l y).length:=hy.1;match l,y,hyo,cons,hlen with
    |[],y,hyo,cons,hlen=>exact⟨x,⟨by simpa[Yx]using hlen,fun i u z hu hz=>cons i u z _ rfl hu hz⟩,hxo⟩
    |b::l,y,hyo,cons,hlen=>exact⟨(x,y),⟨by simp[Yx,hlen],fun i u z hu hz=>cons i u z _ rfl hu hz⟩,⟨hxo,hyo⟩⟩
end
end Go.Sx
end
section
namespace Go.Sx
open Go Go.ChangeShapes Go.WideShapes Go.RowKit
section
variable {H:Type} {enc:TypeId×Value->H} {P:Program}
theorem Zay(hl:laidOutB P=true){W W':World}{sp:Nat->Bool}:∀{ts:List TypeId} {vs:List Value} {ds:List (DataW H)} {ps:List MemPlace},
  (ts.all fun t=>P.readableRec t&&decide (t<P.types.size))=true->ZK enc P W 0 (fun _=>true) true ts vs ds ps->(∀p∈ps,W.sameAt W' p)->(∀p∈ps,sp p.block=true)->ZK enc P W' 0 sp true ts vs ds ps
 |[],vs,ds,ps,_,h,_,_=>by cases vs<;>cases ds<;>simp[ZK]at h⊢;exact h
 |t::ts,vs,ds,ps,ht,h,hs,hb=>by
  obtain⟨v,vs',d,ds',p,q,rfl,rfl,rfl,h1,h2⟩:=trodAll_cons h;simp only[List.all_cons,ZB,decide_eq_true_eq]at ht;exact⟨p,q,WideElems.Trod_stays hl ht.1.1 ht.1.2 h1 (fun x hx=>hs x (QJ _ hx)) (fun x hx=>hb x (QJ _ hx)),
   Zay hl ht.2 h2 (fun x hx=>hs x (QG _ hx)) (fun x hx=>hb x (QG _ hx)),rfl⟩
theorem Zb4{W:World}{b:Nat}{sp:Nat->Bool}{hd:Bool}:∀{ts:List TypeId} {vs:List Value} {ds:List (DataW H)} {ps:List MemPlace},ZK enc P W b sp hd ts vs ds ps->ds.length=ts.length
 |[],vs,ds,ps,h=>by cases vs<;>cases ds<;>simp[ZK]at h⊢
 |t::ts,vs,ds,ps,h=>by obtain⟨v,vs',d,ds',p,q,rfl,rfl,rfl,h1,h2⟩:=trodAll_cons h;simp[Zb4 h2]
theorem Ykl{cx:Cx}{f:FuncId}{fn:Func}{s:ChangeSpec}{ats:List Qe}{c:Nat->Qt ats->Option Bool}{tb:TypeId}
  (hl:laidOutB cx.P=true) (hps:(fn.params.toList.all fun t=>cx.P.readableRec t&&decide (t<cx.P.types.size))=true) (hk:Qg7 cx.P fn.params.toList=some ats)
  (hres:fn.resultTypes= #[tb]) (htb:cx.P.underlying tb=some .bool) (hvars:s.vars=[]) (hspec:∀ds:List (DataW H),ds.length=fn.params.toList.length->s.fn H ds={results:=[.lit (.bool true)],args:=ds})
  (hpc:∀F,Qg cx f ⟨ats,[.val .bool],c F⟩) (law:∀a,Qt.ok ats a->∃F,c F a=some true)
  {W:World} {base:Nat} {args:Array Value} {ds gs:List (DataW H)} {before:List MemPlace} {hn:Bool}
  (hval:∀(j:Nat) t v,fn.params[j]? =some t->args[j]? =some v->Value.okWide cx.P W .any base t v)
  (hW:DataW.Whole enc cx.P fn.params.toList s.vars false W args.toList ds gs before)
  (hwt:(ZC cx.P (fn.params.toList++s.plain.varTypes cx.P) (ds++gs)).all (·<=reachBytes)=true):
  Calls cx.P f args W fun e W'=>∃v,e=.returned v∧s.post enc cx.P fn false true hn false W args v W':=by
 have hW':=hW;obtain⟨p,q,hA,hV,rfl,hfz,hnd⟩:=hW;rw[hvars]at hV;obtain⟨rfl,rfl⟩:gs=[]∧q=[]:=by
  cases gs with
  |nil=>exact⟨rfl,hV⟩
  |cons g r=>exact absurd hV (by intro h;cases h)
 have hlen:=Zb4 hA;have hw:∀x∈ZC cx.P fn.params.toList ds,x<=reachBytes:=by
  have happ:∀(ts:List TypeId) (ds:List (DataW H)) (us:List TypeId),ds.length=ts.length->ZC cx.P (ts++us) ds=ZC cx.P ts ds:=by
   intro ts;induction ts with
   |nil=>intro ds us h;cases ds with
    |nil=>cases us<;>rfl
    |cons _ _=>simp at h
   |cons t ts ih=>intro ds us h;cases ds with
    |nil=>simp at h
    |cons d ds=>simp only[List.cons_append,ZC];rw[ih ds us (by simpa using h)]
  rw[ZW,happ _ _ _ hlen]at hwt;intro x hx;have:=ZP.1 hwt x hx;simpa using this
 obtain⟨a,hr,ho⟩:=Zek hA hk (fun j t v h1 h2=>hval j t v (by simpa using h1) (by simpa using h2)) hw;obtain⟨F,hF⟩:=law a ho;have hcall:=(hpc F).ok a true hF (Kd W) Wf W args.toList (Ql6 fun b o h=>h) hr;rw[ZV]at hcall;refine(callsIn_wide.1 hcall).mono fun e W' ⟨v,r,H',M',Z',tch,fg,he,⟨hr',_⟩,hx,hm,hf⟩=>?_;subst hr';have hv:v=.bool true:=Qf.Zq (show Qf M' Z' v (.pv (.lit (.bool true)))from hx);subst hv;have hsame:∀b,b<W.heap.size->W'.heap[b]? =W.heap[b]? :=fun b hb=>hf.same b hb Qbw;refine⟨_,he,ds,[],p++[],[],p,[],hW',?_,?_,?_,?_,fun h=>by cases h⟩
 ·rw[ZW,hspec ds hlen,hres];exact trodAll_mk1 (shut_bool htb true)
 ·rw[ZW,hspec ds hlen];refine Zay hl hps hA (fun x hx=>?_) (fun x hx=>?_)
  ·have hlt:=hW'.lt x (by simpa using hx);cases x with
   |cell b off=>simp only[World.sameAt,World.cell?];rw[hsame b hlt]
   |map b=>exact hsame b hlt
  ·exact decide_eq_true (hW'.lt x (by simpa using hx))
 ·rw[ZW,hspec ds hlen,hvars];rfl
 ·refine⟨hf.io.1,hf.io.2,fun i hi=>?_⟩;rw[hsame i hi];split
  ·rename_i h1 h2;rw[h1]at h2;cases h2;exact⟨rfl,rfl,rfl,fun _ _=>rfl⟩
  ·rename_i h1 h2;rw[h1]at h2;cases h2;exact .inr ⟨rfl,rfl⟩
  ·rfl
end
end Go.Sx
end
namespace Go.Sx
open Go
theorem Zh{X:Type}(x:Option X):gd true x=x:=rfl
theorem Ynp{X:Type}{c:Bool}{x:Option X}(h:c=true):gd c x=x:=by rw[h];rfl
theorem Zf{X:Type}{p:Prop}[Decidable p]{x:Option X}(h:p):gd (decide p) x=x:=Ynp (decide_eq_true h)
theorem Ql1{U β:Type}{step:U->Option (U ⊕ β)}(Inv:U->Prop)(m:U->Nat)(Qy:β->Prop)
  (h:∀x,Inv x->(∃y,step x=some (.inl y)∧Inv y∧m y<m x)∨∃b,step x=some (.inr b)∧Qy b):∀(F:Nat) (x:U),Inv x->m x<F->∃b,Q4 step F x=some b∧Qy b
 |0,x,_,hF=>by omega
 |F+1,x,hx,hF=>by
  rcases h x hx with⟨y,h1,h2,h3⟩|⟨b,h1,h2⟩
  ·simp only[Q4,h1];exact Ql1 Inv m Qy h F y h2 (by omega)
  ·simp only[Q4,h1];exact⟨b,rfl,h2⟩
def goL{α S β:Type}(body:α->S->S ⊕ β)(fin:S->β):List α->S->β
 |[],s=>fin s
 |x::l,s=>match body x s with
  |.inl s'=>goL body fin l s'
  |.inr b=>b
theorem Zah{α S β:Type}(body:α->S->S ⊕ β)(fin:S->β)(s:S):goL body fin [] s=fin s:=rfl
theorem Qlp{α S β:Type}(body:α->S->S ⊕ β)(fin:S->β)(x:α)(l:List α)(s:S):goL body fin (x::l) s=match body x s with
  |.inl s'=>goL body fin l s'
  |.inr b=>b:=rfl
def Qjz{S U β β':Type}(R:S->U->Prop)(Q:β'->β->Prop):S ⊕ β'->U ⊕ β->Prop
 |.inl s,.inl t=>R s t
 |.inr b,.inr b'=>Q b b'
 |_,_=>False
theorem Qy7{α S U β β':Type}{step:U->Option (U ⊕ β)}(l:List α)(body:α->S->S ⊕ β')(fin:S->β')(R:Nat->S->U->Prop)(Q:β'->β->Prop)
  (hstep:∀i x s t,i<l.length->l[i]? =some x->R i s t->∃r,step t=some r∧Qjz (R (i+1)) Q (body x s) r)
  (hend:∀s t,R l.length s t->∃b',step t=some (.inr b')∧Q (fin s) b'):
  ∀(F i:Nat) (s:S) (t:U),i<=l.length->R i s t->l.length-i<F->∃b',Q4 step F t=some b'∧Q (goL body fin (l.drop i) s) b'
 |0,i,s,t,hi,hR,hF=>by omega
 |F+1,i,s,t,hi,hR,hF=>by
  by_cases h:i<l.length
  ·obtain⟨r,h1,h2⟩:=hstep i l[i] s t h (ZA h) hR;rw[List.drop_eq_getElem_cons h,Qlp];cases hb:body l[i] s with
   |inl s'=>
    rw[hb]at h2;cases r with
    |inl t'=>simp only[Q4,h1];exact Qy7 l body fin R Q hstep hend F (i+1) s' t' h h2 (by omega)
    |inr b'=>exact h2.elim
   |inr b=>
    rw[hb]at h2;cases r with
    |inl t'=>exact h2.elim
    |inr b'=>simp only[Q4,h1];exact⟨b',rfl,h2⟩
  ·obtain rfl:i=l.length:=by omega
   rw[List.drop_length,Zah];obtain⟨b',ht,hQ⟩:=hend s t hR;simp only[Q4,ht];exact⟨b',rfl,hQ⟩
theorem Qzj{α S U β β' γ:Type}{step:U->Option (U ⊕ β)}{F:Nat}{t:U}{k:β->Option γ}{P:γ->Prop}(l:List α)(body:α->S->S ⊕ β')(fin:S->β')(R:Nat->S->U->Prop)(Q:β'->β->Prop)(s:S)
  (hF:l.length<F) (h0:R 0 s t)
  (hstep:∀i x s t,i<l.length->l[i]? =some x->R i s t->∃r,step t=some r∧Qjz (R (i+1)) Q (body x s) r)
  (hend:∀s t,R l.length s t->∃b',step t=some (.inr b')∧Q (fin s) b')
  (hk:∀b',Q (goL body fin l s) b'->∃r,k b'=some r∧P r):∃r,QK (Q4 step F t) k=some r∧P r:=by
 obtain⟨b',h1,h2⟩:=Qy7 l body fin R Q hstep hend F 0 s t (QI _) h0 (by omega);rw[h1];exact hk b' h2
theorem Yro{γ:Type}{o:Option γ}{r:γ}(h:∃x,o=some x∧x=r):o=some r:=by obtain⟨x,h1,h2⟩:=h;rw[h1,h2]
theorem Zhj{α S U β:Type}{step:U->Option (U ⊕ β)}(l:List α)(enc:S->Nat->U)(body:α->S->S ⊕ β)(fin:S->β)(I:Nat->S->Prop)
  (hstep:∀i x s,i<l.length->l[i]? =some x->I i s->step (enc s i)=some (match body x s with|.inl s'=>.inl (enc s' (i+1))|.inr b=>.inr b)∧∀s',body x s=.inl s'->I (i+1) s')
  (hend:∀s,I l.length s->step (enc s l.length)=some (.inr (fin s))) {F:Nat} {s:S} {t:U} (ht:t=enc s 0) (hI:I 0 s) (hF:l.length<F):Q4 step F t=some (goL body fin l s):=by
 obtain⟨b,h1,h2⟩:=Qy7 (step:=step) l body fin (fun i s t=>t=enc s i∧I i s) (fun a b=>a=b)
  (fun i x s t hi hx ⟨e,h⟩=>by
   obtain⟨h1,h2⟩:=hstep i x s hi hx h;subst e;refine⟨_,h1,?_⟩;cases hb:body x s with
   |inl s'=>exact⟨rfl,h2 s' hb⟩
   |inr b=>exact rfl)
  (fun s t ⟨e,h⟩=>by subst e;exact⟨_,hend s h,rfl⟩) F 0 s t (QI _) ⟨ht,hI⟩ (by omega)
 rw[h1,<-h2];rfl
theorem Jh{α S U β γ:Type}{step:U->Option (U ⊕ β)}{F:Nat}{t:U}{k:β->Option γ}{r:Option γ}(l:List α)(enc:S->Nat->U)(body:α->S->S ⊕ β)(fin:S->β)(I:Nat->S->Prop)(s:S)
  (hF:l.length<F) (ht:t=enc s 0) (hI:I 0 s)
  (hstep:∀i x s,i<l.length->l[i]? =some x->I i s->step (enc s i)=some (match body x s with|.inl s'=>.inl (enc s' (i+1))|.inr b=>.inr b)∧∀s',body x s=.inl s'->I (i+1) s')
  (hend:∀s,I l.length s->step (enc s l.length)=some (.inr (fin s)))
  (hk:k (goL body fin l s)=r):QK (Q4 step F t) k=r:=by
 rw[Zhj l enc body fin I hstep hend ht hI hF];exact hk
theorem Qi4{α S β:Type}(f:S->α->S)(fin:S->β):∀(l:List α) (s:S),goL (fun x s=>.inl (f s x)) fin l s=fin (l.foldl f s)
 |[],s=>rfl
 |x::l,s=>Qi4 f fin l (f s x)
theorem Qir{α β:Type}(r:β)(l:List α):goL (fun(_:α) (_:Unit)=>(Sum.inl ():Unit ⊕ β)) (fun _=>r) l ()=r:=by rw[Qi4 (fun _ _=>())]
theorem Qcn{α β:Type}(p:α->Bool)(b1 b2:β):∀(l:List α),goL (fun x (_:Unit)=>if p x=true then .inr b1 else .inl ()) (fun _=>b2) l ()=if l.any p=true then b1 else b2
 |[]=>rfl
 |x::l=>by
  rw[Qlp,List.any_cons];cases h:p x with
  |true=>simp
  |false=>simpa using Qcn p b1 b2 l
theorem Qjd{α γ β:Type}(f:α->γ)(fin:List γ->β):∀(l:List α) (out:List γ),goL (fun x out=>.inl (out++[f x])) fin l out=fin (out++l.map f)
 |[],out=>by simp[Zah]
 |x::l,out=>by rw[Qlp];simp[Qjd f fin l]
theorem Zx{X:Type}{p:Prop}[Decidable p]{a b:X}(h:p):cond (decide p) a b=a:=by simp[h]
theorem Zz{X:Type}{p:Prop}[Decidable p]{a b:X}(h:¬p):cond (decide p) a b=b:=by simp[h]
theorem getD_some{α:Type}{l:List α}{i:Nat}{x d:α}(h:l[i]? =some x):l.getD i d=x:=by rw[ZX,h];rfl
def Zon{β:Type}(good:Prop)(Q:β->Prop)(i:Nat)(r:Int ⊕ β):Prop:=(r=.inl ((i:Int)+1)∧good)∨∃b,r=.inr b∧Q b
theorem Qu0{α β γ:Type}{step:Int->Option (Int ⊕ β)}{F:Nat}{k:β->Option γ}{P:γ->Prop}(l:List α)(good:α->Prop)(Q:β->Prop)(hF:l.length<F)
  (hstep:∀(i:Nat) x,i<l.length->l[i]? =some x->∃r,step (i:Int)=some r∧Zon (good x) Q i r)
  (hend:(∀x∈l,good x)->∃b,step (l.length:Int)=some (.inr b)∧Q b)
  (hk:∀b,Q b->∃r,k b=some r∧P r):∃r,QK (Q4 step F 0) k=some r∧P r:=by
 obtain⟨b,h1,h2⟩:=Ql1 (step:=step) (fun v:Int=>0<=v∧v<=l.length∧∀x∈l.take v.toNat,good x) (fun v=>l.length-v.toNat) Q (by
  intro v ⟨h0,h1,h2⟩;by_cases hv:v<l.length
  ·have hk:v.toNat<l.length:=by omega
   have hx:=ZA hk;have ev:((v.toNat:Nat):Int)=v:=by omega
   obtain⟨r,hs,hr⟩:=hstep v.toNat _ hk hx;rw[ev]at hs;rcases hr with⟨rfl,hg⟩|⟨b,rfl,hb⟩
   ·left;rw[ev]at hs;refine⟨v+1,hs,⟨by omega,by omega,?_⟩,by omega⟩;rw[show(v+1).toNat=v.toNat+1 by omega,QP,hx];intro y hy;rcases ZJ.1 hy with hy|hy
    ·exact h2 y hy
    ·obtain rfl:=QN.1 hy;exact hg
   ·exact .inr ⟨b,hs,hb⟩
  ·have ev:v=l.length:=by omega
   subst ev;right;refine hend ?_;simpa using h2) F 0 ⟨by omega,by omega,by simp⟩ (by simpa using hF)
 rw[h1];exact hk b h2
theorem Zlm{α:Type}{l:List α}{i:Nat}{x:α}(h:l[i]? =some x):l.take i++x::Qa α=l.take (i+1):=by rw[QP,h];rfl
theorem Zkv{α:Type}(l:List α)(x:α):(l++x::Qa α).length=l.length+1:=by simp[Qa]
theorem Yik{α:Type}{P R:List α}{n d:α}{i:Nat}(h:P.length=i):(P++n::R).getD i d=n:=by subst h;rw[ZX,List.getElem?_append_right (ZN _)];simp
theorem Za7{α β:Type}(p:α->Bool)(val:Nat->β)(nil:β):∀(l:List α) (k:Nat),goL (fun x (s:Nat)=>if p x=true then .inr (val s)else .inl (s+1)) (fun _=>nil) l k=match l.findIdx? p with
  |some i=>val (k+i)
  |none=>nil
 |[],k=>rfl
 |x::l,k=>by
  rw[Qlp,List.findIdx?_cons];by_cases h:p x=true
  ·simp[h]
  ·simp only[h,Bool.false_eq_true,if_false];rw[Za7 p val nil l (k+1)];cases l.findIdx? p with
   |none=>rfl
   |some i=>simp only[Option.map_some];rw[Nat.add_assoc,Nat.add_comm 1 i]
theorem Zs6{α β γ:Type}{step:Int->Option (Int ⊕ β)}{F:Nat}{k:β->Option γ}{r:Option γ}(l:List α)(p:α->Bool)(val:Nat->β)(nil:β)(hF:l.length<F)
  (hstep:∀(i:Nat) x,i<l.length->l[i]? =some x->step (i:Int)=some (if p x=true then .inr (val i)else .inl ((i:Int)+1)))
  (hend:step (l.length:Int)=some (.inr nil))
  (hk:k (match l.findIdx? p with|some i=>val i|none=>nil)=r):QK (Q4 step F 0) k=r:=by
 refine Jh l (fun(_:Nat) i=>(i:Int)) (fun x (s:Nat)=>if p x=true then .inr (val s)else .inl (s+1)) (fun _=>nil) (fun i s=>s=i) 0 hF rfl rfl ?_ ?_ ?_
 ·intro i x s hi hx hs;subst hs;rw[hstep s x hi hx];by_cases h:p x=true
  ·simp[h]
  ·simp[h]
 ·intro s hs;exact hend
 ·rw[Za7 p val nil l 0];rw[<-hk];cases l.findIdx? p with
  |none=>rfl
  |some i=>simp
theorem Qp6{K V:Type}{eq:K->K->Bool}{k:K}:∀(l:List (K×V)) (n:Nat),Xg eq k l n=(Xg eq k l 0).map fun p=>(n+p.1,p.2)
 |[],n=>rfl
 |e::l,n=>by
  simp only[Xg];cases eq k e.1 with
  |true=>simp
  |false=>
   simp only[];rw[Qp6 l (n+1),Qp6 l (0+1)];cases Xg eq k l 0 with
   |none=>rfl
   |some p=>simp;omega
theorem Qnd{K V:Type}{eq:K->K->Bool}{k:K}{e:K×V}{l:List (K×V)}{z:V}:X5 eq k (e::l) z=if eq k e.1=true then e.2 else X5 eq k l z:=by
 unfold X5;simp only[Xg];cases eq k e.1 with
 |true=>simp
 |false=>
  simp only[];rw[Qp6 l (0+1)];cases Xg eq k l 0 with
  |none=>simp
  |some p=>simp
theorem Zyv{K V:Type}{eq:K->K->Bool}{k:K}{x:V}:Ke eq k x []=[(k,x)]:=rfl
theorem Zpl{K V:Type}{eq:K->K->Bool}{k:K}{x:V}{e:K×V}{l:List (K×V)}:Ke eq k x (e::l)=if eq k e.1=true then(k,x)::l else e::Ke eq k x l:=by
 unfold Ke;simp only[Xg];cases eq k e.1 with
 |true=>simp
 |false=>
  simp only[];rw[Qp6 l (0+1)];cases Xg eq k l 0 with
  |none=>simp
  |some p=>simp[Nat.add_comm 1 p.1]
def Zj4{K:Type}(eq:K->K->Bool):Prop:=∀a b,eq a b=true↔a=b
theorem Zb5:Zj4 Qc:=fun a b=>by simp[Qc]
theorem Zjf{K V:Type}{eq:K->K->Bool}(h:Zj4 eq){k k':K}{x z:V}:∀{l:List (K×V)},X5 eq k' (Ke eq k x l) z=if eq k' k=true then x else X5 eq k' l z
 |[]=>by rw[Zyv,Qnd]
 |e::l=>by
  rw[Zpl];by_cases he:eq k e.1=true
  ·have hk:=(h _ _).1 he;rw[if_pos he,Qnd,Qnd,<-hk];by_cases hk:eq k' k=true
   ·rw[if_pos hk,if_pos hk]
   ·rw[if_neg hk,if_neg hk];simp[hk]
  ·rw[if_neg he,Qnd,Qnd,Zjf h (l:=l)];by_cases hk:eq k' k=true
   ·have:=(h _ _).1 hk;subst this;rw[if_neg he,if_pos hk,if_pos hk]
   ·rw[if_neg hk,if_neg hk]
theorem Qzp(x:UInt8):((BitVec.toFin (UInt8.toBitVec x)).1:Int)=(x.toNat:Int):=rfl
theorem Yfh{s:ByteArray}{i:Nat}(h:(s.get! i).toNat<128):ZY s i=((s.get! i).toNat,1):=by simp only[ZY,Nat.add_zero];rw[if_pos h]
theorem Yb5{s:ByteArray}{i:Nat}(h:¬(s.get! i).toNat<128):128<=(ZY s i).1:=by
 simp only[ZY,Nat.add_zero,Go.Utf8.runeError];rw[if_neg h]
 repeat' split
 all_goals simp only[ZB,decide_eq_true_eq,ge_iff_le]at*
 all_goals omega
theorem Xr{a b:ByteArray}:Qc a b=true↔a=b:=Zb5 a b
theorem Qvg{a b:ByteArray}(h:a≠b):Qc a b=false:=by
 cases e:Qc a b with
 |false=>rfl
 |true=>exact absurd (Xr.1 e) h
theorem K9(a:ByteArray):Qc a a=true:=Xr.2 rfl
theorem Zbf(a b:ByteArray):Qc a b=decide (a=b):=by
 by_cases h:a=b
 ·subst h;simp[K9]
 ·simp[h,Qvg h]
def Jf{α:Type}(f:α->α->Bool):Prop:=∀x,f x x=true
theorem Qft{α:Type}{f:α->α->Bool}(hf:Jf f):Jf (Wr f)
 |[]=>rfl
 |x::l=>by simp only[Wr,hf x];exact Qft hf l
theorem Qfc{α β:Type}{f:α->α->Bool}{g:β->β->Bool}(hf:Jf f)(hg:Jf g):Jf (Vi f g):=fun x=>by simp only[Vi,hf x.1,hg x.2]
theorem Ype{α β:Type}{f:α->α->Bool}{g:β->β->Bool}(hf:Jf f)(hg:Jf g):Jf (Qig f g):=fun x=>by
 cases x with
 |inl a=>exact hf a
 |inr b=>exact hg b
theorem Zz8:Jf Qfp:=fun x=>by cases x<;>rfl
theorem Zuy:Jf Qag:=fun x=>by simp[Qag]
theorem Zea:Jf Qc:=fun x=>by simp[Qc]
theorem Qv6:Jf Qhf:=fun x=>by simp[Qhf]
theorem eqv_rf:∀(n:Nat),(∀(t:Ty),SizeOf.sizeOf t<=n->Jf t.eqv)∧(∀(ts:List Ty),SizeOf.sizeOf ts<=n->Jf (Ql.eqv ts)):=by
 intro n;induction n with
 |zero=>exact⟨fun t ht=>by(cases t<;>simp at ht),fun ts ht=>by(cases ts<;>simp at ht)⟩
 |succ n ih=>
  obtain⟨ih1,ih2⟩:=ih;refine⟨fun t ht=>?_,fun ts ht=>?_⟩
  ·match t,ht with
   |.int k,ht=>exact Zuy
   |.bool,ht=>exact Zz8
   |.str,ht=>exact Zea
   |.seq row,ht=>exact Qft (ih2 row (by simp at ht;omega))
  ·match ts,ht with
   |[],ht=>exact fun a=>rfl
   |[t],ht=>exact ih1 t (by simp at ht;omega)
   |t::t'::ts,ht=>exact Qfc (ih1 t (by simp at ht;omega)) (ih2 (t'::ts) (by simp at ht⊢;omega))
theorem Ty.eqv_rf(t:Ty):Jf t.eqv:=(Sx.eqv_rf _).1 t (ZN _)
theorem Ql.eqv_rf(ts:List Ty):Jf (Ql.eqv ts):=(Sx.eqv_rf _).2 ts (ZN _)
theorem Qe.eqv_rf:∀(a:Qe),Jf a.eqv
 |.val t=>Ty.eqv_rf t
 |.agg row=>Ql.eqv_rf row
theorem Qt.eqv_rf:∀(l:List Qe),Jf (Qt.eqv l)
 |[]=>fun a=>rfl
 |[a]=>Qe.eqv_rf a
 |a::a'::l=>Qfc (Qe.eqv_rf a) (Qt.eqv_rf (a'::l))
theorem Jd.eqv_rf:∀(l:PL),Jf (Jd.eqv l)
 |[]=>fun a=>rfl
 |[p]=>Qe.eqv_rf p.2
 |p::p'::l=>Qfc (Qe.eqv_rf p.2) (Jd.eqv_rf (p'::l))
theorem Qu.eqv_rf:∀(c:Qu),Jf c.eqv
 |.slot _ a=>Qe.eqv_rf a
 |.vec _ _ row=>Qft (Ql.eqv_rf row)
 |.one _ _ row=>Ql.eqv_rf row
 |.mix _ _ _ dat _=>Jd.eqv_rf dat
 |.map _ k v=>Qft (Qfc (Qe.eqv_rf k) (Qe.eqv_rf v))
 |.iter _=>Qfc Zea Qv6
 |.over _ _=>fun a=>rfl
 |.nest _ _ _ row=>Qft (Qft (Ql.eqv_rf row))
 |.fix _ _ _=>fun a=>rfl
 |.mit _ _=>Qfc Qv6 (Qft Qv6)
theorem Yo.eqv_rf:∀(l:List Qu),Jf (Yo.eqv l)
 |[]=>fun a=>rfl
 |[c]=>Qu.eqv_rf c
 |c::c'::l=>Qfc (Qu.eqv_rf c) (Yo.eqv_rf (c'::l))
theorem Z8.eqv_rf:∀(l:Xv),Jf (Z8.eqv l)
 |[]=>fun a=>by cases a
 |[a]=>Yo.eqv_rf _
 |a::a'::l=>Ype (Yo.eqv_rf _) (Z8.eqv_rf (a'::l))
def Qcg(e:Zb):Code->Zb
 |.seq a b=>.two (Qcg e a) (Qcg e b)
 |.cond _ a b=>.two (Qcg e a) (Qcg e b)
 |.block _ c=>.one (Qcg e c)
 |.loop c=>.one (Qcg e c)
 |.scope c=>.one (Qcg e c)
 |.ret=>e
 |_=>.leaf
def Qc1(slot:Nat):Code->Zb
 |.seq a b=>.two (Qc1 slot a) (Qc1 slot b)
 |.cond _ a b=>.two (Qc1 slot a) (Qc1 slot b)
 |.block _ c=>.one (Qc1 slot c)
 |.loop c=>.one (Qc1 slot c)
 |.scope c=>.one (Qc1 slot c)
 |.ret=>.unslb slot .leaf
 |_=>.leaf
def Xy:Code->Zb
 |.seq _ (.seq _ r)=>.two .leaf (.two .leaf (.slb 0 (Qc1 6 r)))
 |_=>.leaf
theorem Wh.bare{cx:Cx}{g:Nat}{pf:PF}(h:Wh cx g pf):Wh cx.bare g pf:=⟨h.fn,h.ok⟩
theorem Qg.at2{cx:Cx}{g:Nat}{pc:PC}(h:Qg cx g pc){a0:Qt pc.ats}{y0:Qt pc.rts}(h0:Qg cx g {ats:=pc.ats,rts:=pc.rts,code:=Go.Sx.one a0 y0}):Qg cx g (pc.at a0 y0):=
 ⟨h.fn,fun a y hy=>by
  have hy:(bif Qt.eqv pc.ats a a0 then some y0 else pc.code a)=some y:=hy;cases e:Qt.eqv pc.ats a a0 with
  |true=>rw[e]at hy;exact h0.ok a y (by show(bif Qt.eqv pc.ats a a0 then some y0 else none)=some y;rw[e];exact hy)
  |false=>rw[e]at hy;exact h.ok a y hy⟩
end Go.Sx

/- Own rows that a function of data gets: they become immutable at the call. Part Qr of the own logic: another numbering of the owned objects. And further parts. -/
import Derived.Test.YtpkbmngnolhopaaGreatDoorXSxQb
set_option linter.unusedVariables false
set_option linter.unusedSimpArgs false
set_option linter.unnecessarySimpa false
namespace Go.Sx
open Go
theorem Mem.Yld{M:Qd}{ρ:Env}{H:List Qb}{w:World}{k ty:Nat}{row:List Ty}{l:List (Qi row)}(hm:Mem M ρ H w)(ho:H[k]? =some (.tvec ty row l)):
  ∃M2,M.le M2∧Mem M2 ρ (H.set k .dead) w∧(∀n,Fr M ρ H w M2 ρ (H.set k .dead) w n [k] [])∧∀v,Qe M ρ v (.sl k row.length 0 l.length)→Zl M2 v (.tsl row l):=by
 have hks:k<H.length:=(List.getElem?_eq_some_iff.1 ho).1;have hl:(Qb.tvec ty row l).live=true:=rfl;have hm1:=Mem.oneLive hm ho hl (hm.own k _ ho);have hle:=Qd.Jz M ρ (Sx.oneLive H k (.tvec ty row l)) 0 w;have hget:(Sx.oneLive H k (.tvec ty row l))[k]? =some (.tvec ty row l):=by simp[Sx.oneLive,hks]
 have hnew:∀b ob,M b=none→M.sealing ρ (Sx.oneLive H k (.tvec ty row l)) 0 w b=some ob→(∃p,ρ k=some p∧p.block=b)∧w.heap[b]? =some ob:=fun b ob h0 h1=>by
  obtain⟨⟨s2,o2,p2,q1,q2,q3,q4,q5⟩,q6⟩:=Qd.Vk h0 h1;rcases Qdr q2 with⟨rfl,rfl⟩|⟨_,rfl⟩
  ·exact⟨⟨p2,q4,q5⟩,q6⟩
  ·cases q3
 have hslice:∀v,Qe M ρ v (.sl k row.length 0 l.length)→Zl (M.sealing ρ (Sx.oneLive H k (.tvec ty row l)) 0 w) v (.tsl row l):=fun v hr=>by
  refine Qjd hm1 (Nat.zero_le _) hget rfl rfl (by simp[Qb.len]) rfl (fun i y hy=>?_) hr;have:(Qb.tvec ty row l).row (0+i)=(Zi row y).map .pv:=by simp only[Qb.row,List.getD,Nat.zero_add,hy,Option.getD_some]
  rw[this];exact .self hle y
 generalize hM2:M.sealing ρ (Sx.oneLive H k (.tvec ty row l)) 0 w=M2 at hle hnew hslice;have hobj:∀t x,(H.set k .dead)[t]? =some x→(t=k∧x=.dead)∨(t≠k∧H[t]? =some x):=fun t x hx=>by
  by_cases e:t=k
  ·subst e;rw[List.getElem?_set_self hks]at hx;cases hx;exact .inl ⟨rfl,rfl⟩
  ·rw[List.getElem?_set_ne (fun h=>e h.symm)]at hx;exact .inr ⟨e,hx⟩
 refine⟨M2,hle,⟨fun b ob hb=>?_,fun t x hx=>?_,fun t x p b hx hlx hp hb=>?_,fun t t' x x' p p' b hx hx' hlx hlx' hp hp' hbk hbk'=>?_,fun t ht=>hm.fresh t (by simpa using ht),fun t x p b hx hlx hp hb=>?_⟩,fun n=>⟨hle,fun b ob h0 h1=>?_,fun b hb=>?_,fun _ _ _=>rfl,Nat.le_refl _,fun t x ht hx hx2 hlx=>?_,fun _ _ _=>rfl,rfl,rfl⟩,hslice⟩
 ·cases e:M b with
  |some o'=>rw[hle b o' e]at hb;cases hb;exact hm.imm b _ e
  |none=>exact(hnew b ob e hb).2
 ·rcases hobj t x hx with⟨rfl,rfl⟩|⟨_,hy⟩
  ·trivial
  ·exact(hm.own t x hy).mono hle ρ.le_refl rfl fun _ _ _ _=>rfl
 ·rcases hobj t x hx with⟨rfl,rfl⟩|⟨hne,hy⟩
  ·cases hlx
  ·have h0:=hm.seps t x p b hy hlx hp hb;cases e:M2 b with
   |none=>rfl
   |some ob=>obtain⟨⟨p2,q1,q2⟩,_⟩:=hnew _ _ h0 e;exact absurd (hm.diss t k x _ p p2 b hy ho hlx hl hp q1 hb (.inl q2)) hne
 ·rcases hobj t x hx with⟨rfl,rfl⟩|⟨_,hy⟩
  ·cases hlx
  ·rcases hobj t' x' hx' with⟨rfl,rfl⟩|⟨_,hy'⟩
   ·cases hlx'
   ·exact hm.diss t t' x x' p p' b hy hy' hlx hlx' hp hp' hbk hbk'
 ·rcases hobj t x hx with⟨rfl,rfl⟩|⟨hne,hy⟩
  ·cases hlx
  ·exact hm.lts t x p b hy hlx hp hb
 ·obtain⟨⟨p,q1,q2⟩,_⟩:=hnew b ob h0 h1;exact .inr ⟨k,_,p,ho,hl,q1,.inl q2⟩
 ·obtain⟨t,x,p,h1,h2,h3,h4⟩:=hb;rcases hobj t x h1 with⟨rfl,rfl⟩|⟨_,hy⟩
  ·cases h2
  ·exact .inr ⟨t,x,p,hy,h2,h3,h4⟩
 ·have hne:t≠k:=fun e=>hx (by rw[e];exact List.mem_cons_self);exact⟨⟨x,by rw[List.getElem?_set_ne (fun h=>hne h.symm)];exact hx2,hlx⟩,fun p hp=>⟨hp,fun _ _=>rfl⟩⟩
def Qes(H:List Qb):SV→Option (SV×Nat×List Qb)
 |.sl k sz 0 n=>match H[k]? with
  |some (.tvec ty row l)=>match Nat.beq sz row.length with
   |true=>some (.pv (.tsl row l),k,H.set k .dead)
   |false=>none
  |_=>none
 |_=>none
def Qn9(H:List Qb):SV→Bool
 |.sl k sz 0 n=>match H[k]? with
  |some (.tvec ty row l)=>decide (n=l.length)
  |_=>true
 |_=>true
theorem Zav{M:Qd}{ρ:Env}{H H':List Qb}{w:World}{x y:SV}{k:Nat}(hm:Mem M ρ H w)(h:Qes H x=some (y,k,H'))(hc:Qn9 H x=true):
  H'.length=H.length∧∃M2,M.le M2∧Mem M2 ρ H' w∧(∀n,Fr M ρ H w M2 ρ H' w n [k] [])∧∀v,Qe M ρ v x→Qe M2 ρ v y:=by
 unfold Qes at h;unfold Qn9 at hc;split at h
 ·rename_i k0 sz n;split at h
  ·rename_i ty row l ho;split at h
   ·rename_i e;have e:=Nat.eq_of_beq_eq_true e;subst e;cases h;simp only[ho,decide_eq_true_eq]at hc;subst hc;obtain⟨M2,h1,h2,h3,h4⟩:=hm.Yld ho;exact⟨by simp,M2,h1,h2,h3,fun v hv=>.pv (h4 v hv)⟩
   ·cases h
  ·cases h
 ·cases h
def Ygj:PV→Option Ty
 |.lit (.string _)=>some .str
 |.lit (.int k _)=>some (.int k)
 |.lit (.bool _)=>some .bool
 |.tsl row _=>some (.seq row)
 |_=>none
def Zek(H:List Qb)(x:SV):List Ty:=match x with
 |.sl d _ _ _=>match H[d]? with
  |some (.vec _ _ (r::_))=>match Jy Ygj r with
   |some row=>row
   |none=>[]
  |_=>[]
 |_=>[]
def Qal(H:List Qb)(x:SV):List Qb:=asData H (Zek H x) x
theorem Qxs{M:Qd}{ρ:Env}{H:List Qb}{w:World}(hm:Mem M ρ H w)(x:SV):Mem M ρ (Qal H x) w∧(∀n,Fr M ρ H w M ρ (Qal H x) w n [] [])∧(Qal H x).length=H.length:=by obtain⟨m1,h,m3⟩:=Qqt hm (Zek H x) x;exact⟨m1,fun n=>⟨h.imm,h.new,h.own,h.same,h.grow,fun s o _ ht ho hl=>h.keep s o (List.getElem?_eq_some_iff.1 ho).1 ht ho hl,fun _ _ _=>rfl,h.io⟩,m3⟩
def Vr:List SV→List Qb→Bool×List SV×List Nat×List Qb
 |[],H=>(true,[],[],H)
 |x::xs,H=>match Qes (Qal H x) x with
  |some q=>match Vr xs q.2.2 with
   |r=>(Qn9 (Qal H x) x&&r.1,q.1::r.2.1,q.2.1::r.2.2.1,r.2.2.2)
  |none=>match Vr xs H with
   |r=>(r.1,x::r.2.1,r.2.2.1,r.2.2.2)
theorem Qry:∀{args:List SV} {M:Qd} {ρ:Env} {H:List Qb} {w:World},Mem M ρ H w→(Vr args H).1=true→
  (Vr args H).2.2.2.length = H.length ∧ (Vr args H).2.1.length = args.length ∧ ∃ M2,M.le M2 ∧ Mem M2 ρ (Vr args H).2.2.2 w ∧ (∀ n,Fr M ρ H w M2 ρ (Vr args H).2.2.2 w n (Vr args H).2.2.1 []) ∧
   ∀(i:Nat) (v:Value) (x y:SV),args[i]? =some x→(Vr args H).2.1[i]? =some y→Qe M ρ v x→Qe M2 ρ v y
 |[],M,ρ,H,w,hm,hc=>⟨rfl,rfl,M,M.le_refl,hm,fun n=>Fr.refl ..,fun i v x y hx=>by simp at hx⟩
 |x::xs,M,ρ,H,w,hm,hc=>by
  cases hs:Qes (Qal H x) x with
  |some q=>
   obtain⟨y,k,H1⟩:=q;simp only[Vr,hs,Bool.and_eq_true]at hc⊢;obtain⟨m1,m2,m3⟩:=Qxs hm x;obtain⟨e1,M1,a1,a2,a3',a4⟩:=Zav m1 hs hc.1;have a3:∀n,Fr M ρ H w M1 ρ H1 w n [k] []:=fun n=>(m2 n).trans (a3' n) (fun z hz=>by cases hz) (fun z hz=>hz) (fun z hz=>by cases hz) (fun z hz=>by cases hz);obtain⟨e2,e3,M2,b1,b2,b3,b4⟩:=Qry a2 hc.2;refine⟨e2.trans (e1.trans m3),by simp[e3],M2,Qd.le_trans a1 b1,b2,fun n=>(a3 n).trans (b3 n) (fun z hz=>?_) (fun z hz=>List.mem_cons_of_mem _ hz) (fun z hz=>by cases hz) (fun z hz=>hz),fun i v x' y' hx hy hv=>?_⟩
   ·rw[List.mem_singleton.1 hz];exact List.mem_cons_self
   ·cases i with
    |zero=>simp at hx hy;subst hx;subst hy;exact(a4 v hv).mono b1 ρ.le_refl
    |succ i=>exact b4 i v x' y' (by simpa using hx) (by simpa using hy) (hv.mono a1 ρ.le_refl)
  |none=>
   simp only[Vr,hs]at hc⊢;obtain⟨e2,e3,M2,b1,b2,b3,b4⟩:=Qry (args:=xs) hm hc;refine⟨e2,by simp[e3],M2,b1,b2,b3,fun i v x' y' hx hy hv=>?_⟩;cases i with
   |zero=>simp at hx hy;subst hx;subst hy;exact hv.mono b1 ρ.le_refl
   |succ i=>exact b4 i v x' y' (by simpa using hx) (by simpa using hy) hv
def Qbf(x:SV)(H:List Qb):Bool×SV×List Nat×List Qb:=match Qes (Qal H x) x with
 |some q=>(Qn9 (Qal H x) x,q.1,[q.2.1],q.2.2)
 |none=>(true,x,[],H)
theorem Ycv{x:SV}{M:Qd}{ρ:Env}{H:List Qb}{w:World}(hm:Mem M ρ H w)(hc:(Qbf x H).1=true):
  (Qbf x H).2.2.2.length=H.length∧∃M2,M.le M2∧Mem M2 ρ (Qbf x H).2.2.2 w∧(∀n,Fr M ρ H w M2 ρ (Qbf x H).2.2.2 w n (Qbf x H).2.2.1 [])∧∀v,Qe M ρ v x→Qe M2 ρ v (Qbf x H).2.1:=by
 unfold Qbf at hc⊢;cases hs:Qes (Qal H x) x with
 |some q=>obtain⟨y,k,H1⟩:=q;simp only[hs]at hc⊢;obtain⟨m1,m2,m3⟩:=Qxs hm x;obtain⟨e1,M1,a1,a2,a3,a4⟩:=Zav m1 hs hc;exact⟨e1.trans m3,M1,a1,a2,fun n=>(m2 n).trans (a3 n) (fun z hz=>by cases hz) (fun z hz=>hz) (fun z hz=>by cases hz) (fun z hz=>by cases hz),a4⟩
 |none=>exact⟨rfl,M,M.le_refl,hm,fun n=>Fr.refl ..,fun v hv=>hv⟩
def Qbs(x:SV)(H:List Qb):Bool×SV×List Nat×List Qb:=match x with
 |.agg l=>match Vr l H with
  |r=>(r.1,.agg r.2.1,r.2.2.1,r.2.2.2)
 |x=>Qbf x H
theorem Zi1{x:SV}{M:Qd}{ρ:Env}{H:List Qb}{w:World}(hm:Mem M ρ H w)(hc:(Qbs x H).1=true):
  (Qbs x H).2.2.2.length=H.length∧∃M2,M.le M2∧Mem M2 ρ (Qbs x H).2.2.2 w∧(∀n,Fr M ρ H w M2 ρ (Qbs x H).2.2.2 w n (Qbs x H).2.2.1 [])∧∀v,Qe M ρ v x→Qe M2 ρ v (Qbs x H).2.1:=by
 unfold Qbs at hc⊢;split at hc
 ·rename_i l;obtain⟨e1,e2,M2,b1,b2,b3,b4⟩:=Qry hm hc;refine⟨e1,M2,b1,b2,b3,fun v hv=>?_⟩;cases hv with
  |agg cs _ hl h=>
   refine .agg cs _ (by rw[hl,e2]) fun i v y hv hy=>?_;obtain⟨x,hx⟩:∃x,l[i]? =some x:=by
    have:i<l.length:=by rw[←e2];exact(List.getElem?_eq_some_iff.1 hy).1
    exact⟨_,List.getElem?_eq_getElem this⟩
   exact b4 i v x y hx hy (h i v x hv hx)
 ·exact Ycv hm hc
def Xr:List SV→List Qb→Bool×List SV×List Nat×List Qb
 |[],H=>(true,[],[],H)
 |x::xs,H=>match Qbs x H with
  |q=>match Xr xs q.2.2.2 with
   |r=>(q.1&&r.1,q.2.1::r.2.1,q.2.2.1++r.2.2.1,r.2.2.2)
theorem Qzq:∀{args:List SV} {M:Qd} {ρ:Env} {H:List Qb} {w:World},Mem M ρ H w→(Xr args H).1=true→
  (Xr args H).2.2.2.length = H.length ∧ (Xr args H).2.1.length = args.length ∧ ∃ M2,M.le M2 ∧ Mem M2 ρ (Xr args H).2.2.2 w ∧ (∀ n,Fr M ρ H w M2 ρ (Xr args H).2.2.2 w n (Xr args H).2.2.1 []) ∧
   ∀(i:Nat) (v:Value) (x y:SV),args[i]? =some x→(Xr args H).2.1[i]? =some y→Qe M ρ v x→Qe M2 ρ v y
 |[],M,ρ,H,w,hm,hc=>⟨rfl,rfl,M,M.le_refl,hm,fun n=>Fr.refl ..,fun i v x y hx=>by simp at hx⟩
 |x::xs,M,ρ,H,w,hm,hc=>by
  simp only[Xr,Bool.and_eq_true]at hc⊢;obtain⟨e1,M1,a1,a2,a3,a4⟩:=Zi1 hm hc.1;obtain⟨e2,e3,M2,b1,b2,b3,b4⟩:=Qzq a2 hc.2;refine⟨e2.trans e1,by simp[e3],M2,Qd.le_trans a1 b1,b2,fun n=>(a3 n).trans (b3 n) (fun z hz=>List.mem_append_left _ hz) (fun z hz=>List.mem_append_right _ hz) (fun z hz=>by cases hz) (fun z hz=>hz),fun i v x' y' hx hy hv=>?_⟩;cases i with
  |zero=>simp at hx hy;subst hx;subst hy;exact(a4 v hv).mono b1 ρ.le_refl
  |succ i=>exact b4 i v x' y' (by simpa using hx) (by simpa using hy) (hv.mono a1 ρ.le_refl)
theorem Y6.Ylb{P:Program}{g:Nat}{args:List SV}{H:List Qb}{K:Qv}(hc:(Xr args H).1=true)
  (h:Y6 P g (Xr args H).2.1 (Xr args H).2.2.2 fun r H' t f=>K r H' ((Xr args H).2.2.1++t) f):Y6 P g args H K:=by
 intro M ρ w vs hm hr;obtain⟨e1,e2,M2,b1,b2,b3,b4⟩:=Qzq hm hc;refine(h M2 ρ w vs b2 ⟨by rw[hr.1,e2],fun i v y hv hy=>?_⟩).mono ?_
 ·obtain⟨x,hx⟩:∃x,args[i]? =some x:=by
   have:i<args.length:=by rw[←e2];exact(List.getElem?_eq_some_iff.1 hy).1
   exact⟨_,List.getElem?_eq_getElem this⟩
  exact b4 i v x y hx hy (hr.2 i v x hv hx)
 ·rintro e w' ⟨v,r,H',M',ρ',t,f,he,hk,hs,hm',hf⟩
  rw[e1]at hf;exact⟨v,r,H',M',ρ',_,f,he,hk,hs,hm',(b3 _).trans hf (fun z hz=>List.mem_append_left _ hz) (fun z hz=>List.mem_append_right _ hz) (fun z hz=>by cases hz) (fun z hz=>hz)⟩
end Go.Sx
section
namespace Go.Sx
open Go
mutual
def SV.Zx(f:Nat→Option Nat):SV→SV
 |.ptr s sz i j=>match f s with
  |some t=>.ptr t sz i j
  |none=>.any
 |.sl s sz st n=>match f s with
  |some t=>.sl t sz st n
  |none=>.any
 |.mp s=>match f s with
  |some t=>.mp t
  |none=>.any
 |.yld s=>match f s with
  |some t=>.yld t
  |none=>.any
 |.slb s sz st n m=>match f s with
  |some t=>.slb t sz st n m
  |none=>.any
 |.agg l=>.agg (Kt f l)
 |.tup l=>.tup (Kt f l)
 |.fn g a b=>.fn g (Kt f a) (Kt f b)
 |.any=>.any
 |.pv p=>.pv p
def Kt(f:Nat→Option Nat):List SV→List SV
 |[]=>[]
 |x::xs=>x.Zx f::Kt f xs
end
theorem Qnw(f:Nat→Option Nat)(l:List SV):Kt f l=l.map (SV.Zx f):=by
 induction l with
 |nil=>rfl
 |cons x xs ih=>simp only[Kt,List.map_cons,ih]
theorem Qe.Zx{M M':Qd}{ρ ρ':Env}{f:Nat→Option Nat}(hM:M.le M')(hf:∀s t p,f s=some t→ρ s=some p→ρ' t=some p){v:Value}{x:SV}(h:Qe M ρ v x):Qe M' ρ' v (x.Zx f):=by
 induction h with
 |any v=>exact .any v
 |pv h=>exact .pv (h.mono hM)
 |agg cs l hl _ ih=>simp only[SV.Zx,Qnw];refine .agg cs _ (by simpa using hl) fun i v x hv hx=>?_;simp only[List.getElem?_map,Option.map_eq_some_iff]at hx;obtain⟨y,hy,rfl⟩:=hx;exact ih i v y hv hy
 |tup cs l hl _ ih=>simp only[SV.Zx,Qnw];refine .tup cs _ (by simpa using hl) fun i v x hv hx=>?_;simp only[List.getElem?_map,Option.map_eq_some_iff]at hx;obtain⟨y,hy,rfl⟩:=hx;exact ih i v y hv hy
 |ptr s sz i j k p hp hk=>
  simp only[SV.Zx];split
  ·rename_i t ht;exact .ptr t sz i j k p (hf s t p ht hp) hk
  ·exact .any _
 |sl s sz st n c k p hp hk hc hn h6=>
  simp only[SV.Zx];split
  ·rename_i t ht;exact .sl t sz st n c k p (hf s t p ht hp) hk hc hn h6
  ·exact .any _
 |slz s sz st a=>
  simp only[SV.Zx];split
  ·exact .slz _ sz st a
  ·exact .any _
 |mp s p hp=>
  simp only[SV.Zx];split
  ·rename_i t ht;exact .mp t p (hf s t p ht hp)
  ·exact .any _
 |yld s p hp=>
  simp only[SV.Zx];split
  ·rename_i t ht;exact .yld t p (hf s t p ht hp)
  ·exact .any _
 |slb s sz st n m _ hm ih=>
  simp only[SV.Zx]at ih⊢;cases e:f s with
  |some t=>rw[e]at ih;exact .slb t sz st n m ih hm
  |none=>exact .any _
 |fn g a b x y ha hb _ _ ih jh=>
  simp only[SV.Zx,Qnw];refine .fn g a b _ _ (by simpa using ha) (by simpa using hb) (fun i v s hv hs=>?_) (fun i v s hv hs=>?_)
  ·simp only[List.getElem?_map,Option.map_eq_some_iff]at hs;obtain⟨y,hy,rfl⟩:=hs;exact ih i v y hv hy
  ·simp only[List.getElem?_map,Option.map_eq_some_iff]at hs;obtain⟨y,hy,rfl⟩:=hs;exact jh i v y hv hy
def Qb.Zx(f:Nat→Option Nat):Qb→Qb
 |.mix ty sz rows=>.mix ty sz (rows.map (·.map (SV.Zx f)))
 |.tlnk ty row l r c x=>.tlnk ty row l r c (x.Zx f)
 |.nest ty ity row ll q=>.nest ty ity row ll (q.map fun x=>(x.1,x.2.Zx f))
 |.map es c=>.map (es.map fun e=>(e.1,e.2.1.Zx f,e.2.2)) c
 |.loop l=>.loop {l with T:=l.T.map (SV.Zx f)}
 |.mit m c s=>.mit (m.bind f) c s
 |o=>o
theorem Kx(f:Nat→Option Nat)(o:Qb):(o.Zx f).live=o.live:=by cases o<;>rfl
theorem Qf.Yk1(f:Nat→Option Nat):∀(a:Qf) (x:a.El),(a.raw x).Zx f=a.raw x
 |.val t,x=>rfl
 |.agg row,x=>by
  have:∀l:List PV,Kt f (l.map .pv)=l.map .pv:=fun l=>by
   induction l with
   |nil=>rfl
   |cons x l ih=>simp only[List.map_cons,Kt,SV.Zx,ih]
  simp only[Qf.raw,SV.Zx,this]
theorem Q3.Zx{M M':Qd}{ρ ρ':Env}{w w':World}{s t:Nat}{f:Nat→Option Nat}{o:Qb}(hM:M.le M')(hf:∀s t p,f s=some t→ρ s=some p→ρ' t=some p)(hs:ρ' t=ρ s)
  (hw:∀p b,ρ s=some p→p.has b→w'.heap[b]? =w.heap[b]?) (h:Q3 M ρ w s o):Q3 M' ρ' w' t (o.Zx f):=by
 have hws:=hw;replace hw:∀p,ρ s=some p→w'.heap[p.block]? =w.heap[p.block]? :=fun p hp=>hws p _ hp p.self;cases o with
 |dead=>trivial
 |vec ty sz rows=>
  rcases h with⟨h1,h2⟩|⟨p,h1,h2⟩
  ·exact .inl ⟨hs.trans h1,h2⟩
  ·refine .inr ⟨p,hs.trans h1,?_⟩;obtain⟨cs,a1,a2,a3,a4,a5,a6⟩:=h2.ex;refine⟨cs,(hw p h1).trans a1,a2,a3,a4,fun i j x v hx hv=>?_,a6⟩;obtain⟨b1,b2,b3⟩:=a5 i j x v hx hv;refine⟨b1,b2,?_⟩;unfold Yf at hx;simp only[Option.map_eq_some_iff]at hx;obtain⟨q,_,rfl⟩:=hx;cases b3 with
   |pv b3=>exact .pv (b3.mono hM)
 |tvec ty row l=>
  rcases h with⟨h1,h2⟩|⟨p,h1,h2⟩
  ·exact .inl ⟨hs.trans h1,h2⟩
  ·refine .inr ⟨p,hs.trans h1,?_⟩;obtain⟨cs,a1,a2,a3,a4,a5,a6⟩:=h2.ex;refine⟨cs,(hw p h1).trans a1,a2,a3,a4,fun i j x v hx hv=>?_,a6⟩;obtain⟨b1,b2,b3⟩:=a5 i j x v hx hv;refine⟨b1,b2,?_⟩;unfold Yf at hx;simp only[Option.map_eq_some_iff]at hx;obtain⟨q,_,rfl⟩:=hx;cases b3 with
   |pv b3=>exact .pv (b3.mono hM)
 |mix ty sz rows=>
  rcases h with⟨h1,h2⟩|⟨p,h1,h2⟩
  ·exact .inl ⟨hs.trans h1,by simp[h2]⟩
  ·refine .inr ⟨p,hs.trans h1,?_⟩;obtain⟨cs,a1,a2,a3,a4,a5,a6⟩:=h2.ex;have key:∀i j x,Y5 (rows.map (·.map (SV.Zx f))) i j=some x→∃y,Y5 rows i j=some y∧x=y.Zx f:=fun i j x hx=>by unfold Y5 at hx;simp only[List.getElem?_map,Option.bind_eq_some_iff,Option.map_eq_some_iff]at hx;obtain⟨r',⟨r,hr,rfl⟩,hx⟩:=hx;simp only[List.getElem?_map,Option.map_eq_some_iff]at hx;obtain⟨y,hy,rfl⟩:=hx;exact⟨y,by simp[Y5,hr,hy],rfl⟩
   refine⟨cs,(hw p h1).trans a1,a2,by simpa using a3,by simpa using a4,fun i j x v hx hv=>?_,fun i j x hx=>?_⟩
   ·obtain⟨y,hy,rfl⟩:=key i j x hx;obtain⟨b1,b2,b3⟩:=a5 i j y v hy hv;exact⟨by simpa using b1,b2,b3.Zx hM hf⟩
   ·obtain⟨y,hy,rfl⟩:=key i j x hx;simpa using a6 i j y hy
 |tlnk ty row l r c x=>
  rcases h with⟨h1,h2⟩|⟨p,h1,h2⟩
  ·exact .inl ⟨hs.trans h1,h2⟩
  ·refine .inr ⟨p,hs.trans h1,?_⟩;obtain⟨cs,a1,a2,a3,a4,a5,a6⟩:=h2.ex;refine⟨cs,(hw p h1).trans a1,a2,a3,a4,fun i j z v hz hv=>?_,fun i j z hz=>?_⟩
   ·obtain⟨y,hy,rfl,_⟩:=Qok (f:=SV.Zx f) (fun _=>rfl) hz;obtain⟨b1,b2,b3⟩:=a5 i j y v hy hv;exact⟨b1,b2,b3.Zx hM hf⟩
   ·obtain⟨y,hy,_⟩:=Qok (f:=SV.Zx f) (fun _=>rfl) hz;exact a6 i j y hy
 |nest ty ity row ll q=>
  rcases h with⟨h1,h2,h3⟩|⟨p,h1,h2⟩
  ·subst h3;exact .inl ⟨hs.trans h1,h2,rfl⟩
  refine .inr ⟨p,hs.trans h1,h2.goes hM rfl rfl rfl (fun b hb=>hws p b h1 hb) (by cases q<;>rfl) fun i x y v e1 e2 hr=>?_⟩;rw[e1]at e2;simp only[Option.map_some,Option.some.injEq,Prod.mk.injEq,true_and]at e2;subst e2;exact hr.Zx hM hf
 |map es clock=>obtain⟨p,arr,h1,h2,h3,h4⟩:=h;refine⟨p,arr,hs.trans h1,(hw p h1).trans h2,by simpa using h3,fun i k x b hi=>?_⟩;simp only[List.getElem?_map,Option.map_eq_some_iff]at hi;obtain⟨⟨k',x',b'⟩,he,hq⟩:=hi;simp only[Prod.mk.injEq]at hq;obtain⟨rfl,rfl,rfl⟩:=hq;obtain⟨e,c1,c2,c3,c4⟩:=h4 i k' x' b' he;exact⟨e,c1,c2,c3,c4.Zx hM hf⟩
 |tmap k v l=>obtain⟨p,arr,h1,h2,h3,h4⟩:=h;refine⟨p,arr,hs.trans h1,(hw p h1).trans h2,h3,fun i kk x b hi=>?_⟩;obtain⟨e,c1,c2,c3,c4⟩:=h4 i kk x b hi;refine⟨e,c1,c2,c3,?_⟩;have:=c4.Zx hM hf;rw[U8]at hi;simp only[Option.map_eq_some_iff,Prod.mk.injEq]at hi;obtain⟨y,_,_,rfl,_⟩:=hi;rwa[Qf.Yk1]at this
 |iter str pos=>obtain⟨p,h1,h2⟩:=h;exact⟨p,hs.trans h1,(hw p h1).trans h2⟩
 |loop l=>obtain⟨p,fn,tmps,q,h1,h2,h3,h4⟩:=h;refine⟨p,fn,tmps,q,hs.trans h1,(hw p h1).trans h2,h3,fun t x hx=>?_⟩;rw[TT.get_map,Option.map_eq_some_iff]at hx;obtain⟨y,hy,rfl⟩:=hx;exact(h4 t y hy).Zx hM hf
 |mit m c sn=>
  obtain⟨p,q,sn,h1,h2,h3,h4⟩:=h;refine⟨p,q,sn,hs.trans h1,(hw p h1).trans h2,h3,fun mm e=>?_⟩;cases m with
  |none=>cases e
  |some x=>have e:f x=some mm:=e;obtain⟨pm,a,b⟩:=h4 x rfl;exact⟨pm,hf x mm pm e a,b⟩
 |over st pd=>obtain⟨p,r,h1,h2,h3⟩:=h;exact⟨p,r,hs.trans h1,(hw p h1).trans h2,h3⟩
 |dfr shut=>obtain⟨p,h1,h2⟩:=h;exact⟨p,hs.trans h1,(hw p h1).trans h2⟩
def Uo:List Nat→Nat→Nat→Option Nat
 |[],_,_=>none
 |a::l,i,s=>match Nat.beq a s with
  |true=>some i
  |false=>Uo l (i+1) s
theorem Qzd:∀{l:List Nat} {i s t:Nat},Uo l i s=some t→i≤t∧l[t-i]? =some s
 |a::l,i,s,t,h=>by
  unfold Uo at h;split at h
  ·rename_i e;cases h;rw[Nat.eq_of_beq_eq_true e];simp
  ·obtain⟨h1,h2⟩:=Qzd h;refine⟨by omega,?_⟩;rw[show t-i=(t-(i+1))+1 by omega,List.getElem?_cons_succ];exact h2
def Qqb(σ:List Nat)(n n0:Nat):Bool:=Nat.beq σ.length n&&decide σ.Nodup
def Qh6(σ:List Nat)(n0:Nat):List Nat:=(List.range n0).filter fun i=>match σ[i]? with
 |some o=>!Nat.beq o i
 |none=>true
theorem Yex{σ:List Nat}{n0 i:Nat}(hi:i<n0)(h:i∉Qh6 σ n0):σ[i]? =some i:=by
 unfold Qh6 at h;rw[List.mem_filter,List.mem_range]at h;split at h
 ·rename_i o e;rw[e];cases hb:Nat.beq o i with
  |true=>rw[Nat.eq_of_beq_eq_true hb]
  |false=>rw[hb]at h;exact absurd ⟨hi,rfl⟩ h
 ·exact absurd ⟨hi,rfl⟩ h
def Qq7(σ:List Nat)(s:St):St:=
 {T:=s.T.map (SV.Zx (Uo σ 0)),H:=σ.map fun o=>match s.H[o]? with
   |some x=>x.Zx (Uo σ 0)
   |none=>.dead,n0:=s.n0,tch:=Qh6 σ s.n0++s.tch,fg:=Qh6 σ s.n0++s.fg,marks:=s.marks,er:=s.er}
theorem Zl1{R:Option Nat}{P:Program}{nt:Nat}{c:Code}{Q:Exit→St→Prop}{s:St}{σ:List Nat}(hm:s.marks=[])(hσ:Qqb σ s.H.length s.n0=true)(h:Zf R P nt c Q (Qq7 σ s)):Zf R P nt c Q s:=by
 simp only[Qqb,Bool.and_eq_true,decide_eq_true_eq]at hσ;obtain⟨h1,h2⟩:=hσ;have h1:σ.length=s.H.length:=Nat.eq_of_beq_eq_true h1;have h3:∀i,i<s.n0→i∉Qh6 σ s.n0→σ[i]? =some i:=fun i hi hx=>Yex hi hx;refine Zf.Qgy (fun B M ρ a w hg=>⟨fun t=>match σ[t]? with
  |some o=>ρ o
  |none=>none,?_,?_⟩) h
 all_goals
  have hat:∀t o:Nat,σ[t]? =some o→(match σ[t]? with
   |some o=>ρ o
   |none=>none)=ρ o:=fun t o e=>by rw[e]
  have hf:∀(s' t:Nat) (p:Place),Uo σ 0 s'=some t→ρ s'=some p→(match σ[t]? with
   |some o=>ρ o
   |none=>none)=some p:=fun s' t p e hp=>by
   have:=(Qzd e).2;rw[Nat.sub_zero]at this;rw[this];exact hp
  have hobj:∀(t:Nat) (x:Qb),(σ.map fun o=>match s.H[o]? with
   |some x=>x.Zx (Uo σ 0)
   |none=>.dead)[t]? =some x→∃o,σ[t]? =some o∧(x=.dead∨∃y,s.H[o]? =some y∧x=y.Zx (Uo σ 0)):=fun t x hx=>by
   rw[List.getElem?_map,Option.map_eq_some_iff]at hx;obtain⟨o,ho,hx⟩:=hx;refine⟨o,ho,?_⟩;split at hx
   ·rename_i y hy;exact .inr ⟨y,hy,hx.symm⟩
   ·exact .inl hx.symm
  have hm':=hg.mem
 ·refine⟨fun t x hx=>?_,hg.sz,⟨hm'.imm,fun t x hx=>?_,fun t x p b hx hl hp hb=>?_,fun t t' x x' p p' b hx hx' hl hl' hp hp' hb hb'=>?_,fun t ht=>?_,fun t x p b hx hl hp hb=>?_⟩,?_,fun m hmm=>?_,?_,hg.fix⟩
  ·have hx:(s.T.map (SV.Zx (Uo σ 0))).get t=some x:=hx;rw[TT.get_map,Option.map_eq_some_iff]at hx;obtain⟨y,hy,rfl⟩:=hx;exact(hg.tm t y hy).Zx M.le_refl hf
  ·obtain⟨o,ho,hx⟩:=hobj t x hx;rcases hx with rfl|⟨y,hy,rfl⟩
   ·trivial
   ·exact(hm'.own o y hy).Zx M.le_refl hf (hat t o ho) fun _ _ _ _=>rfl
  ·obtain⟨o,ho,hx⟩:=hobj t x hx;rcases hx with rfl|⟨y,hy,rfl⟩
   ·cases hl
   ·rw[Kx]at hl;exact hm'.seps o y p b hy hl ((hat t o ho).symm.trans hp) hb
  ·obtain⟨o,ho,hx⟩:=hobj t x hx;obtain⟨o',ho',hx'⟩:=hobj t' x' hx';rcases hx with rfl|⟨y,hy,rfl⟩
   ·cases hl
   ·rcases hx' with rfl|⟨y',hy',rfl⟩
    ·cases hl'
    ·rw[Kx]at hl hl';have:=hm'.diss o o' y y' p p' b hy hy' hl hl' ((hat t o ho).symm.trans hp) ((hat t' o' ho').symm.trans hp') hb hb';subst this;obtain⟨a1,a2⟩:=List.getElem?_eq_some_iff.1 ho;obtain⟨b1,b2⟩:=List.getElem?_eq_some_iff.1 ho';exact(List.getElem_inj (h₀:=a1) (h₁:=b1) h2).1 (a2.trans b2.symm)
  ·have ht:σ.length≤t:=by simpa[Qq7]using ht
   rw[List.getElem?_eq_none ht]
  ·obtain⟨o,ho,hx⟩:=hobj t x hx;rcases hx with rfl|⟨y,hy,rfl⟩
   ·cases hl
   ·rw[Kx]at hl;exact hm'.lts o y p b hy hl ((hat t o ho).symm.trans hp) hb
  ·have:=hg.df;rw[hm]at this;show Qgj _ s.marks _;rw[hm];exact⟨this.1,fun i d q _ hq=>by simp at hq⟩
  ·have hmm:m∈s.marks:=hmm;rw[hm]at hmm;cases hmm
  ·show s.n0≤(σ.map _).length;rw[List.length_map,h1];exact hg.nle
 ·refine⟨⟨M.le_refl,fun b o e e'=>(by rw[e]at e';cases e'),fun b hb=>?_,fun _ _ _=>rfl,Nat.le_refl _,fun i o hi hx ho hl=>?_,fun i hi hx=>?_,rfl,rfl⟩,rfl,fun _ h=>List.mem_append_right _ h,fun _ h=>List.mem_append_right _ h⟩
  ·obtain⟨t,x,p,hx,hl,hp,hb⟩:=hb;obtain⟨o,ho,hx⟩:=hobj t x hx;rcases hx with rfl|⟨y,hy,rfl⟩
   ·cases hl
   ·rw[Kx]at hl;exact .inr ⟨o,y,p,hy,hl,(hat t o ho).symm.trans hp,hb⟩
  ·refine⟨⟨o.Zx (Uo σ 0),?_,by rw[Kx];exact hl⟩,fun p hp=>?_⟩
   ·show(σ.map _)[i]? =_;rw[List.getElem?_map,(h3 i hi fun hy=>hx (List.mem_append_left _ hy))];simp[ho]
   ·rw[hat i i ((h3 i hi fun hy=>hx (List.mem_append_left _ hy)))]
    first|exact hp|exact⟨hp,fun _ _=>rfl⟩|simp_all
  ·exact hat i i ((h3 i hi fun hy=>hx (List.mem_append_left _ hy)))
def Qgb(T:TT):List Nat→List Nat
 |[]=>[]
 |t::l=>match T.get t with
  |some (.ptr k _ _ _)=>k::Qgb T l
  |some (.sl k _ _ _)=>k::Qgb T l
  |_=>Qgb T l
def Qzk(slots:List Nat)(s:St):List Nat:=((List.range s.H.length).filter fun i=>!(Qgb s.T slots).contains i)++Qgb s.T slots
def Qyp(slots:List Nat)(s:St):List Nat:=match slots with
 |[k,t]=>match Nat.ble 10000 k with
  |true=>match Qgb s.T [t]with
   |[o]=>(List.range s.H.length).map fun i=>bif Nat.beq i (k-10000)then o else bif Nat.beq i o then k-10000 else i
   |_=>List.range s.H.length
  |false=>Qzk slots s
 |_=>Qzk slots s
end Go.Sx
end
section
namespace Go.Sx
open Go
theorem Qe.sim{M M':Qd}{ρ ρ':Env}(hM:M.le M')(hρ:Env.Qgx [] ρ ρ'){v:Value}{x:SV}(h:Qe M ρ v x):Qe M' ρ' v x:=by have:=h.K3 hM hρ;rwa[SV.Kb]at this
theorem Q3.sim{M M':Qd}{ρ ρ':Env}{w:World}{s:Nat}{o:Qb}(hM:M.le M')(hρ:Env.Qgx [] ρ ρ')(hs:ρ' s=ρ s)(h:Q3 M ρ w s o):Q3 M' ρ' w s o:=by have:=h.K3 hM hρ hs (fun _ _ _ _=>rfl);rwa[Qb.Kb]at this
theorem Ve.pure{M M':Qd}{ρ ρ':Env}{w:World}{p:Place}{ty sz n:Nat}{rows:List (List PV)}{subs:List Nat}(hM:M.le M')(h:Ve M ρ w p ty sz n (Yf rows)):Ve M' ρ' w ⟨p.block,p.cap,subs⟩ ty sz n (Yf rows):=by
 obtain⟨cs,a1,a2,a3,a4,a5,a6⟩:=h.ex;refine⟨cs,a1,a2,a3,a4,fun i j x v hx hv=>?_,a6⟩;obtain⟨b1,b2,b3⟩:=a5 i j x v hx hv;refine⟨b1,b2,?_⟩;unfold Yf at hx;simp only[Option.map_eq_some_iff]at hx;obtain⟨q,_,rfl⟩:=hx;cases b3 with
 |pv b3=>exact .pv (b3.mono hM)
theorem Mem.re{M:Qd}{ρ ρ':Env}{H H':List Qb}{w:World}(hm:Mem M ρ H w)(hown:∀s o,H'[s]? =some o→Q3 M ρ' w s o)
  (hsrc:∀s o p b,H'[s]? =some o→o.live=true→ρ' s=some p→p.has b→∃s0 o0 p0,H[s0]? =some o0∧o0.live=true∧ρ s0=some p0∧p0.has b)
  (hdis:∀s s' o o' p p' b,H'[s]? =some o→H'[s']? =some o'→o.live=true→o'.live=true→ρ' s=some p→ρ' s'=some p'→p.has b→p'.has b→s=s')
  (hfresh:∀s,H'.length≤s→ρ' s=none):Mem M ρ' H' w:=
 ⟨hm.imm,hown,fun s o p b h1 h2 h3 h4=>let⟨s0,o0,p0,a,b',c,d⟩:=hsrc s o p b h1 h2 h3 h4;hm.seps s0 o0 p0 b a b' c d,hdis,hfresh,
  fun s o p b h1 h2 h3 h4=>let⟨s0,o0,p0,a,b',c,d⟩:=hsrc s o p b h1 h2 h3 (.inr h4);hm.Ji a b' c d⟩
theorem Fr.re{M:Qd}{ρ ρ':Env}{H H':List Qb}{w:World}{n:Nat}{t f:List Nat}
  (hsrc:∀s o p b,H'[s]? =some o→o.live=true→ρ' s=some p→p.has b→∃s0 o0 p0,H[s0]? =some o0∧o0.live=true∧ρ s0=some p0∧p0.has b)
  (hk:∀s o,s<n→s∉t→H[s]? =some o→o.live=true→(∃o',H'[s]? =some o'∧o'.live=true)∧ρ' s=ρ s) (hs:∀s,s<n→s∉f→ρ' s=ρ s):Fr M ρ H w M ρ' H' w n t f:=
 ⟨M.le_refl,fun b o h h'=>by(rw[h]at h';cases h'),fun b ⟨s,o,p,h1,h2,h3,h4⟩=>.inr (hsrc s o p b h1 h2 h3 h4),fun _ _ _=>rfl,Nat.le_refl _,
  fun s o h1 h2 h3 h4=>⟨(hk s o h1 h2 h3 h4).1,fun p hp=>⟨by rw[(hk s o h1 h2 h3 h4).2];exact hp,fun _ _=>rfl⟩⟩,hs,rfl,rfl⟩
theorem Qgj.sim{ρ ρ':Env}{marks:List Nat}{ds:List Deferred}(hρ:Env.Qgx [] ρ ρ')(h:Qgj ρ marks ds):Qgj ρ' marks ds:=
 ⟨h.1,fun i d s hd hs=>let⟨p,h1,h2⟩:=h.2 i d s hd hs;let⟨p',g1,g2,_⟩:=hρ s p rfl h1;⟨p',g1,by rw[g2];exact h2⟩⟩
open Classical in
def TI.Ylc(b:Bool)(i:TI):TI:={i with row:=match b with
 |true=>none
 |false=>i.row}
def Cx.raw(e:Nat)(cx:Cx):Cx:={P:=cx.P,tab:=cx.tab.map fun x=>(x.1,x.2.Ylc (Nat.beq x.1 e)),fns:=cx.fns}
def Qm7(slot:Nat)(s:St):Option St:=match s.T.get slot with
 |some (.sl d sz st n)=>some {s with T:=s.T.set slot (.slb d sz st n n)}
 |_=>none
def Qpm(slot:Nat)(s:St):Option St:=match s.T.get slot with
 |some (.slb d sz st n _)=>some {s with T:=s.T.set slot (.sl d sz st n)}
 |_=>none
theorem Zep{R:Option Nat}{P:Program}{nt:Nat}{c:Code}{Q:Exit→St→Prop}{s:St}{slot:Nat}{x y:SV}(hx:s.T.get slot=some x)(hi:∀M ρ v,Qe M ρ v x→Qe M ρ v y)(h:Zf R P nt c Q {s with T:=s.T.set slot y}):Zf R P nt c Q s:=by
 refine Zf.Qgy (s':={s with T:=s.T.set slot y}) (fun B M ρ a w hg=>⟨ρ,⟨fun t z hz=>?_,hg.sz,hg.mem,hg.df,hg.mks,hg.nle,hg.fix⟩,⟨Fr.refl ..,rfl,fun _ h=>h,fun _ h=>h⟩⟩) h;rcases TT.Ka _ _ _ _ _ hz with⟨rfl,rfl⟩|⟨_,hz⟩
 ·exact hi _ _ _ (hg.tm _ _ hx)
 ·exact hg.tm t z hz
theorem Ybb{R:Option Nat}{P:Program}{nt:Nat}{c:Code}{Q:Exit→St→Prop}{s s':St}{slot:Nat}(hs:Qm7 slot s=some s')(h:Zf R P nt c Q s'):Zf R P nt c Q s:=by
 unfold Qm7 at hs;split at hs
 ·rename_i d sz st n hx;cases hs;refine Zep hx (fun M ρ v hr=>?_) h;refine .slb _ _ _ _ _ hr ?_;cases hr with
  |sl _ _ _ _ c k p hp hk hc hn h6=>exact⟨_,_,_,rfl,hn⟩
  |slz=>exact⟨_,_,_,rfl,Nat.le_refl _⟩
 ·cases hs
theorem Zu0{R:Option Nat}{P:Program}{nt:Nat}{c:Code}{Q:Exit→St→Prop}{s s':St}{slot:Nat}(hs:Qpm slot s=some s')(h:Zf R P nt c Q s'):Zf R P nt c Q s:=by
 unfold Qpm at hs;split at hs
 ·rename_i d sz st n m hx;cases hs;exact Zep hx (fun M ρ v hr=>hr.unslb) h
 ·cases hs
end Go.Sx
end
section
namespace Go.Sx
open Go
inductive Q7 where
 |leaf
 |one (a:Q7)
 |two (a b:Q7)
 |loop (τ:Qj) (l:Xc) (f:Yv) (F:Nat) (a:Q7)
 |join (l:Xc) (f:Yv) (a:Q7)
 |virt (slot ty:Nat) (row:List Ty) (a:Q7)
 |sealing (k ty:Nat) (row:List Ty) (a:Q7)
 |within (l:List (Nat×Q7))
 |virtF (ob col ty:Nat) (row:List Ty) (a:Q7)
 |typ (k ty:Nat) (row:List Ty) (a:Q7)
 |phase (τ:Qj) (l:Xc) (f:Yv) (F:Nat) (a b:Q7)
 |norm (slots:List Nat) (a:Q7)
 |lnk (k slot c:Nat) (a:Q7)
 |unlnk (k:Nat) (a:Q7)
 |low
 |slb (slot:Nat) (a:Q7)
 |unslb (slot:Nat) (a:Q7)
def Q7.fst:Q7→Q7
 |.one a=>a
 |.two a _=>a
 |_=>.leaf
def Q7.snd:Q7→Q7
 |.two _ b=>b
 |_=>.leaf
structure Sm where
 pre:List SV→List Qb→Bool
 run:(X:Type)→List SV→List Qb→KO X→Option X
structure Qdc (cx:Cx) (g:Nat) (sm:Sm):Prop where
 fn:∃fn,cx.fns.lookup g=some fn
 ok:∀(X:Type) (args:List SV) (H:List Qb) (k:KO X) (y:X),sm.run X args H k=some y→Y6 cx.P g args H fun x H' t f=>k x H' t f=some y
structure Lx where
 ext:List (Nat×Sm)
 anns:List (Nat×Q7)
 still:List Nat
 unk:Option (Nat→Sm):=none
def Sm.first:List (Nat×Sm)→Nat→(X:Type)→List SV→List Qb→KO X→Option X
 |[],_,_,_,_,_=>none
 |q::l,g,X,args,H,k=>match Nat.beq q.1 g with
  |false=>Sm.first l g X args H k
  |true=>match q.2.pre args H with
   |true=>q.2.run X args H k
   |false=>Sm.first l g X args H k
def Lx.has(l:List (Nat×Sm))(g:Nat)(args:List SV)(H:List Qb):Bool:=l.any fun q=>match Nat.beq q.1 g with
 |true=>q.2.pre args H
 |false=>false
structure Lx.Ok (cx:Cx) (lx:Lx):Prop where
 ext:∀q∈lx.ext,Qdc cx q.1 q.2
 unk:lx.unk=none
theorem Sm.Qp4{cx:Cx}:∀{l:List (Nat×Sm)} (_:∀q∈l,Qdc cx q.1 q.2) {g:Nat} {X:Type} {args:List SV} {H:List Qb} {k:KO X} {y:X},Sm.first l g X args H k=some y→(∃fn,cx.fns.lookup g=some fn)∧Y6 cx.P g args H fun x H' t f=>k x H' t f=some y
 |[],_,g,X,args,H,k,y,h=>by cases h
 |q::l,hl,g,X,args,H,k,y,h=>by
  simp only[Sm.first]at h;split at h
  ·exact Sm.Qp4 (fun q hq=>hl q (List.mem_cons_of_mem _ hq)) h
  ·rename_i e;have e:=Nat.eq_of_beq_eq_true e;subst e;split at h
   ·have:=hl q List.mem_cons_self;exact⟨this.fn,this.ok X args H k y h⟩
   ·exact Sm.Qp4 (fun q hq=>hl q (List.mem_cons_of_mem _ hq)) h
abbrev Jc:=(X:Type)→(X→X→Bool)→Q7→Bool→Nat→Code→St→KX X→Option X
def K5(cx:Cx)(rec:Jc):Prop:=∀(X:Type) (eq:X→X→Bool) (_:Ym eq) R an top nt c s (k:KX X) (y:X),(top=true→R=none)→rec X eq an top nt c s k=some y→Zf R cx.P nt c (fun e s'=>k e s'=some y) s
section
variable {X:Type}
def Qsw(z:Bool)(H:List Qb)(r:SV)(H':List Qb)(t g:List Nat)(k:KO X):Option X:=
 match g.isEmpty&&(Nat.ble H.length H'.length&&((z||r.free H.length)&&Qmi H.length H' t))with
 |true=>match Qkd H' H.length 1000 r with
  |some r'=>k r' (K4 t H H') t []
  |none=>k r H' t g
 |false=>k r H' t g
theorem Zla{z:Bool}{H:List Qb}{r:SV}{H':List Qb}{t g:List Nat}{k:KO X}{y:X}(h:Qsw z H r H' t g k=some y):Left H (fun x H' t f=>k x H' t f=some y) r H' t g:=by
 unfold Qsw at h;split at h
 ·rename_i e;simp only[Bool.and_eq_true,List.isEmpty_iff]at e;split at h
  ·rename_i r' hr';exact .inl ⟨e.1,Nat.le_of_ble_eq_true e.2.1,fun s hs o ho _=>Zfo e.2.2.2 s hs o ho,r',1000,hr',h⟩
  ·exact .inr h
 ·exact .inr h
def Qbt(cx:Cx)(s:St):List ResultVar→(List SV→Option X)→Option X
 |[],k=>k []
 |.tmp t::rs,k=>Qbt cx s rs fun l=>k (s.ev (.tmp t)::l)
 |.cell a t::rs,k=>(Qcc cx.tab s.H t (s.ev (.tmp a))).Vj (fun _ _=>false) (fun x=>Qbt cx s rs fun l=>k (x::l)) fun x _ _ _=>Qbt cx s rs fun l=>k (x::l)
theorem Qcr{cx:Cx}{s:St}{y:X}:∀(rs:List ResultVar) (k:List SV→Option X),Qbt cx s rs k=some y→Km cx s rs fun l=>k l=some y
 |[],k,h=>h
 |.tmp t::rs,k,h=>Qcr rs _ h
 |.cell a t::rs,k,h=>Qm.Qcj (fun _ _ h=>by cases h) (fun x h=>Qcr rs _ h) (fun x _ _ _ h=>Qcr rs _ h) h
def Qho:Exit→Bool
 |.normal=>true
 |.ret=>true
 |_=>false
theorem Qk9{e:Exit}(h:Qho e=true):e=.normal∨e=.ret:=by
 cases e with
 |normal=>exact .inl rfl
 |ret=>exact .inr rfl
 |_=>cases h
def Qwd(cx:Cx)(fn:Func)(z:Bool)(H:List Qb)(k:KO X):KX X:=fun e s=>
 gd (Qho e&&(s.marks.isEmpty||Nat.ble H.length s.H.length)) (match shut s.marks s.H with
  |none=>none
  |some H'=>Qbt cx {s with H:=H',marks:=[]} fn.results.toList fun l=>Qsw z H (Xf l) H' s.tch s.fg k)
theorem Yai{cx:Cx}{fn:Func}{z:Bool}{H:List Qb}{k:KO X}{e:Exit}{s:St}{y:X}(h:Qwd cx fn z H k e s=some y):
  (e = .normal ∨ e = .ret) ∧ (H.length ≤ s.H.length ∨ s.marks = []) ∧ ∃ H',shut s.marks s.H = some H' ∧ Km cx { s with H := H',marks := [] } fn.results.toList fun l =>
   Left H (fun x H' t f=>k x H' t f=some y) (Xf l) H' s.tch s.fg:=by
 obtain⟨hc,h⟩:=Yc h;simp only[Bool.and_eq_true,Bool.or_eq_true,List.isEmpty_iff]at hc;split at h
 ·cases h
 ·rename_i H' hs;exact⟨Qk9 hc.1,hc.2.symm.imp (fun h=>Nat.le_of_ble_eq_true h) id,H',hs,Qbj _ _ _ (fun l hl=>Zla hl) (Qcr _ _ h)⟩
def Qeh(rec:Jc)(eq:X→X→Bool)(ab:Q7)(s:Nat)(args:List SV)(H:List Qb)(k:KO X):Option X:=
 match H[s]? with
 |some (.loop L)=>gd (Nat.beq L.params.toList.length args.length&&L.params.toList.all fun p=>Nat.blt p L.nt) (rec X eq .leaf false L.nt L.assign (Qk4 L args H) fun e s1=>match e with
  |.normal=>gd (!s1.fg.contains s&&Nat.ble H.length s1.H.length) (match s1.H[s]? with
   |some (.loop L1)=>gd (isReady L1.state&&L1.pending.isNone) (rec X eq ab false L.nt L.body (Uc s L1 s1) fun e s2=>match Qvt e with
    |none=>none
    |some jump=>gd (!s2.fg.contains s&&Nat.ble H.length s2.H.length) (match s2.H[s]? with
     |some (.loop L2)=>k (.lit (.bool jump.isNone)) (Qs0 s L2 jump s2.H) (Zf5 s jump s2.tch) s2.fg
     |_=>none))
   |_=>none)
  |_=>none)
 |_=>none
theorem Zfa{cx:Cx}{rec:Jc}(hrec:K5 cx rec){eq:X→X→Bool}(he:Ym eq){ab:Q7}{s:Nat}{args:List SV}{H:List Qb}{k:KO X}{y:X}
  (h:Qeh rec eq ab s args H k=some y):Qbk cx.P s args H fun x H' t f=>k x H' t f=some y:=by
 unfold Qeh at h;split at h
 ·rename_i L hH;obtain⟨hc,h⟩:=Yc h;rw[Bool.and_eq_true]at hc;refine Znv hH (Nat.eq_of_beq_eq_true hc.1) hc.2 fun R=>?_;refine(hrec X eq he R _ false _ _ _ _ y (fun e=>by cases e) h).mono fun e s1 h1=>?_;cases e with
  |normal=>
   obtain⟨hc1,h1⟩:=Yc h1;rw[Bool.and_eq_true]at hc1;split at h1
   ·rename_i L1 hL1;obtain⟨hc2,h1⟩:=Yc h1;rw[Bool.and_eq_true]at hc2;refine⟨rfl,Qg3 hc1.1,Nat.le_of_ble_eq_true hc1.2,L1,hL1,Zsh hc2.1,Option.isNone_iff_eq_none.1 hc2.2,?_⟩;refine(hrec X eq he R _ false _ _ _ _ y (fun e=>by cases e) h1).mono fun e s2 h2=>?_;cases hj:Qvt e with
    |none=>simp only[hj]at h2;cases h2
    |some jump=>
     simp only[hj]at h2;obtain⟨hc3,h2⟩:=Yc h2;rw[Bool.and_eq_true]at hc3;split at h2
     ·rename_i L2 hL2;exact⟨jump,rfl,Qg3 hc3.1,Nat.le_of_ble_eq_true hc3.2,L2,hL2,h2⟩
     ·cases h2
   ·cases h1
  |_=>cases h1
 ·cases h
def Lx.Zhl(lx:Lx)(g n:Nat):Option Q7:=match lx.anns.lookup (g+10000000*(n+1))with
 |some a=>some a
 |none=>lx.anns.lookup g
def Qpd(lx:Lx)(g:Nat)(args:List SV)(H:List Qb)(k:KO X):Option X:=match Xr args H with
 |(c,as,S,H1)=>gd c (match Lx.has lx.ext g as H1 with
  |true=>Sm.first lx.ext g X as H1 fun x H' t f=>k x H' (S++t) f
  |false=>match lx.unk with
   |some f=>(f g).run X as H1 fun x H' t f=>k x H' (S++t) f
   |none=>none)
theorem Zpy{cx:Cx}{lx:Lx}(hlx:lx.Ok cx){g:Nat}{args:List SV}{H:List Qb}{k:KO X}{y:X}(h:Qpd lx g args H k=some y):
  (∃fn,cx.fns.lookup g=some fn)∧Y6 cx.P g args H fun x H' t f=>k x H' t f=some y:=by
 unfold Qpd at h;obtain⟨hc,h⟩:=Yc (c:=(Xr args H).1) (x:=match Lx.has lx.ext g (Xr args H).2.1 (Xr args H).2.2.2 with
  |true=>Sm.first lx.ext g X (Xr args H).2.1 (Xr args H).2.2.2 fun x H' t f=>k x H' ((Xr args H).2.2.1++t) f
  |false=>match lx.unk with
   |some f=>(f g).run X (Xr args H).2.1 (Xr args H).2.2.2 fun x H' t f=>k x H' ((Xr args H).2.2.1++t) f
   |none=>none) h
 split at h
 ·obtain⟨h1,h2⟩:=Sm.Qp4 hlx.ext h;exact⟨h1,Y6.Ylb hc h2⟩
 ·rw[hlx.unk]at h;cases h
def Uh(cx:Cx)(lx:Lx)(rec:Jc)(eq:X→X→Bool):V2 X
 |true,s,args,H,k=>match lx.anns.lookup (1000000+s)with
  |some a=>Qeh rec eq a s args H k
  |none=>match lx.unk with
   |some f=>(f (1000000+s)).run X args H k
   |none=>Qeh rec eq .leaf s args H k
 |false,g,args,H,k=>
  match lx.Zhl g H.length with
  |some a=>walkO a g args H k
  |none=>match lx.anns.lookup (2000000+g)with
   |some _=>Qpd lx g args H k
   |none=>match Lx.has lx.ext g args H with
    |true=>Sm.first lx.ext g X args H k
    |false=>match lx.unk with
     |some f=>(f g).run X args H k
     |none=>walkO .leaf g args H k
where walkO (a:Q7) (g:Nat) (args:List SV) (H:List Qb) (k:KO X):Option X:=match cx.fns.lookup g with
 |none=>none
 |some fn=>match fn.body with
  |none=>none
  |some c=>gd (Nat.ble args.length fn.ntmps) (rec X eq a true fn.ntmps c (.entry args H) (Qwd cx fn (lx.still.contains g) H k))
theorem Qxn{cx:Cx}(hcx:cx.Ok){lx:Lx}{rec:Jc}(hrec:K5 cx rec){eq:X→X→Bool}(he:Ym eq){a:Q7}{g:Nat}{args:List SV}{H:List Qb}{k:KO X}{y:X}(h:Uh.walkO cx lx rec eq a g args H k=some y):
  (∃fn,cx.fns.lookup g=some fn)∧Y6 cx.P g args H fun x H' t f=>k x H' t f=some y:=by
 unfold Uh.walkO at h;split at h
 ·cases h
 ·rename_i fn hfn;split at h
  ·cases h
  ·rename_i c hb;obtain⟨hc,h⟩:=Yc h;refine⟨⟨fn,hfn⟩,?_⟩;exact Y6.leave (Qk3 hcx hfn hb (Nat.le_of_ble_eq_true hc) ((hrec X eq he none _ true _ _ _ _ y (fun _=>rfl) h).mono fun e s hs=>Yai hs))
theorem Zcs{cx:Cx}(hcx:cx.Ok){lx:Lx}(hlx:lx.Ok cx){rec:Jc}(hrec:K5 cx rec){eq:X→X→Bool}(he:Ym eq):V2.Ok cx (Uh cx lx rec eq):=by
 refine⟨fun g args H k y h=>?_,fun s args H k y h=>?_⟩
 ·have h:(match lx.Zhl g H.length with
   |some a=>Uh.walkO cx lx rec eq a g args H k
   |none=>match lx.anns.lookup (2000000+g)with
    |some _=>Qpd lx g args H k
    |none=>match Lx.has lx.ext g args H with
     |true=>Sm.first lx.ext g X args H k
     |false=>match lx.unk with
      |some f=>(f g).run X args H k
      |none=>Uh.walkO cx lx rec eq .leaf g args H k)=some y:=h
  split at h
  ·exact Qxn hcx hrec he h
  ·split at h
   ·exact Zpy hlx h
   split at h
   ·exact Sm.Qp4 hlx.ext h
   ·rw[hlx.unk]at h;exact Qxn hcx hrec he h
 ·have h:(match lx.anns.lookup (1000000+s)with
   |some a=>Qeh rec eq a s args H k
   |none=>match lx.unk with
    |some f=>(f (1000000+s)).run X args H k
    |none=>Qeh rec eq .leaf s args H k)=some y:=h
  split at h
  ·exact Zfa hrec he h
  ·rw[hlx.unk]at h;exact Zfa hrec he h
def Qwi(cb:V2 X)(rec:Jc)(eq:X→X→Bool)(nt:Nat)(g:Operand)(ps:Array Tmp)(assign body:Code)(s:St)(k:KX X):Option X:=
 gd (Nat.ble s.n0 s.H.length) (match Qmd (s.ev g) (.yld (s.H.length+1))with
 |none=>none
 |some (gf,args)=>cb false gf args (Qpo s nt ps assign body) fun r H' t f=>
  gd ((!f.contains s.H.length&& !f.contains (s.H.length+1))&&((s.marks.all fun m=>!f.contains m&&Nat.blt m s.H.length)&&Nat.ble s.n0 H'.length)) (match loopAt H'[s.H.length+1]? with
  |some (st,pd)=>gd (Qwt st) (match pd with
   |none=>k .normal (Ub s none H' t f)
   |some c=>rec X eq .leaf true nt c (Ub s (some c) H' t f) k)
  |none=>none))
theorem Zmi{cx:Cx}(hcx:cx.Ok){cb:V2 X}(hcb:cb.Ok cx){rec:Jc}(hrec:K5 cx rec){eq:X→X→Bool}(he:Ym eq){nt:Nat}{g:Operand}{ps:Array Tmp}{assign body:Code}{s:St}{k:KX X}{y:X}
  (h:Qwi cb rec eq nt g ps assign body s k=some y):Zf none cx.P nt (.rangeFunc g ps assign body) (fun e s'=>k e s'=some y) s:=by
 obtain⟨hn,h⟩:=Yc h;cases ht:Qmd (s.ev g) (.yld (s.H.length+1))with
 |none=>simp only[ht]at h;cases h
 |some q=>
  obtain⟨gf,args⟩:=q;simp only[ht]at h;obtain⟨⟨fn,hfn⟩,h⟩:=hcb.ok _ _ _ _ _ h;refine Zz9 hcx (Nat.le_of_ble_eq_true hn) ht hfn (h.mono fun r H' t f h=>?_);obtain⟨hc,h⟩:=Yc h;simp only[Bool.and_eq_true]at hc;obtain⟨⟨h1,h2⟩,h3,h4⟩:=hc;split at h
  ·rename_i st pd hL;obtain⟨hc5,h⟩:=Yc h;refine⟨Qg3 h1,Qg3 h2,fun m hm=>?_,Nat.le_of_ble_eq_true h4,st,pd,hL,Ycn hc5,?_⟩
   ·have:=List.all_eq_true.1 h3 m hm;simp only[Bool.and_eq_true]at this;exact⟨Qg3 this.1,Ur this.2⟩
   ·split at h
    ·exact h
    ·exact hrec X eq he none _ true _ _ _ _ y (fun _=>rfl) h
  ·cases h
def Zc9(rec:Jc)(l:Xc)(f:Yv)(an:Q7)(top:Bool)(nt:Nat)(c:Code)(s:St)(k:KX X):Option X:=
 gd (s.marks.isEmpty&&(f.ok&&Uy f l)) (match rec (Zt l) (Zt.eqv l) an top nt c s.sub (fun e s'=>V8 f s.H.length l e s')with
  |some x=>Qjp f s l x fun e s1=>k e (s.outer s1)
  |none=>none)
theorem Zo7{cx:Cx}{rec:Jc}(hrec:K5 cx rec){l:Xc}{f:Yv}{an:Q7}{R:Option Nat}{top:Bool}{nt:Nat}{c:Code}{s:St}{k:KX X}{y:X}(ht:top=true→R=none)
  (h:Zc9 rec l f an top nt c s k=some y):Zf R cx.P nt c (fun e s'=>k e s'=some y) s:=by
 obtain⟨hc,h⟩:=Yc h;simp only[Bool.and_eq_true,List.isEmpty_iff]at hc;split at h
 ·rename_i x hx;rw[Qjk]at h;exact Ykq hc.1 hc.2.1 hc.2.2 (hrec _ _ (Zt.eqv_ok l) R _ top _ _ _ _ x ht hx) h
 ·cases h
def Qfk:Exit→Bool
 |.normal=>true
 |_=>false
def Qob(rec:Jc)(τ:Qj)(l:Xc)(f:Yv)(F:Nat)(an:Q7)(top:Bool)(nt:Nat)(c:Code)(s:St)(k:KX X):Option X:=
 gd (s.marks.isEmpty&&(f.ok&&(Uy f l&&(τ.Wy (f.of τ)&&l.all fun a=>!Qfk a.1)))) (match W4 τ f s.H.length s.sub with
  |some x0=>match Q2 (fun x=>rec (τ.El ⊕ Zt l) (Qgv (Ya.eqv τ.cells) (Zt.eqv l)) an top nt c (τ.st f.D (f.of τ) f.mv s x) (Qg1 f s.H.length τ l)) F x0 with
   |some y=>Qjp f s l y fun e s1=>k e (s.outer s1)
   |none=>none
  |none=>none)
def Qsr(rec:Jc)(top:Bool)(nt:Nat)(c:Code):Q7→St→KX X→Option X
 |.loop τ l f F a,s,k=>Qob rec τ l f F a top nt c s k
 |.phase τ l f F a b,s,k=>gd (s.marks.isEmpty&&(f.ok&&(Uy f l&&τ.Wy (f.of τ)))) (match W4 τ f s.H.length s.sub with
  |some x0=>match Q2 (fun x=>rec (τ.El ⊕ Zt l) (Qgv (Ya.eqv τ.cells) (Zt.eqv l)) a top nt c (τ.st f.D (f.of τ) f.mv s x) (Qrm f s.H.length τ l)) F x0 with
   |some y=>Qjp f s l y fun e s1=>match Qfk e with
    |true=>Qsr rec top nt c b (s.outer s1) k
    |false=>k e (s.outer s1)
   |none=>none
  |none=>none)
 |_,_,_=>none
theorem Qug{f:Yv}{s:St}:∀{l:Xc} (x:Zt l),(l.all fun a=>!Qfk a.1)=true→(X1 f s l x).1≠.normal
 |[],x,_=>Empty.elim x
 |[a],x,h=>by simp only[List.all_cons,List.all_nil,Bool.and_true,Bool.not_eq_true']at h;intro e;simp only[X1]at e;rw[e]at h;cases h
 |a::a'::l,.inl x,h=>by simp only[List.all_cons,Bool.and_eq_true,Bool.not_eq_true']at h;intro e;simp only[X1]at e;rw[e]at h;cases h.1
 |a::a'::l,.inr x,h=>by
  have h':((a'::l).all fun a=>!Qfk a.1)=true:=by simp only[List.all_cons,Bool.and_eq_true]at h⊢;exact h.2
  simp only[X1];exact Qug x h'
theorem Zu5{cx:Cx}{rec:Jc}(hrec:K5 cx rec){τ:Qj}{l:Xc}{f:Yv}{F:Nat}{an:Q7}{R:Option Nat}{top:Bool}{nt:Nat}{c:Code}{s:St}{k:KX X}{y:X}(ht:top=true→R=none)
  (h:Qob rec τ l f F an top nt c s k=some y):Zf R cx.P nt (.loop c) (fun e s'=>k e s'=some y) s:=by
 obtain⟨hc,h⟩:=Yc h;simp only[Bool.and_eq_true,List.isEmpty_iff]at hc;obtain⟨c1,c2,c3,c4,c5⟩:=hc;split at h
 ·rename_i x0 hx0;split at h
  ·rename_i z hz;rw[Qjk]at h;exact Zpr c1 c2 c3 c4 (fun x r hr=>hrec _ _ (Qlj (Ya.eqv_ok _) (Zt.eqv_ok _)) R _ top _ _ _ _ r ht hr) hx0 hz (Qug z c5) h
  ·cases h
 ·cases h
theorem Zlk{cx:Cx}{rec:Jc}(hrec:K5 cx rec){τ:Qj}{l:Xc}{f:Yv}{F:Nat}{an:Q7}{R:Option Nat}{top:Bool}{nt:Nat}{c:Code}{s:St}{k:KX X}{y:X}(ht:top=true→R=none)
  (h:Qob rec τ l f F an top nt c s k=some y):Qgc R cx.P nt c (fun e s'=>k e s'=some y) s:=by
 obtain⟨hc,h⟩:=Yc h;simp only[Bool.and_eq_true,List.isEmpty_iff]at hc;obtain⟨c1,c2,c3,c4,c5⟩:=hc;split at h
 ·rename_i x0 hx0;split at h
  ·rename_i z hz;rw[Qjk]at h;exact Zdz (fun e s' r h=>Zk5 h) c1 c2 c3 c4 (fun x r hr=>hrec _ _ (Qlj (Ya.eqv_ok _) (Zt.eqv_ok _)) R _ top _ _ _ _ r ht hr) hx0 hz (fun hn=>absurd hn (Qug z c5)) (fun _=>h)
  ·cases h
 ·cases h
theorem Zpu{e:Exit}(h:Qfk e=true):e=.normal:=by cases e<;>first|rfl|cases h
theorem Zcg{cx:Cx}{rec:Jc}(hrec:K5 cx rec){R:Option Nat}{top:Bool}{nt:Nat}{c:Code}{k:KX X}{y:X}(ht:top=true→R=none):∀(an:Q7) (s:St),Qsr rec top nt c an s k=some y→Qgc R cx.P nt c (fun e s'=>k e s'=some y) s
 |.loop τ l f F a,s,h=>Zlk hrec ht h
 |.phase τ l f F a b,s,h=>by
  obtain⟨hc,h⟩:=Yc h;simp only[Bool.and_eq_true,List.isEmpty_iff]at hc;obtain⟨c1,c2,c3,c4⟩:=hc;split at h
  ·rename_i x0 hx0;split at h
   ·rename_i z hz;rw[Qjk]at h;refine Zdz (fun e s' r h=>Yfe h) c1 c2 c3 c4 (fun x r hr=>hrec _ _ (Qlj (Ya.eqv_ok _) (Zt.eqv_ok _)) R _ top _ _ _ _ r ht hr) hx0 hz (fun hn=>?_) (fun hn=>?_)
    ·rw[hn]at h;exact Zcg hrec ht b _ h
    ·cases he:Qfk (X1 f s l z).1 with
     |true=>exact absurd (Zpu he) hn
     |false=>rw[he]at h;exact h
   ·cases h
  ·cases h
 |.leaf,_,h=>by cases h
 |.one _,_,h=>by cases h
 |.two _ _,_,h=>by cases h
 |.join _ _ _,_,h=>by cases h
 |.virt _ _ _ _,_,h=>by cases h
 |.sealing _ _ _ _,_,h=>by cases h
 |.within _,_,h=>by cases h
 |.virtF _ _ _ _ _,_,h=>by cases h
 |.typ _ _ _ _,_,h=>by cases h
 |.norm _ _,_,h=>by cases h
 |.lnk _ _ _ _,_,h=>by cases h
 |.unlnk _ _,_,h=>by cases h
 |.slb _ _,_,h=>by cases h
 |.unslb _ _,_,h=>by cases h
end
def Qem(cx:Cx)(lx:Lx)(rec:Jc)(X:Type)(eq:X→X→Bool)(an:Q7)(top:Bool)(nt:Nat):Code→St→KX X→Option X
 |.skip,s,k=>k .normal s
 |.region _ ops draw,s,k=>match draw with
  |false=>Qdb eq cx (Uh cx lx rec eq) nt ops ops.toList s (k .normal)
  |true=>gd (Region.noSelect ops) (Jh eq cx (Uh cx lx rec eq) nt ops (V4 true ops ops.size (Array.replicate ops.size false)) [] s (k .normal))
 |.seq a b,s,k=>rec X eq an.fst top nt a s fun e s'=>match e with
  |.normal=>rec X eq an.snd top nt b s' k
  |e=>k e s'
 |.cond c a b,s,k=>match s.ev c with
  |.pv (.lit (.bool t))=>match t with
   |true=>rec X eq an.fst top nt a s k
   |false=>rec X eq an.snd top nt b s k
  |_=>none
 |.block id c,s,k=>rec X eq an.fst top nt c s fun e s'=>match e with
  |.exit id'=>bif Nat.beq id' id then k .normal s' else k (.exit id') s'
  |e=>k e s'
 |.loop c,s,k=>rec X eq an.fst top nt c s fun e s'=>match e with
  |.normal=>rec X eq an top nt (.loop c) s' k
  |e=>k e s'
 |.rangeFunc g ps assign body,s,k=>match top with
  |true=>Qwi (Uh cx lx rec eq) rec eq nt g ps assign body s k
  |false=>none
 |.scope c,s,k=>match top with
  |true=>rec X eq an.fst true nt c s fun e s'=>match e with
   |.goto _=>none
   |e=>k e s'
  |false=>none
 |.exit id,s,k=>k (.exit id) s
 |.label _,s,k=>k .normal s
 |.ret,s,k=>k .ret s
 |_,_,_=>none
def Lx.more(lx:Lx)(l:List (Nat×Q7)):Lx:=match lx with
 |⟨ext,anns,still,unk⟩=>⟨ext,l++anns,still,unk⟩
theorem Lx.Ok.more{cx:Cx}{lx:Lx}(h:lx.Ok cx)(l:List (Nat×Q7)):(lx.more l).Ok cx:=⟨h.ext,h.unk⟩
def Ykv(cx:Cx)(lx:Lx)(rec:Jc):Jc:=fun X eq an top nt c s k=>match an with
 |.join l f a=>Zc9 rec l f a top nt c s k
 |.virt slot ty row a=>match s.T.get slot with
  |some (.pv (.lit v))=>gd (Value.isNil v) (rec X eq a top nt c (Qjt s slot ty row) k)
  |_=>rec X eq a top nt c s k
 |.sealing kk ty row a=>match Qls kk ty row s with
  |some p=>gd p.1 (rec X eq a top nt c p.2 k)
  |none=>none
 |.norm slots a=>gd (s.marks.isEmpty&&Qqb (Qyp slots s) s.H.length s.n0) (rec X eq a top nt c (Qq7 (Qyp slots s) s) k)
 |.typ kk ty row a=>match Qn5 kk ty row s with
  |some s'=>rec X eq a top nt c s' k
  |none=>none
 |.lnk kk slot col a=>match Qns kk slot col s with
  |some s'=>rec X eq a top nt c s' k
  |none=>none
 |.unlnk kk a=>match Qo9 kk s with
  |some p=>gd p.1 (rec X eq a top nt c p.2 k)
  |none=>none
 |.low=>match c with
  |.region _ ops draw=>match draw with
   |false=>Qdb eq cx.U0 (Uh cx.U0 lx rec eq) nt ops ops.toList s (k .normal)
   |true=>gd (Region.noSelect ops) (Jh eq cx.U0 (Uh cx.U0 lx rec eq) nt ops (V4 true ops ops.size (Array.replicate ops.size false)) [] s (k .normal))
  |_=>none
 |.slb slot a=>match Qm7 slot s with
  |some s'=>rec X eq a top nt c s' k
  |none=>rec X eq a top nt c s k
 |.unslb slot a=>match Qpm slot s with
  |some s'=>rec X eq a top nt c s' k
  |none=>rec X eq a top nt c s k
 |.virtF ob col ty row a=>match Qm3 s ob col ty row with
  |some s'=>rec X eq a top nt c s' k
  |none=>none
 |.within l=>match c with
  |.loop _=>none
  |c=>Qem cx (lx.more l) rec X eq .leaf top nt c s k
 |.loop τ l f F a=>match c with
  |.loop body=>Qob rec τ l f F a top nt body s k
  |_=>none
 |.phase τ l f F a b=>match c with
  |.loop body=>Qsr rec top nt body (.phase τ l f F a b) s k
  |_=>none
 |.leaf=>Qem cx lx rec X eq .leaf top nt c s k
 |.one a=>Qem cx lx rec X eq (.one a) top nt c s k
 |.two a b=>Qem cx lx rec X eq (.two a b) top nt c s k
def Xt(cx:Cx)(lx:Lx):Nat→Jc
 |0=>fun _ _ _ _ _ _ _ _=>none
 |n+1=>Ykv cx lx (Xt cx lx n)
def Q7.plain:Q7→Bool
 |.leaf=>true
 |.one _=>true
 |.two _ _=>true
 |_=>false
theorem Qk0{cx:Cx}(hcx:cx.Ok){lx:Lx}(hlx:lx.Ok cx):∀(n:Nat),K5 cx (Xt cx lx n)∧
  (∀(X:Type) (eq:X→X→Bool) (_:Ym eq) R an top nt c s (k:KX X) (y:X),(top=true→R=none)→Xt cx lx n X eq an top nt (.loop c) s k=some y→an.plain=true→
   Qg7 R cx.P nt c (fun e s'=>k e s'=some y) n s)
 |0=>⟨fun X eq he R an top nt c s k y _ h=>(by cases h),fun X eq he R an top nt c s k y _ h=>(by cases h)⟩
 |n+1=>by
  obtain⟨ih1,ih2⟩:=Qk0 hcx hlx n;have loop:∀(X:Type) (eq:X→X→Bool) (_:Ym eq) R an top nt c s (k:KX X) (y:X),(top=true→R=none)→Xt cx lx (n+1) X eq an top nt (.loop c) s k=some y→an.plain=true→
    Qg7 R cx.P nt c (fun e s'=>k e s'=some y) (n+1) s:=by
   intro X eq he R an top nt c s k y ht h hp;have h:Qem cx lx (Xt cx lx n) X eq an top nt (.loop c) s k=some y:=by
    cases an with
    |leaf=>exact h
    |one a=>exact h
    |two a b=>exact h
    |_=>cases hp
   refine(ih1 X eq he R an.fst top nt c s _ y ht h).mono fun e s' hs=>?_;cases e with
   |normal=>exact⟨n,Nat.le_refl n,ih2 X eq he R an top nt c s' k y ht hs hp⟩
   |_=>exact hs
  refine⟨fun X eq he R an top nt c s k y ht h=>?_,loop⟩;have code:∀(lx':Lx),lx'.Ok cx→(an.plain=true∨∀b,c≠.loop b)→∀an':Q7,(an.plain=true→an'=an∧lx'=lx)→Qem cx lx' (Xt cx lx n) X eq an' top nt c s k=some y→Zf R cx.P nt c (fun e s'=>k e s'=some y) s:=by
   intro lx' hlx' hp an' han hcode;have hcb:=Zcs hcx hlx' ih1 he;cases c with
   |skip=>exact Ygs hcode
   |region id ops draw=>
    cases draw with
    |false=>exact Zdo hcx (Qh3 he hcb _ _ _ hcode)
    |true=>obtain⟨h1,h2⟩:=Yc hcode;exact Zf7 hcx h1 (Qcd he hcb _ _ _ _ h2)
   |seq a b=>
    refine Ydw ((ih1 X eq he R an'.fst top nt a s _ y ht hcode).mono fun e s' hs=>?_);cases e with
    |normal=>exact ih1 X eq he R an'.snd top nt b s' k y ht hs
    |_=>exact hs
   |cond c a b=>
    have hcode:(match s.ev c with
     |.pv (.lit (.bool t))=>match t with
      |true=>Xt cx lx n X eq an'.fst top nt a s k
      |false=>Xt cx lx n X eq an'.snd top nt b s k
     |_=>none)=some y:=hcode
    split at hcode
    ·rename_i t e;refine Znk e (fun hb=>?_) (fun hb=>?_)
     ·subst hb;exact ih1 X eq he R an'.fst top nt a s k y ht hcode
     ·subst hb;exact ih1 X eq he R an'.snd top nt b s k y ht hcode
    ·cases hcode
   |block id c=>
    refine Zw0 ((ih1 X eq he R an'.fst top nt c s _ y ht hcode).mono fun e s' hs=>?_);cases e with
    |exit id'=>
     simp only[Qvn];by_cases e:id'=id
     ·rw[if_pos e];simp only[Qdx e,cond_true]at hs;exact hs
     ·rw[if_neg e];simp only[Wt e,cond_false]at hs;exact hs
    |_=>exact hs
   |loop c=>
    have hp:an.plain=true:=by
     rcases hp with hp|hp
     ·exact hp
     ·exact absurd rfl (hp c)
    obtain⟨rfl,rfl⟩:=han hp;refine Zzi (loop X eq he R an' top nt c s k y ht ?_ hp);cases an' with
    |leaf=>exact hcode
    |one a=>exact hcode
    |two a b=>exact hcode
    |_=>cases hp
   |exit id=>exact Zve hcode
   |label l=>exact Yhc hcode
   |ret=>exact Zk9 hcode
   |rangeFunc g ps assign body=>
    cases top with
    |true=>have hR:=ht rfl;subst hR;exact Zmi hcx hcb ih1 he hcode
    |false=>cases hcode
   |scope c=>
    cases top with
    |true=>
     have hR:=ht rfl;subst hR;refine Ya0 ((ih1 X eq he none an'.fst true nt c s _ y ht hcode).mono fun e s' hs=>?_);cases e with
     |goto _=>cases hs
     |_=>exact hs
    |false=>cases hcode
   |goto _=>cases hcode
   |refuse _=>cases hcode
  cases an with
  |join l f a=>exact Zo7 ih1 ht h
  |virt slot ty row a=>
   have h:(match s.T.get slot with
    |some (.pv (.lit v))=>gd (Value.isNil v) (Xt cx lx n X eq a top nt c (Qjt s slot ty row) k)
    |_=>Xt cx lx n X eq a top nt c s k)=some y:=h
   split at h
   ·rename_i v hv;obtain⟨h1,h2⟩:=Yc h;exact Zs0 hv h1 (ih1 X eq he R a top nt c _ k y ht h2)
   ·exact ih1 X eq he R a top nt c _ k y ht h
  |typ kk ty row a=>
   have h:(match Qn5 kk ty row s with
    |some s'=>Xt cx lx n X eq a top nt c s' k
    |none=>none)=some y:=h
   split at h
   ·rename_i s' hs';exact Zpo hs' (ih1 X eq he R a top nt c _ k y ht h)
   ·cases h
  |lnk kk slot col a=>
   have h:(match Qns kk slot col s with
    |some s'=>Xt cx lx n X eq a top nt c s' k
    |none=>none)=some y:=h
   split at h
   ·rename_i s' hs';exact Zo4 hs' (ih1 X eq he R a top nt c _ k y ht h)
   ·cases h
  |unlnk kk a=>
   have h:(match Qo9 kk s with
    |some p=>gd p.1 (Xt cx lx n X eq a top nt c p.2 k)
    |none=>none)=some y:=h
   split at h
   ·rename_i p hp;obtain⟨h1,h2⟩:=Yc h;exact Zsk hp h1 (ih1 X eq he R a top nt c _ k y ht h2)
   ·cases h
  |low=>
   cases c with
   |region id ops draw=>
    have hcx':cx.U0.Ok:=hcx.U0;have hlx':lx.Ok cx.U0:=⟨fun q hq=>let h:=hlx.ext q hq;⟨h.fn,h.ok⟩,hlx.unk⟩;have ih1':K5 cx.U0 (Xt cx lx n):=ih1;have hcb:=Zcs hcx' hlx' ih1' he;cases draw with
    |false=>exact Zdo hcx' (Qh3 he hcb _ _ _ h)
    |true=>obtain⟨h1,h2⟩:=Yc h;exact Zf7 hcx' h1 (Qcd he hcb _ _ _ _ h2)
   |_=>cases h
  |slb slot a=>
   have h:(match Qm7 slot s with
    |some s'=>Xt cx lx n X eq a top nt c s' k
    |none=>Xt cx lx n X eq a top nt c s k)=some y:=h
   split at h
   ·rename_i s' hs';exact Ybb hs' (ih1 X eq he R a top nt c _ k y ht h)
   ·exact ih1 X eq he R a top nt c _ k y ht h
  |unslb slot a=>
   have h:(match Qpm slot s with
    |some s'=>Xt cx lx n X eq a top nt c s' k
    |none=>Xt cx lx n X eq a top nt c s k)=some y:=h
   split at h
   ·rename_i s' hs';exact Zu0 hs' (ih1 X eq he R a top nt c _ k y ht h)
   ·exact ih1 X eq he R a top nt c _ k y ht h
  |sealing kk ty row a=>
   have h:(match Qls kk ty row s with
    |some p=>gd p.1 (Xt cx lx n X eq a top nt c p.2 k)
    |none=>none)=some y:=h
   split at h
   ·rename_i p hp;obtain⟨h1,h2⟩:=Yc h;exact Znw (cc:=p.1) (s':=p.2) hp h1 (ih1 X eq he R a top nt c _ k y ht h2)
   ·cases h
  |virtF ob col ty row a=>
   have h:(match Qm3 s ob col ty row with
    |some s'=>Xt cx lx n X eq a top nt c s' k
    |none=>none)=some y:=h
   split at h
   ·rename_i s' hs';exact Yd8 hs' (ih1 X eq he R a top nt c _ k y ht h)
   ·cases h
  |within l=>
   cases c with
   |loop b=>cases h
   |_=>exact code (lx.more l) (hlx.more l) (.inr fun b e=>by cases e) .leaf (fun e=>by cases e) h
  |loop τ l f F a=>
   cases c with
   |loop body=>exact Zu5 ih1 ht h
   |_=>cases h
  |norm slots a=>obtain⟨h1,h2⟩:=Yc h;rw[Bool.and_eq_true,List.isEmpty_iff]at h1;exact Zl1 h1.1 h1.2 (ih1 X eq he R a top nt c _ k y ht h2)
  |phase τ l f F a b=>
   cases c with
   |loop body=>exact(Zcg ih1 ht _ _ h).wp
   |_=>cases h
  |leaf=>exact code lx hlx (.inl rfl) .leaf (fun _=>⟨rfl,rfl⟩) h
  |one a=>exact code lx hlx (.inl rfl) (.one a) (fun _=>⟨rfl,rfl⟩) h
  |two a b=>exact code lx hlx (.inl rfl) (.two a b) (fun _=>⟨rfl,rfl⟩) h
end Go.Sx
end
namespace Go.Sx
open Go
def Qs:List Qf→Type
 |[]=>Unit
 |[a]=>a.El
 |a::a'::l=>a.El×Qs (a'::l)
def Qs.eqv:(l:List Qf)→Qs l→Qs l→Bool
 |[]=>Qf2
 |[a]=>a.eqv
 |a::a'::l=>K8 a.eqv (Qs.eqv (a'::l))
theorem Qs.eqv_ok:∀(l:List Qf),Ym (Qs.eqv l)
 |[]=>fun a b h=>rfl
 |[a]=>Qf.eqv_ok a
 |a::a'::l=>Qf7 (Qf.eqv_ok a) (Qs.eqv_ok (a'::l))
def Yb:(l:List Qf)→Qs l→List SV
 |[],_=>[]
 |[a],x=>[a.sv x]
 |a::a'::l,x=>a.sv x.1::Yb (a'::l) x.2
def rdL(H:List Qb)(n:Nat):(l:List Qf)→List SV→Option (Bool×Qs l)
 |[]=>Qky
 |[a]=>Qvj (rdA H n a)
 |a::a'::l=>Qfh (rdA H n a) (rdL H n (a'::l))
theorem Qe.Yk5{M:Qd}{ρ ρ2:Env}{v:Value}{x:SV}(h:Qe M ρ v x):x.free 0=true→Qe M ρ2 v x:=by
 have fl:∀(l:List SV),Wf 0 l=true→∀(i:Nat) (x:SV),l[i]? =some x→x.free 0=true:=by
  intro l;induction l with
  |nil=>intro _ i x h;simp at h
  |cons y l ih=>
   intro h i x hx;simp only[Wf,Bool.and_eq_true]at h;cases i with
   |zero=>simp at hx;subst hx;exact h.1
   |succ i=>exact ih h.2 i x (by simpa using hx)
 induction h with
 |any v=>intro _;exact .any v
 |pv h=>intro _;exact .pv h
 |agg cs l hl _ ih=>intro hf;exact .agg cs l hl fun i v x hv hx=>ih i v x hv hx (fl l hf i x hx)
 |tup cs l hl _ ih=>intro hf;exact .tup cs l hl fun i v x hv hx=>ih i v x hv hx (fl l hf i x hx)
 |fn f a b x y ha hb _ _ ih jh=>intro hf;simp only[SV.free,Bool.and_eq_true]at hf;exact .fn f a b x y ha hb (fun i v s hv hs=>ih i v s hv hs (fl x hf.1 i s hs)) (fun i v s hv hs=>jh i v s hv hs (fl y hf.2 i s hs))
 |ptr s=>intro hf;simp[SV.free]at hf
 |sl s=>intro hf;simp[SV.free]at hf
 |slz s=>intro hf;simp[SV.free]at hf
 |mp s=>intro hf;simp[SV.free]at hf
 |yld s=>intro hf;simp[SV.free]at hf
 |slb s=>intro hf;simp[SV.free]at hf
theorem Zli(l:List PV):Wf 0 (l.map .pv)=true:=by
 induction l with
 |nil=>rfl
 |cons x l ih=>simp[Wf,SV.free,ih]
theorem Zo3(l:List PV):(SV.Xh (l.map .pv)).free 0=true:=by
 unfold SV.Xh;split
 ·rfl
 ·simp only[SV.free];exact Zli l
theorem Qf.Zhs:∀(a:Qf) (x:a.El),(a.sv x).free 0=true
 |.val t,x=>rfl
 |.agg row,x=>Zo3 _
theorem Qxw:∀(l:List Qf) (x:Qs l),Wf 0 (Yb l x)=true
 |[],_=>rfl
 |[a],x=>by show((a.sv x).free 0&&true)=true;rw[Qf.Zhs a x];rfl
 |a::a'::l,x=>by simp only[Yb,Wf,Qf.Zhs,Qxw (a'::l),Bool.and_self]
theorem Yar(l:List Qf)(x:Qs l):(Xf (Yb l x)).free 0=true:=by
 have h:=Qxw l x;unfold Xf;split
 ·rename_i y e;rw[e]at h;simpa[Wf]using h
 ·exact h
theorem Qv9{M:Qd}{ρ:Env}(n:Nat):∀(k:Nat),
  (∀(t:Ty),SizeOf.sizeOf t≤k→Qcs M ρ M (rdT [] n t) t.pv)∧(∀(ts:List Ty),SizeOf.sizeOf ts≤k→Qas M ρ M ts (We [] n ts)):=by
 have hle:=M.le_refl;intro k;induction k with
 |zero=>exact⟨fun t ht=>by(cases t<;>simp at ht),fun ts ht=>by(cases ts<;>simp at ht)⟩
 |succ k ih=>
  obtain⟨ih1,ih2⟩:=ih;refine⟨fun t ht=>?_,fun ts ht=>?_⟩
  ·match t,ht with
   |.int k,ht=>exact Qfw hle (Qux k)
   |.bool,ht=>exact Qfw hle Quw
   |.str,ht=>exact Qfw hle Qp9
   |.seq row,ht=>
    intro x c y v h hc hr;have h:Qib [] n row (We [] n row) x=some (c,y):=h;unfold Qib at h;split at h
    ·split at h
     ·rename_i y' hy;cases h;cases hr with
      |pv hp=>exact Ty.Qvv (t:=.seq row) hy hp
     ·cases h
    ·split at h
     ·cases h
     ·simp at h
    ·cases h
  ·match ts,ht with
   |[],ht=>exact Qz9
   |[t],ht=>exact Zgl (ih1 t (by simp at ht;omega))
   |t::t'::ts,ht=>exact Qz5 (ih1 t (by simp at ht;omega)) (ih2 (t'::ts) (by simp at ht⊢;omega))
theorem Zry{M:Qd}{ρ ρ2:Env}{n:Nat}{a:Qf}{x:SV}{c:Bool}{y:a.El}{v:Value}(h:rdA [] n a x=some (c,y))(hc:c=true)(hr:Qe M ρ v x):Qe M ρ2 v (a.sv y):=by
 cases a with
 |val t=>exact .pv ((Qv9 n _).1 t (Nat.le_refl _) x c y v h hc hr)
 |agg row=>
  refine Qf.Zhr ?_;have fin:∀(cs:Array Value) (xs:List SV) (y:Qi row),W9 M ρ M row xs y→cs.size=xs.length→(∀(i:Nat) (u:Value) (x:SV),cs[i]? =some u→xs[i]? =some x→Qe M ρ u x)→Qe M ρ2 (.agg cs) ((Qf.agg row).raw y):=fun cs xs y hf hl hr=>by refine .agg cs _ (by rw[hl,hf.1];simp[Wg]) fun i u z hu hz=>?_;simp only[List.getElem?_map,Option.map_eq_some_iff]at hz;obtain⟨q,hq,rfl⟩:=hz;obtain⟨x,hx,himp⟩:=hf.2 i q hq;exact .pv (himp u (hr i u x hu hx))
  replace h:Qea [] n row x=some (c,y):=h;unfold Qea at h;split at h
  ·rename_i cs;split at h
   ·rename_i y' hy;cases h;have:=hr.Zh;subst this;refine fin cs _ _ (W9.of M.le_refl hy) (by simp) fun i u x hu hx=>?_;simp only[List.getElem?_map,Option.map_eq_some_iff,Array.getElem?_toList]at hx;obtain⟨p,⟨u',hu',rfl⟩,rfl⟩:=hx;rw[hu]at hu';cases hu';exact .pv (.lit _)
   ·cases h
  ·rename_i l;cases hr with
   |agg cs _ hl hr=>exact fin cs l y ((Qv9 n _).2 row (Nat.le_refl _) _ _ _ h hc) hl hr
  ·cases h
def Qqm(M M2:Qd)(ρ ρ2:Env){α:Type}(f:List SV→Option (Bool×α))(g:α→List SV):Prop:=
 ∀(xs:List SV) (c:Bool) (y:α),f xs=some (c,y)→c=true→(g y).length=xs.length∧
  ∀(i:Nat) (v:Value) (z x:SV),(g y)[i]? =some z→xs[i]? =some x→Qe M ρ v x→Qe M2 ρ2 v z
theorem Qqr{M M2:Qd}{ρ ρ2:Env}{H:List Qb}{n:Nat}(ha:∀(a:Qf) (x:SV) (c:Bool) (y:a.El) (v:Value),rdA H n a x=some (c,y)→c=true→Qe M ρ v x→Qe M2 ρ2 v (a.sv y)):
  ∀(l:List Qf),Qqm M M2 ρ ρ2 (rdL H n l) (Yb l)
 |[]=>by
  intro xs c y h hc;match xs,h with
  |[],h=>exact⟨rfl,fun i v z x hz hx=>by simp at hx⟩
  |_::_,h=>cases h
 |[a]=>by
  intro xs c y h hc;match xs,h with
  |[],h=>cases h
  |_::_::_,h=>cases h
  |[x],h=>
   replace h:rdA H n a x=some (c,y):=h;refine⟨rfl,fun i v z x' hz hx' hr=>?_⟩;cases i with
   |zero=>simp only[Yb,List.getElem?_cons_zero,Option.some.injEq]at hz hx';subst hz;subst hx';exact ha a x c y v h hc hr
   |succ i=>simp at hx'
 |a::a'::l=>by
  intro xs c y h hc;match xs,h with
  |[],h=>cases h
  |x::xs,h=>
   replace h:Qfh (rdA H n a) (rdL H n (a'::l)) (x::xs)=some (c,y):=h;simp only[Qfh]at h;split at h
   ·cases h
   ·rename_i p h1;split at h
    ·cases h
    ·rename_i q h2;cases h;rw[Bool.and_eq_true]at hc;obtain⟨g1,g2⟩:=Qqr ha (a'::l) xs q.1 q.2 h2 hc.2;refine⟨by simp only[Yb,List.length_cons,g1],fun i v z x' hz hx' hr=>?_⟩;cases i with
     |zero=>simp only[Yb,List.getElem?_cons_zero,Option.some.injEq]at hz hx';subst hz;subst hx';exact ha a x p.1 p.2 v h1 hc.1 hr
     |succ i=>simp only[Yb,List.getElem?_cons_succ]at hz hx';exact g2 i v z x' hz hx' hr
theorem Qxt{M:Qd}{ρ ρ2:Env}{H:List Qb}{w:World}{n:Nat}(hm:Mem M ρ H w)(l:List Qf):Qqm M (M.sealing ρ H n w) ρ ρ2 (rdL H n l) (Yb l):=
 Qqr (fun a x c y v h hc hr=>Qvi hm h hc hr) l
theorem Qwo{M:Qd}{ρ ρ2:Env}{n:Nat}(l:List Qf):Qqm M M ρ ρ2 (rdL [] n l) (Yb l):=
 Qqr (fun a x c y v h hc hr=>Zry h hc hr) l
structure PC where
 ats:List Qf
 rts:List Qf
 code:Qs ats→Option (Qs rts)
structure Qg (cx:Cx) (g:Nat) (pc:PC):Prop where
 fn:∃fn,cx.fns.lookup g=some fn
 ok:∀a y,pc.code a=some y→Y6 cx.P g (Yb pc.ats a) [] fun r H' t f=>r=Xf (Yb pc.rts y)∧H'=[]∧t=[]∧f=[]
def PC.sm(pc:PC):Sm where
 pre:=fun args H=>(rdL [] 0 pc.ats args).isSome||((rdL H 0 pc.ats args).isSome&&pc.rts.all Qf.scalar)
 run:=fun X args H k=>match rdL [] 0 pc.ats args with
  |some p=>gd p.1 (match pc.code p.2 with
   |some y=>k (Xf (Yb pc.rts y)) H [] []
   |none=>none)
  |none=>match rdL H 0 pc.ats args with
   |some p=>gd (p.1&&pc.rts.all Qf.scalar) (match pc.code p.2 with
    |some y=>k (Xf (Yb pc.rts y)) H [] []
    |none=>none)
   |none=>none
def Qmm:List SV→Bool
 |[]=>true
 |.pv (.lit _)::l=>Qmm l
 |_=>false
def SV.Qkh:SV→Bool
 |.pv (.lit _)=>true
 |.agg l=>Qmm l
 |_=>false
theorem Zc4:∀{l:List SV},Qmm l=true→∀(i:Nat) (x:SV),l[i]? =some x→∃v,x=.lit v
 |[],_,i,x,h=>by simp at h
 |.pv (.lit v)::l,hl,i,x,h=>by
  cases i with
  |zero=>simp at h;exact⟨v,h.symm⟩
  |succ i=>exact Zc4 (l:=l) hl i x (by simpa using h)
theorem Zfv{M M2:Qd}{ρ ρ2:Env}{v:Value}{x:SV}(hs:x.Qkh=true)(h:Qe M ρ v x):Qe M2 ρ2 v x:=by
 match x,hs,h with
 |.pv (.lit u),_,h=>rw[h.Zh];exact .pv (.lit _)
 |.agg l,hs,.agg cs _ hl hr=>refine .agg cs l hl fun i v x hv hx=>?_;obtain⟨u,rfl⟩:=Zc4 hs i x hx;rw[(hr i v _ hv hx).Zh];exact .pv (.lit _)
theorem Zgf:∀(row:List Ty) (x:Qi row),row.all Ty.scalar=true→Qmm ((Zi row x).map .pv)=true
 |[],_,_=>rfl
 |[t],x,h=>by cases t<;>first|rfl|(simp[Ty.scalar]at h)
 |t::t'::ts,x,h=>by simp only[List.all_cons,Bool.and_eq_true]at h;have:=Zgf (t'::ts) x.2 (by simp only[List.all_cons,Bool.and_eq_true];exact h.2);cases t<;>first|exact this|(simp[Ty.scalar]at h)
theorem Qf.Zhm(a:Qf)(x:a.El)(h:a.scalar=true):(a.sv x).Qkh=true:=by
 cases a with
 |val t=>cases t<;>first|rfl|(simp[Qf.scalar,Ty.scalar]at h)
 |agg row=>
  show(SV.Xh ((Zi row x).map .pv)).Qkh=true;unfold SV.Xh;split
  ·rfl
  ·exact Zgf row x h
theorem Zbv:∀(l:List Qf) (y:Qs l),l.all Qf.scalar=true→∀(i:Nat) (x:SV),(Yb l y)[i]? =some x→x.Qkh=true
 |[],_,_,i,x,h=>by simp[Yb]at h
 |[a],y,hs,i,x,h=>by
  cases i with
  |zero=>simp only[Yb,List.getElem?_cons_zero,Option.some.injEq]at h;subst h;exact Qf.Zhm a y (by simpa using hs)
  |succ i=>simp[Yb]at h
 |a::a'::l,y,hs,i,x,h=>by
  simp only[List.all_cons,Bool.and_eq_true]at hs;cases i with
  |zero=>simp only[Yb,List.getElem?_cons_zero,Option.some.injEq]at h;subst h;exact Qf.Zhm a y.1 hs.1
  |succ i=>exact Zbv (a'::l) y.2 (by simp only[List.all_cons,Bool.and_eq_true];exact hs.2) i x (by simpa[Yb]using h)
theorem Ykb{M M2:Qd}{ρ ρ2:Env}{v:Value}{l:List SV}(hs:∀(i:Nat) (x:SV),l[i]? =some x→x.Qkh=true)(h:Qe M ρ v (Xf l)):Qe M2 ρ2 v (Xf l):=by
 unfold Xf at h⊢;split at h
 ·rename_i x;exact Zfv (hs 0 x rfl) h
 ·cases h with
  |tup cs _ hl hr=>exact .tup cs _ hl fun i v x hv hx=>Zfv (hs i x hx) (hr i v x hv hx)
def Jq:Env:=fun _=>none
theorem Qj9{M:Qd}{w:World}(h:∀b o,M b=some o→w.heap[b]? =some o):Mem M Jq [] w:=
 ⟨h,fun s o ho=>by simp at ho,fun s o p b ho=>by simp at ho,fun s s' o o' p p' b ho=>by simp at ho,fun s _=>rfl,fun s o p b ho=>by simp at ho⟩
theorem Qau{b:Nat}:¬Jd Jq [] b:=fun⟨s,o,p,h,_⟩=>by simp at h
theorem PC.Qo{cx:Cx}{g:Nat}{pc:PC}(h:Qg cx g pc):Qdc cx g pc.sm:=by
 refine⟨h.fn,fun X args H k y hk=>?_⟩;have hk:(match rdL [] 0 pc.ats args with
  |some p=>gd p.1 (match pc.code p.2 with
   |some y=>k (Xf (Yb pc.rts y)) H [] []
   |none=>none)
  |none=>match rdL H 0 pc.ats args with
   |some p=>gd (p.1&&pc.rts.all Qf.scalar) (match pc.code p.2 with
    |some y=>k (Xf (Yb pc.rts y)) H [] []
    |none=>none)
   |none=>none)=some y:=hk
 have keep:∀(w w':World) (M2 M2':Qd) (ρ':Env) (H':List Qb) (t f:List Nat),Fr M2 Jq [] w M2' ρ' H' w' 0 t f→∀b,b<w.heap.size→w'.heap[b]? =w.heap[b]? :=fun w w' M2 M2' ρ' H' t f hf b hb=>hf.same b hb Qau;split at hk
 ·rename_i p hrd;obtain⟨hc,hk⟩:=Yc hk;split at hk
  ·rename_i z hz;intro M ρ w vs hm hr;obtain⟨l1,l2⟩:=Qwo (M:=M) (ρ:=ρ) (ρ2:=Jq) pc.ats args p.1 p.2 hrd hc;refine(h.ok p.2 z hz M Jq w vs (Qj9 hm.imm) ⟨by rw[hr.1,l1],fun i v x hv hx=>?_⟩).mono ?_
   ·obtain⟨x',hx'⟩:∃x',args[i]? =some x':=by
     have:i<args.length:=by rw[←l1];exact(List.getElem?_eq_some_iff.1 hx).1
     exact⟨_,List.getElem?_eq_getElem this⟩
    exact l2 i v x x' hx hx' (hr.2 i v x' hv hx')
   ·rintro e w' ⟨v,r,H',M',ρ',t,f,he,⟨rfl,rfl,rfl,rfl⟩,hs,hm',hf⟩
    have hsame:=keep _ _ _ _ _ _ _ _ hf;refine⟨v,_,H,M',ρ,[],[],he,hk,hs.Yk5 (Yar _ z),?_,?_⟩
    ·refine⟨hm'.imm,fun s o ho=>?_,fun s o p b ho hl hp hb=>?_,hm.diss,hm.fresh,fun s o p b ho hl hp hb=>Nat.lt_of_lt_of_le (hm.lts s o p b ho hl hp hb) hf.grow⟩
     ·by_cases hl:o.live=true
      ·exact(hm.own s o ho).mono hf.imm ρ.le_refl rfl fun p b hp hb=>hsame _ (hm.Ji ho hl hp hb)
      ·rw[Qak hl];trivial
     ·cases e:M' b with
      |none=>rfl
      |some ob=>
       rcases hf.new b ob (hm.seps s o p b ho hl hp hb) e with h1|h1
       ·have:=hm.Ji ho hl hp hb;omega
       ·exact absurd h1 Qau
    ·exact⟨hf.imm,fun b o a c=>(hf.new b o a c).imp id fun h=>absurd h Qau,fun b hb=>.inr hb,fun b hb _=>hsame b hb,hf.grow,fun s o _ _ ho hl=>⟨⟨o,ho,hl⟩,fun p hp=>⟨hp,fun b hb=>hsame _ (hm.Ji ho hl hp hb)⟩⟩,fun _ _ _=>rfl,hf.io⟩
  ·cases hk
 ·split at hk
  ·rename_i p hrd;obtain⟨hc,hk⟩:=Yc hk;rw[Bool.and_eq_true]at hc;split at hk
   ·rename_i z hz;intro M ρ w vs hm hr;obtain⟨l1,l2⟩:=Qxt (n:=0) (ρ2:=Jq) hm pc.ats args p.1 p.2 hrd hc.1;have hM2:∀b o,(M.sealing ρ H 0 w) b=some o→w.heap[b]? =some o:=fun b o hb=>by
     cases e:M b with
     |some o'=>rw[Qd.Jz M ρ H 0 w b o' e]at hb;cases hb;exact hm.imm b _ e
     |none=>exact(Qd.Vk e hb).2
    refine(h.ok p.2 z hz (M.sealing ρ H 0 w) Jq w vs (Qj9 hM2) ⟨by rw[hr.1,l1],fun i v x hv hx=>?_⟩).mono ?_
    ·obtain⟨x',hx'⟩:∃x',args[i]? =some x':=by
      have:i<args.length:=by rw[←l1];exact(List.getElem?_eq_some_iff.1 hx).1
      exact⟨_,List.getElem?_eq_getElem this⟩
     exact l2 i v x x' hx hx' (hr.2 i v x' hv hx')
    ·rintro e w' ⟨v,r,H',M',ρ',t,f,he,⟨rfl,rfl,rfl,rfl⟩,hs,hm',hf⟩
     have hsame:=keep _ _ _ _ _ _ _ _ hf;refine⟨v,_,H,M,ρ,[],[],he,hk,Ykb (Zbv _ z hc.2) hs,?_,?_⟩
     ·refine⟨fun b o hb=>?_,fun s o ho=>?_,hm.seps,hm.diss,hm.fresh,fun s o p b ho hl hp hb=>Nat.lt_of_lt_of_le (hm.lts s o p b ho hl hp hb) hf.grow⟩
      ·rw[hsame b (hm.Qpw hb)];exact hm.imm b o hb
      ·by_cases hl:o.live=true
       ·exact(hm.own s o ho).mono M.le_refl ρ.le_refl rfl fun p b hp hb=>hsame _ (hm.Ji ho hl hp hb)
       ·rw[Qak hl];trivial
     ·exact⟨M.le_refl,fun b o a c=>(by rw[a]at c;cases c),fun b hb=>.inr hb,fun b hb _=>hsame b hb,hf.grow,fun s o _ _ ho hl=>⟨⟨o,ho,hl⟩,fun p hp=>⟨hp,fun b hb=>hsame _ (hm.Ji ho hl hp hb)⟩⟩,fun _ _ _=>rfl,hf.io⟩
   ·cases hk
  ·cases hk
def Zay(cx:Cx)(fn:Func)(rts:List Qf):KX (Qs rts):=fun e s=>
 gd (Qho e) (match shut s.marks s.H with
  |none=>none
  |some H'=>Qbt cx {s with H:=H',marks:=[]} fn.results.toList fun l=>match rdL H' 0 rts l with
   |none=>none
   |some p=>gd p.1 (some p.2))
def Zm(cx:Cx)(lx:Lx)(n:Nat)(an:Q7)(fn:Func)(c:Code)(ats rts:List Qf)(a:Qs ats):Option (Qs rts):=
 Xt cx lx n (Qs rts) (Qs.eqv rts) an true fn.ntmps c (.entry (Yb ats a) []) (Zay cx fn rts)
theorem Yb1{cx:Cx}{fn:Func}{rts:List Qf}{e:Exit}{s:St}{y:Qs rts}(h:Zay cx fn rts e s=some y):
  (e=.normal∨e=.ret)∧∃H',shut s.marks s.H=some H'∧Km cx {s with H:=H',marks:=[]} fn.results.toList fun l=>∃c,c=true∧rdL H' 0 rts l=some (c,y):=by
 obtain⟨h1,h⟩:=Yc h;refine⟨Qk9 h1,?_⟩;split at h
 ·cases h
 ·rename_i H' hs;refine⟨H',hs,Qbj _ _ _ (fun l hl=>?_) (Qcr _ _ h)⟩;split at hl
  ·cases hl
  ·rename_i p hp;obtain⟨h2,hl⟩:=Yc hl;cases hl;exact⟨p.1,h2,hp⟩
theorem Qg.Zr{cx:Cx}(hcx:cx.Ok){lx:Lx}(hlx:lx.Ok cx){n g:Nat}{an:Q7}{fn:Func}{c:Code}{pc:PC}(hf:cx.fns.lookup g=some fn)(hb:fn.body=some c)
  (hcode:∀a y,pc.code a=some y→Zm cx lx n an fn c pc.ats pc.rts a=some y) (hn:Nat.ble pc.ats.length fn.ntmps=true):Qg cx g pc:=by
 refine⟨⟨fn,hf⟩,fun a y hy=>?_⟩;have hlen:∀(l:List Qf) (x:Qs l),(Yb l x).length=l.length:=by
  intro l;induction l with
  |nil=>intro _;rfl
  |cons a l ih=>
   cases l with
   |nil=>intro _;rfl
   |cons b l=>intro x;simp only[Yb,List.length_cons,ih x.2]
 have hw:=(Qk0 hcx hlx n).1 _ _ (Qs.eqv_ok pc.rts) none an true fn.ntmps c _ _ y (fun _=>rfl) (hcode a y hy);have hcall:Y6 cx.P g (Yb pc.ats a) [] fun r H' t f=>∃l cc,r=Xf l∧cc=true∧rdL H' 0 pc.rts l=some (cc,y):=by refine Qk3 hcx hf hb (by rw[hlen];exact Nat.le_of_ble_eq_true hn) (hw.mono fun e s hs=>?_);obtain⟨h1,H',h2,h3⟩:=Yb1 hs;exact⟨h1,.inl (Nat.zero_le _),H',h2,Qbj _ _ _ (fun l ⟨cc,h4,h5⟩=>⟨l,cc,rfl,h4,h5⟩) h3⟩
 intro M ρ w vs hm hr;refine(hcall M ρ w vs hm hr).mono ?_
 rintro e w' ⟨v,r,H',M',ρ',t,f,he,⟨l,cc,rfl,hcc,hrd⟩,hs,hm',hfr⟩
 obtain⟨g1,g2⟩:=Qxt (n:=0) (ρ2:=Jq) hm' pc.rts l cc y hrd hcc;have hne:ρ=Jq:=by funext s;exact hm.fresh s (Nat.zero_le _)
 have hM2:∀b o,(M'.sealing ρ' H' 0 w') b=some o→w'.heap[b]? =some o:=fun b o hb=>by
  cases e:M' b with
  |some o'=>rw[Qd.Jz M' ρ' H' 0 w' b o' e]at hb;cases hb;exact hm'.imm b _ e
  |none=>exact(Qd.Vk e hb).2
 refine⟨v,_,[],M'.sealing ρ' H' 0 w',Jq,[],[],he,⟨rfl,rfl,rfl,rfl⟩,?_,Qj9 hM2,?_⟩
 ·unfold Xf at hs⊢;split at hs
  ·rename_i x;match hsv:Yb pc.rts y,g1 with
   |[z],_=>simp only;exact g2 0 v z x (by rw[hsv];rfl) rfl hs
  ·rename_i hx;have hx2:∀z,Yb pc.rts y=[z]→False:=fun z hz=>by
    rw[hz]at g1;match l,g1 with
    |[x],_=>exact hx x rfl
   cases hs with
   |tup cs _ hl hrr=>
    have:Qe (M'.sealing ρ' H' 0 w') Jq (.tuple cs) (.tup (Yb pc.rts y)):=.tup cs _ (by rw[hl,g1]) fun i u z hu hz=>by
     obtain⟨x',hx'⟩:∃x',l[i]? =some x':=by
      have:i<l.length:=by rw[←g1];exact(List.getElem?_eq_some_iff.1 hz).1
      exact⟨_,List.getElem?_eq_getElem this⟩
     exact g2 i u z x' hz hx' (hrr i u x' hu hx')
    match hsv:Yb pc.rts y with
    |[]=>simp only;rw[←hsv];exact this
    |[z]=>exact absurd hsv (fun h=>hx2 z h)
    |z::z'::zs=>simp only;rw[←hsv];exact this
 ·have hsl:=Qd.Jz M' ρ' H' 0 w';refine⟨Qd.le_trans hfr.imm hsl,fun b o h0 h1=>?_,fun b hb=>absurd hb Qau,hfr.same,hfr.grow,fun s o hs=>absurd hs (Nat.not_lt_zero s),fun s hs=>absurd hs (Nat.not_lt_zero s),hfr.io⟩;cases e:M' b with
  |some o'=>exact hfr.new b o' h0 e
  |none=>obtain⟨⟨s2,o2,p2,k1,k2,k3,k4,k5⟩,_⟩:=Qd.Vk e h1;exact hfr.own b ⟨s2,o2,p2,k2,by cases o2<;>simp_all [Qb.Vl,Qb.live],k4,.inl k5⟩
theorem Lx.V9{cx:Cx}{an:List (Nat×Q7)}{st:List Nat}:Lx.Ok cx {ext:=[],anns:=an,still:=st}:=⟨fun q hq=>(by cases hq),rfl⟩
theorem Lx.Zd{cx:Cx}{g:Nat}{sm:Sm}{l:List (Nat×Sm)}{an:List (Nat×Q7)}{st:List Nat}(h:Qdc cx g sm)(hl:Lx.Ok cx {ext:=l,anns:=an,still:=st}):Lx.Ok cx {ext:=(g,sm)::l,anns:=an,still:=st}:=
 ⟨fun q hq=>by
  rcases List.mem_cons.1 hq with rfl|hq
  ·exact h
  ·exact hl.ext q hq,rfl⟩
def Qa(α:Type):List α:=[]
def Qq(fn:Func):Code:=match fn.body with
 |some c=>c
 |none=>.skip
inductive Loc where
 |arg (i:Nat)
 |cap (l:Loc) (j:Nat)
 |fst (l:Loc) (j:Nat)
 |fld (k j:Nat)
structure PX where
 np:Nat
 locs:List Loc
 τ:Qj
 nr:Nat
 ω:Qj
 ids:List Nat
 mv:List Nat
 code:τ.El→Option ω.El
abbrev PX.no(px:PX):Nat:=px.locs.length
def Jo(H:List Qb):St:={T:=.full 8,H:=H,n0:=H.length,tch:=[],fg:=[],marks:=[],er:=[]}
def Qdw(T:TT)(n:Nat):List SV:=(List.range n).map fun i=>(T.get i).getD .any
def Vq(n:Nat):List Qb:=List.replicate n .dead
def PX.Zhf(px:PX)(x:px.τ.El):St:=px.τ.st [] (List.range px.no) [] (Jo (Vq px.no)) x
def PX.args(px:PX)(x:px.τ.El):List SV:=Qdw (px.Zhf x).T px.np
def PX.objs(px:PX)(x:px.τ.El):List Qb:=(px.Zhf x).H
def PX.Zht(px:PX)(x:px.τ.El)(y:px.ω.El):St:=px.ω.st [] px.ids px.mv (Jo (px.objs x)) y
def PX.res(px:PX)(x:px.τ.El)(y:px.ω.El):List SV:=Qdw (px.Zht x y).T px.nr
def PX.Vm(px:PX)(x:px.τ.El)(y:px.ω.El):List Qb:=(px.Zht x y).H
structure Zb (cx:Cx) (g:Nat) (px:PX):Prop where
 fn:∃fn,cx.fns.lookup g=some fn
 ok:∀x y,px.code x=some y→Y6 cx.P g (px.args x) (px.objs x) fun r H' t f=>r=Xf (px.res x y)∧H'=px.Vm x y∧(∀i∈t,i∈px.ids)∧∀i∈f,i∈px.mv
def Yej:SV→Option Nat
 |.ptr s _ _ _=>some s
 |.sl s _ _ _=>some s
 |.mp s=>some s
 |_=>none
def Loc.find(args:List SV)(H:List Qb)(σ:List Nat):Loc→Option SV
 |.arg i=>args[i]?
 |.cap l j=>match l.find args H σ with
  |some (.fn _ _ b)=>b[j]?
  |_=>none
 |.fst l j=>match l.find args H σ with
  |some (.fn _ a _)=>a[j]?
  |_=>none
 |.fld k j=>match σ[k]? with
  |none=>none
  |some s=>match H[s]? with
   |none=>none
   |some o=>match Ua o with
    |some (_,_,r)=>r[j]?
    |none=>none
def Qmw(args:List SV)(H:List Qb):List Loc→List Nat→Option (List Nat)
 |[],σ=>some σ
 |l::ls,σ=>match l.find args H σ with
  |none=>none
  |some x=>match Yej x with
   |none=>none
   |some s=>Qmw args H ls (σ++[s])
def idx:List Nat→Nat→Nat→Option Nat
 |[],_,_=>none
 |a::l,i,s=>match Nat.beq a s with
  |true=>some i
  |false=>idx l (i+1) s
def Qi3(σ:List Nat)(H:List Qb)(s:Nat):Qb:=match H[s]? with
 |some o=>o.Zx (idx σ 0)
 |none=>.dead
def Kl(σ:List Nat)(H:List Qb):List Qb:=σ.map (Qi3 σ H)
def Qtv(σ:List Nat)(args:List SV)(H:List Qb):St:=
 {T:=Qb7 (.full 8) 0 (Kt (idx σ 0) args),H:=Kl σ H,n0:=σ.length,tch:=[],fg:=[],marks:=[],er:=[]}
def Qh8:List Nat→Bool
 |[]=>true
 |x::l=>!l.contains x&&Qh8 l
def V7(σ:List Nat)(Hv:List Qb):List Nat→List Qb→List Qb
 |[],H=>H
 |k::ids,H=>V7 σ Hv ids (match σ[k]? with
  |none=>H
  |some s=>match Hv[k]? with
   |none=>H
   |some o=>H.set s (o.Zx fun k=>σ[k]?))
def through(σ:List Nat):List Nat→List Nat
 |[]=>[]
 |k::l=>match σ[k]? with
  |some s=>s::through σ l
  |none=>through σ l
def PX.fit(px:PX)(σ:List Nat)(args:List SV)(H:List Qb):Bool:=
 Nat.beq σ.length px.no&&(Qh8 σ&&((σ.all fun s=>Nat.blt s H.length)&&(Nat.beq args.length px.np&&(px.τ.Wy (List.range px.no)&&((subset px.mv px.ids&&(px.ids.all fun k=>Nat.blt k px.no))&&(List.range px.no).all fun k=>px.ids.contains k||(px.τ.cells.filterMap Qt.id?).contains k)))))
def PX.sm(px:PX):Sm where
 pre:=fun args H=>match Qmw args H px.locs []with
  |none=>false
  |some σ=>px.fit σ args H&&(px.τ.read px.no (Qtv σ args H)).isSome
 run:=fun X args H k=>match Qmw args H px.locs []with
  |none=>none
  |some σ=>gd (px.fit σ args H) (match Qcx px.τ [] (List.range px.no) [] px.no (Qtv σ args H)with
   |none=>none
   |some x=>match px.code x with
    |none=>none
    |some y=>k ((Xf (px.res x y)).Zx fun k=>σ[k]?) (V7 σ (px.Vm x y) px.ids (J0 (through σ px.mv) H)) (through σ px.ids) (through σ px.mv))
theorem Qo0:∀{σ:List Nat} {i s k:Nat},idx σ i s=some k→∃j,k=i+j∧σ[j]? =some s
 |[],i,s,k,h=>by cases h
 |a::l,i,s,k,h=>by
  simp only[idx]at h;split at h
  ·rename_i e;cases h;exact⟨0,rfl,by simp[Nat.eq_of_beq_eq_true e]⟩
  ·obtain⟨j,h1,h2⟩:=Qo0 h;exact⟨j+1,by omega,by simpa using h2⟩
theorem Qu1:∀{σ:List Nat},Qh8 σ=true→∀(i j s:Nat),σ[i]? =some s→σ[j]? =some s→i=j
 |[],_,i,j,s,h,_=>by simp at h
 |a::l,hn,i,j,s,hi,hj=>by
  simp only[Qh8,Bool.and_eq_true,Bool.not_eq_true']at hn;have hna:a∉l:=by have:=hn.1;simpa using this
  cases i with
  |zero=>
   cases j with
   |zero=>rfl
   |succ j=>simp at hi hj;subst hi;exact absurd (List.mem_of_getElem? hj) hna
  |succ i=>
   cases j with
   |zero=>simp at hi hj;subst hj;exact absurd (List.mem_of_getElem? hi) hna
   |succ j=>have:=Qu1 hn.2 i j s (by simpa using hi) (by simpa using hj);omega
theorem Qua{σ:List Nat}{H:List Qb}{k:Nat}{o:Qb}(h:(Kl σ H)[k]? =some o):∃s,σ[k]? =some s∧o=Qi3 σ H s:=by unfold Kl at h;simp only[List.getElem?_map,Option.map_eq_some_iff]at h;obtain⟨s,hs,rfl⟩:=h;exact⟨s,hs,rfl⟩
def Xs(σ:List Nat)(ρ:Env):Env:=fun k=>match σ[k]? with
 |some s=>ρ s
 |none=>none
theorem Zaf{σ:List Nat}{ρ:Env}{s t:Nat}{p:Place}(h:idx σ 0 s=some t)(hp:ρ s=some p):Xs σ ρ t=some p:=by obtain⟨j,rfl,hj⟩:=Qo0 h;simp only[Xs,Nat.zero_add,hj];exact hp
theorem Mem.view{M:Qd}{ρ:Env}{H:List Qb}{w:World}(hm:Mem M ρ H w){σ:List Nat}(hn:Qh8 σ=true):Mem M (Xs σ ρ) (Kl σ H) w:=by
 have hobj:∀(k:Nat) (o:Qb),(Kl σ H)[k]? =some o→o.live=true→∃(s:Nat) (x:Qb),σ[k]? =some s∧H[s]? =some x∧o=x.Zx (idx σ 0)∧x.live=true:=fun k o ho hl=>by
  obtain⟨s,hs,rfl⟩:=Qua ho;unfold Qi3 at hl⊢;split at hl
  ·rename_i x hx;rw[Kx]at hl;exact⟨s,x,hs,hx,rfl,hl⟩
  ·cases hl
 refine⟨hm.imm,fun k o ho=>?_,fun k o p b ho hl hp hb=>?_,fun k k' o o' p p' b ho ho' hl hl' hp hp' hb hb'=>?_,fun k hk=>?_,fun k o p b ho hl hp hb=>?_⟩
 ·obtain⟨s,hs,rfl⟩:=Qua ho;unfold Qi3;split
  ·rename_i x hx;exact(hm.own s x hx).Zx M.le_refl (fun s t p h hp=>Zaf h hp) (by simp only[Xs,hs]) (fun _ _ _ _=>rfl)
  ·trivial
 ·obtain⟨s,x,h1,h2,_,h4⟩:=hobj k o ho hl;simp only[Xs,h1]at hp;exact hm.seps s x p b h2 h4 hp hb
 ·obtain⟨s,x,h1,h2,_,h4⟩:=hobj k o ho hl;obtain⟨s',x',k1,k2,_,k4⟩:=hobj k' o' ho' hl';simp only[Xs,h1]at hp;simp only[Xs,k1]at hp';have:=hm.diss s s' x x' p p' b h2 k2 h4 k4 hp hp' hb hb';subst this;exact Qu1 hn k k' s h1 k1
 ·simp only[Xs];rw[List.getElem?_eq_none (by simpa[Kl]using hk)]
 ·obtain⟨s,x,h1,h2,_,h4⟩:=hobj k o ho hl;simp only[Xs,h1]at hp;exact hm.lts s x p b h2 h4 hp hb
theorem Zld{ρ:Env}{H:List Qb}{σ:List Nat}{b:Nat}(h:Jd (Xs σ ρ) (Kl σ H) b):∃(k s:Nat) (x:Qb) (p:Place),σ[k]? =some s∧H[s]? =some x∧x.live=true∧ρ s=some p∧p.has b:=by
 obtain⟨k,o,p,h1,h2,h3,h4⟩:=h;obtain⟨s,hs,rfl⟩:=Qua h1;unfold Qi3 at h2;split at h2
 ·rename_i x hx;rw[Kx]at h2;simp only[Xs,hs]at h3;exact⟨k,s,x,p,hs,hx,h2,h3,h4⟩
 ·cases h2
theorem Qur{σ:List Nat}{Hv:List Qb}:∀{ids:List Nat} {H:List Qb},(V7 σ Hv ids H).length=H.length
 |[],H=>rfl
 |k::ids,H=>by
  simp only[V7];rw[Qur];split
  ·rfl
  ·split
   ·rfl
   ·simp
theorem Zci{σ:List Nat}{Hv:List Qb}:∀{ids:List Nat} {H:List Qb} {s:Nat} {o:Qb},(V7 σ Hv ids H)[s]? =some o→
  (∃k∈ids,σ[k]? =some s∧∃x,Hv[k]? =some x∧o=x.Zx fun k=>σ[k]?)∨(H[s]? =some o∧∀k∈ids,σ[k]? =some s→Hv[k]? =none)
 |[],H,s,o,h=>.inr ⟨h,fun k hk=>by cases hk⟩
 |k::ids,H,s,o,h=>by
  simp only[V7]at h;rcases Zci h with⟨k',h1,h2⟩|⟨h1,h2⟩
  ·exact .inl ⟨k',List.mem_cons_of_mem _ h1,h2⟩
  ·split at h1
   ·rename_i hk;exact .inr ⟨h1,fun k' hk' h3=>by
     rcases List.mem_cons.1 hk' with rfl|hk'
     ·rw[hk]at h3;cases h3
     ·exact h2 k' hk' h3⟩
   ·rename_i t hk;split at h1
    ·rename_i hv;exact .inr ⟨h1,fun k' hk' h3=>by
      rcases List.mem_cons.1 hk' with rfl|hk'
      ·exact hv
      ·exact h2 k' hk' h3⟩
    ·rename_i x hv;rw[List.getElem?_set]at h1;split at h1
     ·rename_i e;subst e;split at h1
      ·cases h1;exact .inl ⟨k,List.mem_cons_self,hk,x,hv,rfl⟩
      ·cases h1
     ·rename_i e;exact .inr ⟨h1,fun k' hk' h3=>by
       rcases List.mem_cons.1 hk' with rfl|hk'
       ·rw[hk]at h3;cases h3;exact absurd rfl e
       ·exact h2 k' hk' h3⟩
theorem Qio{σ:List Nat}:∀{l:List Nat} {s:Nat},s∈through σ l↔∃k∈l,σ[k]? =some s
 |[],s=>by simp[through]
 |k::l,s=>by
  simp only[through];split
  ·rename_i t ht;rw[List.mem_cons,Qio];constructor
   ·rintro (rfl|⟨k',h1,h2⟩)
    ·exact⟨k,List.mem_cons_self,ht⟩
    ·exact⟨k',List.mem_cons_of_mem _ h1,h2⟩
   ·rintro ⟨k',h1,h2⟩
    rcases List.mem_cons.1 h1 with rfl|h1
    ·rw[ht]at h2;cases h2;exact .inl rfl
    ·exact .inr ⟨k',h1,h2⟩
  ·rename_i ht;rw[Qio];constructor
   ·rintro ⟨k',h1,h2⟩;exact⟨k',List.mem_cons_of_mem _ h1,h2⟩
   ·rintro ⟨k',h1,h2⟩
    rcases List.mem_cons.1 h1 with rfl|h1
    ·rw[ht]at h2;cases h2
    ·exact⟨k',h1,h2⟩
theorem Zst{T:TT}{n i:Nat}{x:SV}(h:(Qdw T n)[i]? =some x):i<n∧x=(T.get i).getD .any:=by
 unfold Qdw at h;simp only[List.getElem?_map,Option.map_eq_some_iff]at h;obtain⟨j,hj,rfl⟩:=h;by_cases hi:i<n
 ·rw[List.getElem?_range hi]at hj;cases hj;exact⟨hi,rfl⟩
 ·rw[List.getElem?_eq_none (by simpa using hi)]at hj;cases hj
theorem Qs8(T:TT)(n:Nat):(Qdw T n).length=n:=by simp[Qdw]
theorem Zjf{M:Qd}{ρ:Env}{H:List Qb}{w:World}{a:Act}(hm:Mem M ρ H w)(D ids mv:List Nat):Qmo D ids mv (Jo H) M ρ H a w:=
 ⟨rfl,fun t y _ hy=>(by rw[show(Jo H).T=TT.full 8 from rfl,TT.Qec]at hy;cases hy),
  fun i o _ ho=>⟨(hm.own i o ho).forget M.le_refl (fun _ _ _ h=>h) rfl (fun _ _ _ _=>rfl),fun hl=>⟨o,ho,hl⟩⟩,fun i o _ ho hl=>⟨o,ho,hl⟩⟩
theorem Zp3{M:Qd}{ρ:Env}{H:List Qb}{w:World}{a:Act}{n:Nat}(hn:H.length=n):Qmo [] (List.range n) [] (Jo (Vq n)) M ρ H a w:=
 ⟨by simp[Jo,Vq,hn],fun t y _ hy=>(by rw[show(Jo (Vq n)).T=TT.full 8 from rfl,TT.Qec]at hy;cases hy),
  fun i o hi ho=>absurd (List.mem_range.2 (by simpa[Jo,Vq]using(List.getElem?_eq_some_iff.1 ho).1)) hi,
  fun i o hi ho hl=>absurd (List.mem_range.2 (by rw[←hn];exact(List.getElem?_eq_some_iff.1 ho).1)) hi⟩
def Qac(vs:List Value):Act:={tmps:=vs.toArray,defers:=[]}
theorem Zbu(vs:List Value)(i:Nat)(v:Value)(h:vs[i]? =some v):(Qac vs).tmps.getD i undef=v:=by have:i<vs.length:=(List.getElem?_eq_some_iff.1 h).1;simp[Qac,Array.getD,this];rw[List.getElem?_eq_getElem this]at h;simpa using h
theorem Zeq{M:Qd}{ρ:Env}{H:List Qb}{w:World}{vs:List Value}{xs:List SV}{n:Nat}{tch fg:List Nat}(hm:Mem M ρ H w)(hr:X6 M ρ vs xs)(hn:n≤H.length):
  Good (fun t=>(Qac vs).tmps.getD t undef) vs.length M ρ {T:=Qb7 (.full 8) 0 xs,H:=H,n0:=n,tch:=tch,fg:=fg,marks:=[],er:=[]} (Qac vs) w:=by
 refine⟨fun t x hx=>?_,by simp[Qac],hm,⟨rfl,fun i d s h=>by simp[Qac]at h⟩,fun m h=>(by cases h),hn,fun t _=>rfl⟩;rcases Quf xs (.full 8) 0 t x (fun t x h=>by rw[TT.Qec]at h;cases h) hx with h|⟨_,h⟩
 ·rw[TT.Qec]at h;cases h
 ·rw[Nat.sub_zero]at h;have hlt:t<vs.length:=by rw[hr.1];exact(List.getElem?_eq_some_iff.1 h).1
  rw[Zbu vs t vs[t] (List.getElem?_eq_getElem hlt)];exact hr.2 t vs[t] x (List.getElem?_eq_getElem hlt) h
theorem Zcu{B:Nat→Value}{nt n:Nat}{M:Qd}{ρ:Env}{s:St}{vs:List Value}{w:World}(hg:Good B nt M ρ s (Qac vs) w)(hn:vs.length=n):X6 M ρ vs (Qdw s.T n):=by
 refine⟨by rw[Qs8,hn],fun i v x hv hx=>?_⟩;obtain⟨hi,rfl⟩:=Zst hx;cases hT:s.T.get i with
 |none=>exact .any _
 |some y=>have:=hg.tm i y hT;rwa[Zbu vs i v hv]at this
theorem Yak{M:Qd}{ρ:Env}{H:List Qb}{w:World}{n:Nat}(hn:H.length≤n):M.sealing ρ H n w=M:=by
 funext b;unfold Qd.sealing;cases M b with
 |some o=>rfl
 |none=>
  simp only;rw[if_neg]
  rintro ⟨s,o,p,h1,h2,_⟩
  have:=(List.getElem?_eq_some_iff.1 h2).1;omega
theorem PX.Qo{cx:Cx}{g:Nat}{px:PX}(h:Zb cx g px):Qdc cx g px.sm:=by
 refine⟨h.fn,fun X args H k y hk=>?_⟩;have hk:(match Qmw args H px.locs []with
  |none=>none
  |some σ=>gd (px.fit σ args H) (match Qcx px.τ [] (List.range px.no) [] px.no (Qtv σ args H)with
   |none=>none
   |some x=>match px.code x with
    |none=>none
    |some y=>k ((Xf (px.res x y)).Zx fun k=>σ[k]?) (V7 σ (px.Vm x y) px.ids (J0 (through σ px.mv) H)) (through σ px.ids) (through σ px.mv)))=some y:=hk
 split at hk
 ·cases hk
 ·rename_i σ hσ;obtain⟨hfit,hk⟩:=Yc hk;split at hk
  ·cases hk
  ·rename_i x hx;split at hk
   ·cases hk
   ·rename_i z hz;simp only[PX.fit,Bool.and_eq_true]at hfit;obtain⟨f1,f2,f3,f4,f5,⟨f6,f7⟩,f8⟩:=hfit;have hno:σ.length=px.no:=Nat.eq_of_beq_eq_true f1;have hnp:args.length=px.np:=Nat.eq_of_beq_eq_true f4;have hlt:∀k s:Nat,σ[k]? =some s→s<H.length:=fun k s h=>Ur (List.all_eq_true.1 f3 s (List.mem_of_getElem? h));obtain⟨r1,c,hc,r2⟩:=Qsv hx;intro M ρ w vs hm hr;have hmv:=hm.view f2;have hrv:X6 M (Xs σ ρ) vs (Kt (idx σ 0) args):=by rw[Qnw];refine⟨by rw[List.length_map];exact hr.1,fun i v x hv hx=>?_⟩;simp only[List.getElem?_map,Option.map_eq_some_iff]at hx;obtain⟨u,hu,rfl⟩:=hx;exact(hr.2 i v u hv hu).Zx M.le_refl fun s t p h hp=>Zaf h hp
    have hlen:(Kl σ H).length=px.no:=by simp[Kl,hno]
    have hbl:(Jo (Vq px.no)).H.length=px.no:=by simp[Jo,Vq]
    have hg:=Zeq (n:=σ.length) (tch:=[]) (fg:=[]) hmv hrv (by rw[hlen,hno];exact Nat.le_refl _);obtain⟨M2,ρ2,g1,g2,e1,e2⟩:=U6 (τ:=px.τ) (D:=[]) (ids:=List.range px.no) (mv:=[]) (b:=Jo (Vq px.no)) (H0:=Kl σ H) (M0:=M) (ρ0:=Xs σ ρ) (a0:=Qac vs) (w0:=w) (fun _ _=>rfl) (Zp3 hlen) hmv hg
     (Fr.refl ..) rfl f5 (by rw[hbl];exact r1) (by rw[hbl];exact r2) hc
    rw[hbl]at e1 e2;have e1:M2=M:=by rw[e1];exact Yak (by show(Kl σ H).length≤px.no;rw[hlen];exact Nat.le_refl _)
    have e2:ρ2=Xs σ ρ:=by rw[e2,←hlen];exact Qzl hmv
    subst e1;subst e2;have hm2:Mem M2 (Xs σ ρ) (px.objs x) w:=g1.mem;have hol:(px.objs x).length=px.no:=by show(px.τ.st [] (List.range px.no) [] (Jo (Vq px.no)) x).H.length=_;rw[Qj.Qeb,Qgl,Qei,Qdu,hbl]
    have hreps:X6 M2 (Xs σ ρ) vs (px.args x):=Zcu g1 (by rw[hr.1,hnp]);have hown:∀b,b<w.heap.size→Jd (Xs σ ρ) (px.objs x) b→∃(k s:Nat) (x:Qb) (p:Place),σ[k]? =some s∧H[s]? =some x∧x.live=true∧ρ s=some p∧p.has b:=fun b hb ho=>by
     rcases g2.own b ho with h1|h1
     ·omega
     ·exact Zld h1
    refine(h.ok x z hz M2 (Xs σ ρ) w vs hm2 hreps).mono ?_
    rintro e w' ⟨v,r,H',M',ρ',t,f,he,⟨rfl,rfl,ht,hf⟩,hs,hm',hfr⟩
    let ρ3:Env:=fun s=>match idx σ 0 s with
     |some k=>ρ' k
     |none=>ρ s
    have hidx:∀k s:Nat,σ[k]? =some s→idx σ 0 s=some k:=fun k s hks=>by
     have key:∀(l:List Nat) (i j:Nat),l[j]? =some s→∃k,idx l i s=some k:=by
      intro l;induction l with
      |nil=>intro i j h;simp at h
      |cons a l ih=>
       intro i j h;simp only[idx];cases hb:Nat.beq a s with
       |true=>exact⟨i,rfl⟩
       |false=>
        cases j with
        |zero=>simp at h;subst h;rw[Nat.beq_refl]at hb;cases hb
        |succ j=>exact ih (i+1) j (by simpa using h)
     obtain⟨k',hk'⟩:=key σ 0 k hks;obtain⟨j,e,hj⟩:=Qo0 hk';have e:k'=j:=by omega
     subst e;rw[hk',Qu1 f2 k' k s hj hks]
    have hρ3:∀k s:Nat,σ[k]? =some s→ρ3 s=ρ' k:=fun k s hks=>by simp only[ρ3,hidx k s hks]
    have hρ3':∀s:Nat,(∀k:Nat,σ[k]? ≠some s)→ρ3 s=ρ s:=fun s hns=>by
     have:idx σ 0 s=none:=by
      cases hi:idx σ 0 s with
      |none=>rfl
      |some k=>obtain⟨j,_,hj⟩:=Qo0 hi;exact absurd hj (hns j)
     simp only[ρ3,this]
    have hstay:∀k s:Nat,σ[k]? =some s→k∉px.mv→ρ3 s=ρ s:=fun k s hks hkm=>by
     rw[hρ3 k s hks];have hklt:k<(px.objs x).length:=by rw[hol,←hno];exact(List.getElem?_eq_some_iff.1 hks).1
     rw[hfr.stay k hklt fun h=>hkm (hf k h)];simp only[Xs,hks]
    have hback:∀s t p,(fun k=>σ[k]?) s=some t→ρ' s=some p→ρ3 t=some p:=fun k s p hks hp=>by rw[hρ3 k s hks];exact hp
    have hmvi:∀k,k∈px.mv→k∈px.ids:=fun k hk=>U7 f6 hk;have hkeep:∀k s:Nat,σ[k]? =some s→k∉px.ids→∀o,H[s]? =some o→o.live=true→(∃o':Qb,(px.Vm x z)[k]? =some o'∧o'.live=true)∧∀p,ρ s=some p→ρ' k=some p∧∀b,p.has b→w'.heap[b]? =w.heap[b]? :=fun k s hks hki o ho hl=>by
     have hkn:k<px.no:=by rw[←hno];exact(List.getElem?_eq_some_iff.1 hks).1
     have hcell:k∈px.τ.cells.filterMap Qt.id? :=by have:=List.all_eq_true.1 f8 k (List.mem_range.2 hkn);simp only[Bool.or_eq_true,List.contains_eq_mem,decide_eq_true_eq]at this;exact this.resolve_left hki
     have hko:k<(px.objs x).length:=by rw[hol];exact hkn
     obtain⟨ok,hok⟩:∃ok,(px.objs x)[k]? =some ok:=⟨_,List.getElem?_eq_getElem hko⟩;have hokl:ok.live=true:=by
      have hok':(px.τ.st [] (List.range px.no) [] (Jo (Vq px.no)) x).H[k]? =some ok:=hok;rw[Qj.Qeb]at hok';rcases Qke hok' with⟨c',z',hi,hid,rfl⟩|⟨hni,_⟩
      ·cases c' with
       |slot=>cases hid
       |_=>rfl
      ·exact absurd hcell hni
     obtain⟨a1,a2⟩:=hfr.keep k ok hko (fun h=>hki (ht k h)) hok hokl;exact⟨a1,fun p hp=>a2 p (by simp only[Xs,hks];exact hp)⟩
    have hother:∀s o p b,H[s]? =some o→o.live=true→ρ s=some p→p.has b→(∀k:Nat,σ[k]? ≠some s)→¬Jd (Xs σ ρ) (px.objs x) b:=fun s o p b ho hl hp hb hns hw=>by obtain⟨k,s',x',p',h1,h2,h3,h4,h5⟩:=hown b (hm.Ji ho hl hp hb) hw;have:=hm.diss s' s x' o p' p b h2 ho h3 hl h4 hp h5 hb;subst this;exact hns k h1
    have hsame:∀s o,H[s]? =some o→o.live=true→(∀k:Nat,σ[k]? =some s→k∉px.ids)→∀p,ρ s=some p→ρ3 s=some p∧∀b,p.has b→w'.heap[b]? =w.heap[b]? :=fun s o ho hl hni p hp=>by
     by_cases hin:∃k:Nat,σ[k]? =some s
     ·obtain⟨k,hks⟩:=hin;obtain⟨_,a2⟩:=hkeep k s hks (hni k hks) o ho hl;obtain⟨b1,b2⟩:=a2 p hp;exact⟨by rw[hρ3 k s hks];exact b1,b2⟩
     ·have hns:∀k:Nat,σ[k]? ≠some s:=fun k h=>hin ⟨k,h⟩;exact⟨by rw[hρ3' s hns];exact hp,fun b hb=>hfr.same b (hm.Ji ho hl hp hb) (hother s o p b ho hl hp hb hns)⟩
    have hsplit:∀s o,(V7 σ (px.Vm x z) px.ids (J0 (through σ px.mv) H))[s]? =some o→
      (∃k∈px.ids,σ[k]? =some s∧∃q,(px.Vm x z)[k]? =some q∧o=q.Zx fun k=>σ[k]?)∨
      (∃q,H[s]? =some q∧(o=q.forget (through σ px.mv)∨(through σ px.mv=[]∧o=q))∧∀k:Nat,σ[k]? =some s→k∉px.ids):=fun s o ho=>by
     rcases Zci ho with h1|⟨h1,h2⟩
     ·exact .inl h1
     ·obtain⟨q,q1,q2⟩:=Qr4 h1;refine .inr ⟨q,q1,q2,fun k hks hki=>?_⟩;have hkn:k<px.no:=Ur (List.all_eq_true.1 f7 k hki);have:k<(px.Vm x z).length:=by show k<(px.ω.st [] px.ids px.mv (Jo (px.objs x)) z).H.length;rw[Qj.Qeb,Qgl,Qei,Qdu];show k<(px.objs x).length;rw[hol];exact hkn
      have hn:=h2 k hki hks;rw[List.getElem?_eq_getElem this]at hn;cases hn
    have hlf:∀(q o:Qb),(o=q.forget (through σ px.mv)∨(through σ px.mv=[]∧o=q))→o.live=q.live:=fun q o h=>by
     rcases h with rfl|⟨_,rfl⟩
     ·exact Qar _ q
     ·rfl
    have hbut:Env.K2 (through σ px.mv) ρ ρ3:=fun s p hs hp=>by
     have hs:s∉through σ px.mv:=by simpa using hs
     by_cases hin:∃k:Nat,σ[k]? =some s
     ·obtain⟨k,hks⟩:=hin;rw[hstay k s hks fun hkm=>hs (Qio.2 ⟨k,hkm,hks⟩)];exact hp
     ·rw[hρ3' s fun k h=>hin ⟨k,h⟩];exact hp
    have hmem3:Mem M' ρ3 (V7 σ (px.Vm x z) px.ids (J0 (through σ px.mv) H)) w':=by
     refine⟨hm'.imm,fun s o ho=>?_,fun s o p b ho hl hp hb=>?_,fun s s' o o' p p' b ho ho' hl hl' hp hp' hb hb'=>?_,fun s hs=>?_,fun s o p b ho hl hp hb=>?_⟩
     ·rcases hsplit s o ho with⟨k,hki,hks,q,hq,rfl⟩|⟨q,hq,hqo,hni⟩
      ·exact(hm'.own k q hq).Zx M'.le_refl hback (hρ3 k s hks) (fun _ _ _ _=>rfl)
      ·by_cases hl:q.live=true
       ·have hρs:ρ3 s=ρ s:=by
         by_cases hin:∃k:Nat,σ[k]? =some s
         ·obtain⟨k,hks⟩:=hin;exact hstay k s hks fun hkm=>hni k hks (hmvi k hkm)
         ·exact hρ3' s fun k h=>hin ⟨k,h⟩
        have:=(hm.own s q hq).forget (d:=through σ px.mv) hfr.imm hbut hρs fun p b hp hb=>(hsame s q hq hl hni p hp).2 b hb;rcases hqo with rfl|⟨e,rfl⟩
        ·exact this
        ·rwa[e,Qb.Kb]at this
       ·have e0:=Qak hl;subst e0;rcases hqo with rfl|⟨_,rfl⟩<;>trivial
     ·rcases hsplit s o ho with⟨k,hki,hks,q,hq,rfl⟩|⟨q,hq,hqo,hni⟩
      ·rw[Kx]at hl;rw[hρ3 k s hks]at hp;exact hm'.seps k q p b hq hl hp hb
      ·rw[hlf q o hqo]at hl;by_cases hin:∃k:Nat,σ[k]? =some s
       ·obtain⟨k,hks⟩:=hin;obtain⟨⟨o',a1,a2⟩,_⟩:=hkeep k s hks (hni k hks) q hq hl;rw[hρ3 k s hks]at hp;exact hm'.seps k o' p b a1 a2 hp hb
       ·have hns:∀k:Nat,σ[k]? ≠some s:=fun k h=>hin ⟨k,h⟩;rw[hρ3' s hns]at hp;cases e:M' b with
        |none=>rfl
        |some ob=>
         rcases hfr.new b ob (hm.seps s q p b hq hl hp hb) e with h1|h1
         ·have:=hm.Ji hq hl hp hb;omega
         ·exact absurd h1 (hother s q p b hq hl hp hb hns)
     ·
      have htw:∀s o p,(V7 σ (px.Vm x z) px.ids (J0 (through σ px.mv) H))[s]? =some o→o.live=true→ρ3 s=some p→
        (∃k q,σ[k]? =some s∧(px.Vm x z)[k]? =some q∧q.live=true∧ρ' k=some p)∨((∀k:Nat,σ[k]? ≠some s)∧∃q,H[s]? =some q∧q.live=true∧ρ s=some p):=fun s o p ho hl hp=>by
       rcases hsplit s o ho with⟨k,hki,hks,q,hq,rfl⟩|⟨q,hq,hqo,hni⟩
       ·rw[Kx]at hl;rw[hρ3 k s hks]at hp;exact .inl ⟨k,q,hks,hq,hl,hp⟩
       ·rw[hlf q o hqo]at hl;by_cases hin:∃k:Nat,σ[k]? =some s
        ·obtain⟨k,hks⟩:=hin;obtain⟨⟨o',a1,a2⟩,_⟩:=hkeep k s hks (hni k hks) q hq hl;rw[hρ3 k s hks]at hp;exact .inl ⟨k,o',hks,a1,a2,hp⟩
        ·have hns:∀k:Nat,σ[k]? ≠some s:=fun k h=>hin ⟨k,h⟩;rw[hρ3' s hns]at hp;exact .inr ⟨hns,q,hq,hl,hp⟩
      have hcross:∀(k s':Nat) (q:Qb) (q':Qb) (p p':Place),(px.Vm x z)[k]? =some q→q.live=true→ρ' k=some p→(∀k:Nat,σ[k]? ≠some s')→H[s']? =some q'→q'.live=true→ρ s'=some p'→p.has b→p'.has b→False:=fun k s' q q' p p' h1 h2 h3 h4 h5 h6 h7 h8 h8'=>by
       have hlt2:=hm.Ji h5 h6 h7 h8';rcases hfr.own b ⟨k,q,p,h1,h2,h3,h8⟩with h9|h9
       ·omega
       ·exact hother s' q' p' b h5 h6 h7 h8' h4 h9
      rcases htw s o p ho hl hp with⟨k,q,a1,a2,a3,a4⟩|⟨a1,q,a2,a3,a4⟩
      ·rcases htw s' o' p' ho' hl' hp' with⟨k',q',b1,b2,b3,b4⟩|⟨b1,q',b2,b3,b4⟩
       ·have:=hm'.diss k k' q q' p p' b a2 b2 a3 b3 a4 b4 hb hb';subst this;rw[a1]at b1;cases b1;rfl
       ·exact(hcross k s' q q' p p' a2 a3 a4 b1 b2 b3 b4 hb hb').elim
      ·rcases htw s' o' p' ho' hl' hp' with⟨k',q',b1,b2,b3,b4⟩|⟨b1,q',b2,b3,b4⟩
       ·exact(hcross k' s q' q p' p b2 b3 b4 a1 a2 a3 a4 hb' hb).elim
       ·exact hm.diss s s' q q' p p' b a2 b2 a3 b3 a4 b4 hb hb'
     ·rw[Qur,Qdu]at hs;have hns:∀k:Nat,σ[k]? ≠some s:=fun k h=>by have:=hlt k s h;omega
      rw[hρ3' s hns];exact hm.fresh s hs
     ·rcases hsplit s o ho with⟨k,hki,hks,q,hq,rfl⟩|⟨q,hq,hqo,hni⟩
      ·rw[Kx]at hl;rw[hρ3 k s hks]at hp;exact hm'.lts k q p b hq hl hp hb
      ·rw[hlf q o hqo]at hl;by_cases hin:∃k:Nat,σ[k]? =some s
       ·obtain⟨k,hks⟩:=hin;obtain⟨⟨o',a1,a2⟩,_⟩:=hkeep k s hks (hni k hks) q hq hl;rw[hρ3 k s hks]at hp;exact hm'.lts k o' p b a1 a2 hp hb
       ·have hns:∀k:Nat,σ[k]? ≠some s:=fun k h=>hin ⟨k,h⟩;rw[hρ3' s hns]at hp;exact Nat.lt_of_lt_of_le (hm.lts s q p b hq hl hp hb) hfr.grow
    refine⟨v,_,_,M',ρ3,_,_,he,hk,hs.Zx M'.le_refl hback,hmem3,?_⟩;have hup:∀b,b<w.heap.size→Jd (Xs σ ρ) (px.objs x) b→Jd ρ H b:=fun b hb ho=>by obtain⟨k,s,x',p,h1,h2,h3,h4,h5⟩:=hown b hb ho;exact⟨s,x',p,h2,h3,h4,h5⟩
    refine⟨hfr.imm,fun b ob h0 h1=>?_,fun b hb=>?_,fun b hb hno2=>hfr.same b hb fun ho=>hno2 (hup b hb ho),hfr.grow,fun s o hsn hst ho hl=>?_,fun s hsn hsm=>?_,hfr.io⟩
    ·rcases hfr.new b ob h0 h1 with h2|h2
     ·exact .inl h2
     ·by_cases hb:b<w.heap.size
      ·exact .inr (hup b hb h2)
      ·exact .inl (by omega)
    ·obtain⟨s,o,p,h1,h2,h3,h4⟩:=hb;rcases hsplit s o h1 with⟨k,hki,hks,q,hq,rfl⟩|⟨q,hq,hqo,hni⟩
     ·rw[Kx]at h2;rw[hρ3 k s hks]at h3;rcases hfr.own b ⟨k,q,p,hq,h2,h3,h4⟩with h5|h5
      ·exact .inl h5
      ·by_cases hb:b<w.heap.size
       ·exact .inr (hup b hb h5)
       ·exact .inl (by omega)
     ·rw[hlf q o hqo]at h2;refine .inr ⟨s,q,p,hq,h2,?_,h4⟩;by_cases hin:∃k:Nat,σ[k]? =some s
      ·obtain⟨k,hks⟩:=hin;rw[hstay k s hks fun hkm=>hni k hks (hmvi k hkm)]at h3;exact h3
      ·rw[hρ3' s fun k h=>hin ⟨k,h⟩]at h3;exact h3
    ·have hni:∀k:Nat,σ[k]? =some s→k∉px.ids:=fun k hks hki=>hst (Qio.2 ⟨k,hki,hks⟩);refine⟨?_,hsame s o ho hl hni⟩;have hlen2:s<(V7 σ (px.Vm x z) px.ids (J0 (through σ px.mv) H)).length:=by rw[Qur,Qdu];exact hsn
     obtain⟨o2,ho2⟩:∃o2,(V7 σ (px.Vm x z) px.ids (J0 (through σ px.mv) H))[s]? =some o2:=⟨_,List.getElem?_eq_getElem hlen2⟩;refine⟨o2,ho2,?_⟩;rcases hsplit s o2 ho2 with⟨k,hki,hks,_⟩|⟨q,hq,hqo,_⟩
     ·exact absurd hki (hni k hks)
     ·rw[ho]at hq;cases hq;rw[hlf o o2 hqo];exact hl
    ·by_cases hin:∃k:Nat,σ[k]? =some s
     ·obtain⟨k,hks⟩:=hin;exact hstay k s hks fun hkm=>hsm (Qio.2 ⟨k,hkm,hks⟩)
     ·exact hρ3' s fun k h=>hin ⟨k,h⟩
def Zew(cx:Cx)(fn:Func)(px:PX):KX px.ω.El:=fun e s=>
 gd (Qho e&&(s.marks.isEmpty||Nat.ble px.no s.H.length)) (match shut s.marks s.H with
  |none=>none
  |some H'=>Qbt cx {s with H:=H',marks:=[]} fn.results.toList fun l=>
   gd (Nat.beq l.length px.nr) (Qcx px.ω [] px.ids px.mv px.no {T:=Qb7 (.full 8) 0 l,H:=H',n0:=px.no,tch:=s.tch,fg:=s.fg,marks:=[],er:=[]}))
def Qoh(cx:Cx)(lx:Lx)(n:Nat)(an:Q7)(fn:Func)(c:Code)(px:PX)(x:px.τ.El):Option px.ω.El:=
 Xt cx lx n px.ω.El (Ya.eqv px.ω.cells) an true fn.ntmps c (.entry (px.args x) (px.objs x)) (Zew cx fn px)
theorem Zkr{cx:Cx}{fn:Func}{px:PX}{e:Exit}{s:St}{y:px.ω.El}(h:Zew cx fn px e s=some y):
  (e = .normal ∨ e = .ret) ∧ (px.no ≤ s.H.length ∨ s.marks = []) ∧ ∃ H',shut s.marks s.H = some H' ∧ Km cx { s with H := H',marks := [] } fn.results.toList fun l =>
   l.length=px.nr∧Qcx px.ω [] px.ids px.mv px.no {T:=Qb7 (.full 8) 0 l,H:=H',n0:=px.no,tch:=s.tch,fg:=s.fg,marks:=[],er:=[]}=some y:=by
 obtain⟨h1,h⟩:=Yc h;simp only[Bool.and_eq_true,Bool.or_eq_true,List.isEmpty_iff]at h1;refine⟨Qk9 h1.1,h1.2.symm.imp (fun h=>Nat.le_of_ble_eq_true h) id,?_⟩;split at h
 ·cases h
 ·rename_i H' hs;refine⟨H',hs,Qbj _ _ _ (fun l hl=>?_) (Qcr _ _ h)⟩;obtain⟨h2,hl⟩:=Yc hl;exact⟨Nat.eq_of_beq_eq_true h2,hl⟩
theorem PX.Qp3(px:PX)(x:px.τ.El):(px.objs x).length=px.no:=by show(px.τ.st [] (List.range px.no) [] (Jo (Vq px.no)) x).H.length=_;rw[Qj.Qeb,Qgl,Qei,Qdu];simp[Jo,Vq]
theorem Ygf{M:Qd}{ρ:Env}{v:Value}{l:List SV}(h:Qe M ρ v (Xf l)):∃vs:List Value,X6 M ρ vs l∧∀(M2:Qd) (ρ2:Env) (l2:List SV),l2.length=l.length→X6 M2 ρ2 vs l2→Qe M2 ρ2 v (Xf l2):=by
 match l,h with
 |[x],h=>
  refine⟨[v],⟨rfl,fun i u y hu hy=>?_⟩,fun M2 ρ2 l2 hl hr=>?_⟩
  ·cases i with
   |zero=>simp at hu hy;subst hu;subst hy;exact h
   |succ i=>simp at hu
  ·match l2,hl,hr with
   |[y],_,hr=>exact hr.2 0 v y rfl rfl
 |[],h=>
  have h:Qe M ρ v (.tup []):=h;cases h with
  |tup cs _ hl hr=>
   refine⟨cs.toList,⟨by simpa using hl,fun i u y hu hy=>by simp at hy⟩,fun M2 ρ2 l2 hl2 hr2=>?_⟩;match l2,hl2 with
   |[],_=>exact .tup cs _ hl fun i v x hv hx=>by simp at hx
 |a::b::l,h=>
  have h:Qe M ρ v (.tup (a::b::l)):=h;cases h with
  |tup cs _ hl hr=>
   refine⟨cs.toList,⟨by simpa using hl,fun i u y hu hy=>hr i u y (by rw[←Array.getElem?_toList];exact hu) hy⟩,fun M2 ρ2 l2 hl2 hr2=>?_⟩;match l2,hl2,hr2 with
   |x::y::l2,hl2,hr2=>exact .tup cs _ (by rw[hl,hl2]) fun i v z hv hz=>hr2.2 i v z (by rw[Array.getElem?_toList];exact hv) hz
theorem Zb.Zr{cx:Cx}(hcx:cx.Ok){lx:Lx}(hlx:lx.Ok cx){n g:Nat}{an:Q7}{fn:Func}{c:Code}{px:PX}(hf:cx.fns.lookup g=some fn)(hb:fn.body=some c)
  (hcode:∀x y,px.code x=some y→Qoh cx lx n an fn c px x=some y) (hn:Nat.ble px.np fn.ntmps=true) (hcov:(px.ω.Wy px.ids&&subset px.mv px.ids)=true):Zb cx g px:=by
 rw[Bool.and_eq_true]at hcov;refine⟨⟨fn,hf⟩,fun x y hy=>?_⟩;have hw:=(Qk0 hcx hlx n).1 _ _ (Ya.eqv_ok px.ω.cells) none an true fn.ntmps c _ _ y (fun _=>rfl) (hcode x y hy);have hcall:Y6 cx.P g (px.args x) (px.objs x) fun r H' t f=>∃l,r=Xf l∧l.length=px.nr∧Qcx px.ω [] px.ids px.mv px.no {T:=Qb7 (.full 8) 0 l,H:=H',n0:=px.no,tch:=t,fg:=f,marks:=[],er:=[]}=some y:=by refine Qk3 hcx hf hb (by rw[show(px.args x).length=px.np from Qs8 _ _];exact Nat.le_of_ble_eq_true hn) (hw.mono fun e s hs=>?_);obtain⟨h1,h1',H',h2,h3⟩:=Zkr hs;exact⟨h1,h1'.imp (fun h=>by rw[px.Qp3];exact h) id,H',h2,Qbj _ _ _ (fun l h4=>⟨l,rfl,h4⟩) h3⟩
 intro M ρ w vs hm hr;refine(hcall M ρ w vs hm hr).mono ?_
 rintro e w' ⟨v,r,H',M',ρ',t,f,he,⟨l,rfl,hl,hrd⟩,hs,hm',hfr⟩
 obtain⟨us,hus,hback⟩:=Ygf hs;obtain⟨r1,c',hc,r2⟩:=Qsv hrd;have hno:px.no≤H'.length:=by simp only[St.reads,Bool.and_eq_true]at r1;exact Nat.le_of_ble_eq_true r1.2.2.2.2
 have hg:=Zeq (n:=px.no) (tch:=t) (fg:=f) hm' hus hno;have hbl:(Jo (px.objs x)).H.length=px.no:=px.Qp3 x;obtain⟨M2,ρ2,g1,g2,_,_⟩:=U6 (τ:=px.ω) (D:=[]) (ids:=px.ids) (mv:=px.mv) (b:=Jo (px.objs x)) (H0:=px.objs x) (M0:=M) (ρ0:=ρ) (a0:=Qac us) (w0:=w) (fun _ _=>rfl) (Zjf hm _ _ _) hm hg
  (by rw[hbl];rw[px.Qp3]at hfr;exact hfr) hcov.2 hcov.1 (by rw[hbl];exact r1) (by rw[hbl];exact r2) hc
 rw[hbl]at g2;have hus2:us.length=px.nr:=by rw[hus.1,hl]
 refine⟨v,_,_,M2,ρ2,px.ids,px.mv,he,⟨rfl,rfl,fun i h=>h,fun i h=>h⟩,hback M2 ρ2 _ (by rw[hl];exact Qs8 _ _) (Zcu g1 hus2),g1.mem,?_⟩;rw[px.Qp3];exact g2
end Go.Sx

/- Own rows that a function of data gets: they become immutable at the call. Part Qr of the own logic: another numbering of the owned objects. And further parts. -/
import Derived.Test.YtpkbmngnolhopaaGreatDoorXSxQb
set_option linter.unusedVariables false
set_option linter.unusedSimpArgs false
set_option linter.unnecessarySimpa false
namespace Go.Sx
open Go
theorem Mem.Zzs{M:Qc}{ρ:Env}{H:List Qa}{w:World}{k ty:Nat}{row:List Ty}{l:List (Qh row)}(hm:Mem M ρ H w)(ho:H[k]? =some (.tvec ty row l)):
  ∃M2,M.le M2∧Mem M2 ρ (H.set k .dead) w∧(∀n,Fr M ρ H w M2 ρ (H.set k .dead) w n [k] [])∧∀v,Qd M ρ v (.sl k row.length 0 l.length)→Zb M2 v (.tsl row l):=by
 have hks:k<H.length:=(List.getElem?_eq_some_iff.1 ho).1;have hl:(Qa.tvec ty row l).live=true:=rfl;have hm1:=Mem.oneLive hm ho hl (hm.own k _ ho);have hle:=Qc.X6 M ρ (Sx.oneLive H k (.tvec ty row l)) 0 w;have hget:(Sx.oneLive H k (.tvec ty row l))[k]? =some (.tvec ty row l):=by simp[Sx.oneLive,hks]
 have hnew:∀b ob,M b=none→M.sealing ρ (Sx.oneLive H k (.tvec ty row l)) 0 w b=some ob→(∃p,ρ k=some p∧p.block=b)∧w.heap[b]? =some ob:=fun b ob h0 h1=>by
  obtain⟨⟨s2,o2,p2,q1,q2,q3,q4,q5⟩,q6⟩:=Qc.Wj h0 h1;rcases Qb7 q2 with⟨rfl,rfl⟩|⟨_,rfl⟩
  ·exact⟨⟨p2,q4,q5⟩,q6⟩
  ·cases q3
 have hslice:∀v,Qd M ρ v (.sl k row.length 0 l.length)→Zb (M.sealing ρ (Sx.oneLive H k (.tvec ty row l)) 0 w) v (.tsl row l):=fun v hr=>by
  refine Qf8 hm1 (Nat.zero_le _) hget rfl rfl (by simp[Qa.len]) rfl (fun i y hy=>?_) hr;have:(Qa.tvec ty row l).row (0+i)=(Za row y).map .pv:=by simp only[Qa.row,List.getD,Nat.zero_add,hy,Option.getD_some]
  rw[this];exact .self hle y
 generalize hM2:M.sealing ρ (Sx.oneLive H k (.tvec ty row l)) 0 w=M2 at hle hnew hslice;have hobj:∀t x,(H.set k .dead)[t]? =some x→(t=k∧x=.dead)∨(t≠k∧H[t]? =some x):=fun t x hx=>by
  by_cases e:t=k
  ·subst e;rw[List.getElem?_set_self hks]at hx;cases hx;exact .inl ⟨rfl,rfl⟩
  ·rw[List.getElem?_set_ne (fun h=>e h.symm)]at hx;exact .inr ⟨e,hx⟩
 refine⟨M2,hle,⟨fun b ob hb=>?_,fun t x hx=>?_,fun t x p b hx hlx hp hb=>?_,fun t t' x x' p p' b hx hx' hlx hlx' hp hp' hbk hbk'=>?_,fun t ht=>hm.fresh t (by simpa using ht),fun t x p b hx hlx hp hb=>?_⟩,fun n=>⟨hle,fun b ob h0 h1=>?_,fun b hb=>?_,fun _ _ _=>rfl,Nat.le_refl _,fun t x ht hx hx2 hlx=>?_,fun _ _ _=>rfl,rfl,rfl⟩,hslice⟩
 ·cases e:M b with
  |some o'=>rw[hle b o' e]at hb;cases hb;exact hm.imm b _ e
  |none=>exact(hnew b ob e hb).2
 ·rcases hobj t x hx with⟨rfl,rfl⟩|⟨_,hy⟩
  ·trivial
  ·exact(hm.own t x hy).mono hle ρ.le_refl rfl fun _ _ _ _=>rfl
 ·rcases hobj t x hx with⟨rfl,rfl⟩|⟨hne,hy⟩
  ·cases hlx
  ·have h0:=hm.seps t x p b hy hlx hp hb;cases e:M2 b with
   |none=>rfl
   |some ob=>obtain⟨⟨p2,q1,q2⟩,_⟩:=hnew _ _ h0 e;exact absurd (hm.diss t k x _ p p2 b hy ho hlx hl hp q1 hb (.inl q2)) hne
 ·rcases hobj t x hx with⟨rfl,rfl⟩|⟨_,hy⟩
  ·cases hlx
  ·rcases hobj t' x' hx' with⟨rfl,rfl⟩|⟨_,hy'⟩
   ·cases hlx'
   ·exact hm.diss t t' x x' p p' b hy hy' hlx hlx' hp hp' hbk hbk'
 ·rcases hobj t x hx with⟨rfl,rfl⟩|⟨hne,hy⟩
  ·cases hlx
  ·exact hm.lts t x p b hy hlx hp hb
 ·obtain⟨⟨p,q1,q2⟩,_⟩:=hnew b ob h0 h1;exact .inr ⟨k,_,p,ho,hl,q1,.inl q2⟩
 ·obtain⟨t,x,p,h1,h2,h3,h4⟩:=hb;rcases hobj t x h1 with⟨rfl,rfl⟩|⟨_,hy⟩
  ·cases h2
  ·exact .inr ⟨t,x,p,hy,h2,h3,h4⟩
 ·have hne:t≠k:=fun e=>hx (by rw[e];exact List.mem_cons_self);exact⟨⟨x,by rw[List.getElem?_set_ne (fun h=>hne h.symm)];exact hx2,hlx⟩,fun p hp=>⟨hp,fun _ _=>rfl⟩⟩
def Qcs(H:List Qa):SV→Option (SV×Nat×List Qa)
 |.sl k sz 0 n=>match H[k]? with
  |some (.tvec ty row l)=>match Nat.beq sz row.length with
   |true=>some (.pv (.tsl row l),k,H.set k .dead)
   |false=>none
  |_=>none
 |_=>none
def Qit(H:List Qa):SV→Bool
 |.sl k sz 0 n=>match H[k]? with
  |some (.tvec ty row l)=>decide (n=l.length)
  |_=>true
 |_=>true
theorem Zag{M:Qc}{ρ:Env}{H H':List Qa}{w:World}{x y:SV}{k:Nat}(hm:Mem M ρ H w)(h:Qcs H x=some (y,k,H'))(hc:Qit H x=true):
  H'.length=H.length∧∃M2,M.le M2∧Mem M2 ρ H' w∧(∀n,Fr M ρ H w M2 ρ H' w n [k] [])∧∀v,Qd M ρ v x→Qd M2 ρ v y:=by
 unfold Qcs at h;unfold Qit at hc;split at h
 ·rename_i k0 sz n;split at h
  ·rename_i ty row l ho;split at h
   ·rename_i e;have e:=Nat.eq_of_beq_eq_true e;subst e;cases h;simp only[ho,decide_eq_true_eq]at hc;subst hc;obtain⟨M2,h1,h2,h3,h4⟩:=hm.Zzs ho;exact⟨by simp,M2,h1,h2,h3,fun v hv=>.pv (h4 v hv)⟩
   ·cases h
  ·cases h
 ·cases h
def Zq3:PV→Option Ty
 |.lit (.string _)=>some .str
 |.lit (.int k _)=>some (.int k)
 |.lit (.bool _)=>some .bool
 |.tsl row _=>some (.seq row)
 |_=>none
def Qvg(H:List Qa)(x:SV):List Ty:=match x with
 |.sl d _ _ _=>match H[d]? with
  |some (.vec _ _ (r::_))=>match X4 Zq3 r with
   |some row=>row
   |none=>[]
  |_=>[]
 |_=>[]
def Kn(H:List Qa)(x:SV):List Qa:=asData H (Qvg H x) x
theorem Qwa{M:Qc}{ρ:Env}{H:List Qa}{w:World}(hm:Mem M ρ H w)(x:SV):Mem M ρ (Kn H x) w∧(∀n,Fr M ρ H w M ρ (Kn H x) w n [] [])∧(Kn H x).length=H.length:=by obtain⟨m1,h,m3⟩:=Qrj hm (Qvg H x) x;exact⟨m1,fun n=>⟨h.imm,h.new,h.own,h.same,h.grow,fun s o _ ht ho hl=>h.keep s o (List.getElem?_eq_some_iff.1 ho).1 ht ho hl,fun _ _ _=>rfl,h.io⟩,m3⟩
def Wt:List SV→List Qa→Bool×List SV×List Nat×List Qa
 |[],H=>(true,[],[],H)
 |x::xs,H=>match Qcs (Kn H x) x with
  |some q=>match Wt xs q.2.2 with
   |r=>(Qit (Kn H x) x&&r.1,q.1::r.2.1,q.2.1::r.2.2.1,r.2.2.2)
  |none=>match Wt xs H with
   |r=>(r.1,x::r.2.1,r.2.2.1,r.2.2.2)
theorem Qpj:∀{args:List SV} {M:Qc} {ρ:Env} {H:List Qa} {w:World},Mem M ρ H w→(Wt args H).1=true→
  (Wt args H).2.2.2.length = H.length ∧ (Wt args H).2.1.length = args.length ∧ ∃ M2,M.le M2 ∧ Mem M2 ρ (Wt args H).2.2.2 w ∧ (∀ n,Fr M ρ H w M2 ρ (Wt args H).2.2.2 w n (Wt args H).2.2.1 []) ∧
   ∀(i:Nat) (v:Value) (x y:SV),args[i]? =some x→(Wt args H).2.1[i]? =some y→Qd M ρ v x→Qd M2 ρ v y
 |[],M,ρ,H,w,hm,hc=>⟨rfl,rfl,M,M.le_refl,hm,fun n=>Fr.refl ..,fun i v x y hx=>by simp at hx⟩
 |x::xs,M,ρ,H,w,hm,hc=>by
  cases hs:Qcs (Kn H x) x with
  |some q=>
   obtain⟨y,k,H1⟩:=q;simp only[Wt,hs,Bool.and_eq_true]at hc⊢;obtain⟨m1,m2,m3⟩:=Qwa hm x;obtain⟨e1,M1,a1,a2,a3',a4⟩:=Zag m1 hs hc.1;have a3:∀n,Fr M ρ H w M1 ρ H1 w n [k] []:=fun n=>(m2 n).trans (a3' n) (fun z hz=>by cases hz) (fun z hz=>hz) (fun z hz=>by cases hz) (fun z hz=>by cases hz);obtain⟨e2,e3,M2,b1,b2,b3,b4⟩:=Qpj a2 hc.2;refine⟨e2.trans (e1.trans m3),by simp[e3],M2,Qc.le_trans a1 b1,b2,fun n=>(a3 n).trans (b3 n) (fun z hz=>?_) (fun z hz=>List.mem_cons_of_mem _ hz) (fun z hz=>by cases hz) (fun z hz=>hz),fun i v x' y' hx hy hv=>?_⟩
   ·rw[List.mem_singleton.1 hz];exact List.mem_cons_self
   ·cases i with
    |zero=>simp at hx hy;subst hx;subst hy;exact(a4 v hv).mono b1 ρ.le_refl
    |succ i=>exact b4 i v x' y' (by simpa using hx) (by simpa using hy) (hv.mono a1 ρ.le_refl)
  |none=>
   simp only[Wt,hs]at hc⊢;obtain⟨e2,e3,M2,b1,b2,b3,b4⟩:=Qpj (args:=xs) hm hc;refine⟨e2,by simp[e3],M2,b1,b2,b3,fun i v x' y' hx hy hv=>?_⟩;cases i with
   |zero=>simp at hx hy;subst hx;subst hy;exact hv.mono b1 ρ.le_refl
   |succ i=>exact b4 i v x' y' (by simpa using hx) (by simpa using hy) hv
def Ur(x:SV)(H:List Qa):Bool×SV×List Nat×List Qa:=match Qcs (Kn H x) x with
 |some q=>(Qit (Kn H x) x,q.1,[q.2.1],q.2.2)
 |none=>(true,x,[],H)
theorem Zpr{x:SV}{M:Qc}{ρ:Env}{H:List Qa}{w:World}(hm:Mem M ρ H w)(hc:(Ur x H).1=true):
  (Ur x H).2.2.2.length=H.length∧∃M2,M.le M2∧Mem M2 ρ (Ur x H).2.2.2 w∧(∀n,Fr M ρ H w M2 ρ (Ur x H).2.2.2 w n (Ur x H).2.2.1 [])∧∀v,Qd M ρ v x→Qd M2 ρ v (Ur x H).2.1:=by
 unfold Ur at hc⊢;cases hs:Qcs (Kn H x) x with
 |some q=>obtain⟨y,k,H1⟩:=q;simp only[hs]at hc⊢;obtain⟨m1,m2,m3⟩:=Qwa hm x;obtain⟨e1,M1,a1,a2,a3,a4⟩:=Zag m1 hs hc;exact⟨e1.trans m3,M1,a1,a2,fun n=>(m2 n).trans (a3 n) (fun z hz=>by cases hz) (fun z hz=>hz) (fun z hz=>by cases hz) (fun z hz=>by cases hz),a4⟩
 |none=>exact⟨rfl,M,M.le_refl,hm,fun n=>Fr.refl ..,fun v hv=>hv⟩
def Uv(x:SV)(H:List Qa):Bool×SV×List Nat×List Qa:=match x with
 |.agg l=>match Wt l H with
  |r=>(r.1,.agg r.2.1,r.2.2.1,r.2.2.2)
 |x=>Ur x H
theorem Zuj{x:SV}{M:Qc}{ρ:Env}{H:List Qa}{w:World}(hm:Mem M ρ H w)(hc:(Uv x H).1=true):
  (Uv x H).2.2.2.length=H.length∧∃M2,M.le M2∧Mem M2 ρ (Uv x H).2.2.2 w∧(∀n,Fr M ρ H w M2 ρ (Uv x H).2.2.2 w n (Uv x H).2.2.1 [])∧∀v,Qd M ρ v x→Qd M2 ρ v (Uv x H).2.1:=by
 unfold Uv at hc⊢;split at hc
 ·rename_i l;obtain⟨e1,e2,M2,b1,b2,b3,b4⟩:=Qpj hm hc;refine⟨e1,M2,b1,b2,b3,fun v hv=>?_⟩;cases hv with
  |agg cs _ hl h=>
   refine .agg cs _ (by rw[hl,e2]) fun i v y hv hy=>?_;obtain⟨x,hx⟩:∃x,l[i]? =some x:=by
    have:i<l.length:=by rw[←e2];exact(List.getElem?_eq_some_iff.1 hy).1
    exact⟨_,List.getElem?_eq_getElem this⟩
   exact b4 i v x y hx hy (h i v x hv hx)
 ·exact Zpr hm hc
def Y7:List SV→List Qa→Bool×List SV×List Nat×List Qa
 |[],H=>(true,[],[],H)
 |x::xs,H=>match Uv x H with
  |q=>match Y7 xs q.2.2.2 with
   |r=>(q.1&&r.1,q.2.1::r.2.1,q.2.2.1++r.2.2.1,r.2.2.2)
theorem Za7:∀{args:List SV} {M:Qc} {ρ:Env} {H:List Qa} {w:World},Mem M ρ H w→(Y7 args H).1=true→
  (Y7 args H).2.2.2.length = H.length ∧ (Y7 args H).2.1.length = args.length ∧ ∃ M2,M.le M2 ∧ Mem M2 ρ (Y7 args H).2.2.2 w ∧ (∀ n,Fr M ρ H w M2 ρ (Y7 args H).2.2.2 w n (Y7 args H).2.2.1 []) ∧
   ∀(i:Nat) (v:Value) (x y:SV),args[i]? =some x→(Y7 args H).2.1[i]? =some y→Qd M ρ v x→Qd M2 ρ v y
 |[],M,ρ,H,w,hm,hc=>⟨rfl,rfl,M,M.le_refl,hm,fun n=>Fr.refl ..,fun i v x y hx=>by simp at hx⟩
 |x::xs,M,ρ,H,w,hm,hc=>by
  simp only[Y7,Bool.and_eq_true]at hc⊢;obtain⟨e1,M1,a1,a2,a3,a4⟩:=Zuj hm hc.1;obtain⟨e2,e3,M2,b1,b2,b3,b4⟩:=Za7 a2 hc.2;refine⟨e2.trans e1,by simp[e3],M2,Qc.le_trans a1 b1,b2,fun n=>(a3 n).trans (b3 n) (fun z hz=>List.mem_append_left _ hz) (fun z hz=>List.mem_append_right _ hz) (fun z hz=>by cases hz) (fun z hz=>hz),fun i v x' y' hx hy hv=>?_⟩;cases i with
  |zero=>simp at hx hy;subst hx;subst hy;exact(a4 v hv).mono b1 ρ.le_refl
  |succ i=>exact b4 i v x' y' (by simpa using hx) (by simpa using hy) (hv.mono a1 ρ.le_refl)
theorem Yu.Zzx{P:Program}{g:Nat}{args:List SV}{H:List Qa}{K:Qn}(hc:(Y7 args H).1=true)
  (h:Yu P g (Y7 args H).2.1 (Y7 args H).2.2.2 fun r H' t f=>K r H' ((Y7 args H).2.2.1++t) f):Yu P g args H K:=by
 intro M ρ w vs hm hr;obtain⟨e1,e2,M2,b1,b2,b3,b4⟩:=Za7 hm hc;refine(h M2 ρ w vs b2 ⟨by rw[hr.1,e2],fun i v y hv hy=>?_⟩).mono ?_
 ·obtain⟨x,hx⟩:∃x,args[i]? =some x:=by
   have:i<args.length:=by rw[←e2];exact(List.getElem?_eq_some_iff.1 hy).1
   exact⟨_,List.getElem?_eq_getElem this⟩
  exact b4 i v x y hx hy (hr.2 i v x hv hx)
 ·rintro e w' ⟨v,r,H',M',ρ',t,f,he,hk,hs,hm',hf⟩
  rw[e1]at hf;exact⟨v,r,H',M',ρ',_,f,he,hk,hs,hm',(b3 _).trans hf (fun z hz=>List.mem_append_left _ hz) (fun z hz=>List.mem_append_right _ hz) (fun z hz=>by cases hz) (fun z hz=>hz)⟩
end Go.Sx
section
namespace Go.Sx
open Go
mutual
def SV.Zv(f:Nat→Option Nat):SV→SV
 |.ptr s sz i j=>match f s with
  |some t=>.ptr t sz i j
  |none=>.any
 |.sl s sz st n=>match f s with
  |some t=>.sl t sz st n
  |none=>.any
 |.mp s=>match f s with
  |some t=>.mp t
  |none=>.any
 |.yld s=>match f s with
  |some t=>.yld t
  |none=>.any
 |.slb s sz st n m=>match f s with
  |some t=>.slb t sz st n m
  |none=>.any
 |.agg l=>.agg (Vd f l)
 |.tup l=>.tup (Vd f l)
 |.fn g a b=>.fn g (Vd f a) (Vd f b)
 |.any=>.any
 |.pv p=>.pv p
def Vd(f:Nat→Option Nat):List SV→List SV
 |[]=>[]
 |x::xs=>x.Zv f::Vd f xs
end
theorem Qh5(f:Nat→Option Nat)(l:List SV):Vd f l=l.map (SV.Zv f):=by
 induction l with
 |nil=>rfl
 |cons x xs ih=>simp only[Vd,List.map_cons,ih]
theorem Qd.Zv{M M':Qc}{ρ ρ':Env}{f:Nat→Option Nat}(hM:M.le M')(hf:∀s t p,f s=some t→ρ s=some p→ρ' t=some p){v:Value}{x:SV}(h:Qd M ρ v x):Qd M' ρ' v (x.Zv f):=by
 induction h with
 |any v=>exact .any v
 |pv h=>exact .pv (h.mono hM)
 |agg cs l hl _ ih=>simp only[SV.Zv,Qh5];refine .agg cs _ (by simpa using hl) fun i v x hv hx=>?_;simp only[List.getElem?_map,Option.map_eq_some_iff]at hx;obtain⟨y,hy,rfl⟩:=hx;exact ih i v y hv hy
 |tup cs l hl _ ih=>simp only[SV.Zv,Qh5];refine .tup cs _ (by simpa using hl) fun i v x hv hx=>?_;simp only[List.getElem?_map,Option.map_eq_some_iff]at hx;obtain⟨y,hy,rfl⟩:=hx;exact ih i v y hv hy
 |ptr s sz i j k p hp hk=>
  simp only[SV.Zv];split
  ·rename_i t ht;exact .ptr t sz i j k p (hf s t p ht hp) hk
  ·exact .any _
 |sl s sz st n c k p hp hk hc hn h6=>
  simp only[SV.Zv];split
  ·rename_i t ht;exact .sl t sz st n c k p (hf s t p ht hp) hk hc hn h6
  ·exact .any _
 |slz s sz st a=>
  simp only[SV.Zv];split
  ·exact .slz _ sz st a
  ·exact .any _
 |mp s p hp=>
  simp only[SV.Zv];split
  ·rename_i t ht;exact .mp t p (hf s t p ht hp)
  ·exact .any _
 |yld s p hp=>
  simp only[SV.Zv];split
  ·rename_i t ht;exact .yld t p (hf s t p ht hp)
  ·exact .any _
 |slb s sz st n m _ hm ih=>
  simp only[SV.Zv]at ih⊢;cases e:f s with
  |some t=>rw[e]at ih;exact .slb t sz st n m ih hm
  |none=>exact .any _
 |fn g a b x y ha hb _ _ ih jh=>
  simp only[SV.Zv,Qh5];refine .fn g a b _ _ (by simpa using ha) (by simpa using hb) (fun i v s hv hs=>?_) (fun i v s hv hs=>?_)
  ·simp only[List.getElem?_map,Option.map_eq_some_iff]at hs;obtain⟨y,hy,rfl⟩:=hs;exact ih i v y hv hy
  ·simp only[List.getElem?_map,Option.map_eq_some_iff]at hs;obtain⟨y,hy,rfl⟩:=hs;exact jh i v y hv hy
def Qa.Zv(f:Nat→Option Nat):Qa→Qa
 |.mix ty sz rows=>.mix ty sz (rows.map (·.map (SV.Zv f)))
 |.tlnk ty row l r c x=>.tlnk ty row l r c (x.Zv f)
 |.nest ty ity row ll q=>.nest ty ity row ll (q.map fun x=>(x.1,x.2.Zv f))
 |.map es c=>.map (es.map fun e=>(e.1,e.2.1.Zv f,e.2.2)) c
 |.loop l=>.loop {l with T:=l.T.map (SV.Zv f)}
 |.mit m c s=>.mit (m.bind f) c s
 |o=>o
theorem Qdj(f:Nat→Option Nat)(o:Qa):(o.Zv f).live=o.live:=by cases o<;>rfl
theorem Qf.Zzv(f:Nat→Option Nat):∀(a:Qf) (x:a.El),(a.raw x).Zv f=a.raw x
 |.val t,x=>rfl
 |.agg row,x=>by
  have:∀l:List PV,Vd f (l.map .pv)=l.map .pv:=fun l=>by
   induction l with
   |nil=>rfl
   |cons x l ih=>simp only[List.map_cons,Vd,SV.Zv,ih]
  simp only[Qf.raw,SV.Zv,this]
theorem Qt.Zv{M M':Qc}{ρ ρ':Env}{w w':World}{s t:Nat}{f:Nat→Option Nat}{o:Qa}(hM:M.le M')(hf:∀s t p,f s=some t→ρ s=some p→ρ' t=some p)(hs:ρ' t=ρ s)
  (hw:∀p b,ρ s=some p→p.has b→w'.heap[b]? =w.heap[b]?) (h:Qt M ρ w s o):Qt M' ρ' w' t (o.Zv f):=by
 have hws:=hw;replace hw:∀p,ρ s=some p→w'.heap[p.block]? =w.heap[p.block]? :=fun p hp=>hws p _ hp p.self;cases o with
 |dead=>trivial
 |vec ty sz rows=>
  rcases h with⟨h1,h2⟩|⟨p,h1,h2⟩
  ·exact .inl ⟨hs.trans h1,h2⟩
  ·refine .inr ⟨p,hs.trans h1,?_⟩;obtain⟨cs,a1,a2,a3,a4,a5,a6⟩:=h2.ex;refine⟨cs,(hw p h1).trans a1,a2,a3,a4,fun i j x v hx hv=>?_,a6⟩;obtain⟨b1,b2,b3⟩:=a5 i j x v hx hv;refine⟨b1,b2,?_⟩;unfold Z4 at hx;simp only[Option.map_eq_some_iff]at hx;obtain⟨q,_,rfl⟩:=hx;cases b3 with
   |pv b3=>exact .pv (b3.mono hM)
 |tvec ty row l=>
  rcases h with⟨h1,h2⟩|⟨p,h1,h2⟩
  ·exact .inl ⟨hs.trans h1,h2⟩
  ·refine .inr ⟨p,hs.trans h1,?_⟩;obtain⟨cs,a1,a2,a3,a4,a5,a6⟩:=h2.ex;refine⟨cs,(hw p h1).trans a1,a2,a3,a4,fun i j x v hx hv=>?_,a6⟩;obtain⟨b1,b2,b3⟩:=a5 i j x v hx hv;refine⟨b1,b2,?_⟩;unfold Z4 at hx;simp only[Option.map_eq_some_iff]at hx;obtain⟨q,_,rfl⟩:=hx;cases b3 with
   |pv b3=>exact .pv (b3.mono hM)
 |mix ty sz rows=>
  rcases h with⟨h1,h2⟩|⟨p,h1,h2⟩
  ·exact .inl ⟨hs.trans h1,by simp[h2]⟩
  ·refine .inr ⟨p,hs.trans h1,?_⟩;obtain⟨cs,a1,a2,a3,a4,a5,a6⟩:=h2.ex;have key:∀i j x,Yq (rows.map (·.map (SV.Zv f))) i j=some x→∃y,Yq rows i j=some y∧x=y.Zv f:=fun i j x hx=>by unfold Yq at hx;simp only[List.getElem?_map,Option.bind_eq_some_iff,Option.map_eq_some_iff]at hx;obtain⟨r',⟨r,hr,rfl⟩,hx⟩:=hx;simp only[List.getElem?_map,Option.map_eq_some_iff]at hx;obtain⟨y,hy,rfl⟩:=hx;exact⟨y,by simp[Yq,hr,hy],rfl⟩
   refine⟨cs,(hw p h1).trans a1,a2,by simpa using a3,by simpa using a4,fun i j x v hx hv=>?_,fun i j x hx=>?_⟩
   ·obtain⟨y,hy,rfl⟩:=key i j x hx;obtain⟨b1,b2,b3⟩:=a5 i j y v hy hv;exact⟨by simpa using b1,b2,b3.Zv hM hf⟩
   ·obtain⟨y,hy,rfl⟩:=key i j x hx;simpa using a6 i j y hy
 |tlnk ty row l r c x=>
  rcases h with⟨h1,h2⟩|⟨p,h1,h2⟩
  ·exact .inl ⟨hs.trans h1,h2⟩
  ·refine .inr ⟨p,hs.trans h1,?_⟩;obtain⟨cs,a1,a2,a3,a4,a5,a6⟩:=h2.ex;refine⟨cs,(hw p h1).trans a1,a2,a3,a4,fun i j z v hz hv=>?_,fun i j z hz=>?_⟩
   ·obtain⟨y,hy,rfl,_⟩:=Qjm (f:=SV.Zv f) (fun _=>rfl) hz;obtain⟨b1,b2,b3⟩:=a5 i j y v hy hv;exact⟨b1,b2,b3.Zv hM hf⟩
   ·obtain⟨y,hy,_⟩:=Qjm (f:=SV.Zv f) (fun _=>rfl) hz;exact a6 i j y hy
 |nest ty ity row ll q=>
  rcases h with⟨h1,h2,h3⟩|⟨p,h1,h2⟩
  ·subst h3;exact .inl ⟨hs.trans h1,h2,rfl⟩
  refine .inr ⟨p,hs.trans h1,h2.goes hM rfl rfl rfl (fun b hb=>hws p b h1 hb) (by cases q<;>rfl) fun i x y v e1 e2 hr=>?_⟩;rw[e1]at e2;simp only[Option.map_some,Option.some.injEq,Prod.mk.injEq,true_and]at e2;subst e2;exact hr.Zv hM hf
 |map es clock=>obtain⟨p,arr,h1,h2,h3,h4⟩:=h;refine⟨p,arr,hs.trans h1,(hw p h1).trans h2,by simpa using h3,fun i k x b hi=>?_⟩;simp only[List.getElem?_map,Option.map_eq_some_iff]at hi;obtain⟨⟨k',x',b'⟩,he,hq⟩:=hi;simp only[Prod.mk.injEq]at hq;obtain⟨rfl,rfl,rfl⟩:=hq;obtain⟨e,c1,c2,c3,c4⟩:=h4 i k' x' b' he;exact⟨e,c1,c2,c3,c4.Zv hM hf⟩
 |tmap k v l=>obtain⟨p,arr,h1,h2,h3,h4⟩:=h;refine⟨p,arr,hs.trans h1,(hw p h1).trans h2,h3,fun i kk x b hi=>?_⟩;obtain⟨e,c1,c2,c3,c4⟩:=h4 i kk x b hi;refine⟨e,c1,c2,c3,?_⟩;have:=c4.Zv hM hf;rw[Kq]at hi;simp only[Option.map_eq_some_iff,Prod.mk.injEq]at hi;obtain⟨y,_,_,rfl,_⟩:=hi;rwa[Qf.Zzv]at this
 |iter str pos=>obtain⟨p,h1,h2⟩:=h;exact⟨p,hs.trans h1,(hw p h1).trans h2⟩
 |loop l=>obtain⟨p,fn,tmps,q,h1,h2,h3,h4⟩:=h;refine⟨p,fn,tmps,q,hs.trans h1,(hw p h1).trans h2,h3,fun t x hx=>?_⟩;rw[TT.get_map,Option.map_eq_some_iff]at hx;obtain⟨y,hy,rfl⟩:=hx;exact(h4 t y hy).Zv hM hf
 |mit m c sn=>
  obtain⟨p,q,sn,h1,h2,h3,h4⟩:=h;refine⟨p,q,sn,hs.trans h1,(hw p h1).trans h2,h3,fun mm e=>?_⟩;cases m with
  |none=>cases e
  |some x=>have e:f x=some mm:=e;obtain⟨pm,a,b⟩:=h4 x rfl;exact⟨pm,hf x mm pm e a,b⟩
 |over st pd=>obtain⟨p,r,h1,h2,h3⟩:=h;exact⟨p,r,hs.trans h1,(hw p h1).trans h2,h3⟩
 |dfr shut=>obtain⟨p,h1,h2⟩:=h;exact⟨p,hs.trans h1,(hw p h1).trans h2⟩
end Go.Sx
end
section
namespace Go.Sx
open Go
theorem Qd.sim{M M':Qc}{ρ ρ':Env}(hM:M.le M')(hρ:Env.Qek [] ρ ρ'){v:Value}{x:SV}(h:Qd M ρ v x):Qd M' ρ' v x:=by have:=h.Vs hM hρ;rwa[SV.W6]at this
theorem Qt.sim{M M':Qc}{ρ ρ':Env}{w:World}{s:Nat}{o:Qa}(hM:M.le M')(hρ:Env.Qek [] ρ ρ')(hs:ρ' s=ρ s)(h:Qt M ρ w s o):Qt M' ρ' w s o:=by have:=h.Vs hM hρ hs (fun _ _ _ _=>rfl);rwa[Qa.W6]at this
theorem J3.pure{M M':Qc}{ρ ρ':Env}{w:World}{p:Place}{ty sz n:Nat}{rows:List (List PV)}{subs:List Nat}(hM:M.le M')(h:J3 M ρ w p ty sz n (Z4 rows)):J3 M' ρ' w ⟨p.block,p.cap,subs⟩ ty sz n (Z4 rows):=by
 obtain⟨cs,a1,a2,a3,a4,a5,a6⟩:=h.ex;refine⟨cs,a1,a2,a3,a4,fun i j x v hx hv=>?_,a6⟩;obtain⟨b1,b2,b3⟩:=a5 i j x v hx hv;refine⟨b1,b2,?_⟩;unfold Z4 at hx;simp only[Option.map_eq_some_iff]at hx;obtain⟨q,_,rfl⟩:=hx;cases b3 with
 |pv b3=>exact .pv (b3.mono hM)
theorem Mem.re{M:Qc}{ρ ρ':Env}{H H':List Qa}{w:World}(hm:Mem M ρ H w)(hown:∀s o,H'[s]? =some o→Qt M ρ' w s o)
  (hsrc:∀s o p b,H'[s]? =some o→o.live=true→ρ' s=some p→p.has b→∃s0 o0 p0,H[s0]? =some o0∧o0.live=true∧ρ s0=some p0∧p0.has b)
  (hdis:∀s s' o o' p p' b,H'[s]? =some o→H'[s']? =some o'→o.live=true→o'.live=true→ρ' s=some p→ρ' s'=some p'→p.has b→p'.has b→s=s')
  (hfresh:∀s,H'.length≤s→ρ' s=none):Mem M ρ' H' w:=
 ⟨hm.imm,hown,fun s o p b h1 h2 h3 h4=>let⟨s0,o0,p0,a,b',c,d⟩:=hsrc s o p b h1 h2 h3 h4;hm.seps s0 o0 p0 b a b' c d,hdis,hfresh,
  fun s o p b h1 h2 h3 h4=>let⟨s0,o0,p0,a,b',c,d⟩:=hsrc s o p b h1 h2 h3 (.inr h4);hm.Xv a b' c d⟩
theorem Fr.re{M:Qc}{ρ ρ':Env}{H H':List Qa}{w:World}{n:Nat}{t f:List Nat}
  (hsrc:∀s o p b,H'[s]? =some o→o.live=true→ρ' s=some p→p.has b→∃s0 o0 p0,H[s0]? =some o0∧o0.live=true∧ρ s0=some p0∧p0.has b)
  (hk:∀s o,s<n→s∉t→H[s]? =some o→o.live=true→(∃o',H'[s]? =some o'∧o'.live=true)∧ρ' s=ρ s) (hs:∀s,s<n→s∉f→ρ' s=ρ s):Fr M ρ H w M ρ' H' w n t f:=
 ⟨M.le_refl,fun b o h h'=>by(rw[h]at h';cases h'),fun b ⟨s,o,p,h1,h2,h3,h4⟩=>.inr (hsrc s o p b h1 h2 h3 h4),fun _ _ _=>rfl,Nat.le_refl _,
  fun s o h1 h2 h3 h4=>⟨(hk s o h1 h2 h3 h4).1,fun p hp=>⟨by rw[(hk s o h1 h2 h3 h4).2];exact hp,fun _ _=>rfl⟩⟩,hs,rfl,rfl⟩
theorem Qfk.sim{ρ ρ':Env}{marks:List Nat}{ds:List Deferred}(hρ:Env.Qek [] ρ ρ')(h:Qfk ρ marks ds):Qfk ρ' marks ds:=
 ⟨h.1,fun i d s hd hs=>let⟨p,h1,h2⟩:=h.2 i d s hd hs;let⟨p',g1,g2,_⟩:=hρ s p rfl h1;⟨p',g1,by rw[g2];exact h2⟩⟩
open Classical in
def TI.Zzq(b:Bool)(i:TI):TI:={i with row:=match b with
 |true=>none
 |false=>i.row}
def Cx.raw(e:Nat)(cx:Cx):Cx:={P:=cx.P,tab:=cx.tab.map fun x=>(x.1,x.2.Zzq (Nat.beq x.1 e)),fns:=cx.fns}
def Qlc(slot:Nat)(s:St):Option St:=match s.T.get slot with
 |some (.sl d sz st n)=>some {s with T:=s.T.set slot (.slb d sz st n n)}
 |_=>none
def Qke(slot:Nat)(s:St):Option St:=match s.T.get slot with
 |some (.slb d sz st n _)=>some {s with T:=s.T.set slot (.sl d sz st n)}
 |_=>none
theorem Zbc{R:Option Nat}{P:Program}{nt:Nat}{c:Code}{Q:Exit→St→Prop}{s:St}{slot:Nat}{x y:SV}(hx:s.T.get slot=some x)(hi:∀M ρ v,Qd M ρ v x→Qd M ρ v y)(h:Q9 R P nt c Q {s with T:=s.T.set slot y}):Q9 R P nt c Q s:=by
 refine Q9.Qej (s':={s with T:=s.T.set slot y}) (fun B M ρ a w hg=>⟨ρ,⟨fun t z hz=>?_,hg.sz,hg.mem,hg.df,hg.mks,hg.nle,hg.fix⟩,⟨Fr.refl ..,rfl,fun _ h=>h,fun _ h=>h⟩⟩) h;rcases TT.Wh _ _ _ _ _ hz with⟨rfl,rfl⟩|⟨_,hz⟩
 ·exact hi _ _ _ (hg.tm _ _ hx)
 ·exact hg.tm t z hz
theorem Zfe{R:Option Nat}{P:Program}{nt:Nat}{c:Code}{Q:Exit→St→Prop}{s s':St}{slot:Nat}(hs:Qlc slot s=some s')(h:Q9 R P nt c Q s'):Q9 R P nt c Q s:=by
 unfold Qlc at hs;split at hs
 ·rename_i d sz st n hx;cases hs;refine Zbc hx (fun M ρ v hr=>?_) h;refine .slb _ _ _ _ _ hr ?_;cases hr with
  |sl _ _ _ _ c k p hp hk hc hn h6=>exact⟨_,_,_,rfl,hn⟩
  |slz=>exact⟨_,_,_,rfl,Nat.le_refl _⟩
 ·cases hs
theorem Zqy{R:Option Nat}{P:Program}{nt:Nat}{c:Code}{Q:Exit→St→Prop}{s s':St}{slot:Nat}(hs:Qke slot s=some s')(h:Q9 R P nt c Q s'):Q9 R P nt c Q s:=by
 unfold Qke at hs;split at hs
 ·rename_i d sz st n m hx;cases hs;exact Zbc hx (fun M ρ v hr=>hr.unslb) h
 ·cases hs
end Go.Sx
end
section
namespace Go.Sx
open Go
end Go.Sx
end
section
namespace Go.Sx
open Go
inductive Q6 where
 |leaf
 |one (a:Q6)
 |two (a b:Q6)
 |loop (τ:Qi) (l:Yw) (f:Yn) (F:Nat) (a:Q6)
 |join (l:Yw) (f:Yn) (a:Q6)
 |virt (slot ty:Nat) (row:List Ty) (a:Q6)
 |sealing (k ty:Nat) (row:List Ty) (a:Q6)
 |within (l:List (Nat×Q6))
 |virtF (ob col ty:Nat) (row:List Ty) (a:Q6)
 |trunc (slot:Nat) (a:Q6)
 |weak (k:Nat) (keep:List Nat) (a:Q6)
 |typ (k ty:Nat) (row:List Ty) (a:Q6)
 |phase (τ:Qi) (l:Yw) (f:Yn) (F:Nat) (a b:Q6)
 |low
 |slb (slot:Nat) (a:Q6)
 |unslb (slot:Nat) (a:Q6)
def Q6.fst:Q6→Q6
 |.one a=>a
 |.two a _=>a
 |_=>.leaf
def Q6.snd:Q6→Q6
 |.two _ b=>b
 |_=>.leaf
structure Sm where
 pre:List SV→List Qa→Bool
 run:(X:Type)→List SV→List Qa→KO X→Option X
structure Qbz (cx:Cx) (g:Nat) (sm:Sm):Prop where
 fn:∃fn,cx.fns.lookup g=some fn
 ok:∀(X:Type) (args:List SV) (H:List Qa) (k:KO X) (y:X),sm.run X args H k=some y→Yu cx.P g args H fun x H' t f=>k x H' t f=some y
structure Lx where
 ext:List (Nat×Sm)
 anns:List (Nat×Q6)
 still:List Nat
 unk:Option (Nat→Sm):=none
def Sm.first:List (Nat×Sm)→Nat→(X:Type)→List SV→List Qa→KO X→Option X
 |[],_,_,_,_,_=>none
 |q::l,g,X,args,H,k=>match Nat.beq q.1 g with
  |false=>Sm.first l g X args H k
  |true=>match q.2.pre args H with
   |true=>q.2.run X args H k
   |false=>Sm.first l g X args H k
def Lx.has(l:List (Nat×Sm))(g:Nat)(args:List SV)(H:List Qa):Bool:=l.any fun q=>match Nat.beq q.1 g with
 |true=>q.2.pre args H
 |false=>false
structure Lx.Ok (cx:Cx) (lx:Lx):Prop where
 ext:∀q∈lx.ext,Qbz cx q.1 q.2
 unk:lx.unk=none
theorem Sm.Qmo{cx:Cx}:∀{l:List (Nat×Sm)} (_:∀q∈l,Qbz cx q.1 q.2) {g:Nat} {X:Type} {args:List SV} {H:List Qa} {k:KO X} {y:X},Sm.first l g X args H k=some y→(∃fn,cx.fns.lookup g=some fn)∧Yu cx.P g args H fun x H' t f=>k x H' t f=some y
 |[],_,g,X,args,H,k,y,h=>by cases h
 |q::l,hl,g,X,args,H,k,y,h=>by
  simp only[Sm.first]at h;split at h
  ·exact Sm.Qmo (fun q hq=>hl q (List.mem_cons_of_mem _ hq)) h
  ·rename_i e;have e:=Nat.eq_of_beq_eq_true e;subst e;split at h
   ·have:=hl q List.mem_cons_self;exact⟨this.fn,this.ok X args H k y h⟩
   ·exact Sm.Qmo (fun q hq=>hl q (List.mem_cons_of_mem _ hq)) h
abbrev Xs:=(X:Type)→(X→X→Bool)→Q6→Bool→Nat→Code→St→KX X→Option X
def Vw(cx:Cx)(rec:Xs):Prop:=∀(X:Type) (eq:X→X→Bool) (_:Yg eq) R an top nt c s (k:KX X) (y:X),(top=true→R=none)→rec X eq an top nt c s k=some y→Q9 R cx.P nt c (fun e s'=>k e s'=some y) s
section
variable {X:Type}
def Qnr(z:Bool)(H:List Qa)(r:SV)(H':List Qa)(t g:List Nat)(k:KO X):Option X:=
 match g.isEmpty&&(Nat.ble H.length H'.length&&((z||r.free H.length)&&Qj4 H.length H' t))with
 |true=>match Qep H' H.length 1000 r with
  |some r'=>k r' (Kb t H H') t []
  |none=>k r H' t g
 |false=>k r H' t g
theorem Zxa{z:Bool}{H:List Qa}{r:SV}{H':List Qa}{t g:List Nat}{k:KO X}{y:X}(h:Qnr z H r H' t g k=some y):Left H (fun x H' t f=>k x H' t f=some y) r H' t g:=by
 unfold Qnr at h;split at h
 ·rename_i e;simp only[Bool.and_eq_true,List.isEmpty_iff]at e;split at h
  ·rename_i r' hr';exact .inl ⟨e.1,Nat.le_of_ble_eq_true e.2.1,fun s hs o ho _=>Qsp e.2.2.2 s hs o ho,r',1000,hr',h⟩
  ·exact .inr h
 ·exact .inr h
def Un(cx:Cx)(s:St):List ResultVar→(List SV→Option X)→Option X
 |[],k=>k []
 |.tmp t::rs,k=>Un cx s rs fun l=>k (s.ev (.tmp t)::l)
 |.cell a t::rs,k=>(Qaf cx.tab s.H t (s.ev (.tmp a))).Wg (fun _ _=>false) (fun x=>Un cx s rs fun l=>k (x::l)) fun x _ _ _=>Un cx s rs fun l=>k (x::l)
theorem Qbj{cx:Cx}{s:St}{y:X}:∀(rs:List ResultVar) (k:List SV→Option X),Un cx s rs k=some y→Vj cx s rs fun l=>k l=some y
 |[],k,h=>h
 |.tmp t::rs,k,h=>Qbj rs _ h
 |.cell a t::rs,k,h=>Qj.Qao (fun _ _ h=>by cases h) (fun x h=>Qbj rs _ h) (fun x _ _ _ h=>Qbj rs _ h) h
def Qhf:Exit→Bool
 |.normal=>true
 |.ret=>true
 |_=>false
theorem Qh4{e:Exit}(h:Qhf e=true):e=.normal∨e=.ret:=by
 cases e with
 |normal=>exact .inl rfl
 |ret=>exact .inr rfl
 |_=>cases h
def Qyl(cx:Cx)(fn:Func)(z:Bool)(H:List Qa)(k:KO X):KX X:=fun e s=>
 gd (Qhf e&&(s.marks.isEmpty||Nat.ble H.length s.H.length)) (match shut s.marks s.H with
  |none=>none
  |some H'=>Un cx {s with H:=H',marks:=[]} fn.results.toList fun l=>Qnr z H (Y0 l) H' s.tch s.fg k)
theorem Zkd{cx:Cx}{fn:Func}{z:Bool}{H:List Qa}{k:KO X}{e:Exit}{s:St}{y:X}(h:Qyl cx fn z H k e s=some y):
  (e = .normal ∨ e = .ret) ∧ (H.length ≤ s.H.length ∨ s.marks = []) ∧ ∃ H',shut s.marks s.H = some H' ∧ Vj cx { s with H := H',marks := [] } fn.results.toList fun l =>
   Left H (fun x H' t f=>k x H' t f=some y) (Y0 l) H' s.tch s.fg:=by
 obtain⟨hc,h⟩:=Ya h;simp only[Bool.and_eq_true,Bool.or_eq_true,List.isEmpty_iff]at hc;split at h
 ·cases h
 ·rename_i H' hs;exact⟨Qh4 hc.1,hc.2.symm.imp (fun h=>Nat.le_of_ble_eq_true h) id,H',hs,Qac _ _ _ (fun l hl=>Zxa hl) (Qbj _ _ h)⟩
def Qdu(rec:Xs)(eq:X→X→Bool)(ab:Q6)(s:Nat)(args:List SV)(H:List Qa)(k:KO X):Option X:=
 match H[s]? with
 |some (.loop L)=>gd (Nat.beq L.params.toList.length args.length&&L.params.toList.all fun p=>Nat.blt p L.nt) (rec X eq .leaf false L.nt L.assign (Ql3 L args H) fun e s1=>match e with
  |.normal=>gd (!s1.fg.contains s&&Nat.ble H.length s1.H.length) (match s1.H[s]? with
   |some (.loop L1)=>gd (isReady L1.state&&L1.pending.isNone) (rec X eq ab false L.nt L.body (Ke s L1 s1) fun e s2=>match Qna e with
    |none=>none
    |some jump=>gd (!s2.fg.contains s&&Nat.ble H.length s2.H.length) (match s2.H[s]? with
     |some (.loop L2)=>k (.lit (.bool jump.isNone)) (Qod s L2 jump s2.H) (Qtp s jump s2.tch) s2.fg
     |_=>none))
   |_=>none)
  |_=>none)
 |_=>none
theorem Qu9{cx:Cx}{rec:Xs}(hrec:Vw cx rec){eq:X→X→Bool}(he:Yg eq){ab:Q6}{s:Nat}{args:List SV}{H:List Qa}{k:KO X}{y:X}
  (h:Qdu rec eq ab s args H k=some y):Uw cx.P s args H fun x H' t f=>k x H' t f=some y:=by
 unfold Qdu at h;split at h
 ·rename_i L hH;obtain⟨hc,h⟩:=Ya h;rw[Bool.and_eq_true]at hc;refine Zwx hH (Nat.eq_of_beq_eq_true hc.1) hc.2 fun R=>?_;refine(hrec X eq he R _ false _ _ _ _ y (fun e=>by cases e) h).mono fun e s1 h1=>?_;cases e with
  |normal=>
   obtain⟨hc1,h1⟩:=Ya h1;rw[Bool.and_eq_true]at hc1;split at h1
   ·rename_i L1 hL1;obtain⟨hc2,h1⟩:=Ya h1;rw[Bool.and_eq_true]at hc2;refine⟨rfl,Qgx hc1.1,Nat.le_of_ble_eq_true hc1.2,L1,hL1,Zxx hc2.1,Option.isNone_iff_eq_none.1 hc2.2,?_⟩;refine(hrec X eq he R _ false _ _ _ _ y (fun e=>by cases e) h1).mono fun e s2 h2=>?_;cases hj:Qna e with
    |none=>simp only[hj]at h2;cases h2
    |some jump=>
     simp only[hj]at h2;obtain⟨hc3,h2⟩:=Ya h2;rw[Bool.and_eq_true]at hc3;split at h2
     ·rename_i L2 hL2;exact⟨jump,rfl,Qgx hc3.1,Nat.le_of_ble_eq_true hc3.2,L2,hL2,h2⟩
     ·cases h2
   ·cases h1
  |_=>cases h1
 ·cases h
def Lx.Zcj(lx:Lx)(g n:Nat):Option Q6:=match lx.anns.lookup (g+10000000*(n+1))with
 |some a=>some a
 |none=>lx.anns.lookup g
def Qin(lx:Lx)(g:Nat)(args:List SV)(H:List Qa)(k:KO X):Option X:=match Y7 args H with
 |(c,as,S,H1)=>gd c (match Lx.has lx.ext g as H1 with
  |true=>Sm.first lx.ext g X as H1 fun x H' t f=>k x H' (S++t) f
  |false=>match lx.unk with
   |some f=>(f g).run X as H1 fun x H' t f=>k x H' (S++t) f
   |none=>none)
theorem Zit{cx:Cx}{lx:Lx}(hlx:lx.Ok cx){g:Nat}{args:List SV}{H:List Qa}{k:KO X}{y:X}(h:Qin lx g args H k=some y):
  (∃fn,cx.fns.lookup g=some fn)∧Yu cx.P g args H fun x H' t f=>k x H' t f=some y:=by
 unfold Qin at h;obtain⟨hc,h⟩:=Ya (c:=(Y7 args H).1) (x:=match Lx.has lx.ext g (Y7 args H).2.1 (Y7 args H).2.2.2 with
  |true=>Sm.first lx.ext g X (Y7 args H).2.1 (Y7 args H).2.2.2 fun x H' t f=>k x H' ((Y7 args H).2.2.1++t) f
  |false=>match lx.unk with
   |some f=>(f g).run X (Y7 args H).2.1 (Y7 args H).2.2.2 fun x H' t f=>k x H' ((Y7 args H).2.2.1++t) f
   |none=>none) h
 split at h
 ·obtain⟨h1,h2⟩:=Sm.Qmo hlx.ext h;exact⟨h1,Yu.Zzx hc h2⟩
 ·rw[hlx.unk]at h;cases h
def Vx(cx:Cx)(lx:Lx)(rec:Xs)(eq:X→X→Bool):Wz X
 |true,s,args,H,k=>match lx.anns.lookup (1000000+s)with
  |some a=>Qdu rec eq a s args H k
  |none=>match lx.unk with
   |some f=>(f (1000000+s)).run X args H k
   |none=>Qdu rec eq .leaf s args H k
 |false,g,args,H,k=>
  match lx.Zcj g H.length with
  |some a=>walkO a g args H k
  |none=>match lx.anns.lookup (2000000+g)with
   |some _=>Qin lx g args H k
   |none=>match Lx.has lx.ext g args H with
    |true=>Sm.first lx.ext g X args H k
    |false=>match lx.unk with
     |some f=>(f g).run X args H k
     |none=>walkO .leaf g args H k
where walkO (a:Q6) (g:Nat) (args:List SV) (H:List Qa) (k:KO X):Option X:=match cx.fns.lookup g with
 |none=>none
 |some fn=>match fn.body with
  |none=>none
  |some c=>gd (Nat.ble args.length fn.ntmps) (rec X eq a true fn.ntmps c (.entry args H) (Qyl cx fn (lx.still.contains g) H k))
theorem Qyg{cx:Cx}(hcx:cx.Ok){lx:Lx}{rec:Xs}(hrec:Vw cx rec){eq:X→X→Bool}(he:Yg eq){a:Q6}{g:Nat}{args:List SV}{H:List Qa}{k:KO X}{y:X}(h:Vx.walkO cx lx rec eq a g args H k=some y):
  (∃fn,cx.fns.lookup g=some fn)∧Yu cx.P g args H fun x H' t f=>k x H' t f=some y:=by
 unfold Vx.walkO at h;split at h
 ·cases h
 ·rename_i fn hfn;split at h
  ·cases h
  ·rename_i c hb;obtain⟨hc,h⟩:=Ya h;refine⟨⟨fn,hfn⟩,?_⟩;exact Yu.leave (Qh9 hcx hfn hb (Nat.le_of_ble_eq_true hc) ((hrec X eq he none _ true _ _ _ _ y (fun _=>rfl) h).mono fun e s hs=>Zkd hs))
theorem Zaq{cx:Cx}(hcx:cx.Ok){lx:Lx}(hlx:lx.Ok cx){rec:Xs}(hrec:Vw cx rec){eq:X→X→Bool}(he:Yg eq):Wz.Ok cx (Vx cx lx rec eq):=by
 refine⟨fun g args H k y h=>?_,fun s args H k y h=>?_⟩
 ·have h:(match lx.Zcj g H.length with
   |some a=>Vx.walkO cx lx rec eq a g args H k
   |none=>match lx.anns.lookup (2000000+g)with
    |some _=>Qin lx g args H k
    |none=>match Lx.has lx.ext g args H with
     |true=>Sm.first lx.ext g X args H k
     |false=>match lx.unk with
      |some f=>(f g).run X args H k
      |none=>Vx.walkO cx lx rec eq .leaf g args H k)=some y:=h
  split at h
  ·exact Qyg hcx hrec he h
  ·split at h
   ·exact Zit hlx h
   split at h
   ·exact Sm.Qmo hlx.ext h
   ·rw[hlx.unk]at h;exact Qyg hcx hrec he h
 ·have h:(match lx.anns.lookup (1000000+s)with
   |some a=>Qdu rec eq a s args H k
   |none=>match lx.unk with
    |some f=>(f (1000000+s)).run X args H k
    |none=>Qdu rec eq .leaf s args H k)=some y:=h
  split at h
  ·exact Qu9 hrec he h
  ·rw[hlx.unk]at h;exact Qu9 hrec he h
def Qxl(cb:Wz X)(rec:Xs)(eq:X→X→Bool)(nt:Nat)(g:Operand)(ps:Array Tmp)(assign body:Code)(s:St)(k:KX X):Option X:=
 gd (Nat.ble s.n0 s.H.length) (match Qjy (s.ev g) (.yld (s.H.length+1))with
 |none=>none
 |some (gf,args)=>cb false gf args (Ql5 s nt ps assign body) fun r H' t f=>
  gd ((!f.contains s.H.length&& !f.contains (s.H.length+1))&&((s.marks.all fun m=>!f.contains m&&Nat.blt m s.H.length)&&Nat.ble s.n0 H'.length)) (match loopAt H'[s.H.length+1]? with
  |some (st,pd)=>gd (Qub st) (match pd with
   |none=>k .normal (Vz s none H' t f)
   |some c=>rec X eq .leaf true nt c (Vz s (some c) H' t f) k)
  |none=>none))
theorem Zfl{cx:Cx}(hcx:cx.Ok){cb:Wz X}(hcb:cb.Ok cx){rec:Xs}(hrec:Vw cx rec){eq:X→X→Bool}(he:Yg eq){nt:Nat}{g:Operand}{ps:Array Tmp}{assign body:Code}{s:St}{k:KX X}{y:X}
  (h:Qxl cb rec eq nt g ps assign body s k=some y):Q9 none cx.P nt (.rangeFunc g ps assign body) (fun e s'=>k e s'=some y) s:=by
 obtain⟨hn,h⟩:=Ya h;cases ht:Qjy (s.ev g) (.yld (s.H.length+1))with
 |none=>simp only[ht]at h;cases h
 |some q=>
  obtain⟨gf,args⟩:=q;simp only[ht]at h;obtain⟨⟨fn,hfn⟩,h⟩:=hcb.ok _ _ _ _ _ h;refine Zyt hcx (Nat.le_of_ble_eq_true hn) ht hfn (h.mono fun r H' t f h=>?_);obtain⟨hc,h⟩:=Ya h;simp only[Bool.and_eq_true]at hc;obtain⟨⟨h1,h2⟩,h3,h4⟩:=hc;split at h
  ·rename_i st pd hL;obtain⟨hc5,h⟩:=Ya h;refine⟨Qgx h1,Qgx h2,fun m hm=>?_,Nat.le_of_ble_eq_true h4,st,pd,hL,Zqx hc5,?_⟩
   ·have:=List.all_eq_true.1 h3 m hm;simp only[Bool.and_eq_true]at this;exact⟨Qgx this.1,Ky this.2⟩
   ·split at h
    ·exact h
    ·exact hrec X eq he none _ true _ _ _ _ y (fun _=>rfl) h
  ·cases h
def Qzp(rec:Xs)(l:Yw)(f:Yn)(an:Q6)(top:Bool)(nt:Nat)(c:Code)(s:St)(k:KX X):Option X:=
 gd (s.marks.isEmpty&&(f.ok&&Vu f l)) (match rec (Zj l) (Zj.eqv l) an top nt c s.sub (fun e s'=>Wy f s.H.length l e s')with
  |some x=>Qfb f s l x fun e s1=>k e (s.outer s1)
  |none=>none)
theorem Zvp{cx:Cx}{rec:Xs}(hrec:Vw cx rec){l:Yw}{f:Yn}{an:Q6}{R:Option Nat}{top:Bool}{nt:Nat}{c:Code}{s:St}{k:KX X}{y:X}(ht:top=true→R=none)
  (h:Qzp rec l f an top nt c s k=some y):Q9 R cx.P nt c (fun e s'=>k e s'=some y) s:=by
 obtain⟨hc,h⟩:=Ya h;simp only[Bool.and_eq_true,List.isEmpty_iff]at hc;split at h
 ·rename_i x hx;rw[Qe8]at h;exact Zf9 hc.1 hc.2.1 hc.2.2 (hrec _ _ (Zj.eqv_ok l) R _ top _ _ _ _ x ht hx) h
 ·cases h
def Qdw:Exit→Bool
 |.normal=>true
 |_=>false
def Qjf(rec:Xs)(τ:Qi)(l:Yw)(f:Yn)(F:Nat)(an:Q6)(top:Bool)(nt:Nat)(c:Code)(s:St)(k:KX X):Option X:=
 gd (s.marks.isEmpty&&(f.ok&&(Vu f l&&(τ.J1 (f.of τ)&&l.all fun a=>!Qdw a.1)))) (match J7 τ f s.H.length s.sub with
  |some x0=>match Qu (fun x=>rec (τ.El ⊕ Zj l) (Qct (Z0.eqv τ.cells) (Zj.eqv l)) an top nt c (τ.st f.D (f.of τ) f.mv s x) (Qgt f s.H.length τ l)) F x0 with
   |some y=>Qfb f s l y fun e s1=>k e (s.outer s1)
   |none=>none
  |none=>none)
def Qnz(rec:Xs)(top:Bool)(nt:Nat)(c:Code):Q6→St→KX X→Option X
 |.loop τ l f F a,s,k=>Qjf rec τ l f F a top nt c s k
 |.phase τ l f F a b,s,k=>gd (s.marks.isEmpty&&(f.ok&&(Vu f l&&τ.J1 (f.of τ)))) (match J7 τ f s.H.length s.sub with
  |some x0=>match Qu (fun x=>rec (τ.El ⊕ Zj l) (Qct (Z0.eqv τ.cells) (Zj.eqv l)) a top nt c (τ.st f.D (f.of τ) f.mv s x) (Qp5 f s.H.length τ l)) F x0 with
   |some y=>Qfb f s l y fun e s1=>match Qdw e with
    |true=>Qnz rec top nt c b (s.outer s1) k
    |false=>k e (s.outer s1)
   |none=>none
  |none=>none)
 |_,_,_=>none
theorem Qqe{f:Yn}{s:St}:∀{l:Yw} (x:Zj l),(l.all fun a=>!Qdw a.1)=true→(Xh f s l x).1≠.normal
 |[],x,_=>Empty.elim x
 |[a],x,h=>by simp only[List.all_cons,List.all_nil,Bool.and_true,Bool.not_eq_true']at h;intro e;simp only[Xh]at e;rw[e]at h;cases h
 |a::a'::l,.inl x,h=>by simp only[List.all_cons,Bool.and_eq_true,Bool.not_eq_true']at h;intro e;simp only[Xh]at e;rw[e]at h;cases h.1
 |a::a'::l,.inr x,h=>by
  have h':((a'::l).all fun a=>!Qdw a.1)=true:=by simp only[List.all_cons,Bool.and_eq_true]at h⊢;exact h.2
  simp only[Xh];exact Qqe x h'
theorem Zks{cx:Cx}{rec:Xs}(hrec:Vw cx rec){τ:Qi}{l:Yw}{f:Yn}{F:Nat}{an:Q6}{R:Option Nat}{top:Bool}{nt:Nat}{c:Code}{s:St}{k:KX X}{y:X}(ht:top=true→R=none)
  (h:Qjf rec τ l f F an top nt c s k=some y):Q9 R cx.P nt (.loop c) (fun e s'=>k e s'=some y) s:=by
 obtain⟨hc,h⟩:=Ya h;simp only[Bool.and_eq_true,List.isEmpty_iff]at hc;obtain⟨c1,c2,c3,c4,c5⟩:=hc;split at h
 ·rename_i x0 hx0;split at h
  ·rename_i z hz;rw[Qe8]at h;exact Zk7 c1 c2 c3 c4 (fun x r hr=>hrec _ _ (Qlr (Z0.eqv_ok _) (Zj.eqv_ok _)) R _ top _ _ _ _ r ht hr) hx0 hz (Qqe z c5) h
  ·cases h
 ·cases h
theorem Zvm{cx:Cx}{rec:Xs}(hrec:Vw cx rec){τ:Qi}{l:Yw}{f:Yn}{F:Nat}{an:Q6}{R:Option Nat}{top:Bool}{nt:Nat}{c:Code}{s:St}{k:KX X}{y:X}(ht:top=true→R=none)
  (h:Qjf rec τ l f F an top nt c s k=some y):Qcr R cx.P nt c (fun e s'=>k e s'=some y) s:=by
 obtain⟨hc,h⟩:=Ya h;simp only[Bool.and_eq_true,List.isEmpty_iff]at hc;obtain⟨c1,c2,c3,c4,c5⟩:=hc;split at h
 ·rename_i x0 hx0;split at h
  ·rename_i z hz;rw[Qe8]at h;exact Qzn (fun e s' r h=>Zhd h) c1 c2 c3 c4 (fun x r hr=>hrec _ _ (Qlr (Z0.eqv_ok _) (Zj.eqv_ok _)) R _ top _ _ _ _ r ht hr) hx0 hz (fun hn=>absurd hn (Qqe z c5)) (fun _=>h)
  ·cases h
 ·cases h
theorem Zo9{e:Exit}(h:Qdw e=true):e=.normal:=by cases e<;>first|rfl|cases h
theorem Qyw{cx:Cx}{rec:Xs}(hrec:Vw cx rec){R:Option Nat}{top:Bool}{nt:Nat}{c:Code}{k:KX X}{y:X}(ht:top=true→R=none):∀(an:Q6) (s:St),Qnz rec top nt c an s k=some y→Qcr R cx.P nt c (fun e s'=>k e s'=some y) s
 |.loop τ l f F a,s,h=>Zvm hrec ht h
 |.phase τ l f F a b,s,h=>by
  obtain⟨hc,h⟩:=Ya h;simp only[Bool.and_eq_true,List.isEmpty_iff]at hc;obtain⟨c1,c2,c3,c4⟩:=hc;split at h
  ·rename_i x0 hx0;split at h
   ·rename_i z hz;rw[Qe8]at h;refine Qzn (fun e s' r h=>Ziy h) c1 c2 c3 c4 (fun x r hr=>hrec _ _ (Qlr (Z0.eqv_ok _) (Zj.eqv_ok _)) R _ top _ _ _ _ r ht hr) hx0 hz (fun hn=>?_) (fun hn=>?_)
    ·rw[hn]at h;exact Qyw hrec ht b _ h
    ·cases he:Qdw (Xh f s l z).1 with
     |true=>exact absurd (Zo9 he) hn
     |false=>rw[he]at h;exact h
   ·cases h
  ·cases h
 |.leaf,_,h=>by cases h
 |.one _,_,h=>by cases h
 |.two _ _,_,h=>by cases h
 |.join _ _ _,_,h=>by cases h
 |.virt _ _ _ _,_,h=>by cases h
 |.sealing _ _ _ _,_,h=>by cases h
 |.within _,_,h=>by cases h
 |.virtF _ _ _ _ _,_,h=>by cases h
 |.trunc _ _,_,h=>by cases h
 |.weak _ _ _,_,h=>by cases h
 |.typ _ _ _ _,_,h=>by cases h
 |.slb _ _,_,h=>by cases h
 |.unslb _ _,_,h=>by cases h
end
def Qeg(cx:Cx)(lx:Lx)(rec:Xs)(X:Type)(eq:X→X→Bool)(an:Q6)(top:Bool)(nt:Nat):Code→St→KX X→Option X
 |.skip,s,k=>k .normal s
 |.region _ ops draw,s,k=>match draw with
  |false=>Qba eq cx (Vx cx lx rec eq) nt ops ops.toList s (k .normal)
  |true=>gd (Region.noSelect ops) (Xt eq cx (Vx cx lx rec eq) nt ops (Ws true ops ops.size (Array.replicate ops.size false)) [] s (k .normal))
 |.seq a b,s,k=>rec X eq an.fst top nt a s fun e s'=>match e with
  |.normal=>rec X eq an.snd top nt b s' k
  |e=>k e s'
 |.cond c a b,s,k=>match s.ev c with
  |.pv (.lit (.bool t))=>match t with
   |true=>rec X eq an.fst top nt a s k
   |false=>rec X eq an.snd top nt b s k
  |_=>none
 |.block id c,s,k=>rec X eq an.fst top nt c s fun e s'=>match e with
  |.exit id'=>bif Nat.beq id' id then k .normal s' else k (.exit id') s'
  |e=>k e s'
 |.loop c,s,k=>rec X eq an.fst top nt c s fun e s'=>match e with
  |.normal=>rec X eq an top nt (.loop c) s' k
  |e=>k e s'
 |.rangeFunc g ps assign body,s,k=>match top with
  |true=>Qxl (Vx cx lx rec eq) rec eq nt g ps assign body s k
  |false=>none
 |.scope c,s,k=>match top with
  |true=>rec X eq an.fst true nt c s fun e s'=>match e with
   |.goto _=>none
   |e=>k e s'
  |false=>none
 |.exit id,s,k=>k (.exit id) s
 |.label _,s,k=>k .normal s
 |.ret,s,k=>k .ret s
 |_,_,_=>none
def Lx.more(lx:Lx)(l:List (Nat×Q6)):Lx:=match lx with
 |⟨ext,anns,still,unk⟩=>⟨ext,l++anns,still,unk⟩
theorem Lx.Ok.more{cx:Cx}{lx:Lx}(h:lx.Ok cx)(l:List (Nat×Q6)):(lx.more l).Ok cx:=⟨h.ext,h.unk⟩
def Zpc(cx:Cx)(lx:Lx)(rec:Xs):Xs:=fun X eq an top nt c s k=>match an with
 |.join l f a=>Qzp rec l f a top nt c s k
 |.virt slot ty row a=>match s.T.get slot with
  |some (.pv (.lit v))=>gd (Value.isNil v) (rec X eq a top nt c (Qge s slot ty row) k)
  |_=>rec X eq a top nt c s k
 |.sealing kk ty row a=>match Qki kk ty row s with
  |some p=>gd p.1 (rec X eq a top nt c p.2 k)
  |none=>none
 |.trunc slot a=>match Qlp s slot with
  |some s'=>rec X eq a top nt c s' k
  |none=>rec X eq a top nt c s k
 |.weak kk keep a=>rec X eq a top nt c (Qh3 kk keep s) k
 |.typ kk ty row a=>match Ql6 kk ty row s with
  |some s'=>rec X eq a top nt c s' k
  |none=>none
 |.low=>match c with
  |.region _ ops draw=>match draw with
   |false=>Qba eq cx.Km (Vx cx.Km lx rec eq) nt ops ops.toList s (k .normal)
   |true=>gd (Region.noSelect ops) (Xt eq cx.Km (Vx cx.Km lx rec eq) nt ops (Ws true ops ops.size (Array.replicate ops.size false)) [] s (k .normal))
  |_=>none
 |.slb slot a=>match Qlc slot s with
  |some s'=>rec X eq a top nt c s' k
  |none=>rec X eq a top nt c s k
 |.unslb slot a=>match Qke slot s with
  |some s'=>rec X eq a top nt c s' k
  |none=>rec X eq a top nt c s k
 |.virtF ob col ty row a=>match Qji s ob col ty row with
  |some s'=>rec X eq a top nt c s' k
  |none=>none
 |.within l=>match c with
  |.loop _=>none
  |c=>Qeg cx (lx.more l) rec X eq .leaf top nt c s k
 |.loop τ l f F a=>match c with
  |.loop body=>Qjf rec τ l f F a top nt body s k
  |_=>none
 |.phase τ l f F a b=>match c with
  |.loop body=>Qnz rec top nt body (.phase τ l f F a b) s k
  |_=>none
 |.leaf=>Qeg cx lx rec X eq .leaf top nt c s k
 |.one a=>Qeg cx lx rec X eq (.one a) top nt c s k
 |.two a b=>Qeg cx lx rec X eq (.two a b) top nt c s k
def Y8(cx:Cx)(lx:Lx):Nat→Xs
 |0=>fun _ _ _ _ _ _ _ _=>none
 |n+1=>Zpc cx lx (Y8 cx lx n)
def Q6.plain:Q6→Bool
 |.leaf=>true
 |.one _=>true
 |.two _ _=>true
 |_=>false
theorem Qh8{cx:Cx}(hcx:cx.Ok){lx:Lx}(hlx:lx.Ok cx):∀(n:Nat),Vw cx (Y8 cx lx n)∧
  (∀(X:Type) (eq:X→X→Bool) (_:Yg eq) R an top nt c s (k:KX X) (y:X),(top=true→R=none)→Y8 cx lx n X eq an top nt (.loop c) s k=some y→an.plain=true→
   Qfj R cx.P nt c (fun e s'=>k e s'=some y) n s)
 |0=>⟨fun X eq he R an top nt c s k y _ h=>(by cases h),fun X eq he R an top nt c s k y _ h=>(by cases h)⟩
 |n+1=>by
  obtain⟨ih1,ih2⟩:=Qh8 hcx hlx n;have loop:∀(X:Type) (eq:X→X→Bool) (_:Yg eq) R an top nt c s (k:KX X) (y:X),(top=true→R=none)→Y8 cx lx (n+1) X eq an top nt (.loop c) s k=some y→an.plain=true→
    Qfj R cx.P nt c (fun e s'=>k e s'=some y) (n+1) s:=by
   intro X eq he R an top nt c s k y ht h hp;have h:Qeg cx lx (Y8 cx lx n) X eq an top nt (.loop c) s k=some y:=by
    cases an with
    |leaf=>exact h
    |one a=>exact h
    |two a b=>exact h
    |_=>cases hp
   refine(ih1 X eq he R an.fst top nt c s _ y ht h).mono fun e s' hs=>?_;cases e with
   |normal=>exact⟨n,Nat.le_refl n,ih2 X eq he R an top nt c s' k y ht hs hp⟩
   |_=>exact hs
  refine⟨fun X eq he R an top nt c s k y ht h=>?_,loop⟩;have code:∀(lx':Lx),lx'.Ok cx→(an.plain=true∨∀b,c≠.loop b)→∀an':Q6,(an.plain=true→an'=an∧lx'=lx)→Qeg cx lx' (Y8 cx lx n) X eq an' top nt c s k=some y→Q9 R cx.P nt c (fun e s'=>k e s'=some y) s:=by
   intro lx' hlx' hp an' han hcode;have hcb:=Zaq hcx hlx' ih1 he;cases c with
   |skip=>exact Znv hcode
   |region id ops draw=>
    cases draw with
    |false=>exact Qvx hcx (Qhi he hcb _ _ _ hcode)
    |true=>obtain⟨h1,h2⟩:=Ya hcode;exact Qs1 hcx h1 (Uz he hcb _ _ _ _ h2)
   |seq a b=>
    refine Zvh ((ih1 X eq he R an'.fst top nt a s _ y ht hcode).mono fun e s' hs=>?_);cases e with
    |normal=>exact ih1 X eq he R an'.snd top nt b s' k y ht hs
    |_=>exact hs
   |cond c a b=>
    have hcode:(match s.ev c with
     |.pv (.lit (.bool t))=>match t with
      |true=>Y8 cx lx n X eq an'.fst top nt a s k
      |false=>Y8 cx lx n X eq an'.snd top nt b s k
     |_=>none)=some y:=hcode
    split at hcode
    ·rename_i t e;refine Zo0 e (fun hb=>?_) (fun hb=>?_)
     ·subst hb;exact ih1 X eq he R an'.fst top nt a s k y ht hcode
     ·subst hb;exact ih1 X eq he R an'.snd top nt b s k y ht hcode
    ·cases hcode
   |block id c=>
    refine Zfk ((ih1 X eq he R an'.fst top nt c s _ y ht hcode).mono fun e s' hs=>?_);cases e with
    |exit id'=>
     simp only[Qnn];by_cases e:id'=id
     ·rw[if_pos e];simp only[Qax e,cond_true]at hs;exact hs
     ·rw[if_neg e];simp only[Js e,cond_false]at hs;exact hs
    |_=>exact hs
   |loop c=>
    have hp:an.plain=true:=by
     rcases hp with hp|hp
     ·exact hp
     ·exact absurd rfl (hp c)
    obtain⟨rfl,rfl⟩:=han hp;refine Zf6 (loop X eq he R an' top nt c s k y ht ?_ hp);cases an' with
    |leaf=>exact hcode
    |one a=>exact hcode
    |two a b=>exact hcode
    |_=>cases hp
   |exit id=>exact Zun hcode
   |label l=>exact Zfx hcode
   |ret=>exact Zq1 hcode
   |rangeFunc g ps assign body=>
    cases top with
    |true=>have hR:=ht rfl;subst hR;exact Zfl hcx hcb ih1 he hcode
    |false=>cases hcode
   |scope c=>
    cases top with
    |true=>
     have hR:=ht rfl;subst hR;refine Zne ((ih1 X eq he none an'.fst true nt c s _ y ht hcode).mono fun e s' hs=>?_);cases e with
     |goto _=>cases hs
     |_=>exact hs
    |false=>cases hcode
   |goto _=>cases hcode
   |refuse _=>cases hcode
  cases an with
  |join l f a=>exact Zvp ih1 ht h
  |virt slot ty row a=>
   have h:(match s.T.get slot with
    |some (.pv (.lit v))=>gd (Value.isNil v) (Y8 cx lx n X eq a top nt c (Qge s slot ty row) k)
    |_=>Y8 cx lx n X eq a top nt c s k)=some y:=h
   split at h
   ·rename_i v hv;obtain⟨h1,h2⟩:=Ya h;exact Zuo hv h1 (ih1 X eq he R a top nt c _ k y ht h2)
   ·exact ih1 X eq he R a top nt c _ k y ht h
  |trunc slot a=>
   have h:(match Qlp s slot with
    |some s'=>Y8 cx lx n X eq a top nt c s' k
    |none=>Y8 cx lx n X eq a top nt c s k)=some y:=h
   split at h
   ·rename_i s' hs';exact Zku hs' (ih1 X eq he R a top nt c _ k y ht h)
   ·exact ih1 X eq he R a top nt c _ k y ht h
  |weak kk keep a=>exact Znr (ih1 X eq he R a top nt c _ k y ht h)
  |typ kk ty row a=>
   have h:(match Ql6 kk ty row s with
    |some s'=>Y8 cx lx n X eq a top nt c s' k
    |none=>none)=some y:=h
   split at h
   ·rename_i s' hs';exact Zte hs' (ih1 X eq he R a top nt c _ k y ht h)
   ·cases h
  |low=>
   cases c with
   |region id ops draw=>
    have hcx':cx.Km.Ok:=hcx.Km;have hlx':lx.Ok cx.Km:=⟨fun q hq=>let h:=hlx.ext q hq;⟨h.fn,h.ok⟩,hlx.unk⟩;have ih1':Vw cx.Km (Y8 cx lx n):=ih1;have hcb:=Zaq hcx' hlx' ih1' he;cases draw with
    |false=>exact Qvx hcx' (Qhi he hcb _ _ _ h)
    |true=>obtain⟨h1,h2⟩:=Ya h;exact Qs1 hcx' h1 (Uz he hcb _ _ _ _ h2)
   |_=>cases h
  |slb slot a=>
   have h:(match Qlc slot s with
    |some s'=>Y8 cx lx n X eq a top nt c s' k
    |none=>Y8 cx lx n X eq a top nt c s k)=some y:=h
   split at h
   ·rename_i s' hs';exact Zfe hs' (ih1 X eq he R a top nt c _ k y ht h)
   ·exact ih1 X eq he R a top nt c _ k y ht h
  |unslb slot a=>
   have h:(match Qke slot s with
    |some s'=>Y8 cx lx n X eq a top nt c s' k
    |none=>Y8 cx lx n X eq a top nt c s k)=some y:=h
   split at h
   ·rename_i s' hs';exact Zqy hs' (ih1 X eq he R a top nt c _ k y ht h)
   ·exact ih1 X eq he R a top nt c _ k y ht h
  |sealing kk ty row a=>
   have h:(match Qki kk ty row s with
    |some p=>gd p.1 (Y8 cx lx n X eq a top nt c p.2 k)
    |none=>none)=some y:=h
   split at h
   ·rename_i p hp;obtain⟨h1,h2⟩:=Ya h;exact Zee (cc:=p.1) (s':=p.2) hp h1 (ih1 X eq he R a top nt c _ k y ht h2)
   ·cases h
  |virtF ob col ty row a=>
   have h:(match Qji s ob col ty row with
    |some s'=>Y8 cx lx n X eq a top nt c s' k
    |none=>none)=some y:=h
   split at h
   ·rename_i s' hs';exact Zya hs' (ih1 X eq he R a top nt c _ k y ht h)
   ·cases h
  |within l=>
   cases c with
   |loop b=>cases h
   |_=>exact code (lx.more l) (hlx.more l) (.inr fun b e=>by cases e) .leaf (fun e=>by cases e) h
  |loop τ l f F a=>
   cases c with
   |loop body=>exact Zks ih1 ht h
   |_=>cases h
  |phase τ l f F a b=>
   cases c with
   |loop body=>exact(Qyw ih1 ht _ _ h).wp
   |_=>cases h
  |leaf=>exact code lx hlx (.inl rfl) .leaf (fun _=>⟨rfl,rfl⟩) h
  |one a=>exact code lx hlx (.inl rfl) (.one a) (fun _=>⟨rfl,rfl⟩) h
  |two a b=>exact code lx hlx (.inl rfl) (.two a b) (fun _=>⟨rfl,rfl⟩) h
end Go.Sx
end
namespace Go.Sx
open Go
def Qw:List Qf→Type
 |[]=>Unit
 |[a]=>a.El
 |a::a'::l=>a.El×Qw (a'::l)
def Qw.eqv:(l:List Qf)→Qw l→Qw l→Bool
 |[]=>Qcy
 |[a]=>a.eqv
 |a::a'::l=>V6 a.eqv (Qw.eqv (a'::l))
theorem Qw.eqv_ok:∀(l:List Qf),Yg (Qw.eqv l)
 |[]=>fun a b h=>rfl
 |[a]=>Qf.eqv_ok a
 |a::a'::l=>Qc9 (Qf.eqv_ok a) (Qw.eqv_ok (a'::l))
def Z5:(l:List Qf)→Qw l→List SV
 |[],_=>[]
 |[a],x=>[a.sv x]
 |a::a'::l,x=>a.sv x.1::Z5 (a'::l) x.2
def rdL(H:List Qa)(n:Nat):(l:List Qf)→List SV→Option (Bool×Qw l)
 |[]=>Qkg
 |[a]=>Qnb (rdA H n a)
 |a::a'::l=>Qcu (rdA H n a) (rdL H n (a'::l))
theorem Qd.Zz2{M:Qc}{ρ ρ2:Env}{v:Value}{x:SV}(h:Qd M ρ v x):x.free 0=true→Qd M ρ2 v x:=by
 have fl:∀(l:List SV),Jp 0 l=true→∀(i:Nat) (x:SV),l[i]? =some x→x.free 0=true:=by
  intro l;induction l with
  |nil=>intro _ i x h;simp at h
  |cons y l ih=>
   intro h i x hx;simp only[Jp,Bool.and_eq_true]at h;cases i with
   |zero=>simp at hx;subst hx;exact h.1
   |succ i=>exact ih h.2 i x (by simpa using hx)
 induction h with
 |any v=>intro _;exact .any v
 |pv h=>intro _;exact .pv h
 |agg cs l hl _ ih=>intro hf;exact .agg cs l hl fun i v x hv hx=>ih i v x hv hx (fl l hf i x hx)
 |tup cs l hl _ ih=>intro hf;exact .tup cs l hl fun i v x hv hx=>ih i v x hv hx (fl l hf i x hx)
 |fn f a b x y ha hb _ _ ih jh=>intro hf;simp only[SV.free,Bool.and_eq_true]at hf;exact .fn f a b x y ha hb (fun i v s hv hs=>ih i v s hv hs (fl x hf.1 i s hs)) (fun i v s hv hs=>jh i v s hv hs (fl y hf.2 i s hs))
 |ptr s=>intro hf;simp[SV.free]at hf
 |sl s=>intro hf;simp[SV.free]at hf
 |slz s=>intro hf;simp[SV.free]at hf
 |mp s=>intro hf;simp[SV.free]at hf
 |yld s=>intro hf;simp[SV.free]at hf
 |slb s=>intro hf;simp[SV.free]at hf
theorem Zsf(l:List PV):Jp 0 (l.map .pv)=true:=by
 induction l with
 |nil=>rfl
 |cons x l ih=>simp[Jp,SV.free,ih]
theorem Zmy(l:List PV):(SV.Y3 (l.map .pv)).free 0=true:=by
 unfold SV.Y3;split
 ·rfl
 ·simp only[SV.free];exact Zsf l
theorem Qf.Zcp:∀(a:Qf) (x:a.El),(a.sv x).free 0=true
 |.val t,x=>rfl
 |.agg row,x=>Zmy _
theorem Zbs:∀(l:List Qf) (x:Qw l),Jp 0 (Z5 l x)=true
 |[],_=>rfl
 |[a],x=>by show((a.sv x).free 0&&true)=true;rw[Qf.Zcp a x];rfl
 |a::a'::l,x=>by simp only[Z5,Jp,Qf.Zcp,Zbs (a'::l),Bool.and_self]
theorem Zw3(l:List Qf)(x:Qw l):(Y0 (Z5 l x)).free 0=true:=by
 have h:=Zbs l x;unfold Y0;split
 ·rename_i y e;rw[e]at h;simpa[Jp]using h
 ·exact h
theorem Qxv{M:Qc}{ρ:Env}(n:Nat):∀(k:Nat),
  (∀(t:Ty),SizeOf.sizeOf t≤k→Qbw M ρ M (rdT [] n t) t.pv)∧(∀(ts:List Ty),SizeOf.sizeOf ts≤k→Ko M ρ M ts (Jh [] n ts)):=by
 have hle:=M.le_refl;intro k;induction k with
 |zero=>exact⟨fun t ht=>by(cases t<;>simp at ht),fun ts ht=>by(cases ts<;>simp at ht)⟩
 |succ k ih=>
  obtain⟨ih1,ih2⟩:=ih;refine⟨fun t ht=>?_,fun ts ht=>?_⟩
  ·match t,ht with
   |.int k,ht=>exact Qcg hle (Qqd k)
   |.bool,ht=>exact Qcg hle Qnk
   |.str,ht=>exact Qcg hle Qoe
   |.seq row,ht=>
    intro x c y v h hc hr;have h:Qhe [] n row (Jh [] n row) x=some (c,y):=h;unfold Qhe at h;split at h
    ·split at h
     ·rename_i y' hy;cases h;cases hr with
      |pv hp=>exact Ty.Qr6 (t:=.seq row) hy hp
     ·cases h
    ·split at h
     ·cases h
     ·simp at h
    ·cases h
  ·match ts,ht with
   |[],ht=>exact Zah
   |[t],ht=>exact Qw0 (ih1 t (by simp at ht;omega))
   |t::t'::ts,ht=>exact Quw (ih1 t (by simp at ht;omega)) (ih2 (t'::ts) (by simp at ht⊢;omega))
theorem Zd5{M:Qc}{ρ ρ2:Env}{n:Nat}{a:Qf}{x:SV}{c:Bool}{y:a.El}{v:Value}(h:rdA [] n a x=some (c,y))(hc:c=true)(hr:Qd M ρ v x):Qd M ρ2 v (a.sv y):=by
 cases a with
 |val t=>exact .pv ((Qxv n _).1 t (Nat.le_refl _) x c y v h hc hr)
 |agg row=>
  refine Qf.Zcq ?_;have fin:∀(cs:Array Value) (xs:List SV) (y:Qh row),J2 M ρ M row xs y→cs.size=xs.length→(∀(i:Nat) (u:Value) (x:SV),cs[i]? =some u→xs[i]? =some x→Qd M ρ u x)→Qd M ρ2 (.agg cs) ((Qf.agg row).raw y):=fun cs xs y hf hl hr=>by refine .agg cs _ (by rw[hl,hf.1];simp[Wf]) fun i u z hu hz=>?_;simp only[List.getElem?_map,Option.map_eq_some_iff]at hz;obtain⟨q,hq,rfl⟩:=hz;obtain⟨x,hx,himp⟩:=hf.2 i q hq;exact .pv (himp u (hr i u x hu hx))
  replace h:Qa6 [] n row x=some (c,y):=h;unfold Qa6 at h;split at h
  ·rename_i cs;split at h
   ·rename_i y' hy;cases h;have:=hr.Q7;subst this;refine fin cs _ _ (J2.of M.le_refl hy) (by simp) fun i u x hu hx=>?_;simp only[List.getElem?_map,Option.map_eq_some_iff,Array.getElem?_toList]at hx;obtain⟨p,⟨u',hu',rfl⟩,rfl⟩:=hx;rw[hu]at hu';cases hu';exact .pv (.lit _)
   ·cases h
  ·rename_i l;cases hr with
   |agg cs _ hl hr=>exact fin cs l y ((Qxv n _).2 row (Nat.le_refl _) _ _ _ h hc) hl hr
  ·cases h
def Qp2(M M2:Qc)(ρ ρ2:Env){α:Type}(f:List SV→Option (Bool×α))(g:α→List SV):Prop:=
 ∀(xs:List SV) (c:Bool) (y:α),f xs=some (c,y)→c=true→(g y).length=xs.length∧
  ∀(i:Nat) (v:Value) (z x:SV),(g y)[i]? =some z→xs[i]? =some x→Qd M ρ v x→Qd M2 ρ2 v z
theorem Qp3{M M2:Qc}{ρ ρ2:Env}{H:List Qa}{n:Nat}(ha:∀(a:Qf) (x:SV) (c:Bool) (y:a.El) (v:Value),rdA H n a x=some (c,y)→c=true→Qd M ρ v x→Qd M2 ρ2 v (a.sv y)):
  ∀(l:List Qf),Qp2 M M2 ρ ρ2 (rdL H n l) (Z5 l)
 |[]=>by
  intro xs c y h hc;match xs,h with
  |[],h=>exact⟨rfl,fun i v z x hz hx=>by simp at hx⟩
  |_::_,h=>cases h
 |[a]=>by
  intro xs c y h hc;match xs,h with
  |[],h=>cases h
  |_::_::_,h=>cases h
  |[x],h=>
   replace h:rdA H n a x=some (c,y):=h;refine⟨rfl,fun i v z x' hz hx' hr=>?_⟩;cases i with
   |zero=>simp only[Z5,List.getElem?_cons_zero,Option.some.injEq]at hz hx';subst hz;subst hx';exact ha a x c y v h hc hr
   |succ i=>simp at hx'
 |a::a'::l=>by
  intro xs c y h hc;match xs,h with
  |[],h=>cases h
  |x::xs,h=>
   replace h:Qcu (rdA H n a) (rdL H n (a'::l)) (x::xs)=some (c,y):=h;simp only[Qcu]at h;split at h
   ·cases h
   ·rename_i p h1;split at h
    ·cases h
    ·rename_i q h2;cases h;rw[Bool.and_eq_true]at hc;obtain⟨g1,g2⟩:=Qp3 ha (a'::l) xs q.1 q.2 h2 hc.2;refine⟨by simp only[Z5,List.length_cons,g1],fun i v z x' hz hx' hr=>?_⟩;cases i with
     |zero=>simp only[Z5,List.getElem?_cons_zero,Option.some.injEq]at hz hx';subst hz;subst hx';exact ha a x p.1 p.2 v h1 hc.1 hr
     |succ i=>simp only[Z5,List.getElem?_cons_succ]at hz hx';exact g2 i v z x' hz hx' hr
theorem Qx6{M:Qc}{ρ ρ2:Env}{H:List Qa}{w:World}{n:Nat}(hm:Mem M ρ H w)(l:List Qf):Qp2 M (M.sealing ρ H n w) ρ ρ2 (rdL H n l) (Z5 l):=
 Qp3 (fun a x c y v h hc hr=>Qq8 hm h hc hr) l
theorem Qup{M:Qc}{ρ ρ2:Env}{n:Nat}(l:List Qf):Qp2 M M ρ ρ2 (rdL [] n l) (Z5 l):=
 Qp3 (fun a x c y v h hc hr=>Zd5 h hc hr) l
structure PC where
 ats:List Qf
 rts:List Qf
 code:Qw ats→Option (Qw rts)
structure Qg (cx:Cx) (g:Nat) (pc:PC):Prop where
 fn:∃fn,cx.fns.lookup g=some fn
 ok:∀a y,pc.code a=some y→Yu cx.P g (Z5 pc.ats a) [] fun r H' t f=>r=Y0 (Z5 pc.rts y)∧H'=[]∧t=[]∧f=[]
def PC.sm(pc:PC):Sm where
 pre:=fun args H=>(rdL [] 0 pc.ats args).isSome||((rdL H 0 pc.ats args).isSome&&pc.rts.all Qf.scalar)
 run:=fun X args H k=>match rdL [] 0 pc.ats args with
  |some p=>gd p.1 (match pc.code p.2 with
   |some y=>k (Y0 (Z5 pc.rts y)) H [] []
   |none=>none)
  |none=>match rdL H 0 pc.ats args with
   |some p=>gd (p.1&&pc.rts.all Qf.scalar) (match pc.code p.2 with
    |some y=>k (Y0 (Z5 pc.rts y)) H [] []
    |none=>none)
   |none=>none
def Qib:List SV→Bool
 |[]=>true
 |.pv (.lit _)::l=>Qib l
 |_=>false
def SV.Qhv:SV→Bool
 |.pv (.lit _)=>true
 |.agg l=>Qib l
 |_=>false
theorem Qys:∀{l:List SV},Qib l=true→∀(i:Nat) (x:SV),l[i]? =some x→∃v,x=.lit v
 |[],_,i,x,h=>by simp at h
 |.pv (.lit v)::l,hl,i,x,h=>by
  cases i with
  |zero=>simp at h;exact⟨v,h.symm⟩
  |succ i=>exact Qys (l:=l) hl i x (by simpa using h)
theorem Zal{M M2:Qc}{ρ ρ2:Env}{v:Value}{x:SV}(hs:x.Qhv=true)(h:Qd M ρ v x):Qd M2 ρ2 v x:=by
 match x,hs,h with
 |.pv (.lit u),_,h=>rw[h.Q7];exact .pv (.lit _)
 |.agg l,hs,.agg cs _ hl hr=>refine .agg cs l hl fun i v x hv hx=>?_;obtain⟨u,rfl⟩:=Qys hs i x hx;rw[(hr i v _ hv hx).Q7];exact .pv (.lit _)
theorem Qtv:∀(row:List Ty) (x:Qh row),row.all Ty.scalar=true→Qib ((Za row x).map .pv)=true
 |[],_,_=>rfl
 |[t],x,h=>by cases t<;>first|rfl|(simp[Ty.scalar]at h)
 |t::t'::ts,x,h=>by simp only[List.all_cons,Bool.and_eq_true]at h;have:=Qtv (t'::ts) x.2 (by simp only[List.all_cons,Bool.and_eq_true];exact h.2);cases t<;>first|exact this|(simp[Ty.scalar]at h)
theorem Qf.Zck(a:Qf)(x:a.El)(h:a.scalar=true):(a.sv x).Qhv=true:=by
 cases a with
 |val t=>cases t<;>first|rfl|(simp[Qf.scalar,Ty.scalar]at h)
 |agg row=>
  show(SV.Y3 ((Za row x).map .pv)).Qhv=true;unfold SV.Y3;split
  ·rfl
  ·exact Qtv row x h
theorem Zbj:∀(l:List Qf) (y:Qw l),l.all Qf.scalar=true→∀(i:Nat) (x:SV),(Z5 l y)[i]? =some x→x.Qhv=true
 |[],_,_,i,x,h=>by simp[Z5]at h
 |[a],y,hs,i,x,h=>by
  cases i with
  |zero=>simp only[Z5,List.getElem?_cons_zero,Option.some.injEq]at h;subst h;exact Qf.Zck a y (by simpa using hs)
  |succ i=>simp[Z5]at h
 |a::a'::l,y,hs,i,x,h=>by
  simp only[List.all_cons,Bool.and_eq_true]at hs;cases i with
  |zero=>simp only[Z5,List.getElem?_cons_zero,Option.some.injEq]at h;subst h;exact Qf.Zck a y.1 hs.1
  |succ i=>exact Zbj (a'::l) y.2 (by simp only[List.all_cons,Bool.and_eq_true];exact hs.2) i x (by simpa[Z5]using h)
theorem Zop{M M2:Qc}{ρ ρ2:Env}{v:Value}{l:List SV}(hs:∀(i:Nat) (x:SV),l[i]? =some x→x.Qhv=true)(h:Qd M ρ v (Y0 l)):Qd M2 ρ2 v (Y0 l):=by
 unfold Y0 at h⊢;split at h
 ·rename_i x;exact Zal (hs 0 x rfl) h
 ·cases h with
  |tup cs _ hl hr=>exact .tup cs _ hl fun i v x hv hx=>Zal (hs i x hx) (hr i v x hv hx)
def Xz:Env:=fun _=>none
theorem Qfp{M:Qc}{w:World}(h:∀b o,M b=some o→w.heap[b]? =some o):Mem M Xz [] w:=
 ⟨h,fun s o ho=>by simp at ho,fun s o p b ho=>by simp at ho,fun s s' o o' p p' b ho=>by simp at ho,fun s _=>rfl,fun s o p b ho=>by simp at ho⟩
theorem K2{b:Nat}:¬Xu Xz [] b:=fun⟨s,o,p,h,_⟩=>by simp at h
theorem PC.Q0{cx:Cx}{g:Nat}{pc:PC}(h:Qg cx g pc):Qbz cx g pc.sm:=by
 refine⟨h.fn,fun X args H k y hk=>?_⟩;have hk:(match rdL [] 0 pc.ats args with
  |some p=>gd p.1 (match pc.code p.2 with
   |some y=>k (Y0 (Z5 pc.rts y)) H [] []
   |none=>none)
  |none=>match rdL H 0 pc.ats args with
   |some p=>gd (p.1&&pc.rts.all Qf.scalar) (match pc.code p.2 with
    |some y=>k (Y0 (Z5 pc.rts y)) H [] []
    |none=>none)
   |none=>none)=some y:=hk
 have keep:∀(w w':World) (M2 M2':Qc) (ρ':Env) (H':List Qa) (t f:List Nat),Fr M2 Xz [] w M2' ρ' H' w' 0 t f→∀b,b<w.heap.size→w'.heap[b]? =w.heap[b]? :=fun w w' M2 M2' ρ' H' t f hf b hb=>hf.same b hb K2;split at hk
 ·rename_i p hrd;obtain⟨hc,hk⟩:=Ya hk;split at hk
  ·rename_i z hz;intro M ρ w vs hm hr;obtain⟨l1,l2⟩:=Qup (M:=M) (ρ:=ρ) (ρ2:=Xz) pc.ats args p.1 p.2 hrd hc;refine(h.ok p.2 z hz M Xz w vs (Qfp hm.imm) ⟨by rw[hr.1,l1],fun i v x hv hx=>?_⟩).mono ?_
   ·obtain⟨x',hx'⟩:∃x',args[i]? =some x':=by
     have:i<args.length:=by rw[←l1];exact(List.getElem?_eq_some_iff.1 hx).1
     exact⟨_,List.getElem?_eq_getElem this⟩
    exact l2 i v x x' hx hx' (hr.2 i v x' hv hx')
   ·rintro e w' ⟨v,r,H',M',ρ',t,f,he,⟨rfl,rfl,rfl,rfl⟩,hs,hm',hf⟩
    have hsame:=keep _ _ _ _ _ _ _ _ hf;refine⟨v,_,H,M',ρ,[],[],he,hk,hs.Zz2 (Zw3 _ z),?_,?_⟩
    ·refine⟨hm'.imm,fun s o ho=>?_,fun s o p b ho hl hp hb=>?_,hm.diss,hm.fresh,fun s o p b ho hl hp hb=>Nat.lt_of_lt_of_le (hm.lts s o p b ho hl hp hb) hf.grow⟩
     ·by_cases hl:o.live=true
      ·exact(hm.own s o ho).mono hf.imm ρ.le_refl rfl fun p b hp hb=>hsame _ (hm.Xv ho hl hp hb)
      ·rw[Kx hl];trivial
     ·cases e:M' b with
      |none=>rfl
      |some ob=>
       rcases hf.new b ob (hm.seps s o p b ho hl hp hb) e with h1|h1
       ·have:=hm.Xv ho hl hp hb;omega
       ·exact absurd h1 K2
    ·exact⟨hf.imm,fun b o a c=>(hf.new b o a c).imp id fun h=>absurd h K2,fun b hb=>.inr hb,fun b hb _=>hsame b hb,hf.grow,fun s o _ _ ho hl=>⟨⟨o,ho,hl⟩,fun p hp=>⟨hp,fun b hb=>hsame _ (hm.Xv ho hl hp hb)⟩⟩,fun _ _ _=>rfl,hf.io⟩
  ·cases hk
 ·split at hk
  ·rename_i p hrd;obtain⟨hc,hk⟩:=Ya hk;rw[Bool.and_eq_true]at hc;split at hk
   ·rename_i z hz;intro M ρ w vs hm hr;obtain⟨l1,l2⟩:=Qx6 (n:=0) (ρ2:=Xz) hm pc.ats args p.1 p.2 hrd hc.1;have hM2:∀b o,(M.sealing ρ H 0 w) b=some o→w.heap[b]? =some o:=fun b o hb=>by
     cases e:M b with
     |some o'=>rw[Qc.X6 M ρ H 0 w b o' e]at hb;cases hb;exact hm.imm b _ e
     |none=>exact(Qc.Wj e hb).2
    refine(h.ok p.2 z hz (M.sealing ρ H 0 w) Xz w vs (Qfp hM2) ⟨by rw[hr.1,l1],fun i v x hv hx=>?_⟩).mono ?_
    ·obtain⟨x',hx'⟩:∃x',args[i]? =some x':=by
      have:i<args.length:=by rw[←l1];exact(List.getElem?_eq_some_iff.1 hx).1
      exact⟨_,List.getElem?_eq_getElem this⟩
     exact l2 i v x x' hx hx' (hr.2 i v x' hv hx')
    ·rintro e w' ⟨v,r,H',M',ρ',t,f,he,⟨rfl,rfl,rfl,rfl⟩,hs,hm',hf⟩
     have hsame:=keep _ _ _ _ _ _ _ _ hf;refine⟨v,_,H,M,ρ,[],[],he,hk,Zop (Zbj _ z hc.2) hs,?_,?_⟩
     ·refine⟨fun b o hb=>?_,fun s o ho=>?_,hm.seps,hm.diss,hm.fresh,fun s o p b ho hl hp hb=>Nat.lt_of_lt_of_le (hm.lts s o p b ho hl hp hb) hf.grow⟩
      ·rw[hsame b (hm.Qml hb)];exact hm.imm b o hb
      ·by_cases hl:o.live=true
       ·exact(hm.own s o ho).mono M.le_refl ρ.le_refl rfl fun p b hp hb=>hsame _ (hm.Xv ho hl hp hb)
       ·rw[Kx hl];trivial
     ·exact⟨M.le_refl,fun b o a c=>(by rw[a]at c;cases c),fun b hb=>.inr hb,fun b hb _=>hsame b hb,hf.grow,fun s o _ _ ho hl=>⟨⟨o,ho,hl⟩,fun p hp=>⟨hp,fun b hb=>hsame _ (hm.Xv ho hl hp hb)⟩⟩,fun _ _ _=>rfl,hf.io⟩
   ·cases hk
  ·cases hk
def Qwu(cx:Cx)(fn:Func)(rts:List Qf):KX (Qw rts):=fun e s=>
 gd (Qhf e) (match shut s.marks s.H with
  |none=>none
  |some H'=>Un cx {s with H:=H',marks:=[]} fn.results.toList fun l=>match rdL H' 0 rts l with
   |none=>none
   |some p=>gd p.1 (some p.2))
def Z9(cx:Cx)(lx:Lx)(n:Nat)(an:Q6)(fn:Func)(c:Code)(ats rts:List Qf)(a:Qw ats):Option (Qw rts):=
 Y8 cx lx n (Qw rts) (Qw.eqv rts) an true fn.ntmps c (.entry (Z5 ats a) []) (Qwu cx fn rts)
theorem Zpo{cx:Cx}{fn:Func}{rts:List Qf}{e:Exit}{s:St}{y:Qw rts}(h:Qwu cx fn rts e s=some y):
  (e=.normal∨e=.ret)∧∃H',shut s.marks s.H=some H'∧Vj cx {s with H:=H',marks:=[]} fn.results.toList fun l=>∃c,c=true∧rdL H' 0 rts l=some (c,y):=by
 obtain⟨h1,h⟩:=Ya h;refine⟨Qh4 h1,?_⟩;split at h
 ·cases h
 ·rename_i H' hs;refine⟨H',hs,Qac _ _ _ (fun l hl=>?_) (Qbj _ _ h)⟩;split at hl
  ·cases hl
  ·rename_i p hp;obtain⟨h2,hl⟩:=Ya hl;cases hl;exact⟨p.1,h2,hp⟩
theorem Qg.Zr{cx:Cx}(hcx:cx.Ok){lx:Lx}(hlx:lx.Ok cx){n g:Nat}{an:Q6}{fn:Func}{c:Code}{pc:PC}(hf:cx.fns.lookup g=some fn)(hb:fn.body=some c)
  (hcode:∀a y,pc.code a=some y→Z9 cx lx n an fn c pc.ats pc.rts a=some y) (hn:Nat.ble pc.ats.length fn.ntmps=true):Qg cx g pc:=by
 refine⟨⟨fn,hf⟩,fun a y hy=>?_⟩;have hlen:∀(l:List Qf) (x:Qw l),(Z5 l x).length=l.length:=by
  intro l;induction l with
  |nil=>intro _;rfl
  |cons a l ih=>
   cases l with
   |nil=>intro _;rfl
   |cons b l=>intro x;simp only[Z5,List.length_cons,ih x.2]
 have hw:=(Qh8 hcx hlx n).1 _ _ (Qw.eqv_ok pc.rts) none an true fn.ntmps c _ _ y (fun _=>rfl) (hcode a y hy);have hcall:Yu cx.P g (Z5 pc.ats a) [] fun r H' t f=>∃l cc,r=Y0 l∧cc=true∧rdL H' 0 pc.rts l=some (cc,y):=by refine Qh9 hcx hf hb (by rw[hlen];exact Nat.le_of_ble_eq_true hn) (hw.mono fun e s hs=>?_);obtain⟨h1,H',h2,h3⟩:=Zpo hs;exact⟨h1,.inl (Nat.zero_le _),H',h2,Qac _ _ _ (fun l ⟨cc,h4,h5⟩=>⟨l,cc,rfl,h4,h5⟩) h3⟩
 intro M ρ w vs hm hr;refine(hcall M ρ w vs hm hr).mono ?_
 rintro e w' ⟨v,r,H',M',ρ',t,f,he,⟨l,cc,rfl,hcc,hrd⟩,hs,hm',hfr⟩
 obtain⟨g1,g2⟩:=Qx6 (n:=0) (ρ2:=Xz) hm' pc.rts l cc y hrd hcc;have hne:ρ=Xz:=by funext s;exact hm.fresh s (Nat.zero_le _)
 have hM2:∀b o,(M'.sealing ρ' H' 0 w') b=some o→w'.heap[b]? =some o:=fun b o hb=>by
  cases e:M' b with
  |some o'=>rw[Qc.X6 M' ρ' H' 0 w' b o' e]at hb;cases hb;exact hm'.imm b _ e
  |none=>exact(Qc.Wj e hb).2
 refine⟨v,_,[],M'.sealing ρ' H' 0 w',Xz,[],[],he,⟨rfl,rfl,rfl,rfl⟩,?_,Qfp hM2,?_⟩
 ·unfold Y0 at hs⊢;split at hs
  ·rename_i x;match hsv:Z5 pc.rts y,g1 with
   |[z],_=>simp only;exact g2 0 v z x (by rw[hsv];rfl) rfl hs
  ·rename_i hx;have hx2:∀z,Z5 pc.rts y=[z]→False:=fun z hz=>by
    rw[hz]at g1;match l,g1 with
    |[x],_=>exact hx x rfl
   cases hs with
   |tup cs _ hl hrr=>
    have:Qd (M'.sealing ρ' H' 0 w') Xz (.tuple cs) (.tup (Z5 pc.rts y)):=.tup cs _ (by rw[hl,g1]) fun i u z hu hz=>by
     obtain⟨x',hx'⟩:∃x',l[i]? =some x':=by
      have:i<l.length:=by rw[←g1];exact(List.getElem?_eq_some_iff.1 hz).1
      exact⟨_,List.getElem?_eq_getElem this⟩
     exact g2 i u z x' hz hx' (hrr i u x' hu hx')
    match hsv:Z5 pc.rts y with
    |[]=>simp only;rw[←hsv];exact this
    |[z]=>exact absurd hsv (fun h=>hx2 z h)
    |z::z'::zs=>simp only;rw[←hsv];exact this
 ·have hsl:=Qc.X6 M' ρ' H' 0 w';refine⟨Qc.le_trans hfr.imm hsl,fun b o h0 h1=>?_,fun b hb=>absurd hb K2,hfr.same,hfr.grow,fun s o hs=>absurd hs (Nat.not_lt_zero s),fun s hs=>absurd hs (Nat.not_lt_zero s),hfr.io⟩;cases e:M' b with
  |some o'=>exact hfr.new b o' h0 e
  |none=>obtain⟨⟨s2,o2,p2,k1,k2,k3,k4,k5⟩,_⟩:=Qc.Wj e h1;exact hfr.own b ⟨s2,o2,p2,k2,by cases o2<;>simp_all [Qa.Wk,Qa.live],k4,.inl k5⟩
theorem Lx.W7{cx:Cx}{an:List (Nat×Q6)}{st:List Nat}:Lx.Ok cx {ext:=[],anns:=an,still:=st}:=⟨fun q hq=>(by cases hq),rfl⟩
theorem Lx.Q3{cx:Cx}{g:Nat}{sm:Sm}{l:List (Nat×Sm)}{an:List (Nat×Q6)}{st:List Nat}(h:Qbz cx g sm)(hl:Lx.Ok cx {ext:=l,anns:=an,still:=st}):Lx.Ok cx {ext:=(g,sm)::l,anns:=an,still:=st}:=
 ⟨fun q hq=>by
  rcases List.mem_cons.1 hq with rfl|hq
  ·exact h
  ·exact hl.ext q hq,rfl⟩
def Qb(α:Type):List α:=[]
def Qv(fn:Func):Code:=match fn.body with
 |some c=>c
 |none=>.skip
inductive Loc where
 |arg (i:Nat)
 |cap (l:Loc) (j:Nat)
 |fst (l:Loc) (j:Nat)
 |fld (k j:Nat)
structure PX where
 np:Nat
 locs:List Loc
 τ:Qi
 nr:Nat
 ω:Qi
 ids:List Nat
 mv:List Nat
 code:τ.El→Option ω.El
abbrev PX.no(px:PX):Nat:=px.locs.length
def Xx(H:List Qa):St:={T:=.full 8,H:=H,n0:=H.length,tch:=[],fg:=[],marks:=[],er:=[]}
def Qbe(T:TT)(n:Nat):List SV:=(List.range n).map fun i=>(T.get i).getD .any
def W4(n:Nat):List Qa:=List.replicate n .dead
def PX.Zce(px:PX)(x:px.τ.El):St:=px.τ.st [] (List.range px.no) [] (Xx (W4 px.no)) x
def PX.args(px:PX)(x:px.τ.El):List SV:=Qbe (px.Zce x).T px.np
def PX.objs(px:PX)(x:px.τ.El):List Qa:=(px.Zce x).H
def PX.Zcb(px:PX)(x:px.τ.El)(y:px.ω.El):St:=px.ω.st [] px.ids px.mv (Xx (px.objs x)) y
def PX.res(px:PX)(x:px.τ.El)(y:px.ω.El):List SV:=Qbe (px.Zcb x y).T px.nr
def PX.Wi(px:PX)(x:px.τ.El)(y:px.ω.El):List Qa:=(px.Zcb x y).H
structure Zc (cx:Cx) (g:Nat) (px:PX):Prop where
 fn:∃fn,cx.fns.lookup g=some fn
 ok:∀x y,px.code x=some y→Yu cx.P g (px.args x) (px.objs x) fun r H' t f=>r=Y0 (px.res x y)∧H'=px.Wi x y∧(∀i∈t,i∈px.ids)∧∀i∈f,i∈px.mv
def Zxb:SV→Option Nat
 |.ptr s _ _ _=>some s
 |.sl s _ _ _=>some s
 |.mp s=>some s
 |_=>none
def Loc.find(args:List SV)(H:List Qa)(σ:List Nat):Loc→Option SV
 |.arg i=>args[i]?
 |.cap l j=>match l.find args H σ with
  |some (.fn _ _ b)=>b[j]?
  |_=>none
 |.fst l j=>match l.find args H σ with
  |some (.fn _ a _)=>a[j]?
  |_=>none
 |.fld k j=>match σ[k]? with
  |none=>none
  |some s=>match H[s]? with
   |none=>none
   |some o=>match V9 o with
    |some (_,_,r)=>r[j]?
    |none=>none
def Qlv(args:List SV)(H:List Qa):List Loc→List Nat→Option (List Nat)
 |[],σ=>some σ
 |l::ls,σ=>match l.find args H σ with
  |none=>none
  |some x=>match Zxb x with
   |none=>none
   |some s=>Qlv args H ls (σ++[s])
def idx:List Nat→Nat→Nat→Option Nat
 |[],_,_=>none
 |a::l,i,s=>match Nat.beq a s with
  |true=>some i
  |false=>idx l (i+1) s
def Qg6(σ:List Nat)(H:List Qa)(s:Nat):Qa:=match H[s]? with
 |some o=>o.Zv (idx σ 0)
 |none=>.dead
def W8(σ:List Nat)(H:List Qa):List Qa:=σ.map (Qg6 σ H)
def Qop(σ:List Nat)(args:List SV)(H:List Qa):St:=
 {T:=U6 (.full 8) 0 (Vd (idx σ 0) args),H:=W8 σ H,n0:=σ.length,tch:=[],fg:=[],marks:=[],er:=[]}
def Qgs:List Nat→Bool
 |[]=>true
 |x::l=>!l.contains x&&Qgs l
def Wn(σ:List Nat)(Hv:List Qa):List Nat→List Qa→List Qa
 |[],H=>H
 |k::ids,H=>Wn σ Hv ids (match σ[k]? with
  |none=>H
  |some s=>match Hv[k]? with
   |none=>H
   |some o=>H.set s (o.Zv fun k=>σ[k]?))
def through(σ:List Nat):List Nat→List Nat
 |[]=>[]
 |k::l=>match σ[k]? with
  |some s=>s::through σ l
  |none=>through σ l
def PX.fit(px:PX)(σ:List Nat)(args:List SV)(H:List Qa):Bool:=
 Nat.beq σ.length px.no&&(Qgs σ&&((σ.all fun s=>Nat.blt s H.length)&&(Nat.beq args.length px.np&&(px.τ.J1 (List.range px.no)&&((subset px.mv px.ids&&(px.ids.all fun k=>Nat.blt k px.no))&&(List.range px.no).all fun k=>px.ids.contains k||(px.τ.cells.filterMap Ql.id?).contains k)))))
def PX.sm(px:PX):Sm where
 pre:=fun args H=>match Qlv args H px.locs []with
  |none=>false
  |some σ=>px.fit σ args H&&(px.τ.read px.no (Qop σ args H)).isSome
 run:=fun X args H k=>match Qlv args H px.locs []with
  |none=>none
  |some σ=>gd (px.fit σ args H) (match Qaw px.τ [] (List.range px.no) [] px.no (Qop σ args H)with
   |none=>none
   |some x=>match px.code x with
    |none=>none
    |some y=>k ((Y0 (px.res x y)).Zv fun k=>σ[k]?) (Wn σ (px.Wi x y) px.ids (X7 (through σ px.mv) H)) (through σ px.ids) (through σ px.mv))
theorem Qk5:∀{σ:List Nat} {i s k:Nat},idx σ i s=some k→∃j,k=i+j∧σ[j]? =some s
 |[],i,s,k,h=>by cases h
 |a::l,i,s,k,h=>by
  simp only[idx]at h;split at h
  ·rename_i e;cases h;exact⟨0,rfl,by simp[Nat.eq_of_beq_eq_true e]⟩
  ·obtain⟨j,h1,h2⟩:=Qk5 h;exact⟨j+1,by omega,by simpa using h2⟩
theorem Qm6:∀{σ:List Nat},Qgs σ=true→∀(i j s:Nat),σ[i]? =some s→σ[j]? =some s→i=j
 |[],_,i,j,s,h,_=>by simp at h
 |a::l,hn,i,j,s,hi,hj=>by
  simp only[Qgs,Bool.and_eq_true,Bool.not_eq_true']at hn;have hna:a∉l:=by have:=hn.1;simpa using this
  cases i with
  |zero=>
   cases j with
   |zero=>rfl
   |succ j=>simp at hi hj;subst hi;exact absurd (List.mem_of_getElem? hj) hna
  |succ i=>
   cases j with
   |zero=>simp at hi hj;subst hj;exact absurd (List.mem_of_getElem? hi) hna
   |succ j=>have:=Qm6 hn.2 i j s (by simpa using hi) (by simpa using hj);omega
theorem Qqg{σ:List Nat}{H:List Qa}{k:Nat}{o:Qa}(h:(W8 σ H)[k]? =some o):∃s,σ[k]? =some s∧o=Qg6 σ H s:=by unfold W8 at h;simp only[List.getElem?_map,Option.map_eq_some_iff]at h;obtain⟨s,hs,rfl⟩:=h;exact⟨s,hs,rfl⟩
def Xa(σ:List Nat)(ρ:Env):Env:=fun k=>match σ[k]? with
 |some s=>ρ s
 |none=>none
theorem Qu6{σ:List Nat}{ρ:Env}{s t:Nat}{p:Place}(h:idx σ 0 s=some t)(hp:ρ s=some p):Xa σ ρ t=some p:=by obtain⟨j,rfl,hj⟩:=Qk5 h;simp only[Xa,Nat.zero_add,hj];exact hp
theorem Mem.view{M:Qc}{ρ:Env}{H:List Qa}{w:World}(hm:Mem M ρ H w){σ:List Nat}(hn:Qgs σ=true):Mem M (Xa σ ρ) (W8 σ H) w:=by
 have hobj:∀(k:Nat) (o:Qa),(W8 σ H)[k]? =some o→o.live=true→∃(s:Nat) (x:Qa),σ[k]? =some s∧H[s]? =some x∧o=x.Zv (idx σ 0)∧x.live=true:=fun k o ho hl=>by
  obtain⟨s,hs,rfl⟩:=Qqg ho;unfold Qg6 at hl⊢;split at hl
  ·rename_i x hx;rw[Qdj]at hl;exact⟨s,x,hs,hx,rfl,hl⟩
  ·cases hl
 refine⟨hm.imm,fun k o ho=>?_,fun k o p b ho hl hp hb=>?_,fun k k' o o' p p' b ho ho' hl hl' hp hp' hb hb'=>?_,fun k hk=>?_,fun k o p b ho hl hp hb=>?_⟩
 ·obtain⟨s,hs,rfl⟩:=Qqg ho;unfold Qg6;split
  ·rename_i x hx;exact(hm.own s x hx).Zv M.le_refl (fun s t p h hp=>Qu6 h hp) (by simp only[Xa,hs]) (fun _ _ _ _=>rfl)
  ·trivial
 ·obtain⟨s,x,h1,h2,_,h4⟩:=hobj k o ho hl;simp only[Xa,h1]at hp;exact hm.seps s x p b h2 h4 hp hb
 ·obtain⟨s,x,h1,h2,_,h4⟩:=hobj k o ho hl;obtain⟨s',x',k1,k2,_,k4⟩:=hobj k' o' ho' hl';simp only[Xa,h1]at hp;simp only[Xa,k1]at hp';have:=hm.diss s s' x x' p p' b h2 k2 h4 k4 hp hp' hb hb';subst this;exact Qm6 hn k k' s h1 k1
 ·simp only[Xa];rw[List.getElem?_eq_none (by simpa[W8]using hk)]
 ·obtain⟨s,x,h1,h2,_,h4⟩:=hobj k o ho hl;simp only[Xa,h1]at hp;exact hm.lts s x p b h2 h4 hp hb
theorem Zgu{ρ:Env}{H:List Qa}{σ:List Nat}{b:Nat}(h:Xu (Xa σ ρ) (W8 σ H) b):∃(k s:Nat) (x:Qa) (p:Place),σ[k]? =some s∧H[s]? =some x∧x.live=true∧ρ s=some p∧p.has b:=by
 obtain⟨k,o,p,h1,h2,h3,h4⟩:=h;obtain⟨s,hs,rfl⟩:=Qqg h1;unfold Qg6 at h2;split at h2
 ·rename_i x hx;rw[Qdj]at h2;simp only[Xa,hs]at h3;exact⟨k,s,x,p,hs,hx,h2,h3,h4⟩
 ·cases h2
theorem Qpq{σ:List Nat}{Hv:List Qa}:∀{ids:List Nat} {H:List Qa},(Wn σ Hv ids H).length=H.length
 |[],H=>rfl
 |k::ids,H=>by
  simp only[Wn];rw[Qpq];split
  ·rfl
  ·split
   ·rfl
   ·simp
theorem Qxw{σ:List Nat}{Hv:List Qa}:∀{ids:List Nat} {H:List Qa} {s:Nat} {o:Qa},(Wn σ Hv ids H)[s]? =some o→
  (∃k∈ids,σ[k]? =some s∧∃x,Hv[k]? =some x∧o=x.Zv fun k=>σ[k]?)∨(H[s]? =some o∧∀k∈ids,σ[k]? =some s→Hv[k]? =none)
 |[],H,s,o,h=>.inr ⟨h,fun k hk=>by cases hk⟩
 |k::ids,H,s,o,h=>by
  simp only[Wn]at h;rcases Qxw h with⟨k',h1,h2⟩|⟨h1,h2⟩
  ·exact .inl ⟨k',List.mem_cons_of_mem _ h1,h2⟩
  ·split at h1
   ·rename_i hk;exact .inr ⟨h1,fun k' hk' h3=>by
     rcases List.mem_cons.1 hk' with rfl|hk'
     ·rw[hk]at h3;cases h3
     ·exact h2 k' hk' h3⟩
   ·rename_i t hk;split at h1
    ·rename_i hv;exact .inr ⟨h1,fun k' hk' h3=>by
      rcases List.mem_cons.1 hk' with rfl|hk'
      ·exact hv
      ·exact h2 k' hk' h3⟩
    ·rename_i x hv;rw[List.getElem?_set]at h1;split at h1
     ·rename_i e;subst e;split at h1
      ·cases h1;exact .inl ⟨k,List.mem_cons_self,hk,x,hv,rfl⟩
      ·cases h1
     ·rename_i e;exact .inr ⟨h1,fun k' hk' h3=>by
       rcases List.mem_cons.1 hk' with rfl|hk'
       ·rw[hk]at h3;cases h3;exact absurd rfl e
       ·exact h2 k' hk' h3⟩
theorem Qf0{σ:List Nat}:∀{l:List Nat} {s:Nat},s∈through σ l↔∃k∈l,σ[k]? =some s
 |[],s=>by simp[through]
 |k::l,s=>by
  simp only[through];split
  ·rename_i t ht;rw[List.mem_cons,Qf0];constructor
   ·rintro (rfl|⟨k',h1,h2⟩)
    ·exact⟨k,List.mem_cons_self,ht⟩
    ·exact⟨k',List.mem_cons_of_mem _ h1,h2⟩
   ·rintro ⟨k',h1,h2⟩
    rcases List.mem_cons.1 h1 with rfl|h1
    ·rw[ht]at h2;cases h2;exact .inl rfl
    ·exact .inr ⟨k',h1,h2⟩
  ·rename_i ht;rw[Qf0];constructor
   ·rintro ⟨k',h1,h2⟩;exact⟨k',List.mem_cons_of_mem _ h1,h2⟩
   ·rintro ⟨k',h1,h2⟩
    rcases List.mem_cons.1 h1 with rfl|h1
    ·rw[ht]at h2;cases h2
    ·exact⟨k',h1,h2⟩
theorem Zm8{T:TT}{n i:Nat}{x:SV}(h:(Qbe T n)[i]? =some x):i<n∧x=(T.get i).getD .any:=by
 unfold Qbe at h;simp only[List.getElem?_map,Option.map_eq_some_iff]at h;obtain⟨j,hj,rfl⟩:=h;by_cases hi:i<n
 ·rw[List.getElem?_range hi]at hj;cases hj;exact⟨hi,rfl⟩
 ·rw[List.getElem?_eq_none (by simpa using hi)]at hj;cases hj
theorem Qnm(T:TT)(n:Nat):(Qbe T n).length=n:=by simp[Qbe]
theorem Zxk{M:Qc}{ρ:Env}{H:List Qa}{w:World}{a:Act}(hm:Mem M ρ H w)(D ids mv:List Nat):Qjt D ids mv (Xx H) M ρ H a w:=
 ⟨rfl,fun t y _ hy=>(by rw[show(Xx H).T=TT.full 8 from rfl,TT.Qcb]at hy;cases hy),
  fun i o _ ho=>⟨(hm.own i o ho).forget M.le_refl (fun _ _ _ h=>h) rfl (fun _ _ _ _=>rfl),fun hl=>⟨o,ho,hl⟩⟩,fun i o _ ho hl=>⟨o,ho,hl⟩⟩
theorem Zsa{M:Qc}{ρ:Env}{H:List Qa}{w:World}{a:Act}{n:Nat}(hn:H.length=n):Qjt [] (List.range n) [] (Xx (W4 n)) M ρ H a w:=
 ⟨by simp[Xx,W4,hn],fun t y _ hy=>(by rw[show(Xx (W4 n)).T=TT.full 8 from rfl,TT.Qcb]at hy;cases hy),
  fun i o hi ho=>absurd (List.mem_range.2 (by simpa[Xx,W4]using(List.getElem?_eq_some_iff.1 ho).1)) hi,
  fun i o hi ho hl=>absurd (List.mem_range.2 (by rw[←hn];exact(List.getElem?_eq_some_iff.1 ho).1)) hi⟩
def Kt(vs:List Value):Act:={tmps:=vs.toArray,defers:=[]}
theorem Qu5(vs:List Value)(i:Nat)(v:Value)(h:vs[i]? =some v):(Kt vs).tmps.getD i undef=v:=by have:i<vs.length:=(List.getElem?_eq_some_iff.1 h).1;simp[Kt,Array.getD,this];rw[List.getElem?_eq_getElem this]at h;simpa using h
theorem Qur{M:Qc}{ρ:Env}{H:List Qa}{w:World}{vs:List Value}{xs:List SV}{n:Nat}{tch fg:List Nat}(hm:Mem M ρ H w)(hr:Xn M ρ vs xs)(hn:n≤H.length):
  Good (fun t=>(Kt vs).tmps.getD t undef) vs.length M ρ {T:=U6 (.full 8) 0 xs,H:=H,n0:=n,tch:=tch,fg:=fg,marks:=[],er:=[]} (Kt vs) w:=by
 refine⟨fun t x hx=>?_,by simp[Kt],hm,⟨rfl,fun i d s h=>by simp[Kt]at h⟩,fun m h=>(by cases h),hn,fun t _=>rfl⟩;rcases Qn2 xs (.full 8) 0 t x (fun t x h=>by rw[TT.Qcb]at h;cases h) hx with h|⟨_,h⟩
 ·rw[TT.Qcb]at h;cases h
 ·rw[Nat.sub_zero]at h;have hlt:t<vs.length:=by rw[hr.1];exact(List.getElem?_eq_some_iff.1 h).1
  rw[Qu5 vs t vs[t] (List.getElem?_eq_getElem hlt)];exact hr.2 t vs[t] x (List.getElem?_eq_getElem hlt) h
theorem Qth{B:Nat→Value}{nt n:Nat}{M:Qc}{ρ:Env}{s:St}{vs:List Value}{w:World}(hg:Good B nt M ρ s (Kt vs) w)(hn:vs.length=n):Xn M ρ vs (Qbe s.T n):=by
 refine⟨by rw[Qnm,hn],fun i v x hv hx=>?_⟩;obtain⟨hi,rfl⟩:=Zm8 hx;cases hT:s.T.get i with
 |none=>exact .any _
 |some y=>have:=hg.tm i y hT;rwa[Qu5 vs i v hv]at this
theorem Zs1{M:Qc}{ρ:Env}{H:List Qa}{w:World}{n:Nat}(hn:H.length≤n):M.sealing ρ H n w=M:=by
 funext b;unfold Qc.sealing;cases M b with
 |some o=>rfl
 |none=>
  simp only;rw[if_neg]
  rintro ⟨s,o,p,h1,h2,_⟩
  have:=(List.getElem?_eq_some_iff.1 h2).1;omega
theorem PX.Q0{cx:Cx}{g:Nat}{px:PX}(h:Zc cx g px):Qbz cx g px.sm:=by
 refine⟨h.fn,fun X args H k y hk=>?_⟩;have hk:(match Qlv args H px.locs []with
  |none=>none
  |some σ=>gd (px.fit σ args H) (match Qaw px.τ [] (List.range px.no) [] px.no (Qop σ args H)with
   |none=>none
   |some x=>match px.code x with
    |none=>none
    |some y=>k ((Y0 (px.res x y)).Zv fun k=>σ[k]?) (Wn σ (px.Wi x y) px.ids (X7 (through σ px.mv) H)) (through σ px.ids) (through σ px.mv)))=some y:=hk
 split at hk
 ·cases hk
 ·rename_i σ hσ;obtain⟨hfit,hk⟩:=Ya hk;split at hk
  ·cases hk
  ·rename_i x hx;split at hk
   ·cases hk
   ·rename_i z hz;simp only[PX.fit,Bool.and_eq_true]at hfit;obtain⟨f1,f2,f3,f4,f5,⟨f6,f7⟩,f8⟩:=hfit;have hno:σ.length=px.no:=Nat.eq_of_beq_eq_true f1;have hnp:args.length=px.np:=Nat.eq_of_beq_eq_true f4;have hlt:∀k s:Nat,σ[k]? =some s→s<H.length:=fun k s h=>Ky (List.all_eq_true.1 f3 s (List.mem_of_getElem? h));obtain⟨r1,c,hc,r2⟩:=Qrp hx;intro M ρ w vs hm hr;have hmv:=hm.view f2;have hrv:Xn M (Xa σ ρ) vs (Vd (idx σ 0) args):=by rw[Qh5];refine⟨by rw[List.length_map];exact hr.1,fun i v x hv hx=>?_⟩;simp only[List.getElem?_map,Option.map_eq_some_iff]at hx;obtain⟨u,hu,rfl⟩:=hx;exact(hr.2 i v u hv hu).Zv M.le_refl fun s t p h hp=>Qu6 h hp
    have hlen:(W8 σ H).length=px.no:=by simp[W8,hno]
    have hbl:(Xx (W4 px.no)).H.length=px.no:=by simp[Xx,W4]
    have hg:=Qur (n:=σ.length) (tch:=[]) (fg:=[]) hmv hrv (by rw[hlen,hno];exact Nat.le_refl _);obtain⟨M2,ρ2,g1,g2,e1,e2⟩:=K6 (τ:=px.τ) (D:=[]) (ids:=List.range px.no) (mv:=[]) (b:=Xx (W4 px.no)) (H0:=W8 σ H) (M0:=M) (ρ0:=Xa σ ρ) (a0:=Kt vs) (w0:=w) (fun _ _=>rfl) (Zsa hlen) hmv hg
     (Fr.refl ..) rfl f5 (by rw[hbl];exact r1) (by rw[hbl];exact r2) hc
    rw[hbl]at e1 e2;have e1:M2=M:=by rw[e1];exact Zs1 (by show(W8 σ H).length≤px.no;rw[hlen];exact Nat.le_refl _)
    have e2:ρ2=Xa σ ρ:=by rw[e2,←hlen];exact Qyd hmv
    subst e1;subst e2;have hm2:Mem M2 (Xa σ ρ) (px.objs x) w:=g1.mem;have hol:(px.objs x).length=px.no:=by show(px.τ.st [] (List.range px.no) [] (Xx (W4 px.no)) x).H.length=_;rw[Qi.Qb9,Qdo,Qci,Qa2,hbl]
    have hreps:Xn M2 (Xa σ ρ) vs (px.args x):=Qth g1 (by rw[hr.1,hnp]);have hown:∀b,b<w.heap.size→Xu (Xa σ ρ) (px.objs x) b→∃(k s:Nat) (x:Qa) (p:Place),σ[k]? =some s∧H[s]? =some x∧x.live=true∧ρ s=some p∧p.has b:=fun b hb ho=>by
     rcases g2.own b ho with h1|h1
     ·omega
     ·exact Zgu h1
    refine(h.ok x z hz M2 (Xa σ ρ) w vs hm2 hreps).mono ?_
    rintro e w' ⟨v,r,H',M',ρ',t,f,he,⟨rfl,rfl,ht,hf⟩,hs,hm',hfr⟩
    let ρ3:Env:=fun s=>match idx σ 0 s with
     |some k=>ρ' k
     |none=>ρ s
    have hidx:∀k s:Nat,σ[k]? =some s→idx σ 0 s=some k:=fun k s hks=>by
     have key:∀(l:List Nat) (i j:Nat),l[j]? =some s→∃k,idx l i s=some k:=by
      intro l;induction l with
      |nil=>intro i j h;simp at h
      |cons a l ih=>
       intro i j h;simp only[idx];cases hb:Nat.beq a s with
       |true=>exact⟨i,rfl⟩
       |false=>
        cases j with
        |zero=>simp at h;subst h;rw[Nat.beq_refl]at hb;cases hb
        |succ j=>exact ih (i+1) j (by simpa using h)
     obtain⟨k',hk'⟩:=key σ 0 k hks;obtain⟨j,e,hj⟩:=Qk5 hk';have e:k'=j:=by omega
     subst e;rw[hk',Qm6 f2 k' k s hj hks]
    have hρ3:∀k s:Nat,σ[k]? =some s→ρ3 s=ρ' k:=fun k s hks=>by simp only[ρ3,hidx k s hks]
    have hρ3':∀s:Nat,(∀k:Nat,σ[k]? ≠some s)→ρ3 s=ρ s:=fun s hns=>by
     have:idx σ 0 s=none:=by
      cases hi:idx σ 0 s with
      |none=>rfl
      |some k=>obtain⟨j,_,hj⟩:=Qk5 hi;exact absurd hj (hns j)
     simp only[ρ3,this]
    have hstay:∀k s:Nat,σ[k]? =some s→k∉px.mv→ρ3 s=ρ s:=fun k s hks hkm=>by
     rw[hρ3 k s hks];have hklt:k<(px.objs x).length:=by rw[hol,←hno];exact(List.getElem?_eq_some_iff.1 hks).1
     rw[hfr.stay k hklt fun h=>hkm (hf k h)];simp only[Xa,hks]
    have hback:∀s t p,(fun k=>σ[k]?) s=some t→ρ' s=some p→ρ3 t=some p:=fun k s p hks hp=>by rw[hρ3 k s hks];exact hp
    have hmvi:∀k,k∈px.mv→k∈px.ids:=fun k hk=>Kr f6 hk;have hkeep:∀k s:Nat,σ[k]? =some s→k∉px.ids→∀o,H[s]? =some o→o.live=true→(∃o':Qa,(px.Wi x z)[k]? =some o'∧o'.live=true)∧∀p,ρ s=some p→ρ' k=some p∧∀b,p.has b→w'.heap[b]? =w.heap[b]? :=fun k s hks hki o ho hl=>by
     have hkn:k<px.no:=by rw[←hno];exact(List.getElem?_eq_some_iff.1 hks).1
     have hcell:k∈px.τ.cells.filterMap Ql.id? :=by have:=List.all_eq_true.1 f8 k (List.mem_range.2 hkn);simp only[Bool.or_eq_true,List.contains_eq_mem,decide_eq_true_eq]at this;exact this.resolve_left hki
     have hko:k<(px.objs x).length:=by rw[hol];exact hkn
     obtain⟨ok,hok⟩:∃ok,(px.objs x)[k]? =some ok:=⟨_,List.getElem?_eq_getElem hko⟩;have hokl:ok.live=true:=by
      have hok':(px.τ.st [] (List.range px.no) [] (Xx (W4 px.no)) x).H[k]? =some ok:=hok;rw[Qi.Qb9]at hok';rcases Qe0 hok' with⟨c',z',hi,hid,rfl⟩|⟨hni,_⟩
      ·cases c' with
       |slot=>cases hid
       |_=>rfl
      ·exact absurd hcell hni
     obtain⟨a1,a2⟩:=hfr.keep k ok hko (fun h=>hki (ht k h)) hok hokl;exact⟨a1,fun p hp=>a2 p (by simp only[Xa,hks];exact hp)⟩
    have hother:∀s o p b,H[s]? =some o→o.live=true→ρ s=some p→p.has b→(∀k:Nat,σ[k]? ≠some s)→¬Xu (Xa σ ρ) (px.objs x) b:=fun s o p b ho hl hp hb hns hw=>by obtain⟨k,s',x',p',h1,h2,h3,h4,h5⟩:=hown b (hm.Xv ho hl hp hb) hw;have:=hm.diss s' s x' o p' p b h2 ho h3 hl h4 hp h5 hb;subst this;exact hns k h1
    have hsame:∀s o,H[s]? =some o→o.live=true→(∀k:Nat,σ[k]? =some s→k∉px.ids)→∀p,ρ s=some p→ρ3 s=some p∧∀b,p.has b→w'.heap[b]? =w.heap[b]? :=fun s o ho hl hni p hp=>by
     by_cases hin:∃k:Nat,σ[k]? =some s
     ·obtain⟨k,hks⟩:=hin;obtain⟨_,a2⟩:=hkeep k s hks (hni k hks) o ho hl;obtain⟨b1,b2⟩:=a2 p hp;exact⟨by rw[hρ3 k s hks];exact b1,b2⟩
     ·have hns:∀k:Nat,σ[k]? ≠some s:=fun k h=>hin ⟨k,h⟩;exact⟨by rw[hρ3' s hns];exact hp,fun b hb=>hfr.same b (hm.Xv ho hl hp hb) (hother s o p b ho hl hp hb hns)⟩
    have hsplit:∀s o,(Wn σ (px.Wi x z) px.ids (X7 (through σ px.mv) H))[s]? =some o→
      (∃k∈px.ids,σ[k]? =some s∧∃q,(px.Wi x z)[k]? =some q∧o=q.Zv fun k=>σ[k]?)∨
      (∃q,H[s]? =some q∧(o=q.forget (through σ px.mv)∨(through σ px.mv=[]∧o=q))∧∀k:Nat,σ[k]? =some s→k∉px.ids):=fun s o ho=>by
     rcases Qxw ho with h1|⟨h1,h2⟩
     ·exact .inl h1
     ·obtain⟨q,q1,q2⟩:=Qpo h1;refine .inr ⟨q,q1,q2,fun k hks hki=>?_⟩;have hkn:k<px.no:=Ky (List.all_eq_true.1 f7 k hki);have:k<(px.Wi x z).length:=by show k<(px.ω.st [] px.ids px.mv (Xx (px.objs x)) z).H.length;rw[Qi.Qb9,Qdo,Qci,Qa2];show k<(px.objs x).length;rw[hol];exact hkn
      have hn:=h2 k hki hks;rw[List.getElem?_eq_getElem this]at hn;cases hn
    have hlf:∀(q o:Qa),(o=q.forget (through σ px.mv)∨(through σ px.mv=[]∧o=q))→o.live=q.live:=fun q o h=>by
     rcases h with rfl|⟨_,rfl⟩
     ·exact Ju _ q
     ·rfl
    have hbut:Env.Vr (through σ px.mv) ρ ρ3:=fun s p hs hp=>by
     have hs:s∉through σ px.mv:=by simpa using hs
     by_cases hin:∃k:Nat,σ[k]? =some s
     ·obtain⟨k,hks⟩:=hin;rw[hstay k s hks fun hkm=>hs (Qf0.2 ⟨k,hkm,hks⟩)];exact hp
     ·rw[hρ3' s fun k h=>hin ⟨k,h⟩];exact hp
    have hmem3:Mem M' ρ3 (Wn σ (px.Wi x z) px.ids (X7 (through σ px.mv) H)) w':=by
     refine⟨hm'.imm,fun s o ho=>?_,fun s o p b ho hl hp hb=>?_,fun s s' o o' p p' b ho ho' hl hl' hp hp' hb hb'=>?_,fun s hs=>?_,fun s o p b ho hl hp hb=>?_⟩
     ·rcases hsplit s o ho with⟨k,hki,hks,q,hq,rfl⟩|⟨q,hq,hqo,hni⟩
      ·exact(hm'.own k q hq).Zv M'.le_refl hback (hρ3 k s hks) (fun _ _ _ _=>rfl)
      ·by_cases hl:q.live=true
       ·have hρs:ρ3 s=ρ s:=by
         by_cases hin:∃k:Nat,σ[k]? =some s
         ·obtain⟨k,hks⟩:=hin;exact hstay k s hks fun hkm=>hni k hks (hmvi k hkm)
         ·exact hρ3' s fun k h=>hin ⟨k,h⟩
        have:=(hm.own s q hq).forget (d:=through σ px.mv) hfr.imm hbut hρs fun p b hp hb=>(hsame s q hq hl hni p hp).2 b hb;rcases hqo with rfl|⟨e,rfl⟩
        ·exact this
        ·rwa[e,Qa.W6]at this
       ·have e0:=Kx hl;subst e0;rcases hqo with rfl|⟨_,rfl⟩<;>trivial
     ·rcases hsplit s o ho with⟨k,hki,hks,q,hq,rfl⟩|⟨q,hq,hqo,hni⟩
      ·rw[Qdj]at hl;rw[hρ3 k s hks]at hp;exact hm'.seps k q p b hq hl hp hb
      ·rw[hlf q o hqo]at hl;by_cases hin:∃k:Nat,σ[k]? =some s
       ·obtain⟨k,hks⟩:=hin;obtain⟨⟨o',a1,a2⟩,_⟩:=hkeep k s hks (hni k hks) q hq hl;rw[hρ3 k s hks]at hp;exact hm'.seps k o' p b a1 a2 hp hb
       ·have hns:∀k:Nat,σ[k]? ≠some s:=fun k h=>hin ⟨k,h⟩;rw[hρ3' s hns]at hp;cases e:M' b with
        |none=>rfl
        |some ob=>
         rcases hfr.new b ob (hm.seps s q p b hq hl hp hb) e with h1|h1
         ·have:=hm.Xv hq hl hp hb;omega
         ·exact absurd h1 (hother s q p b hq hl hp hb hns)
     ·
      have htw:∀s o p,(Wn σ (px.Wi x z) px.ids (X7 (through σ px.mv) H))[s]? =some o→o.live=true→ρ3 s=some p→
        (∃k q,σ[k]? =some s∧(px.Wi x z)[k]? =some q∧q.live=true∧ρ' k=some p)∨((∀k:Nat,σ[k]? ≠some s)∧∃q,H[s]? =some q∧q.live=true∧ρ s=some p):=fun s o p ho hl hp=>by
       rcases hsplit s o ho with⟨k,hki,hks,q,hq,rfl⟩|⟨q,hq,hqo,hni⟩
       ·rw[Qdj]at hl;rw[hρ3 k s hks]at hp;exact .inl ⟨k,q,hks,hq,hl,hp⟩
       ·rw[hlf q o hqo]at hl;by_cases hin:∃k:Nat,σ[k]? =some s
        ·obtain⟨k,hks⟩:=hin;obtain⟨⟨o',a1,a2⟩,_⟩:=hkeep k s hks (hni k hks) q hq hl;rw[hρ3 k s hks]at hp;exact .inl ⟨k,o',hks,a1,a2,hp⟩
        ·have hns:∀k:Nat,σ[k]? ≠some s:=fun k h=>hin ⟨k,h⟩;rw[hρ3' s hns]at hp;exact .inr ⟨hns,q,hq,hl,hp⟩
      have hcross:∀(k s':Nat) (q:Qa) (q':Qa) (p p':Place),(px.Wi x z)[k]? =some q→q.live=true→ρ' k=some p→(∀k:Nat,σ[k]? ≠some s')→H[s']? =some q'→q'.live=true→ρ s'=some p'→p.has b→p'.has b→False:=fun k s' q q' p p' h1 h2 h3 h4 h5 h6 h7 h8 h8'=>by
       have hlt2:=hm.Xv h5 h6 h7 h8';rcases hfr.own b ⟨k,q,p,h1,h2,h3,h8⟩with h9|h9
       ·omega
       ·exact hother s' q' p' b h5 h6 h7 h8' h4 h9
      rcases htw s o p ho hl hp with⟨k,q,a1,a2,a3,a4⟩|⟨a1,q,a2,a3,a4⟩
      ·rcases htw s' o' p' ho' hl' hp' with⟨k',q',b1,b2,b3,b4⟩|⟨b1,q',b2,b3,b4⟩
       ·have:=hm'.diss k k' q q' p p' b a2 b2 a3 b3 a4 b4 hb hb';subst this;rw[a1]at b1;cases b1;rfl
       ·exact(hcross k s' q q' p p' a2 a3 a4 b1 b2 b3 b4 hb hb').elim
      ·rcases htw s' o' p' ho' hl' hp' with⟨k',q',b1,b2,b3,b4⟩|⟨b1,q',b2,b3,b4⟩
       ·exact(hcross k' s q' q p' p b2 b3 b4 a1 a2 a3 a4 hb' hb).elim
       ·exact hm.diss s s' q q' p p' b a2 b2 a3 b3 a4 b4 hb hb'
     ·rw[Qpq,Qa2]at hs;have hns:∀k:Nat,σ[k]? ≠some s:=fun k h=>by have:=hlt k s h;omega
      rw[hρ3' s hns];exact hm.fresh s hs
     ·rcases hsplit s o ho with⟨k,hki,hks,q,hq,rfl⟩|⟨q,hq,hqo,hni⟩
      ·rw[Qdj]at hl;rw[hρ3 k s hks]at hp;exact hm'.lts k q p b hq hl hp hb
      ·rw[hlf q o hqo]at hl;by_cases hin:∃k:Nat,σ[k]? =some s
       ·obtain⟨k,hks⟩:=hin;obtain⟨⟨o',a1,a2⟩,_⟩:=hkeep k s hks (hni k hks) q hq hl;rw[hρ3 k s hks]at hp;exact hm'.lts k o' p b a1 a2 hp hb
       ·have hns:∀k:Nat,σ[k]? ≠some s:=fun k h=>hin ⟨k,h⟩;rw[hρ3' s hns]at hp;exact Nat.lt_of_lt_of_le (hm.lts s q p b hq hl hp hb) hfr.grow
    refine⟨v,_,_,M',ρ3,_,_,he,hk,hs.Zv M'.le_refl hback,hmem3,?_⟩;have hup:∀b,b<w.heap.size→Xu (Xa σ ρ) (px.objs x) b→Xu ρ H b:=fun b hb ho=>by obtain⟨k,s,x',p,h1,h2,h3,h4,h5⟩:=hown b hb ho;exact⟨s,x',p,h2,h3,h4,h5⟩
    refine⟨hfr.imm,fun b ob h0 h1=>?_,fun b hb=>?_,fun b hb hno2=>hfr.same b hb fun ho=>hno2 (hup b hb ho),hfr.grow,fun s o hsn hst ho hl=>?_,fun s hsn hsm=>?_,hfr.io⟩
    ·rcases hfr.new b ob h0 h1 with h2|h2
     ·exact .inl h2
     ·by_cases hb:b<w.heap.size
      ·exact .inr (hup b hb h2)
      ·exact .inl (by omega)
    ·obtain⟨s,o,p,h1,h2,h3,h4⟩:=hb;rcases hsplit s o h1 with⟨k,hki,hks,q,hq,rfl⟩|⟨q,hq,hqo,hni⟩
     ·rw[Qdj]at h2;rw[hρ3 k s hks]at h3;rcases hfr.own b ⟨k,q,p,hq,h2,h3,h4⟩with h5|h5
      ·exact .inl h5
      ·by_cases hb:b<w.heap.size
       ·exact .inr (hup b hb h5)
       ·exact .inl (by omega)
     ·rw[hlf q o hqo]at h2;refine .inr ⟨s,q,p,hq,h2,?_,h4⟩;by_cases hin:∃k:Nat,σ[k]? =some s
      ·obtain⟨k,hks⟩:=hin;rw[hstay k s hks fun hkm=>hni k hks (hmvi k hkm)]at h3;exact h3
      ·rw[hρ3' s fun k h=>hin ⟨k,h⟩]at h3;exact h3
    ·have hni:∀k:Nat,σ[k]? =some s→k∉px.ids:=fun k hks hki=>hst (Qf0.2 ⟨k,hki,hks⟩);refine⟨?_,hsame s o ho hl hni⟩;have hlen2:s<(Wn σ (px.Wi x z) px.ids (X7 (through σ px.mv) H)).length:=by rw[Qpq,Qa2];exact hsn
     obtain⟨o2,ho2⟩:∃o2,(Wn σ (px.Wi x z) px.ids (X7 (through σ px.mv) H))[s]? =some o2:=⟨_,List.getElem?_eq_getElem hlen2⟩;refine⟨o2,ho2,?_⟩;rcases hsplit s o2 ho2 with⟨k,hki,hks,_⟩|⟨q,hq,hqo,_⟩
     ·exact absurd hki (hni k hks)
     ·rw[ho]at hq;cases hq;rw[hlf o o2 hqo];exact hl
    ·by_cases hin:∃k:Nat,σ[k]? =some s
     ·obtain⟨k,hks⟩:=hin;exact hstay k s hks fun hkm=>hsm (Qf0.2 ⟨k,hkm,hks⟩)
     ·exact hρ3' s fun k h=>hin ⟨k,h⟩
def Qyq(cx:Cx)(fn:Func)(px:PX):KX px.ω.El:=fun e s=>
 gd (Qhf e&&(s.marks.isEmpty||Nat.ble px.no s.H.length)) (match shut s.marks s.H with
  |none=>none
  |some H'=>Un cx {s with H:=H',marks:=[]} fn.results.toList fun l=>
   gd (Nat.beq l.length px.nr) (Qaw px.ω [] px.ids px.mv px.no {T:=U6 (.full 8) 0 l,H:=H',n0:=px.no,tch:=s.tch,fg:=s.fg,marks:=[],er:=[]}))
def Qlo(cx:Cx)(lx:Lx)(n:Nat)(an:Q6)(fn:Func)(c:Code)(px:PX)(x:px.τ.El):Option px.ω.El:=
 Y8 cx lx n px.ω.El (Z0.eqv px.ω.cells) an true fn.ntmps c (.entry (px.args x) (px.objs x)) (Qyq cx fn px)
theorem Zk2{cx:Cx}{fn:Func}{px:PX}{e:Exit}{s:St}{y:px.ω.El}(h:Qyq cx fn px e s=some y):
  (e = .normal ∨ e = .ret) ∧ (px.no ≤ s.H.length ∨ s.marks = []) ∧ ∃ H',shut s.marks s.H = some H' ∧ Vj cx { s with H := H',marks := [] } fn.results.toList fun l =>
   l.length=px.nr∧Qaw px.ω [] px.ids px.mv px.no {T:=U6 (.full 8) 0 l,H:=H',n0:=px.no,tch:=s.tch,fg:=s.fg,marks:=[],er:=[]}=some y:=by
 obtain⟨h1,h⟩:=Ya h;simp only[Bool.and_eq_true,Bool.or_eq_true,List.isEmpty_iff]at h1;refine⟨Qh4 h1.1,h1.2.symm.imp (fun h=>Nat.le_of_ble_eq_true h) id,?_⟩;split at h
 ·cases h
 ·rename_i H' hs;refine⟨H',hs,Qac _ _ _ (fun l hl=>?_) (Qbj _ _ h)⟩;obtain⟨h2,hl⟩:=Ya hl;exact⟨Nat.eq_of_beq_eq_true h2,hl⟩
theorem PX.Qmn(px:PX)(x:px.τ.El):(px.objs x).length=px.no:=by show(px.τ.st [] (List.range px.no) [] (Xx (W4 px.no)) x).H.length=_;rw[Qi.Qb9,Qdo,Qci,Qa2];simp[Xx,W4]
theorem Zpu{M:Qc}{ρ:Env}{v:Value}{l:List SV}(h:Qd M ρ v (Y0 l)):∃vs:List Value,Xn M ρ vs l∧∀(M2:Qc) (ρ2:Env) (l2:List SV),l2.length=l.length→Xn M2 ρ2 vs l2→Qd M2 ρ2 v (Y0 l2):=by
 match l,h with
 |[x],h=>
  refine⟨[v],⟨rfl,fun i u y hu hy=>?_⟩,fun M2 ρ2 l2 hl hr=>?_⟩
  ·cases i with
   |zero=>simp at hu hy;subst hu;subst hy;exact h
   |succ i=>simp at hu
  ·match l2,hl,hr with
   |[y],_,hr=>exact hr.2 0 v y rfl rfl
 |[],h=>
  have h:Qd M ρ v (.tup []):=h;cases h with
  |tup cs _ hl hr=>
   refine⟨cs.toList,⟨by simpa using hl,fun i u y hu hy=>by simp at hy⟩,fun M2 ρ2 l2 hl2 hr2=>?_⟩;match l2,hl2 with
   |[],_=>exact .tup cs _ hl fun i v x hv hx=>by simp at hx
 |a::b::l,h=>
  have h:Qd M ρ v (.tup (a::b::l)):=h;cases h with
  |tup cs _ hl hr=>
   refine⟨cs.toList,⟨by simpa using hl,fun i u y hu hy=>hr i u y (by rw[←Array.getElem?_toList];exact hu) hy⟩,fun M2 ρ2 l2 hl2 hr2=>?_⟩;match l2,hl2,hr2 with
   |x::y::l2,hl2,hr2=>exact .tup cs _ (by rw[hl,hl2]) fun i v z hv hz=>hr2.2 i v z (by rw[Array.getElem?_toList];exact hv) hz
theorem Zc.Zr{cx:Cx}(hcx:cx.Ok){lx:Lx}(hlx:lx.Ok cx){n g:Nat}{an:Q6}{fn:Func}{c:Code}{px:PX}(hf:cx.fns.lookup g=some fn)(hb:fn.body=some c)
  (hcode:∀x y,px.code x=some y→Qlo cx lx n an fn c px x=some y) (hn:Nat.ble px.np fn.ntmps=true) (hcov:(px.ω.J1 px.ids&&subset px.mv px.ids)=true):Zc cx g px:=by
 rw[Bool.and_eq_true]at hcov;refine⟨⟨fn,hf⟩,fun x y hy=>?_⟩;have hw:=(Qh8 hcx hlx n).1 _ _ (Z0.eqv_ok px.ω.cells) none an true fn.ntmps c _ _ y (fun _=>rfl) (hcode x y hy);have hcall:Yu cx.P g (px.args x) (px.objs x) fun r H' t f=>∃l,r=Y0 l∧l.length=px.nr∧Qaw px.ω [] px.ids px.mv px.no {T:=U6 (.full 8) 0 l,H:=H',n0:=px.no,tch:=t,fg:=f,marks:=[],er:=[]}=some y:=by refine Qh9 hcx hf hb (by rw[show(px.args x).length=px.np from Qnm _ _];exact Nat.le_of_ble_eq_true hn) (hw.mono fun e s hs=>?_);obtain⟨h1,h1',H',h2,h3⟩:=Zk2 hs;exact⟨h1,h1'.imp (fun h=>by rw[px.Qmn];exact h) id,H',h2,Qac _ _ _ (fun l h4=>⟨l,rfl,h4⟩) h3⟩
 intro M ρ w vs hm hr;refine(hcall M ρ w vs hm hr).mono ?_
 rintro e w' ⟨v,r,H',M',ρ',t,f,he,⟨l,rfl,hl,hrd⟩,hs,hm',hfr⟩
 obtain⟨us,hus,hback⟩:=Zpu hs;obtain⟨r1,c',hc,r2⟩:=Qrp hrd;have hno:px.no≤H'.length:=by simp only[St.reads,Bool.and_eq_true]at r1;exact Nat.le_of_ble_eq_true r1.2.2.2.2
 have hg:=Qur (n:=px.no) (tch:=t) (fg:=f) hm' hus hno;have hbl:(Xx (px.objs x)).H.length=px.no:=px.Qmn x;obtain⟨M2,ρ2,g1,g2,_,_⟩:=K6 (τ:=px.ω) (D:=[]) (ids:=px.ids) (mv:=px.mv) (b:=Xx (px.objs x)) (H0:=px.objs x) (M0:=M) (ρ0:=ρ) (a0:=Kt us) (w0:=w) (fun _ _=>rfl) (Zxk hm _ _ _) hm hg
  (by rw[hbl];rw[px.Qmn]at hfr;exact hfr) hcov.2 hcov.1 (by rw[hbl];exact r1) (by rw[hbl];exact r2) hc
 rw[hbl]at g2;have hus2:us.length=px.nr:=by rw[hus.1,hl]
 refine⟨v,_,_,M2,ρ2,px.ids,px.mv,he,⟨rfl,rfl,fun i h=>h,fun i h=>h⟩,hback M2 ρ2 _ (by rw[hl];exact Qnm _ _) (Qth g1 hus2),g1.mem,?_⟩;rw[px.Qmn];exact g2
end Go.Sx

/- Part Qs of the own logic: an owned row becomes immutable where it stands. Own rows that a function of data gets: they become immutable at the call. And further parts. -/
import Derived.Test.YtpkbmngnolhopaaGreatDoorXSxP
set_option linter.unusedVariables false
set_option linter.unusedSimpArgs false
set_option linter.unnecessarySimpa false
section
namespace Go.Sx
open Go
def TT.all(p:SV→Bool):TT→Bool
 |.nil=>true
 |.node l v r=>l.all p&&((match v with|some x=>p x|none=>true)&&r.all p)
theorem TT.Qp6{p:SV→Bool}:∀{T:TT} {t:Nat} {x:SV},T.all p=true→T.get t=some x→p x=true
 |.nil,t,x,_,h=>by simp[TT.get]at h
 |.node l v r,t,x,ha,h=>by
  simp only[TT.all,Bool.and_eq_true]at ha;simp only[TT.get]at h;cases h0:Nat.beq t 0 with
  |true=>rw[h0]at h;simp only[cond_true]at h;subst h;exact ha.2.1
  |false=>
   rw[h0]at h;simp only[cond_false]at h;cases h1:Nat.beq (t%2) 1 with
   |true=>rw[h1]at h;exact TT.Qp6 ha.1 h
   |false=>rw[h1]at h;exact TT.Qp6 ha.2.2 h
mutual
def X2(k:Nat)(row:List Ty)(l:List (Qh row)):SV→SV
 |.sl s sz st n=>match Nat.beq s k with
  |true=>match st with
   |0=>.pv (.tsl row l)
   |_+1=>.any
  |false=>.sl s sz st n
 |.agg x=>.agg (Qd8 k row l x)
 |.tup x=>.tup (Qd8 k row l x)
 |.fn f a b=>.fn f (Qd8 k row l a) (Qd8 k row l b)
 |.ptr s sz i j=>.ptr s sz i j
 |.mp s=>.mp s
 |.yld s=>.yld s
 |.slb _ _ _ _ _=>.any
 |.any=>.any
 |.pv p=>.pv p
def Qd8(k:Nat)(row:List Ty)(l:List (Qh row)):List SV→List SV
 |[]=>[]
 |x::xs=>X2 k row l x::Qd8 k row l xs
end
mutual
def sealC(k:Nat)(row:List Ty)(l:List (Qh row)):SV→Bool
 |.sl s sz st n=>match Nat.beq s k with
  |true=>match st with
   |0=>Nat.beq sz row.length&&decide (n=l.length)
   |_+1=>true
  |false=>true
 |.agg x=>Qch k row l x
 |.tup x=>Qch k row l x
 |.fn f a b=>Qch k row l a&&Qch k row l b
 |_=>true
def Qch(k:Nat)(row:List Ty)(l:List (Qh row)):List SV→Bool
 |[]=>true
 |x::xs=>sealC k row l x&&Qch k row l xs
end
theorem Qvz(k:Nat)(row:List Ty)(l:List (Qh row))(xs:List SV):Qd8 k row l xs=xs.map (X2 k row l):=by
 induction xs with
 |nil=>rfl
 |cons x xs ih=>simp only[Qd8,List.map_cons,ih]
theorem Qe2{k:Nat}{row:List Ty}{l:List (Qh row)}:∀{xs:List SV},Qch k row l xs=true→∀(i:Nat) (x:SV),xs[i]? =some x→sealC k row l x=true
 |[],_,i,x,h=>by simp at h
 |y::xs,hc,i,x,h=>by
  simp only[Qch,Bool.and_eq_true]at hc;cases i with
  |zero=>simp at h;subst h;exact hc.1
  |succ i=>exact Qe2 hc.2 i x (by simpa using h)
def Qb.Ka(k:Nat)(row:List Ty)(l:List (Qh row)):Qb→Qb
 |.mix ty sz rows=>.mix ty sz (rows.map (·.map (X2 k row l)))
 |.tlnk ty row' l' r c x=>.tlnk ty row' l' r c (X2 k row l x)
 |.nest ty ity row' ll q=>.nest ty ity row' ll (q.map fun x=>(x.1,X2 k row l x.2))
 |.map es c=>.map (es.map fun e=>(e.1,X2 k row l e.2.1,e.2.2)) c
 |.loop x=>.loop {x with T:=x.T.map (X2 k row l)}
 |o=>o
def Qb.sealC(k:Nat)(row:List Ty)(l:List (Qh row)):Qb→Bool
 |.mix ty sz rows=>rows.all (Qch k row l)
 |.tlnk _ _ _ _ _ x=>Sx.sealC k row l x
 |.nest _ _ _ _ q=>match q with
  |some x=>Sx.sealC k row l x.2
  |none=>true
 |.map es c=>es.all fun e=>Sx.sealC k row l e.2.1
 |.loop x=>x.T.all (Sx.sealC k row l)
 |_=>true
def oneLive(H:List Qb)(k:Nat)(o:Qb):List Qb:=(H.map fun _=>Qb.dead).set k o
theorem Qcv{H:List Qb}{k s:Nat}{o x:Qb}(h:(oneLive H k o)[s]? =some x):(s=k∧x=o)∨(s≠k∧x=.dead):=by
 unfold oneLive at h;rw[List.getElem?_set]at h;split at h
 ·rename_i e;subst e;split at h
  ·cases h;exact .inl ⟨rfl,rfl⟩
  ·cases h
 ·rename_i e;simp only[List.getElem?_map,Option.map_eq_some_iff]at h;obtain⟨_,_,rfl⟩:=h;exact .inr ⟨fun h=>e h.symm,rfl⟩
theorem Mem.oneLive{M:Qd}{ρ:Env}{H:List Qb}{w:World}(hm:Mem M ρ H w){k:Nat}{o o1:Qb}(hk:H[k]? =some o1)(hl:o1.live=true)(ho:Q3 M ρ w k o):Mem M ρ (Sx.oneLive H k o) w:=by
 refine⟨hm.imm,fun s x hx=>?_,fun s x p b hx hlx hp hb=>?_,fun s s' x x' p p' b hx hx' hlx hlx' hp hp' hb hb'=>?_,fun s hs=>hm.fresh s (by simpa[Sx.oneLive]using hs),fun s x p b hx hlx hp hb=>?_⟩
 ·rcases Qcv hx with⟨rfl,rfl⟩|⟨_,rfl⟩
  ·exact ho
  ·trivial
 ·rcases Qcv hx with⟨rfl,rfl⟩|⟨_,rfl⟩
  ·exact hm.seps s o1 p b hk hl hp hb
  ·cases hlx
 ·rcases Qcv hx with⟨rfl,rfl⟩|⟨_,rfl⟩
  ·rcases Qcv hx' with⟨rfl,rfl⟩|⟨_,rfl⟩
   ·rfl
   ·cases hlx'
  ·cases hlx
 ·rcases Qcv hx with⟨rfl,rfl⟩|⟨_,rfl⟩
  ·exact hm.lts s o1 p b hk hl hp hb
  ·cases hlx
theorem Zkg{M M':Qd}{ρ:Env}{k:Nat}{row:List Ty}{l:List (Qh row)}(hle:M.le M')(hk:∀v,Qe M ρ v (.sl k row.length 0 l.length)→Zq M' v (.tsl row l)){v:Value}{x:SV}(h:Qe M ρ v x):sealC k row l x=true→Qe M' ρ v (X2 k row l x):=by
 induction h with
 |any v=>intro _;exact .any v
 |pv h=>intro _;exact .pv (h.mono hle)
 |agg cs xs hl _ ih=>intro hc;simp only[sealC]at hc;simp only[X2,Qvz];refine .agg cs _ (by simpa using hl) fun i v x hv hx=>?_;simp only[List.getElem?_map,Option.map_eq_some_iff]at hx;obtain⟨y,hy,rfl⟩:=hx;exact ih i v y hv hy (Qe2 hc i y hy)
 |tup cs xs hl _ ih=>intro hc;simp only[sealC]at hc;simp only[X2,Qvz];refine .tup cs _ (by simpa using hl) fun i v x hv hx=>?_;simp only[List.getElem?_map,Option.map_eq_some_iff]at hx;obtain⟨y,hy,rfl⟩:=hx;exact ih i v y hv hy (Qe2 hc i y hy)
 |ptr s sz i j kk p hp hkk=>intro _;exact .ptr s sz i j kk p hp hkk
 |sl s sz st n c kk p hp hkk hc hn h6=>
  intro hcc;simp only[sealC]at hcc;simp only[X2];split
  ·rename_i e;have e:=Nat.eq_of_beq_eq_true e;subst e;rw[Nat.beq_refl]at hcc;simp only at hcc;cases st with
   |zero=>simp only[Bool.and_eq_true]at hcc;have e1:=Nat.eq_of_beq_eq_true hcc.1;have e2:=of_decide_eq_true hcc.2;subst e1;subst e2;exact .pv (hk _ (.sl _ _ _ _ c kk p hp hkk hc hn h6))
   |succ st=>exact .any _
  ·exact .sl s sz st n c kk p hp hkk hc hn h6
 |slz s sz st a=>
  intro hcc;simp only[sealC]at hcc;simp only[X2];split
  ·rename_i e;have e:=Nat.eq_of_beq_eq_true e;subst e;rw[Nat.beq_refl]at hcc;simp only at hcc;cases st with
   |zero=>simp only[Bool.and_eq_true]at hcc;have e1:=Nat.eq_of_beq_eq_true hcc.1;have e2:=of_decide_eq_true hcc.2;subst e1;refine .pv (hk _ ?_);rw[←e2];exact .slz _ _ _ _
   |succ st=>exact .any _
  ·exact .slz s sz st a
 |mp s p hp=>intro _;exact .mp s p hp
 |yld s p hp=>intro _;exact .yld s p hp
 |slb s sz st n m _ _ _=>intro _;exact .any _
 |fn f a b x y ha hb _ _ ih jh=>
  intro hc;simp only[sealC,Bool.and_eq_true]at hc;simp only[X2,Qvz];refine .fn f a b _ _ (by simpa using ha) (by simpa using hb) (fun i v s hv hs=>?_) (fun i v s hv hs=>?_)
  ·simp only[List.getElem?_map,Option.map_eq_some_iff]at hs;obtain⟨y,hy,rfl⟩:=hs;exact ih i v y hv hy (Qe2 hc.1 i y hy)
  ·simp only[List.getElem?_map,Option.map_eq_some_iff]at hs;obtain⟨y,hy,rfl⟩:=hs;exact jh i v y hv hy (Qe2 hc.2 i y hy)
theorem Q3.Ka{M M':Qd}{ρ:Env}{w:World}{k s:Nat}{row:List Ty}{l:List (Qh row)}{o:Qb}(hle:M.le M')(hf:∀v x,Qe M ρ v x→Sx.sealC k row l x=true→Qe M' ρ v (X2 k row l x))(hc:o.sealC k row l=true)(h:Q3 M ρ w s o):Q3 M' ρ w s (o.Ka k row l):=by
 cases o with
 |mix ty sz rows=>
  simp only[Qb.sealC]at hc;rcases h with⟨h1,h2⟩|⟨p,h1,h2⟩
  ·exact .inl ⟨h1,by simp[h2]⟩
  ·refine .inr ⟨p,h1,?_⟩;obtain⟨cs,a1,a2,a3,a4,a5,a6⟩:=h2.ex;have key:∀i j x,Xa (rows.map (·.map (X2 k row l))) i j=some x→∃y,Xa rows i j=some y∧x=X2 k row l y∧Sx.sealC k row l y=true:=fun i j x hx=>by unfold Xa at hx;simp only[List.getElem?_map,Option.bind_eq_some_iff,Option.map_eq_some_iff]at hx;obtain⟨r',⟨r,hr,rfl⟩,hx⟩:=hx;simp only[List.getElem?_map,Option.map_eq_some_iff]at hx;obtain⟨y,hy,rfl⟩:=hx;exact⟨y,by simp[Xa,hr,hy],rfl,Qe2 (List.all_eq_true.1 hc r (List.mem_of_getElem? hr)) j y hy⟩
   refine⟨cs,a1,a2,by simpa using a3,by simpa using a4,fun i j x v hx hv=>?_,fun i j x hx=>?_⟩
   ·obtain⟨y,hy,rfl,hcy⟩:=key i j x hx;obtain⟨b1,b2,b3⟩:=a5 i j y v hy hv;exact⟨by simpa using b1,b2,hf v y b3 hcy⟩
   ·obtain⟨y,hy,_⟩:=key i j x hx;simpa using a6 i j y hy
 |tlnk ty row' l' r c x=>
  simp only[Qb.sealC]at hc;rcases h with⟨h1,h2⟩|⟨p,h1,h2⟩
  ·exact .inl ⟨h1,h2⟩
  ·refine .inr ⟨p,h1,?_⟩;obtain⟨cs,a1,a2,a3,a4,a5,a6⟩:=h2.ex;refine⟨cs,a1,a2,a3,a4,fun i j z v hz hv=>?_,fun i j z hz=>?_⟩
   ·obtain⟨y,hy,rfl,hcy⟩:=Qld (f:=X2 k row l) (fun _=>rfl) hz;obtain⟨b1,b2,b3⟩:=a5 i j y v hy hv;refine⟨b1,b2,hf v y b3 ?_⟩;rcases hcy with rfl|⟨p,rfl⟩
    ·exact hc
    ·rfl
   ·obtain⟨y,hy,_⟩:=Qld (f:=X2 k row l) (fun _=>rfl) hz;exact a6 i j y hy
 |nest ty ity row' ll q=>
  rcases h with⟨h1,h2,h3⟩|⟨p,h1,h2⟩
  ·subst h3;exact .inl ⟨h1,h2,rfl⟩
  refine .inr ⟨p,h1,h2.goes hle rfl rfl rfl (fun _ _=>rfl) (by cases q<;>rfl) fun i x y v e1 e2 hr=>?_⟩;rw[e1]at e2;simp only[Option.map_some,Option.some.injEq,Prod.mk.injEq,true_and]at e2;subst e2;subst e1;exact hf v _ hr hc
 |map es c=>simp only[Qb.sealC]at hc;obtain⟨p,arr,h1,h2,h3,h4⟩:=h;refine⟨p,arr,h1,h2,by simpa using h3,fun i kk x b hi=>?_⟩;simp only[List.getElem?_map,Option.map_eq_some_iff]at hi;obtain⟨e,he,hq⟩:=hi;simp only[Prod.mk.injEq]at hq;obtain⟨rfl,rfl,rfl⟩:=hq;obtain⟨me,m1,m2,m3,m4⟩:=h4 i e.1 e.2.1 e.2.2 he;exact⟨me,m1,m2,m3,hf _ _ m4 (List.all_eq_true.1 hc e (List.mem_of_getElem? he))⟩
 |loop L=>simp only[Qb.sealC]at hc;obtain⟨p,fn,tmps,q,h1,h2,h3,h4⟩:=h;refine⟨p,fn,tmps,q,h1,h2,h3,fun t x hx=>?_⟩;rw[TT.get_map,Option.map_eq_some_iff]at hx;obtain⟨y,hy,rfl⟩:=hx;exact hf _ _ (h4 t y hy) (TT.Qp6 hc hy)
 |dead=>exact h.mono hle ρ.le_refl rfl fun _ _ _ _=>rfl
 |vec _ _ _=>exact h.mono hle ρ.le_refl rfl fun _ _ _ _=>rfl
 |tvec _ _ _=>exact h.mono hle ρ.le_refl rfl fun _ _ _ _=>rfl
 |tmap _ _ _=>exact h.mono hle ρ.le_refl rfl fun _ _ _ _=>rfl
 |iter _ _=>exact h.mono hle ρ.le_refl rfl fun _ _ _ _=>rfl
 |over _ _=>exact h.mono hle ρ.le_refl rfl fun _ _ _ _=>rfl
 |mit _ _ _=>exact h.mono hle ρ.le_refl rfl fun _ _ _ _=>rfl
 |dfr _=>exact h.mono hle ρ.le_refl rfl fun _ _ _ _=>rfl
theorem Qj4(k:Nat)(row:List Ty)(l:List (Qh row))(o:Qb):(o.Ka k row l).live=o.live:=by cases o<;>rfl
def Yje(k ty:Nat)(row:List Ty)(H:List Qb):Option (Bool×List (Qh row)):=(Qq.vec k ty row).get .nil H H.length
def Qll(k ty:Nat)(row:List Ty)(s:St):Option (Bool×St):=match Yje k ty row s.H with
 |none=>none
 | some a=>some (a.1 && (s.T.all (sealC k row a.2) && s.H.all (Qb.sealC k row a.2)),
   {T:=s.T.map (X2 k row a.2),H:=(s.H.map (Qb.Ka k row a.2)).set k .dead,n0:=s.n0,tch:=Xb s.n0 [k] s.tch,fg:=s.fg,marks:=s.marks,er:=s.er})
theorem Zxi{M:Qd}{ρ:Env}{H:List Qb}{w:World}:M.sealing ρ H H.length w=M:=by
 funext b;unfold Qd.sealing;cases M b with
 |some o=>rfl
 |none=>
  simp only;rw[if_neg]
  rintro ⟨s,o,p,h1,h2,_⟩
  have:=(List.getElem?_eq_some_iff.1 h2).1;omega
theorem Zgs{M:Qd}{ρ:Env}{H:List Qb}{w:World}(hm:Mem M ρ H w):ρ.cut H.length=ρ:=by
 funext s;unfold Env.cut;split
 ·rfl
 ·rename_i h;exact(hm.fresh s (by omega)).symm
theorem Zio{R:Option Nat}{P:Program}{nt:Nat}{c:Code}{Q:Exit→St→Prop}{s s':St}{k ty:Nat}{row:List Ty}{cc:Bool}(hs:Qll k ty row s=some (cc,s'))(hc:cc=true)
  (h:Zl R P nt c Q s'):Zl R P nt c Q s:=by
 unfold Qll at hs;split at hs
 ·cases hs
 ·rename_i a ha;cases hs;obtain⟨c1,l⟩:=a;simp only[Bool.and_eq_true]at hc;obtain⟨hc1,hc2,hc3⟩:=hc;intro B M ρ act w hg;have hm:=hg.mem;have ha:(Qq.vec k ty row).get .nil s.H s.H.length=some (c1,l):=ha;obtain⟨o,ho,hl,hlen⟩:=Qq.Qwu (H1:=[]) ha hc1 rfl;have hks:k<s.H.length:=(List.getElem?_eq_some_iff.1 ho).1;have hown:=Qq.Zhs (H1:=[]) hm ha hc1 rfl hks (fun q hq=>by cases hq);rw[Zxi,Zgs hm]at hown;have hown:Q3 M ρ w k (.tvec ty row l):=hown;have hm1:=Mem.oneLive hm ho hl hown;have hle:=Qd.J1 M ρ (Sx.oneLive s.H k (.tvec ty row l)) 0 w;have hget:(Sx.oneLive s.H k (.tvec ty row l))[k]? =some (.tvec ty row l):=by simp[Sx.oneLive,hks]
  have hnew:∀b ob,M b=none→M.sealing ρ (Sx.oneLive s.H k (.tvec ty row l)) 0 w b=some ob→(∃p,ρ k=some p∧p.block=b)∧w.heap[b]? =some ob:=fun b ob h0 h1=>by
   obtain⟨⟨s2,o2,p2,q1,q2,q3,q4,q5⟩,q6⟩:=Qd.Vk h0 h1;rcases Qcv q2 with⟨rfl,rfl⟩|⟨_,rfl⟩
   ·exact⟨⟨p2,q4,q5⟩,q6⟩
   ·cases q3
  have hslice:∀v,Qe M ρ v (.sl k row.length 0 l.length)→Zq (M.sealing ρ (Sx.oneLive s.H k (.tvec ty row l)) 0 w) v (.tsl row l):=fun v hr=>by
   refine Qjt hm1 (Nat.zero_le _) hget rfl rfl (by simp[Qb.len]) rfl (fun i y hy=>?_) hr;have:(Qb.tvec ty row l).row (0+i)=(Zj row y).map .pv:=by simp only[Qb.row,List.getD,Nat.zero_add,hy,Option.getD_some]
   rw[this];exact .self hle y
  have hf:∀v x,Qe M ρ v x→Sx.sealC k row l x=true→Qe (M.sealing ρ (Sx.oneLive s.H k (.tvec ty row l)) 0 w) ρ v (X2 k row l x):=fun v x h hc=>Zkg hle hslice h hc;generalize hM2:M.sealing ρ (Sx.oneLive s.H k (.tvec ty row l)) 0 w=M2 at hle hnew hslice hf;have hobj:∀t x,((s.H.map (Qb.Ka k row l)).set k .dead)[t]? =some x→(t=k∧x=.dead)∨(t≠k∧∃y,s.H[t]? =some y∧x=y.Ka k row l):=fun t x hx=>by
   rw[List.getElem?_set]at hx;split at hx
   ·rename_i e;subst e;split at hx
    ·cases hx;exact .inl ⟨rfl,rfl⟩
    ·cases hx
   ·rename_i e;simp only[List.getElem?_map,Option.map_eq_some_iff]at hx;obtain⟨y,hy,rfl⟩:=hx;exact .inr ⟨fun h=>e h.symm,y,hy,rfl⟩
  have hmem2:Mem M2 ρ ((s.H.map (Qb.Ka k row l)).set k .dead) w:=by
   refine⟨fun b ob hb=>?_,fun t x hx=>?_,fun t x p b hx hlx hp hb=>?_,fun t t' x x' p p' b hx hx' hlx hlx' hp hp' hbk hbk'=>?_,fun t ht=>hm.fresh t (by simpa using ht),fun t x p b hx hlx hp hb=>?_⟩
   ·cases e:M b with
    |some o'=>rw[hle b o' e]at hb;cases hb;exact hm.imm b _ e
    |none=>exact(hnew b ob e hb).2
   ·rcases hobj t x hx with⟨rfl,rfl⟩|⟨_,y,hy,rfl⟩
    ·trivial
    ·exact(hm.own t y hy).Ka hle hf (List.all_eq_true.1 hc3 y (List.mem_of_getElem? hy))
   ·rcases hobj t x hx with⟨rfl,rfl⟩|⟨hne,y,hy,rfl⟩
    ·cases hlx
    ·rw[Qj4]at hlx;have h0:=hm.seps t y p b hy hlx hp hb;cases e:M2 b with
     |none=>rfl
     |some ob=>obtain⟨⟨p2,q1,q2⟩,_⟩:=hnew _ _ h0 e;exact absurd (hm.diss t k y o p p2 b hy ho hlx hl hp q1 hb (.inl q2)) hne
   ·rcases hobj t x hx with⟨rfl,rfl⟩|⟨_,y,hy,rfl⟩
    ·cases hlx
    ·rcases hobj t' x' hx' with⟨rfl,rfl⟩|⟨_,y',hy',rfl⟩
     ·cases hlx'
     ·rw[Qj4]at hlx hlx';exact hm.diss t t' y y' p p' b hy hy' hlx hlx' hp hp' hbk hbk'
   ·rcases hobj t x hx with⟨rfl,rfl⟩|⟨hne,y,hy,rfl⟩
    ·cases hlx
    ·rw[Qj4]at hlx;exact hm.lts t y p b hy hlx hp hb
  have hgood:Good B nt M2 ρ {T:=s.T.map (X2 k row l),H:=(s.H.map (Qb.Ka k row l)).set k .dead,n0:=s.n0,tch:=Xb s.n0 [k] s.tch,fg:=s.fg,marks:=s.marks,er:=s.er} act w:=by refine⟨fun t x hx=>?_,hg.sz,hmem2,hg.df,hg.mks,by simpa using hg.nle,hg.fix⟩;rw[TT.get_map,Option.map_eq_some_iff]at hx;obtain⟨y,hy,rfl⟩:=hx;exact hf _ _ (hg.tm t y hy) (TT.Qp6 hc2 hy)
  have hgoes:Yk M ρ s w M2 ρ {T:=s.T.map (X2 k row l),H:=(s.H.map (Qb.Ka k row l)).set k .dead,n0:=s.n0,tch:=Xb s.n0 [k] s.tch,fg:=s.fg,marks:=s.marks,er:=s.er} w:=by
   refine⟨⟨hle,fun b ob h0 h1=>?_,fun b hb=>?_,fun _ _ _=>rfl,Nat.le_refl _,fun t x ht hx hx2 hlx=>?_,fun _ _ _=>rfl,rfl,rfl⟩,rfl,fun x hx=>(show x∈Xb s.n0 [k] s.tch from Qc7 hx),fun _ h=>h⟩
   ·obtain⟨⟨p,q1,q2⟩,_⟩:=hnew b ob h0 h1;exact .inr ⟨k,o,p,ho,hl,q1,.inl q2⟩
   ·obtain⟨t,x,p,h1,h2,h3,h4⟩:=hb;rcases hobj t x h1 with⟨rfl,rfl⟩|⟨_,y,hy,rfl⟩
    ·cases h2
    ·rw[Qj4]at h2;exact .inr ⟨t,y,p,hy,h2,h3,h4⟩
   ·have hne:t≠k:=fun e=>by subst e;exact hx (Qeh ht List.mem_cons_self)
    refine⟨⟨x.Ka k row l,?_,by rw[Qj4];exact hlx⟩,fun p hp=>⟨hp,fun _ _=>rfl⟩⟩;show((s.H.map (Qb.Ka k row l)).set k .dead)[t]? =_;rw[List.getElem?_set,if_neg (fun h=>hne h.symm),List.getElem?_map,hx2];rfl
  exact wpIn_mono (h B M2 ρ act w hgood) fun e a' w' ⟨M',ρ',s'',q,g,kk⟩=>⟨M',ρ',s'',q,g,hgoes.trans kk⟩
def Qnz(s:St)(ob col ty:Nat)(row:List Ty):Option St:=match s.H[ob]? with
 |none=>none
 |some o=>match U0 o with
  |none=>none
  |some q=>match Nat.beq q.2.2.length q.2.1 with
   |false=>none
   |true=>match q.2.2[col]? with
    |some (.pv (.lit v))=>match Value.isNil v with
     |true=>some {T:=s.T,H:=(s.H.set ob (.mix q.1 q.2.1 [q.2.2.set col (.sl s.H.length row.length 0 0)]))++[.tvec ty row []],n0:=s.n0,tch:=s.tch,fg:=s.fg,marks:=s.marks,er:=s.er}
     |false=>none
    |_=>none
theorem Yc9{R:Option Nat}{P:Program}{nt:Nat}{c:Code}{Q:Exit→St→Prop}{s s':St}{ob col ty:Nat}{row:List Ty}(hs:Qnz s ob col ty row=some s')
  (h:Zl R P nt c Q s'):Zl R P nt c Q s:=by
 unfold Qnz at hs;split at hs
 ·cases hs
 ·rename_i o ho;split at hs
  ·cases hs
  ·rename_i q hq;split at hs
   ·cases hs
   ·rename_i hl;have hl:=Nat.eq_of_beq_eq_true hl;split at hs
    ·rename_i v hv;split at hs
     ·rename_i hn;cases hs;obtain⟨oty,sz,r⟩:=q;have hlt:ob<s.H.length:=(List.getElem?_eq_some_iff.1 ho).1;refine Zl.Qhm (fun B M ρ a w hg=>⟨ρ,?_,?_⟩) h
      all_goals
       obtain⟨g1,g2,g3,g4⟩:=Qkk (M:=M) (ρ:=ρ) (w:=w) (s:=ob) hq;obtain⟨m1,m2⟩:=hg.mem.virt (ty:=ty) (sz:=row.length);have n1:=m1.described (s:=s.H.length) (o:=.vec ty row.length []) (o':=.tvec ty row []) (by simp) rfl (fun h=>h);have n2:=m2.described (s:=s.H.length) (o:=.vec ty row.length []) (o':=.tvec ty row []) (by simp) rfl;have e1:(s.H++[Qb.vec ty row.length []]).set s.H.length (.tvec ty row [])=s.H++[.tvec ty row []]:=by simp
       rw[e1]at n1 n2;have hob:(s.H++[Qb.tvec ty row []])[ob]? =some o:=by rw[List.getElem?_append_left hlt];exact ho
       have hown:Q3 M ρ w ob o→Q3 M ρ w ob (.mix oty sz [r.set col (.sl s.H.length row.length 0 0)]):=fun h0=>by
        refine Q3.Zht rfl (by simpa using hl) (fun j y hy=>?_) (g4 h0);rw[List.getElem?_set]at hy;split at hy
        ·rename_i e;subst e;split at hy
         ·cases hy;refine .inr ⟨_,hv,fun u hu=>?_⟩;have:=hu.Zk;subst this;unfold Value.isNil at hn;split at hn
          ·simp only[Bool.and_eq_true]at hn;rw[Nat.eq_of_beq_eq_true hn.1,Nat.eq_of_beq_eq_true hn.2];exact .slz _ _ _ _
          ·cases hn
         ·cases hy
        ·exact .inr ⟨y,hy,fun u hu=>hu⟩
       have e2:(s.H++[Qb.tvec ty row []]).set ob (.mix oty sz [r.set col (.sl s.H.length row.length 0 0)])=(s.H.set ob (.mix oty sz [r.set col (.sl s.H.length row.length 0 0)]))++[.tvec ty row []]:=by rw[List.set_append_left _ _ hlt]
      ·have n3:=n1.described hob (o':=.mix oty sz [r.set col (.sl s.H.length row.length 0 0)]) g1.symm hown;rw[e2]at n3;refine⟨hg.tm,hg.sz,n3,hg.df,hg.mks,?_,hg.fix⟩;show s.n0≤((s.H.set ob (.mix oty sz [r.set col (.sl s.H.length row.length 0 0)]))++[Qb.tvec ty row []]).length;have:=hg.nle;simp;omega
      ·have n3:=n2.described hob (o':=.mix oty sz [r.set col (.sl s.H.length row.length 0 0)]) g1.symm;rw[e2]at n3;exact⟨n3.weaken (n':=s.n0) (t':=s.tch) (f':=s.fg) hg.nle (fun x _ h=>by cases h) (fun x _ h=>by cases h),rfl,fun _ h=>h,fun _ h=>h⟩
     ·cases hs
    ·cases hs
def Qnn(k ty:Nat)(row:List Ty)(s:St):Option St:=match s.H[k]? with
 |some (.vec ty' sz rows)=>match Nat.beq ty' ty&&Nat.beq sz row.length with
  |true=>match Jw (ofRow row) rows with
   |some l=>some {s with H:=s.H.set k (.tvec ty row l)}
   |none=>none
  |false=>none
 |_=>none
theorem Yki{R:Option Nat}{P:Program}{nt:Nat}{c:Code}{Q:Exit→St→Prop}{s s':St}{k ty:Nat}{row:List Ty}(hs:Qnn k ty row s=some s')(h:Zl R P nt c Q s'):Zl R P nt c Q s:=by
 unfold Qnn at hs;split at hs
 ·rename_i ty' sz rows ho;split at hs
  ·rename_i e;rw[Bool.and_eq_true]at e;have e1:=Nat.eq_of_beq_eq_true e.1;have e2:=Nat.eq_of_beq_eq_true e.2;subst e1;subst e2;split at hs
   ·rename_i l hl;cases hs;have hok:=Jd.of hl;refine Zl.Qhm (fun B M ρ a w hg=>⟨ρ,?_,?_⟩) h
    ·refine⟨hg.tm,hg.sz,hg.mem.described ho rfl (fun hh=>hh.Qk8 hok.1 hok.2),hg.df,hg.mks,by show s.n0≤(s.H.set k _).length;rw[List.length_set];exact hg.nle,hg.fix⟩
    ·exact⟨(Fr.refl M ρ s.H w s.n0 s.tch s.fg).described ho rfl,rfl,fun _ h=>h,fun _ h=>h⟩
   ·cases hs
  ·cases hs
 ·cases hs
theorem Q3.lnk{M:Qd}{ρ:Env}{w:World}{s ty:Nat}{row:List Ty}{l:List (Qh row)}{r c:Nat}(h:Q3 M ρ w s (.tvec ty row l)):Q3 M ρ w s (.tlnk ty row l r c .any):=by
 rcases h with h|⟨p,h1,h2⟩
 ·exact .inl h
 ·refine .inr ⟨p,h1,?_⟩;obtain⟨cs,a1,a2,a3,a4,a5,a6⟩:=h2.ex;have key:∀i j x,Jo row l r c .any i j=some x→∃y,Yj (Qv row l) i j=some y∧(x=.any∨x=y):=fun i j x hx=>by
   unfold Jo at hx;simp only[Option.map_eq_some_iff]at hx;obtain⟨y,hy,rfl⟩:=hx;refine⟨y,hy,?_⟩;split
   ·exact .inl rfl
   ·exact .inr rfl
  refine⟨cs,a1,a2,a3,a4,fun i j x v hx hv=>?_,fun i j x hx=>?_⟩
  ·obtain⟨y,hy,e⟩:=key i j x hx;obtain⟨b1,b2,b3⟩:=a5 i j y v hy hv;refine⟨b1,b2,?_⟩;rcases e with rfl|rfl
   ·exact .any v
   ·exact b3
  ·obtain⟨y,hy,_⟩:=key i j x hx;exact a6 i j y hy
end Go.Sx
end
namespace Go.Sx
open Go
theorem Mem.Yl5{M:Qd}{ρ:Env}{H:List Qb}{w:World}{k ty:Nat}{row:List Ty}{l:List (Qh row)}(hm:Mem M ρ H w)(ho:H[k]? =some (.tvec ty row l)):
  ∃M2,M.le M2∧Mem M2 ρ (H.set k .dead) w∧(∀n,Fr M ρ H w M2 ρ (H.set k .dead) w n [k] [])∧∀v,Qe M ρ v (.sl k row.length 0 l.length)→Zq M2 v (.tsl row l):=by
 have hks:k<H.length:=(List.getElem?_eq_some_iff.1 ho).1;have hl:(Qb.tvec ty row l).live=true:=rfl;have hm1:=Mem.oneLive hm ho hl (hm.own k _ ho);have hle:=Qd.J1 M ρ (Sx.oneLive H k (.tvec ty row l)) 0 w;have hget:(Sx.oneLive H k (.tvec ty row l))[k]? =some (.tvec ty row l):=by simp[Sx.oneLive,hks]
 have hnew:∀b ob,M b=none→M.sealing ρ (Sx.oneLive H k (.tvec ty row l)) 0 w b=some ob→(∃p,ρ k=some p∧p.block=b)∧w.heap[b]? =some ob:=fun b ob h0 h1=>by
  obtain⟨⟨s2,o2,p2,q1,q2,q3,q4,q5⟩,q6⟩:=Qd.Vk h0 h1;rcases Qcv q2 with⟨rfl,rfl⟩|⟨_,rfl⟩
  ·exact⟨⟨p2,q4,q5⟩,q6⟩
  ·cases q3
 have hslice:∀v,Qe M ρ v (.sl k row.length 0 l.length)→Zq (M.sealing ρ (Sx.oneLive H k (.tvec ty row l)) 0 w) v (.tsl row l):=fun v hr=>by
  refine Qjt hm1 (Nat.zero_le _) hget rfl rfl (by simp[Qb.len]) rfl (fun i y hy=>?_) hr;have:(Qb.tvec ty row l).row (0+i)=(Zj row y).map .pv:=by simp only[Qb.row,List.getD,Nat.zero_add,hy,Option.getD_some]
  rw[this];exact .self hle y
 generalize hM2:M.sealing ρ (Sx.oneLive H k (.tvec ty row l)) 0 w=M2 at hle hnew hslice;have hobj:∀t x,(H.set k .dead)[t]? =some x→(t=k∧x=.dead)∨(t≠k∧H[t]? =some x):=fun t x hx=>by
  by_cases e:t=k
  ·subst e;rw[List.getElem?_set_self hks]at hx;cases hx;exact .inl ⟨rfl,rfl⟩
  ·rw[List.getElem?_set_ne (fun h=>e h.symm)]at hx;exact .inr ⟨e,hx⟩
 refine⟨M2,hle,⟨fun b ob hb=>?_,fun t x hx=>?_,fun t x p b hx hlx hp hb=>?_,fun t t' x x' p p' b hx hx' hlx hlx' hp hp' hbk hbk'=>?_,fun t ht=>hm.fresh t (by simpa using ht),fun t x p b hx hlx hp hb=>?_⟩,fun n=>⟨hle,fun b ob h0 h1=>?_,fun b hb=>?_,fun _ _ _=>rfl,Nat.le_refl _,fun t x ht hx hx2 hlx=>?_,fun _ _ _=>rfl,rfl,rfl⟩,hslice⟩
 ·cases e:M b with
  |some o'=>rw[hle b o' e]at hb;cases hb;exact hm.imm b _ e
  |none=>exact(hnew b ob e hb).2
 ·rcases hobj t x hx with⟨rfl,rfl⟩|⟨_,hy⟩
  ·trivial
  ·exact(hm.own t x hy).mono hle ρ.le_refl rfl fun _ _ _ _=>rfl
 ·rcases hobj t x hx with⟨rfl,rfl⟩|⟨hne,hy⟩
  ·cases hlx
  ·have h0:=hm.seps t x p b hy hlx hp hb;cases e:M2 b with
   |none=>rfl
   |some ob=>obtain⟨⟨p2,q1,q2⟩,_⟩:=hnew _ _ h0 e;exact absurd (hm.diss t k x _ p p2 b hy ho hlx hl hp q1 hb (.inl q2)) hne
 ·rcases hobj t x hx with⟨rfl,rfl⟩|⟨_,hy⟩
  ·cases hlx
  ·rcases hobj t' x' hx' with⟨rfl,rfl⟩|⟨_,hy'⟩
   ·cases hlx'
   ·exact hm.diss t t' x x' p p' b hy hy' hlx hlx' hp hp' hbk hbk'
 ·rcases hobj t x hx with⟨rfl,rfl⟩|⟨hne,hy⟩
  ·cases hlx
  ·exact hm.lts t x p b hy hlx hp hb
 ·obtain⟨⟨p,q1,q2⟩,_⟩:=hnew b ob h0 h1;exact .inr ⟨k,_,p,ho,hl,q1,.inl q2⟩
 ·obtain⟨t,x,p,h1,h2,h3,h4⟩:=hb;rcases hobj t x h1 with⟨rfl,rfl⟩|⟨_,hy⟩
  ·cases h2
  ·exact .inr ⟨t,x,p,hy,h2,h3,h4⟩
 ·have hne:t≠k:=fun e=>hx (by rw[e];exact List.mem_cons_self);exact⟨⟨x,by rw[List.getElem?_set_ne (fun h=>hne h.symm)];exact hx2,hlx⟩,fun p hp=>⟨hp,fun _ _=>rfl⟩⟩
def Qfb(H:List Qb):SV→Option (SV×Nat×List Qb)
 |.sl k sz 0 n=>match H[k]? with
  |some (.tvec ty row l)=>match Nat.beq sz row.length with
   |true=>some (.pv (.tsl row l),k,H.set k .dead)
   |false=>none
  |_=>none
 |_=>none
def Qpn(H:List Qb):SV→Bool
 |.sl k sz 0 n=>match H[k]? with
  |some (.tvec ty row l)=>decide (n=l.length)
  |_=>true
 |_=>true
theorem Qzs{M:Qd}{ρ:Env}{H H':List Qb}{w:World}{x y:SV}{k:Nat}(hm:Mem M ρ H w)(h:Qfb H x=some (y,k,H'))(hc:Qpn H x=true):
  H'.length=H.length∧∃M2,M.le M2∧Mem M2 ρ H' w∧(∀n,Fr M ρ H w M2 ρ H' w n [k] [])∧∀v,Qe M ρ v x→Qe M2 ρ v y:=by
 unfold Qfb at h;unfold Qpn at hc;split at h
 ·rename_i k0 sz n;split at h
  ·rename_i ty row l ho;split at h
   ·rename_i e;have e:=Nat.eq_of_beq_eq_true e;subst e;cases h;simp only[ho,decide_eq_true_eq]at hc;subst hc;obtain⟨M2,h1,h2,h3,h4⟩:=hm.Yl5 ho;exact⟨by simp,M2,h1,h2,h3,fun v hv=>.pv (h4 v hv)⟩
   ·cases h
  ·cases h
 ·cases h
def Zub:PV→Option Ty
 |.lit (.string _)=>some .str
 |.lit (.int k _)=>some (.int k)
 |.lit (.bool _)=>some .bool
 |.tsl row _=>some (.seq row)
 |_=>none
def Qyk(H:List Qb)(x:SV):List Ty:=match x with
 |.sl d _ _ _=>match H[d]? with
  |some (.vec _ _ (r::_))=>match Jw Zub r with
   |some row=>row
   |none=>[]
  |_=>[]
 |_=>[]
def Qal(H:List Qb)(x:SV):List Qb:=asData H (Qyk H x) x
theorem Ze4{M:Qd}{ρ:Env}{H:List Qb}{w:World}(hm:Mem M ρ H w)(x:SV):Mem M ρ (Qal H x) w∧(∀n,Fr M ρ H w M ρ (Qal H x) w n [] [])∧(Qal H x).length=H.length:=by obtain⟨m1,h,m3⟩:=Qq2 hm (Qyk H x) x;exact⟨m1,fun n=>⟨h.imm,h.new,h.own,h.same,h.grow,fun s o _ ht ho hl=>h.keep s o (List.getElem?_eq_some_iff.1 ho).1 ht ho hl,fun _ _ _=>rfl,h.io⟩,m3⟩
def Vt:List SV→List Qb→Bool×List SV×List Nat×List Qb
 |[],H=>(true,[],[],H)
 |x::xs,H=>match Qfb (Qal H x) x with
  |some q=>match Vt xs q.2.2 with
   |r=>(Qpn (Qal H x) x&&r.1,q.1::r.2.1,q.2.1::r.2.2.1,r.2.2.2)
  |none=>match Vt xs H with
   |r=>(r.1,x::r.2.1,r.2.2.1,r.2.2.2)
theorem Qqt:∀{args:List SV} {M:Qd} {ρ:Env} {H:List Qb} {w:World},Mem M ρ H w→(Vt args H).1=true→
  (Vt args H).2.2.2.length = H.length ∧ (Vt args H).2.1.length = args.length ∧ ∃ M2,M.le M2 ∧ Mem M2 ρ (Vt args H).2.2.2 w ∧ (∀ n,Fr M ρ H w M2 ρ (Vt args H).2.2.2 w n (Vt args H).2.2.1 []) ∧
   ∀(i:Nat) (v:Value) (x y:SV),args[i]? =some x→(Vt args H).2.1[i]? =some y→Qe M ρ v x→Qe M2 ρ v y
 |[],M,ρ,H,w,hm,hc=>⟨rfl,rfl,M,M.le_refl,hm,fun n=>Fr.refl ..,fun i v x y hx=>by simp at hx⟩
 |x::xs,M,ρ,H,w,hm,hc=>by
  cases hs:Qfb (Qal H x) x with
  |some q=>
   obtain⟨y,k,H1⟩:=q;simp only[Vt,hs,Bool.and_eq_true]at hc⊢;obtain⟨m1,m2,m3⟩:=Ze4 hm x;obtain⟨e1,M1,a1,a2,a3',a4⟩:=Qzs m1 hs hc.1;have a3:∀n,Fr M ρ H w M1 ρ H1 w n [k] []:=fun n=>(m2 n).trans (a3' n) (fun z hz=>by cases hz) (fun z hz=>hz) (fun z hz=>by cases hz) (fun z hz=>by cases hz);obtain⟨e2,e3,M2,b1,b2,b3,b4⟩:=Qqt a2 hc.2;refine⟨e2.trans (e1.trans m3),by simp[e3],M2,Qd.le_trans a1 b1,b2,fun n=>(a3 n).trans (b3 n) (fun z hz=>?_) (fun z hz=>List.mem_cons_of_mem _ hz) (fun z hz=>by cases hz) (fun z hz=>hz),fun i v x' y' hx hy hv=>?_⟩
   ·rw[List.mem_singleton.1 hz];exact List.mem_cons_self
   ·cases i with
    |zero=>simp at hx hy;subst hx;subst hy;exact(a4 v hv).mono b1 ρ.le_refl
    |succ i=>exact b4 i v x' y' (by simpa using hx) (by simpa using hy) (hv.mono a1 ρ.le_refl)
  |none=>
   simp only[Vt,hs]at hc⊢;obtain⟨e2,e3,M2,b1,b2,b3,b4⟩:=Qqt (args:=xs) hm hc;refine⟨e2,by simp[e3],M2,b1,b2,b3,fun i v x' y' hx hy hv=>?_⟩;cases i with
   |zero=>simp at hx hy;subst hx;subst hy;exact hv.mono b1 ρ.le_refl
   |succ i=>exact b4 i v x' y' (by simpa using hx) (by simpa using hy) hv
def Qbd(x:SV)(H:List Qb):Bool×SV×List Nat×List Qb:=match Qfb (Qal H x) x with
 |some q=>(Qpn (Qal H x) x,q.1,[q.2.1],q.2.2)
 |none=>(true,x,[],H)
theorem Zz0{x:SV}{M:Qd}{ρ:Env}{H:List Qb}{w:World}(hm:Mem M ρ H w)(hc:(Qbd x H).1=true):
  (Qbd x H).2.2.2.length=H.length∧∃M2,M.le M2∧Mem M2 ρ (Qbd x H).2.2.2 w∧(∀n,Fr M ρ H w M2 ρ (Qbd x H).2.2.2 w n (Qbd x H).2.2.1 [])∧∀v,Qe M ρ v x→Qe M2 ρ v (Qbd x H).2.1:=by
 unfold Qbd at hc⊢;cases hs:Qfb (Qal H x) x with
 |some q=>obtain⟨y,k,H1⟩:=q;simp only[hs]at hc⊢;obtain⟨m1,m2,m3⟩:=Ze4 hm x;obtain⟨e1,M1,a1,a2,a3,a4⟩:=Qzs m1 hs hc;exact⟨e1.trans m3,M1,a1,a2,fun n=>(m2 n).trans (a3 n) (fun z hz=>by cases hz) (fun z hz=>hz) (fun z hz=>by cases hz) (fun z hz=>by cases hz),a4⟩
 |none=>exact⟨rfl,M,M.le_refl,hm,fun n=>Fr.refl ..,fun v hv=>hv⟩
def Qbb(x:SV)(H:List Qb):Bool×SV×List Nat×List Qb:=match x with
 |.agg l=>match Vt l H with
  |r=>(r.1,.agg r.2.1,r.2.2.1,r.2.2.2)
 |x=>Qbd x H
theorem Zok{x:SV}{M:Qd}{ρ:Env}{H:List Qb}{w:World}(hm:Mem M ρ H w)(hc:(Qbb x H).1=true):
  (Qbb x H).2.2.2.length=H.length∧∃M2,M.le M2∧Mem M2 ρ (Qbb x H).2.2.2 w∧(∀n,Fr M ρ H w M2 ρ (Qbb x H).2.2.2 w n (Qbb x H).2.2.1 [])∧∀v,Qe M ρ v x→Qe M2 ρ v (Qbb x H).2.1:=by
 unfold Qbb at hc⊢;split at hc
 ·rename_i l;obtain⟨e1,e2,M2,b1,b2,b3,b4⟩:=Qqt hm hc;refine⟨e1,M2,b1,b2,b3,fun v hv=>?_⟩;cases hv with
  |agg cs _ hl h=>
   refine .agg cs _ (by rw[hl,e2]) fun i v y hv hy=>?_;obtain⟨x,hx⟩:∃x,l[i]? =some x:=by
    have:i<l.length:=by rw[←e2];exact(List.getElem?_eq_some_iff.1 hy).1
    exact⟨_,List.getElem?_eq_getElem this⟩
   exact b4 i v x y hx hy (h i v x hv hx)
 ·exact Zz0 hm hc
def Xw:List SV→List Qb→Bool×List SV×List Nat×List Qb
 |[],H=>(true,[],[],H)
 |x::xs,H=>match Qbb x H with
  |q=>match Xw xs q.2.2.2 with
   |r=>(q.1&&r.1,q.2.1::r.2.1,q.2.2.1++r.2.2.1,r.2.2.2)
theorem Qxs:∀{args:List SV} {M:Qd} {ρ:Env} {H:List Qb} {w:World},Mem M ρ H w→(Xw args H).1=true→
  (Xw args H).2.2.2.length = H.length ∧ (Xw args H).2.1.length = args.length ∧ ∃ M2,M.le M2 ∧ Mem M2 ρ (Xw args H).2.2.2 w ∧ (∀ n,Fr M ρ H w M2 ρ (Xw args H).2.2.2 w n (Xw args H).2.2.1 []) ∧
   ∀(i:Nat) (v:Value) (x y:SV),args[i]? =some x→(Xw args H).2.1[i]? =some y→Qe M ρ v x→Qe M2 ρ v y
 |[],M,ρ,H,w,hm,hc=>⟨rfl,rfl,M,M.le_refl,hm,fun n=>Fr.refl ..,fun i v x y hx=>by simp at hx⟩
 |x::xs,M,ρ,H,w,hm,hc=>by
  simp only[Xw,Bool.and_eq_true]at hc⊢;obtain⟨e1,M1,a1,a2,a3,a4⟩:=Zok hm hc.1;obtain⟨e2,e3,M2,b1,b2,b3,b4⟩:=Qxs a2 hc.2;refine⟨e2.trans e1,by simp[e3],M2,Qd.le_trans a1 b1,b2,fun n=>(a3 n).trans (b3 n) (fun z hz=>List.mem_append_left _ hz) (fun z hz=>List.mem_append_right _ hz) (fun z hz=>by cases hz) (fun z hz=>hz),fun i v x' y' hx hy hv=>?_⟩;cases i with
  |zero=>simp at hx hy;subst hx;subst hy;exact(a4 v hv).mono b1 ρ.le_refl
  |succ i=>exact b4 i v x' y' (by simpa using hx) (by simpa using hy) (hv.mono a1 ρ.le_refl)
theorem Xf.Yma{P:Program}{g:Nat}{args:List SV}{H:List Qb}{K:Qu}(hc:(Xw args H).1=true)
  (h:Xf P g (Xw args H).2.1 (Xw args H).2.2.2 fun r H' t f=>K r H' ((Xw args H).2.2.1++t) f):Xf P g args H K:=by
 intro M ρ w vs hm hr;obtain⟨e1,e2,M2,b1,b2,b3,b4⟩:=Qxs hm hc;refine(h M2 ρ w vs b2 ⟨by rw[hr.1,e2],fun i v y hv hy=>?_⟩).mono ?_
 ·obtain⟨x,hx⟩:∃x,args[i]? =some x:=by
   have:i<args.length:=by rw[←e2];exact(List.getElem?_eq_some_iff.1 hy).1
   exact⟨_,List.getElem?_eq_getElem this⟩
  exact b4 i v x y hx hy (hr.2 i v x hv hx)
 ·rintro e w' ⟨v,r,H',M',ρ',t,f,he,hk,hs,hm',hf⟩
  rw[e1]at hf;exact⟨v,r,H',M',ρ',_,f,he,hk,hs,hm',(b3 _).trans hf (fun z hz=>List.mem_append_left _ hz) (fun z hz=>List.mem_append_right _ hz) (fun z hz=>by cases hz) (fun z hz=>hz)⟩
end Go.Sx
section
namespace Go.Sx
open Go
mutual
def SV.Zy(f:Nat→Option Nat):SV→SV
 |.ptr s sz i j=>match f s with
  |some t=>.ptr t sz i j
  |none=>.any
 |.sl s sz st n=>match f s with
  |some t=>.sl t sz st n
  |none=>.any
 |.mp s=>match f s with
  |some t=>.mp t
  |none=>.any
 |.yld s=>match f s with
  |some t=>.yld t
  |none=>.any
 |.slb s sz st n m=>match f s with
  |some t=>.slb t sz st n m
  |none=>.any
 |.agg l=>.agg (Ke f l)
 |.tup l=>.tup (Ke f l)
 |.fn g a b=>.fn g (Ke f a) (Ke f b)
 |.any=>.any
 |.pv p=>.pv p
def Ke(f:Nat→Option Nat):List SV→List SV
 |[]=>[]
 |x::xs=>x.Zy f::Ke f xs
end
theorem Qlf(f:Nat→Option Nat)(l:List SV):Ke f l=l.map (SV.Zy f):=by
 induction l with
 |nil=>rfl
 |cons x xs ih=>simp only[Ke,List.map_cons,ih]
theorem Qe.Zy{M M':Qd}{ρ ρ':Env}{f:Nat→Option Nat}(hM:M.le M')(hf:∀s t p,f s=some t→ρ s=some p→ρ' t=some p){v:Value}{x:SV}(h:Qe M ρ v x):Qe M' ρ' v (x.Zy f):=by
 induction h with
 |any v=>exact .any v
 |pv h=>exact .pv (h.mono hM)
 |agg cs l hl _ ih=>simp only[SV.Zy,Qlf];refine .agg cs _ (by simpa using hl) fun i v x hv hx=>?_;simp only[List.getElem?_map,Option.map_eq_some_iff]at hx;obtain⟨y,hy,rfl⟩:=hx;exact ih i v y hv hy
 |tup cs l hl _ ih=>simp only[SV.Zy,Qlf];refine .tup cs _ (by simpa using hl) fun i v x hv hx=>?_;simp only[List.getElem?_map,Option.map_eq_some_iff]at hx;obtain⟨y,hy,rfl⟩:=hx;exact ih i v y hv hy
 |ptr s sz i j k p hp hk=>
  simp only[SV.Zy];split
  ·rename_i t ht;exact .ptr t sz i j k p (hf s t p ht hp) hk
  ·exact .any _
 |sl s sz st n c k p hp hk hc hn h6=>
  simp only[SV.Zy];split
  ·rename_i t ht;exact .sl t sz st n c k p (hf s t p ht hp) hk hc hn h6
  ·exact .any _
 |slz s sz st a=>
  simp only[SV.Zy];split
  ·exact .slz _ sz st a
  ·exact .any _
 |mp s p hp=>
  simp only[SV.Zy];split
  ·rename_i t ht;exact .mp t p (hf s t p ht hp)
  ·exact .any _
 |yld s p hp=>
  simp only[SV.Zy];split
  ·rename_i t ht;exact .yld t p (hf s t p ht hp)
  ·exact .any _
 |slb s sz st n m _ hm ih=>
  simp only[SV.Zy]at ih⊢;cases e:f s with
  |some t=>rw[e]at ih;exact .slb t sz st n m ih hm
  |none=>exact .any _
 |fn g a b x y ha hb _ _ ih jh=>
  simp only[SV.Zy,Qlf];refine .fn g a b _ _ (by simpa using ha) (by simpa using hb) (fun i v s hv hs=>?_) (fun i v s hv hs=>?_)
  ·simp only[List.getElem?_map,Option.map_eq_some_iff]at hs;obtain⟨y,hy,rfl⟩:=hs;exact ih i v y hv hy
  ·simp only[List.getElem?_map,Option.map_eq_some_iff]at hs;obtain⟨y,hy,rfl⟩:=hs;exact jh i v y hv hy
def Qb.Zy(f:Nat→Option Nat):Qb→Qb
 |.mix ty sz rows=>.mix ty sz (rows.map (·.map (SV.Zy f)))
 |.tlnk ty row l r c x=>.tlnk ty row l r c (x.Zy f)
 |.nest ty ity row ll q=>.nest ty ity row ll (q.map fun x=>(x.1,x.2.Zy f))
 |.map es c=>.map (es.map fun e=>(e.1,e.2.1.Zy f,e.2.2)) c
 |.loop l=>.loop {l with T:=l.T.map (SV.Zy f)}
 |.mit m c s=>.mit (m.bind f) c s
 |o=>o
theorem Kc(f:Nat→Option Nat)(o:Qb):(o.Zy f).live=o.live:=by cases o<;>rfl
theorem Qf.Yl8(f:Nat→Option Nat):∀(a:Qf) (x:a.El),(a.raw x).Zy f=a.raw x
 |.val t,x=>rfl
 |.agg row,x=>by
  have:∀l:List PV,Ke f (l.map .pv)=l.map .pv:=fun l=>by
   induction l with
   |nil=>rfl
   |cons x l ih=>simp only[List.map_cons,Ke,SV.Zy,ih]
  simp only[Qf.raw,SV.Zy,this]
theorem Q3.Zy{M M':Qd}{ρ ρ':Env}{w w':World}{s t:Nat}{f:Nat→Option Nat}{o:Qb}(hM:M.le M')(hf:∀s t p,f s=some t→ρ s=some p→ρ' t=some p)(hs:ρ' t=ρ s)
  (hw:∀p b,ρ s=some p→p.has b→w'.heap[b]? =w.heap[b]?) (h:Q3 M ρ w s o):Q3 M' ρ' w' t (o.Zy f):=by
 have hws:=hw;replace hw:∀p,ρ s=some p→w'.heap[p.block]? =w.heap[p.block]? :=fun p hp=>hws p _ hp p.self;cases o with
 |dead=>trivial
 |vec ty sz rows=>
  rcases h with⟨h1,h2⟩|⟨p,h1,h2⟩
  ·exact .inl ⟨hs.trans h1,h2⟩
  ·refine .inr ⟨p,hs.trans h1,?_⟩;obtain⟨cs,a1,a2,a3,a4,a5,a6⟩:=h2.ex;refine⟨cs,(hw p h1).trans a1,a2,a3,a4,fun i j x v hx hv=>?_,a6⟩;obtain⟨b1,b2,b3⟩:=a5 i j x v hx hv;refine⟨b1,b2,?_⟩;unfold Yj at hx;simp only[Option.map_eq_some_iff]at hx;obtain⟨q,_,rfl⟩:=hx;cases b3 with
   |pv b3=>exact .pv (b3.mono hM)
 |tvec ty row l=>
  rcases h with⟨h1,h2⟩|⟨p,h1,h2⟩
  ·exact .inl ⟨hs.trans h1,h2⟩
  ·refine .inr ⟨p,hs.trans h1,?_⟩;obtain⟨cs,a1,a2,a3,a4,a5,a6⟩:=h2.ex;refine⟨cs,(hw p h1).trans a1,a2,a3,a4,fun i j x v hx hv=>?_,a6⟩;obtain⟨b1,b2,b3⟩:=a5 i j x v hx hv;refine⟨b1,b2,?_⟩;unfold Yj at hx;simp only[Option.map_eq_some_iff]at hx;obtain⟨q,_,rfl⟩:=hx;cases b3 with
   |pv b3=>exact .pv (b3.mono hM)
 |mix ty sz rows=>
  rcases h with⟨h1,h2⟩|⟨p,h1,h2⟩
  ·exact .inl ⟨hs.trans h1,by simp[h2]⟩
  ·refine .inr ⟨p,hs.trans h1,?_⟩;obtain⟨cs,a1,a2,a3,a4,a5,a6⟩:=h2.ex;have key:∀i j x,Xa (rows.map (·.map (SV.Zy f))) i j=some x→∃y,Xa rows i j=some y∧x=y.Zy f:=fun i j x hx=>by unfold Xa at hx;simp only[List.getElem?_map,Option.bind_eq_some_iff,Option.map_eq_some_iff]at hx;obtain⟨r',⟨r,hr,rfl⟩,hx⟩:=hx;simp only[List.getElem?_map,Option.map_eq_some_iff]at hx;obtain⟨y,hy,rfl⟩:=hx;exact⟨y,by simp[Xa,hr,hy],rfl⟩
   refine⟨cs,(hw p h1).trans a1,a2,by simpa using a3,by simpa using a4,fun i j x v hx hv=>?_,fun i j x hx=>?_⟩
   ·obtain⟨y,hy,rfl⟩:=key i j x hx;obtain⟨b1,b2,b3⟩:=a5 i j y v hy hv;exact⟨by simpa using b1,b2,b3.Zy hM hf⟩
   ·obtain⟨y,hy,rfl⟩:=key i j x hx;simpa using a6 i j y hy
 |tlnk ty row l r c x=>
  rcases h with⟨h1,h2⟩|⟨p,h1,h2⟩
  ·exact .inl ⟨hs.trans h1,h2⟩
  ·refine .inr ⟨p,hs.trans h1,?_⟩;obtain⟨cs,a1,a2,a3,a4,a5,a6⟩:=h2.ex;refine⟨cs,(hw p h1).trans a1,a2,a3,a4,fun i j z v hz hv=>?_,fun i j z hz=>?_⟩
   ·obtain⟨y,hy,rfl,_⟩:=Qld (f:=SV.Zy f) (fun _=>rfl) hz;obtain⟨b1,b2,b3⟩:=a5 i j y v hy hv;exact⟨b1,b2,b3.Zy hM hf⟩
   ·obtain⟨y,hy,_⟩:=Qld (f:=SV.Zy f) (fun _=>rfl) hz;exact a6 i j y hy
 |nest ty ity row ll q=>
  rcases h with⟨h1,h2,h3⟩|⟨p,h1,h2⟩
  ·subst h3;exact .inl ⟨hs.trans h1,h2,rfl⟩
  refine .inr ⟨p,hs.trans h1,h2.goes hM rfl rfl rfl (fun b hb=>hws p b h1 hb) (by cases q<;>rfl) fun i x y v e1 e2 hr=>?_⟩;rw[e1]at e2;simp only[Option.map_some,Option.some.injEq,Prod.mk.injEq,true_and]at e2;subst e2;exact hr.Zy hM hf
 |map es clock=>obtain⟨p,arr,h1,h2,h3,h4⟩:=h;refine⟨p,arr,hs.trans h1,(hw p h1).trans h2,by simpa using h3,fun i k x b hi=>?_⟩;simp only[List.getElem?_map,Option.map_eq_some_iff]at hi;obtain⟨⟨k',x',b'⟩,he,hq⟩:=hi;simp only[Prod.mk.injEq]at hq;obtain⟨rfl,rfl,rfl⟩:=hq;obtain⟨e,c1,c2,c3,c4⟩:=h4 i k' x' b' he;exact⟨e,c1,c2,c3,c4.Zy hM hf⟩
 |tmap k v l=>obtain⟨p,arr,h1,h2,h3,h4⟩:=h;refine⟨p,arr,hs.trans h1,(hw p h1).trans h2,h3,fun i kk x b hi=>?_⟩;obtain⟨e,c1,c2,c3,c4⟩:=h4 i kk x b hi;refine⟨e,c1,c2,c3,?_⟩;have:=c4.Zy hM hf;rw[Kf]at hi;simp only[Option.map_eq_some_iff,Prod.mk.injEq]at hi;obtain⟨y,_,_,rfl,_⟩:=hi;rwa[Qf.Yl8]at this
 |iter str pos=>obtain⟨p,h1,h2⟩:=h;exact⟨p,hs.trans h1,(hw p h1).trans h2⟩
 |loop l=>obtain⟨p,fn,tmps,q,h1,h2,h3,h4⟩:=h;refine⟨p,fn,tmps,q,hs.trans h1,(hw p h1).trans h2,h3,fun t x hx=>?_⟩;rw[TT.get_map,Option.map_eq_some_iff]at hx;obtain⟨y,hy,rfl⟩:=hx;exact(h4 t y hy).Zy hM hf
 |mit m c sn=>
  obtain⟨p,q,sn,h1,h2,h3,h4⟩:=h;refine⟨p,q,sn,hs.trans h1,(hw p h1).trans h2,h3,fun mm e=>?_⟩;cases m with
  |none=>cases e
  |some x=>have e:f x=some mm:=e;obtain⟨pm,a,b⟩:=h4 x rfl;exact⟨pm,hf x mm pm e a,b⟩
 |over st pd=>obtain⟨p,r,h1,h2,h3⟩:=h;exact⟨p,r,hs.trans h1,(hw p h1).trans h2,h3⟩
 |dfr shut=>obtain⟨p,h1,h2⟩:=h;exact⟨p,hs.trans h1,(hw p h1).trans h2⟩
def Ue:List Nat→Nat→Nat→Option Nat
 |[],_,_=>none
 |a::l,i,s=>match Nat.beq a s with
  |true=>some i
  |false=>Ue l (i+1) s
theorem Qz2:∀{l:List Nat} {i s t:Nat},Ue l i s=some t→i≤t∧l[t-i]? =some s
 |a::l,i,s,t,h=>by
  unfold Ue at h;split at h
  ·rename_i e;cases h;rw[Nat.eq_of_beq_eq_true e];simp
  ·obtain⟨h1,h2⟩:=Qz2 h;refine⟨by omega,?_⟩;rw[show t-i=(t-(i+1))+1 by omega,List.getElem?_cons_succ];exact h2
def Qrv(σ:List Nat)(n n0:Nat):Bool:=Nat.beq σ.length n&&decide σ.Nodup
def Qjk(σ:List Nat)(n0:Nat):List Nat:=(List.range n0).filter fun i=>match σ[i]? with
 |some o=>!Nat.beq o i
 |none=>true
theorem Zrm{σ:List Nat}{n0 i:Nat}(hi:i<n0)(h:i∉Qjk σ n0):σ[i]? =some i:=by
 unfold Qjk at h;rw[List.mem_filter,List.mem_range]at h;split at h
 ·rename_i o e;rw[e];cases hb:Nat.beq o i with
  |true=>rw[Nat.eq_of_beq_eq_true hb]
  |false=>rw[hb]at h;exact absurd ⟨hi,rfl⟩ h
 ·exact absurd ⟨hi,rfl⟩ h
def Qt3(σ:List Nat)(s:St):St:=
 {T:=s.T.map (SV.Zy (Ue σ 0)),H:=σ.map fun o=>match s.H[o]? with
   |some x=>x.Zy (Ue σ 0)
   |none=>.dead,n0:=s.n0,tch:=Qjk σ s.n0++s.tch,fg:=Qjk σ s.n0++s.fg,marks:=s.marks,er:=s.er}
theorem Zzx{R:Option Nat}{P:Program}{nt:Nat}{c:Code}{Q:Exit→St→Prop}{s:St}{σ:List Nat}(hm:s.marks=[])(hσ:Qrv σ s.H.length s.n0=true)(h:Zl R P nt c Q (Qt3 σ s)):Zl R P nt c Q s:=by
 simp only[Qrv,Bool.and_eq_true,decide_eq_true_eq]at hσ;obtain⟨h1,h2⟩:=hσ;have h1:σ.length=s.H.length:=Nat.eq_of_beq_eq_true h1;have h3:∀i,i<s.n0→i∉Qjk σ s.n0→σ[i]? =some i:=fun i hi hx=>Zrm hi hx;refine Zl.Qhm (fun B M ρ a w hg=>⟨fun t=>match σ[t]? with
  |some o=>ρ o
  |none=>none,?_,?_⟩) h
 all_goals
  have hat:∀t o:Nat,σ[t]? =some o→(match σ[t]? with
   |some o=>ρ o
   |none=>none)=ρ o:=fun t o e=>by rw[e]
  have hf:∀(s' t:Nat) (p:Place),Ue σ 0 s'=some t→ρ s'=some p→(match σ[t]? with
   |some o=>ρ o
   |none=>none)=some p:=fun s' t p e hp=>by
   have:=(Qz2 e).2;rw[Nat.sub_zero]at this;rw[this];exact hp
  have hobj:∀(t:Nat) (x:Qb),(σ.map fun o=>match s.H[o]? with
   |some x=>x.Zy (Ue σ 0)
   |none=>.dead)[t]? =some x→∃o,σ[t]? =some o∧(x=.dead∨∃y,s.H[o]? =some y∧x=y.Zy (Ue σ 0)):=fun t x hx=>by
   rw[List.getElem?_map,Option.map_eq_some_iff]at hx;obtain⟨o,ho,hx⟩:=hx;refine⟨o,ho,?_⟩;split at hx
   ·rename_i y hy;exact .inr ⟨y,hy,hx.symm⟩
   ·exact .inl hx.symm
  have hm':=hg.mem
 ·refine⟨fun t x hx=>?_,hg.sz,⟨hm'.imm,fun t x hx=>?_,fun t x p b hx hl hp hb=>?_,fun t t' x x' p p' b hx hx' hl hl' hp hp' hb hb'=>?_,fun t ht=>?_,fun t x p b hx hl hp hb=>?_⟩,?_,fun m hmm=>?_,?_,hg.fix⟩
  ·have hx:(s.T.map (SV.Zy (Ue σ 0))).get t=some x:=hx;rw[TT.get_map,Option.map_eq_some_iff]at hx;obtain⟨y,hy,rfl⟩:=hx;exact(hg.tm t y hy).Zy M.le_refl hf
  ·obtain⟨o,ho,hx⟩:=hobj t x hx;rcases hx with rfl|⟨y,hy,rfl⟩
   ·trivial
   ·exact(hm'.own o y hy).Zy M.le_refl hf (hat t o ho) fun _ _ _ _=>rfl
  ·obtain⟨o,ho,hx⟩:=hobj t x hx;rcases hx with rfl|⟨y,hy,rfl⟩
   ·cases hl
   ·rw[Kc]at hl;exact hm'.seps o y p b hy hl ((hat t o ho).symm.trans hp) hb
  ·obtain⟨o,ho,hx⟩:=hobj t x hx;obtain⟨o',ho',hx'⟩:=hobj t' x' hx';rcases hx with rfl|⟨y,hy,rfl⟩
   ·cases hl
   ·rcases hx' with rfl|⟨y',hy',rfl⟩
    ·cases hl'
    ·rw[Kc]at hl hl';have:=hm'.diss o o' y y' p p' b hy hy' hl hl' ((hat t o ho).symm.trans hp) ((hat t' o' ho').symm.trans hp') hb hb';subst this;obtain⟨a1,a2⟩:=List.getElem?_eq_some_iff.1 ho;obtain⟨b1,b2⟩:=List.getElem?_eq_some_iff.1 ho';exact(List.getElem_inj (h₀:=a1) (h₁:=b1) h2).1 (a2.trans b2.symm)
  ·have ht:σ.length≤t:=by simpa[Qt3]using ht
   rw[List.getElem?_eq_none ht]
  ·obtain⟨o,ho,hx⟩:=hobj t x hx;rcases hx with rfl|⟨y,hy,rfl⟩
   ·cases hl
   ·rw[Kc]at hl;exact hm'.lts o y p b hy hl ((hat t o ho).symm.trans hp) hb
  ·have:=hg.df;rw[hm]at this;show Qgb _ s.marks _;rw[hm];exact⟨this.1,fun i d q _ hq=>by simp at hq⟩
  ·have hmm:m∈s.marks:=hmm;rw[hm]at hmm;cases hmm
  ·show s.n0≤(σ.map _).length;rw[List.length_map,h1];exact hg.nle
 ·refine⟨⟨M.le_refl,fun b o e e'=>(by rw[e]at e';cases e'),fun b hb=>?_,fun _ _ _=>rfl,Nat.le_refl _,fun i o hi hx ho hl=>?_,fun i hi hx=>?_,rfl,rfl⟩,rfl,fun _ h=>List.mem_append_right _ h,fun _ h=>List.mem_append_right _ h⟩
  ·obtain⟨t,x,p,hx,hl,hp,hb⟩:=hb;obtain⟨o,ho,hx⟩:=hobj t x hx;rcases hx with rfl|⟨y,hy,rfl⟩
   ·cases hl
   ·rw[Kc]at hl;exact .inr ⟨o,y,p,hy,hl,(hat t o ho).symm.trans hp,hb⟩
  ·refine⟨⟨o.Zy (Ue σ 0),?_,by rw[Kc];exact hl⟩,fun p hp=>?_⟩
   ·show(σ.map _)[i]? =_;rw[List.getElem?_map,(h3 i hi fun hy=>hx (List.mem_append_left _ hy))];simp[ho]
   ·rw[hat i i ((h3 i hi fun hy=>hx (List.mem_append_left _ hy)))]
    first|exact hp|exact⟨hp,fun _ _=>rfl⟩|simp_all
  ·exact hat i i ((h3 i hi fun hy=>hx (List.mem_append_left _ hy)))
def Qe4(T:TT):List Nat→List Nat
 |[]=>[]
 |t::l=>match T.get t with
  |some (.ptr k _ _ _)=>k::Qe4 T l
  |some (.sl k _ _ _)=>k::Qe4 T l
  |_=>Qe4 T l
def Qxj(slots:List Nat)(s:St):List Nat:=((List.range s.H.length).filter fun i=>!(Qe4 s.T slots).contains i)++Qe4 s.T slots
def Zak(slots:List Nat)(s:St):List Nat:=match slots with
 |[k,t]=>match Nat.ble 10000 k with
  |true=>match Qe4 s.T [t]with
   |[o]=>(List.range s.H.length).map fun i=>bif Nat.beq i (k-10000)then o else bif Nat.beq i o then k-10000 else i
   |_=>List.range s.H.length
  |false=>Qxj slots s
 |_=>Qxj slots s
end Go.Sx
end
section
namespace Go.Sx
open Go
theorem Qe.sim{M M':Qd}{ρ ρ':Env}(hM:M.le M')(hρ:Env.Qho [] ρ ρ'){v:Value}{x:SV}(h:Qe M ρ v x):Qe M' ρ' v x:=by have:=h.K2 hM hρ;rwa[SV.V9]at this
theorem Q3.sim{M M':Qd}{ρ ρ':Env}{w:World}{s:Nat}{o:Qb}(hM:M.le M')(hρ:Env.Qho [] ρ ρ')(hs:ρ' s=ρ s)(h:Q3 M ρ w s o):Q3 M' ρ' w s o:=by have:=h.K2 hM hρ hs (fun _ _ _ _=>rfl);rwa[Qb.V9]at this
theorem Wy.pure{M M':Qd}{ρ ρ':Env}{w:World}{p:Place}{ty sz n:Nat}{rows:List (List PV)}{subs:List Nat}(hM:M.le M')(h:Wy M ρ w p ty sz n (Yj rows)):Wy M' ρ' w ⟨p.block,p.cap,subs⟩ ty sz n (Yj rows):=by
 obtain⟨cs,a1,a2,a3,a4,a5,a6⟩:=h.ex;refine⟨cs,a1,a2,a3,a4,fun i j x v hx hv=>?_,a6⟩;obtain⟨b1,b2,b3⟩:=a5 i j x v hx hv;refine⟨b1,b2,?_⟩;unfold Yj at hx;simp only[Option.map_eq_some_iff]at hx;obtain⟨q,_,rfl⟩:=hx;cases b3 with
 |pv b3=>exact .pv (b3.mono hM)
theorem Qgb.sim{ρ ρ':Env}{marks:List Nat}{ds:List Deferred}(hρ:Env.Qho [] ρ ρ')(h:Qgb ρ marks ds):Qgb ρ' marks ds:=
 ⟨h.1,fun i d s hd hs=>let⟨p,h1,h2⟩:=h.2 i d s hd hs;let⟨p',g1,g2,_⟩:=hρ s p rfl h1;⟨p',g1,by rw[g2];exact h2⟩⟩
open Classical in
def TI.Yl6(b:Bool)(i:TI):TI:={i with row:=match b with
 |true=>none
 |false=>i.row}
def Cx.raw(e:Nat)(cx:Cx):Cx:={P:=cx.P,tab:=cx.tab.map fun x=>(x.1,x.2.Yl6 (Nat.beq x.1 e)),fns:=cx.fns}
def Qov(slot:Nat)(s:St):Option St:=match s.T.get slot with
 |some (.sl d sz st n)=>some {s with T:=s.T.set slot (.slb d sz st n n)}
 |_=>none
def Qmw(slot:Nat)(s:St):Option St:=match s.T.get slot with
 |some (.slb d sz st n _)=>some {s with T:=s.T.set slot (.sl d sz st n)}
 |_=>none
theorem Qzp{R:Option Nat}{P:Program}{nt:Nat}{c:Code}{Q:Exit→St→Prop}{s:St}{slot:Nat}{x y:SV}(hx:s.T.get slot=some x)(hi:∀M ρ v,Qe M ρ v x→Qe M ρ v y)(h:Zl R P nt c Q {s with T:=s.T.set slot y}):Zl R P nt c Q s:=by
 refine Zl.Qhm (s':={s with T:=s.T.set slot y}) (fun B M ρ a w hg=>⟨ρ,⟨fun t z hz=>?_,hg.sz,hg.mem,hg.df,hg.mks,hg.nle,hg.fix⟩,⟨Fr.refl ..,rfl,fun _ h=>h,fun _ h=>h⟩⟩) h;rcases TT.Vj _ _ _ _ _ hz with⟨rfl,rfl⟩|⟨_,hz⟩
 ·exact hi _ _ _ (hg.tm _ _ hx)
 ·exact hg.tm t z hz
theorem Zr9{R:Option Nat}{P:Program}{nt:Nat}{c:Code}{Q:Exit→St→Prop}{s s':St}{slot:Nat}(hs:Qov slot s=some s')(h:Zl R P nt c Q s'):Zl R P nt c Q s:=by
 unfold Qov at hs;split at hs
 ·rename_i d sz st n hx;cases hs;refine Qzp hx (fun M ρ v hr=>?_) h;refine .slb _ _ _ _ _ hr ?_;cases hr with
  |sl _ _ _ _ c k p hp hk hc hn h6=>exact⟨_,_,_,rfl,hn⟩
  |slz=>exact⟨_,_,_,rfl,Nat.le_refl _⟩
 ·cases hs
theorem Zow{R:Option Nat}{P:Program}{nt:Nat}{c:Code}{Q:Exit→St→Prop}{s s':St}{slot:Nat}(hs:Qmw slot s=some s')(h:Zl R P nt c Q s'):Zl R P nt c Q s:=by
 unfold Qmw at hs;split at hs
 ·rename_i d sz st n m hx;cases hs;exact Qzp hx (fun M ρ v hr=>hr.unslb) h
 ·cases hs
end Go.Sx
end
namespace Go.Sx
open Go
def Qs1(j:Nat)(lit:ByteArray):SV→Option (Bool×SV)
 |.agg l=>match l[j]? with
  |some (.pv (.lit (.string x)))=>some (Qc x lit,.agg (l.set j (.pv (.lit (.string lit)))))
  |_=>none
 |.pv (.lit (.string x))=>some (Qc x lit,.pv (.lit (.string lit)))
 |_=>none
theorem Yj9{j:Nat}{lit:ByteArray}{x y:SV}{c:Bool}(h:Qs1 j lit x=some (c,y))(hc:c=true):y=x:=by
 unfold Qs1 at h;split at h
 ·rename_i l;split at h
  ·rename_i z hz;cases h;have e:=of_decide_eq_true hc;subst e;congr 1;apply List.ext_getElem?;intro i;rw[List.getElem?_set];split
   ·rename_i e;subst e;rw[hz,if_pos (List.getElem?_eq_some_iff.1 hz).1]
   ·rfl
  ·cases h
 ·cases h;have e:=of_decide_eq_true hc;subst e;rfl
 ·cases h
def Qtt(j:Nat)(lit:ByteArray)(r:List PV):Option (Bool×List PV):=match r[j]? with
 |some (.lit (.string x))=>some (Qc x lit,r.set j (.lit (.string lit)))
 |_=>none
theorem set_self{α:Type}{r:List α}{j:Nat}{z:α}(h:r[j]? =some z):r.set j z=r:=by
 apply List.ext_getElem?;intro i;rw[List.getElem?_set];split
 ·rename_i e;subst e;rw[h,if_pos (List.getElem?_eq_some_iff.1 h).1]
 ·rfl
theorem Zor{j:Nat}{lit:ByteArray}{r q:List PV}{c:Bool}(h:Qtt j lit r=some (c,q))(hc:c=true):q=r:=by
 unfold Qtt at h;split at h
 ·rename_i x hx;cases h;have e:=of_decide_eq_true hc;subst e;exact set_self hx
 ·cases h
def Qsr(j:Nat)(lit:ByteArray):Qb→Option (Bool×Qb)
 |.vec ty sz [r]=>match Qtt j lit r with
  |some p=>some (p.1,.vec ty sz [p.2])
  |none=>none
 |_=>none
theorem Zrw{j:Nat}{lit:ByteArray}{o o':Qb}{c:Bool}(h:Qsr j lit o=some (c,o'))(hc:c=true):o'=o:=by
 unfold Qsr at h;split at h
 ·split at h
  ·rename_i p hp;cases h;rw[Zor (c:=p.1) (q:=p.2) hp hc]
  ·cases h
 ·cases h
def Qlu(slot j:Nat)(lit:ByteArray)(s:St):Option (Bool×St):=match s.T.get slot with
 |some (.ptr sid _ _ _)=>match s.H[sid]? with
  |some o=>match Qsr j lit o with
   |some p=>some (p.1,{s with H:=s.H.set sid p.2})
   |none=>none
  |none=>none
 |some x=>match Qs1 j lit x with
  |some p=>some (p.1,{s with T:=s.T.set slot p.2})
  |none=>none
 |none=>none
theorem Zvd{R:Option Nat}{P:Program}{nt:Nat}{c:Code}{Q:Exit→St→Prop}{s:St}{slot j:Nat}{lit:ByteArray}{p:Bool×St}(hs:Qlu slot j lit s=some p)(hc:p.1=true)(h:Zl R P nt c Q p.2):Zl R P nt c Q s:=by
 unfold Qlu at hs;split at hs
 ·rename_i sid _ _ _ hx;split at hs
  ·rename_i o ho;split at hs
   ·rename_i q hq;cases hs;have e:=Zrw (c:=q.1) (o':=q.2) hq hc;have e2:s.H.set sid q.2=s.H:=by rw[e];exact set_self ho
    have h:Zl R P nt c Q {s with H:=s.H.set sid q.2}:=h;rw[e2]at h;exact h
   ·cases hs
  ·cases hs
 ·rename_i x _ hx;split at hs
  ·rename_i q hq;cases hs;have e:=Yj9 hq hc;refine Zl.Qhm (s':={s with T:=s.T.set slot q.2}) (fun B M ρ a w hg=>⟨ρ,?_,⟨Fr.refl ..,rfl,fun _ h=>h,fun _ h=>h⟩⟩) h;refine⟨fun t z hz=>?_,hg.sz,hg.mem,hg.df,hg.mks,hg.nle,hg.fix⟩;rcases TT.Vj _ _ _ _ _ hz with⟨e1,e2⟩|⟨_,hz⟩
   ·have hh:=hg.tm _ _ hx;rw[←e,←e2,←e1]at hh;exact hh
   ·exact hg.tm _ _ hz
  ·cases hs
 ·cases hs
end Go.Sx
section
namespace Go.Sx
open Go
inductive Q9 where
 |leaf
 |one (a:Q9)
 |two (a b:Q9)
 |loop (τ:Qi) (l:Xg) (f:Y5) (F:Nat) (a:Q9)
 |join (l:Xg) (f:Y5) (a:Q9)
 |virt (slot ty:Nat) (row:List Ty) (a:Q9)
 |sealing (k ty:Nat) (row:List Ty) (a:Q9)
 |within (l:List (Nat×Q9))
 |virtF (ob col ty:Nat) (row:List Ty) (a:Q9)
 |typ (k ty:Nat) (row:List Ty) (a:Q9)
 |phase (τ:Qi) (l:Xg) (f:Y5) (F:Nat) (a b:Q9)
 |norm (slots:List Nat) (a:Q9)
 |low
 |slb (slot:Nat) (a:Q9)
 |unslb (slot:Nat) (a:Q9)
 |cas (slot j:Nat) (lit:ByteArray) (a b:Q9)
def Q9.fst:Q9→Q9
 |.one a=>a
 |.two a _=>a
 |_=>.leaf
def Q9.snd:Q9→Q9
 |.two _ b=>b
 |_=>.leaf
structure Sm where
 pre:List SV→List Qb→Bool
 run:(X:Type)→List SV→List Qb→KO X→Option X
structure Qde (cx:Cx) (g:Nat) (sm:Sm):Prop where
 fn:∃fn,cx.fns.lookup g=some fn
 ok:∀(X:Type) (args:List SV) (H:List Qb) (k:KO X) (y:X),sm.run X args H k=some y→Xf cx.P g args H fun x H' t f=>k x H' t f=some y
structure Lx where
 ext:List (Nat×Sm)
 anns:List (Nat×Q9)
 still:List Nat
 unk:Option (Nat→Sm):=none
def Sm.first:List (Nat×Sm)→Nat→(X:Type)→List SV→List Qb→KO X→Option X
 |[],_,_,_,_,_=>none
 |q::l,g,X,args,H,k=>match Nat.beq q.1 g with
  |false=>Sm.first l g X args H k
  |true=>match q.2.pre args H with
   |true=>q.2.run X args H k
   |false=>Sm.first l g X args H k
def Lx.has(l:List (Nat×Sm))(g:Nat)(args:List SV)(H:List Qb):Bool:=l.any fun q=>match Nat.beq q.1 g with
 |true=>q.2.pre args H
 |false=>false
structure Lx.Ok (cx:Cx) (lx:Lx):Prop where
 ext:∀q∈lx.ext,Qde cx q.1 q.2
 unk:lx.unk=none
theorem Sm.Qp9{cx:Cx}:∀{l:List (Nat×Sm)} (_:∀q∈l,Qde cx q.1 q.2) {g:Nat} {X:Type} {args:List SV} {H:List Qb} {k:KO X} {y:X},Sm.first l g X args H k=some y→(∃fn,cx.fns.lookup g=some fn)∧Xf cx.P g args H fun x H' t f=>k x H' t f=some y
 |[],_,g,X,args,H,k,y,h=>by cases h
 |q::l,hl,g,X,args,H,k,y,h=>by
  simp only[Sm.first]at h;split at h
  ·exact Sm.Qp9 (fun q hq=>hl q (List.mem_cons_of_mem _ hq)) h
  ·rename_i e;have e:=Nat.eq_of_beq_eq_true e;subst e;split at h
   ·have:=hl q List.mem_cons_self;exact⟨this.fn,this.ok X args H k y h⟩
   ·exact Sm.Qp9 (fun q hq=>hl q (List.mem_cons_of_mem _ hq)) h
abbrev Jj:=(X:Type)→(X→X→Bool)→Q9→Bool→Nat→Code→St→KX X→Option X
def K6(cx:Cx)(rec:Jj):Prop:=∀(X:Type) (eq:X→X→Bool) (_:Yr eq) R an top nt c s (k:KX X) (y:X),(top=true→R=none)→rec X eq an top nt c s k=some y→Zl R cx.P nt c (fun e s'=>k e s'=some y) s
section
variable {X:Type}
def Qsy(z:Bool)(H:List Qb)(r:SV)(H':List Qb)(t g:List Nat)(k:KO X):Option X:=
 match g.isEmpty&&(Nat.ble H.length H'.length&&((z||r.free H.length)&&Qot H.length H' t))with
 |true=>match Qkm H' H.length 1000 r with
  |some r'=>k r' (Ub t H H') t []
  |none=>k r H' t g
 |false=>k r H' t g
theorem Zqo{z:Bool}{H:List Qb}{r:SV}{H':List Qb}{t g:List Nat}{k:KO X}{y:X}(h:Qsy z H r H' t g k=some y):Left H (fun x H' t f=>k x H' t f=some y) r H' t g:=by
 unfold Qsy at h;split at h
 ·rename_i e;simp only[Bool.and_eq_true,List.isEmpty_iff]at e;split at h
  ·rename_i r' hr';exact .inl ⟨e.1,Nat.le_of_ble_eq_true e.2.1,fun s hs o ho _=>Zgi e.2.2.2 s hs o ho,r',1000,hr',h⟩
  ·exact .inr h
 ·exact .inr h
def Qcd(cx:Cx)(s:St):List ResultVar→(List SV→Option X)→Option X
 |[],k=>k []
 |.tmp t::rs,k=>Qcd cx s rs fun l=>k (s.ev (.tmp t)::l)
 |.cell a t::rs,k=>(Qcc cx.tab s.H t (s.ev (.tmp a))).Vh (fun _ _=>false) (fun x=>Qcd cx s rs fun l=>k (x::l)) fun x _ _ _=>Qcd cx s rs fun l=>k (x::l)
theorem Qct{cx:Cx}{s:St}{y:X}:∀(rs:List ResultVar) (k:List SV→Option X),Qcd cx s rs k=some y→Kh cx s rs fun l=>k l=some y
 |[],k,h=>h
 |.tmp t::rs,k,h=>Qct rs _ h
 |.cell a t::rs,k,h=>Qm.Qcp (fun _ _ h=>by cases h) (fun x h=>Qct rs _ h) (fun x _ _ _ h=>Qct rs _ h) h
def Qi7:Exit→Bool
 |.normal=>true
 |.ret=>true
 |_=>false
theorem Qmb{e:Exit}(h:Qi7 e=true):e=.normal∨e=.ret:=by
 cases e with
 |normal=>exact .inl rfl
 |ret=>exact .inr rfl
 |_=>cases h
def Za4(cx:Cx)(fn:Func)(z:Bool)(H:List Qb)(k:KO X):KX X:=fun e s=>
 gd (Qi7 e&&(s.marks.isEmpty||Nat.ble H.length s.H.length)) (match shut s.marks s.H with
  |none=>none
  |some H'=>Qcd cx {s with H:=H',marks:=[]} fn.results.toList fun l=>Qsy z H (Xm l) H' s.tch s.fg k)
theorem Ygy{cx:Cx}{fn:Func}{z:Bool}{H:List Qb}{k:KO X}{e:Exit}{s:St}{y:X}(h:Za4 cx fn z H k e s=some y):
  (e = .normal ∨ e = .ret) ∧ (H.length ≤ s.H.length ∨ s.marks = []) ∧ ∃ H',shut s.marks s.H = some H' ∧ Kh cx { s with H := H',marks := [] } fn.results.toList fun l =>
   Left H (fun x H' t f=>k x H' t f=some y) (Xm l) H' s.tch s.fg:=by
 obtain⟨hc,h⟩:=Yi h;simp only[Bool.and_eq_true,Bool.or_eq_true,List.isEmpty_iff]at hc;split at h
 ·cases h
 ·rename_i H' hs;exact⟨Qmb hc.1,hc.2.symm.imp (fun h=>Nat.le_of_ble_eq_true h) id,H',hs,Qbw _ _ _ (fun l hl=>Zqo hl) (Qct _ _ h)⟩
def Qgf(rec:Jj)(eq:X→X→Bool)(ab:Q9)(s:Nat)(args:List SV)(H:List Qb)(k:KO X):Option X:=
 match H[s]? with
 |some (.loop L)=>gd (Nat.beq L.params.toList.length args.length&&L.params.toList.all fun p=>Nat.blt p L.nt) (rec X eq .leaf false L.nt L.assign (Qm9 L args H) fun e s1=>match e with
  |.normal=>gd (!s1.fg.contains s&&Nat.ble H.length s1.H.length) (match s1.H[s]? with
   |some (.loop L1)=>gd (isReady L1.state&&L1.pending.isNone) (rec X eq ab false L.nt L.body (K9 s L1 s1) fun e s2=>match Qqc e with
    |none=>none
    |some jump=>gd (!s2.fg.contains s&&Nat.ble H.length s2.H.length) (match s2.H[s]? with
     |some (.loop L2)=>k (.lit (.bool jump.isNone)) (Quy s L2 jump s2.H) (Zcy s jump s2.tch) s2.fg
     |_=>none))
   |_=>none)
  |_=>none)
 |_=>none
theorem Zdj{cx:Cx}{rec:Jj}(hrec:K6 cx rec){eq:X→X→Bool}(he:Yr eq){ab:Q9}{s:Nat}{args:List SV}{H:List Qb}{k:KO X}{y:X}
  (h:Qgf rec eq ab s args H k=some y):Qa8 cx.P s args H fun x H' t f=>k x H' t f=some y:=by
 unfold Qgf at h;split at h
 ·rename_i L hH;obtain⟨hc,h⟩:=Yi h;rw[Bool.and_eq_true]at hc;refine Ybj hH (Nat.eq_of_beq_eq_true hc.1) hc.2 fun R=>?_;refine(hrec X eq he R _ false _ _ _ _ y (fun e=>by cases e) h).mono fun e s1 h1=>?_;cases e with
  |normal=>
   obtain⟨hc1,h1⟩:=Yi h1;rw[Bool.and_eq_true]at hc1;split at h1
   ·rename_i L1 hL1;obtain⟨hc2,h1⟩:=Yi h1;rw[Bool.and_eq_true]at hc2;refine⟨rfl,Qkl hc1.1,Nat.le_of_ble_eq_true hc1.2,L1,hL1,Zz7 hc2.1,Option.isNone_iff_eq_none.1 hc2.2,?_⟩;refine(hrec X eq he R _ false _ _ _ _ y (fun e=>by cases e) h1).mono fun e s2 h2=>?_;cases hj:Qqc e with
    |none=>simp only[hj]at h2;cases h2
    |some jump=>
     simp only[hj]at h2;obtain⟨hc3,h2⟩:=Yi h2;rw[Bool.and_eq_true]at hc3;split at h2
     ·rename_i L2 hL2;exact⟨jump,rfl,Qkl hc3.1,Nat.le_of_ble_eq_true hc3.2,L2,hL2,h2⟩
     ·cases h2
   ·cases h1
  |_=>cases h1
 ·cases h
def Lx.Zh1(lx:Lx)(g n:Nat):Option Q9:=match lx.anns.lookup (g+10000000*(n+1))with
 |some a=>some a
 |none=>lx.anns.lookup g
def Qmd(lx:Lx)(g:Nat)(args:List SV)(H:List Qb)(k:KO X):Option X:=match Xw args H with
 |(c,as,S,H1)=>gd c (match Lx.has lx.ext g as H1 with
  |true=>Sm.first lx.ext g X as H1 fun x H' t f=>k x H' (S++t) f
  |false=>match lx.unk with
   |some f=>(f g).run X as H1 fun x H' t f=>k x H' (S++t) f
   |none=>none)
theorem Zmx{cx:Cx}{lx:Lx}(hlx:lx.Ok cx){g:Nat}{args:List SV}{H:List Qb}{k:KO X}{y:X}(h:Qmd lx g args H k=some y):
  (∃fn,cx.fns.lookup g=some fn)∧Xf cx.P g args H fun x H' t f=>k x H' t f=some y:=by
 unfold Qmd at h;obtain⟨hc,h⟩:=Yi (c:=(Xw args H).1) (x:=match Lx.has lx.ext g (Xw args H).2.1 (Xw args H).2.2.2 with
  |true=>Sm.first lx.ext g X (Xw args H).2.1 (Xw args H).2.2.2 fun x H' t f=>k x H' ((Xw args H).2.2.1++t) f
  |false=>match lx.unk with
   |some f=>(f g).run X (Xw args H).2.1 (Xw args H).2.2.2 fun x H' t f=>k x H' ((Xw args H).2.2.1++t) f
   |none=>none) h
 split at h
 ·obtain⟨h1,h2⟩:=Sm.Qp9 hlx.ext h;exact⟨h1,Xf.Yma hc h2⟩
 ·rw[hlx.unk]at h;cases h
def K5(cx:Cx)(lx:Lx)(rec:Jj)(eq:X→X→Bool):Vu X
 |true,s,args,H,k=>match lx.anns.lookup (1000000+s)with
  |some a=>Qgf rec eq a s args H k
  |none=>match lx.unk with
   |some f=>(f (1000000+s)).run X args H k
   |none=>Qgf rec eq .leaf s args H k
 |false,g,args,H,k=>
  match lx.Zh1 g H.length with
  |some a=>walkO a g args H k
  |none=>match lx.anns.lookup (2000000+g)with
   |some _=>Qmd lx g args H k
   |none=>match Lx.has lx.ext g args H with
    |true=>Sm.first lx.ext g X args H k
    |false=>match lx.unk with
     |some f=>(f g).run X args H k
     |none=>walkO .leaf g args H k
where walkO (a:Q9) (g:Nat) (args:List SV) (H:List Qb) (k:KO X):Option X:=match cx.fns.lookup g with
 |none=>none
 |some fn=>match fn.body with
  |none=>none
  |some c=>gd (Nat.ble args.length fn.ntmps) (rec X eq a true fn.ntmps c (.entry args H) (Za4 cx fn (lx.still.contains g) H k))
theorem Zc3{cx:Cx}(hcx:cx.Ok){lx:Lx}{rec:Jj}(hrec:K6 cx rec){eq:X→X→Bool}(he:Yr eq){a:Q9}{g:Nat}{args:List SV}{H:List Qb}{k:KO X}{y:X}(h:K5.walkO cx lx rec eq a g args H k=some y):
  (∃fn,cx.fns.lookup g=some fn)∧Xf cx.P g args H fun x H' t f=>k x H' t f=some y:=by
 unfold K5.walkO at h;split at h
 ·cases h
 ·rename_i fn hfn;split at h
  ·cases h
  ·rename_i c hb;obtain⟨hc,h⟩:=Yi h;refine⟨⟨fn,hfn⟩,?_⟩;exact Xf.leave (Qnj hcx hfn hb (Nat.le_of_ble_eq_true hc) ((hrec X eq he none _ true _ _ _ _ y (fun _=>rfl) h).mono fun e s hs=>Ygy hs))
theorem Zb1{cx:Cx}(hcx:cx.Ok){lx:Lx}(hlx:lx.Ok cx){rec:Jj}(hrec:K6 cx rec){eq:X→X→Bool}(he:Yr eq):Vu.Ok cx (K5 cx lx rec eq):=by
 refine⟨fun g args H k y h=>?_,fun s args H k y h=>?_⟩
 ·have h:(match lx.Zh1 g H.length with
   |some a=>K5.walkO cx lx rec eq a g args H k
   |none=>match lx.anns.lookup (2000000+g)with
    |some _=>Qmd lx g args H k
    |none=>match Lx.has lx.ext g args H with
     |true=>Sm.first lx.ext g X args H k
     |false=>match lx.unk with
      |some f=>(f g).run X args H k
      |none=>K5.walkO cx lx rec eq .leaf g args H k)=some y:=h
  split at h
  ·exact Zc3 hcx hrec he h
  ·split at h
   ·exact Zmx hlx h
   split at h
   ·exact Sm.Qp9 hlx.ext h
   ·rw[hlx.unk]at h;exact Zc3 hcx hrec he h
 ·have h:(match lx.anns.lookup (1000000+s)with
   |some a=>Qgf rec eq a s args H k
   |none=>match lx.unk with
    |some f=>(f (1000000+s)).run X args H k
    |none=>Qgf rec eq .leaf s args H k)=some y:=h
  split at h
  ·exact Zdj hrec he h
  ·rw[hlx.unk]at h;exact Zdj hrec he h
def Zb9(cb:Vu X)(rec:Jj)(eq:X→X→Bool)(nt:Nat)(g:Operand)(ps:Array Tmp)(assign body:Code)(s:St)(k:KX X):Option X:=
 gd (Nat.ble s.n0 s.H.length) (match Qly (s.ev g) (.yld (s.H.length+1))with
 |none=>none
 |some (gf,args)=>cb false gf args (Qpi s nt ps assign body) fun r H' t f=>
  gd ((!f.contains s.H.length&& !f.contains (s.H.length+1))&&((s.marks.all fun m=>!f.contains m&&Nat.blt m s.H.length)&&Nat.ble s.n0 H'.length)) (match loopAt H'[s.H.length+1]? with
  |some (st,pd)=>gd (Zge st) (match pd with
   |none=>k .normal (Uw s none H' t f)
   |some c=>rec X eq .leaf true nt c (Uw s (some c) H' t f) k)
  |none=>none))
theorem Zjf{cx:Cx}(hcx:cx.Ok){cb:Vu X}(hcb:cb.Ok cx){rec:Jj}(hrec:K6 cx rec){eq:X→X→Bool}(he:Yr eq){nt:Nat}{g:Operand}{ps:Array Tmp}{assign body:Code}{s:St}{k:KX X}{y:X}
  (h:Zb9 cb rec eq nt g ps assign body s k=some y):Zl none cx.P nt (.rangeFunc g ps assign body) (fun e s'=>k e s'=some y) s:=by
 obtain⟨hn,h⟩:=Yi h;cases ht:Qly (s.ev g) (.yld (s.H.length+1))with
 |none=>simp only[ht]at h;cases h
 |some q=>
  obtain⟨gf,args⟩:=q;simp only[ht]at h;obtain⟨⟨fn,hfn⟩,h⟩:=hcb.ok _ _ _ _ _ h;refine Yh0 hcx (Nat.le_of_ble_eq_true hn) ht hfn (h.mono fun r H' t f h=>?_);obtain⟨hc,h⟩:=Yi h;simp only[Bool.and_eq_true]at hc;obtain⟨⟨h1,h2⟩,h3,h4⟩:=hc;split at h
  ·rename_i st pd hL;obtain⟨hc5,h⟩:=Yi h;refine⟨Qkl h1,Qkl h2,fun m hm=>?_,Nat.le_of_ble_eq_true h4,st,pd,hL,Zua hc5,?_⟩
   ·have:=List.all_eq_true.1 h3 m hm;simp only[Bool.and_eq_true]at this;exact⟨Qkl this.1,Qa2 this.2⟩
   ·split at h
    ·exact h
    ·exact hrec X eq he none _ true _ _ _ _ y (fun _=>rfl) h
  ·cases h
def Zbn(rec:Jj)(l:Xg)(f:Y5)(an:Q9)(top:Bool)(nt:Nat)(c:Code)(s:St)(k:KX X):Option X:=
 gd (s.marks.isEmpty&&(f.ok&&K4 f l)) (match rec (Zv l) (Zv.eqv l) an top nt c s.sub (fun e s'=>Vw f s.H.length l e s')with
  |some x=>Qjc f s l x fun e s1=>k e (s.outer s1)
  |none=>none)
theorem Ycu{cx:Cx}{rec:Jj}(hrec:K6 cx rec){l:Xg}{f:Y5}{an:Q9}{R:Option Nat}{top:Bool}{nt:Nat}{c:Code}{s:St}{k:KX X}{y:X}(ht:top=true→R=none)
  (h:Zbn rec l f an top nt c s k=some y):Zl R cx.P nt c (fun e s'=>k e s'=some y) s:=by
 obtain⟨hc,h⟩:=Yi h;simp only[Bool.and_eq_true,List.isEmpty_iff]at hc;split at h
 ·rename_i x hx;rw[Qj8]at h;exact Ybu hc.1 hc.2.1 hc.2.2 (hrec _ _ (Zv.eqv_ok l) R _ top _ _ _ _ x ht hx) h
 ·cases h
def Qgm:Exit→Bool
 |.normal=>true
 |_=>false
def Qne(rec:Jj)(τ:Qi)(l:Xg)(f:Y5)(F:Nat)(an:Q9)(top:Bool)(nt:Nat)(c:Code)(s:St)(k:KX X):Option X:=
 gd (s.marks.isEmpty&&(f.ok&&(K4 f l&&(τ.Wx (f.of τ)&&l.all fun a=>!Qgm a.1)))) (match Vf τ f s.H.length s.sub with
  |some x0=>match Q5 (fun x=>rec (τ.El ⊕ Zv l) (Qe7 (Ya.eqv τ.cells) (Zv.eqv l)) an top nt c (τ.st f.D (f.of τ) f.mv s x) (Qhw f s.H.length τ l)) F x0 with
   |some y=>Qjc f s l y fun e s1=>k e (s.outer s1)
   |none=>none
  |none=>none)
def Qr7(rec:Jj)(top:Bool)(nt:Nat)(c:Code):Q9→St→KX X→Option X
 |.loop τ l f F a,s,k=>Qne rec τ l f F a top nt c s k
 |.phase τ l f F a b,s,k=>gd (s.marks.isEmpty&&(f.ok&&(K4 f l&&τ.Wx (f.of τ)))) (match Vf τ f s.H.length s.sub with
  |some x0=>match Q5 (fun x=>rec (τ.El ⊕ Zv l) (Qe7 (Ya.eqv τ.cells) (Zv.eqv l)) a top nt c (τ.st f.D (f.of τ) f.mv s x) (Qqk f s.H.length τ l)) F x0 with
   |some y=>Qjc f s l y fun e s1=>match Qgm e with
    |true=>Qr7 rec top nt c b (s.outer s1) k
    |false=>k e (s.outer s1)
   |none=>none
  |none=>none)
 |_,_,_=>none
theorem Qv0{f:Y5}{s:St}:∀{l:Xg} (x:Zv l),(l.all fun a=>!Qgm a.1)=true→(X6 f s l x).1≠.normal
 |[],x,_=>Empty.elim x
 |[a],x,h=>by simp only[List.all_cons,List.all_nil,Bool.and_true,Bool.not_eq_true']at h;intro e;simp only[X6]at e;rw[e]at h;cases h
 |a::a'::l,.inl x,h=>by simp only[List.all_cons,Bool.and_eq_true,Bool.not_eq_true']at h;intro e;simp only[X6]at e;rw[e]at h;cases h.1
 |a::a'::l,.inr x,h=>by
  have h':((a'::l).all fun a=>!Qgm a.1)=true:=by simp only[List.all_cons,Bool.and_eq_true]at h⊢;exact h.2
  simp only[X6];exact Qv0 x h'
theorem Yb5{cx:Cx}{rec:Jj}(hrec:K6 cx rec){τ:Qi}{l:Xg}{f:Y5}{F:Nat}{an:Q9}{R:Option Nat}{top:Bool}{nt:Nat}{c:Code}{s:St}{k:KX X}{y:X}(ht:top=true→R=none)
  (h:Qne rec τ l f F an top nt c s k=some y):Zl R cx.P nt (.loop c) (fun e s'=>k e s'=some y) s:=by
 obtain⟨hc,h⟩:=Yi h;simp only[Bool.and_eq_true,List.isEmpty_iff]at hc;obtain⟨c1,c2,c3,c4,c5⟩:=hc;split at h
 ·rename_i x0 hx0;split at h
  ·rename_i z hz;rw[Qj8]at h;exact Ydr c1 c2 c3 c4 (fun x r hr=>hrec _ _ (Qli (Ya.eqv_ok _) (Zv.eqv_ok _)) R _ top _ _ _ _ r ht hr) hx0 hz (Qv0 z c5) h
  ·cases h
 ·cases h
theorem Zju{cx:Cx}{rec:Jj}(hrec:K6 cx rec){τ:Qi}{l:Xg}{f:Y5}{F:Nat}{an:Q9}{R:Option Nat}{top:Bool}{nt:Nat}{c:Code}{s:St}{k:KX X}{y:X}(ht:top=true→R=none)
  (h:Qne rec τ l f F an top nt c s k=some y):Qfg R cx.P nt c (fun e s'=>k e s'=some y) s:=by
 obtain⟨hc,h⟩:=Yi h;simp only[Bool.and_eq_true,List.isEmpty_iff]at hc;obtain⟨c1,c2,c3,c4,c5⟩:=hc;split at h
 ·rename_i x0 hx0;split at h
  ·rename_i z hz;rw[Qj8]at h;exact Qzf (fun e s' r h=>Ygq h) c1 c2 c3 c4 (fun x r hr=>hrec _ _ (Qli (Ya.eqv_ok _) (Zv.eqv_ok _)) R _ top _ _ _ _ r ht hr) hx0 hz (fun hn=>absurd hn (Qv0 z c5)) (fun _=>h)
  ·cases h
 ·cases h
theorem Zxp{e:Exit}(h:Qgm e=true):e=.normal:=by cases e<;>first|rfl|cases h
theorem Zbb{cx:Cx}{rec:Jj}(hrec:K6 cx rec){R:Option Nat}{top:Bool}{nt:Nat}{c:Code}{k:KX X}{y:X}(ht:top=true→R=none):∀(an:Q9) (s:St),Qr7 rec top nt c an s k=some y→Qfg R cx.P nt c (fun e s'=>k e s'=some y) s
 |.loop τ l f F a,s,h=>Zju hrec ht h
 |.phase τ l f F a b,s,h=>by
  obtain⟨hc,h⟩:=Yi h;simp only[Bool.and_eq_true,List.isEmpty_iff]at hc;obtain⟨c1,c2,c3,c4⟩:=hc;split at h
  ·rename_i x0 hx0;split at h
   ·rename_i z hz;rw[Qj8]at h;refine Qzf (fun e s' r h=>Ztp h) c1 c2 c3 c4 (fun x r hr=>hrec _ _ (Qli (Ya.eqv_ok _) (Zv.eqv_ok _)) R _ top _ _ _ _ r ht hr) hx0 hz (fun hn=>?_) (fun hn=>?_)
    ·rw[hn]at h;exact Zbb hrec ht b _ h
    ·cases he:Qgm (X6 f s l z).1 with
     |true=>exact absurd (Zxp he) hn
     |false=>rw[he]at h;exact h
   ·cases h
  ·cases h
 |.leaf,_,h=>by cases h
 |.one _,_,h=>by cases h
 |.two _ _,_,h=>by cases h
 |.join _ _ _,_,h=>by cases h
 |.virt _ _ _ _,_,h=>by cases h
 |.sealing _ _ _ _,_,h=>by cases h
 |.within _,_,h=>by cases h
 |.virtF _ _ _ _ _,_,h=>by cases h
 |.typ _ _ _ _,_,h=>by cases h
 |.norm _ _,_,h=>by cases h
 |.slb _ _,_,h=>by cases h
 |.unslb _ _,_,h=>by cases h
 |.cas _ _ _ _ _,_,h=>by cases h
end
def Qg9(cx:Cx)(lx:Lx)(rec:Jj)(X:Type)(eq:X→X→Bool)(an:Q9)(top:Bool)(nt:Nat):Code→St→KX X→Option X
 |.skip,s,k=>k .normal s
 |.region _ ops draw,s,k=>match draw with
  |false=>Qeg eq cx (K5 cx lx rec eq) nt ops ops.toList s (k .normal)
  |true=>gd (Region.noSelect ops) (Jk eq cx (K5 cx lx rec eq) nt ops (V2 true ops ops.size (Array.replicate ops.size false)) [] s (k .normal))
 |.seq a b,s,k=>rec X eq an.fst top nt a s fun e s'=>match e with
  |.normal=>rec X eq an.snd top nt b s' k
  |e=>k e s'
 |.cond c a b,s,k=>match s.ev c with
  |.pv (.lit (.bool t))=>match t with
   |true=>rec X eq an.fst top nt a s k
   |false=>rec X eq an.snd top nt b s k
  |_=>none
 |.block id c,s,k=>rec X eq an.fst top nt c s fun e s'=>match e with
  |.exit id'=>bif Nat.beq id' id then k .normal s' else k (.exit id') s'
  |e=>k e s'
 |.loop c,s,k=>rec X eq an.fst top nt c s fun e s'=>match e with
  |.normal=>rec X eq an top nt (.loop c) s' k
  |e=>k e s'
 |.rangeFunc g ps assign body,s,k=>match top with
  |true=>Zb9 (K5 cx lx rec eq) rec eq nt g ps assign body s k
  |false=>none
 |.scope c,s,k=>match top with
  |true=>rec X eq an.fst true nt c s fun e s'=>match e with
   |.goto _=>none
   |e=>k e s'
  |false=>none
 |.exit id,s,k=>k (.exit id) s
 |.label _,s,k=>k .normal s
 |.ret,s,k=>k .ret s
 |_,_,_=>none
def Lx.more(lx:Lx)(l:List (Nat×Q9)):Lx:=match lx with
 |⟨ext,anns,still,unk⟩=>⟨ext,l++anns,still,unk⟩
theorem Lx.Ok.more{cx:Cx}{lx:Lx}(h:lx.Ok cx)(l:List (Nat×Q9)):(lx.more l).Ok cx:=⟨h.ext,h.unk⟩
def Zra(cx:Cx)(lx:Lx)(rec:Jj):Jj:=fun X eq an top nt c s k=>match an with
 |.join l f a=>Zbn rec l f a top nt c s k
 |.virt slot ty row a=>match s.T.get slot with
  |some (.pv (.lit v))=>gd (Value.isNil v) (rec X eq a top nt c (Qio s slot ty row) k)
  |_=>rec X eq a top nt c s k
 |.sealing kk ty row a=>match Qll kk ty row s with
  |some p=>gd p.1 (rec X eq a top nt c p.2 k)
  |none=>none
 |.norm slots a=>gd (s.marks.isEmpty&&Qrv (Zak slots s) s.H.length s.n0) (rec X eq a top nt c (Qt3 (Zak slots s) s) k)
 |.typ kk ty row a=>match Qnn kk ty row s with
  |some s'=>rec X eq a top nt c s' k
  |none=>none
 |.low=>match c with
  |.region _ ops draw=>match draw with
   |false=>Qeg eq cx.U2 (K5 cx.U2 lx rec eq) nt ops ops.toList s (k .normal)
   |true=>gd (Region.noSelect ops) (Jk eq cx.U2 (K5 cx.U2 lx rec eq) nt ops (V2 true ops ops.size (Array.replicate ops.size false)) [] s (k .normal))
  |_=>none
 |.slb slot a=>match Qov slot s with
  |some s'=>rec X eq a top nt c s' k
  |none=>rec X eq a top nt c s k
 |.unslb slot a=>match Qmw slot s with
  |some s'=>rec X eq a top nt c s' k
  |none=>rec X eq a top nt c s k
 |.cas slot j lit a b=>match Qlu slot j lit s with
  |some p=>match p.1 with
   |true=>rec X eq a top nt c p.2 k
   |false=>rec X eq b top nt c s k
  |none=>none
 |.virtF ob col ty row a=>match Qnz s ob col ty row with
  |some s'=>rec X eq a top nt c s' k
  |none=>none
 |.within l=>match c with
  |.loop _=>none
  |c=>Qg9 cx (lx.more l) rec X eq .leaf top nt c s k
 |.loop τ l f F a=>match c with
  |.loop body=>Qne rec τ l f F a top nt body s k
  |_=>none
 |.phase τ l f F a b=>match c with
  |.loop body=>Qr7 rec top nt body (.phase τ l f F a b) s k
  |_=>none
 |.leaf=>Qg9 cx lx rec X eq .leaf top nt c s k
 |.one a=>Qg9 cx lx rec X eq (.one a) top nt c s k
 |.two a b=>Qg9 cx lx rec X eq (.two a b) top nt c s k
def Xy(cx:Cx)(lx:Lx):Nat→Jj
 |0=>fun _ _ _ _ _ _ _ _=>none
 |n+1=>Zra cx lx (Xy cx lx n)
def Q9.plain:Q9→Bool
 |.leaf=>true
 |.one _=>true
 |.two _ _=>true
 |_=>false
theorem Qlr{cx:Cx}(hcx:cx.Ok){lx:Lx}(hlx:lx.Ok cx):∀(n:Nat),K6 cx (Xy cx lx n)∧
  (∀(X:Type) (eq:X→X→Bool) (_:Yr eq) R an top nt c s (k:KX X) (y:X),(top=true→R=none)→Xy cx lx n X eq an top nt (.loop c) s k=some y→an.plain=true→
   Qii R cx.P nt c (fun e s'=>k e s'=some y) n s)
 |0=>⟨fun X eq he R an top nt c s k y _ h=>(by cases h),fun X eq he R an top nt c s k y _ h=>(by cases h)⟩
 |n+1=>by
  obtain⟨ih1,ih2⟩:=Qlr hcx hlx n;have loop:∀(X:Type) (eq:X→X→Bool) (_:Yr eq) R an top nt c s (k:KX X) (y:X),(top=true→R=none)→Xy cx lx (n+1) X eq an top nt (.loop c) s k=some y→an.plain=true→
    Qii R cx.P nt c (fun e s'=>k e s'=some y) (n+1) s:=by
   intro X eq he R an top nt c s k y ht h hp;have h:Qg9 cx lx (Xy cx lx n) X eq an top nt (.loop c) s k=some y:=by
    cases an with
    |leaf=>exact h
    |one a=>exact h
    |two a b=>exact h
    |_=>cases hp
   refine(ih1 X eq he R an.fst top nt c s _ y ht h).mono fun e s' hs=>?_;cases e with
   |normal=>exact⟨n,Nat.le_refl n,ih2 X eq he R an top nt c s' k y ht hs hp⟩
   |_=>exact hs
  refine⟨fun X eq he R an top nt c s k y ht h=>?_,loop⟩;have code:∀(lx':Lx),lx'.Ok cx→(an.plain=true∨∀b,c≠.loop b)→∀an':Q9,(an.plain=true→an'=an∧lx'=lx)→Qg9 cx lx' (Xy cx lx n) X eq an' top nt c s k=some y→Zl R cx.P nt c (fun e s'=>k e s'=some y) s:=by
   intro lx' hlx' hp an' han hcode;have hcb:=Zb1 hcx hlx' ih1 he;cases c with
   |skip=>exact Zp3 hcode
   |region id ops draw=>
    cases draw with
    |false=>exact Zeu hcx (Qjz he hcb _ _ _ hcode)
    |true=>obtain⟨h1,h2⟩:=Yi hcode;exact Zb3 hcx h1 (Qby he hcb _ _ _ _ h2)
   |seq a b=>
    refine Zj7 ((ih1 X eq he R an'.fst top nt a s _ y ht hcode).mono fun e s' hs=>?_);cases e with
    |normal=>exact ih1 X eq he R an'.snd top nt b s' k y ht hs
    |_=>exact hs
   |cond c a b=>
    have hcode:(match s.ev c with
     |.pv (.lit (.bool t))=>match t with
      |true=>Xy cx lx n X eq an'.fst top nt a s k
      |false=>Xy cx lx n X eq an'.snd top nt b s k
     |_=>none)=some y:=hcode
    split at hcode
    ·rename_i t e;refine Zz9 e (fun hb=>?_) (fun hb=>?_)
     ·subst hb;exact ih1 X eq he R an'.fst top nt a s k y ht hcode
     ·subst hb;exact ih1 X eq he R an'.snd top nt b s k y ht hcode
    ·cases hcode
   |block id c=>
    refine Zw5 ((ih1 X eq he R an'.fst top nt c s _ y ht hcode).mono fun e s' hs=>?_);cases e with
    |exit id'=>
     simp only[Qr4];by_cases e:id'=id
     ·rw[if_pos e];simp only[Qd0 e,cond_true]at hs;exact hs
     ·rw[if_neg e];simp only[Wt e,cond_false]at hs;exact hs
    |_=>exact hs
   |loop c=>
    have hp:an.plain=true:=by
     rcases hp with hp|hp
     ·exact hp
     ·exact absurd rfl (hp c)
    obtain⟨rfl,rfl⟩:=han hp;refine Ziz (loop X eq he R an' top nt c s k y ht ?_ hp);cases an' with
    |leaf=>exact hcode
    |one a=>exact hcode
    |two a b=>exact hcode
    |_=>cases hp
   |exit id=>exact Ykg hcode
   |label l=>exact Yau hcode
   |ret=>exact Zjz hcode
   |rangeFunc g ps assign body=>
    cases top with
    |true=>have hR:=ht rfl;subst hR;exact Zjf hcx hcb ih1 he hcode
    |false=>cases hcode
   |scope c=>
    cases top with
    |true=>
     have hR:=ht rfl;subst hR;refine Zsk ((ih1 X eq he none an'.fst true nt c s _ y ht hcode).mono fun e s' hs=>?_);cases e with
     |goto _=>cases hs
     |_=>exact hs
    |false=>cases hcode
   |goto _=>cases hcode
   |refuse _=>cases hcode
  cases an with
  |join l f a=>exact Ycu ih1 ht h
  |virt slot ty row a=>
   have h:(match s.T.get slot with
    |some (.pv (.lit v))=>gd (Value.isNil v) (Xy cx lx n X eq a top nt c (Qio s slot ty row) k)
    |_=>Xy cx lx n X eq a top nt c s k)=some y:=h
   split at h
   ·rename_i v hv;obtain⟨h1,h2⟩:=Yi h;exact Zvi hv h1 (ih1 X eq he R a top nt c _ k y ht h2)
   ·exact ih1 X eq he R a top nt c _ k y ht h
  |typ kk ty row a=>
   have h:(match Qnn kk ty row s with
    |some s'=>Xy cx lx n X eq a top nt c s' k
    |none=>none)=some y:=h
   split at h
   ·rename_i s' hs';exact Yki hs' (ih1 X eq he R a top nt c _ k y ht h)
   ·cases h
  |low=>
   cases c with
   |region id ops draw=>
    have hcx':cx.U2.Ok:=hcx.U2;have hlx':lx.Ok cx.U2:=⟨fun q hq=>let h:=hlx.ext q hq;⟨h.fn,h.ok⟩,hlx.unk⟩;have ih1':K6 cx.U2 (Xy cx lx n):=ih1;have hcb:=Zb1 hcx' hlx' ih1' he;cases draw with
    |false=>exact Zeu hcx' (Qjz he hcb _ _ _ h)
    |true=>obtain⟨h1,h2⟩:=Yi h;exact Zb3 hcx' h1 (Qby he hcb _ _ _ _ h2)
   |_=>cases h
  |slb slot a=>
   have h:(match Qov slot s with
    |some s'=>Xy cx lx n X eq a top nt c s' k
    |none=>Xy cx lx n X eq a top nt c s k)=some y:=h
   split at h
   ·rename_i s' hs';exact Zr9 hs' (ih1 X eq he R a top nt c _ k y ht h)
   ·exact ih1 X eq he R a top nt c _ k y ht h
  |unslb slot a=>
   have h:(match Qmw slot s with
    |some s'=>Xy cx lx n X eq a top nt c s' k
    |none=>Xy cx lx n X eq a top nt c s k)=some y:=h
   split at h
   ·rename_i s' hs';exact Zow hs' (ih1 X eq he R a top nt c _ k y ht h)
   ·exact ih1 X eq he R a top nt c _ k y ht h
  |cas slot j lit a b=>
   have h:(match Qlu slot j lit s with
    |some p=>match p.1 with
     |true=>Xy cx lx n X eq a top nt c p.2 k
     |false=>Xy cx lx n X eq b top nt c s k
    |none=>none)=some y:=h
   split at h
   ·rename_i p hp;split at h
    ·rename_i hc;exact Zvd hp hc (ih1 X eq he R a top nt c _ k y ht h)
    ·exact ih1 X eq he R b top nt c _ k y ht h
   ·cases h
  |sealing kk ty row a=>
   have h:(match Qll kk ty row s with
    |some p=>gd p.1 (Xy cx lx n X eq a top nt c p.2 k)
    |none=>none)=some y:=h
   split at h
   ·rename_i p hp;obtain⟨h1,h2⟩:=Yi h;exact Zio (cc:=p.1) (s':=p.2) hp h1 (ih1 X eq he R a top nt c _ k y ht h2)
   ·cases h
  |virtF ob col ty row a=>
   have h:(match Qnz s ob col ty row with
    |some s'=>Xy cx lx n X eq a top nt c s' k
    |none=>none)=some y:=h
   split at h
   ·rename_i s' hs';exact Yc9 hs' (ih1 X eq he R a top nt c _ k y ht h)
   ·cases h
  |within l=>
   cases c with
   |loop b=>cases h
   |_=>exact code (lx.more l) (hlx.more l) (.inr fun b e=>by cases e) .leaf (fun e=>by cases e) h
  |loop τ l f F a=>
   cases c with
   |loop body=>exact Yb5 ih1 ht h
   |_=>cases h
  |norm slots a=>obtain⟨h1,h2⟩:=Yi h;rw[Bool.and_eq_true,List.isEmpty_iff]at h1;exact Zzx h1.1 h1.2 (ih1 X eq he R a top nt c _ k y ht h2)
  |phase τ l f F a b=>
   cases c with
   |loop body=>exact(Zbb ih1 ht _ _ h).wp
   |_=>cases h
  |leaf=>exact code lx hlx (.inl rfl) .leaf (fun _=>⟨rfl,rfl⟩) h
  |one a=>exact code lx hlx (.inl rfl) (.one a) (fun _=>⟨rfl,rfl⟩) h
  |two a b=>exact code lx hlx (.inl rfl) (.two a b) (fun _=>⟨rfl,rfl⟩) h
end Go.Sx
end
namespace Go.Sx
open Go
def Qt:List Qf→Type
 |[]=>Unit
 |[a]=>a.El
 |a::a'::l=>a.El×Qt (a'::l)
def Qt.eqv:(l:List Qf)→Qt l→Qt l→Bool
 |[]=>Qev
 |[a]=>a.eqv
 |a::a'::l=>Ws a.eqv (Qt.eqv (a'::l))
theorem Qt.eqv_ok:∀(l:List Qf),Yr (Qt.eqv l)
 |[]=>fun a b h=>rfl
 |[a]=>Qf.eqv_ok a
 |a::a'::l=>Qg1 (Qf.eqv_ok a) (Qt.eqv_ok (a'::l))
def Yf:(l:List Qf)→Qt l→List SV
 |[],_=>[]
 |[a],x=>[a.sv x]
 |a::a'::l,x=>a.sv x.1::Yf (a'::l) x.2
def rdL(H:List Qb)(n:Nat):(l:List Qf)→List SV→Option (Bool×Qt l)
 |[]=>Qle
 |[a]=>Qs5 (rdA H n a)
 |a::a'::l=>Qgt (rdA H n a) (rdL H n (a'::l))
theorem Qe.Yl9{M:Qd}{ρ ρ2:Env}{v:Value}{x:SV}(h:Qe M ρ v x):x.free 0=true→Qe M ρ2 v x:=by
 have fl:∀(l:List SV),Wf 0 l=true→∀(i:Nat) (x:SV),l[i]? =some x→x.free 0=true:=by
  intro l;induction l with
  |nil=>intro _ i x h;simp at h
  |cons y l ih=>
   intro h i x hx;simp only[Wf,Bool.and_eq_true]at h;cases i with
   |zero=>simp at hx;subst hx;exact h.1
   |succ i=>exact ih h.2 i x (by simpa using hx)
 induction h with
 |any v=>intro _;exact .any v
 |pv h=>intro _;exact .pv h
 |agg cs l hl _ ih=>intro hf;exact .agg cs l hl fun i v x hv hx=>ih i v x hv hx (fl l hf i x hx)
 |tup cs l hl _ ih=>intro hf;exact .tup cs l hl fun i v x hv hx=>ih i v x hv hx (fl l hf i x hx)
 |fn f a b x y ha hb _ _ ih jh=>intro hf;simp only[SV.free,Bool.and_eq_true]at hf;exact .fn f a b x y ha hb (fun i v s hv hs=>ih i v s hv hs (fl x hf.1 i s hs)) (fun i v s hv hs=>jh i v s hv hs (fl y hf.2 i s hs))
 |ptr s=>intro hf;simp[SV.free]at hf
 |sl s=>intro hf;simp[SV.free]at hf
 |slz s=>intro hf;simp[SV.free]at hf
 |mp s=>intro hf;simp[SV.free]at hf
 |yld s=>intro hf;simp[SV.free]at hf
 |slb s=>intro hf;simp[SV.free]at hf
theorem Zwz(l:List PV):Wf 0 (l.map .pv)=true:=by
 induction l with
 |nil=>rfl
 |cons x l ih=>simp[Wf,SV.free,ih]
theorem Yjv(l:List PV):(SV.Xo (l.map .pv)).free 0=true:=by
 unfold SV.Xo;split
 ·rfl
 ·simp only[SV.free];exact Zwz l
theorem Qf.Zhw:∀(a:Qf) (x:a.El),(a.sv x).free 0=true
 |.val t,x=>rfl
 |.agg row,x=>Yjv _
theorem Qw3:∀(l:List Qf) (x:Qt l),Wf 0 (Yf l x)=true
 |[],_=>rfl
 |[a],x=>by show((a.sv x).free 0&&true)=true;rw[Qf.Zhw a x];rfl
 |a::a'::l,x=>by simp only[Yf,Wf,Qf.Zhw,Qw3 (a'::l),Bool.and_self]
theorem Zsa(l:List Qf)(x:Qt l):(Xm (Yf l x)).free 0=true:=by
 have h:=Qw3 l x;unfold Xm;split
 ·rename_i y e;rw[e]at h;simpa[Wf]using h
 ·exact h
theorem Qy2{M:Qd}{ρ:Env}(n:Nat):∀(k:Nat),
  (∀(t:Ty),SizeOf.sizeOf t≤k→Qdv M ρ M (rdT [] n t) t.pv)∧(∀(ts:List Ty),SizeOf.sizeOf ts≤k→U5 M ρ M ts (We [] n ts)):=by
 have hle:=M.le_refl;intro k;induction k with
 |zero=>exact⟨fun t ht=>by(cases t<;>simp at ht),fun ts ht=>by(cases ts<;>simp at ht)⟩
 |succ k ih=>
  obtain⟨ih1,ih2⟩:=ih;refine⟨fun t ht=>?_,fun ts ht=>?_⟩
  ·match t,ht with
   |.int k,ht=>exact Qfj hle (Qrw k)
   |.bool,ht=>exact Qfj hle Qr0
   |.str,ht=>exact Qfj hle Qs6
   |.seq row,ht=>
    intro x c y v h hc hr;have h:Qh8 [] n row (We [] n row) x=some (c,y):=h;unfold Qh8 at h;split at h
    ·split at h
     ·rename_i y' hy;cases h;cases hr with
      |pv hp=>exact Ty.Qwr (t:=.seq row) hy hp
     ·cases h
    ·split at h
     ·cases h
     ·simp at h
    ·cases h
  ·match ts,ht with
   |[],ht=>exact Qxk
   |[t],ht=>exact Qyg (ih1 t (by simp at ht;omega))
   |t::t'::ts,ht=>exact Qz6 (ih1 t (by simp at ht;omega)) (ih2 (t'::ts) (by simp at ht⊢;omega))
theorem Yd1{M:Qd}{ρ ρ2:Env}{n:Nat}{a:Qf}{x:SV}{c:Bool}{y:a.El}{v:Value}(h:rdA [] n a x=some (c,y))(hc:c=true)(hr:Qe M ρ v x):Qe M ρ2 v (a.sv y):=by
 cases a with
 |val t=>exact .pv ((Qy2 n _).1 t (Nat.le_refl _) x c y v h hc hr)
 |agg row=>
  refine Qf.Zhi ?_;have fin:∀(cs:Array Value) (xs:List SV) (y:Qh row),W1 M ρ M row xs y→cs.size=xs.length→(∀(i:Nat) (u:Value) (x:SV),cs[i]? =some u→xs[i]? =some x→Qe M ρ u x)→Qe M ρ2 (.agg cs) ((Qf.agg row).raw y):=fun cs xs y hf hl hr=>by refine .agg cs _ (by rw[hl,hf.1];simp[Vc]) fun i u z hu hz=>?_;simp only[List.getElem?_map,Option.map_eq_some_iff]at hz;obtain⟨q,hq,rfl⟩:=hz;obtain⟨x,hx,himp⟩:=hf.2 i q hq;exact .pv (himp u (hr i u x hu hx))
  replace h:Qek [] n row x=some (c,y):=h;unfold Qek at h;split at h
  ·rename_i cs;split at h
   ·rename_i y' hy;cases h;have:=hr.Zk;subst this;refine fin cs _ _ (W1.of M.le_refl hy) (by simp) fun i u x hu hx=>?_;simp only[List.getElem?_map,Option.map_eq_some_iff,Array.getElem?_toList]at hx;obtain⟨p,⟨u',hu',rfl⟩,rfl⟩:=hx;rw[hu]at hu';cases hu';exact .pv (.lit _)
   ·cases h
  ·rename_i l;cases hr with
   |agg cs _ hl hr=>exact fin cs l y ((Qy2 n _).2 row (Nat.le_refl _) _ _ _ h hc) hl hr
  ·cases h
def Qtr(M M2:Qd)(ρ ρ2:Env){α:Type}(f:List SV→Option (Bool×α))(g:α→List SV):Prop:=
 ∀(xs:List SV) (c:Bool) (y:α),f xs=some (c,y)→c=true→(g y).length=xs.length∧
  ∀(i:Nat) (v:Value) (z x:SV),(g y)[i]? =some z→xs[i]? =some x→Qe M ρ v x→Qe M2 ρ2 v z
theorem Qqp{M M2:Qd}{ρ ρ2:Env}{H:List Qb}{n:Nat}(ha:∀(a:Qf) (x:SV) (c:Bool) (y:a.El) (v:Value),rdA H n a x=some (c,y)→c=true→Qe M ρ v x→Qe M2 ρ2 v (a.sv y)):
  ∀(l:List Qf),Qtr M M2 ρ ρ2 (rdL H n l) (Yf l)
 |[]=>by
  intro xs c y h hc;match xs,h with
  |[],h=>exact⟨rfl,fun i v z x hz hx=>by simp at hx⟩
  |_::_,h=>cases h
 |[a]=>by
  intro xs c y h hc;match xs,h with
  |[],h=>cases h
  |_::_::_,h=>cases h
  |[x],h=>
   replace h:rdA H n a x=some (c,y):=h;refine⟨rfl,fun i v z x' hz hx' hr=>?_⟩;cases i with
   |zero=>simp only[Yf,List.getElem?_cons_zero,Option.some.injEq]at hz hx';subst hz;subst hx';exact ha a x c y v h hc hr
   |succ i=>simp at hx'
 |a::a'::l=>by
  intro xs c y h hc;match xs,h with
  |[],h=>cases h
  |x::xs,h=>
   replace h:Qgt (rdA H n a) (rdL H n (a'::l)) (x::xs)=some (c,y):=h;simp only[Qgt]at h;split at h
   ·cases h
   ·rename_i p h1;split at h
    ·cases h
    ·rename_i q h2;cases h;rw[Bool.and_eq_true]at hc;obtain⟨g1,g2⟩:=Qqp ha (a'::l) xs q.1 q.2 h2 hc.2;refine⟨by simp only[Yf,List.length_cons,g1],fun i v z x' hz hx' hr=>?_⟩;cases i with
     |zero=>simp only[Yf,List.getElem?_cons_zero,Option.some.injEq]at hz hx';subst hz;subst hx';exact ha a x p.1 p.2 v h1 hc.1 hr
     |succ i=>simp only[Yf,List.getElem?_cons_succ]at hz hx';exact g2 i v z x' hz hx' hr
theorem Zcq{M:Qd}{ρ ρ2:Env}{H:List Qb}{w:World}{n:Nat}(hm:Mem M ρ H w)(l:List Qf):Qtr M (M.sealing ρ H n w) ρ ρ2 (rdL H n l) (Yf l):=
 Qqp (fun a x c y v h hc hr=>Qss hm h hc hr) l
theorem Qxx{M:Qd}{ρ ρ2:Env}{n:Nat}(l:List Qf):Qtr M M ρ ρ2 (rdL [] n l) (Yf l):=
 Qqp (fun a x c y v h hc hr=>Yd1 h hc hr) l
structure PC where
 ats:List Qf
 rts:List Qf
 code:Qt ats→Option (Qt rts)
structure Qg (cx:Cx) (g:Nat) (pc:PC):Prop where
 fn:∃fn,cx.fns.lookup g=some fn
 ok:∀a y,pc.code a=some y→Xf cx.P g (Yf pc.ats a) [] fun r H' t f=>r=Xm (Yf pc.rts y)∧H'=[]∧t=[]∧f=[]
def PC.sm(pc:PC):Sm where
 pre:=fun args H=>(rdL [] 0 pc.ats args).isSome||((rdL H 0 pc.ats args).isSome&&pc.rts.all Qf.scalar)
 run:=fun X args H k=>match rdL [] 0 pc.ats args with
  |some p=>gd p.1 (match pc.code p.2 with
   |some y=>k (Xm (Yf pc.rts y)) H [] []
   |none=>none)
  |none=>match rdL H 0 pc.ats args with
   |some p=>gd (p.1&&pc.rts.all Qf.scalar) (match pc.code p.2 with
    |some y=>k (Xm (Yf pc.rts y)) H [] []
    |none=>none)
   |none=>none
def Qow:List SV→Bool
 |[]=>true
 |.pv (.lit _)::l=>Qow l
 |_=>false
def SV.Qla:SV→Bool
 |.pv (.lit _)=>true
 |.agg l=>Qow l
 |_=>false
theorem Zdb:∀{l:List SV},Qow l=true→∀(i:Nat) (x:SV),l[i]? =some x→∃v,x=.lit v
 |[],_,i,x,h=>by simp at h
 |.pv (.lit v)::l,hl,i,x,h=>by
  cases i with
  |zero=>simp at h;exact⟨v,h.symm⟩
  |succ i=>exact Zdb (l:=l) hl i x (by simpa using h)
theorem Qw4{M M2:Qd}{ρ ρ2:Env}{v:Value}{x:SV}(hs:x.Qla=true)(h:Qe M ρ v x):Qe M2 ρ2 v x:=by
 match x,hs,h with
 |.pv (.lit u),_,h=>rw[h.Zk];exact .pv (.lit _)
 |.agg l,hs,.agg cs _ hl hr=>refine .agg cs l hl fun i v x hv hx=>?_;obtain⟨u,rfl⟩:=Zdb hs i x hx;rw[(hr i v _ hv hx).Zk];exact .pv (.lit _)
theorem Qzk:∀(row:List Ty) (x:Qh row),row.all Ty.scalar=true→Qow ((Zj row x).map .pv)=true
 |[],_,_=>rfl
 |[t],x,h=>by cases t<;>first|rfl|(simp[Ty.scalar]at h)
 |t::t'::ts,x,h=>by simp only[List.all_cons,Bool.and_eq_true]at h;have:=Qzk (t'::ts) x.2 (by simp only[List.all_cons,Bool.and_eq_true];exact h.2);cases t<;>first|exact this|(simp[Ty.scalar]at h)
theorem Qf.Zhx(a:Qf)(x:a.El)(h:a.scalar=true):(a.sv x).Qla=true:=by
 cases a with
 |val t=>cases t<;>first|rfl|(simp[Qf.scalar,Ty.scalar]at h)
 |agg row=>
  show(SV.Xo ((Zj row x).map .pv)).Qla=true;unfold SV.Xo;split
  ·rfl
  ·exact Qzk row x h
theorem Zhc:∀(l:List Qf) (y:Qt l),l.all Qf.scalar=true→∀(i:Nat) (x:SV),(Yf l y)[i]? =some x→x.Qla=true
 |[],_,_,i,x,h=>by simp[Yf]at h
 |[a],y,hs,i,x,h=>by
  cases i with
  |zero=>simp only[Yf,List.getElem?_cons_zero,Option.some.injEq]at h;subst h;exact Qf.Zhx a y (by simpa using hs)
  |succ i=>simp[Yf]at h
 |a::a'::l,y,hs,i,x,h=>by
  simp only[List.all_cons,Bool.and_eq_true]at hs;cases i with
  |zero=>simp only[Yf,List.getElem?_cons_zero,Option.some.injEq]at h;subst h;exact Qf.Zhx a y.1 hs.1
  |succ i=>exact Zhc (a'::l) y.2 (by simp only[List.all_cons,Bool.and_eq_true];exact hs.2) i x (by simpa[Yf]using h)
theorem Zpn{M M2:Qd}{ρ ρ2:Env}{v:Value}{l:List SV}(hs:∀(i:Nat) (x:SV),l[i]? =some x→x.Qla=true)(h:Qe M ρ v (Xm l)):Qe M2 ρ2 v (Xm l):=by
 unfold Xm at h⊢;split at h
 ·rename_i x;exact Qw4 (hs 0 x rfl) h
 ·cases h with
  |tup cs _ hl hr=>exact .tup cs _ hl fun i v x hv hx=>Qw4 (hs i x hx) (hr i v x hv hx)
def Jr:Env:=fun _=>none
theorem Qh9{M:Qd}{w:World}(h:∀b o,M b=some o→w.heap[b]? =some o):Mem M Jr [] w:=
 ⟨h,fun s o ho=>by simp at ho,fun s o p b ho=>by simp at ho,fun s s' o o' p p' b ho=>by simp at ho,fun s _=>rfl,fun s o p b ho=>by simp at ho⟩
theorem Qar{b:Nat}:¬Jh Jr [] b:=fun⟨s,o,p,h,_⟩=>by simp at h
theorem PC.Qs{cx:Cx}{g:Nat}{pc:PC}(h:Qg cx g pc):Qde cx g pc.sm:=by
 refine⟨h.fn,fun X args H k y hk=>?_⟩;have hk:(match rdL [] 0 pc.ats args with
  |some p=>gd p.1 (match pc.code p.2 with
   |some y=>k (Xm (Yf pc.rts y)) H [] []
   |none=>none)
  |none=>match rdL H 0 pc.ats args with
   |some p=>gd (p.1&&pc.rts.all Qf.scalar) (match pc.code p.2 with
    |some y=>k (Xm (Yf pc.rts y)) H [] []
    |none=>none)
   |none=>none)=some y:=hk
 have keep:∀(w w':World) (M2 M2':Qd) (ρ':Env) (H':List Qb) (t f:List Nat),Fr M2 Jr [] w M2' ρ' H' w' 0 t f→∀b,b<w.heap.size→w'.heap[b]? =w.heap[b]? :=fun w w' M2 M2' ρ' H' t f hf b hb=>hf.same b hb Qar;split at hk
 ·rename_i p hrd;obtain⟨hc,hk⟩:=Yi hk;split at hk
  ·rename_i z hz;intro M ρ w vs hm hr;obtain⟨l1,l2⟩:=Qxx (M:=M) (ρ:=ρ) (ρ2:=Jr) pc.ats args p.1 p.2 hrd hc;refine(h.ok p.2 z hz M Jr w vs (Qh9 hm.imm) ⟨by rw[hr.1,l1],fun i v x hv hx=>?_⟩).mono ?_
   ·obtain⟨x',hx'⟩:∃x',args[i]? =some x':=by
     have:i<args.length:=by rw[←l1];exact(List.getElem?_eq_some_iff.1 hx).1
     exact⟨_,List.getElem?_eq_getElem this⟩
    exact l2 i v x x' hx hx' (hr.2 i v x' hv hx')
   ·rintro e w' ⟨v,r,H',M',ρ',t,f,he,⟨rfl,rfl,rfl,rfl⟩,hs,hm',hf⟩
    have hsame:=keep _ _ _ _ _ _ _ _ hf;refine⟨v,_,H,M',ρ,[],[],he,hk,hs.Yl9 (Zsa _ z),?_,?_⟩
    ·refine⟨hm'.imm,fun s o ho=>?_,fun s o p b ho hl hp hb=>?_,hm.diss,hm.fresh,fun s o p b ho hl hp hb=>Nat.lt_of_lt_of_le (hm.lts s o p b ho hl hp hb) hf.grow⟩
     ·by_cases hl:o.live=true
      ·exact(hm.own s o ho).mono hf.imm ρ.le_refl rfl fun p b hp hb=>hsame _ (hm.Js ho hl hp hb)
      ·rw[Qab hl];trivial
     ·cases e:M' b with
      |none=>rfl
      |some ob=>
       rcases hf.new b ob (hm.seps s o p b ho hl hp hb) e with h1|h1
       ·have:=hm.Js ho hl hp hb;omega
       ·exact absurd h1 Qar
    ·exact⟨hf.imm,fun b o a c=>(hf.new b o a c).imp id fun h=>absurd h Qar,fun b hb=>.inr hb,fun b hb _=>hsame b hb,hf.grow,fun s o _ _ ho hl=>⟨⟨o,ho,hl⟩,fun p hp=>⟨hp,fun b hb=>hsame _ (hm.Js ho hl hp hb)⟩⟩,fun _ _ _=>rfl,hf.io⟩
  ·cases hk
 ·split at hk
  ·rename_i p hrd;obtain⟨hc,hk⟩:=Yi hk;rw[Bool.and_eq_true]at hc;split at hk
   ·rename_i z hz;intro M ρ w vs hm hr;obtain⟨l1,l2⟩:=Zcq (n:=0) (ρ2:=Jr) hm pc.ats args p.1 p.2 hrd hc.1;have hM2:∀b o,(M.sealing ρ H 0 w) b=some o→w.heap[b]? =some o:=fun b o hb=>by
     cases e:M b with
     |some o'=>rw[Qd.J1 M ρ H 0 w b o' e]at hb;cases hb;exact hm.imm b _ e
     |none=>exact(Qd.Vk e hb).2
    refine(h.ok p.2 z hz (M.sealing ρ H 0 w) Jr w vs (Qh9 hM2) ⟨by rw[hr.1,l1],fun i v x hv hx=>?_⟩).mono ?_
    ·obtain⟨x',hx'⟩:∃x',args[i]? =some x':=by
      have:i<args.length:=by rw[←l1];exact(List.getElem?_eq_some_iff.1 hx).1
      exact⟨_,List.getElem?_eq_getElem this⟩
     exact l2 i v x x' hx hx' (hr.2 i v x' hv hx')
    ·rintro e w' ⟨v,r,H',M',ρ',t,f,he,⟨rfl,rfl,rfl,rfl⟩,hs,hm',hf⟩
     have hsame:=keep _ _ _ _ _ _ _ _ hf;refine⟨v,_,H,M,ρ,[],[],he,hk,Zpn (Zhc _ z hc.2) hs,?_,?_⟩
     ·refine⟨fun b o hb=>?_,fun s o ho=>?_,hm.seps,hm.diss,hm.fresh,fun s o p b ho hl hp hb=>Nat.lt_of_lt_of_le (hm.lts s o p b ho hl hp hb) hf.grow⟩
      ·rw[hsame b (hm.Qqa hb)];exact hm.imm b o hb
      ·by_cases hl:o.live=true
       ·exact(hm.own s o ho).mono M.le_refl ρ.le_refl rfl fun p b hp hb=>hsame _ (hm.Js ho hl hp hb)
       ·rw[Qab hl];trivial
     ·exact⟨M.le_refl,fun b o a c=>(by rw[a]at c;cases c),fun b hb=>.inr hb,fun b hb _=>hsame b hb,hf.grow,fun s o _ _ ho hl=>⟨⟨o,ho,hl⟩,fun p hp=>⟨hp,fun b hb=>hsame _ (hm.Js ho hl hp hb)⟩⟩,fun _ _ _=>rfl,hf.io⟩
   ·cases hk
  ·cases hk
def Qzl(cx:Cx)(fn:Func)(rts:List Qf):KX (Qt rts):=fun e s=>
 gd (Qi7 e) (match shut s.marks s.H with
  |none=>none
  |some H'=>Qcd cx {s with H:=H',marks:=[]} fn.results.toList fun l=>match rdL H' 0 rts l with
   |none=>none
   |some p=>gd p.1 (some p.2))
def Zs(cx:Cx)(lx:Lx)(n:Nat)(an:Q9)(fn:Func)(c:Code)(ats rts:List Qf)(a:Qt ats):Option (Qt rts):=
 Xy cx lx n (Qt rts) (Qt.eqv rts) an true fn.ntmps c (.entry (Yf ats a) []) (Qzl cx fn rts)
theorem Ygg{cx:Cx}{fn:Func}{rts:List Qf}{e:Exit}{s:St}{y:Qt rts}(h:Qzl cx fn rts e s=some y):
  (e=.normal∨e=.ret)∧∃H',shut s.marks s.H=some H'∧Kh cx {s with H:=H',marks:=[]} fn.results.toList fun l=>∃c,c=true∧rdL H' 0 rts l=some (c,y):=by
 obtain⟨h1,h⟩:=Yi h;refine⟨Qmb h1,?_⟩;split at h
 ·cases h
 ·rename_i H' hs;refine⟨H',hs,Qbw _ _ _ (fun l hl=>?_) (Qct _ _ h)⟩;split at hl
  ·cases hl
  ·rename_i p hp;obtain⟨h2,hl⟩:=Yi hl;cases hl;exact⟨p.1,h2,hp⟩
theorem Qg.Z3{cx:Cx}(hcx:cx.Ok){lx:Lx}(hlx:lx.Ok cx){n g:Nat}{an:Q9}{fn:Func}{c:Code}{pc:PC}(hf:cx.fns.lookup g=some fn)(hb:fn.body=some c)
  (hcode:∀a y,pc.code a=some y→Zs cx lx n an fn c pc.ats pc.rts a=some y) (hn:Nat.ble pc.ats.length fn.ntmps=true):Qg cx g pc:=by
 refine⟨⟨fn,hf⟩,fun a y hy=>?_⟩;have hlen:∀(l:List Qf) (x:Qt l),(Yf l x).length=l.length:=by
  intro l;induction l with
  |nil=>intro _;rfl
  |cons a l ih=>
   cases l with
   |nil=>intro _;rfl
   |cons b l=>intro x;simp only[Yf,List.length_cons,ih x.2]
 have hw:=(Qlr hcx hlx n).1 _ _ (Qt.eqv_ok pc.rts) none an true fn.ntmps c _ _ y (fun _=>rfl) (hcode a y hy);have hcall:Xf cx.P g (Yf pc.ats a) [] fun r H' t f=>∃l cc,r=Xm l∧cc=true∧rdL H' 0 pc.rts l=some (cc,y):=by refine Qnj hcx hf hb (by rw[hlen];exact Nat.le_of_ble_eq_true hn) (hw.mono fun e s hs=>?_);obtain⟨h1,H',h2,h3⟩:=Ygg hs;exact⟨h1,.inl (Nat.zero_le _),H',h2,Qbw _ _ _ (fun l ⟨cc,h4,h5⟩=>⟨l,cc,rfl,h4,h5⟩) h3⟩
 intro M ρ w vs hm hr;refine(hcall M ρ w vs hm hr).mono ?_
 rintro e w' ⟨v,r,H',M',ρ',t,f,he,⟨l,cc,rfl,hcc,hrd⟩,hs,hm',hfr⟩
 obtain⟨g1,g2⟩:=Zcq (n:=0) (ρ2:=Jr) hm' pc.rts l cc y hrd hcc;have hne:ρ=Jr:=by funext s;exact hm.fresh s (Nat.zero_le _)
 have hM2:∀b o,(M'.sealing ρ' H' 0 w') b=some o→w'.heap[b]? =some o:=fun b o hb=>by
  cases e:M' b with
  |some o'=>rw[Qd.J1 M' ρ' H' 0 w' b o' e]at hb;cases hb;exact hm'.imm b _ e
  |none=>exact(Qd.Vk e hb).2
 refine⟨v,_,[],M'.sealing ρ' H' 0 w',Jr,[],[],he,⟨rfl,rfl,rfl,rfl⟩,?_,Qh9 hM2,?_⟩
 ·unfold Xm at hs⊢;split at hs
  ·rename_i x;match hsv:Yf pc.rts y,g1 with
   |[z],_=>simp only;exact g2 0 v z x (by rw[hsv];rfl) rfl hs
  ·rename_i hx;have hx2:∀z,Yf pc.rts y=[z]→False:=fun z hz=>by
    rw[hz]at g1;match l,g1 with
    |[x],_=>exact hx x rfl
   cases hs with
   |tup cs _ hl hrr=>
    have:Qe (M'.sealing ρ' H' 0 w') Jr (.tuple cs) (.tup (Yf pc.rts y)):=.tup cs _ (by rw[hl,g1]) fun i u z hu hz=>by
     obtain⟨x',hx'⟩:∃x',l[i]? =some x':=by
      have:i<l.length:=by rw[←g1];exact(List.getElem?_eq_some_iff.1 hz).1
      exact⟨_,List.getElem?_eq_getElem this⟩
     exact g2 i u z x' hz hx' (hrr i u x' hu hx')
    match hsv:Yf pc.rts y with
    |[]=>simp only;rw[←hsv];exact this
    |[z]=>exact absurd hsv (fun h=>hx2 z h)
    |z::z'::zs=>simp only;rw[←hsv];exact this
 ·have hsl:=Qd.J1 M' ρ' H' 0 w';refine⟨Qd.le_trans hfr.imm hsl,fun b o h0 h1=>?_,fun b hb=>absurd hb Qar,hfr.same,hfr.grow,fun s o hs=>absurd hs (Nat.not_lt_zero s),fun s hs=>absurd hs (Nat.not_lt_zero s),hfr.io⟩;cases e:M' b with
  |some o'=>exact hfr.new b o' h0 e
  |none=>obtain⟨⟨s2,o2,p2,k1,k2,k3,k4,k5⟩,_⟩:=Qd.Vk e h1;exact hfr.own b ⟨s2,o2,p2,k2,by cases o2<;>simp_all [Qb.Vi,Qb.live],k4,.inl k5⟩
theorem Lx.V8{cx:Cx}{an:List (Nat×Q9)}{st:List Nat}:Lx.Ok cx {ext:=[],anns:=an,still:=st}:=⟨fun q hq=>(by cases hq),rfl⟩
theorem Lx.Ze{cx:Cx}{g:Nat}{sm:Sm}{l:List (Nat×Sm)}{an:List (Nat×Q9)}{st:List Nat}(h:Qde cx g sm)(hl:Lx.Ok cx {ext:=l,anns:=an,still:=st}):Lx.Ok cx {ext:=(g,sm)::l,anns:=an,still:=st}:=
 ⟨fun q hq=>by
  rcases List.mem_cons.1 hq with rfl|hq
  ·exact h
  ·exact hl.ext q hq,rfl⟩
def Qa(α:Type):List α:=[]
def Qr(fn:Func):Code:=match fn.body with
 |some c=>c
 |none=>.skip
end Go.Sx

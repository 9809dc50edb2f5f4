/- Part Qs of the own logic: an owned row becomes immutable where it stands. Own rows that a function of data gets: they become immutable at the call. And further parts. -/
import Derived.Test.YtpkbmngnolhopaaGreatDoorXSxP
set_option linter.unusedVariables false
set_option linter.unusedSimpArgs false
set_option linter.unnecessarySimpa false
section
namespace Go.Sx
open Go
def TT.all(p:SV→Bool):TT→Bool
 |.nil=>true
 |.node l v r=>l.all p&&((match v with|some x=>p x|none=>true)&&r.all p)
theorem TT.Qmy{p:SV→Bool}:∀{T:TT} {t:Nat} {x:SV},T.all p=true→T.get t=some x→p x=true
 |.nil,t,x,_,h=>by simp[TT.get]at h
 |.node l v r,t,x,ha,h=>by
  simp only[TT.all,Bool.and_eq_true]at ha;simp only[TT.get]at h;cases h0:Nat.beq t 0 with
  |true=>rw[h0]at h;simp only[cond_true]at h;subst h;exact ha.2.1
  |false=>
   rw[h0]at h;simp only[cond_false]at h;cases h1:Nat.beq (t%2) 1 with
   |true=>rw[h1]at h;exact TT.Qmy ha.1 h
   |false=>rw[h1]at h;exact TT.Qmy ha.2.2 h
mutual
def Xa(k:Nat)(row:List Ty)(l:List (Qh row)):SV→SV
 |.sl s sz st n=>match Nat.beq s k with
  |true=>match st with
   |0=>.pv (.tsl row l)
   |_+1=>.any
  |false=>.sl s sz st n
 |.agg x=>.agg (Qb7 k row l x)
 |.tup x=>.tup (Qb7 k row l x)
 |.fn f a b=>.fn f (Qb7 k row l a) (Qb7 k row l b)
 |.ptr s sz i j=>.ptr s sz i j
 |.mp s=>.mp s
 |.yld s=>.yld s
 |.slb _ _ _ _ _=>.any
 |.any=>.any
 |.pv p=>.pv p
def Qb7(k:Nat)(row:List Ty)(l:List (Qh row)):List SV→List SV
 |[]=>[]
 |x::xs=>Xa k row l x::Qb7 k row l xs
end
mutual
def sealC(k:Nat)(row:List Ty)(l:List (Qh row)):SV→Bool
 |.sl s sz st n=>match Nat.beq s k with
  |true=>match st with
   |0=>Nat.beq sz row.length&&decide (n=l.length)
   |_+1=>true
  |false=>true
 |.agg x=>U4 k row l x
 |.tup x=>U4 k row l x
 |.fn f a b=>U4 k row l a&&U4 k row l b
 |_=>true
def U4(k:Nat)(row:List Ty)(l:List (Qh row)):List SV→Bool
 |[]=>true
 |x::xs=>sealC k row l x&&U4 k row l xs
end
theorem Qnt(k:Nat)(row:List Ty)(l:List (Qh row))(xs:List SV):Qb7 k row l xs=xs.map (Xa k row l):=by
 induction xs with
 |nil=>rfl
 |cons x xs ih=>simp only[Qb7,List.map_cons,ih]
theorem Qei{k:Nat}{row:List Ty}{l:List (Qh row)}:∀{xs:List SV},U4 k row l xs=true→∀(i:Nat) (x:SV),xs[i]? =some x→sealC k row l x=true
 |[],_,i,x,h=>by simp at h
 |y::xs,hc,i,x,h=>by
  simp only[U4,Bool.and_eq_true]at hc;cases i with
  |zero=>simp at h;subst h;exact hc.1
  |succ i=>exact Qei hc.2 i x (by simpa using h)
def Qa.W3(k:Nat)(row:List Ty)(l:List (Qh row)):Qa→Qa
 |.mix ty sz rows=>.mix ty sz (rows.map (·.map (Xa k row l)))
 |.tlnk ty row' l' r c x=>.tlnk ty row' l' r c (Xa k row l x)
 |.nest ty ity row' ll q=>.nest ty ity row' ll (q.map fun x=>(x.1,Xa k row l x.2))
 |.map es c=>.map (es.map fun e=>(e.1,Xa k row l e.2.1,e.2.2)) c
 |.loop x=>.loop {x with T:=x.T.map (Xa k row l)}
 |o=>o
def Qa.sealC(k:Nat)(row:List Ty)(l:List (Qh row)):Qa→Bool
 |.mix ty sz rows=>rows.all (U4 k row l)
 |.tlnk _ _ _ _ _ x=>Sx.sealC k row l x
 |.nest _ _ _ _ q=>match q with
  |some x=>Sx.sealC k row l x.2
  |none=>true
 |.map es c=>es.all fun e=>Sx.sealC k row l e.2.1
 |.loop x=>x.T.all (Sx.sealC k row l)
 |_=>true
def oneLive(H:List Qa)(k:Nat)(o:Qa):List Qa:=(H.map fun _=>Qa.dead).set k o
theorem Qcj{H:List Qa}{k s:Nat}{o x:Qa}(h:(oneLive H k o)[s]? =some x):(s=k∧x=o)∨(s≠k∧x=.dead):=by
 unfold oneLive at h;rw[List.getElem?_set]at h;split at h
 ·rename_i e;subst e;split at h
  ·cases h;exact .inl ⟨rfl,rfl⟩
  ·cases h
 ·rename_i e;simp only[List.getElem?_map,Option.map_eq_some_iff]at h;obtain⟨_,_,rfl⟩:=h;exact .inr ⟨fun h=>e h.symm,rfl⟩
theorem Mem.oneLive{M:Qc}{ρ:Env}{H:List Qa}{w:World}(hm:Mem M ρ H w){k:Nat}{o o1:Qa}(hk:H[k]? =some o1)(hl:o1.live=true)(ho:Qt M ρ w k o):Mem M ρ (Sx.oneLive H k o) w:=by
 refine⟨hm.imm,fun s x hx=>?_,fun s x p b hx hlx hp hb=>?_,fun s s' x x' p p' b hx hx' hlx hlx' hp hp' hb hb'=>?_,fun s hs=>hm.fresh s (by simpa[Sx.oneLive]using hs),fun s x p b hx hlx hp hb=>?_⟩
 ·rcases Qcj hx with⟨rfl,rfl⟩|⟨_,rfl⟩
  ·exact ho
  ·trivial
 ·rcases Qcj hx with⟨rfl,rfl⟩|⟨_,rfl⟩
  ·exact hm.seps s o1 p b hk hl hp hb
  ·cases hlx
 ·rcases Qcj hx with⟨rfl,rfl⟩|⟨_,rfl⟩
  ·rcases Qcj hx' with⟨rfl,rfl⟩|⟨_,rfl⟩
   ·rfl
   ·cases hlx'
  ·cases hlx
 ·rcases Qcj hx with⟨rfl,rfl⟩|⟨_,rfl⟩
  ·exact hm.lts s o1 p b hk hl hp hb
  ·cases hlx
theorem Zi6{M M':Qc}{ρ:Env}{k:Nat}{row:List Ty}{l:List (Qh row)}(hle:M.le M')(hk:∀v,Qd M ρ v (.sl k row.length 0 l.length)→Zc M' v (.tsl row l)){v:Value}{x:SV}(h:Qd M ρ v x):sealC k row l x=true→Qd M' ρ v (Xa k row l x):=by
 induction h with
 |any v=>intro _;exact .any v
 |pv h=>intro _;exact .pv (h.mono hle)
 |agg cs xs hl _ ih=>intro hc;simp only[sealC]at hc;simp only[Xa,Qnt];refine .agg cs _ (by simpa using hl) fun i v x hv hx=>?_;simp only[List.getElem?_map,Option.map_eq_some_iff]at hx;obtain⟨y,hy,rfl⟩:=hx;exact ih i v y hv hy (Qei hc i y hy)
 |tup cs xs hl _ ih=>intro hc;simp only[sealC]at hc;simp only[Xa,Qnt];refine .tup cs _ (by simpa using hl) fun i v x hv hx=>?_;simp only[List.getElem?_map,Option.map_eq_some_iff]at hx;obtain⟨y,hy,rfl⟩:=hx;exact ih i v y hv hy (Qei hc i y hy)
 |ptr s sz i j kk p hp hkk=>intro _;exact .ptr s sz i j kk p hp hkk
 |sl s sz st n c kk p hp hkk hc hn h6=>
  intro hcc;simp only[sealC]at hcc;simp only[Xa];split
  ·rename_i e;have e:=Nat.eq_of_beq_eq_true e;subst e;rw[Nat.beq_refl]at hcc;simp only at hcc;cases st with
   |zero=>simp only[Bool.and_eq_true]at hcc;have e1:=Nat.eq_of_beq_eq_true hcc.1;have e2:=of_decide_eq_true hcc.2;subst e1;subst e2;exact .pv (hk _ (.sl _ _ _ _ c kk p hp hkk hc hn h6))
   |succ st=>exact .any _
  ·exact .sl s sz st n c kk p hp hkk hc hn h6
 |slz s sz st a=>
  intro hcc;simp only[sealC]at hcc;simp only[Xa];split
  ·rename_i e;have e:=Nat.eq_of_beq_eq_true e;subst e;rw[Nat.beq_refl]at hcc;simp only at hcc;cases st with
   |zero=>simp only[Bool.and_eq_true]at hcc;have e1:=Nat.eq_of_beq_eq_true hcc.1;have e2:=of_decide_eq_true hcc.2;subst e1;refine .pv (hk _ ?_);rw[←e2];exact .slz _ _ _ _
   |succ st=>exact .any _
  ·exact .slz s sz st a
 |mp s p hp=>intro _;exact .mp s p hp
 |yld s p hp=>intro _;exact .yld s p hp
 |slb s sz st n m _ _ _=>intro _;exact .any _
 |fn f a b x y ha hb _ _ ih jh=>
  intro hc;simp only[sealC,Bool.and_eq_true]at hc;simp only[Xa,Qnt];refine .fn f a b _ _ (by simpa using ha) (by simpa using hb) (fun i v s hv hs=>?_) (fun i v s hv hs=>?_)
  ·simp only[List.getElem?_map,Option.map_eq_some_iff]at hs;obtain⟨y,hy,rfl⟩:=hs;exact ih i v y hv hy (Qei hc.1 i y hy)
  ·simp only[List.getElem?_map,Option.map_eq_some_iff]at hs;obtain⟨y,hy,rfl⟩:=hs;exact jh i v y hv hy (Qei hc.2 i y hy)
theorem Qt.W3{M M':Qc}{ρ:Env}{w:World}{k s:Nat}{row:List Ty}{l:List (Qh row)}{o:Qa}(hle:M.le M')(hf:∀v x,Qd M ρ v x→Sx.sealC k row l x=true→Qd M' ρ v (Xa k row l x))(hc:o.sealC k row l=true)(h:Qt M ρ w s o):Qt M' ρ w s (o.W3 k row l):=by
 cases o with
 |mix ty sz rows=>
  simp only[Qa.sealC]at hc;rcases h with⟨h1,h2⟩|⟨p,h1,h2⟩
  ·exact .inl ⟨h1,by simp[h2]⟩
  ·refine .inr ⟨p,h1,?_⟩;obtain⟨cs,a1,a2,a3,a4,a5,a6⟩:=h2.ex;have key:∀i j x,Yq (rows.map (·.map (Xa k row l))) i j=some x→∃y,Yq rows i j=some y∧x=Xa k row l y∧Sx.sealC k row l y=true:=fun i j x hx=>by unfold Yq at hx;simp only[List.getElem?_map,Option.bind_eq_some_iff,Option.map_eq_some_iff]at hx;obtain⟨r',⟨r,hr,rfl⟩,hx⟩:=hx;simp only[List.getElem?_map,Option.map_eq_some_iff]at hx;obtain⟨y,hy,rfl⟩:=hx;exact⟨y,by simp[Yq,hr,hy],rfl,Qei (List.all_eq_true.1 hc r (List.mem_of_getElem? hr)) j y hy⟩
   refine⟨cs,a1,a2,by simpa using a3,by simpa using a4,fun i j x v hx hv=>?_,fun i j x hx=>?_⟩
   ·obtain⟨y,hy,rfl,hcy⟩:=key i j x hx;obtain⟨b1,b2,b3⟩:=a5 i j y v hy hv;exact⟨by simpa using b1,b2,hf v y b3 hcy⟩
   ·obtain⟨y,hy,_⟩:=key i j x hx;simpa using a6 i j y hy
 |tlnk ty row' l' r c x=>
  simp only[Qa.sealC]at hc;rcases h with⟨h1,h2⟩|⟨p,h1,h2⟩
  ·exact .inl ⟨h1,h2⟩
  ·refine .inr ⟨p,h1,?_⟩;obtain⟨cs,a1,a2,a3,a4,a5,a6⟩:=h2.ex;refine⟨cs,a1,a2,a3,a4,fun i j z v hz hv=>?_,fun i j z hz=>?_⟩
   ·obtain⟨y,hy,rfl,hcy⟩:=Qki (f:=Xa k row l) (fun _=>rfl) hz;obtain⟨b1,b2,b3⟩:=a5 i j y v hy hv;refine⟨b1,b2,hf v y b3 ?_⟩;rcases hcy with rfl|⟨p,rfl⟩
    ·exact hc
    ·rfl
   ·obtain⟨y,hy,_⟩:=Qki (f:=Xa k row l) (fun _=>rfl) hz;exact a6 i j y hy
 |nest ty ity row' ll q=>
  rcases h with⟨h1,h2,h3⟩|⟨p,h1,h2⟩
  ·subst h3;exact .inl ⟨h1,h2,rfl⟩
  refine .inr ⟨p,h1,h2.goes hle rfl rfl rfl (fun _ _=>rfl) (by cases q<;>rfl) fun i x y v e1 e2 hr=>?_⟩;rw[e1]at e2;simp only[Option.map_some,Option.some.injEq,Prod.mk.injEq,true_and]at e2;subst e2;subst e1;exact hf v _ hr hc
 |map es c=>simp only[Qa.sealC]at hc;obtain⟨p,arr,h1,h2,h3,h4⟩:=h;refine⟨p,arr,h1,h2,by simpa using h3,fun i kk x b hi=>?_⟩;simp only[List.getElem?_map,Option.map_eq_some_iff]at hi;obtain⟨e,he,hq⟩:=hi;simp only[Prod.mk.injEq]at hq;obtain⟨rfl,rfl,rfl⟩:=hq;obtain⟨me,m1,m2,m3,m4⟩:=h4 i e.1 e.2.1 e.2.2 he;exact⟨me,m1,m2,m3,hf _ _ m4 (List.all_eq_true.1 hc e (List.mem_of_getElem? he))⟩
 |loop L=>simp only[Qa.sealC]at hc;obtain⟨p,fn,tmps,q,h1,h2,h3,h4⟩:=h;refine⟨p,fn,tmps,q,h1,h2,h3,fun t x hx=>?_⟩;rw[TT.get_map,Option.map_eq_some_iff]at hx;obtain⟨y,hy,rfl⟩:=hx;exact hf _ _ (h4 t y hy) (TT.Qmy hc hy)
 |dead=>exact h.mono hle ρ.le_refl rfl fun _ _ _ _=>rfl
 |vec _ _ _=>exact h.mono hle ρ.le_refl rfl fun _ _ _ _=>rfl
 |tvec _ _ _=>exact h.mono hle ρ.le_refl rfl fun _ _ _ _=>rfl
 |tmap _ _ _=>exact h.mono hle ρ.le_refl rfl fun _ _ _ _=>rfl
 |iter _ _=>exact h.mono hle ρ.le_refl rfl fun _ _ _ _=>rfl
 |over _ _=>exact h.mono hle ρ.le_refl rfl fun _ _ _ _=>rfl
 |mit _ _ _=>exact h.mono hle ρ.le_refl rfl fun _ _ _ _=>rfl
 |dfr _=>exact h.mono hle ρ.le_refl rfl fun _ _ _ _=>rfl
theorem Qg0(k:Nat)(row:List Ty)(l:List (Qh row))(o:Qa):(o.W3 k row l).live=o.live:=by cases o<;>rfl
def Zr0(k ty:Nat)(row:List Ty)(H:List Qa):Option (Bool×List (Qh row)):=(Ql.vec k ty row).get .nil H H.length
def Qiy(k ty:Nat)(row:List Ty)(s:St):Option (Bool×St):=match Zr0 k ty row s.H with
 |none=>none
 | some a=>some (a.1 && (s.T.all (sealC k row a.2) && s.H.all (Qa.sealC k row a.2)),
   {T:=s.T.map (Xa k row a.2),H:=(s.H.map (Qa.W3 k row a.2)).set k .dead,n0:=s.n0,tch:=Yr s.n0 [k] s.tch,fg:=s.fg,marks:=s.marks,er:=s.er})
theorem Zel{M:Qc}{ρ:Env}{H:List Qa}{w:World}:M.sealing ρ H H.length w=M:=by
 funext b;unfold Qc.sealing;cases M b with
 |some o=>rfl
 |none=>
  simp only;rw[if_neg]
  rintro ⟨s,o,p,h1,h2,_⟩
  have:=(List.getElem?_eq_some_iff.1 h2).1;omega
theorem Qzs{M:Qc}{ρ:Env}{H:List Qa}{w:World}(hm:Mem M ρ H w):ρ.cut H.length=ρ:=by
 funext s;unfold Env.cut;split
 ·rfl
 ·rename_i h;exact(hm.fresh s (by omega)).symm
theorem Zoz{R:Option Nat}{P:Program}{nt:Nat}{c:Code}{Q:Exit→St→Prop}{s s':St}{k ty:Nat}{row:List Ty}{cc:Bool}(hs:Qiy k ty row s=some (cc,s'))(hc:cc=true)
  (h:Q9 R P nt c Q s'):Q9 R P nt c Q s:=by
 unfold Qiy at hs;split at hs
 ·cases hs
 ·rename_i a ha;cases hs;obtain⟨c1,l⟩:=a;simp only[Bool.and_eq_true]at hc;obtain⟨hc1,hc2,hc3⟩:=hc;intro B M ρ act w hg;have hm:=hg.mem;have ha:(Ql.vec k ty row).get .nil s.H s.H.length=some (c1,l):=ha;obtain⟨o,ho,hl,hlen⟩:=Ql.Qsm (H1:=[]) ha hc1 rfl;have hks:k<s.H.length:=(List.getElem?_eq_some_iff.1 ho).1;have hown:=Ql.Zc1 (H1:=[]) hm ha hc1 rfl hks (fun q hq=>by cases hq);rw[Zel,Qzs hm]at hown;have hown:Qt M ρ w k (.tvec ty row l):=hown;have hm1:=Mem.oneLive hm ho hl hown;have hle:=Qc.X5 M ρ (Sx.oneLive s.H k (.tvec ty row l)) 0 w;have hget:(Sx.oneLive s.H k (.tvec ty row l))[k]? =some (.tvec ty row l):=by simp[Sx.oneLive,hks]
  have hnew:∀b ob,M b=none→M.sealing ρ (Sx.oneLive s.H k (.tvec ty row l)) 0 w b=some ob→(∃p,ρ k=some p∧p.block=b)∧w.heap[b]? =some ob:=fun b ob h0 h1=>by
   obtain⟨⟨s2,o2,p2,q1,q2,q3,q4,q5⟩,q6⟩:=Qc.Wf h0 h1;rcases Qcj q2 with⟨rfl,rfl⟩|⟨_,rfl⟩
   ·exact⟨⟨p2,q4,q5⟩,q6⟩
   ·cases q3
  have hslice:∀v,Qd M ρ v (.sl k row.length 0 l.length)→Zc (M.sealing ρ (Sx.oneLive s.H k (.tvec ty row l)) 0 w) v (.tsl row l):=fun v hr=>by
   refine Qgl hm1 (Nat.zero_le _) hget rfl rfl (by simp[Qa.len]) rfl (fun i y hy=>?_) hr;have:(Qa.tvec ty row l).row (0+i)=(Q5 row y).map .pv:=by simp only[Qa.row,List.getD,Nat.zero_add,hy,Option.getD_some]
   rw[this];exact .self hle y
  have hf:∀v x,Qd M ρ v x→Sx.sealC k row l x=true→Qd (M.sealing ρ (Sx.oneLive s.H k (.tvec ty row l)) 0 w) ρ v (Xa k row l x):=fun v x h hc=>Zi6 hle hslice h hc;generalize hM2:M.sealing ρ (Sx.oneLive s.H k (.tvec ty row l)) 0 w=M2 at hle hnew hslice hf;have hobj:∀t x,((s.H.map (Qa.W3 k row l)).set k .dead)[t]? =some x→(t=k∧x=.dead)∨(t≠k∧∃y,s.H[t]? =some y∧x=y.W3 k row l):=fun t x hx=>by
   rw[List.getElem?_set]at hx;split at hx
   ·rename_i e;subst e;split at hx
    ·cases hx;exact .inl ⟨rfl,rfl⟩
    ·cases hx
   ·rename_i e;simp only[List.getElem?_map,Option.map_eq_some_iff]at hx;obtain⟨y,hy,rfl⟩:=hx;exact .inr ⟨fun h=>e h.symm,y,hy,rfl⟩
  have hmem2:Mem M2 ρ ((s.H.map (Qa.W3 k row l)).set k .dead) w:=by
   refine⟨fun b ob hb=>?_,fun t x hx=>?_,fun t x p b hx hlx hp hb=>?_,fun t t' x x' p p' b hx hx' hlx hlx' hp hp' hbk hbk'=>?_,fun t ht=>hm.fresh t (by simpa using ht),fun t x p b hx hlx hp hb=>?_⟩
   ·cases e:M b with
    |some o'=>rw[hle b o' e]at hb;cases hb;exact hm.imm b _ e
    |none=>exact(hnew b ob e hb).2
   ·rcases hobj t x hx with⟨rfl,rfl⟩|⟨_,y,hy,rfl⟩
    ·trivial
    ·exact(hm.own t y hy).W3 hle hf (List.all_eq_true.1 hc3 y (List.mem_of_getElem? hy))
   ·rcases hobj t x hx with⟨rfl,rfl⟩|⟨hne,y,hy,rfl⟩
    ·cases hlx
    ·rw[Qg0]at hlx;have h0:=hm.seps t y p b hy hlx hp hb;cases e:M2 b with
     |none=>rfl
     |some ob=>obtain⟨⟨p2,q1,q2⟩,_⟩:=hnew _ _ h0 e;exact absurd (hm.diss t k y o p p2 b hy ho hlx hl hp q1 hb (.inl q2)) hne
   ·rcases hobj t x hx with⟨rfl,rfl⟩|⟨_,y,hy,rfl⟩
    ·cases hlx
    ·rcases hobj t' x' hx' with⟨rfl,rfl⟩|⟨_,y',hy',rfl⟩
     ·cases hlx'
     ·rw[Qg0]at hlx hlx';exact hm.diss t t' y y' p p' b hy hy' hlx hlx' hp hp' hbk hbk'
   ·rcases hobj t x hx with⟨rfl,rfl⟩|⟨hne,y,hy,rfl⟩
    ·cases hlx
    ·rw[Qg0]at hlx;exact hm.lts t y p b hy hlx hp hb
  have hgood:Good B nt M2 ρ {T:=s.T.map (Xa k row l),H:=(s.H.map (Qa.W3 k row l)).set k .dead,n0:=s.n0,tch:=Yr s.n0 [k] s.tch,fg:=s.fg,marks:=s.marks,er:=s.er} act w:=by refine⟨fun t x hx=>?_,hg.sz,hmem2,hg.df,hg.mks,by simpa using hg.nle,hg.fix⟩;rw[TT.get_map,Option.map_eq_some_iff]at hx;obtain⟨y,hy,rfl⟩:=hx;exact hf _ _ (hg.tm t y hy) (TT.Qmy hc2 hy)
  have hgoes:Z7 M ρ s w M2 ρ {T:=s.T.map (Xa k row l),H:=(s.H.map (Qa.W3 k row l)).set k .dead,n0:=s.n0,tch:=Yr s.n0 [k] s.tch,fg:=s.fg,marks:=s.marks,er:=s.er} w:=by
   refine⟨⟨hle,fun b ob h0 h1=>?_,fun b hb=>?_,fun _ _ _=>rfl,Nat.le_refl _,fun t x ht hx hx2 hlx=>?_,fun _ _ _=>rfl,rfl,rfl⟩,rfl,fun x hx=>(show x∈Yr s.n0 [k] s.tch from Qbz hx),fun _ h=>h⟩
   ·obtain⟨⟨p,q1,q2⟩,_⟩:=hnew b ob h0 h1;exact .inr ⟨k,o,p,ho,hl,q1,.inl q2⟩
   ·obtain⟨t,x,p,h1,h2,h3,h4⟩:=hb;rcases hobj t x h1 with⟨rfl,rfl⟩|⟨_,y,hy,rfl⟩
    ·cases h2
    ·rw[Qg0]at h2;exact .inr ⟨t,y,p,hy,h2,h3,h4⟩
   ·have hne:t≠k:=fun e=>by subst e;exact hx (Qa6 ht List.mem_cons_self)
    refine⟨⟨x.W3 k row l,?_,by rw[Qg0];exact hlx⟩,fun p hp=>⟨hp,fun _ _=>rfl⟩⟩;show((s.H.map (Qa.W3 k row l)).set k .dead)[t]? =_;rw[List.getElem?_set,if_neg (fun h=>hne h.symm),List.getElem?_map,hx2];rfl
  exact wpIn_mono (h B M2 ρ act w hgood) fun e a' w' ⟨M',ρ',s'',q,g,kk⟩=>⟨M',ρ',s'',q,g,hgoes.trans kk⟩
def Qku(s:St)(ob col ty:Nat)(row:List Ty):Option St:=match s.H[ob]? with
 |none=>none
 |some o=>match Kc o with
  |none=>none
  |some q=>match Nat.beq q.2.2.length q.2.1 with
   |false=>none
   |true=>match q.2.2[col]? with
    |some (.pv (.lit v))=>match Value.isNil v with
     |true=>some {T:=s.T,H:=(s.H.set ob (.mix q.1 q.2.1 [q.2.2.set col (.sl s.H.length row.length 0 0)]))++[.tvec ty row []],n0:=s.n0,tch:=s.tch,fg:=s.fg,marks:=s.marks,er:=s.er}
     |false=>none
    |_=>none
theorem Zls{R:Option Nat}{P:Program}{nt:Nat}{c:Code}{Q:Exit→St→Prop}{s s':St}{ob col ty:Nat}{row:List Ty}(hs:Qku s ob col ty row=some s')
  (h:Q9 R P nt c Q s'):Q9 R P nt c Q s:=by
 unfold Qku at hs;split at hs
 ·cases hs
 ·rename_i o ho;split at hs
  ·cases hs
  ·rename_i q hq;split at hs
   ·cases hs
   ·rename_i hl;have hl:=Nat.eq_of_beq_eq_true hl;split at hs
    ·rename_i v hv;split at hs
     ·rename_i hn;cases hs;obtain⟨oty,sz,r⟩:=q;have hlt:ob<s.H.length:=(List.getElem?_eq_some_iff.1 ho).1;refine Q9.Qes (fun B M ρ a w hg=>⟨ρ,?_,?_⟩) h
      all_goals
       obtain⟨g1,g2,g3,g4⟩:=Qgg (M:=M) (ρ:=ρ) (w:=w) (s:=ob) hq;obtain⟨m1,m2⟩:=hg.mem.virt (ty:=ty) (sz:=row.length);have n1:=m1.described (s:=s.H.length) (o:=.vec ty row.length []) (o':=.tvec ty row []) (by simp) rfl (fun h=>h);have n2:=m2.described (s:=s.H.length) (o:=.vec ty row.length []) (o':=.tvec ty row []) (by simp) rfl;have e1:(s.H++[Qa.vec ty row.length []]).set s.H.length (.tvec ty row [])=s.H++[.tvec ty row []]:=by simp
       rw[e1]at n1 n2;have hob:(s.H++[Qa.tvec ty row []])[ob]? =some o:=by rw[List.getElem?_append_left hlt];exact ho
       have hown:Qt M ρ w ob o→Qt M ρ w ob (.mix oty sz [r.set col (.sl s.H.length row.length 0 0)]):=fun h0=>by
        refine Qt.Zcj rfl (by simpa using hl) (fun j y hy=>?_) (g4 h0);rw[List.getElem?_set]at hy;split at hy
        ·rename_i e;subst e;split at hy
         ·cases hy;refine .inr ⟨_,hv,fun u hu=>?_⟩;have:=hu.Q7;subst this;unfold Value.isNil at hn;split at hn
          ·simp only[Bool.and_eq_true]at hn;rw[Nat.eq_of_beq_eq_true hn.1,Nat.eq_of_beq_eq_true hn.2];exact .slz _ _ _ _
          ·cases hn
         ·cases hy
        ·exact .inr ⟨y,hy,fun u hu=>hu⟩
       have e2:(s.H++[Qa.tvec ty row []]).set ob (.mix oty sz [r.set col (.sl s.H.length row.length 0 0)])=(s.H.set ob (.mix oty sz [r.set col (.sl s.H.length row.length 0 0)]))++[.tvec ty row []]:=by rw[List.set_append_left _ _ hlt]
      ·have n3:=n1.described hob (o':=.mix oty sz [r.set col (.sl s.H.length row.length 0 0)]) g1.symm hown;rw[e2]at n3;refine⟨hg.tm,hg.sz,n3,hg.df,hg.mks,?_,hg.fix⟩;show s.n0≤((s.H.set ob (.mix oty sz [r.set col (.sl s.H.length row.length 0 0)]))++[Qa.tvec ty row []]).length;have:=hg.nle;simp;omega
      ·have n3:=n2.described hob (o':=.mix oty sz [r.set col (.sl s.H.length row.length 0 0)]) g1.symm;rw[e2]at n3;exact⟨n3.weaken (n':=s.n0) (t':=s.tch) (f':=s.fg) hg.nle (fun x _ h=>by cases h) (fun x _ h=>by cases h),rfl,fun _ h=>h,fun _ h=>h⟩
     ·cases hs
    ·cases hs
def Qk0(s:St)(t:Nat):Option St:=match s.T.get t with
 |some (.sl d _ _ n)=>match s.H[d]? with
  |some (.tvec ty row l)=>some {T:=s.T,H:=s.H.set d (.tvec ty row (l.take n)),n0:=s.n0,tch:=s.tch,fg:=s.fg,marks:=s.marks,er:=s.er}
  |_=>none
 |_=>none
theorem Znt{M:Qc}{ρ:Env}{w:World}{d ty:Nat}{row:List Ty}{l:List (Qh row)}(n:Nat)(h:Qt M ρ w d (.tvec ty row l)):Qt M ρ w d (.tvec ty row (l.take n)):=by
 rcases h with⟨h1,h2⟩|⟨p,h1,cs,a1,a2,a3,a4,a5,a6⟩
 ·left;refine⟨h1,?_⟩;have:l=[]:=by simpa[Qo]using h2
  subst this;simp
 ·right;have hle:(Qo row (l.take n)).length≤(Qo row l).length:=by simp;omega
  have sub:∀i j x,Z1 (Qo row (l.take n)) i j=some x→i<(Qo row (l.take n)).length∧Z1 (Qo row l) i j=some x:=fun i j x hx=>by
   unfold Z1 at hx⊢;simp only[List.getElem?_map,List.getElem?_take]at hx⊢;split at hx
   ·rename_i hi;refine⟨?_,hx⟩;cases hl:l[i]? with
    |none=>rw[hl]at hx;simp at hx
    |some y=>have:=(List.getElem?_eq_some_iff.1 hl).1;simp;omega
   ·simp at hx
  refine⟨p,h1,cs,a1,a2,Nat.le_trans (Nat.mul_le_mul_right _ hle) a3,fun i j hi hj=>a4 i j (Nat.lt_of_lt_of_le hi hle) hj,fun i j x v hx hv=>?_,fun i j x hx=>?_⟩
  ·obtain⟨s1,s2⟩:=sub i j x hx;obtain⟨b1,b2,b3⟩:=a5 i j x v s2 hv;exact⟨s1,b2,b3⟩
  ·obtain⟨s1,s2⟩:=sub i j x hx;exact⟨s1,(a6 i j x s2).2⟩
theorem Zvj{R:Option Nat}{P:Program}{nt:Nat}{c:Code}{Q:Exit→St→Prop}{s s':St}{t:Nat}(hs:Qk0 s t=some s')(h:Q9 R P nt c Q s'):Q9 R P nt c Q s:=by
 unfold Qk0 at hs;split at hs
 ·split at hs
  ·rename_i ty row l hd;cases hs;refine Q9.Qes (fun B M ρ a w hg=>⟨ρ,?_,?_⟩) h
   ·exact⟨hg.tm,hg.sz,hg.mem.described hd rfl (fun h=>Znt _ h),hg.df,hg.mks,by simpa using hg.nle,hg.fix⟩
   ·exact⟨(Fr.refl M ρ s.H w s.n0 s.tch s.fg).described hd rfl,rfl,fun _ h=>h,fun _ h=>h⟩
  ·cases hs
 ·cases hs
def Qib(T:TT):List Nat→TT→TT
 |[],T'=>T'
 |t::l,T'=>Qib T l (match T.get t with
  |some x=>T'.set t x
  |none=>T')
def Qj8(k:Nat)(keep:List Nat)(s:St):St:={s with T:=Qib s.T keep (Vm [k] s.T),H:=s.H.map (Qa.forget [k])}
theorem Qn2{T:TT}{P:Nat→SV→Prop}(h0:∀t x,T.get t=some x→P t x):∀(l:List Nat) (T':TT),(∀t x,T'.get t=some x→P t x)→∀t x,(Qib T l T').get t=some x→P t x
 |[],T',h,t,x,hx=>h t x hx
 |a::l,T',h,t,x,hx=>by
  simp only[Qib]at hx;split at hx
  ·rename_i y hy;refine Qn2 h0 l _ (fun t x hx=>?_) t x hx;rcases TT.Wg _ _ _ _ _ hx with⟨rfl,rfl⟩|⟨_,hx⟩
   ·exact h0 _ _ hy
   ·exact h t x hx
  ·exact Qn2 h0 l _ h t x hx
theorem Zfz{R:Option Nat}{P:Program}{nt:Nat}{c:Code}{Q:Exit→St→Prop}{s:St}{k:Nat}{keep:List Nat}(h:Q9 R P nt c Q (Qj8 k keep s)):Q9 R P nt c Q s:=by
 refine Q9.Qes (fun B M ρ a w hg=>⟨ρ,?_,?_⟩) h
 ·refine⟨fun t x hx=>?_,hg.sz,?_,hg.df,hg.mks,by show s.n0≤(s.H.map (Qa.forget [k])).length;rw[List.length_map];exact hg.nle,hg.fix⟩
  ·refine Qn2 (T:=s.T) (P:=fun t x=>Qd M ρ (a.tmps.getD t undef) x) hg.tm keep _ (fun t x hx=>?_) t x hx;obtain⟨y,hy,hyx⟩:=Qju hx;have:=(hg.tm t y hy).forget (d:=[k]) M.le_refl (ρ':=ρ) (fun _ _ _ h=>h);rcases hyx with rfl|⟨e,rfl⟩
   ·exact this
   ·cases e
  ·have sub:∀(t:Nat) (x:Qa),(s.H.map (Qa.forget [k]))[t]? =some x→∃y,s.H[t]? =some y∧x=y.forget [k]:=fun t x hx=>by simp only[List.getElem?_map,Option.map_eq_some_iff]at hx;obtain⟨y,hy,rfl⟩:=hx;exact⟨y,hy,rfl⟩
   have hm:=hg.mem;refine⟨hm.imm,fun t x hx=>?_,fun t x p b hx hl hp hb=>?_,fun t t' x x' p p' b hx hx' hl hl' hp hp' hb hb'=>?_,fun t ht=>hm.fresh t (by simpa[Qj8]using ht),fun t x p b hx hl hp hb=>?_⟩
   ·obtain⟨y,hy,rfl⟩:=sub t x hx;exact(hm.own t y hy).forget M.le_refl (fun _ _ _ h=>h) rfl (fun _ _ _ _=>rfl)
   ·obtain⟨y,hy,rfl⟩:=sub t x hx;rw[Jp]at hl;exact hm.seps t y p b hy hl hp hb
   ·obtain⟨y,hy,rfl⟩:=sub t x hx;obtain⟨y',hy',rfl⟩:=sub t' x' hx';rw[Jp]at hl hl';exact hm.diss t t' y y' p p' b hy hy' hl hl' hp hp' hb hb'
   ·obtain⟨y,hy,rfl⟩:=sub t x hx;rw[Jp]at hl;exact hm.lts t y p b hy hl hp hb
 ·refine⟨⟨M.le_refl,fun b o h h'=>(by rw[h]at h';cases h'),fun b hb=>.inr ?_,fun _ _ _=>rfl,Nat.le_refl _,fun t o _ _ ho hl=>⟨⟨o.forget [k],?_,?_⟩,fun p hp=>⟨hp,fun _ _=>rfl⟩⟩,fun _ _ _=>rfl,rfl,rfl⟩,rfl,fun _ h=>h,fun _ h=>h⟩
  ·obtain⟨t,o,p,h1,h2,h3,h4⟩:=hb;have h1:(s.H.map (Qa.forget [k]))[t]? =some o:=h1;simp only[List.getElem?_map,Option.map_eq_some_iff]at h1;obtain⟨y,hy,rfl⟩:=h1;exact⟨t,y,p,hy,by rwa[Jp]at h2,h3,h4⟩
  ·simp[Qj8,ho]
  ·rw[Jp];exact hl
def Qms(k ty:Nat)(row:List Ty)(s:St):Option St:=match s.H[k]? with
 |some (.vec ty' sz rows)=>match Nat.beq ty' ty&&Nat.beq sz row.length with
  |true=>match X3 (ofRow row) rows with
   |some l=>some {s with H:=s.H.set k (.tvec ty row l)}
   |none=>none
  |false=>none
 |_=>none
theorem Zec{R:Option Nat}{P:Program}{nt:Nat}{c:Code}{Q:Exit→St→Prop}{s s':St}{k ty:Nat}{row:List Ty}(hs:Qms k ty row s=some s')(h:Q9 R P nt c Q s'):Q9 R P nt c Q s:=by
 unfold Qms at hs;split at hs
 ·rename_i ty' sz rows ho;split at hs
  ·rename_i e;rw[Bool.and_eq_true]at e;have e1:=Nat.eq_of_beq_eq_true e.1;have e2:=Nat.eq_of_beq_eq_true e.2;subst e1;subst e2;split at hs
   ·rename_i l hl;cases hs;have hok:=Xj.of hl;refine Q9.Qes (fun B M ρ a w hg=>⟨ρ,?_,?_⟩) h
    ·refine⟨hg.tm,hg.sz,hg.mem.described ho rfl (fun hh=>hh.Qhx hok.1 hok.2),hg.df,hg.mks,by show s.n0≤(s.H.set k _).length;rw[List.length_set];exact hg.nle,hg.fix⟩
    ·exact⟨(Fr.refl M ρ s.H w s.n0 s.tch s.fg).described ho rfl,rfl,fun _ h=>h,fun _ h=>h⟩
   ·cases hs
  ·cases hs
 ·cases hs
theorem Qt.lnk{M:Qc}{ρ:Env}{w:World}{s ty:Nat}{row:List Ty}{l:List (Qh row)}{r c:Nat}(h:Qt M ρ w s (.tvec ty row l)):Qt M ρ w s (.tlnk ty row l r c .any):=by
 rcases h with h|⟨p,h1,h2⟩
 ·exact .inl h
 ·refine .inr ⟨p,h1,?_⟩;obtain⟨cs,a1,a2,a3,a4,a5,a6⟩:=h2.ex;have key:∀i j x,Xy row l r c .any i j=some x→∃y,Z1 (Qo row l) i j=some y∧(x=.any∨x=y):=fun i j x hx=>by
   unfold Xy at hx;simp only[Option.map_eq_some_iff]at hx;obtain⟨y,hy,rfl⟩:=hx;refine⟨y,hy,?_⟩;split
   ·exact .inl rfl
   ·exact .inr rfl
  refine⟨cs,a1,a2,a3,a4,fun i j x v hx hv=>?_,fun i j x hx=>?_⟩
  ·obtain⟨y,hy,e⟩:=key i j x hx;obtain⟨b1,b2,b3⟩:=a5 i j y v hy hv;refine⟨b1,b2,?_⟩;rcases e with rfl|rfl
   ·exact .any v
   ·exact b3
  ·obtain⟨y,hy,_⟩:=key i j x hx;exact a6 i j y hy
end Go.Sx
end
namespace Go.Sx
open Go
theorem Mem.Yaw{M:Qc}{ρ:Env}{H:List Qa}{w:World}{k ty:Nat}{row:List Ty}{l:List (Qh row)}(hm:Mem M ρ H w)(ho:H[k]? =some (.tvec ty row l)):
  ∃M2,M.le M2∧Mem M2 ρ (H.set k .dead) w∧(∀n,Fr M ρ H w M2 ρ (H.set k .dead) w n [k] [])∧∀v,Qd M ρ v (.sl k row.length 0 l.length)→Zc M2 v (.tsl row l):=by
 have hks:k<H.length:=(List.getElem?_eq_some_iff.1 ho).1;have hl:(Qa.tvec ty row l).live=true:=rfl;have hm1:=Mem.oneLive hm ho hl (hm.own k _ ho);have hle:=Qc.X5 M ρ (Sx.oneLive H k (.tvec ty row l)) 0 w;have hget:(Sx.oneLive H k (.tvec ty row l))[k]? =some (.tvec ty row l):=by simp[Sx.oneLive,hks]
 have hnew:∀b ob,M b=none→M.sealing ρ (Sx.oneLive H k (.tvec ty row l)) 0 w b=some ob→(∃p,ρ k=some p∧p.block=b)∧w.heap[b]? =some ob:=fun b ob h0 h1=>by
  obtain⟨⟨s2,o2,p2,q1,q2,q3,q4,q5⟩,q6⟩:=Qc.Wf h0 h1;rcases Qcj q2 with⟨rfl,rfl⟩|⟨_,rfl⟩
  ·exact⟨⟨p2,q4,q5⟩,q6⟩
  ·cases q3
 have hslice:∀v,Qd M ρ v (.sl k row.length 0 l.length)→Zc (M.sealing ρ (Sx.oneLive H k (.tvec ty row l)) 0 w) v (.tsl row l):=fun v hr=>by
  refine Qgl hm1 (Nat.zero_le _) hget rfl rfl (by simp[Qa.len]) rfl (fun i y hy=>?_) hr;have:(Qa.tvec ty row l).row (0+i)=(Q5 row y).map .pv:=by simp only[Qa.row,List.getD,Nat.zero_add,hy,Option.getD_some]
  rw[this];exact .self hle y
 generalize hM2:M.sealing ρ (Sx.oneLive H k (.tvec ty row l)) 0 w=M2 at hle hnew hslice;have hobj:∀t x,(H.set k .dead)[t]? =some x→(t=k∧x=.dead)∨(t≠k∧H[t]? =some x):=fun t x hx=>by
  by_cases e:t=k
  ·subst e;rw[List.getElem?_set_self hks]at hx;cases hx;exact .inl ⟨rfl,rfl⟩
  ·rw[List.getElem?_set_ne (fun h=>e h.symm)]at hx;exact .inr ⟨e,hx⟩
 refine⟨M2,hle,⟨fun b ob hb=>?_,fun t x hx=>?_,fun t x p b hx hlx hp hb=>?_,fun t t' x x' p p' b hx hx' hlx hlx' hp hp' hbk hbk'=>?_,fun t ht=>hm.fresh t (by simpa using ht),fun t x p b hx hlx hp hb=>?_⟩,fun n=>⟨hle,fun b ob h0 h1=>?_,fun b hb=>?_,fun _ _ _=>rfl,Nat.le_refl _,fun t x ht hx hx2 hlx=>?_,fun _ _ _=>rfl,rfl,rfl⟩,hslice⟩
 ·cases e:M b with
  |some o'=>rw[hle b o' e]at hb;cases hb;exact hm.imm b _ e
  |none=>exact(hnew b ob e hb).2
 ·rcases hobj t x hx with⟨rfl,rfl⟩|⟨_,hy⟩
  ·trivial
  ·exact(hm.own t x hy).mono hle ρ.le_refl rfl fun _ _ _ _=>rfl
 ·rcases hobj t x hx with⟨rfl,rfl⟩|⟨hne,hy⟩
  ·cases hlx
  ·have h0:=hm.seps t x p b hy hlx hp hb;cases e:M2 b with
   |none=>rfl
   |some ob=>obtain⟨⟨p2,q1,q2⟩,_⟩:=hnew _ _ h0 e;exact absurd (hm.diss t k x _ p p2 b hy ho hlx hl hp q1 hb (.inl q2)) hne
 ·rcases hobj t x hx with⟨rfl,rfl⟩|⟨_,hy⟩
  ·cases hlx
  ·rcases hobj t' x' hx' with⟨rfl,rfl⟩|⟨_,hy'⟩
   ·cases hlx'
   ·exact hm.diss t t' x x' p p' b hy hy' hlx hlx' hp hp' hbk hbk'
 ·rcases hobj t x hx with⟨rfl,rfl⟩|⟨hne,hy⟩
  ·cases hlx
  ·exact hm.lts t x p b hy hlx hp hb
 ·obtain⟨⟨p,q1,q2⟩,_⟩:=hnew b ob h0 h1;exact .inr ⟨k,_,p,ho,hl,q1,.inl q2⟩
 ·obtain⟨t,x,p,h1,h2,h3,h4⟩:=hb;rcases hobj t x h1 with⟨rfl,rfl⟩|⟨_,hy⟩
  ·cases h2
  ·exact .inr ⟨t,x,p,hy,h2,h3,h4⟩
 ·have hne:t≠k:=fun e=>hx (by rw[e];exact List.mem_cons_self);exact⟨⟨x,by rw[List.getElem?_set_ne (fun h=>hne h.symm)];exact hx2,hlx⟩,fun p hp=>⟨hp,fun _ _=>rfl⟩⟩
def Qd3(H:List Qa):SV→Option (SV×Nat×List Qa)
 |.sl k sz 0 n=>match H[k]? with
  |some (.tvec ty row l)=>match Nat.beq sz row.length with
   |true=>some (.pv (.tsl row l),k,H.set k .dead)
   |false=>none
  |_=>none
 |_=>none
def Qmd(H:List Qa):SV→Bool
 |.sl k sz 0 n=>match H[k]? with
  |some (.tvec ty row l)=>decide (n=l.length)
  |_=>true
 |_=>true
theorem Qtb{M:Qc}{ρ:Env}{H H':List Qa}{w:World}{x y:SV}{k:Nat}(hm:Mem M ρ H w)(h:Qd3 H x=some (y,k,H'))(hc:Qmd H x=true):
  H'.length=H.length∧∃M2,M.le M2∧Mem M2 ρ H' w∧(∀n,Fr M ρ H w M2 ρ H' w n [k] [])∧∀v,Qd M ρ v x→Qd M2 ρ v y:=by
 unfold Qd3 at h;unfold Qmd at hc;split at h
 ·rename_i k0 sz n;split at h
  ·rename_i ty row l ho;split at h
   ·rename_i e;have e:=Nat.eq_of_beq_eq_true e;subst e;cases h;simp only[ho,decide_eq_true_eq]at hc;subst hc;obtain⟨M2,h1,h2,h3,h4⟩:=hm.Yaw ho;exact⟨by simp,M2,h1,h2,h3,fun v hv=>.pv (h4 v hv)⟩
   ·cases h
  ·cases h
 ·cases h
def Zg2:PV→Option Ty
 |.lit (.string _)=>some .str
 |.lit (.int k _)=>some (.int k)
 |.lit (.bool _)=>some .bool
 |.tsl row _=>some (.seq row)
 |_=>none
def Qtj(H:List Qa)(x:SV):List Ty:=match x with
 |.sl d _ _ _=>match H[d]? with
  |some (.vec _ _ (r::_))=>match X3 Zg2 r with
   |some row=>row
   |none=>[]
  |_=>[]
 |_=>[]
def Kt(H:List Qa)(x:SV):List Qa:=asData H (Qtj H x) x
theorem Qxf{M:Qc}{ρ:Env}{H:List Qa}{w:World}(hm:Mem M ρ H w)(x:SV):Mem M ρ (Kt H x) w∧(∀n,Fr M ρ H w M ρ (Kt H x) w n [] [])∧(Kt H x).length=H.length:=by obtain⟨m1,h,m3⟩:=Qpn hm (Qtj H x) x;exact⟨m1,fun n=>⟨h.imm,h.new,h.own,h.same,h.grow,fun s o _ ht ho hl=>h.keep s o (List.getElem?_eq_some_iff.1 ho).1 ht ho hl,fun _ _ _=>rfl,h.io⟩,m3⟩
def Wz:List SV→List Qa→Bool×List SV×List Nat×List Qa
 |[],H=>(true,[],[],H)
 |x::xs,H=>match Qd3 (Kt H x) x with
  |some q=>match Wz xs q.2.2 with
   |r=>(Qmd (Kt H x) x&&r.1,q.1::r.2.1,q.2.1::r.2.2.1,r.2.2.2)
  |none=>match Wz xs H with
   |r=>(r.1,x::r.2.1,r.2.2.1,r.2.2.2)
theorem Qom:∀{args:List SV} {M:Qc} {ρ:Env} {H:List Qa} {w:World},Mem M ρ H w→(Wz args H).1=true→
  (Wz args H).2.2.2.length = H.length ∧ (Wz args H).2.1.length = args.length ∧ ∃ M2,M.le M2 ∧ Mem M2 ρ (Wz args H).2.2.2 w ∧ (∀ n,Fr M ρ H w M2 ρ (Wz args H).2.2.2 w n (Wz args H).2.2.1 []) ∧
   ∀(i:Nat) (v:Value) (x y:SV),args[i]? =some x→(Wz args H).2.1[i]? =some y→Qd M ρ v x→Qd M2 ρ v y
 |[],M,ρ,H,w,hm,hc=>⟨rfl,rfl,M,M.le_refl,hm,fun n=>Fr.refl ..,fun i v x y hx=>by simp at hx⟩
 |x::xs,M,ρ,H,w,hm,hc=>by
  cases hs:Qd3 (Kt H x) x with
  |some q=>
   obtain⟨y,k,H1⟩:=q;simp only[Wz,hs,Bool.and_eq_true]at hc⊢;obtain⟨m1,m2,m3⟩:=Qxf hm x;obtain⟨e1,M1,a1,a2,a3',a4⟩:=Qtb m1 hs hc.1;have a3:∀n,Fr M ρ H w M1 ρ H1 w n [k] []:=fun n=>(m2 n).trans (a3' n) (fun z hz=>by cases hz) (fun z hz=>hz) (fun z hz=>by cases hz) (fun z hz=>by cases hz);obtain⟨e2,e3,M2,b1,b2,b3,b4⟩:=Qom a2 hc.2;refine⟨e2.trans (e1.trans m3),by simp[e3],M2,Qc.le_trans a1 b1,b2,fun n=>(a3 n).trans (b3 n) (fun z hz=>?_) (fun z hz=>List.mem_cons_of_mem _ hz) (fun z hz=>by cases hz) (fun z hz=>hz),fun i v x' y' hx hy hv=>?_⟩
   ·rw[List.mem_singleton.1 hz];exact List.mem_cons_self
   ·cases i with
    |zero=>simp at hx hy;subst hx;subst hy;exact(a4 v hv).mono b1 ρ.le_refl
    |succ i=>exact b4 i v x' y' (by simpa using hx) (by simpa using hy) (hv.mono a1 ρ.le_refl)
  |none=>
   simp only[Wz,hs]at hc⊢;obtain⟨e2,e3,M2,b1,b2,b3,b4⟩:=Qom (args:=xs) hm hc;refine⟨e2,by simp[e3],M2,b1,b2,b3,fun i v x' y' hx hy hv=>?_⟩;cases i with
   |zero=>simp at hx hy;subst hx;subst hy;exact hv.mono b1 ρ.le_refl
   |succ i=>exact b4 i v x' y' (by simpa using hx) (by simpa using hy) hv
def Qab(x:SV)(H:List Qa):Bool×SV×List Nat×List Qa:=match Qd3 (Kt H x) x with
 |some q=>(Qmd (Kt H x) x,q.1,[q.2.1],q.2.2)
 |none=>(true,x,[],H)
theorem Ztn{x:SV}{M:Qc}{ρ:Env}{H:List Qa}{w:World}(hm:Mem M ρ H w)(hc:(Qab x H).1=true):
  (Qab x H).2.2.2.length=H.length∧∃M2,M.le M2∧Mem M2 ρ (Qab x H).2.2.2 w∧(∀n,Fr M ρ H w M2 ρ (Qab x H).2.2.2 w n (Qab x H).2.2.1 [])∧∀v,Qd M ρ v x→Qd M2 ρ v (Qab x H).2.1:=by
 unfold Qab at hc⊢;cases hs:Qd3 (Kt H x) x with
 |some q=>obtain⟨y,k,H1⟩:=q;simp only[hs]at hc⊢;obtain⟨m1,m2,m3⟩:=Qxf hm x;obtain⟨e1,M1,a1,a2,a3,a4⟩:=Qtb m1 hs hc;exact⟨e1.trans m3,M1,a1,a2,fun n=>(m2 n).trans (a3 n) (fun z hz=>by cases hz) (fun z hz=>hz) (fun z hz=>by cases hz) (fun z hz=>by cases hz),a4⟩
 |none=>exact⟨rfl,M,M.le_refl,hm,fun n=>Fr.refl ..,fun v hv=>hv⟩
def Qal(x:SV)(H:List Qa):Bool×SV×List Nat×List Qa:=match x with
 |.agg l=>match Wz l H with
  |r=>(r.1,.agg r.2.1,r.2.2.1,r.2.2.2)
 |x=>Qab x H
theorem Zsg{x:SV}{M:Qc}{ρ:Env}{H:List Qa}{w:World}(hm:Mem M ρ H w)(hc:(Qal x H).1=true):
  (Qal x H).2.2.2.length=H.length∧∃M2,M.le M2∧Mem M2 ρ (Qal x H).2.2.2 w∧(∀n,Fr M ρ H w M2 ρ (Qal x H).2.2.2 w n (Qal x H).2.2.1 [])∧∀v,Qd M ρ v x→Qd M2 ρ v (Qal x H).2.1:=by
 unfold Qal at hc⊢;split at hc
 ·rename_i l;obtain⟨e1,e2,M2,b1,b2,b3,b4⟩:=Qom hm hc;refine⟨e1,M2,b1,b2,b3,fun v hv=>?_⟩;cases hv with
  |agg cs _ hl h=>
   refine .agg cs _ (by rw[hl,e2]) fun i v y hv hy=>?_;obtain⟨x,hx⟩:∃x,l[i]? =some x:=by
    have:i<l.length:=by rw[←e2];exact(List.getElem?_eq_some_iff.1 hy).1
    exact⟨_,List.getElem?_eq_getElem this⟩
   exact b4 i v x y hx hy (h i v x hv hx)
 ·exact Ztn hm hc
def Y5:List SV→List Qa→Bool×List SV×List Nat×List Qa
 |[],H=>(true,[],[],H)
 |x::xs,H=>match Qal x H with
  |q=>match Y5 xs q.2.2.2 with
   |r=>(q.1&&r.1,q.2.1::r.2.1,q.2.2.1++r.2.2.1,r.2.2.2)
theorem Zbx:∀{args:List SV} {M:Qc} {ρ:Env} {H:List Qa} {w:World},Mem M ρ H w→(Y5 args H).1=true→
  (Y5 args H).2.2.2.length = H.length ∧ (Y5 args H).2.1.length = args.length ∧ ∃ M2,M.le M2 ∧ Mem M2 ρ (Y5 args H).2.2.2 w ∧ (∀ n,Fr M ρ H w M2 ρ (Y5 args H).2.2.2 w n (Y5 args H).2.2.1 []) ∧
   ∀(i:Nat) (v:Value) (x y:SV),args[i]? =some x→(Y5 args H).2.1[i]? =some y→Qd M ρ v x→Qd M2 ρ v y
 |[],M,ρ,H,w,hm,hc=>⟨rfl,rfl,M,M.le_refl,hm,fun n=>Fr.refl ..,fun i v x y hx=>by simp at hx⟩
 |x::xs,M,ρ,H,w,hm,hc=>by
  simp only[Y5,Bool.and_eq_true]at hc⊢;obtain⟨e1,M1,a1,a2,a3,a4⟩:=Zsg hm hc.1;obtain⟨e2,e3,M2,b1,b2,b3,b4⟩:=Zbx a2 hc.2;refine⟨e2.trans e1,by simp[e3],M2,Qc.le_trans a1 b1,b2,fun n=>(a3 n).trans (b3 n) (fun z hz=>List.mem_append_left _ hz) (fun z hz=>List.mem_append_right _ hz) (fun z hz=>by cases hz) (fun z hz=>hz),fun i v x' y' hx hy hv=>?_⟩;cases i with
  |zero=>simp at hx hy;subst hx;subst hy;exact(a4 v hv).mono b1 ρ.le_refl
  |succ i=>exact b4 i v x' y' (by simpa using hx) (by simpa using hy) (hv.mono a1 ρ.le_refl)
theorem Yt.Yat{P:Program}{g:Nat}{args:List SV}{H:List Qa}{K:Qm}(hc:(Y5 args H).1=true)
  (h:Yt P g (Y5 args H).2.1 (Y5 args H).2.2.2 fun r H' t f=>K r H' ((Y5 args H).2.2.1++t) f):Yt P g args H K:=by
 intro M ρ w vs hm hr;obtain⟨e1,e2,M2,b1,b2,b3,b4⟩:=Zbx hm hc;refine(h M2 ρ w vs b2 ⟨by rw[hr.1,e2],fun i v y hv hy=>?_⟩).mono ?_
 ·obtain⟨x,hx⟩:∃x,args[i]? =some x:=by
   have:i<args.length:=by rw[←e2];exact(List.getElem?_eq_some_iff.1 hy).1
   exact⟨_,List.getElem?_eq_getElem this⟩
  exact b4 i v x y hx hy (hr.2 i v x hv hx)
 ·rintro e w' ⟨v,r,H',M',ρ',t,f,he,hk,hs,hm',hf⟩
  rw[e1]at hf;exact⟨v,r,H',M',ρ',_,f,he,hk,hs,hm',(b3 _).trans hf (fun z hz=>List.mem_append_left _ hz) (fun z hz=>List.mem_append_right _ hz) (fun z hz=>by cases hz) (fun z hz=>hz)⟩
end Go.Sx
section
namespace Go.Sx
open Go
mutual
def SV.Zy(f:Nat→Option Nat):SV→SV
 |.ptr s sz i j=>match f s with
  |some t=>.ptr t sz i j
  |none=>.any
 |.sl s sz st n=>match f s with
  |some t=>.sl t sz st n
  |none=>.any
 |.mp s=>match f s with
  |some t=>.mp t
  |none=>.any
 |.yld s=>match f s with
  |some t=>.yld t
  |none=>.any
 |.slb s sz st n m=>match f s with
  |some t=>.slb t sz st n m
  |none=>.any
 |.agg l=>.agg (Vc f l)
 |.tup l=>.tup (Vc f l)
 |.fn g a b=>.fn g (Vc f a) (Vc f b)
 |.any=>.any
 |.pv p=>.pv p
def Vc(f:Nat→Option Nat):List SV→List SV
 |[]=>[]
 |x::xs=>x.Zy f::Vc f xs
end
theorem Qmj(f:Nat→Option Nat)(l:List SV):Vc f l=l.map (SV.Zy f):=by
 induction l with
 |nil=>rfl
 |cons x xs ih=>simp only[Vc,List.map_cons,ih]
theorem Qd.Zy{M M':Qc}{ρ ρ':Env}{f:Nat→Option Nat}(hM:M.le M')(hf:∀s t p,f s=some t→ρ s=some p→ρ' t=some p){v:Value}{x:SV}(h:Qd M ρ v x):Qd M' ρ' v (x.Zy f):=by
 induction h with
 |any v=>exact .any v
 |pv h=>exact .pv (h.mono hM)
 |agg cs l hl _ ih=>simp only[SV.Zy,Qmj];refine .agg cs _ (by simpa using hl) fun i v x hv hx=>?_;simp only[List.getElem?_map,Option.map_eq_some_iff]at hx;obtain⟨y,hy,rfl⟩:=hx;exact ih i v y hv hy
 |tup cs l hl _ ih=>simp only[SV.Zy,Qmj];refine .tup cs _ (by simpa using hl) fun i v x hv hx=>?_;simp only[List.getElem?_map,Option.map_eq_some_iff]at hx;obtain⟨y,hy,rfl⟩:=hx;exact ih i v y hv hy
 |ptr s sz i j k p hp hk=>
  simp only[SV.Zy];split
  ·rename_i t ht;exact .ptr t sz i j k p (hf s t p ht hp) hk
  ·exact .any _
 |sl s sz st n c k p hp hk hc hn h6=>
  simp only[SV.Zy];split
  ·rename_i t ht;exact .sl t sz st n c k p (hf s t p ht hp) hk hc hn h6
  ·exact .any _
 |slz s sz st a=>
  simp only[SV.Zy];split
  ·exact .slz _ sz st a
  ·exact .any _
 |mp s p hp=>
  simp only[SV.Zy];split
  ·rename_i t ht;exact .mp t p (hf s t p ht hp)
  ·exact .any _
 |yld s p hp=>
  simp only[SV.Zy];split
  ·rename_i t ht;exact .yld t p (hf s t p ht hp)
  ·exact .any _
 |slb s sz st n m _ hm ih=>
  simp only[SV.Zy]at ih⊢;cases e:f s with
  |some t=>rw[e]at ih;exact .slb t sz st n m ih hm
  |none=>exact .any _
 |fn g a b x y ha hb _ _ ih jh=>
  simp only[SV.Zy,Qmj];refine .fn g a b _ _ (by simpa using ha) (by simpa using hb) (fun i v s hv hs=>?_) (fun i v s hv hs=>?_)
  ·simp only[List.getElem?_map,Option.map_eq_some_iff]at hs;obtain⟨y,hy,rfl⟩:=hs;exact ih i v y hv hy
  ·simp only[List.getElem?_map,Option.map_eq_some_iff]at hs;obtain⟨y,hy,rfl⟩:=hs;exact jh i v y hv hy
def Qa.Zy(f:Nat→Option Nat):Qa→Qa
 |.mix ty sz rows=>.mix ty sz (rows.map (·.map (SV.Zy f)))
 |.tlnk ty row l r c x=>.tlnk ty row l r c (x.Zy f)
 |.nest ty ity row ll q=>.nest ty ity row ll (q.map fun x=>(x.1,x.2.Zy f))
 |.map es c=>.map (es.map fun e=>(e.1,e.2.1.Zy f,e.2.2)) c
 |.loop l=>.loop {l with T:=l.T.map (SV.Zy f)}
 |.mit m c s=>.mit (m.bind f) c s
 |o=>o
theorem Qef(f:Nat→Option Nat)(o:Qa):(o.Zy f).live=o.live:=by cases o<;>rfl
theorem Qe.Yaq(f:Nat→Option Nat):∀(a:Qe) (x:a.El),(a.raw x).Zy f=a.raw x
 |.val t,x=>rfl
 |.agg row,x=>by
  have:∀l:List PV,Vc f (l.map .pv)=l.map .pv:=fun l=>by
   induction l with
   |nil=>rfl
   |cons x l ih=>simp only[List.map_cons,Vc,SV.Zy,ih]
  simp only[Qe.raw,SV.Zy,this]
theorem Qt.Zy{M M':Qc}{ρ ρ':Env}{w w':World}{s t:Nat}{f:Nat→Option Nat}{o:Qa}(hM:M.le M')(hf:∀s t p,f s=some t→ρ s=some p→ρ' t=some p)(hs:ρ' t=ρ s)
  (hw:∀p b,ρ s=some p→p.has b→w'.heap[b]? =w.heap[b]?) (h:Qt M ρ w s o):Qt M' ρ' w' t (o.Zy f):=by
 have hws:=hw;replace hw:∀p,ρ s=some p→w'.heap[p.block]? =w.heap[p.block]? :=fun p hp=>hws p _ hp p.self;cases o with
 |dead=>trivial
 |vec ty sz rows=>
  rcases h with⟨h1,h2⟩|⟨p,h1,h2⟩
  ·exact .inl ⟨hs.trans h1,h2⟩
  ·refine .inr ⟨p,hs.trans h1,?_⟩;obtain⟨cs,a1,a2,a3,a4,a5,a6⟩:=h2.ex;refine⟨cs,(hw p h1).trans a1,a2,a3,a4,fun i j x v hx hv=>?_,a6⟩;obtain⟨b1,b2,b3⟩:=a5 i j x v hx hv;refine⟨b1,b2,?_⟩;unfold Z1 at hx;simp only[Option.map_eq_some_iff]at hx;obtain⟨q,_,rfl⟩:=hx;cases b3 with
   |pv b3=>exact .pv (b3.mono hM)
 |tvec ty row l=>
  rcases h with⟨h1,h2⟩|⟨p,h1,h2⟩
  ·exact .inl ⟨hs.trans h1,h2⟩
  ·refine .inr ⟨p,hs.trans h1,?_⟩;obtain⟨cs,a1,a2,a3,a4,a5,a6⟩:=h2.ex;refine⟨cs,(hw p h1).trans a1,a2,a3,a4,fun i j x v hx hv=>?_,a6⟩;obtain⟨b1,b2,b3⟩:=a5 i j x v hx hv;refine⟨b1,b2,?_⟩;unfold Z1 at hx;simp only[Option.map_eq_some_iff]at hx;obtain⟨q,_,rfl⟩:=hx;cases b3 with
   |pv b3=>exact .pv (b3.mono hM)
 |mix ty sz rows=>
  rcases h with⟨h1,h2⟩|⟨p,h1,h2⟩
  ·exact .inl ⟨hs.trans h1,by simp[h2]⟩
  ·refine .inr ⟨p,hs.trans h1,?_⟩;obtain⟨cs,a1,a2,a3,a4,a5,a6⟩:=h2.ex;have key:∀i j x,Yq (rows.map (·.map (SV.Zy f))) i j=some x→∃y,Yq rows i j=some y∧x=y.Zy f:=fun i j x hx=>by unfold Yq at hx;simp only[List.getElem?_map,Option.bind_eq_some_iff,Option.map_eq_some_iff]at hx;obtain⟨r',⟨r,hr,rfl⟩,hx⟩:=hx;simp only[List.getElem?_map,Option.map_eq_some_iff]at hx;obtain⟨y,hy,rfl⟩:=hx;exact⟨y,by simp[Yq,hr,hy],rfl⟩
   refine⟨cs,(hw p h1).trans a1,a2,by simpa using a3,by simpa using a4,fun i j x v hx hv=>?_,fun i j x hx=>?_⟩
   ·obtain⟨y,hy,rfl⟩:=key i j x hx;obtain⟨b1,b2,b3⟩:=a5 i j y v hy hv;exact⟨by simpa using b1,b2,b3.Zy hM hf⟩
   ·obtain⟨y,hy,rfl⟩:=key i j x hx;simpa using a6 i j y hy
 |tlnk ty row l r c x=>
  rcases h with⟨h1,h2⟩|⟨p,h1,h2⟩
  ·exact .inl ⟨hs.trans h1,h2⟩
  ·refine .inr ⟨p,hs.trans h1,?_⟩;obtain⟨cs,a1,a2,a3,a4,a5,a6⟩:=h2.ex;refine⟨cs,(hw p h1).trans a1,a2,a3,a4,fun i j z v hz hv=>?_,fun i j z hz=>?_⟩
   ·obtain⟨y,hy,rfl,_⟩:=Qki (f:=SV.Zy f) (fun _=>rfl) hz;obtain⟨b1,b2,b3⟩:=a5 i j y v hy hv;exact⟨b1,b2,b3.Zy hM hf⟩
   ·obtain⟨y,hy,_⟩:=Qki (f:=SV.Zy f) (fun _=>rfl) hz;exact a6 i j y hy
 |nest ty ity row ll q=>
  rcases h with⟨h1,h2,h3⟩|⟨p,h1,h2⟩
  ·subst h3;exact .inl ⟨hs.trans h1,h2,rfl⟩
  refine .inr ⟨p,hs.trans h1,h2.goes hM rfl rfl rfl (fun b hb=>hws p b h1 hb) (by cases q<;>rfl) fun i x y v e1 e2 hr=>?_⟩;rw[e1]at e2;simp only[Option.map_some,Option.some.injEq,Prod.mk.injEq,true_and]at e2;subst e2;exact hr.Zy hM hf
 |map es clock=>obtain⟨p,arr,h1,h2,h3,h4⟩:=h;refine⟨p,arr,hs.trans h1,(hw p h1).trans h2,by simpa using h3,fun i k x b hi=>?_⟩;simp only[List.getElem?_map,Option.map_eq_some_iff]at hi;obtain⟨⟨k',x',b'⟩,he,hq⟩:=hi;simp only[Prod.mk.injEq]at hq;obtain⟨rfl,rfl,rfl⟩:=hq;obtain⟨e,c1,c2,c3,c4⟩:=h4 i k' x' b' he;exact⟨e,c1,c2,c3,c4.Zy hM hf⟩
 |tmap k v l=>obtain⟨p,arr,h1,h2,h3,h4⟩:=h;refine⟨p,arr,hs.trans h1,(hw p h1).trans h2,h3,fun i kk x b hi=>?_⟩;obtain⟨e,c1,c2,c3,c4⟩:=h4 i kk x b hi;refine⟨e,c1,c2,c3,?_⟩;have:=c4.Zy hM hf;rw[Vd]at hi;simp only[Option.map_eq_some_iff,Prod.mk.injEq]at hi;obtain⟨y,_,_,rfl,_⟩:=hi;rwa[Qe.Yaq]at this
 |iter str pos=>obtain⟨p,h1,h2⟩:=h;exact⟨p,hs.trans h1,(hw p h1).trans h2⟩
 |loop l=>obtain⟨p,fn,tmps,q,h1,h2,h3,h4⟩:=h;refine⟨p,fn,tmps,q,hs.trans h1,(hw p h1).trans h2,h3,fun t x hx=>?_⟩;rw[TT.get_map,Option.map_eq_some_iff]at hx;obtain⟨y,hy,rfl⟩:=hx;exact(h4 t y hy).Zy hM hf
 |mit m c sn=>
  obtain⟨p,q,sn,h1,h2,h3,h4⟩:=h;refine⟨p,q,sn,hs.trans h1,(hw p h1).trans h2,h3,fun mm e=>?_⟩;cases m with
  |none=>cases e
  |some x=>have e:f x=some mm:=e;obtain⟨pm,a,b⟩:=h4 x rfl;exact⟨pm,hf x mm pm e a,b⟩
 |over st pd=>obtain⟨p,r,h1,h2,h3⟩:=h;exact⟨p,r,hs.trans h1,(hw p h1).trans h2,h3⟩
 |dfr shut=>obtain⟨p,h1,h2⟩:=h;exact⟨p,hs.trans h1,(hw p h1).trans h2⟩
end Go.Sx
end
section
namespace Go.Sx
open Go
theorem Qd.sim{M M':Qc}{ρ ρ':Env}(hM:M.le M')(hρ:Env.Qer [] ρ ρ'){v:Value}{x:SV}(h:Qd M ρ v x):Qd M' ρ' v x:=by have:=h.Vw hM hρ;rwa[SV.W1]at this
theorem Qt.sim{M M':Qc}{ρ ρ':Env}{w:World}{s:Nat}{o:Qa}(hM:M.le M')(hρ:Env.Qer [] ρ ρ')(hs:ρ' s=ρ s)(h:Qt M ρ w s o):Qt M' ρ' w s o:=by have:=h.Vw hM hρ hs (fun _ _ _ _=>rfl);rwa[Qa.W1]at this
theorem Wd.pure{M M':Qc}{ρ ρ':Env}{w:World}{p:Place}{ty sz n:Nat}{rows:List (List PV)}{subs:List Nat}(hM:M.le M')(h:Wd M ρ w p ty sz n (Z1 rows)):Wd M' ρ' w ⟨p.block,p.cap,subs⟩ ty sz n (Z1 rows):=by
 obtain⟨cs,a1,a2,a3,a4,a5,a6⟩:=h.ex;refine⟨cs,a1,a2,a3,a4,fun i j x v hx hv=>?_,a6⟩;obtain⟨b1,b2,b3⟩:=a5 i j x v hx hv;refine⟨b1,b2,?_⟩;unfold Z1 at hx;simp only[Option.map_eq_some_iff]at hx;obtain⟨q,_,rfl⟩:=hx;cases b3 with
 |pv b3=>exact .pv (b3.mono hM)
theorem Mem.re{M:Qc}{ρ ρ':Env}{H H':List Qa}{w:World}(hm:Mem M ρ H w)(hown:∀s o,H'[s]? =some o→Qt M ρ' w s o)
  (hsrc:∀s o p b,H'[s]? =some o→o.live=true→ρ' s=some p→p.has b→∃s0 o0 p0,H[s0]? =some o0∧o0.live=true∧ρ s0=some p0∧p0.has b)
  (hdis:∀s s' o o' p p' b,H'[s]? =some o→H'[s']? =some o'→o.live=true→o'.live=true→ρ' s=some p→ρ' s'=some p'→p.has b→p'.has b→s=s')
  (hfresh:∀s,H'.length≤s→ρ' s=none):Mem M ρ' H' w:=
 ⟨hm.imm,hown,fun s o p b h1 h2 h3 h4=>let⟨s0,o0,p0,a,b',c,d⟩:=hsrc s o p b h1 h2 h3 h4;hm.seps s0 o0 p0 b a b' c d,hdis,hfresh,
  fun s o p b h1 h2 h3 h4=>let⟨s0,o0,p0,a,b',c,d⟩:=hsrc s o p b h1 h2 h3 (.inr h4);hm.Xr a b' c d⟩
theorem Fr.re{M:Qc}{ρ ρ':Env}{H H':List Qa}{w:World}{n:Nat}{t f:List Nat}
  (hsrc:∀s o p b,H'[s]? =some o→o.live=true→ρ' s=some p→p.has b→∃s0 o0 p0,H[s0]? =some o0∧o0.live=true∧ρ s0=some p0∧p0.has b)
  (hk:∀s o,s<n→s∉t→H[s]? =some o→o.live=true→(∃o',H'[s]? =some o'∧o'.live=true)∧ρ' s=ρ s) (hs:∀s,s<n→s∉f→ρ' s=ρ s):Fr M ρ H w M ρ' H' w n t f:=
 ⟨M.le_refl,fun b o h h'=>by(rw[h]at h';cases h'),fun b ⟨s,o,p,h1,h2,h3,h4⟩=>.inr (hsrc s o p b h1 h2 h3 h4),fun _ _ _=>rfl,Nat.le_refl _,
  fun s o h1 h2 h3 h4=>⟨(hk s o h1 h2 h3 h4).1,fun p hp=>⟨by rw[(hk s o h1 h2 h3 h4).2];exact hp,fun _ _=>rfl⟩⟩,hs,rfl,rfl⟩
theorem Qgp.sim{ρ ρ':Env}{marks:List Nat}{ds:List Deferred}(hρ:Env.Qer [] ρ ρ')(h:Qgp ρ marks ds):Qgp ρ' marks ds:=
 ⟨h.1,fun i d s hd hs=>let⟨p,h1,h2⟩:=h.2 i d s hd hs;let⟨p',g1,g2,_⟩:=hρ s p rfl h1;⟨p',g1,by rw[g2];exact h2⟩⟩
open Classical in
def TI.Yay(b:Bool)(i:TI):TI:={i with row:=match b with
 |true=>none
 |false=>i.row}
def Cx.raw(e:Nat)(cx:Cx):Cx:={P:=cx.P,tab:=cx.tab.map fun x=>(x.1,x.2.Yay (Nat.beq x.1 e)),fns:=cx.fns}
def Qlo(slot:Nat)(s:St):Option St:=match s.T.get slot with
 |some (.sl d sz st n)=>some {s with T:=s.T.set slot (.slb d sz st n n)}
 |_=>none
def Qke(slot:Nat)(s:St):Option St:=match s.T.get slot with
 |some (.slb d sz st n _)=>some {s with T:=s.T.set slot (.sl d sz st n)}
 |_=>none
theorem Qwr{R:Option Nat}{P:Program}{nt:Nat}{c:Code}{Q:Exit→St→Prop}{s:St}{slot:Nat}{x y:SV}(hx:s.T.get slot=some x)(hi:∀M ρ v,Qd M ρ v x→Qd M ρ v y)(h:Q9 R P nt c Q {s with T:=s.T.set slot y}):Q9 R P nt c Q s:=by
 refine Q9.Qes (s':={s with T:=s.T.set slot y}) (fun B M ρ a w hg=>⟨ρ,⟨fun t z hz=>?_,hg.sz,hg.mem,hg.df,hg.mks,hg.nle,hg.fix⟩,⟨Fr.refl ..,rfl,fun _ h=>h,fun _ h=>h⟩⟩) h;rcases TT.Wg _ _ _ _ _ hz with⟨rfl,rfl⟩|⟨_,hz⟩
 ·exact hi _ _ _ (hg.tm _ _ hx)
 ·exact hg.tm t z hz
theorem Zk4{R:Option Nat}{P:Program}{nt:Nat}{c:Code}{Q:Exit→St→Prop}{s s':St}{slot:Nat}(hs:Qlo slot s=some s')(h:Q9 R P nt c Q s'):Q9 R P nt c Q s:=by
 unfold Qlo at hs;split at hs
 ·rename_i d sz st n hx;cases hs;refine Qwr hx (fun M ρ v hr=>?_) h;refine .slb _ _ _ _ _ hr ?_;cases hr with
  |sl _ _ _ _ c k p hp hk hc hn h6=>exact⟨_,_,_,rfl,hn⟩
  |slz=>exact⟨_,_,_,rfl,Nat.le_refl _⟩
 ·cases hs
theorem Zh9{R:Option Nat}{P:Program}{nt:Nat}{c:Code}{Q:Exit→St→Prop}{s s':St}{slot:Nat}(hs:Qke slot s=some s')(h:Q9 R P nt c Q s'):Q9 R P nt c Q s:=by
 unfold Qke at hs;split at hs
 ·rename_i d sz st n m hx;cases hs;exact Qwr hx (fun M ρ v hr=>hr.unslb) h
 ·cases hs
end Go.Sx
end
namespace Go.Sx
open Go
theorem set_self{α:Type}{r:List α}{j:Nat}{z:α}(h:r[j]? =some z):r.set j z=r:=by
 apply List.ext_getElem?;intro i;rw[List.getElem?_set];split
 ·rename_i e;subst e;rw[h,if_pos (List.getElem?_eq_some_iff.1 h).1]
 ·rfl
end Go.Sx
section
namespace Go.Sx
open Go
inductive Q6 where
 |leaf
 |one (a:Q6)
 |two (a b:Q6)
 |loop (τ:Qi) (l:Yu) (f:Yl) (F:Nat) (a:Q6)
 |join (l:Yu) (f:Yl) (a:Q6)
 |virt (slot ty:Nat) (row:List Ty) (a:Q6)
 |sealing (k ty:Nat) (row:List Ty) (a:Q6)
 |within (l:List (Nat×Q6))
 |virtF (ob col ty:Nat) (row:List Ty) (a:Q6)
 |trunc (slot:Nat) (a:Q6)
 |weak (k:Nat) (keep:List Nat) (a:Q6)
 |typ (k ty:Nat) (row:List Ty) (a:Q6)
 |phase (τ:Qi) (l:Yu) (f:Yl) (F:Nat) (a b:Q6)
 |low
 |slb (slot:Nat) (a:Q6)
 |unslb (slot:Nat) (a:Q6)
def Q6.fst:Q6→Q6
 |.one a=>a
 |.two a _=>a
 |_=>.leaf
def Q6.snd:Q6→Q6
 |.two _ b=>b
 |_=>.leaf
structure Sm where
 pre:List SV→List Qa→Bool
 run:(X:Type)→List SV→List Qa→KO X→Option X
structure Qay (cx:Cx) (g:Nat) (sm:Sm):Prop where
 fn:∃fn,cx.fns.lookup g=some fn
 ok:∀(X:Type) (args:List SV) (H:List Qa) (k:KO X) (y:X),sm.run X args H k=some y→Yt cx.P g args H fun x H' t f=>k x H' t f=some y
structure Lx where
 ext:List (Nat×Sm)
 anns:List (Nat×Q6)
 still:List Nat
 unk:Option (Nat→Sm):=none
def Sm.first:List (Nat×Sm)→Nat→(X:Type)→List SV→List Qa→KO X→Option X
 |[],_,_,_,_,_=>none
 |q::l,g,X,args,H,k=>match Nat.beq q.1 g with
  |false=>Sm.first l g X args H k
  |true=>match q.2.pre args H with
   |true=>q.2.run X args H k
   |false=>Sm.first l g X args H k
def Lx.has(l:List (Nat×Sm))(g:Nat)(args:List SV)(H:List Qa):Bool:=l.any fun q=>match Nat.beq q.1 g with
 |true=>q.2.pre args H
 |false=>false
structure Lx.Ok (cx:Cx) (lx:Lx):Prop where
 ext:∀q∈lx.ext,Qay cx q.1 q.2
 unk:lx.unk=none
theorem Sm.Qm0{cx:Cx}:∀{l:List (Nat×Sm)} (_:∀q∈l,Qay cx q.1 q.2) {g:Nat} {X:Type} {args:List SV} {H:List Qa} {k:KO X} {y:X},Sm.first l g X args H k=some y→(∃fn,cx.fns.lookup g=some fn)∧Yt cx.P g args H fun x H' t f=>k x H' t f=some y
 |[],_,g,X,args,H,k,y,h=>by cases h
 |q::l,hl,g,X,args,H,k,y,h=>by
  simp only[Sm.first]at h;split at h
  ·exact Sm.Qm0 (fun q hq=>hl q (List.mem_cons_of_mem _ hq)) h
  ·rename_i e;have e:=Nat.eq_of_beq_eq_true e;subst e;split at h
   ·have:=hl q List.mem_cons_self;exact⟨this.fn,this.ok X args H k y h⟩
   ·exact Sm.Qm0 (fun q hq=>hl q (List.mem_cons_of_mem _ hq)) h
abbrev Xp:=(X:Type)→(X→X→Bool)→Q6→Bool→Nat→Code→St→KX X→Option X
def Vx(cx:Cx)(rec:Xp):Prop:=∀(X:Type) (eq:X→X→Bool) (_:Yb eq) R an top nt c s (k:KX X) (y:X),(top=true→R=none)→rec X eq an top nt c s k=some y→Q9 R cx.P nt c (fun e s'=>k e s'=some y) s
section
variable {X:Type}
def Qof(z:Bool)(H:List Qa)(r:SV)(H':List Qa)(t g:List Nat)(k:KO X):Option X:=
 match g.isEmpty&&(Nat.ble H.length H'.length&&((z||r.free H.length)&&Qkl H.length H' t))with
 |true=>match Qfv H' H.length 1000 r with
  |some r'=>k r' (V7 t H H') t []
  |none=>k r H' t g
 |false=>k r H' t g
theorem Zw8{z:Bool}{H:List Qa}{r:SV}{H':List Qa}{t g:List Nat}{k:KO X}{y:X}(h:Qof z H r H' t g k=some y):Left H (fun x H' t f=>k x H' t f=some y) r H' t g:=by
 unfold Qof at h;split at h
 ·rename_i e;simp only[Bool.and_eq_true,List.isEmpty_iff]at e;split at h
  ·rename_i r' hr';exact .inl ⟨e.1,Nat.le_of_ble_eq_true e.2.1,fun s hs o ho _=>Qzu e.2.2.2 s hs o ho,r',1000,hr',h⟩
  ·exact .inr h
 ·exact .inr h
def U2(cx:Cx)(s:St):List ResultVar→(List SV→Option X)→Option X
 |[],k=>k []
 |.tmp t::rs,k=>U2 cx s rs fun l=>k (s.ev (.tmp t)::l)
 |.cell a t::rs,k=>(U6 cx.tab s.H t (s.ev (.tmp a))).Wh (fun _ _=>false) (fun x=>U2 cx s rs fun l=>k (x::l)) fun x _ _ _=>U2 cx s rs fun l=>k (x::l)
theorem Qbj{cx:Cx}{s:St}{y:X}:∀(rs:List ResultVar) (k:List SV→Option X),U2 cx s rs k=some y→Vj cx s rs fun l=>k l=some y
 |[],k,h=>h
 |.tmp t::rs,k,h=>Qbj rs _ h
 |.cell a t::rs,k,h=>Qj.Qau (fun _ _ h=>by cases h) (fun x h=>Qbj rs _ h) (fun x _ _ _ h=>Qbj rs _ h) h
def Qg5:Exit→Bool
 |.normal=>true
 |.ret=>true
 |_=>false
theorem Qlh{e:Exit}(h:Qg5 e=true):e=.normal∨e=.ret:=by
 cases e with
 |normal=>exact .inl rfl
 |ret=>exact .inr rfl
 |_=>cases h
def Qze(cx:Cx)(fn:Func)(z:Bool)(H:List Qa)(k:KO X):KX X:=fun e s=>
 gd (Qg5 e&&(s.marks.isEmpty||Nat.ble H.length s.H.length)) (match shut s.marks s.H with
  |none=>none
  |some H'=>U2 cx {s with H:=H',marks:=[]} fn.results.toList fun l=>Qof z H (Yx l) H' s.tch s.fg k)
theorem Zha{cx:Cx}{fn:Func}{z:Bool}{H:List Qa}{k:KO X}{e:Exit}{s:St}{y:X}(h:Qze cx fn z H k e s=some y):
  (e = .normal ∨ e = .ret) ∧ (H.length ≤ s.H.length ∨ s.marks = []) ∧ ∃ H',shut s.marks s.H = some H' ∧ Vj cx { s with H := H',marks := [] } fn.results.toList fun l =>
   Left H (fun x H' t f=>k x H' t f=some y) (Yx l) H' s.tch s.fg:=by
 obtain⟨hc,h⟩:=Z8 h;simp only[Bool.and_eq_true,Bool.or_eq_true,List.isEmpty_iff]at hc;split at h
 ·cases h
 ·rename_i H' hs;exact⟨Qlh hc.1,hc.2.symm.imp (fun h=>Nat.le_of_ble_eq_true h) id,H',hs,Qan _ _ _ (fun l hl=>Zw8 hl) (Qbj _ _ h)⟩
def Qdd(rec:Xp)(eq:X→X→Bool)(ab:Q6)(s:Nat)(args:List SV)(H:List Qa)(k:KO X):Option X:=
 match H[s]? with
 |some (.loop L)=>gd (Nat.beq L.params.toList.length args.length&&L.params.toList.all fun p=>Nat.blt p L.nt) (rec X eq .leaf false L.nt L.assign (Qkj L args H) fun e s1=>match e with
  |.normal=>gd (!s1.fg.contains s&&Nat.ble H.length s1.H.length) (match s1.H[s]? with
   |some (.loop L1)=>gd (isReady L1.state&&L1.pending.isNone) (rec X eq ab false L.nt L.body (V9 s L1 s1) fun e s2=>match Qsd e with
    |none=>none
    |some jump=>gd (!s2.fg.contains s&&Nat.ble H.length s2.H.length) (match s2.H[s]? with
     |some (.loop L2)=>k (.lit (.bool jump.isNone)) (Qp1 s L2 jump s2.H) (Qtt s jump s2.tch) s2.fg
     |_=>none))
   |_=>none)
  |_=>none)
 |_=>none
theorem Qwz{cx:Cx}{rec:Xp}(hrec:Vx cx rec){eq:X→X→Bool}(he:Yb eq){ab:Q6}{s:Nat}{args:List SV}{H:List Qa}{k:KO X}{y:X}
  (h:Qdd rec eq ab s args H k=some y):Qai cx.P s args H fun x H' t f=>k x H' t f=some y:=by
 unfold Qdd at h;split at h
 ·rename_i L hH;obtain⟨hc,h⟩:=Z8 h;rw[Bool.and_eq_true]at hc;refine Zdh hH (Nat.eq_of_beq_eq_true hc.1) hc.2 fun R=>?_;refine(hrec X eq he R _ false _ _ _ _ y (fun e=>by cases e) h).mono fun e s1 h1=>?_;cases e with
  |normal=>
   obtain⟨hc1,h1⟩:=Z8 h1;rw[Bool.and_eq_true]at hc1;split at h1
   ·rename_i L1 hL1;obtain⟨hc2,h1⟩:=Z8 h1;rw[Bool.and_eq_true]at hc2;refine⟨rfl,Qge hc1.1,Nat.le_of_ble_eq_true hc1.2,L1,hL1,Zo3 hc2.1,Option.isNone_iff_eq_none.1 hc2.2,?_⟩;refine(hrec X eq he R _ false _ _ _ _ y (fun e=>by cases e) h1).mono fun e s2 h2=>?_;cases hj:Qsd e with
    |none=>simp only[hj]at h2;cases h2
    |some jump=>
     simp only[hj]at h2;obtain⟨hc3,h2⟩:=Z8 h2;rw[Bool.and_eq_true]at hc3;split at h2
     ·rename_i L2 hL2;exact⟨jump,rfl,Qge hc3.1,Nat.le_of_ble_eq_true hc3.2,L2,hL2,h2⟩
     ·cases h2
   ·cases h1
  |_=>cases h1
 ·cases h
def Lx.Zc0(lx:Lx)(g n:Nat):Option Q6:=match lx.anns.lookup (g+10000000*(n+1))with
 |some a=>some a
 |none=>lx.anns.lookup g
def Qk4(lx:Lx)(g:Nat)(args:List SV)(H:List Qa)(k:KO X):Option X:=match Y5 args H with
 |(c,as,S,H1)=>gd c (match Lx.has lx.ext g as H1 with
  |true=>Sm.first lx.ext g X as H1 fun x H' t f=>k x H' (S++t) f
  |false=>match lx.unk with
   |some f=>(f g).run X as H1 fun x H' t f=>k x H' (S++t) f
   |none=>none)
theorem Zvr{cx:Cx}{lx:Lx}(hlx:lx.Ok cx){g:Nat}{args:List SV}{H:List Qa}{k:KO X}{y:X}(h:Qk4 lx g args H k=some y):
  (∃fn,cx.fns.lookup g=some fn)∧Yt cx.P g args H fun x H' t f=>k x H' t f=some y:=by
 unfold Qk4 at h;obtain⟨hc,h⟩:=Z8 (c:=(Y5 args H).1) (x:=match Lx.has lx.ext g (Y5 args H).2.1 (Y5 args H).2.2.2 with
  |true=>Sm.first lx.ext g X (Y5 args H).2.1 (Y5 args H).2.2.2 fun x H' t f=>k x H' ((Y5 args H).2.2.1++t) f
  |false=>match lx.unk with
   |some f=>(f g).run X (Y5 args H).2.1 (Y5 args H).2.2.2 fun x H' t f=>k x H' ((Y5 args H).2.2.1++t) f
   |none=>none) h
 split at h
 ·obtain⟨h1,h2⟩:=Sm.Qm0 hlx.ext h;exact⟨h1,Yt.Yat hc h2⟩
 ·rw[hlx.unk]at h;cases h
def V8(cx:Cx)(lx:Lx)(rec:Xp)(eq:X→X→Bool):Wl X
 |true,s,args,H,k=>match lx.anns.lookup (1000000+s)with
  |some a=>Qdd rec eq a s args H k
  |none=>match lx.unk with
   |some f=>(f (1000000+s)).run X args H k
   |none=>Qdd rec eq .leaf s args H k
 |false,g,args,H,k=>
  match lx.Zc0 g H.length with
  |some a=>walkO a g args H k
  |none=>match lx.anns.lookup (2000000+g)with
   |some _=>Qk4 lx g args H k
   |none=>match Lx.has lx.ext g args H with
    |true=>Sm.first lx.ext g X args H k
    |false=>match lx.unk with
     |some f=>(f g).run X args H k
     |none=>walkO .leaf g args H k
where walkO (a:Q6) (g:Nat) (args:List SV) (H:List Qa) (k:KO X):Option X:=match cx.fns.lookup g with
 |none=>none
 |some fn=>match fn.body with
  |none=>none
  |some c=>gd (Nat.ble args.length fn.ntmps) (rec X eq a true fn.ntmps c (.entry args H) (Qze cx fn (lx.still.contains g) H k))
theorem Zbk{cx:Cx}(hcx:cx.Ok){lx:Lx}{rec:Xp}(hrec:Vx cx rec){eq:X→X→Bool}(he:Yb eq){a:Q6}{g:Nat}{args:List SV}{H:List Qa}{k:KO X}{y:X}(h:V8.walkO cx lx rec eq a g args H k=some y):
  (∃fn,cx.fns.lookup g=some fn)∧Yt cx.P g args H fun x H' t f=>k x H' t f=some y:=by
 unfold V8.walkO at h;split at h
 ·cases h
 ·rename_i fn hfn;split at h
  ·cases h
  ·rename_i c hb;obtain⟨hc,h⟩:=Z8 h;refine⟨⟨fn,hfn⟩,?_⟩;exact Yt.leave (Qh9 hcx hfn hb (Nat.le_of_ble_eq_true hc) ((hrec X eq he none _ true _ _ _ _ y (fun _=>rfl) h).mono fun e s hs=>Zha hs))
theorem Qv5{cx:Cx}(hcx:cx.Ok){lx:Lx}(hlx:lx.Ok cx){rec:Xp}(hrec:Vx cx rec){eq:X→X→Bool}(he:Yb eq):Wl.Ok cx (V8 cx lx rec eq):=by
 refine⟨fun g args H k y h=>?_,fun s args H k y h=>?_⟩
 ·have h:(match lx.Zc0 g H.length with
   |some a=>V8.walkO cx lx rec eq a g args H k
   |none=>match lx.anns.lookup (2000000+g)with
    |some _=>Qk4 lx g args H k
    |none=>match Lx.has lx.ext g args H with
     |true=>Sm.first lx.ext g X args H k
     |false=>match lx.unk with
      |some f=>(f g).run X args H k
      |none=>V8.walkO cx lx rec eq .leaf g args H k)=some y:=h
  split at h
  ·exact Zbk hcx hrec he h
  ·split at h
   ·exact Zvr hlx h
   split at h
   ·exact Sm.Qm0 hlx.ext h
   ·rw[hlx.unk]at h;exact Zbk hcx hrec he h
 ·have h:(match lx.anns.lookup (1000000+s)with
   |some a=>Qdd rec eq a s args H k
   |none=>match lx.unk with
    |some f=>(f (1000000+s)).run X args H k
    |none=>Qdd rec eq .leaf s args H k)=some y:=h
  split at h
  ·exact Qwz hrec he h
  ·rw[hlx.unk]at h;exact Qwz hrec he h
def Zbu(cb:Wl X)(rec:Xp)(eq:X→X→Bool)(nt:Nat)(g:Operand)(ps:Array Tmp)(assign body:Code)(s:St)(k:KX X):Option X:=
 gd (Nat.ble s.n0 s.H.length) (match Qjs (s.ev g) (.yld (s.H.length+1))with
 |none=>none
 |some (gf,args)=>cb false gf args (Qj2 s nt ps assign body) fun r H' t f=>
  gd ((!f.contains s.H.length&& !f.contains (s.H.length+1))&&((s.marks.all fun m=>!f.contains m&&Nat.blt m s.H.length)&&Nat.ble s.n0 H'.length)) (match loopAt H'[s.H.length+1]? with
  |some (st,pd)=>gd (Qvk st) (match pd with
   |none=>k .normal (Ka s none H' t f)
   |some c=>rec X eq .leaf true nt c (Ka s (some c) H' t f) k)
  |none=>none))
theorem Zeo{cx:Cx}(hcx:cx.Ok){cb:Wl X}(hcb:cb.Ok cx){rec:Xp}(hrec:Vx cx rec){eq:X→X→Bool}(he:Yb eq){nt:Nat}{g:Operand}{ps:Array Tmp}{assign body:Code}{s:St}{k:KX X}{y:X}
  (h:Zbu cb rec eq nt g ps assign body s k=some y):Q9 none cx.P nt (.rangeFunc g ps assign body) (fun e s'=>k e s'=some y) s:=by
 obtain⟨hn,h⟩:=Z8 h;cases ht:Qjs (s.ev g) (.yld (s.H.length+1))with
 |none=>simp only[ht]at h;cases h
 |some q=>
  obtain⟨gf,args⟩:=q;simp only[ht]at h;obtain⟨⟨fn,hfn⟩,h⟩:=hcb.ok _ _ _ _ _ h;refine Zwb hcx (Nat.le_of_ble_eq_true hn) ht hfn (h.mono fun r H' t f h=>?_);obtain⟨hc,h⟩:=Z8 h;simp only[Bool.and_eq_true]at hc;obtain⟨⟨h1,h2⟩,h3,h4⟩:=hc;split at h
  ·rename_i st pd hL;obtain⟨hc5,h⟩:=Z8 h;refine⟨Qge h1,Qge h2,fun m hm=>?_,Nat.le_of_ble_eq_true h4,st,pd,hL,Zwy hc5,?_⟩
   ·have:=List.all_eq_true.1 h3 m hm;simp only[Bool.and_eq_true]at this;exact⟨Qge this.1,Uj this.2⟩
   ·split at h
    ·exact h
    ·exact hrec X eq he none _ true _ _ _ _ y (fun _=>rfl) h
  ·cases h
def Qy8(rec:Xp)(l:Yu)(f:Yl)(an:Q6)(top:Bool)(nt:Nat)(c:Code)(s:St)(k:KX X):Option X:=
 gd (s.marks.isEmpty&&(f.ok&&V1 f l)) (match rec (Zn l) (Zn.eqv l) an top nt c s.sub (fun e s'=>Wy f s.H.length l e s')with
  |some x=>Qgo f s l x fun e s1=>k e (s.outer s1)
  |none=>none)
theorem Zdj{cx:Cx}{rec:Xp}(hrec:Vx cx rec){l:Yu}{f:Yl}{an:Q6}{R:Option Nat}{top:Bool}{nt:Nat}{c:Code}{s:St}{k:KX X}{y:X}(ht:top=true→R=none)
  (h:Qy8 rec l f an top nt c s k=some y):Q9 R cx.P nt c (fun e s'=>k e s'=some y) s:=by
 obtain⟨hc,h⟩:=Z8 h;simp only[Bool.and_eq_true,List.isEmpty_iff]at hc;split at h
 ·rename_i x hx;rw[Qfl]at h;exact Zj4 hc.1 hc.2.1 hc.2.2 (hrec _ _ (Zn.eqv_ok l) R _ top _ _ _ _ x ht hx) h
 ·cases h
def Qdm:Exit→Bool
 |.normal=>true
 |_=>false
def Qmg(rec:Xp)(τ:Qi)(l:Yu)(f:Yl)(F:Nat)(an:Q6)(top:Bool)(nt:Nat)(c:Code)(s:St)(k:KX X):Option X:=
 gd (s.marks.isEmpty&&(f.ok&&(V1 f l&&(τ.Jw (f.of τ)&&l.all fun a=>!Qdm a.1)))) (match Wa τ f s.H.length s.sub with
  |some x0=>match Qq (fun x=>rec (τ.El ⊕ Zn l) (Qej (Zz.eqv τ.cells) (Zn.eqv l)) an top nt c (τ.st f.D (f.of τ) f.mv s x) (Qgq f s.H.length τ l)) F x0 with
   |some y=>Qgo f s l y fun e s1=>k e (s.outer s1)
   |none=>none
  |none=>none)
def Qrm(rec:Xp)(top:Bool)(nt:Nat)(c:Code):Q6→St→KX X→Option X
 |.loop τ l f F a,s,k=>Qmg rec τ l f F a top nt c s k
 |.phase τ l f F a b,s,k=>gd (s.marks.isEmpty&&(f.ok&&(V1 f l&&τ.Jw (f.of τ)))) (match Wa τ f s.H.length s.sub with
  |some x0=>match Qq (fun x=>rec (τ.El ⊕ Zn l) (Qej (Zz.eqv τ.cells) (Zn.eqv l)) a top nt c (τ.st f.D (f.of τ) f.mv s x) (Qne f s.H.length τ l)) F x0 with
   |some y=>Qgo f s l y fun e s1=>match Qdm e with
    |true=>Qrm rec top nt c b (s.outer s1) k
    |false=>k e (s.outer s1)
   |none=>none
  |none=>none)
 |_,_,_=>none
theorem Qsf{f:Yl}{s:St}:∀{l:Yu} (x:Zn l),(l.all fun a=>!Qdm a.1)=true→(Xd f s l x).1≠.normal
 |[],x,_=>Empty.elim x
 |[a],x,h=>by simp only[List.all_cons,List.all_nil,Bool.and_true,Bool.not_eq_true']at h;intro e;simp only[Xd]at e;rw[e]at h;cases h
 |a::a'::l,.inl x,h=>by simp only[List.all_cons,Bool.and_eq_true,Bool.not_eq_true']at h;intro e;simp only[Xd]at e;rw[e]at h;cases h.1
 |a::a'::l,.inr x,h=>by
  have h':((a'::l).all fun a=>!Qdm a.1)=true:=by simp only[List.all_cons,Bool.and_eq_true]at h⊢;exact h.2
  simp only[Xd];exact Qsf x h'
theorem Zfg{cx:Cx}{rec:Xp}(hrec:Vx cx rec){τ:Qi}{l:Yu}{f:Yl}{F:Nat}{an:Q6}{R:Option Nat}{top:Bool}{nt:Nat}{c:Code}{s:St}{k:KX X}{y:X}(ht:top=true→R=none)
  (h:Qmg rec τ l f F an top nt c s k=some y):Q9 R cx.P nt (.loop c) (fun e s'=>k e s'=some y) s:=by
 obtain⟨hc,h⟩:=Z8 h;simp only[Bool.and_eq_true,List.isEmpty_iff]at hc;obtain⟨c1,c2,c3,c4,c5⟩:=hc;split at h
 ·rename_i x0 hx0;split at h
  ·rename_i z hz;rw[Qfl]at h;exact Zj3 c1 c2 c3 c4 (fun x r hr=>hrec _ _ (Qis (Zz.eqv_ok _) (Zn.eqv_ok _)) R _ top _ _ _ _ r ht hr) hx0 hz (Qsf z c5) h
  ·cases h
 ·cases h
theorem Zkl{cx:Cx}{rec:Xp}(hrec:Vx cx rec){τ:Qi}{l:Yu}{f:Yl}{F:Nat}{an:Q6}{R:Option Nat}{top:Bool}{nt:Nat}{c:Code}{s:St}{k:KX X}{y:X}(ht:top=true→R=none)
  (h:Qmg rec τ l f F an top nt c s k=some y):Qeg R cx.P nt c (fun e s'=>k e s'=some y) s:=by
 obtain⟨hc,h⟩:=Z8 h;simp only[Bool.and_eq_true,List.isEmpty_iff]at hc;obtain⟨c1,c2,c3,c4,c5⟩:=hc;split at h
 ·rename_i x0 hx0;split at h
  ·rename_i z hz;rw[Qfl]at h;exact Qxc (fun e s' r h=>Zr6 h) c1 c2 c3 c4 (fun x r hr=>hrec _ _ (Qis (Zz.eqv_ok _) (Zn.eqv_ok _)) R _ top _ _ _ _ r ht hr) hx0 hz (fun hn=>absurd hn (Qsf z c5)) (fun _=>h)
  ·cases h
 ·cases h
theorem Zk5{e:Exit}(h:Qdm e=true):e=.normal:=by cases e<;>first|rfl|cases h
theorem Zaj{cx:Cx}{rec:Xp}(hrec:Vx cx rec){R:Option Nat}{top:Bool}{nt:Nat}{c:Code}{k:KX X}{y:X}(ht:top=true→R=none):∀(an:Q6) (s:St),Qrm rec top nt c an s k=some y→Qeg R cx.P nt c (fun e s'=>k e s'=some y) s
 |.loop τ l f F a,s,h=>Zkl hrec ht h
 |.phase τ l f F a b,s,h=>by
  obtain⟨hc,h⟩:=Z8 h;simp only[Bool.and_eq_true,List.isEmpty_iff]at hc;obtain⟨c1,c2,c3,c4⟩:=hc;split at h
  ·rename_i x0 hx0;split at h
   ·rename_i z hz;rw[Qfl]at h;refine Qxc (fun e s' r h=>Zy3 h) c1 c2 c3 c4 (fun x r hr=>hrec _ _ (Qis (Zz.eqv_ok _) (Zn.eqv_ok _)) R _ top _ _ _ _ r ht hr) hx0 hz (fun hn=>?_) (fun hn=>?_)
    ·rw[hn]at h;exact Zaj hrec ht b _ h
    ·cases he:Qdm (Xd f s l z).1 with
     |true=>exact absurd (Zk5 he) hn
     |false=>rw[he]at h;exact h
   ·cases h
  ·cases h
 |.leaf,_,h=>by cases h
 |.one _,_,h=>by cases h
 |.two _ _,_,h=>by cases h
 |.join _ _ _,_,h=>by cases h
 |.virt _ _ _ _,_,h=>by cases h
 |.sealing _ _ _ _,_,h=>by cases h
 |.within _,_,h=>by cases h
 |.virtF _ _ _ _ _,_,h=>by cases h
 |.trunc _ _,_,h=>by cases h
 |.weak _ _ _,_,h=>by cases h
 |.typ _ _ _ _,_,h=>by cases h
 |.slb _ _,_,h=>by cases h
 |.unslb _ _,_,h=>by cases h
end
def Qd2(cx:Cx)(lx:Lx)(rec:Xp)(X:Type)(eq:X→X→Bool)(an:Q6)(top:Bool)(nt:Nat):Code→St→KX X→Option X
 |.skip,s,k=>k .normal s
 |.region _ ops draw,s,k=>match draw with
  |false=>Qbi eq cx (V8 cx lx rec eq) nt ops ops.toList s (k .normal)
  |true=>gd (Region.noSelect ops) (Xn eq cx (V8 cx lx rec eq) nt ops (Wx true ops ops.size (Array.replicate ops.size false)) [] s (k .normal))
 |.seq a b,s,k=>rec X eq an.fst top nt a s fun e s'=>match e with
  |.normal=>rec X eq an.snd top nt b s' k
  |e=>k e s'
 |.cond c a b,s,k=>match s.ev c with
  |.pv (.lit (.bool t))=>match t with
   |true=>rec X eq an.fst top nt a s k
   |false=>rec X eq an.snd top nt b s k
  |_=>none
 |.block id c,s,k=>rec X eq an.fst top nt c s fun e s'=>match e with
  |.exit id'=>bif Nat.beq id' id then k .normal s' else k (.exit id') s'
  |e=>k e s'
 |.loop c,s,k=>rec X eq an.fst top nt c s fun e s'=>match e with
  |.normal=>rec X eq an top nt (.loop c) s' k
  |e=>k e s'
 |.rangeFunc g ps assign body,s,k=>match top with
  |true=>Zbu (V8 cx lx rec eq) rec eq nt g ps assign body s k
  |false=>none
 |.scope c,s,k=>match top with
  |true=>rec X eq an.fst true nt c s fun e s'=>match e with
   |.goto _=>none
   |e=>k e s'
  |false=>none
 |.exit id,s,k=>k (.exit id) s
 |.label _,s,k=>k .normal s
 |.ret,s,k=>k .ret s
 |_,_,_=>none
def Lx.more(lx:Lx)(l:List (Nat×Q6)):Lx:=match lx with
 |⟨ext,anns,still,unk⟩=>⟨ext,l++anns,still,unk⟩
theorem Lx.Ok.more{cx:Cx}{lx:Lx}(h:lx.Ok cx)(l:List (Nat×Q6)):(lx.more l).Ok cx:=⟨h.ext,h.unk⟩
def Zri(cx:Cx)(lx:Lx)(rec:Xp):Xp:=fun X eq an top nt c s k=>match an with
 |.join l f a=>Qy8 rec l f a top nt c s k
 |.virt slot ty row a=>match s.T.get slot with
  |some (.pv (.lit v))=>gd (Value.isNil v) (rec X eq a top nt c (Qfz s slot ty row) k)
  |_=>rec X eq a top nt c s k
 |.sealing kk ty row a=>match Qiy kk ty row s with
  |some p=>gd p.1 (rec X eq a top nt c p.2 k)
  |none=>none
 |.trunc slot a=>match Qk0 s slot with
  |some s'=>rec X eq a top nt c s' k
  |none=>rec X eq a top nt c s k
 |.weak kk keep a=>rec X eq a top nt c (Qj8 kk keep s) k
 |.typ kk ty row a=>match Qms kk ty row s with
  |some s'=>rec X eq a top nt c s' k
  |none=>none
 |.low=>match c with
  |.region _ ops draw=>match draw with
   |false=>Qbi eq cx.Kq (V8 cx.Kq lx rec eq) nt ops ops.toList s (k .normal)
   |true=>gd (Region.noSelect ops) (Xn eq cx.Kq (V8 cx.Kq lx rec eq) nt ops (Wx true ops ops.size (Array.replicate ops.size false)) [] s (k .normal))
  |_=>none
 |.slb slot a=>match Qlo slot s with
  |some s'=>rec X eq a top nt c s' k
  |none=>rec X eq a top nt c s k
 |.unslb slot a=>match Qke slot s with
  |some s'=>rec X eq a top nt c s' k
  |none=>rec X eq a top nt c s k
 |.virtF ob col ty row a=>match Qku s ob col ty row with
  |some s'=>rec X eq a top nt c s' k
  |none=>none
 |.within l=>match c with
  |.loop _=>none
  |c=>Qd2 cx (lx.more l) rec X eq .leaf top nt c s k
 |.loop τ l f F a=>match c with
  |.loop body=>Qmg rec τ l f F a top nt body s k
  |_=>none
 |.phase τ l f F a b=>match c with
  |.loop body=>Qrm rec top nt body (.phase τ l f F a b) s k
  |_=>none
 |.leaf=>Qd2 cx lx rec X eq .leaf top nt c s k
 |.one a=>Qd2 cx lx rec X eq (.one a) top nt c s k
 |.two a b=>Qd2 cx lx rec X eq (.two a b) top nt c s k
def Y7(cx:Cx)(lx:Lx):Nat→Xp
 |0=>fun _ _ _ _ _ _ _ _=>none
 |n+1=>Zri cx lx (Y7 cx lx n)
def Q6.plain:Q6→Bool
 |.leaf=>true
 |.one _=>true
 |.two _ _=>true
 |_=>false
theorem Qmm{cx:Cx}(hcx:cx.Ok){lx:Lx}(hlx:lx.Ok cx):∀(n:Nat),Vx cx (Y7 cx lx n)∧
  (∀(X:Type) (eq:X→X→Bool) (_:Yb eq) R an top nt c s (k:KX X) (y:X),(top=true→R=none)→Y7 cx lx n X eq an top nt (.loop c) s k=some y→an.plain=true→
   Qe1 R cx.P nt c (fun e s'=>k e s'=some y) n s)
 |0=>⟨fun X eq he R an top nt c s k y _ h=>(by cases h),fun X eq he R an top nt c s k y _ h=>(by cases h)⟩
 |n+1=>by
  obtain⟨ih1,ih2⟩:=Qmm hcx hlx n;have loop:∀(X:Type) (eq:X→X→Bool) (_:Yb eq) R an top nt c s (k:KX X) (y:X),(top=true→R=none)→Y7 cx lx (n+1) X eq an top nt (.loop c) s k=some y→an.plain=true→
    Qe1 R cx.P nt c (fun e s'=>k e s'=some y) (n+1) s:=by
   intro X eq he R an top nt c s k y ht h hp;have h:Qd2 cx lx (Y7 cx lx n) X eq an top nt (.loop c) s k=some y:=by
    cases an with
    |leaf=>exact h
    |one a=>exact h
    |two a b=>exact h
    |_=>cases hp
   refine(ih1 X eq he R an.fst top nt c s _ y ht h).mono fun e s' hs=>?_;cases e with
   |normal=>exact⟨n,Nat.le_refl n,ih2 X eq he R an top nt c s' k y ht hs hp⟩
   |_=>exact hs
  refine⟨fun X eq he R an top nt c s k y ht h=>?_,loop⟩;have code:∀(lx':Lx),lx'.Ok cx→(an.plain=true∨∀b,c≠.loop b)→∀an':Q6,(an.plain=true→an'=an∧lx'=lx)→Qd2 cx lx' (Y7 cx lx n) X eq an' top nt c s k=some y→Q9 R cx.P nt c (fun e s'=>k e s'=some y) s:=by
   intro lx' hlx' hp an' han hcode;have hcb:=Qv5 hcx hlx' ih1 he;cases c with
   |skip=>exact Zc7 hcode
   |region id ops draw=>
    cases draw with
    |false=>exact Zar hcx (Qgi he hcb _ _ _ hcode)
    |true=>obtain⟨h1,h2⟩:=Z8 hcode;exact Qvr hcx h1 (Qah he hcb _ _ _ _ h2)
   |seq a b=>
    refine Znd ((ih1 X eq he R an'.fst top nt a s _ y ht hcode).mono fun e s' hs=>?_);cases e with
    |normal=>exact ih1 X eq he R an'.snd top nt b s' k y ht hs
    |_=>exact hs
   |cond c a b=>
    have hcode:(match s.ev c with
     |.pv (.lit (.bool t))=>match t with
      |true=>Y7 cx lx n X eq an'.fst top nt a s k
      |false=>Y7 cx lx n X eq an'.snd top nt b s k
     |_=>none)=some y:=hcode
    split at hcode
    ·rename_i t e;refine Zun e (fun hb=>?_) (fun hb=>?_)
     ·subst hb;exact ih1 X eq he R an'.fst top nt a s k y ht hcode
     ·subst hb;exact ih1 X eq he R an'.snd top nt b s k y ht hcode
    ·cases hcode
   |block id c=>
    refine Zru ((ih1 X eq he R an'.fst top nt c s _ y ht hcode).mono fun e s' hs=>?_);cases e with
    |exit id'=>
     simp only[Qpr];by_cases e:id'=id
     ·rw[if_pos e];simp only[Qbo e,cond_true]at hs;exact hs
     ·rw[if_neg e];simp only[Jo e,cond_false]at hs;exact hs
    |_=>exact hs
   |loop c=>
    have hp:an.plain=true:=by
     rcases hp with hp|hp
     ·exact hp
     ·exact absurd rfl (hp c)
    obtain⟨rfl,rfl⟩:=han hp;refine Zqc (loop X eq he R an' top nt c s k y ht ?_ hp);cases an' with
    |leaf=>exact hcode
    |one a=>exact hcode
    |two a b=>exact hcode
    |_=>cases hp
   |exit id=>exact Zek hcode
   |label l=>exact Zst hcode
   |ret=>exact Zgo hcode
   |rangeFunc g ps assign body=>
    cases top with
    |true=>have hR:=ht rfl;subst hR;exact Zeo hcx hcb ih1 he hcode
    |false=>cases hcode
   |scope c=>
    cases top with
    |true=>
     have hR:=ht rfl;subst hR;refine Zll ((ih1 X eq he none an'.fst true nt c s _ y ht hcode).mono fun e s' hs=>?_);cases e with
     |goto _=>cases hs
     |_=>exact hs
    |false=>cases hcode
   |goto _=>cases hcode
   |refuse _=>cases hcode
  cases an with
  |join l f a=>exact Zdj ih1 ht h
  |virt slot ty row a=>
   have h:(match s.T.get slot with
    |some (.pv (.lit v))=>gd (Value.isNil v) (Y7 cx lx n X eq a top nt c (Qfz s slot ty row) k)
    |_=>Y7 cx lx n X eq a top nt c s k)=some y:=h
   split at h
   ·rename_i v hv;obtain⟨h1,h2⟩:=Z8 h;exact Zg7 hv h1 (ih1 X eq he R a top nt c _ k y ht h2)
   ·exact ih1 X eq he R a top nt c _ k y ht h
  |trunc slot a=>
   have h:(match Qk0 s slot with
    |some s'=>Y7 cx lx n X eq a top nt c s' k
    |none=>Y7 cx lx n X eq a top nt c s k)=some y:=h
   split at h
   ·rename_i s' hs';exact Zvj hs' (ih1 X eq he R a top nt c _ k y ht h)
   ·exact ih1 X eq he R a top nt c _ k y ht h
  |weak kk keep a=>exact Zfz (ih1 X eq he R a top nt c _ k y ht h)
  |typ kk ty row a=>
   have h:(match Qms kk ty row s with
    |some s'=>Y7 cx lx n X eq a top nt c s' k
    |none=>none)=some y:=h
   split at h
   ·rename_i s' hs';exact Zec hs' (ih1 X eq he R a top nt c _ k y ht h)
   ·cases h
  |low=>
   cases c with
   |region id ops draw=>
    have hcx':cx.Kq.Ok:=hcx.Kq;have hlx':lx.Ok cx.Kq:=⟨fun q hq=>let h:=hlx.ext q hq;⟨h.fn,h.ok⟩,hlx.unk⟩;have ih1':Vx cx.Kq (Y7 cx lx n):=ih1;have hcb:=Qv5 hcx' hlx' ih1' he;cases draw with
    |false=>exact Zar hcx' (Qgi he hcb _ _ _ h)
    |true=>obtain⟨h1,h2⟩:=Z8 h;exact Qvr hcx' h1 (Qah he hcb _ _ _ _ h2)
   |_=>cases h
  |slb slot a=>
   have h:(match Qlo slot s with
    |some s'=>Y7 cx lx n X eq a top nt c s' k
    |none=>Y7 cx lx n X eq a top nt c s k)=some y:=h
   split at h
   ·rename_i s' hs';exact Zk4 hs' (ih1 X eq he R a top nt c _ k y ht h)
   ·exact ih1 X eq he R a top nt c _ k y ht h
  |unslb slot a=>
   have h:(match Qke slot s with
    |some s'=>Y7 cx lx n X eq a top nt c s' k
    |none=>Y7 cx lx n X eq a top nt c s k)=some y:=h
   split at h
   ·rename_i s' hs';exact Zh9 hs' (ih1 X eq he R a top nt c _ k y ht h)
   ·exact ih1 X eq he R a top nt c _ k y ht h
  |sealing kk ty row a=>
   have h:(match Qiy kk ty row s with
    |some p=>gd p.1 (Y7 cx lx n X eq a top nt c p.2 k)
    |none=>none)=some y:=h
   split at h
   ·rename_i p hp;obtain⟨h1,h2⟩:=Z8 h;exact Zoz (cc:=p.1) (s':=p.2) hp h1 (ih1 X eq he R a top nt c _ k y ht h2)
   ·cases h
  |virtF ob col ty row a=>
   have h:(match Qku s ob col ty row with
    |some s'=>Y7 cx lx n X eq a top nt c s' k
    |none=>none)=some y:=h
   split at h
   ·rename_i s' hs';exact Zls hs' (ih1 X eq he R a top nt c _ k y ht h)
   ·cases h
  |within l=>
   cases c with
   |loop b=>cases h
   |_=>exact code (lx.more l) (hlx.more l) (.inr fun b e=>by cases e) .leaf (fun e=>by cases e) h
  |loop τ l f F a=>
   cases c with
   |loop body=>exact Zfg ih1 ht h
   |_=>cases h
  |phase τ l f F a b=>
   cases c with
   |loop body=>exact(Zaj ih1 ht _ _ h).wp
   |_=>cases h
  |leaf=>exact code lx hlx (.inl rfl) .leaf (fun _=>⟨rfl,rfl⟩) h
  |one a=>exact code lx hlx (.inl rfl) (.one a) (fun _=>⟨rfl,rfl⟩) h
  |two a b=>exact code lx hlx (.inl rfl) (.two a b) (fun _=>⟨rfl,rfl⟩) h
end Go.Sx
end
namespace Go.Sx
open Go
def Qx:List Qe→Type
 |[]=>Unit
 |[a]=>a.El
 |a::a'::l=>a.El×Qx (a'::l)
def Qx.eqv:(l:List Qe)→Qx l→Qx l→Bool
 |[]=>Qeo
 |[a]=>a.eqv
 |a::a'::l=>Jv a.eqv (Qx.eqv (a'::l))
theorem Qx.eqv_ok:∀(l:List Qe),Yb (Qx.eqv l)
 |[]=>fun a b h=>rfl
 |[a]=>Qe.eqv_ok a
 |a::a'::l=>Qcp (Qe.eqv_ok a) (Qx.eqv_ok (a'::l))
def Z3:(l:List Qe)→Qx l→List SV
 |[],_=>[]
 |[a],x=>[a.sv x]
 |a::a'::l,x=>a.sv x.1::Z3 (a'::l) x.2
def rdL(H:List Qa)(n:Nat):(l:List Qe)→List SV→Option (Bool×Qx l)
 |[]=>Ql2
 |[a]=>Qp7 (rdA H n a)
 |a::a'::l=>Qdi (rdA H n a) (rdL H n (a'::l))
theorem Qd.Yap{M:Qc}{ρ ρ2:Env}{v:Value}{x:SV}(h:Qd M ρ v x):x.free 0=true→Qd M ρ2 v x:=by
 have fl:∀(l:List SV),Ji 0 l=true→∀(i:Nat) (x:SV),l[i]? =some x→x.free 0=true:=by
  intro l;induction l with
  |nil=>intro _ i x h;simp at h
  |cons y l ih=>
   intro h i x hx;simp only[Ji,Bool.and_eq_true]at h;cases i with
   |zero=>simp at hx;subst hx;exact h.1
   |succ i=>exact ih h.2 i x (by simpa using hx)
 induction h with
 |any v=>intro _;exact .any v
 |pv h=>intro _;exact .pv h
 |agg cs l hl _ ih=>intro hf;exact .agg cs l hl fun i v x hv hx=>ih i v x hv hx (fl l hf i x hx)
 |tup cs l hl _ ih=>intro hf;exact .tup cs l hl fun i v x hv hx=>ih i v x hv hx (fl l hf i x hx)
 |fn f a b x y ha hb _ _ ih jh=>intro hf;simp only[SV.free,Bool.and_eq_true]at hf;exact .fn f a b x y ha hb (fun i v s hv hs=>ih i v s hv hs (fl x hf.1 i s hs)) (fun i v s hv hs=>jh i v s hv hs (fl y hf.2 i s hs))
 |ptr s=>intro hf;simp[SV.free]at hf
 |sl s=>intro hf;simp[SV.free]at hf
 |slz s=>intro hf;simp[SV.free]at hf
 |mp s=>intro hf;simp[SV.free]at hf
 |yld s=>intro hf;simp[SV.free]at hf
 |slb s=>intro hf;simp[SV.free]at hf
theorem Zdm(l:List PV):Ji 0 (l.map .pv)=true:=by
 induction l with
 |nil=>rfl
 |cons x l ih=>simp[Ji,SV.free,ih]
theorem Zhn(l:List PV):(SV.Y1 (l.map .pv)).free 0=true:=by
 unfold SV.Y1;split
 ·rfl
 ·simp only[SV.free];exact Zdm l
theorem Qe.Zcn:∀(a:Qe) (x:a.El),(a.sv x).free 0=true
 |.val t,x=>rfl
 |.agg row,x=>Zhn _
theorem Zbm:∀(l:List Qe) (x:Qx l),Ji 0 (Z3 l x)=true
 |[],_=>rfl
 |[a],x=>by show((a.sv x).free 0&&true)=true;rw[Qe.Zcn a x];rfl
 |a::a'::l,x=>by simp only[Z3,Ji,Qe.Zcn,Zbm (a'::l),Bool.and_self]
theorem Zqi(l:List Qe)(x:Qx l):(Yx (Z3 l x)).free 0=true:=by
 have h:=Zbm l x;unfold Yx;split
 ·rename_i y e;rw[e]at h;simpa[Ji]using h
 ·exact h
theorem Qtv{M:Qc}{ρ:Env}(n:Nat):∀(k:Nat),
  (∀(t:Ty),SizeOf.sizeOf t≤k→Qbh M ρ M (rdT [] n t) t.pv)∧(∀(ts:List Ty),SizeOf.sizeOf ts≤k→Ua M ρ M ts (Jj [] n ts)):=by
 have hle:=M.le_refl;intro k;induction k with
 |zero=>exact⟨fun t ht=>by(cases t<;>simp at ht),fun ts ht=>by(cases ts<;>simp at ht)⟩
 |succ k ih=>
  obtain⟨ih1,ih2⟩:=ih;refine⟨fun t ht=>?_,fun ts ht=>?_⟩
  ·match t,ht with
   |.int k,ht=>exact Qcn hle (Qse k)
   |.bool,ht=>exact Qcn hle Qqg
   |.str,ht=>exact Qcn hle Qqf
   |.seq row,ht=>
    intro x c y v h hc hr;have h:Qgd [] n row (Jj [] n row) x=some (c,y):=h;unfold Qgd at h;split at h
    ·split at h
     ·rename_i y' hy;cases h;cases hr with
      |pv hp=>exact Ty.Qso (t:=.seq row) hy hp
     ·cases h
    ·split at h
     ·cases h
     ·simp at h
    ·cases h
  ·match ts,ht with
   |[],ht=>exact Qvx
   |[t],ht=>exact Quh (ih1 t (by simp at ht;omega))
   |t::t'::ts,ht=>exact Qyl (ih1 t (by simp at ht;omega)) (ih2 (t'::ts) (by simp at ht⊢;omega))
theorem Zy7{M:Qc}{ρ ρ2:Env}{n:Nat}{a:Qe}{x:SV}{c:Bool}{y:a.El}{v:Value}(h:rdA [] n a x=some (c,y))(hc:c=true)(hr:Qd M ρ v x):Qd M ρ2 v (a.sv y):=by
 cases a with
 |val t=>exact .pv ((Qtv n _).1 t (Nat.le_refl _) x c y v h hc hr)
 |agg row=>
  refine Qe.Zcy ?_;have fin:∀(cs:Array Value) (xs:List SV) (y:Qh row),J8 M ρ M row xs y→cs.size=xs.length→(∀(i:Nat) (u:Value) (x:SV),cs[i]? =some u→xs[i]? =some x→Qd M ρ u x)→Qd M ρ2 (.agg cs) ((Qe.agg row).raw y):=fun cs xs y hf hl hr=>by refine .agg cs _ (by rw[hl,hf.1];simp[Jz]) fun i u z hu hz=>?_;simp only[List.getElem?_map,Option.map_eq_some_iff]at hz;obtain⟨q,hq,rfl⟩:=hz;obtain⟨x,hx,himp⟩:=hf.2 i q hq;exact .pv (himp u (hr i u x hu hx))
  replace h:Qcg [] n row x=some (c,y):=h;unfold Qcg at h;split at h
  ·rename_i cs;split at h
   ·rename_i y' hy;cases h;have:=hr.Q7;subst this;refine fin cs _ _ (J8.of M.le_refl hy) (by simp) fun i u x hu hx=>?_;simp only[List.getElem?_map,Option.map_eq_some_iff,Array.getElem?_toList]at hx;obtain⟨p,⟨u',hu',rfl⟩,rfl⟩:=hx;rw[hu]at hu';cases hu';exact .pv (.lit _)
   ·cases h
  ·rename_i l;cases hr with
   |agg cs _ hl hr=>exact fin cs l y ((Qtv n _).2 row (Nat.le_refl _) _ _ _ h hc) hl hr
  ·cases h
def Qou(M M2:Qc)(ρ ρ2:Env){α:Type}(f:List SV→Option (Bool×α))(g:α→List SV):Prop:=
 ∀(xs:List SV) (c:Bool) (y:α),f xs=some (c,y)→c=true→(g y).length=xs.length∧
  ∀(i:Nat) (v:Value) (z x:SV),(g y)[i]? =some z→xs[i]? =some x→Qd M ρ v x→Qd M2 ρ2 v z
theorem Qry{M M2:Qc}{ρ ρ2:Env}{H:List Qa}{n:Nat}(ha:∀(a:Qe) (x:SV) (c:Bool) (y:a.El) (v:Value),rdA H n a x=some (c,y)→c=true→Qd M ρ v x→Qd M2 ρ2 v (a.sv y)):
  ∀(l:List Qe),Qou M M2 ρ ρ2 (rdL H n l) (Z3 l)
 |[]=>by
  intro xs c y h hc;match xs,h with
  |[],h=>exact⟨rfl,fun i v z x hz hx=>by simp at hx⟩
  |_::_,h=>cases h
 |[a]=>by
  intro xs c y h hc;match xs,h with
  |[],h=>cases h
  |_::_::_,h=>cases h
  |[x],h=>
   replace h:rdA H n a x=some (c,y):=h;refine⟨rfl,fun i v z x' hz hx' hr=>?_⟩;cases i with
   |zero=>simp only[Z3,List.getElem?_cons_zero,Option.some.injEq]at hz hx';subst hz;subst hx';exact ha a x c y v h hc hr
   |succ i=>simp at hx'
 |a::a'::l=>by
  intro xs c y h hc;match xs,h with
  |[],h=>cases h
  |x::xs,h=>
   replace h:Qdi (rdA H n a) (rdL H n (a'::l)) (x::xs)=some (c,y):=h;simp only[Qdi]at h;split at h
   ·cases h
   ·rename_i p h1;split at h
    ·cases h
    ·rename_i q h2;cases h;rw[Bool.and_eq_true]at hc;obtain⟨g1,g2⟩:=Qry ha (a'::l) xs q.1 q.2 h2 hc.2;refine⟨by simp only[Z3,List.length_cons,g1],fun i v z x' hz hx' hr=>?_⟩;cases i with
     |zero=>simp only[Z3,List.getElem?_cons_zero,Option.some.injEq]at hz hx';subst hz;subst hx';exact ha a x p.1 p.2 v h1 hc.1 hr
     |succ i=>simp only[Z3,List.getElem?_cons_succ]at hz hx';exact g2 i v z x' hz hx' hr
theorem Qys{M:Qc}{ρ ρ2:Env}{H:List Qa}{w:World}{n:Nat}(hm:Mem M ρ H w)(l:List Qe):Qou M (M.sealing ρ H n w) ρ ρ2 (rdL H n l) (Z3 l):=
 Qry (fun a x c y v h hc hr=>Qn1 hm h hc hr) l
theorem Qu9{M:Qc}{ρ ρ2:Env}{n:Nat}(l:List Qe):Qou M M ρ ρ2 (rdL [] n l) (Z3 l):=
 Qry (fun a x c y v h hc hr=>Zy7 h hc hr) l
structure PC where
 ats:List Qe
 rts:List Qe
 code:Qx ats→Option (Qx rts)
structure Qg (cx:Cx) (g:Nat) (pc:PC):Prop where
 fn:∃fn,cx.fns.lookup g=some fn
 ok:∀a y,pc.code a=some y→Yt cx.P g (Z3 pc.ats a) [] fun r H' t f=>r=Yx (Z3 pc.rts y)∧H'=[]∧t=[]∧f=[]
def PC.sm(pc:PC):Sm where
 pre:=fun args H=>(rdL [] 0 pc.ats args).isSome||((rdL H 0 pc.ats args).isSome&&pc.rts.all Qe.scalar)
 run:=fun X args H k=>match rdL [] 0 pc.ats args with
  |some p=>gd p.1 (match pc.code p.2 with
   |some y=>k (Yx (Z3 pc.rts y)) H [] []
   |none=>none)
  |none=>match rdL H 0 pc.ats args with
   |some p=>gd (p.1&&pc.rts.all Qe.scalar) (match pc.code p.2 with
    |some y=>k (Yx (Z3 pc.rts y)) H [] []
    |none=>none)
   |none=>none
def Qi1:List SV→Bool
 |[]=>true
 |.pv (.lit _)::l=>Qi1 l
 |_=>false
def SV.Qhz:SV→Bool
 |.pv (.lit _)=>true
 |.agg l=>Qi1 l
 |_=>false
theorem Qyn:∀{l:List SV},Qi1 l=true→∀(i:Nat) (x:SV),l[i]? =some x→∃v,x=.lit v
 |[],_,i,x,h=>by simp at h
 |.pv (.lit v)::l,hl,i,x,h=>by
  cases i with
  |zero=>simp at h;exact⟨v,h.symm⟩
  |succ i=>exact Qyn (l:=l) hl i x (by simpa using h)
theorem Zby{M M2:Qc}{ρ ρ2:Env}{v:Value}{x:SV}(hs:x.Qhz=true)(h:Qd M ρ v x):Qd M2 ρ2 v x:=by
 match x,hs,h with
 |.pv (.lit u),_,h=>rw[h.Q7];exact .pv (.lit _)
 |.agg l,hs,.agg cs _ hl hr=>refine .agg cs l hl fun i v x hv hx=>?_;obtain⟨u,rfl⟩:=Qyn hs i x hx;rw[(hr i v _ hv hx).Q7];exact .pv (.lit _)
theorem Qyp:∀(row:List Ty) (x:Qh row),row.all Ty.scalar=true→Qi1 ((Q5 row x).map .pv)=true
 |[],_,_=>rfl
 |[t],x,h=>by cases t<;>first|rfl|(simp[Ty.scalar]at h)
 |t::t'::ts,x,h=>by simp only[List.all_cons,Bool.and_eq_true]at h;have:=Qyp (t'::ts) x.2 (by simp only[List.all_cons,Bool.and_eq_true];exact h.2);cases t<;>first|exact this|(simp[Ty.scalar]at h)
theorem Qe.Zcp(a:Qe)(x:a.El)(h:a.scalar=true):(a.sv x).Qhz=true:=by
 cases a with
 |val t=>cases t<;>first|rfl|(simp[Qe.scalar,Ty.scalar]at h)
 |agg row=>
  show(SV.Y1 ((Q5 row x).map .pv)).Qhz=true;unfold SV.Y1;split
  ·rfl
  ·exact Qyp row x h
theorem Qz5:∀(l:List Qe) (y:Qx l),l.all Qe.scalar=true→∀(i:Nat) (x:SV),(Z3 l y)[i]? =some x→x.Qhz=true
 |[],_,_,i,x,h=>by simp[Z3]at h
 |[a],y,hs,i,x,h=>by
  cases i with
  |zero=>simp only[Z3,List.getElem?_cons_zero,Option.some.injEq]at h;subst h;exact Qe.Zcp a y (by simpa using hs)
  |succ i=>simp[Z3]at h
 |a::a'::l,y,hs,i,x,h=>by
  simp only[List.all_cons,Bool.and_eq_true]at hs;cases i with
  |zero=>simp only[Z3,List.getElem?_cons_zero,Option.some.injEq]at h;subst h;exact Qe.Zcp a y.1 hs.1
  |succ i=>exact Qz5 (a'::l) y.2 (by simp only[List.all_cons,Bool.and_eq_true];exact hs.2) i x (by simpa[Z3]using h)
theorem Zrj{M M2:Qc}{ρ ρ2:Env}{v:Value}{l:List SV}(hs:∀(i:Nat) (x:SV),l[i]? =some x→x.Qhz=true)(h:Qd M ρ v (Yx l)):Qd M2 ρ2 v (Yx l):=by
 unfold Yx at h⊢;split at h
 ·rename_i x;exact Zby (hs 0 x rfl) h
 ·cases h with
  |tup cs _ hl hr=>exact .tup cs _ hl fun i v x hv hx=>Zby (hs i x hx) (hr i v x hv hx)
def Xu:Env:=fun _=>none
theorem Qhl{M:Qc}{w:World}(h:∀b o,M b=some o→w.heap[b]? =some o):Mem M Xu [] w:=
 ⟨h,fun s o ho=>by simp at ho,fun s o p b ho=>by simp at ho,fun s s' o o' p p' b ho=>by simp at ho,fun s _=>rfl,fun s o p b ho=>by simp at ho⟩
theorem Ud{b:Nat}:¬Xo Xu [] b:=fun⟨s,o,p,h,_⟩=>by simp at h
theorem PC.Q0{cx:Cx}{g:Nat}{pc:PC}(h:Qg cx g pc):Qay cx g pc.sm:=by
 refine⟨h.fn,fun X args H k y hk=>?_⟩;have hk:(match rdL [] 0 pc.ats args with
  |some p=>gd p.1 (match pc.code p.2 with
   |some y=>k (Yx (Z3 pc.rts y)) H [] []
   |none=>none)
  |none=>match rdL H 0 pc.ats args with
   |some p=>gd (p.1&&pc.rts.all Qe.scalar) (match pc.code p.2 with
    |some y=>k (Yx (Z3 pc.rts y)) H [] []
    |none=>none)
   |none=>none)=some y:=hk
 have keep:∀(w w':World) (M2 M2':Qc) (ρ':Env) (H':List Qa) (t f:List Nat),Fr M2 Xu [] w M2' ρ' H' w' 0 t f→∀b,b<w.heap.size→w'.heap[b]? =w.heap[b]? :=fun w w' M2 M2' ρ' H' t f hf b hb=>hf.same b hb Ud;split at hk
 ·rename_i p hrd;obtain⟨hc,hk⟩:=Z8 hk;split at hk
  ·rename_i z hz;intro M ρ w vs hm hr;obtain⟨l1,l2⟩:=Qu9 (M:=M) (ρ:=ρ) (ρ2:=Xu) pc.ats args p.1 p.2 hrd hc;refine(h.ok p.2 z hz M Xu w vs (Qhl hm.imm) ⟨by rw[hr.1,l1],fun i v x hv hx=>?_⟩).mono ?_
   ·obtain⟨x',hx'⟩:∃x',args[i]? =some x':=by
     have:i<args.length:=by rw[←l1];exact(List.getElem?_eq_some_iff.1 hx).1
     exact⟨_,List.getElem?_eq_getElem this⟩
    exact l2 i v x x' hx hx' (hr.2 i v x' hv hx')
   ·rintro e w' ⟨v,r,H',M',ρ',t,f,he,⟨rfl,rfl,rfl,rfl⟩,hs,hm',hf⟩
    have hsame:=keep _ _ _ _ _ _ _ _ hf;refine⟨v,_,H,M',ρ,[],[],he,hk,hs.Yap (Zqi _ z),?_,?_⟩
    ·refine⟨hm'.imm,fun s o ho=>?_,fun s o p b ho hl hp hb=>?_,hm.diss,hm.fresh,fun s o p b ho hl hp hb=>Nat.lt_of_lt_of_le (hm.lts s o p b ho hl hp hb) hf.grow⟩
     ·by_cases hl:o.live=true
      ·exact(hm.own s o ho).mono hf.imm ρ.le_refl rfl fun p b hp hb=>hsame _ (hm.Xr ho hl hp hb)
      ·rw[K3 hl];trivial
     ·cases e:M' b with
      |none=>rfl
      |some ob=>
       rcases hf.new b ob (hm.seps s o p b ho hl hp hb) e with h1|h1
       ·have:=hm.Xr ho hl hp hb;omega
       ·exact absurd h1 Ud
    ·exact⟨hf.imm,fun b o a c=>(hf.new b o a c).imp id fun h=>absurd h Ud,fun b hb=>.inr hb,fun b hb _=>hsame b hb,hf.grow,fun s o _ _ ho hl=>⟨⟨o,ho,hl⟩,fun p hp=>⟨hp,fun b hb=>hsame _ (hm.Xr ho hl hp hb)⟩⟩,fun _ _ _=>rfl,hf.io⟩
  ·cases hk
 ·split at hk
  ·rename_i p hrd;obtain⟨hc,hk⟩:=Z8 hk;rw[Bool.and_eq_true]at hc;split at hk
   ·rename_i z hz;intro M ρ w vs hm hr;obtain⟨l1,l2⟩:=Qys (n:=0) (ρ2:=Xu) hm pc.ats args p.1 p.2 hrd hc.1;have hM2:∀b o,(M.sealing ρ H 0 w) b=some o→w.heap[b]? =some o:=fun b o hb=>by
     cases e:M b with
     |some o'=>rw[Qc.X5 M ρ H 0 w b o' e]at hb;cases hb;exact hm.imm b _ e
     |none=>exact(Qc.Wf e hb).2
    refine(h.ok p.2 z hz (M.sealing ρ H 0 w) Xu w vs (Qhl hM2) ⟨by rw[hr.1,l1],fun i v x hv hx=>?_⟩).mono ?_
    ·obtain⟨x',hx'⟩:∃x',args[i]? =some x':=by
      have:i<args.length:=by rw[←l1];exact(List.getElem?_eq_some_iff.1 hx).1
      exact⟨_,List.getElem?_eq_getElem this⟩
     exact l2 i v x x' hx hx' (hr.2 i v x' hv hx')
    ·rintro e w' ⟨v,r,H',M',ρ',t,f,he,⟨rfl,rfl,rfl,rfl⟩,hs,hm',hf⟩
     have hsame:=keep _ _ _ _ _ _ _ _ hf;refine⟨v,_,H,M,ρ,[],[],he,hk,Zrj (Qz5 _ z hc.2) hs,?_,?_⟩
     ·refine⟨fun b o hb=>?_,fun s o ho=>?_,hm.seps,hm.diss,hm.fresh,fun s o p b ho hl hp hb=>Nat.lt_of_lt_of_le (hm.lts s o p b ho hl hp hb) hf.grow⟩
      ·rw[hsame b (hm.Qmz hb)];exact hm.imm b o hb
      ·by_cases hl:o.live=true
       ·exact(hm.own s o ho).mono M.le_refl ρ.le_refl rfl fun p b hp hb=>hsame _ (hm.Xr ho hl hp hb)
       ·rw[K3 hl];trivial
     ·exact⟨M.le_refl,fun b o a c=>(by rw[a]at c;cases c),fun b hb=>.inr hb,fun b hb _=>hsame b hb,hf.grow,fun s o _ _ ho hl=>⟨⟨o,ho,hl⟩,fun p hp=>⟨hp,fun b hb=>hsame _ (hm.Xr ho hl hp hb)⟩⟩,fun _ _ _=>rfl,hf.io⟩
   ·cases hk
  ·cases hk
def Zat(cx:Cx)(fn:Func)(rts:List Qe):KX (Qx rts):=fun e s=>
 gd (Qg5 e) (match shut s.marks s.H with
  |none=>none
  |some H'=>U2 cx {s with H:=H',marks:=[]} fn.results.toList fun l=>match rdL H' 0 rts l with
   |none=>none
   |some p=>gd p.1 (some p.2))
def Z5(cx:Cx)(lx:Lx)(n:Nat)(an:Q6)(fn:Func)(c:Code)(ats rts:List Qe)(a:Qx ats):Option (Qx rts):=
 Y7 cx lx n (Qx rts) (Qx.eqv rts) an true fn.ntmps c (.entry (Z3 ats a) []) (Zat cx fn rts)
theorem Zw2{cx:Cx}{fn:Func}{rts:List Qe}{e:Exit}{s:St}{y:Qx rts}(h:Zat cx fn rts e s=some y):
  (e=.normal∨e=.ret)∧∃H',shut s.marks s.H=some H'∧Vj cx {s with H:=H',marks:=[]} fn.results.toList fun l=>∃c,c=true∧rdL H' 0 rts l=some (c,y):=by
 obtain⟨h1,h⟩:=Z8 h;refine⟨Qlh h1,?_⟩;split at h
 ·cases h
 ·rename_i H' hs;refine⟨H',hs,Qan _ _ _ (fun l hl=>?_) (Qbj _ _ h)⟩;split at hl
  ·cases hl
  ·rename_i p hp;obtain⟨h2,hl⟩:=Z8 hl;cases hl;exact⟨p.1,h2,hp⟩
theorem Qg.Zs{cx:Cx}(hcx:cx.Ok){lx:Lx}(hlx:lx.Ok cx){n g:Nat}{an:Q6}{fn:Func}{c:Code}{pc:PC}(hf:cx.fns.lookup g=some fn)(hb:fn.body=some c)
  (hcode:∀a y,pc.code a=some y→Z5 cx lx n an fn c pc.ats pc.rts a=some y) (hn:Nat.ble pc.ats.length fn.ntmps=true):Qg cx g pc:=by
 refine⟨⟨fn,hf⟩,fun a y hy=>?_⟩;have hlen:∀(l:List Qe) (x:Qx l),(Z3 l x).length=l.length:=by
  intro l;induction l with
  |nil=>intro _;rfl
  |cons a l ih=>
   cases l with
   |nil=>intro _;rfl
   |cons b l=>intro x;simp only[Z3,List.length_cons,ih x.2]
 have hw:=(Qmm hcx hlx n).1 _ _ (Qx.eqv_ok pc.rts) none an true fn.ntmps c _ _ y (fun _=>rfl) (hcode a y hy);have hcall:Yt cx.P g (Z3 pc.ats a) [] fun r H' t f=>∃l cc,r=Yx l∧cc=true∧rdL H' 0 pc.rts l=some (cc,y):=by refine Qh9 hcx hf hb (by rw[hlen];exact Nat.le_of_ble_eq_true hn) (hw.mono fun e s hs=>?_);obtain⟨h1,H',h2,h3⟩:=Zw2 hs;exact⟨h1,.inl (Nat.zero_le _),H',h2,Qan _ _ _ (fun l ⟨cc,h4,h5⟩=>⟨l,cc,rfl,h4,h5⟩) h3⟩
 intro M ρ w vs hm hr;refine(hcall M ρ w vs hm hr).mono ?_
 rintro e w' ⟨v,r,H',M',ρ',t,f,he,⟨l,cc,rfl,hcc,hrd⟩,hs,hm',hfr⟩
 obtain⟨g1,g2⟩:=Qys (n:=0) (ρ2:=Xu) hm' pc.rts l cc y hrd hcc;have hne:ρ=Xu:=by funext s;exact hm.fresh s (Nat.zero_le _)
 have hM2:∀b o,(M'.sealing ρ' H' 0 w') b=some o→w'.heap[b]? =some o:=fun b o hb=>by
  cases e:M' b with
  |some o'=>rw[Qc.X5 M' ρ' H' 0 w' b o' e]at hb;cases hb;exact hm'.imm b _ e
  |none=>exact(Qc.Wf e hb).2
 refine⟨v,_,[],M'.sealing ρ' H' 0 w',Xu,[],[],he,⟨rfl,rfl,rfl,rfl⟩,?_,Qhl hM2,?_⟩
 ·unfold Yx at hs⊢;split at hs
  ·rename_i x;match hsv:Z3 pc.rts y,g1 with
   |[z],_=>simp only;exact g2 0 v z x (by rw[hsv];rfl) rfl hs
  ·rename_i hx;have hx2:∀z,Z3 pc.rts y=[z]→False:=fun z hz=>by
    rw[hz]at g1;match l,g1 with
    |[x],_=>exact hx x rfl
   cases hs with
   |tup cs _ hl hrr=>
    have:Qd (M'.sealing ρ' H' 0 w') Xu (.tuple cs) (.tup (Z3 pc.rts y)):=.tup cs _ (by rw[hl,g1]) fun i u z hu hz=>by
     obtain⟨x',hx'⟩:∃x',l[i]? =some x':=by
      have:i<l.length:=by rw[←g1];exact(List.getElem?_eq_some_iff.1 hz).1
      exact⟨_,List.getElem?_eq_getElem this⟩
     exact g2 i u z x' hz hx' (hrr i u x' hu hx')
    match hsv:Z3 pc.rts y with
    |[]=>simp only;rw[←hsv];exact this
    |[z]=>exact absurd hsv (fun h=>hx2 z h)
    |z::z'::zs=>simp only;rw[←hsv];exact this
 ·have hsl:=Qc.X5 M' ρ' H' 0 w';refine⟨Qc.le_trans hfr.imm hsl,fun b o h0 h1=>?_,fun b hb=>absurd hb Ud,hfr.same,hfr.grow,fun s o hs=>absurd hs (Nat.not_lt_zero s),fun s hs=>absurd hs (Nat.not_lt_zero s),hfr.io⟩;cases e:M' b with
  |some o'=>exact hfr.new b o' h0 e
  |none=>obtain⟨⟨s2,o2,p2,k1,k2,k3,k4,k5⟩,_⟩:=Qc.Wf e h1;exact hfr.own b ⟨s2,o2,p2,k2,by cases o2<;>simp_all [Qa.We,Qa.live],k4,.inl k5⟩
theorem Lx.W4{cx:Cx}{an:List (Nat×Q6)}{st:List Nat}:Lx.Ok cx {ext:=[],anns:=an,still:=st}:=⟨fun q hq=>(by cases hq),rfl⟩
theorem Lx.Q3{cx:Cx}{g:Nat}{sm:Sm}{l:List (Nat×Sm)}{an:List (Nat×Q6)}{st:List Nat}(h:Qay cx g sm)(hl:Lx.Ok cx {ext:=l,anns:=an,still:=st}):Lx.Ok cx {ext:=(g,sm)::l,anns:=an,still:=st}:=
 ⟨fun q hq=>by
  rcases List.mem_cons.1 hq with rfl|hq
  ·exact h
  ·exact hl.ext q hq,rfl⟩
def Qb(α:Type):List α:=[]
def Qv(fn:Func):Code:=match fn.body with
 |some c=>c
 |none=>.skip
end Go.Sx

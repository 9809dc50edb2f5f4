/- Part Qs of the own logic: an owned row becomes immutable where it stands. Own rows that a function of data gets: they become immutable at the call. And further parts. -/
import Derived.Test.YtpkbmngnolhopaaGreatDoorXSxP
set_option linter.unusedVariables false
set_option linter.unusedSimpArgs false
set_option linter.unnecessarySimpa false
section
namespace Go.Sx
open Go
def TT.all(p:SV→Bool):TT→Bool
 |.nil=>true
 |.node l v r=>l.all p&&((match v with|some x=>p x|none=>true)&&r.all p)
theorem TT.Qmy{p:SV→Bool}:∀{T:TT} {t:Nat} {x:SV},T.all p=true→T.get t=some x→p x=true
 |.nil,t,x,_,h=>by simp[TT.get]at h
 |.node l v r,t,x,ha,h=>by
  simp only[TT.all,Bool.and_eq_true]at ha;simp only[TT.get]at h;cases h0:Nat.beq t 0 with
  |true=>rw[h0]at h;simp only[cond_true]at h;subst h;exact ha.2.1
  |false=>
   rw[h0]at h;simp only[cond_false]at h;cases h1:Nat.beq (t%2) 1 with
   |true=>rw[h1]at h;exact TT.Qmy ha.1 h
   |false=>rw[h1]at h;exact TT.Qmy ha.2.2 h
mutual
def Xb(k:Nat)(row:List Ty)(l:List (Qh row)):SV→SV
 |.sl s sz st n=>match Nat.beq s k with
  |true=>match st with
   |0=>.pv (.tsl row l)
   |_+1=>.any
  |false=>.sl s sz st n
 |.agg x=>.agg (Qav k row l x)
 |.tup x=>.tup (Qav k row l x)
 |.fn f a b=>.fn f (Qav k row l a) (Qav k row l b)
 |.ptr s sz i j=>.ptr s sz i j
 |.mp s=>.mp s
 |.yld s=>.yld s
 |.slb _ _ _ _ _=>.any
 |.any=>.any
 |.pv p=>.pv p
def Qav(k:Nat)(row:List Ty)(l:List (Qh row)):List SV→List SV
 |[]=>[]
 |x::xs=>Xb k row l x::Qav k row l xs
end
mutual
def sealC(k:Nat)(row:List Ty)(l:List (Qh row)):SV→Bool
 |.sl s sz st n=>match Nat.beq s k with
  |true=>match st with
   |0=>Nat.beq sz row.length&&decide (n=l.length)
   |_+1=>true
  |false=>true
 |.agg x=>Up k row l x
 |.tup x=>Up k row l x
 |.fn f a b=>Up k row l a&&Up k row l b
 |_=>true
def Up(k:Nat)(row:List Ty)(l:List (Qh row)):List SV→Bool
 |[]=>true
 |x::xs=>sealC k row l x&&Up k row l xs
end
theorem Qqo(k:Nat)(row:List Ty)(l:List (Qh row))(xs:List SV):Qav k row l xs=xs.map (Xb k row l):=by
 induction xs with
 |nil=>rfl
 |cons x xs ih=>simp only[Qav,List.map_cons,ih]
theorem Qcx{k:Nat}{row:List Ty}{l:List (Qh row)}:∀{xs:List SV},Up k row l xs=true→∀(i:Nat) (x:SV),xs[i]? =some x→sealC k row l x=true
 |[],_,i,x,h=>by simp at h
 |y::xs,hc,i,x,h=>by
  simp only[Up,Bool.and_eq_true]at hc;cases i with
  |zero=>simp at h;subst h;exact hc.1
  |succ i=>exact Qcx hc.2 i x (by simpa using h)
def Qa.W1(k:Nat)(row:List Ty)(l:List (Qh row)):Qa→Qa
 |.mix ty sz rows=>.mix ty sz (rows.map (·.map (Xb k row l)))
 |.tlnk ty row' l' r c x=>.tlnk ty row' l' r c (Xb k row l x)
 |.nest ty ity row' ll q=>.nest ty ity row' ll (q.map fun x=>(x.1,Xb k row l x.2))
 |.map es c=>.map (es.map fun e=>(e.1,Xb k row l e.2.1,e.2.2)) c
 |.loop x=>.loop {x with T:=x.T.map (Xb k row l)}
 |o=>o
def Qa.sealC(k:Nat)(row:List Ty)(l:List (Qh row)):Qa→Bool
 |.mix ty sz rows=>rows.all (Up k row l)
 |.tlnk _ _ _ _ _ x=>Sx.sealC k row l x
 |.nest _ _ _ _ q=>match q with
  |some x=>Sx.sealC k row l x.2
  |none=>true
 |.map es c=>es.all fun e=>Sx.sealC k row l e.2.1
 |.loop x=>x.T.all (Sx.sealC k row l)
 |_=>true
def oneLive(H:List Qa)(k:Nat)(o:Qa):List Qa:=(H.map fun _=>Qa.dead).set k o
theorem Qa9{H:List Qa}{k s:Nat}{o x:Qa}(h:(oneLive H k o)[s]? =some x):(s=k∧x=o)∨(s≠k∧x=.dead):=by
 unfold oneLive at h;rw[List.getElem?_set]at h;split at h
 ·rename_i e;subst e;split at h
  ·cases h;exact .inl ⟨rfl,rfl⟩
  ·cases h
 ·rename_i e;simp only[List.getElem?_map,Option.map_eq_some_iff]at h;obtain⟨_,_,rfl⟩:=h;exact .inr ⟨fun h=>e h.symm,rfl⟩
theorem Mem.oneLive{M:Qc}{ρ:Env}{H:List Qa}{w:World}(hm:Mem M ρ H w){k:Nat}{o o1:Qa}(hk:H[k]? =some o1)(hl:o1.live=true)(ho:Qt M ρ w k o):Mem M ρ (Sx.oneLive H k o) w:=by
 refine⟨hm.imm,fun s x hx=>?_,fun s x p b hx hlx hp hb=>?_,fun s s' x x' p p' b hx hx' hlx hlx' hp hp' hb hb'=>?_,fun s hs=>hm.fresh s (by simpa[Sx.oneLive]using hs),fun s x p b hx hlx hp hb=>?_⟩
 ·rcases Qa9 hx with⟨rfl,rfl⟩|⟨_,rfl⟩
  ·exact ho
  ·trivial
 ·rcases Qa9 hx with⟨rfl,rfl⟩|⟨_,rfl⟩
  ·exact hm.seps s o1 p b hk hl hp hb
  ·cases hlx
 ·rcases Qa9 hx with⟨rfl,rfl⟩|⟨_,rfl⟩
  ·rcases Qa9 hx' with⟨rfl,rfl⟩|⟨_,rfl⟩
   ·rfl
   ·cases hlx'
  ·cases hlx
 ·rcases Qa9 hx with⟨rfl,rfl⟩|⟨_,rfl⟩
  ·exact hm.lts s o1 p b hk hl hp hb
  ·cases hlx
theorem Zwq{M M':Qc}{ρ:Env}{k:Nat}{row:List Ty}{l:List (Qh row)}(hle:M.le M')(hk:∀v,Qd M ρ v (.sl k row.length 0 l.length)→Zc M' v (.tsl row l)){v:Value}{x:SV}(h:Qd M ρ v x):sealC k row l x=true→Qd M' ρ v (Xb k row l x):=by
 induction h with
 |any v=>intro _;exact .any v
 |pv h=>intro _;exact .pv (h.mono hle)
 |agg cs xs hl _ ih=>intro hc;simp only[sealC]at hc;simp only[Xb,Qqo];refine .agg cs _ (by simpa using hl) fun i v x hv hx=>?_;simp only[List.getElem?_map,Option.map_eq_some_iff]at hx;obtain⟨y,hy,rfl⟩:=hx;exact ih i v y hv hy (Qcx hc i y hy)
 |tup cs xs hl _ ih=>intro hc;simp only[sealC]at hc;simp only[Xb,Qqo];refine .tup cs _ (by simpa using hl) fun i v x hv hx=>?_;simp only[List.getElem?_map,Option.map_eq_some_iff]at hx;obtain⟨y,hy,rfl⟩:=hx;exact ih i v y hv hy (Qcx hc i y hy)
 |ptr s sz i j kk p hp hkk=>intro _;exact .ptr s sz i j kk p hp hkk
 |sl s sz st n c kk p hp hkk hc hn h6=>
  intro hcc;simp only[sealC]at hcc;simp only[Xb];split
  ·rename_i e;have e:=Nat.eq_of_beq_eq_true e;subst e;rw[Nat.beq_refl]at hcc;simp only at hcc;cases st with
   |zero=>simp only[Bool.and_eq_true]at hcc;have e1:=Nat.eq_of_beq_eq_true hcc.1;have e2:=of_decide_eq_true hcc.2;subst e1;subst e2;exact .pv (hk _ (.sl _ _ _ _ c kk p hp hkk hc hn h6))
   |succ st=>exact .any _
  ·exact .sl s sz st n c kk p hp hkk hc hn h6
 |slz s sz st a=>
  intro hcc;simp only[sealC]at hcc;simp only[Xb];split
  ·rename_i e;have e:=Nat.eq_of_beq_eq_true e;subst e;rw[Nat.beq_refl]at hcc;simp only at hcc;cases st with
   |zero=>simp only[Bool.and_eq_true]at hcc;have e1:=Nat.eq_of_beq_eq_true hcc.1;have e2:=of_decide_eq_true hcc.2;subst e1;refine .pv (hk _ ?_);rw[←e2];exact .slz _ _ _ _
   |succ st=>exact .any _
  ·exact .slz s sz st a
 |mp s p hp=>intro _;exact .mp s p hp
 |yld s p hp=>intro _;exact .yld s p hp
 |slb s sz st n m _ _ _=>intro _;exact .any _
 |fn f a b x y ha hb _ _ ih jh=>
  intro hc;simp only[sealC,Bool.and_eq_true]at hc;simp only[Xb,Qqo];refine .fn f a b _ _ (by simpa using ha) (by simpa using hb) (fun i v s hv hs=>?_) (fun i v s hv hs=>?_)
  ·simp only[List.getElem?_map,Option.map_eq_some_iff]at hs;obtain⟨y,hy,rfl⟩:=hs;exact ih i v y hv hy (Qcx hc.1 i y hy)
  ·simp only[List.getElem?_map,Option.map_eq_some_iff]at hs;obtain⟨y,hy,rfl⟩:=hs;exact jh i v y hv hy (Qcx hc.2 i y hy)
theorem Qt.W1{M M':Qc}{ρ:Env}{w:World}{k s:Nat}{row:List Ty}{l:List (Qh row)}{o:Qa}(hle:M.le M')(hf:∀v x,Qd M ρ v x→Sx.sealC k row l x=true→Qd M' ρ v (Xb k row l x))(hc:o.sealC k row l=true)(h:Qt M ρ w s o):Qt M' ρ w s (o.W1 k row l):=by
 cases o with
 |mix ty sz rows=>
  simp only[Qa.sealC]at hc;rcases h with⟨h1,h2⟩|⟨p,h1,h2⟩
  ·exact .inl ⟨h1,by simp[h2]⟩
  ·refine .inr ⟨p,h1,?_⟩;obtain⟨cs,a1,a2,a3,a4,a5,a6⟩:=h2.ex;have key:∀i j x,Yq (rows.map (·.map (Xb k row l))) i j=some x→∃y,Yq rows i j=some y∧x=Xb k row l y∧Sx.sealC k row l y=true:=fun i j x hx=>by unfold Yq at hx;simp only[List.getElem?_map,Option.bind_eq_some_iff,Option.map_eq_some_iff]at hx;obtain⟨r',⟨r,hr,rfl⟩,hx⟩:=hx;simp only[List.getElem?_map,Option.map_eq_some_iff]at hx;obtain⟨y,hy,rfl⟩:=hx;exact⟨y,by simp[Yq,hr,hy],rfl,Qcx (List.all_eq_true.1 hc r (List.mem_of_getElem? hr)) j y hy⟩
   refine⟨cs,a1,a2,by simpa using a3,by simpa using a4,fun i j x v hx hv=>?_,fun i j x hx=>?_⟩
   ·obtain⟨y,hy,rfl,hcy⟩:=key i j x hx;obtain⟨b1,b2,b3⟩:=a5 i j y v hy hv;exact⟨by simpa using b1,b2,hf v y b3 hcy⟩
   ·obtain⟨y,hy,_⟩:=key i j x hx;simpa using a6 i j y hy
 |tlnk ty row' l' r c x=>
  simp only[Qa.sealC]at hc;rcases h with⟨h1,h2⟩|⟨p,h1,h2⟩
  ·exact .inl ⟨h1,h2⟩
  ·refine .inr ⟨p,h1,?_⟩;obtain⟨cs,a1,a2,a3,a4,a5,a6⟩:=h2.ex;refine⟨cs,a1,a2,a3,a4,fun i j z v hz hv=>?_,fun i j z hz=>?_⟩
   ·obtain⟨y,hy,rfl,hcy⟩:=Qly (f:=Xb k row l) (fun _=>rfl) hz;obtain⟨b1,b2,b3⟩:=a5 i j y v hy hv;refine⟨b1,b2,hf v y b3 ?_⟩;rcases hcy with rfl|⟨p,rfl⟩
    ·exact hc
    ·rfl
   ·obtain⟨y,hy,_⟩:=Qly (f:=Xb k row l) (fun _=>rfl) hz;exact a6 i j y hy
 |nest ty ity row' ll q=>
  rcases h with⟨h1,h2,h3⟩|⟨p,h1,h2⟩
  ·subst h3;exact .inl ⟨h1,h2,rfl⟩
  refine .inr ⟨p,h1,h2.goes hle rfl rfl rfl (fun _ _=>rfl) (by cases q<;>rfl) fun i x y v e1 e2 hr=>?_⟩;rw[e1]at e2;simp only[Option.map_some,Option.some.injEq,Prod.mk.injEq,true_and]at e2;subst e2;subst e1;exact hf v _ hr hc
 |map es c=>simp only[Qa.sealC]at hc;obtain⟨p,arr,h1,h2,h3,h4⟩:=h;refine⟨p,arr,h1,h2,by simpa using h3,fun i kk x b hi=>?_⟩;simp only[List.getElem?_map,Option.map_eq_some_iff]at hi;obtain⟨e,he,hq⟩:=hi;simp only[Prod.mk.injEq]at hq;obtain⟨rfl,rfl,rfl⟩:=hq;obtain⟨me,m1,m2,m3,m4⟩:=h4 i e.1 e.2.1 e.2.2 he;exact⟨me,m1,m2,m3,hf _ _ m4 (List.all_eq_true.1 hc e (List.mem_of_getElem? he))⟩
 |loop L=>simp only[Qa.sealC]at hc;obtain⟨p,fn,tmps,q,h1,h2,h3,h4⟩:=h;refine⟨p,fn,tmps,q,h1,h2,h3,fun t x hx=>?_⟩;rw[TT.get_map,Option.map_eq_some_iff]at hx;obtain⟨y,hy,rfl⟩:=hx;exact hf _ _ (h4 t y hy) (TT.Qmy hc hy)
 |dead=>exact h.mono hle ρ.le_refl rfl fun _ _ _ _=>rfl
 |vec _ _ _=>exact h.mono hle ρ.le_refl rfl fun _ _ _ _=>rfl
 |tvec _ _ _=>exact h.mono hle ρ.le_refl rfl fun _ _ _ _=>rfl
 |tmap _ _ _=>exact h.mono hle ρ.le_refl rfl fun _ _ _ _=>rfl
 |iter _ _=>exact h.mono hle ρ.le_refl rfl fun _ _ _ _=>rfl
 |over _ _=>exact h.mono hle ρ.le_refl rfl fun _ _ _ _=>rfl
 |mit _ _ _=>exact h.mono hle ρ.le_refl rfl fun _ _ _ _=>rfl
 |dfr _=>exact h.mono hle ρ.le_refl rfl fun _ _ _ _=>rfl
theorem Qf8(k:Nat)(row:List Ty)(l:List (Qh row))(o:Qa):(o.W1 k row l).live=o.live:=by cases o<;>rfl
def Zme(k ty:Nat)(row:List Ty)(H:List Qa):Option (Bool×List (Qh row)):=(Ql.vec k ty row).get .nil H H.length
def Qid(k ty:Nat)(row:List Ty)(s:St):Option (Bool×St):=match Zme k ty row s.H with
 |none=>none
 | some a=>some (a.1 && (s.T.all (sealC k row a.2) && s.H.all (Qa.sealC k row a.2)),
   {T:=s.T.map (Xb k row a.2),H:=(s.H.map (Qa.W1 k row a.2)).set k .dead,n0:=s.n0,tch:=Yr s.n0 [k] s.tch,fg:=s.fg,marks:=s.marks,er:=s.er})
theorem Znc{M:Qc}{ρ:Env}{H:List Qa}{w:World}:M.sealing ρ H H.length w=M:=by
 funext b;unfold Qc.sealing;cases M b with
 |some o=>rfl
 |none=>
  simp only;rw[if_neg]
  rintro ⟨s,o,p,h1,h2,_⟩
  have:=(List.getElem?_eq_some_iff.1 h2).1;omega
theorem Zax{M:Qc}{ρ:Env}{H:List Qa}{w:World}(hm:Mem M ρ H w):ρ.cut H.length=ρ:=by
 funext s;unfold Env.cut;split
 ·rfl
 ·rename_i h;exact(hm.fresh s (by omega)).symm
theorem Zez{R:Option Nat}{P:Program}{nt:Nat}{c:Code}{Q:Exit→St→Prop}{s s':St}{k ty:Nat}{row:List Ty}{cc:Bool}(hs:Qid k ty row s=some (cc,s'))(hc:cc=true)
  (h:Za R P nt c Q s'):Za R P nt c Q s:=by
 unfold Qid at hs;split at hs
 ·cases hs
 ·rename_i a ha;cases hs;obtain⟨c1,l⟩:=a;simp only[Bool.and_eq_true]at hc;obtain⟨hc1,hc2,hc3⟩:=hc;intro B M ρ act w hg;have hm:=hg.mem;have ha:(Ql.vec k ty row).get .nil s.H s.H.length=some (c1,l):=ha;obtain⟨o,ho,hl,hlen⟩:=Ql.Qsj (H1:=[]) ha hc1 rfl;have hks:k<s.H.length:=(List.getElem?_eq_some_iff.1 ho).1;have hown:=Ql.Zcj (H1:=[]) hm ha hc1 rfl hks (fun q hq=>by cases hq);rw[Znc,Zax hm]at hown;have hown:Qt M ρ w k (.tvec ty row l):=hown;have hm1:=Mem.oneLive hm ho hl hown;have hle:=Qc.X5 M ρ (Sx.oneLive s.H k (.tvec ty row l)) 0 w;have hget:(Sx.oneLive s.H k (.tvec ty row l))[k]? =some (.tvec ty row l):=by simp[Sx.oneLive,hks]
  have hnew:∀b ob,M b=none→M.sealing ρ (Sx.oneLive s.H k (.tvec ty row l)) 0 w b=some ob→(∃p,ρ k=some p∧p.block=b)∧w.heap[b]? =some ob:=fun b ob h0 h1=>by
   obtain⟨⟨s2,o2,p2,q1,q2,q3,q4,q5⟩,q6⟩:=Qc.Wi h0 h1;rcases Qa9 q2 with⟨rfl,rfl⟩|⟨_,rfl⟩
   ·exact⟨⟨p2,q4,q5⟩,q6⟩
   ·cases q3
  have hslice:∀v,Qd M ρ v (.sl k row.length 0 l.length)→Zc (M.sealing ρ (Sx.oneLive s.H k (.tvec ty row l)) 0 w) v (.tsl row l):=fun v hr=>by
   refine Qe4 hm1 (Nat.zero_le _) hget rfl rfl (by simp[Qa.len]) rfl (fun i y hy=>?_) hr;have:(Qa.tvec ty row l).row (0+i)=(Q5 row y).map .pv:=by simp only[Qa.row,List.getD,Nat.zero_add,hy,Option.getD_some]
   rw[this];exact .self hle y
  have hf:∀v x,Qd M ρ v x→Sx.sealC k row l x=true→Qd (M.sealing ρ (Sx.oneLive s.H k (.tvec ty row l)) 0 w) ρ v (Xb k row l x):=fun v x h hc=>Zwq hle hslice h hc;generalize hM2:M.sealing ρ (Sx.oneLive s.H k (.tvec ty row l)) 0 w=M2 at hle hnew hslice hf;have hobj:∀t x,((s.H.map (Qa.W1 k row l)).set k .dead)[t]? =some x→(t=k∧x=.dead)∨(t≠k∧∃y,s.H[t]? =some y∧x=y.W1 k row l):=fun t x hx=>by
   rw[List.getElem?_set]at hx;split at hx
   ·rename_i e;subst e;split at hx
    ·cases hx;exact .inl ⟨rfl,rfl⟩
    ·cases hx
   ·rename_i e;simp only[List.getElem?_map,Option.map_eq_some_iff]at hx;obtain⟨y,hy,rfl⟩:=hx;exact .inr ⟨fun h=>e h.symm,y,hy,rfl⟩
  have hmem2:Mem M2 ρ ((s.H.map (Qa.W1 k row l)).set k .dead) w:=by
   refine⟨fun b ob hb=>?_,fun t x hx=>?_,fun t x p b hx hlx hp hb=>?_,fun t t' x x' p p' b hx hx' hlx hlx' hp hp' hbk hbk'=>?_,fun t ht=>hm.fresh t (by simpa using ht),fun t x p b hx hlx hp hb=>?_⟩
   ·cases e:M b with
    |some o'=>rw[hle b o' e]at hb;cases hb;exact hm.imm b _ e
    |none=>exact(hnew b ob e hb).2
   ·rcases hobj t x hx with⟨rfl,rfl⟩|⟨_,y,hy,rfl⟩
    ·trivial
    ·exact(hm.own t y hy).W1 hle hf (List.all_eq_true.1 hc3 y (List.mem_of_getElem? hy))
   ·rcases hobj t x hx with⟨rfl,rfl⟩|⟨hne,y,hy,rfl⟩
    ·cases hlx
    ·rw[Qf8]at hlx;have h0:=hm.seps t y p b hy hlx hp hb;cases e:M2 b with
     |none=>rfl
     |some ob=>obtain⟨⟨p2,q1,q2⟩,_⟩:=hnew _ _ h0 e;exact absurd (hm.diss t k y o p p2 b hy ho hlx hl hp q1 hb (.inl q2)) hne
   ·rcases hobj t x hx with⟨rfl,rfl⟩|⟨_,y,hy,rfl⟩
    ·cases hlx
    ·rcases hobj t' x' hx' with⟨rfl,rfl⟩|⟨_,y',hy',rfl⟩
     ·cases hlx'
     ·rw[Qf8]at hlx hlx';exact hm.diss t t' y y' p p' b hy hy' hlx hlx' hp hp' hbk hbk'
   ·rcases hobj t x hx with⟨rfl,rfl⟩|⟨hne,y,hy,rfl⟩
    ·cases hlx
    ·rw[Qf8]at hlx;exact hm.lts t y p b hy hlx hp hb
  have hgood:Good B nt M2 ρ {T:=s.T.map (Xb k row l),H:=(s.H.map (Qa.W1 k row l)).set k .dead,n0:=s.n0,tch:=Yr s.n0 [k] s.tch,fg:=s.fg,marks:=s.marks,er:=s.er} act w:=by refine⟨fun t x hx=>?_,hg.sz,hmem2,hg.df,hg.mks,by simpa using hg.nle,hg.fix⟩;rw[TT.get_map,Option.map_eq_some_iff]at hx;obtain⟨y,hy,rfl⟩:=hx;exact hf _ _ (hg.tm t y hy) (TT.Qmy hc2 hy)
  have hgoes:Z7 M ρ s w M2 ρ {T:=s.T.map (Xb k row l),H:=(s.H.map (Qa.W1 k row l)).set k .dead,n0:=s.n0,tch:=Yr s.n0 [k] s.tch,fg:=s.fg,marks:=s.marks,er:=s.er} w:=by
   refine⟨⟨hle,fun b ob h0 h1=>?_,fun b hb=>?_,fun _ _ _=>rfl,Nat.le_refl _,fun t x ht hx hx2 hlx=>?_,fun _ _ _=>rfl,rfl,rfl⟩,rfl,fun x hx=>(show x∈Yr s.n0 [k] s.tch from Qbh hx),fun _ h=>h⟩
   ·obtain⟨⟨p,q1,q2⟩,_⟩:=hnew b ob h0 h1;exact .inr ⟨k,o,p,ho,hl,q1,.inl q2⟩
   ·obtain⟨t,x,p,h1,h2,h3,h4⟩:=hb;rcases hobj t x h1 with⟨rfl,rfl⟩|⟨_,y,hy,rfl⟩
    ·cases h2
    ·rw[Qf8]at h2;exact .inr ⟨t,y,p,hy,h2,h3,h4⟩
   ·have hne:t≠k:=fun e=>by subst e;exact hx (Qce ht List.mem_cons_self)
    refine⟨⟨x.W1 k row l,?_,by rw[Qf8];exact hlx⟩,fun p hp=>⟨hp,fun _ _=>rfl⟩⟩;show((s.H.map (Qa.W1 k row l)).set k .dead)[t]? =_;rw[List.getElem?_set,if_neg (fun h=>hne h.symm),List.getElem?_map,hx2];rfl
  exact wpIn_mono (h B M2 ρ act w hgood) fun e a' w' ⟨M',ρ',s'',q,g,kk⟩=>⟨M',ρ',s'',q,g,hgoes.trans kk⟩
def Qjj(s:St)(ob col ty:Nat)(row:List Ty):Option St:=match s.H[ob]? with
 |none=>none
 |some o=>match V0 o with
  |none=>none
  |some q=>match Nat.beq q.2.2.length q.2.1 with
   |false=>none
   |true=>match q.2.2[col]? with
    |some (.pv (.lit v))=>match Value.isNil v with
     |true=>some {T:=s.T,H:=(s.H.set ob (.mix q.1 q.2.1 [q.2.2.set col (.sl s.H.length row.length 0 0)]))++[.tvec ty row []],n0:=s.n0,tch:=s.tch,fg:=s.fg,marks:=s.marks,er:=s.er}
     |false=>none
    |_=>none
theorem Zvl{R:Option Nat}{P:Program}{nt:Nat}{c:Code}{Q:Exit→St→Prop}{s s':St}{ob col ty:Nat}{row:List Ty}(hs:Qjj s ob col ty row=some s')
  (h:Za R P nt c Q s'):Za R P nt c Q s:=by
 unfold Qjj at hs;split at hs
 ·cases hs
 ·rename_i o ho;split at hs
  ·cases hs
  ·rename_i q hq;split at hs
   ·cases hs
   ·rename_i hl;have hl:=Nat.eq_of_beq_eq_true hl;split at hs
    ·rename_i v hv;split at hs
     ·rename_i hn;cases hs;obtain⟨oty,sz,r⟩:=q;have hlt:ob<s.H.length:=(List.getElem?_eq_some_iff.1 ho).1;refine Za.Qet (fun B M ρ a w hg=>⟨ρ,?_,?_⟩) h
      all_goals
       obtain⟨g1,g2,g3,g4⟩:=Qgu (M:=M) (ρ:=ρ) (w:=w) (s:=ob) hq;obtain⟨m1,m2⟩:=hg.mem.virt (ty:=ty) (sz:=row.length);have n1:=m1.described (s:=s.H.length) (o:=.vec ty row.length []) (o':=.tvec ty row []) (by simp) rfl (fun h=>h);have n2:=m2.described (s:=s.H.length) (o:=.vec ty row.length []) (o':=.tvec ty row []) (by simp) rfl;have e1:(s.H++[Qa.vec ty row.length []]).set s.H.length (.tvec ty row [])=s.H++[.tvec ty row []]:=by simp
       rw[e1]at n1 n2;have hob:(s.H++[Qa.tvec ty row []])[ob]? =some o:=by rw[List.getElem?_append_left hlt];exact ho
       have hown:Qt M ρ w ob o→Qt M ρ w ob (.mix oty sz [r.set col (.sl s.H.length row.length 0 0)]):=fun h0=>by
        refine Qt.Zcw rfl (by simpa using hl) (fun j y hy=>?_) (g4 h0);rw[List.getElem?_set]at hy;split at hy
        ·rename_i e;subst e;split at hy
         ·cases hy;refine .inr ⟨_,hv,fun u hu=>?_⟩;have:=hu.Q7;subst this;unfold Value.isNil at hn;split at hn
          ·simp only[Bool.and_eq_true]at hn;rw[Nat.eq_of_beq_eq_true hn.1,Nat.eq_of_beq_eq_true hn.2];exact .slz _ _ _ _
          ·cases hn
         ·cases hy
        ·exact .inr ⟨y,hy,fun u hu=>hu⟩
       have e2:(s.H++[Qa.tvec ty row []]).set ob (.mix oty sz [r.set col (.sl s.H.length row.length 0 0)])=(s.H.set ob (.mix oty sz [r.set col (.sl s.H.length row.length 0 0)]))++[.tvec ty row []]:=by rw[List.set_append_left _ _ hlt]
      ·have n3:=n1.described hob (o':=.mix oty sz [r.set col (.sl s.H.length row.length 0 0)]) g1.symm hown;rw[e2]at n3;refine⟨hg.tm,hg.sz,n3,hg.df,hg.mks,?_,hg.fix⟩;show s.n0≤((s.H.set ob (.mix oty sz [r.set col (.sl s.H.length row.length 0 0)]))++[Qa.tvec ty row []]).length;have:=hg.nle;simp;omega
      ·have n3:=n2.described hob (o':=.mix oty sz [r.set col (.sl s.H.length row.length 0 0)]) g1.symm;rw[e2]at n3;exact⟨n3.weaken (n':=s.n0) (t':=s.tch) (f':=s.fg) hg.nle (fun x _ h=>by cases h) (fun x _ h=>by cases h),rfl,fun _ h=>h,fun _ h=>h⟩
     ·cases hs
    ·cases hs
def Qig(s:St)(t:Nat):Option St:=match s.T.get t with
 |some (.sl d _ _ n)=>match s.H[d]? with
  |some (.tvec ty row l)=>some {T:=s.T,H:=s.H.set d (.tvec ty row (l.take n)),n0:=s.n0,tch:=s.tch,fg:=s.fg,marks:=s.marks,er:=s.er}
  |_=>none
 |_=>none
theorem Zyi{M:Qc}{ρ:Env}{w:World}{d ty:Nat}{row:List Ty}{l:List (Qh row)}(n:Nat)(h:Qt M ρ w d (.tvec ty row l)):Qt M ρ w d (.tvec ty row (l.take n)):=by
 rcases h with⟨h1,h2⟩|⟨p,h1,cs,a1,a2,a3,a4,a5,a6⟩
 ·left;refine⟨h1,?_⟩;have:l=[]:=by simpa[Qo]using h2
  subst this;simp
 ·right;have hle:(Qo row (l.take n)).length≤(Qo row l).length:=by simp;omega
  have sub:∀i j x,Z1 (Qo row (l.take n)) i j=some x→i<(Qo row (l.take n)).length∧Z1 (Qo row l) i j=some x:=fun i j x hx=>by
   unfold Z1 at hx⊢;simp only[List.getElem?_map,List.getElem?_take]at hx⊢;split at hx
   ·rename_i hi;refine⟨?_,hx⟩;cases hl:l[i]? with
    |none=>rw[hl]at hx;simp at hx
    |some y=>have:=(List.getElem?_eq_some_iff.1 hl).1;simp;omega
   ·simp at hx
  refine⟨p,h1,cs,a1,a2,Nat.le_trans (Nat.mul_le_mul_right _ hle) a3,fun i j hi hj=>a4 i j (Nat.lt_of_lt_of_le hi hle) hj,fun i j x v hx hv=>?_,fun i j x hx=>?_⟩
  ·obtain⟨s1,s2⟩:=sub i j x hx;obtain⟨b1,b2,b3⟩:=a5 i j x v s2 hv;exact⟨s1,b2,b3⟩
  ·obtain⟨s1,s2⟩:=sub i j x hx;exact⟨s1,(a6 i j x s2).2⟩
theorem Zxy{R:Option Nat}{P:Program}{nt:Nat}{c:Code}{Q:Exit→St→Prop}{s s':St}{t:Nat}(hs:Qig s t=some s')(h:Za R P nt c Q s'):Za R P nt c Q s:=by
 unfold Qig at hs;split at hs
 ·split at hs
  ·rename_i ty row l hd;cases hs;refine Za.Qet (fun B M ρ a w hg=>⟨ρ,?_,?_⟩) h
   ·exact⟨hg.tm,hg.sz,hg.mem.described hd rfl (fun h=>Zyi _ h),hg.df,hg.mks,by simpa using hg.nle,hg.fix⟩
   ·exact⟨(Fr.refl M ρ s.H w s.n0 s.tch s.fg).described hd rfl,rfl,fun _ h=>h,fun _ h=>h⟩
  ·cases hs
 ·cases hs
def Qi2(T:TT):List Nat→TT→TT
 |[],T'=>T'
 |t::l,T'=>Qi2 T l (match T.get t with
  |some x=>T'.set t x
  |none=>T')
def Qmq(k:Nat)(keep:List Nat)(s:St):St:={s with T:=Qi2 s.T keep (Ve [k] s.T),H:=s.H.map (Qa.forget [k])}
theorem Qo6{T:TT}{P:Nat→SV→Prop}(h0:∀t x,T.get t=some x→P t x):∀(l:List Nat) (T':TT),(∀t x,T'.get t=some x→P t x)→∀t x,(Qi2 T l T').get t=some x→P t x
 |[],T',h,t,x,hx=>h t x hx
 |a::l,T',h,t,x,hx=>by
  simp only[Qi2]at hx;split at hx
  ·rename_i y hy;refine Qo6 h0 l _ (fun t x hx=>?_) t x hx;rcases TT.Wg _ _ _ _ _ hx with⟨rfl,rfl⟩|⟨_,hx⟩
   ·exact h0 _ _ hy
   ·exact h t x hx
  ·exact Qo6 h0 l _ h t x hx
theorem Zvz{R:Option Nat}{P:Program}{nt:Nat}{c:Code}{Q:Exit→St→Prop}{s:St}{k:Nat}{keep:List Nat}(h:Za R P nt c Q (Qmq k keep s)):Za R P nt c Q s:=by
 refine Za.Qet (fun B M ρ a w hg=>⟨ρ,?_,?_⟩) h
 ·refine⟨fun t x hx=>?_,hg.sz,?_,hg.df,hg.mks,by show s.n0≤(s.H.map (Qa.forget [k])).length;rw[List.length_map];exact hg.nle,hg.fix⟩
  ·refine Qo6 (T:=s.T) (P:=fun t x=>Qd M ρ (a.tmps.getD t undef) x) hg.tm keep _ (fun t x hx=>?_) t x hx;obtain⟨y,hy,hyx⟩:=Qi9 hx;have:=(hg.tm t y hy).forget (d:=[k]) M.le_refl (ρ':=ρ) (fun _ _ _ h=>h);rcases hyx with rfl|⟨e,rfl⟩
   ·exact this
   ·cases e
  ·have sub:∀(t:Nat) (x:Qa),(s.H.map (Qa.forget [k]))[t]? =some x→∃y,s.H[t]? =some y∧x=y.forget [k]:=fun t x hx=>by simp only[List.getElem?_map,Option.map_eq_some_iff]at hx;obtain⟨y,hy,rfl⟩:=hx;exact⟨y,hy,rfl⟩
   have hm:=hg.mem;refine⟨hm.imm,fun t x hx=>?_,fun t x p b hx hl hp hb=>?_,fun t t' x x' p p' b hx hx' hl hl' hp hp' hb hb'=>?_,fun t ht=>hm.fresh t (by simpa[Qmq]using ht),fun t x p b hx hl hp hb=>?_⟩
   ·obtain⟨y,hy,rfl⟩:=sub t x hx;exact(hm.own t y hy).forget M.le_refl (fun _ _ _ h=>h) rfl (fun _ _ _ _=>rfl)
   ·obtain⟨y,hy,rfl⟩:=sub t x hx;rw[Js]at hl;exact hm.seps t y p b hy hl hp hb
   ·obtain⟨y,hy,rfl⟩:=sub t x hx;obtain⟨y',hy',rfl⟩:=sub t' x' hx';rw[Js]at hl hl';exact hm.diss t t' y y' p p' b hy hy' hl hl' hp hp' hb hb'
   ·obtain⟨y,hy,rfl⟩:=sub t x hx;rw[Js]at hl;exact hm.lts t y p b hy hl hp hb
 ·refine⟨⟨M.le_refl,fun b o h h'=>(by rw[h]at h';cases h'),fun b hb=>.inr ?_,fun _ _ _=>rfl,Nat.le_refl _,fun t o _ _ ho hl=>⟨⟨o.forget [k],?_,?_⟩,fun p hp=>⟨hp,fun _ _=>rfl⟩⟩,fun _ _ _=>rfl,rfl,rfl⟩,rfl,fun _ h=>h,fun _ h=>h⟩
  ·obtain⟨t,o,p,h1,h2,h3,h4⟩:=hb;have h1:(s.H.map (Qa.forget [k]))[t]? =some o:=h1;simp only[List.getElem?_map,Option.map_eq_some_iff]at h1;obtain⟨y,hy,rfl⟩:=h1;exact⟨t,y,p,hy,by rwa[Js]at h2,h3,h4⟩
  ·simp[Qmq,ho]
  ·rw[Js];exact hl
def Qk1(k ty:Nat)(row:List Ty)(s:St):Option St:=match s.H[k]? with
 |some (.vec ty' sz rows)=>match Nat.beq ty' ty&&Nat.beq sz row.length with
  |true=>match X3 (ofRow row) rows with
   |some l=>some {s with H:=s.H.set k (.tvec ty row l)}
   |none=>none
  |false=>none
 |_=>none
theorem Zsv{R:Option Nat}{P:Program}{nt:Nat}{c:Code}{Q:Exit→St→Prop}{s s':St}{k ty:Nat}{row:List Ty}(hs:Qk1 k ty row s=some s')(h:Za R P nt c Q s'):Za R P nt c Q s:=by
 unfold Qk1 at hs;split at hs
 ·rename_i ty' sz rows ho;split at hs
  ·rename_i e;rw[Bool.and_eq_true]at e;have e1:=Nat.eq_of_beq_eq_true e.1;have e2:=Nat.eq_of_beq_eq_true e.2;subst e1;subst e2;split at hs
   ·rename_i l hl;cases hs;have hok:=Xi.of hl;refine Za.Qet (fun B M ρ a w hg=>⟨ρ,?_,?_⟩) h
    ·refine⟨hg.tm,hg.sz,hg.mem.described ho rfl (fun hh=>hh.Qh1 hok.1 hok.2),hg.df,hg.mks,by show s.n0≤(s.H.set k _).length;rw[List.length_set];exact hg.nle,hg.fix⟩
    ·exact⟨(Fr.refl M ρ s.H w s.n0 s.tch s.fg).described ho rfl,rfl,fun _ h=>h,fun _ h=>h⟩
   ·cases hs
  ·cases hs
 ·cases hs
theorem Qt.lnk{M:Qc}{ρ:Env}{w:World}{s ty:Nat}{row:List Ty}{l:List (Qh row)}{r c:Nat}(h:Qt M ρ w s (.tvec ty row l)):Qt M ρ w s (.tlnk ty row l r c .any):=by
 rcases h with h|⟨p,h1,h2⟩
 ·exact .inl h
 ·refine .inr ⟨p,h1,?_⟩;obtain⟨cs,a1,a2,a3,a4,a5,a6⟩:=h2.ex;have key:∀i j x,Xv row l r c .any i j=some x→∃y,Z1 (Qo row l) i j=some y∧(x=.any∨x=y):=fun i j x hx=>by
   unfold Xv at hx;simp only[Option.map_eq_some_iff]at hx;obtain⟨y,hy,rfl⟩:=hx;refine⟨y,hy,?_⟩;split
   ·exact .inl rfl
   ·exact .inr rfl
  refine⟨cs,a1,a2,a3,a4,fun i j x v hx hv=>?_,fun i j x hx=>?_⟩
  ·obtain⟨y,hy,e⟩:=key i j x hx;obtain⟨b1,b2,b3⟩:=a5 i j y v hy hv;refine⟨b1,b2,?_⟩;rcases e with rfl|rfl
   ·exact .any v
   ·exact b3
  ·obtain⟨y,hy,_⟩:=key i j x hx;exact a6 i j y hy
end Go.Sx
end
namespace Go.Sx
open Go
theorem Mem.Yau{M:Qc}{ρ:Env}{H:List Qa}{w:World}{k ty:Nat}{row:List Ty}{l:List (Qh row)}(hm:Mem M ρ H w)(ho:H[k]? =some (.tvec ty row l)):
  ∃M2,M.le M2∧Mem M2 ρ (H.set k .dead) w∧(∀n,Fr M ρ H w M2 ρ (H.set k .dead) w n [k] [])∧∀v,Qd M ρ v (.sl k row.length 0 l.length)→Zc M2 v (.tsl row l):=by
 have hks:k<H.length:=(List.getElem?_eq_some_iff.1 ho).1;have hl:(Qa.tvec ty row l).live=true:=rfl;have hm1:=Mem.oneLive hm ho hl (hm.own k _ ho);have hle:=Qc.X5 M ρ (Sx.oneLive H k (.tvec ty row l)) 0 w;have hget:(Sx.oneLive H k (.tvec ty row l))[k]? =some (.tvec ty row l):=by simp[Sx.oneLive,hks]
 have hnew:∀b ob,M b=none→M.sealing ρ (Sx.oneLive H k (.tvec ty row l)) 0 w b=some ob→(∃p,ρ k=some p∧p.block=b)∧w.heap[b]? =some ob:=fun b ob h0 h1=>by
  obtain⟨⟨s2,o2,p2,q1,q2,q3,q4,q5⟩,q6⟩:=Qc.Wi h0 h1;rcases Qa9 q2 with⟨rfl,rfl⟩|⟨_,rfl⟩
  ·exact⟨⟨p2,q4,q5⟩,q6⟩
  ·cases q3
 have hslice:∀v,Qd M ρ v (.sl k row.length 0 l.length)→Zc (M.sealing ρ (Sx.oneLive H k (.tvec ty row l)) 0 w) v (.tsl row l):=fun v hr=>by
  refine Qe4 hm1 (Nat.zero_le _) hget rfl rfl (by simp[Qa.len]) rfl (fun i y hy=>?_) hr;have:(Qa.tvec ty row l).row (0+i)=(Q5 row y).map .pv:=by simp only[Qa.row,List.getD,Nat.zero_add,hy,Option.getD_some]
  rw[this];exact .self hle y
 generalize hM2:M.sealing ρ (Sx.oneLive H k (.tvec ty row l)) 0 w=M2 at hle hnew hslice;have hobj:∀t x,(H.set k .dead)[t]? =some x→(t=k∧x=.dead)∨(t≠k∧H[t]? =some x):=fun t x hx=>by
  by_cases e:t=k
  ·subst e;rw[List.getElem?_set_self hks]at hx;cases hx;exact .inl ⟨rfl,rfl⟩
  ·rw[List.getElem?_set_ne (fun h=>e h.symm)]at hx;exact .inr ⟨e,hx⟩
 refine⟨M2,hle,⟨fun b ob hb=>?_,fun t x hx=>?_,fun t x p b hx hlx hp hb=>?_,fun t t' x x' p p' b hx hx' hlx hlx' hp hp' hbk hbk'=>?_,fun t ht=>hm.fresh t (by simpa using ht),fun t x p b hx hlx hp hb=>?_⟩,fun n=>⟨hle,fun b ob h0 h1=>?_,fun b hb=>?_,fun _ _ _=>rfl,Nat.le_refl _,fun t x ht hx hx2 hlx=>?_,fun _ _ _=>rfl,rfl,rfl⟩,hslice⟩
 ·cases e:M b with
  |some o'=>rw[hle b o' e]at hb;cases hb;exact hm.imm b _ e
  |none=>exact(hnew b ob e hb).2
 ·rcases hobj t x hx with⟨rfl,rfl⟩|⟨_,hy⟩
  ·trivial
  ·exact(hm.own t x hy).mono hle ρ.le_refl rfl fun _ _ _ _=>rfl
 ·rcases hobj t x hx with⟨rfl,rfl⟩|⟨hne,hy⟩
  ·cases hlx
  ·have h0:=hm.seps t x p b hy hlx hp hb;cases e:M2 b with
   |none=>rfl
   |some ob=>obtain⟨⟨p2,q1,q2⟩,_⟩:=hnew _ _ h0 e;exact absurd (hm.diss t k x _ p p2 b hy ho hlx hl hp q1 hb (.inl q2)) hne
 ·rcases hobj t x hx with⟨rfl,rfl⟩|⟨_,hy⟩
  ·cases hlx
  ·rcases hobj t' x' hx' with⟨rfl,rfl⟩|⟨_,hy'⟩
   ·cases hlx'
   ·exact hm.diss t t' x x' p p' b hy hy' hlx hlx' hp hp' hbk hbk'
 ·rcases hobj t x hx with⟨rfl,rfl⟩|⟨hne,hy⟩
  ·cases hlx
  ·exact hm.lts t x p b hy hlx hp hb
 ·obtain⟨⟨p,q1,q2⟩,_⟩:=hnew b ob h0 h1;exact .inr ⟨k,_,p,ho,hl,q1,.inl q2⟩
 ·obtain⟨t,x,p,h1,h2,h3,h4⟩:=hb;rcases hobj t x h1 with⟨rfl,rfl⟩|⟨_,hy⟩
  ·cases h2
  ·exact .inr ⟨t,x,p,hy,h2,h3,h4⟩
 ·have hne:t≠k:=fun e=>hx (by rw[e];exact List.mem_cons_self);exact⟨⟨x,by rw[List.getElem?_set_ne (fun h=>hne h.symm)];exact hx2,hlx⟩,fun p hp=>⟨hp,fun _ _=>rfl⟩⟩
def Qea(H:List Qa):SV→Option (SV×Nat×List Qa)
 |.sl k sz 0 n=>match H[k]? with
  |some (.tvec ty row l)=>match Nat.beq sz row.length with
   |true=>some (.pv (.tsl row l),k,H.set k .dead)
   |false=>none
  |_=>none
 |_=>none
def Qh4(H:List Qa):SV→Bool
 |.sl k sz 0 n=>match H[k]? with
  |some (.tvec ty row l)=>decide (n=l.length)
  |_=>true
 |_=>true
theorem Zaq{M:Qc}{ρ:Env}{H H':List Qa}{w:World}{x y:SV}{k:Nat}(hm:Mem M ρ H w)(h:Qea H x=some (y,k,H'))(hc:Qh4 H x=true):
  H'.length=H.length∧∃M2,M.le M2∧Mem M2 ρ H' w∧(∀n,Fr M ρ H w M2 ρ H' w n [k] [])∧∀v,Qd M ρ v x→Qd M2 ρ v y:=by
 unfold Qea at h;unfold Qh4 at hc;split at h
 ·rename_i k0 sz n;split at h
  ·rename_i ty row l ho;split at h
   ·rename_i e;have e:=Nat.eq_of_beq_eq_true e;subst e;cases h;simp only[ho,decide_eq_true_eq]at hc;subst hc;obtain⟨M2,h1,h2,h3,h4⟩:=hm.Yau ho;exact⟨by simp,M2,h1,h2,h3,fun v hv=>.pv (h4 v hv)⟩
   ·cases h
  ·cases h
 ·cases h
def Zi1:PV→Option Ty
 |.lit (.string _)=>some .str
 |.lit (.int k _)=>some (.int k)
 |.lit (.bool _)=>some .bool
 |.tsl row _=>some (.seq row)
 |_=>none
def Qyr(H:List Qa)(x:SV):List Ty:=match x with
 |.sl d _ _ _=>match H[d]? with
  |some (.vec _ _ (r::_))=>match X3 Zi1 r with
   |some row=>row
   |none=>[]
  |_=>[]
 |_=>[]
def K1(H:List Qa)(x:SV):List Qa:=asData H (Qyr H x) x
theorem Qzq{M:Qc}{ρ:Env}{H:List Qa}{w:World}(hm:Mem M ρ H w)(x:SV):Mem M ρ (K1 H x) w∧(∀n,Fr M ρ H w M ρ (K1 H x) w n [] [])∧(K1 H x).length=H.length:=by obtain⟨m1,h,m3⟩:=Qr7 hm (Qyr H x) x;exact⟨m1,fun n=>⟨h.imm,h.new,h.own,h.same,h.grow,fun s o _ ht ho hl=>h.keep s o (List.getElem?_eq_some_iff.1 ho).1 ht ho hl,fun _ _ _=>rfl,h.io⟩,m3⟩
def Wo:List SV→List Qa→Bool×List SV×List Nat×List Qa
 |[],H=>(true,[],[],H)
 |x::xs,H=>match Qea (K1 H x) x with
  |some q=>match Wo xs q.2.2 with
   |r=>(Qh4 (K1 H x) x&&r.1,q.1::r.2.1,q.2.1::r.2.2.1,r.2.2.2)
  |none=>match Wo xs H with
   |r=>(r.1,x::r.2.1,r.2.2.1,r.2.2.2)
theorem Qqv:∀{args:List SV} {M:Qc} {ρ:Env} {H:List Qa} {w:World},Mem M ρ H w→(Wo args H).1=true→
  (Wo args H).2.2.2.length = H.length ∧ (Wo args H).2.1.length = args.length ∧ ∃ M2,M.le M2 ∧ Mem M2 ρ (Wo args H).2.2.2 w ∧ (∀ n,Fr M ρ H w M2 ρ (Wo args H).2.2.2 w n (Wo args H).2.2.1 []) ∧
   ∀(i:Nat) (v:Value) (x y:SV),args[i]? =some x→(Wo args H).2.1[i]? =some y→Qd M ρ v x→Qd M2 ρ v y
 |[],M,ρ,H,w,hm,hc=>⟨rfl,rfl,M,M.le_refl,hm,fun n=>Fr.refl ..,fun i v x y hx=>by simp at hx⟩
 |x::xs,M,ρ,H,w,hm,hc=>by
  cases hs:Qea (K1 H x) x with
  |some q=>
   obtain⟨y,k,H1⟩:=q;simp only[Wo,hs,Bool.and_eq_true]at hc⊢;obtain⟨m1,m2,m3⟩:=Qzq hm x;obtain⟨e1,M1,a1,a2,a3',a4⟩:=Zaq m1 hs hc.1;have a3:∀n,Fr M ρ H w M1 ρ H1 w n [k] []:=fun n=>(m2 n).trans (a3' n) (fun z hz=>by cases hz) (fun z hz=>hz) (fun z hz=>by cases hz) (fun z hz=>by cases hz);obtain⟨e2,e3,M2,b1,b2,b3,b4⟩:=Qqv a2 hc.2;refine⟨e2.trans (e1.trans m3),by simp[e3],M2,Qc.le_trans a1 b1,b2,fun n=>(a3 n).trans (b3 n) (fun z hz=>?_) (fun z hz=>List.mem_cons_of_mem _ hz) (fun z hz=>by cases hz) (fun z hz=>hz),fun i v x' y' hx hy hv=>?_⟩
   ·rw[List.mem_singleton.1 hz];exact List.mem_cons_self
   ·cases i with
    |zero=>simp at hx hy;subst hx;subst hy;exact(a4 v hv).mono b1 ρ.le_refl
    |succ i=>exact b4 i v x' y' (by simpa using hx) (by simpa using hy) (hv.mono a1 ρ.le_refl)
  |none=>
   simp only[Wo,hs]at hc⊢;obtain⟨e2,e3,M2,b1,b2,b3,b4⟩:=Qqv (args:=xs) hm hc;refine⟨e2,by simp[e3],M2,b1,b2,b3,fun i v x' y' hx hy hv=>?_⟩;cases i with
   |zero=>simp at hx hy;subst hx;subst hy;exact hv.mono b1 ρ.le_refl
   |succ i=>exact b4 i v x' y' (by simpa using hx) (by simpa using hy) hv
def U8(x:SV)(H:List Qa):Bool×SV×List Nat×List Qa:=match Qea (K1 H x) x with
 |some q=>(Qh4 (K1 H x) x,q.1,[q.2.1],q.2.2)
 |none=>(true,x,[],H)
theorem Zyq{x:SV}{M:Qc}{ρ:Env}{H:List Qa}{w:World}(hm:Mem M ρ H w)(hc:(U8 x H).1=true):
  (U8 x H).2.2.2.length=H.length∧∃M2,M.le M2∧Mem M2 ρ (U8 x H).2.2.2 w∧(∀n,Fr M ρ H w M2 ρ (U8 x H).2.2.2 w n (U8 x H).2.2.1 [])∧∀v,Qd M ρ v x→Qd M2 ρ v (U8 x H).2.1:=by
 unfold U8 at hc⊢;cases hs:Qea (K1 H x) x with
 |some q=>obtain⟨y,k,H1⟩:=q;simp only[hs]at hc⊢;obtain⟨m1,m2,m3⟩:=Qzq hm x;obtain⟨e1,M1,a1,a2,a3,a4⟩:=Zaq m1 hs hc;exact⟨e1.trans m3,M1,a1,a2,fun n=>(m2 n).trans (a3 n) (fun z hz=>by cases hz) (fun z hz=>hz) (fun z hz=>by cases hz) (fun z hz=>by cases hz),a4⟩
 |none=>exact⟨rfl,M,M.le_refl,hm,fun n=>Fr.refl ..,fun v hv=>hv⟩
def Us(x:SV)(H:List Qa):Bool×SV×List Nat×List Qa:=match x with
 |.agg l=>match Wo l H with
  |r=>(r.1,.agg r.2.1,r.2.2.1,r.2.2.2)
 |x=>U8 x H
theorem Zin{x:SV}{M:Qc}{ρ:Env}{H:List Qa}{w:World}(hm:Mem M ρ H w)(hc:(Us x H).1=true):
  (Us x H).2.2.2.length=H.length∧∃M2,M.le M2∧Mem M2 ρ (Us x H).2.2.2 w∧(∀n,Fr M ρ H w M2 ρ (Us x H).2.2.2 w n (Us x H).2.2.1 [])∧∀v,Qd M ρ v x→Qd M2 ρ v (Us x H).2.1:=by
 unfold Us at hc⊢;split at hc
 ·rename_i l;obtain⟨e1,e2,M2,b1,b2,b3,b4⟩:=Qqv hm hc;refine⟨e1,M2,b1,b2,b3,fun v hv=>?_⟩;cases hv with
  |agg cs _ hl h=>
   refine .agg cs _ (by rw[hl,e2]) fun i v y hv hy=>?_;obtain⟨x,hx⟩:∃x,l[i]? =some x:=by
    have:i<l.length:=by rw[←e2];exact(List.getElem?_eq_some_iff.1 hy).1
    exact⟨_,List.getElem?_eq_getElem this⟩
   exact b4 i v x y hx hy (h i v x hv hx)
 ·exact Zyq hm hc
def Y7:List SV→List Qa→Bool×List SV×List Nat×List Qa
 |[],H=>(true,[],[],H)
 |x::xs,H=>match Us x H with
  |q=>match Y7 xs q.2.2.2 with
   |r=>(q.1&&r.1,q.2.1::r.2.1,q.2.2.1++r.2.2.1,r.2.2.2)
theorem Qx3:∀{args:List SV} {M:Qc} {ρ:Env} {H:List Qa} {w:World},Mem M ρ H w→(Y7 args H).1=true→
  (Y7 args H).2.2.2.length = H.length ∧ (Y7 args H).2.1.length = args.length ∧ ∃ M2,M.le M2 ∧ Mem M2 ρ (Y7 args H).2.2.2 w ∧ (∀ n,Fr M ρ H w M2 ρ (Y7 args H).2.2.2 w n (Y7 args H).2.2.1 []) ∧
   ∀(i:Nat) (v:Value) (x y:SV),args[i]? =some x→(Y7 args H).2.1[i]? =some y→Qd M ρ v x→Qd M2 ρ v y
 |[],M,ρ,H,w,hm,hc=>⟨rfl,rfl,M,M.le_refl,hm,fun n=>Fr.refl ..,fun i v x y hx=>by simp at hx⟩
 |x::xs,M,ρ,H,w,hm,hc=>by
  simp only[Y7,Bool.and_eq_true]at hc⊢;obtain⟨e1,M1,a1,a2,a3,a4⟩:=Zin hm hc.1;obtain⟨e2,e3,M2,b1,b2,b3,b4⟩:=Qx3 a2 hc.2;refine⟨e2.trans e1,by simp[e3],M2,Qc.le_trans a1 b1,b2,fun n=>(a3 n).trans (b3 n) (fun z hz=>List.mem_append_left _ hz) (fun z hz=>List.mem_append_right _ hz) (fun z hz=>by cases hz) (fun z hz=>hz),fun i v x' y' hx hy hv=>?_⟩;cases i with
  |zero=>simp at hx hy;subst hx;subst hy;exact(a4 v hv).mono b1 ρ.le_refl
  |succ i=>exact b4 i v x' y' (by simpa using hx) (by simpa using hy) (hv.mono a1 ρ.le_refl)
theorem Yt.Yal{P:Program}{g:Nat}{args:List SV}{H:List Qa}{K:Qm}(hc:(Y7 args H).1=true)
  (h:Yt P g (Y7 args H).2.1 (Y7 args H).2.2.2 fun r H' t f=>K r H' ((Y7 args H).2.2.1++t) f):Yt P g args H K:=by
 intro M ρ w vs hm hr;obtain⟨e1,e2,M2,b1,b2,b3,b4⟩:=Qx3 hm hc;refine(h M2 ρ w vs b2 ⟨by rw[hr.1,e2],fun i v y hv hy=>?_⟩).mono ?_
 ·obtain⟨x,hx⟩:∃x,args[i]? =some x:=by
   have:i<args.length:=by rw[←e2];exact(List.getElem?_eq_some_iff.1 hy).1
   exact⟨_,List.getElem?_eq_getElem this⟩
  exact b4 i v x y hx hy (hr.2 i v x hv hx)
 ·rintro e w' ⟨v,r,H',M',ρ',t,f,he,hk,hs,hm',hf⟩
  rw[e1]at hf;exact⟨v,r,H',M',ρ',_,f,he,hk,hs,hm',(b3 _).trans hf (fun z hz=>List.mem_append_left _ hz) (fun z hz=>List.mem_append_right _ hz) (fun z hz=>by cases hz) (fun z hz=>hz)⟩
end Go.Sx
section
namespace Go.Sx
open Go
mutual
def SV.Zy(f:Nat→Option Nat):SV→SV
 |.ptr s sz i j=>match f s with
  |some t=>.ptr t sz i j
  |none=>.any
 |.sl s sz st n=>match f s with
  |some t=>.sl t sz st n
  |none=>.any
 |.mp s=>match f s with
  |some t=>.mp t
  |none=>.any
 |.yld s=>match f s with
  |some t=>.yld t
  |none=>.any
 |.slb s sz st n m=>match f s with
  |some t=>.slb t sz st n m
  |none=>.any
 |.agg l=>.agg (W8 f l)
 |.tup l=>.tup (W8 f l)
 |.fn g a b=>.fn g (W8 f a) (W8 f b)
 |.any=>.any
 |.pv p=>.pv p
def W8(f:Nat→Option Nat):List SV→List SV
 |[]=>[]
 |x::xs=>x.Zy f::W8 f xs
end
theorem Qjk(f:Nat→Option Nat)(l:List SV):W8 f l=l.map (SV.Zy f):=by
 induction l with
 |nil=>rfl
 |cons x xs ih=>simp only[W8,List.map_cons,ih]
theorem Qd.Zy{M M':Qc}{ρ ρ':Env}{f:Nat→Option Nat}(hM:M.le M')(hf:∀s t p,f s=some t→ρ s=some p→ρ' t=some p){v:Value}{x:SV}(h:Qd M ρ v x):Qd M' ρ' v (x.Zy f):=by
 induction h with
 |any v=>exact .any v
 |pv h=>exact .pv (h.mono hM)
 |agg cs l hl _ ih=>simp only[SV.Zy,Qjk];refine .agg cs _ (by simpa using hl) fun i v x hv hx=>?_;simp only[List.getElem?_map,Option.map_eq_some_iff]at hx;obtain⟨y,hy,rfl⟩:=hx;exact ih i v y hv hy
 |tup cs l hl _ ih=>simp only[SV.Zy,Qjk];refine .tup cs _ (by simpa using hl) fun i v x hv hx=>?_;simp only[List.getElem?_map,Option.map_eq_some_iff]at hx;obtain⟨y,hy,rfl⟩:=hx;exact ih i v y hv hy
 |ptr s sz i j k p hp hk=>
  simp only[SV.Zy];split
  ·rename_i t ht;exact .ptr t sz i j k p (hf s t p ht hp) hk
  ·exact .any _
 |sl s sz st n c k p hp hk hc hn h6=>
  simp only[SV.Zy];split
  ·rename_i t ht;exact .sl t sz st n c k p (hf s t p ht hp) hk hc hn h6
  ·exact .any _
 |slz s sz st a=>
  simp only[SV.Zy];split
  ·exact .slz _ sz st a
  ·exact .any _
 |mp s p hp=>
  simp only[SV.Zy];split
  ·rename_i t ht;exact .mp t p (hf s t p ht hp)
  ·exact .any _
 |yld s p hp=>
  simp only[SV.Zy];split
  ·rename_i t ht;exact .yld t p (hf s t p ht hp)
  ·exact .any _
 |slb s sz st n m _ hm ih=>
  simp only[SV.Zy]at ih⊢;cases e:f s with
  |some t=>rw[e]at ih;exact .slb t sz st n m ih hm
  |none=>exact .any _
 |fn g a b x y ha hb _ _ ih jh=>
  simp only[SV.Zy,Qjk];refine .fn g a b _ _ (by simpa using ha) (by simpa using hb) (fun i v s hv hs=>?_) (fun i v s hv hs=>?_)
  ·simp only[List.getElem?_map,Option.map_eq_some_iff]at hs;obtain⟨y,hy,rfl⟩:=hs;exact ih i v y hv hy
  ·simp only[List.getElem?_map,Option.map_eq_some_iff]at hs;obtain⟨y,hy,rfl⟩:=hs;exact jh i v y hv hy
def Qa.Zy(f:Nat→Option Nat):Qa→Qa
 |.mix ty sz rows=>.mix ty sz (rows.map (·.map (SV.Zy f)))
 |.tlnk ty row l r c x=>.tlnk ty row l r c (x.Zy f)
 |.nest ty ity row ll q=>.nest ty ity row ll (q.map fun x=>(x.1,x.2.Zy f))
 |.map es c=>.map (es.map fun e=>(e.1,e.2.1.Zy f,e.2.2)) c
 |.loop l=>.loop {l with T:=l.T.map (SV.Zy f)}
 |.mit m c s=>.mit (m.bind f) c s
 |o=>o
theorem Qd2(f:Nat→Option Nat)(o:Qa):(o.Zy f).live=o.live:=by cases o<;>rfl
theorem Qe.Yap(f:Nat→Option Nat):∀(a:Qe) (x:a.El),(a.raw x).Zy f=a.raw x
 |.val t,x=>rfl
 |.agg row,x=>by
  have:∀l:List PV,W8 f (l.map .pv)=l.map .pv:=fun l=>by
   induction l with
   |nil=>rfl
   |cons x l ih=>simp only[List.map_cons,W8,SV.Zy,ih]
  simp only[Qe.raw,SV.Zy,this]
theorem Qt.Zy{M M':Qc}{ρ ρ':Env}{w w':World}{s t:Nat}{f:Nat→Option Nat}{o:Qa}(hM:M.le M')(hf:∀s t p,f s=some t→ρ s=some p→ρ' t=some p)(hs:ρ' t=ρ s)
  (hw:∀p b,ρ s=some p→p.has b→w'.heap[b]? =w.heap[b]?) (h:Qt M ρ w s o):Qt M' ρ' w' t (o.Zy f):=by
 have hws:=hw;replace hw:∀p,ρ s=some p→w'.heap[p.block]? =w.heap[p.block]? :=fun p hp=>hws p _ hp p.self;cases o with
 |dead=>trivial
 |vec ty sz rows=>
  rcases h with⟨h1,h2⟩|⟨p,h1,h2⟩
  ·exact .inl ⟨hs.trans h1,h2⟩
  ·refine .inr ⟨p,hs.trans h1,?_⟩;obtain⟨cs,a1,a2,a3,a4,a5,a6⟩:=h2.ex;refine⟨cs,(hw p h1).trans a1,a2,a3,a4,fun i j x v hx hv=>?_,a6⟩;obtain⟨b1,b2,b3⟩:=a5 i j x v hx hv;refine⟨b1,b2,?_⟩;unfold Z1 at hx;simp only[Option.map_eq_some_iff]at hx;obtain⟨q,_,rfl⟩:=hx;cases b3 with
   |pv b3=>exact .pv (b3.mono hM)
 |tvec ty row l=>
  rcases h with⟨h1,h2⟩|⟨p,h1,h2⟩
  ·exact .inl ⟨hs.trans h1,h2⟩
  ·refine .inr ⟨p,hs.trans h1,?_⟩;obtain⟨cs,a1,a2,a3,a4,a5,a6⟩:=h2.ex;refine⟨cs,(hw p h1).trans a1,a2,a3,a4,fun i j x v hx hv=>?_,a6⟩;obtain⟨b1,b2,b3⟩:=a5 i j x v hx hv;refine⟨b1,b2,?_⟩;unfold Z1 at hx;simp only[Option.map_eq_some_iff]at hx;obtain⟨q,_,rfl⟩:=hx;cases b3 with
   |pv b3=>exact .pv (b3.mono hM)
 |mix ty sz rows=>
  rcases h with⟨h1,h2⟩|⟨p,h1,h2⟩
  ·exact .inl ⟨hs.trans h1,by simp[h2]⟩
  ·refine .inr ⟨p,hs.trans h1,?_⟩;obtain⟨cs,a1,a2,a3,a4,a5,a6⟩:=h2.ex;have key:∀i j x,Yq (rows.map (·.map (SV.Zy f))) i j=some x→∃y,Yq rows i j=some y∧x=y.Zy f:=fun i j x hx=>by unfold Yq at hx;simp only[List.getElem?_map,Option.bind_eq_some_iff,Option.map_eq_some_iff]at hx;obtain⟨r',⟨r,hr,rfl⟩,hx⟩:=hx;simp only[List.getElem?_map,Option.map_eq_some_iff]at hx;obtain⟨y,hy,rfl⟩:=hx;exact⟨y,by simp[Yq,hr,hy],rfl⟩
   refine⟨cs,(hw p h1).trans a1,a2,by simpa using a3,by simpa using a4,fun i j x v hx hv=>?_,fun i j x hx=>?_⟩
   ·obtain⟨y,hy,rfl⟩:=key i j x hx;obtain⟨b1,b2,b3⟩:=a5 i j y v hy hv;exact⟨by simpa using b1,b2,b3.Zy hM hf⟩
   ·obtain⟨y,hy,rfl⟩:=key i j x hx;simpa using a6 i j y hy
 |tlnk ty row l r c x=>
  rcases h with⟨h1,h2⟩|⟨p,h1,h2⟩
  ·exact .inl ⟨hs.trans h1,h2⟩
  ·refine .inr ⟨p,hs.trans h1,?_⟩;obtain⟨cs,a1,a2,a3,a4,a5,a6⟩:=h2.ex;refine⟨cs,(hw p h1).trans a1,a2,a3,a4,fun i j z v hz hv=>?_,fun i j z hz=>?_⟩
   ·obtain⟨y,hy,rfl,_⟩:=Qly (f:=SV.Zy f) (fun _=>rfl) hz;obtain⟨b1,b2,b3⟩:=a5 i j y v hy hv;exact⟨b1,b2,b3.Zy hM hf⟩
   ·obtain⟨y,hy,_⟩:=Qly (f:=SV.Zy f) (fun _=>rfl) hz;exact a6 i j y hy
 |nest ty ity row ll q=>
  rcases h with⟨h1,h2,h3⟩|⟨p,h1,h2⟩
  ·subst h3;exact .inl ⟨hs.trans h1,h2,rfl⟩
  refine .inr ⟨p,hs.trans h1,h2.goes hM rfl rfl rfl (fun b hb=>hws p b h1 hb) (by cases q<;>rfl) fun i x y v e1 e2 hr=>?_⟩;rw[e1]at e2;simp only[Option.map_some,Option.some.injEq,Prod.mk.injEq,true_and]at e2;subst e2;exact hr.Zy hM hf
 |map es clock=>obtain⟨p,arr,h1,h2,h3,h4⟩:=h;refine⟨p,arr,hs.trans h1,(hw p h1).trans h2,by simpa using h3,fun i k x b hi=>?_⟩;simp only[List.getElem?_map,Option.map_eq_some_iff]at hi;obtain⟨⟨k',x',b'⟩,he,hq⟩:=hi;simp only[Prod.mk.injEq]at hq;obtain⟨rfl,rfl,rfl⟩:=hq;obtain⟨e,c1,c2,c3,c4⟩:=h4 i k' x' b' he;exact⟨e,c1,c2,c3,c4.Zy hM hf⟩
 |tmap k v l=>obtain⟨p,arr,h1,h2,h3,h4⟩:=h;refine⟨p,arr,hs.trans h1,(hw p h1).trans h2,h3,fun i kk x b hi=>?_⟩;obtain⟨e,c1,c2,c3,c4⟩:=h4 i kk x b hi;refine⟨e,c1,c2,c3,?_⟩;have:=c4.Zy hM hf;rw[Vp]at hi;simp only[Option.map_eq_some_iff,Prod.mk.injEq]at hi;obtain⟨y,_,_,rfl,_⟩:=hi;rwa[Qe.Yap]at this
 |iter str pos=>obtain⟨p,h1,h2⟩:=h;exact⟨p,hs.trans h1,(hw p h1).trans h2⟩
 |loop l=>obtain⟨p,fn,tmps,q,h1,h2,h3,h4⟩:=h;refine⟨p,fn,tmps,q,hs.trans h1,(hw p h1).trans h2,h3,fun t x hx=>?_⟩;rw[TT.get_map,Option.map_eq_some_iff]at hx;obtain⟨y,hy,rfl⟩:=hx;exact(h4 t y hy).Zy hM hf
 |mit m c sn=>
  obtain⟨p,q,sn,h1,h2,h3,h4⟩:=h;refine⟨p,q,sn,hs.trans h1,(hw p h1).trans h2,h3,fun mm e=>?_⟩;cases m with
  |none=>cases e
  |some x=>have e:f x=some mm:=e;obtain⟨pm,a,b⟩:=h4 x rfl;exact⟨pm,hf x mm pm e a,b⟩
 |over st pd=>obtain⟨p,r,h1,h2,h3⟩:=h;exact⟨p,r,hs.trans h1,(hw p h1).trans h2,h3⟩
 |dfr shut=>obtain⟨p,h1,h2⟩:=h;exact⟨p,hs.trans h1,(hw p h1).trans h2⟩
end Go.Sx
end
section
namespace Go.Sx
open Go
theorem Qd.sim{M M':Qc}{ρ ρ':Env}(hM:M.le M')(hρ:Env.Qeu [] ρ ρ'){v:Value}{x:SV}(h:Qd M ρ v x):Qd M' ρ' v x:=by have:=h.Vv hM hρ;rwa[SV.W4]at this
theorem Qt.sim{M M':Qc}{ρ ρ':Env}{w:World}{s:Nat}{o:Qa}(hM:M.le M')(hρ:Env.Qeu [] ρ ρ')(hs:ρ' s=ρ s)(h:Qt M ρ w s o):Qt M' ρ' w s o:=by have:=h.Vv hM hρ hs (fun _ _ _ _=>rfl);rwa[Qa.W4]at this
theorem J5.pure{M M':Qc}{ρ ρ':Env}{w:World}{p:Place}{ty sz n:Nat}{rows:List (List PV)}{subs:List Nat}(hM:M.le M')(h:J5 M ρ w p ty sz n (Z1 rows)):J5 M' ρ' w ⟨p.block,p.cap,subs⟩ ty sz n (Z1 rows):=by
 obtain⟨cs,a1,a2,a3,a4,a5,a6⟩:=h.ex;refine⟨cs,a1,a2,a3,a4,fun i j x v hx hv=>?_,a6⟩;obtain⟨b1,b2,b3⟩:=a5 i j x v hx hv;refine⟨b1,b2,?_⟩;unfold Z1 at hx;simp only[Option.map_eq_some_iff]at hx;obtain⟨q,_,rfl⟩:=hx;cases b3 with
 |pv b3=>exact .pv (b3.mono hM)
theorem Mem.re{M:Qc}{ρ ρ':Env}{H H':List Qa}{w:World}(hm:Mem M ρ H w)(hown:∀s o,H'[s]? =some o→Qt M ρ' w s o)
  (hsrc:∀s o p b,H'[s]? =some o→o.live=true→ρ' s=some p→p.has b→∃s0 o0 p0,H[s0]? =some o0∧o0.live=true∧ρ s0=some p0∧p0.has b)
  (hdis:∀s s' o o' p p' b,H'[s]? =some o→H'[s']? =some o'→o.live=true→o'.live=true→ρ' s=some p→ρ' s'=some p'→p.has b→p'.has b→s=s')
  (hfresh:∀s,H'.length≤s→ρ' s=none):Mem M ρ' H' w:=
 ⟨hm.imm,hown,fun s o p b h1 h2 h3 h4=>let⟨s0,o0,p0,a,b',c,d⟩:=hsrc s o p b h1 h2 h3 h4;hm.seps s0 o0 p0 b a b' c d,hdis,hfresh,
  fun s o p b h1 h2 h3 h4=>let⟨s0,o0,p0,a,b',c,d⟩:=hsrc s o p b h1 h2 h3 (.inr h4);hm.Xr a b' c d⟩
theorem Fr.re{M:Qc}{ρ ρ':Env}{H H':List Qa}{w:World}{n:Nat}{t f:List Nat}
  (hsrc:∀s o p b,H'[s]? =some o→o.live=true→ρ' s=some p→p.has b→∃s0 o0 p0,H[s0]? =some o0∧o0.live=true∧ρ s0=some p0∧p0.has b)
  (hk:∀s o,s<n→s∉t→H[s]? =some o→o.live=true→(∃o',H'[s]? =some o'∧o'.live=true)∧ρ' s=ρ s) (hs:∀s,s<n→s∉f→ρ' s=ρ s):Fr M ρ H w M ρ' H' w n t f:=
 ⟨M.le_refl,fun b o h h'=>by(rw[h]at h';cases h'),fun b ⟨s,o,p,h1,h2,h3,h4⟩=>.inr (hsrc s o p b h1 h2 h3 h4),fun _ _ _=>rfl,Nat.le_refl _,
  fun s o h1 h2 h3 h4=>⟨(hk s o h1 h2 h3 h4).1,fun p hp=>⟨by rw[(hk s o h1 h2 h3 h4).2];exact hp,fun _ _=>rfl⟩⟩,hs,rfl,rfl⟩
theorem Qfi.sim{ρ ρ':Env}{marks:List Nat}{ds:List Deferred}(hρ:Env.Qeu [] ρ ρ')(h:Qfi ρ marks ds):Qfi ρ' marks ds:=
 ⟨h.1,fun i d s hd hs=>let⟨p,h1,h2⟩:=h.2 i d s hd hs;let⟨p',g1,g2,_⟩:=hρ s p rfl h1;⟨p',g1,by rw[g2];exact h2⟩⟩
open Classical in
def TI.Yar(b:Bool)(i:TI):TI:={i with row:=match b with
 |true=>none
 |false=>i.row}
def Cx.raw(e:Nat)(cx:Cx):Cx:={P:=cx.P,tab:=cx.tab.map fun x=>(x.1,x.2.Yar (Nat.beq x.1 e)),fns:=cx.fns}
def Qmm(slot:Nat)(s:St):Option St:=match s.T.get slot with
 |some (.sl d sz st n)=>some {s with T:=s.T.set slot (.slb d sz st n n)}
 |_=>none
def Qjs(slot:Nat)(s:St):Option St:=match s.T.get slot with
 |some (.slb d sz st n _)=>some {s with T:=s.T.set slot (.sl d sz st n)}
 |_=>none
theorem Qyu{R:Option Nat}{P:Program}{nt:Nat}{c:Code}{Q:Exit→St→Prop}{s:St}{slot:Nat}{x y:SV}(hx:s.T.get slot=some x)(hi:∀M ρ v,Qd M ρ v x→Qd M ρ v y)(h:Za R P nt c Q {s with T:=s.T.set slot y}):Za R P nt c Q s:=by
 refine Za.Qet (s':={s with T:=s.T.set slot y}) (fun B M ρ a w hg=>⟨ρ,⟨fun t z hz=>?_,hg.sz,hg.mem,hg.df,hg.mks,hg.nle,hg.fix⟩,⟨Fr.refl ..,rfl,fun _ h=>h,fun _ h=>h⟩⟩) h;rcases TT.Wg _ _ _ _ _ hz with⟨rfl,rfl⟩|⟨_,hz⟩
 ·exact hi _ _ _ (hg.tm _ _ hx)
 ·exact hg.tm t z hz
theorem Zyx{R:Option Nat}{P:Program}{nt:Nat}{c:Code}{Q:Exit→St→Prop}{s s':St}{slot:Nat}(hs:Qmm slot s=some s')(h:Za R P nt c Q s'):Za R P nt c Q s:=by
 unfold Qmm at hs;split at hs
 ·rename_i d sz st n hx;cases hs;refine Qyu hx (fun M ρ v hr=>?_) h;refine .slb _ _ _ _ _ hr ?_;cases hr with
  |sl _ _ _ _ c k p hp hk hc hn h6=>exact⟨_,_,_,rfl,hn⟩
  |slz=>exact⟨_,_,_,rfl,Nat.le_refl _⟩
 ·cases hs
theorem Zmn{R:Option Nat}{P:Program}{nt:Nat}{c:Code}{Q:Exit→St→Prop}{s s':St}{slot:Nat}(hs:Qjs slot s=some s')(h:Za R P nt c Q s'):Za R P nt c Q s:=by
 unfold Qjs at hs;split at hs
 ·rename_i d sz st n m hx;cases hs;exact Qyu hx (fun M ρ v hr=>hr.unslb) h
 ·cases hs
end Go.Sx
end
namespace Go.Sx
open Go
theorem set_self{α:Type}{r:List α}{j:Nat}{z:α}(h:r[j]? =some z):r.set j z=r:=by
 apply List.ext_getElem?;intro i;rw[List.getElem?_set];split
 ·rename_i e;subst e;rw[h,if_pos (List.getElem?_eq_some_iff.1 h).1]
 ·rfl
end Go.Sx
section
namespace Go.Sx
open Go
inductive Q6 where
 |leaf
 |one (a:Q6)
 |two (a b:Q6)
 |loop (τ:Qi) (l:Yv) (f:Yj) (F:Nat) (a:Q6)
 |join (l:Yv) (f:Yj) (a:Q6)
 |virt (slot ty:Nat) (row:List Ty) (a:Q6)
 |sealing (k ty:Nat) (row:List Ty) (a:Q6)
 |within (l:List (Nat×Q6))
 |virtF (ob col ty:Nat) (row:List Ty) (a:Q6)
 |trunc (slot:Nat) (a:Q6)
 |weak (k:Nat) (keep:List Nat) (a:Q6)
 |typ (k ty:Nat) (row:List Ty) (a:Q6)
 |phase (τ:Qi) (l:Yv) (f:Yj) (F:Nat) (a b:Q6)
 |low
 |slb (slot:Nat) (a:Q6)
 |unslb (slot:Nat) (a:Q6)
def Q6.fst:Q6→Q6
 |.one a=>a
 |.two a _=>a
 |_=>.leaf
def Q6.snd:Q6→Q6
 |.two _ b=>b
 |_=>.leaf
structure Sm where
 pre:List SV→List Qa→Bool
 run:(X:Type)→List SV→List Qa→KO X→Option X
structure Qa3 (cx:Cx) (g:Nat) (sm:Sm):Prop where
 fn:∃fn,cx.fns.lookup g=some fn
 ok:∀(X:Type) (args:List SV) (H:List Qa) (k:KO X) (y:X),sm.run X args H k=some y→Yt cx.P g args H fun x H' t f=>k x H' t f=some y
structure Lx where
 ext:List (Nat×Sm)
 anns:List (Nat×Q6)
 still:List Nat
 unk:Option (Nat→Sm):=none
def Sm.first:List (Nat×Sm)→Nat→(X:Type)→List SV→List Qa→KO X→Option X
 |[],_,_,_,_,_=>none
 |q::l,g,X,args,H,k=>match Nat.beq q.1 g with
  |false=>Sm.first l g X args H k
  |true=>match q.2.pre args H with
   |true=>q.2.run X args H k
   |false=>Sm.first l g X args H k
def Lx.has(l:List (Nat×Sm))(g:Nat)(args:List SV)(H:List Qa):Bool:=l.any fun q=>match Nat.beq q.1 g with
 |true=>q.2.pre args H
 |false=>false
structure Lx.Ok (cx:Cx) (lx:Lx):Prop where
 ext:∀q∈lx.ext,Qa3 cx q.1 q.2
 unk:lx.unk=none
theorem Sm.Qm7{cx:Cx}:∀{l:List (Nat×Sm)} (_:∀q∈l,Qa3 cx q.1 q.2) {g:Nat} {X:Type} {args:List SV} {H:List Qa} {k:KO X} {y:X},Sm.first l g X args H k=some y→(∃fn,cx.fns.lookup g=some fn)∧Yt cx.P g args H fun x H' t f=>k x H' t f=some y
 |[],_,g,X,args,H,k,y,h=>by cases h
 |q::l,hl,g,X,args,H,k,y,h=>by
  simp only[Sm.first]at h;split at h
  ·exact Sm.Qm7 (fun q hq=>hl q (List.mem_cons_of_mem _ hq)) h
  ·rename_i e;have e:=Nat.eq_of_beq_eq_true e;subst e;split at h
   ·have:=hl q List.mem_cons_self;exact⟨this.fn,this.ok X args H k y h⟩
   ·exact Sm.Qm7 (fun q hq=>hl q (List.mem_cons_of_mem _ hq)) h
abbrev Xq:=(X:Type)→(X→X→Bool)→Q6→Bool→Nat→Code→St→KX X→Option X
def Vy(cx:Cx)(rec:Xq):Prop:=∀(X:Type) (eq:X→X→Bool) (_:Yb eq) R an top nt c s (k:KX X) (y:X),(top=true→R=none)→rec X eq an top nt c s k=some y→Za R cx.P nt c (fun e s'=>k e s'=some y) s
section
variable {X:Type}
def Qo5(z:Bool)(H:List Qa)(r:SV)(H':List Qa)(t g:List Nat)(k:KO X):Option X:=
 match g.isEmpty&&(Nat.ble H.length H'.length&&((z||r.free H.length)&&Qjx H.length H' t))with
 |true=>match Qga H' H.length 1000 r with
  |some r'=>k r' (Ki t H H') t []
  |none=>k r H' t g
 |false=>k r H' t g
theorem Zx7{z:Bool}{H:List Qa}{r:SV}{H':List Qa}{t g:List Nat}{k:KO X}{y:X}(h:Qo5 z H r H' t g k=some y):Left H (fun x H' t f=>k x H' t f=some y) r H' t g:=by
 unfold Qo5 at h;split at h
 ·rename_i e;simp only[Bool.and_eq_true,List.isEmpty_iff]at e;split at h
  ·rename_i r' hr';exact .inl ⟨e.1,Nat.le_of_ble_eq_true e.2.1,fun s hs o ho _=>Zb8 e.2.2.2 s hs o ho,r',1000,hr',h⟩
  ·exact .inr h
 ·exact .inr h
def Qag(cx:Cx)(s:St):List ResultVar→(List SV→Option X)→Option X
 |[],k=>k []
 |.tmp t::rs,k=>Qag cx s rs fun l=>k (s.ev (.tmp t)::l)
 |.cell a t::rs,k=>(Qac cx.tab s.H t (s.ev (.tmp a))).Wh (fun _ _=>false) (fun x=>Qag cx s rs fun l=>k (x::l)) fun x _ _ _=>Qag cx s rs fun l=>k (x::l)
theorem Qbv{cx:Cx}{s:St}{y:X}:∀(rs:List ResultVar) (k:List SV→Option X),Qag cx s rs k=some y→Vj cx s rs fun l=>k l=some y
 |[],k,h=>h
 |.tmp t::rs,k,h=>Qbv rs _ h
 |.cell a t::rs,k,h=>Qj.Qat (fun _ _ h=>by cases h) (fun x h=>Qbv rs _ h) (fun x _ _ _ h=>Qbv rs _ h) h
def Qg5:Exit→Bool
 |.normal=>true
 |.ret=>true
 |_=>false
theorem Qkd{e:Exit}(h:Qg5 e=true):e=.normal∨e=.ret:=by
 cases e with
 |normal=>exact .inl rfl
 |ret=>exact .inr rfl
 |_=>cases h
def Zb5(cx:Cx)(fn:Func)(z:Bool)(H:List Qa)(k:KO X):KX X:=fun e s=>
 gd (Qg5 e&&(s.marks.isEmpty||Nat.ble H.length s.H.length)) (match shut s.marks s.H with
  |none=>none
  |some H'=>Qag cx {s with H:=H',marks:=[]} fn.results.toList fun l=>Qo5 z H (Yz l) H' s.tch s.fg k)
theorem Zfg{cx:Cx}{fn:Func}{z:Bool}{H:List Qa}{k:KO X}{e:Exit}{s:St}{y:X}(h:Zb5 cx fn z H k e s=some y):
  (e = .normal ∨ e = .ret) ∧ (H.length ≤ s.H.length ∨ s.marks = []) ∧ ∃ H',shut s.marks s.H = some H' ∧ Vj cx { s with H := H',marks := [] } fn.results.toList fun l =>
   Left H (fun x H' t f=>k x H' t f=some y) (Yz l) H' s.tch s.fg:=by
 obtain⟨hc,h⟩:=Z8 h;simp only[Bool.and_eq_true,Bool.or_eq_true,List.isEmpty_iff]at hc;split at h
 ·cases h
 ·rename_i H' hs;exact⟨Qkd hc.1,hc.2.symm.imp (fun h=>Nat.le_of_ble_eq_true h) id,H',hs,Uz _ _ _ (fun l hl=>Zx7 hl) (Qbv _ _ h)⟩
def Qdb(rec:Xq)(eq:X→X→Bool)(ab:Q6)(s:Nat)(args:List SV)(H:List Qa)(k:KO X):Option X:=
 match H[s]? with
 |some (.loop L)=>gd (Nat.beq L.params.toList.length args.length&&L.params.toList.all fun p=>Nat.blt p L.nt) (rec X eq .leaf false L.nt L.assign (Qie L args H) fun e s1=>match e with
  |.normal=>gd (!s1.fg.contains s&&Nat.ble H.length s1.H.length) (match s1.H[s]? with
   |some (.loop L1)=>gd (isReady L1.state&&L1.pending.isNone) (rec X eq ab false L.nt L.body (Kd s L1 s1) fun e s2=>match Qrr e with
    |none=>none
    |some jump=>gd (!s2.fg.contains s&&Nat.ble H.length s2.H.length) (match s2.H[s]? with
     |some (.loop L2)=>k (.lit (.bool jump.isNone)) (Qq2 s L2 jump s2.H) (Qyv s jump s2.tch) s2.fg
     |_=>none))
   |_=>none)
  |_=>none)
 |_=>none
theorem Zar{cx:Cx}{rec:Xq}(hrec:Vy cx rec){eq:X→X→Bool}(he:Yb eq){ab:Q6}{s:Nat}{args:List SV}{H:List Qa}{k:KO X}{y:X}
  (h:Qdb rec eq ab s args H k=some y):U7 cx.P s args H fun x H' t f=>k x H' t f=some y:=by
 unfold Qdb at h;split at h
 ·rename_i L hH;obtain⟨hc,h⟩:=Z8 h;rw[Bool.and_eq_true]at hc;refine Zjy hH (Nat.eq_of_beq_eq_true hc.1) hc.2 fun R=>?_;refine(hrec X eq he R _ false _ _ _ _ y (fun e=>by cases e) h).mono fun e s1 h1=>?_;cases e with
  |normal=>
   obtain⟨hc1,h1⟩:=Z8 h1;rw[Bool.and_eq_true]at hc1;split at h1
   ·rename_i L1 hL1;obtain⟨hc2,h1⟩:=Z8 h1;rw[Bool.and_eq_true]at hc2;refine⟨rfl,Qgh hc1.1,Nat.le_of_ble_eq_true hc1.2,L1,hL1,Zey hc2.1,Option.isNone_iff_eq_none.1 hc2.2,?_⟩;refine(hrec X eq he R _ false _ _ _ _ y (fun e=>by cases e) h1).mono fun e s2 h2=>?_;cases hj:Qrr e with
    |none=>simp only[hj]at h2;cases h2
    |some jump=>
     simp only[hj]at h2;obtain⟨hc3,h2⟩:=Z8 h2;rw[Bool.and_eq_true]at hc3;split at h2
     ·rename_i L2 hL2;exact⟨jump,rfl,Qgh hc3.1,Nat.le_of_ble_eq_true hc3.2,L2,hL2,h2⟩
     ·cases h2
   ·cases h1
  |_=>cases h1
 ·cases h
def Lx.Zc1(lx:Lx)(g n:Nat):Option Q6:=match lx.anns.lookup (g+10000000*(n+1))with
 |some a=>some a
 |none=>lx.anns.lookup g
def Qmk(lx:Lx)(g:Nat)(args:List SV)(H:List Qa)(k:KO X):Option X:=match Y7 args H with
 |(c,as,S,H1)=>gd c (match Lx.has lx.ext g as H1 with
  |true=>Sm.first lx.ext g X as H1 fun x H' t f=>k x H' (S++t) f
  |false=>match lx.unk with
   |some f=>(f g).run X as H1 fun x H' t f=>k x H' (S++t) f
   |none=>none)
theorem Yai{cx:Cx}{lx:Lx}(hlx:lx.Ok cx){g:Nat}{args:List SV}{H:List Qa}{k:KO X}{y:X}(h:Qmk lx g args H k=some y):
  (∃fn,cx.fns.lookup g=some fn)∧Yt cx.P g args H fun x H' t f=>k x H' t f=some y:=by
 unfold Qmk at h;obtain⟨hc,h⟩:=Z8 (c:=(Y7 args H).1) (x:=match Lx.has lx.ext g (Y7 args H).2.1 (Y7 args H).2.2.2 with
  |true=>Sm.first lx.ext g X (Y7 args H).2.1 (Y7 args H).2.2.2 fun x H' t f=>k x H' ((Y7 args H).2.2.1++t) f
  |false=>match lx.unk with
   |some f=>(f g).run X (Y7 args H).2.1 (Y7 args H).2.2.2 fun x H' t f=>k x H' ((Y7 args H).2.2.1++t) f
   |none=>none) h
 split at h
 ·obtain⟨h1,h2⟩:=Sm.Qm7 hlx.ext h;exact⟨h1,Yt.Yal hc h2⟩
 ·rw[hlx.unk]at h;cases h
def Kf(cx:Cx)(lx:Lx)(rec:Xq)(eq:X→X→Bool):Wu X
 |true,s,args,H,k=>match lx.anns.lookup (1000000+s)with
  |some a=>Qdb rec eq a s args H k
  |none=>match lx.unk with
   |some f=>(f (1000000+s)).run X args H k
   |none=>Qdb rec eq .leaf s args H k
 |false,g,args,H,k=>
  match lx.Zc1 g H.length with
  |some a=>walkO a g args H k
  |none=>match lx.anns.lookup (2000000+g)with
   |some _=>Qmk lx g args H k
   |none=>match Lx.has lx.ext g args H with
    |true=>Sm.first lx.ext g X args H k
    |false=>match lx.unk with
     |some f=>(f g).run X args H k
     |none=>walkO .leaf g args H k
where walkO (a:Q6) (g:Nat) (args:List SV) (H:List Qa) (k:KO X):Option X:=match cx.fns.lookup g with
 |none=>none
 |some fn=>match fn.body with
  |none=>none
  |some c=>gd (Nat.ble args.length fn.ntmps) (rec X eq a true fn.ntmps c (.entry args H) (Zb5 cx fn (lx.still.contains g) H k))
theorem Qux{cx:Cx}(hcx:cx.Ok){lx:Lx}{rec:Xq}(hrec:Vy cx rec){eq:X→X→Bool}(he:Yb eq){a:Q6}{g:Nat}{args:List SV}{H:List Qa}{k:KO X}{y:X}(h:Kf.walkO cx lx rec eq a g args H k=some y):
  (∃fn,cx.fns.lookup g=some fn)∧Yt cx.P g args H fun x H' t f=>k x H' t f=some y:=by
 unfold Kf.walkO at h;split at h
 ·cases h
 ·rename_i fn hfn;split at h
  ·cases h
  ·rename_i c hb;obtain⟨hc,h⟩:=Z8 h;refine⟨⟨fn,hfn⟩,?_⟩;exact Yt.leave (Qiy hcx hfn hb (Nat.le_of_ble_eq_true hc) ((hrec X eq he none _ true _ _ _ _ y (fun _=>rfl) h).mono fun e s hs=>Zfg hs))
theorem Qv9{cx:Cx}(hcx:cx.Ok){lx:Lx}(hlx:lx.Ok cx){rec:Xq}(hrec:Vy cx rec){eq:X→X→Bool}(he:Yb eq):Wu.Ok cx (Kf cx lx rec eq):=by
 refine⟨fun g args H k y h=>?_,fun s args H k y h=>?_⟩
 ·have h:(match lx.Zc1 g H.length with
   |some a=>Kf.walkO cx lx rec eq a g args H k
   |none=>match lx.anns.lookup (2000000+g)with
    |some _=>Qmk lx g args H k
    |none=>match Lx.has lx.ext g args H with
     |true=>Sm.first lx.ext g X args H k
     |false=>match lx.unk with
      |some f=>(f g).run X args H k
      |none=>Kf.walkO cx lx rec eq .leaf g args H k)=some y:=h
  split at h
  ·exact Qux hcx hrec he h
  ·split at h
   ·exact Yai hlx h
   split at h
   ·exact Sm.Qm7 hlx.ext h
   ·rw[hlx.unk]at h;exact Qux hcx hrec he h
 ·have h:(match lx.anns.lookup (1000000+s)with
   |some a=>Qdb rec eq a s args H k
   |none=>match lx.unk with
    |some f=>(f (1000000+s)).run X args H k
    |none=>Qdb rec eq .leaf s args H k)=some y:=h
  split at h
  ·exact Zar hrec he h
  ·rw[hlx.unk]at h;exact Zar hrec he h
def Quq(cb:Wu X)(rec:Xq)(eq:X→X→Bool)(nt:Nat)(g:Operand)(ps:Array Tmp)(assign body:Code)(s:St)(k:KX X):Option X:=
 gd (Nat.ble s.n0 s.H.length) (match Qld (s.ev g) (.yld (s.H.length+1))with
 |none=>none
 |some (gf,args)=>cb false gf args (Qku s nt ps assign body) fun r H' t f=>
  gd ((!f.contains s.H.length&& !f.contains (s.H.length+1))&&((s.marks.all fun m=>!f.contains m&&Nat.blt m s.H.length)&&Nat.ble s.n0 H'.length)) (match loopAt H'[s.H.length+1]? with
  |some (st,pd)=>gd (Zay st) (match pd with
   |none=>k .normal (Vz s none H' t f)
   |some c=>rec X eq .leaf true nt c (Vz s (some c) H' t f) k)
  |none=>none))
theorem Zla{cx:Cx}(hcx:cx.Ok){cb:Wu X}(hcb:cb.Ok cx){rec:Xq}(hrec:Vy cx rec){eq:X→X→Bool}(he:Yb eq){nt:Nat}{g:Operand}{ps:Array Tmp}{assign body:Code}{s:St}{k:KX X}{y:X}
  (h:Quq cb rec eq nt g ps assign body s k=some y):Za none cx.P nt (.rangeFunc g ps assign body) (fun e s'=>k e s'=some y) s:=by
 obtain⟨hn,h⟩:=Z8 h;cases ht:Qld (s.ev g) (.yld (s.H.length+1))with
 |none=>simp only[ht]at h;cases h
 |some q=>
  obtain⟨gf,args⟩:=q;simp only[ht]at h;obtain⟨⟨fn,hfn⟩,h⟩:=hcb.ok _ _ _ _ _ h;refine Zes hcx (Nat.le_of_ble_eq_true hn) ht hfn (h.mono fun r H' t f h=>?_);obtain⟨hc,h⟩:=Z8 h;simp only[Bool.and_eq_true]at hc;obtain⟨⟨h1,h2⟩,h3,h4⟩:=hc;split at h
  ·rename_i st pd hL;obtain⟨hc5,h⟩:=Z8 h;refine⟨Qgh h1,Qgh h2,fun m hm=>?_,Nat.le_of_ble_eq_true h4,st,pd,hL,Zdq hc5,?_⟩
   ·have:=List.all_eq_true.1 h3 m hm;simp only[Bool.and_eq_true]at this;exact⟨Qgh this.1,Uj this.2⟩
   ·split at h
    ·exact h
    ·exact hrec X eq he none _ true _ _ _ _ y (fun _=>rfl) h
  ·cases h
def Qt5(rec:Xq)(l:Yv)(f:Yj)(an:Q6)(top:Bool)(nt:Nat)(c:Code)(s:St)(k:KX X):Option X:=
 gd (s.marks.isEmpty&&(f.ok&&V8 f l)) (match rec (Zl l) (Zl.eqv l) an top nt c s.sub (fun e s'=>Ww f s.H.length l e s')with
  |some x=>Qfy f s l x fun e s1=>k e (s.outer s1)
  |none=>none)
theorem Zph{cx:Cx}{rec:Xq}(hrec:Vy cx rec){l:Yv}{f:Yj}{an:Q6}{R:Option Nat}{top:Bool}{nt:Nat}{c:Code}{s:St}{k:KX X}{y:X}(ht:top=true→R=none)
  (h:Qt5 rec l f an top nt c s k=some y):Za R cx.P nt c (fun e s'=>k e s'=some y) s:=by
 obtain⟨hc,h⟩:=Z8 h;simp only[Bool.and_eq_true,List.isEmpty_iff]at hc;split at h
 ·rename_i x hx;rw[Qfd]at h;exact Zhp hc.1 hc.2.1 hc.2.2 (hrec _ _ (Zl.eqv_ok l) R _ top _ _ _ _ x ht hx) h
 ·cases h
def Qda:Exit→Bool
 |.normal=>true
 |_=>false
def Qiq(rec:Xq)(τ:Qi)(l:Yv)(f:Yj)(F:Nat)(an:Q6)(top:Bool)(nt:Nat)(c:Code)(s:St)(k:KX X):Option X:=
 gd (s.marks.isEmpty&&(f.ok&&(V8 f l&&(τ.Jw (f.of τ)&&l.all fun a=>!Qda a.1)))) (match Wa τ f s.H.length s.sub with
  |some x0=>match Qq (fun x=>rec (τ.El ⊕ Zl l) (Qco (Zz.eqv τ.cells) (Zl.eqv l)) an top nt c (τ.st f.D (f.of τ) f.mv s x) (Qg3 f s.H.length τ l)) F x0 with
   |some y=>Qfy f s l y fun e s1=>k e (s.outer s1)
   |none=>none
  |none=>none)
def Qpj(rec:Xq)(top:Bool)(nt:Nat)(c:Code):Q6→St→KX X→Option X
 |.loop τ l f F a,s,k=>Qiq rec τ l f F a top nt c s k
 |.phase τ l f F a b,s,k=>gd (s.marks.isEmpty&&(f.ok&&(V8 f l&&τ.Jw (f.of τ)))) (match Wa τ f s.H.length s.sub with
  |some x0=>match Qq (fun x=>rec (τ.El ⊕ Zl l) (Qco (Zz.eqv τ.cells) (Zl.eqv l)) a top nt c (τ.st f.D (f.of τ) f.mv s x) (Qoe f s.H.length τ l)) F x0 with
   |some y=>Qfy f s l y fun e s1=>match Qda e with
    |true=>Qpj rec top nt c b (s.outer s1) k
    |false=>k e (s.outer s1)
   |none=>none
  |none=>none)
 |_,_,_=>none
theorem Qqr{f:Yj}{s:St}:∀{l:Yv} (x:Zl l),(l.all fun a=>!Qda a.1)=true→(Xf f s l x).1≠.normal
 |[],x,_=>Empty.elim x
 |[a],x,h=>by simp only[List.all_cons,List.all_nil,Bool.and_true,Bool.not_eq_true']at h;intro e;simp only[Xf]at e;rw[e]at h;cases h
 |a::a'::l,.inl x,h=>by simp only[List.all_cons,Bool.and_eq_true,Bool.not_eq_true']at h;intro e;simp only[Xf]at e;rw[e]at h;cases h.1
 |a::a'::l,.inr x,h=>by
  have h':((a'::l).all fun a=>!Qda a.1)=true:=by simp only[List.all_cons,Bool.and_eq_true]at h⊢;exact h.2
  simp only[Xf];exact Qqr x h'
theorem Zti{cx:Cx}{rec:Xq}(hrec:Vy cx rec){τ:Qi}{l:Yv}{f:Yj}{F:Nat}{an:Q6}{R:Option Nat}{top:Bool}{nt:Nat}{c:Code}{s:St}{k:KX X}{y:X}(ht:top=true→R=none)
  (h:Qiq rec τ l f F an top nt c s k=some y):Za R cx.P nt (.loop c) (fun e s'=>k e s'=some y) s:=by
 obtain⟨hc,h⟩:=Z8 h;simp only[Bool.and_eq_true,List.isEmpty_iff]at hc;obtain⟨c1,c2,c3,c4,c5⟩:=hc;split at h
 ·rename_i x0 hx0;split at h
  ·rename_i z hz;rw[Qfd]at h;exact Zh6 c1 c2 c3 c4 (fun x r hr=>hrec _ _ (Qjn (Zz.eqv_ok _) (Zl.eqv_ok _)) R _ top _ _ _ _ r ht hr) hx0 hz (Qqr z c5) h
  ·cases h
 ·cases h
theorem Zf1{cx:Cx}{rec:Xq}(hrec:Vy cx rec){τ:Qi}{l:Yv}{f:Yj}{F:Nat}{an:Q6}{R:Option Nat}{top:Bool}{nt:Nat}{c:Code}{s:St}{k:KX X}{y:X}(ht:top=true→R=none)
  (h:Qiq rec τ l f F an top nt c s k=some y):Qdm R cx.P nt c (fun e s'=>k e s'=some y) s:=by
 obtain⟨hc,h⟩:=Z8 h;simp only[Bool.and_eq_true,List.isEmpty_iff]at hc;obtain⟨c1,c2,c3,c4,c5⟩:=hc;split at h
 ·rename_i x0 hx0;split at h
  ·rename_i z hz;rw[Qfd]at h;exact Zaj (fun e s' r h=>Zoe h) c1 c2 c3 c4 (fun x r hr=>hrec _ _ (Qjn (Zz.eqv_ok _) (Zl.eqv_ok _)) R _ top _ _ _ _ r ht hr) hx0 hz (fun hn=>absurd hn (Qqr z c5)) (fun _=>h)
  ·cases h
 ·cases h
theorem Zpd{e:Exit}(h:Qda e=true):e=.normal:=by cases e<;>first|rfl|cases h
theorem Qwe{cx:Cx}{rec:Xq}(hrec:Vy cx rec){R:Option Nat}{top:Bool}{nt:Nat}{c:Code}{k:KX X}{y:X}(ht:top=true→R=none):∀(an:Q6) (s:St),Qpj rec top nt c an s k=some y→Qdm R cx.P nt c (fun e s'=>k e s'=some y) s
 |.loop τ l f F a,s,h=>Zf1 hrec ht h
 |.phase τ l f F a b,s,h=>by
  obtain⟨hc,h⟩:=Z8 h;simp only[Bool.and_eq_true,List.isEmpty_iff]at hc;obtain⟨c1,c2,c3,c4⟩:=hc;split at h
  ·rename_i x0 hx0;split at h
   ·rename_i z hz;rw[Qfd]at h;refine Zaj (fun e s' r h=>Zyv h) c1 c2 c3 c4 (fun x r hr=>hrec _ _ (Qjn (Zz.eqv_ok _) (Zl.eqv_ok _)) R _ top _ _ _ _ r ht hr) hx0 hz (fun hn=>?_) (fun hn=>?_)
    ·rw[hn]at h;exact Qwe hrec ht b _ h
    ·cases he:Qda (Xf f s l z).1 with
     |true=>exact absurd (Zpd he) hn
     |false=>rw[he]at h;exact h
   ·cases h
  ·cases h
 |.leaf,_,h=>by cases h
 |.one _,_,h=>by cases h
 |.two _ _,_,h=>by cases h
 |.join _ _ _,_,h=>by cases h
 |.virt _ _ _ _,_,h=>by cases h
 |.sealing _ _ _ _,_,h=>by cases h
 |.within _,_,h=>by cases h
 |.virtF _ _ _ _ _,_,h=>by cases h
 |.trunc _ _,_,h=>by cases h
 |.weak _ _ _,_,h=>by cases h
 |.typ _ _ _ _,_,h=>by cases h
 |.slb _ _,_,h=>by cases h
 |.unslb _ _,_,h=>by cases h
end
def Qdn(cx:Cx)(lx:Lx)(rec:Xq)(X:Type)(eq:X→X→Bool)(an:Q6)(top:Bool)(nt:Nat):Code→St→KX X→Option X
 |.skip,s,k=>k .normal s
 |.region _ ops draw,s,k=>match draw with
  |false=>Qcb eq cx (Kf cx lx rec eq) nt ops ops.toList s (k .normal)
  |true=>gd (Region.noSelect ops) (Xo eq cx (Kf cx lx rec eq) nt ops (Wm true ops ops.size (Array.replicate ops.size false)) [] s (k .normal))
 |.seq a b,s,k=>rec X eq an.fst top nt a s fun e s'=>match e with
  |.normal=>rec X eq an.snd top nt b s' k
  |e=>k e s'
 |.cond c a b,s,k=>match s.ev c with
  |.pv (.lit (.bool t))=>match t with
   |true=>rec X eq an.fst top nt a s k
   |false=>rec X eq an.snd top nt b s k
  |_=>none
 |.block id c,s,k=>rec X eq an.fst top nt c s fun e s'=>match e with
  |.exit id'=>bif Nat.beq id' id then k .normal s' else k (.exit id') s'
  |e=>k e s'
 |.loop c,s,k=>rec X eq an.fst top nt c s fun e s'=>match e with
  |.normal=>rec X eq an top nt (.loop c) s' k
  |e=>k e s'
 |.rangeFunc g ps assign body,s,k=>match top with
  |true=>Quq (Kf cx lx rec eq) rec eq nt g ps assign body s k
  |false=>none
 |.scope c,s,k=>match top with
  |true=>rec X eq an.fst true nt c s fun e s'=>match e with
   |.goto _=>none
   |e=>k e s'
  |false=>none
 |.exit id,s,k=>k (.exit id) s
 |.label _,s,k=>k .normal s
 |.ret,s,k=>k .ret s
 |_,_,_=>none
def Lx.more(lx:Lx)(l:List (Nat×Q6)):Lx:=match lx with
 |⟨ext,anns,still,unk⟩=>⟨ext,l++anns,still,unk⟩
theorem Lx.Ok.more{cx:Cx}{lx:Lx}(h:lx.Ok cx)(l:List (Nat×Q6)):(lx.more l).Ok cx:=⟨h.ext,h.unk⟩
def Zth(cx:Cx)(lx:Lx)(rec:Xq):Xq:=fun X eq an top nt c s k=>match an with
 |.join l f a=>Qt5 rec l f a top nt c s k
 |.virt slot ty row a=>match s.T.get slot with
  |some (.pv (.lit v))=>gd (Value.isNil v) (rec X eq a top nt c (Qfe s slot ty row) k)
  |_=>rec X eq a top nt c s k
 |.sealing kk ty row a=>match Qid kk ty row s with
  |some p=>gd p.1 (rec X eq a top nt c p.2 k)
  |none=>none
 |.trunc slot a=>match Qig s slot with
  |some s'=>rec X eq a top nt c s' k
  |none=>rec X eq a top nt c s k
 |.weak kk keep a=>rec X eq a top nt c (Qmq kk keep s) k
 |.typ kk ty row a=>match Qk1 kk ty row s with
  |some s'=>rec X eq a top nt c s' k
  |none=>none
 |.low=>match c with
  |.region _ ops draw=>match draw with
   |false=>Qcb eq cx.Kp (Kf cx.Kp lx rec eq) nt ops ops.toList s (k .normal)
   |true=>gd (Region.noSelect ops) (Xo eq cx.Kp (Kf cx.Kp lx rec eq) nt ops (Wm true ops ops.size (Array.replicate ops.size false)) [] s (k .normal))
  |_=>none
 |.slb slot a=>match Qmm slot s with
  |some s'=>rec X eq a top nt c s' k
  |none=>rec X eq a top nt c s k
 |.unslb slot a=>match Qjs slot s with
  |some s'=>rec X eq a top nt c s' k
  |none=>rec X eq a top nt c s k
 |.virtF ob col ty row a=>match Qjj s ob col ty row with
  |some s'=>rec X eq a top nt c s' k
  |none=>none
 |.within l=>match c with
  |.loop _=>none
  |c=>Qdn cx (lx.more l) rec X eq .leaf top nt c s k
 |.loop τ l f F a=>match c with
  |.loop body=>Qiq rec τ l f F a top nt body s k
  |_=>none
 |.phase τ l f F a b=>match c with
  |.loop body=>Qpj rec top nt body (.phase τ l f F a b) s k
  |_=>none
 |.leaf=>Qdn cx lx rec X eq .leaf top nt c s k
 |.one a=>Qdn cx lx rec X eq (.one a) top nt c s k
 |.two a b=>Qdn cx lx rec X eq (.two a b) top nt c s k
def Y6(cx:Cx)(lx:Lx):Nat→Xq
 |0=>fun _ _ _ _ _ _ _ _=>none
 |n+1=>Zth cx lx (Y6 cx lx n)
def Q6.plain:Q6→Bool
 |.leaf=>true
 |.one _=>true
 |.two _ _=>true
 |_=>false
theorem Ql0{cx:Cx}(hcx:cx.Ok){lx:Lx}(hlx:lx.Ok cx):∀(n:Nat),Vy cx (Y6 cx lx n)∧
  (∀(X:Type) (eq:X→X→Bool) (_:Yb eq) R an top nt c s (k:KX X) (y:X),(top=true→R=none)→Y6 cx lx n X eq an top nt (.loop c) s k=some y→an.plain=true→
   Qft R cx.P nt c (fun e s'=>k e s'=some y) n s)
 |0=>⟨fun X eq he R an top nt c s k y _ h=>(by cases h),fun X eq he R an top nt c s k y _ h=>(by cases h)⟩
 |n+1=>by
  obtain⟨ih1,ih2⟩:=Ql0 hcx hlx n;have loop:∀(X:Type) (eq:X→X→Bool) (_:Yb eq) R an top nt c s (k:KX X) (y:X),(top=true→R=none)→Y6 cx lx (n+1) X eq an top nt (.loop c) s k=some y→an.plain=true→
    Qft R cx.P nt c (fun e s'=>k e s'=some y) (n+1) s:=by
   intro X eq he R an top nt c s k y ht h hp;have h:Qdn cx lx (Y6 cx lx n) X eq an top nt (.loop c) s k=some y:=by
    cases an with
    |leaf=>exact h
    |one a=>exact h
    |two a b=>exact h
    |_=>cases hp
   refine(ih1 X eq he R an.fst top nt c s _ y ht h).mono fun e s' hs=>?_;cases e with
   |normal=>exact⟨n,Nat.le_refl n,ih2 X eq he R an top nt c s' k y ht hs hp⟩
   |_=>exact hs
  refine⟨fun X eq he R an top nt c s k y ht h=>?_,loop⟩;have code:∀(lx':Lx),lx'.Ok cx→(an.plain=true∨∀b,c≠.loop b)→∀an':Q6,(an.plain=true→an'=an∧lx'=lx)→Qdn cx lx' (Y6 cx lx n) X eq an' top nt c s k=some y→Za R cx.P nt c (fun e s'=>k e s'=some y) s:=by
   intro lx' hlx' hp an' han hcode;have hcb:=Qv9 hcx hlx' ih1 he;cases c with
   |skip=>exact Zz2 hcode
   |region id ops draw=>
    cases draw with
    |false=>exact Qv4 hcx (Qe1 he hcb _ _ _ hcode)
    |true=>obtain⟨h1,h2⟩:=Z8 hcode;exact Qvi hcx h1 (U3 he hcb _ _ _ _ h2)
   |seq a b=>
    refine Zfe ((ih1 X eq he R an'.fst top nt a s _ y ht hcode).mono fun e s' hs=>?_);cases e with
    |normal=>exact ih1 X eq he R an'.snd top nt b s' k y ht hs
    |_=>exact hs
   |cond c a b=>
    have hcode:(match s.ev c with
     |.pv (.lit (.bool t))=>match t with
      |true=>Y6 cx lx n X eq an'.fst top nt a s k
      |false=>Y6 cx lx n X eq an'.snd top nt b s k
     |_=>none)=some y:=hcode
    split at hcode
    ·rename_i t e;refine Zvx e (fun hb=>?_) (fun hb=>?_)
     ·subst hb;exact ih1 X eq he R an'.fst top nt a s k y ht hcode
     ·subst hb;exact ih1 X eq he R an'.snd top nt b s k y ht hcode
    ·cases hcode
   |block id c=>
    refine Zkc ((ih1 X eq he R an'.fst top nt c s _ y ht hcode).mono fun e s' hs=>?_);cases e with
    |exit id'=>
     simp only[Qqu];by_cases e:id'=id
     ·rw[if_pos e];simp only[Qax e,cond_true]at hs;exact hs
     ·rw[if_neg e];simp only[Jn e,cond_false]at hs;exact hs
    |_=>exact hs
   |loop c=>
    have hp:an.plain=true:=by
     rcases hp with hp|hp
     ·exact hp
     ·exact absurd rfl (hp c)
    obtain⟨rfl,rfl⟩:=han hp;refine Zk3 (loop X eq he R an' top nt c s k y ht ?_ hp);cases an' with
    |leaf=>exact hcode
    |one a=>exact hcode
    |two a b=>exact hcode
    |_=>cases hp
   |exit id=>exact Zom hcode
   |label l=>exact Zq3 hcode
   |ret=>exact Zj1 hcode
   |rangeFunc g ps assign body=>
    cases top with
    |true=>have hR:=ht rfl;subst hR;exact Zla hcx hcb ih1 he hcode
    |false=>cases hcode
   |scope c=>
    cases top with
    |true=>
     have hR:=ht rfl;subst hR;refine Zkf ((ih1 X eq he none an'.fst true nt c s _ y ht hcode).mono fun e s' hs=>?_);cases e with
     |goto _=>cases hs
     |_=>exact hs
    |false=>cases hcode
   |goto _=>cases hcode
   |refuse _=>cases hcode
  cases an with
  |join l f a=>exact Zph ih1 ht h
  |virt slot ty row a=>
   have h:(match s.T.get slot with
    |some (.pv (.lit v))=>gd (Value.isNil v) (Y6 cx lx n X eq a top nt c (Qfe s slot ty row) k)
    |_=>Y6 cx lx n X eq a top nt c s k)=some y:=h
   split at h
   ·rename_i v hv;obtain⟨h1,h2⟩:=Z8 h;exact Zhf hv h1 (ih1 X eq he R a top nt c _ k y ht h2)
   ·exact ih1 X eq he R a top nt c _ k y ht h
  |trunc slot a=>
   have h:(match Qig s slot with
    |some s'=>Y6 cx lx n X eq a top nt c s' k
    |none=>Y6 cx lx n X eq a top nt c s k)=some y:=h
   split at h
   ·rename_i s' hs';exact Zxy hs' (ih1 X eq he R a top nt c _ k y ht h)
   ·exact ih1 X eq he R a top nt c _ k y ht h
  |weak kk keep a=>exact Zvz (ih1 X eq he R a top nt c _ k y ht h)
  |typ kk ty row a=>
   have h:(match Qk1 kk ty row s with
    |some s'=>Y6 cx lx n X eq a top nt c s' k
    |none=>none)=some y:=h
   split at h
   ·rename_i s' hs';exact Zsv hs' (ih1 X eq he R a top nt c _ k y ht h)
   ·cases h
  |low=>
   cases c with
   |region id ops draw=>
    have hcx':cx.Kp.Ok:=hcx.Kp;have hlx':lx.Ok cx.Kp:=⟨fun q hq=>let h:=hlx.ext q hq;⟨h.fn,h.ok⟩,hlx.unk⟩;have ih1':Vy cx.Kp (Y6 cx lx n):=ih1;have hcb:=Qv9 hcx' hlx' ih1' he;cases draw with
    |false=>exact Qv4 hcx' (Qe1 he hcb _ _ _ h)
    |true=>obtain⟨h1,h2⟩:=Z8 h;exact Qvi hcx' h1 (U3 he hcb _ _ _ _ h2)
   |_=>cases h
  |slb slot a=>
   have h:(match Qmm slot s with
    |some s'=>Y6 cx lx n X eq a top nt c s' k
    |none=>Y6 cx lx n X eq a top nt c s k)=some y:=h
   split at h
   ·rename_i s' hs';exact Zyx hs' (ih1 X eq he R a top nt c _ k y ht h)
   ·exact ih1 X eq he R a top nt c _ k y ht h
  |unslb slot a=>
   have h:(match Qjs slot s with
    |some s'=>Y6 cx lx n X eq a top nt c s' k
    |none=>Y6 cx lx n X eq a top nt c s k)=some y:=h
   split at h
   ·rename_i s' hs';exact Zmn hs' (ih1 X eq he R a top nt c _ k y ht h)
   ·exact ih1 X eq he R a top nt c _ k y ht h
  |sealing kk ty row a=>
   have h:(match Qid kk ty row s with
    |some p=>gd p.1 (Y6 cx lx n X eq a top nt c p.2 k)
    |none=>none)=some y:=h
   split at h
   ·rename_i p hp;obtain⟨h1,h2⟩:=Z8 h;exact Zez (cc:=p.1) (s':=p.2) hp h1 (ih1 X eq he R a top nt c _ k y ht h2)
   ·cases h
  |virtF ob col ty row a=>
   have h:(match Qjj s ob col ty row with
    |some s'=>Y6 cx lx n X eq a top nt c s' k
    |none=>none)=some y:=h
   split at h
   ·rename_i s' hs';exact Zvl hs' (ih1 X eq he R a top nt c _ k y ht h)
   ·cases h
  |within l=>
   cases c with
   |loop b=>cases h
   |_=>exact code (lx.more l) (hlx.more l) (.inr fun b e=>by cases e) .leaf (fun e=>by cases e) h
  |loop τ l f F a=>
   cases c with
   |loop body=>exact Zti ih1 ht h
   |_=>cases h
  |phase τ l f F a b=>
   cases c with
   |loop body=>exact(Qwe ih1 ht _ _ h).wp
   |_=>cases h
  |leaf=>exact code lx hlx (.inl rfl) .leaf (fun _=>⟨rfl,rfl⟩) h
  |one a=>exact code lx hlx (.inl rfl) (.one a) (fun _=>⟨rfl,rfl⟩) h
  |two a b=>exact code lx hlx (.inl rfl) (.two a b) (fun _=>⟨rfl,rfl⟩) h
end Go.Sx
end
namespace Go.Sx
open Go
def Qx:List Qe→Type
 |[]=>Unit
 |[a]=>a.El
 |a::a'::l=>a.El×Qx (a'::l)
def Qx.eqv:(l:List Qe)→Qx l→Qx l→Bool
 |[]=>Qem
 |[a]=>a.eqv
 |a::a'::l=>Ju a.eqv (Qx.eqv (a'::l))
theorem Qx.eqv_ok:∀(l:List Qe),Yb (Qx.eqv l)
 |[]=>fun a b h=>rfl
 |[a]=>Qe.eqv_ok a
 |a::a'::l=>Qcu (Qe.eqv_ok a) (Qx.eqv_ok (a'::l))
def Z3:(l:List Qe)→Qx l→List SV
 |[],_=>[]
 |[a],x=>[a.sv x]
 |a::a'::l,x=>a.sv x.1::Z3 (a'::l) x.2
def rdL(H:List Qa)(n:Nat):(l:List Qe)→List SV→Option (Bool×Qx l)
 |[]=>Qjd
 |[a]=>Qot (rdA H n a)
 |a::a'::l=>Qee (rdA H n a) (rdL H n (a'::l))
theorem Qd.Yav{M:Qc}{ρ ρ2:Env}{v:Value}{x:SV}(h:Qd M ρ v x):x.free 0=true→Qd M ρ2 v x:=by
 have fl:∀(l:List SV),Jj 0 l=true→∀(i:Nat) (x:SV),l[i]? =some x→x.free 0=true:=by
  intro l;induction l with
  |nil=>intro _ i x h;simp at h
  |cons y l ih=>
   intro h i x hx;simp only[Jj,Bool.and_eq_true]at h;cases i with
   |zero=>simp at hx;subst hx;exact h.1
   |succ i=>exact ih h.2 i x (by simpa using hx)
 induction h with
 |any v=>intro _;exact .any v
 |pv h=>intro _;exact .pv h
 |agg cs l hl _ ih=>intro hf;exact .agg cs l hl fun i v x hv hx=>ih i v x hv hx (fl l hf i x hx)
 |tup cs l hl _ ih=>intro hf;exact .tup cs l hl fun i v x hv hx=>ih i v x hv hx (fl l hf i x hx)
 |fn f a b x y ha hb _ _ ih jh=>intro hf;simp only[SV.free,Bool.and_eq_true]at hf;exact .fn f a b x y ha hb (fun i v s hv hs=>ih i v s hv hs (fl x hf.1 i s hs)) (fun i v s hv hs=>jh i v s hv hs (fl y hf.2 i s hs))
 |ptr s=>intro hf;simp[SV.free]at hf
 |sl s=>intro hf;simp[SV.free]at hf
 |slz s=>intro hf;simp[SV.free]at hf
 |mp s=>intro hf;simp[SV.free]at hf
 |yld s=>intro hf;simp[SV.free]at hf
 |slb s=>intro hf;simp[SV.free]at hf
theorem Zj6(l:List PV):Jj 0 (l.map .pv)=true:=by
 induction l with
 |nil=>rfl
 |cons x l ih=>simp[Jj,SV.free,ih]
theorem Zjr(l:List PV):(SV.Y1 (l.map .pv)).free 0=true:=by
 unfold SV.Y1;split
 ·rfl
 ·simp only[SV.free];exact Zj6 l
theorem Qe.Zcl:∀(a:Qe) (x:a.El),(a.sv x).free 0=true
 |.val t,x=>rfl
 |.agg row,x=>Zjr _
theorem Zbo:∀(l:List Qe) (x:Qx l),Jj 0 (Z3 l x)=true
 |[],_=>rfl
 |[a],x=>by show((a.sv x).free 0&&true)=true;rw[Qe.Zcl a x];rfl
 |a::a'::l,x=>by simp only[Z3,Jj,Qe.Zcl,Zbo (a'::l),Bool.and_self]
theorem Zrv(l:List Qe)(x:Qx l):(Yz (Z3 l x)).free 0=true:=by
 have h:=Zbo l x;unfold Yz;split
 ·rename_i y e;rw[e]at h;simpa[Jj]using h
 ·exact h
theorem Zca{M:Qc}{ρ:Env}(n:Nat):∀(k:Nat),
  (∀(t:Ty),SizeOf.sizeOf t≤k→Qaz M ρ M (rdT [] n t) t.pv)∧(∀(ts:List Ty),SizeOf.sizeOf ts≤k→Ue M ρ M ts (Je [] n ts)):=by
 have hle:=M.le_refl;intro k;induction k with
 |zero=>exact⟨fun t ht=>by(cases t<;>simp at ht),fun ts ht=>by(cases ts<;>simp at ht)⟩
 |succ k ih=>
  obtain⟨ih1,ih2⟩:=ih;refine⟨fun t ht=>?_,fun ts ht=>?_⟩
  ·match t,ht with
   |.int k,ht=>exact Qdj hle (Qqn k)
   |.bool,ht=>exact Qdj hle Qoy
   |.str,ht=>exact Qdj hle Qo4
   |.seq row,ht=>
    intro x c y v h hc hr;have h:Qhr [] n row (Je [] n row) x=some (c,y):=h;unfold Qhr at h;split at h
    ·split at h
     ·rename_i y' hy;cases h;cases hr with
      |pv hp=>exact Ty.Qso (t:=.seq row) hy hp
     ·cases h
    ·split at h
     ·cases h
     ·simp at h
    ·cases h
  ·match ts,ht with
   |[],ht=>exact Qzr
   |[t],ht=>exact Zcd (ih1 t (by simp at ht;omega))
   |t::t'::ts,ht=>exact Qza (ih1 t (by simp at ht;omega)) (ih2 (t'::ts) (by simp at ht⊢;omega))
theorem Zjo{M:Qc}{ρ ρ2:Env}{n:Nat}{a:Qe}{x:SV}{c:Bool}{y:a.El}{v:Value}(h:rdA [] n a x=some (c,y))(hc:c=true)(hr:Qd M ρ v x):Qd M ρ2 v (a.sv y):=by
 cases a with
 |val t=>exact .pv ((Zca n _).1 t (Nat.le_refl _) x c y v h hc hr)
 |agg row=>
  refine Qe.Zcy ?_;have fin:∀(cs:Array Value) (xs:List SV) (y:Qh row),J4 M ρ M row xs y→cs.size=xs.length→(∀(i:Nat) (u:Value) (x:SV),cs[i]? =some u→xs[i]? =some x→Qd M ρ u x)→Qd M ρ2 (.agg cs) ((Qe.agg row).raw y):=fun cs xs y hf hl hr=>by refine .agg cs _ (by rw[hl,hf.1];simp[J7]) fun i u z hu hz=>?_;simp only[List.getElem?_map,Option.map_eq_some_iff]at hz;obtain⟨q,hq,rfl⟩:=hz;obtain⟨x,hx,himp⟩:=hf.2 i q hq;exact .pv (himp u (hr i u x hu hx))
  replace h:Qa6 [] n row x=some (c,y):=h;unfold Qa6 at h;split at h
  ·rename_i cs;split at h
   ·rename_i y' hy;cases h;have:=hr.Q7;subst this;refine fin cs _ _ (J4.of M.le_refl hy) (by simp) fun i u x hu hx=>?_;simp only[List.getElem?_map,Option.map_eq_some_iff,Array.getElem?_toList]at hx;obtain⟨p,⟨u',hu',rfl⟩,rfl⟩:=hx;rw[hu]at hu';cases hu';exact .pv (.lit _)
   ·cases h
  ·rename_i l;cases hr with
   |agg cs _ hl hr=>exact fin cs l y ((Zca n _).2 row (Nat.le_refl _) _ _ _ h hc) hl hr
  ·cases h
def Qsb(M M2:Qc)(ρ ρ2:Env){α:Type}(f:List SV→Option (Bool×α))(g:α→List SV):Prop:=
 ∀(xs:List SV) (c:Bool) (y:α),f xs=some (c,y)→c=true→(g y).length=xs.length∧
  ∀(i:Nat) (v:Value) (z x:SV),(g y)[i]? =some z→xs[i]? =some x→Qd M ρ v x→Qd M2 ρ2 v z
theorem Qpa{M M2:Qc}{ρ ρ2:Env}{H:List Qa}{n:Nat}(ha:∀(a:Qe) (x:SV) (c:Bool) (y:a.El) (v:Value),rdA H n a x=some (c,y)→c=true→Qd M ρ v x→Qd M2 ρ2 v (a.sv y)):
  ∀(l:List Qe),Qsb M M2 ρ ρ2 (rdL H n l) (Z3 l)
 |[]=>by
  intro xs c y h hc;match xs,h with
  |[],h=>exact⟨rfl,fun i v z x hz hx=>by simp at hx⟩
  |_::_,h=>cases h
 |[a]=>by
  intro xs c y h hc;match xs,h with
  |[],h=>cases h
  |_::_::_,h=>cases h
  |[x],h=>
   replace h:rdA H n a x=some (c,y):=h;refine⟨rfl,fun i v z x' hz hx' hr=>?_⟩;cases i with
   |zero=>simp only[Z3,List.getElem?_cons_zero,Option.some.injEq]at hz hx';subst hz;subst hx';exact ha a x c y v h hc hr
   |succ i=>simp at hx'
 |a::a'::l=>by
  intro xs c y h hc;match xs,h with
  |[],h=>cases h
  |x::xs,h=>
   replace h:Qee (rdA H n a) (rdL H n (a'::l)) (x::xs)=some (c,y):=h;simp only[Qee]at h;split at h
   ·cases h
   ·rename_i p h1;split at h
    ·cases h
    ·rename_i q h2;cases h;rw[Bool.and_eq_true]at hc;obtain⟨g1,g2⟩:=Qpa ha (a'::l) xs q.1 q.2 h2 hc.2;refine⟨by simp only[Z3,List.length_cons,g1],fun i v z x' hz hx' hr=>?_⟩;cases i with
     |zero=>simp only[Z3,List.getElem?_cons_zero,Option.some.injEq]at hz hx';subst hz;subst hx';exact ha a x p.1 p.2 v h1 hc.1 hr
     |succ i=>simp only[Z3,List.getElem?_cons_succ]at hz hx';exact g2 i v z x' hz hx' hr
theorem Za0{M:Qc}{ρ ρ2:Env}{H:List Qa}{w:World}{n:Nat}(hm:Mem M ρ H w)(l:List Qe):Qsb M (M.sealing ρ H n w) ρ ρ2 (rdL H n l) (Z3 l):=
 Qpa (fun a x c y v h hc hr=>Qoi hm h hc hr) l
theorem Qtj{M:Qc}{ρ ρ2:Env}{n:Nat}(l:List Qe):Qsb M M ρ ρ2 (rdL [] n l) (Z3 l):=
 Qpa (fun a x c y v h hc hr=>Zjo h hc hr) l
structure PC where
 ats:List Qe
 rts:List Qe
 code:Qx ats→Option (Qx rts)
structure Qg (cx:Cx) (g:Nat) (pc:PC):Prop where
 fn:∃fn,cx.fns.lookup g=some fn
 ok:∀a y,pc.code a=some y→Yt cx.P g (Z3 pc.ats a) [] fun r H' t f=>r=Yz (Z3 pc.rts y)∧H'=[]∧t=[]∧f=[]
def PC.sm(pc:PC):Sm where
 pre:=fun args H=>(rdL [] 0 pc.ats args).isSome||((rdL H 0 pc.ats args).isSome&&pc.rts.all Qe.scalar)
 run:=fun X args H k=>match rdL [] 0 pc.ats args with
  |some p=>gd p.1 (match pc.code p.2 with
   |some y=>k (Yz (Z3 pc.rts y)) H [] []
   |none=>none)
  |none=>match rdL H 0 pc.ats args with
   |some p=>gd (p.1&&pc.rts.all Qe.scalar) (match pc.code p.2 with
    |some y=>k (Yz (Z3 pc.rts y)) H [] []
    |none=>none)
   |none=>none
def Qmx:List SV→Bool
 |[]=>true
 |.pv (.lit _)::l=>Qmx l
 |_=>false
def SV.Qh2:SV→Bool
 |.pv (.lit _)=>true
 |.agg l=>Qmx l
 |_=>false
theorem Qxy:∀{l:List SV},Qmx l=true→∀(i:Nat) (x:SV),l[i]? =some x→∃v,x=.lit v
 |[],_,i,x,h=>by simp at h
 |.pv (.lit v)::l,hl,i,x,h=>by
  cases i with
  |zero=>simp at h;exact⟨v,h.symm⟩
  |succ i=>exact Qxy (l:=l) hl i x (by simpa using h)
theorem Qsw{M M2:Qc}{ρ ρ2:Env}{v:Value}{x:SV}(hs:x.Qh2=true)(h:Qd M ρ v x):Qd M2 ρ2 v x:=by
 match x,hs,h with
 |.pv (.lit u),_,h=>rw[h.Q7];exact .pv (.lit _)
 |.agg l,hs,.agg cs _ hl hr=>refine .agg cs l hl fun i v x hv hx=>?_;obtain⟨u,rfl⟩:=Qxy hs i x hx;rw[(hr i v _ hv hx).Q7];exact .pv (.lit _)
theorem Zaf:∀(row:List Ty) (x:Qh row),row.all Ty.scalar=true→Qmx ((Q5 row x).map .pv)=true
 |[],_,_=>rfl
 |[t],x,h=>by cases t<;>first|rfl|(simp[Ty.scalar]at h)
 |t::t'::ts,x,h=>by simp only[List.all_cons,Bool.and_eq_true]at h;have:=Zaf (t'::ts) x.2 (by simp only[List.all_cons,Bool.and_eq_true];exact h.2);cases t<;>first|exact this|(simp[Ty.scalar]at h)
theorem Qe.Zcu(a:Qe)(x:a.El)(h:a.scalar=true):(a.sv x).Qh2=true:=by
 cases a with
 |val t=>cases t<;>first|rfl|(simp[Qe.scalar,Ty.scalar]at h)
 |agg row=>
  show(SV.Y1 ((Q5 row x).map .pv)).Qh2=true;unfold SV.Y1;split
  ·rfl
  ·exact Zaf row x h
theorem Qya:∀(l:List Qe) (y:Qx l),l.all Qe.scalar=true→∀(i:Nat) (x:SV),(Z3 l y)[i]? =some x→x.Qh2=true
 |[],_,_,i,x,h=>by simp[Z3]at h
 |[a],y,hs,i,x,h=>by
  cases i with
  |zero=>simp only[Z3,List.getElem?_cons_zero,Option.some.injEq]at h;subst h;exact Qe.Zcu a y (by simpa using hs)
  |succ i=>simp[Z3]at h
 |a::a'::l,y,hs,i,x,h=>by
  simp only[List.all_cons,Bool.and_eq_true]at hs;cases i with
  |zero=>simp only[Z3,List.getElem?_cons_zero,Option.some.injEq]at h;subst h;exact Qe.Zcu a y.1 hs.1
  |succ i=>exact Qya (a'::l) y.2 (by simp only[List.all_cons,Bool.and_eq_true];exact hs.2) i x (by simpa[Z3]using h)
theorem Zkw{M M2:Qc}{ρ ρ2:Env}{v:Value}{l:List SV}(hs:∀(i:Nat) (x:SV),l[i]? =some x→x.Qh2=true)(h:Qd M ρ v (Yz l)):Qd M2 ρ2 v (Yz l):=by
 unfold Yz at h⊢;split at h
 ·rename_i x;exact Qsw (hs 0 x rfl) h
 ·cases h with
  |tup cs _ hl hr=>exact .tup cs _ hl fun i v x hv hx=>Qsw (hs i x hx) (hr i v x hv hx)
def Xy:Env:=fun _=>none
theorem Qhf{M:Qc}{w:World}(h:∀b o,M b=some o→w.heap[b]? =some o):Mem M Xy [] w:=
 ⟨h,fun s o ho=>by simp at ho,fun s o p b ho=>by simp at ho,fun s s' o o' p p' b ho=>by simp at ho,fun s _=>rfl,fun s o p b ho=>by simp at ho⟩
theorem Ug{b:Nat}:¬Xn Xy [] b:=fun⟨s,o,p,h,_⟩=>by simp at h
theorem PC.Q0{cx:Cx}{g:Nat}{pc:PC}(h:Qg cx g pc):Qa3 cx g pc.sm:=by
 refine⟨h.fn,fun X args H k y hk=>?_⟩;have hk:(match rdL [] 0 pc.ats args with
  |some p=>gd p.1 (match pc.code p.2 with
   |some y=>k (Yz (Z3 pc.rts y)) H [] []
   |none=>none)
  |none=>match rdL H 0 pc.ats args with
   |some p=>gd (p.1&&pc.rts.all Qe.scalar) (match pc.code p.2 with
    |some y=>k (Yz (Z3 pc.rts y)) H [] []
    |none=>none)
   |none=>none)=some y:=hk
 have keep:∀(w w':World) (M2 M2':Qc) (ρ':Env) (H':List Qa) (t f:List Nat),Fr M2 Xy [] w M2' ρ' H' w' 0 t f→∀b,b<w.heap.size→w'.heap[b]? =w.heap[b]? :=fun w w' M2 M2' ρ' H' t f hf b hb=>hf.same b hb Ug;split at hk
 ·rename_i p hrd;obtain⟨hc,hk⟩:=Z8 hk;split at hk
  ·rename_i z hz;intro M ρ w vs hm hr;obtain⟨l1,l2⟩:=Qtj (M:=M) (ρ:=ρ) (ρ2:=Xy) pc.ats args p.1 p.2 hrd hc;refine(h.ok p.2 z hz M Xy w vs (Qhf hm.imm) ⟨by rw[hr.1,l1],fun i v x hv hx=>?_⟩).mono ?_
   ·obtain⟨x',hx'⟩:∃x',args[i]? =some x':=by
     have:i<args.length:=by rw[←l1];exact(List.getElem?_eq_some_iff.1 hx).1
     exact⟨_,List.getElem?_eq_getElem this⟩
    exact l2 i v x x' hx hx' (hr.2 i v x' hv hx')
   ·rintro e w' ⟨v,r,H',M',ρ',t,f,he,⟨rfl,rfl,rfl,rfl⟩,hs,hm',hf⟩
    have hsame:=keep _ _ _ _ _ _ _ _ hf;refine⟨v,_,H,M',ρ,[],[],he,hk,hs.Yav (Zrv _ z),?_,?_⟩
    ·refine⟨hm'.imm,fun s o ho=>?_,fun s o p b ho hl hp hb=>?_,hm.diss,hm.fresh,fun s o p b ho hl hp hb=>Nat.lt_of_lt_of_le (hm.lts s o p b ho hl hp hb) hf.grow⟩
     ·by_cases hl:o.live=true
      ·exact(hm.own s o ho).mono hf.imm ρ.le_refl rfl fun p b hp hb=>hsame _ (hm.Xr ho hl hp hb)
      ·rw[Ui hl];trivial
     ·cases e:M' b with
      |none=>rfl
      |some ob=>
       rcases hf.new b ob (hm.seps s o p b ho hl hp hb) e with h1|h1
       ·have:=hm.Xr ho hl hp hb;omega
       ·exact absurd h1 Ug
    ·exact⟨hf.imm,fun b o a c=>(hf.new b o a c).imp id fun h=>absurd h Ug,fun b hb=>.inr hb,fun b hb _=>hsame b hb,hf.grow,fun s o _ _ ho hl=>⟨⟨o,ho,hl⟩,fun p hp=>⟨hp,fun b hb=>hsame _ (hm.Xr ho hl hp hb)⟩⟩,fun _ _ _=>rfl,hf.io⟩
  ·cases hk
 ·split at hk
  ·rename_i p hrd;obtain⟨hc,hk⟩:=Z8 hk;rw[Bool.and_eq_true]at hc;split at hk
   ·rename_i z hz;intro M ρ w vs hm hr;obtain⟨l1,l2⟩:=Za0 (n:=0) (ρ2:=Xy) hm pc.ats args p.1 p.2 hrd hc.1;have hM2:∀b o,(M.sealing ρ H 0 w) b=some o→w.heap[b]? =some o:=fun b o hb=>by
     cases e:M b with
     |some o'=>rw[Qc.X5 M ρ H 0 w b o' e]at hb;cases hb;exact hm.imm b _ e
     |none=>exact(Qc.Wi e hb).2
    refine(h.ok p.2 z hz (M.sealing ρ H 0 w) Xy w vs (Qhf hM2) ⟨by rw[hr.1,l1],fun i v x hv hx=>?_⟩).mono ?_
    ·obtain⟨x',hx'⟩:∃x',args[i]? =some x':=by
      have:i<args.length:=by rw[←l1];exact(List.getElem?_eq_some_iff.1 hx).1
      exact⟨_,List.getElem?_eq_getElem this⟩
     exact l2 i v x x' hx hx' (hr.2 i v x' hv hx')
    ·rintro e w' ⟨v,r,H',M',ρ',t,f,he,⟨rfl,rfl,rfl,rfl⟩,hs,hm',hf⟩
     have hsame:=keep _ _ _ _ _ _ _ _ hf;refine⟨v,_,H,M,ρ,[],[],he,hk,Zkw (Qya _ z hc.2) hs,?_,?_⟩
     ·refine⟨fun b o hb=>?_,fun s o ho=>?_,hm.seps,hm.diss,hm.fresh,fun s o p b ho hl hp hb=>Nat.lt_of_lt_of_le (hm.lts s o p b ho hl hp hb) hf.grow⟩
      ·rw[hsame b (hm.Qm3 hb)];exact hm.imm b o hb
      ·by_cases hl:o.live=true
       ·exact(hm.own s o ho).mono M.le_refl ρ.le_refl rfl fun p b hp hb=>hsame _ (hm.Xr ho hl hp hb)
       ·rw[Ui hl];trivial
     ·exact⟨M.le_refl,fun b o a c=>(by rw[a]at c;cases c),fun b hb=>.inr hb,fun b hb _=>hsame b hb,hf.grow,fun s o _ _ ho hl=>⟨⟨o,ho,hl⟩,fun p hp=>⟨hp,fun b hb=>hsame _ (hm.Xr ho hl hp hb)⟩⟩,fun _ _ _=>rfl,hf.io⟩
   ·cases hk
  ·cases hk
def Qta(cx:Cx)(fn:Func)(rts:List Qe):KX (Qx rts):=fun e s=>
 gd (Qg5 e) (match shut s.marks s.H with
  |none=>none
  |some H'=>Qag cx {s with H:=H',marks:=[]} fn.results.toList fun l=>match rdL H' 0 rts l with
   |none=>none
   |some p=>gd p.1 (some p.2))
def Z5(cx:Cx)(lx:Lx)(n:Nat)(an:Q6)(fn:Func)(c:Code)(ats rts:List Qe)(a:Qx ats):Option (Qx rts):=
 Y6 cx lx n (Qx rts) (Qx.eqv rts) an true fn.ntmps c (.entry (Z3 ats a) []) (Qta cx fn rts)
theorem Zpj{cx:Cx}{fn:Func}{rts:List Qe}{e:Exit}{s:St}{y:Qx rts}(h:Qta cx fn rts e s=some y):
  (e=.normal∨e=.ret)∧∃H',shut s.marks s.H=some H'∧Vj cx {s with H:=H',marks:=[]} fn.results.toList fun l=>∃c,c=true∧rdL H' 0 rts l=some (c,y):=by
 obtain⟨h1,h⟩:=Z8 h;refine⟨Qkd h1,?_⟩;split at h
 ·cases h
 ·rename_i H' hs;refine⟨H',hs,Uz _ _ _ (fun l hl=>?_) (Qbv _ _ h)⟩;split at hl
  ·cases hl
  ·rename_i p hp;obtain⟨h2,hl⟩:=Z8 hl;cases hl;exact⟨p.1,h2,hp⟩
theorem Qg.Zs{cx:Cx}(hcx:cx.Ok){lx:Lx}(hlx:lx.Ok cx){n g:Nat}{an:Q6}{fn:Func}{c:Code}{pc:PC}(hf:cx.fns.lookup g=some fn)(hb:fn.body=some c)
  (hcode:∀a y,pc.code a=some y→Z5 cx lx n an fn c pc.ats pc.rts a=some y) (hn:Nat.ble pc.ats.length fn.ntmps=true):Qg cx g pc:=by
 refine⟨⟨fn,hf⟩,fun a y hy=>?_⟩;have hlen:∀(l:List Qe) (x:Qx l),(Z3 l x).length=l.length:=by
  intro l;induction l with
  |nil=>intro _;rfl
  |cons a l ih=>
   cases l with
   |nil=>intro _;rfl
   |cons b l=>intro x;simp only[Z3,List.length_cons,ih x.2]
 have hw:=(Ql0 hcx hlx n).1 _ _ (Qx.eqv_ok pc.rts) none an true fn.ntmps c _ _ y (fun _=>rfl) (hcode a y hy);have hcall:Yt cx.P g (Z3 pc.ats a) [] fun r H' t f=>∃l cc,r=Yz l∧cc=true∧rdL H' 0 pc.rts l=some (cc,y):=by refine Qiy hcx hf hb (by rw[hlen];exact Nat.le_of_ble_eq_true hn) (hw.mono fun e s hs=>?_);obtain⟨h1,H',h2,h3⟩:=Zpj hs;exact⟨h1,.inl (Nat.zero_le _),H',h2,Uz _ _ _ (fun l ⟨cc,h4,h5⟩=>⟨l,cc,rfl,h4,h5⟩) h3⟩
 intro M ρ w vs hm hr;refine(hcall M ρ w vs hm hr).mono ?_
 rintro e w' ⟨v,r,H',M',ρ',t,f,he,⟨l,cc,rfl,hcc,hrd⟩,hs,hm',hfr⟩
 obtain⟨g1,g2⟩:=Za0 (n:=0) (ρ2:=Xy) hm' pc.rts l cc y hrd hcc;have hne:ρ=Xy:=by funext s;exact hm.fresh s (Nat.zero_le _)
 have hM2:∀b o,(M'.sealing ρ' H' 0 w') b=some o→w'.heap[b]? =some o:=fun b o hb=>by
  cases e:M' b with
  |some o'=>rw[Qc.X5 M' ρ' H' 0 w' b o' e]at hb;cases hb;exact hm'.imm b _ e
  |none=>exact(Qc.Wi e hb).2
 refine⟨v,_,[],M'.sealing ρ' H' 0 w',Xy,[],[],he,⟨rfl,rfl,rfl,rfl⟩,?_,Qhf hM2,?_⟩
 ·unfold Yz at hs⊢;split at hs
  ·rename_i x;match hsv:Z3 pc.rts y,g1 with
   |[z],_=>simp only;exact g2 0 v z x (by rw[hsv];rfl) rfl hs
  ·rename_i hx;have hx2:∀z,Z3 pc.rts y=[z]→False:=fun z hz=>by
    rw[hz]at g1;match l,g1 with
    |[x],_=>exact hx x rfl
   cases hs with
   |tup cs _ hl hrr=>
    have:Qd (M'.sealing ρ' H' 0 w') Xy (.tuple cs) (.tup (Z3 pc.rts y)):=.tup cs _ (by rw[hl,g1]) fun i u z hu hz=>by
     obtain⟨x',hx'⟩:∃x',l[i]? =some x':=by
      have:i<l.length:=by rw[←g1];exact(List.getElem?_eq_some_iff.1 hz).1
      exact⟨_,List.getElem?_eq_getElem this⟩
     exact g2 i u z x' hz hx' (hrr i u x' hu hx')
    match hsv:Z3 pc.rts y with
    |[]=>simp only;rw[←hsv];exact this
    |[z]=>exact absurd hsv (fun h=>hx2 z h)
    |z::z'::zs=>simp only;rw[←hsv];exact this
 ·have hsl:=Qc.X5 M' ρ' H' 0 w';refine⟨Qc.le_trans hfr.imm hsl,fun b o h0 h1=>?_,fun b hb=>absurd hb Ug,hfr.same,hfr.grow,fun s o hs=>absurd hs (Nat.not_lt_zero s),fun s hs=>absurd hs (Nat.not_lt_zero s),hfr.io⟩;cases e:M' b with
  |some o'=>exact hfr.new b o' h0 e
  |none=>obtain⟨⟨s2,o2,p2,k1,k2,k3,k4,k5⟩,_⟩:=Qc.Wi e h1;exact hfr.own b ⟨s2,o2,p2,k2,by cases o2<;>simp_all [Qa.Wf,Qa.live],k4,.inl k5⟩
theorem Lx.W3{cx:Cx}{an:List (Nat×Q6)}{st:List Nat}:Lx.Ok cx {ext:=[],anns:=an,still:=st}:=⟨fun q hq=>(by cases hq),rfl⟩
theorem Lx.Q3{cx:Cx}{g:Nat}{sm:Sm}{l:List (Nat×Sm)}{an:List (Nat×Q6)}{st:List Nat}(h:Qa3 cx g sm)(hl:Lx.Ok cx {ext:=l,anns:=an,still:=st}):Lx.Ok cx {ext:=(g,sm)::l,anns:=an,still:=st}:=
 ⟨fun q hq=>by
  rcases List.mem_cons.1 hq with rfl|hq
  ·exact h
  ·exact hl.ext q hq,rfl⟩
def Qb(α:Type):List α:=[]
def Qv(fn:Func):Code:=match fn.body with
 |some c=>c
 |none=>.skip
end Go.Sx

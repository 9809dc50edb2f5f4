/- Part Qs of the own logic: an owned row becomes immutable where it stands. Own rows that a function of data gets: they become immutable at the call. And further parts. -/
import Derived.Test.YtpkbmngnolhopaaGreatDoorXSxP
set_option linter.unusedVariables false
set_option linter.unusedSimpArgs false
set_option linter.unnecessarySimpa false
open Option renaming map_eq_some_iff->C,bind_eq_some_iff->ZT,getD_some->ZU,map_some->QE
open Bool renaming and_eq_true->I,not_eq_true'->ZS
open List renaming getElem?_map->ZA,getElem?_eq_some_iff->ZC,isEmpty_iff->ZE,getElem?_set->ZG,mem_append_left->ZH,mem_append_right->ZI,all_eq_true->ZJ,getElem?_eq_getElem->ZK,mem_cons_self->ZL,mem_iff_getElem?->ZN,mem_of_getElem?->ZP,mem_cons_of_mem->ZQ,range->ZV,mem_filter->ZZ,getElem?_set_ne->Q1,mem_range->Q2,map_cons->QA,all_cons->QB,mem_singleton->QC,ext_getElem?->QD,length_map->QF,length_set->QG
open Nat renaming eq_of_beq_eq_true->ZB,le_of_ble_eq_true->ZD,beq->ZF,le_refl->ZM,zero_add->ZR,ble->ZW,blt->ZX,blt_eq->ZY
open Prod.mk renaming injEq->ZO
section
namespace Go.Sx
open Go
def TT.all(p:SV->Bool):TT->Bool
 |.nil=>true
 |.node l v r=>l.all p&&((match v with|some x=>p x|none=>true)&&r.all p)
theorem TT.Qtl{p:SV->Bool}:∀{T:TT} {t:Nat} {x:SV},T.all p=true->T.get t=some x->p x=true
 |.nil,t,x,_,h=>by simp[TT.get]at h
 |.node l v r,t,x,ha,h=>by
  simp only[TT.all,I]at ha;simp only[TT.get]at h;cases h0:ZF t 0 with
  |true=>rw[h0]at h;simp only[cond_true]at h;subst h;exact ha.2.1
  |false=>
   rw[h0]at h;simp only[cond_false]at h;cases h1:ZF (t%2) 1 with
   |true=>rw[h1]at h;exact TT.Qtl ha.1 h
   |false=>rw[h1]at h;exact TT.Qtl ha.2.2 h
mutual
def Jk(k:Nat)(row:List Ty)(l:List (Qj row)):SV->SV
 |.sl s sz st n=>match ZF s k with
  |true=>match st with
   |0=>.pv (.tsl row l)
   |_+1=>.any
  |false=>.sl s sz st n
 |.agg x=>.agg (Qf6 k row l x)
 |.tup x=>.tup (Qf6 k row l x)
 |.fn f a b=>.fn f (Qf6 k row l a) (Qf6 k row l b)
 |.ptr s sz i j=>.ptr s sz i j
 |.mp s=>.mp s
 |.yld s=>.yld s
 |.slb _ _ _ _ _=>.any
 |.any=>.any
 |.pv p=>.pv p
def Qf6(k:Nat)(row:List Ty)(l:List (Qj row)):List SV->List SV
 |[]=>[]
 |x::xs=>Jk k row l x::Qf6 k row l xs
end
mutual
def sealC(k:Nat)(row:List Ty)(l:List (Qj row)):SV->Bool
 |.sl s sz st n=>match ZF s k with
  |true=>match st with
   |0=>ZF sz row.length&&decide (n=l.length)
   |_+1=>true
  |false=>true
 |.agg x=>Qdj k row l x
 |.tup x=>Qdj k row l x
 |.fn f a b=>Qdj k row l a&&Qdj k row l b
 |_=>true
def Qdj(k:Nat)(row:List Ty)(l:List (Qj row)):List SV->Bool
 |[]=>true
 |x::xs=>sealC k row l x&&Qdj k row l xs
end
theorem Qug(k:Nat)(row:List Ty)(l:List (Qj row))(xs:List SV):Qf6 k row l xs=xs.map (Jk k row l):=by
 induction xs with
 |nil=>rfl
 |cons x xs ih=>simp only[Qf6,QA,ih]
theorem Qhh{k:Nat}{row:List Ty}{l:List (Qj row)}:∀{xs:List SV},Qdj k row l xs=true->∀(i:Nat) (x:SV),xs[i]? =some x->sealC k row l x=true
 |[],_,i,x,h=>by simp at h
 |y::xs,hc,i,x,h=>by
  simp only[Qdj,I]at hc;cases i with
  |zero=>simp at h;subst h;exact hc.1
  |succ i=>exact Qhh hc.2 i x (by simpa using h)
def Qb.Ue(k:Nat)(row:List Ty)(l:List (Qj row)):Qb->Qb
 |.mix ty sz rows=>.mix ty sz (rows.map (·.map (Jk k row l)))
 |.tlnk ty row' l' r c x=>.tlnk ty row' l' r c (Jk k row l x)
 |.nest ty ity row' ll q=>.nest ty ity row' ll (q.map fun x=>(x.1,Jk k row l x.2))
 |.map es c=>.map (es.map fun e=>(e.1,Jk k row l e.2.1,e.2.2)) c
 |.loop x=>.loop {x with T:=x.T.map (Jk k row l)}
 |o=>o
def Qb.sealC(k:Nat)(row:List Ty)(l:List (Qj row)):Qb->Bool
 |.mix ty sz rows=>rows.all (Qdj k row l)
 |.tlnk _ _ _ _ _ x=>Sx.sealC k row l x
 |.nest _ _ _ _ q=>match q with
  |some x=>Sx.sealC k row l x.2
  |none=>true
 |.map es c=>es.all fun e=>Sx.sealC k row l e.2.1
 |.loop x=>x.T.all (Sx.sealC k row l)
 |_=>true
def oneLive(H:List Qb)(k:Nat)(o:Qb):List Qb:=(H.map fun _=>Qb.dead).set k o
theorem Qgg{H:List Qb}{k s:Nat}{o x:Qb}(h:(oneLive H k o)[s]? =some x):(s=k∧x=o)∨(s≠k∧x=.dead):=by
 unfold oneLive at h;rw[ZG]at h;split at h
 ·rename_i e;subst e;split at h
  ·cases h;exact .inl ⟨rfl,rfl⟩
  ·cases h
 ·rename_i e;simp only[ZA,C]at h;obtain⟨_,_,rfl⟩:=h;exact .inr ⟨fun h=>e h.symm,rfl⟩
theorem Mem.oneLive{M:Qd}{U:Env}{H:List Qb}{w:World}(hm:Mem M U H w){k:Nat}{o o1:Qb}(hk:H[k]? =some o1)(hl:o1.live=true)(ho:Q9 M U w k o):Mem M U (Sx.oneLive H k o) w:=by
 refine⟨hm.imm,fun s x hx=>?_,fun s x p b hx hlx hp hb=>?_,fun s s' x x' p p' b hx hx' hlx hlx' hp hp' hb hb'=>?_,fun s hs=>hm.fresh s (by simpa[Sx.oneLive]using hs),fun s x p b hx hlx hp hb=>?_⟩
 ·rcases Qgg hx with⟨rfl,rfl⟩|⟨_,rfl⟩
  ·exact ho
  ·trivial
 ·rcases Qgg hx with⟨rfl,rfl⟩|⟨_,rfl⟩
  ·exact hm.seps s o1 p b hk hl hp hb
  ·cases hlx
 ·rcases Qgg hx with⟨rfl,rfl⟩|⟨_,rfl⟩
  ·rcases Qgg hx' with⟨rfl,rfl⟩|⟨_,rfl⟩
   ·rfl
   ·cases hlx'
  ·cases hlx
 ·rcases Qgg hx with⟨rfl,rfl⟩|⟨_,rfl⟩
  ·exact hm.lts s o1 p b hk hl hp hb
  ·cases hlx
theorem Yis{M M':Qd}{U:Env}{k:Nat}{row:List Ty}{l:List (Qj row)}(hle:M.le M')(hk:∀v,Qf M U v (.sl k row.length 0 l.length)->Z4 M' v (.tsl row l)){v:Value}{x:SV}(h:Qf M U v x):sealC k row l x=true->Qf M' U v (Jk k row l x):=by
 induction h with
 |any v=>intro _;exact .any v
 |pv h=>intro _;exact .pv (h.mono hle)
 |agg cs xs hl _ ih=>intro hc;simp only[sealC]at hc;simp only[Jk,Qug];refine .agg cs _ (by simpa using hl) fun i v x hv hx=>?_;simp only[ZA,C]at hx;obtain⟨y,hy,rfl⟩:=hx;exact ih i v y hv hy (Qhh hc i y hy)
 |tup cs xs hl _ ih=>intro hc;simp only[sealC]at hc;simp only[Jk,Qug];refine .tup cs _ (by simpa using hl) fun i v x hv hx=>?_;simp only[ZA,C]at hx;obtain⟨y,hy,rfl⟩:=hx;exact ih i v y hv hy (Qhh hc i y hy)
 |ptr s sz i j kk p hp hkk=>intro _;exact .ptr s sz i j kk p hp hkk
 |sl s sz st n c kk p hp hkk hc hn h6=>
  intro hcc;simp only[sealC]at hcc;simp only[Jk];split
  ·rename_i e;have e:=ZB e;subst e;rw[Nat.beq_refl]at hcc;simp only at hcc;cases st with
   |zero=>simp only[I]at hcc;have e1:=ZB hcc.1;have e2:=of_decide_eq_true hcc.2;subst e1;subst e2;exact .pv (hk _ (.sl _ _ _ _ c kk p hp hkk hc hn h6))
   |succ st=>exact .any _
  ·exact .sl s sz st n c kk p hp hkk hc hn h6
 |slz s sz st a=>
  intro hcc;simp only[sealC]at hcc;simp only[Jk];split
  ·rename_i e;have e:=ZB e;subst e;rw[Nat.beq_refl]at hcc;simp only at hcc;cases st with
   |zero=>simp only[I]at hcc;have e1:=ZB hcc.1;have e2:=of_decide_eq_true hcc.2;subst e1;refine .pv (hk _ ?_);rw[<-e2];exact .slz _ _ _ _
   |succ st=>exact .any _
  ·exact .slz s sz st a
 |mp s p hp=>intro _;exact .mp s p hp
 |yld s p hp=>intro _;exact .yld s p hp
 |slb s sz st n m _ _ _=>intro _;exact .any _
 |fn f a b x y ha hb _ _ ih jh=>
  intro hc;simp only[sealC,I]at hc;simp only[Jk,Qug];refine .fn f a b _ _ (by simpa using ha) (by simpa using hb) (fun i v s hv hs=>?_) (fun i v s hv hs=>?_)
  ·simp only[ZA,C]at hs;obtain⟨y,hy,rfl⟩:=hs;exact ih i v y hv hy (Qhh hc.1 i y hy)
  ·simp only[ZA,C]at hs;obtain⟨y,hy,rfl⟩:=hs;exact jh i v y hv hy (Qhh hc.2 i y hy)
theorem Q9.Ue{M M':Qd}{U:Env}{w:World}{k s:Nat}{row:List Ty}{l:List (Qj row)}{o:Qb}(hle:M.le M')(hf:∀v x,Qf M U v x->Sx.sealC k row l x=true->Qf M' U v (Jk k row l x))(hc:o.sealC k row l=true)(h:Q9 M U w s o):Q9 M' U w s (o.Ue k row l):=by
 cases o with
 |mix ty sz rows=>
  simp only[Qb.sealC]at hc;rcases h with⟨h1,h2⟩|⟨p,h1,h2⟩
  ·exact .inl ⟨h1,by simp[h2]⟩
  ·refine .inr ⟨p,h1,?_⟩;obtain⟨cs,a1,a2,a3,a4,a5,a6⟩:=h2.ex;have key:∀i j x,Xz (rows.map (·.map (Jk k row l))) i j=some x->∃y,Xz rows i j=some y∧x=Jk k row l y∧Sx.sealC k row l y=true:=fun i j x hx=>by unfold Xz at hx;simp only[ZA,ZT,C]at hx;obtain⟨r',⟨r,hr,rfl⟩,hx⟩:=hx;simp only[ZA,C]at hx;obtain⟨y,hy,rfl⟩:=hx;exact⟨y,by simp[Xz,hr,hy],rfl,Qhh (ZJ.1 hc r (ZP hr)) j y hy⟩
   refine⟨cs,a1,a2,by simpa using a3,by simpa using a4,fun i j x v hx hv=>?_,fun i j x hx=>?_⟩
   ·obtain⟨y,hy,rfl,hcy⟩:=key i j x hx;obtain⟨b1,b2,b3⟩:=a5 i j y v hy hv;exact⟨by simpa using b1,b2,hf v y b3 hcy⟩
   ·obtain⟨y,hy,_⟩:=key i j x hx;simpa using a6 i j y hy
 |tlnk ty row' l' r c x=>
  simp only[Qb.sealC]at hc;rcases h with⟨h1,h2⟩|⟨p,h1,h2⟩
  ·exact .inl ⟨h1,h2⟩
  ·refine .inr ⟨p,h1,?_⟩;obtain⟨cs,a1,a2,a3,a4,a5,a6⟩:=h2.ex;refine⟨cs,a1,a2,a3,a4,fun i j z v hz hv=>?_,fun i j z hz=>?_⟩
   ·obtain⟨y,hy,rfl,hcy⟩:=Qs3 (f:=Jk k row l) (fun _=>rfl) hz;obtain⟨b1,b2,b3⟩:=a5 i j y v hy hv;refine⟨b1,b2,hf v y b3 ?_⟩;rcases hcy with rfl|⟨p,rfl⟩
    ·exact hc
    ·rfl
   ·obtain⟨y,hy,_⟩:=Qs3 (f:=Jk k row l) (fun _=>rfl) hz;exact a6 i j y hy
 |nest ty ity row' ll q=>
  rcases h with⟨h1,h2,h3⟩|⟨p,h1,h2⟩
  ·subst h3;exact .inl ⟨h1,h2,rfl⟩
  refine .inr ⟨p,h1,h2.goes hle rfl rfl rfl (fun _ _=>rfl) (by cases q<;>rfl) fun i x y v e1 e2 hr=>?_⟩;rw[e1]at e2;simp only[QE,Option.some.injEq,ZO,true_and]at e2;subst e2;subst e1;exact hf v _ hr hc
 |map es c=>simp only[Qb.sealC]at hc;obtain⟨p,arr,h1,h2,h3,h4⟩:=h;refine⟨p,arr,h1,h2,by simpa using h3,fun i kk x b hi=>?_⟩;simp only[ZA,C]at hi;obtain⟨e,he,hq⟩:=hi;simp only[ZO]at hq;obtain⟨rfl,rfl,rfl⟩:=hq;obtain⟨me,m1,m2,m3,m4⟩:=h4 i e.1 e.2.1 e.2.2 he;exact⟨me,m1,m2,m3,hf _ _ m4 (ZJ.1 hc e (ZP he))⟩
 |loop L=>simp only[Qb.sealC]at hc;obtain⟨p,fn,tmps,q,h1,h2,h3,h4⟩:=h;refine⟨p,fn,tmps,q,h1,h2,h3,fun t x hx=>?_⟩;rw[TT.get_map,C]at hx;obtain⟨y,hy,rfl⟩:=hx;exact hf _ _ (h4 t y hy) (TT.Qtl hc hy)
 |dead=>exact h.mono hle U.le_refl rfl fun _ _ _ _=>rfl
 |vec _ _ _=>exact h.mono hle U.le_refl rfl fun _ _ _ _=>rfl
 |tvec _ _ _=>exact h.mono hle U.le_refl rfl fun _ _ _ _=>rfl
 |tmap _ _ _=>exact h.mono hle U.le_refl rfl fun _ _ _ _=>rfl
 |iter _ _=>exact h.mono hle U.le_refl rfl fun _ _ _ _=>rfl
 |over _ _=>exact h.mono hle U.le_refl rfl fun _ _ _ _=>rfl
 |mit _ _ _=>exact h.mono hle U.le_refl rfl fun _ _ _ _=>rfl
 |dfr _=>exact h.mono hle U.le_refl rfl fun _ _ _ _=>rfl
theorem Qkl(k:Nat)(row:List Ty)(l:List (Qj row))(o:Qb):(o.Ue k row l).live=o.live:=by cases o<;>rfl
def Zp1(k ty:Nat)(row:List Ty)(H:List Qb):Option (Bool×List (Qj row)):=(Qq.vec k ty row).get .nil H H.length
def Qn9(k ty:Nat)(row:List Ty)(s:St):Option (Bool×St):=match Zp1 k ty row s.H with
 |none=>none
 | some a=>some (a.1 && (s.T.all (sealC k row a.2) && s.H.all (Qb.sealC k row a.2)),
   {T:=s.T.map (Jk k row a.2),H:=(s.H.map (Qb.Ue k row a.2)).set k .dead,n0:=s.n0,tch:=Xy s.n0 [k] s.tch,fg:=s.fg,marks:=s.marks,er:=s.er})
theorem Zpv{M:Qd}{U:Env}{H:List Qb}{w:World}:M.sealing U H H.length w=M:=by
 funext b;unfold Qd.sealing;cases M b with
 |some o=>rfl
 |none=>
  simp only;rw[if_neg]
  rintro ⟨s,o,p,h1,h2,_⟩
  have:=(ZC.1 h2).1;omega
theorem Zlg{M:Qd}{U:Env}{H:List Qb}{w:World}(hm:Mem M U H w):U.cut H.length=U:=by
 funext s;unfold Env.cut;split
 ·rfl
 ·rename_i h;exact(hm.fresh s (by omega)).symm
theorem Zu9{R:Option Nat}{P:Program}{nt:Nat}{c:Code}{Q:Exit->St->Prop}{s s':St}{k ty:Nat}{row:List Ty}{cc:Bool}(hs:Qn9 k ty row s=some (cc,s'))(hc:cc=true)
  (h:Zj R P nt c Q s'):Zj R P nt c Q s:=by
 unfold Qn9 at hs;split at hs
 ·cases hs
 ·rename_i a ha;cases hs;obtain⟨c1,l⟩:=a;simp only[I]at hc;obtain⟨hc1,hc2,hc3⟩:=hc;intro B M U act w hg;have hm:=hg.mem;have ha:(Qq.vec k ty row).get .nil s.H s.H.length=some (c1,l):=ha;obtain⟨o,ho,hl,hlen⟩:=Qq.Zac (H1:=[]) ha hc1 rfl;have hks:k<s.H.length:=(ZC.1 ho).1;have hown:=Qq.Zmg (H1:=[]) hm ha hc1 rfl hks (fun q hq=>by cases hq);rw[Zpv,Zlg hm]at hown;have hown:Q9 M U w k (.tvec ty row l):=hown;have hm1:=Mem.oneLive hm ho hl hown;have hle:=Qd.Ws M U (Sx.oneLive s.H k (.tvec ty row l)) 0 w;have hget:(Sx.oneLive s.H k (.tvec ty row l))[k]? =some (.tvec ty row l):=by simp[Sx.oneLive,hks]
  have hnew:∀b ob,M b=none->M.sealing U (Sx.oneLive s.H k (.tvec ty row l)) 0 w b=some ob->(∃p,U k=some p∧p.block=b)∧w.heap[b]? =some ob:=fun b ob h0 h1=>by
   obtain⟨⟨s2,o2,p2,q1,q2,q3,q4,q5⟩,q6⟩:=Qd.Kl h0 h1;rcases Qgg q2 with⟨rfl,rfl⟩|⟨_,rfl⟩
   ·exact⟨⟨p2,q4,q5⟩,q6⟩
   ·cases q3
  have hslice:∀v,Qf M U v (.sl k row.length 0 l.length)->Z4 (M.sealing U (Sx.oneLive s.H k (.tvec ty row l)) 0 w) v (.tsl row l):=fun v hr=>by
   refine Ql5 hm1 (Nat.zero_le _) hget rfl rfl (by simp[Qb.len]) rfl (fun i y hy=>?_) hr;have:(Qb.tvec ty row l).row (0+i)=(Zs row y).map .pv:=by simp only[Qb.row,List.getD,ZR,hy,ZU]
   rw[this];exact .self hle y
  have hf:∀v x,Qf M U v x->Sx.sealC k row l x=true->Qf (M.sealing U (Sx.oneLive s.H k (.tvec ty row l)) 0 w) U v (Jk k row l x):=fun v x h hc=>Yis hle hslice h hc;generalize hM2:M.sealing U (Sx.oneLive s.H k (.tvec ty row l)) 0 w=M2 at hle hnew hslice hf;have hobj:∀t x,((s.H.map (Qb.Ue k row l)).set k .dead)[t]? =some x->(t=k∧x=.dead)∨(t≠k∧∃y,s.H[t]? =some y∧x=y.Ue k row l):=fun t x hx=>by
   rw[ZG]at hx;split at hx
   ·rename_i e;subst e;split at hx
    ·cases hx;exact .inl ⟨rfl,rfl⟩
    ·cases hx
   ·rename_i e;simp only[ZA,C]at hx;obtain⟨y,hy,rfl⟩:=hx;exact .inr ⟨fun h=>e h.symm,y,hy,rfl⟩
  have hmem2:Mem M2 U ((s.H.map (Qb.Ue k row l)).set k .dead) w:=by
   refine⟨fun b ob hb=>?_,fun t x hx=>?_,fun t x p b hx hlx hp hb=>?_,fun t t' x x' p p' b hx hx' hlx hlx' hp hp' hbk hbk'=>?_,fun t ht=>hm.fresh t (by simpa using ht),fun t x p b hx hlx hp hb=>?_⟩
   ·cases e:M b with
    |some o'=>rw[hle b o' e]at hb;cases hb;exact hm.imm b _ e
    |none=>exact(hnew b ob e hb).2
   ·rcases hobj t x hx with⟨rfl,rfl⟩|⟨_,y,hy,rfl⟩
    ·trivial
    ·exact(hm.own t y hy).Ue hle hf (ZJ.1 hc3 y (ZP hy))
   ·rcases hobj t x hx with⟨rfl,rfl⟩|⟨hne,y,hy,rfl⟩
    ·cases hlx
    ·rw[Qkl]at hlx;have h0:=hm.seps t y p b hy hlx hp hb;cases e:M2 b with
     |none=>rfl
     |some ob=>obtain⟨⟨p2,q1,q2⟩,_⟩:=hnew _ _ h0 e;exact absurd (hm.diss t k y o p p2 b hy ho hlx hl hp q1 hb (.inl q2)) hne
   ·rcases hobj t x hx with⟨rfl,rfl⟩|⟨_,y,hy,rfl⟩
    ·cases hlx
    ·rcases hobj t' x' hx' with⟨rfl,rfl⟩|⟨_,y',hy',rfl⟩
     ·cases hlx'
     ·rw[Qkl]at hlx hlx';exact hm.diss t t' y y' p p' b hy hy' hlx hlx' hp hp' hbk hbk'
   ·rcases hobj t x hx with⟨rfl,rfl⟩|⟨hne,y,hy,rfl⟩
    ·cases hlx
    ·rw[Qkl]at hlx;exact hm.lts t y p b hy hlx hp hb
  have hgood:Good B nt M2 U {T:=s.T.map (Jk k row l),H:=(s.H.map (Qb.Ue k row l)).set k .dead,n0:=s.n0,tch:=Xy s.n0 [k] s.tch,fg:=s.fg,marks:=s.marks,er:=s.er} act w:=by refine⟨fun t x hx=>?_,hg.sz,hmem2,hg.df,hg.mks,by simpa using hg.nle,hg.fix⟩;rw[TT.get_map,C]at hx;obtain⟨y,hy,rfl⟩:=hx;exact hf _ _ (hg.tm t y hy) (TT.Qtl hc2 hy)
  have hgoes:Yx M U s w M2 U {T:=s.T.map (Jk k row l),H:=(s.H.map (Qb.Ue k row l)).set k .dead,n0:=s.n0,tch:=Xy s.n0 [k] s.tch,fg:=s.fg,marks:=s.marks,er:=s.er} w:=by
   refine⟨⟨hle,fun b ob h0 h1=>?_,fun b hb=>?_,fun _ _ _=>rfl,ZM _,fun t x ht hx hx2 hlx=>?_,fun _ _ _=>rfl,rfl,rfl⟩,rfl,fun x hx=>(show x∈Xy s.n0 [k] s.tch from Qfl hx),fun _ h=>h⟩
   ·obtain⟨⟨p,q1,q2⟩,_⟩:=hnew b ob h0 h1;exact .inr ⟨k,o,p,ho,hl,q1,.inl q2⟩
   ·obtain⟨t,x,p,h1,h2,h3,h4⟩:=hb;rcases hobj t x h1 with⟨rfl,rfl⟩|⟨_,y,hy,rfl⟩
    ·cases h2
    ·rw[Qkl]at h2;exact .inr ⟨t,y,p,hy,h2,h3,h4⟩
   ·have hne:t≠k:=fun e=>by subst e;exact hx (Qfh ht ZL)
    refine⟨⟨x.Ue k row l,?_,by rw[Qkl];exact hlx⟩,fun p hp=>⟨hp,fun _ _=>rfl⟩⟩;show((s.H.map (Qb.Ue k row l)).set k .dead)[t]? =_;rw[ZG,if_neg (fun h=>hne h.symm),ZA,hx2];rfl
  exact wpIn_mono (h B M2 U act w hgood) fun e a' w' ⟨M',U',s'',q,g,kk⟩=>⟨M',U',s'',q,g,hgoes.trans kk⟩
def Qpp(s:St)(ob col ty:Nat)(row:List Ty):Option St:=match s.H[ob]? with
 |none=>none
 |some o=>match Qa7 o with
  |none=>none
  |some q=>match ZF q.2.2.length q.2.1 with
   |false=>none
   |true=>match q.2.2[col]? with
    |some (.pv (.lit v))=>match Value.isNil v with
     |true=>some {T:=s.T,H:=(s.H.set ob (.mix q.1 q.2.1 [q.2.2.set col (.sl s.H.length row.length 0 0)]))++[.tvec ty row []],n0:=s.n0,tch:=s.tch,fg:=s.fg,marks:=s.marks,er:=s.er}
     |false=>none
    |_=>none
theorem Zqv{R:Option Nat}{P:Program}{nt:Nat}{c:Code}{Q:Exit->St->Prop}{s s':St}{ob col ty:Nat}{row:List Ty}(hs:Qpp s ob col ty row=some s')
  (h:Zj R P nt c Q s'):Zj R P nt c Q s:=by
 unfold Qpp at hs;split at hs
 ·cases hs
 ·rename_i o ho;split at hs
  ·cases hs
  ·rename_i q hq;split at hs
   ·cases hs
   ·rename_i hl;have hl:=ZB hl;split at hs
    ·rename_i v hv;split at hs
     ·rename_i hn;cases hs;obtain⟨oty,sz,r⟩:=q;have hlt:ob<s.H.length:=(ZC.1 ho).1;refine Zj.Qem (fun B M U a w hg=>⟨U,?_,?_⟩) h
      all_goals
       obtain⟨g1,g2,g3,g4⟩:=Qmg (M:=M) (U:=U) (w:=w) (s:=ob) hq;obtain⟨m1,m2⟩:=hg.mem.virt (ty:=ty) (sz:=row.length);have n1:=m1.described (s:=s.H.length) (o:=.vec ty row.length []) (o':=.tvec ty row []) (by simp) rfl (fun h=>h);have n2:=m2.described (s:=s.H.length) (o:=.vec ty row.length []) (o':=.tvec ty row []) (by simp) rfl;have e1:(s.H++[Qb.vec ty row.length []]).set s.H.length (.tvec ty row [])=s.H++[.tvec ty row []]:=by simp
       rw[e1]at n1 n2;have hob:(s.H++[Qb.tvec ty row []])[ob]? =some o:=by rw[List.getElem?_append_left hlt];exact ho
       have hown:Q9 M U w ob o->Q9 M U w ob (.mix oty sz [r.set col (.sl s.H.length row.length 0 0)]):=fun h0=>by
        refine Q9.Zl9 rfl (by simpa using hl) (fun j y hy=>?_) (g4 h0);rw[ZG]at hy;split at hy
        ·rename_i e;subst e;split at hy
         ·cases hy;refine .inr ⟨_,hv,fun u hu=>?_⟩;have:=hu.Zt;subst this;unfold Value.isNil at hn;split at hn
          ·simp only[I]at hn;rw[ZB hn.1,ZB hn.2];exact .slz _ _ _ _
          ·cases hn
         ·cases hy
        ·exact .inr ⟨y,hy,fun u hu=>hu⟩
       have e2:(s.H++[Qb.tvec ty row []]).set ob (.mix oty sz [r.set col (.sl s.H.length row.length 0 0)])=(s.H.set ob (.mix oty sz [r.set col (.sl s.H.length row.length 0 0)]))++[.tvec ty row []]:=by rw[List.set_append_left _ _ hlt]
      ·have n3:=n1.described hob (o':=.mix oty sz [r.set col (.sl s.H.length row.length 0 0)]) g1.symm hown;rw[e2]at n3;refine⟨hg.tm,hg.sz,n3,hg.df,hg.mks,?_,hg.fix⟩;show s.n0<=((s.H.set ob (.mix oty sz [r.set col (.sl s.H.length row.length 0 0)]))++[Qb.tvec ty row []]).length;have:=hg.nle;simp;omega
      ·have n3:=n2.described hob (o':=.mix oty sz [r.set col (.sl s.H.length row.length 0 0)]) g1.symm;rw[e2]at n3;exact⟨n3.weaken (n':=s.n0) (t':=s.tch) (f':=s.fg) hg.nle (fun x _ h=>by cases h) (fun x _ h=>by cases h),rfl,fun _ h=>h,fun _ h=>h⟩
     ·cases hs
    ·cases hs
def Qru(T:TT):List Nat->TT->TT
 |[],T'=>T'
 |t::l,T'=>Qru T l (match T.get t with
  |some x=>T'.set t x
  |none=>T')
def Qqv(k:Nat)(keep:List Nat)(s:St):St:={s with T:=Qru s.T keep (Uu [k] s.T),H:=s.H.map (Qb.forget [k])}
theorem Qzz{T:TT}{P:Nat->SV->Prop}(h0:∀t x,T.get t=some x->P t x):∀(l:List Nat) (T':TT),(∀t x,T'.get t=some x->P t x)->∀t x,(Qru T l T').get t=some x->P t x
 |[],T',h,t,x,hx=>h t x hx
 |a::l,T',h,t,x,hx=>by
  simp only[Qru]at hx;split at hx
  ·rename_i y hy;refine Qzz h0 l _ (fun t x hx=>?_) t x hx;rcases TT.W6 _ _ _ _ _ hx with⟨rfl,rfl⟩|⟨_,hx⟩
   ·exact h0 _ _ hy
   ·exact h t x hx
  ·exact Qzz h0 l _ h t x hx
theorem Zpw{R:Option Nat}{P:Program}{nt:Nat}{c:Code}{Q:Exit->St->Prop}{s:St}{k:Nat}{keep:List Nat}(h:Zj R P nt c Q (Qqv k keep s)):Zj R P nt c Q s:=by
 refine Zj.Qem (fun B M U a w hg=>⟨U,?_,?_⟩) h
 ·refine⟨fun t x hx=>?_,hg.sz,?_,hg.df,hg.mks,by show s.n0<=(s.H.map (Qb.forget [k])).length;rw[QF];exact hg.nle,hg.fix⟩
  ·refine Qzz (T:=s.T) (P:=fun t x=>Qf M U (a.tmps.getD t undef) x) hg.tm keep _ (fun t x hx=>?_) t x hx;obtain⟨y,hy,hyx⟩:=Qor hx;have:=(hg.tm t y hy).forget (d:=[k]) M.le_refl (U':=U) (fun _ _ _ h=>h);rcases hyx with rfl|⟨e,rfl⟩
   ·exact this
   ·cases e
  ·have sub:∀(t:Nat) (x:Qb),(s.H.map (Qb.forget [k]))[t]? =some x->∃y,s.H[t]? =some y∧x=y.forget [k]:=fun t x hx=>by simp only[ZA,C]at hx;obtain⟨y,hy,rfl⟩:=hx;exact⟨y,hy,rfl⟩
   have hm:=hg.mem;refine⟨hm.imm,fun t x hx=>?_,fun t x p b hx hl hp hb=>?_,fun t t' x x' p p' b hx hx' hl hl' hp hp' hb hb'=>?_,fun t ht=>hm.fresh t (by simpa[Qqv]using ht),fun t x p b hx hl hp hb=>?_⟩
   ·obtain⟨y,hy,rfl⟩:=sub t x hx;exact(hm.own t y hy).forget M.le_refl (fun _ _ _ h=>h) rfl (fun _ _ _ _=>rfl)
   ·obtain⟨y,hy,rfl⟩:=sub t x hx;rw[Vv]at hl;exact hm.seps t y p b hy hl hp hb
   ·obtain⟨y,hy,rfl⟩:=sub t x hx;obtain⟨y',hy',rfl⟩:=sub t' x' hx';rw[Vv]at hl hl';exact hm.diss t t' y y' p p' b hy hy' hl hl' hp hp' hb hb'
   ·obtain⟨y,hy,rfl⟩:=sub t x hx;rw[Vv]at hl;exact hm.lts t y p b hy hl hp hb
 ·refine⟨⟨M.le_refl,fun b o h h'=>(by rw[h]at h';cases h'),fun b hb=>.inr ?_,fun _ _ _=>rfl,ZM _,fun t o _ _ ho hl=>⟨⟨o.forget [k],?_,?_⟩,fun p hp=>⟨hp,fun _ _=>rfl⟩⟩,fun _ _ _=>rfl,rfl,rfl⟩,rfl,fun _ h=>h,fun _ h=>h⟩
  ·obtain⟨t,o,p,h1,h2,h3,h4⟩:=hb;have h1:(s.H.map (Qb.forget [k]))[t]? =some o:=h1;simp only[ZA,C]at h1;obtain⟨y,hy,rfl⟩:=h1;exact⟨t,y,p,hy,by rwa[Vv]at h2,h3,h4⟩
  ·simp[Qqv,ho]
  ·rw[Vv];exact hl
def Qqf(k ty:Nat)(row:List Ty)(s:St):Option St:=match s.H[k]? with
 |some (.vec ty' sz rows)=>match ZF ty' ty&&ZF sz row.length with
  |true=>match Wn (ofRow row) rows with
   |some l=>some {s with H:=s.H.set k (.tvec ty row l)}
   |none=>none
  |false=>none
 |_=>none
theorem Yfu{R:Option Nat}{P:Program}{nt:Nat}{c:Code}{Q:Exit->St->Prop}{s s':St}{k ty:Nat}{row:List Ty}(hs:Qqf k ty row s=some s')(h:Zj R P nt c Q s'):Zj R P nt c Q s:=by
 unfold Qqf at hs;split at hs
 ·rename_i ty' sz rows ho;split at hs
  ·rename_i e;rw[I]at e;have e1:=ZB e.1;have e2:=ZB e.2;subst e1;subst e2;split at hs
   ·rename_i l hl;cases hs;have hok:=Jz.of hl;refine Zj.Qem (fun B M U a w hg=>⟨U,?_,?_⟩) h
    ·refine⟨hg.tm,hg.sz,hg.mem.described ho rfl (fun hh=>hh.Qnl hok.1 hok.2),hg.df,hg.mks,by show s.n0<=(s.H.set k _).length;rw[QG];exact hg.nle,hg.fix⟩
    ·exact⟨(Fr.refl M U s.H w s.n0 s.tch s.fg).described ho rfl,rfl,fun _ h=>h,fun _ h=>h⟩
   ·cases hs
  ·cases hs
 ·cases hs
theorem Q9.lnk{M:Qd}{U:Env}{w:World}{s ty:Nat}{row:List Ty}{l:List (Qj row)}{r c:Nat}(h:Q9 M U w s (.tvec ty row l)):Q9 M U w s (.tlnk ty row l r c .any):=by
 rcases h with h|⟨p,h1,h2⟩
 ·exact .inl h
 ·refine .inr ⟨p,h1,?_⟩;obtain⟨cs,a1,a2,a3,a4,a5,a6⟩:=h2.ex;have key:∀i j x,Wb row l r c .any i j=some x->∃y,Ys (Qw row l) i j=some y∧(x=.any∨x=y):=fun i j x hx=>by
   unfold Wb at hx;simp only[C]at hx;obtain⟨y,hy,rfl⟩:=hx;refine⟨y,hy,?_⟩;split
   ·exact .inl rfl
   ·exact .inr rfl
  refine⟨cs,a1,a2,a3,a4,fun i j x v hx hv=>?_,fun i j x hx=>?_⟩
  ·obtain⟨y,hy,e⟩:=key i j x hx;obtain⟨b1,b2,b3⟩:=a5 i j y v hy hv;refine⟨b1,b2,?_⟩;rcases e with rfl|rfl
   ·exact .any v
   ·exact b3
  ·obtain⟨y,hy,_⟩:=key i j x hx;exact a6 i j y hy
end Go.Sx
end
namespace Go.Sx
open Go
theorem Mem.Ys1{M:Qd}{U:Env}{H:List Qb}{w:World}{k ty:Nat}{row:List Ty}{l:List (Qj row)}(hm:Mem M U H w)(ho:H[k]? =some (.tvec ty row l)):
  ∃M2,M.le M2∧Mem M2 U (H.set k .dead) w∧(∀n,Fr M U H w M2 U (H.set k .dead) w n [k] [])∧∀v,Qf M U v (.sl k row.length 0 l.length)->Z4 M2 v (.tsl row l):=by
 have hks:k<H.length:=(ZC.1 ho).1;have hl:(Qb.tvec ty row l).live=true:=rfl;have hm1:=Mem.oneLive hm ho hl (hm.own k _ ho);have hle:=Qd.Ws M U (Sx.oneLive H k (.tvec ty row l)) 0 w;have hget:(Sx.oneLive H k (.tvec ty row l))[k]? =some (.tvec ty row l):=by simp[Sx.oneLive,hks]
 have hnew:∀b ob,M b=none->M.sealing U (Sx.oneLive H k (.tvec ty row l)) 0 w b=some ob->(∃p,U k=some p∧p.block=b)∧w.heap[b]? =some ob:=fun b ob h0 h1=>by
  obtain⟨⟨s2,o2,p2,q1,q2,q3,q4,q5⟩,q6⟩:=Qd.Kl h0 h1;rcases Qgg q2 with⟨rfl,rfl⟩|⟨_,rfl⟩
  ·exact⟨⟨p2,q4,q5⟩,q6⟩
  ·cases q3
 have hslice:∀v,Qf M U v (.sl k row.length 0 l.length)->Z4 (M.sealing U (Sx.oneLive H k (.tvec ty row l)) 0 w) v (.tsl row l):=fun v hr=>by
  refine Ql5 hm1 (Nat.zero_le _) hget rfl rfl (by simp[Qb.len]) rfl (fun i y hy=>?_) hr;have:(Qb.tvec ty row l).row (0+i)=(Zs row y).map .pv:=by simp only[Qb.row,List.getD,ZR,hy,ZU]
  rw[this];exact .self hle y
 generalize hM2:M.sealing U (Sx.oneLive H k (.tvec ty row l)) 0 w=M2 at hle hnew hslice;have hobj:∀t x,(H.set k .dead)[t]? =some x->(t=k∧x=.dead)∨(t≠k∧H[t]? =some x):=fun t x hx=>by
  by_cases e:t=k
  ·subst e;rw[List.getElem?_set_self hks]at hx;cases hx;exact .inl ⟨rfl,rfl⟩
  ·rw[Q1 (fun h=>e h.symm)]at hx;exact .inr ⟨e,hx⟩
 refine⟨M2,hle,⟨fun b ob hb=>?_,fun t x hx=>?_,fun t x p b hx hlx hp hb=>?_,fun t t' x x' p p' b hx hx' hlx hlx' hp hp' hbk hbk'=>?_,fun t ht=>hm.fresh t (by simpa using ht),fun t x p b hx hlx hp hb=>?_⟩,fun n=>⟨hle,fun b ob h0 h1=>?_,fun b hb=>?_,fun _ _ _=>rfl,ZM _,fun t x ht hx hx2 hlx=>?_,fun _ _ _=>rfl,rfl,rfl⟩,hslice⟩
 ·cases e:M b with
  |some o'=>rw[hle b o' e]at hb;cases hb;exact hm.imm b _ e
  |none=>exact(hnew b ob e hb).2
 ·rcases hobj t x hx with⟨rfl,rfl⟩|⟨_,hy⟩
  ·trivial
  ·exact(hm.own t x hy).mono hle U.le_refl rfl fun _ _ _ _=>rfl
 ·rcases hobj t x hx with⟨rfl,rfl⟩|⟨hne,hy⟩
  ·cases hlx
  ·have h0:=hm.seps t x p b hy hlx hp hb;cases e:M2 b with
   |none=>rfl
   |some ob=>obtain⟨⟨p2,q1,q2⟩,_⟩:=hnew _ _ h0 e;exact absurd (hm.diss t k x _ p p2 b hy ho hlx hl hp q1 hb (.inl q2)) hne
 ·rcases hobj t x hx with⟨rfl,rfl⟩|⟨_,hy⟩
  ·cases hlx
  ·rcases hobj t' x' hx' with⟨rfl,rfl⟩|⟨_,hy'⟩
   ·cases hlx'
   ·exact hm.diss t t' x x' p p' b hy hy' hlx hlx' hp hp' hbk hbk'
 ·rcases hobj t x hx with⟨rfl,rfl⟩|⟨hne,hy⟩
  ·cases hlx
  ·exact hm.lts t x p b hy hlx hp hb
 ·obtain⟨⟨p,q1,q2⟩,_⟩:=hnew b ob h0 h1;exact .inr ⟨k,_,p,ho,hl,q1,.inl q2⟩
 ·obtain⟨t,x,p,h1,h2,h3,h4⟩:=hb;rcases hobj t x h1 with⟨rfl,rfl⟩|⟨_,hy⟩
  ·cases h2
  ·exact .inr ⟨t,x,p,hy,h2,h3,h4⟩
 ·have hne:t≠k:=fun e=>hx (by rw[e];exact ZL);exact⟨⟨x,by rw[Q1 (fun h=>hne h.symm)];exact hx2,hlx⟩,fun p hp=>⟨hp,fun _ _=>rfl⟩⟩
def Qih(H:List Qb):SV->Option (SV×Nat×List Qb)
 |.sl k sz 0 n=>match H[k]? with
  |some (.tvec ty row l)=>match ZF sz row.length with
   |true=>some (.pv (.tsl row l),k,H.set k .dead)
   |false=>none
  |_=>none
 |_=>none
def Qtb(H:List Qb):SV->Bool
 |.sl k sz 0 n=>match H[k]? with
  |some (.tvec ty row l)=>decide (n=l.length)
  |_=>true
 |_=>true
theorem Zbw{M:Qd}{U:Env}{H H':List Qb}{w:World}{x y:SV}{k:Nat}(hm:Mem M U H w)(h:Qih H x=some (y,k,H'))(hc:Qtb H x=true):
  H'.length=H.length∧∃M2,M.le M2∧Mem M2 U H' w∧(∀n,Fr M U H w M2 U H' w n [k] [])∧∀v,Qf M U v x->Qf M2 U v y:=by
 unfold Qih at h;unfold Qtb at hc;split at h
 ·rename_i k0 sz n;split at h
  ·rename_i ty row l ho;split at h
   ·rename_i e;have e:=ZB e;subst e;cases h;simp only[ho,decide_eq_true_eq]at hc;subst hc;obtain⟨M2,h1,h2,h3,h4⟩:=hm.Ys1 ho;exact⟨by simp,M2,h1,h2,h3,fun v hv=>.pv (h4 v hv)⟩
   ·cases h
  ·cases h
 ·cases h
def Yhp:PV->Option Ty
 |.lit (.string _)=>some .str
 |.lit (.int k _)=>some (.int k)
 |.lit (.bool _)=>some .bool
 |.tsl row _=>some (.seq row)
 |_=>none
def Zlc(H:List Qb)(x:SV):List Ty:=match x with
 |.sl d _ _ _=>match H[d]? with
  |some (.vec _ _ (r::_))=>match Wn Yhp r with
   |some row=>row
   |none=>[]
  |_=>[]
 |_=>[]
def Qb7(H:List Qb)(x:SV):List Qb:=asData H (Zlc H x) x
theorem Zau{M:Qd}{U:Env}{H:List Qb}{w:World}(hm:Mem M U H w)(x:SV):Mem M U (Qb7 H x) w∧(∀n,Fr M U H w M U (Qb7 H x) w n [] [])∧(Qb7 H x).length=H.length:=by obtain⟨m1,h,m3⟩:=Qza hm (Zlc H x) x;exact⟨m1,fun n=>⟨h.imm,h.new,h.own,h.same,h.grow,fun s o _ ht ho hl=>h.keep s o (ZC.1 ho).1 ht ho hl,fun _ _ _=>rfl,h.io⟩,m3⟩
def Ky:List SV->List Qb->Bool×List SV×List Nat×List Qb
 |[],H=>(true,[],[],H)
 |x::xs,H=>match Qih (Qb7 H x) x with
  |some q=>match Ky xs q.2.2 with
   |r=>(Qtb (Qb7 H x) x&&r.1,q.1::r.2.1,q.2.1::r.2.2.1,r.2.2.2)
  |none=>match Ky xs H with
   |r=>(r.1,x::r.2.1,r.2.2.1,r.2.2.2)
theorem Qu7:∀{args:List SV} {M:Qd} {U:Env} {H:List Qb} {w:World},Mem M U H w->(Ky args H).1=true->
  (Ky args H).2.2.2.length = H.length ∧ (Ky args H).2.1.length = args.length ∧ ∃ M2,M.le M2 ∧ Mem M2 U (Ky args H).2.2.2 w ∧ (∀ n,Fr M U H w M2 U (Ky args H).2.2.2 w n (Ky args H).2.2.1 []) ∧
   ∀(i:Nat) (v:Value) (x y:SV),args[i]? =some x->(Ky args H).2.1[i]? =some y->Qf M U v x->Qf M2 U v y
 |[],M,U,H,w,hm,hc=>⟨rfl,rfl,M,M.le_refl,hm,fun n=>Fr.refl ..,fun i v x y hx=>by simp at hx⟩
 |x::xs,M,U,H,w,hm,hc=>by
  cases hs:Qih (Qb7 H x) x with
  |some q=>
   obtain⟨y,k,H1⟩:=q;simp only[Ky,hs,I]at hc⊢;obtain⟨m1,m2,m3⟩:=Zau hm x;obtain⟨e1,M1,a1,a2,a3',a4⟩:=Zbw m1 hs hc.1;have a3:∀n,Fr M U H w M1 U H1 w n [k] []:=fun n=>(m2 n).trans (a3' n) (fun z hz=>by cases hz) (fun z hz=>hz) (fun z hz=>by cases hz) (fun z hz=>by cases hz);obtain⟨e2,e3,M2,b1,b2,b3,b4⟩:=Qu7 a2 hc.2;refine⟨e2.trans (e1.trans m3),by simp[e3],M2,Qd.le_trans a1 b1,b2,fun n=>(a3 n).trans (b3 n) (fun z hz=>?_) (fun z hz=>ZQ _ hz) (fun z hz=>by cases hz) (fun z hz=>hz),fun i v x' y' hx hy hv=>?_⟩
   ·rw[QC.1 hz];exact ZL
   ·cases i with
    |zero=>simp at hx hy;subst hx;subst hy;exact(a4 v hv).mono b1 U.le_refl
    |succ i=>exact b4 i v x' y' (by simpa using hx) (by simpa using hy) (hv.mono a1 U.le_refl)
  |none=>
   simp only[Ky,hs]at hc⊢;obtain⟨e2,e3,M2,b1,b2,b3,b4⟩:=Qu7 (args:=xs) hm hc;refine⟨e2,by simp[e3],M2,b1,b2,b3,fun i v x' y' hx hy hv=>?_⟩;cases i with
   |zero=>simp at hx hy;subst hx;subst hy;exact hv.mono b1 U.le_refl
   |succ i=>exact b4 i v x' y' (by simpa using hx) (by simpa using hy) hv
def Qdy(x:SV)(H:List Qb):Bool×SV×List Nat×List Qb:=match Qih (Qb7 H x) x with
 |some q=>(Qtb (Qb7 H x) x,q.1,[q.2.1],q.2.2)
 |none=>(true,x,[],H)
theorem Znn{x:SV}{M:Qd}{U:Env}{H:List Qb}{w:World}(hm:Mem M U H w)(hc:(Qdy x H).1=true):
  (Qdy x H).2.2.2.length=H.length∧∃M2,M.le M2∧Mem M2 U (Qdy x H).2.2.2 w∧(∀n,Fr M U H w M2 U (Qdy x H).2.2.2 w n (Qdy x H).2.2.1 [])∧∀v,Qf M U v x->Qf M2 U v (Qdy x H).2.1:=by
 unfold Qdy at hc⊢;cases hs:Qih (Qb7 H x) x with
 |some q=>obtain⟨y,k,H1⟩:=q;simp only[hs]at hc⊢;obtain⟨m1,m2,m3⟩:=Zau hm x;obtain⟨e1,M1,a1,a2,a3,a4⟩:=Zbw m1 hs hc;exact⟨e1.trans m3,M1,a1,a2,fun n=>(m2 n).trans (a3 n) (fun z hz=>by cases hz) (fun z hz=>hz) (fun z hz=>by cases hz) (fun z hz=>by cases hz),a4⟩
 |none=>exact⟨rfl,M,M.le_refl,hm,fun n=>Fr.refl ..,fun v hv=>hv⟩
def Qdw(x:SV)(H:List Qb):Bool×SV×List Nat×List Qb:=match x with
 |.agg l=>match Ky l H with
  |r=>(r.1,.agg r.2.1,r.2.2.1,r.2.2.2)
 |x=>Qdy x H
theorem Yr1{x:SV}{M:Qd}{U:Env}{H:List Qb}{w:World}(hm:Mem M U H w)(hc:(Qdw x H).1=true):
  (Qdw x H).2.2.2.length=H.length∧∃M2,M.le M2∧Mem M2 U (Qdw x H).2.2.2 w∧(∀n,Fr M U H w M2 U (Qdw x H).2.2.2 w n (Qdw x H).2.2.1 [])∧∀v,Qf M U v x->Qf M2 U v (Qdw x H).2.1:=by
 unfold Qdw at hc⊢;split at hc
 ·rename_i l;obtain⟨e1,e2,M2,b1,b2,b3,b4⟩:=Qu7 hm hc;refine⟨e1,M2,b1,b2,b3,fun v hv=>?_⟩;cases hv with
  |agg cs _ hl h=>
   refine .agg cs _ (by rw[hl,e2]) fun i v y hv hy=>?_;obtain⟨x,hx⟩:∃x,l[i]? =some x:=by
    have:i<l.length:=by rw[<-e2];exact(ZC.1 hy).1
    exact⟨_,ZK this⟩
   exact b4 i v x y hx hy (h i v x hv hx)
 ·exact Znn hm hc
def Jj:List SV->List Qb->Bool×List SV×List Nat×List Qb
 |[],H=>(true,[],[],H)
 |x::xs,H=>match Qdw x H with
  |q=>match Jj xs q.2.2.2 with
   |r=>(q.1&&r.1,q.2.1::r.2.1,q.2.2.1++r.2.2.1,r.2.2.2)
theorem Zcu:∀{args:List SV} {M:Qd} {U:Env} {H:List Qb} {w:World},Mem M U H w->(Jj args H).1=true->
  (Jj args H).2.2.2.length = H.length ∧ (Jj args H).2.1.length = args.length ∧ ∃ M2,M.le M2 ∧ Mem M2 U (Jj args H).2.2.2 w ∧ (∀ n,Fr M U H w M2 U (Jj args H).2.2.2 w n (Jj args H).2.2.1 []) ∧
   ∀(i:Nat) (v:Value) (x y:SV),args[i]? =some x->(Jj args H).2.1[i]? =some y->Qf M U v x->Qf M2 U v y
 |[],M,U,H,w,hm,hc=>⟨rfl,rfl,M,M.le_refl,hm,fun n=>Fr.refl ..,fun i v x y hx=>by simp at hx⟩
 |x::xs,M,U,H,w,hm,hc=>by
  simp only[Jj,I]at hc⊢;obtain⟨e1,M1,a1,a2,a3,a4⟩:=Yr1 hm hc.1;obtain⟨e2,e3,M2,b1,b2,b3,b4⟩:=Zcu a2 hc.2;refine⟨e2.trans e1,by simp[e3],M2,Qd.le_trans a1 b1,b2,fun n=>(a3 n).trans (b3 n) (fun z hz=>ZH _ hz) (fun z hz=>ZI _ hz) (fun z hz=>by cases hz) (fun z hz=>hz),fun i v x' y' hx hy hv=>?_⟩;cases i with
  |zero=>simp at hx hy;subst hx;subst hy;exact(a4 v hv).mono b1 U.le_refl
  |succ i=>exact b4 i v x' y' (by simpa using hx) (by simpa using hy) (hv.mono a1 U.le_refl)
theorem Xw.Ysv{P:Program}{g:Nat}{args:List SV}{H:List Qb}{K:Qv}(hc:(Jj args H).1=true)
  (h:Xw P g (Jj args H).2.1 (Jj args H).2.2.2 fun r H' t f=>K r H' ((Jj args H).2.2.1++t) f):Xw P g args H K:=by
 intro M U w vs hm hr;obtain⟨e1,e2,M2,b1,b2,b3,b4⟩:=Zcu hm hc;refine(h M2 U w vs b2 ⟨by rw[hr.1,e2],fun i v y hv hy=>?_⟩).mono ?_
 ·obtain⟨x,hx⟩:∃x,args[i]? =some x:=by
   have:i<args.length:=by rw[<-e2];exact(ZC.1 hy).1
   exact⟨_,ZK this⟩
  exact b4 i v x y hx hy (hr.2 i v x hv hx)
 ·rintro e w' ⟨v,r,H',M',U',t,f,he,hk,hs,hm',hf⟩
  rw[e1]at hf;exact⟨v,r,H',M',U',_,f,he,hk,hs,hm',(b3 _).trans hf (fun z hz=>ZH _ hz) (fun z hz=>ZI _ hz) (fun z hz=>by cases hz) (fun z hz=>hz)⟩
end Go.Sx
section
namespace Go.Sx
open Go
mutual
def SV.Ya(f:Nat->Option Nat):SV->SV
 |.ptr s sz i j=>match f s with
  |some t=>.ptr t sz i j
  |none=>.any
 |.sl s sz st n=>match f s with
  |some t=>.sl t sz st n
  |none=>.any
 |.mp s=>match f s with
  |some t=>.mp t
  |none=>.any
 |.yld s=>match f s with
  |some t=>.yld t
  |none=>.any
 |.slb s sz st n m=>match f s with
  |some t=>.slb t sz st n m
  |none=>.any
 |.agg l=>.agg (Uw f l)
 |.tup l=>.tup (Uw f l)
 |.fn g a b=>.fn g (Uw f a) (Uw f b)
 |.any=>.any
 |.pv p=>.pv p
def Uw(f:Nat->Option Nat):List SV->List SV
 |[]=>[]
 |x::xs=>x.Ya f::Uw f xs
end
theorem Qry(f:Nat->Option Nat)(l:List SV):Uw f l=l.map (SV.Ya f):=by
 induction l with
 |nil=>rfl
 |cons x xs ih=>simp only[Uw,QA,ih]
theorem Qf.Ya{M M':Qd}{U U':Env}{f:Nat->Option Nat}(hM:M.le M')(hf:∀s t p,f s=some t->U s=some p->U' t=some p){v:Value}{x:SV}(h:Qf M U v x):Qf M' U' v (x.Ya f):=by
 induction h with
 |any v=>exact .any v
 |pv h=>exact .pv (h.mono hM)
 |agg cs l hl _ ih=>simp only[SV.Ya,Qry];refine .agg cs _ (by simpa using hl) fun i v x hv hx=>?_;simp only[ZA,C]at hx;obtain⟨y,hy,rfl⟩:=hx;exact ih i v y hv hy
 |tup cs l hl _ ih=>simp only[SV.Ya,Qry];refine .tup cs _ (by simpa using hl) fun i v x hv hx=>?_;simp only[ZA,C]at hx;obtain⟨y,hy,rfl⟩:=hx;exact ih i v y hv hy
 |ptr s sz i j k p hp hk=>
  simp only[SV.Ya];split
  ·rename_i t ht;exact .ptr t sz i j k p (hf s t p ht hp) hk
  ·exact .any _
 |sl s sz st n c k p hp hk hc hn h6=>
  simp only[SV.Ya];split
  ·rename_i t ht;exact .sl t sz st n c k p (hf s t p ht hp) hk hc hn h6
  ·exact .any _
 |slz s sz st a=>
  simp only[SV.Ya];split
  ·exact .slz _ sz st a
  ·exact .any _
 |mp s p hp=>
  simp only[SV.Ya];split
  ·rename_i t ht;exact .mp t p (hf s t p ht hp)
  ·exact .any _
 |yld s p hp=>
  simp only[SV.Ya];split
  ·rename_i t ht;exact .yld t p (hf s t p ht hp)
  ·exact .any _
 |slb s sz st n m _ hm ih=>
  simp only[SV.Ya]at ih⊢;cases e:f s with
  |some t=>rw[e]at ih;exact .slb t sz st n m ih hm
  |none=>exact .any _
 |fn g a b x y ha hb _ _ ih jh=>
  simp only[SV.Ya,Qry];refine .fn g a b _ _ (by simpa using ha) (by simpa using hb) (fun i v s hv hs=>?_) (fun i v s hv hs=>?_)
  ·simp only[ZA,C]at hs;obtain⟨y,hy,rfl⟩:=hs;exact ih i v y hv hy
  ·simp only[ZA,C]at hs;obtain⟨y,hy,rfl⟩:=hs;exact jh i v y hv hy
def Qb.Ya(f:Nat->Option Nat):Qb->Qb
 |.mix ty sz rows=>.mix ty sz (rows.map (·.map (SV.Ya f)))
 |.tlnk ty row l r c x=>.tlnk ty row l r c (x.Ya f)
 |.nest ty ity row ll q=>.nest ty ity row ll (q.map fun x=>(x.1,x.2.Ya f))
 |.map es c=>.map (es.map fun e=>(e.1,e.2.1.Ya f,e.2.2)) c
 |.loop l=>.loop {l with T:=l.T.map (SV.Ya f)}
 |.mit m c s=>.mit (m.bind f) c s
 |o=>o
theorem Uj(f:Nat->Option Nat)(o:Qb):(o.Ya f).live=o.live:=by cases o<;>rfl
theorem Qe.Ys2(f:Nat->Option Nat):∀(a:Qe) (x:a.El),(a.raw x).Ya f=a.raw x
 |.val t,x=>rfl
 |.agg row,x=>by
  have:∀l:List PV,Uw f (l.map .pv)=l.map .pv:=fun l=>by
   induction l with
   |nil=>rfl
   |cons x l ih=>simp only[QA,Uw,SV.Ya,ih]
  simp only[Qe.raw,SV.Ya,this]
theorem Q9.Ya{M M':Qd}{U U':Env}{w w':World}{s t:Nat}{f:Nat->Option Nat}{o:Qb}(hM:M.le M')(hf:∀s t p,f s=some t->U s=some p->U' t=some p)(hs:U' t=U s)
  (hw:∀p b,U s=some p->p.has b->w'.heap[b]? =w.heap[b]?) (h:Q9 M U w s o):Q9 M' U' w' t (o.Ya f):=by
 have hws:=hw;replace hw:∀p,U s=some p->w'.heap[p.block]? =w.heap[p.block]? :=fun p hp=>hws p _ hp p.self;cases o with
 |dead=>trivial
 |vec ty sz rows=>
  rcases h with⟨h1,h2⟩|⟨p,h1,h2⟩
  ·exact .inl ⟨hs.trans h1,h2⟩
  ·refine .inr ⟨p,hs.trans h1,?_⟩;obtain⟨cs,a1,a2,a3,a4,a5,a6⟩:=h2.ex;refine⟨cs,(hw p h1).trans a1,a2,a3,a4,fun i j x v hx hv=>?_,a6⟩;obtain⟨b1,b2,b3⟩:=a5 i j x v hx hv;refine⟨b1,b2,?_⟩;unfold Ys at hx;simp only[C]at hx;obtain⟨q,_,rfl⟩:=hx;cases b3 with
   |pv b3=>exact .pv (b3.mono hM)
 |tvec ty row l=>
  rcases h with⟨h1,h2⟩|⟨p,h1,h2⟩
  ·exact .inl ⟨hs.trans h1,h2⟩
  ·refine .inr ⟨p,hs.trans h1,?_⟩;obtain⟨cs,a1,a2,a3,a4,a5,a6⟩:=h2.ex;refine⟨cs,(hw p h1).trans a1,a2,a3,a4,fun i j x v hx hv=>?_,a6⟩;obtain⟨b1,b2,b3⟩:=a5 i j x v hx hv;refine⟨b1,b2,?_⟩;unfold Ys at hx;simp only[C]at hx;obtain⟨q,_,rfl⟩:=hx;cases b3 with
   |pv b3=>exact .pv (b3.mono hM)
 |mix ty sz rows=>
  rcases h with⟨h1,h2⟩|⟨p,h1,h2⟩
  ·exact .inl ⟨hs.trans h1,by simp[h2]⟩
  ·refine .inr ⟨p,hs.trans h1,?_⟩;obtain⟨cs,a1,a2,a3,a4,a5,a6⟩:=h2.ex;have key:∀i j x,Xz (rows.map (·.map (SV.Ya f))) i j=some x->∃y,Xz rows i j=some y∧x=y.Ya f:=fun i j x hx=>by unfold Xz at hx;simp only[ZA,ZT,C]at hx;obtain⟨r',⟨r,hr,rfl⟩,hx⟩:=hx;simp only[ZA,C]at hx;obtain⟨y,hy,rfl⟩:=hx;exact⟨y,by simp[Xz,hr,hy],rfl⟩
   refine⟨cs,(hw p h1).trans a1,a2,by simpa using a3,by simpa using a4,fun i j x v hx hv=>?_,fun i j x hx=>?_⟩
   ·obtain⟨y,hy,rfl⟩:=key i j x hx;obtain⟨b1,b2,b3⟩:=a5 i j y v hy hv;exact⟨by simpa using b1,b2,b3.Ya hM hf⟩
   ·obtain⟨y,hy,rfl⟩:=key i j x hx;simpa using a6 i j y hy
 |tlnk ty row l r c x=>
  rcases h with⟨h1,h2⟩|⟨p,h1,h2⟩
  ·exact .inl ⟨hs.trans h1,h2⟩
  ·refine .inr ⟨p,hs.trans h1,?_⟩;obtain⟨cs,a1,a2,a3,a4,a5,a6⟩:=h2.ex;refine⟨cs,(hw p h1).trans a1,a2,a3,a4,fun i j z v hz hv=>?_,fun i j z hz=>?_⟩
   ·obtain⟨y,hy,rfl,_⟩:=Qs3 (f:=SV.Ya f) (fun _=>rfl) hz;obtain⟨b1,b2,b3⟩:=a5 i j y v hy hv;exact⟨b1,b2,b3.Ya hM hf⟩
   ·obtain⟨y,hy,_⟩:=Qs3 (f:=SV.Ya f) (fun _=>rfl) hz;exact a6 i j y hy
 |nest ty ity row ll q=>
  rcases h with⟨h1,h2,h3⟩|⟨p,h1,h2⟩
  ·subst h3;exact .inl ⟨hs.trans h1,h2,rfl⟩
  refine .inr ⟨p,hs.trans h1,h2.goes hM rfl rfl rfl (fun b hb=>hws p b h1 hb) (by cases q<;>rfl) fun i x y v e1 e2 hr=>?_⟩;rw[e1]at e2;simp only[QE,Option.some.injEq,ZO,true_and]at e2;subst e2;exact hr.Ya hM hf
 |map es clock=>obtain⟨p,arr,h1,h2,h3,h4⟩:=h;refine⟨p,arr,hs.trans h1,(hw p h1).trans h2,by simpa using h3,fun i k x b hi=>?_⟩;simp only[ZA,C]at hi;obtain⟨⟨k',x',b'⟩,he,hq⟩:=hi;simp only[ZO]at hq;obtain⟨rfl,rfl,rfl⟩:=hq;obtain⟨e,c1,c2,c3,c4⟩:=h4 i k' x' b' he;exact⟨e,c1,c2,c3,c4.Ya hM hf⟩
 |tmap k v l=>obtain⟨p,arr,h1,h2,h3,h4⟩:=h;refine⟨p,arr,hs.trans h1,(hw p h1).trans h2,h3,fun i kk x b hi=>?_⟩;obtain⟨e,c1,c2,c3,c4⟩:=h4 i kk x b hi;refine⟨e,c1,c2,c3,?_⟩;have:=c4.Ya hM hf;rw[Vg]at hi;simp only[C,ZO]at hi;obtain⟨y,_,_,rfl,_⟩:=hi;rwa[Qe.Ys2]at this
 |iter str pos=>obtain⟨p,h1,h2⟩:=h;exact⟨p,hs.trans h1,(hw p h1).trans h2⟩
 |loop l=>obtain⟨p,fn,tmps,q,h1,h2,h3,h4⟩:=h;refine⟨p,fn,tmps,q,hs.trans h1,(hw p h1).trans h2,h3,fun t x hx=>?_⟩;rw[TT.get_map,C]at hx;obtain⟨y,hy,rfl⟩:=hx;exact(h4 t y hy).Ya hM hf
 |mit m c sn=>
  obtain⟨p,q,sn,h1,h2,h3,h4⟩:=h;refine⟨p,q,sn,hs.trans h1,(hw p h1).trans h2,h3,fun mm e=>?_⟩;cases m with
  |none=>cases e
  |some x=>have e:f x=some mm:=e;obtain⟨pm,a,b⟩:=h4 x rfl;exact⟨pm,hf x mm pm e a,b⟩
 |over st pd=>obtain⟨p,r,h1,h2,h3⟩:=h;exact⟨p,r,hs.trans h1,(hw p h1).trans h2,h3⟩
 |dfr shut=>obtain⟨p,h1,h2⟩:=h;exact⟨p,hs.trans h1,(hw p h1).trans h2⟩
def Qax:List Nat->Nat->Nat->Option Nat
 |[],_,_=>none
 |a::l,i,s=>match ZF a s with
  |true=>some i
  |false=>Qax l (i+1) s
theorem Zef:∀{l:List Nat} {i s t:Nat},Qax l i s=some t->i<=t∧l[t-i]? =some s
 |a::l,i,s,t,h=>by
  unfold Qax at h;split at h
  ·rename_i e;cases h;rw[ZB e];simp
  ·obtain⟨h1,h2⟩:=Zef h;refine⟨by omega,?_⟩;rw[show t-i=(t-(i+1))+1 by omega,List.getElem?_cons_succ];exact h2
def Qvq(O:List Nat)(n n0:Nat):Bool:=ZF O.length n&&decide O.Nodup
def Qku(O:List Nat)(n0:Nat):List Nat:=(ZV n0).filter fun i=>match O[i]? with
 |some o=>! ZF o i
 |none=>true
theorem Zte{O:List Nat}{n0 i:Nat}(hi:i<n0)(h:i∉Qku O n0):O[i]? =some i:=by
 unfold Qku at h;rw[ZZ,Q2]at h;split at h
 ·rename_i o e;rw[e];cases hb:ZF o i with
  |true=>rw[ZB hb]
  |false=>rw[hb]at h;exact absurd ⟨hi,rfl⟩ h
 ·exact absurd ⟨hi,rfl⟩ h
def Qxg(O:List Nat)(s:St):St:=
 {T:=s.T.map (SV.Ya (Qax O 0)),H:=O.map fun o=>match s.H[o]? with
   |some x=>x.Ya (Qax O 0)
   |none=>.dead,n0:=s.n0,tch:=Qku O s.n0++s.tch,fg:=Qku O s.n0++s.fg,marks:=s.marks,er:=s.er}
theorem Zr3{R:Option Nat}{P:Program}{nt:Nat}{c:Code}{Q:Exit->St->Prop}{s:St}{O:List Nat}(hm:s.marks=[])(hσ:Qvq O s.H.length s.n0=true)(h:Zj R P nt c Q (Qxg O s)):Zj R P nt c Q s:=by
 simp only[Qvq,I,decide_eq_true_eq]at hσ;obtain⟨h1,h2⟩:=hσ;have h1:O.length=s.H.length:=ZB h1;have h3:∀i,i<s.n0->i∉Qku O s.n0->O[i]? =some i:=fun i hi hx=>Zte hi hx;refine Zj.Qem (fun B M U a w hg=>⟨fun t=>match O[t]? with
  |some o=>U o
  |none=>none,?_,?_⟩) h
 all_goals
  have hat:∀t o:Nat,O[t]? =some o->(match O[t]? with
   |some o=>U o
   |none=>none)=U o:=fun t o e=>by rw[e]
  have hf:∀(s' t:Nat) (p:Place),Qax O 0 s'=some t->U s'=some p->(match O[t]? with
   |some o=>U o
   |none=>none)=some p:=fun s' t p e hp=>by
   have:=(Zef e).2;rw[Nat.sub_zero]at this;rw[this];exact hp
  have hobj:∀(t:Nat) (x:Qb),(O.map fun o=>match s.H[o]? with
   |some x=>x.Ya (Qax O 0)
   |none=>.dead)[t]? =some x->∃o,O[t]? =some o∧(x=.dead∨∃y,s.H[o]? =some y∧x=y.Ya (Qax O 0)):=fun t x hx=>by
   rw[ZA,C]at hx;obtain⟨o,ho,hx⟩:=hx;refine⟨o,ho,?_⟩;split at hx
   ·rename_i y hy;exact .inr ⟨y,hy,hx.symm⟩
   ·exact .inl hx.symm
  have hm':=hg.mem
 ·refine⟨fun t x hx=>?_,hg.sz,⟨hm'.imm,fun t x hx=>?_,fun t x p b hx hl hp hb=>?_,fun t t' x x' p p' b hx hx' hl hl' hp hp' hb hb'=>?_,fun t ht=>?_,fun t x p b hx hl hp hb=>?_⟩,?_,fun m hmm=>?_,?_,hg.fix⟩
  ·have hx:(s.T.map (SV.Ya (Qax O 0))).get t=some x:=hx;rw[TT.get_map,C]at hx;obtain⟨y,hy,rfl⟩:=hx;exact(hg.tm t y hy).Ya M.le_refl hf
  ·obtain⟨o,ho,hx⟩:=hobj t x hx;rcases hx with rfl|⟨y,hy,rfl⟩
   ·trivial
   ·exact(hm'.own o y hy).Ya M.le_refl hf (hat t o ho) fun _ _ _ _=>rfl
  ·obtain⟨o,ho,hx⟩:=hobj t x hx;rcases hx with rfl|⟨y,hy,rfl⟩
   ·cases hl
   ·rw[Uj]at hl;exact hm'.seps o y p b hy hl ((hat t o ho).symm.trans hp) hb
  ·obtain⟨o,ho,hx⟩:=hobj t x hx;obtain⟨o',ho',hx'⟩:=hobj t' x' hx';rcases hx with rfl|⟨y,hy,rfl⟩
   ·cases hl
   ·rcases hx' with rfl|⟨y',hy',rfl⟩
    ·cases hl'
    ·rw[Uj]at hl hl';have:=hm'.diss o o' y y' p p' b hy hy' hl hl' ((hat t o ho).symm.trans hp) ((hat t' o' ho').symm.trans hp') hb hb';subst this;obtain⟨a1,a2⟩:=ZC.1 ho;obtain⟨b1,b2⟩:=ZC.1 ho';exact(List.getElem_inj (h₀:=a1) (h₁:=b1) h2).1 (a2.trans b2.symm)
  ·have ht:O.length<=t:=by simpa[Qxg]using ht
   rw[List.getElem?_eq_none ht]
  ·obtain⟨o,ho,hx⟩:=hobj t x hx;rcases hx with rfl|⟨y,hy,rfl⟩
   ·cases hl
   ·rw[Uj]at hl;exact hm'.lts o y p b hy hl ((hat t o ho).symm.trans hp) hb
  ·have:=hg.df;rw[hm]at this;show Qh5 _ s.marks _;rw[hm];exact⟨this.1,fun i d q _ hq=>by simp at hq⟩
  ·have hmm:m∈s.marks:=hmm;rw[hm]at hmm;cases hmm
  ·show s.n0<=(O.map _).length;rw[QF,h1];exact hg.nle
 ·refine⟨⟨M.le_refl,fun b o e e'=>(by rw[e]at e';cases e'),fun b hb=>?_,fun _ _ _=>rfl,ZM _,fun i o hi hx ho hl=>?_,fun i hi hx=>?_,rfl,rfl⟩,rfl,fun _ h=>ZI _ h,fun _ h=>ZI _ h⟩
  ·obtain⟨t,x,p,hx,hl,hp,hb⟩:=hb;obtain⟨o,ho,hx⟩:=hobj t x hx;rcases hx with rfl|⟨y,hy,rfl⟩
   ·cases hl
   ·rw[Uj]at hl;exact .inr ⟨o,y,p,hy,hl,(hat t o ho).symm.trans hp,hb⟩
  ·refine⟨⟨o.Ya (Qax O 0),?_,by rw[Uj];exact hl⟩,fun p hp=>?_⟩
   ·show(O.map _)[i]? =_;rw[ZA,(h3 i hi fun hy=>hx (ZH _ hy))];simp[ho]
   ·rw[hat i i ((h3 i hi fun hy=>hx (ZH _ hy)))]
    first|exact hp|exact⟨hp,fun _ _=>rfl⟩|simp_all
  ·exact hat i i ((h3 i hi fun hy=>hx (ZH _ hy)))
def Qhg(T:TT):List Nat->List Nat
 |[]=>[]
 |t::l=>match T.get t with
  |some (.ptr k _ _ _)=>k::Qhg T l
  |some (.sl k _ _ _)=>k::Qhg T l
  |_=>Qhg T l
def Zgh(slots:List Nat)(s:St):List Nat:=((ZV s.H.length).filter fun i=>!(Qhg s.T slots).contains i)++Qhg s.T slots
def Zc7(slots:List Nat)(s:St):List Nat:=match slots with
 |[k,t]=>match ZW 10000 k with
  |true=>match Qhg s.T [t]with
   |[o]=>(ZV s.H.length).map fun i=>bif ZF i (k-10000)then o else bif ZF i o then k-10000 else i
   |_=>ZV s.H.length
  |false=>Zgh slots s
 |_=>Zgh slots s
end Go.Sx
end
section
namespace Go.Sx
open Go
theorem Qf.sim{M M':Qd}{U U':Env}(hM:M.le M')(hρ:Env.Qjs [] U U'){v:Value}{x:SV}(h:Qf M U v x):Qf M' U' v x:=by have:=h.Qaf hM hρ;rwa[SV.Uc]at this
theorem Q9.sim{M M':Qd}{U U':Env}{w:World}{s:Nat}{o:Qb}(hM:M.le M')(hρ:Env.Qjs [] U U')(hs:U' s=U s)(h:Q9 M U w s o):Q9 M' U' w s o:=by have:=h.Qaf hM hρ hs (fun _ _ _ _=>rfl);rwa[Qb.Uc]at this
theorem Kd.pure{M M':Qd}{U U':Env}{w:World}{p:Place}{ty sz n:Nat}{rows:List (List PV)}{subs:List Nat}(hM:M.le M')(h:Kd M U w p ty sz n (Ys rows)):Kd M' U' w ⟨p.block,p.cap,subs⟩ ty sz n (Ys rows):=by
 obtain⟨cs,a1,a2,a3,a4,a5,a6⟩:=h.ex;refine⟨cs,a1,a2,a3,a4,fun i j x v hx hv=>?_,a6⟩;obtain⟨b1,b2,b3⟩:=a5 i j x v hx hv;refine⟨b1,b2,?_⟩;unfold Ys at hx;simp only[C]at hx;obtain⟨q,_,rfl⟩:=hx;cases b3 with
 |pv b3=>exact .pv (b3.mono hM)
theorem Mem.re{M:Qd}{U U':Env}{H H':List Qb}{w:World}(hm:Mem M U H w)(hown:∀s o,H'[s]? =some o->Q9 M U' w s o)
  (hsrc:∀s o p b,H'[s]? =some o->o.live=true->U' s=some p->p.has b->∃s0 o0 p0,H[s0]? =some o0∧o0.live=true∧U s0=some p0∧p0.has b)
  (hdis:∀s s' o o' p p' b,H'[s]? =some o->H'[s']? =some o'->o.live=true->o'.live=true->U' s=some p->U' s'=some p'->p.has b->p'.has b->s=s')
  (hfresh:∀s,H'.length<=s->U' s=none):Mem M U' H' w:=
 ⟨hm.imm,hown,fun s o p b h1 h2 h3 h4=>let⟨s0,o0,p0,a,b',c,d⟩:=hsrc s o p b h1 h2 h3 h4;hm.seps s0 o0 p0 b a b' c d,hdis,hfresh,
  fun s o p b h1 h2 h3 h4=>let⟨s0,o0,p0,a,b',c,d⟩:=hsrc s o p b h1 h2 h3 (.inr h4);hm.J0 a b' c d⟩
theorem Fr.re{M:Qd}{U U':Env}{H H':List Qb}{w:World}{n:Nat}{t f:List Nat}
  (hsrc:∀s o p b,H'[s]? =some o->o.live=true->U' s=some p->p.has b->∃s0 o0 p0,H[s0]? =some o0∧o0.live=true∧U s0=some p0∧p0.has b)
  (hk:∀s o,s<n->s∉t->H[s]? =some o->o.live=true->(∃o',H'[s]? =some o'∧o'.live=true)∧U' s=U s) (hs:∀s,s<n->s∉f->U' s=U s):Fr M U H w M U' H' w n t f:=
 ⟨M.le_refl,fun b o h h'=>by(rw[h]at h';cases h'),fun b ⟨s,o,p,h1,h2,h3,h4⟩=>.inr (hsrc s o p b h1 h2 h3 h4),fun _ _ _=>rfl,ZM _,
  fun s o h1 h2 h3 h4=>⟨(hk s o h1 h2 h3 h4).1,fun p hp=>⟨by rw[(hk s o h1 h2 h3 h4).2];exact hp,fun _ _=>rfl⟩⟩,hs,rfl,rfl⟩
theorem Qh5.sim{U U':Env}{marks:List Nat}{ds:List Deferred}(hρ:Env.Qjs [] U U')(h:Qh5 U marks ds):Qh5 U' marks ds:=
 ⟨h.1,fun i d s hd hs=>let⟨p,h1,h2⟩:=h.2 i d s hd hs;let⟨p',g1,g2,_⟩:=hρ s p rfl h1;⟨p',g1,by rw[g2];exact h2⟩⟩
open Classical in
def TI.Yst(b:Bool)(i:TI):TI:={i with row:=match b with
 |true=>none
 |false=>i.row}
def Cx.raw(e:Nat)(cx:Cx):Cx:={P:=cx.P,tab:=cx.tab.map fun x=>(x.1,x.2.Yst (ZF x.1 e)),fns:=cx.fns}
def Qoy(slot:Nat)(s:St):Option St:=match s.T.get slot with
 |some (.sl d sz st n)=>some {s with T:=s.T.set slot (.slb d sz st n n)}
 |_=>none
def Qo8(slot:Nat)(s:St):Option St:=match s.T.get slot with
 |some (.slb d sz st n _)=>some {s with T:=s.T.set slot (.sl d sz st n)}
 |_=>none
theorem Zh6{R:Option Nat}{P:Program}{nt:Nat}{c:Code}{Q:Exit->St->Prop}{s:St}{slot:Nat}{x y:SV}(hx:s.T.get slot=some x)(hi:∀M U v,Qf M U v x->Qf M U v y)(h:Zj R P nt c Q {s with T:=s.T.set slot y}):Zj R P nt c Q s:=by
 refine Zj.Qem (s':={s with T:=s.T.set slot y}) (fun B M U a w hg=>⟨U,⟨fun t z hz=>?_,hg.sz,hg.mem,hg.df,hg.mks,hg.nle,hg.fix⟩,⟨Fr.refl ..,rfl,fun _ h=>h,fun _ h=>h⟩⟩) h;rcases TT.W6 _ _ _ _ _ hz with⟨rfl,rfl⟩|⟨_,hz⟩
 ·exact hi _ _ _ (hg.tm _ _ hx)
 ·exact hg.tm t z hz
theorem Yiq{R:Option Nat}{P:Program}{nt:Nat}{c:Code}{Q:Exit->St->Prop}{s s':St}{slot:Nat}(hs:Qoy slot s=some s')(h:Zj R P nt c Q s'):Zj R P nt c Q s:=by
 unfold Qoy at hs;split at hs
 ·rename_i d sz st n hx;cases hs;refine Zh6 hx (fun M U v hr=>?_) h;refine .slb _ _ _ _ _ hr ?_;cases hr with
  |sl _ _ _ _ c k p hp hk hc hn h6=>exact⟨_,_,_,rfl,hn⟩
  |slz=>exact⟨_,_,_,rfl,ZM _⟩
 ·cases hs
theorem Zs2{R:Option Nat}{P:Program}{nt:Nat}{c:Code}{Q:Exit->St->Prop}{s s':St}{slot:Nat}(hs:Qo8 slot s=some s')(h:Zj R P nt c Q s'):Zj R P nt c Q s:=by
 unfold Qo8 at hs;split at hs
 ·rename_i d sz st n m hx;cases hs;exact Zh6 hx (fun M U v hr=>hr.unslb) h
 ·cases hs
end Go.Sx
end
namespace Go.Sx
open Go
def Qu8(j:Nat)(lit:ByteArray):SV->Option (Bool×SV)
 |.agg l=>match l[j]? with
  |some (.pv (.lit (.string x)))=>some (Qc x lit,.agg (l.set j (.pv (.lit (.string lit)))))
  |_=>none
 |.pv (.lit (.string x))=>some (Qc x lit,.pv (.lit (.string lit)))
 |_=>none
theorem Ycu{j:Nat}{lit:ByteArray}{x y:SV}{c:Bool}(h:Qu8 j lit x=some (c,y))(hc:c=true):y=x:=by
 unfold Qu8 at h;split at h
 ·rename_i l;split at h
  ·rename_i z hz;cases h;have e:=of_decide_eq_true hc;subst e;congr 1;apply QD;intro i;rw[ZG];split
   ·rename_i e;subst e;rw[hz,if_pos (ZC.1 hz).1]
   ·rfl
  ·cases h
 ·cases h;have e:=of_decide_eq_true hc;subst e;rfl
 ·cases h
def Qxs(j:Nat)(lit:ByteArray)(r:List PV):Option (Bool×List PV):=match r[j]? with
 |some (.lit (.string x))=>some (Qc x lit,r.set j (.lit (.string lit)))
 |_=>none
theorem set_self{α:Type}{r:List α}{j:Nat}{z:α}(h:r[j]? =some z):r.set j z=r:=by
 apply QD;intro i;rw[ZG];split
 ·rename_i e;subst e;rw[h,if_pos (ZC.1 h).1]
 ·rfl
theorem Yg0{j:Nat}{lit:ByteArray}{r q:List PV}{c:Bool}(h:Qxs j lit r=some (c,q))(hc:c=true):q=r:=by
 unfold Qxs at h;split at h
 ·rename_i x hx;cases h;have e:=of_decide_eq_true hc;subst e;exact set_self hx
 ·cases h
def Qyv(j:Nat)(lit:ByteArray):Qb->Option (Bool×Qb)
 |.vec ty sz [r]=>match Qxs j lit r with
  |some p=>some (p.1,.vec ty sz [p.2])
  |none=>none
 |_=>none
theorem Yry{j:Nat}{lit:ByteArray}{o o':Qb}{c:Bool}(h:Qyv j lit o=some (c,o'))(hc:c=true):o'=o:=by
 unfold Qyv at h;split at h
 ·split at h
  ·rename_i p hp;cases h;rw[Yg0 (c:=p.1) (q:=p.2) hp hc]
  ·cases h
 ·cases h
def Qnu(slot j:Nat)(lit:ByteArray)(s:St):Option (Bool×St):=match s.T.get slot with
 |some (.ptr sid _ _ _)=>match s.H[sid]? with
  |some o=>match Qyv j lit o with
   |some p=>some (p.1,{s with H:=s.H.set sid p.2})
   |none=>none
  |none=>none
 |some x=>match Qu8 j lit x with
  |some p=>some (p.1,{s with T:=s.T.set slot p.2})
  |none=>none
 |none=>none
theorem Zwd{R:Option Nat}{P:Program}{nt:Nat}{c:Code}{Q:Exit->St->Prop}{s:St}{slot j:Nat}{lit:ByteArray}{p:Bool×St}(hs:Qnu slot j lit s=some p)(hc:p.1=true)(h:Zj R P nt c Q p.2):Zj R P nt c Q s:=by
 unfold Qnu at hs;split at hs
 ·rename_i sid _ _ _ hx;split at hs
  ·rename_i o ho;split at hs
   ·rename_i q hq;cases hs;have e:=Yry (c:=q.1) (o':=q.2) hq hc;have e2:s.H.set sid q.2=s.H:=by rw[e];exact set_self ho
    have h:Zj R P nt c Q {s with H:=s.H.set sid q.2}:=h;rw[e2]at h;exact h
   ·cases hs
  ·cases hs
 ·rename_i x _ hx;split at hs
  ·rename_i q hq;cases hs;have e:=Ycu hq hc;refine Zj.Qem (s':={s with T:=s.T.set slot q.2}) (fun B M U a w hg=>⟨U,?_,⟨Fr.refl ..,rfl,fun _ h=>h,fun _ h=>h⟩⟩) h;refine⟨fun t z hz=>?_,hg.sz,hg.mem,hg.df,hg.mks,hg.nle,hg.fix⟩;rcases TT.W6 _ _ _ _ _ hz with⟨e1,e2⟩|⟨_,hz⟩
   ·have hh:=hg.tm _ _ hx;rw[<-e,<-e2,<-e1]at hh;exact hh
   ·exact hg.tm _ _ hz
  ·cases hs
 ·cases hs
def Ww(n:Nat)(seen:List Nat):List Nat:=(ZV n).filter fun j=>!seen.contains j
def Qkr{Y:Type}(eq:Y->Y->Bool)(f:Nat->Option Y):List Nat->Option Y
 |[]=>none
 |[j]=>f j
 |j::j'::l=>both eq (f j) (Qkr eq f (j'::l))
theorem Zfq{Y:Type}{eq:Y->Y->Bool}(he:Y3 eq){f:Nat->Option Y}{y:Y}:∀{l:List Nat},Qkr eq f l=some y->∀j∈l,f j=some y
 |[],h,j,hj=>by cases hj
 |[i],h,j,hj=>by rw[QC.1 hj];exact h
 |i::i'::l,h,j,hj=>by
  obtain⟨h1,h2⟩:=Qzv he h;rcases List.mem_cons.1 hj with rfl|hj
  ·exact h1
  ·exact Zfq he h2 j hj
theorem Zjn{Y:Type}{eq:Y->Y->Bool}(he:∀y,eq y y=true){f:Nat->Option Y}{y:Y}:∀{l:List Nat},l≠[]->(∀j∈l,f j=some y)->Qkr eq f l=some y
 |[],h,_=>absurd rfl h
 |[i],_,h=>h i (by simp)
 |i::i'::l,_,h=>by simp only[Qkr,h i (by simp),Zjn he (l:=i'::l) (by simp) fun j hj=>h j (by simp[hj]),both,he]
def Vj{O β Y:Type}(eq:Y->Y->Bool)(left:O->Nat×List Nat)(nil:O->Option (O ⊕ β))(step:O->Nat->Option (O ⊕ β))(K:β->Option Y):Nat->O->Option Y
 |0,_=>none
 |F+1,x=>match Ww (left x).1 (left x).2 with
  |[]=>match nil x with
   |some (.inr b)=>K b
   |_=>none
  |j::l=>Qkr eq (fun j=>match step x j with
   |none=>none
   |some (.inl z)=>Vj eq left nil step K F z
   |some (.inr b)=>K b) (j::l)
theorem TT.Qz7:∀(k d:Nat) (x:SV),d+1<2 ^ k->(TT.one k d x).get d=some x
 |0,d,x,h=>by simp at h
 |k+1,d,x,h=>by
  rw[Nat.pow_succ]at h;by_cases d0:d=0
  ·subst d0;rfl
  ·by_cases hd:d%2=1
   ·simp only[TT.one,Y5 d0,W1 hd,cond_true,cond_false,TT.get];exact TT.Qz7 k _ x (by omega)
   ·simp only[TT.one,Y5 d0,Y5 hd,cond_true,cond_false,TT.get];exact TT.Qz7 k _ x (by omega)
theorem TT.Qtn:∀(T:TT) (d:Nat) (x:SV),d<4000->(T.set d x).get d=some x
 |.nil,d,x,h=>TT.Qz7 12 d x (by omega)
 |.node l v r,d,x,h=>by
  by_cases d0:d=0
  ·subst d0;rfl
  ·by_cases hd:d%2=1
   ·simp only[TT.set,Y5 d0,W1 hd,cond_true,cond_false,TT.get];exact TT.Qtn l _ x (by omega)
   ·simp only[TT.set,Y5 d0,Y5 hd,cond_true,cond_false,TT.get];exact TT.Qtn r _ x (by omega)
theorem TT.Qth:∀(T:TT) (d t:Nat) (x:SV),t≠d->(T.set d x).get t=T.get t
 |.nil,d,t,x,h=>by
  cases e:(TT.set .nil d x).get t with
  |none=>rfl
  |some y=>exact absurd (TT.Qtf 12 d t x y e).1 h
 |.node l v r,d,t,x,h=>by
  by_cases d0:d=0
  ·subst d0;have e0:TT.set (.node l v r) 0 x=.node l (some x) r:=rfl;rw[e0];simp only[TT.get,Y5 h,cond_false]
  ·by_cases t0:t=0
   ·subst t0;have e2:∀l r,TT.get (.node l v r) 0=v:=fun _ _=>rfl;by_cases hd:d%2=1
    ·simp only[TT.set,Y5 d0,W1 hd,cond_true,cond_false,e2]
    ·simp only[TT.set,Y5 d0,Y5 hd,cond_true,cond_false,e2]
   ·by_cases hd:d%2=1<;>by_cases ht:t%2=1
    ·simp only[TT.set,Y5 d0,W1 hd,cond_true,cond_false,TT.get,Y5 t0,W1 ht];exact TT.Qth l _ _ x (by omega)
    ·simp only[TT.set,Y5 d0,W1 hd,cond_true,cond_false,TT.get,Y5 t0,Y5 ht]
    ·simp only[TT.set,Y5 d0,Y5 hd,cond_true,cond_false,TT.get,Y5 t0,W1 ht]
    ·simp only[TT.set,Y5 d0,Y5 hd,cond_true,cond_false,TT.get,Y5 t0,Y5 ht];exact TT.Qth r _ _ x (by omega)
structure Mit where
 so:Nat
 m:Nat
 c:Nat
 n:Nat
 seen:List Nat
def Qfg(s:St)(x:Operand):Option Mit:=match s.ev x with
 |.ptr so 0 0 0=>match s.H[so]? with
  |some (.mit (some m) c seen)=>match s.H[m]? with
   |some (.tmap k v l)=>some ⟨so,m,c,l.length,seen⟩
   |_=>none
  |_=>none
 |_=>none
theorem Zsm{s:St}{x:Operand}{q:Mit}(h:Qfg s x=some q):s.ev x=.ptr q.so 0 0 0∧s.H[q.so]? =some (.mit (some q.m) q.c q.seen)∧∃k v l,s.H[q.m]? =some (.tmap k v l)∧q.n=l.length:=by
 unfold Qfg at h;split at h
 ·rename_i so e1;split at h
  ·rename_i m c seen e2;split at h
   ·rename_i k v l e3;cases h;exact⟨e1,e2,k,v,l,e3,rfl⟩
   ·cases h
  ·cases h
 ·cases h
def Qoe(nt:Nat)(ops:Array Oper):Option (Operand×Nat×Nat):=match ops.toList with
 |[o1,o2]=>match o1.op,o1.dst,o1.guard,o2.op,o2.dst,o2.guard with
  |.next x false,some d,none,.extract (.tmp d') 0,some d2,none=>match ZF d d'&& ! ZF d d2&&ZX d nt&&ZX d2 nt&&ZX d 4000&&ZX d2 4000 with
   |true=>some (x,d,d2)
   |false=>none
  |_,_,_,_,_,_=>none
 |_=>none
theorem Ygp{nt:Nat}{ops:Array Oper}{x:Operand}{d d2:Nat}(h:Qoe nt ops=some (x,d,d2)):∃o1 o2:Oper,ops.toList=[o1,o2]∧o1.op=.next x false∧o1.dst=some d∧o1.guard=none∧o2.op=.extract (.tmp d) 0∧o2.dst=some d2∧o2.guard=none∧d≠d2∧d<nt∧d2<nt∧d<4000∧d2<4000:=by
 unfold Qoe at h;split at h
 ·rename_i o1 o2 e;split at h
  ·rename_i y i d3 e1 e2 e3 e4 e5 e6;split at h
   ·rename_i hc;cases h;simp only[I,ZS,ZY]at hc;obtain⟨⟨⟨⟨⟨h1,h2⟩,h3⟩,h4⟩,h5⟩,h6⟩:=hc;have h1:=ZB h1;subst h1;refine⟨o1,o2,e,e1,e2,e3,e4,e5,e6,fun e=>?_,h3,h4,h5,h6⟩;rw[W1 e]at h2;cases h2
   ·cases h
  ·cases h
 ·cases h
def Zah(s:St)(d d2:Nat)(q:Mit)(j:Nat):St:=(s.step (some d) .any (s.H.set q.so (.mit (some q.m) q.c (q.seen++[j]))) [q.so] []).put (some d2) (.lit (.bool true))
def Zhh(s:St)(d d2:Nat):St:=(s.put (some d) .any).put (some d2) (.lit (.bool false))
theorem Yij{B:Nat->Value}{nt:Nat}{M:Qd}{U:Env}{T:TT}{H:List Qb}{n0:Nat}{tch fg marks er:List Nat}{a:Act}{w:World}{d d2:Nat}{y z:SV}(hd:d≠d2)(h2:d2<4000)
  (h:Good B nt M U ⟨(T.set d y).set d2 z,H,n0,tch,fg,marks,er⟩ a w):Good B nt M U ⟨(T.set d .any).set d2 z,H,n0,tch,fg,marks,er⟩ a w:=by
 refine⟨fun t x hx=>?_,h.sz,h.mem,h.df,h.mks,h.nle,h.fix⟩;rcases TT.W6 _ _ _ _ _ hx with⟨rfl,rfl⟩|⟨ht,hx⟩
 ·exact h.tm _ _ (TT.Qtn _ _ _ h2)
 ·rcases TT.W6 _ _ _ _ _ hx with⟨rfl,rfl⟩|⟨ht',hx⟩
  ·exact .any _
  ·exact h.tm t x (by rw[TT.Qth _ _ _ _ ht,TT.Qth _ _ _ _ ht'];exact hx)
theorem Zq6{R:Option Nat}{P:Program}{nt:Nat}{c:Code}{Q:Exit->St->Prop}{T:TT}{H:List Qb}{n0:Nat}{tch fg marks er:List Nat}{d d2:Nat}{y z:SV}(hd:d≠d2)(h2:d2<4000)
  (h:Zj R P nt c Q ⟨(T.set d .any).set d2 z,H,n0,tch,fg,marks,er⟩):Zj R P nt c Q ⟨(T.set d y).set d2 z,H,n0,tch,fg,marks,er⟩:=
 Zj.Qem (fun B M U a w hg=>⟨U,Yij hd h2 hg,⟨Fr.refl ..,rfl,fun _ h=>h,fun _ h=>h⟩⟩) h
theorem Zkr{s m c:Nat}{seen:List Nat}{H:List Qb}{K:Qv}:∀{l:List (Value×SV×Nat)},(l=[]->K (.tup [.lit (.bool false)]) H [] [])->
  (∀e∈l,K (.tup [.lit (.bool true),.lit e.1,e.2.1]) (H.set s (.mit (some m) c (seen++[e.2.2]))) [s] [])->(Qlo s m c seen H l).holds H K
 |[],h0,h=>h0 rfl
 |[e],h0,h=>h e (by simp)
 |e::e'::l,h0,h=>⟨h e (by simp),Zkr (l:=e'::l) (fun h=>by cases h) fun x hx=>h x (by simp[hx])⟩
theorem Yo3{cx:Cx}(hcx:cx.Ok){R:Option Nat}{nt id:Nat}{ops:Array Oper}{rest:Code}{Q:Exit->St->Prop}{s:St}{x:Operand}{d d2:Nat}{q:Mit}(hh:Qoe nt ops=some (x,d,d2))(hq:Qfg s x=some q)(hc:q.c=q.n)
  (h0:Ww q.n q.seen=[]->Zj R cx.P nt rest Q (Zhh s d d2)) (h1:∀j∈Ww q.n q.seen,Zj R cx.P nt rest Q (Zah s d d2 q j)):Zj R cx.P nt (.seq (.region id ops false) rest) Q s:=by
 intro B M U a w hg;have hnle:=hg.nle;obtain⟨o1,o2,hops,p1,p2,p3,r1,r2,r3,hne,hdn,hd2n,hd,hd2⟩:=Ygp hh;obtain⟨m1,m2,k,v,l,m3,m4⟩:=Zsm hq;obtain⟨T,H,n0,tch,fg,marks,er⟩:=s;refine Zcc (Quv hcx ?_) B M U a w hg;rw[hops];have key:∀(y:List SV) (b:Bool) (H':List Qb) (t:List Nat),y[0]? =some (.lit (.bool b))->Zj R cx.P nt rest Q ⟨(T.set d .any).set d2 (.lit (.bool b)),H',n0,t,fg,marks,d2::d::er⟩->
   Qcv cx nt ops [o2] ⟨T.set d (.tup y),H',n0,t,fg,marks,d::er⟩ (Qqb (Zj R cx.P nt rest Q) Q .normal):=by
  intro y b H' t hy hk;simp only[Qcv,Ur,r3];refine⟨by rw[r1];rfl,?_⟩;have hev:St.ev ⟨T.set d (.tup y),H',n0,t,fg,marks,d::er⟩ (.tmp d)=.tup y:=by simp only[St.ev,TT.Qtn _ _ _ hd,ZU]
  unfold opP;rw[r1];simp only[Qe2,sop,r1,hev,hy];refine .inl ⟨by rw[r2];show ZX d2 nt=true;rw[ZY];exact hd2n,rfl,rfl,rfl,?_⟩;rw[r2];exact Zq6 hne hd2 hk
 simp only[Qcv,Ur,p3];refine⟨by rw[p1];rfl,?_⟩;unfold opP;rw[p1];simp only[Qe2,sop,p1,Bool.false_eq_true,if_false];unfold Qr6;have m1:St.ev ⟨T,H,n0,tch,fg,marks,er⟩ x=.ptr q.so 0 0 0:=m1;have m2:H[q.so]? =some (.mit (some q.m) q.c q.seen):=m2;have m3:H[q.m]? =some (.tmap k v l):=m3;rw[m1];simp only[m2,m3,Qb.Qjq];refine⟨?_,Zkr (fun he=>?_) fun e he=>?_⟩
 ·rw[I,ZJ];refine⟨W1 (by rw[hc,m4]),fun e he=>?_⟩;obtain⟨i,hi⟩:=ZN.1 he;rw[Vg]at hi;cases hl:l[i]? with
  |none=>rw[hl]at hi;cases hi
  |some z=>rw[hl]at hi;cases hi;rw[ZY,hc,m4,ZR];exact(ZC.1 hl).1
 ·refine .inl ⟨by rw[p2];show ZX d nt=true;rw[ZY];exact hdn,rfl,rfl,rfl,?_⟩;rw[p2];refine key _ false _ _ rfl (h0 ?_);unfold Ww;rw[List.filter_eq_nil_iff]at he⊢;intro j hj;rw[Q2,m4]at hj;exact he (k.Z5 l[j].1,v.raw l[j].2,j) (ZN.2 ⟨j,by rw[Vg,ZK hj];simp⟩)
 ·rw[ZZ]at he;obtain⟨he,hs⟩:=he;obtain⟨i,hi⟩:=ZN.1 he;rw[Vg]at hi;cases hl:l[i]? with
  |none=>rw[hl]at hi;cases hi
  |some z=>
   rw[hl]at hi;cases hi;have hi:=(ZC.1 hl).1;refine .inr ⟨?_,?_⟩
   ·rw[p2];simp only[Qd7,J1,I,List.isEmpty_nil,Bool.true_or,ZY];refine⟨⟨hdn,trivial⟩,?_⟩;rw[QG];exact Nat.ble_eq_true_of_le hnle
   ·rw[p2];exact key _ true _ _ rfl (h1 _ (by unfold Ww;rw[ZZ,Q2,m4,ZR];rw[ZR]at hs;exact⟨hi,hs⟩))
theorem Yrt{R:Option Nat}{P:Program}{nt:Nat}{c:Code}{Q:Exit->St->Prop}{s:St}{f:Y7}{τ:Qk}{l:Xq}{F:Nat}{x0:τ.El}{Y:Type}{eq:Y->Y->Bool}(he:Y3 eq){y:Y}{K:Zv l->Option Y}
  {left:τ.El->Nat×List Nat} {nil:τ.El->Option (τ.El ⊕ Zv l)} {step:τ.El->Nat->Option (τ.El ⊕ Zv l)}
  (hm:s.marks=[]) (hf:f.ok=true) (hl:K6 f l=true) (hτ:τ.W7 (f.of τ)=true)
  (hround:∀x (G:τ.El ⊕ Zv l->Prop),(Ww (left x).1 (left x).2=[]->∃r,nil x=some r∧G r)->(∀j∈Ww (left x).1 (left x).2,∃r,step x j=some r∧G r)->Zj R P nt c (fun e s'=>∃r,U3 f s.H.length τ l e s'=some r∧G r) (τ.st f.D (f.of τ) f.mv s x))
  (h0:Vc τ f s.H.length s.sub=some x0) (hrun:Vj eq left nil step K F x0=some y) (hne:∀z:Zv l,(Jb f s l z).1≠.normal) (hq:∀z,K z=some y->Q (Jb f s l z).1 (s.outer (Jb f s l z).2)):Zj R P nt (.loop c) Q s:=by
 intro B M U a w hg;have gs:=Qrs hg hm;have hbase:=fun ids=>Qpr hg f.D ids f.mv;let J:Nat->Act->World->Prop:=fun n a' w'=>∃M' U' x,Vj eq left nil step K n x=some y∧Good (Qb2 a) nt M' U' (τ.st f.D (f.of τ) f.mv s x) a' w'∧Fr M U s.H w M' U' (τ.st f.D (f.of τ) f.mv s x).H w' s.H.length (f.of τ) f.mv;refine wpIn_loop (fun a w=>∃n,J n a w) (fun a w=>leastOf (fun n=>J n a w)) ?_ ?_
 ·obtain⟨r1,c',hc,r2⟩:=Qai h0;obtain⟨M'',U'',g1,g2,_⟩:=K4 (b:=s) (H0:=s.H) (M0:=M) (ρ0:=U) (a0:=a) (w0:=w) (fun _ _=>rfl) (hbase _) hg.mem gs (Fr.refl ..) (Qa5 hf) hτ r1 r2 hc;exact⟨F,M'',U'',x0,hrun,g1,g2⟩
 ·intro a1 w1 hI;obtain⟨hJ,hmin⟩:=leastOf_spec hI;obtain⟨M1,ρ1,x,hx,g1,f1⟩:=hJ;generalize hn:leastOf (fun n=>J n a1 w1)=n at hx hmin;cases n with
  |zero=>cases hx
  |succ n=>
   let G:τ.El ⊕ Zv l->Prop:=fun r=>match r with
    |.inl z=>Vj eq left nil step K n z=some y
    |.inr b=>K b=some y
   have hG:Zj R P nt c (fun e s'=>∃r,U3 f s.H.length τ l e s'=some r∧G r) (τ.st f.D (f.of τ) f.mv s x):=by
    refine hround x G (fun hnil=>?_) (fun j hj=>?_)
    ·simp only[Vj,hnil]at hx;split at hx
     ·rename_i b hb;exact⟨_,hb,hx⟩
     ·cases hx
    ·cases hlx:Ww (left x).1 (left x).2 with
     |nil=>rw[hlx]at hj;cases hj
     |cons j0 l0=>
      simp only[Vj,hlx]at hx;have:=Zfq he hx j (by rw[<-hlx];exact hj);split at this
      ·cases this
      ·rename_i z hz;exact⟨_,hz,this⟩
      ·rename_i b hb;exact⟨_,hb,this⟩
   refine wpIn_mono (hG (Qb2 a) M1 ρ1 a1 w1 g1) ?_
   rintro e a2 w2 ⟨M2,ρ2,s2,⟨r,hk,hr⟩,g2,go2⟩
   obtain⟨e1,e2,e3,e4,e5⟩:=Qk.Qek τ f.D (f.of τ) f.mv s x;have f2:Fr M U s.H w M2 ρ2 s2.H w2 s.H.length s2.tch s2.fg:=by have hfr:=go2.fr;rw[e1]at hfr;exact f1.trans hfr (fun z hz=>go2.tch z (by rw[e2];exact hz)) (fun z hz=>hz) (fun z hz=>go2.fg z (by rw[e3];exact hz)) (fun z hz=>hz)
   rcases Zbx hk with⟨z,rfl,rfl,hz⟩|⟨z,rfl,hz⟩
   ·obtain⟨r1,c',hc,r2⟩:=Qai hz;obtain⟨M'',U'',k1,k2,_⟩:=K4 (b:=s) (H0:=s.H) (M0:=M) (ρ0:=U) (a0:=a) (w0:=w) (fun _ _=>rfl) (hbase _) hg.mem g2 f2 (Qa5 hf) hτ r1 r2 hc;have hx':J n a2 w2:=⟨M'',U'',z,hr,k1,k2⟩;show(∃n,J n a2 w2)∧leastOf (fun n=>J n a2 w2)<n+1;exact⟨⟨n,hx'⟩,Nat.lt_succ_of_le ((leastOf_spec ⟨n,hx'⟩).2 n hx')⟩
   ·obtain⟨τ',z',h1,h2,h3⟩:=Qlg (b:=s) hl hz;obtain⟨r1,c',hc,r2⟩:=Qai h2;obtain⟨M'',U'',k1,k2,_⟩:=K4 (b:=s) (H0:=s.H) (M0:=M) (ρ0:=U) (a0:=a) (w0:=w) (fun _ _=>rfl) (hbase _) hg.mem g2 f2 (Qa5 hf) h1 r1 r2 hc;obtain⟨q1,q2,q3,q4,q5⟩:=Qk.Qek τ' f.D (f.of τ') f.mv s z';obtain⟨m1,m2⟩:=Qsl hg hm k1 k2 q1 q2 q3 q4;have hq:=hq z hr;have hne:=hne z;rw[h3]at hq hne;cases e with
    |normal=>exact absurd rfl hne
    |_=>exact⟨M'',U'',_,hq,m1,m2⟩
end Go.Sx
section
namespace Go.Sx
open Go
inductive Zi where
 |leaf
 |one (a:Zi)
 |two (a b:Zi)
 |loop (τ:Qk) (l:Xq) (f:Y7) (F:Nat) (a:Zi)
 |join (l:Xq) (f:Y7) (a:Zi)
 |virt (slot ty:Nat) (row:List Ty) (a:Zi)
 |sealing (k ty:Nat) (row:List Ty) (a:Zi)
 |within (l:List (Nat×Zi))
 |virtF (ob col ty:Nat) (row:List Ty) (a:Zi)
 |weak (k:Nat) (keep:List Nat) (a:Zi)
 |typ (k ty:Nat) (row:List Ty) (a:Zi)
 |phase (τ:Qk) (l:Xq) (f:Y7) (F:Nat) (a b:Zi)
 |norm (slots:List Nat) (a:Zi)
 |low
 |slb (slot:Nat) (a:Zi)
 |unslb (slot:Nat) (a:Zi)
 |cas (slot j:Nat) (lit:ByteArray) (a b:Zi)
 |mloop (τ:Qk) (l:Xq) (f:Y7) (F:Nat) (a:Zi)
def Zi.fst:Zi->Zi
 |.one a=>a
 |.two a _=>a
 |_=>.leaf
def Zi.snd:Zi->Zi
 |.two _ b=>b
 |_=>.leaf
structure Sm where
 pre:List SV->List Qb->Bool
 run:(X:Type)->List SV->List Qb->KO X->Option X
structure Qbu (cx:Cx) (g:Nat) (sm:Sm):Prop where
 fn:∃fn,cx.fns.lookup g=some fn
 ok:∀(X:Type) (args:List SV) (H:List Qb) (k:KO X) (y:X),sm.run X args H k=some y->Xw cx.P g args H fun x H' t f=>k x H' t f=some y
structure Lx where
 ext:List (Nat×Sm)
 anns:List (Nat×Zi)
 still:List Nat
 unk:Option (Nat->Sm):=none
def Sm.first:List (Nat×Sm)->Nat->(X:Type)->List SV->List Qb->KO X->Option X
 |[],_,_,_,_,_=>none
 |q::l,g,X,args,H,k=>match ZF q.1 g with
  |false=>Sm.first l g X args H k
  |true=>match q.2.pre args H with
   |true=>q.2.run X args H k
   |false=>Sm.first l g X args H k
def Lx.has(l:List (Nat×Sm))(g:Nat)(args:List SV)(H:List Qb):Bool:=l.any fun q=>match ZF q.1 g with
 |true=>q.2.pre args H
 |false=>false
structure Lx.Ok (cx:Cx) (lx:Lx):Prop where
 ext:∀q∈lx.ext,Qbu cx q.1 q.2
 unk:lx.unk=none
theorem Sm.Qtj{cx:Cx}:∀{l:List (Nat×Sm)} (_:∀q∈l,Qbu cx q.1 q.2) {g:Nat} {X:Type} {args:List SV} {H:List Qb} {k:KO X} {y:X},Sm.first l g X args H k=some y->(∃fn,cx.fns.lookup g=some fn)∧Xw cx.P g args H fun x H' t f=>k x H' t f=some y
 |[],_,g,X,args,H,k,y,h=>by cases h
 |q::l,hl,g,X,args,H,k,y,h=>by
  simp only[Sm.first]at h;split at h
  ·exact Sm.Qtj (fun q hq=>hl q (ZQ _ hq)) h
  ·rename_i e;have e:=ZB e;subst e;split at h
   ·have:=hl q ZL;exact⟨this.fn,this.ok X args H k y h⟩
   ·exact Sm.Qtj (fun q hq=>hl q (ZQ _ hq)) h
abbrev Jq:=(X:Type)->(X->X->Bool)->Zi->Bool->Nat->Code->St->KX X->Option X
def U0(cx:Cx)(rec:Jq):Prop:=∀(X:Type) (eq:X->X->Bool) (_:Y3 eq) R an top nt c s (k:KX X) (y:X),(top=true->R=none)->rec X eq an top nt c s k=some y->Zj R cx.P nt c (fun e s'=>k e s'=some y) s
section
variable {X:Type}
def Qtx(z:Bool)(H:List Qb)(r:SV)(H':List Qb)(t g:List Nat)(k:KO X):Option X:=
 match g.isEmpty&&(ZW H.length H'.length&&((z||r.free H.length)&&Qol H.length H' t))with
 |true=>match Qm3 H' H.length 1000 r with
  |some r'=>k r' (Qaw t H H') t []
  |none=>k r H' t g
 |false=>k r H' t g
theorem Ztg{z:Bool}{H:List Qb}{r:SV}{H':List Qb}{t g:List Nat}{k:KO X}{y:X}(h:Qtx z H r H' t g k=some y):Left H (fun x H' t f=>k x H' t f=some y) r H' t g:=by
 unfold Qtx at h;split at h
 ·rename_i e;simp only[I,ZE]at e;split at h
  ·rename_i r' hr';exact .inl ⟨e.1,ZD e.2.1,fun s hs o ho _=>Zge e.2.2.2 s hs o ho,r',1000,hr',h⟩
  ·exact .inr h
 ·exact .inr h
def Qdv(cx:Cx)(s:St):List ResultVar->(List SV->Option X)->Option X
 |[],k=>k []
 |.tmp t::rs,k=>Qdv cx s rs fun l=>k (s.ev (.tmp t)::l)
 |.cell a t::rs,k=>(Qef cx.tab s.H t (s.ev (.tmp a))).Kn (fun _ _=>false) (fun x=>Qdv cx s rs fun l=>k (x::l)) fun x _ _ _=>Qdv cx s rs fun l=>k (x::l)
theorem Qgh{cx:Cx}{s:St}{y:X}:∀(rs:List ResultVar) (k:List SV->Option X),Qdv cx s rs k=some y->U8 cx s rs fun l=>k l=some y
 |[],k,h=>h
 |.tmp t::rs,k,h=>Qgh rs _ h
 |.cell a t::rs,k,h=>Qo.Qel (fun _ _ h=>by cases h) (fun x h=>Qgh rs _ h) (fun x _ _ _ h=>Qgh rs _ h) h
def Qki:Exit->Bool
 |.normal=>true
 |.ret=>true
 |_=>false
theorem Qqt{e:Exit}(h:Qki e=true):e=.normal∨e=.ret:=by
 cases e with
 |normal=>exact .inl rfl
 |ret=>exact .inr rfl
 |_=>cases h
def Zba(cx:Cx)(fn:Func)(z:Bool)(H:List Qb)(k:KO X):KX X:=fun e s=>
 gd (Qki e&&(s.marks.isEmpty||ZW H.length s.H.length)) (match shut s.marks s.H with
  |none=>none
  |some H'=>Qdv cx {s with H:=H',marks:=[]} fn.results.toList fun l=>Qtx z H (X6 l) H' s.tch s.fg k)
theorem Ybk{cx:Cx}{fn:Func}{z:Bool}{H:List Qb}{k:KO X}{e:Exit}{s:St}{y:X}(h:Zba cx fn z H k e s=some y):
  (e = .normal ∨ e = .ret) ∧ (H.length <= s.H.length ∨ s.marks = []) ∧ ∃ H',shut s.marks s.H = some H' ∧ U8 cx { s with H := H',marks := [] } fn.results.toList fun l =>
   Left H (fun x H' t f=>k x H' t f=some y) (X6 l) H' s.tch s.fg:=by
 obtain⟨hc,h⟩:=Ym h;simp only[I,Bool.or_eq_true,ZE]at hc;split at h
 ·cases h
 ·rename_i H' hs;exact⟨Qqt hc.1,hc.2.symm.imp (fun h=>ZD h) id,H',hs,Qc7 _ _ _ (fun l hl=>Ztg hl) (Qgh _ _ h)⟩
def Qja(rec:Jq)(eq:X->X->Bool)(ab:Zi)(s:Nat)(args:List SV)(H:List Qb)(k:KO X):Option X:=
 match H[s]? with
 |some (.loop L)=>gd (ZF L.params.toList.length args.length&&L.params.toList.all fun p=>ZX p L.nt) (rec X eq .leaf false L.nt L.assign (Qsw L args H) fun e s1=>match e with
  |.normal=>gd (!s1.fg.contains s&&ZW H.length s1.H.length) (match s1.H[s]? with
   |some (.loop L1)=>gd (isReady L1.state&&L1.pending.isNone) (rec X eq ab false L.nt L.body (Qbc s L1 s1) fun e s2=>match Qyn e with
    |none=>none
    |some jump=>gd (!s2.fg.contains s&&ZW H.length s2.H.length) (match s2.H[s]? with
     |some (.loop L2)=>k (.lit (.bool jump.isNone)) (Qxw s L2 jump s2.H) (Zf6 s jump s2.tch) s2.fg
     |_=>none))
   |_=>none)
  |_=>none)
 |_=>none
theorem Zkv{cx:Cx}{rec:Jq}(hrec:U0 cx rec){eq:X->X->Bool}(he:Y3 eq){ab:Zi}{s:Nat}{args:List SV}{H:List Qb}{k:KO X}{y:X}
  (h:Qja rec eq ab s args H k=some y):Qd6 cx.P s args H fun x H' t f=>k x H' t f=some y:=by
 unfold Qja at h;split at h
 ·rename_i L hH;obtain⟨hc,h⟩:=Ym h;rw[I]at hc;refine Yg5 hH (ZB hc.1) hc.2 fun R=>?_;refine(hrec X eq he R _ false _ _ _ _ y (fun e=>by cases e) h).mono fun e s1 h1=>?_;cases e with
  |normal=>
   obtain⟨hc1,h1⟩:=Ym h1;rw[I]at hc1;split at h1
   ·rename_i L1 hL1;obtain⟨hc2,h1⟩:=Ym h1;rw[I]at hc2;refine⟨rfl,Qlb hc1.1,ZD hc1.2,L1,hL1,Zm5 hc2.1,Option.isNone_iff_eq_none.1 hc2.2,?_⟩;refine(hrec X eq he R _ false _ _ _ _ y (fun e=>by cases e) h1).mono fun e s2 h2=>?_;cases hj:Qyn e with
    |none=>simp only[hj]at h2;cases h2
    |some jump=>
     simp only[hj]at h2;obtain⟨hc3,h2⟩:=Ym h2;rw[I]at hc3;split at h2
     ·rename_i L2 hL2;exact⟨jump,rfl,Qlb hc3.1,ZD hc3.2,L2,hL2,h2⟩
     ·cases h2
   ·cases h1
  |_=>cases h1
 ·cases h
def Lx.Zl1(lx:Lx)(g n:Nat):Option Zi:=match lx.anns.lookup (g+10000000*(n+1))with
 |some a=>some a
 |none=>lx.anns.lookup g
def Qqm(lx:Lx)(g:Nat)(args:List SV)(H:List Qb)(k:KO X):Option X:=match Jj args H with
 |(c,as,S,H1)=>gd c (match Lx.has lx.ext g as H1 with
  |true=>Sm.first lx.ext g X as H1 fun x H' t f=>k x H' (S++t) f
  |false=>match lx.unk with
   |some f=>(f g).run X as H1 fun x H' t f=>k x H' (S++t) f
   |none=>none)
theorem Zrs{cx:Cx}{lx:Lx}(hlx:lx.Ok cx){g:Nat}{args:List SV}{H:List Qb}{k:KO X}{y:X}(h:Qqm lx g args H k=some y):
  (∃fn,cx.fns.lookup g=some fn)∧Xw cx.P g args H fun x H' t f=>k x H' t f=some y:=by
 unfold Qqm at h;obtain⟨hc,h⟩:=Ym (c:=(Jj args H).1) (x:=match Lx.has lx.ext g (Jj args H).2.1 (Jj args H).2.2.2 with
  |true=>Sm.first lx.ext g X (Jj args H).2.1 (Jj args H).2.2.2 fun x H' t f=>k x H' ((Jj args H).2.2.1++t) f
  |false=>match lx.unk with
   |some f=>(f g).run X (Jj args H).2.1 (Jj args H).2.2.2 fun x H' t f=>k x H' ((Jj args H).2.2.1++t) f
   |none=>none) h
 split at h
 ·obtain⟨h1,h2⟩:=Sm.Qtj hlx.ext h;exact⟨h1,Xw.Ysv hc h2⟩
 ·rw[hlx.unk]at h;cases h
def Qbg(cx:Cx)(lx:Lx)(rec:Jq)(eq:X->X->Bool):K7 X
 |true,s,args,H,k=>match lx.anns.lookup (1000000+s)with
  |some a=>Qja rec eq a s args H k
  |none=>match lx.unk with
   |some f=>(f (1000000+s)).run X args H k
   |none=>Qja rec eq .leaf s args H k
 |false,g,args,H,k=>
  match lx.Zl1 g H.length with
  |some a=>walkO a g args H k
  |none=>match lx.anns.lookup (2000000+g)with
   |some _=>Qqm lx g args H k
   |none=>match Lx.has lx.ext g args H with
    |true=>Sm.first lx.ext g X args H k
    |false=>match lx.unk with
     |some f=>(f g).run X args H k
     |none=>walkO .leaf g args H k
where walkO (a:Zi) (g:Nat) (args:List SV) (H:List Qb) (k:KO X):Option X:=match cx.fns.lookup g with
 |none=>none
 |some fn=>match fn.body with
  |none=>none
  |some c=>gd (ZW args.length fn.ntmps) (rec X eq a true fn.ntmps c (.entry args H) (Zba cx fn (lx.still.contains g) H k))
theorem Zhi{cx:Cx}(hcx:cx.Ok){lx:Lx}{rec:Jq}(hrec:U0 cx rec){eq:X->X->Bool}(he:Y3 eq){a:Zi}{g:Nat}{args:List SV}{H:List Qb}{k:KO X}{y:X}(h:Qbg.walkO cx lx rec eq a g args H k=some y):
  (∃fn,cx.fns.lookup g=some fn)∧Xw cx.P g args H fun x H' t f=>k x H' t f=some y:=by
 unfold Qbg.walkO at h;split at h
 ·cases h
 ·rename_i fn hfn;split at h
  ·cases h
  ·rename_i c hb;obtain⟨hc,h⟩:=Ym h;refine⟨⟨fn,hfn⟩,?_⟩;exact Xw.leave (Qn7 hcx hfn hb (ZD hc) ((hrec X eq he none _ true _ _ _ _ y (fun _=>rfl) h).mono fun e s hs=>Ybk hs))
theorem Zkh{cx:Cx}(hcx:cx.Ok){lx:Lx}(hlx:lx.Ok cx){rec:Jq}(hrec:U0 cx rec){eq:X->X->Bool}(he:Y3 eq):K7.Ok cx (Qbg cx lx rec eq):=by
 refine⟨fun g args H k y h=>?_,fun s args H k y h=>?_⟩
 ·have h:(match lx.Zl1 g H.length with
   |some a=>Qbg.walkO cx lx rec eq a g args H k
   |none=>match lx.anns.lookup (2000000+g)with
    |some _=>Qqm lx g args H k
    |none=>match Lx.has lx.ext g args H with
     |true=>Sm.first lx.ext g X args H k
     |false=>match lx.unk with
      |some f=>(f g).run X args H k
      |none=>Qbg.walkO cx lx rec eq .leaf g args H k)=some y:=h
  split at h
  ·exact Zhi hcx hrec he h
  ·split at h
   ·exact Zrs hlx h
   split at h
   ·exact Sm.Qtj hlx.ext h
   ·rw[hlx.unk]at h;exact Zhi hcx hrec he h
 ·have h:(match lx.anns.lookup (1000000+s)with
   |some a=>Qja rec eq a s args H k
   |none=>match lx.unk with
    |some f=>(f (1000000+s)).run X args H k
    |none=>Qja rec eq .leaf s args H k)=some y:=h
  split at h
  ·exact Zkv hrec he h
  ·rw[hlx.unk]at h;exact Zkv hrec he h
def Zdd(cb:K7 X)(rec:Jq)(eq:X->X->Bool)(nt:Nat)(g:Operand)(ps:Array Tmp)(assign body:Code)(s:St)(k:KX X):Option X:=
 gd (ZW s.n0 s.H.length) (match Qsv (s.ev g) (.yld (s.H.length+1))with
 |none=>none
 |some (gf,args)=>cb false gf args (Qps s nt ps assign body) fun r H' t f=>
  gd ((!f.contains s.H.length&& !f.contains (s.H.length+1))&&((s.marks.all fun m=>!f.contains m&&ZX m s.H.length)&&ZW s.n0 H'.length)) (match loopAt H'[s.H.length+1]? with
  |some (st,pd)=>gd (Zdp st) (match pd with
   |none=>k .normal (Qak s none H' t f)
   |some c=>rec X eq .leaf true nt c (Qak s (some c) H' t f) k)
  |none=>none))
theorem Zyp{cx:Cx}(hcx:cx.Ok){cb:K7 X}(hcb:cb.Ok cx){rec:Jq}(hrec:U0 cx rec){eq:X->X->Bool}(he:Y3 eq){nt:Nat}{g:Operand}{ps:Array Tmp}{assign body:Code}{s:St}{k:KX X}{y:X}
  (h:Zdd cb rec eq nt g ps assign body s k=some y):Zj none cx.P nt (.rangeFunc g ps assign body) (fun e s'=>k e s'=some y) s:=by
 obtain⟨hn,h⟩:=Ym h;cases ht:Qsv (s.ev g) (.yld (s.H.length+1))with
 |none=>simp only[ht]at h;cases h
 |some q=>
  obtain⟨gf,args⟩:=q;simp only[ht]at h;obtain⟨⟨fn,hfn⟩,h⟩:=hcb.ok _ _ _ _ _ h;refine Yho hcx (ZD hn) ht hfn (h.mono fun r H' t f h=>?_);obtain⟨hc,h⟩:=Ym h;simp only[I]at hc;obtain⟨⟨h1,h2⟩,h3,h4⟩:=hc;split at h
  ·rename_i st pd hL;obtain⟨hc5,h⟩:=Ym h;refine⟨Qlb h1,Qlb h2,fun m hm=>?_,ZD h4,st,pd,hL,Zxa hc5,?_⟩
   ·have:=ZJ.1 h3 m hm;simp only[I]at this;exact⟨Qlb this.1,Qbn this.2⟩
   ·split at h
    ·exact h
    ·exact hrec X eq he none _ true _ _ _ _ y (fun _=>rfl) h
  ·cases h
def Zdu(rec:Jq)(l:Xq)(f:Y7)(an:Zi)(top:Bool)(nt:Nat)(c:Code)(s:St)(k:KX X):Option X:=
 gd (s.marks.isEmpty&&(f.ok&&K6 f l)) (match rec (Zv l) (Zv.eqv l) an top nt c s.sub (fun e s'=>K9 f s.H.length l e s')with
  |some x=>Qiy f s l x fun e s1=>k e (s.outer s1)
  |none=>none)
theorem Zzm{cx:Cx}{rec:Jq}(hrec:U0 cx rec){l:Xq}{f:Y7}{an:Zi}{R:Option Nat}{top:Bool}{nt:Nat}{c:Code}{s:St}{k:KX X}{y:X}(ht:top=true->R=none)
  (h:Zdu rec l f an top nt c s k=some y):Zj R cx.P nt c (fun e s'=>k e s'=some y) s:=by
 obtain⟨hc,h⟩:=Ym h;simp only[I,ZE]at hc;split at h
 ·rename_i x hx;rw[Qh8]at h;exact Yiu hc.1 hc.2.1 hc.2.2 (hrec _ _ (Zv.eqv_ok l) R _ top _ _ _ _ x ht hx) h
 ·cases h
def Qgi:Exit->Bool
 |.normal=>true
 |_=>false
def Qn1(rec:Jq)(τ:Qk)(l:Xq)(f:Y7)(F:Nat)(an:Zi)(top:Bool)(nt:Nat)(c:Code)(s:St)(k:KX X):Option X:=
 gd (s.marks.isEmpty&&(f.ok&&(K6 f l&&(τ.W7 (f.of τ)&&l.all fun a=>!Qgi a.1)))) (match Vc τ f s.H.length s.sub with
  |some x0=>match Qx (fun x=>rec (τ.El ⊕ Zv l) (Qcd (Yi.eqv τ.cells) (Zv.eqv l)) an top nt c (τ.st f.D (f.of τ) f.mv s x) (U3 f s.H.length τ l)) F x0 with
   |some y=>Qiy f s l y fun e s1=>k e (s.outer s1)
   |none=>none
  |none=>none)
def Qy0(rec:Jq)(top:Bool)(nt:Nat)(c:Code):Zi->St->KX X->Option X
 |.loop τ l f F a,s,k=>Qn1 rec τ l f F a top nt c s k
 |.phase τ l f F a b,s,k=>gd (s.marks.isEmpty&&(f.ok&&(K6 f l&&τ.W7 (f.of τ)))) (match Vc τ f s.H.length s.sub with
  |some x0=>match Qx (fun x=>rec (τ.El ⊕ Zv l) (Qcd (Yi.eqv τ.cells) (Zv.eqv l)) a top nt c (τ.st f.D (f.of τ) f.mv s x) (Qx5 f s.H.length τ l)) F x0 with
   |some y=>Qiy f s l y fun e s1=>match Qgi e with
    |true=>Qy0 rec top nt c b (s.outer s1) k
    |false=>k e (s.outer s1)
   |none=>none
  |none=>none)
 |_,_,_=>none
theorem Qpw{f:Y7}{s:St}:∀{l:Xq} (x:Zv l),(l.all fun a=>!Qgi a.1)=true->(Jb f s l x).1≠.normal
 |[],x,_=>Empty.elim x
 |[a],x,h=>by simp only[QB,List.all_nil,Bool.and_true,ZS]at h;intro e;simp only[Jb]at e;rw[e]at h;cases h
 |a::a'::l,.inl x,h=>by simp only[QB,I,ZS]at h;intro e;simp only[Jb]at e;rw[e]at h;cases h.1
 |a::a'::l,.inr x,h=>by
  have h':((a'::l).all fun a=>!Qgi a.1)=true:=by simp only[QB,I]at h⊢;exact h.2
  simp only[Jb];exact Qpw x h'
theorem Yi6{cx:Cx}{rec:Jq}(hrec:U0 cx rec){τ:Qk}{l:Xq}{f:Y7}{F:Nat}{an:Zi}{R:Option Nat}{top:Bool}{nt:Nat}{c:Code}{s:St}{k:KX X}{y:X}(ht:top=true->R=none)
  (h:Qn1 rec τ l f F an top nt c s k=some y):Zj R cx.P nt (.loop c) (fun e s'=>k e s'=some y) s:=by
 obtain⟨hc,h⟩:=Ym h;simp only[I,ZE]at hc;obtain⟨c1,c2,c3,c4,c5⟩:=hc;split at h
 ·rename_i x0 hx0;split at h
  ·rename_i z hz;rw[Qh8]at h;exact Ykj c1 c2 c3 c4 (fun x r hr=>hrec _ _ (Qkg (Yi.eqv_ok _) (Zv.eqv_ok _)) R _ top _ _ _ _ r ht hr) hx0 hz (Qpw z c5) h
  ·cases h
 ·cases h
def Qve(rec:Jq)(eq:X->X->Bool)(τ:Qk)(l:Xq)(f:Y7)(F:Nat)(an:Zi)(top:Bool)(nt:Nat)(c:Code)(s:St)(k:KX X):Option X:=match c with
 |.seq (.region _ ops false) rest=>match Qoe nt ops with
  |some h=>gd (s.marks.isEmpty&&(f.ok&&(K6 f l&&(τ.W7 (f.of τ)&&l.all fun a=>!Qgi a.1)))) (match Vc τ f s.H.length s.sub with
   | some x0=>match Vj eq (fun x=>match Qfg (τ.st f.D (f.of τ) f.mv s x) h.1 with
     |some ⟨_,_,_,n,seen⟩=>(n,seen)
     |none=>(0,[]))
    (fun x=>match Qfg (τ.st f.D (f.of τ) f.mv s x) h.1 with
     |some ⟨_,_,c,n,_⟩=>gd (decide (c=n)) (rec (τ.El ⊕ Zv l) (Qcd (Yi.eqv τ.cells) (Zv.eqv l)) an top nt rest (Zhh (τ.st f.D (f.of τ) f.mv s x) h.2.1 h.2.2) (U3 f s.H.length τ l))
     |none=>none)
    (fun x j=>match Qfg (τ.st f.D (f.of τ) f.mv s x) h.1 with
     |some ⟨so,m,c,n,seen⟩=>gd (decide (c=n)) (rec (τ.El ⊕ Zv l) (Qcd (Yi.eqv τ.cells) (Zv.eqv l)) an top nt rest (Zah (τ.st f.D (f.of τ) f.mv s x) h.2.1 h.2.2 ⟨so,m,c,n,seen⟩ j) (U3 f s.H.length τ l))
     |none=>none)
    (fun b=>Qiy f s l b fun e s1=>k e (s.outer s1)) F x0 with
    |some y=>some y
    |none=>none
   |none=>none)
  |none=>none
 |_=>none
theorem Yo7{cx:Cx}(hcx:cx.Ok){rec:Jq}(hrec:U0 cx rec){eq:X->X->Bool}(he:Y3 eq){τ:Qk}{l:Xq}{f:Y7}{F:Nat}{an:Zi}{R:Option Nat}{top:Bool}{nt:Nat}{c:Code}{s:St}{k:KX X}{y:X}(ht:top=true->R=none)
  (h:Qve rec eq τ l f F an top nt c s k=some y):Zj R cx.P nt (.loop c) (fun e s'=>k e s'=some y) s:=by
 unfold Qve at h;split at h
 ·rename_i id ops rest;split at h
  ·rename_i hd hh;obtain⟨x,d,d2⟩:=hd;obtain⟨hc,h⟩:=Ym h;simp only[I,ZE]at hc;obtain⟨c1,c2,c3,c4,c5⟩:=hc;split at h
   ·rename_i x0 hx0;split at h
    ·rename_i y' hy';cases h;refine Yrt he c1 c2 c3 c4 ?_ hx0 hy' (fun z=>Qpw z c5) (fun z hz=>?_)
     ·intro z G hnil hstep;cases hq:Qfg (τ.st f.D (f.of τ) f.mv s z) x with
      |none=>simp only[hq]at hnil;obtain⟨r,hr,_⟩:=hnil rfl;cases hr
      |some q=>
       obtain⟨so,m,cc,n,seen⟩:=q;simp only[hq]at hnil hstep;have go:∀(s1:St) (r:τ.El ⊕ Zv l),rec (τ.El ⊕ Zv l) (Qcd (Yi.eqv τ.cells) (Zv.eqv l)) an top nt rest s1 (U3 f s.H.length τ l)=some r->G r->
         Zj R cx.P nt rest (fun e s'=>∃r,U3 f s.H.length τ l e s'=some r∧G r) s1:=fun s1 r hr hg=>
        (hrec _ _ (Qkg (Yi.eqv_ok _) (Zv.eqv_ok _)) R _ top _ _ _ _ r ht hr).mono fun e s' hk=>⟨r,hk,hg⟩
       have hcn:cc=n:=by
        cases hl:Ww n seen with
        |nil=>obtain⟨r,hr,_⟩:=hnil hl;exact of_decide_eq_true (Ym hr).1
        |cons j l'=>obtain⟨r,hr,_⟩:=hstep j (by rw[hl];simp);exact of_decide_eq_true (Ym hr).1
       refine Yo3 hcx hh hq hcn (fun hl=>?_) (fun j hj=>?_)
       ·obtain⟨r,hr,hg⟩:=hnil hl;exact go _ r (Ym hr).2 hg
       ·obtain⟨r,hr,hg⟩:=hstep j hj;exact go _ r (Ym hr).2 hg
     ·rw[Qh8]at hz;exact hz
    ·cases h
   ·cases h
  ·cases h
 ·cases h
theorem Zt4{cx:Cx}{rec:Jq}(hrec:U0 cx rec){τ:Qk}{l:Xq}{f:Y7}{F:Nat}{an:Zi}{R:Option Nat}{top:Bool}{nt:Nat}{c:Code}{s:St}{k:KX X}{y:X}(ht:top=true->R=none)
  (h:Qn1 rec τ l f F an top nt c s k=some y):Qik R cx.P nt c (fun e s'=>k e s'=some y) s:=by
 obtain⟨hc,h⟩:=Ym h;simp only[I,ZE]at hc;obtain⟨c1,c2,c3,c4,c5⟩:=hc;split at h
 ·rename_i x0 hx0;split at h
  ·rename_i z hz;rw[Qh8]at h;exact Zee (fun e s' r h=>Zbx h) c1 c2 c3 c4 (fun x r hr=>hrec _ _ (Qkg (Yi.eqv_ok _) (Zv.eqv_ok _)) R _ top _ _ _ _ r ht hr) hx0 hz (fun hn=>absurd hn (Qpw z c5)) (fun _=>h)
  ·cases h
 ·cases h
theorem Ygq{e:Exit}(h:Qgi e=true):e=.normal:=by cases e<;>first|rfl|cases h
theorem Zjf{cx:Cx}{rec:Jq}(hrec:U0 cx rec){R:Option Nat}{top:Bool}{nt:Nat}{c:Code}{k:KX X}{y:X}(ht:top=true->R=none):∀(an:Zi) (s:St),Qy0 rec top nt c an s k=some y->Qik R cx.P nt c (fun e s'=>k e s'=some y) s
 |.loop τ l f F a,s,h=>Zt4 hrec ht h
 |.phase τ l f F a b,s,h=>by
  obtain⟨hc,h⟩:=Ym h;simp only[I,ZE]at hc;obtain⟨c1,c2,c3,c4⟩:=hc;split at h
  ·rename_i x0 hx0;split at h
   ·rename_i z hz;rw[Qh8]at h;refine Zee (fun e s' r h=>Yhu h) c1 c2 c3 c4 (fun x r hr=>hrec _ _ (Qkg (Yi.eqv_ok _) (Zv.eqv_ok _)) R _ top _ _ _ _ r ht hr) hx0 hz (fun hn=>?_) (fun hn=>?_)
    ·rw[hn]at h;exact Zjf hrec ht b _ h
    ·cases he:Qgi (Jb f s l z).1 with
     |true=>exact absurd (Ygq he) hn
     |false=>rw[he]at h;exact h
   ·cases h
  ·cases h
 |.leaf,_,h=>by cases h
 |.one _,_,h=>by cases h
 |.two _ _,_,h=>by cases h
 |.join _ _ _,_,h=>by cases h
 |.virt _ _ _ _,_,h=>by cases h
 |.sealing _ _ _ _,_,h=>by cases h
 |.within _,_,h=>by cases h
 |.virtF _ _ _ _ _,_,h=>by cases h
 |.weak _ _ _,_,h=>by cases h
 |.typ _ _ _ _,_,h=>by cases h
 |.norm _ _,_,h=>by cases h
 |.slb _ _,_,h=>by cases h
 |.unslb _ _,_,h=>by cases h
 |.cas _ _ _ _ _,_,h=>by cases h
end
def Qh6(cx:Cx)(lx:Lx)(rec:Jq)(X:Type)(eq:X->X->Bool)(an:Zi)(top:Bool)(nt:Nat):Code->St->KX X->Option X
 |.skip,s,k=>k .normal s
 |.region _ ops draw,s,k=>match draw with
  |false=>Qft eq cx (Qbg cx lx rec eq) nt ops ops.toList s (k .normal)
  |true=>gd (Region.noSelect ops) (J3 eq cx (Qbg cx lx rec eq) nt ops (K3 true ops ops.size (Array.replicate ops.size false)) [] s (k .normal))
 |.seq a b,s,k=>rec X eq an.fst top nt a s fun e s'=>match e with
  |.normal=>rec X eq an.snd top nt b s' k
  |e=>k e s'
 |.cond c a b,s,k=>match s.ev c with
  |.pv (.lit (.bool t))=>match t with
   |true=>rec X eq an.fst top nt a s k
   |false=>rec X eq an.snd top nt b s k
  |_=>none
 |.block id c,s,k=>rec X eq an.fst top nt c s fun e s'=>match e with
  |.exit id'=>bif ZF id' id then k .normal s' else k (.exit id') s'
  |e=>k e s'
 |.loop c,s,k=>rec X eq an.fst top nt c s fun e s'=>match e with
  |.normal=>rec X eq an top nt (.loop c) s' k
  |e=>k e s'
 |.rangeFunc g ps assign body,s,k=>match top with
  |true=>Zdd (Qbg cx lx rec eq) rec eq nt g ps assign body s k
  |false=>none
 |.scope c,s,k=>match top with
  |true=>rec X eq an.fst true nt c s fun e s'=>match e with
   |.goto _=>none
   |e=>k e s'
  |false=>none
 |.exit id,s,k=>k (.exit id) s
 |.label _,s,k=>k .normal s
 |.ret,s,k=>k .ret s
 |_,_,_=>none
def Lx.more(lx:Lx)(l:List (Nat×Zi)):Lx:=match lx with
 |⟨ext,anns,still,unk⟩=>⟨ext,l++anns,still,unk⟩
theorem Lx.Ok.more{cx:Cx}{lx:Lx}(h:lx.Ok cx)(l:List (Nat×Zi)):(lx.more l).Ok cx:=⟨h.ext,h.unk⟩
def Zt7(cx:Cx)(lx:Lx)(rec:Jq):Jq:=fun X eq an top nt c s k=>match an with
 |.join l f a=>Zdu rec l f a top nt c s k
 |.virt slot ty row a=>match s.T.get slot with
  |some (.pv (.lit v))=>gd (Value.isNil v) (rec X eq a top nt c (Qmw s slot ty row) k)
  |_=>rec X eq a top nt c s k
 |.sealing kk ty row a=>match Qn9 kk ty row s with
  |some p=>gd p.1 (rec X eq a top nt c p.2 k)
  |none=>none
 |.weak kk keep a=>rec X eq a top nt c (Qqv kk keep s) k
 |.norm slots a=>gd (s.marks.isEmpty&&Qvq (Zc7 slots s) s.H.length s.n0) (rec X eq a top nt c (Qxg (Zc7 slots s) s) k)
 |.typ kk ty row a=>match Qqf kk ty row s with
  |some s'=>rec X eq a top nt c s' k
  |none=>none
 |.low=>match c with
  |.region _ ops draw=>match draw with
   |false=>Qft eq cx.Qbl (Qbg cx.Qbl lx rec eq) nt ops ops.toList s (k .normal)
   |true=>gd (Region.noSelect ops) (J3 eq cx.Qbl (Qbg cx.Qbl lx rec eq) nt ops (K3 true ops ops.size (Array.replicate ops.size false)) [] s (k .normal))
  |_=>none
 |.slb slot a=>match Qoy slot s with
  |some s'=>rec X eq a top nt c s' k
  |none=>rec X eq a top nt c s k
 |.unslb slot a=>match Qo8 slot s with
  |some s'=>rec X eq a top nt c s' k
  |none=>rec X eq a top nt c s k
 |.cas slot j lit a b=>match Qnu slot j lit s with
  |some p=>match p.1 with
   |true=>rec X eq a top nt c p.2 k
   |false=>rec X eq b top nt c s k
  |none=>none
 |.virtF ob col ty row a=>match Qpp s ob col ty row with
  |some s'=>rec X eq a top nt c s' k
  |none=>none
 |.within l=>match c with
  |.loop _=>none
  |c=>Qh6 cx (lx.more l) rec X eq .leaf top nt c s k
 |.loop τ l f F a=>match c with
  |.loop body=>Qn1 rec τ l f F a top nt body s k
  |_=>none
 |.phase τ l f F a b=>match c with
  |.loop body=>Qy0 rec top nt body (.phase τ l f F a b) s k
  |_=>none
 |.mloop τ l f F a=>match c with
  |.loop body=>Qve rec eq τ l f F a top nt body s k
  |_=>none
 |.leaf=>Qh6 cx lx rec X eq .leaf top nt c s k
 |.one a=>Qh6 cx lx rec X eq (.one a) top nt c s k
 |.two a b=>Qh6 cx lx rec X eq (.two a b) top nt c s k
def Jg(cx:Cx)(lx:Lx):Nat->Jq
 |0=>fun _ _ _ _ _ _ _ _=>none
 |n+1=>Zt7 cx lx (Jg cx lx n)
def Zi.plain:Zi->Bool
 |.leaf=>true
 |.one _=>true
 |.two _ _=>true
 |_=>false
theorem Qra{cx:Cx}(hcx:cx.Ok){lx:Lx}(hlx:lx.Ok cx):∀(n:Nat),U0 cx (Jg cx lx n)∧
  (∀(X:Type) (eq:X->X->Bool) (_:Y3 eq) R an top nt c s (k:KX X) (y:X),(top=true->R=none)->Jg cx lx n X eq an top nt (.loop c) s k=some y->an.plain=true->
   Qjy R cx.P nt c (fun e s'=>k e s'=some y) n s)
 |0=>⟨fun X eq he R an top nt c s k y _ h=>(by cases h),fun X eq he R an top nt c s k y _ h=>(by cases h)⟩
 |n+1=>by
  obtain⟨ih1,ih2⟩:=Qra hcx hlx n;have loop:∀(X:Type) (eq:X->X->Bool) (_:Y3 eq) R an top nt c s (k:KX X) (y:X),(top=true->R=none)->Jg cx lx (n+1) X eq an top nt (.loop c) s k=some y->an.plain=true->
    Qjy R cx.P nt c (fun e s'=>k e s'=some y) (n+1) s:=by
   intro X eq he R an top nt c s k y ht h hp;have h:Qh6 cx lx (Jg cx lx n) X eq an top nt (.loop c) s k=some y:=by
    cases an with
    |leaf=>exact h
    |one a=>exact h
    |two a b=>exact h
    |_=>cases hp
   refine(ih1 X eq he R an.fst top nt c s _ y ht h).mono fun e s' hs=>?_;cases e with
   |normal=>exact⟨n,ZM n,ih2 X eq he R an top nt c s' k y ht hs hp⟩
   |_=>exact hs
  refine⟨fun X eq he R an top nt c s k y ht h=>?_,loop⟩;have code:∀(lx':Lx),lx'.Ok cx->(an.plain=true∨∀b,c≠.loop b)->∀an':Zi,(an.plain=true->an'=an∧lx'=lx)->Qh6 cx lx' (Jg cx lx n) X eq an' top nt c s k=some y->Zj R cx.P nt c (fun e s'=>k e s'=some y) s:=by
   intro lx' hlx' hp an' han hcode;have hcb:=Zkh hcx hlx' ih1 he;cases c with
   |skip=>exact Yrv hcode
   |region id ops draw=>
    cases draw with
    |false=>exact Quv hcx (Qmy he hcb _ _ _ hcode)
    |true=>obtain⟨h1,h2⟩:=Ym hcode;exact Zep hcx h1 (Qea he hcb _ _ _ _ h2)
   |seq a b=>
    refine Zcc ((ih1 X eq he R an'.fst top nt a s _ y ht hcode).mono fun e s' hs=>?_);cases e with
    |normal=>exact ih1 X eq he R an'.snd top nt b s' k y ht hs
    |_=>exact hs
   |cond c a b=>
    have hcode:(match s.ev c with
     |.pv (.lit (.bool t))=>match t with
      |true=>Jg cx lx n X eq an'.fst top nt a s k
      |false=>Jg cx lx n X eq an'.snd top nt b s k
     |_=>none)=some y:=hcode
    split at hcode
    ·rename_i t e;refine Yd1 e (fun hb=>?_) (fun hb=>?_)
     ·subst hb;exact ih1 X eq he R an'.fst top nt a s k y ht hcode
     ·subst hb;exact ih1 X eq he R an'.snd top nt b s k y ht hcode
    ·cases hcode
   |block id c=>
    refine Ynf ((ih1 X eq he R an'.fst top nt c s _ y ht hcode).mono fun e s' hs=>?_);cases e with
    |exit id'=>
     simp only[Qwy];by_cases e:id'=id
     ·rw[if_pos e];simp only[W1 e,cond_true]at hs;exact hs
     ·rw[if_neg e];simp only[Y5 e,cond_false]at hs;exact hs
    |_=>exact hs
   |loop c=>
    have hp:an.plain=true:=by
     rcases hp with hp|hp
     ·exact hp
     ·exact absurd rfl (hp c)
    obtain⟨rfl,rfl⟩:=han hp;refine Yr0 (loop X eq he R an' top nt c s k y ht ?_ hp);cases an' with
    |leaf=>exact hcode
    |one a=>exact hcode
    |two a b=>exact hcode
    |_=>cases hp
   |exit id=>exact Ylf hcode
   |label l=>exact Yfn hcode
   |ret=>exact Znc hcode
   |rangeFunc g ps assign body=>
    cases top with
    |true=>have hR:=ht rfl;subst hR;exact Zyp hcx hcb ih1 he hcode
    |false=>cases hcode
   |scope c=>
    cases top with
    |true=>
     have hR:=ht rfl;subst hR;refine Zur ((ih1 X eq he none an'.fst true nt c s _ y ht hcode).mono fun e s' hs=>?_);cases e with
     |goto _=>cases hs
     |_=>exact hs
    |false=>cases hcode
   |goto _=>cases hcode
   |refuse _=>cases hcode
  cases an with
  |join l f a=>exact Zzm ih1 ht h
  |virt slot ty row a=>
   have h:(match s.T.get slot with
    |some (.pv (.lit v))=>gd (Value.isNil v) (Jg cx lx n X eq a top nt c (Qmw s slot ty row) k)
    |_=>Jg cx lx n X eq a top nt c s k)=some y:=h
   split at h
   ·rename_i v hv;obtain⟨h1,h2⟩:=Ym h;exact Zrl hv h1 (ih1 X eq he R a top nt c _ k y ht h2)
   ·exact ih1 X eq he R a top nt c _ k y ht h
  |weak kk keep a=>exact Zpw (ih1 X eq he R a top nt c _ k y ht h)
  |typ kk ty row a=>
   have h:(match Qqf kk ty row s with
    |some s'=>Jg cx lx n X eq a top nt c s' k
    |none=>none)=some y:=h
   split at h
   ·rename_i s' hs';exact Yfu hs' (ih1 X eq he R a top nt c _ k y ht h)
   ·cases h
  |low=>
   cases c with
   |region id ops draw=>
    have hcx':cx.Qbl.Ok:=hcx.Qbl;have hlx':lx.Ok cx.Qbl:=⟨fun q hq=>let h:=hlx.ext q hq;⟨h.fn,h.ok⟩,hlx.unk⟩;have ih1':U0 cx.Qbl (Jg cx lx n):=ih1;have hcb:=Zkh hcx' hlx' ih1' he;cases draw with
    |false=>exact Quv hcx' (Qmy he hcb _ _ _ h)
    |true=>obtain⟨h1,h2⟩:=Ym h;exact Zep hcx' h1 (Qea he hcb _ _ _ _ h2)
   |_=>cases h
  |slb slot a=>
   have h:(match Qoy slot s with
    |some s'=>Jg cx lx n X eq a top nt c s' k
    |none=>Jg cx lx n X eq a top nt c s k)=some y:=h
   split at h
   ·rename_i s' hs';exact Yiq hs' (ih1 X eq he R a top nt c _ k y ht h)
   ·exact ih1 X eq he R a top nt c _ k y ht h
  |unslb slot a=>
   have h:(match Qo8 slot s with
    |some s'=>Jg cx lx n X eq a top nt c s' k
    |none=>Jg cx lx n X eq a top nt c s k)=some y:=h
   split at h
   ·rename_i s' hs';exact Zs2 hs' (ih1 X eq he R a top nt c _ k y ht h)
   ·exact ih1 X eq he R a top nt c _ k y ht h
  |cas slot j lit a b=>
   have h:(match Qnu slot j lit s with
    |some p=>match p.1 with
     |true=>Jg cx lx n X eq a top nt c p.2 k
     |false=>Jg cx lx n X eq b top nt c s k
    |none=>none)=some y:=h
   split at h
   ·rename_i p hp;split at h
    ·rename_i hc;exact Zwd hp hc (ih1 X eq he R a top nt c _ k y ht h)
    ·exact ih1 X eq he R b top nt c _ k y ht h
   ·cases h
  |sealing kk ty row a=>
   have h:(match Qn9 kk ty row s with
    |some p=>gd p.1 (Jg cx lx n X eq a top nt c p.2 k)
    |none=>none)=some y:=h
   split at h
   ·rename_i p hp;obtain⟨h1,h2⟩:=Ym h;exact Zu9 (cc:=p.1) (s':=p.2) hp h1 (ih1 X eq he R a top nt c _ k y ht h2)
   ·cases h
  |virtF ob col ty row a=>
   have h:(match Qpp s ob col ty row with
    |some s'=>Jg cx lx n X eq a top nt c s' k
    |none=>none)=some y:=h
   split at h
   ·rename_i s' hs';exact Zqv hs' (ih1 X eq he R a top nt c _ k y ht h)
   ·cases h
  |within l=>
   cases c with
   |loop b=>cases h
   |_=>exact code (lx.more l) (hlx.more l) (.inr fun b e=>by cases e) .leaf (fun e=>by cases e) h
  |loop τ l f F a=>
   cases c with
   |loop body=>exact Yi6 ih1 ht h
   |_=>cases h
  |norm slots a=>obtain⟨h1,h2⟩:=Ym h;rw[I,ZE]at h1;exact Zr3 h1.1 h1.2 (ih1 X eq he R a top nt c _ k y ht h2)
  |phase τ l f F a b=>
   cases c with
   |loop body=>exact(Zjf ih1 ht _ _ h).wp
   |_=>cases h
  |mloop τ l f F a=>
   cases c with
   |loop body=>exact Yo7 hcx ih1 he ht h
   |_=>cases h
  |leaf=>exact code lx hlx (.inl rfl) .leaf (fun _=>⟨rfl,rfl⟩) h
  |one a=>exact code lx hlx (.inl rfl) (.one a) (fun _=>⟨rfl,rfl⟩) h
  |two a b=>exact code lx hlx (.inl rfl) (.two a b) (fun _=>⟨rfl,rfl⟩) h
end Go.Sx
end

/- Part Qs of the own logic: an owned row becomes immutable where it stands. Own rows that a function of data gets: they become immutable at the call. And further parts. -/
import Derived.Test.YtpkbmngnolhopaaGreatDoorXSxP
set_option linter.unusedVariables false
set_option linter.unusedSimpArgs false
set_option linter.unnecessarySimpa false
open Option renaming map_eq_some_iff->C,bind_eq_some_iff->ZV,getD_some->QG,map_some->QH
open Bool renaming and_eq_true->I,not_eq_true'->QF
open List renaming getElem?_eq_some_iff->J,getElem?_map->ZA,toArray->ZC,getElem?_eq_getElem->ZF,getElem?_set->ZG,isEmpty_iff->ZI,mem_append_left->ZK,getElem?_cons_zero->ZL,all_cons->ZM,mem_append_right->ZN,mem_cons_self->ZP,all_eq_true->ZQ,mem_of_getElem?->ZS,mem_cons_of_mem->ZT,length_cons->ZW,getElem?_cons_succ->ZX,getElem?_set_ne->ZZ,map_cons->QA,range->QB,ext_getElem?->QE,length_set->QI
open Nat renaming eq_of_beq_eq_true->ZB,le_of_ble_eq_true->ZD,beq->ZH,le_refl->ZO,ble->ZU,zero_le->ZY,lt_of_lt_of_le->QC,zero_add->QD,not_lt_zero->QJ
open ByteArray renaming empty->ZE
open Option.some renaming injEq->ZJ
open Prod.mk renaming injEq->ZR
section
namespace Go.Sx
open Go
def TT.all(p:SV->Bool):TT->Bool
 |.nil=>true
 |.node l v r=>l.all p&&((match v with|some x=>p x|none=>true)&&r.all p)
theorem TT.Qtc{p:SV->Bool}:∀{T:TT} {t:Nat} {x:SV},T.all p=true->T.get t=some x->p x=true
 |.nil,t,x,_,h=>by simp[TT.get]at h
 |.node l v r,t,x,ha,h=>by
  simp only[TT.all,I]at ha;simp only[TT.get]at h;cases h0:ZH t 0 with
  |true=>rw[h0]at h;simp only[cond_true]at h;subst h;exact ha.2.1
  |false=>
   rw[h0]at h;simp only[cond_false]at h;cases h1:ZH (t%2) 1 with
   |true=>rw[h1]at h;exact TT.Qtc ha.1 h
   |false=>rw[h1]at h;exact TT.Qtc ha.2.2 h
mutual
def Jl(k:Nat)(row:List Ty)(l:List (Ql row)):SV->SV
 |.sl s sz st n=>match ZH s k with
  |true=>match st with
   |0=>.pv (.tsl row l)
   |_+1=>.any
  |false=>.sl s sz st n
 |.agg x=>.agg (Qgr k row l x)
 |.tup x=>.tup (Qgr k row l x)
 |.fn f a b=>.fn f (Qgr k row l a) (Qgr k row l b)
 |.ptr s sz i j=>.ptr s sz i j
 |.mp s=>.mp s
 |.yld s=>.yld s
 |.slb _ _ _ _ _=>.any
 |.any=>.any
 |.pv p=>.pv p
def Qgr(k:Nat)(row:List Ty)(l:List (Ql row)):List SV->List SV
 |[]=>[]
 |x::xs=>Jl k row l x::Qgr k row l xs
end
mutual
def sealC(k:Nat)(row:List Ty)(l:List (Ql row)):SV->Bool
 |.sl s sz st n=>match ZH s k with
  |true=>match st with
   |0=>ZH sz row.length&&decide (n=l.length)
   |_+1=>true
  |false=>true
 |.agg x=>Qdj k row l x
 |.tup x=>Qdj k row l x
 |.fn f a b=>Qdj k row l a&&Qdj k row l b
 |_=>true
def Qdj(k:Nat)(row:List Ty)(l:List (Ql row)):List SV->Bool
 |[]=>true
 |x::xs=>sealC k row l x&&Qdj k row l xs
end
theorem Qtm(k:Nat)(row:List Ty)(l:List (Ql row))(xs:List SV):Qgr k row l xs=xs.map (Jl k row l):=by
 induction xs with
 |nil=>rfl
 |cons x xs ih=>simp only[Qgr,QA,ih]
theorem Qhn{k:Nat}{row:List Ty}{l:List (Ql row)}:∀{xs:List SV},Qdj k row l xs=true->∀(i:Nat) (x:SV),xs[i]? =some x->sealC k row l x=true
 |[],_,i,x,h=>by simp at h
 |y::xs,hc,i,x,h=>by
  simp only[Qdj,I]at hc;cases i with
  |zero=>simp at h;subst h;exact hc.1
  |succ i=>exact Qhn hc.2 i x (by simpa using h)
def Qb.Un(k:Nat)(row:List Ty)(l:List (Ql row)):Qb->Qb
 |.mix ty sz rows=>.mix ty sz (rows.map (·.map (Jl k row l)))
 |.tlnk ty row' l' r c x=>.tlnk ty row' l' r c (Jl k row l x)
 |.nest ty ity row' ll q=>.nest ty ity row' ll (q.map fun x=>(x.1,Jl k row l x.2))
 |.map es c=>.map (es.map fun e=>(e.1,Jl k row l e.2.1,e.2.2)) c
 |.loop x=>.loop {x with T:=x.T.map (Jl k row l)}
 |o=>o
def Qb.sealC(k:Nat)(row:List Ty)(l:List (Ql row)):Qb->Bool
 |.mix ty sz rows=>rows.all (Qdj k row l)
 |.tlnk _ _ _ _ _ x=>Sx.sealC k row l x
 |.nest _ _ _ _ q=>match q with
  |some x=>Sx.sealC k row l x.2
  |none=>true
 |.map es c=>es.all fun e=>Sx.sealC k row l e.2.1
 |.loop x=>x.T.all (Sx.sealC k row l)
 |_=>true
def oneLive(H:List Qb)(k:Nat)(o:Qb):List Qb:=(H.map fun _=>Qb.dead).set k o
theorem Qew{H:List Qb}{k s:Nat}{o x:Qb}(h:(oneLive H k o)[s]? =some x):(s=k∧x=o)∨(s≠k∧x=.dead):=by
 unfold oneLive at h;rw[ZG]at h;split at h
 ·rename_i e;subst e;split at h
  ·cases h;exact .inl ⟨rfl,rfl⟩
  ·cases h
 ·rename_i e;simp only[ZA,C]at h;obtain⟨_,_,rfl⟩:=h;exact .inr ⟨fun h=>e h.symm,rfl⟩
theorem Mem.oneLive{M:Qd}{Z:Env}{H:List Qb}{w:World}(hm:Mem M Z H w){k:Nat}{o o1:Qb}(hk:H[k]? =some o1)(hl:o1.live=true)(ho:Q6 M Z w k o):Mem M Z (Sx.oneLive H k o) w:=by
 refine⟨hm.imm,fun s x hx=>?_,fun s x p b hx hlx hp hb=>?_,fun s s' x x' p p' b hx hx' hlx hlx' hp hp' hb hb'=>?_,fun s hs=>hm.fresh s (by simpa[Sx.oneLive]using hs),fun s x p b hx hlx hp hb=>?_⟩
 ·rcases Qew hx with⟨rfl,rfl⟩|⟨_,rfl⟩
  ·exact ho
  ·trivial
 ·rcases Qew hx with⟨rfl,rfl⟩|⟨_,rfl⟩
  ·exact hm.seps s o1 p b hk hl hp hb
  ·cases hlx
 ·rcases Qew hx with⟨rfl,rfl⟩|⟨_,rfl⟩
  ·rcases Qew hx' with⟨rfl,rfl⟩|⟨_,rfl⟩
   ·rfl
   ·cases hlx'
  ·cases hlx
 ·rcases Qew hx with⟨rfl,rfl⟩|⟨_,rfl⟩
  ·exact hm.lts s o1 p b hk hl hp hb
  ·cases hlx
theorem Yrn{M M':Qd}{Z:Env}{k:Nat}{row:List Ty}{l:List (Ql row)}(hle:M.le M')(hk:∀v,Qf M Z v (.sl k row.length 0 l.length)->Zu M' v (.tsl row l)){v:Value}{x:SV}(h:Qf M Z v x):sealC k row l x=true->Qf M' Z v (Jl k row l x):=by
 induction h with
 |any v=>intro _;exact .any v
 |pv h=>intro _;exact .pv (h.mono hle)
 |agg cs xs hl _ ih=>intro hc;simp only[sealC]at hc;simp only[Jl,Qtm];refine .agg cs _ (by simpa using hl) fun i v x hv hx=>?_;simp only[ZA,C]at hx;obtain⟨y,hy,rfl⟩:=hx;exact ih i v y hv hy (Qhn hc i y hy)
 |tup cs xs hl _ ih=>intro hc;simp only[sealC]at hc;simp only[Jl,Qtm];refine .tup cs _ (by simpa using hl) fun i v x hv hx=>?_;simp only[ZA,C]at hx;obtain⟨y,hy,rfl⟩:=hx;exact ih i v y hv hy (Qhn hc i y hy)
 |ptr s sz i j kk p hp hkk=>intro _;exact .ptr s sz i j kk p hp hkk
 |sl s sz st n c kk p hp hkk hc hn h6=>
  intro hcc;simp only[sealC]at hcc;simp only[Jl];split
  ·rename_i e;have e:=ZB e;subst e;rw[Nat.beq_refl]at hcc;simp only at hcc;cases st with
   |zero=>simp only[I]at hcc;have e1:=ZB hcc.1;have e2:=of_decide_eq_true hcc.2;subst e1;subst e2;exact .pv (hk _ (.sl _ _ _ _ c kk p hp hkk hc hn h6))
   |succ st=>exact .any _
  ·exact .sl s sz st n c kk p hp hkk hc hn h6
 |slz s sz st a=>
  intro hcc;simp only[sealC]at hcc;simp only[Jl];split
  ·rename_i e;have e:=ZB e;subst e;rw[Nat.beq_refl]at hcc;simp only at hcc;cases st with
   |zero=>simp only[I]at hcc;have e1:=ZB hcc.1;have e2:=of_decide_eq_true hcc.2;subst e1;refine .pv (hk _ ?_);rw[<-e2];exact .slz _ _ _ _
   |succ st=>exact .any _
  ·exact .slz s sz st a
 |mp s p hp=>intro _;exact .mp s p hp
 |yld s p hp=>intro _;exact .yld s p hp
 |slb s sz st n m _ _ _=>intro _;exact .any _
 |fn f a b x y ha hb _ _ ih jh=>
  intro hc;simp only[sealC,I]at hc;simp only[Jl,Qtm];refine .fn f a b _ _ (by simpa using ha) (by simpa using hb) (fun i v s hv hs=>?_) (fun i v s hv hs=>?_)
  ·simp only[ZA,C]at hs;obtain⟨y,hy,rfl⟩:=hs;exact ih i v y hv hy (Qhn hc.1 i y hy)
  ·simp only[ZA,C]at hs;obtain⟨y,hy,rfl⟩:=hs;exact jh i v y hv hy (Qhn hc.2 i y hy)
theorem Q6.Un{M M':Qd}{Z:Env}{w:World}{k s:Nat}{row:List Ty}{l:List (Ql row)}{o:Qb}(hle:M.le M')(hf:∀v x,Qf M Z v x->Sx.sealC k row l x=true->Qf M' Z v (Jl k row l x))(hc:o.sealC k row l=true)(h:Q6 M Z w s o):Q6 M' Z w s (o.Un k row l):=by
 cases o with
 |mix ty sz rows=>
  simp only[Qb.sealC]at hc;rcases h with⟨h1,h2⟩|⟨p,h1,h2⟩
  ·exact .inl ⟨h1,by simp[h2]⟩
  ·refine .inr ⟨p,h1,?_⟩;obtain⟨cs,a1,a2,a3,a4,a5,a6⟩:=h2.ex;have key:∀i j x,Xo (rows.map (·.map (Jl k row l))) i j=some x->∃y,Xo rows i j=some y∧x=Jl k row l y∧Sx.sealC k row l y=true:=fun i j x hx=>by unfold Xo at hx;simp only[ZA,ZV,C]at hx;obtain⟨r',⟨r,hr,rfl⟩,hx⟩:=hx;simp only[ZA,C]at hx;obtain⟨y,hy,rfl⟩:=hx;exact⟨y,by simp[Xo,hr,hy],rfl,Qhn (ZQ.1 hc r (ZS hr)) j y hy⟩
   refine⟨cs,a1,a2,by simpa using a3,by simpa using a4,fun i j x v hx hv=>?_,fun i j x hx=>?_⟩
   ·obtain⟨y,hy,rfl,hcy⟩:=key i j x hx;obtain⟨b1,b2,b3⟩:=a5 i j y v hy hv;exact⟨by simpa using b1,b2,hf v y b3 hcy⟩
   ·obtain⟨y,hy,_⟩:=key i j x hx;simpa using a6 i j y hy
 |tlnk ty row' l' r c x=>
  simp only[Qb.sealC]at hc;rcases h with⟨h1,h2⟩|⟨p,h1,h2⟩
  ·exact .inl ⟨h1,h2⟩
  ·refine .inr ⟨p,h1,?_⟩;obtain⟨cs,a1,a2,a3,a4,a5,a6⟩:=h2.ex;refine⟨cs,a1,a2,a3,a4,fun i j z v hz hv=>?_,fun i j z hz=>?_⟩
   ·obtain⟨y,hy,rfl,hcy⟩:=Qqv (f:=Jl k row l) (fun _=>rfl) hz;obtain⟨b1,b2,b3⟩:=a5 i j y v hy hv;refine⟨b1,b2,hf v y b3 ?_⟩;rcases hcy with rfl|⟨p,rfl⟩
    ·exact hc
    ·rfl
   ·obtain⟨y,hy,_⟩:=Qqv (f:=Jl k row l) (fun _=>rfl) hz;exact a6 i j y hy
 |nest ty ity row' ll q=>
  rcases h with⟨h1,h2,h3⟩|⟨p,h1,h2⟩
  ·subst h3;exact .inl ⟨h1,h2,rfl⟩
  refine .inr ⟨p,h1,h2.goes hle rfl rfl rfl (fun _ _=>rfl) (by cases q<;>rfl) fun i x y v e1 e2 hr=>?_⟩;rw[e1]at e2;simp only[QH,ZJ,ZR,true_and]at e2;subst e2;subst e1;exact hf v _ hr hc
 |map es c=>simp only[Qb.sealC]at hc;obtain⟨p,arr,h1,h2,h3,h4⟩:=h;refine⟨p,arr,h1,h2,by simpa using h3,fun i kk x b hi=>?_⟩;simp only[ZA,C]at hi;obtain⟨e,he,hq⟩:=hi;simp only[ZR]at hq;obtain⟨rfl,rfl,rfl⟩:=hq;obtain⟨me,m1,m2,m3,m4⟩:=h4 i e.1 e.2.1 e.2.2 he;exact⟨me,m1,m2,m3,hf _ _ m4 (ZQ.1 hc e (ZS he))⟩
 |loop L=>simp only[Qb.sealC]at hc;obtain⟨p,fn,tmps,q,h1,h2,h3,h4⟩:=h;refine⟨p,fn,tmps,q,h1,h2,h3,fun t x hx=>?_⟩;rw[TT.get_map,C]at hx;obtain⟨y,hy,rfl⟩:=hx;exact hf _ _ (h4 t y hy) (TT.Qtc hc hy)
 |dead=>exact h.mono hle Z.le_refl rfl fun _ _ _ _=>rfl
 |vec _ _ _=>exact h.mono hle Z.le_refl rfl fun _ _ _ _=>rfl
 |tvec _ _ _=>exact h.mono hle Z.le_refl rfl fun _ _ _ _=>rfl
 |tmap _ _ _=>exact h.mono hle Z.le_refl rfl fun _ _ _ _=>rfl
 |iter _ _=>exact h.mono hle Z.le_refl rfl fun _ _ _ _=>rfl
 |over _ _=>exact h.mono hle Z.le_refl rfl fun _ _ _ _=>rfl
 |mit _ _ _=>exact h.mono hle Z.le_refl rfl fun _ _ _ _=>rfl
 |dfr _=>exact h.mono hle Z.le_refl rfl fun _ _ _ _=>rfl
theorem Qm2(k:Nat)(row:List Ty)(l:List (Ql row))(o:Qb):(o.Un k row l).live=o.live:=by cases o<;>rfl
def Ybi(k ty:Nat)(row:List Ty)(H:List Qb):Option (Bool×List (Ql row)):=(Qu.vec k ty row).get .nil H H.length
def Qpw(k ty:Nat)(row:List Ty)(s:St):Option (Bool×St):=match Ybi k ty row s.H with
 |none=>none
 | some a=>some (a.1 && (s.T.all (sealC k row a.2) && s.H.all (Qb.sealC k row a.2)),
   {T:=s.T.map (Jl k row a.2),H:=(s.H.map (Qb.Un k row a.2)).set k .dead,n0:=s.n0,tch:=Xq s.n0 [k] s.tch,fg:=s.fg,marks:=s.marks,er:=s.er})
theorem Yoi{M:Qd}{Z:Env}{H:List Qb}{w:World}:M.sealing Z H H.length w=M:=by
 funext b;unfold Qd.sealing;cases M b with
 |some o=>rfl
 |none=>
  simp only;rw[if_neg]
  rintro ⟨s,o,p,h1,h2,_⟩
  have:=(J.1 h2).1;omega
theorem Zbc{M:Qd}{Z:Env}{H:List Qb}{w:World}(hm:Mem M Z H w):Z.cut H.length=Z:=by
 funext s;unfold Env.cut;split
 ·rfl
 ·rename_i h;exact(hm.fresh s (by omega)).symm
theorem Zyi{R:Option Nat}{P:Program}{nt:Nat}{c:Code}{Q:Exit->St->Prop}{s s':St}{k ty:Nat}{row:List Ty}{cc:Bool}(hs:Qpw k ty row s=some (cc,s'))(hc:cc=true)
  (h:Zl R P nt c Q s'):Zl R P nt c Q s:=by
 unfold Qpw at hs;split at hs
 ·cases hs
 ·rename_i a ha;cases hs;obtain⟨c1,l⟩:=a;simp only[I]at hc;obtain⟨hc1,hc2,hc3⟩:=hc;intro B M Z act w hg;have hm:=hg.mem;have ha:(Qu.vec k ty row).get .nil s.H s.H.length=some (c1,l):=ha;obtain⟨o,ho,hl,hlen⟩:=Qu.Qz0 (H1:=[]) ha hc1 rfl;have hks:k<s.H.length:=(J.1 ho).1;have hown:=Qu.Zmc (H1:=[]) hm ha hc1 rfl hks (fun q hq=>by cases hq);rw[Yoi,Zbc hm]at hown;have hown:Q6 M Z w k (.tvec ty row l):=hown;have hm1:=Mem.oneLive hm ho hl hown;have hle:=Qd.W0 M Z (Sx.oneLive s.H k (.tvec ty row l)) 0 w;have hget:(Sx.oneLive s.H k (.tvec ty row l))[k]? =some (.tvec ty row l):=by simp[Sx.oneLive,hks]
  have hnew:∀b ob,M b=none->M.sealing Z (Sx.oneLive s.H k (.tvec ty row l)) 0 w b=some ob->(∃p,Z k=some p∧p.block=b)∧w.heap[b]? =some ob:=fun b ob h0 h1=>by
   obtain⟨⟨s2,o2,p2,q1,q2,q3,q4,q5⟩,q6⟩:=Qd.Kx h0 h1;rcases Qew q2 with⟨rfl,rfl⟩|⟨_,rfl⟩
   ·exact⟨⟨p2,q4,q5⟩,q6⟩
   ·cases q3
  have hslice:∀v,Qf M Z v (.sl k row.length 0 l.length)->Zu (M.sealing Z (Sx.oneLive s.H k (.tvec ty row l)) 0 w) v (.tsl row l):=fun v hr=>by
   refine Qnh hm1 (ZY _) hget rfl rfl (by simp[Qb.len]) rfl (fun i y hy=>?_) hr;have:(Qb.tvec ty row l).row (0+i)=(Zn row y).map .pv:=by simp only[Qb.row,List.getD,QD,hy,QG]
   rw[this];exact .self hle y
  have hf:∀v x,Qf M Z v x->Sx.sealC k row l x=true->Qf (M.sealing Z (Sx.oneLive s.H k (.tvec ty row l)) 0 w) Z v (Jl k row l x):=fun v x h hc=>Yrn hle hslice h hc;generalize hM2:M.sealing Z (Sx.oneLive s.H k (.tvec ty row l)) 0 w=M2 at hle hnew hslice hf;have hobj:∀t x,((s.H.map (Qb.Un k row l)).set k .dead)[t]? =some x->(t=k∧x=.dead)∨(t≠k∧∃y,s.H[t]? =some y∧x=y.Un k row l):=fun t x hx=>by
   rw[ZG]at hx;split at hx
   ·rename_i e;subst e;split at hx
    ·cases hx;exact .inl ⟨rfl,rfl⟩
    ·cases hx
   ·rename_i e;simp only[ZA,C]at hx;obtain⟨y,hy,rfl⟩:=hx;exact .inr ⟨fun h=>e h.symm,y,hy,rfl⟩
  have hmem2:Mem M2 Z ((s.H.map (Qb.Un k row l)).set k .dead) w:=by
   refine⟨fun b ob hb=>?_,fun t x hx=>?_,fun t x p b hx hlx hp hb=>?_,fun t t' x x' p p' b hx hx' hlx hlx' hp hp' hbk hbk'=>?_,fun t ht=>hm.fresh t (by simpa using ht),fun t x p b hx hlx hp hb=>?_⟩
   ·cases e:M b with
    |some o'=>rw[hle b o' e]at hb;cases hb;exact hm.imm b _ e
    |none=>exact(hnew b ob e hb).2
   ·rcases hobj t x hx with⟨rfl,rfl⟩|⟨_,y,hy,rfl⟩
    ·trivial
    ·exact(hm.own t y hy).Un hle hf (ZQ.1 hc3 y (ZS hy))
   ·rcases hobj t x hx with⟨rfl,rfl⟩|⟨hne,y,hy,rfl⟩
    ·cases hlx
    ·rw[Qm2]at hlx;have h0:=hm.seps t y p b hy hlx hp hb;cases e:M2 b with
     |none=>rfl
     |some ob=>obtain⟨⟨p2,q1,q2⟩,_⟩:=hnew _ _ h0 e;exact absurd (hm.diss t k y o p p2 b hy ho hlx hl hp q1 hb (.inl q2)) hne
   ·rcases hobj t x hx with⟨rfl,rfl⟩|⟨_,y,hy,rfl⟩
    ·cases hlx
    ·rcases hobj t' x' hx' with⟨rfl,rfl⟩|⟨_,y',hy',rfl⟩
     ·cases hlx'
     ·rw[Qm2]at hlx hlx';exact hm.diss t t' y y' p p' b hy hy' hlx hlx' hp hp' hbk hbk'
   ·rcases hobj t x hx with⟨rfl,rfl⟩|⟨hne,y,hy,rfl⟩
    ·cases hlx
    ·rw[Qm2]at hlx;exact hm.lts t y p b hy hlx hp hb
  have hgood:Good B nt M2 Z {T:=s.T.map (Jl k row l),H:=(s.H.map (Qb.Un k row l)).set k .dead,n0:=s.n0,tch:=Xq s.n0 [k] s.tch,fg:=s.fg,marks:=s.marks,er:=s.er} act w:=by refine⟨fun t x hx=>?_,hg.sz,hmem2,hg.df,hg.mks,by simpa using hg.nle,hg.fix⟩;rw[TT.get_map,C]at hx;obtain⟨y,hy,rfl⟩:=hx;exact hf _ _ (hg.tm t y hy) (TT.Qtc hc2 hy)
  have hgoes:Y2 M Z s w M2 Z {T:=s.T.map (Jl k row l),H:=(s.H.map (Qb.Un k row l)).set k .dead,n0:=s.n0,tch:=Xq s.n0 [k] s.tch,fg:=s.fg,marks:=s.marks,er:=s.er} w:=by
   refine⟨⟨hle,fun b ob h0 h1=>?_,fun b hb=>?_,fun _ _ _=>rfl,ZO _,fun t x ht hx hx2 hlx=>?_,fun _ _ _=>rfl,rfl,rfl⟩,rfl,fun x hx=>(show x∈Xq s.n0 [k] s.tch from Qf1 hx),fun _ h=>h⟩
   ·obtain⟨⟨p,q1,q2⟩,_⟩:=hnew b ob h0 h1;exact .inr ⟨k,o,p,ho,hl,q1,.inl q2⟩
   ·obtain⟨t,x,p,h1,h2,h3,h4⟩:=hb;rcases hobj t x h1 with⟨rfl,rfl⟩|⟨_,y,hy,rfl⟩
    ·cases h2
    ·rw[Qm2]at h2;exact .inr ⟨t,y,p,hy,h2,h3,h4⟩
   ·have hne:t≠k:=fun e=>by subst e;exact hx (Qf9 ht ZP)
    refine⟨⟨x.Un k row l,?_,by rw[Qm2];exact hlx⟩,fun p hp=>⟨hp,fun _ _=>rfl⟩⟩;show((s.H.map (Qb.Un k row l)).set k .dead)[t]? =_;rw[ZG,if_neg (fun h=>hne h.symm),ZA,hx2];rfl
  exact wpIn_mono (h B M2 Z act w hgood) fun e a' w' ⟨M',Z',s'',q,g,kk⟩=>⟨M',Z',s'',q,g,hgoes.trans kk⟩
def Qr2(s:St)(ob col ty:Nat)(row:List Ty):Option St:=match s.H[ob]? with
 |none=>none
 |some o=>match Qaw o with
  |none=>none
  |some q=>match ZH q.2.2.length q.2.1 with
   |false=>none
   |true=>match q.2.2[col]? with
    |some (.pv (.lit v))=>match Value.isNil v with
     |true=>some {T:=s.T,H:=(s.H.set ob (.mix q.1 q.2.1 [q.2.2.set col (.sl s.H.length row.length 0 0)]))++[.tvec ty row []],n0:=s.n0,tch:=s.tch,fg:=s.fg,marks:=s.marks,er:=s.er}
     |false=>none
    |_=>none
theorem Yez{R:Option Nat}{P:Program}{nt:Nat}{c:Code}{Q:Exit->St->Prop}{s s':St}{ob col ty:Nat}{row:List Ty}(hs:Qr2 s ob col ty row=some s')
  (h:Zl R P nt c Q s'):Zl R P nt c Q s:=by
 unfold Qr2 at hs;split at hs
 ·cases hs
 ·rename_i o ho;split at hs
  ·cases hs
  ·rename_i q hq;split at hs
   ·cases hs
   ·rename_i hl;have hl:=ZB hl;split at hs
    ·rename_i v hv;split at hs
     ·rename_i hn;cases hs;obtain⟨oty,sz,r⟩:=q;have hlt:ob<s.H.length:=(J.1 ho).1;refine Zl.Qhc (fun B M Z a w hg=>⟨Z,?_,?_⟩) h
      all_goals
       obtain⟨g1,g2,g3,g4⟩:=Qmh (M:=M) (Z:=Z) (w:=w) (s:=ob) hq;obtain⟨m1,m2⟩:=hg.mem.virt (ty:=ty) (sz:=row.length);have n1:=m1.described (s:=s.H.length) (o:=.vec ty row.length []) (o':=.tvec ty row []) (by simp) rfl (fun h=>h);have n2:=m2.described (s:=s.H.length) (o:=.vec ty row.length []) (o':=.tvec ty row []) (by simp) rfl;have e1:(s.H++[Qb.vec ty row.length []]).set s.H.length (.tvec ty row [])=s.H++[.tvec ty row []]:=by simp
       rw[e1]at n1 n2;have hob:(s.H++[Qb.tvec ty row []])[ob]? =some o:=by rw[List.getElem?_append_left hlt];exact ho
       have hown:Q6 M Z w ob o->Q6 M Z w ob (.mix oty sz [r.set col (.sl s.H.length row.length 0 0)]):=fun h0=>by
        refine Q6.Zl2 rfl (by simpa using hl) (fun j y hy=>?_) (g4 h0);rw[ZG]at hy;split at hy
        ·rename_i e;subst e;split at hy
         ·cases hy;refine .inr ⟨_,hv,fun u hu=>?_⟩;have:=hu.Zq;subst this;unfold Value.isNil at hn;split at hn
          ·simp only[I]at hn;rw[ZB hn.1,ZB hn.2];exact .slz _ _ _ _
          ·cases hn
         ·cases hy
        ·exact .inr ⟨y,hy,fun u hu=>hu⟩
       have e2:(s.H++[Qb.tvec ty row []]).set ob (.mix oty sz [r.set col (.sl s.H.length row.length 0 0)])=(s.H.set ob (.mix oty sz [r.set col (.sl s.H.length row.length 0 0)]))++[.tvec ty row []]:=by rw[List.set_append_left _ _ hlt]
      ·have n3:=n1.described hob (o':=.mix oty sz [r.set col (.sl s.H.length row.length 0 0)]) g1.symm hown;rw[e2]at n3;refine⟨hg.tm,hg.sz,n3,hg.df,hg.mks,?_,hg.fix⟩;show s.n0<=((s.H.set ob (.mix oty sz [r.set col (.sl s.H.length row.length 0 0)]))++[Qb.tvec ty row []]).length;have:=hg.nle;simp;omega
      ·have n3:=n2.described hob (o':=.mix oty sz [r.set col (.sl s.H.length row.length 0 0)]) g1.symm;rw[e2]at n3;exact⟨n3.weaken (n':=s.n0) (t':=s.tch) (f':=s.fg) hg.nle (fun x _ h=>by cases h) (fun x _ h=>by cases h),rfl,fun _ h=>h,fun _ h=>h⟩
     ·cases hs
    ·cases hs
def Qq3(k ty:Nat)(row:List Ty)(s:St):Option St:=match s.H[k]? with
 |some (.vec ty' sz rows)=>match ZH ty' ty&&ZH sz row.length with
  |true=>match Wo (ofRow row) rows with
   |some l=>some {s with H:=s.H.set k (.tvec ty row l)}
   |none=>none
  |false=>none
 |_=>none
theorem Zr2{R:Option Nat}{P:Program}{nt:Nat}{c:Code}{Q:Exit->St->Prop}{s s':St}{k ty:Nat}{row:List Ty}(hs:Qq3 k ty row s=some s')(h:Zl R P nt c Q s'):Zl R P nt c Q s:=by
 unfold Qq3 at hs;split at hs
 ·rename_i ty' sz rows ho;split at hs
  ·rename_i e;rw[I]at e;have e1:=ZB e.1;have e2:=ZB e.2;subst e1;subst e2;split at hs
   ·rename_i l hl;cases hs;have hok:=Jx.of hl;refine Zl.Qhc (fun B M Z a w hg=>⟨Z,?_,?_⟩) h
    ·refine⟨hg.tm,hg.sz,hg.mem.described ho rfl (fun hh=>hh.Qnj hok.1 hok.2),hg.df,hg.mks,by show s.n0<=(s.H.set k _).length;rw[QI];exact hg.nle,hg.fix⟩
    ·exact⟨(Fr.refl M Z s.H w s.n0 s.tch s.fg).described ho rfl,rfl,fun _ h=>h,fun _ h=>h⟩
   ·cases hs
  ·cases hs
 ·cases hs
def Yby(s:St)(slot:Nat):Option Int:=match s.T.get slot with
 |some (.pv (.lit (.int _ i)))=>some i
 |_=>none
def Qn2(k slot c:Nat)(s:St):Option St:=match s.H[k]? with
 |some (.tvec ty row l)=>match Yby s slot with
  |some i=>some {s with H:=s.H.set k (.tlnk ty row l (0+i.toNat) c .any)}
  |none=>none
 |_=>none
def Qs2(k:Nat)(s:St):Option (Bool×St):=match s.H[k]? with
 |some (.tlnk ty row l r c (.pv p))=>match Qnq row l r c [.pv p]with
  |some x=>some (decide (r<l.length)&&Nat.blt c row.length,{s with H:=s.H.set k (.tvec ty row (l.set r x))})
  |none=>none
 |_=>none
theorem Q6.lnk{M:Qd}{Z:Env}{w:World}{s ty:Nat}{row:List Ty}{l:List (Ql row)}{r c:Nat}(h:Q6 M Z w s (.tvec ty row l)):Q6 M Z w s (.tlnk ty row l r c .any):=by
 rcases h with h|⟨p,h1,h2⟩
 ·exact .inl h
 ·refine .inr ⟨p,h1,?_⟩;obtain⟨cs,a1,a2,a3,a4,a5,a6⟩:=h2.ex;have key:∀i j x,Wd row l r c .any i j=some x->∃y,Y0 (Q0 row l) i j=some y∧(x=.any∨x=y):=fun i j x hx=>by
   unfold Wd at hx;simp only[C]at hx;obtain⟨y,hy,rfl⟩:=hx;refine⟨y,hy,?_⟩;split
   ·exact .inl rfl
   ·exact .inr rfl
  refine⟨cs,a1,a2,a3,a4,fun i j x v hx hv=>?_,fun i j x hx=>?_⟩
  ·obtain⟨y,hy,e⟩:=key i j x hx;obtain⟨b1,b2,b3⟩:=a5 i j y v hy hv;refine⟨b1,b2,?_⟩;rcases e with rfl|rfl
   ·exact .any v
   ·exact b3
  ·obtain⟨y,hy,_⟩:=key i j x hx;exact a6 i j y hy
theorem Q6.unlnk{M:Qd}{Z:Env}{w:World}{s ty:Nat}{row:List Ty}{l:List (Ql row)}{r c:Nat}{p:PV}{x:Ql row}(hx:Qnq row l r c [.pv p]=some x)(hr:r<l.length)(hc:c<row.length)
  (h:Q6 M Z w s (.tlnk ty row l r c (.pv p))):Q6 M Z w s (.tvec ty row (l.set r x)):=by
 cases hp:Z s with
 |none=>
  rcases h with⟨_,h2⟩|⟨q,h1,_⟩
  ·have:l.length=0:=by have:=congrArg List.length h2;simpa[Q0]using this
   omega
  ·rw[hp]at h1;cases h1
 |some q=>
  obtain⟨cs,ty0,a1,a2,a3,a4,a5⟩:=(h.rowOf (sz:=row.length) rfl hp).ex;obtain⟨cs1,b1⟩:=h.heap (sz:=row.length) rfl hp;rw[a1]at b1;cases b1;have hrow:((Qb.tvec ty row l).row r).length=row.length:=by simp[Qb.row,Vc]
  obtain⟨w1,w2,w3⟩:=Zgk (.tvec ty row l) (sz:=row.length) rfl (r:=r) (j:=c) (l:=[.pv p]) hr rfl (by rw[hrow];simp;omega);have e:(Qb.tvec ty row l).write r c [.pv p]=.tvec ty row (l.set r x):=by simp only[Qb.write,hx]
  rw[e]at w1 w2 w3;refine Qcd.Qg9 w1 hp (fun ty' sz' rows e=>by cases e) (fun ty' sz' rows e=>by cases e) (fun ty' row' l2 e=>by cases e;rfl) (fun ty' row' l2 r c x e=>by cases e) a1 a2 (by rw[w2];exact a3) (fun i j hi hj=>a4 i j (by rw[w2]at hi;exact hi) hj) (fun i j y hi hy=>?_);rw[w2]at hi;obtain⟨y',hy',himp⟩:=w3 i hi j y hy;have hy2:((Qb.tlnk ty row l r c (.pv p)).row i)[j]? =some y':=by
   by_cases hir:i=r
   ·subst hir;rw[if_pos rfl]at hy';rw[<-hy'];simp only[Qb.row,if_true];have hl:((Zn row (l.getD i (Ql.Y8 row))).map SV.pv).length=row.length:=by simp[Vc]
    generalize (Zn row (l.getD i (Ql.Y8 row))).map SV.pv=A at*;rw[Ut _ _ _ _ (by simp[hl];omega),ZG];simp only[ZW,List.length_nil,QD];by_cases hd:j<c
    ·rw[if_neg (by omega),if_pos hd]
    ·by_cases hd2:c=j
     ·subst hd2;rw[if_pos rfl,if_pos (by omega),if_neg (by omega),if_pos (by omega)];simp
     ·rw[if_neg hd2,if_neg hd,if_neg (by omega)]
   ·rw[if_neg hir]at hy';rw[<-hy'];simp only[Qb.row,if_neg hir]
  obtain⟨g1,g2⟩:=a5 i j y' hi hy2;exact⟨g1,fun v hv=>himp _ _ _ (g2 v hv)⟩
theorem Zkz{R:Option Nat}{P:Program}{nt:Nat}{c:Code}{Q:Exit->St->Prop}{s:St}{k:Nat}{o o':Qb}(ho:s.H[k]? =some o)(hl:o'.live=o.live)(hi:∀M Z w,Q6 M Z w k o->Q6 M Z w k o')
  (h:Zl R P nt c Q {s with H:=s.H.set k o'}):Zl R P nt c Q s:=by
 refine Zl.Qhc (fun B M Z a w hg=>⟨Z,?_,?_⟩) h
 ·refine⟨hg.tm,hg.sz,hg.mem.described ho hl (hi M Z w),hg.df,hg.mks,by show s.n0<=(s.H.set k _).length;rw[QI];exact hg.nle,hg.fix⟩
 ·exact⟨(Fr.refl M Z s.H w s.n0 s.tch s.fg).described ho hl,rfl,fun _ h=>h,fun _ h=>h⟩
theorem Yer{R:Option Nat}{P:Program}{nt:Nat}{cd:Code}{Q:Exit->St->Prop}{s s':St}{k slot c:Nat}(hs:Qn2 k slot c s=some s')(h:Zl R P nt cd Q s'):Zl R P nt cd Q s:=by
 unfold Qn2 at hs;split at hs
 ·rename_i ty row l ho;split at hs
  ·cases hs;exact Zkz (o':=.tlnk ty row l _ c .any) ho rfl (fun _ _ _ hh=>hh.lnk) h
  ·cases hs
 ·cases hs
theorem Ybe{R:Option Nat}{P:Program}{nt:Nat}{cd:Code}{Q:Exit->St->Prop}{s:St}{k:Nat}{q:Bool×St}(hs:Qs2 k s=some q)(hc:q.1=true)(h:Zl R P nt cd Q q.2):Zl R P nt cd Q s:=by
 unfold Qs2 at hs;split at hs
 ·rename_i ty row l r c p ho;split at hs
  ·rename_i x hx;cases hs;rw[I]at hc;exact Zkz (o':=.tvec ty row (l.set r x)) ho rfl (fun _ _ _ hh=>hh.unlnk hx (of_decide_eq_true hc.1) (Qa1 hc.2)) h
  ·cases hs
 ·cases hs
end Go.Sx
end
namespace Go.Sx
open Go
theorem Mem.Yr6{M:Qd}{Z:Env}{H:List Qb}{w:World}{k ty:Nat}{row:List Ty}{l:List (Ql row)}(hm:Mem M Z H w)(ho:H[k]? =some (.tvec ty row l)):
  ∃M2,M.le M2∧Mem M2 Z (H.set k .dead) w∧(∀n,Fr M Z H w M2 Z (H.set k .dead) w n [k] [])∧∀v,Qf M Z v (.sl k row.length 0 l.length)->Zu M2 v (.tsl row l):=by
 have hks:k<H.length:=(J.1 ho).1;have hl:(Qb.tvec ty row l).live=true:=rfl;have hm1:=Mem.oneLive hm ho hl (hm.own k _ ho);have hle:=Qd.W0 M Z (Sx.oneLive H k (.tvec ty row l)) 0 w;have hget:(Sx.oneLive H k (.tvec ty row l))[k]? =some (.tvec ty row l):=by simp[Sx.oneLive,hks]
 have hnew:∀b ob,M b=none->M.sealing Z (Sx.oneLive H k (.tvec ty row l)) 0 w b=some ob->(∃p,Z k=some p∧p.block=b)∧w.heap[b]? =some ob:=fun b ob h0 h1=>by
  obtain⟨⟨s2,o2,p2,q1,q2,q3,q4,q5⟩,q6⟩:=Qd.Kx h0 h1;rcases Qew q2 with⟨rfl,rfl⟩|⟨_,rfl⟩
  ·exact⟨⟨p2,q4,q5⟩,q6⟩
  ·cases q3
 have hslice:∀v,Qf M Z v (.sl k row.length 0 l.length)->Zu (M.sealing Z (Sx.oneLive H k (.tvec ty row l)) 0 w) v (.tsl row l):=fun v hr=>by
  refine Qnh hm1 (ZY _) hget rfl rfl (by simp[Qb.len]) rfl (fun i y hy=>?_) hr;have:(Qb.tvec ty row l).row (0+i)=(Zn row y).map .pv:=by simp only[Qb.row,List.getD,QD,hy,QG]
  rw[this];exact .self hle y
 generalize hM2:M.sealing Z (Sx.oneLive H k (.tvec ty row l)) 0 w=M2 at hle hnew hslice;have hobj:∀t x,(H.set k .dead)[t]? =some x->(t=k∧x=.dead)∨(t≠k∧H[t]? =some x):=fun t x hx=>by
  by_cases e:t=k
  ·subst e;rw[List.getElem?_set_self hks]at hx;cases hx;exact .inl ⟨rfl,rfl⟩
  ·rw[ZZ (fun h=>e h.symm)]at hx;exact .inr ⟨e,hx⟩
 refine⟨M2,hle,⟨fun b ob hb=>?_,fun t x hx=>?_,fun t x p b hx hlx hp hb=>?_,fun t t' x x' p p' b hx hx' hlx hlx' hp hp' hbk hbk'=>?_,fun t ht=>hm.fresh t (by simpa using ht),fun t x p b hx hlx hp hb=>?_⟩,fun n=>⟨hle,fun b ob h0 h1=>?_,fun b hb=>?_,fun _ _ _=>rfl,ZO _,fun t x ht hx hx2 hlx=>?_,fun _ _ _=>rfl,rfl,rfl⟩,hslice⟩
 ·cases e:M b with
  |some o'=>rw[hle b o' e]at hb;cases hb;exact hm.imm b _ e
  |none=>exact(hnew b ob e hb).2
 ·rcases hobj t x hx with⟨rfl,rfl⟩|⟨_,hy⟩
  ·trivial
  ·exact(hm.own t x hy).mono hle Z.le_refl rfl fun _ _ _ _=>rfl
 ·rcases hobj t x hx with⟨rfl,rfl⟩|⟨hne,hy⟩
  ·cases hlx
  ·have h0:=hm.seps t x p b hy hlx hp hb;cases e:M2 b with
   |none=>rfl
   |some ob=>obtain⟨⟨p2,q1,q2⟩,_⟩:=hnew _ _ h0 e;exact absurd (hm.diss t k x _ p p2 b hy ho hlx hl hp q1 hb (.inl q2)) hne
 ·rcases hobj t x hx with⟨rfl,rfl⟩|⟨_,hy⟩
  ·cases hlx
  ·rcases hobj t' x' hx' with⟨rfl,rfl⟩|⟨_,hy'⟩
   ·cases hlx'
   ·exact hm.diss t t' x x' p p' b hy hy' hlx hlx' hp hp' hbk hbk'
 ·rcases hobj t x hx with⟨rfl,rfl⟩|⟨hne,hy⟩
  ·cases hlx
  ·exact hm.lts t x p b hy hlx hp hb
 ·obtain⟨⟨p,q1,q2⟩,_⟩:=hnew b ob h0 h1;exact .inr ⟨k,_,p,ho,hl,q1,.inl q2⟩
 ·obtain⟨t,x,p,h1,h2,h3,h4⟩:=hb;rcases hobj t x h1 with⟨rfl,rfl⟩|⟨_,hy⟩
  ·cases h2
  ·exact .inr ⟨t,x,p,hy,h2,h3,h4⟩
 ·have hne:t≠k:=fun e=>hx (by rw[e];exact ZP);exact⟨⟨x,by rw[ZZ (fun h=>hne h.symm)];exact hx2,hlx⟩,fun p hp=>⟨hp,fun _ _=>rfl⟩⟩
def Qhh(H:List Qb):SV->Option (SV×Nat×List Qb)
 |.sl k sz 0 n=>match H[k]? with
  |some (.tvec ty row l)=>match ZH sz row.length with
   |true=>some (.pv (.tsl row l),k,H.set k .dead)
   |false=>none
  |_=>none
 |_=>none
def Qqw(H:List Qb):SV->Bool
 |.sl k sz 0 n=>match H[k]? with
  |some (.tvec ty row l)=>decide (n=l.length)
  |_=>true
 |_=>true
theorem Zh0{M:Qd}{Z:Env}{H H':List Qb}{w:World}{x y:SV}{k:Nat}(hm:Mem M Z H w)(h:Qhh H x=some (y,k,H'))(hc:Qqw H x=true):
  H'.length=H.length∧∃M2,M.le M2∧Mem M2 Z H' w∧(∀n,Fr M Z H w M2 Z H' w n [k] [])∧∀v,Qf M Z v x->Qf M2 Z v y:=by
 unfold Qhh at h;unfold Qqw at hc;split at h
 ·rename_i k0 sz n;split at h
  ·rename_i ty row l ho;split at h
   ·rename_i e;have e:=ZB e;subst e;cases h;simp only[ho,decide_eq_true_eq]at hc;subst hc;obtain⟨M2,h1,h2,h3,h4⟩:=hm.Yr6 ho;exact⟨by simp,M2,h1,h2,h3,fun v hv=>.pv (h4 v hv)⟩
   ·cases h
  ·cases h
 ·cases h
def Ykk:PV->Option Ty
 |.lit (.string _)=>some .str
 |.lit (.int k _)=>some (.int k)
 |.lit (.bool _)=>some .bool
 |.tsl row _=>some (.seq row)
 |_=>none
def Za1(H:List Qb)(x:SV):List Ty:=match x with
 |.sl d _ _ _=>match H[d]? with
  |some (.vec _ _ (r::_))=>match Wo Ykk r with
   |some row=>row
   |none=>[]
  |_=>[]
 |_=>[]
def Qbt(H:List Qb)(x:SV):List Qb:=asData H (Za1 H x) x
theorem Zdb{M:Qd}{Z:Env}{H:List Qb}{w:World}(hm:Mem M Z H w)(x:SV):Mem M Z (Qbt H x) w∧(∀n,Fr M Z H w M Z (Qbt H x) w n [] [])∧(Qbt H x).length=H.length:=by obtain⟨m1,h,m3⟩:=Qu8 hm (Za1 H x) x;exact⟨m1,fun n=>⟨h.imm,h.new,h.own,h.same,h.grow,fun s o _ ht ho hl=>h.keep s o (J.1 ho).1 ht ho hl,fun _ _ _=>rfl,h.io⟩,m3⟩
def K8:List SV->List Qb->Bool×List SV×List Nat×List Qb
 |[],H=>(true,[],[],H)
 |x::xs,H=>match Qhh (Qbt H x) x with
  |some q=>match K8 xs q.2.2 with
   |r=>(Qqw (Qbt H x) x&&r.1,q.1::r.2.1,q.2.1::r.2.2.1,r.2.2.2)
  |none=>match K8 xs H with
   |r=>(r.1,x::r.2.1,r.2.2.1,r.2.2.2)
theorem Qxg:∀{args:List SV} {M:Qd} {Z:Env} {H:List Qb} {w:World},Mem M Z H w->(K8 args H).1=true->
  (K8 args H).2.2.2.length = H.length ∧ (K8 args H).2.1.length = args.length ∧ ∃ M2,M.le M2 ∧ Mem M2 Z (K8 args H).2.2.2 w ∧ (∀ n,Fr M Z H w M2 Z (K8 args H).2.2.2 w n (K8 args H).2.2.1 []) ∧
   ∀(i:Nat) (v:Value) (x y:SV),args[i]? =some x->(K8 args H).2.1[i]? =some y->Qf M Z v x->Qf M2 Z v y
 |[],M,Z,H,w,hm,hc=>⟨rfl,rfl,M,M.le_refl,hm,fun n=>Fr.refl ..,fun i v x y hx=>by simp at hx⟩
 |x::xs,M,Z,H,w,hm,hc=>by
  cases hs:Qhh (Qbt H x) x with
  |some q=>
   obtain⟨y,k,H1⟩:=q;simp only[K8,hs,I]at hc⊢;obtain⟨m1,m2,m3⟩:=Zdb hm x;obtain⟨e1,M1,a1,a2,a3',a4⟩:=Zh0 m1 hs hc.1;have a3:∀n,Fr M Z H w M1 Z H1 w n [k] []:=fun n=>(m2 n).trans (a3' n) (fun z hz=>by cases hz) (fun z hz=>hz) (fun z hz=>by cases hz) (fun z hz=>by cases hz);obtain⟨e2,e3,M2,b1,b2,b3,b4⟩:=Qxg a2 hc.2;refine⟨e2.trans (e1.trans m3),by simp[e3],M2,Qd.le_trans a1 b1,b2,fun n=>(a3 n).trans (b3 n) (fun z hz=>?_) (fun z hz=>ZT _ hz) (fun z hz=>by cases hz) (fun z hz=>hz),fun i v x' y' hx hy hv=>?_⟩
   ·rw[List.mem_singleton.1 hz];exact ZP
   ·cases i with
    |zero=>simp at hx hy;subst hx;subst hy;exact(a4 v hv).mono b1 Z.le_refl
    |succ i=>exact b4 i v x' y' (by simpa using hx) (by simpa using hy) (hv.mono a1 Z.le_refl)
  |none=>
   simp only[K8,hs]at hc⊢;obtain⟨e2,e3,M2,b1,b2,b3,b4⟩:=Qxg (args:=xs) hm hc;refine⟨e2,by simp[e3],M2,b1,b2,b3,fun i v x' y' hx hy hv=>?_⟩;cases i with
   |zero=>simp at hx hy;subst hx;subst hy;exact hv.mono b1 Z.le_refl
   |succ i=>exact b4 i v x' y' (by simpa using hx) (by simpa using hy) hv
def Qdq(x:SV)(H:List Qb):Bool×SV×List Nat×List Qb:=match Qhh (Qbt H x) x with
 |some q=>(Qqw (Qbt H x) x,q.1,[q.2.1],q.2.2)
 |none=>(true,x,[],H)
theorem Yhl{x:SV}{M:Qd}{Z:Env}{H:List Qb}{w:World}(hm:Mem M Z H w)(hc:(Qdq x H).1=true):
  (Qdq x H).2.2.2.length=H.length∧∃M2,M.le M2∧Mem M2 Z (Qdq x H).2.2.2 w∧(∀n,Fr M Z H w M2 Z (Qdq x H).2.2.2 w n (Qdq x H).2.2.1 [])∧∀v,Qf M Z v x->Qf M2 Z v (Qdq x H).2.1:=by
 unfold Qdq at hc⊢;cases hs:Qhh (Qbt H x) x with
 |some q=>obtain⟨y,k,H1⟩:=q;simp only[hs]at hc⊢;obtain⟨m1,m2,m3⟩:=Zdb hm x;obtain⟨e1,M1,a1,a2,a3,a4⟩:=Zh0 m1 hs hc;exact⟨e1.trans m3,M1,a1,a2,fun n=>(m2 n).trans (a3 n) (fun z hz=>by cases hz) (fun z hz=>hz) (fun z hz=>by cases hz) (fun z hz=>by cases hz),a4⟩
 |none=>exact⟨rfl,M,M.le_refl,hm,fun n=>Fr.refl ..,fun v hv=>hv⟩
def Qd2(x:SV)(H:List Qb):Bool×SV×List Nat×List Qb:=match x with
 |.agg l=>match K8 l H with
  |r=>(r.1,.agg r.2.1,r.2.2.1,r.2.2.2)
 |x=>Qdq x H
theorem Zp0{x:SV}{M:Qd}{Z:Env}{H:List Qb}{w:World}(hm:Mem M Z H w)(hc:(Qd2 x H).1=true):
  (Qd2 x H).2.2.2.length=H.length∧∃M2,M.le M2∧Mem M2 Z (Qd2 x H).2.2.2 w∧(∀n,Fr M Z H w M2 Z (Qd2 x H).2.2.2 w n (Qd2 x H).2.2.1 [])∧∀v,Qf M Z v x->Qf M2 Z v (Qd2 x H).2.1:=by
 unfold Qd2 at hc⊢;split at hc
 ·rename_i l;obtain⟨e1,e2,M2,b1,b2,b3,b4⟩:=Qxg hm hc;refine⟨e1,M2,b1,b2,b3,fun v hv=>?_⟩;cases hv with
  |agg cs _ hl h=>
   refine .agg cs _ (by rw[hl,e2]) fun i v y hv hy=>?_;obtain⟨x,hx⟩:∃x,l[i]? =some x:=by
    have:i<l.length:=by rw[<-e2];exact(J.1 hy).1
    exact⟨_,ZF this⟩
   exact b4 i v x y hx hy (h i v x hv hx)
 ·exact Yhl hm hc
def Ja:List SV->List Qb->Bool×List SV×List Nat×List Qb
 |[],H=>(true,[],[],H)
 |x::xs,H=>match Qd2 x H with
  |q=>match Ja xs q.2.2.2 with
   |r=>(q.1&&r.1,q.2.1::r.2.1,q.2.2.1++r.2.2.1,r.2.2.2)
theorem Zcd:∀{args:List SV} {M:Qd} {Z:Env} {H:List Qb} {w:World},Mem M Z H w->(Ja args H).1=true->
  (Ja args H).2.2.2.length = H.length ∧ (Ja args H).2.1.length = args.length ∧ ∃ M2,M.le M2 ∧ Mem M2 Z (Ja args H).2.2.2 w ∧ (∀ n,Fr M Z H w M2 Z (Ja args H).2.2.2 w n (Ja args H).2.2.1 []) ∧
   ∀(i:Nat) (v:Value) (x y:SV),args[i]? =some x->(Ja args H).2.1[i]? =some y->Qf M Z v x->Qf M2 Z v y
 |[],M,Z,H,w,hm,hc=>⟨rfl,rfl,M,M.le_refl,hm,fun n=>Fr.refl ..,fun i v x y hx=>by simp at hx⟩
 |x::xs,M,Z,H,w,hm,hc=>by
  simp only[Ja,I]at hc⊢;obtain⟨e1,M1,a1,a2,a3,a4⟩:=Zp0 hm hc.1;obtain⟨e2,e3,M2,b1,b2,b3,b4⟩:=Zcd a2 hc.2;refine⟨e2.trans e1,by simp[e3],M2,Qd.le_trans a1 b1,b2,fun n=>(a3 n).trans (b3 n) (fun z hz=>ZK _ hz) (fun z hz=>ZN _ hz) (fun z hz=>by cases hz) (fun z hz=>hz),fun i v x' y' hx hy hv=>?_⟩;cases i with
  |zero=>simp at hx hy;subst hx;subst hy;exact(a4 v hv).mono b1 Z.le_refl
  |succ i=>exact b4 i v x' y' (by simpa using hx) (by simpa using hy) (hv.mono a1 Z.le_refl)
theorem Xt.Yrt{P:Program}{g:Nat}{args:List SV}{H:List Qb}{K:Qy}(hc:(Ja args H).1=true)
  (h:Xt P g (Ja args H).2.1 (Ja args H).2.2.2 fun r H' t f=>K r H' ((Ja args H).2.2.1++t) f):Xt P g args H K:=by
 intro M Z w vs hm hr;obtain⟨e1,e2,M2,b1,b2,b3,b4⟩:=Zcd hm hc;refine(h M2 Z w vs b2 ⟨by rw[hr.1,e2],fun i v y hv hy=>?_⟩).mono ?_
 ·obtain⟨x,hx⟩:∃x,args[i]? =some x:=by
   have:i<args.length:=by rw[<-e2];exact(J.1 hy).1
   exact⟨_,ZF this⟩
  exact b4 i v x y hx hy (hr.2 i v x hv hx)
 ·rintro e w' ⟨v,r,H',M',Z',t,f,he,hk,hs,hm',hf⟩
  rw[e1]at hf;exact⟨v,r,H',M',Z',_,f,he,hk,hs,hm',(b3 _).trans hf (fun z hz=>ZK _ hz) (fun z hz=>ZN _ hz) (fun z hz=>by cases hz) (fun z hz=>hz)⟩
end Go.Sx
section
namespace Go.Sx
open Go
mutual
def SV.Yb(f:Nat->Option Nat):SV->SV
 |.ptr s sz i j=>match f s with
  |some t=>.ptr t sz i j
  |none=>.any
 |.sl s sz st n=>match f s with
  |some t=>.sl t sz st n
  |none=>.any
 |.mp s=>match f s with
  |some t=>.mp t
  |none=>.any
 |.yld s=>match f s with
  |some t=>.yld t
  |none=>.any
 |.slb s sz st n m=>match f s with
  |some t=>.slb t sz st n m
  |none=>.any
 |.agg l=>.agg (Uy f l)
 |.tup l=>.tup (Uy f l)
 |.fn g a b=>.fn g (Uy f a) (Uy f b)
 |.any=>.any
 |.pv p=>.pv p
def Uy(f:Nat->Option Nat):List SV->List SV
 |[]=>[]
 |x::xs=>x.Yb f::Uy f xs
end
theorem Qpt(f:Nat->Option Nat)(l:List SV):Uy f l=l.map (SV.Yb f):=by
 induction l with
 |nil=>rfl
 |cons x xs ih=>simp only[Uy,QA,ih]
theorem Qf.Yb{M M':Qd}{Z Z':Env}{f:Nat->Option Nat}(hM:M.le M')(hf:∀s t p,f s=some t->Z s=some p->Z' t=some p){v:Value}{x:SV}(h:Qf M Z v x):Qf M' Z' v (x.Yb f):=by
 induction h with
 |any v=>exact .any v
 |pv h=>exact .pv (h.mono hM)
 |agg cs l hl _ ih=>simp only[SV.Yb,Qpt];refine .agg cs _ (by simpa using hl) fun i v x hv hx=>?_;simp only[ZA,C]at hx;obtain⟨y,hy,rfl⟩:=hx;exact ih i v y hv hy
 |tup cs l hl _ ih=>simp only[SV.Yb,Qpt];refine .tup cs _ (by simpa using hl) fun i v x hv hx=>?_;simp only[ZA,C]at hx;obtain⟨y,hy,rfl⟩:=hx;exact ih i v y hv hy
 |ptr s sz i j k p hp hk=>
  simp only[SV.Yb];split
  ·rename_i t ht;exact .ptr t sz i j k p (hf s t p ht hp) hk
  ·exact .any _
 |sl s sz st n c k p hp hk hc hn h6=>
  simp only[SV.Yb];split
  ·rename_i t ht;exact .sl t sz st n c k p (hf s t p ht hp) hk hc hn h6
  ·exact .any _
 |slz s sz st a=>
  simp only[SV.Yb];split
  ·exact .slz _ sz st a
  ·exact .any _
 |mp s p hp=>
  simp only[SV.Yb];split
  ·rename_i t ht;exact .mp t p (hf s t p ht hp)
  ·exact .any _
 |yld s p hp=>
  simp only[SV.Yb];split
  ·rename_i t ht;exact .yld t p (hf s t p ht hp)
  ·exact .any _
 |slb s sz st n m _ hm ih=>
  simp only[SV.Yb]at ih⊢;cases e:f s with
  |some t=>rw[e]at ih;exact .slb t sz st n m ih hm
  |none=>exact .any _
 |fn g a b x y ha hb _ _ ih jh=>
  simp only[SV.Yb,Qpt];refine .fn g a b _ _ (by simpa using ha) (by simpa using hb) (fun i v s hv hs=>?_) (fun i v s hv hs=>?_)
  ·simp only[ZA,C]at hs;obtain⟨y,hy,rfl⟩:=hs;exact ih i v y hv hy
  ·simp only[ZA,C]at hs;obtain⟨y,hy,rfl⟩:=hs;exact jh i v y hv hy
def Qb.Yb(f:Nat->Option Nat):Qb->Qb
 |.mix ty sz rows=>.mix ty sz (rows.map (·.map (SV.Yb f)))
 |.tlnk ty row l r c x=>.tlnk ty row l r c (x.Yb f)
 |.nest ty ity row ll q=>.nest ty ity row ll (q.map fun x=>(x.1,x.2.Yb f))
 |.map es c=>.map (es.map fun e=>(e.1,e.2.1.Yb f,e.2.2)) c
 |.loop l=>.loop {l with T:=l.T.map (SV.Yb f)}
 |.mit m c s=>.mit (m.bind f) c s
 |o=>o
theorem Uq(f:Nat->Option Nat)(o:Qb):(o.Yb f).live=o.live:=by cases o<;>rfl
theorem Qe.Yrw(f:Nat->Option Nat):∀(a:Qe) (x:a.El),(a.raw x).Yb f=a.raw x
 |.val t,x=>rfl
 |.agg row,x=>by
  have:∀l:List PV,Uy f (l.map .pv)=l.map .pv:=fun l=>by
   induction l with
   |nil=>rfl
   |cons x l ih=>simp only[QA,Uy,SV.Yb,ih]
  simp only[Qe.raw,SV.Yb,this]
theorem Q6.Yb{M M':Qd}{Z Z':Env}{w w':World}{s t:Nat}{f:Nat->Option Nat}{o:Qb}(hM:M.le M')(hf:∀s t p,f s=some t->Z s=some p->Z' t=some p)(hs:Z' t=Z s)
  (hw:∀p b,Z s=some p->p.has b->w'.heap[b]? =w.heap[b]?) (h:Q6 M Z w s o):Q6 M' Z' w' t (o.Yb f):=by
 have hws:=hw;replace hw:∀p,Z s=some p->w'.heap[p.block]? =w.heap[p.block]? :=fun p hp=>hws p _ hp p.self;cases o with
 |dead=>trivial
 |vec ty sz rows=>
  rcases h with⟨h1,h2⟩|⟨p,h1,h2⟩
  ·exact .inl ⟨hs.trans h1,h2⟩
  ·refine .inr ⟨p,hs.trans h1,?_⟩;obtain⟨cs,a1,a2,a3,a4,a5,a6⟩:=h2.ex;refine⟨cs,(hw p h1).trans a1,a2,a3,a4,fun i j x v hx hv=>?_,a6⟩;obtain⟨b1,b2,b3⟩:=a5 i j x v hx hv;refine⟨b1,b2,?_⟩;unfold Y0 at hx;simp only[C]at hx;obtain⟨q,_,rfl⟩:=hx;cases b3 with
   |pv b3=>exact .pv (b3.mono hM)
 |tvec ty row l=>
  rcases h with⟨h1,h2⟩|⟨p,h1,h2⟩
  ·exact .inl ⟨hs.trans h1,h2⟩
  ·refine .inr ⟨p,hs.trans h1,?_⟩;obtain⟨cs,a1,a2,a3,a4,a5,a6⟩:=h2.ex;refine⟨cs,(hw p h1).trans a1,a2,a3,a4,fun i j x v hx hv=>?_,a6⟩;obtain⟨b1,b2,b3⟩:=a5 i j x v hx hv;refine⟨b1,b2,?_⟩;unfold Y0 at hx;simp only[C]at hx;obtain⟨q,_,rfl⟩:=hx;cases b3 with
   |pv b3=>exact .pv (b3.mono hM)
 |mix ty sz rows=>
  rcases h with⟨h1,h2⟩|⟨p,h1,h2⟩
  ·exact .inl ⟨hs.trans h1,by simp[h2]⟩
  ·refine .inr ⟨p,hs.trans h1,?_⟩;obtain⟨cs,a1,a2,a3,a4,a5,a6⟩:=h2.ex;have key:∀i j x,Xo (rows.map (·.map (SV.Yb f))) i j=some x->∃y,Xo rows i j=some y∧x=y.Yb f:=fun i j x hx=>by unfold Xo at hx;simp only[ZA,ZV,C]at hx;obtain⟨r',⟨r,hr,rfl⟩,hx⟩:=hx;simp only[ZA,C]at hx;obtain⟨y,hy,rfl⟩:=hx;exact⟨y,by simp[Xo,hr,hy],rfl⟩
   refine⟨cs,(hw p h1).trans a1,a2,by simpa using a3,by simpa using a4,fun i j x v hx hv=>?_,fun i j x hx=>?_⟩
   ·obtain⟨y,hy,rfl⟩:=key i j x hx;obtain⟨b1,b2,b3⟩:=a5 i j y v hy hv;exact⟨by simpa using b1,b2,b3.Yb hM hf⟩
   ·obtain⟨y,hy,rfl⟩:=key i j x hx;simpa using a6 i j y hy
 |tlnk ty row l r c x=>
  rcases h with⟨h1,h2⟩|⟨p,h1,h2⟩
  ·exact .inl ⟨hs.trans h1,h2⟩
  ·refine .inr ⟨p,hs.trans h1,?_⟩;obtain⟨cs,a1,a2,a3,a4,a5,a6⟩:=h2.ex;refine⟨cs,(hw p h1).trans a1,a2,a3,a4,fun i j z v hz hv=>?_,fun i j z hz=>?_⟩
   ·obtain⟨y,hy,rfl,_⟩:=Qqv (f:=SV.Yb f) (fun _=>rfl) hz;obtain⟨b1,b2,b3⟩:=a5 i j y v hy hv;exact⟨b1,b2,b3.Yb hM hf⟩
   ·obtain⟨y,hy,_⟩:=Qqv (f:=SV.Yb f) (fun _=>rfl) hz;exact a6 i j y hy
 |nest ty ity row ll q=>
  rcases h with⟨h1,h2,h3⟩|⟨p,h1,h2⟩
  ·subst h3;exact .inl ⟨hs.trans h1,h2,rfl⟩
  refine .inr ⟨p,hs.trans h1,h2.goes hM rfl rfl rfl (fun b hb=>hws p b h1 hb) (by cases q<;>rfl) fun i x y v e1 e2 hr=>?_⟩;rw[e1]at e2;simp only[QH,ZJ,ZR,true_and]at e2;subst e2;exact hr.Yb hM hf
 |map es clock=>obtain⟨p,arr,h1,h2,h3,h4⟩:=h;refine⟨p,arr,hs.trans h1,(hw p h1).trans h2,by simpa using h3,fun i k x b hi=>?_⟩;simp only[ZA,C]at hi;obtain⟨⟨k',x',b'⟩,he,hq⟩:=hi;simp only[ZR]at hq;obtain⟨rfl,rfl,rfl⟩:=hq;obtain⟨e,c1,c2,c3,c4⟩:=h4 i k' x' b' he;exact⟨e,c1,c2,c3,c4.Yb hM hf⟩
 |tmap k v l=>obtain⟨p,arr,h1,h2,h3,h4⟩:=h;refine⟨p,arr,hs.trans h1,(hw p h1).trans h2,h3,fun i kk x b hi=>?_⟩;obtain⟨e,c1,c2,c3,c4⟩:=h4 i kk x b hi;refine⟨e,c1,c2,c3,?_⟩;have:=c4.Yb hM hf;rw[Ky]at hi;simp only[C,ZR]at hi;obtain⟨y,_,_,rfl,_⟩:=hi;rwa[Qe.Yrw]at this
 |iter str pos=>obtain⟨p,h1,h2⟩:=h;exact⟨p,hs.trans h1,(hw p h1).trans h2⟩
 |loop l=>obtain⟨p,fn,tmps,q,h1,h2,h3,h4⟩:=h;refine⟨p,fn,tmps,q,hs.trans h1,(hw p h1).trans h2,h3,fun t x hx=>?_⟩;rw[TT.get_map,C]at hx;obtain⟨y,hy,rfl⟩:=hx;exact(h4 t y hy).Yb hM hf
 |mit m c sn=>
  obtain⟨p,q,sn,h1,h2,h3,h4⟩:=h;refine⟨p,q,sn,hs.trans h1,(hw p h1).trans h2,h3,fun mm e=>?_⟩;cases m with
  |none=>cases e
  |some x=>have e:f x=some mm:=e;obtain⟨pm,a,b⟩:=h4 x rfl;exact⟨pm,hf x mm pm e a,b⟩
 |over st pd=>obtain⟨p,r,h1,h2,h3⟩:=h;exact⟨p,r,hs.trans h1,(hw p h1).trans h2,h3⟩
 |dfr shut=>obtain⟨p,h1,h2⟩:=h;exact⟨p,hs.trans h1,(hw p h1).trans h2⟩
def Qav:List Nat->Nat->Nat->Option Nat
 |[],_,_=>none
 |a::l,i,s=>match ZH a s with
  |true=>some i
  |false=>Qav l (i+1) s
theorem Zlp:∀{l:List Nat} {i s t:Nat},Qav l i s=some t->i<=t∧l[t-i]? =some s
 |a::l,i,s,t,h=>by
  unfold Qav at h;split at h
  ·rename_i e;cases h;rw[ZB e];simp
  ·obtain⟨h1,h2⟩:=Zlp h;refine⟨by omega,?_⟩;rw[show t-i=(t-(i+1))+1 by omega,ZX];exact h2
def Qy3(U:List Nat)(n n0:Nat):Bool:=ZH U.length n&&decide U.Nodup
def Qlz(U:List Nat)(n0:Nat):List Nat:=(QB n0).filter fun i=>match U[i]? with
 |some o=>! ZH o i
 |none=>true
theorem Ynv{U:List Nat}{n0 i:Nat}(hi:i<n0)(h:i∉Qlz U n0):U[i]? =some i:=by
 unfold Qlz at h;rw[List.mem_filter,List.mem_range]at h;split at h
 ·rename_i o e;rw[e];cases hb:ZH o i with
  |true=>rw[ZB hb]
  |false=>rw[hb]at h;exact absurd ⟨hi,rfl⟩ h
 ·exact absurd ⟨hi,rfl⟩ h
def Qya(U:List Nat)(s:St):St:=
 {T:=s.T.map (SV.Yb (Qav U 0)),H:=U.map fun o=>match s.H[o]? with
   |some x=>x.Yb (Qav U 0)
   |none=>.dead,n0:=s.n0,tch:=Qlz U s.n0++s.tch,fg:=Qlz U s.n0++s.fg,marks:=s.marks,er:=s.er}
theorem Zvu{R:Option Nat}{P:Program}{nt:Nat}{c:Code}{Q:Exit->St->Prop}{s:St}{U:List Nat}(hm:s.marks=[])(hσ:Qy3 U s.H.length s.n0=true)(h:Zl R P nt c Q (Qya U s)):Zl R P nt c Q s:=by
 simp only[Qy3,I,decide_eq_true_eq]at hσ;obtain⟨h1,h2⟩:=hσ;have h1:U.length=s.H.length:=ZB h1;have h3:∀i,i<s.n0->i∉Qlz U s.n0->U[i]? =some i:=fun i hi hx=>Ynv hi hx;refine Zl.Qhc (fun B M Z a w hg=>⟨fun t=>match U[t]? with
  |some o=>Z o
  |none=>none,?_,?_⟩) h
 all_goals
  have hat:∀t o:Nat,U[t]? =some o->(match U[t]? with
   |some o=>Z o
   |none=>none)=Z o:=fun t o e=>by rw[e]
  have hf:∀(s' t:Nat) (p:Place),Qav U 0 s'=some t->Z s'=some p->(match U[t]? with
   |some o=>Z o
   |none=>none)=some p:=fun s' t p e hp=>by
   have:=(Zlp e).2;rw[Nat.sub_zero]at this;rw[this];exact hp
  have hobj:∀(t:Nat) (x:Qb),(U.map fun o=>match s.H[o]? with
   |some x=>x.Yb (Qav U 0)
   |none=>.dead)[t]? =some x->∃o,U[t]? =some o∧(x=.dead∨∃y,s.H[o]? =some y∧x=y.Yb (Qav U 0)):=fun t x hx=>by
   rw[ZA,C]at hx;obtain⟨o,ho,hx⟩:=hx;refine⟨o,ho,?_⟩;split at hx
   ·rename_i y hy;exact .inr ⟨y,hy,hx.symm⟩
   ·exact .inl hx.symm
  have hm':=hg.mem
 ·refine⟨fun t x hx=>?_,hg.sz,⟨hm'.imm,fun t x hx=>?_,fun t x p b hx hl hp hb=>?_,fun t t' x x' p p' b hx hx' hl hl' hp hp' hb hb'=>?_,fun t ht=>?_,fun t x p b hx hl hp hb=>?_⟩,?_,fun m hmm=>?_,?_,hg.fix⟩
  ·have hx:(s.T.map (SV.Yb (Qav U 0))).get t=some x:=hx;rw[TT.get_map,C]at hx;obtain⟨y,hy,rfl⟩:=hx;exact(hg.tm t y hy).Yb M.le_refl hf
  ·obtain⟨o,ho,hx⟩:=hobj t x hx;rcases hx with rfl|⟨y,hy,rfl⟩
   ·trivial
   ·exact(hm'.own o y hy).Yb M.le_refl hf (hat t o ho) fun _ _ _ _=>rfl
  ·obtain⟨o,ho,hx⟩:=hobj t x hx;rcases hx with rfl|⟨y,hy,rfl⟩
   ·cases hl
   ·rw[Uq]at hl;exact hm'.seps o y p b hy hl ((hat t o ho).symm.trans hp) hb
  ·obtain⟨o,ho,hx⟩:=hobj t x hx;obtain⟨o',ho',hx'⟩:=hobj t' x' hx';rcases hx with rfl|⟨y,hy,rfl⟩
   ·cases hl
   ·rcases hx' with rfl|⟨y',hy',rfl⟩
    ·cases hl'
    ·rw[Uq]at hl hl';have:=hm'.diss o o' y y' p p' b hy hy' hl hl' ((hat t o ho).symm.trans hp) ((hat t' o' ho').symm.trans hp') hb hb';subst this;obtain⟨a1,a2⟩:=J.1 ho;obtain⟨b1,b2⟩:=J.1 ho';exact(List.getElem_inj (h₀:=a1) (h₁:=b1) h2).1 (a2.trans b2.symm)
  ·have ht:U.length<=t:=by simpa[Qya]using ht
   rw[List.getElem?_eq_none ht]
  ·obtain⟨o,ho,hx⟩:=hobj t x hx;rcases hx with rfl|⟨y,hy,rfl⟩
   ·cases hl
   ·rw[Uq]at hl;exact hm'.lts o y p b hy hl ((hat t o ho).symm.trans hp) hb
  ·have:=hg.df;rw[hm]at this;show Qih _ s.marks _;rw[hm];exact⟨this.1,fun i d q _ hq=>by simp at hq⟩
  ·have hmm:m∈s.marks:=hmm;rw[hm]at hmm;cases hmm
  ·show s.n0<=(U.map _).length;rw[List.length_map,h1];exact hg.nle
 ·refine⟨⟨M.le_refl,fun b o e e'=>(by rw[e]at e';cases e'),fun b hb=>?_,fun _ _ _=>rfl,ZO _,fun i o hi hx ho hl=>?_,fun i hi hx=>?_,rfl,rfl⟩,rfl,fun _ h=>ZN _ h,fun _ h=>ZN _ h⟩
  ·obtain⟨t,x,p,hx,hl,hp,hb⟩:=hb;obtain⟨o,ho,hx⟩:=hobj t x hx;rcases hx with rfl|⟨y,hy,rfl⟩
   ·cases hl
   ·rw[Uq]at hl;exact .inr ⟨o,y,p,hy,hl,(hat t o ho).symm.trans hp,hb⟩
  ·refine⟨⟨o.Yb (Qav U 0),?_,by rw[Uq];exact hl⟩,fun p hp=>?_⟩
   ·show(U.map _)[i]? =_;rw[ZA,(h3 i hi fun hy=>hx (ZK _ hy))];simp[ho]
   ·rw[hat i i ((h3 i hi fun hy=>hx (ZK _ hy)))]
    first|exact hp|exact⟨hp,fun _ _=>rfl⟩|simp_all
  ·exact hat i i ((h3 i hi fun hy=>hx (ZK _ hy)))
def Qhg(T:TT):List Nat->List Nat
 |[]=>[]
 |t::l=>match T.get t with
  |some (.ptr k _ _ _)=>k::Qhg T l
  |some (.sl k _ _ _)=>k::Qhg T l
  |_=>Qhg T l
def Zh8(slots:List Nat)(s:St):List Nat:=((QB s.H.length).filter fun i=>!(Qhg s.T slots).contains i)++Qhg s.T slots
def Zi7(slots:List Nat)(s:St):List Nat:=match slots with
 |[k,t]=>match ZU 10000 k with
  |true=>match Qhg s.T [t]with
   |[o]=>(QB s.H.length).map fun i=>bif ZH i (k-10000)then o else bif ZH i o then k-10000 else i
   |_=>QB s.H.length
  |false=>Zh8 slots s
 |_=>Zh8 slots s
end Go.Sx
end
section
namespace Go.Sx
open Go
theorem Qf.sim{M M':Qd}{Z Z':Env}(hM:M.le M')(hρ:Env.Qj0 [] Z Z'){v:Value}{x:SV}(h:Qf M Z v x):Qf M' Z' v x:=by have:=h.Qak hM hρ;rwa[SV.Uo]at this
theorem Q6.sim{M M':Qd}{Z Z':Env}{w:World}{s:Nat}{o:Qb}(hM:M.le M')(hρ:Env.Qj0 [] Z Z')(hs:Z' s=Z s)(h:Q6 M Z w s o):Q6 M' Z' w s o:=by have:=h.Qak hM hρ hs (fun _ _ _ _=>rfl);rwa[Qb.Uo]at this
theorem Kp.pure{M M':Qd}{Z Z':Env}{w:World}{p:Place}{ty sz n:Nat}{rows:List (List PV)}{subs:List Nat}(hM:M.le M')(h:Kp M Z w p ty sz n (Y0 rows)):Kp M' Z' w ⟨p.block,p.cap,subs⟩ ty sz n (Y0 rows):=by
 obtain⟨cs,a1,a2,a3,a4,a5,a6⟩:=h.ex;refine⟨cs,a1,a2,a3,a4,fun i j x v hx hv=>?_,a6⟩;obtain⟨b1,b2,b3⟩:=a5 i j x v hx hv;refine⟨b1,b2,?_⟩;unfold Y0 at hx;simp only[C]at hx;obtain⟨q,_,rfl⟩:=hx;cases b3 with
 |pv b3=>exact .pv (b3.mono hM)
theorem Mem.re{M:Qd}{Z Z':Env}{H H':List Qb}{w:World}(hm:Mem M Z H w)(hown:∀s o,H'[s]? =some o->Q6 M Z' w s o)
  (hsrc:∀s o p b,H'[s]? =some o->o.live=true->Z' s=some p->p.has b->∃s0 o0 p0,H[s0]? =some o0∧o0.live=true∧Z s0=some p0∧p0.has b)
  (hdis:∀s s' o o' p p' b,H'[s]? =some o->H'[s']? =some o'->o.live=true->o'.live=true->Z' s=some p->Z' s'=some p'->p.has b->p'.has b->s=s')
  (hfresh:∀s,H'.length<=s->Z' s=none):Mem M Z' H' w:=
 ⟨hm.imm,hown,fun s o p b h1 h2 h3 h4=>let⟨s0,o0,p0,a,b',c,d⟩:=hsrc s o p b h1 h2 h3 h4;hm.seps s0 o0 p0 b a b' c d,hdis,hfresh,
  fun s o p b h1 h2 h3 h4=>let⟨s0,o0,p0,a,b',c,d⟩:=hsrc s o p b h1 h2 h3 (.inr h4);hm.Wc a b' c d⟩
theorem Fr.re{M:Qd}{Z Z':Env}{H H':List Qb}{w:World}{n:Nat}{t f:List Nat}
  (hsrc:∀s o p b,H'[s]? =some o->o.live=true->Z' s=some p->p.has b->∃s0 o0 p0,H[s0]? =some o0∧o0.live=true∧Z s0=some p0∧p0.has b)
  (hk:∀s o,s<n->s∉t->H[s]? =some o->o.live=true->(∃o',H'[s]? =some o'∧o'.live=true)∧Z' s=Z s) (hs:∀s,s<n->s∉f->Z' s=Z s):Fr M Z H w M Z' H' w n t f:=
 ⟨M.le_refl,fun b o h h'=>by(rw[h]at h';cases h'),fun b ⟨s,o,p,h1,h2,h3,h4⟩=>.inr (hsrc s o p b h1 h2 h3 h4),fun _ _ _=>rfl,ZO _,
  fun s o h1 h2 h3 h4=>⟨(hk s o h1 h2 h3 h4).1,fun p hp=>⟨by rw[(hk s o h1 h2 h3 h4).2];exact hp,fun _ _=>rfl⟩⟩,hs,rfl,rfl⟩
theorem Qih.sim{Z Z':Env}{marks:List Nat}{ds:List Deferred}(hρ:Env.Qj0 [] Z Z')(h:Qih Z marks ds):Qih Z' marks ds:=
 ⟨h.1,fun i d s hd hs=>let⟨p,h1,h2⟩:=h.2 i d s hd hs;let⟨p',g1,g2,_⟩:=hρ s p rfl h1;⟨p',g1,by rw[g2];exact h2⟩⟩
open Classical in
def TI.Yr0(b:Bool)(i:TI):TI:={i with row:=match b with
 |true=>none
 |false=>i.row}
def Cx.raw(e:Nat)(cx:Cx):Cx:={P:=cx.P,tab:=cx.tab.map fun x=>(x.1,x.2.Yr0 (ZH x.1 e)),fns:=cx.fns}
def Qre(slot:Nat)(s:St):Option St:=match s.T.get slot with
 |some (.sl d sz st n)=>some {s with T:=s.T.set slot (.slb d sz st n n)}
 |_=>none
def Qsf(slot:Nat)(s:St):Option St:=match s.T.get slot with
 |some (.slb d sz st n _)=>some {s with T:=s.T.set slot (.sl d sz st n)}
 |_=>none
theorem Zhx{R:Option Nat}{P:Program}{nt:Nat}{c:Code}{Q:Exit->St->Prop}{s:St}{slot:Nat}{x y:SV}(hx:s.T.get slot=some x)(hi:∀M Z v,Qf M Z v x->Qf M Z v y)(h:Zl R P nt c Q {s with T:=s.T.set slot y}):Zl R P nt c Q s:=by
 refine Zl.Qhc (s':={s with T:=s.T.set slot y}) (fun B M Z a w hg=>⟨Z,⟨fun t z hz=>?_,hg.sz,hg.mem,hg.df,hg.mks,hg.nle,hg.fix⟩,⟨Fr.refl ..,rfl,fun _ h=>h,fun _ h=>h⟩⟩) h;rcases TT.Kv _ _ _ _ _ hz with⟨rfl,rfl⟩|⟨_,hz⟩
 ·exact hi _ _ _ (hg.tm _ _ hx)
 ·exact hg.tm t z hz
theorem Ypk{R:Option Nat}{P:Program}{nt:Nat}{c:Code}{Q:Exit->St->Prop}{s s':St}{slot:Nat}(hs:Qre slot s=some s')(h:Zl R P nt c Q s'):Zl R P nt c Q s:=by
 unfold Qre at hs;split at hs
 ·rename_i d sz st n hx;cases hs;refine Zhx hx (fun M Z v hr=>?_) h;refine .slb _ _ _ _ _ hr ?_;cases hr with
  |sl _ _ _ _ c k p hp hk hc hn h6=>exact⟨_,_,_,rfl,hn⟩
  |slz=>exact⟨_,_,_,rfl,ZO _⟩
 ·cases hs
theorem Zoe{R:Option Nat}{P:Program}{nt:Nat}{c:Code}{Q:Exit->St->Prop}{s s':St}{slot:Nat}(hs:Qsf slot s=some s')(h:Zl R P nt c Q s'):Zl R P nt c Q s:=by
 unfold Qsf at hs;split at hs
 ·rename_i d sz st n m hx;cases hs;exact Zhx hx (fun M Z v hr=>hr.unslb) h
 ·cases hs
end Go.Sx
end
namespace Go.Sx
open Go
def Qzt(j:Nat)(lit:ByteArray):SV->Option (Bool×SV)
 |.agg l=>match l[j]? with
  |some (.pv (.lit (.string x)))=>some (Qc x lit,.agg (l.set j (.pv (.lit (.string lit)))))
  |_=>none
 |.pv (.lit (.string x))=>some (Qc x lit,.pv (.lit (.string lit)))
 |_=>none
theorem Zug{j:Nat}{lit:ByteArray}{x y:SV}{c:Bool}(h:Qzt j lit x=some (c,y))(hc:c=true):y=x:=by
 unfold Qzt at h;split at h
 ·rename_i l;split at h
  ·rename_i z hz;cases h;have e:=of_decide_eq_true hc;subst e;congr 1;apply QE;intro i;rw[ZG];split
   ·rename_i e;subst e;rw[hz,if_pos (J.1 hz).1]
   ·rfl
  ·cases h
 ·cases h;have e:=of_decide_eq_true hc;subst e;rfl
 ·cases h
def Qut(j:Nat)(lit:ByteArray)(r:List PV):Option (Bool×List PV):=match r[j]? with
 |some (.lit (.string x))=>some (Qc x lit,r.set j (.lit (.string lit)))
 |_=>none
theorem set_self{α:Type}{r:List α}{j:Nat}{z:α}(h:r[j]? =some z):r.set j z=r:=by
 apply QE;intro i;rw[ZG];split
 ·rename_i e;subst e;rw[h,if_pos (J.1 h).1]
 ·rfl
theorem Yqs{j:Nat}{lit:ByteArray}{r q:List PV}{c:Bool}(h:Qut j lit r=some (c,q))(hc:c=true):q=r:=by
 unfold Qut at h;split at h
 ·rename_i x hx;cases h;have e:=of_decide_eq_true hc;subst e;exact set_self hx
 ·cases h
def Qvs(j:Nat)(lit:ByteArray):Qb->Option (Bool×Qb)
 |.vec ty sz [r]=>match Qut j lit r with
  |some p=>some (p.1,.vec ty sz [p.2])
  |none=>none
 |_=>none
theorem Zzl{j:Nat}{lit:ByteArray}{o o':Qb}{c:Bool}(h:Qvs j lit o=some (c,o'))(hc:c=true):o'=o:=by
 unfold Qvs at h;split at h
 ·split at h
  ·rename_i p hp;cases h;rw[Yqs (c:=p.1) (q:=p.2) hp hc]
  ·cases h
 ·cases h
def Qrs(slot j:Nat)(lit:ByteArray)(s:St):Option (Bool×St):=match s.T.get slot with
 |some (.ptr sid _ _ _)=>match s.H[sid]? with
  |some o=>match Qvs j lit o with
   |some p=>some (p.1,{s with H:=s.H.set sid p.2})
   |none=>none
  |none=>none
 |some x=>match Qzt j lit x with
  |some p=>some (p.1,{s with T:=s.T.set slot p.2})
  |none=>none
 |none=>none
theorem Ygy{R:Option Nat}{P:Program}{nt:Nat}{c:Code}{Q:Exit->St->Prop}{s:St}{slot j:Nat}{lit:ByteArray}{p:Bool×St}(hs:Qrs slot j lit s=some p)(hc:p.1=true)(h:Zl R P nt c Q p.2):Zl R P nt c Q s:=by
 unfold Qrs at hs;split at hs
 ·rename_i sid _ _ _ hx;split at hs
  ·rename_i o ho;split at hs
   ·rename_i q hq;cases hs;have e:=Zzl (c:=q.1) (o':=q.2) hq hc;have e2:s.H.set sid q.2=s.H:=by rw[e];exact set_self ho
    have h:Zl R P nt c Q {s with H:=s.H.set sid q.2}:=h;rw[e2]at h;exact h
   ·cases hs
  ·cases hs
 ·rename_i x _ hx;split at hs
  ·rename_i q hq;cases hs;have e:=Zug hq hc;refine Zl.Qhc (s':={s with T:=s.T.set slot q.2}) (fun B M Z a w hg=>⟨Z,?_,⟨Fr.refl ..,rfl,fun _ h=>h,fun _ h=>h⟩⟩) h;refine⟨fun t z hz=>?_,hg.sz,hg.mem,hg.df,hg.mks,hg.nle,hg.fix⟩;rcases TT.Kv _ _ _ _ _ hz with⟨e1,e2⟩|⟨_,hz⟩
   ·have hh:=hg.tm _ _ hx;rw[<-e,<-e2,<-e1]at hh;exact hh
   ·exact hg.tm _ _ hz
  ·cases hs
 ·cases hs
end Go.Sx
section
namespace Go.Sx
open Go
end Go.Sx
end
section
namespace Go.Sx
open Go
inductive Zb where
 |leaf
 |one (a:Zb)
 |two (a b:Zb)
 |loop (O:Qm) (l:Xv) (f:Xh) (F:Nat) (a:Zb)
 |join (l:Xv) (f:Xh) (a:Zb)
 |virt (slot ty:Nat) (row:List Ty) (a:Zb)
 |sealing (k ty:Nat) (row:List Ty) (a:Zb)
 |within (l:List (Nat×Zb))
 |virtF (ob col ty:Nat) (row:List Ty) (a:Zb)
 |typ (k ty:Nat) (row:List Ty) (a:Zb)
 |phase (O:Qm) (l:Xv) (f:Xh) (F:Nat) (a b:Zb)
 |norm (slots:List Nat) (a:Zb)
 |lnk (k slot c:Nat) (a:Zb)
 |unlnk (k:Nat) (a:Zb)
 |low
 |slb (slot:Nat) (a:Zb)
 |unslb (slot:Nat) (a:Zb)
 |cas (slot j:Nat) (lit:ByteArray) (a b:Zb)
def Zb.fst:Zb->Zb
 |.one a=>a
 |.two a _=>a
 |_=>.leaf
def Zb.snd:Zb->Zb
 |.two _ b=>b
 |_=>.leaf
structure Sm where
 pre:List SV->List Qb->Bool
 run:(X:Type)->List SV->List Qb->KO X->Option X
structure Qfd (cx:Cx) (g:Nat) (sm:Sm):Prop where
 fn:∃fn,cx.fns.lookup g=some fn
 ok:∀(X:Type) (args:List SV) (H:List Qb) (k:KO X) (y:X),sm.run X args H k=some y->Xt cx.P g args H fun x H' t f=>k x H' t f=some y
structure Lx where
 ext:List (Nat×Sm)
 anns:List (Nat×Zb)
 still:List Nat
 unk:Option (Nat->Sm):=none
def Sm.first:List (Nat×Sm)->Nat->(X:Type)->List SV->List Qb->KO X->Option X
 |[],_,_,_,_,_=>none
 |q::l,g,X,args,H,k=>match ZH q.1 g with
  |false=>Sm.first l g X args H k
  |true=>match q.2.pre args H with
   |true=>q.2.run X args H k
   |false=>Sm.first l g X args H k
def Lx.has(l:List (Nat×Sm))(g:Nat)(args:List SV)(H:List Qb):Bool:=l.any fun q=>match ZH q.1 g with
 |true=>q.2.pre args H
 |false=>false
structure Lx.Ok (cx:Cx) (lx:Lx):Prop where
 ext:∀q∈lx.ext,Qfd cx q.1 q.2
 unk:lx.unk=none
theorem Sm.Qte{cx:Cx}:∀{l:List (Nat×Sm)} (_:∀q∈l,Qfd cx q.1 q.2) {g:Nat} {X:Type} {args:List SV} {H:List Qb} {k:KO X} {y:X},Sm.first l g X args H k=some y->(∃fn,cx.fns.lookup g=some fn)∧Xt cx.P g args H fun x H' t f=>k x H' t f=some y
 |[],_,g,X,args,H,k,y,h=>by cases h
 |q::l,hl,g,X,args,H,k,y,h=>by
  simp only[Sm.first]at h;split at h
  ·exact Sm.Qte (fun q hq=>hl q (ZT _ hq)) h
  ·rename_i e;have e:=ZB e;subst e;split at h
   ·have:=hl q ZP;exact⟨this.fn,this.ok X args H k y h⟩
   ·exact Sm.Qte (fun q hq=>hl q (ZT _ hq)) h
abbrev J7:=(X:Type)->(X->X->Bool)->Zb->Bool->Nat->Code->St->KX X->Option X
def Qa2(cx:Cx)(rec:J7):Prop:=∀(X:Type) (eq:X->X->Bool) (_:Y6 eq) R an top nt c s (k:KX X) (y:X),(top=true->R=none)->rec X eq an top nt c s k=some y->Zl R cx.P nt c (fun e s'=>k e s'=some y) s
section
variable {X:Type}
def Qwq(z:Bool)(H:List Qb)(r:SV)(H':List Qb)(t g:List Nat)(k:KO X):Option X:=
 match g.isEmpty&&(ZU H.length H'.length&&((z||r.free H.length)&&Qor H.length H' t))with
 |true=>match Qln H' H.length 1000 r with
  |some r'=>k r' (Qa7 t H H') t []
  |none=>k r H' t g
 |false=>k r H' t g
theorem Yi2{z:Bool}{H:List Qb}{r:SV}{H':List Qb}{t g:List Nat}{k:KO X}{y:X}(h:Qwq z H r H' t g k=some y):Left H (fun x H' t f=>k x H' t f=some y) r H' t g:=by
 unfold Qwq at h;split at h
 ·rename_i e;simp only[I,ZI]at e;split at h
  ·rename_i r' hr';exact .inl ⟨e.1,ZD e.2.1,fun s hs o ho _=>Zjh e.2.2.2 s hs o ho,r',1000,hr',h⟩
  ·exact .inr h
 ·exact .inr h
def Qef(cx:Cx)(s:St):List ResultVar->(List SV->Option X)->Option X
 |[],k=>k []
 |.tmp t::rs,k=>Qef cx s rs fun l=>k (s.ev (.tmp t)::l)
 |.cell a t::rs,k=>(Qdz cx.tab s.H t (s.ev (.tmp a))).Kt (fun _ _=>false) (fun x=>Qef cx s rs fun l=>k (x::l)) fun x _ _ _=>Qef cx s rs fun l=>k (x::l)
theorem Qgq{cx:Cx}{s:St}{y:X}:∀(rs:List ResultVar) (k:List SV->Option X),Qef cx s rs k=some y->Qac cx s rs fun l=>k l=some y
 |[],k,h=>h
 |.tmp t::rs,k,h=>Qgq rs _ h
 |.cell a t::rs,k,h=>Qp.Qen (fun _ _ h=>by cases h) (fun x h=>Qgq rs _ h) (fun x _ _ _ h=>Qgq rs _ h) h
def Qlu:Exit->Bool
 |.normal=>true
 |.ret=>true
 |_=>false
theorem Qoe{e:Exit}(h:Qlu e=true):e=.normal∨e=.ret:=by
 cases e with
 |normal=>exact .inl rfl
 |ret=>exact .inr rfl
 |_=>cases h
def Za0(cx:Cx)(fn:Func)(z:Bool)(H:List Qb)(k:KO X):KX X:=fun e s=>
 gd (Qlu e&&(s.marks.isEmpty||ZU H.length s.H.length)) (match shut s.marks s.H with
  |none=>none
  |some H'=>Qef cx {s with H:=H',marks:=[]} fn.results.toList fun l=>Qwq z H (X0 l) H' s.tch s.fg k)
theorem Zpn{cx:Cx}{fn:Func}{z:Bool}{H:List Qb}{k:KO X}{e:Exit}{s:St}{y:X}(h:Za0 cx fn z H k e s=some y):
  (e = .normal ∨ e = .ret) ∧ (H.length <= s.H.length ∨ s.marks = []) ∧ ∃ H',shut s.marks s.H = some H' ∧ Qac cx { s with H := H',marks := [] } fn.results.toList fun l =>
   Left H (fun x H' t f=>k x H' t f=some y) (X0 l) H' s.tch s.fg:=by
 obtain⟨hc,h⟩:=Yy h;simp only[I,Bool.or_eq_true,ZI]at hc;split at h
 ·cases h
 ·rename_i H' hs;exact⟨Qoe hc.1,hc.2.symm.imp (fun h=>ZD h) id,H',hs,Qdf _ _ _ (fun l hl=>Yi2 hl) (Qgq _ _ h)⟩
def Qju(rec:J7)(eq:X->X->Bool)(ab:Zb)(s:Nat)(args:List SV)(H:List Qb)(k:KO X):Option X:=
 match H[s]? with
 |some (.loop L)=>gd (ZH L.params.toList.length args.length&&L.params.toList.all fun p=>Nat.blt p L.nt) (rec X eq .leaf false L.nt L.assign (Qpm L args H) fun e s1=>match e with
  |.normal=>gd (!s1.fg.contains s&&ZU H.length s1.H.length) (match s1.H[s]? with
   |some (.loop L1)=>gd (isReady L1.state&&L1.pending.isNone) (rec X eq ab false L.nt L.body (Qao s L1 s1) fun e s2=>match Qv9 e with
    |none=>none
    |some jump=>gd (!s2.fg.contains s&&ZU H.length s2.H.length) (match s2.H[s]? with
     |some (.loop L2)=>k (.lit (.bool jump.isNone)) (Quo s L2 jump s2.H) (Zi5 s jump s2.tch) s2.fg
     |_=>none))
   |_=>none)
  |_=>none)
 |_=>none
theorem Zcx{cx:Cx}{rec:J7}(hrec:Qa2 cx rec){eq:X->X->Bool}(he:Y6 eq){ab:Zb}{s:Nat}{args:List SV}{H:List Qb}{k:KO X}{y:X}
  (h:Qju rec eq ab s args H k=some y):Qdv cx.P s args H fun x H' t f=>k x H' t f=some y:=by
 unfold Qju at h;split at h
 ·rename_i L hH;obtain⟨hc,h⟩:=Yy h;rw[I]at hc;refine Zsx hH (ZB hc.1) hc.2 fun R=>?_;refine(hrec X eq he R _ false _ _ _ _ y (fun e=>by cases e) h).mono fun e s1 h1=>?_;cases e with
  |normal=>
   obtain⟨hc1,h1⟩:=Yy h1;rw[I]at hc1;split at h1
   ·rename_i L1 hL1;obtain⟨hc2,h1⟩:=Yy h1;rw[I]at hc2;refine⟨rfl,Ql2 hc1.1,ZD hc1.2,L1,hL1,Yal hc2.1,Option.isNone_iff_eq_none.1 hc2.2,?_⟩;refine(hrec X eq he R _ false _ _ _ _ y (fun e=>by cases e) h1).mono fun e s2 h2=>?_;cases hj:Qv9 e with
    |none=>simp only[hj]at h2;cases h2
    |some jump=>
     simp only[hj]at h2;obtain⟨hc3,h2⟩:=Yy h2;rw[I]at hc3;split at h2
     ·rename_i L2 hL2;exact⟨jump,rfl,Ql2 hc3.1,ZD hc3.2,L2,hL2,h2⟩
     ·cases h2
   ·cases h1
  |_=>cases h1
 ·cases h
def Lx.Zl6(lx:Lx)(g n:Nat):Option Zb:=match lx.anns.lookup (g+10000000*(n+1))with
 |some a=>some a
 |none=>lx.anns.lookup g
def Qog(lx:Lx)(g:Nat)(args:List SV)(H:List Qb)(k:KO X):Option X:=match Ja args H with
 |(c,as,S,H1)=>gd c (match Lx.has lx.ext g as H1 with
  |true=>Sm.first lx.ext g X as H1 fun x H' t f=>k x H' (S++t) f
  |false=>match lx.unk with
   |some f=>(f g).run X as H1 fun x H' t f=>k x H' (S++t) f
   |none=>none)
theorem Zwp{cx:Cx}{lx:Lx}(hlx:lx.Ok cx){g:Nat}{args:List SV}{H:List Qb}{k:KO X}{y:X}(h:Qog lx g args H k=some y):
  (∃fn,cx.fns.lookup g=some fn)∧Xt cx.P g args H fun x H' t f=>k x H' t f=some y:=by
 unfold Qog at h;obtain⟨hc,h⟩:=Yy (c:=(Ja args H).1) (x:=match Lx.has lx.ext g (Ja args H).2.1 (Ja args H).2.2.2 with
  |true=>Sm.first lx.ext g X (Ja args H).2.1 (Ja args H).2.2.2 fun x H' t f=>k x H' ((Ja args H).2.2.1++t) f
  |false=>match lx.unk with
   |some f=>(f g).run X (Ja args H).2.1 (Ja args H).2.2.2 fun x H' t f=>k x H' ((Ja args H).2.2.1++t) f
   |none=>none) h
 split at h
 ·obtain⟨h1,h2⟩:=Sm.Qte hlx.ext h;exact⟨h1,Xt.Yrt hc h2⟩
 ·rw[hlx.unk]at h;cases h
def Qbc(cx:Cx)(lx:Lx)(rec:J7)(eq:X->X->Bool):K5 X
 |true,s,args,H,k=>match lx.anns.lookup (1000000+s)with
  |some a=>Qju rec eq a s args H k
  |none=>match lx.unk with
   |some f=>(f (1000000+s)).run X args H k
   |none=>Qju rec eq .leaf s args H k
 |false,g,args,H,k=>
  match lx.Zl6 g H.length with
  |some a=>walkO a g args H k
  |none=>match lx.anns.lookup (2000000+g)with
   |some _=>Qog lx g args H k
   |none=>match Lx.has lx.ext g args H with
    |true=>Sm.first lx.ext g X args H k
    |false=>match lx.unk with
     |some f=>(f g).run X args H k
     |none=>walkO .leaf g args H k
where walkO (a:Zb) (g:Nat) (args:List SV) (H:List Qb) (k:KO X):Option X:=match cx.fns.lookup g with
 |none=>none
 |some fn=>match fn.body with
  |none=>none
  |some c=>gd (ZU args.length fn.ntmps) (rec X eq a true fn.ntmps c (.entry args H) (Za0 cx fn (lx.still.contains g) H k))
theorem Zdz{cx:Cx}(hcx:cx.Ok){lx:Lx}{rec:J7}(hrec:Qa2 cx rec){eq:X->X->Bool}(he:Y6 eq){a:Zb}{g:Nat}{args:List SV}{H:List Qb}{k:KO X}{y:X}(h:Qbc.walkO cx lx rec eq a g args H k=some y):
  (∃fn,cx.fns.lookup g=some fn)∧Xt cx.P g args H fun x H' t f=>k x H' t f=some y:=by
 unfold Qbc.walkO at h;split at h
 ·cases h
 ·rename_i fn hfn;split at h
  ·cases h
  ·rename_i c hb;obtain⟨hc,h⟩:=Yy h;refine⟨⟨fn,hfn⟩,?_⟩;exact Xt.leave (Qsy hcx hfn hb (ZD hc) ((hrec X eq he none _ true _ _ _ _ y (fun _=>rfl) h).mono fun e s hs=>Zpn hs))
theorem Zga{cx:Cx}(hcx:cx.Ok){lx:Lx}(hlx:lx.Ok cx){rec:J7}(hrec:Qa2 cx rec){eq:X->X->Bool}(he:Y6 eq):K5.Ok cx (Qbc cx lx rec eq):=by
 refine⟨fun g args H k y h=>?_,fun s args H k y h=>?_⟩
 ·have h:(match lx.Zl6 g H.length with
   |some a=>Qbc.walkO cx lx rec eq a g args H k
   |none=>match lx.anns.lookup (2000000+g)with
    |some _=>Qog lx g args H k
    |none=>match Lx.has lx.ext g args H with
     |true=>Sm.first lx.ext g X args H k
     |false=>match lx.unk with
      |some f=>(f g).run X args H k
      |none=>Qbc.walkO cx lx rec eq .leaf g args H k)=some y:=h
  split at h
  ·exact Zdz hcx hrec he h
  ·split at h
   ·exact Zwp hlx h
   split at h
   ·exact Sm.Qte hlx.ext h
   ·rw[hlx.unk]at h;exact Zdz hcx hrec he h
 ·have h:(match lx.anns.lookup (1000000+s)with
   |some a=>Qju rec eq a s args H k
   |none=>match lx.unk with
    |some f=>(f (1000000+s)).run X args H k
    |none=>Qju rec eq .leaf s args H k)=some y:=h
  split at h
  ·exact Zcx hrec he h
  ·rw[hlx.unk]at h;exact Zcx hrec he h
def Zan(cb:K5 X)(rec:J7)(eq:X->X->Bool)(nt:Nat)(g:Operand)(ps:Array Tmp)(assign body:Code)(s:St)(k:KX X):Option X:=
 gd (ZU s.n0 s.H.length) (match Qo7 (s.ev g) (.yld (s.H.length+1))with
 |none=>none
 |some (gf,args)=>cb false gf args (Qqp s nt ps assign body) fun r H' t f=>
  gd ((!f.contains s.H.length&& !f.contains (s.H.length+1))&&((s.marks.all fun m=>!f.contains m&&Nat.blt m s.H.length)&&ZU s.n0 H'.length)) (match loopAt H'[s.H.length+1]? with
  |some (st,pd)=>gd (Zju st) (match pd with
   |none=>k .normal (Qau s none H' t f)
   |some c=>rec X eq .leaf true nt c (Qau s (some c) H' t f) k)
  |none=>none))
theorem Zwi{cx:Cx}(hcx:cx.Ok){cb:K5 X}(hcb:cb.Ok cx){rec:J7}(hrec:Qa2 cx rec){eq:X->X->Bool}(he:Y6 eq){nt:Nat}{g:Operand}{ps:Array Tmp}{assign body:Code}{s:St}{k:KX X}{y:X}
  (h:Zan cb rec eq nt g ps assign body s k=some y):Zl none cx.P nt (.rangeFunc g ps assign body) (fun e s'=>k e s'=some y) s:=by
 obtain⟨hn,h⟩:=Yy h;cases ht:Qo7 (s.ev g) (.yld (s.H.length+1))with
 |none=>simp only[ht]at h;cases h
 |some q=>
  obtain⟨gf,args⟩:=q;simp only[ht]at h;obtain⟨⟨fn,hfn⟩,h⟩:=hcb.ok _ _ _ _ _ h;refine Zms hcx (ZD hn) ht hfn (h.mono fun r H' t f h=>?_);obtain⟨hc,h⟩:=Yy h;simp only[I]at hc;obtain⟨⟨h1,h2⟩,h3,h4⟩:=hc;split at h
  ·rename_i st pd hL;obtain⟨hc5,h⟩:=Yy h;refine⟨Ql2 h1,Ql2 h2,fun m hm=>?_,ZD h4,st,pd,hL,Yir hc5,?_⟩
   ·have:=ZQ.1 h3 m hm;simp only[I]at this;exact⟨Ql2 this.1,Qa1 this.2⟩
   ·split at h
    ·exact h
    ·exact hrec X eq he none _ true _ _ _ _ y (fun _=>rfl) h
  ·cases h
def Zhg(rec:J7)(l:Xv)(f:Xh)(an:Zb)(top:Bool)(nt:Nat)(c:Code)(s:St)(k:KX X):Option X:=
 gd (s.marks.isEmpty&&(f.ok&&Qaz f l)) (match rec (Z8 l) (Z8.eqv l) an top nt c s.sub (fun e s'=>Uc f s.H.length l e s')with
  |some x=>Qkq f s l x fun e s1=>k e (s.outer s1)
  |none=>none)
theorem Yg3{cx:Cx}{rec:J7}(hrec:Qa2 cx rec){l:Xv}{f:Xh}{an:Zb}{R:Option Nat}{top:Bool}{nt:Nat}{c:Code}{s:St}{k:KX X}{y:X}(ht:top=true->R=none)
  (h:Zhg rec l f an top nt c s k=some y):Zl R cx.P nt c (fun e s'=>k e s'=some y) s:=by
 obtain⟨hc,h⟩:=Yy h;simp only[I,ZI]at hc;split at h
 ·rename_i x hx;rw[Qlo]at h;exact Yfo hc.1 hc.2.1 hc.2.2 (hrec _ _ (Z8.eqv_ok l) R _ top _ _ _ _ x ht hx) h
 ·cases h
def Qil:Exit->Bool
 |.normal=>true
 |_=>false
def Qrm(rec:J7)(O:Qm)(l:Xv)(f:Xh)(F:Nat)(an:Zb)(top:Bool)(nt:Nat)(c:Code)(s:St)(k:KX X):Option X:=
 gd (s.marks.isEmpty&&(f.ok&&(Qaz f l&&(O.V8 (f.of O)&&l.all fun a=>!Qil a.1)))) (match Km O f s.H.length s.sub with
  |some x0=>match Q4 (fun x=>rec (O.El ⊕ Z8 l) (Qig (Yo.eqv O.cells) (Z8.eqv l)) an top nt c (O.st f.D (f.of O) f.mv s x) (Qk3 f s.H.length O l)) F x0 with
   |some y=>Qkq f s l y fun e s1=>k e (s.outer s1)
   |none=>none
  |none=>none)
def Qza(rec:J7)(top:Bool)(nt:Nat)(c:Code):Zb->St->KX X->Option X
 |.loop O l f F a,s,k=>Qrm rec O l f F a top nt c s k
 |.phase O l f F a b,s,k=>gd (s.marks.isEmpty&&(f.ok&&(Qaz f l&&O.V8 (f.of O)))) (match Km O f s.H.length s.sub with
  |some x0=>match Q4 (fun x=>rec (O.El ⊕ Z8 l) (Qig (Yo.eqv O.cells) (Z8.eqv l)) a top nt c (O.st f.D (f.of O) f.mv s x) (Qtq f s.H.length O l)) F x0 with
   |some y=>Qkq f s l y fun e s1=>match Qil e with
    |true=>Qza rec top nt c b (s.outer s1) k
    |false=>k e (s.outer s1)
   |none=>none
  |none=>none)
 |_,_,_=>none
theorem Quh{f:Xh}{s:St}:∀{l:Xv} (x:Z8 l),(l.all fun a=>!Qil a.1)=true->(Jr f s l x).1≠.normal
 |[],x,_=>Empty.elim x
 |[a],x,h=>by simp only[ZM,List.all_nil,Bool.and_true,QF]at h;intro e;simp only[Jr]at e;rw[e]at h;cases h
 |a::a'::l,.inl x,h=>by simp only[ZM,I,QF]at h;intro e;simp only[Jr]at e;rw[e]at h;cases h.1
 |a::a'::l,.inr x,h=>by
  have h':((a'::l).all fun a=>!Qil a.1)=true:=by simp only[ZM,I]at h⊢;exact h.2
  simp only[Jr];exact Quh x h'
theorem Ydl{cx:Cx}{rec:J7}(hrec:Qa2 cx rec){O:Qm}{l:Xv}{f:Xh}{F:Nat}{an:Zb}{R:Option Nat}{top:Bool}{nt:Nat}{c:Code}{s:St}{k:KX X}{y:X}(ht:top=true->R=none)
  (h:Qrm rec O l f F an top nt c s k=some y):Zl R cx.P nt (.loop c) (fun e s'=>k e s'=some y) s:=by
 obtain⟨hc,h⟩:=Yy h;simp only[I,ZI]at hc;obtain⟨c1,c2,c3,c4,c5⟩:=hc;split at h
 ·rename_i x0 hx0;split at h
  ·rename_i z hz;rw[Qlo]at h;exact Yaq c1 c2 c3 c4 (fun x r hr=>hrec _ _ (Qr5 (Yo.eqv_ok _) (Z8.eqv_ok _)) R _ top _ _ _ _ r ht hr) hx0 hz (Quh z c5) h
  ·cases h
 ·cases h
theorem Ygd{cx:Cx}{rec:J7}(hrec:Qa2 cx rec){O:Qm}{l:Xv}{f:Xh}{F:Nat}{an:Zb}{R:Option Nat}{top:Bool}{nt:Nat}{c:Code}{s:St}{k:KX X}{y:X}(ht:top=true->R=none)
  (h:Qrm rec O l f F an top nt c s k=some y):Qi7 R cx.P nt c (fun e s'=>k e s'=some y) s:=by
 obtain⟨hc,h⟩:=Yy h;simp only[I,ZI]at hc;obtain⟨c1,c2,c3,c4,c5⟩:=hc;split at h
 ·rename_i x0 hx0;split at h
  ·rename_i z hz;rw[Qlo]at h;exact Zlf (fun e s' r h=>Zyx h) c1 c2 c3 c4 (fun x r hr=>hrec _ _ (Qr5 (Yo.eqv_ok _) (Z8.eqv_ok _)) R _ top _ _ _ _ r ht hr) hx0 hz (fun hn=>absurd hn (Quh z c5)) (fun _=>h)
  ·cases h
 ·cases h
theorem Yig{e:Exit}(h:Qil e=true):e=.normal:=by cases e<;>first|rfl|cases h
theorem Zef{cx:Cx}{rec:J7}(hrec:Qa2 cx rec){R:Option Nat}{top:Bool}{nt:Nat}{c:Code}{k:KX X}{y:X}(ht:top=true->R=none):∀(an:Zb) (s:St),Qza rec top nt c an s k=some y->Qi7 R cx.P nt c (fun e s'=>k e s'=some y) s
 |.loop O l f F a,s,h=>Ygd hrec ht h
 |.phase O l f F a b,s,h=>by
  obtain⟨hc,h⟩:=Yy h;simp only[I,ZI]at hc;obtain⟨c1,c2,c3,c4⟩:=hc;split at h
  ·rename_i x0 hx0;split at h
   ·rename_i z hz;rw[Qlo]at h;refine Zlf (fun e s' r h=>Znu h) c1 c2 c3 c4 (fun x r hr=>hrec _ _ (Qr5 (Yo.eqv_ok _) (Z8.eqv_ok _)) R _ top _ _ _ _ r ht hr) hx0 hz (fun hn=>?_) (fun hn=>?_)
    ·rw[hn]at h;exact Zef hrec ht b _ h
    ·cases he:Qil (Jr f s l z).1 with
     |true=>exact absurd (Yig he) hn
     |false=>rw[he]at h;exact h
   ·cases h
  ·cases h
 |.leaf,_,h=>by cases h
 |.one _,_,h=>by cases h
 |.two _ _,_,h=>by cases h
 |.join _ _ _,_,h=>by cases h
 |.virt _ _ _ _,_,h=>by cases h
 |.sealing _ _ _ _,_,h=>by cases h
 |.within _,_,h=>by cases h
 |.virtF _ _ _ _ _,_,h=>by cases h
 |.typ _ _ _ _,_,h=>by cases h
 |.norm _ _,_,h=>by cases h
 |.lnk _ _ _ _,_,h=>by cases h
 |.unlnk _ _,_,h=>by cases h
 |.slb _ _,_,h=>by cases h
 |.unslb _ _,_,h=>by cases h
 |.cas _ _ _ _ _,_,h=>by cases h
end
def Qhv(cx:Cx)(lx:Lx)(rec:J7)(X:Type)(eq:X->X->Bool)(an:Zb)(top:Bool)(nt:Nat):Code->St->KX X->Option X
 |.skip,s,k=>k .normal s
 |.region _ ops draw,s,k=>match draw with
  |false=>Qf7 eq cx (Qbc cx lx rec eq) nt ops ops.toList s (k .normal)
  |true=>gd (Region.noSelect ops) (J6 eq cx (Qbc cx lx rec eq) nt ops (Uj true ops ops.size (Array.replicate ops.size false)) [] s (k .normal))
 |.seq a b,s,k=>rec X eq an.fst top nt a s fun e s'=>match e with
  |.normal=>rec X eq an.snd top nt b s' k
  |e=>k e s'
 |.cond c a b,s,k=>match s.ev c with
  |.pv (.lit (.bool t))=>match t with
   |true=>rec X eq an.fst top nt a s k
   |false=>rec X eq an.snd top nt b s k
  |_=>none
 |.block id c,s,k=>rec X eq an.fst top nt c s fun e s'=>match e with
  |.exit id'=>bif ZH id' id then k .normal s' else k (.exit id') s'
  |e=>k e s'
 |.loop c,s,k=>rec X eq an.fst top nt c s fun e s'=>match e with
  |.normal=>rec X eq an top nt (.loop c) s' k
  |e=>k e s'
 |.rangeFunc g ps assign body,s,k=>match top with
  |true=>Zan (Qbc cx lx rec eq) rec eq nt g ps assign body s k
  |false=>none
 |.scope c,s,k=>match top with
  |true=>rec X eq an.fst true nt c s fun e s'=>match e with
   |.goto _=>none
   |e=>k e s'
  |false=>none
 |.exit id,s,k=>k (.exit id) s
 |.label _,s,k=>k .normal s
 |.ret,s,k=>k .ret s
 |_,_,_=>none
def Lx.more(lx:Lx)(l:List (Nat×Zb)):Lx:=match lx with
 |⟨ext,anns,still,unk⟩=>⟨ext,l++anns,still,unk⟩
theorem Lx.Ok.more{cx:Cx}{lx:Lx}(h:lx.Ok cx)(l:List (Nat×Zb)):(lx.more l).Ok cx:=⟨h.ext,h.unk⟩
def Zs9(cx:Cx)(lx:Lx)(rec:J7):J7:=fun X eq an top nt c s k=>match an with
 |.join l f a=>Zhg rec l f a top nt c s k
 |.virt slot ty row a=>match s.T.get slot with
  |some (.pv (.lit v))=>gd (Value.isNil v) (rec X eq a top nt c (Qkm s slot ty row) k)
  |_=>rec X eq a top nt c s k
 |.sealing kk ty row a=>match Qpw kk ty row s with
  |some p=>gd p.1 (rec X eq a top nt c p.2 k)
  |none=>none
 |.norm slots a=>gd (s.marks.isEmpty&&Qy3 (Zi7 slots s) s.H.length s.n0) (rec X eq a top nt c (Qya (Zi7 slots s) s) k)
 |.typ kk ty row a=>match Qq3 kk ty row s with
  |some s'=>rec X eq a top nt c s' k
  |none=>none
 |.lnk kk slot col a=>match Qn2 kk slot col s with
  |some s'=>rec X eq a top nt c s' k
  |none=>none
 |.unlnk kk a=>match Qs2 kk s with
  |some p=>gd p.1 (rec X eq a top nt c p.2 k)
  |none=>none
 |.low=>match c with
  |.region _ ops draw=>match draw with
   |false=>Qf7 eq cx.Qbh (Qbc cx.Qbh lx rec eq) nt ops ops.toList s (k .normal)
   |true=>gd (Region.noSelect ops) (J6 eq cx.Qbh (Qbc cx.Qbh lx rec eq) nt ops (Uj true ops ops.size (Array.replicate ops.size false)) [] s (k .normal))
  |_=>none
 |.slb slot a=>match Qre slot s with
  |some s'=>rec X eq a top nt c s' k
  |none=>rec X eq a top nt c s k
 |.unslb slot a=>match Qsf slot s with
  |some s'=>rec X eq a top nt c s' k
  |none=>rec X eq a top nt c s k
 |.cas slot j lit a b=>match Qrs slot j lit s with
  |some p=>match p.1 with
   |true=>rec X eq a top nt c p.2 k
   |false=>rec X eq b top nt c s k
  |none=>none
 |.virtF ob col ty row a=>match Qr2 s ob col ty row with
  |some s'=>rec X eq a top nt c s' k
  |none=>none
 |.within l=>match c with
  |.loop _=>none
  |c=>Qhv cx (lx.more l) rec X eq .leaf top nt c s k
 |.loop O l f F a=>match c with
  |.loop body=>Qrm rec O l f F a top nt body s k
  |_=>none
 |.phase O l f F a b=>match c with
  |.loop body=>Qza rec top nt body (.phase O l f F a b) s k
  |_=>none
 |.leaf=>Qhv cx lx rec X eq .leaf top nt c s k
 |.one a=>Qhv cx lx rec X eq (.one a) top nt c s k
 |.two a b=>Qhv cx lx rec X eq (.two a b) top nt c s k
def Xz(cx:Cx)(lx:Lx):Nat->J7
 |0=>fun _ _ _ _ _ _ _ _=>none
 |n+1=>Zs9 cx lx (Xz cx lx n)
def Zb.plain:Zb->Bool
 |.leaf=>true
 |.one _=>true
 |.two _ _=>true
 |_=>false
theorem Qsg{cx:Cx}(hcx:cx.Ok){lx:Lx}(hlx:lx.Ok cx):∀(n:Nat),Qa2 cx (Xz cx lx n)∧
  (∀(X:Type) (eq:X->X->Bool) (_:Y6 eq) R an top nt c s (k:KX X) (y:X),(top=true->R=none)->Xz cx lx n X eq an top nt (.loop c) s k=some y->an.plain=true->
   Ql4 R cx.P nt c (fun e s'=>k e s'=some y) n s)
 |0=>⟨fun X eq he R an top nt c s k y _ h=>(by cases h),fun X eq he R an top nt c s k y _ h=>(by cases h)⟩
 |n+1=>by
  obtain⟨ih1,ih2⟩:=Qsg hcx hlx n;have loop:∀(X:Type) (eq:X->X->Bool) (_:Y6 eq) R an top nt c s (k:KX X) (y:X),(top=true->R=none)->Xz cx lx (n+1) X eq an top nt (.loop c) s k=some y->an.plain=true->
    Ql4 R cx.P nt c (fun e s'=>k e s'=some y) (n+1) s:=by
   intro X eq he R an top nt c s k y ht h hp;have h:Qhv cx lx (Xz cx lx n) X eq an top nt (.loop c) s k=some y:=by
    cases an with
    |leaf=>exact h
    |one a=>exact h
    |two a b=>exact h
    |_=>cases hp
   refine(ih1 X eq he R an.fst top nt c s _ y ht h).mono fun e s' hs=>?_;cases e with
   |normal=>exact⟨n,ZO n,ih2 X eq he R an top nt c s' k y ht hs hp⟩
   |_=>exact hs
  refine⟨fun X eq he R an top nt c s k y ht h=>?_,loop⟩;have code:∀(lx':Lx),lx'.Ok cx->(an.plain=true∨∀b,c≠.loop b)->∀an':Zb,(an.plain=true->an'=an∧lx'=lx)->Qhv cx lx' (Xz cx lx n) X eq an' top nt c s k=some y->Zl R cx.P nt c (fun e s'=>k e s'=some y) s:=by
   intro lx' hlx' hp an' han hcode;have hcb:=Zga hcx hlx' ih1 he;cases c with
   |skip=>exact Yhd hcode
   |region id ops draw=>
    cases draw with
    |false=>exact Zjx hcx (Qna he hcb _ _ _ hcode)
    |true=>obtain⟨h1,h2⟩:=Yy hcode;exact Zd3 hcx h1 (Qeb he hcb _ _ _ _ h2)
   |seq a b=>
    refine Zqi ((ih1 X eq he R an'.fst top nt a s _ y ht hcode).mono fun e s' hs=>?_);cases e with
    |normal=>exact ih1 X eq he R an'.snd top nt b s' k y ht hs
    |_=>exact hs
   |cond c a b=>
    have hcode:(match s.ev c with
     |.pv (.lit (.bool t))=>match t with
      |true=>Xz cx lx n X eq an'.fst top nt a s k
      |false=>Xz cx lx n X eq an'.snd top nt b s k
     |_=>none)=some y:=hcode
    split at hcode
    ·rename_i t e;refine Yie e (fun hb=>?_) (fun hb=>?_)
     ·subst hb;exact ih1 X eq he R an'.fst top nt a s k y ht hcode
     ·subst hb;exact ih1 X eq he R an'.snd top nt b s k y ht hcode
    ·cases hcode
   |block id c=>
    refine Zo6 ((ih1 X eq he R an'.fst top nt c s _ y ht hcode).mono fun e s' hs=>?_);cases e with
    |exit id'=>
     simp only[Qzb];by_cases e:id'=id
     ·rw[if_pos e];simp only[Qe5 e,cond_true]at hs;exact hs
     ·rw[if_neg e];simp only[V3 e,cond_false]at hs;exact hs
    |_=>exact hs
   |loop c=>
    have hp:an.plain=true:=by
     rcases hp with hp|hp
     ·exact hp
     ·exact absurd rfl (hp c)
    obtain⟨rfl,rfl⟩:=han hp;refine Yd8 (loop X eq he R an' top nt c s k y ht ?_ hp);cases an' with
    |leaf=>exact hcode
    |one a=>exact hcode
    |two a b=>exact hcode
    |_=>cases hp
   |exit id=>exact Yiq hcode
   |label l=>exact Zvf hcode
   |ret=>exact Zww hcode
   |rangeFunc g ps assign body=>
    cases top with
    |true=>have hR:=ht rfl;subst hR;exact Zwi hcx hcb ih1 he hcode
    |false=>cases hcode
   |scope c=>
    cases top with
    |true=>
     have hR:=ht rfl;subst hR;refine Yel ((ih1 X eq he none an'.fst true nt c s _ y ht hcode).mono fun e s' hs=>?_);cases e with
     |goto _=>cases hs
     |_=>exact hs
    |false=>cases hcode
   |goto _=>cases hcode
   |refuse _=>cases hcode
  cases an with
  |join l f a=>exact Yg3 ih1 ht h
  |virt slot ty row a=>
   have h:(match s.T.get slot with
    |some (.pv (.lit v))=>gd (Value.isNil v) (Xz cx lx n X eq a top nt c (Qkm s slot ty row) k)
    |_=>Xz cx lx n X eq a top nt c s k)=some y:=h
   split at h
   ·rename_i v hv;obtain⟨h1,h2⟩:=Yy h;exact Ybz hv h1 (ih1 X eq he R a top nt c _ k y ht h2)
   ·exact ih1 X eq he R a top nt c _ k y ht h
  |typ kk ty row a=>
   have h:(match Qq3 kk ty row s with
    |some s'=>Xz cx lx n X eq a top nt c s' k
    |none=>none)=some y:=h
   split at h
   ·rename_i s' hs';exact Zr2 hs' (ih1 X eq he R a top nt c _ k y ht h)
   ·cases h
  |lnk kk slot col a=>
   have h:(match Qn2 kk slot col s with
    |some s'=>Xz cx lx n X eq a top nt c s' k
    |none=>none)=some y:=h
   split at h
   ·rename_i s' hs';exact Yer hs' (ih1 X eq he R a top nt c _ k y ht h)
   ·cases h
  |unlnk kk a=>
   have h:(match Qs2 kk s with
    |some p=>gd p.1 (Xz cx lx n X eq a top nt c p.2 k)
    |none=>none)=some y:=h
   split at h
   ·rename_i p hp;obtain⟨h1,h2⟩:=Yy h;exact Ybe hp h1 (ih1 X eq he R a top nt c _ k y ht h2)
   ·cases h
  |low=>
   cases c with
   |region id ops draw=>
    have hcx':cx.Qbh.Ok:=hcx.Qbh;have hlx':lx.Ok cx.Qbh:=⟨fun q hq=>let h:=hlx.ext q hq;⟨h.fn,h.ok⟩,hlx.unk⟩;have ih1':Qa2 cx.Qbh (Xz cx lx n):=ih1;have hcb:=Zga hcx' hlx' ih1' he;cases draw with
    |false=>exact Zjx hcx' (Qna he hcb _ _ _ h)
    |true=>obtain⟨h1,h2⟩:=Yy h;exact Zd3 hcx' h1 (Qeb he hcb _ _ _ _ h2)
   |_=>cases h
  |slb slot a=>
   have h:(match Qre slot s with
    |some s'=>Xz cx lx n X eq a top nt c s' k
    |none=>Xz cx lx n X eq a top nt c s k)=some y:=h
   split at h
   ·rename_i s' hs';exact Ypk hs' (ih1 X eq he R a top nt c _ k y ht h)
   ·exact ih1 X eq he R a top nt c _ k y ht h
  |unslb slot a=>
   have h:(match Qsf slot s with
    |some s'=>Xz cx lx n X eq a top nt c s' k
    |none=>Xz cx lx n X eq a top nt c s k)=some y:=h
   split at h
   ·rename_i s' hs';exact Zoe hs' (ih1 X eq he R a top nt c _ k y ht h)
   ·exact ih1 X eq he R a top nt c _ k y ht h
  |cas slot j lit a b=>
   have h:(match Qrs slot j lit s with
    |some p=>match p.1 with
     |true=>Xz cx lx n X eq a top nt c p.2 k
     |false=>Xz cx lx n X eq b top nt c s k
    |none=>none)=some y:=h
   split at h
   ·rename_i p hp;split at h
    ·rename_i hc;exact Ygy hp hc (ih1 X eq he R a top nt c _ k y ht h)
    ·exact ih1 X eq he R b top nt c _ k y ht h
   ·cases h
  |sealing kk ty row a=>
   have h:(match Qpw kk ty row s with
    |some p=>gd p.1 (Xz cx lx n X eq a top nt c p.2 k)
    |none=>none)=some y:=h
   split at h
   ·rename_i p hp;obtain⟨h1,h2⟩:=Yy h;exact Zyi (cc:=p.1) (s':=p.2) hp h1 (ih1 X eq he R a top nt c _ k y ht h2)
   ·cases h
  |virtF ob col ty row a=>
   have h:(match Qr2 s ob col ty row with
    |some s'=>Xz cx lx n X eq a top nt c s' k
    |none=>none)=some y:=h
   split at h
   ·rename_i s' hs';exact Yez hs' (ih1 X eq he R a top nt c _ k y ht h)
   ·cases h
  |within l=>
   cases c with
   |loop b=>cases h
   |_=>exact code (lx.more l) (hlx.more l) (.inr fun b e=>by cases e) .leaf (fun e=>by cases e) h
  |loop O l f F a=>
   cases c with
   |loop body=>exact Ydl ih1 ht h
   |_=>cases h
  |norm slots a=>obtain⟨h1,h2⟩:=Yy h;rw[I,ZI]at h1;exact Zvu h1.1 h1.2 (ih1 X eq he R a top nt c _ k y ht h2)
  |phase O l f F a b=>
   cases c with
   |loop body=>exact(Zef ih1 ht _ _ h).wp
   |_=>cases h
  |leaf=>exact code lx hlx (.inl rfl) .leaf (fun _=>⟨rfl,rfl⟩) h
  |one a=>exact code lx hlx (.inl rfl) (.one a) (fun _=>⟨rfl,rfl⟩) h
  |two a b=>exact code lx hlx (.inl rfl) (.two a b) (fun _=>⟨rfl,rfl⟩) h
end Go.Sx
end
namespace Go.Sx
open Go
def Qt:List Qe->Type
 |[]=>Unit
 |[a]=>a.El
 |a::a'::l=>a.El×Qt (a'::l)
def Qt.eqv:(l:List Qe)->Qt l->Qt l->Bool
 |[]=>Qie
 |[a]=>a.eqv
 |a::a'::l=>Vi a.eqv (Qt.eqv (a'::l))
theorem Qt.eqv_ok:∀(l:List Qe),Y6 (Qt.eqv l)
 |[]=>fun a b h=>rfl
 |[a]=>Qe.eqv_ok a
 |a::a'::l=>Qez (Qe.eqv_ok a) (Qt.eqv_ok (a'::l))
def Yx:(l:List Qe)->Qt l->List SV
 |[],_=>[]
 |[a],x=>[a.sv x]
 |a::a'::l,x=>a.sv x.1::Yx (a'::l) x.2
def rdL(H:List Qb)(n:Nat):(l:List Qe)->List SV->Option (Bool×Qt l)
 |[]=>Qn5
 |[a]=>Qx1 (rdA H n a)
 |a::a'::l=>Qjr (rdA H n a) (rdL H n (a'::l))
theorem Qf.Yr5{M:Qd}{Z ρ2:Env}{v:Value}{x:SV}(h:Qf M Z v x):x.free 0=true->Qf M ρ2 v x:=by
 have fl:∀(l:List SV),Vk 0 l=true->∀(i:Nat) (x:SV),l[i]? =some x->x.free 0=true:=by
  intro l;induction l with
  |nil=>intro _ i x h;simp at h
  |cons y l ih=>
   intro h i x hx;simp only[Vk,I]at h;cases i with
   |zero=>simp at hx;subst hx;exact h.1
   |succ i=>exact ih h.2 i x (by simpa using hx)
 induction h with
 |any v=>intro _;exact .any v
 |pv h=>intro _;exact .pv h
 |agg cs l hl _ ih=>intro hf;exact .agg cs l hl fun i v x hv hx=>ih i v x hv hx (fl l hf i x hx)
 |tup cs l hl _ ih=>intro hf;exact .tup cs l hl fun i v x hv hx=>ih i v x hv hx (fl l hf i x hx)
 |fn f a b x y ha hb _ _ ih jh=>intro hf;simp only[SV.free,I]at hf;exact .fn f a b x y ha hb (fun i v s hv hs=>ih i v s hv hs (fl x hf.1 i s hs)) (fun i v s hv hs=>jh i v s hv hs (fl y hf.2 i s hs))
 |ptr s=>intro hf;simp[SV.free]at hf
 |sl s=>intro hf;simp[SV.free]at hf
 |slz s=>intro hf;simp[SV.free]at hf
 |mp s=>intro hf;simp[SV.free]at hf
 |yld s=>intro hf;simp[SV.free]at hf
 |slb s=>intro hf;simp[SV.free]at hf
theorem Yat(l:List PV):Vk 0 (l.map .pv)=true:=by
 induction l with
 |nil=>rfl
 |cons x l ih=>simp[Vk,SV.free,ih]
theorem Zqv(l:List PV):(SV.X2 (l.map .pv)).free 0=true:=by
 unfold SV.X2;split
 ·rfl
 ·simp only[SV.free];exact Yat l
theorem Qe.Zma:∀(a:Qe) (x:a.El),(a.sv x).free 0=true
 |.val t,x=>rfl
 |.agg row,x=>Zqv _
theorem Zic:∀(l:List Qe) (x:Qt l),Vk 0 (Yx l x)=true
 |[],_=>rfl
 |[a],x=>by show((a.sv x).free 0&&true)=true;rw[Qe.Zma a x];rfl
 |a::a'::l,x=>by simp only[Yx,Vk,Qe.Zma,Zic (a'::l),Bool.and_self]
theorem Yn8(l:List Qe)(x:Qt l):(X0 (Yx l x)).free 0=true:=by
 have h:=Zic l x;unfold X0;split
 ·rename_i y e;rw[e]at h;simpa[Vk]using h
 ·exact h
theorem Zc4{M:Qd}{Z:Env}(n:Nat):∀(k:Nat),
  (∀(t:Ty),SizeOf.sizeOf t<=k->Qg4 M Z M (rdT [] n t) t.pv)∧(∀(ts:List Ty),SizeOf.sizeOf ts<=k->Qb0 M Z M ts (Vh [] n ts)):=by
 have hle:=M.le_refl;intro k;induction k with
 |zero=>exact⟨fun t ht=>by(cases t<;>simp at ht),fun ts ht=>by(cases ts<;>simp at ht)⟩
 |succ k ih=>
  obtain⟨ih1,ih2⟩:=ih;refine⟨fun t ht=>?_,fun ts ht=>?_⟩
  ·match t,ht with
   |.int k,ht=>exact Qhu hle (Qvj k)
   |.bool,ht=>exact Qhu hle Qw8
   |.str,ht=>exact Qhu hle Qzl
   |.seq row,ht=>
    intro x c y v h hc hr;have h:Qlv [] n row (Vh [] n row) x=some (c,y):=h;unfold Qlv at h;split at h
    ·split at h
     ·rename_i y' hy;cases h;cases hr with
      |pv hp=>exact Ty.Qz1 (t:=.seq row) hy hp
     ·cases h
    ·split at h
     ·cases h
     ·simp at h
    ·cases h
  ·match ts,ht with
   |[],ht=>exact Zdl
   |[t],ht=>exact Zbv (ih1 t (by simp at ht;omega))
   |t::t'::ts,ht=>exact Zcn (ih1 t (by simp at ht;omega)) (ih2 (t'::ts) (by simp at ht⊢;omega))
theorem Zyz{M:Qd}{Z ρ2:Env}{n:Nat}{a:Qe}{x:SV}{c:Bool}{y:a.El}{v:Value}(h:rdA [] n a x=some (c,y))(hc:c=true)(hr:Qf M Z v x):Qf M ρ2 v (a.sv y):=by
 cases a with
 |val t=>exact .pv ((Zc4 n _).1 t (ZO _) x c y v h hc hr)
 |agg row=>
  refine Qe.Zme ?_;have fin:∀(cs:Array Value) (xs:List SV) (y:Ql row),Kn M Z M row xs y->cs.size=xs.length->(∀(i:Nat) (u:Value) (x:SV),cs[i]? =some u->xs[i]? =some x->Qf M Z u x)->Qf M ρ2 (.agg cs) ((Qe.agg row).raw y):=fun cs xs y hf hl hr=>by refine .agg cs _ (by rw[hl,hf.1];simp[Vc]) fun i u z hu hz=>?_;simp only[ZA,C]at hz;obtain⟨q,hq,rfl⟩:=hz;obtain⟨x,hx,himp⟩:=hf.2 i q hq;exact .pv (himp u (hr i u x hu hx))
  replace h:Qfb [] n row x=some (c,y):=h;unfold Qfb at h;split at h
  ·rename_i cs;split at h
   ·rename_i y' hy;cases h;have:=hr.Zq;subst this;refine fin cs _ _ (Kn.of M.le_refl hy) (by simp) fun i u x hu hx=>?_;simp only[ZA,C,Array.getElem?_toList]at hx;obtain⟨p,⟨u',hu',rfl⟩,rfl⟩:=hx;rw[hu]at hu';cases hu';exact .pv (.lit _)
   ·cases h
  ·rename_i l;cases hr with
   |agg cs _ hl hr=>exact fin cs l y ((Zc4 n _).2 row (ZO _) _ _ _ h hc) hl hr
  ·cases h
def Qy2(M M2:Qd)(Z ρ2:Env){α:Type}(f:List SV->Option (Bool×α))(g:α->List SV):Prop:=
 ∀(xs:List SV) (c:Bool) (y:α),f xs=some (c,y)->c=true->(g y).length=xs.length∧
  ∀(i:Nat) (v:Value) (z x:SV),(g y)[i]? =some z->xs[i]? =some x->Qf M Z v x->Qf M2 ρ2 v z
theorem Qze{M M2:Qd}{Z ρ2:Env}{H:List Qb}{n:Nat}(ha:∀(a:Qe) (x:SV) (c:Bool) (y:a.El) (v:Value),rdA H n a x=some (c,y)->c=true->Qf M Z v x->Qf M2 ρ2 v (a.sv y)):
  ∀(l:List Qe),Qy2 M M2 Z ρ2 (rdL H n l) (Yx l)
 |[]=>by
  intro xs c y h hc;match xs,h with
  |[],h=>exact⟨rfl,fun i v z x hz hx=>by simp at hx⟩
  |_::_,h=>cases h
 |[a]=>by
  intro xs c y h hc;match xs,h with
  |[],h=>cases h
  |_::_::_,h=>cases h
  |[x],h=>
   replace h:rdA H n a x=some (c,y):=h;refine⟨rfl,fun i v z x' hz hx' hr=>?_⟩;cases i with
   |zero=>simp only[Yx,ZL,ZJ]at hz hx';subst hz;subst hx';exact ha a x c y v h hc hr
   |succ i=>simp at hx'
 |a::a'::l=>by
  intro xs c y h hc;match xs,h with
  |[],h=>cases h
  |x::xs,h=>
   replace h:Qjr (rdA H n a) (rdL H n (a'::l)) (x::xs)=some (c,y):=h;simp only[Qjr]at h;split at h
   ·cases h
   ·rename_i p h1;split at h
    ·cases h
    ·rename_i q h2;cases h;rw[I]at hc;obtain⟨g1,g2⟩:=Qze ha (a'::l) xs q.1 q.2 h2 hc.2;refine⟨by simp only[Yx,ZW,g1],fun i v z x' hz hx' hr=>?_⟩;cases i with
     |zero=>simp only[Yx,ZL,ZJ]at hz hx';subst hz;subst hx';exact ha a x p.1 p.2 v h1 hc.1 hr
     |succ i=>simp only[Yx,ZX]at hz hx';exact g2 i v z x' hz hx' hr
theorem Zko{M:Qd}{Z ρ2:Env}{H:List Qb}{w:World}{n:Nat}(hm:Mem M Z H w)(l:List Qe):Qy2 M (M.sealing Z H n w) Z ρ2 (rdL H n l) (Yx l):=
 Qze (fun a x c y v h hc hr=>Qu5 hm h hc hr) l
theorem Zbr{M:Qd}{Z ρ2:Env}{n:Nat}(l:List Qe):Qy2 M M Z ρ2 (rdL [] n l) (Yx l):=
 Qze (fun a x c y v h hc hr=>Zyz h hc hr) l
structure PC where
 ats:List Qe
 rts:List Qe
 code:Qt ats->Option (Qt rts)
structure Qg (cx:Cx) (g:Nat) (pc:PC):Prop where
 fn:∃fn,cx.fns.lookup g=some fn
 ok:∀a y,pc.code a=some y->Xt cx.P g (Yx pc.ats a) [] fun r H' t f=>r=X0 (Yx pc.rts y)∧H'=[]∧t=[]∧f=[]
def PC.sm(pc:PC):Sm where
 pre:=fun args H=>(rdL [] 0 pc.ats args).isSome||((rdL H 0 pc.ats args).isSome&&pc.rts.all Qe.scalar)
 run:=fun X args H k=>match rdL [] 0 pc.ats args with
  |some p=>gd p.1 (match pc.code p.2 with
   |some y=>k (X0 (Yx pc.rts y)) H [] []
   |none=>none)
  |none=>match rdL H 0 pc.ats args with
   |some p=>gd (p.1&&pc.rts.all Qe.scalar) (match pc.code p.2 with
    |some y=>k (X0 (Yx pc.rts y)) H [] []
    |none=>none)
   |none=>none
def Qqt:List SV->Bool
 |[]=>true
 |.pv (.lit _)::l=>Qqt l
 |_=>false
def SV.Qnn:SV->Bool
 |.pv (.lit _)=>true
 |.agg l=>Qqt l
 |_=>false
theorem Zbx:∀{l:List SV},Qqt l=true->∀(i:Nat) (x:SV),l[i]? =some x->∃v,x=.lit v
 |[],_,i,x,h=>by simp at h
 |.pv (.lit v)::l,hl,i,x,h=>by
  cases i with
  |zero=>simp at h;exact⟨v,h.symm⟩
  |succ i=>exact Zbx (l:=l) hl i x (by simpa using h)
theorem Zj6{M M2:Qd}{Z ρ2:Env}{v:Value}{x:SV}(hs:x.Qnn=true)(h:Qf M Z v x):Qf M2 ρ2 v x:=by
 match x,hs,h with
 |.pv (.lit u),_,h=>rw[h.Zq];exact .pv (.lit _)
 |.agg l,hs,.agg cs _ hl hr=>refine .agg cs l hl fun i v x hv hx=>?_;obtain⟨u,rfl⟩:=Zbx hs i x hx;rw[(hr i v _ hv hx).Zq];exact .pv (.lit _)
theorem Zb8:∀(row:List Ty) (x:Ql row),row.all Ty.scalar=true->Qqt ((Zn row x).map .pv)=true
 |[],_,_=>rfl
 |[t],x,h=>by cases t<;>first|rfl|(simp[Ty.scalar]at h)
 |t::t'::ts,x,h=>by simp only[ZM,I]at h;have:=Zb8 (t'::ts) x.2 (by simp only[ZM,I];exact h.2);cases t<;>first|exact this|(simp[Ty.scalar]at h)
theorem Qe.Zl4(a:Qe)(x:a.El)(h:a.scalar=true):(a.sv x).Qnn=true:=by
 cases a with
 |val t=>cases t<;>first|rfl|(simp[Qe.scalar,Ty.scalar]at h)
 |agg row=>
  show(SV.X2 ((Zn row x).map .pv)).Qnn=true;unfold SV.X2;split
  ·rfl
  ·exact Zb8 row x h
theorem Zcs:∀(l:List Qe) (y:Qt l),l.all Qe.scalar=true->∀(i:Nat) (x:SV),(Yx l y)[i]? =some x->x.Qnn=true
 |[],_,_,i,x,h=>by simp[Yx]at h
 |[a],y,hs,i,x,h=>by
  cases i with
  |zero=>simp only[Yx,ZL,ZJ]at h;subst h;exact Qe.Zl4 a y (by simpa using hs)
  |succ i=>simp[Yx]at h
 |a::a'::l,y,hs,i,x,h=>by
  simp only[ZM,I]at hs;cases i with
  |zero=>simp only[Yx,ZL,ZJ]at h;subst h;exact Qe.Zl4 a y.1 hs.1
  |succ i=>exact Zcs (a'::l) y.2 (by simp only[ZM,I];exact hs.2) i x (by simpa[Yx]using h)
theorem Yd4{M M2:Qd}{Z ρ2:Env}{v:Value}{l:List SV}(hs:∀(i:Nat) (x:SV),l[i]? =some x->x.Qnn=true)(h:Qf M Z v (X0 l)):Qf M2 ρ2 v (X0 l):=by
 unfold X0 at h⊢;split at h
 ·rename_i x;exact Zj6 (hs 0 x rfl) h
 ·cases h with
  |tup cs _ hl hr=>exact .tup cs _ hl fun i v x hv hx=>Zj6 (hs i x hx) (hr i v x hv hx)
def Wf:Env:=fun _=>none
theorem Ql6{M:Qd}{w:World}(h:∀b o,M b=some o->w.heap[b]? =some o):Mem M Wf [] w:=
 ⟨h,fun s o ho=>by simp at ho,fun s o p b ho=>by simp at ho,fun s s' o o' p p' b ho=>by simp at ho,fun s _=>rfl,fun s o p b ho=>by simp at ho⟩
theorem Qbw{b:Nat}:¬J4 Wf [] b:=fun⟨s,o,p,h,_⟩=>by simp at h
theorem PC.Qq{cx:Cx}{g:Nat}{pc:PC}(h:Qg cx g pc):Qfd cx g pc.sm:=by
 refine⟨h.fn,fun X args H k y hk=>?_⟩;have hk:(match rdL [] 0 pc.ats args with
  |some p=>gd p.1 (match pc.code p.2 with
   |some y=>k (X0 (Yx pc.rts y)) H [] []
   |none=>none)
  |none=>match rdL H 0 pc.ats args with
   |some p=>gd (p.1&&pc.rts.all Qe.scalar) (match pc.code p.2 with
    |some y=>k (X0 (Yx pc.rts y)) H [] []
    |none=>none)
   |none=>none)=some y:=hk
 have keep:∀(w w':World) (M2 M2':Qd) (Z':Env) (H':List Qb) (t f:List Nat),Fr M2 Wf [] w M2' Z' H' w' 0 t f->∀b,b<w.heap.size->w'.heap[b]? =w.heap[b]? :=fun w w' M2 M2' Z' H' t f hf b hb=>hf.same b hb Qbw;split at hk
 ·rename_i p hrd;obtain⟨hc,hk⟩:=Yy hk;split at hk
  ·rename_i z hz;intro M Z w vs hm hr;obtain⟨l1,l2⟩:=Zbr (M:=M) (Z:=Z) (ρ2:=Wf) pc.ats args p.1 p.2 hrd hc;refine(h.ok p.2 z hz M Wf w vs (Ql6 hm.imm) ⟨by rw[hr.1,l1],fun i v x hv hx=>?_⟩).mono ?_
   ·obtain⟨x',hx'⟩:∃x',args[i]? =some x':=by
     have:i<args.length:=by rw[<-l1];exact(J.1 hx).1
     exact⟨_,ZF this⟩
    exact l2 i v x x' hx hx' (hr.2 i v x' hv hx')
   ·rintro e w' ⟨v,r,H',M',Z',t,f,he,⟨rfl,rfl,rfl,rfl⟩,hs,hm',hf⟩
    have hsame:=keep _ _ _ _ _ _ _ _ hf;refine⟨v,_,H,M',Z,[],[],he,hk,hs.Yr5 (Yn8 _ z),?_,?_⟩
    ·refine⟨hm'.imm,fun s o ho=>?_,fun s o p b ho hl hp hb=>?_,hm.diss,hm.fresh,fun s o p b ho hl hp hb=>QC (hm.lts s o p b ho hl hp hb) hf.grow⟩
     ·by_cases hl:o.live=true
      ·exact(hm.own s o ho).mono hf.imm Z.le_refl rfl fun p b hp hb=>hsame _ (hm.Wc ho hl hp hb)
      ·rw[Qbv hl];trivial
     ·cases e:M' b with
      |none=>rfl
      |some ob=>
       rcases hf.new b ob (hm.seps s o p b ho hl hp hb) e with h1|h1
       ·have:=hm.Wc ho hl hp hb;omega
       ·exact absurd h1 Qbw
    ·exact⟨hf.imm,fun b o a c=>(hf.new b o a c).imp id fun h=>absurd h Qbw,fun b hb=>.inr hb,fun b hb _=>hsame b hb,hf.grow,fun s o _ _ ho hl=>⟨⟨o,ho,hl⟩,fun p hp=>⟨hp,fun b hb=>hsame _ (hm.Wc ho hl hp hb)⟩⟩,fun _ _ _=>rfl,hf.io⟩
  ·cases hk
 ·split at hk
  ·rename_i p hrd;obtain⟨hc,hk⟩:=Yy hk;rw[I]at hc;split at hk
   ·rename_i z hz;intro M Z w vs hm hr;obtain⟨l1,l2⟩:=Zko (n:=0) (ρ2:=Wf) hm pc.ats args p.1 p.2 hrd hc.1;have hM2:∀b o,(M.sealing Z H 0 w) b=some o->w.heap[b]? =some o:=fun b o hb=>by
     cases e:M b with
     |some o'=>rw[Qd.W0 M Z H 0 w b o' e]at hb;cases hb;exact hm.imm b _ e
     |none=>exact(Qd.Kx e hb).2
    refine(h.ok p.2 z hz (M.sealing Z H 0 w) Wf w vs (Ql6 hM2) ⟨by rw[hr.1,l1],fun i v x hv hx=>?_⟩).mono ?_
    ·obtain⟨x',hx'⟩:∃x',args[i]? =some x':=by
      have:i<args.length:=by rw[<-l1];exact(J.1 hx).1
      exact⟨_,ZF this⟩
     exact l2 i v x x' hx hx' (hr.2 i v x' hv hx')
    ·rintro e w' ⟨v,r,H',M',Z',t,f,he,⟨rfl,rfl,rfl,rfl⟩,hs,hm',hf⟩
     have hsame:=keep _ _ _ _ _ _ _ _ hf;refine⟨v,_,H,M,Z,[],[],he,hk,Yd4 (Zcs _ z hc.2) hs,?_,?_⟩
     ·refine⟨fun b o hb=>?_,fun s o ho=>?_,hm.seps,hm.diss,hm.fresh,fun s o p b ho hl hp hb=>QC (hm.lts s o p b ho hl hp hb) hf.grow⟩
      ·rw[hsame b (hm.Qtg hb)];exact hm.imm b o hb
      ·by_cases hl:o.live=true
       ·exact(hm.own s o ho).mono M.le_refl Z.le_refl rfl fun p b hp hb=>hsame _ (hm.Wc ho hl hp hb)
       ·rw[Qbv hl];trivial
     ·exact⟨M.le_refl,fun b o a c=>(by rw[a]at c;cases c),fun b hb=>.inr hb,fun b hb _=>hsame b hb,hf.grow,fun s o _ _ ho hl=>⟨⟨o,ho,hl⟩,fun p hp=>⟨hp,fun b hb=>hsame _ (hm.Wc ho hl hp hb)⟩⟩,fun _ _ _=>rfl,hf.io⟩
   ·cases hk
  ·cases hk
def Zgl(cx:Cx)(fn:Func)(rts:List Qe):KX (Qt rts):=fun e s=>
 gd (Qlu e) (match shut s.marks s.H with
  |none=>none
  |some H'=>Qef cx {s with H:=H',marks:=[]} fn.results.toList fun l=>match rdL H' 0 rts l with
   |none=>none
   |some p=>gd p.1 (some p.2))
def Zp(cx:Cx)(lx:Lx)(n:Nat)(an:Zb)(fn:Func)(c:Code)(ats rts:List Qe)(a:Qt ats):Option (Qt rts):=
 Xz cx lx n (Qt rts) (Qt.eqv rts) an true fn.ntmps c (.entry (Yx ats a) []) (Zgl cx fn rts)
theorem Zsh{cx:Cx}{fn:Func}{rts:List Qe}{e:Exit}{s:St}{y:Qt rts}(h:Zgl cx fn rts e s=some y):
  (e=.normal∨e=.ret)∧∃H',shut s.marks s.H=some H'∧Qac cx {s with H:=H',marks:=[]} fn.results.toList fun l=>∃c,c=true∧rdL H' 0 rts l=some (c,y):=by
 obtain⟨h1,h⟩:=Yy h;refine⟨Qoe h1,?_⟩;split at h
 ·cases h
 ·rename_i H' hs;refine⟨H',hs,Qdf _ _ _ (fun l hl=>?_) (Qgq _ _ h)⟩;split at hl
  ·cases hl
  ·rename_i p hp;obtain⟨h2,hl⟩:=Yy hl;cases hl;exact⟨p.1,h2,hp⟩
theorem Qg.Z6{cx:Cx}(hcx:cx.Ok){lx:Lx}(hlx:lx.Ok cx){n g:Nat}{an:Zb}{fn:Func}{c:Code}{pc:PC}(hf:cx.fns.lookup g=some fn)(hb:fn.body=some c)
  (hcode:∀a y,pc.code a=some y->Zp cx lx n an fn c pc.ats pc.rts a=some y) (hn:ZU pc.ats.length fn.ntmps=true):Qg cx g pc:=by
 refine⟨⟨fn,hf⟩,fun a y hy=>?_⟩;have hlen:∀(l:List Qe) (x:Qt l),(Yx l x).length=l.length:=by
  intro l;induction l with
  |nil=>intro _;rfl
  |cons a l ih=>
   cases l with
   |nil=>intro _;rfl
   |cons b l=>intro x;simp only[Yx,ZW,ih x.2]
 have hw:=(Qsg hcx hlx n).1 _ _ (Qt.eqv_ok pc.rts) none an true fn.ntmps c _ _ y (fun _=>rfl) (hcode a y hy);have hcall:Xt cx.P g (Yx pc.ats a) [] fun r H' t f=>∃l cc,r=X0 l∧cc=true∧rdL H' 0 pc.rts l=some (cc,y):=by refine Qsy hcx hf hb (by rw[hlen];exact ZD hn) (hw.mono fun e s hs=>?_);obtain⟨h1,H',h2,h3⟩:=Zsh hs;exact⟨h1,.inl (ZY _),H',h2,Qdf _ _ _ (fun l ⟨cc,h4,h5⟩=>⟨l,cc,rfl,h4,h5⟩) h3⟩
 intro M Z w vs hm hr;refine(hcall M Z w vs hm hr).mono ?_
 rintro e w' ⟨v,r,H',M',Z',t,f,he,⟨l,cc,rfl,hcc,hrd⟩,hs,hm',hfr⟩
 obtain⟨g1,g2⟩:=Zko (n:=0) (ρ2:=Wf) hm' pc.rts l cc y hrd hcc;have hne:Z=Wf:=by funext s;exact hm.fresh s (ZY _)
 have hM2:∀b o,(M'.sealing Z' H' 0 w') b=some o->w'.heap[b]? =some o:=fun b o hb=>by
  cases e:M' b with
  |some o'=>rw[Qd.W0 M' Z' H' 0 w' b o' e]at hb;cases hb;exact hm'.imm b _ e
  |none=>exact(Qd.Kx e hb).2
 refine⟨v,_,[],M'.sealing Z' H' 0 w',Wf,[],[],he,⟨rfl,rfl,rfl,rfl⟩,?_,Ql6 hM2,?_⟩
 ·unfold X0 at hs⊢;split at hs
  ·rename_i x;match hsv:Yx pc.rts y,g1 with
   |[z],_=>simp only;exact g2 0 v z x (by rw[hsv];rfl) rfl hs
  ·rename_i hx;have hx2:∀z,Yx pc.rts y=[z]->False:=fun z hz=>by
    rw[hz]at g1;match l,g1 with
    |[x],_=>exact hx x rfl
   cases hs with
   |tup cs _ hl hrr=>
    have:Qf (M'.sealing Z' H' 0 w') Wf (.tuple cs) (.tup (Yx pc.rts y)):=.tup cs _ (by rw[hl,g1]) fun i u z hu hz=>by
     obtain⟨x',hx'⟩:∃x',l[i]? =some x':=by
      have:i<l.length:=by rw[<-g1];exact(J.1 hz).1
      exact⟨_,ZF this⟩
     exact g2 i u z x' hz hx' (hrr i u x' hu hx')
    match hsv:Yx pc.rts y with
    |[]=>simp only;rw[<-hsv];exact this
    |[z]=>exact absurd hsv (fun h=>hx2 z h)
    |z::z'::zs=>simp only;rw[<-hsv];exact this
 ·have hsl:=Qd.W0 M' Z' H' 0 w';refine⟨Qd.le_trans hfr.imm hsl,fun b o h0 h1=>?_,fun b hb=>absurd hb Qbw,hfr.same,hfr.grow,fun s o hs=>absurd hs (QJ s),fun s hs=>absurd hs (QJ s),hfr.io⟩;cases e:M' b with
  |some o'=>exact hfr.new b o' h0 e
  |none=>obtain⟨⟨s2,o2,p2,k1,k2,k3,k4,k5⟩,_⟩:=Qd.Kx e h1;exact hfr.own b ⟨s2,o2,p2,k2,by cases o2<;>simp_all [Qb.Kw,Qb.live],k4,.inl k5⟩
theorem Lx.Um{cx:Cx}{an:List (Nat×Zb)}{st:List Nat}:Lx.Ok cx {ext:=[],anns:=an,still:=st}:=⟨fun q hq=>(by cases hq),rfl⟩
theorem Lx.Zk{cx:Cx}{g:Nat}{sm:Sm}{l:List (Nat×Sm)}{an:List (Nat×Zb)}{st:List Nat}(h:Qfd cx g sm)(hl:Lx.Ok cx {ext:=l,anns:=an,still:=st}):Lx.Ok cx {ext:=(g,sm)::l,anns:=an,still:=st}:=
 ⟨fun q hq=>by
  rcases List.mem_cons.1 hq with rfl|hq
  ·exact h
  ·exact hl.ext q hq,rfl⟩
def Qa(α:Type):List α:=[]
def Qo(fn:Func):Code:=match fn.body with
 |some c=>c
 |none=>.skip
def YA:=((0:Int),ZE,ZE,ZE,ZE,ZE,(0:Int),(0:Int),ZE,(0:Int),ZE,Qa ByteArray)
def YB:=(ZE,ZE,Qa ByteArray)
def YC:ByteArray:={data:=ZC ((119:UInt8)::(105:UInt8)::(116:UInt8)::(104:UInt8)::(100:UInt8)::(114:UInt8)::(97:UInt8)::(119:UInt8)::Qa UInt8)}
def YD:ByteArray:={data:=ZC (Qa UInt8)}
def YE:ByteArray:={data:=ZC ((116:UInt8)::(114:UInt8)::(97:UInt8)::(110:UInt8)::(115:UInt8)::(102:UInt8)::(101:UInt8)::(114:UInt8)::Qa UInt8)}
def YF:ByteArray:={data:=ZC ((101:UInt8)::(110:UInt8)::(116:UInt8)::(101:UInt8)::(114:UInt8)::Qa UInt8)}
def YG:ByteArray:={data:=ZC ((97:UInt8)::(116:UInt8)::(104:UInt8)::(108:UInt8)::(101:UInt8)::(116:UInt8)::(101:UInt8)::Qa UInt8)}
def YH:ByteArray:={data:=ZC ((108:UInt8)::(105:UInt8)::(99:UInt8)::(101:UInt8)::(110:UInt8)::(99:UInt8)::(101:UInt8)::Qa UInt8)}
def YI:ByteArray:={data:=ZC ((99:UInt8)::(104:UInt8)::(101:UInt8)::(99:UInt8)::(107:UInt8)::Qa UInt8)}
def YJ:ByteArray:={data:=ZC ((116:UInt8)::(101:UInt8)::(97:UInt8)::(109:UInt8)::Qa UInt8)}
def YK:ByteArray:={data:=ZC ((99:UInt8)::(108:UInt8)::(117:UInt8)::(98:UInt8)::Qa UInt8)}
def YL:ByteArray:={data:=ZC ((116:UInt8)::(105:UInt8)::(109:UInt8)::(101:UInt8)::Qa UInt8)}
def YM:ByteArray:={data:=ZC ((108:UInt8)::(101:UInt8)::(110:UInt8)::(103:UInt8)::(116:UInt8)::(104:UInt8)::Qa UInt8)}
def YN:ByteArray:={data:=ZC ((110:UInt8)::(111:UInt8)::(110:UInt8)::(101:UInt8)::Qa UInt8)}
def YO:ByteArray:={data:=ZC ((112:UInt8)::(111:UInt8)::(105:UInt8)::(110:UInt8)::(116:UInt8)::(115:UInt8)::Qa UInt8)}
def YP:=(ZE,(0:Int),(0:Int))
def YQ:ByteArray:={data:=ZC ((78:UInt8)::(77:UInt8)::Qa UInt8)}
def YR:ByteArray:={data:=ZC ((68:UInt8)::(78:UInt8)::(83:UInt8)::Qa UInt8)}
def YS:ByteArray:={data:=ZC ((68:UInt8)::(78:UInt8)::(70:UInt8)::Qa UInt8)}
def YT:ByteArray:={data:=ZC ((68:UInt8)::(81:UInt8)::Qa UInt8)}
def YU:ByteArray:={data:=ZC ((97:UInt8)::(107:UInt8)::Qa UInt8)}
def YV:ByteArray:={data:=ZC ((97:UInt8)::(99:UInt8)::(103:UInt8)::(102:UInt8)::Qa UInt8)}
def YW:ByteArray:={data:=ZC ((97:UInt8)::(102:UInt8)::(116:UInt8)::Qa UInt8)}
def YX:ByteArray:={data:=ZC ((97:UInt8)::(107:UInt8)::(109:UInt8)::Qa UInt8)}
def YY:ByteArray:={data:=ZC ((99:UInt8)::(107:UInt8)::(110:UInt8)::Qa UInt8)}
def YZ:ByteArray:={data:=ZC ((97:UInt8)::(99:UInt8)::Qa UInt8)}
def WA:ByteArray:={data:=ZC ((99:UInt8)::Qa UInt8)}
end Go.Sx

/- Part Qs of the own logic: an owned row becomes immutable where it stands. Own rows that a function of data gets: they become immutable at the call. And further parts. -/
import Derived.Test.YtebmfbcngojbdaaGreatDoorXSxP
set_option linter.unusedVariables false
set_option linter.unusedSimpArgs false
set_option linter.unnecessarySimpa false
namespace Go.Sx
open Go
def TT.all(p:SV→Bool):TT→Bool
 |.nil=>true
 |.node l v r=>l.all p&&((match v with|some x=>p x|none=>true)&&r.all p)
def oneLive(H:List Qa)(k:Nat)(o:Qa):List Qa:=(H.map fun _=>Qa.dead).set k o
theorem Qa5{H:List Qa}{k s:Nat}{o x:Qa}(h:(oneLive H k o)[s]? =some x):(s=k∧x=o)∨(s≠k∧x=.dead):=by
 unfold oneLive at h;rw[List.getElem?_set]at h;split at h
 ·rename_i e;subst e;split at h
  ·cases h;exact .inl ⟨rfl,rfl⟩
  ·cases h
 ·rename_i e;simp only[List.getElem?_map,Option.map_eq_some_iff]at h;obtain⟨_,_,rfl⟩:=h;exact .inr ⟨fun h=>e h.symm,rfl⟩
theorem Mem.oneLive{M:Qc}{ρ:Env}{H:List Qa}{w:World}(hm:Mem M ρ H w){k:Nat}{o o1:Qa}(hk:H[k]? =some o1)(hl:o1.live=true)(ho:Qy M ρ w k o):Mem M ρ (Sx.oneLive H k o) w:=by
 refine⟨hm.imm,fun s x hx=>?_,fun s x p b hx hlx hp hb=>?_,fun s s' x x' p p' b hx hx' hlx hlx' hp hp' hb hb'=>?_,fun s hs=>hm.fresh s (by simpa[Sx.oneLive]using hs),fun s x p b hx hlx hp hb=>?_⟩
 ·rcases Qa5 hx with⟨rfl,rfl⟩|⟨_,rfl⟩
  ·exact ho
  ·trivial
 ·rcases Qa5 hx with⟨rfl,rfl⟩|⟨_,rfl⟩
  ·exact hm.seps s o1 p b hk hl hp hb
  ·cases hlx
 ·rcases Qa5 hx with⟨rfl,rfl⟩|⟨_,rfl⟩
  ·rcases Qa5 hx' with⟨rfl,rfl⟩|⟨_,rfl⟩
   ·rfl
   ·cases hlx'
  ·cases hlx
 ·rcases Qa5 hx with⟨rfl,rfl⟩|⟨_,rfl⟩
  ·exact hm.lts s o1 p b hk hl hp hb
  ·cases hlx
theorem Zns{M:Qc}{ρ:Env}{H:List Qa}{w:World}(hm:Mem M ρ H w):ρ.cut H.length=ρ:=by
 funext s;unfold Env.cut;split
 ·rfl
 ·rename_i h;exact(hm.fresh s (by omega)).symm
def Qfs(s:St)(ob col ty:Nat)(row:List Ty):Option St:=match s.H[ob]? with
 |none=>none
 |some o=>match J8 o with
  |none=>none
  |some q=>match Nat.beq q.2.2.length q.2.1 with
   |false=>none
   |true=>match q.2.2[col]? with
    |some (.pv (.lit v))=>match Value.isNil v with
     |true=>some {T:=s.T,H:=(s.H.set ob (.mix q.1 q.2.1 [q.2.2.set col (.sl s.H.length row.length 0 0)]))++[.tvec ty row []],n0:=s.n0,tch:=s.tch,fg:=s.fg,marks:=s.marks,er:=s.er}
     |false=>none
    |_=>none
theorem Znc{R:Option Nat}{P:Program}{nt:Nat}{c:Code}{Q:Exit→St→Prop}{s s':St}{ob col ty:Nat}{row:List Ty}(hs:Qfs s ob col ty row=some s')
  (h:Q7 R P nt c Q s'):Q7 R P nt c Q s:=by
 unfold Qfs at hs;split at hs
 ·cases hs
 ·rename_i o ho;split at hs
  ·cases hs
  ·rename_i q hq;split at hs
   ·cases hs
   ·rename_i hl;have hl:=Nat.eq_of_beq_eq_true hl;split at hs
    ·rename_i v hv;split at hs
     ·rename_i hn;cases hs;obtain⟨oty,sz,r⟩:=q;have hlt:ob<s.H.length:=(List.getElem?_eq_some_iff.1 ho).1;refine Q7.Qdj (fun B M ρ a w hg=>⟨ρ,?_,?_⟩) h
      all_goals
       obtain⟨g1,g2,g3,g4⟩:=Qbi (M:=M) (ρ:=ρ) (w:=w) (s:=ob) hq;obtain⟨m1,m2⟩:=hg.mem.virt (ty:=ty) (sz:=row.length);have n1:=m1.described (s:=s.H.length) (o:=.vec ty row.length []) (o':=.tvec ty row []) (by simp) rfl (fun h=>h);have n2:=m2.described (s:=s.H.length) (o:=.vec ty row.length []) (o':=.tvec ty row []) (by simp) rfl;have e1:(s.H++[Qa.vec ty row.length []]).set s.H.length (.tvec ty row [])=s.H++[.tvec ty row []]:=by simp
       rw[e1]at n1 n2;have hob:(s.H++[Qa.tvec ty row []])[ob]? =some o:=by rw[List.getElem?_append_left hlt];exact ho
       have hown:Qy M ρ w ob o→Qy M ρ w ob (.mix oty sz [r.set col (.sl s.H.length row.length 0 0)]):=fun h0=>by
        refine Qy.Qz2 rfl (by simpa using hl) (fun j y hy=>?_) (g4 h0);rw[List.getElem?_set]at hy;split at hy
        ·rename_i e;subst e;split at hy
         ·cases hy;refine .inr ⟨_,hv,fun u hu=>?_⟩;have:=hu.Q1;subst this;unfold Value.isNil at hn;split at hn
          ·simp only[Bool.and_eq_true]at hn;rw[Nat.eq_of_beq_eq_true hn.1,Nat.eq_of_beq_eq_true hn.2];exact .slz _ _ _ _
          ·cases hn
         ·cases hy
        ·exact .inr ⟨y,hy,fun u hu=>hu⟩
       have e2:(s.H++[Qa.tvec ty row []]).set ob (.mix oty sz [r.set col (.sl s.H.length row.length 0 0)])=(s.H.set ob (.mix oty sz [r.set col (.sl s.H.length row.length 0 0)]))++[.tvec ty row []]:=by rw[List.set_append_left _ _ hlt]
      ·have n3:=n1.described hob (o':=.mix oty sz [r.set col (.sl s.H.length row.length 0 0)]) g1.symm hown;rw[e2]at n3;refine⟨hg.tm,hg.sz,n3,hg.df,hg.mks,?_,hg.fix⟩;show s.n0≤((s.H.set ob (.mix oty sz [r.set col (.sl s.H.length row.length 0 0)]))++[Qa.tvec ty row []]).length;have:=hg.nle;simp;omega
      ·have n3:=n2.described hob (o':=.mix oty sz [r.set col (.sl s.H.length row.length 0 0)]) g1.symm;rw[e2]at n3;exact⟨n3.weaken (n':=s.n0) (t':=s.tch) (f':=s.fg) hg.nle (fun x _ h=>by cases h) (fun x _ h=>by cases h),rfl,fun _ h=>h,fun _ h=>h⟩
     ·cases hs
    ·cases hs
def Qfu(k ty:Nat)(row:List Ty)(s:St):Option St:=match s.H[k]? with
 |some (.vec ty' sz rows)=>match Nat.beq ty' ty&&Nat.beq sz row.length with
  |true=>match Xb (ofRow row) rows with
   |some l=>some {s with H:=s.H.set k (.tvec ty row l)}
   |none=>none
  |false=>none
 |_=>none
theorem Zds{R:Option Nat}{P:Program}{nt:Nat}{c:Code}{Q:Exit→St→Prop}{s s':St}{k ty:Nat}{row:List Ty}(hs:Qfu k ty row s=some s')(h:Q7 R P nt c Q s'):Q7 R P nt c Q s:=by
 unfold Qfu at hs;split at hs
 ·rename_i ty' sz rows ho;split at hs
  ·rename_i e;rw[Bool.and_eq_true]at e;have e1:=Nat.eq_of_beq_eq_true e.1;have e2:=Nat.eq_of_beq_eq_true e.2;subst e1;subst e2;split at hs
   ·rename_i l hl;cases hs;have hok:=Yt.of hl;refine Q7.Qdj (fun B M ρ a w hg=>⟨ρ,?_,?_⟩) h
    ·refine⟨hg.tm,hg.sz,hg.mem.described ho rfl (fun hh=>hh.Qde hok.1 hok.2),hg.df,hg.mks,by show s.n0≤(s.H.set k _).length;rw[List.length_set];exact hg.nle,hg.fix⟩
    ·exact⟨(Fr.refl M ρ s.H w s.n0 s.tch s.fg).described ho rfl,rfl,fun _ h=>h,fun _ h=>h⟩
   ·cases hs
  ·cases hs
 ·cases hs
theorem Qy.lnk{M:Qc}{ρ:Env}{w:World}{s ty:Nat}{row:List Ty}{l:List (Els row)}{r c:Nat}(h:Qy M ρ w s (.tvec ty row l)):Qy M ρ w s (.tlnk ty row l r c .any):=by
 rcases h with h|⟨p,h1,h2⟩
 ·exact .inl h
 ·refine .inr ⟨p,h1,?_⟩;obtain⟨cs,a1,a2,a3,a4,a5,a6⟩:=h2.ex;have key:∀i j x,Y1 row l r c .any i j=some x→∃y,Zj (Qu row l) i j=some y∧(x=.any∨x=y):=fun i j x hx=>by
   unfold Y1 at hx;simp only[Option.map_eq_some_iff]at hx;obtain⟨y,hy,rfl⟩:=hx;refine⟨y,hy,?_⟩;split
   ·exact .inl rfl
   ·exact .inr rfl
  refine⟨cs,a1,a2,a3,a4,fun i j x v hx hv=>?_,fun i j x hx=>?_⟩
  ·obtain⟨y,hy,e⟩:=key i j x hx;obtain⟨b1,b2,b3⟩:=a5 i j y v hy hv;refine⟨b1,b2,?_⟩;rcases e with rfl|rfl
   ·exact .any v
   ·exact b3
  ·obtain⟨y,hy,_⟩:=key i j x hx;exact a6 i j y hy
theorem Mem.Zt3{M:Qc}{ρ:Env}{H:List Qa}{w:World}{k ty:Nat}{row:List Ty}{l:List (Els row)}(hm:Mem M ρ H w)(ho:H[k]? =some (.tvec ty row l)):
  ∃M2,M.le M2∧Mem M2 ρ (H.set k .dead) w∧(∀n,Fr M ρ H w M2 ρ (H.set k .dead) w n [k] [])∧∀v,Qe M ρ v (.sl k row.length 0 l.length)→Q6 M2 v (.tsl row l):=by
 have hks:k<H.length:=(List.getElem?_eq_some_iff.1 ho).1;have hl:(Qa.tvec ty row l).live=true:=rfl;have hm1:=Mem.oneLive hm ho hl (hm.own k _ ho);have hle:=Qc.Y5 M ρ (Sx.oneLive H k (.tvec ty row l)) 0 w;have hget:(Sx.oneLive H k (.tvec ty row l))[k]? =some (.tvec ty row l):=by simp[Sx.oneLive,hks]
 have hnew:∀b ob,M b=none→M.Q9 ρ (Sx.oneLive H k (.tvec ty row l)) 0 w b=some ob→(∃p,ρ k=some p∧p.block=b)∧w.heap[b]? =some ob:=fun b ob h0 h1=>by
  obtain⟨⟨s2,o2,p2,q1,q2,q3,q4,q5⟩,q6⟩:=Qc.Xs h0 h1;rcases Qa5 q2 with⟨rfl,rfl⟩|⟨_,rfl⟩
  ·exact⟨⟨p2,q4,q5⟩,q6⟩
  ·cases q3
 have hslice:∀v,Qe M ρ v (.sl k row.length 0 l.length)→Q6 (M.Q9 ρ (Sx.oneLive H k (.tvec ty row l)) 0 w) v (.tsl row l):=fun v hr=>by
  refine Qef hm1 (Nat.zero_le _) hget rfl rfl (by simp[Qa.len]) rfl (fun i y hy=>?_) hr;have:(Qa.tvec ty row l).row (0+i)=(Q3 row y).map .pv:=by simp only[Qa.row,List.getD,Nat.zero_add,hy,Option.getD_some]
  rw[this];exact .self hle y
 generalize hM2:M.Q9 ρ (Sx.oneLive H k (.tvec ty row l)) 0 w=M2 at hle hnew hslice;have hobj:∀t x,(H.set k .dead)[t]? =some x→(t=k∧x=.dead)∨(t≠k∧H[t]? =some x):=fun t x hx=>by
  by_cases e:t=k
  ·subst e;rw[List.getElem?_set_self hks]at hx;cases hx;exact .inl ⟨rfl,rfl⟩
  ·rw[List.getElem?_set_ne (fun h=>e h.symm)]at hx;exact .inr ⟨e,hx⟩
 refine⟨M2,hle,⟨fun b ob hb=>?_,fun t x hx=>?_,fun t x p b hx hlx hp hb=>?_,fun t t' x x' p p' b hx hx' hlx hlx' hp hp' hbk hbk'=>?_,fun t ht=>hm.fresh t (by simpa using ht),fun t x p b hx hlx hp hb=>?_⟩,fun n=>⟨hle,fun b ob h0 h1=>?_,fun b hb=>?_,fun _ _ _=>rfl,Nat.le_refl _,fun t x ht hx hx2 hlx=>?_,fun _ _ _=>rfl,rfl,rfl⟩,hslice⟩
 ·cases e:M b with
  |some o'=>rw[hle b o' e]at hb;cases hb;exact hm.imm b _ e
  |none=>exact(hnew b ob e hb).2
 ·rcases hobj t x hx with⟨rfl,rfl⟩|⟨_,hy⟩
  ·trivial
  ·exact(hm.own t x hy).mono hle ρ.le_refl rfl fun _ _ _ _=>rfl
 ·rcases hobj t x hx with⟨rfl,rfl⟩|⟨hne,hy⟩
  ·cases hlx
  ·have h0:=hm.seps t x p b hy hlx hp hb;cases e:M2 b with
   |none=>rfl
   |some ob=>obtain⟨⟨p2,q1,q2⟩,_⟩:=hnew _ _ h0 e;exact absurd (hm.diss t k x _ p p2 b hy ho hlx hl hp q1 hb (.inl q2)) hne
 ·rcases hobj t x hx with⟨rfl,rfl⟩|⟨_,hy⟩
  ·cases hlx
  ·rcases hobj t' x' hx' with⟨rfl,rfl⟩|⟨_,hy'⟩
   ·cases hlx'
   ·exact hm.diss t t' x x' p p' b hy hy' hlx hlx' hp hp' hbk hbk'
 ·rcases hobj t x hx with⟨rfl,rfl⟩|⟨hne,hy⟩
  ·cases hlx
  ·exact hm.lts t x p b hy hlx hp hb
 ·obtain⟨⟨p,q1,q2⟩,_⟩:=hnew b ob h0 h1;exact .inr ⟨k,_,p,ho,hl,q1,.inl q2⟩
 ·obtain⟨t,x,p,h1,h2,h3,h4⟩:=hb;rcases hobj t x h1 with⟨rfl,rfl⟩|⟨_,hy⟩
  ·cases h2
  ·exact .inr ⟨t,x,p,hy,h2,h3,h4⟩
 ·have hne:t≠k:=fun e=>hx (by rw[e];exact List.mem_cons_self);exact⟨⟨x,by rw[List.getElem?_set_ne (fun h=>hne h.symm)];exact hx2,hlx⟩,fun p hp=>⟨hp,fun _ _=>rfl⟩⟩
def Qag(H:List Qa):SV→Option (SV×Nat×List Qa)
 |.sl k sz 0 n=>match H[k]? with
  |some (.tvec ty row l)=>match Nat.beq sz row.length with
   |true=>some (.pv (.tsl row l),k,H.set k .dead)
   |false=>none
  |_=>none
 |_=>none
def Qdv(H:List Qa):SV→Bool
 |.sl k sz 0 n=>match H[k]? with
  |some (.tvec ty row l)=>decide (n=l.length)
  |_=>true
 |_=>true
theorem Qxh{M:Qc}{ρ:Env}{H H':List Qa}{w:World}{x y:SV}{k:Nat}(hm:Mem M ρ H w)(h:Qag H x=some (y,k,H'))(hc:Qdv H x=true):
  H'.length=H.length∧∃M2,M.le M2∧Mem M2 ρ H' w∧(∀n,Fr M ρ H w M2 ρ H' w n [k] [])∧∀v,Qe M ρ v x→Qe M2 ρ v y:=by
 unfold Qag at h;unfold Qdv at hc;split at h
 ·rename_i k0 sz n;split at h
  ·rename_i ty row l ho;split at h
   ·rename_i e;have e:=Nat.eq_of_beq_eq_true e;subst e;cases h;simp only[ho,decide_eq_true_eq]at hc;subst hc;obtain⟨M2,h1,h2,h3,h4⟩:=hm.Zt3 ho;exact⟨by simp,M2,h1,h2,h3,fun v hv=>.pv (h4 v hv)⟩
   ·cases h
  ·cases h
 ·cases h
def Zqp:PV→Option Ty
 |.lit (.string _)=>some .str
 |.lit (.int k _)=>some (.int k)
 |.lit (.bool _)=>some .bool
 |.tsl row _=>some (.seq row)
 |_=>none
def Qw3(H:List Qa)(x:SV):List Ty:=match x with
 |.sl d _ _ _=>match H[d]? with
  |some (.vec _ _ (r::_))=>match Xb Zqp r with
   |some row=>row
   |none=>[]
  |_=>[]
 |_=>[]
def Vj(H:List Qa)(x:SV):List Qa:=asData H (Qw3 H x) x
theorem Qw4{M:Qc}{ρ:Env}{H:List Qa}{w:World}(hm:Mem M ρ H w)(x:SV):Mem M ρ (Vj H x) w∧(∀n,Fr M ρ H w M ρ (Vj H x) w n [] [])∧(Vj H x).length=H.length:=by obtain⟨m1,h,m3⟩:=Qh6 hm (Qw3 H x) x;exact⟨m1,fun n=>⟨h.imm,h.new,h.own,h.same,h.grow,fun s o _ ht ho hl=>h.keep s o (List.getElem?_eq_some_iff.1 ho).1 ht ho hl,fun _ _ _=>rfl,h.io⟩,m3⟩
def Jd:List SV→List Qa→Bool×List SV×List Nat×List Qa
 |[],H=>(true,[],[],H)
 |x::xs,H=>match Qag (Vj H x) x with
  |some q=>match Jd xs q.2.2 with
   |r=>(Qdv (Vj H x) x&&r.1,q.1::r.2.1,q.2.1::r.2.2.1,r.2.2.2)
  |none=>match Jd xs H with
   |r=>(r.1,x::r.2.1,r.2.2.1,r.2.2.2)
theorem Qmp:∀{args:List SV} {M:Qc} {ρ:Env} {H:List Qa} {w:World},Mem M ρ H w→(Jd args H).1=true→
  (Jd args H).2.2.2.length = H.length ∧ (Jd args H).2.1.length = args.length ∧ ∃ M2,M.le M2 ∧ Mem M2 ρ (Jd args H).2.2.2 w ∧ (∀ n,Fr M ρ H w M2 ρ (Jd args H).2.2.2 w n (Jd args H).2.2.1 []) ∧
   ∀(i:Nat) (v:Value) (x y:SV),args[i]? =some x→(Jd args H).2.1[i]? =some y→Qe M ρ v x→Qe M2 ρ v y
 |[],M,ρ,H,w,hm,hc=>⟨rfl,rfl,M,M.le_refl,hm,fun n=>Fr.refl ..,fun i v x y hx=>by simp at hx⟩
 |x::xs,M,ρ,H,w,hm,hc=>by
  cases hs:Qag (Vj H x) x with
  |some q=>
   obtain⟨y,k,H1⟩:=q;simp only[Jd,hs,Bool.and_eq_true]at hc⊢;obtain⟨m1,m2,m3⟩:=Qw4 hm x;obtain⟨e1,M1,a1,a2,a3',a4⟩:=Qxh m1 hs hc.1;have a3:∀n,Fr M ρ H w M1 ρ H1 w n [k] []:=fun n=>(m2 n).trans (a3' n) (fun z hz=>by cases hz) (fun z hz=>hz) (fun z hz=>by cases hz) (fun z hz=>by cases hz);obtain⟨e2,e3,M2,b1,b2,b3,b4⟩:=Qmp a2 hc.2;refine⟨e2.trans (e1.trans m3),by simp[e3],M2,Qc.le_trans a1 b1,b2,fun n=>(a3 n).trans (b3 n) (fun z hz=>?_) (fun z hz=>List.mem_cons_of_mem _ hz) (fun z hz=>by cases hz) (fun z hz=>hz),fun i v x' y' hx hy hv=>?_⟩
   ·rw[List.mem_singleton.1 hz];exact List.mem_cons_self
   ·cases i with
    |zero=>simp at hx hy;subst hx;subst hy;exact(a4 v hv).mono b1 ρ.le_refl
    |succ i=>exact b4 i v x' y' (by simpa using hx) (by simpa using hy) (hv.mono a1 ρ.le_refl)
  |none=>
   simp only[Jd,hs]at hc⊢;obtain⟨e2,e3,M2,b1,b2,b3,b4⟩:=Qmp (args:=xs) hm hc;refine⟨e2,by simp[e3],M2,b1,b2,b3,fun i v x' y' hx hy hv=>?_⟩;cases i with
   |zero=>simp at hx hy;subst hx;subst hy;exact hv.mono b1 ρ.le_refl
   |succ i=>exact b4 i v x' y' (by simpa using hx) (by simpa using hy) hv
def V0(x:SV)(H:List Qa):Bool×SV×List Nat×List Qa:=match Qag (Vj H x) x with
 |some q=>(Qdv (Vj H x) x,q.1,[q.2.1],q.2.2)
 |none=>(true,x,[],H)
theorem Zsb{x:SV}{M:Qc}{ρ:Env}{H:List Qa}{w:World}(hm:Mem M ρ H w)(hc:(V0 x H).1=true):
  (V0 x H).2.2.2.length=H.length∧∃M2,M.le M2∧Mem M2 ρ (V0 x H).2.2.2 w∧(∀n,Fr M ρ H w M2 ρ (V0 x H).2.2.2 w n (V0 x H).2.2.1 [])∧∀v,Qe M ρ v x→Qe M2 ρ v (V0 x H).2.1:=by
 unfold V0 at hc⊢;cases hs:Qag (Vj H x) x with
 |some q=>obtain⟨y,k,H1⟩:=q;simp only[hs]at hc⊢;obtain⟨m1,m2,m3⟩:=Qw4 hm x;obtain⟨e1,M1,a1,a2,a3,a4⟩:=Qxh m1 hs hc;exact⟨e1.trans m3,M1,a1,a2,fun n=>(m2 n).trans (a3 n) (fun z hz=>by cases hz) (fun z hz=>hz) (fun z hz=>by cases hz) (fun z hz=>by cases hz),a4⟩
 |none=>exact⟨rfl,M,M.le_refl,hm,fun n=>Fr.refl ..,fun v hv=>hv⟩
def V4(x:SV)(H:List Qa):Bool×SV×List Nat×List Qa:=match x with
 |.agg l=>match Jd l H with
  |r=>(r.1,.agg r.2.1,r.2.2.1,r.2.2.2)
 |x=>V0 x H
theorem Zku{x:SV}{M:Qc}{ρ:Env}{H:List Qa}{w:World}(hm:Mem M ρ H w)(hc:(V4 x H).1=true):
  (V4 x H).2.2.2.length=H.length∧∃M2,M.le M2∧Mem M2 ρ (V4 x H).2.2.2 w∧(∀n,Fr M ρ H w M2 ρ (V4 x H).2.2.2 w n (V4 x H).2.2.1 [])∧∀v,Qe M ρ v x→Qe M2 ρ v (V4 x H).2.1:=by
 unfold V4 at hc⊢;split at hc
 ·rename_i l;obtain⟨e1,e2,M2,b1,b2,b3,b4⟩:=Qmp hm hc;refine⟨e1,M2,b1,b2,b3,fun v hv=>?_⟩;cases hv with
  |agg cs _ hl h=>
   refine .agg cs _ (by rw[hl,e2]) fun i v y hv hy=>?_;obtain⟨x,hx⟩:∃x,l[i]? =some x:=by
    have:i<l.length:=by rw[←e2];exact(List.getElem?_eq_some_iff.1 hy).1
    exact⟨_,List.getElem?_eq_getElem this⟩
   exact b4 i v x y hx hy (h i v x hv hx)
 ·exact Zsb hm hc
def Yj:List SV→List Qa→Bool×List SV×List Nat×List Qa
 |[],H=>(true,[],[],H)
 |x::xs,H=>match V4 x H with
  |q=>match Yj xs q.2.2.2 with
   |r=>(q.1&&r.1,q.2.1::r.2.1,q.2.2.1++r.2.2.1,r.2.2.2)
theorem Qv3:∀{args:List SV} {M:Qc} {ρ:Env} {H:List Qa} {w:World},Mem M ρ H w→(Yj args H).1=true→
  (Yj args H).2.2.2.length = H.length ∧ (Yj args H).2.1.length = args.length ∧ ∃ M2,M.le M2 ∧ Mem M2 ρ (Yj args H).2.2.2 w ∧ (∀ n,Fr M ρ H w M2 ρ (Yj args H).2.2.2 w n (Yj args H).2.2.1 []) ∧
   ∀(i:Nat) (v:Value) (x y:SV),args[i]? =some x→(Yj args H).2.1[i]? =some y→Qe M ρ v x→Qe M2 ρ v y
 |[],M,ρ,H,w,hm,hc=>⟨rfl,rfl,M,M.le_refl,hm,fun n=>Fr.refl ..,fun i v x y hx=>by simp at hx⟩
 |x::xs,M,ρ,H,w,hm,hc=>by
  simp only[Yj,Bool.and_eq_true]at hc⊢;obtain⟨e1,M1,a1,a2,a3,a4⟩:=Zku hm hc.1;obtain⟨e2,e3,M2,b1,b2,b3,b4⟩:=Qv3 a2 hc.2;refine⟨e2.trans e1,by simp[e3],M2,Qc.le_trans a1 b1,b2,fun n=>(a3 n).trans (b3 n) (fun z hz=>List.mem_append_left _ hz) (fun z hz=>List.mem_append_right _ hz) (fun z hz=>by cases hz) (fun z hz=>hz),fun i v x' y' hx hy hv=>?_⟩;cases i with
  |zero=>simp at hx hy;subst hx;subst hy;exact(a4 v hv).mono b1 ρ.le_refl
  |succ i=>exact b4 i v x' y' (by simpa using hx) (by simpa using hy) (hv.mono a1 ρ.le_refl)
theorem Z2.Zty{P:Program}{g:Nat}{args:List SV}{H:List Qa}{K:Qr}(hc:(Yj args H).1=true)
  (h:Z2 P g (Yj args H).2.1 (Yj args H).2.2.2 fun r H' t f=>K r H' ((Yj args H).2.2.1++t) f):Z2 P g args H K:=by
 intro M ρ w vs hm hr;obtain⟨e1,e2,M2,b1,b2,b3,b4⟩:=Qv3 hm hc;refine(h M2 ρ w vs b2 ⟨by rw[hr.1,e2],fun i v y hv hy=>?_⟩).mono ?_
 ·obtain⟨x,hx⟩:∃x,args[i]? =some x:=by
   have:i<args.length:=by rw[←e2];exact(List.getElem?_eq_some_iff.1 hy).1
   exact⟨_,List.getElem?_eq_getElem this⟩
  exact b4 i v x y hx hy (hr.2 i v x hv hx)
 ·rintro e w' ⟨v,r,H',M',ρ',t,f,he,hk,hs,hm',hf⟩
  rw[e1]at hf;exact⟨v,r,H',M',ρ',_,f,he,hk,hs,hm',(b3 _).trans hf (fun z hz=>List.mem_append_left _ hz) (fun z hz=>List.mem_append_right _ hz) (fun z hz=>by cases hz) (fun z hz=>hz)⟩
end Go.Sx
section
namespace Go.Sx
open Go
mutual
def SV.Zc(f:Nat→Option Nat):SV→SV
 |.ptr s sz i j=>match f s with
  |some t=>.ptr t sz i j
  |none=>.any
 |.sl s sz st n=>match f s with
  |some t=>.sl t sz st n
  |none=>.any
 |.mp s=>match f s with
  |some t=>.mp t
  |none=>.any
 |.yld s=>match f s with
  |some t=>.yld t
  |none=>.any
 |.slb s sz st n m=>match f s with
  |some t=>.slb t sz st n m
  |none=>.any
 |.agg l=>.agg (J0 f l)
 |.tup l=>.tup (J0 f l)
 |.fn g a b=>.fn g (J0 f a) (J0 f b)
 |.any=>.any
 |.pv p=>.pv p
def J0(f:Nat→Option Nat):List SV→List SV
 |[]=>[]
 |x::xs=>x.Zc f::J0 f xs
end
theorem Qfr(f:Nat→Option Nat)(l:List SV):J0 f l=l.map (SV.Zc f):=by
 induction l with
 |nil=>rfl
 |cons x xs ih=>simp only[J0,List.map_cons,ih]
theorem Qe.Zc{M M':Qc}{ρ ρ':Env}{f:Nat→Option Nat}(hM:M.le M')(hf:∀s t p,f s=some t→ρ s=some p→ρ' t=some p){v:Value}{x:SV}(h:Qe M ρ v x):Qe M' ρ' v (x.Zc f):=by
 induction h with
 |any v=>exact .any v
 |pv h=>exact .pv (h.mono hM)
 |agg cs l hl _ ih=>simp only[SV.Zc,Qfr];refine .agg cs _ (by simpa using hl) fun i v x hv hx=>?_;simp only[List.getElem?_map,Option.map_eq_some_iff]at hx;obtain⟨y,hy,rfl⟩:=hx;exact ih i v y hv hy
 |tup cs l hl _ ih=>simp only[SV.Zc,Qfr];refine .tup cs _ (by simpa using hl) fun i v x hv hx=>?_;simp only[List.getElem?_map,Option.map_eq_some_iff]at hx;obtain⟨y,hy,rfl⟩:=hx;exact ih i v y hv hy
 |ptr s sz i j k p hp hk=>
  simp only[SV.Zc];split
  ·rename_i t ht;exact .ptr t sz i j k p (hf s t p ht hp) hk
  ·exact .any _
 |sl s sz st n c k p hp hk hc hn h6=>
  simp only[SV.Zc];split
  ·rename_i t ht;exact .sl t sz st n c k p (hf s t p ht hp) hk hc hn h6
  ·exact .any _
 |slz s sz st a=>
  simp only[SV.Zc];split
  ·exact .slz _ sz st a
  ·exact .any _
 |mp s p hp=>
  simp only[SV.Zc];split
  ·rename_i t ht;exact .mp t p (hf s t p ht hp)
  ·exact .any _
 |yld s p hp=>
  simp only[SV.Zc];split
  ·rename_i t ht;exact .yld t p (hf s t p ht hp)
  ·exact .any _
 |slb s sz st n m _ hm ih=>
  simp only[SV.Zc]at ih⊢;cases e:f s with
  |some t=>rw[e]at ih;exact .slb t sz st n m ih hm
  |none=>exact .any _
 |fn g a b x y ha hb _ _ ih jh=>
  simp only[SV.Zc,Qfr];refine .fn g a b _ _ (by simpa using ha) (by simpa using hb) (fun i v s hv hs=>?_) (fun i v s hv hs=>?_)
  ·simp only[List.getElem?_map,Option.map_eq_some_iff]at hs;obtain⟨y,hy,rfl⟩:=hs;exact ih i v y hv hy
  ·simp only[List.getElem?_map,Option.map_eq_some_iff]at hs;obtain⟨y,hy,rfl⟩:=hs;exact jh i v y hv hy
def Qa.Zc(f:Nat→Option Nat):Qa→Qa
 |.mix ty sz rows=>.mix ty sz (rows.map (·.map (SV.Zc f)))
 |.tlnk ty row l r c x=>.tlnk ty row l r c (x.Zc f)
 |.nest ty ity row ll q=>.nest ty ity row ll (q.map fun x=>(x.1,x.2.Zc f))
 |.map es c=>.map (es.map fun e=>(e.1,e.2.1.Zc f,e.2.2)) c
 |.loop l=>.loop {l with T:=l.T.map (SV.Zc f)}
 |.mit m c s=>.mit (m.bind f) c s
 |o=>o
theorem Jt(f:Nat→Option Nat)(o:Qa):(o.Zc f).live=o.live:=by cases o<;>rfl
theorem Qk.Ztz(f:Nat→Option Nat):∀(a:Qk) (x:a.El),(a.raw x).Zc f=a.raw x
 |.val t,x=>rfl
 |.agg row,x=>by
  have:∀l:List PV,J0 f (l.map .pv)=l.map .pv:=fun l=>by
   induction l with
   |nil=>rfl
   |cons x l ih=>simp only[List.map_cons,J0,SV.Zc,ih]
  simp only[Qk.raw,SV.Zc,this]
theorem Qy.Zc{M M':Qc}{ρ ρ':Env}{w w':World}{s t:Nat}{f:Nat→Option Nat}{o:Qa}(hM:M.le M')(hf:∀s t p,f s=some t→ρ s=some p→ρ' t=some p)(hs:ρ' t=ρ s)
  (hw:∀p b,ρ s=some p→p.has b→w'.heap[b]? =w.heap[b]?) (h:Qy M ρ w s o):Qy M' ρ' w' t (o.Zc f):=by
 have hws:=hw;replace hw:∀p,ρ s=some p→w'.heap[p.block]? =w.heap[p.block]? :=fun p hp=>hws p _ hp p.self;cases o with
 |dead=>trivial
 |vec ty sz rows=>
  rcases h with⟨h1,h2⟩|⟨p,h1,h2⟩
  ·exact .inl ⟨hs.trans h1,h2⟩
  ·refine .inr ⟨p,hs.trans h1,?_⟩;obtain⟨cs,a1,a2,a3,a4,a5,a6⟩:=h2.ex;refine⟨cs,(hw p h1).trans a1,a2,a3,a4,fun i j x v hx hv=>?_,a6⟩;obtain⟨b1,b2,b3⟩:=a5 i j x v hx hv;refine⟨b1,b2,?_⟩;unfold Zj at hx;simp only[Option.map_eq_some_iff]at hx;obtain⟨q,_,rfl⟩:=hx;cases b3 with
   |pv b3=>exact .pv (b3.mono hM)
 |tvec ty row l=>
  rcases h with⟨h1,h2⟩|⟨p,h1,h2⟩
  ·exact .inl ⟨hs.trans h1,h2⟩
  ·refine .inr ⟨p,hs.trans h1,?_⟩;obtain⟨cs,a1,a2,a3,a4,a5,a6⟩:=h2.ex;refine⟨cs,(hw p h1).trans a1,a2,a3,a4,fun i j x v hx hv=>?_,a6⟩;obtain⟨b1,b2,b3⟩:=a5 i j x v hx hv;refine⟨b1,b2,?_⟩;unfold Zj at hx;simp only[Option.map_eq_some_iff]at hx;obtain⟨q,_,rfl⟩:=hx;cases b3 with
   |pv b3=>exact .pv (b3.mono hM)
 |mix ty sz rows=>
  rcases h with⟨h1,h2⟩|⟨p,h1,h2⟩
  ·exact .inl ⟨hs.trans h1,by simp[h2]⟩
  ·refine .inr ⟨p,hs.trans h1,?_⟩;obtain⟨cs,a1,a2,a3,a4,a5,a6⟩:=h2.ex;have key:∀i j x,Yg (rows.map (·.map (SV.Zc f))) i j=some x→∃y,Yg rows i j=some y∧x=y.Zc f:=fun i j x hx=>by unfold Yg at hx;simp only[List.getElem?_map,Option.bind_eq_some_iff,Option.map_eq_some_iff]at hx;obtain⟨r',⟨r,hr,rfl⟩,hx⟩:=hx;simp only[List.getElem?_map,Option.map_eq_some_iff]at hx;obtain⟨y,hy,rfl⟩:=hx;exact⟨y,by simp[Yg,hr,hy],rfl⟩
   refine⟨cs,(hw p h1).trans a1,a2,by simpa using a3,by simpa using a4,fun i j x v hx hv=>?_,fun i j x hx=>?_⟩
   ·obtain⟨y,hy,rfl⟩:=key i j x hx;obtain⟨b1,b2,b3⟩:=a5 i j y v hy hv;exact⟨by simpa using b1,b2,b3.Zc hM hf⟩
   ·obtain⟨y,hy,rfl⟩:=key i j x hx;simpa using a6 i j y hy
 |tlnk ty row l r c x=>
  rcases h with⟨h1,h2⟩|⟨p,h1,h2⟩
  ·exact .inl ⟨hs.trans h1,h2⟩
  ·refine .inr ⟨p,hs.trans h1,?_⟩;obtain⟨cs,a1,a2,a3,a4,a5,a6⟩:=h2.ex;refine⟨cs,(hw p h1).trans a1,a2,a3,a4,fun i j z v hz hv=>?_,fun i j z hz=>?_⟩
   ·obtain⟨y,hy,rfl,_⟩:=Qtq (f:=SV.Zc f) (fun _=>rfl) hz;obtain⟨b1,b2,b3⟩:=a5 i j y v hy hv;exact⟨b1,b2,b3.Zc hM hf⟩
   ·obtain⟨y,hy,_⟩:=Qtq (f:=SV.Zc f) (fun _=>rfl) hz;exact a6 i j y hy
 |nest ty ity row ll q=>
  rcases h with⟨h1,h2,h3⟩|⟨p,h1,h2⟩
  ·subst h3;exact .inl ⟨hs.trans h1,h2,rfl⟩
  refine .inr ⟨p,hs.trans h1,h2.goes hM rfl rfl rfl (fun b hb=>hws p b h1 hb) (by cases q<;>rfl) fun i x y v e1 e2 hr=>?_⟩;rw[e1]at e2;simp only[Option.map_some,Option.some.injEq,Prod.mk.injEq,true_and]at e2;subst e2;exact hr.Zc hM hf
 |map es clock=>obtain⟨p,arr,h1,h2,h3,h4⟩:=h;refine⟨p,arr,hs.trans h1,(hw p h1).trans h2,by simpa using h3,fun i k x b hi=>?_⟩;simp only[List.getElem?_map,Option.map_eq_some_iff]at hi;obtain⟨⟨k',x',b'⟩,he,hq⟩:=hi;simp only[Prod.mk.injEq]at hq;obtain⟨rfl,rfl,rfl⟩:=hq;obtain⟨e,c1,c2,c3,c4⟩:=h4 i k' x' b' he;exact⟨e,c1,c2,c3,c4.Zc hM hf⟩
 |tmap k v l=>obtain⟨p,arr,h1,h2,h3,h4⟩:=h;refine⟨p,arr,hs.trans h1,(hw p h1).trans h2,h3,fun i kk x b hi=>?_⟩;obtain⟨e,c1,c2,c3,c4⟩:=h4 i kk x b hi;refine⟨e,c1,c2,c3,?_⟩;have:=c4.Zc hM hf;rw[Ji]at hi;simp only[Option.map_eq_some_iff,Prod.mk.injEq]at hi;obtain⟨y,_,_,rfl,_⟩:=hi;rwa[Qk.Ztz]at this
 |iter str pos=>obtain⟨p,h1,h2⟩:=h;exact⟨p,hs.trans h1,(hw p h1).trans h2⟩
 |loop l=>obtain⟨p,fn,tmps,q,h1,h2,h3,h4⟩:=h;refine⟨p,fn,tmps,q,hs.trans h1,(hw p h1).trans h2,h3,fun t x hx=>?_⟩;rw[TT.get_map,Option.map_eq_some_iff]at hx;obtain⟨y,hy,rfl⟩:=hx;exact(h4 t y hy).Zc hM hf
 |mit m c sn=>
  obtain⟨p,q,sn,h1,h2,h3,h4⟩:=h;refine⟨p,q,sn,hs.trans h1,(hw p h1).trans h2,h3,fun mm e=>?_⟩;cases m with
  |none=>cases e
  |some x=>have e:f x=some mm:=e;obtain⟨pm,a,b⟩:=h4 x rfl;exact⟨pm,hf x mm pm e a,b⟩
 |over st pd=>obtain⟨p,r,h1,h2,h3⟩:=h;exact⟨p,r,hs.trans h1,(hw p h1).trans h2,h3⟩
 |dfr shut=>obtain⟨p,h1,h2⟩:=h;exact⟨p,hs.trans h1,(hw p h1).trans h2⟩
def Ws:List Nat→Nat→Nat→Option Nat
 |[],_,_=>none
 |a::l,i,s=>match Nat.beq a s with
  |true=>some i
  |false=>Ws l (i+1) s
theorem Qtw:∀{l:List Nat} {i s t:Nat},Ws l i s=some t→i≤t∧l[t-i]? =some s
 |a::l,i,s,t,h=>by
  unfold Ws at h;split at h
  ·rename_i e;cases h;rw[Nat.eq_of_beq_eq_true e];simp
  ·obtain⟨h1,h2⟩:=Qtw h;refine⟨by omega,?_⟩;rw[show t-i=(t-(i+1))+1 by omega,List.getElem?_cons_succ];exact h2
def Qhr(σ:List Nat)(n n0:Nat):Bool:=Nat.beq σ.length n&&decide σ.Nodup
def Qca(σ:List Nat)(n0:Nat):List Nat:=(List.range n0).filter fun i=>match σ[i]? with
 |some o=>!Nat.beq o i
 |none=>true
theorem Zpf{σ:List Nat}{n0 i:Nat}(hi:i<n0)(h:i∉Qca σ n0):σ[i]? =some i:=by
 unfold Qca at h;rw[List.mem_filter,List.mem_range]at h;split at h
 ·rename_i o e;rw[e];cases hb:Nat.beq o i with
  |true=>rw[Nat.eq_of_beq_eq_true hb]
  |false=>rw[hb]at h;exact absurd ⟨hi,rfl⟩ h
 ·exact absurd ⟨hi,rfl⟩ h
def Qle(σ:List Nat)(s:St):St:=
 {T:=s.T.map (SV.Zc (Ws σ 0)),H:=σ.map fun o=>match s.H[o]? with
   |some x=>x.Zc (Ws σ 0)
   |none=>.dead,n0:=s.n0,tch:=Qca σ s.n0++s.tch,fg:=Qca σ s.n0++s.fg,marks:=s.marks,er:=s.er}
theorem Ze1{R:Option Nat}{P:Program}{nt:Nat}{c:Code}{Q:Exit→St→Prop}{s:St}{σ:List Nat}(hm:s.marks=[])(hσ:Qhr σ s.H.length s.n0=true)(h:Q7 R P nt c Q (Qle σ s)):Q7 R P nt c Q s:=by
 simp only[Qhr,Bool.and_eq_true,decide_eq_true_eq]at hσ;obtain⟨h1,h2⟩:=hσ;have h1:σ.length=s.H.length:=Nat.eq_of_beq_eq_true h1;have h3:∀i,i<s.n0→i∉Qca σ s.n0→σ[i]? =some i:=fun i hi hx=>Zpf hi hx;refine Q7.Qdj (fun B M ρ a w hg=>⟨fun t=>match σ[t]? with
  |some o=>ρ o
  |none=>none,?_,?_⟩) h
 all_goals
  have hat:∀t o:Nat,σ[t]? =some o→(match σ[t]? with
   |some o=>ρ o
   |none=>none)=ρ o:=fun t o e=>by rw[e]
  have hf:∀(s' t:Nat) (p:Place),Ws σ 0 s'=some t→ρ s'=some p→(match σ[t]? with
   |some o=>ρ o
   |none=>none)=some p:=fun s' t p e hp=>by
   have:=(Qtw e).2;rw[Nat.sub_zero]at this;rw[this];exact hp
  have hobj:∀(t:Nat) (x:Qa),(σ.map fun o=>match s.H[o]? with
   |some x=>x.Zc (Ws σ 0)
   |none=>.dead)[t]? =some x→∃o,σ[t]? =some o∧(x=.dead∨∃y,s.H[o]? =some y∧x=y.Zc (Ws σ 0)):=fun t x hx=>by
   rw[List.getElem?_map,Option.map_eq_some_iff]at hx;obtain⟨o,ho,hx⟩:=hx;refine⟨o,ho,?_⟩;split at hx
   ·rename_i y hy;exact .inr ⟨y,hy,hx.symm⟩
   ·exact .inl hx.symm
  have hm':=hg.mem
 ·refine⟨fun t x hx=>?_,hg.sz,⟨hm'.imm,fun t x hx=>?_,fun t x p b hx hl hp hb=>?_,fun t t' x x' p p' b hx hx' hl hl' hp hp' hb hb'=>?_,fun t ht=>?_,fun t x p b hx hl hp hb=>?_⟩,?_,fun m hmm=>?_,?_,hg.fix⟩
  ·have hx:(s.T.map (SV.Zc (Ws σ 0))).get t=some x:=hx;rw[TT.get_map,Option.map_eq_some_iff]at hx;obtain⟨y,hy,rfl⟩:=hx;exact(hg.tm t y hy).Zc M.le_refl hf
  ·obtain⟨o,ho,hx⟩:=hobj t x hx;rcases hx with rfl|⟨y,hy,rfl⟩
   ·trivial
   ·exact(hm'.own o y hy).Zc M.le_refl hf (hat t o ho) fun _ _ _ _=>rfl
  ·obtain⟨o,ho,hx⟩:=hobj t x hx;rcases hx with rfl|⟨y,hy,rfl⟩
   ·cases hl
   ·rw[Jt]at hl;exact hm'.seps o y p b hy hl ((hat t o ho).symm.trans hp) hb
  ·obtain⟨o,ho,hx⟩:=hobj t x hx;obtain⟨o',ho',hx'⟩:=hobj t' x' hx';rcases hx with rfl|⟨y,hy,rfl⟩
   ·cases hl
   ·rcases hx' with rfl|⟨y',hy',rfl⟩
    ·cases hl'
    ·rw[Jt]at hl hl';have:=hm'.diss o o' y y' p p' b hy hy' hl hl' ((hat t o ho).symm.trans hp) ((hat t' o' ho').symm.trans hp') hb hb';subst this;obtain⟨a1,a2⟩:=List.getElem?_eq_some_iff.1 ho;obtain⟨b1,b2⟩:=List.getElem?_eq_some_iff.1 ho';exact(List.getElem_inj (h₀:=a1) (h₁:=b1) h2).1 (a2.trans b2.symm)
  ·have ht:σ.length≤t:=by simpa[Qle]using ht
   rw[List.getElem?_eq_none ht]
  ·obtain⟨o,ho,hx⟩:=hobj t x hx;rcases hx with rfl|⟨y,hy,rfl⟩
   ·cases hl
   ·rw[Jt]at hl;exact hm'.lts o y p b hy hl ((hat t o ho).symm.trans hp) hb
  ·have:=hg.df;rw[hm]at this;show Qap _ s.marks _;rw[hm];exact⟨this.1,fun i d q _ hq=>by simp at hq⟩
  ·have hmm:m∈s.marks:=hmm;rw[hm]at hmm;cases hmm
  ·show s.n0≤(σ.map _).length;rw[List.length_map,h1];exact hg.nle
 ·refine⟨⟨M.le_refl,fun b o e e'=>(by rw[e]at e';cases e'),fun b hb=>?_,fun _ _ _=>rfl,Nat.le_refl _,fun i o hi hx ho hl=>?_,fun i hi hx=>?_,rfl,rfl⟩,rfl,fun _ h=>List.mem_append_right _ h,fun _ h=>List.mem_append_right _ h⟩
  ·obtain⟨t,x,p,hx,hl,hp,hb⟩:=hb;obtain⟨o,ho,hx⟩:=hobj t x hx;rcases hx with rfl|⟨y,hy,rfl⟩
   ·cases hl
   ·rw[Jt]at hl;exact .inr ⟨o,y,p,hy,hl,(hat t o ho).symm.trans hp,hb⟩
  ·refine⟨⟨o.Zc (Ws σ 0),?_,by rw[Jt];exact hl⟩,fun p hp=>?_⟩
   ·show(σ.map _)[i]? =_;rw[List.getElem?_map,(h3 i hi fun hy=>hx (List.mem_append_left _ hy))];simp[ho]
   ·rw[hat i i ((h3 i hi fun hy=>hx (List.mem_append_left _ hy)))]
    first|exact hp|exact⟨hp,fun _ _=>rfl⟩|simp_all
  ·exact hat i i ((h3 i hi fun hy=>hx (List.mem_append_left _ hy)))
def Qaz(T:TT):List Nat→List Nat
 |[]=>[]
 |t::l=>match T.get t with
  |some (.ptr k _ _ _)=>k::Qaz T l
  |some (.sl k _ _ _)=>k::Qaz T l
  |_=>Qaz T l
def Qri(slots:List Nat)(s:St):List Nat:=((List.range s.H.length).filter fun i=>!(Qaz s.T slots).contains i)++Qaz s.T slots
def Qy2(slots:List Nat)(s:St):List Nat:=match slots with
 |[k,t]=>match Nat.ble 10000 k with
  |true=>match Qaz s.T [t]with
   |[o]=>(List.range s.H.length).map fun i=>bif Nat.beq i (k-10000)then o else bif Nat.beq i o then k-10000 else i
   |_=>List.range s.H.length
  |false=>Qri slots s
 |_=>Qri slots s
end Go.Sx
end
section
namespace Go.Sx
open Go
theorem Qe.sim{M M':Qc}{ρ ρ':Env}(hM:M.le M')(hρ:Env.Qa7 [] ρ ρ'){v:Value}{x:SV}(h:Qe M ρ v x):Qe M' ρ' v x:=by have:=h.J2 hM hρ;rwa[SV.Jk]at this
theorem Qy.sim{M M':Qc}{ρ ρ':Env}{w:World}{s:Nat}{o:Qa}(hM:M.le M')(hρ:Env.Qa7 [] ρ ρ')(hs:ρ' s=ρ s)(h:Qy M ρ w s o):Qy M' ρ' w s o:=by have:=h.J2 hM hρ hs (fun _ _ _ _=>rfl);rwa[Qa.Jk]at this
theorem X0.pure{M M':Qc}{ρ ρ':Env}{w:World}{p:Place}{ty sz n:Nat}{rows:List (List PV)}{subs:List Nat}(hM:M.le M')(h:X0 M ρ w p ty sz n (Zj rows)):X0 M' ρ' w ⟨p.block,p.cap,subs⟩ ty sz n (Zj rows):=by
 obtain⟨cs,a1,a2,a3,a4,a5,a6⟩:=h.ex;refine⟨cs,a1,a2,a3,a4,fun i j x v hx hv=>?_,a6⟩;obtain⟨b1,b2,b3⟩:=a5 i j x v hx hv;refine⟨b1,b2,?_⟩;unfold Zj at hx;simp only[Option.map_eq_some_iff]at hx;obtain⟨q,_,rfl⟩:=hx;cases b3 with
 |pv b3=>exact .pv (b3.mono hM)
theorem Qap.sim{ρ ρ':Env}{marks:List Nat}{ds:List Deferred}(hρ:Env.Qa7 [] ρ ρ')(h:Qap ρ marks ds):Qap ρ' marks ds:=
 ⟨h.1,fun i d s hd hs=>let⟨p,h1,h2⟩:=h.2 i d s hd hs;let⟨p',g1,g2,_⟩:=hρ s p rfl h1;⟨p',g1,by rw[g2];exact h2⟩⟩
open Classical in
def TI.Zt1(b:Bool)(i:TI):TI:={i with row:=match b with
 |true=>none
 |false=>i.row}
def Cx.raw(e:Nat)(cx:Cx):Cx:={P:=cx.P,tab:=cx.tab.map fun x=>(x.1,x.2.Zt1 (Nat.beq x.1 e)),fns:=cx.fns}
def Qej(slot:Nat)(s:St):Option St:=match s.T.get slot with
 |some (.sl d sz st n)=>some {s with T:=s.T.set slot (.slb d sz st n n)}
 |_=>none
def Qf2(slot:Nat)(s:St):Option St:=match s.T.get slot with
 |some (.slb d sz st n _)=>some {s with T:=s.T.set slot (.sl d sz st n)}
 |_=>none
theorem Qvl{R:Option Nat}{P:Program}{nt:Nat}{c:Code}{Q:Exit→St→Prop}{s:St}{slot:Nat}{x y:SV}(hx:s.T.get slot=some x)(hi:∀M ρ v,Qe M ρ v x→Qe M ρ v y)(h:Q7 R P nt c Q {s with T:=s.T.set slot y}):Q7 R P nt c Q s:=by
 refine Q7.Qdj (s':={s with T:=s.T.set slot y}) (fun B M ρ a w hg=>⟨ρ,⟨fun t z hz=>?_,hg.sz,hg.mem,hg.df,hg.mks,hg.nle,hg.fix⟩,⟨Fr.refl ..,rfl,fun _ h=>h,fun _ h=>h⟩⟩) h;rcases TT.Jl _ _ _ _ _ hz with⟨rfl,rfl⟩|⟨_,hz⟩
 ·exact hi _ _ _ (hg.tm _ _ hx)
 ·exact hg.tm t z hz
theorem Zl2{R:Option Nat}{P:Program}{nt:Nat}{c:Code}{Q:Exit→St→Prop}{s s':St}{slot:Nat}(hs:Qej slot s=some s')(h:Q7 R P nt c Q s'):Q7 R P nt c Q s:=by
 unfold Qej at hs;split at hs
 ·rename_i d sz st n hx;cases hs;refine Qvl hx (fun M ρ v hr=>?_) h;refine .slb _ _ _ _ _ hr ?_;cases hr with
  |sl _ _ _ _ c k p hp hk hc hn h6=>exact⟨_,_,_,rfl,hn⟩
  |slz=>exact⟨_,_,_,rfl,Nat.le_refl _⟩
 ·cases hs
theorem Zaf{R:Option Nat}{P:Program}{nt:Nat}{c:Code}{Q:Exit→St→Prop}{s s':St}{slot:Nat}(hs:Qf2 slot s=some s')(h:Q7 R P nt c Q s'):Q7 R P nt c Q s:=by
 unfold Qf2 at hs;split at hs
 ·rename_i d sz st n m hx;cases hs;exact Qvl hx (fun M ρ v hr=>hr.unslb) h
 ·cases hs
end Go.Sx
end
namespace Go.Sx
open Go
theorem set_self{α:Type}{r:List α}{j:Nat}{z:α}(h:r[j]? =some z):r.set j z=r:=by
 apply List.ext_getElem?;intro i;rw[List.getElem?_set];split
 ·rename_i e;subst e;rw[h,if_pos (List.getElem?_eq_some_iff.1 h).1]
 ·rfl
end Go.Sx
section
namespace Go.Sx
open Go
end Go.Sx
end
section
namespace Go.Sx
open Go
inductive Ze where
 |leaf
 |one (a:Ze)
 |two (a b:Ze)
 |loop (τ:Q4) (l:Yc) (f:Z1) (F:Nat) (a:Ze)
 |join (l:Yc) (f:Z1) (a:Ze)
 |virt (slot ty:Nat) (row:List Ty) (a:Ze)
 |within (l:List (Nat×Ze))
 |virtF (ob col ty:Nat) (row:List Ty) (a:Ze)
 |typ (k ty:Nat) (row:List Ty) (a:Ze)
 |phase (τ:Q4) (l:Yc) (f:Z1) (F:Nat) (a b:Ze)
 |norm (slots:List Nat) (a:Ze)
 |low
 |slb (slot:Nat) (a:Ze)
 |unslb (slot:Nat) (a:Ze)
def Ze.fst:Ze→Ze
 |.one a=>a
 |.two a _=>a
 |_=>.leaf
def Ze.snd:Ze→Ze
 |.two _ b=>b
 |_=>.leaf
structure Sm where
 pre:List SV→List Qa→Bool
 run:(X:Type)→List SV→List Qa→KO X→Option X
structure Yr (cx:Cx) (g:Nat) (sm:Sm):Prop where
 fn:∃fn,cx.fns.lookup g=some fn
 ok:∀(X:Type) (args:List SV) (H:List Qa) (k:KO X) (y:X),sm.run X args H k=some y→Z2 cx.P g args H fun x H' t f=>k x H' t f=some y
structure Lx where
 ext:List (Nat×Sm)
 anns:List (Nat×Ze)
 still:List Nat
 unk:Option (Nat→Sm):=none
def Sm.first:List (Nat×Sm)→Nat→(X:Type)→List SV→List Qa→KO X→Option X
 |[],_,_,_,_,_=>none
 |q::l,g,X,args,H,k=>match Nat.beq q.1 g with
  |false=>Sm.first l g X args H k
  |true=>match q.2.pre args H with
   |true=>q.2.run X args H k
   |false=>Sm.first l g X args H k
def Lx.has(l:List (Nat×Sm))(g:Nat)(args:List SV)(H:List Qa):Bool:=l.any fun q=>match Nat.beq q.1 g with
 |true=>q.2.pre args H
 |false=>false
structure Lx.Ok (cx:Cx) (lx:Lx):Prop where
 ext:∀q∈lx.ext,Yr cx q.1 q.2
 unk:lx.unk=none
theorem Sm.Qf9{cx:Cx}:∀{l:List (Nat×Sm)} (_:∀q∈l,Yr cx q.1 q.2) {g:Nat} {X:Type} {args:List SV} {H:List Qa} {k:KO X} {y:X},Sm.first l g X args H k=some y→(∃fn,cx.fns.lookup g=some fn)∧Z2 cx.P g args H fun x H' t f=>k x H' t f=some y
 |[],_,g,X,args,H,k,y,h=>by cases h
 |q::l,hl,g,X,args,H,k,y,h=>by
  simp only[Sm.first]at h;split at h
  ·exact Sm.Qf9 (fun q hq=>hl q (List.mem_cons_of_mem _ hq)) h
  ·rename_i e;have e:=Nat.eq_of_beq_eq_true e;subst e;split at h
   ·have:=hl q List.mem_cons_self;exact⟨this.fn,this.ok X args H k y h⟩
   ·exact Sm.Qf9 (fun q hq=>hl q (List.mem_cons_of_mem _ hq)) h
abbrev Yv:=(X:Type)→(X→X→Bool)→Ze→Bool→Nat→Code→St→KX X→Option X
def Wp(cx:Cx)(rec:Yv):Prop:=∀(X:Type) (eq:X→X→Bool) (_:Zs eq) R an top nt c s (k:KX X) (y:X),(top=true→R=none)→rec X eq an top nt c s k=some y→Q7 R cx.P nt c (fun e s'=>k e s'=some y) s
section
variable {X:Type}
def Qlq(z:Bool)(H:List Qa)(r:SV)(H':List Qa)(t g:List Nat)(k:KO X):Option X:=
 match g.isEmpty&&(Nat.ble H.length H'.length&&((z||r.free H.length)&&Qea H.length H' t))with
 |true=>match Qcb H' H.length 1000 r with
  |some r'=>k r' (Wa t H H') t []
  |none=>k r H' t g
 |false=>k r H' t g
theorem Zhf{z:Bool}{H:List Qa}{r:SV}{H':List Qa}{t g:List Nat}{k:KO X}{y:X}(h:Qlq z H r H' t g k=some y):Left H (fun x H' t f=>k x H' t f=some y) r H' t g:=by
 unfold Qlq at h;split at h
 ·rename_i e;simp only[Bool.and_eq_true,List.isEmpty_iff]at e;split at h
  ·rename_i r' hr';exact .inl ⟨e.1,Nat.le_of_ble_eq_true e.2.1,fun s hs o ho _=>Qug e.2.2.2 s hs o ho,r',1000,hr',h⟩
  ·exact .inr h
 ·exact .inr h
def Vd(cx:Cx)(s:St):List ResultVar→(List SV→Option X)→Option X
 |[],k=>k []
 |.tmp t::rs,k=>Vd cx s rs fun l=>k (s.ev (.tmp t)::l)
 |.cell a t::rs,k=>(Ka cx.tab s.H t (s.ev (.tmp a))).X6 (fun _ _=>false) (fun x=>Vd cx s rs fun l=>k (x::l)) fun x _ _ _=>Vd cx s rs fun l=>k (x::l)
theorem Vv{cx:Cx}{s:St}{y:X}:∀(rs:List ResultVar) (k:List SV→Option X),Vd cx s rs k=some y→Jb cx s rs fun l=>k l=some y
 |[],k,h=>h
 |.tmp t::rs,k,h=>Vv rs _ h
 |.cell a t::rs,k,h=>Qn.Ki (fun _ _ h=>by cases h) (fun x h=>Vv rs _ h) (fun x _ _ _ h=>Vv rs _ h) h
def U7:Exit→Bool
 |.normal=>true
 |.ret=>true
 |_=>false
theorem Qbz{e:Exit}(h:U7 e=true):e=.normal∨e=.ret:=by
 cases e with
 |normal=>exact .inl rfl
 |ret=>exact .inr rfl
 |_=>cases h
def Qr2(cx:Cx)(fn:Func)(z:Bool)(H:List Qa)(k:KO X):KX X:=fun e s=>
 gd (U7 e&&(s.marks.isEmpty||Nat.ble H.length s.H.length)) (match shut s.marks s.H with
  |none=>none
  |some H'=>Vd cx {s with H:=H',marks:=[]} fn.results.toList fun l=>Qlq z H (Zw l) H' s.tch s.fg k)
theorem Zhb{cx:Cx}{fn:Func}{z:Bool}{H:List Qa}{k:KO X}{e:Exit}{s:St}{y:X}(h:Qr2 cx fn z H k e s=some y):
  (e = .normal ∨ e = .ret) ∧ (H.length ≤ s.H.length ∨ s.marks = []) ∧ ∃ H',shut s.marks s.H = some H' ∧ Jb cx { s with H := H',marks := [] } fn.results.toList fun l =>
   Left H (fun x H' t f=>k x H' t f=some y) (Zw l) H' s.tch s.fg:=by
 obtain⟨hc,h⟩:=Zg h;simp only[Bool.and_eq_true,Bool.or_eq_true,List.isEmpty_iff]at hc;split at h
 ·cases h
 ·rename_i H' hs;exact⟨Qbz hc.1,hc.2.symm.imp (fun h=>Nat.le_of_ble_eq_true h) id,H',hs,Wg _ _ _ (fun l hl=>Zhf hl) (Vv _ _ h)⟩
def Qad(rec:Yv)(eq:X→X→Bool)(ab:Ze)(s:Nat)(args:List SV)(H:List Qa)(k:KO X):Option X:=
 match H[s]? with
 |some (.loop L)=>gd (Nat.beq L.params.toList.length args.length&&L.params.toList.all fun p=>Nat.blt p L.nt) (rec X eq .leaf false L.nt L.assign (Qfv L args H) fun e s1=>match e with
  |.normal=>gd (!s1.fg.contains s&&Nat.ble H.length s1.H.length) (match s1.H[s]? with
   |some (.loop L1)=>gd (isReady L1.state&&L1.pending.isNone) (rec X eq ab false L.nt L.body (Wq s L1 s1) fun e s2=>match Qpm e with
    |none=>none
    |some jump=>gd (!s2.fg.contains s&&Nat.ble H.length s2.H.length) (match s2.H[s]? with
     |some (.loop L2)=>k (.lit (.bool jump.isNone)) (Qnn s L2 jump s2.H) (Qzn s jump s2.tch) s2.fg
     |_=>none))
   |_=>none)
  |_=>none)
 |_=>none
theorem Qvy{cx:Cx}{rec:Yv}(hrec:Wp cx rec){eq:X→X→Bool}(he:Zs eq){ab:Ze}{s:Nat}{args:List SV}{H:List Qa}{k:KO X}{y:X}
  (h:Qad rec eq ab s args H k=some y):Ke cx.P s args H fun x H' t f=>k x H' t f=some y:=by
 unfold Qad at h;split at h
 ·rename_i L hH;obtain⟨hc,h⟩:=Zg h;rw[Bool.and_eq_true]at hc;refine Zqu hH (Nat.eq_of_beq_eq_true hc.1) hc.2 fun R=>?_;refine(hrec X eq he R _ false _ _ _ _ y (fun e=>by cases e) h).mono fun e s1 h1=>?_;cases e with
  |normal=>
   obtain⟨hc1,h1⟩:=Zg h1;rw[Bool.and_eq_true]at hc1;split at h1
   ·rename_i L1 hL1;obtain⟨hc2,h1⟩:=Zg h1;rw[Bool.and_eq_true]at hc2;refine⟨rfl,Qda hc1.1,Nat.le_of_ble_eq_true hc1.2,L1,hL1,Zcx hc2.1,Option.isNone_iff_eq_none.1 hc2.2,?_⟩;refine(hrec X eq he R _ false _ _ _ _ y (fun e=>by cases e) h1).mono fun e s2 h2=>?_;cases hj:Qpm e with
    |none=>simp only[hj]at h2;cases h2
    |some jump=>
     simp only[hj]at h2;obtain⟨hc3,h2⟩:=Zg h2;rw[Bool.and_eq_true]at hc3;split at h2
     ·rename_i L2 hL2;exact⟨jump,rfl,Qda hc3.1,Nat.le_of_ble_eq_true hc3.2,L2,hL2,h2⟩
     ·cases h2
   ·cases h1
  |_=>cases h1
 ·cases h
def Lx.Zab(lx:Lx)(g n:Nat):Option Ze:=match lx.anns.lookup (g+10000000*(n+1))with
 |some a=>some a
 |none=>lx.anns.lookup g
def Qe4(lx:Lx)(g:Nat)(args:List SV)(H:List Qa)(k:KO X):Option X:=match Yj args H with
 |(c,as,S,H1)=>gd c (match Lx.has lx.ext g as H1 with
  |true=>Sm.first lx.ext g X as H1 fun x H' t f=>k x H' (S++t) f
  |false=>match lx.unk with
   |some f=>(f g).run X as H1 fun x H' t f=>k x H' (S++t) f
   |none=>none)
theorem Zm2{cx:Cx}{lx:Lx}(hlx:lx.Ok cx){g:Nat}{args:List SV}{H:List Qa}{k:KO X}{y:X}(h:Qe4 lx g args H k=some y):
  (∃fn,cx.fns.lookup g=some fn)∧Z2 cx.P g args H fun x H' t f=>k x H' t f=some y:=by
 unfold Qe4 at h;obtain⟨hc,h⟩:=Zg (c:=(Yj args H).1) (x:=match Lx.has lx.ext g (Yj args H).2.1 (Yj args H).2.2.2 with
  |true=>Sm.first lx.ext g X (Yj args H).2.1 (Yj args H).2.2.2 fun x H' t f=>k x H' ((Yj args H).2.2.1++t) f
  |false=>match lx.unk with
   |some f=>(f g).run X (Yj args H).2.1 (Yj args H).2.2.2 fun x H' t f=>k x H' ((Yj args H).2.2.1++t) f
   |none=>none) h
 split at h
 ·obtain⟨h1,h2⟩:=Sm.Qf9 hlx.ext h;exact⟨h1,Z2.Zty hc h2⟩
 ·rw[hlx.unk]at h;cases h
def J6(cx:Cx)(lx:Lx)(rec:Yv)(eq:X→X→Bool):Ja X
 |true,s,args,H,k=>match lx.anns.lookup (1000000+s)with
  |some a=>Qad rec eq a s args H k
  |none=>match lx.unk with
   |some f=>(f (1000000+s)).run X args H k
   |none=>Qad rec eq .leaf s args H k
 |false,g,args,H,k=>
  match lx.Zab g H.length with
  |some a=>walkO a g args H k
  |none=>match lx.anns.lookup (2000000+g)with
   |some _=>Qe4 lx g args H k
   |none=>match Lx.has lx.ext g args H with
    |true=>Sm.first lx.ext g X args H k
    |false=>match lx.unk with
     |some f=>(f g).run X args H k
     |none=>walkO .leaf g args H k
where walkO (a:Ze) (g:Nat) (args:List SV) (H:List Qa) (k:KO X):Option X:=match cx.fns.lookup g with
 |none=>none
 |some fn=>match fn.body with
  |none=>none
  |some c=>gd (Nat.ble args.length fn.ntmps) (rec X eq a true fn.ntmps c (.entry args H) (Qr2 cx fn (lx.still.contains g) H k))
theorem Qt2{cx:Cx}(hcx:cx.Ok){lx:Lx}{rec:Yv}(hrec:Wp cx rec){eq:X→X→Bool}(he:Zs eq){a:Ze}{g:Nat}{args:List SV}{H:List Qa}{k:KO X}{y:X}(h:J6.walkO cx lx rec eq a g args H k=some y):
  (∃fn,cx.fns.lookup g=some fn)∧Z2 cx.P g args H fun x H' t f=>k x H' t f=some y:=by
 unfold J6.walkO at h;split at h
 ·cases h
 ·rename_i fn hfn;split at h
  ·cases h
  ·rename_i c hb;obtain⟨hc,h⟩:=Zg h;refine⟨⟨fn,hfn⟩,?_⟩;exact Z2.leave (Qcv hcx hfn hb (Nat.le_of_ble_eq_true hc) ((hrec X eq he none _ true _ _ _ _ y (fun _=>rfl) h).mono fun e s hs=>Zhb hs))
theorem Qrk{cx:Cx}(hcx:cx.Ok){lx:Lx}(hlx:lx.Ok cx){rec:Yv}(hrec:Wp cx rec){eq:X→X→Bool}(he:Zs eq):Ja.Ok cx (J6 cx lx rec eq):=by
 refine⟨fun g args H k y h=>?_,fun s args H k y h=>?_⟩
 ·have h:(match lx.Zab g H.length with
   |some a=>J6.walkO cx lx rec eq a g args H k
   |none=>match lx.anns.lookup (2000000+g)with
    |some _=>Qe4 lx g args H k
    |none=>match Lx.has lx.ext g args H with
     |true=>Sm.first lx.ext g X args H k
     |false=>match lx.unk with
      |some f=>(f g).run X args H k
      |none=>J6.walkO cx lx rec eq .leaf g args H k)=some y:=h
  split at h
  ·exact Qt2 hcx hrec he h
  ·split at h
   ·exact Zm2 hlx h
   split at h
   ·exact Sm.Qf9 hlx.ext h
   ·rw[hlx.unk]at h;exact Qt2 hcx hrec he h
 ·have h:(match lx.anns.lookup (1000000+s)with
   |some a=>Qad rec eq a s args H k
   |none=>match lx.unk with
    |some f=>(f (1000000+s)).run X args H k
    |none=>Qad rec eq .leaf s args H k)=some y:=h
  split at h
  ·exact Qvy hrec he h
  ·rw[hlx.unk]at h;exact Qvy hrec he h
def Qra(cb:Ja X)(rec:Yv)(eq:X→X→Bool)(nt:Nat)(g:Operand)(ps:Array Tmp)(assign body:Code)(s:St)(k:KX X):Option X:=
 gd (Nat.ble s.n0 s.H.length) (match Qfd (s.ev g) (.yld (s.H.length+1))with
 |none=>none
 |some (gf,args)=>cb false gf args (Qdn s nt ps assign body) fun r H' t f=>
  gd ((!f.contains s.H.length&& !f.contains (s.H.length+1))&&((s.marks.all fun m=>!f.contains m&&Nat.blt m s.H.length)&&Nat.ble s.n0 H'.length)) (match loopAt H'[s.H.length+1]? with
  |some (st,pd)=>gd (Qrx st) (match pd with
   |none=>k .normal (Wi s none H' t f)
   |some c=>rec X eq .leaf true nt c (Wi s (some c) H' t f) k)
  |none=>none))
theorem Zdw{cx:Cx}(hcx:cx.Ok){cb:Ja X}(hcb:cb.Ok cx){rec:Yv}(hrec:Wp cx rec){eq:X→X→Bool}(he:Zs eq){nt:Nat}{g:Operand}{ps:Array Tmp}{assign body:Code}{s:St}{k:KX X}{y:X}
  (h:Qra cb rec eq nt g ps assign body s k=some y):Q7 none cx.P nt (.rangeFunc g ps assign body) (fun e s'=>k e s'=some y) s:=by
 obtain⟨hn,h⟩:=Zg h;cases ht:Qfd (s.ev g) (.yld (s.H.length+1))with
 |none=>simp only[ht]at h;cases h
 |some q=>
  obtain⟨gf,args⟩:=q;simp only[ht]at h;obtain⟨⟨fn,hfn⟩,h⟩:=hcb.ok _ _ _ _ _ h;refine Zbw hcx (Nat.le_of_ble_eq_true hn) ht hfn (h.mono fun r H' t f h=>?_);obtain⟨hc,h⟩:=Zg h;simp only[Bool.and_eq_true]at hc;obtain⟨⟨h1,h2⟩,h3,h4⟩:=hc;split at h
  ·rename_i st pd hL;obtain⟨hc5,h⟩:=Zg h;refine⟨Qda h1,Qda h2,fun m hm=>?_,Nat.le_of_ble_eq_true h4,st,pd,hL,Zb0 hc5,?_⟩
   ·have:=List.all_eq_true.1 h3 m hm;simp only[Bool.and_eq_true]at this;exact⟨Qda this.1,Vf this.2⟩
   ·split at h
    ·exact h
    ·exact hrec X eq he none _ true _ _ _ _ y (fun _=>rfl) h
  ·cases h
def Qt5(rec:Yv)(l:Yc)(f:Z1)(an:Ze)(top:Bool)(nt:Nat)(c:Code)(s:St)(k:KX X):Option X:=
 gd (s.marks.isEmpty&&(f.ok&&Wn f l)) (match rec (Zr l) (Zr.eqv l) an top nt c s.sub (fun e s'=>Jj f s.H.length l e s')with
  |some x=>Qby f s l x fun e s1=>k e (s.outer s1)
  |none=>none)
theorem Zi5{cx:Cx}{rec:Yv}(hrec:Wp cx rec){l:Yc}{f:Z1}{an:Ze}{R:Option Nat}{top:Bool}{nt:Nat}{c:Code}{s:St}{k:KX X}{y:X}(ht:top=true→R=none)
  (h:Qt5 rec l f an top nt c s k=some y):Q7 R cx.P nt c (fun e s'=>k e s'=some y) s:=by
 obtain⟨hc,h⟩:=Zg h;simp only[Bool.and_eq_true,List.isEmpty_iff]at hc;split at h
 ·rename_i x hx;rw[Qdb]at h;exact Zsy hc.1 hc.2.1 hc.2.2 (hrec _ _ (Zr.eqv_ok l) R _ top _ _ _ _ x ht hx) h
 ·cases h
def Qao:Exit→Bool
 |.normal=>true
 |_=>false
def Qfo(rec:Yv)(τ:Q4)(l:Yc)(f:Z1)(F:Nat)(an:Ze)(top:Bool)(nt:Nat)(c:Code)(s:St)(k:KX X):Option X:=
 gd (s.marks.isEmpty&&(f.ok&&(Wn f l&&(τ.J3 (f.of τ)&&l.all fun a=>!Qao a.1)))) (match Xy τ f s.H.length s.sub with
  |some x0=>match Zb (fun x=>rec (τ.El ⊕ Zr l) (Qcq (Zy.eqv τ.cells) (Zr.eqv l)) an top nt c (τ.st f.D (f.of τ) f.mv s x) (Qci f s.H.length τ l)) F x0 with
   |some y=>Qby f s l y fun e s1=>k e (s.outer s1)
   |none=>none
  |none=>none)
def Qnr(rec:Yv)(top:Bool)(nt:Nat)(c:Code):Ze→St→KX X→Option X
 |.loop τ l f F a,s,k=>Qfo rec τ l f F a top nt c s k
 |.phase τ l f F a b,s,k=>gd (s.marks.isEmpty&&(f.ok&&(Wn f l&&τ.J3 (f.of τ)))) (match Xy τ f s.H.length s.sub with
  |some x0=>match Zb (fun x=>rec (τ.El ⊕ Zr l) (Qcq (Zy.eqv τ.cells) (Zr.eqv l)) a top nt c (τ.st f.D (f.of τ) f.mv s x) (Qmn f s.H.length τ l)) F x0 with
   |some y=>Qby f s l y fun e s1=>match Qao e with
    |true=>Qnr rec top nt c b (s.outer s1) k
    |false=>k e (s.outer s1)
   |none=>none
  |none=>none)
 |_,_,_=>none
theorem Qnw{f:Z1}{s:St}:∀{l:Yc} (x:Zr l),(l.all fun a=>!Qao a.1)=true→(Ym f s l x).1≠.normal
 |[],x,_=>Empty.elim x
 |[a],x,h=>by simp only[List.all_cons,List.all_nil,Bool.and_true,Bool.not_eq_true']at h;intro e;simp only[Ym]at e;rw[e]at h;cases h
 |a::a'::l,.inl x,h=>by simp only[List.all_cons,Bool.and_eq_true,Bool.not_eq_true']at h;intro e;simp only[Ym]at e;rw[e]at h;cases h.1
 |a::a'::l,.inr x,h=>by
  have h':((a'::l).all fun a=>!Qao a.1)=true:=by simp only[List.all_cons,Bool.and_eq_true]at h⊢;exact h.2
  simp only[Ym];exact Qnw x h'
theorem Zik{cx:Cx}{rec:Yv}(hrec:Wp cx rec){τ:Q4}{l:Yc}{f:Z1}{F:Nat}{an:Ze}{R:Option Nat}{top:Bool}{nt:Nat}{c:Code}{s:St}{k:KX X}{y:X}(ht:top=true→R=none)
  (h:Qfo rec τ l f F an top nt c s k=some y):Q7 R cx.P nt (.loop c) (fun e s'=>k e s'=some y) s:=by
 obtain⟨hc,h⟩:=Zg h;simp only[Bool.and_eq_true,List.isEmpty_iff]at hc;obtain⟨c1,c2,c3,c4,c5⟩:=hc;split at h
 ·rename_i x0 hx0;split at h
  ·rename_i z hz;rw[Qdb]at h;exact Zdi c1 c2 c3 c4 (fun x r hr=>hrec _ _ (Qev (Zy.eqv_ok _) (Zr.eqv_ok _)) R _ top _ _ _ _ r ht hr) hx0 hz (Qnw z c5) h
  ·cases h
 ·cases h
theorem Zpr{cx:Cx}{rec:Yv}(hrec:Wp cx rec){τ:Q4}{l:Yc}{f:Z1}{F:Nat}{an:Ze}{R:Option Nat}{top:Bool}{nt:Nat}{c:Code}{s:St}{k:KX X}{y:X}(ht:top=true→R=none)
  (h:Qfo rec τ l f F an top nt c s k=some y):Qaq R cx.P nt c (fun e s'=>k e s'=some y) s:=by
 obtain⟨hc,h⟩:=Zg h;simp only[Bool.and_eq_true,List.isEmpty_iff]at hc;obtain⟨c1,c2,c3,c4,c5⟩:=hc;split at h
 ·rename_i x0 hx0;split at h
  ·rename_i z hz;rw[Qdb]at h;exact Qyc (fun e s' r h=>Zc9 h) c1 c2 c3 c4 (fun x r hr=>hrec _ _ (Qev (Zy.eqv_ok _) (Zr.eqv_ok _)) R _ top _ _ _ _ r ht hr) hx0 hz (fun hn=>absurd hn (Qnw z c5)) (fun _=>h)
  ·cases h
 ·cases h
theorem Zji{e:Exit}(h:Qao e=true):e=.normal:=by cases e<;>first|rfl|cases h
theorem Qzh{cx:Cx}{rec:Yv}(hrec:Wp cx rec){R:Option Nat}{top:Bool}{nt:Nat}{c:Code}{k:KX X}{y:X}(ht:top=true→R=none):∀(an:Ze) (s:St),Qnr rec top nt c an s k=some y→Qaq R cx.P nt c (fun e s'=>k e s'=some y) s
 |.loop τ l f F a,s,h=>Zpr hrec ht h
 |.phase τ l f F a b,s,h=>by
  obtain⟨hc,h⟩:=Zg h;simp only[Bool.and_eq_true,List.isEmpty_iff]at hc;obtain⟨c1,c2,c3,c4⟩:=hc;split at h
  ·rename_i x0 hx0;split at h
   ·rename_i z hz;rw[Qdb]at h;refine Qyc (fun e s' r h=>Zhu h) c1 c2 c3 c4 (fun x r hr=>hrec _ _ (Qev (Zy.eqv_ok _) (Zr.eqv_ok _)) R _ top _ _ _ _ r ht hr) hx0 hz (fun hn=>?_) (fun hn=>?_)
    ·rw[hn]at h;exact Qzh hrec ht b _ h
    ·cases he:Qao (Ym f s l z).1 with
     |true=>exact absurd (Zji he) hn
     |false=>rw[he]at h;exact h
   ·cases h
  ·cases h
 |.leaf,_,h=>by cases h
 |.one _,_,h=>by cases h
 |.two _ _,_,h=>by cases h
 |.join _ _ _,_,h=>by cases h
 |.virt _ _ _ _,_,h=>by cases h
 |.within _,_,h=>by cases h
 |.virtF _ _ _ _ _,_,h=>by cases h
 |.typ _ _ _ _,_,h=>by cases h
 |.norm _ _,_,h=>by cases h
 |.slb _ _,_,h=>by cases h
 |.unslb _ _,_,h=>by cases h
end
def Qak(cx:Cx)(lx:Lx)(rec:Yv)(X:Type)(eq:X→X→Bool)(an:Ze)(top:Bool)(nt:Nat):Code→St→KX X→Option X
 |.skip,s,k=>k .normal s
 |.region _ ops draw,s,k=>match draw with
  |false=>Ug eq cx (J6 cx lx rec eq) nt ops ops.toList s (k .normal)
  |true=>gd (Region.noSelect ops) (Yw eq cx (J6 cx lx rec eq) nt ops (Jc true ops ops.size (Array.replicate ops.size false)) [] s (k .normal))
 |.seq a b,s,k=>rec X eq an.fst top nt a s fun e s'=>match e with
  |.normal=>rec X eq an.snd top nt b s' k
  |e=>k e s'
 |.cond c a b,s,k=>match s.ev c with
  |.pv (.lit (.bool t))=>match t with
   |true=>rec X eq an.fst top nt a s k
   |false=>rec X eq an.snd top nt b s k
  |_=>none
 |.block id c,s,k=>rec X eq an.fst top nt c s fun e s'=>match e with
  |.exit id'=>bif Nat.beq id' id then k .normal s' else k (.exit id') s'
  |e=>k e s'
 |.loop c,s,k=>rec X eq an.fst top nt c s fun e s'=>match e with
  |.normal=>rec X eq an top nt (.loop c) s' k
  |e=>k e s'
 |.rangeFunc g ps assign body,s,k=>match top with
  |true=>Qra (J6 cx lx rec eq) rec eq nt g ps assign body s k
  |false=>none
 |.scope c,s,k=>match top with
  |true=>rec X eq an.fst true nt c s fun e s'=>match e with
   |.goto _=>none
   |e=>k e s'
  |false=>none
 |.exit id,s,k=>k (.exit id) s
 |.label _,s,k=>k .normal s
 |.ret,s,k=>k .ret s
 |_,_,_=>none
def Lx.more(lx:Lx)(l:List (Nat×Ze)):Lx:=match lx with
 |⟨ext,anns,still,unk⟩=>⟨ext,l++anns,still,unk⟩
theorem Lx.Ok.more{cx:Cx}{lx:Lx}(h:lx.Ok cx)(l:List (Nat×Ze)):(lx.more l).Ok cx:=⟨h.ext,h.unk⟩
def Ztp(cx:Cx)(lx:Lx)(rec:Yv):Yv:=fun X eq an top nt c s k=>match an with
 |.join l f a=>Qt5 rec l f a top nt c s k
 |.virt slot ty row a=>match s.T.get slot with
  |some (.pv (.lit v))=>gd (Value.isNil v) (rec X eq a top nt c (Qbk s slot ty row) k)
  |_=>rec X eq a top nt c s k
 |.norm slots a=>gd (s.marks.isEmpty&&Qhr (Qy2 slots s) s.H.length s.n0) (rec X eq a top nt c (Qle (Qy2 slots s) s) k)
 |.typ kk ty row a=>match Qfu kk ty row s with
  |some s'=>rec X eq a top nt c s' k
  |none=>none
 |.low=>match c with
  |.region _ ops draw=>match draw with
   |false=>Ug eq cx.Wy (J6 cx.Wy lx rec eq) nt ops ops.toList s (k .normal)
   |true=>gd (Region.noSelect ops) (Yw eq cx.Wy (J6 cx.Wy lx rec eq) nt ops (Jc true ops ops.size (Array.replicate ops.size false)) [] s (k .normal))
  |_=>none
 |.slb slot a=>match Qej slot s with
  |some s'=>rec X eq a top nt c s' k
  |none=>rec X eq a top nt c s k
 |.unslb slot a=>match Qf2 slot s with
  |some s'=>rec X eq a top nt c s' k
  |none=>rec X eq a top nt c s k
 |.virtF ob col ty row a=>match Qfs s ob col ty row with
  |some s'=>rec X eq a top nt c s' k
  |none=>none
 |.within l=>match c with
  |.loop _=>none
  |c=>Qak cx (lx.more l) rec X eq .leaf top nt c s k
 |.loop τ l f F a=>match c with
  |.loop body=>Qfo rec τ l f F a top nt body s k
  |_=>none
 |.phase τ l f F a b=>match c with
  |.loop body=>Qnr rec top nt body (.phase τ l f F a b) s k
  |_=>none
 |.leaf=>Qak cx lx rec X eq .leaf top nt c s k
 |.one a=>Qak cx lx rec X eq (.one a) top nt c s k
 |.two a b=>Qak cx lx rec X eq (.two a b) top nt c s k
def Yo(cx:Cx)(lx:Lx):Nat→Yv
 |0=>fun _ _ _ _ _ _ _ _=>none
 |n+1=>Ztp cx lx (Yo cx lx n)
def Ze.plain:Ze→Bool
 |.leaf=>true
 |.one _=>true
 |.two _ _=>true
 |_=>false
theorem Qcg{cx:Cx}(hcx:cx.Ok){lx:Lx}(hlx:lx.Ok cx):∀(n:Nat),Wp cx (Yo cx lx n)∧
  (∀(X:Type) (eq:X→X→Bool) (_:Zs eq) R an top nt c s (k:KX X) (y:X),(top=true→R=none)→Yo cx lx n X eq an top nt (.loop c) s k=some y→an.plain=true→
   Qce R cx.P nt c (fun e s'=>k e s'=some y) n s)
 |0=>⟨fun X eq he R an top nt c s k y _ h=>(by cases h),fun X eq he R an top nt c s k y _ h=>(by cases h)⟩
 |n+1=>by
  obtain⟨ih1,ih2⟩:=Qcg hcx hlx n;have loop:∀(X:Type) (eq:X→X→Bool) (_:Zs eq) R an top nt c s (k:KX X) (y:X),(top=true→R=none)→Yo cx lx (n+1) X eq an top nt (.loop c) s k=some y→an.plain=true→
    Qce R cx.P nt c (fun e s'=>k e s'=some y) (n+1) s:=by
   intro X eq he R an top nt c s k y ht h hp;have h:Qak cx lx (Yo cx lx n) X eq an top nt (.loop c) s k=some y:=by
    cases an with
    |leaf=>exact h
    |one a=>exact h
    |two a b=>exact h
    |_=>cases hp
   refine(ih1 X eq he R an.fst top nt c s _ y ht h).mono fun e s' hs=>?_;cases e with
   |normal=>exact⟨n,Nat.le_refl n,ih2 X eq he R an top nt c s' k y ht hs hp⟩
   |_=>exact hs
  refine⟨fun X eq he R an top nt c s k y ht h=>?_,loop⟩;have code:∀(lx':Lx),lx'.Ok cx→(an.plain=true∨∀b,c≠.loop b)→∀an':Ze,(an.plain=true→an'=an∧lx'=lx)→Qak cx lx' (Yo cx lx n) X eq an' top nt c s k=some y→Q7 R cx.P nt c (fun e s'=>k e s'=some y) s:=by
   intro lx' hlx' hp an' han hcode;have hcb:=Qrk hcx hlx' ih1 he;cases c with
   |skip=>exact Zew hcode
   |region id ops draw=>
    cases draw with
    |false=>exact Qt1 hcx (Qb5 he hcb _ _ _ hcode)
    |true=>obtain⟨h1,h2⟩:=Zg hcode;exact Qyq hcx h1 (V3 he hcb _ _ _ _ h2)
   |seq a b=>
    refine Zok ((ih1 X eq he R an'.fst top nt a s _ y ht hcode).mono fun e s' hs=>?_);cases e with
    |normal=>exact ih1 X eq he R an'.snd top nt b s' k y ht hs
    |_=>exact hs
   |cond c a b=>
    have hcode:(match s.ev c with
     |.pv (.lit (.bool t))=>match t with
      |true=>Yo cx lx n X eq an'.fst top nt a s k
      |false=>Yo cx lx n X eq an'.snd top nt b s k
     |_=>none)=some y:=hcode
    split at hcode
    ·rename_i t e;refine Zoc e (fun hb=>?_) (fun hb=>?_)
     ·subst hb;exact ih1 X eq he R an'.fst top nt a s k y ht hcode
     ·subst hb;exact ih1 X eq he R an'.snd top nt b s k y ht hcode
    ·cases hcode
   |block id c=>
    refine Zrr ((ih1 X eq he R an'.fst top nt c s _ y ht hcode).mono fun e s' hs=>?_);cases e with
    |exit id'=>
     simp only[Qjc];by_cases e:id'=id
     ·rw[if_pos e];simp only[Kz e,cond_true]at hs;exact hs
     ·rw[if_neg e];simp only[Xo e,cond_false]at hs;exact hs
    |_=>exact hs
   |loop c=>
    have hp:an.plain=true:=by
     rcases hp with hp|hp
     ·exact hp
     ·exact absurd rfl (hp c)
    obtain⟨rfl,rfl⟩:=han hp;refine Zof (loop X eq he R an' top nt c s k y ht ?_ hp);cases an' with
    |leaf=>exact hcode
    |one a=>exact hcode
    |two a b=>exact hcode
    |_=>cases hp
   |exit id=>exact Zbp hcode
   |label l=>exact Zr8 hcode
   |ret=>exact Zfu hcode
   |rangeFunc g ps assign body=>
    cases top with
    |true=>have hR:=ht rfl;subst hR;exact Zdw hcx hcb ih1 he hcode
    |false=>cases hcode
   |scope c=>
    cases top with
    |true=>
     have hR:=ht rfl;subst hR;refine Zj7 ((ih1 X eq he none an'.fst true nt c s _ y ht hcode).mono fun e s' hs=>?_);cases e with
     |goto _=>cases hs
     |_=>exact hs
    |false=>cases hcode
   |goto _=>cases hcode
   |refuse _=>cases hcode
  cases an with
  |join l f a=>exact Zi5 ih1 ht h
  |virt slot ty row a=>
   have h:(match s.T.get slot with
    |some (.pv (.lit v))=>gd (Value.isNil v) (Yo cx lx n X eq a top nt c (Qbk s slot ty row) k)
    |_=>Yo cx lx n X eq a top nt c s k)=some y:=h
   split at h
   ·rename_i v hv;obtain⟨h1,h2⟩:=Zg h;exact Zbt hv h1 (ih1 X eq he R a top nt c _ k y ht h2)
   ·exact ih1 X eq he R a top nt c _ k y ht h
  |typ kk ty row a=>
   have h:(match Qfu kk ty row s with
    |some s'=>Yo cx lx n X eq a top nt c s' k
    |none=>none)=some y:=h
   split at h
   ·rename_i s' hs';exact Zds hs' (ih1 X eq he R a top nt c _ k y ht h)
   ·cases h
  |low=>
   cases c with
   |region id ops draw=>
    have hcx':cx.Wy.Ok:=hcx.Wy;have hlx':lx.Ok cx.Wy:=⟨fun q hq=>let h:=hlx.ext q hq;⟨h.fn,h.ok⟩,hlx.unk⟩;have ih1':Wp cx.Wy (Yo cx lx n):=ih1;have hcb:=Qrk hcx' hlx' ih1' he;cases draw with
    |false=>exact Qt1 hcx' (Qb5 he hcb _ _ _ h)
    |true=>obtain⟨h1,h2⟩:=Zg h;exact Qyq hcx' h1 (V3 he hcb _ _ _ _ h2)
   |_=>cases h
  |slb slot a=>
   have h:(match Qej slot s with
    |some s'=>Yo cx lx n X eq a top nt c s' k
    |none=>Yo cx lx n X eq a top nt c s k)=some y:=h
   split at h
   ·rename_i s' hs';exact Zl2 hs' (ih1 X eq he R a top nt c _ k y ht h)
   ·exact ih1 X eq he R a top nt c _ k y ht h
  |unslb slot a=>
   have h:(match Qf2 slot s with
    |some s'=>Yo cx lx n X eq a top nt c s' k
    |none=>Yo cx lx n X eq a top nt c s k)=some y:=h
   split at h
   ·rename_i s' hs';exact Zaf hs' (ih1 X eq he R a top nt c _ k y ht h)
   ·exact ih1 X eq he R a top nt c _ k y ht h
  |virtF ob col ty row a=>
   have h:(match Qfs s ob col ty row with
    |some s'=>Yo cx lx n X eq a top nt c s' k
    |none=>none)=some y:=h
   split at h
   ·rename_i s' hs';exact Znc hs' (ih1 X eq he R a top nt c _ k y ht h)
   ·cases h
  |within l=>
   cases c with
   |loop b=>cases h
   |_=>exact code (lx.more l) (hlx.more l) (.inr fun b e=>by cases e) .leaf (fun e=>by cases e) h
  |loop τ l f F a=>
   cases c with
   |loop body=>exact Zik ih1 ht h
   |_=>cases h
  |norm slots a=>obtain⟨h1,h2⟩:=Zg h;rw[Bool.and_eq_true,List.isEmpty_iff]at h1;exact Ze1 h1.1 h1.2 (ih1 X eq he R a top nt c _ k y ht h2)
  |phase τ l f F a b=>
   cases c with
   |loop body=>exact(Qzh ih1 ht _ _ h).wp
   |_=>cases h
  |leaf=>exact code lx hlx (.inl rfl) .leaf (fun _=>⟨rfl,rfl⟩) h
  |one a=>exact code lx hlx (.inl rfl) (.one a) (fun _=>⟨rfl,rfl⟩) h
  |two a b=>exact code lx hlx (.inl rfl) (.two a b) (fun _=>⟨rfl,rfl⟩) h
end Go.Sx
end
namespace Go.Sx
open Go
def Q8:List Qk→Type
 |[]=>Unit
 |[a]=>a.El
 |a::a'::l=>a.El×Q8 (a'::l)
def Q8.eqv:(l:List Qk)→Q8 l→Q8 l→Bool
 |[]=>V2
 |[a]=>a.eqv
 |a::a'::l=>Xu a.eqv (Q8.eqv (a'::l))
theorem Q8.eqv_ok:∀(l:List Qk),Zs (Q8.eqv l)
 |[]=>fun a b h=>rfl
 |[a]=>Qk.eqv_ok a
 |a::a'::l=>K1 (Qk.eqv_ok a) (Q8.eqv_ok (a'::l))
def Zh:(l:List Qk)→Q8 l→List SV
 |[],_=>[]
 |[a],x=>[a.sv x]
 |a::a'::l,x=>a.sv x.1::Zh (a'::l) x.2
def rdL(H:List Qa)(n:Nat):(l:List Qk)→List SV→Option (Bool×Q8 l)
 |[]=>Qe6
 |[a]=>Ql7 (rdA H n a)
 |a::a'::l=>Qay (rdA H n a) (rdL H n (a'::l))
theorem Qe.Zt8{M:Qc}{ρ ρ2:Env}{v:Value}{x:SV}(h:Qe M ρ v x):x.free 0=true→Qe M ρ2 v x:=by
 have fl:∀(l:List SV),Xh 0 l=true→∀(i:Nat) (x:SV),l[i]? =some x→x.free 0=true:=by
  intro l;induction l with
  |nil=>intro _ i x h;simp at h
  |cons y l ih=>
   intro h i x hx;simp only[Xh,Bool.and_eq_true]at h;cases i with
   |zero=>simp at hx;subst hx;exact h.1
   |succ i=>exact ih h.2 i x (by simpa using hx)
 induction h with
 |any v=>intro _;exact .any v
 |pv h=>intro _;exact .pv h
 |agg cs l hl _ ih=>intro hf;exact .agg cs l hl fun i v x hv hx=>ih i v x hv hx (fl l hf i x hx)
 |tup cs l hl _ ih=>intro hf;exact .tup cs l hl fun i v x hv hx=>ih i v x hv hx (fl l hf i x hx)
 |fn f a b x y ha hb _ _ ih jh=>intro hf;simp only[SV.free,Bool.and_eq_true]at hf;exact .fn f a b x y ha hb (fun i v s hv hs=>ih i v s hv hs (fl x hf.1 i s hs)) (fun i v s hv hs=>jh i v s hv hs (fl y hf.2 i s hs))
 |ptr s=>intro hf;simp[SV.free]at hf
 |sl s=>intro hf;simp[SV.free]at hf
 |slz s=>intro hf;simp[SV.free]at hf
 |mp s=>intro hf;simp[SV.free]at hf
 |yld s=>intro hf;simp[SV.free]at hf
 |slb s=>intro hf;simp[SV.free]at hf
theorem Zqf(l:List PV):Xh 0 (l.map .pv)=true:=by
 induction l with
 |nil=>rfl
 |cons x l ih=>simp[Xh,SV.free,ih]
theorem Zad(l:List PV):(SV.Yd (l.map .pv)).free 0=true:=by
 unfold SV.Yd;split
 ·rfl
 ·simp only[SV.free];exact Zqf l
theorem Qk.Qz6:∀(a:Qk) (x:a.El),(a.sv x).free 0=true
 |.val t,x=>rfl
 |.agg row,x=>Zad _
theorem Qqj:∀(l:List Qk) (x:Q8 l),Xh 0 (Zh l x)=true
 |[],_=>rfl
 |[a],x=>by show((a.sv x).free 0&&true)=true;rw[Qk.Qz6 a x];rfl
 |a::a'::l,x=>by simp only[Zh,Xh,Qk.Qz6,Qqj (a'::l),Bool.and_self]
theorem Zfc(l:List Qk)(x:Q8 l):(Zw (Zh l x)).free 0=true:=by
 have h:=Qqj l x;unfold Zw;split
 ·rename_i y e;rw[e]at h;simpa[Xh]using h
 ·exact h
theorem Qwd{M:Qc}{ρ:Env}(n:Nat):∀(k:Nat),
  (∀(t:Ty),SizeOf.sizeOf t≤k→K6 M ρ M (rdT [] n t) t.pv)∧(∀(ts:List Ty),SizeOf.sizeOf ts≤k→W8 M ρ M ts (Xk [] n ts)):=by
 have hle:=M.le_refl;intro k;induction k with
 |zero=>exact⟨fun t ht=>by(cases t<;>simp at ht),fun ts ht=>by(cases ts<;>simp at ht)⟩
 |succ k ih=>
  obtain⟨ih1,ih2⟩:=ih;refine⟨fun t ht=>?_,fun ts ht=>?_⟩
  ·match t,ht with
   |.int k,ht=>exact Uv hle (Qks k)
   |.bool,ht=>exact Uv hle Qp4
   |.str,ht=>exact Uv hle Qmv
   |.seq row,ht=>
    intro x c y v h hc hr;have h:Qcp [] n row (Xk [] n row) x=some (c,y):=h;unfold Qcp at h;split at h
    ·split at h
     ·rename_i y' hy;cases h;cases hr with
      |pv hp=>exact Ty.Qp7 (t:=.seq row) hy hp
     ·cases h
    ·split at h
     ·cases h
     ·simp at h
    ·cases h
  ·match ts,ht with
   |[],ht=>exact Qva
   |[t],ht=>exact Qvr (ih1 t (by simp at ht;omega))
   |t::t'::ts,ht=>exact Qza (ih1 t (by simp at ht;omega)) (ih2 (t'::ts) (by simp at ht⊢;omega))
theorem Zea{M:Qc}{ρ ρ2:Env}{n:Nat}{a:Qk}{x:SV}{c:Bool}{y:a.El}{v:Value}(h:rdA [] n a x=some (c,y))(hc:c=true)(hr:Qe M ρ v x):Qe M ρ2 v (a.sv y):=by
 cases a with
 |val t=>exact .pv ((Qwd n _).1 t (Nat.le_refl _) x c y v h hc hr)
 |agg row=>
  refine Qk.Qzu ?_;have fin:∀(cs:Array Value) (xs:List SV) (y:Els row),X1 M ρ M row xs y→cs.size=xs.length→(∀(i:Nat) (u:Value) (x:SV),cs[i]? =some u→xs[i]? =some x→Qe M ρ u x)→Qe M ρ2 (.agg cs) ((Qk.agg row).raw y):=fun cs xs y hf hl hr=>by refine .agg cs _ (by rw[hl,hf.1];simp[Xw]) fun i u z hu hz=>?_;simp only[List.getElem?_map,Option.map_eq_some_iff]at hz;obtain⟨q,hq,rfl⟩:=hz;obtain⟨x,hx,himp⟩:=hf.2 i q hq;exact .pv (himp u (hr i u x hu hx))
  replace h:Ks [] n row x=some (c,y):=h;unfold Ks at h;split at h
  ·rename_i cs;split at h
   ·rename_i y' hy;cases h;have:=hr.Q1;subst this;refine fin cs _ _ (X1.of M.le_refl hy) (by simp) fun i u x hu hx=>?_;simp only[List.getElem?_map,Option.map_eq_some_iff,Array.getElem?_toList]at hx;obtain⟨p,⟨u',hu',rfl⟩,rfl⟩:=hx;rw[hu]at hu';cases hu';exact .pv (.lit _)
   ·cases h
  ·rename_i l;cases hr with
   |agg cs _ hl hr=>exact fin cs l y ((Qwd n _).2 row (Nat.le_refl _) _ _ _ h hc) hl hr
  ·cases h
def Qhg(M M2:Qc)(ρ ρ2:Env){α:Type}(f:List SV→Option (Bool×α))(g:α→List SV):Prop:=
 ∀(xs:List SV) (c:Bool) (y:α),f xs=some (c,y)→c=true→(g y).length=xs.length∧
  ∀(i:Nat) (v:Value) (z x:SV),(g y)[i]? =some z→xs[i]? =some x→Qe M ρ v x→Qe M2 ρ2 v z
theorem Qhv{M M2:Qc}{ρ ρ2:Env}{H:List Qa}{n:Nat}(ha:∀(a:Qk) (x:SV) (c:Bool) (y:a.El) (v:Value),rdA H n a x=some (c,y)→c=true→Qe M ρ v x→Qe M2 ρ2 v (a.sv y)):
  ∀(l:List Qk),Qhg M M2 ρ ρ2 (rdL H n l) (Zh l)
 |[]=>by
  intro xs c y h hc;match xs,h with
  |[],h=>exact⟨rfl,fun i v z x hz hx=>by simp at hx⟩
  |_::_,h=>cases h
 |[a]=>by
  intro xs c y h hc;match xs,h with
  |[],h=>cases h
  |_::_::_,h=>cases h
  |[x],h=>
   replace h:rdA H n a x=some (c,y):=h;refine⟨rfl,fun i v z x' hz hx' hr=>?_⟩;cases i with
   |zero=>simp only[Zh,List.getElem?_cons_zero,Option.some.injEq]at hz hx';subst hz;subst hx';exact ha a x c y v h hc hr
   |succ i=>simp at hx'
 |a::a'::l=>by
  intro xs c y h hc;match xs,h with
  |[],h=>cases h
  |x::xs,h=>
   replace h:Qay (rdA H n a) (rdL H n (a'::l)) (x::xs)=some (c,y):=h;simp only[Qay]at h;split at h
   ·cases h
   ·rename_i p h1;split at h
    ·cases h
    ·rename_i q h2;cases h;rw[Bool.and_eq_true]at hc;obtain⟨g1,g2⟩:=Qhv ha (a'::l) xs q.1 q.2 h2 hc.2;refine⟨by simp only[Zh,List.length_cons,g1],fun i v z x' hz hx' hr=>?_⟩;cases i with
     |zero=>simp only[Zh,List.getElem?_cons_zero,Option.some.injEq]at hz hx';subst hz;subst hx';exact ha a x p.1 p.2 v h1 hc.1 hr
     |succ i=>simp only[Zh,List.getElem?_cons_succ]at hz hx';exact g2 i v z x' hz hx' hr
theorem Qqn{M:Qc}{ρ ρ2:Env}{H:List Qa}{w:World}{n:Nat}(hm:Mem M ρ H w)(l:List Qk):Qhg M (M.Q9 ρ H n w) ρ ρ2 (rdL H n l) (Zh l):=
 Qhv (fun a x c y v h hc hr=>Qk0 hm h hc hr) l
theorem Qvw{M:Qc}{ρ ρ2:Env}{n:Nat}(l:List Qk):Qhg M M ρ ρ2 (rdL [] n l) (Zh l):=
 Qhv (fun a x c y v h hc hr=>Zea h hc hr) l
structure PC where
 ats:List Qk
 rts:List Qk
 code:Q8 ats→Option (Q8 rts)
structure Qw (cx:Cx) (g:Nat) (pc:PC):Prop where
 fn:∃fn,cx.fns.lookup g=some fn
 ok:∀a y,pc.code a=some y→Z2 cx.P g (Zh pc.ats a) [] fun r H' t f=>r=Zw (Zh pc.rts y)∧H'=[]∧t=[]∧f=[]
def PC.sm(pc:PC):Sm where
 pre:=fun args H=>(rdL [] 0 pc.ats args).isSome||((rdL H 0 pc.ats args).isSome&&pc.rts.all Qk.scalar)
 run:=fun X args H k=>match rdL [] 0 pc.ats args with
  |some p=>gd p.1 (match pc.code p.2 with
   |some y=>k (Zw (Zh pc.rts y)) H [] []
   |none=>none)
  |none=>match rdL H 0 pc.ats args with
   |some p=>gd (p.1&&pc.rts.all Qk.scalar) (match pc.code p.2 with
    |some y=>k (Zw (Zh pc.rts y)) H [] []
    |none=>none)
   |none=>none
def Qf5:List SV→Bool
 |[]=>true
 |.pv (.lit _)::l=>Qf5 l
 |_=>false
def SV.Qdf:SV→Bool
 |.pv (.lit _)=>true
 |.agg l=>Qf5 l
 |_=>false
theorem Qs2:∀{l:List SV},Qf5 l=true→∀(i:Nat) (x:SV),l[i]? =some x→∃v,x=.lit v
 |[],_,i,x,h=>by simp at h
 |.pv (.lit v)::l,hl,i,x,h=>by
  cases i with
  |zero=>simp at h;exact⟨v,h.symm⟩
  |succ i=>exact Qs2 (l:=l) hl i x (by simpa using h)
theorem Qxb{M M2:Qc}{ρ ρ2:Env}{v:Value}{x:SV}(hs:x.Qdf=true)(h:Qe M ρ v x):Qe M2 ρ2 v x:=by
 match x,hs,h with
 |.pv (.lit u),_,h=>rw[h.Q1];exact .pv (.lit _)
 |.agg l,hs,.agg cs _ hl hr=>refine .agg cs l hl fun i v x hv hx=>?_;obtain⟨u,rfl⟩:=Qs2 hs i x hx;rw[(hr i v _ hv hx).Q1];exact .pv (.lit _)
theorem Qq8:∀(row:List Ty) (x:Els row),row.all Ty.scalar=true→Qf5 ((Q3 row x).map .pv)=true
 |[],_,_=>rfl
 |[t],x,h=>by cases t<;>first|rfl|(simp[Ty.scalar]at h)
 |t::t'::ts,x,h=>by simp only[List.all_cons,Bool.and_eq_true]at h;have:=Qq8 (t'::ts) x.2 (by simp only[List.all_cons,Bool.and_eq_true];exact h.2);cases t<;>first|exact this|(simp[Ty.scalar]at h)
theorem Qk.Qz8(a:Qk)(x:a.El)(h:a.scalar=true):(a.sv x).Qdf=true:=by
 cases a with
 |val t=>cases t<;>first|rfl|(simp[Qk.scalar,Ty.scalar]at h)
 |agg row=>
  show(SV.Yd ((Q3 row x).map .pv)).Qdf=true;unfold SV.Yd;split
  ·rfl
  ·exact Qq8 row x h
theorem Qqk:∀(l:List Qk) (y:Q8 l),l.all Qk.scalar=true→∀(i:Nat) (x:SV),(Zh l y)[i]? =some x→x.Qdf=true
 |[],_,_,i,x,h=>by simp[Zh]at h
 |[a],y,hs,i,x,h=>by
  cases i with
  |zero=>simp only[Zh,List.getElem?_cons_zero,Option.some.injEq]at h;subst h;exact Qk.Qz8 a y (by simpa using hs)
  |succ i=>simp[Zh]at h
 |a::a'::l,y,hs,i,x,h=>by
  simp only[List.all_cons,Bool.and_eq_true]at hs;cases i with
  |zero=>simp only[Zh,List.getElem?_cons_zero,Option.some.injEq]at h;subst h;exact Qk.Qz8 a y.1 hs.1
  |succ i=>exact Qqk (a'::l) y.2 (by simp only[List.all_cons,Bool.and_eq_true];exact hs.2) i x (by simpa[Zh]using h)
theorem Zb1{M M2:Qc}{ρ ρ2:Env}{v:Value}{l:List SV}(hs:∀(i:Nat) (x:SV),l[i]? =some x→x.Qdf=true)(h:Qe M ρ v (Zw l)):Qe M2 ρ2 v (Zw l):=by
 unfold Zw at h⊢;split at h
 ·rename_i x;exact Qxb (hs 0 x rfl) h
 ·cases h with
  |tup cs _ hl hr=>exact .tup cs _ hl fun i v x hv hx=>Qxb (hs i x hx) (hr i v x hv hx)
def Yn:Env:=fun _=>none
theorem Kq{M:Qc}{w:World}(h:∀b o,M b=some o→w.heap[b]? =some o):Mem M Yn [] w:=
 ⟨h,fun s o ho=>by simp at ho,fun s o p b ho=>by simp at ho,fun s s' o o' p p' b ho=>by simp at ho,fun s _=>rfl,fun s o p b ho=>by simp at ho⟩
theorem X4{b:Nat}:¬Yz Yn [] b:=fun⟨s,o,p,h,_⟩=>by simp at h
theorem PC.Q2{cx:Cx}{g:Nat}{pc:PC}(h:Qw cx g pc):Yr cx g pc.sm:=by
 refine⟨h.fn,fun X args H k y hk=>?_⟩;have hk:(match rdL [] 0 pc.ats args with
  |some p=>gd p.1 (match pc.code p.2 with
   |some y=>k (Zw (Zh pc.rts y)) H [] []
   |none=>none)
  |none=>match rdL H 0 pc.ats args with
   |some p=>gd (p.1&&pc.rts.all Qk.scalar) (match pc.code p.2 with
    |some y=>k (Zw (Zh pc.rts y)) H [] []
    |none=>none)
   |none=>none)=some y:=hk
 have keep:∀(w w':World) (M2 M2':Qc) (ρ':Env) (H':List Qa) (t f:List Nat),Fr M2 Yn [] w M2' ρ' H' w' 0 t f→∀b,b<w.heap.size→w'.heap[b]? =w.heap[b]? :=fun w w' M2 M2' ρ' H' t f hf b hb=>hf.same b hb X4;split at hk
 ·rename_i p hrd;obtain⟨hc,hk⟩:=Zg hk;split at hk
  ·rename_i z hz;intro M ρ w vs hm hr;obtain⟨l1,l2⟩:=Qvw (M:=M) (ρ:=ρ) (ρ2:=Yn) pc.ats args p.1 p.2 hrd hc;refine(h.ok p.2 z hz M Yn w vs (Kq hm.imm) ⟨by rw[hr.1,l1],fun i v x hv hx=>?_⟩).mono ?_
   ·obtain⟨x',hx'⟩:∃x',args[i]? =some x':=by
     have:i<args.length:=by rw[←l1];exact(List.getElem?_eq_some_iff.1 hx).1
     exact⟨_,List.getElem?_eq_getElem this⟩
    exact l2 i v x x' hx hx' (hr.2 i v x' hv hx')
   ·rintro e w' ⟨v,r,H',M',ρ',t,f,he,⟨rfl,rfl,rfl,rfl⟩,hs,hm',hf⟩
    have hsame:=keep _ _ _ _ _ _ _ _ hf;refine⟨v,_,H,M',ρ,[],[],he,hk,hs.Zt8 (Zfc _ z),?_,?_⟩
    ·refine⟨hm'.imm,fun s o ho=>?_,fun s o p b ho hl hp hb=>?_,hm.diss,hm.fresh,fun s o p b ho hl hp hb=>Nat.lt_of_lt_of_le (hm.lts s o p b ho hl hp hb) hf.grow⟩
     ·by_cases hl:o.live=true
      ·exact(hm.own s o ho).mono hf.imm ρ.le_refl rfl fun p b hp hb=>hsame _ (hm.Yk ho hl hp hb)
      ·rw[Wu hl];trivial
     ·cases e:M' b with
      |none=>rfl
      |some ob=>
       rcases hf.new b ob (hm.seps s o p b ho hl hp hb) e with h1|h1
       ·have:=hm.Yk ho hl hp hb;omega
       ·exact absurd h1 X4
    ·exact⟨hf.imm,fun b o a c=>(hf.new b o a c).imp id fun h=>absurd h X4,fun b hb=>.inr hb,fun b hb _=>hsame b hb,hf.grow,fun s o _ _ ho hl=>⟨⟨o,ho,hl⟩,fun p hp=>⟨hp,fun b hb=>hsame _ (hm.Yk ho hl hp hb)⟩⟩,fun _ _ _=>rfl,hf.io⟩
  ·cases hk
 ·split at hk
  ·rename_i p hrd;obtain⟨hc,hk⟩:=Zg hk;rw[Bool.and_eq_true]at hc;split at hk
   ·rename_i z hz;intro M ρ w vs hm hr;obtain⟨l1,l2⟩:=Qqn (n:=0) (ρ2:=Yn) hm pc.ats args p.1 p.2 hrd hc.1;have hM2:∀b o,(M.Q9 ρ H 0 w) b=some o→w.heap[b]? =some o:=fun b o hb=>by
     cases e:M b with
     |some o'=>rw[Qc.Y5 M ρ H 0 w b o' e]at hb;cases hb;exact hm.imm b _ e
     |none=>exact(Qc.Xs e hb).2
    refine(h.ok p.2 z hz (M.Q9 ρ H 0 w) Yn w vs (Kq hM2) ⟨by rw[hr.1,l1],fun i v x hv hx=>?_⟩).mono ?_
    ·obtain⟨x',hx'⟩:∃x',args[i]? =some x':=by
      have:i<args.length:=by rw[←l1];exact(List.getElem?_eq_some_iff.1 hx).1
      exact⟨_,List.getElem?_eq_getElem this⟩
     exact l2 i v x x' hx hx' (hr.2 i v x' hv hx')
    ·rintro e w' ⟨v,r,H',M',ρ',t,f,he,⟨rfl,rfl,rfl,rfl⟩,hs,hm',hf⟩
     have hsame:=keep _ _ _ _ _ _ _ _ hf;refine⟨v,_,H,M,ρ,[],[],he,hk,Zb1 (Qqk _ z hc.2) hs,?_,?_⟩
     ·refine⟨fun b o hb=>?_,fun s o ho=>?_,hm.seps,hm.diss,hm.fresh,fun s o p b ho hl hp hb=>Nat.lt_of_lt_of_le (hm.lts s o p b ho hl hp hb) hf.grow⟩
      ·rw[hsame b (hm.Vp hb)];exact hm.imm b o hb
      ·by_cases hl:o.live=true
       ·exact(hm.own s o ho).mono M.le_refl ρ.le_refl rfl fun p b hp hb=>hsame _ (hm.Yk ho hl hp hb)
       ·rw[Wu hl];trivial
     ·exact⟨M.le_refl,fun b o a c=>(by rw[a]at c;cases c),fun b hb=>.inr hb,fun b hb _=>hsame b hb,hf.grow,fun s o _ _ ho hl=>⟨⟨o,ho,hl⟩,fun p hp=>⟨hp,fun b hb=>hsame _ (hm.Yk ho hl hp hb)⟩⟩,fun _ _ _=>rfl,hf.io⟩
   ·cases hk
  ·cases hk
def Qxn(cx:Cx)(fn:Func)(rts:List Qk):KX (Q8 rts):=fun e s=>
 gd (U7 e) (match shut s.marks s.H with
  |none=>none
  |some H'=>Vd cx {s with H:=H',marks:=[]} fn.results.toList fun l=>match rdL H' 0 rts l with
   |none=>none
   |some p=>gd p.1 (some p.2))
def Zf(cx:Cx)(lx:Lx)(n:Nat)(an:Ze)(fn:Func)(c:Code)(ats rts:List Qk)(a:Q8 ats):Option (Q8 rts):=
 Yo cx lx n (Q8 rts) (Q8.eqv rts) an true fn.ntmps c (.entry (Zh ats a) []) (Qxn cx fn rts)
theorem Zmu{cx:Cx}{fn:Func}{rts:List Qk}{e:Exit}{s:St}{y:Q8 rts}(h:Qxn cx fn rts e s=some y):
  (e=.normal∨e=.ret)∧∃H',shut s.marks s.H=some H'∧Jb cx {s with H:=H',marks:=[]} fn.results.toList fun l=>∃c,c=true∧rdL H' 0 rts l=some (c,y):=by
 obtain⟨h1,h⟩:=Zg h;refine⟨Qbz h1,?_⟩;split at h
 ·cases h
 ·rename_i H' hs;refine⟨H',hs,Wg _ _ _ (fun l hl=>?_) (Vv _ _ h)⟩;split at hl
  ·cases hl
  ·rename_i p hp;obtain⟨h2,hl⟩:=Zg hl;cases hl;exact⟨p.1,h2,hp⟩
theorem Qw.Qi{cx:Cx}(hcx:cx.Ok){lx:Lx}(hlx:lx.Ok cx){n g:Nat}{an:Ze}{fn:Func}{c:Code}{pc:PC}(hf:cx.fns.lookup g=some fn)(hb:fn.body=some c)
  (hcode:∀a y,pc.code a=some y→Zf cx lx n an fn c pc.ats pc.rts a=some y) (hn:Nat.ble pc.ats.length fn.ntmps=true):Qw cx g pc:=by
 refine⟨⟨fn,hf⟩,fun a y hy=>?_⟩;have hlen:∀(l:List Qk) (x:Q8 l),(Zh l x).length=l.length:=by
  intro l;induction l with
  |nil=>intro _;rfl
  |cons a l ih=>
   cases l with
   |nil=>intro _;rfl
   |cons b l=>intro x;simp only[Zh,List.length_cons,ih x.2]
 have hw:=(Qcg hcx hlx n).1 _ _ (Q8.eqv_ok pc.rts) none an true fn.ntmps c _ _ y (fun _=>rfl) (hcode a y hy);have hcall:Z2 cx.P g (Zh pc.ats a) [] fun r H' t f=>∃l cc,r=Zw l∧cc=true∧rdL H' 0 pc.rts l=some (cc,y):=by refine Qcv hcx hf hb (by rw[hlen];exact Nat.le_of_ble_eq_true hn) (hw.mono fun e s hs=>?_);obtain⟨h1,H',h2,h3⟩:=Zmu hs;exact⟨h1,.inl (Nat.zero_le _),H',h2,Wg _ _ _ (fun l ⟨cc,h4,h5⟩=>⟨l,cc,rfl,h4,h5⟩) h3⟩
 intro M ρ w vs hm hr;refine(hcall M ρ w vs hm hr).mono ?_
 rintro e w' ⟨v,r,H',M',ρ',t,f,he,⟨l,cc,rfl,hcc,hrd⟩,hs,hm',hfr⟩
 obtain⟨g1,g2⟩:=Qqn (n:=0) (ρ2:=Yn) hm' pc.rts l cc y hrd hcc;have hne:ρ=Yn:=by funext s;exact hm.fresh s (Nat.zero_le _)
 have hM2:∀b o,(M'.Q9 ρ' H' 0 w') b=some o→w'.heap[b]? =some o:=fun b o hb=>by
  cases e:M' b with
  |some o'=>rw[Qc.Y5 M' ρ' H' 0 w' b o' e]at hb;cases hb;exact hm'.imm b _ e
  |none=>exact(Qc.Xs e hb).2
 refine⟨v,_,[],M'.Q9 ρ' H' 0 w',Yn,[],[],he,⟨rfl,rfl,rfl,rfl⟩,?_,Kq hM2,?_⟩
 ·unfold Zw at hs⊢;split at hs
  ·rename_i x;match hsv:Zh pc.rts y,g1 with
   |[z],_=>simp only;exact g2 0 v z x (by rw[hsv];rfl) rfl hs
  ·rename_i hx;have hx2:∀z,Zh pc.rts y=[z]→False:=fun z hz=>by
    rw[hz]at g1;match l,g1 with
    |[x],_=>exact hx x rfl
   cases hs with
   |tup cs _ hl hrr=>
    have:Qe (M'.Q9 ρ' H' 0 w') Yn (.tuple cs) (.tup (Zh pc.rts y)):=.tup cs _ (by rw[hl,g1]) fun i u z hu hz=>by
     obtain⟨x',hx'⟩:∃x',l[i]? =some x':=by
      have:i<l.length:=by rw[←g1];exact(List.getElem?_eq_some_iff.1 hz).1
      exact⟨_,List.getElem?_eq_getElem this⟩
     exact g2 i u z x' hz hx' (hrr i u x' hu hx')
    match hsv:Zh pc.rts y with
    |[]=>simp only;rw[←hsv];exact this
    |[z]=>exact absurd hsv (fun h=>hx2 z h)
    |z::z'::zs=>simp only;rw[←hsv];exact this
 ·have hsl:=Qc.Y5 M' ρ' H' 0 w';refine⟨Qc.le_trans hfr.imm hsl,fun b o h0 h1=>?_,fun b hb=>absurd hb X4,hfr.same,hfr.grow,fun s o hs=>absurd hs (Nat.not_lt_zero s),fun s hs=>absurd hs (Nat.not_lt_zero s),hfr.io⟩;cases e:M' b with
  |some o'=>exact hfr.new b o' h0 e
  |none=>obtain⟨⟨s2,o2,p2,k1,k2,k3,k4,k5⟩,_⟩:=Qc.Xs e h1;exact hfr.own b ⟨s2,o2,p2,k2,by cases o2<;>simp_all [Qa.Xt,Qa.live],k4,.inl k5⟩
theorem Lx.Zk{cx:Cx}{an:List (Nat×Ze)}{st:List Nat}:Lx.Ok cx {ext:=[],anns:=an,still:=st}:=⟨fun q hq=>(by cases hq),rfl⟩
theorem Lx.Qz{cx:Cx}{g:Nat}{sm:Sm}{l:List (Nat×Sm)}{an:List (Nat×Ze)}{st:List Nat}(h:Yr cx g sm)(hl:Lx.Ok cx {ext:=l,anns:=an,still:=st}):Lx.Ok cx {ext:=(g,sm)::l,anns:=an,still:=st}:=
 ⟨fun q hq=>by
  rcases List.mem_cons.1 hq with rfl|hq
  ·exact h
  ·exact hl.ext q hq,rfl⟩
def nilT(α:Type):List α:=[]
def Qd(fn:Func):Code:=match fn.body with
 |some c=>c
 |none=>.skip
end Go.Sx

/- Part Qs of the own logic: an owned row becomes immutable where it stands. Own rows that a function of data gets: they become immutable at the call. And further parts. -/
import Derived.Test.YtebmfbcngojbdaaGreatDoorXSxP
set_option linter.unusedVariables false
set_option linter.unusedSimpArgs false
set_option linter.unnecessarySimpa false
namespace Go.Sx
open Go
def TT.all(p:SV→Bool):TT→Bool
 |.nil=>true
 |.node l v r=>l.all p&&((match v with|some x=>p x|none=>true)&&r.all p)
def oneLive(H:List Qa)(k:Nat)(o:Qa):List Qa:=(H.map fun _=>Qa.dead).set k o
theorem Ug{H:List Qa}{k s:Nat}{o x:Qa}(h:(oneLive H k o)[s]? =some x):(s=k∧x=o)∨(s≠k∧x=.dead):=by
 unfold oneLive at h;rw[List.getElem?_set]at h;split at h
 ·rename_i e;subst e;split at h
  ·cases h;exact .inl ⟨rfl,rfl⟩
  ·cases h
 ·rename_i e;simp only[List.getElem?_map,Option.map_eq_some_iff]at h;obtain⟨_,_,rfl⟩:=h;exact .inr ⟨fun h=>e h.symm,rfl⟩
theorem Mem.oneLive{M:Qc}{ρ:Env}{H:List Qa}{w:World}(hm:Mem M ρ H w){k:Nat}{o o1:Qa}(hk:H[k]? =some o1)(hl:o1.live=true)(ho:Qx M ρ w k o):Mem M ρ (Sx.oneLive H k o) w:=by
 refine⟨hm.imm,fun s x hx=>?_,fun s x p b hx hlx hp hb=>?_,fun s s' x x' p p' b hx hx' hlx hlx' hp hp' hb hb'=>?_,fun s hs=>hm.fresh s (by simpa[Sx.oneLive]using hs),fun s x p b hx hlx hp hb=>?_⟩
 ·rcases Ug hx with⟨rfl,rfl⟩|⟨_,rfl⟩
  ·exact ho
  ·trivial
 ·rcases Ug hx with⟨rfl,rfl⟩|⟨_,rfl⟩
  ·exact hm.seps s o1 p b hk hl hp hb
  ·cases hlx
 ·rcases Ug hx with⟨rfl,rfl⟩|⟨_,rfl⟩
  ·rcases Ug hx' with⟨rfl,rfl⟩|⟨_,rfl⟩
   ·rfl
   ·cases hlx'
  ·cases hlx
 ·rcases Ug hx with⟨rfl,rfl⟩|⟨_,rfl⟩
  ·exact hm.lts s o1 p b hk hl hp hb
  ·cases hlx
theorem Za1{M:Qc}{ρ:Env}{H:List Qa}{w:World}(hm:Mem M ρ H w):ρ.cut H.length=ρ:=by
 funext s;unfold Env.cut;split
 ·rfl
 ·rename_i h;exact(hm.fresh s (by omega)).symm
def Qej(s:St)(ob col ty:Nat)(row:List Ty):Option St:=match s.H[ob]? with
 |none=>none
 |some o=>match Jp o with
  |none=>none
  |some q=>match Nat.beq q.2.2.length q.2.1 with
   |false=>none
   |true=>match q.2.2[col]? with
    |some (.pv (.lit v))=>match Value.isNil v with
     |true=>some {T:=s.T,H:=(s.H.set ob (.mix q.1 q.2.1 [q.2.2.set col (.sl s.H.length row.length 0 0)]))++[.tvec ty row []],n0:=s.n0,tch:=s.tch,fg:=s.fg,marks:=s.marks,er:=s.er}
     |false=>none
    |_=>none
theorem Zk8{R:Option Nat}{P:Program}{nt:Nat}{c:Code}{Q:Exit→St→Prop}{s s':St}{ob col ty:Nat}{row:List Ty}(hs:Qej s ob col ty row=some s')
  (h:Q4 R P nt c Q s'):Q4 R P nt c Q s:=by
 unfold Qej at hs;split at hs
 ·cases hs
 ·rename_i o ho;split at hs
  ·cases hs
  ·rename_i q hq;split at hs
   ·cases hs
   ·rename_i hl;have hl:=Nat.eq_of_beq_eq_true hl;split at hs
    ·rename_i v hv;split at hs
     ·rename_i hn;cases hs;obtain⟨oty,sz,r⟩:=q;have hlt:ob<s.H.length:=(List.getElem?_eq_some_iff.1 ho).1;refine Q4.Qch (fun B M ρ a w hg=>⟨ρ,?_,?_⟩) h
      all_goals
       obtain⟨g1,g2,g3,g4⟩:=Qav (M:=M) (ρ:=ρ) (w:=w) (s:=ob) hq;obtain⟨m1,m2⟩:=hg.mem.virt (ty:=ty) (sz:=row.length);have n1:=m1.described (s:=s.H.length) (o:=.vec ty row.length []) (o':=.tvec ty row []) (by simp) rfl (fun h=>h);have n2:=m2.described (s:=s.H.length) (o:=.vec ty row.length []) (o':=.tvec ty row []) (by simp) rfl;have e1:(s.H++[Qa.vec ty row.length []]).set s.H.length (.tvec ty row [])=s.H++[.tvec ty row []]:=by simp
       rw[e1]at n1 n2;have hob:(s.H++[Qa.tvec ty row []])[ob]? =some o:=by rw[List.getElem?_append_left hlt];exact ho
       have hown:Qx M ρ w ob o→Qx M ρ w ob (.mix oty sz [r.set col (.sl s.H.length row.length 0 0)]):=fun h0=>by
        refine Qx.Qvo rfl (by simpa using hl) (fun j y hy=>?_) (g4 h0);rw[List.getElem?_set]at hy;split at hy
        ·rename_i e;subst e;split at hy
         ·cases hy;refine .inr ⟨_,hv,fun u hu=>?_⟩;have:=hu.Q0;subst this;unfold Value.isNil at hn;split at hn
          ·simp only[Bool.and_eq_true]at hn;rw[Nat.eq_of_beq_eq_true hn.1,Nat.eq_of_beq_eq_true hn.2];exact .slz _ _ _ _
          ·cases hn
         ·cases hy
        ·exact .inr ⟨y,hy,fun u hu=>hu⟩
       have e2:(s.H++[Qa.tvec ty row []]).set ob (.mix oty sz [r.set col (.sl s.H.length row.length 0 0)])=(s.H.set ob (.mix oty sz [r.set col (.sl s.H.length row.length 0 0)]))++[.tvec ty row []]:=by rw[List.set_append_left _ _ hlt]
      ·have n3:=n1.described hob (o':=.mix oty sz [r.set col (.sl s.H.length row.length 0 0)]) g1.symm hown;rw[e2]at n3;refine⟨hg.tm,hg.sz,n3,hg.df,hg.mks,?_,hg.fix⟩;show s.n0≤((s.H.set ob (.mix oty sz [r.set col (.sl s.H.length row.length 0 0)]))++[Qa.tvec ty row []]).length;have:=hg.nle;simp;omega
      ·have n3:=n2.described hob (o':=.mix oty sz [r.set col (.sl s.H.length row.length 0 0)]) g1.symm;rw[e2]at n3;exact⟨n3.weaken (n':=s.n0) (t':=s.tch) (f':=s.fg) hg.nle (fun x _ h=>by cases h) (fun x _ h=>by cases h),rfl,fun _ h=>h,fun _ h=>h⟩
     ·cases hs
    ·cases hs
def Qd6(k ty:Nat)(row:List Ty)(s:St):Option St:=match s.H[k]? with
 |some (.vec ty' sz rows)=>match Nat.beq ty' ty&&Nat.beq sz row.length with
  |true=>match Yw (ofRow row) rows with
   |some l=>some {s with H:=s.H.set k (.tvec ty row l)}
   |none=>none
  |false=>none
 |_=>none
theorem Qy9{R:Option Nat}{P:Program}{nt:Nat}{c:Code}{Q:Exit→St→Prop}{s s':St}{k ty:Nat}{row:List Ty}(hs:Qd6 k ty row s=some s')(h:Q4 R P nt c Q s'):Q4 R P nt c Q s:=by
 unfold Qd6 at hs;split at hs
 ·rename_i ty' sz rows ho;split at hs
  ·rename_i e;rw[Bool.and_eq_true]at e;have e1:=Nat.eq_of_beq_eq_true e.1;have e2:=Nat.eq_of_beq_eq_true e.2;subst e1;subst e2;split at hs
   ·rename_i l hl;cases hs;have hok:=Yg.of hl;refine Q4.Qch (fun B M ρ a w hg=>⟨ρ,?_,?_⟩) h
    ·refine⟨hg.tm,hg.sz,hg.mem.described ho rfl (fun hh=>hh.Qco hok.1 hok.2),hg.df,hg.mks,by show s.n0≤(s.H.set k _).length;rw[List.length_set];exact hg.nle,hg.fix⟩
    ·exact⟨(Fr.refl M ρ s.H w s.n0 s.tch s.fg).described ho rfl,rfl,fun _ h=>h,fun _ h=>h⟩
   ·cases hs
  ·cases hs
 ·cases hs
theorem Qx.lnk{M:Qc}{ρ:Env}{w:World}{s ty:Nat}{row:List Ty}{l:List (Els row)}{r c:Nat}(h:Qx M ρ w s (.tvec ty row l)):Qx M ρ w s (.tlnk ty row l r c .any):=by
 rcases h with h|⟨p,h1,h2⟩
 ·exact .inl h
 ·refine .inr ⟨p,h1,?_⟩;obtain⟨cs,a1,a2,a3,a4,a5,a6⟩:=h2.ex;have key:∀i j x,Yo row l r c .any i j=some x→∃y,Zf (Qu row l) i j=some y∧(x=.any∨x=y):=fun i j x hx=>by
   unfold Yo at hx;simp only[Option.map_eq_some_iff]at hx;obtain⟨y,hy,rfl⟩:=hx;refine⟨y,hy,?_⟩;split
   ·exact .inl rfl
   ·exact .inr rfl
  refine⟨cs,a1,a2,a3,a4,fun i j x v hx hv=>?_,fun i j x hx=>?_⟩
  ·obtain⟨y,hy,e⟩:=key i j x hx;obtain⟨b1,b2,b3⟩:=a5 i j y v hy hv;refine⟨b1,b2,?_⟩;rcases e with rfl|rfl
   ·exact .any v
   ·exact b3
  ·obtain⟨y,hy,_⟩:=key i j x hx;exact a6 i j y hy
theorem Mem.Zm5{M:Qc}{ρ:Env}{H:List Qa}{w:World}{k ty:Nat}{row:List Ty}{l:List (Els row)}(hm:Mem M ρ H w)(ho:H[k]? =some (.tvec ty row l)):
  ∃M2,M.le M2∧Mem M2 ρ (H.set k .dead) w∧(∀n,Fr M ρ H w M2 ρ (H.set k .dead) w n [k] [])∧∀v,Qd M ρ v (.sl k row.length 0 l.length)→Q5 M2 v (.tsl row l):=by
 have hks:k<H.length:=(List.getElem?_eq_some_iff.1 ho).1;have hl:(Qa.tvec ty row l).live=true:=rfl;have hm1:=Mem.oneLive hm ho hl (hm.own k _ ho);have hle:=Qc.Ys M ρ (Sx.oneLive H k (.tvec ty row l)) 0 w;have hget:(Sx.oneLive H k (.tvec ty row l))[k]? =some (.tvec ty row l):=by simp[Sx.oneLive,hks]
 have hnew:∀b ob,M b=none→M.Q7 ρ (Sx.oneLive H k (.tvec ty row l)) 0 w b=some ob→(∃p,ρ k=some p∧p.block=b)∧w.heap[b]? =some ob:=fun b ob h0 h1=>by
  obtain⟨⟨s2,o2,p2,q1,q2,q3,q4,q5⟩,q6⟩:=Qc.Xg h0 h1;rcases Ug q2 with⟨rfl,rfl⟩|⟨_,rfl⟩
  ·exact⟨⟨p2,q4,q5⟩,q6⟩
  ·cases q3
 have hslice:∀v,Qd M ρ v (.sl k row.length 0 l.length)→Q5 (M.Q7 ρ (Sx.oneLive H k (.tvec ty row l)) 0 w) v (.tsl row l):=fun v hr=>by
  refine Qdr hm1 (Nat.zero_le _) hget rfl rfl (by simp[Qa.len]) rfl (fun i y hy=>?_) hr;have:(Qa.tvec ty row l).row (0+i)=(Q1 row y).map .pv:=by simp only[Qa.row,List.getD,Nat.zero_add,hy,Option.getD_some]
  rw[this];exact .self hle y
 generalize hM2:M.Q7 ρ (Sx.oneLive H k (.tvec ty row l)) 0 w=M2 at hle hnew hslice;have hobj:∀t x,(H.set k .dead)[t]? =some x→(t=k∧x=.dead)∨(t≠k∧H[t]? =some x):=fun t x hx=>by
  by_cases e:t=k
  ·subst e;rw[List.getElem?_set_self hks]at hx;cases hx;exact .inl ⟨rfl,rfl⟩
  ·rw[List.getElem?_set_ne (fun h=>e h.symm)]at hx;exact .inr ⟨e,hx⟩
 refine⟨M2,hle,⟨fun b ob hb=>?_,fun t x hx=>?_,fun t x p b hx hlx hp hb=>?_,fun t t' x x' p p' b hx hx' hlx hlx' hp hp' hbk hbk'=>?_,fun t ht=>hm.fresh t (by simpa using ht),fun t x p b hx hlx hp hb=>?_⟩,fun n=>⟨hle,fun b ob h0 h1=>?_,fun b hb=>?_,fun _ _ _=>rfl,Nat.le_refl _,fun t x ht hx hx2 hlx=>?_,fun _ _ _=>rfl,rfl,rfl⟩,hslice⟩
 ·cases e:M b with
  |some o'=>rw[hle b o' e]at hb;cases hb;exact hm.imm b _ e
  |none=>exact(hnew b ob e hb).2
 ·rcases hobj t x hx with⟨rfl,rfl⟩|⟨_,hy⟩
  ·trivial
  ·exact(hm.own t x hy).mono hle ρ.le_refl rfl fun _ _ _ _=>rfl
 ·rcases hobj t x hx with⟨rfl,rfl⟩|⟨hne,hy⟩
  ·cases hlx
  ·have h0:=hm.seps t x p b hy hlx hp hb;cases e:M2 b with
   |none=>rfl
   |some ob=>obtain⟨⟨p2,q1,q2⟩,_⟩:=hnew _ _ h0 e;exact absurd (hm.diss t k x _ p p2 b hy ho hlx hl hp q1 hb (.inl q2)) hne
 ·rcases hobj t x hx with⟨rfl,rfl⟩|⟨_,hy⟩
  ·cases hlx
  ·rcases hobj t' x' hx' with⟨rfl,rfl⟩|⟨_,hy'⟩
   ·cases hlx'
   ·exact hm.diss t t' x x' p p' b hy hy' hlx hlx' hp hp' hbk hbk'
 ·rcases hobj t x hx with⟨rfl,rfl⟩|⟨hne,hy⟩
  ·cases hlx
  ·exact hm.lts t x p b hy hlx hp hb
 ·obtain⟨⟨p,q1,q2⟩,_⟩:=hnew b ob h0 h1;exact .inr ⟨k,_,p,ho,hl,q1,.inl q2⟩
 ·obtain⟨t,x,p,h1,h2,h3,h4⟩:=hb;rcases hobj t x h1 with⟨rfl,rfl⟩|⟨_,hy⟩
  ·cases h2
  ·exact .inr ⟨t,x,p,hy,h2,h3,h4⟩
 ·have hne:t≠k:=fun e=>hx (by rw[e];exact List.mem_cons_self);exact⟨⟨x,by rw[List.getElem?_set_ne (fun h=>hne h.symm)];exact hx2,hlx⟩,fun p hp=>⟨hp,fun _ _=>rfl⟩⟩
def K8(H:List Qa):SV→Option (SV×Nat×List Qa)
 |.sl k sz 0 n=>match H[k]? with
  |some (.tvec ty row l)=>match Nat.beq sz row.length with
   |true=>some (.pv (.tsl row l),k,H.set k .dead)
   |false=>none
  |_=>none
 |_=>none
def Qec(H:List Qa):SV→Bool
 |.sl k sz 0 n=>match H[k]? with
  |some (.tvec ty row l)=>decide (n=l.length)
  |_=>true
 |_=>true
theorem Qo2{M:Qc}{ρ:Env}{H H':List Qa}{w:World}{x y:SV}{k:Nat}(hm:Mem M ρ H w)(h:K8 H x=some (y,k,H'))(hc:Qec H x=true):
  H'.length=H.length∧∃M2,M.le M2∧Mem M2 ρ H' w∧(∀n,Fr M ρ H w M2 ρ H' w n [k] [])∧∀v,Qd M ρ v x→Qd M2 ρ v y:=by
 unfold K8 at h;unfold Qec at hc;split at h
 ·rename_i k0 sz n;split at h
  ·rename_i ty row l ho;split at h
   ·rename_i e;have e:=Nat.eq_of_beq_eq_true e;subst e;cases h;simp only[ho,decide_eq_true_eq]at hc;subst hc;obtain⟨M2,h1,h2,h3,h4⟩:=hm.Zm5 ho;exact⟨by simp,M2,h1,h2,h3,fun v hv=>.pv (h4 v hv)⟩
   ·cases h
  ·cases h
 ·cases h
def Qzb:PV→Option Ty
 |.lit (.string _)=>some .str
 |.lit (.int k _)=>some (.int k)
 |.lit (.bool _)=>some .bool
 |.tsl row _=>some (.seq row)
 |_=>none
def Qsj(H:List Qa)(x:SV):List Ty:=match x with
 |.sl d _ _ _=>match H[d]? with
  |some (.vec _ _ (r::_))=>match Yw Qzb r with
   |some row=>row
   |none=>[]
  |_=>[]
 |_=>[]
def W1(H:List Qa)(x:SV):List Qa:=asData H (Qsj H x) x
theorem Qsg{M:Qc}{ρ:Env}{H:List Qa}{w:World}(hm:Mem M ρ H w)(x:SV):Mem M ρ (W1 H x) w∧(∀n,Fr M ρ H w M ρ (W1 H x) w n [] [])∧(W1 H x).length=H.length:=by obtain⟨m1,h,m3⟩:=Qf2 hm (Qsj H x) x;exact⟨m1,fun n=>⟨h.imm,h.new,h.own,h.same,h.grow,fun s o _ ht ho hl=>h.keep s o (List.getElem?_eq_some_iff.1 ho).1 ht ho hl,fun _ _ _=>rfl,h.io⟩,m3⟩
def Xx:List SV→List Qa→Bool×List SV×List Nat×List Qa
 |[],H=>(true,[],[],H)
 |x::xs,H=>match K8 (W1 H x) x with
  |some q=>match Xx xs q.2.2 with
   |r=>(Qec (W1 H x) x&&r.1,q.1::r.2.1,q.2.1::r.2.2.1,r.2.2.2)
  |none=>match Xx xs H with
   |r=>(r.1,x::r.2.1,r.2.2.1,r.2.2.2)
theorem Qkz:∀{args:List SV} {M:Qc} {ρ:Env} {H:List Qa} {w:World},Mem M ρ H w→(Xx args H).1=true→
  (Xx args H).2.2.2.length = H.length ∧ (Xx args H).2.1.length = args.length ∧ ∃ M2,M.le M2 ∧ Mem M2 ρ (Xx args H).2.2.2 w ∧ (∀ n,Fr M ρ H w M2 ρ (Xx args H).2.2.2 w n (Xx args H).2.2.1 []) ∧
   ∀(i:Nat) (v:Value) (x y:SV),args[i]? =some x→(Xx args H).2.1[i]? =some y→Qd M ρ v x→Qd M2 ρ v y
 |[],M,ρ,H,w,hm,hc=>⟨rfl,rfl,M,M.le_refl,hm,fun n=>Fr.refl ..,fun i v x y hx=>by simp at hx⟩
 |x::xs,M,ρ,H,w,hm,hc=>by
  cases hs:K8 (W1 H x) x with
  |some q=>
   obtain⟨y,k,H1⟩:=q;simp only[Xx,hs,Bool.and_eq_true]at hc⊢;obtain⟨m1,m2,m3⟩:=Qsg hm x;obtain⟨e1,M1,a1,a2,a3',a4⟩:=Qo2 m1 hs hc.1;have a3:∀n,Fr M ρ H w M1 ρ H1 w n [k] []:=fun n=>(m2 n).trans (a3' n) (fun z hz=>by cases hz) (fun z hz=>hz) (fun z hz=>by cases hz) (fun z hz=>by cases hz);obtain⟨e2,e3,M2,b1,b2,b3,b4⟩:=Qkz a2 hc.2;refine⟨e2.trans (e1.trans m3),by simp[e3],M2,Qc.le_trans a1 b1,b2,fun n=>(a3 n).trans (b3 n) (fun z hz=>?_) (fun z hz=>List.mem_cons_of_mem _ hz) (fun z hz=>by cases hz) (fun z hz=>hz),fun i v x' y' hx hy hv=>?_⟩
   ·rw[List.mem_singleton.1 hz];exact List.mem_cons_self
   ·cases i with
    |zero=>simp at hx hy;subst hx;subst hy;exact(a4 v hv).mono b1 ρ.le_refl
    |succ i=>exact b4 i v x' y' (by simpa using hx) (by simpa using hy) (hv.mono a1 ρ.le_refl)
  |none=>
   simp only[Xx,hs]at hc⊢;obtain⟨e2,e3,M2,b1,b2,b3,b4⟩:=Qkz (args:=xs) hm hc;refine⟨e2,by simp[e3],M2,b1,b2,b3,fun i v x' y' hx hy hv=>?_⟩;cases i with
   |zero=>simp at hx hy;subst hx;subst hy;exact hv.mono b1 ρ.le_refl
   |succ i=>exact b4 i v x' y' (by simpa using hx) (by simpa using hy) hv
def W8(x:SV)(H:List Qa):Bool×SV×List Nat×List Qa:=match K8 (W1 H x) x with
 |some q=>(Qec (W1 H x) x,q.1,[q.2.1],q.2.2)
 |none=>(true,x,[],H)
theorem Zcq{x:SV}{M:Qc}{ρ:Env}{H:List Qa}{w:World}(hm:Mem M ρ H w)(hc:(W8 x H).1=true):
  (W8 x H).2.2.2.length=H.length∧∃M2,M.le M2∧Mem M2 ρ (W8 x H).2.2.2 w∧(∀n,Fr M ρ H w M2 ρ (W8 x H).2.2.2 w n (W8 x H).2.2.1 [])∧∀v,Qd M ρ v x→Qd M2 ρ v (W8 x H).2.1:=by
 unfold W8 at hc⊢;cases hs:K8 (W1 H x) x with
 |some q=>obtain⟨y,k,H1⟩:=q;simp only[hs]at hc⊢;obtain⟨m1,m2,m3⟩:=Qsg hm x;obtain⟨e1,M1,a1,a2,a3,a4⟩:=Qo2 m1 hs hc;exact⟨e1.trans m3,M1,a1,a2,fun n=>(m2 n).trans (a3 n) (fun z hz=>by cases hz) (fun z hz=>hz) (fun z hz=>by cases hz) (fun z hz=>by cases hz),a4⟩
 |none=>exact⟨rfl,M,M.le_refl,hm,fun n=>Fr.refl ..,fun v hv=>hv⟩
def Ve(x:SV)(H:List Qa):Bool×SV×List Nat×List Qa:=match x with
 |.agg l=>match Xx l H with
  |r=>(r.1,.agg r.2.1,r.2.2.1,r.2.2.2)
 |x=>W8 x H
theorem Zmh{x:SV}{M:Qc}{ρ:Env}{H:List Qa}{w:World}(hm:Mem M ρ H w)(hc:(Ve x H).1=true):
  (Ve x H).2.2.2.length=H.length∧∃M2,M.le M2∧Mem M2 ρ (Ve x H).2.2.2 w∧(∀n,Fr M ρ H w M2 ρ (Ve x H).2.2.2 w n (Ve x H).2.2.1 [])∧∀v,Qd M ρ v x→Qd M2 ρ v (Ve x H).2.1:=by
 unfold Ve at hc⊢;split at hc
 ·rename_i l;obtain⟨e1,e2,M2,b1,b2,b3,b4⟩:=Qkz hm hc;refine⟨e1,M2,b1,b2,b3,fun v hv=>?_⟩;cases hv with
  |agg cs _ hl h=>
   refine .agg cs _ (by rw[hl,e2]) fun i v y hv hy=>?_;obtain⟨x,hx⟩:∃x,l[i]? =some x:=by
    have:i<l.length:=by rw[←e2];exact(List.getElem?_eq_some_iff.1 hy).1
    exact⟨_,List.getElem?_eq_getElem this⟩
   exact b4 i v x y hx hy (h i v x hv hx)
 ·exact Zcq hm hc
def Z6:List SV→List Qa→Bool×List SV×List Nat×List Qa
 |[],H=>(true,[],[],H)
 |x::xs,H=>match Ve x H with
  |q=>match Z6 xs q.2.2.2 with
   |r=>(q.1&&r.1,q.2.1::r.2.1,q.2.2.1++r.2.2.1,r.2.2.2)
theorem Qry:∀{args:List SV} {M:Qc} {ρ:Env} {H:List Qa} {w:World},Mem M ρ H w→(Z6 args H).1=true→
  (Z6 args H).2.2.2.length = H.length ∧ (Z6 args H).2.1.length = args.length ∧ ∃ M2,M.le M2 ∧ Mem M2 ρ (Z6 args H).2.2.2 w ∧ (∀ n,Fr M ρ H w M2 ρ (Z6 args H).2.2.2 w n (Z6 args H).2.2.1 []) ∧
   ∀(i:Nat) (v:Value) (x y:SV),args[i]? =some x→(Z6 args H).2.1[i]? =some y→Qd M ρ v x→Qd M2 ρ v y
 |[],M,ρ,H,w,hm,hc=>⟨rfl,rfl,M,M.le_refl,hm,fun n=>Fr.refl ..,fun i v x y hx=>by simp at hx⟩
 |x::xs,M,ρ,H,w,hm,hc=>by
  simp only[Z6,Bool.and_eq_true]at hc⊢;obtain⟨e1,M1,a1,a2,a3,a4⟩:=Zmh hm hc.1;obtain⟨e2,e3,M2,b1,b2,b3,b4⟩:=Qry a2 hc.2;refine⟨e2.trans e1,by simp[e3],M2,Qc.le_trans a1 b1,b2,fun n=>(a3 n).trans (b3 n) (fun z hz=>List.mem_append_left _ hz) (fun z hz=>List.mem_append_right _ hz) (fun z hz=>by cases hz) (fun z hz=>hz),fun i v x' y' hx hy hv=>?_⟩;cases i with
  |zero=>simp at hx hy;subst hx;subst hy;exact(a4 v hv).mono b1 ρ.le_refl
  |succ i=>exact b4 i v x' y' (by simpa using hx) (by simpa using hy) (hv.mono a1 ρ.le_refl)
theorem Zv.Znc{P:Program}{g:Nat}{args:List SV}{H:List Qa}{K:Qr}(hc:(Z6 args H).1=true)
  (h:Zv P g (Z6 args H).2.1 (Z6 args H).2.2.2 fun r H' t f=>K r H' ((Z6 args H).2.2.1++t) f):Zv P g args H K:=by
 intro M ρ w vs hm hr;obtain⟨e1,e2,M2,b1,b2,b3,b4⟩:=Qry hm hc;refine(h M2 ρ w vs b2 ⟨by rw[hr.1,e2],fun i v y hv hy=>?_⟩).mono ?_
 ·obtain⟨x,hx⟩:∃x,args[i]? =some x:=by
   have:i<args.length:=by rw[←e2];exact(List.getElem?_eq_some_iff.1 hy).1
   exact⟨_,List.getElem?_eq_getElem this⟩
  exact b4 i v x y hx hy (hr.2 i v x hv hx)
 ·rintro e w' ⟨v,r,H',M',ρ',t,f,he,hk,hs,hm',hf⟩
  rw[e1]at hf;exact⟨v,r,H',M',ρ',_,f,he,hk,hs,hm',(b3 _).trans hf (fun z hz=>List.mem_append_left _ hz) (fun z hz=>List.mem_append_right _ hz) (fun z hz=>by cases hz) (fun z hz=>hz)⟩
end Go.Sx
section
namespace Go.Sx
open Go
mutual
def SV.Q9(f:Nat→Option Nat):SV→SV
 |.ptr s sz i j=>match f s with
  |some t=>.ptr t sz i j
  |none=>.any
 |.sl s sz st n=>match f s with
  |some t=>.sl t sz st n
  |none=>.any
 |.mp s=>match f s with
  |some t=>.mp t
  |none=>.any
 |.yld s=>match f s with
  |some t=>.yld t
  |none=>.any
 |.slb s sz st n m=>match f s with
  |some t=>.slb t sz st n m
  |none=>.any
 |.agg l=>.agg (Jb f l)
 |.tup l=>.tup (Jb f l)
 |.fn g a b=>.fn g (Jb f a) (Jb f b)
 |.any=>.any
 |.pv p=>.pv p
def Jb(f:Nat→Option Nat):List SV→List SV
 |[]=>[]
 |x::xs=>x.Q9 f::Jb f xs
end
theorem Qeb(f:Nat→Option Nat)(l:List SV):Jb f l=l.map (SV.Q9 f):=by
 induction l with
 |nil=>rfl
 |cons x xs ih=>simp only[Jb,List.map_cons,ih]
theorem Qd.Q9{M M':Qc}{ρ ρ':Env}{f:Nat→Option Nat}(hM:M.le M')(hf:∀s t p,f s=some t→ρ s=some p→ρ' t=some p){v:Value}{x:SV}(h:Qd M ρ v x):Qd M' ρ' v (x.Q9 f):=by
 induction h with
 |any v=>exact .any v
 |pv h=>exact .pv (h.mono hM)
 |agg cs l hl _ ih=>simp only[SV.Q9,Qeb];refine .agg cs _ (by simpa using hl) fun i v x hv hx=>?_;simp only[List.getElem?_map,Option.map_eq_some_iff]at hx;obtain⟨y,hy,rfl⟩:=hx;exact ih i v y hv hy
 |tup cs l hl _ ih=>simp only[SV.Q9,Qeb];refine .tup cs _ (by simpa using hl) fun i v x hv hx=>?_;simp only[List.getElem?_map,Option.map_eq_some_iff]at hx;obtain⟨y,hy,rfl⟩:=hx;exact ih i v y hv hy
 |ptr s sz i j k p hp hk=>
  simp only[SV.Q9];split
  ·rename_i t ht;exact .ptr t sz i j k p (hf s t p ht hp) hk
  ·exact .any _
 |sl s sz st n c k p hp hk hc hn h6=>
  simp only[SV.Q9];split
  ·rename_i t ht;exact .sl t sz st n c k p (hf s t p ht hp) hk hc hn h6
  ·exact .any _
 |slz s sz st a=>
  simp only[SV.Q9];split
  ·exact .slz _ sz st a
  ·exact .any _
 |mp s p hp=>
  simp only[SV.Q9];split
  ·rename_i t ht;exact .mp t p (hf s t p ht hp)
  ·exact .any _
 |yld s p hp=>
  simp only[SV.Q9];split
  ·rename_i t ht;exact .yld t p (hf s t p ht hp)
  ·exact .any _
 |slb s sz st n m _ hm ih=>
  simp only[SV.Q9]at ih⊢;cases e:f s with
  |some t=>rw[e]at ih;exact .slb t sz st n m ih hm
  |none=>exact .any _
 |fn g a b x y ha hb _ _ ih jh=>
  simp only[SV.Q9,Qeb];refine .fn g a b _ _ (by simpa using ha) (by simpa using hb) (fun i v s hv hs=>?_) (fun i v s hv hs=>?_)
  ·simp only[List.getElem?_map,Option.map_eq_some_iff]at hs;obtain⟨y,hy,rfl⟩:=hs;exact ih i v y hv hy
  ·simp only[List.getElem?_map,Option.map_eq_some_iff]at hs;obtain⟨y,hy,rfl⟩:=hs;exact jh i v y hv hy
def Qa.Q9(f:Nat→Option Nat):Qa→Qa
 |.mix ty sz rows=>.mix ty sz (rows.map (·.map (SV.Q9 f)))
 |.tlnk ty row l r c x=>.tlnk ty row l r c (x.Q9 f)
 |.nest ty ity row ll q=>.nest ty ity row ll (q.map fun x=>(x.1,x.2.Q9 f))
 |.map es c=>.map (es.map fun e=>(e.1,e.2.1.Q9 f,e.2.2)) c
 |.loop l=>.loop {l with T:=l.T.map (SV.Q9 f)}
 |.mit m c s=>.mit (m.bind f) c s
 |o=>o
theorem Jc(f:Nat→Option Nat)(o:Qa):(o.Q9 f).live=o.live:=by cases o<;>rfl
theorem Qi.Zm7(f:Nat→Option Nat):∀(a:Qi) (x:a.El),(a.raw x).Q9 f=a.raw x
 |.val t,x=>rfl
 |.agg row,x=>by
  have:∀l:List PV,Jb f (l.map .pv)=l.map .pv:=fun l=>by
   induction l with
   |nil=>rfl
   |cons x l ih=>simp only[List.map_cons,Jb,SV.Q9,ih]
  simp only[Qi.raw,SV.Q9,this]
theorem Qx.Q9{M M':Qc}{ρ ρ':Env}{w w':World}{s t:Nat}{f:Nat→Option Nat}{o:Qa}(hM:M.le M')(hf:∀s t p,f s=some t→ρ s=some p→ρ' t=some p)(hs:ρ' t=ρ s)
  (hw:∀p b,ρ s=some p→p.has b→w'.heap[b]? =w.heap[b]?) (h:Qx M ρ w s o):Qx M' ρ' w' t (o.Q9 f):=by
 have hws:=hw;replace hw:∀p,ρ s=some p→w'.heap[p.block]? =w.heap[p.block]? :=fun p hp=>hws p _ hp p.self;cases o with
 |dead=>trivial
 |vec ty sz rows=>
  rcases h with⟨h1,h2⟩|⟨p,h1,h2⟩
  ·exact .inl ⟨hs.trans h1,h2⟩
  ·refine .inr ⟨p,hs.trans h1,?_⟩;obtain⟨cs,a1,a2,a3,a4,a5,a6⟩:=h2.ex;refine⟨cs,(hw p h1).trans a1,a2,a3,a4,fun i j x v hx hv=>?_,a6⟩;obtain⟨b1,b2,b3⟩:=a5 i j x v hx hv;refine⟨b1,b2,?_⟩;unfold Zf at hx;simp only[Option.map_eq_some_iff]at hx;obtain⟨q,_,rfl⟩:=hx;cases b3 with
   |pv b3=>exact .pv (b3.mono hM)
 |tvec ty row l=>
  rcases h with⟨h1,h2⟩|⟨p,h1,h2⟩
  ·exact .inl ⟨hs.trans h1,h2⟩
  ·refine .inr ⟨p,hs.trans h1,?_⟩;obtain⟨cs,a1,a2,a3,a4,a5,a6⟩:=h2.ex;refine⟨cs,(hw p h1).trans a1,a2,a3,a4,fun i j x v hx hv=>?_,a6⟩;obtain⟨b1,b2,b3⟩:=a5 i j x v hx hv;refine⟨b1,b2,?_⟩;unfold Zf at hx;simp only[Option.map_eq_some_iff]at hx;obtain⟨q,_,rfl⟩:=hx;cases b3 with
   |pv b3=>exact .pv (b3.mono hM)
 |mix ty sz rows=>
  rcases h with⟨h1,h2⟩|⟨p,h1,h2⟩
  ·exact .inl ⟨hs.trans h1,by simp[h2]⟩
  ·refine .inr ⟨p,hs.trans h1,?_⟩;obtain⟨cs,a1,a2,a3,a4,a5,a6⟩:=h2.ex;have key:∀i j x,Z1 (rows.map (·.map (SV.Q9 f))) i j=some x→∃y,Z1 rows i j=some y∧x=y.Q9 f:=fun i j x hx=>by unfold Z1 at hx;simp only[List.getElem?_map,Option.bind_eq_some_iff,Option.map_eq_some_iff]at hx;obtain⟨r',⟨r,hr,rfl⟩,hx⟩:=hx;simp only[List.getElem?_map,Option.map_eq_some_iff]at hx;obtain⟨y,hy,rfl⟩:=hx;exact⟨y,by simp[Z1,hr,hy],rfl⟩
   refine⟨cs,(hw p h1).trans a1,a2,by simpa using a3,by simpa using a4,fun i j x v hx hv=>?_,fun i j x hx=>?_⟩
   ·obtain⟨y,hy,rfl⟩:=key i j x hx;obtain⟨b1,b2,b3⟩:=a5 i j y v hy hv;exact⟨by simpa using b1,b2,b3.Q9 hM hf⟩
   ·obtain⟨y,hy,rfl⟩:=key i j x hx;simpa using a6 i j y hy
 |tlnk ty row l r c x=>
  rcases h with⟨h1,h2⟩|⟨p,h1,h2⟩
  ·exact .inl ⟨hs.trans h1,h2⟩
  ·refine .inr ⟨p,hs.trans h1,?_⟩;obtain⟨cs,a1,a2,a3,a4,a5,a6⟩:=h2.ex;refine⟨cs,(hw p h1).trans a1,a2,a3,a4,fun i j z v hz hv=>?_,fun i j z hz=>?_⟩
   ·obtain⟨y,hy,rfl,_⟩:=Qou (f:=SV.Q9 f) (fun _=>rfl) hz;obtain⟨b1,b2,b3⟩:=a5 i j y v hy hv;exact⟨b1,b2,b3.Q9 hM hf⟩
   ·obtain⟨y,hy,_⟩:=Qou (f:=SV.Q9 f) (fun _=>rfl) hz;exact a6 i j y hy
 |nest ty ity row ll q=>
  rcases h with⟨h1,h2,h3⟩|⟨p,h1,h2⟩
  ·subst h3;exact .inl ⟨hs.trans h1,h2,rfl⟩
  refine .inr ⟨p,hs.trans h1,h2.goes hM rfl rfl rfl (fun b hb=>hws p b h1 hb) (by cases q<;>rfl) fun i x y v e1 e2 hr=>?_⟩;rw[e1]at e2;simp only[Option.map_some,Option.some.injEq,Prod.mk.injEq,true_and]at e2;subst e2;exact hr.Q9 hM hf
 |map es clock=>obtain⟨p,arr,h1,h2,h3,h4⟩:=h;refine⟨p,arr,hs.trans h1,(hw p h1).trans h2,by simpa using h3,fun i k x b hi=>?_⟩;simp only[List.getElem?_map,Option.map_eq_some_iff]at hi;obtain⟨⟨k',x',b'⟩,he,hq⟩:=hi;simp only[Prod.mk.injEq]at hq;obtain⟨rfl,rfl,rfl⟩:=hq;obtain⟨e,c1,c2,c3,c4⟩:=h4 i k' x' b' he;exact⟨e,c1,c2,c3,c4.Q9 hM hf⟩
 |tmap k v l=>obtain⟨p,arr,h1,h2,h3,h4⟩:=h;refine⟨p,arr,hs.trans h1,(hw p h1).trans h2,h3,fun i kk x b hi=>?_⟩;obtain⟨e,c1,c2,c3,c4⟩:=h4 i kk x b hi;refine⟨e,c1,c2,c3,?_⟩;have:=c4.Q9 hM hf;rw[X3]at hi;simp only[Option.map_eq_some_iff,Prod.mk.injEq]at hi;obtain⟨y,_,_,rfl,_⟩:=hi;rwa[Qi.Zm7]at this
 |iter str pos=>obtain⟨p,h1,h2⟩:=h;exact⟨p,hs.trans h1,(hw p h1).trans h2⟩
 |loop l=>obtain⟨p,fn,tmps,q,h1,h2,h3,h4⟩:=h;refine⟨p,fn,tmps,q,hs.trans h1,(hw p h1).trans h2,h3,fun t x hx=>?_⟩;rw[TT.get_map,Option.map_eq_some_iff]at hx;obtain⟨y,hy,rfl⟩:=hx;exact(h4 t y hy).Q9 hM hf
 |mit m c sn=>
  obtain⟨p,q,sn,h1,h2,h3,h4⟩:=h;refine⟨p,q,sn,hs.trans h1,(hw p h1).trans h2,h3,fun mm e=>?_⟩;cases m with
  |none=>cases e
  |some x=>have e:f x=some mm:=e;obtain⟨pm,a,b⟩:=h4 x rfl;exact⟨pm,hf x mm pm e a,b⟩
 |over st pd=>obtain⟨p,r,h1,h2,h3⟩:=h;exact⟨p,r,hs.trans h1,(hw p h1).trans h2,h3⟩
 |dfr shut=>obtain⟨p,h1,h2⟩:=h;exact⟨p,hs.trans h1,(hw p h1).trans h2⟩
def J8:List Nat→Nat→Nat→Option Nat
 |[],_,_=>none
 |a::l,i,s=>match Nat.beq a s with
  |true=>some i
  |false=>J8 l (i+1) s
theorem Qtg:∀{l:List Nat} {i s t:Nat},J8 l i s=some t→i≤t∧l[t-i]? =some s
 |a::l,i,s,t,h=>by
  unfold J8 at h;split at h
  ·rename_i e;cases h;rw[Nat.eq_of_beq_eq_true e];simp
  ·obtain⟨h1,h2⟩:=Qtg h;refine⟨by omega,?_⟩;rw[show t-i=(t-(i+1))+1 by omega,List.getElem?_cons_succ];exact h2
def Qho(σ:List Nat)(n n0:Nat):Bool:=Nat.beq σ.length n&&decide σ.Nodup
def Qa5(σ:List Nat)(n0:Nat):List Nat:=(List.range n0).filter fun i=>match σ[i]? with
 |some o=>!Nat.beq o i
 |none=>true
theorem Qyd{σ:List Nat}{n0 i:Nat}(hi:i<n0)(h:i∉Qa5 σ n0):σ[i]? =some i:=by
 unfold Qa5 at h;rw[List.mem_filter,List.mem_range]at h;split at h
 ·rename_i o e;rw[e];cases hb:Nat.beq o i with
  |true=>rw[Nat.eq_of_beq_eq_true hb]
  |false=>rw[hb]at h;exact absurd ⟨hi,rfl⟩ h
 ·exact absurd ⟨hi,rfl⟩ h
def Qmj(σ:List Nat)(s:St):St:=
 {T:=s.T.map (SV.Q9 (J8 σ 0)),H:=σ.map fun o=>match s.H[o]? with
   |some x=>x.Q9 (J8 σ 0)
   |none=>.dead,n0:=s.n0,tch:=Qa5 σ s.n0++s.tch,fg:=Qa5 σ s.n0++s.fg,marks:=s.marks,er:=s.er}
theorem Zd5{R:Option Nat}{P:Program}{nt:Nat}{c:Code}{Q:Exit→St→Prop}{s:St}{σ:List Nat}(hm:s.marks=[])(hσ:Qho σ s.H.length s.n0=true)(h:Q4 R P nt c Q (Qmj σ s)):Q4 R P nt c Q s:=by
 simp only[Qho,Bool.and_eq_true,decide_eq_true_eq]at hσ;obtain⟨h1,h2⟩:=hσ;have h1:σ.length=s.H.length:=Nat.eq_of_beq_eq_true h1;have h3:∀i,i<s.n0→i∉Qa5 σ s.n0→σ[i]? =some i:=fun i hi hx=>Qyd hi hx;refine Q4.Qch (fun B M ρ a w hg=>⟨fun t=>match σ[t]? with
  |some o=>ρ o
  |none=>none,?_,?_⟩) h
 all_goals
  have hat:∀t o:Nat,σ[t]? =some o→(match σ[t]? with
   |some o=>ρ o
   |none=>none)=ρ o:=fun t o e=>by rw[e]
  have hf:∀(s' t:Nat) (p:Place),J8 σ 0 s'=some t→ρ s'=some p→(match σ[t]? with
   |some o=>ρ o
   |none=>none)=some p:=fun s' t p e hp=>by
   have:=(Qtg e).2;rw[Nat.sub_zero]at this;rw[this];exact hp
  have hobj:∀(t:Nat) (x:Qa),(σ.map fun o=>match s.H[o]? with
   |some x=>x.Q9 (J8 σ 0)
   |none=>.dead)[t]? =some x→∃o,σ[t]? =some o∧(x=.dead∨∃y,s.H[o]? =some y∧x=y.Q9 (J8 σ 0)):=fun t x hx=>by
   rw[List.getElem?_map,Option.map_eq_some_iff]at hx;obtain⟨o,ho,hx⟩:=hx;refine⟨o,ho,?_⟩;split at hx
   ·rename_i y hy;exact .inr ⟨y,hy,hx.symm⟩
   ·exact .inl hx.symm
  have hm':=hg.mem
 ·refine⟨fun t x hx=>?_,hg.sz,⟨hm'.imm,fun t x hx=>?_,fun t x p b hx hl hp hb=>?_,fun t t' x x' p p' b hx hx' hl hl' hp hp' hb hb'=>?_,fun t ht=>?_,fun t x p b hx hl hp hb=>?_⟩,?_,fun m hmm=>?_,?_,hg.fix⟩
  ·have hx:(s.T.map (SV.Q9 (J8 σ 0))).get t=some x:=hx;rw[TT.get_map,Option.map_eq_some_iff]at hx;obtain⟨y,hy,rfl⟩:=hx;exact(hg.tm t y hy).Q9 M.le_refl hf
  ·obtain⟨o,ho,hx⟩:=hobj t x hx;rcases hx with rfl|⟨y,hy,rfl⟩
   ·trivial
   ·exact(hm'.own o y hy).Q9 M.le_refl hf (hat t o ho) fun _ _ _ _=>rfl
  ·obtain⟨o,ho,hx⟩:=hobj t x hx;rcases hx with rfl|⟨y,hy,rfl⟩
   ·cases hl
   ·rw[Jc]at hl;exact hm'.seps o y p b hy hl ((hat t o ho).symm.trans hp) hb
  ·obtain⟨o,ho,hx⟩:=hobj t x hx;obtain⟨o',ho',hx'⟩:=hobj t' x' hx';rcases hx with rfl|⟨y,hy,rfl⟩
   ·cases hl
   ·rcases hx' with rfl|⟨y',hy',rfl⟩
    ·cases hl'
    ·rw[Jc]at hl hl';have:=hm'.diss o o' y y' p p' b hy hy' hl hl' ((hat t o ho).symm.trans hp) ((hat t' o' ho').symm.trans hp') hb hb';subst this;obtain⟨a1,a2⟩:=List.getElem?_eq_some_iff.1 ho;obtain⟨b1,b2⟩:=List.getElem?_eq_some_iff.1 ho';exact(List.getElem_inj (h₀:=a1) (h₁:=b1) h2).1 (a2.trans b2.symm)
  ·have ht:σ.length≤t:=by simpa[Qmj]using ht
   rw[List.getElem?_eq_none ht]
  ·obtain⟨o,ho,hx⟩:=hobj t x hx;rcases hx with rfl|⟨y,hy,rfl⟩
   ·cases hl
   ·rw[Jc]at hl;exact hm'.lts o y p b hy hl ((hat t o ho).symm.trans hp) hb
  ·have:=hg.df;rw[hm]at this;show Uq _ s.marks _;rw[hm];exact⟨this.1,fun i d q _ hq=>by simp at hq⟩
  ·have hmm:m∈s.marks:=hmm;rw[hm]at hmm;cases hmm
  ·show s.n0≤(σ.map _).length;rw[List.length_map,h1];exact hg.nle
 ·refine⟨⟨M.le_refl,fun b o e e'=>(by rw[e]at e';cases e'),fun b hb=>?_,fun _ _ _=>rfl,Nat.le_refl _,fun i o hi hx ho hl=>?_,fun i hi hx=>?_,rfl,rfl⟩,rfl,fun _ h=>List.mem_append_right _ h,fun _ h=>List.mem_append_right _ h⟩
  ·obtain⟨t,x,p,hx,hl,hp,hb⟩:=hb;obtain⟨o,ho,hx⟩:=hobj t x hx;rcases hx with rfl|⟨y,hy,rfl⟩
   ·cases hl
   ·rw[Jc]at hl;exact .inr ⟨o,y,p,hy,hl,(hat t o ho).symm.trans hp,hb⟩
  ·refine⟨⟨o.Q9 (J8 σ 0),?_,by rw[Jc];exact hl⟩,fun p hp=>?_⟩
   ·show(σ.map _)[i]? =_;rw[List.getElem?_map,(h3 i hi fun hy=>hx (List.mem_append_left _ hy))];simp[ho]
   ·rw[hat i i ((h3 i hi fun hy=>hx (List.mem_append_left _ hy)))]
    first|exact hp|exact⟨hp,fun _ _=>rfl⟩|simp_all
  ·exact hat i i ((h3 i hi fun hy=>hx (List.mem_append_left _ hy)))
def Ut(T:TT):List Nat→List Nat
 |[]=>[]
 |t::l=>match T.get t with
  |some (.ptr k _ _ _)=>k::Ut T l
  |some (.sl k _ _ _)=>k::Ut T l
  |_=>Ut T l
def Qu9(slots:List Nat)(s:St):List Nat:=((List.range s.H.length).filter fun i=>!(Ut s.T slots).contains i)++Ut s.T slots
def Qp1(slots:List Nat)(s:St):List Nat:=match slots with
 |[k,t]=>match Nat.ble 10000 k with
  |true=>match Ut s.T [t]with
   |[o]=>(List.range s.H.length).map fun i=>bif Nat.beq i (k-10000)then o else bif Nat.beq i o then k-10000 else i
   |_=>List.range s.H.length
  |false=>Qu9 slots s
 |_=>Qu9 slots s
end Go.Sx
end
section
namespace Go.Sx
open Go
theorem Qd.sim{M M':Qc}{ρ ρ':Env}(hM:M.le M')(hρ:Env.Qah [] ρ ρ'){v:Value}{x:SV}(h:Qd M ρ v x):Qd M' ρ' v x:=by have:=h.Jo hM hρ;rwa[SV.X6]at this
theorem Qx.sim{M M':Qc}{ρ ρ':Env}{w:World}{s:Nat}{o:Qa}(hM:M.le M')(hρ:Env.Qah [] ρ ρ')(hs:ρ' s=ρ s)(h:Qx M ρ w s o):Qx M' ρ' w s o:=by have:=h.Jo hM hρ hs (fun _ _ _ _=>rfl);rwa[Qa.X6]at this
theorem Xl.pure{M M':Qc}{ρ ρ':Env}{w:World}{p:Place}{ty sz n:Nat}{rows:List (List PV)}{subs:List Nat}(hM:M.le M')(h:Xl M ρ w p ty sz n (Zf rows)):Xl M' ρ' w ⟨p.block,p.cap,subs⟩ ty sz n (Zf rows):=by
 obtain⟨cs,a1,a2,a3,a4,a5,a6⟩:=h.ex;refine⟨cs,a1,a2,a3,a4,fun i j x v hx hv=>?_,a6⟩;obtain⟨b1,b2,b3⟩:=a5 i j x v hx hv;refine⟨b1,b2,?_⟩;unfold Zf at hx;simp only[Option.map_eq_some_iff]at hx;obtain⟨q,_,rfl⟩:=hx;cases b3 with
 |pv b3=>exact .pv (b3.mono hM)
theorem Uq.sim{ρ ρ':Env}{marks:List Nat}{ds:List Deferred}(hρ:Env.Qah [] ρ ρ')(h:Uq ρ marks ds):Uq ρ' marks ds:=
 ⟨h.1,fun i d s hd hs=>let⟨p,h1,h2⟩:=h.2 i d s hd hs;let⟨p',g1,g2,_⟩:=hρ s p rfl h1;⟨p',g1,by rw[g2];exact h2⟩⟩
open Classical in
def TI.Znh(b:Bool)(i:TI):TI:={i with row:=match b with
 |true=>none
 |false=>i.row}
def Cx.raw(e:Nat)(cx:Cx):Cx:={P:=cx.P,tab:=cx.tab.map fun x=>(x.1,x.2.Znh (Nat.beq x.1 e)),fns:=cx.fns}
def Qc7(slot:Nat)(s:St):Option St:=match s.T.get slot with
 |some (.sl d sz st n)=>some {s with T:=s.T.set slot (.slb d sz st n n)}
 |_=>none
def Qdf(slot:Nat)(s:St):Option St:=match s.T.get slot with
 |some (.slb d sz st n _)=>some {s with T:=s.T.set slot (.sl d sz st n)}
 |_=>none
theorem Qsu{R:Option Nat}{P:Program}{nt:Nat}{c:Code}{Q:Exit→St→Prop}{s:St}{slot:Nat}{x y:SV}(hx:s.T.get slot=some x)(hi:∀M ρ v,Qd M ρ v x→Qd M ρ v y)(h:Q4 R P nt c Q {s with T:=s.T.set slot y}):Q4 R P nt c Q s:=by
 refine Q4.Qch (s':={s with T:=s.T.set slot y}) (fun B M ρ a w hg=>⟨ρ,⟨fun t z hz=>?_,hg.sz,hg.mem,hg.df,hg.mks,hg.nle,hg.fix⟩,⟨Fr.refl ..,rfl,fun _ h=>h,fun _ h=>h⟩⟩) h;rcases TT.X5 _ _ _ _ _ hz with⟨rfl,rfl⟩|⟨_,hz⟩
 ·exact hi _ _ _ (hg.tm _ _ hx)
 ·exact hg.tm t z hz
theorem Zl1{R:Option Nat}{P:Program}{nt:Nat}{c:Code}{Q:Exit→St→Prop}{s s':St}{slot:Nat}(hs:Qc7 slot s=some s')(h:Q4 R P nt c Q s'):Q4 R P nt c Q s:=by
 unfold Qc7 at hs;split at hs
 ·rename_i d sz st n hx;cases hs;refine Qsu hx (fun M ρ v hr=>?_) h;refine .slb _ _ _ _ _ hr ?_;cases hr with
  |sl _ _ _ _ c k p hp hk hc hn h6=>exact⟨_,_,_,rfl,hn⟩
  |slz=>exact⟨_,_,_,rfl,Nat.le_refl _⟩
 ·cases hs
theorem Qx1{R:Option Nat}{P:Program}{nt:Nat}{c:Code}{Q:Exit→St→Prop}{s s':St}{slot:Nat}(hs:Qdf slot s=some s')(h:Q4 R P nt c Q s'):Q4 R P nt c Q s:=by
 unfold Qdf at hs;split at hs
 ·rename_i d sz st n m hx;cases hs;exact Qsu hx (fun M ρ v hr=>hr.unslb) h
 ·cases hs
end Go.Sx
end
namespace Go.Sx
open Go
theorem set_self{α:Type}{r:List α}{j:Nat}{z:α}(h:r[j]? =some z):r.set j z=r:=by
 apply List.ext_getElem?;intro i;rw[List.getElem?_set];split
 ·rename_i e;subst e;rw[h,if_pos (List.getElem?_eq_some_iff.1 h).1]
 ·rfl
end Go.Sx
section
namespace Go.Sx
open Go
end Go.Sx
end
section
namespace Go.Sx
open Go
inductive Zb where
 |leaf
 |one (a:Zb)
 |two (a b:Zb)
 |loop (τ:Q3) (l:Zz) (f:Zr) (F:Nat) (a:Zb)
 |join (l:Zz) (f:Zr) (a:Zb)
 |virt (slot ty:Nat) (row:List Ty) (a:Zb)
 |within (l:List (Nat×Zb))
 |virtF (ob col ty:Nat) (row:List Ty) (a:Zb)
 |typ (k ty:Nat) (row:List Ty) (a:Zb)
 |phase (τ:Q3) (l:Zz) (f:Zr) (F:Nat) (a b:Zb)
 |norm (slots:List Nat) (a:Zb)
 |low
 |slb (slot:Nat) (a:Zb)
 |unslb (slot:Nat) (a:Zb)
def Zb.fst:Zb→Zb
 |.one a=>a
 |.two a _=>a
 |_=>.leaf
def Zb.snd:Zb→Zb
 |.two _ b=>b
 |_=>.leaf
structure Sm where
 pre:List SV→List Qa→Bool
 run:(X:Type)→List SV→List Qa→KO X→Option X
structure Yn (cx:Cx) (g:Nat) (sm:Sm):Prop where
 fn:∃fn,cx.fns.lookup g=some fn
 ok:∀(X:Type) (args:List SV) (H:List Qa) (k:KO X) (y:X),sm.run X args H k=some y→Zv cx.P g args H fun x H' t f=>k x H' t f=some y
structure Lx where
 ext:List (Nat×Sm)
 anns:List (Nat×Zb)
 still:List Nat
 unk:Option (Nat→Sm):=none
def Sm.first:List (Nat×Sm)→Nat→(X:Type)→List SV→List Qa→KO X→Option X
 |[],_,_,_,_,_=>none
 |q::l,g,X,args,H,k=>match Nat.beq q.1 g with
  |false=>Sm.first l g X args H k
  |true=>match q.2.pre args H with
   |true=>q.2.run X args H k
   |false=>Sm.first l g X args H k
def Lx.has(l:List (Nat×Sm))(g:Nat)(args:List SV)(H:List Qa):Bool:=l.any fun q=>match Nat.beq q.1 g with
 |true=>q.2.pre args H
 |false=>false
structure Lx.Ok (cx:Cx) (lx:Lx):Prop where
 ext:∀q∈lx.ext,Yn cx q.1 q.2
 unk:lx.unk=none
theorem Sm.Qe3{cx:Cx}:∀{l:List (Nat×Sm)} (_:∀q∈l,Yn cx q.1 q.2) {g:Nat} {X:Type} {args:List SV} {H:List Qa} {k:KO X} {y:X},Sm.first l g X args H k=some y→(∃fn,cx.fns.lookup g=some fn)∧Zv cx.P g args H fun x H' t f=>k x H' t f=some y
 |[],_,g,X,args,H,k,y,h=>by cases h
 |q::l,hl,g,X,args,H,k,y,h=>by
  simp only[Sm.first]at h;split at h
  ·exact Sm.Qe3 (fun q hq=>hl q (List.mem_cons_of_mem _ hq)) h
  ·rename_i e;have e:=Nat.eq_of_beq_eq_true e;subst e;split at h
   ·have:=hl q List.mem_cons_self;exact⟨this.fn,this.ok X args H k y h⟩
   ·exact Sm.Qe3 (fun q hq=>hl q (List.mem_cons_of_mem _ hq)) h
abbrev Ym:=(X:Type)→(X→X→Bool)→Zb→Bool→Nat→Code→St→KX X→Option X
def Jr(cx:Cx)(rec:Ym):Prop:=∀(X:Type) (eq:X→X→Bool) (_:Zj eq) R an top nt c s (k:KX X) (y:X),(top=true→R=none)→rec X eq an top nt c s k=some y→Q4 R cx.P nt c (fun e s'=>k e s'=some y) s
section
variable {X:Type}
def Qix(z:Bool)(H:List Qa)(r:SV)(H':List Qa)(t g:List Nat)(k:KO X):Option X:=
 match g.isEmpty&&(Nat.ble H.length H'.length&&((z||r.free H.length)&&Qdy H.length H' t))with
 |true=>match Qa8 H' H.length 1000 r with
  |some r'=>k r' (J5 t H H') t []
  |none=>k r H' t g
 |false=>k r H' t g
theorem Zco{z:Bool}{H:List Qa}{r:SV}{H':List Qa}{t g:List Nat}{k:KO X}{y:X}(h:Qix z H r H' t g k=some y):Left H (fun x H' t f=>k x H' t f=some y) r H' t g:=by
 unfold Qix at h;split at h
 ·rename_i e;simp only[Bool.and_eq_true,List.isEmpty_iff]at e;split at h
  ·rename_i r' hr';exact .inl ⟨e.1,Nat.le_of_ble_eq_true e.2.1,fun s hs o ho _=>Qtf e.2.2.2 s hs o ho,r',1000,hr',h⟩
  ·exact .inr h
 ·exact .inr h
def Wk(cx:Cx)(s:St):List ResultVar→(List SV→Option X)→Option X
 |[],k=>k []
 |.tmp t::rs,k=>Wk cx s rs fun l=>k (s.ev (.tmp t)::l)
 |.cell a t::rs,k=>(Vw cx.tab s.H t (s.ev (.tmp a))).Xr (fun _ _=>false) (fun x=>Wk cx s rs fun l=>k (x::l)) fun x _ _ _=>Wk cx s rs fun l=>k (x::l)
theorem Va{cx:Cx}{s:St}{y:X}:∀(rs:List ResultVar) (k:List SV→Option X),Wk cx s rs k=some y→X0 cx s rs fun l=>k l=some y
 |[],k,h=>h
 |.tmp t::rs,k,h=>Va rs _ h
 |.cell a t::rs,k,h=>Qn.Vx (fun _ _ h=>by cases h) (fun x h=>Va rs _ h) (fun x _ _ _ h=>Va rs _ h) h
def Qac:Exit→Bool
 |.normal=>true
 |.ret=>true
 |_=>false
theorem Qcd{e:Exit}(h:Qac e=true):e=.normal∨e=.ret:=by
 cases e with
 |normal=>exact .inl rfl
 |ret=>exact .inr rfl
 |_=>cases h
def Qrz(cx:Cx)(fn:Func)(z:Bool)(H:List Qa)(k:KO X):KX X:=fun e s=>
 gd (Qac e&&(s.marks.isEmpty||Nat.ble H.length s.H.length)) (match shut s.marks s.H with
  |none=>none
  |some H'=>Wk cx {s with H:=H',marks:=[]} fn.results.toList fun l=>Qix z H (Zo l) H' s.tch s.fg k)
theorem Zmz{cx:Cx}{fn:Func}{z:Bool}{H:List Qa}{k:KO X}{e:Exit}{s:St}{y:X}(h:Qrz cx fn z H k e s=some y):
  (e = .normal ∨ e = .ret) ∧ (H.length ≤ s.H.length ∨ s.marks = []) ∧ ∃ H',shut s.marks s.H = some H' ∧ X0 cx { s with H := H',marks := [] } fn.results.toList fun l =>
   Left H (fun x H' t f=>k x H' t f=some y) (Zo l) H' s.tch s.fg:=by
 obtain⟨hc,h⟩:=Zd h;simp only[Bool.and_eq_true,Bool.or_eq_true,List.isEmpty_iff]at hc;split at h
 ·cases h
 ·rename_i H' hs;exact⟨Qcd hc.1,hc.2.symm.imp (fun h=>Nat.le_of_ble_eq_true h) id,H',hs,Wb _ _ _ (fun l hl=>Zco hl) (Va _ _ h)⟩
def K7(rec:Ym)(eq:X→X→Bool)(ab:Zb)(s:Nat)(args:List SV)(H:List Qa)(k:KO X):Option X:=
 match H[s]? with
 |some (.loop L)=>gd (Nat.beq L.params.toList.length args.length&&L.params.toList.all fun p=>Nat.blt p L.nt) (rec X eq .leaf false L.nt L.assign (Qc4 L args H) fun e s1=>match e with
  |.normal=>gd (!s1.fg.contains s&&Nat.ble H.length s1.H.length) (match s1.H[s]? with
   |some (.loop L1)=>gd (isReady L1.state&&L1.pending.isNone) (rec X eq ab false L.nt L.body (J2 s L1 s1) fun e s2=>match Qjt e with
    |none=>none
    |some jump=>gd (!s2.fg.contains s&&Nat.ble H.length s2.H.length) (match s2.H[s]? with
     |some (.loop L2)=>k (.lit (.bool jump.isNone)) (Qfx s L2 jump s2.H) (Qpf s jump s2.tch) s2.fg
     |_=>none))
   |_=>none)
  |_=>none)
 |_=>none
theorem Qpg{cx:Cx}{rec:Ym}(hrec:Jr cx rec){eq:X→X→Bool}(he:Zj eq){ab:Zb}{s:Nat}{args:List SV}{H:List Qa}{k:KO X}{y:X}
  (h:K7 rec eq ab s args H k=some y):Vk cx.P s args H fun x H' t f=>k x H' t f=some y:=by
 unfold K7 at h;split at h
 ·rename_i L hH;obtain⟨hc,h⟩:=Zd h;rw[Bool.and_eq_true]at hc;refine Zih hH (Nat.eq_of_beq_eq_true hc.1) hc.2 fun R=>?_;refine(hrec X eq he R _ false _ _ _ _ y (fun e=>by cases e) h).mono fun e s1 h1=>?_;cases e with
  |normal=>
   obtain⟨hc1,h1⟩:=Zd h1;rw[Bool.and_eq_true]at hc1;split at h1
   ·rename_i L1 hL1;obtain⟨hc2,h1⟩:=Zd h1;rw[Bool.and_eq_true]at hc2;refine⟨rfl,Qb4 hc1.1,Nat.le_of_ble_eq_true hc1.2,L1,hL1,Zey hc2.1,Option.isNone_iff_eq_none.1 hc2.2,?_⟩;refine(hrec X eq he R _ false _ _ _ _ y (fun e=>by cases e) h1).mono fun e s2 h2=>?_;cases hj:Qjt e with
    |none=>simp only[hj]at h2;cases h2
    |some jump=>
     simp only[hj]at h2;obtain⟨hc3,h2⟩:=Zd h2;rw[Bool.and_eq_true]at hc3;split at h2
     ·rename_i L2 hL2;exact⟨jump,rfl,Qb4 hc3.1,Nat.le_of_ble_eq_true hc3.2,L2,hL2,h2⟩
     ·cases h2
   ·cases h1
  |_=>cases h1
 ·cases h
def Lx.Qvl(lx:Lx)(g n:Nat):Option Zb:=match lx.anns.lookup (g+10000000*(n+1))with
 |some a=>some a
 |none=>lx.anns.lookup g
def Qee(lx:Lx)(g:Nat)(args:List SV)(H:List Qa)(k:KO X):Option X:=match Z6 args H with
 |(c,as,S,H1)=>gd c (match Lx.has lx.ext g as H1 with
  |true=>Sm.first lx.ext g X as H1 fun x H' t f=>k x H' (S++t) f
  |false=>match lx.unk with
   |some f=>(f g).run X as H1 fun x H' t f=>k x H' (S++t) f
   |none=>none)
theorem Zfx{cx:Cx}{lx:Lx}(hlx:lx.Ok cx){g:Nat}{args:List SV}{H:List Qa}{k:KO X}{y:X}(h:Qee lx g args H k=some y):
  (∃fn,cx.fns.lookup g=some fn)∧Zv cx.P g args H fun x H' t f=>k x H' t f=some y:=by
 unfold Qee at h;obtain⟨hc,h⟩:=Zd (c:=(Z6 args H).1) (x:=match Lx.has lx.ext g (Z6 args H).2.1 (Z6 args H).2.2.2 with
  |true=>Sm.first lx.ext g X (Z6 args H).2.1 (Z6 args H).2.2.2 fun x H' t f=>k x H' ((Z6 args H).2.2.1++t) f
  |false=>match lx.unk with
   |some f=>(f g).run X (Z6 args H).2.1 (Z6 args H).2.2.2 fun x H' t f=>k x H' ((Z6 args H).2.2.1++t) f
   |none=>none) h
 split at h
 ·obtain⟨h1,h2⟩:=Sm.Qe3 hlx.ext h;exact⟨h1,Zv.Znc hc h2⟩
 ·rw[hlx.unk]at h;cases h
def Jq(cx:Cx)(lx:Lx)(rec:Ym)(eq:X→X→Bool):X2 X
 |true,s,args,H,k=>match lx.anns.lookup (1000000+s)with
  |some a=>K7 rec eq a s args H k
  |none=>match lx.unk with
   |some f=>(f (1000000+s)).run X args H k
   |none=>K7 rec eq .leaf s args H k
 |false,g,args,H,k=>
  match lx.Qvl g H.length with
  |some a=>walkO a g args H k
  |none=>match lx.anns.lookup (2000000+g)with
   |some _=>Qee lx g args H k
   |none=>match Lx.has lx.ext g args H with
    |true=>Sm.first lx.ext g X args H k
    |false=>match lx.unk with
     |some f=>(f g).run X args H k
     |none=>walkO .leaf g args H k
where walkO (a:Zb) (g:Nat) (args:List SV) (H:List Qa) (k:KO X):Option X:=match cx.fns.lookup g with
 |none=>none
 |some fn=>match fn.body with
  |none=>none
  |some c=>gd (Nat.ble args.length fn.ntmps) (rec X eq a true fn.ntmps c (.entry args H) (Qrz cx fn (lx.still.contains g) H k))
theorem Qu6{cx:Cx}(hcx:cx.Ok){lx:Lx}{rec:Ym}(hrec:Jr cx rec){eq:X→X→Bool}(he:Zj eq){a:Zb}{g:Nat}{args:List SV}{H:List Qa}{k:KO X}{y:X}(h:Jq.walkO cx lx rec eq a g args H k=some y):
  (∃fn,cx.fns.lookup g=some fn)∧Zv cx.P g args H fun x H' t f=>k x H' t f=some y:=by
 unfold Jq.walkO at h;split at h
 ·cases h
 ·rename_i fn hfn;split at h
  ·cases h
  ·rename_i c hb;obtain⟨hc,h⟩:=Zd h;refine⟨⟨fn,hfn⟩,?_⟩;exact Zv.leave (Qbw hcx hfn hb (Nat.le_of_ble_eq_true hc) ((hrec X eq he none _ true _ _ _ _ y (fun _=>rfl) h).mono fun e s hs=>Zmz hs))
theorem Qsr{cx:Cx}(hcx:cx.Ok){lx:Lx}(hlx:lx.Ok cx){rec:Ym}(hrec:Jr cx rec){eq:X→X→Bool}(he:Zj eq):X2.Ok cx (Jq cx lx rec eq):=by
 refine⟨fun g args H k y h=>?_,fun s args H k y h=>?_⟩
 ·have h:(match lx.Qvl g H.length with
   |some a=>Jq.walkO cx lx rec eq a g args H k
   |none=>match lx.anns.lookup (2000000+g)with
    |some _=>Qee lx g args H k
    |none=>match Lx.has lx.ext g args H with
     |true=>Sm.first lx.ext g X args H k
     |false=>match lx.unk with
      |some f=>(f g).run X args H k
      |none=>Jq.walkO cx lx rec eq .leaf g args H k)=some y:=h
  split at h
  ·exact Qu6 hcx hrec he h
  ·split at h
   ·exact Zfx hlx h
   split at h
   ·exact Sm.Qe3 hlx.ext h
   ·rw[hlx.unk]at h;exact Qu6 hcx hrec he h
 ·have h:(match lx.anns.lookup (1000000+s)with
   |some a=>K7 rec eq a s args H k
   |none=>match lx.unk with
    |some f=>(f (1000000+s)).run X args H k
    |none=>K7 rec eq .leaf s args H k)=some y:=h
  split at h
  ·exact Qpg hrec he h
  ·rw[hlx.unk]at h;exact Qpg hrec he h
def Qo0(cb:X2 X)(rec:Ym)(eq:X→X→Bool)(nt:Nat)(g:Operand)(ps:Array Tmp)(assign body:Code)(s:St)(k:KX X):Option X:=
 gd (Nat.ble s.n0 s.H.length) (match Qd5 (s.ev g) (.yld (s.H.length+1))with
 |none=>none
 |some (gf,args)=>cb false gf args (Qdg s nt ps assign body) fun r H' t f=>
  gd ((!f.contains s.H.length&& !f.contains (s.H.length+1))&&((s.marks.all fun m=>!f.contains m&&Nat.blt m s.H.length)&&Nat.ble s.n0 H'.length)) (match loopAt H'[s.H.length+1]? with
  |some (st,pd)=>gd (Qpp st) (match pd with
   |none=>k .normal (Js s none H' t f)
   |some c=>rec X eq .leaf true nt c (Js s (some c) H' t f) k)
  |none=>none))
theorem Zcz{cx:Cx}(hcx:cx.Ok){cb:X2 X}(hcb:cb.Ok cx){rec:Ym}(hrec:Jr cx rec){eq:X→X→Bool}(he:Zj eq){nt:Nat}{g:Operand}{ps:Array Tmp}{assign body:Code}{s:St}{k:KX X}{y:X}
  (h:Qo0 cb rec eq nt g ps assign body s k=some y):Q4 none cx.P nt (.rangeFunc g ps assign body) (fun e s'=>k e s'=some y) s:=by
 obtain⟨hn,h⟩:=Zd h;cases ht:Qd5 (s.ev g) (.yld (s.H.length+1))with
 |none=>simp only[ht]at h;cases h
 |some q=>
  obtain⟨gf,args⟩:=q;simp only[ht]at h;obtain⟨⟨fn,hfn⟩,h⟩:=hcb.ok _ _ _ _ _ h;refine Zgi hcx (Nat.le_of_ble_eq_true hn) ht hfn (h.mono fun r H' t f h=>?_);obtain⟨hc,h⟩:=Zd h;simp only[Bool.and_eq_true]at hc;obtain⟨⟨h1,h2⟩,h3,h4⟩:=hc;split at h
  ·rename_i st pd hL;obtain⟨hc5,h⟩:=Zd h;refine⟨Qb4 h1,Qb4 h2,fun m hm=>?_,Nat.le_of_ble_eq_true h4,st,pd,hL,Zj2 hc5,?_⟩
   ·have:=List.all_eq_true.1 h3 m hm;simp only[Bool.and_eq_true]at this;exact⟨Qb4 this.1,Wi this.2⟩
   ·split at h
    ·exact h
    ·exact hrec X eq he none _ true _ _ _ _ y (fun _=>rfl) h
  ·cases h
def Qub(rec:Ym)(l:Zz)(f:Zr)(an:Zb)(top:Bool)(nt:Nat)(c:Code)(s:St)(k:KX X):Option X:=
 gd (s.marks.isEmpty&&(f.ok&&Jw f l)) (match rec (Zi l) (Zi.eqv l) an top nt c s.sub (fun e s'=>Xv f s.H.length l e s')with
  |some x=>Qa3 f s l x fun e s1=>k e (s.outer s1)
  |none=>none)
theorem Ziw{cx:Cx}{rec:Ym}(hrec:Jr cx rec){l:Zz}{f:Zr}{an:Zb}{R:Option Nat}{top:Bool}{nt:Nat}{c:Code}{s:St}{k:KX X}{y:X}(ht:top=true→R=none)
  (h:Qub rec l f an top nt c s k=some y):Q4 R cx.P nt c (fun e s'=>k e s'=some y) s:=by
 obtain⟨hc,h⟩:=Zd h;simp only[Bool.and_eq_true,List.isEmpty_iff]at hc;split at h
 ·rename_i x hx;rw[Qbb]at h;exact Zk7 hc.1 hc.2.1 hc.2.2 (hrec _ _ (Zi.eqv_ok l) R _ top _ _ _ _ x ht hx) h
 ·cases h
def Qab:Exit→Bool
 |.normal=>true
 |_=>false
def Qc5(rec:Ym)(τ:Q3)(l:Zz)(f:Zr)(F:Nat)(an:Zb)(top:Bool)(nt:Nat)(c:Code)(s:St)(k:KX X):Option X:=
 gd (s.marks.isEmpty&&(f.ok&&(Jw f l&&(τ.Jl (f.of τ)&&l.all fun a=>!Qab a.1)))) (match Xo τ f s.H.length s.sub with
  |some x0=>match Z7 (fun x=>rec (τ.El ⊕ Zi l) (Qbm (Zs.eqv τ.cells) (Zi.eqv l)) an top nt c (τ.st f.D (f.of τ) f.mv s x) (Qb5 f s.H.length τ l)) F x0 with
   |some y=>Qa3 f s l y fun e s1=>k e (s.outer s1)
   |none=>none
  |none=>none)
def Qkl(rec:Ym)(top:Bool)(nt:Nat)(c:Code):Zb→St→KX X→Option X
 |.loop τ l f F a,s,k=>Qc5 rec τ l f F a top nt c s k
 |.phase τ l f F a b,s,k=>gd (s.marks.isEmpty&&(f.ok&&(Jw f l&&τ.Jl (f.of τ)))) (match Xo τ f s.H.length s.sub with
  |some x0=>match Z7 (fun x=>rec (τ.El ⊕ Zi l) (Qbm (Zs.eqv τ.cells) (Zi.eqv l)) a top nt c (τ.st f.D (f.of τ) f.mv s x) (Qig f s.H.length τ l)) F x0 with
   |some y=>Qa3 f s l y fun e s1=>match Qab e with
    |true=>Qkl rec top nt c b (s.outer s1) k
    |false=>k e (s.outer s1)
   |none=>none
  |none=>none)
 |_,_,_=>none
theorem Qjk{f:Zr}{s:St}:∀{l:Zz} (x:Zi l),(l.all fun a=>!Qab a.1)=true→(Yc f s l x).1≠.normal
 |[],x,_=>Empty.elim x
 |[a],x,h=>by simp only[List.all_cons,List.all_nil,Bool.and_true,Bool.not_eq_true']at h;intro e;simp only[Yc]at e;rw[e]at h;cases h
 |a::a'::l,.inl x,h=>by simp only[List.all_cons,Bool.and_eq_true,Bool.not_eq_true']at h;intro e;simp only[Yc]at e;rw[e]at h;cases h.1
 |a::a'::l,.inr x,h=>by
  have h':((a'::l).all fun a=>!Qab a.1)=true:=by simp only[List.all_cons,Bool.and_eq_true]at h⊢;exact h.2
  simp only[Yc];exact Qjk x h'
theorem Zba{cx:Cx}{rec:Ym}(hrec:Jr cx rec){τ:Q3}{l:Zz}{f:Zr}{F:Nat}{an:Zb}{R:Option Nat}{top:Bool}{nt:Nat}{c:Code}{s:St}{k:KX X}{y:X}(ht:top=true→R=none)
  (h:Qc5 rec τ l f F an top nt c s k=some y):Q4 R cx.P nt (.loop c) (fun e s'=>k e s'=some y) s:=by
 obtain⟨hc,h⟩:=Zd h;simp only[Bool.and_eq_true,List.isEmpty_iff]at hc;obtain⟨c1,c2,c3,c4,c5⟩:=hc;split at h
 ·rename_i x0 hx0;split at h
  ·rename_i z hz;rw[Qbb]at h;exact Zmt c1 c2 c3 c4 (fun x r hr=>hrec _ _ (Qd3 (Zs.eqv_ok _) (Zi.eqv_ok _)) R _ top _ _ _ _ r ht hr) hx0 hz (Qjk z c5) h
  ·cases h
 ·cases h
theorem Zkj{cx:Cx}{rec:Ym}(hrec:Jr cx rec){τ:Q3}{l:Zz}{f:Zr}{F:Nat}{an:Zb}{R:Option Nat}{top:Bool}{nt:Nat}{c:Code}{s:St}{k:KX X}{y:X}(ht:top=true→R=none)
  (h:Qc5 rec τ l f F an top nt c s k=some y):Uo R cx.P nt c (fun e s'=>k e s'=some y) s:=by
 obtain⟨hc,h⟩:=Zd h;simp only[Bool.and_eq_true,List.isEmpty_iff]at hc;obtain⟨c1,c2,c3,c4,c5⟩:=hc;split at h
 ·rename_i x0 hx0;split at h
  ·rename_i z hz;rw[Qbb]at h;exact Qs8 (fun e s' r h=>Qzj h) c1 c2 c3 c4 (fun x r hr=>hrec _ _ (Qd3 (Zs.eqv_ok _) (Zi.eqv_ok _)) R _ top _ _ _ _ r ht hr) hx0 hz (fun hn=>absurd hn (Qjk z c5)) (fun _=>h)
  ·cases h
 ·cases h
theorem Ze9{e:Exit}(h:Qab e=true):e=.normal:=by cases e<;>first|rfl|cases h
theorem Qqh{cx:Cx}{rec:Ym}(hrec:Jr cx rec){R:Option Nat}{top:Bool}{nt:Nat}{c:Code}{k:KX X}{y:X}(ht:top=true→R=none):∀(an:Zb) (s:St),Qkl rec top nt c an s k=some y→Uo R cx.P nt c (fun e s'=>k e s'=some y) s
 |.loop τ l f F a,s,h=>Zkj hrec ht h
 |.phase τ l f F a b,s,h=>by
  obtain⟨hc,h⟩:=Zd h;simp only[Bool.and_eq_true,List.isEmpty_iff]at hc;obtain⟨c1,c2,c3,c4⟩:=hc;split at h
  ·rename_i x0 hx0;split at h
   ·rename_i z hz;rw[Qbb]at h;refine Qs8 (fun e s' r h=>Zlo h) c1 c2 c3 c4 (fun x r hr=>hrec _ _ (Qd3 (Zs.eqv_ok _) (Zi.eqv_ok _)) R _ top _ _ _ _ r ht hr) hx0 hz (fun hn=>?_) (fun hn=>?_)
    ·rw[hn]at h;exact Qqh hrec ht b _ h
    ·cases he:Qab (Yc f s l z).1 with
     |true=>exact absurd (Ze9 he) hn
     |false=>rw[he]at h;exact h
   ·cases h
  ·cases h
 |.leaf,_,h=>by cases h
 |.one _,_,h=>by cases h
 |.two _ _,_,h=>by cases h
 |.join _ _ _,_,h=>by cases h
 |.virt _ _ _ _,_,h=>by cases h
 |.within _,_,h=>by cases h
 |.virtF _ _ _ _ _,_,h=>by cases h
 |.typ _ _ _ _,_,h=>by cases h
 |.norm _ _,_,h=>by cases h
 |.slb _ _,_,h=>by cases h
 |.unslb _ _,_,h=>by cases h
end
def Ux(cx:Cx)(lx:Lx)(rec:Ym)(X:Type)(eq:X→X→Bool)(an:Zb)(top:Bool)(nt:Nat):Code→St→KX X→Option X
 |.skip,s,k=>k .normal s
 |.region _ ops draw,s,k=>match draw with
  |false=>Kn eq cx (Jq cx lx rec eq) nt ops ops.toList s (k .normal)
  |true=>gd (Region.noSelect ops) (Yk eq cx (Jq cx lx rec eq) nt ops (Xw true ops ops.size (Array.replicate ops.size false)) [] s (k .normal))
 |.seq a b,s,k=>rec X eq an.fst top nt a s fun e s'=>match e with
  |.normal=>rec X eq an.snd top nt b s' k
  |e=>k e s'
 |.cond c a b,s,k=>match s.ev c with
  |.pv (.lit (.bool t))=>match t with
   |true=>rec X eq an.fst top nt a s k
   |false=>rec X eq an.snd top nt b s k
  |_=>none
 |.block id c,s,k=>rec X eq an.fst top nt c s fun e s'=>match e with
  |.exit id'=>bif Nat.beq id' id then k .normal s' else k (.exit id') s'
  |e=>k e s'
 |.loop c,s,k=>rec X eq an.fst top nt c s fun e s'=>match e with
  |.normal=>rec X eq an top nt (.loop c) s' k
  |e=>k e s'
 |.rangeFunc g ps assign body,s,k=>match top with
  |true=>Qo0 (Jq cx lx rec eq) rec eq nt g ps assign body s k
  |false=>none
 |.scope c,s,k=>match top with
  |true=>rec X eq an.fst true nt c s fun e s'=>match e with
   |.goto _=>none
   |e=>k e s'
  |false=>none
 |.exit id,s,k=>k (.exit id) s
 |.label _,s,k=>k .normal s
 |.ret,s,k=>k .ret s
 |_,_,_=>none
def Lx.more(lx:Lx)(l:List (Nat×Zb)):Lx:=match lx with
 |⟨ext,anns,still,unk⟩=>⟨ext,l++anns,still,unk⟩
theorem Lx.Ok.more{cx:Cx}{lx:Lx}(h:lx.Ok cx)(l:List (Nat×Zb)):(lx.more l).Ok cx:=⟨h.ext,h.unk⟩
def Qwu(cx:Cx)(lx:Lx)(rec:Ym):Ym:=fun X eq an top nt c s k=>match an with
 |.join l f a=>Qub rec l f a top nt c s k
 |.virt slot ty row a=>match s.T.get slot with
  |some (.pv (.lit v))=>gd (Value.isNil v) (rec X eq a top nt c (Qbc s slot ty row) k)
  |_=>rec X eq a top nt c s k
 |.norm slots a=>gd (s.marks.isEmpty&&Qho (Qp1 slots s) s.H.length s.n0) (rec X eq a top nt c (Qmj (Qp1 slots s) s) k)
 |.typ kk ty row a=>match Qd6 kk ty row s with
  |some s'=>rec X eq a top nt c s' k
  |none=>none
 |.low=>match c with
  |.region _ ops draw=>match draw with
   |false=>Kn eq cx.Wf (Jq cx.Wf lx rec eq) nt ops ops.toList s (k .normal)
   |true=>gd (Region.noSelect ops) (Yk eq cx.Wf (Jq cx.Wf lx rec eq) nt ops (Xw true ops ops.size (Array.replicate ops.size false)) [] s (k .normal))
  |_=>none
 |.slb slot a=>match Qc7 slot s with
  |some s'=>rec X eq a top nt c s' k
  |none=>rec X eq a top nt c s k
 |.unslb slot a=>match Qdf slot s with
  |some s'=>rec X eq a top nt c s' k
  |none=>rec X eq a top nt c s k
 |.virtF ob col ty row a=>match Qej s ob col ty row with
  |some s'=>rec X eq a top nt c s' k
  |none=>none
 |.within l=>match c with
  |.loop _=>none
  |c=>Ux cx (lx.more l) rec X eq .leaf top nt c s k
 |.loop τ l f F a=>match c with
  |.loop body=>Qc5 rec τ l f F a top nt body s k
  |_=>none
 |.phase τ l f F a b=>match c with
  |.loop body=>Qkl rec top nt body (.phase τ l f F a b) s k
  |_=>none
 |.leaf=>Ux cx lx rec X eq .leaf top nt c s k
 |.one a=>Ux cx lx rec X eq (.one a) top nt c s k
 |.two a b=>Ux cx lx rec X eq (.two a b) top nt c s k
def Yb(cx:Cx)(lx:Lx):Nat→Ym
 |0=>fun _ _ _ _ _ _ _ _=>none
 |n+1=>Qwu cx lx (Yb cx lx n)
def Zb.plain:Zb→Bool
 |.leaf=>true
 |.one _=>true
 |.two _ _=>true
 |_=>false
theorem Qan{cx:Cx}(hcx:cx.Ok){lx:Lx}(hlx:lx.Ok cx):∀(n:Nat),Jr cx (Yb cx lx n)∧
  (∀(X:Type) (eq:X→X→Bool) (_:Zj eq) R an top nt c s (k:KX X) (y:X),(top=true→R=none)→Yb cx lx n X eq an top nt (.loop c) s k=some y→an.plain=true→
   Qbh R cx.P nt c (fun e s'=>k e s'=some y) n s)
 |0=>⟨fun X eq he R an top nt c s k y _ h=>(by cases h),fun X eq he R an top nt c s k y _ h=>(by cases h)⟩
 |n+1=>by
  obtain⟨ih1,ih2⟩:=Qan hcx hlx n;have loop:∀(X:Type) (eq:X→X→Bool) (_:Zj eq) R an top nt c s (k:KX X) (y:X),(top=true→R=none)→Yb cx lx (n+1) X eq an top nt (.loop c) s k=some y→an.plain=true→
    Qbh R cx.P nt c (fun e s'=>k e s'=some y) (n+1) s:=by
   intro X eq he R an top nt c s k y ht h hp;have h:Ux cx lx (Yb cx lx n) X eq an top nt (.loop c) s k=some y:=by
    cases an with
    |leaf=>exact h
    |one a=>exact h
    |two a b=>exact h
    |_=>cases hp
   refine(ih1 X eq he R an.fst top nt c s _ y ht h).mono fun e s' hs=>?_;cases e with
   |normal=>exact⟨n,Nat.le_refl n,ih2 X eq he R an top nt c s' k y ht hs hp⟩
   |_=>exact hs
  refine⟨fun X eq he R an top nt c s k y ht h=>?_,loop⟩;have code:∀(lx':Lx),lx'.Ok cx→(an.plain=true∨∀b,c≠.loop b)→∀an':Zb,(an.plain=true→an'=an∧lx'=lx)→Ux cx lx' (Yb cx lx n) X eq an' top nt c s k=some y→Q4 R cx.P nt c (fun e s'=>k e s'=some y) s:=by
   intro lx' hlx' hp an' han hcode;have hcb:=Qsr hcx hlx' ih1 he;cases c with
   |skip=>exact Zah hcode
   |region id ops draw=>
    cases draw with
    |false=>exact Qr5 hcx (Qca he hcb _ _ _ hcode)
    |true=>obtain⟨h1,h2⟩:=Zd hcode;exact Qt9 hcx h1 (Vf he hcb _ _ _ _ h2)
   |seq a b=>
    refine Qyg ((ih1 X eq he R an'.fst top nt a s _ y ht hcode).mono fun e s' hs=>?_);cases e with
    |normal=>exact ih1 X eq he R an'.snd top nt b s' k y ht hs
    |_=>exact hs
   |cond c a b=>
    have hcode:(match s.ev c with
     |.pv (.lit (.bool t))=>match t with
      |true=>Yb cx lx n X eq an'.fst top nt a s k
      |false=>Yb cx lx n X eq an'.snd top nt b s k
     |_=>none)=some y:=hcode
    split at hcode
    ·rename_i t e;refine Zmk e (fun hb=>?_) (fun hb=>?_)
     ·subst hb;exact ih1 X eq he R an'.fst top nt a s k y ht hcode
     ·subst hb;exact ih1 X eq he R an'.snd top nt b s k y ht hcode
    ·cases hcode
   |block id c=>
    refine Zjl ((ih1 X eq he R an'.fst top nt c s _ y ht hcode).mono fun e s' hs=>?_);cases e with
    |exit id'=>
     simp only[Qmu];by_cases e:id'=id
     ·rw[if_pos e];simp only[K0 e,cond_true]at hs;exact hs
     ·rw[if_neg e];simp only[Xe e,cond_false]at hs;exact hs
    |_=>exact hs
   |loop c=>
    have hp:an.plain=true:=by
     rcases hp with hp|hp
     ·exact hp
     ·exact absurd rfl (hp c)
    obtain⟨rfl,rfl⟩:=han hp;refine Zep (loop X eq he R an' top nt c s k y ht ?_ hp);cases an' with
    |leaf=>exact hcode
    |one a=>exact hcode
    |two a b=>exact hcode
    |_=>cases hp
   |exit id=>exact Zkl hcode
   |label l=>exact Zks hcode
   |ret=>exact Qyq hcode
   |rangeFunc g ps assign body=>
    cases top with
    |true=>have hR:=ht rfl;subst hR;exact Zcz hcx hcb ih1 he hcode
    |false=>cases hcode
   |scope c=>
    cases top with
    |true=>
     have hR:=ht rfl;subst hR;refine Za8 ((ih1 X eq he none an'.fst true nt c s _ y ht hcode).mono fun e s' hs=>?_);cases e with
     |goto _=>cases hs
     |_=>exact hs
    |false=>cases hcode
   |goto _=>cases hcode
   |refuse _=>cases hcode
  cases an with
  |join l f a=>exact Ziw ih1 ht h
  |virt slot ty row a=>
   have h:(match s.T.get slot with
    |some (.pv (.lit v))=>gd (Value.isNil v) (Yb cx lx n X eq a top nt c (Qbc s slot ty row) k)
    |_=>Yb cx lx n X eq a top nt c s k)=some y:=h
   split at h
   ·rename_i v hv;obtain⟨h1,h2⟩:=Zd h;exact Zjb hv h1 (ih1 X eq he R a top nt c _ k y ht h2)
   ·exact ih1 X eq he R a top nt c _ k y ht h
  |typ kk ty row a=>
   have h:(match Qd6 kk ty row s with
    |some s'=>Yb cx lx n X eq a top nt c s' k
    |none=>none)=some y:=h
   split at h
   ·rename_i s' hs';exact Qy9 hs' (ih1 X eq he R a top nt c _ k y ht h)
   ·cases h
  |low=>
   cases c with
   |region id ops draw=>
    have hcx':cx.Wf.Ok:=hcx.Wf;have hlx':lx.Ok cx.Wf:=⟨fun q hq=>let h:=hlx.ext q hq;⟨h.fn,h.ok⟩,hlx.unk⟩;have ih1':Jr cx.Wf (Yb cx lx n):=ih1;have hcb:=Qsr hcx' hlx' ih1' he;cases draw with
    |false=>exact Qr5 hcx' (Qca he hcb _ _ _ h)
    |true=>obtain⟨h1,h2⟩:=Zd h;exact Qt9 hcx' h1 (Vf he hcb _ _ _ _ h2)
   |_=>cases h
  |slb slot a=>
   have h:(match Qc7 slot s with
    |some s'=>Yb cx lx n X eq a top nt c s' k
    |none=>Yb cx lx n X eq a top nt c s k)=some y:=h
   split at h
   ·rename_i s' hs';exact Zl1 hs' (ih1 X eq he R a top nt c _ k y ht h)
   ·exact ih1 X eq he R a top nt c _ k y ht h
  |unslb slot a=>
   have h:(match Qdf slot s with
    |some s'=>Yb cx lx n X eq a top nt c s' k
    |none=>Yb cx lx n X eq a top nt c s k)=some y:=h
   split at h
   ·rename_i s' hs';exact Qx1 hs' (ih1 X eq he R a top nt c _ k y ht h)
   ·exact ih1 X eq he R a top nt c _ k y ht h
  |virtF ob col ty row a=>
   have h:(match Qej s ob col ty row with
    |some s'=>Yb cx lx n X eq a top nt c s' k
    |none=>none)=some y:=h
   split at h
   ·rename_i s' hs';exact Zk8 hs' (ih1 X eq he R a top nt c _ k y ht h)
   ·cases h
  |within l=>
   cases c with
   |loop b=>cases h
   |_=>exact code (lx.more l) (hlx.more l) (.inr fun b e=>by cases e) .leaf (fun e=>by cases e) h
  |loop τ l f F a=>
   cases c with
   |loop body=>exact Zba ih1 ht h
   |_=>cases h
  |norm slots a=>obtain⟨h1,h2⟩:=Zd h;rw[Bool.and_eq_true,List.isEmpty_iff]at h1;exact Zd5 h1.1 h1.2 (ih1 X eq he R a top nt c _ k y ht h2)
  |phase τ l f F a b=>
   cases c with
   |loop body=>exact(Qqh ih1 ht _ _ h).wp
   |_=>cases h
  |leaf=>exact code lx hlx (.inl rfl) .leaf (fun _=>⟨rfl,rfl⟩) h
  |one a=>exact code lx hlx (.inl rfl) (.one a) (fun _=>⟨rfl,rfl⟩) h
  |two a b=>exact code lx hlx (.inl rfl) (.two a b) (fun _=>⟨rfl,rfl⟩) h
end Go.Sx
end
namespace Go.Sx
open Go
def Q6:List Qi→Type
 |[]=>Unit
 |[a]=>a.El
 |a::a'::l=>a.El×Q6 (a'::l)
def Q6.eqv:(l:List Qi)→Q6 l→Q6 l→Bool
 |[]=>Vp
 |[a]=>a.eqv
 |a::a'::l=>Xq a.eqv (Q6.eqv (a'::l))
theorem Q6.eqv_ok:∀(l:List Qi),Zj (Q6.eqv l)
 |[]=>fun a b h=>rfl
 |[a]=>Qi.eqv_ok a
 |a::a'::l=>Ky (Qi.eqv_ok a) (Q6.eqv_ok (a'::l))
def Zc:(l:List Qi)→Q6 l→List SV
 |[],_=>[]
 |[a],x=>[a.sv x]
 |a::a'::l,x=>a.sv x.1::Zc (a'::l) x.2
def rdL(H:List Qa)(n:Nat):(l:List Qi)→List SV→Option (Bool×Q6 l)
 |[]=>Qeq
 |[a]=>Qj2 (rdA H n a)
 |a::a'::l=>Up (rdA H n a) (rdL H n (a'::l))
theorem Qd.Zng{M:Qc}{ρ ρ2:Env}{v:Value}{x:SV}(h:Qd M ρ v x):x.free 0=true→Qd M ρ2 v x:=by
 have fl:∀(l:List SV),Y8 0 l=true→∀(i:Nat) (x:SV),l[i]? =some x→x.free 0=true:=by
  intro l;induction l with
  |nil=>intro _ i x h;simp at h
  |cons y l ih=>
   intro h i x hx;simp only[Y8,Bool.and_eq_true]at h;cases i with
   |zero=>simp at hx;subst hx;exact h.1
   |succ i=>exact ih h.2 i x (by simpa using hx)
 induction h with
 |any v=>intro _;exact .any v
 |pv h=>intro _;exact .pv h
 |agg cs l hl _ ih=>intro hf;exact .agg cs l hl fun i v x hv hx=>ih i v x hv hx (fl l hf i x hx)
 |tup cs l hl _ ih=>intro hf;exact .tup cs l hl fun i v x hv hx=>ih i v x hv hx (fl l hf i x hx)
 |fn f a b x y ha hb _ _ ih jh=>intro hf;simp only[SV.free,Bool.and_eq_true]at hf;exact .fn f a b x y ha hb (fun i v s hv hs=>ih i v s hv hs (fl x hf.1 i s hs)) (fun i v s hv hs=>jh i v s hv hs (fl y hf.2 i s hs))
 |ptr s=>intro hf;simp[SV.free]at hf
 |sl s=>intro hf;simp[SV.free]at hf
 |slz s=>intro hf;simp[SV.free]at hf
 |mp s=>intro hf;simp[SV.free]at hf
 |yld s=>intro hf;simp[SV.free]at hf
 |slb s=>intro hf;simp[SV.free]at hf
theorem Zd2(l:List PV):Y8 0 (l.map .pv)=true:=by
 induction l with
 |nil=>rfl
 |cons x l ih=>simp[Y8,SV.free,ih]
theorem Zgw(l:List PV):(SV.Z0 (l.map .pv)).free 0=true:=by
 unfold SV.Z0;split
 ·rfl
 ·simp only[SV.free];exact Zd2 l
theorem Qi.Qvg:∀(a:Qi) (x:a.El),(a.sv x).free 0=true
 |.val t,x=>rfl
 |.agg row,x=>Zgw _
theorem Qtc:∀(l:List Qi) (x:Q6 l),Y8 0 (Zc l x)=true
 |[],_=>rfl
 |[a],x=>by show((a.sv x).free 0&&true)=true;rw[Qi.Qvg a x];rfl
 |a::a'::l,x=>by simp only[Zc,Y8,Qi.Qvg,Qtc (a'::l),Bool.and_self]
theorem Zl8(l:List Qi)(x:Q6 l):(Zo (Zc l x)).free 0=true:=by
 have h:=Qtc l x;unfold Zo;split
 ·rename_i y e;rw[e]at h;simpa[Y8]using h
 ·exact h
theorem Qqx{M:Qc}{ρ:Env}(n:Nat):∀(k:Nat),
  (∀(t:Ty),SizeOf.sizeOf t≤k→Kv M ρ M (rdT [] n t) t.pv)∧(∀(ts:List Ty),SizeOf.sizeOf ts≤k→Wo M ρ M ts (Y7 [] n ts)):=by
 have hle:=M.le_refl;intro k;induction k with
 |zero=>exact⟨fun t ht=>by(cases t<;>simp at ht),fun ts ht=>by(cases ts<;>simp at ht)⟩
 |succ k ih=>
  obtain⟨ih1,ih2⟩:=ih;refine⟨fun t ht=>?_,fun ts ht=>?_⟩
  ·match t,ht with
   |.int k,ht=>exact Ur hle (Qlr k)
   |.bool,ht=>exact Ur hle Qkw
   |.str,ht=>exact Ur hle Qe6
   |.seq row,ht=>
    intro x c y v h hc hr;have h:Qbj [] n row (Y7 [] n row) x=some (c,y):=h;unfold Qbj at h;split at h
    ·split at h
     ·rename_i y' hy;cases h;cases hr with
      |pv hp=>exact Ty.Qoe (t:=.seq row) hy hp
     ·cases h
    ·split at h
     ·cases h
     ·simp at h
    ·cases h
  ·match ts,ht with
   |[],ht=>exact Qt5
   |[t],ht=>exact Qu3 (ih1 t (by simp at ht;omega))
   |t::t'::ts,ht=>exact Qqm (ih1 t (by simp at ht;omega)) (ih2 (t'::ts) (by simp at ht⊢;omega))
theorem Qzt{M:Qc}{ρ ρ2:Env}{n:Nat}{a:Qi}{x:SV}{c:Bool}{y:a.El}{v:Value}(h:rdA [] n a x=some (c,y))(hc:c=true)(hr:Qd M ρ v x):Qd M ρ2 v (a.sv y):=by
 cases a with
 |val t=>exact .pv ((Qqx n _).1 t (Nat.le_refl _) x c y v h hc hr)
 |agg row=>
  refine Qi.Qvq ?_;have fin:∀(cs:Array Value) (xs:List SV) (y:Els row),Xi M ρ M row xs y→cs.size=xs.length→(∀(i:Nat) (u:Value) (x:SV),cs[i]? =some u→xs[i]? =some x→Qd M ρ u x)→Qd M ρ2 (.agg cs) ((Qi.agg row).raw y):=fun cs xs y hf hl hr=>by refine .agg cs _ (by rw[hl,hf.1];simp[Xm]) fun i u z hu hz=>?_;simp only[List.getElem?_map,Option.map_eq_some_iff]at hz;obtain⟨q,hq,rfl⟩:=hz;obtain⟨x,hx,himp⟩:=hf.2 i q hq;exact .pv (himp u (hr i u x hu hx))
  replace h:Kk [] n row x=some (c,y):=h;unfold Kk at h;split at h
  ·rename_i cs;split at h
   ·rename_i y' hy;cases h;have:=hr.Q0;subst this;refine fin cs _ _ (Xi.of M.le_refl hy) (by simp) fun i u x hu hx=>?_;simp only[List.getElem?_map,Option.map_eq_some_iff,Array.getElem?_toList]at hx;obtain⟨p,⟨u',hu',rfl⟩,rfl⟩:=hx;rw[hu]at hu';cases hu';exact .pv (.lit _)
   ·cases h
  ·rename_i l;cases hr with
   |agg cs _ hl hr=>exact fin cs l y ((Qqx n _).2 row (Nat.le_refl _) _ _ _ h hc) hl hr
  ·cases h
def Qfd(M M2:Qc)(ρ ρ2:Env){α:Type}(f:List SV→Option (Bool×α))(g:α→List SV):Prop:=
 ∀(xs:List SV) (c:Bool) (y:α),f xs=some (c,y)→c=true→(g y).length=xs.length∧
  ∀(i:Nat) (v:Value) (z x:SV),(g y)[i]? =some z→xs[i]? =some x→Qd M ρ v x→Qd M2 ρ2 v z
theorem Qgm{M M2:Qc}{ρ ρ2:Env}{H:List Qa}{n:Nat}(ha:∀(a:Qi) (x:SV) (c:Bool) (y:a.El) (v:Value),rdA H n a x=some (c,y)→c=true→Qd M ρ v x→Qd M2 ρ2 v (a.sv y)):
  ∀(l:List Qi),Qfd M M2 ρ ρ2 (rdL H n l) (Zc l)
 |[]=>by
  intro xs c y h hc;match xs,h with
  |[],h=>exact⟨rfl,fun i v z x hz hx=>by simp at hx⟩
  |_::_,h=>cases h
 |[a]=>by
  intro xs c y h hc;match xs,h with
  |[],h=>cases h
  |_::_::_,h=>cases h
  |[x],h=>
   replace h:rdA H n a x=some (c,y):=h;refine⟨rfl,fun i v z x' hz hx' hr=>?_⟩;cases i with
   |zero=>simp only[Zc,List.getElem?_cons_zero,Option.some.injEq]at hz hx';subst hz;subst hx';exact ha a x c y v h hc hr
   |succ i=>simp at hx'
 |a::a'::l=>by
  intro xs c y h hc;match xs,h with
  |[],h=>cases h
  |x::xs,h=>
   replace h:Up (rdA H n a) (rdL H n (a'::l)) (x::xs)=some (c,y):=h;simp only[Up]at h;split at h
   ·cases h
   ·rename_i p h1;split at h
    ·cases h
    ·rename_i q h2;cases h;rw[Bool.and_eq_true]at hc;obtain⟨g1,g2⟩:=Qgm ha (a'::l) xs q.1 q.2 h2 hc.2;refine⟨by simp only[Zc,List.length_cons,g1],fun i v z x' hz hx' hr=>?_⟩;cases i with
     |zero=>simp only[Zc,List.getElem?_cons_zero,Option.some.injEq]at hz hx';subst hz;subst hx';exact ha a x p.1 p.2 v h1 hc.1 hr
     |succ i=>simp only[Zc,List.getElem?_cons_succ]at hz hx';exact g2 i v z x' hz hx' hr
theorem Qpx{M:Qc}{ρ ρ2:Env}{H:List Qa}{w:World}{n:Nat}(hm:Mem M ρ H w)(l:List Qi):Qfd M (M.Q7 ρ H n w) ρ ρ2 (rdL H n l) (Zc l):=
 Qgm (fun a x c y v h hc hr=>Qju hm h hc hr) l
theorem Qqp{M:Qc}{ρ ρ2:Env}{n:Nat}(l:List Qi):Qfd M M ρ ρ2 (rdL [] n l) (Zc l):=
 Qgm (fun a x c y v h hc hr=>Qzt h hc hr) l
structure PC where
 ats:List Qi
 rts:List Qi
 code:Q6 ats→Option (Q6 rts)
structure Qz (cx:Cx) (g:Nat) (pc:PC):Prop where
 fn:∃fn,cx.fns.lookup g=some fn
 ok:∀a y,pc.code a=some y→Zv cx.P g (Zc pc.ats a) [] fun r H' t f=>r=Zo (Zc pc.rts y)∧H'=[]∧t=[]∧f=[]
def PC.sm(pc:PC):Sm where
 pre:=fun args H=>(rdL [] 0 pc.ats args).isSome||((rdL H 0 pc.ats args).isSome&&pc.rts.all Qi.scalar)
 run:=fun X args H k=>match rdL [] 0 pc.ats args with
  |some p=>gd p.1 (match pc.code p.2 with
   |some y=>k (Zo (Zc pc.rts y)) H [] []
   |none=>none)
  |none=>match rdL H 0 pc.ats args with
   |some p=>gd (p.1&&pc.rts.all Qi.scalar) (match pc.code p.2 with
    |some y=>k (Zo (Zc pc.rts y)) H [] []
    |none=>none)
   |none=>none
def Qet:List SV→Bool
 |[]=>true
 |.pv (.lit _)::l=>Qet l
 |_=>false
def SV.Qck:SV→Bool
 |.pv (.lit _)=>true
 |.agg l=>Qet l
 |_=>false
theorem Qq5:∀{l:List SV},Qet l=true→∀(i:Nat) (x:SV),l[i]? =some x→∃v,x=.lit v
 |[],_,i,x,h=>by simp at h
 |.pv (.lit v)::l,hl,i,x,h=>by
  cases i with
  |zero=>simp at h;exact⟨v,h.symm⟩
  |succ i=>exact Qq5 (l:=l) hl i x (by simpa using h)
theorem Qui{M M2:Qc}{ρ ρ2:Env}{v:Value}{x:SV}(hs:x.Qck=true)(h:Qd M ρ v x):Qd M2 ρ2 v x:=by
 match x,hs,h with
 |.pv (.lit u),_,h=>rw[h.Q0];exact .pv (.lit _)
 |.agg l,hs,.agg cs _ hl hr=>refine .agg cs l hl fun i v x hv hx=>?_;obtain⟨u,rfl⟩:=Qq5 hs i x hx;rw[(hr i v _ hv hx).Q0];exact .pv (.lit _)
theorem Qot:∀(row:List Ty) (x:Els row),row.all Ty.scalar=true→Qet ((Q1 row x).map .pv)=true
 |[],_,_=>rfl
 |[t],x,h=>by cases t<;>first|rfl|(simp[Ty.scalar]at h)
 |t::t'::ts,x,h=>by simp only[List.all_cons,Bool.and_eq_true]at h;have:=Qot (t'::ts) x.2 (by simp only[List.all_cons,Bool.and_eq_true];exact h.2);cases t<;>first|exact this|(simp[Ty.scalar]at h)
theorem Qi.Qvm(a:Qi)(x:a.El)(h:a.scalar=true):(a.sv x).Qck=true:=by
 cases a with
 |val t=>cases t<;>first|rfl|(simp[Qi.scalar,Ty.scalar]at h)
 |agg row=>
  show(SV.Z0 ((Q1 row x).map .pv)).Qck=true;unfold SV.Z0;split
  ·rfl
  ·exact Qot row x h
theorem Qrl:∀(l:List Qi) (y:Q6 l),l.all Qi.scalar=true→∀(i:Nat) (x:SV),(Zc l y)[i]? =some x→x.Qck=true
 |[],_,_,i,x,h=>by simp[Zc]at h
 |[a],y,hs,i,x,h=>by
  cases i with
  |zero=>simp only[Zc,List.getElem?_cons_zero,Option.some.injEq]at h;subst h;exact Qi.Qvm a y (by simpa using hs)
  |succ i=>simp[Zc]at h
 |a::a'::l,y,hs,i,x,h=>by
  simp only[List.all_cons,Bool.and_eq_true]at hs;cases i with
  |zero=>simp only[Zc,List.getElem?_cons_zero,Option.some.injEq]at h;subst h;exact Qi.Qvm a y.1 hs.1
  |succ i=>exact Qrl (a'::l) y.2 (by simp only[List.all_cons,Bool.and_eq_true];exact hs.2) i x (by simpa[Zc]using h)
theorem Zdr{M M2:Qc}{ρ ρ2:Env}{v:Value}{l:List SV}(hs:∀(i:Nat) (x:SV),l[i]? =some x→x.Qck=true)(h:Qd M ρ v (Zo l)):Qd M2 ρ2 v (Zo l):=by
 unfold Zo at h⊢;split at h
 ·rename_i x;exact Qui (hs 0 x rfl) h
 ·cases h with
  |tup cs _ hl hr=>exact .tup cs _ hl fun i v x hv hx=>Qui (hs i x hx) (hr i v x hv hx)
def Yd:Env:=fun _=>none
theorem V4{M:Qc}{w:World}(h:∀b o,M b=some o→w.heap[b]? =some o):Mem M Yd [] w:=
 ⟨h,fun s o ho=>by simp at ho,fun s o p b ho=>by simp at ho,fun s s' o o' p p' b ho=>by simp at ho,fun s _=>rfl,fun s o p b ho=>by simp at ho⟩
theorem Xk{b:Nat}:¬Yl Yd [] b:=fun⟨s,o,p,h,_⟩=>by simp at h
theorem PC.Zn{cx:Cx}{g:Nat}{pc:PC}(h:Qz cx g pc):Yn cx g pc.sm:=by
 refine⟨h.fn,fun X args H k y hk=>?_⟩;have hk:(match rdL [] 0 pc.ats args with
  |some p=>gd p.1 (match pc.code p.2 with
   |some y=>k (Zo (Zc pc.rts y)) H [] []
   |none=>none)
  |none=>match rdL H 0 pc.ats args with
   |some p=>gd (p.1&&pc.rts.all Qi.scalar) (match pc.code p.2 with
    |some y=>k (Zo (Zc pc.rts y)) H [] []
    |none=>none)
   |none=>none)=some y:=hk
 have keep:∀(w w':World) (M2 M2':Qc) (ρ':Env) (H':List Qa) (t f:List Nat),Fr M2 Yd [] w M2' ρ' H' w' 0 t f→∀b,b<w.heap.size→w'.heap[b]? =w.heap[b]? :=fun w w' M2 M2' ρ' H' t f hf b hb=>hf.same b hb Xk;split at hk
 ·rename_i p hrd;obtain⟨hc,hk⟩:=Zd hk;split at hk
  ·rename_i z hz;intro M ρ w vs hm hr;obtain⟨l1,l2⟩:=Qqp (M:=M) (ρ:=ρ) (ρ2:=Yd) pc.ats args p.1 p.2 hrd hc;refine(h.ok p.2 z hz M Yd w vs (V4 hm.imm) ⟨by rw[hr.1,l1],fun i v x hv hx=>?_⟩).mono ?_
   ·obtain⟨x',hx'⟩:∃x',args[i]? =some x':=by
     have:i<args.length:=by rw[←l1];exact(List.getElem?_eq_some_iff.1 hx).1
     exact⟨_,List.getElem?_eq_getElem this⟩
    exact l2 i v x x' hx hx' (hr.2 i v x' hv hx')
   ·rintro e w' ⟨v,r,H',M',ρ',t,f,he,⟨rfl,rfl,rfl,rfl⟩,hs,hm',hf⟩
    have hsame:=keep _ _ _ _ _ _ _ _ hf;refine⟨v,_,H,M',ρ,[],[],he,hk,hs.Zng (Zl8 _ z),?_,?_⟩
    ·refine⟨hm'.imm,fun s o ho=>?_,fun s o p b ho hl hp hb=>?_,hm.diss,hm.fresh,fun s o p b ho hl hp hb=>Nat.lt_of_lt_of_le (hm.lts s o p b ho hl hp hb) hf.grow⟩
     ·by_cases hl:o.live=true
      ·exact(hm.own s o ho).mono hf.imm ρ.le_refl rfl fun p b hp hb=>hsame _ (hm.Ya ho hl hp hb)
      ·rw[J3 hl];trivial
     ·cases e:M' b with
      |none=>rfl
      |some ob=>
       rcases hf.new b ob (hm.seps s o p b ho hl hp hb) e with h1|h1
       ·have:=hm.Ya ho hl hp hb;omega
       ·exact absurd h1 Xk
    ·exact⟨hf.imm,fun b o a c=>(hf.new b o a c).imp id fun h=>absurd h Xk,fun b hb=>.inr hb,fun b hb _=>hsame b hb,hf.grow,fun s o _ _ ho hl=>⟨⟨o,ho,hl⟩,fun p hp=>⟨hp,fun b hb=>hsame _ (hm.Ya ho hl hp hb)⟩⟩,fun _ _ _=>rfl,hf.io⟩
  ·cases hk
 ·split at hk
  ·rename_i p hrd;obtain⟨hc,hk⟩:=Zd hk;rw[Bool.and_eq_true]at hc;split at hk
   ·rename_i z hz;intro M ρ w vs hm hr;obtain⟨l1,l2⟩:=Qpx (n:=0) (ρ2:=Yd) hm pc.ats args p.1 p.2 hrd hc.1;have hM2:∀b o,(M.Q7 ρ H 0 w) b=some o→w.heap[b]? =some o:=fun b o hb=>by
     cases e:M b with
     |some o'=>rw[Qc.Ys M ρ H 0 w b o' e]at hb;cases hb;exact hm.imm b _ e
     |none=>exact(Qc.Xg e hb).2
    refine(h.ok p.2 z hz (M.Q7 ρ H 0 w) Yd w vs (V4 hM2) ⟨by rw[hr.1,l1],fun i v x hv hx=>?_⟩).mono ?_
    ·obtain⟨x',hx'⟩:∃x',args[i]? =some x':=by
      have:i<args.length:=by rw[←l1];exact(List.getElem?_eq_some_iff.1 hx).1
      exact⟨_,List.getElem?_eq_getElem this⟩
     exact l2 i v x x' hx hx' (hr.2 i v x' hv hx')
    ·rintro e w' ⟨v,r,H',M',ρ',t,f,he,⟨rfl,rfl,rfl,rfl⟩,hs,hm',hf⟩
     have hsame:=keep _ _ _ _ _ _ _ _ hf;refine⟨v,_,H,M,ρ,[],[],he,hk,Zdr (Qrl _ z hc.2) hs,?_,?_⟩
     ·refine⟨fun b o hb=>?_,fun s o ho=>?_,hm.seps,hm.diss,hm.fresh,fun s o p b ho hl hp hb=>Nat.lt_of_lt_of_le (hm.lts s o p b ho hl hp hb) hf.grow⟩
      ·rw[hsame b (hm.Qci hb)];exact hm.imm b o hb
      ·by_cases hl:o.live=true
       ·exact(hm.own s o ho).mono M.le_refl ρ.le_refl rfl fun p b hp hb=>hsame _ (hm.Ya ho hl hp hb)
       ·rw[J3 hl];trivial
     ·exact⟨M.le_refl,fun b o a c=>(by rw[a]at c;cases c),fun b hb=>.inr hb,fun b hb _=>hsame b hb,hf.grow,fun s o _ _ ho hl=>⟨⟨o,ho,hl⟩,fun p hp=>⟨hp,fun b hb=>hsame _ (hm.Ya ho hl hp hb)⟩⟩,fun _ _ _=>rfl,hf.io⟩
   ·cases hk
  ·cases hk
def Qu5(cx:Cx)(fn:Func)(rts:List Qi):KX (Q6 rts):=fun e s=>
 gd (Qac e) (match shut s.marks s.H with
  |none=>none
  |some H'=>Wk cx {s with H:=H',marks:=[]} fn.results.toList fun l=>match rdL H' 0 rts l with
   |none=>none
   |some p=>gd p.1 (some p.2))
def Zx(cx:Cx)(lx:Lx)(n:Nat)(an:Zb)(fn:Func)(c:Code)(ats rts:List Qi)(a:Q6 ats):Option (Q6 rts):=
 Yb cx lx n (Q6 rts) (Q6.eqv rts) an true fn.ntmps c (.entry (Zc ats a) []) (Qu5 cx fn rts)
theorem Zaw{cx:Cx}{fn:Func}{rts:List Qi}{e:Exit}{s:St}{y:Q6 rts}(h:Qu5 cx fn rts e s=some y):
  (e=.normal∨e=.ret)∧∃H',shut s.marks s.H=some H'∧X0 cx {s with H:=H',marks:=[]} fn.results.toList fun l=>∃c,c=true∧rdL H' 0 rts l=some (c,y):=by
 obtain⟨h1,h⟩:=Zd h;refine⟨Qcd h1,?_⟩;split at h
 ·cases h
 ·rename_i H' hs;refine⟨H',hs,Wb _ _ _ (fun l hl=>?_) (Va _ _ h)⟩;split at hl
  ·cases hl
  ·rename_i p hp;obtain⟨h2,hl⟩:=Zd hl;cases hl;exact⟨p.1,h2,hp⟩
theorem Qz.Qk{cx:Cx}(hcx:cx.Ok){lx:Lx}(hlx:lx.Ok cx){n g:Nat}{an:Zb}{fn:Func}{c:Code}{pc:PC}(hf:cx.fns.lookup g=some fn)(hb:fn.body=some c)
  (hcode:∀a y,pc.code a=some y→Zx cx lx n an fn c pc.ats pc.rts a=some y) (hn:Nat.ble pc.ats.length fn.ntmps=true):Qz cx g pc:=by
 refine⟨⟨fn,hf⟩,fun a y hy=>?_⟩;have hlen:∀(l:List Qi) (x:Q6 l),(Zc l x).length=l.length:=by
  intro l;induction l with
  |nil=>intro _;rfl
  |cons a l ih=>
   cases l with
   |nil=>intro _;rfl
   |cons b l=>intro x;simp only[Zc,List.length_cons,ih x.2]
 have hw:=(Qan hcx hlx n).1 _ _ (Q6.eqv_ok pc.rts) none an true fn.ntmps c _ _ y (fun _=>rfl) (hcode a y hy);have hcall:Zv cx.P g (Zc pc.ats a) [] fun r H' t f=>∃l cc,r=Zo l∧cc=true∧rdL H' 0 pc.rts l=some (cc,y):=by refine Qbw hcx hf hb (by rw[hlen];exact Nat.le_of_ble_eq_true hn) (hw.mono fun e s hs=>?_);obtain⟨h1,H',h2,h3⟩:=Zaw hs;exact⟨h1,.inl (Nat.zero_le _),H',h2,Wb _ _ _ (fun l ⟨cc,h4,h5⟩=>⟨l,cc,rfl,h4,h5⟩) h3⟩
 intro M ρ w vs hm hr;refine(hcall M ρ w vs hm hr).mono ?_
 rintro e w' ⟨v,r,H',M',ρ',t,f,he,⟨l,cc,rfl,hcc,hrd⟩,hs,hm',hfr⟩
 obtain⟨g1,g2⟩:=Qpx (n:=0) (ρ2:=Yd) hm' pc.rts l cc y hrd hcc;have hne:ρ=Yd:=by funext s;exact hm.fresh s (Nat.zero_le _)
 have hM2:∀b o,(M'.Q7 ρ' H' 0 w') b=some o→w'.heap[b]? =some o:=fun b o hb=>by
  cases e:M' b with
  |some o'=>rw[Qc.Ys M' ρ' H' 0 w' b o' e]at hb;cases hb;exact hm'.imm b _ e
  |none=>exact(Qc.Xg e hb).2
 refine⟨v,_,[],M'.Q7 ρ' H' 0 w',Yd,[],[],he,⟨rfl,rfl,rfl,rfl⟩,?_,V4 hM2,?_⟩
 ·unfold Zo at hs⊢;split at hs
  ·rename_i x;match hsv:Zc pc.rts y,g1 with
   |[z],_=>simp only;exact g2 0 v z x (by rw[hsv];rfl) rfl hs
  ·rename_i hx;have hx2:∀z,Zc pc.rts y=[z]→False:=fun z hz=>by
    rw[hz]at g1;match l,g1 with
    |[x],_=>exact hx x rfl
   cases hs with
   |tup cs _ hl hrr=>
    have:Qd (M'.Q7 ρ' H' 0 w') Yd (.tuple cs) (.tup (Zc pc.rts y)):=.tup cs _ (by rw[hl,g1]) fun i u z hu hz=>by
     obtain⟨x',hx'⟩:∃x',l[i]? =some x':=by
      have:i<l.length:=by rw[←g1];exact(List.getElem?_eq_some_iff.1 hz).1
      exact⟨_,List.getElem?_eq_getElem this⟩
     exact g2 i u z x' hz hx' (hrr i u x' hu hx')
    match hsv:Zc pc.rts y with
    |[]=>simp only;rw[←hsv];exact this
    |[z]=>exact absurd hsv (fun h=>hx2 z h)
    |z::z'::zs=>simp only;rw[←hsv];exact this
 ·have hsl:=Qc.Ys M' ρ' H' 0 w';refine⟨Qc.le_trans hfr.imm hsl,fun b o h0 h1=>?_,fun b hb=>absurd hb Xk,hfr.same,hfr.grow,fun s o hs=>absurd hs (Nat.not_lt_zero s),fun s hs=>absurd hs (Nat.not_lt_zero s),hfr.io⟩;cases e:M' b with
  |some o'=>exact hfr.new b o' h0 e
  |none=>obtain⟨⟨s2,o2,p2,k1,k2,k3,k4,k5⟩,_⟩:=Qc.Xg e h1;exact hfr.own b ⟨s2,o2,p2,k2,by cases o2<;>simp_all [Qa.Xf,Qa.live],k4,.inl k5⟩
theorem Lx.Y4{cx:Cx}{an:List (Nat×Zb)}{st:List Nat}:Lx.Ok cx {ext:=[],anns:=an,still:=st}:=⟨fun q hq=>(by cases hq),rfl⟩
theorem Lx.Za{cx:Cx}{g:Nat}{sm:Sm}{l:List (Nat×Sm)}{an:List (Nat×Zb)}{st:List Nat}(h:Yn cx g sm)(hl:Lx.Ok cx {ext:=l,anns:=an,still:=st}):Lx.Ok cx {ext:=(g,sm)::l,anns:=an,still:=st}:=
 ⟨fun q hq=>by
  rcases List.mem_cons.1 hq with rfl|hq
  ·exact h
  ·exact hl.ext q hq,rfl⟩
def nilT(α:Type):List α:=[]
def Qe(fn:Func):Code:=match fn.body with
 |some c=>c
 |none=>.skip
end Go.Sx

/- Part Qd of the own logic: what a function comes to, as a function of its data: joins, loops, calls. Part Qs of the own logic: an owned row becomes immutable where it stands. And further parts. -/
import Derived.Test.YtlfcbhjoldgijaaGreatXSxNr
set_option linter.unusedVariables false
set_option linter.unusedSimpArgs false
set_option linter.unnecessarySimpa false
namespace Go.Sx
open Go
def natEq (a b:Nat):Bool := decide (a = b)
theorem natEq_ok:EqOk natEq := fun a b h=>of_decide_eq_true h
def PEls.eqv:(l:PL) → PEls l → PEls l → Bool
 | []=>unitEq
 | [p]=>p.2.eqv
 | p :: p' :: l=>pairEq p.2.eqv (PEls.eqv (p' :: l))
theorem PEls.eqv_ok:∀ (l:PL),EqOk (PEls.eqv l)
 | []=>fun a b h=>rfl
 | [p]=>ATy.eqv_ok p.2
 | p :: p' :: l=>pairEq_ok (ATy.eqv_ok p.2) (PEls.eqv_ok (p' :: l))
def Cel.eqv:(c:Cel) → c.El → c.El → Bool
 | .slot _ a=>a.eqv
 | .vec _ _ row=>listEq (Els.eqv row)
 | .one _ _ row=>Els.eqv row
 | .mix _ _ _ dat _=>PEls.eqv dat
 | .map _ k v=>listEq (pairEq k.eqv v.eqv)
 | .iter _=>pairEq strEq natEq
 | .over _ _=>unitEq
 | .fix _ _ _=>unitEq
theorem Cel.eqv_ok:∀ (c:Cel),EqOk c.eqv
 | .slot _ a=>ATy.eqv_ok a
 | .vec _ _ row=>listEq_ok (Els.eqv_ok row)
 | .one _ _ row=>Els.eqv_ok row
 | .mix _ _ _ dat _=>PEls.eqv_ok dat
 | .map _ k v=>listEq_ok (pairEq_ok (ATy.eqv_ok k) (ATy.eqv_ok v))
 | .iter _=>pairEq_ok strEq_ok natEq_ok
 | .over _ _=>fun a b h=>rfl
 | .fix _ _ _=>fun a b h=>rfl
def CEls.eqv:(l:List Cel) → CEls l → CEls l → Bool
 | []=>unitEq
 | [c]=>c.eqv
 | c :: c' :: l=>pairEq c.eqv (CEls.eqv (c' :: l))
theorem CEls.eqv_ok:∀ (l:List Cel),EqOk (CEls.eqv l)
 | []=>fun a b h=>rfl
 | [c]=>Cel.eqv_ok c
 | c :: c' :: l=>pairEq_ok (Cel.eqv_ok c) (CEls.eqv_ok (c' :: l))
abbrev Alts := List (Exit × Tmpl)
def AltsEl:Alts → Type
 | []=>Empty
 | [a]=>a.2.El
 | a :: a' :: l=>a.2.El ⊕ AltsEl (a' :: l)
def AltsEl.eqv:(l:Alts) → AltsEl l → AltsEl l → Bool
 | []=>fun _ _=>true
 | [a]=>CEls.eqv a.2.cells
 | a :: a' :: l=>sumEq (CEls.eqv a.2.cells) (AltsEl.eqv (a' :: l))
theorem AltsEl.eqv_ok:∀ (l:Alts),EqOk (AltsEl.eqv l)
 | []=>fun a b h=>by cases a
 | [a]=>CEls.eqv_ok _
 | a :: a' :: l=>sumEq_ok (CEls.eqv_ok _) (AltsEl.eqv_ok (a' :: l))
def sameExit:Exit → Exit → Bool
 | .normal,.normal=>true
 | .ret,.ret=>true
 | .exit a,.exit b=>Nat.beq a b
 | _,_=>false
theorem sameExit_eq {a b:Exit} (h:sameExit a b = true):a = b := by
 unfold sameExit at h
 split at h <;> first | rfl | (rw [Nat.eq_of_beq_eq_true h]; done) | cases h
structure Foot where
 D:List Nat
 ids:List Nat
 mv:List Nat
def Foot.of (f:Foot) (τ:Tmpl):List Nat := τ.overs ++ f.ids
def readI (τ:Tmpl) (D ids mv:List Nat) (n:Nat) (s:St):Option τ.El := gd (s.reads D ids mv n) (match τ.read n s with
 | some (c,x)=>gd c (some x)
 | none=>none)
def readT (τ:Tmpl) (f:Foot) (n:Nat) (s:St):Option τ.El := readI τ f.D (f.of τ) f.mv n s
theorem readI_some {τ:Tmpl} {D ids mv:List Nat} {n:Nat} {s:St} {x:τ.El} (h:readI τ D ids mv n s = some x):s.reads D ids mv n = true ∧ ∃ c,c = true ∧ τ.read n s = some (c,x) := by
 obtain ⟨h1,h2⟩ := gd_some h
 refine ⟨h1,?_⟩
 split at h2
 ·rename_i c y e
  obtain ⟨h3,h4⟩ := gd_some h2
  cases h4
  exact ⟨c,h3,e⟩
 ·cases h2
theorem readT_some {τ:Tmpl} {f:Foot} {n:Nat} {s:St} {x:τ.El} (h:readT τ f n s = some x):s.reads f.D (f.of τ) f.mv n = true ∧ ∃ c,c = true ∧ τ.read n s = some (c,x) := readI_some h
def readAlts (f:Foot) (n:Nat):(l:Alts) → Exit → St → Option (AltsEl l)
 | [],_,_=>none
 | [a],e,s=>match sameExit a.1 e with
  | true=>readT a.2 f n s
  | false=>none
 | a :: a' :: l,e,s=>match sameExit a.1 e with
  | true=>match readT a.2 f n s with
   | some x=>some (.inl x)
   | none=>none
  | false=>match readAlts f n (a' :: l) e s with
   | some x=>some (.inr x)
   | none=>none
def stAlts (f:Foot) (b:St):(l:Alts) → AltsEl l → Exit × St
 | [],x=>Empty.elim x
 | [a],x=>(a.1,a.2.st f.D (f.of a.2) f.mv b x)
 | a :: a' :: l,.inl x=>(a.1,a.2.st f.D (f.of a.2) f.mv b x)
 | a :: a' :: l,.inr x=>stAlts f b (a' :: l) x
def onAlts {A:Type} (f:Foot) (b:St):(l:Alts) → AltsEl l → (Exit → St → A) → A
 | [],x,_=>Empty.elim x
 | [a],x,k=>k a.1 (a.2.st f.D (f.of a.2) f.mv b x)
 | a :: a' :: l,x,k=>match x with
  | .inl x=>k a.1 (a.2.st f.D (f.of a.2) f.mv b x)
  | .inr x=>onAlts f b (a' :: l) x k
theorem onAlts_eq {A:Type} {f:Foot} {b:St}:∀ {l:Alts} (x:AltsEl l) (k:Exit → St → A),onAlts f b l x k = k (stAlts f b l x).1 (stAlts f b l x).2
 | [],x,_=>Empty.elim x
 | [a],x,k=>rfl
 | a :: a' :: l,.inl x,k=>rfl
 | a :: a' :: l,.inr x,k=>onAlts_eq (l := a' :: l) x k
def Foot.ok (f:Foot):Bool := subset f.mv f.ids
theorem mv_of {f:Foot} {τ:Tmpl} (h:f.ok = true):subset f.mv (f.of τ) = true := by
 unfold Foot.ok subset at h
 unfold subset Foot.of
 rw [List.all_eq_true] at h ⊢
 intro x hx
 have := h x hx
 simp only [List.contains_iff_mem,List.mem_append] at this ⊢
 exact .inr this
def altsOk (f:Foot) (l:Alts):Bool := l.all fun a=>a.2.covers (f.of a.2)
theorem readAlts_spec {f:Foot} {n:Nat} {b:St}:∀ {l:Alts} {e:Exit} {s:St} {x:AltsEl l},altsOk f l = true → readAlts f n l e s = some x →
  ∃ (τ:Tmpl) (z:τ.El),τ.covers (f.of τ) = true ∧ readT τ f n s = some z ∧ stAlts f b l x = (e,τ.st f.D (f.of τ) f.mv b z)
 | [],e,s,x,hok,h=>by cases h
 | [a],e,s,x,hok,h=>by
  simp only [readAlts] at h
  split at h
  ·rename_i he
   refine ⟨a.2,x,by simpa [altsOk] using hok,h,?_⟩
   simp only [stAlts,sameExit_eq he]
  ·cases h
 | a :: a' :: l,e,s,x,hok,h=>by
  have hok':a.2.covers (f.of a.2) = true ∧ altsOk f (a' :: l) = true := by
   simp only [altsOk,List.all_cons,Bool.and_eq_true] at hok ⊢; exact hok
  simp only [readAlts] at h
  split at h
  ·rename_i he
   split at h
   ·rename_i z hz
    cases h
    exact ⟨a.2,z,hok'.1,hz,by simp only [stAlts,sameExit_eq he]⟩
   ·cases h
  ·split at h
   ·rename_i z hz
    cases h
    obtain ⟨τ,w,h1,h2,h3⟩ := readAlts_spec (b := b) hok'.2 hz
    exact ⟨τ,w,h1,h2,h3⟩
   ·cases h
def St.sub (s:St):St := { T := s.T,H := s.H,n0 := s.H.length,tch := [],fg := [],marks := [],er := [] }
def St.outer (s s1:St):St := { T := s1.T,H := s1.H,n0 := s.n0,tch := addTo s.n0 s1.tch s.tch,fg := addTo s.n0 s1.fg s.fg,marks := [],er := s1.er ++ s.er }
def actB (a:Act):Nat → Value := fun t=>a.tmps.getD t undef
theorem sub_good {B:Nat → Value} {nt:Nat} {M:Imm} {ρ:Env} {s:St} {a:Act} {w:World} (hg:Good B nt M ρ s a w) (hm:s.marks = []):Good (actB a) nt M ρ s.sub a w :=
 ⟨hg.tm,hg.sz,hg.mem,(by have := hg.df; rw [hm] at this; exact this),(fun m h=>by cases h),Nat.le_refl _,fun t _=>rfl⟩
theorem base_self {B:Nat → Value} {nt:Nat} {M:Imm} {ρ:Env} {s:St} {a:Act} {w:World} (hg:Good B nt M ρ s a w) (D ids mv:List Nat):BaseAt D ids mv s M ρ s.H a w :=
 ⟨rfl,fun t y _ hy=>(hg.tm t y hy).forget M.le_refl (fun _ _ _ h=>h),fun i o _ ho=>⟨(hg.mem.own i o ho).forget M.le_refl (fun _ _ _ h=>h) rfl (fun _ _=>rfl),fun hl=>⟨o,ho,hl⟩⟩,fun i o _ ho hl=>⟨o,ho,hl⟩⟩
theorem outer_good {B:Nat → Value} {nt:Nat} {M M':Imm} {ρ ρ':Env} {s s1:St} {a a':Act} {w w':World} {ids mv:List Nat} (hg:Good B nt M ρ s a w) (hm:s.marks = []) (h1:Good (actB a) nt M' ρ' s1 a' w')
  (hf:Fr M ρ s.H w M' ρ' s1.H w' s.H.length ids mv) (hn:s1.n0 = s.H.length) (ht:s1.tch = ids) (hv:s1.fg = mv) (hk:s1.marks = []) :
  Good B nt M' ρ' (s.outer s1) a' w' ∧ Goes M ρ s w M' ρ' (s.outer s1) w' := by
 refine ⟨⟨h1.tm,h1.sz,h1.mem,by have := h1.df; rw [hk] at this; exact this,fun m h=>by (cases h),?_,fun t ht=>?_⟩,?_,rfl,fun x hx=>acc_addTo hx,fun x hx=>acc_addTo hx⟩
 ·show s.n0 ≤ s1.H.length
  have := h1.nle; rw [hn] at this; exact Nat.le_trans hg.nle this
 ·have ht':t ∉ s1.er ∧ t ∉ s.er := by
   have:t ∉ s1.er ++ s.er := ht
   simpa using this
  rw [h1.fix t ht'.1]; exact hg.fix t ht'.2
 ·exact hf.weaken hg.nle (fun x hx h=>mem_addTo hx (by rw [ht]; exact h)) (fun x hx h=>mem_addTo hx (by rw [hv]; exact h))
theorem WPs_join {R:Option Nat} {P:Program} {nt:Nat} {c:Code} {Q:Exit → St → Prop} {s:St} {f:Foot} {l:Alts} {x:AltsEl l} (hm:s.marks = []) (hf:f.ok = true) (hl:altsOk f l = true)
  (h:WPs R P nt c (fun e s'=>readAlts f s.H.length l e s' = some x) s.sub) (hq:Q (stAlts f s l x).1 (s.outer (stAlts f s l x).2)):WPs R P nt c Q s := by
 intro B M ρ a w hg
 refine wpIn_mono (h (actB a) M ρ a w (sub_good hg hm)) ?_
 rintro e a' w' ⟨M',ρ',s',hr,g,go⟩
 obtain ⟨τ,z,h1,h2,h3⟩ := readAlts_spec (b := s) hl hr
 obtain ⟨r1,c,hc,r2⟩ := readT_some h2
 obtain ⟨M'',ρ'',g1,g2,_⟩ := absorb (b := s) (H0 := s.H) (M0 := M) (ρ0 := ρ) (a0 := a) (w0 := w) (fun _ _=>rfl) (base_self hg _ _ _) hg.mem g go.fr (mv_of hf) h1 r1 r2 hc
 obtain ⟨e1,e2,e3,e4,e5⟩ := Tmpl.st_rest τ f.D (f.of τ) f.mv s z
 obtain ⟨k1,k2⟩ := outer_good hg hm g1 g2 e1 e2 e3 e4
 rw [h3] at hq
 exact ⟨M'',ρ'',_,hq,k1,k2⟩
def loopO {σ β:Type} (step:σ → Option (σ ⊕ β)):Nat → σ → Option β
 | 0,_=>none
 | n + 1,x=>match step x with
  | none=>none
  | some (.inl y)=>loopO step n y
  | some (.inr b)=>some b
def roundK (f:Foot) (n:Nat) (τ:Tmpl) (l:Alts) (e:Exit) (s:St):Option (τ.El ⊕ AltsEl l) := match e with
 | .normal=>match readT τ f n s with
  | some x=>some (.inl x)
  | none=>none
 | e=>match readAlts f n l e s with
  | some x=>some (.inr x)
  | none=>none
theorem WPs_loopT {R:Option Nat} {P:Program} {nt:Nat} {c:Code} {Q:Exit → St → Prop} {s:St} {f:Foot} {τ:Tmpl} {l:Alts} {F:Nat} {x0:τ.El} {y:AltsEl l} {step:τ.El → Option (τ.El ⊕ AltsEl l)}
  (hm:s.marks = []) (hf:f.ok = true) (hl:altsOk f l = true) (hτ:τ.covers (f.of τ) = true)
  (hstep:∀ x r,step x = some r → WPs R P nt c (fun e s'=>roundK f s.H.length τ l e s' = some r) (τ.st f.D (f.of τ) f.mv s x))
  (h0:readT τ f s.H.length s.sub = some x0) (hrun:loopO step F x0 = some y) (hne:(stAlts f s l y).1 ≠ .normal) (hq:Q (stAlts f s l y).1 (s.outer (stAlts f s l y).2)):WPs R P nt (.loop c) Q s := by
 intro B M ρ a w hg
 have gs := sub_good hg hm
 have hbase := fun ids=>base_self hg f.D ids f.mv
 let J:Nat → Act → World → Prop := fun n a' w'=>∃ M' ρ' x,loopO step n x = some y ∧ Good (actB a) nt M' ρ' (τ.st f.D (f.of τ) f.mv s x) a' w' ∧ Fr M ρ s.H w M' ρ' (τ.st f.D (f.of τ) f.mv s x).H w' s.H.length (f.of τ) f.mv
 refine wpIn_loop (fun a w=>∃ n,J n a w) (fun a w=>leastOf (fun n=>J n a w)) ?_ ?_
 ·obtain ⟨r1,c',hc,r2⟩ := readT_some h0
  obtain ⟨M'',ρ'',g1,g2,_⟩ := absorb (b := s) (H0 := s.H) (M0 := M) (ρ0 := ρ) (a0 := a) (w0 := w) (fun _ _=>rfl) (hbase _) hg.mem gs (Fr.refl ..) (mv_of hf) hτ r1 r2 hc
  exact ⟨F,M'',ρ'',x0,hrun,g1,g2⟩
 ·intro a1 w1 hI
  obtain ⟨hJ,hmin⟩ := leastOf_spec hI
  obtain ⟨M1,ρ1,x,hx,g1,f1⟩ := hJ
  generalize hn:leastOf (fun n=>J n a1 w1) = n at hx hmin
  cases n with
  | zero=>cases hx
  | succ n =>
   simp only [loopO] at hx
   cases hs:step x with
   | none=>simp only [hs] at hx; cases hx
   | some r =>
    refine wpIn_mono (hstep x r hs (actB a) M1 ρ1 a1 w1 g1) ?_
    rintro e a2 w2 ⟨M2,ρ2,s2,hk,g2,go2⟩
    obtain ⟨e1,e2,e3,e4,e5⟩ := Tmpl.st_rest τ f.D (f.of τ) f.mv s x
    have f2:Fr M ρ s.H w M2 ρ2 s2.H w2 s.H.length s2.tch s2.fg := by
     have hfr := go2.fr
     rw [e1] at hfr
     exact f1.trans hfr (fun z hz=>go2.tch z (by rw [e2]; exact hz)) (fun z hz=>hz) (fun z hz=>go2.fg z (by rw [e3]; exact hz)) (fun z hz=>hz)
    unfold roundK at hk
    cases e with
    | normal =>
     simp only at hk
     split at hk
     ·rename_i z hz
      cases hk
      simp only [hs] at hx
      obtain ⟨r1,c',hc,r2⟩ := readT_some hz
      obtain ⟨M'',ρ'',k1,k2,_⟩ := absorb (b := s) (H0 := s.H) (M0 := M) (ρ0 := ρ) (a0 := a) (w0 := w) (fun _ _=>rfl) (hbase _) hg.mem g2 f2 (mv_of hf) hτ r1 r2 hc
      have hx':J n a2 w2 := ⟨M'',ρ'',z,hx,k1,k2⟩
      show (∃ n,J n a2 w2) ∧ leastOf (fun n=>J n a2 w2) < n + 1
      exact ⟨⟨n,hx'⟩,Nat.lt_succ_of_le ((leastOf_spec ⟨n,hx'⟩).2 n hx')⟩
     ·cases hk
    | _ =>
     simp only at hk
     split at hk
     ·rename_i z hz
      cases hk
      simp only [hs,Option.some.injEq] at hx
      subst hx
      obtain ⟨τ',z',h1,h2,h3⟩ := readAlts_spec (b := s) hl hz
      obtain ⟨r1,c',hc,r2⟩ := readT_some h2
      obtain ⟨M'',ρ'',k1,k2,_⟩ := absorb (b := s) (H0 := s.H) (M0 := M) (ρ0 := ρ) (a0 := a) (w0 := w) (fun _ _=>rfl) (hbase _) hg.mem g2 f2 (mv_of hf) h1 r1 r2 hc
      obtain ⟨q1,q2,q3,q4,q5⟩ := Tmpl.st_rest τ' f.D (f.of τ') f.mv s z'
      obtain ⟨m1,m2⟩ := outer_good hg hm k1 k2 q1 q2 q3 q4
      rw [h3] at hq
      exact ⟨M'',ρ'',_,hq,m1,m2⟩
     ·cases hk
def virtSt (s:St) (slot ty:Nat) (row:List Ty):St :=
 {T := s.T.set slot (.sl s.H.length row.length 0 0),H := s.H ++ [.tvec ty row []],n0 := s.n0,tch := s.tch,fg := s.fg,marks := s.marks,er := s.er }
theorem WPs_virt {R:Option Nat} {P:Program} {nt:Nat} {c:Code} {Q:Exit → St → Prop} {s:St} {slot ty:Nat} {row:List Ty} {v:Value} (hs:s.T.get slot = some (.lit v)) (hv:Value.isNil v = true)
  (h:WPs R P nt c Q (virtSt s slot ty row)):WPs R P nt c Q s := by
 refine WPs.of_imp (fun B M ρ a w hg=>⟨ρ,?_,?_⟩) h
 ·obtain ⟨m1,m2⟩ := hg.mem.virt (ty := ty) (sz := row.length)
  refine ⟨fun t y hy=>?_,hg.sz,?_,hg.df,hg.mks,by show s.n0 ≤ (s.H ++ [SObj.tvec ty row []]).length; have := hg.nle; simp; omega,hg.fix⟩
  ·rcases TT.get_set _ _ _ _ _ hy with ⟨rfl,rfl⟩ | ⟨_,hy⟩
   ·have := (hg.tm _ _ hs).lit_eq
    rw [this]
    unfold Value.isNil at hv
    split at hv
    ·simp only [Bool.and_eq_true] at hv
     rw [Nat.eq_of_beq_eq_true hv.1,Nat.eq_of_beq_eq_true hv.2]
     exact .slz _ _ _ _
    ·cases hv
   ·exact hg.tm t y hy
  ·have := m1.described (s := s.H.length) (o := .vec ty row.length []) (o' := .tvec ty row []) (by simp) rfl (fun h=>h)
   simpa [virtSt] using this
 ·obtain ⟨m1,m2⟩ := hg.mem.virt (ty := ty) (sz := row.length)
  have m3 := m2.described (s := s.H.length) (o := .vec ty row.length []) (o' := .tvec ty row []) (by simp) rfl
  refine ⟨?_,rfl,fun _ h=>h,fun _ h=>h⟩
  have m4 := m3.weaken (n' := s.n0) (t' := s.tch) (f' := s.fg) hg.nle (fun x _ h=>by cases h) (fun x _ h=>by cases h)
  simpa [virtSt] using m4
def InLp (F:Fence) (n:Nat) (P:Program) (c:Code) (Q:Exit → Act → World → Prop) (a:Act) (w:World):Prop :=
 ∀ (b:Frame) (k:List Item) (cs:List Frame),b.roundOf = F.round → F.fn b.fn → F.room (cs.length + 1 + n) →
  ∃ e a' w',Q e a' w' ∧ ArrivesIn (Machine.fenced P F) P (lone (b.atR a (.code c :: .inLoop c :: k)) cs w) b k cs e a' w'
theorem InLp.wp {F:Fence} {n:Nat} {P:Program} {c:Code} {Q:Exit → Act → World → Prop} {a:Act} {w:World} (h:InLp F n P c Q a w):(Code.loop c).wpIn F n P Q a w := by
 intro b k cs hro hb hr
 obtain ⟨e,a',w',hq,harr⟩ := h b k cs hro hb hr
 exact ⟨e,a',w',hq,.of_steps (.one (fenced_calm hb hr rfl) stepR_loop) harr⟩
theorem InLp.mono {F:Fence} {n:Nat} {P:Program} {c:Code} {Q Q':Exit → Act → World → Prop} {a:Act} {w:World} (h:InLp F n P c Q a w) (hq:∀ e a w,Q e a w → Q' e a w):InLp F n P c Q' a w :=
 fun b k cs hro hb hr=>let ⟨e,a',w',q,r⟩ := h b k cs hro hb hr; ⟨e,a',w',hq _ _ _ q,r⟩
theorem inLp_loop {F:Fence} {n:Nat} {P:Program} {c:Code} {Q:Exit → Act → World → Prop} {a:Act} {w:World} (I:Act → World → Prop) (μ:Act → World → Nat) (h₀:I a w)
  (round:∀ a w,I a w → c.wpIn F n P (Exit.then (fun a' w'=>(I a' w' ∧ μ a' w' < μ a w) ∨ InLp F n P c Q a' w') Q) a w):InLp F n P c Q a w := by
 intro b k cs hro hb hr
 have key:∀ j a w,μ a w = j → I a w →
   ∃ e a' w',Q e a' w' ∧ ArrivesIn (Machine.fenced P F) P (lone (b.atR a (.code c :: .inLoop c :: k)) cs w) b k cs e a' w' := by
  intro j
  induction j using Nat.strongRecOn with
  | _ j ih =>
   intro a w hn hI
   obtain ⟨e,a₁,w₁,hq,harr⟩ := round a w hI b (.inLoop c :: k) cs hro hb hr
   cases e with
   | normal =>
    rcases hq with ⟨hI₁,hlt⟩ | hL
    ·obtain ⟨e₂,a₂,w₂,hq₂,harr₂⟩ := ih (μ a₁ w₁) (hn ▸ hlt) a₁ w₁ rfl hI₁
     exact ⟨e₂,a₂,w₂,hq₂,.of_steps (StepsIn.trans harr (.one (fenced_calm hb hr rfl) stepR_inLoop)) harr₂⟩
    ·obtain ⟨e₂,a₂,w₂,hq₂,harr₂⟩ := hL b k cs hro hb hr
     exact ⟨e₂,a₂,w₂,hq₂,.of_steps (StepsIn.trans harr (.one (fenced_calm hb hr rfl) stepR_inLoop)) harr₂⟩
   | exit id=>exact ⟨_,a₁,w₁,hq,.pass (x := .inLoop c) rfl (fun _ _=>.inl (by simp)) harr⟩
   | goto l=>exact ⟨_,a₁,w₁,hq,.pass (x := .inLoop c) rfl (fun _ _=>.inl (by simp)) harr⟩
   | ret=>exact ⟨_,a₁,w₁,hq,.pass (x := .inLoop c) rfl (fun _ _=>.inl (by simp)) harr⟩
   | panic ch=>exact ⟨_,a₁,w₁,hq,.pass (x := .inLoop c) rfl (fun _ _=>.inl (by simp)) harr⟩
   | outgrown=>exact ⟨_,a₁,w₁,hq,.pass (x := .inLoop c) rfl (fun _ _=>.inl (by simp)) harr⟩
 exact key _ a w rfl h₀
def WPsL (R:Option Nat) (P:Program) (nt:Nat) (c:Code) (Q:Exit → St → Prop) (s:St):Prop :=
 ∀ B M ρ a w,Good B nt M ρ s a w → InLp (FW R) 0 P c (fun e a' w'=>∃ M' ρ' s',Q e s' ∧ Good B nt M' ρ' s' a' w' ∧ Goes M ρ s w M' ρ' s' w') a w
theorem WPsL.wp {R:Option Nat} {P:Program} {nt:Nat} {c:Code} {Q:Exit → St → Prop} {s:St} (h:WPsL R P nt c Q s):WPs R P nt (.loop c) Q s := fun B M ρ a w hg=>(h B M ρ a w hg).wp
def roundP (f:Foot) (n:Nat) (τ:Tmpl) (l:Alts) (e:Exit) (s:St):Option (τ.El ⊕ AltsEl l) := match e with
 | .normal=>match readT τ f n s with
  | some x=>some (.inl x)
  | none=>match readAlts f n l .normal s with
   | some x=>some (.inr x)
   | none=>none
 | e=>match readAlts f n l e s with
  | some x=>some (.inr x)
  | none=>none
theorem roundP_spec {f:Foot} {n:Nat} {τ:Tmpl} {l:Alts} {e:Exit} {s:St} {r:τ.El ⊕ AltsEl l} (h:roundP f n τ l e s = some r):(∃ x,r = .inl x ∧ e = .normal ∧ readT τ f n s = some x) ∨ ∃ z,r = .inr z ∧ readAlts f n l e s = some z := by
 unfold roundP at h
 cases e with
 | normal =>
  simp only at h
  split at h
  ·rename_i x hx
   cases h
   exact .inl ⟨x,rfl,rfl,hx⟩
  ·split at h
   ·rename_i z hz
    cases h
    exact .inr ⟨z,rfl,hz⟩
   ·cases h
 | _ =>
  simp only at h
  split at h
  ·rename_i z hz
   cases h
   exact .inr ⟨z,rfl,hz⟩
  ·cases h
theorem roundK_spec {f:Foot} {n:Nat} {τ:Tmpl} {l:Alts} {e:Exit} {s:St} {r:τ.El ⊕ AltsEl l} (h:roundK f n τ l e s = some r):(∃ x,r = .inl x ∧ e = .normal ∧ readT τ f n s = some x) ∨ ∃ z,r = .inr z ∧ readAlts f n l e s = some z := by
 unfold roundK at h
 cases e with
 | normal =>
  simp only at h
  split at h
  ·rename_i x hx
   cases h
   exact .inl ⟨x,rfl,rfl,hx⟩
  ·cases h
 | _ =>
  simp only at h
  split at h
  ·rename_i z hz
   cases h
   exact .inr ⟨z,rfl,hz⟩
  ·cases h
theorem WPsL_stage {R:Option Nat} {P:Program} {nt:Nat} {c:Code} {Q:Exit → St → Prop} {s:St} {f:Foot} {τ:Tmpl} {l:Alts} {F:Nat} {x0:τ.El} {y:AltsEl l} {step:τ.El → Option (τ.El ⊕ AltsEl l)} {rk:Exit → St → Option (τ.El ⊕ AltsEl l)}
  (hrk:∀ e s' r,rk e s' = some r → (∃ x,r = .inl x ∧ e = .normal ∧ readT τ f s.H.length s' = some x) ∨ ∃ z,r = .inr z ∧ readAlts f s.H.length l e s' = some z)
  (hm:s.marks = []) (hf:f.ok = true) (hl:altsOk f l = true) (hτ:τ.covers (f.of τ) = true)
  (hstep:∀ x r,step x = some r → WPs R P nt c (fun e s'=>rk e s' = some r) (τ.st f.D (f.of τ) f.mv s x))
  (h0:readT τ f s.H.length s.sub = some x0) (hrun:loopO step F x0 = some y)
  (hn:(stAlts f s l y).1 = .normal → WPsL R P nt c Q (s.outer (stAlts f s l y).2)) (hq:(stAlts f s l y).1 ≠ .normal → Q (stAlts f s l y).1 (s.outer (stAlts f s l y).2)):WPsL R P nt c Q s := by
 intro B M ρ a w hg
 have gs := sub_good hg hm
 have hbase := fun ids=>base_self hg f.D ids f.mv
 let J:Nat → Act → World → Prop := fun n a' w'=>∃ M' ρ' x,loopO step n x = some y ∧ Good (actB a) nt M' ρ' (τ.st f.D (f.of τ) f.mv s x) a' w' ∧ Fr M ρ s.H w M' ρ' (τ.st f.D (f.of τ) f.mv s x).H w' s.H.length (f.of τ) f.mv
 refine inLp_loop (fun a w=>∃ n,J n a w) (fun a w=>leastOf (fun n=>J n a w)) ?_ ?_
 ·obtain ⟨r1,c',hc,r2⟩ := readT_some h0
  obtain ⟨M'',ρ'',g1,g2,_⟩ := absorb (b := s) (H0 := s.H) (M0 := M) (ρ0 := ρ) (a0 := a) (w0 := w) (fun _ _=>rfl) (hbase _) hg.mem gs (Fr.refl ..) (mv_of hf) hτ r1 r2 hc
  exact ⟨F,M'',ρ'',x0,hrun,g1,g2⟩
 ·intro a1 w1 hI
  obtain ⟨hJ,hmin⟩ := leastOf_spec hI
  obtain ⟨M1,ρ1,x,hx,g1,f1⟩ := hJ
  generalize hn':leastOf (fun n=>J n a1 w1) = n at hx hmin
  cases n with
  | zero=>cases hx
  | succ n =>
   simp only [loopO] at hx
   cases hs:step x with
   | none=>simp only [hs] at hx; cases hx
   | some r =>
    refine wpIn_mono (hstep x r hs (actB a) M1 ρ1 a1 w1 g1) ?_
    rintro e a2 w2 ⟨M2,ρ2,s2,hk,g2,go2⟩
    obtain ⟨e1,e2,e3,e4,e5⟩ := Tmpl.st_rest τ f.D (f.of τ) f.mv s x
    have f2:Fr M ρ s.H w M2 ρ2 s2.H w2 s.H.length s2.tch s2.fg := by
     have hfr := go2.fr
     rw [e1] at hfr
     exact f1.trans hfr (fun z hz=>go2.tch z (by rw [e2]; exact hz)) (fun z hz=>hz) (fun z hz=>go2.fg z (by rw [e3]; exact hz)) (fun z hz=>hz)
    rcases hrk e s2 r hk with ⟨z,rfl,rfl,hz⟩ | ⟨z,rfl,hz⟩
    ·simp only [hs] at hx
     obtain ⟨r1,c',hc,r2⟩ := readT_some hz
     obtain ⟨M'',ρ'',k1,k2,_⟩ := absorb (b := s) (H0 := s.H) (M0 := M) (ρ0 := ρ) (a0 := a) (w0 := w) (fun _ _=>rfl) (hbase _) hg.mem g2 f2 (mv_of hf) hτ r1 r2 hc
     have hx':J n a2 w2 := ⟨M'',ρ'',z,hx,k1,k2⟩
     refine .inl ?_
     show (∃ n,J n a2 w2) ∧ leastOf (fun n=>J n a2 w2) < n + 1
     exact ⟨⟨n,hx'⟩,Nat.lt_succ_of_le ((leastOf_spec ⟨n,hx'⟩).2 n hx')⟩
    ·simp only [hs,Option.some.injEq] at hx
     subst hx
     obtain ⟨τ',z',h1,h2,h3⟩ := readAlts_spec (b := s) hl hz
     obtain ⟨r1,c',hc,r2⟩ := readT_some h2
     obtain ⟨M'',ρ'',k1,k2,_⟩ := absorb (b := s) (H0 := s.H) (M0 := M) (ρ0 := ρ) (a0 := a) (w0 := w) (fun _ _=>rfl) (hbase _) hg.mem g2 f2 (mv_of hf) h1 r1 r2 hc
     obtain ⟨q1,q2,q3,q4,q5⟩ := Tmpl.st_rest τ' f.D (f.of τ') f.mv s z'
     obtain ⟨m1,m2⟩ := outer_good hg hm k1 k2 q1 q2 q3 q4
     rw [h3] at hq hn
     cases e with
     | normal=>exact .inr ((hn rfl B M'' ρ'' a2 w2 m1).mono fun e a3 w3 ⟨M3,ρ3,s3,q,g,go⟩=>⟨M3,ρ3,s3,q,g,m2.trans go⟩)
     | exit id=>exact ⟨M'',ρ'',_,hq (fun h=>nomatch h),m1,m2⟩
     | goto lb=>exact ⟨M'',ρ'',_,hq (fun h=>nomatch h),m1,m2⟩
     | ret=>exact ⟨M'',ρ'',_,hq (fun h=>nomatch h),m1,m2⟩
     | panic ch=>exact ⟨M'',ρ'',_,hq (fun h=>nomatch h),m1,m2⟩
     | outgrown=>exact ⟨M'',ρ'',_,hq (fun h=>nomatch h),m1,m2⟩
end Go.Sx
section
namespace Go.Sx
open Go
def TT.all (p:SV → Bool):TT → Bool
 | .nil=>true
 | .node l v r=>l.all p && ((match v with | some x=>p x | none=>true) && r.all p)
theorem TT.all_get {p:SV → Bool}:∀ {T:TT} {t:Nat} {x:SV},T.all p = true → T.get t = some x → p x = true
 | .nil,t,x,_,h=>by simp [TT.get] at h
 | .node l v r,t,x,ha,h=>by
  simp only [TT.all,Bool.and_eq_true] at ha
  simp only [TT.get] at h
  cases h0:Nat.beq t 0 with
  | true=>rw [h0] at h; simp only [cond_true] at h; subst h; exact ha.2.1
  | false =>
   rw [h0] at h
   simp only [cond_false] at h
   cases h1:Nat.beq (t % 2) 1 with
   | true=>rw [h1] at h; exact TT.all_get ha.1 h
   | false=>rw [h1] at h; exact TT.all_get ha.2.2 h
mutual
def sealV (k:Nat) (row:List Ty) (l:List (Els row)):SV → SV
 | .sl s sz st n=>match Nat.beq s k with
  | true=>match st with
   | 0=>.pv (.tsl row l)
   | _ + 1=>.any
  | false=>.sl s sz st n
 | .agg x=>.agg (sealVs k row l x)
 | .tup x=>.tup (sealVs k row l x)
 | .fn f a b=>.fn f (sealVs k row l a) (sealVs k row l b)
 | .ptr s sz i j=>.ptr s sz i j
 | .mp s=>.mp s
 | .yld s=>.yld s
 | .any=>.any
 | .pv p=>.pv p
def sealVs (k:Nat) (row:List Ty) (l:List (Els row)):List SV → List SV
 | []=>[]
 | x :: xs=>sealV k row l x :: sealVs k row l xs
end
mutual
def sealC (k:Nat) (row:List Ty) (l:List (Els row)):SV → Bool
 | .sl s sz st n=>match Nat.beq s k with
  | true=>match st with
   | 0=>Nat.beq sz row.length && decide (n = l.length)
   | _ + 1=>true
  | false=>true
 | .agg x=>sealCs k row l x
 | .tup x=>sealCs k row l x
 | .fn f a b=>sealCs k row l a && sealCs k row l b
 | _=>true
def sealCs (k:Nat) (row:List Ty) (l:List (Els row)):List SV → Bool
 | []=>true
 | x :: xs=>sealC k row l x && sealCs k row l xs
end
theorem sealVs_eq (k:Nat) (row:List Ty) (l:List (Els row)) (xs:List SV):sealVs k row l xs = xs.map (sealV k row l) := by
 induction xs with
 | nil=>rfl
 | cons x xs ih=>simp only [sealVs,List.map_cons,ih]
theorem sealCs_get {k:Nat} {row:List Ty} {l:List (Els row)}:∀ {xs:List SV},sealCs k row l xs = true → ∀ (i:Nat) (x:SV),xs[i]? = some x → sealC k row l x = true
 | [],_,i,x,h=>by simp at h
 | y :: xs,hc,i,x,h=>by
  simp only [sealCs,Bool.and_eq_true] at hc
  cases i with
  | zero=>simp at h; subst h; exact hc.1
  | succ i=>exact sealCs_get hc.2 i x (by simpa using h)
def SObj.sealO (k:Nat) (row:List Ty) (l:List (Els row)):SObj → SObj
 | .mix ty sz rows=>.mix ty sz (rows.map (·.map (sealV k row l)))
 | .map es c=>.map (es.map fun e=>(e.1,sealV k row l e.2.1,e.2.2)) c
 | .loop x=>.loop { x with T := x.T.map (sealV k row l) }
 | o=>o
def SObj.sealC (k:Nat) (row:List Ty) (l:List (Els row)):SObj → Bool
 | .mix ty sz rows=>rows.all (sealCs k row l)
 | .map es c=>es.all fun e=>Sx.sealC k row l e.2.1
 | .loop x=>x.T.all (Sx.sealC k row l)
 | _=>true
def oneLive (H:List SObj) (k:Nat) (o:SObj):List SObj := (H.map fun _=>SObj.dead).set k o
theorem oneLive_get {H:List SObj} {k s:Nat} {o x:SObj} (h:(oneLive H k o)[s]? = some x):(s = k ∧ x = o) ∨ (s ≠ k ∧ x = .dead) := by
 unfold oneLive at h
 rw [List.getElem?_set] at h
 split at h
 ·rename_i e; subst e
  split at h
  ·cases h; exact .inl ⟨rfl,rfl⟩
  ·cases h
 ·rename_i e
  simp only [List.getElem?_map,Option.map_eq_some_iff] at h
  obtain ⟨_,_,rfl⟩ := h
  exact .inr ⟨fun h=>e h.symm,rfl⟩
theorem Mem.oneLive {M:Imm} {ρ:Env} {H:List SObj} {w:World} (hm:Mem M ρ H w) {k:Nat} {o o1:SObj} (hk:H[k]? = some o1) (hl:o1.live = true) (ho:OwnAt M ρ w k o):Mem M ρ (Sx.oneLive H k o) w := by
 refine ⟨hm.imm,fun s x hx=>?_,fun s x p hx hlx hp=>?_,fun s s' x x' p p' hx hx' hlx hlx' hp hp' hb=>?_,fun s hs=>hm.fresh s (by simpa [Sx.oneLive] using hs)⟩
 ·rcases oneLive_get hx with ⟨rfl,rfl⟩ | ⟨_,rfl⟩
  ·exact ho
  ·trivial
 ·rcases oneLive_get hx with ⟨rfl,rfl⟩ | ⟨_,rfl⟩
  ·exact hm.sep s o1 p hk hl hp
  ·cases hlx
 ·rcases oneLive_get hx with ⟨rfl,rfl⟩ | ⟨_,rfl⟩
  ·rcases oneLive_get hx' with ⟨rfl,rfl⟩ | ⟨_,rfl⟩
   ·rfl
   ·cases hlx'
  ·cases hlx
theorem sealV_sound {M M':Imm} {ρ:Env} {k:Nat} {row:List Ty} {l:List (Els row)} (hle:M.le M') (hk:∀ v,SRep M ρ v (.sl k row.length 0 l.length) → PRep M' v (.tsl row l)) {v:Value} {x:SV} (h:SRep M ρ v x):sealC k row l x = true → SRep M' ρ v (sealV k row l x) := by
 induction h with
 | any v=>intro _; exact .any v
 | pv h=>intro _; exact .pv (h.mono hle)
 | agg cs xs hl _ ih =>
  intro hc
  simp only [sealC] at hc
  simp only [sealV,sealVs_eq]
  refine .agg cs _ (by simpa using hl) fun i v x hv hx=>?_
  simp only [List.getElem?_map,Option.map_eq_some_iff] at hx
  obtain ⟨y,hy,rfl⟩ := hx
  exact ih i v y hv hy (sealCs_get hc i y hy)
 | tup cs xs hl _ ih =>
  intro hc
  simp only [sealC] at hc
  simp only [sealV,sealVs_eq]
  refine .tup cs _ (by simpa using hl) fun i v x hv hx=>?_
  simp only [List.getElem?_map,Option.map_eq_some_iff] at hx
  obtain ⟨y,hy,rfl⟩ := hx
  exact ih i v y hv hy (sealCs_get hc i y hy)
 | ptr s sz i j kk p hp hkk=>intro _; exact .ptr s sz i j kk p hp hkk
 | sl s sz st n c kk p hp hkk hc hn h6 =>
  intro hcc
  simp only [sealC] at hcc
  simp only [sealV]
  split
  ·rename_i e
   have e := Nat.eq_of_beq_eq_true e
   subst e
   rw [Nat.beq_refl] at hcc
   simp only at hcc
   cases st with
   | zero =>
    simp only [Bool.and_eq_true] at hcc
    have e1 := Nat.eq_of_beq_eq_true hcc.1
    have e2 := of_decide_eq_true hcc.2
    subst e1; subst e2
    exact .pv (hk _ (.sl _ _ _ _ c kk p hp hkk hc hn h6))
   | succ st=>exact .any _
  ·exact .sl s sz st n c kk p hp hkk hc hn h6
 | slz s sz st a =>
  intro hcc
  simp only [sealC] at hcc
  simp only [sealV]
  split
  ·rename_i e
   have e := Nat.eq_of_beq_eq_true e
   subst e
   rw [Nat.beq_refl] at hcc
   simp only at hcc
   cases st with
   | zero =>
    simp only [Bool.and_eq_true] at hcc
    have e1 := Nat.eq_of_beq_eq_true hcc.1
    have e2 := of_decide_eq_true hcc.2
    subst e1
    refine .pv (hk _ ?_)
    rw [← e2]; exact .slz _ _ _ _
   | succ st=>exact .any _
  ·exact .slz s sz st a
 | mp s p hp=>intro _; exact .mp s p hp
 | yld s p hp=>intro _; exact .yld s p hp
 | fn f a b x y ha hb _ _ ih jh =>
  intro hc
  simp only [sealC,Bool.and_eq_true] at hc
  simp only [sealV,sealVs_eq]
  refine .fn f a b _ _ (by simpa using ha) (by simpa using hb) (fun i v s hv hs=>?_) (fun i v s hv hs=>?_)
  ·simp only [List.getElem?_map,Option.map_eq_some_iff] at hs
   obtain ⟨y,hy,rfl⟩ := hs
   exact ih i v y hv hy (sealCs_get hc.1 i y hy)
  ·simp only [List.getElem?_map,Option.map_eq_some_iff] at hs
   obtain ⟨y,hy,rfl⟩ := hs
   exact jh i v y hv hy (sealCs_get hc.2 i y hy)
theorem OwnAt.sealO {M M':Imm} {ρ:Env} {w:World} {k s:Nat} {row:List Ty} {l:List (Els row)} {o:SObj} (hle:M.le M') (hf:∀ v x,SRep M ρ v x → Sx.sealC k row l x = true → SRep M' ρ v (sealV k row l x)) (hc:o.sealC k row l = true) (h:OwnAt M ρ w s o):OwnAt M' ρ w s (o.sealO k row l) := by
 cases o with
 | mix ty sz rows =>
  simp only [SObj.sealC] at hc
  rcases h with ⟨h1,h2⟩ | ⟨p,h1,h2⟩
  ·exact .inl ⟨h1,by simp [h2]⟩
  ·refine .inr ⟨p,h1,?_⟩
   obtain ⟨cs,a1,a2,a3,a4,a5,a6⟩ := h2.ex
   have key:∀ i j x,mcell (rows.map (·.map (sealV k row l))) i j = some x → ∃ y,mcell rows i j = some y ∧ x = sealV k row l y ∧ Sx.sealC k row l y = true := fun i j x hx=>by
    unfold mcell at hx
    simp only [List.getElem?_map,Option.bind_eq_some_iff,Option.map_eq_some_iff] at hx
    obtain ⟨r',⟨r,hr,rfl⟩,hx⟩ := hx
    simp only [List.getElem?_map,Option.map_eq_some_iff] at hx
    obtain ⟨y,hy,rfl⟩ := hx
    exact ⟨y,by simp [mcell,hr,hy],rfl,sealCs_get (List.all_eq_true.1 hc r (List.mem_of_getElem? hr)) j y hy⟩
   refine ⟨cs,a1,a2,by simpa using a3,by simpa using a4,fun i j x v hx hv=>?_,fun i j x hx=>?_⟩
   ·obtain ⟨y,hy,rfl,hcy⟩ := key i j x hx
    obtain ⟨b1,b2,b3⟩ := a5 i j y v hy hv
    exact ⟨by simpa using b1,b2,hf v y b3 hcy⟩
   ·obtain ⟨y,hy,_⟩ := key i j x hx
    simpa using a6 i j y hy
 | map es c =>
  simp only [SObj.sealC] at hc
  obtain ⟨p,arr,h1,h2,h3,h4⟩ := h
  refine ⟨p,arr,h1,h2,by simpa using h3,fun i kk x b hi=>?_⟩
  simp only [List.getElem?_map,Option.map_eq_some_iff] at hi
  obtain ⟨e,he,hq⟩ := hi
  simp only [Prod.mk.injEq] at hq
  obtain ⟨rfl,rfl,rfl⟩ := hq
  obtain ⟨me,m1,m2,m3,m4⟩ := h4 i e.1 e.2.1 e.2.2 he
  exact ⟨me,m1,m2,m3,hf _ _ m4 (List.all_eq_true.1 hc e (List.mem_of_getElem? he))⟩
 | loop L =>
  simp only [SObj.sealC] at hc
  obtain ⟨p,fn,tmps,q,h1,h2,h3,h4⟩ := h
  refine ⟨p,fn,tmps,q,h1,h2,h3,fun t x hx=>?_⟩
  rw [TT.get_map,Option.map_eq_some_iff] at hx
  obtain ⟨y,hy,rfl⟩ := hx
  exact hf _ _ (h4 t y hy) (TT.all_get hc hy)
 | dead=>exact h.mono hle ρ.le_refl rfl fun _ _=>rfl
 | vec _ _ _=>exact h.mono hle ρ.le_refl rfl fun _ _=>rfl
 | tvec _ _ _=>exact h.mono hle ρ.le_refl rfl fun _ _=>rfl
 | tmap _ _ _=>exact h.mono hle ρ.le_refl rfl fun _ _=>rfl
 | iter _ _=>exact h.mono hle ρ.le_refl rfl fun _ _=>rfl
 | over _ _=>exact h.mono hle ρ.le_refl rfl fun _ _=>rfl
 | mit _ _ _=>exact h.mono hle ρ.le_refl rfl fun _ _=>rfl
 | dfr _=>exact h.mono hle ρ.le_refl rfl fun _ _=>rfl
theorem live_sealO (k:Nat) (row:List Ty) (l:List (Els row)) (o:SObj):(o.sealO k row l).live = o.live := by cases o <;> rfl
def vecGet (k ty:Nat) (row:List Ty) (H:List SObj):Option (Bool × List (Els row)) := (Cel.vec k ty row).get .nil H H.length
def sealSt (k ty:Nat) (row:List Ty) (s:St):Option (Bool × St) := match vecGet k ty row s.H with
 | none=>none
 | some a=>some (a.1 && (s.T.all (sealC k row a.2) && s.H.all (SObj.sealC k row a.2)),
   {T := s.T.map (sealV k row a.2),H := (s.H.map (SObj.sealO k row a.2)).set k .dead,n0 := s.n0,tch := addTo s.n0 [k] s.tch,fg := s.fg,marks := s.marks,er := s.er })
theorem seal_id {M:Imm} {ρ:Env} {H:List SObj} {w:World}:M.sealing ρ H H.length w = M := by
 funext b
 unfold Imm.sealing
 cases M b with
 | some o=>rfl
 | none =>
  simp only
  rw [if_neg]
  rintro ⟨s,o,p,h1,h2,_⟩
  have := (List.getElem?_eq_some_iff.1 h2).1
  omega
theorem cut_id {M:Imm} {ρ:Env} {H:List SObj} {w:World} (hm:Mem M ρ H w):ρ.cut H.length = ρ := by
 funext s
 unfold Env.cut
 split
 ·rfl
 ·rename_i h; exact (hm.fresh s (by omega)).symm
theorem WPs_seal {R:Option Nat} {P:Program} {nt:Nat} {c:Code} {Q:Exit → St → Prop} {s s':St} {k ty:Nat} {row:List Ty} {cc:Bool} (hs:sealSt k ty row s = some (cc,s')) (hc:cc = true)
  (h:WPs R P nt c Q s'):WPs R P nt c Q s := by
 unfold sealSt at hs
 split at hs
 ·cases hs
 ·rename_i a ha
  cases hs
  obtain ⟨c1,l⟩ := a
  simp only [Bool.and_eq_true] at hc
  obtain ⟨hc1,hc2,hc3⟩ := hc
  intro B M ρ act w hg
  have hm := hg.mem
  have ha:(Cel.vec k ty row).get .nil s.H s.H.length = some (c1,l) := ha
  obtain ⟨o,ho,hl,hlen⟩ := Cel.get_len (H1 := []) ha hc1 rfl
  have hks:k < s.H.length := (List.getElem?_eq_some_iff.1 ho).1
  have hown := Cel.get_obj (H1 := []) hm ha hc1 rfl hks (fun q hq=>by cases hq)
  rw [seal_id,cut_id hm] at hown
  have hown:OwnAt M ρ w k (.tvec ty row l) := hown
  have hm1 := Mem.oneLive hm ho hl hown
  have hle := Imm.seal_le M ρ (Sx.oneLive s.H k (.tvec ty row l)) 0 w
  have hget:(Sx.oneLive s.H k (.tvec ty row l))[k]? = some (.tvec ty row l) := by simp [Sx.oneLive,hks]
  have hnew:∀ b ob,M b = none → M.sealing ρ (Sx.oneLive s.H k (.tvec ty row l)) 0 w b = some ob → (∃ p,ρ k = some p ∧ p.block = b) ∧ w.heap[b]? = some ob := fun b ob h0 h1=>by
   obtain ⟨⟨s2,o2,p2,q1,q2,q3,q4,q5⟩,q6⟩ := Imm.seal_new h0 h1
   rcases oneLive_get q2 with ⟨rfl,rfl⟩ | ⟨_,rfl⟩
   ·exact ⟨⟨p2,q4,q5⟩,q6⟩
   ·cases q3
  have hslice:∀ v,SRep M ρ v (.sl k row.length 0 l.length) → PRep (M.sealing ρ (Sx.oneLive s.H k (.tvec ty row l)) 0 w) v (.tsl row l) := fun v hr=>by
   refine seal_data hm1 (Nat.zero_le _) hget rfl rfl (by simp [SObj.len]) rfl (fun i y hy=>?_) hr
   have:(SObj.tvec ty row l).row (0 + i) = (rowPV row y).map .pv := by
    simp only [SObj.row,List.getD,Nat.zero_add,hy,Option.getD_some]
   rw [this]; exact .self hle y
  have hf:∀ v x,SRep M ρ v x → Sx.sealC k row l x = true → SRep (M.sealing ρ (Sx.oneLive s.H k (.tvec ty row l)) 0 w) ρ v (sealV k row l x) := fun v x h hc=>sealV_sound hle hslice h hc
  generalize hM2:M.sealing ρ (Sx.oneLive s.H k (.tvec ty row l)) 0 w = M2 at hle hnew hslice hf
  have hobj:∀ t x,((s.H.map (SObj.sealO k row l)).set k .dead)[t]? = some x → (t = k ∧ x = .dead) ∨ (t ≠ k ∧ ∃ y,s.H[t]? = some y ∧ x = y.sealO k row l) := fun t x hx=>by
   rw [List.getElem?_set] at hx
   split at hx
   ·rename_i e; subst e
    split at hx
    ·cases hx; exact .inl ⟨rfl,rfl⟩
    ·cases hx
   ·rename_i e
    simp only [List.getElem?_map,Option.map_eq_some_iff] at hx
    obtain ⟨y,hy,rfl⟩ := hx
    exact .inr ⟨fun h=>e h.symm,y,hy,rfl⟩
  have hmem2:Mem M2 ρ ((s.H.map (SObj.sealO k row l)).set k .dead) w := by
   refine ⟨fun b ob hb=>?_,fun t x hx=>?_,fun t x p hx hlx hp=>?_,fun t t' x x' p p' hx hx' hlx hlx' hp hp' hbk=>?_,fun t ht=>hm.fresh t (by simpa using ht)⟩
   ·cases e:M b with
    | some o'=>rw [hle b o' e] at hb; cases hb; exact hm.imm b _ e
    | none=>exact (hnew b ob e hb).2
   ·rcases hobj t x hx with ⟨rfl,rfl⟩ | ⟨_,y,hy,rfl⟩
    ·trivial
    ·exact (hm.own t y hy).sealO hle hf (List.all_eq_true.1 hc3 y (List.mem_of_getElem? hy))
   ·rcases hobj t x hx with ⟨rfl,rfl⟩ | ⟨hne,y,hy,rfl⟩
    ·cases hlx
    ·rw [live_sealO] at hlx
     have h0 := hm.sep t y p hy hlx hp
     cases e:M2 p.block with
     | none=>rfl
     | some ob =>
      obtain ⟨⟨p2,q1,q2⟩,_⟩ := hnew _ _ h0 e
      exact absurd (hm.dis t k y o p p2 hy ho hlx hl hp q1 q2.symm) hne
   ·rcases hobj t x hx with ⟨rfl,rfl⟩ | ⟨_,y,hy,rfl⟩
    ·cases hlx
    ·rcases hobj t' x' hx' with ⟨rfl,rfl⟩ | ⟨_,y',hy',rfl⟩
     ·cases hlx'
     ·rw [live_sealO] at hlx hlx'
      exact hm.dis t t' y y' p p' hy hy' hlx hlx' hp hp' hbk
  have hgood:Good B nt M2 ρ { T := s.T.map (sealV k row l),H := (s.H.map (SObj.sealO k row l)).set k .dead,n0 := s.n0,tch := addTo s.n0 [k] s.tch,fg := s.fg,marks := s.marks,er := s.er } act w := by
   refine ⟨fun t x hx=>?_,hg.sz,hmem2,hg.df,hg.mks,by simpa using hg.nle,hg.fix⟩
   rw [TT.get_map,Option.map_eq_some_iff] at hx
   obtain ⟨y,hy,rfl⟩ := hx
   exact hf _ _ (hg.tm t y hy) (TT.all_get hc2 hy)
  have hgoes:Goes M ρ s w M2 ρ { T := s.T.map (sealV k row l),H := (s.H.map (SObj.sealO k row l)).set k .dead,n0 := s.n0,tch := addTo s.n0 [k] s.tch,fg := s.fg,marks := s.marks,er := s.er } w := by
   refine ⟨⟨hle,fun b ob h0 h1=>?_,fun b hb=>?_,fun _ _ _=>rfl,Nat.le_refl _,fun t x ht hx hx2 hlx=>?_,fun _ _ _=>rfl,rfl,rfl⟩,rfl,fun x hx=>(show x ∈ addTo s.n0 [k] s.tch from acc_addTo hx),fun _ h=>h⟩
   ·obtain ⟨⟨p,q1,q2⟩,_⟩ := hnew b ob h0 h1
    exact .inr ⟨k,o,p,ho,hl,q1,q2⟩
   ·obtain ⟨t,x,p,h1,h2,h3,h4⟩ := hb
    rcases hobj t x h1 with ⟨rfl,rfl⟩ | ⟨_,y,hy,rfl⟩
    ·cases h2
    ·rw [live_sealO] at h2; exact .inr ⟨t,y,p,hy,h2,h3,h4⟩
   ·have hne:t ≠ k := fun e=>by
     subst e
     exact hx (mem_addTo ht List.mem_cons_self)
    refine ⟨⟨x.sealO k row l,?_,by rw [live_sealO]; exact hlx⟩,fun p hp=>⟨hp,rfl⟩⟩
    show ((s.H.map (SObj.sealO k row l)).set k .dead)[t]? = _
    rw [List.getElem?_set,if_neg (fun h=>hne h.symm),List.getElem?_map,hx2]; rfl
  exact wpIn_mono (h B M2 ρ act w hgood) fun e a' w' ⟨M',ρ',s'',q,g,kk⟩=>⟨M',ρ',s'',q,g,hgoes.trans kk⟩
def virtFSt (s:St) (ob col ty:Nat) (row:List Ty):Option St := match s.H[ob]? with
 | none=>none
 | some o=>match rowOf1 o with
  | none=>none
  | some q=>match Nat.beq q.2.2.length q.2.1 with
   | false=>none
   | true=>match q.2.2[col]? with
    | some (.pv (.lit v))=>match Value.isNil v with
     | true=>some { T := s.T,H := (s.H.set ob (.mix q.1 q.2.1 [q.2.2.set col (.sl s.H.length row.length 0 0)])) ++ [.tvec ty row []],n0 := s.n0,tch := s.tch,fg := s.fg,marks := s.marks,er := s.er }
     | false=>none
    | _=>none
theorem WPs_virtF {R:Option Nat} {P:Program} {nt:Nat} {c:Code} {Q:Exit → St → Prop} {s s':St} {ob col ty:Nat} {row:List Ty} (hs:virtFSt s ob col ty row = some s')
  (h:WPs R P nt c Q s'):WPs R P nt c Q s := by
 unfold virtFSt at hs
 split at hs
 ·cases hs
 ·rename_i o ho
  split at hs
  ·cases hs
  ·rename_i q hq
   split at hs
   ·cases hs
   ·rename_i hl
    have hl := Nat.eq_of_beq_eq_true hl
    split at hs
    ·rename_i v hv
     split at hs
     ·rename_i hn
      cases hs
      obtain ⟨oty,sz,r⟩ := q
      have hlt:ob < s.H.length := (List.getElem?_eq_some_iff.1 ho).1
      refine WPs.of_imp (fun B M ρ a w hg=>⟨ρ,?_,?_⟩) h
      all_goals
       obtain ⟨g1,g2,g3,g4⟩ := rowOf1_spec (M := M) (ρ := ρ) (w := w) (s := ob) hq
       obtain ⟨m1,m2⟩ := hg.mem.virt (ty := ty) (sz := row.length)
       have n1 := m1.described (s := s.H.length) (o := .vec ty row.length []) (o' := .tvec ty row []) (by simp) rfl (fun h=>h)
       have n2 := m2.described (s := s.H.length) (o := .vec ty row.length []) (o' := .tvec ty row []) (by simp) rfl
       have e1:(s.H ++ [SObj.vec ty row.length []]).set s.H.length (.tvec ty row []) = s.H ++ [.tvec ty row []] := by simp
       rw [e1] at n1 n2
       have hob:(s.H ++ [SObj.tvec ty row []])[ob]? = some o := by rw [List.getElem?_append_left hlt]; exact ho
       have hown:OwnAt M ρ w ob o → OwnAt M ρ w ob (.mix oty sz [r.set col (.sl s.H.length row.length 0 0)]) := fun h0=>by
        refine OwnAt.remix rfl (by simpa using hl) (fun j y hy=>?_) (g4 h0)
        rw [List.getElem?_set] at hy
        split at hy
        ·rename_i e; subst e
         split at hy
         ·cases hy
          refine .inr ⟨_,hv,fun u hu=>?_⟩
          have := hu.lit_eq
          subst this
          unfold Value.isNil at hn
          split at hn
          ·simp only [Bool.and_eq_true] at hn
           rw [Nat.eq_of_beq_eq_true hn.1,Nat.eq_of_beq_eq_true hn.2]
           exact .slz _ _ _ _
          ·cases hn
         ·cases hy
        ·exact .inr ⟨y,hy,fun u hu=>hu⟩
       have e2:(s.H ++ [SObj.tvec ty row []]).set ob (.mix oty sz [r.set col (.sl s.H.length row.length 0 0)]) = (s.H.set ob (.mix oty sz [r.set col (.sl s.H.length row.length 0 0)])) ++ [.tvec ty row []] := by
        rw [List.set_append_left _ _ hlt]
      ·have n3 := n1.described hob (o' := .mix oty sz [r.set col (.sl s.H.length row.length 0 0)]) g1.symm hown
       rw [e2] at n3
       refine ⟨hg.tm,hg.sz,n3,hg.df,hg.mks,?_,hg.fix⟩
       show s.n0 ≤ ((s.H.set ob (.mix oty sz [r.set col (.sl s.H.length row.length 0 0)])) ++ [SObj.tvec ty row []]).length
       have := hg.nle; simp; omega
      ·have n3 := n2.described hob (o' := .mix oty sz [r.set col (.sl s.H.length row.length 0 0)]) g1.symm
       rw [e2] at n3
       exact ⟨n3.weaken (n' := s.n0) (t' := s.tch) (f' := s.fg) hg.nle (fun x _ h=>by cases h) (fun x _ h=>by cases h),rfl,fun _ h=>h,fun _ h=>h⟩
     ·cases hs
    ·cases hs
def truncSt (s:St) (t:Nat):Option St := match s.T.get t with
 | some (.sl d _ _ n)=>match s.H[d]? with
  | some (.tvec ty row l)=>some { T := s.T,H := s.H.set d (.tvec ty row (l.take n)),n0 := s.n0,tch := s.tch,fg := s.fg,marks := s.marks,er := s.er }
  | _=>none
 | _=>none
theorem ownAt_take {M:Imm} {ρ:Env} {w:World} {d ty:Nat} {row:List Ty} {l:List (Els row)} (n:Nat) (h:OwnAt M ρ w d (.tvec ty row l)):OwnAt M ρ w d (.tvec ty row (l.take n)) := by
 rcases h with ⟨h1,h2⟩ | ⟨p,h1,cs,a1,a2,a3,a4,a5,a6⟩
 ·left
  refine ⟨h1,?_⟩
  have:l = [] := by simpa [rowsPV] using h2
  subst this; simp
 ·right
  have hle:(rowsPV row (l.take n)).length ≤ (rowsPV row l).length := by simp; omega
  have sub:∀ i j x,vcell (rowsPV row (l.take n)) i j = some x → i < (rowsPV row (l.take n)).length ∧ vcell (rowsPV row l) i j = some x := fun i j x hx=>by
   unfold vcell at hx ⊢
   simp only [List.getElem?_map,List.getElem?_take] at hx ⊢
   split at hx
   ·rename_i hi
    refine ⟨?_,hx⟩
    cases hl:l[i]? with
    | none=>rw [hl] at hx; simp at hx
    | some y =>
     have := (List.getElem?_eq_some_iff.1 hl).1
     simp; omega
   ·simp at hx
  refine ⟨p,h1,cs,a1,a2,Nat.le_trans (Nat.mul_le_mul_right _ hle) a3,fun i j hi hj=>a4 i j (Nat.lt_of_lt_of_le hi hle) hj,fun i j x v hx hv=>?_,fun i j x hx=>?_⟩
  ·obtain ⟨s1,s2⟩ := sub i j x hx
   obtain ⟨b1,b2,b3⟩ := a5 i j x v s2 hv
   exact ⟨s1,b2,b3⟩
  ·obtain ⟨s1,s2⟩ := sub i j x hx
   exact ⟨s1,(a6 i j x s2).2⟩
theorem WPs_trunc {R:Option Nat} {P:Program} {nt:Nat} {c:Code} {Q:Exit → St → Prop} {s s':St} {t:Nat} (hs:truncSt s t = some s') (h:WPs R P nt c Q s'):WPs R P nt c Q s := by
 unfold truncSt at hs
 split at hs
 ·split at hs
  ·rename_i ty row l hd
   cases hs
   refine WPs.of_imp (fun B M ρ a w hg=>⟨ρ,?_,?_⟩) h
   ·exact ⟨hg.tm,hg.sz,hg.mem.described hd rfl (fun h=>ownAt_take _ h),hg.df,hg.mks,by simpa using hg.nle,hg.fix⟩
   ·exact ⟨(Fr.refl M ρ s.H w s.n0 s.tch s.fg).described hd rfl,rfl,fun _ h=>h,fun _ h=>h⟩
  ·cases hs
 ·cases hs
def keepT (T:TT):List Nat → TT → TT
 | [],T'=>T'
 | t :: l,T'=>keepT T l (match T.get t with
  | some x=>T'.set t x
  | none=>T')
def weakSt (k:Nat) (keep:List Nat) (s:St):St := { s with T := keepT s.T keep (forgetT [k] s.T),H := s.H.map (SObj.forget [k]) }
theorem keepT_get {T:TT} {P:Nat → SV → Prop} (h0:∀ t x,T.get t = some x → P t x):∀ (l:List Nat) (T':TT),(∀ t x,T'.get t = some x → P t x) → ∀ t x,(keepT T l T').get t = some x → P t x
 | [],T',h,t,x,hx=>h t x hx
 | a :: l,T',h,t,x,hx=>by
  simp only [keepT] at hx
  split at hx
  ·rename_i y hy
   refine keepT_get h0 l _ (fun t x hx=>?_) t x hx
   rcases TT.get_set _ _ _ _ _ hx with ⟨rfl,rfl⟩ | ⟨_,hx⟩
   ·exact h0 _ _ hy
   ·exact h t x hx
  ·exact keepT_get h0 l _ h t x hx
theorem WPs_weak {R:Option Nat} {P:Program} {nt:Nat} {c:Code} {Q:Exit → St → Prop} {s:St} {k:Nat} {keep:List Nat} (h:WPs R P nt c Q (weakSt k keep s)):WPs R P nt c Q s := by
 refine WPs.of_imp (fun B M ρ a w hg=>⟨ρ,?_,?_⟩) h
 ·refine ⟨fun t x hx=>?_,hg.sz,?_,hg.df,hg.mks,by show s.n0 ≤ (s.H.map (SObj.forget [k])).length; rw [List.length_map]; exact hg.nle,hg.fix⟩
  ·refine keepT_get (T := s.T) (P := fun t x=>SRep M ρ (a.tmps.getD t undef) x) hg.tm keep _ (fun t x hx=>?_) t x hx
   obtain ⟨y,hy,hyx⟩ := lookup_forgetT hx
   have := (hg.tm t y hy).forget (d := [k]) M.le_refl (ρ' := ρ) (fun _ _ _ h=>h)
   rcases hyx with rfl | ⟨e,rfl⟩
   ·exact this
   ·cases e
  ·have sub:∀ (t:Nat) (x:SObj),(s.H.map (SObj.forget [k]))[t]? = some x → ∃ y,s.H[t]? = some y ∧ x = y.forget [k] := fun t x hx=>by
    simp only [List.getElem?_map,Option.map_eq_some_iff] at hx
    obtain ⟨y,hy,rfl⟩ := hx; exact ⟨y,hy,rfl⟩
   have hm := hg.mem
   refine ⟨hm.imm,fun t x hx=>?_,fun t x p hx hl hp=>?_,fun t t' x x' p p' hx hx' hl hl' hp hp' hb=>?_,fun t ht=>hm.fresh t (by simpa [weakSt] using ht)⟩
   ·obtain ⟨y,hy,rfl⟩ := sub t x hx
    exact (hm.own t y hy).forget M.le_refl (fun _ _ _ h=>h) rfl (fun _ _=>rfl)
   ·obtain ⟨y,hy,rfl⟩ := sub t x hx
    rw [live_forget] at hl; exact hm.sep t y p hy hl hp
   ·obtain ⟨y,hy,rfl⟩ := sub t x hx
    obtain ⟨y',hy',rfl⟩ := sub t' x' hx'
    rw [live_forget] at hl hl'
    exact hm.dis t t' y y' p p' hy hy' hl hl' hp hp' hb
 ·refine ⟨⟨M.le_refl,fun b o h h'=>(by rw [h] at h'; cases h'),fun b hb=>.inr ?_,fun _ _ _=>rfl,Nat.le_refl _,fun t o _ _ ho hl=>⟨⟨o.forget [k],?_,?_⟩,fun p hp=>⟨hp,rfl⟩⟩,fun _ _ _=>rfl,rfl,rfl⟩,rfl,fun _ h=>h,fun _ h=>h⟩
  ·obtain ⟨t,o,p,h1,h2,h3,h4⟩ := hb
   have h1:(s.H.map (SObj.forget [k]))[t]? = some o := h1
   simp only [List.getElem?_map,Option.map_eq_some_iff] at h1
   obtain ⟨y,hy,rfl⟩ := h1
   exact ⟨t,y,p,hy,by rwa [live_forget] at h2,h3,h4⟩
  ·simp [weakSt,ho]
  ·rw [live_forget]; exact hl
def typSt (k ty:Nat) (row:List Ty) (s:St):Option St := match s.H[k]? with
 | some (.vec ty' sz rows)=>match Nat.beq ty' ty && Nat.beq sz row.length with
  | true=>match mapO (ofRow row) rows with
   | some l=>some { s with H := s.H.set k (.tvec ty row l) }
   | none=>none
  | false=>none
 | _=>none
theorem WPs_typ {R:Option Nat} {P:Program} {nt:Nat} {c:Code} {Q:Exit → St → Prop} {s s':St} {k ty:Nat} {row:List Ty} (hs:typSt k ty row s = some s') (h:WPs R P nt c Q s'):WPs R P nt c Q s := by
 unfold typSt at hs
 split at hs
 ·rename_i ty' sz rows ho
  split at hs
  ·rename_i e
   rw [Bool.and_eq_true] at e
   have e1 := Nat.eq_of_beq_eq_true e.1
   have e2 := Nat.eq_of_beq_eq_true e.2
   subst e1; subst e2
   split at hs
   ·rename_i l hl
    cases hs
    have hok := RowsOk.of hl
    refine WPs.of_imp (fun B M ρ a w hg=>⟨ρ,?_,?_⟩) h
    ·refine ⟨hg.tm,hg.sz,hg.mem.described ho rfl (fun hh=>hh.retype hok.1 hok.2),hg.df,hg.mks,by show s.n0 ≤ (s.H.set k _).length; rw [List.length_set]; exact hg.nle,hg.fix⟩
    ·exact ⟨(Fr.refl M ρ s.H w s.n0 s.tch s.fg).described ho rfl,rfl,fun _ h=>h,fun _ h=>h⟩
   ·cases hs
  ·cases hs
 ·cases hs
end Go.Sx
end
namespace Go.Sx
open Go
theorem Mem.sealRow {M:Imm} {ρ:Env} {H:List SObj} {w:World} {k ty:Nat} {row:List Ty} {l:List (Els row)} (hm:Mem M ρ H w) (ho:H[k]? = some (.tvec ty row l)) :
  ∃ M2,M.le M2 ∧ Mem M2 ρ (H.set k .dead) w ∧ (∀ n,Fr M ρ H w M2 ρ (H.set k .dead) w n [k] []) ∧ ∀ v,SRep M ρ v (.sl k row.length 0 l.length) → PRep M2 v (.tsl row l) := by
 have hks:k < H.length := (List.getElem?_eq_some_iff.1 ho).1
 have hl:(SObj.tvec ty row l).live = true := rfl
 have hm1 := Mem.oneLive hm ho hl (hm.own k _ ho)
 have hle := Imm.seal_le M ρ (Sx.oneLive H k (.tvec ty row l)) 0 w
 have hget:(Sx.oneLive H k (.tvec ty row l))[k]? = some (.tvec ty row l) := by simp [Sx.oneLive,hks]
 have hnew:∀ b ob,M b = none → M.sealing ρ (Sx.oneLive H k (.tvec ty row l)) 0 w b = some ob → (∃ p,ρ k = some p ∧ p.block = b) ∧ w.heap[b]? = some ob := fun b ob h0 h1=>by
  obtain ⟨⟨s2,o2,p2,q1,q2,q3,q4,q5⟩,q6⟩ := Imm.seal_new h0 h1
  rcases oneLive_get q2 with ⟨rfl,rfl⟩ | ⟨_,rfl⟩
  ·exact ⟨⟨p2,q4,q5⟩,q6⟩
  ·cases q3
 have hslice:∀ v,SRep M ρ v (.sl k row.length 0 l.length) → PRep (M.sealing ρ (Sx.oneLive H k (.tvec ty row l)) 0 w) v (.tsl row l) := fun v hr=>by
  refine seal_data hm1 (Nat.zero_le _) hget rfl rfl (by simp [SObj.len]) rfl (fun i y hy=>?_) hr
  have:(SObj.tvec ty row l).row (0 + i) = (rowPV row y).map .pv := by
   simp only [SObj.row,List.getD,Nat.zero_add,hy,Option.getD_some]
  rw [this]; exact .self hle y
 generalize hM2:M.sealing ρ (Sx.oneLive H k (.tvec ty row l)) 0 w = M2 at hle hnew hslice
 have hobj:∀ t x,(H.set k .dead)[t]? = some x → (t = k ∧ x = .dead) ∨ (t ≠ k ∧ H[t]? = some x) := fun t x hx=>by
  by_cases e:t = k
  ·subst e; rw [List.getElem?_set_self hks] at hx; cases hx; exact .inl ⟨rfl,rfl⟩
  ·rw [List.getElem?_set_ne (fun h=>e h.symm)] at hx; exact .inr ⟨e,hx⟩
 refine ⟨M2,hle,⟨fun b ob hb=>?_,fun t x hx=>?_,fun t x p hx hlx hp=>?_,fun t t' x x' p p' hx hx' hlx hlx' hp hp' hbk=>?_,fun t ht=>hm.fresh t (by simpa using ht)⟩,fun n=>⟨hle,fun b ob h0 h1=>?_,fun b hb=>?_,fun _ _ _=>rfl,Nat.le_refl _,fun t x ht hx hx2 hlx=>?_,fun _ _ _=>rfl,rfl,rfl⟩,hslice⟩
 ·cases e:M b with
  | some o'=>rw [hle b o' e] at hb; cases hb; exact hm.imm b _ e
  | none=>exact (hnew b ob e hb).2
 ·rcases hobj t x hx with ⟨rfl,rfl⟩ | ⟨_,hy⟩
  ·trivial
  ·exact (hm.own t x hy).mono hle ρ.le_refl rfl fun _ _=>rfl
 ·rcases hobj t x hx with ⟨rfl,rfl⟩ | ⟨hne,hy⟩
  ·cases hlx
  ·have h0 := hm.sep t x p hy hlx hp
   cases e:M2 p.block with
   | none=>rfl
   | some ob =>
    obtain ⟨⟨p2,q1,q2⟩,_⟩ := hnew _ _ h0 e
    exact absurd (hm.dis t k x _ p p2 hy ho hlx hl hp q1 q2.symm) hne
 ·rcases hobj t x hx with ⟨rfl,rfl⟩ | ⟨_,hy⟩
  ·cases hlx
  ·rcases hobj t' x' hx' with ⟨rfl,rfl⟩ | ⟨_,hy'⟩
   ·cases hlx'
   ·exact hm.dis t t' x x' p p' hy hy' hlx hlx' hp hp' hbk
 ·obtain ⟨⟨p,q1,q2⟩,_⟩ := hnew b ob h0 h1
  exact .inr ⟨k,_,p,ho,hl,q1,q2⟩
 ·obtain ⟨t,x,p,h1,h2,h3,h4⟩ := hb
  rcases hobj t x h1 with ⟨rfl,rfl⟩ | ⟨_,hy⟩
  ·cases h2
  ·exact .inr ⟨t,x,p,hy,h2,h3,h4⟩
 ·have hne:t ≠ k := fun e=>hx (by rw [e]; exact List.mem_cons_self)
  exact ⟨⟨x,by rw [List.getElem?_set_ne (fun h=>hne h.symm)]; exact hx2,hlx⟩,fun p hp=>⟨hp,rfl⟩⟩
def sealArg (H:List SObj):SV → Option (SV × Nat × List SObj)
 | .sl k sz 0 n=>match H[k]? with
  | some (.tvec ty row l)=>match Nat.beq sz row.length with
   | true=>some (.pv (.tsl row l),k,H.set k .dead)
   | false=>none
  | _=>none
 | _=>none
def sealCond (H:List SObj):SV → Bool
 | .sl k sz 0 n=>match H[k]? with
  | some (.tvec ty row l)=>decide (n = l.length)
  | _=>true
 | _=>true
theorem sealArg_sound {M:Imm} {ρ:Env} {H H':List SObj} {w:World} {x y:SV} {k:Nat} (hm:Mem M ρ H w) (h:sealArg H x = some (y,k,H')) (hc:sealCond H x = true) :
  H'.length = H.length ∧ ∃ M2,M.le M2 ∧ Mem M2 ρ H' w ∧ (∀ n,Fr M ρ H w M2 ρ H' w n [k] []) ∧ ∀ v,SRep M ρ v x → SRep M2 ρ v y := by
 unfold sealArg at h
 unfold sealCond at hc
 split at h
 ·rename_i k0 sz n
  split at h
  ·rename_i ty row l ho
   split at h
   ·rename_i e
    have e := Nat.eq_of_beq_eq_true e
    subst e
    cases h
    simp only [ho,decide_eq_true_eq] at hc
    subst hc
    obtain ⟨M2,h1,h2,h3,h4⟩ := hm.sealRow ho
    exact ⟨by simp,M2,h1,h2,h3,fun v hv=>.pv (h4 v hv)⟩
   ·cases h
  ·cases h
 ·cases h
def sealArgs:List SV → List SObj → Bool × List SV × List Nat × List SObj
 | [],H=>(true,[],[],H)
 | x :: xs,H=>match sealArg H x with
  | some q=>match sealArgs xs q.2.2 with
   | r=>(sealCond H x && r.1,q.1 :: r.2.1,q.2.1 :: r.2.2.1,r.2.2.2)
  | none=>match sealArgs xs H with
   | r=>(r.1,x :: r.2.1,r.2.2.1,r.2.2.2)
theorem sealArgs_sound:∀ {args:List SV} {M:Imm} {ρ:Env} {H:List SObj} {w:World},Mem M ρ H w → (sealArgs args H).1 = true →
  (sealArgs args H).2.2.2.length = H.length ∧ (sealArgs args H).2.1.length = args.length ∧ ∃ M2,M.le M2 ∧ Mem M2 ρ (sealArgs args H).2.2.2 w ∧ (∀ n,Fr M ρ H w M2 ρ (sealArgs args H).2.2.2 w n (sealArgs args H).2.2.1 []) ∧
   ∀ (i:Nat) (v:Value) (x y:SV),args[i]? = some x → (sealArgs args H).2.1[i]? = some y → SRep M ρ v x → SRep M2 ρ v y
 | [],M,ρ,H,w,hm,hc=>⟨rfl,rfl,M,M.le_refl,hm,fun n=>Fr.refl ..,fun i v x y hx=>by simp at hx⟩
 | x :: xs,M,ρ,H,w,hm,hc=>by
  cases hs:sealArg H x with
  | some q =>
   obtain ⟨y,k,H1⟩ := q
   simp only [sealArgs,hs,Bool.and_eq_true] at hc ⊢
   obtain ⟨e1,M1,a1,a2,a3,a4⟩ := sealArg_sound hm hs hc.1
   obtain ⟨e2,e3,M2,b1,b2,b3,b4⟩ := sealArgs_sound a2 hc.2
   refine ⟨e2.trans e1,by simp [e3],M2,Imm.le_trans a1 b1,b2,fun n=>(a3 n).trans (b3 n) (fun z hz=>?_) (fun z hz=>List.mem_cons_of_mem _ hz) (fun z hz=>by cases hz) (fun z hz=>hz),fun i v x' y' hx hy hv=>?_⟩
   ·rw [List.mem_singleton.1 hz]; exact List.mem_cons_self
   ·cases i with
    | zero =>
     simp at hx hy; subst hx; subst hy
     exact (a4 v hv).mono b1 ρ.le_refl
    | succ i=>exact b4 i v x' y' (by simpa using hx) (by simpa using hy) (hv.mono a1 ρ.le_refl)
  | none =>
   simp only [sealArgs,hs] at hc ⊢
   obtain ⟨e2,e3,M2,b1,b2,b3,b4⟩ := sealArgs_sound (args := xs) hm hc
   refine ⟨e2,by simp [e3],M2,b1,b2,b3,fun i v x' y' hx hy hv=>?_⟩
   cases i with
   | zero=>simp at hx hy; subst hx; subst hy; exact hv.mono b1 ρ.le_refl
   | succ i=>exact b4 i v x' y' (by simpa using hx) (by simpa using hy) hv
theorem SCall.sealed {P:Program} {g:Nat} {args:List SV} {H:List SObj} {K:Post} (hc:(sealArgs args H).1 = true)
  (h:SCall P g (sealArgs args H).2.1 (sealArgs args H).2.2.2 fun r H' t f=>K r H' ((sealArgs args H).2.2.1 ++ t) f):SCall P g args H K := by
 intro M ρ w vs hm hr
 obtain ⟨e1,e2,M2,b1,b2,b3,b4⟩ := sealArgs_sound hm hc
 refine (h M2 ρ w vs b2 ⟨by rw [hr.1,e2],fun i v y hv hy=>?_⟩).mono ?_
 ·obtain ⟨x,hx⟩:∃ x,args[i]? = some x := by
   have:i < args.length := by rw [← e2]; exact (List.getElem?_eq_some_iff.1 hy).1
   exact ⟨_,List.getElem?_eq_getElem this⟩
  exact b4 i v x y hx hy (hr.2 i v x hv hx)
 ·rintro e w' ⟨v,r,H',M',ρ',t,f,he,hk,hs,hm',hf⟩
  rw [e1] at hf
  exact ⟨v,r,H',M',ρ',_,f,he,hk,hs,hm',(b3 _).trans hf (fun z hz=>List.mem_append_left _ hz) (fun z hz=>List.mem_append_right _ hz) (fun z hz=>by cases hz) (fun z hz=>hz)⟩
end Go.Sx
section
namespace Go.Sx
open Go
mutual
def SV.ren (f:Nat → Option Nat):SV → SV
 | .ptr s sz i j=>match f s with
  | some t=>.ptr t sz i j
  | none=>.any
 | .sl s sz st n=>match f s with
  | some t=>.sl t sz st n
  | none=>.any
 | .mp s=>match f s with
  | some t=>.mp t
  | none=>.any
 | .yld s=>match f s with
  | some t=>.yld t
  | none=>.any
 | .agg l=>.agg (renL f l)
 | .tup l=>.tup (renL f l)
 | .fn g a b=>.fn g (renL f a) (renL f b)
 | .any=>.any
 | .pv p=>.pv p
def renL (f:Nat → Option Nat):List SV → List SV
 | []=>[]
 | x :: xs=>x.ren f :: renL f xs
end
theorem renL_eq (f:Nat → Option Nat) (l:List SV):renL f l = l.map (SV.ren f) := by
 induction l with
 | nil=>rfl
 | cons x xs ih=>simp only [renL,List.map_cons,ih]
theorem SRep.ren {M M':Imm} {ρ ρ':Env} {f:Nat → Option Nat} (hM:M.le M') (hf:∀ s t p,f s = some t → ρ s = some p → ρ' t = some p) {v:Value} {x:SV} (h:SRep M ρ v x):SRep M' ρ' v (x.ren f) := by
 induction h with
 | any v=>exact .any v
 | pv h=>exact .pv (h.mono hM)
 | agg cs l hl _ ih =>
  simp only [SV.ren,renL_eq]
  refine .agg cs _ (by simpa using hl) fun i v x hv hx=>?_
  simp only [List.getElem?_map,Option.map_eq_some_iff] at hx
  obtain ⟨y,hy,rfl⟩ := hx
  exact ih i v y hv hy
 | tup cs l hl _ ih =>
  simp only [SV.ren,renL_eq]
  refine .tup cs _ (by simpa using hl) fun i v x hv hx=>?_
  simp only [List.getElem?_map,Option.map_eq_some_iff] at hx
  obtain ⟨y,hy,rfl⟩ := hx
  exact ih i v y hv hy
 | ptr s sz i j k p hp hk =>
  simp only [SV.ren]
  split
  ·rename_i t ht; exact .ptr t sz i j k p (hf s t p ht hp) hk
  ·exact .any _
 | sl s sz st n c k p hp hk hc hn h6 =>
  simp only [SV.ren]
  split
  ·rename_i t ht; exact .sl t sz st n c k p (hf s t p ht hp) hk hc hn h6
  ·exact .any _
 | slz s sz st a =>
  simp only [SV.ren]
  split
  ·exact .slz _ sz st a
  ·exact .any _
 | mp s p hp =>
  simp only [SV.ren]
  split
  ·rename_i t ht; exact .mp t p (hf s t p ht hp)
  ·exact .any _
 | yld s p hp =>
  simp only [SV.ren]
  split
  ·rename_i t ht; exact .yld t p (hf s t p ht hp)
  ·exact .any _
 | fn g a b x y ha hb _ _ ih jh =>
  simp only [SV.ren,renL_eq]
  refine .fn g a b _ _ (by simpa using ha) (by simpa using hb) (fun i v s hv hs=>?_) (fun i v s hv hs=>?_)
  ·simp only [List.getElem?_map,Option.map_eq_some_iff] at hs
   obtain ⟨y,hy,rfl⟩ := hs
   exact ih i v y hv hy
  ·simp only [List.getElem?_map,Option.map_eq_some_iff] at hs
   obtain ⟨y,hy,rfl⟩ := hs
   exact jh i v y hv hy
def SObj.ren (f:Nat → Option Nat):SObj → SObj
 | .mix ty sz rows=>.mix ty sz (rows.map (·.map (SV.ren f)))
 | .map es c=>.map (es.map fun e=>(e.1,e.2.1.ren f,e.2.2)) c
 | .loop l=>.loop { l with T := l.T.map (SV.ren f) }
 | .mit m c s=>.mit (m.bind f) c s
 | o=>o
theorem live_ren (f:Nat → Option Nat) (o:SObj):(o.ren f).live = o.live := by cases o <;> rfl
theorem ATy.raw_ren (f:Nat → Option Nat):∀ (a:ATy) (x:a.El),(a.raw x).ren f = a.raw x
 | .val t,x=>rfl
 | .agg row,x=>by
  have:∀ l:List PV,renL f (l.map .pv) = l.map .pv := fun l=>by
   induction l with
   | nil=>rfl
   | cons x l ih=>simp only [List.map_cons,renL,SV.ren,ih]
  simp only [ATy.raw,SV.ren,this]
theorem OwnAt.ren {M M':Imm} {ρ ρ':Env} {w w':World} {s t:Nat} {f:Nat → Option Nat} {o:SObj} (hM:M.le M') (hf:∀ s t p,f s = some t → ρ s = some p → ρ' t = some p) (hs:ρ' t = ρ s)
  (hw:∀ p,ρ s = some p → w'.heap[p.block]? = w.heap[p.block]?) (h:OwnAt M ρ w s o):OwnAt M' ρ' w' t (o.ren f) := by
 cases o with
 | dead=>trivial
 | vec ty sz rows =>
  rcases h with ⟨h1,h2⟩ | ⟨p,h1,h2⟩
  ·exact .inl ⟨hs.trans h1,h2⟩
  ·refine .inr ⟨p,hs.trans h1,?_⟩
   obtain ⟨cs,a1,a2,a3,a4,a5,a6⟩ := h2.ex
   refine ⟨cs,(hw p h1).trans a1,a2,a3,a4,fun i j x v hx hv=>?_,a6⟩
   obtain ⟨b1,b2,b3⟩ := a5 i j x v hx hv
   refine ⟨b1,b2,?_⟩
   unfold vcell at hx
   simp only [Option.map_eq_some_iff] at hx
   obtain ⟨q,_,rfl⟩ := hx
   cases b3 with
   | pv b3=>exact .pv (b3.mono hM)
 | tvec ty row l =>
  rcases h with ⟨h1,h2⟩ | ⟨p,h1,h2⟩
  ·exact .inl ⟨hs.trans h1,h2⟩
  ·refine .inr ⟨p,hs.trans h1,?_⟩
   obtain ⟨cs,a1,a2,a3,a4,a5,a6⟩ := h2.ex
   refine ⟨cs,(hw p h1).trans a1,a2,a3,a4,fun i j x v hx hv=>?_,a6⟩
   obtain ⟨b1,b2,b3⟩ := a5 i j x v hx hv
   refine ⟨b1,b2,?_⟩
   unfold vcell at hx
   simp only [Option.map_eq_some_iff] at hx
   obtain ⟨q,_,rfl⟩ := hx
   cases b3 with
   | pv b3=>exact .pv (b3.mono hM)
 | mix ty sz rows =>
  rcases h with ⟨h1,h2⟩ | ⟨p,h1,h2⟩
  ·exact .inl ⟨hs.trans h1,by simp [h2]⟩
  ·refine .inr ⟨p,hs.trans h1,?_⟩
   obtain ⟨cs,a1,a2,a3,a4,a5,a6⟩ := h2.ex
   have key:∀ i j x,mcell (rows.map (·.map (SV.ren f))) i j = some x → ∃ y,mcell rows i j = some y ∧ x = y.ren f := fun i j x hx=>by
    unfold mcell at hx
    simp only [List.getElem?_map,Option.bind_eq_some_iff,Option.map_eq_some_iff] at hx
    obtain ⟨r',⟨r,hr,rfl⟩,hx⟩ := hx
    simp only [List.getElem?_map,Option.map_eq_some_iff] at hx
    obtain ⟨y,hy,rfl⟩ := hx
    exact ⟨y,by simp [mcell,hr,hy],rfl⟩
   refine ⟨cs,(hw p h1).trans a1,a2,by simpa using a3,by simpa using a4,fun i j x v hx hv=>?_,fun i j x hx=>?_⟩
   ·obtain ⟨y,hy,rfl⟩ := key i j x hx
    obtain ⟨b1,b2,b3⟩ := a5 i j y v hy hv
    exact ⟨by simpa using b1,b2,b3.ren hM hf⟩
   ·obtain ⟨y,hy,rfl⟩ := key i j x hx
    simpa using a6 i j y hy
 | map es clock =>
  obtain ⟨p,arr,h1,h2,h3,h4⟩ := h
  refine ⟨p,arr,hs.trans h1,(hw p h1).trans h2,by simpa using h3,fun i k x b hi=>?_⟩
  simp only [List.getElem?_map,Option.map_eq_some_iff] at hi
  obtain ⟨⟨k',x',b'⟩,he,hq⟩ := hi
  simp only [Prod.mk.injEq] at hq
  obtain ⟨rfl,rfl,rfl⟩ := hq
  obtain ⟨e,c1,c2,c3,c4⟩ := h4 i k' x' b' he
  exact ⟨e,c1,c2,c3,c4.ren hM hf⟩
 | tmap k v l =>
  obtain ⟨p,arr,h1,h2,h3,h4⟩ := h
  refine ⟨p,arr,hs.trans h1,(hw p h1).trans h2,h3,fun i kk x b hi=>?_⟩
  obtain ⟨e,c1,c2,c3,c4⟩ := h4 i kk x b hi
  refine ⟨e,c1,c2,c3,?_⟩
  have := c4.ren hM hf
  rw [entsFrom_get] at hi
  simp only [Option.map_eq_some_iff,Prod.mk.injEq] at hi
  obtain ⟨y,_,_,rfl,_⟩ := hi
  rwa [ATy.raw_ren] at this
 | iter str pos =>
  obtain ⟨p,h1,h2⟩ := h
  exact ⟨p,hs.trans h1,(hw p h1).trans h2⟩
 | loop l =>
  obtain ⟨p,fn,tmps,q,h1,h2,h3,h4⟩ := h
  refine ⟨p,fn,tmps,q,hs.trans h1,(hw p h1).trans h2,h3,fun t x hx=>?_⟩
  rw [TT.get_map,Option.map_eq_some_iff] at hx
  obtain ⟨y,hy,rfl⟩ := hx
  exact (h4 t y hy).ren hM hf
 | mit m c sn =>
  obtain ⟨p,q,sn,h1,h2,h3,h4⟩ := h
  refine ⟨p,q,sn,hs.trans h1,(hw p h1).trans h2,h3,fun mm e=>?_⟩
  cases m with
  | none=>cases e
  | some x =>
   have e:f x = some mm := e
   obtain ⟨pm,a,b⟩ := h4 x rfl
   exact ⟨pm,hf x mm pm e a,b⟩
 | over st pd =>
  obtain ⟨p,r,h1,h2,h3⟩ := h
  exact ⟨p,r,hs.trans h1,(hw p h1).trans h2,h3⟩
 | dfr shut =>
  obtain ⟨p,h1,h2⟩ := h
  exact ⟨p,hs.trans h1,(hw p h1).trans h2⟩
def pidx:List Nat → Nat → Nat → Option Nat
 | [],_,_=>none
 | a :: l,i,s=>match Nat.beq a s with
  | true=>some i
  | false=>pidx l (i + 1) s
theorem pidx_get:∀ {l:List Nat} {i s t:Nat},pidx l i s = some t → i ≤ t ∧ l[t - i]? = some s
 | a :: l,i,s,t,h=>by
  unfold pidx at h
  split at h
  ·rename_i e
   cases h
   rw [Nat.eq_of_beq_eq_true e]
   simp
  ·obtain ⟨h1,h2⟩ := pidx_get h
   refine ⟨by omega,?_⟩
   rw [show t - i = (t - (i + 1)) + 1 by omega,List.getElem?_cons_succ]
   exact h2
def permOk (σ:List Nat) (n n0:Nat):Bool := Nat.beq σ.length n && decide σ.Nodup
def movedOf (σ:List Nat) (n0:Nat):List Nat := (List.range n0).filter fun i=>match σ[i]? with
 | some o=>!Nat.beq o i
 | none=>true
theorem movedOf_not {σ:List Nat} {n0 i:Nat} (hi:i < n0) (h:i ∉ movedOf σ n0):σ[i]? = some i := by
 unfold movedOf at h
 rw [List.mem_filter,List.mem_range] at h
 split at h
 ·rename_i o e
  rw [e]
  cases hb:Nat.beq o i with
  | true=>rw [Nat.eq_of_beq_eq_true hb]
  | false=>rw [hb] at h; exact absurd ⟨hi,rfl⟩ h
 ·exact absurd ⟨hi,rfl⟩ h
def permSt (σ:List Nat) (s:St):St :=
 {T := s.T.map (SV.ren (pidx σ 0)),H := σ.map fun o=>match s.H[o]? with
   | some x=>x.ren (pidx σ 0)
   | none=>.dead,n0 := s.n0,tch := movedOf σ s.n0 ++ s.tch,fg := movedOf σ s.n0 ++ s.fg,marks := s.marks,er := s.er }
theorem WPs_perm {R:Option Nat} {P:Program} {nt:Nat} {c:Code} {Q:Exit → St → Prop} {s:St} {σ:List Nat} (hm:s.marks = []) (hσ:permOk σ s.H.length s.n0 = true) (h:WPs R P nt c Q (permSt σ s)):WPs R P nt c Q s := by
 simp only [permOk,Bool.and_eq_true,decide_eq_true_eq] at hσ
 obtain ⟨h1,h2⟩ := hσ
 have h1:σ.length = s.H.length := Nat.eq_of_beq_eq_true h1
 have h3:∀ i,i < s.n0 → i ∉ movedOf σ s.n0 → σ[i]? = some i := fun i hi hx=>movedOf_not hi hx
 refine WPs.of_imp (fun B M ρ a w hg=>⟨fun t=>match σ[t]? with
  | some o=>ρ o
  | none=>none,?_,?_⟩) h
 all_goals
  have hat:∀ t o:Nat,σ[t]? = some o → (match σ[t]? with
   | some o=>ρ o
   | none=>none) = ρ o := fun t o e=>by rw [e]
  have hf:∀ (s' t:Nat) (p:Place),pidx σ 0 s' = some t → ρ s' = some p → (match σ[t]? with
   | some o=>ρ o
   | none=>none) = some p := fun s' t p e hp=>by
   have := (pidx_get e).2
   rw [Nat.sub_zero] at this
   rw [this]
   exact hp
  have hobj:∀ (t:Nat) (x:SObj),(σ.map fun o=>match s.H[o]? with
   | some x=>x.ren (pidx σ 0)
   | none=>.dead)[t]? = some x → ∃ o,σ[t]? = some o ∧ (x = .dead ∨ ∃ y,s.H[o]? = some y ∧ x = y.ren (pidx σ 0)) := fun t x hx=>by
   rw [List.getElem?_map,Option.map_eq_some_iff] at hx
   obtain ⟨o,ho,hx⟩ := hx
   refine ⟨o,ho,?_⟩
   split at hx
   ·rename_i y hy
    exact .inr ⟨y,hy,hx.symm⟩
   ·exact .inl hx.symm
  have hm' := hg.mem
 ·refine ⟨fun t x hx=>?_,hg.sz,⟨hm'.imm,fun t x hx=>?_,fun t x p hx hl hp=>?_,fun t t' x x' p p' hx hx' hl hl' hp hp' hb=>?_,fun t ht=>?_⟩,?_,fun m hmm=>?_,?_,hg.fix⟩
  ·have hx:(s.T.map (SV.ren (pidx σ 0))).get t = some x := hx
   rw [TT.get_map,Option.map_eq_some_iff] at hx
   obtain ⟨y,hy,rfl⟩ := hx
   exact (hg.tm t y hy).ren M.le_refl hf
  ·obtain ⟨o,ho,hx⟩ := hobj t x hx
   rcases hx with rfl | ⟨y,hy,rfl⟩
   ·trivial
   ·exact (hm'.own o y hy).ren M.le_refl hf (hat t o ho) fun _ _=>rfl
  ·obtain ⟨o,ho,hx⟩ := hobj t x hx
   rcases hx with rfl | ⟨y,hy,rfl⟩
   ·cases hl
   ·rw [live_ren] at hl
    exact hm'.sep o y p hy hl ((hat t o ho).symm.trans hp)
  ·obtain ⟨o,ho,hx⟩ := hobj t x hx
   obtain ⟨o',ho',hx'⟩ := hobj t' x' hx'
   rcases hx with rfl | ⟨y,hy,rfl⟩
   ·cases hl
   ·rcases hx' with rfl | ⟨y',hy',rfl⟩
    ·cases hl'
    ·rw [live_ren] at hl hl'
     have := hm'.dis o o' y y' p p' hy hy' hl hl' ((hat t o ho).symm.trans hp) ((hat t' o' ho').symm.trans hp') hb
     subst this
     obtain ⟨a1,a2⟩ := List.getElem?_eq_some_iff.1 ho
     obtain ⟨b1,b2⟩ := List.getElem?_eq_some_iff.1 ho'
     exact (List.getElem_inj (h₀ := a1) (h₁ := b1) h2).1 (a2.trans b2.symm)
  ·have ht:σ.length ≤ t := by simpa [permSt] using ht
   rw [List.getElem?_eq_none ht]
  ·have := hg.df
   rw [hm] at this
   show DefersAre _ s.marks _
   rw [hm]
   exact ⟨this.1,fun i d q _ hq=>by simp at hq⟩
  ·have hmm:m ∈ s.marks := hmm
   rw [hm] at hmm
   cases hmm
  ·show s.n0 ≤ (σ.map _).length
   rw [List.length_map,h1]
   exact hg.nle
 ·refine ⟨⟨M.le_refl,fun b o e e'=>(by rw [e] at e'; cases e'),fun b hb=>?_,fun _ _ _=>rfl,Nat.le_refl _,fun i o hi hx ho hl=>?_,fun i hi hx=>?_,rfl,rfl⟩,rfl,fun _ h=>List.mem_append_right _ h,fun _ h=>List.mem_append_right _ h⟩
  ·obtain ⟨t,x,p,hx,hl,hp,hb⟩ := hb
   obtain ⟨o,ho,hx⟩ := hobj t x hx
   rcases hx with rfl | ⟨y,hy,rfl⟩
   ·cases hl
   ·rw [live_ren] at hl
    exact .inr ⟨o,y,p,hy,hl,(hat t o ho).symm.trans hp,hb⟩
  ·refine ⟨⟨o.ren (pidx σ 0),?_,by rw [live_ren]; exact hl⟩,fun p hp=>?_⟩
   ·show (σ.map _)[i]? = _
    rw [List.getElem?_map,(h3 i hi fun hy=>hx (List.mem_append_left _ hy))]
    simp [ho]
   ·rw [hat i i ((h3 i hi fun hy=>hx (List.mem_append_left _ hy)))]
    first | exact hp | exact ⟨hp,rfl⟩ | simp_all
  ·exact hat i i ((h3 i hi fun hy=>hx (List.mem_append_left _ hy)))
def selOf (T:TT):List Nat → List Nat
 | []=>[]
 | t :: l=>match T.get t with
  | some (.ptr k _ _ _)=>k :: selOf T l
  | some (.sl k _ _ _)=>k :: selOf T l
  | _=>selOf T l
def normL (slots:List Nat) (s:St):List Nat := ((List.range s.H.length).filter fun i=>!(selOf s.T slots).contains i) ++ selOf s.T slots
def normOf (slots:List Nat) (s:St):List Nat := match slots with
 | [k,t]=>match Nat.ble 10000 k with
  | true=>match selOf s.T [t] with
   | [o]=>(List.range s.H.length).map fun i=>bif Nat.beq i (k - 10000) then o else bif Nat.beq i o then k - 10000 else i
   | _=>List.range s.H.length
  | false=>normL slots s
 | _=>normL slots s
end Go.Sx
end
section
namespace Go.Sx
open Go
inductive Ann where
 | leaf
 | one (a:Ann)
 | two (a b:Ann)
 | loop (τ:Tmpl) (l:Alts) (f:Foot) (F:Nat) (a:Ann)
 | join (l:Alts) (f:Foot) (a:Ann)
 | virt (slot ty:Nat) (row:List Ty) (a:Ann)
 | sealing (k ty:Nat) (row:List Ty) (a:Ann)
 | within (l:List (Nat × Ann))
 | virtF (ob col ty:Nat) (row:List Ty) (a:Ann)
 | trunc (slot:Nat) (a:Ann)
 | weak (k:Nat) (keep:List Nat) (a:Ann)
 | typ (k ty:Nat) (row:List Ty) (a:Ann)
 | phase (τ:Tmpl) (l:Alts) (f:Foot) (F:Nat) (a b:Ann)
 | norm (slots:List Nat) (a:Ann)
def Ann.fst:Ann → Ann
 | .one a=>a
 | .two a _=>a
 | _=>.leaf
def Ann.snd:Ann → Ann
 | .two _ b=>b
 | _=>.leaf
structure Sm where
 pre:List SV → List SObj → Bool
 run:(X:Type) → List SV → List SObj → KO X → Option X
structure SmOk (cx:Cx) (g:Nat) (sm:Sm):Prop where
 fn:∃ fn,cx.fns.lookup g = some fn
 ok:∀ (X:Type) (args:List SV) (H:List SObj) (k:KO X) (y:X),sm.run X args H k = some y → SCall cx.P g args H fun x H' t f=>k x H' t f = some y
structure Lx where
 ext:List (Nat × Sm)
 anns:List (Nat × Ann)
 still:List Nat
 unk:Option (Nat → Sm) := none
def Sm.first:List (Nat × Sm) → Nat → (X:Type) → List SV → List SObj → KO X → Option X
 | [],_,_,_,_,_=>none
 | q :: l,g,X,args,H,k=>match Nat.beq q.1 g with
  | false=>Sm.first l g X args H k
  | true=>match q.2.pre args H with
   | true=>q.2.run X args H k
   | false=>Sm.first l g X args H k
def Lx.has (l:List (Nat × Sm)) (g:Nat) (args:List SV) (H:List SObj):Bool := l.any fun q=>match Nat.beq q.1 g with
 | true=>q.2.pre args H
 | false=>false
structure Lx.Ok (cx:Cx) (lx:Lx):Prop where
 ext:∀ q ∈ lx.ext,SmOk cx q.1 q.2
 unk:lx.unk = none
theorem Sm.first_ok {cx:Cx}:∀ {l:List (Nat × Sm)} (_:∀ q ∈ l,SmOk cx q.1 q.2) {g:Nat} {X:Type} {args:List SV} {H:List SObj} {k:KO X} {y:X},Sm.first l g X args H k = some y → (∃ fn,cx.fns.lookup g = some fn) ∧ SCall cx.P g args H fun x H' t f=>k x H' t f = some y
 | [],_,g,X,args,H,k,y,h=>by cases h
 | q :: l,hl,g,X,args,H,k,y,h=>by
  simp only [Sm.first] at h
  split at h
  ·exact Sm.first_ok (fun q hq=>hl q (List.mem_cons_of_mem _ hq)) h
  ·rename_i e
   have e := Nat.eq_of_beq_eq_true e
   subst e
   split at h
   ·have := hl q List.mem_cons_self
    exact ⟨this.fn,this.ok X args H k y h⟩
   ·exact Sm.first_ok (fun q hq=>hl q (List.mem_cons_of_mem _ hq)) h
abbrev RecO := (X:Type) → (X → X → Bool) → Ann → Bool → Nat → Code → St → KX X → Option X
def RecOk (cx:Cx) (rec:RecO):Prop := ∀ (X:Type) (eq:X → X → Bool) (_:EqOk eq) R an top nt c s (k:KX X) (y:X),(top = true → R = none) → rec X eq an top nt c s k = some y → WPs R cx.P nt c (fun e s'=>k e s' = some y) s
section
variable {X:Type}
def leaveO (z:Bool) (H:List SObj) (r:SV) (H':List SObj) (t g:List Nat) (k:KO X):Option X :=
 match g.isEmpty && (Nat.ble H.length H'.length && ((z || r.free H.length) && touchedFree H.length H' t)) with
 | true=>match frzS H' H.length 1000 r with
  | some r'=>k r' (restoreH t H H') t []
  | none=>k r H' t g
 | false=>k r H' t g
theorem leaveO_sound {z:Bool} {H:List SObj} {r:SV} {H':List SObj} {t g:List Nat} {k:KO X} {y:X} (h:leaveO z H r H' t g k = some y):Left H (fun x H' t f=>k x H' t f = some y) r H' t g := by
 unfold leaveO at h
 split at h
 ·rename_i e
  simp only [Bool.and_eq_true,List.isEmpty_iff] at e
  split at h
  ·rename_i r' hr'
   exact .inl ⟨e.1,Nat.le_of_ble_eq_true e.2.1,fun s hs o ho _=>touchedFree_spec e.2.2.2 s hs o ho,r',1000,hr',h⟩
  ·exact .inr h
 ·exact .inr h
def resO (cx:Cx) (s:St):List ResultVar → (List SV → Option X) → Option X
 | [],k=>k []
 | .tmp t :: rs,k=>resO cx s rs fun l=>k (s.ev (.tmp t) :: l)
 | .cell a t :: rs,k=>(sLoad cx.tab s.H t (s.ev (.tmp a))).runO (fun _ _=>false) (fun x=>resO cx s rs fun l=>k (x :: l)) fun x _ _ _=>resO cx s rs fun l=>k (x :: l)
theorem resO_sound {cx:Cx} {s:St} {y:X}:∀ (rs:List ResultVar) (k:List SV → Option X),resO cx s rs k = some y → resP cx s rs fun l=>k l = some y
 | [],k,h=>h
 | .tmp t :: rs,k,h=>resO_sound rs _ h
 | .cell a t :: rs,k,h=>Res.runO_holds (fun _ _ h=>by cases h) (fun x h=>resO_sound rs _ h) (fun x _ _ _ h=>resO_sound rs _ h) h
def isEnd:Exit → Bool
 | .normal=>true
 | .ret=>true
 | _=>false
theorem isEnd_eq {e:Exit} (h:isEnd e = true):e = .normal ∨ e = .ret := by
 cases e with
 | normal=>exact .inl rfl
 | ret=>exact .inr rfl
 | _=>cases h
def endO (cx:Cx) (fn:Func) (z:Bool) (H:List SObj) (k:KO X):KX X := fun e s =>
 gd (isEnd e && (s.marks.isEmpty || Nat.ble H.length s.H.length)) (match shut s.marks s.H with
  | none=>none
  | some H'=>resO cx { s with H := H',marks := [] } fn.results.toList fun l=>leaveO z H (retV l) H' s.tch s.fg k)
theorem endO_sound {cx:Cx} {fn:Func} {z:Bool} {H:List SObj} {k:KO X} {e:Exit} {s:St} {y:X} (h:endO cx fn z H k e s = some y) :
  (e = .normal ∨ e = .ret) ∧ (H.length ≤ s.H.length ∨ s.marks = []) ∧ ∃ H',shut s.marks s.H = some H' ∧ resP cx { s with H := H',marks := [] } fn.results.toList fun l =>
   Left H (fun x H' t f=>k x H' t f = some y) (retV l) H' s.tch s.fg := by
 obtain ⟨hc,h⟩ := gd_some h
 simp only [Bool.and_eq_true,Bool.or_eq_true,List.isEmpty_iff] at hc
 split at h
 ·cases h
 ·rename_i H' hs
  exact ⟨isEnd_eq hc.1,hc.2.symm.imp (fun h=>Nat.le_of_ble_eq_true h) id,H',hs,resP_mono _ _ _ (fun l hl=>leaveO_sound hl) (resO_sound _ _ h)⟩
def roundO (rec:RecO) (eq:X → X → Bool) (ab:Ann) (s:Nat) (args:List SV) (H:List SObj) (k:KO X):Option X :=
 match H[s]? with
 | some (.loop L)=>gd (Nat.beq L.params.toList.length args.length && L.params.toList.all fun p=>Nat.blt p L.nt) (rec X eq .leaf false L.nt L.assign (roundSt L args H) fun e s1=>match e with
  | .normal=>gd (!s1.fg.contains s && Nat.ble H.length s1.H.length) (match s1.H[s]? with
   | some (.loop L1)=>gd (isReady L1.state && L1.pending.isNone) (rec X eq ab false L.nt L.body (busyS s L1 s1) fun e s2=>match jumpOf e with
    | none=>none
    | some jump=>gd (!s2.fg.contains s && Nat.ble H.length s2.H.length) (match s2.H[s]? with
     | some (.loop L2)=>k (.lit (.bool jump.isNone)) (endedH s L2 jump s2.H) (endedT s jump s2.tch) s2.fg
     | _=>none))
   | _=>none)
  | _=>none)
 | _=>none
theorem roundO_sound {cx:Cx} {rec:RecO} (hrec:RecOk cx rec) {eq:X → X → Bool} (he:EqOk eq) {ab:Ann} {s:Nat} {args:List SV} {H:List SObj} {k:KO X} {y:X}
  (h:roundO rec eq ab s args H k = some y):SRound cx.P s args H fun x H' t f=>k x H' t f = some y := by
 unfold roundO at h
 split at h
 ·rename_i L hH
  obtain ⟨hc,h⟩ := gd_some h
  rw [Bool.and_eq_true] at hc
  refine SRound_of hH (Nat.eq_of_beq_eq_true hc.1) hc.2 fun R=>?_
  refine (hrec X eq he R _ false _ _ _ _ y (fun e=>by cases e) h).mono fun e s1 h1=>?_
  cases e with
  | normal =>
   obtain ⟨hc1,h1⟩ := gd_some h1
   rw [Bool.and_eq_true] at hc1
   split at h1
   ·rename_i L1 hL1
    obtain ⟨hc2,h1⟩ := gd_some h1
    rw [Bool.and_eq_true] at hc2
    refine ⟨rfl,not_contains hc1.1,Nat.le_of_ble_eq_true hc1.2,L1,hL1,isReady_eq hc2.1,Option.isNone_iff_eq_none.1 hc2.2,?_⟩
    refine (hrec X eq he R _ false _ _ _ _ y (fun e=>by cases e) h1).mono fun e s2 h2=>?_
    cases hj:jumpOf e with
    | none=>simp only [hj] at h2; cases h2
    | some jump =>
     simp only [hj] at h2
     obtain ⟨hc3,h2⟩ := gd_some h2
     rw [Bool.and_eq_true] at hc3
     split at h2
     ·rename_i L2 hL2
      exact ⟨jump,rfl,not_contains hc3.1,Nat.le_of_ble_eq_true hc3.2,L2,hL2,h2⟩
     ·cases h2
   ·cases h1
  | _=>cases h1
 ·cases h
def Lx.annOf (lx:Lx) (g n:Nat):Option Ann := match lx.anns.lookup (g + 10000000 * (n + 1)) with
 | some a=>some a
 | none=>lx.anns.lookup g
def sealCall (lx:Lx) (g:Nat) (args:List SV) (H:List SObj) (k:KO X):Option X := match sealArgs args H with
 | (c,as,S,H1)=>gd c (match Lx.has lx.ext g as H1 with
  | true=>Sm.first lx.ext g X as H1 fun x H' t f=>k x H' (S ++ t) f
  | false=>match lx.unk with
   | some f=>(f g).run X as H1 fun x H' t f=>k x H' (S ++ t) f
   | none=>none)
theorem sealCall_ok {cx:Cx} {lx:Lx} (hlx:lx.Ok cx) {g:Nat} {args:List SV} {H:List SObj} {k:KO X} {y:X} (h:sealCall lx g args H k = some y) :
  (∃ fn,cx.fns.lookup g = some fn) ∧ SCall cx.P g args H fun x H' t f=>k x H' t f = some y := by
 unfold sealCall at h
 obtain ⟨hc,h⟩ := gd_some (c := (sealArgs args H).1) (x := match Lx.has lx.ext g (sealArgs args H).2.1 (sealArgs args H).2.2.2 with
  | true=>Sm.first lx.ext g X (sealArgs args H).2.1 (sealArgs args H).2.2.2 fun x H' t f=>k x H' ((sealArgs args H).2.2.1 ++ t) f
  | false=>match lx.unk with
   | some f=>(f g).run X (sealArgs args H).2.1 (sealArgs args H).2.2.2 fun x H' t f=>k x H' ((sealArgs args H).2.2.1 ++ t) f
   | none=>none) h
 split at h
 ·obtain ⟨h1,h2⟩ := Sm.first_ok hlx.ext h
  exact ⟨h1,SCall.sealed hc h2⟩
 ·rw [hlx.unk] at h; cases h
def callQ (cx:Cx) (lx:Lx) (rec:RecO) (eq:X → X → Bool):CallO X
 | true,s,args,H,k=>match lx.anns.lookup (1000000 + s) with
  | some a=>roundO rec eq a s args H k
  | none=>match lx.unk with
   | some f=>(f (1000000 + s)).run X args H k
   | none=>roundO rec eq .leaf s args H k
 | false,g,args,H,k =>
  match lx.annOf g H.length with
  | some a=>walkO a g args H k
  | none=>match lx.anns.lookup (2000000 + g) with
   | some _=>sealCall lx g args H k
   | none=>match Lx.has lx.ext g args H with
    | true=>Sm.first lx.ext g X args H k
    | false=>match lx.unk with
     | some f=>(f g).run X args H k
     | none=>walkO .leaf g args H k
where walkO (a:Ann) (g:Nat) (args:List SV) (H:List SObj) (k:KO X):Option X := match cx.fns.lookup g with
 | none=>none
 | some fn=>match fn.body with
  | none=>none
  | some c=>gd (Nat.ble args.length fn.ntmps) (rec X eq a true fn.ntmps c (.entry args H) (endO cx fn (lx.still.contains g) H k))
theorem walkO_ok {cx:Cx} (hcx:cx.Ok) {lx:Lx} {rec:RecO} (hrec:RecOk cx rec) {eq:X → X → Bool} (he:EqOk eq) {a:Ann} {g:Nat} {args:List SV} {H:List SObj} {k:KO X} {y:X} (h:callQ.walkO cx lx rec eq a g args H k = some y) :
  (∃ fn,cx.fns.lookup g = some fn) ∧ SCall cx.P g args H fun x H' t f=>k x H' t f = some y := by
 unfold callQ.walkO at h
 split at h
 ·cases h
 ·rename_i fn hfn
  split at h
  ·cases h
  ·rename_i c hb
   obtain ⟨hc,h⟩ := gd_some h
   refine ⟨⟨fn,hfn⟩,?_⟩
   exact SCall.leave (SCall_of_WPs hcx hfn hb (Nat.le_of_ble_eq_true hc) ((hrec X eq he none _ true _ _ _ _ y (fun _=>rfl) h).mono fun e s hs=>endO_sound hs))
theorem callQ_ok {cx:Cx} (hcx:cx.Ok) {lx:Lx} (hlx:lx.Ok cx) {rec:RecO} (hrec:RecOk cx rec) {eq:X → X → Bool} (he:EqOk eq):CallO.Ok cx (callQ cx lx rec eq) := by
 refine ⟨fun g args H k y h=>?_,fun s args H k y h=>?_⟩
 ·have h:(match lx.annOf g H.length with
   | some a=>callQ.walkO cx lx rec eq a g args H k
   | none=>match lx.anns.lookup (2000000 + g) with
    | some _=>sealCall lx g args H k
    | none=>match Lx.has lx.ext g args H with
     | true=>Sm.first lx.ext g X args H k
     | false=>match lx.unk with
      | some f=>(f g).run X args H k
      | none=>callQ.walkO cx lx rec eq .leaf g args H k) = some y := h
  split at h
  ·exact walkO_ok hcx hrec he h
  ·split at h
   ·exact sealCall_ok hlx h
   split at h
   ·exact Sm.first_ok hlx.ext h
   ·rw [hlx.unk] at h
    exact walkO_ok hcx hrec he h
 ·have h:(match lx.anns.lookup (1000000 + s) with
   | some a=>roundO rec eq a s args H k
   | none=>match lx.unk with
    | some f=>(f (1000000 + s)).run X args H k
    | none=>roundO rec eq .leaf s args H k) = some y := h
  split at h
  ·exact roundO_sound hrec he h
  ·rw [hlx.unk] at h
   exact roundO_sound hrec he h
def rangeO (cb:CallO X) (rec:RecO) (eq:X → X → Bool) (nt:Nat) (g:Operand) (ps:Array Tmp) (assign body:Code) (s:St) (k:KX X):Option X :=
 gd (Nat.ble s.n0 s.H.length) (match targetG (s.ev g) (.yld (s.H.length + 1)) with
 | none=>none
 | some (gf,args)=>cb false gf args (startH s nt ps assign body) fun r H' t f =>
  gd ((!f.contains s.H.length && !f.contains (s.H.length + 1)) && ((s.marks.all fun m=>!f.contains m && Nat.blt m s.H.length) && Nat.ble s.n0 H'.length)) (match loopAt H'[s.H.length + 1]? with
  | some (st,pd)=>gd (notBusy st) (match pd with
   | none=>k .normal (afterLoop s none H' t f)
   | some c=>rec X eq .leaf true nt c (afterLoop s (some c) H' t f) k)
  | none=>none))
theorem rangeO_sound {cx:Cx} (hcx:cx.Ok) {cb:CallO X} (hcb:cb.Ok cx) {rec:RecO} (hrec:RecOk cx rec) {eq:X → X → Bool} (he:EqOk eq) {nt:Nat} {g:Operand} {ps:Array Tmp} {assign body:Code} {s:St} {k:KX X} {y:X}
  (h:rangeO cb rec eq nt g ps assign body s k = some y):WPs none cx.P nt (.rangeFunc g ps assign body) (fun e s'=>k e s' = some y) s := by
 obtain ⟨hn,h⟩ := gd_some h
 cases ht:targetG (s.ev g) (.yld (s.H.length + 1)) with
 | none=>simp only [ht] at h; cases h
 | some q =>
  obtain ⟨gf,args⟩ := q
  simp only [ht] at h
  obtain ⟨⟨fn,hfn⟩,h⟩ := hcb.ok _ _ _ _ _ h
  refine WPs_rangeFunc hcx (Nat.le_of_ble_eq_true hn) ht hfn (h.mono fun r H' t f h=>?_)
  obtain ⟨hc,h⟩ := gd_some h
  simp only [Bool.and_eq_true] at hc
  obtain ⟨⟨h1,h2⟩,h3,h4⟩ := hc
  split at h
  ·rename_i st pd hL
   obtain ⟨hc5,h⟩ := gd_some h
   refine ⟨not_contains h1,not_contains h2,fun m hm=>?_,Nat.le_of_ble_eq_true h4,st,pd,hL,notBusy_ne hc5,?_⟩
   ·have := List.all_eq_true.1 h3 m hm
    simp only [Bool.and_eq_true] at this
    exact ⟨not_contains this.1,blt_lt this.2⟩
   ·split at h
    ·exact h
    ·exact hrec X eq he none _ true _ _ _ _ y (fun _=>rfl) h
  ·cases h
def joinO (rec:RecO) (l:Alts) (f:Foot) (an:Ann) (top:Bool) (nt:Nat) (c:Code) (s:St) (k:KX X):Option X :=
 gd (s.marks.isEmpty && (f.ok && altsOk f l)) (match rec (AltsEl l) (AltsEl.eqv l) an top nt c s.sub (fun e s'=>readAlts f s.H.length l e s') with
  | some x=>onAlts f s l x fun e s1=>k e (s.outer s1)
  | none=>none)
theorem joinO_sound {cx:Cx} {rec:RecO} (hrec:RecOk cx rec) {l:Alts} {f:Foot} {an:Ann} {R:Option Nat} {top:Bool} {nt:Nat} {c:Code} {s:St} {k:KX X} {y:X} (ht:top = true → R = none)
  (h:joinO rec l f an top nt c s k = some y):WPs R cx.P nt c (fun e s'=>k e s' = some y) s := by
 obtain ⟨hc,h⟩ := gd_some h
 simp only [Bool.and_eq_true,List.isEmpty_iff] at hc
 split at h
 ·rename_i x hx
  rw [onAlts_eq] at h
  exact WPs_join hc.1 hc.2.1 hc.2.2 (hrec _ _ (AltsEl.eqv_ok l) R _ top _ _ _ _ x ht hx) h
 ·cases h
def isNormal:Exit → Bool
 | .normal=>true
 | _=>false
def loopQ (rec:RecO) (τ:Tmpl) (l:Alts) (f:Foot) (F:Nat) (an:Ann) (top:Bool) (nt:Nat) (c:Code) (s:St) (k:KX X):Option X :=
 gd (s.marks.isEmpty && (f.ok && (altsOk f l && (τ.covers (f.of τ) && l.all fun a=>!isNormal a.1)))) (match readT τ f s.H.length s.sub with
  | some x0=>match loopO (fun x=>rec (τ.El ⊕ AltsEl l) (sumEq (CEls.eqv τ.cells) (AltsEl.eqv l)) an top nt c (τ.st f.D (f.of τ) f.mv s x) (roundK f s.H.length τ l)) F x0 with
   | some y=>onAlts f s l y fun e s1=>k e (s.outer s1)
   | none=>none
  | none=>none)
def phaseL (rec:RecO) (top:Bool) (nt:Nat) (c:Code):Ann → St → KX X → Option X
 | .loop τ l f F a,s,k=>loopQ rec τ l f F a top nt c s k
 | .phase τ l f F a b,s,k=>gd (s.marks.isEmpty && (f.ok && (altsOk f l && τ.covers (f.of τ)))) (match readT τ f s.H.length s.sub with
  | some x0=>match loopO (fun x=>rec (τ.El ⊕ AltsEl l) (sumEq (CEls.eqv τ.cells) (AltsEl.eqv l)) a top nt c (τ.st f.D (f.of τ) f.mv s x) (roundP f s.H.length τ l)) F x0 with
   | some y=>onAlts f s l y fun e s1=>match isNormal e with
    | true=>phaseL rec top nt c b (s.outer s1) k
    | false=>k e (s.outer s1)
   | none=>none
  | none=>none)
 | _,_,_=>none
theorem stAlts_ne {f:Foot} {s:St}:∀ {l:Alts} (x:AltsEl l),(l.all fun a=>!isNormal a.1) = true → (stAlts f s l x).1 ≠ .normal
 | [],x,_=>Empty.elim x
 | [a],x,h=>by
  simp only [List.all_cons,List.all_nil,Bool.and_true,Bool.not_eq_true'] at h
  intro e
  simp only [stAlts] at e
  rw [e] at h; cases h
 | a :: a' :: l,.inl x,h=>by
  simp only [List.all_cons,Bool.and_eq_true,Bool.not_eq_true'] at h
  intro e
  simp only [stAlts] at e
  rw [e] at h; cases h.1
 | a :: a' :: l,.inr x,h=>by
  have h':((a' :: l).all fun a=>!isNormal a.1) = true := by
   simp only [List.all_cons,Bool.and_eq_true] at h ⊢; exact h.2
  simp only [stAlts]
  exact stAlts_ne x h'
theorem loopQ_sound {cx:Cx} {rec:RecO} (hrec:RecOk cx rec) {τ:Tmpl} {l:Alts} {f:Foot} {F:Nat} {an:Ann} {R:Option Nat} {top:Bool} {nt:Nat} {c:Code} {s:St} {k:KX X} {y:X} (ht:top = true → R = none)
  (h:loopQ rec τ l f F an top nt c s k = some y):WPs R cx.P nt (.loop c) (fun e s'=>k e s' = some y) s := by
 obtain ⟨hc,h⟩ := gd_some h
 simp only [Bool.and_eq_true,List.isEmpty_iff] at hc
 obtain ⟨c1,c2,c3,c4,c5⟩ := hc
 split at h
 ·rename_i x0 hx0
  split at h
  ·rename_i z hz
   rw [onAlts_eq] at h
   exact WPs_loopT c1 c2 c3 c4 (fun x r hr=>hrec _ _ (sumEq_ok (CEls.eqv_ok _) (AltsEl.eqv_ok _)) R _ top _ _ _ _ r ht hr) hx0 hz (stAlts_ne z c5) h
  ·cases h
 ·cases h
theorem loopQ_soundL {cx:Cx} {rec:RecO} (hrec:RecOk cx rec) {τ:Tmpl} {l:Alts} {f:Foot} {F:Nat} {an:Ann} {R:Option Nat} {top:Bool} {nt:Nat} {c:Code} {s:St} {k:KX X} {y:X} (ht:top = true → R = none)
  (h:loopQ rec τ l f F an top nt c s k = some y):WPsL R cx.P nt c (fun e s'=>k e s' = some y) s := by
 obtain ⟨hc,h⟩ := gd_some h
 simp only [Bool.and_eq_true,List.isEmpty_iff] at hc
 obtain ⟨c1,c2,c3,c4,c5⟩ := hc
 split at h
 ·rename_i x0 hx0
  split at h
  ·rename_i z hz
   rw [onAlts_eq] at h
   exact WPsL_stage (fun e s' r h=>roundK_spec h) c1 c2 c3 c4 (fun x r hr=>hrec _ _ (sumEq_ok (CEls.eqv_ok _) (AltsEl.eqv_ok _)) R _ top _ _ _ _ r ht hr) hx0 hz (fun hn=>absurd hn (stAlts_ne z c5)) (fun _=>h)
  ·cases h
 ·cases h
theorem isNormal_eq {e:Exit} (h:isNormal e = true):e = .normal := by
 cases e <;> first | rfl | cases h
theorem phaseL_sound {cx:Cx} {rec:RecO} (hrec:RecOk cx rec) {R:Option Nat} {top:Bool} {nt:Nat} {c:Code} {k:KX X} {y:X} (ht:top = true → R = none):∀ (an:Ann) (s:St),phaseL rec top nt c an s k = some y → WPsL R cx.P nt c (fun e s'=>k e s' = some y) s
 | .loop τ l f F a,s,h=>loopQ_soundL hrec ht h
 | .phase τ l f F a b,s,h=>by
  obtain ⟨hc,h⟩ := gd_some h
  simp only [Bool.and_eq_true,List.isEmpty_iff] at hc
  obtain ⟨c1,c2,c3,c4⟩ := hc
  split at h
  ·rename_i x0 hx0
   split at h
   ·rename_i z hz
    rw [onAlts_eq] at h
    refine WPsL_stage (fun e s' r h=>roundP_spec h) c1 c2 c3 c4 (fun x r hr=>hrec _ _ (sumEq_ok (CEls.eqv_ok _) (AltsEl.eqv_ok _)) R _ top _ _ _ _ r ht hr) hx0 hz (fun hn=>?_) (fun hn=>?_)
    ·rw [hn] at h
     exact phaseL_sound hrec ht b _ h
    ·cases he:isNormal (stAlts f s l z).1 with
     | true=>exact absurd (isNormal_eq he) hn
     | false=>rw [he] at h; exact h
   ·cases h
  ·cases h
 | .leaf,_,h=>by cases h
 | .one _,_,h=>by cases h
 | .two _ _,_,h=>by cases h
 | .join _ _ _,_,h=>by cases h
 | .virt _ _ _ _,_,h=>by cases h
 | .sealing _ _ _ _,_,h=>by cases h
 | .within _,_,h=>by cases h
 | .virtF _ _ _ _ _,_,h=>by cases h
 | .trunc _ _,_,h=>by cases h
 | .weak _ _ _,_,h=>by cases h
 | .typ _ _ _ _,_,h=>by cases h
 | .norm _ _,_,h=>by cases h
end
def codeO (cx:Cx) (lx:Lx) (rec:RecO) (X:Type) (eq:X → X → Bool) (an:Ann) (top:Bool) (nt:Nat):Code → St → KX X → Option X
 | .skip,s,k=>k .normal s
 | .region _ ops draw,s,k=>match draw with
  | false=>vopsO eq cx (callQ cx lx rec eq) nt ops ops.toList s (k .normal)
  | true=>gd (Region.noSelect ops) (runPlanO eq cx (callQ cx lx rec eq) nt ops (planOf true ops ops.size (Array.replicate ops.size false)) [] s (k .normal))
 | .seq a b,s,k=>rec X eq an.fst top nt a s fun e s'=>match e with
  | .normal=>rec X eq an.snd top nt b s' k
  | e=>k e s'
 | .cond c a b,s,k=>match s.ev c with
  | .pv (.lit (.bool t))=>match t with
   | true=>rec X eq an.fst top nt a s k
   | false=>rec X eq an.snd top nt b s k
  | _=>none
 | .block id c,s,k=>rec X eq an.fst top nt c s fun e s'=>match e with
  | .exit id'=>bif Nat.beq id' id then k .normal s' else k (.exit id') s'
  | e=>k e s'
 | .loop c,s,k=>rec X eq an.fst top nt c s fun e s'=>match e with
  | .normal=>rec X eq an top nt (.loop c) s' k
  | e=>k e s'
 | .rangeFunc g ps assign body,s,k=>match top with
  | true=>rangeO (callQ cx lx rec eq) rec eq nt g ps assign body s k
  | false=>none
 | .scope c,s,k=>match top with
  | true=>rec X eq an.fst true nt c s fun e s'=>match e with
   | .goto _=>none
   | e=>k e s'
  | false=>none
 | .exit id,s,k=>k (.exit id) s
 | .label _,s,k=>k .normal s
 | .ret,s,k=>k .ret s
 | _,_,_=>none
def Lx.more (lx:Lx) (l:List (Nat × Ann)):Lx := match lx with
 | ⟨ext,anns,still,unk⟩=>⟨ext,l ++ anns,still,unk⟩
theorem Lx.Ok.more {cx:Cx} {lx:Lx} (h:lx.Ok cx) (l:List (Nat × Ann)):(lx.more l).Ok cx := ⟨h.ext,h.unk⟩
def stepO (cx:Cx) (lx:Lx) (rec:RecO):RecO := fun X eq an top nt c s k=>match an with
 | .join l f a=>joinO rec l f a top nt c s k
 | .virt slot ty row a=>match s.T.get slot with
  | some (.pv (.lit v))=>gd (Value.isNil v) (rec X eq a top nt c (virtSt s slot ty row) k)
  | _=>rec X eq a top nt c s k
 | .sealing kk ty row a=>match sealSt kk ty row s with
  | some p=>gd p.1 (rec X eq a top nt c p.2 k)
  | none=>none
 | .trunc slot a=>match truncSt s slot with
  | some s'=>rec X eq a top nt c s' k
  | none=>rec X eq a top nt c s k
 | .weak kk keep a=>rec X eq a top nt c (weakSt kk keep s) k
 | .norm slots a=>gd (s.marks.isEmpty && permOk (normOf slots s) s.H.length s.n0) (rec X eq a top nt c (permSt (normOf slots s) s) k)
 | .typ kk ty row a=>match typSt kk ty row s with
  | some s'=>rec X eq a top nt c s' k
  | none=>none
 | .virtF ob col ty row a=>match virtFSt s ob col ty row with
  | some s'=>rec X eq a top nt c s' k
  | none=>none
 | .within l=>match c with
  | .loop _=>none
  | c=>codeO cx (lx.more l) rec X eq .leaf top nt c s k
 | .loop τ l f F a=>match c with
  | .loop body=>loopQ rec τ l f F a top nt body s k
  | _=>none
 | .phase τ l f F a b=>match c with
  | .loop body=>phaseL rec top nt body (.phase τ l f F a b) s k
  | _=>none
 | .leaf=>codeO cx lx rec X eq .leaf top nt c s k
 | .one a=>codeO cx lx rec X eq (.one a) top nt c s k
 | .two a b=>codeO cx lx rec X eq (.two a b) top nt c s k
def evalO (cx:Cx) (lx:Lx):Nat → RecO
 | 0=>fun _ _ _ _ _ _ _ _=>none
 | n + 1=>stepO cx lx (evalO cx lx n)
def Ann.plain:Ann → Bool
 | .leaf=>true
 | .one _=>true
 | .two _ _=>true
 | _=>false
theorem evalO_sound {cx:Cx} (hcx:cx.Ok) {lx:Lx} (hlx:lx.Ok cx):∀ (n:Nat),RecOk cx (evalO cx lx n) ∧
  (∀ (X:Type) (eq:X → X → Bool) (_:EqOk eq) R an top nt c s (k:KX X) (y:X),(top = true → R = none) → evalO cx lx n X eq an top nt (.loop c) s k = some y → an.plain = true →
   Unrolled R cx.P nt c (fun e s'=>k e s' = some y) n s)
 | 0=>⟨fun X eq he R an top nt c s k y _ h=>(by cases h),fun X eq he R an top nt c s k y _ h=>(by cases h)⟩
 | n + 1=>by
  obtain ⟨ih1,ih2⟩ := evalO_sound hcx hlx n
  have loop:∀ (X:Type) (eq:X → X → Bool) (_:EqOk eq) R an top nt c s (k:KX X) (y:X),(top = true → R = none) → evalO cx lx (n + 1) X eq an top nt (.loop c) s k = some y → an.plain = true →
    Unrolled R cx.P nt c (fun e s'=>k e s' = some y) (n + 1) s := by
   intro X eq he R an top nt c s k y ht h hp
   have h:codeO cx lx (evalO cx lx n) X eq an top nt (.loop c) s k = some y := by
    cases an with
    | leaf=>exact h
    | one a=>exact h
    | two a b=>exact h
    | _=>cases hp
   refine (ih1 X eq he R an.fst top nt c s _ y ht h).mono fun e s' hs=>?_
   cases e with
   | normal=>exact ⟨n,Nat.le_refl n,ih2 X eq he R an top nt c s' k y ht hs hp⟩
   | _=>exact hs
  refine ⟨fun X eq he R an top nt c s k y ht h=>?_,loop⟩
  have code:∀ (lx':Lx),lx'.Ok cx → (an.plain = true ∨ ∀ b,c ≠ .loop b) → ∀ an':Ann,(an.plain = true → an' = an ∧ lx' = lx) → codeO cx lx' (evalO cx lx n) X eq an' top nt c s k = some y → WPs R cx.P nt c (fun e s'=>k e s' = some y) s := by
   intro lx' hlx' hp an' han hcode
   have hcb := callQ_ok hcx hlx' ih1 he
   cases c with
   | skip=>exact WPs_skip hcode
   | region id ops draw =>
    cases draw with
    | false=>exact WPs_region hcx (vopsO_sound he hcb _ _ _ hcode)
    | true =>
     obtain ⟨h1,h2⟩ := gd_some hcode
     exact WPs_draw hcx h1 (runPlanO_sound he hcb _ _ _ _ h2)
   | seq a b =>
    refine WPs_seq ((ih1 X eq he R an'.fst top nt a s _ y ht hcode).mono fun e s' hs=>?_)
    cases e with
    | normal=>exact ih1 X eq he R an'.snd top nt b s' k y ht hs
    | _=>exact hs
   | cond c a b =>
    have hcode:(match s.ev c with
     | .pv (.lit (.bool t))=>match t with
      | true=>evalO cx lx n X eq an'.fst top nt a s k
      | false=>evalO cx lx n X eq an'.snd top nt b s k
     | _=>none) = some y := hcode
    split at hcode
    ·rename_i t e
     refine WPs_cond e (fun hb=>?_) (fun hb=>?_)
     ·subst hb; exact ih1 X eq he R an'.fst top nt a s k y ht hcode
     ·subst hb; exact ih1 X eq he R an'.snd top nt b s k y ht hcode
    ·cases hcode
   | block id c =>
    refine WPs_block ((ih1 X eq he R an'.fst top nt c s _ y ht hcode).mono fun e s' hs=>?_)
    cases e with
    | exit id' =>
     simp only [blockQ]
     by_cases e:id' = id
     ·rw [if_pos e]; simp only [nbeq_t e,cond_true] at hs; exact hs
     ·rw [if_neg e]; simp only [nbeq_f e,cond_false] at hs; exact hs
    | _=>exact hs
   | loop c =>
    have hp:an.plain = true := by
     rcases hp with hp | hp
     ·exact hp
     ·exact absurd rfl (hp c)
    obtain ⟨rfl,rfl⟩ := han hp
    refine WPs_unrolled (loop X eq he R an' top nt c s k y ht ?_ hp)
    cases an' with
    | leaf=>exact hcode
    | one a=>exact hcode
    | two a b=>exact hcode
    | _=>cases hp
   | exit id=>exact WPs_exit hcode
   | label l=>exact WPs_label hcode
   | ret=>exact WPs_ret hcode
   | rangeFunc g ps assign body =>
    cases top with
    | true =>
     have hR := ht rfl
     subst hR
     exact rangeO_sound hcx hcb ih1 he hcode
    | false=>cases hcode
   | scope c =>
    cases top with
    | true =>
     have hR := ht rfl
     subst hR
     refine WPs_scope ((ih1 X eq he none an'.fst true nt c s _ y ht hcode).mono fun e s' hs=>?_)
     cases e with
     | goto _=>cases hs
     | _=>exact hs
    | false=>cases hcode
   | goto _=>cases hcode
   | refuse _=>cases hcode
  cases an with
  | join l f a=>exact joinO_sound ih1 ht h
  | virt slot ty row a =>
   have h:(match s.T.get slot with
    | some (.pv (.lit v))=>gd (Value.isNil v) (evalO cx lx n X eq a top nt c (virtSt s slot ty row) k)
    | _=>evalO cx lx n X eq a top nt c s k) = some y := h
   split at h
   ·rename_i v hv
    obtain ⟨h1,h2⟩ := gd_some h
    exact WPs_virt hv h1 (ih1 X eq he R a top nt c _ k y ht h2)
   ·exact ih1 X eq he R a top nt c _ k y ht h
  | trunc slot a =>
   have h:(match truncSt s slot with
    | some s'=>evalO cx lx n X eq a top nt c s' k
    | none=>evalO cx lx n X eq a top nt c s k) = some y := h
   split at h
   ·rename_i s' hs'
    exact WPs_trunc hs' (ih1 X eq he R a top nt c _ k y ht h)
   ·exact ih1 X eq he R a top nt c _ k y ht h
  | weak kk keep a=>exact WPs_weak (ih1 X eq he R a top nt c _ k y ht h)
  | typ kk ty row a =>
   have h:(match typSt kk ty row s with
    | some s'=>evalO cx lx n X eq a top nt c s' k
    | none=>none) = some y := h
   split at h
   ·rename_i s' hs'
    exact WPs_typ hs' (ih1 X eq he R a top nt c _ k y ht h)
   ·cases h
  | sealing kk ty row a =>
   have h:(match sealSt kk ty row s with
    | some p=>gd p.1 (evalO cx lx n X eq a top nt c p.2 k)
    | none=>none) = some y := h
   split at h
   ·rename_i p hp
    obtain ⟨h1,h2⟩ := gd_some h
    exact WPs_seal (cc := p.1) (s' := p.2) hp h1 (ih1 X eq he R a top nt c _ k y ht h2)
   ·cases h
  | virtF ob col ty row a =>
   have h:(match virtFSt s ob col ty row with
    | some s'=>evalO cx lx n X eq a top nt c s' k
    | none=>none) = some y := h
   split at h
   ·rename_i s' hs'
    exact WPs_virtF hs' (ih1 X eq he R a top nt c _ k y ht h)
   ·cases h
  | within l =>
   cases c with
   | loop b=>cases h
   | _=>exact code (lx.more l) (hlx.more l) (.inr fun b e=>by cases e) .leaf (fun e=>by cases e) h
  | loop τ l f F a =>
   cases c with
   | loop body=>exact loopQ_sound ih1 ht h
   | _=>cases h
  | norm slots a =>
   obtain ⟨h1,h2⟩ := gd_some h
   rw [Bool.and_eq_true,List.isEmpty_iff] at h1
   exact WPs_perm h1.1 h1.2 (ih1 X eq he R a top nt c _ k y ht h2)
  | phase τ l f F a b =>
   cases c with
   | loop body=>exact (phaseL_sound ih1 ht _ _ h).wp
   | _=>cases h
  | leaf=>exact code lx hlx (.inl rfl) .leaf (fun _=>⟨rfl,rfl⟩) h
  | one a=>exact code lx hlx (.inl rfl) (.one a) (fun _=>⟨rfl,rfl⟩) h
  | two a b=>exact code lx hlx (.inl rfl) (.two a b) (fun _=>⟨rfl,rfl⟩) h
end Go.Sx
end
namespace Go.Sx
open Go
def AEls:List ATy → Type
 | []=>Unit
 | [a]=>a.El
 | a :: a' :: l=>a.El × AEls (a' :: l)
def AEls.eqv:(l:List ATy) → AEls l → AEls l → Bool
 | []=>unitEq
 | [a]=>a.eqv
 | a :: a' :: l=>pairEq a.eqv (AEls.eqv (a' :: l))
theorem AEls.eqv_ok:∀ (l:List ATy),EqOk (AEls.eqv l)
 | []=>fun a b h=>rfl
 | [a]=>ATy.eqv_ok a
 | a :: a' :: l=>pairEq_ok (ATy.eqv_ok a) (AEls.eqv_ok (a' :: l))
def svs:(l:List ATy) → AEls l → List SV
 | [],_=>[]
 | [a],x=>[a.sv x]
 | a :: a' :: l,x=>a.sv x.1 :: svs (a' :: l) x.2
def rdL (H:List SObj) (n:Nat):(l:List ATy) → List SV → Option (Bool × AEls l)
 | []=>rdNilS
 | [a]=>rdOneS (rdA H n a)
 | a :: a' :: l=>rdConsS (rdA H n a) (rdL H n (a' :: l))
theorem SRep.free_env {M:Imm} {ρ ρ2:Env} {v:Value} {x:SV} (h:SRep M ρ v x):x.free 0 = true → SRep M ρ2 v x := by
 have fl:∀ (l:List SV),freeL 0 l = true → ∀ (i:Nat) (x:SV),l[i]? = some x → x.free 0 = true := by
  intro l
  induction l with
  | nil=>intro _ i x h; simp at h
  | cons y l ih =>
   intro h i x hx
   simp only [freeL,Bool.and_eq_true] at h
   cases i with
   | zero=>simp at hx; subst hx; exact h.1
   | succ i=>exact ih h.2 i x (by simpa using hx)
 induction h with
 | any v=>intro _; exact .any v
 | pv h=>intro _; exact .pv h
 | agg cs l hl _ ih=>intro hf; exact .agg cs l hl fun i v x hv hx=>ih i v x hv hx (fl l hf i x hx)
 | tup cs l hl _ ih=>intro hf; exact .tup cs l hl fun i v x hv hx=>ih i v x hv hx (fl l hf i x hx)
 | fn f a b x y ha hb _ _ ih jh =>
  intro hf
  simp only [SV.free,Bool.and_eq_true] at hf
  exact .fn f a b x y ha hb (fun i v s hv hs=>ih i v s hv hs (fl x hf.1 i s hs)) (fun i v s hv hs=>jh i v s hv hs (fl y hf.2 i s hs))
 | ptr s=>intro hf; simp [SV.free] at hf
 | sl s=>intro hf; simp [SV.free] at hf
 | slz s=>intro hf; simp [SV.free] at hf
 | mp s=>intro hf; simp [SV.free] at hf
 | yld s=>intro hf; simp [SV.free] at hf
theorem freeL_pv (l:List PV):freeL 0 (l.map .pv) = true := by
 induction l with
 | nil=>rfl
 | cons x l ih=>simp [freeL,SV.free,ih]
theorem mkAgg_free (l:List PV):(SV.mkAgg (l.map .pv)).free 0 = true := by
 unfold SV.mkAgg
 split
 ·rfl
 ·simp only [SV.free]; exact freeL_pv l
theorem ATy.sv_free:∀ (a:ATy) (x:a.El),(a.sv x).free 0 = true
 | .val t,x=>rfl
 | .agg row,x=>mkAgg_free _
theorem svs_free:∀ (l:List ATy) (x:AEls l),freeL 0 (svs l x) = true
 | [],_=>rfl
 | [a],x=>by show ((a.sv x).free 0 && true) = true; rw [ATy.sv_free a x]; rfl
 | a :: a' :: l,x=>by simp only [svs,freeL,ATy.sv_free,svs_free (a' :: l),Bool.and_self]
theorem retV_free (l:List ATy) (x:AEls l):(retV (svs l x)).free 0 = true := by
 have h := svs_free l x
 unfold retV
 split
 ·rename_i y e; rw [e] at h; simpa [freeL] using h
 ·exact h
theorem rd0_sound {M:Imm} {ρ:Env} (n:Nat):∀ (k:Nat),
  (∀ (t:Ty),SizeOf.sizeOf t ≤ k → RdVal M ρ M (rdT [] n t) t.pv) ∧ (∀ (ts:List Ty),SizeOf.sizeOf ts ≤ k → RdRow M ρ M ts (rdRow [] n ts)) := by
 have hle := M.le_refl
 intro k
 induction k with
 | zero=>exact ⟨fun t ht=>by (cases t <;> simp at ht),fun ts ht=>by (cases ts <;> simp at ht)⟩
 | succ k ih =>
  obtain ⟨ih1,ih2⟩ := ih
  refine ⟨fun t ht=>?_,fun ts ht=>?_⟩
  ·match t,ht with
   | .int k,ht=>exact rdScal_ok hle (intOf_ok k)
   | .bool,ht=>exact rdScal_ok hle boolOf_ok
   | .str,ht=>exact rdScal_ok hle strOf_ok
   | .seq row,ht =>
    intro x c y v h hc hr
    have h:rdSeq [] n row (rdRow [] n row) x = some (c,y) := h
    unfold rdSeq at h
    split at h
    ·split at h
     ·rename_i y' hy
      cases h
      cases hr with
      | pv hp=>exact Ty.of_sound (t := .seq row) hy hp
     ·cases h
    ·split at h
     ·cases h
     ·simp at h
    ·cases h
  ·match ts,ht with
   | [],ht=>exact rdNilS_ok
   | [t],ht=>exact rdOneS_ok (ih1 t (by simp at ht; omega))
   | t :: t' :: ts,ht=>exact rdConsS_ok (ih1 t (by simp at ht; omega)) (ih2 (t' :: ts) (by simp at ht ⊢; omega))
theorem rdA0_sound {M:Imm} {ρ ρ2:Env} {n:Nat} {a:ATy} {x:SV} {c:Bool} {y:a.El} {v:Value} (h:rdA [] n a x = some (c,y)) (hc:c = true) (hr:SRep M ρ v x):SRep M ρ2 v (a.sv y) := by
 cases a with
 | val t=>exact .pv ((rd0_sound n _).1 t (Nat.le_refl _) x c y v h hc hr)
 | agg row =>
  refine ATy.sv_of_raw ?_
  have fin:∀ (cs:Array Value) (xs:List SV) (y:Els row),RowFor M ρ M row xs y → cs.size = xs.length → (∀ (i:Nat) (u:Value) (x:SV),cs[i]? = some u → xs[i]? = some x → SRep M ρ u x) → SRep M ρ2 (.agg cs) ((ATy.agg row).raw y) := fun cs xs y hf hl hr=>by
   refine .agg cs _ (by rw [hl,hf.1]; simp [rowPV_length]) fun i u z hu hz=>?_
   simp only [List.getElem?_map,Option.map_eq_some_iff] at hz
   obtain ⟨q,hq,rfl⟩ := hz
   obtain ⟨x,hx,himp⟩ := hf.2 i q hq
   exact .pv (himp u (hr i u x hu hx))
  replace h:rdAgg [] n row x = some (c,y) := h
  unfold rdAgg at h
  split at h
  ·rename_i cs
   split at h
   ·rename_i y' hy
    cases h
    have := hr.lit_eq
    subst this
    refine fin cs _ _ (RowFor.of M.le_refl hy) (by simp) fun i u x hu hx=>?_
    simp only [List.getElem?_map,Option.map_eq_some_iff,Array.getElem?_toList] at hx
    obtain ⟨p,⟨u',hu',rfl⟩,rfl⟩ := hx
    rw [hu] at hu'; cases hu'; exact .pv (.lit _)
   ·cases h
  ·rename_i l
   cases hr with
   | agg cs _ hl hr=>exact fin cs l y ((rd0_sound n _).2 row (Nat.le_refl _) _ _ _ h hc) hl hr
  ·cases h
def RdList (M M2:Imm) (ρ ρ2:Env) {α:Type} (f:List SV → Option (Bool × α)) (g:α → List SV):Prop :=
 ∀ (xs:List SV) (c:Bool) (y:α),f xs = some (c,y) → c = true → (g y).length = xs.length ∧
  ∀ (i:Nat) (v:Value) (z x:SV),(g y)[i]? = some z → xs[i]? = some x → SRep M ρ v x → SRep M2 ρ2 v z
theorem rdList_ok {M M2:Imm} {ρ ρ2:Env} {H:List SObj} {n:Nat} (ha:∀ (a:ATy) (x:SV) (c:Bool) (y:a.El) (v:Value),rdA H n a x = some (c,y) → c = true → SRep M ρ v x → SRep M2 ρ2 v (a.sv y)) :
  ∀ (l:List ATy),RdList M M2 ρ ρ2 (rdL H n l) (svs l)
 | []=>by
  intro xs c y h hc
  match xs,h with
  | [],h=>exact ⟨rfl,fun i v z x hz hx=>by simp at hx⟩
  | _ :: _,h=>cases h
 | [a]=>by
  intro xs c y h hc
  match xs,h with
  | [],h=>cases h
  | _ :: _ :: _,h=>cases h
  | [x],h =>
   replace h:rdA H n a x = some (c,y) := h
   refine ⟨rfl,fun i v z x' hz hx' hr=>?_⟩
   cases i with
   | zero =>
    simp only [svs,List.getElem?_cons_zero,Option.some.injEq] at hz hx'
    subst hz; subst hx'
    exact ha a x c y v h hc hr
   | succ i=>simp at hx'
 | a :: a' :: l=>by
  intro xs c y h hc
  match xs,h with
  | [],h=>cases h
  | x :: xs,h =>
   replace h:rdConsS (rdA H n a) (rdL H n (a' :: l)) (x :: xs) = some (c,y) := h
   simp only [rdConsS] at h
   split at h
   ·cases h
   ·rename_i p h1
    split at h
    ·cases h
    ·rename_i q h2
     cases h
     rw [Bool.and_eq_true] at hc
     obtain ⟨g1,g2⟩ := rdList_ok ha (a' :: l) xs q.1 q.2 h2 hc.2
     refine ⟨by simp only [svs,List.length_cons,g1],fun i v z x' hz hx' hr=>?_⟩
     cases i with
     | zero =>
      simp only [svs,List.getElem?_cons_zero,Option.some.injEq] at hz hx'
      subst hz; subst hx'
      exact ha a x p.1 p.2 v h1 hc.1 hr
     | succ i =>
      simp only [svs,List.getElem?_cons_succ] at hz hx'
      exact g2 i v z x' hz hx' hr
theorem rdL_sound {M:Imm} {ρ ρ2:Env} {H:List SObj} {w:World} {n:Nat} (hm:Mem M ρ H w) (l:List ATy):RdList M (M.sealing ρ H n w) ρ ρ2 (rdL H n l) (svs l) :=
 rdList_ok (fun a x c y v h hc hr=>rdA_sound hm h hc hr) l
theorem rdL0_sound {M:Imm} {ρ ρ2:Env} {n:Nat} (l:List ATy):RdList M M ρ ρ2 (rdL [] n l) (svs l) :=
 rdList_ok (fun a x c y v h hc hr=>rdA0_sound h hc hr) l
structure PC where
 ats:List ATy
 rts:List ATy
 code:AEls ats → Option (AEls rts)
structure PCOk (cx:Cx) (g:Nat) (pc:PC):Prop where
 fn:∃ fn,cx.fns.lookup g = some fn
 ok:∀ a y,pc.code a = some y → SCall cx.P g (svs pc.ats a) [] fun r H' t f=>r = retV (svs pc.rts y) ∧ H' = [] ∧ t = [] ∧ f = []
def PC.sm (pc:PC):Sm where
 pre := fun args H=>(rdL [] 0 pc.ats args).isSome || ((rdL H 0 pc.ats args).isSome && pc.rts.all ATy.scalar)
 run := fun X args H k=>match rdL [] 0 pc.ats args with
  | some p=>gd p.1 (match pc.code p.2 with
   | some y=>k (retV (svs pc.rts y)) H [] []
   | none=>none)
  | none=>match rdL H 0 pc.ats args with
   | some p=>gd (p.1 && pc.rts.all ATy.scalar) (match pc.code p.2 with
    | some y=>k (retV (svs pc.rts y)) H [] []
    | none=>none)
   | none=>none
def litsOnly:List SV → Bool
 | []=>true
 | .pv (.lit _) :: l=>litsOnly l
 | _=>false
def SV.solidV:SV → Bool
 | .pv (.lit _)=>true
 | .agg l=>litsOnly l
 | _=>false
theorem litsOnly_get:∀ {l:List SV},litsOnly l = true → ∀ (i:Nat) (x:SV),l[i]? = some x → ∃ v,x = .lit v
 | [],_,i,x,h=>by simp at h
 | .pv (.lit v) :: l,hl,i,x,h=>by
  cases i with
  | zero=>simp at h; exact ⟨v,h.symm⟩
  | succ i=>exact litsOnly_get (l := l) hl i x (by simpa using h)
theorem solidV_any {M M2:Imm} {ρ ρ2:Env} {v:Value} {x:SV} (hs:x.solidV = true) (h:SRep M ρ v x):SRep M2 ρ2 v x := by
 match x,hs,h with
 | .pv (.lit u),_,h=>rw [h.lit_eq]; exact .pv (.lit _)
 | .agg l,hs,.agg cs _ hl hr =>
  refine .agg cs l hl fun i v x hv hx=>?_
  obtain ⟨u,rfl⟩ := litsOnly_get hs i x hx
  rw [(hr i v _ hv hx).lit_eq]; exact .pv (.lit _)
theorem rowPV_scalar:∀ (row:List Ty) (x:Els row),row.all Ty.scalar = true → litsOnly ((rowPV row x).map .pv) = true
 | [],_,_=>rfl
 | [t],x,h=>by
  cases t <;> first | rfl | (simp [Ty.scalar] at h)
 | t :: t' :: ts,x,h=>by
  simp only [List.all_cons,Bool.and_eq_true] at h
  have := rowPV_scalar (t' :: ts) x.2 (by simp only [List.all_cons,Bool.and_eq_true]; exact h.2)
  cases t <;> first | exact this | (simp [Ty.scalar] at h)
theorem ATy.sv_solid (a:ATy) (x:a.El) (h:a.scalar = true):(a.sv x).solidV = true := by
 cases a with
 | val t=>cases t <;> first | rfl | (simp [ATy.scalar,Ty.scalar] at h)
 | agg row =>
  show (SV.mkAgg ((rowPV row x).map .pv)).solidV = true
  unfold SV.mkAgg
  split
  ·rfl
  ·exact rowPV_scalar row x h
theorem svs_solid:∀ (l:List ATy) (y:AEls l),l.all ATy.scalar = true → ∀ (i:Nat) (x:SV),(svs l y)[i]? = some x → x.solidV = true
 | [],_,_,i,x,h=>by simp [svs] at h
 | [a],y,hs,i,x,h=>by
  cases i with
  | zero=>simp only [svs,List.getElem?_cons_zero,Option.some.injEq] at h; subst h; exact ATy.sv_solid a y (by simpa using hs)
  | succ i=>simp [svs] at h
 | a :: a' :: l,y,hs,i,x,h=>by
  simp only [List.all_cons,Bool.and_eq_true] at hs
  cases i with
  | zero=>simp only [svs,List.getElem?_cons_zero,Option.some.injEq] at h; subst h; exact ATy.sv_solid a y.1 hs.1
  | succ i=>exact svs_solid (a' :: l) y.2 (by simp only [List.all_cons,Bool.and_eq_true]; exact hs.2) i x (by simpa [svs] using h)
theorem retV_any {M M2:Imm} {ρ ρ2:Env} {v:Value} {l:List SV} (hs:∀ (i:Nat) (x:SV),l[i]? = some x → x.solidV = true) (h:SRep M ρ v (retV l)):SRep M2 ρ2 v (retV l) := by
 unfold retV at h ⊢
 split at h
 ·rename_i x; exact solidV_any (hs 0 x rfl) h
 ·cases h with
  | tup cs _ hl hr=>exact .tup cs _ hl fun i v x hv hx=>solidV_any (hs i x hx) (hr i v x hv hx)
def noEnv:Env := fun _=>none
theorem mem_none {M:Imm} {w:World} (h:∀ b o,M b = some o → w.heap[b]? = some o):Mem M noEnv [] w :=
 ⟨h,fun s o ho=>by simp at ho,fun s o p ho=>by simp at ho,fun s s' o o' p p' ho=>by simp at ho,fun s _=>rfl⟩
theorem not_owned_none {b:Nat}:¬ Owned noEnv [] b := fun ⟨s,o,p,h,_⟩=>by simp at h
theorem PC.sm_ok {cx:Cx} {g:Nat} {pc:PC} (h:PCOk cx g pc):SmOk cx g pc.sm := by
 refine ⟨h.fn,fun X args H k y hk=>?_⟩
 have hk:(match rdL [] 0 pc.ats args with
  | some p=>gd p.1 (match pc.code p.2 with
   | some y=>k (retV (svs pc.rts y)) H [] []
   | none=>none)
  | none=>match rdL H 0 pc.ats args with
   | some p=>gd (p.1 && pc.rts.all ATy.scalar) (match pc.code p.2 with
    | some y=>k (retV (svs pc.rts y)) H [] []
    | none=>none)
   | none=>none) = some y := hk
 have keep:∀ (w w':World) (M2 M2':Imm) (ρ':Env) (H':List SObj) (t f:List Nat),Fr M2 noEnv [] w M2' ρ' H' w' 0 t f → ∀ b,b < w.heap.size → w'.heap[b]? = w.heap[b]? := fun w w' M2 M2' ρ' H' t f hf b hb=>hf.same b hb not_owned_none
 split at hk
 ·rename_i p hrd
  obtain ⟨hc,hk⟩ := gd_some hk
  split at hk
  ·rename_i z hz
   intro M ρ w vs hm hr
   obtain ⟨l1,l2⟩ := rdL0_sound (M := M) (ρ := ρ) (ρ2 := noEnv) pc.ats args p.1 p.2 hrd hc
   refine (h.ok p.2 z hz M noEnv w vs (mem_none hm.imm) ⟨by rw [hr.1,l1],fun i v x hv hx=>?_⟩).mono ?_
   ·obtain ⟨x',hx'⟩:∃ x',args[i]? = some x' := by
     have:i < args.length := by rw [← l1]; exact (List.getElem?_eq_some_iff.1 hx).1
     exact ⟨_,List.getElem?_eq_getElem this⟩
    exact l2 i v x x' hx hx' (hr.2 i v x' hv hx')
   ·rintro e w' ⟨v,r,H',M',ρ',t,f,he,⟨rfl,rfl,rfl,rfl⟩,hs,hm',hf⟩
    have hsame := keep _ _ _ _ _ _ _ _ hf
    refine ⟨v,_,H,M',ρ,[],[],he,hk,hs.free_env (retV_free _ z),?_,?_⟩
    ·refine ⟨hm'.imm,fun s o ho=>?_,fun s o p ho hl hp=>?_,hm.dis,hm.fresh⟩
     ·by_cases hl:o.live = true
      ·exact (hm.own s o ho).mono hf.imm ρ.le_refl rfl fun p hp=>hsame _ ((hm.own s o ho).lt hl hp)
      ·rw [live_some hl]; trivial
     ·cases e:M' p.block with
      | none=>rfl
      | some ob =>
       rcases hf.new p.block ob (hm.sep s o p ho hl hp) e with h1 | h1
       ·have := (hm.own s o ho).lt hl hp; omega
       ·exact absurd h1 not_owned_none
    ·exact ⟨hf.imm,fun b o a c=>(hf.new b o a c).imp id fun h=>absurd h not_owned_none,fun b hb=>.inr hb,fun b hb _=>hsame b hb,hf.grow,fun s o _ _ ho hl=>⟨⟨o,ho,hl⟩,fun p hp=>⟨hp,hsame _ ((hm.own s o ho).lt hl hp)⟩⟩,fun _ _ _=>rfl,hf.io⟩
  ·cases hk
 ·split at hk
  ·rename_i p hrd
   obtain ⟨hc,hk⟩ := gd_some hk
   rw [Bool.and_eq_true] at hc
   split at hk
   ·rename_i z hz
    intro M ρ w vs hm hr
    obtain ⟨l1,l2⟩ := rdL_sound (n := 0) (ρ2 := noEnv) hm pc.ats args p.1 p.2 hrd hc.1
    have hM2:∀ b o,(M.sealing ρ H 0 w) b = some o → w.heap[b]? = some o := fun b o hb=>by
     cases e:M b with
     | some o'=>rw [Imm.seal_le M ρ H 0 w b o' e] at hb; cases hb; exact hm.imm b _ e
     | none=>exact (Imm.seal_new e hb).2
    refine (h.ok p.2 z hz (M.sealing ρ H 0 w) noEnv w vs (mem_none hM2) ⟨by rw [hr.1,l1],fun i v x hv hx=>?_⟩).mono ?_
    ·obtain ⟨x',hx'⟩:∃ x',args[i]? = some x' := by
      have:i < args.length := by rw [← l1]; exact (List.getElem?_eq_some_iff.1 hx).1
      exact ⟨_,List.getElem?_eq_getElem this⟩
     exact l2 i v x x' hx hx' (hr.2 i v x' hv hx')
    ·rintro e w' ⟨v,r,H',M',ρ',t,f,he,⟨rfl,rfl,rfl,rfl⟩,hs,hm',hf⟩
     have hsame := keep _ _ _ _ _ _ _ _ hf
     refine ⟨v,_,H,M,ρ,[],[],he,hk,retV_any (svs_solid _ z hc.2) hs,?_,?_⟩
     ·refine ⟨fun b o hb=>?_,fun s o ho=>?_,hm.sep,hm.dis,hm.fresh⟩
      ·rw [hsame b (hm.imm_lt hb)]; exact hm.imm b o hb
      ·by_cases hl:o.live = true
       ·exact (hm.own s o ho).mono M.le_refl ρ.le_refl rfl fun p hp=>hsame _ ((hm.own s o ho).lt hl hp)
       ·rw [live_some hl]; trivial
     ·exact ⟨M.le_refl,fun b o a c=>(by rw [a] at c; cases c),fun b hb=>.inr hb,fun b hb _=>hsame b hb,hf.grow,fun s o _ _ ho hl=>⟨⟨o,ho,hl⟩,fun p hp=>⟨hp,hsame _ ((hm.own s o ho).lt hl hp)⟩⟩,fun _ _ _=>rfl,hf.io⟩
   ·cases hk
  ·cases hk
def finO (cx:Cx) (fn:Func) (rts:List ATy):KX (AEls rts) := fun e s =>
 gd (isEnd e) (match shut s.marks s.H with
  | none=>none
  | some H'=>resO cx { s with H := H',marks := [] } fn.results.toList fun l=>match rdL H' 0 rts l with
   | none=>none
   | some p=>gd p.1 (some p.2))
def codeOf (cx:Cx) (lx:Lx) (n:Nat) (an:Ann) (fn:Func) (c:Code) (ats rts:List ATy) (a:AEls ats):Option (AEls rts) :=
 evalO cx lx n (AEls rts) (AEls.eqv rts) an true fn.ntmps c (.entry (svs ats a) []) (finO cx fn rts)
theorem finO_some {cx:Cx} {fn:Func} {rts:List ATy} {e:Exit} {s:St} {y:AEls rts} (h:finO cx fn rts e s = some y) :
  (e = .normal ∨ e = .ret) ∧ ∃ H',shut s.marks s.H = some H' ∧ resP cx { s with H := H',marks := [] } fn.results.toList fun l=>∃ c,c = true ∧ rdL H' 0 rts l = some (c,y) := by
 obtain ⟨h1,h⟩ := gd_some h
 refine ⟨isEnd_eq h1,?_⟩
 split at h
 ·cases h
 ·rename_i H' hs
  refine ⟨H',hs,resP_mono _ _ _ (fun l hl=>?_) (resO_sound _ _ h)⟩
  split at hl
  ·cases hl
  ·rename_i p hp
   obtain ⟨h2,hl⟩ := gd_some hl
   cases hl
   exact ⟨p.1,h2,hp⟩
theorem PCOk.of_eval {cx:Cx} (hcx:cx.Ok) {lx:Lx} (hlx:lx.Ok cx) {n g:Nat} {an:Ann} {fn:Func} {c:Code} {pc:PC} (hf:cx.fns.lookup g = some fn) (hb:fn.body = some c)
  (hcode:∀ a y,pc.code a = some y → codeOf cx lx n an fn c pc.ats pc.rts a = some y) (hn:Nat.ble pc.ats.length fn.ntmps = true):PCOk cx g pc := by
 refine ⟨⟨fn,hf⟩,fun a y hy=>?_⟩
 have hlen:∀ (l:List ATy) (x:AEls l),(svs l x).length = l.length := by
  intro l
  induction l with
  | nil=>intro _; rfl
  | cons a l ih =>
   cases l with
   | nil=>intro _; rfl
   | cons b l=>intro x; simp only [svs,List.length_cons,ih x.2]
 have hw := (evalO_sound hcx hlx n).1 _ _ (AEls.eqv_ok pc.rts) none an true fn.ntmps c _ _ y (fun _=>rfl) (hcode a y hy)
 have hcall:SCall cx.P g (svs pc.ats a) [] fun r H' t f=>∃ l cc,r = retV l ∧ cc = true ∧ rdL H' 0 pc.rts l = some (cc,y) := by
  refine SCall_of_WPs hcx hf hb (by rw [hlen]; exact Nat.le_of_ble_eq_true hn) (hw.mono fun e s hs=>?_)
  obtain ⟨h1,H',h2,h3⟩ := finO_some hs
  exact ⟨h1,.inl (Nat.zero_le _),H',h2,resP_mono _ _ _ (fun l ⟨cc,h4,h5⟩=>⟨l,cc,rfl,h4,h5⟩) h3⟩
 intro M ρ w vs hm hr
 refine (hcall M ρ w vs hm hr).mono ?_
 rintro e w' ⟨v,r,H',M',ρ',t,f,he,⟨l,cc,rfl,hcc,hrd⟩,hs,hm',hfr⟩
 obtain ⟨g1,g2⟩ := rdL_sound (n := 0) (ρ2 := noEnv) hm' pc.rts l cc y hrd hcc
 have hne:ρ = noEnv := by funext s; exact hm.fresh s (Nat.zero_le _)
 have hM2:∀ b o,(M'.sealing ρ' H' 0 w') b = some o → w'.heap[b]? = some o := fun b o hb=>by
  cases e:M' b with
  | some o'=>rw [Imm.seal_le M' ρ' H' 0 w' b o' e] at hb; cases hb; exact hm'.imm b _ e
  | none=>exact (Imm.seal_new e hb).2
 refine ⟨v,_,[],M'.sealing ρ' H' 0 w',noEnv,[],[],he,⟨rfl,rfl,rfl,rfl⟩,?_,mem_none hM2,?_⟩
 ·unfold retV at hs ⊢
  split at hs
  ·rename_i x
   match hsv:svs pc.rts y,g1 with
   | [z],_ =>
    simp only
    exact g2 0 v z x (by rw [hsv]; rfl) rfl hs
  ·rename_i hx
   have hx2:∀ z,svs pc.rts y = [z] → False := fun z hz=>by
    rw [hz] at g1
    match l,g1 with
    | [x],_=>exact hx x rfl
   cases hs with
   | tup cs _ hl hrr =>
    have:SRep (M'.sealing ρ' H' 0 w') noEnv (.tuple cs) (.tup (svs pc.rts y)) := .tup cs _ (by rw [hl,g1]) fun i u z hu hz=>by
     obtain ⟨x',hx'⟩:∃ x',l[i]? = some x' := by
      have:i < l.length := by rw [← g1]; exact (List.getElem?_eq_some_iff.1 hz).1
      exact ⟨_,List.getElem?_eq_getElem this⟩
     exact g2 i u z x' hz hx' (hrr i u x' hu hx')
    match hsv:svs pc.rts y with
    | []=>simp only; rw [← hsv]; exact this
    | [z]=>exact absurd hsv (fun h=>hx2 z h)
    | z :: z' :: zs=>simp only; rw [← hsv]; exact this
 ·have hsl := Imm.seal_le M' ρ' H' 0 w'
  refine ⟨Imm.le_trans hfr.imm hsl,fun b o h0 h1=>?_,fun b hb=>absurd hb not_owned_none,hfr.same,hfr.grow,fun s o hs=>absurd hs (Nat.not_lt_zero s),fun s hs=>absurd hs (Nat.not_lt_zero s),hfr.io⟩
  cases e:M' b with
  | some o'=>exact hfr.new b o' h0 e
  | none =>
   obtain ⟨⟨s2,o2,p2,k1,k2,k3,k4,k5⟩,_⟩ := Imm.seal_new e h1
   exact hfr.own b ⟨s2,o2,p2,k2,by cases o2 <;> simp_all [SObj.rowsy,SObj.live],k4,k5⟩
theorem Lx.ok_nil {cx:Cx} {an:List (Nat × Ann)} {st:List Nat}:Lx.Ok cx { ext := [],anns := an,still := st } := ⟨fun q hq=>(by cases hq),rfl⟩
theorem Lx.ok_cons {cx:Cx} {g:Nat} {sm:Sm} {l:List (Nat × Sm)} {an:List (Nat × Ann)} {st:List Nat} (h:SmOk cx g sm) (hl:Lx.Ok cx { ext := l,anns := an,still := st }):Lx.Ok cx { ext := (g,sm) :: l,anns := an,still := st } :=
 ⟨fun q hq=>by
  rcases List.mem_cons.1 hq with rfl | hq
  ·exact h
  ·exact hl.ext q hq,rfl⟩
def nilT (α:Type):List α := []
def bodyOf (fn:Func):Code := match fn.body with
 | some c=>c
 | none=>.skip
end Go.Sx

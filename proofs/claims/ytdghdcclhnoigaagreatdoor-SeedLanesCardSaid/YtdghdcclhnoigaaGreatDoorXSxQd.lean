/- Part Qd of the own logic: what a function comes to, as a function of its data: joins, loops, calls. -/
import Derived.Test.YtdghdcclhnoigaaGreatDoorXSxQc
set_option linter.unusedVariables false
set_option linter.unusedSimpArgs false
set_option linter.unnecessarySimpa false
namespace Go.Sx
open Go
def natEq (a b : Nat) : Bool := decide (a = b)
theorem natEq_ok : EqOk natEq := fun a b h => of_decide_eq_true h
def PEls.eqv : (l : PL) → PEls l → PEls l → Bool
  | [] => unitEq
  | [p] => p.2.eqv
  | p :: p' :: l => pairEq p.2.eqv (PEls.eqv (p' :: l))
theorem PEls.eqv_ok : ∀ (l : PL), EqOk (PEls.eqv l)
  | [] => fun a b h => rfl
  | [p] => ATy.eqv_ok p.2
  | p :: p' :: l => pairEq_ok (ATy.eqv_ok p.2) (PEls.eqv_ok (p' :: l))
def Cel.eqv : (c : Cel) → c.El → c.El → Bool
  | .slot _ a => a.eqv
  | .vec _ _ row => listEq (Els.eqv row)
  | .one _ _ row => Els.eqv row
  | .mix _ _ _ dat _ => PEls.eqv dat
  | .map _ k v => listEq (pairEq k.eqv v.eqv)
  | .iter _ => pairEq strEq natEq
theorem Cel.eqv_ok : ∀ (c : Cel), EqOk c.eqv
  | .slot _ a => ATy.eqv_ok a
  | .vec _ _ row => listEq_ok (Els.eqv_ok row)
  | .one _ _ row => Els.eqv_ok row
  | .mix _ _ _ dat _ => PEls.eqv_ok dat
  | .map _ k v => listEq_ok (pairEq_ok (ATy.eqv_ok k) (ATy.eqv_ok v))
  | .iter _ => pairEq_ok strEq_ok natEq_ok
def CEls.eqv : (l : List Cel) → CEls l → CEls l → Bool
  | [] => unitEq
  | [c] => c.eqv
  | c :: c' :: l => pairEq c.eqv (CEls.eqv (c' :: l))
theorem CEls.eqv_ok : ∀ (l : List Cel), EqOk (CEls.eqv l)
  | [] => fun a b h => rfl
  | [c] => Cel.eqv_ok c
  | c :: c' :: l => pairEq_ok (Cel.eqv_ok c) (CEls.eqv_ok (c' :: l))
abbrev Alts := List (Exit × Tmpl)
def AltsEl : Alts → Type
  | [] => Empty
  | [a] => a.2.El
  | a :: a' :: l => a.2.El ⊕ AltsEl (a' :: l)
def AltsEl.eqv : (l : Alts) → AltsEl l → AltsEl l → Bool
  | [] => fun _ _ => true
  | [a] => CEls.eqv a.2.cells
  | a :: a' :: l => sumEq (CEls.eqv a.2.cells) (AltsEl.eqv (a' :: l))
theorem AltsEl.eqv_ok : ∀ (l : Alts), EqOk (AltsEl.eqv l)
  | [] => fun a b h => by cases a
  | [a] => CEls.eqv_ok _
  | a :: a' :: l => sumEq_ok (CEls.eqv_ok _) (AltsEl.eqv_ok (a' :: l))
def sameExit : Exit → Exit → Bool
  | .normal, .normal => true
  | .ret, .ret => true
  | .exit a, .exit b => Nat.beq a b
  | _, _ => false
theorem sameExit_eq {a b : Exit} (h : sameExit a b = true) : a = b := by
  unfold sameExit at h
  split at h <;> first | rfl | (rw [Nat.eq_of_beq_eq_true h]; done) | cases h
structure Foot where
  D : List Nat
  ids : List Nat
  mv : List Nat
def readT (τ : Tmpl) (f : Foot) (n : Nat) (s : St) : Option τ.El := gd (s.reads f.D f.ids f.mv n) (match τ.read n s with
  | some (c, x) => gd c (some x)
  | none => none)
theorem readT_some {τ : Tmpl} {f : Foot} {n : Nat} {s : St} {x : τ.El} (h : readT τ f n s = some x) : s.reads f.D f.ids f.mv n = true ∧ ∃ c, c = true ∧ τ.read n s = some (c, x) := by
  obtain ⟨h1, h2⟩ := gd_some h
  refine ⟨h1, ?_⟩
  split at h2
  · rename_i c y e
    obtain ⟨h3, h4⟩ := gd_some h2
    cases h4
    exact ⟨c, h3, e⟩
  · cases h2
def readAlts (f : Foot) (n : Nat) : (l : Alts) → Exit → St → Option (AltsEl l)
  | [], _, _ => none
  | [a], e, s => match sameExit a.1 e with
    | true => readT a.2 f n s
    | false => none
  | a :: a' :: l, e, s => match sameExit a.1 e with
    | true => match readT a.2 f n s with
      | some x => some (.inl x)
      | none => none
    | false => match readAlts f n (a' :: l) e s with
      | some x => some (.inr x)
      | none => none
def stAlts (f : Foot) (b : St) : (l : Alts) → AltsEl l → Exit × St
  | [], x => Empty.elim x
  | [a], x => (a.1, a.2.st f.D f.ids f.mv b x)
  | a :: a' :: l, .inl x => (a.1, a.2.st f.D f.ids f.mv b x)
  | a :: a' :: l, .inr x => stAlts f b (a' :: l) x
def onAlts {A : Type} (f : Foot) (b : St) : (l : Alts) → AltsEl l → (Exit → St → A) → A
  | [], x, _ => Empty.elim x
  | [a], x, k => k a.1 (a.2.st f.D f.ids f.mv b x)
  | a :: a' :: l, x, k => match x with
    | .inl x => k a.1 (a.2.st f.D f.ids f.mv b x)
    | .inr x => onAlts f b (a' :: l) x k
theorem onAlts_eq {A : Type} {f : Foot} {b : St} : ∀ {l : Alts} (x : AltsEl l) (k : Exit → St → A), onAlts f b l x k = k (stAlts f b l x).1 (stAlts f b l x).2
  | [], x, _ => Empty.elim x
  | [a], x, k => rfl
  | a :: a' :: l, .inl x, k => rfl
  | a :: a' :: l, .inr x, k => onAlts_eq (l := a' :: l) x k
def Foot.ok (f : Foot) : Bool := subset f.mv f.ids
def altsOk (f : Foot) (l : Alts) : Bool := l.all fun a => a.2.covers f.ids
theorem readAlts_spec {f : Foot} {n : Nat} {b : St} : ∀ {l : Alts} {e : Exit} {s : St} {x : AltsEl l}, altsOk f l = true → readAlts f n l e s = some x →
    ∃ (τ : Tmpl) (z : τ.El), τ.covers f.ids = true ∧ readT τ f n s = some z ∧ stAlts f b l x = (e, τ.st f.D f.ids f.mv b z)
  | [], e, s, x, hok, h => by cases h
  | [a], e, s, x, hok, h => by
    simp only [readAlts] at h
    split at h
    · rename_i he
      refine ⟨a.2, x, by simpa [altsOk] using hok, h, ?_⟩
      simp only [stAlts, sameExit_eq he]
    · cases h
  | a :: a' :: l, e, s, x, hok, h => by
    have hok' : a.2.covers f.ids = true ∧ altsOk f (a' :: l) = true := by
      simp only [altsOk, List.all_cons, Bool.and_eq_true] at hok ⊢; exact hok
    simp only [readAlts] at h
    split at h
    · rename_i he
      split at h
      · rename_i z hz
        cases h
        exact ⟨a.2, z, hok'.1, hz, by simp only [stAlts, sameExit_eq he]⟩
      · cases h
    · split at h
      · rename_i z hz
        cases h
        obtain ⟨τ, w, h1, h2, h3⟩ := readAlts_spec (b := b) hok'.2 hz
        exact ⟨τ, w, h1, h2, h3⟩
      · cases h
def St.sub (s : St) : St := { T := s.T, H := s.H, n0 := s.H.length, tch := [], fg := [], marks := [], er := [] }
def St.outer (s s1 : St) : St := { T := s1.T, H := s1.H, n0 := s.n0, tch := addTo s.n0 s1.tch s.tch, fg := addTo s.n0 s1.fg s.fg, marks := [], er := s1.er ++ s.er }
def actB (a : Act) : Nat → Value := fun t => a.tmps.getD t undef
theorem sub_good {B : Nat → Value} {nt : Nat} {M : Imm} {ρ : Env} {s : St} {a : Act} {w : World} (hg : Good B nt M ρ s a w) (hm : s.marks = []) : Good (actB a) nt M ρ s.sub a w :=
  ⟨hg.tm, hg.sz, hg.mem, (by have := hg.df; rw [hm] at this; exact this), (fun m h => by cases h), Nat.le_refl _, fun t _ => rfl⟩
theorem base_self {B : Nat → Value} {nt : Nat} {M : Imm} {ρ : Env} {s : St} {a : Act} {w : World} (hg : Good B nt M ρ s a w) (f : Foot) : BaseAt f.D f.ids f.mv s M ρ s.H a w :=
  ⟨rfl, fun t y _ hy => (hg.tm t y hy).forget M.le_refl (fun _ _ _ h => h), fun i o _ ho => ⟨(hg.mem.own i o ho).forget M.le_refl (fun _ _ _ h => h) rfl (fun _ _ => rfl), fun hl => ⟨o, ho, hl⟩⟩, fun i o _ ho hl => ⟨o, ho, hl⟩⟩
theorem outer_good {B : Nat → Value} {nt : Nat} {M M' : Imm} {ρ ρ' : Env} {s s1 : St} {a a' : Act} {w w' : World} {f : Foot} (hg : Good B nt M ρ s a w) (hm : s.marks = []) (h1 : Good (actB a) nt M' ρ' s1 a' w')
    (hf : Fr M ρ s.H w M' ρ' s1.H w' s.H.length f.ids f.mv) (hn : s1.n0 = s.H.length) (ht : s1.tch = f.ids) (hv : s1.fg = f.mv) (hk : s1.marks = []) :
    Good B nt M' ρ' (s.outer s1) a' w' ∧ Goes M ρ s w M' ρ' (s.outer s1) w' := by
  refine ⟨⟨h1.tm, h1.sz, h1.mem, by have := h1.df; rw [hk] at this; exact this, fun m h => by (cases h), ?_, fun t ht => ?_⟩, ?_, rfl, fun x hx => acc_addTo hx, fun x hx => acc_addTo hx⟩
  · show s.n0 ≤ s1.H.length
    have := h1.nle; rw [hn] at this; exact Nat.le_trans hg.nle this
  · have ht' : t ∉ s1.er ∧ t ∉ s.er := by
      have : t ∉ s1.er ++ s.er := ht
      simpa using this
    rw [h1.fix t ht'.1]; exact hg.fix t ht'.2
  · exact hf.weaken hg.nle (fun x hx h => mem_addTo hx (by rw [ht]; exact h)) (fun x hx h => mem_addTo hx (by rw [hv]; exact h))
theorem WPs_join {R : Option Nat} {P : Program} {nt : Nat} {c : Code} {Q : Exit → St → Prop} {s : St} {f : Foot} {l : Alts} {x : AltsEl l} (hm : s.marks = []) (hf : f.ok = true) (hl : altsOk f l = true)
    (h : WPs R P nt c (fun e s' => readAlts f s.H.length l e s' = some x) s.sub) (hq : Q (stAlts f s l x).1 (s.outer (stAlts f s l x).2)) : WPs R P nt c Q s := by
  intro B M ρ a w hg
  refine wpIn_mono (h (actB a) M ρ a w (sub_good hg hm)) ?_
  rintro e a' w' ⟨M', ρ', s', hr, g, go⟩
  obtain ⟨τ, z, h1, h2, h3⟩ := readAlts_spec (b := s) hl hr
  obtain ⟨r1, c, hc, r2⟩ := readT_some h2
  obtain ⟨M'', ρ'', g1, g2, _⟩ := absorb (b := s) (H0 := s.H) (M0 := M) (ρ0 := ρ) (a0 := a) (w0 := w) (fun _ _ => rfl) (base_self hg f) hg.mem g go.fr hf h1 r1 r2 hc
  obtain ⟨e1, e2, e3, e4, e5⟩ := Tmpl.st_rest τ f.D f.ids f.mv s z
  obtain ⟨k1, k2⟩ := outer_good (f := f) hg hm g1 g2 e1 e2 e3 e4
  rw [h3] at hq
  exact ⟨M'', ρ'', _, hq, k1, k2⟩
def loopO {σ β : Type} (step : σ → Option (σ ⊕ β)) : Nat → σ → Option β
  | 0, _ => none
  | n + 1, x => match step x with
    | none => none
    | some (.inl y) => loopO step n y
    | some (.inr b) => some b
def roundK (f : Foot) (n : Nat) (τ : Tmpl) (l : Alts) (e : Exit) (s : St) : Option (τ.El ⊕ AltsEl l) := match e with
  | .normal => match readT τ f n s with
    | some x => some (.inl x)
    | none => none
  | e => match readAlts f n l e s with
    | some x => some (.inr x)
    | none => none
theorem WPs_loopT {R : Option Nat} {P : Program} {nt : Nat} {c : Code} {Q : Exit → St → Prop} {s : St} {f : Foot} {τ : Tmpl} {l : Alts} {F : Nat} {x0 : τ.El} {y : AltsEl l} {step : τ.El → Option (τ.El ⊕ AltsEl l)}
    (hm : s.marks = []) (hf : f.ok = true) (hl : altsOk f l = true) (hτ : τ.covers f.ids = true)
    (hstep : ∀ x r, step x = some r → WPs R P nt c (fun e s' => roundK f s.H.length τ l e s' = some r) (τ.st f.D f.ids f.mv s x))
    (h0 : readT τ f s.H.length s.sub = some x0) (hrun : loopO step F x0 = some y) (hne : (stAlts f s l y).1 ≠ .normal) (hq : Q (stAlts f s l y).1 (s.outer (stAlts f s l y).2)) : WPs R P nt (.loop c) Q s := by
  intro B M ρ a w hg
  have gs := sub_good hg hm
  have hbase := base_self hg f
  let J : Nat → Act → World → Prop := fun n a' w' => ∃ M' ρ' x, loopO step n x = some y ∧ Good (actB a) nt M' ρ' (τ.st f.D f.ids f.mv s x) a' w' ∧ Fr M ρ s.H w M' ρ' (τ.st f.D f.ids f.mv s x).H w' s.H.length f.ids f.mv
  refine wpIn_loop (fun a w => ∃ n, J n a w) (fun a w => leastOf (fun n => J n a w)) ?_ ?_
  · obtain ⟨r1, c', hc, r2⟩ := readT_some h0
    obtain ⟨M'', ρ'', g1, g2, _⟩ := absorb (b := s) (H0 := s.H) (M0 := M) (ρ0 := ρ) (a0 := a) (w0 := w) (fun _ _ => rfl) hbase hg.mem gs (Fr.refl ..) hf hτ r1 r2 hc
    exact ⟨F, M'', ρ'', x0, hrun, g1, g2⟩
  · intro a1 w1 hI
    obtain ⟨hJ, hmin⟩ := leastOf_spec hI
    obtain ⟨M1, ρ1, x, hx, g1, f1⟩ := hJ
    generalize hn : leastOf (fun n => J n a1 w1) = n at hx hmin
    cases n with
    | zero => cases hx
    | succ n =>
      simp only [loopO] at hx
      cases hs : step x with
      | none => simp only [hs] at hx; cases hx
      | some r =>
        refine wpIn_mono (hstep x r hs (actB a) M1 ρ1 a1 w1 g1) ?_
        rintro e a2 w2 ⟨M2, ρ2, s2, hk, g2, go2⟩
        obtain ⟨e1, e2, e3, e4, e5⟩ := Tmpl.st_rest τ f.D f.ids f.mv s x
        have f2 : Fr M ρ s.H w M2 ρ2 s2.H w2 s.H.length s2.tch s2.fg := by
          have hfr := go2.fr
          rw [e1] at hfr
          exact f1.trans hfr (fun z hz => go2.tch z (by rw [e2]; exact hz)) (fun z hz => hz) (fun z hz => go2.fg z (by rw [e3]; exact hz)) (fun z hz => hz)
        unfold roundK at hk
        cases e with
        | normal =>
          simp only at hk
          split at hk
          · rename_i z hz
            cases hk
            simp only [hs] at hx
            obtain ⟨r1, c', hc, r2⟩ := readT_some hz
            obtain ⟨M'', ρ'', k1, k2, _⟩ := absorb (b := s) (H0 := s.H) (M0 := M) (ρ0 := ρ) (a0 := a) (w0 := w) (fun _ _ => rfl) hbase hg.mem g2 f2 hf hτ r1 r2 hc
            have hx' : J n a2 w2 := ⟨M'', ρ'', z, hx, k1, k2⟩
            show (∃ n, J n a2 w2) ∧ leastOf (fun n => J n a2 w2) < n + 1
            exact ⟨⟨n, hx'⟩, Nat.lt_succ_of_le ((leastOf_spec ⟨n, hx'⟩).2 n hx')⟩
          · cases hk
        | _ =>
          simp only at hk
          split at hk
          · rename_i z hz
            cases hk
            simp only [hs, Option.some.injEq] at hx
            subst hx
            obtain ⟨τ', z', h1, h2, h3⟩ := readAlts_spec (b := s) hl hz
            obtain ⟨r1, c', hc, r2⟩ := readT_some h2
            obtain ⟨M'', ρ'', k1, k2, _⟩ := absorb (b := s) (H0 := s.H) (M0 := M) (ρ0 := ρ) (a0 := a) (w0 := w) (fun _ _ => rfl) hbase hg.mem g2 f2 hf h1 r1 r2 hc
            obtain ⟨q1, q2, q3, q4, q5⟩ := Tmpl.st_rest τ' f.D f.ids f.mv s z'
            obtain ⟨m1, m2⟩ := outer_good (f := f) hg hm k1 k2 q1 q2 q3 q4
            rw [h3] at hq
            exact ⟨M'', ρ'', _, hq, m1, m2⟩
          · cases hk
def virtSt (s : St) (slot ty : Nat) (row : List Ty) : St :=
  { T := s.T.set slot (.sl s.H.length row.length 0 0), H := s.H ++ [.tvec ty row []], n0 := s.n0, tch := s.tch, fg := s.fg, marks := s.marks, er := s.er }
theorem WPs_virt {R : Option Nat} {P : Program} {nt : Nat} {c : Code} {Q : Exit → St → Prop} {s : St} {slot ty : Nat} {row : List Ty} {v : Value} (hs : s.T.get slot = some (.lit v)) (hv : Value.isNil v = true)
    (h : WPs R P nt c Q (virtSt s slot ty row)) : WPs R P nt c Q s := by
  refine WPs.of_imp (fun B M ρ a w hg => ⟨ρ, ?_, ?_⟩) h
  · obtain ⟨m1, m2⟩ := hg.mem.virt (ty := ty) (sz := row.length)
    refine ⟨fun t y hy => ?_, hg.sz, ?_, hg.df, hg.mks, by show s.n0 ≤ (s.H ++ [SObj.tvec ty row []]).length; have := hg.nle; simp; omega, hg.fix⟩
    · rcases TT.get_set _ _ _ _ _ hy with ⟨rfl, rfl⟩ | ⟨_, hy⟩
      · have := (hg.tm _ _ hs).lit_eq
        rw [this]
        unfold Value.isNil at hv
        split at hv
        · simp only [Bool.and_eq_true] at hv
          rw [Nat.eq_of_beq_eq_true hv.1, Nat.eq_of_beq_eq_true hv.2]
          exact .slz _ _ _ _
        · cases hv
      · exact hg.tm t y hy
    · have := m1.described (s := s.H.length) (o := .vec ty row.length []) (o' := .tvec ty row []) (by simp) rfl (fun h => h)
      simpa [virtSt] using this
  · obtain ⟨m1, m2⟩ := hg.mem.virt (ty := ty) (sz := row.length)
    have m3 := m2.described (s := s.H.length) (o := .vec ty row.length []) (o' := .tvec ty row []) (by simp) rfl
    refine ⟨?_, rfl, fun _ h => h, fun _ h => h⟩
    have m4 := m3.weaken (n' := s.n0) (t' := s.tch) (f' := s.fg) hg.nle (fun x _ h => by cases h) (fun x _ h => by cases h)
    simpa [virtSt] using m4
end Go.Sx

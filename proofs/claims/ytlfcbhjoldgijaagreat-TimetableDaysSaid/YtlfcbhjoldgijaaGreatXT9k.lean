/- Plain law: least tables by edges (relaxation in passes). No program in sight. Plain law: the program's and the reference's least tables by edges. Plain law: the bounds, the edges, and what is to be kept apart. Plain law: what the bounds and the edges of some conditions are; the latest beginnings. Plain law: tables checked, ends, in the program and in the reference. Plain law: short plans. Plain law: the days of athletes. Plain law: days and rests, in the program and in the reference. Plain law: windows and chains, in the program. Plain law: windows and chains, in the reference; both are the same. Plain law: the windows of the program are those of the reference. Plain law: the reference's copy of a plan. slices.Delete in this program is the library's. -/
import Derived.Test.YtlfcbhjoldgijaaGreatXT9a
import Derived.Test.YtlfcbhjoldgijaaGreatXSxSu
import Derived.Test.YtlfcbhjoldgijaaGreatXTtCx
section
set_option maxRecDepth 100000
set_option linter.unusedVariables false
set_option linter.unusedSimpArgs false
namespace Go.Proofs.Tryz
open Go Go.Sx
abbrev Edg := Int × Int × Int
def relax (s : List Int × Bool) (e : Edg) : List Int × Bool := if tq s.1 e.2.1 < tq s.1 e.1 + e.2.2 then (s.1.set e.2.1.toNat (tq s.1 e.1 + e.2.2), true) else s
def passS (E : List Edg) (t : List Int) : List Int × Bool := E.foldl relax (t, false)
def EOk (n : Nat) (e : Edg) : Prop := (0 ≤ e.1 ∧ e.1 < n) ∧ 0 ≤ e.2.1 ∧ e.2.1 < n
def LeF (n : Nat) (f g : Nat → Int) : Prop := ∀ i, i < n → f i ≤ g i
theorem LeF.refl (n : Nat) (f : Nat → Int) : LeF n f f := fun _ _ => Int.le_refl _
theorem LeF.trans {n : Nat} {f g h : Nat → Int} (h1 : LeF n f g) (h2 : LeF n g h) : LeF n f h := fun i hi => Int.le_trans (h1 i hi) (h2 i hi)
theorem relax_len (s : List Int × Bool) (e : Edg) : (relax s e).1.length = s.1.length := by
  unfold relax
  split <;> simp
theorem fold_len (E : List Edg) : ∀ (s : List Int × Bool), (E.foldl relax s).1.length = s.1.length := by
  induction E with
  | nil => intro s; rfl
  | cons e E ih => intro s; rw [List.foldl_cons, ih, relax_len]
theorem pass_len (E : List Edg) (t : List Int) : (passS E t).1.length = t.length := fold_len E (t, false)
end Go.Proofs.Tryz
end
section
set_option maxRecDepth 100000
set_option linter.unusedVariables false
set_option linter.unusedSimpArgs false
namespace Go.Proofs.Tryz
open Go Go.Sx
def EW (n : Nat) (e : Edg) : Prop := EOk n e ∧ 0 ≤ e.2.2 ∧ e.2.2 ≤ 5000
def InB (b : Int) (t : List Int) : Prop := ∀ x ∈ t, 0 ≤ x ∧ x ≤ b
theorem InB.at {b : Int} {t : List Int} (h : InB b t) {i : Nat} (hi : i < t.length) : 0 ≤ t.getD i 0 ∧ t.getD i 0 ≤ b := h _ (getD_mem hi)
theorem InB.mono {b c : Int} {t : List Int} (h : InB b t) (hbc : b ≤ c) : InB c t := fun x hx => by have := h x hx; omega
theorem relax_in {b : Int} {s : List Int × Bool} {e : Edg} (h : InB b s.1) (he : EW s.1.length e) : InB (b + 5000) (relax s e).1 := by
  unfold relax
  split
  · intro x hx
    rcases List.mem_or_eq_of_mem_set hx with hx | rfl
    · have := h x hx; omega
    · have h1 := h.at (i := e.1.toNat) (by have := he.1.1; omega)
      have := he.2
      simp only [tq]
      omega
  · exact h.mono (by omega)
theorem fold_in {E : List Edg} : ∀ {b : Int} {s : List Int × Bool}, InB b s.1 → (∀ e ∈ E, EW s.1.length e) → InB (b + 5000 * E.length) (E.foldl relax s).1 := by
  induction E with
  | nil => intro b s h _; exact h.mono (by simp)
  | cons e E ih =>
    intro b s h hE
    rw [List.foldl_cons]
    have := ih (relax_in h (hE e (by simp))) (fun e' he' => by rw [relax_len]; exact hE e' (by simp [he']))
    refine this.mono ?_
    rw [List.length_cons]
    omega
theorem pass_in {E : List Edg} {b : Int} {t : List Int} (h : InB b t) (hE : ∀ e ∈ E, EW t.length e) (hl : E.length ≤ 3000) : InB (b + 15000000) (passS E t).1 := (fold_in (s := (t, false)) h hE).mono (by omega)
structure PIn (n : Nat) (b : Int) (j : Nat) (t : List Int) : Prop where
  len : t.length = n
  inb : ∃ c, InB c t ∧ c ≤ b + 15000000 * j
theorem PIn.next {n : Nat} {b : Int} {j : Nat} {t : List Int} {E : List Edg} (h : PIn n b j t) (hE : ∀ e ∈ E, EW n e) (hl : E.length ≤ 3000) : PIn n b (j + 1) (passS E t).1 := by
  obtain ⟨h1, c, h2, h3⟩ := h
  exact ⟨by rw [pass_len]; exact h1, c + 15000000, pass_in h2 (fun e he => by rw [h1]; exact hE e he) hl, by omega⟩
end Go.Proofs.Tryz
end
section
set_option maxRecDepth 100000
set_option linter.unusedVariables false
set_option linter.unusedSimpArgs false
namespace Go.Proofs.Tryz
open Go Go.Sx
end Go.Proofs.Tryz
end
section
set_option maxRecDepth 100000
set_option linter.unusedVariables false
set_option linter.unusedSimpArgs false
namespace Go.Proofs.Tryz
open Go Go.Sx
def InL (b : Int) (t : List Int) : Prop := ∀ x ∈ t, -b ≤ x ∧ x ≤ 4398046511104
theorem InL.at {b : Int} {t : List Int} (h : InL b t) {i : Nat} (hi : i < t.length) : -b ≤ t.getD i 0 ∧ t.getD i 0 ≤ 4398046511104 := h _ (getD_mem hi)
end Go.Proofs.Tryz
end
section
set_option maxRecDepth 100000
set_option linter.unusedVariables false
set_option linter.unusedSimpArgs false
namespace Go.Proofs.Tryz
open Go Go.Sx
def formE (p : Pln) (t : List Int) : Int := if t.length ≠ p.1.length then 2 else if (t.any fun n => decide (n < 0 ∨ 999999999 < n)) = true then 3 else 0
theorem l32 {F : Nat} (hF : 400 ≤ F) {p : Pln} {t : List Int} (hn : p.1.length ≤ 26) (hl : t.length ≤ 300) : c32 F (p, t) = some (formE p t) := by
  unfold c32 formE
  by_cases h0 : t.length = p.1.length
  · have : (t.length : Int) = p.1.length := by omega
    simp only [h0, decide_true, Bool.not_true, cond_false, ne_eq, not_true_eq_false, if_false]
    refine bind_any t (fun n => decide (n < 0 ∨ 999999999 < n)) (.inl 3) (.inr ()) (by omega) ?_ ?_ ?_
    · intro i x hi hx
      simp (disch := omega) only [cd_pos, gd_dec, w64_in, Int.toNat_natCast, getD_some hx, l71, Option.bind_some]
      by_cases h1 : x < 0 ∨ 999999999 < x <;> simp [h1]
    · simp (disch := omega) only [cd_neg]
    · cases t.any fun n => decide (n < 0 ∨ 999999999 < n) <;> simp
  · have : ¬ (t.length : Int) = p.1.length := by omega
    simp [h0, this]
def soundE (p : Pln) (t : List Int) : Int := if planE p = 0 then formE p t else planE p
theorem l42 {F : Nat} (hF : 400 ≤ F) {p : Pln} {t : List Int} (h : PShort p) (hl : t.length ≤ 300) : c42 F (p, t) = some (soundE p t) := by
  unfold c42 soundE
  simp only [peta, l19 hF h.sm, Option.bind_some, l32 hF h.1 hl]
  by_cases h0 : planE p = 0 <;> simp [h0]
theorem l96 {F : Nat} (hF : 400 ≤ F) {p : Pln} {t : List Int} (h : PShort p) (hl : t.length ≤ 300) : c96 F (p, t) = some (soundE p t) := by
  unfold c96 cx129_0 cx150_0
  rw [idx_loop t (fun n => decide (n < 0 ∨ 999999999 < n)) (by omega) ?_ ?_]
  · simp only [peta, Option.bind_some, idxS_any, l51 hF h.sm, l88, l102 (F := F) (l := _ :: _ :: _ :: nilT Int) (by simp [nilT]; omega) (by simp [nilT])]
    unfold soundE formE
    simp only [firstNZ_cons, firstNZ_nil]
    by_cases h0 : planE p = 0
    · by_cases h1 : t.length = p.1.length
      · have : (t.length : Int) = p.1.length := by omega
        simp only [h0, h1, decide_true, Bool.not_true, Bool.false_eq_true, if_false, if_true, ne_eq, not_true_eq_false]
        cases t.any fun n => decide (n < 0 ∨ 999999999 < n) <;> simp
      · have : ¬ (t.length : Int) = p.1.length := by omega
        simp [h0, h1, this]
    · simp [h0]
  · intro i x hi hx
    have e : c130 F x = some (decide (x < 0 ∨ 999999999 < x)) := by
      unfold c130
      by_cases h1 : x < 0 <;> by_cases h2 : 999999999 < x <;> simp [h1, h2]
    simp (disch := omega) only [cd_pos, gd_dec, w64_in, Int.toNat_natCast, getD_some hx, e, Option.bind_some]
    by_cases h1 : x < 0 ∨ 999999999 < x <;> simp [h1]
  · simp (disch := omega) only [cd_neg]
theorem TOk.of {p : Pln} {t : List Int} (h : formE p t = 0) : TOk p t ∧ ∀ x ∈ t, 0 ≤ x ∧ x ≤ 999999999 := by
  unfold formE at h
  by_cases h0 : t.length = p.1.length
  · simp only [h0, ne_eq, not_true_eq_false, if_false] at h
    have h1 : (t.any fun n => decide (n < 0 ∨ 999999999 < n)) = false := by
      cases e : t.any fun n => decide (n < 0 ∨ 999999999 < n) with
      | false => rfl
      | true => rw [e] at h; cases h
    rw [List.any_eq_false] at h1
    have h2 : ∀ x ∈ t, 0 ≤ x ∧ x ≤ 999999999 := fun x hx => by
      have := h1 x hx
      simp only [decide_eq_true_eq] at this
      omega
    exact ⟨⟨h0, fun x hx => by have := h2 x hx; omega⟩, h2⟩
  · rw [if_pos h0] at h
    cases h
theorem soundE_zero {p : Pln} {t : List Int} (h : soundE p t = 0) : planE p = 0 ∧ formE p t = 0 := by
  unfold soundE at h
  by_cases h0 : planE p = 0
  · rw [if_pos h0] at h; exact ⟨h0, h⟩
  · rw [if_neg h0] at h; exact absurd h h0
end Go.Proofs.Tryz
end
section
set_option maxRecDepth 100000
set_option linter.unusedVariables false
set_option linter.unusedSimpArgs false
namespace Go.Proofs.Tryz
open Go Go.Sx
def BrOk (l : List ByteArray) : Prop := l.length ≤ 162 ∧ ∀ s ∈ l, s.size ≤ 40
theorem l62 {F : Nat} (hF : 400 ≤ F) {l : List ByteArray} : ∃ b, c62 F l = some b ∧ (b = true → BrOk l) := by
  unfold c62
  have e : (bif decide (8 < (l.length : Int)) then bif decide ((l.length : Int) ≤ 160) then some true else some (decide (162 < (l.length : Int))) else some (decide (162 < (l.length : Int)))) = some (decide (¬ (l.length ≤ 162 ∧ (l.length ≤ 8 ∨ 160 < l.length)))) := by
    by_cases a1 : 8 < (l.length : Int)
    · by_cases a2 : (l.length : Int) ≤ 160
      · simp only [a1, a2, decide_true, cond_true, Option.some.injEq]
        exact (decide_eq_true (by omega)).symm
      · simp only [a1, a2, decide_true, cond_true, decide_false, cond_false, Option.some.injEq, decide_eq_decide]
        omega
    · simp only [a1, decide_false, cond_false, Option.some.injEq, decide_eq_decide]
      omega
  rw [e]
  by_cases hg : l.length ≤ 162 ∧ (l.length ≤ 8 ∨ 160 < l.length)
  · simp only [hg, not_true_eq_false, decide_false, Option.bind_some, cond_false]
    refine bind_all l (fun x => x.size ≤ 40) (fun b : Bool ⊕ Unit => b = .inl false ∨ (b = .inr () ∧ ∀ x ∈ l, x.size ≤ 40)) (by omega) ?_ ?_ ?_
    · intro i x hi hx
      simp (disch := omega) only [cd_pos, gd_dec, Int.toNat_natCast, getD_some hx, w64_in]
      by_cases a1 : (40 : Int) < x.size
      · exact ⟨_, by simp [a1], .inr ⟨_, rfl, .inl rfl⟩⟩
      · exact ⟨_, by simp [a1], .inl ⟨rfl, by omega⟩⟩
    · intro hgood
      simp (disch := omega) only [cd_neg]
      exact ⟨_, rfl, .inr ⟨rfl, hgood⟩⟩
    · intro b hb
      rcases hb with rfl | ⟨rfl, h2⟩
      · exact ⟨false, rfl, by simp⟩
      · exact ⟨true, rfl, fun _ => ⟨hg.1, h2⟩⟩
  · simp only [hg, not_false_eq_true, decide_true, Option.bind_some, cond_true]
    exact ⟨false, rfl, by simp⟩
def RShort (x : Rnd) : Prop := x.1.size ≤ 40 ∧ BrOk x.2.2.1 ∧ BrOk x.2.2.2.1 ∧ BrOk x.2.2.2.2.1
theorem l16 {F : Nat} (hF : 400 ≤ F) {p : Pln} : ∃ b, c16 F p = some b ∧ (b = true → PShort p) := by
  unfold c16
  by_cases h1 : (26 : Int) < p.1.length
  · exact ⟨false, by simp [h1], by simp⟩
  · by_cases h2 : (28 : Int) < p.2.1.length
    · exact ⟨false, by simp [h1, h2], by simp⟩
    · simp only [h1, h2, decide_false, cond_false, Option.bind_some]
      refine bind_all p.1 RShort (fun b : Bool ⊕ Unit => b = .inl false ∨ (b = .inr () ∧ ∀ x ∈ p.1, RShort x)) (by omega) ?_ ?_ ?_
      · intro i x hi hx
        obtain ⟨b1, e1, q1⟩ := l62 hF (l := x.2.2.1)
        obtain ⟨b2, e2, q2⟩ := l62 hF (l := x.2.2.2.1)
        obtain ⟨b3, e3, q3⟩ := l62 hF (l := x.2.2.2.2.1)
        simp (disch := omega) only [cd_pos, gd_dec, Int.toNat_natCast, getD_some hx, w64_in, e1, e2, e3, Option.bind_some]
        by_cases a1 : (40 : Int) < x.1.size
        · exact ⟨_, by simp [a1], .inr ⟨_, rfl, .inl rfl⟩⟩
        · cases b1 with
          | false => exact ⟨_, by simp [a1], .inr ⟨_, rfl, .inl rfl⟩⟩
          | true => cases b2 with
            | false => exact ⟨_, by simp [a1], .inr ⟨_, rfl, .inl rfl⟩⟩
            | true => cases b3 with
              | false => exact ⟨_, by simp [a1], .inr ⟨_, rfl, .inl rfl⟩⟩
              | true => exact ⟨_, by simp [a1], .inl ⟨rfl, by omega, q1 rfl, q2 rfl, q3 rfl⟩⟩
      · intro hgood
        simp (disch := omega) only [cd_neg]
        exact ⟨_, rfl, .inr ⟨rfl, hgood⟩⟩
      · intro b hb
        rcases hb with rfl | ⟨rfl, h3⟩
        · exact ⟨false, rfl, by simp⟩
        · refine ⟨true, rfl, fun _ => ⟨by omega, by omega, fun x hx => ?_⟩⟩
          obtain ⟨c0, c1, c2, c3⟩ := h3 x hx
          refine ⟨c0, fun l hl => ?_⟩
          rcases hl with rfl | rfl | rfl
          · exact c1
          · exact c2
          · exact c3
end Go.Proofs.Tryz
end
section
set_option maxRecDepth 100000
set_option linter.unusedVariables false
set_option linter.unusedSimpArgs false
namespace Go.Proofs.Tryz
open Go Go.Sx
theorem bind_inv {σ β γ : Type} {step : σ → Option (σ ⊕ β)} {F : Nat} {t : σ} {k : β → Option γ} {P : γ → Prop} (Inv : σ → Prop) (m : σ → Nat) (Post : β → Prop)
    (h : ∀ x, Inv x → (∃ y, step x = some (.inl y) ∧ Inv y ∧ m y < m x) ∨ ∃ b, step x = some (.inr b) ∧ Post b) (h0 : Inv t) (hF : m t < F) (hk : ∀ b, Post b → ∃ r, k b = some r ∧ P r) : ∃ r, Option.bind (loopO step F t) k = some r ∧ P r := by
  obtain ⟨b, h1, h2⟩ := loopO_ex Inv m Post h F t h0 hF
  rw [h1]
  exact hk b h2
theorem stab_ins {lt : Int → Int → Bool} {D : Int → Prop} (ho : LtOn lt D) {l o : List Int} {x : Int} {n : Nat} (hD : ∀ y ∈ l, D y) (hx : D x) (h : StabS lt l o) (hn : n ≤ o.length) (h2 : ∀ y ∈ o.drop n, lt x y = true) (h1 : n = 0 ∨ lt x (o.getD (n - 1) 0) = false) :
    StabS lt (l ++ [x]) (o.take n ++ x :: o.drop n) := by
  have hDo : ∀ y ∈ o, D y := fun y hy => hD y (h.mem.1 hy)
  have e : o.take n ++ o.drop n = o := List.take_append_drop n o
  have hp := StabS.put ho (S1 := o.take n) (S2 := o.drop n) (x := x) (by
    rw [e]
    intro y hy
    rcases List.mem_append.1 hy with hy | hy
    · exact hDo y hy
    · rw [List.mem_singleton.1 hy]; exact hx) (by rw [e]; exact h.2.1) (by
    intro y hy
    rcases h1 with h1 | h1
    · rw [h1] at hy; simp at hy
    · by_cases hn0 : n = 0
      · rw [hn0] at hy; simp at hy
      · have hz : o[n - 1]? = some (o.getD (n - 1) 0) := by
          rw [List.getD_eq_getElem?_getD, List.getElem?_eq_getElem (show n - 1 < o.length by omega)]; rfl
        have hzm := List.mem_of_getElem? hz
        unfold leB
        cases q : lt x y with
        | false => rfl
        | true =>
          exfalso
          obtain ⟨k, hk, ek⟩ := List.mem_iff_getElem.1 hy
          rw [List.length_take] at hk
          rw [List.getElem_take] at ek
          have hle : leB lt y (o.getD (n - 1) 0) := by
            by_cases hkn : k = n - 1
            · have : o.getD (n - 1) 0 = y := by
                rw [← ek, getD_some (List.getElem?_eq_getElem (show n - 1 < o.length by omega))]
                congr 1; omega
              rw [this]
              exact ho.irr (hDo y (List.mem_of_mem_take hy))
            · have := List.pairwise_iff_getElem.1 h.2.1 k (n - 1) (by omega) (by omega) (by omega)
              rw [ek] at this
              rw [getD_some (List.getElem?_eq_getElem (show n - 1 < o.length by omega))]
              exact this
          have := ho.lt_le hx (hDo y (List.mem_of_mem_take hy)) (hDo _ hzm) q hle
          rw [h1] at this
          cases this) h2
  rw [e] at hp
  refine StabS.pre ?_ ?_ hp
  · exact h.1.append_right [x]
  · intro y hy
    have hyD : D y := by
      rcases List.mem_append.1 hy with hy | hy
      · exact hD y hy
      · rw [List.mem_singleton.1 hy]; exact hx
    rw [List.filter_append, List.filter_append, h.filt ho hD hyD]
theorem x146 (F : Nat) (a) : cx146_0 F a = gStab (cx124_0 F) (0 : Int) F a := by kernel_rfl
def InE (n : Nat) (a : Int) : Prop := 0 ≤ a ∧ a < n
def ltT (t : List Int) (a b : Int) : Bool := decide (tq t a < tq t b)
theorem ltT_on (t : List Int) (n : Nat) : LtOn (ltT t) (InE n) := by
  refine ⟨fun x y _ _ h => ?_, fun x y z _ _ _ h => ?_⟩
  · simp only [ltT, decide_eq_true_eq, decide_eq_false_iff_not] at h ⊢; omega
  · simp only [ltT, decide_eq_true_eq] at h ⊢; omega
theorem l117 (F : Nat) (a b : Int) : c117 F (a, b) = some (if a < b then -1 else if b < a then 1 else 0) := by
  unfold c117
  by_cases h : a < b
  · simp [h]
  · by_cases h2 : b < a <;> simp [h, h2]
theorem cmp124 {F : Nat} {t : List Int} : CmpOk (cx124_0 F) t (ltT t) (InE t.length) := by
  intro a b ha hb
  have a1 := ha.1; have a2 := ha.2; have b1 := hb.1; have b2 := hb.2
  refine ⟨if tq t a < tq t b then -1 else if tq t b < tq t a then 1 else 0, ?_, ?_⟩
  · unfold cx124_0
    simp (disch := omega) only [gd_dec, l117, Option.bind_some]
  · unfold ltT
    generalize tq t a = u
    generalize tq t b = v
    by_cases h : u < v
    · simp [h]
    · by_cases h2 : v < u <;> simp [h, h2]
theorem l123 {F : Nat} {t d : List Int} (hd : ∀ x ∈ d, InE t.length x) (hl : d.length < F) (hb : d.length ≤ 1000) : ∃ L, cx123_0 F (d, t) = some L ∧ StabS (ltT t) d L := by
  obtain ⟨L, h1, h2⟩ := gStab_ok (ltT_on t t.length) (cmp124 (F := F)) (d := (0 : Int)) hd hl (by omega)
  refine ⟨L, ?_, h2⟩
  unfold cx123_0
  simp [gd_true, x146, h1]
def needR (a : ByteArray) (k : Nat) (x : Rnd) : List Int := if (x.2.2.2.2.1.any fun y => strEq a y) = true then [(k : Int)] else []
def needL (p : Pln) (a : ByteArray) : List Int := ifl (needR a) 0 p.1
theorem needR_len (a : ByteArray) (k : Nat) (x : Rnd) : (needR a k x).length ≤ 1 := by
  unfold needR
  split <;> simp
theorem needL_in {p : Pln} {a : ByteArray} : ∀ x ∈ needL p a, InE p.1.length x := by
  intro x hx
  obtain ⟨j, y, hy, hr⟩ := ifl_mem hx
  have hj := (List.getElem?_eq_some_iff.1 hy).1
  unfold needR at hr
  split at hr
  · rw [List.mem_singleton.1 hr]
    exact ⟨by omega, by omega⟩
  · simp at hr
theorem l91 {F : Nat} (hF : 400 ≤ F) {p : Pln} {t : List Int} (h : PV p) (ht : TOk p t) {a : ByteArray} : ∃ L, c91 F (p, t, a) = some L ∧ StabS (ltT t) (needL p a) L := by
  unfold c91
  have hn := h.n1
  have hsm := h.sh.sm
  have hlen := ifl_len (needR_len a) p.1 0
  have hll : (needL p a).length ≤ 24 := by unfold needL; omega
  obtain ⟨L, h1, h2⟩ := l123 (F := F) (t := t) (d := needL p a) (fun x hx => by rw [ht.len]; exact needL_in x hx) (by omega) (by omega)
  refine ⟨L, ?_, h2⟩
  refine bind_ifl p.1 0 (needR a) 1 [] (by omega) rfl (needR_len a) ?_ ?_ ?_
  · intro i x s hi hx hs hs2
    have hsl : s.length ≤ 26 := by simp only [List.length_nil] at hs; omega
    have hmx := hsm.2.2 x (List.mem_of_getElem? hx)
    simp (disch := omega) only [Nat.zero_add, cd_pos, len_snoc, gd_dec, w64_in, Int.toNat_natCast, getD_some hx, l111 hF hmx.2.2.2.1, decide_true, Bool.and_self, gd_true, Option.bind_some]
    unfold needR
    cases x.2.2.2.2.1.any fun y => strEq a y <;> simp [gd_true, nilT]
  · intro s
    simp (disch := omega) only [cd_neg, decide_true, Bool.and_self, gd_true, Option.bind_some, Nat.zero_add]
  · simp only [List.nil_append, decide_true, Bool.and_self, gd_true, Option.bind_some]
    rw [show ifl (needR a) 0 p.1 = needL p a from rfl, h1, Option.bind_some]
    have hL := h2.len
    have e : List.take (needL p a).length (List.drop 0 L) = L := by rw [← hL, List.drop_zero, List.take_length]
    simp (disch := omega) only [gd_dec, e]
theorem l43 {F : Nat} (hF : 400 ≤ F) {p : Pln} {t : List Int} (h : PV p) (ht : TOk p t) {a : ByteArray} : ∃ L, c43 F (p, t, a) = some L ∧ StabS (ltT t) (needL p a) L := by
  unfold c43
  have hn := h.n1
  have hsm := h.sh.sm
  have hlt := ht.len
  have hz : (p.1.zip t).length = p.1.length := by rw [List.length_zip, ht.len]; omega
  refine bind_sim p.1 (fun x (s : List Int × Nat) => .inl (s.1 ++ needR a s.2 x, s.2 + 1)) (fun s => s.1) (fun i s v => v.2 = (i : Int) ∧ s.2 = i ∧ s.1.length ≤ i ∧ (∀ y ∈ s.1, InE t.length y) ∧ StabS (ltT t) s.1 v.1) (fun (d : List Int) (b : List Int) => StabS (ltT t) d b) ([], 0) (by omega) ⟨rfl, rfl, Nat.le_refl _, by simp, StabS.nil⟩ ?_ ?_ ?_
  · intro i x s v hi hx ⟨hv, hs2, hsl, hD, hs⟩
    obtain ⟨o, vi⟩ := v
    obtain ⟨d, di⟩ := s
    simp only at hv hs2 hsl hD hs
    subst hv
    subst hs2
    have hmx := hsm.2.2 x (List.mem_of_getElem? hx)
    have hxD : InE t.length (di : Int) := ⟨by omega, by omega⟩
    have hol := hs.len
    have hoD : ∀ y ∈ o, InE t.length y := fun y hy => hD y (hs.mem.1 hy)
    have e54 : c54 F (x.2.2.2.2.1, a :: nilT ByteArray) = some (x.2.2.2.2.1.any fun y => strEq a y) := by
      rw [l54 hF hmx.2.2.2.1 (by simp [nilT])]
      unfold shareB
      congr 2
      funext y
      simp [nilT, strEq_comm y a]
    simp (disch := omega) only [cd_pos, gd_dec, Int.toNat_natCast, getD_some hx, e54, Option.bind_some]
    unfold needR
    cases hb : x.2.2.2.2.1.any fun y => strEq a y with
    | false =>
      simp (disch := omega) only [Bool.not_false, cond_true, w64_in, Bool.false_eq_true, if_false, List.append_nil]
      exact ⟨_, rfl, rfl, rfl, by simp only []; omega, hD, hs⟩
    | true =>
      simp only [Bool.not_true, cond_false, if_true]
      refine bind_inv (fun v : Int => ∃ n : Nat, v = n ∧ n ≤ o.length ∧ ∀ y ∈ o.drop n, ltT t (di : Int) y = true) (fun v : Int => v.toNat)
        (fun b : Int => ∃ n : Nat, b = n ∧ n ≤ o.length ∧ (∀ y ∈ o.drop n, ltT t (di : Int) y = true) ∧ (n = 0 ∨ ltT t (di : Int) (o.getD (n - 1) 0) = false)) ?_ ⟨o.length, rfl, Nat.le_refl _, by simp⟩ (by omega) ?_
      · rintro v ⟨n, rfl, hn, hy⟩
        by_cases h0 : n = 0
        · subst h0
          right
          exact ⟨0, rfl, 0, rfl, by omega, hy, .inl rfl⟩
        · have hw : w64 ((n : Int) - 1) = ((n - 1 : Nat) : Int) := by rw [w64_in (by omega) (by omega)]; omega
          have hz : o[n - 1]? = some (o[n - 1]'(by omega)) := List.getElem?_eq_getElem (by omega)
          have hzm := hoD _ (List.mem_of_getElem? hz)
          generalize hzz : o[n - 1]'(by omega) = z at hz hzm
          have hz1 := hzm.1
          have hz2 := hzm.2
          simp (disch := omega) only [cd_pos, hw, gd_dec, Int.toNat_natCast, getD_some hz, Option.bind_some]
          have e : decide (t.getD di 0 < t.getD z.toNat 0) = ltT t (di : Int) z := by simp only [ltT, tq, Int.toNat_natCast]
          rw [e]
          cases q : ltT t (di : Int) z with
          | true =>
            left
            refine ⟨((n - 1 : Nat) : Int), rfl, ⟨n - 1, rfl, by omega, fun y hyd => ?_⟩, by omega⟩
            rw [List.drop_eq_getElem_cons (show n - 1 < o.length by omega), show n - 1 + 1 = n by omega] at hyd
            rcases List.mem_cons.1 hyd with rfl | hyd
            · rw [hzz]; exact q
            · exact hy y hyd
          | false =>
            right
            exact ⟨(n : Int), rfl, n, rfl, hn, hy, .inr (by rw [getD_some hz]; exact q)⟩
      · rintro b ⟨n, rfl, hn, hn2, hn1⟩
        have hs' := stab_ins (ltT_on t t.length) (x := (di : Int)) (n := n) hD hxD hs hn hn2 hn1
        have e1 : nilT Int ++ List.drop 0 (List.take n o) ++ (di : Int) :: nilT Int ++ List.drop n (List.take o.length o) = o.take n ++ (di : Int) :: o.drop n := by simp [nilT]
        have e2 : (nilT Int ++ List.drop 0 (List.take n o)).length = n := by simp [nilT]; omega
        have e3 : (nilT Int ++ List.drop 0 (List.take n o) ++ (di : Int) :: nilT Int).length = n + 1 := by simp [nilT]; omega
        have e4 : (o.take n ++ (di : Int) :: o.drop n).length = o.length + 1 := by simp; omega
        have e5 : List.take (o.length + 1) (List.drop 0 (o.take n ++ (di : Int) :: o.drop n)) = o.take n ++ (di : Int) :: o.drop n := by rw [List.drop_zero, List.take_of_length_le (by omega)]
        simp (disch := omega) only [gd_dec, Int.toNat_natCast, e1, e2, e3, e4, e5, w64_in, Nat.zero_add, Nat.le_refl, decide_true, Bool.and_true, Bool.true_and, gd_true, Option.bind_some]
        refine ⟨.inl (o.take n ++ (di : Int) :: o.drop n, (di : Int) + 1), ?_, rfl, rfl, ?_, ?_, hs'⟩
        · exact (congrArg (fun z => Option.bind z _) (gd_join _ _ _ _)).trans ((congrArg (fun z => Option.bind z _) rfl).trans (gd_join _ _ _ _))
        · simp only [List.length_append, List.length_cons, List.length_nil]; omega
        · intro y hy
          rcases List.mem_append.1 hy with hy | hy
          · exact hD y hy
          · rw [List.mem_singleton.1 hy]; exact hxD
  · intro s v ⟨hv, hs2, hsl, hD, hs⟩
    obtain ⟨o, vi⟩ := v
    simp only at hv
    subst hv
    simp (disch := omega) only [cd_neg]
    exact ⟨_, rfl, hs⟩
  · intro b hb
    rw [goL_ifl] at hb
    exact ⟨b, rfl, hb⟩
theorem day_same {p : Pln} {t : List Int} (ht : TOk p t) {a : ByteArray} {L M : List Int} (h1 : StabS (ltT t) (needL p a) L) (h2 : StabS (ltT t) (needL p a) M) : L = M :=
  StabS.unique (ltT_on t p.1.length) needL_in h1 h2
end Go.Proofs.Tryz
end
section
set_option maxRecDepth 100000
set_option linter.unusedVariables false
set_option linter.unusedSimpArgs false
namespace Go.Proofs.Tryz
open Go Go.Sx
def minL (m : Int) (l : List Int) : Int := l.foldl (fun m x => if x < m then x else m) m
def gapsS (p : Pln) (t : List Int) : Int → List Int → List Int
  | _, [] => []
  | prev, x :: l => (tq t x - (tq t prev + (rq p prev).2.1)) :: gapsS p t x l
theorem l93 {F : Nat} {g : Int} {l : List Int} (hF : l.length + 1 < F) (hb : l.length ≤ 1000) : c93 F (g :: l) = some (minL g l) := by
  unfold c93
  have h1 : ¬ ((g :: l).length : Int) < 1 := by simp only [List.length_cons]; omega
  simp only [h1, decide_false, cond_false]
  have hg : (g :: l).getD 0 0 = g := rfl
  have hl : (g :: l).length = l.length + 1 := rfl
  simp (disch := omega) only [gd_dec, hg]
  refine bind_list l (fun (s : Int) i => (s, ((i + 1 : Nat) : Int))) (fun x s => .inl (if x < s then x else s)) (fun s => s) (fun _ _ => True) g (by omega) rfl trivial ?_ ?_ ?_
  · intro i x s hi hx _
    refine ⟨?_, fun _ _ => trivial⟩
    have hx' : (g :: l)[i + 1]? = some x := by simpa using hx
    simp (disch := omega) only [cd_pos, gd_dec, w64_in, Int.toNat_natCast, getD_some hx']
    rfl
  · intro s _
    simp (disch := omega) only [cd_neg]
  · rw [goL_fold (fun s x => if x < s then x else s)]
    rfl
theorem l90 {F : Nat} (hF : 400 ≤ F) {p : Pln} {t : List Int} (h : PShort p) (hl : t.length ≤ 300) {a : ByteArray} {L : List Int} (hL : soundE p t = 0 → c91 F (p, t, a) = some L) : c90 F (p, t, a) = some (if soundE p t = 0 then (if L.length = 0 then 10 else 0) else soundE p t) := by
  unfold c90
  simp only [peta, l96 hF h hl, Option.bind_some]
  by_cases h0 : soundE p t = 0
  · simp only [h0, hL h0, decide_true, Bool.not_true, cond_false, if_true, Option.bind_some, l88, decide_eq_true_eq]
    by_cases h1 : L.length = 0
    · simp [h1]
    · have : ¬ (L.length : Int) = 0 := by omega
      simp [h1, this]
  · simp [h0]
theorem l40 {F : Nat} (hF : 400 ≤ F) {p : Pln} {t : List Int} (h : PShort p) (hl : t.length ≤ 300) {a : ByteArray} {L : List Int} (hL : soundE p t = 0 → c91 F (p, t, a) = some L) : c40 F (p, t, a) = some (if soundE p t = 0 then (if L.length = 0 then (nilT Int, 10) else (L, 0)) else (nilT Int, soundE p t)) := by
  unfold c40
  simp only [peta, l90 hF h hl hL, Option.bind_some]
  by_cases h0 : soundE p t = 0
  · simp only [h0, if_true]
    by_cases h1 : L.length = 0
    · simp [h1]
    · simp [h1, hL h0]
  · simp [h0]
def restB (p : Pln) (t : List Int) (x : Int) (s : Int × List Int) : (Int × List Int) ⊕ (Unit × Int × List Int) := .inl (tq t x + (rq p x).2.1, if 0 ≤ s.1 then s.2 ++ [tq t x - s.1] else s.2)
theorem restB_go {p : Pln} {t : List Int} (h : PV p) (ht : TOk p t) : ∀ (l : List Int) (x : Int) (out : List Int), (∀ y ∈ x :: l, InE p.1.length y) → ∃ u, goL (restB p t) (fun s => ((), s.1, s.2)) l (tq t x + (rq p x).2.1, out) = ((), u, out ++ gapsS p t x l)
  | [], x, out, _ => ⟨tq t x + (rq p x).2.1, by simp only [goL_nil, gapsS, List.append_nil]⟩
  | y :: l, x, out, hy => by
    have hx := hy x (by simp)
    have b1 := ht.at hx.1 hx.2
    have b2 := (h.at hx.1 hx.2).1
    obtain ⟨u, hu⟩ := restB_go h ht l y (out ++ [tq t y - (tq t x + (rq p x).2.1)]) (fun z hz => hy z (by simp at hz ⊢; right; exact hz))
    refine ⟨u, ?_⟩
    rw [goL_cons]
    have hpos : (0 : Int) ≤ tq t x + (rq p x).2.1 := by omega
    simp only [restB, hpos, if_true] at hu ⊢
    rw [hu]
    simp [gapsS]
theorem gapsS_len (p : Pln) (t : List Int) : ∀ (l : List Int) (x : Int), (gapsS p t x l).length = l.length
  | [], x => rfl
  | y :: l, x => by simp [gapsS, gapsS_len p t l]
def restV (p : Pln) (t : List Int) : List Int → Int × Int
  | [] => (0, 7)
  | x :: l => match gapsS p t x l with
    | [] => (0, 7)
    | g :: gs => (minL g gs, 0)
theorem l41 {F : Nat} (hF : 400 ≤ F) {p : Pln} {t : List Int} (h : PShort p) (hl : t.length ≤ 300) {a : ByteArray} {L : List Int} (hL : soundE p t = 0 → c91 F (p, t, a) = some L) (hD : ∀ y ∈ L, InE p.1.length y) (hLl : L.length ≤ 24) :
    c41 F (p, t, a) = some (if soundE p t = 0 then (if L.length = 0 then (0, 10) else restV p t L) else (0, soundE p t)) := by
  unfold c41
  simp only [peta, l90 hF h hl hL, Option.bind_some]
  by_cases h0 : soundE p t = 0
  · simp only [h0, if_true]
    by_cases h1 : L.length = 0
    · simp [h1]
    · obtain ⟨hp, hf⟩ := soundE_zero h0
      have hv := PV.of h hp
      have ht := (TOk.of hf).1
      have hlt := ht.len
      simp only [h1, if_false, decide_true, Bool.not_true, cond_false, hL h0, Option.bind_some]
      refine bind_list L (fun (s : Int × List Int) i => ((), s.1, s.2, (i : Int))) (restB p t) (fun s => ((), s.1, s.2)) (fun i s => -1 ≤ s.1 ∧ s.1 ≤ 4398046512545 ∧ s.2.length ≤ i) (-1, []) (by omega) rfl ⟨by simp, by simp, by simp⟩ ?_ ?_ ?_
      · intro i x s hi hx ⟨hs1, hs2, hs3⟩
        have hxD := hD x (List.mem_of_getElem? hx)
        have x1 := hxD.1
        have x2 := hxD.2
        have b1 := ht.at hxD.1 hxD.2
        have b2 := (hv.at hxD.1 hxD.2).1
        obtain ⟨s1, s2⟩ := s
        simp only at hs1 hs2 hs3
        simp only [tq, rq, r0] at b1 b2
        unfold restB
        simp only [tq, rq, r0]
        refine ⟨?_, ?_⟩
        · by_cases hp : 0 ≤ s1
          · simp (disch := omega) only [cd_pos, gd_dec, w64_in, Int.toNat_natCast, getD_some hx, hp, if_true, decide_true, len_snoc, Bool.and_self, gd_true, Option.bind_some]
            rfl
          · simp (disch := omega) only [cd_pos, cd_neg, gd_dec, w64_in, Int.toNat_natCast, getD_some hx, hp, if_false, decide_true, len_snoc, Bool.and_self, gd_true, Option.bind_some]
            rfl
        · intro s' hs'
          injection hs' with hs'
          rw [← hs']
          simp only []
          refine ⟨by omega, by omega, ?_⟩
          split
          · rw [List.length_append, List.length_singleton]; omega
          · omega
      · intro s ⟨_, _, hs3⟩
        simp (disch := omega) only [cd_neg, decide_true, Bool.and_self, gd_true, Option.bind_some]
      · cases L with
        | nil => exact absurd rfl h1
        | cons x l =>
          obtain ⟨u, hu⟩ := restB_go hv ht l x [] hD
          have e : restB p t x (-1, []) = .inl (tq t x + (rq p x).2.1, []) := by simp [restB]
          have hgo : goL (restB p t) (fun s => ((), s.1, s.2)) (x :: l) (-1, []) = ((), u, gapsS p t x l) := by
            rw [goL_cons, e]
            simpa using hu
          simp only [hgo, restV]
          have hgl := gapsS_len p t l x
          have hll : l.length ≤ 23 := by simp only [List.length_cons] at hLl; omega
          cases hg : gapsS p t x l with
          | nil => simp
          | cons g gs =>
            rw [hg] at hgl
            simp only [List.length_cons] at hgl
            have hne : ¬ (((g :: gs).length : Nat) : Int) = 0 := by simp only [List.length_cons]; omega
            simp only [hne, decide_false, cond_false, take_all, Nat.zero_add, Nat.le_refl, decide_true, Bool.and_self, gd_true, l93 (F := F) (g := g) (l := gs) (by omega) (by omega), Option.bind_some]
  · simp [h0]
theorem gapsF {p : Pln} {t : List Int} : ∀ (l : List Int) (x m : Int), goL (fun y (s : Int × Int) => (.inl (if tq t y - tq t s.2 - (rq p s.2).2.1 < s.1 then tq t y - tq t s.2 - (rq p s.2).2.1 else s.1, y) : (Int × Int) ⊕ Int)) (fun s => s.1) l (m, x) = minL m (gapsS p t x l)
  | [], x, m => rfl
  | y :: l, x, m => by
    rw [goL_cons]
    simp only []
    rw [gapsF l y]
    simp only [gapsS, minL, List.foldl_cons]
    rw [show tq t y - tq t x - (rq p x).2.1 = tq t y - (tq t x + (rq p x).2.1) by omega]
theorem l44 {F : Nat} (hF : 400 ≤ F) {p : Pln} {t : List Int} (h : PV p) (ht : TOk p t) {a : ByteArray} {x : Int} {l : List Int} (hL : c43 F (p, t, a) = some (x :: l)) (hD : ∀ y ∈ x :: l, InE p.1.length y) (hLl : (x :: l).length ≤ 24) : c44 F (p, t, a) = some (minL 999999999 (gapsS p t x l)) := by
  unfold c44
  have hlt := ht.len
  simp only [peta, hL, Option.bind_some]
  have hll : (x :: l).length = l.length + 1 := rfl
  refine bind_list l (fun (s : Int × Int) i => (s.1, ((i + 1 : Nat) : Int))) (fun y s => .inl (if tq t y - tq t s.2 - (rq p s.2).2.1 < s.1 then tq t y - tq t s.2 - (rq p s.2).2.1 else s.1, y)) (fun s => s.1) (fun i s => (x :: l)[i]? = some s.2) (999999999, x) (by omega) rfl rfl ?_ ?_ ?_
  · intro i y s hi hy hs
    obtain ⟨m, z⟩ := s
    simp only at hs
    have hy' : (x :: l)[i + 1]? = some y := by simpa using hy
    have hyD := hD y (List.mem_of_getElem? hy')
    have hzD := hD z (List.mem_of_getElem? hs)
    have y1 := hyD.1; have y2 := hyD.2; have z1 := hzD.1; have z2 := hzD.2
    have b1 := ht.at hyD.1 hyD.2
    have b2 := ht.at hzD.1 hzD.2
    have b3 := (h.at hzD.1 hzD.2).1
    simp only [tq, rq, r0] at b1 b2 b3 ⊢
    have hw : w64 (((i + 1 : Nat) : Int) - 1) = (i : Int) := by rw [w64_in (by omega) (by omega)]; omega
    refine ⟨?_, ?_⟩
    · simp (disch := omega) only [cd_pos, gd_dec, hw, w64_in, Int.toNat_natCast, getD_some hy', getD_some hs]
      rfl
    · intro s' hs'
      injection hs' with hs'
      rw [← hs']
      exact hy'
  · intro s _
    simp (disch := omega) only [cd_neg]
  · rw [gapsF]
end Go.Proofs.Tryz
end
section
set_option maxRecDepth 100000
set_option linter.unusedVariables false
set_option linter.unusedSimpArgs false
namespace Go.Proofs.Tryz
open Go Go.Sx
end Go.Proofs.Tryz
end
section
set_option maxRecDepth 100000
set_option linter.unusedVariables false
set_option linter.unusedSimpArgs false
namespace Go.Proofs.Tryz
open Go Go.Sx
end Go.Proofs.Tryz
end
section
set_option maxRecDepth 100000
set_option linter.unusedVariables false
set_option linter.unusedSimpArgs false
namespace Go.Proofs.Tryz
open Go Go.Sx
end Go.Proofs.Tryz
end
section
set_option maxRecDepth 100000
set_option linter.unusedVariables false
set_option linter.unusedSimpArgs false
namespace Go.Proofs.Tryz
open Go Go.Sx
theorem l14 {F : Nat} {p : Pln} (h1 : p.1.length < F) (h2 : p.2.1.length < F) (hb1 : p.1.length * 112 ≤ 140737488351232) (hb2 : p.2.1.length * 24 ≤ 140737488351232) : c14 F p = some p := by
  unfold c14
  refine bind_list p.1 (fun (_ : Unit) i => (p.2.2, p.1.take i, (i : Int))) (fun _ _ => .inl ()) (fun _ => (p.2.2, p.1)) (fun _ _ => True) () h1 rfl trivial ?_ ?_ ?_
  · intro i x _ hi hx _
    refine ⟨?_, fun _ _ => trivial⟩
    have hl := len_take (l := p.1) (i := i) (by omega)
    have hl' := len_take (l := p.1) (i := i + 1) (by omega)
    simp (disch := omega) only [cd_pos, gd_dec, w64_in, Int.toNat_natCast, getD_some hx, peta, take_snoc hx, hl, hl', decide_true, Bool.and_self, gd_true, Option.bind_some]
    rfl
  · intro _ _
    simp (disch := omega) only [cd_neg, List.take_length, decide_true, Bool.and_self, gd_true, Option.bind_some]
  · rw [goL_unit]
    simp only [decide_true, Bool.and_self, gd_true, Option.bind_some]
    refine bind_list p.2.1 (fun (_ : Unit) i => (p.2.2, p.1, p.2.1.take i, (i : Int))) (fun _ _ => .inl ()) (fun _ => (p.2.2, p.1, p.2.1)) (fun _ _ => True) () h2 rfl trivial ?_ ?_ ?_
    · intro i x _ hi hx _
      refine ⟨?_, fun _ _ => trivial⟩
      have hl := len_take (l := p.2.1) (i := i) (by omega)
      have hl' := len_take (l := p.2.1) (i := i + 1) (by omega)
      simp (disch := omega) only [cd_pos, gd_dec, w64_in, Int.toNat_natCast, getD_some hx, peta, take_snoc hx, hl, hl', decide_true, Bool.and_self, gd_true, Option.bind_some]
      rfl
    · intro _ _
      simp (disch := omega) only [cd_neg, List.take_length, decide_true, Bool.and_self, gd_true, Option.bind_some]
    · rw [goL_unit]
      simp only [take_all, Nat.zero_add, Nat.le_refl, decide_true, Bool.and_self, gd_true]
def roomP (p : Pln) (t : List Int) : Nat := p.1.length + p.2.1.length + t.length + 4000
end Go.Proofs.Tryz
end
section
set_option maxRecDepth 100000
namespace Go.Proofs.Tryz
open Go Go.Sx
def delRen : Shelf.Ren := ⟨fun x => match x with | 23 => 84 | y => y, fun x => match x with | 22 => 49 | y => y, fun x => x⟩
theorem layDel : Proofs.Lays2.n23 cx.P delRen := {
  mixed := by kernel_rfl
  f23 := by kernel_rfl
  t0 := by kernel_rfl
  a0 := fun w => by kernel_rfl
  z0 := fun w => by kernel_rfl
  v0 := fun w => by kernel_rfl
  t3 := by kernel_rfl
  a3 := fun w => by kernel_rfl
  z3 := fun w => by kernel_rfl
  v3 := fun w => by kernel_rfl
  t4 := by kernel_rfl
  a4 := fun w => by kernel_rfl
  z4 := fun w => by kernel_rfl
  v4 := fun w => by kernel_rfl
  t22 := by kernel_rfl
  a22 := fun w => by kernel_rfl
  z22 := fun w => by kernel_rfl
  v22 := fun w => by kernel_rfl
  i3 := by kernel_rfl }
theorem del84_ok : SmOk cx 84 delSm := delSm_ok (ρ0 := delRen) (g := 84) rfl ⟨f84, by kernel_rfl⟩ layDel
end Go.Proofs.Tryz
end

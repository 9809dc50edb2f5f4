/- Plain law: the program's and the reference's least tables by edges. Plain law: the bounds, the edges, and what is to be kept apart. And further parts. -/
import Derived.Test.YtlfcbhjoldgijaaGreatXT9c
import Derived.Test.YtlfcbhjoldgijaaGreatXSxSt
import Derived.Test.YtlfcbhjoldgijaaGreatXTtCx
set_option maxRecDepth 100000
set_option linter.unusedVariables false
set_option linter.unusedSimpArgs false
namespace Go.Proofs.Tryz
open Go Go.Sx
def EW (n : Nat) (e : Edg) : Prop := EOk n e ∧ 0 ≤ e.2.2 ∧ e.2.2 ≤ 5000
def InB (b : Int) (t : List Int) : Prop := ∀ x ∈ t, 0 ≤ x ∧ x ≤ b
theorem InB.at {b : Int} {t : List Int} (h : InB b t) {i : Nat} (hi : i < t.length) : 0 ≤ t.getD i 0 ∧ t.getD i 0 ≤ b := h _ (getD_mem hi)
theorem InB.mono {b c : Int} {t : List Int} (h : InB b t) (hbc : b ≤ c) : InB c t := fun x hx => by have := h x hx; omega
theorem relax_in {b : Int} {s : List Int × Bool} {e : Edg} (h : InB b s.1) (he : EW s.1.length e) : InB (b + 5000) (relax s e).1 := by
  unfold relax
  split
  · intro x hx
    rcases List.mem_or_eq_of_mem_set hx with hx | rfl
    · have := h x hx; omega
    · have h1 := h.at (i := e.1.toNat) (by have := he.1.1; omega)
      have := he.2
      simp only [tq]
      omega
  · exact h.mono (by omega)
theorem fold_in {E : List Edg} : ∀ {b : Int} {s : List Int × Bool}, InB b s.1 → (∀ e ∈ E, EW s.1.length e) → InB (b + 5000 * E.length) (E.foldl relax s).1 := by
  induction E with
  | nil => intro b s h _; exact h.mono (by simp)
  | cons e E ih =>
    intro b s h hE
    rw [List.foldl_cons]
    have := ih (relax_in h (hE e (by simp))) (fun e' he' => by rw [relax_len]; exact hE e' (by simp [he']))
    refine this.mono ?_
    rw [List.length_cons]
    omega
theorem pass_in {E : List Edg} {b : Int} {t : List Int} (h : InB b t) (hE : ∀ e ∈ E, EW t.length e) (hl : E.length ≤ 3000) : InB (b + 15000000) (passS E t).1 := (fold_in (s := (t, false)) h hE).mono (by omega)
structure PIn (n : Nat) (b : Int) (j : Nat) (t : List Int) : Prop where
  len : t.length = n
  inb : ∃ c, InB c t ∧ c ≤ b + 15000000 * j
theorem PIn.next {n : Nat} {b : Int} {j : Nat} {t : List Int} {E : List Edg} (h : PIn n b j t) (hE : ∀ e ∈ E, EW n e) (hl : E.length ≤ 3000) : PIn n b (j + 1) (passS E t).1 := by
  obtain ⟨h1, c, h2, h3⟩ := h
  exact ⟨by rw [pass_len]; exact h1, c + 15000000, pass_in h2 (fun e he => by rw [h1]; exact hE e he) hl, by omega⟩
end Go.Proofs.Tryz
section
namespace Go.Proofs.Tryz
open Go Go.Sx
end Go.Proofs.Tryz
end
namespace Go.Proofs.Tryz
open Go Go.Sx
def isP (r : Rul) : Bool := !strEq r.1 kW && !strEq r.1 kO
theorem rep_getD {n i : Nat} {x d : Int} (h : i < n) : (List.replicate n x).getD i d = x := by
  rw [List.getD_eq_getElem?_getD, List.getElem?_replicate, if_pos h]
  rfl
def InL (b : Int) (t : List Int) : Prop := ∀ x ∈ t, -b ≤ x ∧ x ≤ 4398046511104
theorem InL.at {b : Int} {t : List Int} (h : InL b t) {i : Nat} (hi : i < t.length) : -b ≤ t.getD i 0 ∧ t.getD i 0 ≤ 4398046511104 := h _ (getD_mem hi)
theorem gd_bool {x : Bool} {X : Type} (r : Option X) : gd (AEls.eqv (ATy.val Ty.bool :: nilT ATy) x x) r = r := gd_args _ _ _
theorem condS_get {p : Pln} {i : Nat} {r : Rul} (hr : (rulesS p)[i]? = some r) : (condS p)[i]? = some (r.1, r.2.1, r.2.2.1) := by
  unfold condS
  rw [List.getElem?_map, hr]
  rfl
theorem condS_len (p : Pln) : (condS p).length = (rulesS p).length := by unfold condS; rw [List.length_map]
theorem or_cond {a b : Prop} [Decidable a] [Decidable b] : (bif decide a then some true else some (decide b)) = some (decide a || decide b) := by
  by_cases h : a <;> simp [h]
theorem l81 {F : Nat} (hF : 3000 ≤ F) {p : Pln} {t : List Int} (h : PV p) (ht : TOk p t) {i : Nat} {r : Rul} (hr : (rulesS p)[i]? = some r) : c81 F (p, t, (i : Int)) = some (holdS p t r) := by
  have hc := condS_get hr
  have hcl := condS_len p
  have hil := (List.getElem?_eq_some_iff.1 hr).1
  have hl := rulesS_len h.sh.1 h.sh.2.1
  obtain ⟨hk, ha, hb, hg, _, _⟩ := h.rul hr
  obtain ⟨g1, g2, g3⟩ := rul_gap hr
  obtain ⟨k, a, b, g⟩ := r
  simp only at hk ha hb hg g1 g2 g3 hc
  unfold c81 holdS
  simp only [eW, eO, eA, eF, eT]
  have e1 := ht.at ha.1 ha.2
  have e2 := ht.at hb.1 hb.2
  have e3 := h.at ha.1 ha.2
  have e4 := (h.at hb.1 hb.2).1
  have e5 := h.rest
  have hlen := ht.len
  simp only [tq, rq, r0] at e1 e2 e3 e4
  simp (disch := omega) only [peta, l37 (show 400 ≤ F by omega) h.sh, Option.bind_some, gd_dec, Int.toNat_natCast, getD_some hc]
  rcases hk with rfl | rfl | rfl | rfl | rfl
  · simp only [sWW, cond_true, if_true, winS, tq, rq, r0]
    by_cases h5 : (p.1.getD a.toNat (ByteArray.empty, (0 : Int), nilT ByteArray, nilT ByteArray, nilT ByteArray, (0 : Int), (0 : Int))).2.2.2.2.2.1 ≤ t.getD a.toNat 0
    · simp (disch := omega) only [h5, decide_true, cond_true, true_and, Option.bind_some, gd_dec, w64_in, gd_bool]
    · simp (disch := omega) only [h5, decide_false, cond_false, false_and, Option.bind_some, gd_dec, w64_in, gd_bool]
  · obtain ⟨hni, o, ho, hgo⟩ := g1 rfl
    have hol := (List.getElem?_eq_some_iff.1 ho).1
    have en : ((i : Int) - (p.1.length : Int)).toNat = i - p.1.length := by omega
    have hn := h.n1
    subst hgo
    simp (disch := omega) only [sOW, sOO, cond_true, cond_false, if_true, if_false, Bool.false_eq_true, befS, tq, rq, r0, w64_in, en, getD_some ho, gd_dec, Option.bind_some, gd_bool]
  · obtain rfl := g3 (.inl rfl)
    simp (disch := omega) only [sAW, sAO, sAT, cond_true, cond_false, if_true, if_false, Bool.false_eq_true, befS, tq, rq, r0, w64_in, gd_dec, Option.bind_some, or_cond, gd_bool]
  · obtain rfl := g3 (.inr rfl)
    simp (disch := omega) only [sFW, sFO, sFT, cond_true, cond_false, if_true, if_false, Bool.false_eq_true, befS, tq, rq, r0, w64_in, gd_dec, Option.bind_some, or_cond, gd_bool]
  · obtain rfl := g2 rfl
    simp (disch := omega) only [sTW, sTO, sTT, cond_true, cond_false, if_true, if_false, Bool.false_eq_true, befS, tq, rq, r0, w64_in, gd_dec, Option.bind_some, or_cond, gd_bool]
theorem l33 {F : Nat} (hF : 3000 ≤ F) {p : Pln} {t : List Int} (h : PV p) (ht : TOk p t) : c33 F (p, t) = some ((brokS p t).1, if (brokS p t).2 = true then 29 else 0) := by
  unfold c33
  have hl := rulesS_len h.sh.1 h.sh.2.1
  have hcl := condS_len p
  simp only [peta, l37 (show 400 ≤ F by omega) h.sh, Option.bind_some]
  refine bind_list (rulesS p) (fun (_ : Nat) i => (i : Int)) (fun r (s : Nat) => if (!holdS p t r) = true then .inr (.inl ((s : Int), 29)) else .inl (s + 1)) (fun _ => .inr ()) (fun i s => s = i) 0 (by omega) rfl rfl ?_ ?_ ?_
  · intro i r s hi hr hs
    subst hs
    simp (disch := omega) only [cd_pos, w64_in, l81 hF h ht hr, Option.bind_some]
    cases holdS p t r <;> simp
  · intro s hs
    simp (disch := omega) only [cd_neg]
  · rw [goL_find (fun r => !holdS p t r) (fun s => (Sum.inl ((s : Int), (29 : Int)) : Int × Int ⊕ Unit)) (Sum.inr ())]
    unfold brokS
    cases (rulesS p).findIdx? fun r => !holdS p t r with
    | none => simp [hcl]
    | some i => simp
theorem zip_get {α β : Type} {l : List α} {m : List β} {i : Nat} {x : α × β} (h : (l.zip m)[i]? = some x) : l[i]? = some x.1 ∧ m[i]? = some x.2 := by
  rw [List.getElem?_zip_eq_some] at h
  exact h
def formE (p : Pln) (t : List Int) : Int := if t.length ≠ p.1.length then 2 else if (t.any fun n => decide (n < 0 ∨ 999999999 < n)) = true then 3 else 0
theorem l32 {F : Nat} (hF : 400 ≤ F) {p : Pln} {t : List Int} (hn : p.1.length ≤ 26) (hl : t.length ≤ 300) : c32 F (p, t) = some (formE p t) := by
  unfold c32 formE
  by_cases h0 : t.length = p.1.length
  · have : (t.length : Int) = p.1.length := by omega
    simp only [h0, decide_true, Bool.not_true, cond_false, ne_eq, not_true_eq_false, if_false]
    refine bind_any t (fun n => decide (n < 0 ∨ 999999999 < n)) (.inl 3) (.inr ()) (by omega) ?_ ?_ ?_
    · intro i x hi hx
      simp (disch := omega) only [cd_pos, gd_dec, w64_in, Int.toNat_natCast, getD_some hx, l71, Option.bind_some]
      by_cases h1 : x < 0 ∨ 999999999 < x <;> simp [h1]
    · simp (disch := omega) only [cd_neg]
    · cases t.any fun n => decide (n < 0 ∨ 999999999 < n) <;> simp
  · have : ¬ (t.length : Int) = p.1.length := by omega
    simp [h0, this]
def soundE (p : Pln) (t : List Int) : Int := if planE p = 0 then formE p t else planE p
theorem l96 {F : Nat} (hF : 400 ≤ F) {p : Pln} {t : List Int} (h : PShort p) (hl : t.length ≤ 300) : c96 F (p, t) = some (soundE p t) := by
  unfold c96 cx129_0 cx150_0
  rw [idx_loop t (fun n => decide (n < 0 ∨ 999999999 < n)) (by omega) ?_ ?_]
  · simp only [peta, Option.bind_some, idxS_any, l51 hF h.sm, l88, l102 (F := F) (l := _ :: _ :: _ :: nilT Int) (by simp [nilT]; omega) (by simp [nilT])]
    unfold soundE formE
    simp only [firstNZ_cons, firstNZ_nil]
    by_cases h0 : planE p = 0
    · by_cases h1 : t.length = p.1.length
      · have : (t.length : Int) = p.1.length := by omega
        simp only [h0, h1, decide_true, Bool.not_true, Bool.false_eq_true, if_false, if_true, ne_eq, not_true_eq_false]
        cases t.any fun n => decide (n < 0 ∨ 999999999 < n) <;> simp
      · have : ¬ (t.length : Int) = p.1.length := by omega
        simp [h0, h1, this]
    · simp [h0]
  · intro i x hi hx
    have e : c130 F x = some (decide (x < 0 ∨ 999999999 < x)) := by
      unfold c130
      by_cases h1 : x < 0 <;> by_cases h2 : 999999999 < x <;> simp [h1, h2]
    simp (disch := omega) only [cd_pos, gd_dec, w64_in, Int.toNat_natCast, getD_some hx, e, Option.bind_some]
    by_cases h1 : x < 0 ∨ 999999999 < x <;> simp [h1]
  · simp (disch := omega) only [cd_neg]
theorem TOk.of {p : Pln} {t : List Int} (h : formE p t = 0) : TOk p t ∧ ∀ x ∈ t, 0 ≤ x ∧ x ≤ 999999999 := by
  unfold formE at h
  by_cases h0 : t.length = p.1.length
  · simp only [h0, ne_eq, not_true_eq_false, if_false] at h
    have h1 : (t.any fun n => decide (n < 0 ∨ 999999999 < n)) = false := by
      cases e : t.any fun n => decide (n < 0 ∨ 999999999 < n) with
      | false => rfl
      | true => rw [e] at h; cases h
    rw [List.any_eq_false] at h1
    have h2 : ∀ x ∈ t, 0 ≤ x ∧ x ≤ 999999999 := fun x hx => by
      have := h1 x hx
      simp only [decide_eq_true_eq] at this
      omega
    exact ⟨⟨h0, fun x hx => by have := h2 x hx; omega⟩, h2⟩
  · rw [if_pos h0] at h
    cases h
theorem soundE_zero {p : Pln} {t : List Int} (h : soundE p t = 0) : planE p = 0 ∧ formE p t = 0 := by
  unfold soundE at h
  by_cases h0 : planE p = 0
  · rw [if_pos h0] at h; exact ⟨h0, h⟩
  · rw [if_neg h0] at h; exact absurd h h0
def BrOk (l : List ByteArray) : Prop := l.length ≤ 162 ∧ ∀ s ∈ l, s.size ≤ 40
theorem l62 {F : Nat} (hF : 400 ≤ F) {l : List ByteArray} : ∃ b, c62 F l = some b ∧ (b = true → BrOk l) := by
  unfold c62
  have e : (bif decide (8 < (l.length : Int)) then bif decide ((l.length : Int) ≤ 160) then some true else some (decide (162 < (l.length : Int))) else some (decide (162 < (l.length : Int)))) = some (decide (¬ (l.length ≤ 162 ∧ (l.length ≤ 8 ∨ 160 < l.length)))) := by
    by_cases a1 : 8 < (l.length : Int)
    · by_cases a2 : (l.length : Int) ≤ 160
      · simp only [a1, a2, decide_true, cond_true, Option.some.injEq]
        exact (decide_eq_true (by omega)).symm
      · simp only [a1, a2, decide_true, cond_true, decide_false, cond_false, Option.some.injEq, decide_eq_decide]
        omega
    · simp only [a1, decide_false, cond_false, Option.some.injEq, decide_eq_decide]
      omega
  rw [e]
  by_cases hg : l.length ≤ 162 ∧ (l.length ≤ 8 ∨ 160 < l.length)
  · simp only [hg, not_true_eq_false, decide_false, Option.bind_some, cond_false]
    refine bind_all l (fun x => x.size ≤ 40) (fun b : Bool ⊕ Unit => b = .inl false ∨ (b = .inr () ∧ ∀ x ∈ l, x.size ≤ 40)) (by omega) ?_ ?_ ?_
    · intro i x hi hx
      simp (disch := omega) only [cd_pos, gd_dec, Int.toNat_natCast, getD_some hx, w64_in]
      by_cases a1 : (40 : Int) < x.size
      · exact ⟨_, by simp [a1], .inr ⟨_, rfl, .inl rfl⟩⟩
      · exact ⟨_, by simp [a1], .inl ⟨rfl, by omega⟩⟩
    · intro hgood
      simp (disch := omega) only [cd_neg]
      exact ⟨_, rfl, .inr ⟨rfl, hgood⟩⟩
    · intro b hb
      rcases hb with rfl | ⟨rfl, h2⟩
      · exact ⟨false, rfl, by simp⟩
      · exact ⟨true, rfl, fun _ => ⟨hg.1, h2⟩⟩
  · simp only [hg, not_false_eq_true, decide_true, Option.bind_some, cond_true]
    exact ⟨false, rfl, by simp⟩
def RShort (x : Rnd) : Prop := x.1.size ≤ 40 ∧ BrOk x.2.2.1 ∧ BrOk x.2.2.2.1 ∧ BrOk x.2.2.2.2.1
theorem l16 {F : Nat} (hF : 400 ≤ F) {p : Pln} : ∃ b, c16 F p = some b ∧ (b = true → PShort p) := by
  unfold c16
  by_cases h1 : (26 : Int) < p.1.length
  · exact ⟨false, by simp [h1], by simp⟩
  · by_cases h2 : (28 : Int) < p.2.1.length
    · exact ⟨false, by simp [h1, h2], by simp⟩
    · simp only [h1, h2, decide_false, cond_false, Option.bind_some]
      refine bind_all p.1 RShort (fun b : Bool ⊕ Unit => b = .inl false ∨ (b = .inr () ∧ ∀ x ∈ p.1, RShort x)) (by omega) ?_ ?_ ?_
      · intro i x hi hx
        obtain ⟨b1, e1, q1⟩ := l62 hF (l := x.2.2.1)
        obtain ⟨b2, e2, q2⟩ := l62 hF (l := x.2.2.2.1)
        obtain ⟨b3, e3, q3⟩ := l62 hF (l := x.2.2.2.2.1)
        simp (disch := omega) only [cd_pos, gd_dec, Int.toNat_natCast, getD_some hx, w64_in, e1, e2, e3, Option.bind_some]
        by_cases a1 : (40 : Int) < x.1.size
        · exact ⟨_, by simp [a1], .inr ⟨_, rfl, .inl rfl⟩⟩
        · cases b1 with
          | false => exact ⟨_, by simp [a1], .inr ⟨_, rfl, .inl rfl⟩⟩
          | true => cases b2 with
            | false => exact ⟨_, by simp [a1], .inr ⟨_, rfl, .inl rfl⟩⟩
            | true => cases b3 with
              | false => exact ⟨_, by simp [a1], .inr ⟨_, rfl, .inl rfl⟩⟩
              | true => exact ⟨_, by simp [a1], .inl ⟨rfl, by omega, q1 rfl, q2 rfl, q3 rfl⟩⟩
      · intro hgood
        simp (disch := omega) only [cd_neg]
        exact ⟨_, rfl, .inr ⟨rfl, hgood⟩⟩
      · intro b hb
        rcases hb with rfl | ⟨rfl, h3⟩
        · exact ⟨false, rfl, by simp⟩
        · refine ⟨true, rfl, fun _ => ⟨by omega, by omega, fun x hx => ?_⟩⟩
          obtain ⟨c0, c1, c2, c3⟩ := h3 x hx
          refine ⟨c0, fun l hl => ?_⟩
          rcases hl with rfl | rfl | rfl
          · exact c1
          · exact c2
          · exact c3
theorem bind_inv {σ β γ : Type} {step : σ → Option (σ ⊕ β)} {F : Nat} {t : σ} {k : β → Option γ} {P : γ → Prop} (Inv : σ → Prop) (m : σ → Nat) (Post : β → Prop)
    (h : ∀ x, Inv x → (∃ y, step x = some (.inl y) ∧ Inv y ∧ m y < m x) ∨ ∃ b, step x = some (.inr b) ∧ Post b) (h0 : Inv t) (hF : m t < F) (hk : ∀ b, Post b → ∃ r, k b = some r ∧ P r) : ∃ r, Option.bind (loopO step F t) k = some r ∧ P r := by
  obtain ⟨b, h1, h2⟩ := loopO_ex Inv m Post h F t h0 hF
  rw [h1]
  exact hk b h2
def InE (n : Nat) (a : Int) : Prop := 0 ≤ a ∧ a < n
end Go.Proofs.Tryz
section
namespace Go.Proofs.Tryz
open Go Go.Sx
end Go.Proofs.Tryz
end
namespace Go.Proofs.Tryz
open Go Go.Sx
theorem PV.rulM {p : Pln} (h : PV p) : ∀ r ∈ rulesS p, RulOk p r := fun r hr => by
  obtain ⟨i, hi, rfl⟩ := List.mem_iff_getElem.1 hr
  exact h.rul (List.getElem?_eq_getElem hi)
theorem TOk.ofB {p : Pln} {t : List Int} (hl : t.length = p.1.length) (hb : InB 4398046511104 t) : TOk p t := ⟨hl, hb⟩
end Go.Proofs.Tryz
section
namespace Go.Proofs.Tryz
open Go Go.Sx
end Go.Proofs.Tryz
end
section
namespace Go.Proofs.Tryz
open Go Go.Sx
end Go.Proofs.Tryz
end
namespace Go.Proofs.Tryz
open Go Go.Sx
theorem l14 {F : Nat} {p : Pln} (h1 : p.1.length < F) (h2 : p.2.1.length < F) (hb1 : p.1.length * 112 ≤ 140737488351232) (hb2 : p.2.1.length * 24 ≤ 140737488351232) : c14 F p = some p := by
  unfold c14
  refine bind_list p.1 (fun (_ : Unit) i => (p.2.2, p.1.take i, (i : Int))) (fun _ _ => .inl ()) (fun _ => (p.2.2, p.1)) (fun _ _ => True) () h1 rfl trivial ?_ ?_ ?_
  · intro i x _ hi hx _
    refine ⟨?_, fun _ _ => trivial⟩
    have hl := len_take (l := p.1) (i := i) (by omega)
    have hl' := len_take (l := p.1) (i := i + 1) (by omega)
    simp (disch := omega) only [cd_pos, gd_dec, w64_in, Int.toNat_natCast, getD_some hx, peta, take_snoc hx, hl, hl', decide_true, Bool.and_self, gd_true, Option.bind_some]
    rfl
  · intro _ _
    simp (disch := omega) only [cd_neg, List.take_length, decide_true, Bool.and_self, gd_true, Option.bind_some]
  · rw [goL_unit]
    simp only [decide_true, Bool.and_self, gd_true, Option.bind_some]
    refine bind_list p.2.1 (fun (_ : Unit) i => (p.2.2, p.1, p.2.1.take i, (i : Int))) (fun _ _ => .inl ()) (fun _ => (p.2.2, p.1, p.2.1)) (fun _ _ => True) () h2 rfl trivial ?_ ?_ ?_
    · intro i x _ hi hx _
      refine ⟨?_, fun _ _ => trivial⟩
      have hl := len_take (l := p.2.1) (i := i) (by omega)
      have hl' := len_take (l := p.2.1) (i := i + 1) (by omega)
      simp (disch := omega) only [cd_pos, gd_dec, w64_in, Int.toNat_natCast, getD_some hx, peta, take_snoc hx, hl, hl', decide_true, Bool.and_self, gd_true, Option.bind_some]
      rfl
    · intro _ _
      simp (disch := omega) only [cd_neg, List.take_length, decide_true, Bool.and_self, gd_true, Option.bind_some]
    · rw [goL_unit]
      simp only [take_all, Nat.zero_add, Nat.le_refl, decide_true, Bool.and_self, gd_true]
def roomP (p : Pln) (t : List Int) : Nat := p.1.length + p.2.1.length + t.length + 4000
structure TabW (low high : List Int) (E : List Edg) (f : List Int) : Prop where
  len : f.length = low.length
  lo : LeF low.length (fL low) (fL f)
  hi : LeF low.length (fL f) (fL high)
  sol : SolF E (fL f)
theorem SolF.app {E E' : List Edg} {f : Nat → Int} : SolF (E ++ E') f ↔ SolF E f ∧ SolF E' f := by
  unfold SolF
  simp only [List.mem_append]
  exact ⟨fun h => ⟨fun e he => h e (.inl he), fun e he => h e (.inr he)⟩, fun h e he => he.elim (h.1 e) (h.2 e)⟩
theorem SolF.one {e : Edg} {f : Nat → Int} : SolF [e] f ↔ f e.1.toNat + e.2.2 ≤ f e.2.1.toNat := by
  unfold SolF
  simp
def e1 (p : Pln) (r : Rul) : Edg := (r.2.1, r.2.2.1, (rq p r.2.1).2.1 + r.2.2.2)
def e2 (p : Pln) (r : Rul) : Edg := (r.2.2.1, r.2.1, (rq p r.2.2.1).2.1 + r.2.2.2)
def RulP (p : Pln) (r : Rul) : Prop := RulOk p r ∧ isP r = true
theorem hold_or {p : Pln} {t : List Int} {r : Rul} (h : RulP p r) : holdS p t r = true ↔ SolF [e1 p r] (fL t) ∨ SolF [e2 p r] (fL t) := by
  obtain ⟨h1, h2⟩ := h
  unfold isP at h2
  have a1 : ¬ strEq r.1 kW = true := by intro e; simp [e] at h2
  have a2 : ¬ strEq r.1 kO = true := by intro e; simp [e] at h2
  unfold holdS
  rw [if_neg a1, if_neg a2, SolF.one, SolF.one, Bool.or_eq_true]
  unfold befS
  simp only [decide_eq_true_eq, e1, e2, tq, fL]
  constructor
  · rintro (h | h)
    · left; omega
    · right; omega
  · rintro (h | h)
    · left; omega
    · right; omega
structure SolS (p : Pln) (low high : List Int) (A : List Rul) (E : List Edg) (f : List Int) : Prop where
  tab : TabW low high E f
  rul : ∀ r ∈ A, holdS p f r = true
theorem SolS.less {p : Pln} {low high : List Int} {A : List Rul} {E : List Edg} {e : Edg} {f : List Int} (h : SolS p low high A (E ++ [e]) f) : SolS p low high A E f :=
  ⟨⟨h.tab.len, h.tab.lo, h.tab.hi, (SolF.app.1 h.tab.sol).1⟩, h.rul⟩
theorem SolS.more {p : Pln} {low high : List Int} {A : List Rul} {E : List Edg} {f : List Int} (h : SolS p low high A E f) {r : Rul} (hr : r ∈ A) (hp : RulP p r) : SolS p low high A (E ++ [e1 p r]) f ∨ SolS p low high A (E ++ [e2 p r]) f := by
  rcases (hold_or hp).1 (h.rul r hr) with h1 | h1
  · exact .inl ⟨⟨h.tab.len, h.tab.lo, h.tab.hi, SolF.app.2 ⟨h.tab.sol, h1⟩⟩, h.rul⟩
  · exact .inr ⟨⟨h.tab.len, h.tab.lo, h.tab.hi, SolF.app.2 ⟨h.tab.sol, h1⟩⟩, h.rul⟩
def delRen : Shelf.Ren := ⟨fun x => match x with | 23 => 84 | y => y, fun x => match x with | 22 => 49 | y => y, fun x => x⟩
theorem layDel : Proofs.Lays2.n23 cx.P delRen := {
  mixed := by kernel_rfl
  f23 := by kernel_rfl
  t0 := by kernel_rfl
  a0 := fun w => by kernel_rfl
  z0 := fun w => by kernel_rfl
  v0 := fun w => by kernel_rfl
  t3 := by kernel_rfl
  a3 := fun w => by kernel_rfl
  z3 := fun w => by kernel_rfl
  v3 := fun w => by kernel_rfl
  t4 := by kernel_rfl
  a4 := fun w => by kernel_rfl
  z4 := fun w => by kernel_rfl
  v4 := fun w => by kernel_rfl
  t22 := by kernel_rfl
  a22 := fun w => by kernel_rfl
  z22 := fun w => by kernel_rfl
  v22 := fun w => by kernel_rfl
  i3 := by kernel_rfl }
theorem del84_ok : SmOk cx 84 delSm := delSm_ok (ρ0 := delRen) (g := 84) rfl ⟨f84, by kernel_rfl⟩ layDel
end Go.Proofs.Tryz

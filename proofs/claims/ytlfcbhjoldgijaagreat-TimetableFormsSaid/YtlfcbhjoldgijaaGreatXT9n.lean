/- Plain law: what the bounds and the edges of some conditions are; the latest beginnings. Plain law: tables checked, ends, in the program and in the reference. Plain law: short plans. Plain law: the days of athletes. Plain law: days and rests, in the program and in the reference. Plain law: windows and chains, in the program. Plain law: windows and chains, in the reference; both are the same. Plain law: the windows of the program are those of the reference. Plain law: the reference's copy of a plan. slices.Delete in this program is the library's. -/
import Derived.Test.YtlfcbhjoldgijaaGreatXT9c
import Derived.Test.YtlfcbhjoldgijaaGreatXSxQh
import Derived.Test.YtlfcbhjoldgijaaGreatXTtCx
import Derived.Test.YtlfcbhjoldgijaaGreatXSxQj
section
set_option maxRecDepth 100000
set_option linter.unusedVariables false
set_option linter.unusedSimpArgs false
namespace Go.Proofs.Tryz
open Go Go.Sx
def InL (b : Int) (t : List Int) : Prop := ∀ x ∈ t, -b ≤ x ∧ x ≤ 4398046511104
theorem InL.at {b : Int} {t : List Int} (h : InL b t) {i : Nat} (hi : i < t.length) : -b ≤ t.getD i 0 ∧ t.getD i 0 ≤ 4398046511104 := h _ (getD_mem hi)
end Go.Proofs.Tryz
end
section
set_option maxRecDepth 100000
set_option linter.unusedVariables false
set_option linter.unusedSimpArgs false
namespace Go.Proofs.Tryz
open Go Go.Sx
theorem gd_bool {x : Bool} {X : Type} (r : Option X) : gd (AEls.eqv (ATy.val Ty.bool :: nilT ATy) x x) r = r := gd_args _ _ _
theorem condS_get {p : Pln} {i : Nat} {r : Rul} (hr : (rulesS p)[i]? = some r) : (condS p)[i]? = some (r.1, r.2.1, r.2.2.1) := by
  unfold condS
  rw [List.getElem?_map, hr]
  rfl
theorem condS_len (p : Pln) : (condS p).length = (rulesS p).length := by unfold condS; rw [List.length_map]
theorem or_cond {a b : Prop} [Decidable a] [Decidable b] : (bif decide a then some true else some (decide b)) = some (decide a || decide b) := by
  by_cases h : a <;> simp [h]
theorem l81 {F : Nat} (hF : 3000 ≤ F) {p : Pln} {t : List Int} (h : PV p) (ht : TOk p t) {i : Nat} {r : Rul} (hr : (rulesS p)[i]? = some r) : c81 F (p, t, (i : Int)) = some (holdS p t r) := by
  have hc := condS_get hr
  have hcl := condS_len p
  have hil := (List.getElem?_eq_some_iff.1 hr).1
  have hl := rulesS_len h.sh.1 h.sh.2.1
  obtain ⟨hk, ha, hb, hg, _, _⟩ := h.rul hr
  obtain ⟨g1, g2, g3⟩ := rul_gap hr
  obtain ⟨k, a, b, g⟩ := r
  simp only at hk ha hb hg g1 g2 g3 hc
  unfold c81 holdS
  simp only [eW, eO, eA, eF, eT]
  have e1 := ht.at ha.1 ha.2
  have e2 := ht.at hb.1 hb.2
  have e3 := h.at ha.1 ha.2
  have e4 := (h.at hb.1 hb.2).1
  have e5 := h.rest
  have hlen := ht.len
  simp only [tq, rq, r0] at e1 e2 e3 e4
  simp (disch := omega) only [peta, l37 (show 400 ≤ F by omega) h.sh, Option.bind_some, gd_dec, Int.toNat_natCast, getD_some hc]
  rcases hk with rfl | rfl | rfl | rfl | rfl
  · simp only [sWW, cond_true, if_true, winS, tq, rq, r0]
    by_cases h5 : (p.1.getD a.toNat (ByteArray.empty, (0 : Int), nilT ByteArray, nilT ByteArray, nilT ByteArray, (0 : Int), (0 : Int))).2.2.2.2.2.1 ≤ t.getD a.toNat 0
    · simp (disch := omega) only [h5, decide_true, cond_true, true_and, Option.bind_some, gd_dec, w64_in, gd_bool]
    · simp (disch := omega) only [h5, decide_false, cond_false, false_and, Option.bind_some, gd_dec, w64_in, gd_bool]
  · obtain ⟨hni, o, ho, hgo⟩ := g1 rfl
    have hol := (List.getElem?_eq_some_iff.1 ho).1
    have en : ((i : Int) - (p.1.length : Int)).toNat = i - p.1.length := by omega
    have hn := h.n1
    subst hgo
    simp (disch := omega) only [sOW, sOO, cond_true, cond_false, if_true, if_false, Bool.false_eq_true, befS, tq, rq, r0, w64_in, en, getD_some ho, gd_dec, Option.bind_some, gd_bool]
  · obtain rfl := g3 (.inl rfl)
    simp (disch := omega) only [sAW, sAO, sAT, cond_true, cond_false, if_true, if_false, Bool.false_eq_true, befS, tq, rq, r0, w64_in, gd_dec, Option.bind_some, or_cond, gd_bool]
  · obtain rfl := g3 (.inr rfl)
    simp (disch := omega) only [sFW, sFO, sFT, cond_true, cond_false, if_true, if_false, Bool.false_eq_true, befS, tq, rq, r0, w64_in, gd_dec, Option.bind_some, or_cond, gd_bool]
  · obtain rfl := g2 rfl
    simp (disch := omega) only [sTW, sTO, sTT, cond_true, cond_false, if_true, if_false, Bool.false_eq_true, befS, tq, rq, r0, w64_in, gd_dec, Option.bind_some, or_cond, gd_bool]
theorem l33 {F : Nat} (hF : 3000 ≤ F) {p : Pln} {t : List Int} (h : PV p) (ht : TOk p t) : c33 F (p, t) = some ((brokS p t).1, if (brokS p t).2 = true then 29 else 0) := by
  unfold c33
  have hl := rulesS_len h.sh.1 h.sh.2.1
  have hcl := condS_len p
  simp only [peta, l37 (show 400 ≤ F by omega) h.sh, Option.bind_some]
  refine bind_list (rulesS p) (fun (_ : Nat) i => (i : Int)) (fun r (s : Nat) => if (!holdS p t r) = true then .inr (.inl ((s : Int), 29)) else .inl (s + 1)) (fun _ => .inr ()) (fun i s => s = i) 0 (by omega) rfl rfl ?_ ?_ ?_
  · intro i r s hi hr hs
    subst hs
    simp (disch := omega) only [cd_pos, w64_in, l81 hF h ht hr, Option.bind_some]
    cases holdS p t r <;> simp
  · intro s hs
    simp (disch := omega) only [cd_neg]
  · rw [goL_find (fun r => !holdS p t r) (fun s => (Sum.inl ((s : Int), (29 : Int)) : Int × Int ⊕ Unit)) (Sum.inr ())]
    unfold brokS
    cases (rulesS p).findIdx? fun r => !holdS p t r with
    | none => simp [hcl]
    | some i => simp
def endS (p : Pln) (t : List Int) : Int := goL (fun (x : Rnd × Int) s => .inl (if s < x.2 + x.1.2.1 then x.2 + x.1.2.1 else s)) (fun s => s) (p.1.zip t) 0
theorem zip_get {α β : Type} {l : List α} {m : List β} {i : Nat} {x : α × β} (h : (l.zip m)[i]? = some x) : l[i]? = some x.1 ∧ m[i]? = some x.2 := by
  rw [List.getElem?_zip_eq_some] at h
  exact h
theorem l68 {F : Nat} (hF : 400 ≤ F) {p : Pln} {t : List Int} (h : PV p) (ht : TOk p t) : c68 F (p, t) = some (endS p t) := by
  unfold c68 endS
  have hz : (p.1.zip t).length = p.1.length := by rw [List.length_zip, ht.len]; omega
  have hn := h.n1
  have hl := ht.len
  refine bind_list (p.1.zip t) (fun (s : Int) i => (s, (i : Int))) (fun (x : Rnd × Int) s => .inl (if s < x.2 + x.1.2.1 then x.2 + x.1.2.1 else s)) (fun s => s) (fun _ _ => True) 0 (by omega) rfl trivial ?_ ?_ ?_
  · intro i x s hi hx _
    refine ⟨?_, fun _ _ => trivial⟩
    obtain ⟨hx1, hx2⟩ := zip_get hx
    have b1 := (h.rnd _ (List.mem_of_getElem? hx1)).1
    have b2 := ht.rng _ (List.mem_of_getElem? hx2)
    simp (disch := omega) only [cd_pos, gd_dec, w64_in, Int.toNat_natCast, getD_some hx1, getD_some hx2]
    rfl
  · intro s _
    rw [hz]
    simp (disch := omega) only [cd_neg]
  · rfl
theorem l34 {F : Nat} (hF : 400 ≤ F) {p : Pln} {t : List Int} (h : PV p) (ht : TOk p t) : c34 F (p, t) = some (endS p t) := by
  unfold c34 endS
  have hz : (p.1.zip t).length = p.1.length := by rw [List.length_zip, ht.len]; omega
  have hn := h.n1
  have hl := ht.len
  refine bind_list (p.1.zip t) (fun (s : Int) i => (s, (i : Int))) (fun (x : Rnd × Int) s => .inl (if s < x.2 + x.1.2.1 then x.2 + x.1.2.1 else s)) (fun s => s) (fun _ _ => True) 0 (by omega) rfl trivial ?_ ?_ ?_
  · intro i x s hi hx _
    refine ⟨?_, fun _ _ => trivial⟩
    obtain ⟨hx1, hx2⟩ := zip_get hx
    have b1 := (h.rnd _ (List.mem_of_getElem? hx1)).1
    have b2 := ht.rng _ (List.mem_of_getElem? hx2)
    simp (disch := omega) only [cd_pos, gd_dec, w64_in, Int.toNat_natCast, getD_some hx1, getD_some hx2]
    rfl
  · intro s _
    rw [hz]
    simp (disch := omega) only [cd_neg]
  · rfl
def formE (p : Pln) (t : List Int) : Int := if t.length ≠ p.1.length then 2 else if (t.any fun n => decide (n < 0 ∨ 999999999 < n)) = true then 3 else 0
theorem l32 {F : Nat} (hF : 400 ≤ F) {p : Pln} {t : List Int} (hn : p.1.length ≤ 26) (hl : t.length ≤ 300) : c32 F (p, t) = some (formE p t) := by
  unfold c32 formE
  by_cases h0 : t.length = p.1.length
  · have : (t.length : Int) = p.1.length := by omega
    simp only [h0, decide_true, Bool.not_true, cond_false, ne_eq, not_true_eq_false, if_false]
    refine bind_any t (fun n => decide (n < 0 ∨ 999999999 < n)) (.inl 3) (.inr ()) (by omega) ?_ ?_ ?_
    · intro i x hi hx
      simp (disch := omega) only [cd_pos, gd_dec, w64_in, Int.toNat_natCast, getD_some hx, l71, Option.bind_some]
      by_cases h1 : x < 0 ∨ 999999999 < x <;> simp [h1]
    · simp (disch := omega) only [cd_neg]
    · cases t.any fun n => decide (n < 0 ∨ 999999999 < n) <;> simp
  · have : ¬ (t.length : Int) = p.1.length := by omega
    simp [h0, this]
def soundE (p : Pln) (t : List Int) : Int := if planE p = 0 then formE p t else planE p
theorem l42 {F : Nat} (hF : 400 ≤ F) {p : Pln} {t : List Int} (h : PShort p) (hl : t.length ≤ 300) : c42 F (p, t) = some (soundE p t) := by
  unfold c42 soundE
  simp only [peta, l19 hF h.sm, Option.bind_some, l32 hF h.1 hl]
  by_cases h0 : planE p = 0 <;> simp [h0]
theorem l96 {F : Nat} (hF : 400 ≤ F) {p : Pln} {t : List Int} (h : PShort p) (hl : t.length ≤ 300) : c96 F (p, t) = some (soundE p t) := by
  unfold c96 cx129_0 cx150_0
  rw [idx_loop t (fun n => decide (n < 0 ∨ 999999999 < n)) (by omega) ?_ ?_]
  · simp only [peta, Option.bind_some, idxS_any, l51 hF h.sm, l88, l102 (F := F) (l := _ :: _ :: _ :: nilT Int) (by simp [nilT]; omega) (by simp [nilT])]
    unfold soundE formE
    simp only [firstNZ_cons, firstNZ_nil]
    by_cases h0 : planE p = 0
    · by_cases h1 : t.length = p.1.length
      · have : (t.length : Int) = p.1.length := by omega
        simp only [h0, h1, decide_true, Bool.not_true, Bool.false_eq_true, if_false, if_true, ne_eq, not_true_eq_false]
        cases t.any fun n => decide (n < 0 ∨ 999999999 < n) <;> simp
      · have : ¬ (t.length : Int) = p.1.length := by omega
        simp [h0, h1, this]
    · simp [h0]
  · intro i x hi hx
    have e : c130 F x = some (decide (x < 0 ∨ 999999999 < x)) := by
      unfold c130
      by_cases h1 : x < 0 <;> by_cases h2 : 999999999 < x <;> simp [h1, h2]
    simp (disch := omega) only [cd_pos, gd_dec, w64_in, Int.toNat_natCast, getD_some hx, e, Option.bind_some]
    by_cases h1 : x < 0 ∨ 999999999 < x <;> simp [h1]
  · simp (disch := omega) only [cd_neg]
theorem TOk.of {p : Pln} {t : List Int} (h : formE p t = 0) : TOk p t ∧ ∀ x ∈ t, 0 ≤ x ∧ x ≤ 999999999 := by
  unfold formE at h
  by_cases h0 : t.length = p.1.length
  · simp only [h0, ne_eq, not_true_eq_false, if_false] at h
    have h1 : (t.any fun n => decide (n < 0 ∨ 999999999 < n)) = false := by
      cases e : t.any fun n => decide (n < 0 ∨ 999999999 < n) with
      | false => rfl
      | true => rw [e] at h; cases h
    rw [List.any_eq_false] at h1
    have h2 : ∀ x ∈ t, 0 ≤ x ∧ x ≤ 999999999 := fun x hx => by
      have := h1 x hx
      simp only [decide_eq_true_eq] at this
      omega
    exact ⟨⟨h0, fun x hx => by have := h2 x hx; omega⟩, h2⟩
  · rw [if_pos h0] at h
    cases h
theorem soundE_zero {p : Pln} {t : List Int} (h : soundE p t = 0) : planE p = 0 ∧ formE p t = 0 := by
  unfold soundE at h
  by_cases h0 : planE p = 0
  · rw [if_pos h0] at h; exact ⟨h0, h⟩
  · rw [if_neg h0] at h; exact absurd h h0
theorem l52 {F : Nat} (hF : 3000 ≤ F) {p : Pln} {t : List Int} (h : PShort p) (hl : t.length ≤ 300) : c52 F (p, t) = some (if soundE p t = 0 then ((brokS p t).1, if (brokS p t).2 = true then 29 else 0) else (0, soundE p t)) := by
  unfold c52
  simp only [peta, l96 (show 400 ≤ F by omega) h hl, Option.bind_some]
  by_cases h0 : soundE p t = 0
  · obtain ⟨h1, h2⟩ := soundE_zero h0
    simp only [h0, decide_true, Bool.not_true, cond_false, if_true, l97 hF (PV.of h h1) (TOk.of h2).1, l88, Option.bind_some]
  · simp [h0]
theorem l53 {F : Nat} (hF : 3000 ≤ F) {p : Pln} {t : List Int} (h : PShort p) (hl : t.length ≤ 300) : c53 F (p, t) = some (if soundE p t = 0 then (endS p t, 0) else (0, soundE p t)) := by
  unfold c53
  simp only [peta, l96 (show 400 ≤ F by omega) h hl, Option.bind_some]
  by_cases h0 : soundE p t = 0
  · obtain ⟨h1, h2⟩ := soundE_zero h0
    simp only [h0, decide_true, Bool.not_true, cond_false, if_true, l68 (show 400 ≤ F by omega) (PV.of h h1) (TOk.of h2).1, Option.bind_some]
  · simp [h0]
theorem l50 {F : Nat} (hF : 3000 ≤ F) {p : Pln} (h : PShort p) : c50 F p = some (if planE p = 0 then (condS p, 0) else (nilT (ByteArray × Int × Int), planE p)) := by
  unfold c50
  have hl := rulesS_len h.1 h.2.1
  simp only [peta, l51 (show 400 ≤ F by omega) h.sm, l65 (show 400 ≤ F by omega) h, Option.bind_some]
  by_cases h0 : planE p = 0
  · simp only [h0, decide_true, Bool.not_true, cond_false, if_true]
    refine bind_list (rulesS p) (fun (s : List (ByteArray × Int × Int)) i => (s, (i : Int))) (fun r s => .inl (s ++ [(r.1, r.2.1, r.2.2.1)])) (fun s => s) (fun i s => s.length = i) [] (by omega) rfl rfl ?_ ?_ ?_
    · intro i r s hi hr hs
      simp (disch := omega) only [cd_pos, gd_dec, w64_in, Int.toNat_natCast, getD_some hr, len_snoc, decide_true, Bool.and_self, gd_true, Option.bind_some]
      refine ⟨rfl, ?_⟩
      intro s' hs'
      injection hs' with hs'
      rw [← hs']
      simp [hs]
    · intro s hs
      simp (disch := omega) only [cd_neg, decide_true, Bool.and_self, gd_true, Option.bind_some]
    · rw [goL_append (fun r : Rul => (r.1, r.2.1, r.2.2.1))]
      simp only [List.nil_append, take_all, Nat.zero_add, Nat.le_refl, decide_true, Bool.and_self, gd_true]
      rfl
  · simp [h0]
end Go.Proofs.Tryz
end
section
set_option maxRecDepth 100000
set_option linter.unusedVariables false
set_option linter.unusedSimpArgs false
namespace Go.Proofs.Tryz
open Go Go.Sx
def BrOk (l : List ByteArray) : Prop := l.length ≤ 162 ∧ ∀ s ∈ l, s.size ≤ 40
theorem l62 {F : Nat} (hF : 400 ≤ F) {l : List ByteArray} : ∃ b, c62 F l = some b ∧ (b = true → BrOk l) := by
  unfold c62
  have e : (bif decide (8 < (l.length : Int)) then bif decide ((l.length : Int) ≤ 160) then some true else some (decide (162 < (l.length : Int))) else some (decide (162 < (l.length : Int)))) = some (decide (¬ (l.length ≤ 162 ∧ (l.length ≤ 8 ∨ 160 < l.length)))) := by
    by_cases a1 : 8 < (l.length : Int)
    · by_cases a2 : (l.length : Int) ≤ 160
      · simp only [a1, a2, decide_true, cond_true, Option.some.injEq]
        exact (decide_eq_true (by omega)).symm
      · simp only [a1, a2, decide_true, cond_true, decide_false, cond_false, Option.some.injEq, decide_eq_decide]
        omega
    · simp only [a1, decide_false, cond_false, Option.some.injEq, decide_eq_decide]
      omega
  rw [e]
  by_cases hg : l.length ≤ 162 ∧ (l.length ≤ 8 ∨ 160 < l.length)
  · simp only [hg, not_true_eq_false, decide_false, Option.bind_some, cond_false]
    refine bind_all l (fun x => x.size ≤ 40) (fun b : Bool ⊕ Unit => b = .inl false ∨ (b = .inr () ∧ ∀ x ∈ l, x.size ≤ 40)) (by omega) ?_ ?_ ?_
    · intro i x hi hx
      simp (disch := omega) only [cd_pos, gd_dec, Int.toNat_natCast, getD_some hx, w64_in]
      by_cases a1 : (40 : Int) < x.size
      · exact ⟨_, by simp [a1], .inr ⟨_, rfl, .inl rfl⟩⟩
      · exact ⟨_, by simp [a1], .inl ⟨rfl, by omega⟩⟩
    · intro hgood
      simp (disch := omega) only [cd_neg]
      exact ⟨_, rfl, .inr ⟨rfl, hgood⟩⟩
    · intro b hb
      rcases hb with rfl | ⟨rfl, h2⟩
      · exact ⟨false, rfl, by simp⟩
      · exact ⟨true, rfl, fun _ => ⟨hg.1, h2⟩⟩
  · simp only [hg, not_false_eq_true, decide_true, Option.bind_some, cond_true]
    exact ⟨false, rfl, by simp⟩
def RShort (x : Rnd) : Prop := x.1.size ≤ 40 ∧ BrOk x.2.2.1 ∧ BrOk x.2.2.2.1 ∧ BrOk x.2.2.2.2.1
theorem l16 {F : Nat} (hF : 400 ≤ F) {p : Pln} : ∃ b, c16 F p = some b ∧ (b = true → PShort p) := by
  unfold c16
  by_cases h1 : (26 : Int) < p.1.length
  · exact ⟨false, by simp [h1], by simp⟩
  · by_cases h2 : (28 : Int) < p.2.1.length
    · exact ⟨false, by simp [h1, h2], by simp⟩
    · simp only [h1, h2, decide_false, cond_false, Option.bind_some]
      refine bind_all p.1 RShort (fun b : Bool ⊕ Unit => b = .inl false ∨ (b = .inr () ∧ ∀ x ∈ p.1, RShort x)) (by omega) ?_ ?_ ?_
      · intro i x hi hx
        obtain ⟨b1, e1, q1⟩ := l62 hF (l := x.2.2.1)
        obtain ⟨b2, e2, q2⟩ := l62 hF (l := x.2.2.2.1)
        obtain ⟨b3, e3, q3⟩ := l62 hF (l := x.2.2.2.2.1)
        simp (disch := omega) only [cd_pos, gd_dec, Int.toNat_natCast, getD_some hx, w64_in, e1, e2, e3, Option.bind_some]
        by_cases a1 : (40 : Int) < x.1.size
        · exact ⟨_, by simp [a1], .inr ⟨_, rfl, .inl rfl⟩⟩
        · cases b1 with
          | false => exact ⟨_, by simp [a1], .inr ⟨_, rfl, .inl rfl⟩⟩
          | true => cases b2 with
            | false => exact ⟨_, by simp [a1], .inr ⟨_, rfl, .inl rfl⟩⟩
            | true => cases b3 with
              | false => exact ⟨_, by simp [a1], .inr ⟨_, rfl, .inl rfl⟩⟩
              | true => exact ⟨_, by simp [a1], .inl ⟨rfl, by omega, q1 rfl, q2 rfl, q3 rfl⟩⟩
      · intro hgood
        simp (disch := omega) only [cd_neg]
        exact ⟨_, rfl, .inr ⟨rfl, hgood⟩⟩
      · intro b hb
        rcases hb with rfl | ⟨rfl, h3⟩
        · exact ⟨false, rfl, by simp⟩
        · refine ⟨true, rfl, fun _ => ⟨by omega, by omega, fun x hx => ?_⟩⟩
          obtain ⟨c0, c1, c2, c3⟩ := h3 x hx
          refine ⟨c0, fun l hl => ?_⟩
          rcases hl with rfl | rfl | rfl
          · exact c1
          · exact c2
          · exact c3
end Go.Proofs.Tryz
end
section
set_option maxRecDepth 100000
set_option linter.unusedVariables false
set_option linter.unusedSimpArgs false
namespace Go.Proofs.Tryz
open Go Go.Sx
end Go.Proofs.Tryz
end
section
set_option maxRecDepth 100000
set_option linter.unusedVariables false
set_option linter.unusedSimpArgs false
namespace Go.Proofs.Tryz
open Go Go.Sx
end Go.Proofs.Tryz
end
section
set_option maxRecDepth 100000
set_option linter.unusedVariables false
set_option linter.unusedSimpArgs false
namespace Go.Proofs.Tryz
open Go Go.Sx
end Go.Proofs.Tryz
end
section
set_option maxRecDepth 100000
set_option linter.unusedVariables false
set_option linter.unusedSimpArgs false
namespace Go.Proofs.Tryz
open Go Go.Sx
end Go.Proofs.Tryz
end
section
set_option maxRecDepth 100000
set_option linter.unusedVariables false
set_option linter.unusedSimpArgs false
namespace Go.Proofs.Tryz
open Go Go.Sx
end Go.Proofs.Tryz
end
section
set_option maxRecDepth 100000
set_option linter.unusedVariables false
set_option linter.unusedSimpArgs false
namespace Go.Proofs.Tryz
open Go Go.Sx
theorem l14 {F : Nat} {p : Pln} (h1 : p.1.length < F) (h2 : p.2.1.length < F) (hb1 : p.1.length * 112 ≤ 140737488351232) (hb2 : p.2.1.length * 24 ≤ 140737488351232) : c14 F p = some p := by
  unfold c14
  refine bind_list p.1 (fun (_ : Unit) i => (p.2.2, p.1.take i, (i : Int))) (fun _ _ => .inl ()) (fun _ => (p.2.2, p.1)) (fun _ _ => True) () h1 rfl trivial ?_ ?_ ?_
  · intro i x _ hi hx _
    refine ⟨?_, fun _ _ => trivial⟩
    have hl := len_take (l := p.1) (i := i) (by omega)
    have hl' := len_take (l := p.1) (i := i + 1) (by omega)
    simp (disch := omega) only [cd_pos, gd_dec, w64_in, Int.toNat_natCast, getD_some hx, peta, take_snoc hx, hl, hl', decide_true, Bool.and_self, gd_true, Option.bind_some]
    rfl
  · intro _ _
    simp (disch := omega) only [cd_neg, List.take_length, decide_true, Bool.and_self, gd_true, Option.bind_some]
  · rw [goL_unit]
    simp only [decide_true, Bool.and_self, gd_true, Option.bind_some]
    refine bind_list p.2.1 (fun (_ : Unit) i => (p.2.2, p.1, p.2.1.take i, (i : Int))) (fun _ _ => .inl ()) (fun _ => (p.2.2, p.1, p.2.1)) (fun _ _ => True) () h2 rfl trivial ?_ ?_ ?_
    · intro i x _ hi hx _
      refine ⟨?_, fun _ _ => trivial⟩
      have hl := len_take (l := p.2.1) (i := i) (by omega)
      have hl' := len_take (l := p.2.1) (i := i + 1) (by omega)
      simp (disch := omega) only [cd_pos, gd_dec, w64_in, Int.toNat_natCast, getD_some hx, peta, take_snoc hx, hl, hl', decide_true, Bool.and_self, gd_true, Option.bind_some]
      rfl
    · intro _ _
      simp (disch := omega) only [cd_neg, List.take_length, decide_true, Bool.and_self, gd_true, Option.bind_some]
    · rw [goL_unit]
      simp only [take_all, Nat.zero_add, Nat.le_refl, decide_true, Bool.and_self, gd_true]
def roomP (p : Pln) (t : List Int) : Nat := p.1.length + p.2.1.length + t.length + 4000
end Go.Proofs.Tryz
end
section
set_option maxRecDepth 100000
namespace Go.Proofs.Tryz
open Go Go.Sx
def delRen : Shelf.Ren := ⟨fun x => match x with | 23 => 84 | y => y, fun x => match x with | 22 => 49 | y => y, fun x => x⟩
theorem layDel : Proofs.Lays2.n23 cx.P delRen := {
  mixed := by kernel_rfl
  f23 := by kernel_rfl
  t0 := by kernel_rfl
  a0 := fun w => by kernel_rfl
  z0 := fun w => by kernel_rfl
  v0 := fun w => by kernel_rfl
  t3 := by kernel_rfl
  a3 := fun w => by kernel_rfl
  z3 := fun w => by kernel_rfl
  v3 := fun w => by kernel_rfl
  t4 := by kernel_rfl
  a4 := fun w => by kernel_rfl
  z4 := fun w => by kernel_rfl
  v4 := fun w => by kernel_rfl
  t22 := by kernel_rfl
  a22 := fun w => by kernel_rfl
  z22 := fun w => by kernel_rfl
  v22 := fun w => by kernel_rfl
  i3 := by kernel_rfl }
theorem del84_ok : SmOk cx 84 delSm := delSm_ok (ρ0 := delRen) (g := 84) rfl ⟨f84, by kernel_rfl⟩ layDel
end Go.Proofs.Tryz
end

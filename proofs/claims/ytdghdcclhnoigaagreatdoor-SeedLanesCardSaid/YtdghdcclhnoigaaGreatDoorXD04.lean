/- Plain law: the drawn order, in the program and in the reference. -/
import Derived.Test.YtdghdcclhnoigaaGreatDoorXP8
import Derived.Test.YtdghdcclhnoigaaGreatDoorXSxPn
set_option maxRecDepth 100000
set_option linter.unusedVariables false
set_option linter.unusedSimpArgs false
namespace Go.Proofs.Tryz
open Go Go.Sx
def ids (n : Nat) : List Int := (List.range n).map fun (i : Nat) => (i : Int)
theorem ids_length (n : Nat) : (ids n).length = n := by simp [ids]
theorem mem_ids {n : Nat} {x : Int} : x ∈ ids n ↔ 0 ≤ x ∧ x < n := by
  simp only [ids, List.mem_map, List.mem_range]
  exact ⟨fun ⟨a, h, e⟩ => by omega, fun ⟨h, k⟩ => ⟨x.toNat, by omega, by omega⟩⟩
theorem set_ids {n i : Nat} (h : i < n) : (ids i ++ List.replicate (n - i) (0 : Int)).set i (i : Int) = ids (i + 1) ++ List.replicate (n - (i + 1)) 0 := by
  rw [show n - i = (n - (i + 1)) + 1 by omega, List.replicate_succ, List.set_append_right _ _ (by rw [ids_length]; omega)]
  simp [ids, List.range_succ]
def drawB (_ : Unit) (s : List Int × Int × Int) : (List Int × Int × Int) ⊕ List Int :=
  .inl ((s.1.set s.2.2.toNat (s.1.getD (Int.tmod (Int.tmod (69621 * s.2.1) 2147483647) (s.2.2 + 1)).toNat 0)).set (Int.tmod (Int.tmod (69621 * s.2.1) 2147483647) (s.2.2 + 1)).toNat (s.1.getD s.2.2.toNat 0),
    Int.tmod (69621 * s.2.1) 2147483647, s.2.2 - 1)
def drawS (key : Int) (n : Nat) : List Int := goL drawB (fun s => s.1) (List.replicate (n - 1) ()) (ids n, key, (n : Int) - 1)
def DrawI (n i : Nat) (s : List Int × Int × Int) : Prop := s.1.length = n ∧ 0 ≤ s.2.1 ∧ s.2.1 < 2147483647 ∧ s.2.2 = (n : Int) - 1 - i
theorem drawB_inv {n i : Nat} {s s' : List Int × Int × Int} (hi : i < n - 1) (h : DrawI n i s) (hs : drawB () s = .inl s') : DrawI n (i + 1) s' := by
  obtain ⟨h1, h2, h3, h4⟩ := h
  cases hs
  refine ⟨by simp [h1], Int.tmod_nonneg _ (by omega), Int.tmod_lt_of_pos _ (by omega), by simp only; omega⟩
theorem drawS_perm {key : Int} (h1 : 0 ≤ key) (h2 : key < 2147483647) (n : Nat) : (drawS key n).Perm (ids n) := by
  have := goL_inv drawB (fun s => s.1) (List.replicate (n - 1) ()) (fun i s => DrawI n i s ∧ s.1.Perm (ids n)) (fun b => b.Perm (ids n))
    (fun i x s hi hx ⟨hI, hp⟩ => by
      simp only [List.length_replicate] at hi
      refine ⟨fun s' hs => ⟨drawB_inv hi hI hs, ?_⟩, fun b hb => by cases hb⟩
      obtain ⟨h1, h2, h3, h4⟩ := hI
      cases hs
      have k1 : 0 ≤ Int.tmod (69621 * s.2.1) 2147483647 := Int.tmod_nonneg _ (by omega)
      have m1 : 0 ≤ Int.tmod (Int.tmod (69621 * s.2.1) 2147483647) (s.2.2 + 1) := Int.tmod_nonneg _ k1
      have m2 : Int.tmod (Int.tmod (69621 * s.2.1) 2147483647) (s.2.2 + 1) < s.2.2 + 1 := Int.tmod_lt_of_pos _ (by omega)
      simp only
      generalize Int.tmod (Int.tmod (69621 * s.2.1) 2147483647) (s.2.2 + 1) = q at m1 m2
      have a1 : s.2.2.toNat < s.1.length := by omega
      have a2 : q.toNat < s.1.length := by omega
      have e1 : s.1.getD s.2.2.toNat 0 = s.1[s.2.2.toNat] := by simp [List.getD, List.getElem?_eq_getElem a1]
      have e2 : s.1.getD q.toNat 0 = s.1[q.toNat] := by simp [List.getD, List.getElem?_eq_getElem a2]
      rw [e1, e2]
      exact (List.set_set_perm a1 a2).trans hp)
    (fun s ⟨_, hp⟩ => hp) (n - 1) 0 (ids n, key, (n : Int) - 1) (by simp) (by simp) ⟨⟨ids_length n, h1, h2, by simp⟩, .refl _⟩
  exact this
theorem l59 {F : Nat} (hF : 400 ≤ F) {key : Int} {n : Nat} (h1 : 1 ≤ key) (h2 : key < 2147483647) (hn : n ≤ 256) : c59 F (key, (n : Int)) = some (drawS key n) := by
  have hlen : (drawS key n).length = n := by rw [(drawS_perm (by omega) h2 n).length_eq, ids_length]
  unfold c59
  simp (disch := omega) only [gd_dec, Int.toNat_natCast]
  refine bind_list (List.replicate n ()) (fun (_ : Unit) i => (ids i ++ List.replicate (n - i) (0 : Int), (i : Int))) (fun _ _ => .inl ()) (fun _ => ids n) (fun _ _ => True) () (by simp; omega) (by simp [ids]) trivial ?_ ?_ ?_
  · intro i x s hi hx _
    simp only [List.length_replicate] at hi
    have hl : (ids i ++ List.replicate (n - i) (0 : Int)).length = n := by simp [ids_length]; omega
    refine ⟨?_, fun _ _ => trivial⟩
    simp (disch := omega) only [cd_pos, gd_dec, Nat.zero_add, Int.toNat_natCast, hl, set_ids hi, w64_in]
    simp
  · intro s _
    simp (disch := omega) only [List.length_replicate, cd_neg]
    simp
  · rw [goL_unit]
    refine bind_list (List.replicate (n - 1) ()) (fun s _ => s) drawB (fun s => s.1) (DrawI n) (ids n, key, (n : Int) - 1) (by simp; omega) ?_ ⟨ids_length n, by simp only; omega, h2, by simp⟩ ?_ ?_ ?_
    · rw [w64_in (by omega) (by omega)]
    · intro i x s hi hx hI
      simp only [List.length_replicate] at hi
      refine ⟨?_, fun s' hs => drawB_inv hi hI hs⟩
      obtain ⟨out, key, j⟩ := s
      obtain ⟨h1, h2, h3, h4⟩ := hI
      simp only at h1 h2 h3 h4
      have k1 : 0 ≤ Int.tmod (69621 * key) 2147483647 := Int.tmod_nonneg _ (by omega)
      have m1 : 0 ≤ Int.tmod (Int.tmod (69621 * key) 2147483647) (j + 1) := Int.tmod_nonneg _ k1
      have m2 : Int.tmod (Int.tmod (69621 * key) 2147483647) (j + 1) < j + 1 := Int.tmod_lt_of_pos _ (by omega)
      simp only [drawB]
      simp (disch := omega) only [w64_in, cd_pos]
      generalize Int.tmod (Int.tmod (69621 * key) 2147483647) (j + 1) = q at m1 m2
      simp (disch := omega) only [gd_dec, Nat.zero_add, List.length_set]
    · intro s ⟨h1, h2, h3, h4⟩
      simp only [List.length_replicate] at h4
      simp (disch := omega) only [cd_neg]
    · change gd (decide (0 + n ≤ (drawS key n).length)) (some (List.take n (List.drop 0 (drawS key n)))) = _
      rw [hlen, gd_dec (by omega), List.drop_zero, List.take_of_length_le (by omega)]
end Go.Proofs.Tryz

/- Plain law: runners, their checks and their copies. Plain law: the check of runners, in the program and in the reference. Plain law: the check of runners in the program. The library's stable sort in this program is the general one. Plain law: the drawn order, in the program and in the reference. Functions of the program as functions of data. By program. Plain law of SeedCharts: the numbers of the rounds (under way). -/
import Derived.Test.YtdghdcclhnoigaaGreatDoorXE04
import Derived.Test.YtdghdcclhnoigaaGreatDoorXTryzA
import Derived.Test.YtdghdcclhnoigaaGreatDoorXTryzG
import Derived.Test.YtdghdcclhnoigaaGreatDoorXSxSu
import Derived.Test.YtdghdcclhnoigaaGreatDoorXSxQf
section
set_option maxRecDepth 100000
set_option linter.unusedVariables false
set_option linter.unusedSimpArgs false
namespace Go.Proofs.Tryz
open Go Go.Sx
end Go.Proofs.Tryz
end
section
set_option maxRecDepth 100000
set_option linter.unusedVariables false
set_option linter.unusedSimpArgs false
namespace Go.Proofs.Tryz
open Go Go.Sx
theorem x74 {F : Nat} (hF : 400 ≤ F) {s : ByteArray} (hs : s.size ≤ 300) (m : List (ByteArray × Bool)) : cx74_0 F (s, m) = some (if nameB s = false then (8, m) else if mgetD strEq s m false = true then (9, m) else (0, mput strEq s true m)) := by
  unfold cx74_0
  have q : ∀ (a b : Int), c75 F (a :: b :: nilT Int) = some (if a ≠ 0 then a else b) := by
    intro a b
    rw [l75 (by simp [nilT]; omega) (by simp [nilT])]
    by_cases ha : a = 0 <;> by_cases hb : b = 0 <;> simp [firstNZ, nilT, ha, hb]
  simp only [l77 hF hs, l76, q, Option.bind_some]
  cases nameB s <;> cases mgetD strEq s m false <;> simp
def seenB (a : ByteArray) (s : List ByteArray) : Bool := s.any fun y => strEq y a
end Go.Proofs.Tryz
end
section
set_option maxRecDepth 100000
set_option linter.unusedVariables false
set_option linter.unusedSimpArgs false
namespace Go.Proofs.Tryz
open Go Go.Sx
def SeenS (s : List ByteArray) (m : List (ByteArray × Bool)) : Prop := ∀ k : ByteArray, mgetD strEq k m false = seenB k s
theorem SeenS.put {s : List ByteArray} {m : List (ByteArray × Bool)} (h : SeenS s m) (x : ByteArray) : SeenS (s ++ [x]) (mput strEq x true m) := by
  intro k
  rw [mgetD_mput strEq_iff, h k]
  unfold seenB
  rw [List.any_append]
  by_cases e : k = x
  · subst e; simp [strEq_self]
  · have : x ≠ k := fun h => e h.symm
    simp [strEq_false e, strEq_false this]
end Go.Proofs.Tryz
end
section
set_option maxRecDepth 100000
set_option linter.unusedVariables false
set_option linter.unusedSimpArgs false
namespace Go.Proofs.Tryz
open Go Go.Sx
theorem x123 (F : Nat) (a) : cx123_0 F a = gStab (cx107_0 F) (0 : Int) F a := by kernel_rfl
end Go.Proofs.Tryz
end
section
set_option maxRecDepth 100000
set_option linter.unusedVariables false
set_option linter.unusedSimpArgs false
namespace Go.Proofs.Tryz
open Go Go.Sx
def ids (n : Nat) : List Int := (List.range n).map fun (i : Nat) => (i : Int)
theorem ids_length (n : Nat) : (ids n).length = n := by simp [ids]
theorem mem_ids {n : Nat} {x : Int} : x ∈ ids n ↔ 0 ≤ x ∧ x < n := by
  simp only [ids, List.mem_map, List.mem_range]
  exact ⟨fun ⟨a, h, e⟩ => by omega, fun ⟨h, k⟩ => ⟨x.toNat, by omega, by omega⟩⟩
theorem set_ids {n i : Nat} (h : i < n) : (ids i ++ List.replicate (n - i) (0 : Int)).set i (i : Int) = ids (i + 1) ++ List.replicate (n - (i + 1)) 0 := by
  rw [show n - i = (n - (i + 1)) + 1 by omega, List.replicate_succ, List.set_append_right _ _ (by rw [ids_length]; omega)]
  simp [ids, List.range_succ]
def drawB (_ : Unit) (s : List Int × Int × Int) : (List Int × Int × Int) ⊕ List Int :=
  .inl ((s.1.set s.2.2.toNat (s.1.getD (Int.tmod (Int.tmod (69621 * s.2.1) 2147483647) (s.2.2 + 1)).toNat 0)).set (Int.tmod (Int.tmod (69621 * s.2.1) 2147483647) (s.2.2 + 1)).toNat (s.1.getD s.2.2.toNat 0),
    Int.tmod (69621 * s.2.1) 2147483647, s.2.2 - 1)
def drawS (key : Int) (n : Nat) : List Int := goL drawB (fun s => s.1) (List.replicate (n - 1) ()) (ids n, key, (n : Int) - 1)
def DrawI (n i : Nat) (s : List Int × Int × Int) : Prop := s.1.length = n ∧ 0 ≤ s.2.1 ∧ s.2.1 < 2147483647 ∧ s.2.2 = (n : Int) - 1 - i
theorem drawB_inv {n i : Nat} {s s' : List Int × Int × Int} (hi : i < n - 1) (h : DrawI n i s) (hs : drawB () s = .inl s') : DrawI n (i + 1) s' := by
  obtain ⟨h1, h2, h3, h4⟩ := h
  cases hs
  refine ⟨by simp [h1], Int.tmod_nonneg _ (by omega), Int.tmod_lt_of_pos _ (by omega), by simp only; omega⟩
theorem drawS_perm {key : Int} (h1 : 0 ≤ key) (h2 : key < 2147483647) (n : Nat) : (drawS key n).Perm (ids n) := by
  have := goL_inv drawB (fun s => s.1) (List.replicate (n - 1) ()) (fun i s => DrawI n i s ∧ s.1.Perm (ids n)) (fun b => b.Perm (ids n))
    (fun i x s hi hx ⟨hI, hp⟩ => by
      simp only [List.length_replicate] at hi
      refine ⟨fun s' hs => ⟨drawB_inv hi hI hs, ?_⟩, fun b hb => by cases hb⟩
      obtain ⟨h1, h2, h3, h4⟩ := hI
      cases hs
      have k1 : 0 ≤ Int.tmod (69621 * s.2.1) 2147483647 := Int.tmod_nonneg _ (by omega)
      have m1 : 0 ≤ Int.tmod (Int.tmod (69621 * s.2.1) 2147483647) (s.2.2 + 1) := Int.tmod_nonneg _ k1
      have m2 : Int.tmod (Int.tmod (69621 * s.2.1) 2147483647) (s.2.2 + 1) < s.2.2 + 1 := Int.tmod_lt_of_pos _ (by omega)
      simp only
      generalize Int.tmod (Int.tmod (69621 * s.2.1) 2147483647) (s.2.2 + 1) = q at m1 m2
      have a1 : s.2.2.toNat < s.1.length := by omega
      have a2 : q.toNat < s.1.length := by omega
      have e1 : s.1.getD s.2.2.toNat 0 = s.1[s.2.2.toNat] := by simp [List.getD, List.getElem?_eq_getElem a1]
      have e2 : s.1.getD q.toNat 0 = s.1[q.toNat] := by simp [List.getD, List.getElem?_eq_getElem a2]
      rw [e1, e2]
      exact (List.set_set_perm a1 a2).trans hp)
    (fun s ⟨_, hp⟩ => hp) (n - 1) 0 (ids n, key, (n : Int) - 1) (by simp) (by simp) ⟨⟨ids_length n, h1, h2, by simp⟩, .refl _⟩
  exact this
theorem l59 {F : Nat} (hF : 400 ≤ F) {key : Int} {n : Nat} (h1 : 1 ≤ key) (h2 : key < 2147483647) (hn : n ≤ 256) : c59 F (key, (n : Int)) = some (drawS key n) := by
  have hlen : (drawS key n).length = n := by rw [(drawS_perm (by omega) h2 n).length_eq, ids_length]
  unfold c59
  simp (disch := omega) only [gd_dec, Int.toNat_natCast]
  refine bind_list (List.replicate n ()) (fun (_ : Unit) i => (ids i ++ List.replicate (n - i) (0 : Int), (i : Int))) (fun _ _ => .inl ()) (fun _ => ids n) (fun _ _ => True) () (by simp; omega) (by simp [ids]) trivial ?_ ?_ ?_
  · intro i x s hi hx _
    simp only [List.length_replicate] at hi
    have hl : (ids i ++ List.replicate (n - i) (0 : Int)).length = n := by simp [ids_length]; omega
    refine ⟨?_, fun _ _ => trivial⟩
    simp (disch := omega) only [cd_pos, gd_dec, Nat.zero_add, Int.toNat_natCast, hl, set_ids hi, w64_in]
    simp
  · intro s _
    simp (disch := omega) only [List.length_replicate, cd_neg]
    simp
  · rw [goL_unit]
    refine bind_list (List.replicate (n - 1) ()) (fun s _ => s) drawB (fun s => s.1) (DrawI n) (ids n, key, (n : Int) - 1) (by simp; omega) ?_ ⟨ids_length n, by simp only; omega, h2, by simp⟩ ?_ ?_ ?_
    · rw [w64_in (by omega) (by omega)]
    · intro i x s hi hx hI
      simp only [List.length_replicate] at hi
      refine ⟨?_, fun s' hs => drawB_inv hi hI hs⟩
      obtain ⟨out, key, j⟩ := s
      obtain ⟨h1, h2, h3, h4⟩ := hI
      simp only at h1 h2 h3 h4
      have k1 : 0 ≤ Int.tmod (69621 * key) 2147483647 := Int.tmod_nonneg _ (by omega)
      have m1 : 0 ≤ Int.tmod (Int.tmod (69621 * key) 2147483647) (j + 1) := Int.tmod_nonneg _ k1
      have m2 : Int.tmod (Int.tmod (69621 * key) 2147483647) (j + 1) < j + 1 := Int.tmod_lt_of_pos _ (by omega)
      simp only [drawB]
      simp (disch := omega) only [w64_in, cd_pos]
      generalize Int.tmod (Int.tmod (69621 * key) 2147483647) (j + 1) = q at m1 m2
      simp (disch := omega) only [gd_dec, Nat.zero_add, List.length_set]
    · intro s ⟨h1, h2, h3, h4⟩
      simp only [List.length_replicate] at h4
      simp (disch := omega) only [cd_neg]
    · change gd (decide (0 + n ≤ (drawS key n).length)) (some (List.take n (List.drop 0 (drawS key n)))) = _
      rw [hlen, gd_dec (by omega), List.drop_zero, List.take_of_length_le (by omega)]
end Go.Proofs.Tryz
end
section
set_option maxRecDepth 100000
set_option linter.all false
namespace Go.Proofs.Tryz
open Go Go.Sx
end Go.Proofs.Tryz
end
section
set_option maxRecDepth 100000
set_option linter.unusedVariables false
namespace Go.Proofs.Tryz
open Go Go.Sx
noncomputable def s55 (F : Nat) (a : Int × Int × List (Int × Int × Int)) : List Int × Int × Int → Option ((List Int × Int × Int) ⊕ (List Int × List Int × Int ⊕ List Int)) := (fun (v63 : List Int × Int × Int) => bif Decidable.decide (Prod.snd (Prod.snd v63) < (↑(List.length (Prod.snd (Prod.snd a))) : Int)) then (gd (Decidable.decide ((0 : Int) ≤ Prod.snd (Prod.snd v63))) (gd (Decidable.decide (Prod.snd (Prod.snd v63) < (↑(List.length (Prod.snd (Prod.snd a))) : Int))) (gd (Decidable.decide (Int.toNat (Prod.snd (Prod.snd v63)) < List.length (Prod.snd (Prod.snd a)))) (Option.bind (Go.Proofs.Tryz.c80 F (Prod.fst (List.getD (Prod.snd (Prod.snd a)) (Int.toNat (Prod.snd (Prod.snd v63))) ((0 : Int), (0 : Int), (0 : Int))))) fun (v64 : Int) => Option.bind (Go.Proofs.Tryz.c83 F (Prod.fst (Prod.snd (List.getD (Prod.snd (Prod.snd a)) (Int.toNat (Prod.snd (Prod.snd v63))) ((0 : Int), (0 : Int), (0 : Int)))), (0 : Int), (10 : Int))) fun (v65 : Int) => Option.bind (Go.Proofs.Tryz.c83 F (Prod.snd (Prod.snd (List.getD (Prod.snd (Prod.snd a)) (Int.toNat (Prod.snd (Prod.snd v63))) ((0 : Int), (0 : Int), (0 : Int)))), (0 : Int), (160 : Int))) fun (v66 : Int) => Option.bind (Go.Proofs.Tryz.c76 F (Decidable.decide (Go.Sx.w64 (Prod.fst (List.getD (Prod.snd (Prod.snd a)) (Int.toNat (Prod.snd (Prod.snd v63))) ((0 : Int), (0 : Int), (0 : Int))) * Prod.fst (Prod.snd a)) < Prod.fst (Prod.snd v63)), (17 : Int))) fun (v67 : Int) => Option.bind (Go.Proofs.Tryz.c75 F (v64 :: v65 :: v66 :: v67 :: Go.Sx.nilT Int)) fun (v68 : Int) => bif !Decidable.decide (v68 = (0 : Int)) then (some (Sum.inr (Sum.inl (Prod.fst v63, Go.Sx.nilT Int, v68)))) else (Option.bind (bif Decidable.decide (Prod.fst (Prod.snd v63) < Go.Sx.w64 (Go.Sx.w64 (Prod.fst (List.getD (Prod.snd (Prod.snd a)) (Int.toNat (Prod.snd (Prod.snd v63))) ((0 : Int), (0 : Int), (0 : Int))) * Prod.fst (Prod.snd (List.getD (Prod.snd (Prod.snd a)) (Int.toNat (Prod.snd (Prod.snd v63))) ((0 : Int), (0 : Int), (0 : Int))))) + Prod.snd (Prod.snd (List.getD (Prod.snd (Prod.snd a)) (Int.toNat (Prod.snd (Prod.snd v63))) ((0 : Int), (0 : Int), (0 : Int)))))) then (some (Bool.true)) else (gd (Decidable.decide (Prod.fst (List.getD (Prod.snd (Prod.snd a)) (Int.toNat (Prod.snd (Prod.snd v63))) ((0 : Int), (0 : Int), (0 : Int))) ≠ (0 : Int))) (some (Decidable.decide (Go.Sx.w64 (Int.tdiv (Prod.fst (Prod.snd v63)) (Prod.fst (List.getD (Prod.snd (Prod.snd a)) (Int.toNat (Prod.snd (Prod.snd v63))) ((0 : Int), (0 : Int), (0 : Int))))) < Prod.fst (Prod.snd (List.getD (Prod.snd (Prod.snd a)) (Int.toNat (Prod.snd (Prod.snd v63))) ((0 : Int), (0 : Int), (0 : Int))))))))) fun (v69 : Bool) => Option.bind (bif !Decidable.decide (Prod.snd (Prod.snd v63) = Go.Sx.w64 ((↑(List.length (Prod.snd (Prod.snd a))) : Int) - (1 : Int))) then (Option.bind (Go.Proofs.Tryz.c76 F (v69, (23 : Int))) fun (v72 : Int) => bif Decidable.decide (Prod.snd (Prod.snd v63) = Go.Sx.w64 ((↑(List.length (Prod.snd (Prod.snd a))) : Int) - (1 : Int))) then (Option.bind (Go.Proofs.Tryz.c76 F (!(Decidable.decide (Prod.fst (List.getD (Prod.snd (Prod.snd a)) (Int.toNat (Prod.snd (Prod.snd v63))) ((0 : Int), (0 : Int), (0 : Int))) = (1 : Int)) && (Decidable.decide (Prod.fst (Prod.snd (List.getD (Prod.snd (Prod.snd a)) (Int.toNat (Prod.snd (Prod.snd v63))) ((0 : Int), (0 : Int), (0 : Int)))) = (0 : Int)) && (Decidable.decide (Prod.snd (Prod.snd (List.getD (Prod.snd (Prod.snd a)) (Int.toNat (Prod.snd (Prod.snd v63))) ((0 : Int), (0 : Int), (0 : Int)))) = (0 : Int)) && Bool.true))), (1 : Int))) fun (v73 : Int) => Option.bind (Go.Proofs.Tryz.c75 F (v72 :: v73 :: Go.Sx.nilT Int)) fun (v74 : Int) => some (v74)) else (Option.bind (Go.Proofs.Tryz.c75 F (v72 :: (0 : Int) :: Go.Sx.nilT Int)) fun (v75 : Int) => some (v75))) else (bif Decidable.decide (Prod.snd (Prod.snd v63) = Go.Sx.w64 ((↑(List.length (Prod.snd (Prod.snd a))) : Int) - (1 : Int))) then (Option.bind (Go.Proofs.Tryz.c76 F (!(Decidable.decide (Prod.fst (List.getD (Prod.snd (Prod.snd a)) (Int.toNat (Prod.snd (Prod.snd v63))) ((0 : Int), (0 : Int), (0 : Int))) = (1 : Int)) && (Decidable.decide (Prod.fst (Prod.snd (List.getD (Prod.snd (Prod.snd a)) (Int.toNat (Prod.snd (Prod.snd v63))) ((0 : Int), (0 : Int), (0 : Int)))) = (0 : Int)) && (Decidable.decide (Prod.snd (Prod.snd (List.getD (Prod.snd (Prod.snd a)) (Int.toNat (Prod.snd (Prod.snd v63))) ((0 : Int), (0 : Int), (0 : Int)))) = (0 : Int)) && Bool.true))), (1 : Int))) fun (v76 : Int) => Option.bind (Go.Proofs.Tryz.c75 F ((0 : Int) :: v76 :: Go.Sx.nilT Int)) fun (v77 : Int) => some (v77)) else (Option.bind (Go.Proofs.Tryz.c75 F ((0 : Int) :: (0 : Int) :: Go.Sx.nilT Int)) fun (v78 : Int) => some (v78)))) fun (v70 : Int) => bif !Decidable.decide (v70 = (0 : Int)) then (some (Sum.inr (Sum.inl (Prod.fst v63, Go.Sx.nilT Int, v70)))) else (gd (Decidable.decide (List.length (Prod.fst v63) = List.length (Prod.fst v63))) (gd (Decidable.decide (List.length (Prod.fst v63 ++ Prod.fst (Prod.snd v63) :: Go.Sx.nilT Int) * (8 : Nat) ≤ (140737488355328 : Nat))) (gd (Decidable.decide (List.length (Prod.fst v63 ++ Prod.fst (Prod.snd v63) :: Go.Sx.nilT Int) ≤ (9223372036854775807 : Nat))) (Option.bind (gd (Decidable.decide (List.length (Prod.fst v63 ++ Prod.fst (Prod.snd v63) :: Go.Sx.nilT Int) = List.length (Prod.fst v63 ++ Prod.fst (Prod.snd v63) :: Go.Sx.nilT Int)) && Bool.true && (Bool.true && (Bool.true && Bool.true))) (some ((Prod.fst v63 ++ Prod.fst (Prod.snd v63) :: Go.Sx.nilT Int, Go.Sx.w64 (Go.Sx.w64 (Prod.fst (List.getD (Prod.snd (Prod.snd a)) (Int.toNat (Prod.snd (Prod.snd v63))) ((0 : Int), (0 : Int), (0 : Int))) * Prod.fst (Prod.snd (List.getD (Prod.snd (Prod.snd a)) (Int.toNat (Prod.snd (Prod.snd v63))) ((0 : Int), (0 : Int), (0 : Int))))) + Prod.snd (Prod.snd (List.getD (Prod.snd (Prod.snd a)) (Int.toNat (Prod.snd (Prod.snd v63))) ((0 : Int), (0 : Int), (0 : Int))))), Go.Sx.w64 (Prod.snd (Prod.snd v63) + (1 : Int)))))) fun (v71 : List Int × Int × Int) => some (Sum.inl v71)))))))))) else (Option.bind (Option.bind (gd (Decidable.decide (List.length (Prod.fst v63) = List.length (Prod.fst v63)) && Bool.true && Bool.true) (some (Prod.fst v63))) fun (v80 : List Int) => some (Sum.inr v80)) fun (v79 : List Int × List Int × Int ⊕ List Int) => some (Sum.inr v79)))
noncomputable def s57 (F : Nat) (a : Int × Int × List (Int × Int × Int)) : List Int × Int × Int → Option ((List Int × Int × Int) ⊕ (List Int × List Int × Int ⊕ List Int)) := (fun (v31 : List Int × Int × Int) => bif Decidable.decide (Prod.snd (Prod.snd v31) < (↑(List.length (Prod.snd (Prod.snd a))) : Int)) then (gd (Decidable.decide ((0 : Int) ≤ Prod.snd (Prod.snd v31))) (gd (Decidable.decide (Prod.snd (Prod.snd v31) < (↑(List.length (Prod.snd (Prod.snd a))) : Int))) (gd (Decidable.decide (Int.toNat (Prod.snd (Prod.snd v31)) < List.length (Prod.snd (Prod.snd a)))) (Option.bind (Option.bind (Go.Proofs.Tryz.c82 F (Prod.fst (List.getD (Prod.snd (Prod.snd a)) (Int.toNat (Prod.snd (Prod.snd v31))) ((0 : Int), (0 : Int), (0 : Int))), (1 : Int), (16 : Int))) fun (v36 : Bool) => bif v36 then (some (Bool.true)) else (Option.bind (Go.Proofs.Tryz.c82 F (Prod.fst (Prod.snd (List.getD (Prod.snd (Prod.snd a)) (Int.toNat (Prod.snd (Prod.snd v31))) ((0 : Int), (0 : Int), (0 : Int)))), (0 : Int), (10 : Int))) fun (v37 : Bool) => bif v37 then (some (Bool.true)) else (Option.bind (Go.Proofs.Tryz.c82 F (Prod.snd (Prod.snd (List.getD (Prod.snd (Prod.snd a)) (Int.toNat (Prod.snd (Prod.snd v31))) ((0 : Int), (0 : Int), (0 : Int)))), (0 : Int), (160 : Int))) fun (v38 : Bool) => some (v38)))) fun (v32 : Bool) => bif v32 then (some (Sum.inr (Sum.inl (Prod.fst v31, Go.Sx.nilT Int, (3 : Int))))) else (bif Decidable.decide (Go.Sx.w64 (Prod.fst (List.getD (Prod.snd (Prod.snd a)) (Int.toNat (Prod.snd (Prod.snd v31))) ((0 : Int), (0 : Int), (0 : Int))) * Prod.fst (Prod.snd a)) < Prod.fst (Prod.snd v31)) then (some (Sum.inr (Sum.inl (Prod.fst v31, Go.Sx.nilT Int, (17 : Int))))) else (Option.bind (bif Decidable.decide (Go.Sx.w64 (Prod.snd (Prod.snd v31) + (1 : Int)) < (↑(List.length (Prod.snd (Prod.snd a))) : Int)) then (bif Decidable.decide (Prod.fst (Prod.snd v31) < Go.Sx.w64 (Go.Sx.w64 (Prod.fst (List.getD (Prod.snd (Prod.snd a)) (Int.toNat (Prod.snd (Prod.snd v31))) ((0 : Int), (0 : Int), (0 : Int))) * Prod.fst (Prod.snd (List.getD (Prod.snd (Prod.snd a)) (Int.toNat (Prod.snd (Prod.snd v31))) ((0 : Int), (0 : Int), (0 : Int))))) + Prod.snd (Prod.snd (List.getD (Prod.snd (Prod.snd a)) (Int.toNat (Prod.snd (Prod.snd v31))) ((0 : Int), (0 : Int), (0 : Int)))))) then (some (Bool.true)) else (gd (Decidable.decide (Prod.fst (List.getD (Prod.snd (Prod.snd a)) (Int.toNat (Prod.snd (Prod.snd v31))) ((0 : Int), (0 : Int), (0 : Int))) ≠ (0 : Int))) (some (Decidable.decide (Go.Sx.w64 (Int.tdiv (Prod.fst (Prod.snd v31)) (Prod.fst (List.getD (Prod.snd (Prod.snd a)) (Int.toNat (Prod.snd (Prod.snd v31))) ((0 : Int), (0 : Int), (0 : Int))))) < Prod.fst (Prod.snd (List.getD (Prod.snd (Prod.snd a)) (Int.toNat (Prod.snd (Prod.snd v31))) ((0 : Int), (0 : Int), (0 : Int))))))))) else (some (Bool.false))) fun (v33 : Bool) => bif v33 then (some (Sum.inr (Sum.inl (Prod.fst v31, Go.Sx.nilT Int, (23 : Int))))) else (Option.bind (bif Decidable.decide (Go.Sx.w64 (Prod.snd (Prod.snd v31) + (1 : Int)) = (↑(List.length (Prod.snd (Prod.snd a))) : Int)) then (some (!(Decidable.decide (Prod.fst (List.getD (Prod.snd (Prod.snd a)) (Int.toNat (Prod.snd (Prod.snd v31))) ((0 : Int), (0 : Int), (0 : Int))) = (1 : Int)) && (Decidable.decide (Prod.fst (Prod.snd (List.getD (Prod.snd (Prod.snd a)) (Int.toNat (Prod.snd (Prod.snd v31))) ((0 : Int), (0 : Int), (0 : Int)))) = (0 : Int)) && (Decidable.decide (Prod.snd (Prod.snd (List.getD (Prod.snd (Prod.snd a)) (Int.toNat (Prod.snd (Prod.snd v31))) ((0 : Int), (0 : Int), (0 : Int)))) = (0 : Int)) && Bool.true))))) else (some (Bool.false))) fun (v34 : Bool) => bif v34 then (some (Sum.inr (Sum.inl (Prod.fst v31, Go.Sx.nilT Int, (1 : Int))))) else (gd (Decidable.decide (List.length (Prod.fst v31) = List.length (Prod.fst v31))) (gd (Decidable.decide (List.length (Prod.fst v31 ++ Prod.fst (Prod.snd v31) :: Go.Sx.nilT Int) * (8 : Nat) ≤ (140737488355328 : Nat))) (gd (Decidable.decide (List.length (Prod.fst v31 ++ Prod.fst (Prod.snd v31) :: Go.Sx.nilT Int) ≤ (9223372036854775807 : Nat))) (Option.bind (gd (Decidable.decide (List.length (Prod.fst v31 ++ Prod.fst (Prod.snd v31) :: Go.Sx.nilT Int) = List.length (Prod.fst v31 ++ Prod.fst (Prod.snd v31) :: Go.Sx.nilT Int)) && Bool.true && (Bool.true && (Bool.true && Bool.true))) (some ((Prod.fst v31 ++ Prod.fst (Prod.snd v31) :: Go.Sx.nilT Int, Go.Sx.w64 (Go.Sx.w64 (Prod.fst (List.getD (Prod.snd (Prod.snd a)) (Int.toNat (Prod.snd (Prod.snd v31))) ((0 : Int), (0 : Int), (0 : Int))) * Prod.fst (Prod.snd (List.getD (Prod.snd (Prod.snd a)) (Int.toNat (Prod.snd (Prod.snd v31))) ((0 : Int), (0 : Int), (0 : Int))))) + Prod.snd (Prod.snd (List.getD (Prod.snd (Prod.snd a)) (Int.toNat (Prod.snd (Prod.snd v31))) ((0 : Int), (0 : Int), (0 : Int))))), Go.Sx.w64 (Prod.snd (Prod.snd v31) + (1 : Int)))))) fun (v35 : List Int × Int × Int) => some (Sum.inl v35)))))))))))) else (Option.bind (Option.bind (gd (Decidable.decide (List.length (Prod.fst v31) = List.length (Prod.fst v31)) && Bool.true && Bool.true) (some (Prod.fst v31))) fun (v40 : List Int) => some (Sum.inr v40)) fun (v39 : List Int × List Int × Int ⊕ List Int) => some (Sum.inr v39)))
theorem l80 (F : Nat) (n : Int) : c80 F n = some (if n < 1 ∨ 16 < n then 3 else 0) := by
  unfold c80; simp only [l83]; rfl
theorem l75' {l : List Int} (h : l.length < 400) : c75 400 l = some (firstNZ l) := l75 h (by omega)
theorem step_eq {a : Int × Int × List (Int × Int × Int)} (hl : a.2.2.length ≤ 16) {x : List Int × Int × Int} (h0 : 0 ≤ x.2.2) (h1 : x.2.2 ≤ a.2.2.length) : s55 400 a x = s57 400 a x := by
  obtain ⟨A, N, L⟩ := a
  obtain ⟨out, n, i⟩ := x
  simp only at hl h0 h1
  unfold s55 s57
  by_cases hi : i < L.length
  · have hk : i.toNat < L.length := by omega
    simp only [h0, hi, hk, decide_true, cond_true, gd_true]
    generalize L.getD i.toNat (0, 0, 0) = r
    obtain ⟨H, P, T⟩ := r
    have hw : w64 (i + 1) = i + 1 := w64_in (by omega) (by omega)
    have hw2 : w64 ((L.length : Int) - 1) = L.length - 1 := w64_in (by omega) (by omega)
    simp only [l80, l83, l76, l82, Option.bind_some, nilT, hw, hw2]
    by_cases hH : H < 1 ∨ 16 < H
    · simp [hH, l75', firstNZ]
    · by_cases hP : P < 0 ∨ 10 < P
      · simp [hH, hP, l75', firstNZ]
      · by_cases hT : T < 0 ∨ 160 < T
        · simp [hH, hP, hT, l75', firstNZ]
        · have hne : H ≠ 0 := by omega
          generalize w64 (H * N) = hn
          generalize w64 (w64 (H * P) + T) = nx
          generalize w64 (Int.tdiv n H) = dv
          generalize (decide (H = 1) && (decide (P = 0) && (decide (T = 0) && true))) = q
          by_cases hn' : hn < n
          · simp [hH, hP, hT, hn', l75', firstNZ]
          · by_cases hlast : i = L.length - 1
            · have e1 : ¬ i + 1 < L.length := by omega
              have e2 : i + 1 = L.length := by omega
              by_cases h4 : n < nx <;> cases q <;> simp [hH, hP, hT, hn', hne, hlast, e1, e2, h4, l75', firstNZ, gd_true]
            · have e1 : i + 1 < L.length := by omega
              have e2 : ¬ i + 1 = L.length := by omega
              by_cases h4 : n < nx <;> by_cases h5 : dv < P <;> simp [hH, hP, hT, hn', hne, hlast, e1, e2, h4, h5, l75', firstNZ, gd_true]
  · simp only [hi, decide_false, cond_false]
end Go.Proofs.Tryz
end

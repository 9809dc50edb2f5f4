/- Plain law of SeedCharts: the numbers of the rounds (under way). -/
import Derived.Test.YtdghdcclhnoigaaGreatDoorXP8
set_option maxRecDepth 100000
set_option linter.unusedVariables false
namespace Go.Proofs.Tryz
open Go Go.Sx
noncomputable def s55 (F : Nat) (a : Int × Int × List (Int × Int × Int)) : List Int × Int × Int → Option ((List Int × Int × Int) ⊕ (List Int × List Int × Int ⊕ List Int)) := (fun (v63 : List Int × Int × Int) => bif Decidable.decide (Prod.snd (Prod.snd v63) < (↑(List.length (Prod.snd (Prod.snd a))) : Int)) then (gd (Decidable.decide ((0 : Int) ≤ Prod.snd (Prod.snd v63))) (gd (Decidable.decide (Prod.snd (Prod.snd v63) < (↑(List.length (Prod.snd (Prod.snd a))) : Int))) (gd (Decidable.decide (Int.toNat (Prod.snd (Prod.snd v63)) < List.length (Prod.snd (Prod.snd a)))) (Option.bind (Go.Proofs.Tryz.c80 F (Prod.fst (List.getD (Prod.snd (Prod.snd a)) (Int.toNat (Prod.snd (Prod.snd v63))) ((0 : Int), (0 : Int), (0 : Int))))) fun (v64 : Int) => Option.bind (Go.Proofs.Tryz.c83 F (Prod.fst (Prod.snd (List.getD (Prod.snd (Prod.snd a)) (Int.toNat (Prod.snd (Prod.snd v63))) ((0 : Int), (0 : Int), (0 : Int)))), (0 : Int), (10 : Int))) fun (v65 : Int) => Option.bind (Go.Proofs.Tryz.c83 F (Prod.snd (Prod.snd (List.getD (Prod.snd (Prod.snd a)) (Int.toNat (Prod.snd (Prod.snd v63))) ((0 : Int), (0 : Int), (0 : Int)))), (0 : Int), (160 : Int))) fun (v66 : Int) => Option.bind (Go.Proofs.Tryz.c76 F (Decidable.decide (Go.Sx.w64 (Prod.fst (List.getD (Prod.snd (Prod.snd a)) (Int.toNat (Prod.snd (Prod.snd v63))) ((0 : Int), (0 : Int), (0 : Int))) * Prod.fst (Prod.snd a)) < Prod.fst (Prod.snd v63)), (17 : Int))) fun (v67 : Int) => Option.bind (Go.Proofs.Tryz.c75 F (v64 :: v65 :: v66 :: v67 :: Go.Sx.nilT Int)) fun (v68 : Int) => bif !Decidable.decide (v68 = (0 : Int)) then (some (Sum.inr (Sum.inl (Prod.fst v63, Go.Sx.nilT Int, v68)))) else (Option.bind (bif Decidable.decide (Prod.fst (Prod.snd v63) < Go.Sx.w64 (Go.Sx.w64 (Prod.fst (List.getD (Prod.snd (Prod.snd a)) (Int.toNat (Prod.snd (Prod.snd v63))) ((0 : Int), (0 : Int), (0 : Int))) * Prod.fst (Prod.snd (List.getD (Prod.snd (Prod.snd a)) (Int.toNat (Prod.snd (Prod.snd v63))) ((0 : Int), (0 : Int), (0 : Int))))) + Prod.snd (Prod.snd (List.getD (Prod.snd (Prod.snd a)) (Int.toNat (Prod.snd (Prod.snd v63))) ((0 : Int), (0 : Int), (0 : Int)))))) then (some (Bool.true)) else (gd (Decidable.decide (Prod.fst (List.getD (Prod.snd (Prod.snd a)) (Int.toNat (Prod.snd (Prod.snd v63))) ((0 : Int), (0 : Int), (0 : Int))) ≠ (0 : Int))) (some (Decidable.decide (Go.Sx.w64 (Int.tdiv (Prod.fst (Prod.snd v63)) (Prod.fst (List.getD (Prod.snd (Prod.snd a)) (Int.toNat (Prod.snd (Prod.snd v63))) ((0 : Int), (0 : Int), (0 : Int))))) < Prod.fst (Prod.snd (List.getD (Prod.snd (Prod.snd a)) (Int.toNat (Prod.snd (Prod.snd v63))) ((0 : Int), (0 : Int), (0 : Int))))))))) fun (v69 : Bool) => Option.bind (bif !Decidable.decide (Prod.snd (Prod.snd v63) = Go.Sx.w64 ((↑(List.length (Prod.snd (Prod.snd a))) : Int) - (1 : Int))) then (Option.bind (Go.Proofs.Tryz.c76 F (v69, (23 : Int))) fun (v72 : Int) => bif Decidable.decide (Prod.snd (Prod.snd v63) = Go.Sx.w64 ((↑(List.length (Prod.snd (Prod.snd a))) : Int) - (1 : Int))) then (Option.bind (Go.Proofs.Tryz.c76 F (!(Decidable.decide (Prod.fst (List.getD (Prod.snd (Prod.snd a)) (Int.toNat (Prod.snd (Prod.snd v63))) ((0 : Int), (0 : Int), (0 : Int))) = (1 : Int)) && (Decidable.decide (Prod.fst (Prod.snd (List.getD (Prod.snd (Prod.snd a)) (Int.toNat (Prod.snd (Prod.snd v63))) ((0 : Int), (0 : Int), (0 : Int)))) = (0 : Int)) && (Decidable.decide (Prod.snd (Prod.snd (List.getD (Prod.snd (Prod.snd a)) (Int.toNat (Prod.snd (Prod.snd v63))) ((0 : Int), (0 : Int), (0 : Int)))) = (0 : Int)) && Bool.true))), (1 : Int))) fun (v73 : Int) => Option.bind (Go.Proofs.Tryz.c75 F (v72 :: v73 :: Go.Sx.nilT Int)) fun (v74 : Int) => some (v74)) else (Option.bind (Go.Proofs.Tryz.c75 F (v72 :: (0 : Int) :: Go.Sx.nilT Int)) fun (v75 : Int) => some (v75))) else (bif Decidable.decide (Prod.snd (Prod.snd v63) = Go.Sx.w64 ((↑(List.length (Prod.snd (Prod.snd a))) : Int) - (1 : Int))) then (Option.bind (Go.Proofs.Tryz.c76 F (!(Decidable.decide (Prod.fst (List.getD (Prod.snd (Prod.snd a)) (Int.toNat (Prod.snd (Prod.snd v63))) ((0 : Int), (0 : Int), (0 : Int))) = (1 : Int)) && (Decidable.decide (Prod.fst (Prod.snd (List.getD (Prod.snd (Prod.snd a)) (Int.toNat (Prod.snd (Prod.snd v63))) ((0 : Int), (0 : Int), (0 : Int)))) = (0 : Int)) && (Decidable.decide (Prod.snd (Prod.snd (List.getD (Prod.snd (Prod.snd a)) (Int.toNat (Prod.snd (Prod.snd v63))) ((0 : Int), (0 : Int), (0 : Int)))) = (0 : Int)) && Bool.true))), (1 : Int))) fun (v76 : Int) => Option.bind (Go.Proofs.Tryz.c75 F ((0 : Int) :: v76 :: Go.Sx.nilT Int)) fun (v77 : Int) => some (v77)) else (Option.bind (Go.Proofs.Tryz.c75 F ((0 : Int) :: (0 : Int) :: Go.Sx.nilT Int)) fun (v78 : Int) => some (v78)))) fun (v70 : Int) => bif !Decidable.decide (v70 = (0 : Int)) then (some (Sum.inr (Sum.inl (Prod.fst v63, Go.Sx.nilT Int, v70)))) else (gd (Decidable.decide (List.length (Prod.fst v63) = List.length (Prod.fst v63))) (gd (Decidable.decide (List.length (Prod.fst v63 ++ Prod.fst (Prod.snd v63) :: Go.Sx.nilT Int) * (8 : Nat) ≤ (140737488355328 : Nat))) (gd (Decidable.decide (List.length (Prod.fst v63 ++ Prod.fst (Prod.snd v63) :: Go.Sx.nilT Int) ≤ (9223372036854775807 : Nat))) (Option.bind (gd (Decidable.decide (List.length (Prod.fst v63 ++ Prod.fst (Prod.snd v63) :: Go.Sx.nilT Int) = List.length (Prod.fst v63 ++ Prod.fst (Prod.snd v63) :: Go.Sx.nilT Int)) && Bool.true && (Bool.true && (Bool.true && Bool.true))) (some ((Prod.fst v63 ++ Prod.fst (Prod.snd v63) :: Go.Sx.nilT Int, Go.Sx.w64 (Go.Sx.w64 (Prod.fst (List.getD (Prod.snd (Prod.snd a)) (Int.toNat (Prod.snd (Prod.snd v63))) ((0 : Int), (0 : Int), (0 : Int))) * Prod.fst (Prod.snd (List.getD (Prod.snd (Prod.snd a)) (Int.toNat (Prod.snd (Prod.snd v63))) ((0 : Int), (0 : Int), (0 : Int))))) + Prod.snd (Prod.snd (List.getD (Prod.snd (Prod.snd a)) (Int.toNat (Prod.snd (Prod.snd v63))) ((0 : Int), (0 : Int), (0 : Int))))), Go.Sx.w64 (Prod.snd (Prod.snd v63) + (1 : Int)))))) fun (v71 : List Int × Int × Int) => some (Sum.inl v71)))))))))) else (Option.bind (Option.bind (gd (Decidable.decide (List.length (Prod.fst v63) = List.length (Prod.fst v63)) && Bool.true && Bool.true) (some (Prod.fst v63))) fun (v80 : List Int) => some (Sum.inr v80)) fun (v79 : List Int × List Int × Int ⊕ List Int) => some (Sum.inr v79)))
noncomputable def s57 (F : Nat) (a : Int × Int × List (Int × Int × Int)) : List Int × Int × Int → Option ((List Int × Int × Int) ⊕ (List Int × List Int × Int ⊕ List Int)) := (fun (v31 : List Int × Int × Int) => bif Decidable.decide (Prod.snd (Prod.snd v31) < (↑(List.length (Prod.snd (Prod.snd a))) : Int)) then (gd (Decidable.decide ((0 : Int) ≤ Prod.snd (Prod.snd v31))) (gd (Decidable.decide (Prod.snd (Prod.snd v31) < (↑(List.length (Prod.snd (Prod.snd a))) : Int))) (gd (Decidable.decide (Int.toNat (Prod.snd (Prod.snd v31)) < List.length (Prod.snd (Prod.snd a)))) (Option.bind (Option.bind (Go.Proofs.Tryz.c82 F (Prod.fst (List.getD (Prod.snd (Prod.snd a)) (Int.toNat (Prod.snd (Prod.snd v31))) ((0 : Int), (0 : Int), (0 : Int))), (1 : Int), (16 : Int))) fun (v36 : Bool) => bif v36 then (some (Bool.true)) else (Option.bind (Go.Proofs.Tryz.c82 F (Prod.fst (Prod.snd (List.getD (Prod.snd (Prod.snd a)) (Int.toNat (Prod.snd (Prod.snd v31))) ((0 : Int), (0 : Int), (0 : Int)))), (0 : Int), (10 : Int))) fun (v37 : Bool) => bif v37 then (some (Bool.true)) else (Option.bind (Go.Proofs.Tryz.c82 F (Prod.snd (Prod.snd (List.getD (Prod.snd (Prod.snd a)) (Int.toNat (Prod.snd (Prod.snd v31))) ((0 : Int), (0 : Int), (0 : Int)))), (0 : Int), (160 : Int))) fun (v38 : Bool) => some (v38)))) fun (v32 : Bool) => bif v32 then (some (Sum.inr (Sum.inl (Prod.fst v31, Go.Sx.nilT Int, (3 : Int))))) else (bif Decidable.decide (Go.Sx.w64 (Prod.fst (List.getD (Prod.snd (Prod.snd a)) (Int.toNat (Prod.snd (Prod.snd v31))) ((0 : Int), (0 : Int), (0 : Int))) * Prod.fst (Prod.snd a)) < Prod.fst (Prod.snd v31)) then (some (Sum.inr (Sum.inl (Prod.fst v31, Go.Sx.nilT Int, (17 : Int))))) else (Option.bind (bif Decidable.decide (Go.Sx.w64 (Prod.snd (Prod.snd v31) + (1 : Int)) < (↑(List.length (Prod.snd (Prod.snd a))) : Int)) then (bif Decidable.decide (Prod.fst (Prod.snd v31) < Go.Sx.w64 (Go.Sx.w64 (Prod.fst (List.getD (Prod.snd (Prod.snd a)) (Int.toNat (Prod.snd (Prod.snd v31))) ((0 : Int), (0 : Int), (0 : Int))) * Prod.fst (Prod.snd (List.getD (Prod.snd (Prod.snd a)) (Int.toNat (Prod.snd (Prod.snd v31))) ((0 : Int), (0 : Int), (0 : Int))))) + Prod.snd (Prod.snd (List.getD (Prod.snd (Prod.snd a)) (Int.toNat (Prod.snd (Prod.snd v31))) ((0 : Int), (0 : Int), (0 : Int)))))) then (some (Bool.true)) else (gd (Decidable.decide (Prod.fst (List.getD (Prod.snd (Prod.snd a)) (Int.toNat (Prod.snd (Prod.snd v31))) ((0 : Int), (0 : Int), (0 : Int))) ≠ (0 : Int))) (some (Decidable.decide (Go.Sx.w64 (Int.tdiv (Prod.fst (Prod.snd v31)) (Prod.fst (List.getD (Prod.snd (Prod.snd a)) (Int.toNat (Prod.snd (Prod.snd v31))) ((0 : Int), (0 : Int), (0 : Int))))) < Prod.fst (Prod.snd (List.getD (Prod.snd (Prod.snd a)) (Int.toNat (Prod.snd (Prod.snd v31))) ((0 : Int), (0 : Int), (0 : Int))))))))) else (some (Bool.false))) fun (v33 : Bool) => bif v33 then (some (Sum.inr (Sum.inl (Prod.fst v31, Go.Sx.nilT Int, (23 : Int))))) else (Option.bind (bif Decidable.decide (Go.Sx.w64 (Prod.snd (Prod.snd v31) + (1 : Int)) = (↑(List.length (Prod.snd (Prod.snd a))) : Int)) then (some (!(Decidable.decide (Prod.fst (List.getD (Prod.snd (Prod.snd a)) (Int.toNat (Prod.snd (Prod.snd v31))) ((0 : Int), (0 : Int), (0 : Int))) = (1 : Int)) && (Decidable.decide (Prod.fst (Prod.snd (List.getD (Prod.snd (Prod.snd a)) (Int.toNat (Prod.snd (Prod.snd v31))) ((0 : Int), (0 : Int), (0 : Int)))) = (0 : Int)) && (Decidable.decide (Prod.snd (Prod.snd (List.getD (Prod.snd (Prod.snd a)) (Int.toNat (Prod.snd (Prod.snd v31))) ((0 : Int), (0 : Int), (0 : Int)))) = (0 : Int)) && Bool.true))))) else (some (Bool.false))) fun (v34 : Bool) => bif v34 then (some (Sum.inr (Sum.inl (Prod.fst v31, Go.Sx.nilT Int, (1 : Int))))) else (gd (Decidable.decide (List.length (Prod.fst v31) = List.length (Prod.fst v31))) (gd (Decidable.decide (List.length (Prod.fst v31 ++ Prod.fst (Prod.snd v31) :: Go.Sx.nilT Int) * (8 : Nat) ≤ (140737488355328 : Nat))) (gd (Decidable.decide (List.length (Prod.fst v31 ++ Prod.fst (Prod.snd v31) :: Go.Sx.nilT Int) ≤ (9223372036854775807 : Nat))) (Option.bind (gd (Decidable.decide (List.length (Prod.fst v31 ++ Prod.fst (Prod.snd v31) :: Go.Sx.nilT Int) = List.length (Prod.fst v31 ++ Prod.fst (Prod.snd v31) :: Go.Sx.nilT Int)) && Bool.true && (Bool.true && (Bool.true && Bool.true))) (some ((Prod.fst v31 ++ Prod.fst (Prod.snd v31) :: Go.Sx.nilT Int, Go.Sx.w64 (Go.Sx.w64 (Prod.fst (List.getD (Prod.snd (Prod.snd a)) (Int.toNat (Prod.snd (Prod.snd v31))) ((0 : Int), (0 : Int), (0 : Int))) * Prod.fst (Prod.snd (List.getD (Prod.snd (Prod.snd a)) (Int.toNat (Prod.snd (Prod.snd v31))) ((0 : Int), (0 : Int), (0 : Int))))) + Prod.snd (Prod.snd (List.getD (Prod.snd (Prod.snd a)) (Int.toNat (Prod.snd (Prod.snd v31))) ((0 : Int), (0 : Int), (0 : Int))))), Go.Sx.w64 (Prod.snd (Prod.snd v31) + (1 : Int)))))) fun (v35 : List Int × Int × Int) => some (Sum.inl v35)))))))))))) else (Option.bind (Option.bind (gd (Decidable.decide (List.length (Prod.fst v31) = List.length (Prod.fst v31)) && Bool.true && Bool.true) (some (Prod.fst v31))) fun (v40 : List Int) => some (Sum.inr v40)) fun (v39 : List Int × List Int × Int ⊕ List Int) => some (Sum.inr v39)))
theorem l80 (F : Nat) (n : Int) : c80 F n = some (if n < 1 ∨ 16 < n then 3 else 0) := by
  unfold c80; simp only [l83]; rfl
theorem l75' {l : List Int} (h : l.length < 400) : c75 400 l = some (firstNZ l) := l75 h (by omega)
theorem step_eq {a : Int × Int × List (Int × Int × Int)} (hl : a.2.2.length ≤ 16) {x : List Int × Int × Int} (h0 : 0 ≤ x.2.2) (h1 : x.2.2 ≤ a.2.2.length) : s55 400 a x = s57 400 a x := by
  obtain ⟨A, N, L⟩ := a
  obtain ⟨out, n, i⟩ := x
  simp only at hl h0 h1
  unfold s55 s57
  by_cases hi : i < L.length
  · have hk : i.toNat < L.length := by omega
    simp only [h0, hi, hk, decide_true, cond_true, gd_true]
    generalize L.getD i.toNat (0, 0, 0) = r
    obtain ⟨H, P, T⟩ := r
    have hw : w64 (i + 1) = i + 1 := w64_in (by omega) (by omega)
    have hw2 : w64 ((L.length : Int) - 1) = L.length - 1 := w64_in (by omega) (by omega)
    simp only [l80, l83, l76, l82, Option.bind_some, nilT, hw, hw2]
    by_cases hH : H < 1 ∨ 16 < H
    · simp [hH, l75', firstNZ]
    · by_cases hP : P < 0 ∨ 10 < P
      · simp [hH, hP, l75', firstNZ]
      · by_cases hT : T < 0 ∨ 160 < T
        · simp [hH, hP, hT, l75', firstNZ]
        · have hne : H ≠ 0 := by omega
          generalize w64 (H * N) = hn
          generalize w64 (w64 (H * P) + T) = nx
          generalize w64 (Int.tdiv n H) = dv
          generalize (decide (H = 1) && (decide (P = 0) && (decide (T = 0) && true))) = q
          by_cases hn' : hn < n
          · simp [hH, hP, hT, hn', l75', firstNZ]
          · by_cases hlast : i = L.length - 1
            · have e1 : ¬ i + 1 < L.length := by omega
              have e2 : i + 1 = L.length := by omega
              by_cases h4 : n < nx <;> cases q <;> simp [hH, hP, hT, hn', hne, hlast, e1, e2, h4, l75', firstNZ, gd_true]
            · have e1 : i + 1 < L.length := by omega
              have e2 : ¬ i + 1 = L.length := by omega
              by_cases h4 : n < nx <;> by_cases h5 : dv < P <;> simp [hH, hP, hT, hn', hne, hlast, e1, e2, h4, h5, l75', firstNZ, gd_true]
  · simp only [hi, decide_false, cond_false]

/-- what the loop of the rounds ends with -/
def Ended : List Int × List Int × Int ⊕ List Int → Prop
  | .inl x => x.2.1 = [] ∧ x.2.2 ≠ 0
  | .inr out => out.length ≤ 16
theorem step_ends {a : Int × Int × List (Int × Int × Int)} (hl : a.2.2.length ≤ 16) {x : List Int × Int × Int} (h0 : 0 ≤ x.2.2) (h1 : x.2.2 ≤ a.2.2.length) (h2 : (x.1.length : Int) = x.2.2) :
    (∃ y, s57 400 a x = some (.inl y) ∧ (0 ≤ y.2.2 ∧ y.2.2 ≤ a.2.2.length ∧ (y.1.length : Int) = y.2.2) ∧ a.2.2.length - y.2.2.toNat < a.2.2.length - x.2.2.toNat) ∨ ∃ b, s57 400 a x = some (.inr b) ∧ Ended b := by
  obtain ⟨A, N, L⟩ := a
  obtain ⟨out, n, i⟩ := x
  simp only at hl h0 h1 h2
  unfold s57
  by_cases hi : i < L.length
  · have hk : i.toNat < L.length := by omega
    have hw : w64 (i + 1) = i + 1 := w64_in (by omega) (by omega)
    simp only [h0, hi, hk, decide_true, cond_true, gd_true, l82, Option.bind_some, nilT, hw]
    generalize L.getD i.toNat (0, 0, 0) = r
    obtain ⟨H, P, T⟩ := r
    have g1 : (out.length + 1) * 8 ≤ 140737488355328 := by omega
    have g2 : out.length + 1 ≤ 9223372036854775807 := by omega
    simp only
    generalize w64 (H * N) = hn
    generalize w64 (w64 (H * P) + T) = nx
    generalize w64 (Int.tdiv n H) = dv
    generalize (decide (H = 1) && (decide (P = 0) && (decide (T = 0) && true))) = q
    by_cases hH : H < 1 ∨ 16 < H
    · right; exact ⟨.inl (out, [], 3), by simp [hH], rfl, show (3 : Int) ≠ 0 by decide⟩
    · by_cases hP : P < 0 ∨ 10 < P
      · right; exact ⟨.inl (out, [], 3), by simp [hH, hP], rfl, show (3 : Int) ≠ 0 by decide⟩
      · by_cases hT : T < 0 ∨ 160 < T
        · right; exact ⟨.inl (out, [], 3), by simp [hH, hP, hT], rfl, show (3 : Int) ≠ 0 by decide⟩
        · have hne : H ≠ 0 := by omega
          by_cases hn' : hn < n
          · right; exact ⟨.inl (out, [], 17), by simp [hH, hP, hT, hn'], rfl, show (17 : Int) ≠ 0 by decide⟩
          · have go : ∀ (z : Int), (∃ y, some (Sum.inl (out ++ [n], z, i + 1)) = (some (Sum.inl y) : Option ((List Int × Int × Int) ⊕ (List Int × List Int × Int ⊕ List Int))) ∧ (0 ≤ y.2.2 ∧ y.2.2 ≤ L.length ∧ (y.1.length : Int) = y.2.2) ∧ L.length - y.2.2.toNat < L.length - i.toNat) :=
              fun z => ⟨_, rfl, ⟨by simp; omega, by simp; omega, by simp; omega⟩, by simp; omega⟩
            by_cases e1 : i + 1 < L.length
            · have e2 : ¬ i + 1 = L.length := by omega
              by_cases h4 : n < nx
              · right; exact ⟨.inl (out, [], 23), by simp [hH, hP, hT, hn', e1, h4], rfl, show (23 : Int) ≠ 0 by decide⟩
              · by_cases h5 : dv < P
                · right; exact ⟨.inl (out, [], 23), by simp [hH, hP, hT, hn', hne, e1, h4, h5, gd_true], rfl, show (23 : Int) ≠ 0 by decide⟩
                · left
                  obtain ⟨y, hy, hy2⟩ := go nx
                  exact ⟨y, by rw [← hy]; simp [hH, hP, hT, hn', hne, e1, e2, h4, h5, gd_true]; rw [gd_dec g1, gd_dec (by omega)], hy2⟩
            · have e2 : i + 1 = L.length := by omega
              cases q with
              | true =>
                left
                obtain ⟨y, hy, hy2⟩ := go nx
                exact ⟨y, by rw [← hy]; simp [hH, hP, hT, hn', hne, e1, e2, gd_true]; rw [gd_dec g1, gd_dec (by omega)], hy2⟩
              | false => right; exact ⟨.inl (out, [], 1), by simp [hH, hP, hT, hn', e1, e2], rfl, show (1 : Int) ≠ 0 by decide⟩
  · right
    exact ⟨.inr out, by simp [hi, gd_true], by show out.length ≤ 16; omega⟩

theorem l95 (A N : Int) : c95 400 (A, N) = some (if A < 0 ∨ 160 < A then 3 else if N < 1 ∨ 10 < N then 3 else 0) := by
  unfold c95
  simp only [l83, Option.bind_some, nilT]
  rw [l75' (by simp)]
  by_cases h : A < 0 ∨ 160 < A <;> by_cases k : N < 1 ∨ 10 < N <;> simp [h, k, firstNZ]
def res55 : List Int × List Int × Int ⊕ List Int → List Int × Int
  | .inl x => (x.2.1, x.2.2)
  | .inr out => (out, 0)
theorem numbers {A N : Int} {L : List (Int × Int × Int)} (hA : ¬ (A < 0 ∨ 160 < A)) (hN : ¬ (N < 1 ∨ 10 < N)) :
    ∃ r : List Int × Int, c55 400 (A, N, L) = some r ∧ c57 400 (A, N, L) = some r ∧ ((r.2 = 0 ∧ r.1.length ≤ 16) ∨ (r.2 ≠ 0 ∧ r.1 = [])) := by
  have h55 : c55 400 (A, N, L) = Option.bind (c95 400 (A, N)) fun v56 => Option.bind (c76 400 (decide ((L.length : Int) = 0), 12)) fun v57 => Option.bind (c76 400 (decide ((16 : Int) < L.length), 5)) fun v58 => Option.bind (c75 400 [v56, v57, v58]) fun v59 =>
      bif !decide (v59 = 0) then some ([], v59) else Option.bind (loopO (s55 400 (A, N, L)) 400 ([], A, 0)) fun v60 => Sum.elim (fun v61 => some (v61.2.1, v61.2.2)) (fun v62 => gd (decide (0 + v62.length ≤ v62.length) && true) (some (List.take v62.length (List.drop 0 v62), 0))) v60 := rfl
  have h57 : c57 400 (A, N, L) = bif decide ((L.length : Int) = 0) then some ([], 12) else bif decide ((16 : Int) < L.length) then some ([], 5) else Option.bind (loopO (s57 400 (A, N, L)) 400 ([], A, 0)) fun v60 => Sum.elim (fun v61 => some (v61.2.1, v61.2.2)) (fun v62 => gd (decide (0 + v62.length ≤ v62.length) && true) (some (List.take v62.length (List.drop 0 v62), 0))) v60 := rfl
  rw [h55, h57]
  simp only [l95, l76, hA, hN, if_false, Option.bind_some]
  rw [l75' (by simp)]
  by_cases h0 : (L.length : Int) = 0
  · exact ⟨([], 12), by simp [h0, firstNZ], by simp [h0], .inr ⟨by decide, rfl⟩⟩
  · have hne : L ≠ [] := by rintro rfl; simp at h0
    by_cases h16 : (16 : Int) < L.length
    · exact ⟨([], 5), by simp [h16, hne, firstNZ], by simp [h16, hne], .inr ⟨by decide, rfl⟩⟩
    · have hl : L.length ≤ 16 := by omega
      have he : loopO (s55 400 (A, N, L)) 400 ([], A, 0) = loopO (s57 400 (A, N, L)) 400 ([], A, 0) :=
        loopO_congr (fun (x : List Int × Int × Int) => 0 ≤ x.2.2 ∧ x.2.2 ≤ (L.length : Int) ∧ (x.1.length : Int) = x.2.2) (fun x hx => by
          have e := step_eq (a := (A, N, L)) hl hx.1 hx.2.1
          refine ⟨e, fun y hy => ?_⟩
          rw [e] at hy
          rcases step_ends (a := (A, N, L)) hl hx.1 hx.2.1 hx.2.2 with ⟨z, h1, h2, _⟩ | ⟨b, h1, _⟩
          · rw [h1] at hy; cases hy; exact h2
          · rw [h1] at hy; cases hy) 400 _ ⟨by simp, by simp, by simp⟩
      obtain ⟨b, hb, hp⟩ := loopO_ex (step := s57 400 (A, N, L)) (fun (x : List Int × Int × Int) => 0 ≤ x.2.2 ∧ x.2.2 ≤ (L.length : Int) ∧ (x.1.length : Int) = x.2.2) (fun x => L.length - x.2.2.toNat) Ended
        (fun x hx => step_ends (a := (A, N, L)) hl hx.1 hx.2.1 hx.2.2) 400 ([], A, 0) ⟨by simp, by simp, by simp⟩ (by simp; omega)
      rw [he, hb]
      simp only [h0, h16, decide_false, if_false, cond_false, firstNZ, if_true, decide_true, Bool.not_true, Option.bind_some]
      cases b with
      | inl x => exact ⟨(x.2.1, x.2.2), rfl, rfl, .inr ⟨hp.2, hp.1⟩⟩
      | inr out => exact ⟨(out, 0), by simp [gd_true], by simp [gd_true], .inl ⟨rfl, hp⟩⟩
end Go.Proofs.Tryz

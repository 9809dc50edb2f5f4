/- Plain law of SeedCharts, whole. -/
import Derived.Test.YtdghdcclhnoigaaGreatDoorXP8d
set_option maxRecDepth 100000
set_option linter.unusedVariables false
namespace Go.Proofs.Tryz
open Go Go.Sx
noncomputable def s8 (p : List (Int × Int × Int) × Int) (q : List (Int × Int × Int)) : Int → Option (Int ⊕ (Bool ⊕ Unit)) := (fun (v67 : Int) => bif Decidable.decide (v67 < (↑(List.length (Prod.fst p)) : Int)) then (gd (Decidable.decide ((0 : Int) ≤ v67)) (gd (Decidable.decide (v67 < (↑(List.length (Prod.fst p)) : Int))) (gd (Decidable.decide (Int.toNat v67 < List.length (Prod.fst p))) (gd (Decidable.decide ((0 : Int) ≤ v67)) (gd (Decidable.decide (v67 < (↑(List.length q) : Int))) (gd (Decidable.decide (Int.toNat v67 < List.length q)) (bif !(Decidable.decide (Prod.fst (List.getD (Prod.fst p) (Int.toNat v67) ((0 : Int), (0 : Int), (0 : Int))) = Prod.fst (List.getD q (Int.toNat v67) ((0 : Int), (0 : Int), (0 : Int)))) && (Decidable.decide (Prod.fst (Prod.snd (List.getD (Prod.fst p) (Int.toNat v67) ((0 : Int), (0 : Int), (0 : Int)))) = Prod.fst (Prod.snd (List.getD q (Int.toNat v67) ((0 : Int), (0 : Int), (0 : Int))))) && (Decidable.decide (Prod.snd (Prod.snd (List.getD (Prod.fst p) (Int.toNat v67) ((0 : Int), (0 : Int), (0 : Int)))) = Prod.snd (Prod.snd (List.getD q (Int.toNat v67) ((0 : Int), (0 : Int), (0 : Int))))) && Bool.true))) then (some (Sum.inr (Sum.inl Bool.false))) else (some (Sum.inl (Go.Sx.w64 (v67 + (1 : Int)))))))))))) else (some (Sum.inr (Sum.inr Unit.unit))))
theorem eq3_eq : ∀ {l m : List (Int × Int × Int)}, eq3 l m = true → l = m
  | [], [], _ => rfl
  | [], _ :: _, h => by cases h
  | _ :: _, [], h => by cases h
  | (a, b, c) :: l, (a', b', c') :: m, h => by
    simp only [eq3, Bool.and_eq_true, decide_eq_true_eq] at h
    obtain ⟨h1, h2, h3, h4⟩ := h
    subst h1; subst h2; subst h3
    rw [eq3_eq h4]
theorem s8_run {l : List (Int × Int × Int)} (hl : l.length < 20) : loopO (s8 (l, 0) l) 400 0 = some (.inr ()) := by
  obtain ⟨b, hb, hp⟩ := loopO_ex (step := s8 (l, 0) l) (fun v => 0 ≤ v ∧ v ≤ (l.length : Int)) (fun v => l.length - v.toNat) (fun b => b = .inr ())
    (fun v ⟨h0, h1⟩ => by
      by_cases hv : v < l.length
      · have hk : v.toNat < l.length := by omega
        left
        exact ⟨v + 1, by simp [s8, h0, hv, hk, gd_true, w64_in (n := v + 1) (by omega) (by omega)], ⟨by omega, by omega⟩, by omega⟩
      · right
        exact ⟨.inr (), by simp [s8, hv], rfl⟩) 400 0 ⟨by omega, by omega⟩ (by simp; omega)
  rw [hb, hp]
theorem c8_eq' (F : Nat) (a : Int × Int × List (Int × Int × Int)) : c8 F a = bif Decidable.decide ((20 : Int) < (↑(List.length (Prod.snd (Prod.snd a))) : Int)) then (some (Bool.true)) else (Option.bind (Go.Proofs.Tryz.c54 F (Prod.fst a, Prod.fst (Prod.snd a))) fun (v48 : List (Int × Int × Int) × Int) => Option.bind (Go.Proofs.Tryz.c55 F (Prod.fst a, Prod.fst (Prod.snd a), Prod.snd (Prod.snd a))) fun (v49 : List Int × Int) => Option.bind (Go.Proofs.Tryz.c26 F (Prod.fst a, (0 : Int), (160 : Int))) fun (v50 : Int) => Option.bind (Go.Proofs.Tryz.c26 F (Prod.fst (Prod.snd a), (1 : Int), (10 : Int))) fun (v51 : Int) => Option.bind (Go.Proofs.Tryz.c25 F (v50 :: v51 :: Go.Sx.nilT Int)) fun (v52 : Int) => bif !Decidable.decide (v52 = (0 : Int)) then (Option.bind (bif Decidable.decide ((↑(List.length (Prod.fst v48)) : Int) = (0 : Int)) then (bif Decidable.decide (Prod.snd v48 = v52) then (Option.bind (Go.Proofs.Tryz.c24 F (Prod.fst v49, Prod.snd v49, v52, Go.Sx.nilT Int)) fun (v54 : Bool) => some (v54)) else (some (Bool.false))) else (some (Bool.false))) fun (v53 : Bool) => some (v53)) else (gd (Decidable.decide (Prod.fst (Prod.snd a) ≠ (0 : Int))) (Option.bind (bif Decidable.decide ((16 : Int) < Go.Sx.w64 (Int.tdiv (Go.Sx.w64 (Go.Sx.w64 (Prod.fst a + Prod.fst (Prod.snd a)) - (1 : Int))) (Prod.fst (Prod.snd a)))) then (Option.bind (bif !Decidable.decide ((↑(List.length (Prod.fst v48)) : Int) = (0 : Int)) then (some (Bool.true)) else (some (!Decidable.decide (Prod.snd v48 = (5 : Int))))) fun (v61 : Bool) => bif v61 then (some (Sum.inl Bool.false)) else (some (Sum.inr Unit.unit))) else (Option.bind (Go.Proofs.Tryz.c56 F (Prod.fst a, Prod.fst (Prod.snd a))) fun (v62 : List (Int × Int × Int)) => Option.bind (bif !Decidable.decide (Prod.snd v48 = (0 : Int)) then (some (Bool.true)) else (some (!Decidable.decide ((↑(List.length (Prod.fst v48)) : Int) = (↑(List.length v62) : Int))))) fun (v63 : Bool) => bif v63 then (some (Sum.inl Bool.false)) else (Option.bind (loopO (s8 v48 v62) F ((0 : Int))) fun (v64 : Bool ⊕ Unit) => Sum.elim (fun (v65 : Bool) => some (Sum.inl v65)) (fun (v66 : Unit) => some (Sum.inr Unit.unit)) (v64)))) fun (v55 : Bool ⊕ Unit) => Sum.elim (fun (v56 : Bool) => some (v56)) (fun (v57 : Unit) => Option.bind (Go.Proofs.Tryz.c58 F (Prod.snd (Prod.snd a))) fun (v58 : List (Int × Int × Int)) => Option.bind (Go.Proofs.Tryz.c57 F (Prod.fst a, Prod.fst (Prod.snd a), v58)) fun (v59 : List Int × Int) => Option.bind (Go.Proofs.Tryz.c24 F (Prod.fst v49, Prod.snd v49, Prod.snd v59, Prod.fst v59)) fun (v60 : Bool) => some (v60)) (v55)))) := rfl

theorem law8 (a : Int × Int × List (Int × Int × Int)) : c8 400 a = some true := by
  obtain ⟨A, N, L⟩ := a
  rw [c8_eq']
  by_cases h20 : (20 : Int) < L.length
  · simp [h20]
  · simp only [h20, decide_false, cond_false]
    by_cases hb : (A < 0 ∨ 160 < A) ∨ (N < 1 ∨ 10 < N)
    · have hv : ∃ v, v ≠ 0 ∧ c95 400 (A, N) = some v ∧ firstNZ [if A < 0 ∨ 160 < A then 3 else 0, if N < 1 ∨ 10 < N then 3 else 0] = v := by
        refine ⟨3, by decide, ?_, ?_⟩ <;> rcases hb with h | h <;> by_cases h' : A < 0 ∨ 160 < A <;> simp [l95, firstNZ, h, h']
      obtain ⟨v, hv0, h95, hf⟩ := hv
      have h54 : c54 400 (A, N) = some ([], v) := by
        unfold c54
        simp only [h95, Option.bind_some, hv0, decide_false, Bool.not_false, cond_true, nilT]
      have h55 : c55 400 (A, N, L) = some ([], v) := by
        unfold c55
        simp only [h95, l76, Option.bind_some, nilT]
        rw [l75' (by simp)]
        simp [firstNZ, hv0]
      simp only [h54, h55, l26, Option.bind_some, nilT]
      rw [l25 (by simp) (by simp), hf]
      simp [hv0, l24_err hv0 rfl rfl]
    · have hA : ¬ (A < 0 ∨ 160 < A) := fun h => hb (.inl h)
      have hN : ¬ (N < 1 ∨ 10 < N) := fun h => hb (.inr h)
      obtain ⟨r, h55, h57, hr⟩ := numbers (L := L) hA hN
      have hc := chk_in hA hN
      unfold chk at hc
      cases h54 : c54 400 (A, N) with
      | none => rw [h54] at hc; cases hc
      | some c =>
        rw [h54] at hc
        simp only at hc
        have hfin : Option.bind (c58 400 L) (fun (v58 : List (Int × Int × Int)) => Option.bind (c57 400 (A, N, v58)) fun (v59 : List Int × Int) => Option.bind (c24 400 (r.1, r.2, v59.2, v59.1)) fun (v60 : Bool) => some v60) = some true := by
          rw [l58 (by omega)]
          simp only [Option.bind_some, h57]
          rcases hr with ⟨h1, h2⟩ | ⟨h1, h2⟩
          · rw [h1, l24_ok (by omega)]; rfl
          · rw [l24_err h1 h2 rfl]; rfl
        have hne : N ≠ 0 := by omega
        simp only [h55, l26, hA, hN, if_false, Option.bind_some, nilT, hne, ne_eq, not_false_eq_true, decide_true, gd_true]
        rw [l25 (by simp) (by simp)]
        simp only [firstNZ, if_true, Option.bind_some, decide_true, Bool.not_true, cond_false]
        by_cases hu : 16 < upI A N
        · simp only [hu, decide_true, cond_true, Bool.and_eq_true, decide_eq_true_eq] at hc
          unfold upI at hu
          obtain ⟨hc1, hc2⟩ := hc
          have hc1 : c.1 = [] := by simpa using hc1
          simp only [hu, decide_true, cond_true, hc1, hc2, List.length_nil, Int.natCast_zero, Bool.not_true, cond_false, Option.bind_some, Sum.elim_inr]
          exact hfin
        · simp only [hu, decide_false, cond_false] at hc
          unfold upI at hu
          cases h56 : c56 400 (A, N) with
          | none => rw [h56] at hc; cases hc
          | some w =>
            rw [h56] at hc
            simp only [Bool.and_eq_true, decide_eq_true_eq] at hc
            obtain ⟨hc1, hc2, hc3⟩ := hc
            have hc4 := eq3_eq hc3
            clear hc3
            obtain ⟨c, e⟩ := c
            simp only at hc1 hc2 hc4
            subst hc1; subst hc4
            simp only [hu, decide_false, cond_false, Option.bind_some, decide_true, Bool.not_true, s8_run hc2, Sum.elim_inr]
            exact hfin
end Go.Proofs.Tryz

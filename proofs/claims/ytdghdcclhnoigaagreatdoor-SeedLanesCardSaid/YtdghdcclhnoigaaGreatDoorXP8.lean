/- Plain law of SeedCharts (under way). -/
import Derived.Test.YtdghdcclhnoigaaGreatDoorXTryzL8
import Derived.Test.YtdghdcclhnoigaaGreatDoorXSxPl
set_option maxRecDepth 100000
set_option linter.unusedVariables false
namespace Go.Proofs.Tryz
open Go Go.Sx
theorem l82 (F : Nat) (n lo hi : Int) : c82 F (n, lo, hi) = some (decide (n < lo ∨ hi < n)) := by
  unfold c82
  by_cases h : n < lo <;> by_cases k : hi < n <;> simp [h, k]
theorem l26 (F : Nat) (n lo hi : Int) : c26 F (n, lo, hi) = some (if n < lo ∨ hi < n then 3 else 0) := by
  unfold c26
  simp only [l82, Option.bind_some]
  by_cases h : n < lo ∨ hi < n <;> simp [h]
theorem l76 (F : Nat) (b : Bool) (e : Int) : c76 F (b, e) = some (if b then e else 0) := by
  unfold c76
  cases b <;> rfl
theorem l83 (F : Nat) (n lo hi : Int) : c83 F (n, lo, hi) = some (if n < lo ∨ hi < n then 3 else 0) := by
  unfold c83
  simp only [l76]
  by_cases h : n < lo <;> by_cases k : hi < n <;> simp [h, k]
def firstNZ : List Int → Int
  | [] => 0
  | x :: l => if x = 0 then firstNZ l else x
theorem firstNZ_drop {l : List Int} {k : Nat} (hk : k < l.length) : firstNZ (l.drop k) = if l.getD k 0 = 0 then firstNZ (l.drop (k + 1)) else l.getD k 0 := by
  rw [List.drop_eq_getElem_cons hk]
  simp only [firstNZ, List.getD, List.getElem?_eq_getElem hk, Option.getD_some]
theorem l75 {F : Nat} {l : List Int} (hF : l.length < F) (hl : l.length ≤ 1000) : c75 F l = some (firstNZ l) := by
  unfold c75
  obtain ⟨b, h1, h2⟩ := loopO_ex (step := fun (v13 : Int) => bif Decidable.decide (v13 < (↑(List.length l) : Int)) then (gd (Decidable.decide ((0 : Int) ≤ v13)) (gd (Decidable.decide (v13 < (↑(List.length l) : Int))) (gd (Decidable.decide (Int.toNat v13 < List.length l)) (bif !Decidable.decide (List.getD l (Int.toNat v13) (0 : Int) = (0 : Int)) then (some (Sum.inr (Sum.inl (List.getD l (Int.toNat v13) (0 : Int))))) else (some (Sum.inl (Go.Sx.w64 (v13 + (1 : Int))))))))) else (some (Sum.inr (Sum.inr Unit.unit))))
    (fun v => 0 ≤ v ∧ v ≤ l.length ∧ firstNZ l = firstNZ (l.drop v.toNat)) (fun v => l.length - v.toNat) (fun b => Sum.elim (fun (v11 : Int) => some (v11)) (fun (v12 : Unit) => some ((0 : Int))) b = some (firstNZ l))
    (fun v ⟨h0, h1, h2⟩ => by
      by_cases hv : v < l.length
      · have hk : v.toNat < l.length := by omega
        simp only [h0, hv, hk, decide_true, cond_true, gd_true]
        rw [firstNZ_drop hk] at h2
        by_cases hz : l.getD v.toNat 0 = 0
        · left
          refine ⟨v + 1, ?_, ⟨by omega, by omega, ?_⟩, by omega⟩
          · simp only [hz, decide_true, Bool.not_true, cond_false]
            rw [w64_in (by omega) (by omega)]
          · rw [if_pos hz] at h2
            rw [h2, show (v + 1).toNat = v.toNat + 1 by omega]
        · right
          refine ⟨.inl (l.getD v.toNat 0), by simp only [hz, decide_false, Bool.not_false, cond_true], ?_⟩
          rw [if_neg hz] at h2
          simp [h2]
      · right
        refine ⟨.inr (), by simp only [hv, decide_false, cond_false], ?_⟩
        have : v.toNat = l.length := by omega
        rw [this, List.drop_length] at h2
        simp [h2, firstNZ])
    F 0 ⟨by omega, by omega, by simp⟩ (by simpa using hF)
  rw [h1]
  exact h2
theorem l25 {F : Nat} {l : List Int} (hF : l.length < F) (hl : l.length ≤ 1000) : c25 F l = some (firstNZ l) := by
  unfold c25
  obtain ⟨b, h1, h2⟩ := loopO_ex (step := fun (v13 : Int) => bif Decidable.decide (v13 < (↑(List.length l) : Int)) then (gd (Decidable.decide ((0 : Int) ≤ v13)) (gd (Decidable.decide (v13 < (↑(List.length l) : Int))) (gd (Decidable.decide (Int.toNat v13 < List.length l)) (bif !Decidable.decide (List.getD l (Int.toNat v13) (0 : Int) = (0 : Int)) then (gd (Decidable.decide ((0 : Int) ≤ v13)) (gd (Decidable.decide (v13 < (↑(List.length l) : Int))) (gd (Decidable.decide (Int.toNat v13 < List.length l)) (some (Sum.inr (Sum.inl (List.getD l (Int.toNat v13) (0 : Int)))))))) else (some (Sum.inl (Go.Sx.w64 (v13 + (1 : Int))))))))) else (some (Sum.inr (Sum.inr Unit.unit))))
    (fun v => 0 ≤ v ∧ v ≤ l.length ∧ firstNZ l = firstNZ (l.drop v.toNat)) (fun v => l.length - v.toNat) (fun b => Sum.elim (fun (v11 : Int) => some (v11)) (fun (v12 : Unit) => some ((0 : Int))) b = some (firstNZ l))
    (fun v ⟨h0, h1, h2⟩ => by
      by_cases hv : v < l.length
      · have hk : v.toNat < l.length := by omega
        simp only [h0, hv, hk, decide_true, cond_true, gd_true]
        rw [firstNZ_drop hk] at h2
        by_cases hz : l.getD v.toNat 0 = 0
        · left
          refine ⟨v + 1, ?_, ⟨by omega, by omega, ?_⟩, by omega⟩
          · simp only [hz, decide_true, Bool.not_true, cond_false]
            rw [w64_in (by omega) (by omega)]
          · rw [if_pos hz] at h2
            rw [h2, show (v + 1).toNat = v.toNat + 1 by omega]
        · right
          refine ⟨.inl (l.getD v.toNat 0), by simp only [hz, decide_false, Bool.not_false, cond_true], ?_⟩
          rw [if_neg hz] at h2
          simp [h2]
      · right
        refine ⟨.inr (), by simp only [hv, decide_false, cond_false], ?_⟩
        have : v.toNat = l.length := by omega
        rw [this, List.drop_length] at h2
        simp [h2, firstNZ])
    F 0 ⟨by omega, by omega, by simp⟩ (by simpa using hF)
  rw [h1]
  exact h2
end Go.Proofs.Tryz

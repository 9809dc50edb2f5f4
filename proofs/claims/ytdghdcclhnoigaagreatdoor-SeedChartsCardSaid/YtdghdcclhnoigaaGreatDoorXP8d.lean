/- Plain law of SeedCharts: lists that are the same, copies; the whole. -/
import Derived.Test.YtdghdcclhnoigaaGreatDoorXP8b
import Derived.Test.YtdghdcclhnoigaaGreatDoorXP8c
set_option maxRecDepth 100000
set_option linter.unusedVariables false
namespace Go.Proofs.Tryz
open Go Go.Sx
noncomputable def s71 (a : List Int × List Int) : Int → Option (Int ⊕ (Bool ⊕ Unit)) := (fun (v13 : Int) => bif Decidable.decide (v13 < (↑(List.length (Prod.fst a)) : Int)) then (gd (Decidable.decide ((0 : Int) ≤ v13)) (gd (Decidable.decide (v13 < (↑(List.length (Prod.fst a)) : Int))) (gd (Decidable.decide (Int.toNat v13 < List.length (Prod.fst a))) (gd (Decidable.decide ((0 : Int) ≤ v13)) (gd (Decidable.decide (v13 < (↑(List.length (Prod.snd a)) : Int))) (gd (Decidable.decide (Int.toNat v13 < List.length (Prod.snd a))) (bif !Decidable.decide (List.getD (Prod.fst a) (Int.toNat v13) (0 : Int) = List.getD (Prod.snd a) (Int.toNat v13) (0 : Int)) then (some (Sum.inr (Sum.inl Bool.false))) else (some (Sum.inl (Go.Sx.w64 (v13 + (1 : Int)))))))))))) else (some (Sum.inr (Sum.inr Unit.unit))))
/-- the same list, told by the program -/
theorem l71 {l : List Int} (hl : l.length < 400) : c71 400 (l, l) = some true := by
  obtain ⟨b, hb, hp⟩ := loopO_ex (step := s71 (l, l)) (fun v => 0 ≤ v ∧ v ≤ (l.length : Int)) (fun v => l.length - v.toNat) (fun b => b = .inr ())
    (fun v ⟨h0, h1⟩ => by
      by_cases hv : v < l.length
      · have hk : v.toNat < l.length := by omega
        left
        exact ⟨v + 1, by simp [s71, h0, hv, hk, gd_true, w64_in (n := v + 1) (by omega) (by omega)], ⟨by omega, by omega⟩, by omega⟩
      · right
        exact ⟨.inr (), by simp [s71, hv], rfl⟩) 400 0 ⟨by omega, by omega⟩ (by simpa using hl)
  subst hp
  have h : c71 400 (l, l) = bif !decide ((l.length : Int) = l.length) then some false else Option.bind (loopO (s71 (l, l)) 400 0) fun v => Sum.elim (fun v => some v) (fun _ => some true) v := rfl
  rw [h, hb]
  simp
theorem l24_err {l : List Int} {e b : Int} {w : List Int} (hb : b ≠ 0) (hl : l = []) (he : e = b) : c24 400 (l, e, b, w) = some true := by
  unfold c24; simp [hb, hl, he]
theorem l24_ok {l : List Int} (hl : l.length < 400) : c24 400 (l, 0, 0, l) = some true := by
  unfold c24; simp [l71 hl]
noncomputable def s58 (a : List (Int × Int × Int)) : List (Int × Int × Int) × Int → Option ((List (Int × Int × Int) × Int) ⊕ List (Int × Int × Int)) := (fun (v10 : List (Int × Int × Int) × Int) => bif Decidable.decide (Prod.snd v10 < (↑(List.length a) : Int)) then (gd (Decidable.decide ((0 : Int) ≤ Prod.snd v10)) (gd (Decidable.decide (Prod.snd v10 < (↑(List.length a) : Int))) (gd (Decidable.decide (Int.toNat (Prod.snd v10) < List.length a)) (gd (Decidable.decide (List.length (Prod.fst v10) = List.length (Prod.fst v10))) (gd (Decidable.decide (List.length (Prod.fst v10 ++ (Prod.fst (List.getD a (Int.toNat (Prod.snd v10)) ((0 : Int), (0 : Int), (0 : Int))), Prod.fst (Prod.snd (List.getD a (Int.toNat (Prod.snd v10)) ((0 : Int), (0 : Int), (0 : Int)))), Prod.snd (Prod.snd (List.getD a (Int.toNat (Prod.snd v10)) ((0 : Int), (0 : Int), (0 : Int))))) :: Go.Sx.nilT (Int × Int × Int)) * (24 : Nat) ≤ (140737488355328 : Nat))) (gd (Decidable.decide (List.length (Prod.fst v10 ++ (Prod.fst (List.getD a (Int.toNat (Prod.snd v10)) ((0 : Int), (0 : Int), (0 : Int))), Prod.fst (Prod.snd (List.getD a (Int.toNat (Prod.snd v10)) ((0 : Int), (0 : Int), (0 : Int)))), Prod.snd (Prod.snd (List.getD a (Int.toNat (Prod.snd v10)) ((0 : Int), (0 : Int), (0 : Int))))) :: Go.Sx.nilT (Int × Int × Int)) ≤ (9223372036854775807 : Nat))) (Option.bind (gd (Decidable.decide (List.length (Prod.fst v10 ++ (Prod.fst (List.getD a (Int.toNat (Prod.snd v10)) ((0 : Int), (0 : Int), (0 : Int))), Prod.fst (Prod.snd (List.getD a (Int.toNat (Prod.snd v10)) ((0 : Int), (0 : Int), (0 : Int)))), Prod.snd (Prod.snd (List.getD a (Int.toNat (Prod.snd v10)) ((0 : Int), (0 : Int), (0 : Int))))) :: Go.Sx.nilT (Int × Int × Int)) = List.length (Prod.fst v10 ++ (Prod.fst (List.getD a (Int.toNat (Prod.snd v10)) ((0 : Int), (0 : Int), (0 : Int))), Prod.fst (Prod.snd (List.getD a (Int.toNat (Prod.snd v10)) ((0 : Int), (0 : Int), (0 : Int)))), Prod.snd (Prod.snd (List.getD a (Int.toNat (Prod.snd v10)) ((0 : Int), (0 : Int), (0 : Int))))) :: Go.Sx.nilT (Int × Int × Int))) && Bool.true && (Bool.true && Bool.true)) (some ((Prod.fst v10 ++ (Prod.fst (List.getD a (Int.toNat (Prod.snd v10)) ((0 : Int), (0 : Int), (0 : Int))), Prod.fst (Prod.snd (List.getD a (Int.toNat (Prod.snd v10)) ((0 : Int), (0 : Int), (0 : Int)))), Prod.snd (Prod.snd (List.getD a (Int.toNat (Prod.snd v10)) ((0 : Int), (0 : Int), (0 : Int))))) :: Go.Sx.nilT (Int × Int × Int), Go.Sx.w64 (Prod.snd v10 + (1 : Int)))))) fun (v11 : List (Int × Int × Int) × Int) => some (Sum.inl v11)))))))) else (Option.bind (gd (Decidable.decide (List.length (Prod.fst v10) = List.length (Prod.fst v10)) && Bool.true && Bool.true) (some (Prod.fst v10))) fun (v12 : List (Int × Int × Int)) => some (Sum.inr v12)))
theorem l58 {l : List (Int × Int × Int)} (hl : l.length ≤ 20) : c58 400 l = some l := by
  obtain ⟨b, hb, hp⟩ := loopO_ex (step := s58 l) (fun x => 0 ≤ x.2 ∧ x.2 ≤ (l.length : Int) ∧ x.1 = l.take x.2.toNat) (fun x => l.length - x.2.toNat) (fun b => b = l)
    (fun x ⟨h0, h1, h2⟩ => by
      obtain ⟨out, i⟩ := x
      simp only at h0 h1 h2
      have hlen : out.length = i.toNat := by rw [h2, List.length_take]; omega
      by_cases hi : i < l.length
      · have hk : i.toNat < l.length := by omega
        have g1 : (out.length + 1) * 24 ≤ 140737488355328 := by omega
        have g2 : out.length ≤ 9223372036854775806 := by omega
        left
        refine ⟨(out ++ [l.getD i.toNat (0, 0, 0)], i + 1), ?_, ⟨by show 0 ≤ i + 1; omega, by show i + 1 ≤ _; omega, ?_⟩, by show l.length - (i + 1).toNat < l.length - i.toNat; omega⟩
        · simp [s58, h0, hi, hk, g1, g2, gd_true, nilT, w64_in (n := i + 1) (by omega) (by omega)]
        · show out ++ [l.getD i.toNat (0, 0, 0)] = l.take (i + 1).toNat
          rw [show (i + 1).toNat = i.toNat + 1 by omega, List.take_succ_eq_append_getElem hk, h2]
          simp [List.getD, List.getElem?_eq_getElem hk]
      · right
        refine ⟨out, by simp [s58, hi, gd_true], ?_⟩
        rw [h2, List.take_of_length_le (by omega)]) 400 ([], 0) ⟨by simp, by simp, by simp⟩ (by simp; omega)
  subst hp
  have h : c58 400 b = Option.bind (loopO (s58 b) 400 ([], 0)) fun v => gd (decide (0 + v.length ≤ v.length)) (some (List.take v.length (List.drop 0 v))) := rfl
  rw [h, hb]
  simp [gd_true]
end Go.Proofs.Tryz

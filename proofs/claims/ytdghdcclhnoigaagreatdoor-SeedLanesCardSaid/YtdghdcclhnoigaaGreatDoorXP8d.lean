/- Plain law of SeedCharts: lists that are the same, copies; the whole. -/
import Derived.Test.YtdghdcclhnoigaaGreatDoorXP8b
import Derived.Test.YtdghdcclhnoigaaGreatDoorXP8c
set_option maxRecDepth 100000
set_option linter.unusedVariables false
namespace Go.Proofs.Tryz
open Go Go.Sx
noncomputable def s71 (a : List Int × List Int) : Int → Option (Int ⊕ (Bool ⊕ Unit)) := (fun (v13 : Int) => bif Decidable.decide (v13 < (↑(List.length (Prod.fst a)) : Int)) then (gd (Decidable.decide ((0 : Int) ≤ v13)) (gd (Decidable.decide (v13 < (↑(List.length (Prod.fst a)) : Int))) (gd (Decidable.decide (Int.toNat v13 < List.length (Prod.fst a))) (gd (Decidable.decide ((0 : Int) ≤ v13)) (gd (Decidable.decide (v13 < (↑(List.length (Prod.snd a)) : Int))) (gd (Decidable.decide (Int.toNat v13 < List.length (Prod.snd a))) (bif !Decidable.decide (List.getD (Prod.fst a) (Int.toNat v13) (0 : Int) = List.getD (Prod.snd a) (Int.toNat v13) (0 : Int)) then (some (Sum.inr (Sum.inl Bool.false))) else (some (Sum.inl (Go.Sx.w64 (v13 + (1 : Int)))))))))))) else (some (Sum.inr (Sum.inr Unit.unit))))
theorem l71 {l : List Int} (hl : l.length < 400) : c71 400 (l, l) = some true := by
  obtain ⟨b, hb, hp⟩ := loopO_ex (step := s71 (l, l)) (fun v => 0 ≤ v ∧ v ≤ (l.length : Int)) (fun v => l.length - v.toNat) (fun b => b = .inr ())
    (fun v ⟨h0, h1⟩ => by
      by_cases hv : v < l.length
      · have hk : v.toNat < l.length := by omega
        left
        exact ⟨v + 1, by simp [s71, h0, hv, hk, gd_true, w64_in (n := v + 1) (by omega) (by omega)], ⟨by omega, by omega⟩, by omega⟩
      · right
        exact ⟨.inr (), by simp [s71, hv], rfl⟩) 400 0 ⟨by omega, by omega⟩ (by simpa using hl)
  subst hp
  have h : c71 400 (l, l) = bif !decide ((l.length : Int) = l.length) then some false else Option.bind (loopO (s71 (l, l)) 400 0) fun v => Sum.elim (fun v => some v) (fun _ => some true) v := rfl
  rw [h, hb]
  simp
theorem l24_err {l : List Int} {e b : Int} {w : List Int} (hb : b ≠ 0) (hl : l = []) (he : e = b) : c24 400 (l, e, b, w) = some true := by
  unfold c24; simp [hb, hl, he]
theorem l24_ok {l : List Int} (hl : l.length < 400) : c24 400 (l, 0, 0, l) = some true := by
  unfold c24; simp [l71 hl]
end Go.Proofs.Tryz

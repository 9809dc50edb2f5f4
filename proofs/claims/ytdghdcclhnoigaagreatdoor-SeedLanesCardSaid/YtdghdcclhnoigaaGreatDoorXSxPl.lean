/- Plain lemmas: loops as functions. -/
import Derived.Test.YtdghdcclhnoigaaGreatDoorXSxZd
set_option linter.unusedVariables false
namespace Go.Sx
open Go
theorem gd_true {X : Type} (x : Option X) : gd true x = x := rfl
theorem gd_of {X : Type} {c : Bool} {x : Option X} (h : c = true) : gd c x = x := by rw [h]; rfl
theorem gd_dec {X : Type} {p : Prop} [Decidable p] {x : Option X} (h : p) : gd (decide p) x = x := gd_of (decide_eq_true h)
theorem loopO_ex {σ β : Type} {step : σ → Option (σ ⊕ β)} (Inv : σ → Prop) (m : σ → Nat) (Post : β → Prop)
    (h : ∀ x, Inv x → (∃ y, step x = some (.inl y) ∧ Inv y ∧ m y < m x) ∨ ∃ b, step x = some (.inr b) ∧ Post b) : ∀ (F : Nat) (x : σ), Inv x → m x < F → ∃ b, loopO step F x = some b ∧ Post b
  | 0, x, _, hF => by omega
  | F + 1, x, hx, hF => by
    rcases h x hx with ⟨y, h1, h2, h3⟩ | ⟨b, h1, h2⟩
    · simp only [loopO, h1]
      exact loopO_ex Inv m Post h F y h2 (by omega)
    · simp only [loopO, h1]
      exact ⟨b, rfl, h2⟩
end Go.Sx

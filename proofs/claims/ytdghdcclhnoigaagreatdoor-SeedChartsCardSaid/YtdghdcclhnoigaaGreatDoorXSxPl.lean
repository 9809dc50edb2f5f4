/- Plain lemmas: loops as functions. -/
import Derived.Test.YtdghdcclhnoigaaGreatDoorXSxZd
set_option linter.unusedVariables false
namespace Go.Sx
open Go
theorem gd_true {X : Type} (x : Option X) : gd true x = x := rfl
theorem gd_of {X : Type} {c : Bool} {x : Option X} (h : c = true) : gd c x = x := by rw [h]; rfl
theorem gd_dec {X : Type} {p : Prop} [Decidable p] {x : Option X} (h : p) : gd (decide p) x = x := gd_of (decide_eq_true h)
/-- a loop that comes to an end -/
theorem loopO_ex {σ β : Type} {step : σ → Option (σ ⊕ β)} (Inv : σ → Prop) (m : σ → Nat) (Post : β → Prop)
    (h : ∀ x, Inv x → (∃ y, step x = some (.inl y) ∧ Inv y ∧ m y < m x) ∨ ∃ b, step x = some (.inr b) ∧ Post b) : ∀ (F : Nat) (x : σ), Inv x → m x < F → ∃ b, loopO step F x = some b ∧ Post b
  | 0, x, _, hF => by omega
  | F + 1, x, hx, hF => by
    rcases h x hx with ⟨y, h1, h2, h3⟩ | ⟨b, h1, h2⟩
    · simp only [loopO, h1]
      exact loopO_ex Inv m Post h F y h2 (by omega)
    · simp only [loopO, h1]
      exact ⟨b, rfl, h2⟩
/-- two loops that go alike -/
theorem loopO_congr {σ β : Type} {s1 s2 : σ → Option (σ ⊕ β)} (Inv : σ → Prop) (h : ∀ x, Inv x → s1 x = s2 x ∧ ∀ y, s1 x = some (.inl y) → Inv y) : ∀ (F : Nat) (x : σ), Inv x → loopO s1 F x = loopO s2 F x
  | 0, x, _ => rfl
  | F + 1, x, hx => by
    obtain ⟨h1, h2⟩ := h x hx
    simp only [loopO, ← h1]
    cases e : s1 x with
    | none => rfl
    | some r => cases r with
      | inl y => exact loopO_congr Inv h F y (h2 y e)
      | inr b => rfl

end Go.Sx

/- Plain lemmas: maps of data. -/
import Derived.Test.YtdghdcclhnoigaaGreatDoorXSxPm
set_option linter.unusedVariables false
set_option linter.unusedSimpArgs false
namespace Go.Sx
open Go
theorem mfind_shift {K V : Type} {eq : K → K → Bool} {k : K} : ∀ (l : List (K × V)) (n : Nat), mfind eq k l n = (mfind eq k l 0).map fun p => (n + p.1, p.2)
  | [], n => rfl
  | e :: l, n => by
    simp only [mfind]
    cases eq k e.1 with
    | true => simp
    | false =>
      simp only []
      rw [mfind_shift l (n + 1), mfind_shift l (0 + 1)]
      cases mfind eq k l 0 with
      | none => rfl
      | some p => simp; omega
theorem mgetD_cons {K V : Type} {eq : K → K → Bool} {k : K} {e : K × V} {l : List (K × V)} {z : V} : mgetD eq k (e :: l) z = if eq k e.1 = true then e.2 else mgetD eq k l z := by
  unfold mgetD
  simp only [mfind]
  cases eq k e.1 with
  | true => simp
  | false =>
    simp only []
    rw [mfind_shift l (0 + 1)]
    cases mfind eq k l 0 with
    | none => simp
    | some p => simp
theorem mput_nil {K V : Type} {eq : K → K → Bool} {k : K} {x : V} : mput eq k x [] = [(k, x)] := rfl
theorem mput_cons {K V : Type} {eq : K → K → Bool} {k : K} {x : V} {e : K × V} {l : List (K × V)} : mput eq k x (e :: l) = if eq k e.1 = true then (k, x) :: l else e :: mput eq k x l := by
  unfold mput
  simp only [mfind]
  cases eq k e.1 with
  | true => simp
  | false =>
    simp only []
    rw [mfind_shift l (0 + 1)]
    cases mfind eq k l 0 with
    | none => simp
    | some p => simp [Nat.add_comm 1 p.1]
def EqIff {K : Type} (eq : K → K → Bool) : Prop := ∀ a b, eq a b = true ↔ a = b
theorem intEq_iff : EqIff intEq := fun a b => by simp [intEq]
theorem mgetD_mput {K V : Type} {eq : K → K → Bool} (h : EqIff eq) {k k' : K} {x z : V} : ∀ {l : List (K × V)}, mgetD eq k' (mput eq k x l) z = if eq k' k = true then x else mgetD eq k' l z
  | [] => by rw [mput_nil, mgetD_cons]
  | e :: l => by
    rw [mput_cons]
    by_cases he : eq k e.1 = true
    · have hk := (h _ _).1 he
      rw [if_pos he, mgetD_cons, mgetD_cons, ← hk]
      by_cases hk : eq k' k = true
      · rw [if_pos hk, if_pos hk]
      · rw [if_neg hk, if_neg hk]; simp [hk]
    · rw [if_neg he, mgetD_cons, mgetD_cons, mgetD_mput h (l := l)]
      by_cases hk : eq k' k = true
      · have := (h _ _).1 hk
        subst this
        rw [if_neg he, if_pos hk, if_pos hk]
      · rw [if_neg hk, if_neg hk]
end Go.Sx

/- Plain lemmas: loops over lists as recursion over lists. -/
import Derived.Test.YtdghdcclhnoigaaGreatDoorXSxPl
set_option linter.unusedVariables false
set_option linter.unusedSimpArgs false
namespace Go.Sx
open Go
def goL {α S β : Type} (body : α → S → S ⊕ β) (fin : S → β) : List α → S → β
  | [], s => fin s
  | x :: l, s => match body x s with
    | .inl s' => goL body fin l s'
    | .inr b => b
theorem goL_nil {α S β : Type} (body : α → S → S ⊕ β) (fin : S → β) (s : S) : goL body fin [] s = fin s := rfl
theorem goL_cons {α S β : Type} (body : α → S → S ⊕ β) (fin : S → β) (x : α) (l : List α) (s : S) : goL body fin (x :: l) s = match body x s with
    | .inl s' => goL body fin l s'
    | .inr b => b := rfl
def RelS {S σ β β' : Type} (R : S → σ → Prop) (Q : β' → β → Prop) : S ⊕ β' → σ ⊕ β → Prop
  | .inl s, .inl t => R s t
  | .inr b, .inr b' => Q b b'
  | _, _ => False
theorem loopO_sim {α S σ β β' : Type} {step : σ → Option (σ ⊕ β)} (l : List α) (body : α → S → S ⊕ β') (fin : S → β') (R : Nat → S → σ → Prop) (Q : β' → β → Prop)
    (hstep : ∀ i x s t, i < l.length → l[i]? = some x → R i s t → ∃ r, step t = some r ∧ RelS (R (i + 1)) Q (body x s) r)
    (hend : ∀ s t, R l.length s t → ∃ b', step t = some (.inr b') ∧ Q (fin s) b') :
    ∀ (F i : Nat) (s : S) (t : σ), i ≤ l.length → R i s t → l.length - i < F → ∃ b', loopO step F t = some b' ∧ Q (goL body fin (l.drop i) s) b'
  | 0, i, s, t, hi, hR, hF => by omega
  | F + 1, i, s, t, hi, hR, hF => by
    by_cases h : i < l.length
    · obtain ⟨r, h1, h2⟩ := hstep i l[i] s t h (List.getElem?_eq_getElem h) hR
      rw [List.drop_eq_getElem_cons h, goL_cons]
      cases hb : body l[i] s with
      | inl s' =>
        rw [hb] at h2
        cases r with
        | inl t' =>
          simp only [loopO, h1]
          exact loopO_sim l body fin R Q hstep hend F (i + 1) s' t' h h2 (by omega)
        | inr b' => exact h2.elim
      | inr b =>
        rw [hb] at h2
        cases r with
        | inl t' => exact h2.elim
        | inr b' =>
          simp only [loopO, h1]
          exact ⟨b', rfl, h2⟩
    · obtain rfl : i = l.length := by omega
      rw [List.drop_length, goL_nil]
      obtain ⟨b', ht, hQ⟩ := hend s t hR
      simp only [loopO, ht]
      exact ⟨b', rfl, hQ⟩
theorem bind_sim {α S σ β β' γ : Type} {step : σ → Option (σ ⊕ β)} {F : Nat} {t : σ} {k : β → Option γ} {P : γ → Prop} (l : List α) (body : α → S → S ⊕ β') (fin : S → β') (R : Nat → S → σ → Prop) (Q : β' → β → Prop) (s : S)
    (hF : l.length < F) (h0 : R 0 s t)
    (hstep : ∀ i x s t, i < l.length → l[i]? = some x → R i s t → ∃ r, step t = some r ∧ RelS (R (i + 1)) Q (body x s) r)
    (hend : ∀ s t, R l.length s t → ∃ b', step t = some (.inr b') ∧ Q (fin s) b')
    (hk : ∀ b', Q (goL body fin l s) b' → ∃ r, k b' = some r ∧ P r) : ∃ r, Option.bind (loopO step F t) k = some r ∧ P r := by
  obtain ⟨b', h1, h2⟩ := loopO_sim l body fin R Q hstep hend F 0 s t (Nat.zero_le _) h0 (by omega)
  rw [h1]
  exact hk b' h2
theorem ex_eq {γ : Type} {o : Option γ} {r : γ} (h : ∃ x, o = some x ∧ x = r) : o = some r := by
  obtain ⟨x, h1, h2⟩ := h
  rw [h1, h2]
theorem loopO_list {α S σ β : Type} {step : σ → Option (σ ⊕ β)} (l : List α) (enc : S → Nat → σ) (body : α → S → S ⊕ β) (fin : S → β) (I : Nat → S → Prop)
    (hstep : ∀ i x s, i < l.length → l[i]? = some x → I i s → step (enc s i) = some (match body x s with | .inl s' => .inl (enc s' (i + 1)) | .inr b => .inr b) ∧ ∀ s', body x s = .inl s' → I (i + 1) s')
    (hend : ∀ s, I l.length s → step (enc s l.length) = some (.inr (fin s))) {F : Nat} {s : S} {t : σ} (ht : t = enc s 0) (hI : I 0 s) (hF : l.length < F) : loopO step F t = some (goL body fin l s) := by
  obtain ⟨b, h1, h2⟩ := loopO_sim (step := step) l body fin (fun i s t => t = enc s i ∧ I i s) (fun a b => a = b)
    (fun i x s t hi hx ⟨e, h⟩ => by
      obtain ⟨h1, h2⟩ := hstep i x s hi hx h
      subst e
      refine ⟨_, h1, ?_⟩
      cases hb : body x s with
      | inl s' => exact ⟨rfl, h2 s' hb⟩
      | inr b => exact rfl)
    (fun s t ⟨e, h⟩ => by
      subst e
      exact ⟨_, hend s h, rfl⟩) F 0 s t (Nat.zero_le _) ⟨ht, hI⟩ (by omega)
  rw [h1, ← h2]
  rfl
theorem bind_list {α S σ β γ : Type} {step : σ → Option (σ ⊕ β)} {F : Nat} {t : σ} {k : β → Option γ} {r : Option γ} (l : List α) (enc : S → Nat → σ) (body : α → S → S ⊕ β) (fin : S → β) (I : Nat → S → Prop) (s : S)
    (hF : l.length < F) (ht : t = enc s 0) (hI : I 0 s)
    (hstep : ∀ i x s, i < l.length → l[i]? = some x → I i s → step (enc s i) = some (match body x s with | .inl s' => .inl (enc s' (i + 1)) | .inr b => .inr b) ∧ ∀ s', body x s = .inl s' → I (i + 1) s')
    (hend : ∀ s, I l.length s → step (enc s l.length) = some (.inr (fin s)))
    (hk : k (goL body fin l s) = r) : Option.bind (loopO step F t) k = r := by
  rw [loopO_list l enc body fin I hstep hend ht hI hF]
  exact hk
theorem goL_inv {α S β : Type} (body : α → S → S ⊕ β) (fin : S → β) (l : List α) (I : Nat → S → Prop) (P : β → Prop)
    (hstep : ∀ i x s, i < l.length → l[i]? = some x → I i s → (∀ s', body x s = .inl s' → I (i + 1) s') ∧ ∀ b, body x s = .inr b → P b)
    (hend : ∀ s, I l.length s → P (fin s)) : ∀ (n i : Nat) (s : S), l.length - i = n → i ≤ l.length → I i s → P (goL body fin (l.drop i) s)
  | 0, i, s, hn, hi, h => by
    obtain rfl : i = l.length := by omega
    rw [List.drop_length]
    exact hend s h
  | n + 1, i, s, hn, hi, h => by
    have hi' : i < l.length := by omega
    obtain ⟨h1, h2⟩ := hstep i l[i] s hi' (List.getElem?_eq_getElem hi') h
    rw [List.drop_eq_getElem_cons hi', goL_cons]
    cases hb : body l[i] s with
    | inl s' => exact goL_inv body fin l I P hstep hend n (i + 1) s' (by omega) hi' (h1 s' hb)
    | inr b => exact h2 b hb
theorem goL_fold {α S β : Type} (f : S → α → S) (fin : S → β) : ∀ (l : List α) (s : S), goL (fun x s => .inl (f s x)) fin l s = fin (l.foldl f s)
  | [], s => rfl
  | x :: l, s => goL_fold f fin l (f s x)
theorem goL_unit {α β : Type} (r : β) (l : List α) : goL (fun (_ : α) (_ : Unit) => (Sum.inl () : Unit ⊕ β)) (fun _ => r) l () = r := by
  rw [goL_fold (fun _ _ => ())]
theorem goL_any {α β : Type} (p : α → Bool) (b1 b2 : β) : ∀ (l : List α), goL (fun x (_ : Unit) => if p x = true then .inr b1 else .inl ()) (fun _ => b2) l () = if l.any p = true then b1 else b2
  | [] => rfl
  | x :: l => by
    rw [goL_cons, List.any_cons]
    cases h : p x with
    | true => simp
    | false => simpa using goL_any p b1 b2 l
theorem goL_append {α γ β : Type} (f : α → γ) (fin : List γ → β) : ∀ (l : List α) (out : List γ), goL (fun x out => .inl (out ++ [f x])) fin l out = fin (out ++ l.map f)
  | [], out => by simp [goL_nil]
  | x :: l, out => by rw [goL_cons]; simp [goL_append f fin l]
theorem cd_pos {X : Type} {p : Prop} [Decidable p] {a b : X} (h : p) : cond (decide p) a b = a := by simp [h]
theorem cd_neg {X : Type} {p : Prop} [Decidable p] {a b : X} (h : ¬ p) : cond (decide p) a b = b := by simp [h]
theorem getD_some {α : Type} {l : List α} {i : Nat} {x d : α} (h : l[i]? = some x) : l.getD i d = x := by rw [List.getD_eq_getElem?_getD, h]; rfl
end Go.Sx

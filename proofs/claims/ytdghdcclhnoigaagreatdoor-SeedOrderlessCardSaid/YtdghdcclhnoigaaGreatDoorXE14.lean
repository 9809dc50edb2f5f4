/- Plain law: runners, their checks and their copies. Plain law: the check of runners, in the program and in the reference. Plain law: the check of runners in the program. Plain law: places of runners. Plain law: who advances. Functions of the program as functions of data. By program. Plain law of SeedPlaces. Functions of the program as functions of data. By program. Functions of the program as functions of data. By program. -/
import Derived.Test.YtdghdcclhnoigaaGreatDoorXE04
import Derived.Test.YtdghdcclhnoigaaGreatDoorXTryzA
section
set_option maxRecDepth 100000
set_option linter.unusedVariables false
set_option linter.unusedSimpArgs false
namespace Go.Proofs.Tryz
open Go Go.Sx
abbrev Run := ByteArray × ByteArray × Int × ByteArray
theorem l46 {F : Nat} {l : List (List Run)} (hF : l.length < F) (hF2 : ∀ x ∈ l, x.length < F) (hb : l.length * 24 ≤ 140737488351232) (hb2 : ∀ x ∈ l, x.length * 56 ≤ 140737488351232) : c46 F l = some l := by
  unfold c46
  refine bind_list l (fun (_ : Unit) i => (l.take i, (i : Int))) (fun _ _ => .inl ()) (fun _ => l) (fun _ _ => True) () hF rfl trivial ?_ ?_ ?_
  · intro i x _ hi hx _
    refine ⟨?_, fun _ _ => trivial⟩
    have hxF := hF2 x (List.mem_of_getElem? hx)
    have hxb := hb2 x (List.mem_of_getElem? hx)
    have hl := len_take (l := l) (i := i) (by omega)
    simp (disch := omega) only [cd_pos, gd_dec, Int.toNat_natCast, getD_some hx, w64_in]
    refine bind_list x (fun (_ : Unit) k => (x.take k, (k : Int))) (fun _ _ => .inl ()) (fun _ => x) (fun _ _ => True) () hxF rfl trivial ?_ ?_ ?_
    · intro k r _ hk hr _
      refine ⟨?_, fun _ _ => trivial⟩
      have hl := len_take (l := x) (i := k) (by omega)
      have hl' := len_take (l := x) (i := k + 1) (by omega)
      have er : (r.1, r.2.1, r.2.2.1, r.2.2.2) = r := rfl
      simp (disch := omega) only [cd_pos, gd_dec, Int.toNat_natCast, getD_some hr, w64_in, er, take_snoc hr, hl']
      simp [gd_true]
    · intro _ _
      simp (disch := omega) only [cd_neg, List.take_length]
      simp [gd_true]
    · rw [goL_unit, take_all]
      have e : List.take 1 (List.drop 0 (x :: nilT (List Run))) = x :: nilT (List Run) := rfl
      have hl' := len_take (l := l) (i := i + 1) (by omega)
      simp (disch := omega) only [e, take_snoc hx, hl', gd_dec, Nat.zero_add, Nat.le_refl, decide_true, Bool.and_self, gd_true]
      simp [gd_true]
  · intro _ _
    simp (disch := omega) only [cd_neg, List.take_length]
    simp [gd_true]
  · rw [goL_unit, take_all]
    simp [gd_true]
def ShortR (l : List (List Run)) : Prop := l.length ≤ 18 ∧ ∀ x ∈ l, x.length ≤ 162 ∧ (x.length ≤ 12 ∨ 160 < x.length) ∧ ∀ r ∈ x, r.1.size ≤ 40 ∧ r.2.1.size ≤ 20 ∧ r.2.2.2.size ≤ 20
theorem l47 {F : Nat} (hF : 400 ≤ F) {l : List (List Run)} : ∃ b, c47 F l = some b ∧ (b = true → ShortR l) := by
  unfold c47
  by_cases h : (18 : Int) < l.length
  · exact ⟨false, by simp [h], by simp⟩
  · have hl : l.length ≤ 18 := by omega
    simp only [h, decide_false, cond_false]
    refine bind_all l (fun x => x.length ≤ 162 ∧ (x.length ≤ 12 ∨ 160 < x.length) ∧ ∀ r ∈ x, r.1.size ≤ 40 ∧ r.2.1.size ≤ 20 ∧ r.2.2.2.size ≤ 20)
      (fun b : Bool ⊕ Unit => b = .inl false ∨ (b = .inr () ∧ ShortR l)) (by omega) ?_ ?_ ?_
    · intro i x hi hx
      simp (disch := omega) only [cd_pos, gd_dec, Int.toNat_natCast, getD_some hx]
      have e : (bif decide (12 < (x.length : Int)) then bif decide ((x.length : Int) ≤ 160) then some true else some (decide (162 < (x.length : Int))) else some (decide (162 < (x.length : Int)))) = some (decide (¬ (x.length ≤ 162 ∧ (x.length ≤ 12 ∨ 160 < x.length)))) := by
        by_cases a1 : 12 < (x.length : Int)
        · by_cases a2 : (x.length : Int) ≤ 160
          · simp only [a1, a2, decide_true, cond_true, Option.some.injEq]
            exact (decide_eq_true (by omega)).symm
          · simp only [a1, a2, decide_true, cond_true, decide_false, cond_false, Option.some.injEq, decide_eq_decide]
            omega
        · simp only [a1, decide_false, cond_false, Option.some.injEq, decide_eq_decide]
          omega
      rw [e]
      by_cases hg : x.length ≤ 162 ∧ (x.length ≤ 12 ∨ 160 < x.length)
      · simp only [hg, not_true_eq_false, decide_false, Option.bind_some, cond_false]
        refine bind_all x (fun r => r.1.size ≤ 40 ∧ r.2.1.size ≤ 20 ∧ r.2.2.2.size ≤ 20) (fun b : Bool ⊕ Unit => b = .inl false ∨ (b = .inr () ∧ ∀ r ∈ x, r.1.size ≤ 40 ∧ r.2.1.size ≤ 20 ∧ r.2.2.2.size ≤ 20)) (by omega) ?_ ?_ ?_
        · intro k r hk hr
          simp (disch := omega) only [cd_pos, gd_dec, Int.toNat_natCast, getD_some hr, w64_in]
          by_cases a1 : (40 : Int) < r.1.size
          · exact ⟨_, by simp [a1], .inr ⟨_, rfl, .inl rfl⟩⟩
          · by_cases a2 : (20 : Int) < r.2.1.size
            · exact ⟨_, by simp [a1, a2], .inr ⟨_, rfl, .inl rfl⟩⟩
            · by_cases a3 : (20 : Int) < r.2.2.2.size
              · exact ⟨_, by simp [a1, a2, a3], .inr ⟨_, rfl, .inl rfl⟩⟩
              · exact ⟨_, by simp [a1, a2, a3], .inl ⟨rfl, by omega, by omega, by omega⟩⟩
        · intro hgood
          simp (disch := omega) only [cd_neg, gd_dec]
          exact ⟨_, rfl, .inr ⟨rfl, hgood⟩⟩
        · intro b hb
          rcases hb with rfl | ⟨rfl, h2⟩
          · exact ⟨_, rfl, .inr ⟨_, rfl, .inl rfl⟩⟩
          · refine ⟨_, by simp (disch := omega) only [Sum.elim_inr, w64_in], .inl ⟨rfl, trivial, trivial, h2⟩⟩
      · simp only [hg, not_false_eq_true, decide_true, Option.bind_some, cond_true]
        exact ⟨_, rfl, .inr ⟨_, rfl, .inl rfl⟩⟩
    · intro hgood
      simp (disch := omega) only [cd_neg]
      exact ⟨_, rfl, .inr ⟨rfl, hl, hgood⟩⟩
    · intro b hb
      rcases hb with rfl | ⟨rfl, h2⟩
      · exact ⟨false, rfl, by simp⟩
      · exact ⟨true, rfl, fun _ => h2⟩
end Go.Proofs.Tryz
end
section
set_option maxRecDepth 100000
set_option linter.unusedVariables false
set_option linter.unusedSimpArgs false
namespace Go.Proofs.Tryz
open Go Go.Sx
def runE (r : Run) : Int := if markE r.2.1 r.2.2.1 r.2.2.2 = 0 then (if strEq r.2.1 kT = false ∧ strEq r.2.1 kN = false then 13 else 0) else markE r.2.1 r.2.2.1 r.2.2.2
theorem l50 {F : Nat} (hF : 400 ≤ F) (r : Run) : c50 F r = some (if nameB r.1 = false then 8 else runE r) := by
  obtain ⟨a, k, v, s⟩ := r
  unfold c50 runE
  simp only [l72 hF, l73, Option.bind_some]
  change (bif !nameB a then _ else Option.bind (bif _ then (bif !strEq k kT then some (!strEq k kN) else _) else _) _) = _
  cases nameB a <;> cases strEq k kT <;> cases strEq k kN <;> by_cases h : markE k v s = 0 <;> simp [h]
theorem l88 {F : Nat} (hF : 400 ≤ F) (r : Run) : c88 F r = some (runE r) := by
  obtain ⟨a, k, v, s⟩ := r
  unfold c88 runE
  simp only [l78 hF, l76, Option.bind_some]
  have q : ∀ (a b : Int), c75 F (a :: b :: nilT Int) = some (if a ≠ 0 then a else b) := by
    intro a b
    rw [l75 (by simp [nilT]; omega) (by simp [nilT])]
    by_cases ha : a = 0 <;> by_cases hb : b = 0 <;> simp [firstNZ, nilT, ha, hb]
  simp only [q]
  change Option.bind (bif !strEq k kT then (Option.bind (some (if markE k v s ≠ 0 then _ else (if (!strEq k kN) = true then _ else _))) _) else _) _ = _
  cases strEq k kT <;> cases strEq k kN <;> by_cases h : markE k v s = 0 <;> simp [h]
theorem x74 {F : Nat} (hF : 400 ≤ F) {s : ByteArray} (hs : s.size ≤ 300) (m : List (ByteArray × Bool)) : cx74_0 F (s, m) = some (if nameB s = false then (8, m) else if mgetD strEq s m false = true then (9, m) else (0, mput strEq s true m)) := by
  unfold cx74_0
  have q : ∀ (a b : Int), c75 F (a :: b :: nilT Int) = some (if a ≠ 0 then a else b) := by
    intro a b
    rw [l75 (by simp [nilT]; omega) (by simp [nilT])]
    by_cases ha : a = 0 <;> by_cases hb : b = 0 <;> simp [firstNZ, nilT, ha, hb]
  simp only [l77 hF hs, l76, q, Option.bind_some]
  cases nameB s <;> cases mgetD strEq s m false <;> simp
def seenB (a : ByteArray) (s : List ByteArray) : Bool := s.any fun y => strEq y a
def runI (r : Run) (s : List ByteArray) : List ByteArray ⊕ (List ByteArray ⊕ Int) :=
  if nameB r.1 = false then .inr (.inr 8) else if seenB r.1 s = true then .inr (.inr 9) else if runE r ≠ 0 then .inr (.inr (runE r)) else .inl (s ++ [r.1])
def runH (x : List Run) (s : List ByteArray) : List ByteArray ⊕ Int := if 160 < x.length then .inr 5 else goL runI .inl x s
def runC (l : List (List Run)) : Int := if 16 < l.length then 5 else goL runH (fun _ => 0) l []
theorem goL_len {x : List Run} {s s' : List ByteArray} (h : goL runI .inl x s = .inl s') : s'.length = s.length + x.length := by
  have := goL_inv runI (fun s => (.inl s : List ByteArray ⊕ Int)) x (fun i t => t.length = s.length + i) (fun b => ∀ s', b = .inl s' → s'.length = s.length + x.length)
    (fun i r t hi hr ht => by
      unfold runI
      split
      · exact ⟨fun _ h => by (cases h), fun b h => by cases h; intro _ h; cases h⟩
      · split
        · exact ⟨fun _ h => by (cases h), fun b h => by cases h; intro _ h; cases h⟩
        · split
          · exact ⟨fun _ h => by (cases h), fun b h => by cases h; intro _ h; cases h⟩
          · exact ⟨fun s' h => by cases h; simp; omega, fun b h => by cases h⟩)
    (fun t ht s' h => by cases h; exact ht) x.length 0 s (by simp) (by simp) (by simp)
  exact this s' h
theorem l49 {F : Nat} (hF : 4000 ≤ F) {l : List (List Run)} (hl : ShortR l) : c49 F l = some (runC l) := by
  unfold c49 runC
  by_cases h0 : 16 < l.length
  · have : (16 : Int) < l.length := by omega
    simp [h0, this]
  · simp (disch := omega) only [cd_neg, if_neg]
    refine ex_eq (bind_sim l runH (fun _ => (0 : Int)) (fun i s t => t = (s, (i : Int)) ∧ s.length ≤ 162 * i) (fun (a : Int) (b : List ByteArray × Int ⊕ List ByteArray) => Sum.elim (fun v => v.2) (fun _ => 0) b = a) [] (by omega) ⟨rfl, by simp⟩ ?_ ?_ ?_)
    · intro i x s t hi hx ⟨ht, hs⟩
      subst ht
      have hgood := hl.2 x (List.mem_of_getElem? hx)
      simp (disch := omega) only [cd_pos, gd_dec, Int.toNat_natCast, getD_some hx, w64_in]
      by_cases hlen : 160 < x.length
      · have : (160 : Int) < x.length := by omega
        refine ⟨_, by simp [this]; rfl, by simp [runH, hlen, RelS]⟩
      · have : ¬ (160 : Int) < x.length := by omega
        simp only [this, decide_false, cond_false, decide_true, Bool.and_self, gd_true, Option.bind_some]
        have hx12 : x.length ≤ 12 := by omega
        refine bind_sim x runI .inl (fun k s' t => t = (s', (k : Int)) ∧ s'.length = s.length + k) (fun (a : List ByteArray ⊕ Int) (b : List ByteArray × Int ⊕ List ByteArray) => a = b.elim (fun v => .inr v.2) .inl) s (by omega) ⟨rfl, by simp⟩ ?_ ?_ ?_
        · intro k r s' t hk hr ⟨ht, hs'⟩
          subst ht
          have hrr := hgood.2.2 r (List.mem_of_getElem? hr)
          have er : (r.1, r.2.1, r.2.2.1, r.2.2.2) = r := rfl
          simp (disch := omega) only [cd_pos, gd_dec, Int.toNat_natCast, getD_some hx, getD_some hr, w64_in, l72 (show 400 ≤ F by omega), Option.bind_some, er]
          by_cases hn : nameB r.1 = false
          · exact ⟨_, by simp [hn]; rfl, by simp [runI, hn, RelS]⟩
          · have hn' : nameB r.1 = true := by simpa using hn
            simp only [hn', Bool.not_true, cond_false]
            refine bind_sim s' (fun y (_ : Unit) => if strEq y r.1 = true then .inr (some (9 : Int)) else .inl ()) (fun _ => none) (fun j _ t => t = (j : Int)) (fun (a : Option Int) (b : Int ⊕ Unit) => a = b.elim some (fun _ => none)) () (by omega) rfl ?_ ?_ ?_
            · intro j y _ t hj hy ht
              subst ht
              simp (disch := omega) only [cd_pos, gd_dec, Int.toNat_natCast, Nat.zero_add, getD_some hy, w64_in]
              cases strEq y r.1 with
              | true => exact ⟨_, rfl, by simp [RelS]⟩
              | false => exact ⟨_, rfl, by simp [RelS]⟩
            · intro _ t ht
              subst ht
              simp (disch := omega) only [cd_neg]
              exact ⟨_, rfl, rfl⟩
            · intro b hb
              rw [goL_any] at hb
              change (if seenB r.1 s' = true then _ else _) = _ at hb
              by_cases hin : seenB r.1 s' = true
              · simp only [hin, if_true] at hb
                cases b with
                | inl v =>
                  simp only [Sum.elim_inl, Option.some.injEq] at hb
                  subst hb
                  exact ⟨_, rfl, by simp [runI, hn', hin, RelS]⟩
                | inr v => cases hb
              · simp only [hin, if_false] at hb
                cases b with
                | inl v => cases hb
                | inr v =>
                  simp only [Sum.elim_inr, l50 (show 400 ≤ F by omega), hn', Bool.true_eq_false, if_false, Option.bind_some]
                  by_cases he : runE r = 0
                  · refine ⟨.inl (s' ++ [r.1], (k : Int) + 1), ?_, ?_⟩
                    · simp (disch := omega) only [he, decide_true, Bool.not_true, cond_false, gd_dec, len_snoc]
                      simp [gd_true, nilT]
                    · rw [runI, if_neg (by simp [hn']), if_neg hin, if_neg (by simp [he])]
                      exact ⟨rfl, by simp; omega⟩
                  · exact ⟨_, by simp [he]; rfl, by simp [runI, hn', hin, he, RelS]⟩
        · intro s' t ⟨ht, hs'⟩
          subst ht
          simp (disch := omega) only [cd_neg, gd_dec, Int.toNat_natCast, getD_some hx]
          exact ⟨_, by simp [gd_true]; rfl, rfl⟩
        · intro b hb
          cases b with
          | inl v => exact ⟨_, rfl, by simp only [Sum.elim_inl] at hb; simp [runH, hlen, hb, RelS]⟩
          | inr v =>
            simp only [Sum.elim_inr] at hb ⊢
            have := goL_len hb
            refine ⟨.inl (v, (i : Int) + 1), by simp [gd_true], ?_⟩
            rw [runH, if_neg hlen, hb]
            exact ⟨rfl, by omega⟩
    · intro s t ⟨ht, hs⟩
      subst ht
      simp (disch := omega) only [cd_neg]
      exact ⟨_, rfl, rfl⟩
    · intro b hb
      exact ⟨_, by cases b <;> rfl, hb⟩
end Go.Proofs.Tryz
end
section
set_option maxRecDepth 100000
set_option linter.unusedVariables false
set_option linter.unusedSimpArgs false
namespace Go.Proofs.Tryz
open Go Go.Sx
def SeenS (s : List ByteArray) (m : List (ByteArray × Bool)) : Prop := ∀ k : ByteArray, mgetD strEq k m false = seenB k s
theorem SeenS.put {s : List ByteArray} {m : List (ByteArray × Bool)} (h : SeenS s m) (x : ByteArray) : SeenS (s ++ [x]) (mput strEq x true m) := by
  intro k
  rw [mgetD_mput strEq_iff, h k]
  unfold seenB
  rw [List.any_append]
  by_cases e : k = x
  · subst e; simp [strEq_self]
  · have : x ≠ k := fun h => e h.symm
    simp [strEq_false e, strEq_false this]
theorem l63 {F : Nat} (hF : 4000 ≤ F) {l : List (List Run)} (hl : ShortR l) : c63 F l = some (runC l) := by
  unfold c63 runC
  have q : ∀ (a b : Int), c75 F (a :: b :: nilT Int) = some (if a ≠ 0 then a else b) := by
    intro a b
    rw [l75 (by simp [nilT]; omega) (by simp [nilT])]
    by_cases ha : a = 0 <;> by_cases hb : b = 0 <;> simp [firstNZ, nilT, ha, hb]
  by_cases h0 : 16 < l.length
  · have : (16 : Int) < l.length := by omega
    simp [h0, this]
  · simp (disch := omega) only [cd_neg, if_neg]
    refine ex_eq (bind_sim l runH (fun _ => (0 : Int)) (fun i s t => t.2 = (i : Int) ∧ SeenS s t.1) (fun (a : Int) (b : List (ByteArray × Bool) × Int ⊕ List (ByteArray × Bool)) => Sum.elim (fun v => v.2) (fun _ => 0) b = a) [] (by omega) ⟨rfl, fun k => rfl⟩ ?_ ?_ ?_)
    · intro i x s t hi hx ⟨ht, hs⟩
      obtain ⟨m, j⟩ := t
      simp only at ht hs
      subst ht
      have hgood := hl.2 x (List.mem_of_getElem? hx)
      simp (disch := omega) only [cd_pos, gd_dec, Int.toNat_natCast, getD_some hx, w64_in]
      by_cases hlen : 160 < x.length
      · have : (160 : Int) < x.length := by omega
        refine ⟨_, by simp [this]; rfl, by simp [runH, hlen, RelS]⟩
      · have : ¬ (160 : Int) < x.length := by omega
        simp only [this, decide_false, cond_false]
        have hx12 : x.length ≤ 12 := by omega
        refine bind_sim x runI .inl (fun k s' t => t.2 = (k : Int) ∧ SeenS s' t.1) (fun (a : List ByteArray ⊕ Int) (b : List (ByteArray × Bool) × Int ⊕ List (ByteArray × Bool)) => RelS SeenS (fun e v => v.2 = e) a (b.elim .inr .inl)) s (by omega) ⟨rfl, hs⟩ ?_ ?_ ?_
        · intro k r s' t hk hr ⟨ht, hs'⟩
          obtain ⟨m', j⟩ := t
          simp only at ht hs'
          subst ht
          have hrr := hgood.2.2 r (List.mem_of_getElem? hr)
          have er : (r.1, r.2.1, r.2.2.1, r.2.2.2) = r := rfl
          simp (disch := omega) only [cd_pos, gd_dec, Int.toNat_natCast, getD_some hr, w64_in, er]
          rw [x74 (by omega) (by omega), l88 (by omega), hs' r.1]
          simp only [Option.bind_some, q]
          by_cases hn : nameB r.1 = false
          · exact ⟨_, by simp [hn]; rfl, by simp [runI, hn, RelS]⟩
          · have hn' : nameB r.1 = true := by simpa using hn
            by_cases hin : seenB r.1 s' = true
            · exact ⟨_, by simp [hn', hin]; rfl, by simp [runI, hn', hin, RelS]⟩
            · by_cases he : runE r = 0
              · refine ⟨_, by simp [hn', hin, he]; rfl, ?_⟩
                rw [runI, if_neg (by simp [hn']), if_neg hin, if_neg (by simp [he])]
                exact ⟨rfl, hs'.put _⟩
              · exact ⟨_, by simp [hn', hin, he]; rfl, by simp [runI, hn', hin, he, RelS]⟩
        · intro s' t ⟨ht, hs'⟩
          obtain ⟨m', j⟩ := t
          simp only at ht hs'
          subst ht
          simp (disch := omega) only [cd_neg]
          exact ⟨_, rfl, hs'⟩
        · intro b hb
          cases b with
          | inl v =>
            refine ⟨_, rfl, ?_⟩
            rw [runH, if_neg hlen]
            cases e : goL runI .inl x s with
            | inl s' => rw [e] at hb; exact hb.elim
            | inr e' => rw [e] at hb; simp only [RelS, Sum.elim_inl] at hb ⊢; rw [hb]
          | inr v =>
            refine ⟨_, rfl, ?_⟩
            rw [runH, if_neg hlen]
            cases e : goL runI .inl x s with
            | inl s' => rw [e] at hb; exact ⟨rfl, hb⟩
            | inr e' => rw [e] at hb; exact hb.elim
    · intro s t ⟨ht, hs⟩
      obtain ⟨m, j⟩ := t
      simp only at ht hs
      subst ht
      simp (disch := omega) only [cd_neg]
      exact ⟨_, rfl, rfl⟩
    · intro b hb
      exact ⟨_, by cases b <;> rfl, hb⟩
end Go.Proofs.Tryz
end
section
set_option maxRecDepth 100000
set_option linter.unusedVariables false
set_option linter.unusedSimpArgs false
namespace Go.Proofs.Tryz
open Go Go.Sx
def fasterB (r y : Run) : Bool := strEq y.2.1 kT && decide (y.2.2.1 < r.2.2.1)
def cntF (r : Run) (n : Int) (y : Run) : Int := if fasterB r y = true then n + 1 else n
def plc (x : List Run) (r : Run) : Int := if strEq r.2.1 kT = true then x.foldl (cntF r) 1 else 0
def placesS (x : List Run) : List Int := x.map (plc x)
theorem cnt_inv {x : List Run} {r : Run} {k : Nat} {y : Run} {n : Int} (h : 1 ≤ n ∧ n ≤ k + 1) : 1 ≤ cntF r n y ∧ cntF r n y ≤ ((k + 1 : Nat) : Int) + 1 := by
  unfold cntF
  split <;> omega
def plcP (x : List Run) (i : Nat) : List Int := (x.take i).map (plc x) ++ List.replicate (x.length - i) 0
theorem l97 {F : Nat} (hF : 4000 ≤ F) {x : List Run} (hx : x.length ≤ 3000) : c97 F x = some (placesS x) := by
  unfold c97
  simp (disch := omega) only [gd_dec, Int.toNat_natCast]
  refine bind_list x (fun (_ : Unit) i => (plcP x i, (i : Int))) (fun r _ => .inl ()) (fun _ => placesS x) (fun _ _ => True) () (by omega) (by simp [plcP]) trivial ?_ ?_ ?_
  · intro i r _ hi hr _
    refine ⟨?_, fun _ _ => trivial⟩
    simp (disch := omega) only [cd_pos, gd_dec, Int.toNat_natCast, getD_some hr, w64_in]
    have hP : ((x.take i).map (plc x)).length = i := by simp; omega
    have hlen : (plcP x i).length = x.length := by simp [plcP]; omega
    have e0 : plcP x i = (x.take i).map (plc x) ++ 0 :: List.replicate (x.length - (i + 1)) 0 := by rw [plcP, replicate_cons hi]
    have e1 : plcP x (i + 1) = (x.take i).map (plc x) ++ plc x r :: List.replicate (x.length - (i + 1)) 0 := by
      rw [plcP, List.take_add_one, hr]
      simp
    change Option.bind (bif !strEq r.2.1 kT then _ else _) _ = _
    cases ht : strEq r.2.1 kT with
    | false =>
      have : plc x r = 0 := by simp [plc, ht]
      rw [this] at e1
      simp only [Bool.not_false, cond_true, Option.bind_some, e1, e0]
      rfl
    | true =>
      simp only [Bool.not_true, cond_false, Option.bind_assoc, Option.bind_some, Nat.zero_add, hlen]
      simp (disch := omega) only [gd_dec]
      rw [e0, set_mid hP, e1]
      clear e0 e1
      simp only [Option.bind_assoc, Option.bind_some]
      refine bind_list (F := F) x (fun (n : Int) k => ((x.take i).map (plc x) ++ n :: List.replicate (x.length - (i + 1)) 0, (k : Int))) (fun y n => .inl (cntF r n y)) (fun n => (x.take i).map (plc x) ++ n :: List.replicate (x.length - (i + 1)) 0) (fun k n => 1 ≤ n ∧ n ≤ (k : Int) + 1) 1 (by omega) rfl (by omega) ?_ ?_ ?_
      · intro k y n hk hy hn
        refine ⟨?_, fun s' h => by cases h; exact cnt_inv (x := x) hn⟩
        have hl : ((x.take i).map (plc x) ++ n :: List.replicate (x.length - (i + 1)) 0).length = x.length := by simp; omega
        simp (disch := omega) only [cd_pos, gd_dec, Int.toNat_natCast, getD_some hy, w64_in, hl, getD_mid hP, set_mid hP]
        change Option.bind (bif strEq y.2.1 kT then _ else _) _ = _
        unfold cntF fasterB
        cases strEq y.2.1 kT <;> by_cases hv : y.2.2.1 < r.2.2.1 <;> simp [hv]
      · intro n hn
        simp (disch := omega) only [cd_neg]
      · rw [goL_fold (cntF r)]
        simp [plc, ht]
  · intro _ _
    simp (disch := omega) only [cd_neg]
    simp [plcP, placesS]
  · rw [goL_unit]
    have : (placesS x).length = x.length := by simp [placesS]
    rw [gd_dec (by omega), ← this, take_all]
theorem x97 {F : Nat} (hF : 4000 ≤ F) {x : List Run} (hx : x.length ≤ 3000) : cx97_0 F x = some (placesS x) := by
  unfold cx97_0
  simp (disch := omega) only [gd_dec, Int.toNat_natCast]
  refine bind_list x (fun (_ : Unit) i => (plcP x i, (i : Int))) (fun r _ => .inl ()) (fun _ => placesS x) (fun _ _ => True) () (by omega) (by simp [plcP]) trivial ?_ ?_ ?_
  · intro i r _ hi hr _
    refine ⟨?_, fun _ _ => trivial⟩
    simp (disch := omega) only [cd_pos, gd_dec, Int.toNat_natCast, Nat.zero_add, getD_some hr, w64_in]
    have hP : ((x.take i).map (plc x)).length = i := by simp; omega
    have hlen : (plcP x i).length = x.length := by simp [plcP]; omega
    have e0 : plcP x i = (x.take i).map (plc x) ++ 0 :: List.replicate (x.length - (i + 1)) 0 := by rw [plcP, replicate_cons hi]
    have e1 : plcP x (i + 1) = (x.take i).map (plc x) ++ plc x r :: List.replicate (x.length - (i + 1)) 0 := by
      rw [plcP, List.take_add_one, hr]
      simp
    change Option.bind (bif !strEq r.2.1 kT then _ else _) _ = _
    cases ht : strEq r.2.1 kT with
    | false =>
      have : plc x r = 0 := by simp [plc, ht]
      rw [this] at e1
      simp only [Bool.not_false, cond_true, Option.bind_some, e1, e0]
      rfl
    | true =>
      simp only [Bool.not_true, cond_false, Option.bind_assoc, Option.bind_some, Nat.zero_add, hlen]
      simp (disch := omega) only [gd_dec]
      rw [e0, set_mid hP, e1]
      clear e0 e1
      simp only [Option.bind_assoc, Option.bind_some]
      refine bind_list (F := F) x (fun (n : Int) k => ((x.take i).map (plc x) ++ n :: List.replicate (x.length - (i + 1)) 0, (k : Int))) (fun y n => .inl (cntF r n y)) (fun n => (x.take i).map (plc x) ++ n :: List.replicate (x.length - (i + 1)) 0) (fun k n => 1 ≤ n ∧ n ≤ (k : Int) + 1) 1 (by omega) rfl (by omega) ?_ ?_ ?_
      · intro k y n hk hy hn
        refine ⟨?_, fun s' h => by cases h; exact cnt_inv (x := x) hn⟩
        have hl : ((x.take i).map (plc x) ++ n :: List.replicate (x.length - (i + 1)) 0).length = x.length := by simp; omega
        simp (disch := omega) only [cd_pos, gd_dec, Int.toNat_natCast, Nat.zero_add, getD_some hy, w64_in, hl, getD_mid hP, set_mid hP]
        change Option.bind (bif strEq y.2.1 kT then _ else _) _ = _
        unfold cntF fasterB
        cases strEq y.2.1 kT <;> by_cases hv : y.2.2.1 < r.2.2.1 <;> simp [hv]
      · intro n hn
        simp (disch := omega) only [cd_neg]
      · rw [goL_fold (cntF r)]
        simp [plc, ht]
  · intro _ _
    simp (disch := omega) only [cd_neg]
    simp [plcP, placesS]
  · rw [goL_unit]
    have : (placesS x).length = x.length := by simp [placesS]
    rw [Bool.true_and, gd_dec (by omega), ← this, take_all]
end Go.Proofs.Tryz
end
section
set_option maxRecDepth 100000
set_option linter.unusedVariables false
set_option linter.unusedSimpArgs false
namespace Go.Proofs.Tryz
open Go Go.Sx
def advB (place : Int) (x : List Run) (s : List ByteArray × List Run) (r : Run) : List ByteArray × List Run :=
  if 1 ≤ plc x r ∧ plc x r ≤ place then (s.1 ++ [r.1], s.2) else if 1 ≤ plc x r then (s.1, s.2 ++ [r]) else s
def advX (place : Int) (s : List ByteArray × List Run) (x : List Run) : List ByteArray × List Run := x.foldl (advB place x) s
def advL (place : Int) (l : List (List Run)) : List ByteArray × List Run := l.foldl (advX place) ([], [])
def adv2B (time : Int) (x : List Run) (o : List ByteArray) (r : Run) : List ByteArray := if plc x r ≤ time then o ++ [r.1] else o
def adv2 (time : Int) (x : List Run) : List ByteArray := x.foldl (adv2B time x) []
def advS (l : List (List Run)) (place time : Int) : List ByteArray × List ByteArray := ((advL place l).1, adv2 time (advL place l).2)
theorem placesS_get {x : List Run} {k : Nat} {r : Run} (h : x[k]? = some r) : (placesS x).getD k 0 = plc x r := getD_some (by rw [placesS, List.getElem?_map, h]; rfl)
theorem placesS_len (x : List Run) : (placesS x).length = x.length := by simp [placesS]
theorem advB_len {place : Int} {x : List Run} {s : List ByteArray × List Run} {r : Run} {n : Nat} (h : s.1.length + s.2.length ≤ n) : (advB place x s r).1.length + (advB place x s r).2.length ≤ n + 1 := by
  unfold advB
  split
  · simp; omega
  · split
    · simp; omega
    · omega
theorem advX_len {place : Int} {x y : List Run} : ∀ {s : List ByteArray × List Run} {n : Nat} (h : s.1.length + s.2.length ≤ n), (y.foldl (advB place x) s).1.length + (y.foldl (advB place x) s).2.length ≤ n + y.length := by
  induction y with
  | nil => intro s n h; simpa using h
  | cons r y ih =>
    intro s n h
    have := ih (advB_len (place := place) (x := x) (r := r) h)
    simp only [List.foldl_cons, List.length_cons]
    omega
theorem advL_len {place : Int} : ∀ {l : List (List Run)} {s : List ByteArray × List Run} {n : Nat} (h : s.1.length + s.2.length ≤ n) (hl : ∀ x ∈ l, x.length ≤ 162), (l.foldl (advX place) s).1.length + (l.foldl (advX place) s).2.length ≤ n + 162 * l.length := by
  intro l
  induction l with
  | nil => intro s n h _; simpa using h
  | cons x l ih =>
    intro s n h hl
    have h1 := advX_len (place := place) (x := x) (y := x) h
    have := ih (s := advX place s x) h1 fun y hy => hl y (by simp [hy])
    have := hl x (by simp)
    simp only [List.foldl_cons, List.length_cons]
    omega
theorem adv2B_len {time : Int} {x : List Run} {o : List ByteArray} {r : Run} {n : Nat} (h : o.length ≤ n) : (adv2B time x o r).length ≤ n + 1 := by
  unfold adv2B
  split
  · simp; omega
  · omega
theorem l93 {F : Nat} (hF : 4000 ≤ F) {l : List (List Run)} (hl : ShortR l) {place time : Int} : c93 F (l, place, time) = some (advS l place time) := by
  unfold c93
  refine bind_list l (fun (s : List ByteArray × List Run) i => (s.1, s.2, (i : Int))) (fun x s => .inl (advX place s x)) (fun s => s) (fun i s => s.1.length + s.2.length ≤ 162 * i) ([], []) (by have := hl.1; omega) rfl (by simp) ?_ ?_ ?_
  · intro i x s hi hx hs
    have hxl := (hl.2 x (List.mem_of_getElem? hx)).1
    refine ⟨?_, fun s' h => by cases h; have := advX_len (place := place) (x := x) (y := x) hs; unfold advX; omega⟩
    have hli := hl.1
    simp (disch := omega) only [cd_pos, gd_dec, Int.toNat_natCast, getD_some hx, w64_in, l97 hF (show x.length ≤ 3000 by omega), Option.bind_some, decide_true, Bool.and_self, gd_true]
    refine bind_list x (fun (s : List ByteArray × List Run) k => (s.1, s.2, (k : Int))) (fun r s => .inl (advB place x s r)) (fun s => s) (fun k s => s.1.length + s.2.length ≤ 162 * i + k) s (by omega) rfl (by simpa using hs) ?_ ?_ ?_
    · intro k r s hk hr hs
      refine ⟨?_, fun s' h => by cases h; exact advB_len hs⟩
      have er : (r.1, r.2.1, r.2.2.1, r.2.2.2) = r := rfl
      have hpl := placesS_len x
      simp (disch := omega) only [cd_pos, gd_dec, Int.toNat_natCast, getD_some hx, getD_some hr, placesS_get hr, w64_in, er, len_snoc]
      unfold advB
      by_cases h1 : 1 ≤ plc x r
      · have h0 : 0 < plc x r := by omega
        by_cases h2 : plc x r ≤ place
        · simp [h0, h1, h2, gd_true, nilT]
        · simp [h0, h1, h2, gd_true, nilT]
      · have h0 : ¬ 0 < plc x r := by omega
        simp [h0, h1, gd_true]
    · intro s hs
      have hpl := placesS_len x
      simp (disch := omega) only [cd_neg, gd_dec] <;> simp [gd_true]
    · rw [goL_fold (advB place x)]
      simp [gd_true, advX]
  · intro s hs
    simp (disch := omega) only [cd_neg]
    simp [gd_true]
  · rw [goL_fold (advX place)]
    rw [show l.foldl (advX place) ([], []) = advL place l from rfl]
    have hlen := advL_len (place := place) (s := ([], [])) (n := 0) (by simp) fun x hx => (hl.2 x hx).1
    have hli := hl.1
    change (advL place l).1.length + (advL place l).2.length ≤ _ at hlen
    unfold advS
    generalize (advL place l).2 = y at hlen
    generalize (advL place l).1 = o at hlen
    simp (disch := omega) only [decide_true, Bool.and_self, gd_true, Option.bind_some, x97 hF (show y.length ≤ 3000 by omega)]
    refine bind_list y (fun (o : List ByteArray) k => (o, (k : Int))) (fun r o => .inl (adv2B time y o r)) (fun o => o) (fun k o => o.length ≤ k) [] (by omega) rfl (by simp) ?_ ?_ ?_
    · intro k r o hk hr ho
      refine ⟨?_, fun s' h => by cases h; exact adv2B_len ho⟩
      have hpl := placesS_len y
      simp (disch := omega) only [cd_pos, gd_dec, Int.toNat_natCast, Nat.zero_add, getD_some hr, placesS_get hr, w64_in, len_snoc]
      unfold adv2B
      by_cases h1 : plc y r ≤ time
      · simp [h1, gd_true, nilT]
      · simp [h1, gd_true]
    · intro o ho
      have hpl := placesS_len y
      simp (disch := omega) only [cd_neg] <;> simp [gd_true]
    · rw [goL_fold (adv2B time y), take_all, take_all] <;> simp [gd_true, adv2]
end Go.Proofs.Tryz
end
section
set_option maxRecDepth 100000
set_option linter.all false
namespace Go.Proofs.Tryz
open Go Go.Sx
end Go.Proofs.Tryz
end
section
set_option maxRecDepth 100000
set_option linter.unusedVariables false
set_option linter.unusedSimpArgs false
namespace Go.Proofs.Tryz
open Go Go.Sx
def roomR : List (List Run) → Nat
  | [] => 4000
  | x :: l => x.length + 1 + roomR l
theorem roomR_ok : ∀ (l : List (List Run)), 4000 ≤ roomR l ∧ l.length < roomR l ∧ ∀ x ∈ l, x.length < roomR l
  | [] => ⟨Nat.le_refl _, by simp [roomR], fun x hx => (by cases hx)⟩
  | y :: l => by
    obtain ⟨h1, h2, h3⟩ := roomR_ok l
    refine ⟨by simp only [roomR]; omega, by simp only [roomR, List.length_cons]; omega, fun x hx => ?_⟩
    simp only [roomR]
    rcases List.mem_cons.1 hx with rfl | hx
    · omega
    · have := h3 x hx; omega
theorem ShortR.one {l : List (List Run)} (h : ShortR l) {x : List Run} (hx : x ∈ l) : ShortR [x] :=
  ⟨by simp, fun y hy => by obtain rfl := List.mem_singleton.1 hy; exact h.2 _ hx⟩
theorem adv2_len {time : Int} {y : List Run} : ∀ {x : List Run} {o : List ByteArray} {n : Nat} (h : o.length ≤ n), (x.foldl (adv2B time y) o).length ≤ n + x.length := by
  intro x
  induction x with
  | nil => intro o n h; simpa using h
  | cons r x ih =>
    intro o n h
    have := ih (adv2B_len (time := time) (x := y) (r := r) h)
    simp only [List.foldl_cons, List.length_cons]
    omega
theorem advS_len {l : List (List Run)} (hl : ShortR l) {place time : Int} : (advS l place time).1.length ≤ 3000 ∧ (advS l place time).2.length ≤ 3000 := by
  have h := advL_len (place := place) (s := ([], [])) (n := 0) (by simp) fun x hx => (hl.2 x hx).1
  change (advL place l).1.length + (advL place l).2.length ≤ _ at h
  have h2 := adv2_len (time := time) (y := (advL place l).2) (x := (advL place l).2) (o := []) (n := 0) (by simp)
  have := hl.1
  simp only [advS, adv2]
  omega
theorem l87 {F : Nat} (hF : 4000 ≤ F) {l : List (List Run)} (hl : ShortR l) {place time : Int} : c87 F (l, place, time) = some (firstNZ [runC l, if place < 0 ∨ 160 < place then 3 else 0, if time < 0 ∨ 160 < time then 3 else 0]) := by
  unfold c87
  simp only [l63 hF hl, l83, Option.bind_some, nilT]
  rw [l75 (by simp; omega) (by simp)]
  rfl
end Go.Proofs.Tryz
end
section
set_option maxRecDepth 100000
set_option linter.all false
namespace Go.Proofs.Tryz
open Go Go.Sx
end Go.Proofs.Tryz
end
section
set_option maxRecDepth 100000
set_option linter.all false
namespace Go.Proofs.Tryz
open Go Go.Sx
end Go.Proofs.Tryz
end

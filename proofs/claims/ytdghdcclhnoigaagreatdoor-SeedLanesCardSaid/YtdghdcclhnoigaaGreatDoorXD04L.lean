/- Plain law of SeedLanes (under way). -/
import Derived.Test.YtdghdcclhnoigaaGreatDoorXD04
import Derived.Test.YtdghdcclhnoigaaGreatDoorXP8d
import Derived.Test.YtdghdcclhnoigaaGreatDoorXTryzL6
set_option maxRecDepth 100000
set_option linter.unusedVariables false
set_option linter.unusedSimpArgs false
namespace Go.Proofs.Tryz
open Go Go.Sx
theorem l31 {F : Nat} (hF : 400 ≤ F) {l : List (List Int)} {n each : Int} (hn : n ≤ 300) : c31 F (l, n, each) = some (decide (n < l.length) || l.any fun x => decide (each < (x.length : Int))) := by
  unfold c31
  by_cases h : n < l.length
  · simp [h]
  · simp only [h, decide_false, cond_false, Bool.false_or]
    refine bind_list l (fun (_ : Unit) i => (i : Int)) (fun x _ => if (decide (each < (x.length : Int))) = true then .inr (.inl true) else .inl ()) (fun _ => .inr ()) (fun _ _ => True) () (by omega) rfl trivial ?_ ?_ ?_
    · intro i x s hi hx _
      refine ⟨?_, fun _ _ => trivial⟩
      simp (disch := omega) only [cd_pos, gd_dec, Int.toNat_natCast, getD_some hx, w64_in]
      by_cases he : each < (x.length : Int) <;> simp [he]
    · intro s _
      simp (disch := omega) only [cd_neg]
    · rw [goL_any]
      split <;> simp_all
def patI (x : Int) (s : List Int) : List Int ⊕ (List Int ⊕ Int) := if x < 1 ∨ 10 < x ∨ x ∈ s then .inr (.inr 17) else .inl (x :: s)
def patG (g : List Int) (s : List Int) : List Int ⊕ Int := if g.length = 0 then .inr 12 else goL patI .inl g s
def patS (p : List (List Int)) : Int := if p.length = 0 then 12 else if 10 < p.length then 5 else goL patG (fun _ => 0) p []
def SeenL (s : List Int) (m : List Bool) : Prop := m.length = 11 ∧ ∀ k : Nat, k < 11 → m.getD k false = decide ((k : Int) ∈ s)
theorem SeenL.put {s : List Int} {m : List Bool} (h : SeenL s m) {x : Int} (h0 : 0 ≤ x) (h1 : x < 11) : SeenL (x :: s) (m.set x.toNat true) := by
  refine ⟨by simp [h.1], fun k hk => ?_⟩
  have := h.2 k hk
  have hm := h.1
  by_cases e : x.toNat = k
  · subst e
    have : ((x.toNat : Nat) : Int) = x := by omega
    simp [List.getD, List.getElem?_set, hm, hk, this]
  · have hne : (k : Int) ≠ x := by omega
    simp only [List.getD] at this ⊢
    rw [List.getElem?_set_ne (by omega), this]
    simp [hne]
theorem l42 {F : Nat} (hF : 400 ≤ F) {p : List (List Int)} (hp : ∀ g ∈ p, g.length < 400) : c42 F p = some (patS p) := by
  unfold c42 patS
  by_cases h0 : p.length = 0
  · simp [h0]
  · by_cases h1 : 10 < p.length
    · simp (disch := omega) only [cd_pos, cd_neg, if_pos, if_neg]
    · simp (disch := omega) only [cd_pos, cd_neg, if_pos, if_neg]
      refine ex_eq (bind_sim p patG (fun _ => (0 : Int)) (fun i s t => t.2 = (i : Int) ∧ SeenL s t.1) (fun (a : Int) (b : List Bool × Int ⊕ List Bool) => Sum.elim (fun v38 => some v38.2) (fun _ => some 0) b = some a) [] (by omega) ⟨rfl, ?_⟩ ?_ ?_ ?_)
      · exact ⟨by simp, fun k hk => by rw [List.getD_eq_getElem?_getD, List.getElem?_replicate, if_pos hk]; simp⟩
      · intro i g s t hi hx ⟨ht, hs⟩
        obtain ⟨m, j⟩ := t
        simp only at ht hs
        subst ht
        have hg := hp g (List.mem_of_getElem? hx)
        simp (disch := omega) only [cd_pos, gd_dec, Int.toNat_natCast, getD_some hx, w64_in]
        by_cases h : g.length = 0
        · exact ⟨_, by simp [h]; rfl, by simp [patG, h, RelS]⟩
        · simp (disch := omega) only [cd_neg]
          refine bind_sim g patI .inl (fun i s t => t.2 = (i : Int) ∧ SeenL s t.1) (fun (a : List Int ⊕ Int) (b : List Bool × Int ⊕ List Bool) => RelS SeenL (fun e v => v.2 = e) a (b.elim .inr .inl)) s (by omega) ⟨rfl, hs⟩ ?_ ?_ ?_
          · intro k x s t hk hx' ⟨ht, hs⟩
            obtain ⟨m, j⟩ := t
            simp only at ht hs
            subst ht
            simp (disch := omega) only [cd_pos, gd_dec, Int.toNat_natCast, getD_some hx, getD_some hx', w64_in, l82, Option.bind_some]
            by_cases hb : x < 1 ∨ 10 < x
            · refine ⟨_, by simp [hb]; rfl, ?_⟩
              have : x < 1 ∨ 10 < x ∨ x ∈ s := hb.elim .inl fun h => .inr (.inl h)
              simp [patI, this, RelS]
            · have hm := hs.1
              have hq := hs.2 x.toNat (by omega)
              rw [show ((x.toNat : Nat) : Int) = x by omega] at hq
              simp (disch := omega) only [cd_neg, gd_dec, Nat.zero_add, hq]
              by_cases hin : x ∈ s
              · refine ⟨_, by simp [hin]; rfl, ?_⟩
                simp [patI, hin, RelS]
              · refine ⟨_, by simp [hin]; rfl, ?_⟩
                have : ¬ (x < 1 ∨ 10 < x ∨ x ∈ s) := fun h => h.elim (fun h => hb (.inl h)) fun h => h.elim (fun h => hb (.inr h)) hin
                rw [patI, if_neg this]
                exact ⟨by simp, hs.put (by omega) (by omega)⟩
          · intro s t ⟨ht, hs⟩
            obtain ⟨m, j⟩ := t
            simp only at ht hs
            subst ht
            simp (disch := omega) only [cd_neg, gd_dec, Int.toNat_natCast, getD_some hx]
            exact ⟨_, rfl, hs⟩
          · intro b hb
            cases b with
            | inl v =>
              refine ⟨_, rfl, ?_⟩
              rw [patG, if_neg h]
              cases e : goL patI .inl g s with
              | inl s' => rw [e] at hb; exact hb.elim
              | inr e' => rw [e] at hb; simp only [RelS, Sum.elim_inl] at hb ⊢; rw [hb]
            | inr v =>
              refine ⟨_, rfl, ?_⟩
              rw [patG, if_neg h]
              cases e : goL patI .inl g s with
              | inl s' => rw [e] at hb; exact ⟨by simp, hb⟩
              | inr e' => rw [e] at hb; exact hb.elim
      · intro s t ⟨ht, hs⟩
        obtain ⟨m, j⟩ := t
        simp only at ht hs
        subst ht
        simp (disch := omega) only [cd_neg]
        exact ⟨_, rfl, rfl⟩
      · intro b hb
        exact ⟨_, hb, rfl⟩
def SeenM (s : List Int) (m : List (Int × Bool)) : Prop := ∀ k : Int, mgetD intEq k m false = decide (k ∈ s)
theorem SeenM.put {s : List Int} {m : List (Int × Bool)} (h : SeenM s m) {x : Int} : SeenM (x :: s) (mput intEq x true m) := by
  intro k
  rw [mgetD_mput intEq_iff, h k]
  by_cases e : k = x <;> simp [intEq, e]
theorem l43 {F : Nat} (hF : 400 ≤ F) {p : List (List Int)} (hp : ∀ g ∈ p, g.length < 400) : c43 F p = some (patS p) := by
  unfold c43 patS
  simp only [l76, Option.bind_some, nilT]
  rw [l75 (by simp; omega) (by simp)]
  by_cases h0 : p.length = 0
  · simp [h0, firstNZ]
  · by_cases h1 : 10 < p.length
    · have : (10 : Int) < p.length := by omega
      have h0' : ¬ (p.length : Int) = 0 := by omega
      simp [h0, h1, this, h0', firstNZ]
    · have h1' : ¬ (10 : Int) < p.length := by omega
      have h0' : ¬ (p.length : Int) = 0 := by omega
      simp only [h0, h1, h0', h1', decide_false, Bool.false_eq_true, if_false, firstNZ, if_true, Option.bind_some, decide_true, Bool.not_true, cond_false]
      refine ex_eq (bind_sim p patG (fun _ => (0 : Int)) (fun i s t => t.2 = (i : Int) ∧ SeenM s t.1) (fun (a : Int) (b : List (Int × Bool) × Int ⊕ List (Int × Bool)) => Sum.elim (fun v38 => some v38.2) (fun _ => some 0) b = some a) [] (by omega) ⟨rfl, fun k => rfl⟩ ?_ ?_ ?_)
      · intro i g s t hi hx ⟨ht, hs⟩
        obtain ⟨m, j⟩ := t
        simp only at ht hs
        subst ht
        have hg := hp g (List.mem_of_getElem? hx)
        simp (disch := omega) only [cd_pos, gd_dec, Int.toNat_natCast, getD_some hx, w64_in]
        by_cases h : g.length = 0
        · exact ⟨_, by simp [h]; rfl, by simp [patG, h, RelS]⟩
        · simp (disch := omega) only [cd_neg]
          refine bind_sim g patI .inl (fun i s t => t.2 = (i : Int) ∧ SeenM s t.1) (fun (a : List Int ⊕ Int) (b : List (Int × Bool) × Int ⊕ List (Int × Bool)) => RelS SeenM (fun e v => v.2 = e) a (b.elim .inr .inl)) s (by omega) ⟨rfl, hs⟩ ?_ ?_ ?_
          · intro k x s t hk hx' ⟨ht, hs⟩
            obtain ⟨m, j⟩ := t
            simp only at ht hs
            subst ht
            simp (disch := omega) only [cd_pos, gd_dec, Int.toNat_natCast, getD_some hx, getD_some hx', w64_in, hs x]
            by_cases h1 : x < 1
            · exact ⟨_, by simp [h1]; rfl, by simp [patI, h1, RelS]⟩
            · by_cases h2 : 10 < x
              · exact ⟨_, by simp [h1, h2]; rfl, by simp [patI, h1, h2, RelS]⟩
              · by_cases hin : x ∈ s
                · exact ⟨_, by simp [h1, h2, hin]; rfl, by simp [patI, h1, h2, hin, RelS]⟩
                · refine ⟨_, by simp [h1, h2, hin]; rfl, ?_⟩
                  rw [patI, if_neg (by simp [h1, h2, hin])]
                  exact ⟨by simp, hs.put⟩
          · intro s t ⟨ht, hs⟩
            obtain ⟨m, j⟩ := t
            simp only at ht hs
            subst ht
            simp (disch := omega) only [cd_neg]
            exact ⟨_, rfl, hs⟩
          · intro b hb
            cases b with
            | inl v =>
              refine ⟨_, rfl, ?_⟩
              rw [patG, if_neg h]
              cases e : goL patI .inl g s with
              | inl s' => rw [e] at hb; exact hb.elim
              | inr e' => rw [e] at hb; simp only [RelS, Sum.elim_inl] at hb ⊢; rw [hb]
            | inr v =>
              refine ⟨_, rfl, ?_⟩
              rw [patG, if_neg h]
              cases e : goL patI .inl g s with
              | inl s' => rw [e] at hb; exact ⟨by simp, hb⟩
              | inr e' => rw [e] at hb; exact hb.elim
      · intro s t ⟨ht, hs⟩
        obtain ⟨m, j⟩ := t
        simp only at ht hs
        subst ht
        simp (disch := omega) only [cd_neg]
        exact ⟨_, rfl, rfl⟩
      · intro b hb
        exact ⟨_, hb, rfl⟩
theorem l105 (F : Nat) (n lo hi : Int) : c105 F (n, lo, hi) = some (decide (n < lo ∨ hi < n)) := by
  unfold c105
  by_cases h : n < lo <;> by_cases k : hi < n <;> simp [h, k]
theorem l22 (F : Nat) (key n : Int) : c22 F (key, n) = some (if key < 1 ∨ 2147483646 < key ∨ n < 0 ∨ 256 < n then 3 else 0) := by
  unfold c22
  by_cases h : key < 1 <;> by_cases k : 2147483646 < key <;> by_cases a : n < 0 <;> by_cases b : 256 < n <;> simp [h, k, a, b]
theorem l86 {F : Nat} (hF : 400 ≤ F) {key : Int} {n : Nat} : c86 F (key, (n : Int)) = some (if key < 1 ∨ 2147483646 < key ∨ 256 < n then ([], 3) else (drawS key n, 0)) := by
  unfold c86
  simp only [l105, Option.bind_some]
  by_cases hb : key < 1 ∨ 2147483646 < key ∨ 256 < n
  · rw [if_pos hb]
    have : (bif decide (key < 1 ∨ 2147483646 < key) then some true else some (decide ((n : Int) < 0 ∨ 256 < (n : Int)))) = some true := by
      by_cases h : key < 1 ∨ 2147483646 < key
      · simp [h]
      · have : 256 < (n : Int) := by omega
        simp [h, this]
    rw [this]
    rfl
  · rw [if_neg hb]
    have : (bif decide (key < 1 ∨ 2147483646 < key) then some true else some (decide ((n : Int) < 0 ∨ 256 < (n : Int)))) = some false := by
      have h : ¬ (key < 1 ∨ 2147483646 < key) := by omega
      have : ¬ ((n : Int) < 0 ∨ 256 < (n : Int)) := by omega
      simp [h, this]
    have h1 : 1 ≤ key := by omega
    have h2 : key < 2147483647 := by omega
    have hn : n ≤ 256 := by omega
    have hlen : (drawS key n).length = n := by rw [(drawS_perm (by omega) h2 n).length_eq, ids_length]
    rw [this]
    simp (disch := omega) only [gd_dec, Int.toNat_natCast, Option.bind_some, cond_false]
    refine bind_list (List.replicate n ()) (fun (_ : Unit) i => (ids i ++ List.replicate (n - i) (0 : Int), (i : Int))) (fun _ _ => .inl ()) (fun _ => ids n) (fun _ _ => True) () (by simp; omega) (by simp [ids]) trivial ?_ ?_ ?_
    · intro i x s hi hx _
      simp only [List.length_replicate] at hi
      have hl : (ids i ++ List.replicate (n - i) (0 : Int)).length = n := by simp [ids_length]; omega
      refine ⟨?_, fun _ _ => trivial⟩
      simp (disch := omega) only [cd_pos, gd_dec, Nat.zero_add, Int.toNat_natCast, hl, set_ids hi, w64_in]
      simp
    · intro s _
      simp (disch := omega) only [List.length_replicate, cd_neg]
      simp
    · rw [goL_unit]
      refine bind_list (List.replicate (n - 1) ()) (fun s _ => s) drawB (fun s => s.1) (DrawI n) (ids n, key, (n : Int) - 1) (by simp; omega) ?_ ⟨ids_length n, by simp only; omega, h2, by simp⟩ ?_ ?_ ?_
      · rw [w64_in (by omega) (by omega)]
      · intro i x s hi hx hI
        simp only [List.length_replicate] at hi
        refine ⟨?_, fun s' hs => drawB_inv hi hI hs⟩
        obtain ⟨out, key, j⟩ := s
        obtain ⟨h1, h2, h3, h4⟩ := hI
        simp only at h1 h2 h3 h4
        have k1 : 0 ≤ Int.tmod (69621 * key) 2147483647 := Int.tmod_nonneg _ (by omega)
        have m1 : 0 ≤ Int.tmod (Int.tmod (69621 * key) 2147483647) (j + 1) := Int.tmod_nonneg _ k1
        have m2 : Int.tmod (Int.tmod (69621 * key) 2147483647) (j + 1) < j + 1 := Int.tmod_lt_of_pos _ (by omega)
        simp only [drawB]
        simp (disch := omega) only [w64_in, cd_pos]
        generalize Int.tmod (Int.tmod (69621 * key) 2147483647) (j + 1) = q at m1 m2
        simp (disch := omega) only [gd_dec, Nat.zero_add, List.length_set]
      · intro s ⟨h1, h2, h3, h4⟩
        simp only [List.length_replicate] at h4
        simp (disch := omega) only [cd_neg]
      · change gd (decide (0 + n ≤ (drawS key n).length) && true) (some (List.take n (List.drop 0 (drawS key n)), 0)) = _
        rw [hlen, Bool.and_true, gd_dec (by omega), List.drop_zero, List.take_of_length_le (by omega)]
def laneB (key : Int) (g : List Int) (s : List Int × Nat) : (List Int × Nat) ⊕ (List Int × Int) :=
  if w64 (key + s.2) < 1 ∨ 2147483646 < w64 (key + s.2) ∨ 256 < g.length then .inr ([], 3) else .inl (s.1 ++ (drawS (w64 (key + s.2)) g.length).map (fun k => g.getD k.toNat 0), s.2 + 1)
def laneS (p : List (List Int)) (n key : Int) : List Int × Int := goL (laneB key) (fun s => if (s.1.length : Int) < n then ([], 17) else (s.1.take n.toNat, 0)) p ([], 0)
theorem l45 {F : Nat} (hF : 400 ≤ F) {p : List (List Int)} (hl : p.length ≤ 12) (hp : ∀ g ∈ p, g.length ≤ 12) {n key : Int} (hn : 0 ≤ n) : c45 F (p, n, key) = some (laneS p n key) := by
  unfold c45
  have hs : ∀ (b : List Int × Int), b.2 ≠ 0 ∨ True := fun _ => .inr trivial
  refine ex_eq (bind_sim p (laneB key) (fun s => if (s.1.length : Int) < n then ([], 17) else (s.1.take n.toNat, 0)) (fun i s t => t = (s.1, (i : Int)) ∧ s.2 = i ∧ s.1.length ≤ 12 * i)
    (fun (a : List Int × Int) (b : List Int × List Int × Int ⊕ List Int) => match b with
      | .inl v => a = v.2
      | .inr out => a = (if (out.length : Int) < n then ([], 17) else (out.take n.toNat, 0))) ([], 0) (by omega) ⟨rfl, rfl, by simp⟩ ?_ ?_ ?_)
  · intro i g s t hi hx ⟨ht, hs, hlen⟩
    obtain ⟨out, j⟩ := s
    simp only at ht hs hlen
    subst ht; subst hs
    have hg := hp g (List.mem_of_getElem? hx)
    simp (disch := omega) only [cd_pos, gd_dec, Int.toNat_natCast, getD_some hx, w64_in (n := ((j : Nat) : Int) + 1), l22, Option.bind_some, eq_self, decide_true, Bool.and_true, gd_true]
    by_cases hb : w64 (key + j) < 1 ∨ 2147483646 < w64 (key + j) ∨ 256 < g.length
    · have : w64 (key + j) < 1 ∨ 2147483646 < w64 (key + j) ∨ (g.length : Int) < 0 ∨ 256 < (g.length : Int) := by omega
      rw [if_pos this]
      exact ⟨_, by simp; rfl, by simp [laneB, hb, RelS, nilT]⟩
    · have : ¬ (w64 (key + j) < 1 ∨ 2147483646 < w64 (key + j) ∨ (g.length : Int) < 0 ∨ 256 < (g.length : Int)) := by omega
      rw [if_neg this]
      have h2 : w64 (key + j) < 2147483647 := by omega
      have hd := drawS_perm (key := w64 (key + j)) (by omega) h2 g.length
      have hdl : (drawS (w64 (key + j)) g.length).length = g.length := by rw [hd.length_eq, ids_length]
      simp only [decide_true, Bool.not_true, cond_false, l59 hF (show 1 ≤ w64 (key + j) by omega) h2 (show g.length ≤ 256 by omega), Option.bind_some]
      refine ⟨.inl (out ++ (drawS (w64 (key + j)) g.length).map (fun k => g.getD k.toNat 0), ((j : Nat) : Int) + 1), ?_, ?_⟩
      · refine bind_list (drawS (w64 (key + j)) g.length) (fun (s : List Int) i => (s, (i : Int))) (fun k o => .inl (o ++ [g.getD k.toNat 0])) (fun o => o) (fun i s => s.length = out.length + i) out (by omega) rfl (by simp) ?_ ?_ ?_
        · intro k x s hk hx' hI
          have hm := mem_ids.1 (hd.mem_iff.1 (List.mem_of_getElem? hx'))
          have hI' : s.length ≤ 400 := by omega
          refine ⟨?_, fun s' hs => by cases hs; simp; omega⟩
          simp only [nilT, List.length_append, List.length_cons, List.length_nil]
          simp (disch := omega) only [cd_pos, gd_dec, Int.toNat_natCast, getD_some hx', w64_in, Option.bind_some, Nat.zero_add]
          simp
        · intro s hI
          simp (disch := omega) only [cd_neg]
        · rw [goL_append]
      · rw [laneB, if_neg hb]
        refine ⟨by simp, rfl, ?_⟩
        simp only [List.length_append, List.length_map, hdl]
        omega
  · intro s t ⟨ht, hs, hlen⟩
    subst ht
    simp (disch := omega) only [cd_neg]
    exact ⟨.inr s.1, by simp [gd_true], rfl⟩
  · intro b hb
    cases b with
    | inl v => exact ⟨v.2, rfl, hb.symm⟩
    | inr out =>
      simp only at hb
      by_cases h : (out.length : Int) < n
      · exact ⟨([], 17), by simp [h, nilT], by rw [laneS, hb, if_pos h]⟩
      · refine ⟨(out.take n.toNat, 0), ?_, by rw [laneS, hb, if_neg h]⟩
        simp only [Sum.elim_inr, h, decide_false, cond_false]
        rw [gd_dec (by omega), gd_dec (by omega), Bool.and_true, gd_dec (by omega)]
        simp
theorem l44 {F : Nat} (hF : 400 ≤ F) {p : List (List Int)} (hl : p.length ≤ 12) (hp : ∀ g ∈ p, g.length ≤ 12) {n key : Int} : c44 F (p, n, key) = some (if patS p ≠ 0 then ([], patS p) else if n < 0 ∨ 160 < n then ([], 3) else laneS p n key) := by
  unfold c44
  simp only [l43 hF (fun g hg => Nat.lt_of_le_of_lt (hp g hg) (by omega)), l83, Option.bind_some, nilT]
  rw [l75 (by simp; omega) (by simp)]
  by_cases hp0 : patS p = 0
  · by_cases hr : n < 0 ∨ 160 < n
    · simp [hp0, hr, firstNZ]
    · have hn : 0 ≤ n := by omega
      simp only [hp0, hr, if_false, if_true, ne_eq, not_true_eq_false, not_false_eq_true, firstNZ, Option.bind_some, decide_true, Bool.not_true, cond_false]
      refine ex_eq (bind_sim p (laneB key) (fun s => if (s.1.length : Int) < n then ([], 17) else (s.1.take n.toNat, 0)) (fun i s t => t = (s.1, (i : Int)) ∧ s.2 = i ∧ s.1.length ≤ 12 * i)
        (fun (a : List Int × Int) (b : List Int × List Int × Int ⊕ List Int) => match b with
          | .inl v => a = v.2
          | .inr out => a = (if (out.length : Int) < n then ([], 17) else (out.take n.toNat, 0))) ([], 0) (by omega) ⟨rfl, rfl, by simp⟩ ?_ ?_ ?_)
      · intro i g s t hi hx ⟨ht, hs, hlen⟩
        obtain ⟨out, j⟩ := s
        simp only at ht hs hlen
        subst ht; subst hs
        have hg := hp g (List.mem_of_getElem? hx)
        simp (disch := omega) only [cd_pos, gd_dec, Int.toNat_natCast, getD_some hx, w64_in (n := ((j : Nat) : Int) + 1), l86 hF, Option.bind_some, eq_self, decide_true, Bool.and_true, gd_true]
        by_cases hb : w64 (key + j) < 1 ∨ 2147483646 < w64 (key + j) ∨ 256 < g.length
        · rw [if_pos hb]
          exact ⟨_, by simp; rfl, by simp [laneB, hb, RelS, nilT]⟩
        · rw [if_neg hb]
          have h2 : w64 (key + j) < 2147483647 := by omega
          have hd := drawS_perm (key := w64 (key + j)) (by omega) h2 g.length
          have hdl : (drawS (w64 (key + j)) g.length).length = g.length := by rw [hd.length_eq, ids_length]
          simp only [decide_true, Bool.not_true, cond_false, Option.bind_some]
          refine ⟨.inl (out ++ (drawS (w64 (key + j)) g.length).map (fun k => g.getD k.toNat 0), ((j : Nat) : Int) + 1), ?_, ?_⟩
          · refine bind_list (drawS (w64 (key + j)) g.length) (fun (s : List Int) i => (s, (i : Int))) (fun k o => .inl (o ++ [g.getD k.toNat 0])) (fun o => o) (fun i s => s.length = out.length + i) out (by omega) rfl (by simp) ?_ ?_ ?_
            · intro k x s hk hx' hI
              have hm := mem_ids.1 (hd.mem_iff.1 (List.mem_of_getElem? hx'))
              have hI' : s.length ≤ 400 := by omega
              refine ⟨?_, fun s' hs => by cases hs; simp; omega⟩
              simp only [nilT, List.length_append, List.length_cons, List.length_nil]
              simp (disch := omega) only [cd_pos, gd_dec, Int.toNat_natCast, getD_some hx', w64_in, Option.bind_some, Nat.zero_add]
              simp
            · intro s hI
              simp (disch := omega) only [cd_neg]
            · rw [goL_append]
          · rw [laneB, if_neg hb]
            refine ⟨by simp, rfl, ?_⟩
            simp only [List.length_append, List.length_map, hdl]
            omega
      · intro s t ⟨ht, hs, hlen⟩
        subst ht
        simp (disch := omega) only [cd_neg]
        exact ⟨.inr s.1, by simp [gd_true], rfl⟩
      · intro b hb
        cases b with
        | inl v => exact ⟨v.2, rfl, hb.symm⟩
        | inr out =>
          simp only at hb
          by_cases h : (out.length : Int) < n
          · exact ⟨([], 17), by simp [h, nilT], by rw [laneS, hb, if_pos h]⟩
          · refine ⟨(out.take n.toNat, 0), ?_, by rw [laneS, hb, if_neg h]⟩
            simp only [Sum.elim_inr, h, decide_false, cond_false]
            rw [gd_dec (by omega), gd_dec (by omega), Bool.and_true, gd_dec (by omega)]
            simp
  · simp [hp0, firstNZ]
theorem laneS_ok {p : List (List Int)} (hl : p.length ≤ 12) (hp : ∀ g ∈ p, g.length ≤ 12) {n key : Int} : ((laneS p n key).2 = 0 ∧ (laneS p n key).1.length < 400) ∨ ((laneS p n key).2 ≠ 0 ∧ (laneS p n key).1 = []) := by
  have := goL_inv (laneB key) (fun s => if (s.1.length : Int) < n then (([], 17) : List Int × Int) else (s.1.take n.toNat, 0)) p (fun i s => s.1.length ≤ 12 * i) (fun b => (b.2 = 0 ∧ b.1.length < 400) ∨ (b.2 ≠ 0 ∧ b.1 = []))
    (fun i g s hi hx hI => by
      have hg := hp g (List.mem_of_getElem? hx)
      unfold laneB
      split
      · exact ⟨fun s' h => (by cases h), fun b h => by cases h; exact .inr ⟨show (3 : Int) ≠ 0 by decide, rfl⟩⟩
      · rename_i hb
        refine ⟨fun s' h => ?_, fun b h => by cases h⟩
        cases h
        have hd := drawS_perm (key := w64 (key + s.2)) (by omega) (by omega) g.length
        simp only [List.length_append, List.length_map, hd.length_eq, ids_length]
        omega)
    (fun s hI => by
      split
      · exact .inr ⟨show (17 : Int) ≠ 0 by decide, rfl⟩
      · refine .inl ⟨rfl, ?_⟩
        simp only [List.length_take]
        omega) p.length 0 ([], 0) (by simp) (by simp) (by simp)
  exact this
theorem law6 (a : List (List Int) × Int × Int) : c6 400 a = some true := by
  obtain ⟨p, n, key⟩ := a
  unfold c6
  simp only [l31 (Nat.le_refl 400) (show (12 : Int) ≤ 300 by decide), Option.bind_some]
  by_cases hw : (decide ((12 : Int) < p.length) || p.any fun x => decide ((12 : Int) < (x.length : Int))) = true
  · simp [hw]
  · simp only [Bool.or_eq_true, decide_eq_true_eq, List.any_eq_true, not_or, not_exists, not_and] at hw
    obtain ⟨hl, hp⟩ := hw
    have hl : p.length ≤ 12 := by omega
    have hp : ∀ g ∈ p, g.length ≤ 12 := fun g hg => by have := hp g hg; omega
    have hp' : ∀ g ∈ p, g.length < 400 := fun g hg => by have := hp g hg; omega
    have hw : (decide ((12 : Int) < p.length) || p.any fun x => decide ((12 : Int) < (x.length : Int))) = false := by
      rw [Bool.or_eq_false_iff, List.any_eq_false]
      exact ⟨by simp; omega, fun x hx => by have := hp x hx; simp; omega⟩
    simp only [hw, cond_false, l42 (Nat.le_refl 400) hp', l43 (Nat.le_refl 400) hp', Option.bind_some, decide_true, Bool.not_true, l44 (Nat.le_refl 400) hl hp, l26, nilT]
    rw [l25 (by simp) (by simp)]
    by_cases h0 : patS p = 0
    · by_cases hr : n < 0 ∨ 160 < n
      · simp only [h0, hr, firstNZ, if_true, ne_eq, not_true_eq_false, if_false, Option.bind_some]
        simp [l24_err]
      · have hn : 0 ≤ n := by omega
        simp only [h0, hr, firstNZ, if_true, ne_eq, not_true_eq_false, if_false, Option.bind_some, decide_true, cond_true, l45 (Nat.le_refl 400) hl hp hn]
        rcases laneS_ok (n := n) (key := key) hl hp with ⟨h1, h2⟩ | ⟨h1, h2⟩
        · rw [h1, l24_ok h2]; rfl
        · rw [l24_err h1 h2 rfl]; rfl
    · simp only [h0, firstNZ, if_false, ne_eq, not_false_eq_true, if_true, Option.bind_some, decide_false, cond_false]
      rw [l24_err h0 rfl rfl]; rfl
end Go.Proofs.Tryz

/- Plain law of SeedCharts: lists that are the same, copies; the whole. Functions of the program as functions of data. By program. Plain law of SeedLanes (under way). Plain law of SeedTracks: lists of lanes. Functions of the program as functions of data. By program. -/
import Derived.Test.YtdghdcclhnoigaaGreatDoorXTryzL8
import Derived.Test.YtdghdcclhnoigaaGreatDoorXP8c
import Derived.Test.YtdghdcclhnoigaaGreatDoorXTryzA
import Derived.Test.YtdghdcclhnoigaaGreatDoorXTryzG
section
set_option maxRecDepth 100000
set_option linter.unusedVariables false
namespace Go.Proofs.Tryz
open Go Go.Sx
end Go.Proofs.Tryz
end
section
set_option maxRecDepth 100000
set_option linter.all false
namespace Go.Proofs.Tryz
open Go Go.Sx
end Go.Proofs.Tryz
end
section
set_option maxRecDepth 100000
set_option linter.unusedVariables false
set_option linter.unusedSimpArgs false
namespace Go.Proofs.Tryz
open Go Go.Sx
theorem l31 {F : Nat} (hF : 400 ≤ F) {l : List (List Int)} {n each : Int} (hn : n ≤ 300) : c31 F (l, n, each) = some (decide (n < l.length) || l.any fun x => decide (each < (x.length : Int))) := by
  unfold c31
  by_cases h : n < l.length
  · simp [h]
  · simp only [h, decide_false, cond_false, Bool.false_or]
    refine bind_list l (fun (_ : Unit) i => (i : Int)) (fun x _ => if (decide (each < (x.length : Int))) = true then .inr (.inl true) else .inl ()) (fun _ => .inr ()) (fun _ _ => True) () (by omega) rfl trivial ?_ ?_ ?_
    · intro i x s hi hx _
      refine ⟨?_, fun _ _ => trivial⟩
      simp (disch := omega) only [cd_pos, gd_dec, Int.toNat_natCast, getD_some hx, w64_in]
      by_cases he : each < (x.length : Int) <;> simp [he]
    · intro s _
      simp (disch := omega) only [cd_neg]
    · rw [goL_any]
      split <;> simp_all
def patI (x : Int) (s : List Int) : List Int ⊕ (List Int ⊕ Int) := if x < 1 ∨ 10 < x ∨ x ∈ s then .inr (.inr 17) else .inl (x :: s)
def patG (g : List Int) (s : List Int) : List Int ⊕ Int := if g.length = 0 then .inr 12 else goL patI .inl g s
def patS (p : List (List Int)) : Int := if p.length = 0 then 12 else if 10 < p.length then 5 else goL patG (fun _ => 0) p []
def SeenL (s : List Int) (m : List Bool) : Prop := m.length = 11 ∧ ∀ k : Nat, k < 11 → m.getD k false = decide ((k : Int) ∈ s)
theorem SeenL.put {s : List Int} {m : List Bool} (h : SeenL s m) {x : Int} (h0 : 0 ≤ x) (h1 : x < 11) : SeenL (x :: s) (m.set x.toNat true) := by
  refine ⟨by simp [h.1], fun k hk => ?_⟩
  have := h.2 k hk
  have hm := h.1
  by_cases e : x.toNat = k
  · subst e
    have : ((x.toNat : Nat) : Int) = x := by omega
    simp [List.getD, List.getElem?_set, hm, hk, this]
  · have hne : (k : Int) ≠ x := by omega
    simp only [List.getD] at this ⊢
    rw [List.getElem?_set_ne (by omega), this]
    simp [hne]
theorem l42 {F : Nat} (hF : 400 ≤ F) {p : List (List Int)} (hp : ∀ g ∈ p, g.length < 400) : c42 F p = some (patS p) := by
  unfold c42 patS
  by_cases h0 : p.length = 0
  · simp [h0]
  · by_cases h1 : 10 < p.length
    · simp (disch := omega) only [cd_pos, cd_neg, if_pos, if_neg]
    · simp (disch := omega) only [cd_pos, cd_neg, if_pos, if_neg]
      refine ex_eq (bind_sim p patG (fun _ => (0 : Int)) (fun i s t => t.2 = (i : Int) ∧ SeenL s t.1) (fun (a : Int) (b : List Bool × Int ⊕ List Bool) => Sum.elim (fun v38 => some v38.2) (fun _ => some 0) b = some a) [] (by omega) ⟨rfl, ?_⟩ ?_ ?_ ?_)
      · exact ⟨by simp, fun k hk => by rw [List.getD_eq_getElem?_getD, List.getElem?_replicate, if_pos hk]; simp⟩
      · intro i g s t hi hx ⟨ht, hs⟩
        obtain ⟨m, j⟩ := t
        simp only at ht hs
        subst ht
        have hg := hp g (List.mem_of_getElem? hx)
        simp (disch := omega) only [cd_pos, gd_dec, Int.toNat_natCast, getD_some hx, w64_in]
        by_cases h : g.length = 0
        · exact ⟨_, by simp [h]; rfl, by simp [patG, h, RelS]⟩
        · simp (disch := omega) only [cd_neg]
          refine bind_sim g patI .inl (fun i s t => t.2 = (i : Int) ∧ SeenL s t.1) (fun (a : List Int ⊕ Int) (b : List Bool × Int ⊕ List Bool) => RelS SeenL (fun e v => v.2 = e) a (b.elim .inr .inl)) s (by omega) ⟨rfl, hs⟩ ?_ ?_ ?_
          · intro k x s t hk hx' ⟨ht, hs⟩
            obtain ⟨m, j⟩ := t
            simp only at ht hs
            subst ht
            simp (disch := omega) only [cd_pos, gd_dec, Int.toNat_natCast, getD_some hx, getD_some hx', w64_in, l82, Option.bind_some]
            by_cases hb : x < 1 ∨ 10 < x
            · refine ⟨_, by simp [hb]; rfl, ?_⟩
              have : x < 1 ∨ 10 < x ∨ x ∈ s := hb.elim .inl fun h => .inr (.inl h)
              simp [patI, this, RelS]
            · have hm := hs.1
              have hq := hs.2 x.toNat (by omega)
              rw [show ((x.toNat : Nat) : Int) = x by omega] at hq
              simp (disch := omega) only [cd_neg, gd_dec, Nat.zero_add, hq]
              by_cases hin : x ∈ s
              · refine ⟨_, by simp [hin]; rfl, ?_⟩
                simp [patI, hin, RelS]
              · refine ⟨_, by simp [hin]; rfl, ?_⟩
                have : ¬ (x < 1 ∨ 10 < x ∨ x ∈ s) := fun h => h.elim (fun h => hb (.inl h)) fun h => h.elim (fun h => hb (.inr h)) hin
                rw [patI, if_neg this]
                exact ⟨by simp, hs.put (by omega) (by omega)⟩
          · intro s t ⟨ht, hs⟩
            obtain ⟨m, j⟩ := t
            simp only at ht hs
            subst ht
            simp (disch := omega) only [cd_neg, gd_dec, Int.toNat_natCast, getD_some hx]
            exact ⟨_, rfl, hs⟩
          · intro b hb
            cases b with
            | inl v =>
              refine ⟨_, rfl, ?_⟩
              rw [patG, if_neg h]
              cases e : goL patI .inl g s with
              | inl s' => rw [e] at hb; exact hb.elim
              | inr e' => rw [e] at hb; simp only [RelS, Sum.elim_inl] at hb ⊢; rw [hb]
            | inr v =>
              refine ⟨_, rfl, ?_⟩
              rw [patG, if_neg h]
              cases e : goL patI .inl g s with
              | inl s' => rw [e] at hb; exact ⟨by simp, hb⟩
              | inr e' => rw [e] at hb; exact hb.elim
      · intro s t ⟨ht, hs⟩
        obtain ⟨m, j⟩ := t
        simp only at ht hs
        subst ht
        simp (disch := omega) only [cd_neg]
        exact ⟨_, rfl, rfl⟩
      · intro b hb
        exact ⟨_, hb, rfl⟩
def SeenM (s : List Int) (m : List (Int × Bool)) : Prop := ∀ k : Int, mgetD intEq k m false = decide (k ∈ s)
theorem SeenM.put {s : List Int} {m : List (Int × Bool)} (h : SeenM s m) {x : Int} : SeenM (x :: s) (mput intEq x true m) := by
  intro k
  rw [mgetD_mput intEq_iff, h k]
  by_cases e : k = x <;> simp [intEq, e]
theorem l43 {F : Nat} (hF : 400 ≤ F) {p : List (List Int)} (hp : ∀ g ∈ p, g.length < 400) : c43 F p = some (patS p) := by
  unfold c43 patS
  simp only [l76, Option.bind_some, nilT]
  rw [l75 (by simp; omega) (by simp)]
  by_cases h0 : p.length = 0
  · simp [h0, firstNZ]
  · by_cases h1 : 10 < p.length
    · have : (10 : Int) < p.length := by omega
      have h0' : ¬ (p.length : Int) = 0 := by omega
      simp [h0, h1, this, h0', firstNZ]
    · have h1' : ¬ (10 : Int) < p.length := by omega
      have h0' : ¬ (p.length : Int) = 0 := by omega
      simp only [h0, h1, h0', h1', decide_false, Bool.false_eq_true, if_false, firstNZ, if_true, Option.bind_some, decide_true, Bool.not_true, cond_false]
      refine ex_eq (bind_sim p patG (fun _ => (0 : Int)) (fun i s t => t.2 = (i : Int) ∧ SeenM s t.1) (fun (a : Int) (b : List (Int × Bool) × Int ⊕ List (Int × Bool)) => Sum.elim (fun v38 => some v38.2) (fun _ => some 0) b = some a) [] (by omega) ⟨rfl, fun k => rfl⟩ ?_ ?_ ?_)
      · intro i g s t hi hx ⟨ht, hs⟩
        obtain ⟨m, j⟩ := t
        simp only at ht hs
        subst ht
        have hg := hp g (List.mem_of_getElem? hx)
        simp (disch := omega) only [cd_pos, gd_dec, Int.toNat_natCast, getD_some hx, w64_in]
        by_cases h : g.length = 0
        · exact ⟨_, by simp [h]; rfl, by simp [patG, h, RelS]⟩
        · simp (disch := omega) only [cd_neg]
          refine bind_sim g patI .inl (fun i s t => t.2 = (i : Int) ∧ SeenM s t.1) (fun (a : List Int ⊕ Int) (b : List (Int × Bool) × Int ⊕ List (Int × Bool)) => RelS SeenM (fun e v => v.2 = e) a (b.elim .inr .inl)) s (by omega) ⟨rfl, hs⟩ ?_ ?_ ?_
          · intro k x s t hk hx' ⟨ht, hs⟩
            obtain ⟨m, j⟩ := t
            simp only at ht hs
            subst ht
            simp (disch := omega) only [cd_pos, gd_dec, Int.toNat_natCast, getD_some hx, getD_some hx', w64_in, hs x]
            by_cases h1 : x < 1
            · exact ⟨_, by simp [h1]; rfl, by simp [patI, h1, RelS]⟩
            · by_cases h2 : 10 < x
              · exact ⟨_, by simp [h1, h2]; rfl, by simp [patI, h1, h2, RelS]⟩
              · by_cases hin : x ∈ s
                · exact ⟨_, by simp [h1, h2, hin]; rfl, by simp [patI, h1, h2, hin, RelS]⟩
                · refine ⟨_, by simp [h1, h2, hin]; rfl, ?_⟩
                  rw [patI, if_neg (by simp [h1, h2, hin])]
                  exact ⟨by simp, hs.put⟩
          · intro s t ⟨ht, hs⟩
            obtain ⟨m, j⟩ := t
            simp only at ht hs
            subst ht
            simp (disch := omega) only [cd_neg]
            exact ⟨_, rfl, hs⟩
          · intro b hb
            cases b with
            | inl v =>
              refine ⟨_, rfl, ?_⟩
              rw [patG, if_neg h]
              cases e : goL patI .inl g s with
              | inl s' => rw [e] at hb; exact hb.elim
              | inr e' => rw [e] at hb; simp only [RelS, Sum.elim_inl] at hb ⊢; rw [hb]
            | inr v =>
              refine ⟨_, rfl, ?_⟩
              rw [patG, if_neg h]
              cases e : goL patI .inl g s with
              | inl s' => rw [e] at hb; exact ⟨by simp, hb⟩
              | inr e' => rw [e] at hb; exact hb.elim
      · intro s t ⟨ht, hs⟩
        obtain ⟨m, j⟩ := t
        simp only at ht hs
        subst ht
        simp (disch := omega) only [cd_neg]
        exact ⟨_, rfl, rfl⟩
      · intro b hb
        exact ⟨_, hb, rfl⟩
theorem l105 (F : Nat) (n lo hi : Int) : c105 F (n, lo, hi) = some (decide (n < lo ∨ hi < n)) := by
  unfold c105
  by_cases h : n < lo <;> by_cases k : hi < n <;> simp [h, k]
theorem l86 {F : Nat} (hF : 400 ≤ F) {key : Int} {n : Nat} : c86 F (key, (n : Int)) = some (if key < 1 ∨ 2147483646 < key ∨ 256 < n then ([], 3) else (drawS key n, 0)) := by
  unfold c86
  simp only [l105, Option.bind_some]
  by_cases hb : key < 1 ∨ 2147483646 < key ∨ 256 < n
  · rw [if_pos hb]
    have : (bif decide (key < 1 ∨ 2147483646 < key) then some true else some (decide ((n : Int) < 0 ∨ 256 < (n : Int)))) = some true := by
      by_cases h : key < 1 ∨ 2147483646 < key
      · simp [h]
      · have : 256 < (n : Int) := by omega
        simp [h, this]
    rw [this]
    rfl
  · rw [if_neg hb]
    have : (bif decide (key < 1 ∨ 2147483646 < key) then some true else some (decide ((n : Int) < 0 ∨ 256 < (n : Int)))) = some false := by
      have h : ¬ (key < 1 ∨ 2147483646 < key) := by omega
      have : ¬ ((n : Int) < 0 ∨ 256 < (n : Int)) := by omega
      simp [h, this]
    have h1 : 1 ≤ key := by omega
    have h2 : key < 2147483647 := by omega
    have hn : n ≤ 256 := by omega
    have hlen : (drawS key n).length = n := by rw [(drawS_perm (by omega) h2 n).length_eq, ids_length]
    rw [this]
    simp (disch := omega) only [gd_dec, Int.toNat_natCast, Option.bind_some, cond_false]
    refine bind_list (List.replicate n ()) (fun (_ : Unit) i => (ids i ++ List.replicate (n - i) (0 : Int), (i : Int))) (fun _ _ => .inl ()) (fun _ => ids n) (fun _ _ => True) () (by simp; omega) (by simp [ids]) trivial ?_ ?_ ?_
    · intro i x s hi hx _
      simp only [List.length_replicate] at hi
      have hl : (ids i ++ List.replicate (n - i) (0 : Int)).length = n := by simp [ids_length]; omega
      refine ⟨?_, fun _ _ => trivial⟩
      simp (disch := omega) only [cd_pos, gd_dec, Nat.zero_add, Int.toNat_natCast, hl, set_ids hi, w64_in]
      simp
    · intro s _
      simp (disch := omega) only [List.length_replicate, cd_neg]
      simp
    · rw [goL_unit]
      refine bind_list (List.replicate (n - 1) ()) (fun s _ => s) drawB (fun s => s.1) (DrawI n) (ids n, key, (n : Int) - 1) (by simp; omega) ?_ ⟨ids_length n, by simp only; omega, h2, by simp⟩ ?_ ?_ ?_
      · rw [w64_in (by omega) (by omega)]
      · intro i x s hi hx hI
        simp only [List.length_replicate] at hi
        refine ⟨?_, fun s' hs => drawB_inv hi hI hs⟩
        obtain ⟨out, key, j⟩ := s
        obtain ⟨h1, h2, h3, h4⟩ := hI
        simp only at h1 h2 h3 h4
        have k1 : 0 ≤ Int.tmod (69621 * key) 2147483647 := Int.tmod_nonneg _ (by omega)
        have m1 : 0 ≤ Int.tmod (Int.tmod (69621 * key) 2147483647) (j + 1) := Int.tmod_nonneg _ k1
        have m2 : Int.tmod (Int.tmod (69621 * key) 2147483647) (j + 1) < j + 1 := Int.tmod_lt_of_pos _ (by omega)
        simp only [drawB]
        simp (disch := omega) only [w64_in, cd_pos]
        generalize Int.tmod (Int.tmod (69621 * key) 2147483647) (j + 1) = q at m1 m2
        simp (disch := omega) only [gd_dec, Nat.zero_add, List.length_set]
      · intro s ⟨h1, h2, h3, h4⟩
        simp only [List.length_replicate] at h4
        simp (disch := omega) only [cd_neg]
      · change gd (decide (0 + n ≤ (drawS key n).length) && true) (some (List.take n (List.drop 0 (drawS key n)), 0)) = _
        rw [hlen, Bool.and_true, gd_dec (by omega), List.drop_zero, List.take_of_length_le (by omega)]
def laneB (key : Int) (g : List Int) (s : List Int × Nat) : (List Int × Nat) ⊕ (List Int × Int) :=
  if w64 (key + s.2) < 1 ∨ 2147483646 < w64 (key + s.2) ∨ 256 < g.length then .inr ([], 3) else .inl (s.1 ++ (drawS (w64 (key + s.2)) g.length).map (fun k => g.getD k.toNat 0), s.2 + 1)
def laneS (p : List (List Int)) (n key : Int) : List Int × Int := goL (laneB key) (fun s => if (s.1.length : Int) < n then ([], 17) else (s.1.take n.toNat, 0)) p ([], 0)
theorem l44 {F : Nat} (hF : 400 ≤ F) {p : List (List Int)} (hl : p.length ≤ 12) (hp : ∀ g ∈ p, g.length ≤ 12) {n key : Int} : c44 F (p, n, key) = some (if patS p ≠ 0 then ([], patS p) else if n < 0 ∨ 160 < n then ([], 3) else laneS p n key) := by
  unfold c44
  simp only [l43 hF (fun g hg => Nat.lt_of_le_of_lt (hp g hg) (by omega)), l83, Option.bind_some, nilT]
  rw [l75 (by simp; omega) (by simp)]
  by_cases hp0 : patS p = 0
  · by_cases hr : n < 0 ∨ 160 < n
    · simp [hp0, hr, firstNZ]
    · have hn : 0 ≤ n := by omega
      simp only [hp0, hr, if_false, if_true, ne_eq, not_true_eq_false, not_false_eq_true, firstNZ, Option.bind_some, decide_true, Bool.not_true, cond_false]
      refine ex_eq (bind_sim p (laneB key) (fun s => if (s.1.length : Int) < n then ([], 17) else (s.1.take n.toNat, 0)) (fun i s t => t = (s.1, (i : Int)) ∧ s.2 = i ∧ s.1.length ≤ 12 * i)
        (fun (a : List Int × Int) (b : List Int × List Int × Int ⊕ List Int) => match b with
          | .inl v => a = v.2
          | .inr out => a = (if (out.length : Int) < n then ([], 17) else (out.take n.toNat, 0))) ([], 0) (by omega) ⟨rfl, rfl, by simp⟩ ?_ ?_ ?_)
      · intro i g s t hi hx ⟨ht, hs, hlen⟩
        obtain ⟨out, j⟩ := s
        simp only at ht hs hlen
        subst ht; subst hs
        have hg := hp g (List.mem_of_getElem? hx)
        simp (disch := omega) only [cd_pos, gd_dec, Int.toNat_natCast, getD_some hx, w64_in (n := ((j : Nat) : Int) + 1), l86 hF, Option.bind_some, eq_self, decide_true, Bool.and_true, gd_true]
        by_cases hb : w64 (key + j) < 1 ∨ 2147483646 < w64 (key + j) ∨ 256 < g.length
        · rw [if_pos hb]
          exact ⟨_, by simp; rfl, by simp [laneB, hb, RelS, nilT]⟩
        · rw [if_neg hb]
          have h2 : w64 (key + j) < 2147483647 := by omega
          have hd := drawS_perm (key := w64 (key + j)) (by omega) h2 g.length
          have hdl : (drawS (w64 (key + j)) g.length).length = g.length := by rw [hd.length_eq, ids_length]
          simp only [decide_true, Bool.not_true, cond_false, Option.bind_some]
          refine ⟨.inl (out ++ (drawS (w64 (key + j)) g.length).map (fun k => g.getD k.toNat 0), ((j : Nat) : Int) + 1), ?_, ?_⟩
          · refine bind_list (drawS (w64 (key + j)) g.length) (fun (s : List Int) i => (s, (i : Int))) (fun k o => .inl (o ++ [g.getD k.toNat 0])) (fun o => o) (fun i s => s.length = out.length + i) out (by omega) rfl (by simp) ?_ ?_ ?_
            · intro k x s hk hx' hI
              have hm := mem_ids.1 (hd.mem_iff.1 (List.mem_of_getElem? hx'))
              have hI' : s.length ≤ 400 := by omega
              refine ⟨?_, fun s' hs => by cases hs; simp; omega⟩
              simp only [nilT, List.length_append, List.length_cons, List.length_nil]
              simp (disch := omega) only [cd_pos, gd_dec, Int.toNat_natCast, getD_some hx', w64_in, Option.bind_some, Nat.zero_add]
              simp
            · intro s hI
              simp (disch := omega) only [cd_neg]
            · rw [goL_append]
          · rw [laneB, if_neg hb]
            refine ⟨by simp, rfl, ?_⟩
            simp only [List.length_append, List.length_map, hdl]
            omega
      · intro s t ⟨ht, hs, hlen⟩
        subst ht
        simp (disch := omega) only [cd_neg]
        exact ⟨.inr s.1, by simp [gd_true], rfl⟩
      · intro b hb
        cases b with
        | inl v => exact ⟨v.2, rfl, hb.symm⟩
        | inr out =>
          simp only at hb
          by_cases h : (out.length : Int) < n
          · exact ⟨([], 17), by simp [h, nilT], by rw [laneS, hb, if_pos h]⟩
          · refine ⟨(out.take n.toNat, 0), ?_, by rw [laneS, hb, if_neg h]⟩
            simp only [Sum.elim_inr, h, decide_false, cond_false]
            rw [gd_dec (by omega), gd_dec (by omega), Bool.and_true, gd_dec (by omega)]
            simp
  · simp [hp0, firstNZ]
end Go.Proofs.Tryz
end
section
set_option maxRecDepth 100000
set_option linter.unusedVariables false
set_option linter.unusedSimpArgs false
namespace Go.Proofs.Tryz
open Go Go.Sx
theorem patI_ok : ∀ (g s s' : List Int), goL patI .inl g s = .inl s' → s.Nodup → s'.Perm (g ++ s) ∧ s'.Nodup ∧ ∀ x ∈ g, 1 ≤ x ∧ x ≤ 10
  | [], s, s', h, hs => by
    rw [goL_nil] at h
    cases h
    exact ⟨.refl _, hs, by simp⟩
  | x :: g, s, s', h, hs => by
    rw [goL_cons] at h
    by_cases hx : x < 1 ∨ 10 < x ∨ x ∈ s
    · simp [patI, hx] at h
    · simp only [patI, if_neg hx] at h
      have hx' : ¬ x ∈ s := fun e => hx (.inr (.inr e))
      obtain ⟨h1, h2, h3⟩ := patI_ok g (x :: s) s' h (List.nodup_cons.2 ⟨hx', hs⟩)
      refine ⟨h1.trans List.perm_middle, h2, fun y hy => ?_⟩
      rcases List.mem_cons.1 hy with rfl | hy
      · omega
      · exact h3 y hy
theorem patI_err : ∀ (g s : List Int) (b : Int), goL patI .inl g s = .inr b → b = 17
  | [], s, b, h => by rw [goL_nil] at h; cases h
  | x :: g, s, b, h => by
    rw [goL_cons] at h
    by_cases hx : x < 1 ∨ 10 < x ∨ x ∈ s
    · simp [patI, hx] at h; exact h.symm
    · simp only [patI, if_neg hx] at h
      exact patI_err g _ b h
theorem patG_ok {g s s' : List Int} (h : patG g s = .inl s') (hs : s.Nodup) : 0 < g.length ∧ s'.Perm (g ++ s) ∧ s'.Nodup ∧ ∀ x ∈ g, 1 ≤ x ∧ x ≤ 10 := by
  unfold patG at h
  by_cases h0 : g.length = 0
  · simp [h0] at h
  · rw [if_neg h0] at h
    exact ⟨by omega, patI_ok g s s' h hs⟩
theorem patG_err {g s : List Int} {b : Int} (h : patG g s = .inr b) : b ≠ 0 := by
  unfold patG at h
  by_cases h0 : g.length = 0
  · simp [h0] at h; omega
  · rw [if_neg h0] at h
    rw [patI_err g s b h]; decide
theorem patS_go : ∀ (p : List (List Int)) (s : List Int), goL patG (fun _ => (0 : Int)) p s = 0 → s.Nodup → (p.flatten ++ s).Nodup ∧ (∀ x ∈ p.flatten, 1 ≤ x ∧ x ≤ 10) ∧ ∀ g ∈ p, 0 < g.length
  | [], s, h, hs => by simpa using hs
  | g :: p, s, h, hs => by
    rw [goL_cons] at h
    cases hg : patG g s with
    | inr b => rw [hg] at h; exact absurd h (patG_err hg)
    | inl s' =>
      rw [hg] at h
      obtain ⟨h0, h1, h2, h3⟩ := patG_ok hg hs
      obtain ⟨k1, k2, k3⟩ := patS_go p s' h h2
      refine ⟨?_, fun x hx => ?_, fun x hx => ?_⟩
      · have e : (p.flatten ++ s').Perm ((g :: p).flatten ++ s) := by
          rw [List.flatten_cons]
          refine (h1.append_left _).trans ?_
          rw [← List.append_assoc]
          exact List.perm_append_comm.append_right s
        exact e.nodup_iff.1 k1
      · rw [List.flatten_cons] at hx
        rcases List.mem_append.1 hx with hx | hx
        · exact h3 x hx
        · exact k2 x hx
      · rcases List.mem_cons.1 hx with rfl | hx
        · exact h0
        · exact k3 x hx
theorem nodup_len : ∀ (n : Nat) (l : List Int), l.Nodup → (∀ x ∈ l, 1 ≤ x ∧ x ≤ n) → l.length ≤ n
  | 0, l, hn, h => by
    cases l with
    | nil => simp
    | cons x l => have := h x List.mem_cons_self; omega
  | n + 1, l, hn, h => by
    by_cases hx : ((n + 1 : Nat) : Int) ∈ l
    · have := nodup_len n (l.erase ((n + 1 : Nat) : Int)) (hn.erase _) (fun x hm => by
        have h1 := (hn.mem_erase_iff).1 hm
        have h2 := h x h1.2
        omega)
      rw [List.length_erase_of_mem hx] at this
      omega
    · have := nodup_len n l hn (fun x hm => by
        have h2 := h x hm
        have : x ≠ ((n + 1 : Nat) : Int) := fun e => hx (e ▸ hm)
        omega)
      omega
theorem patS_ok {p : List (List Int)} (h : patS p = 0) : 0 < p.length ∧ p.length ≤ 10 ∧ p.flatten.Nodup ∧ p.flatten.length ≤ 10 ∧ ∀ g ∈ p, 0 < g.length := by
  unfold patS at h
  by_cases h0 : p.length = 0
  · simp [h0] at h
  · rw [if_neg h0] at h
    by_cases h1 : 10 < p.length
    · simp [h1] at h
    · rw [if_neg h1] at h
      obtain ⟨k1, k2, k3⟩ := patS_go p [] h List.nodup_nil
      rw [List.append_nil] at k1
      exact ⟨by omega, by omega, k1, nodup_len 10 _ k1 k2, k3⟩
def grp (key : Int) (i : Nat) (g : List Int) : List Int := (drawS (key + i) g.length).map fun k => g.getD k.toNat 0
theorem ids_map (g : List Int) : (ids g.length).map (fun k => g.getD k.toNat 0) = g := by
  apply List.ext_getElem
  · simp [ids]
  · intro i h1 h2
    simp [ids, List.getElem?_eq_getElem h2]
theorem grp_perm {key : Int} (h1 : 1 ≤ key) (h2 : key ≤ 1000000) {i : Nat} (hi : i ≤ 100) (g : List Int) : (grp key i g).Perm g := by
  have := (drawS_perm (key := key + i) (by omega) (by omega) g.length).map fun k => g.getD k.toNat 0
  rw [ids_map] at this
  exact this
def laneF (key : Int) : List (List Int) → Nat → List Int
  | [], _ => []
  | g :: p, i => grp key i g ++ laneF key p (i + 1)
theorem laneB_run {key : Int} (h1 : 1 ≤ key) (h2 : key ≤ 1000000) {β : Type} {fin : List Int × Nat → List Int × Int} : ∀ (p : List (List Int)) (i : Nat) (out : List Int), i + p.length ≤ 100 → (∀ g ∈ p, g.length ≤ 12) → goL (laneB key) fin p (out, i) = fin (out ++ laneF key p i, i + p.length)
  | [], i, out, hi, hg => by simp [goL_nil, laneF]
  | g :: p, i, out, hi, hg => by
    have hi' : i + p.length + 1 ≤ 100 := by rw [List.length_cons] at hi; omega
    have hgl := hg g List.mem_cons_self
    have hw : w64 (key + i) = key + i := w64_in (by omega) (by omega)
    have hb : ¬ (w64 (key + i) < 1 ∨ 2147483646 < w64 (key + i) ∨ 256 < g.length) := by rw [hw]; omega
    have e : laneB key g (out, i) = .inl (out ++ grp key i g, i + 1) := by
      simp only [laneB, if_neg hb]
      rw [hw]; rfl
    rw [goL_cons, e]
    simp only
    rw [laneB_run h1 h2 (β := β) p (i + 1) _ (by omega) (fun x hx => hg x (List.mem_cons_of_mem _ hx))]
    simp only [laneF, List.append_assoc, List.length_cons]
    congr 2
    omega
theorem laneF_perm {key : Int} (h1 : 1 ≤ key) (h2 : key ≤ 1000000) : ∀ (p : List (List Int)) (i : Nat), i + p.length ≤ 100 → (laneF key p i).Perm p.flatten
  | [], i, hi => .refl _
  | g :: p, i, hi => by
    have hi' : i + p.length + 1 ≤ 100 := by rw [List.length_cons] at hi; omega
    rw [laneF, List.flatten_cons]
    exact (grp_perm h1 h2 (by omega) g).append (laneF_perm h1 h2 p (i + 1) (by omega))
def lenS (p : List (List Int)) : Nat := p.flatten.length
theorem lenS_snoc {p : List (List Int)} {i : Nat} {g : List Int} (h : p[i]? = some g) : lenS (p.take (i + 1)) = lenS (p.take i) + g.length := by
  rw [List.take_add_one, h]
  simp [lenS]
theorem lenS_le (p : List (List Int)) (i : Nat) : lenS (p.take i) ≤ lenS p := by
  have : lenS p = lenS (p.take i ++ p.drop i) := by rw [List.take_append_drop]
  rw [this]
  simp only [lenS, List.flatten_append, List.length_append]
  omega
theorem laneF_at {key : Int} (h1 : 1 ≤ key) (h2 : key ≤ 1000000) : ∀ (p : List (List Int)) (i k j : Nat) (g : List Int), i + p.length ≤ 100 → p[k]? = some g → j < g.length → (laneF key p i).getD (lenS (p.take k) + j) 0 ∈ g
  | [], i, k, j, g, hi, hk, hj => by simp at hk
  | g0 :: p, i, k, j, g, hi, hk, hj => by
    have hi' : i + p.length + 1 ≤ 100 := by rw [List.length_cons] at hi; omega
    have hp := grp_perm h1 h2 (show i ≤ 100 by omega) g0
    have hl := hp.length_eq
    rw [laneF]
    cases k with
    | zero =>
      simp at hk
      subst hk
      have hj' : j < (grp key i g0).length := by omega
      have : (grp key i g0 ++ laneF key p (i + 1)).getD (lenS (List.take 0 (g0 :: p)) + j) 0 = (grp key i g0)[j] := by
        simp [lenS, List.getD_eq_getElem?_getD, List.getElem?_append_left hj', List.getElem?_eq_getElem hj']
      rw [this]
      exact hp.mem_iff.1 (List.getElem_mem hj')
    | succ k =>
      have hk' : p[k]? = some g := by simpa using hk
      have := laneF_at h1 h2 p (i + 1) k j g (by omega) hk' hj
      have e : lenS ((g0 :: p).take (k + 1)) + j = (grp key i g0).length + (lenS (p.take k) + j) := by
        simp [lenS]; omega
      rw [e, List.getD_eq_getElem?_getD, List.getElem?_append_right (by omega), Nat.add_sub_cancel_left, ← List.getD_eq_getElem?_getD]
      exact this
end Go.Proofs.Tryz
end
section
set_option maxRecDepth 100000
set_option linter.all false
namespace Go.Proofs.Tryz
open Go Go.Sx
end Go.Proofs.Tryz
end

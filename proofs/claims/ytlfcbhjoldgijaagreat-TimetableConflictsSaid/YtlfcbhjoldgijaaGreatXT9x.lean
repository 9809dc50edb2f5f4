/- Plain law: the reference's sequences of rounds. Plain law: the reference's search. And further parts. -/
import Derived.Test.YtlfcbhjoldgijaaGreatXT9t
import Derived.Test.YtlfcbhjoldgijaaGreatXTtR2
set_option maxRecDepth 100000
set_option linter.unusedVariables false
set_option linter.unusedSimpArgs false
namespace Go.Proofs.Tryz
open Go Go.Sx
def insS (n : Nat) (l : List Int) (k : Nat) : List Int := l.take k ++ (n : Int) :: l.drop k
def permS : Nat → List (List Int)
  | 0 => [[]]
  | n + 1 => (permS n).flatMap fun l => (List.range (n + 1)).map (insS n l)
theorem permS_len : ∀ {n : Nat} {l : List Int}, l ∈ permS n → l.length = n
  | 0, l, h => by
    rw [permS, List.mem_singleton] at h
    subst h; rfl
  | n + 1, l, h => by
    rw [permS, List.mem_flatMap] at h
    obtain ⟨m, hm, h⟩ := h
    obtain ⟨k, hk, rfl⟩ := List.mem_map.1 h
    have := permS_len hm
    rw [List.mem_range] at hk
    simp only [insS, List.length_append, List.length_take, List.length_cons, List.length_drop]
    omega
theorem permS_cnt : ∀ n : Nat, n ≤ 6 → (permS n).length ≤ 720 := by
  intro n hn
  match n, hn with
  | 0, _ => decide
  | 1, _ => decide
  | 2, _ => decide
  | 3, _ => decide
  | 4, _ => decide
  | 5, _ => exact Nat.le_of_ble_eq_true (by kernel_rfl)
  | 6, _ => exact Nat.le_of_ble_eq_true (by kernel_rfl)
theorem ins_perm {n : Nat} {l m : List Int} {k : Nat} (hk : k ≤ l.length) (h : l.Perm m) : (insS n l k).Perm ((n : Int) :: m) := by
  unfold insS
  refine (List.perm_middle).trans (List.Perm.cons _ ?_)
  rw [List.take_append_drop]
  exact h
def rngI (n : Nat) : List Int := (List.range n).map fun (i : Nat) => (i : Int)
theorem rngI_succ (n : Nat) : rngI (n + 1) = rngI n ++ [(n : Int)] := by
  unfold rngI
  rw [List.range_succ, List.map_append]
  rfl
theorem permS_perm : ∀ {n : Nat} {l : List Int}, l ∈ permS n → l.Perm (rngI n)
  | 0, l, h => by
    rw [permS, List.mem_singleton] at h
    subst h
    exact .refl _
  | n + 1, l, h => by
    have h' := h
    rw [permS, List.mem_flatMap] at h
    obtain ⟨m, hm, h⟩ := h
    obtain ⟨k, hk, rfl⟩ := List.mem_map.1 h
    have h1 := permS_len hm
    rw [List.mem_range] at hk
    refine (ins_perm (by omega) (permS_perm hm)).trans ?_
    rw [rngI_succ]
    exact (List.perm_append_singleton _ _).symm
theorem perm_all : ∀ {n : Nat} {l : List Int}, l.Perm (rngI n) → l ∈ permS n
  | 0, l, h => by
    rw [permS, List.mem_singleton]
    exact List.Perm.eq_nil h
  | n + 1, l, h => by
    rw [rngI_succ] at h
    have hm : (n : Int) ∈ l := h.mem_iff.2 (by simp)
    obtain ⟨a, b, rfl⟩ := List.append_of_mem hm
    have h1 : (a ++ b).Perm (rngI n) := by
      have h2 := (List.perm_middle.symm.trans h).trans (List.perm_append_singleton _ _)
      exact (List.perm_cons _).1 h2
    have h2 := perm_all h1
    have h3 := permS_len h2
    rw [permS, List.mem_flatMap]
    refine ⟨a ++ b, h2, List.mem_map.2 ⟨a.length, ?_, ?_⟩⟩
    · rw [List.mem_range]
      rw [List.length_append] at h3
      omega
    · unfold insS
      simp
theorem goL_flat {α γ β : Type} (f : α → List γ) (fin : List γ → β) : ∀ (l : List α) (out : List γ), goL (fun x out => .inl (out ++ f x)) fin l out = fin (out ++ l.flatMap f)
  | [], out => by simp [goL_nil]
  | x :: l, out => by rw [goL_cons]; simp [goL_flat f fin l]
theorem gd4 {X : Type} (e : X → X → Bool) (he : EqRf e) (x : X) : ((Option.bind (some x) fun v => Option.bind (some x) fun v' => gd (e v v') (some v)).bind fun v => Option.bind (some x) fun v' => gd (e v v') (some v)) = some x := by
  have h : gd (e x x) (some x) = some x := by rw [he x]; rfl
  simp only [Option.bind_some, h]
theorem r114_ok {F : Nat} (hF : 4000 ≤ F) : ∀ (k n : Nat), n < k → n ≤ 6 → r114 F k (n : Int) = some (permS n)
  | 0, n, h, _ => by omega
  | k + 1, 0, _, _ => by
    show b114 (r114 F k) F ((0 : Nat) : Int) = _
    unfold b114
    rfl
  | k + 1, n + 1, h, hn => by
    show b114 (r114 F k) F ((n + 1 : Nat) : Int) = _
    unfold b114
    have e1 : w64 (((n + 1 : Nat) : Int) - 1) = (n : Int) := by rw [w64_in (by omega) (by omega)]; omega
    have hc := permS_cnt n (by omega)
    simp (disch := omega) only [cd_neg, e1, r114_ok hF k n (by omega) (by omega), Option.bind_some]
    refine bind_list (permS n) (fun (s : List (List Int)) i => (s, (i : Int))) (fun l s => .inl (s ++ (List.range (n + 1)).map (insS n l))) (fun s => s) (fun i s => s.length = (n + 1) * i) [] (by omega) rfl (by simp) ?_ ?_ ?_
    · intro i x s hi hx hs
      have hxl : x.length = n := permS_len (List.mem_of_getElem? hx)
      have hsl : s.length ≤ 7 * 720 := by
        rw [hs]
        exact Nat.mul_le_mul (by omega) (by omega)
      refine ⟨?_, fun s' h' => ?_⟩
      · simp (disch := omega) only [cd_pos, gd_dec, Option.bind_some, decide_true, Bool.and_self, gd_true]
        refine bind_list (List.range (n + 1)) (fun (s : List (List Int)) i => (s, (i : Int))) (fun at' s => .inl (s ++ [insS n x at'])) (fun s => s) (fun j t => t.length = s.length + j) s (by simp; omega) rfl rfl ?_ ?_ ?_
        · intro j y t hj hy ht
          have hyj : y = j := range_get hy
          subst hyj
          rw [List.length_range] at hj
          refine ⟨?_, fun s' h' => ?_⟩
          · have g1 : (nilT Int ++ List.take y x).length = y := by simp [nilT]; omega
            have g2 : (nilT Int ++ List.take y x ++ (n : Int) :: nilT Int).length = y + 1 := by simp [nilT]; omega
            have X : nilT Int ++ List.take y x ++ (n : Int) :: nilT Int ++ List.drop y x = insS n x y := by simp [insS, nilT]
            have hX : (insS n x y).length = n + 1 := by simp [insS]; omega
            have hT : (t ++ [insS n x y]).length = t.length + 1 := by simp
            have h2 : List.take (n + 1) (insS n x y) = insS n x y := List.take_of_length_le (by omega)
            have h1 : List.take 1 (insS n x y :: nilT (List Int)) = [insS n x y] := rfl
            simp (disch := omega) only [cd_pos, gd_dec, Int.toNat_natCast, getD_some hx, List.drop_zero, List.take_length, g1, g2, X, hX, h2, h1, hT, w64_in, Nat.zero_add, Nat.le_refl, decide_true, Bool.and_self, gd_true]
            exact gd4 (X := CEls _ ⊕ AltsEl _) (sumEq (CEls.eqv _) (AltsEl.eqv _)) (sumEq_rf (CEls.eqv_rf _) (AltsEl.eqv_rf _)) _
          · simp only [Sum.inl.injEq] at h'
            subst h'
            simp
            omega
        · intro t ht
          simp only [List.length_range] at ht ⊢
          simp (disch := omega) only [cd_neg, gd_dec, decide_true, Bool.and_self, gd_true, Option.bind_some]
        · rw [goL_append]
          have hlen : (s ++ (List.range (n + 1)).map (insS n x)).length ≤ 7 * 720 + 7 := by simp; omega
          simp (disch := omega) only [w64_in, gd_dec, decide_true, Bool.and_self, gd_true, Option.bind_some]
          rfl
      · simp only [Sum.inl.injEq] at h'
        subst h'
        simp only [List.length_append, List.length_map, List.length_range, hs, Nat.mul_add, Nat.mul_one]
    · intro t ht
      simp (disch := omega) only [cd_neg, gd_dec, decide_true, Bool.and_self, gd_true, Option.bind_some]
    · rw [goL_flat]
      simp only [List.nil_append, List.drop_zero, List.take_length]
      have e : (permS n).flatMap (fun l => (List.range (n + 1)).map (insS n l)) = permS (n + 1) := rfl
      rw [e]
      simp only [Nat.zero_add, Nat.le_refl, decide_true, Bool.and_self, gd_true]
theorem bind_cnt {S β γ : Type} {step : S × Int → Option ((S × Int) ⊕ β)} {F : Nat} {s0 : S} {k : β → Option γ} {P : γ → Prop} (a N : Nat) (Inv : Nat → S → Prop) (Post : β → Prop) (ha : a ≤ N) (hF : N - a < F) (h0 : Inv a s0)
    (hstep : ∀ i s, a ≤ i → i < N → Inv i s → ∃ s', step (s, (i : Int)) = some (.inl (s', (i : Int) + 1)) ∧ Inv (i + 1) s')
    (hend : ∀ s, Inv N s → ∃ b, step (s, (N : Int)) = some (.inr b) ∧ Post b) (hk : ∀ b, Post b → ∃ r, k b = some r ∧ P r) : ∃ r, Option.bind (loopO step F (s0, (a : Int))) k = some r ∧ P r := by
  refine bind_inv (fun x : S × Int => ∃ i : Nat, x.2 = i ∧ a ≤ i ∧ i ≤ N ∧ Inv i x.1) (fun x => N - x.2.toNat) Post ?_ ⟨a, rfl, Nat.le_refl _, ha, h0⟩ (by simpa using hF) hk
  rintro ⟨s, v⟩ ⟨i, hv, h1, h2, h3⟩
  simp only at hv h3
  subst hv
  by_cases hi : i < N
  · obtain ⟨s', e1, e2⟩ := hstep i s h1 hi h3
    refine .inl ⟨_, e1, ⟨i + 1, rfl, by omega, hi, e2⟩, ?_⟩
    simp only
    omega
  · obtain rfl : i = N := by omega
    exact .inr (hend s h3)
theorem x73 {F : Nat} (hF : 4000 ≤ F) {low : List Int} {E : List Edg} (hn : low.length ≤ 30) (hE : ∀ e ∈ E, EW low.length e) (hEl : E.length ≤ 3000) (hb : InB 4398046511104 low) : cx73_0 F (low, E) = some (lowS low E) := by
  unfold cx73_0
  have e0 : nilT Int ++ low = low := rfl
  simp (disch := omega) only [List.drop_zero, List.take_length, e0, gd_dec, Nat.zero_add, Nat.le_refl, decide_true, Bool.and_self, gd_true]
  refine bind_bf' (E := E) (n := low.length) (fun t => (Sum.inl (t, true) : List Int × Bool ⊕ List Int)) (fun t => Sum.inr t) (PIn low.length 4398046511104) (by omega) ⟨rfl, _, hb, by omega⟩ ?_ ?_ ?_ ?_
  · intro t j hI hj
    have htb := hI.bnd (by omega) (by omega)
    have ht := hI.len
    refine ⟨?_, hI.next hE hEl⟩
    have hpl := pass_len E t
    simp (disch := omega) only [cd_pos]
    rw [pass_sim (n := low.length) ht hE htb hEl (by omega) ?_ ?_]
    · have hw : w64 ((j : Int) + 1) = (j : Int) + 1 := w64_in (by omega) (by omega)
      simp only [Option.bind_some]
      cases hc : (passS E t).2 with
      | false => simp [hpl, ht, gd_true]
      | true => simp [hw]
    · intro i e s1 s2 hi he hs1 hs2
      obtain ⟨⟨⟨e1, e2⟩, e3, e4⟩, e5, e6⟩ := hE e (List.mem_of_getElem? he)
      have g1 := hs2.at (i := e.1.toNat) (by omega)
      simp (disch := omega) only [cd_pos, gd_dec, Int.toNat_natCast, getD_some he, Nat.zero_add, w64_in]
      unfold relax
      simp only [tq]
      by_cases hc : s1.getD e.2.1.toNat 0 < s1.getD e.1.toNat 0 + e.2.2
      · simp only [hc, decide_true, cond_true, if_true, Option.bind_some]
      · simp only [hc, decide_false, cond_false, if_false, Option.bind_some]
    · intro s1 s2
      simp (disch := omega) only [cd_neg]
  · intro t
    simp (disch := omega) only [cd_neg]
  · intro t' h3
    unfold lowS
    simp only [h3, Sum.elim_inl, take_all, List.drop_zero, List.take_length, Nat.zero_add, Nat.le_refl, decide_true, Bool.and_self, gd_true]
  · intro h3 u
    unfold lowS
    simp only [h3, Sum.elim_inr]
def chS (p : Pln) (B : List Bool) : List Rul := ((rulesS p).zip B).filterMap fun x => if x.2 = true then some x.1 else none
theorem mem_chS {p : Pln} {B : List Bool} {r : Rul} : r ∈ chS p B ↔ ∃ k : Nat, (rulesS p)[k]? = some r ∧ B[k]? = some true := by
  unfold chS
  rw [List.mem_filterMap]
  constructor
  · rintro ⟨⟨r', b⟩, hm, h⟩
    obtain ⟨k, hk⟩ := List.mem_iff_getElem?.1 hm
    obtain ⟨h1, h2⟩ := zip_get hk
    cases b with
    | true =>
      simp only [if_true, Option.some.injEq] at h
      subst h
      exact ⟨k, h1, h2⟩
    | false => simp at h
  · rintro ⟨k, h1, h2⟩
    refine ⟨(r, true), List.mem_iff_getElem?.2 ⟨k, ?_⟩, rfl⟩
    rw [List.getElem?_zip_eq_some]
    exact ⟨h1, h2⟩
def PlaceOk (n : Nat) (seq P : List Int) : Prop := P.length = n ∧ ∀ (j : Nat) x, seq[j]? = some x → fL P x.toNat = j
def eP (p : Pln) (P : List Int) (r : Rul) : Edg := if tq P r.2.2.1 < tq P r.2.1 then e2 p r else e1 p r
def SortS (f seq : List Int) : Prop := seq.Pairwise fun a b => tq f a ≤ tq f b
theorem seq_facts {n : Nat} {seq : List Int} (hs : seq ∈ permS n) : seq.length = n ∧ seq.Nodup ∧ (∀ x ∈ seq, 0 ≤ x ∧ x < n) ∧ ∀ a : Int, 0 ≤ a → a < n → a ∈ seq := by
  have hp := permS_perm hs
  have hm : ∀ x : Int, x ∈ rngI n ↔ 0 ≤ x ∧ x < n := fun x => by
    unfold rngI
    rw [List.mem_map]
    constructor
    · rintro ⟨i, hi, rfl⟩
      rw [List.mem_range] at hi
      omega
    · rintro ⟨h1, h2⟩
      exact ⟨x.toNat, by rw [List.mem_range]; omega, by omega⟩
  refine ⟨permS_len hs, hp.nodup_iff.2 ?_, fun x hx => (hm x).1 (hp.mem_iff.1 hx), fun a h1 h2 => hp.mem_iff.2 ((hm a).2 ⟨h1, h2⟩)⟩
  unfold rngI
  exact List.Pairwise.map _ (fun a b (h : a ≠ b) (e : (a : Int) = (b : Int)) => h (by omega)) List.nodup_range
theorem place_lt {n : Nat} {seq P f : List Int} (hs : seq ∈ permS n) (hP : PlaceOk n seq P) (hf : SortS f seq) {a b : Int} (ha : 0 ≤ a ∧ a < n) (hb : 0 ≤ b ∧ b < n) (h : tq P a < tq P b) : tq f a ≤ tq f b := by
  obtain ⟨-, -, -, h4⟩ := seq_facts hs
  obtain ⟨i, hi⟩ := List.mem_iff_getElem?.1 (h4 a ha.1 ha.2)
  obtain ⟨j, hj⟩ := List.mem_iff_getElem?.1 (h4 b hb.1 hb.2)
  have e1 := hP.2 i a hi
  have e2 := hP.2 j b hj
  simp only [tq, fL] at h e1 e2
  have hij : i < j := by omega
  obtain ⟨hi1, hi2⟩ := List.getElem?_eq_some_iff.1 hi
  obtain ⟨hj1, hj2⟩ := List.getElem?_eq_some_iff.1 hj
  have := List.pairwise_iff_getElem.1 hf i j hi1 hj1 hij
  rw [hi2, hj2] at this
  exact this
theorem place_ne {n : Nat} {seq P : List Int} (hs : seq ∈ permS n) (hP : PlaceOk n seq P) {a b : Int} (ha : 0 ≤ a ∧ a < n) (hb : 0 ≤ b ∧ b < n) (h : a ≠ b) : tq P a ≠ tq P b := by
  obtain ⟨-, -, -, h4⟩ := seq_facts hs
  obtain ⟨i, hi⟩ := List.mem_iff_getElem?.1 (h4 a ha.1 ha.2)
  obtain ⟨j, hj⟩ := List.mem_iff_getElem?.1 (h4 b hb.1 hb.2)
  have e1 := hP.2 i a hi
  have e2 := hP.2 j b hj
  simp only [tq, fL] at e1 e2 ⊢
  intro he
  have hij : i = j := by omega
  subst hij
  rw [hi] at hj
  exact h (Option.some.inj hj)
theorem hold_eP {p : Pln} (hp : PV p) {seq P f : List Int} (hs : seq ∈ permS p.1.length) (hP : PlaceOk p.1.length seq P) (hf : SortS f seq) {r : Rul} (hr : RulP p r) (hh : holdS p f r = true) : SolF [eP p P r] (fL f) := by
  have ha := hr.1.a
  have hb := hr.1.b
  have ma := (hp.at ha.1 ha.2).1
  have mb := (hp.at hb.1 hb.2).1
  have hg := hr.1.gap
  have h2 := hr.2
  unfold eP
  by_cases hlt : tq P r.2.2.1 < tq P r.2.1
  · rw [if_pos hlt]
    have hle := place_lt hs hP hf hb ha hlt
    rcases (hold_or hr).1 hh with h | h
    · exfalso
      rw [SolF.one] at h
      simp only [e1, fL] at h
      simp only [tq] at hle
      omega
    · exact h
  · rw [if_neg hlt]
    have hne : r.2.1 ≠ r.2.2.1 := hr.1.ne fun e => by
      unfold isP at h2
      rw [e, sWW] at h2
      simp at h2
    have hle := place_lt hs hP hf ha hb (by have := place_ne hs hP ha hb hne; omega)
    rcases (hold_or hr).1 hh with h | h
    · exact h
    · exfalso
      rw [SolF.one] at h
      simp only [e2, fL] at h
      simp only [tq] at hle
      omega
theorem eP_hold {p : Pln} {P f : List Int} {r : Rul} (hr : RulP p r) (h : SolF [eP p P r] (fL f)) : holdS p f r = true := by
  unfold eP at h
  split at h
  · exact (hold_or hr).2 (.inr h)
  · exact (hold_or hr).2 (.inl h)
theorem eP_ew {p : Pln} (hp : PV p) {P : List Int} {r : Rul} (hr : RulP p r) : EW p.1.length (eP p P r) := by
  unfold eP
  split
  · exact (hr.ew hp).2
  · exact (hr.ew hp).1
theorem fL_set {t : List Int} {k i : Nat} {v : Int} (hk : k < t.length) : fL (t.set k v) i = if i = k then v else fL t i := set_get hk
structure EarS (p : Pln) (B : List Bool) (seq : List Int) (x : List Int × Bool) : Prop where
  yes : x.2 = true → Hol p (chS p B) x.1 ∧ ∀ f, Hol p (chS p B) f → SortS f seq → LeF p.1.length (fL x.1) (fL f)
  no : x.2 ≠ true → ∀ f, Hol p (chS p B) f → ¬ SortS f seq
theorem apart_rulP {p : Pln} (hp : PV p) {i : Nat} {r : Rul} (hr : (rulesS p)[i]? = some r) (hi : p.1.length + p.2.1.length ≤ i) : RulP p r := by
  refine ⟨hp.rul hr, ?_⟩
  rcases rul_cases hr with ⟨h1, rfl⟩ | ⟨h1, h2, o, ho, rfl⟩ | ⟨h1, a, b, x, y, hab, hx, hy, hm⟩
  · omega
  · omega
  · rcases pairR_mem hm with rfl | rfl | rfl
    · simp [isP, sAW, sAO]
    · simp [isP, sFW, sFO]
    · simp [isP, sTW, sTO]
structure EdgsOk (p : Pln) (B : List Bool) (P : List Int) (E : List Edg) : Prop where
  ord : ∀ (k : Nat) (o : Ord3), p.2.1[k]? = some o → B[p.1.length + k]? = some true → (o.1, o.2.1, (rq p o.1).2.1 + o.2.2) ∈ E
  apart : ∀ (k : Nat) r, p.1.length + p.2.1.length ≤ k → (rulesS p)[k]? = some r → B[k]? = some true → eP p P r ∈ E
  all : ∀ e ∈ E, (∃ (k : Nat) (o : Ord3), p.2.1[k]? = some o ∧ B[p.1.length + k]? = some true ∧ e = (o.1, o.2.1, (rq p o.1).2.1 + o.2.2)) ∨ ∃ (k : Nat) (r : Rul), p.1.length + p.2.1.length ≤ k ∧ (rulesS p)[k]? = some r ∧ B[k]? = some true ∧ e = eP p P r
theorem ord_rul {p : Pln} {k : Nat} {o : Ord3} (h : p.2.1[k]? = some o) : (rulesS p)[p.1.length + k]? = some (kO, o.1, o.2.1, o.2.2) := by
  have hk := (List.getElem?_eq_some_iff.1 h).1
  unfold rulesS
  have l1 := winR_len p
  have l2 := ordR_len p
  rw [List.append_assoc, List.getElem?_append_right (by omega), l1, List.getElem?_append_left (by omega)]
  have e := ifl_one (fun _ (o : Ord3) => (kO, o.1, o.2.1, o.2.2)) p.2.1 0 k
  rw [show p.1.length + k - p.1.length = k by omega]
  rw [show (ifl ordR 0 p.2.1)[k]? = _ from e, h]
  rfl
theorem win_rul {p : Pln} {k : Nat} (h : k < p.1.length) : (rulesS p)[k]? = some (kW, (k : Int), (k : Int), 0) := by
  unfold rulesS
  have l1 := winR_len p
  rw [List.append_assoc, List.getElem?_append_left (by omega)]
  have e := ifl_one (fun i (_ : Rnd) => (kW, (i : Int), (i : Int), (0 : Int))) p.1 0 k
  rw [show (ifl winR 0 p.1)[k]? = _ from e, List.getElem?_eq_getElem h]
  simp
theorem EdgsOk.ew {p : Pln} (hp : PV p) {B : List Bool} {P : List Int} {E : List Edg} (h : EdgsOk p B P E) : ∀ e ∈ E, EW p.1.length e := fun e he => by
  rcases h.all e he with ⟨k, o, ho, _, rfl⟩ | ⟨k, r, hk, hr, _, rfl⟩
  · exact edgL_ew hp _ (List.mem_map.2 ⟨o, List.mem_of_getElem? ho, rfl⟩)
  · exact eP_ew hp (apart_rulP hp hr hk)
theorem holW {p : Pln} {t : List Int} {k : Nat} : holdS p t (kW, (k : Int), (k : Int), 0) = true ↔ (rq p k).2.2.2.2.2.1 ≤ fL t k ∧ fL t k + (rq p k).2.1 ≤ (rq p k).2.2.2.2.2.2 := by
  unfold holdS
  simp only [sWW, if_true, winS, decide_eq_true_eq, tq, fL, Int.toNat_natCast]
theorem holO {p : Pln} {t : List Int} {o : Ord3} : holdS p t (kO, o.1, o.2.1, o.2.2) = true ↔ fL t o.1.toNat + ((rq p o.1).2.1 + o.2.2) ≤ fL t o.2.1.toNat := by
  unfold holdS
  simp only [sOW, sOO, if_true, Bool.false_eq_true, if_false, befS, decide_eq_true_eq, tq, fL]
  constructor <;> intro h <;> omega
theorem ear_fin {p : Pln} (hp : PV p) {B : List Bool} {seq P low : List Int} {E : List Edg} (hs : seq ∈ permS p.1.length) (hP : PlaceOk p.1.length seq P) (hE : EdgsOk p B P E) (hEl : E.length ≤ 3000) (hl : low.length = p.1.length)
    (hlow : ∀ i, i < p.1.length → fL low i = if B[i]? = some true then (rq p i).2.2.2.2.2.1 else 0) {t : List Int} {is : Bool} (ht : lowS low E = (t, true) → (is = true ↔ ∀ i, i < p.1.length → B[i]? = some true → fL t i + (rq p i).2.1 ≤ (rq p i).2.2.2.2.2.2))
    (h1 : (lowS low E).1 = t) (h2 : (lowS low E).2 = false → is = false) : EarS p B seq (t, is) := by
  have hn := hp.n1
  have hEw := hE.ew hp
  have hEk : ∀ e ∈ E, EOk low.length e := fun e he => by rw [hl]; exact (hEw e he).1
  have hlb : InB 20000 low := fun x hx => by
    obtain ⟨i, hi, rfl⟩ := List.mem_iff_getElem.1 hx
    have := hlow i (by omega)
    simp only [fL] at this
    rw [getD_some (List.getElem?_eq_getElem hi)] at this
    rw [this]
    have := hp.at (a := (i : Int)) (by omega) (by omega)
    split <;> omega
  have fol : ∀ f, Hol p (chS p B) f → SortS f seq → SolF E (fL f) ∧ LeF p.1.length (fL low) (fL f) := fun f hf hsf => by
    refine ⟨fun e he => ?_, fun i hi => ?_⟩
    · rcases hE.all e he with ⟨k, o, ho, hb, rfl⟩ | ⟨k, r, hk, hr, hb, rfl⟩
      · exact holO.1 (hf.rul _ (mem_chS.2 ⟨_, ord_rul ho, hb⟩))
      · exact SolF.one.1 (hold_eP hp hs hP hsf (apart_rulP hp hr hk) (hf.rul _ (mem_chS.2 ⟨k, hr, hb⟩)))
    · rw [hlow i hi]
      split
      · rename_i hb
        exact (holW.1 (hf.rul _ (mem_chS.2 ⟨i, win_rul hi, hb⟩))).1
      · exact (hf.rng i hi).1
  cases hb : bfS E low.length low with
  | none =>
    have hlS : lowS low E = (nilT Int, false) := by unfold lowS; rw [hb]
    rw [hlS] at h1 h2
    refine ⟨fun h => ?_, fun _ f hf hsf => ?_⟩
    · simp only at h
      rw [h2 rfl] at h; cases h
    · obtain ⟨a, b⟩ := fol f hf hsf
      obtain ⟨t', ht'⟩ := bfS_some hEk a (by rw [hl]; exact b)
      rw [hb] at ht'; cases ht'
  | some t' =>
    have hlS : lowS low E = (t', true) := by unfold lowS; rw [hb]
    rw [hlS] at h1
    simp only at h1
    subst h1
    have ht := ht hlS
    obtain ⟨s1, s2, s3, s4⟩ := bfS_spec hEk hb
    have hbi := bfS_in hEw hEl hl hlb hb
    refine ⟨fun h => ⟨⟨s1.trans hl, fun i hi => ?_, fun r hr => ?_⟩, fun f hf hsf => ?_⟩, fun h f hf hsf => ?_⟩
    · have := hbi.at (i := i) (by omega)
      simp only [fL]
      omega
    · obtain ⟨k, hr, hbk⟩ := mem_chS.1 hr
      rcases rul_cases hr with ⟨h1, rfl⟩ | ⟨h1, h2, o, ho, rfl⟩ | ⟨h1, -⟩
      · rw [holW]
        have a := s3 k
        rw [hlow k h1, if_pos hbk] at a
        exact ⟨a, ht.1 h k h1 hbk⟩
      · rw [holO]
        exact s2 _ (hE.ord _ o ho (by rw [show p.1.length + (k - p.1.length) = k by omega]; exact hbk))
      · exact eP_hold (apart_rulP hp hr h1) (SolF.one.2 (s2 _ (hE.apart k r h1 hr hbk)))
    · obtain ⟨a, b⟩ := fol f hf hsf
      have := s4 _ a (by rw [hl]; exact b)
      rwa [hl] at this
    · obtain ⟨a, b⟩ := fol f hf hsf
      have hle := s4 _ a (by rw [hl]; exact b)
      rw [hl] at hle
      refine h (ht.2 fun i hi hbi => ?_)
      have h3 := (holW.1 (hf.rul _ (mem_chS.2 ⟨i, win_rul hi, hbi⟩))).2
      have := hle i hi
      omega
theorem l115 {F : Nat} (hF : 4000 ≤ F) {p : Pln} (hp : PV p) {B : List Bool} (hB : B.length = (rulesS p).length) {seq : List Int} (hs : seq ∈ permS p.1.length) : ∃ x, c115 F (p, condS p, B, seq) = some x ∧ EarS p B seq x := by
  have hn := hp.n1
  have hm := hp.n2
  obtain ⟨hsl, hnd, hsr, hsa⟩ := seq_facts hs
  have hrl := rulesS_len (p := p) (by omega) (by omega)
  have hcl := condS_len p
  have hge : p.1.length + p.2.1.length ≤ (rulesS p).length := by
    unfold rulesS
    rw [List.length_append, List.length_append, winR_len, ordR_len]
    omega
  unfold c115
  simp (disch := omega) only [peta, hsl, gd_dec, Int.toNat_natCast]
  refine bind_cnt 0 p.1.length (fun i P => P.length = p.1.length ∧ ∀ (j : Nat) x, j < i → seq[j]? = some x → fL P x.toNat = j) (PlaceOk p.1.length seq) (Nat.zero_le _) (by omega) ⟨by simp, fun j x hj => by omega⟩ ?_ ?_ ?_
  · intro i P _ hi ⟨hPl, hP⟩
    have hx := List.getElem?_eq_getElem (show i < seq.length by omega)
    obtain ⟨x0, x1⟩ := hsr _ (List.mem_of_getElem? hx)
    have hnd' := List.pairwise_iff_getElem.1 hnd
    generalize hxe : seq[i]'(by omega) = x at hx x0 x1
    refine ⟨P.set x.toNat i, ?_, by simp [hPl], fun j y hj hy => ?_⟩
    · simp (disch := omega) only [cd_pos, gd_dec, Int.toNat_natCast, getD_some hx, Nat.zero_add, w64_in, hsl]
    · obtain ⟨hj1, hj2⟩ := List.getElem?_eq_some_iff.1 hy
      obtain ⟨y0, y1⟩ := hsr y (List.mem_of_getElem? hy)
      rw [fL_set (by omega)]
      by_cases hji : j = i
      · subst hji
        rw [hx] at hy
        rw [if_pos (by rw [Option.some.inj hy])]
      · have hne : y ≠ x := fun e => by
          have := hnd' j i hj1 (by omega) (by omega)
          rw [hj2, hxe] at this
          exact this e
        rw [if_neg (by omega)]
        exact hP j y (by omega) hy
  · intro P ⟨hPl, hP⟩
    refine ⟨P, ?_, hPl, fun j x hj => hP j x (by have := (List.getElem?_eq_some_iff.1 hj).1; omega) hj⟩
    simp (disch := omega) only [cd_neg]
  · intro P hP
    refine bind_cnt 0 p.2.1.length (fun i E => E.length ≤ i ∧ ∀ e, e ∈ E ↔ ∃ (k : Nat) (o : Ord3), k < i ∧ p.2.1[k]? = some o ∧ B[p.1.length + k]? = some true ∧ e = (o.1, o.2.1, (rq p o.1).2.1 + o.2.2)) (fun E => E.length ≤ p.2.1.length ∧ ∀ e, e ∈ E ↔ ∃ (k : Nat) (o : Ord3), k < p.2.1.length ∧ p.2.1[k]? = some o ∧ B[p.1.length + k]? = some true ∧ e = (o.1, o.2.1, (rq p o.1).2.1 + o.2.2)) (Nat.zero_le _) (by omega) ⟨Nat.le_refl _, fun e => ⟨fun h => (nomatch h), fun ⟨k, o, hk, _⟩ => by omega⟩⟩ ?_ ?_ ?_
    · intro i E _ hi ⟨hEl, hE⟩
      have ho := List.getElem?_eq_getElem hi
      have hov := hp.ord _ (List.mem_of_getElem? ho)
      generalize p.2.1[i] = o at ho hov
      have hm1 := (hp.at hov.1.1 hov.1.2).1
      have hb := List.getElem?_eq_getElem (show p.1.length + i < B.length by omega)
      have hbl : ¬ B.length = 0 := by omega
      have w1 : w64 ((p.1.length : Int) + (i : Int)) = ((p.1.length + i : Nat) : Int) := by rw [w64_in (by omega) (by omega)]; omega
      have w2 : w64 ((p.1.getD o.1.toNat (ByteArray.empty, (0 : Int), nilT ByteArray, nilT ByteArray, nilT ByteArray, (0 : Int), (0 : Int))).2.1 + o.2.2) = (rq p o.1).2.1 + o.2.2 := by
        show w64 ((rq p o.1).2.1 + o.2.2) = _
        exact w64_in (by omega) (by omega)
      generalize hbe : B[p.1.length + i]'(by omega) = b at hb
      cases b with
      | true =>
        refine ⟨E ++ [(o.1, o.2.1, (rq p o.1).2.1 + o.2.2)], ?_, by simp; omega, fun e => ?_⟩
        · have hl2 : (E ++ (o.1, o.2.1, (rq p o.1).2.1 + o.2.2) :: nilT (Int × Int × Int)).length = E.length + 1 := by simp [nilT]
          simp (disch := omega) only [cd_pos, cd_neg, gd_dec, Int.toNat_natCast, w1, w2, getD_some hb, getD_some ho, cond_true, Option.bind_some, hl2, decide_true, Bool.and_self, gd_true, w64_in]
          rfl
        · rw [List.mem_append, hE, List.mem_singleton]
          constructor
          · rintro (⟨k, o', hk, h1, h2, h3⟩ | rfl)
            · exact ⟨k, o', by omega, h1, h2, h3⟩
            · exact ⟨i, o, by omega, ho, hb, rfl⟩
          · rintro ⟨k, o', hk, h1, h2, h3⟩
            by_cases hki : k = i
            · subst hki
              rw [ho] at h1
              cases h1
              exact .inr h3
            · exact .inl ⟨k, o', by omega, h1, h2, h3⟩
      | false =>
        refine ⟨E, ?_, by omega, fun e => ?_⟩
        · simp (disch := omega) only [cd_pos, cd_neg, gd_dec, Int.toNat_natCast, w1, w2, getD_some hb, getD_some ho, cond_false, Option.bind_some, decide_true, Bool.and_self, gd_true, w64_in]
        · rw [hE]
          constructor
          · rintro ⟨k, o', hk, h1, h2, h3⟩
            exact ⟨k, o', by omega, h1, h2, h3⟩
          · rintro ⟨k, o', hk, h1, h2, h3⟩
            by_cases hki : k = i
            · subst hki
              rw [hb] at h2
              cases h2
            · exact ⟨k, o', by omega, h1, h2, h3⟩
    · intro E ⟨hEl, hE⟩
      refine ⟨E, ?_, hEl, hE⟩
      simp (disch := omega) only [cd_neg, gd_dec, Option.bind_some, decide_true, Bool.and_self, gd_true]
    · intro E0 ⟨hEl0, hE0⟩
      have w0 : w64 ((p.1.length : Int) + (p.2.1.length : Int)) = ((p.1.length + p.2.1.length : Nat) : Int) := by rw [w64_in (by omega) (by omega)]; omega
      simp (disch := omega) only [w0, gd_dec, decide_true, Bool.and_self, gd_true, Option.bind_some, Int.toNat_natCast]
      refine bind_cnt (p.1.length + p.2.1.length) (rulesS p).length (fun i E => E.length ≤ i ∧ ∀ e, e ∈ E ↔ e ∈ E0 ∨ ∃ (k : Nat) (r : Rul), p.1.length + p.2.1.length ≤ k ∧ k < i ∧ (rulesS p)[k]? = some r ∧ B[k]? = some true ∧ e = eP p P r) (fun E => E.length ≤ 3000 ∧ EdgsOk p B P E) hge (by omega) ⟨by omega, fun e => ⟨.inl, fun h => h.elim id fun ⟨k, r, h1, h2, _⟩ => by omega⟩⟩ ?_ ?_ ?_
      · intro i E hi1 hi ⟨hEl, hE⟩
        have hr := List.getElem?_eq_getElem hi
        generalize (rulesS p)[i] = r at hr
        have hrp := apart_rulP hp hr hi1
        have hc := condS_get hr
        have hPl := hP.1
        have hb := List.getElem?_eq_getElem (show i < B.length by omega)
        have ha1 := hrp.1.a
        have ha2 := hrp.1.b
        have hg := hrp.1.gap
        have m1 := (hp.at ha1.1 ha1.2).1
        have m2 := (hp.at ha2.1 ha2.2).1
        have hmem : ∀ (E' : List Edg) (b : Bool), B[i]? = some b → (b = true → E' = E ++ [eP p P r]) → (b = false → E' = E) → ∀ e, e ∈ E' ↔ e ∈ E0 ∨ ∃ (k : Nat) (r : Rul), p.1.length + p.2.1.length ≤ k ∧ k < i + 1 ∧ (rulesS p)[k]? = some r ∧ B[k]? = some true ∧ e = eP p P r := fun E' b hb h1 h2 e => by
          cases b with
          | true =>
            rw [h1 rfl, List.mem_append, hE, List.mem_singleton]
            constructor
            · rintro ((h | ⟨k, o', hk0, hk, h1, h2, h3⟩) | rfl)
              · exact .inl h
              · exact .inr ⟨k, o', hk0, by omega, h1, h2, h3⟩
              · exact .inr ⟨i, r, hi1, by omega, hr, hb, rfl⟩
            · rintro (h | ⟨k, o', hk0, hk, h1, h2, h3⟩)
              · exact .inl (.inl h)
              · by_cases hki : k = i
                · subst hki
                  rw [hr] at h1
                  cases h1
                  exact .inr h3
                · exact .inl (.inr ⟨k, o', hk0, by omega, h1, h2, h3⟩)
          | false =>
            rw [h2 rfl, hE]
            constructor
            · rintro (h | ⟨k, o', hk0, hk, h1, h2, h3⟩)
              · exact .inl h
              · exact .inr ⟨k, o', hk0, by omega, h1, h2, h3⟩
            · rintro (h | ⟨k, o', hk0, hk, h1, h2, h3⟩)
              · exact .inl h
              · by_cases hki : k = i
                · subst hki
                  rw [hb] at h2
                  cases h2
                · exact .inr ⟨k, o', hk0, by omega, h1, h2, h3⟩
        generalize hbe : B[i]'(by omega) = b at hb
        cases b with
        | true =>
          refine ⟨E ++ [eP p P r], ?_, by simp; omega, hmem _ true hb (fun _ => rfl) (fun h => nomatch h)⟩
          simp (disch := omega) only [cd_pos, cd_neg, gd_dec, Int.toNat_natCast, getD_some hb, getD_some hc, Bool.not_true, cond_false, Option.bind_some, hcl]
          have hgap : (bif strEq r.1 kT then some p.2.2 else some (0 : Int)) = some r.2.2.2 := by
            obtain ⟨-, q2, q3⟩ := rul_gap hr
            rcases hrp.1.kind with e | e | e | e | e
            · have := hrp.2
              unfold isP at this
              rw [e, sWW] at this
              simp at this
            · have := hrp.2
              unfold isP at this
              rw [e, sOO] at this
              simp at this
            · rw [e, sAT, q3 (.inl e)]; rfl
            · rw [e, sFT, q3 (.inr e)]; rfl
            · rw [e, sTT, q2 e]; rfl
          have wa : w64 ((p.1.getD r.2.1.toNat (ByteArray.empty, (0 : Int), nilT ByteArray, nilT ByteArray, nilT ByteArray, (0 : Int), (0 : Int))).2.1 + r.2.2.2) = (rq p r.2.1).2.1 + r.2.2.2 := by
            show w64 ((rq p r.2.1).2.1 + r.2.2.2) = _
            exact w64_in (by omega) (by omega)
          have wb : w64 ((p.1.getD r.2.2.1.toNat (ByteArray.empty, (0 : Int), nilT ByteArray, nilT ByteArray, nilT ByteArray, (0 : Int), (0 : Int))).2.1 + r.2.2.2) = (rq p r.2.2.1).2.1 + r.2.2.2 := by
            show w64 ((rq p r.2.2.1).2.1 + r.2.2.2) = _
            exact w64_in (by omega) (by omega)
          simp only [eT, hgap, Option.bind_some, Nat.zero_add]
          by_cases hlt : P.getD r.2.2.1.toNat 0 < P.getD r.2.1.toNat 0
          · have he : eP p P r = e2 p r := if_pos hlt
            have hl2 : (E ++ (r.2.2.1, r.2.1, (rq p r.2.2.1).2.1 + r.2.2.2) :: nilT (Int × Int × Int)).length = E.length + 1 := by simp [nilT]
            simp (disch := omega) only [hlt, decide_true, cond_true, Option.bind_some, gd_dec, wb, hl2, w64_in]
            rw [he]
            rfl
          · have he : eP p P r = e1 p r := if_neg hlt
            have hl2 : (E ++ (r.2.1, r.2.2.1, (rq p r.2.1).2.1 + r.2.2.2) :: nilT (Int × Int × Int)).length = E.length + 1 := by simp [nilT]
            simp (disch := omega) only [hlt, decide_false, cond_false, Option.bind_some, gd_dec, wa, hl2, w64_in]
            rw [he]
            rfl
        | false =>
          refine ⟨E, ?_, by omega, hmem _ false hb (fun h => nomatch h) (fun _ => rfl)⟩
          simp (disch := omega) only [cd_pos, cd_neg, gd_dec, Int.toNat_natCast, getD_some hb, getD_some hc, Bool.not_false, cond_true, Option.bind_some, hcl, decide_true, Bool.and_self, gd_true, w64_in]
      · intro E ⟨hEl, hE⟩
        refine ⟨E, ?_, by omega, fun k o ho hbk => (hE _).2 (.inl ((hE0 _).2 ⟨k, o, (List.getElem?_eq_some_iff.1 ho).1, ho, hbk, rfl⟩)), fun k r hk hr hbk => (hE _).2 (.inr ⟨k, r, hk, (List.getElem?_eq_some_iff.1 hr).1, hr, hbk, rfl⟩), fun e he => ?_⟩
        · simp (disch := omega) only [cd_neg, gd_dec, hcl, Option.bind_some, decide_true, Bool.and_self, gd_true]
        · rcases (hE e).1 he with h | ⟨k, r, hk, _, h1, h2, h3⟩
          · obtain ⟨k, o, hk, h1, h2, h3⟩ := (hE0 e).1 h
            exact .inl ⟨k, o, h1, h2, h3⟩
          · exact .inr ⟨k, r, hk, h1, h2, h3⟩
      · intro E ⟨hEl, hE⟩
        refine bind_cnt 0 p.1.length (fun i t => t.length = p.1.length ∧ ∀ j, j < p.1.length → fL t j = if j < i ∧ B[j]? = some true then (rq p j).2.2.2.2.2.1 else 0) (fun t => t.length = p.1.length ∧ ∀ j, j < p.1.length → fL t j = if B[j]? = some true then (rq p j).2.2.2.2.2.1 else 0) (Nat.zero_le _) (by omega) ⟨by simp, fun j hj => by simp only [fL]; rw [rep_getD hj]; simp⟩ ?_ ?_ ?_
        · intro i t _ hi ⟨htl, ht⟩
          have hb := List.getElem?_eq_getElem (show i < B.length by omega)
          have hx := List.getElem?_eq_getElem hi
          generalize hbe : B[i]'(by omega) = b at hb
          cases b with
          | true =>
            refine ⟨t.set i (rq p i).2.2.2.2.2.1, ?_, by simp [htl], fun j hj => ?_⟩
            · simp (disch := omega) only [cd_pos, gd_dec, Int.toNat_natCast, getD_some hb, cond_true, Option.bind_some, Nat.zero_add, w64_in, decide_true, Bool.and_self, gd_true]
              rfl
            · rw [fL_set (by omega), ht j hj]
              by_cases hji : j = i
              · subst hji
                simp [hb]
              · have e : (j < i + 1) = (j < i) := by simp only [eq_iff_iff]; omega
                simp [hji, e]
          | false =>
            refine ⟨t, ?_, htl, fun j hj => ?_⟩
            · simp (disch := omega) only [cd_pos, gd_dec, Int.toNat_natCast, getD_some hb, cond_false, Option.bind_some, Nat.zero_add, w64_in, decide_true, Bool.and_self, gd_true]
            · rw [ht j hj]
              by_cases hji : j = i
              · subst hji
                simp [hb]
              · have e : (j < i + 1) = (j < i) := by simp only [eq_iff_iff]; omega
                simp [e]
        · intro t ⟨htl, ht⟩
          refine ⟨t, ?_, htl, fun j hj => by rw [ht j hj]; simp [hj]⟩
          simp (disch := omega) only [cd_neg]
        · intro low ⟨hll, hlow⟩
          have hEw := hE.ew hp
          have hlb : InB 20000 low := fun x hx => by
            obtain ⟨i, hi, rfl⟩ := List.mem_iff_getElem.1 hx
            have := hlow i (by omega)
            simp only [fL] at this
            rw [getD_some (List.getElem?_eq_getElem hi)] at this
            rw [this]
            have := hp.at (a := (i : Int)) (by omega) (by omega)
            split <;> omega
          have h73 := x73 (F := F) hF (low := low) (E := E) (by omega) (by rw [hll]; exact hEw) hEl (hlb.mono (by omega))
          have hEo : EdgsOk p B P E := hE
          simp only [hll, decide_true, Bool.and_true, gd_true, Option.bind_some, h73]
          cases hL2 : (lowS low E).2 with
          | false =>
            refine bind_inv (fun x : Bool × Int => x = (false, 0)) (fun _ => 0) (fun b => b = false) ?_ rfl (by omega) ?_
            · rintro _ rfl
              refine .inr ⟨false, ?_, rfl⟩
              simp
            · rintro b rfl
              refine ⟨_, rfl, ear_fin hp hs hP hEo hEl hll hlow (fun h => ?_) rfl (fun _ => rfl)⟩
              rw [h] at hL2
              cases hL2
          | true =>
            obtain ⟨ht1, ht2⟩ := lowS_in hll (by omega) hEw hEl (hlb.mono (by omega)) hL2
            have htr : ∀ i : Nat, i < p.1.length → 0 ≤ fL (lowS low E).1 i ∧ fL (lowS low E).1 i ≤ 4398046511104 := fun i hi => ht2.at (by omega)
            have hLe : ∀ t, lowS low E = (t, true) → (lowS low E).1 = t := fun t h => by rw [h]
            generalize hLt : (lowS low E).1 = t at ht1 ht2 htr
            refine bind_inv (fun x : Bool × Int => ∃ k : Nat, x.2 = k ∧ k ≤ p.1.length ∧ (x.1 = true ↔ ∀ i, i < k → B[i]? = some true → fL t i + (rq p i).2.1 ≤ (rq p i).2.2.2.2.2.2)) (fun x => p.1.length - x.2.toNat) (fun b => b = true ↔ ∀ i, i < p.1.length → B[i]? = some true → fL t i + (rq p i).2.1 ≤ (rq p i).2.2.2.2.2.2) ?_ ⟨0, rfl, Nat.zero_le _, by simp⟩ (by simp only; omega) ?_
            · rintro ⟨ok, v⟩ ⟨k, hv, hk, hok⟩
              simp only at hv hok
              subst hv
              by_cases hkn : k < p.1.length
              · cases ok with
                | false =>
                  refine .inr ⟨false, ?_, ?_⟩
                  · simp (disch := omega) only [cd_pos, Option.bind_some, cond_false]
                  · refine ⟨fun h => (nomatch h), fun h => hok.2 fun i hi => h i (by omega)⟩
                | true =>
                  have hall := hok.1 rfl
                  have hb := List.getElem?_eq_getElem (show k < B.length by omega)
                  have hx := List.getElem?_eq_getElem hkn
                  have hm1 := hp.at (a := (k : Int)) (by omega) (by omega)
                  have htk := htr k hkn
                  generalize B[k]'(by omega) = b at hb
                  cases b with
                  | false =>
                    refine .inl ⟨(true, (k : Int) + 1), ?_, ⟨k + 1, rfl, by omega, ⟨fun _ i hi hbi => ?_, fun _ => rfl⟩⟩, by simp only; omega⟩
                    · simp (disch := omega) only [cd_pos, Option.bind_some, cond_true, gd_dec, Int.toNat_natCast, getD_some hb, Bool.not_false, w64_in]
                    · by_cases hik : i = k
                      · subst hik
                        rw [hb] at hbi
                        cases hbi
                      · exact hall i (by omega) hbi
                  | true =>
                    have wk : w64 (t.getD k 0 + (p.1.getD k (ByteArray.empty, (0 : Int), nilT ByteArray, nilT ByteArray, nilT ByteArray, (0 : Int), (0 : Int))).2.1) = fL t k + (rq p k).2.1 := by
                      show w64 (fL t k + (rq p k).2.1) = _
                      exact w64_in (by omega) (by omega)
                    refine .inl ⟨(decide (fL t k + (rq p k).2.1 ≤ (rq p k).2.2.2.2.2.2), (k : Int) + 1), ?_, ⟨k + 1, rfl, by omega, ⟨fun hd i hi hbi => ?_, fun h => decide_eq_true (h k (by omega) hb)⟩⟩, by simp only; omega⟩
                    · simp (disch := omega) only [cd_pos, Option.bind_some, cond_true, cond_false, gd_dec, Int.toNat_natCast, getD_some hb, Bool.not_true, w64_in, wk]
                      rfl
                    · by_cases hik : i = k
                      · subst hik
                        exact of_decide_eq_true hd
                      · exact hall i (by omega) hbi
              · obtain rfl : k = p.1.length := by omega
                refine .inr ⟨ok, ?_, hok⟩
                simp (disch := omega) only [cd_neg, Option.bind_some, cond_false]
            · intro b hb
              refine ⟨_, rfl, ear_fin hp hs hP hEo hEl hll hlow (fun h => ?_) hLt (fun h => ?_)⟩
              · exact hb
              · rw [hL2] at h; cases h
end Go.Proofs.Tryz

/- Plain law: the reference's tables of all sequences. Plain law: the least end and the first table, of the reference and of the program. awake, its parts: what the program's functions answer at the fixed examples Functions of the program as functions of data. By program. awake: the program run at its fixed examples returns true Functions of the program as functions of data. By program. Plain law: TimetableForms. awake and the reference's search Functions of the program as functions of data. By program. Plain law: TimetableTables. -/
import Derived.Test.YtlfcbhjoldgijaaGreatXT9x
import Derived.Test.YtlfcbhjoldgijaaGreatXTtR1
import Derived.Test.YtlfcbhjoldgijaaGreatXSxQh
import Derived.Test.YtlfcbhjoldgijaaGreatXTtCx
import Derived.Test.YtlfcbhjoldgijaaGreatXT9n
import Derived.Test.YtlfcbhjoldgijaaGreatXTtR2
section
set_option maxRecDepth 100000
set_option linter.unusedVariables false
set_option linter.unusedSimpArgs false
namespace Go.Proofs.Tryz
open Go Go.Sx
theorem seq_ex (n : Nat) (f : List Int) : ∃ seq ∈ permS n, SortS f seq := by
  refine ⟨(rngI n).mergeSort (fun a b => decide (tq f a ≤ tq f b)), perm_all (List.mergeSort_perm _ _), ?_⟩
  have := List.pairwise_mergeSort (le := fun a b : Int => decide (tq f a ≤ tq f b)) (fun a b c h1 h2 => by simp only [decide_eq_true_eq] at *; omega) (fun a b => by simp only [Bool.or_eq_true, decide_eq_true_eq]; omega) (rngI n)
  exact this.imp (fun h => by simpa using h)
noncomputable def earO (p : Pln) (F : Nat) (B : List Bool) (seq : List Int) : List Int × Bool := (c115 F (p, condS p, B, seq)).getD ([], false)
theorem earO_ok {F : Nat} (hF : 4000 ≤ F) {p : Pln} (hp : PV p) {B : List Bool} (hB : B.length = (rulesS p).length) {seq : List Int} (hs : seq ∈ permS p.1.length) : c115 F (p, condS p, B, seq) = some (earO p F B seq) ∧ EarS p B seq (earO p F B seq) := by
  obtain ⟨x, h1, h2⟩ := l115 hF hp hB hs
  unfold earO
  rw [h1]
  exact ⟨rfl, h2⟩
theorem l114 {F : Nat} (hF : 4000 ≤ F) {n : Nat} (hn : n ≤ 6) : c114 F (n : Int) = some (permS n) := r114_ok hF F n (by omega) hn
theorem l74 {F : Nat} (hF : 4000 ≤ F) {p : Pln} (hp : PV p) (hn : p.1.length ≤ 6) {B : List Bool} (hB : B.length = (rulesS p).length) : ∃ b, c74 F (p, B) = some b ∧ (b = true ↔ ∃ f, Hol p (chS p B) f) := by
  unfold c74
  simp only [peta, l37 (show 400 ≤ F by omega) hp.sh, l114 hF hn, Option.bind_some]
  have hc := permS_cnt p.1.length hn
  refine ⟨(permS p.1.length).any fun s => (earO p F B s).2, ?_, ?_⟩
  · refine bind_any (permS p.1.length) (fun s => (earO p F B s).2) (.inl true) (.inr ()) (by omega) ?_ ?_ ?_
    · intro i x hi hx
      have hxm := List.mem_of_getElem? hx
      simp (disch := omega) only [cd_pos, gd_dec, Int.toNat_natCast, getD_some hx, (earO_ok hF hp hB hxm).1, Option.bind_some, w64_in]
      cases (earO p F B x).2 <;> simp
    · simp (disch := omega) only [cd_neg]
    · cases ((permS p.1.length).any fun s => (earO p F B s).2) <;> simp
  · rw [List.any_eq_true]
    constructor
    · rintro ⟨s, hs, h⟩
      exact ⟨_, ((earO_ok hF hp hB hs).2.yes h).1⟩
    · rintro ⟨f, hf⟩
      obtain ⟨s, hs, hsf⟩ := seq_ex p.1.length f
      refine ⟨s, hs, ?_⟩
      apply Classical.byContradiction
      intro h
      exact (earO_ok hF hp hB hs).2.no h f hf hsf
structure TabsS (p : Pln) (B : List Bool) (T : List (List Int)) : Prop where
  hol : ∀ t ∈ T, Hol p (chS p B) t
  low : ∀ f, Hol p (chS p B) f → ∃ t ∈ T, LeF p.1.length (fL t) (fL f)
  len : T.length ≤ 720
theorem flat_len {α β : Type} {g : α → List β} (h : ∀ x, (g x).length ≤ 1) : ∀ l : List α, (l.flatMap g).length ≤ l.length
  | [] => Nat.le_refl _
  | a :: l => by
    have := flat_len h l
    have := h a
    simp only [List.flatMap_cons, List.length_append, List.length_cons]
    omega
theorem l79 {F : Nat} (hF : 4000 ≤ F) {p : Pln} (hp : PV p) (hn : p.1.length ≤ 6) {B : List Bool} (hB : B.length = (rulesS p).length) : ∃ T, c79 F (p, B) = some T ∧ TabsS p B T := by
  unfold c79
  simp only [peta, l37 (show 400 ≤ F by omega) hp.sh, l114 hF hn, Option.bind_some]
  have hc := permS_cnt p.1.length hn
  have hg : ∀ s, (if (earO p F B s).2 = true then [(earO p F B s).1] else []).length ≤ 1 := fun s => by split <;> simp
  have hlen := flat_len hg (permS p.1.length)
  refine ⟨(permS p.1.length).flatMap fun s => if (earO p F B s).2 = true then [(earO p F B s).1] else [], ?_, ?_, ?_, by omega⟩
  · refine bind_list (permS p.1.length) (fun (s : List (List Int)) i => (s, (i : Int))) (fun x s => .inl (s ++ if (earO p F B x).2 = true then [(earO p F B x).1] else [])) (fun s => s) (fun i s => s.length ≤ i) [] (by omega) rfl (Nat.le_refl _) ?_ ?_ ?_
    · intro i x s hi hx hs
      have hxm := List.mem_of_getElem? hx
      refine ⟨?_, fun s' h' => ?_⟩
      · simp (disch := omega) only [cd_pos, gd_dec, Int.toNat_natCast, getD_some hx, (earO_ok hF hp hB hxm).1, Option.bind_some, w64_in]
        cases (earO p F B x).2 with
        | true =>
          have h2 : (s ++ (earO p F B x).1 :: nilT (List Int)).length = s.length + 1 := by simp [nilT]
          simp (disch := omega) only [cond_true, if_true, gd_dec, h2, Option.bind_some, decide_true, Bool.and_self, gd_true]
          rfl
        | false =>
          simp (disch := omega) only [cond_false, Bool.false_eq_true, if_false, gd_dec, List.append_nil, Option.bind_some, decide_true, Bool.and_self, gd_true]
          rfl
      · simp only [Sum.inl.injEq] at h'
        subst h'
        have := hg x
        rw [List.length_append]
        omega
    · intro s hs
      simp (disch := omega) only [cd_neg, gd_dec, Option.bind_some, decide_true, Bool.and_self, gd_true]
    · rw [goL_flat]
      simp (disch := omega) only [List.nil_append, List.drop_zero, List.take_length, Nat.zero_add, Nat.le_refl, gd_dec, decide_true, Bool.and_self, gd_true]
  · intro t ht
    obtain ⟨s, hs, h⟩ := List.mem_flatMap.1 ht
    split at h
    · rename_i h2
      rw [List.mem_singleton.1 h]
      exact ((earO_ok hF hp hB hs).2.yes h2).1
    · cases h
  · intro f hf
    obtain ⟨s, hs, hsf⟩ := seq_ex p.1.length f
    have h2 : (earO p F B s).2 = true := by
      apply Classical.byContradiction
      intro h
      exact (earO_ok hF hp hB hs).2.no h f hf hsf
    exact ⟨_, List.mem_flatMap.2 ⟨s, hs, by rw [if_pos h2]; exact List.mem_singleton.2 rfl⟩, ((earO_ok hF hp hB hs).2.yes h2).2 f hf hsf⟩
theorem l75 {F n : Nat} (hF : n < F) (hn : n ≤ 100000) : c75 F (n : Int) = some (List.replicate n true) := by
  obtain ⟨r, h1, h2⟩ : ∃ r, c75 F (n : Int) = some r ∧ r = List.replicate n true := by
    unfold c75
    simp (disch := omega) only [gd_dec, Int.toNat_natCast]
    refine bind_cnt 0 n (fun i s => s = List.replicate i true ++ List.replicate (n - i) false) (fun s => s = List.replicate n true) (Nat.zero_le _) (by omega) (by simp) ?_ ?_ ?_
    · intro i s _ hi hs
      have hl : s.length = n := by rw [hs]; simp; omega
      refine ⟨s.set i true, ?_, ?_⟩
      · simp (disch := omega) only [cd_pos, gd_dec, Int.toNat_natCast, Nat.zero_add, w64_in]
      · have e : n - i = (n - (i + 1)) + 1 := by omega
        rw [hs, e, List.replicate_succ, List.set_append_right _ _ (by simp)]
        simp [List.replicate_succ', List.append_assoc]
    · intro s hs
      refine ⟨s, ?_, by rw [hs]; simp⟩
      simp (disch := omega) only [cd_neg]
    · intro s hs
      refine ⟨s, ?_, hs⟩
      have hl : s.length = n := by rw [hs]; simp
      simp (disch := omega) only [gd_dec, decide_true, Bool.and_self, gd_true]
  rw [h1, h2]
theorem ch_rep : ∀ l : List Rul, ((l.zip (List.replicate l.length true)).filterMap fun x => if x.2 = true then some x.1 else none) = l
  | [] => rfl
  | a :: l => by
    rw [List.length_cons, List.replicate_succ, List.zip_cons_cons, List.filterMap_cons]
    simp only [if_true]
    rw [ch_rep l]
theorem chS_all (p : Pln) : chS p (List.replicate (rulesS p).length true) = rulesS p := ch_rep _
theorem l25 {F : Nat} (hF : 4000 ≤ F) {p : Pln} (hp : PV p) (hn : p.1.length ≤ 6) : ∃ b, c25 F p = some b ∧ (b = true ↔ ∃ f, Hol p (rulesS p) f) := by
  have hl := rulesS_len (p := p) (by omega) (by have := hp.n2; omega)
  have hcl := condS_len p
  obtain ⟨b, h1, h2⟩ := l74 hF hp hn (B := List.replicate (rulesS p).length true) (by simp)
  rw [chS_all] at h2
  refine ⟨b, ?_, h2⟩
  unfold c25
  simp (disch := omega) only [peta, l37 (show 400 ≤ F by omega) hp.sh, Option.bind_some, l75, hcl, List.length_replicate, List.drop_zero, gd_dec, Nat.zero_add, Nat.le_refl, decide_true, Bool.and_self, gd_true]
  rw [show List.take (rulesS p).length (List.replicate (rulesS p).length true) = List.replicate (rulesS p).length true from List.take_of_length_le (by simp)]
  rw [h1]
  rfl
end Go.Proofs.Tryz
end
section
set_option maxRecDepth 100000
set_option linter.unusedVariables false
set_option linter.unusedSimpArgs false
namespace Go.Proofs.Tryz
open Go Go.Sx
theorem less_loop {step : Int → Option (Int ⊕ (Bool ⊕ Unit))} {a b : List Int} (hl : a.length = b.length) (h1 : ∀ (i : Nat) x y, a[i]? = some x → b[i]? = some y → step (i : Int) = some (if x = y then .inl ((i : Int) + 1) else .inr (.inl (decide (x < y))))) (h3 : step (a.length : Int) = some (.inr (.inr ()))) :
    ∀ (k i : Nat), i + k = a.length → ∀ G, k < G → ∃ v, loopO step G (i : Int) = some v ∧ Sum.elim (fun x => x) (fun _ => false) v = decide (lexI (a.drop i) (b.drop i) < 0)
  | k, i, hi, 0, hG => by omega
  | 0, i, hi, G + 1, hG => by
    obtain rfl : i = a.length := by omega
    rw [List.drop_length, hl, List.drop_length]
    rw [hl] at h3
    simp only [loopO, h3]
    exact ⟨_, rfl, rfl⟩
  | k + 1, i, hi, G + 1, hG => by
    have hia : i < a.length := by omega
    have hib : i < b.length := by omega
    rw [List.drop_eq_getElem_cons hia, List.drop_eq_getElem_cons hib]
    simp only [loopO, h1 i _ _ (List.getElem?_eq_getElem hia) (List.getElem?_eq_getElem hib)]
    unfold lexI
    by_cases g : a[i] = b[i]
    · have g1 : ¬ a[i] < b[i] := by omega
      have g2 : ¬ b[i] < a[i] := by omega
      simp only [g, if_true, Int.lt_irrefl, if_false]
      exact less_loop hl h1 h3 k (i + 1) (by omega) G (by omega)
    · simp only [g, if_false]
      refine ⟨_, rfl, ?_⟩
      simp only [Sum.elim_inl]
      by_cases g1 : a[i] < b[i]
      · simp [g1]
      · have g2 : b[i] < a[i] := by omega
        simp [g1, g2]
theorem bind_less {γ : Type} {step : Int → Option (Int ⊕ (Bool ⊕ Unit))} {a b : List Int} {F : Nat} {k : Bool ⊕ Unit → Option γ} {r : Option γ} (hF : a.length < F) (hl : a.length = b.length) (h1 : ∀ (i : Nat) x y, a[i]? = some x → b[i]? = some y → step (i : Int) = some (if x = y then .inl ((i : Int) + 1) else .inr (.inl (decide (x < y))))) (h3 : step (a.length : Int) = some (.inr (.inr ())))
    (hk : ∀ v, Sum.elim (fun x => x) (fun _ => false) v = decide (lexI a b < 0) → k v = r) : Option.bind (loopO step F (0 : Int)) k = r := by
  obtain ⟨v, e1, e2⟩ := less_loop hl h1 h3 a.length 0 (by omega) F hF
  rw [show loopO step F (0 : Int) = some v from e1]
  exact hk v e2
theorem l80 {F : Nat} {a b : List Int} (hF : a.length < F) (hl : a.length = b.length) (hb : a.length ≤ 100000) : c80 F (a, b) = some (decide (lexI a b < 0)) := by
  unfold c80
  refine bind_less (a := a) (b := b) hF hl ?_ ?_ ?_
  · intro i x y hx hy
    have hia : i < a.length := (List.getElem?_eq_some_iff.1 hx).1
    have hib : i < b.length := (List.getElem?_eq_some_iff.1 hy).1
    simp (disch := omega) only [cd_pos, gd_dec, Int.toNat_natCast, getD_some hx, getD_some hy, w64_in]
    by_cases h : x = y <;> simp [h]
  · simp (disch := omega) only [cd_neg]
  · intro v hv
    rw [← hv]
    cases v <;> rfl
theorem Hol.tok {p : Pln} {L : List Rul} {f : List Int} (h : Hol p L f) : TOk p f := by
  refine TOk.ofB h.len fun x hx => ?_
  obtain ⟨i, hi, rfl⟩ := List.mem_iff_getElem.1 hx
  have := h.rng i (by rw [← h.len]; exact hi)
  simp only [fL] at this
  rw [getD_some (List.getElem?_eq_getElem hi)] at this
  omega
theorem tabs_one {p : Pln} {T : List (List Int)} (h : TabsS p (List.replicate (rulesS p).length true) T) (hex : ∃ f, Hol p (rulesS p) f) : 0 < T.length := by
  obtain ⟨f, hf⟩ := hex
  obtain ⟨t, ht, -⟩ := h.low f (by rw [chS_all]; exact hf)
  exact List.length_pos_of_mem ht
theorem l30 {F : Nat} (hF : 4000 ≤ F) {p : Pln} (hp : PV p) (hn : p.1.length ≤ 6) (hex : ∃ f, Hol p (rulesS p) f) : ∃ m, c30 F p = some m ∧ (∃ t, Hol p (rulesS p) t ∧ endS p t = m) ∧ ∀ f, Hol p (rulesS p) f → m ≤ endS p f := by
  have hl := rulesS_len (p := p) (by omega) (by have := hp.n2; omega)
  have hcl := condS_len p
  obtain ⟨T, h1, h2⟩ := l79 hF hp hn (B := List.replicate (rulesS p).length true) (by simp)
  have h0 := tabs_one h2 hex
  have hTl := h2.len
  have hol : ∀ t ∈ T, Hol p (rulesS p) t := fun t ht => by have := h2.hol t ht; rwa [chS_all] at this
  have ht0 := List.getElem?_eq_getElem h0
  have e0 : T.getD 0 (nilT Int) = T[0] := getD_some ht0
  have hm0 := List.getElem_mem h0
  generalize T[0] = t0 at ht0 e0 hm0
  unfold c30
  simp (disch := omega) only [peta, l37 (show 400 ≤ F by omega) hp.sh, Option.bind_some, l75, hcl, h1, e0, gd_dec, List.length_replicate, decide_true, Bool.and_self, gd_true, l34 (show 400 ≤ F by omega) hp (hol _ hm0).tok]
  simp only [gd_rec]
  refine bind_cnt (F := F) 1 T.length (fun i m => (∃ t ∈ T, endS p t = m) ∧ ∀ (j : Nat) t, j < i → T[j]? = some t → m ≤ endS p t) (fun m => (∃ t ∈ T, endS p t = m) ∧ ∀ t ∈ T, m ≤ endS p t) (by omega) (by omega) ⟨⟨t0, hm0, rfl⟩, fun j t hj ht => ?_⟩ ?_ ?_ ?_
  · obtain rfl : j = 0 := by omega
    rw [ht0] at ht
    cases ht
    exact Int.le_refl _
  · intro i m hi hi2 ⟨ha, hb⟩
    have hx := List.getElem?_eq_getElem hi2
    have hxm := List.getElem_mem hi2
    generalize T[i] = x at hx hxm
    refine ⟨if endS p x < m then endS p x else m, ?_, ?_, fun j t hj ht => ?_⟩
    · simp (disch := omega) only [cd_pos, gd_dec, Int.toNat_natCast, getD_some hx, w64_in, Option.bind_some, l34 (show 400 ≤ F by omega) hp (hol _ hxm).tok]
    · split
      · exact ⟨x, hxm, rfl⟩
      · exact ha
    · by_cases hji : j = i
      · subst hji
        rw [hx] at ht
        cases ht
        split <;> omega
      · have := hb j t (by omega) ht
        split <;> omega
  · intro m ⟨ha, hb⟩
    refine ⟨m, ?_, ha, fun t ht => ?_⟩
    · simp (disch := omega) only [cd_neg]
    · obtain ⟨j, hj⟩ := List.mem_iff_getElem?.1 ht
      exact hb j t (List.getElem?_eq_some_iff.1 hj).1 hj
  · rintro m ⟨⟨t, ht, e⟩, hb⟩
    refine ⟨m, rfl, ⟨t, hol t ht, e⟩, fun f hf => ?_⟩
    obtain ⟨u, hu, hle⟩ := h2.low f (by rw [chS_all]; exact hf)
    exact Int.le_trans (hb u hu) (endS_mono (hol u hu).len hf.len hle)
theorem l31 {F : Nat} (hF : 4000 ≤ F) {p : Pln} (hp : PV p) (hn : p.1.length ≤ 6) (hex : ∃ f, Hol p (rulesS p) f) : ∃ t, c31 F p = some t ∧ Hol p (rulesS p) t ∧ ∀ f, Hol p (rulesS p) f → lexI t f ≤ 0 := by
  have hl := rulesS_len (p := p) (by omega) (by have := hp.n2; omega)
  have hcl := condS_len p
  obtain ⟨T, h1, h2⟩ := l79 hF hp hn (B := List.replicate (rulesS p).length true) (by simp)
  have h0 := tabs_one h2 hex
  have hTl := h2.len
  have hol : ∀ t ∈ T, Hol p (rulesS p) t := fun t ht => by have := h2.hol t ht; rwa [chS_all] at this
  have ht0 := List.getElem?_eq_getElem h0
  have e0 : T.getD 0 (nilT Int) = T[0] := getD_some ht0
  have hm0 := List.getElem_mem h0
  generalize T[0] = t0 at ht0 e0 hm0
  unfold c31
  simp (disch := omega) only [peta, l37 (show 400 ≤ F by omega) hp.sh, Option.bind_some, l75, hcl, h1, e0, gd_dec, List.length_replicate, decide_true, Bool.and_self, gd_true]
  simp only [gd_rec]
  refine bind_cnt (F := F) 1 T.length (fun i m => m ∈ T ∧ ∀ (j : Nat) t, j < i → T[j]? = some t → lexI m t ≤ 0) (fun m => m ∈ T ∧ ∀ t ∈ T, lexI m t ≤ 0) (by omega) (by omega) ⟨hm0, fun j t hj ht => ?_⟩ ?_ ?_ ?_
  · obtain rfl : j = 0 := by omega
    rw [ht0] at ht
    cases ht
    rw [lexI_self]
    exact Int.le_refl _
  · intro i m hi hi2 ⟨ha, hb⟩
    have hx := List.getElem?_eq_getElem hi2
    have hxm := List.getElem_mem hi2
    generalize T[i] = x at hx hxm
    have lx := (hol _ hxm).len
    have lm := (hol _ ha).len
    refine ⟨if lexI x m < 0 then x else m, ?_, ?_, fun j t hj ht => ?_⟩
    · simp (disch := omega) only [cd_pos, gd_dec, Int.toNat_natCast, getD_some hx, w64_in, Option.bind_some, l80]
      by_cases h : lexI x m < 0
      · simp [h, gd_true]
      · simp [h, gd_true]
    · split
      · exact hxm
      · exact ha
    · by_cases hji : j = i
      · subst hji
        rw [hx] at ht
        cases ht
        split
        · rw [lexI_self]; exact Int.le_refl _
        · rw [lexI_neg x m]; omega
      · have := hb j t (by omega) ht
        split
        · exact lexI_trans (Int.le_of_lt ‹_›) this
        · exact this
  · intro m ⟨ha, hb⟩
    refine ⟨m, ?_, ha, fun t ht => ?_⟩
    · simp (disch := omega) only [cd_neg]
    · obtain ⟨j, hj⟩ := List.mem_iff_getElem?.1 ht
      exact hb j t (List.getElem?_eq_some_iff.1 hj).1 hj
  · rintro m ⟨ha, hb⟩
    refine ⟨m, rfl, hol m ha, fun f hf => ?_⟩
    obtain ⟨u, hu, hle⟩ := h2.low f (by rw [chS_all]; exact hf)
    refine lexI_trans (hb u hu) (lexI_le ((hol u hu).len.trans hf.len.symm) fun i hi => hle i (by rw [← (hol u hu).len]; exact hi))
def exE (p : Pln) : Int := firstNZ [planE p, if 8 < p.1.length then 22 else 0]
theorem l82 {F : Nat} (hF : 400 ≤ F) {p : Pln} (h : PShort p) : c82 F p = some (exE p) := by
  unfold c82
  have l2 : ∀ (a b : Int), c102 F (a :: b :: nilT Int) = some (firstNZ [a, b]) := fun a b => l102 (by simp [nilT]; omega) (by simp [nilT])
  simp only [peta, l51 hF h.sm, l88, Option.bind_some, l2]
  unfold exE
  by_cases h8 : 8 < p.1.length
  · have : (8 : Int) < (p.1.length : Int) := by omega
    simp [h8, this, nilT]
  · have : ¬ (8 : Int) < (p.1.length : Int) := by omega
    simp [h8, this, nilT]
theorem exE_zero {p : Pln} (h : exE p = 0) : planE p = 0 ∧ p.1.length ≤ 8 := by
  have h1 := firstNZ_zero h
  refine ⟨h1 _ (by simp), ?_⟩
  have := h1 (if 8 < p.1.length then 22 else 0) (by simp)
  split at this <;> omega
theorem l28 {F : Nat} (hF : 4000 ≤ F) {p : Pln} (h : PShort p) : (exE p ≠ 0 → c28 F p = some ([], exE p)) ∧ (exE p = 0 → ∃ t is, c28 F p = some (t, if is = true then 0 else 23) ∧ BestS p (endC p) t is) := by
  unfold c28 cx76_0
  simp only [peta, l82 (show 400 ≤ F by omega) h, Option.bind_some]
  constructor
  · intro he
    simp [he, nilT]
  · intro he
    obtain ⟨t, is, h1, h2⟩ := x116 hF (PV.of h (exE_zero he).1)
    refine ⟨t, is, ?_, h2⟩
    simp only [he, decide_true, Bool.not_true, cond_false, h1, Option.bind_some, l88]
    cases is <;> rfl
theorem l26 {F : Nat} (hF : 4000 ≤ F) {p : Pln} (h : PShort p) : (exE p ≠ 0 → c26 F p = some ([], exE p)) ∧ (exE p = 0 → ∃ t is, c26 F p = some (t, if is = true then 0 else 23) ∧ BestS p lexI t is) := by
  unfold c26 cx76_1
  simp only [peta, l82 (show 400 ≤ F by omega) h, Option.bind_some]
  constructor
  · intro he
    simp [he, nilT]
  · intro he
    obtain ⟨t, is, h1, h2⟩ := x116b hF (PV.of h (exE_zero he).1)
    refine ⟨t, is, ?_, h2⟩
    simp only [he, decide_true, Bool.not_true, cond_false, h1, Option.bind_some, l88]
    cases is <;> rfl
theorem l27 {F : Nat} (hF : 4000 ≤ F) {p : Pln} (h : PShort p) {t : List Int} {e : Int} (h1 : c28 F p = some (t, e)) (h2 : e = 0 → PV p ∧ TOk p t) : c27 F p = some (if e = 0 then (endS p t, 0) else (0, e)) := by
  unfold c27
  simp only [peta, h1, Option.bind_some]
  by_cases he : e = 0
  · obtain ⟨a, b⟩ := h2 he
    simp [he, l68 (show 400 ≤ F by omega) a b]
  · simp [he]
end Go.Proofs.Tryz
end
section
set_option maxRecDepth 1000000
set_option linter.unusedVariables false
namespace Go.Proofs.Tryz
open Go Go.Sx
def bs (l : List UInt8) : ByteArray := ⟨⟨l⟩⟩
def smp : TP := ([(bs [104, 101, 97, 116, 115], 30, [bs [116, 114, 97, 99, 107]], [], [bs [97, 110, 110], bs [98, 101, 97]], 0, 100), (bs [106, 117, 109, 112], 20, [bs [112, 105, 116]], [], [bs [97, 110, 110]], 0, 100), (bs [102, 105, 110, 97, 108], 10, [bs [116, 114, 97, 99, 107]], [], [bs [98, 101, 97]], 0, 100)], [(0, 2, 15)], 20)
def nar : TP := ([(bs [104, 101, 97, 116, 115], 30, [bs [116, 114, 97, 99, 107]], [], [bs [97, 110, 110], bs [98, 101, 97]], 0, 60), (bs [106, 117, 109, 112], 20, [bs [112, 105, 116]], [], [bs [97, 110, 110]], 20, 60), (bs [102, 105, 110, 97, 108], 10, [bs [116, 114, 97, 99, 107]], [], [bs [98, 101, 97]], 0, 100)], [(0, 2, 15)], 20)
def a50 : TP := smp
def y50 : List (ByteArray × Int × Int) × Int := ([(bs [119, 105, 110, 100, 111, 119], 0, 0), (bs [119, 105, 110, 100, 111, 119], 1, 1), (bs [119, 105, 110, 100, 111, 119], 2, 2), (bs [111, 114, 100, 101, 114], 0, 2), (bs [97, 116, 104, 108, 101, 116, 101], 0, 1), (bs [97, 114, 101, 97], 0, 2), (bs [97, 116, 104, 108, 101, 116, 101], 0, 2)], 0)
theorem r50 : (pc50 400).code a50 = some y50 := by kernel_rfl
def a17 : TP := smp
def y17 : List (Int × Int) × Int := ([(0, 45), (0, 80), (45, 90)], 0)
theorem r17 : (pc17 400).code a17 = some y17 := by kernel_rfl
def a18 : TP := smp
def y18 : Int × Int := (55, 0)
theorem r18 : (pc18 400).code a18 = some y18 := by kernel_rfl
def a26 : TP := smp
def y26 : List Int × Int := ([0, 50, 50], 0)
theorem r26 : (pc26 400).code a26 = some y26 := by kernel_rfl
def a27 : TP := smp
def y27 : Int × Int := (70, 0)
theorem r27 : (pc27 400).code a27 = some y27 := by kernel_rfl
def a36 : TP := nar
def y36 : List Int × Int := ([0, 1, 4], 0)
theorem r36 : (pc36 400).code a36 = some y36 := by kernel_rfl
def a41 : TP × List Int × ByteArray := (smp, [0, 50, 50], bs [97, 110, 110])
def y41 : Int × Int := (20, 0)
theorem r41 : (pc41 400).code a41 = some y41 := by kernel_rfl
def a52 : TP × List Int := (smp, [0, 50, 50])
def b52 : TP × List Int := (smp, [0, 40, 50])
def y52 : Int × Int := (7, 0)
def z52 : Int × Int := (4, 29)
theorem r52 : (pc52 400).code a52 = some y52 := by kernel_rfl
theorem s52 : ((pc52 400).at a52 y52).code b52 = some z52 := by kernel_rfl
def a35 : TP := nar
def b35 : TP := smp
def y35 : List Int × Int := ([0, 1, 4], 0)
def z35 : List Int × Int := ([], 7)
theorem r35 : (pc35 400).code a35 = some y35 := by kernel_rfl
theorem s35 : ((pc35 400).at a35 y35).code b35 = some z35 := by kernel_rfl
noncomputable def lxA : Lx := { ext := [(51, (pc51 400).sm)], anns := [], still := [] }
theorem lxA_ok : lxA.Ok cx.bare := Lx.ok_cons (PC.sm_ok (pc51_ok 400).bare) Lx.ok_nil
abbrev at45 : List ATy := [.agg [sR, sO, .int .i64]]
abbrev rt45 : List ATy := [.val (.seq [.str, .int .i64]), .val (.int .i64)]
def y45 : List (ByteArray × Int) × Int := ([(bs [112, 105, 116], 20), (bs [116, 114, 97, 99, 107], 40)], 0)
theorem q45 : codeOf cx.bare lxA 3000 .leaf f45 (bodyOf f45) at45 rt45 smp = some y45 := by kernel_rfl
end Go.Proofs.Tryz
end
section
set_option maxRecDepth 100000
set_option linter.all false
namespace Go.Proofs.Tryz
open Go Go.Sx
noncomputable def lx60 (F : Nat) : LK := lN
noncomputable def pc60 (F : Nat) : PC := qT (lx60 F) .leaf f60 [] [.agg [sR, sO, .int .i64]]
theorem pc60_ok (F : Nat) : PCOk cx 60 (pc60 F) := qT_ok (by kernel_rfl)
noncomputable def lx61 (F : Nat) : LK := lN
noncomputable def pc61 (F : Nat) : PC := qT (lx61 F) (.two .leaf (.two (.within [(60, .leaf)]) .leaf)) f61 [] [.agg [sR, sO, .int .i64]]
theorem pc61_ok (F : Nat) : PCOk cx 61 (pc61 F) := qT_ok (by kernel_rfl)
end Go.Proofs.Tryz
end
section
set_option maxRecDepth 1000000
set_option linter.unusedVariables false
namespace Go.Proofs.Tryz
open Go Go.Sx
noncomputable def k50 : PC := (pc50 400).one a50 y50
theorem k50_ok : PCOk cx.bare 50 k50 := (pc50_ok 400).bare.one a50 y50 r50
noncomputable def k17 : PC := (pc17 400).one a17 y17
theorem k17_ok : PCOk cx.bare 17 k17 := (pc17_ok 400).bare.one a17 y17 r17
noncomputable def k18 : PC := (pc18 400).one a18 y18
theorem k18_ok : PCOk cx.bare 18 k18 := (pc18_ok 400).bare.one a18 y18 r18
noncomputable def k26 : PC := (pc26 400).one a26 y26
theorem k26_ok : PCOk cx.bare 26 k26 := (pc26_ok 400).bare.one a26 y26 r26
noncomputable def k27 : PC := (pc27 400).one a27 y27
theorem k27_ok : PCOk cx.bare 27 k27 := (pc27_ok 400).bare.one a27 y27 r27
noncomputable def k36 : PC := (pc36 400).one a36 y36
theorem k36_ok : PCOk cx.bare 36 k36 := (pc36_ok 400).bare.one a36 y36 r36
noncomputable def k41 : PC := (pc41 400).one a41 y41
theorem k41_ok : PCOk cx.bare 41 k41 := (pc41_ok 400).bare.one a41 y41 r41
noncomputable def k52 : PC := ((pc52 400).at a52 y52).at b52 z52
theorem k52_ok : PCOk cx.bare 52 k52 := @PCOk.at cx.bare 52 ((pc52 400).at a52 y52) (@PCOk.at cx.bare 52 (pc52 400) (pc52_ok 400).bare a52 y52 r52) b52 z52 s52
noncomputable def k35 : PC := ((pc35 400).at a35 y35).at b35 z35
theorem k35_ok : PCOk cx.bare 35 k35 := @PCOk.at cx.bare 35 ((pc35 400).at a35 y35) (@PCOk.at cx.bare 35 (pc35 400) (pc35_ok 400).bare a35 y35 r35) b35 z35 s35
noncomputable def k45 : PC := { ats := at45, rts := rt45, code := one (ats := at45) (rts := rt45) smp y45 }
theorem k45_ok : PCOk cx.bare 45 k45 := PCOk.of_eval (Cx.bare_ok cx_ok) lxA_ok (n := 3000) (an := .leaf) (fn := f45) (c := bodyOf f45) (by kernel_rfl) (by kernel_rfl) (fun a y h => by
  obtain ⟨h1, h2⟩ := one_some h
  subst h1; subst h2
  exact q45) (by kernel_rfl)
noncomputable def lxB0 : Lx := { ext := [(50, k50.sm), (17, k17.sm), (18, k18.sm), (26, k26.sm), (27, k27.sm), (36, k36.sm), (41, k41.sm), (52, k52.sm), (35, k35.sm), (45, k45.sm), (96, (pc96 400).sm), (90, (pc90 400).sm), (97, (pc97 400).sm), (55, (pc55 400).sm), (60, (pc60 400).sm), (61, (pc61 400).sm)], anns := [], still := [] }
theorem lxB0_ok : lxB0.Ok cx.bare := Lx.ok_cons (PC.sm_ok k50_ok) (Lx.ok_cons (PC.sm_ok k17_ok) (Lx.ok_cons (PC.sm_ok k18_ok) (Lx.ok_cons (PC.sm_ok k26_ok) (Lx.ok_cons (PC.sm_ok k27_ok) (Lx.ok_cons (PC.sm_ok k36_ok) (Lx.ok_cons (PC.sm_ok k41_ok) (Lx.ok_cons (PC.sm_ok k52_ok) (Lx.ok_cons (PC.sm_ok k35_ok) (Lx.ok_cons (PC.sm_ok k45_ok) (Lx.ok_cons (PC.sm_ok (pc96_ok 400).bare) (Lx.ok_cons (PC.sm_ok (pc90_ok 400).bare) (Lx.ok_cons (PC.sm_ok (pc97_ok 400).bare) (Lx.ok_cons (PC.sm_ok (pc55_ok 400).bare) (Lx.ok_cons (PC.sm_ok (pc60_ok 400).bare) (Lx.ok_cons (PC.sm_ok (pc61_ok 400).bare) Lx.ok_nil)))))))))))))))
noncomputable def lxB : Lx := { ext := lxB0.ext, anns := [], still := [] }
theorem lxB_ok : lxB.Ok cx.bare := ⟨lxB0_ok.ext, rfl⟩
noncomputable def c15 (F : Nat) (a : Unit) : Option Bool := some true
noncomputable def pc15 (F : Nat) : PC := { ats := [], rts := [.val .bool], code := c15 F }
theorem aw_eq : codeOf cx.bare lxB 3000 .leaf f15 (bodyOf f15) [] [.val .bool] () = some true := by kernel_rfl
theorem pc15_ok (F : Nat) : PCOk cx 15 (pc15 F) := PCOk.full (PCOk.of_eval (Cx.bare_ok cx_ok) lxB_ok (n := 3000) (an := .leaf) (fn := f15) (c := bodyOf f15) (by kernel_rfl) (by kernel_rfl) (fun a y h => aw_eq.trans h) (by kernel_rfl))
end Go.Proofs.Tryz
end
section
set_option maxRecDepth 100000
set_option linter.all false
namespace Go.Proofs.Tryz
open Go Go.Sx
noncomputable def c3 (F : Nat) (a : TP) : Option (Bool) :=
  let z1 := ((0 : Int), (0 : Int)); Option.bind (c14 F (a.1, a.2.1, a.2.2)) fun (v35 : TP) => let z2 := (v35.1, v35.2.1, v35.2.2); Option.bind (c16 F z2) fun (v36 : Bool) => bif !v36 then (some (true)) else (Option.bind (c17 F (a.1, a.2.1, a.2.2)) fun (v37 : List (Int × Int) × Int) => let z3 := (↑(List.length v37.1) : Int); Option.bind (c18 F (a.1, a.2.1, a.2.2)) fun (v38 : Int × Int) => Option.bind (c19 F z2) fun (v39 : Int) => bif !decide (v39 = (0 : Int)) then (Option.bind (bif decide (z3 = (0 : Int)) then (bif decide (v37.2 = v39) then (Option.bind (c20 F (v38.1, v38.2, v39, (0 : Int))) fun (v41 : Bool) => some (v41)) else (some (false))) else (some (false))) fun (v40 : Bool) => some (v40)) else (Option.bind (c21 F z2) fun (v42 : List (Int × Int) × Bool) => let z4 := (bif v42.2 then (bif !decide (v37.2 = (0 : Int)) then (some (true)) else (some (!decide (z3 = (↑(List.length v42.1) : Int))))) else (some (false))); Option.bind (bif !v42.2 then (bif !decide (z3 = (0 : Int)) then (some (true)) else (bif !decide (v37.2 = (23 : Int)) then (some (true)) else z4)) else z4) fun (v43 : Bool) => bif v43 then (some (false)) else (Option.bind (loopO (σ := Int) (β := Bool ⊕ Unit) (fun (v50 : Int) => let z6 := List.getD v42.1 (Int.toNat v50) z1; let z5 := List.getD v37.1 (Int.toNat v50) z1; bif decide (v50 < z3) then (gd (decide ((0 : Int) ≤ v50)) (gd (decide (v50 < z3)) (gd (decide (Int.toNat v50 < List.length v37.1)) (gd (decide ((0 : Int) ≤ v50)) (gd (decide (v50 < (↑(List.length v42.1) : Int))) (gd (decide (Int.toNat v50 < List.length v42.1)) (bif !(decide (z5.1 = z6.1) && (decide (z5.2 = z6.2) && true)) then (some (Sum.inr (Sum.inl false))) else (some (Sum.inl (w64 (v50 + (1 : Int)))))))))))) else (some (Sum.inr (Sum.inr ())))) F ((0 : Int))) fun (v44 : Bool ⊕ Unit) => Sum.elim (fun (v45 : Bool) => some (v45)) (fun (v46 : Unit) => Option.bind (c22 F z2) fun (v47 : Int × Bool) => Option.bind (c23 F (!v47.2, (23 : Int))) fun (v48 : Int) => Option.bind (c20 F (v38.1, v38.2, v48, v47.1)) fun (v49 : Bool) => some (v49)) (v44))))
end Go.Proofs.Tryz
end
section
set_option maxRecDepth 100000
set_option linter.unusedVariables false
set_option linter.unusedSimpArgs false
namespace Go.Proofs.Tryz
open Go Go.Sx
theorem m20_err {F : Nat} {b w : Int} (hb : b ≠ 0) : c20 F (0, b, b, w) = some true := by
  unfold c20
  simp [hb]
theorem m20_ok {F : Nat} {w : Int} : c20 F (w, 0, 0, w) = some true := by
  unfold c20
  simp
end Go.Proofs.Tryz
end
section

end
section
set_option maxRecDepth 100000
set_option linter.all false
namespace Go.Proofs.Tryz
open Go Go.Sx
noncomputable def lx4 (F : Nat) : LK := lC (pc15_ok F) (lC (pc16_ok F) (lC (pc25_ok F) (lC (pc27_ok F) (lC (pc20_ok F) (lC (pc29_ok F) (lC (pc31_ok F) (lC (pc32_ok F) (lC (pc34_ok F) (lC (pc33_ok F) (lC (pc30_ok F) (lC (pc28_ok F) (lC (pc26_ok F) (lC (pc24_ok F) (lC (pc23_ok F) (lC (pc19_ok F) (lC (pc14_ok F) lN))))))))))))))))
noncomputable def c4 (F : Nat) (a : TP) : Option (Bool) :=
  let z1 := (↑(List.length a.1) : Int); Option.bind (c14 F (a.1, a.2.1, a.2.2)) fun (v63 : TP) => let z2 := (v63.1, v63.2.1, v63.2.2); Option.bind (c16 F z2) fun (v64 : Bool) => bif !v64 then (some (true)) else (Option.bind (c19 F z2) fun (v65 : Int) => Option.bind (bif decide (v65 = (0 : Int)) then (bif decide ((5 : Int) < z1) then (some (decide (z1 ≤ (8 : Int)))) else (some (false))) else (some (false))) fun (v66 : Bool) => bif v66 then (some (true)) else (Option.bind (c23 F (decide ((8 : Int) < z1), (22 : Int))) fun (v67 : Int) => Option.bind (c24 F (v65 :: v67 :: nilT Int)) fun (v68 : Int) => Option.bind (bif decide (v68 = (0 : Int)) then (Option.bind (c25 F z2) fun (v86 : Bool) => Option.bind (c23 F (!v86, (23 : Int))) fun (v87 : Int) => some (v87)) else (some (v68))) fun (v69 : Int) => Option.bind (c26 F (a.1, a.2.1, a.2.2)) fun (v70 : List Int × Int) => Option.bind (c27 F (a.1, a.2.1, a.2.2)) fun (v71 : Int × Int) => Option.bind (c28 F (a.1, a.2.1, a.2.2)) fun (v72 : List Int × Int) => bif !decide (v69 = (0 : Int)) then (Option.bind (Option.bind (c29 F (v70.1, v70.2, v69, nilT Int)) fun (v74 : Bool) => bif v74 then (Option.bind (c20 F (v71.1, v71.2, v69, (0 : Int))) fun (v75 : Bool) => bif v75 then (Option.bind (c29 F (v72.1, v72.2, v69, nilT Int)) fun (v76 : Bool) => some (v76)) else (some (false))) else (some (false))) fun (v73 : Bool) => some (v73)) else (Option.bind (c30 F z2) fun (v77 : Int) => Option.bind (Option.bind (c31 F z2) fun (v82 : List Int) => Option.bind (c29 F (v70.1, v70.2, (0 : Int), v82)) fun (v83 : Bool) => bif !v83 then (some (true)) else (Option.bind (c20 F (v71.1, v71.2, (0 : Int), v77)) fun (v84 : Bool) => bif !v84 then (some (true)) else (bif !decide (v72.2 = (0 : Int)) then (some (true)) else (Option.bind (c32 F (z2, v72.1)) fun (v85 : Int) => some (!decide (v85 = (0 : Int))))))) fun (v78 : Bool) => bif v78 then (some (false)) else (Option.bind (c33 F (z2, v72.1)) fun (v79 : Int × Int) => Option.bind (bif decide (v79.2 = (0 : Int)) then (Option.bind (c34 F (z2, v72.1)) fun (v81 : Int) => some (decide (v81 = v77))) else (some (false))) fun (v80 : Bool) => some (v80)))))
noncomputable def pc4 (F : Nat) : PC := { ats := [.agg [sR, sO, .int .i64]], rts := [.val (.bool)], code := c4 F }
theorem pc4_ok (F : Nat) : PCOk cx 4 (pc4 F) := qE (lx4 F) (.two .leaf (.two .leaf (.two .leaf (.two .leaf (.two (.two (.join [(.normal, ⟨[.slot 39 (.val (.bool))], []⟩)] ⟨[39, 38, 37, 36, 35, 34, 33, 32, 31, 30, 29, 28, 27, 26], [], []⟩ .leaf) .leaf) (.two .leaf (.two (.two .leaf (.join [(.normal, ⟨[.slot 4 (.val (.int .i64))], []⟩)] ⟨[4, 53, 52, 51, 50], [], []⟩ .leaf)) (.two .leaf (.two .leaf (.two .leaf (.two (.two .leaf (.two (.two (.join [(.normal, ⟨[.slot 2 (.val (.bool))], []⟩)] ⟨[2, 86, 85, 84, 83, 82, 81, 80, 79, 78, 77, 76, 75, 74, 73, 72, 71], [], []⟩ .leaf) .leaf) .leaf)) (.two .leaf (.two (.two (.join [(.normal, ⟨[.slot 111 (.val (.bool))], []⟩)] ⟨[111, 110, 109, 108, 107, 106, 105, 104, 103, 102, 101, 100, 99, 98, 97, 96, 95, 94, 93, 92, 91, 90, 89], [], []⟩ .leaf) .leaf) (.two .leaf (.two (.join [(.normal, ⟨[.slot 2 (.val (.bool))], []⟩)] ⟨[2, 126, 125, 124, 123, 122, 121, 120, 119, 118], [], []⟩ .leaf) .leaf))))))))))))))) f4 (by kernel_rfl) fun a => by kernel_rfl
end Go.Proofs.Tryz
end
section
set_option maxRecDepth 100000
set_option linter.unusedVariables false
set_option linter.unusedSimpArgs false
namespace Go.Proofs.Tryz
open Go Go.Sx
theorem Hol.win {p : Pln} (hp : PV p) {t : List Int} (h : Hol p (rulesS p) t) {i : Nat} (hi : i < p.1.length) : 0 ≤ fL t i ∧ fL t i ≤ 20000 := by
  have h1 := holW.1 (h.rul _ (List.mem_of_getElem? (win_rul hi)))
  have h2 := hp.at (a := (i : Int)) (by omega) (by omega)
  omega
theorem Hol.form {p : Pln} (hp : PV p) {t : List Int} (h : Hol p (rulesS p) t) : formE p t = 0 := by
  unfold formE
  rw [if_neg (by have := h.len; simpa using this), if_neg]
  simp only [List.any_eq_true, decide_eq_true_eq, not_exists, not_and]
  intro x hx
  obtain ⟨i, hi, rfl⟩ := List.mem_iff_getElem.1 hx
  have := h.win hp (i := i) (by rw [← h.len]; exact hi)
  simp only [fL] at this
  rw [getD_some (List.getElem?_eq_getElem hi)] at this
  omega
theorem Hol.brok {p : Pln} {t : List Int} (h : Hol p (rulesS p) t) : (brokS p t).2 = false := by
  unfold brokS
  have : ((rulesS p).findIdx? fun r => !holdS p t r) = none := by
    rw [List.findIdx?_eq_none_iff]
    intro r hr
    simp [h.rul r hr]
  rw [this]
theorem law4 (p : Pln) (hok : AEls.ok [.agg [.seq [.str, .int .i64, .seq [.str], .seq [.str], .seq [.str], .int .i64, .int .i64], .seq [.int .i64, .int .i64, .int .i64], .int .i64]] p) : ∃ F, c4 F p = some true := by
  obtain ⟨⟨hb1, -⟩, ⟨hb2, -⟩, -⟩ := hok
  refine ⟨roomP p [], ?_⟩
  have hF0 : roomP p [] = p.1.length + p.2.1.length + 0 + 4000 := rfl
  generalize roomP p [] = F at hF0
  have hF : 4000 ≤ F := by omega
  unfold c4
  obtain ⟨b, h16, hs⟩ := l16 (F := F) (by omega) (p := p)
  simp only [peta, l14 (F := F) (p := p) (by omega) (by omega) hb1 hb2, Option.bind_some, h16]
  cases b with
  | false => rfl
  | true =>
    have hp := hs rfl
    simp only [Bool.not_true, cond_false, Option.bind_some, l19 (show 400 ≤ F by omega) hp.sm]
    have e24 : ∀ b : Bool, (b = decide ((8 : Int) < (p.1.length : Int))) → firstNZ (planE p :: (if b = true then 22 else 0) :: nilT Int) = exE p := by
      intro b hb
      subst hb
      unfold exE
      by_cases h8 : 8 < p.1.length
      · have : (8 : Int) < (p.1.length : Int) := by omega
        simp [h8, this, nilT]
      · have : ¬ (8 : Int) < (p.1.length : Int) := by omega
        simp [h8, this, nilT]
    by_cases hskip : planE p = 0 ∧ 5 < p.1.length ∧ p.1.length ≤ 8
    · have a1 : (5 : Int) < (p.1.length : Int) := by omega
      have a2 : (p.1.length : Int) ≤ 8 := by omega
      simp [hskip.1, a1, a2]
    · have hv66 : ((bif decide (planE p = 0) then (bif decide ((5 : Int) < (p.1.length : Int)) then some (decide ((p.1.length : Int) ≤ (8 : Int))) else some false) else some false) : Option Bool) = some false := by
        by_cases h0 : planE p = 0
        · by_cases h5 : (5 : Int) < (p.1.length : Int)
          · have : ¬ (p.1.length : Int) ≤ 8 := fun h => hskip ⟨h0, by omega, by omega⟩
            simp [h0, h5, this]
          · simp [h0, h5]
        · simp [h0]
      simp only [hv66, Option.bind_some, cond_false, l23, l24 (show (planE p :: (if decide ((8 : Int) < (p.1.length : Int)) = true then 22 else 0) :: nilT Int).length < F by simp [nilT]; omega) (by simp [nilT]), e24 _ rfl]
      obtain ⟨n26, y26⟩ := l26 hF hp
      obtain ⟨n28, y28⟩ := l28 hF hp
      by_cases he : exE p = 0
      · obtain ⟨h0, h8⟩ := exE_zero he
        have hv := PV.of hp h0
        have hn : p.1.length ≤ 6 := by
          apply Classical.byContradiction
          intro h
          exact hskip ⟨h0, by omega, h8⟩
        obtain ⟨b, h25, hb⟩ := l25 hF hv hn
        obtain ⟨t1, i1, e26, b26⟩ := y26 he
        obtain ⟨t2, i2, e28, b28⟩ := y28 he
        have i1b : i1 = b := by
          cases i1 with
          | true => exact (hb.2 ⟨_, (b26.yes rfl).1⟩).symm
          | false =>
            cases b with
            | false => rfl
            | true => obtain ⟨f, hf⟩ := hb.1 rfl; exact absurd hf ((b26.no rfl).2 f)
        have i2b : i2 = b := by
          cases i2 with
          | true => exact (hb.2 ⟨_, (b28.yes rfl).1⟩).symm
          | false =>
            cases b with
            | false => rfl
            | true => obtain ⟨f, hf⟩ := hb.1 rfl; exact absurd hf ((b28.no rfl).2 f)
        subst i1b
        subst i2b
        cases i2 with
        | false =>
          have e27 := l27 hF hp e28 (fun h => by simp at h)
          obtain ⟨rfl, -⟩ := b26.no rfl
          obtain ⟨rfl, -⟩ := b28.no rfl
          simp only [he, decide_true, cond_true, h25, Option.bind_some, l23, e26, e27, e28, Bool.not_false, Bool.false_eq_true, if_false, if_true]
          simp [m24_err, m20_err, nilT]
        | true =>
          obtain ⟨a1, a2⟩ := b26.yes rfl
          obtain ⟨c1, c2⟩ := b28.yes rfl
          have e27 := l27 hF hp e28 (fun _ => ⟨hv, c1.tok⟩)
          have hex : ∃ f, Hol p (rulesS p) f := ⟨_, a1⟩
          obtain ⟨m, h30, ⟨t3, d1, d2⟩, d3⟩ := l30 hF hv hn hex
          obtain ⟨t4, h31, g1, g2⟩ := l31 hF hv hn hex
          have ht : t1 = t4 := by
            have k1 := g2 t1 a1
            have k2 := a2 t4 g1
            refine lexI_eq ?_
            have := lexI_neg t1 t4
            omega
          have hm : endS p t2 = m := by
            have k1 := d3 t2 c1
            have k2 := c2 t3 d1
            unfold endC at k2
            omega
          subst ht
          have hl1 : t1.length < F := by rw [a1.len]; omega
          have hl2 : t1.length ≤ 100000 := by rw [a1.len]; omega
          simp only [he, decide_true, cond_true, h25, Option.bind_some, l23, e26, e27, e28, Bool.not_true, Bool.false_eq_true, if_false, if_true, cond_false, h30, h31, m24_ok hl1 hl2, hm, m20_ok, l32 (show 400 ≤ F by omega) (show p.1.length ≤ 26 by omega) (show t2.length ≤ 300 by rw [c1.len]; omega), c1.form hv, l33 (show 3000 ≤ F by omega) hv c1.tok, c1.brok, l34 (show 400 ≤ F by omega) hv c1.tok]
      · have e26 := n26 he
        have e28 := n28 he
        have e27 := l27 hF hp e28 (fun h => absurd h he)
        simp only [he, decide_false, cond_false, Option.bind_some, e26, e27, e28, Bool.not_false, cond_true, if_false]
        simp [m24_err he, m20_err he, nilT]
end Go.Proofs.Tryz
end

/- Plain law of SeedOrderless: how many advance; somebody is faster. -/
import Derived.Test.YtdghdcclhnoigaaGreatDoorXE07
set_option maxRecDepth 100000
set_option linter.unusedVariables false
set_option linter.unusedSimpArgs false
namespace Go.Proofs.Tryz
open Go Go.Sx
theorem max_ex : ∀ (l : List Int), l ≠ [] → ∃ M ∈ l, ∀ v ∈ l, v ≤ M
  | [], h => absurd rfl h
  | [x], _ => ⟨x, by simp, by simp⟩
  | x :: y :: l, _ => by
    obtain ⟨M, hM, h⟩ := max_ex (y :: l) (by simp)
    by_cases hx : x ≤ M
    · refine ⟨M, List.mem_cons_of_mem _ hM, fun v hv => ?_⟩
      rcases List.mem_cons.1 hv with rfl | hv
      · exact hx
      · exact h v hv
    · refine ⟨x, List.mem_cons_self, fun v hv => ?_⟩
      rcases List.mem_cons.1 hv with rfl | hv
      · omega
      · have := h v hv; omega
theorem good_cnt (k : Nat) : ∀ (n : Nat) (vs : List Int), vs.length = n → min k n ≤ vs.countP (fun v => decide (vs.countP (fun w => decide (w < v)) < k))
  | 0, vs, h => by simp
  | n + 1, vs, h => by
    obtain ⟨M, hM, hmax⟩ := max_ex vs (by intro e; subst e; simp at h)
    have hp := List.perm_cons_erase hM
    have hl : (vs.erase M).length = n := by rw [List.length_erase_of_mem hM]; omega
    have ih := good_cnt k n (vs.erase M) hl
    have hc : ∀ v ∈ vs, vs.countP (fun w => decide (w < v)) = (vs.erase M).countP (fun w => decide (w < v)) := by
      intro v hv
      have := hmax v hv
      rw [hp.countP_eq, List.countP_cons, if_neg (by simp; omega)]
      rfl
    by_cases hk : k ≤ n
    · have e : min k (n + 1) = min k n := by omega
      rw [e]
      refine Nat.le_trans ih (Nat.le_trans ?_ (List.erase_sublist (a := M) (l := vs)).countP_le)
      refine List.countP_mono_left fun v hv hg => ?_
      rw [hc v (List.mem_of_mem_erase hv)]
      exact hg
    · have : vs.countP (fun v => decide (vs.countP (fun w => decide (w < v)) < k)) = vs.length := by
        refine List.countP_eq_length.2 fun v hv => ?_
        rw [hc v hv]
        have := List.countP_le_length (p := fun w => decide (w < v)) (l := vs.erase M)
        exact decide_eq_true (by omega)
      omega
def valR (r : Run) : Int := r.2.2.1
def valsR (x : List Run) : List Int := (x.filter tB).map valR
theorem faster_cnt (x : List Run) (r : Run) : x.countP (fasterB r) = (valsR x).countP (fun w => decide (w < valR r)) := by
  unfold valsR
  rw [List.countP_map, List.countP_filter]
  refine congrFun (congrArg _ ?_) x
  funext y
  simp only [fasterB, tB, valR, Function.comp]
  exact Bool.and_comm _ _
theorem valsR_len (x : List Run) : (valsR x).length = x.countP tB := by
  unfold valsR
  rw [List.length_map, List.countP_eq_length_filter]
theorem in_cnt {x : List Run} {place : Int} (h0 : 0 ≤ place) : min place.toNat (x.countP tB) ≤ (x.filter (in1 place x)).length := by
  have := good_cnt place.toNat _ (valsR x) (valsR_len x)
  refine Nat.le_trans this ?_
  rw [← List.countP_eq_length_filter]
  have e : (valsR x).countP (fun v => decide ((valsR x).countP (fun w => decide (w < v)) < place.toNat)) = x.countP (in1 place x) := by
    conv => lhs; unfold valsR
    rw [List.countP_map, List.countP_filter]
    refine congrFun (congrArg _ ?_) x
    funext r
    have hf := faster_cnt x r
    simp only [Function.comp]
    change (decide ((valsR x).countP (fun w => decide (w < valR r)) < place.toNat) && tB r) = _
    rw [← hf]
    unfold in1
    rw [plc_eq]
    cases ht : tB r with
    | false => simp
    | true =>
      simp only [Bool.and_true, if_true, decide_eq_decide]
      omega
  exact Nat.le_of_eq e
theorem in_re_cnt (place : Int) (x : List Run) : ∀ (y : List Run), (y.filter (in1 place x)).length + (y.filter (re1 place x)).length = y.countP tB
  | [] => rfl
  | r :: y => by
    have ih := in_re_cnt place x y
    rw [List.filter_cons, List.filter_cons, List.countP_cons]
    cases ht : tB r with
    | false =>
      have h0 : ¬ 1 ≤ plc x r := fun h => by rw [plc_pos h] at ht; cases ht
      have e1 : in1 place x r = false := by simp [in1, h0]
      have e2 : re1 place x r = false := by simp [re1, h0]
      simp only [e1, e2, Bool.false_eq_true, if_false]
      exact ih
    | true =>
      have h1 := plc_time (x := x) ht
      by_cases h2 : plc x r ≤ place
      · have e1 : in1 place x r = true := decide_eq_true ⟨h1, h2⟩
        have e2 : re1 place x r = false := decide_eq_false fun h => h.2 h2
        simp only [e1, e2, Bool.false_eq_true, if_false, if_true, List.length_cons]
        omega
      · have e1 : in1 place x r = false := decide_eq_false fun h => h2 h.2
        have e2 : re1 place x r = true := decide_eq_true ⟨h1, h2⟩
        simp only [e1, e2, Bool.false_eq_true, if_false, if_true, List.length_cons]
        omega
def sumMin (place : Nat) : List (List Run) → Nat
  | [] => 0
  | x :: l => min place (x.countP tB) + sumMin place l
def sumT : List (List Run) → Nat
  | [] => 0
  | x :: l => x.countP tB + sumT l
theorem inL_cnt {place : Int} (h0 : 0 ≤ place) : ∀ (l : List (List Run)), sumMin place.toNat l ≤ (inL place l).length
  | [] => Nat.le_refl _
  | x :: l => by
    have h1 := in_cnt (x := x) h0
    have h2 := inL_cnt h0 l
    simp only [sumMin, inL, List.flatMap_cons, List.length_append, List.length_map] at h2 ⊢
    omega
theorem all_cnt (place : Int) : ∀ (l : List (List Run)), (inL place l).length + (reL place l).length = sumT l
  | [] => rfl
  | x :: l => by
    have h1 := in_re_cnt place x x
    have h2 := all_cnt place l
    simp only [sumT, inL, reL, List.flatMap_cons, List.length_append, List.length_map] at h2 ⊢
    omega
theorem time_cnt {x : List Run} (h : ∀ r ∈ x, tB r = true) {time : Int} (h0 : 0 ≤ time) : min time.toNat x.length ≤ (x.filter fun r => decide (plc x r ≤ time)).length := by
  have h1 := in_cnt (x := x) h0
  have h2 : x.countP tB = x.length := List.countP_eq_length.2 h
  have h3 : x.filter (in1 time x) = x.filter fun r => decide (plc x r ≤ time) := by
    refine List.filter_congr fun r hr => ?_
    have := plc_time (x := x) (h r hr)
    unfold in1
    simp [this]
  rw [h2, h3] at h1
  exact h1
theorem adv_cnt {l : List (List Run)} {place time : Int} (h0 : 0 ≤ place) (h1 : 0 ≤ time) : min (time.toNat + sumMin place.toNat l) (sumT l) ≤ (advS l place time).1.length + (advS l place time).2.length := by
  rw [advS_eq]
  have a := inL_cnt h0 l
  have b := all_cnt place l
  have c := time_cnt (x := reL place l) (fun r hr => by
    obtain ⟨x, _, _, hp, _⟩ := mem_reL.1 hr
    exact plc_pos hp) h1
  simp only [List.length_map]
  omega
theorem faster_adv {l : List (List Run)} (h : NamesOk l) {x : List Run} {r f : Run} (hx : x ∈ l) (hr : r ∈ x) (ht : tB r = true) (hf1 : f.1 = r.1) (hft : tB f = true) (hv : f.2.2.1 ≤ r.2.2.1) {place time : Int}
    (hadv : r.1 ∈ (advS l place time).1 ∨ r.1 ∈ (advS l place time).2) : f.1 ∈ (advS (l.map (setR f)) place time).1 ∨ f.1 ∈ (advS (l.map (setR f)) place time).2 := by
  have hself : isR f r = true := by rw [isR, strEq_true]; exact hf1.symm
  have hs : ∀ z ∈ l, ∀ y ∈ z, isR f y = true → y = r := by
    intro z hz y hy e
    rw [isR, strEq_true] at e
    exact h.inj hz hx hy hr (e.trans hf1)
  have hff : fasterB f f = false := by simp [fasterB]
  have hA : ∀ z ∈ l, (setR f z).countP (fasterB f) ≤ z.countP (fasterB r) := by
    intro z hz
    unfold setR
    rw [List.countP_map]
    refine List.countP_mono_left fun y hy hp => ?_
    simp only [Function.comp] at hp
    by_cases e : isR f y = true
    · rw [if_pos e, hff] at hp; cases hp
    · rw [if_neg e] at hp
      simp only [fasterB, Bool.and_eq_true, decide_eq_true_eq] at hp ⊢
      exact ⟨hp.1, by omega⟩
  have hB : ∀ z ∈ l, ∀ y, y.2.2.1 < f.2.2.1 → (setR f z).countP (fasterB y) = z.countP (fasterB y) := by
    intro z hz y hy
    unfold setR
    rw [List.countP_map]
    refine List.countP_congr fun w hw => ?_
    simp only [Function.comp]
    by_cases e : isR f w = true
    · have ew := hs z hz w hw e
      rw [if_pos e, ew]
      simp only [fasterB, Bool.and_eq_true, decide_eq_true_eq]
      omega
    · rw [if_neg e]
  have hmem : ∀ z ∈ l, r ∈ z → f ∈ setR f z := fun z hz hrz => by
    unfold setR
    exact List.mem_map.2 ⟨r, hrz, by rw [if_pos hself]⟩
  have hplc : ∀ z ∈ l, plc (setR f z) f ≤ plc z r := by
    intro z hz
    have := hA z hz
    rw [plc_eq, plc_eq, if_pos hft, if_pos ht]
    omega
  have hmapm : ∀ z ∈ l, setR f z ∈ l.map (setR f) := fun z hz => List.mem_map_of_mem hz
  rw [advS_eq] at hadv ⊢
  simp only at hadv ⊢
  rcases hadv with hadv | hadv
  · left
    obtain ⟨z, hz, r', hr', e, hp⟩ := mem_inL.1 hadv
    have er := h.inj hz hx hr' hr e
    subst er
    exact mem_inL.2 ⟨setR f z, hmapm z hz, f, hmem z hz hr', rfl, plc_time hft, Int.le_trans (hplc z hz) hp.2⟩
  · simp only [List.mem_map (f := fun r : Run => r.1), List.mem_filter, decide_eq_true_eq] at hadv
    obtain ⟨r', ⟨hr', hp⟩, e⟩ := hadv
    obtain ⟨z, hz, hrz, hq⟩ := mem_reL.1 hr'
    have er := h.inj hz hx hrz hr e
    subst er
    by_cases hin : plc (setR f z) f ≤ place
    · left
      exact mem_inL.2 ⟨setR f z, hmapm z hz, f, hmem z hz hrz, rfl, plc_time hft, hin⟩
    · right
      refine List.mem_map.2 ⟨f, List.mem_filter.2 ⟨mem_reL.2 ⟨setR f z, hmapm z hz, hmem z hz hrz, plc_time hft, hin⟩, ?_⟩, rfl⟩
      have hC : ∀ (m : List (List Run)), (∀ z ∈ m, z ∈ l) → (reL place (m.map (setR f))).countP (fasterB f) ≤ (reL place m).countP (fasterB r') := by
        intro m
        induction m with
        | nil => intro _; exact Nat.le_refl _
        | cons z m ih =>
          intro hm
          have h1 := ih fun z hz => hm z (List.mem_cons_of_mem _ hz)
          have hz := hm z List.mem_cons_self
          have h2 : ((setR f z).filter (re1 place (setR f z))).countP (fasterB f) ≤ (z.filter (re1 place z)).countP (fasterB r') := by
            rw [List.countP_filter, List.countP_filter]
            conv => lhs; rw [show setR f z = z.map (fun y => if isR f y = true then f else y) from rfl, List.countP_map]
            refine List.countP_mono_left fun y hy hp => ?_
            simp only [Function.comp] at hp
            by_cases e : isR f y = true
            · rw [if_pos e, hff] at hp; cases hp
            · rw [if_neg e] at hp
              rw [Bool.and_eq_true] at hp ⊢
              have h3 := hp.1
              simp only [fasterB, Bool.and_eq_true, decide_eq_true_eq] at h3
              refine ⟨by simp only [fasterB, Bool.and_eq_true, decide_eq_true_eq]; exact ⟨h3.1, by omega⟩, ?_⟩
              have h4 := hB z hz y h3.2
              have h5 : plc (setR f z) y = plc z y := by rw [plc_eq, plc_eq, h4]
              have h6 := hp.2
              change re1 place (setR f z) y = true at h6
              unfold re1 at h6 ⊢
              rw [h5] at h6
              exact h6
          simp only [reL, List.map_cons, List.flatMap_cons, List.countP_append] at h1 ⊢
          omega
      have h7 := hC l fun z hz => hz
      refine decide_eq_true ?_
      rw [plc_eq, if_pos ht] at hp
      rw [plc_eq, if_pos hft]
      omega
theorem chX_eq {b a : List ByteArray} : ∀ (x : List Run) (o : List ByteArray), x.foldl (chB b a) o = o ++ (x.filter fun y => seenB y.1 b != seenB y.1 a).map (·.1)
  | [], o => by simp
  | y :: x, o => by
    rw [List.foldl_cons, chX_eq x]
    unfold chB
    by_cases h : (seenB y.1 b != seenB y.1 a) = true
    · simp [h]
    · simp [h]
theorem chL_mem {b a : List ByteArray} {n : ByteArray} : ∀ (l : List (List Run)) (o : List ByteArray), n ∈ l.foldl (chX b a) o → n ∈ o ∨ (seenB n b != seenB n a) = true
  | [], o, h => .inl h
  | x :: l, o, h => by
    rw [List.foldl_cons] at h
    rcases chL_mem l _ h with h | h
    · unfold chX at h
      rw [chX_eq] at h
      rcases List.mem_append.1 h with h | h
      · exact .inl h
      · obtain ⟨y, hy, e⟩ := List.mem_map.1 h
        have := (List.mem_filter.1 hy).2
        rw [e] at this
        exact .inr this
    · exact .inr h
theorem faster_ch {l : List (List Run)} (h : NamesOk l) {x : List Run} {r f : Run} (hx : x ∈ l) (hr : r ∈ x) (ht : tB r = true) (hf1 : f.1 = r.1) (hft : tB f = true) (hv : f.2.2.1 ≤ r.2.2.1) {place time : Int}
    (hadv : seenB r.1 (advS l place time).1 = true ∨ seenB r.1 (advS l place time).2 = true) : seenB r.1 (chS l (l.map (setR f)) place time) = false := by
  rw [seenB_iff, seenB_iff] at hadv
  have h2 := faster_adv h hx hr ht hf1 hft hv hadv
  rw [hf1] at h2
  have b1 : seenB r.1 (joinS (advS l place time)) = true := seenB_iff.2 (List.mem_append.2 hadv)
  have b2 : seenB r.1 (joinS (advS (l.map (setR f)) place time)) = true := seenB_iff.2 (List.mem_append.2 h2)
  rw [← Bool.not_eq_true, seenB_iff]
  intro hm
  unfold chS at hm
  rcases chL_mem l [] hm with h3 | h3
  · cases h3
  · rw [b1, b2] at h3
    cases h3
end Go.Proofs.Tryz

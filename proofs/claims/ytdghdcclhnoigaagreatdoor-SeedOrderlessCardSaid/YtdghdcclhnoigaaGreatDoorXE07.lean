/- Plain law: a runner has another mark; lists joined. Plain law: a runner has another mark: the heats then. Plain law: who advances just before or just after a change, in the program. Plain law of SeedChanges. Plain law of SeedOrderless: who advances, as lists that are chosen. -/
import Derived.Test.YtdghdcclhnoigaaGreatDoorXE14
section
set_option maxRecDepth 100000
set_option linter.unusedVariables false
set_option linter.unusedSimpArgs false
namespace Go.Proofs.Tryz
open Go Go.Sx
theorem x93 {F : Nat} (hF : 4000 ≤ F) {l : List (List Run)} (hl : ShortR l) {place time : Int} : cx93_0 F (place, time, l) = some (advS l place time) := by
  unfold cx93_0
  refine bind_list l (fun (s : List ByteArray × List Run) i => (s.1, s.2, (i : Int))) (fun x s => .inl (advX place s x)) (fun s => s) (fun i s => s.1.length + s.2.length ≤ 162 * i) ([], []) (by have := hl.1; omega) rfl (by simp) ?_ ?_ ?_
  · intro i x s hi hx hs
    have hxl := (hl.2 x (List.mem_of_getElem? hx)).1
    refine ⟨?_, fun s' h => by cases h; have := advX_len (place := place) (x := x) (y := x) hs; unfold advX; omega⟩
    have hli := hl.1
    simp (disch := omega) only [cd_pos, gd_dec, Int.toNat_natCast, Nat.zero_add, getD_some hx, w64_in, l97 hF (show x.length ≤ 3000 by omega), Option.bind_some, decide_true, Bool.and_self, gd_true]
    refine bind_list x (fun (s : List ByteArray × List Run) k => (s.1, s.2, (k : Int))) (fun r s => .inl (advB place x s r)) (fun s => s) (fun k s => s.1.length + s.2.length ≤ 162 * i + k) s (by omega) rfl (by simpa using hs) ?_ ?_ ?_
    · intro k r s hk hr hs
      refine ⟨?_, fun s' h => by cases h; exact advB_len hs⟩
      have er : (r.1, r.2.1, r.2.2.1, r.2.2.2) = r := rfl
      have hpl := placesS_len x
      simp (disch := omega) only [cd_pos, gd_dec, Int.toNat_natCast, Nat.zero_add, getD_some hx, getD_some hr, placesS_get hr, w64_in, er, len_snoc]
      unfold advB
      by_cases h1 : 1 ≤ plc x r
      · have h0 : 0 < plc x r := by omega
        by_cases h2 : plc x r ≤ place
        · simp [h0, h1, h2, gd_true, nilT]
        · simp [h0, h1, h2, gd_true, nilT]
      · have h0 : ¬ 0 < plc x r := by omega
        simp [h0, h1, gd_true]
    · intro s hs
      have hpl := placesS_len x
      simp (disch := omega) only [cd_neg, gd_dec] <;> simp [gd_true]
    · rw [goL_fold (advB place x)]
      simp [gd_true, advX]
  · intro s hs
    simp (disch := omega) only [cd_neg]
    simp [gd_true]
  · rw [goL_fold (advX place)]
    rw [show l.foldl (advX place) ([], []) = advL place l from rfl]
    have hlen := advL_len (place := place) (s := ([], [])) (n := 0) (by simp) fun x hx => (hl.2 x hx).1
    have hli := hl.1
    change (advL place l).1.length + (advL place l).2.length ≤ _ at hlen
    unfold advS
    generalize (advL place l).2 = y at hlen
    generalize (advL place l).1 = o at hlen
    simp (disch := omega) only [decide_true, Bool.and_self, gd_true, Option.bind_some, x97 hF (show y.length ≤ 3000 by omega)]
    refine bind_list y (fun (o : List ByteArray) k => (o, (k : Int))) (fun r o => .inl (adv2B time y o r)) (fun o => o) (fun k o => o.length ≤ k) [] (by omega) rfl (by simp) ?_ ?_ ?_
    · intro k r o hk hr ho
      refine ⟨?_, fun s' h => by cases h; exact adv2B_len ho⟩
      have hpl := placesS_len y
      simp (disch := omega) only [cd_pos, gd_dec, Int.toNat_natCast, Nat.zero_add, getD_some hr, placesS_get hr, w64_in, len_snoc]
      unfold adv2B
      by_cases h1 : plc y r ≤ time
      · simp [h1, gd_true, nilT]
      · simp [h1, gd_true]
    · intro o ho
      have hpl := placesS_len y
      simp (disch := omega) only [cd_neg] <;> simp [gd_true]
    · rw [goL_fold (adv2B time y), take_all, take_all] <;> simp [gd_true, adv2]
theorem x94 {F : Nat} (hF : 4000 ≤ F) {o1 o2 : List ByteArray} (h : o1.length ≤ 3000) (h2 : o2.length ≤ 3000) : cx94_0 F (o1 :: o2 :: nilT (List ByteArray)) = some (o1 ++ o2) := by
  unfold cx94_0
  have hL : ∀ x ∈ o1 :: o2 :: nilT (List ByteArray), x.length ≤ 3000 := by
    intro x hx
    rcases List.mem_cons.1 hx with rfl | hx
    · exact h
    · rcases List.mem_cons.1 hx with rfl | hx
      · exact h2
      · cases hx
  have e0 : (o1 :: o2 :: nilT (List ByteArray)).length = 2 := rfl
  have hf : ∀ s : Int, (o1 :: o2 :: nilT (List ByteArray)).foldl (fun s x => s + (x.length : Int)) s = s + o1.length + o2.length := fun s => rfl
  have hg : (o1 :: o2 :: nilT (List ByteArray)).foldl (fun s x => s ++ x) [] = o1 ++ o2 := rfl
  generalize o1 :: o2 :: nilT (List ByteArray) = L at hL e0 hf hg
  refine bind_list L (fun (s : Int) i => (s, (i : Int))) (fun x s => .inl (s + (x.length : Int))) (fun s => s) (fun i s => 0 ≤ s ∧ s ≤ 3000 * i) 0 (by omega) rfl (by omega) ?_ ?_ ?_
  · intro i x s hi hx hs
    have hxl := hL x (List.mem_of_getElem? hx)
    refine ⟨?_, fun s' h => by cases h; omega⟩
    simp (disch := omega) only [cd_pos, cd_neg, gd_dec, Int.toNat_natCast, Nat.zero_add, getD_some hx, w64_in]
    rfl
  · intro s hs
    simp (disch := omega) only [cd_neg]
  · rw [goL_fold (fun (s : Int) (x : List ByteArray) => s + (x.length : Int)), hf]
    have w0 : w64 (((0 : Nat) : Int) - ((0 : Nat) : Int)) = 0 := rfl
    rw [w0, Int.sub_zero, w64_in (by omega) (by omega), cd_neg (by omega)]
    have key : ∀ z : List ByteArray, z = [] → Option.bind (loopO (σ := List ByteArray × Int) (β := List ByteArray) (fun (v38 : List ByteArray × Int) => bif decide (v38.2 < (↑(List.length L) : Int)) then (gd (decide ((0 : Int) ≤ v38.2)) (gd (decide (v38.2 < (↑(List.length L) : Int))) (gd (decide ((0 : Nat) + Int.toNat v38.2 < List.length L)) (gd (decide (List.length v38.1 = List.length v38.1)) (gd (decide (List.length (v38.1 ++ List.getD L ((0 : Nat) + Int.toNat v38.2) (nilT ByteArray)) * (16 : Nat) ≤ (140737488355328 : Nat))) (gd (decide (List.length (v38.1 ++ List.getD L ((0 : Nat) + Int.toNat v38.2) (nilT ByteArray)) ≤ (9223372036854775807 : Nat))) (Option.bind (gd (decide (List.length (v38.1 ++ List.getD L ((0 : Nat) + Int.toNat v38.2) (nilT ByteArray)) = List.length (v38.1 ++ List.getD L ((0 : Nat) + Int.toNat v38.2) (nilT ByteArray))) && true && (true && true)) (some ((v38.1 ++ List.getD L ((0 : Nat) + Int.toNat v38.2) (nilT ByteArray), w64 (v38.2 + (1 : Int)))))) fun (v39 : List ByteArray × Int) => some (Sum.inl v39)))))))) else (Option.bind (gd (decide (List.length v38.1 = List.length v38.1) && true && true) (some v38.1)) fun (v40 : List ByteArray) => some (Sum.inr v40))) F ((z, (0 : Int)))) (fun (v37 : List ByteArray) => gd (true && decide ((0 : Nat) + List.length v37 ≤ List.length v37)) (some (List.take (List.length v37) (List.drop (0 : Nat) v37)))) = some (o1 ++ o2) := by
      intro z hz
      subst hz
      refine bind_list L (fun (s : List ByteArray) i => (s, (i : Int))) (fun x s => .inl (s ++ x)) (fun s => s) (fun i s => s.length ≤ 3000 * i) [] (by omega) rfl (by simp) ?_ ?_ ?_
      · intro i x s hi hx hs
        have hxl := hL x (List.mem_of_getElem? hx)
        refine ⟨?_, fun s' h => by cases h; simp; omega⟩
        simp (disch := omega) only [cd_pos, gd_dec, Int.toNat_natCast, Nat.zero_add, getD_some hx, w64_in, List.length_append]
        simp [gd_true]
      · intro s hs
        simp (disch := omega) only [cd_neg]
        simp [gd_true]
      · rw [goL_fold (fun (s : List ByteArray) (x : List ByteArray) => s ++ x), hg, take_all, Bool.true_and, gd_dec (by omega)]
    by_cases hn : 0 < (0 : Int) + o1.length + o2.length
    · rw [cd_pos hn, gd_dec hn, gd_dec (by omega), gd_dec (by omega)]
      exact key _ rfl
    · rw [cd_neg hn]
      exact key _ rfl
end Go.Proofs.Tryz
end
section
set_option maxRecDepth 100000
set_option linter.unusedVariables false
set_option linter.unusedSimpArgs false
namespace Go.Proofs.Tryz
open Go Go.Sx
def isR (r y : Run) : Bool := strEq y.1 r.1
def setR (r : Run) (x : List Run) : List Run := x.map fun y => if isR r y = true then r else y
theorem setR_len (r : Run) (x : List Run) : (setR r x).length = x.length := by simp [setR]
theorem setR_id {r : Run} {x : List Run} (h : ∀ y ∈ x, isR r y = false) : setR r x = x := by
  unfold setR
  conv => rhs; rw [← List.map_id x]
  exact List.map_congr_left fun y hy => by simp [h y hy]
theorem setR_find {r : Run} : ∀ {x : List Run}, (x.map (·.1)).Nodup → match x.findIdx? (isR r) with
    | some i => i < x.length ∧ x.set i r = setR r x ∧ x.any (isR r) = true
    | none => x = setR r x ∧ x.any (isR r) = false
  | [], _ => ⟨rfl, rfl⟩
  | y :: x, hn => by
    rw [List.map_cons, List.nodup_cons] at hn
    have ih := setR_find (r := r) hn.2
    rw [List.findIdx?_cons]
    by_cases h : isR r y = true
    · have hx : setR r x = x := setR_id fun z hz => by
        cases e : isR r z with
        | false => rfl
        | true =>
          exfalso
          apply hn.1
          rw [strEq_true.1 h, ← strEq_true.1 e]
          exact List.mem_map_of_mem hz
      simp only [h, if_true]
      refine ⟨by simp, ?_, by simp [h]⟩
      change r :: x = (if isR r y = true then r else y) :: setR r x
      rw [if_pos h, hx]
    · simp only [h, Bool.false_eq_true, if_false]
      cases e : x.findIdx? (isR r) with
      | none =>
        rw [e] at ih
        refine ⟨?_, by simp [h, ih.2]⟩
        change y :: x = (if isR r y = true then r else y) :: setR r x
        rw [if_neg h, ← ih.1]
      | some i =>
        rw [e] at ih
        refine ⟨by simp; exact ih.1, ?_, by simp [ih.2.2]⟩
        change y :: x.set i r = (if isR r y = true then r else y) :: setR r x
        rw [if_neg h, ih.2.1]
theorem runI_names : ∀ {x : List Run} {s s' : List ByteArray}, goL runI .inl x s = .inl s' → (x.map (·.1)).Nodup ∧ ∀ y ∈ x, seenB y.1 s = false
  | [], s, s', h => ⟨List.nodup_nil, fun y hy => (by cases hy)⟩
  | r :: x, s, s', h => by
    rw [goL_cons] at h
    have hr : runI r s = .inl (s ++ [r.1]) ∧ seenB r.1 s = false := by
      by_cases h1 : nameB r.1 = false
      · simp [runI, h1] at h
      · by_cases h2 : seenB r.1 s = true
        · simp [runI, h1, h2] at h
        · by_cases h3 : runE r = 0
          · exact ⟨by simp [runI, h1, h2, h3], by simpa using h2⟩
          · simp [runI, h1, h2, h3] at h
    rw [hr.1] at h
    obtain ⟨h1, h2⟩ := runI_names h
    have hsplit : ∀ y ∈ x, seenB y.1 s = false ∧ strEq r.1 y.1 = false := fun y hy => by
      have := h2 y hy
      unfold seenB at this ⊢
      rw [List.any_append, Bool.or_eq_false_iff] at this
      exact ⟨this.1, by simpa using this.2⟩
    refine ⟨?_, fun y hy => ?_⟩
    · rw [List.map_cons, List.nodup_cons]
      refine ⟨fun hm => ?_, h1⟩
      obtain ⟨y, hy, e⟩ := List.mem_map.1 hm
      have := (hsplit y hy).2
      rw [← e, strEq_self] at this
      cases this
    · rcases List.mem_cons.1 hy with rfl | hy
      · exact hr.2
      · exact (hsplit y hy).1
theorem runI_err : ∀ {x : List Run} {s : List ByteArray} {e : Int}, goL runI .inl x s = .inr e → e ≠ 0
  | [], s, e, h => by cases h
  | r :: x, s, e, h => by
    rw [goL_cons] at h
    by_cases h1 : nameB r.1 = false
    · simp [runI, h1] at h; omega
    · by_cases h2 : seenB r.1 s = true
      · simp [runI, h1, h2] at h; omega
      · by_cases h3 : runE r = 0
        · simp [runI, h1, h2, h3] at h
          exact runI_err h
        · simp [runI, h1, h2, h3] at h
          rw [← h]; exact h3
theorem runH_names : ∀ {l : List (List Run)} {s : List ByteArray}, goL runH (fun _ => (0 : Int)) l s = 0 → ∀ x ∈ l, (x.map (·.1)).Nodup
  | [], s, h, x, hx => by cases hx
  | y :: l, s, h, x, hx => by
    rw [goL_cons] at h
    unfold runH at h
    by_cases h1 : 160 < y.length
    · simp [h1] at h
    · rw [if_neg h1] at h
      cases e : goL runI .inl y s with
      | inr b => rw [e] at h; exact absurd h (runI_err e)
      | inl s' =>
        rw [e] at h
        rcases List.mem_cons.1 hx with rfl | hx
        · exact (runI_names e).1
        · exact runH_names h x hx
theorem runC_names {l : List (List Run)} (h : runC l = 0) : ∀ x ∈ l, (x.map (·.1)).Nodup := by
  unfold runC at h
  split at h
  · cases h
  · exact runH_names h
theorem x90 {F : Nat} (hF : 400 ≤ F) {x : List Run} (hx : x.length ≤ 300) {r : Run} : cx90_1 F (x, r) = some (match x.findIdx? (isR r) with | some i => (i : Int) | none => -1) := by
  unfold cx90_1
  refine bind_find x (isR r) (fun i => .inl (i : Int)) (.inr ()) (by omega) ?_ ?_ ?_
  · intro i y hi hy
    simp (disch := omega) only [cd_pos, gd_dec, Int.toNat_natCast, Nat.zero_add, getD_some hy, w64_in]
    change (bif isR r y then _ else _) = _
    cases isR r y <;> rfl
  · simp (disch := omega) only [cd_neg]
  · cases x.findIdx? (isR r) <;> rfl
theorem ShortR.set {l : List (List Run)} (h : ShortR l) {r : Run} (hr : r.1.size ≤ 40 ∧ r.2.1.size ≤ 20 ∧ r.2.2.2.size ≤ 20) : ShortR (l.map (setR r)) := by
  refine ⟨by simpa using h.1, fun x hx => ?_⟩
  obtain ⟨y, hy, rfl⟩ := List.mem_map.1 hx
  have := h.2 y hy
  rw [setR_len]
  refine ⟨this.1, this.2.1, fun z hz => ?_⟩
  obtain ⟨w, hw, rfl⟩ := List.mem_map.1 hz
  split
  · exact hr
  · exact this.2.2 w hw
def hasR (r : Run) (l : List (List Run)) : Bool := l.any fun x => x.any (isR r)
end Go.Proofs.Tryz
end
section
set_option maxRecDepth 100000
set_option linter.unusedVariables false
set_option linter.unusedSimpArgs false
namespace Go.Proofs.Tryz
open Go Go.Sx
def chB (b a : List ByteArray) (o : List ByteArray) (y : Run) : List ByteArray := if (seenB y.1 b != seenB y.1 a) = true then o ++ [y.1] else o
def chX (b a : List ByteArray) (o : List ByteArray) (x : List Run) : List ByteArray := x.foldl (chB b a) o
def joinS (p : List ByteArray × List ByteArray) : List ByteArray := p.1 ++ p.2
def chS (l y : List (List Run)) (place time : Int) : List ByteArray := l.foldl (chX (joinS (advS l place time)) (joinS (advS y place time))) []
theorem chB_len {b a o : List ByteArray} {y : Run} {n : Nat} (h : o.length ≤ n) : (chB b a o y).length ≤ n + 1 := by
  unfold chB
  split
  · simp; omega
  · omega
theorem chX_len {b a : List ByteArray} : ∀ {x : List Run} {o : List ByteArray} {n : Nat} (h : o.length ≤ n), (x.foldl (chB b a) o).length ≤ n + x.length := by
  intro x
  induction x with
  | nil => intro o n h; simpa using h
  | cons r x ih =>
    intro o n h
    have := ih (chB_len (b := b) (a := a) (y := r) h)
    simp only [List.foldl_cons, List.length_cons]
    omega
theorem chL_len {b a : List ByteArray} : ∀ {l : List (List Run)} {o : List ByteArray} {n : Nat} (h : o.length ≤ n) (hl : ∀ x ∈ l, x.length ≤ 162), (l.foldl (chX b a) o).length ≤ n + 162 * l.length := by
  intro l
  induction l with
  | nil => intro o n h _; simpa using h
  | cons x l ih =>
    intro o n h hl
    have h1 := chX_len (b := b) (a := a) (x := x) h
    have := ih (o := chX b a o x) h1 fun y hy => hl y (by simp [hy])
    have := hl x (by simp)
    simp only [List.foldl_cons, List.length_cons]
    omega
theorem setL_fold {r : Run} : ∀ (l : List (List Run)) (s : List (List Run) × Bool), l.foldl (fun s x => (s.1 ++ [setR r x], s.2 || x.any (isR r))) s = (s.1 ++ l.map (setR r), s.2 || hasR r l)
  | [], s => by simp [hasR]
  | x :: l, s => by
    rw [List.foldl_cons, setL_fold l]
    simp [hasR, Bool.or_assoc]
theorem seen_fold : ∀ (names : List ByteArray) {s : List ByteArray} {m : List (ByteArray × Bool)}, SeenS s m → SeenS (s ++ names) (names.foldl (fun m n => mput strEq n true m) m)
  | [], s, m, h => by simpa using h
  | n :: names, s, m, h => by
    rw [List.foldl_cons, show s ++ n :: names = (s ++ [n]) ++ names by simp]
    exact seen_fold names (h.put n)
theorem firstNZ_one {a b c : Int} : firstNZ [a, b, c] = if a ≠ 0 then a else if b ≠ 0 then b else c := by
  by_cases ha : a = 0 <;> by_cases hb : b = 0 <;> by_cases hc : c = 0 <;> simp [firstNZ, ha, hb, hc]
def roundE (l : List (List Run)) (place time : Int) : Int := firstNZ [runC l, if place < 0 ∨ 160 < place then 3 else 0, if time < 0 ∨ 160 < time then 3 else 0]
theorem roundE_zero {l : List (List Run)} {place time : Int} (h : roundE l place time = 0) : runC l = 0 := by
  unfold roundE at h
  rw [firstNZ_one] at h
  by_cases h0 : runC l = 0
  · exact h0
  · rw [if_pos h0] at h; exact h
def chgE (l : List (List Run)) (place time : Int) (r : Run) : Int := firstNZ [roundE l place time, if nameB r.1 = false then 8 else 0, runE r]
theorem mapLoop {F : Nat} {names : List ByteArray} (hF : names.length < F) (hn : names.length ≤ 100000) {γ : Type} {k : List (ByteArray × Bool) → Option γ} {r : Option γ} (hk : ∀ m, SeenS names m → k m = r) :
    Option.bind (loopO (σ := List (ByteArray × Bool) × Int) (β := List (ByteArray × Bool)) (fun (v97 : List (ByteArray × Bool) × Int) => bif decide (v97.2 < (↑(List.length names) : Int)) then (gd (decide ((0 : Int) ≤ v97.2)) (gd (decide (v97.2 < (↑(List.length names) : Int))) (gd (decide (Int.toNat v97.2 < List.length names)) (some (Sum.inl (mput strEq (List.getD names (Int.toNat v97.2) ByteArray.empty) true v97.1, w64 (v97.2 + (1 : Int)))))))) else (some (Sum.inr v97.1))) F ((nilT (ByteArray × Bool), (0 : Int)))) k = r := by
  refine bind_list names (fun (m : List (ByteArray × Bool)) i => (m, (i : Int))) (fun n m => .inl (mput strEq n true m)) (fun m => m) (fun _ _ => True) [] hF rfl trivial ?_ ?_ ?_
  · intro i n m hi hx _
    refine ⟨?_, fun _ _ => trivial⟩
    simp (disch := omega) only [cd_pos, gd_dec, Int.toNat_natCast, getD_some hx, w64_in]
    rfl
  · intro m _
    simp (disch := omega) only [cd_neg]
  · rw [goL_fold (fun (m : List (ByteArray × Bool)) n => mput strEq n true m)]
    exact hk _ (by have := seen_fold names (s := []) (m := []) (fun k => rfl); simpa using this)
theorem l48 {F : Nat} (hF : 10000 ≤ F) {l : List (List Run)} (hl : ShortR l) {place time : Int} {r : Run} (hr : r.1.size ≤ 40 ∧ r.2.1.size ≤ 20 ∧ r.2.2.2.size ≤ 20) :
    c48 F (l, place, time, r) = some (if chgE l place time r ≠ 0 then ([], chgE l place time r) else if hasR r l = false then ([], 10) else (chS l (l.map (setR r)) place time, 0)) := by
  unfold c48
  have er : (r.1, r.2.1, r.2.2.1, r.2.2.2) = r := rfl
  simp only [l87 (show 4000 ≤ F by omega) hl, l77 (show 400 ≤ F by omega) (show r.1.size ≤ 300 by omega), l76, Option.bind_some, er, l88 (show 400 ≤ F by omega)]
  have q : ∀ (a b c : Int), c75 F (a :: b :: c :: nilT Int) = some (firstNZ [a, b, c]) := by
    intro a b c
    rw [l75 (by simp [nilT]; omega) (by simp [nilT])]
    rfl
  have hname : (if (!nameB r.1) = true then (8 : Int) else 0) = if nameB r.1 = false then 8 else 0 := by cases nameB r.1 <;> rfl
  simp only [q, hname, Option.bind_some]
  change (bif !decide (chgE l place time r = 0) then _ else _) = _
  by_cases h0 : chgE l place time r = 0
  · have hC : runC l = 0 := by
      unfold chgE at h0
      rw [firstNZ_one] at h0
      by_cases h1 : roundE l place time = 0
      · exact roundE_zero h1
      · rw [if_pos h1] at h0; exact absurd h0 h1
    have hnd := runC_names hC
    have hli := hl.1
    simp only [h0, decide_true, Bool.not_true, cond_false, ne_eq, not_true_eq_false, if_false]
    refine bind_list l (fun (s : List (List Run) × Bool) i => (s.1, s.2, (i : Int))) (fun x s => .inl (s.1 ++ [setR r x], s.2 || x.any (isR r))) (fun s => s) (fun i s => s.1.length = i) ([], false) (by omega) rfl rfl ?_ ?_ ?_
    · intro i x s hi hx hs
      have hxm := List.mem_of_getElem? hx
      have hxl := (hl.2 x hxm).1
      refine ⟨?_, fun s' h => by cases h; simp [hs]⟩
      simp (disch := omega) only [cd_pos, gd_dec, Int.toNat_natCast, getD_some hx, w64_in, Option.bind_some, decide_true, Bool.and_self, gd_true, x90 (show 400 ≤ F by omega) (show x.length ≤ 300 by omega)]
      have hset := setR_find (r := r) (hnd x hxm)
      have hsl := setR_len r x
      cases hfi : x.findIdx? (isR r) with
      | none =>
        rw [hfi] at hset
        simp only [show ¬ (0 : Int) ≤ -1 by decide, decide_false, cond_false, Option.bind_some]
        simp [gd_true, nilT, hset.2, ← hset.1]
        rw [gd_dec (by omega), gd_dec (by omega)]
      | some k =>
        rw [hfi] at hset
        simp (disch := omega) only [cd_pos, gd_dec, Int.toNat_natCast, Nat.zero_add, Option.bind_some]
        simp [gd_true, nilT, hset.2.1, hset.2.2]
        rw [gd_dec (by omega), gd_dec (by omega), gd_dec (by omega), List.take_of_length_le (by omega)]
    · intro s hs
      simp (disch := omega) only [cd_neg]
      simp [gd_true]
    · rw [goL_fold (fun (s : List (List Run) × Bool) (x : List Run) => (s.1 ++ [setR r x], s.2 || x.any (isR r))), setL_fold]
      simp only [List.nil_append, Bool.false_or]
      cases hh : hasR r l with
      | false => simp [nilT]
      | true =>
        have hl' := hl.set hr
        have a1 := advS_len hl (place := place) (time := time)
        have a2 := advS_len hl' (place := place) (time := time)
        simp only [Bool.not_true, cond_false, Bool.true_eq_false, if_false, l93 (show 4000 ≤ F by omega) hl, Option.bind_some, x94 (show 4000 ≤ F by omega) a1.1 a1.2]
        refine mapLoop (by rw [List.length_append]; omega) (by rw [List.length_append]; omega) fun m1 hm1 => ?_
        simp only [decide_true, Bool.and_self, gd_true, Option.bind_some, x93 (show 4000 ≤ F by omega) hl', x94 (show 4000 ≤ F by omega) a2.1 a2.2]
        refine mapLoop (by rw [List.length_append]; omega) (by rw [List.length_append]; omega) fun m2 hm2 => ?_
        refine bind_list l (fun (o : List ByteArray) i => (o, (i : Int))) (fun x o => .inl (chX (joinS (advS l place time)) (joinS (advS (l.map (setR r)) place time)) o x)) (fun o => o) (fun i o => o.length ≤ 162 * i) [] (by omega) rfl (by simp) ?_ ?_ ?_
        · intro i x o hi hx ho
          have hxm := List.mem_of_getElem? hx
          have hxl := (hl.2 x hxm).1
          refine ⟨?_, fun s' h => by cases h; have := chX_len (b := joinS (advS l place time)) (a := joinS (advS (l.map (setR r)) place time)) (x := x) ho; unfold chX; omega⟩
          simp (disch := omega) only [cd_pos, gd_dec, Int.toNat_natCast, getD_some hx, w64_in, Option.bind_some, decide_true, Bool.and_self, gd_true]
          refine bind_list x (fun (o : List ByteArray) k => (o, (k : Int))) (fun y o => .inl (chB (joinS (advS l place time)) (joinS (advS (l.map (setR r)) place time)) o y)) (fun o => o) (fun k o => o.length ≤ 162 * i + k) o (by omega) rfl (by simpa using ho) ?_ ?_ ?_
          · intro k y o hk hy ho
            refine ⟨?_, fun s' h => by cases h; exact chB_len ho⟩
            simp (disch := omega) only [cd_pos, gd_dec, Int.toNat_natCast, getD_some hy, w64_in, len_snoc, hm1 y.1, hm2 y.1]
            unfold chB joinS
            cases seenB y.1 ((advS l place time).1 ++ (advS l place time).2) <;> cases seenB y.1 ((advS (l.map (setR r)) place time).1 ++ (advS (l.map (setR r)) place time).2) <;> simp [gd_true, nilT]
          · intro o ho
            simp (disch := omega) only [cd_neg] <;> simp [gd_true]
          · rw [goL_fold (chB _ _)]
            simp [gd_true, chX]
        · intro o ho
          simp (disch := omega) only [cd_neg] <;> simp [gd_true]
        · rw [goL_fold (chX _ _), take_all, Bool.and_true, gd_dec (by omega)]
          rfl
  · simp [h0, nilT]
    rfl
end Go.Proofs.Tryz
end
section
set_option maxRecDepth 100000
set_option linter.unusedVariables false
set_option linter.unusedSimpArgs false
namespace Go.Proofs.Tryz
open Go Go.Sx
theorem m62 {F : Nat} {l : List ByteArray} {x : ByteArray} (hF : l.length < F) (hl : l.length ≤ 100000) : c62 F (l, x) = some (seenB x l) := by
  unfold c62 seenB
  refine bind_list l (fun (_ : Unit) i => (i : Int)) (fun y _ => if strEq y x = true then .inr (.inl true) else .inl ()) (fun _ => .inr ()) (fun _ _ => True) () hF rfl trivial ?_ ?_ ?_
  · intro i y _ hi hy _
    refine ⟨?_, fun _ _ => trivial⟩
    simp (disch := omega) only [cd_pos, gd_dec, Int.toNat_natCast, getD_some hy, w64_in]
    cases strEq y x <;> simp
  · intro _ _
    simp (disch := omega) only [cd_neg]
  · rw [goL_any]
    cases l.any fun y => strEq y x <;> rfl
end Go.Proofs.Tryz
end
section
set_option maxRecDepth 100000
set_option linter.unusedVariables false
set_option linter.unusedSimpArgs false
namespace Go.Proofs.Tryz
open Go Go.Sx
def tB (r : Run) : Bool := strEq r.2.1 kT
theorem cnt_fold (r : Run) : ∀ (x : List Run) (n : Int), x.foldl (cntF r) n = n + (x.countP (fasterB r) : Int)
  | [], n => by simp
  | y :: x, n => by
    rw [List.foldl_cons, cnt_fold r x, List.countP_cons]
    unfold cntF
    by_cases h : fasterB r y = true
    · simp [h]; omega
    · simp [h]
theorem plc_eq (x : List Run) (r : Run) : plc x r = if tB r = true then 1 + (x.countP (fasterB r) : Int) else 0 := by
  unfold plc tB
  rw [cnt_fold]
def in1 (place : Int) (x : List Run) (r : Run) : Bool := decide (1 ≤ plc x r ∧ plc x r ≤ place)
def re1 (place : Int) (x : List Run) (r : Run) : Bool := decide (1 ≤ plc x r ∧ ¬ plc x r ≤ place)
theorem advX_eq {place : Int} {x : List Run} : ∀ (y : List Run) (s : List ByteArray × List Run), y.foldl (advB place x) s = (s.1 ++ (y.filter (in1 place x)).map (·.1), s.2 ++ y.filter (re1 place x))
  | [], s => by simp
  | r :: y, s => by
    rw [List.foldl_cons, advX_eq y]
    unfold advB in1 re1
    by_cases h1 : 1 ≤ plc x r
    · by_cases h2 : plc x r ≤ place
      · simp [h1, h2]
      · simp [h1, h2, Int.not_le.1 h2]
    · simp [h1]
def inL (place : Int) (l : List (List Run)) : List ByteArray := l.flatMap fun x => (x.filter (in1 place x)).map (·.1)
def reL (place : Int) (l : List (List Run)) : List Run := l.flatMap fun x => x.filter (re1 place x)
theorem advL_go {place : Int} : ∀ (l : List (List Run)) (s : List ByteArray × List Run), l.foldl (advX place) s = (s.1 ++ inL place l, s.2 ++ reL place l)
  | [], s => by simp [inL, reL]
  | x :: l, s => by
    rw [List.foldl_cons, advL_go l]
    simp only [advX, advX_eq, inL, reL, List.flatMap_cons, List.append_assoc]
theorem advL_eq (place : Int) (l : List (List Run)) : advL place l = (inL place l, reL place l) := by
  unfold advL
  rw [advL_go]
  simp
theorem adv2_go {time : Int} {x : List Run} : ∀ (y : List Run) (o : List ByteArray), y.foldl (adv2B time x) o = o ++ (y.filter fun r => decide (plc x r ≤ time)).map (·.1)
  | [], o => by simp
  | r :: y, o => by
    rw [List.foldl_cons, adv2_go y]
    unfold adv2B
    by_cases h : plc x r ≤ time <;> simp [h]
theorem adv2_eq (time : Int) (x : List Run) : adv2 time x = (x.filter fun r => decide (plc x r ≤ time)).map (·.1) := by
  unfold adv2
  rw [adv2_go]
  simp
theorem advS_eq (l : List (List Run)) (place time : Int) : advS l place time = (inL place l, ((reL place l).filter fun r => decide (plc (reL place l) r ≤ time)).map (·.1)) := by
  unfold advS
  rw [advL_eq, adv2_eq]
theorem seenB_iff {a : ByteArray} {s : List ByteArray} : seenB a s = true ↔ a ∈ s := by
  unfold seenB
  rw [List.any_eq_true]
  constructor
  · rintro ⟨y, hy, h⟩
    rw [strEq_true] at h
    exact h ▸ hy
  · intro h
    exact ⟨a, h, strEq_self a⟩
theorem seenB_perm {a : ByteArray} {s t : List ByteArray} (h : s.Perm t) : seenB a s = seenB a t := by
  rw [Bool.eq_iff_iff, seenB_iff, seenB_iff]
  exact h.mem_iff
theorem plc_perm {x y : List Run} (h : x.Perm y) (r : Run) : plc x r = plc y r := by
  rw [plc_eq, plc_eq, h.countP_eq]
def turn (l : List (List Run)) : List (List Run) := (l.map List.reverse).reverse
theorem flat_turn {α : Type} {l : List (List Run)} {f : List Run → List α} (h : ∀ x, (f x.reverse).Perm (f x)) : ((turn l).flatMap f).Perm (l.flatMap f) := by
  induction l with
  | nil => exact .refl _
  | cons x l ih =>
    have : turn (x :: l) = turn l ++ [x.reverse] := by simp [turn]
    rw [this, List.flatMap_append, List.flatMap_cons, List.flatMap_cons, List.flatMap_nil, List.append_nil]
    exact List.perm_append_comm.trans ((h x).append ih)
theorem inL_turn (place : Int) (l : List (List Run)) : (inL place (turn l)).Perm (inL place l) := by
  refine flat_turn fun x => ?_
  have : in1 place x.reverse = in1 place x := by
    funext r
    unfold in1
    rw [plc_perm (List.reverse_perm x)]
  rw [this]
  exact ((List.reverse_perm x).filter _).map _
theorem reL_turn (place : Int) (l : List (List Run)) : (reL place (turn l)).Perm (reL place l) := by
  refine flat_turn fun x => ?_
  have : re1 place x.reverse = re1 place x := by
    funext r
    unfold re1
    rw [plc_perm (List.reverse_perm x)]
  rw [this]
  exact (List.reverse_perm x).filter _
theorem advS_turn (l : List (List Run)) (place time : Int) : (advS (turn l) place time).1.Perm (advS l place time).1 ∧ (advS (turn l) place time).2.Perm (advS l place time).2 := by
  rw [advS_eq, advS_eq]
  refine ⟨inL_turn place l, ?_⟩
  have h := reL_turn place l
  have : (fun r => decide (plc (reL place (turn l)) r ≤ time)) = fun r => decide (plc (reL place l) r ≤ time) := by
    funext r
    rw [plc_perm h]
  simp only [this]
  exact (h.filter _).map _
theorem mem_inL {place : Int} {l : List (List Run)} {a : ByteArray} : a ∈ inL place l ↔ ∃ x ∈ l, ∃ r ∈ x, r.1 = a ∧ 1 ≤ plc x r ∧ plc x r ≤ place := by
  simp only [inL, List.mem_flatMap, List.mem_map, List.mem_filter, in1, decide_eq_true_eq]
  constructor
  · rintro ⟨x, hx, r, ⟨hr, h⟩, e⟩
    exact ⟨x, hx, r, hr, e, h⟩
  · rintro ⟨x, hx, r, hr, e, h⟩
    exact ⟨x, hx, r, ⟨hr, h⟩, e⟩
theorem mem_reL {place : Int} {l : List (List Run)} {r : Run} : r ∈ reL place l ↔ ∃ x ∈ l, r ∈ x ∧ 1 ≤ plc x r ∧ ¬ plc x r ≤ place := by
  simp only [reL, List.mem_flatMap, List.mem_filter, re1, decide_eq_true_eq]
theorem plc_pos {x : List Run} {r : Run} (h : 1 ≤ plc x r) : tB r = true := by
  rw [plc_eq] at h
  by_cases ht : tB r = true
  · exact ht
  · rw [if_neg ht] at h; omega
theorem plc_time {x : List Run} {r : Run} (h : tB r = true) : 1 ≤ plc x r := by
  rw [plc_eq, if_pos h]; omega
def NamesOk (l : List (List Run)) : Prop := (l.flatten.map (·.1)).Nodup
theorem nodup_map_inj {α β : Type} {f : α → β} : ∀ {l : List α}, (l.map f).Nodup → ∀ {a b : α}, a ∈ l → b ∈ l → f a = f b → a = b
  | [], _, a, b, ha, _, _ => by cases ha
  | x :: l, h, a, b, ha, hb, e => by
    rw [List.map_cons, List.nodup_cons] at h
    rcases List.mem_cons.1 ha with rfl | ha'
    · rcases List.mem_cons.1 hb with rfl | hb'
      · rfl
      · exact absurd (e ▸ List.mem_map_of_mem hb') h.1
    · rcases List.mem_cons.1 hb with rfl | hb'
      · exact absurd (e ▸ List.mem_map_of_mem ha') h.1
      · exact nodup_map_inj h.2 ha' hb' e
theorem NamesOk.inj {l : List (List Run)} (h : NamesOk l) {x y : List Run} {a b : Run} (hx : x ∈ l) (hy : y ∈ l) (ha : a ∈ x) (hb : b ∈ y) (e : a.1 = b.1) : a = b :=
  nodup_map_inj h (List.mem_flatten_of_mem hx ha) (List.mem_flatten_of_mem hy hb) e
theorem NamesOk.heat : ∀ {l : List (List Run)}, NamesOk l → ∀ {x y : List Run} {a : Run}, x ∈ l → y ∈ l → a ∈ x → a ∈ y → x = y
  | [], _, x, y, a, hx, _, _, _ => by cases hx
  | z :: l, h, x, y, a, hx, hy, ha, hb => by
    unfold NamesOk at h
    rw [List.flatten_cons, List.map_append, List.nodup_append] at h
    obtain ⟨h1, h2, h3⟩ := h
    rcases List.mem_cons.1 hx with rfl | hx'
    · rcases List.mem_cons.1 hy with rfl | hy'
      · rfl
      · exact absurd rfl (h3 _ (List.mem_map_of_mem ha) _ (List.mem_map_of_mem (List.mem_flatten_of_mem hy' hb)))
    · rcases List.mem_cons.1 hy with rfl | hy'
      · exact absurd rfl (h3 _ (List.mem_map_of_mem hb) _ (List.mem_map_of_mem (List.mem_flatten_of_mem hx' ha)))
      · exact NamesOk.heat h2 hx' hy' ha hb
theorem adv_dis {l : List (List Run)} (h : NamesOk l) {place time : Int} {a : ByteArray} (h1 : a ∈ (advS l place time).1) (h2 : a ∈ (advS l place time).2) : False := by
  rw [advS_eq] at h1 h2
  simp only [List.mem_map, List.mem_filter] at h2
  obtain ⟨x, hx, r, hr, e, hp⟩ := mem_inL.1 h1
  obtain ⟨r', ⟨hr', _⟩, e'⟩ := h2
  obtain ⟨y, hy, hry, hp'⟩ := mem_reL.1 hr'
  have er := h.inj hx hy hr hry (e.trans e'.symm)
  subst er
  have exy := h.heat hx hy hr hry
  subst exy
  exact hp'.2 hp.2
theorem adv_time {l : List (List Run)} (h : NamesOk l) {place time : Int} {x : List Run} {r : Run} (hx : x ∈ l) (hr : r ∈ x) (h1 : r.1 ∈ (advS l place time).1 ∨ r.1 ∈ (advS l place time).2) : tB r = true := by
  rw [advS_eq] at h1
  simp only [List.mem_map, List.mem_filter] at h1
  rcases h1 with h1 | ⟨r', ⟨hr', _⟩, e'⟩
  · obtain ⟨y, hy, r', hr', e, hp⟩ := mem_inL.1 h1
    have er := h.inj hx hy hr hr' e.symm
    subst er
    exact plc_pos hp.1
  · obtain ⟨y, hy, hry, hp'⟩ := mem_reL.1 hr'
    have er := h.inj hx hy hr hry e'.symm
    subst er
    exact plc_pos hp'.1
end Go.Proofs.Tryz
end

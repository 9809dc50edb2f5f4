/- Plain law of SeedClashes: the least number, and the whole. -/
import Derived.Test.YtdghdcclhnoigaaGreatDoorXG04i
set_option maxRecDepth 100000
set_option linter.unusedVariables false
set_option linter.unusedSimpArgs false
namespace Go.Proofs.Tryz
open Go Go.Sx
def clubX (x : Ent) : ByteArray := x.2.1
def leF (hn : Int) (s : List Ent × Int) (x : Ent) : List Ent × Int := (s.1 ++ [x], s.2 + Int.tdiv (ctF clubX x s.1 : Int) hn)
def leastS (l : List Ent) (hn : Int) : Int := (l.foldl (leF hn) ([], 0)).2
theorem leI {hn : Int} (h : 1 ≤ hn) {c : Nat} (hc : c ≤ 300) : 0 ≤ Int.tdiv (c : Int) hn ∧ Int.tdiv (c : Int) hn ≤ 300 := by
  have t1 := Int.tdiv_nonneg (show (0 : Int) ≤ c by omega) (show (0 : Int) ≤ hn by omega)
  have t2 := Int.tdiv_le_self hn (show (0 : Int) ≤ c by omega)
  exact ⟨t1, by omega⟩
theorem l36 {F : Nat} (hF : 400 ≤ F) {l : List Ent} (hl : l.length ≤ 300) {hn : Int} (h1 : 1 ≤ hn) (h2 : hn ≤ 16) : c36 F (l, hn) = some (leastS l hn) := by
  unfold c36
  refine bind_list l (fun (s : List Ent × Int) i => (s.2, (i : Int))) (fun x s => .inl (leF hn s x)) (fun s => s.2) (fun i s => s.1 = l.take i ∧ 0 ≤ s.2 ∧ s.2 ≤ 300 * i) ([], 0) (by omega) rfl (by simp) ?_ ?_ ?_
  · intro i x s hi hx ⟨hs1, hs2, hs3⟩
    have hct := ctF_le clubX x s.1
    have htl := len_take (l := l) (i := i) (by omega)
    rw [hs1, htl] at hct
    rw [← hs1] at hct
    have hle := leI h1 (show ctF clubX x s.1 ≤ 300 by omega)
    refine ⟨?_, fun s' e => by
      cases e
      refine ⟨?_, ?_, ?_⟩
      · show s.1 ++ [x] = l.take (i + 1)
        rw [hs1]; exact take_snoc hx
      · show 0 ≤ s.2 + Int.tdiv (ctF clubX x s.1 : Int) hn
        omega
      · show s.2 + Int.tdiv (ctF clubX x s.1 : Int) hn ≤ 300 * ((i + 1 : Nat) : Int)
        omega⟩
    simp (disch := omega) only [cd_pos]
    refine bind_list (l.take i) (fun (c : Nat) j => ((c : Int), (j : Int))) (fun y c => .inl (if strEq (clubX x) (clubX y) = true then c + 1 else c)) (fun c => (c : Int)) (fun j c => c ≤ j) 0 (by omega) rfl (by simp) ?_ ?_ ?_
    · intro j y c hj hy hc
      obtain ⟨hjk, hyl⟩ := take_get hy
      refine ⟨?_, fun s' e => by cases e; split <;> omega⟩
      have e1 : strEq y.2.1 x.2.1 = strEq (clubX x) (clubX y) := strEq_comm _ _
      simp (disch := omega) only [cd_pos, gd_dec, Int.toNat_natCast, getD_some hx, getD_some hyl, e1, w64_in (n := ((j : Nat) : Int) + 1)]
      cases strEq (clubX x) (clubX y) with
      | true =>
        simp (disch := omega) only [cond_true, Option.bind_some, w64_in, if_true]
        rfl
      | false => rfl
    · intro c hc
      rw [htl]
      simp (disch := omega) only [cd_neg]
    · rw [goL_fold (fun (c : Nat) (y : Ent) => if strEq (clubX x) (clubX y) = true then c + 1 else c), cnt_foldN (fun y => strEq (clubX x) (clubX y))]
      rw [show List.countP (fun y => strEq (clubX x) (clubX y)) (l.take i) = ctF clubX x s.1 by rw [hs1]; rfl, Nat.zero_add]
      simp (disch := omega) only [gd_dec, w64_in]
      rfl
  · intro s _
    simp (disch := omega) only [cd_neg]
  · rw [goL_fold (leF hn)]
    rfl
theorem l34 {F : Nat} (hF : 400 ≤ F) {l : List Ent} (hl : l.length ≤ 300) (hS : ∀ x ∈ l, EntS x) {hn : Int} : c34 F (l, hn) = some (if entC l ≠ 0 then (0, entC l) else if hn < 1 ∨ 16 < hn then (0, 3) else (leastS l hn, 0)) := by
  unfold c34
  have q : ∀ (a b : Int), c75 F (a :: b :: nilT Int) = some (if a ≠ 0 then a else b) := by
    intro a b
    rw [l75 (by simp [nilT]; omega) (by simp [nilT])]
    by_cases ha : a = 0 <;> by_cases hb : b = 0 <;> simp [firstNZ, nilT, ha, hb]
  simp only [l19 hF hl hS, l80, q, Option.bind_some]
  by_cases h0 : entC l = 0
  · simp only [h0, ne_eq, not_true_eq_false, if_false]
    by_cases hb : hn < 1 ∨ 16 < hn
    · simp [hb]
    · simp only [hb, if_false, not_true_eq_false, decide_true, Bool.not_true, cond_false]
      have h1 : 1 ≤ hn := by omega
      refine ex_eq (bind_sim l (fun x (s : List Ent × Int) => .inl (leF hn s x)) (fun s => s.2) (fun i s t => t.2 = (s.2, (i : Int)) ∧ SeenC (s.1.map clubX) t.1 ∧ s.1 = l.take i ∧ 0 ≤ s.2 ∧ s.2 ≤ 300 * i) (fun (a : Int) (b : List (ByteArray × Int) × Int) => b.2 = a) ([], 0) (by omega) ⟨rfl, fun c => by simp [mgetD_nil, nilT], by simp, by simp⟩ ?_ ?_ ?_)
      · intro i x s t hi hx ⟨ht, hs, hs1, hs2, hs3⟩
        obtain ⟨m, t2⟩ := t
        simp only at ht hs
        subst ht
        have hct := ctF_le clubX x s.1
        have htl := len_take (l := l) (i := i) (by omega)
        rw [hs1, htl] at hct
        rw [← hs1] at hct
        have hle := leI h1 (show ctF clubX x s.1 ≤ 300 by omega)
        have e3 : mgetD strEq x.2.1 m 0 = (ctF clubX x s.1 : Int) := by
          have := hs (clubX x)
          rw [← ctF_map] at this
          exact this
        simp (disch := omega) only [cd_pos, gd_dec, Int.toNat_natCast, getD_some hx, e3, w64_in]
        refine ⟨_, rfl, ?_⟩
        refine ⟨?_, ?_, ?_, ?_, ?_⟩
        · simp [leF]
        · have := hs.put (clubX x)
          rw [← ctF_map] at this
          show SeenC ((s.1 ++ [x]).map clubX) (mput strEq (clubX x) ((ctF clubX x s.1 : Int) + 1) m)
          rw [List.map_append]
          exact this
        · show s.1 ++ [x] = l.take (i + 1)
          rw [hs1]; exact take_snoc hx
        · show 0 ≤ s.2 + Int.tdiv (ctF clubX x s.1 : Int) hn
          omega
        · show s.2 + Int.tdiv (ctF clubX x s.1 : Int) hn ≤ 300 * ((i + 1 : Nat) : Int)
          omega
      · intro s t ⟨ht, hs, hs1, hs2, hs3⟩
        rw [show t = (t.1, t.2) from rfl, ht]
        simp (disch := omega) only [cd_neg]
        exact ⟨(t.1, s.2), rfl, rfl⟩
      · intro b hb
        rw [goL_fold (leF hn)] at hb
        rw [hb]
        exact ⟨_, rfl, rfl⟩
  · simp [h0]
theorem l38 (F : Nat) (b : Bool) (e : Int) : c38 F (b, e) = some (if b then e else 0) := by
  unfold c38
  cases b <;> rfl
theorem bind_val {α β : Type} {o : Option α} {k : α → Option β} {b : α} {r : Option β} (h1 : o = some b) (h2 : k b = r) : Option.bind o k = r := by rw [h1]; exact h2
theorem m35_err {F : Nat} {e : Int} (he : e ≠ 0) : c35 F (0, e, e, 0) = some true := by
  unfold c35; simp [he]
theorem m35_ok (F : Nat) (n : Int) : c35 F (n, 0, 0, n) = some true := by
  unfold c35; simp
theorem l22n (F : Nat) (key : Int) (n : Nat) : c22 F (key, (n : Int)) = some (drawE key n) := by
  rw [l22]
  unfold drawE
  by_cases h : key < 1 ∨ 2147483646 < key ∨ 256 < n
  · rw [if_pos h, if_pos (by omega)]
  · rw [if_neg h, if_neg (by omega)]
theorem drawE_3 {key : Int} {n : Nat} (h : drawE key n ≠ 0) : drawE key n = 3 := by
  unfold drawE at h ⊢
  split
  · rfl
  · rename_i q; rw [if_neg q] at h; exact absurd rfl h
theorem drawE_ok {key : Int} {n : Nat} (h : drawE key n = 0) : 1 ≤ key ∧ key < 2147483647 := by
  unfold drawE at h
  split at h
  · cases h
  · omega
theorem law4 (a : List Ent × List (List Int) × Int) (hok : AEls.ok [.val (.seq [.str, .str, .str, .int .i64, .str]), .val (.seq [.seq [.int .i64]]), .val (.int .i64)] a) : ∃ F, c4 F a = some true := by
  obtain ⟨l, h, key⟩ := a
  obtain ⟨⟨hb, -⟩, -, -⟩ := hok
  have hF1 : l.length < l.length + 400 := by omega
  have hF : 400 ≤ l.length + 400 := by omega
  refine ⟨l.length + 400, ?_⟩
  generalize l.length + 400 = F at hF hF1
  unfold c4
  obtain ⟨b, h17, hshort⟩ := l17 hF (l := l) (n := 24) (by omega)
  have h17' : c17 F (l, 24) = some b := h17
  simp only [l15 hF1 (show l.length * 72 ≤ 140737488351232 from hb), Option.bind_some, h17', l31 hF (show (20 : Int) ≤ 300 by omega)]
  cases b with
  | false => rfl
  | true =>
    obtain ⟨s1, s2, s3⟩ := hshort rfl
    simp only [Bool.not_true, cond_false]
    by_cases hw : (decide ((20 : Int) < h.length) || h.any fun x => decide ((30 : Int) < (x.length : Int))) = true
    · rw [hw]; rfl
    · rw [Bool.not_eq_true] at hw
      rw [hw]
      rw [Bool.or_eq_false_iff] at hw
      have hhl : h.length ≤ 20 := by have := of_decide_eq_false hw.1; omega
      have hh : ∀ g ∈ h, g.length < 400 := fun g hg => by
        have := List.any_eq_false.1 hw.2 g hg
        simp at this; omega
      have hl300 : l.length ≤ 300 := by omega
      have q : ∀ (a b : Int), c25 F (a :: b :: nilT Int) = some (if a ≠ 0 then a else b) := by
        intro a b
        rw [l25 (by simp [nilT]; omega) (by simp [nilT])]
        by_cases ha : a = 0 <;> by_cases hb : b = 0 <;> simp [firstNZ, nilT, ha, hb]
      simp only [cond_false, l18 hF hl300, l32 hF hl300 s3 hh, l33 hF hl300 s3 hh, l34 hF hl300 s3, l26, q, Option.bind_some]
      by_cases h0 : entC l = 0
      · have hent := entC_ok h0
        simp only [h0, ne_eq, not_true_eq_false, if_false]
        refine bind_val (b := false) ?_ ?_
        · by_cases hc : (h.length : Int) < 1 ∨ 16 < (h.length : Int)
          · simp only [hc, if_true, m35_err (F := F) (show (3 : Int) ≠ 0 by decide), Option.bind_some]
            rfl
          · simp only [hc, if_false, decide_true, Bool.not_true, cond_false, cond_true, l36 hF hl300 (show (1 : Int) ≤ (h.length : Int) by omega) (show (h.length : Int) ≤ 16 by omega), Option.bind_some, m35_ok]
        · simp only [decide_true, Bool.not_true, cond_false, l37 hF (show l.length ≤ 1000 by omega) hh, l22n, Option.bind_some, l38]
          by_cases hf : formS l.length h = 0
          · have hform := formS_ok hf
            simp only [hf, not_true_eq_false, if_false, decide_true, Bool.not_true, cond_false, l40 hF hl300 (show h.length ≤ 30 by omega) hh hform.inn, Option.bind_some, m35_ok, cond_true]
            by_cases hd : drawE key l.length = 0
            · obtain ⟨d1, d2⟩ := drawE_ok hd
              simp only [hd, not_true_eq_false, if_false, decide_true, cond_true, l39 hF hent d1 d2 hh hform, Option.bind_some]
              cases rankS (grpE (h.length : Int) (ordE l key) l.length) h <;> simp
            · simp [drawE_3 hd]
          · simp only [hf, not_false_eq_true, if_true, decide_false, Bool.not_false, cond_true, m35_err hf, Option.bind_some]
            by_cases hd : drawE key l.length = 0
            · simp [hd, hf]
            · simp [hd, drawE_3 hd]
      · simp [h0, m35_err h0]
end Go.Proofs.Tryz

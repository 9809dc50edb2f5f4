/- Plain law: the sort that is lent a table is the sort. Plain law: a day of a table that is moved. Plain law: the search for tables: each way in which rounds that have to be apart follow each other. Plain law: the program's search is the search of T9s. Plain law: ends and orders of tables. Plain law: the program's search, all three of its uses. Plain law: what the program's search finds. Plain law: the reference's sequences of rounds. Plain law: the reference's search. Plain law: the reference's least table of a sequence. Plain law: the reference's tables of all sequences. Plain law: the least end and the first table, of the reference and of the program. Plain law: tables that are moved. Plain law: TimetableTables. Plain law: slack. -/
import Derived.Test.YtlfcbhjoldgijaaGreatXTtR1
import Derived.Test.YtlfcbhjoldgijaaGreatXTtN
import Derived.Test.YtlfcbhjoldgijaaGreatXT9g
import Derived.Test.YtlfcbhjoldgijaaGreatXTtT
section
set_option maxRecDepth 100000
set_option linter.unusedVariables false
set_option linter.unusedSimpArgs false
namespace Go.Proofs.Tryz
open Go Go.Sx
theorem dec_len (l : List Int) : decide (List.length l = List.length l) = true := decide_eq_true rfl
theorem x156b (F : Nat) : cx156_1 F = gIns (cx124_1 F) (0 : Int) F := by
  funext a
  unfold cx156_1
  rw [dec_len a.2.2.2.2]
  kernel_rfl
theorem x176b (F : Nat) : cx176_1 F = gSwap (0 : Int) F := by
  funext a
  kernel_rfl
theorem x169b (F : Nat) : cx169_1 F = gRot (0 : Int) F := by
  funext a
  unfold cx169_1
  rw [dec_len a.2.2.2.2.2, x176b]
  kernel_rfl
theorem x157b (F n : Nat) : rx157_1 F n = gSym (cx124_1 F) (0 : Int) F n := by
  induction n with
  | zero => rfl
  | succ n ih =>
    funext a
    have h : rx157_1 F (n + 1) a = bx157_1 (rx157_1 F n) F a := rfl
    rw [h, ih]
    unfold bx157_1
    rw [dec_len a.2.2.2.2.2, x169b]
    clear ih h
    show _ = _
    kernel_rfl
theorem x157c (F : Nat) : cx157_1 F = gSym (cx124_1 F) (0 : Int) F F := by
  funext a
  show rx157_1 F F a = _
  rw [x157b]
theorem x146b (F : Nat) (a) : cx146_1 F a = gStab (cx124_1 F) (0 : Int) F a := by
  unfold cx146_1
  rw [dec_len a.2.2.2, x156b, x157c]
  kernel_rfl
end Go.Proofs.Tryz
end
section
set_option maxRecDepth 100000
set_option linter.unusedVariables false
set_option linter.unusedSimpArgs false
namespace Go.Proofs.Tryz
open Go Go.Sx
theorem cmp124b {F : Nat} {t : List Int} : CmpOk (cx124_1 F) ((), t) (ltT t) (InE t.length) := by
  intro a b ha hb
  have a1 := ha.1; have a2 := ha.2; have b1 := hb.1; have b2 := hb.2
  refine ⟨if tq t a < tq t b then -1 else if tq t b < tq t a then 1 else 0, ?_, ?_⟩
  · unfold cx124_1
    simp (disch := omega) only [gd_dec, l117, Option.bind_some, Nat.zero_add]
  · unfold ltT
    generalize tq t a = u
    generalize tq t b = v
    by_cases h : u < v
    · simp [h]
    · by_cases h2 : v < u <;> simp [h, h2]
theorem l123b {F : Nat} {t d : List Int} (hd : ∀ x ∈ d, InE t.length x) (hl : d.length < F) (hb : d.length ≤ 1000) : ∃ L, cx123_1 F (d, (), t) = some L ∧ StabS (ltT t) d L := by
  obtain ⟨L, h1, h2⟩ := gStab_ok (ltT_on t t.length) (cmp124b (F := F)) (d := (0 : Int)) hd hl (by omega)
  refine ⟨L, ?_, h2⟩
  unfold cx123_1
  simp [gd_true, x146b, h1]
theorem l91b {F : Nat} (hF : 400 ≤ F) {p : Pln} {t : List Int} (h : PV p) (ht : TOk p t) {a : ByteArray} : ∃ L, cx91_0 F (p, a, t) = some L ∧ StabS (ltT t) (needL p a) L := by
  unfold cx91_0
  have hn := h.n1
  have hsm := h.sh.sm
  have hlen := ifl_len (needR_len a) p.1 0
  have hll : (needL p a).length ≤ 24 := by unfold needL; omega
  obtain ⟨L, h1, h2⟩ := l123b (F := F) (t := t) (d := needL p a) (fun x hx => by rw [ht.len]; exact needL_in x hx) (by omega) (by omega)
  refine ⟨L, ?_, h2⟩
  refine bind_ifl p.1 0 (needR a) 1 [] (by omega) rfl (needR_len a) ?_ ?_ ?_
  · intro i x s hi hx hs hs2
    have hsl : s.length ≤ 26 := by simp only [List.length_nil] at hs; omega
    have hmx := hsm.2.2 x (List.mem_of_getElem? hx)
    simp (disch := omega) only [Nat.zero_add, cd_pos, len_snoc, gd_dec, w64_in, Int.toNat_natCast, getD_some hx, l111 hF hmx.2.2.2.1, decide_true, Bool.and_self, gd_true, Option.bind_some]
    unfold needR
    cases x.2.2.2.2.1.any fun y => strEq a y <;> simp [gd_true, nilT]
  · intro s
    simp (disch := omega) only [cd_neg, decide_true, Bool.and_self, gd_true, Option.bind_some, Nat.zero_add]
  · simp only [List.nil_append, decide_true, Bool.and_self, gd_true, Option.bind_some]
    rw [show ifl (needR a) 0 p.1 = needL p a from rfl]
    have hL := h2.len
    have e : List.take (needL p a).length (List.drop 0 L) = L := by rw [← hL, List.drop_zero, List.take_length]
    simp (disch := omega) only [gd_dec, e, h1, Option.bind_some, ht.len, decide_true, Bool.and_self, gd_true]
    simp [hL, gd_true]
theorem l40b {F : Nat} (hF : 400 ≤ F) {p : Pln} {t : List Int} (h : PShort p) (hl : t.length ≤ 300) {a : ByteArray} {L : List Int} (hL : soundE p t = 0 → c91 F (p, t, a) = some L) (hM : soundE p t = 0 → cx91_0 F (p, a, t) = some L) : cx40_0 F (p, a, t) = some (if soundE p t = 0 then (if L.length = 0 then (nilT Int, 10) else (L, 0)) else (nilT Int, soundE p t)) := by
  unfold cx40_0
  have e : List.take t.length (List.drop 0 t) = t := by rw [List.drop_zero, List.take_length]
  simp only [peta, e, l90 hF h hl hL, Option.bind_some, Nat.zero_add, Nat.le_refl, decide_true, Bool.and_self, gd_true]
  by_cases h0 : soundE p t = 0
  · simp only [h0, if_true]
    by_cases h1 : L.length = 0
    · simp [h1]
    · simp [h1, hM h0, gd_true]
  · simp [h0]
end Go.Proofs.Tryz
end
section
set_option maxRecDepth 100000
set_option linter.unusedVariables false
set_option linter.unusedSimpArgs false
namespace Go.Proofs.Tryz
open Go Go.Sx
structure TabW (low high : List Int) (E : List Edg) (f : List Int) : Prop where
  len : f.length = low.length
  lo : LeF low.length (fL low) (fL f)
  hi : LeF low.length (fL f) (fL high)
  sol : SolF E (fL f)
theorem SolF.app {E E' : List Edg} {f : Nat → Int} : SolF (E ++ E') f ↔ SolF E f ∧ SolF E' f := by
  unfold SolF
  simp only [List.mem_append]
  exact ⟨fun h => ⟨fun e he => h e (.inl he), fun e he => h e (.inr he)⟩, fun h e he => he.elim (h.1 e) (h.2 e)⟩
theorem SolF.one {e : Edg} {f : Nat → Int} : SolF [e] f ↔ f e.1.toNat + e.2.2 ≤ f e.2.1.toNat := by
  unfold SolF
  simp
def e1 (p : Pln) (r : Rul) : Edg := (r.2.1, r.2.2.1, (rq p r.2.1).2.1 + r.2.2.2)
def e2 (p : Pln) (r : Rul) : Edg := (r.2.2.1, r.2.1, (rq p r.2.2.1).2.1 + r.2.2.2)
def RulP (p : Pln) (r : Rul) : Prop := RulOk p r ∧ isP r = true
theorem hold_or {p : Pln} {t : List Int} {r : Rul} (h : RulP p r) : holdS p t r = true ↔ SolF [e1 p r] (fL t) ∨ SolF [e2 p r] (fL t) := by
  obtain ⟨h1, h2⟩ := h
  unfold isP at h2
  have a1 : ¬ strEq r.1 kW = true := by intro e; simp [e] at h2
  have a2 : ¬ strEq r.1 kO = true := by intro e; simp [e] at h2
  unfold holdS
  rw [if_neg a1, if_neg a2, SolF.one, SolF.one, Bool.or_eq_true]
  unfold befS
  simp only [decide_eq_true_eq, e1, e2, tq, fL]
  constructor
  · rintro (h | h)
    · left; omega
    · right; omega
  · rintro (h | h)
    · left; omega
    · right; omega
structure SolS (p : Pln) (low high : List Int) (A : List Rul) (E : List Edg) (f : List Int) : Prop where
  tab : TabW low high E f
  rul : ∀ r ∈ A, holdS p f r = true
theorem SolS.less {p : Pln} {low high : List Int} {A : List Rul} {E : List Edg} {e : Edg} {f : List Int} (h : SolS p low high A (E ++ [e]) f) : SolS p low high A E f :=
  ⟨⟨h.tab.len, h.tab.lo, h.tab.hi, (SolF.app.1 h.tab.sol).1⟩, h.rul⟩
theorem SolS.more {p : Pln} {low high : List Int} {A : List Rul} {E : List Edg} {f : List Int} (h : SolS p low high A E f) {r : Rul} (hr : r ∈ A) (hp : RulP p r) : SolS p low high A (E ++ [e1 p r]) f ∨ SolS p low high A (E ++ [e2 p r]) f := by
  rcases (hold_or hp).1 (h.rul r hr) with h1 | h1
  · exact .inl ⟨⟨h.tab.len, h.tab.lo, h.tab.hi, SolF.app.2 ⟨h.tab.sol, h1⟩⟩, h.rul⟩
  · exact .inr ⟨⟨h.tab.len, h.tab.lo, h.tab.hi, SolF.app.2 ⟨h.tab.sol, h1⟩⟩, h.rul⟩
end Go.Proofs.Tryz
end
section
set_option maxRecDepth 100000
set_option linter.unusedVariables false
set_option linter.unusedSimpArgs false
namespace Go.Proofs.Tryz
open Go Go.Sx
end Go.Proofs.Tryz
end
section
set_option maxRecDepth 100000
set_option linter.unusedVariables false
set_option linter.unusedSimpArgs false
namespace Go.Proofs.Tryz
open Go Go.Sx
def mxS (s : Int) (x : Rnd × Int) : Int := if s < x.2 + x.1.2.1 then x.2 + x.1.2.1 else s
theorem endS_fold (p : Pln) (t : List Int) : endS p t = (p.1.zip t).foldl mxS 0 := by
  unfold endS
  rw [goL_fold (fun s (x : Rnd × Int) => if s < x.2 + x.1.2.1 then x.2 + x.1.2.1 else s)]
  rfl
theorem mx_ge : ∀ (l : List (Rnd × Int)) (s : Int), s ≤ l.foldl mxS s ∧ ∀ x ∈ l, x.2 + x.1.2.1 ≤ l.foldl mxS s
  | [], s => ⟨Int.le_refl _, fun _ h => by cases h⟩
  | x :: l, s => by
    obtain ⟨h1, h2⟩ := mx_ge l (mxS s x)
    have h3 : s ≤ mxS s x ∧ x.2 + x.1.2.1 ≤ mxS s x := by unfold mxS; split <;> constructor <;> omega
    rw [List.foldl_cons]
    refine ⟨Int.le_trans h3.1 h1, fun y hy => ?_⟩
    rcases List.mem_cons.1 hy with rfl | hy
    · exact Int.le_trans h3.2 h1
    · exact h2 y hy
theorem mx_le {m : Int} : ∀ (l : List (Rnd × Int)) (s : Int), s ≤ m → (∀ x ∈ l, x.2 + x.1.2.1 ≤ m) → l.foldl mxS s ≤ m
  | [], s, h, _ => h
  | x :: l, s, h, hl => by
    rw [List.foldl_cons]
    refine mx_le l _ ?_ fun y hy => hl y (by simp [hy])
    have := hl x (by simp)
    unfold mxS
    split <;> omega
theorem endS_nonneg (p : Pln) (t : List Int) : 0 ≤ endS p t := by
  rw [endS_fold]
  exact (mx_ge _ 0).1
theorem zip_at {p : Pln} {t : List Int} {i : Nat} (hi : i < p.1.length) (ht : t.length = p.1.length) : (p.1[i], t[i]'(by omega)) ∈ p.1.zip t :=
  List.mem_iff_getElem.2 ⟨i, by rw [List.length_zip]; omega, by simp⟩
theorem endS_ge {p : Pln} {t : List Int} {i : Nat} (hi : i < p.1.length) (ht : t.length = p.1.length) : fL t i + (rq p (i : Int)).2.1 ≤ endS p t := by
  rw [endS_fold]
  have := (mx_ge (p.1.zip t) 0).2 _ (zip_at hi ht)
  rw [rq_nat hi]
  simp only [fL]
  rw [getD_some (List.getElem?_eq_getElem (show i < t.length by omega))]
  exact this
theorem endS_le {p : Pln} {t : List Int} {m : Int} (ht : t.length = p.1.length) (hm : 0 ≤ m) (h : ∀ i, i < p.1.length → fL t i + (rq p (i : Int)).2.1 ≤ m) : endS p t ≤ m := by
  rw [endS_fold]
  refine mx_le _ _ hm fun x hx => ?_
  obtain ⟨i, hi, rfl⟩ := List.mem_iff_getElem.1 hx
  rw [List.length_zip] at hi
  have := h i (by omega)
  rw [rq_nat (by omega)] at this
  simp only [fL] at this
  rw [getD_some (List.getElem?_eq_getElem (show i < t.length by omega))] at this
  simpa using this
theorem endS_bnd {p : Pln} (hp : PV p) {t : List Int} (ht : TOk p t) : endS p t ≤ 4398046512544 :=
  endS_le ht.len (by omega) fun i hi => by
    have h1 := ht.at (a := (i : Int)) (by omega) (by omega)
    have h2 := hp.at (a := (i : Int)) (by omega) (by omega)
    simp only [fL]
    simp only [tq, Int.toNat_natCast] at h1
    omega
def lexI : List Int → List Int → Int
  | [], [] => 0
  | [], _ :: _ => -1
  | _ :: _, [] => 1
  | a :: l, b :: m => if a < b then -1 else if b < a then 1 else lexI l m
theorem lexI_self : ∀ l, lexI l l = 0
  | [] => rfl
  | a :: l => by simp [lexI, lexI_self l]
theorem lexI_neg : ∀ l m, lexI m l = - lexI l m
  | [], [] => rfl
  | [], _ :: _ => rfl
  | _ :: _, [] => rfl
  | a :: l, b :: m => by
    unfold lexI
    by_cases h : a < b
    · have : ¬ b < a := by omega
      simp [h, this]
    · by_cases h2 : b < a
      · simp [h, h2]
      · simp only [h, h2, if_false]
        exact lexI_neg l m
theorem lexI_trans : ∀ {l m n : List Int}, lexI l m ≤ 0 → lexI m n ≤ 0 → lexI l n ≤ 0
  | [], _, [], _, _ => by simp [lexI]
  | [], _, _ :: _, _, _ => by simp [lexI]
  | a :: l, [], _, h, _ => by simp [lexI] at h
  | a :: l, b :: m, [], _, h => by simp [lexI] at h
  | a :: l, b :: m, c :: n, h1, h2 => by
    unfold lexI at h1 h2 ⊢
    by_cases a1 : a < b
    · have : a < c := by
        by_cases b1 : b < c
        · omega
        · rw [if_neg b1] at h2
          by_cases b2 : c < b
          · rw [if_pos b2] at h2; omega
          · omega
      rw [if_pos this]; omega
    · rw [if_neg a1] at h1
      by_cases a2 : b < a
      · rw [if_pos a2] at h1; omega
      · rw [if_neg a2] at h1
        have hab : a = b := by omega
        subst hab
        by_cases b1 : a < c
        · rw [if_pos b1]; omega
        · rw [if_neg b1] at h2 ⊢
          by_cases b2 : c < a
          · rw [if_pos b2] at h2; omega
          · rw [if_neg b2] at h2 ⊢
            exact lexI_trans h1 h2
end Go.Proofs.Tryz
end
section
set_option maxRecDepth 100000
set_option linter.unusedVariables false
set_option linter.unusedSimpArgs false
namespace Go.Proofs.Tryz
open Go Go.Sx
end Go.Proofs.Tryz
end
section
set_option maxRecDepth 100000
set_option linter.unusedVariables false
set_option linter.unusedSimpArgs false
namespace Go.Proofs.Tryz
open Go Go.Sx
structure Hol (p : Pln) (L : List Rul) (f : List Int) : Prop where
  len : f.length = p.1.length
  rng : ∀ i, i < p.1.length → 0 ≤ fL f i ∧ fL f i ≤ 1099511627776
  rul : ∀ r ∈ L, holdS p f r = true
end Go.Proofs.Tryz
end
section
set_option maxRecDepth 100000
set_option linter.unusedVariables false
set_option linter.unusedSimpArgs false
namespace Go.Proofs.Tryz
open Go Go.Sx
end Go.Proofs.Tryz
end
section
set_option maxRecDepth 100000
set_option linter.unusedVariables false
set_option linter.unusedSimpArgs false
namespace Go.Proofs.Tryz
open Go Go.Sx
end Go.Proofs.Tryz
end
section
set_option maxRecDepth 100000
set_option linter.unusedVariables false
set_option linter.unusedSimpArgs false
namespace Go.Proofs.Tryz
open Go Go.Sx
theorem bind_cnt {S β γ : Type} {step : S × Int → Option ((S × Int) ⊕ β)} {F : Nat} {s0 : S} {k : β → Option γ} {P : γ → Prop} (a N : Nat) (Inv : Nat → S → Prop) (Post : β → Prop) (ha : a ≤ N) (hF : N - a < F) (h0 : Inv a s0)
    (hstep : ∀ i s, a ≤ i → i < N → Inv i s → ∃ s', step (s, (i : Int)) = some (.inl (s', (i : Int) + 1)) ∧ Inv (i + 1) s')
    (hend : ∀ s, Inv N s → ∃ b, step (s, (N : Int)) = some (.inr b) ∧ Post b) (hk : ∀ b, Post b → ∃ r, k b = some r ∧ P r) : ∃ r, Option.bind (loopO step F (s0, (a : Int))) k = some r ∧ P r := by
  refine bind_inv (fun x : S × Int => ∃ i : Nat, x.2 = i ∧ a ≤ i ∧ i ≤ N ∧ Inv i x.1) (fun x => N - x.2.toNat) Post ?_ ⟨a, rfl, Nat.le_refl _, ha, h0⟩ (by simpa using hF) hk
  rintro ⟨s, v⟩ ⟨i, hv, h1, h2, h3⟩
  simp only at hv h3
  subst hv
  by_cases hi : i < N
  · obtain ⟨s', e1, e2⟩ := hstep i s h1 hi h3
    refine .inl ⟨_, e1, ⟨i + 1, rfl, by omega, hi, e2⟩, ?_⟩
    simp only
    omega
  · obtain rfl : i = N := by omega
    exact .inr (hend s h3)
def chS (p : Pln) (B : List Bool) : List Rul := ((rulesS p).zip B).filterMap fun x => if x.2 = true then some x.1 else none
theorem mem_chS {p : Pln} {B : List Bool} {r : Rul} : r ∈ chS p B ↔ ∃ k : Nat, (rulesS p)[k]? = some r ∧ B[k]? = some true := by
  unfold chS
  rw [List.mem_filterMap]
  constructor
  · rintro ⟨⟨r', b⟩, hm, h⟩
    obtain ⟨k, hk⟩ := List.mem_iff_getElem?.1 hm
    obtain ⟨h1, h2⟩ := zip_get hk
    cases b with
    | true =>
      simp only [if_true, Option.some.injEq] at h
      subst h
      exact ⟨k, h1, h2⟩
    | false => simp at h
  · rintro ⟨k, h1, h2⟩
    refine ⟨(r, true), List.mem_iff_getElem?.2 ⟨k, ?_⟩, rfl⟩
    rw [List.getElem?_zip_eq_some]
    exact ⟨h1, h2⟩
theorem fL_set {t : List Int} {k i : Nat} {v : Int} (hk : k < t.length) : fL (t.set k v) i = if i = k then v else fL t i := set_get hk
theorem win_rul {p : Pln} {k : Nat} (h : k < p.1.length) : (rulesS p)[k]? = some (kW, (k : Int), (k : Int), 0) := by
  unfold rulesS
  have l1 := winR_len p
  rw [List.append_assoc, List.getElem?_append_left (by omega)]
  have e := ifl_one (fun i (_ : Rnd) => (kW, (i : Int), (i : Int), (0 : Int))) p.1 0 k
  rw [show (ifl winR 0 p.1)[k]? = _ from e, List.getElem?_eq_getElem h]
  simp
theorem holW {p : Pln} {t : List Int} {k : Nat} : holdS p t (kW, (k : Int), (k : Int), 0) = true ↔ (rq p k).2.2.2.2.2.1 ≤ fL t k ∧ fL t k + (rq p k).2.1 ≤ (rq p k).2.2.2.2.2.2 := by
  unfold holdS
  simp only [sWW, if_true, winS, decide_eq_true_eq, tq, fL, Int.toNat_natCast]
end Go.Proofs.Tryz
end
section
set_option maxRecDepth 100000
set_option linter.unusedVariables false
set_option linter.unusedSimpArgs false
namespace Go.Proofs.Tryz
open Go Go.Sx
end Go.Proofs.Tryz
end
section
set_option maxRecDepth 100000
set_option linter.unusedVariables false
set_option linter.unusedSimpArgs false
namespace Go.Proofs.Tryz
open Go Go.Sx
end Go.Proofs.Tryz
end
section
set_option maxRecDepth 100000
set_option linter.unusedVariables false
set_option linter.unusedSimpArgs false
namespace Go.Proofs.Tryz
open Go Go.Sx
def movS (b : Int) (t : List Int) : List Int := t.map fun x => x + b
theorem mov_len (b : Int) (t : List Int) : (movS b t).length = t.length := by simp [movS]
theorem mov_get {b : Int} {t : List Int} {i : Nat} (h : i < t.length) : fL (movS b t) i = fL t i + b := by
  simp only [fL, movS]
  rw [getD_some (List.getElem?_eq_getElem (show i < (t.map fun x => x + b).length by simpa using h)), List.getElem_map, getD_some (List.getElem?_eq_getElem h)]
theorem mov_tq {p : Pln} {b : Int} {t : List Int} (ht : t.length = p.1.length) {a : Int} (ha : InE p.1.length a) : tq (movS b t) a = tq t a + b := by
  have h1 := ha.1
  have h2 := ha.2
  exact mov_get (i := a.toNat) (by omega)
theorem StabS.congr {α : Type} {lt1 lt2 : α → α → Bool} {l d : List α} (h : ∀ a ∈ l, ∀ b ∈ l, lt1 a b = lt2 a b) (hs : StabS lt1 l d) : StabS lt2 l d := by
  have hm : ∀ x, x ∈ d → x ∈ l := fun x hx => hs.mem.1 hx
  refine ⟨hs.1, ?_, fun x hx => ?_⟩
  · refine List.Pairwise.imp_of_mem (fun {a b} ha hb hab => ?_) hs.2.1
    unfold leB at *
    rw [← h b (hm b hb) a (hm a ha)]
    exact hab
  · have h1 : d.filter (eqvB lt2 x) = d.filter (eqvB lt1 x) := List.filter_congr fun y hy => by unfold eqvB; rw [h x hx y (hm y hy), h y (hm y hy) x hx]
    have h2 : l.filter (eqvB lt2 x) = l.filter (eqvB lt1 x) := List.filter_congr fun y hy => by unfold eqvB; rw [h x hx y hy, h y hy x hx]
    rw [h1, h2]
    exact hs.2.2 x hx
theorem mov_stab {p : Pln} {b : Int} {t : List Int} (ht : t.length = p.1.length) {a : ByteArray} {L : List Int} (h : StabS (ltT (movS b t)) (needL p a) L) : StabS (ltT t) (needL p a) L :=
  StabS.congr (fun x hx y hy => by
    unfold ltT
    rw [mov_tq ht (needL_in x hx), mov_tq ht (needL_in y hy)]
    simp) h
theorem mov_gaps {p : Pln} {b : Int} {t : List Int} (ht : t.length = p.1.length) : ∀ (l : List Int) (x : Int), InE p.1.length x → (∀ y ∈ l, InE p.1.length y) → gapsS p (movS b t) x l = gapsS p t x l
  | [], _, _, _ => rfl
  | y :: l, x, hx, hl => by
    have hy := hl y (by simp)
    simp only [gapsS]
    rw [mov_gaps ht l y hy fun z hz => hl z (by simp [hz]), mov_tq ht hx, mov_tq ht hy]
    congr 1
    omega
theorem mov_rest {p : Pln} {b : Int} {t : List Int} (ht : t.length = p.1.length) {L : List Int} (hL : ∀ y ∈ L, InE p.1.length y) : restV p (movS b t) L = restV p t L := by
  cases L with
  | nil => rfl
  | cons x l =>
    simp only [restV, mov_gaps (b := b) ht l x (hL x (by simp)) fun z hz => hL z (by simp [hz])]
theorem mov_end {p : Pln} (hp : PV p) {b : Int} (hb : 0 ≤ b) {t : List Int} (ht : TOk p t) (h0 : 0 < p.1.length) : endS p (movS b t) = endS p t + b := by
  have hl := mov_len b t
  apply Int.le_antisymm
  · refine endS_le (hl.trans ht.len) (by have := endS_nonneg p t; omega) fun i hi => ?_
    rw [mov_get (by rw [ht.len]; exact hi)]
    have := endS_ge (p := p) (t := t) hi ht.len
    omega
  ·
    have key : ∀ (l : List (Rnd × Int)) (s : Int), l.foldl mxS s = s ∨ ∃ x ∈ l, l.foldl mxS s = x.2 + x.1.2.1 := fun l => by
      induction l with
      | nil => intro s; exact .inl rfl
      | cons x l ih =>
        intro s
        rw [List.foldl_cons]
        rcases ih (mxS s x) with h | ⟨y, hy, h⟩
        · rw [h]
          unfold mxS
          split
          · exact .inr ⟨x, by simp, rfl⟩
          · exact .inl rfl
        · exact .inr ⟨y, by simp [hy], h⟩
    have hm := hp.at (a := 0) (by omega) (by omega)
    have hge := endS_ge (p := p) (t := t) h0 ht.len
    have h00 := ht.at (a := 0) (by omega) (by omega)
    have e0 : endS p t = (p.1.zip t).foldl mxS 0 := endS_fold p t
    rcases key (p.1.zip t) 0 with h | ⟨x, hx, h⟩
    · rw [← e0] at h
      simp only [fL] at hge
      simp only [tq] at h00
      have : (0 : Int).toNat = 0 := rfl
      rw [this] at h00
      have e : ((0 : Nat) : Int) = 0 := rfl
      rw [e] at hge
      omega
    · obtain ⟨i, hi, rfl⟩ := List.mem_iff_getElem.1 hx
      rw [List.length_zip] at hi
      have := endS_ge (p := p) (t := movS b t) (i := i) (by omega) (hl.trans ht.len)
      rw [mov_get (by omega), rq_nat (by omega)] at this
      rw [e0, h, List.getElem_zip]
      simp only
      simp only [fL] at this
      rw [getD_some (List.getElem?_eq_getElem (show i < t.length by omega))] at this
      omega
theorem mov_hold {p : Pln} {b : Int} {t : List Int} (ht : t.length = p.1.length) {r : Rul} (hr : RulOk p r) (hw : r.1 ≠ kW) : holdS p (movS b t) r = holdS p t r := by
  have hw' : ¬ strEq r.1 kW = true := fun e => hw (by rw [strEq_dec] at e; exact of_decide_eq_true e)
  have h1 := mov_tq (b := b) ht (p := p) (a := r.2.1) hr.a
  have h2 := mov_tq (b := b) ht (p := p) (a := r.2.2.1) hr.b
  unfold holdS
  rw [if_neg hw', if_neg hw']
  have e1 : befS p (movS b t) r.2.1 r.2.2.1 r.2.2.2 = befS p t r.2.1 r.2.2.1 r.2.2.2 := by
    unfold befS
    rw [h1, h2, decide_eq_decide]
    constructor <;> intro h <;> omega
  have e2 : befS p (movS b t) r.2.2.1 r.2.1 r.2.2.2 = befS p t r.2.2.1 r.2.1 r.2.2.2 := by
    unfold befS
    rw [h1, h2, decide_eq_decide]
    constructor <;> intro h <;> omega
  rw [e1, e2]
theorem brok_find (p : Pln) (t : List Int) : (brokS p t).1 = (((rulesS p).findIdx fun r => !holdS p t r : Nat) : Int) ∧ ((brokS p t).2 = false ↔ ∀ r ∈ rulesS p, holdS p t r = true) := by
  unfold brokS
  cases h : (rulesS p).findIdx? fun r => !holdS p t r with
  | none =>
    have hn := List.findIdx?_eq_none_iff.1 h
    refine ⟨?_, fun _ r hr => by have := hn r hr; simpa using this, fun _ => rfl⟩
    rw [List.findIdx_eq_length_of_false fun r hr => by simpa using hn r hr]
  | some i =>
    obtain ⟨hi, h1, h2⟩ := List.findIdx?_eq_some_iff_getElem.1 h
    refine ⟨?_, ⟨fun h => ?_, fun h => ?_⟩⟩
    · show (i : Int) = _
      congr 1
      exact ((List.findIdx_eq hi).2 ⟨by simpa using h1, fun j hj => by have := h2 j hj; simpa using this⟩).symm
    · exact absurd (show true = false from h) (by decide)
    · have := h _ (List.getElem_mem hi)
      rw [this] at h1
      simp at h1
theorem mov_brok {p : Pln} (hp : PV p) {b : Int} {t : List Int} (ht : t.length = p.1.length) (h1 : (p.1.length : Int) ≤ (brokS p t).1) (h2 : (p.1.length : Int) ≤ (brokS p (movS b t)).1) : (brokS p t).1 = (brokS p (movS b t)).1 := by
  rw [(brok_find p t).1] at h1 ⊢
  rw [(brok_find p (movS b t)).1] at h2 ⊢
  have hw := winR_len p
  have hX : ∀ r ∈ ifl ordR 0 p.2.1 ++ apartR p, RulOk p r ∧ r.1 ≠ kW := fun r hrm => by
    refine ⟨hp.rulM r ?_, ?_⟩
    · unfold rulesS
      rw [List.append_assoc]
      exact List.mem_append_right _ hrm
    · rcases List.mem_append.1 hrm with h | h
      · rw [ordR_kind r h]
        exact kne sOW
      · rcases apartR_kind r h with e | e | e <;> rw [e]
        · exact kne sAW
        · exact kne sFW
        · exact kne sTW
  have e : rulesS p = ifl winR 0 p.1 ++ (ifl ordR 0 p.2.1 ++ apartR p) := by unfold rulesS; rw [List.append_assoc]
  rw [e] at h1 h2 ⊢
  generalize ifl ordR 0 p.2.1 ++ apartR p = X at h1 h2 hX ⊢
  rw [List.findIdx_append] at h1 h2
  rw [List.findIdx_append, List.findIdx_append]
  split at h1
  · omega
  · rename_i h3
    split at h2
    · omega
    · rename_i h4
      rw [if_neg h3, if_neg h4]
      have key : ∀ l : List Rul, (∀ r ∈ l, RulOk p r ∧ r.1 ≠ kW) → (l.findIdx fun r => !holdS p t r) = l.findIdx fun r => !holdS p (movS b t) r := fun l => by
        induction l with
        | nil => intro _; rfl
        | cons r l ih =>
          intro hl
          obtain ⟨q1, q2⟩ := hl r (by simp)
          rw [List.findIdx_cons, List.findIdx_cons, mov_hold ht q1 q2, ih fun r hr => hl r (by simp [hr])]
      rw [key X hX]
end Go.Proofs.Tryz
end
section
set_option maxRecDepth 100000
set_option linter.unusedVariables false
set_option linter.unusedSimpArgs false
namespace Go.Proofs.Tryz
open Go Go.Sx
theorem Hol.win {p : Pln} (hp : PV p) {t : List Int} (h : Hol p (rulesS p) t) {i : Nat} (hi : i < p.1.length) : 0 ≤ fL t i ∧ fL t i ≤ 20000 := by
  have h1 := holW.1 (h.rul _ (List.mem_of_getElem? (win_rul hi)))
  have h2 := hp.at (a := (i : Int)) (by omega) (by omega)
  omega
theorem Hol.form {p : Pln} (hp : PV p) {t : List Int} (h : Hol p (rulesS p) t) : formE p t = 0 := by
  unfold formE
  rw [if_neg (by have := h.len; simpa using this), if_neg]
  simp only [List.any_eq_true, decide_eq_true_eq, not_exists, not_and]
  intro x hx
  obtain ⟨i, hi, rfl⟩ := List.mem_iff_getElem.1 hx
  have := h.win hp (i := i) (by rw [← h.len]; exact hi)
  simp only [fL] at this
  rw [getD_some (List.getElem?_eq_getElem hi)] at this
  omega
theorem Hol.brok {p : Pln} {t : List Int} (h : Hol p (rulesS p) t) : (brokS p t).2 = false := by
  unfold brokS
  have : ((rulesS p).findIdx? fun r => !holdS p t r) = none := by
    rw [List.findIdx?_eq_none_iff]
    intro r hr
    simp [h.rul r hr]
  rw [this]
end Go.Proofs.Tryz
end
section
set_option maxRecDepth 100000
set_option linter.unusedVariables false
set_option linter.unusedSimpArgs false
namespace Go.Proofs.Tryz
open Go Go.Sx
def wS (p : Pln) (t : List Int) (k : Nat) : Int := (rq p (k : Int)).2.2.2.2.2.2 - (rq p (k : Int)).2.1 - fL t k
def fsI (t : List Int) (r : Rul) : Int := if tq t r.2.2.1 < tq t r.2.1 then r.2.2.1 else r.2.1
def snI (t : List Int) (r : Rul) : Int := if tq t r.2.2.1 < tq t r.2.1 then r.2.1 else r.2.2.1
def bS (p : Pln) (t : List Int) (r : Rul) : Int := tq t (snI t r) - r.2.2.2 - (rq p (fsI t r)).2.1 - tq t (fsI t r)
theorem fs_in {p : Pln} {t : List Int} {r : Rul} (hr : RulOk p r) : InE p.1.length (fsI t r) ∧ InE p.1.length (snI t r) := by
  unfold fsI snI
  split
  · exact ⟨hr.b, hr.a⟩
  · exact ⟨hr.a, hr.b⟩
theorem kW_of {k : ByteArray} : strEq k kW = true ↔ k = kW := by rw [strEq_dec, decide_eq_true_eq]
theorem kO_of {k : ByteArray} : strEq k kO = true ↔ k = kO := by rw [strEq_dec, decide_eq_true_eq]
theorem dirS {p : Pln} (hp : PV p) {t : List Int} {r : Rul} (hr : RulOk p r) (hw : r.1 ≠ kW) (h : holdS p t r = true) :
    (fsI t r = r.2.1 ∧ snI t r = r.2.2.1 ∨ r.1 ≠ kO ∧ fsI t r = r.2.2.1 ∧ snI t r = r.2.1) ∧ 0 ≤ bS p t r := by
  have ha := (hp.at hr.a.1 hr.a.2).1
  have hb := (hp.at hr.b.1 hr.b.2).1
  have hg := hr.gap
  unfold holdS at h
  rw [if_neg (fun e => hw (kW_of.1 e))] at h
  have d1 : befS p t r.2.1 r.2.2.1 r.2.2.2 = true → (fsI t r = r.2.1 ∧ snI t r = r.2.2.1) ∧ 0 ≤ bS p t r := fun h => by
    unfold befS at h
    have h := of_decide_eq_true h
    have hn : ¬ tq t r.2.2.1 < tq t r.2.1 := by omega
    unfold bS fsI snI
    simp only [if_neg hn]
    exact ⟨⟨trivial, trivial⟩, by omega⟩
  by_cases ho : strEq r.1 kO = true
  · rw [if_pos ho] at h
    obtain ⟨a, b⟩ := d1 h
    exact ⟨.inl a, b⟩
  · rw [if_neg ho, Bool.or_eq_true] at h
    rcases h with h | h
    · obtain ⟨a, b⟩ := d1 h
      exact ⟨.inl a, b⟩
    · unfold befS at h
      have h := of_decide_eq_true h
      have hn : tq t r.2.2.1 < tq t r.2.1 := by omega
      unfold bS fsI snI
      simp only [if_pos hn]
      exact ⟨.inr ⟨fun e => ho (kO_of.2 e), trivial, trivial⟩, by omega⟩
structure SlkS (p : Pln) (t : List Int) (L : List Rul) (s : List Int) : Prop where
  len : s.length = p.1.length
  le : ∀ k, k < p.1.length → fL s k ≤ wS p t k
  leR : ∀ r ∈ L, r.1 ≠ kW → fL s (fsI t r).toNat ≤ bS p t r
  eq : ∀ k, k < p.1.length → fL s k = wS p t k ∨ ∃ r ∈ L, r.1 ≠ kW ∧ fsI t r = (k : Int) ∧ fL s k = bS p t r
theorem SlkS.nn {p : Pln} (hp : PV p) {t : List Int} (ht : Hol p (rulesS p) t) {L : List Rul} (hL : ∀ r ∈ L, r ∈ rulesS p) {s : List Int} (h : SlkS p t L s) {k : Nat} (hk : k < p.1.length) : 0 ≤ fL s k ∧ fL s k ≤ 20000 := by
  have h1 := holW.1 (ht.rul _ (List.mem_of_getElem? (win_rul hk)))
  have h2 := hp.at (a := (k : Int)) (by omega) (by omega)
  have h3 := h.le k hk
  unfold wS at h3
  refine ⟨?_, by omega⟩
  rcases h.eq k hk with e | ⟨r, hr, hw, -, e⟩
  · rw [e]
    unfold wS
    omega
  · rw [e]
    exact (dirS hp (hp.rulM r (hL r hr)) hw (ht.rul r (hL r hr))).2
theorem set_tq {p : Pln} {t : List Int} (ht : t.length = p.1.length) {k : Nat} (hk : k < p.1.length) {v a : Int} (ha : InE p.1.length a) : tq (t.set k v) a = if a = (k : Int) then v else tq t a := by
  have h1 := ha.1
  have h2 := ha.2
  show fL (t.set k v) a.toNat = _
  rw [fL_set (by omega)]
  by_cases h : a = (k : Int)
  · rw [if_pos h, if_pos (by omega)]
  · rw [if_neg h, if_neg (by omega)]
theorem slk_ok {p : Pln} (hp : PV p) {t : List Int} (ht : Hol p (rulesS p) t) {s : List Int} (h : SlkS p t (rulesS p) s) {k : Nat} (hk : k < p.1.length) : Hol p (rulesS p) (t.set k (fL t k + fL s k)) := by
  have hs := h.nn hp ht (fun _ h => h) hk
  have htk := ht.win hp hk
  have hset := fun {v a : Int} => set_tq (p := p) (v := v) (a := a) ht.len hk
  refine ⟨by rw [List.length_set]; exact ht.len, fun i hi => ?_, fun r hr => ?_⟩
  · have := hset (v := fL t k + fL s k) (a := (i : Int)) ⟨by omega, by omega⟩
    have e : fL (t.set k (fL t k + fL s k)) i = tq (t.set k (fL t k + fL s k)) (i : Int) := by simp only [fL, tq, Int.toNat_natCast]
    rw [e, this]
    have h0 := ht.rng i hi
    split
    · omega
    · simp only [fL, tq, Int.toNat_natCast] at h0 ⊢
      exact h0
  · have hro := hp.rulM r hr
    have hh := ht.rul r hr
    by_cases hw : r.1 = kW
    · obtain ⟨j, hj⟩ := List.mem_iff_getElem?.1 hr
      rcases rul_cases hj with ⟨h1, rfl⟩ | ⟨h1, h2, o, ho, rfl⟩ | ⟨h1, a, b, x, y, hab, hx, hy, hm⟩
      · rw [holW] at hh ⊢
        have e : fL (t.set k (fL t k + fL s k)) j = if j = k then fL t k + fL s k else fL t j := fL_set (by rw [ht.len]; exact hk)
        rw [e]
        split
        · rename_i hjk
          subst hjk
          have := h.le j h1
          unfold wS at this
          omega
        · exact hh
      · exact absurd hw (kne sOW)
      · rcases pairR_mem hm with rfl | rfl | rfl
        · exact absurd hw (kne sAW)
        · exact absurd hw (kne sFW)
        · exact absurd hw (kne sTW)
    · obtain ⟨hdir, hb0⟩ := dirS hp hro hw hh
      have hle := h.leR r hr hw
      have hin := fs_in (t := t) hro
      have hne : fsI t r ≠ snI t r := by
        have := hro.ne hw
        unfold fsI snI
        split <;> omega
      have u1 := hset (v := fL t k + fL s k) hin.1
      have u2 := hset (v := fL t k + fL s k) hin.2
      have key : tq (t.set k (fL t k + fL s k)) (fsI t r) + ((rq p (fsI t r)).2.1 + r.2.2.2) ≤ tq (t.set k (fL t k + fL s k)) (snI t r) := by
        rw [u1, u2]
        unfold bS at hle hb0
        by_cases e1 : fsI t r = (k : Int)
        · rw [if_pos e1, if_neg (fun e2 => hne (e1.trans e2.symm))]
          rw [e1] at hle hb0 ⊢
          have e3 : tq t (k : Int) = fL t k := by simp only [fL, tq, Int.toNat_natCast]
          rw [e3] at hle
          rw [Int.toNat_natCast] at hle
          omega
        · rw [if_neg e1]
          split
          · rename_i e2
            rw [e2] at hb0
            have e3 : tq t (k : Int) = fL t k := by simp only [fL, tq, Int.toNat_natCast]
            rw [e3] at hb0
            omega
          · omega
      generalize t.set k (fL t k + fL s k) = u at key
      unfold holdS
      rw [if_neg (fun e => hw (kW_of.1 e))]
      rcases hdir with ⟨e1, e2⟩ | ⟨ho, e1, e2⟩
      · rw [e1, e2] at key
        have hbf : befS p u r.2.1 r.2.2.1 r.2.2.2 = true := decide_eq_true (by omega)
        split
        · exact hbf
        · rw [hbf]; rfl
      · rw [e1, e2] at key
        have hbf : befS p u r.2.2.1 r.2.1 r.2.2.2 = true := decide_eq_true (by omega)
        rw [if_neg (fun e => ho (kO_of.1 e)), hbf, Bool.or_true]
theorem slk_bad {p : Pln} (hp : PV p) {t : List Int} (ht : Hol p (rulesS p) t) {s : List Int} (h : SlkS p t (rulesS p) s) {k : Nat} (hk : k < p.1.length) : ¬ ∀ r ∈ rulesS p, holdS p (t.set k (fL t k + fL s k + 1)) r = true := by
  intro hall
  have hset := fun {v a : Int} => set_tq (p := p) (v := v) (a := a) ht.len hk
  rcases h.eq k hk with e | ⟨r, hr, hw, hf, e⟩
  · have h1 := holW.1 (hall _ (List.mem_of_getElem? (win_rul hk)))
    have e2 : fL (t.set k (fL t k + fL s k + 1)) k = fL t k + fL s k + 1 := by rw [fL_set (by rw [ht.len]; exact hk), if_pos rfl]
    rw [e2, e] at h1
    unfold wS at h1
    omega
  · have hro := hp.rulM r hr
    have ha := (hp.at hro.a.1 hro.a.2).1
    have hb := (hp.at hro.b.1 hro.b.2).1
    have hg := hro.gap
    have hh := hall r hr
    have hne := hro.ne hw
    have u1 := hset (v := fL t k + fL s k + 1) hro.a
    have u2 := hset (v := fL t k + fL s k + 1) hro.b
    generalize t.set k (fL t k + fL s k + 1) = u at u1 u2 hh
    have e3 : tq t (k : Int) = fL t k := by simp only [fL, tq, Int.toNat_natCast]
    obtain ⟨hdir, -⟩ := dirS hp hro hw (ht.rul r hr)
    unfold bS at e
    unfold holdS at hh
    rw [if_neg (fun e => hw (kW_of.1 e))] at hh
    have hor : befS p u r.2.1 r.2.2.1 r.2.2.2 = true ∨ (r.1 ≠ kO ∧ befS p u r.2.2.1 r.2.1 r.2.2.2 = true) := by
      split at hh
      · exact .inl hh
      · rename_i ho
        rw [Bool.or_eq_true] at hh
        exact hh.imp id fun x => ⟨fun e => ho (kO_of.2 e), x⟩
    rcases hdir with ⟨e1, e2⟩ | ⟨ho, e1, e2⟩
    · rw [e1] at hf
      rw [e1, e2, hf, e3] at e
      rw [hf] at u1 ha hne
      rw [if_pos rfl] at u1
      rw [if_neg (fun x => hne x.symm)] at u2
      rcases hor with hx | ⟨-, hx⟩
      · have hx := of_decide_eq_true hx
        rw [hf, u1, u2] at hx
        omega
      · have hx := of_decide_eq_true hx
        rw [hf, u1, u2] at hx
        omega
    · rw [e1] at hf
      rw [e1, e2, hf, e3] at e
      rw [hf] at u2 hb hne
      rw [if_pos rfl] at u2
      rw [if_neg hne] at u1
      rcases hor with hx | ⟨-, hx⟩
      · have hx := of_decide_eq_true hx
        rw [hf, u1, u2] at hx
        omega
      · have hx := of_decide_eq_true hx
        rw [hf, u1, u2] at hx
        omega
end Go.Proofs.Tryz
end

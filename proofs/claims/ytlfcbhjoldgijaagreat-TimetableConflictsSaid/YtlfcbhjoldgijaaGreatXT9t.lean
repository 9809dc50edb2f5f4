/- Plain law: the program's search is the search of T9s. Plain law: ends and orders of tables. And further parts. -/
import Derived.Test.YtlfcbhjoldgijaaGreatXT9n
import Derived.Test.YtlfcbhjoldgijaaGreatXTtT
set_option maxRecDepth 100000
set_option linter.unusedVariables false
set_option linter.unusedSimpArgs false
set_option linter.all false
namespace Go.Proofs.Tryz
open Go Go.Sx
theorem idx_find {α : Type} (l : List α) (p : α → Bool) : (l.find? p = none ∧ idxS l p = -1) ∨ ∃ (i : Nat) (r : α), l.find? p = some r ∧ idxS l p = (i : Int) ∧ l[i]? = some r ∧ i < l.length := by
  unfold idxS
  cases h : l.findIdx? p with
  | none =>
    refine .inl ⟨?_, rfl⟩
    rw [List.findIdx?_eq_none_iff] at h
    rw [List.find?_eq_none]
    intro x hx
    simp [h x hx]
  | some i =>
    obtain ⟨hi, h1, h2⟩ := List.findIdx?_eq_some_iff_getElem.1 h
    refine .inr ⟨i, l[i], ?_, rfl, List.getElem?_eq_getElem hi, hi⟩
    rw [List.find?_eq_some_iff_getElem]
    exact ⟨h1, i, hi, rfl, fun j hj => by have := h2 j hj; simpa using this⟩
theorem x144 (F : Nat) (a) : cx144_0 F a = cx133_0 F a := by kernel_rfl
theorem x132 {F : Nat} {p : Pln} {t : List Int} (h : PV p) (ht : TOk p t) {A : List Rul} (hA : ∀ r ∈ A, RulOk p r) (hl : A.length < F) (hl2 : A.length ≤ 3000) : cx132_1 F (A, (), p, t, ()) = some (idxS A fun r => !holdS p t r) := by
  unfold cx132_1
  rw [idx_loop A (fun r => !holdS p t r) hl ?_ ?_]
  · intro i r hil hi
    simp (disch := omega) only [cd_pos, gd_dec, Int.toNat_natCast, getD_some hi, w64_in, peta, x144, x133 h ht (hA r (List.mem_of_getElem? hi)), Option.bind_some]
    cases holdS p t r <;> simp
  · simp (disch := omega) only [cd_neg]
structure SIn (p : Pln) (low high : List Int) (A : List Rul) : Prop where
  pv : PV p
  n1 : low.length = p.1.length
  n2 : high.length = p.1.length
  low : InB 20000 low
  high : ∀ i, i < p.1.length → fL high i ≤ 4398046511104
  apart : ∀ r ∈ A, RulP p r
  len : A.length ≤ 3000
theorem SIn.tok {p : Pln} {low high : List Int} {A : List Rul} (h : SIn p low high A) {E : List Edg} {t : List Int} (ht : TabW low high E t) : TOk p t := by
  refine TOk.ofB (ht.len.trans h.n1) ?_
  intro x hx
  obtain ⟨i, hi, rfl⟩ := List.mem_iff_getElem.1 hx
  have hil : i < low.length := by rw [← ht.len]; exact hi
  have a1 := ht.lo i hil
  have a2 := ht.hi i hil
  have a3 := h.high i (by rw [← h.n1]; exact hil)
  have a4 := h.low.at hil
  have e : fL t i = t[i] := by simp only [fL]; rw [getD_some (List.getElem?_eq_getElem hi)]
  simp only [fL] at a1 a2 a3 e
  omega
theorem RulP.ew {p : Pln} (hp : PV p) {r : Rul} (h : RulP p r) : EW p.1.length (e1 p r) ∧ EW p.1.length (e2 p r) := by
  have h1 := hp.at h.1.a.1 h.1.a.2
  have h2 := hp.at h.1.b.1 h.1.b.2
  have h3 := h.1.gap
  exact ⟨⟨⟨h.1.a, h.1.b⟩, by simp only [e1]; omega, by simp only [e1]; omega⟩, ⟨⟨h.1.b, h.1.a⟩, by simp only [e2]; omega, by simp only [e2]; omega⟩⟩
theorem gd_rec {n : Nat} {X : Type} (i : Decidable (n = n)) (r : Option X) : gd (Decidable.rec (motive := fun _ => Bool) (fun h => (fun _ => false) h) (fun h => (fun _ => true) h) i && true) r = r := by
  rw [dec_rec i rfl]
  rfl
theorem gd3 {X Y : Type} (e : X → X → Bool) (he : EqRf e) (x : X) (k : X → Option Y) : (Option.bind (gd (e x x) (some x)) fun v => Option.bind (gd (e x x) (some x)) fun v' => gd (e v v') (some v)).bind k = k x := by
  have h : gd (e x x) (some x) = some x := by rw [he x]; rfl
  simp only [h, Option.bind_some]
theorem b143 {g : _ → Option (Bool × Bool)} {F : Nat} (hF : 4000 ≤ F) {p : Pln} {low high : List Int} {A : List Rul} (h : SIn p low high A) {E : List Edg} (hE : ∀ e ∈ E, EW p.1.length e) (hEl : E.length ≤ 3000) (out : Bool) :
    bx143_0 g F (E, (low, high), (), A, (), p, (), (), (), out) =
      if (earlS low high E).2 = true then
        match find1 p A (earlS low high E).1 with
        | none => some (true, true)
        | some r => match g (E ++ [e1 p r], (low, high), (), A, (), p, (), (), (), out) with
          | none => none
          | some (true, s1) => some (true, s1)
          | some (false, s1) => g (E ++ [e2 p r], (low, high), (), A, (), p, (), (), (), s1)
      else some (false, out) := by
  have hn := h.pv.n1
  unfold bx143_0
  simp only [peta]
  rw [l66 hF (by rw [h.n1]; omega) (h.n2.trans h.n1.symm) (by rw [h.n1]; exact hE) hEl (h.low.mono (by omega))]
  simp only [Option.bind_some]
  cases hb : (earlS low high E).2 with
  | false => simp
  | true =>
    obtain ⟨hw, -⟩ := earl_true (h.n2.trans h.n1.symm) (fun e he => by rw [h.n1]; exact (hE e he).1) hb
    have hT := h.tok hw
    generalize (earlS low high E).1 = t at hw hT
    simp only [Bool.not_true, cond_false, Option.bind_some, x132 h.pv hT (fun r hr => (h.apart r hr).1) (show A.length < F by have := h.len; omega) h.len]
    unfold find1
    rcases idx_find A (fun r => !holdS p t r) with ⟨h1, h2⟩ | ⟨i, r, h1, h2, h3, h4⟩
    · rw [h1, h2]
      simp
    · rw [h1, h2]
      have hr := h.apart r (List.mem_of_getElem? h3)
      have ha := h.pv.at hr.1.a.1 hr.1.a.2
      have hb := h.pv.at hr.1.b.1 hr.1.b.2
      have hg := hr.1.gap
      have ha' := hr.1.a
      have hb' := hr.1.b
      have hlen := h.len
      have hnn : ¬ (i : Int) < 0 := by omega
      have w1 : w64 ((p.1.getD r.2.1.toNat (ByteArray.empty, (0 : Int), nilT ByteArray, nilT ByteArray, nilT ByteArray, (0 : Int), (0 : Int))).2.1 + r.2.2.2) = (rq p r.2.1).2.1 + r.2.2.2 := by
        show w64 ((rq p r.2.1).2.1 + r.2.2.2) = _
        exact w64_in (by omega) (by omega)
      have w2 : w64 ((p.1.getD r.2.2.1.toNat (ByteArray.empty, (0 : Int), nilT ByteArray, nilT ByteArray, nilT ByteArray, (0 : Int), (0 : Int))).2.1 + r.2.2.2) = (rq p r.2.2.1).2.1 + r.2.2.2 := by
        show w64 ((rq p r.2.2.1).2.1 + r.2.2.2) = _
        exact w64_in (by omega) (by omega)
      have E1 : E ++ (r.2.1, r.2.2.1, (rq p r.2.1).2.1 + r.2.2.2) :: nilT (Int × Int × Int) = E ++ [e1 p r] := rfl
      have E2 : E ++ (r.2.2.1, r.2.1, (rq p r.2.2.1).2.1 + r.2.2.2) :: nilT (Int × Int × Int) = E ++ [e2 p r] := rfl
      have L1 : (E ++ [e1 p r]).length = E.length + 1 := by simp
      have L2 : (E ++ [e2 p r]).length = E.length + 1 := by simp
      simp (disch := omega) only [hnn, decide_false, cond_false, gd_dec, Int.toNat_natCast, getD_some h3, List.drop_zero, List.take_length, w1, w2, E1, E2, gd_rec, gd_alts, decide_true, gd_true]
      cases hG : g (E ++ [e1 p r], (low, high), (), A, (), p, (), (), (), out) with
      | none => simp
      | some x =>
        obtain ⟨b1, o1⟩ := x
        cases b1 with
        | true =>
          simp only [Option.bind_some, cond_true, if_true]
          exact (gd3 (X := AltsEl _) (AltsEl.eqv _) (AltsEl.eqv_rf _) _ _).trans rfl
        | false =>
          simp only [Option.bind_some, cond_false, if_true]
          cases hH : g (E ++ [e2 p r], (low, high), (), A, (), p, (), (), (), o1) with
          | none => simp
          | some y =>
            simp only [Option.bind_some]
            exact (gd3 (X := AltsEl _) (AltsEl.eqv _) (AltsEl.eqv_rf _) _ _).trans rfl
def lexI : List Int → List Int → Int
  | [], [] => 0
  | [], _ :: _ => -1
  | _ :: _, [] => 1
  | a :: l, b :: m => if a < b then -1 else if b < a then 1 else lexI l m
theorem lexI_self : ∀ l, lexI l l = 0
  | [] => rfl
  | a :: l => by simp [lexI, lexI_self l]
theorem lexI_eq : ∀ {l m}, lexI l m = 0 → l = m
  | [], [], _ => rfl
  | [], _ :: _, h => by simp [lexI] at h
  | _ :: _, [], h => by simp [lexI] at h
  | a :: l, b :: m, h => by
    unfold lexI at h
    split at h
    · omega
    · split at h
      · omega
      · rw [lexI_eq h, show a = b by omega]
theorem lexI_neg : ∀ l m, lexI m l = - lexI l m
  | [], [] => rfl
  | [], _ :: _ => rfl
  | _ :: _, [] => rfl
  | a :: l, b :: m => by
    unfold lexI
    by_cases h : a < b
    · have : ¬ b < a := by omega
      simp [h, this]
    · by_cases h2 : b < a
      · simp [h, h2]
      · simp only [h, h2, if_false]
        exact lexI_neg l m
theorem lexI_trans : ∀ {l m n : List Int}, lexI l m ≤ 0 → lexI m n ≤ 0 → lexI l n ≤ 0
  | [], _, [], _, _ => by simp [lexI]
  | [], _, _ :: _, _, _ => by simp [lexI]
  | a :: l, [], _, h, _ => by simp [lexI] at h
  | a :: l, b :: m, [], _, h => by simp [lexI] at h
  | a :: l, b :: m, c :: n, h1, h2 => by
    unfold lexI at h1 h2 ⊢
    by_cases a1 : a < b
    · have : a < c := by
        by_cases b1 : b < c
        · omega
        · rw [if_neg b1] at h2
          by_cases b2 : c < b
          · rw [if_pos b2] at h2; omega
          · omega
      rw [if_pos this]; omega
    · rw [if_neg a1] at h1
      by_cases a2 : b < a
      · rw [if_pos a2] at h1; omega
      · rw [if_neg a2] at h1
        have hab : a = b := by omega
        subst hab
        by_cases b1 : a < c
        · rw [if_pos b1]; omega
        · rw [if_neg b1] at h2 ⊢
          by_cases b2 : c < a
          · rw [if_pos b2] at h2; omega
          · rw [if_neg b2] at h2 ⊢
            exact lexI_trans h1 h2
theorem lex_loop {step : Int → Option (Int ⊕ (Int ⊕ Unit))} {a b : List Int} (h1 : ∀ (i : Nat) x y, a[i]? = some x → b[i]? = some y → step (i : Int) = some (if x < y then .inr (.inl (-1)) else if y < x then .inr (.inl 1) else .inl ((i : Int) + 1)))
    (h2 : ∀ (i : Nat) x, a[i]? = some x → b.length ≤ i → step (i : Int) = some (.inr (.inl 1))) (h3 : step (a.length : Int) = some (.inr (.inr ()))) :
    ∀ (k i : Nat), i + k = a.length → ∀ G, k < G → ∃ v, loopO step G (i : Int) = some v ∧ Sum.elim (fun x => x) (fun _ => if a.length < b.length then (-1 : Int) else 0) v = lexI (a.drop i) (b.drop i)
  | k, i, hi, 0, hG => by omega
  | 0, i, hi, G + 1, hG => by
    have h0 : a.drop i = [] := List.drop_of_length_le (by omega)
    obtain rfl : i = a.length := by omega
    rw [h0]
    simp only [loopO, h3]
    refine ⟨_, rfl, ?_⟩
    simp only [Sum.elim_inr]
    by_cases hb2 : a.length < b.length
    · cases hd : b.drop a.length with
      | nil => have := congrArg List.length hd; simp at this; omega
      | cons x l => simp [lexI, hb2]
    · have : b.drop a.length = [] := List.drop_of_length_le (by omega)
      rw [this]
      simp [lexI, hb2]
  | k + 1, i, hi, G + 1, hG => by
    have hia : i < a.length := by omega
    rw [List.drop_eq_getElem_cons hia]
    by_cases hib : b.length ≤ i
    · have : b.drop i = [] := List.drop_of_length_le hib
      rw [this]
      simp only [loopO, h2 i _ (List.getElem?_eq_getElem hia) hib]
      exact ⟨_, rfl, rfl⟩
    · have hib' : i < b.length := by omega
      rw [List.drop_eq_getElem_cons hib']
      simp only [loopO, h1 i _ _ (List.getElem?_eq_getElem hia) (List.getElem?_eq_getElem hib')]
      unfold lexI
      by_cases g1 : a[i] < b[i]
      · simp only [g1, if_true]
        exact ⟨_, rfl, rfl⟩
      · by_cases g2 : b[i] < a[i]
        · simp only [g1, g2, if_true, if_false]
          exact ⟨_, rfl, rfl⟩
        · simp only [g1, g2, if_false]
          exact lex_loop h1 h2 h3 k (i + 1) (by omega) G (by omega)
theorem bind_lex {γ : Type} {step : Int → Option (Int ⊕ (Int ⊕ Unit))} {a b : List Int} {F : Nat} {k : Int ⊕ Unit → Option γ} {r : Option γ} (hF : a.length < F) (h1 : ∀ (i : Nat) x y, a[i]? = some x → b[i]? = some y → step (i : Int) = some (if x < y then .inr (.inl (-1)) else if y < x then .inr (.inl 1) else .inl ((i : Int) + 1)))
    (h2 : ∀ (i : Nat) x, a[i]? = some x → b.length ≤ i → step (i : Int) = some (.inr (.inl 1))) (h3 : step (a.length : Int) = some (.inr (.inr ())))
    (hk : ∀ v, Sum.elim (fun x => x) (fun _ => if a.length < b.length then (-1 : Int) else 0) v = lexI a b → k v = r) : Option.bind (loopO step F (0 : Int)) k = r := by
  obtain ⟨v, e1, e2⟩ := lex_loop h1 h2 h3 a.length 0 (by omega) F hF
  rw [show loopO step F (0 : Int) = some v from e1]
  exact hk v e2
theorem l77 {F : Nat} {a b : List Int} (ha : a.length < F) (hl : a.length ≤ 1000) (hb : b.length ≤ 1000) : c77 F (a, b) = some (lexI a b) := by
  unfold c77
  refine bind_lex (a := a) (b := b) ha ?_ ?_ ?_ ?_
  · intro i x y hx hy
    have hia : i < a.length := (List.getElem?_eq_some_iff.1 hx).1
    have hib : i < b.length := (List.getElem?_eq_some_iff.1 hy).1
    simp (disch := omega) only [cd_pos, cd_neg, gd_dec, Int.toNat_natCast, getD_some hx, getD_some hy, l117, Option.bind_some]
    by_cases h1 : x < y
    · simp [h1]
    · by_cases h2 : y < x
      · simp [h1, h2]
      · simp (disch := omega) only [h1, h2, if_false, decide_true, Bool.not_true, cond_false, w64_in]
  · intro i x hx hib
    have hia : i < a.length := (List.getElem?_eq_some_iff.1 hx).1
    simp (disch := omega) only [cd_pos, gd_dec]
  · simp (disch := omega) only [cd_neg]
  · intro v hv
    rw [← hv]
    cases v with
    | inl x => rfl
    | inr u => simp only [Sum.elim_inr]; by_cases h : a.length < b.length <;> simp [h]
def fitB (_ : Bool) (_ : List Int) : Bool := true
def fitF (_ : Bool) (_ : List Int) : Bool × Bool := (true, true)
theorem ew_app {n : Nat} {E : List Edg} {e : Edg} (hE : ∀ e ∈ E, EW n e) (he : EW n e) : ∀ x ∈ E ++ [e], EW n x := fun x hx => by
  rcases List.mem_append.1 hx with h | h
  · exact hE x h
  · rw [List.mem_singleton.1 h]; exact he
theorem branch {p : Pln} {low high : List Int} {A : List Rul} (h : SIn p low high A) {E : List Edg} {r : Rul} (hE : ∀ e ∈ E, EW p.1.length e) (hc : (earlS low high E).2 = true) (hf : find1 p A (earlS low high E).1 = some r) (hl : E.length + (openR p A E).length ≤ 3000) :
    (E ++ [e1 p r]).length + (openR p A (E ++ [e1 p r])).length ≤ 3000 ∧ (E ++ [e2 p r]).length + (openR p A (E ++ [e2 p r])).length ≤ 3000 := by
  obtain ⟨hw, -⟩ := earl_true (h.n2.trans h.n1.symm) (fun e he => by rw [h.n1]; exact (hE e he).1) hc
  obtain ⟨hrA, hrb⟩ := find1_some hf
  have hrp := h.apart r hrA
  have n1 : ¬ e1 p r ∈ E := fun he => by
    have := (hold_or hrp (t := (earlS low high E).1)).2 (.inl (SolF.one.2 (hw.sol _ he)))
    rw [this] at hrb; cases hrb
  have n2 : ¬ e2 p r ∈ E := fun he => by
    have := (hold_or hrp (t := (earlS low high E).1)).2 (.inr (SolF.one.2 (hw.sol _ he)))
    rw [this] at hrb; cases hrb
  have l1 := openR_lt (e := e1 p r) hrA n1 n2 (.inl rfl)
  have l2 := openR_lt (e := e2 p r) hrA n1 n2 (.inr rfl)
  simp only [List.length_append, List.length_cons, List.length_nil]
  constructor <;> omega
theorem r143 {F : Nat} (hF : 4000 ≤ F) {p : Pln} {low high : List Int} {A : List Rul} (h : SIn p low high A) : ∀ (k : Nat) (E : List Edg) (out : Bool), (∀ e ∈ E, EW p.1.length e) → E.length + (openR p A E).length ≤ 3000 →
    rx143_0 F k (E, (low, high), (), A, (), p, (), (), (), out) = tryS p low high A fitB fitF k E out
  | 0, E, out, hE, hl => rfl
  | k + 1, E, out, hE, hl => by
    show bx143_0 (rx143_0 F k) F (E, (low, high), (), A, (), p, (), (), (), out) = _
    rw [b143 hF h hE (by omega)]
    unfold tryS
    by_cases hc : (earlS low high E).2 = true
    · rw [if_pos hc, if_pos ⟨hc, rfl⟩]
      cases hf : find1 p A (earlS low high E).1 with
      | none => rfl
      | some r =>
        have hr := h.apart r (find1_some hf).1
        obtain ⟨w1, w2⟩ := hr.ew h.pv
        obtain ⟨k1, k2⟩ := branch h hE hc hf hl
        simp only
        rw [r143 hF h k _ out (ew_app hE w1) k1]
        cases tryS p low high A fitB fitF k (E ++ [e1 p r]) out with
        | none => rfl
        | some x =>
          obtain ⟨b, o⟩ := x
          cases b with
          | true => rfl
          | false => exact r143 hF h k _ o (ew_app hE w2) k2
    · rw [if_neg hc, if_neg (fun x => hc x.1)]
structure Hol (p : Pln) (L : List Rul) (f : List Int) : Prop where
  len : f.length = p.1.length
  rng : ∀ i, i < p.1.length → 0 ≤ fL f i ∧ fL f i ≤ 1099511627776
  rul : ∀ r ∈ L, holdS p f r = true
theorem win_any {L : List Rul} {i : Nat} : L.any (isW i) = true ↔ ∃ r ∈ L, strEq r.1 kW = true ∧ r.2.1 = (i : Int) := by
  rw [List.any_eq_true]
  simp only [isW, Bool.and_eq_true, decide_eq_true_eq]
theorem sol_hol {p : Pln} (hp : PV p) {L : List Rul} {s : OpS} (ho : OpenOk p L s) (hR : ∀ r ∈ L, RulOk p r) (f : List Int) : SolS p s.1 s.2.1 s.2.2.2 s.2.2.1 f ↔ Hol p L f := by
  constructor
  · intro h
    have hlen := h.tab.len.trans ho.n1
    refine ⟨hlen, fun i hi => ?_, fun r hr => ?_⟩
    · have a := h.tab.lo i (by rw [ho.n1]; exact hi)
      have b := h.tab.hi i (by rw [ho.n1]; exact hi)
      have c := ho.low i hi
      have d := ho.high i hi
      have e := hp.at (a := (i : Int)) (by omega) (by omega)
      simp only [fL] at a b ⊢
      rw [c] at a
      rw [d] at b
      constructor
      · split at a <;> omega
      · split at b <;> omega
    · have hk := (hR r hr)
      by_cases k1 : strEq r.1 kW = true
      · have hi : r.2.1.toNat < p.1.length := by have := hk.a; omega
        have hany : L.any (isW r.2.1.toNat) = true := win_any.2 ⟨r, hr, k1, by have := hk.a; omega⟩
        have c := ho.low _ hi
        have d := ho.high _ hi
        rw [if_pos hany] at c d
        have a := h.tab.lo _ (show r.2.1.toNat < s.1.length by rw [ho.n1]; exact hi)
        have b := h.tab.hi _ (show r.2.1.toNat < s.1.length by rw [ho.n1]; exact hi)
        have e : ((r.2.1.toNat : Nat) : Int) = r.2.1 := by have := hk.a; omega
        unfold holdS winS
        rw [if_pos k1]
        rw [e] at c d
        simp only [fL] at a b
        simp only [decide_eq_true_eq, tq]
        constructor <;> omega
      · by_cases k2 : strEq r.1 kO = true
        · have hm : edgO p r ∈ s.2.2.1 := by rw [ho.edges]; exact List.mem_map.2 ⟨r, List.mem_filter.2 ⟨hr, k2⟩, rfl⟩
          have a := h.tab.sol _ hm
          unfold holdS befS
          rw [if_neg k1, if_pos k2]
          simp only [edgO, fL] at a
          simp only [decide_eq_true_eq, tq]
          omega
        · refine h.rul r ?_
          rw [ho.apart]
          refine List.mem_filter.2 ⟨hr, ?_⟩
          unfold isP
          simp [k1, k2]
  · intro h
    refine ⟨⟨h.len.trans ho.n1.symm, fun i hi => ?_, fun i hi => ?_, fun e he => ?_⟩, fun r hr => ?_⟩
    · have hi' : i < p.1.length := by rw [← ho.n1]; exact hi
      have c := ho.low i hi'
      have a := h.rng i hi'
      simp only [fL] at a ⊢
      rw [c]
      split
      · rename_i hany
        obtain ⟨r, hr, k1, k2⟩ := win_any.1 hany
        have := h.rul r hr
        unfold holdS winS at this
        rw [if_pos k1] at this
        simp only [decide_eq_true_eq, tq, k2, Int.toNat_natCast] at this
        exact this.1
      · exact a.1
    · have hi' : i < p.1.length := by rw [← ho.n1]; exact hi
      have c := ho.high i hi'
      have a := h.rng i hi'
      simp only [fL] at a ⊢
      rw [c]
      split
      · rename_i hany
        obtain ⟨r, hr, k1, k2⟩ := win_any.1 hany
        have := h.rul r hr
        unfold holdS winS at this
        rw [if_pos k1] at this
        simp only [decide_eq_true_eq, tq, k2, Int.toNat_natCast] at this
        omega
      · exact a.2
    · rw [ho.edges] at he
      obtain ⟨r, hr, rfl⟩ := List.mem_map.1 he
      obtain ⟨hr, k2⟩ := List.mem_filter.1 hr
      have := h.rul r hr
      have k2 : strEq r.1 kO = true := k2
      have k1 : ¬ strEq r.1 kW = true := fun e => by
        rw [strEq_dec] at k2 e
        have e1 := of_decide_eq_true k2
        have e2 := of_decide_eq_true e
        have := sWO
        rw [strEq_dec, ← e1, ← e2] at this
        simp at this
      unfold holdS befS at this
      rw [if_neg k1, if_pos k2] at this
      simp only [decide_eq_true_eq, tq] at this
      simp only [edgO, fL]
      omega
    · rw [ho.apart] at hr
      exact h.rul r (List.mem_filter.1 hr).1
theorem sin_open {p : Pln} (hp : PV p) {L : List Rul} {s : OpS} (ho : OpenOk p L s) (hR : ∀ r ∈ L, RulOk p r) (hl : L.length ≤ 3000) : SIn p s.1 s.2.1 s.2.2.2 := by
  refine ⟨hp, ho.n1, ho.n2, ho.lowB hp, fun i hi => ?_, fun r hr => ?_, ?_⟩
  · have d := ho.high i hi
    have e := hp.at (a := (i : Int)) (by omega) (by omega)
    simp only [fL]
    rw [d]
    split <;> omega
  · rw [ho.apart] at hr
    obtain ⟨h1, h2⟩ := List.mem_filter.1 hr
    exact ⟨hR r h1, h2⟩
  · rw [ho.apart]
    exact Nat.le_trans (List.length_filter_le _ _) hl
theorem two_filter {α : Type} {P Q : α → Bool} : ∀ (l : List α), (∀ x ∈ l, ¬ (P x = true ∧ Q x = true)) → (l.filter P).length + (l.filter Q).length ≤ l.length
  | [], _ => by simp
  | a :: l, h => by
    have := two_filter l fun x hx => h x (by simp [hx])
    have ha := h a (by simp)
    simp only [List.filter_cons, List.length_cons]
    cases hp : P a <;> cases hq : Q a <;> simp [hp, hq] at ha ⊢ <;> omega
theorem open_len {p : Pln} {L : List Rul} {s : OpS} (ho : OpenOk p L s) : s.2.2.1.length + (openR p s.2.2.2 s.2.2.1).length ≤ L.length := by
  have h1 : (openR p s.2.2.2 s.2.2.1).length ≤ s.2.2.2.length := List.length_filter_le _ _
  have h2 : s.2.2.1.length = (L.filter isO).length := by rw [ho.edges, List.length_map]
  have h3 : s.2.2.2.length = (L.filter isP).length := by rw [ho.apart]
  have h4 := two_filter (P := isO) (Q := isP) L fun x _ h => by
    unfold isO isP at h
    simp [h.1] at h
  omega
theorem l83 {F : Nat} (hF : 4000 ≤ F) {p : Pln} (hp : PV p) {L : List Rul} (hL : L.length ≤ 3000) (hR : ∀ r ∈ L, RulOk p r) : ∃ b, c83 F (p, L) = some b ∧ (b = true ↔ ∃ f, Hol p L f) := by
  have ho := openS_ok hR
  have hs := sin_open hp ho hR hL
  have hE := OpenOk.ew hp ho hR
  have hlen := open_len ho
  have key := sol_hol hp ho hR
  unfold c83 cx118_0
  simp only [peta, l63 hF hp hL hR, Option.bind_some]
  generalize openS p L = s at ho hs hE hlen key
  unfold cx143_0
  rw [r143 hF hs F s.2.2.1 false hE (by omega)]
  obtain ⟨⟨b, o⟩, hx⟩ := tryS_some (better := fitB) (found := fitF) hs.n1 hs.n2 hs.apart F s.2.2.1 false (fun e he => (hE e he).1) (by omega)
  rw [hx]
  refine ⟨o, rfl, ?_⟩
  have aim : Aim p s.1 s.2.1 s.2.2.2 s.2.2.1 fitB fitF (fun b s s' => s' = (s || b)) (fun _ _ => False) (fun _ => True) :=
    { refl := fun s => (Bool.or_false s).symm, comp := fun h1 h2 => by rw [h2, h1, Bool.or_false], fnd := fun {s t} _ _ => by cases s <;> rfl, mono := fun _ h => h, g1 := fun h => (nomatch h), g2 := fun h => (nomatch h), q := fun h _ _ => h }
  obtain ⟨h1, h2, -, h4⟩ := tryS_ok aim hs.n1 hs.n2 hs.apart F _ _ _ _ (fun e he => (hE e he).1) (fun _ h => h) hx
  simp only [Bool.false_or] at h1
  subst h1
  constructor
  · intro hb
    obtain ⟨t, ht⟩ := h4 hb
    exact ⟨t, (key t).1 ht⟩
  · rintro ⟨f, hf⟩
    cases o with
    | true => rfl
    | false => exact (h2 rfl f ((key f).2 hf)).elim
noncomputable def lx35 (F : Nat) : LK := lS del84_ok (lC (pc65_ok F) (lS (PF.sm_ok (pf85_ok F)) (lC (pc86_ok F) (lC (pc83_ok F) (lC (pc82_ok F) lN)))))
noncomputable def c35 (F : Nat) (a : TP) : Option (List Int × Int) :=
  Option.bind (c82 F (a.1, a.2.1, a.2.2)) fun (v32 : Int) => bif !decide (v32 = (0 : Int)) then (some ((nilT Int, v32))) else (Option.bind (c65 F (a.1, a.2.1, a.2.2)) fun (v33 : List TU) => Option.bind (c83 F ((a.1, a.2.1, a.2.2), v33)) fun (v34 : Bool) => bif v34 then (some ((nilT Int, (7 : Int)))) else (Option.bind (loopO (σ := List Int × Int) (β := List Int) (fun (v42 : List Int × Int) => let z1 := v42.1 ++ v42.2 :: nilT Int; bif decide (v42.2 < (↑(List.length v33) : Int)) then (gd (decide (List.length v42.1 = List.length v42.1)) (gd (decide (List.length z1 * (8 : Nat) ≤ (140737488355328 : Nat))) (gd (decide (List.length z1 ≤ (9223372036854775807 : Nat))) (Option.bind (gd (decide (List.length z1 = List.length z1) && true && (true && true)) (some ((v42.1 ++ v42.2 :: nilT Int, w64 (v42.2 + (1 : Int)))))) fun (v43 : List Int × Int) => some (Sum.inl v43))))) else (Option.bind (gd (decide (List.length v42.1 = List.length v42.1) && true && true) (some v42.1)) fun (v44 : List Int) => some (Sum.inr v44))) F ((nilT Int, (0 : Int)))) fun (v35 : List Int) => gd (true && (decide (List.length v35 = List.length v35) && true && true)) (Option.bind (loopO (σ := List Int × Int) (β := List Int) (fun (v37 : List Int × Int) => let z2 := (Int.toNat (w64 (v37.2 + (1 : Int)))); bif decide ((0 : Int) ≤ v37.2) then (Option.bind (c85 F v37.1) fun (v38 : List Int) => let z3 := List.take (Int.toNat v37.2) v38 ++ List.drop z2 v38; gd (true && (true && (decide (List.length v38 = List.length v38) && (decide ((0 : Nat) < List.length v38) && (decide ((0 : Int) ≤ v37.2) && (decide (v37.2 ≤ w64 (v37.2 + (1 : Int))) && decide (Int.toNat (w64 (v37.2 + (1 : Int))) ≤ List.length v38))))))) (gd (true && (decide (List.length z3 = List.length z3) && true && true && true && true)) (Option.bind (c86 F (v33, List.take (Int.toNat v37.2) v38 ++ List.drop z2 v38)) fun (v39 : List TU) => Option.bind (c83 F ((a.1, a.2.1, a.2.2), v39)) fun (v40 : Bool) => Option.bind (bif !v40 then (some z3) else (some v37.1)) fun (v41 : List Int) => some (Sum.inl (v41, w64 (v37.2 - (1 : Int))))))) else (some (Sum.inr v37.1))) F ((v35, w64 ((↑(List.length v35) : Int) - (1 : Int))))) fun (v36 : List Int) => some ((v36, (0 : Int))))))
noncomputable def pc35 (F : Nat) : PC := { ats := [.agg [sR, sO, .int .i64]], rts := [.val (.seq [.int .i64]), .val (.int .i64)], code := c35 F }
theorem pc35_ok (F : Nat) : PCOk cx 35 (pc35 F) := qE (lx35 F) (.two .leaf (.two .leaf (.two .leaf (.two .leaf (.two .leaf (.two (.two .leaf (.one (.virt 6 3 [.int .i64] (.loop ⟨[.vec 1 3 [.int .i64], .slot 22 (.val (.int .i64))], [(6, .own 1)]⟩ [(.exit 0, ⟨[.vec 1 3 [.int .i64]], [(6, .own 1)]⟩)] ⟨[29, 22, 25, 26, 27, 28, 6, 7, 24, 23], [1], [1]⟩ F .leaf)))) (.two (.two .leaf (.one (.weak 1 [6] (.sealing 1 3 [.int .i64] (.loop ⟨[.slot 6 (.val (.seq [.int .i64])), .slot 8 (.val (.int .i64))], []⟩ [(.exit 2, ⟨[.slot 6 (.val (.seq [.int .i64]))], []⟩)] ⟨[37, 38, 39, 40, 41, 42, 9, 49, 6, 48, 47, 46, 45, 44, 43, 8, 36, 35, 34, 33], [], []⟩ F (.two .leaf (.two (.one (.two .leaf (.two (.weak 2 [9] (.sealing 2 3 [.int .i64] .leaf)) (.join [(.normal, ⟨[.slot 6 (.val (.seq [.int .i64]))], []⟩)] ⟨[6, 49], [], []⟩ .leaf)))) .leaf))))))) .leaf))))))) f35 (by kernel_rfl) fun a => by kernel_rfl
noncomputable def lx36 (F : Nat) : LK := lC (pc65_ok F) (lC (pc87_ok F) (lC (pc86_ok F) (lC (pc83_ok F) (lC (pc77_ok F) (lC (pc88_ok F) (lC (pc82_ok F) lN))))))
noncomputable def c36 (F : Nat) (a : TP) : Option (List Int × Int) :=
  let z7 := ((2 : Int) ^ (8 : Nat)); let z6 := ((2 : Int) ^ (4 : Nat)); let z5 := (1085102592571150095 : Int); let z4 := ((2 : Int) ^ (2 : Nat)); let z3 := ((2 : Int) ^ (1 : Nat)); let z2 := (3689348814741910323 : Int); let z1 := (6148914691236517205 : Int); Option.bind (c82 F (a.1, a.2.1, a.2.2)) fun (v46 : Int) => bif !decide (v46 = (0 : Int)) then (some ((nilT Int, v46))) else (Option.bind (c65 F (a.1, a.2.1, a.2.2)) fun (v47 : List TU) => let z8 := (↑(List.length v47) : Int); bif decide ((12 : Int) < z8) then (some ((nilT Int, (22 : Int)))) else (Option.bind (loopO (σ := List Int × Bool × Int) (β := List Int × Bool) (fun (v50 : List Int × Bool × Int) => let z12 := Go.IntKind.wrap Go.IntKind.u64 v50.2.2; let z11 := (some ((v50.1, v50.2.1))); let z10 := (Go.IntKind.wrap Go.IntKind.u64 (Go.IntKind.wrap Go.IntKind.u64 (↑(BitVec.toNat (BitVec.ofInt (64 : Nat) (Int.fdiv z12 z3) &&& BitVec.ofInt (64 : Nat) z1)) : Int) + Go.IntKind.wrap Go.IntKind.u64 (↑(BitVec.toNat (BitVec.ofInt (64 : Nat) z12 &&& BitVec.ofInt (64 : Nat) z1)) : Int))); let z9 := (↑(BitVec.toNat (BitVec.ofInt (64 : Nat) (Go.IntKind.wrap Go.IntKind.u64 (Int.fdiv (Go.IntKind.wrap Go.IntKind.u64 (Go.IntKind.wrap Go.IntKind.u64 (↑(BitVec.toNat (BitVec.ofInt (64 : Nat) (Int.fdiv z10 z4) &&& BitVec.ofInt (64 : Nat) z2)) : Int) + Go.IntKind.wrap Go.IntKind.u64 (↑(BitVec.toNat (BitVec.ofInt (64 : Nat) z10 &&& BitVec.ofInt (64 : Nat) z2)) : Int))) z6 + Go.IntKind.wrap Go.IntKind.u64 (Go.IntKind.wrap Go.IntKind.u64 (↑(BitVec.toNat (BitVec.ofInt (64 : Nat) (Int.fdiv z10 z4) &&& BitVec.ofInt (64 : Nat) z2)) : Int) + Go.IntKind.wrap Go.IntKind.u64 (↑(BitVec.toNat (BitVec.ofInt (64 : Nat) z10 &&& BitVec.ofInt (64 : Nat) z2)) : Int)))) &&& BitVec.ofInt (64 : Nat) z5)) : Int); bif decide (v50.2.2 < w64 ((1 : Int) * (2 : Int) ^ Min.min (Int.toNat z8) (64 : Nat))) then (Option.bind (Option.bind (bif v50.2.1 then (some (decide ((↑(List.length v50.1) : Int) < Go.IntKind.wrap Go.IntKind.i64 (↑(BitVec.toNat (BitVec.ofInt (64 : Nat) (Go.IntKind.wrap Go.IntKind.i64 (Go.IntKind.wrap Go.IntKind.u64 (Go.IntKind.wrap Go.IntKind.u64 (Go.IntKind.wrap Go.IntKind.u64 (Go.IntKind.wrap Go.IntKind.u64 z9 + Int.fdiv (Go.IntKind.wrap Go.IntKind.u64 z9) z7) + Int.fdiv (Go.IntKind.wrap Go.IntKind.u64 (Go.IntKind.wrap Go.IntKind.u64 z9 + Int.fdiv (Go.IntKind.wrap Go.IntKind.u64 z9) z7)) ((2 : Int) ^ (16 : Nat))) + Int.fdiv (Go.IntKind.wrap Go.IntKind.u64 (Go.IntKind.wrap Go.IntKind.u64 (Go.IntKind.wrap Go.IntKind.u64 z9 + Int.fdiv (Go.IntKind.wrap Go.IntKind.u64 z9) z7) + Int.fdiv (Go.IntKind.wrap Go.IntKind.u64 (Go.IntKind.wrap Go.IntKind.u64 z9 + Int.fdiv (Go.IntKind.wrap Go.IntKind.u64 z9) z7)) ((2 : Int) ^ (16 : Nat)))) ((2 : Int) ^ (32 : Nat))))) &&& BitVec.ofInt (64 : Nat) (127 : Int))) : Int)))) else (some (false))) fun (v52 : Bool) => bif v52 then z11 else (Option.bind (loopO (σ := List Int × Int) (β := List Int) (fun (v59 : List Int × Int) => let z14 := gd (decide (List.length v59.1 = List.length v59.1) && true && true) (some v59.1); let z13 := v59.1 ++ v59.2 :: nilT Int; bif decide (v59.2 < z8) then (gd (decide ((0 : Int) ≤ v59.2)) (Option.bind (bif decide (Go.IntKind.wrap Go.IntKind.i64 (↑(BitVec.toNat (BitVec.ofInt (64 : Nat) (Int.fdiv v50.2.2 ((2 : Int) ^ Min.min (Int.toNat v59.2) (64 : Nat))) &&& BitVec.ofInt (64 : Nat) (1 : Int))) : Int) = (1 : Int)) then (gd (decide (List.length v59.1 = List.length v59.1)) (gd (decide (List.length z13 * (8 : Nat) ≤ (140737488355328 : Nat))) (gd (decide (List.length z13 ≤ (9223372036854775807 : Nat))) (gd (decide (List.length z13 = List.length z13) && true && true) (some z13))))) else z14) fun (v60 : List Int) => Option.bind (gd (decide (List.length v60 = List.length v60) && true && (true && true)) (some ((v60, w64 (v59.2 + (1 : Int)))))) fun (v61 : List Int × Int) => some (Sum.inl v61))) else (Option.bind z14 fun (v62 : List Int) => some (Sum.inr v62))) F ((nilT Int, (0 : Int)))) fun (v53 : List Int) => Option.bind (bif v50.2.1 then (bif decide ((↑(List.length v53) : Int) = (↑(List.length v50.1) : Int)) then (gd (decide ((0 : Nat) + List.length v53 ≤ List.length v53) && true && true) (Option.bind (c77 F (List.take (List.length v53) (List.drop (0 : Nat) v53), v50.1)) fun (v58 : Int) => some (decide ((0 : Int) < v58)))) else (some (false))) else (some (false))) fun (v54 : Bool) => bif v54 then z11 else (gd (true && (decide (List.length v53 = List.length v53) && true && true && true && true)) (Option.bind (c86 F (v47, v53)) fun (v55 : List TU) => Option.bind (c83 F ((a.1, a.2.1, a.2.2), v55)) fun (v56 : Bool) => Option.bind (bif !v56 then (some ((v53, true))) else z11) fun (v57 : List Int × Bool) => some ((v57.1, v57.2)))))) fun (v51 : List Int × Bool) => some (Sum.inl (v51.1, v51.2, w64 (v50.2.2 + (1 : Int))))) else (some (Sum.inr (v50.1, v50.2.1)))) F ((nilT Int, false, (0 : Int)))) fun (v48 : List Int × Bool) => Option.bind (c88 F (!v48.2, (7 : Int))) fun (v49 : Int) => some ((v48.1, v49))))
noncomputable def pc36 (F : Nat) : PC := { ats := [.agg [sR, sO, .int .i64]], rts := [.val (.seq [.int .i64]), .val (.int .i64)], code := c36 F }
theorem pc36_ok (F : Nat) : PCOk cx 36 (pc36 F) := qE (lx36 F) (.two .leaf (.two .leaf (.two .leaf (.two .leaf (.two .leaf (.two .leaf (.two (.two .leaf (.one (.loop ⟨[.slot 6 (.val (.seq [.int .i64])), .slot 7 (.val (.bool)), .slot 24 (.val (.int .i64))], []⟩ [(.exit 0, ⟨[.slot 6 (.val (.seq [.int .i64])), .slot 7 (.val (.bool))], []⟩)] ⟨[72, 24, 27, 28, 29, 30, 31, 32, 33, 34, 35, 36, 37, 38, 50, 41, 42, 43, 44, 45, 49, 48, 47, 46, 10, 40, 39, 65, 66, 67, 68, 69, 70, 7, 6, 71, 64, 63, 62, 61, 60, 59, 58, 57, 56, 55, 54, 53, 52, 51, 9, 8, 26, 25], [], []⟩ F (.two .leaf (.two .leaf (.two (.join [(.normal, ⟨[.slot 6 (.val (.seq [.int .i64])), .slot 7 (.val (.bool))], []⟩)] ⟨[27, 28, 29, 30, 31, 32, 33, 34, 35, 36, 37, 38, 50, 41, 42, 43, 44, 45, 49, 48, 47, 46, 10, 40, 39, 65, 66, 67, 68, 69, 70, 7, 6, 71, 64, 63, 62, 61, 60, 59, 58, 57, 56, 55, 54, 53, 52, 51, 9, 8, 26], [], []⟩ (.one (.two .leaf (.two (.two (.join [(.normal, ⟨[.slot 35 (.val (.bool))], []⟩)] ⟨[35, 34, 33, 32, 31, 30, 29, 28, 27], [], []⟩ .leaf) .leaf) (.two .leaf (.two (.two .leaf (.one (.virt 9 3 [.int .i64] (.loop ⟨[.vec 1 3 [.int .i64], .slot 38 (.val (.int .i64))], [(9, .own 1)]⟩ [(.exit 2, ⟨[.vec 1 3 [.int .i64]], [(9, .own 1)]⟩)] ⟨[50, 38, 41, 42, 43, 44, 45, 9, 49, 48, 47, 46, 10, 40, 39], [1], [1]⟩ F (.two .leaf (.two .leaf (.two (.one (.two .leaf (.two .leaf (.join [(.normal, ⟨[.vec 1 3 [.int .i64]], [(9, .own 1)]⟩)] ⟨[9, 49, 48, 47, 46], [1], [1]⟩ .leaf)))) .leaf))))))) (.two (.two (.join [(.normal, ⟨[.slot 64 (.val (.bool))], []⟩)] ⟨[64, 63, 62, 61, 60, 59, 58, 57, 56, 55, 54, 53, 52, 51], [], []⟩ .leaf) .leaf) (.two (.weak 1 [9] (.sealing 1 3 [.int .i64] .leaf)) (.join [(.normal, ⟨[.slot 6 (.val (.seq [.int .i64])), .slot 7 (.val (.bool))], []⟩)] ⟨[7, 6, 71], [], []⟩ .leaf))))))))) .leaf)))))) .leaf))))))) f36 (by kernel_rfl) fun a => by kernel_rfl
end Go.Proofs.Tryz

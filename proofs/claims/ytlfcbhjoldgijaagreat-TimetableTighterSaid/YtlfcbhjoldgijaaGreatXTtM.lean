/- Functions of the program as functions of data. By program. Plain law: the proofs of a conflict. And further parts. -/
import Derived.Test.YtlfcbhjoldgijaaGreatXTtR2
import Derived.Test.YtlfcbhjoldgijaaGreatXT9t
import Derived.Test.YtlfcbhjoldgijaaGreatXTtT
set_option maxRecDepth 100000
set_option linter.all false
set_option linter.unusedVariables false
set_option linter.unusedSimpArgs false
section
namespace Go.Proofs.Tryz
open Go Go.Sx
noncomputable section
def c4 (F : Nat) (a : TP) : Option (Bool) :=
  let z2 := (0 : Int); let z1 := (↑(List.length a.1) : Int); Option.bind (c14 F (a.1, a.2.1, a.2.2)) fun (v63 : TP) => let z3 := (v63.1, v63.2.1, v63.2.2); Option.bind (c16 F z3) fun (v64 : Bool) => bif !v64 then (some (true)) else (Option.bind (c19 F z3) fun (v65 : Int) => Option.bind (bif decide (v65 = z2) then (bif decide ((5 : Int) < z1) then (some (decide (z1 ≤ (8 : Int)))) else (some (false))) else (some (false))) fun (v66 : Bool) => bif v66 then (some (true)) else (Option.bind (c23 F (decide ((8 : Int) < z1), (22 : Int))) fun (v67 : Int) => Option.bind (c24 F (v65 :: v67 :: nilT Int)) fun (v68 : Int) => Option.bind (bif decide (v68 = z2) then (Option.bind (c25 F z3) fun (v86 : Bool) => Option.bind (c23 F (!v86, (23 : Int))) fun (v87 : Int) => some (v87)) else (some (v68))) fun (v69 : Int) => Option.bind (c26 F (a.1, a.2.1, a.2.2)) fun (v70 : List Int × Int) => Option.bind (c27 F (a.1, a.2.1, a.2.2)) fun (v71 : Int × Int) => Option.bind (c28 F (a.1, a.2.1, a.2.2)) fun (v72 : List Int × Int) => bif !decide (v69 = z2) then (Option.bind (Option.bind (c29 F (v70.1, v70.2, v69, nilT Int)) fun (v74 : Bool) => bif v74 then (Option.bind (c20 F (v71.1, v71.2, v69, z2)) fun (v75 : Bool) => bif v75 then (Option.bind (c29 F (v72.1, v72.2, v69, nilT Int)) fun (v76 : Bool) => some (v76)) else (some (false))) else (some (false))) fun (v73 : Bool) => some (v73)) else (Option.bind (c30 F z3) fun (v77 : Int) => Option.bind (Option.bind (c31 F z3) fun (v82 : List Int) => Option.bind (c29 F (v70.1, v70.2, z2, v82)) fun (v83 : Bool) => bif !v83 then (some (true)) else (Option.bind (c20 F (v71.1, v71.2, z2, v77)) fun (v84 : Bool) => bif !v84 then (some (true)) else (bif !decide (v72.2 = z2) then (some (true)) else (Option.bind (c32 F (z3, v72.1)) fun (v85 : Int) => some (!decide (v85 = z2)))))) fun (v78 : Bool) => bif v78 then (some (false)) else (Option.bind (c33 F (z3, v72.1)) fun (v79 : Int × Int) => Option.bind (bif decide (v79.2 = z2) then (Option.bind (c34 F (z3, v72.1)) fun (v81 : Int) => some (decide (v81 = v77))) else (some (false))) fun (v80 : Bool) => some (v80)))))
end
end Go.Proofs.Tryz
end
namespace Go.Proofs.Tryz
open Go Go.Sx
abbrev r4 : Rul := (ByteArray.empty, (0 : Int), (0 : Int), (0 : Int))
def pickS (L : List Rul) (ns : List Int) : List Rul := ns.map fun x => L.getD x.toNat r4
theorem Hol.congr {p : Pln} {L M : List Rul} {f : List Int} (h : ∀ r, r ∈ M → r ∈ L) (hf : Hol p L f) : Hol p M f := ⟨hf.len, hf.rng, fun r hr => hf.rul r (h r hr)⟩
theorem ex_eq {α : Type} {v : Option α} {x : α} (h : ∃ r, v = some r ∧ r = x) : v = some x := by
  obtain ⟨r, h1, rfl⟩ := h
  exact h1
def memF (k : Nat) (b : Bool) : List Int := if b = true then [(k : Int)] else []
def memS (B : List Bool) : List Int := ifl memF 0 B
theorem ifl_get {α β : Type} {f : Nat → α → List β} {y : β} : ∀ {l : List α} {k j : Nat} {x : α}, l[j]? = some x → y ∈ f (k + j) x → y ∈ ifl f k l
  | a :: l, k, 0, x, h, hy => by
    simp only [List.getElem?_cons_zero, Option.some.injEq] at h
    subst h
    exact List.mem_append.2 (.inl hy)
  | a :: l, k, j + 1, x, h, hy => by
    rw [List.getElem?_cons_succ] at h
    exact List.mem_append.2 (.inr (ifl_get (k := k + 1) h (by rw [show k + 1 + j = k + (j + 1) by omega]; exact hy)))
def Pos (p : Pln) (B : List Bool) : Prop := ∃ f, Hol p (chS p B) f
theorem Pos.mono {p : Pln} {B C : List Bool} (h : ∀ k : Nat, C[k]? = some true → B[k]? = some true) : Pos p B → Pos p C := fun ⟨f, hf⟩ => ⟨f, hf.congr fun r hr => by
  obtain ⟨k, h1, h2⟩ := mem_chS.1 hr
  exact mem_chS.2 ⟨k, h1, h k h2⟩⟩
def bitsB (m n : Nat) : List Bool := (List.range m).map fun i => decide (n / 2 ^ i % 2 = 1)
def NotB (l best : List Int) : Prop := best.length < l.length ∨ best.length = l.length ∧ lexI best l ≤ 0
theorem NotB.refl (l : List Int) : NotB l l := .inr ⟨rfl, by rw [lexI_self]; exact Int.le_refl _⟩
theorem NotB.trans {a b c : List Int} (h1 : NotB a b) (h2 : NotB b c) : NotB a c := by
  rcases h1 with h1 | ⟨h1, k1⟩ <;> rcases h2 with h2 | ⟨h2, k2⟩
  · exact .inl (by omega)
  · exact .inl (by omega)
  · exact .inl (by omega)
  · exact .inr ⟨by omega, lexI_trans k2 k1⟩
structure SmallN (p : Pln) (m N : Nat) (best : List Int) (any : Bool) : Prop where
  no : any = false → best = [] ∧ ∀ n, n < N → Pos p (bitsB m n)
  yes : any = true → (∃ n, n < N ∧ best = memS (bitsB m n) ∧ ¬ Pos p (bitsB m n)) ∧ ∀ n, n < N → ¬ Pos p (bitsB m n) → NotB (memS (bitsB m n)) best
theorem SmallN.skip {p : Pln} {m N : Nat} {best : List Int} {any : Bool} (h : SmallN p m N best any) (hk : Pos p (bitsB m N) ∨ any = true ∧ NotB (memS (bitsB m N)) best) : SmallN p m (N + 1) best any := by
  refine ⟨fun ha => ⟨(h.no ha).1, fun n hn => ?_⟩, fun ha => ⟨(h.yes ha).1.imp fun n hn => ⟨by omega, hn.2⟩, fun n hn hp => ?_⟩⟩
  · by_cases hnN : n = N
    · subst hnN
      rcases hk with hk | ⟨hk, -⟩
      · exact hk
      · rw [ha] at hk; cases hk
    · exact (h.no ha).2 n (by omega)
  · by_cases hnN : n = N
    · subst hnN
      rcases hk with hk | ⟨-, hk⟩
      · exact absurd hk hp
      · exact hk
    · exact (h.yes ha).2 n (by omega) hp
theorem SmallN.take {p : Pln} {m N : Nat} {best : List Int} {any : Bool} (h : SmallN p m N best any) (hp : ¬ Pos p (bitsB m N)) (hb : any = true → ¬ NotB (memS (bitsB m N)) best) : SmallN p m (N + 1) (memS (bitsB m N)) true := by
  refine ⟨fun h => (nomatch h), fun _ => ⟨⟨N, by omega, rfl, hp⟩, fun n hn hpn => ?_⟩⟩
  by_cases hnN : n = N
  · subst hnN
    exact .refl _
  · cases any with
    | false => exact absurd ((h.no rfl).2 n (by omega)) hpn
    | true =>
      have h1 := (h.yes rfl).2 n (by omega) hpn
      have h2 := hb rfl
      refine h1.trans ?_
      unfold NotB at h2 ⊢
      by_cases c1 : (memS (bitsB m N)).length < best.length
      · exact .inl c1
      · refine .inr ⟨by omega, ?_⟩
        have c2 : ¬ lexI best (memS (bitsB m N)) ≤ 0 := fun h => h2 (.inr ⟨by omega, h⟩)
        have := lexI_neg best (memS (bitsB m N))
        omega
end Go.Proofs.Tryz
section
namespace Go.Proofs.Tryz
open Go Go.Sx
end Go.Proofs.Tryz
end
namespace Go.Proofs.Tryz
open Go Go.Sx
theorem Hol.win {p : Pln} (hp : PV p) {t : List Int} (h : Hol p (rulesS p) t) {i : Nat} (hi : i < p.1.length) : 0 ≤ fL t i ∧ fL t i ≤ 20000 := by
  have h1 := holW.1 (h.rul _ (List.mem_of_getElem? (win_rul hi)))
  have h2 := hp.at (a := (i : Int)) (by omega) (by omega)
  omega
end Go.Proofs.Tryz
section
namespace Go.Proofs.Tryz
open Go Go.Sx
noncomputable section
end
end Go.Proofs.Tryz
end
namespace Go.Proofs.Tryz
open Go Go.Sx
theorem l49 {F : Nat} (hF : 400 ≤ F) {p : Pln} {k : Nat} : ∃ b, c49 F (p, (k : Int)) = some b ∧ (b = true → PShort p ∧ p.1.length ≤ k ∧ p.2.1.length ≤ k ∧ planE p = 0) := by
  unfold c49
  obtain ⟨b, h1, h2⟩ := l16 (F := F) hF (p := p)
  simp only [peta, h1, Option.bind_some]
  cases b with
  | false => exact ⟨false, rfl, fun h => nomatch h⟩
  | true =>
    have hp := h2 rfl
    by_cases a1 : p.1.length ≤ k
    · by_cases a2 : p.2.1.length ≤ k
      · simp (disch := omega) only [cond_true, cd_pos, l19 hF hp.sm, Option.bind_some]
        exact ⟨_, rfl, fun h => ⟨hp, a1, a2, of_decide_eq_true h⟩⟩
      · simp (disch := omega) only [cond_true, cd_pos, cd_neg, Option.bind_some]
        exact ⟨_, rfl, fun h => nomatch h⟩
    · simp (disch := omega) only [cond_true, cd_neg, Option.bind_some]
      exact ⟨_, rfl, fun h => nomatch h⟩
structure IrrS (p : Pln) (l : List Int) : Prop where
  asc : l.Pairwise (· < ·)
  rng : ∀ x ∈ l, 0 ≤ x ∧ x < (rulesS p).length
  bad : ¬ ∃ f, Hol p (pickS (rulesS p) l) f
  min : ∀ i, i < l.length → ∃ f, Hol p (pickS (rulesS p) (l.take i ++ l.drop (i + 1))) f
theorem hol_nil (p : Pln) : ∃ f, Hol p [] f := ⟨List.replicate p.1.length 0, by simp, fun i hi => by simp only [fL]; rw [rep_getD hi]; omega, fun r hr => nomatch hr⟩
theorem IrrS.ne {p : Pln} {l : List Int} (h : IrrS p l) : l ≠ [] := fun e => by
  subst e
  exact h.bad (hol_nil p)
structure RndLe (x y : Rnd) : Prop where
  min : x.2.1 ≤ y.2.1
  from_ : x.2.2.2.2.2.1 ≤ y.2.2.2.2.2.1
  to_ : y.2.2.2.2.2.2 ≤ x.2.2.2.2.2.2
  areas : ∀ s ∈ x.2.2.1, s ∈ y.2.2.1
  off : ∀ s ∈ x.2.2.2.1, s ∈ y.2.2.2.1
  ath : ∀ s ∈ x.2.2.2.2.1, s ∈ y.2.2.2.2.1
theorem RndLe.refl (x : Rnd) : RndLe x x := ⟨Int.le_refl _, Int.le_refl _, Int.le_refl _, fun _ h => h, fun _ h => h, fun _ h => h⟩
structure PlnLe (p q : Pln) : Prop where
  len : p.1.length = q.1.length
  rnd : ∀ (i : Nat) x y, p.1[i]? = some x → q.1[i]? = some y → RndLe x y
  ord : ∀ o ∈ p.2.1, o ∈ q.2.1
  rest : p.2.2 ≤ q.2.2
theorem share_mono {a b c d : List ByteArray} (h1 : ∀ s ∈ a, s ∈ c) (h2 : ∀ s ∈ b, s ∈ d) (h : shareB a b = true) : shareB c d = true := by
  unfold shareB at *
  obtain ⟨x, hx, h⟩ := List.any_eq_true.1 h
  obtain ⟨y, hy, h⟩ := List.any_eq_true.1 h
  exact List.any_eq_true.2 ⟨x, h1 x hx, List.any_eq_true.2 ⟨y, h2 y hy, h⟩⟩
def RulLe (r r' : Rul) : Prop := r'.1 = r.1 ∧ r'.2.1 = r.2.1 ∧ r'.2.2.1 = r.2.2.1 ∧ r.2.2.2 ≤ r'.2.2.2
theorem pairR_le {u v : Int} (huv : u ≤ v) {i k : Nat} {a a' b b' : Rnd} (ha : RndLe a a') (hb : RndLe b b') {r : Rul} (hr : r ∈ pairR u i a k b) : ∃ r' ∈ pairR v i a' k b', RulLe r r' := by
  unfold pairR at hr ⊢
  simp only [List.mem_append] at hr ⊢
  rcases hr with (h | h) | h
  · split at h
    · rename_i hs
      rw [if_pos (share_mono ha.areas hb.areas hs)]
      rw [List.mem_singleton.1 h]
      exact ⟨_, .inl (.inl (List.mem_singleton.2 rfl)), rfl, rfl, rfl, Int.le_refl _⟩
    · cases h
  · split at h
    · rename_i hs
      rw [if_pos (share_mono ha.off hb.off hs)]
      rw [List.mem_singleton.1 h]
      exact ⟨_, .inl (.inr (List.mem_singleton.2 rfl)), rfl, rfl, rfl, Int.le_refl _⟩
    · cases h
  · split at h
    · rename_i hs
      rw [if_pos (share_mono ha.ath hb.ath hs)]
      rw [List.mem_singleton.1 h]
      exact ⟨_, .inr (List.mem_singleton.2 rfl), rfl, rfl, rfl, huv⟩
    · cases h
theorem apart_mem {p : Pln} {a b : Nat} {x y : Rnd} (hab : a < b) (hx : p.1[a]? = some x) (hy : p.1[b]? = some y) {r : Rul} (hr : r ∈ pairR p.2.2 a x b y) : r ∈ rulesS p := by
  unfold rulesS
  refine List.mem_append_right _ ?_
  unfold apartR
  refine ifl_get hx ?_
  rw [Nat.zero_add]
  unfold rowR
  refine ifl_get (j := b - (a + 1)) (x := y) ?_ ?_
  · rw [List.getElem?_drop, show a + 1 + (b - (a + 1)) = b by omega]
    exact hy
  · rw [show a + 1 + (b - (a + 1)) = b by omega]
    exact hr
theorem rule_le {p q : Pln} (h : PlnLe p q) {r : Rul} (hr : r ∈ rulesS p) : ∃ r' ∈ rulesS q, RulLe r r' := by
  obtain ⟨i, hi⟩ := List.mem_iff_getElem?.1 hr
  rcases rul_cases hi with ⟨h1, rfl⟩ | ⟨h1, h2, o, ho, rfl⟩ | ⟨h1, a, b, x, y, hab, hx, hy, hm⟩
  · exact ⟨_, List.mem_of_getElem? (win_rul (by rw [← h.len]; exact h1)), rfl, rfl, rfl, Int.le_refl _⟩
  · obtain ⟨k, hk⟩ := List.mem_iff_getElem?.1 (h.ord o (List.mem_of_getElem? ho))
    exact ⟨_, List.mem_of_getElem? (ord_rul hk), rfl, rfl, rfl, Int.le_refl _⟩
  · have ha := (List.getElem?_eq_some_iff.1 hx).1
    have hb := (List.getElem?_eq_some_iff.1 hy).1
    have hx' := List.getElem?_eq_getElem (show a < q.1.length by rw [← h.len]; exact ha)
    have hy' := List.getElem?_eq_getElem (show b < q.1.length by rw [← h.len]; exact hb)
    obtain ⟨r', h3, h4⟩ := pairR_le h.rest (h.rnd a _ _ hx hx') (h.rnd b _ _ hy hy') hm
    exact ⟨r', apart_mem hab hx' hy' h3, h4⟩
theorem PlnLe.at {p q : Pln} (h : PlnLe p q) {a : Int} (ha : InE p.1.length a) : RndLe (rq p a) (rq q a) := by
  have h1 := ha.1
  have h2 := ha.2
  have hx := List.getElem?_eq_getElem (show a.toNat < p.1.length by omega)
  have hy := List.getElem?_eq_getElem (show a.toNat < q.1.length by rw [← h.len]; omega)
  have := h.rnd _ _ _ hx hy
  rw [show rq p a = p.1[a.toNat]'(by omega) from getD_some hx, show rq q a = q.1[a.toNat]'(by rw [← h.len]; omega) from getD_some hy]
  exact this
theorem tight {p q : Pln} (hp : PV p) (h : PlnLe p q) {f : List Int} (hf : Hol q (rulesS q) f) : Hol p (rulesS p) f ∧ endS p f ≤ endS q f := by
  have hl := hf.len.trans h.len.symm
  refine ⟨⟨hl, fun i hi => hf.rng i (by rw [← h.len]; exact hi), fun r hr => ?_⟩, endS_le hl (endS_nonneg q f) fun i hi => ?_⟩
  · obtain ⟨r', hr', e1, e2, e3, e4⟩ := rule_le h hr
    have hh := hf.rul r' hr'
    have hro := hp.rulM r hr
    have ha := h.at hro.a
    have hb := h.at hro.b
    unfold holdS at hh ⊢
    rw [e1, e2, e3] at hh
    have bef : ∀ {a b g g' : Int}, RndLe (rq p a) (rq q a) → g ≤ g' → befS q f a b g' = true → befS p f a b g = true := fun hle hg hb => by
      unfold befS at hb ⊢
      have hb := of_decide_eq_true hb
      have := hle.min
      exact decide_eq_true (by omega)
    split at hh
    · rename_i hw
      rw [if_pos hw]
      unfold winS at hh ⊢
      have hh := of_decide_eq_true hh
      have h1 := ha.min
      have h2 := ha.from_
      have h3 := ha.to_
      exact decide_eq_true (by omega)
    · rename_i hw
      rw [if_neg hw]
      split at hh
      · rename_i ho
        rw [if_pos ho]
        exact bef ha e4 hh
      · rename_i ho
        rw [if_neg ho, Bool.or_eq_true]
        rw [Bool.or_eq_true] at hh
        exact hh.imp (bef ha e4) (bef hb e4)
  · have h1 := endS_ge (p := q) (t := f) (i := i) (by rw [← h.len]; exact hi) hf.len
    have h2 := (h.at (a := (i : Int)) ⟨by omega, by omega⟩).min
    omega
structure LstS (p : Pln) (a e : Int) : Prop where
  yes : e = 0 → (∃ t, Hol p (rulesS p) t ∧ endS p t = a) ∧ ∀ f, Hol p (rulesS p) f → a ≤ endS p f
  no : e ≠ 0 → e = 23 ∧ ∀ f, ¬ Hol p (rulesS p) f
theorem least_ok {F : Nat} (hF : 4000 ≤ F) {p : Pln} (hp : PShort p) (he : exE p = 0) : ∃ a e, c27 F p = some (a, e) ∧ LstS p a e := by
  obtain ⟨t, is, e28, b28⟩ := (l28 hF hp).2 he
  have hv := PV.of hp (exE_zero he).1
  cases is with
  | true =>
    obtain ⟨c1, c2⟩ := b28.yes rfl
    refine ⟨_, _, (l27 hF hp e28 fun _ => ⟨hv, c1.tok⟩).trans (by simp only [if_true]), fun _ => ⟨⟨t, c1, rfl⟩, fun f hf => ?_⟩, fun h => absurd rfl h⟩
    have := c2 f hf
    unfold endC at this
    omega
  | false =>
    obtain ⟨c1, c2⟩ := b28.no rfl
    refine ⟨0, 23, (l27 hF hp e28 fun h => by simp at h).trans (by simp), fun h => by omega, fun _ => ⟨rfl, c2⟩⟩
theorem least_cmp {p q : Pln} (hp : PV p) (h : PlnLe p q) {a b e1 e2 : Int} (h1 : LstS p a e1) (h2 : LstS q b e2) : (e1 ≠ 0 → e1 = 23 ∧ e2 = 23) ∧ (e1 = 0 → e2 = 23 ∨ e2 = 0 ∧ a ≤ b) := by
  refine ⟨fun he => ?_, fun he => ?_⟩
  · obtain ⟨a1, a2⟩ := h1.no he
    refine ⟨a1, ?_⟩
    by_cases h0 : e2 = 0
    · obtain ⟨⟨t, ht, -⟩, -⟩ := h2.yes h0
      exact absurd (tight hp h ht).1 (a2 t)
    · exact (h2.no h0).1
  · by_cases h0 : e2 = 0
    · obtain ⟨⟨t, ht, e⟩, -⟩ := h2.yes h0
      obtain ⟨t1, t2⟩ := tight hp h ht
      exact .inr ⟨h0, by have := (h1.yes he).2 t t1; omega⟩
    · exact .inl (h2.no h0).1
end Go.Proofs.Tryz

/- Plain law: the order of entrants, put in one after another. Plain law: the order of entrants, both the same. Plain law: the form of heats. Plain law: heats that are ranked, in the program and in the reference. Plain law: heats that are ranked, in the reference. Plain law: clashes, and the least number of them. Functions of the program as functions of data. By program. Plain law of SeedClashes: the least number, and the whole. Plain law of SeedBetter: who is ahead of whom, in stable orders. Functions of the program as functions of data. By program. -/
import Derived.Test.YtdghdcclhnoigaaGreatDoorXP8d
import Derived.Test.YtdghdcclhnoigaaGreatDoorXTryzA
section
set_option maxRecDepth 100000
set_option linter.unusedVariables false
set_option linter.unusedSimpArgs false
namespace Go.Proofs.Tryz
open Go Go.Sx
theorem bind_inv {σ β γ : Type} {step : σ → Option (σ ⊕ β)} {F : Nat} {t : σ} {k : β → Option γ} {P : γ → Prop} (Inv : σ → Prop) (m : σ → Nat) (Post : β → Prop)
    (h : ∀ x, Inv x → (∃ y, step x = some (.inl y) ∧ Inv y ∧ m y < m x) ∨ ∃ b, step x = some (.inr b) ∧ Post b) (h0 : Inv t) (hF : m t < F) (hk : ∀ b, Post b → ∃ r, k b = some r ∧ P r) : ∃ r, Option.bind (loopO step F t) k = some r ∧ P r := by
  obtain ⟨b, h1, h2⟩ := loopO_ex Inv m Post h F t h0 hF
  rw [h1]
  exact hk b h2
theorem pairEq_self {α β : Type} {f : α → α → Bool} {g : β → β → Bool} (hf : ∀ x, f x x = true) (hg : ∀ x, g x x = true) (x : α × β) : pairEq f g x x = true := by
  simp only [pairEq, hf, hg]
theorem stab_ins {lt : Int → Int → Bool} {D : Int → Prop} (ho : LtOn lt D) {l o : List Int} {x : Int} {n : Nat} (hD : ∀ y ∈ l, D y) (hx : D x) (h : StabS lt l o) (hn : n ≤ o.length) (h2 : ∀ y ∈ o.drop n, lt x y = true) (h1 : n = 0 ∨ lt x (o.getD (n - 1) 0) = false) :
    StabS lt (l ++ [x]) (o.take n ++ x :: o.drop n) := by
  have hDo : ∀ y ∈ o, D y := fun y hy => hD y (h.mem.1 hy)
  have e : o.take n ++ o.drop n = o := List.take_append_drop n o
  have hp := StabS.put ho (S1 := o.take n) (S2 := o.drop n) (x := x) (by
    rw [e]
    intro y hy
    rcases List.mem_append.1 hy with hy | hy
    · exact hDo y hy
    · rw [List.mem_singleton.1 hy]; exact hx) (by rw [e]; exact h.2.1) (by
    intro y hy
    rcases h1 with h1 | h1
    · rw [h1] at hy; simp at hy
    · by_cases hn0 : n = 0
      · rw [hn0] at hy; simp at hy
      · have hz : o[n - 1]? = some (o.getD (n - 1) 0) := by
          rw [List.getD_eq_getElem?_getD, List.getElem?_eq_getElem (show n - 1 < o.length by omega)]; rfl
        have hzm := List.mem_of_getElem? hz
        unfold leB
        cases q : lt x y with
        | false => rfl
        | true =>
          exfalso
          obtain ⟨k, hk, ek⟩ := List.mem_iff_getElem.1 hy
          rw [List.length_take] at hk
          rw [List.getElem_take] at ek
          have hle : leB lt y (o.getD (n - 1) 0) := by
            by_cases hkn : k = n - 1
            · have : o.getD (n - 1) 0 = y := by
                rw [← ek, getD_some (List.getElem?_eq_getElem (show n - 1 < o.length by omega))]
                congr 1; omega
              rw [this]
              exact ho.irr (hDo y (List.mem_of_mem_take hy))
            · have := List.pairwise_iff_getElem.1 h.2.1 k (n - 1) (by omega) (by omega) (by omega)
              rw [ek] at this
              rw [getD_some (List.getElem?_eq_getElem (show n - 1 < o.length by omega))]
              exact this
          have := ho.lt_le hx (hDo y (List.mem_of_mem_take hy)) (hDo _ hzm) q hle
          rw [h1] at this
          cases this) h2
  rw [e] at hp
  refine StabS.pre ?_ ?_ hp
  · exact h.1.append_right [x]
  · intro y hy
    have hyD : D y := by
      rcases List.mem_append.1 hy with hy | hy
      · exact hD y hy
      · rw [List.mem_singleton.1 hy]; exact hx
    rw [List.filter_append, List.filter_append, h.filt ho hD hyD]
theorem listEq_self {α : Type} {f : α → α → Bool} (hf : ∀ x, f x x = true) : ∀ (l : List α), listEq f l l = true
  | [] => rfl
  | x :: l => by simp only [listEq, hf x]; exact listEq_self hf l
theorem eq23 (x : List Int × Int) (f) : sumEq (CEls.eqv (Cel.slot 6 (ATy.val (Ty.seq (Ty.int Go.IntKind.i64 :: nilT Ty))) :: Cel.slot 7 (ATy.val (Ty.int Go.IntKind.i64)) :: nilT Cel)) (β := AltsEl ((Go.Exit.exit 0, { cells := Cel.slot 6 (ATy.val (Ty.seq (Ty.int Go.IntKind.i64 :: nilT Ty))) :: nilT Cel, owns := nilT (Nat × Lk) }) :: nilT (Go.Exit × Tmpl))) f (.inl x) (.inl x) = true := by
  exact pairEq_self (f := listEq intEq) (g := intEq) (listEq_self (fun x => by simp [intEq])) (fun x => by simp [intEq]) x
theorem drawS_in {key : Int} {n : Nat} (h1 : 1 ≤ key) (h2 : key < 2147483647) : ∀ x ∈ drawS key n, InE n x := fun x hx => mem_ids.1 ((drawS_perm (by omega) h2 n).mem_iff.1 hx)
theorem drawS_len {key : Int} {n : Nat} (h1 : 1 ≤ key) (h2 : key < 2147483647) : (drawS key n).length = n := by rw [(drawS_perm (by omega) h2 n).length_eq, ids_length]
theorem l23 {F : Nat} (hF : 400 ≤ F) {l : List Ent} (h : EntOk l) {key : Int} (h1 : 1 ≤ key) (h2 : key < 2147483647) : ∃ L, c23 F (l, key) = some L ∧ StabS (ltE l) (drawS key l.length) L := by
  unfold c23
  have hlen := h.len
  simp only [l59 hF h1 h2 (show l.length ≤ 256 by omega), Option.bind_some]
  have hD := drawS_in (n := l.length) h1 h2
  have hdl := drawS_len (n := l.length) h1 h2
  generalize drawS key l.length = d at hD hdl
  refine bind_sim d (fun _ (_ : Unit) => .inl ()) (fun _ => ()) (fun i _ t => t.2 = (i : Int) ∧ StabS (ltE l) (d.take i) t.1) (fun _ (b : List Int) => StabS (ltE l) d b) () (by omega) ⟨rfl, StabS.nil⟩ ?_ ?_ ?_
  · intro i x _ t hi hx ⟨ht, hs⟩
    obtain ⟨o, ti⟩ := t
    simp only at ht hs
    subst ht
    have hxD := hD x (List.mem_of_getElem? hx)
    have hol := hs.len
    rw [len_take (by omega)] at hol
    have hoD : ∀ y ∈ o, InE l.length y := fun y hy => hD y (List.mem_of_mem_take (hs.mem.1 hy))
    obtain ⟨x', hx', ex⟩ := atE_get hxD
    have hx1 := hxD.1
    have hx2 := hxD.2
    have hx'm := List.mem_of_getElem? hx'
    simp (disch := omega) only [cd_pos, gd_dec, Int.toNat_natCast, getD_some hx]
    refine bind_inv (fun v : Int => ∃ n : Nat, v = n ∧ n ≤ o.length ∧ ∀ y ∈ o.drop n, ltE l x y = true) (fun v : Int => v.toNat)
      (fun b : Int => ∃ n : Nat, b = n ∧ n ≤ o.length ∧ (∀ y ∈ o.drop n, ltE l x y = true) ∧ (n = 0 ∨ ltE l x (o.getD (n - 1) 0) = false)) ?_ ⟨o.length, rfl, Nat.le_refl _, by simp⟩ (by omega) ?_
    · rintro v ⟨n, rfl, hn, hy⟩
      by_cases h0 : n = 0
      · subst h0
        right
        exact ⟨0, rfl, 0, rfl, by omega, hy, .inl rfl⟩
      · have hw : w64 ((n : Int) - 1) = ((n - 1 : Nat) : Int) := by rw [w64_in (by omega) (by omega)]; omega
        have hz : o[n - 1]? = some (o[n - 1]'(by omega)) := List.getElem?_eq_getElem (by omega)
        have hzm := hoD _ (List.mem_of_getElem? hz)
        generalize hzz : o[n - 1]'(by omega) = z at hz hzm
        obtain ⟨z', hz', ez⟩ := atE_get hzm
        have hz1 := hzm.1
        have hz2 := hzm.2
        have hz'm := List.mem_of_getElem? hz'
        simp (disch := omega) only [cd_pos, hw, gd_dec, Int.toNat_natCast, getD_some hz, getD_some hx', getD_some hz', l60 F (h.one x' hx'm).2.2 (h.one z' hz'm).2.2 (h.kinds x' hx'm z' hz'm), Option.bind_some, cmpI_neg]
        have e : decide (wE z' < wE x') = ltE l x z := by rw [ltE, ex, ez]
        rw [e]
        cases q : ltE l x z with
        | true =>
          left
          refine ⟨((n - 1 : Nat) : Int), rfl, ⟨n - 1, rfl, by omega, fun y hyd => ?_⟩, by omega⟩
          rw [List.drop_eq_getElem_cons (show n - 1 < o.length by omega), show n - 1 + 1 = n by omega] at hyd
          rcases List.mem_cons.1 hyd with rfl | hyd
          · rw [hzz]; exact q
          · exact hy y hyd
        | false =>
          right
          exact ⟨(n : Int), rfl, n, rfl, hn, hy, .inr (by rw [getD_some hz]; exact q)⟩
    · rintro b ⟨n, rfl, hn, hn2, hn1⟩
      have hs' := stab_ins (ltE_on l l.length) (x := x) (n := n) (fun y hy => hD y (List.mem_of_mem_take hy)) hxD hs hn hn2 hn1
      have et : d.take i ++ [x] = d.take (i + 1) := take_snoc hx
      rw [et] at hs'
      have e1 : nilT Int ++ List.drop 0 (List.take n o) ++ x :: nilT Int ++ List.drop n (List.take o.length o) = o.take n ++ x :: o.drop n := by simp [nilT]
      have e2 : (nilT Int ++ List.drop 0 (List.take n o)).length = n := by simp [nilT]; omega
      have e3 : (nilT Int ++ List.drop 0 (List.take n o) ++ x :: nilT Int).length = n + 1 := by simp [nilT]; omega
      have e4 : (o.take n ++ x :: o.drop n).length = i + 1 := by simp; omega
      simp (disch := omega) only [gd_dec, Int.toNat_natCast, e1, e2, e3, e4, w64_in, Nat.zero_add, Nat.le_refl, decide_true, Bool.and_true, Bool.true_and, gd_true, Option.bind_some]
      have e5 : List.take (i + 1) (List.drop 0 (o.take n ++ x :: o.drop n)) = o.take n ++ x :: o.drop n := by rw [List.drop_zero, List.take_of_length_le (by omega)]
      have e6 := eq23 (List.take (i + 1) (List.drop 0 (o.take n ++ x :: o.drop n)), (i : Int) + 1)
      refine ⟨.inl (List.take (i + 1) (List.drop 0 (o.take n ++ x :: o.drop n)), (i : Int) + 1), (congrArg (fun z => Option.bind z _) (gd_of (e6 _))).trans (gd_of (e6 _)), ?_⟩
      exact ⟨by simp, by rw [e5]; exact hs'⟩
  · intro _ t ⟨ht, hs⟩
    rw [List.take_length] at hs
    simp (disch := omega) only [cd_neg]
    exact ⟨t.1, rfl, hs⟩
  · intro b hb
    exact ⟨b, rfl, hb⟩
end Go.Proofs.Tryz
end
section
set_option maxRecDepth 100000
set_option linter.unusedVariables false
set_option linter.unusedSimpArgs false
namespace Go.Proofs.Tryz
open Go Go.Sx
open Classical in
noncomputable def ordE (l : List Ent) (key : Int) : List Int := if h : ∃ L, StabS (ltE l) (drawS key l.length) L then Classical.choose h else []
theorem ordE_of {l : List Ent} {key : Int} (h1 : 1 ≤ key) (h2 : key < 2147483647) {L : List Int} (h : StabS (ltE l) (drawS key l.length) L) : L = ordE l key := by
  have he : ∃ L, StabS (ltE l) (drawS key l.length) L := ⟨L, h⟩
  unfold ordE
  rw [dif_pos he]
  exact StabS.unique (ltE_on l l.length) (drawS_in h1 h2) h (Classical.choose_spec he)
theorem ordE_stab {F : Nat} (hF : 400 ≤ F) {l : List Ent} (h : EntOk l) {key : Int} (h1 : 1 ≤ key) (h2 : key < 2147483647) : c23 F (l, key) = some (ordE l key) ∧ StabS (ltE l) (drawS key l.length) (ordE l key) := by
  obtain ⟨L, e, hL⟩ := l23 hF h h1 h2
  rw [← ordE_of h1 h2 hL]
  exact ⟨e, hL⟩
def drawE (key : Int) (n : Nat) : Int := if key < 1 ∨ 2147483646 < key ∨ 256 < n then 3 else 0
theorem l79 {F : Nat} (hF : 400 ≤ F) {l : List Ent} (hl : l.length ≤ 300) (hS : ∀ x ∈ l, EntS x) {key : Int} : c79 F (l, key) = some (if entC l ≠ 0 then ([], entC l) else if drawE key l.length ≠ 0 then ([], 3) else (ordE l key, 0)) := by
  unfold c79
  simp only [l19 hF hl hS, Option.bind_some, l105]
  by_cases h0 : entC l = 0
  · have hok := entC_ok h0
    have hlen := hok.len
    simp only [h0, decide_true, Bool.not_true, cond_false, ne_eq, not_true_eq_false, if_false]
    unfold drawE
    by_cases hb : key < 1 ∨ 2147483646 < key ∨ 256 < l.length
    · rw [if_pos hb, if_pos (by decide)]
      have : (bif decide (key < 1 ∨ 2147483646 < key) then some true else some (decide (256 < (l.length : Int)))) = some true := by
        by_cases h : key < 1 ∨ 2147483646 < key
        · simp [h]
        · have : 256 < (l.length : Int) := by omega
          simp [h, this]
      rw [this]
      rfl
    · rw [if_neg hb, if_neg (by simp)]
      have : (bif decide (key < 1 ∨ 2147483646 < key) then some true else some (decide (256 < (l.length : Int)))) = some false := by
        have h : ¬ (key < 1 ∨ 2147483646 < key) := by omega
        have : ¬ (256 < (l.length : Int)) := by omega
        simp [h, this]
      have h1 : 1 ≤ key := by omega
      have h2 : key < 2147483647 := by omega
      have hn : l.length ≤ 256 := by omega
      have hdl := drawS_len (n := l.length) h1 h2
      have hD := drawS_in (n := l.length) h1 h2
      obtain ⟨L, hL, hst⟩ := l106 hF hok hD (by omega) (by omega)
      have eL := ordE_of h1 h2 hst
      have hLl := hst.len
      rw [hdl] at hLl
      rw [this]
      generalize hnn : l.length = n at hdl hLl hL hn ⊢
      simp (disch := omega) only [gd_dec, Int.toNat_natCast, Option.bind_some, cond_false]
      refine bind_list (List.replicate n ()) (fun (_ : Unit) i => (ids i ++ List.replicate (n - i) (0 : Int), (i : Int))) (fun _ _ => .inl ()) (fun _ => ids n) (fun _ _ => True) () (by simp; omega) (by simp [ids]) trivial ?_ ?_ ?_
      · intro i x s hi hx _
        simp only [List.length_replicate] at hi
        have hl : (ids i ++ List.replicate (n - i) (0 : Int)).length = n := by simp [ids_length]; omega
        refine ⟨?_, fun _ _ => trivial⟩
        simp (disch := omega) only [cd_pos, gd_dec, Nat.zero_add, Int.toNat_natCast, hl, set_ids hi, w64_in]
        simp
      · intro s _
        simp (disch := omega) only [List.length_replicate, cd_neg]
        simp
      · rw [goL_unit]
        refine bind_list (List.replicate (n - 1) ()) (fun s _ => s) drawB (fun s => s.1) (DrawI n) (ids n, key, (n : Int) - 1) (by simp; omega) ?_ ⟨ids_length n, by simp only; omega, h2, by simp⟩ ?_ ?_ ?_
        · rw [w64_in (by omega) (by omega)]
        · intro i x s hi hx hI
          simp only [List.length_replicate] at hi
          refine ⟨?_, fun s' hs => drawB_inv hi hI hs⟩
          obtain ⟨out, key, j⟩ := s
          obtain ⟨h1, h2, h3, h4⟩ := hI
          simp only at h1 h2 h3 h4
          have k1 : 0 ≤ Int.tmod (69621 * key) 2147483647 := Int.tmod_nonneg _ (by omega)
          have m1 : 0 ≤ Int.tmod (Int.tmod (69621 * key) 2147483647) (j + 1) := Int.tmod_nonneg _ k1
          have m2 : Int.tmod (Int.tmod (69621 * key) 2147483647) (j + 1) < j + 1 := Int.tmod_lt_of_pos _ (by omega)
          simp only [drawB]
          simp (disch := omega) only [w64_in, cd_pos]
          generalize Int.tmod (Int.tmod (69621 * key) 2147483647) (j + 1) = q at m1 m2
          simp (disch := omega) only [gd_dec, Nat.zero_add, List.length_set]
        · intro s ⟨h1, h2, h3, h4⟩
          simp only [List.length_replicate] at h4
          simp (disch := omega) only [cd_neg]
        · change Option.bind (gd (decide (n = (drawS key n).length) && (true && true) && (true && true)) (some (drawS key n, l))) _ = _
          rw [hdl, decide_eq_true rfl]
          simp only [Bool.and_self, gd_true, Option.bind_some, hL]
          rw [hLl, gd_of (by simp), List.drop_zero, List.take_of_length_le (by omega), eL]
  · simp [h0, nilT]
end Go.Proofs.Tryz
end
section
set_option maxRecDepth 100000
set_option linter.unusedVariables false
set_option linter.unusedSimpArgs false
namespace Go.Proofs.Tryz
open Go Go.Sx
theorem nodup_sub {α : Type} [DecidableEq α] : ∀ (l m : List α), l.Nodup → (∀ x ∈ l, x ∈ m) → l.length ≤ m.length
  | [], m, _, _ => by simp
  | x :: l, m, h, hs => by
    rw [List.nodup_cons] at h
    have hx := hs x List.mem_cons_self
    have := nodup_sub l (m.erase x) h.2 (fun y hy => by
      have hne : y ≠ x := fun e => h.1 (e ▸ hy)
      exact (List.mem_erase_of_ne hne).2 (hs y (List.mem_cons_of_mem _ hy)))
    rw [List.length_erase_of_mem hx] at this
    have := List.length_pos_of_mem hx
    simp only [List.length_cons]
    omega
theorem ids_nodup (n : Nat) : (ids n).Nodup := by
  unfold ids
  refine List.Pairwise.map _ (fun a b h => ?_) List.nodup_range
  intro e
  exact h (by omega)
def formI (n : Nat) (x : Int) (s : List Int) : List Int ⊕ (List Int ⊕ Int) := if x < 0 ∨ (n : Int) ≤ x then .inr (.inr 10) else if x ∈ s then .inr (.inr 9) else .inl (x :: s)
def formG (n : Nat) (g : List Int) (s : List Int) : List Int ⊕ Int := goL (formI n) .inl g s
def formS (n : Nat) (h : List (List Int)) : Int := if h.length = 0 then 12 else if 16 < h.length then 5 else goL (formG n) (fun s => if s.length < n then 7 else 0) h []
def FormI (n : Nat) (s : List Int) : Prop := s.Nodup ∧ ∀ x ∈ s, InE n x
theorem FormI.len {n : Nat} {s : List Int} (h : FormI n s) : s.length ≤ n := by
  have := nodup_sub s (ids n) h.1 (fun x hx => mem_ids.2 (h.2 x hx))
  rwa [ids_length] at this
theorem FormI.all {n : Nat} {s : List Int} (h : FormI n s) : s.length < n ↔ ∃ k ∈ ids n, k ∉ s := by
  constructor
  · intro hl
    refine Classical.byContradiction fun hc => ?_
    have := nodup_sub (ids n) s (ids_nodup n) (fun x hx => Classical.byContradiction fun hx' => hc ⟨x, hx, hx'⟩)
    rw [ids_length] at this
    omega
  · rintro ⟨k, hk, hks⟩
    have := nodup_sub (k :: s) (ids n) (List.nodup_cons.2 ⟨hks, h.1⟩) (fun x hx => by
      rcases List.mem_cons.1 hx with rfl | hx
      · exact hk
      · exact mem_ids.2 (h.2 x hx))
    rw [ids_length, List.length_cons] at this
    omega
theorem FormI.cons {n : Nat} {s : List Int} (h : FormI n s) {x : Int} (h1 : ¬ (x < 0 ∨ (n : Int) ≤ x)) (h2 : x ∉ s) : FormI n (x :: s) :=
  ⟨List.nodup_cons.2 ⟨h2, h.1⟩, fun y hy => by
    rcases List.mem_cons.1 hy with rfl | hy
    · exact ⟨by omega, by omega⟩
    · exact h.2 y hy⟩
def SeenN (n : Nat) (s : List Int) (m : List Bool) : Prop := m.length = n ∧ ∀ k : Nat, k < n → m.getD k false = decide ((k : Int) ∈ s)
theorem SeenN.put {n : Nat} {s : List Int} {m : List Bool} (h : SeenN n s m) {x : Int} (h0 : 0 ≤ x) (h1 : x < n) : SeenN n (x :: s) (m.set x.toNat true) := by
  refine ⟨by simp [h.1], fun k hk => ?_⟩
  have := h.2 k hk
  have hm := h.1
  by_cases e : x.toNat = k
  · subst e
    have : ((x.toNat : Nat) : Int) = x := by omega
    simp [List.getD, List.getElem?_set, hm, hk, this]
  · have hne : (k : Int) ≠ x := by omega
    simp only [List.getD] at this ⊢
    rw [List.getElem?_set_ne (by omega), this]
    simp [hne]
theorem SeenN.nil (n : Nat) : SeenN n [] (List.replicate n false) := ⟨by simp, fun k hk => by rw [List.getD_eq_getElem?_getD, List.getElem?_replicate, if_pos hk]; simp⟩
theorem l37 {F : Nat} (hF : 400 ≤ F) {n : Nat} (hn : n ≤ 1000) {h : List (List Int)} (hh : ∀ g ∈ h, g.length < 400) : c37 F ((n : Int), h) = some (formS n h) := by
  unfold c37 formS
  dsimp only
  by_cases h0 : h.length = 0
  · rw [cd_pos (by omega), if_pos h0]
  · rw [cd_neg (by omega), if_neg h0]
    by_cases h1 : 16 < h.length
    · rw [cd_pos (by omega), if_pos h1]
    · rw [cd_neg (by omega), if_neg h1]
      simp (disch := omega) only [gd_dec, Int.toNat_natCast]
      refine ex_eq (bind_sim h (formG n) (fun s => if s.length < n then 7 else 0) (fun i s t => t = (t.1, (s.length : Int), (i : Int)) ∧ SeenN n s t.1 ∧ FormI n s) (fun (a : Int) (b : List Bool × Int ⊕ List Bool × Int) => match b with
        | .inl v => a = v.2
        | .inr v => a = (if v.2 < (n : Int) then 7 else 0)) [] (by omega) ⟨rfl, SeenN.nil n, List.nodup_nil, fun _ h => by cases h⟩ ?_ ?_ ?_)
      · intro i g s t hi hg ⟨ht, hs, hI⟩
        obtain ⟨m, t2⟩ := t
        simp only at hs
        rw [ht]
        have hgl := hh g (List.mem_of_getElem? hg)
        simp (disch := omega) only [cd_pos, gd_dec, Int.toNat_natCast, getD_some hg, w64_in (n := ((i : Nat) : Int) + 1)]
        refine bind_sim g (formI n) .inl (fun k s' t => t = (t.1, (s'.length : Int), (k : Int)) ∧ SeenN n s' t.1 ∧ FormI n s') (fun (a : List Int ⊕ Int) (b : List Bool × Int ⊕ List Bool × Int) => RelS (fun s' v => v.2 = (s'.length : Int) ∧ SeenN n s' v.1 ∧ FormI n s') (fun e v => v.2 = e) a (b.elim .inr .inl)) s (by omega) ⟨rfl, hs, hI⟩ ?_ ?_ ?_
        · intro k x s' t hk hx ⟨ht, hs', hI'⟩
          obtain ⟨m', t2⟩ := t
          simp only at hs'
          rw [ht]
          have hml := hs'.1
          have hsl := hI'.len
          have hw : w64 ((n : Int) - 1) = (n : Int) - 1 := w64_in (by omega) (by omega)
          simp (disch := omega) only [cd_pos, gd_dec, Int.toNat_natCast, getD_some hx, l82, hw, Option.bind_some]
          unfold formI
          by_cases hb : x < 0 ∨ (n : Int) ≤ x
          · have : x < 0 ∨ (n : Int) - 1 < x := by omega
            rw [if_pos hb]
            simp only [this, decide_true, cond_true]
            exact ⟨_, rfl, rfl⟩
          · have : ¬ (x < 0 ∨ (n : Int) - 1 < x) := by omega
            rw [if_neg hb]
            have hsn := hs'.2 x.toNat (by omega)
            rw [show ((x.toNat : Nat) : Int) = x by omega] at hsn
            simp only [this, decide_false, cond_false]
            simp (disch := omega) only [gd_dec, Nat.zero_add, hsn]
            by_cases hin : x ∈ s'
            · rw [if_pos hin]
              simp only [hin, decide_true, cond_true]
              exact ⟨_, rfl, rfl⟩
            · rw [if_neg hin]
              simp only [hin, decide_false, cond_false]
              refine ⟨_, rfl, ?_⟩
              refine ⟨?_, hs'.put (by omega) (by omega), hI'.cons hb hin⟩
              rw [w64_in (by omega) (by omega), w64_in (by omega) (by omega)]
              simp
        · intro s' t ⟨ht, hs', hI'⟩
          rw [ht]
          simp (disch := omega) only [cd_neg]
          exact ⟨_, rfl, rfl, hs', hI'⟩
        · intro b hb
          unfold formG
          cases b with
          | inl v =>
            cases hgo : goL (formI n) (fun s => (.inl s : List Int ⊕ Int)) g s with
            | inl s' => rw [hgo] at hb; exact hb.elim
            | inr e => rw [hgo] at hb; exact ⟨_, rfl, hb.symm⟩
          | inr v =>
            cases hgo : goL (formI n) (fun s => (.inl s : List Int ⊕ Int)) g s with
            | inr e => rw [hgo] at hb; exact hb.elim
            | inl s' =>
              rw [hgo] at hb
              obtain ⟨b1, b2, b3⟩ := hb
              refine ⟨_, rfl, ?_⟩
              exact ⟨by simp [b1], b2, b3⟩
      · intro s t ⟨ht, hs, hI⟩
        rw [ht]
        simp (disch := omega) only [cd_neg]
        refine ⟨_, rfl, ?_⟩
        by_cases q : s.length < n
        · rw [if_pos q]
          exact (if_pos (show (s.length : Int) < (n : Int) by omega)).symm
        · rw [if_neg q]
          exact (if_neg (show ¬ (s.length : Int) < (n : Int) by omega)).symm
      · intro b hb
        cases b with
        | inl v => exact ⟨_, rfl, hb.symm⟩
        | inr v =>
          refine ⟨if v.2 < (n : Int) then 7 else 0, ?_, hb.symm⟩
          simp only [Sum.elim_inr]
          by_cases q : v.2 < (n : Int)
          · rw [cd_pos q, if_pos q]
          · rw [cd_neg q, if_neg q]
end Go.Proofs.Tryz
end
section
set_option maxRecDepth 100000
set_option linter.unusedVariables false
set_option linter.unusedSimpArgs false
namespace Go.Proofs.Tryz
open Go Go.Sx
end Go.Proofs.Tryz
end
section
set_option maxRecDepth 100000
set_option linter.unusedVariables false
set_option linter.unusedSimpArgs false
namespace Go.Proofs.Tryz
open Go Go.Sx
end Go.Proofs.Tryz
end
section
set_option maxRecDepth 100000
set_option linter.unusedVariables false
set_option linter.unusedSimpArgs false
namespace Go.Proofs.Tryz
open Go Go.Sx
def SeenC (s : List ByteArray) (m : List (ByteArray × Int)) : Prop := ∀ c : ByteArray, mgetD strEq c m 0 = (s.countP fun y => strEq c y : Int)
theorem SeenC.put {s : List ByteArray} {m : List (ByteArray × Int)} (h : SeenC s m) (x : ByteArray) : SeenC (s ++ [x]) (mput strEq x ((s.countP fun y => strEq x y : Int) + 1) m) := by
  intro c
  rw [mgetD_mput strEq_iff, h c, List.countP_append]
  by_cases e : c = x
  · subst e
    simp [strEq_self]
  · simp [strEq_false e]
end Go.Proofs.Tryz
end
section
set_option maxRecDepth 100000
set_option linter.all false
namespace Go.Proofs.Tryz
open Go Go.Sx
noncomputable def c4 (F : Nat) (a : List (TEnt) × List (List Int) × Int) : Option (Bool) :=
  Option.bind (c15 F a.1) fun (v74 : List (TEnt)) => Option.bind (Option.bind (c17 F (v74, (24 : Int))) fun (v101 : Bool) => bif !v101 then (some (true)) else (Option.bind (c31 F (a.2.1, (20 : Int), (30 : Int))) fun (v102 : Bool) => some (v102))) fun (v75 : Bool) => bif v75 then (some (true)) else (Option.bind (c18 F v74) fun (v76 : Int) => Option.bind (c32 F (a.1, a.2.1)) fun (v77 : Int × Int) => Option.bind (c33 F (a.1, a.2.2, a.2.1)) fun (v78 : Int) => Option.bind (c34 F (a.1, (↑(List.length a.2.1) : Int))) fun (v79 : Int × Int) => Option.bind (c26 F ((↑(List.length a.2.1) : Int), (1 : Int), (16 : Int))) fun (v80 : Int) => Option.bind (c25 F (v76 :: v80 :: nilT Int)) fun (v81 : Int) => Option.bind (bif !decide (v81 = (0 : Int)) then (Option.bind (c35 F (v79.1, v79.2, v81, (0 : Int))) fun (v96 : Bool) => bif !v96 then (some (true)) else (bif decide (v81 = (0 : Int)) then (Option.bind (c36 F (v74, (↑(List.length a.2.1) : Int))) fun (v97 : Int) => Option.bind (c35 F (v79.1, v79.2, (0 : Int), v97)) fun (v98 : Bool) => some (!v98)) else (some (false)))) else (bif decide (v81 = (0 : Int)) then (Option.bind (c36 F (v74, (↑(List.length a.2.1) : Int))) fun (v99 : Int) => Option.bind (c35 F (v79.1, v79.2, (0 : Int), v99)) fun (v100 : Bool) => some (!v100)) else (some (false)))) fun (v82 : Bool) => bif v82 then (some (false)) else (bif !decide (v76 = (0 : Int)) then (Option.bind (Option.bind (c35 F (v77.1, v77.2, v76, (0 : Int))) fun (v84 : Bool) => bif v84 then (some (decide (v78 = v76))) else (some (false))) fun (v83 : Bool) => some (v83)) else (Option.bind (c37 F ((↑(List.length a.1) : Int), a.2.1)) fun (v85 : Int) => Option.bind (c22 F (a.2.2, (↑(List.length a.1) : Int))) fun (v86 : Int) => Option.bind (c25 F (v86 :: v85 :: nilT Int)) fun (v87 : Int) => Option.bind (bif decide (v87 = (0 : Int)) then (Option.bind (c39 F (v74, a.2.2, a.2.1)) fun (v94 : Bool) => Option.bind (c38 F (!v94, (29 : Int))) fun (v95 : Int) => some (v95)) else (some (v87))) fun (v88 : Int) => bif !decide (v85 = (0 : Int)) then (Option.bind (Option.bind (c35 F (v77.1, v77.2, v85, (0 : Int))) fun (v90 : Bool) => bif v90 then (some (decide (v78 = v88))) else (some (false))) fun (v89 : Bool) => some (v89)) else (Option.bind (Option.bind (c40 F (v74, a.2.1)) fun (v92 : Int) => Option.bind (c35 F (v77.1, v77.2, (0 : Int), v92)) fun (v93 : Bool) => bif v93 then (some (decide (v78 = v88))) else (some (false))) fun (v91 : Bool) => some (v91)))))
end Go.Proofs.Tryz
end
section
set_option maxRecDepth 100000
set_option linter.unusedVariables false
set_option linter.unusedSimpArgs false
namespace Go.Proofs.Tryz
open Go Go.Sx
theorem l22n (F : Nat) (key : Int) (n : Nat) : c22 F (key, (n : Int)) = some (drawE key n) := by
  rw [l22]
  unfold drawE
  by_cases h : key < 1 ∨ 2147483646 < key ∨ 256 < n
  · rw [if_pos h, if_pos (by omega)]
  · rw [if_neg h, if_neg (by omega)]
theorem drawE_ok {key : Int} {n : Nat} (h : drawE key n = 0) : 1 ≤ key ∧ key < 2147483647 := by
  unfold drawE at h
  split at h
  · cases h
  · omega
end Go.Proofs.Tryz
end
section
set_option maxRecDepth 100000
set_option linter.all false
namespace Go.Proofs.Tryz
open Go Go.Sx
def Bef {α : Type} (l : List α) (j k : α) : Prop := ∃ A B, l = A ++ k :: B ∧ j ∈ A
theorem bef_mem {α : Type} {l : List α} {j k : α} (h : Bef l j k) : j ∈ l ∧ k ∈ l := by
  obtain ⟨A, B, rfl, h⟩ := h
  exact ⟨List.mem_append_left _ h, by simp⟩
theorem bef_total {α : Type} {l : List α} {j k : α} (hj : j ∈ l) (hk : k ∈ l) (hne : j ≠ k) : Bef l j k ∨ Bef l k j := by
  induction l with
  | nil => cases hj
  | cons x l ih =>
    rcases List.mem_cons.1 hj with e | hj'
    · subst e
      rcases List.mem_cons.1 hk with e | hk'
      · exact absurd e.symm hne
      · obtain ⟨A, B, rfl⟩ := List.append_of_mem hk'
        exact .inl ⟨j :: A, B, rfl, List.mem_cons_self⟩
    · rcases List.mem_cons.1 hk with e | hk'
      · subst e
        obtain ⟨A, B, rfl⟩ := List.append_of_mem hj'
        exact .inr ⟨k :: A, B, rfl, List.mem_cons_self⟩
      · rcases ih hj' hk' with ⟨A, B, rfl, h⟩ | ⟨A, B, rfl, h⟩
        · exact .inl ⟨x :: A, B, rfl, List.mem_cons_of_mem _ h⟩
        · exact .inr ⟨x :: A, B, rfl, List.mem_cons_of_mem _ h⟩
theorem bef_asym {α : Type} {l : List α} {j k : α} (hn : l.Nodup) (h : Bef l j k) : ¬ Bef l k j := by
  intro h2
  obtain ⟨A, B, rfl, h⟩ := h
  obtain ⟨A2, B2, e, h2⟩ := h2
  rw [List.append_eq_append_iff] at e
  have hn1 := List.nodup_append.1 hn
  rcases e with ⟨C, rfl, e⟩ | ⟨C, rfl, e⟩
  · cases C with
    | nil =>
      simp only [List.nil_append, List.cons.injEq] at e
      rw [e.1] at hn1
      exact hn1.2.2 j h j (by simp) rfl
    | cons c C =>
      simp only [List.cons_append, List.cons.injEq] at e
      obtain ⟨rfl, rfl⟩ := e
      exact hn1.2.2 j h j (by simp) rfl
  · have : k ∈ A2 ++ C := List.mem_append_left _ h2
    exact hn1.2.2 k this k (by simp) rfl
theorem bef_filter {α : Type} {l : List α} {j k : α} {p : α → Bool} (hj : p j = true) (hk : p k = true) (h : Bef l j k) : Bef (l.filter p) j k := by
  obtain ⟨A, B, rfl, h⟩ := h
  exact ⟨A.filter p, B.filter p, by simp [hk], List.mem_filter.2 ⟨h, hj⟩⟩
theorem filter_bef {α : Type} {l : List α} {j k : α} {p : α → Bool} (hn : l.Nodup) (h : Bef (l.filter p) j k) : Bef l j k := by
  obtain ⟨hj, hk⟩ := bef_mem h
  rw [List.mem_filter] at hj hk
  by_cases e : j = k
  · subst e; exact absurd h (bef_asym (hn.filter p) h)
  · rcases bef_total hj.1 hk.1 e with h1 | h1
    · exact h1
    · exact absurd h (bef_asym (hn.filter p) (bef_filter hk.2 hj.2 h1))
theorem bef_sorted {α : Type} {r : α → α → Prop} {l : List α} {j k : α} (hs : l.Pairwise r) (h : Bef l j k) : r j k := by
  obtain ⟨A, B, rfl, h⟩ := h
  exact (List.pairwise_append.1 hs).2.2 j h k (by simp)
theorem stab_bef {lt : Int → Int → Bool} {d L : List Int} (h : StabS lt d L) (hn : d.Nodup) {j k : Int} (hk : k ∈ d) (hj : eqvB lt k j = true) (hkk : eqvB lt k k = true) : Bef d j k ↔ Bef L j k := by
  have e := h.2.2 k hk
  constructor
  · intro hb
    have := bef_filter (p := eqvB lt k) hj hkk hb
    rw [← e] at this
    exact filter_bef (h.1.nodup_iff.2 hn) this
  · intro hb
    have := bef_filter (p := eqvB lt k) hj hkk hb
    rw [e] at this
    exact filter_bef hn this
theorem bef_adj {α : Type} {l : List α} {i : Nat} {x y : α} (hx : l[i]? = some x) (hy : l[i + 1]? = some y) : Bef l x y := by
  refine ⟨l.take (i + 1), l.drop (i + 2), ?_, ?_⟩
  · have h := (List.getElem?_eq_some_iff.1 hy)
    obtain ⟨h1, h2⟩ := h
    conv => lhs; rw [← List.take_append_drop (i + 1) l]
    rw [List.drop_eq_getElem_cons h1, h2]
  · exact List.mem_take_iff_getElem.2 ⟨i, by have := (List.getElem?_eq_some_iff.1 hx).1; omega, (List.getElem?_eq_some_iff.1 hx).2⟩
theorem bef_idx {l : List Int} (hn : l.Nodup) {i m : Nat} {x y : Int} (hx : l[i]? = some x) (hy : l[m]? = some y) (h : Bef l x y) : i < m := by
  obtain ⟨A, B, rfl, h⟩ := h
  obtain ⟨q, hq, e⟩ := List.getElem_of_mem h
  have hm : m = A.length := by
    have h2 : (A ++ y :: B)[A.length]? = some y := by simp
    exact ((List.getElem?_inj (List.getElem?_eq_some_iff.1 hy).1 hn).1 (hy.trans h2.symm))
  have hi : i = q := by
    have h2 : (A ++ y :: B)[q]? = some x := by rw [List.getElem?_append_left hq, List.getElem?_eq_getElem hq, e]
    exact ((List.getElem?_inj (List.getElem?_eq_some_iff.1 hx).1 hn).1 (hx.trans h2.symm))
  omega
theorem bef_count {l m : List Int} (hl : l.Nodup) (hm : m.Nodup) {k : Int} {i q : Nat} (hi : l[i]? = some k) (hq : m[q]? = some k) (h : ∀ j, Bef m j k → Bef l j k) : q ≤ i := by
  have e1 : (m.take q).length = q := by have := (List.getElem?_eq_some_iff.1 hq).1; simp; omega
  have e2 : (l.take i).length = i := by have := (List.getElem?_eq_some_iff.1 hi).1; simp; omega
  have sp : ∀ {l : List Int} {i : Nat}, l[i]? = some k → l = l.take i ++ k :: l.drop (i + 1) := fun {l i} hi => by
    obtain ⟨h1, h2⟩ := List.getElem?_eq_some_iff.1 hi
    conv => lhs; rw [← List.take_append_drop i l]
    rw [List.drop_eq_getElem_cons h1, h2]
  have := nodup_sub (m.take q) (l.take i) (hm.sublist (List.take_sublist _ _)) fun j hj => by
    obtain ⟨A, B, e, h'⟩ := h j ⟨m.take q, m.drop (q + 1), sp hq, hj⟩
    have hA : A = l.take i := by
      have hiA : i = A.length := (List.getElem?_inj (List.getElem?_eq_some_iff.1 hi).1 hl).1 (hi.trans (by rw [e]; simp))
      rw [hiA, e]; simp
    rw [← hA]; exact h'
  omega
end Go.Proofs.Tryz
end
section
set_option maxRecDepth 100000
set_option linter.all false
namespace Go.Proofs.Tryz
open Go Go.Sx
end Go.Proofs.Tryz
end

/- Plain law: the order of entrants, put in one after another. Plain law: the order of entrants, both the same. Plain law: the form of heats. -/
import Derived.Test.YtdghdcclhnoigaaGreatDoorXP8d
section
set_option maxRecDepth 100000
set_option linter.unusedVariables false
set_option linter.unusedSimpArgs false
namespace Go.Proofs.Tryz
open Go Go.Sx
theorem bind_inv {σ β γ : Type} {step : σ → Option (σ ⊕ β)} {F : Nat} {t : σ} {k : β → Option γ} {P : γ → Prop} (Inv : σ → Prop) (m : σ → Nat) (Post : β → Prop)
    (h : ∀ x, Inv x → (∃ y, step x = some (.inl y) ∧ Inv y ∧ m y < m x) ∨ ∃ b, step x = some (.inr b) ∧ Post b) (h0 : Inv t) (hF : m t < F) (hk : ∀ b, Post b → ∃ r, k b = some r ∧ P r) : ∃ r, Option.bind (loopO step F t) k = some r ∧ P r := by
  obtain ⟨b, h1, h2⟩ := loopO_ex Inv m Post h F t h0 hF
  rw [h1]
  exact hk b h2
theorem pairEq_self {α β : Type} {f : α → α → Bool} {g : β → β → Bool} (hf : ∀ x, f x x = true) (hg : ∀ x, g x x = true) (x : α × β) : pairEq f g x x = true := by
  simp only [pairEq, hf, hg]
theorem stab_ins {lt : Int → Int → Bool} {D : Int → Prop} (ho : LtOn lt D) {l o : List Int} {x : Int} {n : Nat} (hD : ∀ y ∈ l, D y) (hx : D x) (h : StabS lt l o) (hn : n ≤ o.length) (h2 : ∀ y ∈ o.drop n, lt x y = true) (h1 : n = 0 ∨ lt x (o.getD (n - 1) 0) = false) :
    StabS lt (l ++ [x]) (o.take n ++ x :: o.drop n) := by
  have hDo : ∀ y ∈ o, D y := fun y hy => hD y (h.mem.1 hy)
  have e : o.take n ++ o.drop n = o := List.take_append_drop n o
  have hp := StabS.put ho (S1 := o.take n) (S2 := o.drop n) (x := x) (by
    rw [e]
    intro y hy
    rcases List.mem_append.1 hy with hy | hy
    · exact hDo y hy
    · rw [List.mem_singleton.1 hy]; exact hx) (by rw [e]; exact h.2.1) (by
    intro y hy
    rcases h1 with h1 | h1
    · rw [h1] at hy; simp at hy
    · by_cases hn0 : n = 0
      · rw [hn0] at hy; simp at hy
      · have hz : o[n - 1]? = some (o.getD (n - 1) 0) := by
          rw [List.getD_eq_getElem?_getD, List.getElem?_eq_getElem (show n - 1 < o.length by omega)]; rfl
        have hzm := List.mem_of_getElem? hz
        unfold leB
        cases q : lt x y with
        | false => rfl
        | true =>
          exfalso
          obtain ⟨k, hk, ek⟩ := List.mem_iff_getElem.1 hy
          rw [List.length_take] at hk
          rw [List.getElem_take] at ek
          have hle : leB lt y (o.getD (n - 1) 0) := by
            by_cases hkn : k = n - 1
            · have : o.getD (n - 1) 0 = y := by
                rw [← ek, getD_some (List.getElem?_eq_getElem (show n - 1 < o.length by omega))]
                congr 1; omega
              rw [this]
              exact ho.irr (hDo y (List.mem_of_mem_take hy))
            · have := List.pairwise_iff_getElem.1 h.2.1 k (n - 1) (by omega) (by omega) (by omega)
              rw [ek] at this
              rw [getD_some (List.getElem?_eq_getElem (show n - 1 < o.length by omega))]
              exact this
          have := ho.lt_le hx (hDo y (List.mem_of_mem_take hy)) (hDo _ hzm) q hle
          rw [h1] at this
          cases this) h2
  rw [e] at hp
  refine StabS.pre ?_ ?_ hp
  · exact h.1.append_right [x]
  · intro y hy
    have hyD : D y := by
      rcases List.mem_append.1 hy with hy | hy
      · exact hD y hy
      · rw [List.mem_singleton.1 hy]; exact hx
    rw [List.filter_append, List.filter_append, h.filt ho hD hyD]
theorem listEq_self {α : Type} {f : α → α → Bool} (hf : ∀ x, f x x = true) : ∀ (l : List α), listEq f l l = true
  | [] => rfl
  | x :: l => by simp only [listEq, hf x]; exact listEq_self hf l
theorem eq23 (x : List Int × Int) (f) : sumEq (CEls.eqv (Cel.slot 6 (ATy.val (Ty.seq (Ty.int Go.IntKind.i64 :: nilT Ty))) :: Cel.slot 7 (ATy.val (Ty.int Go.IntKind.i64)) :: nilT Cel)) (β := AltsEl ((Go.Exit.exit 0, { cells := Cel.slot 6 (ATy.val (Ty.seq (Ty.int Go.IntKind.i64 :: nilT Ty))) :: nilT Cel, owns := nilT (Nat × Lk) }) :: nilT (Go.Exit × Tmpl))) f (.inl x) (.inl x) = true := by
  exact pairEq_self (f := listEq intEq) (g := intEq) (listEq_self (fun x => by simp [intEq])) (fun x => by simp [intEq]) x
theorem drawS_in {key : Int} {n : Nat} (h1 : 1 ≤ key) (h2 : key < 2147483647) : ∀ x ∈ drawS key n, InE n x := fun x hx => mem_ids.1 ((drawS_perm (by omega) h2 n).mem_iff.1 hx)
theorem drawS_len {key : Int} {n : Nat} (h1 : 1 ≤ key) (h2 : key < 2147483647) : (drawS key n).length = n := by rw [(drawS_perm (by omega) h2 n).length_eq, ids_length]
theorem l23 {F : Nat} (hF : 400 ≤ F) {l : List Ent} (h : EntOk l) {key : Int} (h1 : 1 ≤ key) (h2 : key < 2147483647) : ∃ L, c23 F (l, key) = some L ∧ StabS (ltE l) (drawS key l.length) L := by
  unfold c23
  have hlen := h.len
  simp only [l59 hF h1 h2 (show l.length ≤ 256 by omega), Option.bind_some]
  have hD := drawS_in (n := l.length) h1 h2
  have hdl := drawS_len (n := l.length) h1 h2
  generalize drawS key l.length = d at hD hdl
  refine bind_sim d (fun _ (_ : Unit) => .inl ()) (fun _ => ()) (fun i _ t => t.2 = (i : Int) ∧ StabS (ltE l) (d.take i) t.1) (fun _ (b : List Int) => StabS (ltE l) d b) () (by omega) ⟨rfl, StabS.nil⟩ ?_ ?_ ?_
  · intro i x _ t hi hx ⟨ht, hs⟩
    obtain ⟨o, ti⟩ := t
    simp only at ht hs
    subst ht
    have hxD := hD x (List.mem_of_getElem? hx)
    have hol := hs.len
    rw [len_take (by omega)] at hol
    have hoD : ∀ y ∈ o, InE l.length y := fun y hy => hD y (List.mem_of_mem_take (hs.mem.1 hy))
    obtain ⟨x', hx', ex⟩ := atE_get hxD
    have hx1 := hxD.1
    have hx2 := hxD.2
    have hx'm := List.mem_of_getElem? hx'
    simp (disch := omega) only [cd_pos, gd_dec, Int.toNat_natCast, getD_some hx]
    refine bind_inv (fun v : Int => ∃ n : Nat, v = n ∧ n ≤ o.length ∧ ∀ y ∈ o.drop n, ltE l x y = true) (fun v : Int => v.toNat)
      (fun b : Int => ∃ n : Nat, b = n ∧ n ≤ o.length ∧ (∀ y ∈ o.drop n, ltE l x y = true) ∧ (n = 0 ∨ ltE l x (o.getD (n - 1) 0) = false)) ?_ ⟨o.length, rfl, Nat.le_refl _, by simp⟩ (by omega) ?_
    · rintro v ⟨n, rfl, hn, hy⟩
      by_cases h0 : n = 0
      · subst h0
        right
        exact ⟨0, rfl, 0, rfl, by omega, hy, .inl rfl⟩
      · have hw : w64 ((n : Int) - 1) = ((n - 1 : Nat) : Int) := by rw [w64_in (by omega) (by omega)]; omega
        have hz : o[n - 1]? = some (o[n - 1]'(by omega)) := List.getElem?_eq_getElem (by omega)
        have hzm := hoD _ (List.mem_of_getElem? hz)
        generalize hzz : o[n - 1]'(by omega) = z at hz hzm
        obtain ⟨z', hz', ez⟩ := atE_get hzm
        have hz1 := hzm.1
        have hz2 := hzm.2
        have hz'm := List.mem_of_getElem? hz'
        simp (disch := omega) only [cd_pos, hw, gd_dec, Int.toNat_natCast, getD_some hz, getD_some hx', getD_some hz', l60 F (h.one x' hx'm).2.2 (h.one z' hz'm).2.2 (h.kinds x' hx'm z' hz'm), Option.bind_some, cmpI_neg]
        have e : decide (wE z' < wE x') = ltE l x z := by rw [ltE, ex, ez]
        rw [e]
        cases q : ltE l x z with
        | true =>
          left
          refine ⟨((n - 1 : Nat) : Int), rfl, ⟨n - 1, rfl, by omega, fun y hyd => ?_⟩, by omega⟩
          rw [List.drop_eq_getElem_cons (show n - 1 < o.length by omega), show n - 1 + 1 = n by omega] at hyd
          rcases List.mem_cons.1 hyd with rfl | hyd
          · rw [hzz]; exact q
          · exact hy y hyd
        | false =>
          right
          exact ⟨(n : Int), rfl, n, rfl, hn, hy, .inr (by rw [getD_some hz]; exact q)⟩
    · rintro b ⟨n, rfl, hn, hn2, hn1⟩
      have hs' := stab_ins (ltE_on l l.length) (x := x) (n := n) (fun y hy => hD y (List.mem_of_mem_take hy)) hxD hs hn hn2 hn1
      have et : d.take i ++ [x] = d.take (i + 1) := take_snoc hx
      rw [et] at hs'
      have e1 : nilT Int ++ List.drop 0 (List.take n o) ++ x :: nilT Int ++ List.drop n (List.take o.length o) = o.take n ++ x :: o.drop n := by simp [nilT]
      have e2 : (nilT Int ++ List.drop 0 (List.take n o)).length = n := by simp [nilT]; omega
      have e3 : (nilT Int ++ List.drop 0 (List.take n o) ++ x :: nilT Int).length = n + 1 := by simp [nilT]; omega
      have e4 : (o.take n ++ x :: o.drop n).length = i + 1 := by simp; omega
      simp (disch := omega) only [gd_dec, Int.toNat_natCast, e1, e2, e3, e4, w64_in, Nat.zero_add, Nat.le_refl, decide_true, Bool.and_true, Bool.true_and, gd_true, Option.bind_some]
      have e5 : List.take (i + 1) (List.drop 0 (o.take n ++ x :: o.drop n)) = o.take n ++ x :: o.drop n := by rw [List.drop_zero, List.take_of_length_le (by omega)]
      have e6 := eq23 (List.take (i + 1) (List.drop 0 (o.take n ++ x :: o.drop n)), (i : Int) + 1)
      refine ⟨.inl (List.take (i + 1) (List.drop 0 (o.take n ++ x :: o.drop n)), (i : Int) + 1), (congrArg (fun z => Option.bind z _) (gd_of (e6 _))).trans (gd_of (e6 _)), ?_⟩
      exact ⟨by simp, by rw [e5]; exact hs'⟩
  · intro _ t ⟨ht, hs⟩
    rw [List.take_length] at hs
    simp (disch := omega) only [cd_neg]
    exact ⟨t.1, rfl, hs⟩
  · intro b hb
    exact ⟨b, rfl, hb⟩
end Go.Proofs.Tryz
end
section
set_option maxRecDepth 100000
set_option linter.unusedVariables false
set_option linter.unusedSimpArgs false
namespace Go.Proofs.Tryz
open Go Go.Sx
open Classical in
noncomputable def ordE (l : List Ent) (key : Int) : List Int := if h : ∃ L, StabS (ltE l) (drawS key l.length) L then Classical.choose h else []
theorem ordE_of {l : List Ent} {key : Int} (h1 : 1 ≤ key) (h2 : key < 2147483647) {L : List Int} (h : StabS (ltE l) (drawS key l.length) L) : L = ordE l key := by
  have he : ∃ L, StabS (ltE l) (drawS key l.length) L := ⟨L, h⟩
  unfold ordE
  rw [dif_pos he]
  exact StabS.unique (ltE_on l l.length) (drawS_in h1 h2) h (Classical.choose_spec he)
theorem ordE_stab {F : Nat} (hF : 400 ≤ F) {l : List Ent} (h : EntOk l) {key : Int} (h1 : 1 ≤ key) (h2 : key < 2147483647) : c23 F (l, key) = some (ordE l key) ∧ StabS (ltE l) (drawS key l.length) (ordE l key) := by
  obtain ⟨L, e, hL⟩ := l23 hF h h1 h2
  rw [← ordE_of h1 h2 hL]
  exact ⟨e, hL⟩
def drawE (key : Int) (n : Nat) : Int := if key < 1 ∨ 2147483646 < key ∨ 256 < n then 3 else 0
theorem l79 {F : Nat} (hF : 400 ≤ F) {l : List Ent} (hl : l.length ≤ 300) (hS : ∀ x ∈ l, EntS x) {key : Int} : c79 F (l, key) = some (if entC l ≠ 0 then ([], entC l) else if drawE key l.length ≠ 0 then ([], 3) else (ordE l key, 0)) := by
  unfold c79
  simp only [l19 hF hl hS, Option.bind_some, l105]
  by_cases h0 : entC l = 0
  · have hok := entC_ok h0
    have hlen := hok.len
    simp only [h0, decide_true, Bool.not_true, cond_false, ne_eq, not_true_eq_false, if_false]
    unfold drawE
    by_cases hb : key < 1 ∨ 2147483646 < key ∨ 256 < l.length
    · rw [if_pos hb, if_pos (by decide)]
      have : (bif decide (key < 1 ∨ 2147483646 < key) then some true else some (decide (256 < (l.length : Int)))) = some true := by
        by_cases h : key < 1 ∨ 2147483646 < key
        · simp [h]
        · have : 256 < (l.length : Int) := by omega
          simp [h, this]
      rw [this]
      rfl
    · rw [if_neg hb, if_neg (by simp)]
      have : (bif decide (key < 1 ∨ 2147483646 < key) then some true else some (decide (256 < (l.length : Int)))) = some false := by
        have h : ¬ (key < 1 ∨ 2147483646 < key) := by omega
        have : ¬ (256 < (l.length : Int)) := by omega
        simp [h, this]
      have h1 : 1 ≤ key := by omega
      have h2 : key < 2147483647 := by omega
      have hn : l.length ≤ 256 := by omega
      have hdl := drawS_len (n := l.length) h1 h2
      have hD := drawS_in (n := l.length) h1 h2
      obtain ⟨L, hL, hst⟩ := l106 hF hok hD (by omega) (by omega)
      have eL := ordE_of h1 h2 hst
      have hLl := hst.len
      rw [hdl] at hLl
      rw [this]
      generalize hnn : l.length = n at hdl hLl hL hn ⊢
      simp (disch := omega) only [gd_dec, Int.toNat_natCast, Option.bind_some, cond_false]
      refine bind_list (List.replicate n ()) (fun (_ : Unit) i => (ids i ++ List.replicate (n - i) (0 : Int), (i : Int))) (fun _ _ => .inl ()) (fun _ => ids n) (fun _ _ => True) () (by simp; omega) (by simp [ids]) trivial ?_ ?_ ?_
      · intro i x s hi hx _
        simp only [List.length_replicate] at hi
        have hl : (ids i ++ List.replicate (n - i) (0 : Int)).length = n := by simp [ids_length]; omega
        refine ⟨?_, fun _ _ => trivial⟩
        simp (disch := omega) only [cd_pos, gd_dec, Nat.zero_add, Int.toNat_natCast, hl, set_ids hi, w64_in]
        simp
      · intro s _
        simp (disch := omega) only [List.length_replicate, cd_neg]
        simp
      · rw [goL_unit]
        refine bind_list (List.replicate (n - 1) ()) (fun s _ => s) drawB (fun s => s.1) (DrawI n) (ids n, key, (n : Int) - 1) (by simp; omega) ?_ ⟨ids_length n, by simp only; omega, h2, by simp⟩ ?_ ?_ ?_
        · rw [w64_in (by omega) (by omega)]
        · intro i x s hi hx hI
          simp only [List.length_replicate] at hi
          refine ⟨?_, fun s' hs => drawB_inv hi hI hs⟩
          obtain ⟨out, key, j⟩ := s
          obtain ⟨h1, h2, h3, h4⟩ := hI
          simp only at h1 h2 h3 h4
          have k1 : 0 ≤ Int.tmod (69621 * key) 2147483647 := Int.tmod_nonneg _ (by omega)
          have m1 : 0 ≤ Int.tmod (Int.tmod (69621 * key) 2147483647) (j + 1) := Int.tmod_nonneg _ k1
          have m2 : Int.tmod (Int.tmod (69621 * key) 2147483647) (j + 1) < j + 1 := Int.tmod_lt_of_pos _ (by omega)
          simp only [drawB]
          simp (disch := omega) only [w64_in, cd_pos]
          generalize Int.tmod (Int.tmod (69621 * key) 2147483647) (j + 1) = q at m1 m2
          simp (disch := omega) only [gd_dec, Nat.zero_add, List.length_set]
        · intro s ⟨h1, h2, h3, h4⟩
          simp only [List.length_replicate] at h4
          simp (disch := omega) only [cd_neg]
        · change Option.bind (gd (decide (n = (drawS key n).length) && (true && true) && (true && true)) (some (drawS key n, l))) _ = _
          rw [hdl, decide_eq_true rfl]
          simp only [Bool.and_self, gd_true, Option.bind_some, hL]
          rw [hLl, gd_of (by simp), List.drop_zero, List.take_of_length_le (by omega), eL]
  · simp [h0, nilT]
end Go.Proofs.Tryz
end
section
set_option maxRecDepth 100000
set_option linter.unusedVariables false
set_option linter.unusedSimpArgs false
namespace Go.Proofs.Tryz
open Go Go.Sx
theorem nodup_sub {α : Type} [DecidableEq α] : ∀ (l m : List α), l.Nodup → (∀ x ∈ l, x ∈ m) → l.length ≤ m.length
  | [], m, _, _ => by simp
  | x :: l, m, h, hs => by
    rw [List.nodup_cons] at h
    have hx := hs x List.mem_cons_self
    have := nodup_sub l (m.erase x) h.2 (fun y hy => by
      have hne : y ≠ x := fun e => h.1 (e ▸ hy)
      exact (List.mem_erase_of_ne hne).2 (hs y (List.mem_cons_of_mem _ hy)))
    rw [List.length_erase_of_mem hx] at this
    have := List.length_pos_of_mem hx
    simp only [List.length_cons]
    omega
theorem ids_nodup (n : Nat) : (ids n).Nodup := by
  unfold ids
  refine List.Pairwise.map _ (fun a b h => ?_) List.nodup_range
  intro e
  exact h (by omega)
def formI (n : Nat) (x : Int) (s : List Int) : List Int ⊕ (List Int ⊕ Int) := if x < 0 ∨ (n : Int) ≤ x then .inr (.inr 10) else if x ∈ s then .inr (.inr 9) else .inl (x :: s)
def formG (n : Nat) (g : List Int) (s : List Int) : List Int ⊕ Int := goL (formI n) .inl g s
def formS (n : Nat) (h : List (List Int)) : Int := if h.length = 0 then 12 else if 16 < h.length then 5 else goL (formG n) (fun s => if s.length < n then 7 else 0) h []
def FormI (n : Nat) (s : List Int) : Prop := s.Nodup ∧ ∀ x ∈ s, InE n x
theorem FormI.len {n : Nat} {s : List Int} (h : FormI n s) : s.length ≤ n := by
  have := nodup_sub s (ids n) h.1 (fun x hx => mem_ids.2 (h.2 x hx))
  rwa [ids_length] at this
theorem FormI.all {n : Nat} {s : List Int} (h : FormI n s) : s.length < n ↔ ∃ k ∈ ids n, k ∉ s := by
  constructor
  · intro hl
    refine Classical.byContradiction fun hc => ?_
    have := nodup_sub (ids n) s (ids_nodup n) (fun x hx => Classical.byContradiction fun hx' => hc ⟨x, hx, hx'⟩)
    rw [ids_length] at this
    omega
  · rintro ⟨k, hk, hks⟩
    have := nodup_sub (k :: s) (ids n) (List.nodup_cons.2 ⟨hks, h.1⟩) (fun x hx => by
      rcases List.mem_cons.1 hx with rfl | hx
      · exact hk
      · exact mem_ids.2 (h.2 x hx))
    rw [ids_length, List.length_cons] at this
    omega
theorem FormI.cons {n : Nat} {s : List Int} (h : FormI n s) {x : Int} (h1 : ¬ (x < 0 ∨ (n : Int) ≤ x)) (h2 : x ∉ s) : FormI n (x :: s) :=
  ⟨List.nodup_cons.2 ⟨h2, h.1⟩, fun y hy => by
    rcases List.mem_cons.1 hy with rfl | hy
    · exact ⟨by omega, by omega⟩
    · exact h.2 y hy⟩
def SeenN (n : Nat) (s : List Int) (m : List Bool) : Prop := m.length = n ∧ ∀ k : Nat, k < n → m.getD k false = decide ((k : Int) ∈ s)
theorem SeenN.put {n : Nat} {s : List Int} {m : List Bool} (h : SeenN n s m) {x : Int} (h0 : 0 ≤ x) (h1 : x < n) : SeenN n (x :: s) (m.set x.toNat true) := by
  refine ⟨by simp [h.1], fun k hk => ?_⟩
  have := h.2 k hk
  have hm := h.1
  by_cases e : x.toNat = k
  · subst e
    have : ((x.toNat : Nat) : Int) = x := by omega
    simp [List.getD, List.getElem?_set, hm, hk, this]
  · have hne : (k : Int) ≠ x := by omega
    simp only [List.getD] at this ⊢
    rw [List.getElem?_set_ne (by omega), this]
    simp [hne]
theorem SeenN.nil (n : Nat) : SeenN n [] (List.replicate n false) := ⟨by simp, fun k hk => by rw [List.getD_eq_getElem?_getD, List.getElem?_replicate, if_pos hk]; simp⟩
theorem l37 {F : Nat} (hF : 400 ≤ F) {n : Nat} (hn : n ≤ 1000) {h : List (List Int)} (hh : ∀ g ∈ h, g.length < 400) : c37 F ((n : Int), h) = some (formS n h) := by
  unfold c37 formS
  dsimp only
  by_cases h0 : h.length = 0
  · rw [cd_pos (by omega), if_pos h0]
  · rw [cd_neg (by omega), if_neg h0]
    by_cases h1 : 16 < h.length
    · rw [cd_pos (by omega), if_pos h1]
    · rw [cd_neg (by omega), if_neg h1]
      simp (disch := omega) only [gd_dec, Int.toNat_natCast]
      refine ex_eq (bind_sim h (formG n) (fun s => if s.length < n then 7 else 0) (fun i s t => t = (t.1, (s.length : Int), (i : Int)) ∧ SeenN n s t.1 ∧ FormI n s) (fun (a : Int) (b : List Bool × Int ⊕ List Bool × Int) => match b with
        | .inl v => a = v.2
        | .inr v => a = (if v.2 < (n : Int) then 7 else 0)) [] (by omega) ⟨rfl, SeenN.nil n, List.nodup_nil, fun _ h => by cases h⟩ ?_ ?_ ?_)
      · intro i g s t hi hg ⟨ht, hs, hI⟩
        obtain ⟨m, t2⟩ := t
        simp only at hs
        rw [ht]
        have hgl := hh g (List.mem_of_getElem? hg)
        simp (disch := omega) only [cd_pos, gd_dec, Int.toNat_natCast, getD_some hg, w64_in (n := ((i : Nat) : Int) + 1)]
        refine bind_sim g (formI n) .inl (fun k s' t => t = (t.1, (s'.length : Int), (k : Int)) ∧ SeenN n s' t.1 ∧ FormI n s') (fun (a : List Int ⊕ Int) (b : List Bool × Int ⊕ List Bool × Int) => RelS (fun s' v => v.2 = (s'.length : Int) ∧ SeenN n s' v.1 ∧ FormI n s') (fun e v => v.2 = e) a (b.elim .inr .inl)) s (by omega) ⟨rfl, hs, hI⟩ ?_ ?_ ?_
        · intro k x s' t hk hx ⟨ht, hs', hI'⟩
          obtain ⟨m', t2⟩ := t
          simp only at hs'
          rw [ht]
          have hml := hs'.1
          have hsl := hI'.len
          have hw : w64 ((n : Int) - 1) = (n : Int) - 1 := w64_in (by omega) (by omega)
          simp (disch := omega) only [cd_pos, gd_dec, Int.toNat_natCast, getD_some hx, l82, hw, Option.bind_some]
          unfold formI
          by_cases hb : x < 0 ∨ (n : Int) ≤ x
          · have : x < 0 ∨ (n : Int) - 1 < x := by omega
            rw [if_pos hb]
            simp only [this, decide_true, cond_true]
            exact ⟨_, rfl, rfl⟩
          · have : ¬ (x < 0 ∨ (n : Int) - 1 < x) := by omega
            rw [if_neg hb]
            have hsn := hs'.2 x.toNat (by omega)
            rw [show ((x.toNat : Nat) : Int) = x by omega] at hsn
            simp only [this, decide_false, cond_false]
            simp (disch := omega) only [gd_dec, Nat.zero_add, hsn]
            by_cases hin : x ∈ s'
            · rw [if_pos hin]
              simp only [hin, decide_true, cond_true]
              exact ⟨_, rfl, rfl⟩
            · rw [if_neg hin]
              simp only [hin, decide_false, cond_false]
              refine ⟨_, rfl, ?_⟩
              refine ⟨?_, hs'.put (by omega) (by omega), hI'.cons hb hin⟩
              rw [w64_in (by omega) (by omega), w64_in (by omega) (by omega)]
              simp
        · intro s' t ⟨ht, hs', hI'⟩
          rw [ht]
          simp (disch := omega) only [cd_neg]
          exact ⟨_, rfl, rfl, hs', hI'⟩
        · intro b hb
          unfold formG
          cases b with
          | inl v =>
            cases hgo : goL (formI n) (fun s => (.inl s : List Int ⊕ Int)) g s with
            | inl s' => rw [hgo] at hb; exact hb.elim
            | inr e => rw [hgo] at hb; exact ⟨_, rfl, hb.symm⟩
          | inr v =>
            cases hgo : goL (formI n) (fun s => (.inl s : List Int ⊕ Int)) g s with
            | inr e => rw [hgo] at hb; exact hb.elim
            | inl s' =>
              rw [hgo] at hb
              obtain ⟨b1, b2, b3⟩ := hb
              refine ⟨_, rfl, ?_⟩
              exact ⟨by simp [b1], b2, b3⟩
      · intro s t ⟨ht, hs, hI⟩
        rw [ht]
        simp (disch := omega) only [cd_neg]
        refine ⟨_, rfl, ?_⟩
        by_cases q : s.length < n
        · rw [if_pos q]
          exact (if_pos (show (s.length : Int) < (n : Int) by omega)).symm
        · rw [if_neg q]
          exact (if_neg (show ¬ (s.length : Int) < (n : Int) by omega)).symm
      · intro b hb
        cases b with
        | inl v => exact ⟨_, rfl, hb.symm⟩
        | inr v =>
          refine ⟨if v.2 < (n : Int) then 7 else 0, ?_, hb.symm⟩
          simp only [Sum.elim_inr]
          by_cases q : v.2 < (n : Int)
          · rw [cd_pos q, if_pos q]
          · rw [cd_neg q, if_neg q]
theorem l126 {F : Nat} {l : List Bool} (hl : l.length ≤ 10000) (hF : l.length < F) : ∃ v, c126 F (l, false) = some v ∧ decide (0 ≤ v) = l.any fun y => !y := by
  unfold c126
  refine bind_sim l (fun y (_ : Unit) => if (!y) = true then .inr true else .inl ()) (fun _ => false) (fun i _ t => t = (i : Int)) (fun (a : Bool) (b : Int ⊕ Unit) => decide (0 ≤ b.elim (fun v => v) (fun _ => -1)) = a) () (by omega) rfl ?_ ?_ ?_
  · intro i y _ t hi hy ht
    subst ht
    simp (disch := omega) only [cd_pos, gd_dec, Int.toNat_natCast, getD_some hy, w64_in]
    cases y with
    | false => exact ⟨_, rfl, by simp [RelS]⟩
    | true => exact ⟨_, rfl, by simp [RelS]⟩
  · intro _ t ht
    subst ht
    simp (disch := omega) only [cd_neg]
    exact ⟨_, rfl, by simp⟩
  · intro b hb
    rw [goL_any] at hb
    refine ⟨b.elim (fun v => v) (fun _ => -1), by cases b <;> rfl, ?_⟩
    rw [hb]
    cases l.any fun y => !y <;> rfl
theorem l110 {F : Nat} {l : List Bool} (hl : l.length ≤ 10000) (hF : l.length < F) : c110 F (l, false) = some (l.any fun y => !y) := by
  unfold c110
  obtain ⟨v, h1, h2⟩ := l126 hl hF
  rw [h1, Option.bind_some, h2]
theorem seenN_any {n : Nat} {s : List Int} {m : List Bool} (hs : SeenN n s m) (hI : FormI n s) : (m.any fun y => !y) = decide (s.length < n) := by
  rw [Bool.eq_iff_iff, List.any_eq_true, decide_eq_true_eq, hI.all]
  constructor
  · rintro ⟨y, hy, h⟩
    obtain ⟨k, hk, e⟩ := List.mem_iff_getElem.1 hy
    have hm := hs.1
    have := hs.2 k (by omega)
    rw [getD_some (List.getElem?_eq_getElem hk), e] at this
    refine ⟨(k : Int), mem_ids.2 ⟨by omega, by omega⟩, fun hin => ?_⟩
    rw [decide_eq_true hin] at this
    rw [this] at h
    cases h
  · rintro ⟨k, hk, hks⟩
    obtain ⟨k0, k1⟩ := mem_ids.1 hk
    have hm := hs.1
    have := hs.2 k.toNat (by omega)
    rw [show ((k.toNat : Nat) : Int) = k by omega, decide_eq_false hks, getD_some (List.getElem?_eq_getElem (show k.toNat < m.length by omega))] at this
    exact ⟨_, List.getElem_mem (show k.toNat < m.length by omega), by rw [this]; rfl⟩
theorem l84 {F : Nat} (hF : 400 ≤ F) {n : Nat} (hn : n < 400) {h : List (List Int)} (hh : ∀ g ∈ h, g.length < 400) : c84 F ((n : Int), h) = some (formS n h) := by
  unfold c84 formS
  have q : ∀ (a b : Int), c75 F (a :: b :: nilT Int) = some (if a ≠ 0 then a else b) := by
    intro a b
    rw [l75 (by simp [nilT]; omega) (by simp [nilT])]
    by_cases ha : a = 0 <;> by_cases hb : b = 0 <;> simp [firstNZ, nilT, ha, hb]
  simp only [l76, Option.bind_some, q]
  by_cases h0 : h.length = 0
  · have : (h.length : Int) = 0 := by omega
    simp [this, h0]
  · have h0' : ¬ (h.length : Int) = 0 := by omega
    rw [if_neg h0]
    by_cases h1 : 16 < h.length
    · have : (16 : Int) < h.length := by omega
      simp only [h0', this, h1, decide_false, decide_true, Bool.false_eq_true, if_false, if_true, ne_eq, not_true_eq_false]
      rfl
    · have h1' : ¬ (16 : Int) < h.length := by omega
      rw [if_neg h1]
      simp only [h0', h1', decide_false, Bool.false_eq_true, if_false, ne_eq, not_true_eq_false, decide_true, Bool.not_true, cond_false]
      simp (disch := omega) only [gd_dec, Int.toNat_natCast]
      refine ex_eq (bind_sim h (formG n) (fun s => if s.length < n then 7 else 0) (fun i s t => t = (t.1, (i : Int)) ∧ SeenN n s t.1 ∧ FormI n s) (fun (a : Int) (b : List Bool × Int ⊕ List Bool) => match b with
        | .inl v => a = v.2
        | .inr v => a = (if (v.any fun y => !y) = true then 7 else 0) ∧ v.length = n) [] (by omega) ⟨rfl, SeenN.nil n, List.nodup_nil, fun _ h => by cases h⟩ ?_ ?_ ?_)
      · intro i g s t hi hg ⟨ht, hs, hI⟩
        obtain ⟨m, t2⟩ := t
        simp only at hs
        rw [ht]
        have hgl := hh g (List.mem_of_getElem? hg)
        simp (disch := omega) only [cd_pos, gd_dec, Int.toNat_natCast, getD_some hg, w64_in (n := ((i : Nat) : Int) + 1)]
        refine bind_sim g (formI n) .inl (fun k s' t => t = (t.1, (k : Int)) ∧ SeenN n s' t.1 ∧ FormI n s') (fun (a : List Int ⊕ Int) (b : List Bool × Int ⊕ List Bool) => RelS (fun s' v => SeenN n s' v ∧ FormI n s') (fun e v => v.2 = e) a (b.elim .inr .inl)) s (by omega) ⟨rfl, hs, hI⟩ ?_ ?_ ?_
        · intro k x s' t hk hx ⟨ht, hs', hI'⟩
          obtain ⟨m', t2⟩ := t
          simp only at hs'
          rw [ht]
          have hml := hs'.1
          have hsl := hI'.len
          simp (disch := omega) only [cd_pos, gd_dec, Int.toNat_natCast, getD_some hx, Option.bind_some]
          unfold formI
          by_cases hb : x < 0 ∨ (n : Int) ≤ x
          · have e : (bif decide (x < 0) then some true else some (decide ((n : Int) ≤ x))) = some true := by
              by_cases q : x < 0
              · rw [cd_pos q]
              · rw [cd_neg q, decide_eq_true (by omega)]
            rw [if_pos hb, e]
            exact ⟨_, rfl, rfl⟩
          · have e : (bif decide (x < 0) then some true else some (decide ((n : Int) ≤ x))) = some false := by
              rw [cd_neg (by omega), decide_eq_false (by omega)]
            rw [if_neg hb, e]
            have hsn := hs'.2 x.toNat (by omega)
            rw [show ((x.toNat : Nat) : Int) = x by omega] at hsn
            simp only [Option.bind_some, cond_false]
            simp (disch := omega) only [gd_dec, Nat.zero_add, hsn]
            by_cases hin : x ∈ s'
            · rw [if_pos hin]
              simp only [hin, decide_true, cond_true]
              exact ⟨_, rfl, rfl⟩
            · rw [if_neg hin]
              simp only [hin, decide_false, cond_false]
              refine ⟨_, rfl, ?_⟩
              refine ⟨?_, hs'.put (by omega) (by omega), hI'.cons hb hin⟩
              rw [w64_in (by omega) (by omega)]
              simp
        · intro s' t ⟨ht, hs', hI'⟩
          rw [ht]
          simp (disch := omega) only [cd_neg]
          exact ⟨_, rfl, hs', hI'⟩
        · intro b hb
          unfold formG
          cases b with
          | inl v =>
            cases hgo : goL (formI n) (fun s => (.inl s : List Int ⊕ Int)) g s with
            | inl s' => rw [hgo] at hb; exact hb.elim
            | inr e => rw [hgo] at hb; exact ⟨_, rfl, hb.symm⟩
          | inr v =>
            cases hgo : goL (formI n) (fun s => (.inl s : List Int ⊕ Int)) g s with
            | inr e => rw [hgo] at hb; exact hb.elim
            | inl s' =>
              rw [hgo] at hb
              obtain ⟨b2, b3⟩ := hb
              refine ⟨_, rfl, ?_⟩
              exact ⟨by simp, b2, b3⟩
      · intro s t ⟨ht, hs, hI⟩
        rw [ht]
        simp (disch := omega) only [cd_neg]
        refine ⟨.inr t.1, rfl, ?_, hs.1⟩
        rw [seenN_any hs hI]
        by_cases q : s.length < n
        · simp [q]
        · simp [q]
      · intro b hb
        cases b with
        | inl v => exact ⟨_, rfl, hb.symm⟩
        | inr v =>
          obtain ⟨hb, hv⟩ := hb
          refine ⟨if (v.any fun y => !y) = true then 7 else 0, ?_, hb.symm⟩
          simp only [Sum.elim_inr]
          have e : List.take n (List.drop 0 v) = v := by rw [List.drop_zero, List.take_of_length_le (by omega)]
          rw [gd_of (by simp [hv]), e, l110 (by omega) (by omega)]
          simp only [Option.bind_some, l76]
end Go.Proofs.Tryz
end

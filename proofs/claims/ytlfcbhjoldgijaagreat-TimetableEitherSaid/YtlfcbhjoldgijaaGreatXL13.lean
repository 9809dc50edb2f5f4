/- Plain law: TimetableEither. -/
import Derived.Test.YtlfcbhjoldgijaaGreatXT9ze
set_option maxRecDepth 100000
set_option linter.unusedVariables false
set_option linter.unusedSimpArgs false
namespace Go.Proofs.Tryz
open Go Go.Sx
theorem l49 {F : Nat} (hF : 400 ≤ F) {p : Pln} {k : Nat} : ∃ b, c49 F (p, (k : Int)) = some b ∧ (b = true → PShort p ∧ p.1.length ≤ k ∧ p.2.1.length ≤ k ∧ planE p = 0) := by
  unfold c49
  obtain ⟨b, h1, h2⟩ := l16 (F := F) hF (p := p)
  simp only [peta, h1, Option.bind_some]
  cases b with
  | false => exact ⟨false, rfl, fun h => nomatch h⟩
  | true =>
    have hp := h2 rfl
    by_cases a1 : p.1.length ≤ k
    · by_cases a2 : p.2.1.length ≤ k
      · simp (disch := omega) only [cond_true, cd_pos, l19 hF hp.sm, Option.bind_some]
        exact ⟨_, rfl, fun h => ⟨hp, a1, a2, of_decide_eq_true h⟩⟩
      · simp (disch := omega) only [cond_true, cd_pos, cd_neg, Option.bind_some]
        exact ⟨_, rfl, fun h => nomatch h⟩
    · simp (disch := omega) only [cond_true, cd_neg, Option.bind_some]
      exact ⟨_, rfl, fun h => nomatch h⟩
theorem errL_asc {m : Nat} : ∀ (l pre : List Int), (pre ++ l).Pairwise (· < ·) → (∀ x ∈ l, 0 ≤ x ∧ x < m) → errL (numO m) pre l = 0
  | [], pre, _, _ => rfl
  | x :: l, pre, h, hr => by
    have h0 : numO m pre x = 0 := by
      have hx := hr x (by simp)
      unfold numO
      rw [if_neg (by omega), if_neg]
      rintro ⟨h1, h2⟩
      have h3 := (List.pairwise_append.1 h).2.2 (pre.getD (pre.length - 1) 0) (getD_mem (by omega)) x (by simp)
      omega
    unfold errL
    rw [if_pos h0]
    exact errL_asc l (pre ++ [x]) (by rw [List.append_assoc]; exact h) fun y hy => hr y (by simp [hy])
theorem numE_asc {m : Nat} {l : List Int} (h0 : l ≠ []) (h : l.Pairwise (· < ·)) (hr : ∀ x ∈ l, 0 ≤ x ∧ x < m) : numE m l = 0 := by
  unfold numE
  rw [if_neg (by simpa using h0)]
  exact errL_asc l [] h hr
structure IrrS (p : Pln) (l : List Int) : Prop where
  asc : l.Pairwise (· < ·)
  rng : ∀ x ∈ l, 0 ≤ x ∧ x < (rulesS p).length
  bad : ¬ ∃ f, Hol p (pickS (rulesS p) l) f
  min : ∀ i, i < l.length → ∃ f, Hol p (pickS (rulesS p) (l.take i ++ l.drop (i + 1))) f
theorem hol_nil (p : Pln) : ∃ f, Hol p [] f := ⟨List.replicate p.1.length 0, by simp, fun i hi => by simp only [fL]; rw [rep_getD hi]; omega, fun r hr => nomatch hr⟩
theorem IrrS.ne {p : Pln} {l : List Int} (h : IrrS p l) : l ≠ [] := fun e => by
  subst e
  exact h.bad (hol_nil p)
theorem l59 {F : Nat} (hF : 4000 ≤ F) {p : Pln} (hp : PShort p) (he : exE p = 0) {l : List Int} (hl : l.length ≤ 300) (h : IrrS p l) : c59 F (p, l) = some true := by
  obtain ⟨k1, k2, k3⟩ := l58 hF hp hl
  obtain ⟨-, b, e1, e2⟩ := k3 he (numE_asc h.ne h.asc h.rng)
  have hb : b = false := by
    cases b with
    | false => rfl
    | true => exact absurd (e2.1 rfl) h.bad
  subst hb
  unfold c59
  simp only [peta, e1, Option.bind_some, Bool.false_eq_true, if_false, decide_true, Bool.not_true, cond_false]
  have hN : ∀ (i : Nat), i < l.length → c58 F (p, l.take i ++ l.drop (i + 1)) = some (if (l.take i ++ l.drop (i + 1)).length = 0 then 12 else 21) := fun i hi => by
    have hsub : (l.take i ++ l.drop (i + 1)).Sublist l := by
      have := (List.drop_sublist 1 (l.drop i)).append_left (l.take i)
      rwa [List.take_append_drop, List.drop_drop] at this
    obtain ⟨m1, m2, m3⟩ := l58 hF hp (ns := l.take i ++ l.drop (i + 1)) (by have := hsub.length_le; omega)
    by_cases h0 : (l.take i ++ l.drop (i + 1)).length = 0
    · rw [if_pos h0]
      have : numE (rulesS p).length (l.take i ++ l.drop (i + 1)) = 12 := by unfold numE; rw [if_pos h0]
      rw [m2 he (by rw [this]; decide), this]
    · rw [if_neg h0]
      obtain ⟨-, b, f1, f2⟩ := m3 he (numE_asc (fun e => h0 (by rw [e]; rfl)) (h.asc.sublist hsub) fun x hx => h.rng x (hsub.subset hx))
      rw [f1, f2.2 (h.min i hi)]
      rfl
  refine bind_list l (fun (_ : Unit) i => (i : Int)) (fun _ _ => .inl ()) (fun _ => (.inr () : Bool ⊕ Unit)) (fun _ _ => True) () (by omega) rfl trivial ?_ ?_ ?_
  · intro i x _ hi hx _
    refine ⟨?_, fun _ _ => trivial⟩
    have w1 : w64 ((i : Int) + 1) = ((i + 1 : Nat) : Int) := by rw [w64_in (by omega) (by omega)]; omega
    have t1 : ∀ x : List Int, nilT Int ++ x = x := fun _ => rfl
    have hl2 : (l.take i ++ l.drop (i + 1)).length = l.length - 1 := by simp; omega
    have hl3 : (l.take i).length = i := by simp; omega
    have hn := hN i hi
    rw [hl2] at hn
    have w2 : ((l.length - 1 : Nat) : Int) = (l.length : Int) - 1 := by omega
    simp (disch := omega) only [cd_pos, gd_dec, Int.toNat_natCast, w1, t1, List.take_length, hl2, hl3, List.drop_zero, Nat.zero_add, Nat.le_refl, decide_true, Bool.and_self, gd_true]
    rw [show List.take (l.length - 1) (l.take i ++ l.drop (i + 1)) = l.take i ++ l.drop (i + 1) from List.take_of_length_le (by omega), hn]
    by_cases h0 : l.length - 1 = 0
    · simp [h0]
    · simp [h0]
  · intro _ _
    simp (disch := omega) only [cd_neg]
  · rw [goL_unit]
    rfl
theorem irr_set {p : Pln} {B : List Bool} (hB : B.length = (rulesS p).length) (hnp : ¬ Pos p B) (hm : ∀ k : Nat, B[k]? = some true → Pos p (B.set k false)) : IrrS p (memS B) := by
  have hr := memS_rng hB
  refine ⟨memS_asc B, hr, fun h => hnp ((pos_pick hB).2 h), fun i hi => ?_⟩
  obtain ⟨k, hk, hx⟩ := mem_memS.1 (List.getElem_mem hi)
  have hs : (B.set k false).length = (rulesS p).length := by rw [List.length_set]; exact hB
  obtain ⟨f, hf⟩ := (pos_pick hs).1 (hm k hk)
  refine ⟨f, hf.congr fun r hr' => ?_⟩
  obtain ⟨y, hy, rfl⟩ := List.mem_map.1 hr'
  refine List.mem_map.2 ⟨y, ?_, rfl⟩
  have hasc := List.pairwise_iff_getElem.1 (memS_asc B)
  have hy2 : y ∈ memS B ∧ y ≠ (memS B)[i] := by
    rcases List.mem_append.1 hy with h | h
    · obtain ⟨a, ha, e⟩ := List.mem_iff_getElem.1 h
      rw [List.getElem_take] at e
      rw [List.length_take] at ha
      have := hasc a i (by omega) hi (by omega)
      exact ⟨List.mem_of_mem_take h, by omega⟩
    · obtain ⟨a, ha, e⟩ := List.mem_iff_getElem.1 h
      rw [List.getElem_drop] at e
      rw [List.length_drop] at ha
      have := hasc i (i + 1 + a) hi (by omega) (by omega)
      exact ⟨List.mem_of_mem_drop h, by omega⟩
  obtain ⟨j, hj, rfl⟩ := mem_memS.1 hy2.1
  have hne := hy2.2
  rw [hx] at hne
  exact mem_memS.2 ⟨j, set_true.2 ⟨fun e => hne (by rw [e]), hj⟩, rfl⟩
theorem ifl_set_len : ∀ (B : List Bool) (o k : Nat), B[k]? = some true → (ifl memF o (B.set k false)).length + 1 = (ifl memF o B).length
  | b :: B, o, 0, h => by
    simp only [List.getElem?_cons_zero, Option.some.injEq] at h
    subst h
    simp [ifl, memF]
  | b :: B, o, k + 1, h => by
    rw [List.getElem?_cons_succ] at h
    have := ifl_set_len B (o + 1) k h
    simp only [List.set_cons_succ, ifl, List.length_append]
    omega
theorem pos_all {p : Pln} : Pos p (List.replicate (rulesS p).length true) ↔ ∃ f, Hol p (rulesS p) f := by
  unfold Pos
  rw [chS_all]
theorem all_pos {p : Pln} (h : ∃ f, Hol p (rulesS p) f) (B : List Bool) : Pos p B := by
  obtain ⟨f, hf⟩ := h
  refine ⟨f, hf.congr fun r hr => ?_⟩
  obtain ⟨k, h1, -⟩ := mem_chS.1 hr
  exact List.mem_of_getElem? h1
theorem core_irr {p : Pln} (h : ¬ ∃ f, Hol p (rulesS p) f) : IrrS p (memS (coreB p (rulesS p).length (List.replicate (rulesS p).length true))) := by
  obtain ⟨h1, h2, h3, h4, h5⟩ := coreB_facts (p := p) (rulesS p).length (List.replicate (rulesS p).length true)
  have hl : (coreB p (rulesS p).length (List.replicate (rulesS p).length true)).length = (rulesS p).length := by rw [h1]; simp
  refine irr_set hl (h2 fun h' => h (pos_all.1 h')) fun k hk => h5 k ?_ hk
  have := (List.getElem?_eq_some_iff.1 hk).1
  omega
theorem small_irr {p : Pln} {l : List Int} (h : SmallN p (rulesS p).length (2 ^ (rulesS p).length) l true) : IrrS p l ∧ ∀ B : List Bool, B.length = (rulesS p).length → ¬ Pos p B → l.length ≤ (memS B).length := by
  obtain ⟨⟨n, hn, rfl, hnp⟩, hmin⟩ := h.yes rfl
  have key : ∀ B : List Bool, B.length = (rulesS p).length → ¬ Pos p B → NotB (memS B) (memS (bitsB (rulesS p).length n)) := fun B hB hb => by
    have e := bits_num B
    rw [hB] at e
    have := hmin (numB B) (by have := numB_lt B; rwa [hB] at this) (by rw [e]; exact hb)
    rwa [e] at this
  have hlen : ∀ B : List Bool, B.length = (rulesS p).length → ¬ Pos p B → (memS (bitsB (rulesS p).length n)).length ≤ (memS B).length := fun B hB hb => by
    rcases key B hB hb with h | ⟨h, -⟩ <;> omega
  refine ⟨irr_set (bitsB_len _ _) hnp fun k hk => ?_, hlen⟩
  apply Classical.byContradiction
  intro hc
  have h1 := hlen _ (by rw [List.length_set]; exact bitsB_len _ _) hc
  have h2 := ifl_set_len _ 0 k hk
  unfold memS at h1
  omega
theorem brok_all {p : Pln} {t : List Int} (h : Hol p (rulesS p) t) : brokS p t = (((rulesS p).length : Int), false) := by
  unfold brokS
  have : ((rulesS p).findIdx? fun r => !holdS p t r) = none := by
    rw [List.findIdx?_eq_none_iff]
    intro r hr
    simp [h.rul r hr]
  rw [this]
theorem law13 (p : Pln) (hok : AEls.ok [.agg [.seq [.str, .int .i64, .seq [.str], .seq [.str], .seq [.str], .int .i64, .int .i64], .seq [.int .i64, .int .i64, .int .i64], .int .i64]] p) : ∃ F, c13 F p = some true := by
  obtain ⟨⟨hb1, -⟩, ⟨hb2, -⟩, -⟩ := hok
  refine ⟨roomP p [] + 2000, ?_⟩
  have hF0 : roomP p [] + 2000 = p.1.length + p.2.1.length + 0 + 4000 + 2000 := rfl
  generalize roomP p [] + 2000 = F at hF0
  have hF : 5000 ≤ F := by omega
  have hF4 : 4000 ≤ F := by omega
  unfold c13
  obtain ⟨b, h49, hs⟩ := l49 (F := F) (by omega) (p := p) (k := 4)
  have h49 : c49 F (p, 4) = some b := h49
  simp only [peta, l14 (F := F) (p := p) (by omega) (by omega) hb1 hb2, Option.bind_some, h49]
  cases b with
  | false => rfl
  | true =>
    obtain ⟨hp, hn4, hm4, h0⟩ := hs rfl
    have hv := PV.of hp h0
    have he : exE p = 0 := by
      unfold exE
      rw [h0, if_neg (by omega)]
      rfl
    have hrl := rulesS_len8 (p := p) (by omega) (by omega)
    have hcl := condS_len p
    obtain ⟨t, is, e26, b26⟩ := (l26 hF4 hp).2 he
    obtain ⟨-, f2, f3⟩ := l35 hF4 hp
    obtain ⟨-, g2, g3⟩ := l36 hF hp
    simp only [Bool.not_true, cond_false, e26, Option.bind_some]
    cases is with
    | true =>
      obtain ⟨a1, a2⟩ := b26.yes rfl
      have hex : ∃ f, Hol p (rulesS p) f := ⟨t, a1⟩
      have htl : t.length ≤ 300 := by rw [a1.len]; omega
      have hso : soundE p t = 0 := by unfold soundE; rw [if_pos h0]; exact a1.form hv
      have hbr := brok_all a1
      have e36 : ∃ l e, c36 F p = some (l, e) ∧ (e = 7 ∨ e = 22) := by
        by_cases hm : 12 < (rulesS p).length
        · exact ⟨_, _, g2 he hm, .inr rfl⟩
        · obtain ⟨l, any, k1, k2⟩ := g3 he (by omega)
          have : any = false := by
            cases any with
            | false => rfl
            | true => obtain ⟨⟨n, -, -, hnp⟩, -⟩ := k2.yes rfl; exact absurd (all_pos hex _) hnp
          subst this
          exact ⟨_, _, k1, .inl rfl⟩
      obtain ⟨l, e, e36, he7⟩ := e36
      simp only [f2 he hex, e36, Option.bind_some, if_true, decide_true, cond_true, l52 (show 3000 ≤ F by omega) hp htl, l33 (show 3000 ≤ F by omega) hv a1.tok, l32 (show 400 ≤ F by omega) (show p.1.length ≤ 26 by omega) htl, a1.form hv, hso, hbr, l37 (show 400 ≤ F by omega) hp, hcl, Bool.false_eq_true, if_false]
      rcases he7 with rfl | rfl <;> simp
    | false =>
      obtain ⟨a1, a2⟩ := b26.no rfl
      have hex : ¬ ∃ f, Hol p (rulesS p) f := fun ⟨f, hf⟩ => a2 f hf
      have hc := core_irr hex
      have hcl2 : (memS (coreB p (rulesS p).length (List.replicate (rulesS p).length true))).length ≤ 300 := by
        have := memS_len (coreB p (rulesS p).length (List.replicate (rulesS p).length true))
        rw [(coreB_facts (p := p) (rulesS p).length _).1, List.length_replicate] at this
        omega
      have hcp := (coreB_facts (p := p) (rulesS p).length (List.replicate (rulesS p).length true)).2.1 fun h' => hex (pos_all.1 h')
      have hcll : (coreB p (rulesS p).length (List.replicate (rulesS p).length true)).length = (rulesS p).length := by rw [(coreB_facts (p := p) (rulesS p).length _).1]; simp
      have h59 := l59 (F := F) hF4 hp he hcl2 hc
      have hne : ¬ ((memS (coreB p (rulesS p).length (List.replicate (rulesS p).length true))).length : Int) = 0 := fun h => hc.ne (List.length_eq_zero_iff.1 (by omega))
      rw [f3 he hex]
      by_cases hm : 12 < (rulesS p).length
      · have hm' : (12 : Int) < ((rulesS p).length : Int) := by omega
        rw [g2 he hm]
        have hne' := hc.ne
        simp [h59, hne', l37 (show 400 ≤ F by omega) hp, hcl, hm']
      · obtain ⟨l, any, k1, k2⟩ := g3 he (by omega)
        have hany : any = true := by
          cases any with
          | true => rfl
          | false =>
            have := (k2.no rfl).2 (numB (List.replicate (rulesS p).length true)) (by have := numB_lt (List.replicate (rulesS p).length true); rwa [List.length_replicate] at this)
            have e := bits_num (List.replicate (rulesS p).length true)
            rw [List.length_replicate] at e
            rw [e] at this
            exact absurd (pos_all.1 this) hex
        subst hany
        obtain ⟨hi, hmin⟩ := small_irr k2
        have hle := hmin _ hcll hcp
        have h59b := l59 (F := F) hF4 hp he (by omega) hi
        have hl0 : (0 : Int) < (l.length : Int) := by have := List.length_pos_iff.2 hi.ne; omega
        have hle' : (l.length : Int) ≤ ((memS (coreB p (rulesS p).length (List.replicate (rulesS p).length true))).length : Int) := by omega
        rw [k1]
        have hne' := hc.ne
        have hl0' : 0 < l.length := by omega
        simp [h59, hne', h59b, hl0', hle]
end Go.Proofs.Tryz

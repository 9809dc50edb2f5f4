/- Plain law: TimetableTighter. -/
import Derived.Test.YtlfcbhjoldgijaaGreatXTtM
import Derived.Test.YtlfcbhjoldgijaaGreatXTt8
set_option maxRecDepth 100000
set_option linter.unusedVariables false
set_option linter.unusedSimpArgs false
namespace Go.Proofs.Tryz
open Go Go.Sx
theorem nilT_app {T : Type} (l : List T) : nilT T ++ l = l := rfl
theorem plan_areas {p : Pln} (hs : PShort p) (he : planE p = 0) {x : Rnd} (hx : x ∈ p.1) : x.2.2.1.length ≤ 160 := by
  have hv := PV.of hs he
  unfold planE at he
  rw [if_neg (by have := hv.n1; omega)] at he
  have z1 := firstNZ_zero he _ (List.mem_cons_self ..)
  obtain ⟨i, hi, hxi⟩ := List.mem_iff_getElem.1 hx
  have e := errL_zero z1 i x (by rw [List.getElem?_eq_getElem hi, hxi])
  unfold rndE at e
  have e1 : rndT x = 0 := by
    revert e
    split
    · split
      · intro e; cases e
      · exact fun e => e
    · intro e; cases e
  have a := firstNZ_zero e1 (namesE x.2.2.1) (by simp)
  unfold namesE at a
  by_cases h : 160 < x.2.2.1.length
  · rw [if_pos h] at a; cases a
  · omega
theorem ple_set {p : Pln} {k : Nat} (hk : k < p.1.length) {y : Rnd} {x : Rnd} (hx : p.1[k]? = some x) (h : RndLe x y) : PlnLe p (p.1.set k y, p.2.1, p.2.2) := by
  refine ⟨by simp, fun i a b ha hb => ?_, fun o ho => ho, Int.le_refl _⟩
  simp only [List.getElem?_set] at hb
  by_cases e : k = i
  · subst e
    rw [if_pos rfl, if_pos hk] at hb
    cases hb
    rw [hx] at ha
    cases ha
    exact h
  · rw [if_neg e] at hb
    rw [ha] at hb
    cases hb
    exact RndLe.refl a
theorem ple_set' {p : Pln} {k : Nat} (hk : k < p.1.length) {y : Rnd} {x : Rnd} (hx : p.1[k]? = some x) (h : RndLe y x) : PlnLe (p.1.set k y, p.2.1, p.2.2) p := by
  refine ⟨by simp, fun i a b ha hb => ?_, fun o ho => ho, Int.le_refl _⟩
  simp only [List.getElem?_set] at ha
  by_cases e : k = i
  · subst e
    rw [if_pos rfl, if_pos hk] at ha
    cases ha
    rw [hx] at hb
    cases hb
    exact h
  · rw [if_neg e] at ha
    rw [ha] at hb
    cases hb
    exact RndLe.refl a
theorem short_set {p : Pln} (h : PShort p) {k : Nat} {y : Rnd} (hy : y.1.size ≤ 40 ∧ (∀ l, l = y.2.2.1 ∨ l = y.2.2.2.1 ∨ l = y.2.2.2.2.1 → l.length ≤ 162 ∧ ∀ s ∈ l, s.size ≤ 40)) : PShort (p.1.set k y, p.2.1, p.2.2) := by
  refine ⟨by simpa using h.1, h.2.1, fun x hx => ?_⟩
  rcases List.mem_or_eq_of_mem_set hx with hx | rfl
  · exact h.2.2 x hx
  · exact hy
theorem t8_ok {F : Nat} (hF : 4000 ≤ F) {p q : Pln} {ch at' : Int} {l : Bool} (hp : PShort p) (he : planE p = 0) (h8 : p.1.length ≤ 8) (hq : PShort q) (hn : p.1.length = q.1.length) (hle : planE q = 0 → if l = true then PlnLe q p else PlnLe p q) :
    q8t F (p, ch, at') (q.1, q.2.1, q.2.2, l) = some true := by
  have hq1 := hq.1
  have hq2 := hq.2.1
  have e14 := l14 (F := F) (p := q) (by omega) (by omega) (by omega) (by omega)
  have e19 := l19 (show 400 ≤ F by omega) hq.sm
  unfold q8t
  simp only [nilT_app, hn, decide_true, Bool.and_self, Bool.true_and, gd_true, peta, e14, Option.bind_some, e19]
  by_cases h0 : planE q = 0
  · have hxp : exE p = 0 := by unfold exE; simp [firstNZ, he]; omega
    have hxq : exE q = 0 := by unfold exE; simp [firstNZ, h0]; omega
    obtain ⟨a, e1, c1, k1⟩ := least_ok hF hp hxp
    obtain ⟨b, e2, c2, k2⟩ := least_ok hF hq hxq
    simp only [h0, decide_true, Bool.not_true, cond_false, c1, c2, Option.bind_some]
    have hle := hle h0
    cases l with
    | false =>
      simp only [Bool.false_eq_true, if_false] at hle
      obtain ⟨g1, g2⟩ := least_cmp (PV.of hp he) hle k1 k2
      simp only [cond_false, Option.bind_some]
      by_cases z1 : e1 = 0
      · rcases g2 z1 with z2 | ⟨z2, z3⟩
        · simp [z1, z2]
        · simp [z1, z2, z3]
      · obtain ⟨z2, z3⟩ := g1 z1
        simp [z2, z3]
    | true =>
      simp only [if_true] at hle
      obtain ⟨g1, g2⟩ := least_cmp (PV.of hq h0) hle k2 k1
      simp only [cond_true, Option.bind_some]
      by_cases z1 : e2 = 0
      · rcases g2 z1 with z2 | ⟨z2, z3⟩
        · simp [z1, z2]
        · simp [z1, z2, z3]
      · obtain ⟨z2, z3⟩ := g1 z1
        simp [z2, z3]
  · simp [h0]
def everyS : ByteArray := { data := List.toArray ((101 : UInt8) :: (118 : UInt8) :: (101 : UInt8) :: (114 : UInt8) :: (121 : UInt8) :: (119 : UInt8) :: (104 : UInt8) :: (101 : UInt8) :: (114 : UInt8) :: (101 : UInt8) :: nilT UInt8) }
def everyR (x : Rnd) : Rnd := (x.1, x.2.1, x.2.2.1 ++ [everyS], x.2.2.2.1, x.2.2.2.2.1, x.2.2.2.2.2.1, x.2.2.2.2.2.2)
theorem wr_in {n : Int} (h0 : -9223372036854775808 ≤ n) (h1 : n ≤ 9223372036854775807) : Go.IntKind.wrap Go.IntKind.i64 n = n := w64_in h0 h1
theorem h8_ok {F : Nat} (hF : 4000 ≤ F) {p : Pln} (hp : PShort p) (he : planE p = 0) (hn : 0 < p.1.length) (h4 : p.1.length ≤ 4) (h5 : p.2.1.length ≤ 4) {ch at' : Int} (hc : 0 ≤ ch ∧ ch ≤ 255) (ha : 0 ≤ at' ∧ at' ≤ 255) :
    ∃ (q : Pln) (l : Bool), q8h F (p, ch, at') = some (q.1, q.2.1, q.2.2, l) ∧ PShort q ∧ p.1.length = q.1.length ∧ (planE q = 0 → if l = true then PlnLe q p else PlnLe p q) := by
  have hv := PV.of hp he
  have wa : Go.IntKind.wrap Go.IntKind.i64 at' = at' := wr_in (by omega) (by omega)
  have wc : Go.IntKind.wrap Go.IntKind.i64 ch = ch := wr_in (by omega) (by omega)
  have hm : Int.tmod ch 5 = ch % 5 := Int.tmod_eq_emod_of_nonneg hc.1
  have hk : Int.tmod at' (p.1.length : Int) = at' % (p.1.length : Int) := Int.tmod_eq_emod_of_nonneg ha.1
  have hk0 := Int.emod_nonneg at' (b := (p.1.length : Int)) (by omega)
  have hk1 := Int.emod_lt_of_pos at' (b := (p.1.length : Int)) (by omega)
  have hr := hv.rest
  obtain ⟨k, hkk⟩ : ∃ k : Nat, at' % (p.1.length : Int) = (k : Int) := ⟨(at' % (p.1.length : Int)).toNat, by omega⟩
  have hkl : k < p.1.length := by omega
  have hx := List.getElem?_eq_getElem hkl
  generalize hxe : p.1[k] = x at hx
  have hxm : x ∈ p.1 := List.mem_of_getElem? hx
  obtain ⟨b1, b2, b3, b4⟩ := hv.rnd x hxm
  have hsx := hp.2.2 x hxm
  have hd : p.1.getD k (ByteArray.empty, (0 : Int), nilT ByteArray, nilT ByteArray, nilT ByteArray, (0 : Int), (0 : Int)) = x := getD_some hx
  unfold q8h
  simp only [nilT_app, wa, wc, hm, hk, hkk, Int.toNat_natCast, Nat.zero_add, hd]
  have hm0 := Int.emod_nonneg ch (b := 5) (by omega)
  have hm1 := Int.emod_lt_of_pos ch (b := 5) (by omega)
  generalize ch % 5 = m at hm0 hm1
  by_cases m0 : m = 0
  · subst m0
    simp (disch := omega) only [cd_pos, gd_dec, List.length_set, decide_true, Bool.and_self, Bool.true_and, gd_true, w64_in]
    refine ⟨(p.1.set k (x.1, x.2.1 + 1, x.2.2.1, x.2.2.2.1, x.2.2.2.2.1, x.2.2.2.2.2.1, x.2.2.2.2.2.2), p.2.1, p.2.2), false, rfl, short_set hp hsx, by simp, fun _ => ?_⟩
    exact ple_set hkl hx ⟨by simp; omega, Int.le_refl _, Int.le_refl _, fun _ h => h, fun _ h => h, fun _ h => h⟩
  · by_cases m1 : m = 1
    · subst m1
      simp (disch := omega) only [cd_pos, cd_neg, gd_dec, List.length_set, decide_true, Bool.and_self, Bool.true_and, gd_true, w64_in, Option.bind_some]
      refine ⟨(p.1, p.2.1, p.2.2 + (1 + at')), false, rfl, hp, rfl, fun _ => ?_⟩
      exact ⟨rfl, fun i a b ha hb => by rw [ha] at hb; cases hb; exact RndLe.refl a, fun o ho => ho, by simp; omega⟩
    · by_cases m2 : m = 2
      · subst m2
        have hne : ((p.1.length : Int)) ≠ 0 := by omega
        have hl : ∀ o : Ord3, (p.2.1 ++ o :: nilT Ord3).length = p.2.1.length + 1 := fun o => by simp [nilT]
        simp (disch := omega) only [cd_pos, cd_neg, gd_dec, hl, List.length_set, decide_true, Bool.and_self, Bool.true_and, gd_true, w64_in, Option.bind_some]
        refine ⟨(p.1, p.2.1 ++ [((k : Int), Int.tmod ch (p.1.length : Int), Int.tmod at' 30)], p.2.2), false, rfl, ⟨hp.1, by simp; omega, hp.2.2⟩, rfl, fun _ => ?_⟩
        exact ⟨rfl, fun i a b ha hb => by rw [ha] at hb; cases hb; exact RndLe.refl a, fun o ho => List.mem_append_left _ ho, Int.le_refl _⟩
      · by_cases m3 : m = 3
        · subst m3
          simp (disch := omega) only [cd_pos, cd_neg]
          have key : ∀ {γ : Type} (K : List Rnd → Option γ) {step : List Rnd × Int → Option ((List Rnd × Int) ⊕ List Rnd)}, (∀ (i : Nat) (s : List Rnd) (y : Rnd), i < p.1.length → p.1[i]? = some y → s.length = i → step (s ++ p.1.drop i, (i : Int)) = some (.inl (s ++ [everyR y] ++ p.1.drop (i + 1), ((i + 1 : Nat) : Int)))) →
              (∀ s : List Rnd, s.length = p.1.length → step (s, (p.1.length : Int)) = some (.inr s)) → Option.bind (loopO step F (p.1, (0 : Int))) K = K (p.1.map everyR) := by
            intro γ K step hs1 hs2
            refine bind_list p.1 (fun (s : List Rnd) i => (s ++ p.1.drop i, (i : Int))) (fun x s => .inl (s ++ [everyR x])) (fun s => s) (fun i s => s.length = i) [] (by omega) (by simp) rfl ?_ ?_ ?_
            · intro i y s hi hy hs
              refine ⟨?_, fun s' h' => by cases h'; simp [hs]⟩
              exact hs1 i s y hi hy hs
            · intro s hs
              simp only [List.drop_length, List.append_nil]
              exact hs2 s hs
            · rw [goL_append]
              rfl
          rw [key]
          · have hl : (p.1.map everyR).length = p.1.length := List.length_map _
            simp (disch := omega) only [hl, gd_dec, cond_true, decide_true, Bool.and_self, Bool.true_and, gd_true, Option.bind_some]
            refine ⟨(p.1.map everyR, p.2.1, p.2.2), false, rfl, ⟨by rw [hl]; exact hp.1, hp.2.1, fun z hz => ?_⟩, hl.symm, fun _ => ?_⟩
            · obtain ⟨y, hy, rfl⟩ := List.mem_map.1 hz
              obtain ⟨d1, d2⟩ := hp.2.2 y hy
              refine ⟨d1, fun l hl => ?_⟩
              rcases hl with rfl | hl | hl
              · refine ⟨by have := plan_areas hp he hy; simp [everyR]; omega, fun s hs => ?_⟩
                rcases List.mem_append.1 hs with hs | hs
                · exact (d2 _ (.inl rfl)).2 s hs
                · rw [List.mem_singleton.1 hs]
                  decide
              · exact d2 l (.inr (.inl hl))
              · exact d2 l (.inr (.inr hl))
            · refine ⟨hl.symm, fun i a b ha hb => ?_, fun o ho => ho, Int.le_refl _⟩
              have hb : (p.1.map everyR)[i]? = some b := hb
              rw [List.getElem?_map, ha] at hb
              cases hb
              exact ⟨Int.le_refl _, Int.le_refl _, Int.le_refl _, fun s hs => List.mem_append_left _ hs, fun _ h => h, fun _ h => h⟩
          · intro i s y hi hy hs
            have hyl := plan_areas hp he (List.mem_of_getElem? hy)
            have hdr : p.1.drop i = y :: p.1.drop (i + 1) := by
              rw [List.drop_eq_getElem_cons hi]
              have := (List.getElem?_eq_some_iff.1 hy).2
              rw [this]
            have hlen : (s ++ p.1.drop i).length = p.1.length := by simp; omega
            have hg : (s ++ p.1.drop i).getD i (ByteArray.empty, (0 : Int), nilT ByteArray, nilT ByteArray, nilT ByteArray, (0 : Int), (0 : Int)) = y := by rw [hdr]; exact getD_mid hs
            have hst : ∀ z : Rnd, (s ++ p.1.drop i).set i z = s ++ [z] ++ p.1.drop (i + 1) := fun z => by rw [hdr, set_mid hs]; simp
            have hnl : (y.2.2.1 ++ { data := List.toArray ((101 : UInt8) :: (118 : UInt8) :: (101 : UInt8) :: (114 : UInt8) :: (121 : UInt8) :: (119 : UInt8) :: (104 : UInt8) :: (101 : UInt8) :: (114 : UInt8) :: (101 : UInt8) :: nilT UInt8) } :: nilT ByteArray).length = y.2.2.1.length + 1 := by simp [nilT]
            simp (disch := omega) only [cd_pos, gd_dec, nilT_app, Int.toNat_natCast, Nat.zero_add, hg, hst, hlen, List.drop_zero, List.take_length, w64_in]
            exact gd4 (X := CEls _ ⊕ AltsEl _) (sumEq (CEls.eqv _) (AltsEl.eqv _)) (sumEq_rf (CEls.eqv_rf _) (AltsEl.eqv_rf _)) _
          · intro s hs
            simp (disch := omega) only [cd_neg, gd_dec, hs, decide_true, Bool.and_self, Bool.true_and, gd_true, Option.bind_some]
        · have m4 : m = 4 := by omega
          subst m4
          simp (disch := omega) only [cd_pos, cd_neg, gd_dec, cond_true, List.length_set, decide_true, Bool.and_self, Bool.true_and, gd_true, w64_in, Option.bind_some]
          refine ⟨(p.1.set k (x.1, x.2.1, x.2.2.1, x.2.2.2.1, x.2.2.2.2.1, x.2.2.2.2.2.1, x.2.2.2.2.2.2 + (1 + at')), p.2.1, p.2.2), true, rfl, short_set hp hsx, by simp, fun _ => ?_⟩
          exact ple_set' hkl hx ⟨Int.le_refl _, Int.le_refl _, by simp; omega, fun _ h => h, fun _ h => h, fun _ h => h⟩
theorem law8 (a : Pln × Int × Int) (hok : AEls.ok [.agg [.seq [.str, .int .i64, .seq [.str], .seq [.str], .seq [.str], .int .i64, .int .i64], .seq [.int .i64, .int .i64, .int .i64], .int .i64], .val (.int .u8), .val (.int .u8)] a) : ∃ F, c8 F a = some true := by
  obtain ⟨p, ch, at'⟩ := a
  obtain ⟨⟨⟨hb1, -⟩, ⟨hb2, -⟩, -⟩, hc, ha⟩ := hok
  have hc : 0 ≤ ch ∧ ch ≤ 255 := by have h1 := hc.1; have h2 := hc.2; exact ⟨h1, h2⟩
  have ha : 0 ≤ at' ∧ at' ≤ 255 := by have h1 := ha.1; have h2 := ha.2; exact ⟨h1, h2⟩
  refine ⟨roomP p [], ?_⟩
  have hF0 : roomP p [] = p.1.length + p.2.1.length + 0 + 4000 := rfl
  generalize roomP p [] = F at hF0
  have hF : 4000 ≤ F := by omega
  unfold c8
  obtain ⟨b, h49, hs⟩ := l49 (F := F) (by omega) (p := p) (k := 4)
  simp only [peta, l14 (F := F) (p := p) (by omega) (by omega) hb1 hb2, Option.bind_some]
  have h49 : c49 F (p, (4 : Int)) = some b := h49
  rw [h49]
  cases b with
  | false => rfl
  | true =>
    obtain ⟨hp, n1, n2, he⟩ := hs rfl
    by_cases hn : p.1.length = 0
    · simp [hn]
    · obtain ⟨q, l, g1, g2, g3, g4⟩ := h8_ok hF hp he (by omega) n1 n2 hc ha
      have hq8 : q8 F (p, ch, at') = some true := by
        unfold q8
        rw [g1]
        exact t8_ok hF hp he (by omega) g2 g3 g4
      have hne : ((p.1.length : Int)) ≠ 0 := by omega
      have z1 : (nilT Rnd ++ p.1).length = p.1.length := rfl
      have z2 : (nilT Ord3 ++ p.2.1).length = p.2.1.length := rfl
      simp (disch := omega) only [Bool.not_true, cond_false, Option.bind_some, cd_neg, z1, z2, gd_dec, hq8, decide_true, gd_true, Bool.and_self, beq_self_eq_true, Bool.true_and]
      rfl
end Go.Proofs.Tryz

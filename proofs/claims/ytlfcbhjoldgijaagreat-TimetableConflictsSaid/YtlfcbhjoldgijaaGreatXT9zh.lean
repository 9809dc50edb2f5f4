/- Plain law: the reference's smallest conflict. Plain law: TimetableConflicts. -/
import Derived.Test.YtlfcbhjoldgijaaGreatXT9ze
set_option maxRecDepth 100000
set_option linter.unusedVariables false
set_option linter.unusedSimpArgs false
namespace Go.Proofs.Tryz
open Go Go.Sx
theorem bind_bits {step : List Bool × Int → Option ((List Bool × Int) ⊕ List Bool)} {F m N : Nat} {γ : Type} {k : List Bool → Option γ} (hF : m < F) (h1 : ∀ (i : Nat) (s : List Bool), i < m → s.length = m → step (s, (i : Int)) = some (.inl (s.set i (decide (N / 2 ^ i % 2 = 1)), (i : Int) + 1)))
    (h2 : ∀ s, step (s, (m : Int)) = some (.inr s)) : Option.bind (loopO step F (List.replicate m false, (0 : Int))) k = k (bitsB m N) := by
  refine bind_list (List.range m) (fun (s : List Bool) i => (s, (i : Int))) (fun i s => .inl (s.set i (decide (N / 2 ^ i % 2 = 1)))) (fun s => s) (fun _ s => s.length = m) (List.replicate m false) (by simpa using hF) rfl (by simp) ?_ ?_ ?_
  · intro i x s hi hx hs
    rw [List.length_range] at hi
    obtain rfl := range_get hx
    refine ⟨?_, fun s' h' => ?_⟩
    · rw [h1 _ s hi hs]
      simp
    · simp only [Sum.inl.injEq] at h'
      subst h'
      simpa using hs
  · intro s hs
    rw [List.length_range]
    exact h2 s
  · congr 1
    rw [goL_fold]
    have key : ∀ (n : Nat) (s : List Bool), n ≤ m → s.length = m → ((List.range n).foldl (fun s i => s.set i (decide (N / 2 ^ i % 2 = 1))) s).length = m ∧ ∀ j, j < m → ((List.range n).foldl (fun s i => s.set i (decide (N / 2 ^ i % 2 = 1))) s)[j]? = if j < n then some (decide (N / 2 ^ j % 2 = 1)) else s[j]? := fun n => by
      induction n with
      | zero => intro s _ hs; exact ⟨hs, fun j hj => by simp⟩
      | succ n ih =>
        intro s hn hs
        obtain ⟨a, b⟩ := ih s (by omega) hs
        rw [List.range_succ, List.foldl_append]
        simp only [List.foldl_cons, List.foldl_nil]
        refine ⟨by rw [List.length_set]; exact a, fun j hj => ?_⟩
        rw [List.getElem?_set]
        by_cases hjn : n = j
        · subst hjn
          rw [if_pos rfl, if_pos (by omega), if_pos (by omega)]
        · rw [if_neg hjn, b j hj]
          by_cases hlt : j < n
          · rw [if_pos hlt, if_pos (by omega)]
          · rw [if_neg hlt, if_neg (by omega)]
    obtain ⟨a, b⟩ := key m (List.replicate m false) (Nat.le_refl _) (by simp)
    apply List.ext_getElem?
    intro j
    by_cases hj : j < m
    · rw [b j hj, if_pos hj]
      unfold bitsB
      rw [List.getElem?_map, List.getElem?_range hj]
      rfl
    · rw [List.getElem?_eq_none (by omega), List.getElem?_eq_none (by rw [bitsB_len]; omega)]
theorem bitD {n i : Nat} (hn : n < 4096) (hi : i < 64) : decide (Go.IntKind.wrap Go.IntKind.i64 ((BitVec.toNat (BitVec.ofInt 64 (Int.fdiv (n : Int) ((2 : Int) ^ Min.min (Int.toNat (i : Int)) 64)) &&& BitVec.ofInt 64 (1 : Int)) : Nat) : Int) = 1) = decide (n / 2 ^ i % 2 = 1) := by
  rw [bit_eq hn hi, decide_eq_decide]
  omega
theorem SmallN.one {p : Pln} {m : Nat} (hm : m = (rulesS p).length) : SmallN p m 1 [] false := by
  refine ⟨fun _ => ⟨rfl, fun n hn => ?_⟩, fun h => nomatch h⟩
  obtain rfl : n = 0 := by omega
  obtain ⟨f, hf⟩ := hol_nil p
  refine ⟨f, hf.congr fun r hr => ?_⟩
  obtain ⟨k, -, h⟩ := mem_chS.1 hr
  have := (bitsB_get.1 h).2
  simp at this
theorem SmallN.ne {p : Pln} {N : Nat} {l : List Int} (h : SmallN p (rulesS p).length N l true) : l ≠ [] := by
  obtain ⟨⟨n, -, rfl, hnp⟩, -⟩ := h.yes rfl
  intro e
  refine hnp ((pos_pick (bitsB_len _ _)).2 ?_)
  rw [e]
  exact hol_nil p
theorem SmallN.unique {p : Pln} {m N : Nat} {l l' : List Int} (h : SmallN p m N l true) (h' : SmallN p m N l' true) : l = l' := by
  obtain ⟨⟨n, hn, e, hnp⟩, hm⟩ := h.yes rfl
  obtain ⟨⟨n', hn', e', hnp'⟩, hm'⟩ := h'.yes rfl
  have a := hm n' hn' hnp'
  have b := hm' n hn hnp
  rw [← e'] at a
  rw [← e] at b
  exact b.anti a
theorem SmallN.full {p : Pln} (hex : ¬ ∃ f, Hol p (rulesS p) f) {l : List Int} {any : Bool} (h : SmallN p (rulesS p).length (2 ^ (rulesS p).length) l any) : any = true := by
  cases any with
  | true => rfl
  | false =>
    have := (h.no rfl).2 (numB (List.replicate (rulesS p).length true)) (by have := numB_lt (List.replicate (rulesS p).length true); rwa [List.length_replicate] at this)
    have e := bits_num (List.replicate (rulesS p).length true)
    rw [List.length_replicate] at e
    rw [e] at this
    exact absurd (pos_all.1 this) hex
theorem l39 {F : Nat} (hF : 5000 ≤ F) {p : Pln} (hp : PV p) (hn : p.1.length ≤ 6) (hm : (rulesS p).length ≤ 12) (hex : ¬ ∃ f, Hol p (rulesS p) f) : ∃ l, c39 F p = some l ∧ SmallN p (rulesS p).length (2 ^ (rulesS p).length) l true := by
  have hcl := condS_len p
  have hpow : 2 ^ (rulesS p).length ≤ 4096 := Nat.pow_le_pow_right (n := 2) (by omega) hm
  have hp1 : 1 ≤ 2 ^ (rulesS p).length := Nat.one_le_two_pow
  have hw : w64 ((1 : Int) * (2 : Int) ^ Min.min (Int.toNat ((rulesS p).length : Int)) 64) = ((2 ^ (rulesS p).length : Nat) : Int) := by
    rw [show Min.min (Int.toNat ((rulesS p).length : Int)) 64 = (rulesS p).length by rw [Int.toNat_natCast]; omega, Int.one_mul]
    rw [show ((2 : Int) ^ (rulesS p).length) = ((2 ^ (rulesS p).length : Nat) : Int) by simp]
    have hp0 : ((2 ^ (rulesS p).length : Nat) : Int) ≤ 4096 := Int.ofNat_le.2 hpow
    have hp1 : (0 : Int) ≤ ((2 ^ (rulesS p).length : Nat) : Int) := Int.natCast_nonneg _
    exact w64_in (by omega) (by omega)
  have hfull := fun {l any} => SmallN.full hex (l := l) (any := any)
  unfold c39
  simp only [peta, l37 (show 400 ≤ F by omega) hp.sh, Option.bind_some, hcl, hw]
  simp only [Int.toNat_natCast]
  generalize hM : 2 ^ (rulesS p).length = M at hpow hp1 hfull
  refine bind_inv (fun v : Int => ∃ N : Nat, v = N ∧ 1 ≤ N ∧ N ≤ M ∧ SmallN p (rulesS p).length N [] false) (fun v => M - v.toNat) (fun b => match b with | .inl x => ∃ N : Nat, x.2 = N ∧ N ≤ M ∧ x.1.length ≤ 12 ∧ SmallN p (rulesS p).length N x.1 true | .inr _ => False) ?_ ⟨1, rfl, Nat.le_refl _, hp1, SmallN.one rfl⟩ (by omega) ?_
  · rintro _ ⟨N, rfl, hN1, hNM, hS⟩
    by_cases hlt : N < M
    · have hn4 : N < 4096 := by omega
      have hbl := bitsB_len (rulesS p).length N
      have hsl : (memS (bitsB (rulesS p).length N)).length ≤ 12 := by have := memS_len (bitsB (rulesS p).length N); omega
      obtain ⟨b, k1, k2⟩ := l74 (F := F) (by omega) hp hn hbl
      have hw1 : w64 ((N : Int) + 1) = ((N + 1 : Nat) : Int) := by rw [w64_in (by omega) (by omega)]; omega
      have t1 : List.take (rulesS p).length (List.drop 0 (bitsB (rulesS p).length N)) = bitsB (rulesS p).length N := by rw [List.drop_zero]; exact List.take_of_length_le (by omega)
      cases b with
      | true =>
        refine .inl ⟨((N + 1 : Nat) : Int), ?_, ⟨N + 1, rfl, by omega, by omega, hS.skip (.inl (k2.1 rfl))⟩, by omega⟩
        simp (disch := omega) only [cd_pos, gd_dec]
        rw [bind_bits (F := F) (N := N) (m := (rulesS p).length) (by omega) ?_ ?_]
        · simp (disch := omega) only [hbl, x89, t1, k1, gd_dec, hw1, Bool.and_self, gd_true, Option.bind_some, decide_true, Nat.zero_add, Nat.le_refl]
          try simp [gd_true]
        · intro i s hi hs
          have hbd := bitD (n := N) (i := i) hn4 (by omega)
          rw [Int.toNat_natCast] at hbd
          simp (disch := omega) only [cd_pos, gd_dec, Nat.zero_add, Int.toNat_natCast, hbd, w64_in]
        · intro s
          simp (disch := omega) only [cd_neg]
      | false =>
        refine .inr ⟨.inl (memS (bitsB (rulesS p).length N), ((N + 1 : Nat) : Int)), ?_, N + 1, rfl, by omega, hsl, hS.take (fun h => by have := k2.2 h; cases this) (fun h => nomatch h)⟩
        simp (disch := omega) only [cd_pos, gd_dec]
        rw [bind_bits (F := F) (N := N) (m := (rulesS p).length) (by omega) ?_ ?_]
        · simp (disch := omega) only [hbl, x89, t1, k1, gd_dec, hw1, Bool.and_self, gd_true, Option.bind_some, decide_true, Nat.zero_add, Nat.le_refl]
          try simp [gd_true]
        · intro i s hi hs
          have hbd := bitD (n := N) (i := i) hn4 (by omega)
          rw [Int.toNat_natCast] at hbd
          simp (disch := omega) only [cd_pos, gd_dec, Nat.zero_add, Int.toNat_natCast, hbd, w64_in]
        · intro s
          simp (disch := omega) only [cd_neg]
    · obtain rfl : N = M := by omega
      have := hfull hS
      cases this
  · rintro (⟨l0, v0⟩ | u) hb
    · obtain ⟨N0, hv0, hN0, hl0, hS0⟩ := hb
      simp only at hv0 hl0 hS0
      subst hv0
      simp only [Sum.elim_inl]
      refine bind_inv (fun x : List Int × Int => ∃ N : Nat, x.2 = N ∧ N ≤ M ∧ x.1.length ≤ 12 ∧ SmallN p (rulesS p).length N x.1 true) (fun x => M - x.2.toNat) (fun b => SmallN p (rulesS p).length M b true) ?_ ⟨N0, rfl, hN0, hl0, hS0⟩ (by simp only; omega) (fun b hb => ⟨b, rfl, hb⟩)
      rintro ⟨best, v⟩ ⟨N, hv, hNM, hol, hS⟩
      simp only at hv hol hS
      subst hv
      by_cases hlt : N < M
      · have hn4 : N < 4096 := by omega
        have hbl := bitsB_len (rulesS p).length N
        have hsl : (memS (bitsB (rulesS p).length N)).length ≤ 12 := by have := memS_len (bitsB (rulesS p).length N); omega
        obtain ⟨b, k1, k2⟩ := l74 (F := F) (by omega) hp hn hbl
        have hw1 : w64 ((N : Int) + 1) = ((N + 1 : Nat) : Int) := by rw [w64_in (by omega) (by omega)]; omega
        have t1 : List.take (rulesS p).length (List.drop 0 (bitsB (rulesS p).length N)) = bitsB (rulesS p).length N := by rw [List.drop_zero]; exact List.take_of_length_le (by omega)
        have hne : ¬ best.length = 0 := fun e => hS.ne (List.length_eq_zero_iff.1 e)
        refine .inl ?_
        suffices go : ∃ l' : List Int, (bif decide ((best.length : Int) < ((memS (bitsB (rulesS p).length N)).length : Int)) then some best else bif decide (((memS (bitsB (rulesS p).length N)).length : Int) = (best.length : Int)) then (bif !decide (lexI (memS (bitsB (rulesS p).length N)) best < 0) then some best else bif !b then some (memS (bitsB (rulesS p).length N)) else some best) else bif !b then some (memS (bitsB (rulesS p).length N)) else some best) = some l' ∧ l'.length ≤ 12 ∧ SmallN p (rulesS p).length (N + 1) l' true by
          obtain ⟨l', he, h1, h2⟩ := go
          refine ⟨(l', ((N + 1 : Nat) : Int)), ?_, ⟨N + 1, rfl, by omega, h1, h2⟩, by simp only; omega⟩
          simp (disch := omega) only [cd_pos, gd_dec]
          rw [bind_bits (F := F) (N := N) (m := (rulesS p).length) (by omega) ?_ ?_]
          · simp (disch := omega) only [hbl, x89, t1, k1, gd_dec, hw1, Bool.and_self, gd_true, Option.bind_some, decide_true, Nat.zero_add, Nat.le_refl]
            generalize memS (bitsB (rulesS p).length N) = nn at he hsl
            by_cases c1 : (best.length : Int) < (nn.length : Int)
            · simp only [c1, decide_true, cond_true, Option.some.injEq] at he
              subst he
              simp [hne, c1]
            · by_cases c2 : (nn.length : Int) = (best.length : Int)
              · have hnl : nn.length = best.length := by omega
                have hc80 := l80 (F := F) (a := nn) (b := best) (by omega) hnl (by omega)
                by_cases c3 : lexI nn best < 0
                · cases b <;> simp [c3, hnl] at he <;> subst he <;> simp [hne, c3, hnl, hc80]
                · simp [c3, hnl] at he
                  subst he
                  simp [hne, c3, hnl, hc80]
              · have hnl : ¬ nn.length = best.length := by omega
                have c1' : ¬ best.length < nn.length := by omega
                cases b <;> simp only [c1, c2, decide_false, Bool.not_true, Bool.not_false, cond_false, cond_true, Option.some.injEq] at he <;> subst he <;> simp [hne, c1', c2]
          · intro i s hi hs
            have hbd := bitD (n := N) (i := i) hn4 (by omega)
            rw [Int.toNat_natCast] at hbd
            simp (disch := omega) only [cd_pos, gd_dec, Nat.zero_add, Int.toNat_natCast, hbd, w64_in]
          · intro s
            simp (disch := omega) only [cd_neg]
        have htk := fun (h : b = false) (h2 : true = true → ¬ NotB (memS (bitsB (rulesS p).length N)) best) => hS.take (fun hp' => by have := k2.2 hp'; rw [h] at this; cases this) h2
        have hskb := fun (h : b = true) => hS.skip (.inl (k2.1 h))
        have hsk := fun (h : NotB (memS (bitsB (rulesS p).length N)) best) => hS.skip (.inr ⟨rfl, h⟩)
        generalize memS (bitsB (rulesS p).length N) = nn at htk hsk hsl
        by_cases c1 : (best.length : Int) < (nn.length : Int)
        · exact ⟨best, by simp only [c1, decide_true, cond_true], hol, hsk (.inl (by omega))⟩
        · by_cases c2 : (nn.length : Int) = (best.length : Int)
          · have hnl : nn.length = best.length := by omega
            have hng := lexI_neg nn best
            by_cases c3 : lexI nn best < 0
            · cases b with
              | true => exact ⟨best, by simp [hnl, c3], hol, hskb rfl⟩
              | false => exact ⟨nn, by simp [hnl, c3], hsl, htk rfl fun _ h => by rcases h with h | ⟨-, h⟩ <;> omega⟩
            · exact ⟨best, by simp [hnl, c3], hol, hsk (.inr ⟨hnl.symm, by omega⟩)⟩
          · have hnl : ¬ nn.length = best.length := by omega
            have c1' : ¬ best.length < nn.length := by omega
            cases b with
            | true => exact ⟨best, by simp [c2, c1'], hol, hskb rfl⟩
            | false => exact ⟨nn, by simp [c2, c1'], hsl, htk rfl fun _ h => by rcases h with h | ⟨h, -⟩ <;> omega⟩
      · obtain rfl : N = M := by omega
        refine .inr ⟨best, ?_, hS⟩
        simp (disch := omega) only [cd_neg]
    · exact hb.elim
theorem law5 (p : Pln) (hok : AEls.ok [.agg [.seq [.str, .int .i64, .seq [.str], .seq [.str], .seq [.str], .int .i64, .int .i64], .seq [.int .i64, .int .i64, .int .i64], .int .i64]] p) : ∃ F, c5 F p = some true := by
  obtain ⟨⟨hb1, -⟩, ⟨hb2, -⟩, -⟩ := hok
  refine ⟨roomP p [] + 2000, ?_⟩
  have hF0 : roomP p [] + 2000 = p.1.length + p.2.1.length + 0 + 4000 + 2000 := rfl
  generalize roomP p [] + 2000 = F at hF0
  have hF : 5000 ≤ F := by omega
  have hF4 : 4000 ≤ F := by omega
  unfold c5
  obtain ⟨b, h16, hs⟩ := l16 (F := F) (by omega) (p := p)
  simp only [peta, l14 (F := F) (p := p) (by omega) (by omega) hb1 hb2, Option.bind_some, h16]
  cases b with
  | false => rfl
  | true =>
    have hp := hs rfl
    simp only [Bool.not_true, cond_false, Option.bind_some, l19 (show 400 ≤ F by omega) hp.sm]
    have e24 : ∀ b : Bool, (b = decide ((8 : Int) < (p.1.length : Int))) → firstNZ (planE p :: (if b = true then 22 else 0) :: nilT Int) = exE p := by
      intro b hb
      subst hb
      unfold exE
      by_cases h8 : 8 < p.1.length
      · have : (8 : Int) < (p.1.length : Int) := by omega
        simp [h8, this, nilT]
      · have : ¬ (8 : Int) < (p.1.length : Int) := by omega
        simp [h8, this, nilT]
    have z24 : ∀ (a b : Int), c24 F (a :: b :: nilT Int) = some (firstNZ [a, b]) := fun a b => l24 (by simp [nilT]; omega) (by simp [nilT])
    by_cases hskip : planE p = 0 ∧ 4 < p.1.length ∧ p.1.length ≤ 8
    · have a1 : (4 : Int) < (p.1.length : Int) := by omega
      have a2 : (p.1.length : Int) ≤ 8 := by omega
      simp [hskip.1, a1, a2]
    · have hv66 : ((bif decide (planE p = 0) then (bif decide ((4 : Int) < (p.1.length : Int)) then some (decide ((p.1.length : Int) ≤ (8 : Int))) else some false) else some false) : Option Bool) = some false := by
        by_cases h0 : planE p = 0
        · by_cases h5 : (4 : Int) < (p.1.length : Int)
          · have : ¬ (p.1.length : Int) ≤ 8 := fun h => hskip ⟨h0, by omega, by omega⟩
            simp [h0, h5, this]
          · simp [h0, h5]
        · simp [h0]
      have e24' := e24 _ rfl
      simp only [hv66, Option.bind_some, cond_false, l23, z24]
      rw [show firstNZ [planE p, if decide ((8 : Int) < (p.1.length : Int)) = true then 22 else 0] = exE p from e24']
      obtain ⟨f1, f2, f3⟩ := l35 hF4 hp
      obtain ⟨g1, g2, g3⟩ := l36 hF hp
      by_cases he : exE p = 0
      · obtain ⟨h0, h8⟩ := exE_zero he
        have hv := PV.of hp h0
        have hn : p.1.length ≤ 6 := by
          apply Classical.byContradiction
          intro h
          exact hskip ⟨h0, by omega, h8⟩
        have hrl := rulesS_len8 (p := p) (by omega) (by have := hv.n2; omega)
        have hcl := condS_len p
        obtain ⟨b, h25, hb⟩ := l25 hF4 hv hn
        simp only [he, decide_true, Bool.not_true, cond_false, h25, Option.bind_some, l37 (show 400 ≤ F by omega) hp, hcl]
        cases b with
        | true =>
          have hex := hb.1 rfl
          have e36 : c36 F p = some ([], if 12 < (rulesS p).length then 22 else 7) := by
            by_cases hm : 12 < (rulesS p).length
            · rw [if_pos hm]; exact g2 he hm
            · obtain ⟨l, any, k1, k2⟩ := g3 he (by omega)
              have : any = false := by
                cases any with
                | false => rfl
                | true => obtain ⟨⟨n, -, -, hnp⟩, -⟩ := k2.yes rfl; exact absurd (all_pos hex _) hnp
              subst this
              rw [if_neg hm, k1, (k2.no rfl).1]
              rfl
          rw [f2 he hex, e36]
          by_cases hm : 12 < (rulesS p).length
          · have hm' : (12 : Int) < ((rulesS p).length : Int) := by omega
            simp [hm, hm', m24_err, firstNZ, nilT]
          · have hm' : ¬ (12 : Int) < ((rulesS p).length : Int) := by omega
            simp [hm, hm', m24_err, firstNZ, nilT]
        | false =>
          have hex : ¬ ∃ f, Hol p (rulesS p) f := fun h => by have := hb.2 h; cases this
          have hcore := l38 hF4 hv hn
          have hcl2 : (memS (coreB p (rulesS p).length (List.replicate (rulesS p).length true))).length ≤ 300 := by
            have := memS_len (coreB p (rulesS p).length (List.replicate (rulesS p).length true))
            rw [(coreB_facts (p := p) (rulesS p).length _).1, List.length_replicate] at this
            omega
          rw [f3 he hex]
          generalize memS (coreB p (rulesS p).length (List.replicate (rulesS p).length true)) = L at hcore hcl2
          have ok1 := m24_ok (F := F) (l := L) (by omega) (by omega)
          by_cases hm : 12 < (rulesS p).length
          · have hm' : (12 : Int) < ((rulesS p).length : Int) := by omega
            rw [g2 he hm]
            simp [hm', hcore, ok1, m24_err, firstNZ, nilT]
          · have hm' : ¬ (12 : Int) < ((rulesS p).length : Int) := by omega
            obtain ⟨l, any, k1, k2⟩ := g3 he (by omega)
            obtain rfl := SmallN.full hex k2
            obtain ⟨l2, k3, k4⟩ := l39 hF hv hn (by omega) hex
            obtain rfl := k2.unique k4
            have hll : l.length ≤ 300 := by
              obtain ⟨⟨n, -, e, -⟩, -⟩ := k2.yes rfl
              have := memS_len (bitsB (rulesS p).length n)
              rw [bitsB_len, ← e] at this
              omega
            have ok2 := m24_ok (F := F) (l := l) (by omega) (by omega)
            rw [k1]
            simp [hm', hcore, ok1, ok2, k3, firstNZ, nilT]
      · rw [f1 he, g1 he]
        simp [he, m24_err he, nilT]
end Go.Proofs.Tryz

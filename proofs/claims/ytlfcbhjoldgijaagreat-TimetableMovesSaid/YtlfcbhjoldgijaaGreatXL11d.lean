/- Plain law: the program's slack. Plain law: the proofs of a conflict. Plain law: cores. Plain law: the smallest conflict. Plain law: the smallest conflict, the program's. Plain law: TimetableEither. Plain law: TimetableMoves. -/
import Derived.Test.YtlfcbhjoldgijaaGreatXL11s
import Derived.Test.YtlfcbhjoldgijaaGreatXTtR1
import Derived.Test.YtlfcbhjoldgijaaGreatXTtT
import Derived.Test.YtlfcbhjoldgijaaGreatXTtN
section
set_option maxRecDepth 100000
set_option linter.unusedVariables false
set_option linter.unusedSimpArgs false
namespace Go.Proofs.Tryz
open Go Go.Sx
theorem bWW : (kW == kW) = true := beqB kW
theorem bOW : (kO == kW) = false := by kernel_rfl
theorem bAW : (kA == kW) = false := by kernel_rfl
theorem bFW : (kF == kW) = false := by kernel_rfl
theorem bTW : (kT == kW) = false := by kernel_rfl
theorem ex_fst {v : Option (List Int × Int)} {S : List Int → Prop} (h : ∃ r, v = some r ∧ ∃ s, r = (s, (0 : Int)) ∧ S s) : ∃ s, v = some (s, 0) ∧ S s := by
  obtain ⟨r, h1, s, h2, h3⟩ := h
  exact ⟨s, by rw [h1, h2], h3⟩
theorem l46 {F : Nat} (hF : 4000 ≤ F) {p : Pln} (hp : PShort p) {t : List Int} (hl : t.length ≤ 300) (hs : soundE p t = 0) : ((brokS p t).2 = true → c46 F (p, t) = some ([], 29)) ∧ ((brokS p t).2 = false → ∃ s, c46 F (p, t) = some (s, 0) ∧ SlkS p t (rulesS p) s) := by
  obtain ⟨h0, hf⟩ := soundE_zero hs
  have hv := PV.of hp h0
  obtain ⟨htk, hrg⟩ := TOk.of hf
  have hrl := rulesS_len (p := p) (by have := hv.n1; omega) (by have := hv.n2; omega)
  have hn := hv.n1
  have htl := htk.len
  unfold c46
  simp only [peta, l96 (show 400 ≤ F by omega) hp hl, hs, Option.bind_some, decide_true, Bool.not_true, cond_false, l97 (show 3000 ≤ F by omega) hv htk]
  refine ⟨fun hb => ?_, fun hb => ?_⟩
  · simp [hb, nilT]
  · have hol : Hol p (rulesS p) t := ⟨htl, fun i hi => by have := htk.at (a := (i : Int)) (by omega) (by omega); have h2 := hrg (t.getD i 0) (getD_mem (by omega)); simp only [fL]; omega, (brok_find p t).2.1 hb⟩
    refine ex_fst ?_
    simp (disch := omega) only [hb, cond_false, gd_dec, Int.toNat_natCast]
    refine bind_cnt (F := F) 0 p.1.length (fun i s => s.length = p.1.length ∧ ∀ k, k < i → fL s k = wS p t k) (fun s => s.length = p.1.length ∧ ∀ k, k < p.1.length → fL s k = wS p t k) (Nat.zero_le _) (by omega) ⟨by simp [htl], fun k hk => by omega⟩ ?_ ?_ ?_
    · intro i s _ hi ⟨hsl, hsv⟩
      have hx := List.getElem?_eq_getElem hi
      have h1 := hv.at (a := (i : Int)) (by omega) (by omega)
      have h2 := htk.at (a := (i : Int)) (by omega) (by omega)
      simp only [tq, Int.toNat_natCast] at h2
      have hw : w64 (w64 ((p.1.getD i (ByteArray.empty, (0 : Int), nilT ByteArray, nilT ByteArray, nilT ByteArray, (0 : Int), (0 : Int))).2.2.2.2.2.2 - (p.1.getD i (ByteArray.empty, (0 : Int), nilT ByteArray, nilT ByteArray, nilT ByteArray, (0 : Int), (0 : Int))).2.1) - t.getD i 0) = wS p t i := by
        show w64 (w64 ((rq p (i : Int)).2.2.2.2.2.2 - (rq p (i : Int)).2.1) - fL t i) = _
        unfold wS
        simp only [fL]
        rw [w64_in (n := (rq p (i : Int)).2.2.2.2.2.2 - (rq p (i : Int)).2.1) (by omega) (by omega)]
        exact w64_in (by omega) (by omega)
      refine ⟨s.set i (wS p t i), ?_, by simp [hsl], fun k hk => ?_⟩
      · simp (disch := omega) only [cd_pos, gd_dec, Int.toNat_natCast, Nat.zero_add, hw, w64_in]
      · rw [fL_set (by omega)]
        by_cases hki : k = i
        · rw [if_pos hki, hki]
        · rw [if_neg hki]; exact hsv k (by omega)
    · intro s ⟨hsl, hsv⟩
      refine ⟨s, ?_, hsl, hsv⟩
      simp (disch := omega) only [cd_neg]
    · intro s0 ⟨hsl0, hsv0⟩
      simp only [l65 (show 400 ≤ F by omega) hp, Option.bind_some]
      refine bind_cnt (F := F) 0 (rulesS p).length (fun i s => SlkS p t ((rulesS p).take i) s) (SlkS p t (rulesS p)) (Nat.zero_le _) (by omega) ⟨hsl0, fun k hk => by rw [hsv0 k hk]; exact Int.le_refl _, fun r hr => by simp at hr, fun k hk => .inl (hsv0 k hk)⟩ ?_ ?_ ?_
      · intro i s _ hi hS
        have hr := List.getElem?_eq_getElem hi
        have hrm := List.getElem_mem hi
        generalize (rulesS p)[i] = r at hr hrm
        have hro := hv.rulM r hrm
        have hha := hol.rul r hrm
        have hsub : ∀ r ∈ (rulesS p).take i, r ∈ rulesS p := fun r h => List.mem_of_mem_take h
        have htake : (rulesS p).take (i + 1) = (rulesS p).take i ++ [r] := (take_snoc hr).symm
        have hsl := hS.len
        by_cases hw : r.1 = kW
        · refine ⟨s, ?_, ?_⟩
          · have hb : r.2.2.1 = r.2.1 := hro.win hw
            simp (disch := omega) only [cd_pos, gd_dec, Int.toNat_natCast, getD_some hr, eW, hw, bWW, hb, decide_true, Bool.and_self, cond_true, Option.bind_some, w64_in]
          · rw [htake]
            refine ⟨hsl, hS.le, fun x hx hxw => ?_, fun k hk => (hS.eq k hk).imp id fun ⟨x, hx, h⟩ => ⟨x, List.mem_append_left _ hx, h⟩⟩
            rcases List.mem_append.1 hx with h | h
            · exact hS.leR x h hxw
            · rw [List.mem_singleton.1 h] at hxw
              exact absurd hw hxw
        · have hbe : (r.1 == kW) = false := by
            rcases hro.kind with e | e | e | e | e
            · exact absurd e hw
            · rw [e]; exact bOW
            · rw [e]; exact bAW
            · rw [e]; exact bFW
            · rw [e]; exact bTW
          have hin := fs_in (t := t) hro
          have i1 := hin.1.1
          have i2 := hin.1.2
          have i3 := hin.2.1
          have i4 := hin.2.2
          have ha := hro.a
          have hb := hro.b
          have hg := hro.gap
          have m1 := hv.at hin.1.1 hin.1.2
          have q1 := htk.at hin.1.1 hin.1.2
          have q2 := htk.at hin.2.1 hin.2.2
          have hpick : (bif decide (t.getD r.2.2.1.toNat 0 < t.getD r.2.1.toNat 0) then some (r.2.2.1, r.2.1) else some (r.2.1, r.2.2.1)) = some (fsI t r, snI t r) := by
            unfold fsI snI
            by_cases h : tq t r.2.2.1 < tq t r.2.1
            · have h' : t.getD r.2.2.1.toNat 0 < t.getD r.2.1.toNat 0 := h
              rw [if_pos h, if_pos h, cd_pos h']
            · have h' : ¬ t.getD r.2.2.1.toNat 0 < t.getD r.2.1.toNat 0 := h
              rw [if_neg h, if_neg h, cd_neg h']
          have hwb : w64 (w64 (w64 (t.getD (snI t r).toNat 0 - r.2.2.2) - (p.1.getD (fsI t r).toNat (ByteArray.empty, (0 : Int), nilT ByteArray, nilT ByteArray, nilT ByteArray, (0 : Int), (0 : Int))).2.1) - t.getD (fsI t r).toNat 0) = bS p t r := by
            show w64 (w64 (w64 (tq t (snI t r) - r.2.2.2) - (rq p (fsI t r)).2.1) - tq t (fsI t r)) = _
            unfold bS
            rw [w64_in (n := tq t (snI t r) - r.2.2.2) (by omega) (by omega), w64_in (n := tq t (snI t r) - r.2.2.2 - (rq p (fsI t r)).2.1) (by omega) (by omega)]
            exact w64_in (by omega) (by omega)
          refine ⟨s.set (fsI t r).toNat (if bS p t r < fL s (fsI t r).toNat then bS p t r else fL s (fsI t r).toNat), ?_, ?_⟩
          · simp (disch := omega) only [cd_pos, gd_dec, Int.toNat_natCast, getD_some hr, eW, hbe, Bool.false_and, cond_false, hpick, Option.bind_some, Nat.zero_add, hwb, w64_in]
          · rw [htake]
            refine ⟨by rw [List.length_set]; exact hsl, fun k hk => ?_, fun x hx hxw => ?_, fun k hk => ?_⟩
            · rw [fL_set (by omega)]
              have := hS.le k hk
              split
              · rename_i hkf
                rw [← hkf]
                split <;> omega
              · exact this
            · rw [fL_set (by omega)]
              rcases List.mem_append.1 hx with h | h
              · have := hS.leR x h hxw
                split
                · rename_i hkf
                  rw [← hkf]
                  split <;> omega
                · exact this
              · rw [List.mem_singleton.1 h, if_pos rfl]
                split <;> omega
            · rw [fL_set (by omega)]
              by_cases hkf : k = (fsI t r).toNat
              · rw [if_pos hkf]
                split
                · exact .inr ⟨r, by simp, hw, by omega, rfl⟩
                · rw [← hkf]
                  exact (hS.eq k hk).imp id fun ⟨x, hx, h⟩ => ⟨x, List.mem_append_left _ hx, h⟩
              · rw [if_neg hkf]
                exact (hS.eq k hk).imp id fun ⟨x, hx, h⟩ => ⟨x, List.mem_append_left _ hx, h⟩
      · intro s hS
        refine ⟨s, ?_, by rwa [List.take_length] at hS⟩
        simp (disch := omega) only [cd_neg]
      · intro s hS
        have e : List.take t.length (List.drop 0 s) = s := by rw [List.drop_zero]; exact List.take_of_length_le (by have := hS.len; omega)
        refine ⟨(s, 0), ?_, s, rfl, hS⟩
        have hsl := hS.len
        simp (disch := omega) only [e, gd_dec, decide_true, Bool.and_self, gd_true, Int.toNat_natCast]
        simp [hsl, htl, gd_true]
end Go.Proofs.Tryz
end
section
set_option maxRecDepth 100000
set_option linter.unusedVariables false
set_option linter.unusedSimpArgs false
namespace Go.Proofs.Tryz
open Go Go.Sx
abbrev r4 : Rul := (ByteArray.empty, (0 : Int), (0 : Int), (0 : Int))
def pickS (L : List Rul) (ns : List Int) : List Rul := ns.map fun x => L.getD x.toNat r4
theorem Hol.congr {p : Pln} {L M : List Rul} {f : List Int} (h : ∀ r, r ∈ M → r ∈ L) (hf : Hol p L f) : Hol p M f := ⟨hf.len, hf.rng, fun r hr => hf.rul r (h r hr)⟩
end Go.Proofs.Tryz
end
section
set_option maxRecDepth 100000
set_option linter.unusedVariables false
set_option linter.unusedSimpArgs false
namespace Go.Proofs.Tryz
open Go Go.Sx
theorem ex_eq {α : Type} {v : Option α} {x : α} (h : ∃ r, v = some r ∧ r = x) : v = some x := by
  obtain ⟨r, h1, rfl⟩ := h
  exact h1
def memF (k : Nat) (b : Bool) : List Int := if b = true then [(k : Int)] else []
def memS (B : List Bool) : List Int := ifl memF 0 B
theorem ifl_get {α β : Type} {f : Nat → α → List β} {y : β} : ∀ {l : List α} {k j : Nat} {x : α}, l[j]? = some x → y ∈ f (k + j) x → y ∈ ifl f k l
  | a :: l, k, 0, x, h, hy => by
    simp only [List.getElem?_cons_zero, Option.some.injEq] at h
    subst h
    exact List.mem_append.2 (.inl hy)
  | a :: l, k, j + 1, x, h, hy => by
    rw [List.getElem?_cons_succ] at h
    exact List.mem_append.2 (.inr (ifl_get (k := k + 1) h (by rw [show k + 1 + j = k + (j + 1) by omega]; exact hy)))
def Pos (p : Pln) (B : List Bool) : Prop := ∃ f, Hol p (chS p B) f
theorem Pos.mono {p : Pln} {B C : List Bool} (h : ∀ k : Nat, C[k]? = some true → B[k]? = some true) : Pos p B → Pos p C := fun ⟨f, hf⟩ => ⟨f, hf.congr fun r hr => by
  obtain ⟨k, h1, h2⟩ := mem_chS.1 hr
  exact mem_chS.2 ⟨k, h1, h k h2⟩⟩
end Go.Proofs.Tryz
end
section
set_option maxRecDepth 100000
set_option linter.unusedVariables false
set_option linter.unusedSimpArgs false
namespace Go.Proofs.Tryz
open Go Go.Sx
def bitsB (m n : Nat) : List Bool := (List.range m).map fun i => decide (n / 2 ^ i % 2 = 1)
def NotB (l best : List Int) : Prop := best.length < l.length ∨ best.length = l.length ∧ lexI best l ≤ 0
theorem NotB.refl (l : List Int) : NotB l l := .inr ⟨rfl, by rw [lexI_self]; exact Int.le_refl _⟩
theorem NotB.trans {a b c : List Int} (h1 : NotB a b) (h2 : NotB b c) : NotB a c := by
  rcases h1 with h1 | ⟨h1, k1⟩ <;> rcases h2 with h2 | ⟨h2, k2⟩
  · exact .inl (by omega)
  · exact .inl (by omega)
  · exact .inl (by omega)
  · exact .inr ⟨by omega, lexI_trans k2 k1⟩
structure SmallN (p : Pln) (m N : Nat) (best : List Int) (any : Bool) : Prop where
  no : any = false → best = [] ∧ ∀ n, n < N → Pos p (bitsB m n)
  yes : any = true → (∃ n, n < N ∧ best = memS (bitsB m n) ∧ ¬ Pos p (bitsB m n)) ∧ ∀ n, n < N → ¬ Pos p (bitsB m n) → NotB (memS (bitsB m n)) best
theorem SmallN.skip {p : Pln} {m N : Nat} {best : List Int} {any : Bool} (h : SmallN p m N best any) (hk : Pos p (bitsB m N) ∨ any = true ∧ NotB (memS (bitsB m N)) best) : SmallN p m (N + 1) best any := by
  refine ⟨fun ha => ⟨(h.no ha).1, fun n hn => ?_⟩, fun ha => ⟨(h.yes ha).1.imp fun n hn => ⟨by omega, hn.2⟩, fun n hn hp => ?_⟩⟩
  · by_cases hnN : n = N
    · subst hnN
      rcases hk with hk | ⟨hk, -⟩
      · exact hk
      · rw [ha] at hk; cases hk
    · exact (h.no ha).2 n (by omega)
  · by_cases hnN : n = N
    · subst hnN
      rcases hk with hk | ⟨-, hk⟩
      · exact absurd hk hp
      · exact hk
    · exact (h.yes ha).2 n (by omega) hp
theorem SmallN.take {p : Pln} {m N : Nat} {best : List Int} {any : Bool} (h : SmallN p m N best any) (hp : ¬ Pos p (bitsB m N)) (hb : any = true → ¬ NotB (memS (bitsB m N)) best) : SmallN p m (N + 1) (memS (bitsB m N)) true := by
  refine ⟨fun h => (nomatch h), fun _ => ⟨⟨N, by omega, rfl, hp⟩, fun n hn hpn => ?_⟩⟩
  by_cases hnN : n = N
  · subst hnN
    exact .refl _
  · cases any with
    | false => exact absurd ((h.no rfl).2 n (by omega)) hpn
    | true =>
      have h1 := (h.yes rfl).2 n (by omega) hpn
      have h2 := hb rfl
      refine h1.trans ?_
      unfold NotB at h2 ⊢
      by_cases c1 : (memS (bitsB m N)).length < best.length
      · exact .inl c1
      · refine .inr ⟨by omega, ?_⟩
        have c2 : ¬ lexI best (memS (bitsB m N)) ≤ 0 := fun h => h2 (.inr ⟨by omega, h⟩)
        have := lexI_neg best (memS (bitsB m N))
        omega
end Go.Proofs.Tryz
end
section
set_option maxRecDepth 100000
set_option linter.unusedVariables false
set_option linter.unusedSimpArgs false
namespace Go.Proofs.Tryz
open Go Go.Sx
end Go.Proofs.Tryz
end
section
set_option maxRecDepth 100000
set_option linter.unusedVariables false
set_option linter.unusedSimpArgs false
namespace Go.Proofs.Tryz
open Go Go.Sx
theorem l49 {F : Nat} (hF : 400 ≤ F) {p : Pln} {k : Nat} : ∃ b, c49 F (p, (k : Int)) = some b ∧ (b = true → PShort p ∧ p.1.length ≤ k ∧ p.2.1.length ≤ k ∧ planE p = 0) := by
  unfold c49
  obtain ⟨b, h1, h2⟩ := l16 (F := F) hF (p := p)
  simp only [peta, h1, Option.bind_some]
  cases b with
  | false => exact ⟨false, rfl, fun h => nomatch h⟩
  | true =>
    have hp := h2 rfl
    by_cases a1 : p.1.length ≤ k
    · by_cases a2 : p.2.1.length ≤ k
      · simp (disch := omega) only [cond_true, cd_pos, l19 hF hp.sm, Option.bind_some]
        exact ⟨_, rfl, fun h => ⟨hp, a1, a2, of_decide_eq_true h⟩⟩
      · simp (disch := omega) only [cond_true, cd_pos, cd_neg, Option.bind_some]
        exact ⟨_, rfl, fun h => nomatch h⟩
    · simp (disch := omega) only [cond_true, cd_neg, Option.bind_some]
      exact ⟨_, rfl, fun h => nomatch h⟩
structure IrrS (p : Pln) (l : List Int) : Prop where
  asc : l.Pairwise (· < ·)
  rng : ∀ x ∈ l, 0 ≤ x ∧ x < (rulesS p).length
  bad : ¬ ∃ f, Hol p (pickS (rulesS p) l) f
  min : ∀ i, i < l.length → ∃ f, Hol p (pickS (rulesS p) (l.take i ++ l.drop (i + 1))) f
theorem hol_nil (p : Pln) : ∃ f, Hol p [] f := ⟨List.replicate p.1.length 0, by simp, fun i hi => by simp only [fL]; rw [rep_getD hi]; omega, fun r hr => nomatch hr⟩
theorem IrrS.ne {p : Pln} {l : List Int} (h : IrrS p l) : l ≠ [] := fun e => by
  subst e
  exact h.bad (hol_nil p)
end Go.Proofs.Tryz
end
section
set_option maxRecDepth 100000
set_option linter.unusedVariables false
set_option linter.unusedSimpArgs false
namespace Go.Proofs.Tryz
open Go Go.Sx
theorem l32w {F : Nat} (hF : 400 ≤ F) {p : Pln} {t : List Int} (hn : p.1.length ≤ 26) : c32 F (p, t) = some (formE p t) := by
  by_cases h : t.length ≤ 300
  · exact l32 hF hn h
  · have h0 : ¬ t.length = p.1.length := by omega
    have h1 : ¬ (t.length : Int) = p.1.length := by omega
    unfold c32 formE
    simp [h0, h1]
theorem need_ne {p : Pln} {k : Nat} (hk : k < p.1.length) {a : ByteArray} (ha : a ∈ (rq p (k : Int)).2.2.2.2.1) : needL p a ≠ [] := fun e => by
  rw [rq_nat hk] at ha
  have : (k : Int) ∈ needL p a := by
    unfold needL
    refine ifl_get (List.getElem?_eq_getElem hk) ?_
    unfold needR
    rw [if_pos (List.any_eq_true.2 ⟨a, ha, strEq_self a⟩), Nat.zero_add]
    exact List.mem_singleton.2 rfl
  rw [e] at this
  cases this
theorem chain72 (x y : Bool) : (bif !decide ((if x = true then (29 : Int) else 0) = 0) then bif !decide ((if x = true then (29 : Int) else 0) = 29) then some true else bif !decide ((if y = true then (29 : Int) else 0) = 0) then some (!decide ((if y = true then (29 : Int) else 0) = 29)) else some false else bif !decide ((if y = true then (29 : Int) else 0) = 0) then some (!decide ((if y = true then (29 : Int) else 0) = 29)) else some false) = some false := by
  cases x <;> cases y <;> rfl
theorem chain73 {n i j : Int} (h : n ≤ i → n ≤ j → i = j) : (bif decide (n ≤ i) then bif decide (n ≤ j) then some (!decide (i = j)) else some false else some false) = some false := by
  by_cases h1 : n ≤ i
  · by_cases h2 : n ≤ j
    · simp [h1, h2, h h1 h2]
    · simp [h1, h2]
  · simp [h1]
theorem law11 (a : Pln × List Int × Int) (hok : AEls.ok [.agg [.seq [.str, .int .i64, .seq [.str], .seq [.str], .seq [.str], .int .i64, .int .i64], .seq [.int .i64, .int .i64, .int .i64], .int .i64], .val (.seq [.int .i64]), .val (.int .u8)] a) : ∃ F, c11 F a = some true := by
  obtain ⟨p, t, b⟩ := a
  obtain ⟨⟨⟨hb1, -⟩, ⟨hb2, -⟩, -⟩, ⟨hb3, -⟩, hb4⟩ := hok
  have hb0 : (0 : Int) ≤ b ∧ b ≤ 255 := hb4
  refine ⟨roomP p t, ?_⟩
  have hF0 : roomP p t = p.1.length + p.2.1.length + t.length + 4000 := rfl
  generalize roomP p t = F at hF0
  have hF : 4000 ≤ F := by omega
  unfold c11
  obtain ⟨bs, h49, hs⟩ := l49 (F := F) (by omega) (p := p) (k := 6)
  have h49 : c49 F (p, 6) = some bs := h49
  simp only [peta, l14 (F := F) (p := p) (by omega) (by omega) hb1 hb2, Option.bind_some, h49]
  cases bs with
  | false => rfl
  | true =>
    obtain ⟨hp, hn6, hm6, h0⟩ := hs rfl
    have hv := PV.of hp h0
    simp only [Bool.not_true, cond_false, l32w (show 400 ≤ F by omega) (show p.1.length ≤ 26 by omega), Option.bind_some]
    by_cases hf : formE p t = 0
    · by_cases ht0 : t.length = 0
      · simp [hf, ht0]
      · have ht0' : ¬ (t.length : Int) = 0 := by omega
        obtain ⟨htk, hrg⟩ := TOk.of hf
        have htl := htk.len
        have hwb : Go.IntKind.wrap Go.IntKind.i64 b = b := w64_in (by omega) (by omega)
        have hnt : ∀ x : List Int, nilT Int ++ x = x := fun _ => rfl
        simp (disch := omega) only [hf, ht0', decide_true, decide_false, Bool.not_true, Bool.not_false, cond_false, cond_true, Option.bind_some, hnt, hwb, gd_dec]
        refine ex_eq ?_
        refine bind_cnt (F := F) 0 t.length (fun i s => s.length = t.length ∧ ∀ j, j < t.length → fL s j = if j < i then fL t j + b else fL t j) (fun s => s = movS b t) (Nat.zero_le _) (by omega) ⟨rfl, fun j hj => by simp⟩ ?_ ?_ ?_
        · intro i s _ hi ⟨hsl, hsv⟩
          have h1 := hsv i hi
          rw [if_neg (Nat.lt_irrefl i)] at h1
          have h2 := hrg (t.getD i 0) (getD_mem hi)
          simp only [fL] at h1
          have h3 : w64 (s.getD i 0 + b) = fL t i + b := by rw [h1]; exact w64_in (by omega) (by omega)
          refine ⟨s.set i (fL t i + b), ?_, by simp [hsl], fun j hj => ?_⟩
          · simp (disch := omega) only [cd_pos, gd_dec, Int.toNat_natCast, Nat.zero_add, h3, w64_in]
          · rw [fL_set (by omega), hsv j hj]
            by_cases hji : j = i
            · subst hji; simp
            · rw [if_neg hji]
              by_cases hlt : j < i
              · rw [if_pos hlt, if_pos (by omega)]
              · rw [if_neg hlt, if_neg (by omega)]
        · intro s ⟨hsl, hsv⟩
          refine ⟨s, ?_, list_ext (hsl.trans (mov_len b t).symm) fun i hi => ?_⟩
          · simp (disch := omega) only [cd_neg]
          · rw [hsv i (by omega), if_pos (by omega), mov_get (by omega)]
        · rintro M rfl
          refine ⟨true, ?_, rfl⟩
          have hMl := mov_len b t
          have hM0 : List.take t.length (List.drop 0 (movS b t)) = movS b t := by rw [List.drop_zero]; exact List.take_of_length_le (by omega)
          simp (disch := omega) only [hM0, gd_dec, decide_true, Bool.and_self, gd_true, l32w (show 400 ≤ F by omega) (show p.1.length ≤ 26 by omega), Option.bind_some]
          by_cases hfm : formE p (movS b t) = 0
          · obtain ⟨hMk, hMr⟩ := TOk.of hfm
            have hso : soundE p t = 0 := by unfold soundE; rw [if_pos h0]; exact hf
            have hsm : soundE p (movS b t) = 0 := by unfold soundE; rw [if_pos h0]; exact hfm
            simp (disch := omega) only [hfm, decide_true, Bool.not_true, cond_false, l53 (show 3000 ≤ F by omega) hp (t := t) (show t.length ≤ 300 by omega), l53 (show 3000 ≤ F by omega) hp (t := movS b t) (show (movS b t).length ≤ 300 by omega), l52 (show 3000 ≤ F by omega) hp (t := t) (show t.length ≤ 300 by omega), l52 (show 3000 ≤ F by omega) hp (t := movS b t) (show (movS b t).length ≤ 300 by omega), hso, hsm, if_true, Option.bind_some, gd_dec, Bool.and_self, gd_true, hMl, Nat.zero_add, Nat.le_refl]
            have hend := mov_end hv hb0.1 htk (by omega)
            have hbnd := endS_bnd hv htk
            have hnon := endS_nonneg p t
            have he0 : w64 (endS p t + b) = endS p t + b := w64_in (by omega) (by omega)
            have hkm : Int.tmod b (t.length : Int) = ((b.toNat % t.length : Nat) : Int) := by
              rw [Int.tmod_eq_emod_of_nonneg hb0.1, Int.natCast_emod, Int.toNat_of_nonneg hb0.1]
            have hk : b.toNat % t.length < t.length := Nat.mod_lt _ (by omega)
            have w00 : w64 ((0 : Int) + 0) = 0 := rfl
            simp only [w00, decide_true, Bool.not_true, cond_false, hend, he0, chain72, chain73 (fun h1 h2 => mov_brok hv (b := b) htl h1 h2), Option.bind_some, hkm]
            generalize b.toNat % t.length = k at hk
            have hkp : k < p.1.length := by omega
            have hrk : ∀ {α : Type} (f : Rnd → α), f (p.1.getD k (ByteArray.empty, (0 : Int), nilT ByteArray, nilT ByteArray, nilT ByteArray, (0 : Int), (0 : Int))) = f (rq p (k : Int)) := fun f => rfl
            have hA : (p.1.getD k (ByteArray.empty, (0 : Int), nilT ByteArray, nilT ByteArray, nilT ByteArray, (0 : Int), (0 : Int))).2.2.2.2.1 = (rq p (k : Int)).2.2.2.2.1 := rfl
            have hAl : (rq p (k : Int)).2.2.2.2.1.length ≤ 162 := by
              rw [rq_nat hkp]
              exact (hp.2.2 _ (List.getElem_mem hkp)).2 _ (.inr (.inr rfl)) |>.1
            simp (disch := omega) only [gd_dec, Int.toNat_natCast, hA]
            have ha := @need_ne p k hkp
            generalize (rq p (k : Int)).2.2.2.2.1 = A at hAl ha
            refine bind_list A (fun (_ : Unit) i => (i : Int)) (fun _ _ => .inl ()) (fun _ => (.inr () : Bool ⊕ Unit)) (fun _ _ => True) () (by omega) rfl trivial ?_ ?_ ?_
            · intro i x _ hi hx _
              refine ⟨?_, fun _ _ => trivial⟩
              obtain ⟨L, g1, g2⟩ := l91 (F := F) (show 400 ≤ F by omega) hv htk (a := x)
              obtain ⟨L2, g3, g4⟩ := l91 (F := F) (show 400 ≤ F by omega) hv hMk (a := x)
              obtain ⟨L3, g5, g6⟩ := l91b (F := F) (show 400 ≤ F by omega) hv hMk (a := x)
              obtain rfl := day_same htk g2 (mov_stab htl g4)
              obtain rfl := day_same htk g2 (mov_stab htl g6)
              have hD : ∀ y ∈ L, InE p.1.length y := fun y hy => needL_in _ (g2.1.mem_iff.1 hy)
              have hLn := ifl_len (f := needR x) (B := 1) (fun k y => needR_len x k y) p.1 0
              have hLl : L.length ≤ 24 := by
                rw [g2.len]
                unfold needL
                omega
              have hL0 : ¬ L.length = 0 := by
                rw [g2.len]
                have := ha (List.mem_of_getElem? hx)
                simpa using this
              have hLF : L.length < F := by omega
              simp (disch := omega) only [cd_pos, gd_dec, Int.toNat_natCast, getD_some hx, l40 (show 400 ≤ F by omega) hp (t := t) (show t.length ≤ 300 by omega) (fun _ => g1), l40b (show 400 ≤ F by omega) hp (t := movS b t) (show (movS b t).length ≤ 300 by omega) (fun _ => g3) (fun _ => g5),
                l41 (show 400 ≤ F by omega) hp (t := t) (show t.length ≤ 300 by omega) (fun _ => g1) hD hLl, l41 (show 400 ≤ F by omega) hp (t := movS b t) (show (movS b t).length ≤ 300 by omega) (fun _ => g3) hD hLl, mov_rest htl hD, hso, hsm, if_true, hL0, if_false, Option.bind_some, decide_true, Bool.and_self, gd_true, hMl, Nat.zero_add, Nat.le_refl, m55 hLF (show L.length ≤ 100000 by omega), w00, Bool.not_true, cond_false, w64_in]
              rfl
            · intro _ _
              simp (disch := omega) only [cd_neg]
            · rw [goL_unit]
              obtain ⟨s1, s2⟩ := l46 hF hp (t := t) (show t.length ≤ 300 by omega) hso
              cases hbr : (brokS p t).2 with
              | true => simp [s1 hbr]
              | false =>
                obtain ⟨s, e46, hS⟩ := s2 hbr
                have hol : Hol p (rulesS p) t := ⟨htl, fun i hi => by have := htk.at (a := (i : Int)) (by omega) (by omega); have h2 := hrg (t.getD i 0) (getD_mem (by omega)); simp only [fL]; omega, (brok_find p t).2.1 hbr⟩
                have hsl := hS.len
                have hsn := hS.nn hv hol (fun _ h => h) hkp
                have hok1 := slk_ok hv hol hS hkp
                have hbad := slk_bad hv hol hS hkp
                have htw := hol.win hv hkp
                simp only [fL] at hsn hok1 hbad htw
                have hv1 : w64 (t.getD k 0 + s.getD k 0) = t.getD k 0 + s.getD k 0 := w64_in (by omega) (by omega)
                have hst : (s.length : Int) = (t.length : Int) := by omega
                generalize hvv : t.getD k 0 + s.getD k 0 = v at hv1 hok1 hbad
                have hul : (t.set k v).length = t.length := by simp
                have hul2 : (t.set k (v + 1)).length = t.length := by simp
                have hg : (t.set k v).getD k 0 = v := by
                  have := fL_set (t := t) (k := k) (i := k) (v := v) hk
                  rw [if_pos rfl] at this
                  exact this
                have hv2 : w64 (v + 1) = v + 1 := w64_in (by omega) (by omega)
                have hss : (t.set k v).set k (v + 1) = t.set k (v + 1) := List.set_set ..
                have ht1 : List.take t.length (List.drop 0 (t.set k v)) = t.set k v := by rw [List.drop_zero]; exact List.take_of_length_le (by omega)
                have ht2 : List.take t.length (List.drop 0 (t.set k (v + 1))) = t.set k (v + 1) := by rw [List.drop_zero]; exact List.take_of_length_le (by omega)
                have hs1 : soundE p (t.set k v) = 0 := by unfold soundE; rw [if_pos h0]; exact hok1.form hv
                have hf2 : formE p (t.set k (v + 1)) = 0 := by
                  unfold formE
                  rw [if_neg (by rw [hul2]; simpa using htl), if_neg]
                  simp only [List.any_eq_true, decide_eq_true_eq, not_exists, not_and]
                  intro x hx
                  rcases List.mem_or_eq_of_mem_set hx with h | h
                  · have := hrg x h
                    omega
                  · omega
                have hs2 : soundE p (t.set k (v + 1)) = 0 := by unfold soundE; rw [if_pos h0]; exact hf2
                have hb2 : (brokS p (t.set k (v + 1))).2 = true := by
                  cases h : (brokS p (t.set k (v + 1))).2 with
                  | true => rfl
                  | false => exact absurd ((brok_find p _).2.1 h) hbad
                have h52a := l52 (F := F) (show 3000 ≤ F by omega) hp (t := t.set k v) (by omega)
                have h52b := l52 (F := F) (show 3000 ≤ F by omega) hp (t := t.set k (v + 1)) (by omega)
                rw [hs1, hok1.brok] at h52a
                rw [hs2, hb2] at h52b
                simp (disch := omega) only [Sum.elim_inr, e46, Option.bind_some, Bool.false_eq_true, if_false, decide_true, Bool.not_true, cond_false, hst, gd_dec, hul, hul2, Int.toNat_natCast, Nat.zero_add, hvv, hv1, ht1, hg, hv2, hss, ht2, if_true] at h52a h52b ⊢
                have hsn1 := hsn.1
                rw [List.getD_eq_getElem?_getD] at hsn1
                simp [h52a, h52b, hul, hul2, gd_true, hsn1, hss]
          · simp [hfm, gd_true, hMl]
    · simp [hf]
end Go.Proofs.Tryz
end

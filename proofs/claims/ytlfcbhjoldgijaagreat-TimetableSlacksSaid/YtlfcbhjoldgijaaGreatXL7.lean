/- Plain law: TimetableSlacks. -/
import Derived.Test.YtlfcbhjoldgijaaGreatXL7c
set_option maxRecDepth 100000
set_option linter.unusedVariables false
set_option linter.unusedSimpArgs false
namespace Go.Proofs.Tryz
open Go Go.Sx
theorem bind_ex {σ β γ : Type} {step : σ → Option (σ ⊕ β)} {F : Nat} {x : σ} {k : β → Option γ} {r : Option γ} (Inv : σ → Prop) (m : σ → Nat) (Post : β → Prop) (h0 : Inv x) (hm : m x < F)
    (h : ∀ x, Inv x → (∃ y, step x = some (.inl y) ∧ Inv y ∧ m y < m x) ∨ ∃ b, step x = some (.inr b) ∧ Post b) (hk : ∀ b, Post b → k b = r) : Option.bind (loopO step F x) k = r := by
  obtain ⟨b, h1, h2⟩ := loopO_ex Inv m Post h F x h0 hm
  rw [h1]
  exact hk b h2
theorem l46e {F : Nat} (hF : 4000 ≤ F) {p : Pln} (hp : PShort p) {t : List Int} (hl : t.length ≤ 300) (hs : soundE p t ≠ 0) : c46 F (p, t) = some ([], soundE p t) := by
  unfold c46
  simp only [peta, l96 (show 400 ≤ F by omega) hp hl, Option.bind_some, hs, decide_false, Bool.not_false, cond_true]
  rfl
theorem l48 {F : Nat} (hF : 8000 ≤ F) {p : Pln} (hv : PV p) (h400 : ∀ x ∈ p.1, x.2.2.2.2.2.2 - x.2.2.2.2.2.1 ≤ 400) {t s : List Int} (ht : Hol p (rulesS p) t) (hS : SlkS p t (rulesS p) s) : c48 F (p, t) = some s := by
  unfold c48
  rw [show (nilT Int ++ (p, t).2) = t from rfl]
  have hn1 := hv.n1
  have htl := ht.len
  have hsl := hS.len
  refine bind_list s (fun (out : List Int) i => (out, (i : Int))) (fun x out => .inl (out ++ [x])) (fun out => out) (fun i out => out.length = i) [] (by omega) rfl rfl ?_ ?_ ?_
  · intro i x out hi hx ho
    refine ⟨?_, fun s' h' => by cases h'; simp [ho]⟩
    have hip : i < p.1.length := by omega
    have hnn := hS.nn hv ht (fun _ h => h) hip
    have hle := hS.le i hip
    have hwin := holW.1 (ht.rul _ (List.mem_of_getElem? (win_rul hip)))
    have hxe : fL s i = x := by simp only [fL]; exact getD_some hx
    have hrq : rq p (i : Int) ∈ p.1 := by
      unfold rq
      exact getD_mem (by omega)
    have h4 := h400 _ hrq
    have hte : t[i]? = some (fL t i) := by simp only [fL]; rw [getD_some (List.getElem?_eq_getElem (show i < t.length by omega))]; exact List.getElem?_eq_getElem _
    have htw := ht.win hv hip
    have hmin := (hv.rnd _ hrq).1
    unfold wS at hle
    have hx400 : 0 ≤ x ∧ x ≤ 400 := by rw [hxe] at hnn hle; omega
    have hbadx := slk_bad hv ht hS hip
    rw [hxe] at hbadx
    simp (disch := omega) only [cd_pos, gd_dec, Int.toNat_natCast, getD_some hte]
    have hul : ∀ z : Int, (t.set i z).length = t.length := fun z => List.length_set
    have htake : ∀ z : Int, List.take t.length (List.drop 0 (t.set i z)) = t.set i z := fun z => by rw [List.drop_zero]; exact List.take_of_length_le (by simp)
    refine bind_ex (fun v : Int × Bool => (v.2 = true ∧ 0 ≤ v.1 ∧ v.1 ≤ x) ∨ (v.2 = false ∧ v.1 = x)) (fun v => (x - v.1).toNat + (if v.2 = true then 2 else 0)) (fun b => b = x) (.inl ⟨rfl, Int.le_refl _, hx400.1⟩) (by simp only [if_true]; omega) ?_ ?_
    · rintro ⟨d, ok⟩ hI
      rcases hI with ⟨h1, h2, h3⟩ | ⟨h1, h2⟩
      · simp only at h1 h2 h3
        subst h1
        left
        have htk : TOk p (t.set i (fL t i + d + 1)) := by
          refine ⟨by rw [List.length_set]; exact htl, fun z hz => ?_⟩
          rcases List.mem_or_eq_of_mem_set hz with hz | rfl
          · exact ht.tok.rng z hz
          · omega
        have hw1 : w64 (fL t i + d) = fL t i + d := w64_in (by omega) (by omega)
        have hw2 : w64 (fL t i + d + 1) = fL t i + d + 1 := w64_in (by omega) (by omega)
        have hw3 : w64 (d + 1) = d + 1 := w64_in (by omega) (by omega)
        simp (disch := omega) only [cond_true, gd_dec, hul, Nat.zero_add, hw1, hw2, hw3, htake, l33 (show 3000 ≤ F by omega) hv htk, Option.bind_some, Nat.le_refl, decide_true, Bool.and_self, gd_true]
        by_cases hd : d = x
        · have hb : (brokS p (t.set i (fL t i + d + 1))).2 = true := by
            cases h : (brokS p (t.set i (fL t i + d + 1))).2 with
            | true => rfl
            | false => exact absurd ((brok_find p _).2.1 h) (by rw [hd]; exact hbadx)
          rw [hb]
          exact ⟨(d, false), rfl, .inr ⟨rfl, hd⟩, by simp⟩
        · have hol := slk_le hv ht hS hip (d := d + 1) (by omega) (by rw [hxe]; omega)
          rw [← Int.add_assoc] at hol
          rw [hol.brok]
          refine ⟨(d + 1, true), rfl, .inl ⟨rfl, by simp only; omega, by simp only; omega⟩, by simp only [if_true]; omega⟩
      · simp only at h1 h2
        subst h1
        exact .inr ⟨d, rfl, h2⟩
    · rintro b rfl
      have hl : (out ++ b :: nilT Int).length = i + 1 := by simp [nilT, ho]
      simp (disch := omega) only [Option.bind_some, gd_dec, hl, w64_in, decide_true, Bool.and_self, gd_true]
      rfl
  · intro out ho
    simp (disch := omega) only [cd_neg, decide_true, Bool.and_self, gd_true, Option.bind_some]
  · rw [goL_append]
    simp only [List.nil_append, List.map_id']
    rw [take_all]
    exact gd_dec (by omega)
theorem law7 (a : Pln × List Int) (hok : AEls.ok [.agg [.seq [.str, .int .i64, .seq [.str], .seq [.str], .seq [.str], .int .i64, .int .i64], .seq [.int .i64, .int .i64, .int .i64], .int .i64], .val (.seq [.int .i64])] a) : ∃ F, c7 F a = some true := by
  obtain ⟨p, t⟩ := a
  obtain ⟨⟨⟨hb1, -⟩, ⟨hb2, -⟩, -⟩, hb3, -⟩ := hok
  refine ⟨roomP p t + 8000, ?_⟩
  have hF0 : roomP p t + 8000 = p.1.length + p.2.1.length + t.length + 4000 + 8000 := rfl
  generalize roomP p t + 8000 = F at hF0
  have hF : 8000 ≤ F := by omega
  unfold c7
  obtain ⟨b, h16, hs⟩ := l16 (F := F) (by omega) (p := p)
  simp only [peta, l14 (F := F) (p := p) (by omega) (by omega) hb1 hb2, Option.bind_some, h16]
  cases b with
  | false => rfl
  | true =>
    have hp := hs rfl
    by_cases hl : t.length ≤ 30
    · simp (disch := omega) only [Bool.not_true, cond_false, Option.bind_some, cd_neg, l45 hF hp, l19 (show 400 ≤ F by omega) hp.sm]
      by_cases he : planE p = 0
      · have hv := PV.of hp he
        simp only [he, decide_true, Bool.not_true, cond_false, if_true, l47 hF hp hv, Option.bind_some]
        have hll : (loadS p).length ≤ 162 * p.1.length := by
          have h1 := (same_load p).res
          have h2 := congrArg List.length h1
          rw [List.length_map] at h2
          have h3 := (skeys_perm (mkeys (mapL p))).length_eq
          have h4 := (mapL_bnd hp hv).len
          unfold mkeys at h3
          rw [List.length_map] at h3
          have h5 : (skeysM (mapL p)).length = (mapL p).length := h3
          omega
        have hn1 := hv.n1
        have e32 := l32 (F := F) (p := p) (t := t) (by omega) (by omega) (by omega)
        refine bind_list (loadS p) (fun (_ : Unit) i => (i : Int)) (fun _ _ => .inl ()) (fun _ => .inr ()) (fun _ _ => True) () (by omega) rfl trivial ?_ ?_ ?_
        · intro i x _ hi hx _
          refine ⟨?_, fun _ _ => trivial⟩
          simp (disch := omega) only [cd_pos, gd_dec, Int.toNat_natCast, getD_some hx, w64_in, beqB, decide_true, Bool.and_self, Bool.not_true, cond_false]
          rfl
        · intro _ _
          simp (disch := omega) only [cd_neg]
        · rw [goL_unit]
          dsimp only [Sum.elim_inr]
          rw [e32, Option.bind_some]
          by_cases hf : formE p t = 0
          · obtain ⟨htk, hrg⟩ := TOk.of hf
            have hs0 : soundE p t = 0 := by unfold soundE; rw [if_pos he]; exact hf
            obtain ⟨k1, k2⟩ := l46 (F := F) (by omega) hp (t := t) (by omega) hs0
            simp only [hf, decide_true, cond_true, l33 (show 3000 ≤ F by omega) hv htk, Option.bind_some]
            cases hb : (brokS p t).2 with
            | true =>
              refine bind_ex (fun v : Int => v = 0) (fun _ => 0) (fun b => b = .inr ()) rfl (by omega) ?_ ?_
              · rintro _ rfl
                refine .inr ⟨.inr (), ?_, rfl⟩
                by_cases h0 : (0 : Int) < (p.1.length : Int)
                · simp [h0]
                · simp [h0]
              · rintro _ rfl
                dsimp only [Sum.elim_inr]
                rw [k1 hb, Option.bind_some]
                have := m24_err (F := F) (b := 29) (w := nilT Int) (by omega)
                simp only [if_true, this]
                rfl
            | false =>
              obtain ⟨s, k3, k4⟩ := k2 hb
              refine bind_any p.1 (fun x => decide (8 < p.1.length ∨ 400 < x.2.2.2.2.2.2 - x.2.2.2.2.2.1)) (.inl true) (.inr ()) (by omega) ?_ ?_ ?_
              · intro i x hi hx
                obtain ⟨r1, r2, r3, r4⟩ := hv.rnd x (List.mem_of_getElem? hx)
                have hi' : (i : Int) < (p.1.length : Int) := by omega
                have hw1 : w64 (x.2.2.2.2.2.2 - x.2.2.2.2.2.1) = x.2.2.2.2.2.2 - x.2.2.2.2.2.1 := w64_in (by omega) (by omega)
                have hw2 : w64 ((i : Int) + 1) = (i : Int) + 1 := w64_in (by omega) (by omega)
                simp (disch := omega) only [cd_pos, gd_dec, Int.toNat_natCast, getD_some hx, hw1, hw2, Bool.false_eq_true, if_false, decide_true, cond_true, Option.bind_some]
                by_cases h8 : 8 < p.1.length
                · have : (8 : Int) < (p.1.length : Int) := by omega
                  simp [h8, this]
                · have : ¬ (8 : Int) < (p.1.length : Int) := by omega
                  by_cases h4 : 400 < x.2.2.2.2.2.2 - x.2.2.2.2.2.1
                  · simp [h8, this, h4]
                  · simp [h8, this, h4]
              · simp (disch := omega) only [cd_neg, Option.bind_some, cond_false]
              · by_cases hany : (p.1.any fun x => decide (8 < p.1.length ∨ 400 < x.2.2.2.2.2.2 - x.2.2.2.2.2.1)) = true
                · rw [if_pos hany]
                  rfl
                · rw [if_neg hany]
                  have h400 : ∀ x ∈ p.1, x.2.2.2.2.2.2 - x.2.2.2.2.2.1 ≤ 400 := by
                    intro x hx
                    apply Classical.byContradiction
                    intro h
                    exact hany (List.any_eq_true.2 ⟨x, hx, decide_eq_true (.inr (by omega))⟩)
                  have hol : Hol p (rulesS p) t := ⟨htk.len, fun i hi => by have := htk.at (a := (i : Int)) (by omega) (by omega); have h2 := hrg (t.getD i 0) (getD_mem (by have := htk.len; omega)); simp only [fL]; omega, (brok_find p t).2.1 hb⟩
                  have e48 := l48 hF hv h400 hol k4
                  have hsl := k4.len
                  dsimp only [Sum.elim_inr]
                  rw [k3, Option.bind_some]
                  simp only [Bool.false_eq_true, if_false, decide_true, Bool.not_true, cond_false, e48, Option.bind_some, m24_ok (F := F) (l := s) (by omega) (by omega)]
          · have hse : soundE p t = formE p t := by unfold soundE; rw [if_pos he]
            have k1 := l46e (F := F) (by omega) hp (t := t) (by omega) (by rw [hse]; exact hf)
            rw [hse] at k1
            simp only [hf, decide_false, cond_false, Option.bind_some]
            refine bind_ex (fun v : Int => v = 0) (fun _ => 0) (fun b => b = .inr ()) rfl (by omega) ?_ ?_
            · rintro _ rfl
              refine .inr ⟨.inr (), ?_, rfl⟩
              by_cases h0 : (0 : Int) < (p.1.length : Int)
              · simp [h0]
              · simp [h0]
            · rintro _ rfl
              dsimp only [Sum.elim_inr]
              rw [k1, Option.bind_some]
              simp only [Bool.not_false, cond_true, m24_err (F := F) (b := formE p t) (w := nilT Int) hf]
              rfl
      · have hse : soundE p t = planE p := by unfold soundE; rw [if_neg he]
        have h46 := l46e (F := F) (by omega) hp (t := t) (by omega) (by rw [hse]; exact he)
        rw [hse] at h46
        simp [he, h46, m24_err he, nilT]
    · simp (disch := omega) only [Bool.not_true, cond_false, Option.bind_some, cd_pos, decide_true]
end Go.Proofs.Tryz

/- Plain law: the bounds, the edges, and what is to be kept apart. Plain law: what the bounds and the edges of some conditions are; the latest beginnings. Plain law: tables checked, ends, in the program and in the reference. Plain law: short plans. Plain law: the days of athletes. Plain law: days and rests, in the program and in the reference. -/
import Derived.Test.YtlfcbhjoldgijaaGreatXT9k
import Derived.Test.YtlfcbhjoldgijaaGreatXT9c
import Derived.Test.YtlfcbhjoldgijaaGreatXSxQh
section
set_option maxRecDepth 100000
set_option linter.unusedVariables false
set_option linter.unusedSimpArgs false
namespace Go.Proofs.Tryz
open Go Go.Sx
theorem x64 {F : Nat} (hF : 4000 ≤ F) {L : List Rul} {ks : List ByteArray} (hL : L.length ≤ 3000) (hk : ks.length ≤ 300) : cx64_0 F (L, ks) = some (L.filter fun r => ks.any fun y => strEq r.1 y) := by
  unfold cx64_0
  refine bind_list L (fun (s : List Rul) i => (s, (i : Int))) (fun r s => .inl (if (ks.any fun y => strEq r.1 y) = true then s ++ [r] else s)) (fun s => s) (fun i s => s.length ≤ i) [] (by omega) rfl (by simp) ?_ ?_ ?_
  · intro i r s hi hr hs
    simp (disch := omega) only [cd_pos, gd_dec, w64_in, Int.toNat_natCast, getD_some hr, take_all, l111 (show 400 ≤ F by omega) hk, Nat.zero_add, Nat.le_refl, decide_true, Bool.and_self, gd_true, Option.bind_some]
    cases hb : ks.any fun y => strEq r.1 y with
    | true =>
      simp (disch := omega) only [cond_true, len_snoc, gd_dec, decide_true, Bool.and_self, gd_true, Option.bind_some, if_true]
      refine ⟨rfl, ?_⟩
      intro s' hs'
      injection hs' with hs'
      rw [← hs', List.length_append, List.length_singleton]
      omega
    | false =>
      simp (disch := omega) only [cond_false, gd_dec, decide_true, Bool.and_self, gd_true, Option.bind_some, if_false, Bool.false_eq_true]
      refine ⟨rfl, ?_⟩
      intro s' hs'
      injection hs' with hs'
      rw [← hs']
      omega
  · intro s hs
    simp (disch := omega) only [cd_neg, decide_true, Bool.and_self, gd_true, Option.bind_some]
  · rw [goL_fold (fun (s : List Rul) (r : Rul) => if (ks.any fun y => strEq r.1 y) = true then s ++ [r] else s)]
    have e : ∀ (M : List Rul) (s : List Rul), M.foldl (fun s r => if (ks.any fun y => strEq r.1 y) = true then s ++ [r] else s) s = s ++ M.filter fun r => ks.any fun y => strEq r.1 y := by
      intro M
      induction M with
      | nil => intro s; simp
      | cons r M ih =>
        intro s
        rw [List.foldl_cons, ih]
        cases hb : ks.any fun y => strEq r.1 y <;> simp [hb]
    rw [e]
    simp only [List.nil_append, take_all, Nat.zero_add, Nat.le_refl, decide_true, Bool.and_self, gd_true]
abbrev OpS := List Int × List Int × List Edg × List Rul
def edgO (p : Pln) (r : Rul) : Edg := (r.2.1, r.2.2.1, (rq p r.2.1).2.1 + r.2.2.2)
def opB (p : Pln) (s : OpS) (r : Rul) : OpS :=
  if strEq r.1 kW = true then (s.1.set r.2.1.toNat (rq p r.2.1).2.2.2.2.2.1, s.2.1.set r.2.1.toNat ((rq p r.2.1).2.2.2.2.2.2 - (rq p r.2.1).2.1), s.2.2.1, s.2.2.2)
  else if strEq r.1 kO = true then (s.1, s.2.1, s.2.2.1 ++ [edgO p r], s.2.2.2) else (s.1, s.2.1, s.2.2.1, s.2.2.2 ++ [r])
def open0 (p : Pln) : OpS := (List.replicate p.1.length 0, List.replicate p.1.length 1099511627776, [], [])
def openS (p : Pln) (L : List Rul) : OpS := L.foldl (opB p) (open0 p)
theorem rep_snoc {α : Type} (n : Nat) (x : α) : List.replicate n x ++ x :: nilT α = List.replicate (n + 1) x := by
  rw [show (x :: nilT α) = [x] from rfl, ← List.replicate_succ']
theorem l63 {F : Nat} (hF : 4000 ≤ F) {p : Pln} (h : PV p) {L : List Rul} (hL : L.length ≤ 3000) (hR : ∀ r ∈ L, RulOk p r) : c63 F (p, L) = some (((openS p L).1, (openS p L).2.1), (openS p L).2.2.1, (openS p L).2.2.2) := by
  unfold c63
  have hn := h.n1
  refine bind_list p.1 (fun (_ : Unit) i => ((), List.replicate i 0, List.replicate i 1099511627776, (i : Int))) (fun _ _ => .inl ()) (fun _ => ((), List.replicate p.1.length 0, List.replicate p.1.length 1099511627776)) (fun _ _ => True) () (by omega) rfl trivial ?_ ?_ ?_
  · intro i x _ hi hx _
    refine ⟨?_, fun _ _ => trivial⟩
    simp (disch := omega) only [cd_pos, rep_snoc, List.length_replicate, gd_dec, w64_in, decide_true, Bool.and_self, gd_true, Option.bind_some]
    exact (congrArg (fun z => Option.bind z _) (gd_join _ _ _ _)).trans ((congrArg (fun z => Option.bind z _) rfl).trans (gd_join _ _ _ _))
  · intro _ _
    simp (disch := omega) only [cd_neg, decide_true, Bool.and_self, gd_true, Option.bind_some, List.length_replicate]
  · rw [goL_unit]
    refine bind_list L (fun (s : OpS) i => (s.1, s.2.1, s.2.2.1, s.2.2.2, (i : Int))) (fun r s => .inl (opB p s r)) (fun s => s) (fun i s => s.1.length = p.1.length ∧ s.2.1.length = p.1.length ∧ s.2.2.1.length ≤ i ∧ s.2.2.2.length ≤ i) (open0 p) (by omega) rfl ⟨by simp [open0], by simp [open0], by simp [open0], by simp [open0]⟩ ?_ ?_ ?_
    · intro i r s hi hr ⟨h1, h2, h3, h4⟩
      obtain ⟨low, high, E, Q⟩ := s
      simp only at h1 h2 h3 h4
      have hro := hR r (List.mem_of_getElem? hr)
      obtain ⟨k, a, b, g⟩ := r
      obtain ⟨hk, ha, hb, hg, _, _⟩ := hro
      simp only at hk ha hb hg
      have b1 := h.at ha.1 ha.2
      simp only [rq, r0] at b1
      simp only [eW, eO]
      refine ⟨?_, ?_⟩
      · unfold opB edgO
        simp only [rq, r0]
        rcases hk with rfl | rfl | rfl | rfl | rfl
        · simp (disch := omega) only [cd_pos, gd_dec, w64_in, Int.toNat_natCast, getD_some hr, sWW, cond_true, if_true, List.length_replicate, List.length_set, Nat.zero_add, decide_true, Bool.and_self, gd_true, Option.bind_some, h1, h2]
          rfl
        · simp (disch := omega) only [cd_pos, gd_dec, w64_in, Int.toNat_natCast, getD_some hr, sOW, sOO, cond_true, cond_false, if_true, if_false, Bool.false_eq_true, len_snoc, List.length_replicate, Nat.zero_add, decide_true, Bool.and_self, gd_true, Option.bind_some, h1, h2]
          rfl
        · simp (disch := omega) only [cd_pos, gd_dec, w64_in, Int.toNat_natCast, getD_some hr, sAW, sAO, cond_true, cond_false, if_true, if_false, Bool.false_eq_true, len_snoc, List.length_replicate, Nat.zero_add, decide_true, Bool.and_self, gd_true, Option.bind_some, h1, h2]
          rfl
        · simp (disch := omega) only [cd_pos, gd_dec, w64_in, Int.toNat_natCast, getD_some hr, sFW, sFO, cond_true, cond_false, if_true, if_false, Bool.false_eq_true, len_snoc, List.length_replicate, Nat.zero_add, decide_true, Bool.and_self, gd_true, Option.bind_some, h1, h2]
          rfl
        · simp (disch := omega) only [cd_pos, gd_dec, w64_in, Int.toNat_natCast, getD_some hr, sTW, sTO, cond_true, cond_false, if_true, if_false, Bool.false_eq_true, len_snoc, List.length_replicate, Nat.zero_add, decide_true, Bool.and_self, gd_true, Option.bind_some, h1, h2]
          rfl
      · intro s' hs'
        injection hs' with hs'
        rw [← hs']
        unfold opB
        split
        · simp only [List.length_set]; omega
        · split
          · simp only [List.length_append, List.length_singleton]; omega
          · simp only [List.length_append, List.length_singleton]; omega
    · intro s ⟨h1, h2, h3, h4⟩
      simp (disch := omega) only [cd_neg, decide_true, Bool.and_self, gd_true, Option.bind_some]
    · rw [goL_fold (opB p)]
      have hl : ∀ (M : List Rul) (s : OpS), (M.foldl (opB p) s).1.length = s.1.length ∧ (M.foldl (opB p) s).2.1.length = s.2.1.length := by
        intro M
        induction M with
        | nil => intro s; exact ⟨rfl, rfl⟩
        | cons r M ih =>
          intro s
          rw [List.foldl_cons]
          obtain ⟨a, b⟩ := ih (opB p s r)
          refine ⟨a.trans ?_, b.trans ?_⟩ <;> (unfold opB; split <;> (try split) <;> simp)
      obtain ⟨q1, q2⟩ := hl L (open0 p)
      have e : L.foldl (opB p) (open0 p) = openS p L := rfl
      rw [e] at q1 q2 ⊢
      have q3 : (openS p L).1.length = p.1.length := by rw [q1]; simp [open0]
      have q4 : (openS p L).2.1.length = p.1.length := by rw [q2]; simp [open0]
      have e1 : List.take p.1.length (List.drop 0 (openS p L).1) = (openS p L).1 := by rw [← q3, List.drop_zero, List.take_length]
      have e2 : List.take p.1.length (List.drop 0 (openS p L).2.1) = (openS p L).2.1 := by rw [← q4, List.drop_zero, List.take_length]
      simp only [List.length_replicate, e1, e2, take_all, Nat.zero_add, Nat.le_refl, q3, q4, decide_true, Bool.and_self, gd_true]
end Go.Proofs.Tryz
end
section
set_option maxRecDepth 100000
set_option linter.unusedVariables false
set_option linter.unusedSimpArgs false
namespace Go.Proofs.Tryz
open Go Go.Sx
def isW (i : Nat) (r : Rul) : Bool := strEq r.1 kW && decide (r.2.1 = (i : Int))
def isO (r : Rul) : Bool := strEq r.1 kO
def isP (r : Rul) : Bool := !strEq r.1 kW && !strEq r.1 kO
theorem opB_len (p : Pln) (s : OpS) (r : Rul) : (opB p s r).1.length = s.1.length ∧ (opB p s r).2.1.length = s.2.1.length := by
  unfold opB
  split
  · simp
  · split <;> simp
theorem fold_opB_len (p : Pln) : ∀ (L : List Rul) (s : OpS), (L.foldl (opB p) s).1.length = s.1.length ∧ (L.foldl (opB p) s).2.1.length = s.2.1.length
  | [], s => ⟨rfl, rfl⟩
  | r :: L, s => by
    rw [List.foldl_cons]
    obtain ⟨a, b⟩ := fold_opB_len p L (opB p s r)
    obtain ⟨c, d⟩ := opB_len p s r
    exact ⟨a.trans c, b.trans d⟩
theorem fold_opB {p : Pln} : ∀ {L : List Rul} {s : OpS}, (∀ r ∈ L, RulOk p r) → s.1.length = p.1.length → s.2.1.length = p.1.length →
    (∀ i, i < p.1.length → (L.foldl (opB p) s).1.getD i 0 = if L.any (isW i) = true then (rq p i).2.2.2.2.2.1 else s.1.getD i 0) ∧
    (∀ i, i < p.1.length → (L.foldl (opB p) s).2.1.getD i 0 = if L.any (isW i) = true then (rq p i).2.2.2.2.2.2 - (rq p i).2.1 else s.2.1.getD i 0) ∧
    (L.foldl (opB p) s).2.2.1 = s.2.2.1 ++ (L.filter isO).map (edgO p) ∧ (L.foldl (opB p) s).2.2.2 = s.2.2.2 ++ L.filter isP
  | [], s, _, _, _ => by simp
  | r :: L, s, hR, h1, h2 => by
    obtain ⟨l1, l2⟩ := opB_len p s r
    obtain ⟨c1, c2, c3, c4⟩ := fold_opB (L := L) (s := opB p s r) (fun r' hr' => hR r' (by simp [hr'])) (l1.trans h1) (l2.trans h2)
    have hr := hR r (by simp)
    obtain ⟨k, a, b, g⟩ := r
    obtain ⟨hk, ha, hb, hg, _, _⟩ := hr
    simp only at hk ha hb hg
    rw [List.foldl_cons]
    have kinds : strEq k kW = true ∨ (strEq k kW = false ∧ (strEq k kO = true ∨ strEq k kO = false)) := by
      cases strEq k kW <;> cases strEq k kO <;> simp
    rcases kinds with hW | ⟨hW, hO⟩
    · have hkW : k = kW := strEq_true.1 hW
      subst hkW
      refine ⟨fun i hi => ?_, fun i hi => ?_, ?_, ?_⟩
      · rw [c1 i hi, List.any_cons]
        simp only [opB, sWW, if_true, isW, Bool.true_and]
        cases L.any (isW i) with
        | true => simp
        | false =>
          have ha' : a.toNat < s.1.length := by omega
          simp only [Bool.false_eq_true, if_false, Bool.or_false, decide_eq_true_eq]
          rw [set_get ha']
          by_cases e : i = a.toNat
          · have e' : a = (i : Int) := by omega
            rw [if_pos e, if_pos e', e']
          · have e' : ¬ a = (i : Int) := by omega
            rw [if_neg e, if_neg e']
      · rw [c2 i hi, List.any_cons]
        simp only [opB, sWW, if_true, isW, Bool.true_and]
        cases L.any (isW i) with
        | true => simp
        | false =>
          have ha' : a.toNat < s.2.1.length := by omega
          simp only [Bool.false_eq_true, if_false, Bool.or_false, decide_eq_true_eq]
          rw [set_get ha']
          by_cases e : i = a.toNat
          · have e' : a = (i : Int) := by omega
            rw [if_pos e, if_pos e', e']
          · have e' : ¬ a = (i : Int) := by omega
            rw [if_neg e, if_neg e']
      · rw [c3]
        simp [opB, sWW, isO, sWO]
      · rw [c4]
        simp [opB, sWW, isP]
    · have nW : ∀ i, isW i (k, a, b, g) = false := fun i => by simp [isW, hW]
      rcases hO with hO | hO
      · refine ⟨fun i hi => ?_, fun i hi => ?_, ?_, ?_⟩
        · rw [c1 i hi, List.any_cons, nW, Bool.false_or]; simp [opB, hW, hO]
        · rw [c2 i hi, List.any_cons, nW, Bool.false_or]; simp [opB, hW, hO]
        · rw [c3]; simp [opB, hW, hO, isO]
        · rw [c4]; simp [opB, hW, hO, isP]
      · refine ⟨fun i hi => ?_, fun i hi => ?_, ?_, ?_⟩
        · rw [c1 i hi, List.any_cons, nW, Bool.false_or]; simp [opB, hW, hO]
        · rw [c2 i hi, List.any_cons, nW, Bool.false_or]; simp [opB, hW, hO]
        · rw [c3]; simp [opB, hW, hO, isO]
        · rw [c4]; simp [opB, hW, hO, isP]
structure OpenOk (p : Pln) (L : List Rul) (s : OpS) : Prop where
  n1 : s.1.length = p.1.length
  n2 : s.2.1.length = p.1.length
  low : ∀ i, i < p.1.length → s.1.getD i 0 = if L.any (isW i) = true then (rq p i).2.2.2.2.2.1 else 0
  high : ∀ i, i < p.1.length → s.2.1.getD i 0 = if L.any (isW i) = true then (rq p i).2.2.2.2.2.2 - (rq p i).2.1 else 1099511627776
  edges : s.2.2.1 = (L.filter isO).map (edgO p)
  apart : s.2.2.2 = L.filter isP
theorem rep_getD {n i : Nat} {x d : Int} (h : i < n) : (List.replicate n x).getD i d = x := by
  rw [List.getD_eq_getElem?_getD, List.getElem?_replicate, if_pos h]
  rfl
theorem openS_ok {p : Pln} {L : List Rul} (hR : ∀ r ∈ L, RulOk p r) : OpenOk p L (openS p L) := by
  obtain ⟨a, b⟩ := fold_opB_len p L (open0 p)
  obtain ⟨c1, c2, c3, c4⟩ := fold_opB (s := open0 p) hR (by simp [open0]) (by simp [open0])
  refine ⟨a.trans (by simp [open0]), b.trans (by simp [open0]), fun i hi => ?_, fun i hi => ?_, c3, c4⟩
  · have := c1 i hi
    rw [show (open0 p).1.getD i 0 = 0 from rep_getD hi] at this
    exact this
  · have := c2 i hi
    rw [show (open0 p).2.1.getD i 0 = 1099511627776 from rep_getD hi] at this
    exact this
def latR (t : List Int) (e : Edg) : List Int := t.set e.1.toNat (if tq t e.2.1 - e.2.2 < tq t e.1 then tq t e.2.1 - e.2.2 else tq t e.1)
def latS (E : List Edg) : Nat → List Int → List Int
  | 0, t => t
  | k + 1, t => latS E k (E.foldl latR t)
def backE (e : Edg) : Edg := (e.2.1, e.1, e.2.2)
def negL (c : Int) (t : List Int) : List Int := t.map fun x => c - x
theorem latR_len (t : List Int) (e : Edg) : (latR t e).length = t.length := by simp [latR]
theorem fold_latR_len : ∀ (E : List Edg) (t : List Int), (E.foldl latR t).length = t.length
  | [], t => rfl
  | e :: E, t => by rw [List.foldl_cons, fold_latR_len E, latR_len]
theorem negL_get {c : Int} {t : List Int} {i : Nat} (h : i < t.length) : (negL c t).getD i 0 = c - t.getD i 0 := by
  unfold negL
  rw [getD_some (x := c - t[i]) (by rw [List.getElem?_map, List.getElem?_eq_getElem h]; rfl), getD_some (List.getElem?_eq_getElem h)]
theorem latR_neg {c : Int} {t : List Int} {e : Edg} {b : Bool} (he : EOk t.length e) : (relax (negL c t, b) (backE e)).1 = negL c (latR t e) := by
  obtain ⟨⟨e1, e2⟩, e3, e4⟩ := he
  have hl : (negL c t).length = t.length := by simp [negL]
  have g1 := negL_get (c := c) (t := t) (i := e.1.toNat) (by omega)
  have g2 := negL_get (c := c) (t := t) (i := e.2.1.toNat) (by omega)
  apply list_ext (by rw [relax_len]; simp [negL, latR_len])
  intro i hi
  rw [relax_len, hl] at hi
  simp only [fL]
  rw [negL_get (by rw [latR_len]; exact hi)]
  unfold relax latR backE
  simp only [tq] at *
  rw [g1, g2]
  rw [set_get (show e.1.toNat < t.length by omega)]
  by_cases hc : c - t.getD e.1.toNat 0 < c - t.getD e.2.1.toNat 0 + e.2.2
  · rw [if_pos hc]
    show ((negL c t).set e.1.toNat _).getD i 0 = _
    rw [set_get (by omega), negL_get hi]
    by_cases hie : i = e.1.toNat
    · rw [if_pos hie, if_pos hie, if_pos (by omega)]; omega
    · rw [if_neg hie, if_neg hie]
  · rw [if_neg hc]
    show (negL c t).getD i 0 = _
    rw [negL_get hi]
    by_cases hie : i = e.1.toNat
    · rw [if_pos hie, if_neg (by omega), hie]
    · rw [if_neg hie]
theorem fold_neg {c : Int} : ∀ {E : List Edg} {t : List Int} {b : Bool}, (∀ e ∈ E, EOk t.length e) → ((E.map backE).foldl relax (negL c t, b)).1 = negL c (E.foldl latR t)
  | [], t, b, _ => rfl
  | e :: E, t, b, hE => by
    rw [List.map_cons, List.foldl_cons, List.foldl_cons]
    have h := latR_neg (c := c) (b := b) (hE e (by simp))
    have hs : relax (negL c t, b) (backE e) = (negL c (latR t e), (relax (negL c t, b) (backE e)).2) := by rw [← h]
    rw [hs]
    exact fold_neg (fun e' he' => by rw [latR_len]; exact hE e' (by simp [he']))
theorem iter_neg {c : Int} {E : List Edg} : ∀ {k : Nat} {t : List Int}, (∀ e ∈ E, EOk t.length e) → iterS (E.map backE) k (negL c t) = negL c (latS E k t)
  | 0, t, _ => rfl
  | k + 1, t, hE => by
    simp only [iterS, latS]
    have h := fold_neg (c := c) (b := false) hE
    rw [show (passS (E.map backE) (negL c t)).1 = negL c (E.foldl latR t) from h]
    exact iter_neg (fun e he => by rw [fold_latR_len]; exact hE e he)
theorem latS_len (E : List Edg) : ∀ (k : Nat) (t : List Int), (latS E k t).length = t.length
  | 0, t => rfl
  | k + 1, t => by simp only [latS]; rw [latS_len E k, fold_latR_len]
def InL (b : Int) (t : List Int) : Prop := ∀ x ∈ t, -b ≤ x ∧ x ≤ 4398046511104
theorem InL.at {b : Int} {t : List Int} (h : InL b t) {i : Nat} (hi : i < t.length) : -b ≤ t.getD i 0 ∧ t.getD i 0 ≤ 4398046511104 := h _ (getD_mem hi)
theorem latR_in {b : Int} {t : List Int} {e : Edg} (h : InL b t) (he : EW t.length e) : InL (b + 5000) (latR t e) := by
  intro x hx
  unfold latR at hx
  rcases List.mem_or_eq_of_mem_set hx with hx | rfl
  · have := h x hx; omega
  · have h1 := h.at (i := e.1.toNat) (by have := he.1.1; omega)
    have h2 := h.at (i := e.2.1.toNat) (by have := he.1.2; omega)
    have := he.2
    simp only [tq]
    split <;> omega
theorem l67 {F : Nat} (hF : 4000 ≤ F) {low high : List Int} {E : List Edg} (hn : high.length ≤ 30) (hE : ∀ e ∈ E, EW high.length e) (hEl : E.length ≤ 3000) (hb : InL 5000 high) : c67 F ((low, high), E) = some (latS E high.length high) := by
  unfold c67
  simp only [l85 (F := F) (show high.length ≤ 1000 by omega), Option.bind_some]
  refine bind_list (List.range high.length) (fun (s : List Int) i => (s, (i : Int))) (fun _ s => .inl (E.foldl latR s)) (fun s => s) (fun i s => s.length = high.length ∧ InL (5000 + 15000000 * i) s) high (by simp; omega) rfl ⟨rfl, fun x hx => by have := hb x hx; omega⟩ ?_ ?_ ?_
  · intro i x s hi hx ⟨hs1, hs2⟩
    simp only [List.length_range] at hi
    have key : loopO _ F (s, (0 : Int)) = some (goL (fun e (s : List Int) => (.inl (latR s e) : List Int ⊕ List Int)) (fun s => s) E s) := loopO_list E (fun (s : List Int) i => (s, (i : Int))) (fun e s => .inl (latR s e)) (fun s => s) (fun j s => s.length = high.length ∧ InL (5000 + 15000000 * i + 5000 * j) s) (step := fun (v22 : List Int × Int) => bif Decidable.decide (v22.2 < (↑(List.length E) : Int)) then (gd (Decidable.decide ((0 : Int) ≤ v22.2)) (gd (Decidable.decide (v22.2 < (↑(List.length E) : Int))) (gd (Decidable.decide (Int.toNat v22.2 < List.length E)) (gd (Decidable.decide ((0 : Int) ≤ Prod.fst (List.getD E (Int.toNat v22.2) ((0 : Int), (0 : Int), (0 : Int))))) (gd (Decidable.decide (Prod.fst (List.getD E (Int.toNat v22.2) ((0 : Int), (0 : Int), (0 : Int))) < (↑(List.length high) : Int))) (gd (Decidable.decide (0 + Int.toNat (Prod.fst (List.getD E (Int.toNat v22.2) ((0 : Int), (0 : Int), (0 : Int)))) < List.length v22.1)) (gd (Decidable.decide ((0 : Int) ≤ Prod.fst (Prod.snd (List.getD E (Int.toNat v22.2) ((0 : Int), (0 : Int), (0 : Int)))))) (gd (Decidable.decide (Prod.fst (Prod.snd (List.getD E (Int.toNat v22.2) ((0 : Int), (0 : Int), (0 : Int)))) < (↑(List.length high) : Int))) (gd (Decidable.decide (0 + Int.toNat (Prod.fst (Prod.snd (List.getD E (Int.toNat v22.2) ((0 : Int), (0 : Int), (0 : Int))))) < List.length v22.1)) (gd (Decidable.decide ((0 : Int) ≤ Prod.fst (List.getD E (Int.toNat v22.2) ((0 : Int), (0 : Int), (0 : Int))))) (gd (Decidable.decide (Prod.fst (List.getD E (Int.toNat v22.2) ((0 : Int), (0 : Int), (0 : Int))) < (↑(List.length high) : Int))) (gd (Decidable.decide (0 + Int.toNat (Prod.fst (List.getD E (Int.toNat v22.2) ((0 : Int), (0 : Int), (0 : Int)))) < List.length v22.1)) (some (Sum.inl (List.set v22.1 (0 + Int.toNat (Prod.fst (List.getD E (Int.toNat v22.2) ((0 : Int), (0 : Int), (0 : Int))))) (if w64 (List.getD v22.1 (0 + Int.toNat (Prod.fst (Prod.snd (List.getD E (Int.toNat v22.2) ((0 : Int), (0 : Int), (0 : Int)))))) (0 : Int) - Prod.snd (Prod.snd (List.getD E (Int.toNat v22.2) ((0 : Int), (0 : Int), (0 : Int))))) < List.getD v22.1 (0 + Int.toNat (Prod.fst (List.getD E (Int.toNat v22.2) ((0 : Int), (0 : Int), (0 : Int))))) (0 : Int) then w64 (List.getD v22.1 (0 + Int.toNat (Prod.fst (Prod.snd (List.getD E (Int.toNat v22.2) ((0 : Int), (0 : Int), (0 : Int)))))) (0 : Int) - Prod.snd (Prod.snd (List.getD E (Int.toNat v22.2) ((0 : Int), (0 : Int), (0 : Int))))) else List.getD v22.1 (0 + Int.toNat (Prod.fst (List.getD E (Int.toNat v22.2) ((0 : Int), (0 : Int), (0 : Int))))) (0 : Int)), w64 (v22.2 + (1 : Int))))))))))))))))) else (some (Sum.inr v22.1))) (by
        intro j e s hj he ⟨k1, k2⟩
        obtain ⟨⟨⟨e1, e2⟩, e3, e4⟩, e5, e6⟩ := hE e (List.mem_of_getElem? he)
        have g1 := k2.at (i := e.1.toNat) (by omega)
        have g2 := k2.at (i := e.2.1.toNat) (by omega)
        refine ⟨?_, ?_⟩
        · simp (disch := omega) only [cd_pos, gd_dec, Int.toNat_natCast, getD_some he, Nat.zero_add, w64_in]
          rfl
        · intro s' hs'
          injection hs' with hs'
          rw [← hs']
          refine ⟨by rw [latR_len]; exact k1, fun x hx => ?_⟩
          have := latR_in k2 ⟨⟨⟨e1, by rw [k1]; exact e2⟩, e3, by rw [k1]; exact e4⟩, e5, e6⟩ x hx
          omega) (by
        intro s _
        simp (disch := omega) only [cd_neg]) rfl ⟨hs1, fun x hx => by have := hs2 x hx; omega⟩ (by omega)
    rw [goL_fold latR] at key
    refine ⟨?_, ?_⟩
    · simp (disch := omega) only [cd_pos, key, Option.bind_some, w64_in]
      rfl
    · intro s' hs'
      injection hs' with hs'
      rw [← hs']
      refine ⟨by rw [fold_latR_len]; exact hs1, ?_⟩
      have : ∀ (E' : List Edg) (b : Int) (s : List Int), (∀ e ∈ E', EW s.length e) → InL b s → InL (b + 5000 * E'.length) (E'.foldl latR s) := by
        intro E'
        induction E' with
        | nil => intro b s _ h; simpa using h
        | cons e E' ih =>
          intro b s hE' h
          rw [List.foldl_cons]
          have := ih (b + 5000) (latR s e) (fun e' he' => by rw [latR_len]; exact hE' e' (by simp [he'])) (latR_in h (hE' e (by simp)))
          intro x hx
          have := this x hx
          rw [List.length_cons]
          omega
      intro x hx
      have := this E (5000 + 15000000 * i) s (fun e he => by rw [hs1]; exact hE e he) hs2 x hx
      omega
  · intro s _
    rw [List.length_range]
    simp (disch := omega) only [cd_neg]
  · rw [goL_fold (fun (s : List Int) (_ : Nat) => E.foldl latR s)]
    have e : ∀ (k m : Nat) (t : List Int), ((List.range' m k).foldl (fun (s : List Int) (_ : Nat) => E.foldl latR s) t) = latS E k t := by
      intro k
      induction k with
      | zero => intro m t; rfl
      | succ k ih => intro m t; rw [List.range'_succ, List.foldl_cons, ih]; rfl
    rw [List.range_eq_range', e]
    have hl := latS_len E high.length high
    have e2 : List.take high.length (List.drop 0 (latS E high.length high)) = latS E high.length high := by rw [List.drop_zero, List.take_of_length_le (by omega)]
    simp only [e2, hl, Nat.zero_add, Nat.le_refl, decide_true, gd_true]
end Go.Proofs.Tryz
end
section
set_option maxRecDepth 100000
set_option linter.unusedVariables false
set_option linter.unusedSimpArgs false
namespace Go.Proofs.Tryz
open Go Go.Sx
def endS (p : Pln) (t : List Int) : Int := goL (fun (x : Rnd × Int) s => .inl (if s < x.2 + x.1.2.1 then x.2 + x.1.2.1 else s)) (fun s => s) (p.1.zip t) 0
theorem zip_get {α β : Type} {l : List α} {m : List β} {i : Nat} {x : α × β} (h : (l.zip m)[i]? = some x) : l[i]? = some x.1 ∧ m[i]? = some x.2 := by
  rw [List.getElem?_zip_eq_some] at h
  exact h
theorem l68 {F : Nat} (hF : 400 ≤ F) {p : Pln} {t : List Int} (h : PV p) (ht : TOk p t) : c68 F (p, t) = some (endS p t) := by
  unfold c68 endS
  have hz : (p.1.zip t).length = p.1.length := by rw [List.length_zip, ht.len]; omega
  have hn := h.n1
  have hl := ht.len
  refine bind_list (p.1.zip t) (fun (s : Int) i => (s, (i : Int))) (fun (x : Rnd × Int) s => .inl (if s < x.2 + x.1.2.1 then x.2 + x.1.2.1 else s)) (fun s => s) (fun _ _ => True) 0 (by omega) rfl trivial ?_ ?_ ?_
  · intro i x s hi hx _
    refine ⟨?_, fun _ _ => trivial⟩
    obtain ⟨hx1, hx2⟩ := zip_get hx
    have b1 := (h.rnd _ (List.mem_of_getElem? hx1)).1
    have b2 := ht.rng _ (List.mem_of_getElem? hx2)
    simp (disch := omega) only [cd_pos, gd_dec, w64_in, Int.toNat_natCast, getD_some hx1, getD_some hx2]
    rfl
  · intro s _
    rw [hz]
    simp (disch := omega) only [cd_neg]
  · rfl
theorem l34 {F : Nat} (hF : 400 ≤ F) {p : Pln} {t : List Int} (h : PV p) (ht : TOk p t) : c34 F (p, t) = some (endS p t) := by
  unfold c34 endS
  have hz : (p.1.zip t).length = p.1.length := by rw [List.length_zip, ht.len]; omega
  have hn := h.n1
  have hl := ht.len
  refine bind_list (p.1.zip t) (fun (s : Int) i => (s, (i : Int))) (fun (x : Rnd × Int) s => .inl (if s < x.2 + x.1.2.1 then x.2 + x.1.2.1 else s)) (fun s => s) (fun _ _ => True) 0 (by omega) rfl trivial ?_ ?_ ?_
  · intro i x s hi hx _
    refine ⟨?_, fun _ _ => trivial⟩
    obtain ⟨hx1, hx2⟩ := zip_get hx
    have b1 := (h.rnd _ (List.mem_of_getElem? hx1)).1
    have b2 := ht.rng _ (List.mem_of_getElem? hx2)
    simp (disch := omega) only [cd_pos, gd_dec, w64_in, Int.toNat_natCast, getD_some hx1, getD_some hx2]
    rfl
  · intro s _
    rw [hz]
    simp (disch := omega) only [cd_neg]
  · rfl
def formE (p : Pln) (t : List Int) : Int := if t.length ≠ p.1.length then 2 else if (t.any fun n => decide (n < 0 ∨ 999999999 < n)) = true then 3 else 0
theorem TOk.of {p : Pln} {t : List Int} (h : formE p t = 0) : TOk p t ∧ ∀ x ∈ t, 0 ≤ x ∧ x ≤ 999999999 := by
  unfold formE at h
  by_cases h0 : t.length = p.1.length
  · simp only [h0, ne_eq, not_true_eq_false, if_false] at h
    have h1 : (t.any fun n => decide (n < 0 ∨ 999999999 < n)) = false := by
      cases e : t.any fun n => decide (n < 0 ∨ 999999999 < n) with
      | false => rfl
      | true => rw [e] at h; cases h
    rw [List.any_eq_false] at h1
    have h2 : ∀ x ∈ t, 0 ≤ x ∧ x ≤ 999999999 := fun x hx => by
      have := h1 x hx
      simp only [decide_eq_true_eq] at this
      omega
    exact ⟨⟨h0, fun x hx => by have := h2 x hx; omega⟩, h2⟩
  · rw [if_pos h0] at h
    cases h
end Go.Proofs.Tryz
end
section
set_option maxRecDepth 100000
set_option linter.unusedVariables false
set_option linter.unusedSimpArgs false
namespace Go.Proofs.Tryz
open Go Go.Sx
def BrOk (l : List ByteArray) : Prop := l.length ≤ 162 ∧ ∀ s ∈ l, s.size ≤ 40
theorem l62 {F : Nat} (hF : 400 ≤ F) {l : List ByteArray} : ∃ b, c62 F l = some b ∧ (b = true → BrOk l) := by
  unfold c62
  have e : (bif decide (8 < (l.length : Int)) then bif decide ((l.length : Int) ≤ 160) then some true else some (decide (162 < (l.length : Int))) else some (decide (162 < (l.length : Int)))) = some (decide (¬ (l.length ≤ 162 ∧ (l.length ≤ 8 ∨ 160 < l.length)))) := by
    by_cases a1 : 8 < (l.length : Int)
    · by_cases a2 : (l.length : Int) ≤ 160
      · simp only [a1, a2, decide_true, cond_true, Option.some.injEq]
        exact (decide_eq_true (by omega)).symm
      · simp only [a1, a2, decide_true, cond_true, decide_false, cond_false, Option.some.injEq, decide_eq_decide]
        omega
    · simp only [a1, decide_false, cond_false, Option.some.injEq, decide_eq_decide]
      omega
  rw [e]
  by_cases hg : l.length ≤ 162 ∧ (l.length ≤ 8 ∨ 160 < l.length)
  · simp only [hg, not_true_eq_false, decide_false, Option.bind_some, cond_false]
    refine bind_all l (fun x => x.size ≤ 40) (fun b : Bool ⊕ Unit => b = .inl false ∨ (b = .inr () ∧ ∀ x ∈ l, x.size ≤ 40)) (by omega) ?_ ?_ ?_
    · intro i x hi hx
      simp (disch := omega) only [cd_pos, gd_dec, Int.toNat_natCast, getD_some hx, w64_in]
      by_cases a1 : (40 : Int) < x.size
      · exact ⟨_, by simp [a1], .inr ⟨_, rfl, .inl rfl⟩⟩
      · exact ⟨_, by simp [a1], .inl ⟨rfl, by omega⟩⟩
    · intro hgood
      simp (disch := omega) only [cd_neg]
      exact ⟨_, rfl, .inr ⟨rfl, hgood⟩⟩
    · intro b hb
      rcases hb with rfl | ⟨rfl, h2⟩
      · exact ⟨false, rfl, by simp⟩
      · exact ⟨true, rfl, fun _ => ⟨hg.1, h2⟩⟩
  · simp only [hg, not_false_eq_true, decide_true, Option.bind_some, cond_true]
    exact ⟨false, rfl, by simp⟩
def RShort (x : Rnd) : Prop := x.1.size ≤ 40 ∧ BrOk x.2.2.1 ∧ BrOk x.2.2.2.1 ∧ BrOk x.2.2.2.2.1
theorem l16 {F : Nat} (hF : 400 ≤ F) {p : Pln} : ∃ b, c16 F p = some b ∧ (b = true → PShort p) := by
  unfold c16
  by_cases h1 : (26 : Int) < p.1.length
  · exact ⟨false, by simp [h1], by simp⟩
  · by_cases h2 : (28 : Int) < p.2.1.length
    · exact ⟨false, by simp [h1, h2], by simp⟩
    · simp only [h1, h2, decide_false, cond_false, Option.bind_some]
      refine bind_all p.1 RShort (fun b : Bool ⊕ Unit => b = .inl false ∨ (b = .inr () ∧ ∀ x ∈ p.1, RShort x)) (by omega) ?_ ?_ ?_
      · intro i x hi hx
        obtain ⟨b1, e1, q1⟩ := l62 hF (l := x.2.2.1)
        obtain ⟨b2, e2, q2⟩ := l62 hF (l := x.2.2.2.1)
        obtain ⟨b3, e3, q3⟩ := l62 hF (l := x.2.2.2.2.1)
        simp (disch := omega) only [cd_pos, gd_dec, Int.toNat_natCast, getD_some hx, w64_in, e1, e2, e3, Option.bind_some]
        by_cases a1 : (40 : Int) < x.1.size
        · exact ⟨_, by simp [a1], .inr ⟨_, rfl, .inl rfl⟩⟩
        · cases b1 with
          | false => exact ⟨_, by simp [a1], .inr ⟨_, rfl, .inl rfl⟩⟩
          | true => cases b2 with
            | false => exact ⟨_, by simp [a1], .inr ⟨_, rfl, .inl rfl⟩⟩
            | true => cases b3 with
              | false => exact ⟨_, by simp [a1], .inr ⟨_, rfl, .inl rfl⟩⟩
              | true => exact ⟨_, by simp [a1], .inl ⟨rfl, by omega, q1 rfl, q2 rfl, q3 rfl⟩⟩
      · intro hgood
        simp (disch := omega) only [cd_neg]
        exact ⟨_, rfl, .inr ⟨rfl, hgood⟩⟩
      · intro b hb
        rcases hb with rfl | ⟨rfl, h3⟩
        · exact ⟨false, rfl, by simp⟩
        · refine ⟨true, rfl, fun _ => ⟨by omega, by omega, fun x hx => ?_⟩⟩
          obtain ⟨c0, c1, c2, c3⟩ := h3 x hx
          refine ⟨c0, fun l hl => ?_⟩
          rcases hl with rfl | rfl | rfl
          · exact c1
          · exact c2
          · exact c3
end Go.Proofs.Tryz
end
section
set_option maxRecDepth 100000
set_option linter.unusedVariables false
set_option linter.unusedSimpArgs false
namespace Go.Proofs.Tryz
open Go Go.Sx
end Go.Proofs.Tryz
end
section
set_option maxRecDepth 100000
set_option linter.unusedVariables false
set_option linter.unusedSimpArgs false
namespace Go.Proofs.Tryz
open Go Go.Sx
end Go.Proofs.Tryz
end

/- Plain law: what the bounds and the edges of some conditions are; the latest beginnings. Plain law: tables checked, ends, in the program and in the reference. Plain law: short plans. Plain law: the days of athletes. Plain law: days and rests, in the program and in the reference. Plain law: windows and chains, in the program. Plain law: windows and chains, in the reference; both are the same. Plain law: the windows of the program are those of the reference. Plain law: the reference's copy of a plan. -/
import Derived.Test.YtlfcbhjoldgijaaGreatXT9k
import Derived.Test.YtlfcbhjoldgijaaGreatXT9c
import Derived.Test.YtlfcbhjoldgijaaGreatXSxQh
section
set_option maxRecDepth 100000
set_option linter.unusedVariables false
set_option linter.unusedSimpArgs false
namespace Go.Proofs.Tryz
open Go Go.Sx
def isW (i : Nat) (r : Rul) : Bool := strEq r.1 kW && decide (r.2.1 = (i : Int))
def isO (r : Rul) : Bool := strEq r.1 kO
def isP (r : Rul) : Bool := !strEq r.1 kW && !strEq r.1 kO
theorem opB_len (p : Pln) (s : OpS) (r : Rul) : (opB p s r).1.length = s.1.length ∧ (opB p s r).2.1.length = s.2.1.length := by
  unfold opB
  split
  · simp
  · split <;> simp
theorem fold_opB_len (p : Pln) : ∀ (L : List Rul) (s : OpS), (L.foldl (opB p) s).1.length = s.1.length ∧ (L.foldl (opB p) s).2.1.length = s.2.1.length
  | [], s => ⟨rfl, rfl⟩
  | r :: L, s => by
    rw [List.foldl_cons]
    obtain ⟨a, b⟩ := fold_opB_len p L (opB p s r)
    obtain ⟨c, d⟩ := opB_len p s r
    exact ⟨a.trans c, b.trans d⟩
theorem fold_opB {p : Pln} : ∀ {L : List Rul} {s : OpS}, (∀ r ∈ L, RulOk p r) → s.1.length = p.1.length → s.2.1.length = p.1.length →
    (∀ i, i < p.1.length → (L.foldl (opB p) s).1.getD i 0 = if L.any (isW i) = true then (rq p i).2.2.2.2.2.1 else s.1.getD i 0) ∧
    (∀ i, i < p.1.length → (L.foldl (opB p) s).2.1.getD i 0 = if L.any (isW i) = true then (rq p i).2.2.2.2.2.2 - (rq p i).2.1 else s.2.1.getD i 0) ∧
    (L.foldl (opB p) s).2.2.1 = s.2.2.1 ++ (L.filter isO).map (edgO p) ∧ (L.foldl (opB p) s).2.2.2 = s.2.2.2 ++ L.filter isP
  | [], s, _, _, _ => by simp
  | r :: L, s, hR, h1, h2 => by
    obtain ⟨l1, l2⟩ := opB_len p s r
    obtain ⟨c1, c2, c3, c4⟩ := fold_opB (L := L) (s := opB p s r) (fun r' hr' => hR r' (by simp [hr'])) (l1.trans h1) (l2.trans h2)
    have hr := hR r (by simp)
    obtain ⟨k, a, b, g⟩ := r
    obtain ⟨hk, ha, hb, hg, _, _⟩ := hr
    simp only at hk ha hb hg
    rw [List.foldl_cons]
    have kinds : strEq k kW = true ∨ (strEq k kW = false ∧ (strEq k kO = true ∨ strEq k kO = false)) := by
      cases strEq k kW <;> cases strEq k kO <;> simp
    rcases kinds with hW | ⟨hW, hO⟩
    · have hkW : k = kW := strEq_true.1 hW
      subst hkW
      refine ⟨fun i hi => ?_, fun i hi => ?_, ?_, ?_⟩
      · rw [c1 i hi, List.any_cons]
        simp only [opB, sWW, if_true, isW, Bool.true_and]
        cases L.any (isW i) with
        | true => simp
        | false =>
          have ha' : a.toNat < s.1.length := by omega
          simp only [Bool.false_eq_true, if_false, Bool.or_false, decide_eq_true_eq]
          rw [set_get ha']
          by_cases e : i = a.toNat
          · have e' : a = (i : Int) := by omega
            rw [if_pos e, if_pos e', e']
          · have e' : ¬ a = (i : Int) := by omega
            rw [if_neg e, if_neg e']
      · rw [c2 i hi, List.any_cons]
        simp only [opB, sWW, if_true, isW, Bool.true_and]
        cases L.any (isW i) with
        | true => simp
        | false =>
          have ha' : a.toNat < s.2.1.length := by omega
          simp only [Bool.false_eq_true, if_false, Bool.or_false, decide_eq_true_eq]
          rw [set_get ha']
          by_cases e : i = a.toNat
          · have e' : a = (i : Int) := by omega
            rw [if_pos e, if_pos e', e']
          · have e' : ¬ a = (i : Int) := by omega
            rw [if_neg e, if_neg e']
      · rw [c3]
        simp [opB, sWW, isO, sWO]
      · rw [c4]
        simp [opB, sWW, isP]
    · have nW : ∀ i, isW i (k, a, b, g) = false := fun i => by simp [isW, hW]
      rcases hO with hO | hO
      · refine ⟨fun i hi => ?_, fun i hi => ?_, ?_, ?_⟩
        · rw [c1 i hi, List.any_cons, nW, Bool.false_or]; simp [opB, hW, hO]
        · rw [c2 i hi, List.any_cons, nW, Bool.false_or]; simp [opB, hW, hO]
        · rw [c3]; simp [opB, hW, hO, isO]
        · rw [c4]; simp [opB, hW, hO, isP]
      · refine ⟨fun i hi => ?_, fun i hi => ?_, ?_, ?_⟩
        · rw [c1 i hi, List.any_cons, nW, Bool.false_or]; simp [opB, hW, hO]
        · rw [c2 i hi, List.any_cons, nW, Bool.false_or]; simp [opB, hW, hO]
        · rw [c3]; simp [opB, hW, hO, isO]
        · rw [c4]; simp [opB, hW, hO, isP]
structure OpenOk (p : Pln) (L : List Rul) (s : OpS) : Prop where
  n1 : s.1.length = p.1.length
  n2 : s.2.1.length = p.1.length
  low : ∀ i, i < p.1.length → s.1.getD i 0 = if L.any (isW i) = true then (rq p i).2.2.2.2.2.1 else 0
  high : ∀ i, i < p.1.length → s.2.1.getD i 0 = if L.any (isW i) = true then (rq p i).2.2.2.2.2.2 - (rq p i).2.1 else 1099511627776
  edges : s.2.2.1 = (L.filter isO).map (edgO p)
  apart : s.2.2.2 = L.filter isP
theorem rep_getD {n i : Nat} {x d : Int} (h : i < n) : (List.replicate n x).getD i d = x := by
  rw [List.getD_eq_getElem?_getD, List.getElem?_replicate, if_pos h]
  rfl
theorem openS_ok {p : Pln} {L : List Rul} (hR : ∀ r ∈ L, RulOk p r) : OpenOk p L (openS p L) := by
  obtain ⟨a, b⟩ := fold_opB_len p L (open0 p)
  obtain ⟨c1, c2, c3, c4⟩ := fold_opB (s := open0 p) hR (by simp [open0]) (by simp [open0])
  refine ⟨a.trans (by simp [open0]), b.trans (by simp [open0]), fun i hi => ?_, fun i hi => ?_, c3, c4⟩
  · have := c1 i hi
    rw [show (open0 p).1.getD i 0 = 0 from rep_getD hi] at this
    exact this
  · have := c2 i hi
    rw [show (open0 p).2.1.getD i 0 = 1099511627776 from rep_getD hi] at this
    exact this
theorem edgO_ew {p : Pln} (h : PV p) {r : Rul} (hr : RulOk p r) : EW p.1.length (edgO p r) := by
  have b := (h.at hr.a.1 hr.a.2).1
  have g := hr.gap
  refine ⟨⟨hr.a, hr.b⟩, ?_, ?_⟩
  · simp only [edgO]; omega
  · simp only [edgO]; omega
theorem OpenOk.ew {p : Pln} (h : PV p) {L : List Rul} {s : OpS} (ho : OpenOk p L s) (hR : ∀ r ∈ L, RulOk p r) : ∀ e ∈ s.2.2.1, EW p.1.length e := by
  intro e he
  rw [ho.edges] at he
  obtain ⟨r, hr, rfl⟩ := List.mem_map.1 he
  exact edgO_ew h (hR r (List.mem_filter.1 hr).1)
theorem OpenOk.lowB {p : Pln} (h : PV p) {L : List Rul} {s : OpS} (ho : OpenOk p L s) : InB 20000 s.1 := by
  intro x hx
  obtain ⟨i, hi, rfl⟩ := List.mem_iff_getElem.1 hx
  have hi' : i < p.1.length := by rw [← ho.n1]; exact hi
  have e := ho.low i hi'
  rw [getD_some (List.getElem?_eq_getElem hi)] at e
  rw [e]
  have b := (h.at (a := (i : Int)) (by omega) (by omega)).2.1
  split
  · exact b
  · omega
def InL (b : Int) (t : List Int) : Prop := ∀ x ∈ t, -b ≤ x ∧ x ≤ 4398046511104
theorem InL.at {b : Int} {t : List Int} (h : InL b t) {i : Nat} (hi : i < t.length) : -b ≤ t.getD i 0 ∧ t.getD i 0 ≤ 4398046511104 := h _ (getD_mem hi)
end Go.Proofs.Tryz
end
section
set_option maxRecDepth 100000
set_option linter.unusedVariables false
set_option linter.unusedSimpArgs false
namespace Go.Proofs.Tryz
open Go Go.Sx
theorem gd_bool {x : Bool} {X : Type} (r : Option X) : gd (AEls.eqv (ATy.val Ty.bool :: nilT ATy) x x) r = r := gd_args _ _ _
theorem condS_get {p : Pln} {i : Nat} {r : Rul} (hr : (rulesS p)[i]? = some r) : (condS p)[i]? = some (r.1, r.2.1, r.2.2.1) := by
  unfold condS
  rw [List.getElem?_map, hr]
  rfl
theorem condS_len (p : Pln) : (condS p).length = (rulesS p).length := by unfold condS; rw [List.length_map]
theorem or_cond {a b : Prop} [Decidable a] [Decidable b] : (bif decide a then some true else some (decide b)) = some (decide a || decide b) := by
  by_cases h : a <;> simp [h]
theorem l81 {F : Nat} (hF : 3000 ≤ F) {p : Pln} {t : List Int} (h : PV p) (ht : TOk p t) {i : Nat} {r : Rul} (hr : (rulesS p)[i]? = some r) : c81 F (p, t, (i : Int)) = some (holdS p t r) := by
  have hc := condS_get hr
  have hcl := condS_len p
  have hil := (List.getElem?_eq_some_iff.1 hr).1
  have hl := rulesS_len h.sh.1 h.sh.2.1
  obtain ⟨hk, ha, hb, hg, _, _⟩ := h.rul hr
  obtain ⟨g1, g2, g3⟩ := rul_gap hr
  obtain ⟨k, a, b, g⟩ := r
  simp only at hk ha hb hg g1 g2 g3 hc
  unfold c81 holdS
  simp only [eW, eO, eA, eF, eT]
  have e1 := ht.at ha.1 ha.2
  have e2 := ht.at hb.1 hb.2
  have e3 := h.at ha.1 ha.2
  have e4 := (h.at hb.1 hb.2).1
  have e5 := h.rest
  have hlen := ht.len
  simp only [tq, rq, r0] at e1 e2 e3 e4
  simp (disch := omega) only [peta, l37 (show 400 ≤ F by omega) h.sh, Option.bind_some, gd_dec, Int.toNat_natCast, getD_some hc]
  rcases hk with rfl | rfl | rfl | rfl | rfl
  · simp only [sWW, cond_true, if_true, winS, tq, rq, r0]
    by_cases h5 : (p.1.getD a.toNat (ByteArray.empty, (0 : Int), nilT ByteArray, nilT ByteArray, nilT ByteArray, (0 : Int), (0 : Int))).2.2.2.2.2.1 ≤ t.getD a.toNat 0
    · simp (disch := omega) only [h5, decide_true, cond_true, true_and, Option.bind_some, gd_dec, w64_in, gd_bool]
    · simp (disch := omega) only [h5, decide_false, cond_false, false_and, Option.bind_some, gd_dec, w64_in, gd_bool]
  · obtain ⟨hni, o, ho, hgo⟩ := g1 rfl
    have hol := (List.getElem?_eq_some_iff.1 ho).1
    have en : ((i : Int) - (p.1.length : Int)).toNat = i - p.1.length := by omega
    have hn := h.n1
    subst hgo
    simp (disch := omega) only [sOW, sOO, cond_true, cond_false, if_true, if_false, Bool.false_eq_true, befS, tq, rq, r0, w64_in, en, getD_some ho, gd_dec, Option.bind_some, gd_bool]
  · obtain rfl := g3 (.inl rfl)
    simp (disch := omega) only [sAW, sAO, sAT, cond_true, cond_false, if_true, if_false, Bool.false_eq_true, befS, tq, rq, r0, w64_in, gd_dec, Option.bind_some, or_cond, gd_bool]
  · obtain rfl := g3 (.inr rfl)
    simp (disch := omega) only [sFW, sFO, sFT, cond_true, cond_false, if_true, if_false, Bool.false_eq_true, befS, tq, rq, r0, w64_in, gd_dec, Option.bind_some, or_cond, gd_bool]
  · obtain rfl := g2 rfl
    simp (disch := omega) only [sTW, sTO, sTT, cond_true, cond_false, if_true, if_false, Bool.false_eq_true, befS, tq, rq, r0, w64_in, gd_dec, Option.bind_some, or_cond, gd_bool]
theorem l33 {F : Nat} (hF : 3000 ≤ F) {p : Pln} {t : List Int} (h : PV p) (ht : TOk p t) : c33 F (p, t) = some ((brokS p t).1, if (brokS p t).2 = true then 29 else 0) := by
  unfold c33
  have hl := rulesS_len h.sh.1 h.sh.2.1
  have hcl := condS_len p
  simp only [peta, l37 (show 400 ≤ F by omega) h.sh, Option.bind_some]
  refine bind_list (rulesS p) (fun (_ : Nat) i => (i : Int)) (fun r (s : Nat) => if (!holdS p t r) = true then .inr (.inl ((s : Int), 29)) else .inl (s + 1)) (fun _ => .inr ()) (fun i s => s = i) 0 (by omega) rfl rfl ?_ ?_ ?_
  · intro i r s hi hr hs
    subst hs
    simp (disch := omega) only [cd_pos, w64_in, l81 hF h ht hr, Option.bind_some]
    cases holdS p t r <;> simp
  · intro s hs
    simp (disch := omega) only [cd_neg]
  · rw [goL_find (fun r => !holdS p t r) (fun s => (Sum.inl ((s : Int), (29 : Int)) : Int × Int ⊕ Unit)) (Sum.inr ())]
    unfold brokS
    cases (rulesS p).findIdx? fun r => !holdS p t r with
    | none => simp [hcl]
    | some i => simp
def endS (p : Pln) (t : List Int) : Int := goL (fun (x : Rnd × Int) s => .inl (if s < x.2 + x.1.2.1 then x.2 + x.1.2.1 else s)) (fun s => s) (p.1.zip t) 0
theorem zip_get {α β : Type} {l : List α} {m : List β} {i : Nat} {x : α × β} (h : (l.zip m)[i]? = some x) : l[i]? = some x.1 ∧ m[i]? = some x.2 := by
  rw [List.getElem?_zip_eq_some] at h
  exact h
theorem l68 {F : Nat} (hF : 400 ≤ F) {p : Pln} {t : List Int} (h : PV p) (ht : TOk p t) : c68 F (p, t) = some (endS p t) := by
  unfold c68 endS
  have hz : (p.1.zip t).length = p.1.length := by rw [List.length_zip, ht.len]; omega
  have hn := h.n1
  have hl := ht.len
  refine bind_list (p.1.zip t) (fun (s : Int) i => (s, (i : Int))) (fun (x : Rnd × Int) s => .inl (if s < x.2 + x.1.2.1 then x.2 + x.1.2.1 else s)) (fun s => s) (fun _ _ => True) 0 (by omega) rfl trivial ?_ ?_ ?_
  · intro i x s hi hx _
    refine ⟨?_, fun _ _ => trivial⟩
    obtain ⟨hx1, hx2⟩ := zip_get hx
    have b1 := (h.rnd _ (List.mem_of_getElem? hx1)).1
    have b2 := ht.rng _ (List.mem_of_getElem? hx2)
    simp (disch := omega) only [cd_pos, gd_dec, w64_in, Int.toNat_natCast, getD_some hx1, getD_some hx2]
    rfl
  · intro s _
    rw [hz]
    simp (disch := omega) only [cd_neg]
  · rfl
theorem l34 {F : Nat} (hF : 400 ≤ F) {p : Pln} {t : List Int} (h : PV p) (ht : TOk p t) : c34 F (p, t) = some (endS p t) := by
  unfold c34 endS
  have hz : (p.1.zip t).length = p.1.length := by rw [List.length_zip, ht.len]; omega
  have hn := h.n1
  have hl := ht.len
  refine bind_list (p.1.zip t) (fun (s : Int) i => (s, (i : Int))) (fun (x : Rnd × Int) s => .inl (if s < x.2 + x.1.2.1 then x.2 + x.1.2.1 else s)) (fun s => s) (fun _ _ => True) 0 (by omega) rfl trivial ?_ ?_ ?_
  · intro i x s hi hx _
    refine ⟨?_, fun _ _ => trivial⟩
    obtain ⟨hx1, hx2⟩ := zip_get hx
    have b1 := (h.rnd _ (List.mem_of_getElem? hx1)).1
    have b2 := ht.rng _ (List.mem_of_getElem? hx2)
    simp (disch := omega) only [cd_pos, gd_dec, w64_in, Int.toNat_natCast, getD_some hx1, getD_some hx2]
    rfl
  · intro s _
    rw [hz]
    simp (disch := omega) only [cd_neg]
  · rfl
def formE (p : Pln) (t : List Int) : Int := if t.length ≠ p.1.length then 2 else if (t.any fun n => decide (n < 0 ∨ 999999999 < n)) = true then 3 else 0
theorem l32 {F : Nat} (hF : 400 ≤ F) {p : Pln} {t : List Int} (hn : p.1.length ≤ 26) (hl : t.length ≤ 300) : c32 F (p, t) = some (formE p t) := by
  unfold c32 formE
  by_cases h0 : t.length = p.1.length
  · have : (t.length : Int) = p.1.length := by omega
    simp only [h0, decide_true, Bool.not_true, cond_false, ne_eq, not_true_eq_false, if_false]
    refine bind_any t (fun n => decide (n < 0 ∨ 999999999 < n)) (.inl 3) (.inr ()) (by omega) ?_ ?_ ?_
    · intro i x hi hx
      simp (disch := omega) only [cd_pos, gd_dec, w64_in, Int.toNat_natCast, getD_some hx, l71, Option.bind_some]
      by_cases h1 : x < 0 ∨ 999999999 < x <;> simp [h1]
    · simp (disch := omega) only [cd_neg]
    · cases t.any fun n => decide (n < 0 ∨ 999999999 < n) <;> simp
  · have : ¬ (t.length : Int) = p.1.length := by omega
    simp [h0, this]
theorem TOk.of {p : Pln} {t : List Int} (h : formE p t = 0) : TOk p t ∧ ∀ x ∈ t, 0 ≤ x ∧ x ≤ 999999999 := by
  unfold formE at h
  by_cases h0 : t.length = p.1.length
  · simp only [h0, ne_eq, not_true_eq_false, if_false] at h
    have h1 : (t.any fun n => decide (n < 0 ∨ 999999999 < n)) = false := by
      cases e : t.any fun n => decide (n < 0 ∨ 999999999 < n) with
      | false => rfl
      | true => rw [e] at h; cases h
    rw [List.any_eq_false] at h1
    have h2 : ∀ x ∈ t, 0 ≤ x ∧ x ≤ 999999999 := fun x hx => by
      have := h1 x hx
      simp only [decide_eq_true_eq] at this
      omega
    exact ⟨⟨h0, fun x hx => by have := h2 x hx; omega⟩, h2⟩
  · rw [if_pos h0] at h
    cases h
end Go.Proofs.Tryz
end
section
set_option maxRecDepth 100000
set_option linter.unusedVariables false
set_option linter.unusedSimpArgs false
namespace Go.Proofs.Tryz
open Go Go.Sx
def BrOk (l : List ByteArray) : Prop := l.length ≤ 162 ∧ ∀ s ∈ l, s.size ≤ 40
theorem l62 {F : Nat} (hF : 400 ≤ F) {l : List ByteArray} : ∃ b, c62 F l = some b ∧ (b = true → BrOk l) := by
  unfold c62
  have e : (bif decide (8 < (l.length : Int)) then bif decide ((l.length : Int) ≤ 160) then some true else some (decide (162 < (l.length : Int))) else some (decide (162 < (l.length : Int)))) = some (decide (¬ (l.length ≤ 162 ∧ (l.length ≤ 8 ∨ 160 < l.length)))) := by
    by_cases a1 : 8 < (l.length : Int)
    · by_cases a2 : (l.length : Int) ≤ 160
      · simp only [a1, a2, decide_true, cond_true, Option.some.injEq]
        exact (decide_eq_true (by omega)).symm
      · simp only [a1, a2, decide_true, cond_true, decide_false, cond_false, Option.some.injEq, decide_eq_decide]
        omega
    · simp only [a1, decide_false, cond_false, Option.some.injEq, decide_eq_decide]
      omega
  rw [e]
  by_cases hg : l.length ≤ 162 ∧ (l.length ≤ 8 ∨ 160 < l.length)
  · simp only [hg, not_true_eq_false, decide_false, Option.bind_some, cond_false]
    refine bind_all l (fun x => x.size ≤ 40) (fun b : Bool ⊕ Unit => b = .inl false ∨ (b = .inr () ∧ ∀ x ∈ l, x.size ≤ 40)) (by omega) ?_ ?_ ?_
    · intro i x hi hx
      simp (disch := omega) only [cd_pos, gd_dec, Int.toNat_natCast, getD_some hx, w64_in]
      by_cases a1 : (40 : Int) < x.size
      · exact ⟨_, by simp [a1], .inr ⟨_, rfl, .inl rfl⟩⟩
      · exact ⟨_, by simp [a1], .inl ⟨rfl, by omega⟩⟩
    · intro hgood
      simp (disch := omega) only [cd_neg]
      exact ⟨_, rfl, .inr ⟨rfl, hgood⟩⟩
    · intro b hb
      rcases hb with rfl | ⟨rfl, h2⟩
      · exact ⟨false, rfl, by simp⟩
      · exact ⟨true, rfl, fun _ => ⟨hg.1, h2⟩⟩
  · simp only [hg, not_false_eq_true, decide_true, Option.bind_some, cond_true]
    exact ⟨false, rfl, by simp⟩
def RShort (x : Rnd) : Prop := x.1.size ≤ 40 ∧ BrOk x.2.2.1 ∧ BrOk x.2.2.2.1 ∧ BrOk x.2.2.2.2.1
theorem l16 {F : Nat} (hF : 400 ≤ F) {p : Pln} : ∃ b, c16 F p = some b ∧ (b = true → PShort p) := by
  unfold c16
  by_cases h1 : (26 : Int) < p.1.length
  · exact ⟨false, by simp [h1], by simp⟩
  · by_cases h2 : (28 : Int) < p.2.1.length
    · exact ⟨false, by simp [h1, h2], by simp⟩
    · simp only [h1, h2, decide_false, cond_false, Option.bind_some]
      refine bind_all p.1 RShort (fun b : Bool ⊕ Unit => b = .inl false ∨ (b = .inr () ∧ ∀ x ∈ p.1, RShort x)) (by omega) ?_ ?_ ?_
      · intro i x hi hx
        obtain ⟨b1, e1, q1⟩ := l62 hF (l := x.2.2.1)
        obtain ⟨b2, e2, q2⟩ := l62 hF (l := x.2.2.2.1)
        obtain ⟨b3, e3, q3⟩ := l62 hF (l := x.2.2.2.2.1)
        simp (disch := omega) only [cd_pos, gd_dec, Int.toNat_natCast, getD_some hx, w64_in, e1, e2, e3, Option.bind_some]
        by_cases a1 : (40 : Int) < x.1.size
        · exact ⟨_, by simp [a1], .inr ⟨_, rfl, .inl rfl⟩⟩
        · cases b1 with
          | false => exact ⟨_, by simp [a1], .inr ⟨_, rfl, .inl rfl⟩⟩
          | true => cases b2 with
            | false => exact ⟨_, by simp [a1], .inr ⟨_, rfl, .inl rfl⟩⟩
            | true => cases b3 with
              | false => exact ⟨_, by simp [a1], .inr ⟨_, rfl, .inl rfl⟩⟩
              | true => exact ⟨_, by simp [a1], .inl ⟨rfl, by omega, q1 rfl, q2 rfl, q3 rfl⟩⟩
      · intro hgood
        simp (disch := omega) only [cd_neg]
        exact ⟨_, rfl, .inr ⟨rfl, hgood⟩⟩
      · intro b hb
        rcases hb with rfl | ⟨rfl, h3⟩
        · exact ⟨false, rfl, by simp⟩
        · refine ⟨true, rfl, fun _ => ⟨by omega, by omega, fun x hx => ?_⟩⟩
          obtain ⟨c0, c1, c2, c3⟩ := h3 x hx
          refine ⟨c0, fun l hl => ?_⟩
          rcases hl with rfl | rfl | rfl
          · exact c1
          · exact c2
          · exact c3
end Go.Proofs.Tryz
end
section
set_option maxRecDepth 100000
set_option linter.unusedVariables false
set_option linter.unusedSimpArgs false
namespace Go.Proofs.Tryz
open Go Go.Sx
theorem bind_inv {σ β γ : Type} {step : σ → Option (σ ⊕ β)} {F : Nat} {t : σ} {k : β → Option γ} {P : γ → Prop} (Inv : σ → Prop) (m : σ → Nat) (Post : β → Prop)
    (h : ∀ x, Inv x → (∃ y, step x = some (.inl y) ∧ Inv y ∧ m y < m x) ∨ ∃ b, step x = some (.inr b) ∧ Post b) (h0 : Inv t) (hF : m t < F) (hk : ∀ b, Post b → ∃ r, k b = some r ∧ P r) : ∃ r, Option.bind (loopO step F t) k = some r ∧ P r := by
  obtain ⟨b, h1, h2⟩ := loopO_ex Inv m Post h F t h0 hF
  rw [h1]
  exact hk b h2
theorem l117 (F : Nat) (a b : Int) : c117 F (a, b) = some (if a < b then -1 else if b < a then 1 else 0) := by
  unfold c117
  by_cases h : a < b
  · simp [h]
  · by_cases h2 : b < a <;> simp [h, h2]
end Go.Proofs.Tryz
end
section
set_option maxRecDepth 100000
set_option linter.unusedVariables false
set_option linter.unusedSimpArgs false
namespace Go.Proofs.Tryz
open Go Go.Sx
end Go.Proofs.Tryz
end
section
set_option maxRecDepth 100000
set_option linter.unusedVariables false
set_option linter.unusedSimpArgs false
namespace Go.Proofs.Tryz
open Go Go.Sx
def edgL (p : Pln) : List Edg := p.2.1.map fun o => (o.1, o.2.1, (rq p o.1).2.1 + o.2.2)
theorem PV.rulM {p : Pln} (h : PV p) : ∀ r ∈ rulesS p, RulOk p r := fun r hr => by
  obtain ⟨i, hi, rfl⟩ := List.mem_iff_getElem.1 hr
  exact h.rul (List.getElem?_eq_getElem hi)
theorem rq_nat {p : Pln} {i : Nat} (h : i < p.1.length) : rq p (i : Int) = p.1[i] := by
  simp only [rq, Int.toNat_natCast]
  exact getD_some (List.getElem?_eq_getElem h)
theorem edgL_ew {p : Pln} (h : PV p) : ∀ e ∈ edgL p, EW p.1.length e := by
  intro e he
  obtain ⟨o, ho, rfl⟩ := List.mem_map.1 he
  obtain ⟨b1, b2, b3, b4⟩ := h.ord o ho
  have b5 := (h.at b1.1 b1.2).1
  exact ⟨⟨b1, b2⟩, by simp only []; omega, by simp only []; omega⟩
theorem bfS_in {E : List Edg} {n : Nat} (hE : ∀ e ∈ E, EW n e) (hl : E.length ≤ 3000) : ∀ {k : Nat} {b : Int} {t t' : List Int}, t.length = n → InB b t → bfS E k t = some t' → InB (b + 15000000 * ((k : Int) + 1)) t'
  | 0, b, t, t', ht, hb, h => by
    have := pass_in hb (fun e he => by rw [ht]; exact hE e he) hl
    unfold bfS at h
    split at h
    · cases h
    · cases h; exact this.mono (by omega)
  | k + 1, b, t, t', ht, hb, h => by
    have := pass_in hb (fun e he => by rw [ht]; exact hE e he) hl
    unfold bfS at h
    split at h
    · exact (bfS_in hE hl (by rw [pass_len]; exact ht) this h).mono (by omega)
    · cases h; exact this.mono (by omega)
theorem TOk.ofB {p : Pln} {t : List Int} (hl : t.length = p.1.length) (hb : InB 4398046511104 t) : TOk p t := ⟨hl, hb⟩
end Go.Proofs.Tryz
end
section
set_option maxRecDepth 100000
set_option linter.unusedVariables false
set_option linter.unusedSimpArgs false
namespace Go.Proofs.Tryz
open Go Go.Sx
theorem lowS_in {p : Pln} {low : List Int} {E : List Edg} (hl : low.length = p.1.length) (hn : p.1.length ≤ 26) (hE : ∀ e ∈ E, EW p.1.length e) (hEl : E.length ≤ 3000) (hb : InB 20000000 low) (h : (lowS low E).2 = true) : (lowS low E).1.length = p.1.length ∧ InB 4398046511104 (lowS low E).1 := by
  unfold lowS at h ⊢
  cases hb2 : bfS E low.length low with
  | none => simp [hb2] at h
  | some t =>
    simp only [hb2]
    have h1 := (bfS_spec (fun e he => by rw [hl]; exact (hE e he).1) hb2).1
    have h2 := bfS_in hE hEl hl hb hb2
    exact ⟨h1.trans hl, h2.mono (by omega)⟩
theorem dec_rec {p : Prop} (i : Decidable p) (h : p) : (Decidable.rec (motive := fun _ => Bool) (fun h => (fun _ => false) h) (fun h => (fun _ => true) h) i) = true := by
  cases i with
  | isTrue _ => rfl
  | isFalse h' => exact absurd h h'
end Go.Proofs.Tryz
end
section
set_option maxRecDepth 100000
set_option linter.unusedVariables false
set_option linter.unusedSimpArgs false
namespace Go.Proofs.Tryz
open Go Go.Sx
theorem any_zip_lt {a b : List Int} {n : Nat} (ha : a.length = n) (hb : b.length = n) (f : Int → Int) : ((a.zip b).any fun x => decide (f x.2 < x.1)) = true ↔ ¬ ∀ i, i < n → fL a i ≤ f (fL b i) := by
  constructor
  · intro h hall
    rw [List.any_eq_true] at h
    obtain ⟨x, hx, hlt⟩ := h
    obtain ⟨i, hi, rfl⟩ := List.mem_iff_getElem.1 hx
    rw [List.length_zip] at hi
    have := hall i (by omega)
    simp only [fL] at this
    rw [getD_some (List.getElem?_eq_getElem (show i < a.length by omega)), getD_some (List.getElem?_eq_getElem (show i < b.length by omega))] at this
    simp only [List.getElem_zip, decide_eq_true_eq] at hlt
    omega
  · intro h
    apply Classical.byContradiction
    intro hn
    apply h
    intro i hi
    have hf : ((a.zip b).any fun x => decide (f x.2 < x.1)) = false := by simpa using hn
    rw [List.any_eq_false] at hf
    have := hf (a[i], b[i]) (List.mem_iff_getElem.2 ⟨i, by rw [List.length_zip]; omega, by simp⟩)
    simp only [fL]
    rw [getD_some (List.getElem?_eq_getElem (show i < a.length by omega)), getD_some (List.getElem?_eq_getElem (show i < b.length by omega))]
    simp only [decide_eq_true_eq] at this
    omega
end Go.Proofs.Tryz
end
section
set_option maxRecDepth 100000
set_option linter.unusedVariables false
set_option linter.unusedSimpArgs false
namespace Go.Proofs.Tryz
open Go Go.Sx
theorem l14 {F : Nat} {p : Pln} (h1 : p.1.length < F) (h2 : p.2.1.length < F) (hb1 : p.1.length * 112 ≤ 140737488351232) (hb2 : p.2.1.length * 24 ≤ 140737488351232) : c14 F p = some p := by
  unfold c14
  refine bind_list p.1 (fun (_ : Unit) i => (p.2.2, p.1.take i, (i : Int))) (fun _ _ => .inl ()) (fun _ => (p.2.2, p.1)) (fun _ _ => True) () h1 rfl trivial ?_ ?_ ?_
  · intro i x _ hi hx _
    refine ⟨?_, fun _ _ => trivial⟩
    have hl := len_take (l := p.1) (i := i) (by omega)
    have hl' := len_take (l := p.1) (i := i + 1) (by omega)
    simp (disch := omega) only [cd_pos, gd_dec, w64_in, Int.toNat_natCast, getD_some hx, peta, take_snoc hx, hl, hl', decide_true, Bool.and_self, gd_true, Option.bind_some]
    rfl
  · intro _ _
    simp (disch := omega) only [cd_neg, List.take_length, decide_true, Bool.and_self, gd_true, Option.bind_some]
  · rw [goL_unit]
    simp only [decide_true, Bool.and_self, gd_true, Option.bind_some]
    refine bind_list p.2.1 (fun (_ : Unit) i => (p.2.2, p.1, p.2.1.take i, (i : Int))) (fun _ _ => .inl ()) (fun _ => (p.2.2, p.1, p.2.1)) (fun _ _ => True) () h2 rfl trivial ?_ ?_ ?_
    · intro i x _ hi hx _
      refine ⟨?_, fun _ _ => trivial⟩
      have hl := len_take (l := p.2.1) (i := i) (by omega)
      have hl' := len_take (l := p.2.1) (i := i + 1) (by omega)
      simp (disch := omega) only [cd_pos, gd_dec, w64_in, Int.toNat_natCast, getD_some hx, peta, take_snoc hx, hl, hl', decide_true, Bool.and_self, gd_true, Option.bind_some]
      rfl
    · intro _ _
      simp (disch := omega) only [cd_neg, List.take_length, decide_true, Bool.and_self, gd_true, Option.bind_some]
    · rw [goL_unit]
      simp only [take_all, Nat.zero_add, Nat.le_refl, decide_true, Bool.and_self, gd_true]
def roomP (p : Pln) (t : List Int) : Nat := p.1.length + p.2.1.length + t.length + 4000
end Go.Proofs.Tryz
end

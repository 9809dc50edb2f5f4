/- Plain law: windows and chains, in the program. Plain law: windows and chains, in the reference; both are the same. Plain law: the windows of the program are those of the reference. Plain law: the reference's copy of a plan. slices.Delete in this program is the library's. -/
import Derived.Test.YtlfcbhjoldgijaaGreatXT9m
import Derived.Test.YtlfcbhjoldgijaaGreatXTtCx
import Derived.Test.YtlfcbhjoldgijaaGreatXSxQj
section
set_option maxRecDepth 100000
set_option linter.unusedVariables false
set_option linter.unusedSimpArgs false
namespace Go.Proofs.Tryz
open Go Go.Sx
theorem both_self {X : Type} (A : Option X) (f : X → X → Bool) (hf : ∀ x, f x x = true) : (Option.bind A fun v => Option.bind A fun v' => gd (f v v') (some v)) = A := by
  cases A with
  | none => rfl
  | some v => simp only [Option.bind_some, hf, gd_true]
def lowW (p : Pln) : List Int := p.1.map fun x => x.2.2.2.2.2.1
def highW (p : Pln) : List Int := p.1.map fun x => x.2.2.2.2.2.2 - x.2.1
def edgL (p : Pln) : List Edg := p.2.1.map fun o => (o.1, o.2.1, (rq p o.1).2.1 + o.2.2)
theorem PV.rulM {p : Pln} (h : PV p) : ∀ r ∈ rulesS p, RulOk p r := fun r hr => by
  obtain ⟨i, hi, rfl⟩ := List.mem_iff_getElem.1 hr
  exact h.rul (List.getElem?_eq_getElem hi)
theorem win_at {p : Pln} {i : Nat} (h : i < p.1.length) : (kW, (i : Int), (i : Int), (0 : Int)) ∈ rulesS p := by
  have e := ifl_one (fun i (_ : Rnd) => (kW, (i : Int), (i : Int), (0 : Int))) p.1 0 i
  rw [List.getElem?_eq_getElem h] at e
  have := List.mem_of_getElem? (show (ifl winR 0 p.1)[i]? = _ from e)
  unfold rulesS
  simp only [List.append_assoc]
  exact List.mem_append.2 (.inl (by simpa using this))
theorem apartR_kind {p : Pln} : ∀ r ∈ apartR p, r.1 = kA ∨ r.1 = kF ∨ r.1 = kT := fun r hr => by
  obtain ⟨a, x, hx, hr⟩ := ifl_mem hr
  obtain ⟨j, y, hy, hr⟩ := ifl_mem hr
  rcases pairR_mem hr with rfl | rfl | rfl
  · exact .inl rfl
  · exact .inr (.inl rfl)
  · exact .inr (.inr rfl)
theorem winR_kind {p : Pln} : ∀ r ∈ ifl winR 0 p.1, r.1 = kW := fun r hr => by
  obtain ⟨a, x, hx, hr⟩ := ifl_mem hr
  rw [List.mem_singleton.1 hr]
theorem ordR_kind {p : Pln} : ∀ r ∈ ifl ordR 0 p.2.1, r.1 = kO := fun r hr => by
  obtain ⟨a, x, hx, hr⟩ := ifl_mem hr
  rw [List.mem_singleton.1 hr]
theorem filt_O (p : Pln) : (rulesS p).filter isO = ifl ordR 0 p.2.1 := by
  unfold rulesS
  rw [List.filter_append, List.filter_append, List.filter_eq_nil_iff.2, List.filter_eq_self.2, List.filter_eq_nil_iff.2]
  · simp
  · intro r hr
    rcases apartR_kind r hr with e | e | e <;> simp [isO, e, sAO, sFO, sTO]
  · intro r hr
    simp [isO, ordR_kind r hr, sOO]
  · intro r hr
    simp [isO, winR_kind r hr, sWO]
theorem ifl_map1 {α β : Type} (g : α → β) : ∀ (l : List α) (k : Nat), ifl (fun _ x => [g x]) k l = l.map g
  | [], k => rfl
  | x :: l, k => by simp [ifl, ifl_map1 g l]
theorem ord_edges (p : Pln) : (ifl ordR 0 p.2.1).map (edgO p) = edgL p := by
  rw [show ifl ordR 0 p.2.1 = p.2.1.map (fun o => (kO, o.1, o.2.1, o.2.2)) from ifl_map1 _ _ _, List.map_map]
  rfl
theorem rq_nat {p : Pln} {i : Nat} (h : i < p.1.length) : rq p (i : Int) = p.1[i] := by
  simp only [rq, Int.toNat_natCast]
  exact getD_some (List.getElem?_eq_getElem h)
theorem open_WO {p : Pln} (h : PV p) {L : List Rul} (hL : L = (rulesS p).filter fun r => [kW, kO].any fun y => strEq r.1 y) : openS p L = (lowW p, highW p, edgL p, []) := by
  have hR : ∀ r ∈ L, RulOk p r := fun r hr => by rw [hL] at hr; exact h.rulM r (List.mem_filter.1 hr).1
  have ho := openS_ok hR
  have hany : ∀ i, i < p.1.length → L.any (isW i) = true := fun i hi => by
    rw [List.any_eq_true]
    refine ⟨(kW, (i : Int), (i : Int), 0), ?_, by simp [isW, sWW]⟩
    rw [hL, List.mem_filter]
    exact ⟨win_at hi, by simp [sWW]⟩
  have e1 : (openS p L).1 = lowW p := list_ext (by rw [ho.n1]; simp [lowW]) (fun i hi => by
    rw [ho.n1] at hi
    simp only [fL]
    rw [ho.low i hi, if_pos (hany i hi), rq_nat hi]
    exact (getD_some (by simp [lowW, hi])).symm)
  have e2 : (openS p L).2.1 = highW p := list_ext (by rw [ho.n2]; simp [highW]) (fun i hi => by
    rw [ho.n2] at hi
    simp only [fL]
    rw [ho.high i hi, if_pos (hany i hi), rq_nat hi]
    exact (getD_some (by simp [highW, hi])).symm)
  have e3 : (openS p L).2.2.1 = edgL p := by
    rw [ho.edges, hL, List.filter_filter, ← ord_edges, ← filt_O]
    congr 1
    apply List.filter_congr
    intro r hr
    simp only [isO, List.any_cons, List.any_nil, Bool.or_false]
    cases strEq r.1 kO <;> simp
  have e4 : (openS p L).2.2.2 = [] := by
    rw [ho.apart, hL, List.filter_filter, List.filter_eq_nil_iff]
    intro r hr
    simp only [isP, List.any_cons, List.any_nil, Bool.or_false]
    cases strEq r.1 kO <;> cases strEq r.1 kW <;> simp
  rw [← e1, ← e2, ← e3, ← e4]
theorem open_O {p : Pln} (h : PV p) {L : List Rul} (hL : L = (rulesS p).filter fun r => [kO].any fun y => strEq r.1 y) : openS p L = (List.replicate p.1.length 0, List.replicate p.1.length 1099511627776, edgL p, []) := by
  have hR : ∀ r ∈ L, RulOk p r := fun r hr => by rw [hL] at hr; exact h.rulM r (List.mem_filter.1 hr).1
  have ho := openS_ok hR
  have hany : ∀ i, ¬ L.any (isW i) = true := fun i => by
    rw [List.any_eq_true]
    rintro ⟨r, hr, hw⟩
    rw [hL, List.mem_filter] at hr
    have h2 := hr.2
    simp only [isW, Bool.and_eq_true] at hw
    simp only [List.any_cons, List.any_nil, Bool.or_false, strEq_true.1 hw.1, sWO] at h2
    cases h2
  have e1 : (openS p L).1 = List.replicate p.1.length 0 := list_ext (by rw [ho.n1]; simp) (fun i hi => by
    rw [ho.n1] at hi
    simp only [fL]
    rw [ho.low i hi, if_neg (hany i)]
    exact (rep_getD hi).symm)
  have e2 : (openS p L).2.1 = List.replicate p.1.length 1099511627776 := list_ext (by rw [ho.n2]; simp) (fun i hi => by
    rw [ho.n2] at hi
    simp only [fL]
    rw [ho.high i hi, if_neg (hany i)]
    exact (rep_getD hi).symm)
  have e3 : (openS p L).2.2.1 = edgL p := by
    rw [ho.edges, hL, List.filter_filter, ← ord_edges, ← filt_O]
    congr 1
    apply List.filter_congr
    intro r hr
    simp only [isO, List.any_cons, List.any_nil, Bool.or_false, Bool.and_self]
  have e4 : (openS p L).2.2.2 = [] := by
    rw [ho.apart, hL, List.filter_filter, List.filter_eq_nil_iff]
    intro r hr
    simp only [isP, List.any_cons, List.any_nil, Bool.or_false]
    cases strEq r.1 kO <;> cases strEq r.1 kW <;> simp
  rw [← e1, ← e2, ← e3, ← e4]
theorem edgL_ew {p : Pln} (h : PV p) : ∀ e ∈ edgL p, EW p.1.length e := by
  intro e he
  obtain ⟨o, ho, rfl⟩ := List.mem_map.1 he
  obtain ⟨b1, b2, b3, b4⟩ := h.ord o ho
  have b5 := (h.at b1.1 b1.2).1
  exact ⟨⟨b1, b2⟩, by simp only []; omega, by simp only []; omega⟩
theorem lowW_in {p : Pln} (h : PV p) : InB 4398046511104 (lowW p) := by
  intro x hx
  obtain ⟨y, hy, rfl⟩ := List.mem_map.1 hx
  have := (h.rnd y hy).2.1
  omega
theorem highW_in {p : Pln} (h : PV p) : InL 5000 (highW p) := by
  intro x hx
  obtain ⟨y, hy, rfl⟩ := List.mem_map.1 hx
  have := h.rnd y hy
  omega
theorem earlS_len {low high : List Int} {E : List Edg} (hE : ∀ e ∈ E, EOk low.length e) (h : (earlS low high E).2 = true) : (earlS low high E).1.length = low.length := by
  unfold earlS at h ⊢
  cases hb : bfS E low.length low with
  | none => simp [hb] at h
  | some t =>
    simp only [hb] at h ⊢
    split at h
    · cases h
    · rename_i hc
      rw [if_neg hc]
      exact (bfS_spec hE hb).1
def winsS (p : Pln) : List (Int × Int) × Int := if (earlS (lowW p) (highW p) (edgL p)).2 = true then ((earlS (lowW p) (highW p) (edgL p)).1.zip (latS (edgL p) p.1.length (highW p)), 0) else (nilT (Int × Int), 23)
theorem l17 {F : Nat} (hF : 4000 ≤ F) {p : Pln} (h : PShort p) : c17 F p = some (if planE p = 0 then winsS p else (nilT (Int × Int), planE p)) := by
  unfold c17
  simp only [peta, l51 (show 400 ≤ F by omega) h.sm, Option.bind_some]
  by_cases h0 : planE p = 0
  · have hv := PV.of h h0
    have hl := rulesS_len h.1 h.2.1
    have hn := hv.n1
    have hb : ∀ (A : Option (List (Int × Int) × Int)), (Option.bind A fun v => Option.bind A fun v' => gd (AEls.eqv (ATy.val (Ty.seq (Ty.int Go.IntKind.i64 :: Ty.int Go.IntKind.i64 :: nilT Ty)) :: ATy.val (Ty.int Go.IntKind.i64) :: nilT ATy) v v') (some v)) = A := fun A => both_self A _ (fun x => AEls.eqv_rf (ATy.val (Ty.seq (Ty.int Go.IntKind.i64 :: Ty.int Go.IntKind.i64 :: nilT Ty)) :: ATy.val (Ty.int Go.IntKind.i64) :: nilT ATy) x)
    simp only [hb]
    simp only [h0, decide_true, Bool.not_true, cond_false, if_true, l65 (show 400 ≤ F by omega) h, Option.bind_some, eW, eO]
    rw [x64 hF (by omega) (by simp [nilT])]
    simp only [Option.bind_some]
    generalize hL : ((rulesS p).filter fun r => (kW :: kO :: nilT ByteArray).any fun y => strEq r.1 y) = L
    have hLl : L.length ≤ 3000 := by rw [← hL]; exact Nat.le_trans (List.length_filter_le _ _) (by omega)
    have hR : ∀ r ∈ L, RulOk p r := fun r hr => by rw [← hL] at hr; exact hv.rulM r (List.mem_filter.1 hr).1
    rw [l63 hF hv hLl hR, open_WO hv hL.symm]
    have hlw : (lowW p).length = p.1.length := by simp [lowW]
    have hhw : (highW p).length = p.1.length := by simp [highW]
    have hel : (edgL p).length ≤ 3000 := by have := hv.n2; simp [edgL]; omega
    simp only [Option.bind_some]
    rw [l66 hF (by omega) (by omega) (by rw [hlw]; exact edgL_ew hv) hel (lowW_in hv)]
    simp only [Option.bind_some]
    unfold winsS
    have hel2 := earlS_len (high := highW p) (low := lowW p) (E := edgL p) (fun e he => by rw [hlw]; exact (edgL_ew hv e he).1)
    generalize earlS (lowW p) (highW p) (edgL p) = r at hel2
    obtain ⟨t, b⟩ := r
    cases b with
    | false => simp
    | true =>
      have htl : t.length = p.1.length := (hel2 rfl).trans hlw
      simp only [Bool.not_true, cond_false, if_true]
      rw [l67 hF (by omega) (by rw [hhw]; exact edgL_ew hv) hel (highW_in hv)]
      simp only [Option.bind_some, hhw]
      have hll := latS_len (edgL p) p.1.length (highW p)
      generalize latS (edgL p) p.1.length (highW p) = u at hll
      have hz : (t.zip u).length = p.1.length := by rw [List.length_zip]; omega
      refine bind_list (t.zip u) (fun (s : List (Int × Int)) i => (s, (i : Int))) (fun x s => .inl (s ++ [x])) (fun s => s) (fun i s => s.length = i) [] (by omega) rfl rfl ?_ ?_ ?_
      · intro i x s hi hx hs
        obtain ⟨hx1, hx2⟩ := List.getElem?_zip_eq_some.1 hx
        simp (disch := omega) only [cd_pos, gd_dec, w64_in, Int.toNat_natCast, getD_some hx1, getD_some hx2, len_snoc, decide_true, Bool.and_self, gd_true, Option.bind_some]
        refine ⟨rfl, ?_⟩
        intro s' hs'
        injection hs' with hs'
        rw [← hs']
        simp [hs]
      · intro s hs
        rw [hz]
        simp (disch := omega) only [cd_neg, decide_true, Bool.and_self, gd_true, Option.bind_some]
      · rw [goL_append (fun x : Int × Int => x)]
        simp only [List.nil_append, List.map_id', take_all, Nat.zero_add, Nat.le_refl, decide_true, Bool.and_self, gd_true]
  · simp [h0]
def chainS (p : Pln) : Int × Int := match bfS (edgL p) p.1.length (List.replicate p.1.length 0) with
  | some t => (endS p t, 0)
  | none => (0, 23)
theorem bfS_in {E : List Edg} {n : Nat} (hE : ∀ e ∈ E, EW n e) (hl : E.length ≤ 3000) : ∀ {k : Nat} {b : Int} {t t' : List Int}, t.length = n → InB b t → bfS E k t = some t' → InB (b + 15000000 * ((k : Int) + 1)) t'
  | 0, b, t, t', ht, hb, h => by
    have := pass_in hb (fun e he => by rw [ht]; exact hE e he) hl
    unfold bfS at h
    split at h
    · cases h
    · cases h; exact this.mono (by omega)
  | k + 1, b, t, t', ht, hb, h => by
    have := pass_in hb (fun e he => by rw [ht]; exact hE e he) hl
    unfold bfS at h
    split at h
    · exact (bfS_in hE hl (by rw [pass_len]; exact ht) this h).mono (by omega)
    · cases h; exact this.mono (by omega)
theorem TOk.ofB {p : Pln} {t : List Int} (hl : t.length = p.1.length) (hb : InB 4398046511104 t) : TOk p t := ⟨hl, hb⟩
theorem l18 {F : Nat} (hF : 4000 ≤ F) {p : Pln} (h : PShort p) : c18 F p = some (if planE p = 0 then chainS p else (0, planE p)) := by
  unfold c18
  simp only [peta, l51 (show 400 ≤ F by omega) h.sm, Option.bind_some]
  by_cases h0 : planE p = 0
  · have hv := PV.of h h0
    have hl := rulesS_len h.1 h.2.1
    have hn := hv.n1
    have hb : ∀ (A : Option (Int × Int)), (Option.bind A fun v => Option.bind A fun v' => gd (AEls.eqv (ATy.val (Ty.int Go.IntKind.i64) :: ATy.val (Ty.int Go.IntKind.i64) :: nilT ATy) v v') (some v)) = A := fun A => both_self A _ (fun x => AEls.eqv_rf (ATy.val (Ty.int Go.IntKind.i64) :: ATy.val (Ty.int Go.IntKind.i64) :: nilT ATy) x)
    simp only [hb]
    simp only [h0, decide_true, Bool.not_true, cond_false, if_true, l65 (show 400 ≤ F by omega) h, Option.bind_some, eW, eO]
    rw [x64 hF (by omega) (by simp [nilT])]
    simp only [Option.bind_some]
    generalize hL : ((rulesS p).filter fun r => (kO :: nilT ByteArray).any fun y => strEq r.1 y) = L
    have hLl : L.length ≤ 3000 := by rw [← hL]; exact Nat.le_trans (List.length_filter_le _ _) (by omega)
    have hR : ∀ r ∈ L, RulOk p r := fun r hr => by rw [← hL] at hr; exact hv.rulM r (List.mem_filter.1 hr).1
    rw [l63 hF hv hLl hR, open_O hv hL.symm]
    have hel : (edgL p).length ≤ 3000 := by have := hv.n2; simp [edgL]; omega
    have hb0 : InB 0 (List.replicate p.1.length (0 : Int)) := fun x hx => by have := List.eq_of_mem_replicate hx; omega
    simp only [Option.bind_some]
    rw [l66 hF (by simp; omega) (by simp) (by simpa using edgL_ew hv) hel (hb0.mono (by omega))]
    simp only [Option.bind_some]
    unfold chainS earlS
    simp only [List.length_replicate]
    cases hb : bfS (edgL p) p.1.length (List.replicate p.1.length 0) with
    | none => simp
    | some t =>
      have htl := (bfS_spec (t := List.replicate p.1.length (0 : Int)) (by simpa using fun e he => (edgL_ew hv e he).1) hb).1
      have hti := bfS_in (edgL_ew hv) hel (by simp) hb0 hb
      simp only [List.length_replicate] at htl
      have hno : ((t.zip (List.replicate p.1.length (1099511627776 : Int))).any fun x => decide (x.2 < x.1)) = false := by
        rw [List.any_eq_false]
        intro x hx
        have h1 := hti _ (List.of_mem_zip hx).1
        have h2 := List.eq_of_mem_replicate (List.of_mem_zip hx).2
        simp only [decide_eq_true_eq]
        omega
      simp only [hno, Bool.false_eq_true, if_false, Bool.not_true, cond_false]
      rw [l68 (show 400 ≤ F by omega) hv (TOk.ofB htl (hti.mono (by omega)))]
      rfl
  · simp [h0]
end Go.Proofs.Tryz
end
section
set_option maxRecDepth 100000
set_option linter.unusedVariables false
set_option linter.unusedSimpArgs false
namespace Go.Proofs.Tryz
open Go Go.Sx
theorem map_take_snoc {α β : Type} {l : List α} {i : Nat} {x : α} (h : l[i]? = some x) (f : α → β) : (l.take i).map f ++ f x :: nilT β = (l.take (i + 1)).map f := by
  rw [← take_snoc h, List.map_append]
  rfl
theorem map_take_len {α β : Type} {l : List α} {i : Nat} (h : i ≤ l.length) (f : α → β) : ((l.take i).map f).length = i := by
  rw [List.length_map, len_take h]
theorem edge_loop {F : Nat} {p : Pln} (h : PV p) (hF : 4000 ≤ F) {γ : Type} {k : List Edg → Option γ} {step : List Edg × Int → Option ((List Edg × Int) ⊕ List Edg)} {r : Option γ}
    (hstep : ∀ (i : Nat) (o : Ord3) (s : List Edg), i < p.2.1.length → p.2.1[i]? = some o → s.length = i → step (s, (i : Int)) = some (.inl (s ++ (o.1, o.2.1, (rq p o.1).2.1 + o.2.2) :: nilT Edg, (i : Int) + 1)))
    (hend : ∀ s : List Edg, step (s, (p.2.1.length : Int)) = some (.inr s)) (hk : k (edgL p) = r) : Option.bind (loopO step F (nilT Edg, 0)) k = r := by
  have hn := h.n2
  refine bind_list p.2.1 (fun (_ : Unit) i => ((p.2.1.take i).map (fun o => (o.1, o.2.1, (rq p o.1).2.1 + o.2.2)), (i : Int))) (fun _ _ => .inl ()) (fun _ => edgL p) (fun _ _ => True) () (by omega) rfl trivial ?_ ?_ ?_
  · intro i o _ hi ho _
    refine ⟨?_, fun _ _ => trivial⟩
    rw [hstep i o _ hi ho (map_take_len (by omega) _), ← map_take_snoc ho (fun o : Ord3 => (o.1, o.2.1, (rq p o.1).2.1 + o.2.2))]
    rfl
  · intro _ _
    rw [hend, List.take_length]
    rfl
  · rw [goL_unit]
    exact hk
def winsR (p : Pln) : List (Int × Int) × Bool :=
  if (lowS (lowW p) (edgL p)).2 = true ∧ (lowS (negL 20000 (highW p)) ((edgL p).map backE)).2 = true then
    (if (((lowS (lowW p) (edgL p)).1.zip (lowS (negL 20000 (highW p)) ((edgL p).map backE)).1).any fun x => decide (20000 - x.2 < x.1)) = true then (nilT (Int × Int), false)
     else (((lowS (lowW p) (edgL p)).1.zip (lowS (negL 20000 (highW p)) ((edgL p).map backE)).1).map fun x => (x.1, 20000 - x.2), true))
  else (nilT (Int × Int), false)
theorem negW_in {p : Pln} (h : PV p) : InB 4398046511104 (negL 20000 (highW p)) := by
  intro x hx
  obtain ⟨y, hy, rfl⟩ := List.mem_map.1 hx
  obtain ⟨z, hz, rfl⟩ := List.mem_map.1 hy
  have := h.rnd z hz
  omega
theorem back_ew {p : Pln} (h : PV p) : ∀ e ∈ (edgL p).map backE, EW p.1.length e := by
  intro e he
  obtain ⟨e', he', rfl⟩ := List.mem_map.1 he
  obtain ⟨⟨a, b⟩, c⟩ := edgL_ew h e' he'
  exact ⟨⟨b, a⟩, c⟩
theorem lowS_in {p : Pln} {low : List Int} {E : List Edg} (hl : low.length = p.1.length) (hn : p.1.length ≤ 26) (hE : ∀ e ∈ E, EW p.1.length e) (hEl : E.length ≤ 3000) (hb : InB 20000000 low) (h : (lowS low E).2 = true) : (lowS low E).1.length = p.1.length ∧ InB 4398046511104 (lowS low E).1 := by
  unfold lowS at h ⊢
  cases hb2 : bfS E low.length low with
  | none => simp [hb2] at h
  | some t =>
    simp only [hb2]
    have h1 := (bfS_spec (fun e he => by rw [hl]; exact (hE e he).1) hb2).1
    have h2 := bfS_in hE hEl hl hb hb2
    exact ⟨h1.trans hl, h2.mono (by omega)⟩
theorem l21 {F : Nat} (hF : 4000 ≤ F) {p : Pln} (hv : PV p) : c21 F p = some (winsR p) := by
  unfold c21
  have hn := hv.n1
  have hn2 := hv.n2
  have hel : (edgL p).length ≤ 3000 := by simp [edgL]; omega
  refine bind_list p.1 (fun (_ : Unit) i => ((p.1.take i).map (fun x => x.2.2.2.2.2.1), (p.1.take i).map (fun x => 20000 - (x.2.2.2.2.2.2 - x.2.1)), (i : Int))) (fun _ _ => .inl ()) (fun _ => (lowW p, negL 20000 (highW p))) (fun _ _ => True) () (by omega) rfl trivial ?_ ?_ ?_
  · intro i x _ hi hx _
    refine ⟨?_, fun _ _ => trivial⟩
    have b := hv.rnd x (List.mem_of_getElem? hx)
    have l1 := map_take_len (l := p.1) (i := i) (by omega) (fun x => x.2.2.2.2.2.1)
    have l2 := map_take_len (l := p.1) (i := i) (by omega) (fun x : Rnd => (20000 : Int) - (x.2.2.2.2.2.2 - x.2.1))
    simp (disch := omega) only [cd_pos, gd_dec, w64_in, Int.toNat_natCast, getD_some hx, len_snoc, l1, l2, decide_true, Bool.and_self, gd_true, Option.bind_some]
    rw [← map_take_snoc hx (fun x : Rnd => x.2.2.2.2.2.1), ← map_take_snoc hx (fun x : Rnd => (20000 : Int) - (x.2.2.2.2.2.2 - x.2.1))]
    rfl
  · intro _ _
    simp (disch := omega) only [cd_neg, decide_true, Bool.and_self, gd_true, Option.bind_some, List.take_length]
    simp [lowW, negL, highW]
  · rw [goL_unit]
    refine edge_loop hv hF ?_ ?_ ?_
    · intro i o s hi ho hs
      obtain ⟨b1, b2, b3, b4⟩ := hv.ord o (List.mem_of_getElem? ho)
      have b5 := (hv.at b1.1 b1.2).1
      simp only [rq, r0] at b5 ⊢
      simp (disch := omega) only [cd_pos, gd_dec, w64_in, Int.toNat_natCast, getD_some ho, len_snoc, decide_true, Bool.and_self, gd_true, Option.bind_some]
    · intro s
      simp (disch := omega) only [cd_neg, decide_true, Bool.and_self, gd_true, Option.bind_some]
    · refine bind_list (edgL p) (fun (_ : Unit) i => (((edgL p).take i).map backE, (i : Int))) (fun _ _ => .inl ()) (fun _ => (edgL p).map backE) (fun _ _ => True) () (by omega) rfl trivial ?_ ?_ ?_
      · intro i e _ hi he _
        refine ⟨?_, fun _ _ => trivial⟩
        have l1 := map_take_len (l := edgL p) (i := i) (by omega) backE
        simp (disch := omega) only [cd_pos, gd_dec, w64_in, Int.toNat_natCast, getD_some he, len_snoc, l1, Nat.zero_add, decide_true, Bool.and_self, gd_true, Option.bind_some]
        rw [← map_take_snoc he backE]
        rfl
      · intro _ _
        simp (disch := omega) only [cd_neg, decide_true, Bool.and_self, gd_true, Option.bind_some, List.take_length]
      · rw [goL_unit]
        have hlw : (lowW p).length = p.1.length := by simp [lowW]
        have hhw : (negL 20000 (highW p)).length = p.1.length := by simp [negL, highW]
        have hbl : ((edgL p).map backE).length ≤ 3000 := by rw [List.length_map]; exact hel
        have e73 := l73 hF (low := lowW p) (E := edgL p) (by omega) (by rw [hlw]; exact edgL_ew hv) hel (lowW_in hv)
        have e73' := l73 hF (low := negL 20000 (highW p)) (E := (edgL p).map backE) (by omega) (by rw [hhw]; exact back_ew hv) hbl (negW_in hv)
        have hlow : InB 20000000 (lowW p) := fun x hx => by
          obtain ⟨y, hy, rfl⟩ := List.mem_map.1 hx
          have := (hv.rnd y hy).2.1
          omega
        have hneg : InB 20000000 (negL 20000 (highW p)) := fun x hx => by
          obtain ⟨y, hy, rfl⟩ := List.mem_map.1 hx
          obtain ⟨z, hz, rfl⟩ := List.mem_map.1 hy
          have := hv.rnd z hz
          omega
        have f1 := lowS_in hlw (by omega) (edgL_ew hv) hel hlow
        have f2 := lowS_in hhw (by omega) (back_ew hv) hbl hneg
        simp only [e73, e73', Option.bind_some, decide_true, Bool.and_self, gd_true]
        unfold winsR
        generalize lowS (lowW p) (edgL p) = A at f1
        generalize lowS (negL 20000 (highW p)) ((edgL p).map backE) = B at f2
        obtain ⟨t, b1⟩ := A
        obtain ⟨u, b2⟩ := B
        cases b1 with
        | false => simp
        | true => cases b2 with
          | false => simp
          | true =>
            obtain ⟨g1, g2⟩ := f1 rfl
            obtain ⟨g3, g4⟩ := f2 rfl
            simp only at g1 g2 g3 g4
            simp only [Bool.not_true, cond_false, Option.bind_some, and_self, if_true]
            have hz : (t.zip u).length = p.1.length := by rw [List.length_zip]; omega
            refine ex_eq (bind_sim (t.zip u) (fun x (s : List (Int × Int)) => if decide (20000 - x.2 < x.1) = true then .inr (none : Option (List (Int × Int))) else .inl (s ++ [(x.1, 20000 - x.2)])) (fun s => some s) (fun i s v => v = (s, (i : Int)) ∧ s.length = i)
              (fun (a : Option (List (Int × Int))) (b : List (Int × Int) × List (Int × Int) × Bool ⊕ List (Int × Int)) => match a with | none => ∃ s, b = .inl (s, nilT (Int × Int), false) | some s => b = .inr s) [] (by omega) ⟨rfl, rfl⟩ ?_ ?_ ?_)
            · intro i x s v hi hx ⟨hv1, hv2⟩
              subst hv1
              obtain ⟨hx1, hx2⟩ := List.getElem?_zip_eq_some.1 hx
              have q1 := g2 _ (List.mem_of_getElem? hx1)
              have q2 := g4 _ (List.mem_of_getElem? hx2)
              simp (disch := omega) only [cd_pos, gd_dec, w64_in, Int.toNat_natCast, getD_some hx1, getD_some hx2, len_snoc, decide_true, Bool.and_self, gd_true, Option.bind_some]
              by_cases hc : 20000 - x.2 < x.1
              · simp only [hc, decide_true, cond_true, if_true]
                exact ⟨_, rfl, s, rfl⟩
              · simp only [hc, decide_false, cond_false, if_false, Bool.false_eq_true]
                exact ⟨_, rfl, rfl, by simp [hv2]⟩
            · intro s v ⟨hv1, hv2⟩
              subst hv1
              rw [hz]
              simp (disch := omega) only [cd_neg, decide_true, Bool.and_self, gd_true, Option.bind_some]
              exact ⟨_, rfl, rfl⟩
            · intro b hb
              have hgo : ∀ (l : List (Int × Int)) (s : List (Int × Int)), goL (fun x (s : List (Int × Int)) => if decide (20000 - x.2 < x.1) = true then .inr (none : Option (List (Int × Int))) else .inl (s ++ [(x.1, 20000 - x.2)])) (fun s => some s) l s = if (l.any fun x => decide (20000 - x.2 < x.1)) = true then none else some (s ++ l.map fun x => (x.1, 20000 - x.2)) := by
                intro l
                induction l with
                | nil => intro s; simp [goL_nil]
                | cons x l ih =>
                  intro s
                  rw [goL_cons, List.any_cons]
                  by_cases hc : 20000 - x.2 < x.1
                  · simp [hc]
                  · simp only [hc, decide_false, Bool.false_eq_true, if_false, Bool.false_or]
                    rw [ih]
                    simp
              rw [hgo] at hb
              cases hany : (t.zip u).any fun x => decide (20000 - x.2 < x.1) with
              | true =>
                rw [hany] at hb
                simp only [if_true] at hb
                obtain ⟨s, rfl⟩ := hb
                exact ⟨_, rfl, rfl⟩
              | false =>
                rw [hany] at hb
                simp only [Bool.false_eq_true, if_false, List.nil_append] at hb
                subst hb
                refine ⟨_, ?_, rfl⟩
                simp only [Sum.elim_inr, take_all, Nat.zero_add, Nat.le_refl, decide_true, Bool.and_self, gd_true, Bool.false_eq_true, if_false]
theorem dec_rec {p : Prop} (i : Decidable p) (h : p) : (Decidable.rec (motive := fun _ => Bool) (fun h => (fun _ => false) h) (fun h => (fun _ => true) h) i) = true := by
  cases i with
  | isTrue _ => rfl
  | isFalse h' => exact absurd h h'
def chainR (p : Pln) : Int × Bool := match bfS (edgL p) p.1.length (List.replicate p.1.length 0) with
  | some t => (endS p t, true)
  | none => (0, false)
theorem l22 {F : Nat} (hF : 4000 ≤ F) {p : Pln} (hv : PV p) : c22 F p = some (chainR p) := by
  unfold c22
  have hn := hv.n1
  have hn2 := hv.n2
  have hel : (edgL p).length ≤ 3000 := by simp [edgL]; omega
  have hb0 : InB 0 (List.replicate p.1.length (0 : Int)) := fun x hx => by have := List.eq_of_mem_replicate hx; omega
  have e73 := l73 hF (low := List.replicate p.1.length 0) (E := edgL p) (by simp; omega) (by simpa using edgL_ew hv) hel (hb0.mono (by omega))
  have fin : (Option.bind (c73 F (List.replicate p.1.length 0, edgL p)) fun (v37 : List Int × Bool) => bif !v37.2 then (some ((0, false))) else (Option.bind (c34 F ((p.1, p.2.1, p.2.2), v37.1)) fun (v38 : Int) => some ((v38, true)))) = some (chainR p) := by
    rw [e73]
    unfold lowS chainR
    simp only [List.length_replicate, Option.bind_some]
    cases hb : bfS (edgL p) p.1.length (List.replicate p.1.length 0) with
    | none => simp
    | some t =>
      have htl := (bfS_spec (t := List.replicate p.1.length (0 : Int)) (by simpa using fun e he => (edgL_ew hv e he).1) hb).1
      have hti := bfS_in (edgL_ew hv) hel (by simp) hb0 hb
      simp only [List.length_replicate] at htl
      simp only [Bool.not_true, cond_false]
      rw [l34 (show 400 ≤ F by omega) hv (TOk.ofB htl (hti.mono (by omega)))]
      rfl
  have hone : ∀ (k : Int × Bool → Option (Int × Bool)) (A : Option (Int × Bool)), A = some (chainR p) → k (chainR p) = some (chainR p) → Option.bind A k = some (chainR p) := fun k A hA hk => by rw [hA]; exact hk
  refine hone _ _ ?_ ?_
  · simp (disch := omega) only [gd_dec, Int.toNat_natCast]
    refine edge_loop hv hF ?_ ?_ ?_
    · intro i o s hi ho hs
      obtain ⟨b1, b2, b3, b4⟩ := hv.ord o (List.mem_of_getElem? ho)
      have b5 := (hv.at b1.1 b1.2).1
      simp only [rq, r0] at b5 ⊢
      simp (disch := omega) only [cd_pos, gd_dec, w64_in, Int.toNat_natCast, getD_some ho, len_snoc, decide_true, Bool.and_self, gd_true, Option.bind_some]
    · intro s
      simp (disch := omega) only [cd_neg, decide_true, Bool.and_self, gd_true, Option.bind_some]
    · refine (gd_of ?_).trans fin
      exact Bool.and_eq_true_iff.2 ⟨dec_rec _ (by simp), Bool.and_eq_true_iff.2 ⟨dec_rec _ (by simp [SObj.len, rowsPV]; rfl), rfl⟩⟩
  · refine hone _ _ ?_ ?_
    · refine edge_loop hv hF ?_ ?_ ?_
      · intro i o s hi ho hs
        obtain ⟨b1, b2, b3, b4⟩ := hv.ord o (List.mem_of_getElem? ho)
        have b5 := (hv.at b1.1 b1.2).1
        simp only [rq, r0] at b5 ⊢
        simp (disch := omega) only [cd_pos, gd_dec, w64_in, Int.toNat_natCast, getD_some ho, len_snoc, decide_true, Bool.and_self, gd_true, Option.bind_some]
      · intro s
        simp (disch := omega) only [cd_neg, decide_true, Bool.and_self, gd_true, Option.bind_some]
      · refine (gd_dec (by omega)).trans ((gd_dec (by omega)).trans ((gd_dec (by omega)).trans ((gd_of ?_).trans fin)))
        exact Bool.and_eq_true_iff.2 ⟨dec_rec _ (by simp), Bool.and_eq_true_iff.2 ⟨dec_rec _ (by simp [SObj.len, rowsPV]; rfl), rfl⟩⟩
    · exact gd_args _ _ _
end Go.Proofs.Tryz
end
section
set_option maxRecDepth 100000
set_option linter.unusedVariables false
set_option linter.unusedSimpArgs false
namespace Go.Proofs.Tryz
open Go Go.Sx
theorem back_sol {E : List Edg} {f : Nat → Int} {c : Int} (h : SolF E f) : SolF (E.map backE) (fun i => c - f i) := by
  intro e he
  obtain ⟨e', he', rfl⟩ := List.mem_map.1 he
  have := h e' he'
  simp only [backE]
  omega
theorem wins_eq {p : Pln} (hv : PV p) : (∃ t, bfS (edgL p) p.1.length (lowW p) = some t ∧ t.length = p.1.length ∧ SolF (edgL p) (fL t) ∧
    lowS (negL 20000 (highW p)) ((edgL p).map backE) = (negL 20000 (latS (edgL p) p.1.length (highW p)), true) ∧
    ((∀ i, i < p.1.length → fL t i ≤ fL (highW p) i) ↔ ∀ i, i < p.1.length → fL t i ≤ fL (latS (edgL p) p.1.length (highW p)) i)) ∨ bfS (edgL p) p.1.length (lowW p) = none := by
  have hn := hv.n1
  have hlw : (lowW p).length = p.1.length := by simp [lowW]
  have hhw : (highW p).length = p.1.length := by simp [highW]
  have hE : ∀ e ∈ edgL p, EOk p.1.length e := fun e he => (edgL_ew hv e he).1
  have hB : ∀ e ∈ (edgL p).map backE, EOk p.1.length e := fun e he => (back_ew hv e he).1
  cases hb : bfS (edgL p) p.1.length (lowW p) with
  | none => exact .inr rfl
  | some t =>
    left
    have hb' := hb
    rw [← hlw] at hb'
    obtain ⟨t1, t2, t3, t4⟩ := bfS_spec (by rw [hlw]; exact hE) hb'
    have ht : t.length = p.1.length := t1.trans hlw
    have hnl : (negL 20000 (highW p)).length = p.1.length := by simp [negL, hhw]
    obtain ⟨u, hu⟩ : ∃ u, bfS ((edgL p).map backE) (negL 20000 (highW p)).length (negL 20000 (highW p)) = some u := by
      obtain ⟨c, hc⟩ : ∃ c : Int, ∀ i, i < p.1.length → fL (negL 20000 (highW p)) i ≤ c - fL t i := by
        have htb := bfS_in (edgL_ew hv) (by have := hv.n2; simp [edgL]; omega) hlw (lowW_in hv) hb
        have hnb := negW_in hv
        refine ⟨100000000000000, fun i hi => ?_⟩
        have a1 := htb.at (i := i) (by omega)
        have a2 := hnb.at (i := i) (by omega)
        simp only [fL]
        omega
      exact bfS_some (by rw [hnl]; exact hB) (back_sol (c := c) t2) (by rw [hnl]; exact hc)
    have hiter := iterS_some (by rw [hnl]; exact hB) hu
    rw [hnl, iter_neg (by rw [hhw]; exact hE)] at hiter
    obtain ⟨u1, u2, u3, u4⟩ := bfS_spec (by rw [hnl]; exact hB) hu
    have hll := latS_len (edgL p) p.1.length (highW p)
    have hug : ∀ i, i < p.1.length → fL u i = 20000 - fL (latS (edgL p) p.1.length (highW p)) i := fun i hi => by
      rw [← hiter]
      exact negL_get (by omega)
    have hng : ∀ i, i < p.1.length → fL (negL 20000 (highW p)) i = 20000 - fL (highW p) i := fun i hi => negL_get (by omega)
    refine ⟨t, rfl, ht, t2, ?_, ?_, ?_⟩
    · unfold lowS
      rw [hu, hiter]
    · intro h i hi
      have hle : LeF (negL 20000 (highW p)).length (fL (negL 20000 (highW p))) (fun i => 20000 - fL t i) := by
        rw [hnl]
        intro j hj
        have := h j hj
        have := hng j hj
        simp only []
        omega
      have := u4 _ (back_sol (c := 20000) t2) hle i (by rw [hnl]; exact hi)
      have := hug i hi
      simp only [] at *
      omega
    · intro h i hi
      have a1 := h i hi
      have a2 := u3 i
      have a3 := hug i hi
      have a4 := hng i hi
      omega
theorem any_zip_lt {a b : List Int} {n : Nat} (ha : a.length = n) (hb : b.length = n) (f : Int → Int) : ((a.zip b).any fun x => decide (f x.2 < x.1)) = true ↔ ¬ ∀ i, i < n → fL a i ≤ f (fL b i) := by
  constructor
  · intro h hall
    rw [List.any_eq_true] at h
    obtain ⟨x, hx, hlt⟩ := h
    obtain ⟨i, hi, rfl⟩ := List.mem_iff_getElem.1 hx
    rw [List.length_zip] at hi
    have := hall i (by omega)
    simp only [fL] at this
    rw [getD_some (List.getElem?_eq_getElem (show i < a.length by omega)), getD_some (List.getElem?_eq_getElem (show i < b.length by omega))] at this
    simp only [List.getElem_zip, decide_eq_true_eq] at hlt
    omega
  · intro h
    apply Classical.byContradiction
    intro hn
    apply h
    intro i hi
    have hf : ((a.zip b).any fun x => decide (f x.2 < x.1)) = false := by simpa using hn
    rw [List.any_eq_false] at hf
    have := hf (a[i], b[i]) (List.mem_iff_getElem.2 ⟨i, by rw [List.length_zip]; omega, by simp⟩)
    simp only [fL]
    rw [getD_some (List.getElem?_eq_getElem (show i < a.length by omega)), getD_some (List.getElem?_eq_getElem (show i < b.length by omega))]
    simp only [decide_eq_true_eq] at this
    omega
theorem wins_same {p : Pln} (hv : PV p) : winsS p = if (winsR p).2 = true then ((winsR p).1, 0) else (nilT (Int × Int), 23) := by
  have hlw : (lowW p).length = p.1.length := by simp [lowW]
  have hhw : (highW p).length = p.1.length := by simp [highW]
  have hll := latS_len (edgL p) p.1.length (highW p)
  unfold winsS winsR earlS
  rw [hlw]
  rcases wins_eq hv with ⟨t, h1, h2, h3, h4, h5⟩ | h1
  · have hl : lowS (lowW p) (edgL p) = (t, true) := by unfold lowS; rw [hlw, h1]
    rw [hl, h4]
    simp only [h1, and_self, if_true]
    have hnl : (negL 20000 (latS (edgL p) p.1.length (highW p))).length = p.1.length := by simp [negL, hll, hhw]
    have a1 := any_zip_lt (a := t) (b := highW p) h2 hhw (fun x => x)
    have a2 := any_zip_lt (a := t) (b := negL 20000 (latS (edgL p) p.1.length (highW p))) h2 hnl (fun x => 20000 - x)
    have e : (∀ i, i < p.1.length → fL t i ≤ 20000 - fL (negL 20000 (latS (edgL p) p.1.length (highW p))) i) ↔ ∀ i, i < p.1.length → fL t i ≤ fL (latS (edgL p) p.1.length (highW p)) i := by
      constructor
      · intro h i hi
        have := h i hi
        rw [show fL (negL 20000 (latS (edgL p) p.1.length (highW p))) i = _ from negL_get (by omega)] at this
        simp only [fL] at this ⊢
        omega
      · intro h i hi
        have := h i hi
        rw [show fL (negL 20000 (latS (edgL p) p.1.length (highW p))) i = _ from negL_get (by omega)]
        simp only [fL] at this ⊢
        omega
    by_cases hc : ∀ i, i < p.1.length → fL t i ≤ fL (highW p) i
    · have n1 : ¬ ((t.zip (highW p)).any fun x => decide (x.2 < x.1)) = true := fun h => (a1.1 h) hc
      have n2 : ¬ ((t.zip (negL 20000 (latS (edgL p) p.1.length (highW p)))).any fun x => decide (20000 - x.2 < x.1)) = true := fun h => (a2.1 h) (e.2 (h5.1 hc))
      rw [if_neg n1, if_neg n2]
      simp only [if_true]
      congr 1
      apply List.ext_getElem
      · simp [List.length_zip, negL]
      · intro i hi1 hi2
        simp [negL]
        omega
    · have n1 : ((t.zip (highW p)).any fun x => decide (x.2 < x.1)) = true := a1.2 hc
      have n2 : ((t.zip (negL 20000 (latS (edgL p) p.1.length (highW p)))).any fun x => decide (20000 - x.2 < x.1)) = true := a2.2 (fun h => hc (h5.2 (e.1 h)))
      rw [if_pos n1, if_pos n2]
      simp
  · have hl : lowS (lowW p) (edgL p) = (nilT Int, false) := by unfold lowS; rw [hlw, h1]
    rw [hl]
    simp [h1]
theorem chain_same {p : Pln} : chainS p = if (chainR p).2 = true then ((chainR p).1, 0) else (0, 23) := by
  unfold chainS chainR
  cases bfS (edgL p) p.1.length (List.replicate p.1.length 0) <;> simp
end Go.Proofs.Tryz
end
section
set_option maxRecDepth 100000
set_option linter.unusedVariables false
set_option linter.unusedSimpArgs false
namespace Go.Proofs.Tryz
open Go Go.Sx
theorem l14 {F : Nat} {p : Pln} (h1 : p.1.length < F) (h2 : p.2.1.length < F) (hb1 : p.1.length * 112 ≤ 140737488351232) (hb2 : p.2.1.length * 24 ≤ 140737488351232) : c14 F p = some p := by
  unfold c14
  refine bind_list p.1 (fun (_ : Unit) i => (p.2.2, p.1.take i, (i : Int))) (fun _ _ => .inl ()) (fun _ => (p.2.2, p.1)) (fun _ _ => True) () h1 rfl trivial ?_ ?_ ?_
  · intro i x _ hi hx _
    refine ⟨?_, fun _ _ => trivial⟩
    have hl := len_take (l := p.1) (i := i) (by omega)
    have hl' := len_take (l := p.1) (i := i + 1) (by omega)
    simp (disch := omega) only [cd_pos, gd_dec, w64_in, Int.toNat_natCast, getD_some hx, peta, take_snoc hx, hl, hl', decide_true, Bool.and_self, gd_true, Option.bind_some]
    rfl
  · intro _ _
    simp (disch := omega) only [cd_neg, List.take_length, decide_true, Bool.and_self, gd_true, Option.bind_some]
  · rw [goL_unit]
    simp only [decide_true, Bool.and_self, gd_true, Option.bind_some]
    refine bind_list p.2.1 (fun (_ : Unit) i => (p.2.2, p.1, p.2.1.take i, (i : Int))) (fun _ _ => .inl ()) (fun _ => (p.2.2, p.1, p.2.1)) (fun _ _ => True) () h2 rfl trivial ?_ ?_ ?_
    · intro i x _ hi hx _
      refine ⟨?_, fun _ _ => trivial⟩
      have hl := len_take (l := p.2.1) (i := i) (by omega)
      have hl' := len_take (l := p.2.1) (i := i + 1) (by omega)
      simp (disch := omega) only [cd_pos, gd_dec, w64_in, Int.toNat_natCast, getD_some hx, peta, take_snoc hx, hl, hl', decide_true, Bool.and_self, gd_true, Option.bind_some]
      rfl
    · intro _ _
      simp (disch := omega) only [cd_neg, List.take_length, decide_true, Bool.and_self, gd_true, Option.bind_some]
    · rw [goL_unit]
      simp only [take_all, Nat.zero_add, Nat.le_refl, decide_true, Bool.and_self, gd_true]
def roomP (p : Pln) (t : List Int) : Nat := p.1.length + p.2.1.length + t.length + 4000
end Go.Proofs.Tryz
end
section
set_option maxRecDepth 100000
namespace Go.Proofs.Tryz
open Go Go.Sx
def delRen : Shelf.Ren := ⟨fun x => match x with | 23 => 84 | y => y, fun x => match x with | 22 => 49 | y => y, fun x => x⟩
theorem layDel : Proofs.Lays2.n23 cx.P delRen := {
  mixed := by kernel_rfl
  f23 := by kernel_rfl
  t0 := by kernel_rfl
  a0 := fun w => by kernel_rfl
  z0 := fun w => by kernel_rfl
  v0 := fun w => by kernel_rfl
  t3 := by kernel_rfl
  a3 := fun w => by kernel_rfl
  z3 := fun w => by kernel_rfl
  v3 := fun w => by kernel_rfl
  t4 := by kernel_rfl
  a4 := fun w => by kernel_rfl
  z4 := fun w => by kernel_rfl
  v4 := fun w => by kernel_rfl
  t22 := by kernel_rfl
  a22 := fun w => by kernel_rfl
  z22 := fun w => by kernel_rfl
  v22 := fun w => by kernel_rfl
  i3 := by kernel_rfl }
theorem del84_ok : SmOk cx 84 delSm := delSm_ok (ρ0 := delRen) (g := 84) rfl ⟨f84, by kernel_rfl⟩ layDel
end Go.Proofs.Tryz
end

/- Plain law: Load of the reference. Functions of the program as functions of data. By program. And further parts. -/
import Derived.Test.YtlfcbhjoldgijaaGreatXTtSor
import Derived.Test.YtlfcbhjoldgijaaGreatXT9u
import Derived.Test.YtlfcbhjoldgijaaGreatXT9l
import Derived.Test.YtlfcbhjoldgijaaGreatXTtT
set_option maxRecDepth 100000
set_option linter.unusedVariables false
set_option linter.unusedSimpArgs false
set_option linter.all false
namespace Go.Proofs.Tryz
open Go Go.Sx
theorem insU_at (x : Use) (d : Use) : ∀ l : List Use, insU x l = match l.findIdx? (fun y => !ltS y.1 x.1) with
    | some k => if (l.getD k d).1 = x.1 then l.set k ((l.getD k d).1, (l.getD k d).2 + x.2) else l.take k ++ x :: l.drop k
    | none => l ++ [x]
  | [] => rfl
  | y :: l => by
    rw [List.findIdx?_cons]
    unfold insU
    by_cases h : ltS y.1 x.1 = true
    · rw [if_pos h, insU_at x d l]
      simp only [h, Bool.not_true, Bool.false_eq_true, if_false]
      cases l.findIdx? (fun y => !ltS y.1 x.1) with
      | none => rfl
      | some k =>
        simp only [Option.map_some, List.getD_cons_succ, List.set_cons_succ, List.take_succ_cons, List.drop_succ_cons, List.cons_append]
        split <;> rfl
    · rw [if_neg h]
      have h' : ltS y.1 x.1 = false := Bool.eq_false_iff.2 h
      simp only [h', Bool.not_false, if_true, List.getD_cons_zero, List.set_cons_zero, List.take_zero, List.drop_zero, List.nil_append]
structure BndE (n : Nat) (m : List Use) : Prop where
  len : m.length ≤ n
  val : ∀ e ∈ m, 0 ≤ e.2 ∧ e.2 ≤ 1440 * (n : Int)
theorem BndE.ins {n : Nat} {x : Use} (hv : 0 ≤ x.2 ∧ x.2 ≤ 1440) : ∀ {m : List Use}, BndE n m → BndE (n + 1) (insU x m) := by
  have key : ∀ (m : List Use) (N : Nat), (∀ e ∈ m, 0 ≤ e.2 ∧ e.2 ≤ 1440 * (N : Int)) → (insU x m).length ≤ m.length + 1 ∧ ∀ e ∈ insU x m, 0 ≤ e.2 ∧ e.2 ≤ 1440 * ((N + 1 : Nat) : Int) := by
    intro m
    induction m with
    | nil =>
      intro N _
      refine ⟨Nat.le_refl _, fun e he => ?_⟩
      rw [List.mem_singleton.1 he]
      omega
    | cons y m ih =>
      intro N h
      have hy := h y (List.mem_cons_self ..)
      obtain ⟨a, b⟩ := ih N (fun e he => h e (List.mem_cons_of_mem _ he))
      unfold insU
      split
      · refine ⟨by simp only [List.length_cons]; omega, fun e he => ?_⟩
        rcases List.mem_cons.1 he with rfl | he
        · omega
        · exact b e he
      · split
        · refine ⟨by simp, fun e he => ?_⟩
          rcases List.mem_cons.1 he with rfl | he
          · simp only; omega
          · have := h e (List.mem_cons_of_mem _ he); omega
        · refine ⟨by simp, fun e he => ?_⟩
          rcases List.mem_cons.1 he with rfl | he
          · omega
          · have := h e he; omega
  intro m h
  obtain ⟨a, b⟩ := key m n h.val
  exact ⟨by have := h.len; omega, b⟩
theorem BndE.mono {n n' : Nat} {m : List Use} (h : BndE n m) (hn : n ≤ n') : BndE n' m := ⟨by have := h.len; omega, fun e he => by have := h.val e he; omega⟩
theorem insR_bnd {r : Rnd} (hv : 1 ≤ r.2.1 ∧ r.2.1 ≤ 1440) (hl : r.2.2.1.length ≤ 162) {n : Nat} {m : List Use} (h : BndE n m) : BndE (n + 162) (insR r m) := by
  have key : ∀ (l : List ByteArray) (n : Nat) (m : List Use), BndE n m → BndE (n + l.length) (l.foldl (fun m a => insU (a, r.2.1) m) m) := by
    intro l
    induction l with
    | nil => intro n m h; exact h
    | cons a l ih =>
      intro n m h
      have := ih (n + 1) _ (h.ins (x := (a, r.2.1)) ⟨by simp only; omega, hv.2⟩)
      rw [List.length_cons, show n + (l.length + 1) = n + 1 + l.length by omega]
      exact this
  exact (key r.2.2.1 n m h).mono (by omega)
theorem l47 {F : Nat} (hF : 8000 ≤ F) {p : Pln} (hp : PShort p) (hv : PV p) : c47 F p = some (loadS p) := by
  unfold c47
  have hn1 := hv.n1
  refine bind_list p.1 (fun (m : List Use) i => (m, (i : Int))) (fun r m => .inl (insR r m)) (fun m => m) (fun i m => BndE (162 * i) m) [] (by omega) rfl ⟨Nat.le_refl _, fun e he => by simp at he⟩ ?_ ?_ ?_
  · intro i r m hi hr hm
    have hrm : r ∈ p.1 := List.mem_of_getElem? hr
    have hmin := (hv.rnd r hrm).1
    obtain ⟨hln, hsz⟩ := (hp.2.2 r hrm).2 r.2.2.1 (.inl rfl)
    refine ⟨?_, fun s' h' => by cases h'; exact (insR_bnd hmin hln hm).mono (by omega)⟩
    have hw : w64 ((i : Int) + 1) = ((i + 1 : Nat) : Int) := by rw [w64_in (by omega) (by omega)]; omega
    simp (disch := omega) only [cd_pos, gd_dec, Int.toNat_natCast, getD_some hr, decide_true, Bool.and_self, gd_true, Option.bind_some]
    refine bind_list r.2.2.1 (fun (m : List Use) j => (m, (j : Int))) (fun a m => .inl (insU (a, r.2.1) m)) (fun m => m) (fun j m => BndE (162 * i + j) m) m (by omega) rfl hm ?_ ?_ ?_
    · intro j a l hj ha hl
      have hll := hl.len
      refine ⟨?_, fun s' h' => by cases h'; exact hl.ins (x := (a, r.2.1)) ⟨by simp only; omega, hmin.2⟩⟩
      have hwj : w64 ((j : Int) + 1) = ((j + 1 : Nat) : Int) := by rw [w64_in (by omega) (by omega)]; omega
      simp (disch := omega) only [cd_pos, gd_dec, Int.toNat_natCast, getD_some ha]
      refine bind_find l (fun y => !ltS y.1 a) (fun k => (k : Int)) (l.length : Int) (by omega) ?_ ?_ ?_
      · intro k y hk hy
        simp (disch := omega) only [cd_pos, gd_dec, Int.toNat_natCast, Nat.zero_add, getD_some hy, w64_in, ltS_eq, Option.bind_some]
        cases ltS y.1 a <;> rfl
      · simp (disch := omega) only [cd_neg, Option.bind_some, cond_false]
      · rw [insU_at (a, r.2.1) (ByteArray.empty, (0 : Int)) l]
        have hrf : ∀ V : List Use, AltsEl.eqv ((Exit.normal, { cells := Cel.vec 1 71 (Ty.str :: Ty.int IntKind.i64 :: nilT Ty) :: nilT Cel, owns := (3, Lk.own 1) :: nilT (Nat × Lk) }) :: nilT (Exit × Tmpl)) V V = true := fun V => AltsEl.eqv_rf ((Exit.normal, { cells := Cel.vec 1 71 (Ty.str :: Ty.int IntKind.i64 :: nilT Ty) :: nilT Cel, owns := (3, Lk.own 1) :: nilT (Nat × Lk) }) :: nilT (Exit × Tmpl)) V
        cases hf : l.findIdx? (fun y => !ltS y.1 a) with
        | none =>
          dsimp only
          have hA : (l.take l.length ++ (a, (0 : Int)) :: nilT Use).length = l.length + 1 := by simp [nilT]
          have hB : ((l.take l.length ++ (a, (0 : Int)) :: nilT Use) ++ List.take (l.length - l.length) (List.drop l.length l)) = l ++ [(a, 0)] := by simp [nilT]
          have hC : (l ++ [(a, (0 : Int))]).length = l.length + 1 := by simp
          have hD : (l ++ [(a, (0 : Int))]).getD l.length (ByteArray.empty, (0 : Int)) = (a, 0) := getD_mid rfl
          have hE : ∀ z : Use, (l ++ [(a, (0 : Int))]).set l.length z = l ++ [z] := fun z => set_mid rfl
          have hF' : ∀ z : Use, (l ++ [z]).length = l.length + 1 := fun z => by simp
          have hw0 : w64 (0 + r.2.1) = r.2.1 := by rw [w64_in (by omega) (by omega)]; omega
          simp (disch := omega) only [cd_pos, gd_dec, Int.toNat_natCast, Nat.zero_add, Nat.sub_zero, List.drop_zero, Option.bind_some, decide_true, cond_true, hA, hB, hC, hD, hE, hF', len_take, hw0, hwj, Bool.and_self, gd_true, hrf]
        | some k =>
          dsimp only
          have hk : k < l.length := (List.findIdx?_eq_some_iff_getElem.1 hf).1
          obtain ⟨e, he⟩ : ∃ e, l[k]? = some e := ⟨_, List.getElem?_eq_getElem hk⟩
          have hev := hl.val e (List.mem_of_getElem? he)
          have hg : l.getD k (ByteArray.empty, (0 : Int)) = e := getD_some he
          have hne : ¬ (k : Int) = (l.length : Int) := by omega
          have hwe : w64 (e.2 + r.2.1) = e.2 + r.2.1 := w64_in (by omega) (by omega)
          have hw0 : w64 (0 + r.2.1) = r.2.1 := by rw [w64_in (by omega) (by omega)]; omega
          rw [hg]
          by_cases hea : e.1 = a
          · have hs : strEq e.1 a = true := strEq_true.2 hea
            simp (disch := omega) only [cd_pos, cd_neg hne, gd_dec, Int.toNat_natCast, Nat.zero_add, Option.bind_some, hg, hs, Bool.not_true, cond_false, if_pos hea, hwe, hwj, List.length_set, decide_true, Bool.and_self, gd_true]
          · have hs : strEq e.1 a = false := Bool.eq_false_iff.2 fun h => hea (strEq_true.1 h)
            have hA : (l.take k ++ (a, (0 : Int)) :: nilT Use).length = k + 1 := by simp [nilT]; omega
            have hT : List.take (l.length - k) (List.drop k l) = List.drop k l := List.take_of_length_le (by simp)
            have hB : ∀ z : Use, l.take k ++ z :: nilT Use ++ List.drop k l = l.take k ++ z :: l.drop k := fun z => by simp [nilT]
            have hC : ∀ z : Use, (l.take k ++ z :: l.drop k).length = l.length + 1 := fun z => by simp; omega
            have hD : (l.take k ++ (a, (0 : Int)) :: l.drop k).getD k (ByteArray.empty, (0 : Int)) = (a, 0) := getD_mid (len_take (by omega))
            have hE : ∀ z : Use, (l.take k ++ (a, (0 : Int)) :: l.drop k).set k z = l.take k ++ z :: l.drop k := fun z => set_mid (len_take (by omega))
            simp (disch := omega) only [cd_pos, cd_neg hne, gd_dec, Int.toNat_natCast, Nat.zero_add, Nat.sub_zero, List.drop_zero, Option.bind_some, hg, hs, Bool.not_false, cond_true, if_neg hea, hA, hT, hB, hC, hD, hE, len_take, hw0, hwj, decide_true, Bool.and_self, gd_true, hrf]
    · intro m hm
      simp (disch := omega) only [cd_neg, gd_dec, decide_true, Bool.and_self, gd_true, Option.bind_some]
    · rw [goL_fold (fun m a => insU (a, r.2.1) m)]
      rw [hw]
      rfl
  · intro m hm
    simp (disch := omega) only [cd_neg, decide_true, Bool.and_self, gd_true, Option.bind_some]
  · rw [goL_fold (fun m r => insR r m)]
    show gd _ (some (List.take (loadS p).length (List.drop 0 (loadS p)))) = _
    rw [take_all]
    have : 0 + (loadS p).length ≤ (loadS p).length := by omega
    exact gd_dec this
end Go.Proofs.Tryz
section
namespace Go.Proofs.Tryz
open Go Go.Sx
noncomputable section
def c3 (F : Nat) (a : TP) : Option (Bool) :=
  let z1 := (0 : Int); Option.bind (c14 F (a.1, a.2.1, a.2.2)) fun (v35 : TP) => let z2 := (v35.1, v35.2.1, v35.2.2); Option.bind (c16 F z2) fun (v36 : Bool) => bif !v36 then (some (true)) else (Option.bind (c17 F (a.1, a.2.1, a.2.2)) fun (v37 : List (Int × Int) × Int) => let z3 := (↑(List.length v37.1) : Int); Option.bind (c18 F (a.1, a.2.1, a.2.2)) fun (v38 : Int × Int) => Option.bind (c19 F z2) fun (v39 : Int) => bif !decide (v39 = z1) then (Option.bind (bif decide (z3 = z1) then (bif decide (v37.2 = v39) then (Option.bind (c20 F (v38.1, v38.2, v39, z1)) fun (v41 : Bool) => some (v41)) else (some (false))) else (some (false))) fun (v40 : Bool) => some (v40)) else (Option.bind (c21 F z2) fun (v42 : List (Int × Int) × Bool) => let z4 := (bif v42.2 then (bif !decide (v37.2 = z1) then (some (true)) else (some (!decide (z3 = (↑(List.length v42.1) : Int))))) else (some (false))); Option.bind (bif !v42.2 then (bif !decide (z3 = z1) then (some (true)) else (bif !decide (v37.2 = (23 : Int)) then (some (true)) else z4)) else z4) fun (v43 : Bool) => bif v43 then (some (false)) else (Option.bind (loopO (σ := Int) (β := Bool ⊕ Unit) (fun (v50 : Int) => let z6 := (List.getD v42.1 (Int.toNat v50) (z1, z1)); let z5 := (List.getD v37.1 (Int.toNat v50) (z1, z1)); bif decide (v50 < z3) then (gd (decide (z1 ≤ v50)) (gd (decide (v50 < z3)) (gd (decide (Int.toNat v50 < List.length v37.1)) (gd (decide (z1 ≤ v50)) (gd (decide (v50 < (↑(List.length v42.1) : Int))) (gd (decide (Int.toNat v50 < List.length v42.1)) (bif !(decide (z5.1 = z6.1) && (decide (z5.2 = z6.2) && true)) then (some (Sum.inr (Sum.inl false))) else (some (Sum.inl (w64 (v50 + (1 : Int)))))))))))) else (some (Sum.inr (Sum.inr ())))) F (z1)) fun (v44 : Bool ⊕ Unit) => Sum.elim (fun (v45 : Bool) => some (v45)) (fun (v46 : Unit) => Option.bind (c22 F z2) fun (v47 : Int × Bool) => Option.bind (c23 F (!v47.2, (23 : Int))) fun (v48 : Int) => Option.bind (c20 F (v38.1, v38.2, v48, v47.1)) fun (v49 : Bool) => some (v49)) (v44))))
end
end Go.Proofs.Tryz
end
namespace Go.Proofs.Tryz
open Go Go.Sx
theorem beqB (x : ByteArray) : (x == x) = true := by cases x with | mk d => exact (beq_self_eq_true d)
end Go.Proofs.Tryz
section
namespace Go.Proofs.Tryz
open Go Go.Sx
noncomputable section
end
end Go.Proofs.Tryz
end
section
namespace Go.Proofs.Tryz
open Go Go.Sx
end Go.Proofs.Tryz
end
section
namespace Go.Proofs.Tryz
open Go Go.Sx
end Go.Proofs.Tryz
end
namespace Go.Proofs.Tryz
open Go Go.Sx
theorem StabS.congr {α : Type} {lt1 lt2 : α → α → Bool} {l d : List α} (h : ∀ a ∈ l, ∀ b ∈ l, lt1 a b = lt2 a b) (hs : StabS lt1 l d) : StabS lt2 l d := by
  have hm : ∀ x, x ∈ d → x ∈ l := fun x hx => hs.mem.1 hx
  refine ⟨hs.1, ?_, fun x hx => ?_⟩
  · refine List.Pairwise.imp_of_mem (fun {a b} ha hb hab => ?_) hs.2.1
    unfold Go.Sx.leB at *
    rw [← h b (hm b hb) a (hm a ha)]
    exact hab
  · have h1 : d.filter (eqvB lt2 x) = d.filter (eqvB lt1 x) := List.filter_congr fun y hy => by unfold eqvB; rw [h x hx y (hm y hy), h y (hm y hy) x hx]
    have h2 : l.filter (eqvB lt2 x) = l.filter (eqvB lt1 x) := List.filter_congr fun y hy => by unfold eqvB; rw [h x hx y hy, h y hy x hx]
    rw [h1, h2]
    exact hs.2.2 x hx
theorem brok_find (p : Pln) (t : List Int) : (brokS p t).1 = (((rulesS p).findIdx fun r => !holdS p t r : Nat) : Int) ∧ ((brokS p t).2 = false ↔ ∀ r ∈ rulesS p, holdS p t r = true) := by
  unfold brokS
  cases h : (rulesS p).findIdx? fun r => !holdS p t r with
  | none =>
    have hn := List.findIdx?_eq_none_iff.1 h
    refine ⟨?_, fun _ r hr => by have := hn r hr; simpa using this, fun _ => rfl⟩
    rw [List.findIdx_eq_length_of_false fun r hr => by simpa using hn r hr]
  | some i =>
    obtain ⟨hi, h1, h2⟩ := List.findIdx?_eq_some_iff_getElem.1 h
    refine ⟨?_, ⟨fun h => ?_, fun h => ?_⟩⟩
    · show (i : Int) = _
      congr 1
      exact ((List.findIdx_eq hi).2 ⟨by simpa using h1, fun j hj => by have := h2 j hj; simpa using this⟩).symm
    · exact absurd (show true = false from h) (by decide)
    · have := h _ (List.getElem_mem hi)
      rw [this] at h1
      simp at h1
theorem Hol.win {p : Pln} (hp : PV p) {t : List Int} (h : Hol p (rulesS p) t) {i : Nat} (hi : i < p.1.length) : 0 ≤ fL t i ∧ fL t i ≤ 20000 := by
  have h1 := holW.1 (h.rul _ (List.mem_of_getElem? (win_rul hi)))
  have h2 := hp.at (a := (i : Int)) (by omega) (by omega)
  omega
theorem Hol.brok {p : Pln} {t : List Int} (h : Hol p (rulesS p) t) : (brokS p t).2 = false := by
  unfold brokS
  have : ((rulesS p).findIdx? fun r => !holdS p t r) = none := by
    rw [List.findIdx?_eq_none_iff]
    intro r hr
    simp [h.rul r hr]
  rw [this]
def wS (p : Pln) (t : List Int) (k : Nat) : Int := (rq p (k : Int)).2.2.2.2.2.2 - (rq p (k : Int)).2.1 - fL t k
def fsI (t : List Int) (r : Rul) : Int := if tq t r.2.2.1 < tq t r.2.1 then r.2.2.1 else r.2.1
def snI (t : List Int) (r : Rul) : Int := if tq t r.2.2.1 < tq t r.2.1 then r.2.1 else r.2.2.1
def bS (p : Pln) (t : List Int) (r : Rul) : Int := tq t (snI t r) - r.2.2.2 - (rq p (fsI t r)).2.1 - tq t (fsI t r)
theorem fs_in {p : Pln} {t : List Int} {r : Rul} (hr : RulOk p r) : InE p.1.length (fsI t r) ∧ InE p.1.length (snI t r) := by
  unfold fsI snI
  split
  · exact ⟨hr.b, hr.a⟩
  · exact ⟨hr.a, hr.b⟩
theorem kW_of {k : ByteArray} : strEq k kW = true ↔ k = kW := by rw [strEq_dec, decide_eq_true_eq]
theorem kO_of {k : ByteArray} : strEq k kO = true ↔ k = kO := by rw [strEq_dec, decide_eq_true_eq]
theorem dirS {p : Pln} (hp : PV p) {t : List Int} {r : Rul} (hr : RulOk p r) (hw : r.1 ≠ kW) (h : holdS p t r = true) :
    (fsI t r = r.2.1 ∧ snI t r = r.2.2.1 ∨ r.1 ≠ kO ∧ fsI t r = r.2.2.1 ∧ snI t r = r.2.1) ∧ 0 ≤ bS p t r := by
  have ha := (hp.at hr.a.1 hr.a.2).1
  have hb := (hp.at hr.b.1 hr.b.2).1
  have hg := hr.gap
  unfold holdS at h
  rw [if_neg (fun e => hw (kW_of.1 e))] at h
  have d1 : befS p t r.2.1 r.2.2.1 r.2.2.2 = true → (fsI t r = r.2.1 ∧ snI t r = r.2.2.1) ∧ 0 ≤ bS p t r := fun h => by
    unfold befS at h
    have h := of_decide_eq_true h
    have hn : ¬ tq t r.2.2.1 < tq t r.2.1 := by omega
    unfold bS fsI snI
    simp only [if_neg hn]
    exact ⟨⟨trivial, trivial⟩, by omega⟩
  by_cases ho : strEq r.1 kO = true
  · rw [if_pos ho] at h
    obtain ⟨a, b⟩ := d1 h
    exact ⟨.inl a, b⟩
  · rw [if_neg ho, Bool.or_eq_true] at h
    rcases h with h | h
    · obtain ⟨a, b⟩ := d1 h
      exact ⟨.inl a, b⟩
    · unfold befS at h
      have h := of_decide_eq_true h
      have hn : tq t r.2.2.1 < tq t r.2.1 := by omega
      unfold bS fsI snI
      simp only [if_pos hn]
      exact ⟨.inr ⟨fun e => ho (kO_of.2 e), trivial, trivial⟩, by omega⟩
structure SlkS (p : Pln) (t : List Int) (L : List Rul) (s : List Int) : Prop where
  len : s.length = p.1.length
  le : ∀ k, k < p.1.length → fL s k ≤ wS p t k
  leR : ∀ r ∈ L, r.1 ≠ kW → fL s (fsI t r).toNat ≤ bS p t r
  eq : ∀ k, k < p.1.length → fL s k = wS p t k ∨ ∃ r ∈ L, r.1 ≠ kW ∧ fsI t r = (k : Int) ∧ fL s k = bS p t r
theorem SlkS.nn {p : Pln} (hp : PV p) {t : List Int} (ht : Hol p (rulesS p) t) {L : List Rul} (hL : ∀ r ∈ L, r ∈ rulesS p) {s : List Int} (h : SlkS p t L s) {k : Nat} (hk : k < p.1.length) : 0 ≤ fL s k ∧ fL s k ≤ 20000 := by
  have h1 := holW.1 (ht.rul _ (List.mem_of_getElem? (win_rul hk)))
  have h2 := hp.at (a := (k : Int)) (by omega) (by omega)
  have h3 := h.le k hk
  unfold wS at h3
  refine ⟨?_, by omega⟩
  rcases h.eq k hk with e | ⟨r, hr, hw, -, e⟩
  · rw [e]
    unfold wS
    omega
  · rw [e]
    exact (dirS hp (hp.rulM r (hL r hr)) hw (ht.rul r (hL r hr))).2
theorem set_tq {p : Pln} {t : List Int} (ht : t.length = p.1.length) {k : Nat} (hk : k < p.1.length) {v a : Int} (ha : InE p.1.length a) : tq (t.set k v) a = if a = (k : Int) then v else tq t a := by
  have h1 := ha.1
  have h2 := ha.2
  show fL (t.set k v) a.toNat = _
  rw [fL_set (by omega)]
  by_cases h : a = (k : Int)
  · rw [if_pos h, if_pos (by omega)]
  · rw [if_neg h, if_neg (by omega)]
theorem slk_le {p : Pln} (hp : PV p) {t : List Int} (ht : Hol p (rulesS p) t) {s : List Int} (h : SlkS p t (rulesS p) s) {k : Nat} (hk : k < p.1.length) {d : Int} (hd0 : 0 ≤ d) (hd : d ≤ fL s k) : Hol p (rulesS p) (t.set k (fL t k + d)) := by
  have hs := h.nn hp ht (fun _ h => h) hk
  have htk := ht.win hp hk
  have hset := fun {v a : Int} => set_tq (p := p) (v := v) (a := a) ht.len hk
  refine ⟨by rw [List.length_set]; exact ht.len, fun i hi => ?_, fun r hr => ?_⟩
  · have := hset (v := fL t k + d) (a := (i : Int)) ⟨by omega, by omega⟩
    have e : fL (t.set k (fL t k + d)) i = tq (t.set k (fL t k + d)) (i : Int) := by simp only [fL, tq, Int.toNat_natCast]
    rw [e, this]
    have h0 := ht.rng i hi
    split
    · omega
    · simp only [fL, tq, Int.toNat_natCast] at h0 ⊢
      exact h0
  · have hro := hp.rulM r hr
    have hh := ht.rul r hr
    by_cases hw : r.1 = kW
    · obtain ⟨j, hj⟩ := List.mem_iff_getElem?.1 hr
      rcases rul_cases hj with ⟨h1, rfl⟩ | ⟨h1, h2, o, ho, rfl⟩ | ⟨h1, a, b, x, y, hab, hx, hy, hm⟩
      · rw [holW] at hh ⊢
        have e : fL (t.set k (fL t k + d)) j = if j = k then fL t k + d else fL t j := fL_set (by rw [ht.len]; exact hk)
        rw [e]
        split
        · rename_i hjk
          subst hjk
          have := h.le j h1
          unfold wS at this
          omega
        · exact hh
      · exact absurd hw (kne sOW)
      · rcases pairR_mem hm with rfl | rfl | rfl
        · exact absurd hw (kne sAW)
        · exact absurd hw (kne sFW)
        · exact absurd hw (kne sTW)
    · obtain ⟨hdir, hb0⟩ := dirS hp hro hw hh
      have hle := h.leR r hr hw
      have hin := fs_in (t := t) hro
      have hne : fsI t r ≠ snI t r := by
        have := hro.ne hw
        unfold fsI snI
        split <;> omega
      have u1 := hset (v := fL t k + d) hin.1
      have u2 := hset (v := fL t k + d) hin.2
      have key : tq (t.set k (fL t k + d)) (fsI t r) + ((rq p (fsI t r)).2.1 + r.2.2.2) ≤ tq (t.set k (fL t k + d)) (snI t r) := by
        rw [u1, u2]
        unfold bS at hle hb0
        by_cases e1 : fsI t r = (k : Int)
        · rw [if_pos e1, if_neg (fun e2 => hne (e1.trans e2.symm))]
          rw [e1] at hle hb0 ⊢
          have e3 : tq t (k : Int) = fL t k := by simp only [fL, tq, Int.toNat_natCast]
          rw [e3] at hle
          rw [Int.toNat_natCast] at hle
          omega
        · rw [if_neg e1]
          split
          · rename_i e2
            rw [e2] at hb0
            have e3 : tq t (k : Int) = fL t k := by simp only [fL, tq, Int.toNat_natCast]
            rw [e3] at hb0
            omega
          · omega
      generalize t.set k (fL t k + d) = u at key
      unfold holdS
      rw [if_neg (fun e => hw (kW_of.1 e))]
      rcases hdir with ⟨e1, e2⟩ | ⟨ho, e1, e2⟩
      · rw [e1, e2] at key
        have hbf : befS p u r.2.1 r.2.2.1 r.2.2.2 = true := decide_eq_true (by omega)
        split
        · exact hbf
        · rw [hbf]; rfl
      · rw [e1, e2] at key
        have hbf : befS p u r.2.2.1 r.2.1 r.2.2.2 = true := decide_eq_true (by omega)
        rw [if_neg (fun e => ho (kO_of.1 e)), hbf, Bool.or_true]
theorem slk_bad {p : Pln} (hp : PV p) {t : List Int} (ht : Hol p (rulesS p) t) {s : List Int} (h : SlkS p t (rulesS p) s) {k : Nat} (hk : k < p.1.length) : ¬ ∀ r ∈ rulesS p, holdS p (t.set k (fL t k + fL s k + 1)) r = true := by
  intro hall
  have hset := fun {v a : Int} => set_tq (p := p) (v := v) (a := a) ht.len hk
  rcases h.eq k hk with e | ⟨r, hr, hw, hf, e⟩
  · have h1 := holW.1 (hall _ (List.mem_of_getElem? (win_rul hk)))
    have e2 : fL (t.set k (fL t k + fL s k + 1)) k = fL t k + fL s k + 1 := by rw [fL_set (by rw [ht.len]; exact hk), if_pos rfl]
    rw [e2, e] at h1
    unfold wS at h1
    omega
  · have hro := hp.rulM r hr
    have ha := (hp.at hro.a.1 hro.a.2).1
    have hb := (hp.at hro.b.1 hro.b.2).1
    have hg := hro.gap
    have hh := hall r hr
    have hne := hro.ne hw
    have u1 := hset (v := fL t k + fL s k + 1) hro.a
    have u2 := hset (v := fL t k + fL s k + 1) hro.b
    generalize t.set k (fL t k + fL s k + 1) = u at u1 u2 hh
    have e3 : tq t (k : Int) = fL t k := by simp only [fL, tq, Int.toNat_natCast]
    obtain ⟨hdir, -⟩ := dirS hp hro hw (ht.rul r hr)
    unfold bS at e
    unfold holdS at hh
    rw [if_neg (fun e => hw (kW_of.1 e))] at hh
    have hor : befS p u r.2.1 r.2.2.1 r.2.2.2 = true ∨ (r.1 ≠ kO ∧ befS p u r.2.2.1 r.2.1 r.2.2.2 = true) := by
      split at hh
      · exact .inl hh
      · rename_i ho
        rw [Bool.or_eq_true] at hh
        exact hh.imp id fun x => ⟨fun e => ho (kO_of.2 e), x⟩
    rcases hdir with ⟨e1, e2⟩ | ⟨ho, e1, e2⟩
    · rw [e1] at hf
      rw [e1, e2, hf, e3] at e
      rw [hf] at u1 ha hne
      rw [if_pos rfl] at u1
      rw [if_neg (fun x => hne x.symm)] at u2
      rcases hor with hx | ⟨-, hx⟩
      · have hx := of_decide_eq_true hx
        rw [hf, u1, u2] at hx
        omega
      · have hx := of_decide_eq_true hx
        rw [hf, u1, u2] at hx
        omega
    · rw [e1] at hf
      rw [e1, e2, hf, e3] at e
      rw [hf] at u2 hb hne
      rw [if_pos rfl] at u2
      rw [if_neg hne] at u1
      rcases hor with hx | ⟨-, hx⟩
      · have hx := of_decide_eq_true hx
        rw [hf, u1, u2] at hx
        omega
      · have hx := of_decide_eq_true hx
        rw [hf, u1, u2] at hx
        omega
theorem bWW : (kW == kW) = true := beqB kW
theorem bOW : (kO == kW) = false := by kernel_rfl
theorem bAW : (kA == kW) = false := by kernel_rfl
theorem bFW : (kF == kW) = false := by kernel_rfl
theorem bTW : (kT == kW) = false := by kernel_rfl
theorem ex_fst {v : Option (List Int × Int)} {S : List Int → Prop} (h : ∃ r, v = some r ∧ ∃ s, r = (s, (0 : Int)) ∧ S s) : ∃ s, v = some (s, 0) ∧ S s := by
  obtain ⟨r, h1, s, h2, h3⟩ := h
  exact ⟨s, by rw [h1, h2], h3⟩
theorem l46 {F : Nat} (hF : 4000 ≤ F) {p : Pln} (hp : PShort p) {t : List Int} (hl : t.length ≤ 300) (hs : soundE p t = 0) : ((brokS p t).2 = true → c46 F (p, t) = some ([], 29)) ∧ ((brokS p t).2 = false → ∃ s, c46 F (p, t) = some (s, 0) ∧ SlkS p t (rulesS p) s) := by
  obtain ⟨h0, hf⟩ := soundE_zero hs
  have hv := PV.of hp h0
  obtain ⟨htk, hrg⟩ := TOk.of hf
  have hrl := rulesS_len (p := p) (by have := hv.n1; omega) (by have := hv.n2; omega)
  have hn := hv.n1
  have htl := htk.len
  unfold c46
  simp only [peta, l96 (show 400 ≤ F by omega) hp hl, hs, Option.bind_some, decide_true, Bool.not_true, cond_false, l97 (show 3000 ≤ F by omega) hv htk]
  refine ⟨fun hb => ?_, fun hb => ?_⟩
  · simp [hb, nilT]
  · have hol : Hol p (rulesS p) t := ⟨htl, fun i hi => by have := htk.at (a := (i : Int)) (by omega) (by omega); have h2 := hrg (t.getD i 0) (getD_mem (by omega)); simp only [fL]; omega, (brok_find p t).2.1 hb⟩
    refine ex_fst ?_
    simp (disch := omega) only [hb, cond_false, gd_dec, Int.toNat_natCast]
    refine bind_cnt (F := F) 0 p.1.length (fun i s => s.length = p.1.length ∧ ∀ k, k < i → fL s k = wS p t k) (fun s => s.length = p.1.length ∧ ∀ k, k < p.1.length → fL s k = wS p t k) (Nat.zero_le _) (by omega) ⟨by simp [htl], fun k hk => by omega⟩ ?_ ?_ ?_
    · intro i s _ hi ⟨hsl, hsv⟩
      have hx := List.getElem?_eq_getElem hi
      have h1 := hv.at (a := (i : Int)) (by omega) (by omega)
      have h2 := htk.at (a := (i : Int)) (by omega) (by omega)
      simp only [tq, Int.toNat_natCast] at h2
      have hw : w64 (w64 ((p.1.getD i (ByteArray.empty, (0 : Int), nilT ByteArray, nilT ByteArray, nilT ByteArray, (0 : Int), (0 : Int))).2.2.2.2.2.2 - (p.1.getD i (ByteArray.empty, (0 : Int), nilT ByteArray, nilT ByteArray, nilT ByteArray, (0 : Int), (0 : Int))).2.1) - t.getD i 0) = wS p t i := by
        show w64 (w64 ((rq p (i : Int)).2.2.2.2.2.2 - (rq p (i : Int)).2.1) - fL t i) = _
        unfold wS
        simp only [fL]
        rw [w64_in (n := (rq p (i : Int)).2.2.2.2.2.2 - (rq p (i : Int)).2.1) (by omega) (by omega)]
        exact w64_in (by omega) (by omega)
      refine ⟨s.set i (wS p t i), ?_, by simp [hsl], fun k hk => ?_⟩
      · simp (disch := omega) only [cd_pos, gd_dec, Int.toNat_natCast, Nat.zero_add, hw, w64_in]
      · rw [fL_set (by omega)]
        by_cases hki : k = i
        · rw [if_pos hki, hki]
        · rw [if_neg hki]; exact hsv k (by omega)
    · intro s ⟨hsl, hsv⟩
      refine ⟨s, ?_, hsl, hsv⟩
      simp (disch := omega) only [cd_neg]
    · intro s0 ⟨hsl0, hsv0⟩
      simp only [l65 (show 400 ≤ F by omega) hp, Option.bind_some]
      refine bind_cnt (F := F) 0 (rulesS p).length (fun i s => SlkS p t ((rulesS p).take i) s) (SlkS p t (rulesS p)) (Nat.zero_le _) (by omega) ⟨hsl0, fun k hk => by rw [hsv0 k hk]; exact Int.le_refl _, fun r hr => by simp at hr, fun k hk => .inl (hsv0 k hk)⟩ ?_ ?_ ?_
      · intro i s _ hi hS
        have hr := List.getElem?_eq_getElem hi
        have hrm := List.getElem_mem hi
        generalize (rulesS p)[i] = r at hr hrm
        have hro := hv.rulM r hrm
        have hha := hol.rul r hrm
        have hsub : ∀ r ∈ (rulesS p).take i, r ∈ rulesS p := fun r h => List.mem_of_mem_take h
        have htake : (rulesS p).take (i + 1) = (rulesS p).take i ++ [r] := (take_snoc hr).symm
        have hsl := hS.len
        by_cases hw : r.1 = kW
        · refine ⟨s, ?_, ?_⟩
          · have hb : r.2.2.1 = r.2.1 := hro.win hw
            simp (disch := omega) only [cd_pos, gd_dec, Int.toNat_natCast, getD_some hr, eW, hw, bWW, hb, decide_true, Bool.and_self, cond_true, Option.bind_some, w64_in]
          · rw [htake]
            refine ⟨hsl, hS.le, fun x hx hxw => ?_, fun k hk => (hS.eq k hk).imp id fun ⟨x, hx, h⟩ => ⟨x, List.mem_append_left _ hx, h⟩⟩
            rcases List.mem_append.1 hx with h | h
            · exact hS.leR x h hxw
            · rw [List.mem_singleton.1 h] at hxw
              exact absurd hw hxw
        · have hbe : (r.1 == kW) = false := by
            rcases hro.kind with e | e | e | e | e
            · exact absurd e hw
            · rw [e]; exact bOW
            · rw [e]; exact bAW
            · rw [e]; exact bFW
            · rw [e]; exact bTW
          have hin := fs_in (t := t) hro
          have i1 := hin.1.1
          have i2 := hin.1.2
          have i3 := hin.2.1
          have i4 := hin.2.2
          have ha := hro.a
          have hb := hro.b
          have hg := hro.gap
          have m1 := hv.at hin.1.1 hin.1.2
          have q1 := htk.at hin.1.1 hin.1.2
          have q2 := htk.at hin.2.1 hin.2.2
          have hpick : (bif decide (t.getD r.2.2.1.toNat 0 < t.getD r.2.1.toNat 0) then some (r.2.2.1, r.2.1) else some (r.2.1, r.2.2.1)) = some (fsI t r, snI t r) := by
            unfold fsI snI
            by_cases h : tq t r.2.2.1 < tq t r.2.1
            · have h' : t.getD r.2.2.1.toNat 0 < t.getD r.2.1.toNat 0 := h
              rw [if_pos h, if_pos h, cd_pos h']
            · have h' : ¬ t.getD r.2.2.1.toNat 0 < t.getD r.2.1.toNat 0 := h
              rw [if_neg h, if_neg h, cd_neg h']
          have hwb : w64 (w64 (w64 (t.getD (snI t r).toNat 0 - r.2.2.2) - (p.1.getD (fsI t r).toNat (ByteArray.empty, (0 : Int), nilT ByteArray, nilT ByteArray, nilT ByteArray, (0 : Int), (0 : Int))).2.1) - t.getD (fsI t r).toNat 0) = bS p t r := by
            show w64 (w64 (w64 (tq t (snI t r) - r.2.2.2) - (rq p (fsI t r)).2.1) - tq t (fsI t r)) = _
            unfold bS
            rw [w64_in (n := tq t (snI t r) - r.2.2.2) (by omega) (by omega), w64_in (n := tq t (snI t r) - r.2.2.2 - (rq p (fsI t r)).2.1) (by omega) (by omega)]
            exact w64_in (by omega) (by omega)
          refine ⟨s.set (fsI t r).toNat (if bS p t r < fL s (fsI t r).toNat then bS p t r else fL s (fsI t r).toNat), ?_, ?_⟩
          · simp (disch := omega) only [cd_pos, gd_dec, Int.toNat_natCast, getD_some hr, eW, hbe, Bool.false_and, cond_false, hpick, Option.bind_some, Nat.zero_add, hwb, w64_in]
          · rw [htake]
            refine ⟨by rw [List.length_set]; exact hsl, fun k hk => ?_, fun x hx hxw => ?_, fun k hk => ?_⟩
            · rw [fL_set (by omega)]
              have := hS.le k hk
              split
              · rename_i hkf
                rw [← hkf]
                split <;> omega
              · exact this
            · rw [fL_set (by omega)]
              rcases List.mem_append.1 hx with h | h
              · have := hS.leR x h hxw
                split
                · rename_i hkf
                  rw [← hkf]
                  split <;> omega
                · exact this
              · rw [List.mem_singleton.1 h, if_pos rfl]
                split <;> omega
            · rw [fL_set (by omega)]
              by_cases hkf : k = (fsI t r).toNat
              · rw [if_pos hkf]
                split
                · exact .inr ⟨r, by simp, hw, by omega, rfl⟩
                · rw [← hkf]
                  exact (hS.eq k hk).imp id fun ⟨x, hx, h⟩ => ⟨x, List.mem_append_left _ hx, h⟩
              · rw [if_neg hkf]
                exact (hS.eq k hk).imp id fun ⟨x, hx, h⟩ => ⟨x, List.mem_append_left _ hx, h⟩
      · intro s hS
        refine ⟨s, ?_, by rwa [List.take_length] at hS⟩
        simp (disch := omega) only [cd_neg]
      · intro s hS
        have e : List.take t.length (List.drop 0 s) = s := by rw [List.drop_zero]; exact List.take_of_length_le (by have := hS.len; omega)
        refine ⟨(s, 0), ?_, s, rfl, hS⟩
        have hsl := hS.len
        simp (disch := omega) only [e, gd_dec, decide_true, Bool.and_self, gd_true, Int.toNat_natCast]
        simp [hsl, htl, gd_true]
abbrev r4 : Rul := (ByteArray.empty, (0 : Int), (0 : Int), (0 : Int))
def pickS (L : List Rul) (ns : List Int) : List Rul := ns.map fun x => L.getD x.toNat r4
theorem Hol.congr {p : Pln} {L M : List Rul} {f : List Int} (h : ∀ r, r ∈ M → r ∈ L) (hf : Hol p L f) : Hol p M f := ⟨hf.len, hf.rng, fun r hr => hf.rul r (h r hr)⟩
theorem ex_eq {α : Type} {v : Option α} {x : α} (h : ∃ r, v = some r ∧ r = x) : v = some x := by
  obtain ⟨r, h1, rfl⟩ := h
  exact h1
def memF (k : Nat) (b : Bool) : List Int := if b = true then [(k : Int)] else []
def memS (B : List Bool) : List Int := ifl memF 0 B
def Pos (p : Pln) (B : List Bool) : Prop := ∃ f, Hol p (chS p B) f
theorem Pos.mono {p : Pln} {B C : List Bool} (h : ∀ k : Nat, C[k]? = some true → B[k]? = some true) : Pos p B → Pos p C := fun ⟨f, hf⟩ => ⟨f, hf.congr fun r hr => by
  obtain ⟨k, h1, h2⟩ := mem_chS.1 hr
  exact mem_chS.2 ⟨k, h1, h k h2⟩⟩
def bitsB (m n : Nat) : List Bool := (List.range m).map fun i => decide (n / 2 ^ i % 2 = 1)
def NotB (l best : List Int) : Prop := best.length < l.length ∨ best.length = l.length ∧ lexI best l ≤ 0
theorem NotB.refl (l : List Int) : NotB l l := .inr ⟨rfl, by rw [lexI_self]; exact Int.le_refl _⟩
theorem NotB.trans {a b c : List Int} (h1 : NotB a b) (h2 : NotB b c) : NotB a c := by
  rcases h1 with h1 | ⟨h1, k1⟩ <;> rcases h2 with h2 | ⟨h2, k2⟩
  · exact .inl (by omega)
  · exact .inl (by omega)
  · exact .inl (by omega)
  · exact .inr ⟨by omega, lexI_trans k2 k1⟩
structure SmallN (p : Pln) (m N : Nat) (best : List Int) (any : Bool) : Prop where
  no : any = false → best = [] ∧ ∀ n, n < N → Pos p (bitsB m n)
  yes : any = true → (∃ n, n < N ∧ best = memS (bitsB m n) ∧ ¬ Pos p (bitsB m n)) ∧ ∀ n, n < N → ¬ Pos p (bitsB m n) → NotB (memS (bitsB m n)) best
theorem SmallN.skip {p : Pln} {m N : Nat} {best : List Int} {any : Bool} (h : SmallN p m N best any) (hk : Pos p (bitsB m N) ∨ any = true ∧ NotB (memS (bitsB m N)) best) : SmallN p m (N + 1) best any := by
  refine ⟨fun ha => ⟨(h.no ha).1, fun n hn => ?_⟩, fun ha => ⟨(h.yes ha).1.imp fun n hn => ⟨by omega, hn.2⟩, fun n hn hp => ?_⟩⟩
  · by_cases hnN : n = N
    · subst hnN
      rcases hk with hk | ⟨hk, -⟩
      · exact hk
      · rw [ha] at hk; cases hk
    · exact (h.no ha).2 n (by omega)
  · by_cases hnN : n = N
    · subst hnN
      rcases hk with hk | ⟨-, hk⟩
      · exact absurd hk hp
      · exact hk
    · exact (h.yes ha).2 n (by omega) hp
theorem SmallN.take {p : Pln} {m N : Nat} {best : List Int} {any : Bool} (h : SmallN p m N best any) (hp : ¬ Pos p (bitsB m N)) (hb : any = true → ¬ NotB (memS (bitsB m N)) best) : SmallN p m (N + 1) (memS (bitsB m N)) true := by
  refine ⟨fun h => (nomatch h), fun _ => ⟨⟨N, by omega, rfl, hp⟩, fun n hn hpn => ?_⟩⟩
  by_cases hnN : n = N
  · subst hnN
    exact .refl _
  · cases any with
    | false => exact absurd ((h.no rfl).2 n (by omega)) hpn
    | true =>
      have h1 := (h.yes rfl).2 n (by omega) hpn
      have h2 := hb rfl
      refine h1.trans ?_
      unfold NotB at h2 ⊢
      by_cases c1 : (memS (bitsB m N)).length < best.length
      · exact .inl c1
      · refine .inr ⟨by omega, ?_⟩
        have c2 : ¬ lexI best (memS (bitsB m N)) ≤ 0 := fun h => h2 (.inr ⟨by omega, h⟩)
        have := lexI_neg best (memS (bitsB m N))
        omega
end Go.Proofs.Tryz
section
namespace Go.Proofs.Tryz
open Go Go.Sx
end Go.Proofs.Tryz
end
namespace Go.Proofs.Tryz
open Go Go.Sx
structure IrrS (p : Pln) (l : List Int) : Prop where
  asc : l.Pairwise (· < ·)
  rng : ∀ x ∈ l, 0 ≤ x ∧ x < (rulesS p).length
  bad : ¬ ∃ f, Hol p (pickS (rulesS p) l) f
  min : ∀ i, i < l.length → ∃ f, Hol p (pickS (rulesS p) (l.take i ++ l.drop (i + 1))) f
theorem hol_nil (p : Pln) : ∃ f, Hol p [] f := ⟨List.replicate p.1.length 0, by simp, fun i hi => by simp only [fL]; rw [rep_getD hi]; omega, fun r hr => nomatch hr⟩
theorem IrrS.ne {p : Pln} {l : List Int} (h : IrrS p l) : l ≠ [] := fun e => by
  subst e
  exact h.bad (hol_nil p)
end Go.Proofs.Tryz
section
namespace Go.Proofs.Tryz
open Go Go.Sx
end Go.Proofs.Tryz
end

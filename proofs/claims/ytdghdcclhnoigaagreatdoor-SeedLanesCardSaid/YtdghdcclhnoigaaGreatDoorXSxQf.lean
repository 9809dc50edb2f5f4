/- Part Qf of the own logic: functions of data and their summaries. -/
import Derived.Test.YtdghdcclhnoigaaGreatDoorXSxQe
set_option linter.unusedVariables false
set_option linter.unusedSimpArgs false
set_option linter.unnecessarySimpa false
namespace Go.Sx
open Go
def AEls : List ATy → Type
  | [] => Unit
  | [a] => a.El
  | a :: a' :: l => a.El × AEls (a' :: l)
def AEls.eqv : (l : List ATy) → AEls l → AEls l → Bool
  | [] => unitEq
  | [a] => a.eqv
  | a :: a' :: l => pairEq a.eqv (AEls.eqv (a' :: l))
theorem AEls.eqv_ok : ∀ (l : List ATy), EqOk (AEls.eqv l)
  | [] => fun a b h => rfl
  | [a] => ATy.eqv_ok a
  | a :: a' :: l => pairEq_ok (ATy.eqv_ok a) (AEls.eqv_ok (a' :: l))
def svs : (l : List ATy) → AEls l → List SV
  | [], _ => []
  | [a], x => [a.sv x]
  | a :: a' :: l, x => a.sv x.1 :: svs (a' :: l) x.2
def rdL (H : List SObj) (n : Nat) : (l : List ATy) → List SV → Option (Bool × AEls l)
  | [] => rdNilS
  | [a] => rdOneS (rdA H n a)
  | a :: a' :: l => rdConsS (rdA H n a) (rdL H n (a' :: l))
theorem SRep.free_env {M : Imm} {ρ ρ2 : Env} {v : Value} {x : SV} (h : SRep M ρ v x) : x.free 0 = true → SRep M ρ2 v x := by
  have fl : ∀ (l : List SV), freeL 0 l = true → ∀ (i : Nat) (x : SV), l[i]? = some x → x.free 0 = true := by
    intro l
    induction l with
    | nil => intro _ i x h; simp at h
    | cons y l ih =>
      intro h i x hx
      simp only [freeL, Bool.and_eq_true] at h
      cases i with
      | zero => simp at hx; subst hx; exact h.1
      | succ i => exact ih h.2 i x (by simpa using hx)
  induction h with
  | any v => intro _; exact .any v
  | pv h => intro _; exact .pv h
  | agg cs l hl _ ih => intro hf; exact .agg cs l hl fun i v x hv hx => ih i v x hv hx (fl l hf i x hx)
  | tup cs l hl _ ih => intro hf; exact .tup cs l hl fun i v x hv hx => ih i v x hv hx (fl l hf i x hx)
  | fn f a b x y ha hb _ _ ih jh =>
    intro hf
    simp only [SV.free, Bool.and_eq_true] at hf
    exact .fn f a b x y ha hb (fun i v s hv hs => ih i v s hv hs (fl x hf.1 i s hs)) (fun i v s hv hs => jh i v s hv hs (fl y hf.2 i s hs))
  | ptr s => intro hf; simp [SV.free] at hf
  | sl s => intro hf; simp [SV.free] at hf
  | slz s => intro hf; simp [SV.free] at hf
  | mp s => intro hf; simp [SV.free] at hf
  | yld s => intro hf; simp [SV.free] at hf
theorem freeL_pv (l : List PV) : freeL 0 (l.map .pv) = true := by
  induction l with
  | nil => rfl
  | cons x l ih => simp [freeL, SV.free, ih]
theorem mkAgg_free (l : List PV) : (SV.mkAgg (l.map .pv)).free 0 = true := by
  unfold SV.mkAgg
  split
  · rfl
  · simp only [SV.free]; exact freeL_pv l
theorem ATy.sv_free : ∀ (a : ATy) (x : a.El), (a.sv x).free 0 = true
  | .val t, x => rfl
  | .agg row, x => mkAgg_free _
theorem svs_free : ∀ (l : List ATy) (x : AEls l), freeL 0 (svs l x) = true
  | [], _ => rfl
  | [a], x => by show ((a.sv x).free 0 && true) = true; rw [ATy.sv_free a x]; rfl
  | a :: a' :: l, x => by simp only [svs, freeL, ATy.sv_free, svs_free (a' :: l), Bool.and_self]
theorem retV_free (l : List ATy) (x : AEls l) : (retV (svs l x)).free 0 = true := by
  have h := svs_free l x
  unfold retV
  split
  · rename_i y e; rw [e] at h; simpa [freeL] using h
  · exact h
theorem rd0_sound {M : Imm} {ρ : Env} (n : Nat) : ∀ (k : Nat),
    (∀ (t : Ty), SizeOf.sizeOf t ≤ k → RdVal M ρ M (rdT [] n t) t.pv) ∧ (∀ (ts : List Ty), SizeOf.sizeOf ts ≤ k → RdRow M ρ M ts (rdRow [] n ts)) := by
  have hle := M.le_refl
  intro k
  induction k with
  | zero => exact ⟨fun t ht => by (cases t <;> simp at ht), fun ts ht => by (cases ts <;> simp at ht)⟩
  | succ k ih =>
    obtain ⟨ih1, ih2⟩ := ih
    refine ⟨fun t ht => ?_, fun ts ht => ?_⟩
    · match t, ht with
      | .int k, ht => exact rdScal_ok hle (intOf_ok k)
      | .bool, ht => exact rdScal_ok hle boolOf_ok
      | .str, ht => exact rdScal_ok hle strOf_ok
      | .seq row, ht =>
        intro x c y v h hc hr
        have h : rdSeq [] n row (rdRow [] n row) x = some (c, y) := h
        unfold rdSeq at h
        split at h
        · split at h
          · rename_i y' hy
            cases h
            cases hr with
            | pv hp => exact Ty.of_sound (t := .seq row) hy hp
          · cases h
        · split at h
          · cases h
          · simp at h
        · cases h
    · match ts, ht with
      | [], ht => exact rdNilS_ok
      | [t], ht => exact rdOneS_ok (ih1 t (by simp at ht; omega))
      | t :: t' :: ts, ht => exact rdConsS_ok (ih1 t (by simp at ht; omega)) (ih2 (t' :: ts) (by simp at ht ⊢; omega))
theorem rdA0_sound {M : Imm} {ρ ρ2 : Env} {n : Nat} {a : ATy} {x : SV} {c : Bool} {y : a.El} {v : Value} (h : rdA [] n a x = some (c, y)) (hc : c = true) (hr : SRep M ρ v x) : SRep M ρ2 v (a.sv y) := by
  cases a with
  | val t => exact .pv ((rd0_sound n _).1 t (Nat.le_refl _) x c y v h hc hr)
  | agg row =>
    refine ATy.sv_of_raw ?_
    have fin : ∀ (cs : Array Value) (xs : List SV) (y : Els row), RowFor M ρ M row xs y → cs.size = xs.length → (∀ (i : Nat) (u : Value) (x : SV), cs[i]? = some u → xs[i]? = some x → SRep M ρ u x) → SRep M ρ2 (.agg cs) ((ATy.agg row).raw y) := fun cs xs y hf hl hr => by
      refine .agg cs _ (by rw [hl, hf.1]; simp [rowPV_length]) fun i u z hu hz => ?_
      simp only [List.getElem?_map, Option.map_eq_some_iff] at hz
      obtain ⟨q, hq, rfl⟩ := hz
      obtain ⟨x, hx, himp⟩ := hf.2 i q hq
      exact .pv (himp u (hr i u x hu hx))
    replace h : rdAgg [] n row x = some (c, y) := h
    unfold rdAgg at h
    split at h
    · rename_i cs
      split at h
      · rename_i y' hy
        cases h
        have := hr.lit_eq
        subst this
        refine fin cs _ _ (RowFor.of M.le_refl hy) (by simp) fun i u x hu hx => ?_
        simp only [List.getElem?_map, Option.map_eq_some_iff, Array.getElem?_toList] at hx
        obtain ⟨p, ⟨u', hu', rfl⟩, rfl⟩ := hx
        rw [hu] at hu'; cases hu'; exact .pv (.lit _)
      · cases h
    · rename_i l
      cases hr with
      | agg cs _ hl hr => exact fin cs l y ((rd0_sound n _).2 row (Nat.le_refl _) _ _ _ h hc) hl hr
    · cases h
def RdList (M M2 : Imm) (ρ ρ2 : Env) {α : Type} (f : List SV → Option (Bool × α)) (g : α → List SV) : Prop :=
  ∀ (xs : List SV) (c : Bool) (y : α), f xs = some (c, y) → c = true → (g y).length = xs.length ∧
    ∀ (i : Nat) (v : Value) (z x : SV), (g y)[i]? = some z → xs[i]? = some x → SRep M ρ v x → SRep M2 ρ2 v z
theorem rdList_ok {M M2 : Imm} {ρ ρ2 : Env} {H : List SObj} {n : Nat} (ha : ∀ (a : ATy) (x : SV) (c : Bool) (y : a.El) (v : Value), rdA H n a x = some (c, y) → c = true → SRep M ρ v x → SRep M2 ρ2 v (a.sv y)) :
    ∀ (l : List ATy), RdList M M2 ρ ρ2 (rdL H n l) (svs l)
  | [] => by
    intro xs c y h hc
    match xs, h with
    | [], h => exact ⟨rfl, fun i v z x hz hx => by simp at hx⟩
    | _ :: _, h => cases h
  | [a] => by
    intro xs c y h hc
    match xs, h with
    | [], h => cases h
    | _ :: _ :: _, h => cases h
    | [x], h =>
      replace h : rdA H n a x = some (c, y) := h
      refine ⟨rfl, fun i v z x' hz hx' hr => ?_⟩
      cases i with
      | zero =>
        simp only [svs, List.getElem?_cons_zero, Option.some.injEq] at hz hx'
        subst hz; subst hx'
        exact ha a x c y v h hc hr
      | succ i => simp at hx'
  | a :: a' :: l => by
    intro xs c y h hc
    match xs, h with
    | [], h => cases h
    | x :: xs, h =>
      replace h : rdConsS (rdA H n a) (rdL H n (a' :: l)) (x :: xs) = some (c, y) := h
      simp only [rdConsS] at h
      split at h
      · cases h
      · rename_i p h1
        split at h
        · cases h
        · rename_i q h2
          cases h
          rw [Bool.and_eq_true] at hc
          obtain ⟨g1, g2⟩ := rdList_ok ha (a' :: l) xs q.1 q.2 h2 hc.2
          refine ⟨by simp only [svs, List.length_cons, g1], fun i v z x' hz hx' hr => ?_⟩
          cases i with
          | zero =>
            simp only [svs, List.getElem?_cons_zero, Option.some.injEq] at hz hx'
            subst hz; subst hx'
            exact ha a x p.1 p.2 v h1 hc.1 hr
          | succ i =>
            simp only [svs, List.getElem?_cons_succ] at hz hx'
            exact g2 i v z x' hz hx' hr
theorem rdL_sound {M : Imm} {ρ ρ2 : Env} {H : List SObj} {w : World} {n : Nat} (hm : Mem M ρ H w) (l : List ATy) : RdList M (M.sealing ρ H n w) ρ ρ2 (rdL H n l) (svs l) :=
  rdList_ok (fun a x c y v h hc hr => rdA_sound hm h hc hr) l
theorem rdL0_sound {M : Imm} {ρ ρ2 : Env} {n : Nat} (l : List ATy) : RdList M M ρ ρ2 (rdL [] n l) (svs l) :=
  rdList_ok (fun a x c y v h hc hr => rdA0_sound h hc hr) l
end Go.Sx

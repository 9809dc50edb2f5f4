/- Part Hs of the own logic: rows that become immutable; reading data out of them; append with them. Part I of the own logic: maps and ranges over strings. -/
import Derived.Test.YtdghdcclhnoigaaGreatDoorXSxF
section
set_option linter.unusedVariables false
set_option linter.unusedSimpArgs false
set_option linter.unnecessarySimpa false
namespace Go.Sx
open Go
def SObj.rowsy : SObj → Bool
  | .vec .. => true
  | .tvec .. => true
  | .mix .. => true
  | _ => false
def Sealed (ρ : Env) (H : List SObj) (n b : Nat) : Prop := ∃ s o p, n ≤ s ∧ H[s]? = some o ∧ o.rowsy = true ∧ ρ s = some p ∧ p.block = b
open Classical in
noncomputable def Imm.sealing (M : Imm) (ρ : Env) (H : List SObj) (n : Nat) (w : World) : Imm := fun b =>
  match M b with
  | some o => some o
  | none => if Sealed ρ H n b then w.heap[b]? else none
theorem Imm.seal_le (M : Imm) (ρ : Env) (H : List SObj) (n : Nat) (w : World) : M.le (M.sealing ρ H n w) := fun b o h => by simp [Imm.sealing, h]
theorem Imm.seal_new {M : Imm} {ρ : Env} {H : List SObj} {n : Nat} {w : World} {b : Nat} {o : Obj} (h0 : M b = none) (h : M.sealing ρ H n w b = some o) : Sealed ρ H n b ∧ w.heap[b]? = some o := by
  unfold Imm.sealing at h
  rw [h0] at h
  simp only at h
  split at h
  · rename_i hs; exact ⟨hs, h⟩
  · cases h
theorem Imm.seal_at {M : Imm} {ρ : Env} {H : List SObj} {n : Nat} {w : World} (hm : Mem M ρ H w) {s : Nat} {o : SObj} {p : Place} (hn : n ≤ s) (hs : H[s]? = some o) (ho : o.rowsy = true) (hp : ρ s = some p) :
    M.sealing ρ H n w p.block = w.heap[p.block]? := by
  have hl : o.live = true := by cases o <;> simp_all [SObj.rowsy, SObj.live]
  unfold Imm.sealing
  rw [hm.sep s o p hs hl hp]
  simp only
  rw [if_pos ⟨s, o, p, hn, hs, ho, hp, rfl⟩]
theorem Imm.cell_of {M : Imm} {b i : Nat} {cs : Array Value} {ty : TypeId} {f : Nat × Nat} (h : M b = some (.cells cs ty f)) : M.cell b i = cs[i]? := by simp [Imm.cell, h]
def ATy.sv : (a : ATy) → a.El → SV
  | .val t, x => .pv (t.pv x)
  | .agg row, x => SV.mkAgg ((rowPV row x).map .pv)
theorem ATy.sv_of_raw {M : Imm} {ρ : Env} {v : Value} : ∀ {a : ATy} {x : a.El}, SRep M ρ v (a.raw x) → SRep M ρ v (a.sv x)
  | .val t, x, h => h
  | .agg row, x, h => by
    cases h with
    | agg cs _ hl hr =>
      have := SRep.mkAgg (M := M) (ρ := ρ) (cs := cs.toList) (l := (rowPV row x).map .pv) (by simpa using hl) (fun i v y hv hy => hr i v y (by rw [← Array.getElem?_toList]; exact hv) hy)
      rw [Array.toArray_toList] at this
      exact this
def rdScal {α : Type} (f : PV → Option α) : SV → Option (Bool × α)
  | .pv p => match f p with
    | some y => some (true, y)
    | none => none
  | _ => none
def mapC {α β : Type} (f : α → Option (Bool × β)) : List α → Option (Bool × List β)
  | [] => some (true, [])
  | x :: l => match f x with
    | none => none
    | some a => match mapC f l with
      | none => none
      | some b => some (a.1 && b.1, a.2 :: b.2)
def rdSeq (H : List SObj) (n : Nat) (row : List Ty) (f : List SV → Option (Bool × Els row)) : SV → Option (Bool × List (Els row))
  | .pv p => match (Ty.seq row).of p with
    | some y => some (true, y)
    | none => none
  | .sl s sz st len => match Nat.ble n s && Nat.beq sz row.length with
    | false => none
    | true => match H[s]? with
      | some (.tvec _ row' l) => match castRows row' row l with
        | some l => some (decide (st + len ≤ l.length), (l.drop st).take len)
        | none => none
      | some (.vec _ so rows) => match Nat.beq so row.length && Nat.ble (st + len) rows.length with
        | false => none
        | true => match mapO (ofRow row) ((rows.drop st).take len) with
          | some l => some (true, l)
          | none => none
      | some (.mix _ so rows) => match Nat.beq so row.length && Nat.ble (st + len) rows.length with
        | false => none
        | true => mapC f ((rows.drop st).take len)
      | _ => none
  | _ => none
def rdNilS : List SV → Option (Bool × Unit)
  | [] => some (true, ())
  | _ => none
def rdOneS {α : Type} (f : SV → Option (Bool × α)) : List SV → Option (Bool × α)
  | [x] => f x
  | _ => none
def rdConsS {α β : Type} (f : SV → Option (Bool × α)) (g : List SV → Option (Bool × β)) : List SV → Option (Bool × (α × β))
  | x :: xs => match f x with
    | none => none
    | some a => match g xs with
      | none => none
      | some b => some (a.1 && b.1, (a.2, b.2))
  | [] => none
mutual
def rdT (H : List SObj) (n : Nat) : (t : Ty) → SV → Option (Bool × t.El)
  | .int k => rdScal (intOf k)
  | .bool => rdScal boolOf
  | .str => rdScal strOf
  | .seq row => rdSeq H n row (rdRow H n row)
def rdRow (H : List SObj) (n : Nat) : (ts : List Ty) → List SV → Option (Bool × Els ts)
  | [] => rdNilS
  | [t] => rdOneS (rdT H n t)
  | t :: t' :: ts => rdConsS (rdT H n t) (rdRow H n (t' :: ts))
end
theorem seal_slice {M : Imm} {ρ : Env} {H : List SObj} {w : World} {n : Nat} (hm : Mem M ρ H w) {s sz st len : Nat} {o : SObj} {v : Value} {ps : List (List PV)} (hns : n ≤ s) (hs : H[s]? = some o) (hro : o.rowsy = true) (hz : o.sz? = some sz)
    (hfit : st + len ≤ o.len) (hpl : ps.length = len)
    (hps : ∀ (i : Nat) (r : List PV), ps[i]? = some r → r.length ≤ sz ∧ ∀ (j : Nat) (q : PV), r[j]? = some q → ∃ y, (o.row (st + i))[j]? = some y ∧ ∀ u, SRep M ρ u y → PRep (M.sealing ρ H n w) u q)
    (hr : SRep M ρ v (.sl s sz st len)) : PRep (M.sealing ρ H n w) v (.rsl sz ps) := by
  cases hr with
  | slz =>
    have : ps = [] := List.eq_nil_of_length_eq_zero hpl
    subst this
    rename_i a
    cases a with
    | none => exact .rnil sz
    | some a => exact .remp a 0 sz
  | sl _ _ _ _ c k' p hp hk hc hn' =>
    obtain ⟨cs, ty, a1, a2, a3, a4, a5⟩ := ((hm.own s o hs).rowOf hz hp).ex
    have hM : M.sealing ρ H n w p.block = some (.cells cs ty (0, 0)) := by rw [Imm.seal_at hm hns hs hro hp]; exact a1
    refine .rsl p.block k' c sz len ps hpl.symm hn' (fun i j hi hj => ?_) (fun i r j q u hi hj hcell => ?_) (fun i r hi => (hps i r hi).1)
    · obtain ⟨u, hu, hone⟩ := a4 (st + i) j (by omega) hj
      refine ⟨u, ?_, hone⟩
      rw [Imm.cell_of hM, hk, ← Nat.add_mul]; exact hu
    · obtain ⟨g2, g3⟩ := hps i r hi
      obtain ⟨y, y1, y2⟩ := g3 j q hj
      have hlt : i < ps.length := (List.getElem?_eq_some_iff.1 hi).1
      obtain ⟨b1, b2⟩ := a5 (st + i) j y (by omega) y1
      rw [Imm.cell_of hM, hk, ← Nat.add_mul] at hcell
      exact y2 u (b2 u hcell)
def RowFor (M : Imm) (ρ : Env) (M2 : Imm) (ts : List Ty) (xs : List SV) (y : Els ts) : Prop :=
  xs.length = ts.length ∧ ∀ (j : Nat) (q : PV), (rowPV ts y)[j]? = some q → ∃ x, xs[j]? = some x ∧ ∀ u, SRep M ρ u x → PRep M2 u q
def RowsFor (M : Imm) (ρ : Env) (M2 : Imm) (row : List Ty) (rs : List (List SV)) (l : List (Els row)) : Prop :=
  l.length = rs.length ∧ ∀ (i : Nat) (y : Els row), l[i]? = some y → ∃ r, rs[i]? = some r ∧ RowFor M ρ M2 row r y
theorem RowFor.of {M : Imm} {ρ : Env} {M2 : Imm} (hle : M.le M2) {ts : List Ty} {r : List PV} {y : Els ts} (h : ofRow ts r = some y) : RowFor M ρ M2 ts (r.map .pv) y := by
  obtain ⟨g1, g2⟩ := ofRow_sound h
  refine ⟨by rw [List.length_map, ← g1, rowPV_length], fun j q hq => ?_⟩
  obtain ⟨p, hp, himp⟩ := g2 j q hq
  refine ⟨.pv p, by simp [hp], fun u hu => ?_⟩
  cases hu with
  | pv hu => exact (himp M u hu).mono hle
theorem RowsFor.of {M : Imm} {ρ : Env} {M2 : Imm} (hle : M.le M2) {row : List Ty} {rs : List (List PV)} {l : List (Els row)} (h : mapO (ofRow row) rs = some l) : RowsFor M ρ M2 row (rs.map (·.map .pv)) l := by
  obtain ⟨g1, g2⟩ := mapO_spec h
  refine ⟨by simpa using g1, fun i y hy => ?_⟩
  obtain ⟨r, hr, hr2⟩ := g2 i y hy
  exact ⟨r.map .pv, by simp [hr], .of hle hr2⟩
theorem RowFor.self {M : Imm} {ρ : Env} {M2 : Imm} (hle : M.le M2) {ts : List Ty} (y : Els ts) : RowFor M ρ M2 ts ((rowPV ts y).map .pv) y := by
  refine ⟨by simp [rowPV_length], fun j q hq => ⟨.pv q, by simp [hq], fun u hu => ?_⟩⟩
  cases hu with
  | pv hu => exact hu.mono hle
theorem RowsFor.self {M : Imm} {ρ : Env} {M2 : Imm} (hle : M.le M2) {row : List Ty} (l : List (Els row)) : RowsFor M ρ M2 row ((rowsPV row l).map (·.map .pv)) l := by
  refine ⟨by simp [rowsPV], fun i y hy => ⟨(rowPV row y).map .pv, by simp [rowsPV, hy], .self hle y⟩⟩
theorem seal_data {M : Imm} {ρ : Env} {H : List SObj} {w : World} {n : Nat} (hm : Mem M ρ H w) {s st len : Nat} {row : List Ty} {o : SObj} {v : Value} {l : List (Els row)} (hns : n ≤ s) (hs : H[s]? = some o) (hro : o.rowsy = true) (hz : o.sz? = some row.length)
    (hfit : st + len ≤ o.len) (hl : l.length = len) (hrows : ∀ (i : Nat) (y : Els row), l[i]? = some y → RowFor M ρ (M.sealing ρ H n w) row (o.row (st + i)) y)
    (hr : SRep M ρ v (.sl s row.length st len)) : PRep (M.sealing ρ H n w) v ((Ty.seq row).pv l) := by
  refine .tsl row l (seal_slice hm hns hs hro hz hfit (by simp [rowsPV, hl]) (fun i r hi => ?_) hr)
  simp only [rowsPV, List.getElem?_map, Option.map_eq_some_iff] at hi
  obtain ⟨y, hy, rfl⟩ := hi
  obtain ⟨g1, g2⟩ := hrows i y hy
  exact ⟨by rw [rowPV_length]; exact Nat.le_refl _, g2⟩
def RdVal (M : Imm) (ρ : Env) (M2 : Imm) {α : Type} (f : SV → Option (Bool × α)) (g : α → PV) : Prop :=
  ∀ (x : SV) (c : Bool) (y : α) (v : Value), f x = some (c, y) → c = true → SRep M ρ v x → PRep M2 v (g y)
def RdRow (M : Imm) (ρ : Env) (M2 : Imm) (ts : List Ty) (f : List SV → Option (Bool × Els ts)) : Prop :=
  ∀ (xs : List SV) (c : Bool) (y : Els ts), f xs = some (c, y) → c = true → RowFor M ρ M2 ts xs y
theorem rdScal_ok {M : Imm} {ρ : Env} {M2 : Imm} (hle : M.le M2) {α : Type} {f : PV → Option α} {g : α → PV} (hf : OfOk f g) : RdVal M ρ M2 (rdScal f) g := by
  intro x c y v h hc hr
  unfold rdScal at h
  split at h
  · split at h
    · rename_i y' hy
      cases h
      cases hr with
      | pv hp => exact (hf _ _ hy M v hp).mono hle
    · cases h
  · cases h
theorem mapC_ok {M : Imm} {ρ : Env} {M2 : Imm} {row : List Ty} {f : List SV → Option (Bool × Els row)} (hf : RdRow M ρ M2 row f) : ∀ (rs : List (List SV)) (c : Bool) (l : List (Els row)), mapC f rs = some (c, l) → c = true → RowsFor M ρ M2 row rs l
  | [], c, l, h, hc => by cases h; exact ⟨rfl, fun i y hy => by simp at hy⟩
  | r :: rs, c, l, h, hc => by
    simp only [mapC] at h
    split at h
    · cases h
    · rename_i a h1
      split at h
      · cases h
      · rename_i b h2
        cases h
        rw [Bool.and_eq_true] at hc
        obtain ⟨g1, g2⟩ := mapC_ok hf rs b.1 b.2 h2 hc.2
        refine ⟨by simp [g1], fun i y hy => ?_⟩
        cases i with
        | zero =>
          simp at hy; subst hy
          exact ⟨r, rfl, hf _ a.1 a.2 h1 hc.1⟩
        | succ i =>
          simp at hy
          obtain ⟨r', q1, q2⟩ := g2 i y hy
          exact ⟨r', by simpa using q1, q2⟩
theorem rdSeq_ok {M : Imm} {ρ : Env} {H : List SObj} {w : World} {n : Nat} (hm : Mem M ρ H w) {row : List Ty} {f : List SV → Option (Bool × Els row)} (hf : RdRow M ρ (M.sealing ρ H n w) row f) : RdVal M ρ (M.sealing ρ H n w) (rdSeq H n row f) (Ty.seq row).pv := by
  have hle := Imm.seal_le M ρ H n w
  intro x c y v h hc hr
  unfold rdSeq at h
  split at h
  · split at h
    · rename_i y' hy
      cases h
      cases hr with
      | pv hp => exact (Ty.of_sound (t := .seq row) hy hp).mono hle
    · cases h
  · rename_i s sz st len
    split at h
    · cases h
    · rename_i e2
      rw [Bool.and_eq_true] at e2
      have hns := Nat.le_of_ble_eq_true e2.1
      have hsz := Nat.eq_of_beq_eq_true e2.2
      subst hsz
      split at h
      · rename_i ty row' l ho
        split at h
        · rename_i l' hcast
          cases h
          obtain ⟨e3, rfl⟩ := castRows_eq hcast
          subst e3
          have hfit := of_decide_eq_true hc
          refine seal_data hm hns ho rfl rfl hfit (by simp; simp at hfit; omega) (fun i y hy => ?_) hr
          rw [List.getElem?_take] at hy
          split at hy
          · rw [List.getElem?_drop] at hy
            have : (SObj.tvec ty row' l).row (st + i) = (rowPV row' y).map .pv := by
              simp only [SObj.row, List.getD, hy, Option.getD_some]
            rw [this]; exact .self hle y
          · cases hy
        · cases h
      · rename_i ty so rows ho
        split at h
        · cases h
        · rename_i e3
          rw [Bool.and_eq_true] at e3
          have hso := Nat.eq_of_beq_eq_true e3.1
          have hfit := Nat.le_of_ble_eq_true e3.2
          split at h
          · rename_i l hl
            cases h
            have hrf := RowsFor.of (M := M) (ρ := ρ) hle hl
            refine seal_data hm hns ho rfl (by simp [SObj.sz?, hso]) hfit (by rw [hrf.1]; simp; omega) (fun i y hy => ?_) hr
            obtain ⟨r, g1, g2⟩ := hrf.2 i y hy
            simp only [List.getElem?_map, Option.map_eq_some_iff] at g1
            obtain ⟨r0, g1, rfl⟩ := g1
            rw [List.getElem?_take] at g1
            split at g1
            · rw [List.getElem?_drop] at g1
              have : (SObj.vec ty so rows).row (st + i) = r0.map .pv := by simp [SObj.row, List.getD, g1]
              rw [this]; exact g2
            · cases g1
          · cases h
      · rename_i ty so rows ho
        split at h
        · cases h
        · rename_i e3
          rw [Bool.and_eq_true] at e3
          have hso := Nat.eq_of_beq_eq_true e3.1
          have hfit := Nat.le_of_ble_eq_true e3.2
          have hrf := mapC_ok hf _ _ _ h hc
          refine seal_data hm hns ho rfl (by simp [SObj.sz?, hso]) hfit (by rw [hrf.1]; simp; omega) (fun i y hy => ?_) hr
          obtain ⟨r, g1, g2⟩ := hrf.2 i y hy
          rw [List.getElem?_take] at g1
          split at g1
          · rw [List.getElem?_drop] at g1
            have : (SObj.mix ty so rows).row (st + i) = r := by simp [SObj.row, List.getD, g1]
            rw [this]; exact g2
          · cases g1
      · cases h
  · cases h
theorem rdNilS_ok {M : Imm} {ρ : Env} {M2 : Imm} : RdRow M ρ M2 [] rdNilS := by
  intro xs c y h hc
  unfold rdNilS at h
  split at h
  · exact ⟨rfl, fun j q hq => by simp [rowPV] at hq⟩
  · cases h
theorem rdOneS_ok {M : Imm} {ρ : Env} {M2 : Imm} {t : Ty} {f : SV → Option (Bool × t.El)} (hf : RdVal M ρ M2 f t.pv) : RdRow M ρ M2 [t] (rdOneS f) := by
  intro xs c y h hc
  match xs, h with
  | [], h => cases h
  | _ :: _ :: _, h => cases h
  | [x], h =>
    replace h : f x = some (c, y) := h
    refine ⟨rfl, fun j q hq => ?_⟩
    cases j with
    | zero =>
      simp only [rowPV, List.getElem?_cons_zero, Option.some.injEq] at hq
      subst hq
      exact ⟨x, rfl, fun u hu => hf x c y u h hc hu⟩
    | succ j => simp [rowPV] at hq
theorem rdConsS_ok {M : Imm} {ρ : Env} {M2 : Imm} {t t' : Ty} {ts : List Ty} {f : SV → Option (Bool × t.El)} {g : List SV → Option (Bool × Els (t' :: ts))} (hf : RdVal M ρ M2 f t.pv) (hg : RdRow M ρ M2 (t' :: ts) g) : RdRow M ρ M2 (t :: t' :: ts) (rdConsS f g) := by
  intro xs c y h hc
  unfold rdConsS at h
  split at h
  · rename_i x xs
    split at h
    · cases h
    · rename_i a h1
      split at h
      · cases h
      · rename_i b h2
        cases h
        rw [Bool.and_eq_true] at hc
        obtain ⟨g1, g2⟩ := hg _ b.1 b.2 h2 hc.2
        refine ⟨by simp only [List.length_cons] at g1 ⊢; omega, fun j q hq => ?_⟩
        have hq : (t.pv a.2 :: rowPV (t' :: ts) b.2)[j]? = some q := hq
        cases j with
        | zero =>
          simp only [List.getElem?_cons_zero, Option.some.injEq] at hq
          subst hq
          exact ⟨x, rfl, fun u hu => hf x a.1 a.2 u h1 hc.1 hu⟩
        | succ j =>
          simp only [List.getElem?_cons_succ] at hq
          obtain ⟨z, z1, z2⟩ := g2 j q hq
          exact ⟨z, by simpa using z1, z2⟩
  · cases h
theorem rd_sound {M : Imm} {ρ : Env} {H : List SObj} {w : World} {n : Nat} (hm : Mem M ρ H w) : ∀ (k : Nat),
    (∀ (t : Ty), SizeOf.sizeOf t ≤ k → RdVal M ρ (M.sealing ρ H n w) (rdT H n t) t.pv) ∧ (∀ (ts : List Ty), SizeOf.sizeOf ts ≤ k → RdRow M ρ (M.sealing ρ H n w) ts (rdRow H n ts)) := by
  have hle := Imm.seal_le M ρ H n w
  intro k
  induction k with
  | zero => exact ⟨fun t ht => by (cases t <;> simp at ht), fun ts ht => by (cases ts <;> simp at ht)⟩
  | succ k ih =>
    obtain ⟨ih1, ih2⟩ := ih
    refine ⟨fun t ht => ?_, fun ts ht => ?_⟩
    · match t, ht with
      | .int k, ht => exact rdScal_ok hle (intOf_ok k)
      | .bool, ht => exact rdScal_ok hle boolOf_ok
      | .str, ht => exact rdScal_ok hle strOf_ok
      | .seq row, ht => exact rdSeq_ok hm (ih2 row (by simp at ht; omega))
    · match ts, ht with
      | [], ht => exact rdNilS_ok
      | [t], ht => exact rdOneS_ok (ih1 t (by simp at ht; omega))
      | t :: t' :: ts, ht => exact rdConsS_ok (ih1 t (by simp at ht; omega)) (ih2 (t' :: ts) (by simp at ht ⊢; omega))
theorem rdT_sound {M : Imm} {ρ : Env} {H : List SObj} {w : World} (n : Nat) (hm : Mem M ρ H w) (t : Ty) : RdVal M ρ (M.sealing ρ H n w) (rdT H n t) t.pv := (rd_sound hm _).1 t (Nat.le_refl _)
theorem rdRow_sound {M : Imm} {ρ : Env} {H : List SObj} {w : World} (n : Nat) (hm : Mem M ρ H w) (ts : List Ty) : RdRow M ρ (M.sealing ρ H n w) ts (rdRow H n ts) := (rd_sound hm _).2 ts (Nat.le_refl _)
def rdAgg (H : List SObj) (n : Nat) (row : List Ty) : SV → Option (Bool × Els row)
  | .pv (.lit (.agg cs)) => match ofRow row (cs.toList.map .lit) with
    | some y => some (true, y)
    | none => none
  | .agg l => rdRow H n row l
  | _ => none
def rdA (H : List SObj) (n : Nat) : (a : ATy) → SV → Option (Bool × a.El)
  | .val t => rdT H n t
  | .agg row => rdAgg H n row
theorem rdA_sound {M : Imm} {ρ ρ2 : Env} {H : List SObj} {w : World} {n : Nat} (hm : Mem M ρ H w) {a : ATy} {x : SV} {c : Bool} {y : a.El} {v : Value} (h : rdA H n a x = some (c, y)) (hc : c = true) (hr : SRep M ρ v x) : SRep (M.sealing ρ H n w) ρ2 v (a.sv y) := by
  cases a with
  | val t => exact .pv (rdT_sound n hm t x c y v h hc hr)
  | agg row =>
    refine ATy.sv_of_raw ?_
    have fin : ∀ (cs : Array Value) (xs : List SV) (y : Els row), RowFor M ρ (M.sealing ρ H n w) row xs y → cs.size = xs.length → (∀ (i : Nat) (u : Value) (x : SV), cs[i]? = some u → xs[i]? = some x → SRep M ρ u x) → SRep (M.sealing ρ H n w) ρ2 (.agg cs) ((ATy.agg row).raw y) := fun cs xs y hf hl hr => by
      refine .agg cs _ (by rw [hl, hf.1]; simp [rowPV_length]) fun i u z hu hz => ?_
      simp only [List.getElem?_map, Option.map_eq_some_iff] at hz
      obtain ⟨q, hq, rfl⟩ := hz
      obtain ⟨x, hx, himp⟩ := hf.2 i q hq
      exact .pv (himp u (hr i u x hu hx))
    replace h : rdAgg H n row x = some (c, y) := h
    unfold rdAgg at h
    split at h
    · rename_i cs
      split at h
      · rename_i y' hy
        cases h
        have := hr.lit_eq
        subst this
        refine fin cs _ _ (RowFor.of (Imm.seal_le M ρ H n w) hy) (by simp) fun i u x hu hx => ?_
        simp only [List.getElem?_map, Option.map_eq_some_iff, Array.getElem?_toList] at hx
        obtain ⟨p, ⟨u', hu', rfl⟩, rfl⟩ := hx
        rw [hu] at hu'; cases hu'; exact .pv (.lit _)
      · cases h
    · rename_i l
      cases hr with
      | agg cs _ hl hr => exact fin cs l y (rdRow_sound n hm row _ _ _ h hc) hl hr
    · cases h
theorem rdA_raw {M : Imm} {ρ ρ2 : Env} {H : List SObj} {w : World} {n : Nat} (hm : Mem M ρ H w) {a : ATy} {x : SV} {c : Bool} {y : a.El} {v : Value} (h : rdA H n a x = some (c, y)) (hc : c = true) (hr : SRep M ρ v x) : SRep (M.sealing ρ H n w) ρ2 v (a.raw y) := by
  cases a with
  | val t => exact .pv (rdT_sound n hm t x c y v h hc hr)
  | agg row =>
    have fin : ∀ (cs : Array Value) (xs : List SV) (y : Els row), RowFor M ρ (M.sealing ρ H n w) row xs y → cs.size = xs.length → (∀ (i : Nat) (u : Value) (x : SV), cs[i]? = some u → xs[i]? = some x → SRep M ρ u x) → SRep (M.sealing ρ H n w) ρ2 (.agg cs) ((ATy.agg row).raw y) := fun cs xs y hf hl hr => by
      refine .agg cs _ (by rw [hl, hf.1]; simp [rowPV_length]) fun i u z hu hz => ?_
      simp only [List.getElem?_map, Option.map_eq_some_iff] at hz
      obtain ⟨q, hq, rfl⟩ := hz
      obtain ⟨x, hx, himp⟩ := hf.2 i q hq
      exact .pv (himp u (hr i u x hu hx))
    replace h : rdAgg H n row x = some (c, y) := h
    unfold rdAgg at h
    split at h
    · rename_i cs
      split at h
      · rename_i y' hy
        cases h
        have := hr.lit_eq
        subst this
        refine fin cs _ _ (RowFor.of (Imm.seal_le M ρ H n w) hy) (by simp) fun i u x hu hx => ?_
        simp only [List.getElem?_map, Option.map_eq_some_iff, Array.getElem?_toList] at hx
        obtain ⟨p, ⟨u', hu', rfl⟩, rfl⟩ := hx
        rw [hu] at hu'; cases hu'; exact .pv (.lit _)
      · cases h
    · rename_i l
      cases hr with
      | agg cs _ hl hr => exact fin cs l y (rdRow_sound n hm row _ _ _ h hc) hl hr
    · cases h
theorem OwnAt.vecMix {M : Imm} {ρ : Env} {w : World} {s ty sz : Nat} {rows : List (List PV)} (h : OwnAt M ρ w s (.vec ty sz rows)) : OwnAt M ρ w s (.mix ty sz (rows.map (·.map .pv))) := by
  have key : ∀ i j, mcell (rows.map (·.map SV.pv)) i j = vcell rows i j := fun i j => by
    unfold vcell mcell
    simp only [List.getElem?_map]
    cases rows[i]? with
    | none => rfl
    | some r => simp
  rcases h with ⟨h1, h2⟩ | ⟨p, h1, h2⟩
  · exact .inl ⟨h1, by simp [h2]⟩
  · refine .inr ⟨p, h1, ?_⟩
    obtain ⟨cs, a1, a2, a3, a4, a5, a6⟩ := h2.ex
    exact ⟨cs, a1, a2, by simpa using a3, by simpa using a4, fun i j x v hx hv => by rw [key] at hx; simpa using a5 i j x v hx hv, fun i j x hx => by rw [key] at hx; simpa using a6 i j x hx⟩
theorem OwnAt.retypeM {M M2 : Imm} {ρ ρ2 : Env} {w : World} {s ty : Nat} {row : List Ty} {rs : List (List SV)} {l : List (Els row)} (hle : M.le M2) (hs : ρ2 s = ρ s) (hf : RowsFor M ρ M2 row rs l) (h : OwnAt M ρ w s (.mix ty row.length rs)) : OwnAt M2 ρ2 w s (.tvec ty row l) := by
  have hlen : (rowsPV row l).length = rs.length := by simp [rowsPV, hf.1]
  rcases h with ⟨h1, h2⟩ | ⟨p, h1, h2⟩
  · exact .inl ⟨hs.trans h1, List.eq_nil_of_length_eq_zero (by rw [hlen, h2]; rfl)⟩
  · refine .inr ⟨p, hs.trans h1, ?_⟩
    obtain ⟨cs, a1, a2, a3, a4, a5, a6⟩ := h2.ex
    have key : ∀ i j x, vcell (rowsPV row l) i j = some x → ∃ y, mcell rs i j = some y ∧ ∀ v, SRep M ρ v y → SRep M2 ρ2 v x := fun i j x hx => by
      unfold vcell at hx
      simp only [Option.map_eq_some_iff, Option.bind_eq_some_iff, rowsPV, List.getElem?_map] at hx
      obtain ⟨q, ⟨r', ⟨y, hy, rfl⟩, hq⟩, rfl⟩ := hx
      obtain ⟨r, g1, g2⟩ := hf.2 i y hy
      obtain ⟨x, g3, g4⟩ := g2.2 j q hq
      exact ⟨x, by simp [mcell, g1, g3], fun v h => .pv (g4 v h)⟩
    refine ⟨cs, a1, a2, by rw [hlen]; exact a3, by rw [hlen]; exact a4, fun i j x v hx hv => ?_, fun i j x hx => ?_⟩
    · obtain ⟨y, hy, himp⟩ := key i j x hx
      obtain ⟨b1, b2, b3⟩ := a5 i j y v hy hv
      exact ⟨by rw [hlen]; exact b1, b2, himp _ b3⟩
    · obtain ⟨y, hy, _⟩ := key i j x hx
      rw [hlen]; exact a6 i j y hy
def linksOf : SV → List Nat
  | .sl s _ _ _ => [s]
  | _ => []
def rowLinks : List SV → List Nat
  | [] => []
  | x :: l => linksOf x ++ rowLinks l
def rowsLinks : List (List SV) → List Nat
  | [] => []
  | r :: l => rowLinks r ++ rowsLinks l
def onlyL (S : List Nat) : Nat → List SObj → List SObj
  | _, [] => []
  | n, o :: l => (match S.contains n with
    | true => o
    | false => .dead) :: onlyL S (n + 1) l
def killL : List Nat → List SObj → List SObj
  | [], H => H
  | s :: S, H => killL S (H.set s .dead)
theorem onlyL_get {S : List Nat} : ∀ {H : List SObj} {n s : Nat} {x : SObj}, (onlyL S n H)[s]? = some x → (S.contains (n + s) = true ∧ H[s]? = some x) ∨ x = .dead
  | [], n, s, x, h => by simp [onlyL] at h
  | o :: l, n, s, x, h => by
    cases s with
    | zero =>
      simp only [onlyL, List.getElem?_cons_zero, Option.some.injEq] at h
      split at h
      · rename_i e; subst h; exact .inl ⟨e, rfl⟩
      · exact .inr h.symm
    | succ s =>
      simp only [onlyL, List.getElem?_cons_succ] at h
      rcases onlyL_get h with ⟨h1, h2⟩ | h1
      · exact .inl ⟨by rw [show n + (s + 1) = n + 1 + s by omega]; exact h1, by simpa using h2⟩
      · exact .inr h1
theorem onlyL_len {S : List Nat} : ∀ {H : List SObj} {n : Nat}, (onlyL S n H).length = H.length
  | [], n => rfl
  | o :: l, n => by simp [onlyL, onlyL_len (H := l)]
theorem killL_len : ∀ {S : List Nat} {H : List SObj}, (killL S H).length = H.length
  | [], H => rfl
  | s :: S, H => by simp [killL, killL_len]
theorem killL_get : ∀ {S : List Nat} {H : List SObj} {s : Nat} {x : SObj}, (killL S H)[s]? = some x → x = .dead ∨ (s ∉ S ∧ H[s]? = some x)
  | [], H, s, x, h => .inr ⟨by simp, h⟩
  | t :: S, H, s, x, h => by
    simp only [killL] at h
    rcases killL_get h with h1 | ⟨h1, h2⟩
    · exact .inl h1
    · rw [List.getElem?_set] at h2
      split at h2
      · split at h2
        · cases h2; exact .inl rfl
        · cases h2
      · rename_i e; exact .inr ⟨by simp only [List.mem_cons, not_or]; exact ⟨fun h => e h.symm, h1⟩, h2⟩
theorem killL_keep : ∀ {S : List Nat} {H : List SObj} {s : Nat}, s ∉ S → (killL S H)[s]? = H[s]?
  | [], H, s, _ => rfl
  | t :: S, H, s, h => by
    simp only [List.mem_cons, not_or] at h
    simp only [killL]
    rw [killL_keep h.2, List.getElem?_set, if_neg fun e => h.1 e.symm]
theorem Mem.sub {M : Imm} {ρ : Env} {H H2 : List SObj} {w : World} (hm : Mem M ρ H w) (hl : H2.length = H.length) (hs : ∀ (s : Nat) (x : SObj), H2[s]? = some x → x.live = true → H[s]? = some x) : Mem M ρ H2 w := by
  refine ⟨hm.imm, fun s x hx => ?_, fun s x p hx hlx hp => hm.sep s x p (hs s x hx hlx) hlx hp, fun s s' x x' p p' hx hx' hlx hlx' hp hp' hb => hm.dis s s' x x' p p' (hs s x hx hlx) (hs s' x' hx' hlx') hlx hlx' hp hp' hb, fun s h => hm.fresh s (by rw [← hl]; exact h)⟩
  by_cases hlx : x.live = true
  · exact hm.own s x (hs s x hx hlx)
  · rw [live_some hlx]; trivial
def Res.touch (S : List Nat) (H : List SObj) : Res → Res
  | .fail => .fail
  | .ok x => .eff x H S []
  | .eff x H' t g => .eff x H' (S ++ t) g
  | .need c r => .need c (r.touch S H)
  | .split c a b => .split c (a.touch S H) (b.touch S H)
theorem Res.touch_holds {S : List Nat} {H H0 : List SObj} {K : Post} : ∀ {r : Res}, (r.touch S H).holds H0 K → r.holds H fun x H' t g => K x H' (S ++ t) g
  | .fail, h => h
  | .ok x, h => by show K x H (S ++ []) []; rw [List.append_nil]; exact h
  | .eff x H' t g, h => h
  | .need c r, h => ⟨h.1, touch_holds h.2⟩
  | .split c a b, h => ⟨fun e => touch_holds (h.1 e), fun e => touch_holds (h.2 e)⟩
def sealTmp (tab : Tab) (H : List SObj) (t : Nat) (x : SV) : Option (Bool × List Nat × List SObj) := match x with
  | .sl tmp sz st n => match H[tmp]? with
    | some (.mix ty so rows) => match tab.lookup t with
      | some { desc := .slice e, .. } => match tab.lookup e with
        | none => none
        | some i => match i.row with
          | none => none
          | some row => match Nat.beq so row.length && !(rowsLinks rows).contains tmp with
            | false => none
            | true => match mapC (rdRow (onlyL (rowsLinks rows) 0 H) 0 row) rows with
              | none => none
              | some a => some (a.1, rowsLinks rows, (killL (rowsLinks rows) H).set tmp (.tvec ty row a.2))
      | _ => none
    | _ => none
  | _ => none
theorem sealTmp_sound {tab : Tab} {M : Imm} {ρ : Env} {H : List SObj} {w : World} (hm : Mem M ρ H w) {t : Nat} {x : SV} {c : Bool} {S : List Nat} {H2 : List SObj} (h : sealTmp tab H t x = some (c, S, H2)) (hc : c = true) :
    H2.length = H.length ∧ ∃ M2, Mem M2 ρ H2 w ∧ Fr M ρ H w M2 ρ H2 w H.length S [] ∧ M.le M2 := by
  unfold sealTmp at h
  split at h
  · rename_i tmp sz st n
    split at h
    · rename_i ty so rows ho
      split at h
      · split at h
        · cases h
        · split at h
          · cases h
          · rename_i i _ _ row hrow
            split at h
            · cases h
            · rename_i hcond
              rw [Bool.and_eq_true, Bool.not_eq_true'] at hcond
              have hso := Nat.eq_of_beq_eq_true hcond.1
              subst hso
              have htmp : tmp ∉ rowsLinks rows := by simpa using hcond.2
              split at h
              · cases h
              · rename_i a ha
                cases h
                obtain ⟨c1, l⟩ := a
                have hsub : Mem M ρ (onlyL (rowsLinks rows) 0 H) w := hm.sub onlyL_len fun s x hx hl => by
                  rcases onlyL_get hx with ⟨_, h2⟩ | rfl
                  · exact h2
                  · cases hl
                have hle := Imm.seal_le M ρ (onlyL (rowsLinks rows) 0 H) 0 w
                have hrf := mapC_ok (rdRow_sound 0 hsub row) rows c1 l ha hc
                have hnew : ∀ b ob, M b = none → M.sealing ρ (onlyL (rowsLinks rows) 0 H) 0 w b = some ob → (∃ (s : Nat) (o : SObj) (p : Place), s ∈ rowsLinks rows ∧ H[s]? = some o ∧ o.live = true ∧ ρ s = some p ∧ p.block = b) ∧ w.heap[b]? = some ob := fun b ob h0 h1 => by
                  obtain ⟨⟨s2, o2, p2, q1, q2, q3, q4, q5⟩, q6⟩ := Imm.seal_new h0 h1
                  rcases onlyL_get q2 with ⟨k1, k2⟩ | rfl
                  · exact ⟨⟨s2, o2, p2, by simpa using k1, k2, by cases o2 <;> simp_all [SObj.rowsy, SObj.live], q4, q5⟩, q6⟩
                  · cases q3
                generalize M.sealing ρ (onlyL (rowsLinks rows) 0 H) 0 w = M2 at hle hrf hnew
                have hlt : tmp < H.length := (List.getElem?_eq_some_iff.1 ho).1
                have hobj : ∀ s x, ((killL (rowsLinks rows) H).set tmp (.tvec ty row l))[s]? = some x → (s = tmp ∧ x = .tvec ty row l) ∨ x = .dead ∨ (s ≠ tmp ∧ s ∉ rowsLinks rows ∧ H[s]? = some x) := fun s x hx => by
                  rw [List.getElem?_set] at hx
                  split at hx
                  · rename_i e; subst e
                    split at hx
                    · cases hx; exact .inl ⟨rfl, rfl⟩
                    · cases hx
                  · rename_i e
                    rcases killL_get hx with h1 | ⟨h1, h2⟩
                    · exact .inr (.inl h1)
                    · exact .inr (.inr ⟨fun h => e h.symm, h1, h2⟩)
                have hold : ∀ s x, ((killL (rowsLinks rows) H).set tmp (.tvec ty row l))[s]? = some x → x.live = true → s ∉ rowsLinks rows ∧ ∃ y, H[s]? = some y ∧ y.live = true := fun s x hx hl => by
                  rcases hobj s x hx with ⟨rfl, rfl⟩ | rfl | ⟨_, h1, h2⟩
                  · exact ⟨htmp, _, ho, rfl⟩
                  · cases hl
                  · exact ⟨h1, x, h2, hl⟩
                refine ⟨by simp [killL_len], M2, ⟨fun b ob hb => ?_, fun s x hx => ?_, fun s x p hx hlx hp => ?_, fun s s' x x' p p' hx hx' hlx hlx' hp hp' hbk => ?_, fun s hs => hm.fresh s (by simpa [killL_len] using hs)⟩, ⟨hle, fun b ob h0 h1 => ?_, fun b hb => ?_, fun _ _ _ => rfl, Nat.le_refl _, fun s x hs hx hy hlx => ?_, fun _ _ _ => rfl, rfl, rfl⟩, hle⟩
                · cases e : M b with
                  | some o' => rw [hle b o' e] at hb; cases hb; exact hm.imm b _ e
                  | none => exact (hnew b ob e hb).2
                · rcases hobj s x hx with ⟨rfl, rfl⟩ | rfl | ⟨_, _, h2⟩
                  · have h0 : OwnAt M ρ w s (.mix ty row.length rows) := hm.own s _ ho
                    exact h0.retypeM hle rfl hrf
                  · trivial
                  · exact (hm.own s x h2).mono hle ρ.le_refl rfl fun _ _ => rfl
                · obtain ⟨h1, y, h2, h3⟩ := hold s x hx hlx
                  have h0 := hm.sep s y p h2 h3 hp
                  cases e : M2 p.block with
                  | none => rfl
                  | some ob =>
                    obtain ⟨⟨s2, o2, p2, q1, q2, q3, q4, q5⟩, _⟩ := hnew _ _ h0 e
                    have := hm.dis s s2 y o2 p p2 h2 q2 h3 q3 hp q4 q5.symm
                    subst this
                    exact absurd q1 h1
                · obtain ⟨_, y, h2, h3⟩ := hold s x hx hlx
                  obtain ⟨_, y', h2', h3'⟩ := hold s' x' hx' hlx'
                  exact hm.dis s s' y y' p p' h2 h2' h3 h3' hp hp' hbk
                · obtain ⟨⟨s2, o2, p2, q1, q2, q3, q4, q5⟩, _⟩ := hnew b ob h0 h1
                  exact .inr ⟨s2, o2, p2, q2, q3, q4, q5⟩
                · obtain ⟨s, x, p, h1, h2, h3, h4⟩ := hb
                  obtain ⟨_, y, q1, q2⟩ := hold s x h1 h2
                  exact .inr ⟨s, y, p, q1, q2, h3, h4⟩
                · refine ⟨?_, fun p hp => ⟨hp, rfl⟩⟩
                  by_cases e : s = tmp
                  · subst e
                    exact ⟨.tvec ty row l, by rw [List.getElem?_set, if_pos rfl, if_pos (by rw [killL_len]; exact hlt)], rfl⟩
                  · refine ⟨x, ?_, hlx⟩
                    rw [List.getElem?_set, if_neg fun h => e h.symm, killL_keep hx]; exact hy
      · cases h
    · cases h
  · cases h
def sAppendS (tab : Tab) (H : List SObj) (t t' : Nat) (a x : SV) : Res := match sealTmp tab H t x with
  | some q => .need q.1 ((sAppend tab q.2.2 t t' a x).touch q.2.1 q.2.2)
  | none => sAppend tab H t t' a x
theorem sAppendS_sound {P : Program} {tab : Tab} (htab : TabOk P tab) {M : Imm} {ρ : Env} {H : List SObj} {w : World} {K : Post} (hm : Mem M ρ H w) {t t' ty : Nat} {a x : SV} {v u : Value} (ha : SRep M ρ v a) (hx : SRep M ρ u x)
    (h : (sAppendS tab H t t' a x).holds H K) : DoesV P (Builtin.append_ #[t, t'] ty #[v, u]) M ρ H w K := by
  unfold sAppendS at h
  split at h
  · rename_i q hq
    obtain ⟨c, S, H2⟩ := q
    obtain ⟨hc, h⟩ := h
    obtain ⟨hlen, M2, m1, m2, m3⟩ := sealTmp_sound hm hq hc
    obtain ⟨v', w', h1, y, H', tch, fg, M', ρ', hk, h2, h3, h4⟩ := sAppend_sound htab m1 (ha.mono m3 ρ.le_refl) (hx.mono m3 ρ.le_refl) (Res.touch_holds h)
    rw [hlen] at h4
    exact ⟨v', w', h1, y, H', S ++ tch, fg, M', ρ', hk, h2, h3, m2.trans h4 (fun x h => List.mem_append_left _ h) (fun x h => List.mem_append_right _ h) (fun x h => by cases h) (fun x h => h)⟩
  · exact sAppend_sound htab hm ha hx h
def mixFirst (H : List SObj) (a x : SV) : Bool := match a with
  | .sl d _ _ _ => match H[d]? with
    | some (.mix _ _ rows) => !(rowsLinks rows).isEmpty && isTyped H x
    | _ => false
  | _ => false
def sAppendT (tab : Tab) (H : List SObj) (t t' : Nat) (a x : SV) : Res := match mixFirst H a x with
  | true => match sealTmp tab H t a with
    | some q => .need q.1 ((sAppendS tab q.2.2 t t' a x).touch q.2.1 q.2.2)
    | none => sAppendS tab H t t' a x
  | false => sAppendS tab H t t' a x
theorem sAppendT_sound {P : Program} {tab : Tab} (htab : TabOk P tab) {M : Imm} {ρ : Env} {H : List SObj} {w : World} {K : Post} (hm : Mem M ρ H w) {t t' ty : Nat} {a x : SV} {v u : Value} (ha : SRep M ρ v a) (hx : SRep M ρ u x)
    (h : (sAppendT tab H t t' a x).holds H K) : DoesV P (Builtin.append_ #[t, t'] ty #[v, u]) M ρ H w K := by
  unfold sAppendT at h
  split at h
  · split at h
    · rename_i q hq
      obtain ⟨c, S, H2⟩ := q
      obtain ⟨hc, h⟩ := h
      obtain ⟨hlen, M2, m1, m2, m3⟩ := sealTmp_sound hm hq hc
      obtain ⟨v', w', h1, y, H', tch, fg, M', ρ', hk, h2, h3, h4⟩ := sAppendS_sound (ty := ty) htab m1 (ha.mono m3 ρ.le_refl) (hx.mono m3 ρ.le_refl) (Res.touch_holds h)
      rw [hlen] at h4
      exact ⟨v', w', h1, y, H', S ++ tch, fg, M', ρ', hk, h2, h3, m2.trans h4 (fun x h => List.mem_append_left _ h) (fun x h => List.mem_append_right _ h) (fun x h => by cases h) (fun x h => h)⟩
    · exact sAppendS_sound htab hm ha hx h
  · exact sAppendS_sound htab hm ha hx h
end Go.Sx
end
section
set_option linter.unusedVariables false
set_option linter.unusedSimpArgs false
namespace Go.Sx
open Go
theorem pureRun_bind {α β : Type} (P : Program) (x : Sem α) (f : α → Sem β) : pureRun P (x >>= f) = (pureRun P x).bind fun a => pureRun P (f a) := by
  show pureRun P (x.bind f) = _
  induction x with
  | pure a => rfl
  | program k ih => simp only [Sem.bind, pureRun]; exact ih P
  | mark m k ih => simp only [Sem.bind, pureRun]; exact ih
  | _ => simp [Sem.bind, pureRun]
theorem pureRun_pure {α : Type} (P : Program) (a : α) : pureRun P (pure a : Sem α) = some a := rfl
theorem findNow_like (kind : TypeDesc) (k : Value) : ∀ (l1 l2 : List MapEntry) (i : Nat) (r : Option (Nat × Value)), l1.map (·.key) = l2.map (·.key) → Instr.findNow kind k l1 i = some r →
    (r = none ∧ Instr.findNow kind k l2 i = some none) ∨ ∃ (j : Nat) (v : Value) (e : MapEntry), r = some (i + j, v) ∧ l2[j]? = some e ∧ Instr.findNow kind k l2 i = some (some (i + j, e.val))
  | [], [], i, r, _, h => by simp [Instr.findNow] at h; subst h; exact .inl ⟨rfl, rfl⟩
  | [], _ :: _, _, _, hk, _ => by simp at hk
  | _ :: _, [], _, _, hk, _ => by simp at hk
  | a :: l1, b :: l2, i, r, hk, h => by
    simp only [List.map_cons, List.cons.injEq] at hk
    obtain ⟨hk0, hk⟩ := hk
    simp only [Instr.findNow, hk0] at h ⊢
    split at h
    · rename_i hs; cases h
      exact .inr ⟨0, a.val, b, rfl, rfl, by simp [hs]⟩
    · rename_i hs
      rcases findNow_like kind k l1 l2 (i + 1) r hk h with ⟨h1, h2⟩ | ⟨j, v, e, h1, h2, h3⟩
      · exact .inl ⟨h1, by simp [hs, h2]⟩
      · exact .inr ⟨j + 1, v, e, by rw [h1]; congr 2; omega, by simpa using h2, by simp [hs, h3]; omega⟩
    · cases h
theorem findNow_none (kind : TypeDesc) (k : Value) : ∀ (l1 l2 : List MapEntry) (i : Nat), l1.map (·.key) = l2.map (·.key) → Instr.findNow kind k l1 i = none → Instr.findNow kind k l2 i = none
  | [], [], i, _, h => by simp [Instr.findNow] at h
  | [], _ :: _, _, hk, _ => by simp at hk
  | _ :: _, [], _, hk, _ => by simp at hk
  | a :: l1, b :: l2, i, hk, h => by
    simp only [List.map_cons, List.cons.injEq] at hk
    obtain ⟨hk0, hk⟩ := hk
    simp only [Instr.findNow, hk0] at h ⊢
    split at h
    · cases h
    · rename_i hs; simp [hs, findNow_none kind k l1 l2 (i + 1) hk h]
    · rename_i hs; simp [hs]
theorem findAsking_like (P : Program) (t : TypeId) (k : Value) : ∀ (l1 l2 : List MapEntry) (i : Nat) (r : Option (Nat × Value)), l1.map (·.key) = l2.map (·.key) → pureRun P (Instr.findAsking t k l1 i) = some r →
    (r = none ∧ pureRun P (Instr.findAsking t k l2 i) = some none) ∨ ∃ (j : Nat) (v : Value) (e : MapEntry), r = some (i + j, v) ∧ l2[j]? = some e ∧ pureRun P (Instr.findAsking t k l2 i) = some (some (i + j, e.val))
  | [], [], i, r, _, h => by simp [Instr.findAsking, pureRun_pure] at h; subst h; exact .inl ⟨rfl, rfl⟩
  | [], _ :: _, _, _, hk, _ => by simp at hk
  | _ :: _, [], _, _, hk, _ => by simp at hk
  | a :: l1, b :: l2, i, r, hk, h => by
    simp only [List.map_cons, List.cons.injEq] at hk
    obtain ⟨hk0, hk⟩ := hk
    simp only [Instr.findAsking, pureRun_bind, hk0] at h ⊢
    cases hb : pureRun P (Op.equal t k b.key) with
    | none => simp [hb] at h
    | some c =>
      simp only [hb, Option.bind_some] at h ⊢
      cases c with
      | true =>
        simp [pureRun_pure] at h; subst h
        exact .inr ⟨0, a.val, b, rfl, rfl, by simp [pureRun_pure]⟩
      | false =>
        simp only [Bool.false_eq_true, if_false] at h ⊢
        rcases findAsking_like P t k l1 l2 (i + 1) r hk h with ⟨h1, h2⟩ | ⟨j, v, e, h1, h2, h3⟩
        · exact .inl ⟨h1, h2⟩
        · exact .inr ⟨j + 1, v, e, by rw [h1]; congr 2; omega, by simpa using h2, by rw [h3]; congr 3; omega⟩
theorem findKey_like (P : Program) (t : TypeId) (k : Value) {l1 l2 : List MapEntry} {r : Option (Nat × Value)} (hk : l1.map (·.key) = l2.map (·.key)) (h : pureRun P (Instr.findKey t k l1) = some r) :
    (r = none ∧ pureRun P (Instr.findKey t k l2) = some none) ∨ ∃ (j : Nat) (v : Value) (e : MapEntry), r = some (j, v) ∧ l2[j]? = some e ∧ pureRun P (Instr.findKey t k l2) = some (some (j, e.val)) := by
  simp only [Instr.findKey, pureRun_bind] at h ⊢
  cases hu : pureRun P (underlying t) with
  | none => simp [hu] at h
  | some d =>
    simp only [hu, Option.bind_some] at h ⊢
    cases hf : Instr.findNow d k l1 0 with
    | some q =>
      simp only [hf, pureRun_pure, Option.some.injEq] at h
      subst h
      rcases findNow_like d k l1 l2 0 q hk hf with ⟨h1, h2⟩ | ⟨j, v, e, h1, h2, h3⟩
      · exact .inl ⟨h1, by simp [h2, pureRun_pure]⟩
      · exact .inr ⟨j, v, e, by simpa using h1, h2, by simp [h3, pureRun_pure]⟩
    | none =>
      simp only [hf] at h
      rw [findNow_none d k l1 l2 0 hk hf]
      simp only
      rcases findAsking_like P t k l1 l2 0 r hk h with ⟨h1, h2⟩ | ⟨j, v, e, h1, h2, h3⟩
      · exact .inl ⟨h1, h2⟩
      · exact .inr ⟨j, v, e, by simpa using h1, h2, by simpa using h3⟩
abbrev Ent := Value × SV × Nat
def dummies (es : List Ent) : List MapEntry := es.map fun e => { key := e.1, val := .bool false, born := e.2.2 }
def seek (P : Program) (kt : TypeId) (k : Value) (es : List Ent) : Option (Option Nat) :=
  match pureRun P (Instr.findKey kt k (dummies es)) with
  | none => none
  | some none => some none
  | some (some (j, _)) => some (some j)
structure MapRep (M : Imm) (ρ : Env) (arr : Array MapEntry) (es : List Ent) : Prop where
  sz : arr.size = es.length
  rep : ∀ (i : Nat) (k : Value) (x : SV) (b : Nat), es[i]? = some (k, x, b) → ∃ e : MapEntry, arr[i]? = some e ∧ e.key = k ∧ e.born = b ∧ SRep M ρ e.val x
theorem MapRep.keys {M : Imm} {ρ : Env} {arr : Array MapEntry} {es : List Ent} (h : MapRep M ρ arr es) : (dummies es).map (·.key) = arr.toList.map (·.key) := by
  apply List.ext_getElem?
  intro i
  simp only [dummies, List.map_map, List.getElem?_map]
  by_cases hi : i < es.length
  · obtain ⟨e, h1, h2, _⟩ := h.rep i es[i].1 es[i].2.1 es[i].2.2 (by simp [hi])
    rw [← Array.getElem?_toList] at h1
    simp [hi, h1, h2]
  · rw [List.getElem?_eq_none (by omega), List.getElem?_eq_none (by simp; rw [h.sz]; omega)]; rfl
theorem seek_run {P : Program} {M : Imm} {ρ : Env} {arr : Array MapEntry} {es : List Ent} {kt : TypeId} {k : Value} (h : MapRep M ρ arr es) (w : World) :
    (seek P kt k es = some none → (Instr.findKey kt k arr.toList).run P w = .ok none w) ∧
    (∀ j, seek P kt k es = some (some j) → ∃ (e : MapEntry) (x : Ent), arr[j]? = some e ∧ es[j]? = some x ∧ e.key = x.1 ∧ e.born = x.2.2 ∧ SRep M ρ e.val x.2.1 ∧ (Instr.findKey kt k arr.toList).run P w = .ok (some (j, e.val)) w) := by
  unfold seek
  cases hf : pureRun P (Instr.findKey kt k (dummies es)) with
  | none => exact ⟨fun h => by simp at h, fun j h => by simp at h⟩
  | some r =>
    rcases findKey_like P kt k h.keys hf with ⟨rfl, h2⟩ | ⟨j, v, e, rfl, h2, h3⟩
    · exact ⟨fun _ => pureRun_run h2 w, fun j h => by simp at h⟩
    · refine ⟨fun h => by simp at h, fun j' hj => ?_⟩
      simp at hj; subst hj
      rw [Array.getElem?_toList] at h2
      have hlt : j < es.length := by have := (Array.getElem?_eq_some_iff.1 h2).1; rw [h.sz] at this; exact this
      obtain ⟨e', a1, a2, a3, a4⟩ := h.rep j es[j].1 es[j].2.1 es[j].2.2 (by simp [hlt])
      rw [h2] at a1; cases a1
      exact ⟨e, es[j], h2, by simp [hlt], a2, a3, a4, pureRun_run h3 w⟩
def keyOk (P : Program) (empty : Bool) (kt : TypeId) (k : Value) : Bool := (pureRun P (Instr.checkKey empty 10000 kt k)).isSome
theorem keyOk_run {P : Program} {empty : Bool} {kt : TypeId} {k : Value} (h : keyOk P empty kt k = true) (w : World) : (Instr.checkKey empty 10000 kt k).run P w = .ok () w := by
  unfold keyOk at h
  obtain ⟨u, hu⟩ := Option.isSome_iff_exists.1 h
  exact pureRun_run hu w
theorem OwnAt.mapRep {M : Imm} {ρ : Env} {w : World} {s : Nat} {es : List Ent} {c : Nat} {p : Place} (h : OwnAt M ρ w s (.map es c)) (hp : ρ s = some p) : ∃ arr, w.heap[p.block]? = some (.map arr c) ∧ MapRep M ρ arr es := by
  obtain ⟨q, arr, h1, h2, h3, h4⟩ := h
  rw [hp] at h1; cases h1
  exact ⟨arr, h2, h3, h4⟩
def valOf (t : Ty) : SV → Option t.El
  | .pv p => t.of p
  | _ => none
def aggOf (row : List Ty) : SV → Option (Els row)
  | .pv (.lit (.agg cs)) => ofRow row (cs.toList.map .lit)
  | .agg l => match pures l with
    | some ps => ofRow row ps
    | none => none
  | _ => none
def ATy.ofSV : (a : ATy) → SV → Option a.El
  | .val t => valOf t
  | .agg row => aggOf row
theorem ATy.ofSV_sound {M : Imm} {ρ : Env} {a : ATy} {x : SV} {v : Value} {y : a.El} (h : a.ofSV x = some y) (hx : SRep M ρ v x) : SRep M ρ v (a.raw y) := by
  cases a with
  | val t =>
    have h : valOf t x = some y := h
    unfold valOf at h
    split at h
    · cases hx with
      | pv hp => exact .pv (Ty.of_sound h hp)
    · cases h
  | agg row =>
    replace h : aggOf row x = some y := h
    have fin : ∀ (cs : Array Value) (l : List PV), ofRow row l = some y → cs.size = l.length → (∀ (i : Nat) (u : Value) (q : PV), cs[i]? = some u → l[i]? = some q → PRep M u q) → SRep M ρ (.agg cs) ((ATy.agg row).raw y) := fun cs l hy hl hr => by
      obtain ⟨g1, g2⟩ := ofRow_sound hy
      refine .agg cs _ (by simp [hl, g1]) fun i u z hu hz => ?_
      simp only [List.getElem?_map, Option.map_eq_some_iff] at hz
      obtain ⟨q, hq, rfl⟩ := hz
      obtain ⟨p, hp, himp⟩ := g2 i q hq
      exact .pv (himp M u (hr i u p hu hp))
    unfold aggOf at h
    split at h
    · rename_i cs
      have := hx.lit_eq
      subst this
      refine fin cs _ h (by simp) fun i u q hu hq => ?_
      simp only [List.getElem?_map, Option.map_eq_some_iff, Array.getElem?_toList] at hq
      obtain ⟨q', hq', rfl⟩ := hq
      rw [hu] at hq'; cases hq'; exact .lit _
    · split at h
      · rename_i l ps hps
        have e := pures_eq hps
        subst e
        cases hx with
        | agg cs _ hl hr =>
          refine fin cs ps h (by simpa using hl) fun i u q hu hq => ?_
          have := hr i u (.pv q) hu (by simp [hq])
          cases this with
          | pv h => exact h
      · cases h
    · cases h
theorem Ty.toV_pv {M : Imm} {v : Value} : ∀ {t : Ty} {x : t.El}, t.scalar = true → PRep M v (t.pv x) → v = t.toV x
  | .int _, _, _, h => by cases h; rfl
  | .bool, _, _, h => by cases h; rfl
  | .str, _, _, h => by cases h; rfl
theorem rowPV_vals : ∀ (ts : List Ty) (x : Els ts), ts.all Ty.scalar = true → rowPV ts x = (rowV ts x).map .lit
  | [], _, _ => rfl
  | [t], x, h => by cases t <;> first | rfl | (simp [Ty.scalar] at h)
  | t :: t' :: ts, x, h => by
    simp only [List.all_cons, Bool.and_eq_true] at h
    have := rowPV_vals (t' :: ts) x.2 (by simp only [List.all_cons, Bool.and_eq_true]; exact h.2)
    simp only [rowPV, rowV, List.map_cons, this]
    cases t <;> first | rfl | (simp [Ty.scalar] at h)
theorem keyV_of_raw {M : Imm} {ρ : Env} {a : ATy} {x : a.El} {v : Value} (hs : a.scalar = true) (h : SRep M ρ v (a.raw x)) : v = a.keyV x := by
  cases a with
  | val t =>
    cases h with
    | pv h => exact Ty.toV_pv hs h
  | agg row =>
    have e := rowPV_vals row x hs
    simp only [ATy.raw, e] at h
    cases h with
    | agg cs _ hl hr =>
      show _ = Value.agg (rowV row x).toArray
      congr 1
      apply Array.ext
      · simpa using hl
      · intro i h1 h2
        have := hr i cs[i] (.lit ((rowV row x).toArray[i])) (by simp [h1]) (by simp at h2; simp [h2])
        rw [this.lit_eq]
def mfind {K V : Type} (eq : K → K → Bool) (k : K) : List (K × V) → Nat → Option (Nat × V)
  | [], _ => none
  | e :: l, i => match eq k e.1 with
    | true => some (i, e.2)
    | false => mfind eq k l (i + 1)
theorem entsFrom_get {k v : ATy} : ∀ (l : List (k.El × v.El)) (n i : Nat), (entsFrom k v n l)[i]? = (l[i]?).map fun x => (k.keyV x.1, v.raw x.2, n + i)
  | [], n, i => by simp [entsFrom]
  | x :: l, n, i => by
    cases i with
    | zero => simp [entsFrom]
    | succ i => simp only [entsFrom, List.getElem?_cons_succ, entsFrom_get l (n + 1) i]; congr 1; funext x; rw [Nat.add_right_comm, Nat.add_assoc]
theorem entsFrom_set {k v : ATy} (l : List (k.El × v.El)) (n j : Nat) (x : k.El × v.El) : entsFrom k v n (l.set j x) = (entsFrom k v n l).set j (k.keyV x.1, v.raw x.2, n + j) := by
  apply List.ext_getElem?
  intro i
  rw [entsFrom_get, List.getElem?_set, List.getElem?_set, entsFrom_len, entsFrom_get]
  split
  · rename_i e; subst e
    split <;> rfl
  · rfl
theorem entsFrom_app {k v : ATy} (l : List (k.El × v.El)) (n : Nat) (x : k.El × v.El) : entsFrom k v n (l ++ [x]) = entsFrom k v n l ++ [(k.keyV x.1, v.raw x.2, n + l.length)] := by
  apply List.ext_getElem?
  intro i
  rw [entsFrom_get, List.getElem?_append, List.getElem?_append, entsFrom_len, entsFrom_get]
  split
  · rfl
  · rename_i h
    by_cases e : i - l.length = 0
    · have : i = l.length := by omega
      subst this; simp
    · obtain ⟨m, hm⟩ := Nat.exists_eq_succ_of_ne_zero e
      rw [hm]; simp
def descK : TypeDesc → ATy → Bool
  | .int k, .val (.int k') => decide (k = k')
  | .string, .val .str => true
  | .bool, .val .bool => true
  | _, _ => false
theorem descK_scalar {d : TypeDesc} {a : ATy} (h : descK d a = true) : a.scalar = true := by
  unfold descK at h
  split at h <;> first | rfl | cases h
theorem findNow_data {d : TypeDesc} {k v : ATy} (hd : descK d k = true) (x : k.El) : ∀ (l : List (k.El × v.El)) (n i : Nat),
    ∃ r, Instr.findNow d (k.keyV x) (dummies (entsFrom k v n l)) i = some r ∧ r.map (·.1) = (mfind k.eqv x l i).map (·.1)
  | [], n, i => ⟨none, rfl, rfl⟩
  | y :: l, n, i => by
    obtain ⟨r, h1, h2⟩ := findNow_data hd x l (n + 1) (i + 1)
    have hs : Instr.sameNow d (k.keyV x) (k.keyV y.1) = some (k.eqv x y.1) := by
      unfold descK at hd
      split at hd
      · rename_i a b
        show Instr.sameNow (.int _) (.int b x) (.int b y.1) = some (intEq x y.1)
        simp only [Instr.sameNow, if_true]; rfl
      · show Instr.sameNow .string (.string x) (.string y.1) = some (strEq x y.1)
        have key : ∀ a b : ByteArray, Instr.sameNow .string (.string a) (.string b) = some (strEq a b) := fun a b => by simp only [Instr.sameNow, strEq_beq]
        exact key x y.1
      · show Instr.sameNow .bool (.bool x) (.bool y.1) = some (boolEq x y.1)
        have key : ∀ a b : Bool, Instr.sameNow .bool (.bool a) (.bool b) = some (boolEq a b) := by decide
        exact key x y.1
      · cases hd
    show ∃ r, Instr.findNow d (k.keyV x) ({ key := k.keyV y.1, val := .bool false, born := n } :: dummies (entsFrom k v (n + 1) l)) i = some r ∧ _
    simp only [Instr.findNow, hs, mfind]
    cases k.eqv x y.1 with
    | true => exact ⟨_, rfl, rfl⟩
    | false => exact ⟨r, h1, h2⟩
theorem seek_data {P : Program} {kt : TypeId} {d : TypeDesc} (hu : P.underlying kt = some d) {k v : ATy} (hd : descK d k = true) (x : k.El) (l : List (k.El × v.El)) :
    seek P kt (k.keyV x) (entsFrom k v 0 l) = some ((mfind k.eqv x l 0).map (·.1)) := by
  obtain ⟨r, h1, h2⟩ := findNow_data hd x l 0 0
  have : pureRun P (Instr.findKey kt (k.keyV x) (dummies (entsFrom k v 0 l))) = some r := by
    unfold Instr.findKey
    rw [pureRun_bind]
    have : pureRun P (underlying kt) = some d := by
      unfold underlying
      rw [pureRun_bind]
      show (some P).bind _ = _
      simp only [Option.bind_some, hu, pureRun_pure]
    rw [this]
    simp only [Option.bind_some, h1, pureRun_pure]
  unfold seek
  rw [this]
  cases r with
  | none => simp only [Option.map_none] at h2; rw [← h2]
  | some p => simp only [Option.map_some] at h2; rw [← h2]
theorem mfind_spec {K V : Type} {eq : K → K → Bool} {k : K} : ∀ {l : List (K × V)} {n j : Nat} {v : V}, mfind eq k l n = some (j, v) → ∃ i e, j = n + i ∧ l[i]? = some e ∧ e.2 = v ∧ eq k e.1 = true
  | [], n, j, v, h => by cases h
  | e :: l, n, j, v, h => by
    simp only [mfind] at h
    split at h
    · rename_i he; cases h; exact ⟨0, e, rfl, rfl, rfl, he⟩
    · obtain ⟨i, e', h1, h2, h3, h4⟩ := mfind_spec h
      exact ⟨i + 1, e', by omega, by simpa using h2, h3, h4⟩
def ATy.ofZ : (a : ATy) → Value → Option a.El
  | a, z => a.ofSV (.lit z)
def mgetD {K V : Type} (eq : K → K → Bool) (k : K) (l : List (K × V)) (z : V) : V := match mfind eq k l 0 with
  | some p => p.2
  | none => z
def mhas {K V : Type} (eq : K → K → Bool) (k : K) (l : List (K × V)) : Bool := (mfind eq k l 0).isSome
def mput {K V : Type} (eq : K → K → Bool) (k : K) (x : V) (l : List (K × V)) : List (K × V) := match mfind eq k l 0 with
  | some p => l.set p.1 (k, x)
  | none => l ++ [(k, x)]
def midx {K V : Type} (eq : K → K → Bool) (k : K) (l : List (K × V)) : Nat := match mfind eq k l 0 with
  | some p => p.1
  | none => l.length
theorem MapAt.rep {M : Imm} {ρ : Env} {w : World} {s : Nat} {es : List Ent} {c : Nat} {p : Place} (h : MapAt M ρ w s es c) (hp : ρ s = some p) : ∃ arr, w.heap[p.block]? = some (.map arr c) ∧ MapRep M ρ arr es := by
  obtain ⟨q, arr, h1, h2, h3, h4⟩ := h
  rw [hp] at h1; cases h1
  exact ⟨arr, h2, h3, h4⟩
def sMakeMap (H : List SObj) : Res := .eff (.mp H.length) (H ++ [.map [] 0]) [] []
theorem sMakeMap_sound {P : Program} {M : Imm} {ρ : Env} {H : List SObj} {w : World} {K : Post} (hm : Mem M ρ H w) {t : TypeId} (h : (sMakeMap H).holds H K) : DoesV P (Instr.makeMap t none) M ρ H w K := by
  have hrun : (Instr.makeMap t none).run P w = .ok (.map (some w.heap.size)) (w.alloc (.map #[] 0)) := by simp [Instr.makeMap]
  obtain ⟨g1, g2⟩ := hm.alloc (w' := w.alloc (.map #[] 0)) (o := .map #[] 0) (so := .map [] 0) (cap := 0) rfl
    ⟨_, #[], Env.set_self .., heap_alloc_new w _, rfl, fun i k x b hi => by simp at hi⟩
  exact ⟨_, _, hrun, _, _, [], [], M, _, h, .mp _ _ (Env.set_self ..), g1, g2⟩
def sLookup0 (P : Program) (tab : Tab) (H : List SObj) (t : Nat) (m k : SV) (ok : Bool) : Res :=
  match tab.lookup t with
  | some { desc := .map kt et, .. } => match k with
    | .pv (.lit kv) => match m with
      | .mp s => match H[s]? with
        | some (.map es c) => if keyOk P es.isEmpty kt kv then match seek P kt kv es with
            | some (some j) => match es[j]? with
              | some e => .ok (if ok then .tup [e.2.1, .lit (.bool true)] else e.2.1)
              | none => .fail
            | some none => match tab.lookup et with
              | some i => .ok (if ok then .tup [.lit i.zero, .lit (.bool false)] else .lit i.zero)
              | none => .fail
            | none => .fail
          else .fail
        | _ => .fail
      | .pv (.lit (.map none)) => if keyOk P true kt kv then match tab.lookup et, tab.lookup kt with
          | some i, some _ => .ok (if ok then .tup [.lit i.zero, .lit (.bool false)] else .lit i.zero)
          | _, _ => .fail
        else .fail
      | _ => .fail
    | _ => .fail
  | _ => .fail
theorem ok_rep {M : Imm} {ρ : Env} {v : Value} {x : SV} {b ok : Bool} (h : SRep M ρ v x) : SRep M ρ (if ok then .tuple #[v, .bool b] else v) (if ok then .tup [x, .lit (.bool b)] else x) := by
  cases ok with
  | false => simpa using h
  | true =>
    simp only [if_true]
    refine .tup _ _ rfl fun i u y hu hy => ?_
    match i with
    | 0 => simp at hu hy; subst hu; subst hy; exact h
    | 1 => simp at hu hy; subst hu; subst hy; exact .pv (.lit _)
    | i + 2 => simp at hy
theorem zeroValue_run {P : Program} {t : TypeId} {i : TI} (h : TyOk P t i) (w : World) : (zeroValue t).run P w = .ok i.zero w := by
  obtain ⟨n, hn, _, _, h3⟩ := h.inf
  simp [zeroValue, typeInfo, hn, h3]
theorem sLookup0_sound {P : Program} {tab : Tab} (htab : TabOk P tab) {M : Imm} {ρ : Env} {H : List SObj} {w : World} {K : Post} (hm : Mem M ρ H w) {t : Nat} {m k : SV} {vm vk : Value} {ok : Bool} (hmr : SRep M ρ vm m) (hkr : SRep M ρ vk k)
    (h : (sLookup0 P tab H t m k ok).holds H K) : DoesV P (Instr.lookup t vm vk ok) M ρ H w K := by
  unfold sLookup0 at h
  split at h
  · rename_i kt et sz' by' zr rw' hte
    have hu : P.underlying t = some (.map kt et) := (htab.get hte).und
    split at h
    · rename_i kv
      have := hkr.lit_eq; subst this
      split at h
      · rename_i s
        split at h
        · rename_i es c ho
          split at h
          · rename_i hko
            cases hmr with
            | mp _ p hp =>
              obtain ⟨arr, hheap, hrep⟩ := (hm.own s _ ho).mapRep hp
              have hempty : arr.isEmpty = es.isEmpty := by
                have := hrep.sz
                simp only [Array.isEmpty, this]
                cases es <;> simp
              obtain ⟨f1, f2⟩ := seek_run (P := P) (kt := kt) (k := vk) hrep w
              have hget := run_getObj_map (P := P) hheap
              have hkey := keyOk_run hko w
              rw [← hempty] at hkey
              split at h
              · rename_i j hj
                obtain ⟨e, x, a1, a2, a3, a4, a5, a6⟩ := f2 j hj
                rw [a2] at h
                simp only at h
                refine DoesV.same hm ?_ (ok_rep (ok := ok) (b := true) a5) h
                simp [Instr.lookup, run_underlying hu, hget, hkey, a6]
              · rename_i hj
                split at h
                · rename_i i hi
                  refine DoesV.same hm ?_ (ok_rep (ok := ok) (b := false) (.pv (.lit _))) h
                  simp [Instr.lookup, run_underlying hu, hget, hkey, f1 hj, zeroValue_run (htab.get hi)]
                · exact h.elim
              · exact h.elim
          · exact h.elim
        · exact h.elim
      · split at h
        · rename_i hko
          have := hmr.lit_eq; subst this
          have hkey := keyOk_run hko w
          split at h
          · rename_i i ik hi hik
            have hnone : (Instr.findKey kt vk []).run P w = .ok none w := by
              simp only [Instr.findKey, Instr.findNow, Sem.run_bind, run_underlying (htab.get hik).und, Result.andThen_ok, Sem.run_pure]
            refine DoesV.same hm ?_ (ok_rep (ok := ok) (b := false) (.pv (.lit _))) h
            simp [Instr.lookup, run_underlying hu, hkey, hnone, zeroValue_run (htab.get hi)]
          · exact h.elim
        · exact h.elim
      · exact h.elim
    · exact h.elim
  · exact h.elim
def sMapUpdate0 (P : Program) (tab : Tab) (H : List SObj) (t : Nat) (m k x : SV) : Res :=
  match tab.lookup t, m, k with
  | some { desc := .map kt et, .. }, .mp s, .pv (.lit kv) => match H[s]? with
    | some (.map es c) => if keyOk P false kt kv then match seek P kt kv es with
        | some (some j) => match es[j]? with
          | some e => if Instr.sameBits 10000 e.1 kv then .eff .any (H.set s (.map (es.set j (kv, x, e.2.2)) c)) [s] [] else .fail
          | none => .fail
        | some none => .eff .any (H.set s (.map (es ++ [(kv, x, c)]) (c + 1))) [s] []
        | none => .fail
      else .fail
    | _ => .fail
  | _, _, _ => .fail
theorem run_setObj {P : Program} {w : World} {b : Nat} {es : Array MapEntry} {c : Nat} (h : w.heap[b]? = some (.map es c)) (o : Obj) : (setObj b o).run P w = .ok () { w with heap := w.heap.setIfInBounds b o } := by
  simp [setObj, Sem.run, h]
theorem putHeap_ne {w : World} {b k : Nat} {o : Obj} (h : k ≠ b) : (w.heap.setIfInBounds b o)[k]? = w.heap[k]? := Array.getElem?_setIfInBounds_ne (Ne.symm h)
theorem MapRep.set {M : Imm} {ρ : Env} {arr : Array MapEntry} {es : List Ent} {j : Nat} {e : MapEntry} {k : Value} {v : Value} {x : SV} {b : Nat} (h : MapRep M ρ arr es) (hj : arr[j]? = some e) (hx : SRep M ρ v x) (hb : e.born = b)
    (f : MapEntry → MapEntry) (hf : f e = { e with key := k, val := v }) : MapRep M ρ (arr.modify j f) (es.set j (k, x, b)) := by
  refine ⟨by simp [h.sz], fun i k' x' b' hi => ?_⟩
  have hlt : j < arr.size := (Array.getElem?_eq_some_iff.1 hj).1
  rw [List.getElem?_set] at hi
  split at hi
  · rename_i e'; subst e'
    rw [if_pos (by rw [← h.sz]; exact hlt)] at hi
    cases hi
    refine ⟨{ e with key := k, val := v }, ?_, rfl, hb, hx⟩
    rw [Array.getElem?_modify]; simp [hj, hf]
  · rename_i e'
    obtain ⟨q, a1, a2⟩ := h.rep i k' x' b' hi
    exact ⟨q, by rw [Array.getElem?_modify, if_neg e']; exact a1, a2⟩
theorem MapRep.push {M : Imm} {ρ : Env} {arr : Array MapEntry} {es : List Ent} {k v : Value} {x : SV} {c : Nat} (h : MapRep M ρ arr es) (hx : SRep M ρ v x) : MapRep M ρ (arr.push { key := k, val := v, born := c }) (es ++ [(k, x, c)]) := by
  refine ⟨by simp [h.sz], fun i k' x' b' hi => ?_⟩
  rw [List.getElem?_append] at hi
  split at hi
  · rename_i hlt
    obtain ⟨q, a1, a2⟩ := h.rep i k' x' b' hi
    exact ⟨q, by rw [Array.getElem?_push]; rw [if_neg (by rw [h.sz]; omega)]; exact a1, a2⟩
  · rename_i hlt
    have e : i = es.length := by
      by_cases e : i = es.length
      · exact e
      · rw [List.getElem?_eq_none (by simp; omega)] at hi; cases hi
    subst e
    simp at hi
    obtain ⟨rfl, rfl, rfl⟩ := hi
    exact ⟨_, by rw [Array.getElem?_push, if_pos h.sz.symm], rfl, rfl, hx⟩
theorem map_put {P : Program} {M : Imm} {ρ : Env} {H : List SObj} {w : World} {K : Post} (hm : Mem M ρ H w) {s : Nat} {es es' : List Ent} {c c' : Nat} {p : Place} {arr arr' : Array MapEntry} (ho : H[s]? = some (.map es c)) (hp : ρ s = some p)
    (hheap : w.heap[p.block]? = some (.map arr c)) (hr : MapRep M ρ arr' es') : Mem M ρ (H.set s (.map es' c')) { w with heap := w.heap.setIfInBounds p.block (.map arr' c') } ∧ Fr M ρ H w M ρ (H.set s (.map es' c')) { w with heap := w.heap.setIfInBounds p.block (.map arr' c') } H.length [s] [] := by
  have hlt : p.block < w.heap.size := (Array.getElem?_eq_some_iff.1 hheap).1
  exact hm.put ho rfl hp (fun b hb => putHeap_ne hb) (by simp) rfl ⟨p, arr', hp, by simp [hlt], hr.sz, hr.rep⟩
theorem sMapUpdate0_sound {P : Program} {tab : Tab} (htab : TabOk P tab) {M : Imm} {ρ : Env} {H : List SObj} {w : World} {K : Post} (hm : Mem M ρ H w) {t : Nat} {m k x : SV} {vm vk v : Value} (hmr : SRep M ρ vm m) (hkr : SRep M ρ vk k) (hx : SRep M ρ v x)
    (h : (sMapUpdate0 P tab H t m k x).holds H K) : DoesU P (Instr.mapUpdate t vm vk v) M ρ H w K := by
  unfold sMapUpdate0 at h
  split at h
  · rename_i kt et sz' by' zr rw' s kv hte
    have hu : P.underlying t = some (.map kt et) := (htab.get hte).und
    have := hkr.lit_eq; subst this
    split at h
    · rename_i es c ho
      split at h
      · rename_i hko
        cases hmr with
        | mp _ p hp =>
          obtain ⟨arr, hheap, hrep⟩ := (hm.own s _ ho).mapRep hp
          obtain ⟨f1, f2⟩ := seek_run (P := P) (kt := kt) (k := vk) hrep w
          have hget := run_getObj_map (P := P) hheap
          have hkey := keyOk_run hko w
          split at h
          · rename_i j hj
            obtain ⟨e, x', a1, a2, a3, a4, a5, a6⟩ := f2 j hj
            rw [a2] at h
            simp only at h
            split at h
            · rename_i hsb
              have hks : (Instr.keyThatStays (((arr[j]?).map (·.key)).getD vk) vk).run P w = .ok vk w := by
                rw [a1]; simp only [Option.map_some, Option.getD_some, a3]
                simp [Instr.keyThatStays, hsb]
              obtain ⟨g1, g2⟩ := map_put (P := P) (K := K) (c' := c) hm ho hp hheap (hrep.set a1 hx a4 (fun e => { e with key := vk, val := v }) rfl)
              refine ⟨_, ?_, .any, _, [s], [], M, ρ, h, rfl, g1, g2⟩
              simp [Instr.mapUpdate, run_underlying hu, hget, hkey, a6, hks, run_setObj hheap]
            · exact h.elim
          · rename_i hj
            obtain ⟨g1, g2⟩ := map_put (P := P) (K := K) (c' := c + 1) hm ho hp hheap (hrep.push (k := vk) (c := c) hx)
            refine ⟨_, ?_, .any, _, [s], [], M, ρ, h, rfl, g1, g2⟩
            simp [Instr.mapUpdate, run_underlying hu, hget, hkey, f1 hj, run_setObj hheap]
          · exact h.elim
      · exact h.elim
    · exact h.elim
  · exact h.elim
def sMapEntry0 (P : Program) (tab : Tab) (H : List SObj) (t : Nat) (m k : SV) : Res :=
  match tab.lookup t, m, k with
  | some { desc := .map kt et, .. }, .mp s, .pv (.lit kv) => match H[s]? with
    | some (.map es c) => if keyOk P false kt kv then match seek P kt kv es with
        | some (some j) => match es[j]? with
          | some e => if Instr.sameBits 10000 e.1 kv then .eff (.tup [e.2.1, .lit (.int .i64 e.2.2)]) (H.set s (.map (es.set j (kv, e.2.1, e.2.2)) c)) [s] [] else .fail
          | none => .fail
        | some none => match tab.lookup et with
          | some i => .eff (.tup [.lit i.zero, .lit (.int .i64 c)]) (H.set s (.map (es ++ [(kv, .lit i.zero, c)]) (c + 1))) [s] []
          | none => .fail
        | none => .fail
      else .fail
    | _ => .fail
  | _, _, _ => .fail
theorem tup2_rep {M : Imm} {ρ : Env} {v u : Value} {x y : SV} (h : SRep M ρ v x) (k : SRep M ρ u y) : SRep M ρ (.tuple #[v, u]) (.tup [x, y]) := by
  refine .tup _ _ rfl fun i a b ha hb => ?_
  match i with
  | 0 => simp at ha hb; subst ha; subst hb; exact h
  | 1 => simp at ha hb; subst ha; subst hb; exact k
  | i + 2 => simp at hb
theorem sMapEntry0_sound {P : Program} {tab : Tab} (htab : TabOk P tab) {M : Imm} {ρ : Env} {H : List SObj} {w : World} {K : Post} (hm : Mem M ρ H w) {t : Nat} {m k : SV} {vm vk : Value} (hmr : SRep M ρ vm m) (hkr : SRep M ρ vk k)
    (h : (sMapEntry0 P tab H t m k).holds H K) : DoesV P (Instr.mapEntry t vm vk) M ρ H w K := by
  unfold sMapEntry0 at h
  split at h
  · rename_i kt et sz' by' zr rw' s kv hte
    have hu : P.underlying t = some (.map kt et) := (htab.get hte).und
    have := hkr.lit_eq; subst this
    split at h
    · rename_i es c ho
      split at h
      · rename_i hko
        cases hmr with
        | mp _ p hp =>
          obtain ⟨arr, hheap, hrep⟩ := (hm.own s _ ho).mapRep hp
          obtain ⟨f1, f2⟩ := seek_run (P := P) (kt := kt) (k := vk) hrep w
          have hget := run_getObj_map (P := P) hheap
          have hkey := keyOk_run hko w
          split at h
          · rename_i j hj
            obtain ⟨e, x', a1, a2, a3, a4, a5, a6⟩ := f2 j hj
            rw [a2] at h
            simp only at h
            split at h
            · rename_i hsb
              have hks : (Instr.keyThatStays e.key vk).run P w = .ok vk w := by
                rw [a3]; simp [Instr.keyThatStays, hsb]
              obtain ⟨g1, g2⟩ := map_put (P := P) (K := K) (c' := c) hm ho hp hheap (hrep.set a1 a5 a4 (fun e => { e with key := vk }) rfl)
              refine ⟨.tuple #[e.val, goInt e.born], _, ?_, _, _, [s], [], M, ρ, h, ?_, g1, g2⟩
              · simp [Instr.mapEntry, run_underlying hu, hget, hkey, a6, hks, run_setObj hheap, a1]
              · rw [a4]; exact tup2_rep a5 (.pv (.lit _))
            · exact h.elim
          · rename_i hj
            split at h
            · rename_i i hi
              obtain ⟨g1, g2⟩ := map_put (P := P) (K := K) (c' := c + 1) hm ho hp hheap (hrep.push (k := vk) (c := c) (v := i.zero) (x := .lit i.zero) (.pv (.lit _)))
              refine ⟨.tuple #[i.zero, goInt c], _, ?_, _, _, [s], [], M, ρ, h, tup2_rep (.pv (.lit _)) (.pv (.lit _)), g1, g2⟩
              simp [Instr.mapEntry, run_underlying hu, hget, hkey, f1 hj, run_setObj hheap, zeroValue_run (htab.get hi)]
            · exact h.elim
          · exact h.elim
      · exact h.elim
    · exact h.elim
  · exact h.elim
def sEntryStore0 (H : List SObj) (m st x : SV) : Res :=
  match m, st with
  | .mp s, .pv (.lit (.int _ n)) => match H[s]? with
    | some (.map es c) => match es.findIdx? (fun e => (e.2.2 : Int) == n) with
      | some j => match es[j]? with
        | some e => .eff .any (H.set s (.map (es.set j (e.1, x, e.2.2)) c)) [s] []
        | none => .fail
      | none => .fail
    | _ => .fail
  | _, _ => .fail
theorem sEntryStore0_sound {P : Program} {M : Imm} {ρ : Env} {H : List SObj} {w : World} {K : Post} (hm : Mem M ρ H w) {t : Nat} {m st x : SV} {vm vs v : Value} (hmr : SRep M ρ vm m) (hst : SRep M ρ vs st) (hx : SRep M ρ v x)
    (h : (sEntryStore0 H m st x).holds H K) : DoesU P (Instr.entryStore t vm vs v) M ρ H w K := by
  unfold sEntryStore0 at h
  split at h
  · rename_i s k n
    have := hst.lit_eq; subst this
    split at h
    · rename_i es c ho
      split at h
      · rename_i j hj
        split at h
        · rename_i e he
          cases hmr with
          | mp _ p hp =>
            obtain ⟨arr, hheap, hrep⟩ := (hm.own s _ ho).mapRep hp
            obtain ⟨q, a1, a2, a3, a4⟩ := hrep.rep j e.1 e.2.1 e.2.2 he
            have hget := run_getObj_map (P := P) hheap
            have hidx : arr.findIdx? (fun e => (e.born : Int) == n) = some j := by
              have hborn : ∀ i : Nat, (arr[i]?).map (fun e => (e.born : Int) == n) = (es[i]?).map (fun e => (e.2.2 : Int) == n) := fun i => by
                by_cases hi : i < es.length
                · obtain ⟨z, b1, b2, b3, _⟩ := hrep.rep i es[i].1 es[i].2.1 es[i].2.2 (by simp [hi])
                  rw [b1]; simp [hi, b3]
                · rw [List.getElem?_eq_none (by omega), Array.getElem?_eq_none (by rw [hrep.sz]; omega)]; rfl
              rw [List.findIdx?_eq_some_iff_getElem] at hj
              rw [Array.findIdx?_eq_some_iff_getElem]
              obtain ⟨c1, c2, c3⟩ := hj
              have hl : j < arr.size := by rw [hrep.sz]; exact c1
              refine ⟨hl, ?_, fun i hi => ?_⟩
              · have := hborn j
                simp only [Array.getElem?_eq_getElem hl, List.getElem?_eq_getElem c1, Option.map_some, Option.some.injEq] at this
                rw [this]; exact c2
              · have hi2 : i < arr.size := by omega
                have hi3 : i < es.length := by omega
                have := hborn i
                simp only [Array.getElem?_eq_getElem hi2, List.getElem?_eq_getElem hi3, Option.map_some, Option.some.injEq] at this
                rw [this]; exact c3 i hi
            obtain ⟨g1, g2⟩ := map_put (P := P) (K := K) (c' := c) hm ho hp hheap (hrep.set (k := e.1) a1 hx a3 (fun e => { e with val := v }) (by rw [← a2]))
            refine ⟨_, ?_, .any, _, [s], [], M, ρ, h, rfl, g1, g2⟩
            simp [Instr.entryStore, hget, asInt, asIntOf, hidx, run_setObj hheap]
        · exact h.elim
      · exact h.elim
    · exact h.elim
  · exact h.elim
theorem checkKey_data {P : Program} {kt : TypeId} {d : TypeDesc} (hu : P.underlying kt = some d) {a : ATy} (hd : descK d a = true) (x : a.El) (e : Bool) (w : World) : (Instr.checkKey e 10000 kt (a.keyV x)).run P w = .ok () w := by
  unfold Instr.checkKey
  simp only [Sem.run_bind, run_underlying hu, Result.andThen_ok]
  unfold descK at hd
  split at hd
  · rfl
  · rfl
  · rfl
  · cases hd
theorem sameBits_data {d : TypeDesc} {a : ATy} (hd : descK d a = true) (x : a.El) : Instr.sameBits 10000 (a.keyV x) (a.keyV x) = true := by
  unfold descK at hd
  split at hd
  · rename_i j k
    have key : ∀ a : Int, Instr.sameBits 10000 (.int k a) (.int k a) = true := fun a => by simp [Instr.sameBits]
    exact key x
  · have key : ∀ a : ByteArray, Instr.sameBits 10000 (.string a) (.string a) = true := fun a => by simp only [Instr.sameBits, strEq_beq, strEq, decide_true]
    exact key x
  · have key : ∀ a : Bool, Instr.sameBits 10000 (.bool a) (.bool a) = true := fun a => by simp [Instr.sameBits]
    exact key x
  · cases hd
theorem tfind_run {P : Program} {M : Imm} {ρ : Env} {arr : Array MapEntry} {kt : TypeId} {d : TypeDesc} (hu : P.underlying kt = some d) {k v : ATy} (hd : descK d k = true) {l : List (k.El × v.El)} (hr : MapRep M ρ arr (entsFrom k v 0 l)) (x : k.El) (w : World) :
    (mfind k.eqv x l 0 = none → (Instr.findKey kt (k.keyV x) arr.toList).run P w = .ok none w) ∧
    (∀ j y, mfind k.eqv x l 0 = some (j, y) → ∃ e, arr[j]? = some e ∧ j < l.length ∧ e.key = k.keyV x ∧ e.born = j ∧ SRep M ρ e.val (v.raw y) ∧ (Instr.findKey kt (k.keyV x) arr.toList).run P w = .ok (some (j, e.val)) w) := by
  obtain ⟨f1, f2⟩ := seek_run (P := P) (kt := kt) (k := k.keyV x) hr w
  have hs := seek_data (P := P) hu hd x l
  refine ⟨fun h => f1 (by rw [hs, h]; rfl), fun j y h => ?_⟩
  obtain ⟨e, z, a1, a2, a3, a4, a5, a6⟩ := f2 j (by rw [hs, h]; rfl)
  obtain ⟨i, q, b1, b2, b3, b4⟩ := mfind_spec h
  have : i = j := by omega
  subst this
  rw [entsFrom_get, b2] at a2
  simp only [Option.map_some, Option.some.injEq] at a2
  subst a2
  have hk := ATy.eqv_ok k _ _ b4
  refine ⟨e, a1, (List.getElem?_eq_some_iff.1 b2).1, by rw [a3, ← hk], by rw [a4]; simp, by rw [← b3]; exact a5, a6⟩
def lookT (tab : Tab) (H : List SObj) (kt et : Nat) (ka va : ATy) (l : List (ka.El × va.El)) (k : SV) (ok : Bool) : Res :=
  match tab.lookup kt with
  | none => .fail
  | some ik => match descK ik.desc ka with
    | false => .fail
    | true => match tab.lookup et with
      | none => .fail
      | some ie => match ka.ofSV k with
        | none => .fail
        | some kx => match va.ofZ ie.zero with
          | none => .fail
          | some z => .ok (if ok then .tup [va.raw (mgetD ka.eqv kx l z), .lit (.bool (mhas ka.eqv kx l))] else va.raw (mgetD ka.eqv kx l z))
def keyEq : TypeDesc → Value → Value → Option Bool
  | .int _, .int k a, .int k' b => match decide (k = k') with
    | true => some (decide (a = b))
    | false => none
  | .string, .string a, .string b => some (strEq a b)
  | .bool, .bool a, .bool b => some (boolEq a b)
  | _, _, _ => none
theorem keyEq_same {d : TypeDesc} {a b : Value} {c : Bool} (h : keyEq d a b = some c) : Instr.sameNow d a b = some c := by
  unfold keyEq at h
  split at h
  · rename_i k' a k b
    split at h
    · rename_i e
      have e := of_decide_eq_true e
      subst e
      simp only [Instr.sameNow, if_true]
      rw [← h]; rfl
    · cases h
  · simp only [Instr.sameNow, strEq_beq]; exact h
  · rename_i a b
    cases a <;> cases b <;> (rw [← h]; rfl)
  · cases h
def lookS (d : TypeDesc) (kv : Value) (nf : Res) (ok : Bool) : List Ent → Res
  | [] => nf
  | e :: es => match keyEq d kv e.1 with
    | some c => .split c (.ok (if ok then .tup [e.2.1, .lit (.bool true)] else e.2.1)) (lookS d kv nf ok es)
    | none => .fail
theorem lookS_spec {H : List SObj} {K : Post} {d : TypeDesc} {kv : Value} {nf : Res} {ok : Bool} : ∀ (es : List Ent) (i : Nat), (lookS d kv nf ok es).holds H K →
    (∃ j e, es[j]? = some e ∧ Instr.findNow d kv (dummies es) i = some (some (i + j, .bool false)) ∧ K (if ok then .tup [e.2.1, .lit (.bool true)] else e.2.1) H [] []) ∨
    (Instr.findNow d kv (dummies es) i = some none ∧ nf.holds H K)
  | [], i, h => .inr ⟨rfl, h⟩
  | e :: es, i, h => by
    simp only [lookS] at h
    split at h
    · rename_i c hc
      have hs := keyEq_same hc
      have hd : dummies (e :: es) = { key := e.1, val := .bool false, born := e.2.2 } :: dummies es := rfl
      rw [hd]
      simp only [Instr.findNow, hs]
      cases c with
      | true => exact .inl ⟨0, e, rfl, rfl, h.1 rfl⟩
      | false =>
        rcases lookS_spec es (i + 1) (h.2 rfl) with ⟨j, e', h1, h2, h3⟩ | ⟨h1, h2⟩
        · exact .inl ⟨j + 1, e', by simpa using h1, by rw [h2]; simp; omega, h3⟩
        · exact .inr ⟨h1, h2⟩
    · exact h.elim
def oneCellKey : TypeDesc → Bool
  | .int _ => true
  | .string => true
  | .bool => true
  | _ => false
def lookM (P : Program) (tab : Tab) (kt et : Nat) (es : List Ent) (k : SV) (ok : Bool) : Res := match k with
  | .pv (.lit kv) => match tab.lookup kt with
    | none => .fail
    | some ik => match keyOk P es.isEmpty kt kv with
      | false => .fail
      | true => lookS ik.desc kv (match tab.lookup et with
        | some i => .ok (if ok then .tup [.lit i.zero, .lit (.bool false)] else .lit i.zero)
        | none => .fail) ok es
  | _ => .fail
theorem lookM_run {P : Program} {tab : Tab} (htab : TabOk P tab) {M : Imm} {ρ : Env} {H : List SObj} {K : Post} {kt et : Nat} {es : List Ent} {k : SV} {vk : Value} {ok : Bool} (hkr : SRep M ρ vk k)
    (h : (lookM P tab kt et es k ok).holds H K) {arr : Array MapEntry} (hrep : MapRep M ρ arr es) : ∃ v x, K x H [] [] ∧ SRep M ρ v x ∧
      ∀ (w : World) (t b : Nat) (c : Nat), P.underlying t = some (.map kt et) → w.heap[b]? = some (.map arr c) → (Instr.lookup t (.map (some b)) vk ok).run P w = .ok v w := by
  unfold lookM at h
  split at h
  · rename_i kv
    have := hkr.lit_eq; subst this
    split at h
    · exact h.elim
    · rename_i ik hik
      split at h
      · exact h.elim
      · rename_i hko
        have hdk : P.underlying kt = some ik.desc := (htab.get hik).und
        have hempty : arr.isEmpty = es.isEmpty := by
          have := hrep.sz
          simp only [Array.isEmpty, this]
          cases es <;> simp
        have hseek : ∀ r, Instr.findNow ik.desc vk (dummies es) 0 = some r → seek P kt vk es = some (r.map (·.1)) := fun r hr => by
          have : pureRun P (Instr.findKey kt vk (dummies es)) = some r := by
            unfold Instr.findKey
            rw [pureRun_bind]
            have : pureRun P (underlying kt) = some ik.desc := by
              unfold underlying
              rw [pureRun_bind]
              show (some P).bind _ = _
              simp only [Option.bind_some, hdk, pureRun_pure]
            rw [this]
            simp only [Option.bind_some, hr, pureRun_pure]
          unfold seek
          rw [this]
          cases r with
          | none => rfl
          | some p => rfl
        rcases lookS_spec es 0 h with ⟨j, e, h1, h2, h3⟩ | ⟨h1, h2⟩
        · obtain ⟨me, x, a1, a2, a3, a4, a5, _⟩ := (seek_run (P := P) (kt := kt) (k := vk) hrep default).2 j (by rw [hseek _ h2]; simp)
          rw [h1] at a2; cases a2
          refine ⟨_, _, h3, ok_rep (ok := ok) (b := true) a5, fun w t b c hu hheap => ?_⟩
          obtain ⟨me', x', b1, _, _, _, _, b6⟩ := (seek_run (P := P) (kt := kt) (k := vk) hrep w).2 j (by rw [hseek _ h2]; simp)
          rw [a1] at b1; cases b1
          have hkey := keyOk_run hko w
          rw [← hempty] at hkey
          simp [Instr.lookup, run_underlying hu, run_getObj_map (P := P) hheap, hkey, b6]
        · split at h2
          · rename_i i hi
            refine ⟨_, _, h2, ok_rep (ok := ok) (b := false) (.pv (.lit _)), fun w t b c hu hheap => ?_⟩
            have hkey := keyOk_run hko w
            rw [← hempty] at hkey
            simp [Instr.lookup, run_underlying hu, run_getObj_map (P := P) hheap, hkey, (seek_run (P := P) (kt := kt) (k := vk) hrep w).1 (by rw [hseek _ h1]; rfl), zeroValue_run (htab.get hi)]
          · exact h2.elim
  · exact h.elim
def sLookup (P : Program) (tab : Tab) (H : List SObj) (t : Nat) (m k : SV) (ok : Bool) : Res :=
  match m with
  | .mp s => match H[s]? with
    | some (.tmap ka va l) => match tab.lookup t with
      | some { desc := .map kt et, .. } => lookT tab H kt et ka va l k ok
      | _ => .fail
    | some (.map es c) => match tab.lookup t with
      | some { desc := .map kt et, .. } => match tab.lookup kt with
        | some ik => match oneCellKey ik.desc with
          | true => lookM P tab kt et es k ok
          | false => sLookup0 P tab H t m k ok
        | none => .fail
      | _ => .fail
    | _ => sLookup0 P tab H t m k ok
  | _ => sLookup0 P tab H t m k ok
theorem lookT_run {P : Program} {tab : Tab} (htab : TabOk P tab) {M : Imm} {ρ : Env} {H : List SObj} {K : Post} {kt et : Nat} {ka va : ATy} {l : List (ka.El × va.El)} {k : SV} {vk : Value} {ok : Bool} (hkr : SRep M ρ vk k)
    (h : (lookT tab H kt et ka va l k ok).holds H K) {arr : Array MapEntry} (hr : MapRep M ρ arr (entsFrom ka va 0 l)) : ∃ v x, K x H [] [] ∧ SRep M ρ v x ∧
      ∀ (w : World) (t b : Nat) (c : Nat), P.underlying t = some (.map kt et) → w.heap[b]? = some (.map arr c) → (Instr.lookup t (.map (some b)) vk ok).run P w = .ok v w := by
  unfold lookT at h
  split at h
  · exact h.elim
  · rename_i ik hik
    split at h
    · exact h.elim
    · rename_i hd
      split at h
      · exact h.elim
      · rename_i ie hie
        split at h
        · exact h.elim
        · rename_i kx hkx
          split at h
          · exact h.elim
          · rename_i z hz
            have hvk := keyV_of_raw (descK_scalar hd) (ATy.ofSV_sound hkx hkr)
            subst hvk
            have hdk : P.underlying kt = some ik.desc := (htab.get hik).und
            have hzr : SRep M ρ ie.zero (va.raw z) := ATy.ofSV_sound (M := M) (ρ := ρ) hz (.pv (.lit _))
            cases hf : mfind ka.eqv kx l 0 with
            | none =>
              refine ⟨_, _, h, ok_rep (v := ie.zero) (b := mhas ka.eqv kx l) (ok := ok) (by unfold mgetD; rw [hf]; exact hzr), fun w t b c hu hheap => ?_⟩
              have hb : mhas ka.eqv kx l = false := by unfold mhas; rw [hf]; rfl
              rw [hb]
              simp [Instr.lookup, run_underlying hu, run_getObj_map (P := P) hheap, checkKey_data hdk hd, (tfind_run hdk hd hr kx w).1 hf, zeroValue_run (htab.get hie)]
            | some q =>
              obtain ⟨j, y⟩ := q
              obtain ⟨e, a1, a2, a3, a4, a5, _⟩ := (tfind_run hdk hd hr kx default).2 j y hf
              refine ⟨_, _, h, ok_rep (v := e.val) (b := mhas ka.eqv kx l) (ok := ok) (by unfold mgetD; rw [hf]; exact a5), fun w t b c hu hheap => ?_⟩
              have hb : mhas ka.eqv kx l = true := by unfold mhas; rw [hf]; rfl
              rw [hb]
              obtain ⟨e', b1, _, _, _, _, b6⟩ := (tfind_run hdk hd hr kx w).2 j y hf
              rw [a1] at b1; cases b1
              simp [Instr.lookup, run_underlying hu, run_getObj_map (P := P) hheap, checkKey_data hdk hd, b6]
theorem sLookup_sound {P : Program} {tab : Tab} (htab : TabOk P tab) {M : Imm} {ρ : Env} {H : List SObj} {w : World} {K : Post} (hm : Mem M ρ H w) {t : Nat} {m k : SV} {vm vk : Value} {ok : Bool} (hmr : SRep M ρ vm m) (hkr : SRep M ρ vk k)
    (h : (sLookup P tab H t m k ok).holds H K) : DoesV P (Instr.lookup t vm vk ok) M ρ H w K := by
  unfold sLookup at h
  split at h
  · rename_i s
    split at h
    · rename_i ka va l ho
      split at h
      · rename_i kt et _ _ _ _ hte
        cases hmr with
        | mp _ p hp =>
          obtain ⟨arr, hheap, hrep⟩ := MapAt.rep (hm.own s _ ho) hp
          obtain ⟨v, x, h1, h2, h3⟩ := lookT_run htab hkr h hrep
          exact DoesV.same hm (h3 w t p.block _ (htab.get hte).und hheap) h2 h1
      · exact h.elim
    · rename_i es c ho
      split at h
      · rename_i kt et _ _ _ _ hte
        split at h
        · split at h
          · cases hmr with
            | mp _ p hp =>
              obtain ⟨arr, hheap, hrep⟩ := (hm.own s _ ho).mapRep hp
              obtain ⟨v, x, h1, h2, h3⟩ := lookM_run htab hkr h hrep
              exact DoesV.same hm (h3 w t p.block _ (htab.get hte).und hheap) h2 h1
          · exact sLookup0_sound htab hm hmr hkr h
        · exact h.elim
      · exact h.elim
    · exact sLookup0_sound htab hm hmr hkr h
  · exact sLookup0_sound htab hm hmr hkr h
theorem tmap_put {P : Program} {M : Imm} {ρ : Env} {H : List SObj} {w : World} {s : Nat} {ka va : ATy} {l l' : List (ka.El × va.El)} {p : Place} {arr arr' : Array MapEntry} (hm : Mem M ρ H w) (ho : H[s]? = some (.tmap ka va l)) (hp : ρ s = some p)
    (hheap : w.heap[p.block]? = some (.map arr l.length)) (hr : MapRep M ρ arr' (entsFrom ka va 0 l')) : Mem M ρ (H.set s (.tmap ka va l')) { w with heap := w.heap.setIfInBounds p.block (.map arr' l'.length) } ∧
      Fr M ρ H w M ρ (H.set s (.tmap ka va l')) { w with heap := w.heap.setIfInBounds p.block (.map arr' l'.length) } H.length [s] [] := by
  have hlt : p.block < w.heap.size := (Array.getElem?_eq_some_iff.1 hheap).1
  exact hm.put ho rfl hp (fun b hb => putHeap_ne hb) (by simp) rfl ⟨p, arr', hp, by simp [hlt], hr.sz, hr.rep⟩
def sMapUpdate (P : Program) (tab : Tab) (H : List SObj) (t : Nat) (m k x : SV) : Res :=
  match m with
  | .mp s => match H[s]? with
    | some (.tmap ka va l) => match tab.lookup t with
      | some { desc := .map kt et, .. } => match tab.lookup kt with
        | none => .fail
        | some ik => match descK ik.desc ka with
          | false => .fail
          | true => match ka.ofSV k with
            | none => .fail
            | some kx => match va.ofSV x with
              | none => .fail
              | some y => .eff .any (H.set s (.tmap ka va (mput ka.eqv kx y l))) [s] []
      | _ => .fail
    | _ => sMapUpdate0 P tab H t m k x
  | _ => sMapUpdate0 P tab H t m k x
theorem sMapUpdate_sound {P : Program} {tab : Tab} (htab : TabOk P tab) {M : Imm} {ρ : Env} {H : List SObj} {w : World} {K : Post} (hm : Mem M ρ H w) {t : Nat} {m k x : SV} {vm vk v : Value} (hmr : SRep M ρ vm m) (hkr : SRep M ρ vk k) (hx : SRep M ρ v x)
    (h : (sMapUpdate P tab H t m k x).holds H K) : DoesU P (Instr.mapUpdate t vm vk v) M ρ H w K := by
  unfold sMapUpdate at h
  split at h
  · rename_i s
    split at h
    · rename_i ka va l ho
      split at h
      · rename_i kt et _ _ _ _ hte
        have hu : P.underlying t = some (.map kt et) := (htab.get hte).und
        split at h
        · exact h.elim
        · rename_i ik hik
          split at h
          · exact h.elim
          · rename_i hd
            split at h
            · exact h.elim
            · rename_i kx hkx
              split at h
              · exact h.elim
              · rename_i y hy
                have hvk := keyV_of_raw (descK_scalar hd) (ATy.ofSV_sound hkx hkr)
                subst hvk
                have hdk : P.underlying kt = some ik.desc := (htab.get hik).und
                have hyr := ATy.ofSV_sound hy hx
                cases hmr with
                | mp _ p hp =>
                  obtain ⟨arr, hheap, hrep⟩ := MapAt.rep (hm.own s _ ho) hp
                  have hget := run_getObj_map (P := P) hheap
                  cases hf : mfind ka.eqv kx l 0 with
                  | none =>
                    have hl' : mput ka.eqv kx y l = l ++ [(kx, y)] := by unfold mput; rw [hf]
                    rw [hl'] at h
                    obtain ⟨g1, g2⟩ := tmap_put (P := P) hm ho hp hheap (l' := l ++ [(kx, y)]) (arr' := arr.push { key := ka.keyV kx, val := v, born := l.length }) (by
                      have := hrep.push (k := ka.keyV kx) (c := l.length) hyr
                      rw [entsFrom_app]; simpa using this)
                    refine ⟨_, ?_, .any, _, [s], [], M, ρ, h, rfl, g1, g2⟩
                    simp [Instr.mapUpdate, run_underlying hu, hget, checkKey_data hdk hd, (tfind_run hdk hd hrep kx w).1 hf, run_setObj hheap]
                  | some q =>
                    obtain ⟨j, y0⟩ := q
                    obtain ⟨e, a1, a2, a3, a4, a5, a6⟩ := (tfind_run hdk hd hrep kx w).2 j y0 hf
                    have hl' : mput ka.eqv kx y l = l.set j (kx, y) := by unfold mput; rw [hf]
                    rw [hl'] at h
                    obtain ⟨g1, g2⟩ := tmap_put (P := P) hm ho hp hheap (l' := l.set j (kx, y)) (arr' := arr.modify j fun e => { e with key := ka.keyV kx, val := v }) (by
                      have := hrep.set (k := ka.keyV kx) a1 hyr a4 (fun e => { e with key := ka.keyV kx, val := v }) rfl
                      rw [entsFrom_set]; simpa using this)
                    refine ⟨_, ?_, .any, _, [s], [], M, ρ, h, rfl, g1, g2⟩
                    have hks : (Instr.keyThatStays (((arr[j]?).map (·.key)).getD (ka.keyV kx)) (ka.keyV kx)).run P w = .ok (ka.keyV kx) w := by
                      rw [a1]; simp only [Option.map_some, Option.getD_some, a3]
                      simp [Instr.keyThatStays, sameBits_data hd]
                    simp [Instr.mapUpdate, run_underlying hu, hget, checkKey_data hdk hd, a6, hks, run_setObj hheap]
      · exact h.elim
    · exact sMapUpdate0_sound htab hm hmr hkr hx h
  · exact sMapUpdate0_sound htab hm hmr hkr hx h
def mtouch {K V : Type} (eq : K → K → Bool) (k : K) (l : List (K × V)) (z : V) : List (K × V) := match mfind eq k l 0 with
  | some p => l.set p.1 (k, p.2)
  | none => l ++ [(k, z)]
def sMapEntry (P : Program) (tab : Tab) (H : List SObj) (t : Nat) (m k : SV) : Res :=
  match m with
  | .mp s => match H[s]? with
    | some (.tmap ka va l) => match tab.lookup t with
      | some { desc := .map kt et, .. } => match tab.lookup kt with
        | none => .fail
        | some ik => match descK ik.desc ka with
          | false => .fail
          | true => match tab.lookup et with
            | none => .fail
            | some ie => match ka.ofSV k with
              | none => .fail
              | some kx => match va.ofZ ie.zero with
                | none => .fail
                | some z => .eff (.tup [va.raw (mgetD ka.eqv kx l z), .lit (.int .i64 (midx ka.eqv kx l))]) (H.set s (.tmap ka va (mtouch ka.eqv kx l z))) [s] []
      | _ => .fail
    | _ => sMapEntry0 P tab H t m k
  | _ => sMapEntry0 P tab H t m k
theorem sMapEntry_sound {P : Program} {tab : Tab} (htab : TabOk P tab) {M : Imm} {ρ : Env} {H : List SObj} {w : World} {K : Post} (hm : Mem M ρ H w) {t : Nat} {m k : SV} {vm vk : Value} (hmr : SRep M ρ vm m) (hkr : SRep M ρ vk k)
    (h : (sMapEntry P tab H t m k).holds H K) : DoesV P (Instr.mapEntry t vm vk) M ρ H w K := by
  unfold sMapEntry at h
  split at h
  · rename_i s
    split at h
    · rename_i ka va l ho
      split at h
      · rename_i kt et _ _ _ _ hte
        have hu : P.underlying t = some (.map kt et) := (htab.get hte).und
        split at h
        · exact h.elim
        · rename_i ik hik
          split at h
          · exact h.elim
          · rename_i hd
            split at h
            · exact h.elim
            · rename_i ie hie
              split at h
              · exact h.elim
              · rename_i kx hkx
                split at h
                · exact h.elim
                · rename_i z hz
                  have hvk := keyV_of_raw (descK_scalar hd) (ATy.ofSV_sound hkx hkr)
                  subst hvk
                  have hdk : P.underlying kt = some ik.desc := (htab.get hik).und
                  have hzr : SRep M ρ ie.zero (va.raw z) := ATy.ofSV_sound (M := M) (ρ := ρ) hz (.pv (.lit _))
                  cases hmr with
                  | mp _ p hp =>
                    obtain ⟨arr, hheap, hrep⟩ := MapAt.rep (hm.own s _ ho) hp
                    have hget := run_getObj_map (P := P) hheap
                    cases hf : mfind ka.eqv kx l 0 with
                    | none =>
                      have e1 : mtouch ka.eqv kx l z = l ++ [(kx, z)] := by unfold mtouch; rw [hf]
                      have e2 : mgetD ka.eqv kx l z = z := by unfold mgetD; rw [hf]
                      have e3 : midx ka.eqv kx l = l.length := by unfold midx; rw [hf]
                      rw [e1, e2, e3] at h
                      obtain ⟨g1, g2⟩ := tmap_put (P := P) hm ho hp hheap (l' := l ++ [(kx, z)]) (arr' := arr.push { key := ka.keyV kx, val := ie.zero, born := l.length }) (by
                        have := hrep.push (k := ka.keyV kx) (c := l.length) hzr
                        rw [entsFrom_app]; simpa using this)
                      refine ⟨.tuple #[ie.zero, goInt l.length], _, ?_, _, _, [s], [], M, ρ, h, tup2_rep hzr (.pv (.lit _)), g1, g2⟩
                      simp [Instr.mapEntry, run_underlying hu, hget, checkKey_data hdk hd, (tfind_run hdk hd hrep kx w).1 hf, run_setObj hheap, zeroValue_run (htab.get hie)]
                    | some q =>
                      obtain ⟨j, y0⟩ := q
                      obtain ⟨e, a1, a2, a3, a4, a5, a6⟩ := (tfind_run hdk hd hrep kx w).2 j y0 hf
                      have e1 : mtouch ka.eqv kx l z = l.set j (kx, y0) := by unfold mtouch; rw [hf]
                      have e2 : mgetD ka.eqv kx l z = y0 := by unfold mgetD; rw [hf]
                      have e3 : midx ka.eqv kx l = j := by unfold midx; rw [hf]
                      rw [e1, e2, e3] at h
                      obtain ⟨g1, g2⟩ := tmap_put (P := P) hm ho hp hheap (l' := l.set j (kx, y0)) (arr' := arr.modify j fun e => { e with key := ka.keyV kx }) (by
                        have := hrep.set (k := ka.keyV kx) a1 a5 a4 (fun e => { e with key := ka.keyV kx }) rfl
                        rw [entsFrom_set]; simpa using this)
                      refine ⟨.tuple #[e.val, goInt e.born], _, ?_, _, _, [s], [], M, ρ, h, ?_, g1, g2⟩
                      · have hks : (Instr.keyThatStays e.key (ka.keyV kx)).run P w = .ok (ka.keyV kx) w := by
                          rw [a3]; simp [Instr.keyThatStays, sameBits_data hd]
                        simp [Instr.mapEntry, run_underlying hu, hget, checkKey_data hdk hd, a6, hks, run_setObj hheap, a1]
                      · rw [a4]; exact tup2_rep a5 (.pv (.lit _))
      · exact h.elim
    · exact sMapEntry0_sound htab hm hmr hkr h
  · exact sMapEntry0_sound htab hm hmr hkr h
def mset {K V : Type} (j : Nat) (x : V) (l : List (K × V)) : List (K × V) := match l[j]? with
  | some e => l.set j (e.1, x)
  | none => l
def sEntryStore (H : List SObj) (m st x : SV) : Res :=
  match m with
  | .mp s => match H[s]? with
    | some (.tmap ka va l) => match st with
      | .pv (.lit (.int _ n)) => match va.ofSV x with
        | none => .fail
        | some y => .need (decide (0 ≤ n)) (.need (decide (n.toNat < l.length)) (.eff .any (H.set s (.tmap ka va (mset n.toNat y l))) [s] []))
      | _ => .fail
    | _ => sEntryStore0 H m st x
  | _ => sEntryStore0 H m st x
theorem sEntryStore_sound {P : Program} {M : Imm} {ρ : Env} {H : List SObj} {w : World} {K : Post} (hm : Mem M ρ H w) {t : Nat} {m st x : SV} {vm vs v : Value} (hmr : SRep M ρ vm m) (hst : SRep M ρ vs st) (hx : SRep M ρ v x)
    (h : (sEntryStore H m st x).holds H K) : DoesU P (Instr.entryStore t vm vs v) M ρ H w K := by
  unfold sEntryStore at h
  split at h
  · rename_i s
    split at h
    · rename_i ka va l ho
      split at h
      · rename_i k n
        have := hst.lit_eq; subst this
        split at h
        · exact h.elim
        · rename_i y hy
          obtain ⟨h0, h1, h⟩ := h
          have h0 := of_decide_eq_true h0
          have h1 := of_decide_eq_true h1
          have hyr := ATy.ofSV_sound hy hx
          obtain ⟨j, rfl⟩ : ∃ j : Nat, n = j := ⟨n.toNat, by omega⟩
          simp only [Int.toNat_natCast] at h h1
          cases hmr with
          | mp _ p hp =>
            obtain ⟨arr, hheap, hrep⟩ := MapAt.rep (hm.own s _ ho) hp
            have hsz := hrep.sz
            rw [entsFrom_len] at hsz
            have hgete : ∀ (i : Nat) (hi : i < l.length), ∃ e, arr[i]? = some e ∧ e.key = ka.keyV l[i].1 ∧ e.born = i ∧ SRep M ρ e.val (va.raw l[i].2) := fun i hi => by
              obtain ⟨e, a1, a2, a3, a4⟩ := hrep.rep i (ka.keyV l[i].1) (va.raw l[i].2) i (by rw [entsFrom_get, List.getElem?_eq_getElem hi]; simp)
              exact ⟨e, a1, a2, a3, a4⟩
            obtain ⟨e, a1, a2, a3, a4⟩ := hgete j h1
            have hidx : arr.findIdx? (fun e => (e.born : Int) == (j : Int)) = some j := by
              rw [Array.findIdx?_eq_some_iff_getElem]
              refine ⟨by omega, ?_, fun i hi => ?_⟩
              · rw [Array.getElem?_eq_getElem (by omega)] at a1
                simp only [Option.some.injEq] at a1
                rw [a1, a3]; simp
              · obtain ⟨e', b1, _, b3, _⟩ := hgete i (by omega)
                rw [Array.getElem?_eq_getElem (by omega)] at b1
                simp only [Option.some.injEq] at b1
                rw [b1, b3]; simp; omega
            have el : mset j y l = l.set j (l[j].1, y) := by unfold mset; rw [List.getElem?_eq_getElem h1]
            rw [el] at h
            obtain ⟨g1, g2⟩ := tmap_put (P := P) hm ho hp hheap (l' := l.set j (l[j].1, y)) (arr' := arr.modify j fun e => { e with val := v }) (by
              have := hrep.set (k := ka.keyV l[j].1) a1 hyr a3 (fun e => { e with val := v }) (by rw [← a2])
              rw [entsFrom_set]; simpa using this)
            refine ⟨_, ?_, .any, _, [s], [], M, ρ, h, rfl, g1, g2⟩
            simp [Instr.entryStore, run_getObj_map (P := P) hheap, asInt, asIntOf, hidx, run_setObj hheap]
      · exact h.elim
    · exact sEntryStore0_sound hm hmr hst hx h
  · exact sEntryStore0_sound hm hmr hst hx h
def sRange (tab : Tab) (H : List SObj) (t : Nat) (x : SV) : Res :=
  match tab.lookup t, x with
  | some { desc := .string, .. }, .pv (.lit (.string s)) => .eff (.ptr H.length 0 0 0) (H ++ [.iter s 0]) [] []
  | _, _ => .fail
theorem sRange_sound {P : Program} {tab : Tab} (htab : TabOk P tab) {M : Imm} {ρ : Env} {H : List SObj} {w : World} {K : Post} (hm : Mem M ρ H w) {t : Nat} {x : SV} {v : Value} (hx : SRep M ρ v x) (h : (sRange tab H t x).holds H K) : DoesV P (Instr.range t v) M ρ H w K := by
  unfold sRange at h
  split at h
  · rename_i sz' by' zr rw' s hte
    have hu : P.underlying t = some .string := (htab.get hte).und
    have := hx.lit_eq; subst this
    have hrun : (Instr.range t (.string s)).run P w = .ok (.pointer (some ⟨w.heap.size, 0, none⟩)) (w.alloc (.stringIter s 0)) := by simp [Instr.range, run_underlying hu]
    obtain ⟨g1, g2⟩ := hm.alloc (w' := w.alloc (.stringIter s 0)) (o := .stringIter s 0) (so := .iter s 0) (cap := 0) rfl ⟨_, Env.set_self .., heap_alloc_new w _⟩
    exact ⟨_, _, hrun, _, _, [], [], M, _, h, .ptr _ _ _ _ _ _ (Env.set_self ..) (by simp), g1, g2⟩
  · exact h.elim
def sNext (H : List SObj) (x : SV) : Res :=
  match x with
  | .ptr s 0 0 0 => match H[s]? with
    | some (.iter b pos) => .split (decide (pos < b.size))
        (.eff (.tup [.lit (.bool true), .lit (.int .i64 pos), .lit (.int .i32 (Utf8.decode b pos).1)]) (H.set s (.iter b (pos + (Utf8.decode b pos).2))) [s] [])
        (.ok (.tup [.lit (.bool false)]))
    | _ => .fail
  | _ => .fail
theorem sNext_sound {P : Program} {M : Imm} {ρ : Env} {H : List SObj} {w : World} {K : Post} (hm : Mem M ρ H w) {t : Nat} {x : SV} {v : Value} (hx : SRep M ρ v x) (h : (sNext H x).holds H K) : DoesV P (Instr.next v true t) M ρ H w K := by
  unfold sNext at h
  split at h
  · rename_i s
    split at h
    · rename_i b pos ho
      cases hx with
      | ptr _ _ _ _ k p hp hk =>
        obtain ⟨q, h1, h2⟩ := hm.own s _ ho
        rw [hp] at h1; cases h1
        have hk0 : k = 0 := by simpa using hk
        subst hk0
        have hget : (getObj p.block).run P w = .ok (.stringIter b pos) w := by simp [getObj, Sem.run, h2]
        have hset : ∀ o, (setObj p.block o).run P w = .ok () { w with heap := w.heap.setIfInBounds p.block o } := fun o => by simp [setObj, Sem.run, h2]
        have hlt : p.block < w.heap.size := (Array.getElem?_eq_some_iff.1 h2).1
        obtain ⟨ht, hf⟩ := h
        by_cases hpos : pos < b.size
        · have h' := ht (by simpa using hpos)
          obtain ⟨g1, g2⟩ := hm.put (so := .iter b (pos + (Utf8.decode b pos).2)) (w' := { w with heap := w.heap.setIfInBounds p.block (.stringIter b (pos + (Utf8.decode b pos).2)) }) ho rfl hp (fun b' hb => putHeap_ne hb) (by simp) rfl
            ⟨p, hp, by simp [hlt]⟩
          refine ⟨.tuple #[.bool true, goInt pos, .int .i32 (Utf8.decode b pos).1], _, ?_, _, _, [s], [], M, ρ, h', ?_, g1, g2⟩
          · simp [Instr.next, hget, hpos, hset]
          · refine .tup _ _ rfl fun i a c ha hc => ?_
            match i with
            | 0 => simp at ha hc; subst ha; subst hc; exact .pv (.lit _)
            | 1 => simp at ha hc; subst ha; subst hc; exact .pv (.lit _)
            | 2 => simp at ha hc; subst ha; subst hc; exact .pv (.lit _)
            | i + 3 => simp at hc
        · have h' := hf (by simpa using hpos)
          refine DoesV.same hm (v := .tuple #[.bool false]) ?_ ?_ h'
          · simp [Instr.next, hget, hpos]
          · refine .tup _ _ rfl fun i a c ha hc => ?_
            match i with
            | 0 => simp at ha hc; subst ha; subst hc; exact .pv (.lit _)
            | i + 1 => simp at hc
    · exact h.elim
  · exact h.elim
end Go.Sx
end

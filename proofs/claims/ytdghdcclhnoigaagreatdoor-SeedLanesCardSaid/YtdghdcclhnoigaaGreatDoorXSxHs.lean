/- Part Hs of the own logic: rows that become immutable; reading data out of them; append with them. -/
import Derived.Test.YtdghdcclhnoigaaGreatDoorXSxH
set_option linter.unusedVariables false
set_option linter.unusedSimpArgs false
set_option linter.unnecessarySimpa false
namespace Go.Sx
open Go
def SObj.rowsy : SObj → Bool
  | .vec .. => true
  | .tvec .. => true
  | .mix .. => true
  | _ => false
def Sealed (ρ : Env) (H : List SObj) (n b : Nat) : Prop := ∃ s o p, n ≤ s ∧ H[s]? = some o ∧ o.rowsy = true ∧ ρ s = some p ∧ p.block = b
open Classical in
noncomputable def Imm.sealing (M : Imm) (ρ : Env) (H : List SObj) (n : Nat) (w : World) : Imm := fun b =>
  match M b with
  | some o => some o
  | none => if Sealed ρ H n b then w.heap[b]? else none
theorem Imm.seal_le (M : Imm) (ρ : Env) (H : List SObj) (n : Nat) (w : World) : M.le (M.sealing ρ H n w) := fun b o h => by simp [Imm.sealing, h]
theorem Imm.seal_new {M : Imm} {ρ : Env} {H : List SObj} {n : Nat} {w : World} {b : Nat} {o : Obj} (h0 : M b = none) (h : M.sealing ρ H n w b = some o) : Sealed ρ H n b ∧ w.heap[b]? = some o := by
  unfold Imm.sealing at h
  rw [h0] at h
  simp only at h
  split at h
  · rename_i hs; exact ⟨hs, h⟩
  · cases h
theorem Imm.seal_at {M : Imm} {ρ : Env} {H : List SObj} {n : Nat} {w : World} (hm : Mem M ρ H w) {s : Nat} {o : SObj} {p : Place} (hn : n ≤ s) (hs : H[s]? = some o) (ho : o.rowsy = true) (hp : ρ s = some p) :
    M.sealing ρ H n w p.block = w.heap[p.block]? := by
  have hl : o.live = true := by cases o <;> simp_all [SObj.rowsy, SObj.live]
  unfold Imm.sealing
  rw [hm.sep s o p hs hl hp]
  simp only
  rw [if_pos ⟨s, o, p, hn, hs, ho, hp, rfl⟩]
theorem Imm.cell_of {M : Imm} {b i : Nat} {cs : Array Value} {ty : TypeId} {f : Nat × Nat} (h : M b = some (.cells cs ty f)) : M.cell b i = cs[i]? := by simp [Imm.cell, h]
def ATy.sv : (a : ATy) → a.El → SV
  | .val t, x => .pv (t.pv x)
  | .agg row, x => SV.mkAgg ((rowPV row x).map .pv)
theorem ATy.sv_of_raw {M : Imm} {ρ : Env} {v : Value} : ∀ {a : ATy} {x : a.El}, SRep M ρ v (a.raw x) → SRep M ρ v (a.sv x)
  | .val t, x, h => h
  | .agg row, x, h => by
    cases h with
    | agg cs _ hl hr =>
      have := SRep.mkAgg (M := M) (ρ := ρ) (cs := cs.toList) (l := (rowPV row x).map .pv) (by simpa using hl) (fun i v y hv hy => hr i v y (by rw [← Array.getElem?_toList]; exact hv) hy)
      rw [Array.toArray_toList] at this
      exact this
def rdScal {α : Type} (f : PV → Option α) : SV → Option (Bool × α)
  | .pv p => match f p with
    | some y => some (true, y)
    | none => none
  | _ => none
def mapC {α β : Type} (f : α → Option (Bool × β)) : List α → Option (Bool × List β)
  | [] => some (true, [])
  | x :: l => match f x with
    | none => none
    | some a => match mapC f l with
      | none => none
      | some b => some (a.1 && b.1, a.2 :: b.2)
def rdSeq (H : List SObj) (n : Nat) (row : List Ty) (f : List SV → Option (Bool × Els row)) : SV → Option (Bool × List (Els row))
  | .pv p => match (Ty.seq row).of p with
    | some y => some (true, y)
    | none => none
  | .sl s sz st len => match Nat.ble n s && Nat.beq sz row.length with
    | false => none
    | true => match H[s]? with
      | some (.tvec _ row' l) => match castRows row' row l with
        | some l => some (decide (st + len ≤ l.length), (l.drop st).take len)
        | none => none
      | some (.vec _ so rows) => match Nat.beq so row.length && Nat.ble (st + len) rows.length with
        | false => none
        | true => match mapO (ofRow row) ((rows.drop st).take len) with
          | some l => some (true, l)
          | none => none
      | some (.mix _ so rows) => match Nat.beq so row.length && Nat.ble (st + len) rows.length with
        | false => none
        | true => mapC f ((rows.drop st).take len)
      | _ => none
  | _ => none
def rdNilS : List SV → Option (Bool × Unit)
  | [] => some (true, ())
  | _ => none
def rdOneS {α : Type} (f : SV → Option (Bool × α)) : List SV → Option (Bool × α)
  | [x] => f x
  | _ => none
def rdConsS {α β : Type} (f : SV → Option (Bool × α)) (g : List SV → Option (Bool × β)) : List SV → Option (Bool × (α × β))
  | x :: xs => match f x with
    | none => none
    | some a => match g xs with
      | none => none
      | some b => some (a.1 && b.1, (a.2, b.2))
  | [] => none
mutual
def rdT (H : List SObj) (n : Nat) : (t : Ty) → SV → Option (Bool × t.El)
  | .int k => rdScal (intOf k)
  | .bool => rdScal boolOf
  | .str => rdScal strOf
  | .seq row => rdSeq H n row (rdRow H n row)
def rdRow (H : List SObj) (n : Nat) : (ts : List Ty) → List SV → Option (Bool × Els ts)
  | [] => rdNilS
  | [t] => rdOneS (rdT H n t)
  | t :: t' :: ts => rdConsS (rdT H n t) (rdRow H n (t' :: ts))
end
theorem seal_slice {M : Imm} {ρ : Env} {H : List SObj} {w : World} {n : Nat} (hm : Mem M ρ H w) {s sz st len : Nat} {o : SObj} {v : Value} {ps : List (List PV)} (hns : n ≤ s) (hs : H[s]? = some o) (hro : o.rowsy = true) (hz : o.sz? = some sz)
    (hfit : st + len ≤ o.len) (hpl : ps.length = len)
    (hps : ∀ (i : Nat) (r : List PV), ps[i]? = some r → r.length ≤ sz ∧ ∀ (j : Nat) (q : PV), r[j]? = some q → ∃ y, (o.row (st + i))[j]? = some y ∧ ∀ u, SRep M ρ u y → PRep (M.sealing ρ H n w) u q)
    (hr : SRep M ρ v (.sl s sz st len)) : PRep (M.sealing ρ H n w) v (.rsl sz ps) := by
  cases hr with
  | slz =>
    have : ps = [] := List.eq_nil_of_length_eq_zero hpl
    subst this
    rename_i a
    cases a with
    | none => exact .rnil sz
    | some a => exact .remp a 0 sz
  | sl _ _ _ _ c k' p hp hk hc hn' =>
    obtain ⟨cs, ty, a1, a2, a3, a4, a5⟩ := ((hm.own s o hs).rowOf hz hp).ex
    have hM : M.sealing ρ H n w p.block = some (.cells cs ty (0, 0)) := by rw [Imm.seal_at hm hns hs hro hp]; exact a1
    refine .rsl p.block k' c sz len ps hpl.symm hn' (fun i j hi hj => ?_) (fun i r j q u hi hj hcell => ?_) (fun i r hi => (hps i r hi).1)
    · obtain ⟨u, hu, hone⟩ := a4 (st + i) j (by omega) hj
      refine ⟨u, ?_, hone⟩
      rw [Imm.cell_of hM, hk, ← Nat.add_mul]; exact hu
    · obtain ⟨g2, g3⟩ := hps i r hi
      obtain ⟨y, y1, y2⟩ := g3 j q hj
      have hlt : i < ps.length := (List.getElem?_eq_some_iff.1 hi).1
      obtain ⟨b1, b2⟩ := a5 (st + i) j y (by omega) y1
      rw [Imm.cell_of hM, hk, ← Nat.add_mul] at hcell
      exact y2 u (b2 u hcell)
def RowFor (M : Imm) (ρ : Env) (M2 : Imm) (ts : List Ty) (xs : List SV) (y : Els ts) : Prop :=
  xs.length = ts.length ∧ ∀ (j : Nat) (q : PV), (rowPV ts y)[j]? = some q → ∃ x, xs[j]? = some x ∧ ∀ u, SRep M ρ u x → PRep M2 u q
def RowsFor (M : Imm) (ρ : Env) (M2 : Imm) (row : List Ty) (rs : List (List SV)) (l : List (Els row)) : Prop :=
  l.length = rs.length ∧ ∀ (i : Nat) (y : Els row), l[i]? = some y → ∃ r, rs[i]? = some r ∧ RowFor M ρ M2 row r y
theorem RowFor.of {M : Imm} {ρ : Env} {M2 : Imm} (hle : M.le M2) {ts : List Ty} {r : List PV} {y : Els ts} (h : ofRow ts r = some y) : RowFor M ρ M2 ts (r.map .pv) y := by
  obtain ⟨g1, g2⟩ := ofRow_sound h
  refine ⟨by rw [List.length_map, ← g1, rowPV_length], fun j q hq => ?_⟩
  obtain ⟨p, hp, himp⟩ := g2 j q hq
  refine ⟨.pv p, by simp [hp], fun u hu => ?_⟩
  cases hu with
  | pv hu => exact (himp M u hu).mono hle
theorem RowsFor.of {M : Imm} {ρ : Env} {M2 : Imm} (hle : M.le M2) {row : List Ty} {rs : List (List PV)} {l : List (Els row)} (h : mapO (ofRow row) rs = some l) : RowsFor M ρ M2 row (rs.map (·.map .pv)) l := by
  obtain ⟨g1, g2⟩ := mapO_spec h
  refine ⟨by simpa using g1, fun i y hy => ?_⟩
  obtain ⟨r, hr, hr2⟩ := g2 i y hy
  exact ⟨r.map .pv, by simp [hr], .of hle hr2⟩
theorem RowFor.self {M : Imm} {ρ : Env} {M2 : Imm} (hle : M.le M2) {ts : List Ty} (y : Els ts) : RowFor M ρ M2 ts ((rowPV ts y).map .pv) y := by
  refine ⟨by simp [rowPV_length], fun j q hq => ⟨.pv q, by simp [hq], fun u hu => ?_⟩⟩
  cases hu with
  | pv hu => exact hu.mono hle
theorem RowsFor.self {M : Imm} {ρ : Env} {M2 : Imm} (hle : M.le M2) {row : List Ty} (l : List (Els row)) : RowsFor M ρ M2 row ((rowsPV row l).map (·.map .pv)) l := by
  refine ⟨by simp [rowsPV], fun i y hy => ⟨(rowPV row y).map .pv, by simp [rowsPV, hy], .self hle y⟩⟩
theorem seal_data {M : Imm} {ρ : Env} {H : List SObj} {w : World} {n : Nat} (hm : Mem M ρ H w) {s st len : Nat} {row : List Ty} {o : SObj} {v : Value} {l : List (Els row)} (hns : n ≤ s) (hs : H[s]? = some o) (hro : o.rowsy = true) (hz : o.sz? = some row.length)
    (hfit : st + len ≤ o.len) (hl : l.length = len) (hrows : ∀ (i : Nat) (y : Els row), l[i]? = some y → RowFor M ρ (M.sealing ρ H n w) row (o.row (st + i)) y)
    (hr : SRep M ρ v (.sl s row.length st len)) : PRep (M.sealing ρ H n w) v ((Ty.seq row).pv l) := by
  refine .tsl row l (seal_slice hm hns hs hro hz hfit (by simp [rowsPV, hl]) (fun i r hi => ?_) hr)
  simp only [rowsPV, List.getElem?_map, Option.map_eq_some_iff] at hi
  obtain ⟨y, hy, rfl⟩ := hi
  obtain ⟨g1, g2⟩ := hrows i y hy
  exact ⟨by rw [rowPV_length]; exact Nat.le_refl _, g2⟩
def RdVal (M : Imm) (ρ : Env) (M2 : Imm) {α : Type} (f : SV → Option (Bool × α)) (g : α → PV) : Prop :=
  ∀ (x : SV) (c : Bool) (y : α) (v : Value), f x = some (c, y) → c = true → SRep M ρ v x → PRep M2 v (g y)
def RdRow (M : Imm) (ρ : Env) (M2 : Imm) (ts : List Ty) (f : List SV → Option (Bool × Els ts)) : Prop :=
  ∀ (xs : List SV) (c : Bool) (y : Els ts), f xs = some (c, y) → c = true → RowFor M ρ M2 ts xs y
theorem rdScal_ok {M : Imm} {ρ : Env} {M2 : Imm} (hle : M.le M2) {α : Type} {f : PV → Option α} {g : α → PV} (hf : OfOk f g) : RdVal M ρ M2 (rdScal f) g := by
  intro x c y v h hc hr
  unfold rdScal at h
  split at h
  · split at h
    · rename_i y' hy
      cases h
      cases hr with
      | pv hp => exact (hf _ _ hy M v hp).mono hle
    · cases h
  · cases h
theorem mapC_ok {M : Imm} {ρ : Env} {M2 : Imm} {row : List Ty} {f : List SV → Option (Bool × Els row)} (hf : RdRow M ρ M2 row f) : ∀ (rs : List (List SV)) (c : Bool) (l : List (Els row)), mapC f rs = some (c, l) → c = true → RowsFor M ρ M2 row rs l
  | [], c, l, h, hc => by cases h; exact ⟨rfl, fun i y hy => by simp at hy⟩
  | r :: rs, c, l, h, hc => by
    simp only [mapC] at h
    split at h
    · cases h
    · rename_i a h1
      split at h
      · cases h
      · rename_i b h2
        cases h
        rw [Bool.and_eq_true] at hc
        obtain ⟨g1, g2⟩ := mapC_ok hf rs b.1 b.2 h2 hc.2
        refine ⟨by simp [g1], fun i y hy => ?_⟩
        cases i with
        | zero =>
          simp at hy; subst hy
          exact ⟨r, rfl, hf _ a.1 a.2 h1 hc.1⟩
        | succ i =>
          simp at hy
          obtain ⟨r', q1, q2⟩ := g2 i y hy
          exact ⟨r', by simpa using q1, q2⟩
theorem rdSeq_ok {M : Imm} {ρ : Env} {H : List SObj} {w : World} {n : Nat} (hm : Mem M ρ H w) {row : List Ty} {f : List SV → Option (Bool × Els row)} (hf : RdRow M ρ (M.sealing ρ H n w) row f) : RdVal M ρ (M.sealing ρ H n w) (rdSeq H n row f) (Ty.seq row).pv := by
  have hle := Imm.seal_le M ρ H n w
  intro x c y v h hc hr
  unfold rdSeq at h
  split at h
  · split at h
    · rename_i y' hy
      cases h
      cases hr with
      | pv hp => exact (Ty.of_sound (t := .seq row) hy hp).mono hle
    · cases h
  · rename_i s sz st len
    split at h
    · cases h
    · rename_i e2
      rw [Bool.and_eq_true] at e2
      have hns := Nat.le_of_ble_eq_true e2.1
      have hsz := Nat.eq_of_beq_eq_true e2.2
      subst hsz
      split at h
      · rename_i ty row' l ho
        split at h
        · rename_i l' hcast
          cases h
          obtain ⟨e3, rfl⟩ := castRows_eq hcast
          subst e3
          have hfit := of_decide_eq_true hc
          refine seal_data hm hns ho rfl rfl hfit (by simp; simp at hfit; omega) (fun i y hy => ?_) hr
          rw [List.getElem?_take] at hy
          split at hy
          · rw [List.getElem?_drop] at hy
            have : (SObj.tvec ty row' l).row (st + i) = (rowPV row' y).map .pv := by
              simp only [SObj.row, List.getD, hy, Option.getD_some]
            rw [this]; exact .self hle y
          · cases hy
        · cases h
      · rename_i ty so rows ho
        split at h
        · cases h
        · rename_i e3
          rw [Bool.and_eq_true] at e3
          have hso := Nat.eq_of_beq_eq_true e3.1
          have hfit := Nat.le_of_ble_eq_true e3.2
          split at h
          · rename_i l hl
            cases h
            have hrf := RowsFor.of (M := M) (ρ := ρ) hle hl
            refine seal_data hm hns ho rfl (by simp [SObj.sz?, hso]) hfit (by rw [hrf.1]; simp; omega) (fun i y hy => ?_) hr
            obtain ⟨r, g1, g2⟩ := hrf.2 i y hy
            simp only [List.getElem?_map, Option.map_eq_some_iff] at g1
            obtain ⟨r0, g1, rfl⟩ := g1
            rw [List.getElem?_take] at g1
            split at g1
            · rw [List.getElem?_drop] at g1
              have : (SObj.vec ty so rows).row (st + i) = r0.map .pv := by simp [SObj.row, List.getD, g1]
              rw [this]; exact g2
            · cases g1
          · cases h
      · rename_i ty so rows ho
        split at h
        · cases h
        · rename_i e3
          rw [Bool.and_eq_true] at e3
          have hso := Nat.eq_of_beq_eq_true e3.1
          have hfit := Nat.le_of_ble_eq_true e3.2
          have hrf := mapC_ok hf _ _ _ h hc
          refine seal_data hm hns ho rfl (by simp [SObj.sz?, hso]) hfit (by rw [hrf.1]; simp; omega) (fun i y hy => ?_) hr
          obtain ⟨r, g1, g2⟩ := hrf.2 i y hy
          rw [List.getElem?_take] at g1
          split at g1
          · rw [List.getElem?_drop] at g1
            have : (SObj.mix ty so rows).row (st + i) = r := by simp [SObj.row, List.getD, g1]
            rw [this]; exact g2
          · cases g1
      · cases h
  · cases h
theorem rdNilS_ok {M : Imm} {ρ : Env} {M2 : Imm} : RdRow M ρ M2 [] rdNilS := by
  intro xs c y h hc
  unfold rdNilS at h
  split at h
  · exact ⟨rfl, fun j q hq => by simp [rowPV] at hq⟩
  · cases h
theorem rdOneS_ok {M : Imm} {ρ : Env} {M2 : Imm} {t : Ty} {f : SV → Option (Bool × t.El)} (hf : RdVal M ρ M2 f t.pv) : RdRow M ρ M2 [t] (rdOneS f) := by
  intro xs c y h hc
  match xs, h with
  | [], h => cases h
  | _ :: _ :: _, h => cases h
  | [x], h =>
    replace h : f x = some (c, y) := h
    refine ⟨rfl, fun j q hq => ?_⟩
    cases j with
    | zero =>
      simp only [rowPV, List.getElem?_cons_zero, Option.some.injEq] at hq
      subst hq
      exact ⟨x, rfl, fun u hu => hf x c y u h hc hu⟩
    | succ j => simp [rowPV] at hq
theorem rdConsS_ok {M : Imm} {ρ : Env} {M2 : Imm} {t t' : Ty} {ts : List Ty} {f : SV → Option (Bool × t.El)} {g : List SV → Option (Bool × Els (t' :: ts))} (hf : RdVal M ρ M2 f t.pv) (hg : RdRow M ρ M2 (t' :: ts) g) : RdRow M ρ M2 (t :: t' :: ts) (rdConsS f g) := by
  intro xs c y h hc
  unfold rdConsS at h
  split at h
  · rename_i x xs
    split at h
    · cases h
    · rename_i a h1
      split at h
      · cases h
      · rename_i b h2
        cases h
        rw [Bool.and_eq_true] at hc
        obtain ⟨g1, g2⟩ := hg _ b.1 b.2 h2 hc.2
        refine ⟨by simp only [List.length_cons] at g1 ⊢; omega, fun j q hq => ?_⟩
        have hq : (t.pv a.2 :: rowPV (t' :: ts) b.2)[j]? = some q := hq
        cases j with
        | zero =>
          simp only [List.getElem?_cons_zero, Option.some.injEq] at hq
          subst hq
          exact ⟨x, rfl, fun u hu => hf x a.1 a.2 u h1 hc.1 hu⟩
        | succ j =>
          simp only [List.getElem?_cons_succ] at hq
          obtain ⟨z, z1, z2⟩ := g2 j q hq
          exact ⟨z, by simpa using z1, z2⟩
  · cases h
theorem rd_sound {M : Imm} {ρ : Env} {H : List SObj} {w : World} {n : Nat} (hm : Mem M ρ H w) : ∀ (k : Nat),
    (∀ (t : Ty), SizeOf.sizeOf t ≤ k → RdVal M ρ (M.sealing ρ H n w) (rdT H n t) t.pv) ∧ (∀ (ts : List Ty), SizeOf.sizeOf ts ≤ k → RdRow M ρ (M.sealing ρ H n w) ts (rdRow H n ts)) := by
  have hle := Imm.seal_le M ρ H n w
  intro k
  induction k with
  | zero => exact ⟨fun t ht => by (cases t <;> simp at ht), fun ts ht => by (cases ts <;> simp at ht)⟩
  | succ k ih =>
    obtain ⟨ih1, ih2⟩ := ih
    refine ⟨fun t ht => ?_, fun ts ht => ?_⟩
    · match t, ht with
      | .int k, ht => exact rdScal_ok hle (intOf_ok k)
      | .bool, ht => exact rdScal_ok hle boolOf_ok
      | .str, ht => exact rdScal_ok hle strOf_ok
      | .seq row, ht => exact rdSeq_ok hm (ih2 row (by simp at ht; omega))
    · match ts, ht with
      | [], ht => exact rdNilS_ok
      | [t], ht => exact rdOneS_ok (ih1 t (by simp at ht; omega))
      | t :: t' :: ts, ht => exact rdConsS_ok (ih1 t (by simp at ht; omega)) (ih2 (t' :: ts) (by simp at ht ⊢; omega))
theorem rdT_sound {M : Imm} {ρ : Env} {H : List SObj} {w : World} (n : Nat) (hm : Mem M ρ H w) (t : Ty) : RdVal M ρ (M.sealing ρ H n w) (rdT H n t) t.pv := (rd_sound hm _).1 t (Nat.le_refl _)
theorem rdRow_sound {M : Imm} {ρ : Env} {H : List SObj} {w : World} (n : Nat) (hm : Mem M ρ H w) (ts : List Ty) : RdRow M ρ (M.sealing ρ H n w) ts (rdRow H n ts) := (rd_sound hm _).2 ts (Nat.le_refl _)
def rdAgg (H : List SObj) (n : Nat) (row : List Ty) : SV → Option (Bool × Els row)
  | .pv (.lit (.agg cs)) => match ofRow row (cs.toList.map .lit) with
    | some y => some (true, y)
    | none => none
  | .agg l => rdRow H n row l
  | _ => none
def rdA (H : List SObj) (n : Nat) : (a : ATy) → SV → Option (Bool × a.El)
  | .val t => rdT H n t
  | .agg row => rdAgg H n row
theorem rdA_sound {M : Imm} {ρ ρ2 : Env} {H : List SObj} {w : World} {n : Nat} (hm : Mem M ρ H w) {a : ATy} {x : SV} {c : Bool} {y : a.El} {v : Value} (h : rdA H n a x = some (c, y)) (hc : c = true) (hr : SRep M ρ v x) : SRep (M.sealing ρ H n w) ρ2 v (a.sv y) := by
  cases a with
  | val t => exact .pv (rdT_sound n hm t x c y v h hc hr)
  | agg row =>
    refine ATy.sv_of_raw ?_
    have fin : ∀ (cs : Array Value) (xs : List SV) (y : Els row), RowFor M ρ (M.sealing ρ H n w) row xs y → cs.size = xs.length → (∀ (i : Nat) (u : Value) (x : SV), cs[i]? = some u → xs[i]? = some x → SRep M ρ u x) → SRep (M.sealing ρ H n w) ρ2 (.agg cs) ((ATy.agg row).raw y) := fun cs xs y hf hl hr => by
      refine .agg cs _ (by rw [hl, hf.1]; simp [rowPV_length]) fun i u z hu hz => ?_
      simp only [List.getElem?_map, Option.map_eq_some_iff] at hz
      obtain ⟨q, hq, rfl⟩ := hz
      obtain ⟨x, hx, himp⟩ := hf.2 i q hq
      exact .pv (himp u (hr i u x hu hx))
    replace h : rdAgg H n row x = some (c, y) := h
    unfold rdAgg at h
    split at h
    · rename_i cs
      split at h
      · rename_i y' hy
        cases h
        have := hr.lit_eq
        subst this
        refine fin cs _ _ (RowFor.of (Imm.seal_le M ρ H n w) hy) (by simp) fun i u x hu hx => ?_
        simp only [List.getElem?_map, Option.map_eq_some_iff, Array.getElem?_toList] at hx
        obtain ⟨p, ⟨u', hu', rfl⟩, rfl⟩ := hx
        rw [hu] at hu'; cases hu'; exact .pv (.lit _)
      · cases h
    · rename_i l
      cases hr with
      | agg cs _ hl hr => exact fin cs l y (rdRow_sound n hm row _ _ _ h hc) hl hr
    · cases h
theorem rdA_raw {M : Imm} {ρ ρ2 : Env} {H : List SObj} {w : World} {n : Nat} (hm : Mem M ρ H w) {a : ATy} {x : SV} {c : Bool} {y : a.El} {v : Value} (h : rdA H n a x = some (c, y)) (hc : c = true) (hr : SRep M ρ v x) : SRep (M.sealing ρ H n w) ρ2 v (a.raw y) := by
  cases a with
  | val t => exact .pv (rdT_sound n hm t x c y v h hc hr)
  | agg row =>
    have fin : ∀ (cs : Array Value) (xs : List SV) (y : Els row), RowFor M ρ (M.sealing ρ H n w) row xs y → cs.size = xs.length → (∀ (i : Nat) (u : Value) (x : SV), cs[i]? = some u → xs[i]? = some x → SRep M ρ u x) → SRep (M.sealing ρ H n w) ρ2 (.agg cs) ((ATy.agg row).raw y) := fun cs xs y hf hl hr => by
      refine .agg cs _ (by rw [hl, hf.1]; simp [rowPV_length]) fun i u z hu hz => ?_
      simp only [List.getElem?_map, Option.map_eq_some_iff] at hz
      obtain ⟨q, hq, rfl⟩ := hz
      obtain ⟨x, hx, himp⟩ := hf.2 i q hq
      exact .pv (himp u (hr i u x hu hx))
    replace h : rdAgg H n row x = some (c, y) := h
    unfold rdAgg at h
    split at h
    · rename_i cs
      split at h
      · rename_i y' hy
        cases h
        have := hr.lit_eq
        subst this
        refine fin cs _ _ (RowFor.of (Imm.seal_le M ρ H n w) hy) (by simp) fun i u x hu hx => ?_
        simp only [List.getElem?_map, Option.map_eq_some_iff, Array.getElem?_toList] at hx
        obtain ⟨p, ⟨u', hu', rfl⟩, rfl⟩ := hx
        rw [hu] at hu'; cases hu'; exact .pv (.lit _)
      · cases h
    · rename_i l
      cases hr with
      | agg cs _ hl hr => exact fin cs l y (rdRow_sound n hm row _ _ _ h hc) hl hr
    · cases h
theorem OwnAt.vecMix {M : Imm} {ρ : Env} {w : World} {s ty sz : Nat} {rows : List (List PV)} (h : OwnAt M ρ w s (.vec ty sz rows)) : OwnAt M ρ w s (.mix ty sz (rows.map (·.map .pv))) := by
  have key : ∀ i j, mcell (rows.map (·.map SV.pv)) i j = vcell rows i j := fun i j => by
    unfold vcell mcell
    simp only [List.getElem?_map]
    cases rows[i]? with
    | none => rfl
    | some r => simp
  rcases h with ⟨h1, h2⟩ | ⟨p, h1, h2⟩
  · exact .inl ⟨h1, by simp [h2]⟩
  · refine .inr ⟨p, h1, ?_⟩
    obtain ⟨cs, a1, a2, a3, a4, a5, a6⟩ := h2.ex
    exact ⟨cs, a1, a2, by simpa using a3, by simpa using a4, fun i j x v hx hv => by rw [key] at hx; simpa using a5 i j x v hx hv, fun i j x hx => by rw [key] at hx; simpa using a6 i j x hx⟩
theorem OwnAt.retypeM {M M2 : Imm} {ρ ρ2 : Env} {w : World} {s ty : Nat} {row : List Ty} {rs : List (List SV)} {l : List (Els row)} (hle : M.le M2) (hs : ρ2 s = ρ s) (hf : RowsFor M ρ M2 row rs l) (h : OwnAt M ρ w s (.mix ty row.length rs)) : OwnAt M2 ρ2 w s (.tvec ty row l) := by
  have hlen : (rowsPV row l).length = rs.length := by simp [rowsPV, hf.1]
  rcases h with ⟨h1, h2⟩ | ⟨p, h1, h2⟩
  · exact .inl ⟨hs.trans h1, List.eq_nil_of_length_eq_zero (by rw [hlen, h2]; rfl)⟩
  · refine .inr ⟨p, hs.trans h1, ?_⟩
    obtain ⟨cs, a1, a2, a3, a4, a5, a6⟩ := h2.ex
    have key : ∀ i j x, vcell (rowsPV row l) i j = some x → ∃ y, mcell rs i j = some y ∧ ∀ v, SRep M ρ v y → SRep M2 ρ2 v x := fun i j x hx => by
      unfold vcell at hx
      simp only [Option.map_eq_some_iff, Option.bind_eq_some_iff, rowsPV, List.getElem?_map] at hx
      obtain ⟨q, ⟨r', ⟨y, hy, rfl⟩, hq⟩, rfl⟩ := hx
      obtain ⟨r, g1, g2⟩ := hf.2 i y hy
      obtain ⟨x, g3, g4⟩ := g2.2 j q hq
      exact ⟨x, by simp [mcell, g1, g3], fun v h => .pv (g4 v h)⟩
    refine ⟨cs, a1, a2, by rw [hlen]; exact a3, by rw [hlen]; exact a4, fun i j x v hx hv => ?_, fun i j x hx => ?_⟩
    · obtain ⟨y, hy, himp⟩ := key i j x hx
      obtain ⟨b1, b2, b3⟩ := a5 i j y v hy hv
      exact ⟨by rw [hlen]; exact b1, b2, himp _ b3⟩
    · obtain ⟨y, hy, _⟩ := key i j x hx
      rw [hlen]; exact a6 i j y hy
def linksOf : SV → List Nat
  | .sl s _ _ _ => [s]
  | _ => []
def rowLinks : List SV → List Nat
  | [] => []
  | x :: l => linksOf x ++ rowLinks l
def rowsLinks : List (List SV) → List Nat
  | [] => []
  | r :: l => rowLinks r ++ rowsLinks l
def onlyL (S : List Nat) : Nat → List SObj → List SObj
  | _, [] => []
  | n, o :: l => (match S.contains n with
    | true => o
    | false => .dead) :: onlyL S (n + 1) l
def killL : List Nat → List SObj → List SObj
  | [], H => H
  | s :: S, H => killL S (H.set s .dead)
theorem onlyL_get {S : List Nat} : ∀ {H : List SObj} {n s : Nat} {x : SObj}, (onlyL S n H)[s]? = some x → (S.contains (n + s) = true ∧ H[s]? = some x) ∨ x = .dead
  | [], n, s, x, h => by simp [onlyL] at h
  | o :: l, n, s, x, h => by
    cases s with
    | zero =>
      simp only [onlyL, List.getElem?_cons_zero, Option.some.injEq] at h
      split at h
      · rename_i e; subst h; exact .inl ⟨e, rfl⟩
      · exact .inr h.symm
    | succ s =>
      simp only [onlyL, List.getElem?_cons_succ] at h
      rcases onlyL_get h with ⟨h1, h2⟩ | h1
      · exact .inl ⟨by rw [show n + (s + 1) = n + 1 + s by omega]; exact h1, by simpa using h2⟩
      · exact .inr h1
theorem onlyL_len {S : List Nat} : ∀ {H : List SObj} {n : Nat}, (onlyL S n H).length = H.length
  | [], n => rfl
  | o :: l, n => by simp [onlyL, onlyL_len (H := l)]
theorem killL_len : ∀ {S : List Nat} {H : List SObj}, (killL S H).length = H.length
  | [], H => rfl
  | s :: S, H => by simp [killL, killL_len]
theorem killL_get : ∀ {S : List Nat} {H : List SObj} {s : Nat} {x : SObj}, (killL S H)[s]? = some x → x = .dead ∨ (s ∉ S ∧ H[s]? = some x)
  | [], H, s, x, h => .inr ⟨by simp, h⟩
  | t :: S, H, s, x, h => by
    simp only [killL] at h
    rcases killL_get h with h1 | ⟨h1, h2⟩
    · exact .inl h1
    · rw [List.getElem?_set] at h2
      split at h2
      · split at h2
        · cases h2; exact .inl rfl
        · cases h2
      · rename_i e; exact .inr ⟨by simp only [List.mem_cons, not_or]; exact ⟨fun h => e h.symm, h1⟩, h2⟩
theorem killL_keep : ∀ {S : List Nat} {H : List SObj} {s : Nat}, s ∉ S → (killL S H)[s]? = H[s]?
  | [], H, s, _ => rfl
  | t :: S, H, s, h => by
    simp only [List.mem_cons, not_or] at h
    simp only [killL]
    rw [killL_keep h.2, List.getElem?_set, if_neg fun e => h.1 e.symm]
theorem Mem.sub {M : Imm} {ρ : Env} {H H2 : List SObj} {w : World} (hm : Mem M ρ H w) (hl : H2.length = H.length) (hs : ∀ (s : Nat) (x : SObj), H2[s]? = some x → x.live = true → H[s]? = some x) : Mem M ρ H2 w := by
  refine ⟨hm.imm, fun s x hx => ?_, fun s x p hx hlx hp => hm.sep s x p (hs s x hx hlx) hlx hp, fun s s' x x' p p' hx hx' hlx hlx' hp hp' hb => hm.dis s s' x x' p p' (hs s x hx hlx) (hs s' x' hx' hlx') hlx hlx' hp hp' hb, fun s h => hm.fresh s (by rw [← hl]; exact h)⟩
  by_cases hlx : x.live = true
  · exact hm.own s x (hs s x hx hlx)
  · rw [live_some hlx]; trivial
def Res.touch (S : List Nat) (H : List SObj) : Res → Res
  | .fail => .fail
  | .ok x => .eff x H S []
  | .eff x H' t g => .eff x H' (S ++ t) g
  | .need c r => .need c (r.touch S H)
  | .split c a b => .split c (a.touch S H) (b.touch S H)
theorem Res.touch_holds {S : List Nat} {H H0 : List SObj} {K : Post} : ∀ {r : Res}, (r.touch S H).holds H0 K → r.holds H fun x H' t g => K x H' (S ++ t) g
  | .fail, h => h
  | .ok x, h => by show K x H (S ++ []) []; rw [List.append_nil]; exact h
  | .eff x H' t g, h => h
  | .need c r, h => ⟨h.1, touch_holds h.2⟩
  | .split c a b, h => ⟨fun e => touch_holds (h.1 e), fun e => touch_holds (h.2 e)⟩
def sealTmp (tab : Tab) (H : List SObj) (t : Nat) (x : SV) : Option (Bool × List Nat × List SObj) := match x with
  | .sl tmp sz st n => match H[tmp]? with
    | some (.mix ty so rows) => match tab.lookup t with
      | some { desc := .slice e, .. } => match tab.lookup e with
        | none => none
        | some i => match i.row with
          | none => none
          | some row => match Nat.beq so row.length && !(rowsLinks rows).contains tmp with
            | false => none
            | true => match mapC (rdRow (onlyL (rowsLinks rows) 0 H) 0 row) rows with
              | none => none
              | some a => some (a.1, rowsLinks rows, (killL (rowsLinks rows) H).set tmp (.tvec ty row a.2))
      | _ => none
    | _ => none
  | _ => none
theorem sealTmp_sound {tab : Tab} {M : Imm} {ρ : Env} {H : List SObj} {w : World} (hm : Mem M ρ H w) {t : Nat} {x : SV} {c : Bool} {S : List Nat} {H2 : List SObj} (h : sealTmp tab H t x = some (c, S, H2)) (hc : c = true) :
    H2.length = H.length ∧ ∃ M2, Mem M2 ρ H2 w ∧ Fr M ρ H w M2 ρ H2 w H.length S [] ∧ M.le M2 := by
  unfold sealTmp at h
  split at h
  · rename_i tmp sz st n
    split at h
    · rename_i ty so rows ho
      split at h
      · split at h
        · cases h
        · split at h
          · cases h
          · rename_i i _ _ row hrow
            split at h
            · cases h
            · rename_i hcond
              rw [Bool.and_eq_true, Bool.not_eq_true'] at hcond
              have hso := Nat.eq_of_beq_eq_true hcond.1
              subst hso
              have htmp : tmp ∉ rowsLinks rows := by simpa using hcond.2
              split at h
              · cases h
              · rename_i a ha
                cases h
                obtain ⟨c1, l⟩ := a
                have hsub : Mem M ρ (onlyL (rowsLinks rows) 0 H) w := hm.sub onlyL_len fun s x hx hl => by
                  rcases onlyL_get hx with ⟨_, h2⟩ | rfl
                  · exact h2
                  · cases hl
                have hle := Imm.seal_le M ρ (onlyL (rowsLinks rows) 0 H) 0 w
                have hrf := mapC_ok (rdRow_sound 0 hsub row) rows c1 l ha hc
                have hnew : ∀ b ob, M b = none → M.sealing ρ (onlyL (rowsLinks rows) 0 H) 0 w b = some ob → (∃ (s : Nat) (o : SObj) (p : Place), s ∈ rowsLinks rows ∧ H[s]? = some o ∧ o.live = true ∧ ρ s = some p ∧ p.block = b) ∧ w.heap[b]? = some ob := fun b ob h0 h1 => by
                  obtain ⟨⟨s2, o2, p2, q1, q2, q3, q4, q5⟩, q6⟩ := Imm.seal_new h0 h1
                  rcases onlyL_get q2 with ⟨k1, k2⟩ | rfl
                  · exact ⟨⟨s2, o2, p2, by simpa using k1, k2, by cases o2 <;> simp_all [SObj.rowsy, SObj.live], q4, q5⟩, q6⟩
                  · cases q3
                generalize M.sealing ρ (onlyL (rowsLinks rows) 0 H) 0 w = M2 at hle hrf hnew
                have hlt : tmp < H.length := (List.getElem?_eq_some_iff.1 ho).1
                have hobj : ∀ s x, ((killL (rowsLinks rows) H).set tmp (.tvec ty row l))[s]? = some x → (s = tmp ∧ x = .tvec ty row l) ∨ x = .dead ∨ (s ≠ tmp ∧ s ∉ rowsLinks rows ∧ H[s]? = some x) := fun s x hx => by
                  rw [List.getElem?_set] at hx
                  split at hx
                  · rename_i e; subst e
                    split at hx
                    · cases hx; exact .inl ⟨rfl, rfl⟩
                    · cases hx
                  · rename_i e
                    rcases killL_get hx with h1 | ⟨h1, h2⟩
                    · exact .inr (.inl h1)
                    · exact .inr (.inr ⟨fun h => e h.symm, h1, h2⟩)
                have hold : ∀ s x, ((killL (rowsLinks rows) H).set tmp (.tvec ty row l))[s]? = some x → x.live = true → s ∉ rowsLinks rows ∧ ∃ y, H[s]? = some y ∧ y.live = true := fun s x hx hl => by
                  rcases hobj s x hx with ⟨rfl, rfl⟩ | rfl | ⟨_, h1, h2⟩
                  · exact ⟨htmp, _, ho, rfl⟩
                  · cases hl
                  · exact ⟨h1, x, h2, hl⟩
                refine ⟨by simp [killL_len], M2, ⟨fun b ob hb => ?_, fun s x hx => ?_, fun s x p hx hlx hp => ?_, fun s s' x x' p p' hx hx' hlx hlx' hp hp' hbk => ?_, fun s hs => hm.fresh s (by simpa [killL_len] using hs)⟩, ⟨hle, fun b ob h0 h1 => ?_, fun b hb => ?_, fun _ _ _ => rfl, Nat.le_refl _, fun s x hs hx hy hlx => ?_, fun _ _ _ => rfl, rfl, rfl⟩, hle⟩
                · cases e : M b with
                  | some o' => rw [hle b o' e] at hb; cases hb; exact hm.imm b _ e
                  | none => exact (hnew b ob e hb).2
                · rcases hobj s x hx with ⟨rfl, rfl⟩ | rfl | ⟨_, _, h2⟩
                  · have h0 : OwnAt M ρ w s (.mix ty row.length rows) := hm.own s _ ho
                    exact h0.retypeM hle rfl hrf
                  · trivial
                  · exact (hm.own s x h2).mono hle ρ.le_refl rfl fun _ _ => rfl
                · obtain ⟨h1, y, h2, h3⟩ := hold s x hx hlx
                  have h0 := hm.sep s y p h2 h3 hp
                  cases e : M2 p.block with
                  | none => rfl
                  | some ob =>
                    obtain ⟨⟨s2, o2, p2, q1, q2, q3, q4, q5⟩, _⟩ := hnew _ _ h0 e
                    have := hm.dis s s2 y o2 p p2 h2 q2 h3 q3 hp q4 q5.symm
                    subst this
                    exact absurd q1 h1
                · obtain ⟨_, y, h2, h3⟩ := hold s x hx hlx
                  obtain ⟨_, y', h2', h3'⟩ := hold s' x' hx' hlx'
                  exact hm.dis s s' y y' p p' h2 h2' h3 h3' hp hp' hbk
                · obtain ⟨⟨s2, o2, p2, q1, q2, q3, q4, q5⟩, _⟩ := hnew b ob h0 h1
                  exact .inr ⟨s2, o2, p2, q2, q3, q4, q5⟩
                · obtain ⟨s, x, p, h1, h2, h3, h4⟩ := hb
                  obtain ⟨_, y, q1, q2⟩ := hold s x h1 h2
                  exact .inr ⟨s, y, p, q1, q2, h3, h4⟩
                · refine ⟨?_, fun p hp => ⟨hp, rfl⟩⟩
                  by_cases e : s = tmp
                  · subst e
                    exact ⟨.tvec ty row l, by rw [List.getElem?_set, if_pos rfl, if_pos (by rw [killL_len]; exact hlt)], rfl⟩
                  · refine ⟨x, ?_, hlx⟩
                    rw [List.getElem?_set, if_neg fun h => e h.symm, killL_keep hx]; exact hy
      · cases h
    · cases h
  · cases h
def sAppendS (tab : Tab) (H : List SObj) (t t' : Nat) (a x : SV) : Res := match sealTmp tab H t x with
  | some q => .need q.1 ((sAppend tab q.2.2 t t' a x).touch q.2.1 q.2.2)
  | none => sAppend tab H t t' a x
theorem sAppendS_sound {P : Program} {tab : Tab} (htab : TabOk P tab) {M : Imm} {ρ : Env} {H : List SObj} {w : World} {K : Post} (hm : Mem M ρ H w) {t t' ty : Nat} {a x : SV} {v u : Value} (ha : SRep M ρ v a) (hx : SRep M ρ u x)
    (h : (sAppendS tab H t t' a x).holds H K) : DoesV P (Builtin.append_ #[t, t'] ty #[v, u]) M ρ H w K := by
  unfold sAppendS at h
  split at h
  · rename_i q hq
    obtain ⟨c, S, H2⟩ := q
    obtain ⟨hc, h⟩ := h
    obtain ⟨hlen, M2, m1, m2, m3⟩ := sealTmp_sound hm hq hc
    obtain ⟨v', w', h1, y, H', tch, fg, M', ρ', hk, h2, h3, h4⟩ := sAppend_sound htab m1 (ha.mono m3 ρ.le_refl) (hx.mono m3 ρ.le_refl) (Res.touch_holds h)
    rw [hlen] at h4
    exact ⟨v', w', h1, y, H', S ++ tch, fg, M', ρ', hk, h2, h3, m2.trans h4 (fun x h => List.mem_append_left _ h) (fun x h => List.mem_append_right _ h) (fun x h => by cases h) (fun x h => h)⟩
  · exact sAppend_sound htab hm ha hx h
end Go.Sx

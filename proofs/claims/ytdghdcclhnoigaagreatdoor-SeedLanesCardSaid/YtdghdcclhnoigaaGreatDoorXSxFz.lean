/- Part Fz of the own logic: what a call has made and nobody writes any more becomes immutable. -/
import Derived.Test.YtdghdcclhnoigaaGreatDoorXSxNr
set_option linter.unusedVariables false
set_option linter.unusedSimpArgs false
set_option linter.unnecessarySimpa false
namespace Go.Sx
open Go
mutual
def frz (H : List SObj) (n : Nat) : Nat → SV → Option PV
  | 0, _ => none
  | _ + 1, .pv p => some p
  | k + 1, .sl s sz st len => match Nat.ble n s, H[s]? with
    | true, some (.vec _ sz' rows) => if sz = sz' ∧ st + len ≤ rows.length then some (.rsl sz ((rows.drop st).take len)) else none
    | true, some (.mix _ sz' rows) => if sz = sz' ∧ st + len ≤ rows.length then (frzRows H n k ((rows.drop st).take len)).map (.rsl sz) else none
    | _, _ => none
  | _ + 1, _ => none
def frzRow (H : List SObj) (n : Nat) : Nat → List SV → Option (List PV)
  | 0, _ => none
  | _ + 1, [] => some []
  | k + 1, x :: l => match frz H n k x, frzRow H n k l with
    | some p, some ps => some (p :: ps)
    | _, _ => none
def frzRows (H : List SObj) (n : Nat) : Nat → List (List SV) → Option (List (List PV))
  | 0, _ => none
  | _ + 1, [] => some []
  | k + 1, r :: l => match frzRow H n k r, frzRows H n k l with
    | some p, some ps => some (p :: ps)
    | _, _ => none
end
theorem frzRow_spec {H : List SObj} {n : Nat} : ∀ (k : Nat) (l : List SV) (ps : List PV), frzRow H n k l = some ps → ps.length = l.length ∧ ∀ (i : Nat) (p : PV), ps[i]? = some p → ∃ x m, l[i]? = some x ∧ m < k ∧ frz H n m x = some p
  | 0, _, _, h => by simp [frzRow] at h
  | k + 1, [], ps, h => by simp [frzRow] at h; subst h; simp
  | k + 1, x :: l, ps, h => by
    simp only [frzRow] at h
    split at h
    · rename_i p q h1 h2
      cases h
      obtain ⟨g1, g2⟩ := frzRow_spec k l q h2
      refine ⟨by simp [g1], fun i p' hi => ?_⟩
      cases i with
      | zero => simp at hi; subst hi; exact ⟨x, k, rfl, Nat.lt_succ_self k, h1⟩
      | succ i =>
        simp at hi
        obtain ⟨y, m, a, b, c⟩ := g2 i p' hi
        exact ⟨y, m, by simpa using a, by omega, c⟩
    · cases h
theorem frzRows_spec {H : List SObj} {n : Nat} : ∀ (k : Nat) (l : List (List SV)) (ps : List (List PV)), frzRows H n k l = some ps → ps.length = l.length ∧
    ∀ (i : Nat) (r : List PV), ps[i]? = some r → ∃ x m, l[i]? = some x ∧ m < k ∧ frzRow H n m x = some r
  | 0, _, _, h => by simp [frzRows] at h
  | k + 1, [], ps, h => by simp [frzRows] at h; subst h; simp
  | k + 1, x :: l, ps, h => by
    simp only [frzRows] at h
    split at h
    · rename_i p q h1 h2
      cases h
      obtain ⟨g1, g2⟩ := frzRows_spec k l q h2
      refine ⟨by simp [g1], fun i p' hi => ?_⟩
      cases i with
      | zero => simp at hi; subst hi; exact ⟨x, k, rfl, Nat.lt_succ_self k, h1⟩
      | succ i =>
        simp at hi
        obtain ⟨y, m, a, b, c⟩ := g2 i p' hi
        exact ⟨y, m, by simpa using a, by omega, c⟩
    · cases h
theorem frz_sound {M : Imm} {ρ : Env} {H : List SObj} {w : World} {n : Nat} (hm : Mem M ρ H w) : ∀ (k : Nat) (x : SV) (p : PV) (v : Value), frz H n k x = some p → SRep M ρ v x → PRep (M.sealing ρ H n w) v p := by
  intro k
  induction k using Nat.strongRecOn with
  | _ k ih =>
  intro x p v h hr
  have hle := Imm.seal_le M ρ H n w
  match k, x, h with
  | 0, _, h => simp [frz] at h
  | k + 1, .pv q, h =>
    simp only [frz] at h; cases h
    cases hr with
    | pv hp => exact hp.mono hle
  | k + 1, .sl s sz st len, h =>
    simp only [frz] at h
    have main : ∀ (o : SObj) (sz' : Nat) (rows : List (List SV)) (ps : List (List PV)), n ≤ s → H[s]? = some o → o.rowsy = true → o.sz? = some sz' → o.len = rows.length → (∀ i, i < rows.length → o.row i = rows.getD i []) → sz = sz' → st + len ≤ rows.length →
        ps.length = len → (∀ (i : Nat) (r : List PV), ps[i]? = some r → ∃ row, rows[st + i]? = some row ∧ r.length = row.length ∧ ∀ (j : Nat) (q : PV), r[j]? = some q → ∃ y, row[j]? = some y ∧ ∀ u, SRep M ρ u y → PRep (M.sealing ρ H n w) u q) →
        PRep (M.sealing ρ H n w) v (.rsl sz ps) := by
      intro o sz' rows ps hns hs hro hz hlen hrow e hfit hpl hps
      subst e
      cases hr with
      | slz =>
        have : ps = [] := List.eq_nil_of_length_eq_zero hpl
        subst this
        rename_i a
        cases a with
        | none => exact .rnil sz
        | some a => exact .remp a 0 sz
      | sl _ _ _ _ c k' p hp hk hc hn' =>
        obtain ⟨cs, ty, a1, a2, a3, a4, a5⟩ := ((hm.own s o hs).rowOf hz hp).ex
        have hM : M.sealing ρ H n w p.block = some (.cells cs ty (0, 0)) := by rw [Imm.seal_at hm hns hs hro hp]; exact a1
        refine .rsl p.block k' c sz len ps hpl.symm hn' (fun i j hi hj => ?_) (fun i r j q u hi hj hcell => ?_) (fun i r hi => ?_)
        · obtain ⟨u, hu, hone⟩ := a4 (st + i) j (by omega) hj
          refine ⟨u, ?_, hone⟩
          rw [Imm.cell_of hM, hk, ← Nat.add_mul]; exact hu
        · obtain ⟨row, g1, g2, g3⟩ := hps i r hi
          obtain ⟨y, y1, y2⟩ := g3 j q hj
          have hlt : st + i < rows.length := (List.getElem?_eq_some_iff.1 g1).1
          obtain ⟨b1, b2⟩ := a5 (st + i) j y (by omega) (by rw [hrow _ hlt, List.getD, g1]; exact y1)
          rw [Imm.cell_of hM, hk, ← Nat.add_mul] at hcell
          exact y2 u (b2 u hcell)
        · obtain ⟨row, g1, g2, g3⟩ := hps i r hi
          have hlt : st + i < rows.length := (List.getElem?_eq_some_iff.1 g1).1
          rcases Nat.eq_zero_or_pos r.length with e | e
          · omega
          · have hx : row[r.length - 1]? = some (row[r.length - 1]'(by omega)) := List.getElem?_eq_getElem _
            obtain ⟨b1, _⟩ := a5 (st + i) (r.length - 1) _ (by omega) (by rw [hrow _ hlt, List.getD, g1]; exact hx)
            omega
    split at h
    · rename_i e1 e2
      split at h
      · rename_i ty sz' rows hc
        cases h
        refine main _ sz' (rows.map (·.map .pv)) _ (by simpa using e1) e2 rfl rfl (by simp [SObj.len]) (fun i hi => ?_) hc.1 (by simpa using hc.2) (by simp; omega) (fun i r hi => ?_)
        · simp at hi; simp [SObj.row, List.getD, hi]
        · rw [List.getElem?_take] at hi
          split at hi
          · rw [List.getElem?_drop] at hi
            refine ⟨r.map .pv, by simp [hi], by simp, fun j q hj => ⟨.pv q, by simp [hj], fun u hu => ?_⟩⟩
            cases hu with
            | pv hp => exact hp.mono hle
          · cases hi
      · cases h
    · rename_i e1 e2
      split at h
      · rename_i ty sz' rows hc
        simp only [Option.map_eq_some_iff] at h
        obtain ⟨ps, hps, rfl⟩ := h
        obtain ⟨g1, g2⟩ := frzRows_spec _ _ _ hps
        refine main _ sz' rows _ (by simpa using e1) e2 rfl rfl rfl (fun i hi => rfl) hc.1 hc.2 (by rw [g1]; simp; omega) (fun i r hi => ?_)
        obtain ⟨row, m, q1, q2, q3⟩ := g2 i r hi
        rw [List.getElem?_take] at q1
        split at q1
        · rw [List.getElem?_drop] at q1
          obtain ⟨z1, z2⟩ := frzRow_spec _ _ _ q3
          refine ⟨row, q1, z1, fun j q hj => ?_⟩
          obtain ⟨y, m', y1, y2, y3⟩ := z2 j q hj
          exact ⟨y, y1, fun u hu => ih m' (by omega) y q u y3 hu⟩
        · cases q1
      · cases h
    · cases h
  | k + 1, .any, h => simp [frz] at h
  | k + 1, .agg _, h => simp [frz] at h
  | k + 1, .tup _, h => simp [frz] at h
  | k + 1, .ptr _ _ _ _, h => simp [frz] at h
  | k + 1, .mp _, h => simp [frz] at h
  | k + 1, .yld _, h => simp [frz] at h
  | k + 1, .fn _ _ _, h => simp [frz] at h
end Go.Sx

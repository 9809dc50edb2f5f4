/- Part Za of the own logic: arguments that are read as data are data of one kind. -/
import Derived.Test.YtdghdcclhnoigaaGreatDoorXSxR
import GoSem.ClaimJoined
set_option linter.unusedVariables false
set_option linter.unusedSimpArgs false
namespace Go.Sx
open Go
def immOf (w : World) : Imm := fun b => w.heap[b]?
theorem cell_imm {w : World} {a : Addr} {v : Value} (h : w.cell? a = some v) : a.spot = none ∧ (immOf w).cell a.block a.off = some v := by
  unfold World.cell? at h
  unfold Imm.cell immOf
  split at h
  · rename_i c t f e
    rw [e]
    split at h
    · cases h
    · rename_i hs
      exact ⟨by cases hh : a.spot <;> simp_all, h⟩
  · cases h
def kBytes : IntKind → Nat
  | .i8 => 1
  | .u8 => 1
  | .i16 => 2
  | .u16 => 2
  | .i32 => 4
  | .u32 => 4
  | _ => 8
def Ty.bytes : Ty → Nat
  | .int k => kBytes k
  | .bool => 1
  | .str => 16
  | .seq _ => 24
def rowBytes : List Ty → Nat
  | [] => 0
  | t :: ts => t.bytes + rowBytes ts
def intIn (k : IntKind) (n : Int) : Prop := k.min ≤ n ∧ n ≤ k.max
def strIn (s : ByteArray) : Prop := s.size ≤ 140737488351232
def seqIn {α : Type} (b : Nat) (f : α → Prop) (l : List α) : Prop := l.length * b ≤ 140737488351232 ∧ ∀ x ∈ l, f x
mutual
def Ty.ok : (t : Ty) → t.El → Prop
  | .int k => intIn k
  | .bool => fun _ => True
  | .str => strIn
  | .seq row => seqIn (rowBytes row) (Els.ok row)
def Els.ok : (ts : List Ty) → Els ts → Prop
  | [] => fun _ => True
  | [t] => t.ok
  | t :: t' :: ts => fun x => t.ok x.1 ∧ Els.ok (t' :: ts) x.2
end
def Els.app : (r1 r2 : List Ty) → Els r1 → Els r2 → Els (r1 ++ r2)
  | [], _, _, y => y
  | [_], [], x, _ => x
  | [_], _ :: _, x, y => (x, y)
  | _ :: t' :: ts, r2, x, y => (x.1, Els.app (t' :: ts) r2 x.2 y)
theorem rowPV_app : ∀ (r1 r2 : List Ty) (x : Els r1) (y : Els r2), rowPV (r1 ++ r2) (Els.app r1 r2 x y) = rowPV r1 x ++ rowPV r2 y
  | [], _, _, _ => rfl
  | [_], [], x, _ => rfl
  | [_], _ :: _, x, y => rfl
  | t :: t' :: ts, r2, x, y => by
    have := rowPV_app (t' :: ts) r2 x.2 y
    show t.pv x.1 :: rowPV (t' :: ts ++ r2) (Els.app (t' :: ts) r2 x.2 y) = t.pv x.1 :: (rowPV (t' :: ts) x.2 ++ rowPV r2 y)
    rw [this]
theorem ok_app : ∀ (r1 r2 : List Ty) (x : Els r1) (y : Els r2), Els.ok r1 x → Els.ok r2 y → Els.ok (r1 ++ r2) (Els.app r1 r2 x y)
  | [], _, _, _, _, h => h
  | [_], [], x, _, h, _ => h
  | [t], t' :: ts, x, y, h, k => by
    exact ⟨h, k⟩
  | t :: t' :: ts, r2, x, y, h, k => by
    exact ⟨h.1, ok_app (t' :: ts) r2 x.2 y h.2 k⟩
structure RowRd (w : World) (cs : List Value) (row : List Ty) (x : Els row) : Prop where
  len : cs.length = row.length
  one : ∀ v ∈ cs, isCell v = true
  rep : ∀ (j : Nat) (v : Value) (p : PV), cs[j]? = some v → (rowPV row x)[j]? = some p → PRep (immOf w) v p
  ok : Els.ok row x
theorem RowRd.nil (w : World) : RowRd w [] [] () := ⟨rfl, fun v h => (by cases h), fun j v p h => (by simp at h), trivial⟩
theorem RowRd.single {w : World} {v : Value} {t : Ty} {x : t.El} (h1 : isCell v = true) (h2 : PRep (immOf w) v (t.pv x)) (h3 : t.ok x) : RowRd w [v] [t] x := by
  refine ⟨rfl, fun u hu => ?_, fun j u p hu hp => ?_, h3⟩
  · rw [List.mem_singleton] at hu; rw [hu]; exact h1
  · cases j with
    | zero =>
      simp only [List.getElem?_cons_zero, Option.some.injEq] at hu
      simp only [rowPV, List.getElem?_cons_zero, Option.some.injEq] at hp
      subst hu; subst hp; exact h2
    | succ j => simp at hu
theorem RowRd.app {w : World} {c1 c2 : List Value} {r1 r2 : List Ty} {x : Els r1} {y : Els r2} (h : RowRd w c1 r1 x) (k : RowRd w c2 r2 y) : RowRd w (c1 ++ c2) (r1 ++ r2) (Els.app r1 r2 x y) := by
  refine ⟨by simp [h.len, k.len], fun v hv => ?_, fun j v p hv hp => ?_, ok_app _ _ _ _ h.ok k.ok⟩
  · rcases List.mem_append.1 hv with hv | hv
    · exact h.one v hv
    · exact k.one v hv
  · rw [rowPV_app] at hp
    rw [List.getElem?_append] at hv hp
    rw [rowPV_length, ← h.len] at hp
    split at hv
    · rename_i hj
      rw [if_pos hj] at hp
      exact h.rep j v p hv hp
    · rename_i hj
      rw [if_neg hj] at hp
      exact k.rep _ v p hv hp
def rowFs (P : Program) (k : TypeId → Option (List Ty)) : List Field → Nat → Option (List Ty)
  | [], _ => some []
  | f :: fs, off => match decide (f.offset = off) with
    | false => none
    | true => match k f.type with
      | none => none
      | some r => match decide (r.length = P.cellsOf f.type) with
        | false => none
        | true => match rowFs P k fs (off + r.length) with
          | none => none
          | some rs => some (r ++ rs)
def rowNs (r : List Ty) : Nat → List Ty
  | 0 => []
  | n + 1 => r ++ rowNs r n
def rowK (P : Program) : Nat → TypeId → Option (List Ty)
  | 0, _ => none
  | n + 1, t => match P.underlying t with
    | some .bool => some [.bool]
    | some (.int k) => some [.int k]
    | some .string => some [.str]
    | some (.slice e) => match rowK P n e with
      | none => none
      | some r => match decide (r.length = P.cellsOf e) && (decide (0 < r.length) && decide (rowBytes r ≤ P.bytesOf e)) with
        | true => some [.seq r]
        | false => none
    | some (.struct fs) => match rowFs P (rowK P n) fs.toList 0 with
      | none => none
      | some r => match decide (r.length = P.cellsOf t) with
        | true => some r
        | false => none
    | some (.array m e) => match rowK P n e with
      | none => none
      | some r => match decide (r.length = P.cellsOf e) && decide (m * r.length = P.cellsOf t) with
        | true => some (rowNs r m)
        | false => none
    | _ => none
theorem mapM_some {α β : Type} {f : α → Option β} : ∀ {l : List α} {r : List β}, l.mapM f = some r → r.length = l.length ∧ ∀ (i : Nat) (x : α), l[i]? = some x → ∃ y, r[i]? = some y ∧ f x = some y
  | [], r, h => by simp at h; subst h; simp
  | a :: l, r, h => by
    rw [List.mapM_cons] at h
    cases ha : f a with
    | none => rw [ha] at h; cases h
    | some b =>
      cases hl : l.mapM f with
      | none => rw [ha, hl] at h; cases h
      | some bs =>
        rw [ha, hl] at h
        cases h
        obtain ⟨g1, g2⟩ := mapM_some hl
        refine ⟨by simp [g1], fun i x hx => ?_⟩
        cases i with
        | zero => simp at hx; subst hx; exact ⟨b, rfl, ha⟩
        | succ i => simp at hx; simpa using g2 i x hx
theorem cells_spec {w : World} {a : Addr} {n : Nat} {cs : List Value} (h : w.cells? 0 a n = some cs) : cs.length = n ∧ ∀ j, j < n → ∃ v, cs[j]? = some v ∧ w.cell? (a.add j) = some v := by
  unfold World.cells? at h
  rw [if_pos (Nat.zero_le _)] at h
  obtain ⟨h1, h2⟩ := mapM_some h
  exact ⟨by simpa using h1, fun j hj => h2 j j (by simp [hj])⟩
end Go.Sx

/- Part Zc of the own logic: a law that is a function of data, as a row. -/
import Derived.Test.YtdghdcclhnoigaaGreatDoorXSxZb
import Derived.ChangeSame
import Derived.ChangeVars
import Derived.JoinedOf
import Derived.RowKit
import Derived.WideKeyArgs
import Derived.Below
import Derived.Handed
set_option linter.unusedVariables false
set_option linter.unusedSimpArgs false
namespace Go.Sx
open Go
def ATy.ok : (a : ATy) → a.El → Prop
  | .val t => t.ok
  | .agg row => Els.ok row
def AEls.ok : (l : List ATy) → AEls l → Prop
  | [] => fun _ => True
  | [a] => a.ok
  | a :: a' :: l => fun x => a.ok x.1 ∧ AEls.ok (a' :: l) x.2
def atyK (P : Program) (t : TypeId) : Option ATy := match P.underlying t with
  | some (.struct _) => match rowK P 12 t with
    | some r => some (.agg r)
    | none => none
  | some (.array _ _) => match rowK P 12 t with
    | some r => some (.agg r)
    | none => none
  | some _ => match rowK P 12 t with
    | some [ty] => some (.val ty)
    | _ => none
  | none => none
def atysK (P : Program) : List TypeId → Option (List ATy)
  | [] => some []
  | t :: ts => match atyK P t with
    | none => none
    | some a => match atysK P ts with
      | none => none
      | some l => some (a :: l)
theorem agg_rep {w : World} {cs : List Value} {row : List Ty} {x : Els row} (h : RowRd w cs row x) : SRep (immOf w) noEnv (.agg cs.toArray) (SV.mkAgg ((rowPV row x).map .pv)) := by
  refine SRep.mkAgg (by rw [h.len, List.length_map, rowPV_length]) fun i v y hv hy => ?_
  simp only [List.getElem?_map, Option.map_eq_some_iff] at hy
  obtain ⟨p, hp, rfl⟩ := hy
  exact .pv (h.rep i v p hv hp)
section
variable {H : Type} {enc : TypeId × Value → H} {P : Program} {w : World} {sp : Nat → Bool} {held : Bool} {r : Reach} {b0 : Nat}
theorem arg_single {t : TypeId} {v : Value} {u : TypeDesc} (hu : P.underlying t = some u) (hs : u = .bool ∨ (∃ k, u = .int k) ∨ u = .string ∨ ∃ e, u = .slice e) (hval : Value.okWide P w r b0 t v) : v.cells.toList = [v] := by
  cases v with
  | agg cs => rcases hs with rfl | ⟨k, rfl⟩ | rfl | ⟨e, rfl⟩ <;> simp [Value.okWide, Cell.okWide, Cell.ok, hu] at hval
  | _ => rfl
theorem arg_row {t : TypeId} {a : ATy} {v : Value} {d : DataW H} {ps : List MemPlace} (hk : atyK P t = some a) (hval : Value.okWide P w r b0 t v) (hd : DataW.Trod enc P w 0 sp held t v d ps) (hw : ∀ x ∈ d.weights P t, x ≤ reachBytes) :
    ∃ x : a.El, SRep (immOf w) noEnv v (a.sv x) ∧ a.ok x := by
  obtain ⟨fuel, hf⟩ := hd
  unfold atyK at hk
  split at hk
  · rename_i fs hu
    split at hk
    · rename_i row hrow
      cases hk
      obtain ⟨x, hx⟩ := trod_row fuel 12 t _ d ps row hf hrow hw
      obtain ⟨cs, rfl, hsz⟩ : ∃ cs, v = .agg cs ∧ cs.size = P.cellsOf t := by
        simp only [Value.okWide, hu] at hval
        obtain ⟨cs, h1, h2, _⟩ := hval
        exact ⟨cs, h1, h2⟩
      have := agg_rep hx
      simp only [Value.cells, Array.toArray_toList] at this
      exact ⟨x, this, hx.ok⟩
    · cases hk
  · rename_i m e hu
    split at hk
    · rename_i row hrow
      cases hk
      obtain ⟨x, hx⟩ := trod_row fuel 12 t _ d ps row hf hrow hw
      obtain ⟨cs, rfl, hsz⟩ : ∃ cs, v = .agg cs ∧ cs.size = P.cellsOf t := by
        simp only [Value.okWide, hu] at hval
        obtain ⟨cs, h1, h2, _⟩ := hval
        exact ⟨cs, h1, h2⟩
      have := agg_rep hx
      simp only [Value.cells, Array.toArray_toList] at this
      exact ⟨x, this, hx.ok⟩
    · cases hk
  · rename_i u h1 h2 hu
    split at hk
    · rename_i ty hrow
      cases hk
      obtain ⟨x, hx⟩ := trod_row fuel 12 t _ d ps [ty] hf hrow hw
      have hs : u = .bool ∨ (∃ k, u = .int k) ∨ u = .string ∨ ∃ e, u = .slice e := by
        unfold rowK at hrow
        rw [hu] at hrow
        cases u with
        | bool => exact .inl rfl
        | int k => exact .inr (.inl ⟨k, rfl⟩)
        | string => exact .inr (.inr (.inl rfl))
        | slice e => exact .inr (.inr (.inr ⟨e, rfl⟩))
        | struct fs => exact (h1 fs rfl).elim
        | array m e => exact (h2 m e rfl).elim
        | _ => simp at hrow
      rw [arg_single hu hs hval] at hx
      exact ⟨x, .pv (hx.rep 0 v _ rfl rfl), hx.ok⟩
    · cases hk
  · cases hk
theorem args_rows : ∀ {ts : List TypeId} {vs : List Value} {ds : List (DataW H)} {ps : List MemPlace} {ats : List ATy}, DataW.TrodAll enc P w 0 sp held ts vs ds ps → atysK P ts = some ats →
    (∀ (j : Nat) t v, ts[j]? = some t → vs[j]? = some v → Value.okWide P w r b0 t v) → (∀ x ∈ DataW.weightsEach P ts ds, x ≤ reachBytes) → ∃ a : AEls ats, Reps (immOf w) noEnv vs (svs ats a) ∧ AEls.ok ats a
  | [], vs, ds, ps, ats, h, hk, hval, hw => by
    simp only [atysK, Option.some.injEq] at hk
    subst hk
    cases vs <;> cases ds <;> simp [DataW.TrodAll] at h
    exact ⟨(), ⟨rfl, fun i v x hv => by simp at hv⟩, trivial⟩
  | t :: ts, vs, ds, ps, ats, h, hk, hval, hw => by
    obtain ⟨v, vs', d, ds', p, q, rfl, rfl, rfl, h1, h2⟩ := ChangeShapes.trodAll_cons h
    simp only [atysK] at hk
    split at hk
    · cases hk
    · rename_i a ha
      split at hk
      · cases hk
      · rename_i l hl
        cases hk
        simp only [DataW.weightsEach, List.mem_append] at hw
        obtain ⟨x, hx, hxo⟩ := arg_row ha (hval 0 t v rfl rfl) h1 fun y hy => hw y (.inl hy)
        obtain ⟨y, hy, hyo⟩ := args_rows h2 hl (fun j t' v' h1 h2 => hval (j + 1) t' v' (by simpa using h1) (by simpa using h2)) fun y hy => hw y (.inr hy)
        have cons : ∀ (i : Nat) (u : Value) (z : SV) (zs : List SV), zs = svs l y → (v :: vs')[i]? = some u → (a.sv x :: zs)[i]? = some z → SRep (immOf w) noEnv u z := fun i u z zs e hu hz => by
          subst e
          cases i with
          | zero => simp at hu hz; subst hu; subst hz; exact hx
          | succ i => exact hy.2 i u z (by simpa using hu) (by simpa using hz)
        have hlen : vs'.length = (svs l y).length := hy.1
        match l, y, hyo, cons, hlen with
        | [], y, hyo, cons, hlen => exact ⟨x, ⟨by simpa [svs] using hlen, fun i u z hu hz => cons i u z _ rfl hu hz⟩, hxo⟩
        | b :: l, y, hyo, cons, hlen => exact ⟨(x, y), ⟨by simp [svs, hlen], fun i u z hu hz => cons i u z _ rfl hu hz⟩, ⟨hxo, hyo⟩⟩
end
end Go.Sx

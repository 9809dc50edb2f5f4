/- Part Zb of the own logic: what is read as data is data of one kind. -/
import Derived.Test.YtdghdcclhnoigaaGreatDoorXSxZa
set_option linter.unusedVariables false
set_option linter.unusedSimpArgs false
namespace Go.Sx
open Go
variable {H : Type} {enc : TypeId × Value → H} {P : Program} {w : World} {sp : Nat → Bool} {held : Bool}
theorem exists_list {α : Type} {Q : Nat → α → Prop} : ∀ (n : Nat), (∀ i, i < n → ∃ x, Q i x) → ∃ l : List α, l.length = n ∧ ∀ (i : Nat) (x : α), l[i]? = some x → Q i x
  | 0, _ => ⟨[], rfl, fun i x h => by simp at h⟩
  | n + 1, h => by
    obtain ⟨l, h1, h2⟩ := exists_list n fun i hi => h i (by omega)
    obtain ⟨x, hx⟩ := h n (by omega)
    refine ⟨l ++ [x], by simp [h1], fun i y hy => ?_⟩
    rw [List.getElem?_append] at hy
    split at hy
    · exact h2 i y hy
    · rename_i hi
      have : i = n := by
        have := (List.getElem?_eq_some_iff.1 hy).1
        simp at this; omega
      subst this
      simp [h1] at hy
      rw [← hy]; exact hx
theorem weightsAll_mem {e : TypeId} : ∀ {l : List (DataW H)} {d : DataW H} {x : Nat}, d ∈ l → x ∈ d.weights P e → x ∈ DataW.weightsAll P e l
  | [], d, x, h, _ => by cases h
  | y :: l, d, x, h, hx => by
    simp only [DataW.weightsAll, List.mem_append]
    rcases List.mem_cons.1 h with rfl | h
    · exact .inl hx
    · exact .inr (weightsAll_mem h hx)
theorem add_block (a : Addr) (n : Nat) : (a.add n).block = a.block := by
  unfold Addr.add; split <;> rfl
theorem add_off (a : Addr) (n : Nat) : (a.add n).off = a.off + n := by
  unfold Addr.add; split
  · rename_i h; subst h; rfl
  · rfl
theorem fields_row {cs : List Value} {fuel : Nat} {k : TypeId → Option (List Ty)}
    (ih : ∀ (t : TypeId) (cs : List Value) (d : DataW H) (ps : List MemPlace) (row : List Ty), DataW.trod enc P w 0 sp held fuel t cs = some (d, ps) → k t = some row → (∀ x ∈ d.weights P t, x ≤ reachBytes) → ∃ x : Els row, RowRd w cs row x) :
    ∀ (fs : List Field) (off : Nat) (row : List Ty) (xs : List (DataW H × List MemPlace)),
      fs.mapM (fun f => DataW.trod enc P w 0 sp held fuel f.type ((cs.drop f.offset).take (P.cellsOf f.type))) = some xs → rowFs P k fs off = some row →
      (∀ x ∈ DataW.weightsEach P (fs.map (·.type)) (xs.map (·.1)), x ≤ reachBytes) → ∃ x : Els row, RowRd w ((cs.drop off).take row.length) row x
  | [], off, row, xs, h, hr, hw => by
    simp only [rowFs, Option.some.injEq] at hr
    subst hr
    exact ⟨(), by simpa using RowRd.nil w⟩
  | f :: fs, off, row, xs, h, hr, hw => by
    simp only [rowFs] at hr
    split at hr
    · cases hr
    · rename_i e1
      split at hr
      · cases hr
      · rename_i r e2
        split at hr
        · cases hr
        · rename_i e3
          split at hr
          · cases hr
          · rename_i rs e4
            cases hr
            have e1 := of_decide_eq_true e1
            have e3 := of_decide_eq_true e3
            rw [List.mapM_cons] at h
            cases hf : DataW.trod enc P w 0 sp held fuel f.type ((cs.drop f.offset).take (P.cellsOf f.type)) with
            | none => rw [hf] at h; cases h
            | some p =>
              cases hl : fs.mapM (fun f => DataW.trod enc P w 0 sp held fuel f.type ((cs.drop f.offset).take (P.cellsOf f.type))) with
              | none => rw [hf, hl] at h; cases h
              | some ps =>
                rw [hf, hl] at h
                cases h
                simp only [List.map_cons, DataW.weightsEach, List.mem_append] at hw
                obtain ⟨x, hx⟩ := ih f.type _ p.1 p.2 r hf e2 fun y hy => hw y (.inl hy)
                obtain ⟨y, hy⟩ := fields_row ih fs (off + r.length) rs ps hl e4 fun y hy => hw y (.inr hy)
                refine ⟨Els.app r rs x y, ?_⟩
                have := hx.app hy
                rw [e1, ← e3] at this
                rw [List.length_append, List.take_add, List.drop_drop]
                exact this
theorem array_row {cs : List Value} {r : List Ty} {m : Nat} (h : ∀ i, i < m → ∃ x : Els r, RowRd w ((cs.drop (i * r.length)).take r.length) r x) :
    ∀ k, k ≤ m → ∃ x : Els (rowNs r k), RowRd w ((cs.drop ((m - k) * r.length)).take (k * r.length)) (rowNs r k) x
  | 0, _ => ⟨(show Els (rowNs r 0) from ()), by
      show RowRd w ((cs.drop _).take (0 * r.length)) [] ()
      rw [Nat.zero_mul, List.take_zero]; exact RowRd.nil w⟩
  | k + 1, hk => by
    obtain ⟨y, hy⟩ := array_row h k (by omega)
    obtain ⟨x, hx⟩ := h (m - (k + 1)) (by omega)
    refine ⟨Els.app r (rowNs r k) x y, ?_⟩
    have := hx.app hy
    have e : (m - k) * r.length = (m - (k + 1)) * r.length + r.length := by
      rw [show m - k = m - (k + 1) + 1 by omega, Nat.succ_mul]
    rw [e, ← List.drop_drop] at this
    rw [show (k + 1) * r.length = r.length + k * r.length by rw [Nat.succ_mul]; omega, List.take_add]
    exact this
theorem slice_row {r : List Ty} {c cap : Nat} {a : Addr} {n : Nat} (hc : r.length = c) (h0 : 0 < r.length) (hn : n ≤ cap) (l : List (Els r)) (hl : l.length = n)
    (h : ∀ (i : Nat) (x : Els r), l[i]? = some x → ∃ cs, w.cells? 0 (a.add (i * c)) c = some cs ∧ RowRd w cs r x) : PRep (immOf w) (.slice (some a) n cap) (.tsl r l) := by
  refine .tsl r l ?_
  by_cases hz : n = 0
  · subst hz
    have : l = [] := List.eq_nil_of_length_eq_zero hl
    subst this
    exact .remp a cap _
  · have cell : ∀ (i j : Nat) (x : Els r), l[i]? = some x → j < c → ∃ v, (immOf w).cell a.block (a.off + i * c + j) = some v ∧ isCell v = true ∧ a.add (i * c) = a.add (i * c) ∧ (∀ p, (rowPV r x)[j]? = some p → PRep (immOf w) v p) ∧ ((a.add (i * c)).add j).spot = none := fun i j x hx hj => by
      obtain ⟨cs, h1, h2⟩ := h i x hx
      obtain ⟨g1, g2⟩ := cells_spec h1
      obtain ⟨v, hv, hcell⟩ := g2 j hj
      obtain ⟨k1, k2⟩ := cell_imm hcell
      rw [add_block, add_block, add_off, add_off] at k2
      exact ⟨v, k2, h2.one v (List.mem_of_getElem? hv), rfl, fun p hp => h2.rep j v p hv hp, k1⟩
    have hspot : a.spot = none := by
      obtain ⟨x, hx⟩ : ∃ x, l[0]? = some x := ⟨l[0]'(by omega), by simp⟩
      obtain ⟨v, _, _, _, _, k⟩ := cell 0 0 x hx (by omega)
      simpa [Addr.add] using k
    obtain ⟨b, off, s⟩ := a
    cases hspot
    refine .rsl b off cap r.length n (rowsPV r l) (by simp [hl]) hn (fun i j hi hj => ?_) (fun i row j p v hrow hp hv => ?_) (fun i row hrow => ?_)
    · obtain ⟨x, hx⟩ : ∃ x, l[i]? = some x := ⟨l[i]'(by simpa using hi), by simp⟩
      obtain ⟨v, k1, k2, _⟩ := cell i j x hx (by omega)
      rw [← hc] at k1
      exact ⟨v, k1, k2⟩
    · simp only [List.getElem?_map, Option.map_eq_some_iff] at hrow
      obtain ⟨x, hx, rfl⟩ := hrow
      have hj : j < c := by
        have := (List.getElem?_eq_some_iff.1 hp).1
        rw [rowPV_length] at this; omega
      obtain ⟨v', k1, k2, _, k3, _⟩ := cell i j x hx hj
      rw [← hc] at k1
      rw [k1] at hv; cases hv
      exact k3 p hp
    · simp only [List.getElem?_map, Option.map_eq_some_iff] at hrow
      obtain ⟨x, hx, rfl⟩ := hrow
      rw [rowPV_length]
      exact Nat.le_refl _
theorem trod_row : ∀ (fuel n : Nat) (t : TypeId) (cs : List Value) (d : DataW H) (ps : List MemPlace) (row : List Ty), DataW.trod enc P w 0 sp held fuel t cs = some (d, ps) → rowK P n t = some row →
    (∀ x ∈ d.weights P t, x ≤ reachBytes) → ∃ x : Els row, RowRd w cs row x
  | 0, n, t, cs, d, ps, row, h, hr, hw => by simp [DataW.trod] at h
  | fuel + 1, 0, t, cs, d, ps, row, h, hr, hw => by simp [rowK] at hr
  | fuel + 1, n + 1, t, cs, d, ps, row, h, hr, hw => by
    have ih := trod_row fuel n
    unfold rowK at hr
    split at hr
    · rename_i hu
      cases hr
      obtain ⟨b, rfl, rfl⟩ : ∃ b, cs = [.bool b] ∧ d = .lit (.bool b) := by
        unfold DataW.trod at h; rw [hu] at h
        split at h <;> first | (cases h; done) | (rename_i heq; cases heq; done) | (cases h; exact ⟨_, rfl, rfl⟩)
      exact ⟨b, .single rfl (.lit _) trivial⟩
    · rename_i k hu
      cases hr
      obtain ⟨v, rfl, hv⟩ : ∃ v : Int, cs = [.int k v] ∧ (k.min ≤ v ∧ v ≤ k.max) := by
        unfold DataW.trod at h; rw [hu] at h
        split at h <;> first | (cases h; done) | (rename_i heq; cases heq; done) | skip
        · rename_i heq
          cases heq
          split at h
          · rename_i hk
            obtain ⟨rfl, hwf⟩ := hk
            simp only [Lit.wf, Bool.and_eq_true, decide_eq_true_eq] at hwf
            exact ⟨_, rfl, hwf⟩
          · cases h
      exact ⟨v, .single rfl (.lit _) hv⟩
    · rename_i hu
      cases hr
      obtain ⟨b, rfl, rfl⟩ : ∃ b, cs = [.string b] ∧ d = .lit (.string b.data.toList) := by
        unfold DataW.trod at h; rw [hu] at h
        split at h <;> first | (cases h; done) | (rename_i heq; cases heq; done) | skip
        · split at h
          · cases h; exact ⟨_, rfl, rfl⟩
          · cases h
      refine ⟨b, .single rfl (.lit _) ?_⟩
      have := hw b.data.toList.length (by simp [DataW.weights])
      simp only [reachBytes] at this
      simpa [strIn, Ty.ok] using this
    · rename_i e hu
      split at hr
      · cases hr
      · rename_i r hrk
        split at hr
        · rename_i hcond
          cases hr
          simp only [Bool.and_eq_true, decide_eq_true_eq] at hcond
          obtain ⟨hc, h0, hby⟩ := hcond
          have fin : ∀ (v : Value) (l : List (Els r)), PRep (immOf w) v (.tsl r l) → isCell v = true → l.length * rowBytes r ≤ 140737488351232 → (∀ x ∈ l, Els.ok r x) → ∃ x : Els [.seq r], RowRd w [v] [.seq r] x :=
            fun v l hp h1 h2 h3 => ⟨l, .single h1 hp ⟨h2, h3⟩⟩
          unfold DataW.trod at h; rw [hu] at h
          split at h <;> first | (cases h; done) | (rename_i heq; cases heq; done) | skip
          · exact fin _ [] (.tsl r [] (.rnil _)) rfl (by simp) (fun x hx => by cases hx)
          · rename_i a len cap heq
            cases heq
            simp only [] at h
            split at h
            · rename_i hlc
              obtain ⟨elems, he, h⟩ := Option.bind_eq_some_iff.1 h
              obtain ⟨rest, hre, h⟩ := Option.map_eq_some_iff.1 h
              cases h
              obtain ⟨g1, g2⟩ := mapM_some he
              have hwt : ∀ x ∈ DataW.weightsAll P e (elems.map (·.1)), x ≤ reachBytes := fun x hx => hw x (by
                simp only [DataW.weights, hu, List.mem_cons, List.mem_append]; exact .inr (.inl hx))
              have hlen : elems.length = len := by simpa using g1
              have elt : ∀ i, i < len → ∃ x : Els r, ∃ cs, w.cells? 0 (a.add (i * P.cellsOf e)) (P.cellsOf e) = some cs ∧ RowRd w cs r x := fun i hi => by
                obtain ⟨y, hy, hf⟩ := g2 i i (by simp [hi])
                obtain ⟨cs, h1, h2⟩ := Option.bind_eq_some_iff.1 hf
                obtain ⟨x, hx⟩ := ih e cs y.1 y.2 r h2 hrk fun z hz => hwt z (weightsAll_mem (List.mem_map.2 ⟨y, List.mem_of_getElem? hy, rfl⟩) hz)
                exact ⟨x, cs, h1, hx⟩
              obtain ⟨l, hl, hq⟩ := exists_list len elt
              have hbound := hw ((elems.map (·.1)).length + (rest.map (·.1)).length |> (· * P.bytesOf e)) (by simp only [DataW.weights, hu, List.mem_cons]; exact .inl trivial)
              simp only [List.length_map, reachBytes, hlen] at hbound
              refine fin _ l (slice_row hc h0 hlc.2.1 l hl hq) rfl ?_ (fun x hx => ?_)
              · rw [hl]
                refine Nat.le_trans (Nat.mul_le_mul_left _ hby) (Nat.le_trans (Nat.mul_le_mul_right _ (Nat.le_add_right _ _)) hbound)
              · obtain ⟨i, hi⟩ := List.getElem?_of_mem hx
                obtain ⟨cs, _, hrd⟩ := hq i x hi
                exact hrd.ok
            · cases h
        · cases hr
    · rename_i fs hu
      split at hr
      · cases hr
      · rename_i r hrk
        split at hr
        · rename_i hcond
          cases hr
          have hcond := of_decide_eq_true hcond
          unfold DataW.trod at h; rw [hu] at h
          split at h <;> first | (cases h; done) | (rename_i heq; cases heq; done) | skip
          · rename_i heq
            cases heq
            split at h
            · rename_i hl
              obtain ⟨xs, hx, h⟩ := Option.map_eq_some_iff.1 h
              cases h
              obtain ⟨x, hrd⟩ := fields_row ih fs.toList 0 row xs hx hrk fun y hy => hw y (by simp only [DataW.weights, hu]; exact hy)
              refine ⟨x, ?_⟩
              rw [List.drop_zero, List.take_of_length_le (by omega)] at hrd
              exact hrd
            · cases h
          · exact (‹∀ fs' : Array Field, some (TypeDesc.struct fs) = some (TypeDesc.struct fs') → False› fs rfl).elim
        · cases hr
    · rename_i m e hu
      split at hr
      · cases hr
      · rename_i r hrk
        split at hr
        · rename_i hcond
          cases hr
          simp only [Bool.and_eq_true, decide_eq_true_eq] at hcond
          unfold DataW.trod at h; rw [hu] at h
          split at h <;> first | (cases h; done) | (rename_i heq; cases heq; done) | skip
          · rename_i heq
            cases heq
            split at h
            · rename_i hl
              obtain ⟨xs, hx, h⟩ := Option.map_eq_some_iff.1 h
              cases h
              obtain ⟨g1, g2⟩ := mapM_some hx
              have hwt : ∀ x ∈ DataW.weightsAll P e (xs.map (·.1)), x ≤ reachBytes := fun x hx => hw x (by simp only [DataW.weights, hu]; exact hx)
              obtain ⟨x, hrd⟩ := array_row (w := w) (cs := _) (r := r) (m := m) (fun i hi => by
                obtain ⟨y, hy, hf⟩ := g2 i i (by simp [hi])
                rw [← hcond.1] at hf
                exact ih e _ y.1 y.2 r hf hrk fun z hz => hwt z (weightsAll_mem (List.mem_map.2 ⟨y, List.mem_of_getElem? hy, rfl⟩) hz)) m (Nat.le_refl _)
              refine ⟨x, ?_⟩
              rw [Nat.sub_self, Nat.zero_mul, List.drop_zero, List.take_of_length_le (by omega)] at hrd
              exact hrd
            · cases h
          · exact (‹∀ (n : Nat) (e' : TypeId), some (TypeDesc.array m e) = some (TypeDesc.array n e') → False› m e rfl).elim
        · cases hr
    · cases hr
end Go.Sx

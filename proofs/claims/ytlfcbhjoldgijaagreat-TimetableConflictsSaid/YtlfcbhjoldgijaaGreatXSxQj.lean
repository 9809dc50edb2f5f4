/- A summary for slices.Delete on an owned row of integers, by the library's contract for it. -/
import Derived.Test.YtlfcbhjoldgijaaGreatXSxQh
import Derived.Shelf.Slices.Delete
set_option linter.unusedVariables false
set_option linter.unusedSimpArgs false
namespace Go.Sx
open Go
def delSm : Sm where
  pre := fun args H => match args with
    | [.sl d _ _ _, .pv (.lit (.int .i64 _)), .pv (.lit (.int .i64 _))] => match H[d]? with
      | some (.tvec _ [.int .i64] _) => true
      | _ => false
    | _ => false
  run := fun X args H k => match args with
    | [.sl d sz st n, .pv (.lit (.int .i64 i)), .pv (.lit (.int .i64 j))] => match H[d]? with
      | some (.tvec ty [.int .i64] l) => gd (Nat.beq sz 1 && (Nat.beq st 0 && (decide (n = l.length) && (decide (0 < n) && (decide (0 ≤ i) && (decide (i ≤ j) && decide (j.toNat ≤ n)))))))
          (k (.sl d 1 0 (l.take i.toNat ++ l.drop j.toNat).length) ((H.map (SObj.forget [d])).set d (.tvec ty [.int .i64] (l.take i.toNat ++ l.drop j.toNat))) [d] [d])
      | _ => none
    | _ => none
theorem putCells_get {α : Type} [Inhabited α] (enc : α → Value) (d : Array α) (c : Array Value) (k : Nat) (h : k < c.size) : (Sort.putCells enc 0 d c)[k]? = some (if k < d.size then enc d[k]! else c[k]) := by
  unfold Sort.putCells
  rw [Array.getElem?_mapIdx, Array.getElem?_eq_getElem h]
  simp
theorem rI_len (l : List Int) : (rowsPV [Ty.int IntKind.i64] l).length = l.length := by
  unfold rowsPV
  exact List.length_map _
theorem rI_cell (s : Nat) : ∀ (l : List Int) (q : Nat), vcell (rowsPV [Ty.int IntKind.i64] l) q s = if s = 0 then (l[q]?).map (fun z => SV.pv (.lit (.int .i64 z))) else none
  | [], q => by
    cases s <;> rfl
  | z :: l, 0 => by
    cases s with
    | zero => rfl
    | succ s => rfl
  | z :: l, q + 1 => rI_cell s l q
theorem del_call {P : Program} {ρ0 : Shelf.Ren} {g : Nat} (hg : ρ0.f 23 = g) (L : Proofs.Lays2.n23 P ρ0) {H : List SObj} {d n ty : Nat} {l : List Int} (ho : H[d]? = some (.tvec ty [.int .i64] l)) {i' j' : Nat} (h3 : n = l.length) (h4 : 0 < n) (h6 : i' ≤ j') (h7 : j' ≤ n) :
    SCall P g [.sl d 1 0 n, .pv (.lit (.int .i64 (i' : Int))), .pv (.lit (.int .i64 (j' : Int)))] H fun x H' t f => x = .sl d 1 0 (l.take i' ++ l.drop j').length ∧ H' = (H.map (SObj.forget [d])).set d (.tvec ty [.int .i64] (l.take i' ++ l.drop j')) ∧ t = [d] ∧ f = [d] := by
  intro M ρ w vs hm hr
  obtain ⟨hr1, hr2⟩ := hr
  match vs, hr1 with
  | [v0, v1, v2], _ =>
    have r0 := hr2 0 v0 _ rfl rfl
    have r1 := (hr2 1 v1 _ rfl rfl).lit_eq
    have r2 := (hr2 2 v2 _ rfl rfl).lit_eq
    subst r1; subst r2
    cases r0 with
    | slz => omega
    | sl _ _ _ _ c kk p hp hkk hcc hn hc6 =>
      have hown := hm.own d _ ho
      rcases hown with ⟨hx, _⟩ | ⟨p', hp', hrow⟩
      · rw [hx] at hp; cases hp
      · rw [hp] at hp'
        cases hp'
        obtain ⟨cs, a1, a2, a3, a4, a5, a6⟩ := hrow.ex
        have hk0 : kk = 0 := by simpa using hkk
        subst hk0
        have hll := rI_len l
        rw [hll] at a3 a4
        have hl1 : ([Ty.int IntKind.i64] : List Ty).length = 1 := rfl
        rw [hl1] at a3
        have hcs : ∀ q (h : q < l.length), cs[q]? = some (.int .i64 l[q]) := by
          intro q hq
          obtain ⟨v, e1, e2⟩ := a4 q 0 hq (by simp)
          have e1' : cs[q]? = some v := by simpa using e1
          have hcell : vcell (rowsPV [Ty.int IntKind.i64] l) q 0 = some (.pv (.lit (.int .i64 l[q]))) := by
                rw [rI_cell, if_pos rfl, List.getElem?_eq_getElem hq]; rfl
          have e3 := (a5 q 0 _ v hcell e1).2.2.lit_eq
          rw [e1', e3]
        have hH : Sort.Holds (Value.int .i64) w p.block 0 l.toArray := by
          intro q hq
          have hq' : q < l.length := by simpa only [List.size_toArray] using hq
          refine ⟨?_, ?_⟩
          · have e := hcs q hq'
            simp only [World.cell?, a1, Nat.zero_add]
            rw [e]
            simp [hq']
          · simp [World.frozen?, a1]
        have hcall := Proofs.Any.slices_Delete_int L p.block 0 c i' j' l w hH (by omega) hc6 (by omega) (by omega)
        rw [hg] at hcall
        refine (callsIn_wide.2 ?_)
        have ev : ([Value.slice (some ⟨p.block, 0, none⟩) n c, Value.int .i64 (i' : Int), Value.int .i64 (j' : Int)] : List Value).toArray = #[.slice (some ⟨p.block, 0, none⟩) l.length c, .int .i64 i', .int .i64 j'] := by rw [h3]
        rw [ev]
        refine hcall.mono ?_
        rintro e w' ⟨rfl, q, rfl⟩
        generalize hD : (l.take i' ++ l.drop j' ++ List.replicate (j' - i') 0).toArray = D
        have hDs : D.size = l.length := by rw [← hD]; simp; omega
        have hnl : (l.take i' ++ l.drop j').length = l.length - (j' - i') := by simp; omega
        have hget : ∀ q (h : q < (l.take i' ++ l.drop j').length), D[q]! = (l.take i' ++ l.drop j')[q] := by
          intro q hq
          rw [getElem!_pos D q (by omega)]
          subst hD
          simp only [List.getElem_toArray]
          rw [List.getElem_append_left hq]
        have hheap : (Sort.putRow (Value.int .i64) (Sort.ahead w q) p.block 0 D).heap[p.block]? = some (.cells (Sort.putCells (Value.int .i64) 0 D cs) ty (0, 0)) := by
          simp [Sort.putRow, Sort.mapBlock, Sort.ahead, Array.getElem?_modify, a1, Sort.onCells]
        have hsz : (Sort.putCells (Value.int .i64) 0 D cs).size = cs.size := by simp [Sort.putCells]
        have hos : OwnAt M (ρ.set d (some p)) (Sort.putRow (Value.int .i64) (Sort.ahead w q) p.block 0 D) d (.tvec ty [.int .i64] (l.take i' ++ l.drop j')) := by
          refine .inr ⟨p, Env.set_self .., ⟨_, hheap, by rw [hsz]; exact a2, ?_, ?_, ?_, ?_⟩⟩
          · rw [rI_len, hl1]; omega
          · intro r s hr hs
            have hr' : r < (l.take i' ++ l.drop j').length := by rw [rI_len] at hr; exact hr
            have hs' : s = 0 := by simp at hs; exact hs
            subst hs'
            refine ⟨Value.int .i64 D[r]!, ?_, ?_⟩
            · rw [hl1, Nat.mul_one, Nat.add_zero, putCells_get _ _ _ _ (by omega), if_pos (by omega)]
            · rfl
          · intro r s x v hx hv
            rw [rI_cell] at hx
            split at hx
            · rename_i hs0
              subst hs0
              cases hq : (l.take i' ++ l.drop j')[r]? with
              | none => rw [hq] at hx; cases hx
              | some z =>
                have hr' := (List.getElem?_eq_some_iff.1 hq).1
                rw [hq] at hx
                cases hx
                refine ⟨by rw [rI_len]; exact hr', by simp, ?_⟩
                rw [hl1, Nat.mul_one, Nat.add_zero, putCells_get _ _ _ _ (by omega), if_pos (by omega), hget r hr'] at hv
                have hz : (l.take i' ++ l.drop j')[r] = z := (List.getElem?_eq_some_iff.1 hq).2
                rw [hz] at hv
                cases hv
                exact .pv (.lit _)
            · cases hx
          · intro r s x hx
            rw [rI_cell] at hx
            split at hx
            · rename_i hs0
              subst hs0
              cases hq : (l.take i' ++ l.drop j')[r]? with
              | none => rw [hq] at hx; cases hx
              | some z => exact ⟨by rw [rI_len]; exact (List.getElem?_eq_some_iff.1 hq).1, by simp⟩
            · cases hx
        obtain ⟨g1, g2⟩ := hm.redo (q := some p) (w' := Sort.putRow (Value.int .i64) (Sort.ahead w q) p.block 0 D) ho rfl rfl (fun b hb hbp => by
            have : p.block ≠ b := fun e => hbp p hp e.symm
            simp [Sort.putRow, Sort.mapBlock, Sort.ahead, Array.getElem?_modify, this]) (by simp [Sort.putRow, Sort.mapBlock, Sort.ahead]) (fun p' hp' => by cases hp'; exact .inr ⟨p, hp, rfl⟩) hos
        refine ⟨_, _, _, _, _, [d], [d], rfl, ⟨rfl, rfl, rfl, rfl⟩, ?_, g1, g2⟩
        rw [← hnl]
        refine .sl _ _ 0 _ c 0 p (Env.set_self ..) (by simp) hcc ?_ hc6
        rw [hnl]; omega
theorem delSm_ok {cx : Cx} {ρ0 : Shelf.Ren} {g : Nat} (hg : ρ0.f 23 = g) (hf : ∃ fn, cx.fns.lookup g = some fn) (L : Proofs.Lays2.n23 cx.P ρ0) : SmOk cx g delSm := by
  refine ⟨hf, fun X args H k y hk => ?_⟩
  simp only [delSm] at hk
  split at hk
  · rename_i d sz st n i j
    split at hk
    · rename_i ty l ho
      obtain ⟨hc, hk2⟩ := gd_some hk
      simp only [Bool.and_eq_true, decide_eq_true_eq] at hc
      obtain ⟨h1, h2, h3, h4, h5, h6, h7⟩ := hc
      have h1 := Nat.eq_of_beq_eq_true h1
      have h2 := Nat.eq_of_beq_eq_true h2
      subst h1; subst h2
      obtain ⟨i', rfl⟩ : ∃ i' : Nat, i = i' := ⟨i.toNat, by omega⟩
      obtain ⟨j', rfl⟩ : ∃ j' : Nat, j = j' := ⟨j.toNat, by omega⟩
      simp only [Int.toNat_natCast] at hk2 h7
      refine (del_call hg L (l := l) ho h3 h4 (by omega) h7).mono ?_
      rintro x H' t f ⟨rfl, rfl, rfl, rfl⟩
      exact hk2
    · cases hk
  · cases hk
end Go.Sx

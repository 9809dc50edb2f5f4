/- Plain lemmas: stable sorting, as a property. Plain lemmas: the library's stable sort, as a function of data, sorts stably. And further parts. -/
import Derived.Test.YtlfcbhjoldgijaaGreatXSxQh
import Derived.Shelf.Slices.Delete
set_option linter.unusedVariables false
set_option linter.unusedSimpArgs false
set_option maxRecDepth 100000
set_option maxHeartbeats 1000000
namespace Go.Sx
open Go
structure LtOn {α : Type} (lt : α → α → Bool) (D : α → Prop) : Prop where
  asym : ∀ x y, D x → D y → lt x y = true → lt y x = false
  neg : ∀ x y z, D x → D y → D z → lt x z = true → lt x y = true ∨ lt y z = true
theorem LtOn.mono {α : Type} {lt : α → α → Bool} {D E : α → Prop} (h : LtOn lt D) (hm : ∀ x, E x → D x) : LtOn lt E := ⟨fun x y hx hy => h.asym x y (hm x hx) (hm y hy), fun x y z hx hy hz => h.neg x y z (hm x hx) (hm y hy) (hm z hz)⟩
def leB {α : Type} (lt : α → α → Bool) (x y : α) : Prop := lt y x = false
def eqvB {α : Type} (lt : α → α → Bool) (x y : α) : Bool := !lt x y && !lt y x
theorem LtOn.le_trans {α : Type} {lt : α → α → Bool} {D : α → Prop} (h : LtOn lt D) {x y z : α} (hx : D x) (hy : D y) (hz : D z) (h1 : leB lt x y) (h2 : leB lt y z) : leB lt x z := by
  unfold leB at *
  cases e : lt z x with
  | false => rfl
  | true => rcases h.neg z y x hz hy hx e with h3 | h3 <;> simp_all
theorem LtOn.le_of_lt {α : Type} {lt : α → α → Bool} {D : α → Prop} (h : LtOn lt D) {x y : α} (hx : D x) (hy : D y) (h1 : lt x y = true) : leB lt x y := h.asym x y hx hy h1
def StabS {α : Type} (lt : α → α → Bool) (l d : List α) : Prop := d.Perm l ∧ d.Pairwise (leB lt) ∧ ∀ x ∈ l, d.filter (eqvB lt x) = l.filter (eqvB lt x)
theorem StabS.mem {α : Type} {lt : α → α → Bool} {l d : List α} (h : StabS lt l d) {x : α} : x ∈ d ↔ x ∈ l := h.1.mem_iff
theorem StabS.len {α : Type} {lt : α → α → Bool} {l d : List α} (h : StabS lt l d) : d.length = l.length := h.1.length_eq
theorem StabS.nil {α : Type} {lt : α → α → Bool} : StabS lt ([] : List α) [] := ⟨.refl _, .nil, fun _ h => by cases h⟩
theorem StabS.self {α : Type} {lt : α → α → Bool} {l : List α} (h : l.Pairwise (leB lt)) : StabS lt l l := ⟨.refl _, h, fun _ _ => rfl⟩
theorem StabS.trans {α : Type} {lt : α → α → Bool} {l m d : List α} (h1 : StabS lt l m) (h2 : StabS lt m d) : StabS lt l d :=
  ⟨h2.1.trans h1.1, h2.2.1, fun x hx => (h2.2.2 x (h1.mem.2 hx)).trans (h1.2.2 x hx)⟩
theorem StabS.filt {α : Type} {lt : α → α → Bool} {D : α → Prop} (h : LtOn lt D) {l d : List α} (hD : ∀ x ∈ l, D x) (h1 : StabS lt l d) {x : α} (hxD : D x) : d.filter (eqvB lt x) = l.filter (eqvB lt x) := by
  by_cases e : ∃ z ∈ l, eqvB lt x z = true
  · obtain ⟨z, hz, e⟩ := e
    have hzD : D z := hD z hz
    have hq : ∀ y ∈ l, eqvB lt x y = eqvB lt z y := fun y hy => by
      have hyD : D y := hD y hy
      simp only [eqvB, Bool.and_eq_true, Bool.not_eq_true'] at e ⊢
      obtain ⟨e1, e2⟩ := e
      rw [Bool.eq_iff_iff]
      simp only [Bool.and_eq_true, Bool.not_eq_true']
      exact ⟨fun ⟨g1, g2⟩ => ⟨h.le_trans hyD hxD hzD g1 e2, h.le_trans hzD hxD hyD e1 g2⟩, fun ⟨g1, g2⟩ => ⟨h.le_trans hyD hzD hxD g1 e1, h.le_trans hxD hzD hyD e2 g2⟩⟩
    rw [List.filter_congr hq, List.filter_congr fun y hy => hq y (h1.mem.1 hy)]
    exact h1.2.2 z hz
  · have e' : ∀ z ∈ l, ¬ eqvB lt x z = true := fun z hz he => e ⟨z, hz, he⟩
    rw [List.filter_eq_nil_iff.2 e', List.filter_eq_nil_iff.2 fun z hz => e' z (h1.mem.1 hz)]
theorem StabS.pre {α : Type} {lt : α → α → Bool} {l m d : List α} (hp : m.Perm l) (hf : ∀ x ∈ l, m.filter (eqvB lt x) = l.filter (eqvB lt x)) (h : StabS lt m d) : StabS lt l d :=
  ⟨h.1.trans hp, h.2.1, fun x hx => (h.2.2 x (hp.mem_iff.2 hx)).trans (hf x hx)⟩
theorem StabS.both {α : Type} {lt : α → α → Bool} {D : α → Prop} (h : LtOn lt D) {l1 l2 d1 d2 d : List α} (hD : ∀ x ∈ l1 ++ l2, D x) (h1 : StabS lt l1 d1) (h2 : StabS lt l2 d2) (hd : StabS lt (d1 ++ d2) d) : StabS lt (l1 ++ l2) d :=
  .pre (h1.1.append h2.1) (fun x hx => by
    rw [List.filter_append, List.filter_append, h1.filt h (fun y hy => hD y (by simp [hy])) (hD x hx), h2.filt h (fun y hy => hD y (by simp [hy])) (hD x hx)]) hd
theorem StabS.join {α : Type} {lt : α → α → Bool} {D : α → Prop} (h : LtOn lt D) {A1 A2 B1 B2 L1 L2 : List α} (hD : ∀ x ∈ A1 ++ A2 ++ (B1 ++ B2), D x) (h1 : StabS lt (A1 ++ B1) L1) (h2 : StabS lt (A2 ++ B2) L2)
    (hlt : ∀ b ∈ B1, ∀ a ∈ A2, lt b a = true) (hle : ∀ x ∈ A1 ++ B1, ∀ y ∈ A2 ++ B2, leB lt x y) : StabS lt (A1 ++ A2 ++ (B1 ++ B2)) (L1 ++ L2) := by
  refine ⟨?_, ?_, ?_⟩
  · refine (h1.1.append h2.1).trans ?_
    rw [List.append_assoc, List.append_assoc]
    refine List.Perm.append_left A1 ?_
    rw [← List.append_assoc, ← List.append_assoc]
    exact List.Perm.append_right B2 List.perm_append_comm
  · rw [List.pairwise_append]
    exact ⟨h1.2.1, h2.2.1, fun x hx y hy => hle x (h1.mem.1 hx) y (h2.mem.1 hy)⟩
  · intro x hx
    have hxD := hD x hx
    have f1 := h1.filt h (fun y hy => hD y (by simp only [List.mem_append] at hy ⊢; rcases hy with hy | hy <;> simp [hy])) hxD
    have f2 := h2.filt h (fun y hy => hD y (by simp only [List.mem_append] at hy ⊢; rcases hy with hy | hy <;> simp [hy])) hxD
    rw [List.filter_append, f1, f2]
    simp only [List.filter_append]
    have hc : A2.filter (eqvB lt x) ++ B1.filter (eqvB lt x) = B1.filter (eqvB lt x) ++ A2.filter (eqvB lt x) := by
      by_cases e : ∃ a ∈ A2, eqvB lt x a = true
      · obtain ⟨a, ha, ea⟩ := e
        have : B1.filter (eqvB lt x) = [] := List.filter_eq_nil_iff.2 fun b hb eb => by
          have haD : D a := hD a (by simp [ha])
          have hbD : D b := hD b (by simp [hb])
          simp only [eqvB, Bool.and_eq_true, Bool.not_eq_true'] at ea eb
          rcases h.neg b x a hbD hxD haD (hlt b hb a ha) with g | g
          · rw [eb.2] at g; cases g
          · rw [ea.1] at g; cases g
        simp [this]
      · have : A2.filter (eqvB lt x) = [] := List.filter_eq_nil_iff.2 fun a ha ea => e ⟨a, ha, ea⟩
        simp [this]
    rw [List.append_assoc, List.append_assoc, ← List.append_assoc (List.filter _ A2), hc, List.append_assoc]
theorem StabS.put {α : Type} {lt : α → α → Bool} {D : α → Prop} (h : LtOn lt D) {S1 S2 : List α} {x : α} (hD : ∀ y ∈ S1 ++ S2 ++ [x], D y) (hs : (S1 ++ S2).Pairwise (leB lt)) (h1 : ∀ y ∈ S1, leB lt y x) (h2 : ∀ y ∈ S2, lt x y = true) :
    StabS lt (S1 ++ S2 ++ [x]) (S1 ++ x :: S2) := by
  rw [List.pairwise_append] at hs
  have hxD : D x := hD x (by simp)
  have := StabS.join h (A1 := S1) (A2 := S2) (B1 := [x]) (B2 := []) (L1 := S1 ++ [x]) (L2 := S2) (by simpa using hD)
    (.self (by rw [List.pairwise_append]; exact ⟨hs.1, by simp, fun a ha b hb => by rw [List.mem_singleton.1 hb]; exact h1 a ha⟩)) (by simpa using StabS.self hs.2.1)
    (fun b hb a ha => by rw [List.mem_singleton.1 hb]; exact h2 a ha)
    (fun a ha b hb => by
      have hb : b ∈ S2 := by simpa using hb
      rcases List.mem_append.1 ha with ha | ha
      · exact hs.2.2 a ha b hb
      · rw [List.mem_singleton.1 ha]
        exact h.le_of_lt hxD (hD b (by simp [hb])) (h2 b hb))
  simpa using this
inductive BlkS {α : Type} (lt : α → α → Bool) (n : Nat) : List α → List α → Prop where
  | last {l d : List α} (h : StabS lt l d) (hl : l.length ≤ n) : BlkS lt n l d
  | cons {l d l' d' : List α} (h : StabS lt l d) (hl : l.length = n) (t : BlkS lt n l' d') : BlkS lt n (l ++ l') (d ++ d')
inductive BlkF {α : Type} (lt : α → α → Bool) (n : Nat) : List α → List α → Prop where
  | nil : BlkF lt n [] []
  | snoc {l d l' d' : List α} (t : BlkF lt n l d) (h : StabS lt l' d') (hl : l'.length = n) : BlkF lt n (l ++ l') (d ++ d')
theorem BlkF.join {α : Type} {lt : α → α → Bool} {n : Nat} {l d l' d' : List α} (h : BlkF lt n l d) : BlkS lt n l' d' → BlkS lt n (l ++ l') (d ++ d') := by
  induction h generalizing l' d' with
  | nil => intro h; simpa using h
  | snoc t h hl ih =>
    intro h'
    rw [List.append_assoc, List.append_assoc]
    exact ih (.cons h hl h')
theorem BlkS.len {α : Type} {lt : α → α → Bool} {n : Nat} {l d : List α} (h : BlkS lt n l d) : d.length = l.length := by
  induction h with
  | last h _ => exact h.len
  | cons h _ _ ih => simp [h.len, ih]
theorem BlkF.len {α : Type} {lt : α → α → Bool} {n : Nat} {l d : List α} (h : BlkF lt n l d) : d.length = l.length := by
  induction h with
  | nil => rfl
  | snoc t h hl ih => simp [h.len, ih]
theorem BlkS.head {α : Type} {lt : α → α → Bool} {n : Nat} {l d : List α} (h : BlkS lt n l d) (hn : n ≤ l.length) : ∃ l1 l2 d1 d2, l = l1 ++ l2 ∧ d = d1 ++ d2 ∧ l1.length = n ∧ StabS lt l1 d1 ∧ BlkS lt n l2 d2 := by
  cases h with
  | last h hl => exact ⟨l, [], d, [], by simp, by simp, by omega, h, .last .nil (by simp)⟩
  | cons h hl t => exact ⟨_, _, _, _, rfl, rfl, hl, h, t⟩
end Go.Sx
section
namespace Go.Sx
open Go
variable {α E β : Type}
def swapG (n : Nat) (d : α) (l : List α) (i j : Int) (k : List α → Option β) : Option β :=
  gd (decide ((0 : Int) ≤ j)) (gd (decide (j < (n : Int))) (gd (decide ((0 : Nat) + Int.toNat j < List.length l)) (gd (decide ((0 : Int) ≤ i)) (gd (decide (i < (n : Int))) (gd (decide ((0 : Nat) + Int.toNat i < List.length l))
  (gd (decide ((0 : Int) ≤ i)) (gd (decide (i < (n : Int))) (gd (decide ((0 : Nat) + Int.toNat i < List.length l)) (gd (decide ((0 : Int) ≤ j)) (gd (decide (j < (n : Int))) (gd (decide ((0 : Nat) + Int.toNat j < List.length (List.set l ((0 : Nat) + Int.toNat i) (List.getD l ((0 : Nat) + Int.toNat j) d))))
  (k (List.set (List.set l ((0 : Nat) + Int.toNat i) (List.getD l ((0 : Nat) + Int.toNat j) d)) ((0 : Nat) + Int.toNat j) (List.getD l ((0 : Nat) + Int.toNat i) d))))))))))))))
def cmpG (cmp : α × α × E → Option Int) (e : E) (n : Nat) (d : α) (l : List α) (i j : Int) (k : Int → Option β) : Option β :=
  gd (decide ((0 : Int) ≤ i)) (gd (decide (i < (n : Int))) (gd (decide ((0 : Nat) + Int.toNat i < List.length l)) (gd (decide ((0 : Int) ≤ j)) (gd (decide (j < (n : Int))) (gd (decide ((0 : Nat) + Int.toNat j < List.length l))
  (Option.bind (cmp (List.getD l ((0 : Nat) + Int.toNat i) d, List.getD l ((0 : Nat) + Int.toNat j) d, e)) k))))))
def insI (cmp : α × α × E → Option Int) (e : E) (n : Nat) (d : α) (a : Int) (v33 : List α × Int) : Option (List α × Int ⊕ List α) :=
  Option.bind (bif decide (a < v33.2) then cmpG cmp e n d v33.1 v33.2 (w64 (v33.2 - (1 : Int))) (fun v35 => some (decide (v35 < (0 : Int)))) else some false) fun v34 =>
    bif v34 then swapG n d v33.1 v33.2 (w64 (v33.2 - (1 : Int))) (fun l => some (Sum.inl (l, w64 (v33.2 - (1 : Int))))) else some (Sum.inr v33.1)
def insO (cmp : α × α × E → Option Int) (F : Nat) (e : E) (n : Nat) (d : α) (a b : Int) (v31 : List α × Int) : Option (List α × Int ⊕ List α) :=
  bif decide (v31.2 < b) then Option.bind (loopO (insI cmp e n d a) F (v31.1, v31.2)) fun v32 => some (Sum.inl (v32, w64 (v31.2 + (1 : Int)))) else some (Sum.inr v31.1)
def gIns (cmp : α × α × E → Option Int) (d : α) (F : Nat) (a : Int × Int × List α × E) : Option (List α) :=
  Option.bind (loopO (insO cmp F a.2.2.2 (List.length a.2.2.1) d a.1 a.2.1) F (a.2.2.1, w64 (a.1 + (1 : Int)))) fun v30 => some v30
def fitG {X : Type} (n m : Nat) (x : X) : Option X := gd (decide (n = m) && (true && true) && (true && (true && (true && (true && true))))) (some x)
end Go.Sx
end
section
namespace Go.Sx
open Go
variable {α E β : Type}
end Go.Sx
end
section
namespace Go.Sx
open Go
variable {α E β : Type}
end Go.Sx
end
section
namespace Go.Sx
open Go
variable {α E β : Type}
noncomputable def st1 (cmp : α × α × E → Option Int) (d : α) (F : Nat) (e : E) (n : Nat) (c : Int) (v66 : List α × Int × Int) : Option (List α × Int × Int ⊕ List α × Int) :=
  bif decide (v66.2.2 ≤ c) then Option.bind (fitG n (List.length v66.1) (v66.2.1, v66.2.2, v66.1, e)) fun v67 => Option.bind (gIns cmp d F v67) fun v68 => some (Sum.inl (v68, v66.2.2, w64 (v66.2.2 + (20 : Int)))) else some (Sum.inr (v66.1, v66.2.1))
end Go.Sx
end
namespace Go.Sx
open Go
def delSm : Sm where
  pre := fun args H => match args with
    | [.sl d _ _ _, .pv (.lit (.int .i64 _)), .pv (.lit (.int .i64 _))] => match H[d]? with
      | some (.tvec _ [.int .i64] _) => true
      | _ => false
    | _ => false
  run := fun X args H k => match args with
    | [.sl d sz st n, .pv (.lit (.int .i64 i)), .pv (.lit (.int .i64 j))] => match H[d]? with
      | some (.tvec ty [.int .i64] l) => gd (Nat.beq sz 1 && (Nat.beq st 0 && (decide (n = l.length) && (decide (0 < n) && (decide (0 ≤ i) && (decide (i ≤ j) && decide (j.toNat ≤ n)))))))
          (k (.sl d 1 0 (l.take i.toNat ++ l.drop j.toNat).length) ((H.map (SObj.forget [d])).set d (.tvec ty [.int .i64] (l.take i.toNat ++ l.drop j.toNat))) [d] [d])
      | _ => none
    | _ => none
theorem putCells_get {α : Type} [Inhabited α] (enc : α → Value) (d : Array α) (c : Array Value) (k : Nat) (h : k < c.size) : (Sort.putCells enc 0 d c)[k]? = some (if k < d.size then enc d[k]! else c[k]) := by
  unfold Sort.putCells
  rw [Array.getElem?_mapIdx, Array.getElem?_eq_getElem h]
  simp
theorem rI_len (l : List Int) : (rowsPV [Ty.int IntKind.i64] l).length = l.length := by
  unfold rowsPV
  exact List.length_map _
theorem rI_cell (s : Nat) : ∀ (l : List Int) (q : Nat), vcell (rowsPV [Ty.int IntKind.i64] l) q s = if s = 0 then (l[q]?).map (fun z => SV.pv (.lit (.int .i64 z))) else none
  | [], q => by
    cases s <;> rfl
  | z :: l, 0 => by
    cases s with
    | zero => rfl
    | succ s => rfl
  | z :: l, q + 1 => rI_cell s l q
theorem del_call {P : Program} {ρ0 : Shelf.Ren} {g : Nat} (hg : ρ0.f 23 = g) (L : Proofs.Lays2.n23 P ρ0) {H : List SObj} {d n ty : Nat} {l : List Int} (ho : H[d]? = some (.tvec ty [.int .i64] l)) {i' j' : Nat} (h3 : n = l.length) (h4 : 0 < n) (h6 : i' ≤ j') (h7 : j' ≤ n) :
    SCall P g [.sl d 1 0 n, .pv (.lit (.int .i64 (i' : Int))), .pv (.lit (.int .i64 (j' : Int)))] H fun x H' t f => x = .sl d 1 0 (l.take i' ++ l.drop j').length ∧ H' = (H.map (SObj.forget [d])).set d (.tvec ty [.int .i64] (l.take i' ++ l.drop j')) ∧ t = [d] ∧ f = [d] := by
  intro M ρ w vs hm hr
  obtain ⟨hr1, hr2⟩ := hr
  match vs, hr1 with
  | [v0, v1, v2], _ =>
    have r0 := hr2 0 v0 _ rfl rfl
    have r1 := (hr2 1 v1 _ rfl rfl).lit_eq
    have r2 := (hr2 2 v2 _ rfl rfl).lit_eq
    subst r1; subst r2
    cases r0 with
    | slz => omega
    | sl _ _ _ _ c kk p hp hkk hcc hn hc6 =>
      have hown := hm.own d _ ho
      rcases hown with ⟨hx, _⟩ | ⟨p', hp', hrow⟩
      · rw [hx] at hp; cases hp
      · rw [hp] at hp'
        cases hp'
        obtain ⟨cs, a1, a2, a3, a4, a5, a6⟩ := hrow.ex
        have hk0 : kk = 0 := by simpa using hkk
        subst hk0
        have hll := rI_len l
        rw [hll] at a3 a4
        have hl1 : ([Ty.int IntKind.i64] : List Ty).length = 1 := rfl
        rw [hl1] at a3
        have hcs : ∀ q (h : q < l.length), cs[q]? = some (.int .i64 l[q]) := by
          intro q hq
          obtain ⟨v, e1, e2⟩ := a4 q 0 hq (by simp)
          have e1' : cs[q]? = some v := by simpa using e1
          have hcell : vcell (rowsPV [Ty.int IntKind.i64] l) q 0 = some (.pv (.lit (.int .i64 l[q]))) := by
                rw [rI_cell, if_pos rfl, List.getElem?_eq_getElem hq]; rfl
          have e3 := (a5 q 0 _ v hcell e1).2.2.lit_eq
          rw [e1', e3]
        have hH : Sort.Holds (Value.int .i64) w p.block 0 l.toArray := by
          intro q hq
          have hq' : q < l.length := by simpa only [List.size_toArray] using hq
          refine ⟨?_, ?_⟩
          · have e := hcs q hq'
            simp only [World.cell?, a1, Nat.zero_add]
            rw [e]
            simp [hq']
          · simp [World.frozen?, a1]
        have hcall := Proofs.Any.slices_Delete_int L p.block 0 c i' j' l w hH (by omega) hc6 (by omega) (by omega)
        rw [hg] at hcall
        refine (callsIn_wide.2 ?_)
        have ev : ([Value.slice (some ⟨p.block, 0, none⟩) n c, Value.int .i64 (i' : Int), Value.int .i64 (j' : Int)] : List Value).toArray = #[.slice (some ⟨p.block, 0, none⟩) l.length c, .int .i64 i', .int .i64 j'] := by rw [h3]
        rw [ev]
        refine hcall.mono ?_
        rintro e w' ⟨rfl, q, rfl⟩
        generalize hD : (l.take i' ++ l.drop j' ++ List.replicate (j' - i') 0).toArray = D
        have hDs : D.size = l.length := by rw [← hD]; simp; omega
        have hnl : (l.take i' ++ l.drop j').length = l.length - (j' - i') := by simp; omega
        have hget : ∀ q (h : q < (l.take i' ++ l.drop j').length), D[q]! = (l.take i' ++ l.drop j')[q] := by
          intro q hq
          rw [getElem!_pos D q (by omega)]
          subst hD
          simp only [List.getElem_toArray]
          rw [List.getElem_append_left hq]
        have hheap : (Sort.putRow (Value.int .i64) (Sort.ahead w q) p.block 0 D).heap[p.block]? = some (.cells (Sort.putCells (Value.int .i64) 0 D cs) ty (0, 0)) := by
          simp [Sort.putRow, Sort.mapBlock, Sort.ahead, Array.getElem?_modify, a1, Sort.onCells]
        have hsz : (Sort.putCells (Value.int .i64) 0 D cs).size = cs.size := by simp [Sort.putCells]
        have hos : OwnAt M (ρ.set d (some p)) (Sort.putRow (Value.int .i64) (Sort.ahead w q) p.block 0 D) d (.tvec ty [.int .i64] (l.take i' ++ l.drop j')) := by
          refine .inr ⟨p, Env.set_self .., ⟨_, hheap, by rw [hsz]; exact a2, ?_, ?_, ?_, ?_⟩⟩
          · rw [rI_len, hl1]; omega
          · intro r s hr hs
            have hr' : r < (l.take i' ++ l.drop j').length := by rw [rI_len] at hr; exact hr
            have hs' : s = 0 := by simp at hs; exact hs
            subst hs'
            refine ⟨Value.int .i64 D[r]!, ?_, ?_⟩
            · rw [hl1, Nat.mul_one, Nat.add_zero, putCells_get _ _ _ _ (by omega), if_pos (by omega)]
            · rfl
          · intro r s x v hx hv
            rw [rI_cell] at hx
            split at hx
            · rename_i hs0
              subst hs0
              cases hq : (l.take i' ++ l.drop j')[r]? with
              | none => rw [hq] at hx; cases hx
              | some z =>
                have hr' := (List.getElem?_eq_some_iff.1 hq).1
                rw [hq] at hx
                cases hx
                refine ⟨by rw [rI_len]; exact hr', by simp, ?_⟩
                rw [hl1, Nat.mul_one, Nat.add_zero, putCells_get _ _ _ _ (by omega), if_pos (by omega), hget r hr'] at hv
                have hz : (l.take i' ++ l.drop j')[r] = z := (List.getElem?_eq_some_iff.1 hq).2
                rw [hz] at hv
                cases hv
                exact .pv (.lit _)
            · cases hx
          · intro r s x hx
            rw [rI_cell] at hx
            split at hx
            · rename_i hs0
              subst hs0
              cases hq : (l.take i' ++ l.drop j')[r]? with
              | none => rw [hq] at hx; cases hx
              | some z => exact ⟨by rw [rI_len]; exact (List.getElem?_eq_some_iff.1 hq).1, by simp⟩
            · cases hx
        obtain ⟨g1, g2⟩ := hm.redo (q := some p) (w' := Sort.putRow (Value.int .i64) (Sort.ahead w q) p.block 0 D) ho rfl rfl (fun b hb hbp => by
            have : p.block ≠ b := fun e => hbp p hp e.symm
            simp [Sort.putRow, Sort.mapBlock, Sort.ahead, Array.getElem?_modify, this]) (by simp [Sort.putRow, Sort.mapBlock, Sort.ahead]) (fun p' hp' => by cases hp'; exact .inr ⟨p, hp, rfl⟩) hos
        refine ⟨_, _, _, _, _, [d], [d], rfl, ⟨rfl, rfl, rfl, rfl⟩, ?_, g1, g2⟩
        rw [← hnl]
        refine .sl _ _ 0 _ c 0 p (Env.set_self ..) (by simp) hcc ?_ hc6
        rw [hnl]; omega
theorem delSm_ok {cx : Cx} {ρ0 : Shelf.Ren} {g : Nat} (hg : ρ0.f 23 = g) (hf : ∃ fn, cx.fns.lookup g = some fn) (L : Proofs.Lays2.n23 cx.P ρ0) : SmOk cx g delSm := by
  refine ⟨hf, fun X args H k y hk => ?_⟩
  simp only [delSm] at hk
  split at hk
  · rename_i d sz st n i j
    split at hk
    · rename_i ty l ho
      obtain ⟨hc, hk2⟩ := gd_some hk
      simp only [Bool.and_eq_true, decide_eq_true_eq] at hc
      obtain ⟨h1, h2, h3, h4, h5, h6, h7⟩ := hc
      have h1 := Nat.eq_of_beq_eq_true h1
      have h2 := Nat.eq_of_beq_eq_true h2
      subst h1; subst h2
      obtain ⟨i', rfl⟩ : ∃ i' : Nat, i = i' := ⟨i.toNat, by omega⟩
      obtain ⟨j', rfl⟩ : ∃ j' : Nat, j = j' := ⟨j.toNat, by omega⟩
      simp only [Int.toNat_natCast] at hk2 h7
      refine (del_call hg L (l := l) ho h3 h4 (by omega) h7).mono ?_
      rintro x H' t f ⟨rfl, rfl, rfl, rfl⟩
      exact hk2
    · cases hk
  · cases hk
end Go.Sx

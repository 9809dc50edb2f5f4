/- The statements of the seat out of functions of data. Plain law: the minutes of areas, by a map and its sorted keys, and by insertion. -/
import Derived.Test.YtlfcbhjoldgijaaGreatRows
import Derived.Test.YtlfcbhjoldgijaaGreatXTtCx
import Derived.Test.YtlfcbhjoldgijaaGreatXSxQh
import Derived.Handed
import Derived.Stop.Joined
import Derived.Sort.Walk0
set_option maxRecDepth 100000
set_option linter.unusedVariables false
set_option linter.unusedSimpArgs false
namespace Go.Proofs.Tryz
open Go Go.Sx Go.Proofs.YtlfcbhjoldgijaaGreat
theorem ownK : ownKnob prog.godebug = none := by kernel_rfl
theorem laidOut : laidOutB prog = true := by kernel_rfl
theorem law_lifted {f : FuncId} {fn : Func} {s : ChangeSpec} {ats : List ATy} {c : Nat → AEls ats → Option Bool} {tb : TypeId} (args0 : Array Value) (os : Os) (started : os.Started) (H : Type) (enc : TypeId × Value → H)
    (hni : prog.inits.idxOf? f = none) (hfn : prog.funcs[f]? = some fn)
    (hv : (World.plainHolding prog os ⟨#[], args0, []⟩).variablesB prog = true)
    (hr : ((World.plainHolding prog os ⟨#[], args0, []⟩).heap.toList.drop prog.globals.size).take ((begin prog (fun _ _ => 0) default).world.heap.size - prog.globals.size) =
      (begin prog (fun _ _ => 0) default).world.heap.toList.drop prog.globals.size)
    (hok : Input.okWideB prog (World.plainHolding prog os ⟨#[], args0, []⟩) f ⟨#[], args0, []⟩ = true)
    (hpre : s.preB enc prog fn [] false (World.plainHolding prog os ⟨#[], args0, []⟩).memory args0 8 = true)
    (hsz : s.sizedB enc prog fn false (World.plainHolding prog os ⟨#[], args0, []⟩).memory args0 8 = true)
    (hps : (fn.params.toList.all fun t => prog.readableRec t && decide (t < prog.types.size)) = true) (hk : atysK prog fn.params.toList = some ats)
    (hres : fn.resultTypes = #[tb]) (htb : prog.underlying tb = some .bool) (hvars : s.vars = []) (hspec : ∀ ds : List (DataW H), ds.length = fn.params.toList.length → s.fn H ds = { results := [.lit (.bool true)], args := ds })
    (hpc : ∀ F, PCOk cx f ⟨ats, [.val .bool], c F⟩) (law : ∀ a, AEls.ok ats a → ∃ F, c F a = some true) :
    ReturnsInHanded {} checked os f .any (fun w args => s.pre enc prog fn [] false w args ∧ sizedMet enc prog fn (OpenSpec.ofChange s) false w args)
      (s.post enc prog fn false true false false) := by
  refine returnsInHanded_of_calls (C := checked) ownK started hni
    (ChangeSpec.witness6 (enc := enc) (C := checked) (os := os) false ⟨#[], args0, []⟩ 8 hv hr hok hpre hsz) ?_
  intro w tape i _ _ _ hok hpre hholds
  obtain ⟨_, _, _, fn', hfn', _, _, _, _, hval⟩ := hok
  have e : fn' = fn := Option.some.inj (hfn'.symm.trans hfn)
  subst e
  obtain ⟨⟨ds, gs, before, hw, hc⟩, hz⟩ := hpre
  have hw' := DataW.Whole.of_heap (w' := w.forCall tape i) (by rfl) hw
  refine (law_calls (cx := cx) (hn := false) laidOut hps hk hres htb hvars hspec hpc law hval hw' (hz.weights hw)).mono fun e W' ⟨v, he, hp⟩ => ?_
  subst he
  exact ChangeSpec.post_blind hp
end Go.Proofs.Tryz
namespace Go.Sx
open Go
def bk (s : ByteArray) : List UInt8 := s.data.toList
theorem bk_inj {a b : ByteArray} (h : bk a = bk b) : a = b := by
  cases a; cases b
  simp only [bk] at h
  simpa using h
theorem toList_bk (s : ByteArray) : s.toList = bk s := by
  rw [ByteArray.toList_eq]; rfl
def ltS (a b : ByteArray) : Bool := decide (bk a < bk b)
theorem ltS_eq (a b : ByteArray) : Go.Op.bytesLess a.toList b.toList = ltS a b := by
  rw [toList_bk, toList_bk, Proofs.bytesLess_eq]; rfl
theorem ltS_irr (a : ByteArray) : ltS a a = false := by simp [ltS]
theorem ltS_trans {a b c : ByteArray} (h : ltS a b = true) (k : ltS b c = true) : ltS a c = true := by
  simp only [ltS, decide_eq_true_eq] at *
  exact List.lt_trans h k
theorem ltS_tri {a b : ByteArray} (h : ltS a b = false) (k : ltS b a = false) : a = b := by
  simp only [ltS, decide_eq_false_iff_not] at *
  exact bk_inj (List.le_antisymm (List.not_lt.1 k) (List.not_lt.1 h))
def AscS (l : List ByteArray) : Prop := l.Pairwise fun a b => ltS a b = true
theorem AscS.ext {l m : List ByteArray} (hl : AscS l) (hm : AscS m) (h : ∀ x, x ∈ l ↔ x ∈ m) : l = m := by
  have nd : ∀ {l : List ByteArray}, AscS l → l.Nodup := fun hl => hl.imp fun {a b} h e => by
    subst e; rw [ltS_irr] at h; cases h
  refine List.Perm.eq_of_pairwise (le := fun a b => ltS a b = true) (fun a b _ _ h1 h2 => ?_) hl hm ((List.perm_ext_iff_of_nodup (nd hl) (nd hm)).2 h)
  have := ltS_trans h1 h2
  rw [ltS_irr] at this; cases this
def insU (x : ByteArray × Int) : List (ByteArray × Int) → List (ByteArray × Int)
  | [] => [x]
  | y :: l => if ltS y.1 x.1 = true then y :: insU x l else if y.1 = x.1 then (y.1, y.2 + x.2) :: l else x :: y :: l
theorem insU_mem (x : ByteArray × Int) {k : ByteArray} : ∀ {l : List (ByteArray × Int)}, k ∈ (insU x l).map (·.1) ↔ k = x.1 ∨ k ∈ l.map (·.1)
  | [] => by simp [insU]
  | y :: l => by
    unfold insU
    split
    · simp only [List.map_cons, List.mem_cons, insU_mem x (l := l)]
      exact ⟨fun h => by rcases h with h | h | h <;> simp [h], fun h => by rcases h with h | h | h <;> simp [h]⟩
    · split
      · rename_i e
        simp only [List.map_cons, List.mem_cons, e]
        exact ⟨fun h => by rcases h with h | h <;> simp [h], fun h => by rcases h with h | h | h <;> simp [h]⟩
      · simp only [List.map_cons, List.mem_cons]
theorem insU_asc (x : ByteArray × Int) : ∀ {l : List (ByteArray × Int)}, AscS (l.map (·.1)) → AscS ((insU x l).map (·.1))
  | [], _ => List.pairwise_singleton ..
  | y :: l, h => by
    have h' := List.pairwise_cons.1 h
    unfold insU
    split
    · rename_i hy
      refine List.pairwise_cons.2 ⟨fun k hk => ?_, insU_asc x h'.2⟩
      rcases (insU_mem x).1 hk with rfl | hk
      · exact hy
      · exact h'.1 k hk
    · rename_i hy
      split
      · exact h
      · rename_i hne
        refine List.pairwise_cons.2 ⟨fun k hk => ?_, h⟩
        have hxy : ltS x.1 y.1 = true := by
          cases hb : ltS x.1 y.1 with
          | true => rfl
          | false => exact absurd (ltS_tri (Bool.eq_false_iff.2 hy) hb) hne
        simp only [List.map_cons, List.mem_cons] at hk
        rcases hk with rfl | hk
        · exact hxy
        · exact ltS_trans hxy (h'.1 k hk)
theorem mget_none {k : ByteArray} : ∀ {l : List (ByteArray × Int)}, k ∉ l.map (·.1) → mgetD strEq k l 0 = 0
  | [], _ => rfl
  | y :: l, h => by
    simp only [List.map_cons, List.mem_cons, not_or] at h
    rw [mgetD_cons, if_neg (fun e => h.1 (strEq_true.1 e))]
    exact mget_none h.2
theorem insU_get (x : ByteArray × Int) {k : ByteArray} : ∀ {l : List (ByteArray × Int)}, AscS (l.map (·.1)) → mgetD strEq k (insU x l) 0 = if k = x.1 then mgetD strEq k l 0 + x.2 else mgetD strEq k l 0
  | [], _ => by
    unfold insU
    rw [mgetD_cons, mgetD_nil]
    by_cases h : k = x.1
    · rw [if_pos (strEq_true.2 h), if_pos h]; omega
    · rw [if_neg (fun e => h (strEq_true.1 e)), if_neg h]
  | y :: l, h => by
    have h' := List.pairwise_cons.1 h
    unfold insU
    split
    · rename_i hy
      rw [mgetD_cons, mgetD_cons, insU_get x h'.2]
      by_cases hk : k = y.1
      · rw [if_pos (strEq_true.2 hk), if_pos (strEq_true.2 hk)]
        have : k ≠ x.1 := fun e => by rw [← hk, e, ltS_irr] at hy; cases hy
        rw [if_neg this]
      · rw [if_neg (fun e => hk (strEq_true.1 e)), if_neg (fun e => hk (strEq_true.1 e))]
    · rename_i hy
      split
      · rename_i e
        rw [mgetD_cons, mgetD_cons]
        by_cases hk : k = y.1
        · rw [if_pos (strEq_true.2 hk), if_pos (strEq_true.2 hk), if_pos (hk.trans e)]
        · rw [if_neg (fun e => hk (strEq_true.1 e)), if_neg (fun e => hk (strEq_true.1 e)), if_neg (fun e' => hk (e'.trans e.symm))]
      · rename_i hne
        rw [mgetD_cons (e := x)]
        by_cases hk : k = x.1
        · rw [if_pos (strEq_true.2 hk), if_pos hk, mget_none, Int.zero_add]
          simp only [List.map_cons, List.mem_cons, not_or]
          have hxy : ltS x.1 y.1 = true := by
            cases hb : ltS x.1 y.1 with
            | true => rfl
            | false => exact absurd (ltS_tri (Bool.eq_false_iff.2 hy) hb) hne
          refine ⟨fun e => hne (e.symm.trans hk), fun hm => ?_⟩
          have := ltS_trans hxy (h'.1 k hm)
          rw [hk, ltS_irr] at this; cases this
        · rw [if_neg (fun e => hk (strEq_true.1 e)), if_neg hk]
def putU (m : List (ByteArray × Int)) (x : ByteArray × Int) : List (ByteArray × Int) := mput strEq x.1 (mgetD strEq x.1 m 0 + x.2) m
theorem mput_mem {k x : ByteArray} {v : Int} : ∀ {l : List (ByteArray × Int)}, k ∈ (mput strEq x v l).map (·.1) ↔ k = x ∨ k ∈ l.map (·.1)
  | [] => by simp [mput_nil]
  | y :: l => by
    rw [mput_cons]
    split
    · rename_i e
      have e := strEq_true.1 e
      simp only [List.map_cons, List.mem_cons, ← e]
      exact ⟨fun h => by rcases h with h | h <;> simp [h], fun h => by rcases h with h | h | h <;> simp [h]⟩
    · simp only [List.map_cons, List.mem_cons, mput_mem (l := l)]
      exact ⟨fun h => by rcases h with h | h | h <;> simp [h], fun h => by rcases h with h | h | h <;> simp [h]⟩
theorem mput_nodup {x : ByteArray} {v : Int} : ∀ {l : List (ByteArray × Int)}, (l.map (·.1)).Nodup → ((mput strEq x v l).map (·.1)).Nodup
  | [], _ => by simp [mput_nil]
  | y :: l, h => by
    rw [mput_cons]
    rw [List.map_cons, List.nodup_cons] at h
    split
    · rename_i e
      have e := strEq_true.1 e
      rw [List.map_cons, List.nodup_cons, e]
      exact h
    · rename_i hne
      rw [List.map_cons, List.nodup_cons]
      refine ⟨fun hm => ?_, mput_nodup h.2⟩
      rcases mput_mem.1 hm with hm | hm
      · exact hne (strEq_true.2 hm.symm)
      · exact h.1 hm
structure SameU (m r : List (ByteArray × Int)) : Prop where
  nd : (m.map (·.1)).Nodup
  asc : AscS (r.map (·.1))
  mem : ∀ k, k ∈ m.map (·.1) ↔ k ∈ r.map (·.1)
  get : ∀ k, mgetD strEq k m 0 = mgetD strEq k r 0
theorem SameU.nil : SameU [] [] := ⟨List.nodup_nil, List.Pairwise.nil, fun _ => Iff.rfl, fun _ => rfl⟩
theorem SameU.put {m r : List (ByteArray × Int)} (h : SameU m r) (x : ByteArray × Int) : SameU (putU m x) (insU x r) := by
  refine ⟨mput_nodup h.nd, insU_asc x h.asc, fun k => ?_, fun k => ?_⟩
  · unfold putU
    rw [mput_mem, insU_mem, h.mem]
  · unfold putU
    rw [mgetD_mput strEq_iff, insU_get x h.asc]
    by_cases e : k = x.1
    · rw [if_pos (strEq_true.2 e), if_pos e, e, h.get]
    · rw [if_neg (fun e' => e (strEq_true.1 e')), if_neg e, h.get]
theorem get_self : ∀ {r : List (ByteArray × Int)}, AscS (r.map (·.1)) → (r.map (·.1)).map (fun k => (k, mgetD strEq k r 0)) = r
  | [], _ => rfl
  | y :: l, h => by
    have h' := List.pairwise_cons.1 h
    simp only [List.map_cons, mgetD_cons]
    rw [if_pos (strEq_true.2 rfl)]
    refine congrArg _ ?_
    have : ∀ k ∈ l.map (·.1), (k, if strEq k y.1 = true then y.2 else mgetD strEq k l 0) = (k, mgetD strEq k l 0) := fun k hk => by
      have h1 := h'.1 k hk
      rw [if_neg fun e => ?_]
      rw [strEq_true.1 e, ltS_irr] at h1; cases h1
    rw [List.map_congr_left this]
    exact get_self h'.2
theorem insD_perm {H : Type} (x : Lit × DataW H) : ∀ l : List (Lit × DataW H), (DataW.insert x l).Perm (x :: l)
  | [] => .refl _
  | y :: r => by
    unfold DataW.insert
    split
    · exact .refl _
    · exact ((insD_perm x r).cons y).trans (.swap x y r)
theorem foldD_perm {H : Type} : ∀ l : List (Lit × DataW H), (l.foldr DataW.insert []).Perm l
  | [] => .refl _
  | x :: l => by
    rw [List.foldr_cons]
    exact (insD_perm x _).trans ((foldD_perm l).cons x)
theorem keysD_perm (l : List ByteArray) : (keysD l).Perm (l.map bk) := by
  unfold keysD
  show ((List.foldr DataW.insert [] (l.map keyD)).map fun (p : Lit × DataW Unit) => Go.strOf p.1).Perm _
  refine ((foldD_perm _).map _).trans ?_
  rw [List.map_map]
  exact .refl _
theorem skeys_perm (l : List ByteArray) : (skeys l).Perm l := by
  unfold skeys
  have h := ((List.mergeSort_perm (keysD l) leB).trans (keysD_perm l)).map (fun b : List UInt8 => (⟨b.toArray⟩ : ByteArray))
  rw [List.map_map] at h
  have e : ((fun b : List UInt8 => (⟨b.toArray⟩ : ByteArray)) ∘ bk) = id := funext fun s => by
    cases s
    simp [bk]
  rw [e, List.map_id] at h
  exact h
theorem skeys_asc {l : List ByteArray} (h : l.Nodup) : AscS (skeys l) := by
  have tr : ∀ a b c : List UInt8, leB a b = true → leB b c = true → leB a c = true := fun a b c h1 h2 => by simp only [leB, decide_eq_true_eq] at *; exact List.le_trans h1 h2
  have to : ∀ a b : List UInt8, (leB a b || leB b a) = true := fun a b => by simp only [leB, Bool.or_eq_true, decide_eq_true_eq]; exact List.le_total a b
  have h1 := List.pairwise_mergeSort tr to (keysD l)
  have hnd : (skeys l).Nodup := (skeys_perm l).nodup_iff.2 h
  unfold skeys at hnd ⊢
  unfold AscS
  rw [List.pairwise_map]
  have hnd' := List.pairwise_map.1 hnd
  refine (h1.and hnd').imp fun {a b} ⟨hab, hne⟩ => ?_
  simp only [leB, decide_eq_true_eq] at hab
  show decide (bk ⟨a.toArray⟩ < bk ⟨b.toArray⟩) = true
  rw [decide_eq_true_eq]
  show a < b
  by_cases hba : b ≤ a
  · exact absurd (by rw [List.le_antisymm hab hba]) hne
  · exact List.not_le.1 hba
theorem SameU.res {m r : List (ByteArray × Int)} (h : SameU m r) : (skeysM m).map (fun k => (k, mgetD strEq k m 0)) = r := by
  have e : skeysM m = r.map (·.1) := by
    refine AscS.ext (skeys_asc h.nd) h.asc fun x => ?_
    rw [← h.mem]
    exact (skeys_perm (mkeys m)).mem_iff
  rw [e]
  simp only [h.get]
  exact get_self h.asc
end Go.Sx

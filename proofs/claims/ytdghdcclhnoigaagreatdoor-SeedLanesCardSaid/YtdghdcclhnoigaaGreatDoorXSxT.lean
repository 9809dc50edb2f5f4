/- Part T of the own logic: data of one kind. -/
import Derived.Test.YtdghdcclhnoigaaGreatDoorXSxA
import Derived.Laws.Strings
set_option linter.unusedVariables false
set_option linter.unusedSimpArgs false
namespace Go.Sx
open Go
mutual
def Ty.beq : Ty → Ty → Bool
  | .int k, .int k' => decide (k = k')
  | .bool, .bool => true
  | .str, .str => true
  | .seq r, .seq r' => Ty.beqL r r'
  | _, _ => false
def Ty.beqL : List Ty → List Ty → Bool
  | [], [] => true
  | a :: l, b :: m => a.beq b && Ty.beqL l m
  | _, _ => false
end
mutual
theorem Ty.beq_eq : ∀ (a b : Ty), a.beq b = true → a = b
  | .int k, b, h => by cases b <;> simp_all [Ty.beq]
  | .bool, b, h => by cases b <;> simp_all [Ty.beq]
  | .str, b, h => by cases b <;> simp_all [Ty.beq]
  | .seq r, b, h => by
    cases b with
    | seq r' => simp only [Ty.beq] at h; rw [Ty.beqL_eq r r' h]
    | _ => simp [Ty.beq] at h
theorem Ty.beqL_eq : ∀ (a b : List Ty), Ty.beqL a b = true → a = b
  | [], b, h => by cases b <;> simp_all [Ty.beqL]
  | x :: l, b, h => by
    cases b with
    | nil => simp [Ty.beqL] at h
    | cons y m =>
      simp only [Ty.beqL, Bool.and_eq_true] at h
      rw [Ty.beq_eq x y h.1, Ty.beqL_eq l m h.2]
end
def castRowsAux (r r' : List Ty) (l : List (Els r)) : (b : Bool) → (b = true → r = r') → Option (List (Els r'))
  | true, h => some (h rfl ▸ l)
  | false, _ => none
def castRows (r r' : List Ty) (l : List (Els r)) : Option (List (Els r')) := castRowsAux r r' l (Ty.beqL r r') (Ty.beqL_eq r r')
theorem castRows_eq {r r' : List Ty} {l : List (Els r)} {l' : List (Els r')} (h : castRows r r' l = some l') : ∃ e : r = r', l' = e ▸ l := by
  have : ∀ (b : Bool) (f : b = true → r = r'), castRowsAux r r' l b f = some l' → ∃ e : r = r', l' = e ▸ l := by
    intro b f h
    cases b with
    | true => simp only [castRowsAux, Option.some.injEq] at h; exact ⟨f rfl, h.symm⟩
    | false => cases h
  exact this _ _ h
def mapO {α β : Type} (f : α → Option β) : List α → Option (List β)
  | [] => some []
  | x :: l => match f x, mapO f l with
    | some y, some ys => some (y :: ys)
    | _, _ => none
theorem mapO_spec {α β : Type} {f : α → Option β} : ∀ {l : List α} {l' : List β}, mapO f l = some l' → l'.length = l.length ∧ ∀ (i : Nat) (y : β), l'[i]? = some y → ∃ x, l[i]? = some x ∧ f x = some y
  | [], l', h => by simp [mapO] at h; subst h; simp
  | x :: l, l', h => by
    simp only [mapO] at h
    split at h
    · rename_i y ys h1 h2
      cases h
      obtain ⟨g1, g2⟩ := mapO_spec h2
      refine ⟨by simp [g1], fun i z hz => ?_⟩
      cases i with
      | zero => simp at hz; subst hz; exact ⟨x, rfl, h1⟩
      | succ i => simp at hz; simpa using g2 i z hz
    · cases h
def Value.asInt (k : IntKind) : Value → Option Int
  | .int k' n => if k = k' then some n else none
  | _ => none
def Value.asBool : Value → Option Bool
  | .bool b => some b
  | _ => none
def Value.asStr : Value → Option ByteArray
  | .string b => some b
  | _ => none
def Value.isNil : Value → Bool
  | .slice none a b => Nat.beq a 0 && Nat.beq b 0
  | _ => false
def intOf (k : IntKind) : PV → Option Int
  | .lit v => Value.asInt k v
  | _ => none
def boolOf : PV → Option Bool
  | .lit v => Value.asBool v
  | _ => none
def strOf : PV → Option ByteArray
  | .lit v => Value.asStr v
  | _ => none
def seqOf (row : List Ty) (f : List PV → Option (Els row)) : PV → Option (List (Els row))
  | .rsl sz rows => if sz = row.length then mapO f rows else none
  | .tsl row' l => castRows row' row l
  | .lit v => if Value.isNil v = true then some [] else none
  | _ => none
def nilOf : List PV → Option Unit
  | [] => some ()
  | _ => none
def oneOf {α : Type} (f : PV → Option α) : List PV → Option α
  | [p] => f p
  | _ => none
def consOf {α β : Type} (f : PV → Option α) (g : List PV → Option β) : List PV → Option (α × β)
  | p :: ps => match f p, g ps with
    | some x, some y => some (x, y)
    | _, _ => none
  | [] => none
mutual
def Ty.of : (t : Ty) → PV → Option t.El
  | .int k => intOf k
  | .bool => boolOf
  | .str => strOf
  | .seq row => seqOf row (ofRow row)
def ofRow : (ts : List Ty) → List PV → Option (Els ts)
  | [] => nilOf
  | [t] => oneOf t.of
  | t :: t' :: ts => consOf t.of (ofRow (t' :: ts))
end
def OfOk {α : Type} (f : PV → Option α) (g : α → PV) : Prop := ∀ (p : PV) (x : α), f p = some x → ∀ (M : Imm) (v : Value), PRep M v p → PRep M v (g x)
def RowOk {α : Type} (f : List PV → Option α) (g : α → List PV) : Prop :=
  ∀ (r : List PV) (x : α), f r = some x → (g x).length = r.length ∧ ∀ (j : Nat) (q : PV), (g x)[j]? = some q → ∃ p, r[j]? = some p ∧ ∀ (M : Imm) (v : Value), PRep M v p → PRep M v q
theorem intOf_ok (k : IntKind) : OfOk (intOf k) (Ty.int k).pv := by
  intro p x h M v hp
  unfold intOf at h
  split at h
  · unfold Value.asInt at h
    split at h
    · split at h
      · rename_i e; subst e; cases h; exact hp
      · cases h
    · cases h
  · cases h
theorem boolOf_ok : OfOk boolOf Ty.bool.pv := by
  intro p x h M v hp
  unfold boolOf at h
  split at h
  · unfold Value.asBool at h
    split at h
    · cases h; exact hp
    · cases h
  · cases h
theorem strOf_ok : OfOk strOf Ty.str.pv := by
  intro p x h M v hp
  unfold strOf at h
  split at h
  · unfold Value.asStr at h
    split at h
    · cases h; exact hp
    · cases h
  · cases h
theorem seqOf_ok {row : List Ty} {f : List PV → Option (Els row)} (hf : RowOk f (rowPV row)) : OfOk (seqOf row f) (Ty.seq row).pv := by
  intro p x h M v hp
  unfold seqOf at h
  split at h
  · rename_i sz rows
    split at h
    · rename_i e
      obtain ⟨g1, g2⟩ := mapO_spec h
      refine .tsl row x ?_
      subst e
      refine prep_rows (rows := rows) (rows' := rowsPV row x) (by simp [rowsPV, g1]) (fun i r hr => ?_) hp
      simp only [rowsPV, List.getElem?_map, Option.map_eq_some_iff] at hr
      obtain ⟨y, hy, rfl⟩ := hr
      obtain ⟨q, hq, hq2⟩ := g2 i y hy
      obtain ⟨h1, h2⟩ := hf q y hq2
      exact ⟨q, hq, h1, h2⟩
    · cases h
  · obtain ⟨e, rfl⟩ := castRows_eq h
    subst e
    exact hp
  · rename_i u
    split at h
    · rename_i hn
      cases h
      unfold Value.isNil at hn
      split at hn
      · simp only [Bool.and_eq_true] at hn
        cases Nat.eq_of_beq_eq_true hn.1; cases Nat.eq_of_beq_eq_true hn.2
        cases hp with
        | lit => exact .tsl row [] (.rnil _)
      · cases hn
    · cases h
  · cases h
theorem nilOf_ok : RowOk nilOf (rowPV []) := by
  intro r x h
  unfold nilOf at h
  split at h
  · exact ⟨rfl, fun j q hq => by simp [rowPV] at hq⟩
  · cases h
theorem oneOf_ok {t : Ty} {f : PV → Option t.El} (hf : OfOk f t.pv) : RowOk (oneOf f) (rowPV [t]) := by
  intro r x h
  unfold oneOf at h
  split at h
  · rename_i p
    refine ⟨rfl, fun j q hq => ?_⟩
    cases j with
    | zero => simp only [rowPV, List.getElem?_cons_zero, Option.some.injEq] at hq; subst hq; exact ⟨p, rfl, fun M v hp => hf p x h M v hp⟩
    | succ j => simp [rowPV] at hq
  · cases h
theorem consOf_ok {t t' : Ty} {ts : List Ty} {f : PV → Option t.El} {g : List PV → Option (Els (t' :: ts))} (hf : OfOk f t.pv) (hg : RowOk g (rowPV (t' :: ts))) : RowOk (consOf f g) (rowPV (t :: t' :: ts)) := by
  intro r x h
  unfold consOf at h
  split at h
  · rename_i p ps
    split at h
    · rename_i a b h1 h2
      cases h
      obtain ⟨g1, g2⟩ := hg ps b h2
      refine ⟨by show (t.pv a :: rowPV (t' :: ts) b).length = _; simp only [List.length_cons, g1], fun j q hq => ?_⟩
      have hq : (t.pv a :: rowPV (t' :: ts) b)[j]? = some q := hq
      cases j with
      | zero => simp only [List.getElem?_cons_zero, Option.some.injEq] at hq; subst hq; exact ⟨p, rfl, fun M v hp => hf p a h1 M v hp⟩
      | succ j => simp only [List.getElem?_cons_succ] at hq; simpa using g2 j q hq
    · cases h
  · cases h
theorem of_ok : ∀ (n : Nat), (∀ (t : Ty), SizeOf.sizeOf t ≤ n → OfOk t.of t.pv) ∧ (∀ (ts : List Ty), SizeOf.sizeOf ts ≤ n → RowOk (ofRow ts) (rowPV ts)) := by
  intro n
  induction n with
  | zero => exact ⟨fun t ht => by (cases t <;> simp at ht), fun ts ht => by (cases ts <;> simp at ht)⟩
  | succ n ih =>
    obtain ⟨ih1, ih2⟩ := ih
    refine ⟨fun t ht => ?_, fun ts ht => ?_⟩
    · match t, ht with
      | .int k, ht => exact intOf_ok k
      | .bool, ht => exact boolOf_ok
      | .str, ht => exact strOf_ok
      | .seq row, ht => exact seqOf_ok (ih2 row (by simp at ht; omega))
    · match ts, ht with
      | [], ht => exact nilOf_ok
      | [t], ht => exact oneOf_ok (ih1 t (by simp at ht; omega))
      | t :: t' :: ts, ht => exact consOf_ok (ih1 t (by simp at ht; omega)) (ih2 (t' :: ts) (by simp at ht ⊢; omega))
theorem Ty.of_sound {t : Ty} {p : PV} {x : t.El} (h : t.of p = some x) {M : Imm} {v : Value} (hp : PRep M v p) : PRep M v (t.pv x) := (of_ok (SizeOf.sizeOf t)).1 t (Nat.le_refl _) p x h M v hp
theorem ofRow_sound {ts : List Ty} {r : List PV} {x : Els ts} (h : ofRow ts r = some x) : (rowPV ts x).length = r.length ∧ ∀ (j : Nat) (q : PV), (rowPV ts x)[j]? = some q → ∃ p, r[j]? = some p ∧ ∀ (M : Imm) (v : Value), PRep M v p → PRep M v q :=
  (of_ok (SizeOf.sizeOf ts)).2 ts (Nat.le_refl _) r x h
theorem rowsPV_getD {row : List Ty} {l : List (Els row)} {r : Nat} (h : r < l.length) : (rowsPV row l).getD r [] = rowPV row (l.getD r (Els.dflt row)) := by
  simp [rowsPV, List.getD, h]
def EqOk {X : Type} (eq : X → X → Bool) : Prop := ∀ a b, eq a b = true → a = b
def listEq {α : Type} (f : α → α → Bool) : List α → List α → Bool
  | [], [] => true
  | x :: l, y :: m => match f x y with
    | true => listEq f l m
    | false => false
  | _, _ => false
theorem listEq_ok {α : Type} {f : α → α → Bool} (hf : EqOk f) : EqOk (listEq f)
  | [], [], _ => rfl
  | [], _ :: _, h => by cases h
  | _ :: _, [], h => by cases h
  | x :: l, y :: m, h => by
    simp only [listEq] at h
    split at h
    · rename_i e; rw [hf _ _ e, listEq_ok hf l m h]
    · cases h
def pairEq {α β : Type} (f : α → α → Bool) (g : β → β → Bool) (x y : α × β) : Bool := match f x.1 y.1 with
  | true => g x.2 y.2
  | false => false
theorem pairEq_ok {α β : Type} {f : α → α → Bool} {g : β → β → Bool} (hf : EqOk f) (hg : EqOk g) : EqOk (pairEq f g) := by
  intro ⟨a, b⟩ ⟨c, d⟩ h
  simp only [pairEq] at h
  split at h
  · rename_i e
    have h1 := hf a c e; have h2 := hg b d h
    subst h1; subst h2; rfl
  · cases h
def sumEq {α β : Type} (f : α → α → Bool) (g : β → β → Bool) : α ⊕ β → α ⊕ β → Bool
  | .inl a, .inl b => f a b
  | .inr a, .inr b => g a b
  | _, _ => false
theorem sumEq_ok {α β : Type} {f : α → α → Bool} {g : β → β → Bool} (hf : EqOk f) (hg : EqOk g) : EqOk (sumEq f g) := by
  intro x y h
  cases x <;> cases y <;> first | (cases h; done) | (simp only [sumEq] at h; first | rw [hf _ _ h] | rw [hg _ _ h])
def intEq (a b : Int) : Bool := decide (a = b)
def boolEq (a b : Bool) : Bool := match a, b with
  | true, true => true
  | false, false => true
  | _, _ => false
def strEq (a b : ByteArray) : Bool := decide (a = b)
def unitEq (_ _ : Unit) : Bool := true
mutual
def Ty.eqv : (t : Ty) → t.El → t.El → Bool
  | .int _ => intEq
  | .bool => boolEq
  | .str => strEq
  | .seq row => listEq (Els.eqv row)
def Els.eqv : (ts : List Ty) → Els ts → Els ts → Bool
  | [] => unitEq
  | [t] => t.eqv
  | t :: t' :: ts => pairEq t.eqv (Els.eqv (t' :: ts))
end
theorem intEq_ok : EqOk intEq := fun a b h => of_decide_eq_true h
theorem strEq_ok : EqOk strEq := fun a b h => of_decide_eq_true h
theorem boolEq_ok : EqOk boolEq := by intro a b h; cases a <;> cases b <;> first | rfl | cases h
theorem eqv_ok : ∀ (n : Nat), (∀ (t : Ty), SizeOf.sizeOf t ≤ n → EqOk t.eqv) ∧ (∀ (ts : List Ty), SizeOf.sizeOf ts ≤ n → EqOk (Els.eqv ts)) := by
  intro n
  induction n with
  | zero => exact ⟨fun t ht => by (cases t <;> simp at ht), fun ts ht => by (cases ts <;> simp at ht)⟩
  | succ n ih =>
    obtain ⟨ih1, ih2⟩ := ih
    refine ⟨fun t ht => ?_, fun ts ht => ?_⟩
    · match t, ht with
      | .int k, ht => exact intEq_ok
      | .bool, ht => exact boolEq_ok
      | .str, ht => exact strEq_ok
      | .seq row, ht => exact listEq_ok (ih2 row (by simp at ht; omega))
    · match ts, ht with
      | [], ht => exact fun a b h => rfl
      | [t], ht => exact ih1 t (by simp at ht; omega)
      | t :: t' :: ts, ht => exact pairEq_ok (ih1 t (by simp at ht; omega)) (ih2 (t' :: ts) (by simp at ht ⊢; omega))
theorem Ty.eqv_ok (t : Ty) : EqOk t.eqv := (Sx.eqv_ok _).1 t (Nat.le_refl _)
theorem Els.eqv_ok (ts : List Ty) : EqOk (Els.eqv ts) := (Sx.eqv_ok _).2 ts (Nat.le_refl _)
def ATy.eqv : (a : ATy) → a.El → a.El → Bool
  | .val t => t.eqv
  | .agg row => Els.eqv row
theorem ATy.eqv_ok : ∀ (a : ATy), EqOk a.eqv
  | .val t => Ty.eqv_ok t
  | .agg row => Els.eqv_ok row
theorem strEq_toList (a b : ByteArray) : (a.toList == b.toList) = strEq a b := by
  unfold strEq
  rw [Bool.eq_iff_iff, ByteArray.toList_eq, ByteArray.toList_eq]; simp [ByteArray.ext_iff]
theorem strEq_beq (a b : ByteArray) : (a == b) = strEq a b := by
  unfold strEq
  cases a; cases b
  rename_i x y
  show (x == y) = _
  rw [Bool.eq_iff_iff, beq_iff_eq]; simp [ByteArray.mk.injEq]
def Ty.scalar : Ty → Bool
  | .seq _ => false
  | _ => true
def ATy.scalar : ATy → Bool
  | .val t => t.scalar
  | .agg row => row.all Ty.scalar
end Go.Sx

/- Part D of the own logic: types, and the reading and writing of memory. -/
import Derived.Test.YtdghdcclhnoigaaGreatDoorXSxC
import Derived.Deep.MidRow
import Derived.Laws.CopyRow
import Derived.Laws.AppendOwn
set_option linter.unusedVariables false
set_option linter.unusedSimpArgs false
namespace Go.Sx
open Go
structure TI where
  desc : TypeDesc
  size : Nat
  bytes : Nat
  zero : Value
  row : Option (List Ty) := none
abbrev Tab := List (Nat × TI)
structure TabOk (P : Program) (tab : Tab) : Prop where
  und : tab.map (fun x => P.underlying x.1) = tab.map (fun x => some x.2.desc)
  siz : tab.map (fun x => (P.info? x.1).map (·.size)) = tab.map (fun x => some x.2.size)
  byt : tab.map (fun x => (P.info? x.1).map (·.bytes)) = tab.map (fun x => some x.2.bytes)
  zer : tab.map (fun x => (P.info? x.1).bind (·.zero)) = tab.map (fun x => some x.2.zero)
  one : (tab.all fun x => x.2.zero.cells.size == x.2.size && x.2.zero.cells.all (·.oneCell') && (x.2.desc.isRow || x.2.size == 1)) = true
theorem lookup_mem {α : Type} {l : List (Nat × α)} {t : Nat} {x : α} (h : l.lookup t = some x) : (t, x) ∈ l := by
  induction l with
  | nil => simp at h
  | cons y l ih =>
    obtain ⟨k, v⟩ := y
    rw [List.lookup_cons] at h
    split at h
    · rename_i e; simp at e; cases h; simp [e]
    · exact List.mem_cons_of_mem _ (ih h)
theorem map_eq_mem {α β : Type} {f g : α → β} : ∀ {l : List α}, l.map f = l.map g → ∀ x ∈ l, f x = g x
  | [], _, x, h => by cases h
  | y :: l, h, x, hx => by
    simp only [List.map_cons, List.cons.injEq] at h
    rcases List.mem_cons.1 hx with rfl | hx
    · exact h.1
    · exact map_eq_mem h.2 x hx
structure TyOk (P : Program) (t : TypeId) (i : TI) : Prop where
  und : P.underlying t = some i.desc
  inf : ∃ n, P.info? t = some n ∧ n.size = i.size ∧ n.bytes = i.bytes ∧ n.zero = some i.zero
  zsz : i.zero.cells.size = i.size
  zon : i.zero.cells.all (·.oneCell') = true
  row : i.desc.isRow = false → i.size = 1
theorem TabOk.get {P : Program} {tab : Tab} (h : TabOk P tab) {t : Nat} {i : TI} (hi : tab.lookup t = some i) : TyOk P t i := by
  have hm := lookup_mem hi
  have h1 := map_eq_mem h.und _ hm
  have h2 := map_eq_mem h.siz _ hm
  have h3 := map_eq_mem h.byt _ hm
  have h4 := map_eq_mem h.zer _ hm
  have h5 := List.all_eq_true.1 h.one _ hm
  simp only [Bool.and_eq_true, beq_iff_eq, Bool.or_eq_true] at h5 h1 h2 h3 h4
  cases e : P.info? t with
  | none => simp [e] at h2
  | some n =>
    simp [e] at h2 h3 h4
    exact ⟨h1, ⟨n, e, h2, h3, h4⟩, h5.1.1, h5.1.2, fun hr => by rcases h5.2 with h | h; rw [hr] at h; cases h; exact h⟩
theorem TabOk.nil (P : Program) : TabOk P [] := ⟨rfl, rfl, rfl, rfl, rfl⟩
def mkTI (t u : TypeInfo) : TI := { desc := u.desc, size := t.size, bytes := t.bytes, zero := t.zero.getD (.bool false) }
def tiOk (i : TI) : Bool := i.zero.cells.size == i.size && i.zero.cells.all (·.oneCell') && (i.desc.isRow || i.size == 1)
theorem TabOk.cons {P : Program} {t : Nat} {i j : TypeInfo} {rest : Tab} (hi : P.info? t = some i) (hu : P.underlying t = some j.desc) (hz : i.zero.isSome = true) (h1 : tiOk (mkTI i j) = true) (hr : TabOk P rest) : TabOk P ((t, mkTI i j) :: rest) := by
  obtain ⟨z, hz⟩ := Option.isSome_iff_exists.1 hz
  refine ⟨?_, ?_, ?_, ?_, ?_⟩
  · simp only [List.map_cons, hr.und, hu]; rfl
  · simp only [List.map_cons, hr.siz, hi]; rfl
  · simp only [List.map_cons, hr.byt, hi]; rfl
  · simp only [List.map_cons, hr.zer, hi]; simp [mkTI, hz]
  · simp only [List.all_cons, hr.one, Bool.and_true]; exact h1
theorem TabOk.consR {P : Program} {t : Nat} {i j : TypeInfo} {rest : Tab} {r : Option (List Ty)} (hi : P.info? t = some i) (hu : P.underlying t = some j.desc) (hz : i.zero.isSome = true) (h1 : tiOk (mkTI i j) = true) (hr : TabOk P rest) : TabOk P ((t, { mkTI i j with row := r }) :: rest) := by
  have h := TabOk.cons hi hu hz h1 hr
  exact ⟨h.und, h.siz, h.byt, h.zer, h.one⟩
inductive Res where
  | fail
  | ok (x : SV)
  | eff (x : SV) (H : List SObj) (tch fg : List Nat)
  | need (c : Bool) (r : Res)
  | split (c : Bool) (a b : Res)
def Res.holds (H : List SObj) (K : Post) : Res → Prop
  | .fail => False
  | .ok x => K x H [] []
  | .eff x H' t g => K x H' t g
  | .need c r => c = true ∧ r.holds H K
  | .split c a b => (c = true → a.holds H K) ∧ (c = false → b.holds H K)
theorem Res.holds_mono {H : List SObj} {K K' : Post} (hk : ∀ x H' t g, K x H' t g → K' x H' t g) : ∀ {r : Res}, r.holds H K → r.holds H K'
  | .fail, h => h
  | .ok x, h => hk _ _ _ _ h
  | .eff x H' t g, h => hk _ _ _ _ h
  | .need c r, h => ⟨h.1, Res.holds_mono hk h.2⟩
  | .split c a b, h => ⟨fun e => Res.holds_mono hk (h.1 e), fun e => Res.holds_mono hk (h.2 e)⟩
def Seen (K : Post) : Post := fun x H t f => ∃ y, (∀ M ρ v, SRep M ρ v x → SRep M ρ v y) ∧ K y H t f
theorem Seen.of {K : Post} {x : SV} {H : List SObj} {t f : List Nat} (h : K x H t f) : Seen K x H t f := ⟨x, fun _ _ _ h => h, h⟩
def SV.untyped : SV → SV
  | .pv (.tsl row l) => .pv (.rsl row.length (rowsPV row l))
  | .pv (.tptr row l i j) => .pv (.rptr row.length (rowsPV row l) i j)
  | x => x
theorem SRep.untyped {M : Imm} {ρ : Env} {v : Value} {x : SV} (h : SRep M ρ v x) : SRep M ρ v x.untyped := by
  unfold SV.untyped
  split
  · cases h with
    | pv h => cases h with
      | tsl _ _ h => exact .pv h
  · cases h with
    | pv h => cases h with
      | tptr _ _ _ _ h => exact .pv h
  · exact h
def DoesV (P : Program) (S : Sem Value) (M : Imm) (ρ : Env) (H : List SObj) (w : World) (K : Post) : Prop :=
  ∃ v w', S.run P w = .ok v w' ∧ ∃ x H' tch fg M' ρ', K x H' tch fg ∧ SRep M' ρ' v x ∧ Mem M' ρ' H' w' ∧ Fr M ρ H w M' ρ' H' w' H.length tch fg
def DoesU (P : Program) (S : Sem Unit) (M : Imm) (ρ : Env) (H : List SObj) (w : World) (K : Post) : Prop :=
  ∃ w', S.run P w = .ok () w' ∧ ∃ x H' tch fg M' ρ', K x H' tch fg ∧ x = .any ∧ Mem M' ρ' H' w' ∧ Fr M ρ H w M' ρ' H' w' H.length tch fg
theorem DoesV.same {P : Program} {S : Sem Value} {M : Imm} {ρ : Env} {H : List SObj} {w : World} {K : Post} {v : Value} {x : SV} (hm : Mem M ρ H w) (hr : S.run P w = .ok v w) (hx : SRep M ρ v x) (hk : K x H [] []) : DoesV P S M ρ H w K :=
  ⟨v, w, hr, x, H, [], [], M, ρ, hk, hx, hm, Fr.refl ..⟩
theorem DoesV.seen {P : Program} {S : Sem Value} {M : Imm} {ρ : Env} {H : List SObj} {w : World} {K : Post} (h : DoesV P S M ρ H w (Seen K)) : DoesV P S M ρ H w K := by
  obtain ⟨v, w', hr, x, H', t, f, M', ρ', ⟨y, hy, hk⟩, hs, hm, hf⟩ := h
  exact ⟨v, w', hr, y, H', t, f, M', ρ', hk, hy _ _ _ hs, hm, hf⟩
theorem splice_get {α : Type} (l v : List α) (f k : Nat) (h : f + v.length ≤ l.length) :
    (l.take f ++ v ++ l.drop (f + v.length))[k]? = if k < f then l[k]? else if k < f + v.length then v[k - f]? else l[k]? := by
  have ht : (l.take f).length = f := by simp; omega
  rw [List.append_assoc, List.getElem?_append]
  split
  · rename_i hk; rw [ht] at hk; rw [if_pos hk, List.getElem?_take]; simp [hk]
  · rename_i hk; rw [ht] at hk
    rw [if_neg hk, ht, List.getElem?_append]
    split
    · rename_i hk2; rw [if_pos (by omega)]
    · rename_i hk2
      rw [if_neg (by omega), List.getElem?_drop]
      congr 1; omega
theorem flat_lt {i r sz j : Nat} (hj : j < sz) (h : i < r) : i * sz + j < r * sz := by
  have := Nat.mul_le_mul_right sz (show i + 1 ≤ r from h)
  rw [Nat.succ_mul] at this
  omega
def lits : List SV → Option (List Value)
  | [] => some []
  | .pv (.lit v) :: r => (lits r).map (v :: ·)
  | _ => none
def SV.mkAgg (l : List SV) : SV := match lits l with
  | some vs => .lit (.agg vs.toArray)
  | none => .agg l
theorem lits_eq {M : Imm} {ρ : Env} : ∀ {l : List SV} {vs : List Value} {cs : List Value}, lits l = some vs → cs.length = l.length →
    (∀ (i : Nat) (v : Value) (x : SV), cs[i]? = some v → l[i]? = some x → SRep M ρ v x) → cs = vs
  | [], vs, cs, h, hl, _ => by simp [lits] at h; subst h; simpa using hl
  | x :: l, vs, [], h, hl, _ => by simp at hl
  | x :: l, vs, c :: cs, h, hl, hr => by
    have h0 := hr 0 c x rfl rfl
    match x, h with
    | .pv (.lit v), h =>
      simp only [lits, Option.map_eq_some_iff] at h
      obtain ⟨r, hr', rfl⟩ := h
      have e := lits_eq (cs := cs) hr' (by simpa using hl) (fun i v x hv hx => hr (i + 1) v x (by simpa using hv) (by simpa using hx))
      rw [e, h0.lit_eq]
theorem SRep.mkAgg {M : Imm} {ρ : Env} {cs : List Value} {l : List SV} (hl : cs.length = l.length)
    (h : ∀ (i : Nat) (v : Value) (x : SV), cs[i]? = some v → l[i]? = some x → SRep M ρ v x) : SRep M ρ (.agg cs.toArray) (SV.mkAgg l) := by
  unfold SV.mkAgg
  split
  · rename_i vs hv; rw [lits_eq hv hl h]; exact .pv (.lit _)
  · exact .agg _ _ (by simpa using hl) fun i v x hv hx => h i v x (by simpa using hv) hx
def SV.parts (n : Nat) : SV → Option (List SV)
  | .agg l => if l.length = n then some l else none
  | .pv (.lit (.agg cs)) => if cs.size = n then some (cs.toList.map SV.lit) else none
  | .pv (.lit (.tuple _)) => none
  | .any => none
  | .tup _ => none
  | x => if n = 1 then some [x] else none
def SV.known : SV → Bool
  | .pv (.lit v) => v.oneCell'
  | .any => false
  | .agg _ => false
  | .tup _ => false
  | _ => true
theorem SRep.known {M : Imm} {ρ : Env} {v : Value} {x : SV} (h : SRep M ρ v x) (hx : x.known = true) : v.oneCell' = true := by
  cases h with
  | any => simp [SV.known] at hx
  | pv h => cases h with
    | lit => simpa [SV.known] using hx
    | tsl _ _ h => obtain ⟨_, _, _, rfl⟩ := h.slice_of; rfl
    | tptr _ _ _ _ h => obtain ⟨_, _, rfl⟩ := h.pointer_of; rfl
    | _ => rfl
  | agg => simp [SV.known] at hx
  | tup => simp [SV.known] at hx
  | _ => rfl
theorem SRep.parts {M : Imm} {ρ : Env} {v : Value} {x : SV} {n : Nat} {l : List SV} (h : SRep M ρ v x) (hx : x.parts n = some l) :
    v.cells.size = n ∧ l.length = n ∧ ∀ (i : Nat) (u : Value) (y : SV), v.cells[i]? = some u → l[i]? = some y → SRep M ρ u y := by
  have one : ∀ (v : Value) (x : SV) (l : List SV), v.cells = #[v] → SRep M ρ v x → (if n = 1 then some [x] else none) = some l →
      v.cells.size = n ∧ l.length = n ∧ ∀ (i : Nat) (u : Value) (y : SV), v.cells[i]? = some u → l[i]? = some y → SRep M ρ u y := by
    intro v x l hc hr hl
    split at hl
    · rename_i hn; cases hl; subst hn
      refine ⟨by simp [hc], rfl, fun i u y hu hy => ?_⟩
      rw [hc] at hu
      match i with
      | 0 => simp at hu hy; subst hu; subst hy; exact hr
      | i + 1 => simp at hy
    · cases hl
  match v, x, h with
  | v, .any, _ => simp [SV.parts] at hx
  | _, .tup l', _ => simp [SV.parts] at hx
  | _, .agg l', .agg cs _ hl hr =>
    simp only [SV.parts] at hx
    split at hx
    · rename_i hn; cases hx; exact ⟨by simp [Value.cells, hl, hn], hn, fun i u y hu hy => hr i u y (by simpa [Value.cells] using hu) hy⟩
    · cases hx
  | _, .pv _, .pv (.lit v) =>
    match v, hx with
    | .agg cs, hx =>
      simp only [SV.parts] at hx
      split at hx
      · rename_i hn; cases hx
        refine ⟨by simp [Value.cells, hn], by simp [hn], fun i u y hu hy => ?_⟩
        simp only [List.getElem?_map, Option.map_eq_some_iff, Value.cells] at hu hy
        obtain ⟨z, hz, rfl⟩ := hy
        have : u = z := by
          rw [← Array.getElem?_toList] at hu; rw [hz] at hu; exact (Option.some.inj hu).symm
        subst this; exact .pv (.lit _)
      · cases hx
    | .bool b, hx => exact one _ _ l rfl (.pv (.lit _)) hx
    | .int _ _, hx => exact one _ _ l rfl (.pv (.lit _)) hx
    | .float _ _, hx => exact one _ _ l rfl (.pv (.lit _)) hx
    | .complex _ _ _, hx => exact one _ _ l rfl (.pv (.lit _)) hx
    | .string _, hx => exact one _ _ l rfl (.pv (.lit _)) hx
    | .pointer _, hx => exact one _ _ l rfl (.pv (.lit _)) hx
    | .slice _ _ _, hx => exact one _ _ l rfl (.pv (.lit _)) hx
    | .map _, hx => exact one _ _ l rfl (.pv (.lit _)) hx
    | .chan _, hx => exact one _ _ l rfl (.pv (.lit _)) hx
    | .func _ _ _, hx => exact one _ _ l rfl (.pv (.lit _)) hx
    | .nilFunc, hx => exact one _ _ l rfl (.pv (.lit _)) hx
    | .iface _ _, hx => exact one _ _ l rfl (.pv (.lit _)) hx
    | .nilIface, hx => exact one _ _ l rfl (.pv (.lit _)) hx
    | .tuple _, hx => simp [SV.parts] at hx
  | _, .pv _, .pv (.rnil sz) => exact one _ _ l rfl (.pv (.rnil sz)) hx
  | _, .pv _, .pv (.rsl b off c sz n' rows hn hc h0 h1 h2) => exact one _ _ l rfl (.pv (.rsl b off c sz n' rows hn hc h0 h1 h2)) hx
  | _, .pv _, .pv (.tsl row l' hp) => exact one _ _ l (by obtain ⟨_, _, _, rfl⟩ := hp.slice_of; rfl) (.pv (.tsl row l' hp)) hx
  | _, .pv _, .pv (.tptr row l' i j hp) => exact one _ _ l (by obtain ⟨_, _, rfl⟩ := hp.pointer_of; rfl) (.pv (.tptr row l' i j hp)) hx
  | _, .pv _, .pv (.remp a c sz) => exact one _ _ l rfl (.pv (.remp a c sz)) hx
  | _, .pv _, .pv (.rptr b off sz i j k rows hk h0 h1 h2) => exact one _ _ l rfl (.pv (.rptr b off sz i j k rows hk h0 h1 h2)) hx
  | _, .ptr _ _ _ _, .ptr s sz i j k p hp hk => exact one _ _ l rfl (.ptr s sz i j k p hp hk) hx
  | _, .sl _ _ _ _, .sl s sz st n' c k p hp hk hc hn => exact one _ _ l rfl (.sl s sz st n' c k p hp hk hc hn) hx
  | _, .sl _ _ _ _, .slz s sz st a => exact one _ _ l rfl (.slz s sz st a) hx
  | _, .mp _, .mp s p hp => exact one _ _ l rfl (.mp s p hp) hx
  | _, .yld _, .yld s p hp => exact one _ _ l rfl (.yld s p hp) hx
  | _, .fn _ _ _, .fn f a b x y ha hb h k => exact one _ _ l rfl (.fn f a b x y ha hb h k) hx
end Go.Sx

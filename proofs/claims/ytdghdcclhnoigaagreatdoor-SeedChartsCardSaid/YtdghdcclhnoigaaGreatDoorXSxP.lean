/- Part P of the own logic: the evaluator of whole functions. -/
import Derived.Test.YtdghdcclhnoigaaGreatDoorXSxO
set_option linter.unusedVariables false
set_option linter.unusedSimpArgs false
set_option linter.unnecessarySimpa false
namespace Go.Sx
open Go

/-! ### leaving behind what nobody can reach -/
mutual
/-- no owned block at or beyond m is named -/
def SV.free (m : Nat) : SV → Bool
  | .agg l => freeL m l
  | .tup l => freeL m l
  | .fn _ a b => freeL m a && freeL m b
  | .ptr s _ _ _ => Nat.blt s m
  | .sl s _ _ _ => Nat.blt s m
  | .mp s => Nat.blt s m
  | .yld s => Nat.blt s m
  | .any => true
  | .pv _ => true
def freeL (m : Nat) : List SV → Bool
  | [] => true
  | x :: xs => x.free m && freeL m xs
end

theorem blt_lt {a b : Nat} (h : Nat.blt a b = true) : a < b := by rw [Nat.blt_eq] at h; exact h

theorem junk_lt {m n s : Nat} (h : s < m) : (junk m n).contains s = false := by
  simp [junk]; omega

mutual
theorem SV.forget_free {m n : Nat} : ∀ (x : SV), x.free m = true → x.forget (junk m n) = x
  | .agg l, h => by simp only [SV.free] at h; simp only [SV.forget, forgetL_free l h]
  | .tup l, h => by simp only [SV.free] at h; simp only [SV.forget, forgetL_free l h]
  | .fn _ a b, h => by
    simp only [SV.free, Bool.and_eq_true] at h
    simp only [SV.forget, forgetL_free a h.1, forgetL_free b h.2]
  | .ptr s _ _ _, h => by simp only [SV.forget, junk_lt (blt_lt h)]; exact if_neg (by simp)
  | .sl s _ _ _, h => by simp only [SV.forget, junk_lt (blt_lt h)]; exact if_neg (by simp)
  | .mp s, h => by simp only [SV.forget, junk_lt (blt_lt h)]; exact if_neg (by simp)
  | .yld s, h => by simp only [SV.forget, junk_lt (blt_lt h)]; exact if_neg (by simp)
  | .any, h => rfl
  | .pv _, h => rfl
theorem forgetL_free {m n : Nat} : ∀ (l : List SV), freeL m l = true → forgetL (junk m n) l = l
  | [], h => rfl
  | x :: xs, h => by
    simp only [freeL, Bool.and_eq_true] at h
    simp only [forgetL, SV.forget_free x h.1, forgetL_free xs h.2]
end

def SObj.free (m : Nat) : SObj → Bool
  | .mix _ _ rows => rows.all (freeL m)
  | .map es _ => es.all fun e => e.2.1.free m
  | .loop _ => false
  | _ => true

theorem SObj.forget_free {m n : Nat} (o : SObj) (h : o.free m = true) : o.forget (junk m n) = o := by
  cases o with
  | mix ty sz rows =>
    simp only [SObj.free, List.all_eq_true] at h
    simp only [SObj.forget, SObj.mix.injEq, true_and]
    induction rows with
    | nil => rfl
    | cons r rs ih =>
      simp only [List.map_cons, List.cons.injEq]
      refine ⟨?_, ih fun x hx => h x (List.mem_cons_of_mem _ hx)⟩
      rw [← forgetL_eq]; exact forgetL_free r (h r List.mem_cons_self)
  | map es c =>
    simp only [SObj.free, List.all_eq_true] at h
    simp only [SObj.forget, SObj.map.injEq, and_true]
    induction es with
    | nil => rfl
    | cons e es ih =>
      simp only [List.map_cons, List.cons.injEq]
      refine ⟨?_, ih fun x hx => h x (List.mem_cons_of_mem _ hx)⟩
      rw [SV.forget_free _ (h e List.mem_cons_self)]
  | loop l => cases h
  | _ => rfl

/-- of the caller's objects, only those in t are other than before -/
def restore (t : List Nat) : Nat → List SObj → List SObj → List SObj
  | _, [], _ => []
  | i, o :: H, H' => (bif t.contains i then H'.headD .dead else o) :: restore t (i + 1) H H'.tail

theorem restore_get (t : List Nat) : ∀ (H : List SObj) (i : Nat) (H' : List SObj) (s : Nat), H.length ≤ H'.length → (restore t i H H')[s]? = if s < H.length then (if t.contains (i + s) then H'[s]? else H[s]?) else none
  | [], i, H', s, _ => by simp [restore]
  | o :: H, i, [], s, h => by simp at h
  | o :: H, i, o' :: H', s, h => by
    cases s with
    | zero =>
      simp only [restore, List.getElem?_cons_zero, List.length_cons, Nat.zero_lt_succ, if_true, Nat.add_zero, List.headD_cons]
      cases t.contains i <;> rfl
    | succ s =>
      simp only [restore, List.getElem?_cons_succ, List.tail_cons, List.length_cons, Nat.succ_lt_succ_iff]
      rw [restore_get t H (i + 1) H' s (by simpa using h)]
      rw [show i + 1 + s = i + (s + 1) by omega]

theorem restore_len (t : List Nat) : ∀ (H : List SObj) (i : Nat) (H' : List SObj), (restore t i H H').length = H.length
  | [], i, H' => rfl
  | o :: H, i, H' => by simp [restore, restore_len t H]

def restoreH (t : List Nat) (H H' : List SObj) : List SObj := match t with
  | [] => H
  | _ => restore t 0 H H'

theorem restoreH_get (t : List Nat) (H H' : List SObj) (s : Nat) (h : H.length ≤ H'.length) : (restoreH t H H')[s]? = if s < H.length then (if t.contains s then H'[s]? else H[s]?) else none := by
  unfold restoreH
  split
  · split
    · simp
    · rename_i h; simp [Nat.le_of_not_lt h]
  · rw [restore_get _ _ _ _ _ h]; simp

theorem restoreH_len (t : List Nat) (H H' : List SObj) : (restoreH t H H').length = H.length := by
  unfold restoreH
  split
  · rfl
  · exact restore_len _ _ _ _

/-- the caller's part of what a call leaves -/
theorem leave_core {M M' : Imm} {ρ ρ' : Env} {H H' : List SObj} {w w' : World} {t : List Nat} (hm : Mem M ρ H w) (hm' : Mem M' ρ' H' w') (hf : Fr M ρ H w M' ρ' H' w' H.length t [])
    (hlen : H.length ≤ H'.length) (hobj : ∀ s ∈ t, ∀ o, H'[s]? = some o → s < H.length → o.free H.length = true) :
    Mem (M'.sealing ρ' H' H.length w') (ρ'.cut H.length) (restoreH t H H') w' ∧ Fr M ρ H w (M'.sealing ρ' H' H.length w') (ρ'.cut H.length) (restoreH t H H') w' H.length t [] := by
  have hb := cut_leBut hm' H.length
  have hsl := Imm.seal_le M' ρ' H' H.length w'
  have hc : ∀ s, s < H.length → ρ'.cut H.length s = ρ' s := fun s hs => by simp [Env.cut, hs]
  have hst : ∀ s, s < H.length → ρ' s = ρ s := fun s hs => hf.stay s hs (by simp)
  have hle : ρ.le (ρ'.cut H.length) := fun s p hp => by
    rcases Nat.lt_or_ge s H.length with h' | h'
    · rw [hc s h', hst s h']; exact hp
    · rw [hm.fresh s h'] at hp; cases hp
  have hget : ∀ (s : Nat) (o : SObj), (restoreH t H H')[s]? = some o → s < H.length ∧ ((s ∈ t ∧ H'[s]? = some o) ∨ (s ∉ t ∧ H[s]? = some o)) := fun s o ho => by
    rw [restoreH_get _ _ _ _ hlen] at ho
    split at ho
    · rename_i h1
      split at ho
      · rename_i h2; exact ⟨h1, .inl ⟨by simpa using h2, ho⟩⟩
      · rename_i h2; exact ⟨h1, .inr ⟨by simpa using h2, ho⟩⟩
    · cases ho
  have hlive : ∀ (s : Nat) (o : SObj), (restoreH t H H')[s]? = some o → o.live = true → ∃ o', H'[s]? = some o' ∧ o'.live = true := fun s o ho hl => by
    obtain ⟨h1, ⟨_, h2⟩ | ⟨h3, h2⟩⟩ := hget s o ho
    · exact ⟨o, h2, hl⟩
    · exact (hf.keep s o h1 h3 h2 hl).1
  have rl : ∀ o : SObj, o.rowsy = true → o.live = true := fun o ho => by cases o <;> simp_all [SObj.rowsy, SObj.live]
  refine ⟨?_, ?_⟩
  · refine ⟨fun b o hb' => ?_, fun s o ho => ?_, fun s o p ho hl hp => ?_, fun s s' o o' p p' ho ho' hl hl' hp hp' hbk => ?_, fun s hs => ?_⟩
    · cases e : M' b with
      | some o' => rw [hsl b o' e] at hb'; cases hb'; exact hm'.imm b _ e
      | none => exact (Imm.seal_new e hb').2
    · obtain ⟨h1, ⟨h3, h2⟩ | ⟨h3, h2⟩⟩ := hget s o ho
      · have := (hm'.own s o h2).forget hsl hb (hc s h1) (fun _ _ => rfl)
        rwa [SObj.forget_free o (hobj s h3 o h2 h1)] at this
      · by_cases hl : o.live = true
        · refine (hm.own s o h2).mono (Imm.le_trans hf.imm hsl) hle ((hc s h1).trans (hst s h1)) fun p hp => ?_
          exact ((hf.keep s o h1 h3 h2 hl).2 p hp).2
        · cases o <;> first | trivial | exact absurd rfl hl
    · obtain ⟨h1, _⟩ := hget s o ho
      obtain ⟨o', h2, h3⟩ := hlive s o ho hl
      rw [hc s h1] at hp
      have h0 := hm'.sep s o' p h2 h3 hp
      cases e : M'.sealing ρ' H' H.length w' p.block with
      | none => rfl
      | some q =>
        obtain ⟨⟨s2, o2, p2, k1, k2, k3, k4, k5⟩, _⟩ := Imm.seal_new h0 e
        have := hm'.dis s s2 o' o2 p p2 h2 k2 h3 (rl o2 k3) hp k4 k5.symm
        omega
    · obtain ⟨h1, _⟩ := hget s o ho
      obtain ⟨k1, _⟩ := hget s' o' ho'
      obtain ⟨o2, h2, h3⟩ := hlive s o ho hl
      obtain ⟨o3, k2, k3⟩ := hlive s' o' ho' hl'
      rw [hc s h1] at hp; rw [hc s' k1] at hp'
      exact hm'.dis s s' o2 o3 p p' h2 k2 h3 k3 hp hp' hbk
    · rw [restoreH_len] at hs
      simp [Env.cut, Nat.not_lt.2 hs]
  · refine ⟨Imm.le_trans hf.imm hsl, fun b o h0 h1 => ?_, fun b hb' => ?_, hf.same, hf.grow, fun s o hs hx ho hl => ?_, fun s hs hx => ?_, hf.io⟩
    · cases e : M' b with
      | some o' => exact hf.new b o' h0 e
      | none =>
        obtain ⟨⟨s2, o2, p2, k1, k2, k3, k4, k5⟩, _⟩ := Imm.seal_new e h1
        exact hf.own b ⟨s2, o2, p2, k2, rl o2 k3, k4, k5⟩
    · obtain ⟨s, o, p, h1, h2, h3, h4⟩ := hb'
      obtain ⟨k1, _⟩ := hget s o h1
      obtain ⟨o', k2, k3⟩ := hlive s o h1 h2
      rw [hc s k1] at h3
      exact hf.own b ⟨s, o', p, k2, k3, h3, h4⟩
    · refine ⟨⟨o, ?_, hl⟩, fun p hp => ?_⟩
      · rw [restoreH_get _ _ _ _ hlen, if_pos hs, if_neg (by simpa using hx)]; exact ho
      · obtain ⟨_, h3⟩ := hf.keep s o hs hx ho hl
        obtain ⟨k1, k2⟩ := h3 p hp
        exact ⟨by rw [hc s hs]; exact k1, k2⟩
    · rw [hc s hs]; exact hst s hs

/-- a result that leans on nothing that the call has made, or on what has become immutable -/
def frzV (H : List SObj) (n k : Nat) (x : SV) : Option SV := match x.free n with
  | true => some x
  | false => (frz H n k x).map .pv

def frzL (H : List SObj) (n k : Nat) : List SV → Option (List SV)
  | [] => some []
  | x :: l => match frzV H n k x, frzL H n k l with
    | some y, some ys => some (y :: ys)
    | _, _ => none

def frzS (H : List SObj) (n k : Nat) (x : SV) : Option SV := match x.free n with
  | true => some x
  | false => match x with
    | .tup l => (frzL H n k l).map .tup
    | x => (frz H n k x).map .pv

theorem frzV_sound {M : Imm} {ρ : Env} {H : List SObj} {w : World} {n k : Nat} (hm : Mem M ρ H w) {x y : SV} {v : Value} (h : frzV H n k x = some y) (hr : SRep M ρ v x) : SRep (M.sealing ρ H n w) (ρ.cut n) v y := by
  unfold frzV at h
  split at h
  · rename_i e
    cases h
    have := hr.forget (Imm.seal_le M ρ H n w) (cut_leBut hm n)
    rwa [SV.forget_free x e] at this
  · simp only [Option.map_eq_some_iff] at h
    obtain ⟨p, hp, rfl⟩ := h
    exact .pv (frz_sound hm k x p v hp hr)

theorem frzL_sound {M : Imm} {ρ : Env} {H : List SObj} {w : World} {n k : Nat} (hm : Mem M ρ H w) : ∀ {l l' : List SV}, frzL H n k l = some l' → l'.length = l.length ∧
    ∀ (i : Nat) (v : Value) (y : SV), l'[i]? = some y → (∀ x, l[i]? = some x → SRep M ρ v x) → SRep (M.sealing ρ H n w) (ρ.cut n) v y
  | [], l', h => by simp [frzL] at h; subst h; simp
  | x :: l, l', h => by
    simp only [frzL] at h
    split at h
    · rename_i y ys h1 h2
      cases h
      obtain ⟨g1, g2⟩ := frzL_sound hm h2
      refine ⟨by simp [g1], fun i v z hz hx => ?_⟩
      cases i with
      | zero => simp at hz; subst hz; exact frzV_sound hm h1 (hx x rfl)
      | succ i => simp at hz; exact g2 i v z hz fun x' hx' => hx x' (by simpa using hx')
    · cases h

theorem frzS_sound {M : Imm} {ρ : Env} {H : List SObj} {w : World} {n k : Nat} (hm : Mem M ρ H w) {x y : SV} {v : Value} (h : frzS H n k x = some y) (hr : SRep M ρ v x) : SRep (M.sealing ρ H n w) (ρ.cut n) v y := by
  by_cases e : x.free n = true
  · exact frzV_sound (k := k) hm (by simp only [frzS, e] at h; simp only [frzV, e]; exact h) hr
  · have e : x.free n = false := by simpa using e
    simp only [frzS, e] at h
    split at h
    · rename_i l
      simp only [Option.map_eq_some_iff] at h
      obtain ⟨l', hl', rfl⟩ := h
      obtain ⟨g1, g2⟩ := frzL_sound hm hl'
      cases hr with
      | tup cs _ hl hrep => exact .tup cs l' (by rw [g1]; exact hl) fun i v y hv hy => g2 i v y hy fun x hx => hrep i v x hv hx
    · exact frzV_sound (k := k) hm (by simp only [frzV, e]; exact h) hr

/-- how a call may be left -/
def Left (H : List SObj) (K : Post) (r : SV) (H' : List SObj) (t g : List Nat) : Prop :=
  (g = [] ∧ H.length ≤ H'.length ∧ (∀ s ∈ t, ∀ o, H'[s]? = some o → s < H.length → o.free H.length = true) ∧ ∃ r' k, frzS H' H.length k r = some r' ∧ K r' (restoreH t H H') t []) ∨ K r H' t g

theorem SCall.leave {P : Program} {f : FuncId} {args : List SV} {H : List SObj} {K : Post} (h : SCall P f args H fun r H' t g => Left H K r H' t g) : SCall P f args H K := by
  intro M ρ w vs hm hr
  refine (h M ρ w vs hm hr).mono ?_
  rintro e w' ⟨v, r, H', M', ρ', t, g, he, hk, hs, hm', hf⟩
  refine hk.elim (fun hk => ?_) (fun hk => ⟨v, _, _, M', ρ', t, g, he, hk, hs, hm', hf⟩)
  obtain ⟨rfl, hlen, hobj, r', k, hfr, hk⟩ := hk
  obtain ⟨g1, g2⟩ := leave_core hm hm' hf hlen hobj
  exact ⟨v, r', _, _, _, t, [], he, hk, frzS_sound hm' hfr hs, g1, g2⟩

/-! ### the evaluator -/
/-- summaries of functions that are not to be walked through -/
structure Ext where
  sum : Nat → List SV → List SObj → Option (SV × List SObj × List Nat × List Nat)
  /-- what functions are to be walked apart, and what they may be guessed to return -/
  guess : Nat → List SV → List SV
  /-- whose results become immutable -/
  still : Nat → Bool

structure Ext.Ok (cx : Cx) (ext : Ext) : Prop where
  ok : ∀ g args H r H' t f, ext.sum g args H = some (r, H', t, f) → (∃ fn, cx.fns.lookup g = some fn) ∧ SCall cx.P g args H fun x h u v => x = r ∧ h = H' ∧ u = t ∧ v = f

def noExt : Ext := { sum := fun _ _ _ => none, guess := fun _ _ => [], still := fun _ => false }

theorem noExt_ok (cx : Cx) : Ext.Ok cx noExt := ⟨fun g args H r H' t f h => by simp [noExt] at h⟩

def touchedFree (n : Nat) (H' : List SObj) : List Nat → Bool
  | [] => true
  | s :: t => (match H'[s]? with
    | some o => o.free n
    | none => true) && touchedFree n H' t

def leaveB (z : Bool) (H : List SObj) (r : SV) (H' : List SObj) (t g : List Nat) (k : KB) : Bool :=
  match g.isEmpty && (Nat.ble H.length H'.length && ((z || r.free H.length) && touchedFree H.length H' t)) with
  | true => match frzS H' H.length 1000 r with
    | some r' => k r' (restoreH t H H') t []
    | none => k r H' t g
  | false => k r H' t g

def resB (cx : Cx) (s : St) : List ResultVar → (List SV → Bool) → Bool
  | [], k => k []
  | .tmp t :: rs, k => resB cx s rs fun l => k (s.ev (.tmp t) :: l)
  | .cell a t :: rs, k => (sLoad cx.tab s.H t (s.ev (.tmp a))).run s.H fun x _ _ _ => resB cx s rs fun l => k (x :: l)

def endB (cx : Cx) (fn : Func) (z : Bool) (H : List SObj) (k : KB) : KE := fun e s =>
  match (match e with | .normal => true | .ret => true | _ => false) && (s.marks.isEmpty || Nat.ble H.length s.H.length) with
  | true => match shut s.marks s.H with
    | none => false
    | some H' => resB cx { s with H := H', marks := [] } fn.results.toList fun l => leaveB z H (retV l) H' s.tch s.fg k
  | false => false

def simpleEq : Value → Value → Bool
  | .int k a, .int l b => decide (k = l) && decide (a = b)
  | .bool a, .bool b => match a, b with
    | true, true => true
    | false, false => true
    | _, _ => false
  | .string a, .string b => decide (a.data.toList = b.data.toList)
  | .slice none a b, .slice none c d => Nat.beq a c && Nat.beq b d
  | _, _ => false

theorem simpleEq_eq {u v : Value} (h : simpleEq u v = true) : u = v := by
  unfold simpleEq at h
  split at h
  · simp only [Bool.and_eq_true, decide_eq_true_eq] at h; rw [h.1, h.2]
  · split at h <;> first | rfl | cases h
  · rename_i a b
    have := of_decide_eq_true h
    have e : a = b := ByteArray.ext (Array.toList_inj.1 this)
    rw [e]
  · simp only [Bool.and_eq_true] at h
    rw [Nat.eq_of_beq_eq_true h.1, Nat.eq_of_beq_eq_true h.2]
  · cases h

mutual
def pvEq : Nat → PV → PV → Bool
  | k + 1, .lit u, .lit v => simpleEq u v
  | k + 1, .rsl a r, .rsl b s => Nat.beq a b && rowsEq k r s
  | _, _, _ => false
def rowEq : Nat → List PV → List PV → Bool
  | k + 1, [], [] => true
  | k + 1, x :: l, y :: m => pvEq k x y && rowEq k l m
  | _, _, _ => false
def rowsEq : Nat → List (List PV) → List (List PV) → Bool
  | k + 1, [], [] => true
  | k + 1, x :: l, y :: m => rowEq k x y && rowsEq k l m
  | _, _, _ => false
end

theorem pvEq_all : ∀ (k : Nat), (∀ x y, pvEq k x y = true → x = y) ∧ (∀ x y, rowEq k x y = true → x = y) ∧ (∀ x y, rowsEq k x y = true → x = y)
  | 0 => ⟨fun x y h => by simp [pvEq] at h, fun x y h => by simp [rowEq] at h, fun x y h => by simp [rowsEq] at h⟩
  | k + 1 => by
    obtain ⟨h1, h2, h3⟩ := pvEq_all k
    refine ⟨fun x y h => ?_, fun x y h => ?_, fun x y h => ?_⟩
    · unfold pvEq at h
      split at h
      · rw [simpleEq_eq h]
      · simp only [Bool.and_eq_true] at h; cases Nat.eq_of_beq_eq_true h.1; cases Nat.succ.inj ‹k + 1 = _›; rw [h3 _ _ h.2]
      · cases h
    · unfold rowEq at h
      split at h
      · rfl
      · simp only [Bool.and_eq_true] at h; cases Nat.succ.inj ‹k + 1 = _›; rw [h1 _ _ h.1, h2 _ _ h.2]
      · cases h
    · unfold rowsEq at h
      split at h
      · rfl
      · simp only [Bool.and_eq_true] at h; cases Nat.succ.inj ‹k + 1 = _›; rw [h2 _ _ h.1, h3 _ _ h.2]
      · cases h

mutual
def svEq : Nat → SV → SV → Bool
  | _ + 1, .pv p, .pv q => pvEq 1000 p q
  | k + 1, .tup l, .tup m => svEqL k l m
  | _, _, _ => false
def svEqL : Nat → List SV → List SV → Bool
  | _ + 1, [], [] => true
  | k + 1, x :: l, y :: m => svEq k x y && svEqL k l m
  | _, _, _ => false
end

theorem svEq_all : ∀ (k : Nat), (∀ x y, svEq k x y = true → x = y) ∧ (∀ x y, svEqL k x y = true → x = y)
  | 0 => ⟨fun x y h => by simp [svEq] at h, fun x y h => by simp [svEqL] at h⟩
  | k + 1 => by
    obtain ⟨h1, h2⟩ := svEq_all k
    refine ⟨fun x y h => ?_, fun x y h => ?_⟩
    · unfold svEq at h
      split at h
      · rw [(pvEq_all _).1 _ _ h]
      · cases Nat.succ.inj ‹k + 1 = _›; rw [h2 _ _ h]
      · cases h
    · unfold svEqL at h
      split at h
      · rfl
      · simp only [Bool.and_eq_true] at h; cases Nat.succ.inj ‹k + 1 = _›; rw [h1 _ _ h.1, h2 _ _ h.2]
      · cases h

def sameAs (v : SV) (x : Option SV) : Bool := match x with
  | some y => svEq 100 y v
  | none => false

/-- the call ends with this value and leaves the caller's memory as it was -/
def apartB (cx : Cx) (fn : Func) (H : List SObj) (v : SV) : KE := fun e s =>
  match (match e with | .normal => true | .ret => true | _ => false) && ((s.tch.isEmpty && s.fg.isEmpty) && Nat.ble H.length s.H.length) with
  | true => match shut s.marks s.H with
    | none => false
    | some H' => Nat.ble H.length H'.length && resB cx { s with H := H', marks := [] } fn.results.toList fun l => sameAs v (frzS H' H.length 1000 (retV l))
  | false => false

abbrev Rec := Bool → Nat → Code → St → KE → Bool

def isReady : LoopState → Bool
  | .ready => true
  | _ => false

def notBusy : LoopState → Bool
  | .busy => false
  | _ => true

def roundB (rec : Rec) (s : Nat) (args : List SV) (H : List SObj) (k : KB) : Bool :=
  match H[s]? with
  | some (.loop L) => (Nat.beq L.params.toList.length args.length && L.params.toList.all fun p => Nat.blt p L.nt) && rec false L.nt L.assign (roundSt L args H) fun e s1 => match e with
    | .normal => (!s1.fg.contains s && Nat.ble H.length s1.H.length) && match s1.H[s]? with
      | some (.loop L1) => isReady L1.state && rec false L.nt L.body (busyS s L1 s1) fun e s2 => match jumpOf e with
        | none => false
        | some jump => (!s2.fg.contains s && Nat.ble H.length s2.H.length) && match s2.H[s]? with
          | some (.loop L2) => k (.lit (.bool jump.isNone)) (endedH s L2 jump s2.H) s2.tch s2.fg
          | _ => false
      | _ => false
    | _ => false
  | _ => false

def guessB (cx : Cx) (rec : Rec) (fn : Func) (c : Code) (args : List SV) (H : List SObj) (k : KB) : List SV → Bool
  | [] => false
  | v :: vs => (rec true fn.ntmps c (.entry args H) (apartB cx fn H v) && k v H [] []) || guessB cx rec fn c args H k vs

def callB (cx : Cx) (ext : Ext) (rec : Rec) : CallB
  | true, s, args, H, k => roundB rec s args H k
  | false, g, args, H, k =>
    match ext.sum g args H with
    | some (r, H', t, f) => k r H' t f
    | none => match cx.fns.lookup g with
      | none => false
      | some fn => match fn.body with
        | none => false
        | some c => Nat.ble args.length fn.ntmps && match ext.guess g args with
          | [] => rec true fn.ntmps c (.entry args H) (endB cx fn (ext.still g) H k)
          | vs => guessB cx rec fn c args H k vs

def rangeB (cx : Cx) (cb : CallB) (rec : Rec) (nt : Nat) (g : Operand) (ps : Array Tmp) (assign body : Code) (s : St) (k : KE) : Bool :=
  Nat.ble s.n0 s.H.length && match targetG (s.ev g) (.yld (s.H.length + 1)) with
  | none => false
  | some (gf, args) => cb false gf args (startH s nt ps assign body) fun r H' t f =>
    ((!f.contains s.H.length && !f.contains (s.H.length + 1)) && ((s.marks.all fun m => !f.contains m && Nat.blt m s.H.length) && Nat.ble s.n0 H'.length)) && match H'[s.H.length + 1]? with
    | some (.loop L) => notBusy L.state && match L.pending with
      | none => k .normal (afterLoop s L H' t f)
      | some c => rec true nt c (afterLoop s L H' t f) k
    | _ => false

def stepB (cx : Cx) (ext : Ext) (rec : Rec) (top : Bool) (nt : Nat) : Code → St → KE → Bool
  | .skip, s, k => k .normal s
  | .region _ ops false, s, k => vopsB cx (callB cx ext rec) nt ops ops.toList s (k .normal)
  | .region _ ops true, s, k => Region.noSelect ops && runPlan cx (callB cx ext rec) nt ops (planOf true ops ops.size (Array.replicate ops.size false)) [] s (k .normal)
  | .seq a b, s, k => rec top nt a s fun e s' => match e with
    | .normal => rec top nt b s' k
    | e => k e s'
  | .cond c a b, s, k => match s.ev c with
    | .pv (.lit (.bool t)) => match t with
      | true => rec top nt a s k
      | false => rec top nt b s k
    | _ => false
  | .block id c, s, k => rec top nt c s fun e s' => match e with
    | .exit id' => bif Nat.beq id' id then k .normal s' else k (.exit id') s'
    | e => k e s'
  | .loop c, s, k => rec top nt c s fun e s' => match e with
    | .normal => rec top nt (.loop c) s' k
    | e => k e s'
  | .rangeFunc g ps assign body, s, k => match top with
    | true => rangeB cx (callB cx ext rec) rec nt g ps assign body s k
    | false => false
  | .scope c, s, k => match top with
    | true => rec true nt c s fun e s' => match e with
      | .goto _ => false
      | e => k e s'
    | false => false
  | .exit id, s, k => k (.exit id) s
  | .label _, s, k => k .normal s
  | .ret, s, k => k .ret s
  | _, _, _ => false

def seval (cx : Cx) (ext : Ext) : Nat → Rec
  | 0 => fun _ _ _ _ _ => false
  | n + 1 => stepB cx ext (seval cx ext n)

theorem resB_sound {cx : Cx} {s : St} : ∀ (rs : List ResultVar) (k : List SV → Bool), resB cx s rs k = true → resP cx s rs fun l => k l = true
  | [], k, h => h
  | .tmp t :: rs, k, h => resB_sound rs _ h
  | .cell a t :: rs, k, h => Res.holds_mono (fun x _ _ _ h => resB_sound rs _ h) (Res.run_holds h)

theorem resP_mono {cx : Cx} {s : St} : ∀ (rs : List ResultVar) (K K' : List SV → Prop), (∀ l, K l → K' l) → resP cx s rs K → resP cx s rs K'
  | [], K, K', hk, h => hk _ h
  | .tmp t :: rs, K, K', hk, h => resP_mono rs _ _ (fun l => hk _) h
  | .cell a t :: rs, K, K', hk, h => Res.holds_mono (fun x _ _ _ h => resP_mono rs _ _ (fun l => hk _) h) h

theorem touchedFree_spec {n : Nat} {H' : List SObj} : ∀ {t : List Nat}, touchedFree n H' t = true → ∀ s ∈ t, ∀ o, H'[s]? = some o → o.free n = true
  | [], _, s, hs, _, _ => by cases hs
  | x :: t, h, s, hs, o, ho => by
    simp only [touchedFree, Bool.and_eq_true] at h
    rcases List.mem_cons.1 hs with rfl | hs
    · have := h.1; simpa [ho] using this
    · exact touchedFree_spec h.2 s hs o ho

theorem leaveB_sound {z : Bool} {H : List SObj} {r : SV} {H' : List SObj} {t g : List Nat} {k : KB} (h : leaveB z H r H' t g k = true) :
    Left H (fun x H' t f => k x H' t f = true) r H' t g := by
  unfold leaveB at h
  split at h
  · rename_i e
    simp only [Bool.and_eq_true, List.isEmpty_iff] at e
    split at h
    · rename_i r' hr'
      exact .inl ⟨e.1, Nat.le_of_ble_eq_true e.2.1, fun s hs o ho _ => touchedFree_spec e.2.2.2 s hs o ho, r', 1000, hr', h⟩
    · exact .inr h
  · exact .inr h

theorem endB_sound {cx : Cx} {fn : Func} {z : Bool} {H : List SObj} {k : KB} {e : Exit} {s : St} (h : endB cx fn z H k e s = true) :
    (e = .normal ∨ e = .ret) ∧ (H.length ≤ s.H.length ∨ s.marks = []) ∧ ∃ H', shut s.marks s.H = some H' ∧ resP cx { s with H := H', marks := [] } fn.results.toList fun l =>
      Left H (fun x H' t f => k x H' t f = true) (retV l) H' s.tch s.fg := by
  unfold endB at h
  split at h
  · rename_i hc
    simp only [Bool.and_eq_true, Bool.or_eq_true, List.isEmpty_iff] at hc
    split at h
    · cases h
    · rename_i H' hs
      refine ⟨?_, hc.2.symm.imp (fun h => Nat.le_of_ble_eq_true h) id, H', hs, resP_mono _ _ _ (fun l hl => leaveB_sound hl) (resB_sound _ _ h)⟩
      cases e with
      | normal => exact .inl rfl
      | ret => exact .inr rfl
      | _ => cases hc.1
  · cases h

theorem apartB_sound {cx : Cx} {fn : Func} {H : List SObj} {v : SV} {e : Exit} {s : St} {K : Post} (h : apartB cx fn H v e s = true) (hk : K v H [] []) :
    (e = .normal ∨ e = .ret) ∧ (H.length ≤ s.H.length ∨ s.marks = []) ∧ ∃ H', shut s.marks s.H = some H' ∧ resP cx { s with H := H', marks := [] } fn.results.toList fun l =>
      Left H K (retV l) H' s.tch s.fg := by
  unfold apartB at h
  split at h
  · rename_i hc
    simp only [Bool.and_eq_true, List.isEmpty_iff] at hc
    split at h
    · cases h
    · rename_i H' hs
      simp only [Bool.and_eq_true] at h
      refine ⟨?_, .inl (Nat.le_of_ble_eq_true hc.2.2), H', hs, resP_mono _ _ _ (fun l hl => ?_) (resB_sound _ _ h.2)⟩
      · cases e with
        | normal => exact .inl rfl
        | ret => exact .inr rfl
        | _ => cases hc.1
      · unfold sameAs at hl
        split at hl
        · rename_i y hy
          cases (svEq_all 100).1 _ _ hl
          rw [hc.2.1.1, hc.2.1.2]
          exact .inl ⟨rfl, Nat.le_of_ble_eq_true h.1, fun x hx => (by cases hx), _, 1000, hy, hk⟩
        · cases hl
  · cases h

theorem isReady_eq {s : LoopState} (h : isReady s = true) : s = .ready := by cases s <;> first | rfl | cases h
theorem notBusy_ne {s : LoopState} (h : notBusy s = true) : s ≠ .busy := by intro e; subst e; cases h

theorem not_contains {l : List Nat} {x : Nat} (h : (!l.contains x) = true) : x ∉ l := by simpa using h

theorem roundB_sound {cx : Cx} {rec : Rec} (hrec : ∀ R top nt c s k, (top = true → R = none) → rec top nt c s k = true → WPs R cx.P nt c (fun e s' => k e s' = true) s) {s : Nat} {args : List SV} {H : List SObj} {k : KB}
    (h : roundB rec s args H k = true) : SRound cx.P s args H fun x H' t f => k x H' t f = true := by
  unfold roundB at h
  split at h
  · rename_i L hH
    simp only [Bool.and_eq_true] at h
    refine SRound_of hH (Nat.eq_of_beq_eq_true h.1.1) h.1.2 fun R => ?_
    refine (hrec R false _ _ _ _ (fun e => by cases e) h.2).mono fun e s1 h1 => ?_
    cases e with
    | normal =>
      simp only [Bool.and_eq_true] at h1
      obtain ⟨⟨h1a, h1b⟩, h1⟩ := h1
      split at h1
      · rename_i L1 hL1
        simp only [Bool.and_eq_true] at h1
        refine ⟨rfl, not_contains h1a, Nat.le_of_ble_eq_true h1b, L1, hL1, isReady_eq h1.1, ?_⟩
        refine (hrec R false _ _ _ _ (fun e => by cases e) h1.2).mono fun e s2 h2 => ?_
        cases hj : jumpOf e with
        | none => simp only [hj] at h2; cases h2
        | some jump =>
          simp only [hj, Bool.and_eq_true] at h2
          obtain ⟨⟨h2a, h2b⟩, h2⟩ := h2
          split at h2
          · rename_i L2 hL2
            exact ⟨jump, rfl, not_contains h2a, Nat.le_of_ble_eq_true h2b, L2, hL2, h2⟩
          · cases h2
      · cases h1
    | _ => cases h1
  · cases h

theorem callB_ok {cx : Cx} (hcx : cx.Ok) {ext : Ext} (hext : Ext.Ok cx ext) {rec : Rec}
    (hrec : ∀ R top nt c s k, (top = true → R = none) → rec top nt c s k = true → WPs R cx.P nt c (fun e s' => k e s' = true) s) : CallB.Ok cx (callB cx ext rec) := by
  refine ⟨fun g args H k h => ?_, fun s args H k h => roundB_sound hrec h⟩
  have h : (match ext.sum g args H with
    | some (r, H', t, f) => k r H' t f
    | none => match cx.fns.lookup g with
      | none => false
      | some fn => match fn.body with
        | none => false
        | some c => Nat.ble args.length fn.ntmps && match ext.guess g args with
          | [] => rec true fn.ntmps c (.entry args H) (endB cx fn (ext.still g) H k)
          | vs => guessB cx rec fn c args H k vs) = true := h
  split at h
  · rename_i r H' t f he
    obtain ⟨h1, h2⟩ := hext.ok g args H r H' t f he
    exact ⟨h1, h2.mono fun x h' u v ⟨a, b, c, d⟩ => by subst a; subst b; subst c; subst d; exact h⟩
  · split at h
    · cases h
    · rename_i fn hfn
      split at h
      · cases h
      · rename_i c hb
        simp only [Bool.and_eq_true] at h
        refine ⟨⟨fn, hfn⟩, ?_⟩
        obtain ⟨h1, h2⟩ := h
        split at h2
        · exact SCall.leave (SCall_of_WPs hcx hfn hb (Nat.le_of_ble_eq_true h1) ((hrec none true _ _ _ _ (fun _ => rfl) h2).mono fun e s hs => endB_sound hs))
        · have key : ∀ vs, guessB cx rec fn c args H k vs = true → SCall cx.P g args H fun x H' t f => k x H' t f = true := by
            intro vs h2
            induction vs with
            | nil => cases h2
            | cons v vs ih =>
              unfold guessB at h2
              simp only [Bool.or_eq_true, Bool.and_eq_true] at h2
              rcases h2 with ⟨h2, h3⟩ | h2
              · exact SCall.leave (SCall_of_WPs hcx hfn hb (Nat.le_of_ble_eq_true h1) ((hrec none true _ _ _ _ (fun _ => rfl) h2).mono fun e s hs => apartB_sound (K := fun x H' t f => k x H' t f = true) hs h3))
              · exact ih h2
          exact key _ h2

theorem rangeB_sound {cx : Cx} (hcx : cx.Ok) {cb : CallB} (hcb : cb.Ok cx) {rec : Rec}
    (hrec : ∀ R top nt c s k, (top = true → R = none) → rec top nt c s k = true → WPs R cx.P nt c (fun e s' => k e s' = true) s) {nt : Nat} {g : Operand} {ps : Array Tmp} {assign body : Code} {s : St} {k : KE}
    (h : rangeB cx cb rec nt g ps assign body s k = true) : WPs none cx.P nt (.rangeFunc g ps assign body) (fun e s' => k e s' = true) s := by
  unfold rangeB at h
  simp only [Bool.and_eq_true] at h
  obtain ⟨hn, h⟩ := h
  cases ht : targetG (s.ev g) (.yld (s.H.length + 1)) with
  | none => simp only [ht] at h; cases h
  | some q =>
    obtain ⟨gf, args⟩ := q
    simp only [ht] at h
    obtain ⟨⟨fn, hfn⟩, h⟩ := hcb.ok _ _ _ _ h
    refine WPs_rangeFunc hcx (Nat.le_of_ble_eq_true hn) ht hfn (h.mono fun r H' t f h => ?_)
    simp only [Bool.and_eq_true] at h
    obtain ⟨⟨⟨h1, h2⟩, h3, h4⟩, h⟩ := h
    split at h
    · rename_i L hL
      simp only [Bool.and_eq_true] at h
      refine ⟨not_contains h1, not_contains h2, fun m hm => ?_, Nat.le_of_ble_eq_true h4, L, hL, notBusy_ne h.1, ?_⟩
      · have := List.all_eq_true.1 h3 m hm
        simp only [Bool.and_eq_true] at this
        exact ⟨not_contains this.1, blt_lt this.2⟩
      · have h := h.2
        split at h
        · rename_i e; rw [e]; exact h
        · rename_i c e; rw [e]; exact hrec none true _ _ _ _ (fun _ => rfl) h
    · cases h

theorem seval_sound {cx : Cx} (hcx : cx.Ok) {ext : Ext} (hext : Ext.Ok cx ext) : ∀ (n : Nat),
    (∀ R top nt c s k, (top = true → R = none) → seval cx ext n top nt c s k = true → WPs R cx.P nt c (fun e s' => k e s' = true) s) ∧
    (∀ R top nt c s k, (top = true → R = none) → seval cx ext n top nt (.loop c) s k = true → Unrolled R cx.P nt c (fun e s' => k e s' = true) n s)
  | 0 => ⟨fun R top nt c s k _ h => (by cases h), fun R top nt c s k _ h => (by cases h)⟩
  | n + 1 => by
    obtain ⟨ih1, ih2⟩ := seval_sound hcx hext n
    have hcb := callB_ok hcx hext ih1
    have loop : ∀ R top nt c s k, (top = true → R = none) → seval cx ext (n + 1) top nt (.loop c) s k = true → Unrolled R cx.P nt c (fun e s' => k e s' = true) (n + 1) s := by
      intro R top nt c s k ht h
      refine (ih1 R top nt c s _ ht h).mono fun e s' hs => ?_
      cases e with
      | normal => exact ⟨n, Nat.le_refl n, ih2 R top nt c s' k ht hs⟩
      | _ => exact hs
    refine ⟨fun R top nt c s k ht h => ?_, loop⟩
    cases c with
    | skip => exact WPs_skip h
    | region id ops draw =>
      cases draw with
      | false => exact WPs_region hcx (vopsB_sound hcb _ _ _ h)
      | true =>
        have h : (Region.noSelect ops && runPlan cx (callB cx ext (seval cx ext n)) nt ops (planOf true ops ops.size (Array.replicate ops.size false)) [] s (k .normal)) = true := h
        simp only [Bool.and_eq_true] at h
        exact WPs_draw hcx h.1 (runPlan_sound hcb _ _ _ _ h.2)
    | seq a b =>
      refine WPs_seq ((ih1 R top nt a s _ ht h).mono fun e s' hs => ?_)
      cases e with
      | normal => exact ih1 R top nt b s' k ht hs
      | _ => exact hs
    | cond c a b =>
      have h : (match s.ev c with
        | .pv (.lit (.bool t)) => match t with
          | true => seval cx ext n top nt a s k
          | false => seval cx ext n top nt b s k
        | _ => false) = true := h
      split at h
      · rename_i t e
        refine WPs_cond e (fun hb => ?_) (fun hb => ?_)
        · subst hb; exact ih1 R top nt a s k ht h
        · subst hb; exact ih1 R top nt b s k ht h
      · cases h
    | block id c =>
      refine WPs_block ((ih1 R top nt c s _ ht h).mono fun e s' hs => ?_)
      cases e with
      | exit id' =>
        simp only [blockQ]
        by_cases e : id' = id
        · rw [if_pos e]; simp only [nbeq_t e, cond_true] at hs; exact hs
        · rw [if_neg e]; simp only [nbeq_f e, cond_false] at hs; exact hs
      | _ => exact hs
    | loop c => exact WPs_unrolled (loop R top nt c s k ht h)
    | exit id => exact WPs_exit h
    | label l => exact WPs_label h
    | ret => exact WPs_ret h
    | rangeFunc g ps assign body =>
      cases top with
      | true =>
        have hR := ht rfl
        subst hR
        exact rangeB_sound hcx hcb ih1 h
      | false => cases h
    | scope c =>
      cases top with
      | true =>
        have hR := ht rfl
        subst hR
        refine WPs_scope ((ih1 none true nt c s _ ht h).mono fun e s' hs => ?_)
        cases e with
        | goto _ => cases hs
        | _ => exact hs
      | false => cases h
    | goto _ => cases h
    | refuse _ => cases h

/-- a call, evaluated -/
theorem SCall_eval {cx : Cx} (hcx : cx.Ok) {ext : Ext} (hext : Ext.Ok cx ext) (n : Nat) {g : Nat} {args : List SV} {H : List SObj} {k : KB} (h : callB cx ext (seval cx ext n) false g args H k = true) :
    SCall cx.P g args H fun x H' t f => k x H' t f = true := ((callB_ok hcx hext (seval_sound hcx hext n).1).ok g args H k h).2

end Go.Sx

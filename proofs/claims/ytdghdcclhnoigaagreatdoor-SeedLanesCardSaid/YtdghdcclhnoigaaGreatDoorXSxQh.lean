/- Part Qh of the own logic: functions that are lent owned objects: their summaries. -/
import Derived.Test.YtdghdcclhnoigaaGreatDoorXSxQg
set_option linter.unusedVariables false
set_option linter.unusedSimpArgs false
set_option linter.unnecessarySimpa false
namespace Go.Sx
open Go
mutual
def SV.ren (f : Nat → Option Nat) : SV → SV
  | .ptr s sz i j => match f s with
    | some t => .ptr t sz i j
    | none => .any
  | .sl s sz st n => match f s with
    | some t => .sl t sz st n
    | none => .any
  | .mp s => match f s with
    | some t => .mp t
    | none => .any
  | .yld s => match f s with
    | some t => .yld t
    | none => .any
  | .agg l => .agg (renL f l)
  | .tup l => .tup (renL f l)
  | .fn g a b => .fn g (renL f a) (renL f b)
  | .any => .any
  | .pv p => .pv p
def renL (f : Nat → Option Nat) : List SV → List SV
  | [] => []
  | x :: xs => x.ren f :: renL f xs
end
theorem renL_eq (f : Nat → Option Nat) (l : List SV) : renL f l = l.map (SV.ren f) := by
  induction l with
  | nil => rfl
  | cons x xs ih => simp only [renL, List.map_cons, ih]
theorem SRep.ren {M M' : Imm} {ρ ρ' : Env} {f : Nat → Option Nat} (hM : M.le M') (hf : ∀ s t p, f s = some t → ρ s = some p → ρ' t = some p) {v : Value} {x : SV} (h : SRep M ρ v x) : SRep M' ρ' v (x.ren f) := by
  induction h with
  | any v => exact .any v
  | pv h => exact .pv (h.mono hM)
  | agg cs l hl _ ih =>
    simp only [SV.ren, renL_eq]
    refine .agg cs _ (by simpa using hl) fun i v x hv hx => ?_
    simp only [List.getElem?_map, Option.map_eq_some_iff] at hx
    obtain ⟨y, hy, rfl⟩ := hx
    exact ih i v y hv hy
  | tup cs l hl _ ih =>
    simp only [SV.ren, renL_eq]
    refine .tup cs _ (by simpa using hl) fun i v x hv hx => ?_
    simp only [List.getElem?_map, Option.map_eq_some_iff] at hx
    obtain ⟨y, hy, rfl⟩ := hx
    exact ih i v y hv hy
  | ptr s sz i j k p hp hk =>
    simp only [SV.ren]
    split
    · rename_i t ht; exact .ptr t sz i j k p (hf s t p ht hp) hk
    · exact .any _
  | sl s sz st n c k p hp hk hc hn =>
    simp only [SV.ren]
    split
    · rename_i t ht; exact .sl t sz st n c k p (hf s t p ht hp) hk hc hn
    · exact .any _
  | slz s sz st a =>
    simp only [SV.ren]
    split
    · exact .slz _ sz st a
    · exact .any _
  | mp s p hp =>
    simp only [SV.ren]
    split
    · rename_i t ht; exact .mp t p (hf s t p ht hp)
    · exact .any _
  | yld s p hp =>
    simp only [SV.ren]
    split
    · rename_i t ht; exact .yld t p (hf s t p ht hp)
    · exact .any _
  | fn g a b x y ha hb _ _ ih jh =>
    simp only [SV.ren, renL_eq]
    refine .fn g a b _ _ (by simpa using ha) (by simpa using hb) (fun i v s hv hs => ?_) (fun i v s hv hs => ?_)
    · simp only [List.getElem?_map, Option.map_eq_some_iff] at hs
      obtain ⟨y, hy, rfl⟩ := hs
      exact ih i v y hv hy
    · simp only [List.getElem?_map, Option.map_eq_some_iff] at hs
      obtain ⟨y, hy, rfl⟩ := hs
      exact jh i v y hv hy
def SObj.ren (f : Nat → Option Nat) : SObj → SObj
  | .mix ty sz rows => .mix ty sz (rows.map (·.map (SV.ren f)))
  | .map es c => .map (es.map fun e => (e.1, e.2.1.ren f, e.2.2)) c
  | .loop l => .loop { l with T := l.T.map (SV.ren f) }
  | o => o
theorem live_ren (f : Nat → Option Nat) (o : SObj) : (o.ren f).live = o.live := by cases o <;> rfl
theorem ATy.raw_ren (f : Nat → Option Nat) : ∀ (a : ATy) (x : a.El), (a.raw x).ren f = a.raw x
  | .val t, x => rfl
  | .agg row, x => by
    have : ∀ l : List PV, renL f (l.map .pv) = l.map .pv := fun l => by
      induction l with
      | nil => rfl
      | cons x l ih => simp only [List.map_cons, renL, SV.ren, ih]
    simp only [ATy.raw, SV.ren, this]
theorem OwnAt.ren {M M' : Imm} {ρ ρ' : Env} {w w' : World} {s t : Nat} {f : Nat → Option Nat} {o : SObj} (hM : M.le M') (hf : ∀ s t p, f s = some t → ρ s = some p → ρ' t = some p) (hs : ρ' t = ρ s)
    (hw : ∀ p, ρ s = some p → w'.heap[p.block]? = w.heap[p.block]?) (h : OwnAt M ρ w s o) : OwnAt M' ρ' w' t (o.ren f) := by
  cases o with
  | dead => trivial
  | vec ty sz rows =>
    rcases h with ⟨h1, h2⟩ | ⟨p, h1, h2⟩
    · exact .inl ⟨hs.trans h1, h2⟩
    · refine .inr ⟨p, hs.trans h1, ?_⟩
      obtain ⟨cs, a1, a2, a3, a4, a5, a6⟩ := h2.ex
      refine ⟨cs, (hw p h1).trans a1, a2, a3, a4, fun i j x v hx hv => ?_, a6⟩
      obtain ⟨b1, b2, b3⟩ := a5 i j x v hx hv
      refine ⟨b1, b2, ?_⟩
      unfold vcell at hx
      simp only [Option.map_eq_some_iff] at hx
      obtain ⟨q, _, rfl⟩ := hx
      cases b3 with
      | pv b3 => exact .pv (b3.mono hM)
  | tvec ty row l =>
    rcases h with ⟨h1, h2⟩ | ⟨p, h1, h2⟩
    · exact .inl ⟨hs.trans h1, h2⟩
    · refine .inr ⟨p, hs.trans h1, ?_⟩
      obtain ⟨cs, a1, a2, a3, a4, a5, a6⟩ := h2.ex
      refine ⟨cs, (hw p h1).trans a1, a2, a3, a4, fun i j x v hx hv => ?_, a6⟩
      obtain ⟨b1, b2, b3⟩ := a5 i j x v hx hv
      refine ⟨b1, b2, ?_⟩
      unfold vcell at hx
      simp only [Option.map_eq_some_iff] at hx
      obtain ⟨q, _, rfl⟩ := hx
      cases b3 with
      | pv b3 => exact .pv (b3.mono hM)
  | mix ty sz rows =>
    rcases h with ⟨h1, h2⟩ | ⟨p, h1, h2⟩
    · exact .inl ⟨hs.trans h1, by simp [h2]⟩
    · refine .inr ⟨p, hs.trans h1, ?_⟩
      obtain ⟨cs, a1, a2, a3, a4, a5, a6⟩ := h2.ex
      have key : ∀ i j x, mcell (rows.map (·.map (SV.ren f))) i j = some x → ∃ y, mcell rows i j = some y ∧ x = y.ren f := fun i j x hx => by
        unfold mcell at hx
        simp only [List.getElem?_map, Option.bind_eq_some_iff, Option.map_eq_some_iff] at hx
        obtain ⟨r', ⟨r, hr, rfl⟩, hx⟩ := hx
        simp only [List.getElem?_map, Option.map_eq_some_iff] at hx
        obtain ⟨y, hy, rfl⟩ := hx
        exact ⟨y, by simp [mcell, hr, hy], rfl⟩
      refine ⟨cs, (hw p h1).trans a1, a2, by simpa using a3, by simpa using a4, fun i j x v hx hv => ?_, fun i j x hx => ?_⟩
      · obtain ⟨y, hy, rfl⟩ := key i j x hx
        obtain ⟨b1, b2, b3⟩ := a5 i j y v hy hv
        exact ⟨by simpa using b1, b2, b3.ren hM hf⟩
      · obtain ⟨y, hy, rfl⟩ := key i j x hx
        simpa using a6 i j y hy
  | map es clock =>
    obtain ⟨p, arr, h1, h2, h3, h4⟩ := h
    refine ⟨p, arr, hs.trans h1, (hw p h1).trans h2, by simpa using h3, fun i k x b hi => ?_⟩
    simp only [List.getElem?_map, Option.map_eq_some_iff] at hi
    obtain ⟨⟨k', x', b'⟩, he, hq⟩ := hi
    simp only [Prod.mk.injEq] at hq
    obtain ⟨rfl, rfl, rfl⟩ := hq
    obtain ⟨e, c1, c2, c3, c4⟩ := h4 i k' x' b' he
    exact ⟨e, c1, c2, c3, c4.ren hM hf⟩
  | tmap k v l =>
    obtain ⟨p, arr, h1, h2, h3, h4⟩ := h
    refine ⟨p, arr, hs.trans h1, (hw p h1).trans h2, h3, fun i kk x b hi => ?_⟩
    obtain ⟨e, c1, c2, c3, c4⟩ := h4 i kk x b hi
    refine ⟨e, c1, c2, c3, ?_⟩
    have := c4.ren hM hf
    rw [entsFrom_get] at hi
    simp only [Option.map_eq_some_iff, Prod.mk.injEq] at hi
    obtain ⟨y, _, _, rfl, _⟩ := hi
    rwa [ATy.raw_ren] at this
  | iter str pos =>
    obtain ⟨p, h1, h2⟩ := h
    exact ⟨p, hs.trans h1, (hw p h1).trans h2⟩
  | loop l =>
    obtain ⟨p, fn, tmps, q, h1, h2, h3, h4⟩ := h
    refine ⟨p, fn, tmps, q, hs.trans h1, (hw p h1).trans h2, h3, fun t x hx => ?_⟩
    rw [TT.get_map, Option.map_eq_some_iff] at hx
    obtain ⟨y, hy, rfl⟩ := hx
    exact (h4 t y hy).ren hM hf
  | dfr shut =>
    obtain ⟨p, h1, h2⟩ := h
    exact ⟨p, hs.trans h1, (hw p h1).trans h2⟩
inductive Loc where
  | arg (i : Nat)
  | cap (l : Loc) (j : Nat)
  | fst (l : Loc) (j : Nat)
  | fld (k j : Nat)
structure PX where
  np : Nat
  locs : List Loc
  τ : Tmpl
  nr : Nat
  ω : Tmpl
  ids : List Nat
  mv : List Nat
  code : τ.El → Option ω.El
abbrev PX.no (px : PX) : Nat := px.locs.length
def baseSt (H : List SObj) : St := { T := .full 8, H := H, n0 := H.length, tch := [], fg := [], marks := [], er := [] }
def tmpsOf (T : TT) (n : Nat) : List SV := (List.range n).map fun i => (T.get i).getD .any
def deads (n : Nat) : List SObj := List.replicate n .dead
def PX.inSt (px : PX) (x : px.τ.El) : St := px.τ.st [] (List.range px.no) [] (baseSt (deads px.no)) x
def PX.args (px : PX) (x : px.τ.El) : List SV := tmpsOf (px.inSt x).T px.np
def PX.objs (px : PX) (x : px.τ.El) : List SObj := (px.inSt x).H
def PX.outSt (px : PX) (x : px.τ.El) (y : px.ω.El) : St := px.ω.st [] px.ids px.mv (baseSt (px.objs x)) y
def PX.res (px : PX) (x : px.τ.El) (y : px.ω.El) : List SV := tmpsOf (px.outSt x y).T px.nr
def PX.objs' (px : PX) (x : px.τ.El) (y : px.ω.El) : List SObj := (px.outSt x y).H
structure PXOk (cx : Cx) (g : Nat) (px : PX) : Prop where
  fn : ∃ fn, cx.fns.lookup g = some fn
  ok : ∀ x y, px.code x = some y → SCall cx.P g (px.args x) (px.objs x) fun r H' t f => r = retV (px.res x y) ∧ H' = px.objs' x y ∧ (∀ i ∈ t, i ∈ px.ids) ∧ ∀ i ∈ f, i ∈ px.mv
def sidOf : SV → Option Nat
  | .ptr s _ _ _ => some s
  | .sl s _ _ _ => some s
  | .mp s => some s
  | _ => none
def Loc.find (args : List SV) (H : List SObj) (σ : List Nat) : Loc → Option SV
  | .arg i => args[i]?
  | .cap l j => match l.find args H σ with
    | some (.fn _ _ b) => b[j]?
    | _ => none
  | .fst l j => match l.find args H σ with
    | some (.fn _ a _) => a[j]?
    | _ => none
  | .fld k j => match σ[k]? with
    | none => none
    | some s => match H[s]? with
      | none => none
      | some o => match rowOf1 o with
        | some (_, _, r) => r[j]?
        | none => none
def locAll (args : List SV) (H : List SObj) : List Loc → List Nat → Option (List Nat)
  | [], σ => some σ
  | l :: ls, σ => match l.find args H σ with
    | none => none
    | some x => match sidOf x with
      | none => none
      | some s => locAll args H ls (σ ++ [s])
def idx : List Nat → Nat → Nat → Option Nat
  | [], _, _ => none
  | a :: l, i, s => match Nat.beq a s with
    | true => some i
    | false => idx l (i + 1) s
def viewO (σ : List Nat) (H : List SObj) (s : Nat) : SObj := match H[s]? with
  | some o => o.ren (idx σ 0)
  | none => .dead
def viewH (σ : List Nat) (H : List SObj) : List SObj := σ.map (viewO σ H)
def viewSt (σ : List Nat) (args : List SV) (H : List SObj) : St :=
  { T := entryT (.full 8) 0 (renL (idx σ 0) args), H := viewH σ H, n0 := σ.length, tch := [], fg := [], marks := [], er := [] }
def nodupB : List Nat → Bool
  | [] => true
  | x :: l => !l.contains x && nodupB l
def putBack (σ : List Nat) (Hv : List SObj) : List Nat → List SObj → List SObj
  | [], H => H
  | k :: ids, H => putBack σ Hv ids (match σ[k]? with
    | none => H
    | some s => match Hv[k]? with
      | none => H
      | some o => H.set s (o.ren fun k => σ[k]?))
def through (σ : List Nat) : List Nat → List Nat
  | [] => []
  | k :: l => match σ[k]? with
    | some s => s :: through σ l
    | none => through σ l
def PX.fit (px : PX) (σ : List Nat) (args : List SV) (H : List SObj) : Bool :=
  Nat.beq σ.length px.no && (nodupB σ && ((σ.all fun s => Nat.blt s H.length) && (Nat.beq args.length px.np && (px.τ.covers (List.range px.no) && ((subset px.mv px.ids && (px.ids.all fun k => Nat.blt k px.no)) && (List.range px.no).all fun k => px.ids.contains k || (px.τ.cells.filterMap Cel.id?).contains k)))))
def PX.sm (px : PX) : Sm where
  pre := fun args H => match locAll args H px.locs [] with
    | none => false
    | some σ => px.fit σ args H && (px.τ.read px.no (viewSt σ args H)).isSome
  run := fun X args H k => match locAll args H px.locs [] with
    | none => none
    | some σ => gd (px.fit σ args H) (match readT px.τ ⟨[], List.range px.no, []⟩ px.no (viewSt σ args H) with
      | none => none
      | some x => match px.code x with
        | none => none
        | some y => k ((retV (px.res x y)).ren fun k => σ[k]?) (putBack σ (px.objs' x y) px.ids (forgetH (through σ px.mv) H)) (through σ px.ids) (through σ px.mv))
theorem idx_spec : ∀ {σ : List Nat} {i s k : Nat}, idx σ i s = some k → ∃ j, k = i + j ∧ σ[j]? = some s
  | [], i, s, k, h => by cases h
  | a :: l, i, s, k, h => by
    simp only [idx] at h
    split at h
    · rename_i e
      cases h
      exact ⟨0, rfl, by simp [Nat.eq_of_beq_eq_true e]⟩
    · obtain ⟨j, h1, h2⟩ := idx_spec h
      exact ⟨j + 1, by omega, by simpa using h2⟩
theorem nodupB_inj : ∀ {σ : List Nat}, nodupB σ = true → ∀ (i j s : Nat), σ[i]? = some s → σ[j]? = some s → i = j
  | [], _, i, j, s, h, _ => by simp at h
  | a :: l, hn, i, j, s, hi, hj => by
    simp only [nodupB, Bool.and_eq_true, Bool.not_eq_true'] at hn
    have hna : a ∉ l := by have := hn.1; simpa using this
    cases i with
    | zero =>
      cases j with
      | zero => rfl
      | succ j =>
        simp at hi hj
        subst hi
        exact absurd (List.mem_of_getElem? hj) hna
    | succ i =>
      cases j with
      | zero =>
        simp at hi hj
        subst hj
        exact absurd (List.mem_of_getElem? hi) hna
      | succ j =>
        have := nodupB_inj hn.2 i j s (by simpa using hi) (by simpa using hj)
        omega
theorem viewH_get {σ : List Nat} {H : List SObj} {k : Nat} {o : SObj} (h : (viewH σ H)[k]? = some o) : ∃ s, σ[k]? = some s ∧ o = viewO σ H s := by
  unfold viewH at h
  simp only [List.getElem?_map, Option.map_eq_some_iff] at h
  obtain ⟨s, hs, rfl⟩ := h
  exact ⟨s, hs, rfl⟩
def viewE (σ : List Nat) (ρ : Env) : Env := fun k => match σ[k]? with
  | some s => ρ s
  | none => none
theorem viewE_idx {σ : List Nat} {ρ : Env} {s t : Nat} {p : Place} (h : idx σ 0 s = some t) (hp : ρ s = some p) : viewE σ ρ t = some p := by
  obtain ⟨j, rfl, hj⟩ := idx_spec h
  simp only [viewE, Nat.zero_add, hj]
  exact hp
theorem Mem.view {M : Imm} {ρ : Env} {H : List SObj} {w : World} (hm : Mem M ρ H w) {σ : List Nat} (hn : nodupB σ = true) : Mem M (viewE σ ρ) (viewH σ H) w := by
  have hobj : ∀ (k : Nat) (o : SObj), (viewH σ H)[k]? = some o → o.live = true → ∃ (s : Nat) (x : SObj), σ[k]? = some s ∧ H[s]? = some x ∧ o = x.ren (idx σ 0) ∧ x.live = true := fun k o ho hl => by
    obtain ⟨s, hs, rfl⟩ := viewH_get ho
    unfold viewO at hl ⊢
    split at hl
    · rename_i x hx
      rw [live_ren] at hl
      exact ⟨s, x, hs, hx, rfl, hl⟩
    · cases hl
  refine ⟨hm.imm, fun k o ho => ?_, fun k o p ho hl hp => ?_, fun k k' o o' p p' ho ho' hl hl' hp hp' hb => ?_, fun k hk => ?_⟩
  · obtain ⟨s, hs, rfl⟩ := viewH_get ho
    unfold viewO
    split
    · rename_i x hx
      exact (hm.own s x hx).ren M.le_refl (fun s t p h hp => viewE_idx h hp) (by simp only [viewE, hs]) (fun _ _ => rfl)
    · trivial
  · obtain ⟨s, x, h1, h2, _, h4⟩ := hobj k o ho hl
    simp only [viewE, h1] at hp
    exact hm.sep s x p h2 h4 hp
  · obtain ⟨s, x, h1, h2, _, h4⟩ := hobj k o ho hl
    obtain ⟨s', x', k1, k2, _, k4⟩ := hobj k' o' ho' hl'
    simp only [viewE, h1] at hp
    simp only [viewE, k1] at hp'
    have := hm.dis s s' x x' p p' h2 k2 h4 k4 hp hp' hb
    subst this
    exact nodupB_inj hn k k' s h1 k1
  · simp only [viewE]
    rw [List.getElem?_eq_none (by simpa [viewH] using hk)]
theorem view_owned {ρ : Env} {H : List SObj} {σ : List Nat} {b : Nat} (h : Owned (viewE σ ρ) (viewH σ H) b) : ∃ (k s : Nat) (x : SObj) (p : Place), σ[k]? = some s ∧ H[s]? = some x ∧ x.live = true ∧ ρ s = some p ∧ p.block = b := by
  obtain ⟨k, o, p, h1, h2, h3, h4⟩ := h
  obtain ⟨s, hs, rfl⟩ := viewH_get h1
  unfold viewO at h2
  split at h2
  · rename_i x hx
    rw [live_ren] at h2
    simp only [viewE, hs] at h3
    exact ⟨k, s, x, p, hs, hx, h2, h3, h4⟩
  · cases h2
theorem putBack_len {σ : List Nat} {Hv : List SObj} : ∀ {ids : List Nat} {H : List SObj}, (putBack σ Hv ids H).length = H.length
  | [], H => rfl
  | k :: ids, H => by
    simp only [putBack]
    rw [putBack_len]
    split
    · rfl
    · split
      · rfl
      · simp
theorem putBack_get {σ : List Nat} {Hv : List SObj} : ∀ {ids : List Nat} {H : List SObj} {s : Nat} {o : SObj}, (putBack σ Hv ids H)[s]? = some o →
    (∃ k ∈ ids, σ[k]? = some s ∧ ∃ x, Hv[k]? = some x ∧ o = x.ren fun k => σ[k]?) ∨ (H[s]? = some o ∧ ∀ k ∈ ids, σ[k]? = some s → Hv[k]? = none)
  | [], H, s, o, h => .inr ⟨h, fun k hk => by cases hk⟩
  | k :: ids, H, s, o, h => by
    simp only [putBack] at h
    rcases putBack_get h with ⟨k', h1, h2⟩ | ⟨h1, h2⟩
    · exact .inl ⟨k', List.mem_cons_of_mem _ h1, h2⟩
    · split at h1
      · rename_i hk
        exact .inr ⟨h1, fun k' hk' h3 => by
          rcases List.mem_cons.1 hk' with rfl | hk'
          · rw [hk] at h3; cases h3
          · exact h2 k' hk' h3⟩
      · rename_i t hk
        split at h1
        · rename_i hv
          exact .inr ⟨h1, fun k' hk' h3 => by
            rcases List.mem_cons.1 hk' with rfl | hk'
            · exact hv
            · exact h2 k' hk' h3⟩
        · rename_i x hv
          rw [List.getElem?_set] at h1
          split at h1
          · rename_i e; subst e
            split at h1
            · cases h1; exact .inl ⟨k, List.mem_cons_self, hk, x, hv, rfl⟩
            · cases h1
          · rename_i e
            exact .inr ⟨h1, fun k' hk' h3 => by
              rcases List.mem_cons.1 hk' with rfl | hk'
              · rw [hk] at h3; cases h3; exact absurd rfl e
              · exact h2 k' hk' h3⟩
theorem mem_through {σ : List Nat} : ∀ {l : List Nat} {s : Nat}, s ∈ through σ l ↔ ∃ k ∈ l, σ[k]? = some s
  | [], s => by simp [through]
  | k :: l, s => by
    simp only [through]
    split
    · rename_i t ht
      rw [List.mem_cons, mem_through]
      constructor
      · rintro (rfl | ⟨k', h1, h2⟩)
        · exact ⟨k, List.mem_cons_self, ht⟩
        · exact ⟨k', List.mem_cons_of_mem _ h1, h2⟩
      · rintro ⟨k', h1, h2⟩
        rcases List.mem_cons.1 h1 with rfl | h1
        · rw [ht] at h2; cases h2; exact .inl rfl
        · exact .inr ⟨k', h1, h2⟩
    · rename_i ht
      rw [mem_through]
      constructor
      · rintro ⟨k', h1, h2⟩; exact ⟨k', List.mem_cons_of_mem _ h1, h2⟩
      · rintro ⟨k', h1, h2⟩
        rcases List.mem_cons.1 h1 with rfl | h1
        · rw [ht] at h2; cases h2
        · exact ⟨k', h1, h2⟩
theorem tmpsOf_get {T : TT} {n i : Nat} {x : SV} (h : (tmpsOf T n)[i]? = some x) : i < n ∧ x = (T.get i).getD .any := by
  unfold tmpsOf at h
  simp only [List.getElem?_map, Option.map_eq_some_iff] at h
  obtain ⟨j, hj, rfl⟩ := h
  by_cases hi : i < n
  · rw [List.getElem?_range hi] at hj
    cases hj
    exact ⟨hi, rfl⟩
  · rw [List.getElem?_eq_none (by simpa using hi)] at hj; cases hj
theorem tmpsOf_len (T : TT) (n : Nat) : (tmpsOf T n).length = n := by simp [tmpsOf]
theorem base_bare {M : Imm} {ρ : Env} {H : List SObj} {w : World} {a : Act} (hm : Mem M ρ H w) (D ids mv : List Nat) : BaseAt D ids mv (baseSt H) M ρ H a w :=
  ⟨rfl, fun t y _ hy => (by rw [show (baseSt H).T = TT.full 8 from rfl, TT.get_full] at hy; cases hy),
    fun i o _ ho => ⟨(hm.own i o ho).forget M.le_refl (fun _ _ _ h => h) rfl (fun _ _ => rfl), fun hl => ⟨o, ho, hl⟩⟩, fun i o _ ho hl => ⟨o, ho, hl⟩⟩
theorem base_dead {M : Imm} {ρ : Env} {H : List SObj} {w : World} {a : Act} {n : Nat} (hn : H.length = n) : BaseAt [] (List.range n) [] (baseSt (deads n)) M ρ H a w :=
  ⟨by simp [baseSt, deads, hn], fun t y _ hy => (by rw [show (baseSt (deads n)).T = TT.full 8 from rfl, TT.get_full] at hy; cases hy),
    fun i o hi ho => absurd (List.mem_range.2 (by simpa [baseSt, deads] using (List.getElem?_eq_some_iff.1 ho).1)) hi,
    fun i o hi ho hl => absurd (List.mem_range.2 (by rw [← hn]; exact (List.getElem?_eq_some_iff.1 ho).1)) hi⟩
def actOf (vs : List Value) : Act := { tmps := vs.toArray, defers := [] }
theorem actOf_get (vs : List Value) (i : Nat) (v : Value) (h : vs[i]? = some v) : (actOf vs).tmps.getD i undef = v := by
  have : i < vs.length := (List.getElem?_eq_some_iff.1 h).1
  simp [actOf, Array.getD, this]
  rw [List.getElem?_eq_getElem this] at h
  simpa using h
theorem good_bare {M : Imm} {ρ : Env} {H : List SObj} {w : World} {vs : List Value} {xs : List SV} {n : Nat} {tch fg : List Nat} (hm : Mem M ρ H w) (hr : Reps M ρ vs xs) (hn : n ≤ H.length) :
    Good (fun t => (actOf vs).tmps.getD t undef) vs.length M ρ { T := entryT (.full 8) 0 xs, H := H, n0 := n, tch := tch, fg := fg, marks := [], er := [] } (actOf vs) w := by
  refine ⟨fun t x hx => ?_, by simp [actOf], hm, ⟨rfl, fun i d s h => by simp [actOf] at h⟩, fun m h => (by cases h), hn, fun t _ => rfl⟩
  rcases entryT_lookup xs (.full 8) 0 t x (fun t x h => by rw [TT.get_full] at h; cases h) hx with h | ⟨_, h⟩
  · rw [TT.get_full] at h; cases h
  · rw [Nat.sub_zero] at h
    have hlt : t < vs.length := by rw [hr.1]; exact (List.getElem?_eq_some_iff.1 h).1
    rw [actOf_get vs t vs[t] (List.getElem?_eq_getElem hlt)]
    exact hr.2 t vs[t] x (List.getElem?_eq_getElem hlt) h
theorem reps_tmps {B : Nat → Value} {nt n : Nat} {M : Imm} {ρ : Env} {s : St} {vs : List Value} {w : World} (hg : Good B nt M ρ s (actOf vs) w) (hn : vs.length = n) : Reps M ρ vs (tmpsOf s.T n) := by
  refine ⟨by rw [tmpsOf_len, hn], fun i v x hv hx => ?_⟩
  obtain ⟨hi, rfl⟩ := tmpsOf_get hx
  cases hT : s.T.get i with
  | none => exact .any _
  | some y =>
    have := hg.tm i y hT
    rwa [actOf_get vs i v hv] at this
theorem sealing_none {M : Imm} {ρ : Env} {H : List SObj} {w : World} {n : Nat} (hn : H.length ≤ n) : M.sealing ρ H n w = M := by
  funext b
  unfold Imm.sealing
  cases M b with
  | some o => rfl
  | none =>
    simp only
    rw [if_neg]
    rintro ⟨s, o, p, h1, h2, _⟩
    have := (List.getElem?_eq_some_iff.1 h2).1
    omega
theorem PX.sm_ok {cx : Cx} {g : Nat} {px : PX} (h : PXOk cx g px) : SmOk cx g px.sm := by
  refine ⟨h.fn, fun X args H k y hk => ?_⟩
  have hk : (match locAll args H px.locs [] with
    | none => none
    | some σ => gd (px.fit σ args H) (match readT px.τ ⟨[], List.range px.no, []⟩ px.no (viewSt σ args H) with
      | none => none
      | some x => match px.code x with
        | none => none
        | some y => k ((retV (px.res x y)).ren fun k => σ[k]?) (putBack σ (px.objs' x y) px.ids (forgetH (through σ px.mv) H)) (through σ px.ids) (through σ px.mv))) = some y := hk
  split at hk
  · cases hk
  · rename_i σ hσ
    obtain ⟨hfit, hk⟩ := gd_some hk
    split at hk
    · cases hk
    · rename_i x hx
      split at hk
      · cases hk
      · rename_i z hz
        simp only [PX.fit, Bool.and_eq_true] at hfit
        obtain ⟨f1, f2, f3, f4, f5, ⟨f6, f7⟩, f8⟩ := hfit
        have hno : σ.length = px.no := Nat.eq_of_beq_eq_true f1
        have hnp : args.length = px.np := Nat.eq_of_beq_eq_true f4
        have hlt : ∀ k s : Nat, σ[k]? = some s → s < H.length := fun k s h => blt_lt (List.all_eq_true.1 f3 s (List.mem_of_getElem? h))
        obtain ⟨r1, c, hc, r2⟩ := readT_some hx
        intro M ρ w vs hm hr
        have hmv := hm.view f2
        have hrv : Reps M (viewE σ ρ) vs (renL (idx σ 0) args) := by
          rw [renL_eq]
          refine ⟨by rw [List.length_map]; exact hr.1, fun i v x hv hx => ?_⟩
          simp only [List.getElem?_map, Option.map_eq_some_iff] at hx
          obtain ⟨u, hu, rfl⟩ := hx
          exact (hr.2 i v u hv hu).ren M.le_refl fun s t p h hp => viewE_idx h hp
        have hlen : (viewH σ H).length = px.no := by simp [viewH, hno]
        have hbl : (baseSt (deads px.no)).H.length = px.no := by simp [baseSt, deads]
        have hg := good_bare (n := σ.length) (tch := []) (fg := []) hmv hrv (by rw [hlen, hno]; exact Nat.le_refl _)
        obtain ⟨M2, ρ2, g1, g2, e1, e2⟩ := absorb (τ := px.τ) (D := []) (ids := List.range px.no) (mv := []) (b := baseSt (deads px.no)) (H0 := viewH σ H) (M0 := M) (ρ0 := viewE σ ρ) (a0 := actOf vs) (w0 := w) (fun _ _ => rfl) (base_dead hlen) hmv hg
          (Fr.refl ..) rfl f5 (by rw [hbl]; exact r1) (by rw [hbl]; exact r2) hc
        rw [hbl] at e1 e2
        have e1 : M2 = M := by rw [e1]; exact sealing_none (by show (viewH σ H).length ≤ px.no; rw [hlen]; exact Nat.le_refl _)
        have e2 : ρ2 = viewE σ ρ := by rw [e2, ← hlen]; exact cut_id hmv
        subst e1; subst e2
        have hm2 : Mem M2 (viewE σ ρ) (px.objs x) w := g1.mem
        have hol : (px.objs x).length = px.no := by
          show (px.τ.st [] (List.range px.no) [] (baseSt (deads px.no)) x).H.length = _
          rw [Tmpl.st_H, putCells_len, killAll_len, forgetH_len, hbl]
        have hreps : Reps M2 (viewE σ ρ) vs (px.args x) := reps_tmps g1 (by rw [hr.1, hnp])
        have hown : ∀ b, b < w.heap.size → Owned (viewE σ ρ) (px.objs x) b → ∃ (k s : Nat) (x : SObj) (p : Place), σ[k]? = some s ∧ H[s]? = some x ∧ x.live = true ∧ ρ s = some p ∧ p.block = b := fun b hb ho => by
          rcases g2.own b ho with h1 | h1
          · omega
          · exact view_owned h1
        refine (h.ok x z hz M2 (viewE σ ρ) w vs hm2 hreps).mono ?_
        rintro e w' ⟨v, r, H', M', ρ', t, f, he, ⟨rfl, rfl, ht, hf⟩, hs, hm', hfr⟩
        let ρ3 : Env := fun s => match idx σ 0 s with
          | some k => ρ' k
          | none => ρ s
        have hidx : ∀ k s : Nat, σ[k]? = some s → idx σ 0 s = some k := fun k s hks => by
          have key : ∀ (l : List Nat) (i j : Nat), l[j]? = some s → ∃ k, idx l i s = some k := by
            intro l
            induction l with
            | nil => intro i j h; simp at h
            | cons a l ih =>
              intro i j h
              simp only [idx]
              cases hb : Nat.beq a s with
              | true => exact ⟨i, rfl⟩
              | false =>
                cases j with
                | zero => simp at h; subst h; rw [Nat.beq_refl] at hb; cases hb
                | succ j => exact ih (i + 1) j (by simpa using h)
          obtain ⟨k', hk'⟩ := key σ 0 k hks
          obtain ⟨j, e, hj⟩ := idx_spec hk'
          have e : k' = j := by omega
          subst e
          rw [hk', nodupB_inj f2 k' k s hj hks]
        have hρ3 : ∀ k s : Nat, σ[k]? = some s → ρ3 s = ρ' k := fun k s hks => by simp only [ρ3, hidx k s hks]
        have hρ3' : ∀ s : Nat, (∀ k : Nat, σ[k]? ≠ some s) → ρ3 s = ρ s := fun s hns => by
          have : idx σ 0 s = none := by
            cases hi : idx σ 0 s with
            | none => rfl
            | some k => obtain ⟨j, _, hj⟩ := idx_spec hi; exact absurd hj (hns j)
          simp only [ρ3, this]
        have hstay : ∀ k s : Nat, σ[k]? = some s → k ∉ px.mv → ρ3 s = ρ s := fun k s hks hkm => by
          rw [hρ3 k s hks]
          have hklt : k < (px.objs x).length := by rw [hol, ← hno]; exact (List.getElem?_eq_some_iff.1 hks).1
          rw [hfr.stay k hklt fun h => hkm (hf k h)]
          simp only [viewE, hks]
        have hback : ∀ s t p, (fun k => σ[k]?) s = some t → ρ' s = some p → ρ3 t = some p := fun k s p hks hp => by rw [hρ3 k s hks]; exact hp
        have hmvi : ∀ k, k ∈ px.mv → k ∈ px.ids := fun k hk => subset_mem f6 hk
        have hkeep : ∀ k s : Nat, σ[k]? = some s → k ∉ px.ids → ∀ o, H[s]? = some o → o.live = true → (∃ o' : SObj, (px.objs' x z)[k]? = some o' ∧ o'.live = true) ∧ ∀ p, ρ s = some p → ρ' k = some p ∧ w'.heap[p.block]? = w.heap[p.block]? := fun k s hks hki o ho hl => by
          have hkn : k < px.no := by rw [← hno]; exact (List.getElem?_eq_some_iff.1 hks).1
          have hcell : k ∈ px.τ.cells.filterMap Cel.id? := by
            have := List.all_eq_true.1 f8 k (List.mem_range.2 hkn)
            simp only [Bool.or_eq_true, List.contains_eq_mem, decide_eq_true_eq] at this
            exact this.resolve_left hki
          have hko : k < (px.objs x).length := by rw [hol]; exact hkn
          obtain ⟨ok, hok⟩ : ∃ ok, (px.objs x)[k]? = some ok := ⟨_, List.getElem?_eq_getElem hko⟩
          have hokl : ok.live = true := by
            have hok' : (px.τ.st [] (List.range px.no) [] (baseSt (deads px.no)) x).H[k]? = some ok := hok
            rw [Tmpl.st_H] at hok'
            rcases putCells_H hok' with ⟨c', z', hi, hid, rfl⟩ | ⟨hni, _⟩
            · cases c' with
              | slot => cases hid
              | _ => rfl
            · exact absurd hcell hni
          obtain ⟨a1, a2⟩ := hfr.keep k ok hko (fun h => hki (ht k h)) hok hokl
          exact ⟨a1, fun p hp => a2 p (by simp only [viewE, hks]; exact hp)⟩
        have hother : ∀ s o p, H[s]? = some o → o.live = true → ρ s = some p → (∀ k : Nat, σ[k]? ≠ some s) → ¬ Owned (viewE σ ρ) (px.objs x) p.block := fun s o p ho hl hp hns hw => by
          obtain ⟨k, s', x', p', h1, h2, h3, h4, h5⟩ := hown p.block ((hm.own s o ho).lt hl hp) hw
          have := hm.dis s' s x' o p' p h2 ho h3 hl h4 hp h5
          subst this
          exact hns k h1
        have hsame : ∀ s o, H[s]? = some o → o.live = true → (∀ k : Nat, σ[k]? = some s → k ∉ px.ids) → ∀ p, ρ s = some p → ρ3 s = some p ∧ w'.heap[p.block]? = w.heap[p.block]? := fun s o ho hl hni p hp => by
          by_cases hin : ∃ k : Nat, σ[k]? = some s
          · obtain ⟨k, hks⟩ := hin
            obtain ⟨_, a2⟩ := hkeep k s hks (hni k hks) o ho hl
            obtain ⟨b1, b2⟩ := a2 p hp
            exact ⟨by rw [hρ3 k s hks]; exact b1, b2⟩
          · have hns : ∀ k : Nat, σ[k]? ≠ some s := fun k h => hin ⟨k, h⟩
            exact ⟨by rw [hρ3' s hns]; exact hp, hfr.same p.block ((hm.own s o ho).lt hl hp) (hother s o p ho hl hp hns)⟩
        have hsplit : ∀ s o, (putBack σ (px.objs' x z) px.ids (forgetH (through σ px.mv) H))[s]? = some o →
            (∃ k ∈ px.ids, σ[k]? = some s ∧ ∃ q, (px.objs' x z)[k]? = some q ∧ o = q.ren fun k => σ[k]?) ∨
            (∃ q, H[s]? = some q ∧ (o = q.forget (through σ px.mv) ∨ (through σ px.mv = [] ∧ o = q)) ∧ ∀ k : Nat, σ[k]? = some s → k ∉ px.ids) := fun s o ho => by
          rcases putBack_get ho with h1 | ⟨h1, h2⟩
          · exact .inl h1
          · obtain ⟨q, q1, q2⟩ := forgetH_get h1
            refine .inr ⟨q, q1, q2, fun k hks hki => ?_⟩
            have hkn : k < px.no := blt_lt (List.all_eq_true.1 f7 k hki)
            have : k < (px.objs' x z).length := by
              show k < (px.ω.st [] px.ids px.mv (baseSt (px.objs x)) z).H.length
              rw [Tmpl.st_H, putCells_len, killAll_len, forgetH_len]
              show k < (px.objs x).length
              rw [hol]; exact hkn
            have hn := h2 k hki hks
            rw [List.getElem?_eq_getElem this] at hn; cases hn
        have hlf : ∀ (q o : SObj), (o = q.forget (through σ px.mv) ∨ (through σ px.mv = [] ∧ o = q)) → o.live = q.live := fun q o h => by
          rcases h with rfl | ⟨_, rfl⟩
          · exact live_forget _ q
          · rfl
        have hbut : Env.leBut (through σ px.mv) ρ ρ3 := fun s p hs hp => by
          have hs : s ∉ through σ px.mv := by simpa using hs
          by_cases hin : ∃ k : Nat, σ[k]? = some s
          · obtain ⟨k, hks⟩ := hin
            rw [hstay k s hks fun hkm => hs (mem_through.2 ⟨k, hkm, hks⟩)]; exact hp
          · rw [hρ3' s fun k h => hin ⟨k, h⟩]; exact hp
        have hmem3 : Mem M' ρ3 (putBack σ (px.objs' x z) px.ids (forgetH (through σ px.mv) H)) w' := by
          refine ⟨hm'.imm, fun s o ho => ?_, fun s o p ho hl hp => ?_, fun s s' o o' p p' ho ho' hl hl' hp hp' hb => ?_, fun s hs => ?_⟩
          · rcases hsplit s o ho with ⟨k, hki, hks, q, hq, rfl⟩ | ⟨q, hq, hqo, hni⟩
            · exact (hm'.own k q hq).ren M'.le_refl hback (hρ3 k s hks) (fun _ _ => rfl)
            · by_cases hl : q.live = true
              · have hρs : ρ3 s = ρ s := by
                  by_cases hin : ∃ k : Nat, σ[k]? = some s
                  · obtain ⟨k, hks⟩ := hin
                    exact hstay k s hks fun hkm => hni k hks (hmvi k hkm)
                  · exact hρ3' s fun k h => hin ⟨k, h⟩
                have := (hm.own s q hq).forget (d := through σ px.mv) hfr.imm hbut hρs fun p hp => (hsame s q hq hl hni p hp).2
                rcases hqo with rfl | ⟨e, rfl⟩
                · exact this
                · rwa [e, SObj.forget_nil] at this
              · have e0 := live_some hl
                subst e0
                rcases hqo with rfl | ⟨_, rfl⟩ <;> trivial
          · rcases hsplit s o ho with ⟨k, hki, hks, q, hq, rfl⟩ | ⟨q, hq, hqo, hni⟩
            · rw [live_ren] at hl
              rw [hρ3 k s hks] at hp
              exact hm'.sep k q p hq hl hp
            · rw [hlf q o hqo] at hl
              by_cases hin : ∃ k : Nat, σ[k]? = some s
              · obtain ⟨k, hks⟩ := hin
                obtain ⟨⟨o', a1, a2⟩, _⟩ := hkeep k s hks (hni k hks) q hq hl
                rw [hρ3 k s hks] at hp
                exact hm'.sep k o' p a1 a2 hp
              · have hns : ∀ k : Nat, σ[k]? ≠ some s := fun k h => hin ⟨k, h⟩
                rw [hρ3' s hns] at hp
                cases e : M' p.block with
                | none => rfl
                | some ob =>
                  rcases hfr.new p.block ob (hm.sep s q p hq hl hp) e with h1 | h1
                  · have := (hm.own s q hq).lt hl hp; omega
                  · exact absurd h1 (hother s q p hq hl hp hns)
          ·
            have htw : ∀ s o p, (putBack σ (px.objs' x z) px.ids (forgetH (through σ px.mv) H))[s]? = some o → o.live = true → ρ3 s = some p →
                (∃ k q, σ[k]? = some s ∧ (px.objs' x z)[k]? = some q ∧ q.live = true ∧ ρ' k = some p) ∨ ((∀ k : Nat, σ[k]? ≠ some s) ∧ ∃ q, H[s]? = some q ∧ q.live = true ∧ ρ s = some p) := fun s o p ho hl hp => by
              rcases hsplit s o ho with ⟨k, hki, hks, q, hq, rfl⟩ | ⟨q, hq, hqo, hni⟩
              · rw [live_ren] at hl
                rw [hρ3 k s hks] at hp
                exact .inl ⟨k, q, hks, hq, hl, hp⟩
              · rw [hlf q o hqo] at hl
                by_cases hin : ∃ k : Nat, σ[k]? = some s
                · obtain ⟨k, hks⟩ := hin
                  obtain ⟨⟨o', a1, a2⟩, _⟩ := hkeep k s hks (hni k hks) q hq hl
                  rw [hρ3 k s hks] at hp
                  exact .inl ⟨k, o', hks, a1, a2, hp⟩
                · have hns : ∀ k : Nat, σ[k]? ≠ some s := fun k h => hin ⟨k, h⟩
                  rw [hρ3' s hns] at hp
                  exact .inr ⟨hns, q, hq, hl, hp⟩
            have hcross : ∀ (k s' : Nat) (q : SObj) (q' : SObj) (p p' : Place), (px.objs' x z)[k]? = some q → q.live = true → ρ' k = some p → (∀ k : Nat, σ[k]? ≠ some s') → H[s']? = some q' → q'.live = true → ρ s' = some p' → p.block = p'.block → False := fun k s' q q' p p' h1 h2 h3 h4 h5 h6 h7 h8 => by
              have hlt2 := (hm.own s' q' h5).lt h6 h7
              rcases hfr.own p.block ⟨k, q, p, h1, h2, h3, rfl⟩ with h9 | h9
              · rw [h8] at h9; omega
              · rw [h8] at h9; exact hother s' q' p' h5 h6 h7 h4 h9
            rcases htw s o p ho hl hp with ⟨k, q, a1, a2, a3, a4⟩ | ⟨a1, q, a2, a3, a4⟩
            · rcases htw s' o' p' ho' hl' hp' with ⟨k', q', b1, b2, b3, b4⟩ | ⟨b1, q', b2, b3, b4⟩
              · have := hm'.dis k k' q q' p p' a2 b2 a3 b3 a4 b4 hb
                subst this
                rw [a1] at b1; cases b1; rfl
              · exact (hcross k s' q q' p p' a2 a3 a4 b1 b2 b3 b4 hb).elim
            · rcases htw s' o' p' ho' hl' hp' with ⟨k', q', b1, b2, b3, b4⟩ | ⟨b1, q', b2, b3, b4⟩
              · exact (hcross k' s q' q p' p b2 b3 b4 a1 a2 a3 a4 hb.symm).elim
              · exact hm.dis s s' q q' p p' a2 b2 a3 b3 a4 b4 hb
          · rw [putBack_len, forgetH_len] at hs
            have hns : ∀ k : Nat, σ[k]? ≠ some s := fun k h => by have := hlt k s h; omega
            rw [hρ3' s hns]
            exact hm.fresh s hs
        refine ⟨v, _, _, M', ρ3, _, _, he, hk, hs.ren M'.le_refl hback, hmem3, ?_⟩
        have hup : ∀ b, b < w.heap.size → Owned (viewE σ ρ) (px.objs x) b → Owned ρ H b := fun b hb ho => by
          obtain ⟨k, s, x', p, h1, h2, h3, h4, h5⟩ := hown b hb ho
          exact ⟨s, x', p, h2, h3, h4, h5⟩
        refine ⟨hfr.imm, fun b ob h0 h1 => ?_, fun b hb => ?_, fun b hb hno2 => hfr.same b hb fun ho => hno2 (hup b hb ho), hfr.grow, fun s o hsn hst ho hl => ?_, fun s hsn hsm => ?_, hfr.io⟩
        · rcases hfr.new b ob h0 h1 with h2 | h2
          · exact .inl h2
          · by_cases hb : b < w.heap.size
            · exact .inr (hup b hb h2)
            · exact .inl (by omega)
        · obtain ⟨s, o, p, h1, h2, h3, h4⟩ := hb
          rcases hsplit s o h1 with ⟨k, hki, hks, q, hq, rfl⟩ | ⟨q, hq, hqo, hni⟩
          · rw [live_ren] at h2
            rw [hρ3 k s hks] at h3
            rcases hfr.own b ⟨k, q, p, hq, h2, h3, h4⟩ with h5 | h5
            · exact .inl h5
            · by_cases hb : b < w.heap.size
              · exact .inr (hup b hb h5)
              · exact .inl (by omega)
          · rw [hlf q o hqo] at h2
            refine .inr ⟨s, q, p, hq, h2, ?_, h4⟩
            by_cases hin : ∃ k : Nat, σ[k]? = some s
            · obtain ⟨k, hks⟩ := hin
              rw [hstay k s hks fun hkm => hni k hks (hmvi k hkm)] at h3; exact h3
            · rw [hρ3' s fun k h => hin ⟨k, h⟩] at h3; exact h3
        · have hni : ∀ k : Nat, σ[k]? = some s → k ∉ px.ids := fun k hks hki => hst (mem_through.2 ⟨k, hki, hks⟩)
          refine ⟨?_, hsame s o ho hl hni⟩
          have hlen2 : s < (putBack σ (px.objs' x z) px.ids (forgetH (through σ px.mv) H)).length := by rw [putBack_len, forgetH_len]; exact hsn
          obtain ⟨o2, ho2⟩ : ∃ o2, (putBack σ (px.objs' x z) px.ids (forgetH (through σ px.mv) H))[s]? = some o2 := ⟨_, List.getElem?_eq_getElem hlen2⟩
          refine ⟨o2, ho2, ?_⟩
          rcases hsplit s o2 ho2 with ⟨k, hki, hks, _⟩ | ⟨q, hq, hqo, _⟩
          · exact absurd hki (hni k hks)
          · rw [ho] at hq; cases hq
            rw [hlf o o2 hqo]; exact hl
        · by_cases hin : ∃ k : Nat, σ[k]? = some s
          · obtain ⟨k, hks⟩ := hin
            exact hstay k s hks fun hkm => hsm (mem_through.2 ⟨k, hkm, hks⟩)
          · exact hρ3' s fun k h => hin ⟨k, h⟩
def finX (cx : Cx) (fn : Func) (px : PX) : KX px.ω.El := fun e s =>
  gd (isEnd e && (s.marks.isEmpty || Nat.ble px.no s.H.length)) (match shut s.marks s.H with
    | none => none
    | some H' => resO cx { s with H := H', marks := [] } fn.results.toList fun l =>
      gd (Nat.beq l.length px.nr) (readT px.ω ⟨[], px.ids, px.mv⟩ px.no { T := entryT (.full 8) 0 l, H := H', n0 := px.no, tch := s.tch, fg := s.fg, marks := [], er := [] }))
def codeX (cx : Cx) (lx : Lx) (n : Nat) (an : Ann) (fn : Func) (c : Code) (px : PX) (x : px.τ.El) : Option px.ω.El :=
  evalO cx lx n px.ω.El (CEls.eqv px.ω.cells) an true fn.ntmps c (.entry (px.args x) (px.objs x)) (finX cx fn px)
theorem finX_some {cx : Cx} {fn : Func} {px : PX} {e : Exit} {s : St} {y : px.ω.El} (h : finX cx fn px e s = some y) :
    (e = .normal ∨ e = .ret) ∧ (px.no ≤ s.H.length ∨ s.marks = []) ∧ ∃ H', shut s.marks s.H = some H' ∧ resP cx { s with H := H', marks := [] } fn.results.toList fun l =>
      l.length = px.nr ∧ readT px.ω ⟨[], px.ids, px.mv⟩ px.no { T := entryT (.full 8) 0 l, H := H', n0 := px.no, tch := s.tch, fg := s.fg, marks := [], er := [] } = some y := by
  obtain ⟨h1, h⟩ := gd_some h
  simp only [Bool.and_eq_true, Bool.or_eq_true, List.isEmpty_iff] at h1
  refine ⟨isEnd_eq h1.1, h1.2.symm.imp (fun h => Nat.le_of_ble_eq_true h) id, ?_⟩
  split at h
  · cases h
  · rename_i H' hs
    refine ⟨H', hs, resP_mono _ _ _ (fun l hl => ?_) (resO_sound _ _ h)⟩
    obtain ⟨h2, hl⟩ := gd_some hl
    exact ⟨Nat.eq_of_beq_eq_true h2, hl⟩
theorem PX.objs_len (px : PX) (x : px.τ.El) : (px.objs x).length = px.no := by
  show (px.τ.st [] (List.range px.no) [] (baseSt (deads px.no)) x).H.length = _
  rw [Tmpl.st_H, putCells_len, killAll_len, forgetH_len]
  simp [baseSt, deads]
theorem retV_parts {M : Imm} {ρ : Env} {v : Value} {l : List SV} (h : SRep M ρ v (retV l)) : ∃ vs : List Value, Reps M ρ vs l ∧ ∀ (M2 : Imm) (ρ2 : Env) (l2 : List SV), l2.length = l.length → Reps M2 ρ2 vs l2 → SRep M2 ρ2 v (retV l2) := by
  match l, h with
  | [x], h =>
    refine ⟨[v], ⟨rfl, fun i u y hu hy => ?_⟩, fun M2 ρ2 l2 hl hr => ?_⟩
    · cases i with
      | zero => simp at hu hy; subst hu; subst hy; exact h
      | succ i => simp at hu
    · match l2, hl, hr with
      | [y], _, hr => exact hr.2 0 v y rfl rfl
  | [], h =>
    have h : SRep M ρ v (.tup []) := h
    cases h with
    | tup cs _ hl hr =>
      refine ⟨cs.toList, ⟨by simpa using hl, fun i u y hu hy => by simp at hy⟩, fun M2 ρ2 l2 hl2 hr2 => ?_⟩
      match l2, hl2 with
      | [], _ => exact .tup cs _ hl fun i v x hv hx => by simp at hx
  | a :: b :: l, h =>
    have h : SRep M ρ v (.tup (a :: b :: l)) := h
    cases h with
    | tup cs _ hl hr =>
      refine ⟨cs.toList, ⟨by simpa using hl, fun i u y hu hy => hr i u y (by rw [← Array.getElem?_toList]; exact hu) hy⟩, fun M2 ρ2 l2 hl2 hr2 => ?_⟩
      match l2, hl2, hr2 with
      | x :: y :: l2, hl2, hr2 => exact .tup cs _ (by rw [hl, hl2]) fun i v z hv hz => hr2.2 i v z (by rw [Array.getElem?_toList]; exact hv) hz
theorem PXOk.of_eval {cx : Cx} (hcx : cx.Ok) {lx : Lx} (hlx : lx.Ok cx) {n g : Nat} {an : Ann} {fn : Func} {c : Code} {px : PX} (hf : cx.fns.lookup g = some fn) (hb : fn.body = some c)
    (hcode : ∀ x y, px.code x = some y → codeX cx lx n an fn c px x = some y) (hn : Nat.ble px.np fn.ntmps = true) (hcov : (px.ω.covers px.ids && subset px.mv px.ids) = true) : PXOk cx g px := by
  rw [Bool.and_eq_true] at hcov
  refine ⟨⟨fn, hf⟩, fun x y hy => ?_⟩
  have hw := (evalO_sound hcx hlx n).1 _ _ (CEls.eqv_ok px.ω.cells) none an true fn.ntmps c _ _ y (fun _ => rfl) (hcode x y hy)
  have hcall : SCall cx.P g (px.args x) (px.objs x) fun r H' t f => ∃ l, r = retV l ∧ l.length = px.nr ∧ readT px.ω ⟨[], px.ids, px.mv⟩ px.no { T := entryT (.full 8) 0 l, H := H', n0 := px.no, tch := t, fg := f, marks := [], er := [] } = some y := by
    refine SCall_of_WPs hcx hf hb (by rw [show (px.args x).length = px.np from tmpsOf_len _ _]; exact Nat.le_of_ble_eq_true hn) (hw.mono fun e s hs => ?_)
    obtain ⟨h1, h1', H', h2, h3⟩ := finX_some hs
    exact ⟨h1, h1'.imp (fun h => by rw [px.objs_len]; exact h) id, H', h2, resP_mono _ _ _ (fun l h4 => ⟨l, rfl, h4⟩) h3⟩
  intro M ρ w vs hm hr
  refine (hcall M ρ w vs hm hr).mono ?_
  rintro e w' ⟨v, r, H', M', ρ', t, f, he, ⟨l, rfl, hl, hrd⟩, hs, hm', hfr⟩
  obtain ⟨us, hus, hback⟩ := retV_parts hs
  obtain ⟨r1, c', hc, r2⟩ := readT_some hrd
  have hno : px.no ≤ H'.length := by
    simp only [St.reads, Bool.and_eq_true] at r1
    exact Nat.le_of_ble_eq_true r1.2.2.2.2
  have hg := good_bare (n := px.no) (tch := t) (fg := f) hm' hus hno
  have hbl : (baseSt (px.objs x)).H.length = px.no := px.objs_len x
  obtain ⟨M2, ρ2, g1, g2, _, _⟩ := absorb (τ := px.ω) (D := []) (ids := px.ids) (mv := px.mv) (b := baseSt (px.objs x)) (H0 := px.objs x) (M0 := M) (ρ0 := ρ) (a0 := actOf us) (w0 := w) (fun _ _ => rfl) (base_bare hm _ _ _) hm hg
    (by rw [hbl]; rw [px.objs_len] at hfr; exact hfr) hcov.2 hcov.1 (by rw [hbl]; exact r1) (by rw [hbl]; exact r2) hc
  rw [hbl] at g2
  have hus2 : us.length = px.nr := by rw [hus.1, hl]
  refine ⟨v, _, _, M2, ρ2, px.ids, px.mv, he, ⟨rfl, rfl, fun i h => h, fun i h => h⟩, hback M2 ρ2 _ (by rw [hl]; exact tmpsOf_len _ _) (reps_tmps g1 hus2), g1.mem, ?_⟩
  rw [px.objs_len]; exact g2
end Go.Sx

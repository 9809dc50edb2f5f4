/- Part F of the own logic: what lays new memory. Part G of the own logic: addresses, slices of slices, lengths. Part H of the own logic: append. -/
import Derived.Test.YtdghdcclhnoigaaGreatDoorXSxA
import Derived.Great.BuildSlice
import Derived.Laws.MakeOwn
import Derived.Lib.AppendZeros
section
set_option linter.unusedVariables false
set_option linter.unusedSimpArgs false
namespace Go.Sx
open Go
def allPures : List (List SV) → Option (List (List PV))
  | [] => some []
  | r :: rs => match pures r, allPures rs with
    | some p, some ps => some (p :: ps)
    | _, _ => none
theorem allPures_eq : ∀ {l : List (List SV)} {ps : List (List PV)}, allPures l = some ps → l = ps.map (·.map .pv)
  | [], ps, h => by simp [allPures] at h; subst h; rfl
  | x :: l, ps, h => by
    simp only [allPures] at h
    split at h
    · rename_i p q h1 h2; cases h; simp [pures_eq h1, allPures_eq h2]
    · cases h
def mkObj (ty sz : Nat) (rows : List (List SV)) : SObj :=
  match allPures rows with
  | some ps => .vec ty sz ps
  | none => .mix ty sz rows
theorem mkObj_facts (ty sz : Nat) (rows : List (List SV)) : (mkObj ty sz rows).sz? = some sz ∧ (mkObj ty sz rows).len = rows.length ∧ (mkObj ty sz rows).ty = ty ∧ ∀ i, (mkObj ty sz rows).row i = rows.getD i [] := by
  unfold mkObj
  split
  · rename_i ps h
    have e := allPures_eq h
    subst e
    refine ⟨rfl, by simp [SObj.len], rfl, fun i => ?_⟩
    simp only [SObj.row, List.getD, List.getElem?_map]
    cases ps[i]? <;> simp
  · exact ⟨rfl, rfl, rfl, fun i => rfl⟩
theorem does_new {P : Program} {S : Sem Value} {M : Imm} {ρ : Env} {H : List SObj} {w w' : World} {K : Post} {v : Value} {x : SV} {cs : Array Value} {ty : TypeId} {o : SObj} {sz : Nat}
    (hm : Mem M ρ H w) (hr : S.run P w = .ok v w') (hw : w'.heap = w.heap.push (.cells cs ty (0, 0))) (hz : o.sz? = some sz) (hty : o.ty = ty) (hl : o.len * sz ≤ cs.size)
    (h4 : ∀ i j, i < o.len → j < sz → ∃ v, cs[i * sz + j]? = some v ∧ isCell v = true)
    (h5 : ∀ i j x, i < o.len → (o.row i)[j]? = some x → j < sz ∧ ∀ v, cs[i * sz + j]? = some v → SRep M ρ v x)
    (hx : ∀ ρ' : Env, ρ'  H.length = some ⟨w.heap.size, cs.size⟩ → SRep M ρ' v x) (hk : K x (H ++ [o]) [] []) (io : w'.os = w.os ∧ w'.output = w.output := by exact ⟨rfl, rfl⟩) : DoesV P S M ρ H w K := by
  have hle : ρ.le (ρ.set H.length (some ⟨w.heap.size, cs.size⟩)) := fun s p hp => by
    by_cases e : s = H.length
    · subst e; rw [hm.fresh _ (Nat.le_refl _)] at hp; cases hp
    · rw [Env.set_ne _ _ e]; exact hp
  have hheap : w'.heap[w.heap.size]? = some (.cells cs ty (0, 0)) := by rw [hw]; simp
  have ho : OwnAt M (ρ.set H.length (some ⟨w.heap.size, cs.size⟩)) w' H.length o := by
    refine RowOf.ownAt (p := ⟨w.heap.size, cs.size⟩) hz (Env.set_self ..) (fun ty' sz' rows e => ?_) (fun ty' sz' rows e => ?_) (fun ty' row l2 e => ?_) hheap (Nat.le_refl _) hl h4 (fun i j x hi hj => ?_)
    · rw [e] at hty; exact hty
    · rw [e] at hty; exact hty
    · rw [e] at hty; exact hty
    · obtain ⟨a, b⟩ := h5 i j x hi hj
      exact ⟨a, fun v hv => (b v hv).mono M.le_refl hle⟩
  obtain ⟨g1, g2⟩ := hm.alloc hw ho io
  exact ⟨v, w', hr, x, _, [], [], M, _, hk, hx _ (Env.set_self ..), g1, g2⟩
theorem OwnAt.retype {M : Imm} {ρ : Env} {w : World} {s ty : Nat} {row : List Ty} {rows : List (List PV)} {l : List (Els row)} (hl : l.length = rows.length)
    (hc : ∀ (i : Nat) (r' : List PV), (rowsPV row l)[i]? = some r' → ∃ r, rows[i]? = some r ∧ ∀ (j : Nat) (q : PV), r'[j]? = some q → ∃ p, r[j]? = some p ∧ ∀ (M : Imm) (v : Value), PRep M v p → PRep M v q)
    (h : OwnAt M ρ w s (.vec ty row.length rows)) : OwnAt M ρ w s (.tvec ty row l) := by
  have hlen : (rowsPV row l).length = rows.length := by simp [rowsPV, hl]
  rcases h with ⟨h1, h2⟩ | ⟨p, h1, h2⟩
  · exact .inl ⟨h1, List.eq_nil_of_length_eq_zero (by rw [hlen, h2]; rfl)⟩
  · refine .inr ⟨p, h1, ?_⟩
    obtain ⟨cs, a1, a2, a3, a4, a5, a6⟩ := h2.ex
    have key : ∀ i j x, vcell (rowsPV row l) i j = some x → ∃ y, vcell rows i j = some y ∧ ∀ M ρ v, SRep M ρ v y → SRep M ρ v x := fun i j x hx => by
      unfold vcell at hx
      simp only [Option.map_eq_some_iff, Option.bind_eq_some_iff] at hx
      obtain ⟨q, ⟨r', hr', hq⟩, rfl⟩ := hx
      obtain ⟨r, g1, g2⟩ := hc i r' hr'
      obtain ⟨p, g3, g4⟩ := g2 j q hq
      refine ⟨.pv p, by simp [vcell, g1, g3], fun M ρ v h => ?_⟩
      cases h with
      | pv h => exact .pv (g4 M v h)
    refine ⟨cs, a1, a2, by rw [hlen]; exact a3, by rw [hlen]; exact a4, fun i j x v hx hv => ?_, fun i j x hx => ?_⟩
    · obtain ⟨y, hy, himp⟩ := key i j x hx
      obtain ⟨b1, b2, b3⟩ := a5 i j y v hy hv
      exact ⟨by rw [hlen]; exact b1, b2, himp _ _ _ b3⟩
    · obtain ⟨y, hy, _⟩ := key i j x hx
      rw [hlen]; exact a6 i j y hy
theorem Mem.described {M : Imm} {ρ : Env} {H : List SObj} {w : World} {s : Nat} {o o' : SObj} (h : Mem M ρ H w) (hs : H[s]? = some o) (hl : o'.live = o.live) (ho : OwnAt M ρ w s o → OwnAt M ρ w s o') : Mem M ρ (H.set s o') w := by
  have sub : ∀ (t : Nat) (x : SObj), (H.set s o')[t]? = some x → ∃ y, H[t]? = some y ∧ x.live = y.live ∧ (OwnAt M ρ w t y → OwnAt M ρ w t x) := fun t x hx => by
    rw [List.getElem?_set] at hx
    split at hx
    · rename_i e; subst e
      split at hx
      · cases hx; exact ⟨o, hs, hl, ho⟩
      · cases hx
    · exact ⟨x, hx, rfl, id⟩
  refine ⟨h.imm, fun t x hx => ?_, fun t x p hx hlx hp => ?_, fun t t' x x' p p' hx hx' hlx hlx' hp hp' hb => ?_, fun t ht => h.fresh t (by simpa using ht)⟩
  · obtain ⟨y, hy, _, hi⟩ := sub t x hx; exact hi (h.own t y hy)
  · obtain ⟨y, hy, e, _⟩ := sub t x hx; rw [e] at hlx; exact h.sep t y p hy hlx hp
  · obtain ⟨y, hy, e, _⟩ := sub t x hx; obtain ⟨y', hy', e', _⟩ := sub t' x' hx'
    rw [e] at hlx; rw [e'] at hlx'; exact h.dis t t' y y' p p' hy hy' hlx hlx' hp hp' hb
theorem Fr.described {M M' : Imm} {ρ ρ' : Env} {H H' : List SObj} {w w' : World} {n s : Nat} {t f : List Nat} {o o' : SObj} (h : Fr M ρ H w M' ρ' H' w' n t f) (hs : H'[s]? = some o) (hl : o'.live = o.live) : Fr M ρ H w M' ρ' (H'.set s o') w' n t f := by
  refine ⟨h.imm, h.new, fun b hb => ?_, h.same, h.grow, fun x y hx hxt hy hly => ?_, h.stay, h.io⟩
  · obtain ⟨x, y, p, h1, h2, h3, h4⟩ := hb
    rw [List.getElem?_set] at h1
    split at h1
    · rename_i e; subst e
      split at h1
      · cases h1; exact h.own b ⟨s, o, p, hs, by rw [← hl]; exact h2, h3, h4⟩
      · cases h1
    · exact h.own b ⟨x, y, p, h1, h2, h3, h4⟩
  · obtain ⟨⟨z, h1, h2⟩, h3⟩ := h.keep x y hx hxt hy hly
    refine ⟨?_, h3⟩
    by_cases e : s = x
    · subst e
      rw [hs] at h1; cases h1
      exact ⟨o', by rw [List.getElem?_set]; simp [(List.getElem?_eq_some_iff.1 hs).1], by rw [hl]; exact h2⟩
    · exact ⟨z, by rw [List.getElem?_set, if_neg e]; exact h1, h2⟩
def Described (H' : List SObj) (x : SV) (K : SV → List SObj → Prop) : Prop :=
  ∃ y, (∀ M ρ v, SRep M ρ v x → SRep M ρ v y) ∧ (K y H' ∨ ∃ s o o', H'[s]? = some o ∧ o'.live = o.live ∧ (∀ M ρ w, OwnAt M ρ w s o → OwnAt M ρ w s o') ∧ K y (H'.set s o'))
theorem DoesV.described {P : Program} {S : Sem Value} {M : Imm} {ρ : Env} {H : List SObj} {w : World} {K : Post} (h : DoesV P S M ρ H w fun x H' t f => Described H' x fun y H' => K y H' t f) : DoesV P S M ρ H w K := by
  obtain ⟨v, w', hr, x, H', t, f, M', ρ', ⟨y, hy, hk⟩, hs, hm, hf⟩ := h
  rcases hk with hk | ⟨s, o, o', h1, h2, h3, hk⟩
  · exact ⟨v, w', hr, y, H', t, f, M', ρ', hk, hy _ _ _ hs, hm, hf⟩
  · exact ⟨v, w', hr, y, _, t, f, M', ρ', hk, hy _ _ _ hs, hm.described h1 h2 (h3 _ _ _), hf.described h1 h2⟩
theorem described_last {H : List SObj} {x : SV} {ty : Nat} {row : List Ty} {rows : List (List PV)} {l : List (Els row)} {K : SV → List SObj → Prop} (hl : l.length = rows.length)
    (hc : ∀ (i : Nat) (r' : List PV), (rowsPV row l)[i]? = some r' → ∃ r, rows[i]? = some r ∧ ∀ (j : Nat) (q : PV), r'[j]? = some q → ∃ p, r[j]? = some p ∧ ∀ (M : Imm) (v : Value), PRep M v p → PRep M v q)
    (hk : K x (H ++ [.tvec ty row l])) : Described (H ++ [.vec ty row.length rows]) x K :=
  ⟨x, fun _ _ _ h => h, .inr ⟨H.length, .vec ty row.length rows, .tvec ty row l, by simp, rfl, fun M ρ w h => h.retype hl hc, by simpa using hk⟩⟩
def sAlloc (tab : Tab) (H : List SObj) (t : Nat) : Res :=
  match tab.lookup t with
  | none => .fail
  | some i => .eff (.ptr H.length i.size 0 0) (H ++ [mkObj t i.size [i.zero.cells.toList.map SV.lit]]) [] []
theorem one_row {cs : Array Value} {l : List SV} {sz : Nat} {M : Imm} {ρ : Env} (h1 : cs.size = sz) (h2 : l.length = sz)
    (h3 : ∀ (i : Nat) (u : Value) (y : SV), cs[i]? = some u → l[i]? = some y → SRep M ρ u y) (i j : Nat) (x : SV) (hi : i < 1) (hx : (([l] : List (List SV)).getD i [])[j]? = some x) :
    j < sz ∧ ∀ v, cs[i * sz + j]? = some v → SRep M ρ v x := by
  obtain rfl : i = 0 := by omega
  simp [List.getD] at hx
  exact ⟨by have := (List.getElem?_eq_some_iff.1 hx).1; omega, fun v hv => h3 j v x (by simpa using hv) hx⟩
theorem sAlloc_sound {P : Program} {tab : Tab} (htab : TabOk P tab) {M : Imm} {ρ : Env} {H : List SObj} {w : World} {K : Post} (hm : Mem M ρ H w) {t : TypeId} {old : Value}
    (h : (sAlloc tab H t).holds H K) : DoesV P (Instr.alloc t true old) M ρ H w K := by
  unfold sAlloc at h
  split at h
  · exact h.elim
  · rename_i i hi
    have ht := htab.get hi
    obtain ⟨n, hn, h1, h2, h3⟩ := ht.inf
    obtain ⟨m1, m2, m3, m4⟩ := mkObj_facts t i.size [i.zero.cells.toList.map SV.lit]
    have hrun : (Instr.alloc t true old).run P w = .ok (.pointer (some ⟨w.heap.size, 0, none⟩)) (w.alloc (.cells i.zero.cells t)) := by
      simp [Instr.alloc, zeroValue, typeInfo, hn, h3, newVar, newRow]
    refine does_new hm hrun rfl m1 m3 (by rw [m2]; simp [ht.zsz]) (fun r c hr hc => ?_) (fun r c x hr hx => ?_) (fun ρ' hρ => .ptr _ _ 0 0 0 _ hρ (by simp)) h
    · rw [m2] at hr; simp at hr; subst hr
      have hc' : c < i.zero.cells.size := by rw [ht.zsz]; exact hc
      exact ⟨i.zero.cells[c], by simp [hc'], (Array.all_eq_true_iff_forall_mem.1 ht.zon) _ (by simp)⟩
    · rw [m2] at hr; rw [m4] at hx
      exact one_row ht.zsz (by simp [ht.zsz]) (fun k u y hu hy => by
        simp only [List.getElem?_map, Option.map_eq_some_iff] at hy
        obtain ⟨z, hz, rfl⟩ := hy
        rw [Array.getElem?_toList, hu] at hz; cases hz; exact .pv (.lit _)) r c x hr hx
def sBox (tab : Tab) (H : List SObj) (t : Nat) (x : SV) : Res :=
  match tab.lookup t with
  | none => .fail
  | some i => match x.parts i.size with
    | none => .fail
    | some l => .need (l.all SV.known) (.eff (.ptr H.length i.size 0 0) (H ++ [mkObj t i.size [l]]) [] [])
theorem known_all {M : Imm} {ρ : Env} {cs : Array Value} {l : List SV} (hk : l.all SV.known = true) (hl : cs.size = l.length)
    (h : ∀ (i : Nat) (u : Value) (y : SV), cs[i]? = some u → l[i]? = some y → SRep M ρ u y) (k : Nat) (v : Value) (hv : cs[k]? = some v) : v.oneCell' = true := by
  have hlt : k < l.length := by have := (Array.getElem?_eq_some_iff.1 hv).1; omega
  exact (h k v l[k] hv (by simp [hlt])).known (List.all_eq_true.1 hk _ (List.getElem_mem hlt))
theorem sBox_sound {P : Program} {tab : Tab} (htab : TabOk P tab) {M : Imm} {ρ : Env} {H : List SObj} {w : World} {K : Post} (hm : Mem M ρ H w) {t : TypeId} {v : Value} {x : SV} (hx : SRep M ρ v x)
    (h : (sBox tab H t x).holds H K) : DoesV P (Instr.box t v) M ρ H w K := by
  unfold sBox at h
  split at h
  · exact h.elim
  · rename_i i hi
    have ht := htab.get hi
    split at h
    · exact h.elim
    · rename_i l hl
      obtain ⟨hkn, h⟩ := h
      obtain ⟨q1, q2, q3⟩ := hx.parts hl
      obtain ⟨m1, m2, m3, m4⟩ := mkObj_facts t i.size [l]
      have hrun : (Instr.box t v).run P w = .ok (.pointer (some ⟨w.heap.size, 0, none⟩)) (w.alloc (.cells v.cells t)) := by
        simp [Instr.box, newVar, newRow]
      refine does_new hm hrun rfl m1 m3 (by rw [m2]; simp [q1]) (fun r c hr hc => ?_) (fun r c y hr hy => ?_) (fun ρ' hρ => .ptr _ _ 0 0 0 _ hρ (by simp)) h
      · rw [m2] at hr; simp at hr; subst hr
        have hc' : c < v.cells.size := by rw [q1]; exact hc
        exact ⟨v.cells[c], by simp [hc'], known_all hkn (q1.trans q2.symm) q3 c _ (by simp [hc'])⟩
      · rw [m2] at hr; rw [m4] at hy
        exact one_row q1 q2 q3 r c y hr hy
def splice {α : Type} (l v : List α) (f : Nat) : List α := l.take f ++ v ++ l.drop (f + v.length)
def sfill (place : Nat → Option (Nat × Nat)) : List SV → List (Nat × SV) → Option (List SV)
  | cells, [] => some cells
  | cells, (i, x) :: rest => match place i with
    | none => none
    | some (off, size) => match x.parts size with
      | none => none
      | some l => if (l.all SV.known) = true ∧ off + size ≤ cells.length then sfill place (splice cells l off) rest else none
structure RowRep (M : Imm) (ρ : Env) (cs : Array Value) (l : List SV) : Prop where
  sz : cs.size = l.length
  rep : ∀ (i : Nat) (u : Value) (y : SV), cs[i]? = some u → l[i]? = some y → SRep M ρ u y
  one : ∀ (i : Nat) (u : Value), cs[i]? = some u → u.oneCell' = true
theorem sfill_sound {M : Imm} {ρ : Env} {place : Nat → Option (Nat × Nat)} : ∀ {sp : List (Nat × SV)} {vp : List (Nat × Value)} {cs : Array Value} {sc sc' : List SV}, RowRep M ρ cs sc →
    vp.length = sp.length → (∀ (k : Nat) (a : Nat × Value) (b : Nat × SV), vp[k]? = some a → sp[k]? = some b → a.1 = b.1 ∧ SRep M ρ a.2 b.2) →
    sfill place sc sp = some sc' → ∃ cs', Instr.fill place cs vp = some cs' ∧ RowRep M ρ cs' sc'
  | [], [], cs, sc, sc', hr, _, _, h => by simp only [sfill, Option.some.injEq] at h; subst h; exact ⟨cs, rfl, hr⟩
  | [], _ :: _, _, _, _, _, hl, _, _ => by simp at hl
  | _ :: _, [], _, _, _, _, hl, _, _ => by simp at hl
  | (i, x) :: sp, (i', v) :: vp, cs, sc, sc', hr, hl, hp, h => by
    obtain ⟨e, hx⟩ := hp 0 _ _ rfl rfl
    simp only at e hx; subst e
    simp only [sfill] at h
    split at h
    · cases h
    · rename_i off size hpl
      split at h
      · cases h
      · rename_i l hlp
        split at h
        · rename_i hc
          obtain ⟨hkn, hfit⟩ := hc
          obtain ⟨q1, q2, q3⟩ := hx.parts hlp
          obtain ⟨f1, f2⟩ := Great.foldl_set off v.cells.toList 0 cs
          have hsz := hr.sz
          generalize hcs1 : (v.cells.toList.zipIdx 0).foldl (fun cs (x : Value × Nat) => cs.setIfInBounds (off + x.2) x.1) cs = cs1 at f1 f2
          have hget : ∀ k : Nat, cs1[k]? = if k < off then cs[k]? else if k < off + l.length then v.cells[k - off]? else cs[k]? := fun k => by
            rw [f2 k]
            simp only [Nat.add_zero, Array.length_toList, Array.getElem?_toList]
            by_cases h1 : k < off
            · rw [if_neg (by omega), if_pos h1]
            · by_cases h2 : k < off + l.length
              · rw [if_pos (by omega), if_neg h1, if_pos h2]
              · rw [if_neg (by omega), if_neg h1, if_neg h2]
          have hnew : RowRep M ρ cs1 (splice sc l off) := by
            refine ⟨?_, fun k u y hu hy => ?_, fun k u hu => ?_⟩
            · rw [f1, hsz]; simp [splice]; omega
            · rw [hget] at hu
              unfold splice at hy
              rw [splice_get _ _ _ _ (by omega)] at hy
              split at hu
              · rename_i h1; rw [if_pos h1] at hy; exact hr.rep k u y hu hy
              · rename_i h1; rw [if_neg h1] at hy
                split at hu
                · rename_i h2; rw [if_pos h2] at hy; exact q3 _ u y hu hy
                · rename_i h2; rw [if_neg h2] at hy; exact hr.rep k u y hu hy
            · rw [hget] at hu
              split at hu
              · exact hr.one k u hu
              · split at hu
                · exact known_all hkn (q1.trans q2.symm) q3 _ u hu
                · exact hr.one k u hu
          obtain ⟨cs', g1, g2⟩ := sfill_sound (sp := sp) (vp := vp) hnew (by simpa using hl) (fun k a b ha hb => hp (k + 1) a b (by simpa using ha) (by simpa using hb)) h
          refine ⟨cs', ?_, g2⟩
          simp only [Instr.fill, hpl]
          have hcond : (v.cells.size ≠ size || off + v.cells.size > cs.size) = false := by simp [q1]; omega
          rw [hcond]
          simp only [Bool.false_eq_true, if_false]
          have : v.cells.zipIdx.foldl (fun cs (x : Value × Nat) => match x with | (c, j) => cs.setIfInBounds (off + j) c) cs = cs1 := by
            rw [← hcs1, ← Array.foldl_toList]; simp
          rw [this]
          exact g1
        · cases h
def chunks (sz n : Nat) (l : List SV) : List (List SV) := (List.range n).map fun i => (l.drop (i * sz)).take sz
def sBuildSlice (tab : Tab) (H : List SObj) (t : Nat) (len : Nat) (parts : List (Nat × SV)) : Res :=
  match tab.lookup t with
  | some { desc := .slice e, .. } => match tab.lookup e with
    | none => .fail
    | some i => if len * i.size > 2 ^ 24 then .fail else
      match sfill (fun k => some (k * i.size, i.size)) ((List.replicate len (i.zero.cells.toList.map SV.lit)).flatten) parts with
      | none => .fail
      | some l => .eff (.sl H.length i.size 0 len) (H ++ [mkObj e i.size (chunks i.size len l)]) [] []
  | _ => .fail
theorem get_replicate {α : Type} {z : List α} {n k : Nat} (hk : k < n * z.length) : ((List.replicate n z).flatten)[k]? = z[k % z.length]? := by
  induction n generalizing k with
  | zero => simp at hk
  | succ n ih =>
    rw [List.replicate_succ, List.flatten_cons, List.getElem?_append]
    split
    · rename_i h; rw [Nat.mod_eq_of_lt h]
    · rename_i h
      rw [ih (by rw [Nat.succ_mul] at hk; omega)]
      rw [← Nat.mod_eq_sub_mod (by omega)]
theorem zero_cells {z : Array Value} {n m : Nat} (hz : z.size = m) (hone : z.all (·.oneCell') = true) {M : Imm} {ρ : Env} :
    RowRep M ρ (madeCells z (n * m)) ((List.replicate n (z.toList.map SV.lit)).flatten) := by
  have hlen : ((List.replicate n (z.toList.map SV.lit)).flatten).length = n * m := by simp [hz]
  have hget : ∀ k u, (madeCells z (n * m))[k]? = some u → k < n * m ∧ 0 < m ∧ z[k % m]? = some u := fun k u hu => by
    have hk : k < n * m := by have := (Array.getElem?_eq_some_iff.1 hu).1; rw [size_madeCells] at this; exact this
    have hm : 0 < m := by rcases Nat.eq_zero_or_pos m with e | e; subst e; simp at hk; exact e
    have hlt : k % m < z.size := by rw [hz]; exact Nat.mod_lt _ hm
    refine ⟨hk, hm, ?_⟩
    simp [madeCells, hk] at hu
    rw [hz] at hu
    simp [hlt] at hu ⊢
    exact hu
  refine ⟨by rw [size_madeCells, hlen], fun k u y hu hy => ?_, fun k u hu => ?_⟩
  · obtain ⟨h1, h2, h3⟩ := hget k u hu
    have hl2 : (z.toList.map SV.lit).length = m := by simp [hz]
    rw [get_replicate (by rw [hl2]; exact h1), hl2, List.getElem?_map, Array.getElem?_toList, h3] at hy
    cases hy; exact .pv (.lit _)
  · obtain ⟨h1, h2, h3⟩ := hget k u hu
    exact (Array.all_eq_true_iff_forall_mem.1 hone) u (Array.mem_of_getElem? h3)
theorem chunks_row {l : List SV} {sz n i : Nat} (hi : i < n) : (chunks sz n l).getD i [] = (l.drop (i * sz)).take sz := by
  simp [chunks, List.getD, hi]
theorem chunk_reads {M : Imm} {ρ : Env} {cs : Array Value} {l : List SV} {sz n : Nat} (hr : RowRep M ρ cs l) (i j : Nat) (x : SV) (hi : i < n) (hx : ((chunks sz n l).getD i [])[j]? = some x) :
    j < sz ∧ ∀ v, cs[i * sz + j]? = some v → SRep M ρ v x := by
  rw [chunks_row hi, List.getElem?_take] at hx
  split at hx
  · rename_i hj
    rw [List.getElem?_drop] at hx
    exact ⟨hj, fun v hv => hr.rep _ v x hv hx⟩
  · cases hx
theorem buildSlice_run {P : Program} {w : World} {t e len : Nat} {i : TI} {parts : Array (Nat × Value)} {cells : Array Value} (hu : P.underlying t = some (.slice e)) (he : TyOk P e i) (hs : ¬ len * i.size > 2 ^ 24)
    (h : Instr.fill (fun k => some (k * i.size, i.size)) (madeCells i.zero.cells (len * i.size)) parts.toList = some cells) :
    (Instr.buildSlice t len parts).run P w = .ok (.slice (some ⟨w.heap.size, 0, none⟩) len len) (w.alloc (.cells cells e)) := by
  obtain ⟨n, hn, h1, h2, h3⟩ := he.inf
  have hs' : ¬ len * n.size > 2 ^ 24 := by rw [h1]; exact hs
  by_cases h0 : len * n.size = 0
  · have h' : Instr.fill (fun k => some (k * n.size, n.size)) #[] parts.toList = some cells := by
      rw [← h1, h0] at h; simpa [madeCells, Array.range_zero'] using h
    simp [Instr.buildSlice, run_underlying hu, sizeOf, typeInfo, hn, hs', h0, newRow, Array.range_zero', h']
  · have h' : Instr.fill (fun k => some (k * n.size, n.size)) ((Array.range (len * n.size)).map (i.zero.cells[· % i.zero.cells.size]!)) parts.toList = some cells := by
      rw [h1]; exact h
    simp [Instr.buildSlice, run_underlying hu, sizeOf, typeInfo, zeroValue, hn, h3, hs', h0, newRow, h']
theorem sBuildSlice_sound {P : Program} {tab : Tab} (htab : TabOk P tab) {M : Imm} {ρ : Env} {H : List SObj} {w : World} {K : Post} (hm : Mem M ρ H w) {t len : Nat} {vp : Array (Nat × Value)} {sp : List (Nat × SV)}
    (hl : vp.size = sp.length) (hp : ∀ (k : Nat) (a : Nat × Value) (b : Nat × SV), vp.toList[k]? = some a → sp[k]? = some b → a.1 = b.1 ∧ SRep M ρ a.2 b.2)
    (h : (sBuildSlice tab H t len sp).holds H K) : DoesV P (Instr.buildSlice t len vp) M ρ H w K := by
  unfold sBuildSlice at h
  split at h
  · rename_i e sz by' zr rw' hte
    have htt := htab.get hte
    split at h
    · exact h.elim
    · rename_i i hi
      have ht := htab.get hi
      split at h
      · exact h.elim
      · rename_i hsm
        split at h
        · exact h.elim
        · rename_i l hfill
          have hz := zero_cells (n := len) (M := M) (ρ := ρ) ht.zsz ht.zon
          obtain ⟨cs', g1, g2⟩ := sfill_sound hz (by simpa using hl) hp hfill
          have hrun := buildSlice_run (w := w) (t := t) (parts := vp) htt.und ht hsm g1
          obtain ⟨m1, m2, m3, m4⟩ := mkObj_facts e i.size (chunks i.size len l)
          have hcl : (chunks i.size len l).length = len := by simp [chunks]
          have hsz : cs'.size = len * i.size := by
            have : ∀ {sp : List (Nat × SV)} {sc sc' : List SV}, sfill (fun k => some (k * i.size, i.size)) sc sp = some sc' → sc'.length = sc.length := by
              intro sp
              induction sp with
              | nil => intro sc sc' h; simp [sfill] at h; subst h; rfl
              | cons a sp ih =>
                intro sc sc' h
                obtain ⟨k, x⟩ := a
                simp only [sfill] at h
                split at h
                · cases h
                · rename_i l' hl'
                  split at h
                  · rename_i hc
                    rw [ih h]
                    have hlen : l'.length = i.size := by
                      revert hl'
                      match x with
                      | .agg q => intro h; simp only [SV.parts] at h; split at h; cases h; assumption; cases h
                      | .pv (.lit (.agg q)) => intro h; simp only [SV.parts] at h; split at h; cases h; simpa; cases h
                      | .pv (.lit (.tuple q)) => intro h; simp [SV.parts] at h
                      | .any => intro h; simp [SV.parts] at h
                      | .tup q => intro h; simp [SV.parts] at h
                      | .pv (.lit (.bool _)) | .pv (.lit (.int _ _)) | .pv (.lit (.float _ _)) | .pv (.lit (.complex _ _ _)) | .pv (.lit (.string _)) | .pv (.lit (.pointer _)) | .pv (.lit (.slice _ _ _))
                      | .pv (.lit (.map _)) | .pv (.lit (.chan _)) | .pv (.lit (.func _ _ _)) | .pv (.lit .nilFunc) | .pv (.lit (.iface _ _)) | .pv (.lit .nilIface)
                      | .pv (.rsl _ _) | .pv (.rptr _ _ _ _) | .pv (.tsl _ _) | .pv (.tptr _ _ _ _) | .ptr _ _ _ _ | .sl _ _ _ _ | .mp _ | .yld _ | .fn _ _ _ => intro h; simp only [SV.parts] at h; split at h; cases h; simp; omega; cases h
                    simp only [splice, List.length_append, List.length_take, List.length_drop]; omega
                  · cases h
            rw [g2.sz, this hfill]; simp [ht.zsz]
          refine does_new hm hrun rfl m1 m3 (by rw [m2, hcl, hsz]; exact Nat.le_refl _) (fun r c hr hc => ?_) (fun r c y hr hy => ?_) (fun ρ' hρ => ?_) h
          · rw [m2, hcl] at hr
            have hlt : r * i.size + c < cs'.size := by
              have := Nat.mul_le_mul_right i.size (show r + 1 ≤ len from hr)
              rw [Nat.succ_mul] at this; omega
            exact ⟨_, Array.getElem?_eq_getElem hlt, g2.one _ _ (Array.getElem?_eq_getElem hlt)⟩
          · rw [m2, hcl] at hr; rw [m4] at hy
            exact chunk_reads g2 r c y hr hy
          · exact .sl _ _ 0 len len 0 _ hρ (by simp) (by simp [hsz]) (Nat.le_refl _)
  · exact h.elim
def sMakeSlice0 (tab : Tab) (H : List SObj) (t : Nat) (l c : SV) : Res :=
  match tab.lookup t with
  | some { desc := .slice e, .. } => match tab.lookup e with
    | none => .fail
    | some i => match l, c with
      | .pv (.lit (.int .i64 n)), .pv (.lit (.int .i64 m)) => .need (decide (0 ≤ n)) <| .need (decide (n ≤ m)) <| .need (decide ((i.bytes : Int) * m ≤ 281474976710656)) <| .need (decide (m ≤ 9223372036854775807)) <|
          match pures (i.zero.cells.toList.map SV.lit) with
          | none => .fail
          | some z => .eff (.sl H.length i.size 0 n.toNat) (H ++ [.vec e i.size (List.replicate n.toNat z)]) [] []
      | _, _ => .fail
  | _ => .fail
theorem sMakeSlice0_sound {P : Program} {tab : Tab} (htab : TabOk P tab) {M : Imm} {ρ : Env} {H : List SObj} {w : World} {K : Post} (hm : Mem M ρ H w) {t : Nat} {l c : SV} {v u : Value} (hl : SRep M ρ v l) (hc : SRep M ρ u c)
    (h : (sMakeSlice0 tab H t l c).holds H K) : DoesV P (Instr.makeSlice t v u) M ρ H w K := by
  unfold sMakeSlice0 at h
  split at h
  · rename_i e sz by' zr rw' hte
    have htt := htab.get hte
    split at h
    · exact h.elim
    · rename_i i hi
      have ht := htab.get hi
      split at h
      · rename_i n m
        have := hl.lit_eq; subst this
        have := hc.lit_eq; subst this
        simp only [Res.holds, decide_eq_true_eq] at h
        obtain ⟨h0, h1, h2, h3, h⟩ := h
        split at h
        · exact h.elim
        · rename_i z hz
          have ez := pures_eq hz
          obtain ⟨inf, hn, i1, i2, i3⟩ := ht.inf
          have hrun := run_make (P := P) w t e inf i.zero htt.und hn i3 .i64 .i64 n m h0 h1 (by rw [i2]; exact h2) h3
          rw [i1] at hrun
          have hzz := zero_cells (n := m.toNat) (M := M) (ρ := ρ) ht.zsz ht.zon
          have hzl : z.length = i.size := by have := congrArg List.length ez; simpa [ht.zsz] using this.symm
          have hnm : n.toNat ≤ m.toNat := by omega
          refine does_new (o := .vec e i.size (List.replicate n.toNat z)) hm hrun rfl rfl rfl ?_ (fun r c hr hc => ?_) (fun r c y hr hy => ?_) (fun ρ' hρ => ?_) h
          · simp only [SObj.len, List.length_replicate, size_madeCells]; exact Nat.mul_le_mul_right _ hnm
          · simp only [SObj.len, List.length_replicate] at hr
            have hlt : r * i.size + c < (madeCells i.zero.cells (m.toNat * i.size)).size := by
              rw [size_madeCells]
              have := Nat.mul_le_mul_right i.size (show r + 1 ≤ m.toNat by omega)
              rw [Nat.succ_mul] at this; omega
            exact ⟨_, Array.getElem?_eq_getElem hlt, hzz.one _ _ (Array.getElem?_eq_getElem hlt)⟩
          · simp only [SObj.len, List.length_replicate] at hr
            simp only [SObj.row, List.getD, List.getElem?_replicate, hr, if_true, Option.getD_some] at hy
            have hc : c < i.size := by have := (List.getElem?_eq_some_iff.1 hy).1; simp [hzl] at this; exact this
            refine ⟨hc, fun v hv => hzz.rep _ v y hv ?_⟩
            have hl2 : (i.zero.cells.toList.map SV.lit).length = i.size := by simp [ht.zsz]
            rw [get_replicate (by rw [hl2]; have := Nat.mul_le_mul_right i.size (show r + 1 ≤ m.toNat by omega); rw [Nat.succ_mul] at this; omega), hl2]
            rw [Nat.mul_comm, Nat.mul_add_mod, Nat.mod_eq_of_lt hc, ez]; exact hy
          · exact .sl _ _ 0 n.toNat m.toNat 0 _ hρ (by simp) (by show (0 + m.toNat) * i.size ≤ (madeCells i.zero.cells (m.toNat * i.size)).size; rw [size_madeCells, Nat.zero_add]; exact Nat.le_refl _) hnm
      · exact h.elim
  · exact h.elim
def zeroRow (i : TI) : Option ((row : List Ty) × Els row) := match i.row with
  | none => none
  | some row => match pures (i.zero.cells.toList.map SV.lit) with
    | none => none
    | some z => match ofRow row z with
      | some x => if row.length = i.size then some ⟨row, x⟩ else none
      | none => none
def sMakeSlice (tab : Tab) (H : List SObj) (t : Nat) (l c : SV) : Res :=
  match tab.lookup t with
  | some { desc := .slice e, .. } => match tab.lookup e with
    | none => .fail
    | some i => match zeroRow i with
      | none => sMakeSlice0 tab H t l c
      | some ⟨row, x⟩ => match l, c with
        | .pv (.lit (.int .i64 n)), .pv (.lit (.int .i64 m)) => .need (decide (0 ≤ n)) <| .need (decide (n ≤ m)) <| .need (decide ((i.bytes : Int) * m ≤ 281474976710656)) <| .need (decide (m ≤ 9223372036854775807)) <|
            .eff (.sl H.length i.size 0 n.toNat) (H ++ [.tvec e row (List.replicate n.toNat x)]) [] []
        | _, _ => .fail
  | _ => .fail
theorem sMakeSlice_sound {P : Program} {tab : Tab} (htab : TabOk P tab) {M : Imm} {ρ : Env} {H : List SObj} {w : World} {K : Post} (hm : Mem M ρ H w) {t : Nat} {l c : SV} {v u : Value} (hl : SRep M ρ v l) (hc : SRep M ρ u c)
    (h : (sMakeSlice tab H t l c).holds H K) : DoesV P (Instr.makeSlice t v u) M ρ H w K := by
  unfold sMakeSlice at h
  split at h
  · rename_i e sz' by' zr rw' hte
    split at h
    · exact h.elim
    · rename_i i hi
      split at h
      · exact sMakeSlice0_sound htab hm hl hc h
      · rename_i row x hz
        split at h
        · rename_i n m
          refine DoesV.described (sMakeSlice0_sound htab hm hl hc ?_)
          unfold zeroRow at hz
          split at hz
          · cases hz
          · rename_i row0 hrow
            split at hz
            · cases hz
            · rename_i z hzz
              split at hz
              · rename_i x0 hx0
                split at hz
                · rename_i hlen
                  cases hz
                  unfold sMakeSlice0
                  simp only [hte, hi, hzz]
                  obtain ⟨h1, h2, h3, h4, h⟩ := h
                  refine ⟨h1, h2, h3, h4, ?_⟩
                  obtain ⟨g1, g2⟩ := ofRow_sound hx0
                  rw [← hlen]
                  rw [← hlen] at h
                  show Described _ _ (fun y H' => K y H' [] [])
                  refine described_last (by simp) (fun k r' hr => ?_) h
                  simp only [rowsPV, List.getElem?_map, Option.map_eq_some_iff] at hr
                  obtain ⟨y, hy, rfl⟩ := hr
                  rw [List.getElem?_replicate] at hy
                  split at hy
                  · rename_i hk
                    cases hy
                    exact ⟨z, by rw [List.getElem?_replicate, if_pos hk], g2⟩
                  · cases hy
                · cases hz
              · cases hz
        · exact h.elim
  · exact h.elim
def sZeros0 (tab : Tab) (H : List SObj) (t t' : Nat) (n : Int) : Res :=
  match tab.lookup t with
  | some { desc := .slice e, .. } => match tab.lookup e with
    | none => .fail
    | some i => match tab.lookup t' with
      | some { desc := .int _, .. } => .need (decide (0 < n)) <| .need (decide (0 < i.size)) <| .need (decide (n ≤ 9223372036854775807)) <| .need (decide (n.toNat * i.bytes ≤ 281474976710656)) <|
          match pures (i.zero.cells.toList.map SV.lit) with
          | none => .fail
          | some z => .eff (.sl H.length i.size 0 n.toNat) (H ++ [.vec e i.size (List.replicate n.toNat z)]) [] []
      | _ => .fail
  | _ => .fail
theorem sZeros0_sound {P : Program} {tab : Tab} (htab : TabOk P tab) {M : Imm} {ρ : Env} {H : List SObj} {w : World} {K : Post} (hm : Mem M ρ H w) {t t' ty : Nat} {k : IntKind} {n : Int}
    (h : (sZeros0 tab H t t' n).holds H K) : DoesV P (Builtin.append_ #[t, t'] ty #[.slice none 0 0, .int k n]) M ρ H w K := by
  unfold sZeros0 at h
  split at h
  · rename_i e sz by' zr rw' hte
    have htt := htab.get hte
    split at h
    · exact h.elim
    · rename_i i hi
      have ht := htab.get hi
      split at h
      · rename_i kn sz2 by2 zr2 rw2 hte2
        simp only [Res.holds, decide_eq_true_eq] at h
        obtain ⟨h0, h1, h2, h3, h⟩ := h
        split at h
        · exact h.elim
        · rename_i z hz
          have ez := pures_eq hz
          obtain ⟨inf, hn, i1, i2, i3⟩ := ht.inf
          obtain ⟨m, rfl⟩ : ∃ m : Nat, n = m := ⟨n.toNat, by omega⟩
          simp only [Int.toNat_natCast] at h h3
          have hrun := Lib.run_append_nil_zeros (P := P) w t t' ty e inf i.zero k kn htt.und (htab.get hte2).und hn i3 m (by omega) (by rw [i1]; exact h1) h2 (by rw [i2]; exact h3)
          have hge := grownCap_ge w m 0 e
          generalize hgc : grownCap w m 0 e = gc at hrun hge
          have hcells : Builtin.zeroCells i.zero.cells m ++ Builtin.zeroCells i.zero.cells (gc - m) = Builtin.zeroCells i.zero.cells m ++ Builtin.zeroCells i.zero.cells (gc - m) := rfl
          have hzc : Builtin.zeroCells i.zero.cells m = madeCells i.zero.cells (m * i.size) := by rw [← ht.zsz]; rfl
          have hzz := zero_cells (n := m) (M := M) (ρ := ρ) ht.zsz ht.zon
          have hzl : z.length = i.size := by have := congrArg List.length ez; simpa [ht.zsz] using this.symm
          rw [hzc] at hrun
          have hsz1 : (madeCells i.zero.cells (m * i.size)).size = m * i.size := size_madeCells ..
          have hleft : ∀ k, k < m * i.size → (madeCells i.zero.cells (m * i.size) ++ Builtin.zeroCells i.zero.cells (gc - m))[k]? = (madeCells i.zero.cells (m * i.size))[k]? := fun k hk => Array.getElem?_append_left (by rw [hsz1]; exact hk)
          have hsz2 : (madeCells i.zero.cells (m * i.size) ++ Builtin.zeroCells i.zero.cells (gc - m)).size = gc * i.size := by
            rw [Array.size_append, hsz1]; simp only [Builtin.zeroCells, Array.size_map, Array.size_range, ht.zsz]
            rw [← Nat.add_mul]; congr 1; omega
          have fl : ∀ r c, r < m → c < i.size → r * i.size + c < m * i.size := fun r c hr hc => by
            have := Nat.mul_le_mul_right i.size (show r + 1 ≤ m from hr)
            rw [Nat.succ_mul] at this; omega
          refine does_new (o := .vec e i.size (List.replicate m z)) hm hrun rfl rfl rfl ?_ (fun r c hr hc => ?_) (fun r c y hr hy => ?_) (fun ρ' hρ => ?_) h
          · simp only [SObj.len, List.length_replicate]; rw [hsz2]; exact Nat.mul_le_mul_right _ hge
          · simp only [SObj.len, List.length_replicate] at hr
            have hlt := fl r c hr hc
            rw [hleft _ hlt]
            exact ⟨_, Array.getElem?_eq_getElem (by rw [hsz1]; exact hlt), hzz.one _ _ (Array.getElem?_eq_getElem (by rw [hsz1]; exact hlt))⟩
          · simp only [SObj.len, List.length_replicate] at hr
            simp only [SObj.row, List.getD, List.getElem?_replicate, hr, if_true, Option.getD_some] at hy
            have hc : c < i.size := by have := (List.getElem?_eq_some_iff.1 hy).1; simp [hzl] at this; exact this
            refine ⟨hc, fun v hv => hzz.rep (r * i.size + c) v y (by rw [hleft _ (fl r c hr hc)] at hv; exact hv) ?_⟩
            have hl2 : (i.zero.cells.toList.map SV.lit).length = i.size := by simp [ht.zsz]
            rw [get_replicate (by rw [hl2]; exact fl r c hr hc), hl2]
            rw [Nat.mul_comm, Nat.mul_add_mod, Nat.mod_eq_of_lt hc, ez]; exact hy
          · exact .sl _ _ 0 m gc 0 _ hρ (by simp) (by show (0 + gc) * i.size ≤ _; rw [hsz2, Nat.zero_add]; exact Nat.le_refl _) hge
      · exact h.elim
  · exact h.elim
def sZeros (tab : Tab) (H : List SObj) (t t' : Nat) (n : Int) : Res :=
  match tab.lookup t with
  | some { desc := .slice e, .. } => match tab.lookup e with
    | none => .fail
    | some i => match zeroRow i with
      | none => sZeros0 tab H t t' n
      | some ⟨row, x⟩ => match tab.lookup t' with
        | some { desc := .int _, .. } => .need (decide (0 < n)) <| .need (decide (0 < i.size)) <| .need (decide (n ≤ 9223372036854775807)) <| .need (decide (n.toNat * i.bytes ≤ 281474976710656)) <|
          .eff (.sl H.length i.size 0 n.toNat) (H ++ [.tvec e row (List.replicate n.toNat x)]) [] []
        | _ => .fail
  | _ => .fail
theorem sZeros_sound {P : Program} {tab : Tab} (htab : TabOk P tab) {M : Imm} {ρ : Env} {H : List SObj} {w : World} {K : Post} (hm : Mem M ρ H w) {t t' ty : Nat} {k : IntKind} {n : Int}
    (h : (sZeros tab H t t' n).holds H K) : DoesV P (Builtin.append_ #[t, t'] ty #[.slice none 0 0, .int k n]) M ρ H w K := by
  unfold sZeros at h
  split at h
  · rename_i e sz' by' zr rw' hte
    split at h
    · exact h.elim
    · rename_i i hi
      split at h
      · exact sZeros0_sound htab hm h
      · rename_i row x hz
        split at h
        · rename_i kn sz2 by2 zr2 rw2 hte2
          refine DoesV.described (sZeros0_sound htab hm ?_)
          unfold zeroRow at hz
          split at hz
          · cases hz
          · rename_i row0 hrow
            split at hz
            · cases hz
            · rename_i z hzz
              split at hz
              · rename_i x0 hx0
                split at hz
                · rename_i hlen
                  cases hz
                  unfold sZeros0
                  simp only [hte, hi, hte2, hzz]
                  obtain ⟨h1, h2, h3, h4, h⟩ := h
                  refine ⟨h1, h2, h3, h4, ?_⟩
                  obtain ⟨g1, g2⟩ := ofRow_sound hx0
                  rw [← hlen]
                  rw [← hlen] at h
                  show Described _ _ (fun y H' => K y H' [] [])
                  refine described_last (by simp) (fun k r' hr => ?_) h
                  simp only [rowsPV, List.getElem?_map, Option.map_eq_some_iff] at hr
                  obtain ⟨y, hy, rfl⟩ := hr
                  rw [List.getElem?_replicate] at hy
                  split at hy
                  · rename_i hk
                    cases hy
                    exact ⟨z, by rw [List.getElem?_replicate, if_pos hk], g2⟩
                  · cases hy
                · cases hz
              · cases hz
        · exact h.elim
  · exact h.elim
end Go.Sx
end
section
set_option linter.unusedVariables false
set_option linter.unusedSimpArgs false
namespace Go.Sx
open Go
def pureRun {α : Type} (P : Program) : Sem α → Option α
  | .pure a => some a
  | .program k => pureRun P (k P)
  | .mark _ k => pureRun P k
  | _ => none
theorem pureRun_run {α : Type} {P : Program} {S : Sem α} {a : α} (h : pureRun P S = some a) (w : World) : S.run P w = .ok a w := by
  induction S with
  | pure b => simp [pureRun] at h; subst h; rfl
  | program k ih => simp only [pureRun] at h; simp only [Sem.run]; exact ih P h
  | mark m k ih => simp only [pureRun] at h; simp only [Sem.run]; exact ih h
  | _ => simp [pureRun] at h
def sFieldAddr0 (tab : Tab) (t : Nat) (x : SV) (f : Nat) : Res :=
  match tab.lookup t with
  | some { desc := .struct fields, .. } => match fields[f]? with
    | none => .fail
    | some fd => match tab.lookup fd.type with
      | none => .fail
      | some i => if i.size = 0 then .fail else match x with
        | .ptr s sz r j => .ok (.ptr s sz r (j + fd.offset))
        | .pv (.rptr sz rows r j) => .ok (.pv (.rptr sz rows r (j + fd.offset)))
        | _ => .fail
  | _ => .fail
theorem sFieldAddr0_sound {P : Program} {tab : Tab} (htab : TabOk P tab) {M : Imm} {ρ : Env} {H : List SObj} {w : World} {K : Post} (hm : Mem M ρ H w) {t f : Nat} {x : SV} {v : Value} (hx : SRep M ρ v x)
    (h : (sFieldAddr0 tab t x f).holds H K) : DoesV P (Instr.fieldAt t v f) M ρ H w K := by
  unfold sFieldAddr0 at h
  split at h
  · rename_i fields sz' by' zr rw' hte
    have htt := htab.get hte
    split at h
    · exact h.elim
    · rename_i fd hfd
      split at h
      · exact h.elim
      · rename_i i hi
        obtain ⟨n, hn, i1, _⟩ := (htab.get hi).inf
        split at h
        · exact h.elim
        · rename_i hz
          have key : ∀ b k, (Instr.fieldAt t (.pointer (some ⟨b, k, none⟩)) f).run P w = .ok (.pointer (some ⟨b, k + fd.offset, none⟩)) w := fun b k => by
            simp [Instr.fieldAt, run_underlying htt.und, hfd, Instr.sureAddr, fieldPlace, sizeOf, typeInfo, hn, i1, hz, Addr.add_mid]
          split at h
          · rename_i s sz r j
            cases hx with
            | ptr _ _ _ _ k p hp hk => exact DoesV.same hm (key _ _) (.ptr _ _ _ _ _ p hp (by omega)) h
          · rename_i sz rows r j
            cases hx with
            | pv hp => cases hp with
              | rptr b off _ _ _ k _ hk h0 h1 h2 => exact DoesV.same hm (key _ _) (.pv (.rptr b off sz r (j + fd.offset) _ rows (by omega) h0 h1 h2)) h
          · exact h.elim
  · exact h.elim
def sIndexAddr0 (tab : Tab) (t : Nat) (x ix : SV) : Res :=
  match ix with
  | .pv (.lit (.int k n)) => match tab.lookup t with
    | some { desc := .slice e, .. } => match tab.lookup e with
      | none => .fail
      | some i => match x with
        | .sl s sz st len => if sz = i.size then .need (decide (0 ≤ n)) (.need (decide (n < len)) (.ok (.ptr s sz (st + n.toNat) 0))) else .fail
        | .pv (.rsl sz rows) => if sz = i.size then .need (decide (0 ≤ n)) (.need (decide (n < rows.length)) (.ok (.pv (.rptr sz rows n.toNat 0)))) else .fail
        | _ => .fail
    | some { desc := .array m e, .. } => match tab.lookup e with
      | none => .fail
      | some i => match x with
        | .ptr s sz r j => .need (decide (0 ≤ n)) (.need (decide (n < m)) (.ok (.ptr s sz r (j + n.toNat * i.size))))
        | .pv (.rptr sz rows r j) => .need (decide (0 ≤ n)) (.need (decide (n < m)) (.ok (.pv (.rptr sz rows r (j + n.toNat * i.size)))))
        | _ => .fail
    | _ => .fail
  | _ => .fail
theorem indexAt_slice {P : Program} {w : World} {t e : Nat} {i : TI} (hu : P.underlying t = some (.slice e)) (he : TyOk P e i) {k : IntKind} {n : Int} {b o len c : Nat} (h0 : 0 ≤ n) (h1 : n < len) :
    (Instr.indexAt t (.slice (some ⟨b, o, none⟩) len c) (.int k n)).run P w = .ok (.pointer (some ⟨b, o + n.toNat * i.size, none⟩)) w := by
  obtain ⟨inf, hn, i1, _⟩ := he.inf
  simp [Instr.indexAt, asIntOf, run_underlying hu, h0, h1, sizeOf, typeInfo, hn, i1, Addr.add_mid]
theorem indexAt_array {P : Program} {w : World} {t e m : Nat} {i : TI} (hu : P.underlying t = some (.array m e)) (he : TyOk P e i) {k : IntKind} {n : Int} {b o : Nat} (h0 : 0 ≤ n) (h1 : n < m) :
    (Instr.indexAt t (.pointer (some ⟨b, o, none⟩)) (.int k n)).run P w = .ok (.pointer (some ⟨b, o + n.toNat * i.size, none⟩)) w := by
  obtain ⟨inf, hn, i1, _⟩ := he.inf
  simp [Instr.indexAt, asIntOf, run_underlying hu, h0, h1, Instr.sureAddr, sizeOf, typeInfo, hn, i1, Addr.add_mid]
theorem sIndexAddr0_sound {P : Program} {tab : Tab} (htab : TabOk P tab) {M : Imm} {ρ : Env} {H : List SObj} {w : World} {K : Post} (hm : Mem M ρ H w) {t : Nat} {x ix : SV} {v u : Value} (hx : SRep M ρ v x) (hix : SRep M ρ u ix)
    (h : (sIndexAddr0 tab t x ix).holds H K) : DoesV P (Instr.indexAt t v u) M ρ H w K := by
  unfold sIndexAddr0 at h
  split at h
  · rename_i k n
    have := hix.lit_eq; subst this
    split at h
    · rename_i e sz' by' zr rw' hte
      have htt := htab.get hte
      split at h
      · exact h.elim
      · rename_i i hi
        have ht := htab.get hi
        split at h
        · rename_i s sz st len
          split at h
          · rename_i hsz; subst hsz
            simp only [Res.holds, decide_eq_true_eq] at h
            obtain ⟨h0, h1, h⟩ := h
            cases hx with
            | sl _ _ _ _ c k' p hp hk hc hn =>
              refine DoesV.same hm (indexAt_slice htt.und ht h0 h1) (.ptr _ _ _ _ _ p hp ?_) h
              rw [hk, Nat.add_mul]; omega
            | slz => simp at h1; omega
          · exact h.elim
        · rename_i sz rows
          split at h
          · rename_i hsz; subst hsz
            simp only [Res.holds, decide_eq_true_eq] at h
            obtain ⟨h0, h1, h⟩ := h
            cases hx with
            | pv hp => cases hp with
              | rnil => simp at h1; omega
              | remp => simp at h1; omega
              | rsl b off c _ n' _ hn hc g0 g1 g2 =>
                refine DoesV.same hm (indexAt_slice htt.und ht h0 (by omega)) (.pv (.rptr b off i.size n.toNat 0 _ rows (by omega) g0 g1 g2)) h
          · exact h.elim
        · exact h.elim
    · rename_i m e sz' by' zr rw' hte
      have htt := htab.get hte
      split at h
      · exact h.elim
      · rename_i i hi
        have ht := htab.get hi
        split at h
        · rename_i s sz r j
          simp only [Res.holds, decide_eq_true_eq] at h
          obtain ⟨h0, h1, h⟩ := h
          cases hx with
          | ptr _ _ _ _ k' p hp hk => exact DoesV.same hm (indexAt_array htt.und ht h0 h1) (.ptr _ _ _ _ _ p hp (by omega)) h
        · rename_i sz rows r j
          simp only [Res.holds, decide_eq_true_eq] at h
          obtain ⟨h0, h1, h⟩ := h
          cases hx with
          | pv hp => cases hp with
            | rptr b off _ _ _ k' _ hk g0 g1 g2 => exact DoesV.same hm (indexAt_array htt.und ht h0 h1) (.pv (.rptr b off sz r _ _ rows (by omega) g0 g1 g2)) h
        · exact h.elim
    · exact h.elim
  · exact h.elim
def bound : Option SV → Int → Option Int
  | none, d => some d
  | some (.pv (.lit (.int _ n))), _ => some n
  | _, _ => none
def sSlice0 (tab : Tab) (H : List SObj) (t : Nat) (x : SV) (lo hi : Option SV) : Res :=
  match tab.lookup t with
  | some { desc := .slice e, .. } => match tab.lookup e with
    | none => .fail
    | some i => match x with
      | .sl s sz st len => if sz = i.size then match bound lo 0, bound hi len with
        | some l, some h => .need (decide (0 ≤ l)) <| .need (decide (l ≤ h)) <| .need (decide (h ≤ len)) (.ok (.sl s sz (st + l.toNat) (h.toNat - l.toNat)))
        | _, _ => .fail
        else .fail
      | .pv (.rsl sz rows) => if sz = i.size then match bound lo 0, bound hi rows.length with
        | some l, some h => .need (decide (0 ≤ l)) <| .need (decide (l ≤ h)) <| .need (decide (h ≤ rows.length)) (.ok (.pv (.rsl sz ((rows.take h.toNat).drop l.toNat))))
        | _, _ => .fail
        else .fail
      | .pv (.lit (.slice none 0 0)) => match bound lo 0, bound hi 0 with
        | some l, some h => .need (decide (l = 0)) <| .need (decide (h = 0)) (.ok (.lit (.slice none 0 0)))
        | _, _ => .fail
      | _ => .fail
  | some { desc := .string, .. } => match x with
    | .pv (.lit (.string b)) => match bound lo 0, bound hi b.size with
      | some l, some h => .need (decide (0 ≤ l)) <| .need (decide (l ≤ h)) <| .need (decide (h ≤ b.size)) (.ok (.lit (.string (b.extract l.toNat h.toNat))))
      | _, _ => .fail
    | _ => .fail
  | some { desc := .pointer arr, .. } => .fail
  | some { desc := .array n e, .. } => match tab.lookup e with
    | none => .fail
    | some i => match x with
      | .ptr s sz r j => match H[s]? with
        | none => .fail
        | some o => match o.sz?, bound lo 0, bound hi n with
          | some szo, some l, some h => if i.size = 0 then .fail else .need (decide ((r * sz + j) % i.size = 0)) <| .need (decide (r * sz + j + n * i.size ≤ o.len * szo)) <|
              .need (decide (0 ≤ l)) <| .need (decide (l ≤ h)) <| .need (decide (h ≤ n)) (.ok (.sl s i.size ((r * sz + j) / i.size + l.toNat) (h.toNat - l.toNat)))
          | _, _, _ => .fail
      | _ => .fail
  | _ => .fail
theorem bound_spec {M : Imm} {ρ : Env} {a : Option SV} {va : Option Value} {d n : Int} (hs : va.isSome = a.isSome) (hr : ∀ v x, va = some v → a = some x → SRep M ρ v x) (h : bound a d = some n) :
    (va = none ∧ n = d) ∨ ∃ k, va = some (.int k n) := by
  match a, va, hs with
  | none, none, _ => simp [bound] at h; exact .inl ⟨rfl, h.symm⟩
  | some x, some v, _ =>
    have := hr v x rfl rfl
    match x, h with
    | .pv (.lit (.int k m)), h => simp [bound] at h; subst h; exact .inr ⟨k, by rw [this.lit_eq]⟩
theorem bounds_run {P : Program} {w : World} {isSl : Bool} {len cap : Nat} {vl vh : Option Value} {l h : Int} (hl : (vl = none ∧ l = 0) ∨ ∃ k, vl = some (.int k l)) (hh : (vh = none ∧ h = len) ∨ ∃ k, vh = some (.int k h))
    (h0 : 0 ≤ l) (h1 : l ≤ h) (h2 : h ≤ cap) : (Instr.sliceBounds isSl len cap vl vh none).run P w = .ok (l.toNat, h.toNat, cap) w := by
  have h2' : h.toNat ≤ cap := by omega
  have hcast : (0 : Int) ≤ h := by omega
  have hlt : l ≤ (h.toNat : Int) := by omega
  rcases hl with ⟨rfl, rfl⟩ | ⟨k, rfl⟩ <;> rcases hh with ⟨rfl, rfl⟩ | ⟨k', rfl⟩ <;>
    (try simp only [Int.toNat_natCast] at hlt) <;> simp [Instr.sliceBounds, Instr.sliceBound, asIntOf, h0, h1, h2, hcast, hlt]
  intro hx
  omega
theorem sliceAt_slice {P : Program} {w : World} {t e : Nat} {i : TI} (hu : P.underlying t = some (.slice e)) (he : TyOk P e i) {a : Option Addr} {len cap : Nat} {vl vh : Option Value} {l h : Int}
    (hl : (vl = none ∧ l = 0) ∨ ∃ k, vl = some (.int k l)) (hh : (vh = none ∧ h = len) ∨ ∃ k, vh = some (.int k h)) (h0 : 0 ≤ l) (h1 : l ≤ h) (h2 : h ≤ cap) :
    (Instr.sliceAt t (.slice a len cap) vl vh none).run P w = .ok (.slice (if cap = l.toNat then a else a.map (·.add (l.toNat * i.size))) (h.toNat - l.toNat) (cap - l.toNat)) w := by
  obtain ⟨inf, hn, i1, _⟩ := he.inf
  simp [Instr.sliceAt, Instr.slice, run_underlying hu, bounds_run hl hh h0 h1 h2, sizeOf, typeInfo, hn, i1]
theorem sSlice0_sound {P : Program} {tab : Tab} (htab : TabOk P tab) {M : Imm} {ρ : Env} {H : List SObj} {w : World} {K : Post} (hm : Mem M ρ H w) {t : Nat} {x : SV} {lo hi : Option SV} {v : Value} {vl vh : Option Value}
    (hx : SRep M ρ v x) (hsl : vl.isSome = lo.isSome) (hrl : ∀ v x, vl = some v → lo = some x → SRep M ρ v x) (hsh : vh.isSome = hi.isSome) (hrh : ∀ v x, vh = some v → hi = some x → SRep M ρ v x)
    (h : (sSlice0 tab H t x lo hi).holds H K) : DoesV P (Instr.sliceAt t v vl vh none) M ρ H w K := by
  unfold sSlice0 at h
  split at h
  · rename_i e sz' by' zr rw' hte
    have htt := htab.get hte
    split at h
    · exact h.elim
    · rename_i i hi'
      have ht := htab.get hi'
      split at h
      · rename_i s sz st len
        split at h
        · rename_i hsz; subst hsz
          split at h
          · rename_i l hh e1 e2
            simp only [Res.holds, decide_eq_true_eq] at h
            obtain ⟨h0, h1, h2, h⟩ := h
            have bl := bound_spec hsl hrl e1
            have bh := bound_spec hsh hrh e2
            cases hx with
            | sl _ _ _ _ c k p hp hk hc hn =>
              refine DoesV.same hm (sliceAt_slice htt.und ht bl bh h0 h1 (by omega)) ?_ h
              by_cases hcl : c = l.toNat
              · have e0 : hh.toNat - l.toNat = 0 := by omega
                rw [if_pos hcl, e0, hcl, Nat.sub_self]; exact .slz _ _ _ _
              · rw [if_neg hcl]
                simp only [Option.map_some, Addr.add_mid]
                refine .sl _ _ _ _ _ _ p hp (by rw [hk, Nat.add_mul]) ?_ (by omega)
                rw [show st + l.toNat + (c - l.toNat) = st + c by omega]; exact hc
            | slz a b c' a' =>
              refine DoesV.same hm (sliceAt_slice htt.und ht bl bh h0 h1 (by omega)) ?_ h
              have hl0 : l.toNat = 0 := by omega
              have hh0 : hh.toNat = 0 := by omega
              rw [hl0, hh0]; simp only [Nat.sub_self, if_true]; exact .slz _ _ _ _
          · exact h.elim
        · exact h.elim
      · rename_i sz rows
        split at h
        · rename_i hsz; subst hsz
          split at h
          · rename_i l hh e1 e2
            simp only [Res.holds, decide_eq_true_eq] at h
            obtain ⟨h0, h1, h2, h⟩ := h
            have bl := bound_spec hsl hrl e1
            have bh := bound_spec hsh hrh e2
            cases hx with
            | pv hp =>
              have hlen : ((rows.take hh.toNat).drop l.toNat).length = hh.toNat - l.toNat := by simp; omega
              cases hp with
              | rnil =>
                refine DoesV.same hm (sliceAt_slice htt.und ht bl (by simpa using bh) h0 h1 (by simpa using h2)) ?_ h
                have hl0 : l.toNat = 0 := by simp at h2; omega
                have hh0 : hh.toNat = 0 := by simp at h2; omega
                rw [hl0, hh0]; simp; exact .pv (.rnil _)
              | remp a c =>
                refine DoesV.same hm (sliceAt_slice htt.und ht bl (by simpa using bh) h0 h1 (by simp at h2; omega)) ?_ h
                have hl0 : l.toNat = 0 := by simp at h2; omega
                have hh0 : hh.toNat = 0 := by simp at h2; omega
                rw [hl0, hh0]
                simp only [List.take_nil, List.drop_nil, Nat.sub_zero, Nat.zero_mul]
                split
                · exact .pv (.remp _ _ _)
                · exact .pv (.remp _ _ _)
              | rsl b off c _ n' _ hn hc g0 g1 g2 =>
                subst hn
                refine DoesV.same hm (sliceAt_slice htt.und ht bl bh h0 h1 (by omega)) ?_ h
                by_cases hcl : c = l.toNat
                · have e0 : hh.toNat - l.toNat = 0 := by omega
                  have : (rows.take hh.toNat).drop l.toNat = [] := List.eq_nil_of_length_eq_zero (by rw [hlen, e0])
                  rw [if_pos hcl, this, e0, hcl, Nat.sub_self]; exact .pv (.remp _ _ _)
                · rw [if_neg hcl]
                  simp only [Option.map_some, Addr.add_mid]
                  have at' : ∀ (m : Nat) (r : List PV), ((rows.take hh.toNat).drop l.toNat)[m]? = some r → rows[l.toNat + m]? = some r := fun m r hm' => by
                    rw [List.getElem?_drop, List.getElem?_take] at hm'
                    split at hm'
                    · exact hm'
                    · cases hm'
                  have mul : ∀ m j : Nat, off + l.toNat * i.size + m * i.size + j = off + (l.toNat + m) * i.size + j := fun m j => by rw [Nat.add_mul]; omega
                  refine .pv (.rsl b (off + l.toNat * i.size) (c - l.toNat) i.size _ _ hlen.symm (by omega) (fun m j hm' hj => ?_) (fun m r j p u hm' hj hu => ?_) (fun m r hm' => g2 _ r (at' m r hm')))
                  · rw [mul]; rw [hlen] at hm'; exact g0 _ j (by omega) hj
                  · rw [mul] at hu; exact g1 _ r j p u (at' m r hm') hj hu
          · exact h.elim
        · exact h.elim
      · split at h
        · rename_i l hh e1 e2
          simp only [Res.holds, decide_eq_true_eq] at h
          obtain ⟨h0, h1, h⟩ := h
          have := hx.lit_eq; subst this
          subst h0; subst h1
          have bl := bound_spec hsl hrl e1
          have bh := bound_spec hsh hrh e2
          have := sliceAt_slice (w := w) (a := none) (len := 0) (cap := 0) htt.und ht bl (by simpa using bh) (Int.le_refl _) (Int.le_refl _) (by simp)
          exact DoesV.same hm this (.pv (.lit _)) h
        · exact h.elim
      · exact h.elim
  · rename_i sz' by' zr rw' hte
    have htt := htab.get hte
    split at h
    · rename_i b
      split at h
      · rename_i l hh e1 e2
        simp only [Res.holds, decide_eq_true_eq] at h
        obtain ⟨h0, h1, h2, h⟩ := h
        have := hx.lit_eq; subst this
        have bl := bound_spec hsl hrl e1
        have bh := bound_spec hsh hrh e2
        refine DoesV.same hm ?_ (.pv (.lit _)) h
        have hu : P.underlying t = some .string := htt.und
        simp [Instr.sliceAt, Instr.slice, run_underlying hu, bounds_run bl bh h0 h1 h2]
      · exact h.elim
    · exact h.elim
  · exact h.elim
  · rename_i n e sz' by' zr rw' hte
    have htt := htab.get hte
    split at h
    · exact h.elim
    · rename_i i hi'
      have ht := htab.get hi'
      obtain ⟨inf, hinf, i1, _⟩ := ht.inf
      split at h
      · rename_i s sz r j
        split at h
        · exact h.elim
        · rename_i o ho
          split at h
          · rename_i szo l hh hz e1 e2
            split at h
            · exact h.elim
            · rename_i hi0
              simp only [Res.holds, decide_eq_true_eq] at h
              obtain ⟨hdiv, hfit, h0, h1, h2, h⟩ := h
              have bl := bound_spec hsl hrl e1
              have bh := bound_spec hsh hrh e2
              cases hx with
              | ptr _ _ _ _ k p hp hk =>
                obtain ⟨cs, ty, a1, a2, a3, a4, a5⟩ := ((hm.own s o ho).rowOf hz hp).ex
                have hrun : (Instr.sliceAt t (.pointer (some ⟨p.block, k, none⟩)) vl vh none).run P w = .ok (.slice (some (if n = l.toNat then ⟨p.block, k, none⟩ else ⟨p.block, k + l.toNat * i.size, none⟩)) (hh.toNat - l.toNat) (n - l.toNat)) w := by
                  have hu : P.underlying t = some (.array n e) := htt.und
                  simp [Instr.sliceAt, run_underlying hu, Instr.sureAddr, bounds_run bl bh h0 h1 h2, sizeOf, typeInfo, hinf, i1, Addr.add_mid]
                refine DoesV.same hm hrun ?_ h
                by_cases hcl : n = l.toNat
                · have e0 : hh.toNat - l.toNat = 0 := by omega
                  have e1' : n - l.toNat = 0 := by omega
                  rw [if_pos hcl, e0, e1']; exact .slz _ _ _ _
                · rw [if_neg hcl]
                  have hb : (r * sz + j) / i.size * i.size = r * sz + j := by have := Nat.div_add_mod' (r * sz + j) i.size; omega
                  refine .sl _ _ _ _ _ _ p hp (by rw [Nat.add_mul, hb, hk]) ?_ (by omega)
                  rw [show (r * sz + j) / i.size + l.toNat + (n - l.toNat) = (r * sz + j) / i.size + n by omega, Nat.add_mul, hb]
                  omega
          · exact h.elim
      · exact h.elim
  · exact h.elim
def sLen0 (tab : Tab) (H : List SObj) (t : Nat) (x : SV) : Res :=
  match tab.lookup t with
  | some { desc := .slice _, .. } => match x with
    | .sl _ _ _ len => .ok (.lit (.int .i64 len))
    | .pv (.rsl _ rows) => .ok (.lit (.int .i64 rows.length))
    | .pv (.lit (.slice _ n _)) => .ok (.lit (.int .i64 n))
    | _ => .fail
  | some { desc := .string, .. } => match x with
    | .pv (.lit (.string s)) => .ok (.lit (.int .i64 s.size))
    | _ => .fail
  | some { desc := .map _ _, .. } => match x with
    | .mp s => match H[s]? with
      | some (.map es _) => .ok (.lit (.int .i64 es.length))
      | some (.tmap _ _ l) => .ok (.lit (.int .i64 l.length))
      | _ => .fail
    | .pv (.lit (.map none)) => .ok (.lit (.int .i64 0))
    | _ => .fail
  | some { desc := .array n _, .. } => .ok (.lit (.int .i64 n))
  | _ => .fail
theorem run_getObj_map {P : Program} {w : World} {b : Nat} {es : Array MapEntry} {c : Nat} (h : w.heap[b]? = some (.map es c)) : (getObj b).run P w = .ok (.map es c) w := by
  simp [getObj, Sem.run, h]
theorem sLen0_sound {P : Program} {tab : Tab} (htab : TabOk P tab) {M : Imm} {ρ : Env} {H : List SObj} {w : World} {K : Post} (hm : Mem M ρ H w) {t ty : Nat} {x : SV} {v : Value} (hx : SRep M ρ v x)
    (h : (sLen0 tab H t x).holds H K) : DoesV P (Builtin.len_ #[t] ty #[v]) M ρ H w K := by
  unfold sLen0 at h
  split at h
  · rename_i e sz' by' zr rw' hte
    have hu : P.underlying t = some (.slice e) := (htab.get hte).und
    have key : ∀ a n c, (Builtin.len_ #[t] ty #[.slice a n c]).run P w = .ok (.int .i64 n) w := fun a n c => by simp [Builtin.len_, run_underlying hu, goInt]
    split at h
    · rename_i s sz st len
      cases hx with
      | sl _ _ _ _ c k p hp hk hc hn => exact DoesV.same hm (key _ _ _) (.pv (.lit _)) h
      | slz => exact DoesV.same hm (key _ _ _) (.pv (.lit _)) h
    · cases hx with
      | pv hp => cases hp with
        | rnil => exact DoesV.same hm (key _ _ _) (.pv (.lit _)) h
        | remp => exact DoesV.same hm (key _ _ _) (.pv (.lit _)) h
        | rsl b off c _ n' _ hn hc g0 g1 g2 => subst hn; exact DoesV.same hm (key _ _ _) (.pv (.lit _)) h
    · have := hx.lit_eq; subst this; exact DoesV.same hm (key _ _ _) (.pv (.lit _)) h
    · exact h.elim
  · rename_i sz' by' zr rw' hte
    have hu : P.underlying t = some .string := (htab.get hte).und
    split at h
    · have := hx.lit_eq; subst this
      exact DoesV.same hm (by simp [Builtin.len_, run_underlying hu, goInt]) (.pv (.lit _)) h
    · exact h.elim
  · rename_i kk ee sz' by' zr rw' hte
    have hu : P.underlying t = some (.map kk ee) := (htab.get hte).und
    split at h
    · rename_i s
      split at h
      · rename_i es c ho
        cases hx with
        | mp _ p hp =>
          obtain ⟨q, arr, a1, a2, a3, _⟩ := hm.own s _ ho
          rw [hp] at a1; cases a1
          refine DoesV.same hm (v := .int .i64 arr.size) ?_ (by rw [a3]; exact .pv (.lit _)) h
          simp [Builtin.len_, run_underlying hu, run_getObj_map a2, goInt]
      · rename_i ka va l ho
        cases hx with
        | mp _ p hp =>
          obtain ⟨q, arr, a1, a2, a3, _⟩ := hm.own s _ ho
          rw [hp] at a1; cases a1
          rw [entsFrom_len] at a3
          refine DoesV.same hm (v := .int .i64 arr.size) ?_ (by rw [a3]; exact .pv (.lit _)) h
          simp [Builtin.len_, run_underlying hu, run_getObj_map a2, goInt]
      · exact h.elim
    · have := hx.lit_eq; subst this
      exact DoesV.same hm (by simp [Builtin.len_, run_underlying hu, goInt]) (.pv (.lit _)) h
    · exact h.elim
  · rename_i n e sz' by' zr rw' hte
    have hu : P.underlying t = some (.array n e) := (htab.get hte).und
    refine DoesV.same hm ?_ (.pv (.lit _)) h
    simp [Builtin.len_, run_underlying hu, goInt]
  · exact h.elim
def fieldOff (tab : Tab) (t f : Nat) : Option Nat :=
  match tab.lookup t with
  | some { desc := .struct fields, .. } => match fields[f]? with
    | none => none
    | some fd => match tab.lookup fd.type with
      | none => none
      | some i => if i.size = 0 then none else some fd.offset
  | _ => none
def sFieldAddr (tab : Tab) (t : Nat) (x : SV) (f : Nat) : Res :=
  match x with
  | .pv (.tptr row l r j) => match fieldOff tab t f with
    | some off => .ok (.pv (.tptr row l r (j + off)))
    | none => .fail
  | x => sFieldAddr0 tab t x f
theorem sFieldAddr_untyped {tab : Tab} {H : List SObj} {K : Post} {t : Nat} {x : SV} {f : Nat} (h : (sFieldAddr tab t x f).holds H K) : (sFieldAddr0 tab t x.untyped f).holds H (Seen K) := by
  unfold sFieldAddr at h
  split at h
  · rename_i row l r j
    split at h
    · rename_i off ho
      unfold fieldOff at ho
      split at ho
      · rename_i fields a b c d hte
        split at ho
        · cases ho
        · rename_i fd hfd
          split at ho
          · cases ho
          · rename_i i hi
            split at ho
            · cases ho
            · rename_i hz
              cases ho
              simp only [sFieldAddr0, SV.untyped, hte, hfd, hi, if_neg hz]
              exact ⟨_, fun M ρ v hv => (by cases hv with | pv hv => exact .pv (.tptr _ _ _ _ hv)), h⟩
      · cases ho
    · exact h.elim
  · rename_i hx
    have : x.untyped = x ∨ ∃ row l, x = .pv (.tsl row l) := by
      unfold SV.untyped; split
      · exact .inr ⟨_, _, rfl⟩
      · exact absurd rfl (hx _ _ _ _)
      · exact .inl rfl
    rcases this with e | ⟨row, l, rfl⟩
    · rw [e]; exact Res.holds_mono (fun x H' t g hk => Seen.of hk) h
    · exfalso
      unfold sFieldAddr0 at h
      split at h <;> first | exact h | skip
      split at h <;> first | exact h | skip
      split at h <;> first | exact h | skip
      split at h <;> first | exact h | skip
theorem sFieldAddr_sound {P : Program} {tab : Tab} (htab : TabOk P tab) {M : Imm} {ρ : Env} {H : List SObj} {w : World} {K : Post} (hm : Mem M ρ H w) {t f : Nat} {x : SV} {v : Value} (hx : SRep M ρ v x)
    (h : (sFieldAddr tab t x f).holds H K) : DoesV P (Instr.fieldAt t v f) M ρ H w K := DoesV.seen (sFieldAddr0_sound htab hm hx.untyped (sFieldAddr_untyped h))
def elemSz (tab : Tab) (t : Nat) : Option Nat :=
  match tab.lookup t with
  | some { desc := .slice e, .. } => match tab.lookup e with
    | none => none
    | some i => some i.size
  | _ => none
def sIndexAddr (tab : Tab) (t : Nat) (x ix : SV) : Res :=
  match x with
  | .pv (.tsl row l) => match ix with
    | .pv (.lit (.int k n)) => match elemSz tab t with
      | some z => if row.length = z then .need (decide (0 ≤ n)) (.need (decide (n < l.length)) (.ok (.pv (.tptr row l n.toNat 0)))) else .fail
      | none => .fail
    | _ => .fail
  | .pv (.tptr row l i j) => .fail
  | x => sIndexAddr0 tab t x ix
theorem sIndexAddr_untyped {tab : Tab} {H : List SObj} {K : Post} {t : Nat} {x ix : SV} (h : (sIndexAddr tab t x ix).holds H K) : (sIndexAddr0 tab t x.untyped ix).holds H (Seen K) := by
  unfold sIndexAddr at h
  split at h
  · rename_i row l
    split at h
    · rename_i k n
      split at h
      · rename_i z ho
        split at h
        · rename_i hz
          unfold elemSz at ho
          split at ho
          · rename_i e a b c d hte
            split at ho
            · cases ho
            · rename_i i hi
              cases ho
              obtain ⟨h1, h2, h⟩ := h
              simp only [sIndexAddr0, SV.untyped, hte, hi, if_pos hz]
              refine ⟨h1, by simpa [rowsPV] using h2, _, fun M ρ v hv => ?_, h⟩
              cases hv with | pv hv => exact .pv (.tptr _ _ _ _ hv)
          · cases ho
        · exact h.elim
      · exact h.elim
    · exact h.elim
  · exact h.elim
  · rename_i h1 h2
    have : x.untyped = x := by
      unfold SV.untyped; split
      · exact absurd rfl (h1 _ _)
      · exact absurd rfl (h2 _ _ _ _)
      · rfl
    rw [this]; exact Res.holds_mono (fun x H' t g hk => Seen.of hk) h
theorem sIndexAddr_sound {P : Program} {tab : Tab} (htab : TabOk P tab) {M : Imm} {ρ : Env} {H : List SObj} {w : World} {K : Post} (hm : Mem M ρ H w) {t : Nat} {x ix : SV} {v u : Value} (hx : SRep M ρ v x) (hix : SRep M ρ u ix)
    (h : (sIndexAddr tab t x ix).holds H K) : DoesV P (Instr.indexAt t v u) M ρ H w K := DoesV.seen (sIndexAddr0_sound htab hm hx.untyped hix (sIndexAddr_untyped h))
def sSlice (tab : Tab) (H : List SObj) (t : Nat) (x : SV) (lo hi : Option SV) : Res :=
  match x with
  | .pv (.tsl row xs) => match elemSz tab t with
    | some z => if row.length = z then match bound lo 0, bound hi xs.length with
        | some l, some h => .need (decide (0 ≤ l)) <| .need (decide (l ≤ h)) <| .need (decide (h ≤ xs.length)) (.ok (.pv (.tsl row ((xs.take h.toNat).drop l.toNat))))
        | _, _ => .fail
      else .fail
    | none => .fail
  | .pv (.tptr ..) => .fail
  | x => sSlice0 tab H t x lo hi
theorem sSlice_untyped {tab : Tab} {H : List SObj} {K : Post} {t : Nat} {x : SV} {lo hi : Option SV} (h : (sSlice tab H t x lo hi).holds H K) : (sSlice0 tab H t x.untyped lo hi).holds H (Seen K) := by
  unfold sSlice at h
  split at h
  · rename_i row xs
    split at h
    · rename_i z ho
      split at h
      · rename_i hz
        split at h
        · rename_i l hh e1 e2
          unfold elemSz at ho
          split at ho
          · rename_i e a b c d hte
            split at ho
            · cases ho
            · rename_i i hi
              cases ho
              obtain ⟨h1, h2, h3, h⟩ := h
              have hlen : (rowsPV row xs).length = xs.length := by simp [rowsPV]
              simp only [sSlice0, SV.untyped, hte, hi, if_pos hz, hlen, e1, e2]
              refine ⟨h1, h2, h3, _, fun M ρ v hv => ?_, h⟩
              cases hv with | pv hv => exact .pv (.tsl _ _ (by simpa [rowsPV, List.map_take, List.map_drop] using hv))
          · cases ho
        · exact h.elim
      · exact h.elim
    · exact h.elim
  · exact h.elim
  · rename_i h1 h2
    have : x.untyped = x := by
      unfold SV.untyped; split
      · exact absurd rfl (h1 _ _)
      · exact absurd rfl (h2 _ _ _ _)
      · rfl
    rw [this]; exact Res.holds_mono (fun x H' t g hk => Seen.of hk) h
theorem sSlice_sound {P : Program} {tab : Tab} (htab : TabOk P tab) {M : Imm} {ρ : Env} {H : List SObj} {w : World} {K : Post} (hm : Mem M ρ H w) {t : Nat} {x : SV} {lo hi : Option SV} {v : Value} {vl vh : Option Value}
    (hx : SRep M ρ v x) (hsl : vl.isSome = lo.isSome) (hrl : ∀ v x, vl = some v → lo = some x → SRep M ρ v x) (hsh : vh.isSome = hi.isSome) (hrh : ∀ v x, vh = some v → hi = some x → SRep M ρ v x)
    (h : (sSlice tab H t x lo hi).holds H K) : DoesV P (Instr.sliceAt t v vl vh none) M ρ H w K := DoesV.seen (sSlice0_sound htab hm hx.untyped hsl hrl hsh hrh (sSlice_untyped h))
def sLen (tab : Tab) (H : List SObj) (t : Nat) (x : SV) : Res :=
  match x with
  | .pv (.tsl row xs) => match elemSz tab t with
    | some z => .ok (.lit (.int .i64 xs.length))
    | none => .fail
  | .pv (.tptr ..) => .fail
  | x => sLen0 tab H t x
theorem sLen_untyped {tab : Tab} {H : List SObj} {K : Post} {t : Nat} {x : SV} (h : (sLen tab H t x).holds H K) : (sLen0 tab H t x.untyped).holds H (Seen K) := by
  unfold sLen at h
  split at h
  · rename_i row xs
    split at h
    · rename_i z ho
      unfold elemSz at ho
      split at ho
      · rename_i e a b c d hte
        have hlen : (rowsPV row xs).length = xs.length := by simp [rowsPV]
        simp only [sLen0, SV.untyped, hte, hlen]
        exact Seen.of h
      · cases ho
    · exact h.elim
  · exact h.elim
  · rename_i h1 h2
    have : x.untyped = x := by
      unfold SV.untyped; split
      · exact absurd rfl (h1 _ _)
      · exact absurd rfl (h2 _ _ _ _)
      · rfl
    rw [this]; exact Res.holds_mono (fun x H' t g hk => Seen.of hk) h
theorem sLen_sound {P : Program} {tab : Tab} (htab : TabOk P tab) {M : Imm} {ρ : Env} {H : List SObj} {w : World} {K : Post} (hm : Mem M ρ H w) {t ty : Nat} {x : SV} {v : Value} (hx : SRep M ρ v x)
    (h : (sLen tab H t x).holds H K) : DoesV P (Builtin.len_ #[t] ty #[v]) M ρ H w K := DoesV.seen (sLen0_sound htab hm hx.untyped (sLen_untyped h))
end Go.Sx
end
section
set_option linter.unusedVariables false
set_option linter.unusedSimpArgs false
namespace Go.Sx
open Go
inductive Src where
  | pure (rows : List (List PV))
  | mixed (rows : List (List SV))
def Src.rows : Src → List (List SV)
  | .pure r => r.map (·.map .pv)
  | .mixed r => r
def Src.len : Src → Nat
  | .pure r => r.length
  | .mixed r => r.length
def Src.forget (d : List Nat) : Src → Src
  | .pure r => .pure r
  | .mixed r => .mixed (r.map (·.map (SV.forget d)))
theorem Src.forget_len (d : List Nat) (s : Src) : (s.forget d).len = s.len := by cases s <;> simp [Src.forget, Src.len]
def Src.solid : Src → Bool
  | .pure _ => true
  | .mixed r => !r.isEmpty
theorem Src.len_rows (s : Src) : s.rows.length = s.len := by cases s <;> simp [Src.rows, Src.len]
def srcOf (H : List SObj) (sz : Nat) : SV → Option Src
  | .sl s sz' st len => if sz' = sz then match H[s]? with
      | some (.vec _ so rows) => if so = sz ∧ st + len ≤ rows.length then some (.pure ((rows.drop st).take len)) else none
      | some (.mix _ so rows) => if so = sz ∧ st + len ≤ rows.length then some (.mixed ((rows.drop st).take len)) else none
      | _ => none
    else none
  | .pv (.rsl sz' rows) => if sz' = sz then some (.pure rows) else none
  | .pv (.lit (.slice none 0 0)) => some (.pure [])
  | _ => none
structure SrcRep (M : Imm) (ρ : Env) (w : World) (sz : Nat) (v : Value) (s : Src) : Prop where
  ex : ∃ a c, v = .slice a s.len c ∧ (s.len = 0 ∨ ∃ b o, a = some ⟨b, o, none⟩ ∧
    (∀ i j, i < s.len → j < sz → ∃ u, w.cell? ⟨b, o + (i * sz + j), none⟩ = some u ∧ isCell u = true) ∧
    (∀ i j x, i < s.len → (s.rows.getD i [])[j]? = some x → j < sz ∧ ∀ u, w.cell? ⟨b, o + (i * sz + j), none⟩ = some u → SRep M ρ u x))
theorem srcOf_sound {M : Imm} {ρ : Env} {H : List SObj} {w : World} (hm : Mem M ρ H w) {sz : Nat} {x : SV} {v : Value} {s : Src} (hx : SRep M ρ v x) (h : srcOf H sz x = some s) : SrcRep M ρ w sz v s := by
  unfold srcOf at h
  split at h
  · rename_i sd sz' st len
    split at h
    · rename_i e; subst e
      have own : ∀ (o : SObj) (s : Src), H[sd]? = some o → o.sz? = some sz' → st + len ≤ o.len → s.len = len → (∀ i, i < len → s.rows.getD i [] = o.row (st + i)) → SrcRep M ρ w sz' v s := by
        intro o s ho hz hle hl hr
        cases hx with
        | slz a b c a' => exact ⟨_, _, by rw [hl], .inl hl⟩
        | sl _ _ _ _ c k p hp hk hc hn =>
          obtain ⟨cs, ty, a1, a2, a3, a4, a5⟩ := ((hm.own sd o ho).rowOf hz hp).ex
          refine ⟨_, c, by rw [hl], .inr ⟨p.block, k, rfl, fun i j hi hj => ?_, fun i j x hi hx => ?_⟩⟩
          · rw [hl] at hi
            obtain ⟨u, h1, h2⟩ := a4 (st + i) j (by omega) hj
            exact ⟨u, by simp [World.cell?, a1]; rw [hk, ← h1]; congr 1; rw [Nat.add_mul]; omega, h2⟩
          · rw [hl] at hi
            rw [hr i hi] at hx
            obtain ⟨h1, h2⟩ := a5 (st + i) j x (by omega) hx
            refine ⟨h1, fun u hu => h2 u ?_⟩
            simp [World.cell?, a1] at hu
            rw [← hu, hk]; congr 1; rw [Nat.add_mul]; omega
      split at h
      · rename_i ty so rows ho
        split at h
        · rename_i hc; cases h
          obtain ⟨rfl, hle⟩ := hc
          refine own _ _ ho rfl hle (by simp [Src.len]; omega) (fun i hi => ?_)
          have hlt : st + i < rows.length := by omega
          simp [Src.rows, SObj.row, List.getD, List.getElem?_take, List.getElem?_drop, hi, hlt]
        · cases h
      · rename_i ty so rows ho
        split at h
        · rename_i hc; cases h
          obtain ⟨rfl, hle⟩ := hc
          refine own _ _ ho rfl hle (by simp [Src.len]; omega) (fun i hi => ?_)
          have hlt : st + i < rows.length := by omega
          simp [Src.rows, SObj.row, List.getD, List.getElem?_take, List.getElem?_drop, hi, hlt]
        · cases h
      · cases h
    · cases h
  · rename_i sz' rows
    split at h
    · rename_i e; subst e; cases h
      cases hx with
      | pv hp => cases hp with
        | rnil => exact ⟨_, _, rfl, .inl rfl⟩
        | remp a c => exact ⟨_, _, rfl, .inl rfl⟩
        | rsl b off c _ n _ hn hc g0 g1 g2 =>
          refine ⟨_, c, by simp [Src.len]; exact hn, .inr ⟨b, off, rfl, fun i j hi hj => ?_, fun i j x hi hx => ?_⟩⟩
          · obtain ⟨u, h1, h2⟩ := g0 i j hi hj
            exact ⟨u, by rw [← Nat.add_assoc]; exact Imm.cell_heap hm h1, h2⟩
          · have hi' : i < rows.length := hi
            simp [Src.rows, List.getD, hi'] at hx
            obtain ⟨q, hq, rfl⟩ := hx
            have hj : j < sz' := Nat.lt_of_lt_of_le (List.getElem?_eq_some_iff.1 hq).1 (g2 i rows[i] (by simp [hi']))
            refine ⟨hj, fun u hu => ?_⟩
            obtain ⟨u', h1, h2⟩ := g0 i j hi' hj
            have := Imm.cell_heap hm h1
            rw [← Nat.add_assoc, this] at hu; cases hu
            exact .pv (g1 i rows[i] j q u (by simp [hi']) hq h1)
    · cases h
  · cases h
    have := hx.lit_eq; subst this
    exact ⟨_, _, rfl, .inl rfl⟩
  · cases h
def SObj.plain : SObj → SObj
  | .tvec ty row l => .vec ty row.length (rowsPV row l)
  | o => o
theorem plain_facts (o : SObj) : o.plain.sz? = o.sz? ∧ o.plain.len = o.len ∧ o.plain.ty = o.ty ∧ o.plain.live = o.live ∧ (∀ i, i < o.len → o.plain.row i = o.row i) ∧ (∀ d, o.plain.forget d = (o.forget d).plain) := by
  cases o with
  | tvec ty row l =>
    refine ⟨rfl, by simp [SObj.plain, SObj.len, rowsPV], rfl, rfl, fun i hi => ?_, fun d => rfl⟩
    have hi : i < l.length := hi
    simp only [SObj.plain, SObj.row, rowsPV_getD hi]
  | _ => exact ⟨rfl, rfl, rfl, rfl, fun i _ => rfl, fun d => rfl⟩
theorem OwnAt.plain {M : Imm} {ρ : Env} {w : World} {s : Nat} {o : SObj} : OwnAt M ρ w s o.plain ↔ OwnAt M ρ w s o := by
  cases o <;> exact Iff.rfl
def appendObj (o : SObj) (n : Nat) (s : Src) : SObj :=
  match o.plain, s with
  | .vec ty sz rows, .pure ps => .vec ty sz ((if n = rows.length then rows else rows.take n) ++ ps)
  | .vec ty sz rows, .mixed xs => .mix ty sz (((if n = rows.length then rows else rows.take n).map (·.map .pv)) ++ xs)
  | .mix ty sz rows, s => .mix ty sz ((if n = rows.length then rows else rows.take n) ++ s.rows)
  | o, _ => o
theorem take_if {α : Type} (l : List α) (n : Nat) : (if n = l.length then l else l.take n) = l.take n := by
  split
  · rename_i h; rw [h, List.take_length]
  · rfl
theorem appendObj_facts0 (o : SObj) {sz n : Nat} (s : Src) (hz : o.sz? = some sz) (hn : n ≤ o.len) (ho : o.plain = o) :
    (appendObj o n s).sz? = some sz ∧ (appendObj o n s).len = n + s.len ∧ (appendObj o n s).ty = o.ty ∧
    ∀ i, i < n + s.len → (appendObj o n s).row i = if i < n then o.row i else s.rows.getD (i - n) [] := by
  cases o with
  | tvec ty row l => cases ho
  | vec ty sz' rows =>
    simp [SObj.sz?] at hz; subst hz
    have hn' : n ≤ rows.length := hn
    cases s with
    | pure ps =>
      simp only [appendObj, SObj.plain, take_if]
      refine ⟨rfl, by simp [SObj.len, Src.len]; omega, rfl, fun i hi => ?_⟩
      simp only [SObj.row, Src.rows, List.getD]
      split
      · rename_i h; rw [List.getElem?_append_left (by simp; omega), List.getElem?_take]; simp [h]
      · rename_i h
        rw [List.getElem?_append_right (by simp; omega)]
        simp only [List.length_take, Nat.min_eq_left hn', List.getElem?_map]
        cases ps[i - n]? <;> simp
    | mixed xs =>
      simp only [appendObj, SObj.plain, take_if]
      refine ⟨rfl, by simp [SObj.len, Src.len]; omega, rfl, fun i hi => ?_⟩
      simp only [SObj.row, Src.rows, List.getD]
      split
      · rename_i h; rw [List.getElem?_append_left (by simp; omega), List.getElem?_map, List.getElem?_take]; simp only [h, if_true]; cases rows[i]? <;> simp
      · rename_i h
        rw [List.getElem?_append_right (by simp; omega)]
        simp [Nat.min_eq_left hn']
  | mix ty sz' rows =>
    simp [SObj.sz?] at hz; subst hz
    have hn' : n ≤ rows.length := hn
    simp only [appendObj, SObj.plain, take_if]
    refine ⟨rfl, by simp [SObj.len, ← Src.len_rows]; omega, rfl, fun i hi => ?_⟩
    simp only [SObj.row, List.getD]
    split
    · rename_i h; rw [List.getElem?_append_left (by simp; omega), List.getElem?_take]; simp [h]
    · rename_i h
      rw [List.getElem?_append_right (by simp; omega)]
      simp [Nat.min_eq_left hn']
  | map es c => simp [SObj.sz?] at hz
  | tmap k v l => simp [SObj.sz?] at hz
  | iter a b => simp [SObj.sz?] at hz
  | loop a => simp [SObj.sz?] at hz
  | over a b => simp [SObj.sz?] at hz
  | dfr a => simp [SObj.sz?] at hz
  | dead => simp [SObj.sz?] at hz
theorem plain_plain (o : SObj) : o.plain.plain = o.plain := by cases o <;> rfl
theorem appendObj_facts (o : SObj) {sz n : Nat} (s : Src) (hz : o.sz? = some sz) (hn : n ≤ o.len) :
    (appendObj o n s).sz? = some sz ∧ (appendObj o n s).len = n + s.len ∧ (appendObj o n s).ty = o.ty ∧
    ∀ i, i < n + s.len → (appendObj o n s).row i = if i < n then o.row i else s.rows.getD (i - n) [] := by
  obtain ⟨f1, f2, f3, _, f4, _⟩ := plain_facts o
  obtain ⟨g1, g2, g3, g4⟩ := appendObj_facts0 o.plain s (by rw [f1]; exact hz) (by rw [f2]; exact hn) (plain_plain o)
  have e : appendObj o.plain n s = appendObj o n s := by unfold appendObj; rw [plain_plain]
  rw [e] at g1 g2 g3 g4
  refine ⟨g1, g2, g3.trans f3, fun i hi => ?_⟩
  rw [g4 i hi]
  split
  · rename_i h; rw [f4 i (by omega)]
  · rfl
def sAppend0 (tab : Tab) (H : List SObj) (t t' : Nat) (a x : SV) : Res :=
  match tab.lookup t with
  | some { desc := .slice e, .. } => match tab.lookup e with
    | none => .fail
    | some i => if t' ≠ t ∨ i.size = 0 then .fail else match srcOf H i.size x with
      | none => .fail
      | some s => match a with
        | .pv (.lit (.slice none 0 0)) => .need s.solid <| .need (decide (s.len * i.bytes ≤ 140737488355328)) <| .need (decide (s.len ≤ 9223372036854775807)) <|
            .eff (.sl H.length i.size 0 s.len) (H ++ [appendObj (.vec e i.size []) 0 s]) [] []
        | .sl d sz st n => match H[d]? with
          | none => .fail
          | some o => if sz = i.size ∧ o.sz? = some i.size ∧ o.ty = e ∧ st = 0 then
              .need (decide (n ≤ o.len)) <| .need (decide ((n + s.len) * i.bytes ≤ 140737488355328)) <| .need (decide (n + s.len ≤ 9223372036854775807)) <|
                .eff (.sl d i.size 0 (n + s.len)) ((H.map (SObj.forget [d])).set d (appendObj (o.forget [d]) n (s.forget [d]))) [d] [d]
            else .fail
        | _ => .fail
  | _ => .fail
theorem SrcRep.news {M : Imm} {ρ : Env} {w : World} {sz : Nat} {v : Value} {s : Src} (h : SrcRep M ρ w sz v s) (hsz : 0 < sz) : ∃ (a : Option Addr) (c : Nat) (news : List Value), v = .slice a s.len c ∧ news.length = s.len * sz ∧
    (s.len = 0 ∨ ∃ b o, a = some ⟨b, o, none⟩ ∧ ∀ (j : Nat) (u : Value), news[j]? = some u → w.cell? ((⟨b, o, none⟩ : Addr).add j) = some u) ∧ (∀ u ∈ news, u.oneCell' = true) ∧
    (∀ i j x, i < s.len → (s.rows.getD i [])[j]? = some x → j < sz ∧ ∀ u, news[i * sz + j]? = some u → SRep M ρ u x) := by
  obtain ⟨a, c, hv, h | ⟨b, o, ha, h1, h2⟩⟩ := h.ex
  · refine ⟨a, c, [], hv, by simp [h], .inl h, by simp, fun i j x hi => by omega⟩
  · have hex : ∀ k, k < s.len * sz → ∃ u, w.cell? ⟨b, o + k, none⟩ = some u ∧ isCell u = true := fun k hk => by
      have hlt : k / sz < s.len := (Nat.div_lt_iff_lt_mul hsz).2 hk
      have := h1 (k / sz) (k % sz) hlt (Nat.mod_lt _ hsz)
      rwa [Nat.div_add_mod'] at this
    let f : Nat → Value := fun k => if h : k < s.len * sz then Classical.choose (hex k h) else undef
    have hf : ∀ k, k < s.len * sz → w.cell? ⟨b, o + k, none⟩ = some (f k) ∧ isCell (f k) = true := fun k hk => by simp only [f, dif_pos hk]; exact Classical.choose_spec (hex k hk)
    have hget : ∀ (k : Nat) (u : Value), ((List.range (s.len * sz)).map f)[k]? = some u → k < s.len * sz ∧ u = f k := fun k u hu => by
      simp only [List.getElem?_map, Option.map_eq_some_iff] at hu
      obtain ⟨m, hm, rfl⟩ := hu
      obtain ⟨g1, g2⟩ := List.getElem?_eq_some_iff.1 hm
      simp at g1 g2; subst g2; exact ⟨g1, rfl⟩
    refine ⟨a, c, (List.range (s.len * sz)).map f, hv, by simp, .inr ⟨b, o, ha, fun j u hu => ?_⟩, fun u hu => ?_, fun i j x hi hx => ?_⟩
    · obtain ⟨g1, rfl⟩ := hget j u hu
      rw [Addr.add_mid]; exact (hf j g1).1
    · obtain ⟨k, hk, rfl⟩ := List.mem_map.1 hu
      exact (hf k (by simpa using hk)).2
    · obtain ⟨g1, g2⟩ := h2 i j x hi hx
      refine ⟨g1, fun u hu => ?_⟩
      obtain ⟨g3, rfl⟩ := hget _ u hu
      exact g2 _ (hf _ g3).1
theorem append_none_run {P : Program} {w : World} {t ty e : Nat} {i : TI} (hu : P.underlying t = some (.slice e)) (he : TyOk P e i) {a b : Option Addr} {n c c' : Nat} (hn : n ≤ c) :
    (Builtin.append_ #[t, t] ty #[.slice a n c, .slice b 0 c']).run P w = .ok (.slice a n c) w := by
  obtain ⟨inf, hi, i1, _⟩ := he.inf
  cases a <;> cases b <;> simp [Builtin.append_, run_underlying hu, sizeOf, typeInfo, hi, Builtin.lenOf, hn, Builtin.firstCells, loadCells, loadCellsFrom, storeCells]
theorem append_cases {P : Program} {w : World} {t ty e : Nat} {i : TI} (hu : P.underlying t = some (.slice e)) (he : TyOk P e i) (hsz : 0 < i.size)
    {base : Option Addr} {n c : Nat} {cs : Array Value} (hg : (n = 0 ∧ c = 0) ∨ ∃ k, base = some ⟨k, 0, none⟩ ∧ w.heap[k]? = some (.cells cs e (0, 0)) ∧ c * i.size ≤ cs.size) (hn : n ≤ c)
    {a : Option Addr} {m c' : Nat} {news : List Value} (hl : news.length = m * i.size) (ha : m = 0 ∨ ∃ b o, a = some ⟨b, o, none⟩ ∧ ∀ (j : Nat) (u : Value), news[j]? = some u → w.cell? ((⟨b, o, none⟩ : Addr).add j) = some u)
    (h1 : ∀ u ∈ news, u.oneCell' = true) (hb : (n + m) * i.bytes ≤ 140737488355328) (h63 : n + m ≤ 9223372036854775807) :
    ∃ v' w', (Builtin.append_ #[t, t] ty #[.slice base n c, .slice a m c']).run P w = .ok v' w' ∧
      ((m = 0 ∧ v' = .slice base n c ∧ w' = w) ∨
       (∃ cs' gc, v' = .slice (some ⟨w.heap.size, 0, none⟩) (n + m) gc ∧ (w'.heap = w.heap.push (.cells cs' e (0, 0)) ∧ w'.os = w.os ∧ w'.output = w.output) ∧ n + m ≤ gc ∧ gc * i.size ≤ cs'.size ∧
          (∀ k, k < n * i.size → cs'[k]? = cs[k]?) ∧ (∀ k, k < m * i.size → cs'[n * i.size + k]? = news[k]?)) ∨
       (∃ k, base = some ⟨k, 0, none⟩ ∧ 0 < m ∧ w.heap[k]? = some (.cells cs e (0, 0)) ∧ n + m ≤ c ∧ c * i.size ≤ cs.size ∧ v' = .slice (some ⟨k, 0, none⟩) (n + m) c ∧ w' = w.setRow k (cs.toList.take (n * i.size) ++ news ++ cs.toList.drop (n * i.size + news.length)).toArray)) := by
  obtain ⟨inf, hinf, i1, i2, i3⟩ := he.inf
  rcases Nat.eq_zero_or_pos m with rfl | hm
  · exact ⟨_, w, append_none_run hu he hn, .inl ⟨rfl, rfl, rfl⟩⟩
  · obtain ⟨b, o, rfl, hnews⟩ := ha.resolve_left (by omega)
    have hlz : ∀ x, (Builtin.zeroCells i.zero.cells x).size = x * i.size := fun x => by rw [size_zeroCells, he.zsz]
    rcases hg with ⟨rfl, rfl⟩ | ⟨k, rfl, hgk, hcs⟩
    · have fin : ∀ (cc : Nat), m ≤ cc → ∃ cs' gc, Value.slice (some ⟨w.heap.size, 0, none⟩) m cc = .slice (some ⟨w.heap.size, 0, none⟩) (0 + m) gc ∧ ((w.drew.alloc (.cells (news.toArray ++ Builtin.zeroCells i.zero.cells (cc - m)) e)).heap = w.heap.push (.cells cs' e (0, 0)) ∧ (w.drew.alloc (.cells (news.toArray ++ Builtin.zeroCells i.zero.cells (cc - m)) e)).os = w.os ∧ (w.drew.alloc (.cells (news.toArray ++ Builtin.zeroCells i.zero.cells (cc - m)) e)).output = w.output) ∧ 0 + m ≤ gc ∧ gc * i.size ≤ cs'.size ∧
          (∀ k, k < 0 * i.size → cs'[k]? = cs[k]?) ∧ (∀ k, k < m * i.size → cs'[0 * i.size + k]? = news[k]?) := fun cc hge => by
        refine ⟨_, cc, by simp, ⟨rfl, rfl, rfl⟩, by simpa using hge, ?_, fun k hk => by omega, fun k hk => ?_⟩
        · simp only [Array.size_append, List.size_toArray, hl, hlz, ← Nat.add_mul]
          exact Nat.mul_le_mul_right _ (by omega)
        · simp only [Nat.zero_mul, Nat.zero_add]
          rw [Array.getElem?_append_left (by simp [hl]; exact hk)]; simp
      cases base with
      | none =>
        have hr := run_append_nil (P := P) w t ty e inf i.zero hu hinf i3 ⟨b, o, none⟩ m c' news (by rw [i1]; exact hl) hnews hm (by omega) (by rw [i2]; simp at hb; omega)
        exact ⟨_, _, hr, .inr (.inl (fin _ (grownCap_ge w m 0 e)))⟩
      | some ad =>
        have hr := run_append_grow (P := P) w t ty e inf i.zero hu hinf i3 ad 0 0 [] (by simp) (fun j u hu' => by simp at hu') ⟨b, o, none⟩ m c' news (by rw [i1]; exact hl) hnews (by omega) (by omega)
          (growslice_fits (by omega) (by rw [i2]; exact hb))
        simp only [Nat.zero_add, Array.empty_append] at hr
        exact ⟨_, _, hr, .inr (.inl (fin _ (grownCap_ge w m 0 e)))⟩
    · by_cases hroom : n + m ≤ c
      · have hfit : n * inf.size + news.length ≤ cs.size := by
          rw [hl, i1, ← Nat.add_mul]; exact Nat.le_trans (Nat.mul_le_mul_right _ hroom) hcs
        have hr := run_append_room (P := P) w t ty e inf hu hinf k n c cs hgk ⟨b, o, none⟩ m c' news (by rw [i1]; exact hl) hnews h1 hroom hfit
        rw [i1] at hr
        exact ⟨_, _, hr, .inr (.inr ⟨k, rfl, hm, hgk, hroom, hcs, rfl, rfl⟩)⟩
      · have hnc : n * i.size ≤ cs.size := Nat.le_trans (Nat.mul_le_mul_right _ hn) hcs
        have holds : ∀ (j : Nat) (u : Value), (cs.toList.take (n * i.size))[j]? = some u → w.cell? ((⟨k, 0, none⟩ : Addr).add j) = some u := fun j u hu' => by
          rw [List.getElem?_take] at hu'
          split at hu'
          · rw [Addr.add_mid, Nat.zero_add]; simp [World.cell?, hgk]; simpa using hu'
          · cases hu'
        have hge := grownCap_ge w (n + m) c e
        have hr := run_append_grow (P := P) w t ty e inf i.zero hu hinf i3 ⟨k, 0, none⟩ n c (cs.toList.take (n * i.size)) (by simp [i1]; omega) holds ⟨b, o, none⟩ m c' news (by rw [i1]; exact hl) hnews (by omega) (by omega)
          (growslice_fits (by omega) (by rw [i2]; exact hb))
        have hlt : (cs.toList.take (n * i.size)).length = n * i.size := by simp; omega
        refine ⟨_, _, hr, .inr (.inl ⟨_, _, rfl, ⟨rfl, rfl, rfl⟩, hge, ?_, fun j hj => ?_, fun j hj => ?_⟩)⟩
        · simp only [Array.size_append, List.size_toArray, hl, hlz, hlt, ← Nat.add_mul]
          exact Nat.mul_le_mul_right _ (by omega)
        · rw [Array.getElem?_append_left (by simp [hlt]; omega), Array.getElem?_append_left (by simp [hlt]; omega)]
          simp [hj]
        · rw [Array.getElem?_append_left (by simp [hlt, hl]; omega), Array.getElem?_append_right (by simp [hlt])]
          simp [hlt]
theorem append_own {M : Imm} {ρ' : Env} {w' : World} {s : Nat} {o : SObj} {sz n e : Nat} {src : Src} {p' : Place} {cs' : Array Value} {news : List Value} (hz : o.sz? = some sz) (hn : n ≤ o.len) (hty : o.ty = e)
    (hp' : ρ' s = some p') (hheap : w'.heap[p'.block]? = some (.cells cs' e (0, 0))) (hcap : p'.cap ≤ cs'.size) (hfit : (n + src.len) * sz ≤ p'.cap)
    (h4 : ∀ i j, i < n → j < sz → ∃ v, cs'[i * sz + j]? = some v ∧ isCell v = true) (h4' : ∀ k, k < src.len * sz → cs'[n * sz + k]? = news[k]?) (hl : news.length = src.len * sz) (h1 : ∀ u ∈ news, u.oneCell' = true)
    (h5 : ∀ i j x, i < n → (o.row i)[j]? = some x → j < sz ∧ ∀ v, cs'[i * sz + j]? = some v → SRep M ρ' v x)
    (h6 : ∀ i j x, i < src.len → (src.rows.getD i [])[j]? = some x → j < sz ∧ ∀ u, news[i * sz + j]? = some u → SRep M ρ' u x) : OwnAt M ρ' w' s (appendObj o n src) := by
  obtain ⟨m1, m2, m3, m4⟩ := appendObj_facts o src hz hn
  have at' : ∀ i j, n ≤ i → i < n + src.len → j < sz → cs'[i * sz + j]? = news[(i - n) * sz + j]? ∧ (i - n) * sz + j < news.length := fun i j hi hi' hj => by
    have e1 : i * sz = n * sz + (i - n) * sz := by rw [← Nat.add_mul]; congr 1; omega
    have hlt := flat_lt hj (show i - n < src.len by omega)
    rw [e1, Nat.add_assoc]
    exact ⟨h4' _ hlt, by rw [hl]; exact hlt⟩
  refine RowOf.ownAt m1 hp' (fun ty' sz' rows eq => ?_) (fun ty' sz' rows eq => ?_) (fun ty' row l2 eq => ?_) hheap hcap (by rw [m2]; exact hfit) (fun i j hi hj => ?_) (fun i j x hi hx => ?_)
  · rw [eq] at m3; exact m3.trans hty
  · rw [eq] at m3; exact m3.trans hty
  · rw [eq] at m3; exact m3.trans hty
  · rw [m2] at hi
    by_cases hin : i < n
    · exact h4 i j hin hj
    · obtain ⟨q1, q2⟩ := at' i j (by omega) hi hj
      rw [q1]; exact ⟨news[(i - n) * sz + j], by simp [q2], h1 _ (List.getElem_mem q2)⟩
  · rw [m2] at hi; rw [m4 i hi] at hx
    split at hx
    · rename_i hin; exact h5 i j x hin hx
    · rename_i hin
      obtain ⟨q1, q2⟩ := h6 (i - n) j x (by omega) hx
      exact ⟨q1, fun v hv => by rw [(at' i j (by omega) hi q1).1] at hv; exact q2 v hv⟩
theorem forget_row (d : List Nat) (o : SObj) (i : Nat) : (o.forget d).row i = (o.row i).map (SV.forget d) ∨ (o.forget d).row i = o.row i ∧ ∀ x ∈ o.row i, ∃ p, x = .pv p := by
  cases o with
  | mix ty sz rows =>
    left
    simp only [SObj.forget, SObj.row, List.getD, List.getElem?_map]
    cases rows[i]? <;> simp
  | vec ty sz rows =>
    right
    refine ⟨rfl, fun x hx => ?_⟩
    simp only [SObj.row, List.mem_map] at hx
    obtain ⟨p, _, rfl⟩ := hx; exact ⟨p, rfl⟩
  | tvec ty row l =>
    right
    refine ⟨rfl, fun x hx => ?_⟩
    simp only [SObj.row, List.mem_map] at hx
    obtain ⟨p, _, rfl⟩ := hx; exact ⟨p, rfl⟩
  | map es c => left; rfl
  | tmap k v l => left; rfl
  | iter a b => left; rfl
  | loop a => left; rfl
  | over a b => left; rfl
  | dfr a => left; rfl
  | dead => left; rfl
theorem forget_sz (d : List Nat) (o : SObj) : (o.forget d).sz? = o.sz? ∧ (o.forget d).len = o.len ∧ (o.forget d).ty = o.ty := by
  cases o <;> simp [SObj.forget, SObj.sz?, SObj.len, SObj.ty]
theorem forget_cell {M : Imm} {ρ ρ' : Env} {d : List Nat} (hρ : Env.leBut d ρ ρ') {o : SObj} {i j : Nat} {x : SV} (hx : ((o.forget d).row i)[j]? = some x) :
    ∃ y, (o.row i)[j]? = some y ∧ ∀ v, SRep M ρ v y → SRep M ρ' v x := by
  rcases forget_row d o i with h | ⟨h, hp⟩
  · rw [h, List.getElem?_map, Option.map_eq_some_iff] at hx
    obtain ⟨y, hy, rfl⟩ := hx
    exact ⟨y, hy, fun v hv => hv.forget M.le_refl hρ⟩
  · rw [h] at hx
    obtain ⟨p, rfl⟩ := hp x (List.mem_of_getElem? hx)
    exact ⟨_, hx, fun v hv => by cases hv with | pv hv => exact .pv hv⟩
theorem src_cell {M : Imm} {ρ ρ' : Env} {d : List Nat} (hρ : Env.leBut d ρ ρ') {s : Src} {i j : Nat} {x : SV} (hx : ((s.forget d).rows.getD i [])[j]? = some x) :
    ∃ y, (s.rows.getD i [])[j]? = some y ∧ ∀ v, SRep M ρ v y → SRep M ρ' v x := by
  cases s with
  | pure r =>
    refine ⟨x, hx, fun v hv => ?_⟩
    simp only [Src.forget, Src.rows, List.getD, List.getElem?_map] at hx
    cases e : r[i]? with
    | none => simp [e] at hx
    | some q =>
      simp [e] at hx
      obtain ⟨p, _, rfl⟩ := hx
      cases hv with | pv hv => exact .pv hv
  | mixed r =>
    simp only [Src.forget, Src.rows, List.getD, List.getElem?_map] at hx ⊢
    cases e : r[i]? with
    | none => simp [e] at hx
    | some q =>
      simp [e] at hx ⊢
      obtain ⟨y, hy, rfl⟩ := hx
      exact ⟨y, hy, fun v hv => hv.forget M.le_refl hρ⟩
theorem sAppend0_sound {P : Program} {tab : Tab} (htab : TabOk P tab) {M : Imm} {ρ : Env} {H : List SObj} {w : World} {K : Post} (hm : Mem M ρ H w) {t t' ty : Nat} {a x : SV} {v u : Value} (ha : SRep M ρ v a) (hx : SRep M ρ u x)
    (h : (sAppend0 tab H t t' a x).holds H K) : DoesV P (Builtin.append_ #[t, t'] ty #[v, u]) M ρ H w K := by
  unfold sAppend0 at h
  split at h
  · rename_i e sz' by' zr rw' hte
    have htt := htab.get hte
    split at h
    · exact h.elim
    · rename_i i hi
      have ht := htab.get hi
      split at h
      · exact h.elim
      · rename_i hcond
        obtain ⟨rfl, hsz⟩ : t' = t ∧ 0 < i.size := ⟨Classical.byContradiction fun e => hcond (.inl e), Nat.pos_of_ne_zero fun e => hcond (.inr e)⟩
        split at h
        · exact h.elim
        · rename_i src hsrc
          obtain ⟨ad, c', news, rfl, hl, hcell, hone, hrep⟩ := (srcOf_sound hm hx hsrc).news hsz
          split at h
          · simp only [Res.holds, decide_eq_true_eq] at h
            obtain ⟨hsol, hb, h63, h⟩ := h
            have := ha.lit_eq; subst this
            obtain ⟨v', w', hr, hcase⟩ := append_cases (P := P) (w := w) (ty := ty) (base := none) (n := 0) (c := 0) (cs := #[]) (c' := c') htt.und ht hsz (.inl ⟨rfl, rfl⟩) (Nat.le_refl _) hl hcell hone (by simpa using hb) (by simpa using h63)
            rcases hcase with ⟨hm0, rfl, rfl⟩ | ⟨cs', gc, rfl, ⟨hheap, hio⟩, hgc, hcs, _, hnew⟩ | ⟨k, hk, _⟩
            · obtain ⟨g1, g2⟩ := hm.virt (ty := e) (sz := i.size)
              have e' : appendObj (.vec e i.size []) 0 src = .vec e i.size [] := by
                cases src with
                | pure ps => simp [Src.len] at hm0; subst hm0; rfl
                | mixed xs => simp [Src.len] at hm0; subst hm0; simp [Src.solid] at hsol
              rw [e', hm0] at h
              exact ⟨_, _, hr, _, _, [], [], M, ρ, h, .slz _ _ _ _, g1, g2⟩
            · have hle : ∀ q, ρ.le (ρ.set H.length q) := fun q s p hp => by
                by_cases e : s = H.length
                · subst e; rw [hm.fresh _ (Nat.le_refl _)] at hp; cases hp
                · rw [Env.set_ne _ _ e]; exact hp
              have ho : OwnAt M (ρ.set H.length (some ⟨w.heap.size, cs'.size⟩)) w' H.length (appendObj (.vec e i.size []) 0 src) := by
                refine append_own (p' := ⟨w.heap.size, cs'.size⟩) (e := e) (sz := i.size) rfl (Nat.zero_le _) rfl (Env.set_self ..) (by rw [hheap]; simp) (Nat.le_refl _) ?_ (fun i j hi => by omega) (by simpa using hnew) hl hone (fun i j x hi => by omega) (fun i j x hi hx => ?_)
                · exact Nat.le_trans (Nat.mul_le_mul_right _ hgc) hcs
                · obtain ⟨q1, q2⟩ := hrep i j x hi hx
                  exact ⟨q1, fun u hu => (q2 u hu).mono M.le_refl (hle _)⟩
              obtain ⟨g1, g2⟩ := hm.alloc hheap ho hio
              refine ⟨_, _, hr, _, _, [], [], M, _, h, ?_, g1, g2⟩
              rw [Nat.zero_add]
              exact .sl _ _ 0 _ gc 0 ⟨w.heap.size, cs'.size⟩ (Env.set_self ..) (by simp) (by simpa using hcs) (by omega)
            · cases hk
          · rename_i d sz st n
            split at h
            · exact h.elim
            · rename_i o ho
              split at h
              · rename_i hc2
                obtain ⟨rfl, hz, hty, rfl⟩ := hc2
                simp only [Res.holds, decide_eq_true_eq] at h
                obtain ⟨hn, hb, h63, h⟩ := h
                have hlive := live_of_sz hz
                obtain ⟨f1, f2, f3⟩ := forget_sz [d] o
                have hz' : (o.forget [d]).sz? = some i.size := f1.trans hz
                have hn' : n ≤ (o.forget [d]).len := by rw [f2]; exact hn
                obtain ⟨m1, m2, m3, m4⟩ := appendObj_facts (o.forget [d]) (src.forget [d]) hz' hn'
                have hlv' := live_of_sz m1
                have hown := hm.own d o ho
                have but : ∀ q, Env.leBut [d] ρ (ρ.set d q) := fun q s p hs hp => by
                  have : s ≠ d := by simpa using hs
                  rw [Env.set_ne _ _ this]; exact hp
                obtain ⟨base, c, cs, rfl, hg, hnc, hcap⟩ : ∃ (base : Option Addr) (c : Nat) (cs : Array Value), v = .slice base n c ∧ ((n = 0 ∧ c = 0) ∨ ∃ k, base = some ⟨k, 0, none⟩ ∧ w.heap[k]? = some (.cells cs e (0, 0)) ∧ c * i.size ≤ cs.size) ∧ n ≤ c ∧
                    ((n = 0 ∧ c = 0) ∨ ∃ p, ρ d = some p ∧ base = some ⟨p.block, 0, none⟩ ∧ c * i.size ≤ p.cap ∧ w.heap[p.block]? = some (.cells cs e (0, 0))) := by
                  cases ha with
                  | slz _ _ _ a' => exact ⟨a', 0, #[], rfl, .inl ⟨rfl, rfl⟩, Nat.le_refl _, .inl ⟨rfl, rfl⟩⟩
                  | sl _ _ _ _ c k p hp hk hc hnc =>
                    obtain ⟨cs, ty0, a1, a2, a3, _⟩ := (hown.rowOf hz hp).ex
                    obtain ⟨cs2, b1⟩ := hown.heap hz hp
                    rw [hty] at b1
                    rw [a1] at b1; cases b1
                    have hk0 : k = 0 := by simpa using hk
                    subst hk0
                    have hcc : c * i.size ≤ p.cap := by simpa using hc
                    exact ⟨_, c, cs, rfl, .inr ⟨p.block, rfl, a1, Nat.le_trans hcc a2⟩, hnc, .inr ⟨p, hp, rfl, hcc, a1⟩⟩
                obtain ⟨v', w', hr, hcase⟩ := append_cases (P := P) (w := w) (ty := ty) (c' := c') htt.und ht hsz hg hnc hl hcell hone hb h63
                have old : ∀ p, ρ d = some p → ∃ cs0, w.heap[p.block]? = some (.cells cs0 e (0, 0)) ∧ p.cap ≤ cs0.size ∧ n * i.size ≤ p.cap ∧
                    (∀ r j, r < n → j < i.size → ∃ v, cs0[r * i.size + j]? = some v ∧ isCell v = true) ∧
                    (∀ q r j x, r < n → ((o.forget [d]).row r)[j]? = some x → j < i.size ∧ ∀ v, cs0[r * i.size + j]? = some v → SRep M (ρ.set d q) v x) := fun p hp => by
                  obtain ⟨cs0, ty0, a1, a2, a3, a4, a5⟩ := (hown.rowOf hz hp).ex
                  obtain ⟨cs2, b1⟩ := hown.heap hz hp
                  rw [hty] at b1
                  rw [a1] at b1; cases b1
                  refine ⟨cs0, a1, a2, Nat.le_trans (Nat.mul_le_mul_right _ hn) a3, fun r j hr hj => a4 r j (by omega) hj, fun q r j x hr hx => ?_⟩
                  obtain ⟨y, hy, hv⟩ := forget_cell (M := M) (but q) hx
                  obtain ⟨c1, c2⟩ := a5 r j y (by omega) hy
                  exact ⟨c1, fun v hvv => hv v (c2 v hvv)⟩
                have srcs : ∀ q r j x, r < (src.forget [d]).len → ((src.forget [d]).rows.getD r [])[j]? = some x → j < i.size ∧ ∀ u, news[r * i.size + j]? = some u → SRep M (ρ.set d q) u x := fun q r j x hr hx => by
                  rw [Src.forget_len] at hr
                  obtain ⟨y, hy, hv⟩ := src_cell (M := M) (but q) hx
                  obtain ⟨c1, c2⟩ := hrep r j y hr hy
                  exact ⟨c1, fun u hu => hv u (c2 u hu)⟩
                have hl' : news.length = (src.forget [d]).len * i.size := by rw [Src.forget_len]; exact hl
                rcases hcase with ⟨hm0, rfl, hww⟩ | ⟨cs', gc, rfl, ⟨hheap, hio⟩, hgc, hcs, hold, hnew⟩ | ⟨k, hk, hmp, hheap, hroom, hcs, rfl, rfl⟩
                ·
                  have hww' := hww.symm
                  subst hww'
                  have hos : OwnAt M (ρ.set d (ρ d)) w d (appendObj (o.forget [d]) n (src.forget [d])) := by
                    cases hp : ρ d with
                    | none =>
                      have hn0 : n = 0 := by
                        rcases hcap with ⟨h0, _⟩ | ⟨p, h0, _⟩
                        · exact h0
                        · rw [hp] at h0; cases h0
                      have hl0 : (appendObj (o.forget [d]) n (src.forget [d])).len = 0 := by rw [m2, Src.forget_len, hn0, hm0]
                      generalize appendObj (o.forget [d]) n (src.forget [d]) = oo at *
                      cases oo with
                      | vec _ _ rows => exact .inl ⟨by rw [Env.set_self], by simpa [SObj.len] using hl0⟩
                      | tvec _ _ l2 => exact .inl ⟨by rw [Env.set_self], by simpa [SObj.len, rowsPV] using hl0⟩
                      | mix _ _ rows => exact .inl ⟨by rw [Env.set_self], by simpa [SObj.len] using hl0⟩
                      | map _ _ => simp [SObj.sz?] at m1
                      | tmap _ _ _ => simp [SObj.sz?] at m1
                      | iter _ _ => simp [SObj.sz?] at m1
                      | loop _ => simp [SObj.sz?] at m1
                      | over _ _ => simp [SObj.sz?] at m1
                      | dfr _ => simp [SObj.sz?] at m1
                      | dead => simp [SObj.sz?] at m1
                    | some p =>
                      obtain ⟨cs0, b1, b2, b3, b4, b5⟩ := old p hp
                      refine append_own (p' := p) (e := e) hz' hn' (f3.trans hty) (Env.set_self ..) b1 b2 (by rw [Src.forget_len, hm0]; exact b3) b4 (fun k hk => by rw [Src.forget_len, hm0] at hk; omega) hl' hone (b5 _) (srcs _)
                  obtain ⟨g1, g2⟩ := hm.redo (q := ρ d) ho hlive hlv' (fun b hb _ => rfl) (Nat.le_refl _) (fun p' hp' => .inr ⟨p', hp', rfl⟩) hos
                  refine ⟨_, _, hr, _, _, [d], [d], M, _, h, ?_, g1, g2⟩
                  rw [hm0, Nat.add_zero]
                  rcases hcap with ⟨h0, h0'⟩ | ⟨p, hp, rfl, hcp, _⟩
                  · rw [h0, h0']; exact .slz _ _ _ _
                  · exact .sl _ _ 0 n c 0 p (by rw [Env.set_self, hp]) (by simp) (by simpa using hcp) hnc
                ·
                  have hos : OwnAt M (ρ.set d (some ⟨w.heap.size, cs'.size⟩)) w' d (appendObj (o.forget [d]) n (src.forget [d])) := by
                    refine append_own (p' := ⟨w.heap.size, cs'.size⟩) (e := e) hz' hn' (f3.trans hty) (Env.set_self ..) (by rw [hheap]; simp) (Nat.le_refl _) (by rw [Src.forget_len]; exact Nat.le_trans (Nat.mul_le_mul_right _ hgc) hcs)
                      (fun r j hr hj => ?_) (by rw [Src.forget_len]; exact hnew) hl' hone (fun r j x hr hx => ?_) (srcs _)
                    · rcases hcap with ⟨h0, _⟩ | ⟨p, hp, _, _, hcs0⟩
                      · omega
                      · obtain ⟨cs0, b1, b2, b3, b4, b5⟩ := old p hp
                        rw [hcs0] at b1; cases b1
                        rw [hold _ (flat_lt hj hr)]; exact b4 r j hr hj
                    · rcases hcap with ⟨h0, _⟩ | ⟨p, hp, _, _, hcs0⟩
                      · omega
                      · obtain ⟨cs0, b1, b2, b3, b4, b5⟩ := old p hp
                        rw [hcs0] at b1; cases b1
                        obtain ⟨c1, c2⟩ := b5 (some ⟨w.heap.size, cs'.size⟩) r j x hr hx
                        exact ⟨c1, fun v hv => c2 v (by rw [hold _ (flat_lt c1 hr)] at hv; exact hv)⟩
                  obtain ⟨g1, g2⟩ := hm.redo (q := some ⟨w.heap.size, cs'.size⟩) (w' := w') ho hlive hlv' (fun b hb _ => by rw [hheap, Array.getElem?_push]; simp [Nat.ne_of_lt hb]) (by rw [hheap]; simp) (fun p' hp' => by cases hp'; exact .inl (Nat.le_refl _)) hos hio
                  refine ⟨_, _, hr, _, _, [d], [d], M, _, h, ?_, g1, g2⟩
                  exact .sl _ _ 0 _ gc 0 ⟨w.heap.size, cs'.size⟩ (Env.set_self ..) (by simp) (by simpa using hcs) hgc
                ·
                  obtain ⟨p, hp, hbase, hcp, hcs0⟩ : ∃ p, ρ d = some p ∧ k = p.block ∧ c * i.size ≤ p.cap ∧ w.heap[p.block]? = some (.cells cs e (0, 0)) := by
                    rcases hcap with ⟨h0, h0'⟩ | ⟨p, hp, hb, hcp, hcs0⟩
                    · omega
                    · rw [hk] at hb; cases hb; exact ⟨p, hp, rfl, hcp, hcs0⟩
                  subst hbase
                  have hnc' : n * i.size + news.length ≤ cs.size := by rw [hl, ← Nat.add_mul]; exact Nat.le_trans (Nat.mul_le_mul_right _ hroom) hcs
                  generalize hcs' : (cs.toList.take (n * i.size) ++ news ++ cs.toList.drop (n * i.size + news.length)).toArray = cs' at *
                  have hget : ∀ m : Nat, cs'[m]? = if m < n * i.size then cs[m]? else if m < n * i.size + news.length then news[m - n * i.size]? else cs[m]? := fun m => by
                    rw [← hcs', List.getElem?_toArray, splice_get _ _ _ _ (by simpa using hnc')]
                    simp only [Array.getElem?_toList]
                  have hsize : cs'.size = cs.size := by rw [← hcs']; simp; omega
                  have hheap' : (w.setRow p.block cs').heap[p.block]? = some (.cells cs' e (0, 0)) := setRow_heap w p.block cs cs' e (0, 0) hcs0
                  obtain ⟨cs0, b1, b2, b3, b4, b5⟩ := old p hp
                  rw [hcs0] at b1; cases b1
                  have hos : OwnAt M (ρ.set d (some p)) (w.setRow p.block cs') d (appendObj (o.forget [d]) n (src.forget [d])) := by
                    refine append_own (p' := p) (e := e) hz' hn' (f3.trans hty) (Env.set_self ..) hheap' (by rw [hsize]; exact b2) (by rw [Src.forget_len]; exact Nat.le_trans (Nat.mul_le_mul_right _ hroom) hcp)
                      (fun r j hr hj => ?_) (fun k hk => ?_) hl' hone (fun r j x hr hx => ?_) (srcs _)
                    · rw [hget, if_pos (flat_lt hj hr)]; exact b4 r j hr hj
                    · rw [Src.forget_len, ← hl] at hk
                      rw [hget, if_neg (by omega), if_pos (by omega)]; congr 1; omega
                    · obtain ⟨c1, c2⟩ := b5 (some p) r j x hr hx
                      exact ⟨c1, fun v hv => c2 v (by rw [hget, if_pos (flat_lt c1 hr)] at hv; exact hv)⟩
                  obtain ⟨g1, g2⟩ := hm.redo (q := some p) (w' := w.setRow p.block cs') ho hlive hlv' (fun b hb hbp => setRow_ne (hbp p hp)) (by rw [setRow_size]; exact Nat.le_refl _) (fun p' hp' => by cases hp'; exact .inr ⟨p, hp, rfl⟩) hos
                  refine ⟨_, _, hr, _, _, [d], [d], M, _, h, ?_, g1, g2⟩
                  exact .sl _ _ 0 _ c 0 p (Env.set_self ..) (by simp) (by simpa using hcp) hroom
              · exact h.elim
          · exact h.elim
  · exact h.elim
theorem Mem.plain {M : Imm} {ρ : Env} {H : List SObj} {w : World} : Mem M ρ (H.map SObj.plain) w ↔ Mem M ρ H w := by
  have back : ∀ (s : Nat) (o : SObj), (H.map SObj.plain)[s]? = some o → ∃ x, H[s]? = some x ∧ o = x.plain := fun s o ho => by
    simp only [List.getElem?_map, Option.map_eq_some_iff] at ho
    obtain ⟨x, hx, rfl⟩ := ho; exact ⟨x, hx, rfl⟩
  have there : ∀ (s : Nat) (o : SObj), H[s]? = some o → (H.map SObj.plain)[s]? = some o.plain := fun s o ho => by simp [ho]
  constructor
  · intro h
    exact ⟨h.imm, fun s o ho => OwnAt.plain.1 (h.own s _ (there s o ho)), fun s o p ho hl hp => h.sep s _ p (there s o ho) (by rw [(plain_facts o).2.2.2.1]; exact hl) hp,
      fun s s' o o' p p' ho ho' hl hl' hp hp' hb => h.dis s s' _ _ p p' (there s o ho) (there s' o' ho') (by rw [(plain_facts o).2.2.2.1]; exact hl) (by rw [(plain_facts o').2.2.2.1]; exact hl') hp hp' hb,
      fun s hs => h.fresh s (by simpa using hs)⟩
  · intro h
    refine ⟨h.imm, fun s o ho => ?_, fun s o p ho hl hp => ?_, fun s s' o o' p p' ho ho' hl hl' hp hp' hb => ?_, fun s hs => h.fresh s (by simpa using hs)⟩
    · obtain ⟨x, hx, rfl⟩ := back s o ho; exact OwnAt.plain.2 (h.own s x hx)
    · obtain ⟨x, hx, rfl⟩ := back s o ho; rw [(plain_facts x).2.2.2.1] at hl; exact h.sep s x p hx hl hp
    · obtain ⟨x, hx, rfl⟩ := back s o ho; obtain ⟨y, hy, rfl⟩ := back s' o' ho'
      rw [(plain_facts x).2.2.2.1] at hl; rw [(plain_facts y).2.2.2.1] at hl'
      exact h.dis s s' x y p p' hx hy hl hl' hp hp' hb
theorem Owned.plain {ρ : Env} {H : List SObj} {b : Nat} : Owned ρ (H.map SObj.plain) b ↔ Owned ρ H b := by
  constructor
  · rintro ⟨s, o, p, h1, h2, h3, h4⟩
    simp only [List.getElem?_map, Option.map_eq_some_iff] at h1
    obtain ⟨x, hx, rfl⟩ := h1
    rw [(plain_facts x).2.2.2.1] at h2
    exact ⟨s, x, p, hx, h2, h3, h4⟩
  · rintro ⟨s, o, p, h1, h2, h3, h4⟩
    exact ⟨s, o.plain, p, by simp [h1], by rw [(plain_facts o).2.2.2.1]; exact h2, h3, h4⟩
theorem Fr.plain {M M' : Imm} {ρ ρ' : Env} {H H' : List SObj} {w w' : World} {n : Nat} {t f : List Nat} (h : Fr M ρ (H.map SObj.plain) w M' ρ' (H'.map SObj.plain) w' n t f) : Fr M ρ H w M' ρ' H' w' n t f := by
  refine ⟨h.imm, fun b o a c => (h.new b o a c).imp id Owned.plain.1, fun b hb => (h.own b (Owned.plain.2 hb)).imp id Owned.plain.1, fun b hb hn => h.same b hb (fun hh => hn (Owned.plain.1 hh)), h.grow, fun s o hs hx ho hl => ?_, h.stay, h.io⟩
  obtain ⟨⟨o', h1, h2⟩, h3⟩ := h.keep s o.plain hs hx (by simp [ho]) (by rw [(plain_facts o).2.2.2.1]; exact hl)
  simp only [List.getElem?_map, Option.map_eq_some_iff] at h1
  obtain ⟨x, hx', rfl⟩ := h1
  rw [(plain_facts x).2.2.2.1] at h2
  exact ⟨⟨x, hx', h2⟩, h3⟩
theorem plain_idem (H : List SObj) : (H.map SObj.plain).map SObj.plain = H.map SObj.plain := by
  rw [List.map_map]; exact List.map_congr_left fun o _ => plain_plain o
theorem DoesV.plain {P : Program} {S : Sem Value} {M : Imm} {ρ : Env} {H : List SObj} {w : World} {K : Post} (h : DoesV P S M ρ (H.map SObj.plain) w fun x H1 t f => ∃ H', H1.map SObj.plain = H'.map SObj.plain ∧ K x H' t f) : DoesV P S M ρ H w K := by
  obtain ⟨v, w', hr, x, H1, t, f, M', ρ', ⟨H', e, hk⟩, hs, hm, hf⟩ := h
  refine ⟨v, w', hr, x, H', t, f, M', ρ', hk, hs, ?_, ?_⟩
  · rw [← Mem.plain, ← e, Mem.plain]; exact hm
  · rw [List.length_map] at hf
    refine Fr.plain ?_
    rw [← e]
    have h2 : Fr M ρ (H.map SObj.plain) w M' ρ' ((H1.map SObj.plain)) w' H.length t f := by
      refine ⟨hf.imm, hf.new, fun b hb => hf.own b (Owned.plain.1 hb), hf.same, hf.grow, fun s o hs hx ho hl => ?_, hf.stay, hf.io⟩
      obtain ⟨⟨o', h1, h2⟩, h3⟩ := hf.keep s o hs hx ho hl
      exact ⟨⟨o'.plain, by simp [h1], by rw [(plain_facts o').2.2.2.1]; exact h2⟩, h3⟩
    exact h2
def RowsOk (row : List Ty) (ps : List (List PV)) (l : List (Els row)) : Prop :=
  l.length = ps.length ∧ ∀ (i : Nat) (r' : List PV), (rowsPV row l)[i]? = some r' → ∃ r, ps[i]? = some r ∧ ∀ (j : Nat) (q : PV), r'[j]? = some q → ∃ p, r[j]? = some p ∧ ∀ (M : Imm) (v : Value), PRep M v p → PRep M v q
theorem RowsOk.refl (row : List Ty) (l : List (Els row)) : RowsOk row (rowsPV row l) l := ⟨by simp [rowsPV], fun i r' h => ⟨r', h, fun j q hq => ⟨q, hq, fun _ _ h => h⟩⟩⟩
theorem RowsOk.of {row : List Ty} {ps : List (List PV)} {l : List (Els row)} (h : mapO (ofRow row) ps = some l) : RowsOk row ps l := by
  obtain ⟨g1, g2⟩ := mapO_spec h
  refine ⟨g1, fun i r' hr => ?_⟩
  simp only [rowsPV, List.getElem?_map, Option.map_eq_some_iff] at hr
  obtain ⟨y, hy, rfl⟩ := hr
  obtain ⟨q, hq, hq2⟩ := g2 i y hy
  exact ⟨q, hq, (ofRow_sound hq2).2⟩
theorem RowsOk.append {row : List Ty} {ps : List (List PV)} {l : List (Els row)} (l0 : List (Els row)) (h : RowsOk row ps l) : RowsOk row (rowsPV row l0 ++ ps) (l0 ++ l) := by
  refine ⟨by simp [rowsPV, h.1], fun i r' hr => ?_⟩
  simp only [rowsPV, List.map_append] at hr ⊢
  rw [List.getElem?_append] at hr ⊢
  split at hr
  · rename_i hlt
    rw [if_pos hlt]
    exact ⟨r', hr, fun j q hq => ⟨q, hq, fun _ _ h => h⟩⟩
  · rename_i hlt
    rw [if_neg hlt]
    exact h.2 _ r' hr
def srcRows (H : List SObj) (row : List Ty) (x : SV) : Option (Bool × List (Els row)) :=
  match x with
  | .pv (.tsl row' l) => (castRows row' row l).map fun l => (true, l)
  | .pv (.rsl sz rows) => if sz = row.length then (mapO (ofRow row) rows).map fun l => (true, l) else none
  | .pv (.lit v) => if Value.isNil v = true then some (true, []) else none
  | .sl s sz st len => if sz = row.length then match H[s]? with
      | some (.tvec _ row' l) => (castRows row' row l).map fun l => (decide (st + len ≤ l.length), (l.drop st).take len)
      | some (.vec _ so rows) => if so = row.length ∧ st + len ≤ rows.length then (mapO (ofRow row) ((rows.drop st).take len)).map fun l => (true, l) else none
      | _ => none
    else none
  | _ => none
theorem srcRows_sound {H : List SObj} {row : List Ty} {x : SV} {l : List (Els row)} {c : Bool} (h : srcRows H row x = some (c, l)) (hc : c = true) : ∃ ps, srcOf (H.map SObj.plain) row.length x.untyped = some (.pure ps) ∧ RowsOk row ps l := by
  unfold srcRows at h
  split at h
  · rename_i row' l0
    simp only [Option.map_eq_some_iff, Prod.mk.injEq] at h
    obtain ⟨l1, h1, _, rfl⟩ := h
    obtain ⟨e, rfl⟩ := castRows_eq h1
    subst e
    exact ⟨rowsPV row' l0, by simp [SV.untyped, srcOf], RowsOk.refl _ _⟩
  · rename_i sz rows
    split at h
    · rename_i e
      simp only [Option.map_eq_some_iff, Prod.mk.injEq] at h
      obtain ⟨l1, h1, _, rfl⟩ := h
      exact ⟨rows, by simp [SV.untyped, srcOf, e], RowsOk.of h1⟩
    · cases h
  · rename_i v
    split at h
    · rename_i hn
      cases h
      unfold Value.isNil at hn
      split at hn
      · simp only [Bool.and_eq_true] at hn
        cases Nat.eq_of_beq_eq_true hn.1; cases Nat.eq_of_beq_eq_true hn.2
        exact ⟨[], by simp [SV.untyped, srcOf], RowsOk.refl row []⟩
      · cases hn
    · cases h
  · rename_i s sz st len
    split at h
    · rename_i e
      split at h
      · rename_i ty row' l0 hs
        simp only [Option.map_eq_some_iff, Prod.mk.injEq] at h
        obtain ⟨l1, h1, hcc, rfl⟩ := h
        obtain ⟨e2, rfl⟩ := castRows_eq h1
        subst e2
        rw [← hcc] at hc
        have hle : st + len ≤ l0.length := of_decide_eq_true hc
        refine ⟨((rowsPV row' l0).drop st).take len, ?_, ?_⟩
        · simp [SV.untyped, srcOf, e, hs, SObj.plain, rowsPV, hle]
        · have : rowsPV row' ((l0.drop st).take len) = ((rowsPV row' l0).drop st).take len := by simp [rowsPV, List.map_take, List.map_drop]
          rw [← this]; exact RowsOk.refl _ _
      · rename_i ty so rows hs
        split at h
        · rename_i hcond
          simp only [Option.map_eq_some_iff, Prod.mk.injEq] at h
          obtain ⟨l1, h1, _, rfl⟩ := h
          refine ⟨(rows.drop st).take len, ?_, RowsOk.of h1⟩
          simp [SV.untyped, srcOf, e, hs, SObj.plain, hcond]
        · cases h
      · cases h
    · cases h
  · cases h
theorem RowsOk.app {row : List Ty} {ps0 ps : List (List PV)} {l0 l : List (Els row)} (h0 : RowsOk row ps0 l0) (h : RowsOk row ps l) : RowsOk row (ps0 ++ ps) (l0 ++ l) := by
  refine ⟨by simp [h0.1, h.1], fun i r' hr => ?_⟩
  simp only [rowsPV, List.map_append] at hr
  rw [List.getElem?_append] at hr ⊢
  rw [List.length_map, h0.1] at hr
  split at hr
  · rename_i hlt
    rw [if_pos hlt]
    exact h0.2 i r' hr
  · rename_i hlt
    rw [if_neg hlt]
    exact h.2 _ r' hr
def isTyped (H : List SObj) : SV → Bool
  | .pv (.tsl _ _) => true
  | .sl s _ _ _ => match H[s]? with
    | some (.tvec _ _ _) => true
    | _ => false
  | _ => false
def sAppend (tab : Tab) (H : List SObj) (t t' : Nat) (a x : SV) : Res :=
  match a with
  | .pv (.lit (.slice none 0 0)) => match tab.lookup t with
    | some { desc := .slice e, .. } => match tab.lookup e with
      | none => .fail
      | some i => match i.row with
        | none => sAppend0 tab H t t' a x
        | some row => if t' ≠ t ∨ i.size = 0 ∨ row.length ≠ i.size then .fail else match srcRows H row x with
          | none => sAppend0 tab H t t' a x
          | some (c, l) => .need c <| .need (decide (l.length * i.bytes ≤ 140737488355328)) <| .need (decide (l.length ≤ 9223372036854775807)) <|
              .eff (.sl H.length i.size 0 l.length) (H ++ [.tvec e row l]) [] []
    | _ => .fail
  | .sl d sz st n => match H[d]? with
    | some (.tvec ty row l) => match tab.lookup t with
      | some { desc := .slice e, .. } => match tab.lookup e with
        | none => .fail
        | some i => if t' ≠ t ∨ i.size = 0 ∨ row.length ≠ i.size ∨ sz ≠ i.size ∨ ty ≠ e ∨ st ≠ 0 then .fail else match srcRows H row x with
          | none => .fail
          | some (c, l') => .need c <| .need (decide (n = l.length)) <| .need (decide ((l ++ l').length * i.bytes ≤ 140737488355328)) <| .need (decide ((l ++ l').length ≤ 9223372036854775807)) <|
              .eff (.sl d i.size 0 (l ++ l').length) ((H.map (SObj.forget [d])).set d (.tvec ty row (l ++ l'))) [d] [d]
      | _ => .fail
    | some (.vec ty so rows0) => match isTyped H x with
      | false => sAppend0 tab H t t' a x
      | true => match tab.lookup t with
        | some { desc := .slice e, .. } => match tab.lookup e with
          | none => .fail
          | some i => match i.row with
            | none => .fail
            | some row => if t' ≠ t ∨ i.size = 0 ∨ row.length ≠ i.size ∨ sz ≠ i.size ∨ ty ≠ e ∨ st ≠ 0 ∨ so ≠ i.size then .fail else match srcRows H row x with
              | none => .fail
              | some (c, l') => match mapO (ofRow row) rows0 with
                | none => .fail
                | some l => .need c <| .need (decide (n = rows0.length)) <| .need (decide ((l ++ l').length * i.bytes ≤ 140737488355328)) <| .need (decide ((l ++ l').length ≤ 9223372036854775807)) <|
                  .eff (.sl d i.size 0 (l ++ l').length) ((H.map (SObj.forget [d])).set d (.tvec ty row (l ++ l'))) [d] [d]
        | _ => .fail
    | _ => sAppend0 tab H t t' a x
  | _ => sAppend0 tab H t t' a x
theorem map_set_plain (H : List SObj) (d : Nat) (o : SObj) : (H.set d o).map SObj.plain = (H.map SObj.plain).set d o.plain := by rw [List.map_set]
theorem sAppend_sound {P : Program} {tab : Tab} (htab : TabOk P tab) {M : Imm} {ρ : Env} {H : List SObj} {w : World} {K : Post} (hm : Mem M ρ H w) {t t' ty : Nat} {a x : SV} {v u : Value} (ha : SRep M ρ v a) (hx : SRep M ρ u x)
    (h : (sAppend tab H t t' a x).holds H K) : DoesV P (Builtin.append_ #[t, t'] ty #[v, u]) M ρ H w K := by
  unfold sAppend at h
  split at h
  · split at h
    · rename_i e sz' by' zr rw' hte
      split at h
      · exact h.elim
      · rename_i i hi
        split at h
        · exact sAppend0_sound htab hm ha hx h
        · rename_i row hrow
          split at h
          · exact h.elim
          · rename_i hcond
            split at h
            · exact sAppend0_sound htab hm ha hx h
            · rename_i c l hsrc
              obtain ⟨hc, hb, h63, h⟩ := h
              have hcond' : t' = t ∧ i.size ≠ 0 ∧ row.length = i.size := by
                simp only [not_or, Decidable.not_not] at hcond; exact hcond
              obtain ⟨rfl, hz, hlen⟩ := hcond'
              obtain ⟨ps, hps, hok⟩ := srcRows_sound hsrc hc
              refine DoesV.plain (DoesV.described (sAppend0_sound htab (Mem.plain.2 hm) ha hx.untyped ?_))
              unfold sAppend0
              have hneg : ¬ (t' ≠ t' ∨ i.size = 0) := by simp [hz]
              rw [hlen] at hps
              simp only [hte, hi, if_neg hneg, hps]
              refine ⟨rfl, by simpa [Src.len, ← hok.1] using hb, by simpa [Src.len, ← hok.1] using h63, ?_⟩
              have e1 : appendObj (.vec e i.size []) 0 (.pure ps) = .vec e row.length ps := by simp [appendObj, SObj.plain, hlen]
              rw [e1]
              have e2 : (Src.pure ps).len = l.length := by simp [Src.len, hok.1]
              rw [e2]
              refine described_last (K := fun y H1 => ∃ H', H1.map SObj.plain = H'.map SObj.plain ∧ K y H' [] []) hok.1 hok.2 ⟨H ++ [.tvec e row l], ?_, (by rw [List.length_map]; exact h)⟩
              simp only [List.map_append, plain_idem]
    · exact h.elim
  · rename_i d sz st n
    split at h
    · rename_i oty row l hd
      split at h
      · rename_i e sz' by' zr rw' hte
        split at h
        · exact h.elim
        · rename_i i hi
          split at h
          · exact h.elim
          · rename_i hcond
            split at h
            · exact h.elim
            · rename_i c l' hsrc
              obtain ⟨hc, hn, hb, h63, h⟩ := h
              have hn := of_decide_eq_true hn
              subst hn
              have hcond' : t' = t ∧ i.size ≠ 0 ∧ row.length = i.size ∧ sz = i.size ∧ oty = e ∧ st = 0 := by
                simp only [not_or, Decidable.not_not] at hcond; exact hcond
              obtain ⟨rfl, hz, hlen, rfl, rfl, rfl⟩ := hcond'
              obtain ⟨ps, hps, hok⟩ := srcRows_sound hsrc hc
              refine DoesV.plain (DoesV.described (sAppend0_sound htab (Mem.plain.2 hm) ha hx.untyped ?_))
              unfold sAppend0
              have hneg : ¬ (t' ≠ t' ∨ i.size = 0) := by simp [hz]
              rw [hlen] at hps
              have hd' : (H.map SObj.plain)[d]? = some (.vec oty row.length (rowsPV row l)) := by simp [hd, SObj.plain]
              simp only [hte, hi, if_neg hneg, hps, hd']
              rw [if_pos (by simp [SObj.sz?, SObj.ty, hlen])]
              have e2 : l.length + (Src.pure ps).len = (l ++ l').length := by simp [Src.len, hok.1]
              rw [e2]
              refine ⟨by simp [SObj.len, rowsPV], hb, h63, ?_⟩
              have e1 : appendObj ((SObj.vec oty row.length (rowsPV row l)).forget [d]) l.length ((Src.pure ps).forget [d]) = .vec oty row.length (rowsPV row l ++ ps) := by
                simp [appendObj, SObj.plain, SObj.forget, Src.forget, rowsPV]
              rw [e1]
              have hdl : d < H.length := (List.getElem?_eq_some_iff.1 hd).1
              refine ⟨_, fun _ _ _ h => h, .inr ⟨d, .vec oty row.length (rowsPV row l ++ ps), .tvec oty row (l ++ l'), by simp [hdl], rfl, fun M ρ w hh => (hh.retype (hok.append l).1 (hok.append l).2), ?_⟩⟩
              refine ⟨_, ?_, h⟩
              rw [List.set_set, map_set_plain, map_set_plain]
              congr 1
              simp only [List.map_map]
              refine List.map_congr_left fun o _ => ?_
              simp only [Function.comp, (plain_facts o).2.2.2.2.2, plain_plain]
      · exact h.elim
    · rename_i oty so rows0 hd
      split at h
      · exact sAppend0_sound htab hm ha hx h
      split at h
      · rename_i e sz' by' zr rw' hte
        split at h
        · exact h.elim
        · rename_i i hi
          split at h
          · exact h.elim
          · rename_i row hrow
            split at h
            · exact h.elim
            · rename_i hcond
              split at h
              · exact h.elim
              · rename_i c l' hsrc
                split at h
                · exact h.elim
                · rename_i l hl
                  obtain ⟨hc, hn, hb, h63, h⟩ := h
                  have hn := of_decide_eq_true hn
                  subst hn
                  have hcond' : t' = t ∧ i.size ≠ 0 ∧ row.length = i.size ∧ sz = i.size ∧ oty = e ∧ st = 0 ∧ so = i.size := by
                    simp only [not_or, Decidable.not_not] at hcond; exact hcond
                  obtain ⟨rfl, hz, hlen, rfl, rfl, rfl, rfl⟩ := hcond'
                  obtain ⟨ps, hps, hok⟩ := srcRows_sound hsrc hc
                  have hok0 := RowsOk.of hl
                  refine DoesV.plain (DoesV.described (sAppend0_sound htab (Mem.plain.2 hm) ha hx.untyped ?_))
                  unfold sAppend0
                  have hneg : ¬ (t' ≠ t' ∨ i.size = 0) := by simp [hz]
                  rw [hlen] at hps
                  have hd' : (H.map SObj.plain)[d]? = some (.vec oty i.size rows0) := by simp [hd, SObj.plain]
                  simp only [hte, hi, if_neg hneg, hps, hd']
                  rw [if_pos (by simp [SObj.sz?, SObj.ty])]
                  have e2 : rows0.length + (Src.pure ps).len = (l ++ l').length := by simp [Src.len, hok.1, hok0.1]
                  rw [e2]
                  refine ⟨by simp [SObj.len], hb, h63, ?_⟩
                  have e1 : appendObj ((SObj.vec oty i.size rows0).forget [d]) rows0.length ((Src.pure ps).forget [d]) = .vec oty row.length (rows0 ++ ps) := by
                    simp [appendObj, SObj.plain, SObj.forget, Src.forget, hlen]
                  rw [e1]
                  have hdl : d < H.length := (List.getElem?_eq_some_iff.1 hd).1
                  refine ⟨_, fun _ _ _ h => h, .inr ⟨d, .vec oty row.length (rows0 ++ ps), .tvec oty row (l ++ l'), by simp [hdl], rfl, fun M ρ w hh => (hh.retype (hok0.app hok).1 (hok0.app hok).2), ?_⟩⟩
                  refine ⟨_, ?_, h⟩
                  rw [List.set_set, map_set_plain, map_set_plain]
                  congr 1
                  simp only [List.map_map]
                  refine List.map_congr_left fun o _ => ?_
                  simp only [Function.comp, (plain_facts o).2.2.2.2.2, plain_plain]
      · exact h.elim
    · exact sAppend0_sound htab hm ha hx h
  · exact sAppend0_sound htab hm ha hx h
end Go.Sx
end

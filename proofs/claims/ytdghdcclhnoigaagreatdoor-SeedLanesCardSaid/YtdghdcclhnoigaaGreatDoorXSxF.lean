/- Part F of the own logic: what lays new memory. -/
import Derived.Test.YtdghdcclhnoigaaGreatDoorXSxE
import Derived.Great.BuildSlice
import Derived.Laws.MakeOwn
import Derived.Lib.AppendZeros
set_option linter.unusedVariables false
set_option linter.unusedSimpArgs false
namespace Go.Sx
open Go
def allPures : List (List SV) → Option (List (List PV))
  | [] => some []
  | r :: rs => match pures r, allPures rs with
    | some p, some ps => some (p :: ps)
    | _, _ => none
theorem allPures_eq : ∀ {l : List (List SV)} {ps : List (List PV)}, allPures l = some ps → l = ps.map (·.map .pv)
  | [], ps, h => by simp [allPures] at h; subst h; rfl
  | x :: l, ps, h => by
    simp only [allPures] at h
    split at h
    · rename_i p q h1 h2; cases h; simp [pures_eq h1, allPures_eq h2]
    · cases h
def mkObj (ty sz : Nat) (rows : List (List SV)) : SObj :=
  match allPures rows with
  | some ps => .vec ty sz ps
  | none => .mix ty sz rows
theorem mkObj_facts (ty sz : Nat) (rows : List (List SV)) : (mkObj ty sz rows).sz? = some sz ∧ (mkObj ty sz rows).len = rows.length ∧ (mkObj ty sz rows).ty = ty ∧ ∀ i, (mkObj ty sz rows).row i = rows.getD i [] := by
  unfold mkObj
  split
  · rename_i ps h
    have e := allPures_eq h
    subst e
    refine ⟨rfl, by simp [SObj.len], rfl, fun i => ?_⟩
    simp only [SObj.row, List.getD, List.getElem?_map]
    cases ps[i]? <;> simp
  · exact ⟨rfl, rfl, rfl, fun i => rfl⟩
theorem does_new {P : Program} {S : Sem Value} {M : Imm} {ρ : Env} {H : List SObj} {w w' : World} {K : Post} {v : Value} {x : SV} {cs : Array Value} {ty : TypeId} {o : SObj} {sz : Nat}
    (hm : Mem M ρ H w) (hr : S.run P w = .ok v w') (hw : w'.heap = w.heap.push (.cells cs ty (0, 0))) (hz : o.sz? = some sz) (hty : o.ty = ty) (hl : o.len * sz ≤ cs.size)
    (h4 : ∀ i j, i < o.len → j < sz → ∃ v, cs[i * sz + j]? = some v ∧ isCell v = true)
    (h5 : ∀ i j x, i < o.len → (o.row i)[j]? = some x → j < sz ∧ ∀ v, cs[i * sz + j]? = some v → SRep M ρ v x)
    (hx : ∀ ρ' : Env, ρ'  H.length = some ⟨w.heap.size, cs.size⟩ → SRep M ρ' v x) (hk : K x (H ++ [o]) [] []) (io : w'.os = w.os ∧ w'.output = w.output := by exact ⟨rfl, rfl⟩) : DoesV P S M ρ H w K := by
  have hle : ρ.le (ρ.set H.length (some ⟨w.heap.size, cs.size⟩)) := fun s p hp => by
    by_cases e : s = H.length
    · subst e; rw [hm.fresh _ (Nat.le_refl _)] at hp; cases hp
    · rw [Env.set_ne _ _ e]; exact hp
  have hheap : w'.heap[w.heap.size]? = some (.cells cs ty (0, 0)) := by rw [hw]; simp
  have ho : OwnAt M (ρ.set H.length (some ⟨w.heap.size, cs.size⟩)) w' H.length o := by
    refine RowOf.ownAt (p := ⟨w.heap.size, cs.size⟩) hz (Env.set_self ..) (fun ty' sz' rows e => ?_) (fun ty' sz' rows e => ?_) (fun ty' row l2 e => ?_) hheap (Nat.le_refl _) hl h4 (fun i j x hi hj => ?_)
    · rw [e] at hty; exact hty
    · rw [e] at hty; exact hty
    · rw [e] at hty; exact hty
    · obtain ⟨a, b⟩ := h5 i j x hi hj
      exact ⟨a, fun v hv => (b v hv).mono M.le_refl hle⟩
  obtain ⟨g1, g2⟩ := hm.alloc hw ho io
  exact ⟨v, w', hr, x, _, [], [], M, _, hk, hx _ (Env.set_self ..), g1, g2⟩
theorem OwnAt.retype {M : Imm} {ρ : Env} {w : World} {s ty : Nat} {row : List Ty} {rows : List (List PV)} {l : List (Els row)} (hl : l.length = rows.length)
    (hc : ∀ (i : Nat) (r' : List PV), (rowsPV row l)[i]? = some r' → ∃ r, rows[i]? = some r ∧ ∀ (j : Nat) (q : PV), r'[j]? = some q → ∃ p, r[j]? = some p ∧ ∀ (M : Imm) (v : Value), PRep M v p → PRep M v q)
    (h : OwnAt M ρ w s (.vec ty row.length rows)) : OwnAt M ρ w s (.tvec ty row l) := by
  have hlen : (rowsPV row l).length = rows.length := by simp [rowsPV, hl]
  rcases h with ⟨h1, h2⟩ | ⟨p, h1, h2⟩
  · exact .inl ⟨h1, List.eq_nil_of_length_eq_zero (by rw [hlen, h2]; rfl)⟩
  · refine .inr ⟨p, h1, ?_⟩
    obtain ⟨cs, a1, a2, a3, a4, a5, a6⟩ := h2.ex
    have key : ∀ i j x, vcell (rowsPV row l) i j = some x → ∃ y, vcell rows i j = some y ∧ ∀ M ρ v, SRep M ρ v y → SRep M ρ v x := fun i j x hx => by
      unfold vcell at hx
      simp only [Option.map_eq_some_iff, Option.bind_eq_some_iff] at hx
      obtain ⟨q, ⟨r', hr', hq⟩, rfl⟩ := hx
      obtain ⟨r, g1, g2⟩ := hc i r' hr'
      obtain ⟨p, g3, g4⟩ := g2 j q hq
      refine ⟨.pv p, by simp [vcell, g1, g3], fun M ρ v h => ?_⟩
      cases h with
      | pv h => exact .pv (g4 M v h)
    refine ⟨cs, a1, a2, by rw [hlen]; exact a3, by rw [hlen]; exact a4, fun i j x v hx hv => ?_, fun i j x hx => ?_⟩
    · obtain ⟨y, hy, himp⟩ := key i j x hx
      obtain ⟨b1, b2, b3⟩ := a5 i j y v hy hv
      exact ⟨by rw [hlen]; exact b1, b2, himp _ _ _ b3⟩
    · obtain ⟨y, hy, _⟩ := key i j x hx
      rw [hlen]; exact a6 i j y hy
theorem Mem.described {M : Imm} {ρ : Env} {H : List SObj} {w : World} {s : Nat} {o o' : SObj} (h : Mem M ρ H w) (hs : H[s]? = some o) (hl : o'.live = o.live) (ho : OwnAt M ρ w s o → OwnAt M ρ w s o') : Mem M ρ (H.set s o') w := by
  have sub : ∀ (t : Nat) (x : SObj), (H.set s o')[t]? = some x → ∃ y, H[t]? = some y ∧ x.live = y.live ∧ (OwnAt M ρ w t y → OwnAt M ρ w t x) := fun t x hx => by
    rw [List.getElem?_set] at hx
    split at hx
    · rename_i e; subst e
      split at hx
      · cases hx; exact ⟨o, hs, hl, ho⟩
      · cases hx
    · exact ⟨x, hx, rfl, id⟩
  refine ⟨h.imm, fun t x hx => ?_, fun t x p hx hlx hp => ?_, fun t t' x x' p p' hx hx' hlx hlx' hp hp' hb => ?_, fun t ht => h.fresh t (by simpa using ht)⟩
  · obtain ⟨y, hy, _, hi⟩ := sub t x hx; exact hi (h.own t y hy)
  · obtain ⟨y, hy, e, _⟩ := sub t x hx; rw [e] at hlx; exact h.sep t y p hy hlx hp
  · obtain ⟨y, hy, e, _⟩ := sub t x hx; obtain ⟨y', hy', e', _⟩ := sub t' x' hx'
    rw [e] at hlx; rw [e'] at hlx'; exact h.dis t t' y y' p p' hy hy' hlx hlx' hp hp' hb
theorem Fr.described {M M' : Imm} {ρ ρ' : Env} {H H' : List SObj} {w w' : World} {n s : Nat} {t f : List Nat} {o o' : SObj} (h : Fr M ρ H w M' ρ' H' w' n t f) (hs : H'[s]? = some o) (hl : o'.live = o.live) : Fr M ρ H w M' ρ' (H'.set s o') w' n t f := by
  refine ⟨h.imm, h.new, fun b hb => ?_, h.same, h.grow, fun x y hx hxt hy hly => ?_, h.stay, h.io⟩
  · obtain ⟨x, y, p, h1, h2, h3, h4⟩ := hb
    rw [List.getElem?_set] at h1
    split at h1
    · rename_i e; subst e
      split at h1
      · cases h1; exact h.own b ⟨s, o, p, hs, by rw [← hl]; exact h2, h3, h4⟩
      · cases h1
    · exact h.own b ⟨x, y, p, h1, h2, h3, h4⟩
  · obtain ⟨⟨z, h1, h2⟩, h3⟩ := h.keep x y hx hxt hy hly
    refine ⟨?_, h3⟩
    by_cases e : s = x
    · subst e
      rw [hs] at h1; cases h1
      exact ⟨o', by rw [List.getElem?_set]; simp [(List.getElem?_eq_some_iff.1 hs).1], by rw [hl]; exact h2⟩
    · exact ⟨z, by rw [List.getElem?_set, if_neg e]; exact h1, h2⟩
def Described (H' : List SObj) (x : SV) (K : SV → List SObj → Prop) : Prop :=
  ∃ y, (∀ M ρ v, SRep M ρ v x → SRep M ρ v y) ∧ (K y H' ∨ ∃ s o o', H'[s]? = some o ∧ o'.live = o.live ∧ (∀ M ρ w, OwnAt M ρ w s o → OwnAt M ρ w s o') ∧ K y (H'.set s o'))
theorem DoesV.described {P : Program} {S : Sem Value} {M : Imm} {ρ : Env} {H : List SObj} {w : World} {K : Post} (h : DoesV P S M ρ H w fun x H' t f => Described H' x fun y H' => K y H' t f) : DoesV P S M ρ H w K := by
  obtain ⟨v, w', hr, x, H', t, f, M', ρ', ⟨y, hy, hk⟩, hs, hm, hf⟩ := h
  rcases hk with hk | ⟨s, o, o', h1, h2, h3, hk⟩
  · exact ⟨v, w', hr, y, H', t, f, M', ρ', hk, hy _ _ _ hs, hm, hf⟩
  · exact ⟨v, w', hr, y, _, t, f, M', ρ', hk, hy _ _ _ hs, hm.described h1 h2 (h3 _ _ _), hf.described h1 h2⟩
theorem described_last {H : List SObj} {x : SV} {ty : Nat} {row : List Ty} {rows : List (List PV)} {l : List (Els row)} {K : SV → List SObj → Prop} (hl : l.length = rows.length)
    (hc : ∀ (i : Nat) (r' : List PV), (rowsPV row l)[i]? = some r' → ∃ r, rows[i]? = some r ∧ ∀ (j : Nat) (q : PV), r'[j]? = some q → ∃ p, r[j]? = some p ∧ ∀ (M : Imm) (v : Value), PRep M v p → PRep M v q)
    (hk : K x (H ++ [.tvec ty row l])) : Described (H ++ [.vec ty row.length rows]) x K :=
  ⟨x, fun _ _ _ h => h, .inr ⟨H.length, .vec ty row.length rows, .tvec ty row l, by simp, rfl, fun M ρ w h => h.retype hl hc, by simpa using hk⟩⟩
def sAlloc (tab : Tab) (H : List SObj) (t : Nat) : Res :=
  match tab.lookup t with
  | none => .fail
  | some i => .eff (.ptr H.length i.size 0 0) (H ++ [mkObj t i.size [i.zero.cells.toList.map SV.lit]]) [] []
theorem one_row {cs : Array Value} {l : List SV} {sz : Nat} {M : Imm} {ρ : Env} (h1 : cs.size = sz) (h2 : l.length = sz)
    (h3 : ∀ (i : Nat) (u : Value) (y : SV), cs[i]? = some u → l[i]? = some y → SRep M ρ u y) (i j : Nat) (x : SV) (hi : i < 1) (hx : (([l] : List (List SV)).getD i [])[j]? = some x) :
    j < sz ∧ ∀ v, cs[i * sz + j]? = some v → SRep M ρ v x := by
  obtain rfl : i = 0 := by omega
  simp [List.getD] at hx
  exact ⟨by have := (List.getElem?_eq_some_iff.1 hx).1; omega, fun v hv => h3 j v x (by simpa using hv) hx⟩
theorem sAlloc_sound {P : Program} {tab : Tab} (htab : TabOk P tab) {M : Imm} {ρ : Env} {H : List SObj} {w : World} {K : Post} (hm : Mem M ρ H w) {t : TypeId} {old : Value}
    (h : (sAlloc tab H t).holds H K) : DoesV P (Instr.alloc t true old) M ρ H w K := by
  unfold sAlloc at h
  split at h
  · exact h.elim
  · rename_i i hi
    have ht := htab.get hi
    obtain ⟨n, hn, h1, h2, h3⟩ := ht.inf
    obtain ⟨m1, m2, m3, m4⟩ := mkObj_facts t i.size [i.zero.cells.toList.map SV.lit]
    have hrun : (Instr.alloc t true old).run P w = .ok (.pointer (some ⟨w.heap.size, 0, none⟩)) (w.alloc (.cells i.zero.cells t)) := by
      simp [Instr.alloc, zeroValue, typeInfo, hn, h3, newVar, newRow]
    refine does_new hm hrun rfl m1 m3 (by rw [m2]; simp [ht.zsz]) (fun r c hr hc => ?_) (fun r c x hr hx => ?_) (fun ρ' hρ => .ptr _ _ 0 0 0 _ hρ (by simp)) h
    · rw [m2] at hr; simp at hr; subst hr
      have hc' : c < i.zero.cells.size := by rw [ht.zsz]; exact hc
      exact ⟨i.zero.cells[c], by simp [hc'], (Array.all_eq_true_iff_forall_mem.1 ht.zon) _ (by simp)⟩
    · rw [m2] at hr; rw [m4] at hx
      exact one_row ht.zsz (by simp [ht.zsz]) (fun k u y hu hy => by
        simp only [List.getElem?_map, Option.map_eq_some_iff] at hy
        obtain ⟨z, hz, rfl⟩ := hy
        rw [Array.getElem?_toList, hu] at hz; cases hz; exact .pv (.lit _)) r c x hr hx
def sBox (tab : Tab) (H : List SObj) (t : Nat) (x : SV) : Res :=
  match tab.lookup t with
  | none => .fail
  | some i => match x.parts i.size with
    | none => .fail
    | some l => .need (l.all SV.known) (.eff (.ptr H.length i.size 0 0) (H ++ [mkObj t i.size [l]]) [] [])
theorem known_all {M : Imm} {ρ : Env} {cs : Array Value} {l : List SV} (hk : l.all SV.known = true) (hl : cs.size = l.length)
    (h : ∀ (i : Nat) (u : Value) (y : SV), cs[i]? = some u → l[i]? = some y → SRep M ρ u y) (k : Nat) (v : Value) (hv : cs[k]? = some v) : v.oneCell' = true := by
  have hlt : k < l.length := by have := (Array.getElem?_eq_some_iff.1 hv).1; omega
  exact (h k v l[k] hv (by simp [hlt])).known (List.all_eq_true.1 hk _ (List.getElem_mem hlt))
theorem sBox_sound {P : Program} {tab : Tab} (htab : TabOk P tab) {M : Imm} {ρ : Env} {H : List SObj} {w : World} {K : Post} (hm : Mem M ρ H w) {t : TypeId} {v : Value} {x : SV} (hx : SRep M ρ v x)
    (h : (sBox tab H t x).holds H K) : DoesV P (Instr.box t v) M ρ H w K := by
  unfold sBox at h
  split at h
  · exact h.elim
  · rename_i i hi
    have ht := htab.get hi
    split at h
    · exact h.elim
    · rename_i l hl
      obtain ⟨hkn, h⟩ := h
      obtain ⟨q1, q2, q3⟩ := hx.parts hl
      obtain ⟨m1, m2, m3, m4⟩ := mkObj_facts t i.size [l]
      have hrun : (Instr.box t v).run P w = .ok (.pointer (some ⟨w.heap.size, 0, none⟩)) (w.alloc (.cells v.cells t)) := by
        simp [Instr.box, newVar, newRow]
      refine does_new hm hrun rfl m1 m3 (by rw [m2]; simp [q1]) (fun r c hr hc => ?_) (fun r c y hr hy => ?_) (fun ρ' hρ => .ptr _ _ 0 0 0 _ hρ (by simp)) h
      · rw [m2] at hr; simp at hr; subst hr
        have hc' : c < v.cells.size := by rw [q1]; exact hc
        exact ⟨v.cells[c], by simp [hc'], known_all hkn (q1.trans q2.symm) q3 c _ (by simp [hc'])⟩
      · rw [m2] at hr; rw [m4] at hy
        exact one_row q1 q2 q3 r c y hr hy
def splice {α : Type} (l v : List α) (f : Nat) : List α := l.take f ++ v ++ l.drop (f + v.length)
def sfill (place : Nat → Option (Nat × Nat)) : List SV → List (Nat × SV) → Option (List SV)
  | cells, [] => some cells
  | cells, (i, x) :: rest => match place i with
    | none => none
    | some (off, size) => match x.parts size with
      | none => none
      | some l => if (l.all SV.known) = true ∧ off + size ≤ cells.length then sfill place (splice cells l off) rest else none
structure RowRep (M : Imm) (ρ : Env) (cs : Array Value) (l : List SV) : Prop where
  sz : cs.size = l.length
  rep : ∀ (i : Nat) (u : Value) (y : SV), cs[i]? = some u → l[i]? = some y → SRep M ρ u y
  one : ∀ (i : Nat) (u : Value), cs[i]? = some u → u.oneCell' = true
theorem sfill_sound {M : Imm} {ρ : Env} {place : Nat → Option (Nat × Nat)} : ∀ {sp : List (Nat × SV)} {vp : List (Nat × Value)} {cs : Array Value} {sc sc' : List SV}, RowRep M ρ cs sc →
    vp.length = sp.length → (∀ (k : Nat) (a : Nat × Value) (b : Nat × SV), vp[k]? = some a → sp[k]? = some b → a.1 = b.1 ∧ SRep M ρ a.2 b.2) →
    sfill place sc sp = some sc' → ∃ cs', Instr.fill place cs vp = some cs' ∧ RowRep M ρ cs' sc'
  | [], [], cs, sc, sc', hr, _, _, h => by simp only [sfill, Option.some.injEq] at h; subst h; exact ⟨cs, rfl, hr⟩
  | [], _ :: _, _, _, _, _, hl, _, _ => by simp at hl
  | _ :: _, [], _, _, _, _, hl, _, _ => by simp at hl
  | (i, x) :: sp, (i', v) :: vp, cs, sc, sc', hr, hl, hp, h => by
    obtain ⟨e, hx⟩ := hp 0 _ _ rfl rfl
    simp only at e hx; subst e
    simp only [sfill] at h
    split at h
    · cases h
    · rename_i off size hpl
      split at h
      · cases h
      · rename_i l hlp
        split at h
        · rename_i hc
          obtain ⟨hkn, hfit⟩ := hc
          obtain ⟨q1, q2, q3⟩ := hx.parts hlp
          obtain ⟨f1, f2⟩ := Great.foldl_set off v.cells.toList 0 cs
          have hsz := hr.sz
          generalize hcs1 : (v.cells.toList.zipIdx 0).foldl (fun cs (x : Value × Nat) => cs.setIfInBounds (off + x.2) x.1) cs = cs1 at f1 f2
          have hget : ∀ k : Nat, cs1[k]? = if k < off then cs[k]? else if k < off + l.length then v.cells[k - off]? else cs[k]? := fun k => by
            rw [f2 k]
            simp only [Nat.add_zero, Array.length_toList, Array.getElem?_toList]
            by_cases h1 : k < off
            · rw [if_neg (by omega), if_pos h1]
            · by_cases h2 : k < off + l.length
              · rw [if_pos (by omega), if_neg h1, if_pos h2]
              · rw [if_neg (by omega), if_neg h1, if_neg h2]
          have hnew : RowRep M ρ cs1 (splice sc l off) := by
            refine ⟨?_, fun k u y hu hy => ?_, fun k u hu => ?_⟩
            · rw [f1, hsz]; simp [splice]; omega
            · rw [hget] at hu
              unfold splice at hy
              rw [splice_get _ _ _ _ (by omega)] at hy
              split at hu
              · rename_i h1; rw [if_pos h1] at hy; exact hr.rep k u y hu hy
              · rename_i h1; rw [if_neg h1] at hy
                split at hu
                · rename_i h2; rw [if_pos h2] at hy; exact q3 _ u y hu hy
                · rename_i h2; rw [if_neg h2] at hy; exact hr.rep k u y hu hy
            · rw [hget] at hu
              split at hu
              · exact hr.one k u hu
              · split at hu
                · exact known_all hkn (q1.trans q2.symm) q3 _ u hu
                · exact hr.one k u hu
          obtain ⟨cs', g1, g2⟩ := sfill_sound (sp := sp) (vp := vp) hnew (by simpa using hl) (fun k a b ha hb => hp (k + 1) a b (by simpa using ha) (by simpa using hb)) h
          refine ⟨cs', ?_, g2⟩
          simp only [Instr.fill, hpl]
          have hcond : (v.cells.size ≠ size || off + v.cells.size > cs.size) = false := by simp [q1]; omega
          rw [hcond]
          simp only [Bool.false_eq_true, if_false]
          have : v.cells.zipIdx.foldl (fun cs (x : Value × Nat) => match x with | (c, j) => cs.setIfInBounds (off + j) c) cs = cs1 := by
            rw [← hcs1, ← Array.foldl_toList]; simp
          rw [this]
          exact g1
        · cases h
def chunks (sz n : Nat) (l : List SV) : List (List SV) := (List.range n).map fun i => (l.drop (i * sz)).take sz
def sBuildSlice (tab : Tab) (H : List SObj) (t : Nat) (len : Nat) (parts : List (Nat × SV)) : Res :=
  match tab.lookup t with
  | some { desc := .slice e, .. } => match tab.lookup e with
    | none => .fail
    | some i => if len * i.size > 2 ^ 24 then .fail else
      match sfill (fun k => some (k * i.size, i.size)) ((List.replicate len (i.zero.cells.toList.map SV.lit)).flatten) parts with
      | none => .fail
      | some l => .eff (.sl H.length i.size 0 len) (H ++ [mkObj e i.size (chunks i.size len l)]) [] []
  | _ => .fail
theorem get_replicate {α : Type} {z : List α} {n k : Nat} (hk : k < n * z.length) : ((List.replicate n z).flatten)[k]? = z[k % z.length]? := by
  induction n generalizing k with
  | zero => simp at hk
  | succ n ih =>
    rw [List.replicate_succ, List.flatten_cons, List.getElem?_append]
    split
    · rename_i h; rw [Nat.mod_eq_of_lt h]
    · rename_i h
      rw [ih (by rw [Nat.succ_mul] at hk; omega)]
      rw [← Nat.mod_eq_sub_mod (by omega)]
theorem zero_cells {z : Array Value} {n m : Nat} (hz : z.size = m) (hone : z.all (·.oneCell') = true) {M : Imm} {ρ : Env} :
    RowRep M ρ (madeCells z (n * m)) ((List.replicate n (z.toList.map SV.lit)).flatten) := by
  have hlen : ((List.replicate n (z.toList.map SV.lit)).flatten).length = n * m := by simp [hz]
  have hget : ∀ k u, (madeCells z (n * m))[k]? = some u → k < n * m ∧ 0 < m ∧ z[k % m]? = some u := fun k u hu => by
    have hk : k < n * m := by have := (Array.getElem?_eq_some_iff.1 hu).1; rw [size_madeCells] at this; exact this
    have hm : 0 < m := by rcases Nat.eq_zero_or_pos m with e | e; subst e; simp at hk; exact e
    have hlt : k % m < z.size := by rw [hz]; exact Nat.mod_lt _ hm
    refine ⟨hk, hm, ?_⟩
    simp [madeCells, hk] at hu
    rw [hz] at hu
    simp [hlt] at hu ⊢
    exact hu
  refine ⟨by rw [size_madeCells, hlen], fun k u y hu hy => ?_, fun k u hu => ?_⟩
  · obtain ⟨h1, h2, h3⟩ := hget k u hu
    have hl2 : (z.toList.map SV.lit).length = m := by simp [hz]
    rw [get_replicate (by rw [hl2]; exact h1), hl2, List.getElem?_map, Array.getElem?_toList, h3] at hy
    cases hy; exact .pv (.lit _)
  · obtain ⟨h1, h2, h3⟩ := hget k u hu
    exact (Array.all_eq_true_iff_forall_mem.1 hone) u (Array.mem_of_getElem? h3)
theorem chunks_row {l : List SV} {sz n i : Nat} (hi : i < n) : (chunks sz n l).getD i [] = (l.drop (i * sz)).take sz := by
  simp [chunks, List.getD, hi]
theorem chunk_reads {M : Imm} {ρ : Env} {cs : Array Value} {l : List SV} {sz n : Nat} (hr : RowRep M ρ cs l) (i j : Nat) (x : SV) (hi : i < n) (hx : ((chunks sz n l).getD i [])[j]? = some x) :
    j < sz ∧ ∀ v, cs[i * sz + j]? = some v → SRep M ρ v x := by
  rw [chunks_row hi, List.getElem?_take] at hx
  split at hx
  · rename_i hj
    rw [List.getElem?_drop] at hx
    exact ⟨hj, fun v hv => hr.rep _ v x hv hx⟩
  · cases hx
theorem buildSlice_run {P : Program} {w : World} {t e len : Nat} {i : TI} {parts : Array (Nat × Value)} {cells : Array Value} (hu : P.underlying t = some (.slice e)) (he : TyOk P e i) (hs : ¬ len * i.size > 2 ^ 24)
    (h : Instr.fill (fun k => some (k * i.size, i.size)) (madeCells i.zero.cells (len * i.size)) parts.toList = some cells) :
    (Instr.buildSlice t len parts).run P w = .ok (.slice (some ⟨w.heap.size, 0, none⟩) len len) (w.alloc (.cells cells e)) := by
  obtain ⟨n, hn, h1, h2, h3⟩ := he.inf
  have hs' : ¬ len * n.size > 2 ^ 24 := by rw [h1]; exact hs
  by_cases h0 : len * n.size = 0
  · have h' : Instr.fill (fun k => some (k * n.size, n.size)) #[] parts.toList = some cells := by
      rw [← h1, h0] at h; simpa [madeCells, Array.range_zero'] using h
    simp [Instr.buildSlice, run_underlying hu, sizeOf, typeInfo, hn, hs', h0, newRow, Array.range_zero', h']
  · have h' : Instr.fill (fun k => some (k * n.size, n.size)) ((Array.range (len * n.size)).map (i.zero.cells[· % i.zero.cells.size]!)) parts.toList = some cells := by
      rw [h1]; exact h
    simp [Instr.buildSlice, run_underlying hu, sizeOf, typeInfo, zeroValue, hn, h3, hs', h0, newRow, h']
theorem sBuildSlice_sound {P : Program} {tab : Tab} (htab : TabOk P tab) {M : Imm} {ρ : Env} {H : List SObj} {w : World} {K : Post} (hm : Mem M ρ H w) {t len : Nat} {vp : Array (Nat × Value)} {sp : List (Nat × SV)}
    (hl : vp.size = sp.length) (hp : ∀ (k : Nat) (a : Nat × Value) (b : Nat × SV), vp.toList[k]? = some a → sp[k]? = some b → a.1 = b.1 ∧ SRep M ρ a.2 b.2)
    (h : (sBuildSlice tab H t len sp).holds H K) : DoesV P (Instr.buildSlice t len vp) M ρ H w K := by
  unfold sBuildSlice at h
  split at h
  · rename_i e sz by' zr rw' hte
    have htt := htab.get hte
    split at h
    · exact h.elim
    · rename_i i hi
      have ht := htab.get hi
      split at h
      · exact h.elim
      · rename_i hsm
        split at h
        · exact h.elim
        · rename_i l hfill
          have hz := zero_cells (n := len) (M := M) (ρ := ρ) ht.zsz ht.zon
          obtain ⟨cs', g1, g2⟩ := sfill_sound hz (by simpa using hl) hp hfill
          have hrun := buildSlice_run (w := w) (t := t) (parts := vp) htt.und ht hsm g1
          obtain ⟨m1, m2, m3, m4⟩ := mkObj_facts e i.size (chunks i.size len l)
          have hcl : (chunks i.size len l).length = len := by simp [chunks]
          have hsz : cs'.size = len * i.size := by
            have : ∀ {sp : List (Nat × SV)} {sc sc' : List SV}, sfill (fun k => some (k * i.size, i.size)) sc sp = some sc' → sc'.length = sc.length := by
              intro sp
              induction sp with
              | nil => intro sc sc' h; simp [sfill] at h; subst h; rfl
              | cons a sp ih =>
                intro sc sc' h
                obtain ⟨k, x⟩ := a
                simp only [sfill] at h
                split at h
                · cases h
                · rename_i l' hl'
                  split at h
                  · rename_i hc
                    rw [ih h]
                    have hlen : l'.length = i.size := by
                      revert hl'
                      match x with
                      | .agg q => intro h; simp only [SV.parts] at h; split at h; cases h; assumption; cases h
                      | .pv (.lit (.agg q)) => intro h; simp only [SV.parts] at h; split at h; cases h; simpa; cases h
                      | .pv (.lit (.tuple q)) => intro h; simp [SV.parts] at h
                      | .any => intro h; simp [SV.parts] at h
                      | .tup q => intro h; simp [SV.parts] at h
                      | .pv (.lit (.bool _)) | .pv (.lit (.int _ _)) | .pv (.lit (.float _ _)) | .pv (.lit (.complex _ _ _)) | .pv (.lit (.string _)) | .pv (.lit (.pointer _)) | .pv (.lit (.slice _ _ _))
                      | .pv (.lit (.map _)) | .pv (.lit (.chan _)) | .pv (.lit (.func _ _ _)) | .pv (.lit .nilFunc) | .pv (.lit (.iface _ _)) | .pv (.lit .nilIface)
                      | .pv (.rsl _ _) | .pv (.rptr _ _ _ _) | .pv (.tsl _ _) | .pv (.tptr _ _ _ _) | .ptr _ _ _ _ | .sl _ _ _ _ | .mp _ | .yld _ | .fn _ _ _ => intro h; simp only [SV.parts] at h; split at h; cases h; simp; omega; cases h
                    simp only [splice, List.length_append, List.length_take, List.length_drop]; omega
                  · cases h
            rw [g2.sz, this hfill]; simp [ht.zsz]
          refine does_new hm hrun rfl m1 m3 (by rw [m2, hcl, hsz]; exact Nat.le_refl _) (fun r c hr hc => ?_) (fun r c y hr hy => ?_) (fun ρ' hρ => ?_) h
          · rw [m2, hcl] at hr
            have hlt : r * i.size + c < cs'.size := by
              have := Nat.mul_le_mul_right i.size (show r + 1 ≤ len from hr)
              rw [Nat.succ_mul] at this; omega
            exact ⟨_, Array.getElem?_eq_getElem hlt, g2.one _ _ (Array.getElem?_eq_getElem hlt)⟩
          · rw [m2, hcl] at hr; rw [m4] at hy
            exact chunk_reads g2 r c y hr hy
          · exact .sl _ _ 0 len len 0 _ hρ (by simp) (by simp [hsz]) (Nat.le_refl _)
  · exact h.elim
def sMakeSlice0 (tab : Tab) (H : List SObj) (t : Nat) (l c : SV) : Res :=
  match tab.lookup t with
  | some { desc := .slice e, .. } => match tab.lookup e with
    | none => .fail
    | some i => match l, c with
      | .pv (.lit (.int .i64 n)), .pv (.lit (.int .i64 m)) => .need (decide (0 ≤ n)) <| .need (decide (n ≤ m)) <| .need (decide ((i.bytes : Int) * m ≤ 281474976710656)) <| .need (decide (m ≤ 9223372036854775807)) <|
          match pures (i.zero.cells.toList.map SV.lit) with
          | none => .fail
          | some z => .eff (.sl H.length i.size 0 n.toNat) (H ++ [.vec e i.size (List.replicate n.toNat z)]) [] []
      | _, _ => .fail
  | _ => .fail
theorem sMakeSlice0_sound {P : Program} {tab : Tab} (htab : TabOk P tab) {M : Imm} {ρ : Env} {H : List SObj} {w : World} {K : Post} (hm : Mem M ρ H w) {t : Nat} {l c : SV} {v u : Value} (hl : SRep M ρ v l) (hc : SRep M ρ u c)
    (h : (sMakeSlice0 tab H t l c).holds H K) : DoesV P (Instr.makeSlice t v u) M ρ H w K := by
  unfold sMakeSlice0 at h
  split at h
  · rename_i e sz by' zr rw' hte
    have htt := htab.get hte
    split at h
    · exact h.elim
    · rename_i i hi
      have ht := htab.get hi
      split at h
      · rename_i n m
        have := hl.lit_eq; subst this
        have := hc.lit_eq; subst this
        simp only [Res.holds, decide_eq_true_eq] at h
        obtain ⟨h0, h1, h2, h3, h⟩ := h
        split at h
        · exact h.elim
        · rename_i z hz
          have ez := pures_eq hz
          obtain ⟨inf, hn, i1, i2, i3⟩ := ht.inf
          have hrun := run_make (P := P) w t e inf i.zero htt.und hn i3 .i64 .i64 n m h0 h1 (by rw [i2]; exact h2) h3
          rw [i1] at hrun
          have hzz := zero_cells (n := m.toNat) (M := M) (ρ := ρ) ht.zsz ht.zon
          have hzl : z.length = i.size := by have := congrArg List.length ez; simpa [ht.zsz] using this.symm
          have hnm : n.toNat ≤ m.toNat := by omega
          refine does_new (o := .vec e i.size (List.replicate n.toNat z)) hm hrun rfl rfl rfl ?_ (fun r c hr hc => ?_) (fun r c y hr hy => ?_) (fun ρ' hρ => ?_) h
          · simp only [SObj.len, List.length_replicate, size_madeCells]; exact Nat.mul_le_mul_right _ hnm
          · simp only [SObj.len, List.length_replicate] at hr
            have hlt : r * i.size + c < (madeCells i.zero.cells (m.toNat * i.size)).size := by
              rw [size_madeCells]
              have := Nat.mul_le_mul_right i.size (show r + 1 ≤ m.toNat by omega)
              rw [Nat.succ_mul] at this; omega
            exact ⟨_, Array.getElem?_eq_getElem hlt, hzz.one _ _ (Array.getElem?_eq_getElem hlt)⟩
          · simp only [SObj.len, List.length_replicate] at hr
            simp only [SObj.row, List.getD, List.getElem?_replicate, hr, if_true, Option.getD_some] at hy
            have hc : c < i.size := by have := (List.getElem?_eq_some_iff.1 hy).1; simp [hzl] at this; exact this
            refine ⟨hc, fun v hv => hzz.rep _ v y hv ?_⟩
            have hl2 : (i.zero.cells.toList.map SV.lit).length = i.size := by simp [ht.zsz]
            rw [get_replicate (by rw [hl2]; have := Nat.mul_le_mul_right i.size (show r + 1 ≤ m.toNat by omega); rw [Nat.succ_mul] at this; omega), hl2]
            rw [Nat.mul_comm, Nat.mul_add_mod, Nat.mod_eq_of_lt hc, ez]; exact hy
          · exact .sl _ _ 0 n.toNat m.toNat 0 _ hρ (by simp) (by show (0 + m.toNat) * i.size ≤ (madeCells i.zero.cells (m.toNat * i.size)).size; rw [size_madeCells, Nat.zero_add]; exact Nat.le_refl _) hnm
      · exact h.elim
  · exact h.elim
def zeroRow (i : TI) : Option ((row : List Ty) × Els row) := match i.row with
  | none => none
  | some row => match pures (i.zero.cells.toList.map SV.lit) with
    | none => none
    | some z => match ofRow row z with
      | some x => if row.length = i.size then some ⟨row, x⟩ else none
      | none => none
def sMakeSlice (tab : Tab) (H : List SObj) (t : Nat) (l c : SV) : Res :=
  match tab.lookup t with
  | some { desc := .slice e, .. } => match tab.lookup e with
    | none => .fail
    | some i => match zeroRow i with
      | none => sMakeSlice0 tab H t l c
      | some ⟨row, x⟩ => match l, c with
        | .pv (.lit (.int .i64 n)), .pv (.lit (.int .i64 m)) => .need (decide (0 ≤ n)) <| .need (decide (n ≤ m)) <| .need (decide ((i.bytes : Int) * m ≤ 281474976710656)) <| .need (decide (m ≤ 9223372036854775807)) <|
            .eff (.sl H.length i.size 0 n.toNat) (H ++ [.tvec e row (List.replicate n.toNat x)]) [] []
        | _, _ => .fail
  | _ => .fail
theorem sMakeSlice_sound {P : Program} {tab : Tab} (htab : TabOk P tab) {M : Imm} {ρ : Env} {H : List SObj} {w : World} {K : Post} (hm : Mem M ρ H w) {t : Nat} {l c : SV} {v u : Value} (hl : SRep M ρ v l) (hc : SRep M ρ u c)
    (h : (sMakeSlice tab H t l c).holds H K) : DoesV P (Instr.makeSlice t v u) M ρ H w K := by
  unfold sMakeSlice at h
  split at h
  · rename_i e sz' by' zr rw' hte
    split at h
    · exact h.elim
    · rename_i i hi
      split at h
      · exact sMakeSlice0_sound htab hm hl hc h
      · rename_i row x hz
        split at h
        · rename_i n m
          refine DoesV.described (sMakeSlice0_sound htab hm hl hc ?_)
          unfold zeroRow at hz
          split at hz
          · cases hz
          · rename_i row0 hrow
            split at hz
            · cases hz
            · rename_i z hzz
              split at hz
              · rename_i x0 hx0
                split at hz
                · rename_i hlen
                  cases hz
                  unfold sMakeSlice0
                  simp only [hte, hi, hzz]
                  obtain ⟨h1, h2, h3, h4, h⟩ := h
                  refine ⟨h1, h2, h3, h4, ?_⟩
                  obtain ⟨g1, g2⟩ := ofRow_sound hx0
                  rw [← hlen]
                  rw [← hlen] at h
                  show Described _ _ (fun y H' => K y H' [] [])
                  refine described_last (by simp) (fun k r' hr => ?_) h
                  simp only [rowsPV, List.getElem?_map, Option.map_eq_some_iff] at hr
                  obtain ⟨y, hy, rfl⟩ := hr
                  rw [List.getElem?_replicate] at hy
                  split at hy
                  · rename_i hk
                    cases hy
                    exact ⟨z, by rw [List.getElem?_replicate, if_pos hk], g2⟩
                  · cases hy
                · cases hz
              · cases hz
        · exact h.elim
  · exact h.elim
def sZeros0 (tab : Tab) (H : List SObj) (t t' : Nat) (n : Int) : Res :=
  match tab.lookup t with
  | some { desc := .slice e, .. } => match tab.lookup e with
    | none => .fail
    | some i => match tab.lookup t' with
      | some { desc := .int _, .. } => .need (decide (0 < n)) <| .need (decide (0 < i.size)) <| .need (decide (n ≤ 9223372036854775807)) <| .need (decide (n.toNat * i.bytes ≤ 281474976710656)) <|
          match pures (i.zero.cells.toList.map SV.lit) with
          | none => .fail
          | some z => .eff (.sl H.length i.size 0 n.toNat) (H ++ [.vec e i.size (List.replicate n.toNat z)]) [] []
      | _ => .fail
  | _ => .fail
theorem sZeros0_sound {P : Program} {tab : Tab} (htab : TabOk P tab) {M : Imm} {ρ : Env} {H : List SObj} {w : World} {K : Post} (hm : Mem M ρ H w) {t t' ty : Nat} {k : IntKind} {n : Int}
    (h : (sZeros0 tab H t t' n).holds H K) : DoesV P (Builtin.append_ #[t, t'] ty #[.slice none 0 0, .int k n]) M ρ H w K := by
  unfold sZeros0 at h
  split at h
  · rename_i e sz by' zr rw' hte
    have htt := htab.get hte
    split at h
    · exact h.elim
    · rename_i i hi
      have ht := htab.get hi
      split at h
      · rename_i kn sz2 by2 zr2 rw2 hte2
        simp only [Res.holds, decide_eq_true_eq] at h
        obtain ⟨h0, h1, h2, h3, h⟩ := h
        split at h
        · exact h.elim
        · rename_i z hz
          have ez := pures_eq hz
          obtain ⟨inf, hn, i1, i2, i3⟩ := ht.inf
          obtain ⟨m, rfl⟩ : ∃ m : Nat, n = m := ⟨n.toNat, by omega⟩
          simp only [Int.toNat_natCast] at h h3
          have hrun := Lib.run_append_nil_zeros (P := P) w t t' ty e inf i.zero k kn htt.und (htab.get hte2).und hn i3 m (by omega) (by rw [i1]; exact h1) h2 (by rw [i2]; exact h3)
          have hge := grownCap_ge w m 0 e
          generalize hgc : grownCap w m 0 e = gc at hrun hge
          have hcells : Builtin.zeroCells i.zero.cells m ++ Builtin.zeroCells i.zero.cells (gc - m) = Builtin.zeroCells i.zero.cells m ++ Builtin.zeroCells i.zero.cells (gc - m) := rfl
          have hzc : Builtin.zeroCells i.zero.cells m = madeCells i.zero.cells (m * i.size) := by rw [← ht.zsz]; rfl
          have hzz := zero_cells (n := m) (M := M) (ρ := ρ) ht.zsz ht.zon
          have hzl : z.length = i.size := by have := congrArg List.length ez; simpa [ht.zsz] using this.symm
          rw [hzc] at hrun
          have hsz1 : (madeCells i.zero.cells (m * i.size)).size = m * i.size := size_madeCells ..
          have hleft : ∀ k, k < m * i.size → (madeCells i.zero.cells (m * i.size) ++ Builtin.zeroCells i.zero.cells (gc - m))[k]? = (madeCells i.zero.cells (m * i.size))[k]? := fun k hk => Array.getElem?_append_left (by rw [hsz1]; exact hk)
          have hsz2 : (madeCells i.zero.cells (m * i.size) ++ Builtin.zeroCells i.zero.cells (gc - m)).size = gc * i.size := by
            rw [Array.size_append, hsz1]; simp only [Builtin.zeroCells, Array.size_map, Array.size_range, ht.zsz]
            rw [← Nat.add_mul]; congr 1; omega
          have fl : ∀ r c, r < m → c < i.size → r * i.size + c < m * i.size := fun r c hr hc => by
            have := Nat.mul_le_mul_right i.size (show r + 1 ≤ m from hr)
            rw [Nat.succ_mul] at this; omega
          refine does_new (o := .vec e i.size (List.replicate m z)) hm hrun rfl rfl rfl ?_ (fun r c hr hc => ?_) (fun r c y hr hy => ?_) (fun ρ' hρ => ?_) h
          · simp only [SObj.len, List.length_replicate]; rw [hsz2]; exact Nat.mul_le_mul_right _ hge
          · simp only [SObj.len, List.length_replicate] at hr
            have hlt := fl r c hr hc
            rw [hleft _ hlt]
            exact ⟨_, Array.getElem?_eq_getElem (by rw [hsz1]; exact hlt), hzz.one _ _ (Array.getElem?_eq_getElem (by rw [hsz1]; exact hlt))⟩
          · simp only [SObj.len, List.length_replicate] at hr
            simp only [SObj.row, List.getD, List.getElem?_replicate, hr, if_true, Option.getD_some] at hy
            have hc : c < i.size := by have := (List.getElem?_eq_some_iff.1 hy).1; simp [hzl] at this; exact this
            refine ⟨hc, fun v hv => hzz.rep (r * i.size + c) v y (by rw [hleft _ (fl r c hr hc)] at hv; exact hv) ?_⟩
            have hl2 : (i.zero.cells.toList.map SV.lit).length = i.size := by simp [ht.zsz]
            rw [get_replicate (by rw [hl2]; exact fl r c hr hc), hl2]
            rw [Nat.mul_comm, Nat.mul_add_mod, Nat.mod_eq_of_lt hc, ez]; exact hy
          · exact .sl _ _ 0 m gc 0 _ hρ (by simp) (by show (0 + gc) * i.size ≤ _; rw [hsz2, Nat.zero_add]; exact Nat.le_refl _) hge
      · exact h.elim
  · exact h.elim
def sZeros (tab : Tab) (H : List SObj) (t t' : Nat) (n : Int) : Res :=
  match tab.lookup t with
  | some { desc := .slice e, .. } => match tab.lookup e with
    | none => .fail
    | some i => match zeroRow i with
      | none => sZeros0 tab H t t' n
      | some ⟨row, x⟩ => match tab.lookup t' with
        | some { desc := .int _, .. } => .need (decide (0 < n)) <| .need (decide (0 < i.size)) <| .need (decide (n ≤ 9223372036854775807)) <| .need (decide (n.toNat * i.bytes ≤ 281474976710656)) <|
          .eff (.sl H.length i.size 0 n.toNat) (H ++ [.tvec e row (List.replicate n.toNat x)]) [] []
        | _ => .fail
  | _ => .fail
theorem sZeros_sound {P : Program} {tab : Tab} (htab : TabOk P tab) {M : Imm} {ρ : Env} {H : List SObj} {w : World} {K : Post} (hm : Mem M ρ H w) {t t' ty : Nat} {k : IntKind} {n : Int}
    (h : (sZeros tab H t t' n).holds H K) : DoesV P (Builtin.append_ #[t, t'] ty #[.slice none 0 0, .int k n]) M ρ H w K := by
  unfold sZeros at h
  split at h
  · rename_i e sz' by' zr rw' hte
    split at h
    · exact h.elim
    · rename_i i hi
      split at h
      · exact sZeros0_sound htab hm h
      · rename_i row x hz
        split at h
        · rename_i kn sz2 by2 zr2 rw2 hte2
          refine DoesV.described (sZeros0_sound htab hm ?_)
          unfold zeroRow at hz
          split at hz
          · cases hz
          · rename_i row0 hrow
            split at hz
            · cases hz
            · rename_i z hzz
              split at hz
              · rename_i x0 hx0
                split at hz
                · rename_i hlen
                  cases hz
                  unfold sZeros0
                  simp only [hte, hi, hte2, hzz]
                  obtain ⟨h1, h2, h3, h4, h⟩ := h
                  refine ⟨h1, h2, h3, h4, ?_⟩
                  obtain ⟨g1, g2⟩ := ofRow_sound hx0
                  rw [← hlen]
                  rw [← hlen] at h
                  show Described _ _ (fun y H' => K y H' [] [])
                  refine described_last (by simp) (fun k r' hr => ?_) h
                  simp only [rowsPV, List.getElem?_map, Option.map_eq_some_iff] at hr
                  obtain ⟨y, hy, rfl⟩ := hr
                  rw [List.getElem?_replicate] at hy
                  split at hy
                  · rename_i hk
                    cases hy
                    exact ⟨z, by rw [List.getElem?_replicate, if_pos hk], g2⟩
                  · cases hy
                · cases hz
              · cases hz
        · exact h.elim
  · exact h.elim
end Go.Sx

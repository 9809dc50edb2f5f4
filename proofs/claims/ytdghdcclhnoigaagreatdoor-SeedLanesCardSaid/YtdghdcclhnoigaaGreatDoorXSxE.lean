/- Part E of the own logic: load and store. -/
import Derived.Test.YtdghdcclhnoigaaGreatDoorXSxD
set_option linter.unusedVariables false
set_option linter.unusedSimpArgs false
namespace Go.Sx
open Go
def SObj.sz? : SObj → Option Nat
  | .vec _ sz _ => some sz
  | .tvec _ row _ => some row.length
  | .mix _ sz _ => some sz
  | _ => none
def SObj.len : SObj → Nat
  | .vec _ _ rows => rows.length
  | .tvec _ _ l => l.length
  | .mix _ _ rows => rows.length
  | _ => 0
def SObj.row : SObj → Nat → List SV
  | .vec _ _ rows, r => (rows.getD r []).map .pv
  | .tvec _ row l, r => (rowPV row (l.getD r (Els.dflt row))).map .pv
  | .mix _ _ rows, r => rows.getD r []
  | _, _ => []
def norm (szp i j szo : Nat) : Nat × Nat := if szp = szo then (i, j) else ((i * szp + j) / szo, (i * szp + j) % szo)
theorem norm_eq (szp i j szo : Nat) : (norm szp i j szo).1 * szo + (norm szp i j szo).2 = i * szp + j := by
  unfold norm
  split
  · rename_i h; subst h; rfl
  · exact Nat.div_add_mod' _ _
structure RowOf (M : Imm) (ρ : Env) (w : World) (s : Nat) (o : SObj) (sz : Nat) (p : Place) : Prop where
  ex : ∃ cs ty, w.heap[p.block]? = some (.cells cs ty (0, 0)) ∧ p.cap ≤ cs.size ∧ o.len * sz ≤ p.cap ∧
    (∀ i j, i < o.len → j < sz → ∃ v, cs[i * sz + j]? = some v ∧ isCell v = true) ∧
    (∀ i j x, i < o.len → (o.row i)[j]? = some x → j < sz ∧ ∀ v, cs[i * sz + j]? = some v → SRep M ρ v x)
theorem OwnAt.rowOf {M : Imm} {ρ : Env} {w : World} {s : Nat} {o : SObj} {sz : Nat} {p : Place} (h : OwnAt M ρ w s o) (hz : o.sz? = some sz) (hp : ρ s = some p) : RowOf M ρ w s o sz p := by
  cases o with
  | vec ty sz' rows =>
    simp [SObj.sz?] at hz; subst hz
    rcases h with ⟨h1, _⟩ | ⟨q, h1, h2⟩
    · rw [hp] at h1; cases h1
    · rw [hp] at h1; cases h1
      obtain ⟨cs, a1, a2, a3, a4, a5, a6⟩ := h2.ex
      refine ⟨cs, ty, a1, a2, a3, a4, fun i j x hi hx => ?_⟩
      have hx' : vcell rows i j = some x := by
        simp only [SObj.row, List.getElem?_map] at hx
        have hi' : i < rows.length := hi
        simp [vcell, hi', List.getD] at hx ⊢
        exact hx
      exact ⟨(a6 i j x hx').2, fun v hv => (a5 i j x v hx' hv).2.2⟩
  | tvec ty row l =>
    simp [SObj.sz?] at hz; subst hz
    rcases h with ⟨h1, _⟩ | ⟨q, h1, h2⟩
    · rw [hp] at h1; cases h1
    · rw [hp] at h1; cases h1
      obtain ⟨cs, a1, a2, a3, a4, a5, a6⟩ := h2.ex
      have hlen : (rowsPV row l).length = l.length := by simp [rowsPV]
      rw [hlen] at a3
      refine ⟨cs, ty, a1, a2, a3, fun i j hi hj => a4 i j (by rw [hlen]; exact hi) hj, fun i j x hi hx => ?_⟩
      have hx' : vcell (rowsPV row l) i j = some x := by
        have hi' : i < l.length := hi
        have e := rowsPV_getD (row := row) hi'
        simp only [SObj.row, List.getElem?_map] at hx
        rw [← e] at hx
        have hi2 : i < (rowsPV row l).length := by rw [hlen]; exact hi'
        simp only [vcell, List.getElem?_eq_getElem hi2, Option.bind_some]
        simp only [List.getD, List.getElem?_eq_getElem hi2, Option.getD_some] at hx
        exact hx
      exact ⟨(a6 i j x hx').2, fun v hv => (a5 i j x v hx' hv).2.2⟩
  | mix ty sz' rows =>
    simp [SObj.sz?] at hz; subst hz
    rcases h with ⟨h1, _⟩ | ⟨q, h1, h2⟩
    · rw [hp] at h1; cases h1
    · rw [hp] at h1; cases h1
      obtain ⟨cs, a1, a2, a3, a4, a5, a6⟩ := h2.ex
      refine ⟨cs, ty, a1, a2, a3, a4, fun i j x hi hx => ?_⟩
      have hx' : mcell rows i j = some x := by
        simp only [SObj.row] at hx
        have hi' : i < rows.length := hi
        simp [mcell, hi', List.getD] at hx ⊢
        exact hx
      exact ⟨(a6 i j x hx').2, fun v hv => (a5 i j x v hx' hv).2.2⟩
  | map es c => simp [SObj.sz?] at hz
  | tmap k v l => simp [SObj.sz?] at hz
  | iter a b => simp [SObj.sz?] at hz
  | loop a => simp [SObj.sz?] at hz
  | dfr a => simp [SObj.sz?] at hz
  | dead => simp [SObj.sz?] at hz
theorem live_of_sz {o : SObj} {sz : Nat} (h : o.sz? = some sz) : o.live = true := by cases o <;> simp [SObj.sz?] at h <;> rfl
def readRow (i : TI) (n : Nat) (row : List SV) (r j : Nat) : Res :=
  .need (decide (r < n)) <| if i.desc.isRow then .need (decide (j + i.size ≤ row.length)) (.ok (.mkAgg ((row.drop j).take i.size))) else .need (decide (j < row.length)) (.ok (row.getD j .any))
def sLoad (tab : Tab) (H : List SObj) (t : Nat) (a : SV) : Res :=
  match tab.lookup t with
  | none => .fail
  | some i => match a with
    | .ptr s sz r j => match H[s]? with
      | none => .fail
      | some o => match o.sz? with
        | none => .fail
        | some szo => readRow i o.len (o.row (norm sz r j szo).1) (norm sz r j szo).1 (norm sz r j szo).2
    | .pv (.rptr sz rows r j) => readRow i rows.length ((rows.getD r []).map .pv) r j
    | .pv (.tptr row l r j) => readRow i l.length ((rowPV row (l.getD r (Els.dflt row))).map .pv) r j
    | _ => .fail
theorem loadVar_row {P : Program} {w : World} {b o : Nat} {t : TypeId} {i : TI} (ht : TyOk P t i) (hr : i.desc.isRow = true) (cs : List Value) (hl : cs.length = i.size)
    (hc : ∀ (j : Nat) (v : Value), cs[j]? = some v → w.cell? ⟨b, o + j, none⟩ = some v) : (loadVar t ⟨b, o, none⟩).run P w = .ok (.agg cs.toArray) w := by
  obtain ⟨n, hn, h1, _⟩ := ht.inf
  exact run_loadVar_mid w b o t cs i.desc hc ht.und hr (by simp [hn, h1, hl])
theorem loadVar_one {P : Program} {w : World} {a : Addr} {t : TypeId} {i : TI} (ht : TyOk P t i) (hr : i.desc.isRow = false) {v : Value} (hc : w.cell? a = some v) : (loadVar t a).run P w = .ok v w := by
  have hagg : (isAgg t).run P w = .ok false w := by
    unfold isAgg
    rw [Sem.run_bind, run_underlying ht.und w]
    generalize i.desc = d at hr
    cases d <;> simp_all [TypeDesc.isRow]
  simp [loadVar, Sem.run_bind, hagg, hc]
theorem readRow_sound {P : Program} {M : Imm} {ρ : Env} {H : List SObj} {w : World} {K : Post} {t : TypeId} {i : TI} (ht : TyOk P t i) (hm : Mem M ρ H w) {b o n r j sz : Nat} {row : List SV}
    (hrow : r < n → ∀ k x, row[k]? = some x → ∃ v, w.cell? ⟨b, o + r * sz + k, none⟩ = some v ∧ SRep M ρ v x)
    (h : (readRow i n row r j).holds H K) : DoesV P (Instr.loadAt t (.pointer (some ⟨b, o + r * sz + j, none⟩))) M ρ H w K := by
  simp only [readRow, Res.holds, decide_eq_true_eq] at h
  obtain ⟨hr, h⟩ := h
  have hrow := hrow hr
  split at h
  · rename_i hd
    simp only [Res.holds, decide_eq_true_eq] at h
    obtain ⟨hj, hk⟩ := h
    have hex : ∀ k, k < i.size → ∃ v, w.cell? ⟨b, o + r * sz + (j + k), none⟩ = some v ∧ SRep M ρ v (row.getD (j + k) .any) := fun k hk => by
      have hlt : j + k < row.length := by omega
      obtain ⟨v, h1, h2⟩ := hrow (j + k) row[j + k] (by simp [hlt])
      exact ⟨v, h1, by simpa [List.getD, hlt] using h2⟩
    let f : Nat → Value := fun k => if h : k < i.size then Classical.choose (hex k h) else undef
    have hf : ∀ k, k < i.size → w.cell? ⟨b, o + r * sz + (j + k), none⟩ = some (f k) ∧ SRep M ρ (f k) (row.getD (j + k) .any) := fun k hk => by
      simp only [f, dif_pos hk]; exact Classical.choose_spec (hex k hk)
    have hcs : ∀ (k : Nat) (v : Value), ((List.range i.size).map f)[k]? = some v → k < i.size ∧ v = f k := fun k v hv => by
      simp only [List.getElem?_map, Option.map_eq_some_iff] at hv
      obtain ⟨m, hm', rfl⟩ := hv
      obtain ⟨h1, h2⟩ := List.getElem?_eq_some_iff.1 hm'
      simp at h1 h2; subst h2; exact ⟨h1, rfl⟩
    refine DoesV.same hm (v := .agg ((List.range i.size).map f).toArray) ?_ ?_ hk
    · simp only [Instr.loadAt, Instr.sureAddr, Sem.run_bind, Sem.run_pure, Result.andThen_ok]
      exact loadVar_row ht hd _ (by simp) fun k v hv => by
        obtain ⟨h1, rfl⟩ := hcs k v hv
        rw [Nat.add_assoc (o + r * sz)]; exact (hf k h1).1
    · refine SRep.mkAgg (by simp; omega) fun k v x hv hx => ?_
      obtain ⟨h1, rfl⟩ := hcs k v hv
      have h2 := (hf k h1).2
      rw [List.getElem?_take] at hx
      simp only [h1, if_true, List.getElem?_drop] at hx
      simpa [List.getD, hx] using h2
  · rename_i hd
    simp only [Res.holds, decide_eq_true_eq] at h
    obtain ⟨hj, hk⟩ := h
    obtain ⟨v, h1, h2⟩ := hrow j row[j] (by simp [hj])
    refine DoesV.same hm (v := v) ?_ ?_ hk
    · simp only [Instr.loadAt, Instr.sureAddr, Sem.run_bind, Sem.run_pure, Result.andThen_ok]
      exact loadVar_one ht (by simpa using hd) h1
    · simpa [List.getD, hj] using h2
theorem Imm.cell_heap {M : Imm} {ρ : Env} {H : List SObj} {w : World} (hm : Mem M ρ H w) {b k : Nat} {v : Value} (h : M.cell b k = some v) : w.cell? ⟨b, k, none⟩ = some v := by
  unfold Imm.cell at h
  cases e : M b with
  | none => simp [e] at h
  | some o =>
    rw [e] at h
    have := hm.imm b o e
    unfold World.cell?
    simp only [this]
    cases o <;> simp_all
theorem load_rptr {P : Program} {M : Imm} {ρ : Env} {H : List SObj} {w : World} {K : Post} {t : TypeId} {i : TI} (ht : TyOk P t i) (hm : Mem M ρ H w) {sz r j : Nat} {rows : List (List PV)} {v : Value} (hp : PRep M v (.rptr sz rows r j))
    (h : (readRow i rows.length ((rows.getD r []).map .pv) r j).holds H K) : DoesV P (Instr.loadAt t v) M ρ H w K := by
  cases hp with
  | rptr b off _ _ _ k _ hk h0 h1 h2 =>
    rw [hk]
    refine readRow_sound ht hm (fun hr k x hx => ?_) h
    simp only [List.getElem?_map, Option.map_eq_some_iff] at hx
    obtain ⟨q, hq, rfl⟩ := hx
    simp [List.getD, hr] at hq
    have hk2 : k < sz := Nat.lt_of_lt_of_le (List.getElem?_eq_some_iff.1 hq).1 (h2 r rows[r] (by simp [hr]))
    obtain ⟨u, hu, _⟩ := h0 r k hr hk2
    exact ⟨u, Imm.cell_heap hm hu, .pv (h1 r rows[r] k q u (by simp [hr]) hq hu)⟩
theorem readRow_typed {H : List SObj} {K : Post} {i : TI} {row : List Ty} {l : List (Els row)} {r j : Nat} (h : (readRow i l.length ((rowPV row (l.getD r (Els.dflt row))).map .pv) r j).holds H K) :
    (readRow i (rowsPV row l).length (((rowsPV row l).getD r []).map .pv) r j).holds H K := by
  obtain ⟨h1, h2⟩ := h
  have hlt : r < l.length := of_decide_eq_true h1
  refine ⟨by simpa [rowsPV] using hlt, ?_⟩
  rw [rowsPV_getD hlt]; exact h2
theorem sLoad_sound {P : Program} {tab : Tab} (htab : TabOk P tab) {M : Imm} {ρ : Env} {H : List SObj} {w : World} {K : Post} (hm : Mem M ρ H w) {t : TypeId} {a : SV} {v : Value} (ha : SRep M ρ v a)
    (h : (sLoad tab H t a).holds H K) : DoesV P (Instr.loadAt t v) M ρ H w K := by
  unfold sLoad at h
  split at h
  · exact h.elim
  · rename_i i hi
    have ht := htab.get hi
    split at h
    · rename_i s sz r j
      split at h
      · exact h.elim
      · rename_i o ho
        split at h
        · exact h.elim
        · rename_i szo hz
          cases ha with
          | ptr _ _ _ _ k p hp hk =>
            obtain ⟨cs, ty, a1, a2, a3, a4, a5⟩ := ((hm.own s o ho).rowOf hz hp).ex
            have hk' : k = 0 + (norm sz r j szo).1 * szo + (norm sz r j szo).2 := by rw [Nat.zero_add, norm_eq]; exact hk
            rw [hk']
            refine readRow_sound ht hm (fun hr k x hx => ?_) h
            obtain ⟨b1, b2⟩ := a5 _ k x hr hx
            obtain ⟨u, hu, _⟩ := a4 _ k hr b1
            exact ⟨u, by simp [World.cell?, a1, hu], b2 u hu⟩
    · rename_i sz rows r j
      cases ha with
      | pv hp => exact load_rptr ht hm hp h
    · rename_i row l r j
      cases ha with
      | pv hp => cases hp with
        | tptr _ _ _ _ hp => exact load_rptr ht hm hp (readRow_typed h)
    · exact h.elim
def pures : List SV → Option (List PV)
  | [] => some []
  | .pv p :: r => (pures r).map (p :: ·)
  | _ => none
theorem pures_eq : ∀ {l : List SV} {ps : List PV}, pures l = some ps → l = ps.map .pv
  | [], ps, h => by simp [pures] at h; subst h; rfl
  | x :: l, ps, h => by
    match x, h with
    | .pv p, h =>
      simp only [pures, Option.map_eq_some_iff] at h
      obtain ⟨r, hr, rfl⟩ := h
      simp [pures_eq hr]
def twrite (row : List Ty) (xs : List (Els row)) (r j : Nat) (l : List SV) : Option (Els row) := match pures l with
  | some ps => ofRow row ((rowPV row (xs.getD r (Els.dflt row))).take j ++ ps ++ (rowPV row (xs.getD r (Els.dflt row))).drop (j + ps.length))
  | none => none
def SObj.write (o : SObj) (r j : Nat) (l : List SV) : SObj :=
  match o with
  | .vec ty sz rows => match pures l with
    | some ps => .vec ty sz (rows.set r ((rows.getD r []).take j ++ ps ++ (rows.getD r []).drop (j + ps.length)))
    | none => .mix ty sz ((rows.map (·.map .pv)).set r (((rows.getD r []).map .pv).take j ++ l ++ ((rows.getD r []).map .pv).drop (j + l.length)))
  | .tvec ty row xs => match twrite row xs r j l with
    | some x => .tvec ty row (xs.set r x)
    | none => .mix ty row.length (((rowsPV row xs).map (·.map .pv)).set r (((rowPV row (xs.getD r (Els.dflt row))).map .pv).take j ++ l ++ ((rowPV row (xs.getD r (Els.dflt row))).map .pv).drop (j + l.length)))
  | .mix ty sz rows => .mix ty sz (rows.set r ((rows.getD r []).take j ++ l ++ (rows.getD r []).drop (j + l.length)))
  | o => o
def sStore (tab : Tab) (H : List SObj) (t : Nat) (a v : SV) : Res :=
  match tab.lookup t with
  | none => .fail
  | some i => match v.parts i.size with
    | none => .fail
    | some l => match a with
      | .ptr s sz r j => match H[s]? with
        | none => .fail
        | some o => match o.sz? with
          | none => .fail
          | some szo => .need (l.all SV.known) <| .need (decide ((norm sz r j szo).1 < o.len)) <| .need (decide ((norm sz r j szo).2 + l.length ≤ (o.row (norm sz r j szo).1).length)) <|
              .eff .any (H.set s (o.write (norm sz r j szo).1 (norm sz r j szo).2 l)) [s] []
      | _ => .fail
theorem write_row (o : SObj) {sz : Nat} (hz : o.sz? = some sz) {r j : Nat} {l : List SV} (hr : r < o.len) (hj : j + l.length ≤ (o.row r).length) :
    (o.write r j l).sz? = some sz ∧ (o.write r j l).len = o.len ∧
    (∀ i, i < o.len → ∀ (c : Nat) (y : SV), ((o.write r j l).row i)[c]? = some y → ∃ y', (if i = r then (o.row r).take j ++ l ++ (o.row r).drop (j + l.length) else o.row i)[c]? = some y' ∧ ∀ M ρ v, SRep M ρ v y' → SRep M ρ v y) := by
  have same : ∀ (A B : List SV), A = B → ∀ (c : Nat) (y : SV), A[c]? = some y → ∃ y', B[c]? = some y' ∧ ∀ M ρ v, SRep M ρ v y' → SRep M ρ v y := fun A B e c y h => ⟨y, e ▸ h, fun _ _ _ h => h⟩
  cases o with
  | vec ty sz' rows =>
    simp [SObj.sz?] at hz; subst hz
    have hr' : r < rows.length := hr
    refine ⟨?_, ?_, fun i hi => same _ _ ?_⟩
    · simp only [SObj.write]; split <;> rfl
    · simp only [SObj.write]; split <;> simp [SObj.len]
    · have hi' : i < rows.length := hi
      simp only [SObj.write]
      split
      · rename_i ps hps
        have e := pures_eq hps; subst e
        simp only [SObj.row]
        by_cases hir : i = r
        · subst hir; simp [hr', List.getD, List.getElem?_set, List.map_take, List.map_drop]
        · simp [hir, List.getD, List.getElem?_set, fun h => hir (Eq.symm h)]
          rw [if_neg (fun h => hir h.symm)]
      · simp only [SObj.row]
        by_cases hir : i = r
        · subst hir; simp [hr', List.getD, List.getElem?_set]
        · simp [hir, List.getD, hi']
          rw [List.getElem_set_ne (fun e => hir e.symm)]; simp
  | tvec ty row xs =>
    simp [SObj.sz?] at hz; subst hz
    have hr' : r < xs.length := hr
    simp only [SObj.write]
    split
    · rename_i x hx
      refine ⟨rfl, by simp [SObj.len], fun i hi c y hy => ?_⟩
      have hi' : i < xs.length := hi
      unfold twrite at hx
      split at hx
      · rename_i ps hps
        have e := pures_eq hps; subst e
        obtain ⟨g1, g2⟩ := ofRow_sound hx
        simp only [SObj.row] at hy ⊢
        by_cases hir : i = r
        · subst hir
          simp only [if_true]
          have e2 : (xs.set i x).getD i (Els.dflt row) = x := by simp [List.getD, hr']
          rw [e2, List.getElem?_map, Option.map_eq_some_iff] at hy
          obtain ⟨q, hq, rfl⟩ := hy
          obtain ⟨p, hp, himp⟩ := g2 c q hq
          refine ⟨.pv p, ?_, fun M ρ v h => ?_⟩
          · have : (List.take i (List.map SV.pv (rowPV row (xs.getD i (Els.dflt row)))) = List.map SV.pv (List.take i (rowPV row (xs.getD i (Els.dflt row))))) := by simp [List.map_take]
            simp only [← List.map_take, ← List.map_drop, ← List.map_append, List.length_map, List.getElem?_map, hp, Option.map_some]
          · cases h with
            | pv h => exact .pv (himp _ _ h)
        · rw [if_neg hir]
          have e2 : (xs.set r x).getD i (Els.dflt row) = xs.getD i (Els.dflt row) := by
            simp only [List.getD, List.getElem?_set]; rw [if_neg (fun h => hir h.symm)]
          rw [e2] at hy
          exact ⟨y, hy, fun _ _ _ h => h⟩
      · cases hx
    · refine ⟨rfl, by simp [SObj.len, rowsPV], fun i hi => same _ _ ?_⟩
      have hi' : i < xs.length := hi
      simp only [SObj.row]
      by_cases hir : i = r
      · subst hir; simp [hr', List.getD, List.getElem?_set, rowsPV]
      · simp [hir, List.getD, hi', rowsPV]
        rw [List.getElem_set_ne (fun e => hir e.symm)]; simp
  | mix ty sz' rows =>
    simp [SObj.sz?] at hz; subst hz
    have hr' : r < rows.length := hr
    refine ⟨rfl, by simp [SObj.write, SObj.len], fun i hi => same _ _ ?_⟩
    simp only [SObj.write, SObj.row]
    by_cases hir : i = r
    · subst hir; simp [hr', List.getD, List.getElem?_set]
    · simp [hir, List.getD, List.getElem?_set]
      rw [if_neg (fun h => hir h.symm)]
  | map es c => simp [SObj.sz?] at hz
  | tmap k v l => simp [SObj.sz?] at hz
  | iter a b => simp [SObj.sz?] at hz
  | loop a => simp [SObj.sz?] at hz
  | dfr a => simp [SObj.sz?] at hz
  | dead => simp [SObj.sz?] at hz
theorem RowOf.ownAt {M : Imm} {ρ : Env} {w : World} {s : Nat} {o : SObj} {sz : Nat} {p : Place} {ty : TypeId} {cs : Array Value} (hz : o.sz? = some sz) (hp : ρ s = some p)
    (hty : ∀ ty' sz' rows, (o = .vec ty' sz' rows → ty' = ty)) (hty2 : ∀ ty' sz' rows, (o = .mix ty' sz' rows → ty' = ty)) (hty3 : ∀ ty' row l, (o = .tvec ty' row l → ty' = ty))
    (h1 : w.heap[p.block]? = some (.cells cs ty (0, 0))) (h2 : p.cap ≤ cs.size) (h3 : o.len * sz ≤ p.cap)
    (h4 : ∀ i j, i < o.len → j < sz → ∃ v, cs[i * sz + j]? = some v ∧ isCell v = true)
    (h5 : ∀ i j x, i < o.len → (o.row i)[j]? = some x → j < sz ∧ ∀ v, cs[i * sz + j]? = some v → SRep M ρ v x) : OwnAt M ρ w s o := by
  cases o with
  | vec ty' sz' rows =>
    simp [SObj.sz?] at hz; subst hz
    cases hty _ _ _ rfl
    have key : ∀ i j x, vcell rows i j = some x → i < rows.length ∧ ((SObj.vec ty sz' rows).row i)[j]? = some x := fun i j x hx => by
      unfold vcell at hx
      cases e : rows[i]? with
      | none => simp [e] at hx
      | some r =>
        have hi : i < rows.length := (List.getElem?_eq_some_iff.1 e).1
        refine ⟨hi, ?_⟩
        simp [SObj.row, List.getD, e] at hx ⊢
        exact hx
    exact .inr ⟨p, hp, ⟨cs, h1, h2, h3, h4, fun i j x v hx hv => let ⟨hi, hx⟩ := key i j x hx; let ⟨a, b⟩ := h5 i j x hi hx; ⟨hi, a, b v hv⟩, fun i j x hx => let ⟨hi, hx⟩ := key i j x hx; ⟨hi, (h5 i j x hi hx).1⟩⟩⟩
  | tvec ty' row l =>
    simp [SObj.sz?] at hz; subst hz
    cases hty3 _ _ _ rfl
    have hlen : (rowsPV row l).length = l.length := by simp [rowsPV]
    have key : ∀ i j x, vcell (rowsPV row l) i j = some x → i < l.length ∧ ((SObj.tvec ty row l).row i)[j]? = some x := fun i j x hx => by
      have hi : i < l.length := by
        rcases Nat.lt_or_ge i l.length with h | h
        · exact h
        · rw [vcell, List.getElem?_eq_none (by rw [hlen]; exact h)] at hx; cases hx
      refine ⟨hi, ?_⟩
      have hi2 : i < (rowsPV row l).length := by rw [hlen]; exact hi
      simp only [vcell, List.getElem?_eq_getElem hi2, Option.bind_some] at hx
      have e := rowsPV_getD (row := row) hi
      simp only [SObj.row, List.getElem?_map, ← e]
      simp only [List.getD, List.getElem?_eq_getElem hi2, Option.getD_some]
      exact hx
    exact .inr ⟨p, hp, ⟨cs, h1, h2, by rw [hlen]; exact h3, fun i j hi hj => h4 i j (by rw [hlen] at hi; exact hi) hj, fun i j x v hx hv => let ⟨hi, hx⟩ := key i j x hx; let ⟨a, b⟩ := h5 i j x hi hx; ⟨by rw [hlen]; exact hi, a, b v hv⟩, fun i j x hx => let ⟨hi, hx⟩ := key i j x hx; ⟨by rw [hlen]; exact hi, (h5 i j x hi hx).1⟩⟩⟩
  | mix ty' sz' rows =>
    simp [SObj.sz?] at hz; subst hz
    cases hty2 _ _ _ rfl
    have key : ∀ i j x, mcell rows i j = some x → i < rows.length ∧ ((SObj.mix ty sz' rows).row i)[j]? = some x := fun i j x hx => by
      unfold mcell at hx
      cases e : rows[i]? with
      | none => simp [e] at hx
      | some r =>
        have hi : i < rows.length := (List.getElem?_eq_some_iff.1 e).1
        refine ⟨hi, ?_⟩
        simp [SObj.row, List.getD, e] at hx ⊢
        exact hx
    exact .inr ⟨p, hp, ⟨cs, h1, h2, h3, h4, fun i j x v hx hv => let ⟨hi, hx⟩ := key i j x hx; let ⟨a, b⟩ := h5 i j x hi hx; ⟨hi, a, b v hv⟩, fun i j x hx => let ⟨hi, hx⟩ := key i j x hx; ⟨hi, (h5 i j x hi hx).1⟩⟩⟩
  | map es c => simp [SObj.sz?] at hz
  | tmap k v l => simp [SObj.sz?] at hz
  | iter a b => simp [SObj.sz?] at hz
  | loop a => simp [SObj.sz?] at hz
  | dfr a => simp [SObj.sz?] at hz
  | dead => simp [SObj.sz?] at hz
def SObj.ty : SObj → TypeId
  | .vec ty _ _ => ty
  | .tvec ty _ _ => ty
  | .mix ty _ _ => ty
  | _ => 0
theorem OwnAt.heap {M : Imm} {ρ : Env} {w : World} {s : Nat} {o : SObj} {sz : Nat} {p : Place} (h : OwnAt M ρ w s o) (hz : o.sz? = some sz) (hp : ρ s = some p) : ∃ cs, w.heap[p.block]? = some (.cells cs o.ty (0, 0)) := by
  cases o with
  | vec ty sz' rows =>
    rcases h with ⟨h1, _⟩ | ⟨q, h1, h2⟩
    · rw [hp] at h1; cases h1
    · rw [hp] at h1; cases h1
      obtain ⟨cs, a1, _⟩ := h2.ex; exact ⟨cs, a1⟩
  | tvec ty row l =>
    rcases h with ⟨h1, _⟩ | ⟨q, h1, h2⟩
    · rw [hp] at h1; cases h1
    · rw [hp] at h1; cases h1
      obtain ⟨cs, a1, _⟩ := h2.ex; exact ⟨cs, a1⟩
  | mix ty sz' rows =>
    rcases h with ⟨h1, _⟩ | ⟨q, h1, h2⟩
    · rw [hp] at h1; cases h1
    · rw [hp] at h1; cases h1
      obtain ⟨cs, a1, _⟩ := h2.ex; exact ⟨cs, a1⟩
  | map es c => simp [SObj.sz?] at hz
  | tmap k v l => simp [SObj.sz?] at hz
  | iter a b => simp [SObj.sz?] at hz
  | loop a => simp [SObj.sz?] at hz
  | dfr a => simp [SObj.sz?] at hz
  | dead => simp [SObj.sz?] at hz
theorem write_ty (o : SObj) (r j : Nat) (l : List SV) : (o.write r j l).ty = o.ty := by
  cases o <;> simp only [SObj.write] <;> (try split) <;> rfl
theorem setRow_ne {w : World} {g : Nat} {cs : Array Value} {b : Nat} (h : b ≠ g) : (w.setRow g cs).heap[b]? = w.heap[b]? := setRow_other w g b cs h
theorem setRow_size (w : World) (g : Nat) (cs : Array Value) : (w.setRow g cs).heap.size = w.heap.size := by simp [World.setRow]
theorem storeVar_run {P : Program} {w : World} {b o : Nat} {t : TypeId} {i : TI} (ht : TyOk P t i) {v : Value} {ty : TypeId} {cs : Array Value} (hh : w.heap[b]? = some (.cells cs ty (0, 0)))
    (hs : v.cells.size = i.size) (ho : o + v.cells.size ≤ cs.size) (h1 : ∀ u ∈ v.cells.toList, u.oneCell' = true) :
    (storeVar t ⟨b, o, none⟩ v).run P w = .ok () (w.setRow b (cs.toList.take o ++ v.cells.toList ++ cs.toList.drop (o + v.cells.toList.length)).toArray) := by
  obtain ⟨n, hn, hsz, _⟩ := ht.inf
  have := run_storeCells_at P b o ty v.cells.toList 0 cs w hh (by simpa using ho) h1
  simp only [Nat.add_zero] at this
  simp [storeVar, sizeOf, typeInfo, hn, hsz, hs, this]
theorem sStore_sound {P : Program} {tab : Tab} (htab : TabOk P tab) {M : Imm} {ρ : Env} {H : List SObj} {w : World} {K : Post} (hm : Mem M ρ H w) {t : TypeId} {a x : SV} {v u : Value} (ha : SRep M ρ v a) (hx : SRep M ρ u x)
    (h : (sStore tab H t a x).holds H K) : DoesU P (Instr.storeAt t v u) M ρ H w K := by
  unfold sStore at h
  split at h
  · exact h.elim
  · rename_i i hi
    have ht := htab.get hi
    split at h
    · exact h.elim
    · rename_i l hl
      obtain ⟨q1, q2, q3⟩ := hx.parts hl
      split at h
      · rename_i s sz r j
        split at h
        · exact h.elim
        · rename_i o ho
          split at h
          · exact h.elim
          · rename_i szo hz
            simp only [Res.holds, decide_eq_true_eq] at h
            obtain ⟨hkn, hr, hj, hK⟩ := h
            cases ha with
            | ptr _ _ _ _ k p hp hk =>
              have hown := hm.own s o ho
              obtain ⟨cs0, ty0, a1, a2, a3, a4, a5⟩ := (hown.rowOf hz hp).ex
              obtain ⟨cs, a1'⟩ := hown.heap hz hp
              rw [a1] at a1'; cases a1'
              generalize hrr : (norm sz r j szo).1 = R at *
              generalize hcc : (norm sz r j szo).2 = C at *
              have hk' : k = R * szo + C := by rw [← hrr, ← hcc, norm_eq]; exact hk
              obtain ⟨w1, w2, w4⟩ := write_row o hz hr hj
              have hCl : C + l.length ≤ szo := by
                rcases Nat.eq_zero_or_pos (o.row R).length with e | e
                · omega
                · have hlast : (o.row R).length - 1 < (o.row R).length := by omega
                  obtain ⟨b1, _⟩ := a5 R ((o.row R).length - 1) (o.row R)[(o.row R).length - 1] hr (by simp [hlast])
                  omega
              have hend : R * szo + C + u.cells.size ≤ cs0.size := by
                have h1 : (R + 1) * szo ≤ o.len * szo := Nat.mul_le_mul_right szo hr
                rw [Nat.succ_mul] at h1
                omega
              have hone : ∀ y ∈ u.cells.toList, y.oneCell' = true := fun y hy => by
                obtain ⟨m, hm', hy'⟩ := List.getElem_of_mem hy
                have hlm : m < l.length := by simp at hm'; omega
                exact (q3 m y l[m] (by rw [← Array.getElem?_toList, List.getElem?_eq_getElem hm', hy']) (by simp [hlm])).known (List.all_eq_true.1 hkn _ (List.getElem_mem hlm))
              have hrun := storeVar_run (P := P) ht a1 q1 hend hone
              have hlen : u.cells.toList.length = l.length := by simp [q1, q2]
              generalize hcs' : (cs0.toList.take (R * szo + C) ++ u.cells.toList ++ cs0.toList.drop (R * szo + C + u.cells.toList.length)).toArray = cs' at hrun
              have hget : ∀ m : Nat, cs'[m]? = if m < R * szo + C then cs0[m]? else if m < R * szo + C + l.length then u.cells[m - (R * szo + C)]? else cs0[m]? := fun m => by
                rw [← hcs', List.getElem?_toArray, splice_get _ _ _ _ (by rw [hlen]; simp; omega), hlen]
                simp only [Array.getElem?_toList]
              have hsize : cs'.size = cs0.size := by rw [← hcs']; simp; omega
              have hheap : (w.setRow p.block cs').heap[p.block]? = some (.cells cs' o.ty (0, 0)) := setRow_heap w p.block cs0 cs' o.ty (0, 0) a1
              have hnew : OwnAt M ρ (w.setRow p.block cs') s (o.write R C l) := by
                refine RowOf.ownAt w1 hp (fun ty' sz' rows e => ?_) (fun ty' sz' rows e => ?_) (fun ty' row l2 e => ?_) hheap (by rw [hsize]; exact a2) (by rw [w2]; exact a3) (fun m c hmr hc => ?_) (fun m c y hmr hy => ?_)
                · have := write_ty o R C l; rw [e] at this; exact this
                · have := write_ty o R C l; rw [e] at this; exact this
                · have := write_ty o R C l; rw [e] at this; exact this
                · rw [w2] at hmr
                  obtain ⟨z, hz1, hz2⟩ := a4 m c hmr hc
                  rw [hget]
                  split
                  · exact ⟨z, hz1, hz2⟩
                  · split
                    · rename_i g1 g2
                      have hlt : m * szo + c - (R * szo + C) < u.cells.size := by omega
                      refine ⟨u.cells[m * szo + c - (R * szo + C)], by simp [hlt], hone _ (by simp)⟩
                    · exact ⟨z, hz1, hz2⟩
                · rw [w2] at hmr
                  obtain ⟨y', hy', himp⟩ := w4 m hmr c y hy
                  have main : c < szo ∧ ∀ z, cs'[m * szo + c]? = some z → SRep M ρ z y' := by
                    split at hy'
                    · rename_i e; subst e
                      rw [splice_get _ _ _ _ hj] at hy'
                      split at hy'
                      · rename_i g1
                        obtain ⟨b1, b2⟩ := a5 m c y' hr hy'
                        refine ⟨b1, fun z hz' => b2 z ?_⟩
                        rw [hget] at hz'; rw [if_pos (by omega)] at hz'; exact hz'
                      · split at hy'
                        · rename_i g1 g2
                          refine ⟨by omega, fun z hz' => ?_⟩
                          rw [hget, if_neg (by omega), if_pos (by omega)] at hz'
                          exact q3 (c - C) z y' (by rw [show m * szo + c - (m * szo + C) = c - C by omega] at hz'; exact hz') hy'
                        · rename_i g1 g2
                          obtain ⟨b1, b2⟩ := a5 m c y' hr hy'
                          refine ⟨b1, fun z hz' => b2 z ?_⟩
                          rw [hget, if_neg (by omega), if_neg (by omega)] at hz'; exact hz'
                    · rename_i e
                      obtain ⟨b1, b2⟩ := a5 m c y' hmr hy'
                      refine ⟨b1, fun z hz' => b2 z ?_⟩
                      rw [hget] at hz'
                      rcases Nat.lt_or_gt_of_ne e with g | g
                      · have := flat_lt b1 g
                        rw [if_pos (by omega)] at hz'; exact hz'
                      · have h3 : R * szo + C + l.length ≤ m * szo := by
                          have := Nat.mul_le_mul_right szo (show R + 1 ≤ m from g)
                          rw [Nat.succ_mul] at this; omega
                        rw [if_neg (by omega), if_neg (by omega)] at hz'; exact hz'
                  exact ⟨main.1, fun z hz' => himp _ _ _ (main.2 z hz')⟩
              obtain ⟨g1, g2⟩ := hm.put (so := o.write R C l) ho (live_of_sz hz) hp (fun b hb => setRow_ne hb) (setRow_size ..) (live_of_sz w1) hnew
              refine ⟨_, ?_, .any, _, [s], [], M, ρ, hK, rfl, g1, g2⟩
              rw [hk']
              simp only [Instr.storeAt, Instr.sureAddr, Sem.run_bind, Sem.run_pure, Result.andThen_ok]
              exact hrun
      · exact h.elim
end Go.Sx

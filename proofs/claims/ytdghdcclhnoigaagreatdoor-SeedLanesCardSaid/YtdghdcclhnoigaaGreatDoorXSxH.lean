/- Part H of the own logic: append. -/
import Derived.Test.YtdghdcclhnoigaaGreatDoorXSxG
set_option linter.unusedVariables false
set_option linter.unusedSimpArgs false
namespace Go.Sx
open Go
inductive Src where
  | pure (rows : List (List PV))
  | mixed (rows : List (List SV))
def Src.rows : Src → List (List SV)
  | .pure r => r.map (·.map .pv)
  | .mixed r => r
def Src.len : Src → Nat
  | .pure r => r.length
  | .mixed r => r.length
def Src.forget (d : List Nat) : Src → Src
  | .pure r => .pure r
  | .mixed r => .mixed (r.map (·.map (SV.forget d)))
theorem Src.forget_len (d : List Nat) (s : Src) : (s.forget d).len = s.len := by cases s <;> simp [Src.forget, Src.len]
def Src.solid : Src → Bool
  | .pure _ => true
  | .mixed r => !r.isEmpty
theorem Src.len_rows (s : Src) : s.rows.length = s.len := by cases s <;> simp [Src.rows, Src.len]
def srcOf (H : List SObj) (sz : Nat) : SV → Option Src
  | .sl s sz' st len => if sz' = sz then match H[s]? with
      | some (.vec _ so rows) => if so = sz ∧ st + len ≤ rows.length then some (.pure ((rows.drop st).take len)) else none
      | some (.mix _ so rows) => if so = sz ∧ st + len ≤ rows.length then some (.mixed ((rows.drop st).take len)) else none
      | _ => none
    else none
  | .pv (.rsl sz' rows) => if sz' = sz then some (.pure rows) else none
  | .pv (.lit (.slice none 0 0)) => some (.pure [])
  | _ => none
structure SrcRep (M : Imm) (ρ : Env) (w : World) (sz : Nat) (v : Value) (s : Src) : Prop where
  ex : ∃ a c, v = .slice a s.len c ∧ (s.len = 0 ∨ ∃ b o, a = some ⟨b, o, none⟩ ∧
    (∀ i j, i < s.len → j < sz → ∃ u, w.cell? ⟨b, o + (i * sz + j), none⟩ = some u ∧ isCell u = true) ∧
    (∀ i j x, i < s.len → (s.rows.getD i [])[j]? = some x → j < sz ∧ ∀ u, w.cell? ⟨b, o + (i * sz + j), none⟩ = some u → SRep M ρ u x))
theorem srcOf_sound {M : Imm} {ρ : Env} {H : List SObj} {w : World} (hm : Mem M ρ H w) {sz : Nat} {x : SV} {v : Value} {s : Src} (hx : SRep M ρ v x) (h : srcOf H sz x = some s) : SrcRep M ρ w sz v s := by
  unfold srcOf at h
  split at h
  · rename_i sd sz' st len
    split at h
    · rename_i e; subst e
      have own : ∀ (o : SObj) (s : Src), H[sd]? = some o → o.sz? = some sz' → st + len ≤ o.len → s.len = len → (∀ i, i < len → s.rows.getD i [] = o.row (st + i)) → SrcRep M ρ w sz' v s := by
        intro o s ho hz hle hl hr
        cases hx with
        | slz a b c a' => exact ⟨_, _, by rw [hl], .inl hl⟩
        | sl _ _ _ _ c k p hp hk hc hn =>
          obtain ⟨cs, ty, a1, a2, a3, a4, a5⟩ := ((hm.own sd o ho).rowOf hz hp).ex
          refine ⟨_, c, by rw [hl], .inr ⟨p.block, k, rfl, fun i j hi hj => ?_, fun i j x hi hx => ?_⟩⟩
          · rw [hl] at hi
            obtain ⟨u, h1, h2⟩ := a4 (st + i) j (by omega) hj
            exact ⟨u, by simp [World.cell?, a1]; rw [hk, ← h1]; congr 1; rw [Nat.add_mul]; omega, h2⟩
          · rw [hl] at hi
            rw [hr i hi] at hx
            obtain ⟨h1, h2⟩ := a5 (st + i) j x (by omega) hx
            refine ⟨h1, fun u hu => h2 u ?_⟩
            simp [World.cell?, a1] at hu
            rw [← hu, hk]; congr 1; rw [Nat.add_mul]; omega
      split at h
      · rename_i ty so rows ho
        split at h
        · rename_i hc; cases h
          obtain ⟨rfl, hle⟩ := hc
          refine own _ _ ho rfl hle (by simp [Src.len]; omega) (fun i hi => ?_)
          have hlt : st + i < rows.length := by omega
          simp [Src.rows, SObj.row, List.getD, List.getElem?_take, List.getElem?_drop, hi, hlt]
        · cases h
      · rename_i ty so rows ho
        split at h
        · rename_i hc; cases h
          obtain ⟨rfl, hle⟩ := hc
          refine own _ _ ho rfl hle (by simp [Src.len]; omega) (fun i hi => ?_)
          have hlt : st + i < rows.length := by omega
          simp [Src.rows, SObj.row, List.getD, List.getElem?_take, List.getElem?_drop, hi, hlt]
        · cases h
      · cases h
    · cases h
  · rename_i sz' rows
    split at h
    · rename_i e; subst e; cases h
      cases hx with
      | pv hp => cases hp with
        | rnil => exact ⟨_, _, rfl, .inl rfl⟩
        | remp a c => exact ⟨_, _, rfl, .inl rfl⟩
        | rsl b off c _ n _ hn hc g0 g1 g2 =>
          refine ⟨_, c, by simp [Src.len]; exact hn, .inr ⟨b, off, rfl, fun i j hi hj => ?_, fun i j x hi hx => ?_⟩⟩
          · obtain ⟨u, h1, h2⟩ := g0 i j hi hj
            exact ⟨u, by rw [← Nat.add_assoc]; exact Imm.cell_heap hm h1, h2⟩
          · have hi' : i < rows.length := hi
            simp [Src.rows, List.getD, hi'] at hx
            obtain ⟨q, hq, rfl⟩ := hx
            have hj : j < sz' := Nat.lt_of_lt_of_le (List.getElem?_eq_some_iff.1 hq).1 (g2 i rows[i] (by simp [hi']))
            refine ⟨hj, fun u hu => ?_⟩
            obtain ⟨u', h1, h2⟩ := g0 i j hi' hj
            have := Imm.cell_heap hm h1
            rw [← Nat.add_assoc, this] at hu; cases hu
            exact .pv (g1 i rows[i] j q u (by simp [hi']) hq h1)
    · cases h
  · cases h
    have := hx.lit_eq; subst this
    exact ⟨_, _, rfl, .inl rfl⟩
  · cases h
def SObj.plain : SObj → SObj
  | .tvec ty row l => .vec ty row.length (rowsPV row l)
  | o => o
theorem plain_facts (o : SObj) : o.plain.sz? = o.sz? ∧ o.plain.len = o.len ∧ o.plain.ty = o.ty ∧ o.plain.live = o.live ∧ (∀ i, i < o.len → o.plain.row i = o.row i) ∧ (∀ d, o.plain.forget d = (o.forget d).plain) := by
  cases o with
  | tvec ty row l =>
    refine ⟨rfl, by simp [SObj.plain, SObj.len, rowsPV], rfl, rfl, fun i hi => ?_, fun d => rfl⟩
    have hi : i < l.length := hi
    simp only [SObj.plain, SObj.row, rowsPV_getD hi]
  | _ => exact ⟨rfl, rfl, rfl, rfl, fun i _ => rfl, fun d => rfl⟩
theorem OwnAt.plain {M : Imm} {ρ : Env} {w : World} {s : Nat} {o : SObj} : OwnAt M ρ w s o.plain ↔ OwnAt M ρ w s o := by
  cases o <;> exact Iff.rfl
def appendObj (o : SObj) (n : Nat) (s : Src) : SObj :=
  match o.plain, s with
  | .vec ty sz rows, .pure ps => .vec ty sz ((if n = rows.length then rows else rows.take n) ++ ps)
  | .vec ty sz rows, .mixed xs => .mix ty sz (((if n = rows.length then rows else rows.take n).map (·.map .pv)) ++ xs)
  | .mix ty sz rows, s => .mix ty sz ((if n = rows.length then rows else rows.take n) ++ s.rows)
  | o, _ => o
theorem take_if {α : Type} (l : List α) (n : Nat) : (if n = l.length then l else l.take n) = l.take n := by
  split
  · rename_i h; rw [h, List.take_length]
  · rfl
theorem appendObj_facts0 (o : SObj) {sz n : Nat} (s : Src) (hz : o.sz? = some sz) (hn : n ≤ o.len) (ho : o.plain = o) :
    (appendObj o n s).sz? = some sz ∧ (appendObj o n s).len = n + s.len ∧ (appendObj o n s).ty = o.ty ∧
    ∀ i, i < n + s.len → (appendObj o n s).row i = if i < n then o.row i else s.rows.getD (i - n) [] := by
  cases o with
  | tvec ty row l => cases ho
  | vec ty sz' rows =>
    simp [SObj.sz?] at hz; subst hz
    have hn' : n ≤ rows.length := hn
    cases s with
    | pure ps =>
      simp only [appendObj, SObj.plain, take_if]
      refine ⟨rfl, by simp [SObj.len, Src.len]; omega, rfl, fun i hi => ?_⟩
      simp only [SObj.row, Src.rows, List.getD]
      split
      · rename_i h; rw [List.getElem?_append_left (by simp; omega), List.getElem?_take]; simp [h]
      · rename_i h
        rw [List.getElem?_append_right (by simp; omega)]
        simp only [List.length_take, Nat.min_eq_left hn', List.getElem?_map]
        cases ps[i - n]? <;> simp
    | mixed xs =>
      simp only [appendObj, SObj.plain, take_if]
      refine ⟨rfl, by simp [SObj.len, Src.len]; omega, rfl, fun i hi => ?_⟩
      simp only [SObj.row, Src.rows, List.getD]
      split
      · rename_i h; rw [List.getElem?_append_left (by simp; omega), List.getElem?_map, List.getElem?_take]; simp only [h, if_true]; cases rows[i]? <;> simp
      · rename_i h
        rw [List.getElem?_append_right (by simp; omega)]
        simp [Nat.min_eq_left hn']
  | mix ty sz' rows =>
    simp [SObj.sz?] at hz; subst hz
    have hn' : n ≤ rows.length := hn
    simp only [appendObj, SObj.plain, take_if]
    refine ⟨rfl, by simp [SObj.len, ← Src.len_rows]; omega, rfl, fun i hi => ?_⟩
    simp only [SObj.row, List.getD]
    split
    · rename_i h; rw [List.getElem?_append_left (by simp; omega), List.getElem?_take]; simp [h]
    · rename_i h
      rw [List.getElem?_append_right (by simp; omega)]
      simp [Nat.min_eq_left hn']
  | map es c => simp [SObj.sz?] at hz
  | tmap k v l => simp [SObj.sz?] at hz
  | iter a b => simp [SObj.sz?] at hz
  | loop a => simp [SObj.sz?] at hz
  | dfr a => simp [SObj.sz?] at hz
  | dead => simp [SObj.sz?] at hz
theorem plain_plain (o : SObj) : o.plain.plain = o.plain := by cases o <;> rfl
theorem appendObj_facts (o : SObj) {sz n : Nat} (s : Src) (hz : o.sz? = some sz) (hn : n ≤ o.len) :
    (appendObj o n s).sz? = some sz ∧ (appendObj o n s).len = n + s.len ∧ (appendObj o n s).ty = o.ty ∧
    ∀ i, i < n + s.len → (appendObj o n s).row i = if i < n then o.row i else s.rows.getD (i - n) [] := by
  obtain ⟨f1, f2, f3, _, f4, _⟩ := plain_facts o
  obtain ⟨g1, g2, g3, g4⟩ := appendObj_facts0 o.plain s (by rw [f1]; exact hz) (by rw [f2]; exact hn) (plain_plain o)
  have e : appendObj o.plain n s = appendObj o n s := by unfold appendObj; rw [plain_plain]
  rw [e] at g1 g2 g3 g4
  refine ⟨g1, g2, g3.trans f3, fun i hi => ?_⟩
  rw [g4 i hi]
  split
  · rename_i h; rw [f4 i (by omega)]
  · rfl
def sAppend0 (tab : Tab) (H : List SObj) (t t' : Nat) (a x : SV) : Res :=
  match tab.lookup t with
  | some { desc := .slice e, .. } => match tab.lookup e with
    | none => .fail
    | some i => if t' ≠ t ∨ i.size = 0 then .fail else match srcOf H i.size x with
      | none => .fail
      | some s => match a with
        | .pv (.lit (.slice none 0 0)) => .need s.solid <| .need (decide (s.len * i.bytes ≤ 140737488355328)) <| .need (decide (s.len ≤ 9223372036854775807)) <|
            .eff (.sl H.length i.size 0 s.len) (H ++ [appendObj (.vec e i.size []) 0 s]) [] []
        | .sl d sz st n => match H[d]? with
          | none => .fail
          | some o => if sz = i.size ∧ o.sz? = some i.size ∧ o.ty = e ∧ st = 0 then
              .need (decide (n ≤ o.len)) <| .need (decide ((n + s.len) * i.bytes ≤ 140737488355328)) <| .need (decide (n + s.len ≤ 9223372036854775807)) <|
                .eff (.sl d i.size 0 (n + s.len)) ((H.map (SObj.forget [d])).set d (appendObj (o.forget [d]) n (s.forget [d]))) [d] [d]
            else .fail
        | _ => .fail
  | _ => .fail
theorem SrcRep.news {M : Imm} {ρ : Env} {w : World} {sz : Nat} {v : Value} {s : Src} (h : SrcRep M ρ w sz v s) (hsz : 0 < sz) : ∃ (a : Option Addr) (c : Nat) (news : List Value), v = .slice a s.len c ∧ news.length = s.len * sz ∧
    (s.len = 0 ∨ ∃ b o, a = some ⟨b, o, none⟩ ∧ ∀ (j : Nat) (u : Value), news[j]? = some u → w.cell? ((⟨b, o, none⟩ : Addr).add j) = some u) ∧ (∀ u ∈ news, u.oneCell' = true) ∧
    (∀ i j x, i < s.len → (s.rows.getD i [])[j]? = some x → j < sz ∧ ∀ u, news[i * sz + j]? = some u → SRep M ρ u x) := by
  obtain ⟨a, c, hv, h | ⟨b, o, ha, h1, h2⟩⟩ := h.ex
  · refine ⟨a, c, [], hv, by simp [h], .inl h, by simp, fun i j x hi => by omega⟩
  · have hex : ∀ k, k < s.len * sz → ∃ u, w.cell? ⟨b, o + k, none⟩ = some u ∧ isCell u = true := fun k hk => by
      have hlt : k / sz < s.len := (Nat.div_lt_iff_lt_mul hsz).2 hk
      have := h1 (k / sz) (k % sz) hlt (Nat.mod_lt _ hsz)
      rwa [Nat.div_add_mod'] at this
    let f : Nat → Value := fun k => if h : k < s.len * sz then Classical.choose (hex k h) else undef
    have hf : ∀ k, k < s.len * sz → w.cell? ⟨b, o + k, none⟩ = some (f k) ∧ isCell (f k) = true := fun k hk => by simp only [f, dif_pos hk]; exact Classical.choose_spec (hex k hk)
    have hget : ∀ (k : Nat) (u : Value), ((List.range (s.len * sz)).map f)[k]? = some u → k < s.len * sz ∧ u = f k := fun k u hu => by
      simp only [List.getElem?_map, Option.map_eq_some_iff] at hu
      obtain ⟨m, hm, rfl⟩ := hu
      obtain ⟨g1, g2⟩ := List.getElem?_eq_some_iff.1 hm
      simp at g1 g2; subst g2; exact ⟨g1, rfl⟩
    refine ⟨a, c, (List.range (s.len * sz)).map f, hv, by simp, .inr ⟨b, o, ha, fun j u hu => ?_⟩, fun u hu => ?_, fun i j x hi hx => ?_⟩
    · obtain ⟨g1, rfl⟩ := hget j u hu
      rw [Addr.add_mid]; exact (hf j g1).1
    · obtain ⟨k, hk, rfl⟩ := List.mem_map.1 hu
      exact (hf k (by simpa using hk)).2
    · obtain ⟨g1, g2⟩ := h2 i j x hi hx
      refine ⟨g1, fun u hu => ?_⟩
      obtain ⟨g3, rfl⟩ := hget _ u hu
      exact g2 _ (hf _ g3).1
theorem append_none_run {P : Program} {w : World} {t ty e : Nat} {i : TI} (hu : P.underlying t = some (.slice e)) (he : TyOk P e i) {a b : Option Addr} {n c c' : Nat} (hn : n ≤ c) :
    (Builtin.append_ #[t, t] ty #[.slice a n c, .slice b 0 c']).run P w = .ok (.slice a n c) w := by
  obtain ⟨inf, hi, i1, _⟩ := he.inf
  cases a <;> cases b <;> simp [Builtin.append_, run_underlying hu, sizeOf, typeInfo, hi, Builtin.lenOf, hn, Builtin.firstCells, loadCells, loadCellsFrom, storeCells]
theorem append_cases {P : Program} {w : World} {t ty e : Nat} {i : TI} (hu : P.underlying t = some (.slice e)) (he : TyOk P e i) (hsz : 0 < i.size)
    {base : Option Addr} {n c : Nat} {cs : Array Value} (hg : (n = 0 ∧ c = 0) ∨ ∃ k, base = some ⟨k, 0, none⟩ ∧ w.heap[k]? = some (.cells cs e (0, 0)) ∧ c * i.size ≤ cs.size) (hn : n ≤ c)
    {a : Option Addr} {m c' : Nat} {news : List Value} (hl : news.length = m * i.size) (ha : m = 0 ∨ ∃ b o, a = some ⟨b, o, none⟩ ∧ ∀ (j : Nat) (u : Value), news[j]? = some u → w.cell? ((⟨b, o, none⟩ : Addr).add j) = some u)
    (h1 : ∀ u ∈ news, u.oneCell' = true) (hb : (n + m) * i.bytes ≤ 140737488355328) (h63 : n + m ≤ 9223372036854775807) :
    ∃ v' w', (Builtin.append_ #[t, t] ty #[.slice base n c, .slice a m c']).run P w = .ok v' w' ∧
      ((m = 0 ∧ v' = .slice base n c ∧ w' = w) ∨
       (∃ cs' gc, v' = .slice (some ⟨w.heap.size, 0, none⟩) (n + m) gc ∧ (w'.heap = w.heap.push (.cells cs' e (0, 0)) ∧ w'.os = w.os ∧ w'.output = w.output) ∧ n + m ≤ gc ∧ gc * i.size ≤ cs'.size ∧
          (∀ k, k < n * i.size → cs'[k]? = cs[k]?) ∧ (∀ k, k < m * i.size → cs'[n * i.size + k]? = news[k]?)) ∨
       (∃ k, base = some ⟨k, 0, none⟩ ∧ 0 < m ∧ w.heap[k]? = some (.cells cs e (0, 0)) ∧ n + m ≤ c ∧ c * i.size ≤ cs.size ∧ v' = .slice (some ⟨k, 0, none⟩) (n + m) c ∧ w' = w.setRow k (cs.toList.take (n * i.size) ++ news ++ cs.toList.drop (n * i.size + news.length)).toArray)) := by
  obtain ⟨inf, hinf, i1, i2, i3⟩ := he.inf
  rcases Nat.eq_zero_or_pos m with rfl | hm
  · exact ⟨_, w, append_none_run hu he hn, .inl ⟨rfl, rfl, rfl⟩⟩
  · obtain ⟨b, o, rfl, hnews⟩ := ha.resolve_left (by omega)
    have hlz : ∀ x, (Builtin.zeroCells i.zero.cells x).size = x * i.size := fun x => by rw [size_zeroCells, he.zsz]
    rcases hg with ⟨rfl, rfl⟩ | ⟨k, rfl, hgk, hcs⟩
    · have fin : ∀ (cc : Nat), m ≤ cc → ∃ cs' gc, Value.slice (some ⟨w.heap.size, 0, none⟩) m cc = .slice (some ⟨w.heap.size, 0, none⟩) (0 + m) gc ∧ ((w.drew.alloc (.cells (news.toArray ++ Builtin.zeroCells i.zero.cells (cc - m)) e)).heap = w.heap.push (.cells cs' e (0, 0)) ∧ (w.drew.alloc (.cells (news.toArray ++ Builtin.zeroCells i.zero.cells (cc - m)) e)).os = w.os ∧ (w.drew.alloc (.cells (news.toArray ++ Builtin.zeroCells i.zero.cells (cc - m)) e)).output = w.output) ∧ 0 + m ≤ gc ∧ gc * i.size ≤ cs'.size ∧
          (∀ k, k < 0 * i.size → cs'[k]? = cs[k]?) ∧ (∀ k, k < m * i.size → cs'[0 * i.size + k]? = news[k]?) := fun cc hge => by
        refine ⟨_, cc, by simp, ⟨rfl, rfl, rfl⟩, by simpa using hge, ?_, fun k hk => by omega, fun k hk => ?_⟩
        · simp only [Array.size_append, List.size_toArray, hl, hlz, ← Nat.add_mul]
          exact Nat.mul_le_mul_right _ (by omega)
        · simp only [Nat.zero_mul, Nat.zero_add]
          rw [Array.getElem?_append_left (by simp [hl]; exact hk)]; simp
      cases base with
      | none =>
        have hr := run_append_nil (P := P) w t ty e inf i.zero hu hinf i3 ⟨b, o, none⟩ m c' news (by rw [i1]; exact hl) hnews hm (by omega) (by rw [i2]; simp at hb; omega)
        exact ⟨_, _, hr, .inr (.inl (fin _ (grownCap_ge w m 0 e)))⟩
      | some ad =>
        have hr := run_append_grow (P := P) w t ty e inf i.zero hu hinf i3 ad 0 0 [] (by simp) (fun j u hu' => by simp at hu') ⟨b, o, none⟩ m c' news (by rw [i1]; exact hl) hnews (by omega) (by omega)
          (growslice_fits (by omega) (by rw [i2]; exact hb))
        simp only [Nat.zero_add, Array.empty_append] at hr
        exact ⟨_, _, hr, .inr (.inl (fin _ (grownCap_ge w m 0 e)))⟩
    · by_cases hroom : n + m ≤ c
      · have hfit : n * inf.size + news.length ≤ cs.size := by
          rw [hl, i1, ← Nat.add_mul]; exact Nat.le_trans (Nat.mul_le_mul_right _ hroom) hcs
        have hr := run_append_room (P := P) w t ty e inf hu hinf k n c cs hgk ⟨b, o, none⟩ m c' news (by rw [i1]; exact hl) hnews h1 hroom hfit
        rw [i1] at hr
        exact ⟨_, _, hr, .inr (.inr ⟨k, rfl, hm, hgk, hroom, hcs, rfl, rfl⟩)⟩
      · have hnc : n * i.size ≤ cs.size := Nat.le_trans (Nat.mul_le_mul_right _ hn) hcs
        have holds : ∀ (j : Nat) (u : Value), (cs.toList.take (n * i.size))[j]? = some u → w.cell? ((⟨k, 0, none⟩ : Addr).add j) = some u := fun j u hu' => by
          rw [List.getElem?_take] at hu'
          split at hu'
          · rw [Addr.add_mid, Nat.zero_add]; simp [World.cell?, hgk]; simpa using hu'
          · cases hu'
        have hge := grownCap_ge w (n + m) c e
        have hr := run_append_grow (P := P) w t ty e inf i.zero hu hinf i3 ⟨k, 0, none⟩ n c (cs.toList.take (n * i.size)) (by simp [i1]; omega) holds ⟨b, o, none⟩ m c' news (by rw [i1]; exact hl) hnews (by omega) (by omega)
          (growslice_fits (by omega) (by rw [i2]; exact hb))
        have hlt : (cs.toList.take (n * i.size)).length = n * i.size := by simp; omega
        refine ⟨_, _, hr, .inr (.inl ⟨_, _, rfl, ⟨rfl, rfl, rfl⟩, hge, ?_, fun j hj => ?_, fun j hj => ?_⟩)⟩
        · simp only [Array.size_append, List.size_toArray, hl, hlz, hlt, ← Nat.add_mul]
          exact Nat.mul_le_mul_right _ (by omega)
        · rw [Array.getElem?_append_left (by simp [hlt]; omega), Array.getElem?_append_left (by simp [hlt]; omega)]
          simp [hj]
        · rw [Array.getElem?_append_left (by simp [hlt, hl]; omega), Array.getElem?_append_right (by simp [hlt])]
          simp [hlt]
theorem append_own {M : Imm} {ρ' : Env} {w' : World} {s : Nat} {o : SObj} {sz n e : Nat} {src : Src} {p' : Place} {cs' : Array Value} {news : List Value} (hz : o.sz? = some sz) (hn : n ≤ o.len) (hty : o.ty = e)
    (hp' : ρ' s = some p') (hheap : w'.heap[p'.block]? = some (.cells cs' e (0, 0))) (hcap : p'.cap ≤ cs'.size) (hfit : (n + src.len) * sz ≤ p'.cap)
    (h4 : ∀ i j, i < n → j < sz → ∃ v, cs'[i * sz + j]? = some v ∧ isCell v = true) (h4' : ∀ k, k < src.len * sz → cs'[n * sz + k]? = news[k]?) (hl : news.length = src.len * sz) (h1 : ∀ u ∈ news, u.oneCell' = true)
    (h5 : ∀ i j x, i < n → (o.row i)[j]? = some x → j < sz ∧ ∀ v, cs'[i * sz + j]? = some v → SRep M ρ' v x)
    (h6 : ∀ i j x, i < src.len → (src.rows.getD i [])[j]? = some x → j < sz ∧ ∀ u, news[i * sz + j]? = some u → SRep M ρ' u x) : OwnAt M ρ' w' s (appendObj o n src) := by
  obtain ⟨m1, m2, m3, m4⟩ := appendObj_facts o src hz hn
  have at' : ∀ i j, n ≤ i → i < n + src.len → j < sz → cs'[i * sz + j]? = news[(i - n) * sz + j]? ∧ (i - n) * sz + j < news.length := fun i j hi hi' hj => by
    have e1 : i * sz = n * sz + (i - n) * sz := by rw [← Nat.add_mul]; congr 1; omega
    have hlt := flat_lt hj (show i - n < src.len by omega)
    rw [e1, Nat.add_assoc]
    exact ⟨h4' _ hlt, by rw [hl]; exact hlt⟩
  refine RowOf.ownAt m1 hp' (fun ty' sz' rows eq => ?_) (fun ty' sz' rows eq => ?_) (fun ty' row l2 eq => ?_) hheap hcap (by rw [m2]; exact hfit) (fun i j hi hj => ?_) (fun i j x hi hx => ?_)
  · rw [eq] at m3; exact m3.trans hty
  · rw [eq] at m3; exact m3.trans hty
  · rw [eq] at m3; exact m3.trans hty
  · rw [m2] at hi
    by_cases hin : i < n
    · exact h4 i j hin hj
    · obtain ⟨q1, q2⟩ := at' i j (by omega) hi hj
      rw [q1]; exact ⟨news[(i - n) * sz + j], by simp [q2], h1 _ (List.getElem_mem q2)⟩
  · rw [m2] at hi; rw [m4 i hi] at hx
    split at hx
    · rename_i hin; exact h5 i j x hin hx
    · rename_i hin
      obtain ⟨q1, q2⟩ := h6 (i - n) j x (by omega) hx
      exact ⟨q1, fun v hv => by rw [(at' i j (by omega) hi q1).1] at hv; exact q2 v hv⟩
theorem forget_row (d : List Nat) (o : SObj) (i : Nat) : (o.forget d).row i = (o.row i).map (SV.forget d) ∨ (o.forget d).row i = o.row i ∧ ∀ x ∈ o.row i, ∃ p, x = .pv p := by
  cases o with
  | mix ty sz rows =>
    left
    simp only [SObj.forget, SObj.row, List.getD, List.getElem?_map]
    cases rows[i]? <;> simp
  | vec ty sz rows =>
    right
    refine ⟨rfl, fun x hx => ?_⟩
    simp only [SObj.row, List.mem_map] at hx
    obtain ⟨p, _, rfl⟩ := hx; exact ⟨p, rfl⟩
  | tvec ty row l =>
    right
    refine ⟨rfl, fun x hx => ?_⟩
    simp only [SObj.row, List.mem_map] at hx
    obtain ⟨p, _, rfl⟩ := hx; exact ⟨p, rfl⟩
  | map es c => left; rfl
  | tmap k v l => left; rfl
  | iter a b => left; rfl
  | loop a => left; rfl
  | dfr a => left; rfl
  | dead => left; rfl
theorem forget_sz (d : List Nat) (o : SObj) : (o.forget d).sz? = o.sz? ∧ (o.forget d).len = o.len ∧ (o.forget d).ty = o.ty := by
  cases o <;> simp [SObj.forget, SObj.sz?, SObj.len, SObj.ty]
theorem forget_cell {M : Imm} {ρ ρ' : Env} {d : List Nat} (hρ : Env.leBut d ρ ρ') {o : SObj} {i j : Nat} {x : SV} (hx : ((o.forget d).row i)[j]? = some x) :
    ∃ y, (o.row i)[j]? = some y ∧ ∀ v, SRep M ρ v y → SRep M ρ' v x := by
  rcases forget_row d o i with h | ⟨h, hp⟩
  · rw [h, List.getElem?_map, Option.map_eq_some_iff] at hx
    obtain ⟨y, hy, rfl⟩ := hx
    exact ⟨y, hy, fun v hv => hv.forget M.le_refl hρ⟩
  · rw [h] at hx
    obtain ⟨p, rfl⟩ := hp x (List.mem_of_getElem? hx)
    exact ⟨_, hx, fun v hv => by cases hv with | pv hv => exact .pv hv⟩
theorem src_cell {M : Imm} {ρ ρ' : Env} {d : List Nat} (hρ : Env.leBut d ρ ρ') {s : Src} {i j : Nat} {x : SV} (hx : ((s.forget d).rows.getD i [])[j]? = some x) :
    ∃ y, (s.rows.getD i [])[j]? = some y ∧ ∀ v, SRep M ρ v y → SRep M ρ' v x := by
  cases s with
  | pure r =>
    refine ⟨x, hx, fun v hv => ?_⟩
    simp only [Src.forget, Src.rows, List.getD, List.getElem?_map] at hx
    cases e : r[i]? with
    | none => simp [e] at hx
    | some q =>
      simp [e] at hx
      obtain ⟨p, _, rfl⟩ := hx
      cases hv with | pv hv => exact .pv hv
  | mixed r =>
    simp only [Src.forget, Src.rows, List.getD, List.getElem?_map] at hx ⊢
    cases e : r[i]? with
    | none => simp [e] at hx
    | some q =>
      simp [e] at hx ⊢
      obtain ⟨y, hy, rfl⟩ := hx
      exact ⟨y, hy, fun v hv => hv.forget M.le_refl hρ⟩
theorem sAppend0_sound {P : Program} {tab : Tab} (htab : TabOk P tab) {M : Imm} {ρ : Env} {H : List SObj} {w : World} {K : Post} (hm : Mem M ρ H w) {t t' ty : Nat} {a x : SV} {v u : Value} (ha : SRep M ρ v a) (hx : SRep M ρ u x)
    (h : (sAppend0 tab H t t' a x).holds H K) : DoesV P (Builtin.append_ #[t, t'] ty #[v, u]) M ρ H w K := by
  unfold sAppend0 at h
  split at h
  · rename_i e sz' by' zr rw' hte
    have htt := htab.get hte
    split at h
    · exact h.elim
    · rename_i i hi
      have ht := htab.get hi
      split at h
      · exact h.elim
      · rename_i hcond
        obtain ⟨rfl, hsz⟩ : t' = t ∧ 0 < i.size := ⟨Classical.byContradiction fun e => hcond (.inl e), Nat.pos_of_ne_zero fun e => hcond (.inr e)⟩
        split at h
        · exact h.elim
        · rename_i src hsrc
          obtain ⟨ad, c', news, rfl, hl, hcell, hone, hrep⟩ := (srcOf_sound hm hx hsrc).news hsz
          split at h
          · simp only [Res.holds, decide_eq_true_eq] at h
            obtain ⟨hsol, hb, h63, h⟩ := h
            have := ha.lit_eq; subst this
            obtain ⟨v', w', hr, hcase⟩ := append_cases (P := P) (w := w) (ty := ty) (base := none) (n := 0) (c := 0) (cs := #[]) (c' := c') htt.und ht hsz (.inl ⟨rfl, rfl⟩) (Nat.le_refl _) hl hcell hone (by simpa using hb) (by simpa using h63)
            rcases hcase with ⟨hm0, rfl, rfl⟩ | ⟨cs', gc, rfl, ⟨hheap, hio⟩, hgc, hcs, _, hnew⟩ | ⟨k, hk, _⟩
            · obtain ⟨g1, g2⟩ := hm.virt (ty := e) (sz := i.size)
              have e' : appendObj (.vec e i.size []) 0 src = .vec e i.size [] := by
                cases src with
                | pure ps => simp [Src.len] at hm0; subst hm0; rfl
                | mixed xs => simp [Src.len] at hm0; subst hm0; simp [Src.solid] at hsol
              rw [e', hm0] at h
              exact ⟨_, _, hr, _, _, [], [], M, ρ, h, .slz _ _ _ _, g1, g2⟩
            · have hle : ∀ q, ρ.le (ρ.set H.length q) := fun q s p hp => by
                by_cases e : s = H.length
                · subst e; rw [hm.fresh _ (Nat.le_refl _)] at hp; cases hp
                · rw [Env.set_ne _ _ e]; exact hp
              have ho : OwnAt M (ρ.set H.length (some ⟨w.heap.size, cs'.size⟩)) w' H.length (appendObj (.vec e i.size []) 0 src) := by
                refine append_own (p' := ⟨w.heap.size, cs'.size⟩) (e := e) (sz := i.size) rfl (Nat.zero_le _) rfl (Env.set_self ..) (by rw [hheap]; simp) (Nat.le_refl _) ?_ (fun i j hi => by omega) (by simpa using hnew) hl hone (fun i j x hi => by omega) (fun i j x hi hx => ?_)
                · exact Nat.le_trans (Nat.mul_le_mul_right _ hgc) hcs
                · obtain ⟨q1, q2⟩ := hrep i j x hi hx
                  exact ⟨q1, fun u hu => (q2 u hu).mono M.le_refl (hle _)⟩
              obtain ⟨g1, g2⟩ := hm.alloc hheap ho hio
              refine ⟨_, _, hr, _, _, [], [], M, _, h, ?_, g1, g2⟩
              rw [Nat.zero_add]
              exact .sl _ _ 0 _ gc 0 ⟨w.heap.size, cs'.size⟩ (Env.set_self ..) (by simp) (by simpa using hcs) (by omega)
            · cases hk
          · rename_i d sz st n
            split at h
            · exact h.elim
            · rename_i o ho
              split at h
              · rename_i hc2
                obtain ⟨rfl, hz, hty, rfl⟩ := hc2
                simp only [Res.holds, decide_eq_true_eq] at h
                obtain ⟨hn, hb, h63, h⟩ := h
                have hlive := live_of_sz hz
                obtain ⟨f1, f2, f3⟩ := forget_sz [d] o
                have hz' : (o.forget [d]).sz? = some i.size := f1.trans hz
                have hn' : n ≤ (o.forget [d]).len := by rw [f2]; exact hn
                obtain ⟨m1, m2, m3, m4⟩ := appendObj_facts (o.forget [d]) (src.forget [d]) hz' hn'
                have hlv' := live_of_sz m1
                have hown := hm.own d o ho
                have but : ∀ q, Env.leBut [d] ρ (ρ.set d q) := fun q s p hs hp => by
                  have : s ≠ d := by simpa using hs
                  rw [Env.set_ne _ _ this]; exact hp
                obtain ⟨base, c, cs, rfl, hg, hnc, hcap⟩ : ∃ (base : Option Addr) (c : Nat) (cs : Array Value), v = .slice base n c ∧ ((n = 0 ∧ c = 0) ∨ ∃ k, base = some ⟨k, 0, none⟩ ∧ w.heap[k]? = some (.cells cs e (0, 0)) ∧ c * i.size ≤ cs.size) ∧ n ≤ c ∧
                    ((n = 0 ∧ c = 0) ∨ ∃ p, ρ d = some p ∧ base = some ⟨p.block, 0, none⟩ ∧ c * i.size ≤ p.cap ∧ w.heap[p.block]? = some (.cells cs e (0, 0))) := by
                  cases ha with
                  | slz _ _ _ a' => exact ⟨a', 0, #[], rfl, .inl ⟨rfl, rfl⟩, Nat.le_refl _, .inl ⟨rfl, rfl⟩⟩
                  | sl _ _ _ _ c k p hp hk hc hnc =>
                    obtain ⟨cs, ty0, a1, a2, a3, _⟩ := (hown.rowOf hz hp).ex
                    obtain ⟨cs2, b1⟩ := hown.heap hz hp
                    rw [hty] at b1
                    rw [a1] at b1; cases b1
                    have hk0 : k = 0 := by simpa using hk
                    subst hk0
                    have hcc : c * i.size ≤ p.cap := by simpa using hc
                    exact ⟨_, c, cs, rfl, .inr ⟨p.block, rfl, a1, Nat.le_trans hcc a2⟩, hnc, .inr ⟨p, hp, rfl, hcc, a1⟩⟩
                obtain ⟨v', w', hr, hcase⟩ := append_cases (P := P) (w := w) (ty := ty) (c' := c') htt.und ht hsz hg hnc hl hcell hone hb h63
                have old : ∀ p, ρ d = some p → ∃ cs0, w.heap[p.block]? = some (.cells cs0 e (0, 0)) ∧ p.cap ≤ cs0.size ∧ n * i.size ≤ p.cap ∧
                    (∀ r j, r < n → j < i.size → ∃ v, cs0[r * i.size + j]? = some v ∧ isCell v = true) ∧
                    (∀ q r j x, r < n → ((o.forget [d]).row r)[j]? = some x → j < i.size ∧ ∀ v, cs0[r * i.size + j]? = some v → SRep M (ρ.set d q) v x) := fun p hp => by
                  obtain ⟨cs0, ty0, a1, a2, a3, a4, a5⟩ := (hown.rowOf hz hp).ex
                  obtain ⟨cs2, b1⟩ := hown.heap hz hp
                  rw [hty] at b1
                  rw [a1] at b1; cases b1
                  refine ⟨cs0, a1, a2, Nat.le_trans (Nat.mul_le_mul_right _ hn) a3, fun r j hr hj => a4 r j (by omega) hj, fun q r j x hr hx => ?_⟩
                  obtain ⟨y, hy, hv⟩ := forget_cell (M := M) (but q) hx
                  obtain ⟨c1, c2⟩ := a5 r j y (by omega) hy
                  exact ⟨c1, fun v hvv => hv v (c2 v hvv)⟩
                have srcs : ∀ q r j x, r < (src.forget [d]).len → ((src.forget [d]).rows.getD r [])[j]? = some x → j < i.size ∧ ∀ u, news[r * i.size + j]? = some u → SRep M (ρ.set d q) u x := fun q r j x hr hx => by
                  rw [Src.forget_len] at hr
                  obtain ⟨y, hy, hv⟩ := src_cell (M := M) (but q) hx
                  obtain ⟨c1, c2⟩ := hrep r j y hr hy
                  exact ⟨c1, fun u hu => hv u (c2 u hu)⟩
                have hl' : news.length = (src.forget [d]).len * i.size := by rw [Src.forget_len]; exact hl
                rcases hcase with ⟨hm0, rfl, hww⟩ | ⟨cs', gc, rfl, ⟨hheap, hio⟩, hgc, hcs, hold, hnew⟩ | ⟨k, hk, hmp, hheap, hroom, hcs, rfl, rfl⟩
                ·
                  have hww' := hww.symm
                  subst hww'
                  have hos : OwnAt M (ρ.set d (ρ d)) w d (appendObj (o.forget [d]) n (src.forget [d])) := by
                    cases hp : ρ d with
                    | none =>
                      have hn0 : n = 0 := by
                        rcases hcap with ⟨h0, _⟩ | ⟨p, h0, _⟩
                        · exact h0
                        · rw [hp] at h0; cases h0
                      have hl0 : (appendObj (o.forget [d]) n (src.forget [d])).len = 0 := by rw [m2, Src.forget_len, hn0, hm0]
                      generalize appendObj (o.forget [d]) n (src.forget [d]) = oo at *
                      cases oo with
                      | vec _ _ rows => exact .inl ⟨by rw [Env.set_self], by simpa [SObj.len] using hl0⟩
                      | tvec _ _ l2 => exact .inl ⟨by rw [Env.set_self], by simpa [SObj.len, rowsPV] using hl0⟩
                      | mix _ _ rows => exact .inl ⟨by rw [Env.set_self], by simpa [SObj.len] using hl0⟩
                      | map _ _ => simp [SObj.sz?] at m1
                      | tmap _ _ _ => simp [SObj.sz?] at m1
                      | iter _ _ => simp [SObj.sz?] at m1
                      | loop _ => simp [SObj.sz?] at m1
                      | dfr _ => simp [SObj.sz?] at m1
                      | dead => simp [SObj.sz?] at m1
                    | some p =>
                      obtain ⟨cs0, b1, b2, b3, b4, b5⟩ := old p hp
                      refine append_own (p' := p) (e := e) hz' hn' (f3.trans hty) (Env.set_self ..) b1 b2 (by rw [Src.forget_len, hm0]; exact b3) b4 (fun k hk => by rw [Src.forget_len, hm0] at hk; omega) hl' hone (b5 _) (srcs _)
                  obtain ⟨g1, g2⟩ := hm.redo (q := ρ d) ho hlive hlv' (fun b hb _ => rfl) (Nat.le_refl _) (fun p' hp' => .inr ⟨p', hp', rfl⟩) hos
                  refine ⟨_, _, hr, _, _, [d], [d], M, _, h, ?_, g1, g2⟩
                  rw [hm0, Nat.add_zero]
                  rcases hcap with ⟨h0, h0'⟩ | ⟨p, hp, rfl, hcp, _⟩
                  · rw [h0, h0']; exact .slz _ _ _ _
                  · exact .sl _ _ 0 n c 0 p (by rw [Env.set_self, hp]) (by simp) (by simpa using hcp) hnc
                ·
                  have hos : OwnAt M (ρ.set d (some ⟨w.heap.size, cs'.size⟩)) w' d (appendObj (o.forget [d]) n (src.forget [d])) := by
                    refine append_own (p' := ⟨w.heap.size, cs'.size⟩) (e := e) hz' hn' (f3.trans hty) (Env.set_self ..) (by rw [hheap]; simp) (Nat.le_refl _) (by rw [Src.forget_len]; exact Nat.le_trans (Nat.mul_le_mul_right _ hgc) hcs)
                      (fun r j hr hj => ?_) (by rw [Src.forget_len]; exact hnew) hl' hone (fun r j x hr hx => ?_) (srcs _)
                    · rcases hcap with ⟨h0, _⟩ | ⟨p, hp, _, _, hcs0⟩
                      · omega
                      · obtain ⟨cs0, b1, b2, b3, b4, b5⟩ := old p hp
                        rw [hcs0] at b1; cases b1
                        rw [hold _ (flat_lt hj hr)]; exact b4 r j hr hj
                    · rcases hcap with ⟨h0, _⟩ | ⟨p, hp, _, _, hcs0⟩
                      · omega
                      · obtain ⟨cs0, b1, b2, b3, b4, b5⟩ := old p hp
                        rw [hcs0] at b1; cases b1
                        obtain ⟨c1, c2⟩ := b5 (some ⟨w.heap.size, cs'.size⟩) r j x hr hx
                        exact ⟨c1, fun v hv => c2 v (by rw [hold _ (flat_lt c1 hr)] at hv; exact hv)⟩
                  obtain ⟨g1, g2⟩ := hm.redo (q := some ⟨w.heap.size, cs'.size⟩) (w' := w') ho hlive hlv' (fun b hb _ => by rw [hheap, Array.getElem?_push]; simp [Nat.ne_of_lt hb]) (by rw [hheap]; simp) (fun p' hp' => by cases hp'; exact .inl (Nat.le_refl _)) hos hio
                  refine ⟨_, _, hr, _, _, [d], [d], M, _, h, ?_, g1, g2⟩
                  exact .sl _ _ 0 _ gc 0 ⟨w.heap.size, cs'.size⟩ (Env.set_self ..) (by simp) (by simpa using hcs) hgc
                ·
                  obtain ⟨p, hp, hbase, hcp, hcs0⟩ : ∃ p, ρ d = some p ∧ k = p.block ∧ c * i.size ≤ p.cap ∧ w.heap[p.block]? = some (.cells cs e (0, 0)) := by
                    rcases hcap with ⟨h0, h0'⟩ | ⟨p, hp, hb, hcp, hcs0⟩
                    · omega
                    · rw [hk] at hb; cases hb; exact ⟨p, hp, rfl, hcp, hcs0⟩
                  subst hbase
                  have hnc' : n * i.size + news.length ≤ cs.size := by rw [hl, ← Nat.add_mul]; exact Nat.le_trans (Nat.mul_le_mul_right _ hroom) hcs
                  generalize hcs' : (cs.toList.take (n * i.size) ++ news ++ cs.toList.drop (n * i.size + news.length)).toArray = cs' at *
                  have hget : ∀ m : Nat, cs'[m]? = if m < n * i.size then cs[m]? else if m < n * i.size + news.length then news[m - n * i.size]? else cs[m]? := fun m => by
                    rw [← hcs', List.getElem?_toArray, splice_get _ _ _ _ (by simpa using hnc')]
                    simp only [Array.getElem?_toList]
                  have hsize : cs'.size = cs.size := by rw [← hcs']; simp; omega
                  have hheap' : (w.setRow p.block cs').heap[p.block]? = some (.cells cs' e (0, 0)) := setRow_heap w p.block cs cs' e (0, 0) hcs0
                  obtain ⟨cs0, b1, b2, b3, b4, b5⟩ := old p hp
                  rw [hcs0] at b1; cases b1
                  have hos : OwnAt M (ρ.set d (some p)) (w.setRow p.block cs') d (appendObj (o.forget [d]) n (src.forget [d])) := by
                    refine append_own (p' := p) (e := e) hz' hn' (f3.trans hty) (Env.set_self ..) hheap' (by rw [hsize]; exact b2) (by rw [Src.forget_len]; exact Nat.le_trans (Nat.mul_le_mul_right _ hroom) hcp)
                      (fun r j hr hj => ?_) (fun k hk => ?_) hl' hone (fun r j x hr hx => ?_) (srcs _)
                    · rw [hget, if_pos (flat_lt hj hr)]; exact b4 r j hr hj
                    · rw [Src.forget_len, ← hl] at hk
                      rw [hget, if_neg (by omega), if_pos (by omega)]; congr 1; omega
                    · obtain ⟨c1, c2⟩ := b5 (some p) r j x hr hx
                      exact ⟨c1, fun v hv => c2 v (by rw [hget, if_pos (flat_lt c1 hr)] at hv; exact hv)⟩
                  obtain ⟨g1, g2⟩ := hm.redo (q := some p) (w' := w.setRow p.block cs') ho hlive hlv' (fun b hb hbp => setRow_ne (hbp p hp)) (by rw [setRow_size]; exact Nat.le_refl _) (fun p' hp' => by cases hp'; exact .inr ⟨p, hp, rfl⟩) hos
                  refine ⟨_, _, hr, _, _, [d], [d], M, _, h, ?_, g1, g2⟩
                  exact .sl _ _ 0 _ c 0 p (Env.set_self ..) (by simp) (by simpa using hcp) hroom
              · exact h.elim
          · exact h.elim
  · exact h.elim
theorem Mem.plain {M : Imm} {ρ : Env} {H : List SObj} {w : World} : Mem M ρ (H.map SObj.plain) w ↔ Mem M ρ H w := by
  have back : ∀ (s : Nat) (o : SObj), (H.map SObj.plain)[s]? = some o → ∃ x, H[s]? = some x ∧ o = x.plain := fun s o ho => by
    simp only [List.getElem?_map, Option.map_eq_some_iff] at ho
    obtain ⟨x, hx, rfl⟩ := ho; exact ⟨x, hx, rfl⟩
  have there : ∀ (s : Nat) (o : SObj), H[s]? = some o → (H.map SObj.plain)[s]? = some o.plain := fun s o ho => by simp [ho]
  constructor
  · intro h
    exact ⟨h.imm, fun s o ho => OwnAt.plain.1 (h.own s _ (there s o ho)), fun s o p ho hl hp => h.sep s _ p (there s o ho) (by rw [(plain_facts o).2.2.2.1]; exact hl) hp,
      fun s s' o o' p p' ho ho' hl hl' hp hp' hb => h.dis s s' _ _ p p' (there s o ho) (there s' o' ho') (by rw [(plain_facts o).2.2.2.1]; exact hl) (by rw [(plain_facts o').2.2.2.1]; exact hl') hp hp' hb,
      fun s hs => h.fresh s (by simpa using hs)⟩
  · intro h
    refine ⟨h.imm, fun s o ho => ?_, fun s o p ho hl hp => ?_, fun s s' o o' p p' ho ho' hl hl' hp hp' hb => ?_, fun s hs => h.fresh s (by simpa using hs)⟩
    · obtain ⟨x, hx, rfl⟩ := back s o ho; exact OwnAt.plain.2 (h.own s x hx)
    · obtain ⟨x, hx, rfl⟩ := back s o ho; rw [(plain_facts x).2.2.2.1] at hl; exact h.sep s x p hx hl hp
    · obtain ⟨x, hx, rfl⟩ := back s o ho; obtain ⟨y, hy, rfl⟩ := back s' o' ho'
      rw [(plain_facts x).2.2.2.1] at hl; rw [(plain_facts y).2.2.2.1] at hl'
      exact h.dis s s' x y p p' hx hy hl hl' hp hp' hb
theorem Owned.plain {ρ : Env} {H : List SObj} {b : Nat} : Owned ρ (H.map SObj.plain) b ↔ Owned ρ H b := by
  constructor
  · rintro ⟨s, o, p, h1, h2, h3, h4⟩
    simp only [List.getElem?_map, Option.map_eq_some_iff] at h1
    obtain ⟨x, hx, rfl⟩ := h1
    rw [(plain_facts x).2.2.2.1] at h2
    exact ⟨s, x, p, hx, h2, h3, h4⟩
  · rintro ⟨s, o, p, h1, h2, h3, h4⟩
    exact ⟨s, o.plain, p, by simp [h1], by rw [(plain_facts o).2.2.2.1]; exact h2, h3, h4⟩
theorem Fr.plain {M M' : Imm} {ρ ρ' : Env} {H H' : List SObj} {w w' : World} {n : Nat} {t f : List Nat} (h : Fr M ρ (H.map SObj.plain) w M' ρ' (H'.map SObj.plain) w' n t f) : Fr M ρ H w M' ρ' H' w' n t f := by
  refine ⟨h.imm, fun b o a c => (h.new b o a c).imp id Owned.plain.1, fun b hb => (h.own b (Owned.plain.2 hb)).imp id Owned.plain.1, fun b hb hn => h.same b hb (fun hh => hn (Owned.plain.1 hh)), h.grow, fun s o hs hx ho hl => ?_, h.stay, h.io⟩
  obtain ⟨⟨o', h1, h2⟩, h3⟩ := h.keep s o.plain hs hx (by simp [ho]) (by rw [(plain_facts o).2.2.2.1]; exact hl)
  simp only [List.getElem?_map, Option.map_eq_some_iff] at h1
  obtain ⟨x, hx', rfl⟩ := h1
  rw [(plain_facts x).2.2.2.1] at h2
  exact ⟨⟨x, hx', h2⟩, h3⟩
theorem plain_idem (H : List SObj) : (H.map SObj.plain).map SObj.plain = H.map SObj.plain := by
  rw [List.map_map]; exact List.map_congr_left fun o _ => plain_plain o
theorem DoesV.plain {P : Program} {S : Sem Value} {M : Imm} {ρ : Env} {H : List SObj} {w : World} {K : Post} (h : DoesV P S M ρ (H.map SObj.plain) w fun x H1 t f => ∃ H', H1.map SObj.plain = H'.map SObj.plain ∧ K x H' t f) : DoesV P S M ρ H w K := by
  obtain ⟨v, w', hr, x, H1, t, f, M', ρ', ⟨H', e, hk⟩, hs, hm, hf⟩ := h
  refine ⟨v, w', hr, x, H', t, f, M', ρ', hk, hs, ?_, ?_⟩
  · rw [← Mem.plain, ← e, Mem.plain]; exact hm
  · rw [List.length_map] at hf
    refine Fr.plain ?_
    rw [← e]
    have h2 : Fr M ρ (H.map SObj.plain) w M' ρ' ((H1.map SObj.plain)) w' H.length t f := by
      refine ⟨hf.imm, hf.new, fun b hb => hf.own b (Owned.plain.1 hb), hf.same, hf.grow, fun s o hs hx ho hl => ?_, hf.stay, hf.io⟩
      obtain ⟨⟨o', h1, h2⟩, h3⟩ := hf.keep s o hs hx ho hl
      exact ⟨⟨o'.plain, by simp [h1], by rw [(plain_facts o').2.2.2.1]; exact h2⟩, h3⟩
    exact h2
def RowsOk (row : List Ty) (ps : List (List PV)) (l : List (Els row)) : Prop :=
  l.length = ps.length ∧ ∀ (i : Nat) (r' : List PV), (rowsPV row l)[i]? = some r' → ∃ r, ps[i]? = some r ∧ ∀ (j : Nat) (q : PV), r'[j]? = some q → ∃ p, r[j]? = some p ∧ ∀ (M : Imm) (v : Value), PRep M v p → PRep M v q
theorem RowsOk.refl (row : List Ty) (l : List (Els row)) : RowsOk row (rowsPV row l) l := ⟨by simp [rowsPV], fun i r' h => ⟨r', h, fun j q hq => ⟨q, hq, fun _ _ h => h⟩⟩⟩
theorem RowsOk.of {row : List Ty} {ps : List (List PV)} {l : List (Els row)} (h : mapO (ofRow row) ps = some l) : RowsOk row ps l := by
  obtain ⟨g1, g2⟩ := mapO_spec h
  refine ⟨g1, fun i r' hr => ?_⟩
  simp only [rowsPV, List.getElem?_map, Option.map_eq_some_iff] at hr
  obtain ⟨y, hy, rfl⟩ := hr
  obtain ⟨q, hq, hq2⟩ := g2 i y hy
  exact ⟨q, hq, (ofRow_sound hq2).2⟩
theorem RowsOk.append {row : List Ty} {ps : List (List PV)} {l : List (Els row)} (l0 : List (Els row)) (h : RowsOk row ps l) : RowsOk row (rowsPV row l0 ++ ps) (l0 ++ l) := by
  refine ⟨by simp [rowsPV, h.1], fun i r' hr => ?_⟩
  simp only [rowsPV, List.map_append] at hr ⊢
  rw [List.getElem?_append] at hr ⊢
  split at hr
  · rename_i hlt
    rw [if_pos hlt]
    exact ⟨r', hr, fun j q hq => ⟨q, hq, fun _ _ h => h⟩⟩
  · rename_i hlt
    rw [if_neg hlt]
    exact h.2 _ r' hr
def srcRows (H : List SObj) (row : List Ty) (x : SV) : Option (Bool × List (Els row)) :=
  match x with
  | .pv (.tsl row' l) => (castRows row' row l).map fun l => (true, l)
  | .pv (.rsl sz rows) => if sz = row.length then (mapO (ofRow row) rows).map fun l => (true, l) else none
  | .pv (.lit v) => if Value.isNil v = true then some (true, []) else none
  | .sl s sz st len => if sz = row.length then match H[s]? with
      | some (.tvec _ row' l) => (castRows row' row l).map fun l => (decide (st + len ≤ l.length), (l.drop st).take len)
      | some (.vec _ so rows) => if so = row.length ∧ st + len ≤ rows.length then (mapO (ofRow row) ((rows.drop st).take len)).map fun l => (true, l) else none
      | _ => none
    else none
  | _ => none
theorem srcRows_sound {H : List SObj} {row : List Ty} {x : SV} {l : List (Els row)} {c : Bool} (h : srcRows H row x = some (c, l)) (hc : c = true) : ∃ ps, srcOf (H.map SObj.plain) row.length x.untyped = some (.pure ps) ∧ RowsOk row ps l := by
  unfold srcRows at h
  split at h
  · rename_i row' l0
    simp only [Option.map_eq_some_iff, Prod.mk.injEq] at h
    obtain ⟨l1, h1, _, rfl⟩ := h
    obtain ⟨e, rfl⟩ := castRows_eq h1
    subst e
    exact ⟨rowsPV row' l0, by simp [SV.untyped, srcOf], RowsOk.refl _ _⟩
  · rename_i sz rows
    split at h
    · rename_i e
      simp only [Option.map_eq_some_iff, Prod.mk.injEq] at h
      obtain ⟨l1, h1, _, rfl⟩ := h
      exact ⟨rows, by simp [SV.untyped, srcOf, e], RowsOk.of h1⟩
    · cases h
  · rename_i v
    split at h
    · rename_i hn
      cases h
      unfold Value.isNil at hn
      split at hn
      · simp only [Bool.and_eq_true] at hn
        cases Nat.eq_of_beq_eq_true hn.1; cases Nat.eq_of_beq_eq_true hn.2
        exact ⟨[], by simp [SV.untyped, srcOf], RowsOk.refl row []⟩
      · cases hn
    · cases h
  · rename_i s sz st len
    split at h
    · rename_i e
      split at h
      · rename_i ty row' l0 hs
        simp only [Option.map_eq_some_iff, Prod.mk.injEq] at h
        obtain ⟨l1, h1, hcc, rfl⟩ := h
        obtain ⟨e2, rfl⟩ := castRows_eq h1
        subst e2
        rw [← hcc] at hc
        have hle : st + len ≤ l0.length := of_decide_eq_true hc
        refine ⟨((rowsPV row' l0).drop st).take len, ?_, ?_⟩
        · simp [SV.untyped, srcOf, e, hs, SObj.plain, rowsPV, hle]
        · have : rowsPV row' ((l0.drop st).take len) = ((rowsPV row' l0).drop st).take len := by simp [rowsPV, List.map_take, List.map_drop]
          rw [← this]; exact RowsOk.refl _ _
      · rename_i ty so rows hs
        split at h
        · rename_i hcond
          simp only [Option.map_eq_some_iff, Prod.mk.injEq] at h
          obtain ⟨l1, h1, _, rfl⟩ := h
          refine ⟨(rows.drop st).take len, ?_, RowsOk.of h1⟩
          simp [SV.untyped, srcOf, e, hs, SObj.plain, hcond]
        · cases h
      · cases h
    · cases h
  · cases h
theorem RowsOk.app {row : List Ty} {ps0 ps : List (List PV)} {l0 l : List (Els row)} (h0 : RowsOk row ps0 l0) (h : RowsOk row ps l) : RowsOk row (ps0 ++ ps) (l0 ++ l) := by
  refine ⟨by simp [h0.1, h.1], fun i r' hr => ?_⟩
  simp only [rowsPV, List.map_append] at hr
  rw [List.getElem?_append] at hr ⊢
  rw [List.length_map, h0.1] at hr
  split at hr
  · rename_i hlt
    rw [if_pos hlt]
    exact h0.2 i r' hr
  · rename_i hlt
    rw [if_neg hlt]
    exact h.2 _ r' hr
def isTyped (H : List SObj) : SV → Bool
  | .pv (.tsl _ _) => true
  | .sl s _ _ _ => match H[s]? with
    | some (.tvec _ _ _) => true
    | _ => false
  | _ => false
def sAppend (tab : Tab) (H : List SObj) (t t' : Nat) (a x : SV) : Res :=
  match a with
  | .pv (.lit (.slice none 0 0)) => match tab.lookup t with
    | some { desc := .slice e, .. } => match tab.lookup e with
      | none => .fail
      | some i => match i.row with
        | none => sAppend0 tab H t t' a x
        | some row => if t' ≠ t ∨ i.size = 0 ∨ row.length ≠ i.size then .fail else match srcRows H row x with
          | none => sAppend0 tab H t t' a x
          | some (c, l) => .need c <| .need (decide (l.length * i.bytes ≤ 140737488355328)) <| .need (decide (l.length ≤ 9223372036854775807)) <|
              .eff (.sl H.length i.size 0 l.length) (H ++ [.tvec e row l]) [] []
    | _ => .fail
  | .sl d sz st n => match H[d]? with
    | some (.tvec ty row l) => match tab.lookup t with
      | some { desc := .slice e, .. } => match tab.lookup e with
        | none => .fail
        | some i => if t' ≠ t ∨ i.size = 0 ∨ row.length ≠ i.size ∨ sz ≠ i.size ∨ ty ≠ e ∨ st ≠ 0 then .fail else match srcRows H row x with
          | none => .fail
          | some (c, l') => .need c <| .need (decide (n = l.length)) <| .need (decide ((l ++ l').length * i.bytes ≤ 140737488355328)) <| .need (decide ((l ++ l').length ≤ 9223372036854775807)) <|
              .eff (.sl d i.size 0 (l ++ l').length) ((H.map (SObj.forget [d])).set d (.tvec ty row (l ++ l'))) [d] [d]
      | _ => .fail
    | some (.vec ty so rows0) => match isTyped H x with
      | false => sAppend0 tab H t t' a x
      | true => match tab.lookup t with
        | some { desc := .slice e, .. } => match tab.lookup e with
          | none => .fail
          | some i => match i.row with
            | none => .fail
            | some row => if t' ≠ t ∨ i.size = 0 ∨ row.length ≠ i.size ∨ sz ≠ i.size ∨ ty ≠ e ∨ st ≠ 0 ∨ so ≠ i.size then .fail else match srcRows H row x with
              | none => .fail
              | some (c, l') => match mapO (ofRow row) rows0 with
                | none => .fail
                | some l => .need c <| .need (decide (n = rows0.length)) <| .need (decide ((l ++ l').length * i.bytes ≤ 140737488355328)) <| .need (decide ((l ++ l').length ≤ 9223372036854775807)) <|
                  .eff (.sl d i.size 0 (l ++ l').length) ((H.map (SObj.forget [d])).set d (.tvec ty row (l ++ l'))) [d] [d]
        | _ => .fail
    | _ => sAppend0 tab H t t' a x
  | _ => sAppend0 tab H t t' a x
theorem map_set_plain (H : List SObj) (d : Nat) (o : SObj) : (H.set d o).map SObj.plain = (H.map SObj.plain).set d o.plain := by rw [List.map_set]
theorem sAppend_sound {P : Program} {tab : Tab} (htab : TabOk P tab) {M : Imm} {ρ : Env} {H : List SObj} {w : World} {K : Post} (hm : Mem M ρ H w) {t t' ty : Nat} {a x : SV} {v u : Value} (ha : SRep M ρ v a) (hx : SRep M ρ u x)
    (h : (sAppend tab H t t' a x).holds H K) : DoesV P (Builtin.append_ #[t, t'] ty #[v, u]) M ρ H w K := by
  unfold sAppend at h
  split at h
  · split at h
    · rename_i e sz' by' zr rw' hte
      split at h
      · exact h.elim
      · rename_i i hi
        split at h
        · exact sAppend0_sound htab hm ha hx h
        · rename_i row hrow
          split at h
          · exact h.elim
          · rename_i hcond
            split at h
            · exact sAppend0_sound htab hm ha hx h
            · rename_i c l hsrc
              obtain ⟨hc, hb, h63, h⟩ := h
              have hcond' : t' = t ∧ i.size ≠ 0 ∧ row.length = i.size := by
                simp only [not_or, Decidable.not_not] at hcond; exact hcond
              obtain ⟨rfl, hz, hlen⟩ := hcond'
              obtain ⟨ps, hps, hok⟩ := srcRows_sound hsrc hc
              refine DoesV.plain (DoesV.described (sAppend0_sound htab (Mem.plain.2 hm) ha hx.untyped ?_))
              unfold sAppend0
              have hneg : ¬ (t' ≠ t' ∨ i.size = 0) := by simp [hz]
              rw [hlen] at hps
              simp only [hte, hi, if_neg hneg, hps]
              refine ⟨rfl, by simpa [Src.len, ← hok.1] using hb, by simpa [Src.len, ← hok.1] using h63, ?_⟩
              have e1 : appendObj (.vec e i.size []) 0 (.pure ps) = .vec e row.length ps := by simp [appendObj, SObj.plain, hlen]
              rw [e1]
              have e2 : (Src.pure ps).len = l.length := by simp [Src.len, hok.1]
              rw [e2]
              refine described_last (K := fun y H1 => ∃ H', H1.map SObj.plain = H'.map SObj.plain ∧ K y H' [] []) hok.1 hok.2 ⟨H ++ [.tvec e row l], ?_, (by rw [List.length_map]; exact h)⟩
              simp only [List.map_append, plain_idem]
    · exact h.elim
  · rename_i d sz st n
    split at h
    · rename_i oty row l hd
      split at h
      · rename_i e sz' by' zr rw' hte
        split at h
        · exact h.elim
        · rename_i i hi
          split at h
          · exact h.elim
          · rename_i hcond
            split at h
            · exact h.elim
            · rename_i c l' hsrc
              obtain ⟨hc, hn, hb, h63, h⟩ := h
              have hn := of_decide_eq_true hn
              subst hn
              have hcond' : t' = t ∧ i.size ≠ 0 ∧ row.length = i.size ∧ sz = i.size ∧ oty = e ∧ st = 0 := by
                simp only [not_or, Decidable.not_not] at hcond; exact hcond
              obtain ⟨rfl, hz, hlen, rfl, rfl, rfl⟩ := hcond'
              obtain ⟨ps, hps, hok⟩ := srcRows_sound hsrc hc
              refine DoesV.plain (DoesV.described (sAppend0_sound htab (Mem.plain.2 hm) ha hx.untyped ?_))
              unfold sAppend0
              have hneg : ¬ (t' ≠ t' ∨ i.size = 0) := by simp [hz]
              rw [hlen] at hps
              have hd' : (H.map SObj.plain)[d]? = some (.vec oty row.length (rowsPV row l)) := by simp [hd, SObj.plain]
              simp only [hte, hi, if_neg hneg, hps, hd']
              rw [if_pos (by simp [SObj.sz?, SObj.ty, hlen])]
              have e2 : l.length + (Src.pure ps).len = (l ++ l').length := by simp [Src.len, hok.1]
              rw [e2]
              refine ⟨by simp [SObj.len, rowsPV], hb, h63, ?_⟩
              have e1 : appendObj ((SObj.vec oty row.length (rowsPV row l)).forget [d]) l.length ((Src.pure ps).forget [d]) = .vec oty row.length (rowsPV row l ++ ps) := by
                simp [appendObj, SObj.plain, SObj.forget, Src.forget, rowsPV]
              rw [e1]
              have hdl : d < H.length := (List.getElem?_eq_some_iff.1 hd).1
              refine ⟨_, fun _ _ _ h => h, .inr ⟨d, .vec oty row.length (rowsPV row l ++ ps), .tvec oty row (l ++ l'), by simp [hdl], rfl, fun M ρ w hh => (hh.retype (hok.append l).1 (hok.append l).2), ?_⟩⟩
              refine ⟨_, ?_, h⟩
              rw [List.set_set, map_set_plain, map_set_plain]
              congr 1
              simp only [List.map_map]
              refine List.map_congr_left fun o _ => ?_
              simp only [Function.comp, (plain_facts o).2.2.2.2.2, plain_plain]
      · exact h.elim
    · rename_i oty so rows0 hd
      split at h
      · exact sAppend0_sound htab hm ha hx h
      split at h
      · rename_i e sz' by' zr rw' hte
        split at h
        · exact h.elim
        · rename_i i hi
          split at h
          · exact h.elim
          · rename_i row hrow
            split at h
            · exact h.elim
            · rename_i hcond
              split at h
              · exact h.elim
              · rename_i c l' hsrc
                split at h
                · exact h.elim
                · rename_i l hl
                  obtain ⟨hc, hn, hb, h63, h⟩ := h
                  have hn := of_decide_eq_true hn
                  subst hn
                  have hcond' : t' = t ∧ i.size ≠ 0 ∧ row.length = i.size ∧ sz = i.size ∧ oty = e ∧ st = 0 ∧ so = i.size := by
                    simp only [not_or, Decidable.not_not] at hcond; exact hcond
                  obtain ⟨rfl, hz, hlen, rfl, rfl, rfl, rfl⟩ := hcond'
                  obtain ⟨ps, hps, hok⟩ := srcRows_sound hsrc hc
                  have hok0 := RowsOk.of hl
                  refine DoesV.plain (DoesV.described (sAppend0_sound htab (Mem.plain.2 hm) ha hx.untyped ?_))
                  unfold sAppend0
                  have hneg : ¬ (t' ≠ t' ∨ i.size = 0) := by simp [hz]
                  rw [hlen] at hps
                  have hd' : (H.map SObj.plain)[d]? = some (.vec oty i.size rows0) := by simp [hd, SObj.plain]
                  simp only [hte, hi, if_neg hneg, hps, hd']
                  rw [if_pos (by simp [SObj.sz?, SObj.ty])]
                  have e2 : rows0.length + (Src.pure ps).len = (l ++ l').length := by simp [Src.len, hok.1, hok0.1]
                  rw [e2]
                  refine ⟨by simp [SObj.len], hb, h63, ?_⟩
                  have e1 : appendObj ((SObj.vec oty i.size rows0).forget [d]) rows0.length ((Src.pure ps).forget [d]) = .vec oty row.length (rows0 ++ ps) := by
                    simp [appendObj, SObj.plain, SObj.forget, Src.forget, hlen]
                  rw [e1]
                  have hdl : d < H.length := (List.getElem?_eq_some_iff.1 hd).1
                  refine ⟨_, fun _ _ _ h => h, .inr ⟨d, .vec oty row.length (rows0 ++ ps), .tvec oty row (l ++ l'), by simp [hdl], rfl, fun M ρ w hh => (hh.retype (hok0.app hok).1 (hok0.app hok).2), ?_⟩⟩
                  refine ⟨_, ?_, h⟩
                  rw [List.set_set, map_set_plain, map_set_plain]
                  congr 1
                  simp only [List.map_map]
                  refine List.map_congr_left fun o _ => ?_
                  simp only [Function.comp, (plain_facts o).2.2.2.2.2, plain_plain]
      · exact h.elim
    · exact sAppend0_sound htab hm ha hx h
  · exact sAppend0_sound htab hm ha hx h
end Go.Sx

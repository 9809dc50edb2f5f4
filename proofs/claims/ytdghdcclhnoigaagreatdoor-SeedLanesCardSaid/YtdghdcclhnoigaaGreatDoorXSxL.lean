/- Part L of the own logic: operations that may be taken first. Written by gen/mk.py out of the parts E, G, J. -/
import Derived.Test.YtdghdcclhnoigaaGreatDoorXSxK
set_option linter.unusedVariables false
set_option linter.unusedSimpArgs false
set_option linter.unnecessarySimpa false
namespace Go.Sx
open Go
def DoesS (P : Program) (S : Sem Value) (M : Imm) (ρ : Env) (Sw : World → Prop) (H : List SObj) (K : Post) : Prop :=
  ∃ v x, K x H [] [] ∧ SRep M ρ v x ∧ ∀ w, Sw w → S.run P w = .ok v w
def DoesNS (P : Program) (S : Sem Next) (M : Imm) (ρ : Env) (Sw : World → Prop) (H : List SObj) (K : Post) : Prop :=
  ∃ v x, K x H [] [] ∧ SRep M ρ v x ∧ ∀ w, Sw w → S.run P w = .ok (.value v) w
theorem DoesS.same {P : Program} {S : Sem Value} {M : Imm} {ρ : Env} {H : List SObj} {Sw : World → Prop} {K : Post} {v : Value} {x : SV} (hr : ∀ w, Sw w → S.run P w = .ok v w) (hx : SRep M ρ v x) (hk : K x H [] []) : DoesS P S M ρ Sw H K := ⟨v, x, hk, hx, hr⟩
theorem DoesNS.same {P : Program} {S : Sem Next} {M : Imm} {ρ : Env} {H : List SObj} {Sw : World → Prop} {K : Post} {v : Value} {x : SV} (hr : ∀ w, Sw w → S.run P w = .ok (.value v) w) (hx : SRep M ρ v x) (hk : K x H [] []) : DoesNS P S M ρ Sw H K := ⟨v, x, hk, hx, hr⟩
theorem DoesS.toN {P : Program} {S : Sem Value} {M : Imm} {ρ : Env} {H : List SObj} {Sw : World → Prop} {K : Post} (h : DoesS P S M ρ Sw H K) : DoesNS P (do pure (.value (← S))) M ρ Sw H K := by
  obtain ⟨v, x, h1, h2, h3⟩ := h
  exact ⟨v, x, h1, h2, fun w hw => by simp [Sem.run_bind, h3 w hw]⟩
theorem readRow_soundS {P : Program} {M : Imm} {ρ : Env} {H : List SObj} {w0 : World} {Sw : World → Prop} {K : Post} {t : TypeId} {i : TI} (ht : TyOk P t i) (hm : Mem M ρ H w0) {b o n r j sz : Nat} {row : List SV}
    (hrow : r < n → ∀ k x, row[k]? = some x → ∃ v, (∀ w, Sw w → w.cell? ⟨b, o + r * sz + k, none⟩ = some v) ∧ SRep M ρ v x)
    (h : (readRow i n row r j).holds H K) : DoesS P (Instr.loadAt t (.pointer (some ⟨b, o + r * sz + j, none⟩))) M ρ Sw H K := by
  simp only [readRow, Res.holds, decide_eq_true_eq] at h
  obtain ⟨hr, h⟩ := h
  have hrow := hrow hr
  split at h
  · rename_i hd
    simp only [Res.holds, decide_eq_true_eq] at h
    obtain ⟨hj, hk⟩ := h
    have hex : ∀ k, k < i.size → ∃ v, (∀ w, Sw w → w.cell? ⟨b, o + r * sz + (j + k), none⟩ = some v) ∧ SRep M ρ v (row.getD (j + k) .any) := fun k hk => by
      have hlt : j + k < row.length := by omega
      obtain ⟨v, h1, h2⟩ := hrow (j + k) row[j + k] (by simp [hlt])
      exact ⟨v, h1, by simpa [List.getD, hlt] using h2⟩
    let f : Nat → Value := fun k => if h : k < i.size then Classical.choose (hex k h) else undef
    have hf : ∀ k, k < i.size → (∀ w, Sw w → w.cell? ⟨b, o + r * sz + (j + k), none⟩ = some (f k)) ∧ SRep M ρ (f k) (row.getD (j + k) .any) := fun k hk => by
      simp only [f, dif_pos hk]; exact Classical.choose_spec (hex k hk)
    have hcs : ∀ (k : Nat) (v : Value), ((List.range i.size).map f)[k]? = some v → k < i.size ∧ v = f k := fun k v hv => by
      simp only [List.getElem?_map, Option.map_eq_some_iff] at hv
      obtain ⟨m, hm', rfl⟩ := hv
      obtain ⟨h1, h2⟩ := List.getElem?_eq_some_iff.1 hm'
      simp at h1 h2; subst h2; exact ⟨h1, rfl⟩
    refine DoesS.same (v := .agg ((List.range i.size).map f).toArray) ?_ ?_ hk
    · intro w hw
      simp only [Instr.loadAt, Instr.sureAddr, Sem.run_bind, Sem.run_pure, Result.andThen_ok]
      exact loadVar_row ht hd _ (by simp) fun k v hv => by
        obtain ⟨h1, rfl⟩ := hcs k v hv
        rw [Nat.add_assoc (o + r * sz)]; exact (hf k h1).1 w hw
    · refine SRep.mkAgg (by simp; omega) fun k v x hv hx => ?_
      obtain ⟨h1, rfl⟩ := hcs k v hv
      have h2 := (hf k h1).2
      rw [List.getElem?_take] at hx
      simp only [h1, if_true, List.getElem?_drop] at hx
      simpa [List.getD, hx] using h2
  · rename_i hd
    simp only [Res.holds, decide_eq_true_eq] at h
    obtain ⟨hj, hk⟩ := h
    obtain ⟨v, h1, h2⟩ := hrow j row[j] (by simp [hj])
    refine DoesS.same (v := v) ?_ ?_ hk
    · intro w hw
      simp only [Instr.loadAt, Instr.sureAddr, Sem.run_bind, Sem.run_pure, Result.andThen_ok]
      exact loadVar_one ht (by simpa using hd) (h1 w hw)
    · simpa [List.getD, hj] using h2
theorem cell_of_imm {M : Imm} {w : World} (hm : ∀ b o, M b = some o → w.heap[b]? = some o) {b k : Nat} {v : Value} (h : M.cell b k = some v) : w.cell? ⟨b, k, none⟩ = some v := by
  unfold Imm.cell at h
  cases e : M b with
  | none => simp [e] at h
  | some o =>
    rw [e] at h
    have := hm b o e
    unfold World.cell?
    simp only [this]
    cases o <;> simp_all
theorem load_rptrS {P : Program} {M : Imm} {ρ : Env} {H : List SObj} {w0 : World} {Sw : World → Prop} {K : Post} {t : TypeId} {i : TI} (ht : TyOk P t i) (hm : Mem M ρ H w0) (hS : ∀ u, Sw u → ∀ b o, M b = some o → u.heap[b]? = some o) {sz r j : Nat} {rows : List (List PV)} {v : Value} (hp : PRep M v (.rptr sz rows r j))
    (h : (readRow i rows.length ((rows.getD r []).map .pv) r j).holds H K) : DoesS P (Instr.loadAt t v) M ρ Sw H K := by
  cases hp with
  | rptr b off _ _ _ k _ hk h0 h1 h2 =>
    rw [hk]
    refine readRow_soundS (w0 := w0) ht hm (fun hr k x hx => ?_) h
    simp only [List.getElem?_map, Option.map_eq_some_iff] at hx
    obtain ⟨q, hq, rfl⟩ := hx
    simp [List.getD, hr] at hq
    have hk2 : k < sz := Nat.lt_of_lt_of_le (List.getElem?_eq_some_iff.1 hq).1 (h2 r rows[r] (by simp [hr]))
    obtain ⟨u, hu, _⟩ := h0 r k hr hk2
    exact ⟨u, fun w hw => cell_of_imm (hS w hw) hu, .pv (h1 r rows[r] k q u (by simp [hr]) hq hu)⟩
theorem sLoad_soundS {P : Program} {tab : Tab} (htab : TabOk P tab) {M : Imm} {ρ : Env} {H : List SObj} {w0 : World} {Sw : World → Prop} {K : Post} (hm : Mem M ρ H w0) (hS : ∀ u, Sw u → ∀ b o, M b = some o → u.heap[b]? = some o) {R : List Nat} (hR : ∀ u, Sw u → ∀ s ∈ R, ∀ p, ρ s = some p → u.heap[p.block]? = w0.heap[p.block]?)
    {t : TypeId} {a : SV} {v : Value} (ha : SRep M ρ v a) (hin : ∀ s sz r j, a = .ptr s sz r j → s ∈ R)
    (h : (sLoad tab H t a).holds H K) : DoesS P (Instr.loadAt t v) M ρ Sw H K := by
  unfold sLoad at h
  split at h
  · exact h.elim
  · rename_i i hi
    have ht := htab.get hi
    split at h
    · rename_i s sz r j
      split at h
      · exact h.elim
      · rename_i o ho
        split at h
        · exact h.elim
        · rename_i szo hz
          cases ha with
          | ptr _ _ _ _ k p hp hk =>
            obtain ⟨cs, ty, a1, a2, a3, a4, a5⟩ := ((hm.own s o ho).rowOf hz hp).ex
            have hk' : k = 0 + (norm sz r j szo).1 * szo + (norm sz r j szo).2 := by rw [Nat.zero_add, norm_eq]; exact hk
            rw [hk']
            refine readRow_soundS (w0 := w0) ht hm (fun hr k x hx => ?_) h
            obtain ⟨b1, b2⟩ := a5 _ k x hr hx
            obtain ⟨u, hu, _⟩ := a4 _ k hr b1
            exact ⟨u, fun w hw => by simp [World.cell?, hR w hw s (hin _ _ _ _ rfl) p hp, a1, hu], b2 u hu⟩
    · rename_i sz rows r j
      cases ha with
      | pv hp => exact load_rptrS (w0 := w0) ht hm hS hp h
    · rename_i row l r j
      cases ha with
      | pv hp => cases hp with
        | tptr _ _ _ _ hp => exact load_rptrS (w0 := w0) ht hm hS hp (readRow_typed h)
    · exact h.elim
theorem sFieldAddr0_soundS {P : Program} {tab : Tab} (htab : TabOk P tab) {M : Imm} {ρ : Env} {H : List SObj} {w0 : World} {Sw : World → Prop} {K : Post} (hm : Mem M ρ H w0) {t f : Nat} {x : SV} {v : Value} (hx : SRep M ρ v x)
    (h : (sFieldAddr0 tab t x f).holds H K) : DoesS P (Instr.fieldAt t v f) M ρ Sw H K := by
  unfold sFieldAddr0 at h
  split at h
  · rename_i fields sz' by' zr rw' hte
    have htt := htab.get hte
    split at h
    · exact h.elim
    · rename_i fd hfd
      split at h
      · exact h.elim
      · rename_i i hi
        obtain ⟨n, hn, i1, _⟩ := (htab.get hi).inf
        split at h
        · exact h.elim
        · rename_i hz
          have key : ∀ (w : World) b k, (Instr.fieldAt t (.pointer (some ⟨b, k, none⟩)) f).run P w = .ok (.pointer (some ⟨b, k + fd.offset, none⟩)) w := fun w b k => by
            simp [Instr.fieldAt, run_underlying htt.und, hfd, Instr.sureAddr, fieldPlace, sizeOf, typeInfo, hn, i1, hz, Addr.add_mid]
          split at h
          · rename_i s sz r j
            cases hx with
            | ptr _ _ _ _ k p hp hk => exact DoesS.same (fun w _ => key w _ _) (.ptr _ _ _ _ _ p hp (by omega)) h
          · rename_i sz rows r j
            cases hx with
            | pv hp => cases hp with
              | rptr b off _ _ _ k _ hk h0 h1 h2 => exact DoesS.same (fun w _ => key w _ _) (.pv (.rptr b off sz r (j + fd.offset) _ rows (by omega) h0 h1 h2)) h
          · exact h.elim
  · exact h.elim
theorem sIndexAddr0_soundS {P : Program} {tab : Tab} (htab : TabOk P tab) {M : Imm} {ρ : Env} {H : List SObj} {w0 : World} {Sw : World → Prop} {K : Post} (hm : Mem M ρ H w0) {t : Nat} {x ix : SV} {v u : Value} (hx : SRep M ρ v x) (hix : SRep M ρ u ix)
    (h : (sIndexAddr0 tab t x ix).holds H K) : DoesS P (Instr.indexAt t v u) M ρ Sw H K := by
  unfold sIndexAddr0 at h
  split at h
  · rename_i k n
    have := hix.lit_eq; subst this
    split at h
    · rename_i e sz' by' zr rw' hte
      have htt := htab.get hte
      split at h
      · exact h.elim
      · rename_i i hi
        have ht := htab.get hi
        split at h
        · rename_i s sz st len
          split at h
          · rename_i hsz; subst hsz
            simp only [Res.holds, decide_eq_true_eq] at h
            obtain ⟨h0, h1, h⟩ := h
            cases hx with
            | sl _ _ _ _ c k' p hp hk hc hn =>
              refine DoesS.same (fun w _ => (indexAt_slice htt.und ht h0 h1)) (.ptr _ _ _ _ _ p hp ?_) h
              rw [hk, Nat.add_mul]; omega
            | slz => simp at h1; omega
          · exact h.elim
        · rename_i sz rows
          split at h
          · rename_i hsz; subst hsz
            simp only [Res.holds, decide_eq_true_eq] at h
            obtain ⟨h0, h1, h⟩ := h
            cases hx with
            | pv hp => cases hp with
              | rnil => simp at h1; omega
              | remp => simp at h1; omega
              | rsl b off c _ n' _ hn hc g0 g1 g2 =>
                refine DoesS.same (fun w _ => (indexAt_slice htt.und ht h0 (by omega))) (.pv (.rptr b off i.size n.toNat 0 _ rows (by omega) g0 g1 g2)) h
          · exact h.elim
        · exact h.elim
    · rename_i m e sz' by' zr rw' hte
      have htt := htab.get hte
      split at h
      · exact h.elim
      · rename_i i hi
        have ht := htab.get hi
        split at h
        · rename_i s sz r j
          simp only [Res.holds, decide_eq_true_eq] at h
          obtain ⟨h0, h1, h⟩ := h
          cases hx with
          | ptr _ _ _ _ k' p hp hk => exact DoesS.same (fun w _ => (indexAt_array htt.und ht h0 h1)) (.ptr _ _ _ _ _ p hp (by omega)) h
        · rename_i sz rows r j
          simp only [Res.holds, decide_eq_true_eq] at h
          obtain ⟨h0, h1, h⟩ := h
          cases hx with
          | pv hp => cases hp with
            | rptr b off _ _ _ k' _ hk g0 g1 g2 => exact DoesS.same (fun w _ => (indexAt_array htt.und ht h0 h1)) (.pv (.rptr b off sz r _ _ rows (by omega) g0 g1 g2)) h
        · exact h.elim
    · exact h.elim
  · exact h.elim
theorem sSlice0_soundS {P : Program} {tab : Tab} (htab : TabOk P tab) {M : Imm} {ρ : Env} {H : List SObj} {w0 : World} {Sw : World → Prop} {K : Post} (hm : Mem M ρ H w0) {t : Nat} {x : SV} {lo hi : Option SV} {v : Value} {vl vh : Option Value}
    (hx : SRep M ρ v x) (hsl : vl.isSome = lo.isSome) (hrl : ∀ v x, vl = some v → lo = some x → SRep M ρ v x) (hsh : vh.isSome = hi.isSome) (hrh : ∀ v x, vh = some v → hi = some x → SRep M ρ v x)
    (h : (sSlice0 tab H t x lo hi).holds H K) : DoesS P (Instr.sliceAt t v vl vh none) M ρ Sw H K := by
  unfold sSlice0 at h
  split at h
  · rename_i e sz' by' zr rw' hte
    have htt := htab.get hte
    split at h
    · exact h.elim
    · rename_i i hi'
      have ht := htab.get hi'
      split at h
      · rename_i s sz st len
        split at h
        · rename_i hsz; subst hsz
          split at h
          · rename_i l hh e1 e2
            simp only [Res.holds, decide_eq_true_eq] at h
            obtain ⟨h0, h1, h2, h⟩ := h
            have bl := bound_spec hsl hrl e1
            have bh := bound_spec hsh hrh e2
            cases hx with
            | sl _ _ _ _ c k p hp hk hc hn =>
              refine DoesS.same (fun w _ => (sliceAt_slice htt.und ht bl bh h0 h1 (by omega))) ?_ h
              by_cases hcl : c = l.toNat
              · have e0 : hh.toNat - l.toNat = 0 := by omega
                rw [if_pos hcl, e0, hcl, Nat.sub_self]; exact .slz _ _ _ _
              · rw [if_neg hcl]
                simp only [Option.map_some, Addr.add_mid]
                refine .sl _ _ _ _ _ _ p hp (by rw [hk, Nat.add_mul]) ?_ (by omega)
                rw [show st + l.toNat + (c - l.toNat) = st + c by omega]; exact hc
            | slz a b c' a' =>
              refine DoesS.same (fun w _ => (sliceAt_slice htt.und ht bl bh h0 h1 (by omega))) ?_ h
              have hl0 : l.toNat = 0 := by omega
              have hh0 : hh.toNat = 0 := by omega
              rw [hl0, hh0]; simp only [Nat.sub_self, if_true]; exact .slz _ _ _ _
          · exact h.elim
        · exact h.elim
      · rename_i sz rows
        split at h
        · rename_i hsz; subst hsz
          split at h
          · rename_i l hh e1 e2
            simp only [Res.holds, decide_eq_true_eq] at h
            obtain ⟨h0, h1, h2, h⟩ := h
            have bl := bound_spec hsl hrl e1
            have bh := bound_spec hsh hrh e2
            cases hx with
            | pv hp =>
              have hlen : ((rows.take hh.toNat).drop l.toNat).length = hh.toNat - l.toNat := by simp; omega
              cases hp with
              | rnil =>
                refine DoesS.same (fun w _ => (sliceAt_slice htt.und ht bl (by simpa using bh) h0 h1 (by simpa using h2))) ?_ h
                have hl0 : l.toNat = 0 := by simp at h2; omega
                have hh0 : hh.toNat = 0 := by simp at h2; omega
                rw [hl0, hh0]; simp; exact .pv (.rnil _)
              | remp a c =>
                refine DoesS.same (fun w _ => (sliceAt_slice htt.und ht bl (by simpa using bh) h0 h1 (by simp at h2; omega))) ?_ h
                have hl0 : l.toNat = 0 := by simp at h2; omega
                have hh0 : hh.toNat = 0 := by simp at h2; omega
                rw [hl0, hh0]
                simp only [List.take_nil, List.drop_nil, Nat.sub_zero, Nat.zero_mul]
                split
                · exact .pv (.remp _ _ _)
                · exact .pv (.remp _ _ _)
              | rsl b off c _ n' _ hn hc g0 g1 g2 =>
                subst hn
                refine DoesS.same (fun w _ => (sliceAt_slice htt.und ht bl bh h0 h1 (by omega))) ?_ h
                by_cases hcl : c = l.toNat
                · have e0 : hh.toNat - l.toNat = 0 := by omega
                  have : (rows.take hh.toNat).drop l.toNat = [] := List.eq_nil_of_length_eq_zero (by rw [hlen, e0])
                  rw [if_pos hcl, this, e0, hcl, Nat.sub_self]; exact .pv (.remp _ _ _)
                · rw [if_neg hcl]
                  simp only [Option.map_some, Addr.add_mid]
                  have at' : ∀ (m : Nat) (r : List PV), ((rows.take hh.toNat).drop l.toNat)[m]? = some r → rows[l.toNat + m]? = some r := fun m r hm' => by
                    rw [List.getElem?_drop, List.getElem?_take] at hm'
                    split at hm'
                    · exact hm'
                    · cases hm'
                  have mul : ∀ m j : Nat, off + l.toNat * i.size + m * i.size + j = off + (l.toNat + m) * i.size + j := fun m j => by rw [Nat.add_mul]; omega
                  refine .pv (.rsl b (off + l.toNat * i.size) (c - l.toNat) i.size _ _ hlen.symm (by omega) (fun m j hm' hj => ?_) (fun m r j p u hm' hj hu => ?_) (fun m r hm' => g2 _ r (at' m r hm')))
                  · rw [mul]; rw [hlen] at hm'; exact g0 _ j (by omega) hj
                  · rw [mul] at hu; exact g1 _ r j p u (at' m r hm') hj hu
          · exact h.elim
        · exact h.elim
      · split at h
        · rename_i l hh e1 e2
          simp only [Res.holds, decide_eq_true_eq] at h
          obtain ⟨h0, h1, h⟩ := h
          have := hx.lit_eq; subst this
          subst h0; subst h1
          have bl := bound_spec hsl hrl e1
          have bh := bound_spec hsh hrh e2
          have := fun w (_ : Sw w) => sliceAt_slice (w := w) (a := none) (len := 0) (cap := 0) htt.und ht bl (by simpa using bh) (Int.le_refl _) (Int.le_refl _) (by simp)
          exact DoesS.same this (.pv (.lit _)) h
        · exact h.elim
      · exact h.elim
  · rename_i sz' by' zr rw' hte
    have htt := htab.get hte
    split at h
    · rename_i b
      split at h
      · rename_i l hh e1 e2
        simp only [Res.holds, decide_eq_true_eq] at h
        obtain ⟨h0, h1, h2, h⟩ := h
        have := hx.lit_eq; subst this
        have bl := bound_spec hsl hrl e1
        have bh := bound_spec hsh hrh e2
        refine DoesS.same ?_ (.pv (.lit _)) h
        have hu : P.underlying t = some .string := htt.und
        simp [Instr.sliceAt, Instr.slice, run_underlying hu, bounds_run bl bh h0 h1 h2]
      · exact h.elim
    · exact h.elim
  · exact h.elim
  · rename_i n e sz' by' zr rw' hte
    have htt := htab.get hte
    split at h
    · exact h.elim
    · rename_i i hi'
      have ht := htab.get hi'
      obtain ⟨inf, hinf, i1, _⟩ := ht.inf
      split at h
      · rename_i s sz r j
        split at h
        · exact h.elim
        · rename_i o ho
          split at h
          · rename_i szo l hh hz e1 e2
            split at h
            · exact h.elim
            · rename_i hi0
              simp only [Res.holds, decide_eq_true_eq] at h
              obtain ⟨hdiv, hfit, h0, h1, h2, h⟩ := h
              have bl := bound_spec hsl hrl e1
              have bh := bound_spec hsh hrh e2
              cases hx with
              | ptr _ _ _ _ k p hp hk =>
                obtain ⟨cs, ty, a1, a2, a3, a4, a5⟩ := ((hm.own s o ho).rowOf hz hp).ex
                have hrun : ∀ w, (Instr.sliceAt t (.pointer (some ⟨p.block, k, none⟩)) vl vh none).run P w = .ok (.slice (some (if n = l.toNat then ⟨p.block, k, none⟩ else ⟨p.block, k + l.toNat * i.size, none⟩)) (hh.toNat - l.toNat) (n - l.toNat)) w := fun w => by
                  have hu : P.underlying t = some (.array n e) := htt.und
                  simp [Instr.sliceAt, run_underlying hu, Instr.sureAddr, bounds_run bl bh h0 h1 h2, sizeOf, typeInfo, hinf, i1, Addr.add_mid]
                refine DoesS.same (fun w _ => hrun w) ?_ h
                by_cases hcl : n = l.toNat
                · have e0 : hh.toNat - l.toNat = 0 := by omega
                  have e1' : n - l.toNat = 0 := by omega
                  rw [if_pos hcl, e0, e1']; exact .slz _ _ _ _
                · rw [if_neg hcl]
                  have hb : (r * sz + j) / i.size * i.size = r * sz + j := by have := Nat.div_add_mod' (r * sz + j) i.size; omega
                  refine .sl _ _ _ _ _ _ p hp (by rw [Nat.add_mul, hb, hk]) ?_ (by omega)
                  rw [show (r * sz + j) / i.size + l.toNat + (n - l.toNat) = (r * sz + j) / i.size + n by omega, Nat.add_mul, hb]
                  omega
          · exact h.elim
      · exact h.elim
  · exact h.elim
theorem sLen0_soundS {P : Program} {tab : Tab} (htab : TabOk P tab) {M : Imm} {ρ : Env} {H : List SObj} {w0 : World} {Sw : World → Prop} {K : Post} (hm : Mem M ρ H w0) {t ty : Nat} {x : SV} {v : Value} (hx : SRep M ρ v x) (hnm : ∀ s, x ≠ .mp s)
    (h : (sLen0 tab H t x).holds H K) : DoesS P (Builtin.len_ #[t] ty #[v]) M ρ Sw H K := by
  unfold sLen0 at h
  split at h
  · rename_i e sz' by' zr rw' hte
    have hu : P.underlying t = some (.slice e) := (htab.get hte).und
    have key : ∀ (w : World) a n c, (Builtin.len_ #[t] ty #[.slice a n c]).run P w = .ok (.int .i64 n) w := fun w a n c => by simp [Builtin.len_, run_underlying hu, goInt]
    split at h
    · rename_i s sz st len
      cases hx with
      | sl _ _ _ _ c k p hp hk hc hn => exact DoesS.same (fun w _ => key w _ _ _) (.pv (.lit _)) h
      | slz => exact DoesS.same (fun w _ => key w _ _ _) (.pv (.lit _)) h
    · cases hx with
      | pv hp => cases hp with
        | rnil => exact DoesS.same (fun w _ => key w _ _ _) (.pv (.lit _)) h
        | remp => exact DoesS.same (fun w _ => key w _ _ _) (.pv (.lit _)) h
        | rsl b off c _ n' _ hn hc g0 g1 g2 => subst hn; exact DoesS.same (fun w _ => key w _ _ _) (.pv (.lit _)) h
    · have := hx.lit_eq; subst this; exact DoesS.same (fun w _ => key w _ _ _) (.pv (.lit _)) h
    · exact h.elim
  · rename_i sz' by' zr rw' hte
    have hu : P.underlying t = some .string := (htab.get hte).und
    split at h
    · have := hx.lit_eq; subst this
      exact DoesS.same (fun w _ => by simp [Builtin.len_, run_underlying hu, goInt]) (.pv (.lit _)) h
    · exact h.elim
  · rename_i kk ee sz' by' zr rw' hte
    have hu : P.underlying t = some (.map kk ee) := (htab.get hte).und
    split at h
    · rename_i s; exact (hnm s rfl).elim
    · have := hx.lit_eq; subst this
      exact DoesS.same (fun w _ => by simp [Builtin.len_, run_underlying hu, goInt]) (.pv (.lit _)) h
    · exact h.elim
  · rename_i n e sz' by' zr rw' hte
    have hu : P.underlying t = some (.array n e) := (htab.get hte).und
    refine DoesS.same ?_ (.pv (.lit _)) h
    simp [Builtin.len_, run_underlying hu, goInt]
  · exact h.elim
theorem sPure_soundS {P : Program} {M : Imm} {ρ : Env} {H : List SObj} {w0 : World} {Sw : World → Prop} {K : Post} {ev : Operand → SV} {va : Operand → Value} (hm : Mem M ρ H w0) (hev : ∀ x, SRep M ρ (va x) (ev x)) {o : Oper}
    (h : (sPure P ev o).holds H K) : DoesNS P (execOp va o) M ρ Sw H K := by
  unfold sPure at h
  split at h
  · rename_i hc
    simp only [Bool.and_eq_true, Bool.not_eq_true'] at hc
    split at h
    · rename_i v hv
      have he : execOp va o = execOp (fun x => (ev x).litV) o := by
        refine execOp_congr o (fun cs b hsel => by rw [hsel] at hc; simp [isSelect] at hc) fun x hx => ?_
        have := Array.all_eq_true_iff_forall_mem.1 hc.2 x hx
        exact litV_eq (hev x) this
      rw [he]
      exact DoesNS.same (fun w _ => pureRun_run hv w) (.pv (.lit _)) h
    · exact h.elim
  · exact h.elim
theorem sBin_soundS {P : Program} {tab : Tab} (htab : TabOk P tab) {M : Imm} {ρ : Env} {H : List SObj} {w0 : World} {Sw : World → Prop} {K : Post} {ev : Operand → SV} {va : Operand → Value} (hm : Mem M ρ H w0) (hev : ∀ x, SRep M ρ (va x) (ev x)) {o : Oper}
    {op : BinOp} {t t' : TypeId} {x y : Operand} (ho : o.op = .binOp op t x y t') (h : (sBin P tab ev o op t (ev x) (ev y)).holds H K) : DoesNS P (execOp va o) M ρ Sw H K := by
  have hx := hev x
  have hy := hev y
  have exec : execOp va o = (do pure (.value (← (do eqGuard op t x y (va x) (va y); binOp op t (va x) (va y))))) := by simp [execOp, ho]
  unfold sBin at h
  split at h <;> first
    | (rename_i e1 e2
       rw [e1] at hx; rw [e2] at hy
       have ex := hx.lit_eq; have ey := hy.lit_eq
       rw [exec, ex, ey]
       simp only [Res.holds] at h
       first
        | (refine DoesNS.same ?_ (.pv (.lit _)) h
           intro w _
           simp [Sem.run_bind, eqGuard_int, binOp, Op.intArith, w64]; done)
        | (obtain ⟨hn, h⟩ := h
           first
            | (have hz := of_decide_eq_true hn
               refine DoesNS.same ?_ (.pv (.lit _)) h
               intro w _
               simp [Sem.run_bind, eqGuard_int, binOp, Op.intDiv, hz, w64]; done)
            | (have hz := Int.not_lt.2 (of_decide_eq_true hn)
               refine DoesNS.same ?_ (.pv (.lit _)) h
               intro w _
               simp only [Sem.run_bind, eqGuard_str, Result.andThen_ok, binOp, Op.stringOp, gt_iff_lt, if_neg hz, Sem.run_pure]; done)
            | (obtain ⟨hn2, h⟩ := h
               have hz := of_decide_eq_true hn
               refine DoesNS.same ?_ (.pv (.lit _)) h
               intro w _
               simp [Sem.run_bind, eqGuard_int, binOp, Op.intDiv, hz, wrap_inI64 hn2]; done))
        | (refine DoesNS.same ?_ (.pv (.lit _)) h
           intro w _
           simp [Sem.run_bind, eqGuard_int, eqGuard_str, binOp, Op.intCmp, Op.stringOp, bne]; done)
        | (refine DoesNS.same ?_ (.pv (.lit _)) h
           intro w _
           simp only [Sem.run_bind, eqGuard_int, eqGuard_str, Result.andThen_ok, binOp, Op.intCmp, Op.stringOp, strEq_toList]; rfl))
    | (split at h
       · rename_i neg hk
         split at h
         · rename_i hc
           simp only [Bool.and_eq_true] at hc
           obtain ⟨v, hk2, hrun⟩ := sEq_run htab hx hy hc.1 hc.2 h
           have ho := eqKind_op hk
           rw [exec, ho]
           refine DoesNS.same (fun w _ => ?_) (.pv (.lit _)) hk2
           have := hrun w
           simp only [Sem.run_bind] at this ⊢; simp [this]
         · exact h.elim
       · split at h
         · rename_i r hr
           have hrun := cmpOf_run (P := P) (t := t) hx hy hr
           rw [exec]
           refine DoesNS.same (fun w _ => ?_) (.pv (.lit _)) h
           have := hrun w x y
           simp only [Sem.run_bind] at this ⊢; simp [this]
         · exact sPure_soundS (w0 := w0) hm hev h)
theorem sField_soundS {P : Program} {tab : Tab} (htab : TabOk P tab) {M : Imm} {ρ : Env} {H : List SObj} {w0 : World} {Sw : World → Prop} {K : Post} (hm : Mem M ρ H w0) {t f : Nat} {x : SV} {v : Value} (hx : SRep M ρ v x)
    (h : (sField tab t x f).holds H K) : DoesS P (Instr.field t v f) M ρ Sw H K := by
  unfold sField at h
  split at h
  · rename_i l fields sz' by' zr rw' hte
    have hu : P.underlying t = some (.struct fields) := (htab.get hte).und
    cases hx with
    | agg cs _ hl hr =>
      split at h
      · exact h.elim
      · rename_i fd hfd
        split at h
        · exact h.elim
        · rename_i i hi
          have ht := htab.get hi
          obtain ⟨inf, hinf, i1, _⟩ := ht.inf
          split at h
          · rename_i hd
            simp only [Res.holds, decide_eq_true_eq] at h
            obtain ⟨hle, h⟩ := h
            refine DoesS.same (v := .agg (cs.extract fd.offset (fd.offset + i.size))) ?_ ?_ h
            · simp [Instr.field, run_underlying hu, hfd, asAgg, part, isAgg_run ht, hd, sizeOf, typeInfo, hinf, i1]
            · have := SRep.mkAgg (M := M) (ρ := ρ) (cs := (cs.extract fd.offset (fd.offset + i.size)).toList) (l := (l.drop fd.offset).take i.size) (by simp; omega) (fun k v x hv hx => by
                rw [List.getElem?_take] at hx
                split at hx
                · rename_i hk
                  rw [List.getElem?_drop] at hx
                  rw [Array.getElem?_toList, Array.getElem?_extract] at hv
                  split at hv
                  · exact hr _ v x hv hx
                  · cases hv
                · cases hx)
              rwa [Array.toArray_toList] at this
          · rename_i hd
            simp only [Res.holds, decide_eq_true_eq] at h
            obtain ⟨hle, h⟩ := h
            have hlt : fd.offset < cs.size := by omega
            refine DoesS.same (v := cs[fd.offset]) ?_ ?_ h
            · simp [Instr.field, run_underlying hu, hfd, asAgg, part, isAgg_run ht, hd, hlt]
            · rw [List.getD_eq_getElem?_getD, List.getElem?_eq_getElem hle]
              exact hr fd.offset _ _ (by simp [hlt]) (by simp [hle])
  · exact h.elim
theorem sLookup0_soundS {P : Program} {tab : Tab} (htab : TabOk P tab) {M : Imm} {ρ : Env} {H : List SObj} {w0 : World} {Sw : World → Prop} {K : Post} (hm : Mem M ρ H w0) {R : List Nat} (hR : ∀ u, Sw u → ∀ s ∈ R, ∀ p, ρ s = some p → u.heap[p.block]? = w0.heap[p.block]?)
    {t : Nat} {m k : SV} {vm vk : Value} {ok : Bool} (hmr : SRep M ρ vm m) (hkr : SRep M ρ vk k) (hin : ∀ s, m = .mp s → s ∈ R)
    (h : (sLookup0 P tab H t m k ok).holds H K) : DoesS P (Instr.lookup t vm vk ok) M ρ Sw H K := by
  unfold sLookup0 at h
  split at h
  · rename_i kt et sz' by' zr rw' hte
    have hu : P.underlying t = some (.map kt et) := (htab.get hte).und
    split at h
    · rename_i kv
      have := hkr.lit_eq; subst this
      split at h
      · rename_i s
        split at h
        · rename_i es c ho
          split at h
          · rename_i hko
            cases hmr with
            | mp _ p hp =>
              obtain ⟨arr, hheap, hrep⟩ := (hm.own s _ ho).mapRep hp
              have hempty : arr.isEmpty = es.isEmpty := by
                have := hrep.sz
                simp only [Array.isEmpty, this]
                cases es <;> simp
              have hget : ∀ u, Sw u → (getObj p.block).run P u = .ok (.map arr c) u := fun u hu' => run_getObj_map (P := P) (by rw [hR u hu' s (hin s rfl) p hp]; exact hheap)
              have hkey : ∀ u, _ := fun u => keyOk_run hko u
              rw [← hempty] at hkey
              split at h
              · rename_i j hj
                obtain ⟨e, x, a1, a2, a3, a4, a5, a6⟩ := (seek_run (P := P) (kt := kt) (k := vk) hrep w0).2 j hj
                rw [a2] at h
                simp only at h
                refine DoesS.same ?_ (ok_rep (ok := ok) (b := true) a5) h
                intro u hw
                obtain ⟨e', x', b1, _, _, _, _, b6⟩ := (seek_run (P := P) (kt := kt) (k := vk) hrep u).2 j hj
                rw [a1] at b1; cases b1
                simp [Instr.lookup, run_underlying hu, hget u hw, hkey u, b6]
              · rename_i hj
                split at h
                · rename_i i hi
                  refine DoesS.same ?_ (ok_rep (ok := ok) (b := false) (.pv (.lit _))) h
                  intro u hw
                  simp [Instr.lookup, run_underlying hu, hget u hw, hkey u, (seek_run (P := P) (kt := kt) (k := vk) hrep u).1 hj, zeroValue_run (htab.get hi)]
                · exact h.elim
              · exact h.elim
          · exact h.elim
        · exact h.elim
      · split at h
        · rename_i hko
          have := hmr.lit_eq; subst this
          split at h
          · rename_i i ik hi hik
            refine DoesS.same ?_ (ok_rep (ok := ok) (b := false) (.pv (.lit _))) h
            intro w _
            have hkey := keyOk_run hko w
            have hnone : (Instr.findKey kt vk []).run P w = .ok none w := by
              simp only [Instr.findKey, Instr.findNow, Sem.run_bind, run_underlying (htab.get hik).und, Result.andThen_ok, Sem.run_pure]
            simp [Instr.lookup, run_underlying hu, hkey, hnone, zeroValue_run (htab.get hi)]
          · exact h.elim
        · exact h.elim
      · exact h.elim
    · exact h.elim
  · exact h.elim
theorem sLookup_soundS {P : Program} {tab : Tab} (htab : TabOk P tab) {M : Imm} {ρ : Env} {H : List SObj} {w0 : World} {Sw : World → Prop} {K : Post} (hm : Mem M ρ H w0) {R : List Nat} (hR : ∀ u, Sw u → ∀ s ∈ R, ∀ p, ρ s = some p → u.heap[p.block]? = w0.heap[p.block]?)
    {t : Nat} {m k : SV} {vm vk : Value} {ok : Bool} (hmr : SRep M ρ vm m) (hkr : SRep M ρ vk k) (hin : ∀ s, m = .mp s → s ∈ R)
    (h : (sLookup P tab H t m k ok).holds H K) : DoesS P (Instr.lookup t vm vk ok) M ρ Sw H K := by
  unfold sLookup at h
  split at h
  · rename_i s
    split at h
    · rename_i ka va l ho
      split at h
      · rename_i kt et _ _ _ _ hte
        cases hmr with
        | mp _ p hp =>
          obtain ⟨arr, hheap, hrep⟩ := MapAt.rep (hm.own s _ ho) hp
          obtain ⟨v, x, h1, h2, h3⟩ := lookT_run htab hkr h hrep
          exact DoesS.same (fun u hu => h3 u t p.block _ (htab.get hte).und (by rw [hR u hu s (hin s rfl) p hp]; exact hheap)) h2 h1
      · exact h.elim
    · rename_i es c ho
      split at h
      · rename_i kt et _ _ _ _ hte
        split at h
        · split at h
          · cases hmr with
            | mp _ p hp =>
              obtain ⟨arr, hheap, hrep⟩ := (hm.own s _ ho).mapRep hp
              obtain ⟨v, x, h1, h2, h3⟩ := lookM_run htab hkr h hrep
              exact DoesS.same (fun u hu => h3 u t p.block _ (htab.get hte).und (by rw [hR u hu s (hin s rfl) p hp]; exact hheap)) h2 h1
          · exact sLookup0_soundS htab hm hR hmr hkr hin h
        · exact h.elim
      · exact h.elim
    · exact sLookup0_soundS htab hm hR hmr hkr hin h
  · exact sLookup0_soundS htab hm hR hmr hkr hin h
theorem sBuild_soundS {P : Program} {tab : Tab} (htab : TabOk P tab) {M : Imm} {ρ : Env} {H : List SObj} {Sw : World → Prop} {K : Post} {t : Nat} {vp : Array (Nat × Value)} {sp : List (Nat × SV)}
    (hl : vp.size = sp.length) (hp : ∀ (k : Nat) (a : Nat × Value) (b : Nat × SV), vp.toList[k]? = some a → sp[k]? = some b → a.1 = b.1 ∧ SRep M ρ a.2 b.2)
    (h : (sBuild P tab t sp).holds H K) : DoesS P (Instr.build t vp) M ρ Sw H K := by
  unfold sBuild at h
  split at h
  · exact h.elim
  · rename_i i hi
    have ht := htab.get hi
    have hz := fun w => zeroValue_run ht w
    split at h
    · rename_i fields hd
      have hu : P.underlying t = some (.struct fields) := by rw [ht.und, hd]
      split at h
      · exact h.elim
      · rename_i places hpl
        split at h
        · exact h.elim
        · rename_i l hf
          obtain ⟨cs', g1, g2⟩ := sfill_sound (M := M) (ρ := ρ) (zero_rowRep ht) (by simpa using hl) hp hf
          refine DoesS.same (v := .agg cs') ?_ ?_ h
          · intro w _
            have hrun := pureRun_run hpl w
            simp only [placesOf, Sem.run_bind, run_underlying hu, Result.andThen_ok] at hrun
            simp only [Instr.build, Sem.run_bind, hz, Result.andThen_ok, run_underlying hu, hrun]
            rw [g1]; rfl
          · have := SRep.mkAgg (M := M) (ρ := ρ) (cs := cs'.toList) (l := l) (by simpa using g2.sz) (fun k v x hv hx => g2.rep k v x (by rw [← Array.getElem?_toList]; exact hv) hx)
            simpa using this
    · rename_i n e hd
      have hu : P.underlying t = some (.array n e) := by rw [ht.und, hd]
      split at h
      · exact h.elim
      · rename_i ie hie
        obtain ⟨inf, hinf, i1, _⟩ := (htab.get hie).inf
        split at h
        · exact h.elim
        · rename_i l hf
          obtain ⟨cs', g1, g2⟩ := sfill_sound (M := M) (ρ := ρ) (zero_rowRep ht) (by simpa using hl) hp hf
          refine DoesS.same (v := .agg cs') ?_ ?_ h
          · intro w _
            simp only [Instr.build, Sem.run_bind, hz, Result.andThen_ok, run_underlying hu, sizeOf, typeInfo, run_program, hinf, Sem.run_pure, i1]
            rw [g1]; rfl
          · have := SRep.mkAgg (M := M) (ρ := ρ) (cs := cs'.toList) (l := l) (by simpa using g2.sz) (fun k v x hv hx => g2.rep k v x (by rw [← Array.getElem?_toList]; exact hv) hx)
            simpa using this
    · exact h.elim
theorem DoesS.seen {P : Program} {S : Sem Value} {M : Imm} {ρ : Env} {Sw : World → Prop} {H : List SObj} {K : Post} (h : DoesS P S M ρ Sw H (Seen K)) : DoesS P S M ρ Sw H K := by
  obtain ⟨v, x, ⟨y, hy, hk⟩, hx, hr⟩ := h
  exact ⟨v, y, hk, hy _ _ _ hx, hr⟩
theorem sFieldAddr_soundS {P : Program} {tab : Tab} (htab : TabOk P tab) {M : Imm} {ρ : Env} {H : List SObj} {w0 : World} {Sw : World → Prop} {K : Post} (hm : Mem M ρ H w0) {t f : Nat} {x : SV} {v : Value} (hx : SRep M ρ v x)
    (h : (sFieldAddr tab t x f).holds H K) : DoesS P (Instr.fieldAt t v f) M ρ Sw H K := DoesS.seen (sFieldAddr0_soundS (w0 := w0) htab hm hx.untyped (sFieldAddr_untyped h))
theorem sIndexAddr_soundS {P : Program} {tab : Tab} (htab : TabOk P tab) {M : Imm} {ρ : Env} {H : List SObj} {w0 : World} {Sw : World → Prop} {K : Post} (hm : Mem M ρ H w0) {t : Nat} {x ix : SV} {v u : Value} (hx : SRep M ρ v x) (hix : SRep M ρ u ix)
    (h : (sIndexAddr tab t x ix).holds H K) : DoesS P (Instr.indexAt t v u) M ρ Sw H K := DoesS.seen (sIndexAddr0_soundS (w0 := w0) htab hm hx.untyped hix (sIndexAddr_untyped h))
theorem sSlice_soundS {P : Program} {tab : Tab} (htab : TabOk P tab) {M : Imm} {ρ : Env} {H : List SObj} {w0 : World} {Sw : World → Prop} {K : Post} (hm : Mem M ρ H w0) {t : Nat} {x : SV} {lo hi : Option SV} {v : Value} {vl vh : Option Value}
    (hx : SRep M ρ v x) (hsl : vl.isSome = lo.isSome) (hrl : ∀ v x, vl = some v → lo = some x → SRep M ρ v x) (hsh : vh.isSome = hi.isSome) (hrh : ∀ v x, vh = some v → hi = some x → SRep M ρ v x)
    (h : (sSlice tab H t x lo hi).holds H K) : DoesS P (Instr.sliceAt t v vl vh none) M ρ Sw H K := DoesS.seen (sSlice0_soundS (w0 := w0) htab hm hx.untyped hsl hrl hsh hrh (sSlice_untyped h))
theorem untyped_mp {x : SV} (h : ∀ s, x ≠ .mp s) : ∀ s, x.untyped ≠ .mp s := by
  intro s
  unfold SV.untyped
  split
  · intro e; cases e
  · intro e; cases e
  · exact h s
theorem sLen_soundS {P : Program} {tab : Tab} (htab : TabOk P tab) {M : Imm} {ρ : Env} {H : List SObj} {w0 : World} {Sw : World → Prop} {K : Post} (hm : Mem M ρ H w0) {t ty : Nat} {x : SV} {v : Value} (hx : SRep M ρ v x) (hnm : ∀ s, x ≠ .mp s)
    (h : (sLen tab H t x).holds H K) : DoesS P (Builtin.len_ #[t] ty #[v]) M ρ Sw H K := DoesS.seen (sLen0_soundS (w0 := w0) htab hm hx.untyped (untyped_mp hnm) (sLen_untyped h))
end Go.Sx

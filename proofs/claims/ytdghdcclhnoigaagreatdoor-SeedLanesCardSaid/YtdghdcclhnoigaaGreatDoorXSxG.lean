/- Part G of the own logic: addresses, slices of slices, lengths. -/
import Derived.Test.YtdghdcclhnoigaaGreatDoorXSxF
set_option linter.unusedVariables false
set_option linter.unusedSimpArgs false
namespace Go.Sx
open Go
def pureRun {α : Type} (P : Program) : Sem α → Option α
  | .pure a => some a
  | .program k => pureRun P (k P)
  | .mark _ k => pureRun P k
  | _ => none
theorem pureRun_run {α : Type} {P : Program} {S : Sem α} {a : α} (h : pureRun P S = some a) (w : World) : S.run P w = .ok a w := by
  induction S with
  | pure b => simp [pureRun] at h; subst h; rfl
  | program k ih => simp only [pureRun] at h; simp only [Sem.run]; exact ih P h
  | mark m k ih => simp only [pureRun] at h; simp only [Sem.run]; exact ih h
  | _ => simp [pureRun] at h
def sFieldAddr0 (tab : Tab) (t : Nat) (x : SV) (f : Nat) : Res :=
  match tab.lookup t with
  | some { desc := .struct fields, .. } => match fields[f]? with
    | none => .fail
    | some fd => match tab.lookup fd.type with
      | none => .fail
      | some i => if i.size = 0 then .fail else match x with
        | .ptr s sz r j => .ok (.ptr s sz r (j + fd.offset))
        | .pv (.rptr sz rows r j) => .ok (.pv (.rptr sz rows r (j + fd.offset)))
        | _ => .fail
  | _ => .fail
theorem sFieldAddr0_sound {P : Program} {tab : Tab} (htab : TabOk P tab) {M : Imm} {ρ : Env} {H : List SObj} {w : World} {K : Post} (hm : Mem M ρ H w) {t f : Nat} {x : SV} {v : Value} (hx : SRep M ρ v x)
    (h : (sFieldAddr0 tab t x f).holds H K) : DoesV P (Instr.fieldAt t v f) M ρ H w K := by
  unfold sFieldAddr0 at h
  split at h
  · rename_i fields sz' by' zr rw' hte
    have htt := htab.get hte
    split at h
    · exact h.elim
    · rename_i fd hfd
      split at h
      · exact h.elim
      · rename_i i hi
        obtain ⟨n, hn, i1, _⟩ := (htab.get hi).inf
        split at h
        · exact h.elim
        · rename_i hz
          have key : ∀ b k, (Instr.fieldAt t (.pointer (some ⟨b, k, none⟩)) f).run P w = .ok (.pointer (some ⟨b, k + fd.offset, none⟩)) w := fun b k => by
            simp [Instr.fieldAt, run_underlying htt.und, hfd, Instr.sureAddr, fieldPlace, sizeOf, typeInfo, hn, i1, hz, Addr.add_mid]
          split at h
          · rename_i s sz r j
            cases hx with
            | ptr _ _ _ _ k p hp hk => exact DoesV.same hm (key _ _) (.ptr _ _ _ _ _ p hp (by omega)) h
          · rename_i sz rows r j
            cases hx with
            | pv hp => cases hp with
              | rptr b off _ _ _ k _ hk h0 h1 h2 => exact DoesV.same hm (key _ _) (.pv (.rptr b off sz r (j + fd.offset) _ rows (by omega) h0 h1 h2)) h
          · exact h.elim
  · exact h.elim
def sIndexAddr0 (tab : Tab) (t : Nat) (x ix : SV) : Res :=
  match ix with
  | .pv (.lit (.int k n)) => match tab.lookup t with
    | some { desc := .slice e, .. } => match tab.lookup e with
      | none => .fail
      | some i => match x with
        | .sl s sz st len => if sz = i.size then .need (decide (0 ≤ n)) (.need (decide (n < len)) (.ok (.ptr s sz (st + n.toNat) 0))) else .fail
        | .pv (.rsl sz rows) => if sz = i.size then .need (decide (0 ≤ n)) (.need (decide (n < rows.length)) (.ok (.pv (.rptr sz rows n.toNat 0)))) else .fail
        | _ => .fail
    | some { desc := .array m e, .. } => match tab.lookup e with
      | none => .fail
      | some i => match x with
        | .ptr s sz r j => .need (decide (0 ≤ n)) (.need (decide (n < m)) (.ok (.ptr s sz r (j + n.toNat * i.size))))
        | .pv (.rptr sz rows r j) => .need (decide (0 ≤ n)) (.need (decide (n < m)) (.ok (.pv (.rptr sz rows r (j + n.toNat * i.size)))))
        | _ => .fail
    | _ => .fail
  | _ => .fail
theorem indexAt_slice {P : Program} {w : World} {t e : Nat} {i : TI} (hu : P.underlying t = some (.slice e)) (he : TyOk P e i) {k : IntKind} {n : Int} {b o len c : Nat} (h0 : 0 ≤ n) (h1 : n < len) :
    (Instr.indexAt t (.slice (some ⟨b, o, none⟩) len c) (.int k n)).run P w = .ok (.pointer (some ⟨b, o + n.toNat * i.size, none⟩)) w := by
  obtain ⟨inf, hn, i1, _⟩ := he.inf
  simp [Instr.indexAt, asIntOf, run_underlying hu, h0, h1, sizeOf, typeInfo, hn, i1, Addr.add_mid]
theorem indexAt_array {P : Program} {w : World} {t e m : Nat} {i : TI} (hu : P.underlying t = some (.array m e)) (he : TyOk P e i) {k : IntKind} {n : Int} {b o : Nat} (h0 : 0 ≤ n) (h1 : n < m) :
    (Instr.indexAt t (.pointer (some ⟨b, o, none⟩)) (.int k n)).run P w = .ok (.pointer (some ⟨b, o + n.toNat * i.size, none⟩)) w := by
  obtain ⟨inf, hn, i1, _⟩ := he.inf
  simp [Instr.indexAt, asIntOf, run_underlying hu, h0, h1, Instr.sureAddr, sizeOf, typeInfo, hn, i1, Addr.add_mid]
theorem sIndexAddr0_sound {P : Program} {tab : Tab} (htab : TabOk P tab) {M : Imm} {ρ : Env} {H : List SObj} {w : World} {K : Post} (hm : Mem M ρ H w) {t : Nat} {x ix : SV} {v u : Value} (hx : SRep M ρ v x) (hix : SRep M ρ u ix)
    (h : (sIndexAddr0 tab t x ix).holds H K) : DoesV P (Instr.indexAt t v u) M ρ H w K := by
  unfold sIndexAddr0 at h
  split at h
  · rename_i k n
    have := hix.lit_eq; subst this
    split at h
    · rename_i e sz' by' zr rw' hte
      have htt := htab.get hte
      split at h
      · exact h.elim
      · rename_i i hi
        have ht := htab.get hi
        split at h
        · rename_i s sz st len
          split at h
          · rename_i hsz; subst hsz
            simp only [Res.holds, decide_eq_true_eq] at h
            obtain ⟨h0, h1, h⟩ := h
            cases hx with
            | sl _ _ _ _ c k' p hp hk hc hn =>
              refine DoesV.same hm (indexAt_slice htt.und ht h0 h1) (.ptr _ _ _ _ _ p hp ?_) h
              rw [hk, Nat.add_mul]; omega
            | slz => simp at h1; omega
          · exact h.elim
        · rename_i sz rows
          split at h
          · rename_i hsz; subst hsz
            simp only [Res.holds, decide_eq_true_eq] at h
            obtain ⟨h0, h1, h⟩ := h
            cases hx with
            | pv hp => cases hp with
              | rnil => simp at h1; omega
              | remp => simp at h1; omega
              | rsl b off c _ n' _ hn hc g0 g1 g2 =>
                refine DoesV.same hm (indexAt_slice htt.und ht h0 (by omega)) (.pv (.rptr b off i.size n.toNat 0 _ rows (by omega) g0 g1 g2)) h
          · exact h.elim
        · exact h.elim
    · rename_i m e sz' by' zr rw' hte
      have htt := htab.get hte
      split at h
      · exact h.elim
      · rename_i i hi
        have ht := htab.get hi
        split at h
        · rename_i s sz r j
          simp only [Res.holds, decide_eq_true_eq] at h
          obtain ⟨h0, h1, h⟩ := h
          cases hx with
          | ptr _ _ _ _ k' p hp hk => exact DoesV.same hm (indexAt_array htt.und ht h0 h1) (.ptr _ _ _ _ _ p hp (by omega)) h
        · rename_i sz rows r j
          simp only [Res.holds, decide_eq_true_eq] at h
          obtain ⟨h0, h1, h⟩ := h
          cases hx with
          | pv hp => cases hp with
            | rptr b off _ _ _ k' _ hk g0 g1 g2 => exact DoesV.same hm (indexAt_array htt.und ht h0 h1) (.pv (.rptr b off sz r _ _ rows (by omega) g0 g1 g2)) h
        · exact h.elim
    · exact h.elim
  · exact h.elim
def bound : Option SV → Int → Option Int
  | none, d => some d
  | some (.pv (.lit (.int _ n))), _ => some n
  | _, _ => none
def sSlice0 (tab : Tab) (H : List SObj) (t : Nat) (x : SV) (lo hi : Option SV) : Res :=
  match tab.lookup t with
  | some { desc := .slice e, .. } => match tab.lookup e with
    | none => .fail
    | some i => match x with
      | .sl s sz st len => if sz = i.size then match bound lo 0, bound hi len with
        | some l, some h => .need (decide (0 ≤ l)) <| .need (decide (l ≤ h)) <| .need (decide (h ≤ len)) (.ok (.sl s sz (st + l.toNat) (h.toNat - l.toNat)))
        | _, _ => .fail
        else .fail
      | .pv (.rsl sz rows) => if sz = i.size then match bound lo 0, bound hi rows.length with
        | some l, some h => .need (decide (0 ≤ l)) <| .need (decide (l ≤ h)) <| .need (decide (h ≤ rows.length)) (.ok (.pv (.rsl sz ((rows.take h.toNat).drop l.toNat))))
        | _, _ => .fail
        else .fail
      | .pv (.lit (.slice none 0 0)) => match bound lo 0, bound hi 0 with
        | some l, some h => .need (decide (l = 0)) <| .need (decide (h = 0)) (.ok (.lit (.slice none 0 0)))
        | _, _ => .fail
      | _ => .fail
  | some { desc := .string, .. } => match x with
    | .pv (.lit (.string b)) => match bound lo 0, bound hi b.size with
      | some l, some h => .need (decide (0 ≤ l)) <| .need (decide (l ≤ h)) <| .need (decide (h ≤ b.size)) (.ok (.lit (.string (b.extract l.toNat h.toNat))))
      | _, _ => .fail
    | _ => .fail
  | some { desc := .pointer arr, .. } => .fail
  | some { desc := .array n e, .. } => match tab.lookup e with
    | none => .fail
    | some i => match x with
      | .ptr s sz r j => match H[s]? with
        | none => .fail
        | some o => match o.sz?, bound lo 0, bound hi n with
          | some szo, some l, some h => if i.size = 0 then .fail else .need (decide ((r * sz + j) % i.size = 0)) <| .need (decide (r * sz + j + n * i.size ≤ o.len * szo)) <|
              .need (decide (0 ≤ l)) <| .need (decide (l ≤ h)) <| .need (decide (h ≤ n)) (.ok (.sl s i.size ((r * sz + j) / i.size + l.toNat) (h.toNat - l.toNat)))
          | _, _, _ => .fail
      | _ => .fail
  | _ => .fail
theorem bound_spec {M : Imm} {ρ : Env} {a : Option SV} {va : Option Value} {d n : Int} (hs : va.isSome = a.isSome) (hr : ∀ v x, va = some v → a = some x → SRep M ρ v x) (h : bound a d = some n) :
    (va = none ∧ n = d) ∨ ∃ k, va = some (.int k n) := by
  match a, va, hs with
  | none, none, _ => simp [bound] at h; exact .inl ⟨rfl, h.symm⟩
  | some x, some v, _ =>
    have := hr v x rfl rfl
    match x, h with
    | .pv (.lit (.int k m)), h => simp [bound] at h; subst h; exact .inr ⟨k, by rw [this.lit_eq]⟩
theorem bounds_run {P : Program} {w : World} {isSl : Bool} {len cap : Nat} {vl vh : Option Value} {l h : Int} (hl : (vl = none ∧ l = 0) ∨ ∃ k, vl = some (.int k l)) (hh : (vh = none ∧ h = len) ∨ ∃ k, vh = some (.int k h))
    (h0 : 0 ≤ l) (h1 : l ≤ h) (h2 : h ≤ cap) : (Instr.sliceBounds isSl len cap vl vh none).run P w = .ok (l.toNat, h.toNat, cap) w := by
  have h2' : h.toNat ≤ cap := by omega
  have hcast : (0 : Int) ≤ h := by omega
  have hlt : l ≤ (h.toNat : Int) := by omega
  rcases hl with ⟨rfl, rfl⟩ | ⟨k, rfl⟩ <;> rcases hh with ⟨rfl, rfl⟩ | ⟨k', rfl⟩ <;>
    (try simp only [Int.toNat_natCast] at hlt) <;> simp [Instr.sliceBounds, Instr.sliceBound, asIntOf, h0, h1, h2, hcast, hlt]
  intro hx
  omega
theorem sliceAt_slice {P : Program} {w : World} {t e : Nat} {i : TI} (hu : P.underlying t = some (.slice e)) (he : TyOk P e i) {a : Option Addr} {len cap : Nat} {vl vh : Option Value} {l h : Int}
    (hl : (vl = none ∧ l = 0) ∨ ∃ k, vl = some (.int k l)) (hh : (vh = none ∧ h = len) ∨ ∃ k, vh = some (.int k h)) (h0 : 0 ≤ l) (h1 : l ≤ h) (h2 : h ≤ cap) :
    (Instr.sliceAt t (.slice a len cap) vl vh none).run P w = .ok (.slice (if cap = l.toNat then a else a.map (·.add (l.toNat * i.size))) (h.toNat - l.toNat) (cap - l.toNat)) w := by
  obtain ⟨inf, hn, i1, _⟩ := he.inf
  simp [Instr.sliceAt, Instr.slice, run_underlying hu, bounds_run hl hh h0 h1 h2, sizeOf, typeInfo, hn, i1]
theorem sSlice0_sound {P : Program} {tab : Tab} (htab : TabOk P tab) {M : Imm} {ρ : Env} {H : List SObj} {w : World} {K : Post} (hm : Mem M ρ H w) {t : Nat} {x : SV} {lo hi : Option SV} {v : Value} {vl vh : Option Value}
    (hx : SRep M ρ v x) (hsl : vl.isSome = lo.isSome) (hrl : ∀ v x, vl = some v → lo = some x → SRep M ρ v x) (hsh : vh.isSome = hi.isSome) (hrh : ∀ v x, vh = some v → hi = some x → SRep M ρ v x)
    (h : (sSlice0 tab H t x lo hi).holds H K) : DoesV P (Instr.sliceAt t v vl vh none) M ρ H w K := by
  unfold sSlice0 at h
  split at h
  · rename_i e sz' by' zr rw' hte
    have htt := htab.get hte
    split at h
    · exact h.elim
    · rename_i i hi'
      have ht := htab.get hi'
      split at h
      · rename_i s sz st len
        split at h
        · rename_i hsz; subst hsz
          split at h
          · rename_i l hh e1 e2
            simp only [Res.holds, decide_eq_true_eq] at h
            obtain ⟨h0, h1, h2, h⟩ := h
            have bl := bound_spec hsl hrl e1
            have bh := bound_spec hsh hrh e2
            cases hx with
            | sl _ _ _ _ c k p hp hk hc hn =>
              refine DoesV.same hm (sliceAt_slice htt.und ht bl bh h0 h1 (by omega)) ?_ h
              by_cases hcl : c = l.toNat
              · have e0 : hh.toNat - l.toNat = 0 := by omega
                rw [if_pos hcl, e0, hcl, Nat.sub_self]; exact .slz _ _ _ _
              · rw [if_neg hcl]
                simp only [Option.map_some, Addr.add_mid]
                refine .sl _ _ _ _ _ _ p hp (by rw [hk, Nat.add_mul]) ?_ (by omega)
                rw [show st + l.toNat + (c - l.toNat) = st + c by omega]; exact hc
            | slz a b c' a' =>
              refine DoesV.same hm (sliceAt_slice htt.und ht bl bh h0 h1 (by omega)) ?_ h
              have hl0 : l.toNat = 0 := by omega
              have hh0 : hh.toNat = 0 := by omega
              rw [hl0, hh0]; simp only [Nat.sub_self, if_true]; exact .slz _ _ _ _
          · exact h.elim
        · exact h.elim
      · rename_i sz rows
        split at h
        · rename_i hsz; subst hsz
          split at h
          · rename_i l hh e1 e2
            simp only [Res.holds, decide_eq_true_eq] at h
            obtain ⟨h0, h1, h2, h⟩ := h
            have bl := bound_spec hsl hrl e1
            have bh := bound_spec hsh hrh e2
            cases hx with
            | pv hp =>
              have hlen : ((rows.take hh.toNat).drop l.toNat).length = hh.toNat - l.toNat := by simp; omega
              cases hp with
              | rnil =>
                refine DoesV.same hm (sliceAt_slice htt.und ht bl (by simpa using bh) h0 h1 (by simpa using h2)) ?_ h
                have hl0 : l.toNat = 0 := by simp at h2; omega
                have hh0 : hh.toNat = 0 := by simp at h2; omega
                rw [hl0, hh0]; simp; exact .pv (.rnil _)
              | remp a c =>
                refine DoesV.same hm (sliceAt_slice htt.und ht bl (by simpa using bh) h0 h1 (by simp at h2; omega)) ?_ h
                have hl0 : l.toNat = 0 := by simp at h2; omega
                have hh0 : hh.toNat = 0 := by simp at h2; omega
                rw [hl0, hh0]
                simp only [List.take_nil, List.drop_nil, Nat.sub_zero, Nat.zero_mul]
                split
                · exact .pv (.remp _ _ _)
                · exact .pv (.remp _ _ _)
              | rsl b off c _ n' _ hn hc g0 g1 g2 =>
                subst hn
                refine DoesV.same hm (sliceAt_slice htt.und ht bl bh h0 h1 (by omega)) ?_ h
                by_cases hcl : c = l.toNat
                · have e0 : hh.toNat - l.toNat = 0 := by omega
                  have : (rows.take hh.toNat).drop l.toNat = [] := List.eq_nil_of_length_eq_zero (by rw [hlen, e0])
                  rw [if_pos hcl, this, e0, hcl, Nat.sub_self]; exact .pv (.remp _ _ _)
                · rw [if_neg hcl]
                  simp only [Option.map_some, Addr.add_mid]
                  have at' : ∀ (m : Nat) (r : List PV), ((rows.take hh.toNat).drop l.toNat)[m]? = some r → rows[l.toNat + m]? = some r := fun m r hm' => by
                    rw [List.getElem?_drop, List.getElem?_take] at hm'
                    split at hm'
                    · exact hm'
                    · cases hm'
                  have mul : ∀ m j : Nat, off + l.toNat * i.size + m * i.size + j = off + (l.toNat + m) * i.size + j := fun m j => by rw [Nat.add_mul]; omega
                  refine .pv (.rsl b (off + l.toNat * i.size) (c - l.toNat) i.size _ _ hlen.symm (by omega) (fun m j hm' hj => ?_) (fun m r j p u hm' hj hu => ?_) (fun m r hm' => g2 _ r (at' m r hm')))
                  · rw [mul]; rw [hlen] at hm'; exact g0 _ j (by omega) hj
                  · rw [mul] at hu; exact g1 _ r j p u (at' m r hm') hj hu
          · exact h.elim
        · exact h.elim
      · split at h
        · rename_i l hh e1 e2
          simp only [Res.holds, decide_eq_true_eq] at h
          obtain ⟨h0, h1, h⟩ := h
          have := hx.lit_eq; subst this
          subst h0; subst h1
          have bl := bound_spec hsl hrl e1
          have bh := bound_spec hsh hrh e2
          have := sliceAt_slice (w := w) (a := none) (len := 0) (cap := 0) htt.und ht bl (by simpa using bh) (Int.le_refl _) (Int.le_refl _) (by simp)
          exact DoesV.same hm this (.pv (.lit _)) h
        · exact h.elim
      · exact h.elim
  · rename_i sz' by' zr rw' hte
    have htt := htab.get hte
    split at h
    · rename_i b
      split at h
      · rename_i l hh e1 e2
        simp only [Res.holds, decide_eq_true_eq] at h
        obtain ⟨h0, h1, h2, h⟩ := h
        have := hx.lit_eq; subst this
        have bl := bound_spec hsl hrl e1
        have bh := bound_spec hsh hrh e2
        refine DoesV.same hm ?_ (.pv (.lit _)) h
        have hu : P.underlying t = some .string := htt.und
        simp [Instr.sliceAt, Instr.slice, run_underlying hu, bounds_run bl bh h0 h1 h2]
      · exact h.elim
    · exact h.elim
  · exact h.elim
  · rename_i n e sz' by' zr rw' hte
    have htt := htab.get hte
    split at h
    · exact h.elim
    · rename_i i hi'
      have ht := htab.get hi'
      obtain ⟨inf, hinf, i1, _⟩ := ht.inf
      split at h
      · rename_i s sz r j
        split at h
        · exact h.elim
        · rename_i o ho
          split at h
          · rename_i szo l hh hz e1 e2
            split at h
            · exact h.elim
            · rename_i hi0
              simp only [Res.holds, decide_eq_true_eq] at h
              obtain ⟨hdiv, hfit, h0, h1, h2, h⟩ := h
              have bl := bound_spec hsl hrl e1
              have bh := bound_spec hsh hrh e2
              cases hx with
              | ptr _ _ _ _ k p hp hk =>
                obtain ⟨cs, ty, a1, a2, a3, a4, a5⟩ := ((hm.own s o ho).rowOf hz hp).ex
                have hrun : (Instr.sliceAt t (.pointer (some ⟨p.block, k, none⟩)) vl vh none).run P w = .ok (.slice (some (if n = l.toNat then ⟨p.block, k, none⟩ else ⟨p.block, k + l.toNat * i.size, none⟩)) (hh.toNat - l.toNat) (n - l.toNat)) w := by
                  have hu : P.underlying t = some (.array n e) := htt.und
                  simp [Instr.sliceAt, run_underlying hu, Instr.sureAddr, bounds_run bl bh h0 h1 h2, sizeOf, typeInfo, hinf, i1, Addr.add_mid]
                refine DoesV.same hm hrun ?_ h
                by_cases hcl : n = l.toNat
                · have e0 : hh.toNat - l.toNat = 0 := by omega
                  have e1' : n - l.toNat = 0 := by omega
                  rw [if_pos hcl, e0, e1']; exact .slz _ _ _ _
                · rw [if_neg hcl]
                  have hb : (r * sz + j) / i.size * i.size = r * sz + j := by have := Nat.div_add_mod' (r * sz + j) i.size; omega
                  refine .sl _ _ _ _ _ _ p hp (by rw [Nat.add_mul, hb, hk]) ?_ (by omega)
                  rw [show (r * sz + j) / i.size + l.toNat + (n - l.toNat) = (r * sz + j) / i.size + n by omega, Nat.add_mul, hb]
                  omega
          · exact h.elim
      · exact h.elim
  · exact h.elim
def sLen0 (tab : Tab) (H : List SObj) (t : Nat) (x : SV) : Res :=
  match tab.lookup t with
  | some { desc := .slice _, .. } => match x with
    | .sl _ _ _ len => .ok (.lit (.int .i64 len))
    | .pv (.rsl _ rows) => .ok (.lit (.int .i64 rows.length))
    | .pv (.lit (.slice _ n _)) => .ok (.lit (.int .i64 n))
    | _ => .fail
  | some { desc := .string, .. } => match x with
    | .pv (.lit (.string s)) => .ok (.lit (.int .i64 s.size))
    | _ => .fail
  | some { desc := .map _ _, .. } => match x with
    | .mp s => match H[s]? with
      | some (.map es _) => .ok (.lit (.int .i64 es.length))
      | some (.tmap _ _ l) => .ok (.lit (.int .i64 l.length))
      | _ => .fail
    | .pv (.lit (.map none)) => .ok (.lit (.int .i64 0))
    | _ => .fail
  | some { desc := .array n _, .. } => .ok (.lit (.int .i64 n))
  | _ => .fail
theorem run_getObj_map {P : Program} {w : World} {b : Nat} {es : Array MapEntry} {c : Nat} (h : w.heap[b]? = some (.map es c)) : (getObj b).run P w = .ok (.map es c) w := by
  simp [getObj, Sem.run, h]
theorem sLen0_sound {P : Program} {tab : Tab} (htab : TabOk P tab) {M : Imm} {ρ : Env} {H : List SObj} {w : World} {K : Post} (hm : Mem M ρ H w) {t ty : Nat} {x : SV} {v : Value} (hx : SRep M ρ v x)
    (h : (sLen0 tab H t x).holds H K) : DoesV P (Builtin.len_ #[t] ty #[v]) M ρ H w K := by
  unfold sLen0 at h
  split at h
  · rename_i e sz' by' zr rw' hte
    have hu : P.underlying t = some (.slice e) := (htab.get hte).und
    have key : ∀ a n c, (Builtin.len_ #[t] ty #[.slice a n c]).run P w = .ok (.int .i64 n) w := fun a n c => by simp [Builtin.len_, run_underlying hu, goInt]
    split at h
    · rename_i s sz st len
      cases hx with
      | sl _ _ _ _ c k p hp hk hc hn => exact DoesV.same hm (key _ _ _) (.pv (.lit _)) h
      | slz => exact DoesV.same hm (key _ _ _) (.pv (.lit _)) h
    · cases hx with
      | pv hp => cases hp with
        | rnil => exact DoesV.same hm (key _ _ _) (.pv (.lit _)) h
        | remp => exact DoesV.same hm (key _ _ _) (.pv (.lit _)) h
        | rsl b off c _ n' _ hn hc g0 g1 g2 => subst hn; exact DoesV.same hm (key _ _ _) (.pv (.lit _)) h
    · have := hx.lit_eq; subst this; exact DoesV.same hm (key _ _ _) (.pv (.lit _)) h
    · exact h.elim
  · rename_i sz' by' zr rw' hte
    have hu : P.underlying t = some .string := (htab.get hte).und
    split at h
    · have := hx.lit_eq; subst this
      exact DoesV.same hm (by simp [Builtin.len_, run_underlying hu, goInt]) (.pv (.lit _)) h
    · exact h.elim
  · rename_i kk ee sz' by' zr rw' hte
    have hu : P.underlying t = some (.map kk ee) := (htab.get hte).und
    split at h
    · rename_i s
      split at h
      · rename_i es c ho
        cases hx with
        | mp _ p hp =>
          obtain ⟨q, arr, a1, a2, a3, _⟩ := hm.own s _ ho
          rw [hp] at a1; cases a1
          refine DoesV.same hm (v := .int .i64 arr.size) ?_ (by rw [a3]; exact .pv (.lit _)) h
          simp [Builtin.len_, run_underlying hu, run_getObj_map a2, goInt]
      · rename_i ka va l ho
        cases hx with
        | mp _ p hp =>
          obtain ⟨q, arr, a1, a2, a3, _⟩ := hm.own s _ ho
          rw [hp] at a1; cases a1
          rw [entsFrom_len] at a3
          refine DoesV.same hm (v := .int .i64 arr.size) ?_ (by rw [a3]; exact .pv (.lit _)) h
          simp [Builtin.len_, run_underlying hu, run_getObj_map a2, goInt]
      · exact h.elim
    · have := hx.lit_eq; subst this
      exact DoesV.same hm (by simp [Builtin.len_, run_underlying hu, goInt]) (.pv (.lit _)) h
    · exact h.elim
  · rename_i n e sz' by' zr rw' hte
    have hu : P.underlying t = some (.array n e) := (htab.get hte).und
    refine DoesV.same hm ?_ (.pv (.lit _)) h
    simp [Builtin.len_, run_underlying hu, goInt]
  · exact h.elim
def fieldOff (tab : Tab) (t f : Nat) : Option Nat :=
  match tab.lookup t with
  | some { desc := .struct fields, .. } => match fields[f]? with
    | none => none
    | some fd => match tab.lookup fd.type with
      | none => none
      | some i => if i.size = 0 then none else some fd.offset
  | _ => none
def sFieldAddr (tab : Tab) (t : Nat) (x : SV) (f : Nat) : Res :=
  match x with
  | .pv (.tptr row l r j) => match fieldOff tab t f with
    | some off => .ok (.pv (.tptr row l r (j + off)))
    | none => .fail
  | x => sFieldAddr0 tab t x f
theorem sFieldAddr_untyped {tab : Tab} {H : List SObj} {K : Post} {t : Nat} {x : SV} {f : Nat} (h : (sFieldAddr tab t x f).holds H K) : (sFieldAddr0 tab t x.untyped f).holds H (Seen K) := by
  unfold sFieldAddr at h
  split at h
  · rename_i row l r j
    split at h
    · rename_i off ho
      unfold fieldOff at ho
      split at ho
      · rename_i fields a b c d hte
        split at ho
        · cases ho
        · rename_i fd hfd
          split at ho
          · cases ho
          · rename_i i hi
            split at ho
            · cases ho
            · rename_i hz
              cases ho
              simp only [sFieldAddr0, SV.untyped, hte, hfd, hi, if_neg hz]
              exact ⟨_, fun M ρ v hv => (by cases hv with | pv hv => exact .pv (.tptr _ _ _ _ hv)), h⟩
      · cases ho
    · exact h.elim
  · rename_i hx
    have : x.untyped = x ∨ ∃ row l, x = .pv (.tsl row l) := by
      unfold SV.untyped; split
      · exact .inr ⟨_, _, rfl⟩
      · exact absurd rfl (hx _ _ _ _)
      · exact .inl rfl
    rcases this with e | ⟨row, l, rfl⟩
    · rw [e]; exact Res.holds_mono (fun x H' t g hk => Seen.of hk) h
    · exfalso
      unfold sFieldAddr0 at h
      split at h <;> first | exact h | skip
      split at h <;> first | exact h | skip
      split at h <;> first | exact h | skip
      split at h <;> first | exact h | skip
theorem sFieldAddr_sound {P : Program} {tab : Tab} (htab : TabOk P tab) {M : Imm} {ρ : Env} {H : List SObj} {w : World} {K : Post} (hm : Mem M ρ H w) {t f : Nat} {x : SV} {v : Value} (hx : SRep M ρ v x)
    (h : (sFieldAddr tab t x f).holds H K) : DoesV P (Instr.fieldAt t v f) M ρ H w K := DoesV.seen (sFieldAddr0_sound htab hm hx.untyped (sFieldAddr_untyped h))
def elemSz (tab : Tab) (t : Nat) : Option Nat :=
  match tab.lookup t with
  | some { desc := .slice e, .. } => match tab.lookup e with
    | none => none
    | some i => some i.size
  | _ => none
def sIndexAddr (tab : Tab) (t : Nat) (x ix : SV) : Res :=
  match x with
  | .pv (.tsl row l) => match ix with
    | .pv (.lit (.int k n)) => match elemSz tab t with
      | some z => if row.length = z then .need (decide (0 ≤ n)) (.need (decide (n < l.length)) (.ok (.pv (.tptr row l n.toNat 0)))) else .fail
      | none => .fail
    | _ => .fail
  | .pv (.tptr row l i j) => .fail
  | x => sIndexAddr0 tab t x ix
theorem sIndexAddr_untyped {tab : Tab} {H : List SObj} {K : Post} {t : Nat} {x ix : SV} (h : (sIndexAddr tab t x ix).holds H K) : (sIndexAddr0 tab t x.untyped ix).holds H (Seen K) := by
  unfold sIndexAddr at h
  split at h
  · rename_i row l
    split at h
    · rename_i k n
      split at h
      · rename_i z ho
        split at h
        · rename_i hz
          unfold elemSz at ho
          split at ho
          · rename_i e a b c d hte
            split at ho
            · cases ho
            · rename_i i hi
              cases ho
              obtain ⟨h1, h2, h⟩ := h
              simp only [sIndexAddr0, SV.untyped, hte, hi, if_pos hz]
              refine ⟨h1, by simpa [rowsPV] using h2, _, fun M ρ v hv => ?_, h⟩
              cases hv with | pv hv => exact .pv (.tptr _ _ _ _ hv)
          · cases ho
        · exact h.elim
      · exact h.elim
    · exact h.elim
  · exact h.elim
  · rename_i h1 h2
    have : x.untyped = x := by
      unfold SV.untyped; split
      · exact absurd rfl (h1 _ _)
      · exact absurd rfl (h2 _ _ _ _)
      · rfl
    rw [this]; exact Res.holds_mono (fun x H' t g hk => Seen.of hk) h
theorem sIndexAddr_sound {P : Program} {tab : Tab} (htab : TabOk P tab) {M : Imm} {ρ : Env} {H : List SObj} {w : World} {K : Post} (hm : Mem M ρ H w) {t : Nat} {x ix : SV} {v u : Value} (hx : SRep M ρ v x) (hix : SRep M ρ u ix)
    (h : (sIndexAddr tab t x ix).holds H K) : DoesV P (Instr.indexAt t v u) M ρ H w K := DoesV.seen (sIndexAddr0_sound htab hm hx.untyped hix (sIndexAddr_untyped h))
def sSlice (tab : Tab) (H : List SObj) (t : Nat) (x : SV) (lo hi : Option SV) : Res :=
  match x with
  | .pv (.tsl row xs) => match elemSz tab t with
    | some z => if row.length = z then match bound lo 0, bound hi xs.length with
        | some l, some h => .need (decide (0 ≤ l)) <| .need (decide (l ≤ h)) <| .need (decide (h ≤ xs.length)) (.ok (.pv (.tsl row ((xs.take h.toNat).drop l.toNat))))
        | _, _ => .fail
      else .fail
    | none => .fail
  | .pv (.tptr ..) => .fail
  | x => sSlice0 tab H t x lo hi
theorem sSlice_untyped {tab : Tab} {H : List SObj} {K : Post} {t : Nat} {x : SV} {lo hi : Option SV} (h : (sSlice tab H t x lo hi).holds H K) : (sSlice0 tab H t x.untyped lo hi).holds H (Seen K) := by
  unfold sSlice at h
  split at h
  · rename_i row xs
    split at h
    · rename_i z ho
      split at h
      · rename_i hz
        split at h
        · rename_i l hh e1 e2
          unfold elemSz at ho
          split at ho
          · rename_i e a b c d hte
            split at ho
            · cases ho
            · rename_i i hi
              cases ho
              obtain ⟨h1, h2, h3, h⟩ := h
              have hlen : (rowsPV row xs).length = xs.length := by simp [rowsPV]
              simp only [sSlice0, SV.untyped, hte, hi, if_pos hz, hlen, e1, e2]
              refine ⟨h1, h2, h3, _, fun M ρ v hv => ?_, h⟩
              cases hv with | pv hv => exact .pv (.tsl _ _ (by simpa [rowsPV, List.map_take, List.map_drop] using hv))
          · cases ho
        · exact h.elim
      · exact h.elim
    · exact h.elim
  · exact h.elim
  · rename_i h1 h2
    have : x.untyped = x := by
      unfold SV.untyped; split
      · exact absurd rfl (h1 _ _)
      · exact absurd rfl (h2 _ _ _ _)
      · rfl
    rw [this]; exact Res.holds_mono (fun x H' t g hk => Seen.of hk) h
theorem sSlice_sound {P : Program} {tab : Tab} (htab : TabOk P tab) {M : Imm} {ρ : Env} {H : List SObj} {w : World} {K : Post} (hm : Mem M ρ H w) {t : Nat} {x : SV} {lo hi : Option SV} {v : Value} {vl vh : Option Value}
    (hx : SRep M ρ v x) (hsl : vl.isSome = lo.isSome) (hrl : ∀ v x, vl = some v → lo = some x → SRep M ρ v x) (hsh : vh.isSome = hi.isSome) (hrh : ∀ v x, vh = some v → hi = some x → SRep M ρ v x)
    (h : (sSlice tab H t x lo hi).holds H K) : DoesV P (Instr.sliceAt t v vl vh none) M ρ H w K := DoesV.seen (sSlice0_sound htab hm hx.untyped hsl hrl hsh hrh (sSlice_untyped h))
def sLen (tab : Tab) (H : List SObj) (t : Nat) (x : SV) : Res :=
  match x with
  | .pv (.tsl row xs) => match elemSz tab t with
    | some z => .ok (.lit (.int .i64 xs.length))
    | none => .fail
  | .pv (.tptr ..) => .fail
  | x => sLen0 tab H t x
theorem sLen_untyped {tab : Tab} {H : List SObj} {K : Post} {t : Nat} {x : SV} (h : (sLen tab H t x).holds H K) : (sLen0 tab H t x.untyped).holds H (Seen K) := by
  unfold sLen at h
  split at h
  · rename_i row xs
    split at h
    · rename_i z ho
      unfold elemSz at ho
      split at ho
      · rename_i e a b c d hte
        have hlen : (rowsPV row xs).length = xs.length := by simp [rowsPV]
        simp only [sLen0, SV.untyped, hte, hlen]
        exact Seen.of h
      · cases ho
    · exact h.elim
  · exact h.elim
  · rename_i h1 h2
    have : x.untyped = x := by
      unfold SV.untyped; split
      · exact absurd rfl (h1 _ _)
      · exact absurd rfl (h2 _ _ _ _)
      · rfl
    rw [this]; exact Res.holds_mono (fun x H' t g hk => Seen.of hk) h
theorem sLen_sound {P : Program} {tab : Tab} (htab : TabOk P tab) {M : Imm} {ρ : Env} {H : List SObj} {w : World} {K : Post} (hm : Mem M ρ H w) {t ty : Nat} {x : SV} {v : Value} (hx : SRep M ρ v x)
    (h : (sLen tab H t x).holds H K) : DoesV P (Builtin.len_ #[t] ty #[v]) M ρ H w K := DoesV.seen (sLen0_sound htab hm hx.untyped (sLen_untyped h))
end Go.Sx

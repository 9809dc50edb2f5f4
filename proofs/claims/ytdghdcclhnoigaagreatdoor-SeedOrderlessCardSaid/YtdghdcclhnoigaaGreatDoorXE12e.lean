/- Plain law of SeedOrderless: the loops. Plain law of SeedOrderless: somebody is faster; the whole. -/
import Derived.Test.YtdghdcclhnoigaaGreatDoorXE12c
section
set_option maxRecDepth 100000
set_option linter.unusedVariables false
set_option linter.unusedSimpArgs false
namespace Go.Proofs.Tryz
open Go Go.Sx
theorem sumT_app : ∀ (a b : List (List Run)), sumT (a ++ b) = sumT a + sumT b
  | [], b => by simp [sumT]
  | x :: a, b => by simp [sumT, sumT_app a b]; omega
theorem sumT_take {l : List (List Run)} {i : Nat} {x : List Run} (h : l[i]? = some x) : sumT (l.take (i + 1)) = sumT (l.take i) + x.countP tB := by
  rw [List.take_add_one, h, sumT_app]
  simp [sumT]
theorem sumMin_app (n : Nat) : ∀ (a b : List (List Run)), sumMin n (a ++ b) = sumMin n a + sumMin n b
  | [], b => by simp [sumMin]
  | x :: a, b => by simp [sumMin, sumMin_app n a b]; omega
theorem sumMin_take {n : Nat} {l : List (List Run)} {i : Nat} {x : List Run} (h : l[i]? = some x) : sumMin n (l.take (i + 1)) = sumMin n (l.take i) + min n (x.countP tB) := by
  rw [List.take_add_one, h, sumMin_app]
  simp [sumMin]
theorem turn_take {l : List (List Run)} {i : Nat} {x : List Run} (h : l[i]? = some x) : turn (l.take (i + 1)) = x.reverse :: turn (l.take i) := by
  rw [List.take_add_one, h]
  simp [turn]
theorem cnt_take {x : List Run} {k : Nat} {r : Run} (h : x[k]? = some r) : (x.take (k + 1)).countP tB = (x.take k).countP tB + (if tB r = true then 1 else 0) := by
  rw [List.take_add_one, h, List.countP_append]
  simp
theorem sumT_le {n : Nat} : ∀ {l : List (List Run)}, (∀ x ∈ l, x.length ≤ n) → sumT l ≤ l.length * n
  | [], _ => by simp [sumT]
  | x :: l, h => by
    have h1 := h x List.mem_cons_self
    have h2 := sumT_le (fun y hy => h y (List.mem_cons_of_mem _ hy))
    have h3 := List.countP_le_length (p := tB) (l := x)
    simp only [sumT, List.length_cons, Nat.add_mul]
    omega
theorem kT_lit : ({ data := List.toArray ((116 : UInt8) :: (105 : UInt8) :: (109 : UInt8) :: (101 : UInt8) :: nilT UInt8) } : ByteArray) = kT := rfl
theorem tl12_ok {F : Nat} {l : List (List Run)} (hF : 400 ≤ F) (hl : l.length ≤ 6) (hx : ∀ x ∈ l, x.length ≤ 162) : tl12 F l = some (turn l, (sumT l : Int)) := by
  unfold tl12
  refine (loopO_list l (fun (_ : Unit) i => (turn (l.take i), ((sumT (l.take i) : Nat) : Int), (i : Int))) (fun _ _ => .inl ()) (fun _ => (turn l, (sumT l : Int))) (fun _ _ => True) ?_ ?_ rfl trivial (by omega)).trans (by rw [goL_unit])
  · intro i x _ hi hxi _
    refine ⟨?_, fun _ _ => trivial⟩
    have hxl := hx x (List.mem_of_getElem? hxi)
    have hs := sumT_take hxi
    have ht := turn_take hxi
    have hle : sumT (l.take i) ≤ 6 * 162 := Nat.le_trans (sumT_le (n := 162) fun y hy => hx y (List.mem_of_mem_take hy)) (by rw [List.length_take]; omega)
    have htl : (turn (l.take i)).length = i := by simp [turn]; omega
    have hcl := List.countP_le_length (p := tB) (l := x)
    simp (disch := omega) only [cd_pos, gd_dec, Int.toNat_natCast, getD_some hxi]
    refine bind_list x (fun (_ : Unit) k => (x.reverse.take k, (((x.take k).countP tB : Nat) : Int), (k : Int))) (fun _ _ => .inl ()) (fun _ => (x.reverse, (x.countP tB : Int))) (fun _ _ => True) () (by omega) rfl trivial ?_ ?_ ?_
    · intro k r _ hk hr _
      refine ⟨?_, fun _ _ => trivial⟩
      have hc := cnt_take hr
      have hck := List.countP_le_length (p := tB) (l := x.take k)
      rw [len_take (by omega)] at hck
      have hw : w64 (w64 ((x.length : Int) - 1) - (k : Int)) = ((x.length - 1 - k : Nat) : Int) := by
        rw [w64_in (n := (x.length : Int) - 1) (by omega) (by omega), w64_in (by omega) (by omega)]; omega
      have hy : x[x.length - 1 - k]? = some (x[x.length - 1 - k]'(by omega)) := List.getElem?_eq_getElem (by omega)
      generalize hyy : x[x.length - 1 - k]'(by omega) = y at hy
      have hrev : x.reverse[k]? = some y := by rw [List.getElem?_reverse hk]; exact hy
      have hrl : (x.reverse.take k).length = k := len_take (by rw [List.length_reverse]; omega)
      have hsn := take_snoc hrev
      have ey : (y.1, y.2.1, y.2.2.1, y.2.2.2) = y := rfl
      simp (disch := omega) only [cd_pos, gd_dec, Int.toNat_natCast, getD_some hr, getD_some hy, hw, kT_lit, w64_in (n := ((k : Nat) : Int) + 1), ey]
      simp (disch := omega) only [len_snoc, hrl, gd_dec]
      change Option.bind (bif tB r then _ else _) _ = _
      cases htb : tB r with
      | true =>
        rw [htb, if_pos rfl] at hc
        simp (disch := omega) only [cond_true, Option.bind_some, hsn, hc, w64_in, gd_true]
        simp [gd_true]
      | false =>
        rw [htb] at hc
        rw [if_neg (by simp), Nat.add_zero] at hc
        simp (disch := omega) only [cond_false, Option.bind_some, hsn, hc, gd_true]
        simp [gd_true]
    · intro _ _
      simp (disch := omega) only [cd_neg]
      rw [List.take_length, List.take_of_length_le (by rw [List.length_reverse]; omega)]
      simp [gd_true]
    · rw [goL_unit]
      simp only [List.length_reverse]
      have e1 : List.take x.length (List.drop 0 x.reverse) = x.reverse := by rw [List.drop_zero, List.take_of_length_le (by rw [List.length_reverse]; omega)]
      have e2 : x.reverse :: nilT (List (ByteArray × ByteArray × Int × ByteArray)) ++ turn (l.take i) = turn (l.take (i + 1)) := by rw [ht]; rfl
      have e3 : (turn (l.take (i + 1))).length = i + 1 := by rw [ht, List.length_cons, htl]
      have e4 : w64 (((sumT (l.take i) : Nat) : Int) + (x.countP tB : Int)) = ((sumT (l.take (i + 1)) : Nat) : Int) := by rw [w64_in (by omega) (by omega)]; omega
      simp only [e1, e2, e3, e4]
      simp (disch := omega) only [gd_dec, w64_in, Nat.zero_add]
      have e5 : List.take (i + 1) (List.drop 0 (turn (l.take (i + 1)))) = turn (l.take (i + 1)) := by rw [List.drop_zero, List.take_of_length_le (by omega)]
      simp [gd_true]
      exact List.take_of_length_le (by omega)
  · intro _ _
    simp (disch := omega) only [cd_neg]
    rw [List.take_length]
theorem sumMin_le {n : Nat} : ∀ {l : List (List Run)}, sumMin n l ≤ l.length * n
  | [] => by simp [sumMin]
  | x :: l => by
    have h2 := sumMin_le (n := n) (l := l)
    simp only [sumMin, List.length_cons, Nat.add_mul]
    omega
theorem sc12_ok {F : Nat} {l : List (List Run)} (hF : 400 ≤ F) (hl : l.length ≤ 6) (hx : ∀ x ∈ l, x.length ≤ 162) {pl tm : Int} (hp0 : 0 ≤ pl) (hp9 : pl ≤ 9) (ht0 : 0 ≤ tm) (ht9 : tm ≤ 9) {p t q u : List ByteArray}
    (bp : p.length < F ∧ p.length ≤ 100000) (bt : t.length < F ∧ t.length ≤ 100000) (bq : q.length < F ∧ q.length ≤ 100000) (bu : u.length < F ∧ u.length ≤ 100000)
    (hf : ∀ x ∈ l, ∀ r ∈ x, seenB r.1 q = seenB r.1 p ∧ seenB r.1 u = seenB r.1 t ∧ ¬ (seenB r.1 p = true ∧ seenB r.1 t = true) ∧ (seenB r.1 p = true ∨ seenB r.1 t = true → tB r = true)) :
    sc12 F l pl tm p t q u = some (.inr (tm + (sumMin pl.toNat l : Int))) := by
  unfold sc12
  refine (loopO_list l (fun (_ : Unit) i => (tm + ((sumMin pl.toNat (l.take i) : Nat) : Int), (i : Int))) (fun _ _ => .inl ()) (fun _ => .inr (tm + (sumMin pl.toNat l : Int))) (fun _ _ => True) ?_ ?_ (by simp [sumMin]) trivial (by omega)).trans (by rw [goL_unit])
  · intro i x _ hi hxi _
    refine ⟨?_, fun _ _ => trivial⟩
    have hxm := List.mem_of_getElem? hxi
    have hxl := hx x hxm
    have hs := sumMin_take (n := pl.toNat) hxi
    have hle : sumMin pl.toNat (l.take i) ≤ 6 * 9 := Nat.le_trans sumMin_le (Nat.mul_le_mul (by rw [List.length_take]; omega) (by omega))
    have hcl := List.countP_le_length (p := tB) (l := x)
    simp (disch := omega) only [cd_pos, gd_dec, Int.toNat_natCast, getD_some hxi]
    refine bind_list x (fun (_ : Unit) k => ((((x.take k).countP tB : Nat) : Int), (k : Int))) (fun _ _ => .inl ()) (fun _ => .inr (x.countP tB : Int)) (fun _ _ => True) () (by omega) rfl trivial ?_ ?_ ?_
    · intro k r _ hk hr _
      refine ⟨?_, fun _ _ => trivial⟩
      have hc := cnt_take hr
      have hck := List.countP_le_length (p := tB) (l := x.take k)
      rw [len_take (by omega)] at hck
      obtain ⟨f1, f2, f3, f4⟩ := hf x hxm r (List.mem_of_getElem? hr)
      have etb : strEq r.2.1 kT = tB r := rfl
      simp (disch := omega) only [cd_pos, gd_dec, Int.toNat_natCast, getD_some hr, kT_lit, etb, w64_in (n := ((k : Nat) : Int) + 1), m62 bp.1 bp.2, m62 bt.1 bt.2, m62 bq.1 bq.2, m62 bu.1 bu.2, Option.bind_some, f1, f2]
      cases hsp : seenB r.1 p with
      | true =>
        cases hst : seenB r.1 t with
        | true => exact absurd ⟨hsp, hst⟩ f3
        | false =>
          have htb := f4 (.inl hsp)
          rw [htb, if_pos rfl] at hc
          simp (disch := omega) only [htb, hc, w64_in]
          simp
      | false =>
        cases hst : seenB r.1 t with
        | true =>
          have htb := f4 (.inr hst)
          rw [htb, if_pos rfl] at hc
          simp (disch := omega) only [htb, hc, w64_in]
          simp
        | false =>
          cases htb : tB r with
          | true =>
            rw [htb, if_pos rfl] at hc
            simp (disch := omega) only [hc, w64_in]
            simp
          | false =>
            rw [htb, if_neg (by simp), Nat.add_zero] at hc
            simp (disch := omega) only [hc, w64_in]
            simp
    · intro _ _
      simp (disch := omega) only [cd_neg]
      rw [List.take_length]
    · rw [goL_unit]
      simp only [Sum.elim_inr]
      by_cases hd : (x.countP tB : Int) < pl
      · have e : w64 (tm + ((sumMin pl.toNat (l.take i) : Nat) : Int) + (x.countP tB : Int)) = tm + ((sumMin pl.toNat (l.take (i + 1)) : Nat) : Int) := by rw [w64_in (by omega) (by omega)]; omega
        rw [if_pos hd]
        simp (disch := omega) only [e, w64_in]; rfl
      · have e : w64 (tm + ((sumMin pl.toNat (l.take i) : Nat) : Int) + pl) = tm + ((sumMin pl.toNat (l.take (i + 1)) : Nat) : Int) := by rw [w64_in (by omega) (by omega)]; omega
        rw [if_neg hd]
        simp (disch := omega) only [e, w64_in]; rfl
  · intro _ _
    simp (disch := omega) only [cd_neg]
    rw [List.take_length]
end Go.Proofs.Tryz
end
section
set_option maxRecDepth 100000
set_option linter.unusedVariables false
set_option linter.unusedSimpArgs false
namespace Go.Proofs.Tryz
open Go Go.Sx
theorem k0_lit : ({ data := List.toArray (nilT UInt8) } : ByteArray) = k0 := rfl
theorem fin12 {F : Nat} (hF : 10000 ≤ F) {l : List (List Run)} (hl : ShortR l) (h0 : runC l = 0) {pl tm : Int} (hp0 : 0 ≤ pl) (hp9 : pl ≤ 9) (ht0 : 0 ≤ tm) (ht9 : tm ≤ 9) {x : List Run} {r : Run} (hx : x ∈ l) (hr : r ∈ x) (ht : tB r = true) {v : Int} (h1 : 1 ≤ v) (h2 : v ≤ r.2.2.1) :
    (Option.bind (c48 F (l, pl, tm, r.1, kT, v, k0)) fun v88 => bif !decide (v88.2 = 0) then some false else Option.bind (Option.bind (c62 F ((advS l pl tm).1, r.1)) fun v92 => bif v92 then some true else Option.bind (c62 F ((advS l pl tm).2, r.1)) fun v93 => some v93) fun v89 => Option.bind (bif !v89 then some true else Option.bind (c62 F (v88.1, r.1)) fun v91 => some (!v91)) fun v90 => some v90) = some true := by
  obtain ⟨g0, g1, g2, g3⟩ := runC_iff.1 h0
  obtain ⟨n1, n2⟩ := g2 x hx r hr
  obtain ⟨b1, b2⟩ := runE_time n2 ht
  obtain ⟨a1, a2⟩ := advS_len hl (place := pl) (time := tm)
  have hsz := (hl.2 x hx).2.2 r hr
  have hfE : runE (r.1, kT, v, k0) = 0 := runE_fast h1 (by omega)
  have hch : chgE l pl tm (r.1, kT, v, k0) = 0 := by
    unfold chgE roundE
    rw [firstNZ_one, firstNZ_one, h0, hfE, if_neg (show ¬ (pl < 0 ∨ 160 < pl) by omega), if_neg (show ¬ (tm < 0 ∨ 160 < tm) by omega), if_neg (show ¬ nameB r.1 = false by rw [n1]; simp)]
    simp
  have hhas : hasR (r.1, kT, v, k0) l = true := List.any_eq_true.2 ⟨x, hx, List.any_eq_true.2 ⟨r, hr, strEq_self r.1⟩⟩
  have hlen := chL_len (b := joinS (advS l pl tm)) (a := joinS (advS (l.map (setR (r.1, kT, v, k0))) pl tm)) (o := []) (n := 0) (l := l) (by simp) fun x hx => (hl.2 x hx).1
  have hli := hl.1
  have hfast := faster_ch g3 hx hr ht (f := (r.1, kT, v, k0)) rfl (strEq_self kT) h2 (place := pl) (time := tm)
  change (chS l (l.map (setR (r.1, kT, v, k0))) pl tm).length ≤ _ at hlen
  rw [l48 hF hl (r := (r.1, kT, v, k0)) ⟨hsz.1, (by show kT.size ≤ 20; decide), (by show k0.size ≤ 20; decide)⟩]
  rw [hch, if_neg (by simp), hhas, if_neg (by simp)]
  simp only [Option.bind_some, decide_true, Bool.not_true, cond_false, m62 (show (advS l pl tm).1.length < F by omega) (show (advS l pl tm).1.length ≤ 100000 by omega), m62 (show (advS l pl tm).2.length < F by omega) (show (advS l pl tm).2.length ≤ 100000 by omega), m62 (show (chS l (l.map (setR (r.1, kT, v, k0))) pl tm).length < F by omega) (show (chS l (l.map (setR (r.1, kT, v, k0))) pl tm).length ≤ 100000 by omega)]
  cases e1 : seenB r.1 (advS l pl tm).1 with
  | true => rw [hfast (.inl e1)]; rfl
  | false =>
    cases e2 : seenB r.1 (advS l pl tm).2 with
    | true => rw [hfast (.inr e2)]; rfl
    | false => rfl
theorem tmod_at {k : Int} {n : Nat} (h0 : 0 ≤ k) (hn : 0 < n) : ∃ i : Nat, Int.tmod k n = i ∧ i < n := by
  have a := Int.tmod_nonneg (n : Int) h0
  have b := Int.tmod_lt_of_pos k (show (0 : Int) < n by omega)
  exact ⟨(Int.tmod k n).toNat, by omega, by omega⟩
theorem fa12_ok {F : Nat} (hF : 10000 ≤ F) {l : List (List Run)} (hl : ShortR l) (h0 : runC l = 0) {pl tm k k' : Int} (hp0 : 0 ≤ pl) (hp9 : pl ≤ 9) (ht0 : 0 ≤ tm) (ht9 : tm ≤ 9) (hk : 0 ≤ k ∧ k ≤ 255) (hk' : 0 ≤ k' ∧ k' ≤ 255) :
    fa12 F l pl tm k k' (advS l pl tm).1 (advS l pl tm).2 = some true := by
  obtain ⟨g0, g1, g2, g3⟩ := runC_iff.1 h0
  have w1 : IntKind.wrap IntKind.i64 k = k := w64_in (by omega) (by omega)
  have w2 : IntKind.wrap IntKind.i64 k' = k' := w64_in (by omega) (by omega)
  unfold fa12
  simp only [w1, w2]
  by_cases hn : l.length = 0
  · rw [cd_pos (by omega)]
  · obtain ⟨i, hi, hil⟩ := tmod_at hk.1 (show 0 < l.length by omega)
    have hxi : l[i]? = some l[i] := List.getElem?_eq_getElem hil
    generalize l[i] = x at hxi
    have hx := List.mem_of_getElem? hxi
    have hxl := (hl.2 x hx).1
    simp (disch := omega) only [cd_neg, hi, gd_dec, Int.toNat_natCast, getD_some hxi]
    by_cases hm : x.length = 0
    · rw [cd_pos (by omega)]
    · obtain ⟨j, hj, hjl⟩ := tmod_at hk'.1 (show 0 < x.length by omega)
      have hrj : x[j]? = some x[j] := List.getElem?_eq_getElem hjl
      generalize x[j] = r at hrj
      have hr := List.mem_of_getElem? hrj
      obtain ⟨n1, n2⟩ := g2 x hx r hr
      have etb : strEq r.2.1 kT = tB r := rfl
      simp (disch := omega) only [cd_neg, hj, gd_dec, Int.toNat_natCast, getD_some hrj, kT_lit, k0_lit, etb]
      cases ht : tB r with
      | false => rfl
      | true =>
        obtain ⟨b1, b2⟩ := runE_time n2 ht
        have w3 : w64 (r.2.2.1 - k') = r.2.2.1 - k' := w64_in (by omega) (by omega)
        simp only [w3, Bool.not_true, cond_false]
        by_cases h : 1 < r.2.2.1 - k'
        · rw [if_pos h]
          exact fin12 hF hl h0 hp0 hp9 ht0 ht9 hx hr ht (show 1 ≤ r.2.2.1 - k' by omega) (by omega)
        · rw [if_neg h]
          exact fin12 hF hl h0 hp0 hp9 ht0 ht9 hx hr ht (Int.le_refl 1) (by omega)
theorem l61 {F : Nat} (hF : 4000 ≤ F) {l : List (List Run)} (hl : ShortR l) {place time : Int} : c61 F (l, place, time) = some (if roundE l place time ≠ 0 then ([], [], roundE l place time) else ((advS l place time).1, (advS l place time).2, 0)) := by
  unfold c61
  simp only [l87 hF hl, Option.bind_some, l93 hF hl]
  change (bif !decide (roundE l place time = 0) then some (nilT ByteArray, nilT ByteArray, roundE l place time) else _) = _
  by_cases h : roundE l place time = 0 <;> simp [h, nilT]
theorem roundE_ok {l : List (List Run)} (h0 : runC l = 0) {pl tm : Int} (hp0 : 0 ≤ pl) (hp9 : pl ≤ 9) (ht0 : 0 ≤ tm) (ht9 : tm ≤ 9) : roundE l pl tm = 0 := by
  unfold roundE
  rw [firstNZ_one, h0, if_neg (show ¬ (pl < 0 ∨ 160 < pl) by omega), if_neg (show ¬ (tm < 0 ∨ 160 < tm) by omega)]
  simp
theorem law12 (a : List (List Run) × (Int × Int) × Int × Int) (hok : AEls.ok [.val (.seq [.seq [.str, .str, .int .i64, .str]]), .agg [.int .i64, .int .i64], .agg [.int .u8, .int .u8]] a) : ∃ F, c12 F a = some true := by
  obtain ⟨l, ⟨pl, tm⟩, k, k'⟩ := a
  obtain ⟨⟨hb, hb2⟩, -, ⟨hk, hk'⟩⟩ := hok
  obtain ⟨hF, hFl, hFx⟩ := roomR_ok l
  refine ⟨roomR l + 10000, ?_⟩
  generalize roomR l = F at hF hFl hFx
  have hb2' : ∀ x ∈ l, x.length * 56 ≤ 140737488351232 := fun x hx => (hb2 x hx).1
  have hF' : 10000 ≤ F + 10000 := by omega
  have hFl' : l.length < F + 10000 := by omega
  have hFx' : ∀ x ∈ l, x.length < F + 10000 := fun x hx => by have := hFx x hx; omega
  generalize F + 10000 = G at hF' hFl' hFx'
  have k1 : 0 ≤ k ∧ k ≤ 255 := hk
  have k2 : 0 ≤ k' ∧ k' ≤ 255 := hk'
  rw [c12_dd12]
  unfold dd12
  obtain ⟨b, h47, hshort⟩ := l47 (show 400 ≤ G by omega) (l := l)
  simp only [l46 hFl' hFx' hb hb2', Option.bind_some, h47]
  by_cases h6 : (6 : Int) < l.length
  · simp only [cd_pos h6, Option.bind_some, cond_true]
  · simp only [cd_neg h6]
    cases b with
    | false => rfl
    | true =>
      have hl := hshort rfl
      have hli := hl.1
      simp only [Bool.not_true, cond_false, l49 (show 4000 ≤ G by omega) hl, Option.bind_some]
      by_cases h0 : runC l = 0
      · by_cases c1 : pl < 0
        · simp [h0, c1]
        · by_cases c2 : 9 < pl
          · simp [h0, c1, c2]
          · by_cases c3 : tm < 0
            · simp [h0, c1, c2, c3]
            · by_cases c4 : 9 < tm
              · simp [h0, c1, c2, c3, c4]
              · have hx162 : ∀ x ∈ l, x.length ≤ 162 := fun x hx => (hl.2 x hx).1
                have hE := roundE_ok h0 (show 0 ≤ pl by omega) (show pl ≤ 9 by omega) (show 0 ≤ tm by omega) (show tm ≤ 9 by omega)
                have hE' := roundE_ok (runC_turn h0) (show 0 ≤ pl by omega) (show pl ≤ 9 by omega) (show 0 ≤ tm by omega) (show tm ≤ 9 by omega)
                obtain ⟨P1, P2⟩ := advS_turn l pl tm
                obtain ⟨a1, a2⟩ := advS_len hl (place := pl) (time := tm)
                have e1 := P1.length_eq
                have e2 := P2.length_eq
                obtain ⟨g0, g1, g2, g3⟩ := runC_iff.1 h0
                have hcnt := adv_cnt (l := l) (show 0 ≤ pl by omega) (show 0 ≤ tm by omega)
                have hsm : sumMin pl.toNat l ≤ 6 * 9 := Nat.le_trans sumMin_le (Nat.mul_le_mul (by omega) (by omega))
                have hw0 : w64 (0 + 0) = 0 := rfl
                simp only [h0, cd_neg c1, cd_neg c2, cd_neg c3, decide_eq_false c4, decide_true, Bool.not_true, cond_false, Option.bind_some]
                rw [tl12_ok (show 400 ≤ G by omega) (by omega) hx162]
                simp only [Option.bind_some, l61 (show 4000 ≤ G by omega) hl, l61 (show 4000 ≤ G by omega) hl.turn, hE, hE', ne_eq, not_true_eq_false, if_false, hw0, e1, e2, decide_true, Bool.not_true, cond_false]
                rw [sc12_ok (show 400 ≤ G by omega) (by omega) hx162 (show 0 ≤ pl by omega) (show pl ≤ 9 by omega) (show 0 ≤ tm by omega) (show tm ≤ 9 by omega) ⟨by omega, by omega⟩ ⟨by omega, by omega⟩ ⟨by omega, by omega⟩ ⟨by omega, by omega⟩ (fun x hx r hr => ⟨seenB_perm P1, seenB_perm P2, fun h => adv_dis g3 (seenB_iff.1 h.1) (seenB_iff.1 h.2), fun h => adv_time g3 hx hr (h.imp seenB_iff.1 seenB_iff.1)⟩)]
                simp only [Option.bind_some, Sum.elim_inr, fa12_ok hF' hl h0 (show 0 ≤ pl by omega) (show pl ≤ 9 by omega) (show 0 ≤ tm by omega) (show tm ≤ 9 by omega) k1 k2]
                have hw : w64 (((advS l pl tm).1.length : Int) + ((advS l pl tm).2.length : Int)) = ((advS l pl tm).1.length : Int) + ((advS l pl tm).2.length : Int) := w64_in (by omega) (by omega)
                rw [hw]
                rw [cd_neg]
                split <;> omega
      · simp [h0]
end Go.Proofs.Tryz
end

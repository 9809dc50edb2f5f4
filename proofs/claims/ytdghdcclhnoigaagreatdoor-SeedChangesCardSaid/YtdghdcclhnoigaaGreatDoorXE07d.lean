/- Plain law of SeedChanges. -/
import Derived.Test.YtdghdcclhnoigaaGreatDoorXTryzL7
set_option maxRecDepth 100000
set_option linter.unusedVariables false
set_option linter.unusedSimpArgs false
namespace Go.Proofs.Tryz
open Go Go.Sx
theorem m62 {F : Nat} {l : List ByteArray} {x : ByteArray} (hF : l.length < F) (hl : l.length ≤ 100000) : c62 F (l, x) = some (seenB x l) := by
  unfold c62 seenB
  refine bind_list l (fun (_ : Unit) i => (i : Int)) (fun y _ => if strEq y x = true then .inr (.inl true) else .inl ()) (fun _ => .inr ()) (fun _ _ => True) () hF rfl trivial ?_ ?_ ?_
  · intro i y _ hi hy _
    refine ⟨?_, fun _ _ => trivial⟩
    simp (disch := omega) only [cd_pos, gd_dec, Int.toNat_natCast, getD_some hy, w64_in]
    cases strEq y x <;> simp
  · intro _ _
    simp (disch := omega) only [cd_neg]
  · rw [goL_any]
    cases l.any fun y => strEq y x <;> rfl
theorem l52 {F : Nat} (hF : 400 ≤ F) {l : List (List Run)} (hl : ShortR l) {r : Run} : c52 F (l, r) = some (l.map (setR r), hasR r l) := by
  unfold c52
  have hli := hl.1
  have er : (r.1, r.2.1, r.2.2.1, r.2.2.2) = r := rfl
  refine bind_list l (fun (s : List (List Run) × Bool) i => (s.1, s.2, (i : Int))) (fun x s => .inl (s.1 ++ [setR r x], s.2 || x.any (isR r))) (fun s => s) (fun i s => s.1.length = i) ([], false) (by omega) rfl rfl ?_ ?_ ?_
  · intro i x s hi hx hs
    have hxl := (hl.2 x (List.mem_of_getElem? hx)).1
    have en : nilT Run ++ x = x := rfl
    refine ⟨?_, fun s' h => by cases h; simp [hs]⟩
    simp (disch := omega) only [cd_pos, gd_dec, Int.toNat_natCast, getD_some hx, w64_in, en, er]
    refine bind_list x (fun (f : Bool) k => (setR r (x.take k) ++ x.drop k, f, (k : Int))) (fun y f => .inl (f || isR r y)) (fun f => (setR r x, f)) (fun _ _ => True) s.2 (by omega) (by simp [setR]) trivial ?_ ?_ ?_
    · intro k y f hk hy _
      refine ⟨?_, fun _ _ => trivial⟩
      have hP : (setR r (x.take k)).length = k := by rw [setR_len, len_take (by omega)]
      have hlen : (setR r (x.take k) ++ x.drop k).length = x.length := by simp [setR_len]; omega
      have e0 : x.drop k = y :: x.drop (k + 1) := by
        rw [List.drop_eq_getElem_cons hk]
        rw [List.getElem?_eq_getElem hk] at hy
        rw [Option.some.inj hy]
      have e1 : setR r (x.take (k + 1)) ++ x.drop (k + 1) = setR r (x.take k) ++ (if isR r y = true then r else y) :: x.drop (k + 1) := by
        rw [List.take_add_one, hy]
        simp [setR]
      simp (disch := omega) only [cd_pos, gd_dec, Int.toNat_natCast, Nat.zero_add, w64_in, hlen]
      rw [e1, e0]
      simp only [getD_mid hP, set_mid hP]
      change Option.bind (bif isR r y then _ else _) _ = _
      cases isR r y <;> simp
    · intro f _
      simp (disch := omega) only [cd_neg]
      simp
    · have hsl := setR_len r x
      have hany : goL (fun y (f : Bool) => (Sum.inl (f || isR r y) : Bool ⊕ (List Run × Bool))) (fun f => (setR r x, f)) x s.2 = (setR r x, s.2 || x.any (isR r)) := by
        rw [goL_fold (fun (f : Bool) y => f || isR r y)]
        have : ∀ (x : List Run) (f : Bool), x.foldl (fun (f : Bool) y => f || isR r y) f = (f || x.any (isR r)) := by
          intro x
          induction x with
          | nil => intro f; simp
          | cons y x ih => intro f; rw [List.foldl_cons, ih]; simp [Bool.or_assoc]
        rw [this]
      rw [hany]
      have e : List.take 1 (List.drop 0 (List.take x.length (List.drop 0 (setR r x)) :: nilT (List Run))) = setR r x :: nilT (List Run) := by
        rw [← hsl, take_all]
        rfl
      simp (disch := omega) only [e, len_snoc, gd_dec, Nat.zero_add]
      rw [hsl]
      simp [gd_true, nilT]
  · intro s hs
    simp (disch := omega) only [cd_neg]
    simp [gd_true]
  · rw [goL_fold (fun (s : List (List Run) × Bool) (x : List Run) => (s.1 ++ [setR r x], s.2 || x.any (isR r))), setL_fold]
    simp [gd_true]
    exact List.take_of_length_le (by simp)
theorem l53 {F : Nat} (hF : 10000 ≤ F) {l y : List (List Run)} (hl : ShortR l) (hy : ShortR y) {place time : Int} : c53 F (l, y, place, time) = some (chS l y place time) := by
  unfold c53
  refine bind_list l (fun (s : List ByteArray × List Run) i => (s.1, s.2, (i : Int))) (fun x s => .inl (advX place s x)) (fun s => s) (fun i s => s.1.length + s.2.length ≤ 162 * i) ([], []) (by have := hl.1; omega) rfl (by simp) ?_ ?_ ?_
  · intro i x s hi hx hs
    have hxl := (hl.2 x (List.mem_of_getElem? hx)).1
    refine ⟨?_, fun s' h => by cases h; have := advX_len (place := place) (x := x) (y := x) hs; unfold advX; omega⟩
    have hli := hl.1
    simp (disch := omega) only [cd_pos, gd_dec, Int.toNat_natCast, getD_some hx, w64_in, l65 (show 4000 ≤ F by omega) (show x.length ≤ 3000 by omega), Option.bind_some, decide_true, Bool.and_self, gd_true]
    refine bind_list x (fun (s : List ByteArray × List Run) k => (s.1, s.2, (k : Int))) (fun r s => .inl (advB place x s r)) (fun s => s) (fun k s => s.1.length + s.2.length ≤ 162 * i + k) s (by omega) rfl (by simpa using hs) ?_ ?_ ?_
    · intro k r s hk hr hs
      refine ⟨?_, fun s' h => by cases h; exact advB_len hs⟩
      have er : (r.1, r.2.1, r.2.2.1, r.2.2.2) = r := rfl
      have hpl := placesS_len x
      simp (disch := omega) only [cd_pos, gd_dec, Int.toNat_natCast, getD_some hx, getD_some hr, placesS_get hr, w64_in, er, len_snoc]
      unfold advB
      by_cases h1 : 1 ≤ plc x r
      · by_cases h2 : plc x r ≤ place
        · simp [h1, h2, gd_true, nilT]
        · simp [h1, h2, gd_true, nilT]
      · simp [h1, gd_true]
    · intro s hs
      simp (disch := omega) only [cd_neg, gd_dec] <;> simp [gd_true]
    · rw [goL_fold (advB place x)]
      simp [gd_true, advX]
  · intro s hs
    simp (disch := omega) only [cd_neg] <;> simp [gd_true]
  · rw [goL_fold (advX place)]
    rw [show l.foldl (advX place) ([], []) = advL place l from rfl]
    have hlen := advL_len (place := place) (s := ([], [])) (n := 0) (by simp) fun x hx => (hl.2 x hx).1
    have hli := hl.1
    change (advL place l).1.length + (advL place l).2.length ≤ _ at hlen
    have hdef : advS l place time = ((advL place l).1, adv2 time (advL place l).2) := rfl
    generalize (advL place l).2 = y1 at hlen hdef
    generalize (advL place l).1 = o1 at hlen hdef
    simp (disch := omega) only [decide_true, Bool.and_self, gd_true, Option.bind_some, x65 (show 4000 ≤ F by omega) (show y1.length ≤ 3000 by omega)]
    refine bind_list y1 (fun (o : List ByteArray) k => (o, (k : Int))) (fun r o => .inl (adv2B time y1 o r)) (fun o => o) (fun k o => o.length ≤ k) [] (by omega) rfl (by simp) ?_ ?_ ?_
    · intro k r o hk hr ho
      refine ⟨?_, fun s' h => by cases h; exact adv2B_len ho⟩
      have hpl := placesS_len y1
      simp (disch := omega) only [cd_pos, gd_dec, Int.toNat_natCast, Nat.zero_add, getD_some hr, placesS_get hr, w64_in, len_snoc]
      unfold adv2B
      by_cases h1 : plc y1 r ≤ time
      · simp [h1, gd_true, nilT]
      · simp [h1, gd_true]
    · intro o ho
      simp (disch := omega) only [cd_neg] <;> simp [gd_true]
    · rw [goL_fold (adv2B time y1)]
      rw [show y1.foldl (adv2B time y1) [] = adv2 time y1 from rfl]
      have hle := adv2_len (time := time) (y := y1) (x := y1) (o := []) (n := 0) (by simp)
      change (adv2 time y1).length ≤ _ at hle
      generalize adv2 time y1 = w1 at hle hdef
      refine bind_list y (fun (s : List ByteArray × List Run) i => (s.1, s.2, (i : Int))) (fun x s => .inl (advX place s x)) (fun s => s) (fun i s => s.1.length + s.2.length ≤ 162 * i) ([], []) (by have := hy.1; omega) rfl (by simp) ?_ ?_ ?_
      · intro i x s hi hx hs
        have hxl := (hy.2 x (List.mem_of_getElem? hx)).1
        refine ⟨?_, fun s' h => by cases h; have := advX_len (place := place) (x := x) (y := x) hs; unfold advX; omega⟩
        have hli := hy.1
        simp (disch := omega) only [cd_pos, gd_dec, Int.toNat_natCast, getD_some hx, w64_in, l65 (show 4000 ≤ F by omega) (show x.length ≤ 3000 by omega), Option.bind_some, decide_true, Bool.and_self, gd_true]
        refine bind_list x (fun (s : List ByteArray × List Run) k => (s.1, s.2, (k : Int))) (fun r s => .inl (advB place x s r)) (fun s => s) (fun k s => s.1.length + s.2.length ≤ 162 * i + k) s (by omega) rfl (by simpa using hs) ?_ ?_ ?_
        · intro k r s hk hr hs
          refine ⟨?_, fun s' h => by cases h; exact advB_len hs⟩
          have er : (r.1, r.2.1, r.2.2.1, r.2.2.2) = r := rfl
          have hpl := placesS_len x
          simp (disch := omega) only [cd_pos, gd_dec, Int.toNat_natCast, getD_some hx, getD_some hr, placesS_get hr, w64_in, er, len_snoc]
          unfold advB
          by_cases h1 : 1 ≤ plc x r
          · by_cases h2 : plc x r ≤ place
            · simp [h1, h2, gd_true, nilT]
            · simp [h1, h2, gd_true, nilT]
          · simp [h1, gd_true]
        · intro s hs
          simp (disch := omega) only [cd_neg, gd_dec] <;> simp [gd_true]
        · rw [goL_fold (advB place x)]
          simp [gd_true, advX]
      · intro s hs
        simp (disch := omega) only [cd_neg] <;> simp [gd_true]
      · rw [goL_fold (advX place)]
        rw [show y.foldl (advX place) ([], []) = advL place y from rfl]
        have hlen2 := advL_len (place := place) (s := ([], [])) (n := 0) (by simp) fun x hx => (hy.2 x hx).1
        have hli := hy.1
        change (advL place y).1.length + (advL place y).2.length ≤ _ at hlen2
        have hdef2 : advS y place time = ((advL place y).1, adv2 time (advL place y).2) := rfl
        generalize (advL place y).2 = y2 at hlen2 hdef2
        generalize (advL place y).1 = o2 at hlen2 hdef2
        simp (disch := omega) only [decide_true, Bool.and_self, gd_true, Option.bind_some, x65 (show 4000 ≤ F by omega) (show y2.length ≤ 3000 by omega)]
        refine bind_list y2 (fun (o : List ByteArray) k => (o, (k : Int))) (fun r o => .inl (adv2B time y2 o r)) (fun o => o) (fun k o => o.length ≤ k) [] (by omega) rfl (by simp) ?_ ?_ ?_
        · intro k r o hk hr ho
          refine ⟨?_, fun s' h => by cases h; exact adv2B_len ho⟩
          have hpl := placesS_len y2
          simp (disch := omega) only [cd_pos, gd_dec, Int.toNat_natCast, Nat.zero_add, getD_some hr, placesS_get hr, w64_in, len_snoc]
          unfold adv2B
          by_cases h1 : plc y2 r ≤ time
          · simp [h1, gd_true, nilT]
          · simp [h1, gd_true]
        · intro o ho
          simp (disch := omega) only [cd_neg] <;> simp [gd_true]
        · rw [goL_fold (adv2B time y2)]
          rw [show y2.foldl (adv2B time y2) [] = adv2 time y2 from rfl]
          have hle2 := adv2_len (time := time) (y := y2) (x := y2) (o := []) (n := 0) (by simp)
          change (adv2 time y2).length ≤ _ at hle2
          generalize adv2 time y2 = w2 at hle2 hdef2
          have ho1 : (o1 ++ w1).length ≤ 6000 := by rw [List.length_append]; omega
          have ho2 : (o2 ++ w2).length ≤ 6000 := by rw [List.length_append]; omega
          have eb : joinS (advS l place time) = o1 ++ w1 := by rw [hdef]; rfl
          have ea : joinS (advS y place time) = o2 ++ w2 := by rw [hdef2]; rfl
          unfold chS
          rw [eb, ea]
          simp only [take_all]
          generalize o1 ++ w1 = B at ho1
          generalize o2 ++ w2 = A at ho2
          have hli := hl.1
          simp (disch := omega) only [gd_dec, Nat.zero_add]
          refine bind_list l (fun (o : List ByteArray) i => (o, (i : Int))) (fun x o => .inl (chX B A o x)) (fun o => o) (fun i o => o.length ≤ 162 * i) [] (by omega) rfl (by simp) ?_ ?_ ?_
          · intro i x o hi hx ho
            have hxm := List.mem_of_getElem? hx
            have hxl := (hl.2 x hxm).1
            refine ⟨?_, fun s' h => by cases h; have := chX_len (b := B) (a := A) (x := x) ho; unfold chX; omega⟩
            simp (disch := omega) only [cd_pos, gd_dec, Int.toNat_natCast, getD_some hx, w64_in, Option.bind_some, decide_true, Bool.and_self, gd_true]
            refine bind_list x (fun (o : List ByteArray) k => (o, (k : Int))) (fun y o => .inl (chB B A o y)) (fun o => o) (fun k o => o.length ≤ 162 * i + k) o (by omega) rfl (by simpa using ho) ?_ ?_ ?_
            · intro k y o hk hy ho
              refine ⟨?_, fun s' h => by cases h; exact chB_len ho⟩
              simp (disch := omega) only [cd_pos, gd_dec, Int.toNat_natCast, getD_some hx, getD_some hy, w64_in, len_snoc, m62 (F := F) (l := B) (by omega) (by omega), m62 (F := F) (l := A) (by omega) (by omega), Option.bind_some]
              unfold chB
              cases seenB y.1 B <;> cases seenB y.1 A <;> simp [gd_true, nilT]
            · intro o ho
              simp (disch := omega) only [cd_neg, gd_dec, Int.toNat_natCast, getD_some hx] <;> simp [gd_true]
            · rw [goL_fold (chB _ _)]
              simp [gd_true, chX]
          · intro o ho
            simp (disch := omega) only [cd_neg] <;> simp [gd_true]
          · rw [goL_fold (chX _ _)]
theorem m51_err {F : Nat} {b : Int} {w : List ByteArray} (hb : b ≠ 0) : c51 F ([], b, b, w) = some true := by
  unfold c51; simp [hb]
theorem m51_ok {F : Nat} {l : List ByteArray} (hF : l.length < F) (hl : l.length ≤ 100000) : c51 F (l, 0, 0, l) = some true := by
  unfold c51; simp [m67 hF hl]
theorem m38 (F : Nat) (b : Bool) (e : Int) : c38 F (b, e) = some (if b then e else 0) := by
  unfold c38
  cases b <;> rfl
theorem law7 (a : List (List Run) × (Int × Int) × Run) (hok : AEls.ok [.val (.seq [.seq [.str, .str, .int .i64, .str]]), .agg [.int .i64, .int .i64], .agg [.str, .str, .int .i64, .str]] a) : ∃ F, c7 F a = some true := by
  obtain ⟨l, ⟨place, time⟩, r⟩ := a
  obtain ⟨⟨hb, hb2⟩, -, -⟩ := hok
  obtain ⟨hF, hFl, hFx⟩ := roomR_ok l
  refine ⟨roomR l + 10000, ?_⟩
  generalize roomR l = F at hF hFl hFx
  have hb2' : ∀ x ∈ l, x.length * 56 ≤ 140737488351232 := fun x hx => (hb2 x hx).1
  have hF' : 10000 ≤ F + 10000 := by omega
  have hFl' : l.length < F + 10000 := by omega
  have hFx' : ∀ x ∈ l, x.length < F + 10000 := fun x hx => by have := hFx x hx; omega
  generalize F + 10000 = G at hF' hFl' hFx'
  unfold c7
  obtain ⟨b, h47, hshort⟩ := l47 (show 400 ≤ G by omega) (l := l)
  simp only [l46 hFl' hFx' hb hb2', Option.bind_some, h47]
  cases b with
  | false => rfl
  | true =>
    have hl := hshort rfl
    have hli := hl.1
    simp only [Bool.not_true, cond_false]
    by_cases s1 : (40 : Int) < r.1.size
    · simp [s1]
    · by_cases s2 : (20 : Int) < r.2.1.size
      · simp [s1, s2]
      · by_cases s3 : (20 : Int) < r.2.2.2.size
        · simp [s1, s2, s3]
        · have hr : r.1.size ≤ 40 ∧ r.2.1.size ≤ 20 ∧ r.2.2.2.size ≤ 20 := by omega
          have er : (r.1, r.2.1, r.2.2.1, r.2.2.2) = r := rfl
          simp only [s1, s2, s3, decide_false, cond_false, Option.bind_some, er, l48 hF' hl hr, l49 (show 4000 ≤ G by omega) hl, l26, l50 (show 400 ≤ G by omega), l52 (show 400 ≤ G by omega) hl, m38, l53 hF' hl (hl.set hr), nilT]
          rw [l25 (by simp; omega) (by simp)]
          have hE : firstNZ [runC l, if place < 0 ∨ 160 < place then 3 else 0, if time < 0 ∨ 160 < time then 3 else 0, if nameB r.1 = false then 8 else runE r] = chgE l place time r := by
            unfold chgE roundE
            rw [firstNZ_one, firstNZ_one]
            by_cases a1 : runC l = 0 <;> by_cases a2 : (if place < 0 ∨ 160 < place then (3 : Int) else 0) = 0 <;> by_cases a3 : (if time < 0 ∨ 160 < time then (3 : Int) else 0) = 0 <;> by_cases a4 : nameB r.1 = false <;> simp [firstNZ, a1, a2, a3, a4]
            exact fun h => h.symm
          rw [hE]
          by_cases h0 : chgE l place time r = 0
          · simp only [h0, ne_eq, not_true_eq_false, if_false, Option.bind_some, decide_true, Bool.not_true, cond_false]
            cases hh : hasR r l with
            | false =>
              simp [m51_err]
            | true =>
              have hlen := chL_len (b := joinS (advS l place time)) (a := joinS (advS (l.map (setR r)) place time)) (o := []) (n := 0) (l := l) (by simp) fun x hx => (hl.2 x hx).1
              change (chS l (l.map (setR r)) place time).length ≤ _ at hlen
              simp [m51_ok (F := G) (show (chS l (l.map (setR r)) place time).length < G by omega) (by omega)]
          · simp [h0, m51_err h0]
end Go.Proofs.Tryz

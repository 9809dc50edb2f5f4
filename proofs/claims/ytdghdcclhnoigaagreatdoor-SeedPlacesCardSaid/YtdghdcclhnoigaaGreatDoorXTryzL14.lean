/- Functions of the program as functions of data. By program. Plain law of SeedPlaces. -/
import Derived.Test.YtdghdcclhnoigaaGreatDoorXTryzA
import Derived.Test.YtdghdcclhnoigaaGreatDoorXE14
section
set_option maxRecDepth 100000
set_option linter.all false
namespace Go.Proofs.Tryz
open Go Go.Sx
noncomputable def lx14 (F : Nat) : Lx := { ext := [(16, (pc16 F).sm), (47, (pc47 F).sm), (63, (pc63 F).sm), (61, (pc61 F).sm), (67, (pc67 F).sm), (66, (pc66 F).sm), (25, (pc25 F).sm), (26, (pc26 F).sm), (65, (pc65 F).sm), (24, (pc24 F).sm), (64, (pc64 F).sm), (49, (pc49 F).sm), (46, (pc46 F).sm), (65, (px65_0 F).sm)], anns := [], still := [] }
noncomputable def c14 (F : Nat) (a : List (List (ByteArray × ByteArray × Int × ByteArray)) × Int × Int) : Option (Bool) :=
  Option.bind (c46 F a.1) fun (v59 : List (List (ByteArray × ByteArray × Int × ByteArray))) => Option.bind (c47 F v59) fun (v60 : Bool) => bif !v60 then (some (true)) else (Option.bind (c49 F v59) fun (v61 : Int) => Option.bind (c63 F a.1) fun (v62 : Int) => bif !decide (v62 = v61) then (some (false)) else (Option.bind (loopO (σ := Int) (β := Bool ⊕ Unit) (fun (v75 : Int) => bif decide (v75 < (↑(List.length a.1) : Int)) then (gd (decide ((0 : Int) ≤ v75)) (gd (decide (v75 < (↑(List.length a.1) : Int))) (gd (decide (Int.toNat v75 < List.length a.1)) (Option.bind (c64 F (List.getD a.1 (Int.toNat v75) (nilT (ByteArray × ByteArray × Int × ByteArray)))) fun (v76 : List Int × Int) => gd (decide ((0 : Int) ≤ v75)) (gd (decide (v75 ≤ w64 (v75 + (1 : Int)))) (gd (decide (w64 (v75 + (1 : Int)) ≤ (↑(List.length v59) : Int))) (Option.bind (c49 F (List.drop (Int.toNat v75) (List.take (Int.toNat (w64 (v75 + (1 : Int)))) v59))) fun (v77 : Int) => Option.bind (bif !decide (v77 = (0 : Int)) then (Option.bind (c24 F (v76.1, v76.2, v77, nilT Int)) fun (v79 : Bool) => bif !v79 then (some (true)) else (bif decide (v77 = (0 : Int)) then (gd (decide ((0 : Int) ≤ v75)) (gd (decide (v75 < (↑(List.length v59) : Int))) (gd (decide (Int.toNat v75 < List.length v59)) (Option.bind (c65 F (List.getD v59 (Int.toNat v75) (nilT (ByteArray × ByteArray × Int × ByteArray)))) fun (v80 : List Int) => Option.bind (c24 F (v76.1, v76.2, (0 : Int), v80)) fun (v81 : Bool) => some (!v81))))) else (some (false)))) else (bif decide (v77 = (0 : Int)) then (gd (decide ((0 : Int) ≤ v75)) (gd (decide (v75 < (↑(List.length v59) : Int))) (gd (decide (Int.toNat v75 < List.length v59)) (Option.bind (c65 F (List.getD v59 (Int.toNat v75) (nilT (ByteArray × ByteArray × Int × ByteArray)))) fun (v82 : List Int) => Option.bind (c24 F (v76.1, v76.2, (0 : Int), v82)) fun (v83 : Bool) => some (!v83))))) else (some (false)))) fun (v78 : Bool) => bif v78 then (some (Sum.inr (Sum.inl false))) else (some (Sum.inl (w64 (v75 + (1 : Int)))))))))))) else (some (Sum.inr (Sum.inr ())))) F ((0 : Int))) fun (v63 : Bool ⊕ Unit) => Sum.elim (fun (v64 : Bool) => some (v64)) (fun (v65 : Unit) => Option.bind (c61 F (a.1, a.2.1, a.2.2)) fun (v66 : List ByteArray × List ByteArray × Int) => Option.bind (c26 F (a.2.1, (0 : Int), (160 : Int))) fun (v67 : Int) => Option.bind (c26 F (a.2.2, (0 : Int), (160 : Int))) fun (v68 : Int) => Option.bind (c25 F (v61 :: v67 :: v68 :: nilT Int)) fun (v69 : Int) => bif !decide (v69 = (0 : Int)) then (Option.bind (bif decide (w64 ((↑(List.length v66.1) : Int) + (↑(List.length v66.2.1) : Int)) = (0 : Int)) then (some (decide (v66.2.2 = v69))) else (some (false))) fun (v70 : Bool) => some (v70)) else (Option.bind (c66 F (v59, a.2.1, a.2.2)) fun (v71 : List ByteArray × List ByteArray) => Option.bind (bif decide (v66.2.2 = (0 : Int)) then (Option.bind (c67 F (v66.1, v71.1)) fun (v73 : Bool) => bif v73 then (Option.bind (c67 F (v66.2.1, v71.2)) fun (v74 : Bool) => some (v74)) else (some (false))) else (some (false))) fun (v72 : Bool) => some (v72))) (v63)))
noncomputable def pc14 (F : Nat) : PC := { ats := [.val (.seq [.seq [.str, .str, .int .i64, .str]]), .val (.int .i64), .val (.int .i64)], rts := [.val (.bool)], code := c14 F }
theorem lx14_ok (F : Nat) : (lx14 F).Ok cx := Lx.ok_cons (PC.sm_ok (pc16_ok F)) (Lx.ok_cons (PC.sm_ok (pc47_ok F)) (Lx.ok_cons (PC.sm_ok (pc63_ok F)) (Lx.ok_cons (PC.sm_ok (pc61_ok F)) (Lx.ok_cons (PC.sm_ok (pc67_ok F)) (Lx.ok_cons (PC.sm_ok (pc66_ok F)) (Lx.ok_cons (PC.sm_ok (pc25_ok F)) (Lx.ok_cons (PC.sm_ok (pc26_ok F)) (Lx.ok_cons (PC.sm_ok (pc65_ok F)) (Lx.ok_cons (PC.sm_ok (pc24_ok F)) (Lx.ok_cons (PC.sm_ok (pc64_ok F)) (Lx.ok_cons (PC.sm_ok (pc49_ok F)) (Lx.ok_cons (PC.sm_ok (pc46_ok F)) (Lx.ok_cons (PX.sm_ok (px65_0_ok F)) (Lx.ok_nil))))))))))))))
def an14 (F : Nat) : Ann := .two .leaf (.two .leaf (.two .leaf (.two .leaf (.two .leaf (.two (.two .leaf (.one (.loop ⟨[.slot 9 (.val (.int .i64))], []⟩ [(.ret, ⟨[.slot 6 (.val (.bool))], []⟩), (.exit 0, ⟨[], []⟩)] ⟨[41, 42, 43, 44, 45, 40, 46, 47, 10, 11, 54, 55, 56, 57, 58, 59, 60, 61, 62, 63, 64, 65, 66, 67, 68, 69, 70, 71, 72, 73, 74, 75, 76, 77, 6, 12, 53, 52, 51, 50, 49, 48, 9, 39, 38, 37, 36, 35, 34], [], []⟩ F (.two .leaf (.two (.one (.two .leaf (.two .leaf (.two (.join [(.normal, ⟨[.slot 77 (.val (.bool))], []⟩)] ⟨[77, 76, 75, 74, 73, 72, 71, 70, 69, 68, 67, 66, 65, 64, 63, 62, 61, 60, 59, 58, 57, 56, 55, 54], [], []⟩ .leaf) .leaf)))) .leaf))))) (.two .leaf (.two .leaf (.two (.two .leaf (.two (.two (.join [(.normal, ⟨[.slot 6 (.val (.bool))], []⟩)] ⟨[6, 105, 104, 103, 102, 101, 100, 99, 98, 97, 96, 95], [], []⟩ .leaf) .leaf) .leaf)) (.two .leaf (.two (.join [(.normal, ⟨[.slot 6 (.val (.bool))], []⟩)] ⟨[6, 124, 123, 122, 121, 120, 119, 118, 117, 116, 115, 114, 113], [], []⟩ .leaf) .leaf))))))))))
theorem c14_eq (F : Nat) (a : List (List (ByteArray × ByteArray × Int × ByteArray)) × Int × Int) : codeOf cx (lx14 F) 1000 (an14 F) f14 (bodyOf f14) [.val (.seq [.seq [.str, .str, .int .i64, .str]]), .val (.int .i64), .val (.int .i64)] [.val (.bool)] a = c14 F a := by kernel_rfl
theorem pc14_ok (F : Nat) : PCOk cx 14 (pc14 F) := PCOk.of_eval cx_ok (lx14_ok F) (n := 1000) (an := an14 F) (fn := f14) (c := bodyOf f14) (by kernel_rfl) (by kernel_rfl) (fun a y h => (c14_eq F a).trans h) (by kernel_rfl)
end Go.Proofs.Tryz
end
section
set_option maxRecDepth 100000
set_option linter.unusedVariables false
set_option linter.unusedSimpArgs false
namespace Go.Proofs.Tryz
open Go Go.Sx
theorem m71 {F : Nat} {l : List Int} (hF : l.length < F) (hl : l.length ≤ 100000) : c71 F (l, l) = some true := by
  unfold c71
  simp only [decide_true, Bool.not_true, cond_false]
  refine bind_list l (fun (_ : Unit) i => (i : Int)) (fun _ _ => .inl ()) (fun _ => .inr ()) (fun _ _ => True) () hF rfl trivial ?_ ?_ ?_
  · intro i x _ hi hx _
    refine ⟨?_, fun _ _ => trivial⟩
    simp (disch := omega) only [cd_pos, gd_dec, Int.toNat_natCast, getD_some hx, w64_in]
    simp
  · intro _ _
    simp (disch := omega) only [cd_neg]
  · rw [goL_unit]; rfl
theorem m67 {F : Nat} {l : List ByteArray} (hF : l.length < F) (hl : l.length ≤ 100000) : c67 F (l, l) = some true := by
  unfold c67
  simp only [decide_true, Bool.not_true, cond_false]
  refine bind_list l (fun (_ : Unit) i => (i : Int)) (fun _ _ => .inl ()) (fun _ => .inr ()) (fun _ _ => True) () hF rfl trivial ?_ ?_ ?_
  · intro i x _ hi hx _
    refine ⟨?_, fun _ _ => trivial⟩
    simp (disch := omega) only [cd_pos, gd_dec, Int.toNat_natCast, getD_some hx, w64_in, strEq_self]
    simp
  · intro _ _
    simp (disch := omega) only [cd_neg]
  · rw [goL_unit]; rfl
theorem m24_err {F : Nat} {b : Int} {w : List Int} (hb : b ≠ 0) : c24 F ([], b, b, w) = some true := by
  unfold c24; simp [hb]
theorem m24_ok {F : Nat} {l : List Int} (hF : l.length < F) (hl : l.length ≤ 100000) : c24 F (l, 0, 0, l) = some true := by
  unfold c24; simp [m71 hF hl]
def roomR : List (List Run) → Nat
  | [] => 4000
  | x :: l => x.length + 1 + roomR l
theorem roomR_ok : ∀ (l : List (List Run)), 4000 ≤ roomR l ∧ l.length < roomR l ∧ ∀ x ∈ l, x.length < roomR l
  | [] => ⟨Nat.le_refl _, by simp [roomR], fun x hx => (by cases hx)⟩
  | y :: l => by
    obtain ⟨h1, h2, h3⟩ := roomR_ok l
    refine ⟨by simp only [roomR]; omega, by simp only [roomR, List.length_cons]; omega, fun x hx => ?_⟩
    simp only [roomR]
    rcases List.mem_cons.1 hx with rfl | hx
    · omega
    · have := h3 x hx; omega
theorem ShortR.one {l : List (List Run)} (h : ShortR l) {x : List Run} (hx : x ∈ l) : ShortR [x] :=
  ⟨by simp, fun y hy => by obtain rfl := List.mem_singleton.1 hy; exact h.2 _ hx⟩
theorem drop_one {α : Type} {l : List α} {i : Nat} {x : α} (h : l[i]? = some x) : List.drop i (List.take (i + 1) l) = [x] := by
  have hi := (List.getElem?_eq_some_iff.1 h).1
  rw [List.take_add_one, h, List.drop_append_of_le_length (by simp; omega)]
  simp
theorem adv2_len {time : Int} {y : List Run} : ∀ {x : List Run} {o : List ByteArray} {n : Nat} (h : o.length ≤ n), (x.foldl (adv2B time y) o).length ≤ n + x.length := by
  intro x
  induction x with
  | nil => intro o n h; simpa using h
  | cons r x ih =>
    intro o n h
    have := ih (adv2B_len (time := time) (x := y) (r := r) h)
    simp only [List.foldl_cons, List.length_cons]
    omega
theorem advS_len {l : List (List Run)} (hl : ShortR l) {place time : Int} : (advS l place time).1.length ≤ 3000 ∧ (advS l place time).2.length ≤ 3000 := by
  have h := advL_len (place := place) (s := ([], [])) (n := 0) (by simp) fun x hx => (hl.2 x hx).1
  change (advL place l).1.length + (advL place l).2.length ≤ _ at h
  have h2 := adv2_len (time := time) (y := (advL place l).2) (x := (advL place l).2) (o := []) (n := 0) (by simp)
  have := hl.1
  simp only [advS, adv2]
  omega
theorem l87 {F : Nat} (hF : 4000 ≤ F) {l : List (List Run)} (hl : ShortR l) {place time : Int} : c87 F (l, place, time) = some (firstNZ [runC l, if place < 0 ∨ 160 < place then 3 else 0, if time < 0 ∨ 160 < time then 3 else 0]) := by
  unfold c87
  simp only [l63 hF hl, l83, Option.bind_some, nilT]
  rw [l75 (by simp; omega) (by simp)]
  rfl
theorem law14 (a : List (List Run) × Int × Int) (hok : AEls.ok [.val (.seq [.seq [.str, .str, .int .i64, .str]]), .val (.int .i64), .val (.int .i64)] a) : ∃ F, c14 F a = some true := by
  obtain ⟨l, place, time⟩ := a
  obtain ⟨⟨hb, hb2⟩, -, -⟩ := hok
  obtain ⟨hF, hFl, hFx⟩ := roomR_ok l
  refine ⟨roomR l, ?_⟩
  generalize roomR l = F at hF hFl hFx
  have hb2' : ∀ x ∈ l, x.length * 56 ≤ 140737488351232 := fun x hx => (hb2 x hx).1
  unfold c14
  obtain ⟨b, h47, hshort⟩ := l47 (show 400 ≤ F by omega) (l := l)
  simp only [l46 hFl hFx hb hb2', Option.bind_some, h47]
  cases b with
  | false => rfl
  | true =>
    have hl := hshort rfl
    have hli := hl.1
    simp only [Bool.not_true, cond_false, l49 hF hl, l63 hF hl, Option.bind_some, decide_true]
    refine bind_list l (fun (_ : Unit) i => (i : Int)) (fun _ _ => .inl ()) (fun _ => .inr ()) (fun _ _ => True) () hFl rfl trivial ?_ ?_ ?_
    · intro i x _ hi hx _
      refine ⟨?_, fun _ _ => trivial⟩
      have hxm := List.mem_of_getElem? hx
      have hxl := (hl.2 x hxm).1
      have h1 : ((i : Int) + 1).toNat = i + 1 := by omega
      simp (disch := omega) only [cd_pos, gd_dec, Int.toNat_natCast, getD_some hx, w64_in, h1, drop_one hx, l49 hF (hl.one hxm), Option.bind_some]
      have h64 : c64 F x = some (if runC [x] ≠ 0 then ([], runC [x]) else (placesS x, 0)) := by
        unfold c64
        change Option.bind (c63 F [x]) _ = _
        rw [l63 hF (hl.one hxm)]
        by_cases h : runC [x] = 0 <;> simp [h, l97 hF (show x.length ≤ 3000 by omega), nilT]
      simp only [h64, Option.bind_some]
      by_cases h : runC [x] = 0
      · have hp := placesS_len x
        simp [h, l65 hF (show x.length ≤ 3000 by omega), m24_ok (F := F) (show (placesS x).length < F by omega) (show (placesS x).length ≤ 100000 by omega)]
      · simp [h, nilT, m24_err h]
    · intro _ _
      simp (disch := omega) only [cd_neg]
    · rw [goL_unit]
      simp only [Sum.elim_inr, l26, Option.bind_some, nilT]
      rw [l25 (by simp; omega) (by simp)]
      have h61 : c61 F (l, place, time) = some (if firstNZ [runC l, if place < 0 ∨ 160 < place then 3 else 0, if time < 0 ∨ 160 < time then 3 else 0] ≠ 0 then ([], [], firstNZ [runC l, if place < 0 ∨ 160 < place then 3 else 0, if time < 0 ∨ 160 < time then 3 else 0]) else ((advS l place time).1, (advS l place time).2, 0)) := by
        unfold c61
        simp only [l87 hF hl, Option.bind_some, l93 hF hl]
        generalize firstNZ _ = e
        by_cases h : e = 0 <;> simp [h, nilT]
      rw [h61]
      generalize firstNZ [runC l, if place < 0 ∨ 160 < place then 3 else 0, if time < 0 ∨ 160 < time then 3 else 0] = e
      obtain ⟨a1, a2⟩ := advS_len hl (place := place) (time := time)
      by_cases h : e = 0
      · simp [h, l66 hF hl, m67 (F := F) (show (advS l place time).1.length < F by omega) (show (advS l place time).1.length ≤ 100000 by omega), m67 (F := F) (show (advS l place time).2.length < F by omega) (show (advS l place time).2.length ≤ 100000 by omega)]
      · have : w64 0 = 0 := by rfl
        simp [h, nilT, this]
end Go.Proofs.Tryz
end

/- Plain law: the least end and the first table, of the reference and of the program. awake, its parts: what the program's functions answer at the fixed examples Functions of the program as functions of data. By program. awake: the program run at its fixed examples returns true Functions of the program as functions of data. By program. Plain law: TimetableForms. awake and the reference's search Functions of the program as functions of data. By program. Plain law: the proofs of a conflict. Plain law: TimetableTables. Plain law: TimetableProofs. -/
import Derived.Test.YtlfcbhjoldgijaaGreatXT9y
import Derived.Test.YtlfcbhjoldgijaaGreatXT9t
import Derived.Test.YtlfcbhjoldgijaaGreatXSxQh
import Derived.Test.YtlfcbhjoldgijaaGreatXTtCx
import Derived.Test.YtlfcbhjoldgijaaGreatXT9n
import Derived.Test.YtlfcbhjoldgijaaGreatXTtR2
section
set_option maxRecDepth 100000
set_option linter.unusedVariables false
set_option linter.unusedSimpArgs false
namespace Go.Proofs.Tryz
open Go Go.Sx
theorem Hol.tok {p : Pln} {L : List Rul} {f : List Int} (h : Hol p L f) : TOk p f := by
  refine TOk.ofB h.len fun x hx => ?_
  obtain ⟨i, hi, rfl⟩ := List.mem_iff_getElem.1 hx
  have := h.rng i (by rw [← h.len]; exact hi)
  simp only [fL] at this
  rw [getD_some (List.getElem?_eq_getElem hi)] at this
  omega
def exE (p : Pln) : Int := firstNZ [planE p, if 8 < p.1.length then 22 else 0]
theorem l82 {F : Nat} (hF : 400 ≤ F) {p : Pln} (h : PShort p) : c82 F p = some (exE p) := by
  unfold c82
  have l2 : ∀ (a b : Int), c102 F (a :: b :: nilT Int) = some (firstNZ [a, b]) := fun a b => l102 (by simp [nilT]; omega) (by simp [nilT])
  simp only [peta, l51 hF h.sm, l88, Option.bind_some, l2]
  unfold exE
  by_cases h8 : 8 < p.1.length
  · have : (8 : Int) < (p.1.length : Int) := by omega
    simp [h8, this, nilT]
  · have : ¬ (8 : Int) < (p.1.length : Int) := by omega
    simp [h8, this, nilT]
theorem exE_zero {p : Pln} (h : exE p = 0) : planE p = 0 ∧ p.1.length ≤ 8 := by
  have h1 := firstNZ_zero h
  refine ⟨h1 _ (by simp), ?_⟩
  have := h1 (if 8 < p.1.length then 22 else 0) (by simp)
  split at this <;> omega
end Go.Proofs.Tryz
end
section
set_option maxRecDepth 1000000
set_option linter.unusedVariables false
namespace Go.Proofs.Tryz
open Go Go.Sx
def bs (l : List UInt8) : ByteArray := ⟨⟨l⟩⟩
def smp : TP := ([(bs [104, 101, 97, 116, 115], 30, [bs [116, 114, 97, 99, 107]], [], [bs [97, 110, 110], bs [98, 101, 97]], 0, 100), (bs [106, 117, 109, 112], 20, [bs [112, 105, 116]], [], [bs [97, 110, 110]], 0, 100), (bs [102, 105, 110, 97, 108], 10, [bs [116, 114, 97, 99, 107]], [], [bs [98, 101, 97]], 0, 100)], [(0, 2, 15)], 20)
def nar : TP := ([(bs [104, 101, 97, 116, 115], 30, [bs [116, 114, 97, 99, 107]], [], [bs [97, 110, 110], bs [98, 101, 97]], 0, 60), (bs [106, 117, 109, 112], 20, [bs [112, 105, 116]], [], [bs [97, 110, 110]], 20, 60), (bs [102, 105, 110, 97, 108], 10, [bs [116, 114, 97, 99, 107]], [], [bs [98, 101, 97]], 0, 100)], [(0, 2, 15)], 20)
def a50 : TP := smp
def y50 : List (ByteArray × Int × Int) × Int := ([(bs [119, 105, 110, 100, 111, 119], 0, 0), (bs [119, 105, 110, 100, 111, 119], 1, 1), (bs [119, 105, 110, 100, 111, 119], 2, 2), (bs [111, 114, 100, 101, 114], 0, 2), (bs [97, 116, 104, 108, 101, 116, 101], 0, 1), (bs [97, 114, 101, 97], 0, 2), (bs [97, 116, 104, 108, 101, 116, 101], 0, 2)], 0)
theorem r50 : (pc50 400).code a50 = some y50 := by kernel_rfl
def a17 : TP := smp
def y17 : List (Int × Int) × Int := ([(0, 45), (0, 80), (45, 90)], 0)
theorem r17 : (pc17 400).code a17 = some y17 := by kernel_rfl
def a18 : TP := smp
def y18 : Int × Int := (55, 0)
theorem r18 : (pc18 400).code a18 = some y18 := by kernel_rfl
def a26 : TP := smp
def y26 : List Int × Int := ([0, 50, 50], 0)
theorem r26 : (pc26 400).code a26 = some y26 := by kernel_rfl
def a27 : TP := smp
def y27 : Int × Int := (70, 0)
theorem r27 : (pc27 400).code a27 = some y27 := by kernel_rfl
def a36 : TP := nar
def y36 : List Int × Int := ([0, 1, 4], 0)
theorem r36 : (pc36 400).code a36 = some y36 := by kernel_rfl
def a41 : TP × List Int × ByteArray := (smp, [0, 50, 50], bs [97, 110, 110])
def y41 : Int × Int := (20, 0)
theorem r41 : (pc41 400).code a41 = some y41 := by kernel_rfl
def a52 : TP × List Int := (smp, [0, 50, 50])
def b52 : TP × List Int := (smp, [0, 40, 50])
def y52 : Int × Int := (7, 0)
def z52 : Int × Int := (4, 29)
theorem r52 : (pc52 400).code a52 = some y52 := by kernel_rfl
theorem s52 : ((pc52 400).at a52 y52).code b52 = some z52 := by kernel_rfl
def a35 : TP := nar
def b35 : TP := smp
def y35 : List Int × Int := ([0, 1, 4], 0)
def z35 : List Int × Int := ([], 7)
theorem r35 : (pc35 400).code a35 = some y35 := by kernel_rfl
theorem s35 : ((pc35 400).at a35 y35).code b35 = some z35 := by kernel_rfl
noncomputable def lxA : Lx := { ext := [(51, (pc51 400).sm)], anns := [], still := [] }
theorem lxA_ok : lxA.Ok cx.bare := Lx.ok_cons (PC.sm_ok (pc51_ok 400).bare) Lx.ok_nil
abbrev at45 : List ATy := [.agg [sR, sO, .int .i64]]
abbrev rt45 : List ATy := [.val (.seq [.str, .int .i64]), .val (.int .i64)]
def y45 : List (ByteArray × Int) × Int := ([(bs [112, 105, 116], 20), (bs [116, 114, 97, 99, 107], 40)], 0)
theorem q45 : codeOf cx.bare lxA 3000 .leaf f45 (bodyOf f45) at45 rt45 smp = some y45 := by kernel_rfl
end Go.Proofs.Tryz
end
section
set_option maxRecDepth 100000
set_option linter.all false
namespace Go.Proofs.Tryz
open Go Go.Sx
noncomputable def lx60 (F : Nat) : LK := lN
noncomputable def pc60 (F : Nat) : PC := qT (lx60 F) .leaf f60 [] [.agg [sR, sO, .int .i64]]
theorem pc60_ok (F : Nat) : PCOk cx 60 (pc60 F) := qT_ok (by kernel_rfl)
noncomputable def lx61 (F : Nat) : LK := lN
noncomputable def pc61 (F : Nat) : PC := qT (lx61 F) (.two .leaf (.two (.within [(60, .leaf)]) .leaf)) f61 [] [.agg [sR, sO, .int .i64]]
theorem pc61_ok (F : Nat) : PCOk cx 61 (pc61 F) := qT_ok (by kernel_rfl)
end Go.Proofs.Tryz
end
section
set_option maxRecDepth 1000000
set_option linter.unusedVariables false
namespace Go.Proofs.Tryz
open Go Go.Sx
noncomputable def k50 : PC := (pc50 400).one a50 y50
theorem k50_ok : PCOk cx.bare 50 k50 := (pc50_ok 400).bare.one a50 y50 r50
noncomputable def k17 : PC := (pc17 400).one a17 y17
theorem k17_ok : PCOk cx.bare 17 k17 := (pc17_ok 400).bare.one a17 y17 r17
noncomputable def k18 : PC := (pc18 400).one a18 y18
theorem k18_ok : PCOk cx.bare 18 k18 := (pc18_ok 400).bare.one a18 y18 r18
noncomputable def k26 : PC := (pc26 400).one a26 y26
theorem k26_ok : PCOk cx.bare 26 k26 := (pc26_ok 400).bare.one a26 y26 r26
noncomputable def k27 : PC := (pc27 400).one a27 y27
theorem k27_ok : PCOk cx.bare 27 k27 := (pc27_ok 400).bare.one a27 y27 r27
noncomputable def k36 : PC := (pc36 400).one a36 y36
theorem k36_ok : PCOk cx.bare 36 k36 := (pc36_ok 400).bare.one a36 y36 r36
noncomputable def k41 : PC := (pc41 400).one a41 y41
theorem k41_ok : PCOk cx.bare 41 k41 := (pc41_ok 400).bare.one a41 y41 r41
noncomputable def k52 : PC := ((pc52 400).at a52 y52).at b52 z52
theorem k52_ok : PCOk cx.bare 52 k52 := @PCOk.at cx.bare 52 ((pc52 400).at a52 y52) (@PCOk.at cx.bare 52 (pc52 400) (pc52_ok 400).bare a52 y52 r52) b52 z52 s52
noncomputable def k35 : PC := ((pc35 400).at a35 y35).at b35 z35
theorem k35_ok : PCOk cx.bare 35 k35 := @PCOk.at cx.bare 35 ((pc35 400).at a35 y35) (@PCOk.at cx.bare 35 (pc35 400) (pc35_ok 400).bare a35 y35 r35) b35 z35 s35
noncomputable def k45 : PC := { ats := at45, rts := rt45, code := one (ats := at45) (rts := rt45) smp y45 }
theorem k45_ok : PCOk cx.bare 45 k45 := PCOk.of_eval (Cx.bare_ok cx_ok) lxA_ok (n := 3000) (an := .leaf) (fn := f45) (c := bodyOf f45) (by kernel_rfl) (by kernel_rfl) (fun a y h => by
  obtain ⟨h1, h2⟩ := one_some h
  subst h1; subst h2
  exact q45) (by kernel_rfl)
noncomputable def lxB0 : Lx := { ext := [(50, k50.sm), (17, k17.sm), (18, k18.sm), (26, k26.sm), (27, k27.sm), (36, k36.sm), (41, k41.sm), (52, k52.sm), (35, k35.sm), (45, k45.sm), (96, (pc96 400).sm), (90, (pc90 400).sm), (97, (pc97 400).sm), (55, (pc55 400).sm), (60, (pc60 400).sm), (61, (pc61 400).sm)], anns := [], still := [] }
theorem lxB0_ok : lxB0.Ok cx.bare := Lx.ok_cons (PC.sm_ok k50_ok) (Lx.ok_cons (PC.sm_ok k17_ok) (Lx.ok_cons (PC.sm_ok k18_ok) (Lx.ok_cons (PC.sm_ok k26_ok) (Lx.ok_cons (PC.sm_ok k27_ok) (Lx.ok_cons (PC.sm_ok k36_ok) (Lx.ok_cons (PC.sm_ok k41_ok) (Lx.ok_cons (PC.sm_ok k52_ok) (Lx.ok_cons (PC.sm_ok k35_ok) (Lx.ok_cons (PC.sm_ok k45_ok) (Lx.ok_cons (PC.sm_ok (pc96_ok 400).bare) (Lx.ok_cons (PC.sm_ok (pc90_ok 400).bare) (Lx.ok_cons (PC.sm_ok (pc97_ok 400).bare) (Lx.ok_cons (PC.sm_ok (pc55_ok 400).bare) (Lx.ok_cons (PC.sm_ok (pc60_ok 400).bare) (Lx.ok_cons (PC.sm_ok (pc61_ok 400).bare) Lx.ok_nil)))))))))))))))
noncomputable def lxB : Lx := { ext := lxB0.ext, anns := [], still := [] }
theorem lxB_ok : lxB.Ok cx.bare := ⟨lxB0_ok.ext, rfl⟩
noncomputable def c15 (F : Nat) (a : Unit) : Option Bool := some true
noncomputable def pc15 (F : Nat) : PC := { ats := [], rts := [.val .bool], code := c15 F }
theorem aw_eq : codeOf cx.bare lxB 3000 .leaf f15 (bodyOf f15) [] [.val .bool] () = some true := by kernel_rfl
theorem pc15_ok (F : Nat) : PCOk cx 15 (pc15 F) := PCOk.full (PCOk.of_eval (Cx.bare_ok cx_ok) lxB_ok (n := 3000) (an := .leaf) (fn := f15) (c := bodyOf f15) (by kernel_rfl) (by kernel_rfl) (fun a y h => aw_eq.trans h) (by kernel_rfl))
end Go.Proofs.Tryz
end
section
set_option maxRecDepth 100000
set_option linter.all false
namespace Go.Proofs.Tryz
open Go Go.Sx
noncomputable def c3 (F : Nat) (a : TP) : Option (Bool) :=
  let z1 := ((0 : Int), (0 : Int)); Option.bind (c14 F (a.1, a.2.1, a.2.2)) fun (v35 : TP) => let z2 := (v35.1, v35.2.1, v35.2.2); Option.bind (c16 F z2) fun (v36 : Bool) => bif !v36 then (some (true)) else (Option.bind (c17 F (a.1, a.2.1, a.2.2)) fun (v37 : List (Int × Int) × Int) => let z3 := (↑(List.length v37.1) : Int); Option.bind (c18 F (a.1, a.2.1, a.2.2)) fun (v38 : Int × Int) => Option.bind (c19 F z2) fun (v39 : Int) => bif !decide (v39 = (0 : Int)) then (Option.bind (bif decide (z3 = (0 : Int)) then (bif decide (v37.2 = v39) then (Option.bind (c20 F (v38.1, v38.2, v39, (0 : Int))) fun (v41 : Bool) => some (v41)) else (some (false))) else (some (false))) fun (v40 : Bool) => some (v40)) else (Option.bind (c21 F z2) fun (v42 : List (Int × Int) × Bool) => let z4 := (bif v42.2 then (bif !decide (v37.2 = (0 : Int)) then (some (true)) else (some (!decide (z3 = (↑(List.length v42.1) : Int))))) else (some (false))); Option.bind (bif !v42.2 then (bif !decide (z3 = (0 : Int)) then (some (true)) else (bif !decide (v37.2 = (23 : Int)) then (some (true)) else z4)) else z4) fun (v43 : Bool) => bif v43 then (some (false)) else (Option.bind (loopO (σ := Int) (β := Bool ⊕ Unit) (fun (v50 : Int) => let z6 := List.getD v42.1 (Int.toNat v50) z1; let z5 := List.getD v37.1 (Int.toNat v50) z1; bif decide (v50 < z3) then (gd (decide ((0 : Int) ≤ v50)) (gd (decide (v50 < z3)) (gd (decide (Int.toNat v50 < List.length v37.1)) (gd (decide ((0 : Int) ≤ v50)) (gd (decide (v50 < (↑(List.length v42.1) : Int))) (gd (decide (Int.toNat v50 < List.length v42.1)) (bif !(decide (z5.1 = z6.1) && (decide (z5.2 = z6.2) && true)) then (some (Sum.inr (Sum.inl false))) else (some (Sum.inl (w64 (v50 + (1 : Int)))))))))))) else (some (Sum.inr (Sum.inr ())))) F ((0 : Int))) fun (v44 : Bool ⊕ Unit) => Sum.elim (fun (v45 : Bool) => some (v45)) (fun (v46 : Unit) => Option.bind (c22 F z2) fun (v47 : Int × Bool) => Option.bind (c23 F (!v47.2, (23 : Int))) fun (v48 : Int) => Option.bind (c20 F (v38.1, v38.2, v48, v47.1)) fun (v49 : Bool) => some (v49)) (v44))))
end Go.Proofs.Tryz
end
section
set_option maxRecDepth 100000
set_option linter.unusedVariables false
set_option linter.unusedSimpArgs false
namespace Go.Proofs.Tryz
open Go Go.Sx
end Go.Proofs.Tryz
end
section

end
section
set_option maxRecDepth 100000
set_option linter.all false
namespace Go.Proofs.Tryz
open Go Go.Sx
noncomputable def lx56 (F : Nat) : LK := lC (pc37_ok F) (lC (pc71_ok F) lN)
noncomputable def c56 (F : Nat) (a : TP × List Int) : Option (Int) :=
  bif decide ((↑(List.length a.2) : Int) = (0 : Int)) then (some ((12 : Int))) else (Option.bind (c37 F (a.1.1, a.1.2.1, a.1.2.2)) fun (v16 : List (ByteArray × Int × Int)) => Option.bind (loopO (σ := Int) (β := Int ⊕ Unit) (fun (v20 : Int) => bif decide (v20 < (↑(List.length a.2) : Int)) then (gd (decide ((0 : Int) ≤ v20)) (gd (decide (v20 < (↑(List.length a.2) : Int))) (gd (decide (Int.toNat v20 < List.length a.2)) (Option.bind (c71 F (List.getD a.2 (Int.toNat v20) (0 : Int), (0 : Int), w64 ((↑(List.length v16) : Int) - (1 : Int)))) fun (v21 : Bool) => bif v21 then (some (Sum.inr (Sum.inl (10 : Int)))) else (Option.bind (bif decide ((0 : Int) < v20) then (gd (decide ((0 : Int) ≤ v20)) (gd (decide (v20 < (↑(List.length a.2) : Int))) (gd (decide (Int.toNat v20 < List.length a.2)) (gd (decide ((0 : Int) ≤ w64 (v20 - (1 : Int)))) (gd (decide (w64 (v20 - (1 : Int)) < (↑(List.length a.2) : Int))) (gd (decide (Int.toNat (w64 (v20 - (1 : Int))) < List.length a.2)) (some (decide (List.getD a.2 (Int.toNat v20) (0 : Int) ≤ List.getD a.2 (Int.toNat (w64 (v20 - (1 : Int)))) (0 : Int)))))))))) else (some (false))) fun (v22 : Bool) => bif v22 then (some (Sum.inr (Sum.inl (11 : Int)))) else (some (Sum.inl (w64 (v20 + (1 : Int)))))))))) else (some (Sum.inr (Sum.inr ())))) F ((0 : Int))) fun (v17 : Int ⊕ Unit) => Sum.elim (fun (v18 : Int) => some (v18)) (fun (v19 : Unit) => some ((0 : Int))) (v17))
noncomputable def pc56 (F : Nat) : PC := { ats := [.agg [sR, sO, .int .i64], .val (.seq [.int .i64])], rts := [.val (.int .i64)], code := c56 F }
theorem pc56_ok (F : Nat) : PCOk cx 56 (pc56 F) := qE (lx56 F) (.two .leaf (.two .leaf (.two .leaf (.two (.two .leaf (.one (.loop ⟨[.slot 6 (.val (.int .i64))], []⟩ [(.ret, ⟨[.slot 4 (.val (.int .i64))], []⟩), (.exit 0, ⟨[], []⟩)] ⟨[19, 20, 21, 22, 23, 24, 25, 4, 39, 38, 37, 36, 35, 34, 33, 32, 31, 30, 29, 28, 27, 26, 6, 18, 17, 16, 15, 14, 13], [], []⟩ F (.two .leaf (.two (.one (.two .leaf (.two (.join [(.normal, ⟨[.slot 39 (.val (.bool))], []⟩)] ⟨[39, 38, 37, 36, 35, 34, 33, 32, 31, 30, 29, 28, 27, 26], [], []⟩ .leaf) .leaf))) .leaf))))) .leaf)))) f56 (by kernel_rfl) fun a => by kernel_rfl
noncomputable def lx57 (F : Nat) : LK := lC (pc74_ok F) (lC (pc37_ok F) lN)
noncomputable def c57 (F : Nat) (a : TP × List Int) : Option (Bool) :=
  Option.bind (c37 F (a.1.1, a.1.2.1, a.1.2.2)) fun (v12 : List (ByteArray × Int × Int)) => let z1 := (↑(List.length v12) : Int); gd (decide (z1 ≤ z1)) (gd (decide ((↑(1 : Nat) : Int) * z1 ≤ (281474976710656 : Int))) (gd (decide (z1 ≤ (9223372036854775807 : Int))) (Option.bind (loopO (σ := List Bool × Int) (β := List Bool) (fun (v15 : List Bool × Int) => let z2 := (List.getD a.2 (Int.toNat v15.2) (0 : Int)); bif decide (v15.2 < (↑(List.length a.2) : Int)) then (gd (decide ((0 : Int) ≤ v15.2)) (gd (decide (v15.2 < (↑(List.length a.2) : Int))) (gd (decide (Int.toNat v15.2 < List.length a.2)) (gd (decide ((0 : Int) ≤ List.getD a.2 (Int.toNat v15.2) (0 : Int))) (gd (decide (List.getD a.2 (Int.toNat v15.2) (0 : Int) < (↑(Int.toNat z1) : Int))) (gd (decide ((0 : Nat) + Int.toNat z2 < List.length v15.1)) (some (Sum.inl (List.set v15.1 ((0 : Nat) + Int.toNat z2) true, w64 (v15.2 + (1 : Int))))))))))) else (some (Sum.inr v15.1))) F ((List.replicate (Int.toNat z1) false, (0 : Int)))) fun (v13 : List Bool) => gd (true && (true && true) && decide ((0 : Nat) + Int.toNat z1 ≤ List.length v13) && true) (Option.bind (c74 F ((a.1.1, a.1.2.1, a.1.2.2), List.take (Int.toNat z1) (List.drop (0 : Nat) v13))) fun (v14 : Bool) => some (!v14)))))
noncomputable def pc57 (F : Nat) : PC := { ats := [.agg [sR, sO, .int .i64], .val (.seq [.int .i64])], rts := [.val (.bool)], code := c57 F }
theorem pc57_ok (F : Nat) : PCOk cx 57 (pc57 F) := qE (lx57 F) (.two .leaf (.two .leaf (.two (.two .leaf (.one (.loop ⟨[.vec 1 4 [.bool], .slot 6 (.val (.int .i64))], []⟩ [(.exit 0, ⟨[.vec 1 4 [.bool]], []⟩)] ⟨[17, 18, 19, 20, 21, 22, 6, 16, 15, 14, 13, 12, 11], [1], []⟩ F .leaf))) .leaf))) f57 (by kernel_rfl) fun a => by kernel_rfl
noncomputable def c4 (F : Nat) (a : TP) : Option (Bool) :=
  let z1 := (↑(List.length a.1) : Int); Option.bind (c14 F (a.1, a.2.1, a.2.2)) fun (v63 : TP) => let z2 := (v63.1, v63.2.1, v63.2.2); Option.bind (c16 F z2) fun (v64 : Bool) => bif !v64 then (some (true)) else (Option.bind (c19 F z2) fun (v65 : Int) => Option.bind (bif decide (v65 = (0 : Int)) then (bif decide ((5 : Int) < z1) then (some (decide (z1 ≤ (8 : Int)))) else (some (false))) else (some (false))) fun (v66 : Bool) => bif v66 then (some (true)) else (Option.bind (c23 F (decide ((8 : Int) < z1), (22 : Int))) fun (v67 : Int) => Option.bind (c24 F (v65 :: v67 :: nilT Int)) fun (v68 : Int) => Option.bind (bif decide (v68 = (0 : Int)) then (Option.bind (c25 F z2) fun (v86 : Bool) => Option.bind (c23 F (!v86, (23 : Int))) fun (v87 : Int) => some (v87)) else (some (v68))) fun (v69 : Int) => Option.bind (c26 F (a.1, a.2.1, a.2.2)) fun (v70 : List Int × Int) => Option.bind (c27 F (a.1, a.2.1, a.2.2)) fun (v71 : Int × Int) => Option.bind (c28 F (a.1, a.2.1, a.2.2)) fun (v72 : List Int × Int) => bif !decide (v69 = (0 : Int)) then (Option.bind (Option.bind (c29 F (v70.1, v70.2, v69, nilT Int)) fun (v74 : Bool) => bif v74 then (Option.bind (c20 F (v71.1, v71.2, v69, (0 : Int))) fun (v75 : Bool) => bif v75 then (Option.bind (c29 F (v72.1, v72.2, v69, nilT Int)) fun (v76 : Bool) => some (v76)) else (some (false))) else (some (false))) fun (v73 : Bool) => some (v73)) else (Option.bind (c30 F z2) fun (v77 : Int) => Option.bind (Option.bind (c31 F z2) fun (v82 : List Int) => Option.bind (c29 F (v70.1, v70.2, (0 : Int), v82)) fun (v83 : Bool) => bif !v83 then (some (true)) else (Option.bind (c20 F (v71.1, v71.2, (0 : Int), v77)) fun (v84 : Bool) => bif !v84 then (some (true)) else (bif !decide (v72.2 = (0 : Int)) then (some (true)) else (Option.bind (c32 F (z2, v72.1)) fun (v85 : Int) => some (!decide (v85 = (0 : Int))))))) fun (v78 : Bool) => bif v78 then (some (false)) else (Option.bind (c33 F (z2, v72.1)) fun (v79 : Int × Int) => Option.bind (bif decide (v79.2 = (0 : Int)) then (Option.bind (c34 F (z2, v72.1)) fun (v81 : Int) => some (decide (v81 = v77))) else (some (false))) fun (v80 : Bool) => some (v80)))))
noncomputable def lx12 (F : Nat) : LK := lC (pc15_ok F) (lC (pc16_ok F) (lC (pc56_ok F) (lC (pc58_ok F) (lC (pc57_ok F) (lC (pc24_ok F) (lC (pc23_ok F) (lC (pc19_ok F) (lC (pc14_ok F) lN))))))))
noncomputable def c12 (F : Nat) (a : TP × List Int) : Option (Bool) :=
  Option.bind (c14 F (a.1.1, a.1.2.1, a.1.2.2)) fun (v33 : TP) => Option.bind (Option.bind (c16 F (v33.1, v33.2.1, v33.2.2)) fun (v45 : Bool) => bif !v45 then (some (true)) else (some (decide ((40 : Int) < (↑(List.length a.2) : Int))))) fun (v34 : Bool) => bif v34 then (some (true)) else (Option.bind (c19 F (v33.1, v33.2.1, v33.2.2)) fun (v35 : Int) => Option.bind (bif decide (v35 = (0 : Int)) then (bif decide ((4 : Int) < (↑(List.length a.1.1) : Int)) then (some (decide ((↑(List.length a.1.1) : Int) ≤ (8 : Int)))) else (some (false))) else (some (false))) fun (v36 : Bool) => bif v36 then (some (true)) else (Option.bind (c23 F (decide ((8 : Int) < (↑(List.length a.1.1) : Int)), (22 : Int))) fun (v37 : Int) => Option.bind (c24 F (v35 :: v37 :: nilT Int)) fun (v38 : Int) => Option.bind (bif decide (v38 = (0 : Int)) then (Option.bind (c56 F ((v33.1, v33.2.1, v33.2.2), a.2)) fun (v44 : Int) => some (v44)) else (some (v38))) fun (v39 : Int) => Option.bind (bif decide (v39 = (0 : Int)) then (Option.bind (c57 F ((v33.1, v33.2.1, v33.2.2), a.2)) fun (v42 : Bool) => Option.bind (c23 F (!v42, (21 : Int))) fun (v43 : Int) => some (v43)) else (some (v39))) fun (v40 : Int) => Option.bind (c58 F ((a.1.1, a.1.2.1, a.1.2.2), a.2)) fun (v41 : Int) => some (decide (v41 = v40))))
noncomputable def pc12 (F : Nat) : PC := { ats := [.agg [sR, sO, .int .i64], .val (.seq [.int .i64])], rts := [.val (.bool)], code := c12 F }
theorem pc12_ok (F : Nat) : PCOk cx 12 (pc12 F) := qE (lx12 F) (.two .leaf (.two .leaf (.two (.two (.join [(.normal, ⟨[.slot 20 (.val (.bool))], []⟩)] ⟨[20, 19, 18, 17, 16, 15, 14, 13, 12, 11, 10, 9], [], []⟩ .leaf) .leaf) (.two .leaf (.two (.two (.join [(.normal, ⟨[.slot 37 (.val (.bool))], []⟩)] ⟨[37, 36, 35, 34, 33, 32, 31, 30, 29, 28, 27, 26, 25, 24], [], []⟩ .leaf) .leaf) (.two .leaf (.two (.two .leaf (.join [(.normal, ⟨[.slot 6 (.val (.int .i64))], []⟩)] ⟨[6, 50, 49, 48], [], []⟩ .leaf)) (.two (.two .leaf (.join [(.normal, ⟨[.slot 6 (.val (.int .i64))], []⟩)] ⟨[6, 57, 56, 55, 54, 53], [], []⟩ .leaf)) .leaf)))))))) f12 (by kernel_rfl) fun a => by kernel_rfl
end Go.Proofs.Tryz
end
section
set_option maxRecDepth 100000
set_option linter.unusedVariables false
set_option linter.unusedSimpArgs false
namespace Go.Proofs.Tryz
open Go Go.Sx
def numO (m : Nat) (pre : List Int) (x : Int) : Int := if x < 0 ∨ (m : Int) ≤ x then 10 else if 0 < pre.length ∧ x ≤ pre.getD (pre.length - 1) 0 then 11 else 0
def numE (m : Nat) (ns : List Int) : Int := if ns.length = 0 then 12 else errL (numO m) [] ns
theorem take_prev {ns : List Int} {i : Nat} (hi : i < ns.length) (h0 : 0 < i) : (ns.take i).length = i ∧ (ns.take i).getD (i - 1) 0 = ns.getD (i - 1) 0 := by
  refine ⟨by simp; omega, ?_⟩
  rw [List.getD_eq_getElem?_getD, List.getD_eq_getElem?_getD, List.getElem?_take, if_pos (by omega)]
theorem l56 {F : Nat} (hF : 400 ≤ F) {p : Pln} (hp : PV p) {ns : List Int} (hl : ns.length ≤ 300) : c56 F (p, ns) = some (numE (rulesS p).length ns) := by
  have hrl := rulesS_len (p := p) (by have := hp.n1; omega) (by have := hp.n2; omega)
  have hcl := condS_len p
  unfold c56 numE
  by_cases h0 : ns.length = 0
  · have : (ns.length : Int) = 0 := by omega
    simp [h0]
  · have h0' : ¬ (ns.length : Int) = 0 := by omega
    have w1 : w64 (((condS p).length : Int) - 1) = ((rulesS p).length : Int) - 1 := by rw [hcl]; exact w64_in (by omega) (by omega)
    simp only [h0, h0', decide_false, cond_false, if_false, peta, l37 hF hp.sh, Option.bind_some, w1]
    refine bind_err ns (numO (rulesS p).length) (by omega) ?_ ?_ ?_
    · intro i x hi hx
      simp (disch := omega) only [cd_pos, gd_dec, Int.toNat_natCast, getD_some hx, l71, Option.bind_some]
      by_cases h1 : x < 0 ∨ ((rulesS p).length : Int) - 1 < x
      · have h1' : x < 0 ∨ ((rulesS p).length : Int) ≤ x := by omega
        simp [h1, numO, h1']
      · have h1' : ¬ (x < 0 ∨ ((rulesS p).length : Int) ≤ x) := by omega
        simp only [h1, decide_false, cond_false]
        by_cases hi0 : 0 < i
        · have w2 : w64 ((i : Int) - 1) = ((i - 1 : Nat) : Int) := by rw [w64_in (by omega) (by omega)]; omega
          obtain ⟨q1, q2⟩ := take_prev hi hi0
          simp (disch := omega) only [cd_pos, gd_dec, Int.toNat_natCast, w2, Option.bind_some]
          unfold numO
          rw [if_neg h1', q1, q2]
          generalize ns.getD (i - 1) 0 = y
          have w3 : w64 ((i : Int) + 1) = (i : Int) + 1 := w64_in (by omega) (by omega)
          by_cases h3 : x ≤ y
          · simp [h3, hi0]
          · simp [h3, hi0, w3]
        · simp (disch := omega) only [cd_neg, Option.bind_some, cond_false, w64_in]
          have hz : (ns.take i).length = 0 := by simp; omega
          unfold numO
          rw [if_neg h1', hz]
          simp
    · simp (disch := omega) only [cd_neg]
    · by_cases he : errL (numO (rulesS p).length) [] ns = 0
      · simp [he]
      · simp [he]
theorem x110 {F : Nat} (hF : 400 ≤ F) {L : List Rul} {ns : List Int} {i : Nat} {x : Int} (hi : i < ns.length) (hl : ns.length ≤ 300) (hL : L.length ≤ 3000) : cx110_0 F ((i : Int), x, L, ns) = some (numO L.length (ns.take i) x) := by
  unfold cx110_0 numO
  have z2 : ∀ (a b : Int), firstNZ (a :: b :: nilT Int) = if a = 0 then b else a := fun a b => by
    rw [firstNZ_cons, firstNZ_cons, firstNZ_nil]
    by_cases hb : b = 0 <;> simp [hb]
  have l2 : ∀ (a b : Int), c102 F (a :: b :: nilT Int) = some (firstNZ (a :: b :: nilT Int)) := fun a b => l102 (by simp [nilT]; omega) (by simp [nilT])
  by_cases hx : x < 0
  · rw [if_pos (.inl hx)]
    by_cases hi0 : 0 < i
    · have w2 : w64 ((i : Int) - 1) = ((i - 1 : Nat) : Int) := by rw [w64_in (by omega) (by omega)]; omega
      simp (disch := omega) only [hx, decide_true, cond_true, cd_pos, gd_dec, w2, l88, Option.bind_some, l2, z2]
      simp
    · simp (disch := omega) only [hx, decide_true, cond_true, cd_neg, Option.bind_some, l2, z2]
      simp
  · simp only [hx, decide_false, cond_false, l88, Option.bind_some, false_or]
    by_cases hi0 : 0 < i
    · have w2 : w64 ((i : Int) - 1) = ((i - 1 : Nat) : Int) := by rw [w64_in (by omega) (by omega)]; omega
      obtain ⟨q1, q2⟩ := take_prev hi hi0
      simp (disch := omega) only [cd_pos, gd_dec, w2, l88, Option.bind_some, l2, z2, Int.toNat_natCast]
      rw [q1, q2]
      generalize ns.getD (i - 1) 0 = y
      by_cases h1 : (L.length : Int) ≤ x
      · simp [h1]
      · by_cases h3 : x ≤ y
        · simp [h1, h3, hi0]
        · simp [h1, h3]
    · simp (disch := omega) only [cd_neg, l88, Option.bind_some, l2, z2]
      have hz : (ns.take i).length = 0 := by simp; omega
      by_cases h1 : (L.length : Int) ≤ x
      · simp [h1]
      · simp [h1, hz]
theorem x109 {F : Nat} (hF : 400 ≤ F) {L : List Rul} {ns : List Int} (hl : ns.length ≤ 300) (hL : L.length ≤ 3000) : cx109_0 F (ns, L, ns) = some (errL (numO L.length) [] ns) := by
  unfold cx109_0
  refine bind_err ns (numO L.length) (by omega) ?_ ?_ ?_
  · intro i x hi hx
    simp (disch := omega) only [cd_pos, gd_dec, Int.toNat_natCast, getD_some hx, x110 hF hi hl hL, Option.bind_some, w64_in]
    by_cases h : numO L.length (ns.take i) x = 0 <;> simp [h]
  · simp (disch := omega) only [cd_neg]
  · by_cases he : errL (numO L.length) [] ns = 0
    · simp [he]
    · simp [he]
theorem num_rng {m : Nat} {ns : List Int} (h : errL (numO m) [] ns = 0) : ∀ x ∈ ns, 0 ≤ x ∧ x < m := fun x hx => by
  obtain ⟨i, hi⟩ := List.mem_iff_getElem?.1 hx
  have := errL_zero h i x hi
  unfold numO at this
  split at this
  · omega
  · omega
abbrev r4 : Rul := (ByteArray.empty, (0 : Int), (0 : Int), (0 : Int))
def pickS (L : List Rul) (ns : List Int) : List Rul := ns.map fun x => L.getD x.toNat r4
theorem l86 {F : Nat} {L : List Rul} {ns : List Int} (hF : ns.length < F) (hl : ns.length ≤ 3000) (hL : L.length ≤ 3000) (hn : ∀ x ∈ ns, 0 ≤ x ∧ x < L.length) : c86 F (L, ns) = some (pickS L ns) := by
  unfold c86 pickS
  simp only []
  refine bind_list ns (fun (s : List Rul) i => (s, (i : Int))) (fun x s => .inl (s ++ [L.getD x.toNat r4])) (fun s => s) (fun i s => s.length = i) [] hF rfl rfl ?_ ?_ ?_
  · intro i x s hi hx hs
    obtain ⟨x0, x1⟩ := hn x (List.mem_of_getElem? hx)
    refine ⟨?_, fun s' h' => ?_⟩
    · have h2 : (s ++ [L.getD x.toNat r4]).length = s.length + 1 := by simp
      have h3 : ∀ r : Rul, (r.1, r.2.1, r.2.2.1, r.2.2.2) :: nilT Rul = [r] := fun r => rfl
      simp (disch := omega) only [cd_pos, gd_dec, Int.toNat_natCast, getD_some hx, h3, h2, w64_in, Option.bind_some, decide_true, Bool.and_self, gd_true]
      rfl
    · simp only [Sum.inl.injEq] at h'
      subst h'
      simp; omega
  · intro s hs
    simp (disch := omega) only [cd_neg, gd_dec, Option.bind_some, decide_true, Bool.and_self, gd_true]
  · rw [goL_append]
    simp (disch := omega) only [List.nil_append, List.drop_zero, List.take_length, Nat.zero_add, Nat.le_refl, gd_dec, decide_true, Bool.and_self, gd_true]
theorem l58 {F : Nat} (hF : 4000 ≤ F) {p : Pln} (hp : PShort p) {ns : List Int} (hl : ns.length ≤ 300) : (exE p ≠ 0 → c58 F (p, ns) = some (exE p)) ∧ (exE p = 0 → numE (rulesS p).length ns ≠ 0 → c58 F (p, ns) = some (numE (rulesS p).length ns)) ∧
    (exE p = 0 → numE (rulesS p).length ns = 0 → (∀ x ∈ ns, 0 ≤ x ∧ x < (rulesS p).length) ∧ ∃ b, c58 F (p, ns) = some (if b = true then 21 else 0) ∧ (b = true ↔ ∃ f, Hol p (pickS (rulesS p) ns) f)) := by
  have hrl := rulesS_len (p := p) (by have := hp.1; omega) (by have := hp.2.1; omega)
  have l2 : ∀ (a b : Int), c102 F (a :: b :: nilT Int) = some (if a = 0 then b else a) := fun a b => by
    rw [l102 (by simp [nilT]; omega) (by simp [nilT]), firstNZ_cons, firstNZ_cons, firstNZ_nil]
    by_cases hb : b = 0 <;> simp [hb]
  unfold c58
  simp only [peta, l82 (show 400 ≤ F by omega) hp, l88, Option.bind_some, l2]
  refine ⟨fun he => by simp [he], fun he hn => ?_, fun he hn => ?_⟩
  · simp only [he, if_true]
    unfold numE at hn ⊢
    by_cases h0 : ns.length = 0
    · have : (ns.length : Int) = 0 := by omega
      simp [h0]
    · have h0' : ¬ (ns.length : Int) = 0 := by omega
      rw [if_neg h0] at hn
      simp [h0, h0', hn, l65 (show 400 ≤ F by omega) hp, x109 (show 400 ≤ F by omega) hl (show (rulesS p).length ≤ 3000 by omega)]
  · simp only [he, if_true]
    unfold numE at hn
    by_cases h0 : ns.length = 0
    · rw [if_pos h0] at hn; omega
    · have h0' : ¬ (ns.length : Int) = 0 := by omega
      rw [if_neg h0] at hn
      have hr := num_rng hn
      have hv := PV.of hp (exE_zero he).1
      refine ⟨hr, ?_⟩
      obtain ⟨b, h1, h2⟩ := l83 (F := F) hF hv (L := pickS (rulesS p) ns) (by unfold pickS; rw [List.length_map]; omega) (fun r hrm => by
        obtain ⟨x, hx, rfl⟩ := List.mem_map.1 hrm
        have := hr x hx
        exact hv.rulM _ (getD_mem (by omega)))
      refine ⟨b, ?_, h2⟩
      simp only [h0', decide_false, Bool.false_eq_true, if_false, decide_true, Bool.not_true, cond_false, l65 (show 400 ≤ F by omega) hp, x109 (show 400 ≤ F by omega) hl (show (rulesS p).length ≤ 3000 by omega), hn, Option.bind_some, l86 (show ns.length < F by omega) (show ns.length ≤ 3000 by omega) (show (rulesS p).length ≤ 3000 by omega) hr, h1]
structure MarkS (m : Nat) (ns : List Int) (B : List Bool) : Prop where
  len : B.length = m
  at_ : ∀ k : Nat, B[k]? = some true ↔ k < m ∧ (k : Int) ∈ ns
theorem Hol.congr {p : Pln} {L M : List Rul} {f : List Int} (h : ∀ r, r ∈ M → r ∈ L) (hf : Hol p L f) : Hol p M f := ⟨hf.len, hf.rng, fun r hr => hf.rul r (h r hr)⟩
theorem mark_pick {p : Pln} {ns : List Int} {B : List Bool} (hr : ∀ x ∈ ns, 0 ≤ x ∧ x < (rulesS p).length) (hB : MarkS (rulesS p).length ns B) (r : Rul) : r ∈ chS p B ↔ r ∈ pickS (rulesS p) ns := by
  rw [mem_chS]
  unfold pickS
  rw [List.mem_map]
  constructor
  · rintro ⟨k, h1, h2⟩
    obtain ⟨h3, h4⟩ := (hB.at_ k).1 h2
    exact ⟨_, h4, by rw [Int.toNat_natCast]; exact getD_some h1⟩
  · rintro ⟨x, hx, rfl⟩
    have h := hr x hx
    refine ⟨x.toNat, ?_, (hB.at_ _).2 ⟨by omega, by rw [show ((x.toNat : Nat) : Int) = x by omega]; exact hx⟩⟩
    have hl : x.toNat < (rulesS p).length := by omega
    rw [getD_some (List.getElem?_eq_getElem hl)]
    exact List.getElem?_eq_getElem hl
theorem mark_set {m : Nat} {ns : List Int} {B : List Bool} (h : MarkS m ns B) {x : Int} (hx : 0 ≤ x ∧ x < m) : MarkS m (ns ++ [x]) (B.set x.toNat true) := by
  refine ⟨by rw [List.length_set]; exact h.len, fun k => ?_⟩
  rw [List.getElem?_set]
  have hl := h.len
  by_cases hk : x.toNat = k
  · subst hk
    rw [if_pos rfl, if_pos (by omega)]
    simp only [List.mem_append, List.mem_singleton, true_iff]
    exact ⟨by omega, .inr (by omega)⟩
  · rw [if_neg hk, h.at_]
    simp only [List.mem_append, List.mem_singleton]
    constructor
    · rintro ⟨a, b⟩; exact ⟨a, .inl b⟩
    · rintro ⟨a, b | b⟩
      · exact ⟨a, b⟩
      · omega
theorem l57 {F : Nat} (hF : 4000 ≤ F) {p : Pln} (hp : PV p) (hn : p.1.length ≤ 6) {ns : List Int} (hl : ns.length ≤ 300) (hr : ∀ x ∈ ns, 0 ≤ x ∧ x < (rulesS p).length) : ∃ b, c57 F (p, ns) = some (!b) ∧ (b = true ↔ ∃ f, Hol p (pickS (rulesS p) ns) f) := by
  have hrl := rulesS_len (p := p) (by have := hp.n1; omega) (by have := hp.n2; omega)
  have hcl := condS_len p
  obtain ⟨r, h1, b, h2, h3⟩ : ∃ r, c57 F (p, ns) = some r ∧ ∃ b, r = (!b) ∧ (b = true ↔ ∃ f, Hol p (pickS (rulesS p) ns) f) := by
    unfold c57
    simp (disch := omega) only [peta, l37 (show 400 ≤ F by omega) hp.sh, Option.bind_some, gd_dec, hcl, Int.toNat_natCast]
    refine bind_cnt 0 ns.length (fun i B => MarkS (rulesS p).length (ns.take i) B) (MarkS (rulesS p).length ns) (Nat.zero_le _) (by omega) ⟨by simp, fun k => by simp [List.getElem?_replicate]⟩ ?_ ?_ ?_
    · intro i B _ hi hB
      have hx := List.getElem?_eq_getElem hi
      have hx0 := hr _ (List.getElem_mem hi)
      generalize ns[i] = x at hx hx0
      have hBl := hB.len
      refine ⟨B.set x.toNat true, ?_, ?_⟩
      · simp (disch := omega) only [cd_pos, gd_dec, Int.toNat_natCast, getD_some hx, Nat.zero_add, w64_in]
      · rw [← take_snoc hx]
        exact mark_set hB hx0
    · intro B hB
      refine ⟨B, ?_, ?_⟩
      · simp (disch := omega) only [cd_neg]
      · rwa [List.take_length] at hB
    · intro B hB
      have hBl := hB.len
      obtain ⟨b, e1, e2⟩ := l74 hF hp hn hBl
      refine ⟨!b, ?_, b, rfl, e2.trans ⟨fun ⟨f, hf⟩ => ⟨f, hf.congr fun r hr' => (mark_pick hr hB r).2 hr'⟩, fun ⟨f, hf⟩ => ⟨f, hf.congr fun r hr' => (mark_pick hr hB r).1 hr'⟩⟩⟩
      rw [show List.take (rulesS p).length (List.drop 0 B) = B by rw [List.drop_zero]; exact List.take_of_length_le (by omega)]
      simp (disch := omega) only [gd_dec, decide_true, Bool.and_self, gd_true, e1, Option.bind_some]
      simp [hBl, gd_true]
  exact ⟨b, by rw [h1, h2], h3⟩
end Go.Proofs.Tryz
end
section
set_option maxRecDepth 100000
set_option linter.unusedVariables false
set_option linter.unusedSimpArgs false
namespace Go.Proofs.Tryz
open Go Go.Sx
theorem Hol.win {p : Pln} (hp : PV p) {t : List Int} (h : Hol p (rulesS p) t) {i : Nat} (hi : i < p.1.length) : 0 ≤ fL t i ∧ fL t i ≤ 20000 := by
  have h1 := holW.1 (h.rul _ (List.mem_of_getElem? (win_rul hi)))
  have h2 := hp.at (a := (i : Int)) (by omega) (by omega)
  omega
end Go.Proofs.Tryz
end
section
set_option maxRecDepth 100000
set_option linter.unusedVariables false
set_option linter.unusedSimpArgs false
namespace Go.Proofs.Tryz
open Go Go.Sx
theorem law12 (a : Pln × List Int) (hok : AEls.ok [.agg [.seq [.str, .int .i64, .seq [.str], .seq [.str], .seq [.str], .int .i64, .int .i64], .seq [.int .i64, .int .i64, .int .i64], .int .i64], .val (.seq [.int .i64])] a) : ∃ F, c12 F a = some true := by
  obtain ⟨p, ns⟩ := a
  obtain ⟨⟨⟨hb1, -⟩, ⟨hb2, -⟩, -⟩, -⟩ := hok
  refine ⟨roomP p ns, ?_⟩
  have hF0 : roomP p ns = p.1.length + p.2.1.length + ns.length + 4000 := rfl
  generalize roomP p ns = F at hF0
  have hF : 4000 ≤ F := by omega
  unfold c12
  obtain ⟨b, h16, hs⟩ := l16 (F := F) (by omega) (p := p)
  simp only [peta, l14 (F := F) (p := p) (by omega) (by omega) hb1 hb2, Option.bind_some, h16]
  cases b with
  | false => rfl
  | true =>
    have hp := hs rfl
    simp only [Bool.not_true, cond_false, Option.bind_some]
    by_cases h40 : (40 : Int) < ns.length
    · simp [h40]
    · have hl : ns.length ≤ 40 := by omega
      simp only [h40, decide_false, cond_false, l19 (show 400 ≤ F by omega) hp.sm, Option.bind_some]
      have e24 : ∀ b : Bool, (b = decide ((8 : Int) < (p.1.length : Int))) → firstNZ (planE p :: (if b = true then 22 else 0) :: nilT Int) = exE p := by
        intro b hb
        subst hb
        unfold exE
        by_cases h8 : 8 < p.1.length
        · have : (8 : Int) < (p.1.length : Int) := by omega
          simp [h8, this, nilT]
        · have : ¬ (8 : Int) < (p.1.length : Int) := by omega
          simp [h8, this, nilT]
      by_cases hskip : planE p = 0 ∧ 4 < p.1.length ∧ p.1.length ≤ 8
      · have a1 : (4 : Int) < (p.1.length : Int) := by omega
        have a2 : (p.1.length : Int) ≤ 8 := by omega
        simp [hskip.1, a1, a2]
      · have hv66 : ((bif decide (planE p = 0) then (bif decide ((4 : Int) < (p.1.length : Int)) then some (decide ((p.1.length : Int) ≤ (8 : Int))) else some false) else some false) : Option Bool) = some false := by
          by_cases h0 : planE p = 0
          · by_cases h5 : (4 : Int) < (p.1.length : Int)
            · have : ¬ (p.1.length : Int) ≤ 8 := fun h => hskip ⟨h0, by omega, by omega⟩
              simp [h0, h5, this]
            · simp [h0, h5]
          · simp [h0]
        simp only [hv66, Option.bind_some, cond_false, l23, l24 (show (planE p :: (if decide ((8 : Int) < (p.1.length : Int)) = true then 22 else 0) :: nilT Int).length < F by simp [nilT]; omega) (by simp [nilT]), e24 _ rfl]
        obtain ⟨k1, k2, k3⟩ := l58 hF hp (show ns.length ≤ 300 by omega)
        by_cases he : exE p = 0
        · obtain ⟨h0, h8⟩ := exE_zero he
          have hv := PV.of hp h0
          have hn : p.1.length ≤ 6 := by
            apply Classical.byContradiction
            intro h
            exact hskip ⟨h0, by omega, h8⟩
          simp only [he, decide_true, cond_true, l56 (show 400 ≤ F by omega) hv (show ns.length ≤ 300 by omega), Option.bind_some]
          by_cases hnu : numE (rulesS p).length ns = 0
          · obtain ⟨hr, b, e1, e2⟩ := k3 he hnu
            obtain ⟨b', f1, f2⟩ := l57 hF hv hn (show ns.length ≤ 300 by omega) hr
            have hbb : b = b' := by
              cases b with
              | true => exact (f2.2 (e2.1 rfl)).symm
              | false =>
                cases b' with
                | false => rfl
                | true => exact e2.2 (f2.1 rfl)
            subst hbb
            simp [hnu, e1, f1]
          · simp [hnu, k2 he hnu]
        · simp [he, k1 he]
end Go.Proofs.Tryz
end

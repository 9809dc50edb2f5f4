/- Functions of the program as functions of data. By program. awake, its parts: what the program's functions answer at the fixed examples Functions of the program as functions of data. By program. awake: the program run at its fixed examples returns true Functions of the program as functions of data. By program. Plain law: TimetableForms. Plain law: TimetableDays. Plain law: TimetableWindows. -/
import Derived.Test.YtlfcbhjoldgijaaGreatXTtT
import Derived.Test.YtlfcbhjoldgijaaGreatXSxQh
import Derived.Test.YtlfcbhjoldgijaaGreatXTtCx
import Derived.Test.YtlfcbhjoldgijaaGreatXT9o
section
set_option maxRecDepth 100000
set_option linter.all false
namespace Go.Proofs.Tryz
open Go Go.Sx
noncomputable def lx35 (F : Nat) : LK := lS del84_ok (lC (pc65_ok F) (lS (PF.sm_ok (pf85_ok F)) (lC (pc86_ok F) (lC (pc83_ok F) (lC (pc82_ok F) lN)))))
noncomputable def pc35 (F : Nat) : PC := qT (lx35 F) (.two .leaf (.two .leaf (.two .leaf (.two .leaf (.two .leaf (.two (.two .leaf (.one (.virt 6 3 [.int .i64] (.loop ⟨[.vec 1 3 [.int .i64], .slot 22 (.val (.int .i64))], [(6, .own 1)]⟩ [(.exit 0, ⟨[.vec 1 3 [.int .i64]], [(6, .own 1)]⟩)] ⟨[29, 22, 25, 26, 27, 28, 6, 7, 24, 23], [1], [1]⟩ F .leaf)))) (.two (.two .leaf (.one (.weak 1 [6] (.sealing 1 3 [.int .i64] (.loop ⟨[.slot 6 (.val (.seq [.int .i64])), .slot 8 (.val (.int .i64))], []⟩ [(.exit 2, ⟨[.slot 6 (.val (.seq [.int .i64]))], []⟩)] ⟨[37, 38, 39, 40, 41, 42, 9, 49, 6, 48, 47, 46, 45, 44, 43, 8, 36, 35, 34, 33], [], []⟩ F (.two .leaf (.two (.one (.two .leaf (.two (.weak 2 [9] (.sealing 2 3 [.int .i64] .leaf)) (.join [(.normal, ⟨[.slot 6 (.val (.seq [.int .i64]))], []⟩)] ⟨[6, 49], [], []⟩ .leaf)))) .leaf))))))) .leaf))))))) f35 [.agg [sR, sO, .int .i64]] [.val (.seq [.int .i64]), .val (.int .i64)]
theorem pc35_ok (F : Nat) : PCOk cx 35 (pc35 F) := qT_ok (by kernel_rfl)
noncomputable def lx36 (F : Nat) : LK := lC (pc65_ok F) (lC (pc87_ok F) (lC (pc86_ok F) (lC (pc83_ok F) (lC (pc77_ok F) (lC (pc88_ok F) (lC (pc82_ok F) lN))))))
noncomputable def pc36 (F : Nat) : PC := qT (lx36 F) (.two .leaf (.two .leaf (.two .leaf (.two .leaf (.two .leaf (.two .leaf (.two (.two .leaf (.one (.loop ⟨[.slot 6 (.val (.seq [.int .i64])), .slot 7 (.val (.bool)), .slot 24 (.val (.int .i64))], []⟩ [(.exit 0, ⟨[.slot 6 (.val (.seq [.int .i64])), .slot 7 (.val (.bool))], []⟩)] ⟨[72, 24, 27, 28, 29, 30, 31, 32, 33, 34, 35, 36, 37, 38, 50, 41, 42, 43, 44, 45, 49, 48, 47, 46, 10, 40, 39, 65, 66, 67, 68, 69, 70, 7, 6, 71, 64, 63, 62, 61, 60, 59, 58, 57, 56, 55, 54, 53, 52, 51, 9, 8, 26, 25], [], []⟩ F (.two .leaf (.two .leaf (.two (.join [(.normal, ⟨[.slot 6 (.val (.seq [.int .i64])), .slot 7 (.val (.bool))], []⟩)] ⟨[27, 28, 29, 30, 31, 32, 33, 34, 35, 36, 37, 38, 50, 41, 42, 43, 44, 45, 49, 48, 47, 46, 10, 40, 39, 65, 66, 67, 68, 69, 70, 7, 6, 71, 64, 63, 62, 61, 60, 59, 58, 57, 56, 55, 54, 53, 52, 51, 9, 8, 26], [], []⟩ (.one (.two .leaf (.two (.two (.join [(.normal, ⟨[.slot 35 (.val (.bool))], []⟩)] ⟨[35, 34, 33, 32, 31, 30, 29, 28, 27], [], []⟩ .leaf) .leaf) (.two .leaf (.two (.two .leaf (.one (.virt 9 3 [.int .i64] (.loop ⟨[.vec 1 3 [.int .i64], .slot 38 (.val (.int .i64))], [(9, .own 1)]⟩ [(.exit 2, ⟨[.vec 1 3 [.int .i64]], [(9, .own 1)]⟩)] ⟨[50, 38, 41, 42, 43, 44, 45, 9, 49, 48, 47, 46, 10, 40, 39], [1], [1]⟩ F (.two .leaf (.two .leaf (.two (.one (.two .leaf (.two .leaf (.join [(.normal, ⟨[.vec 1 3 [.int .i64]], [(9, .own 1)]⟩)] ⟨[9, 49, 48, 47, 46], [1], [1]⟩ .leaf)))) .leaf))))))) (.two (.two (.join [(.normal, ⟨[.slot 64 (.val (.bool))], []⟩)] ⟨[64, 63, 62, 61, 60, 59, 58, 57, 56, 55, 54, 53, 52, 51], [], []⟩ .leaf) .leaf) (.two (.weak 1 [9] (.sealing 1 3 [.int .i64] .leaf)) (.join [(.normal, ⟨[.slot 6 (.val (.seq [.int .i64])), .slot 7 (.val (.bool))], []⟩)] ⟨[7, 6, 71], [], []⟩ .leaf))))))))) .leaf)))))) .leaf))))))) f36 [.agg [sR, sO, .int .i64]] [.val (.seq [.int .i64]), .val (.int .i64)]
theorem pc36_ok (F : Nat) : PCOk cx 36 (pc36 F) := qT_ok (by kernel_rfl)
end Go.Proofs.Tryz
end
section
set_option maxRecDepth 1000000
set_option linter.unusedVariables false
namespace Go.Proofs.Tryz
open Go Go.Sx
def bs (l : List UInt8) : ByteArray := ⟨⟨l⟩⟩
def smp : TP := ([(bs [104, 101, 97, 116, 115], 30, [bs [116, 114, 97, 99, 107]], [], [bs [97, 110, 110], bs [98, 101, 97]], 0, 100), (bs [106, 117, 109, 112], 20, [bs [112, 105, 116]], [], [bs [97, 110, 110]], 0, 100), (bs [102, 105, 110, 97, 108], 10, [bs [116, 114, 97, 99, 107]], [], [bs [98, 101, 97]], 0, 100)], [(0, 2, 15)], 20)
def nar : TP := ([(bs [104, 101, 97, 116, 115], 30, [bs [116, 114, 97, 99, 107]], [], [bs [97, 110, 110], bs [98, 101, 97]], 0, 60), (bs [106, 117, 109, 112], 20, [bs [112, 105, 116]], [], [bs [97, 110, 110]], 20, 60), (bs [102, 105, 110, 97, 108], 10, [bs [116, 114, 97, 99, 107]], [], [bs [98, 101, 97]], 0, 100)], [(0, 2, 15)], 20)
def a50 : TP := smp
def y50 : List (ByteArray × Int × Int) × Int := ([(bs [119, 105, 110, 100, 111, 119], 0, 0), (bs [119, 105, 110, 100, 111, 119], 1, 1), (bs [119, 105, 110, 100, 111, 119], 2, 2), (bs [111, 114, 100, 101, 114], 0, 2), (bs [97, 116, 104, 108, 101, 116, 101], 0, 1), (bs [97, 114, 101, 97], 0, 2), (bs [97, 116, 104, 108, 101, 116, 101], 0, 2)], 0)
theorem r50 : (pc50 400).code a50 = some y50 := by kernel_rfl
def a17 : TP := smp
def y17 : List (Int × Int) × Int := ([(0, 45), (0, 80), (45, 90)], 0)
theorem r17 : (pc17 400).code a17 = some y17 := by kernel_rfl
def a18 : TP := smp
def y18 : Int × Int := (55, 0)
theorem r18 : (pc18 400).code a18 = some y18 := by kernel_rfl
def a26 : TP := smp
def y26 : List Int × Int := ([0, 50, 50], 0)
theorem r26 : (pc26 400).code a26 = some y26 := by kernel_rfl
def a27 : TP := smp
def y27 : Int × Int := (70, 0)
theorem r27 : (pc27 400).code a27 = some y27 := by kernel_rfl
def a36 : TP := nar
def y36 : List Int × Int := ([0, 1, 4], 0)
theorem r36 : (pc36 400).code a36 = some y36 := by kernel_rfl
def a41 : TP × List Int × ByteArray := (smp, [0, 50, 50], bs [97, 110, 110])
def y41 : Int × Int := (20, 0)
theorem r41 : (pc41 400).code a41 = some y41 := by kernel_rfl
def a52 : TP × List Int := (smp, [0, 50, 50])
def b52 : TP × List Int := (smp, [0, 40, 50])
def y52 : Int × Int := (7, 0)
def z52 : Int × Int := (4, 29)
theorem r52 : (pc52 400).code a52 = some y52 := by kernel_rfl
theorem s52 : ((pc52 400).at a52 y52).code b52 = some z52 := by kernel_rfl
def a35 : TP := nar
def b35 : TP := smp
def y35 : List Int × Int := ([0, 1, 4], 0)
def z35 : List Int × Int := ([], 7)
theorem r35 : (pc35 400).code a35 = some y35 := by kernel_rfl
theorem s35 : ((pc35 400).at a35 y35).code b35 = some z35 := by kernel_rfl
noncomputable def lxA : Lx := { ext := [(51, (pc51 400).sm)], anns := [], still := [] }
theorem lxA_ok : lxA.Ok cx.bare := Lx.ok_cons (PC.sm_ok (pc51_ok 400).bare) Lx.ok_nil
abbrev at45 : List ATy := [.agg [sR, sO, .int .i64]]
abbrev rt45 : List ATy := [.val (.seq [.str, .int .i64]), .val (.int .i64)]
def y45 : List (ByteArray × Int) × Int := ([(bs [112, 105, 116], 20), (bs [116, 114, 97, 99, 107], 40)], 0)
theorem q45 : codeOf cx.bare lxA 3000 .leaf f45 (bodyOf f45) at45 rt45 smp = some y45 := by kernel_rfl
end Go.Proofs.Tryz
end
section
set_option maxRecDepth 100000
set_option linter.all false
namespace Go.Proofs.Tryz
open Go Go.Sx
noncomputable def lx60 (F : Nat) : LK := lN
noncomputable def pc60 (F : Nat) : PC := qT (lx60 F) .leaf f60 [] [.agg [sR, sO, .int .i64]]
theorem pc60_ok (F : Nat) : PCOk cx 60 (pc60 F) := qT_ok (by kernel_rfl)
noncomputable def lx61 (F : Nat) : LK := lN
noncomputable def pc61 (F : Nat) : PC := qT (lx61 F) (.two .leaf (.two (.within [(60, .leaf)]) .leaf)) f61 [] [.agg [sR, sO, .int .i64]]
theorem pc61_ok (F : Nat) : PCOk cx 61 (pc61 F) := qT_ok (by kernel_rfl)
end Go.Proofs.Tryz
end
section
set_option maxRecDepth 1000000
set_option linter.unusedVariables false
namespace Go.Proofs.Tryz
open Go Go.Sx
noncomputable def k50 : PC := (pc50 400).one a50 y50
theorem k50_ok : PCOk cx.bare 50 k50 := (pc50_ok 400).bare.one a50 y50 r50
noncomputable def k17 : PC := (pc17 400).one a17 y17
theorem k17_ok : PCOk cx.bare 17 k17 := (pc17_ok 400).bare.one a17 y17 r17
noncomputable def k18 : PC := (pc18 400).one a18 y18
theorem k18_ok : PCOk cx.bare 18 k18 := (pc18_ok 400).bare.one a18 y18 r18
noncomputable def k26 : PC := (pc26 400).one a26 y26
theorem k26_ok : PCOk cx.bare 26 k26 := (pc26_ok 400).bare.one a26 y26 r26
noncomputable def k27 : PC := (pc27 400).one a27 y27
theorem k27_ok : PCOk cx.bare 27 k27 := (pc27_ok 400).bare.one a27 y27 r27
noncomputable def k36 : PC := (pc36 400).one a36 y36
theorem k36_ok : PCOk cx.bare 36 k36 := (pc36_ok 400).bare.one a36 y36 r36
noncomputable def k41 : PC := (pc41 400).one a41 y41
theorem k41_ok : PCOk cx.bare 41 k41 := (pc41_ok 400).bare.one a41 y41 r41
noncomputable def k52 : PC := ((pc52 400).at a52 y52).at b52 z52
theorem k52_ok : PCOk cx.bare 52 k52 := @PCOk.at cx.bare 52 ((pc52 400).at a52 y52) (@PCOk.at cx.bare 52 (pc52 400) (pc52_ok 400).bare a52 y52 r52) b52 z52 s52
noncomputable def k35 : PC := ((pc35 400).at a35 y35).at b35 z35
theorem k35_ok : PCOk cx.bare 35 k35 := @PCOk.at cx.bare 35 ((pc35 400).at a35 y35) (@PCOk.at cx.bare 35 (pc35 400) (pc35_ok 400).bare a35 y35 r35) b35 z35 s35
noncomputable def k45 : PC := { ats := at45, rts := rt45, code := one (ats := at45) (rts := rt45) smp y45 }
theorem k45_ok : PCOk cx.bare 45 k45 := PCOk.of_eval (Cx.bare_ok cx_ok) lxA_ok (n := 3000) (an := .leaf) (fn := f45) (c := bodyOf f45) (by kernel_rfl) (by kernel_rfl) (fun a y h => by
  obtain ⟨h1, h2⟩ := one_some h
  subst h1; subst h2
  exact q45) (by kernel_rfl)
noncomputable def lxB0 : Lx := { ext := [(50, k50.sm), (17, k17.sm), (18, k18.sm), (26, k26.sm), (27, k27.sm), (36, k36.sm), (41, k41.sm), (52, k52.sm), (35, k35.sm), (45, k45.sm), (96, (pc96 400).sm), (90, (pc90 400).sm), (97, (pc97 400).sm), (55, (pc55 400).sm), (60, (pc60 400).sm), (61, (pc61 400).sm)], anns := [], still := [] }
theorem lxB0_ok : lxB0.Ok cx.bare := Lx.ok_cons (PC.sm_ok k50_ok) (Lx.ok_cons (PC.sm_ok k17_ok) (Lx.ok_cons (PC.sm_ok k18_ok) (Lx.ok_cons (PC.sm_ok k26_ok) (Lx.ok_cons (PC.sm_ok k27_ok) (Lx.ok_cons (PC.sm_ok k36_ok) (Lx.ok_cons (PC.sm_ok k41_ok) (Lx.ok_cons (PC.sm_ok k52_ok) (Lx.ok_cons (PC.sm_ok k35_ok) (Lx.ok_cons (PC.sm_ok k45_ok) (Lx.ok_cons (PC.sm_ok (pc96_ok 400).bare) (Lx.ok_cons (PC.sm_ok (pc90_ok 400).bare) (Lx.ok_cons (PC.sm_ok (pc97_ok 400).bare) (Lx.ok_cons (PC.sm_ok (pc55_ok 400).bare) (Lx.ok_cons (PC.sm_ok (pc60_ok 400).bare) (Lx.ok_cons (PC.sm_ok (pc61_ok 400).bare) Lx.ok_nil)))))))))))))))
noncomputable def lxB : Lx := { ext := lxB0.ext, anns := [], still := [] }
theorem lxB_ok : lxB.Ok cx.bare := ⟨lxB0_ok.ext, rfl⟩
noncomputable def c15 (F : Nat) (a : Unit) : Option Bool := some true
noncomputable def pc15 (F : Nat) : PC := { ats := [], rts := [.val .bool], code := c15 F }
theorem aw_eq : codeOf cx.bare lxB 3000 .leaf f15 (bodyOf f15) [] [.val .bool] () = some true := by kernel_rfl
theorem pc15_ok (F : Nat) : PCOk cx 15 (pc15 F) := PCOk.full (PCOk.of_eval (Cx.bare_ok cx_ok) lxB_ok (n := 3000) (an := .leaf) (fn := f15) (c := bodyOf f15) (by kernel_rfl) (by kernel_rfl) (fun a y h => aw_eq.trans h) (by kernel_rfl))
end Go.Proofs.Tryz
end
section
set_option maxRecDepth 100000
set_option linter.all false
namespace Go.Proofs.Tryz
open Go Go.Sx
noncomputable def lx3 (F : Nat) : LK := lC (pc15_ok F) (lC (pc16_ok F) (lC (pc18_ok F) (lC (pc20_ok F) (lC (pc22_ok F) (lC (pc23_ok F) (lC (pc21_ok F) (lC (pc19_ok F) (lC (pc17_ok F) (lC (pc14_ok F) lN)))))))))
noncomputable def c3 (F : Nat) (a : TP) : Option (Bool) :=
  let z1 := ((0 : Int), (0 : Int)); Option.bind (c14 F (a.1, a.2.1, a.2.2)) fun (v35 : TP) => let z2 := (v35.1, v35.2.1, v35.2.2); Option.bind (c16 F z2) fun (v36 : Bool) => bif !v36 then (some (true)) else (Option.bind (c17 F (a.1, a.2.1, a.2.2)) fun (v37 : List (Int × Int) × Int) => let z3 := (↑(List.length v37.1) : Int); Option.bind (c18 F (a.1, a.2.1, a.2.2)) fun (v38 : Int × Int) => Option.bind (c19 F z2) fun (v39 : Int) => bif !decide (v39 = (0 : Int)) then (Option.bind (bif decide (z3 = (0 : Int)) then (bif decide (v37.2 = v39) then (Option.bind (c20 F (v38.1, v38.2, v39, (0 : Int))) fun (v41 : Bool) => some (v41)) else (some (false))) else (some (false))) fun (v40 : Bool) => some (v40)) else (Option.bind (c21 F z2) fun (v42 : List (Int × Int) × Bool) => let z4 := (bif v42.2 then (bif !decide (v37.2 = (0 : Int)) then (some (true)) else (some (!decide (z3 = (↑(List.length v42.1) : Int))))) else (some (false))); Option.bind (bif !v42.2 then (bif !decide (z3 = (0 : Int)) then (some (true)) else (bif !decide (v37.2 = (23 : Int)) then (some (true)) else z4)) else z4) fun (v43 : Bool) => bif v43 then (some (false)) else (Option.bind (loopO (σ := Int) (β := Bool ⊕ Unit) (fun (v50 : Int) => let z6 := List.getD v42.1 (Int.toNat v50) z1; let z5 := List.getD v37.1 (Int.toNat v50) z1; bif decide (v50 < z3) then (gd (decide ((0 : Int) ≤ v50)) (gd (decide (v50 < z3)) (gd (decide (Int.toNat v50 < List.length v37.1)) (gd (decide ((0 : Int) ≤ v50)) (gd (decide (v50 < (↑(List.length v42.1) : Int))) (gd (decide (Int.toNat v50 < List.length v42.1)) (bif !(decide (z5.1 = z6.1) && (decide (z5.2 = z6.2) && true)) then (some (Sum.inr (Sum.inl false))) else (some (Sum.inl (w64 (v50 + (1 : Int)))))))))))) else (some (Sum.inr (Sum.inr ())))) F ((0 : Int))) fun (v44 : Bool ⊕ Unit) => Sum.elim (fun (v45 : Bool) => some (v45)) (fun (v46 : Unit) => Option.bind (c22 F z2) fun (v47 : Int × Bool) => Option.bind (c23 F (!v47.2, (23 : Int))) fun (v48 : Int) => Option.bind (c20 F (v38.1, v38.2, v48, v47.1)) fun (v49 : Bool) => some (v49)) (v44))))
noncomputable def pc3 (F : Nat) : PC := { ats := [.agg [sR, sO, .int .i64]], rts := [.val (.bool)], code := c3 F }
theorem pc3_ok (F : Nat) : PCOk cx 3 (pc3 F) := qE (lx3 F) (.two .leaf (.two .leaf (.two .leaf (.two .leaf (.two .leaf (.two .leaf (.two (.two .leaf (.two (.two (.join [(.normal, ⟨[.slot 2 (.val (.bool))], []⟩)] ⟨[2, 51, 50, 49, 48, 47, 46, 45, 44, 43, 42, 41, 40, 39, 38], [], []⟩ .leaf) .leaf) .leaf)) (.two .leaf (.two (.two (.join [(.normal, ⟨[.slot 81 (.val (.bool))], []⟩)] ⟨[81, 80, 79, 78, 77, 76, 75, 74, 73, 72, 71, 70, 69, 68, 67, 66, 65, 64, 63, 62, 61, 60, 59, 58, 57], [], []⟩ .leaf) .leaf) (.two (.two .leaf (.one (.loop ⟨[.slot 11 (.val (.int .i64))], []⟩ [(.ret, ⟨[.slot 2 (.val (.bool))], []⟩), (.exit 0, ⟨[], []⟩)] ⟨[88, 89, 90, 91, 92, 93, 94, 95, 96, 2, 11, 87, 86, 85, 84, 83, 82], [], []⟩ F .leaf))) .leaf)))))))))) f3 (by kernel_rfl) fun a => by kernel_rfl
end Go.Proofs.Tryz
end
section
set_option maxRecDepth 100000
set_option linter.unusedVariables false
set_option linter.unusedSimpArgs false
namespace Go.Proofs.Tryz
open Go Go.Sx
theorem m20_err {F : Nat} {b w : Int} (hb : b ≠ 0) : c20 F (0, b, b, w) = some true := by
  unfold c20
  simp [hb]
theorem m20_ok {F : Nat} {w : Int} : c20 F (w, 0, 0, w) = some true := by
  unfold c20
  simp
end Go.Proofs.Tryz
end
section
set_option maxRecDepth 100000
set_option linter.unusedVariables false
set_option linter.unusedSimpArgs false
namespace Go.Proofs.Tryz
open Go Go.Sx
end Go.Proofs.Tryz
end
section
set_option maxRecDepth 100000
set_option linter.unusedVariables false
set_option linter.unusedSimpArgs false
namespace Go.Proofs.Tryz
open Go Go.Sx
theorem bfS_len {E : List Edg} : ∀ {k : Nat} {t t' : List Int}, bfS E k t = some t' → t'.length = t.length
  | 0, t, t', h => by
    unfold bfS at h
    split at h
    · cases h
    · cases h
      exact pass_len E t
  | k + 1, t, t', h => by
    unfold bfS at h
    split at h
    · exact (bfS_len h).trans (pass_len E t)
    · cases h
      exact pass_len E t
theorem lowS_len (low : List Int) (E : List Edg) : (lowS low E).1.length ≤ low.length := by
  unfold lowS
  split
  · exact Nat.zero_le _
  · rename_i h
    exact Nat.le_of_eq (bfS_len h)
theorem law3 (p : Pln) (hok : AEls.ok [.agg [.seq [.str, .int .i64, .seq [.str], .seq [.str], .seq [.str], .int .i64, .int .i64], .seq [.int .i64, .int .i64, .int .i64], .int .i64]] p) : ∃ F, c3 F p = some true := by
  obtain ⟨⟨hb1, -⟩, ⟨hb2, -⟩, -⟩ := hok
  refine ⟨roomP p [], ?_⟩
  have hF0 : roomP p [] = p.1.length + p.2.1.length + 0 + 4000 := rfl
  generalize roomP p [] = F at hF0
  unfold c3
  obtain ⟨b, h16, hs⟩ := l16 (F := F) (by omega) (p := p)
  simp only [peta, l14 (F := F) (p := p) (by omega) (by omega) hb1 hb2, Option.bind_some, h16]
  cases b with
  | false => rfl
  | true =>
    have hp := hs rfl
    simp only [Bool.not_true, cond_false, Option.bind_some, l17 (show 4000 ≤ F by omega) hp, l18 (show 4000 ≤ F by omega) hp, l19 (show 400 ≤ F by omega) hp.sm]
    by_cases h0 : planE p = 0
    · have hv := PV.of hp h0
      simp only [h0, decide_true, Bool.not_true, cond_false, if_true, l21 (show 4000 ≤ F by omega) hv, l22 (show 4000 ≤ F by omega) hv, Option.bind_some, wins_same hv, chain_same (p := p)]
      have hlen : (winsR p).2 = true → (winsR p).1.length ≤ 24 := by
        unfold winsR
        split
        · split
          · intro h; cases h
          · intro _
            simp only [List.length_map, List.length_zip]
            have := lowS_len (lowW p) (edgL p)
            have := hv.n1
            have : (lowW p).length = p.1.length := by simp [lowW]
            omega
        · intro h; cases h
      generalize winsR p = W at hlen
      obtain ⟨w, ok⟩ := W
      generalize chainR p = C
      obtain ⟨n, is⟩ := C
      cases ok with
      | false =>
        simp only [Bool.false_eq_true, ↓reduceIte, decide_true, Bool.not_true, Bool.not_false, cond_false, cond_true, Option.bind_some, nilT, List.length_nil]
        refine bind_list (nilT (Int × Int)) (fun (_ : Unit) i => (i : Int)) (fun _ _ => .inl ()) (fun _ => (.inr () : Bool ⊕ Unit)) (fun _ _ => True) () (by show 0 < F; omega) rfl trivial ?_ ?_ ?_
        · intro i x _ hi hx _
          exact absurd hi (Nat.not_lt_zero _)
        · intro _ _
          rfl
        · rw [goL_unit]
          simp only [Sum.elim_inr, l23]
          cases is <;> simp [m20_ok, m20_err]
      | true =>
        have hlen := hlen rfl
        simp only at hlen
        simp only [if_true, decide_true, Bool.not_true, cond_false, cond_true, Option.bind_some]
        refine bind_list w (fun (_ : Unit) i => (i : Int)) (fun _ _ => .inl ()) (fun _ => (.inr () : Bool ⊕ Unit)) (fun _ _ => True) () (by omega) rfl trivial ?_ ?_ ?_
        · intro i x _ hi hx _
          refine ⟨?_, fun _ _ => trivial⟩
          simp (disch := omega) only [cd_pos, gd_dec, w64_in, Int.toNat_natCast, getD_some hx, decide_true, Bool.and_true, Bool.not_true, cond_false]
          rfl
        · intro _ _
          simp (disch := omega) only [cd_neg]
        · rw [goL_unit]
          simp only [Sum.elim_inr, l23]
          cases is <;> simp [m20_ok, m20_err]
    · simp [h0, m20_err h0, nilT]
end Go.Proofs.Tryz
end

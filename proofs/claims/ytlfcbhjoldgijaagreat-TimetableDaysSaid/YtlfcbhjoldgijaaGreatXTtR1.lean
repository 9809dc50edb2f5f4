/- Functions of the program as functions of data. By program. awake, its parts: what the program's functions answer at the fixed examples Functions of the program as functions of data. By program. awake: the program run at its fixed examples returns true Functions of the program as functions of data. By program. Plain law: TimetableForms. Plain law: TimetableDays. -/
import Derived.Test.YtlfcbhjoldgijaaGreatXTtT
import Derived.Test.YtlfcbhjoldgijaaGreatXSxQh
import Derived.Test.YtlfcbhjoldgijaaGreatXTtCx
import Derived.Test.YtlfcbhjoldgijaaGreatXT9k
section
set_option maxRecDepth 100000
set_option linter.all false
namespace Go.Proofs.Tryz
open Go Go.Sx
noncomputable def lx35 (F : Nat) : Lx := { ext := [(84, delSm), (65, (pc65 F).sm), (85, (pf85 F).sm), (86, (pc86 F).sm), (83, (pc83 F).sm), (82, (pc82 F).sm)], anns := [], still := [] }
noncomputable def pc35 (F : Nat) : PC := pcT cx (lx35 F) (.two .leaf (.two .leaf (.two .leaf (.two .leaf (.two .leaf (.two (.two .leaf (.one (.virt 6 3 [.int .i64] (.loop ⟨[.vec 1 3 [.int .i64], .slot 22 (.val (.int .i64))], [(6, .own 1)]⟩ [(.exit 0, ⟨[.vec 1 3 [.int .i64]], [(6, .own 1)]⟩)] ⟨[29, 22, 25, 26, 27, 28, 6, 7, 24, 23], [1], [1]⟩ F .leaf)))) (.two (.two .leaf (.one (.weak 1 [6] (.sealing 1 3 [.int .i64] (.loop ⟨[.slot 6 (.val (.seq [.int .i64])), .slot 8 (.val (.int .i64))], []⟩ [(.exit 2, ⟨[.slot 6 (.val (.seq [.int .i64]))], []⟩)] ⟨[37, 38, 39, 40, 41, 42, 9, 49, 6, 48, 47, 46, 45, 44, 43, 8, 36, 35, 34, 33], [], []⟩ F (.two .leaf (.two (.one (.two .leaf (.two (.weak 2 [9] (.sealing 2 3 [.int .i64] .leaf)) (.join [(.normal, ⟨[.slot 6 (.val (.seq [.int .i64]))], []⟩)] ⟨[6, 49], [], []⟩ .leaf)))) .leaf))))))) .leaf))))))) f35 (bodyOf f35) [.agg [sR, sO, .int .i64]] [.val (.seq [.int .i64]), .val (.int .i64)]
theorem lx35_ok (F : Nat) : (lx35 F).Ok cx := Lx.ok_cons (del84_ok) (Lx.ok_cons (PC.sm_ok (pc65_ok F)) (Lx.ok_cons (PF.sm_ok (pf85_ok F)) (Lx.ok_cons (PC.sm_ok (pc86_ok F)) (Lx.ok_cons (PC.sm_ok (pc83_ok F)) (Lx.ok_cons (PC.sm_ok (pc82_ok F)) (Lx.ok_nil))))))
theorem pc35_ok (F : Nat) : PCOk cx 35 (pc35 F) := pcT_ok cx_ok (lx35_ok F) (by kernel_rfl) (by kernel_rfl) (by kernel_rfl)
noncomputable def lx36 (F : Nat) : Lx := { ext := [(65, (pc65 F).sm), (87, (pc87 F).sm), (86, (pc86 F).sm), (83, (pc83 F).sm), (77, (pc77 F).sm), (88, (pc88 F).sm), (82, (pc82 F).sm)], anns := [], still := [] }
noncomputable def pc36 (F : Nat) : PC := pcT cx (lx36 F) (.two .leaf (.two .leaf (.two .leaf (.two .leaf (.two .leaf (.two .leaf (.two (.two .leaf (.one (.loop ⟨[.slot 6 (.val (.seq [.int .i64])), .slot 7 (.val (.bool)), .slot 24 (.val (.int .i64))], []⟩ [(.exit 0, ⟨[.slot 6 (.val (.seq [.int .i64])), .slot 7 (.val (.bool))], []⟩)] ⟨[72, 24, 27, 28, 29, 30, 31, 32, 33, 34, 35, 36, 37, 38, 50, 41, 42, 43, 44, 45, 49, 48, 47, 46, 10, 40, 39, 65, 66, 67, 68, 69, 70, 7, 6, 71, 64, 63, 62, 61, 60, 59, 58, 57, 56, 55, 54, 53, 52, 51, 9, 8, 26, 25], [], []⟩ F (.two .leaf (.two .leaf (.two (.join [(.normal, ⟨[.slot 6 (.val (.seq [.int .i64])), .slot 7 (.val (.bool))], []⟩)] ⟨[27, 28, 29, 30, 31, 32, 33, 34, 35, 36, 37, 38, 50, 41, 42, 43, 44, 45, 49, 48, 47, 46, 10, 40, 39, 65, 66, 67, 68, 69, 70, 7, 6, 71, 64, 63, 62, 61, 60, 59, 58, 57, 56, 55, 54, 53, 52, 51, 9, 8, 26], [], []⟩ (.one (.two .leaf (.two (.two (.join [(.normal, ⟨[.slot 35 (.val (.bool))], []⟩)] ⟨[35, 34, 33, 32, 31, 30, 29, 28, 27], [], []⟩ .leaf) .leaf) (.two .leaf (.two (.two .leaf (.one (.virt 9 3 [.int .i64] (.loop ⟨[.vec 1 3 [.int .i64], .slot 38 (.val (.int .i64))], [(9, .own 1)]⟩ [(.exit 2, ⟨[.vec 1 3 [.int .i64]], [(9, .own 1)]⟩)] ⟨[50, 38, 41, 42, 43, 44, 45, 9, 49, 48, 47, 46, 10, 40, 39], [1], [1]⟩ F (.two .leaf (.two .leaf (.two (.one (.two .leaf (.two .leaf (.join [(.normal, ⟨[.vec 1 3 [.int .i64]], [(9, .own 1)]⟩)] ⟨[9, 49, 48, 47, 46], [1], [1]⟩ .leaf)))) .leaf))))))) (.two (.two (.join [(.normal, ⟨[.slot 64 (.val (.bool))], []⟩)] ⟨[64, 63, 62, 61, 60, 59, 58, 57, 56, 55, 54, 53, 52, 51], [], []⟩ .leaf) .leaf) (.two (.weak 1 [9] (.sealing 1 3 [.int .i64] .leaf)) (.join [(.normal, ⟨[.slot 6 (.val (.seq [.int .i64])), .slot 7 (.val (.bool))], []⟩)] ⟨[7, 6, 71], [], []⟩ .leaf))))))))) .leaf)))))) .leaf))))))) f36 (bodyOf f36) [.agg [sR, sO, .int .i64]] [.val (.seq [.int .i64]), .val (.int .i64)]
theorem lx36_ok (F : Nat) : (lx36 F).Ok cx := Lx.ok_cons (PC.sm_ok (pc65_ok F)) (Lx.ok_cons (PC.sm_ok (pc87_ok F)) (Lx.ok_cons (PC.sm_ok (pc86_ok F)) (Lx.ok_cons (PC.sm_ok (pc83_ok F)) (Lx.ok_cons (PC.sm_ok (pc77_ok F)) (Lx.ok_cons (PC.sm_ok (pc88_ok F)) (Lx.ok_cons (PC.sm_ok (pc82_ok F)) (Lx.ok_nil)))))))
theorem pc36_ok (F : Nat) : PCOk cx 36 (pc36 F) := pcT_ok cx_ok (lx36_ok F) (by kernel_rfl) (by kernel_rfl) (by kernel_rfl)
end Go.Proofs.Tryz
end
section
set_option maxRecDepth 1000000
set_option linter.unusedVariables false
namespace Go.Proofs.Tryz
open Go Go.Sx
def bs (l : List UInt8) : ByteArray := ⟨⟨l⟩⟩
def smp : TP := ([(bs [104, 101, 97, 116, 115], 30, [bs [116, 114, 97, 99, 107]], [], [bs [97, 110, 110], bs [98, 101, 97]], 0, 100), (bs [106, 117, 109, 112], 20, [bs [112, 105, 116]], [], [bs [97, 110, 110]], 0, 100), (bs [102, 105, 110, 97, 108], 10, [bs [116, 114, 97, 99, 107]], [], [bs [98, 101, 97]], 0, 100)], [(0, 2, 15)], 20)
def nar : TP := ([(bs [104, 101, 97, 116, 115], 30, [bs [116, 114, 97, 99, 107]], [], [bs [97, 110, 110], bs [98, 101, 97]], 0, 60), (bs [106, 117, 109, 112], 20, [bs [112, 105, 116]], [], [bs [97, 110, 110]], 20, 60), (bs [102, 105, 110, 97, 108], 10, [bs [116, 114, 97, 99, 107]], [], [bs [98, 101, 97]], 0, 100)], [(0, 2, 15)], 20)
def a50 : TP := smp
def y50 : List (ByteArray × Int × Int) × Int := ([(bs [119, 105, 110, 100, 111, 119], 0, 0), (bs [119, 105, 110, 100, 111, 119], 1, 1), (bs [119, 105, 110, 100, 111, 119], 2, 2), (bs [111, 114, 100, 101, 114], 0, 2), (bs [97, 116, 104, 108, 101, 116, 101], 0, 1), (bs [97, 114, 101, 97], 0, 2), (bs [97, 116, 104, 108, 101, 116, 101], 0, 2)], 0)
theorem r50 : (pc50 400).code a50 = some y50 := by kernel_rfl
def a17 : TP := smp
def y17 : List (Int × Int) × Int := ([(0, 45), (0, 80), (45, 90)], 0)
theorem r17 : (pc17 400).code a17 = some y17 := by kernel_rfl
def a18 : TP := smp
def y18 : Int × Int := (55, 0)
theorem r18 : (pc18 400).code a18 = some y18 := by kernel_rfl
def a26 : TP := smp
def y26 : List Int × Int := ([0, 50, 50], 0)
theorem r26 : (pc26 400).code a26 = some y26 := by kernel_rfl
def a27 : TP := smp
def y27 : Int × Int := (70, 0)
theorem r27 : (pc27 400).code a27 = some y27 := by kernel_rfl
def a36 : TP := nar
def y36 : List Int × Int := ([0, 1, 4], 0)
theorem r36 : (pc36 400).code a36 = some y36 := by kernel_rfl
def a41 : TP × List Int × ByteArray := (smp, [0, 50, 50], bs [97, 110, 110])
def y41 : Int × Int := (20, 0)
theorem r41 : (pc41 400).code a41 = some y41 := by kernel_rfl
def a52 : TP × List Int := (smp, [0, 50, 50])
def b52 : TP × List Int := (smp, [0, 40, 50])
def y52 : Int × Int := (7, 0)
def z52 : Int × Int := (4, 29)
theorem r52 : (pc52 400).code a52 = some y52 := by kernel_rfl
theorem s52 : ((pc52 400).at a52 y52).code b52 = some z52 := by kernel_rfl
def a35 : TP := nar
def b35 : TP := smp
def y35 : List Int × Int := ([0, 1, 4], 0)
def z35 : List Int × Int := ([], 7)
theorem r35 : (pc35 400).code a35 = some y35 := by kernel_rfl
theorem s35 : ((pc35 400).at a35 y35).code b35 = some z35 := by kernel_rfl
noncomputable def lxA : Lx := { ext := [(51, (pc51 400).sm)], anns := [], still := [] }
theorem lxA_ok : lxA.Ok cx.bare := Lx.ok_cons (PC.sm_ok (pc51_ok 400).bare) Lx.ok_nil
abbrev at45 : List ATy := [.agg [sR, sO, .int .i64]]
abbrev rt45 : List ATy := [.val (.seq [.str, .int .i64]), .val (.int .i64)]
def y45 : List (ByteArray × Int) × Int := ([(bs [112, 105, 116], 20), (bs [116, 114, 97, 99, 107], 40)], 0)
theorem q45 : codeOf cx.bare lxA 3000 .leaf f45 (bodyOf f45) at45 rt45 smp = some y45 := by kernel_rfl
end Go.Proofs.Tryz
end
section
set_option maxRecDepth 100000
set_option linter.all false
namespace Go.Proofs.Tryz
open Go Go.Sx
noncomputable def lx60 (F : Nat) : Lx := { ext := [], anns := [], still := [] }
noncomputable def pc60 (F : Nat) : PC := pcT cx (lx60 F) .leaf f60 (bodyOf f60) [] [.agg [sR, sO, .int .i64]]
theorem lx60_ok (F : Nat) : (lx60 F).Ok cx := Lx.ok_nil
theorem pc60_ok (F : Nat) : PCOk cx 60 (pc60 F) := pcT_ok cx_ok (lx60_ok F) (by kernel_rfl) (by kernel_rfl) (by kernel_rfl)
noncomputable def lx61 (F : Nat) : Lx := { ext := [], anns := [], still := [] }
noncomputable def pc61 (F : Nat) : PC := pcT cx (lx61 F) (.two .leaf (.two (.within [(60, .leaf)]) .leaf)) f61 (bodyOf f61) [] [.agg [sR, sO, .int .i64]]
theorem lx61_ok (F : Nat) : (lx61 F).Ok cx := Lx.ok_nil
theorem pc61_ok (F : Nat) : PCOk cx 61 (pc61 F) := pcT_ok cx_ok (lx61_ok F) (by kernel_rfl) (by kernel_rfl) (by kernel_rfl)
end Go.Proofs.Tryz
end
section
set_option maxRecDepth 1000000
set_option linter.unusedVariables false
namespace Go.Proofs.Tryz
open Go Go.Sx
noncomputable def k50 : PC := (pc50 400).one a50 y50
theorem k50_ok : PCOk cx.bare 50 k50 := (pc50_ok 400).bare.one a50 y50 r50
noncomputable def k17 : PC := (pc17 400).one a17 y17
theorem k17_ok : PCOk cx.bare 17 k17 := (pc17_ok 400).bare.one a17 y17 r17
noncomputable def k18 : PC := (pc18 400).one a18 y18
theorem k18_ok : PCOk cx.bare 18 k18 := (pc18_ok 400).bare.one a18 y18 r18
noncomputable def k26 : PC := (pc26 400).one a26 y26
theorem k26_ok : PCOk cx.bare 26 k26 := (pc26_ok 400).bare.one a26 y26 r26
noncomputable def k27 : PC := (pc27 400).one a27 y27
theorem k27_ok : PCOk cx.bare 27 k27 := (pc27_ok 400).bare.one a27 y27 r27
noncomputable def k36 : PC := (pc36 400).one a36 y36
theorem k36_ok : PCOk cx.bare 36 k36 := (pc36_ok 400).bare.one a36 y36 r36
noncomputable def k41 : PC := (pc41 400).one a41 y41
theorem k41_ok : PCOk cx.bare 41 k41 := (pc41_ok 400).bare.one a41 y41 r41
noncomputable def k52 : PC := ((pc52 400).at a52 y52).at b52 z52
theorem k52_ok : PCOk cx.bare 52 k52 := @PCOk.at cx.bare 52 ((pc52 400).at a52 y52) (@PCOk.at cx.bare 52 (pc52 400) (pc52_ok 400).bare a52 y52 r52) b52 z52 s52
noncomputable def k35 : PC := ((pc35 400).at a35 y35).at b35 z35
theorem k35_ok : PCOk cx.bare 35 k35 := @PCOk.at cx.bare 35 ((pc35 400).at a35 y35) (@PCOk.at cx.bare 35 (pc35 400) (pc35_ok 400).bare a35 y35 r35) b35 z35 s35
noncomputable def k45 : PC := { ats := at45, rts := rt45, code := one (ats := at45) (rts := rt45) smp y45 }
theorem k45_ok : PCOk cx.bare 45 k45 := PCOk.of_eval (Cx.bare_ok cx_ok) lxA_ok (n := 3000) (an := .leaf) (fn := f45) (c := bodyOf f45) (by kernel_rfl) (by kernel_rfl) (fun a y h => by
  obtain ⟨h1, h2⟩ := one_some h
  subst h1; subst h2
  exact q45) (by kernel_rfl)
noncomputable def lxB0 : Lx := { ext := [(50, k50.sm), (17, k17.sm), (18, k18.sm), (26, k26.sm), (27, k27.sm), (36, k36.sm), (41, k41.sm), (52, k52.sm), (35, k35.sm), (45, k45.sm), (96, (pc96 400).sm), (90, (pc90 400).sm), (97, (pc97 400).sm), (55, (pc55 400).sm), (60, (pc60 400).sm), (61, (pc61 400).sm)], anns := [], still := [] }
theorem lxB0_ok : lxB0.Ok cx.bare := Lx.ok_cons (PC.sm_ok k50_ok) (Lx.ok_cons (PC.sm_ok k17_ok) (Lx.ok_cons (PC.sm_ok k18_ok) (Lx.ok_cons (PC.sm_ok k26_ok) (Lx.ok_cons (PC.sm_ok k27_ok) (Lx.ok_cons (PC.sm_ok k36_ok) (Lx.ok_cons (PC.sm_ok k41_ok) (Lx.ok_cons (PC.sm_ok k52_ok) (Lx.ok_cons (PC.sm_ok k35_ok) (Lx.ok_cons (PC.sm_ok k45_ok) (Lx.ok_cons (PC.sm_ok (pc96_ok 400).bare) (Lx.ok_cons (PC.sm_ok (pc90_ok 400).bare) (Lx.ok_cons (PC.sm_ok (pc97_ok 400).bare) (Lx.ok_cons (PC.sm_ok (pc55_ok 400).bare) (Lx.ok_cons (PC.sm_ok (pc60_ok 400).bare) (Lx.ok_cons (PC.sm_ok (pc61_ok 400).bare) Lx.ok_nil)))))))))))))))
noncomputable def lxB : Lx := { ext := lxB0.ext, anns := [], still := [] }
theorem lxB_ok : lxB.Ok cx.bare := ⟨lxB0_ok.ext, rfl⟩
noncomputable def c15 (F : Nat) (a : Unit) : Option Bool := some true
noncomputable def pc15 (F : Nat) : PC := { ats := [], rts := [.val .bool], code := c15 F }
theorem aw_eq : codeOf cx.bare lxB 3000 .leaf f15 (bodyOf f15) [] [.val .bool] () = some true := by kernel_rfl
theorem pc15_ok (F : Nat) : PCOk cx 15 (pc15 F) := PCOk.full (PCOk.of_eval (Cx.bare_ok cx_ok) lxB_ok (n := 3000) (an := .leaf) (fn := f15) (c := bodyOf f15) (by kernel_rfl) (by kernel_rfl) (fun a y h => aw_eq.trans h) (by kernel_rfl))
end Go.Proofs.Tryz
end
section
set_option maxRecDepth 100000
set_option linter.all false
namespace Go.Proofs.Tryz
open Go Go.Sx
noncomputable def lx6 (F : Nat) : Lx := { ext := [(15, (pc15 F).sm), (16, (pc16 F).sm), (41, (pc41 F).sm), (20, (pc20 F).sm), (29, (pc29 F).sm), (44, (pc44 F).sm), (43, (pc43 F).sm), (23, (pc23 F).sm), (42, (pc42 F).sm), (40, (pc40 F).sm), (14, (pc14 F).sm)], anns := [], still := [] }
noncomputable def c6 (F : Nat) (a : TP × List Int × ByteArray) : Option (Bool) :=
  Option.bind (c14 F (a.1.1, a.1.2.1, a.1.2.2)) fun (v46 : TP) => Option.bind (Option.bind (c16 F (v46.1, v46.2.1, v46.2.2)) fun (v62 : Bool) => bif !v62 then (some (true)) else (bif decide ((30 : Int) < (↑(List.length a.2.1) : Int)) then (some (true)) else (some (decide ((40 : Int) < (↑(ByteArray.size a.2.2) : Int)))))) fun (v47 : Bool) => bif v47 then (some (true)) else (Option.bind (c40 F ((a.1.1, a.1.2.1, a.1.2.2), a.2.1, a.2.2)) fun (v48 : List Int × Int) => Option.bind (c41 F ((a.1.1, a.1.2.1, a.1.2.2), a.2.1, a.2.2)) fun (v49 : Int × Int) => Option.bind (c42 F ((v46.1, v46.2.1, v46.2.2), a.2.1)) fun (v50 : Int) => Option.bind (bif decide (v50 = (0 : Int)) then (Option.bind (c43 F ((v46.1, v46.2.1, v46.2.2), a.2.1, a.2.2)) fun (v60 : List Int) => Option.bind (c23 F (decide ((↑(List.length v60) : Int) = (0 : Int)), (10 : Int))) fun (v61 : Int) => some ((v61, v60))) else (some ((v50, nilT Int)))) fun (v51 : Int × List Int) => bif !decide (v51.1 = (0 : Int)) then (Option.bind (Option.bind (c29 F (v48.1, v48.2, v51.1, nilT Int)) fun (v53 : Bool) => bif v53 then (Option.bind (c20 F (v49.1, v49.2, v51.1, (0 : Int))) fun (v54 : Bool) => some (v54)) else (some (false))) fun (v52 : Bool) => some (v52)) else (Option.bind (Option.bind (c29 F (v48.1, v48.2, (0 : Int), v51.2)) fun (v56 : Bool) => bif v56 then (Option.bind (c23 F (decide ((↑(List.length v51.2) : Int) = (1 : Int)), (7 : Int))) fun (v57 : Int) => Option.bind (c44 F ((v46.1, v46.2.1, v46.2.2), a.2.1, a.2.2)) fun (v58 : Int) => Option.bind (c20 F (v49.1, v49.2, v57, v58)) fun (v59 : Bool) => some (v59)) else (some (false))) fun (v55 : Bool) => some (v55)))
noncomputable def pc6 (F : Nat) : PC := { ats := [.agg [sR, sO, .int .i64], .val (.seq [.int .i64]), .val (.str)], rts := [.val (.bool)], code := c6 F }
theorem lx6_ok (F : Nat) : (lx6 F).Ok cx := Lx.ok_cons (PC.sm_ok (pc15_ok F)) (Lx.ok_cons (PC.sm_ok (pc16_ok F)) (Lx.ok_cons (PC.sm_ok (pc41_ok F)) (Lx.ok_cons (PC.sm_ok (pc20_ok F)) (Lx.ok_cons (PC.sm_ok (pc29_ok F)) (Lx.ok_cons (PC.sm_ok (pc44_ok F)) (Lx.ok_cons (PC.sm_ok (pc43_ok F)) (Lx.ok_cons (PC.sm_ok (pc23_ok F)) (Lx.ok_cons (PC.sm_ok (pc42_ok F)) (Lx.ok_cons (PC.sm_ok (pc40_ok F)) (Lx.ok_cons (PC.sm_ok (pc14_ok F)) (Lx.ok_nil)))))))))))
theorem pc6_ok (F : Nat) : PCOk cx 6 (pc6 F) := PCOk.of_eval cx_ok (lx6_ok F) (n := 1000) (an := (.two .leaf (.two .leaf (.two (.two (.join [(.normal, ⟨[.slot 32 (.val (.bool))], []⟩)] ⟨[32, 31, 30, 29, 28, 27, 26, 25, 24, 23, 22, 21, 20, 19, 18, 17, 16], [], []⟩ .leaf) .leaf) (.two .leaf (.two .leaf (.two .leaf (.two .leaf (.two (.two .leaf (.join [(.normal, ⟨[.slot 12 (.val (.int .i64)), .slot 13 (.val (.seq [.int .i64]))], []⟩)] ⟨[57, 58, 59, 60, 12, 13, 56, 55, 54, 53], [], []⟩ .leaf)) (.two (.two .leaf (.two (.two (.join [(.normal, ⟨[.slot 6 (.val (.bool))], []⟩)] ⟨[6, 72, 71, 70, 69, 68, 67, 66, 65, 64, 63], [], []⟩ .leaf) .leaf) .leaf)) (.two (.join [(.normal, ⟨[.slot 6 (.val (.bool))], []⟩)] ⟨[6, 89, 88, 87, 86, 85, 84, 83, 82, 81, 80, 79, 78, 77, 76, 75, 74, 73], [], []⟩ .leaf) .leaf))))))))))) (fn := f6) (c := bodyOf f6) (by kernel_rfl) (by kernel_rfl) (fun a y h => Eq.trans (b := c6 F a) (by kernel_rfl) h) (by kernel_rfl)
noncomputable def c3 (F : Nat) (a : TP) : Option (Bool) :=
  Option.bind (c14 F (a.1, a.2.1, a.2.2)) fun (v35 : TP) => Option.bind (c16 F (v35.1, v35.2.1, v35.2.2)) fun (v36 : Bool) => bif !v36 then (some (true)) else (Option.bind (c17 F (a.1, a.2.1, a.2.2)) fun (v37 : List (Int × Int) × Int) => Option.bind (c18 F (a.1, a.2.1, a.2.2)) fun (v38 : Int × Int) => Option.bind (c19 F (v35.1, v35.2.1, v35.2.2)) fun (v39 : Int) => bif !decide (v39 = (0 : Int)) then (Option.bind (bif decide ((↑(List.length v37.1) : Int) = (0 : Int)) then (bif decide (v37.2 = v39) then (Option.bind (c20 F (v38.1, v38.2, v39, (0 : Int))) fun (v41 : Bool) => some (v41)) else (some (false))) else (some (false))) fun (v40 : Bool) => some (v40)) else (Option.bind (c21 F (v35.1, v35.2.1, v35.2.2)) fun (v42 : List (Int × Int) × Bool) => Option.bind (bif !v42.2 then (bif !decide ((↑(List.length v37.1) : Int) = (0 : Int)) then (some (true)) else (bif !decide (v37.2 = (23 : Int)) then (some (true)) else (bif v42.2 then (bif !decide (v37.2 = (0 : Int)) then (some (true)) else (some (!decide ((↑(List.length v37.1) : Int) = (↑(List.length v42.1) : Int))))) else (some (false))))) else (bif v42.2 then (bif !decide (v37.2 = (0 : Int)) then (some (true)) else (some (!decide ((↑(List.length v37.1) : Int) = (↑(List.length v42.1) : Int))))) else (some (false)))) fun (v43 : Bool) => bif v43 then (some (false)) else (Option.bind (loopO (σ := Int) (β := Bool ⊕ Unit) (fun (v50 : Int) => bif decide (v50 < (↑(List.length v37.1) : Int)) then (gd (decide ((0 : Int) ≤ v50)) (gd (decide (v50 < (↑(List.length v37.1) : Int))) (gd (decide (Int.toNat v50 < List.length v37.1)) (gd (decide ((0 : Int) ≤ v50)) (gd (decide (v50 < (↑(List.length v42.1) : Int))) (gd (decide (Int.toNat v50 < List.length v42.1)) (bif !(decide (Prod.fst (List.getD v37.1 (Int.toNat v50) ((0 : Int), (0 : Int))) = Prod.fst (List.getD v42.1 (Int.toNat v50) ((0 : Int), (0 : Int)))) && (decide (Prod.snd (List.getD v37.1 (Int.toNat v50) ((0 : Int), (0 : Int))) = Prod.snd (List.getD v42.1 (Int.toNat v50) ((0 : Int), (0 : Int)))) && true)) then (some (Sum.inr (Sum.inl false))) else (some (Sum.inl (w64 (v50 + (1 : Int)))))))))))) else (some (Sum.inr (Sum.inr ())))) F ((0 : Int))) fun (v44 : Bool ⊕ Unit) => Sum.elim (fun (v45 : Bool) => some (v45)) (fun (v46 : Unit) => Option.bind (c22 F (v35.1, v35.2.1, v35.2.2)) fun (v47 : Int × Bool) => Option.bind (c23 F (!v47.2, (23 : Int))) fun (v48 : Int) => Option.bind (c20 F (v38.1, v38.2, v48, v47.1)) fun (v49 : Bool) => some (v49)) (v44))))
end Go.Proofs.Tryz
end
section
set_option maxRecDepth 100000
set_option linter.unusedVariables false
set_option linter.unusedSimpArgs false
namespace Go.Proofs.Tryz
open Go Go.Sx
theorem m20_err {F : Nat} {b w : Int} (hb : b ≠ 0) : c20 F (0, b, b, w) = some true := by
  unfold c20
  simp [hb]
theorem m20_ok {F : Nat} {w : Int} : c20 F (w, 0, 0, w) = some true := by
  unfold c20
  simp
end Go.Proofs.Tryz
end
section
set_option maxRecDepth 100000
set_option linter.unusedVariables false
set_option linter.unusedSimpArgs false
namespace Go.Proofs.Tryz
open Go Go.Sx
theorem law6 (a : Pln × List Int × ByteArray) (hok : AEls.ok [.agg [.seq [.str, .int .i64, .seq [.str], .seq [.str], .seq [.str], .int .i64, .int .i64], .seq [.int .i64, .int .i64, .int .i64], .int .i64], .val (.seq [.int .i64]), .val .str] a) : ∃ F, c6 F a = some true := by
  obtain ⟨p, t, s⟩ := a
  obtain ⟨⟨⟨hb1, -⟩, ⟨hb2, -⟩, -⟩, -⟩ := hok
  refine ⟨roomP p t, ?_⟩
  have hF0 : roomP p t = p.1.length + p.2.1.length + t.length + 4000 := rfl
  generalize roomP p t = F at hF0
  unfold c6
  obtain ⟨b, h16, hs⟩ := l16 (F := F) (by omega) (p := p)
  simp only [peta, l14 (F := F) (p := p) (by omega) (by omega) hb1 hb2, Option.bind_some, h16]
  cases b with
  | false => rfl
  | true =>
    have hp := hs rfl
    simp only [Bool.not_true, cond_false, Option.bind_some]
    by_cases h30 : (30 : Int) < t.length
    · simp [h30]
    · have htl : t.length ≤ 300 := by omega
      by_cases h40 : (40 : Int) < (s.size : Int)
      · simp [h30, h40]
      · simp only [h30, h40, decide_false, cond_false, l42 (show 400 ≤ F by omega) hp htl, Option.bind_some]
        by_cases h2 : soundE p t = 0
        · obtain ⟨h0, h1⟩ := soundE_zero h2
          have hv := PV.of hp h0
          obtain ⟨h3, h4⟩ := TOk.of h1
          obtain ⟨L, hL, hS⟩ := l91 (F := F) (show 400 ≤ F by omega) hv h3 (a := s)
          obtain ⟨M, hM, hT⟩ := l43 (F := F) (show 400 ≤ F by omega) hv h3 (a := s)
          obtain rfl := day_same h3 hS hT
          have hD : ∀ y ∈ L, InE p.1.length y := fun y hy => needL_in _ (hS.1.mem_iff.1 hy)
          have hLl : L.length ≤ 24 := by
            rw [hS.len]
            have := ifl_len (f := needR s) (B := 1) (fun k x => needR_len s k x) p.1 0
            have := hv.n1
            unfold needL
            omega
          rw [l40 (show 400 ≤ F by omega) hp htl (fun _ => hL), l41 (show 400 ≤ F by omega) hp htl (fun _ => hL) hD hLl]
          simp only [h2, decide_true, if_true, Bool.not_true, cond_false, cond_true, Option.bind_some, hM, l23]
          match L, hL, hM, hD, hLl with
          | [], _, _, _, _ => simp [nilT, m24_err, m20_err]
          | [x], _, hM, hD, hLl =>
            have h5 : (1 : Nat) < F := by omega
            simp [l44 (show 400 ≤ F by omega) hv h3 hM hD hLl, restV, gapsS, m24_ok, m20_err, h5]
          | x :: y :: l, _, hM, hD, hLl =>
            have h5 : (x :: y :: l).length < F := by omega
            have h6 : ¬ ((x :: y :: l).length : Int) = 0 := by simp only [List.length_cons]; omega
            have h7 : ¬ ((x :: y :: l).length : Int) = 1 := by simp only [List.length_cons]; omega
            have h8 : ¬ (x :: y :: l).length = 0 := by simp only [List.length_cons]; omega
            have h9 : minL 999999999 (gapsS p t x (y :: l)) = minL (tq t y - (tq t x + (rq p x).2.1)) (gapsS p t y l) := by
              unfold minL
              simp only [gapsS, List.foldl_cons]
              congr 1
              have hy := hD y (by simp)
              have hx := hD x (by simp)
              have := h4 _ (getD_mem (d := 0) (l := t) (i := y.toNat) (by rw [h3.len]; have := hy.1; have := hy.2; omega))
              have := h4 _ (getD_mem (d := 0) (l := t) (i := x.toNat) (by rw [h3.len]; have := hx.1; have := hx.2; omega))
              have := hv.at hx.1 hx.2
              simp only [tq] at *
              split <;> omega
            simp only [l44 (show 400 ≤ F by omega) hv h3 hM hD hLl, h6, h7, h8, h9, restV, gapsS, decide_false, decide_true, if_false, cond_true, cond_false, Bool.not_true, Option.bind_some, m24_ok h5 (show (x :: y :: l).length ≤ 100000 by omega), m20_ok]
            rw [show gapsS p t x (y :: l) = (tq t y - (tq t x + (rq p x).2.1)) :: gapsS p t y l from rfl] at h9
            simp only [h9, Bool.false_eq_true, ↓reduceIte, decide_true, Bool.not_true, cond_false, m20_ok, Option.bind_some]
        · rw [l40 (show 400 ≤ F by omega) hp htl (L := []) (fun h => absurd h h2), l41 (show 400 ≤ F by omega) hp htl (fun h => absurd h h2) (L := []) (fun _ h => nomatch h) (Nat.zero_le _)]
          simp [h2, m24_err h2, m20_err h2, nilT]
end Go.Proofs.Tryz
end

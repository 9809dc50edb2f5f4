/- Functions of the program as functions of data. By program. -/
import Derived.Test.YtdghdcclhnoigaaGreatDoorXTryzA
set_option maxRecDepth 100000
set_option linter.all false
namespace Go.Proofs.Tryz
open Go Go.Sx
noncomputable def lx6 (F : Nat) : Lx := { ext := [(42, (pc42 F).sm), (44, (pc44 F).sm), (24, (pc24 F).sm), (45, (pc45 F).sm), (25, (pc25 F).sm), (26, (pc26 F).sm), (43, (pc43 F).sm), (31, (pc31 F).sm), (16, (pc16 F).sm)], anns := [], still := [] }
noncomputable def c6 (F : Nat) (a : List (List Int) × Int × Int) : Option (Bool) :=
  Option.bind (c31 F (a.1, (12 : Int), (12 : Int))) fun (v22 : Bool) => bif v22 then (some (true)) else (Option.bind (c42 F a.1) fun (v23 : Int) => Option.bind (c43 F a.1) fun (v24 : Int) => bif !decide (v24 = v23) then (some (false)) else (Option.bind (c44 F (a.1, a.2.1, a.2.2)) fun (v25 : List Int × Int) => Option.bind (c26 F (a.2.1, (0 : Int), (160 : Int))) fun (v26 : Int) => Option.bind (c25 F (v23 :: v26 :: nilT Int)) fun (v27 : Int) => Option.bind (bif decide (v27 = (0 : Int)) then (Option.bind (c45 F (a.1, a.2.1, a.2.2)) fun (v30 : List Int × Int) => some ((v30.2, v30.1))) else (some ((v27, nilT Int)))) fun (v28 : Int × List Int) => Option.bind (c24 F (v25.1, v25.2, v28.1, v28.2)) fun (v29 : Bool) => some (v29)))
noncomputable def pc6 (F : Nat) : PC := { ats := [.val (.seq [.seq [.int .i64]]), .val (.int .i64), .val (.int .i64)], rts := [.val (.bool)], code := c6 F }
theorem lx6_ok (F : Nat) : (lx6 F).Ok cx := Lx.ok_cons (PC.sm_ok (pc42_ok F)) (Lx.ok_cons (PC.sm_ok (pc44_ok F)) (Lx.ok_cons (PC.sm_ok (pc24_ok F)) (Lx.ok_cons (PC.sm_ok (pc45_ok F)) (Lx.ok_cons (PC.sm_ok (pc25_ok F)) (Lx.ok_cons (PC.sm_ok (pc26_ok F)) (Lx.ok_cons (PC.sm_ok (pc43_ok F)) (Lx.ok_cons (PC.sm_ok (pc31_ok F)) (Lx.ok_cons (PC.sm_ok (pc16_ok F)) (Lx.ok_nil)))))))))
def an6 (F : Nat) : Ann := .two .leaf (.two .leaf (.two .leaf (.two .leaf (.two .leaf (.two .leaf (.two .leaf (.two (.two .leaf (.join [(.normal, ⟨[.slot 7 (.val (.int .i64)), .slot 10 (.val (.seq [.int .i64]))], []⟩)] ⟨[7, 10, 44, 43, 38, 42, 41, 40, 39], [], []⟩ .leaf)) .leaf)))))))
theorem c6_eq (F : Nat) (a : List (List Int) × Int × Int) : codeOf cx (lx6 F) 1000 (an6 F) f6 (bodyOf f6) [.val (.seq [.seq [.int .i64]]), .val (.int .i64), .val (.int .i64)] [.val (.bool)] a = c6 F a := by kernel_rfl
theorem pc6_ok (F : Nat) : PCOk cx 6 (pc6 F) := PCOk.of_eval cx_ok (lx6_ok F) (n := 1000) (an := an6 F) (fn := f6) (c := bodyOf f6) (by kernel_rfl) (by kernel_rfl) (fun a y h => (c6_eq F a).trans h) (by kernel_rfl)
end Go.Proofs.Tryz

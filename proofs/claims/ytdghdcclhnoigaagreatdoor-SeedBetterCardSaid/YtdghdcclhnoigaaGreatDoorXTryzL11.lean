/- Functions of the program as functions of data. By program. Plain law of SeedBetter: the order as the law tells it. -/
import Derived.Test.YtdghdcclhnoigaaGreatDoorXG04f
section
set_option maxRecDepth 100000
set_option linter.all false
namespace Go.Proofs.Tryz
open Go Go.Sx
noncomputable def lx11 (F : Nat) : Lx := { ext := [(16, (pc16 F).sm), (17, (pc17 F).sm), (18, (pc18 F).sm), (22, (pc22 F).sm), (37, (pc37 F).sm), (59, (pc59 F).sm), (60, (pc60 F).sm), (20, (pc20 F).sm), (15, (pc15 F).sm)], anns := [], still := [] }
noncomputable def c11 (F : Nat) (a : List (TEnt) × Int × Int) : Option (Bool) :=
  Option.bind (c15 F a.1) fun (v65 : List (TEnt)) => Option.bind (Option.bind (c17 F (v65, (24 : Int))) fun (v91 : Bool) => bif !v91 then (some (true)) else (Option.bind (c18 F v65) fun (v92 : Int) => bif !decide (v92 = (0 : Int)) then (some (true)) else (Option.bind (c22 F (a.2.1, (↑(List.length a.1) : Int))) fun (v93 : Int) => some (!decide (v93 = (0 : Int)))))) fun (v66 : Bool) => bif v66 then (some (true)) else (Option.bind (c20 F (a.1, a.2.1)) fun (v67 : List Int × Int) => Option.bind (bif !decide (v67.2 = (0 : Int)) then (some (true)) else (Option.bind (c37 F ((↑(List.length a.1) : Int), v67.1 :: nilT (List Int))) fun (v90 : Int) => some (!decide (v90 = (0 : Int))))) fun (v68 : Bool) => bif v68 then (some (false)) else (gd (decide ((↑(List.length a.1) : Int) ≤ (↑(List.length a.1) : Int))) (gd (decide ((↑(8 : Nat) : Int) * (↑(List.length a.1) : Int) ≤ (281474976710656 : Int))) (gd (decide ((↑(List.length a.1) : Int) ≤ (9223372036854775807 : Int))) (Option.bind (c59 F (a.2.1, (↑(List.length a.1) : Int))) fun (v69 : List Int) => Option.bind (loopO (σ := List Int × Int) (β := List Int) (fun (v89 : List Int × Int) => bif decide (v89.2 < (↑(List.length v69) : Int)) then (gd (decide ((0 : Int) ≤ v89.2)) (gd (decide (v89.2 < (↑(List.length v69) : Int))) (gd (decide (Int.toNat v89.2 < List.length v69)) (gd (decide ((0 : Int) ≤ List.getD v69 (Int.toNat v89.2) (0 : Int))) (gd (decide (List.getD v69 (Int.toNat v89.2) (0 : Int) < (↑(Int.toNat (↑(List.length a.1) : Int)) : Int))) (gd (decide ((0 : Nat) + Int.toNat (List.getD v69 (Int.toNat v89.2) (0 : Int)) < List.length v89.1)) (some (Sum.inl (List.set v89.1 ((0 : Nat) + Int.toNat (List.getD v69 (Int.toNat v89.2) (0 : Int))) v89.2, w64 (v89.2 + (1 : Int))))))))))) else (some (Sum.inr v89.1))) F ((List.replicate (Int.toNat (↑(List.length a.1) : Int)) (0 : Int), (0 : Int)))) fun (v70 : List Int) => Option.bind (loopO (σ := Int) (β := Bool ⊕ Unit) (fun (v86 : Int) => bif decide (v86 < (↑(List.length v67.1) : Int)) then (gd (decide ((0 : Int) ≤ v86)) (gd (decide (v86 < (↑(List.length v67.1) : Int))) (gd (decide (Int.toNat v86 < List.length v67.1)) (gd (decide ((0 : Int) ≤ List.getD v67.1 (Int.toNat v86) (0 : Int))) (gd (decide (List.getD v67.1 (Int.toNat v86) (0 : Int) < (↑(List.length a.1) : Int))) (gd (decide (Int.toNat (List.getD v67.1 (Int.toNat v86) (0 : Int)) < List.length a.1)) (gd (decide ((0 : Int) ≤ w64 (v86 - (1 : Int)))) (gd (decide (w64 (v86 - (1 : Int)) < (↑(List.length v67.1) : Int))) (gd (decide (Int.toNat (w64 (v86 - (1 : Int))) < List.length v67.1)) (gd (decide ((0 : Int) ≤ List.getD v67.1 (Int.toNat (w64 (v86 - (1 : Int)))) (0 : Int))) (gd (decide (List.getD v67.1 (Int.toNat (w64 (v86 - (1 : Int)))) (0 : Int) < (↑(List.length a.1) : Int))) (gd (decide (Int.toNat (List.getD v67.1 (Int.toNat (w64 (v86 - (1 : Int)))) (0 : Int)) < List.length a.1)) (Option.bind (c60 F ((Prod.fst (Prod.snd (Prod.snd (List.getD a.1 (Int.toNat (List.getD v67.1 (Int.toNat v86) (0 : Int))) zEnt))), Prod.fst (Prod.snd (Prod.snd (Prod.snd (List.getD a.1 (Int.toNat (List.getD v67.1 (Int.toNat v86) (0 : Int))) zEnt)))), Prod.snd (Prod.snd (Prod.snd (Prod.snd (List.getD a.1 (Int.toNat (List.getD v67.1 (Int.toNat v86) (0 : Int))) zEnt))))), Prod.fst (Prod.snd (Prod.snd (List.getD a.1 (Int.toNat (List.getD v67.1 (Int.toNat (w64 (v86 - (1 : Int)))) (0 : Int))) zEnt))), Prod.fst (Prod.snd (Prod.snd (Prod.snd (List.getD a.1 (Int.toNat (List.getD v67.1 (Int.toNat (w64 (v86 - (1 : Int)))) (0 : Int))) zEnt)))), Prod.snd (Prod.snd (Prod.snd (Prod.snd (List.getD a.1 (Int.toNat (List.getD v67.1 (Int.toNat (w64 (v86 - (1 : Int)))) (0 : Int))) zEnt)))))) fun (v87 : Int) => Option.bind (bif decide (v87 < (0 : Int)) then (some (true)) else (bif decide (v87 = (0 : Int)) then (gd (decide ((0 : Int) ≤ v86)) (gd (decide (v86 < (↑(List.length v67.1) : Int))) (gd (decide (Int.toNat v86 < List.length v67.1)) (gd (decide ((0 : Int) ≤ List.getD v67.1 (Int.toNat v86) (0 : Int))) (gd (decide (List.getD v67.1 (Int.toNat v86) (0 : Int) < (↑(Int.toNat (↑(List.length a.1) : Int)) : Int))) (gd (decide ((0 : Nat) + Int.toNat (List.getD v67.1 (Int.toNat v86) (0 : Int)) < List.length v70)) (gd (decide ((0 : Int) ≤ w64 (v86 - (1 : Int)))) (gd (decide (w64 (v86 - (1 : Int)) < (↑(List.length v67.1) : Int))) (gd (decide (Int.toNat (w64 (v86 - (1 : Int))) < List.length v67.1)) (gd (decide ((0 : Int) ≤ List.getD v67.1 (Int.toNat (w64 (v86 - (1 : Int)))) (0 : Int))) (gd (decide (List.getD v67.1 (Int.toNat (w64 (v86 - (1 : Int)))) (0 : Int) < (↑(Int.toNat (↑(List.length a.1) : Int)) : Int))) (gd (decide ((0 : Nat) + Int.toNat (List.getD v67.1 (Int.toNat (w64 (v86 - (1 : Int)))) (0 : Int)) < List.length v70)) (some (decide (List.getD v70 ((0 : Nat) + Int.toNat (List.getD v67.1 (Int.toNat v86) (0 : Int))) (0 : Int) < List.getD v70 ((0 : Nat) + Int.toNat (List.getD v67.1 (Int.toNat (w64 (v86 - (1 : Int)))) (0 : Int))) (0 : Int)))))))))))))))) else (some (false)))) fun (v88 : Bool) => bif v88 then (some (Sum.inr (Sum.inl false))) else (some (Sum.inl (w64 (v86 + (1 : Int)))))))))))))))))) else (some (Sum.inr (Sum.inr ())))) F ((1 : Int))) fun (v71 : Bool ⊕ Unit) => Sum.elim (fun (v72 : Bool) => some (v72)) (fun (v73 : Unit) => bif decide ((↑(List.length a.1) : Int) = (0 : Int)) then (some (true)) else (gd (decide ((↑(List.length a.1) : Int) ≠ (0 : Int))) (gd (decide (List.length (nilT (TEnt) ++ a.1) * (72 : Nat) ≤ (140737488355328 : Nat))) (gd (decide (List.length (nilT (TEnt) ++ a.1) ≤ (9223372036854775807 : Nat))) (gd (decide ((0 : Int) ≤ Int.tmod (Go.IntKind.wrap Go.IntKind.i64 a.2.2) (↑(List.length a.1) : Int))) (gd (decide (Int.tmod (Go.IntKind.wrap Go.IntKind.i64 a.2.2) (↑(List.length a.1) : Int) < (↑(List.length (nilT (TEnt) ++ a.1)) : Int))) (gd (decide ((0 : Nat) + Int.toNat (Int.tmod (Go.IntKind.wrap Go.IntKind.i64 a.2.2) (↑(List.length a.1) : Int)) < List.length (nilT (TEnt) ++ a.1))) (Option.bind (bif strEq (Prod.fst (Prod.snd (Prod.snd (List.getD (nilT (TEnt) ++ a.1) ((0 : Nat) + Int.toNat (Int.tmod (Go.IntKind.wrap Go.IntKind.i64 a.2.2) (↑(List.length a.1) : Int))) zEnt)))) { data := List.toArray ((116 : UInt8) :: (105 : UInt8) :: (109 : UInt8) :: (101 : UInt8) :: nilT UInt8) } then (gd (decide ((0 : Int) ≤ Int.tmod (Go.IntKind.wrap Go.IntKind.i64 a.2.2) (↑(List.length a.1) : Int))) (gd (decide (Int.tmod (Go.IntKind.wrap Go.IntKind.i64 a.2.2) (↑(List.length a.1) : Int) < (↑(List.length (nilT (TEnt) ++ a.1)) : Int))) (gd (decide ((0 : Nat) + Int.toNat (Int.tmod (Go.IntKind.wrap Go.IntKind.i64 a.2.2) (↑(List.length a.1) : Int)) < List.length (nilT (TEnt) ++ a.1))) (gd (decide ((0 : Int) ≤ Int.tmod (Go.IntKind.wrap Go.IntKind.i64 a.2.2) (↑(List.length a.1) : Int))) (gd (decide (Int.tmod (Go.IntKind.wrap Go.IntKind.i64 a.2.2) (↑(List.length a.1) : Int) < (↑(List.length (nilT (TEnt) ++ a.1)) : Int))) (gd (decide ((0 : Nat) + Int.toNat (Int.tmod (Go.IntKind.wrap Go.IntKind.i64 a.2.2) (↑(List.length a.1) : Int)) < List.length (nilT (TEnt) ++ a.1))) (some (Sum.inl (List.set (nilT (TEnt) ++ a.1) ((0 : Nat) + Int.toNat (Int.tmod (Go.IntKind.wrap Go.IntKind.i64 a.2.2) (↑(List.length a.1) : Int))) (Prod.fst (List.getD (nilT (TEnt) ++ a.1) ((0 : Nat) + Int.toNat (Int.tmod (Go.IntKind.wrap Go.IntKind.i64 a.2.2) (↑(List.length a.1) : Int))) zEnt), Prod.fst (Prod.snd (List.getD (nilT (TEnt) ++ a.1) ((0 : Nat) + Int.toNat (Int.tmod (Go.IntKind.wrap Go.IntKind.i64 a.2.2) (↑(List.length a.1) : Int))) zEnt)), Prod.fst (Prod.snd (Prod.snd (List.getD (nilT (TEnt) ++ a.1) ((0 : Nat) + Int.toNat (Int.tmod (Go.IntKind.wrap Go.IntKind.i64 a.2.2) (↑(List.length a.1) : Int))) zEnt))), if (1 : Int) < w64 (Prod.fst (Prod.snd (Prod.snd (Prod.snd (List.getD (nilT (TEnt) ++ a.1) ((0 : Nat) + Int.toNat (Int.tmod (Go.IntKind.wrap Go.IntKind.i64 a.2.2) (↑(List.length a.1) : Int))) zEnt)))) - Go.IntKind.wrap Go.IntKind.i64 a.2.2) then w64 (Prod.fst (Prod.snd (Prod.snd (Prod.snd (List.getD (nilT (TEnt) ++ a.1) ((0 : Nat) + Int.toNat (Int.tmod (Go.IntKind.wrap Go.IntKind.i64 a.2.2) (↑(List.length a.1) : Int))) zEnt)))) - Go.IntKind.wrap Go.IntKind.i64 a.2.2) else (1 : Int), Prod.snd (Prod.snd (Prod.snd (Prod.snd (List.getD (nilT (TEnt) ++ a.1) ((0 : Nat) + Int.toNat (Int.tmod (Go.IntKind.wrap Go.IntKind.i64 a.2.2) (↑(List.length a.1) : Int))) zEnt)))))))))))))) else (bif strEq (Prod.fst (Prod.snd (Prod.snd (List.getD (nilT (TEnt) ++ a.1) ((0 : Nat) + Int.toNat (Int.tmod (Go.IntKind.wrap Go.IntKind.i64 a.2.2) (↑(List.length a.1) : Int))) zEnt)))) { data := List.toArray ((110 : UInt8) :: (111 : UInt8) :: (110 : UInt8) :: (101 : UInt8) :: nilT UInt8) } then (some (Sum.inr (nilT (TEnt) ++ a.1, true))) else (gd (decide ((0 : Int) ≤ Int.tmod (Go.IntKind.wrap Go.IntKind.i64 a.2.2) (↑(List.length a.1) : Int))) (gd (decide (Int.tmod (Go.IntKind.wrap Go.IntKind.i64 a.2.2) (↑(List.length a.1) : Int) < (↑(List.length (nilT (TEnt) ++ a.1)) : Int))) (gd (decide ((0 : Nat) + Int.toNat (Int.tmod (Go.IntKind.wrap Go.IntKind.i64 a.2.2) (↑(List.length a.1) : Int)) < List.length (nilT (TEnt) ++ a.1))) (gd (decide ((0 : Int) ≤ Int.tmod (Go.IntKind.wrap Go.IntKind.i64 a.2.2) (↑(List.length a.1) : Int))) (gd (decide (Int.tmod (Go.IntKind.wrap Go.IntKind.i64 a.2.2) (↑(List.length a.1) : Int) < (↑(List.length (nilT (TEnt) ++ a.1)) : Int))) (gd (decide ((0 : Nat) + Int.toNat (Int.tmod (Go.IntKind.wrap Go.IntKind.i64 a.2.2) (↑(List.length a.1) : Int)) < List.length (nilT (TEnt) ++ a.1))) (some (Sum.inl (List.set (nilT (TEnt) ++ a.1) ((0 : Nat) + Int.toNat (Int.tmod (Go.IntKind.wrap Go.IntKind.i64 a.2.2) (↑(List.length a.1) : Int))) (Prod.fst (List.getD (nilT (TEnt) ++ a.1) ((0 : Nat) + Int.toNat (Int.tmod (Go.IntKind.wrap Go.IntKind.i64 a.2.2) (↑(List.length a.1) : Int))) zEnt), Prod.fst (Prod.snd (List.getD (nilT (TEnt) ++ a.1) ((0 : Nat) + Int.toNat (Int.tmod (Go.IntKind.wrap Go.IntKind.i64 a.2.2) (↑(List.length a.1) : Int))) zEnt)), Prod.fst (Prod.snd (Prod.snd (List.getD (nilT (TEnt) ++ a.1) ((0 : Nat) + Int.toNat (Int.tmod (Go.IntKind.wrap Go.IntKind.i64 a.2.2) (↑(List.length a.1) : Int))) zEnt))), w64 (Prod.fst (Prod.snd (Prod.snd (Prod.snd (List.getD (nilT (TEnt) ++ a.1) ((0 : Nat) + Int.toNat (Int.tmod (Go.IntKind.wrap Go.IntKind.i64 a.2.2) (↑(List.length a.1) : Int))) zEnt)))) + Go.IntKind.wrap Go.IntKind.i64 a.2.2), Prod.snd (Prod.snd (Prod.snd (Prod.snd (List.getD (nilT (TEnt) ++ a.1) ((0 : Nat) + Int.toNat (Int.tmod (Go.IntKind.wrap Go.IntKind.i64 a.2.2) (↑(List.length a.1) : Int))) zEnt)))))))))))))))) fun (v74 : List (TEnt) ⊕ List (TEnt) × Bool) => Sum.elim (fun (v75 : List (TEnt)) => gd (true && (decide (List.length (nilT (TEnt) ++ a.1) = List.length v75) && true && true && true && true && true)) (Option.bind (c15 F v75) fun (v76 : List (TEnt)) => Option.bind (c18 F v76) fun (v77 : Int) => bif !decide (v77 = (0 : Int)) then (some (true)) else (Option.bind (c20 F (v75, a.2.1)) fun (v78 : List Int × Int) => Option.bind (bif !decide (v78.2 = (0 : Int)) then (some (true)) else (Option.bind (c37 F ((↑(List.length a.1) : Int), v78.1 :: nilT (List Int))) fun (v84 : Int) => some (!decide (v84 = (0 : Int))))) fun (v79 : Bool) => bif v79 then (some (false)) else (Option.bind (loopO (σ := Int × Int × Int) (β := Int × Int) (fun (v81 : Int × Int × Int) => bif decide (v81.2.2 < (↑(List.length v67.1) : Int)) then (gd (decide ((0 : Int) ≤ v81.2.2)) (gd (decide (v81.2.2 < (↑(List.length v67.1) : Int))) (gd (decide (Int.toNat v81.2.2 < List.length v67.1)) (Option.bind (bif decide (List.getD v67.1 (Int.toNat v81.2.2) (0 : Int) = Int.tmod (Go.IntKind.wrap Go.IntKind.i64 a.2.2) (↑(List.length a.1) : Int)) then (some v81.2.2) else (some v81.1)) fun (v82 : Int) => gd (decide ((0 : Int) ≤ v81.2.2)) (gd (decide (v81.2.2 < (↑(List.length v78.1) : Int))) (gd (decide (Int.toNat v81.2.2 < List.length v78.1)) (Option.bind (bif decide (List.getD v78.1 (Int.toNat v81.2.2) (0 : Int) = Int.tmod (Go.IntKind.wrap Go.IntKind.i64 a.2.2) (↑(List.length a.1) : Int)) then (some v81.2.2) else (some v81.2.1)) fun (v83 : Int) => some (Sum.inl (v82, v83, w64 (v81.2.2 + (1 : Int))))))))))) else (some (Sum.inr (v81.1, v81.2.1)))) F (((0 : Int), (0 : Int), (0 : Int)))) fun (v80 : Int × Int) => some (decide (v80.2 ≤ v80.1)))))) (fun (v85 : List (TEnt) × Bool) => some v85.2) (v74))))))))) (v71))))))
noncomputable def pc11 (F : Nat) : PC := { ats := [.val (.seq [.str, .str, .str, .int .i64, .str]), .val (.int .i64), .val (.int .u8)], rts := [.val (.bool)], code := c11 F }
theorem lx11_ok (F : Nat) : (lx11 F).Ok cx := Lx.ok_cons (PC.sm_ok (pc16_ok F)) (Lx.ok_cons (PC.sm_ok (pc17_ok F)) (Lx.ok_cons (PC.sm_ok (pc18_ok F)) (Lx.ok_cons (PC.sm_ok (pc22_ok F)) (Lx.ok_cons (PC.sm_ok (pc37_ok F)) (Lx.ok_cons (PC.sm_ok (pc59_ok F)) (Lx.ok_cons (PC.sm_ok (pc60_ok F)) (Lx.ok_cons (PC.sm_ok (pc20_ok F)) (Lx.ok_cons (PC.sm_ok (pc15_ok F)) (Lx.ok_nil)))))))))
def an11 (F : Nat) : Ann := .two .leaf (.two .leaf (.two (.two (.join [(.normal, ⟨[.slot 42 (.val (.bool))], []⟩)] ⟨[42, 41, 40, 39, 38, 37, 36, 35, 34, 33, 32, 31, 30, 29, 28, 27, 26, 25, 24], [], []⟩ .leaf) .leaf) (.two .leaf (.two (.two (.join [(.normal, ⟨[.slot 59 (.val (.bool))], []⟩)] ⟨[59, 58, 57, 56, 55, 54, 53, 52, 51, 50], [], []⟩ .leaf) .leaf) (.two .leaf (.two (.two .leaf (.one (.loop ⟨[.vec 0 3 [.int .i64], .slot 68 (.val (.int .i64))], []⟩ [(.exit 0, ⟨[.vec 0 3 [.int .i64]], []⟩)] ⟨[77, 68, 73, 74, 75, 76, 12, 11, 72, 71, 70, 69], [0], []⟩ F .leaf))) (.two (.two .leaf (.one (.loop ⟨[.slot 13 (.val (.int .i64))], []⟩ [(.ret, ⟨[.slot 6 (.val (.bool))], []⟩), (.exit 2, ⟨[], []⟩)] ⟨[84, 85, 86, 87, 88, 89, 90, 91, 92, 93, 94, 95, 96, 97, 98, 99, 100, 101, 14, 6, 125, 124, 123, 122, 121, 120, 119, 118, 117, 116, 115, 114, 113, 112, 111, 110, 109, 108, 107, 106, 105, 104, 103, 102, 13, 83, 82, 81, 80, 79, 78], [], []⟩ F (.two .leaf (.two (.one (.two .leaf (.two (.join [(.normal, ⟨[.slot 125 (.val (.bool))], []⟩)] ⟨[125, 124, 123, 122, 121, 120, 119, 118, 117, 116, 115, 114, 113, 112, 111, 110, 109, 108, 107, 106, 105, 104, 103, 102], [], []⟩ .leaf) .leaf))) .leaf))))) (.two .leaf (.two .leaf (.two .leaf (.two (.two .leaf (.one (.two .leaf (.join [(.normal, ⟨[.vec 1 101 [.str, .str, .str, .int .i64, .str]], []⟩), (.ret, ⟨[.vec 1 101 [.str, .str, .str, .int .i64, .str], .slot 6 (.val (.bool))], []⟩)] ⟨[173, 172, 143, 144, 145, 146, 147, 148, 149, 150, 151, 152, 153, 154, 6, 171, 170, 169, 168, 167, 166, 165, 164, 163, 162, 161, 160, 159, 158, 157], [1], []⟩ .leaf)))) (.two (.two (.weak 1 [16] (.sealing 1 101 [.str, .str, .str, .int .i64, .str] .leaf)) .leaf) (.two .leaf (.two (.two (.join [(.normal, ⟨[.slot 193 (.val (.bool))], []⟩)] ⟨[193, 192, 191, 190, 189, 188, 187, 186, 185, 184], [], []⟩ .leaf) .leaf) (.two .leaf (.two (.two .leaf (.one (.loop ⟨[.slot 19 (.val (.int .i64)), .slot 20 (.val (.int .i64)), .slot 196 (.val (.int .i64))], []⟩ [(.exit 5, ⟨[.slot 19 (.val (.int .i64)), .slot 20 (.val (.int .i64))], []⟩)] ⟨[213, 196, 199, 200, 201, 202, 203, 204, 19, 205, 212, 20, 211, 210, 209, 208, 207, 206, 21, 198, 197], [], []⟩ F (.two .leaf (.two .leaf (.two (.one (.two .leaf (.two (.two .leaf (.join [(.normal, ⟨[.slot 19 (.val (.int .i64))], []⟩)] ⟨[19, 205], [], []⟩ .leaf)) (.two .leaf (.join [(.normal, ⟨[.slot 20 (.val (.int .i64))], []⟩)] ⟨[20, 212], [], []⟩ .leaf))))) .leaf)))))) .leaf))))))))))))))))
theorem c11_eq (F : Nat) (a : List (TEnt) × Int × Int) : codeOf cx (lx11 F) 1000 (an11 F) f11 (bodyOf f11) [.val (.seq [.str, .str, .str, .int .i64, .str]), .val (.int .i64), .val (.int .u8)] [.val (.bool)] a = c11 F a := by kernel_rfl
theorem pc11_ok (F : Nat) : PCOk cx 11 (pc11 F) := PCOk.of_eval cx_ok (lx11_ok F) (n := 1000) (an := an11 F) (fn := f11) (c := bodyOf f11) (by kernel_rfl) (by kernel_rfl) (fun a y h => (c11_eq F a).trans h) (by kernel_rfl)
end Go.Proofs.Tryz
end
section
set_option maxRecDepth 100000
set_option linter.all false
namespace Go.Proofs.Tryz
open Go Go.Sx
theorem formI_go {n : Nat} : ∀ (g s : List Int), (∀ x ∈ g, InE n x) → (g ++ s).Nodup → goL (formI n) .inl g s = (.inl (g.reverse ++ s) : List Int ⊕ Int)
  | [], s, _, _ => rfl
  | x :: g, s, h, hn => by
    have hx := h x List.mem_cons_self
    have hxs : x ∉ s := fun hm => by
      rw [List.cons_append, List.nodup_cons] at hn
      exact hn.1 (List.mem_append_right _ hm)
    rw [goL_cons, formI, if_neg (by have h1 := hx.1; have h2 := hx.2; omega), if_neg hxs]
    simp only
    rw [formI_go g (x :: s) (fun y hy => h y (List.mem_cons_of_mem _ hy)) (by
      have : (g ++ x :: s).Perm (x :: (g ++ s)) := List.perm_middle
      exact this.nodup_iff.2 hn)]
    simp
theorem form_one {n : Nat} {L : List Int} (h : L.Perm (ids n)) : formS n [L] = 0 := by
  unfold formS
  rw [if_neg (by simp), if_neg (by simp), goL_cons, formG]
  rw [formI_go L [] (fun x hx => mem_ids.1 (h.mem_iff.1 hx)) (by rw [List.append_nil]; exact h.nodup_iff.2 (ids_nodup n))]
  simp only [goL_nil, List.append_nil, List.length_reverse, h.length_eq, ids_length, Nat.lt_irrefl, if_false]
theorem l20 {F : Nat} (hF : 400 ≤ F) {l : List Ent} (hl : l.length ≤ 300) (hS : ∀ x ∈ l, EntS x) {key : Int} : c20 F (l, key) = some (if entC l ≠ 0 then ([], entC l) else if drawE key l.length ≠ 0 then ([], 3) else (ordE l key, 0)) := by
  unfold c20
  simp only [l79 hF hl hS, Option.bind_some]
theorem ord_perm {l : List Ent} (h : EntOk l) {key : Int} (h1 : 1 ≤ key) (h2 : key < 2147483647) : (ordE l key).Perm (ids l.length) :=
  ((ordE_stab (F := 400) (by omega) h h1 h2).2.1).trans (drawS_perm (by omega) h2 _)
theorem drawn_loop {F : Nat} {d : List Int} {n : Nat} {γ : Type} {k : List Int → Option γ} {P : γ → Prop} (hd : d.Nodup) (hD : ∀ x ∈ d, InE n x) (hn : n < 1000) (hF : d.length < F)
    (hk : ∀ D : List Int, D.length = n → (∀ (m : Nat) (y : Int), d[m]? = some y → D.getD y.toNat 0 = m) → ∃ r, k D = some r ∧ P r) :
    ∃ r, Option.bind (loopO (σ := List Int × Int) (β := List Int) (fun v => bif decide (v.2 < (d.length : Int)) then (gd (decide ((0 : Int) ≤ v.2)) <| gd (decide (v.2 < (d.length : Int))) <| gd (decide (v.2.toNat < d.length)) <| gd (decide ((0 : Int) ≤ d.getD v.2.toNat 0)) <| gd (decide (d.getD v.2.toNat 0 < ((n : Int).toNat : Int))) <| gd (decide (0 + (d.getD v.2.toNat 0).toNat < v.1.length)) <| some (.inl (v.1.set (0 + (d.getD v.2.toNat 0).toNat) v.2, w64 (v.2 + 1)))) else some (.inr v.1)) F (List.replicate (n : Int).toNat 0, 0)) k = some r ∧ P r := by
  have hdn : d.length ≤ n := by
    have := nodup_sub d (ids n) hd fun x hx => mem_ids.2 (hD x hx)
    rwa [ids_length] at this
  refine bind_inv (fun v => ∃ i : Nat, v.2 = i ∧ i ≤ d.length ∧ v.1.length = n ∧ ∀ (m : Nat) (y : Int), m < i → d[m]? = some y → v.1.getD y.toNat 0 = m) (fun v => d.length - v.2.toNat)
    (fun D => D.length = n ∧ ∀ (m : Nat) (y : Int), d[m]? = some y → D.getD y.toNat 0 = m) ?_ ⟨0, rfl, Nat.zero_le _, by simp, fun m y h => by omega⟩ (by simp; omega) (fun D h => hk D h.1 h.2)
  rintro ⟨D, v⟩ ⟨i, hv, hi, hl, hm⟩
  simp only at hv hl hm
  subst hv
  by_cases h : i < d.length
  · left
    have hx : d[i]? = some d[i] := List.getElem?_eq_getElem h
    generalize d[i] = x at hx
    have hxm := hD x (List.mem_of_getElem? hx)
    have a1 := hxm.1
    have a2 := hxm.2
    simp (disch := omega) only [cd_pos, Int.toNat_natCast, getD_some hx, gd_dec, Nat.zero_add]
    refine ⟨_, rfl, ⟨i + 1, by rw [w64_in (by omega) (by omega)]; rfl, by omega, by simp [hl], fun m y hmi hy => ?_⟩, by show d.length - (w64 ((i : Int) + 1)).toNat < d.length - ((i : Int)).toNat; rw [w64_in (by omega) (by omega)]; omega⟩
    by_cases e : m = i
    · subst e
      rw [hx] at hy; cases hy
      have : x.toNat < D.length := by omega
      simp [List.getD_eq_getElem?_getD, this]
    · have hne : x.toNat ≠ y.toNat := fun q => by
        have hym := hD y (List.mem_of_getElem? hy)
        have h1 := hym.1
        have : x = y := by omega
        subst this
        exact e ((List.getElem?_inj (List.getElem?_eq_some_iff.1 hy).1 hd).1 (hy.trans hx.symm))
      have := hm m y (by omega) hy
      simp only [List.getD_eq_getElem?_getD, List.getElem?_set, hne, if_false] at this ⊢
      exact this
  · right
    simp (disch := omega) only [cd_neg]
    exact ⟨D, rfl, hl, fun m y hy => hm m y (by have := (List.getElem?_eq_some_iff.1 hy).1; omega) hy⟩
theorem where_loop {F : Nat} {L M : List Int} {k : Int} {p q n : Nat} {γ : Type} {f : Int × Int → Option γ} {P : γ → Prop} (hL : L.length = n) (hM : M.length = n) (hLn : L.Nodup) (hMn : M.Nodup) (hp : L[p]? = some k) (hq : M[q]? = some k) (hn : n < 1000) (hF : n < F)
    (hk : ∃ r, f ((p : Int), (q : Int)) = some r ∧ P r) :
    ∃ r, Option.bind (loopO (σ := Int × Int × Int) (β := Int × Int) (fun v => bif decide (v.2.2 < (L.length : Int)) then gd (decide ((0 : Int) ≤ v.2.2)) (gd (decide (v.2.2 < (L.length : Int))) (gd (decide (v.2.2.toNat < L.length))
      (Option.bind (bif decide (L.getD v.2.2.toNat 0 = k) then some v.2.2 else some v.1) fun (a : Int) => gd (decide ((0 : Int) ≤ v.2.2)) (gd (decide (v.2.2 < (M.length : Int))) (gd (decide (v.2.2.toNat < M.length))
      (Option.bind (bif decide (M.getD v.2.2.toNat 0 = k) then some v.2.2 else some v.2.1) fun (b : Int) => some (.inl (a, b, w64 (v.2.2 + 1))))))))) else some (.inr (v.1, v.2.1))) F (0, 0, 0)) f = some r ∧ P r := by
  have hpl := (List.getElem?_eq_some_iff.1 hp).1
  have hql := (List.getElem?_eq_some_iff.1 hq).1
  refine bind_inv (fun v => ∃ i : Nat, v.2.2 = i ∧ i ≤ n ∧ v.1 = (if p < i then (p : Int) else 0) ∧ v.2.1 = (if q < i then (q : Int) else 0)) (fun v => n - v.2.2.toNat)
    (fun b => b = ((p : Int), (q : Int))) ?_ ⟨0, rfl, Nat.zero_le _, by simp, by simp⟩ (by simp; omega) (fun b hb => by rw [hb]; exact hk)
  rintro ⟨a, b, v⟩ ⟨i, hv, hi, ha, hb⟩
  simp only at hv ha hb
  subst hv
  by_cases h : i < n
  · left
    have hx : L[i]? = some (L[i]'(by omega)) := List.getElem?_eq_getElem (by omega)
    have hy : M[i]? = some (M[i]'(by omega)) := List.getElem?_eq_getElem (by omega)
    generalize L[i]'(by omega) = x at hx
    generalize M[i]'(by omega) = y at hy
    have ex : x = k ↔ i = p := ⟨fun e => (List.getElem?_inj (by omega) hLn).1 (hx.trans (by rw [e]; exact hp.symm)), fun e => by subst e; rw [hp] at hx; cases hx; rfl⟩
    have ey : y = k ↔ i = q := ⟨fun e => (List.getElem?_inj (by omega) hMn).1 (hy.trans (by rw [e]; exact hq.symm)), fun e => by subst e; rw [hq] at hy; cases hy; rfl⟩
    have e1 : (bif decide (x = k) then some (i : Int) else some a) = some (if p < i + 1 then (p : Int) else 0) := by
      by_cases q : i = p
      · rw [cd_pos (ex.2 q), if_pos (by omega), q]
      · rw [cd_neg (fun e => q (ex.1 e)), ha]
        by_cases q2 : p < i
        · rw [if_pos q2, if_pos (by omega)]
        · rw [if_neg q2, if_neg (by omega)]
    have e2 : (bif decide (y = k) then some (i : Int) else some b) = some (if q < i + 1 then (q : Int) else 0) := by
      by_cases q' : i = q
      · rw [cd_pos (ey.2 q'), if_pos (by omega), q']
      · rw [cd_neg (fun e => q' (ey.1 e)), hb]
        by_cases q2 : q < i
        · rw [if_pos q2, if_pos (by omega)]
        · rw [if_neg q2, if_neg (by omega)]
    simp (disch := omega) only [cd_pos, Int.toNat_natCast, getD_some hx, getD_some hy, gd_dec, e1, e2, Option.bind_some]
    exact ⟨_, rfl, ⟨i + 1, by rw [w64_in (by omega) (by omega)]; rfl, by omega, rfl, rfl⟩, by show n - (w64 ((i : Int) + 1)).toNat < n - ((i : Int)).toNat; rw [w64_in (by omega) (by omega)]; omega⟩
  · right
    simp (disch := omega) only [cd_neg]
    exact ⟨_, rfl, by rw [ha, hb, if_pos (by omega), if_pos (by omega)]⟩
end Go.Proofs.Tryz
end

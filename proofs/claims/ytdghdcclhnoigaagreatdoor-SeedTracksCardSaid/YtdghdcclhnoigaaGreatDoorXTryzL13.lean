/- Functions of the program as functions of data. By program. SeedTracks: the chart and the numbers, computed for all sizes. Plain law of SeedTracks. -/
import Derived.Test.YtdghdcclhnoigaaGreatDoorXP8d
section
set_option maxRecDepth 100000
set_option linter.all false
namespace Go.Proofs.Tryz
open Go Go.Sx
noncomputable def lx13 (F : Nat) : Lx := { ext := [(55, (pc55 F).sm), (54, (pc54 F).sm), (44, (pc44 F).sm), (42, (pc42 F).sm), (31, (pc31 F).sm), (16, (pc16 F).sm)], anns := [], still := [] }
noncomputable def c13 (F : Nat) (a : List (List Int) × Int × Int) : Option (Bool) :=
  Option.bind (Option.bind (Go.Proofs.Tryz.c31 F (Prod.fst a, (10 : Int), (10 : Int))) fun (v90 : Bool) => bif v90 then (some (Bool.true)) else (Option.bind (Go.Proofs.Tryz.c42 F (Prod.fst a)) fun (v91 : Int) => bif !Decidable.decide (v91 = (0 : Int)) then (some (Bool.true)) else (bif Decidable.decide (Prod.snd (Prod.snd a) < (1 : Int)) then (some (Bool.true)) else (bif Decidable.decide ((1000000 : Int) < Prod.snd (Prod.snd a)) then (some (Bool.true)) else (bif Decidable.decide (Prod.fst (Prod.snd a) < (0 : Int)) then (some (Bool.true)) else (some (Decidable.decide ((160 : Int) < Prod.fst (Prod.snd a))))))))) fun (v62 : Bool) => bif v62 then (some (Bool.true)) else (Option.bind (loopO (σ := Int × Int) (β := Int) (fun (v89 : Int × Int) => bif Decidable.decide (Prod.snd v89 < (↑(List.length (Prod.fst a)) : Int)) then (gd (Decidable.decide ((0 : Int) ≤ Prod.snd v89)) (gd (Decidable.decide (Prod.snd v89 < (↑(List.length (Prod.fst a)) : Int))) (gd (Decidable.decide (Int.toNat (Prod.snd v89) < List.length (Prod.fst a))) (some (Sum.inl (Go.Sx.w64 (Prod.fst v89 + (↑(List.length (List.getD (Prod.fst a) (Int.toNat (Prod.snd v89)) (Go.Sx.nilT Int))) : Int)), Go.Sx.w64 (Prod.snd v89 + (1 : Int)))))))) else (some (Sum.inr (Prod.fst v89)))) F (((0 : Int), (0 : Int)))) fun (v63 : Int) => Option.bind (Go.Proofs.Tryz.c44 F (Prod.fst a, Decidable.rec (fun h ↦ (fun x ↦ Prod.fst (Prod.snd a)) h) (fun h ↦ (fun x ↦ v63) h) (Int.decLt v63 (Prod.fst (Prod.snd a))), Prod.snd (Prod.snd a))) fun (v64 : List Int × Int) => Option.bind (bif !Decidable.decide (Prod.snd v64 = (0 : Int)) then (some (Bool.true)) else (some (!Decidable.decide ((↑(List.length (Prod.fst v64)) : Int) = Decidable.rec (fun h ↦ (fun x ↦ Prod.fst (Prod.snd a)) h) (fun h ↦ (fun x ↦ v63) h) (Int.decLt v63 (Prod.fst (Prod.snd a))))))) fun (v65 : Bool) => bif v65 then (some (Bool.false)) else (Option.bind (loopO (σ := Int × Int) (β := Bool ⊕ Unit) (fun (v78 : Int × Int) => bif Decidable.decide (Prod.snd v78 < (↑(List.length (Prod.fst a)) : Int)) then (gd (Decidable.decide ((0 : Int) ≤ Prod.snd v78)) (gd (Decidable.decide (Prod.snd v78 < (↑(List.length (Prod.fst a)) : Int))) (gd (Decidable.decide (Int.toNat (Prod.snd v78) < List.length (Prod.fst a))) (Option.bind (loopO (σ := Int) (β := Unit ⊕ Bool) (fun (v82 : Int) => bif Decidable.decide (v82 < (↑(List.length (List.getD (Prod.fst a) (Int.toNat (Prod.snd v78)) (Go.Sx.nilT Int))) : Int)) then (bif Decidable.decide (Decidable.rec (fun h ↦ (fun x ↦ Prod.fst (Prod.snd a)) h) (fun h ↦ (fun x ↦ v63) h) (Int.decLt v63 (Prod.fst (Prod.snd a))) ≤ Go.Sx.w64 (Prod.fst v78 + v82)) then (some (Sum.inr (Sum.inl Unit.unit))) else (gd (Decidable.decide ((0 : Int) ≤ Prod.snd v78)) (gd (Decidable.decide (Prod.snd v78 < (↑(List.length (Prod.fst a)) : Int))) (gd (Decidable.decide (Int.toNat (Prod.snd v78) < List.length (Prod.fst a))) (Option.bind (loopO (σ := Bool × Int) (β := Bool) (fun (v87 : Bool × Int) => bif Decidable.decide (Prod.snd v87 < (↑(List.length (List.getD (Prod.fst a) (Int.toNat (Prod.snd v78)) (Go.Sx.nilT Int))) : Int)) then (Option.bind (bif Prod.fst v87 then (some (Bool.true)) else (gd (Decidable.decide ((0 : Int) ≤ Prod.snd v78)) (gd (Decidable.decide (Prod.snd v78 < (↑(List.length (Prod.fst a)) : Int))) (gd (Decidable.decide (Int.toNat (Prod.snd v78) < List.length (Prod.fst a))) (gd (Decidable.decide ((0 : Int) ≤ Prod.snd v87)) (gd (Decidable.decide (Prod.snd v87 < (↑(List.length (List.getD (Prod.fst a) (Int.toNat (Prod.snd v78)) (Go.Sx.nilT Int))) : Int))) (gd (Decidable.decide (Int.toNat (Prod.snd v87) < List.length (List.getD (Prod.fst a) (Int.toNat (Prod.snd v78)) (Go.Sx.nilT Int)))) (gd (Decidable.decide ((0 : Int) ≤ Go.Sx.w64 (Prod.fst v78 + v82))) (gd (Decidable.decide (Go.Sx.w64 (Prod.fst v78 + v82) < (↑(List.length (Prod.fst v64)) : Int))) (gd (Decidable.decide (Int.toNat (Go.Sx.w64 (Prod.fst v78 + v82)) < List.length (Prod.fst v64))) (some (Decidable.decide (List.getD (List.getD (Prod.fst a) (Int.toNat (Prod.snd v78)) (Go.Sx.nilT Int)) (Int.toNat (Prod.snd v87)) (0 : Int) = List.getD (Prod.fst v64) (Int.toNat (Go.Sx.w64 (Prod.fst v78 + v82))) (0 : Int)))))))))))))) fun (v88 : Bool) => some (Sum.inl (v88, Go.Sx.w64 (Prod.snd v87 + (1 : Int))))) else (some (Sum.inr (Prod.fst v87)))) F ((Bool.false, (0 : Int)))) fun (v83 : Bool) => Option.bind (loopO (σ := Bool × Int) (β := Bool) (fun (v85 : Bool × Int) => bif Decidable.decide (Prod.snd v85 < Go.Sx.w64 (Prod.fst v78 + v82)) then (Option.bind (bif Prod.fst v85 then (gd (Decidable.decide ((0 : Int) ≤ Prod.snd v85)) (gd (Decidable.decide (Prod.snd v85 < (↑(List.length (Prod.fst v64)) : Int))) (gd (Decidable.decide (Int.toNat (Prod.snd v85) < List.length (Prod.fst v64))) (gd (Decidable.decide ((0 : Int) ≤ Go.Sx.w64 (Prod.fst v78 + v82))) (gd (Decidable.decide (Go.Sx.w64 (Prod.fst v78 + v82) < (↑(List.length (Prod.fst v64)) : Int))) (gd (Decidable.decide (Int.toNat (Go.Sx.w64 (Prod.fst v78 + v82)) < List.length (Prod.fst v64))) (some (!Decidable.decide (List.getD (Prod.fst v64) (Int.toNat (Prod.snd v85)) (0 : Int) = List.getD (Prod.fst v64) (Int.toNat (Go.Sx.w64 (Prod.fst v78 + v82))) (0 : Int)))))))))) else (some (Bool.false))) fun (v86 : Bool) => some (Sum.inl (v86, Go.Sx.w64 (Prod.snd v85 + (1 : Int))))) else (some (Sum.inr (Prod.fst v85)))) F ((v83, (0 : Int)))) fun (v84 : Bool) => bif !v84 then (some (Sum.inr (Sum.inr Bool.false))) else (some (Sum.inl (Go.Sx.w64 (v82 + (1 : Int)))))))))) else (some (Sum.inr (Sum.inl Unit.unit)))) F ((0 : Int))) fun (v79 : Unit ⊕ Bool) => Sum.elim (fun (v80 : Unit) => gd (Decidable.decide ((0 : Int) ≤ Prod.snd v78)) (gd (Decidable.decide (Prod.snd v78 < (↑(List.length (Prod.fst a)) : Int))) (gd (Decidable.decide (Int.toNat (Prod.snd v78) < List.length (Prod.fst a))) (some (Sum.inl (Go.Sx.w64 (Prod.fst v78 + (↑(List.length (List.getD (Prod.fst a) (Int.toNat (Prod.snd v78)) (Go.Sx.nilT Int))) : Int)), Go.Sx.w64 (Prod.snd v78 + (1 : Int)))))))) (fun (v81 : Bool) => some (Sum.inr (Sum.inl v81))) (v79))))) else (some (Sum.inr (Sum.inr Unit.unit)))) F (((0 : Int), (0 : Int)))) fun (v66 : Bool ⊕ Unit) => Sum.elim (fun (v67 : Bool) => some (v67)) (fun (v68 : Unit) => Option.bind (Go.Proofs.Tryz.c54 F (Prod.fst (Prod.snd a), v63)) fun (v69 : List (Int × Int × Int) × Int) => bif !Decidable.decide (Prod.snd v69 = (0 : Int)) then (Option.bind (bif Decidable.decide (Prod.snd v69 = (5 : Int)) then (some (Decidable.decide (Go.Sx.w64 ((16 : Int) * v63) < Prod.fst (Prod.snd a)))) else (some (Bool.false))) fun (v70 : Bool) => some (v70)) else (bif Decidable.decide (Prod.fst (Prod.snd a) = (0 : Int)) then (some (Decidable.decide ((↑(List.length (Prod.fst v69)) : Int) = (0 : Int)))) else (Option.bind (Go.Proofs.Tryz.c55 F (Prod.fst (Prod.snd a), v63, Prod.fst v69)) fun (v71 : List Int × Int) => Option.bind (bif !Decidable.decide (Prod.snd v71 = (0 : Int)) then (some (Bool.true)) else (bif !Decidable.decide ((↑(List.length (Prod.fst v71)) : Int) = (↑(List.length (Prod.fst v69)) : Int)) then (some (Bool.true)) else (bif Decidable.decide ((↑(List.length (Prod.fst v71)) : Int) = (0 : Int)) then (some (Bool.true)) else (gd (Decidable.decide ((0 : Int) < (↑(List.length (Prod.fst v71)) : Int))) (gd (Decidable.decide ((0 : Nat) < List.length (Prod.fst v71))) (bif !Decidable.decide (List.getD (Prod.fst v71) (0 : Nat) (0 : Int) = Prod.fst (Prod.snd a)) then (some (Bool.true)) else (gd (Decidable.decide ((0 : Int) ≤ Go.Sx.w64 ((↑(List.length (Prod.fst v71)) : Int) - (1 : Int)))) (gd (Decidable.decide (Go.Sx.w64 ((↑(List.length (Prod.fst v71)) : Int) - (1 : Int)) < (↑(List.length (Prod.fst v71)) : Int))) (gd (Decidable.decide (Int.toNat (Go.Sx.w64 ((↑(List.length (Prod.fst v71)) : Int) - (1 : Int))) < List.length (Prod.fst v71))) (some (Decidable.decide (v63 < List.getD (Prod.fst v71) (Int.toNat (Go.Sx.w64 ((↑(List.length (Prod.fst v71)) : Int) - (1 : Int)))) (0 : Int))))))))))))) fun (v72 : Bool) => bif v72 then (some (Bool.false)) else (Option.bind (loopO (σ := Int) (β := Bool ⊕ Unit) (fun (v76 : Int) => bif Decidable.decide (v76 < (↑(List.length (Prod.fst v71)) : Int)) then (Option.bind (gd (Decidable.decide ((0 : Int) ≤ v76)) (gd (Decidable.decide (v76 < (↑(List.length (Prod.fst v71)) : Int))) (gd (Decidable.decide (Int.toNat v76 < List.length (Prod.fst v71))) (gd (Decidable.decide ((0 : Int) ≤ Go.Sx.w64 (v76 - (1 : Int)))) (gd (Decidable.decide (Go.Sx.w64 (v76 - (1 : Int)) < (↑(List.length (Prod.fst v71)) : Int))) (gd (Decidable.decide (Int.toNat (Go.Sx.w64 (v76 - (1 : Int))) < List.length (Prod.fst v71))) (bif Decidable.decide (List.getD (Prod.fst v71) (Int.toNat (Go.Sx.w64 (v76 - (1 : Int)))) (0 : Int) ≤ List.getD (Prod.fst v71) (Int.toNat v76) (0 : Int)) then (some (Bool.true)) else (gd (Decidable.decide ((0 : Int) ≤ v76)) (gd (Decidable.decide (v76 < (↑(List.length (Prod.fst v71)) : Int))) (gd (Decidable.decide (Int.toNat v76 < List.length (Prod.fst v71))) (some (Decidable.decide (List.getD (Prod.fst v71) (Int.toNat v76) (0 : Int) < (1 : Int)))))))))))))) fun (v77 : Bool) => bif v77 then (some (Sum.inr (Sum.inl Bool.false))) else (some (Sum.inl (Go.Sx.w64 (v76 + (1 : Int)))))) else (some (Sum.inr (Sum.inr Unit.unit)))) F ((1 : Int))) fun (v73 : Bool ⊕ Unit) => Sum.elim (fun (v74 : Bool) => some (v74)) (fun (v75 : Unit) => some (Bool.true)) (v73))))) (v66)))
noncomputable def pc13 (F : Nat) : PC := { ats := [.val (.seq [.seq [.int .i64]]), .val (.int .i64), .val (.int .i64)], rts := [.val (.bool)], code := c13 F }
theorem lx13_ok (F : Nat) : (lx13 F).Ok cx := Lx.ok_cons (PC.sm_ok (pc55_ok F)) (Lx.ok_cons (PC.sm_ok (pc54_ok F)) (Lx.ok_cons (PC.sm_ok (pc44_ok F)) (Lx.ok_cons (PC.sm_ok (pc42_ok F)) (Lx.ok_cons (PC.sm_ok (pc31_ok F)) (Lx.ok_cons (PC.sm_ok (pc16_ok F)) (Lx.ok_nil))))))
theorem c13_eq (F : Nat) (a : List (List Int) × Int × Int) : codeOf cx (lx13 F) 1000 (.two .leaf (.two (.two (.join [(.normal, ⟨[.slot 49 (.val (.bool))], []⟩)] ⟨[49, 48, 47, 46, 45, 44, 43, 42, 41, 40, 39, 38, 37, 36, 35, 34, 33, 32, 31, 30, 29, 28, 27, 26, 25, 24, 23], [], []⟩ .leaf) .leaf) (.two .leaf (.two (.two .leaf (.one (.loop ⟨[.slot 7 (.val (.int .i64)), .slot 53 (.val (.int .i64))], []⟩ [(.exit 0, ⟨[.slot 7 (.val (.int .i64))], []⟩)] ⟨[63, 53, 56, 57, 58, 59, 60, 61, 62, 7, 8, 55, 54], [], []⟩ F .leaf))) (.two .leaf (.two .leaf (.two (.two (.join [(.normal, ⟨[.slot 81 (.val (.bool))], []⟩)] ⟨[81, 80, 79, 78, 77, 76, 75, 74], [], []⟩ .leaf) .leaf) (.two .leaf (.two (.two .leaf (.one (.loop ⟨[.slot 12 (.val (.int .i64)), .slot 84 (.val (.int .i64))], []⟩ [(.ret, ⟨[.slot 6 (.val (.bool))], []⟩), (.exit 2, ⟨[], []⟩)] ⟨[157, 84, 87, 88, 89, 90, 91, 92, 149, 95, 96, 97, 98, 99, 100, 101, 102, 103, 104, 105, 125, 108, 109, 110, 111, 112, 113, 114, 115, 116, 117, 118, 119, 120, 121, 122, 123, 124, 16, 107, 106, 147, 148, 6, 126, 127, 128, 129, 130, 131, 132, 146, 145, 144, 143, 142, 141, 140, 139, 138, 137, 136, 135, 134, 133, 17, 15, 14, 94, 93, 12, 156, 155, 154, 153, 152, 151, 150, 13, 86, 85], [], []⟩ F (.two .leaf (.two .leaf (.two (.one (.two .leaf (.two (.two .leaf (.one (.loop ⟨[.slot 92 (.val (.int .i64))], []⟩ [(.exit 4, ⟨[], []⟩), (.ret, ⟨[.slot 6 (.val (.bool))], []⟩)] ⟨[149, 92, 95, 96, 97, 98, 99, 100, 101, 102, 103, 104, 105, 125, 108, 109, 110, 111, 112, 113, 114, 115, 116, 117, 118, 119, 120, 121, 122, 123, 124, 16, 107, 106, 147, 148, 6, 126, 127, 128, 129, 130, 131, 132, 146, 145, 144, 143, 142, 141, 140, 139, 138, 137, 136, 135, 134, 133, 17, 15, 14, 94, 93], [], []⟩ F (.two .leaf (.two .leaf (.two (.one (.two .leaf (.two .leaf (.two .leaf (.two (.two .leaf (.one (.loop ⟨[.slot 15 (.val (.bool)), .slot 105 (.val (.int .i64))], []⟩ [(.exit 6, ⟨[.slot 15 (.val (.bool))], []⟩)] ⟨[125, 105, 108, 109, 110, 111, 112, 113, 114, 115, 116, 117, 118, 119, 120, 121, 122, 123, 124, 15, 16, 107, 106], [], []⟩ F (.two .leaf (.two .leaf (.two (.one (.two .leaf (.join [(.normal, ⟨[.slot 15 (.val (.bool))], []⟩)] ⟨[15, 124, 123, 122, 121, 120, 119, 118, 117, 116, 115, 114, 113, 112, 111, 110, 109, 108], [], []⟩ .leaf))) .leaf)))))) (.two (.two .leaf (.one (.loop ⟨[.slot 15 (.val (.bool)), .slot 17 (.val (.int .i64))], []⟩ [(.exit 8, ⟨[.slot 15 (.val (.bool))], []⟩)] ⟨[133, 134, 135, 136, 137, 138, 139, 140, 141, 142, 143, 144, 145, 146, 15, 17, 132, 131, 130, 129, 128, 127, 126], [], []⟩ F (.two .leaf (.two (.one (.join [(.normal, ⟨[.slot 15 (.val (.bool))], []⟩)] ⟨[15, 146, 145, 144, 143, 142, 141, 140, 139, 138, 137, 136, 135, 134, 133], [], []⟩ .leaf)) .leaf))))) .leaf)))))) .leaf)))))) .leaf))) .leaf)))))) (.two .leaf (.two (.two .leaf (.two (.two (.join [(.normal, ⟨[.slot 6 (.val (.bool))], []⟩)] ⟨[6, 173, 172, 171, 170, 169, 168, 167, 166], [], []⟩ .leaf) .leaf) .leaf)) (.two .leaf (.two .leaf (.two (.two (.join [(.normal, ⟨[.slot 216 (.val (.bool))], []⟩)] ⟨[216, 215, 214, 213, 212, 211, 210, 209, 208, 207, 206, 205, 204, 203, 202, 201, 200, 199, 198, 197, 196, 195, 194, 193, 192, 191, 190, 189, 188, 187, 186], [], []⟩ .leaf) .leaf) (.two (.two .leaf (.one (.loop ⟨[.slot 22 (.val (.int .i64))], []⟩ [(.ret, ⟨[.slot 6 (.val (.bool))], []⟩), (.exit 10, ⟨[], []⟩)] ⟨[223, 224, 225, 226, 227, 228, 229, 230, 231, 232, 233, 234, 235, 236, 237, 238, 239, 6, 22, 222, 221, 220, 219, 218, 217], [], []⟩ F (.two .leaf (.two (.one (.two (.join [(.normal, ⟨[.slot 239 (.val (.bool))], []⟩)] ⟨[239, 238, 237, 236, 235, 234, 233, 232, 231, 230, 229, 228, 227, 226, 225, 224, 223], [], []⟩ .leaf) .leaf)) .leaf))))) .leaf))))))))))))))) f13 (bodyOf f13) [.val (.seq [.seq [.int .i64]]), .val (.int .i64), .val (.int .i64)] [.val (.bool)] a = c13 F a := by kernel_rfl
theorem pc13_ok (F : Nat) : PCOk cx 13 (pc13 F) := PCOk.of_eval cx_ok (lx13_ok F) (n := 1000) (an := (.two .leaf (.two (.two (.join [(.normal, ⟨[.slot 49 (.val (.bool))], []⟩)] ⟨[49, 48, 47, 46, 45, 44, 43, 42, 41, 40, 39, 38, 37, 36, 35, 34, 33, 32, 31, 30, 29, 28, 27, 26, 25, 24, 23], [], []⟩ .leaf) .leaf) (.two .leaf (.two (.two .leaf (.one (.loop ⟨[.slot 7 (.val (.int .i64)), .slot 53 (.val (.int .i64))], []⟩ [(.exit 0, ⟨[.slot 7 (.val (.int .i64))], []⟩)] ⟨[63, 53, 56, 57, 58, 59, 60, 61, 62, 7, 8, 55, 54], [], []⟩ F .leaf))) (.two .leaf (.two .leaf (.two (.two (.join [(.normal, ⟨[.slot 81 (.val (.bool))], []⟩)] ⟨[81, 80, 79, 78, 77, 76, 75, 74], [], []⟩ .leaf) .leaf) (.two .leaf (.two (.two .leaf (.one (.loop ⟨[.slot 12 (.val (.int .i64)), .slot 84 (.val (.int .i64))], []⟩ [(.ret, ⟨[.slot 6 (.val (.bool))], []⟩), (.exit 2, ⟨[], []⟩)] ⟨[157, 84, 87, 88, 89, 90, 91, 92, 149, 95, 96, 97, 98, 99, 100, 101, 102, 103, 104, 105, 125, 108, 109, 110, 111, 112, 113, 114, 115, 116, 117, 118, 119, 120, 121, 122, 123, 124, 16, 107, 106, 147, 148, 6, 126, 127, 128, 129, 130, 131, 132, 146, 145, 144, 143, 142, 141, 140, 139, 138, 137, 136, 135, 134, 133, 17, 15, 14, 94, 93, 12, 156, 155, 154, 153, 152, 151, 150, 13, 86, 85], [], []⟩ F (.two .leaf (.two .leaf (.two (.one (.two .leaf (.two (.two .leaf (.one (.loop ⟨[.slot 92 (.val (.int .i64))], []⟩ [(.exit 4, ⟨[], []⟩), (.ret, ⟨[.slot 6 (.val (.bool))], []⟩)] ⟨[149, 92, 95, 96, 97, 98, 99, 100, 101, 102, 103, 104, 105, 125, 108, 109, 110, 111, 112, 113, 114, 115, 116, 117, 118, 119, 120, 121, 122, 123, 124, 16, 107, 106, 147, 148, 6, 126, 127, 128, 129, 130, 131, 132, 146, 145, 144, 143, 142, 141, 140, 139, 138, 137, 136, 135, 134, 133, 17, 15, 14, 94, 93], [], []⟩ F (.two .leaf (.two .leaf (.two (.one (.two .leaf (.two .leaf (.two .leaf (.two (.two .leaf (.one (.loop ⟨[.slot 15 (.val (.bool)), .slot 105 (.val (.int .i64))], []⟩ [(.exit 6, ⟨[.slot 15 (.val (.bool))], []⟩)] ⟨[125, 105, 108, 109, 110, 111, 112, 113, 114, 115, 116, 117, 118, 119, 120, 121, 122, 123, 124, 15, 16, 107, 106], [], []⟩ F (.two .leaf (.two .leaf (.two (.one (.two .leaf (.join [(.normal, ⟨[.slot 15 (.val (.bool))], []⟩)] ⟨[15, 124, 123, 122, 121, 120, 119, 118, 117, 116, 115, 114, 113, 112, 111, 110, 109, 108], [], []⟩ .leaf))) .leaf)))))) (.two (.two .leaf (.one (.loop ⟨[.slot 15 (.val (.bool)), .slot 17 (.val (.int .i64))], []⟩ [(.exit 8, ⟨[.slot 15 (.val (.bool))], []⟩)] ⟨[133, 134, 135, 136, 137, 138, 139, 140, 141, 142, 143, 144, 145, 146, 15, 17, 132, 131, 130, 129, 128, 127, 126], [], []⟩ F (.two .leaf (.two (.one (.join [(.normal, ⟨[.slot 15 (.val (.bool))], []⟩)] ⟨[15, 146, 145, 144, 143, 142, 141, 140, 139, 138, 137, 136, 135, 134, 133], [], []⟩ .leaf)) .leaf))))) .leaf)))))) .leaf)))))) .leaf))) .leaf)))))) (.two .leaf (.two (.two .leaf (.two (.two (.join [(.normal, ⟨[.slot 6 (.val (.bool))], []⟩)] ⟨[6, 173, 172, 171, 170, 169, 168, 167, 166], [], []⟩ .leaf) .leaf) .leaf)) (.two .leaf (.two .leaf (.two (.two (.join [(.normal, ⟨[.slot 216 (.val (.bool))], []⟩)] ⟨[216, 215, 214, 213, 212, 211, 210, 209, 208, 207, 206, 205, 204, 203, 202, 201, 200, 199, 198, 197, 196, 195, 194, 193, 192, 191, 190, 189, 188, 187, 186], [], []⟩ .leaf) .leaf) (.two (.two .leaf (.one (.loop ⟨[.slot 22 (.val (.int .i64))], []⟩ [(.ret, ⟨[.slot 6 (.val (.bool))], []⟩), (.exit 10, ⟨[], []⟩)] ⟨[223, 224, 225, 226, 227, 228, 229, 230, 231, 232, 233, 234, 235, 236, 237, 238, 239, 6, 22, 222, 221, 220, 219, 218, 217], [], []⟩ F (.two .leaf (.two (.one (.two (.join [(.normal, ⟨[.slot 239 (.val (.bool))], []⟩)] ⟨[239, 238, 237, 236, 235, 234, 233, 232, 231, 230, 229, 228, 227, 226, 225, 224, 223], [], []⟩ .leaf) .leaf)) .leaf))))) .leaf)))))))))))))))) (fn := f13) (c := bodyOf f13) (by kernel_rfl) (by kernel_rfl) (fun a y h => (c13_eq F a).trans h) (by kernel_rfl)
end Go.Proofs.Tryz
end
section
set_option maxRecDepth 100000
set_option linter.unusedVariables false
namespace Go.Proofs.Tryz
open Go Go.Sx
noncomputable def tail13 (F : Nat) (n v : Int) : Option Bool :=
  Option.bind (Go.Proofs.Tryz.c54 F (n, v)) fun (v69 : List (Int × Int × Int) × Int) => bif !Decidable.decide (Prod.snd v69 = (0 : Int)) then (Option.bind (bif Decidable.decide (Prod.snd v69 = (5 : Int)) then (some (Decidable.decide (Go.Sx.w64 ((16 : Int) * v) < n))) else (some (Bool.false))) fun (v70 : Bool) => some (v70)) else (bif Decidable.decide (n = (0 : Int)) then (some (Decidable.decide ((↑(List.length (Prod.fst v69)) : Int) = (0 : Int)))) else (Option.bind (Go.Proofs.Tryz.c55 F (n, v, Prod.fst v69)) fun (v71 : List Int × Int) => Option.bind (bif !Decidable.decide (Prod.snd v71 = (0 : Int)) then (some (Bool.true)) else (bif !Decidable.decide ((↑(List.length (Prod.fst v71)) : Int) = (↑(List.length (Prod.fst v69)) : Int)) then (some (Bool.true)) else (bif Decidable.decide ((↑(List.length (Prod.fst v71)) : Int) = (0 : Int)) then (some (Bool.true)) else (gd (Decidable.decide ((0 : Int) < (↑(List.length (Prod.fst v71)) : Int))) (gd (Decidable.decide ((0 : Nat) < List.length (Prod.fst v71))) (bif !Decidable.decide (List.getD (Prod.fst v71) (0 : Nat) (0 : Int) = n) then (some (Bool.true)) else (gd (Decidable.decide ((0 : Int) ≤ Go.Sx.w64 ((↑(List.length (Prod.fst v71)) : Int) - (1 : Int)))) (gd (Decidable.decide (Go.Sx.w64 ((↑(List.length (Prod.fst v71)) : Int) - (1 : Int)) < (↑(List.length (Prod.fst v71)) : Int))) (gd (Decidable.decide (Int.toNat (Go.Sx.w64 ((↑(List.length (Prod.fst v71)) : Int) - (1 : Int))) < List.length (Prod.fst v71))) (some (Decidable.decide (v < List.getD (Prod.fst v71) (Int.toNat (Go.Sx.w64 ((↑(List.length (Prod.fst v71)) : Int) - (1 : Int)))) (0 : Int))))))))))))) fun (v72 : Bool) => bif v72 then (some (Bool.false)) else (Option.bind (loopO (σ := Int) (β := Bool ⊕ Unit) (fun (v76 : Int) => bif Decidable.decide (v76 < (↑(List.length (Prod.fst v71)) : Int)) then (Option.bind (gd (Decidable.decide ((0 : Int) ≤ v76)) (gd (Decidable.decide (v76 < (↑(List.length (Prod.fst v71)) : Int))) (gd (Decidable.decide (Int.toNat v76 < List.length (Prod.fst v71))) (gd (Decidable.decide ((0 : Int) ≤ Go.Sx.w64 (v76 - (1 : Int)))) (gd (Decidable.decide (Go.Sx.w64 (v76 - (1 : Int)) < (↑(List.length (Prod.fst v71)) : Int))) (gd (Decidable.decide (Int.toNat (Go.Sx.w64 (v76 - (1 : Int))) < List.length (Prod.fst v71))) (bif Decidable.decide (List.getD (Prod.fst v71) (Int.toNat (Go.Sx.w64 (v76 - (1 : Int)))) (0 : Int) ≤ List.getD (Prod.fst v71) (Int.toNat v76) (0 : Int)) then (some (Bool.true)) else (gd (Decidable.decide ((0 : Int) ≤ v76)) (gd (Decidable.decide (v76 < (↑(List.length (Prod.fst v71)) : Int))) (gd (Decidable.decide (Int.toNat v76 < List.length (Prod.fst v71))) (some (Decidable.decide (List.getD (Prod.fst v71) (Int.toNat v76) (0 : Int) < (1 : Int)))))))))))))) fun (v77 : Bool) => bif v77 then (some (Sum.inr (Sum.inl Bool.false))) else (some (Sum.inl (Go.Sx.w64 (v76 + (1 : Int)))))) else (some (Sum.inr (Sum.inr Unit.unit)))) F ((1 : Int))) fun (v73 : Bool ⊕ Unit) => Sum.elim (fun (v74 : Bool) => some (v74)) (fun (v75 : Unit) => some (Bool.true)) (v73))))
noncomputable def chk13 (m k : Nat) : Bool := (List.range k).all fun n => (List.range 10).all fun l => match tail13 400 ((m + n : Nat) : Int) ((l + 1 : Nat) : Int) with
  | some b => b
  | none => false
theorem chk13_a : chk13 0 40 = true := by kernel_rfl
theorem chk13_b : chk13 40 40 = true := by kernel_rfl
theorem chk13_c : chk13 80 40 = true := by kernel_rfl
theorem chk13_d : chk13 120 41 = true := by kernel_rfl
theorem chk13_use {m k : Nat} (h : chk13 m k = true) {n l : Nat} (h1 : m ≤ n) (h2 : n < m + k) (h3 : 1 ≤ l) (h4 : l ≤ 10) : tail13 400 (n : Int) (l : Int) = some true := by
  unfold chk13 at h
  have a := List.all_eq_true.1 h (n - m) (List.mem_range.2 (by omega))
  have b := List.all_eq_true.1 a (l - 1) (List.mem_range.2 (by omega))
  rw [show m + (n - m) = n by omega, show l - 1 + 1 = l by omega] at b
  revert b
  cases tail13 400 (n : Int) (l : Int) with
  | none => intro b; cases b
  | some y => intro b; rw [show y = true from b]
theorem tail13_ok {n l : Nat} (h2 : n ≤ 160) (h3 : 1 ≤ l) (h4 : l ≤ 10) : tail13 400 (n : Int) (l : Int) = some true := by
  by_cases a : n < 40
  · exact chk13_use chk13_a (by omega) (by omega) h3 h4
  · by_cases b : n < 80
    · exact chk13_use chk13_b (by omega) (by omega) h3 h4
    · by_cases c : n < 120
      · exact chk13_use chk13_c (by omega) (by omega) h3 h4
      · exact chk13_use chk13_d (by omega) (by omega) h3 h4
end Go.Proofs.Tryz
end
section
set_option maxRecDepth 100000
set_option linter.unusedVariables false
set_option linter.unusedSimpArgs false
namespace Go.Proofs.Tryz
open Go Go.Sx
theorem fold_or {y : Int} : ∀ (g : List Int) (b : Bool), g.foldl (fun b x => b || decide (x = y)) b = (b || decide (y ∈ g))
  | [], b => by simp
  | x :: g, b => by
    rw [List.foldl_cons, fold_or g]
    by_cases h : x = y
    · subst h; cases b <;> simp
    · have h' : ¬ y = x := fun e => h e.symm
      cases b <;> simp [h, h']
theorem fold_and {y : Int} : ∀ (g : List Int) (b : Bool), ¬ y ∈ g → g.foldl (fun b x => b && !decide (x = y)) b = b
  | [], b, h => rfl
  | x :: g, b, h => by
    have h1 : x ≠ y := fun e => h (e ▸ List.mem_cons_self)
    have h2 : ¬ y ∈ g := fun e => h (List.mem_cons_of_mem _ e)
    rw [List.foldl_cons, fold_and g _ h2]
    cases b <;> simp [h1]
noncomputable def mid13 (F : Nat) (p : List (List Int)) (m n v key : Int) : Option Bool :=
  Option.bind (Go.Proofs.Tryz.c44 F (p, m, key)) fun (v64 : List Int × Int) => Option.bind (bif !Decidable.decide (Prod.snd v64 = (0 : Int)) then (some (Bool.true)) else (some (!Decidable.decide ((↑(List.length (Prod.fst v64)) : Int) = m)))) fun (v65 : Bool) => bif v65 then (some (Bool.false)) else (Option.bind (loopO (σ := Int × Int) (β := Bool ⊕ Unit) (fun (v78 : Int × Int) => bif Decidable.decide (Prod.snd v78 < (↑(List.length (p)) : Int)) then (gd (Decidable.decide ((0 : Int) ≤ Prod.snd v78)) (gd (Decidable.decide (Prod.snd v78 < (↑(List.length (p)) : Int))) (gd (Decidable.decide (Int.toNat (Prod.snd v78) < List.length (p))) (Option.bind (loopO (σ := Int) (β := Unit ⊕ Bool) (fun (v82 : Int) => bif Decidable.decide (v82 < (↑(List.length (List.getD (p) (Int.toNat (Prod.snd v78)) (Go.Sx.nilT Int))) : Int)) then (bif Decidable.decide (m ≤ Go.Sx.w64 (Prod.fst v78 + v82)) then (some (Sum.inr (Sum.inl Unit.unit))) else (gd (Decidable.decide ((0 : Int) ≤ Prod.snd v78)) (gd (Decidable.decide (Prod.snd v78 < (↑(List.length (p)) : Int))) (gd (Decidable.decide (Int.toNat (Prod.snd v78) < List.length (p))) (Option.bind (loopO (σ := Bool × Int) (β := Bool) (fun (v87 : Bool × Int) => bif Decidable.decide (Prod.snd v87 < (↑(List.length (List.getD (p) (Int.toNat (Prod.snd v78)) (Go.Sx.nilT Int))) : Int)) then (Option.bind (bif Prod.fst v87 then (some (Bool.true)) else (gd (Decidable.decide ((0 : Int) ≤ Prod.snd v78)) (gd (Decidable.decide (Prod.snd v78 < (↑(List.length (p)) : Int))) (gd (Decidable.decide (Int.toNat (Prod.snd v78) < List.length (p))) (gd (Decidable.decide ((0 : Int) ≤ Prod.snd v87)) (gd (Decidable.decide (Prod.snd v87 < (↑(List.length (List.getD (p) (Int.toNat (Prod.snd v78)) (Go.Sx.nilT Int))) : Int))) (gd (Decidable.decide (Int.toNat (Prod.snd v87) < List.length (List.getD (p) (Int.toNat (Prod.snd v78)) (Go.Sx.nilT Int)))) (gd (Decidable.decide ((0 : Int) ≤ Go.Sx.w64 (Prod.fst v78 + v82))) (gd (Decidable.decide (Go.Sx.w64 (Prod.fst v78 + v82) < (↑(List.length (Prod.fst v64)) : Int))) (gd (Decidable.decide (Int.toNat (Go.Sx.w64 (Prod.fst v78 + v82)) < List.length (Prod.fst v64))) (some (Decidable.decide (List.getD (List.getD (p) (Int.toNat (Prod.snd v78)) (Go.Sx.nilT Int)) (Int.toNat (Prod.snd v87)) (0 : Int) = List.getD (Prod.fst v64) (Int.toNat (Go.Sx.w64 (Prod.fst v78 + v82))) (0 : Int)))))))))))))) fun (v88 : Bool) => some (Sum.inl (v88, Go.Sx.w64 (Prod.snd v87 + (1 : Int))))) else (some (Sum.inr (Prod.fst v87)))) F ((Bool.false, (0 : Int)))) fun (v83 : Bool) => Option.bind (loopO (σ := Bool × Int) (β := Bool) (fun (v85 : Bool × Int) => bif Decidable.decide (Prod.snd v85 < Go.Sx.w64 (Prod.fst v78 + v82)) then (Option.bind (bif Prod.fst v85 then (gd (Decidable.decide ((0 : Int) ≤ Prod.snd v85)) (gd (Decidable.decide (Prod.snd v85 < (↑(List.length (Prod.fst v64)) : Int))) (gd (Decidable.decide (Int.toNat (Prod.snd v85) < List.length (Prod.fst v64))) (gd (Decidable.decide ((0 : Int) ≤ Go.Sx.w64 (Prod.fst v78 + v82))) (gd (Decidable.decide (Go.Sx.w64 (Prod.fst v78 + v82) < (↑(List.length (Prod.fst v64)) : Int))) (gd (Decidable.decide (Int.toNat (Go.Sx.w64 (Prod.fst v78 + v82)) < List.length (Prod.fst v64))) (some (!Decidable.decide (List.getD (Prod.fst v64) (Int.toNat (Prod.snd v85)) (0 : Int) = List.getD (Prod.fst v64) (Int.toNat (Go.Sx.w64 (Prod.fst v78 + v82))) (0 : Int)))))))))) else (some (Bool.false))) fun (v86 : Bool) => some (Sum.inl (v86, Go.Sx.w64 (Prod.snd v85 + (1 : Int))))) else (some (Sum.inr (Prod.fst v85)))) F ((v83, (0 : Int)))) fun (v84 : Bool) => bif !v84 then (some (Sum.inr (Sum.inr Bool.false))) else (some (Sum.inl (Go.Sx.w64 (v82 + (1 : Int)))))))))) else (some (Sum.inr (Sum.inl Unit.unit)))) F ((0 : Int))) fun (v79 : Unit ⊕ Bool) => Sum.elim (fun (v80 : Unit) => gd (Decidable.decide ((0 : Int) ≤ Prod.snd v78)) (gd (Decidable.decide (Prod.snd v78 < (↑(List.length (p)) : Int))) (gd (Decidable.decide (Int.toNat (Prod.snd v78) < List.length (p))) (some (Sum.inl (Go.Sx.w64 (Prod.fst v78 + (↑(List.length (List.getD (p) (Int.toNat (Prod.snd v78)) (Go.Sx.nilT Int))) : Int)), Go.Sx.w64 (Prod.snd v78 + (1 : Int)))))))) (fun (v81 : Bool) => some (Sum.inr (Sum.inl v81))) (v79))))) else (some (Sum.inr (Sum.inr Unit.unit)))) F (((0 : Int), (0 : Int)))) fun (v66 : Bool ⊕ Unit) => Sum.elim (fun (v67 : Bool) => some (v67)) (fun (v68 : Unit) => tail13 F n v) (v66))
theorem mid13_ok {p : List (List Int)} (hp : patS p = 0) (hg : ∀ g ∈ p, g.length ≤ 10) {m n : Nat} {key : Int} (h1 : 1 ≤ key) (h2 : key ≤ 1000000) (hm : m ≤ lenS p) (hn : n ≤ 160) : mid13 400 p (m : Int) (n : Int) (lenS p : Int) key = some true := by
  obtain ⟨q0, q1, q2, q3, q4⟩ := patS_ok hp
  have q3' : lenS p ≤ 10 := q3
  have hg' : ∀ g ∈ p, g.length ≤ 12 := fun g h => by have := hg g h; omega
  have q5 : 1 ≤ lenS p := by
    cases p with
    | nil => simp at q0
    | cons g p => have := q4 g List.mem_cons_self; simp [lenS]; omega
  have hpm := laneF_perm h1 h2 p 0 (by omega)
  have eL : laneS p (m : Int) key = ((laneF key p 0).take m, 0) := by
    unfold laneS
    rw [laneB_run (β := Unit) h1 h2 p 0 [] (by omega) hg']
    have : (laneF key p 0).length = lenS p := hpm.length_eq
    simp only [List.nil_append, this]
    rw [if_neg (by omega)]
    simp
  have hat : ∀ (k j : Nat) (g : List Int), p[k]? = some g → j < g.length → lenS (p.take k) + j < m → ((laneF key p 0).take m).getD (lenS (p.take k) + j) 0 ∈ g := by
    intro k j g hk hj hlt
    have := laneF_at h1 h2 p 0 k j g (by omega) hk hj
    rw [List.getD_eq_getElem?_getD, List.getElem?_take, if_pos hlt, ← List.getD_eq_getElem?_getD]
    exact this
  have hXl : ((laneF key p 0).take m).length = m := by rw [List.length_take, hpm.length_eq]; exact Nat.min_eq_left hm
  have hXn : ((laneF key p 0).take m).Nodup := (hpm.nodup_iff.2 q2).sublist (List.take_sublist _ _)
  unfold mid13
  simp only [l44 (F := 400) (by omega) (show p.length ≤ 12 by omega) hg', hp, Option.bind_some]
  rw [if_neg (by simp), if_neg (by omega), eL]
  generalize (laneF key p 0).take m = X at hat hXl hXn
  simp only [hXl, decide_true, Bool.not_true, cond_false, Option.bind_some]
  refine bind_list p (fun (_ : Unit) i => (((lenS (p.take i) : Nat) : Int), (i : Int))) (fun _ _ => .inl ()) (fun _ => .inr ()) (fun _ _ => True) () (by omega) (by simp [lenS]) trivial ?_ ?_ ?_
  · intro i g s hi hx _
    refine ⟨?_, fun _ _ => trivial⟩
    have hgl := hg g (List.mem_of_getElem? hx)
    have hsn := lenS_snoc hx
    have hle := lenS_le p (i + 1)
    have hw1 : w64 (((lenS (p.take i) : Nat) : Int) + (g.length : Int)) = ((lenS (p.take (i + 1)) : Nat) : Int) := by rw [w64_in (by omega) (by omega)]; omega
    simp (disch := omega) only [cd_pos, gd_dec, Int.toNat_natCast, getD_some hx, hw1, w64_in (n := ((i : Nat) : Int) + 1)]
    refine ex_eq (bind_all g (fun _ => True) (fun b => b = .inl ()) (by omega) ?_ ?_ ?_)
    · intro j x hj hjx
      have hw2 : w64 (((lenS (p.take i) : Nat) : Int) + (j : Int)) = ((lenS (p.take i) + j : Nat) : Int) := by rw [w64_in (by omega) (by omega)]; omega
      have hw3 : w64 ((j : Int) + 1) = (j : Int) + 1 := w64_in (by omega) (by omega)
      simp (disch := omega) only [cd_pos, hw2]
      by_cases hq : m ≤ lenS (p.take i) + j
      · refine ⟨_, ?_, .inr ⟨.inl (), rfl, rfl⟩⟩
        rw [cd_pos (by omega)]
      · have hq' : ¬ (m : Int) ≤ ((lenS (p.take i) + j : Nat) : Int) := by omega
        have hin := hat i j g hx hj (by omega)
        generalize lenS (p.take i) + j = q at hq hq' hin
        simp only [cd_neg hq']
        refine ⟨.inl ((j : Int) + 1), ?_, .inl ⟨rfl, trivial⟩⟩
        have hqX : X[q]? = some (X.getD q 0) := by
          rw [List.getD_eq_getElem?_getD, List.getElem?_eq_getElem (show q < X.length by omega)]; rfl
        generalize X.getD q 0 = y at hin hqX
        refine bind_list g (fun (b : Bool) k => (b, (k : Int))) (fun x b => .inl (b || decide (x = y))) (fun b => b) (fun _ _ => True) false (by omega) rfl trivial ?_ ?_ ?_
        · intro k z b hk hkz _
          refine ⟨?_, fun _ _ => trivial⟩
          cases b <;> simp (disch := omega) only [cd_pos, gd_dec, Int.toNat_natCast, getD_some hkz, getD_some hqX, w64_in (n := ((k : Nat) : Int) + 1), cond_true, cond_false, Option.bind_some, Bool.true_or, Bool.false_or] <;> rfl
        · intro b _
          simp (disch := omega) only [cd_neg]
        · rw [goL_fold (fun (b : Bool) (x : Int) => b || decide (x = y)), fold_or]
          simp only [hin, decide_true, Bool.or_true]
          have hlen : (X.take q).length = q := len_take (by omega)
          refine bind_list (X.take q) (fun (b : Bool) k => (b, (k : Int))) (fun x b => .inl (b && !decide (x = y))) (fun b => b) (fun _ _ => True) true (by omega) rfl trivial ?_ ?_ ?_
          · intro k z b hk hkz _
            refine ⟨?_, fun _ _ => trivial⟩
            rw [hlen] at hk
            have hkz' : X[k]? = some z := by rw [List.getElem?_take, if_pos hk] at hkz; exact hkz
            cases b <;> simp (disch := omega) only [cd_pos, gd_dec, Int.toNat_natCast, getD_some hkz', getD_some hqX, w64_in (n := ((k : Nat) : Int) + 1), cond_true, cond_false, Option.bind_some, Bool.true_and, Bool.false_and] <;> rfl
          · intro b _
            rw [hlen]
            simp (disch := omega) only [cd_neg]
          · have hny : ¬ y ∈ X.take q := by
              intro hy
              obtain ⟨k, hk, e⟩ := List.mem_iff_getElem.1 hy
              rw [hlen] at hk
              rw [List.getElem_take] at e
              have e2 : X[q]'(by omega) = y := by
                have := List.getElem?_eq_getElem (show q < X.length by omega)
                rw [this] at hqX; exact Option.some.inj hqX
              have := (List.getElem_inj hXn).1 (e.trans e2.symm)
              omega
            rw [goL_fold (fun (b : Bool) (x : Int) => b && !decide (x = y)), fold_and _ _ hny]
            simp only [Bool.not_true, cond_false, hw3]
    · intro _
      refine ⟨.inl (), ?_, rfl⟩
      simp (disch := omega) only [cd_neg]
    · intro b hb
      subst hb
      exact ⟨_, rfl, rfl⟩
  · intro s _
    simp (disch := omega) only [cd_neg]
  · rw [goL_unit]
    exact tail13_ok hn q5 q3'
theorem law13 (a : List (List Int) × Int × Int) : c13 400 a = some true := by
  obtain ⟨p, n, key⟩ := a
  unfold c13
  simp only [l31 (F := 400) (by omega) (show (10 : Int) ≤ 300 by omega), Option.bind_some]
  by_cases h31 : (decide ((10 : Int) < p.length) || p.any fun x => decide ((10 : Int) < (x.length : Int))) = true
  · rw [h31]; rfl
  · rw [Bool.not_eq_true] at h31
    rw [h31]
    rw [Bool.or_eq_false_iff] at h31
    have hl : p.length ≤ 10 := by have := of_decide_eq_false h31.1; omega
    have hg : ∀ g ∈ p, g.length ≤ 10 := fun g h => by
      have := List.any_eq_false.1 h31.2 g h
      simp at this; omega
    simp only [cond_false, l42 (F := 400) (by omega) (fun g h => Nat.lt_of_le_of_lt (hg g h) (by omega)), Option.bind_some]
    by_cases hp : patS p = 0
    · by_cases hc : key < 1 ∨ 1000000 < key ∨ n < 0 ∨ 160 < n
      · have : (bif decide (key < 1) then some true else bif decide (1000000 < key) then some true else bif decide (n < 0) then some true else some (decide (160 < n))) = some true := by
          by_cases c1 : key < 1
          · simp [c1]
          · by_cases c2 : 1000000 < key
            · simp [c2]
            · by_cases c3 : n < 0
              · simp [c3]
              · have c4 : 160 < n := by omega
                simp [c4]
        simp only [hp, decide_true, Bool.not_true, cond_false]
        rw [this]
        rfl
      · simp only [hp, decide_true, Bool.not_true, cond_false]
        obtain ⟨q0, q1, q2, q3, q4⟩ := patS_ok hp
        have q3' : lenS p ≤ 10 := q3
        simp (disch := omega) only [cd_neg, decide_eq_false (show ¬ 160 < n by omega), Option.bind_some, cond_false]
        refine bind_list p (fun (_ : Unit) i => (((lenS (p.take i) : Nat) : Int), (i : Int))) (fun _ _ => .inl ()) (fun _ => ((lenS p : Nat) : Int)) (fun _ _ => True) () (by omega) (by simp [lenS]) trivial ?_ ?_ ?_
        · intro i g s hi hx _
          refine ⟨?_, fun _ _ => trivial⟩
          have hgl := hg g (List.mem_of_getElem? hx)
          have hsn := lenS_snoc hx
          have hle := lenS_le p (i + 1)
          have hw1 : w64 (((lenS (p.take i) : Nat) : Int) + (g.length : Int)) = ((lenS (p.take (i + 1)) : Nat) : Int) := by rw [w64_in (by omega) (by omega)]; omega
          simp (disch := omega) only [cd_pos, gd_dec, Int.toNat_natCast, getD_some hx, hw1, w64_in (n := ((i : Nat) : Int) + 1)]
          rfl
        · intro s _
          simp (disch := omega) only [cd_neg, List.take_length]
        · rw [goL_unit]
          have en : n = ((n.toNat : Nat) : Int) := by omega
          by_cases hd : ((lenS p : Nat) : Int) < n
          · have := mid13_ok hp hg (m := lenS p) (n := n.toNat) (key := key) (by omega) (by omega) (Nat.le_refl _) (by omega)
            rw [← en] at this
            unfold mid13 at this
            cases hh : Int.decLt ((lenS p : Nat) : Int) n with
            | isTrue _ =>
              dsimp only
              exact this
            | isFalse h => exact absurd hd h
          · have := mid13_ok hp hg (m := n.toNat) (n := n.toNat) (key := key) (by omega) (by omega) (by omega) (by omega)
            rw [← en] at this
            unfold mid13 at this
            cases hh : Int.decLt ((lenS p : Nat) : Int) n with
            | isTrue h => exact absurd h hd
            | isFalse _ =>
              dsimp only
              exact this
    · simp only [hp, decide_false, Bool.not_false, cond_true]
      rfl
end Go.Proofs.Tryz
end

/- SeedOrderless as a function of data, in pieces. Plain law of SeedOrderless: heats without an error, and turned. -/
import Derived.Test.YtdghdcclhnoigaaGreatDoorXE12b
import Derived.Test.YtdghdcclhnoigaaGreatDoorXTryzL12
section
set_option maxRecDepth 100000
set_option linter.unusedVariables false
set_option linter.unusedSimpArgs false
namespace Go.Proofs.Tryz
open Go Go.Sx
noncomputable def tl12 (F : Nat) (l : List (List Run)) : Option (List (List Run) × Int) :=
  loopO (σ := List (List (ByteArray × ByteArray × Int × ByteArray)) × Int × Int) (β := List (List (ByteArray × ByteArray × Int × ByteArray)) × Int) (fun (v105 : List (List (ByteArray × ByteArray × Int × ByteArray)) × Int × Int) => bif Decidable.decide (Prod.snd (Prod.snd v105) < (↑(List.length (l)) : Int)) then (gd (Decidable.decide ((0 : Int) ≤ Prod.snd (Prod.snd v105))) (gd (Decidable.decide (Prod.snd (Prod.snd v105) < (↑(List.length (l)) : Int))) (gd (Decidable.decide (Int.toNat (Prod.snd (Prod.snd v105)) < List.length (l))) (Option.bind (loopO (σ := List (ByteArray × ByteArray × Int × ByteArray) × Int × Int) (β := List (ByteArray × ByteArray × Int × ByteArray) × Int) (fun (v108 : List (ByteArray × ByteArray × Int × ByteArray) × Int × Int) => bif Decidable.decide (Prod.snd (Prod.snd v108) < (↑(List.length (List.getD (l) (Int.toNat (Prod.snd (Prod.snd v105))) (Go.Sx.nilT (ByteArray × ByteArray × Int × ByteArray)))) : Int)) then (gd (Decidable.decide ((0 : Int) ≤ Prod.snd (Prod.snd v105))) (gd (Decidable.decide (Prod.snd (Prod.snd v105) < (↑(List.length (l)) : Int))) (gd (Decidable.decide (Int.toNat (Prod.snd (Prod.snd v105)) < List.length (l))) (gd (Decidable.decide ((0 : Int) ≤ Prod.snd (Prod.snd v105))) (gd (Decidable.decide (Prod.snd (Prod.snd v105) < (↑(List.length (l)) : Int))) (gd (Decidable.decide (Int.toNat (Prod.snd (Prod.snd v105)) < List.length (l))) (gd (Decidable.decide ((0 : Int) ≤ Go.Sx.w64 (Go.Sx.w64 ((↑(List.length (List.getD (l) (Int.toNat (Prod.snd (Prod.snd v105))) (Go.Sx.nilT (ByteArray × ByteArray × Int × ByteArray)))) : Int) - (1 : Int)) - Prod.snd (Prod.snd v108)))) (gd (Decidable.decide (Go.Sx.w64 (Go.Sx.w64 ((↑(List.length (List.getD (l) (Int.toNat (Prod.snd (Prod.snd v105))) (Go.Sx.nilT (ByteArray × ByteArray × Int × ByteArray)))) : Int) - (1 : Int)) - Prod.snd (Prod.snd v108)) < (↑(List.length (List.getD (l) (Int.toNat (Prod.snd (Prod.snd v105))) (Go.Sx.nilT (ByteArray × ByteArray × Int × ByteArray)))) : Int))) (gd (Decidable.decide (Int.toNat (Go.Sx.w64 (Go.Sx.w64 ((↑(List.length (List.getD (l) (Int.toNat (Prod.snd (Prod.snd v105))) (Go.Sx.nilT (ByteArray × ByteArray × Int × ByteArray)))) : Int) - (1 : Int)) - Prod.snd (Prod.snd v108))) < List.length (List.getD (l) (Int.toNat (Prod.snd (Prod.snd v105))) (Go.Sx.nilT (ByteArray × ByteArray × Int × ByteArray))))) (gd (Decidable.decide (List.length (Prod.fst v108) = List.length (Prod.fst v108))) (gd (Decidable.decide (List.length (Prod.fst v108 ++ (Prod.fst (List.getD (List.getD (l) (Int.toNat (Prod.snd (Prod.snd v105))) (Go.Sx.nilT (ByteArray × ByteArray × Int × ByteArray))) (Int.toNat (Go.Sx.w64 (Go.Sx.w64 ((↑(List.length (List.getD (l) (Int.toNat (Prod.snd (Prod.snd v105))) (Go.Sx.nilT (ByteArray × ByteArray × Int × ByteArray)))) : Int) - (1 : Int)) - Prod.snd (Prod.snd v108)))) (ByteArray.empty, ByteArray.empty, (0 : Int), ByteArray.empty)), Prod.fst (Prod.snd (List.getD (List.getD (l) (Int.toNat (Prod.snd (Prod.snd v105))) (Go.Sx.nilT (ByteArray × ByteArray × Int × ByteArray))) (Int.toNat (Go.Sx.w64 (Go.Sx.w64 ((↑(List.length (List.getD (l) (Int.toNat (Prod.snd (Prod.snd v105))) (Go.Sx.nilT (ByteArray × ByteArray × Int × ByteArray)))) : Int) - (1 : Int)) - Prod.snd (Prod.snd v108)))) (ByteArray.empty, ByteArray.empty, (0 : Int), ByteArray.empty))), Prod.fst (Prod.snd (Prod.snd (List.getD (List.getD (l) (Int.toNat (Prod.snd (Prod.snd v105))) (Go.Sx.nilT (ByteArray × ByteArray × Int × ByteArray))) (Int.toNat (Go.Sx.w64 (Go.Sx.w64 ((↑(List.length (List.getD (l) (Int.toNat (Prod.snd (Prod.snd v105))) (Go.Sx.nilT (ByteArray × ByteArray × Int × ByteArray)))) : Int) - (1 : Int)) - Prod.snd (Prod.snd v108)))) (ByteArray.empty, ByteArray.empty, (0 : Int), ByteArray.empty)))), Prod.snd (Prod.snd (Prod.snd (List.getD (List.getD (l) (Int.toNat (Prod.snd (Prod.snd v105))) (Go.Sx.nilT (ByteArray × ByteArray × Int × ByteArray))) (Int.toNat (Go.Sx.w64 (Go.Sx.w64 ((↑(List.length (List.getD (l) (Int.toNat (Prod.snd (Prod.snd v105))) (Go.Sx.nilT (ByteArray × ByteArray × Int × ByteArray)))) : Int) - (1 : Int)) - Prod.snd (Prod.snd v108)))) (ByteArray.empty, ByteArray.empty, (0 : Int), ByteArray.empty))))) :: Go.Sx.nilT (ByteArray × ByteArray × Int × ByteArray)) * (56 : Nat) ≤ (140737488355328 : Nat))) (gd (Decidable.decide (List.length (Prod.fst v108 ++ (Prod.fst (List.getD (List.getD (l) (Int.toNat (Prod.snd (Prod.snd v105))) (Go.Sx.nilT (ByteArray × ByteArray × Int × ByteArray))) (Int.toNat (Go.Sx.w64 (Go.Sx.w64 ((↑(List.length (List.getD (l) (Int.toNat (Prod.snd (Prod.snd v105))) (Go.Sx.nilT (ByteArray × ByteArray × Int × ByteArray)))) : Int) - (1 : Int)) - Prod.snd (Prod.snd v108)))) (ByteArray.empty, ByteArray.empty, (0 : Int), ByteArray.empty)), Prod.fst (Prod.snd (List.getD (List.getD (l) (Int.toNat (Prod.snd (Prod.snd v105))) (Go.Sx.nilT (ByteArray × ByteArray × Int × ByteArray))) (Int.toNat (Go.Sx.w64 (Go.Sx.w64 ((↑(List.length (List.getD (l) (Int.toNat (Prod.snd (Prod.snd v105))) (Go.Sx.nilT (ByteArray × ByteArray × Int × ByteArray)))) : Int) - (1 : Int)) - Prod.snd (Prod.snd v108)))) (ByteArray.empty, ByteArray.empty, (0 : Int), ByteArray.empty))), Prod.fst (Prod.snd (Prod.snd (List.getD (List.getD (l) (Int.toNat (Prod.snd (Prod.snd v105))) (Go.Sx.nilT (ByteArray × ByteArray × Int × ByteArray))) (Int.toNat (Go.Sx.w64 (Go.Sx.w64 ((↑(List.length (List.getD (l) (Int.toNat (Prod.snd (Prod.snd v105))) (Go.Sx.nilT (ByteArray × ByteArray × Int × ByteArray)))) : Int) - (1 : Int)) - Prod.snd (Prod.snd v108)))) (ByteArray.empty, ByteArray.empty, (0 : Int), ByteArray.empty)))), Prod.snd (Prod.snd (Prod.snd (List.getD (List.getD (l) (Int.toNat (Prod.snd (Prod.snd v105))) (Go.Sx.nilT (ByteArray × ByteArray × Int × ByteArray))) (Int.toNat (Go.Sx.w64 (Go.Sx.w64 ((↑(List.length (List.getD (l) (Int.toNat (Prod.snd (Prod.snd v105))) (Go.Sx.nilT (ByteArray × ByteArray × Int × ByteArray)))) : Int) - (1 : Int)) - Prod.snd (Prod.snd v108)))) (ByteArray.empty, ByteArray.empty, (0 : Int), ByteArray.empty))))) :: Go.Sx.nilT (ByteArray × ByteArray × Int × ByteArray)) ≤ (9223372036854775807 : Nat))) (gd (Decidable.decide ((0 : Int) ≤ Prod.snd (Prod.snd v105))) (gd (Decidable.decide (Prod.snd (Prod.snd v105) < (↑(List.length (l)) : Int))) (gd (Decidable.decide (Int.toNat (Prod.snd (Prod.snd v105)) < List.length (l))) (gd (Decidable.decide ((0 : Int) ≤ Prod.snd (Prod.snd v108))) (gd (Decidable.decide (Prod.snd (Prod.snd v108) < (↑(List.length (List.getD (l) (Int.toNat (Prod.snd (Prod.snd v105))) (Go.Sx.nilT (ByteArray × ByteArray × Int × ByteArray)))) : Int))) (gd (Decidable.decide (Int.toNat (Prod.snd (Prod.snd v108)) < List.length (List.getD (l) (Int.toNat (Prod.snd (Prod.snd v105))) (Go.Sx.nilT (ByteArray × ByteArray × Int × ByteArray))))) (Option.bind (bif Go.Sx.strEq (Prod.fst (Prod.snd (List.getD (List.getD (l) (Int.toNat (Prod.snd (Prod.snd v105))) (Go.Sx.nilT (ByteArray × ByteArray × Int × ByteArray))) (Int.toNat (Prod.snd (Prod.snd v108))) (ByteArray.empty, ByteArray.empty, (0 : Int), ByteArray.empty)))) { data := List.toArray ((116 : UInt8) :: (105 : UInt8) :: (109 : UInt8) :: (101 : UInt8) :: Go.Sx.nilT UInt8) } then (some (Go.Sx.w64 (Prod.fst (Prod.snd v108) + (1 : Int)))) else (some (Prod.fst (Prod.snd v108)))) fun (v109 : Int) => Option.bind (gd (Decidable.decide (List.length (Prod.fst v108 ++ (Prod.fst (List.getD (List.getD (l) (Int.toNat (Prod.snd (Prod.snd v105))) (Go.Sx.nilT (ByteArray × ByteArray × Int × ByteArray))) (Int.toNat (Go.Sx.w64 (Go.Sx.w64 ((↑(List.length (List.getD (l) (Int.toNat (Prod.snd (Prod.snd v105))) (Go.Sx.nilT (ByteArray × ByteArray × Int × ByteArray)))) : Int) - (1 : Int)) - Prod.snd (Prod.snd v108)))) (ByteArray.empty, ByteArray.empty, (0 : Int), ByteArray.empty)), Prod.fst (Prod.snd (List.getD (List.getD (l) (Int.toNat (Prod.snd (Prod.snd v105))) (Go.Sx.nilT (ByteArray × ByteArray × Int × ByteArray))) (Int.toNat (Go.Sx.w64 (Go.Sx.w64 ((↑(List.length (List.getD (l) (Int.toNat (Prod.snd (Prod.snd v105))) (Go.Sx.nilT (ByteArray × ByteArray × Int × ByteArray)))) : Int) - (1 : Int)) - Prod.snd (Prod.snd v108)))) (ByteArray.empty, ByteArray.empty, (0 : Int), ByteArray.empty))), Prod.fst (Prod.snd (Prod.snd (List.getD (List.getD (l) (Int.toNat (Prod.snd (Prod.snd v105))) (Go.Sx.nilT (ByteArray × ByteArray × Int × ByteArray))) (Int.toNat (Go.Sx.w64 (Go.Sx.w64 ((↑(List.length (List.getD (l) (Int.toNat (Prod.snd (Prod.snd v105))) (Go.Sx.nilT (ByteArray × ByteArray × Int × ByteArray)))) : Int) - (1 : Int)) - Prod.snd (Prod.snd v108)))) (ByteArray.empty, ByteArray.empty, (0 : Int), ByteArray.empty)))), Prod.snd (Prod.snd (Prod.snd (List.getD (List.getD (l) (Int.toNat (Prod.snd (Prod.snd v105))) (Go.Sx.nilT (ByteArray × ByteArray × Int × ByteArray))) (Int.toNat (Go.Sx.w64 (Go.Sx.w64 ((↑(List.length (List.getD (l) (Int.toNat (Prod.snd (Prod.snd v105))) (Go.Sx.nilT (ByteArray × ByteArray × Int × ByteArray)))) : Int) - (1 : Int)) - Prod.snd (Prod.snd v108)))) (ByteArray.empty, ByteArray.empty, (0 : Int), ByteArray.empty))))) :: Go.Sx.nilT (ByteArray × ByteArray × Int × ByteArray)) = List.length (Prod.fst v108 ++ (Prod.fst (List.getD (List.getD (l) (Int.toNat (Prod.snd (Prod.snd v105))) (Go.Sx.nilT (ByteArray × ByteArray × Int × ByteArray))) (Int.toNat (Go.Sx.w64 (Go.Sx.w64 ((↑(List.length (List.getD (l) (Int.toNat (Prod.snd (Prod.snd v105))) (Go.Sx.nilT (ByteArray × ByteArray × Int × ByteArray)))) : Int) - (1 : Int)) - Prod.snd (Prod.snd v108)))) (ByteArray.empty, ByteArray.empty, (0 : Int), ByteArray.empty)), Prod.fst (Prod.snd (List.getD (List.getD (l) (Int.toNat (Prod.snd (Prod.snd v105))) (Go.Sx.nilT (ByteArray × ByteArray × Int × ByteArray))) (Int.toNat (Go.Sx.w64 (Go.Sx.w64 ((↑(List.length (List.getD (l) (Int.toNat (Prod.snd (Prod.snd v105))) (Go.Sx.nilT (ByteArray × ByteArray × Int × ByteArray)))) : Int) - (1 : Int)) - Prod.snd (Prod.snd v108)))) (ByteArray.empty, ByteArray.empty, (0 : Int), ByteArray.empty))), Prod.fst (Prod.snd (Prod.snd (List.getD (List.getD (l) (Int.toNat (Prod.snd (Prod.snd v105))) (Go.Sx.nilT (ByteArray × ByteArray × Int × ByteArray))) (Int.toNat (Go.Sx.w64 (Go.Sx.w64 ((↑(List.length (List.getD (l) (Int.toNat (Prod.snd (Prod.snd v105))) (Go.Sx.nilT (ByteArray × ByteArray × Int × ByteArray)))) : Int) - (1 : Int)) - Prod.snd (Prod.snd v108)))) (ByteArray.empty, ByteArray.empty, (0 : Int), ByteArray.empty)))), Prod.snd (Prod.snd (Prod.snd (List.getD (List.getD (l) (Int.toNat (Prod.snd (Prod.snd v105))) (Go.Sx.nilT (ByteArray × ByteArray × Int × ByteArray))) (Int.toNat (Go.Sx.w64 (Go.Sx.w64 ((↑(List.length (List.getD (l) (Int.toNat (Prod.snd (Prod.snd v105))) (Go.Sx.nilT (ByteArray × ByteArray × Int × ByteArray)))) : Int) - (1 : Int)) - Prod.snd (Prod.snd v108)))) (ByteArray.empty, ByteArray.empty, (0 : Int), ByteArray.empty))))) :: Go.Sx.nilT (ByteArray × ByteArray × Int × ByteArray))) && Bool.true && (Bool.true && (Bool.true && Bool.true))) (some ((Prod.fst v108 ++ (Prod.fst (List.getD (List.getD (l) (Int.toNat (Prod.snd (Prod.snd v105))) (Go.Sx.nilT (ByteArray × ByteArray × Int × ByteArray))) (Int.toNat (Go.Sx.w64 (Go.Sx.w64 ((↑(List.length (List.getD (l) (Int.toNat (Prod.snd (Prod.snd v105))) (Go.Sx.nilT (ByteArray × ByteArray × Int × ByteArray)))) : Int) - (1 : Int)) - Prod.snd (Prod.snd v108)))) (ByteArray.empty, ByteArray.empty, (0 : Int), ByteArray.empty)), Prod.fst (Prod.snd (List.getD (List.getD (l) (Int.toNat (Prod.snd (Prod.snd v105))) (Go.Sx.nilT (ByteArray × ByteArray × Int × ByteArray))) (Int.toNat (Go.Sx.w64 (Go.Sx.w64 ((↑(List.length (List.getD (l) (Int.toNat (Prod.snd (Prod.snd v105))) (Go.Sx.nilT (ByteArray × ByteArray × Int × ByteArray)))) : Int) - (1 : Int)) - Prod.snd (Prod.snd v108)))) (ByteArray.empty, ByteArray.empty, (0 : Int), ByteArray.empty))), Prod.fst (Prod.snd (Prod.snd (List.getD (List.getD (l) (Int.toNat (Prod.snd (Prod.snd v105))) (Go.Sx.nilT (ByteArray × ByteArray × Int × ByteArray))) (Int.toNat (Go.Sx.w64 (Go.Sx.w64 ((↑(List.length (List.getD (l) (Int.toNat (Prod.snd (Prod.snd v105))) (Go.Sx.nilT (ByteArray × ByteArray × Int × ByteArray)))) : Int) - (1 : Int)) - Prod.snd (Prod.snd v108)))) (ByteArray.empty, ByteArray.empty, (0 : Int), ByteArray.empty)))), Prod.snd (Prod.snd (Prod.snd (List.getD (List.getD (l) (Int.toNat (Prod.snd (Prod.snd v105))) (Go.Sx.nilT (ByteArray × ByteArray × Int × ByteArray))) (Int.toNat (Go.Sx.w64 (Go.Sx.w64 ((↑(List.length (List.getD (l) (Int.toNat (Prod.snd (Prod.snd v105))) (Go.Sx.nilT (ByteArray × ByteArray × Int × ByteArray)))) : Int) - (1 : Int)) - Prod.snd (Prod.snd v108)))) (ByteArray.empty, ByteArray.empty, (0 : Int), ByteArray.empty))))) :: Go.Sx.nilT (ByteArray × ByteArray × Int × ByteArray), v109, Go.Sx.w64 (Prod.snd (Prod.snd v108) + (1 : Int)))))) fun (v110 : List (ByteArray × ByteArray × Int × ByteArray) × Int × Int) => some (Sum.inl v110)))))))))))))))))))) else (Option.bind (gd (Decidable.decide (List.length (Prod.fst v108) = List.length (Prod.fst v108)) && Bool.true && (Bool.true && Bool.true)) (some ((Prod.fst v108, Prod.fst (Prod.snd v108))))) fun (v111 : List (ByteArray × ByteArray × Int × ByteArray) × Int) => some (Sum.inr v111))) F ((Go.Sx.nilT (ByteArray × ByteArray × Int × ByteArray), (0 : Int), (0 : Int)))) fun (v106 : List (ByteArray × ByteArray × Int × ByteArray) × Int) => gd (Decidable.decide ((0 : Nat) + List.length (Prod.fst v106) ≤ List.length (Prod.fst v106)) && Bool.true) (gd (Decidable.decide (List.length (List.take (List.length (Prod.fst v106)) (List.drop (0 : Nat) (Prod.fst v106)) :: Go.Sx.nilT (List (ByteArray × ByteArray × Int × ByteArray)) ++ Prod.fst v105) * (24 : Nat) ≤ (140737488355328 : Nat))) (gd (Decidable.decide (List.length (List.take (List.length (Prod.fst v106)) (List.drop (0 : Nat) (Prod.fst v106)) :: Go.Sx.nilT (List (ByteArray × ByteArray × Int × ByteArray)) ++ Prod.fst v105) ≤ (9223372036854775807 : Nat))) (Option.bind (gd (Bool.true && (Decidable.decide ((0 : Nat) + List.length (List.take (List.length (Prod.fst v106)) (List.drop (0 : Nat) (Prod.fst v106)) :: Go.Sx.nilT (List (ByteArray × ByteArray × Int × ByteArray)) ++ Prod.fst v105) ≤ List.length (List.take (List.length (Prod.fst v106)) (List.drop (0 : Nat) (Prod.fst v106)) :: Go.Sx.nilT (List (ByteArray × ByteArray × Int × ByteArray)) ++ Prod.fst v105)) && (Bool.true && Bool.true))) (some ((List.take (List.length (List.take (List.length (Prod.fst v106)) (List.drop (0 : Nat) (Prod.fst v106)) :: Go.Sx.nilT (List (ByteArray × ByteArray × Int × ByteArray)) ++ Prod.fst v105)) (List.drop (0 : Nat) (List.take (List.length (Prod.fst v106)) (List.drop (0 : Nat) (Prod.fst v106)) :: Go.Sx.nilT (List (ByteArray × ByteArray × Int × ByteArray)) ++ Prod.fst v105)), Go.Sx.w64 (Prod.fst (Prod.snd v105) + Prod.snd v106), Go.Sx.w64 (Prod.snd (Prod.snd v105) + (1 : Int)))))) fun (v107 : List (List (ByteArray × ByteArray × Int × ByteArray)) × Int × Int) => some (Sum.inl v107)))))))) else (some (Sum.inr (Prod.fst v105, Prod.fst (Prod.snd v105))))) F ((Go.Sx.nilT (List (ByteArray × ByteArray × Int × ByteArray)), (0 : Int), (0 : Int)))
noncomputable def sc12 (F : Nat) (l : List (List Run)) (pl tm : Int) (p t q u : List ByteArray) : Option (Bool ⊕ Int) :=
  loopO (σ := Int × Int) (β := Bool ⊕ Int) (fun (v94 : Int × Int) => bif Decidable.decide (Prod.snd v94 < (↑(List.length (l)) : Int)) then (gd (Decidable.decide ((0 : Int) ≤ Prod.snd v94)) (gd (Decidable.decide (Prod.snd v94 < (↑(List.length (l)) : Int))) (gd (Decidable.decide (Int.toNat (Prod.snd v94) < List.length (l))) (Option.bind (loopO (σ := Int × Int) (β := Bool ⊕ Int) (fun (v98 : Int × Int) => bif Decidable.decide (Prod.snd v98 < (↑(List.length (List.getD (l) (Int.toNat (Prod.snd v94)) (Go.Sx.nilT (ByteArray × ByteArray × Int × ByteArray)))) : Int)) then (gd (Decidable.decide ((0 : Int) ≤ Prod.snd v94)) (gd (Decidable.decide (Prod.snd v94 < (↑(List.length (l)) : Int))) (gd (Decidable.decide (Int.toNat (Prod.snd v94) < List.length (l))) (gd (Decidable.decide ((0 : Int) ≤ Prod.snd v98)) (gd (Decidable.decide (Prod.snd v98 < (↑(List.length (List.getD (l) (Int.toNat (Prod.snd v94)) (Go.Sx.nilT (ByteArray × ByteArray × Int × ByteArray)))) : Int))) (gd (Decidable.decide (Int.toNat (Prod.snd v98) < List.length (List.getD (l) (Int.toNat (Prod.snd v94)) (Go.Sx.nilT (ByteArray × ByteArray × Int × ByteArray))))) (Option.bind (Go.Proofs.Tryz.c62 F (p, Prod.fst (List.getD (List.getD (l) (Int.toNat (Prod.snd v94)) (Go.Sx.nilT (ByteArray × ByteArray × Int × ByteArray))) (Int.toNat (Prod.snd v98)) (ByteArray.empty, ByteArray.empty, (0 : Int), ByteArray.empty)))) fun (v99 : Bool) => Option.bind (Go.Proofs.Tryz.c62 F (t, Prod.fst (List.getD (List.getD (l) (Int.toNat (Prod.snd v94)) (Go.Sx.nilT (ByteArray × ByteArray × Int × ByteArray))) (Int.toNat (Prod.snd v98)) (ByteArray.empty, ByteArray.empty, (0 : Int), ByteArray.empty)))) fun (v100 : Bool) => Option.bind (Option.bind (Go.Proofs.Tryz.c62 F (q, Prod.fst (List.getD (List.getD (l) (Int.toNat (Prod.snd v94)) (Go.Sx.nilT (ByteArray × ByteArray × Int × ByteArray))) (Int.toNat (Prod.snd v98)) (ByteArray.empty, ByteArray.empty, (0 : Int), ByteArray.empty)))) fun (v103 : Bool) => bif !v99 == v103 then (some (Bool.true)) else (Option.bind (Go.Proofs.Tryz.c62 F (u, Prod.fst (List.getD (List.getD (l) (Int.toNat (Prod.snd v94)) (Go.Sx.nilT (ByteArray × ByteArray × Int × ByteArray))) (Int.toNat (Prod.snd v98)) (ByteArray.empty, ByteArray.empty, (0 : Int), ByteArray.empty)))) fun (v104 : Bool) => bif !v100 == v104 then (some (Bool.true)) else (bif v99 then (bif v100 then (some (Bool.true)) else (bif v99 then (some (!Go.Sx.strEq (Prod.fst (Prod.snd (List.getD (List.getD (l) (Int.toNat (Prod.snd v94)) (Go.Sx.nilT (ByteArray × ByteArray × Int × ByteArray))) (Int.toNat (Prod.snd v98)) (ByteArray.empty, ByteArray.empty, (0 : Int), ByteArray.empty)))) { data := List.toArray ((116 : UInt8) :: (105 : UInt8) :: (109 : UInt8) :: (101 : UInt8) :: Go.Sx.nilT UInt8) })) else (bif v100 then (some (!Go.Sx.strEq (Prod.fst (Prod.snd (List.getD (List.getD (l) (Int.toNat (Prod.snd v94)) (Go.Sx.nilT (ByteArray × ByteArray × Int × ByteArray))) (Int.toNat (Prod.snd v98)) (ByteArray.empty, ByteArray.empty, (0 : Int), ByteArray.empty)))) { data := List.toArray ((116 : UInt8) :: (105 : UInt8) :: (109 : UInt8) :: (101 : UInt8) :: Go.Sx.nilT UInt8) })) else (some (Bool.false))))) else (bif v99 then (some (!Go.Sx.strEq (Prod.fst (Prod.snd (List.getD (List.getD (l) (Int.toNat (Prod.snd v94)) (Go.Sx.nilT (ByteArray × ByteArray × Int × ByteArray))) (Int.toNat (Prod.snd v98)) (ByteArray.empty, ByteArray.empty, (0 : Int), ByteArray.empty)))) { data := List.toArray ((116 : UInt8) :: (105 : UInt8) :: (109 : UInt8) :: (101 : UInt8) :: Go.Sx.nilT UInt8) })) else (bif v100 then (some (!Go.Sx.strEq (Prod.fst (Prod.snd (List.getD (List.getD (l) (Int.toNat (Prod.snd v94)) (Go.Sx.nilT (ByteArray × ByteArray × Int × ByteArray))) (Int.toNat (Prod.snd v98)) (ByteArray.empty, ByteArray.empty, (0 : Int), ByteArray.empty)))) { data := List.toArray ((116 : UInt8) :: (105 : UInt8) :: (109 : UInt8) :: (101 : UInt8) :: Go.Sx.nilT UInt8) })) else (some (Bool.false))))))) fun (v101 : Bool) => bif v101 then (some (Sum.inr (Sum.inl Bool.false))) else (Option.bind (bif Go.Sx.strEq (Prod.fst (Prod.snd (List.getD (List.getD (l) (Int.toNat (Prod.snd v94)) (Go.Sx.nilT (ByteArray × ByteArray × Int × ByteArray))) (Int.toNat (Prod.snd v98)) (ByteArray.empty, ByteArray.empty, (0 : Int), ByteArray.empty)))) { data := List.toArray ((116 : UInt8) :: (105 : UInt8) :: (109 : UInt8) :: (101 : UInt8) :: Go.Sx.nilT UInt8) } then (some (Go.Sx.w64 (Prod.fst v98 + (1 : Int)))) else (some (Prod.fst v98))) fun (v102 : Int) => some (Sum.inl (v102, Go.Sx.w64 (Prod.snd v98 + (1 : Int)))))))))))) else (some (Sum.inr (Sum.inr (Prod.fst v98))))) F (((0 : Int), (0 : Int)))) fun (v95 : Bool ⊕ Int) => Sum.elim (fun (v96 : Bool) => some (Sum.inr (Sum.inl v96))) (fun (v97 : Int) => some (Sum.inl (Go.Sx.w64 (Prod.fst v94 + (if v97 < (pl) then v97 else pl)), Go.Sx.w64 (Prod.snd v94 + (1 : Int))))) (v95))))) else (some (Sum.inr (Sum.inr (Prod.fst v94))))) F ((tm, (0 : Int)))
noncomputable def fa12 (F : Nat) (l : List (List Run)) (pl tm k0 k1 : Int) (p t : List ByteArray) : Option Bool :=
  bif Decidable.decide ((↑(List.length (l)) : Int) = (0 : Int)) then (some (Bool.true)) else (gd (Decidable.decide ((↑(List.length (l)) : Int) ≠ (0 : Int))) (gd (Decidable.decide ((0 : Int) ≤ Int.tmod (Go.IntKind.wrap Go.IntKind.i64 (k0)) (↑(List.length (l)) : Int))) (gd (Decidable.decide (Int.tmod (Go.IntKind.wrap Go.IntKind.i64 (k0)) (↑(List.length (l)) : Int) < (↑(List.length (l)) : Int))) (gd (Decidable.decide (Int.toNat (Int.tmod (Go.IntKind.wrap Go.IntKind.i64 (k0)) (↑(List.length (l)) : Int)) < List.length (l))) (bif Decidable.decide ((↑(List.length (List.getD (l) (Int.toNat (Int.tmod (Go.IntKind.wrap Go.IntKind.i64 (k0)) (↑(List.length (l)) : Int))) (Go.Sx.nilT (ByteArray × ByteArray × Int × ByteArray)))) : Int) = (0 : Int)) then (some (Bool.true)) else (gd (Decidable.decide ((↑(List.length (List.getD (l) (Int.toNat (Int.tmod (Go.IntKind.wrap Go.IntKind.i64 (k0)) (↑(List.length (l)) : Int))) (Go.Sx.nilT (ByteArray × ByteArray × Int × ByteArray)))) : Int) ≠ (0 : Int))) (gd (Decidable.decide ((0 : Int) ≤ Int.tmod (Go.IntKind.wrap Go.IntKind.i64 (k1)) (↑(List.length (List.getD (l) (Int.toNat (Int.tmod (Go.IntKind.wrap Go.IntKind.i64 (k0)) (↑(List.length (l)) : Int))) (Go.Sx.nilT (ByteArray × ByteArray × Int × ByteArray)))) : Int))) (gd (Decidable.decide (Int.tmod (Go.IntKind.wrap Go.IntKind.i64 (k1)) (↑(List.length (List.getD (l) (Int.toNat (Int.tmod (Go.IntKind.wrap Go.IntKind.i64 (k0)) (↑(List.length (l)) : Int))) (Go.Sx.nilT (ByteArray × ByteArray × Int × ByteArray)))) : Int) < (↑(List.length (List.getD (l) (Int.toNat (Int.tmod (Go.IntKind.wrap Go.IntKind.i64 (k0)) (↑(List.length (l)) : Int))) (Go.Sx.nilT (ByteArray × ByteArray × Int × ByteArray)))) : Int))) (gd (Decidable.decide (Int.toNat (Int.tmod (Go.IntKind.wrap Go.IntKind.i64 (k1)) (↑(List.length (List.getD (l) (Int.toNat (Int.tmod (Go.IntKind.wrap Go.IntKind.i64 (k0)) (↑(List.length (l)) : Int))) (Go.Sx.nilT (ByteArray × ByteArray × Int × ByteArray)))) : Int)) < List.length (List.getD (l) (Int.toNat (Int.tmod (Go.IntKind.wrap Go.IntKind.i64 (k0)) (↑(List.length (l)) : Int))) (Go.Sx.nilT (ByteArray × ByteArray × Int × ByteArray))))) (bif !Go.Sx.strEq (Prod.fst (Prod.snd (List.getD (List.getD (l) (Int.toNat (Int.tmod (Go.IntKind.wrap Go.IntKind.i64 (k0)) (↑(List.length (l)) : Int))) (Go.Sx.nilT (ByteArray × ByteArray × Int × ByteArray))) (Int.toNat (Int.tmod (Go.IntKind.wrap Go.IntKind.i64 (k1)) (↑(List.length (List.getD (l) (Int.toNat (Int.tmod (Go.IntKind.wrap Go.IntKind.i64 (k0)) (↑(List.length (l)) : Int))) (Go.Sx.nilT (ByteArray × ByteArray × Int × ByteArray)))) : Int))) (ByteArray.empty, ByteArray.empty, (0 : Int), ByteArray.empty)))) { data := List.toArray ((116 : UInt8) :: (105 : UInt8) :: (109 : UInt8) :: (101 : UInt8) :: Go.Sx.nilT UInt8) } then (some (Bool.true)) else (Option.bind (Go.Proofs.Tryz.c48 F (l, pl, tm, Prod.fst (List.getD (List.getD (l) (Int.toNat (Int.tmod (Go.IntKind.wrap Go.IntKind.i64 (k0)) (↑(List.length (l)) : Int))) (Go.Sx.nilT (ByteArray × ByteArray × Int × ByteArray))) (Int.toNat (Int.tmod (Go.IntKind.wrap Go.IntKind.i64 (k1)) (↑(List.length (List.getD (l) (Int.toNat (Int.tmod (Go.IntKind.wrap Go.IntKind.i64 (k0)) (↑(List.length (l)) : Int))) (Go.Sx.nilT (ByteArray × ByteArray × Int × ByteArray)))) : Int))) (ByteArray.empty, ByteArray.empty, (0 : Int), ByteArray.empty)), { data := List.toArray ((116 : UInt8) :: (105 : UInt8) :: (109 : UInt8) :: (101 : UInt8) :: Go.Sx.nilT UInt8) }, (if (1 : Int) < (Go.Sx.w64 (Prod.fst (Prod.snd (Prod.snd (List.getD (List.getD (l) (Int.toNat (Int.tmod (Go.IntKind.wrap Go.IntKind.i64 (k0)) (↑(List.length (l)) : Int))) (Go.Sx.nilT (ByteArray × ByteArray × Int × ByteArray))) (Int.toNat (Int.tmod (Go.IntKind.wrap Go.IntKind.i64 (k1)) (↑(List.length (List.getD (l) (Int.toNat (Int.tmod (Go.IntKind.wrap Go.IntKind.i64 (k0)) (↑(List.length (l)) : Int))) (Go.Sx.nilT (ByteArray × ByteArray × Int × ByteArray)))) : Int))) (ByteArray.empty, ByteArray.empty, (0 : Int), ByteArray.empty)))) - Go.IntKind.wrap Go.IntKind.i64 (k1))) then Go.Sx.w64 (Prod.fst (Prod.snd (Prod.snd (List.getD (List.getD (l) (Int.toNat (Int.tmod (Go.IntKind.wrap Go.IntKind.i64 (k0)) (↑(List.length (l)) : Int))) (Go.Sx.nilT (ByteArray × ByteArray × Int × ByteArray))) (Int.toNat (Int.tmod (Go.IntKind.wrap Go.IntKind.i64 (k1)) (↑(List.length (List.getD (l) (Int.toNat (Int.tmod (Go.IntKind.wrap Go.IntKind.i64 (k0)) (↑(List.length (l)) : Int))) (Go.Sx.nilT (ByteArray × ByteArray × Int × ByteArray)))) : Int))) (ByteArray.empty, ByteArray.empty, (0 : Int), ByteArray.empty)))) - Go.IntKind.wrap Go.IntKind.i64 (k1)) else (1 : Int)), { data := List.toArray (Go.Sx.nilT UInt8) })) fun (v88 : List ByteArray × Int) => bif !Decidable.decide (Prod.snd v88 = (0 : Int)) then (some (Bool.false)) else (Option.bind (Option.bind (Go.Proofs.Tryz.c62 F (p, Prod.fst (List.getD (List.getD (l) (Int.toNat (Int.tmod (Go.IntKind.wrap Go.IntKind.i64 (k0)) (↑(List.length (l)) : Int))) (Go.Sx.nilT (ByteArray × ByteArray × Int × ByteArray))) (Int.toNat (Int.tmod (Go.IntKind.wrap Go.IntKind.i64 (k1)) (↑(List.length (List.getD (l) (Int.toNat (Int.tmod (Go.IntKind.wrap Go.IntKind.i64 (k0)) (↑(List.length (l)) : Int))) (Go.Sx.nilT (ByteArray × ByteArray × Int × ByteArray)))) : Int))) (ByteArray.empty, ByteArray.empty, (0 : Int), ByteArray.empty)))) fun (v92 : Bool) => bif v92 then (some (Bool.true)) else (Option.bind (Go.Proofs.Tryz.c62 F (t, Prod.fst (List.getD (List.getD (l) (Int.toNat (Int.tmod (Go.IntKind.wrap Go.IntKind.i64 (k0)) (↑(List.length (l)) : Int))) (Go.Sx.nilT (ByteArray × ByteArray × Int × ByteArray))) (Int.toNat (Int.tmod (Go.IntKind.wrap Go.IntKind.i64 (k1)) (↑(List.length (List.getD (l) (Int.toNat (Int.tmod (Go.IntKind.wrap Go.IntKind.i64 (k0)) (↑(List.length (l)) : Int))) (Go.Sx.nilT (ByteArray × ByteArray × Int × ByteArray)))) : Int))) (ByteArray.empty, ByteArray.empty, (0 : Int), ByteArray.empty)))) fun (v93 : Bool) => some (v93))) fun (v89 : Bool) => Option.bind (bif !v89 then (some (Bool.true)) else (Option.bind (Go.Proofs.Tryz.c62 F (Prod.fst v88, Prod.fst (List.getD (List.getD (l) (Int.toNat (Int.tmod (Go.IntKind.wrap Go.IntKind.i64 (k0)) (↑(List.length (l)) : Int))) (Go.Sx.nilT (ByteArray × ByteArray × Int × ByteArray))) (Int.toNat (Int.tmod (Go.IntKind.wrap Go.IntKind.i64 (k1)) (↑(List.length (List.getD (l) (Int.toNat (Int.tmod (Go.IntKind.wrap Go.IntKind.i64 (k0)) (↑(List.length (l)) : Int))) (Go.Sx.nilT (ByteArray × ByteArray × Int × ByteArray)))) : Int))) (ByteArray.empty, ByteArray.empty, (0 : Int), ByteArray.empty)))) fun (v91 : Bool) => some (!v91))) fun (v90 : Bool) => some (v90)))))))))))))
noncomputable def dd12 (F : Nat) (l : List (List Run)) (pl tm k0 k1 : Int) : Option Bool :=
  Option.bind (Go.Proofs.Tryz.c46 F (l)) fun (v79 : List (List (ByteArray × ByteArray × Int × ByteArray))) => Option.bind (bif Decidable.decide ((6 : Int) < (↑(List.length (l)) : Int)) then (some (Bool.true)) else (Option.bind (Go.Proofs.Tryz.c47 F v79) fun (v112 : Bool) => bif !v112 then (some (Bool.true)) else (Option.bind (Go.Proofs.Tryz.c49 F v79) fun (v113 : Int) => bif !Decidable.decide (v113 = (0 : Int)) then (some (Bool.true)) else (bif Decidable.decide (pl < (0 : Int)) then (some (Bool.true)) else (bif Decidable.decide ((9 : Int) < pl) then (some (Bool.true)) else (bif Decidable.decide (tm < (0 : Int)) then (some (Bool.true)) else (some (Decidable.decide ((9 : Int) < tm))))))))) fun (v80 : Bool) => bif v80 then (some (Bool.true)) else (Option.bind (tl12 F l) fun (v81 : List (List (ByteArray × ByteArray × Int × ByteArray)) × Int) => Option.bind (Go.Proofs.Tryz.c61 F (l, pl, tm)) fun (v82 : List ByteArray × List ByteArray × Int) => Option.bind (Go.Proofs.Tryz.c61 F (Prod.fst v81, pl, tm)) fun (v83 : List ByteArray × List ByteArray × Int) => Option.bind (bif !Decidable.decide (Go.Sx.w64 (Prod.snd (Prod.snd v82) + Prod.snd (Prod.snd v83)) = (0 : Int)) then (some (Bool.true)) else (bif !Decidable.decide ((↑(List.length (Prod.fst v82)) : Int) = (↑(List.length (Prod.fst v83)) : Int)) then (some (Bool.true)) else (some (!Decidable.decide ((↑(List.length (Prod.fst (Prod.snd v82))) : Int) = (↑(List.length (Prod.fst (Prod.snd v83))) : Int)))))) fun (v84 : Bool) => bif v84 then (some (Bool.false)) else (Option.bind (sc12 F l pl tm (Prod.fst v82) (Prod.fst (Prod.snd v82)) (Prod.fst v83) (Prod.fst (Prod.snd v83))) fun (v85 : Bool ⊕ Int) => Sum.elim (fun (v86 : Bool) => some (v86)) (fun (v87 : Int) => bif Decidable.decide (Go.Sx.w64 ((↑(List.length (Prod.fst v82)) : Int) + (↑(List.length (Prod.fst (Prod.snd v82))) : Int)) < (if (Prod.snd v81) < v87 then Prod.snd v81 else v87)) then (some (Bool.false)) else (fa12 F l pl tm k0 k1 (Prod.fst v82) (Prod.fst (Prod.snd v82)))) (v85)))
theorem c12_dd12 (F : Nat) (l : List (List Run)) (pl tm k0 k1 : Int) : c12 F (l, (pl, tm), k0, k1) = dd12 F l pl tm k0 k1 := by kernel_rfl
end Go.Proofs.Tryz
end
section
set_option maxRecDepth 100000
set_option linter.unusedVariables false
set_option linter.unusedSimpArgs false
namespace Go.Proofs.Tryz
open Go Go.Sx
def RunOk (r : Run) : Prop := nameB r.1 = true ∧ runE r = 0
theorem runI_step {r : Run} {s : List ByteArray} (h1 : RunOk r) (h2 : r.1 ∉ s) : runI r s = .inl (s ++ [r.1]) := by
  have h3 : ¬ seenB r.1 s = true := fun h => h2 (seenB_iff.1 h)
  have h4 : ¬ nameB r.1 = false := by rw [h1.1]; simp
  have h5 : ¬ runE r ≠ 0 := fun h => h h1.2
  unfold runI
  rw [if_neg h4, if_neg h3, if_neg h5]
theorem runI_inv {r : Run} {s s' : List ByteArray} (h : runI r s = .inl s') : RunOk r ∧ r.1 ∉ s ∧ s' = s ++ [r.1] := by
  unfold runI at h
  split at h
  · cases h
  · rename_i h1
    split at h
    · cases h
    · rename_i h2
      split at h
      · cases h
      · rename_i h3
        cases h
        exact ⟨⟨by simpa using h1, by simpa using h3⟩, fun h => h2 (seenB_iff.2 h), rfl⟩
theorem runI_go : ∀ {x : List Run} {s : List ByteArray}, (∀ r ∈ x, RunOk r) → (x.map (·.1)).Nodup → (∀ r ∈ x, r.1 ∉ s) → goL runI .inl x s = .inl (s ++ x.map (·.1))
  | [], s, _, _, _ => by rw [goL_nil]; simp
  | r :: x, s, h1, h2, h3 => by
    rw [List.map_cons, List.nodup_cons] at h2
    rw [goL_cons, runI_step (h1 r List.mem_cons_self) (h3 r List.mem_cons_self)]
    simp only
    rw [runI_go (fun y hy => h1 y (List.mem_cons_of_mem _ hy)) h2.2 (fun y hy hm => by
      rcases List.mem_append.1 hm with hm | hm
      · exact h3 y (List.mem_cons_of_mem _ hy) hm
      · have := List.mem_singleton.1 hm
        exact h2.1 (this ▸ List.mem_map_of_mem hy))]
    simp
theorem runI_all : ∀ {x : List Run} {s s' : List ByteArray}, goL runI .inl x s = .inl s' → (∀ r ∈ x, RunOk r) ∧ (x.map (·.1)).Nodup ∧ (∀ r ∈ x, r.1 ∉ s) ∧ s' = s ++ x.map (·.1)
  | [], s, s', h => by
    rw [goL_nil] at h
    cases h
    exact ⟨fun _ h => (by cases h), List.nodup_nil, fun _ h => (by cases h), by simp⟩
  | r :: x, s, s', h => by
    rw [goL_cons] at h
    cases hr : runI r s with
    | inr b =>
      rw [hr] at h
      simp only at h
      subst h
      exfalso
      unfold runI at hr
      split at hr
      · cases hr
      · split at hr
        · cases hr
        · split at hr <;> cases hr
    | inl s1 =>
      rw [hr] at h
      simp only at h
      obtain ⟨k1, k2, rfl⟩ := runI_inv hr
      obtain ⟨h1, h2, h3, h4⟩ := runI_all h
      refine ⟨fun y hy => ?_, ?_, fun y hy => ?_, ?_⟩
      · rcases List.mem_cons.1 hy with rfl | hy
        · exact k1
        · exact h1 y hy
      · rw [List.map_cons, List.nodup_cons]
        refine ⟨fun hm => ?_, h2⟩
        obtain ⟨y, hy, e⟩ := List.mem_map.1 hm
        exact h3 y hy (List.mem_append.2 (.inr (List.mem_singleton.2 e)))
      · rcases List.mem_cons.1 hy with rfl | hy
        · exact k2
        · exact fun hm => h3 y hy (List.mem_append.2 (.inl hm))
      · rw [h4]; simp
theorem runH_go : ∀ {l : List (List Run)} {s : List ByteArray}, (∀ x ∈ l, x.length ≤ 160) → (∀ x ∈ l, ∀ r ∈ x, RunOk r) → (l.flatten.map (·.1)).Nodup → (∀ r ∈ l.flatten, r.1 ∉ s) → goL runH (fun _ => (0 : Int)) l s = 0
  | [], s, _, _, _, _ => rfl
  | x :: l, s, h0, h1, h2, h3 => by
    rw [List.flatten_cons, List.map_append, List.nodup_append] at h2
    have hx := h0 x List.mem_cons_self
    have e : runH x s = .inl (s ++ x.map (·.1)) := by
      unfold runH
      rw [if_neg (by omega)]
      exact runI_go (h1 x List.mem_cons_self) h2.1 (fun r hr => h3 r (by rw [List.flatten_cons]; exact List.mem_append.2 (.inl hr)))
    rw [goL_cons, e]
    simp only
    refine runH_go (fun y hy => h0 y (List.mem_cons_of_mem _ hy)) (fun y hy => h1 y (List.mem_cons_of_mem _ hy)) h2.2.1 (fun r hr hm => ?_)
    rcases List.mem_append.1 hm with hm | hm
    · exact h3 r (by rw [List.flatten_cons]; exact List.mem_append.2 (.inr hr)) hm
    · exact h2.2.2 _ hm _ (List.mem_map_of_mem hr) rfl
theorem runH_all : ∀ {l : List (List Run)} {s : List ByteArray}, goL runH (fun _ => (0 : Int)) l s = 0 → (∀ x ∈ l, x.length ≤ 160) ∧ (∀ x ∈ l, ∀ r ∈ x, RunOk r) ∧ (l.flatten.map (·.1)).Nodup ∧ (∀ r ∈ l.flatten, r.1 ∉ s)
  | [], s, _ => ⟨fun _ h => (by cases h), fun _ h => (by cases h), List.nodup_nil, fun _ h => (by cases h)⟩
  | x :: l, s, h => by
    rw [goL_cons] at h
    unfold runH at h
    by_cases h0 : 160 < x.length
    · simp [h0] at h
    · rw [if_neg h0] at h
      cases e : goL runI .inl x s with
      | inr b => rw [e] at h; exact absurd h (runI_err e)
      | inl s' =>
        rw [e] at h
        simp only at h
        obtain ⟨k1, k2, k3, rfl⟩ := runI_all e
        obtain ⟨g0, g1, g2, g3⟩ := runH_all h
        refine ⟨fun y hy => ?_, fun y hy => ?_, ?_, fun r hr => ?_⟩
        · rcases List.mem_cons.1 hy with rfl | hy
          · omega
          · exact g0 y hy
        · rcases List.mem_cons.1 hy with rfl | hy
          · exact k1
          · exact g1 y hy
        · rw [List.flatten_cons, List.map_append, List.nodup_append]
          refine ⟨k2, g2, fun a ha b hb e => ?_⟩
          obtain ⟨y, hy, rfl⟩ := List.mem_map.1 hb
          exact g3 y hy (List.mem_append.2 (.inr (e ▸ ha)))
        · rw [List.flatten_cons] at hr
          rcases List.mem_append.1 hr with hr | hr
          · exact k3 r hr
          · exact fun hm => g3 r hr (List.mem_append.2 (.inl hm))
theorem runC_iff {l : List (List Run)} : runC l = 0 ↔ l.length ≤ 16 ∧ (∀ x ∈ l, x.length ≤ 160) ∧ (∀ x ∈ l, ∀ r ∈ x, RunOk r) ∧ NamesOk l := by
  unfold runC
  constructor
  · intro h
    split at h
    · cases h
    · obtain ⟨g0, g1, g2, _⟩ := runH_all h
      exact ⟨by omega, g0, g1, g2⟩
  · rintro ⟨h0, h1, h2, h3⟩
    rw [if_neg (by omega)]
    exact runH_go h1 h2 h3 (fun _ _ h => by cases h)
theorem mem_turn {l : List (List Run)} {x : List Run} (h : x ∈ turn l) : ∃ y ∈ l, x = y.reverse := by
  unfold turn at h
  rw [List.mem_reverse, List.mem_map] at h
  obtain ⟨y, hy, e⟩ := h
  exact ⟨y, hy, e.symm⟩
theorem turn_flat (l : List (List Run)) : (turn l).flatten.Perm l.flatten := by
  have := flat_turn (l := l) (f := fun x => x) fun x => List.reverse_perm x
  simpa using this
theorem runC_turn {l : List (List Run)} (h : runC l = 0) : runC (turn l) = 0 := by
  rw [runC_iff] at h ⊢
  obtain ⟨h0, h1, h2, h3⟩ := h
  refine ⟨by simpa [turn] using h0, fun x hx => ?_, fun x hx r hr => ?_, ?_⟩
  · obtain ⟨y, hy, rfl⟩ := mem_turn hx
    rw [List.length_reverse]; exact h1 y hy
  · obtain ⟨y, hy, rfl⟩ := mem_turn hx
    exact h2 y hy r (List.mem_reverse.1 hr)
  · exact ((turn_flat l).map _).nodup_iff.2 h3
theorem ShortR.turn {l : List (List Run)} (h : ShortR l) : ShortR (turn l) := by
  refine ⟨by simpa [Tryz.turn] using h.1, fun x hx => ?_⟩
  obtain ⟨y, hy, rfl⟩ := mem_turn hx
  obtain ⟨a, b, c⟩ := h.2 y hy
  refine ⟨by rwa [List.length_reverse], by rwa [List.length_reverse], fun r hr => c r (List.mem_reverse.1 hr)⟩
theorem runE_time {r : Run} (h : runE r = 0) (ht : tB r = true) : 1 ≤ r.2.2.1 ∧ r.2.2.1 ≤ 863999999 := by
  have hk : strEq r.2.1 kN = false := by
    rw [show r.2.1 = kT from strEq_true.1 ht]
    rfl
  have hm : markE r.2.1 r.2.2.1 r.2.2.2 = 0 := by
    unfold runE at h
    by_cases hm : markE r.2.1 r.2.2.1 r.2.2.2 = 0
    · exact hm
    · rw [if_neg hm] at h; exact absurd h hm
  have ht' : strEq r.2.1 kT = true := ht
  unfold markE at hm
  rw [if_neg (by rw [hk]; simp), if_pos ht'] at hm
  split at hm
  · cases hm
  · split at hm
    · cases hm
    · omega
theorem runE_fast {n : ByteArray} {v : Int} (h1 : 1 ≤ v) (h2 : v ≤ 863999999) : runE (n, kT, v, k0) = 0 := by
  have hm : markE kT v k0 = 0 := by
    unfold markE
    rw [if_neg (by rw [show strEq kT kN = false from rfl]; simp), if_pos (strEq_self kT), if_neg (by rw [strEq_self]; simp), if_neg (by omega)]
  unfold runE
  simp only [hm, if_true]
  rw [if_neg]
  rw [strEq_self]
  simp
end Go.Proofs.Tryz
end

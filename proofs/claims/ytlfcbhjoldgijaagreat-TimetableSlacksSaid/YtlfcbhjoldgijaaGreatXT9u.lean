/- Plain law: ends and orders of tables. Plain law: the program's search, all three of its uses. And further parts. -/
import Derived.Test.YtlfcbhjoldgijaaGreatXTtT
import Derived.Test.YtlfcbhjoldgijaaGreatXSxQh
import Derived.Test.YtlfcbhjoldgijaaGreatXTtCx
set_option linter.unusedVariables false
set_option linter.unusedSimpArgs false
set_option linter.all false
set_option maxRecDepth 1000000
namespace Go.Proofs.Tryz
open Go Go.Sx
def lexI : List Int → List Int → Int
  | [], [] => 0
  | [], _ :: _ => -1
  | _ :: _, [] => 1
  | a :: l, b :: m => if a < b then -1 else if b < a then 1 else lexI l m
theorem lexI_self : ∀ l, lexI l l = 0
  | [] => rfl
  | a :: l => by simp [lexI, lexI_self l]
theorem lexI_neg : ∀ l m, lexI m l = - lexI l m
  | [], [] => rfl
  | [], _ :: _ => rfl
  | _ :: _, [] => rfl
  | a :: l, b :: m => by
    unfold lexI
    by_cases h : a < b
    · have : ¬ b < a := by omega
      simp [h, this]
    · by_cases h2 : b < a
      · simp [h, h2]
      · simp only [h, h2, if_false]
        exact lexI_neg l m
theorem lexI_trans : ∀ {l m n : List Int}, lexI l m ≤ 0 → lexI m n ≤ 0 → lexI l n ≤ 0
  | [], _, [], _, _ => by simp [lexI]
  | [], _, _ :: _, _, _ => by simp [lexI]
  | a :: l, [], _, h, _ => by simp [lexI] at h
  | a :: l, b :: m, [], _, h => by simp [lexI] at h
  | a :: l, b :: m, c :: n, h1, h2 => by
    unfold lexI at h1 h2 ⊢
    by_cases a1 : a < b
    · have : a < c := by
        by_cases b1 : b < c
        · omega
        · rw [if_neg b1] at h2
          by_cases b2 : c < b
          · rw [if_pos b2] at h2; omega
          · omega
      rw [if_pos this]; omega
    · rw [if_neg a1] at h1
      by_cases a2 : b < a
      · rw [if_pos a2] at h1; omega
      · rw [if_neg a2] at h1
        have hab : a = b := by omega
        subst hab
        by_cases b1 : a < c
        · rw [if_pos b1]; omega
        · rw [if_neg b1] at h2 ⊢
          by_cases b2 : c < a
          · rw [if_pos b2] at h2; omega
          · rw [if_neg b2] at h2 ⊢
            exact lexI_trans h1 h2
end Go.Proofs.Tryz
section
namespace Go.Proofs.Tryz
open Go Go.Sx
end Go.Proofs.Tryz
end
namespace Go.Proofs.Tryz
open Go Go.Sx
structure Hol (p : Pln) (L : List Rul) (f : List Int) : Prop where
  len : f.length = p.1.length
  rng : ∀ i, i < p.1.length → 0 ≤ fL f i ∧ fL f i ≤ 1099511627776
  rul : ∀ r ∈ L, holdS p f r = true
noncomputable def lx35 (F : Nat) : LK := lS del84_ok (lC (pc65_ok F) (lS (PF.sm_ok (pf85_ok F)) (lC (pc86_ok F) (lC (pc83_ok F) (lC (pc82_ok F) lN)))))
noncomputable def pc35 (F : Nat) : PC := qT (lx35 F) (.two .leaf (.two .leaf (.two .leaf (.two .leaf (.two .leaf (.two (.two .leaf (.one (.virt 6 3 [.int .i64] (.loop ⟨[.vec 1 3 [.int .i64], .slot 22 (.val (.int .i64))], [(6, .own 1)]⟩ [(.exit 0, ⟨[.vec 1 3 [.int .i64]], [(6, .own 1)]⟩)] ⟨[29, 22, 25, 26, 27, 28, 6, 7, 24, 23], [1], [1]⟩ F .leaf)))) (.two (.two .leaf (.one (.weak 1 [6] (.sealing 1 3 [.int .i64] (.loop ⟨[.slot 6 (.val (.seq [.int .i64])), .slot 8 (.val (.int .i64))], []⟩ [(.exit 2, ⟨[.slot 6 (.val (.seq [.int .i64]))], []⟩)] ⟨[37, 38, 39, 40, 41, 42, 9, 49, 6, 48, 47, 46, 45, 44, 43, 8, 36, 35, 34, 33], [], []⟩ F (.two .leaf (.two (.one (.two .leaf (.two (.weak 2 [9] (.sealing 2 3 [.int .i64] .leaf)) (.join [(.normal, ⟨[.slot 6 (.val (.seq [.int .i64]))], []⟩)] ⟨[6, 49], [], []⟩ .leaf)))) .leaf))))))) .leaf))))))) f35 [.agg [sR, sO, .int .i64]] [.val (.seq [.int .i64]), .val (.int .i64)]
theorem pc35_ok (F : Nat) : PCOk cx 35 (pc35 F) := qT_ok (by kernel_rfl)
noncomputable def lx36 (F : Nat) : LK := lC (pc65_ok F) (lC (pc87_ok F) (lC (pc86_ok F) (lC (pc83_ok F) (lC (pc77_ok F) (lC (pc88_ok F) (lC (pc82_ok F) lN))))))
noncomputable def pc36 (F : Nat) : PC := qT (lx36 F) (.two .leaf (.two .leaf (.two .leaf (.two .leaf (.two .leaf (.two .leaf (.two (.two .leaf (.one (.loop ⟨[.slot 6 (.val (.seq [.int .i64])), .slot 7 (.val (.bool)), .slot 24 (.val (.int .i64))], []⟩ [(.exit 0, ⟨[.slot 6 (.val (.seq [.int .i64])), .slot 7 (.val (.bool))], []⟩)] ⟨[72, 24, 27, 28, 29, 30, 31, 32, 33, 34, 35, 36, 37, 38, 50, 41, 42, 43, 44, 45, 49, 48, 47, 46, 10, 40, 39, 65, 66, 67, 68, 69, 70, 7, 6, 71, 64, 63, 62, 61, 60, 59, 58, 57, 56, 55, 54, 53, 52, 51, 9, 8, 26, 25], [], []⟩ F (.two .leaf (.two .leaf (.two (.join [(.normal, ⟨[.slot 6 (.val (.seq [.int .i64])), .slot 7 (.val (.bool))], []⟩)] ⟨[27, 28, 29, 30, 31, 32, 33, 34, 35, 36, 37, 38, 50, 41, 42, 43, 44, 45, 49, 48, 47, 46, 10, 40, 39, 65, 66, 67, 68, 69, 70, 7, 6, 71, 64, 63, 62, 61, 60, 59, 58, 57, 56, 55, 54, 53, 52, 51, 9, 8, 26], [], []⟩ (.one (.two .leaf (.two (.two (.join [(.normal, ⟨[.slot 35 (.val (.bool))], []⟩)] ⟨[35, 34, 33, 32, 31, 30, 29, 28, 27], [], []⟩ .leaf) .leaf) (.two .leaf (.two (.two .leaf (.one (.virt 9 3 [.int .i64] (.loop ⟨[.vec 1 3 [.int .i64], .slot 38 (.val (.int .i64))], [(9, .own 1)]⟩ [(.exit 2, ⟨[.vec 1 3 [.int .i64]], [(9, .own 1)]⟩)] ⟨[50, 38, 41, 42, 43, 44, 45, 9, 49, 48, 47, 46, 10, 40, 39], [1], [1]⟩ F (.two .leaf (.two .leaf (.two (.one (.two .leaf (.two .leaf (.join [(.normal, ⟨[.vec 1 3 [.int .i64]], [(9, .own 1)]⟩)] ⟨[9, 49, 48, 47, 46], [1], [1]⟩ .leaf)))) .leaf))))))) (.two (.two (.join [(.normal, ⟨[.slot 64 (.val (.bool))], []⟩)] ⟨[64, 63, 62, 61, 60, 59, 58, 57, 56, 55, 54, 53, 52, 51], [], []⟩ .leaf) .leaf) (.two (.weak 1 [9] (.sealing 1 3 [.int .i64] .leaf)) (.join [(.normal, ⟨[.slot 6 (.val (.seq [.int .i64])), .slot 7 (.val (.bool))], []⟩)] ⟨[7, 6, 71], [], []⟩ .leaf))))))))) .leaf)))))) .leaf))))))) f36 [.agg [sR, sO, .int .i64]] [.val (.seq [.int .i64]), .val (.int .i64)]
theorem pc36_ok (F : Nat) : PCOk cx 36 (pc36 F) := qT_ok (by kernel_rfl)
end Go.Proofs.Tryz
section
namespace Go.Proofs.Tryz
open Go Go.Sx
noncomputable section
def lx75 (F : Nat) : LK := lN
def c75 (F : Nat) (a : Int) : Option (List Bool) :=
  gd (decide ((0 : Int) ≤ a)) (gd (decide (a ≤ a)) (gd (decide ((↑(1 : Nat) : Int) * a ≤ (281474976710656 : Int))) (gd (decide (a ≤ (9223372036854775807 : Int))) (Option.bind (loopO (σ := List Bool × Int) (β := List Bool) (fun (v9 : List Bool × Int) => bif decide (v9.2 < a) then (gd (decide ((0 : Int) ≤ v9.2)) (gd (decide (v9.2 < (↑(Int.toNat a) : Int))) (gd (decide ((0 : Nat) + Int.toNat v9.2 < List.length v9.1)) (some (Sum.inl (List.set v9.1 ((0 : Nat) + Int.toNat v9.2) true, w64 (v9.2 + (1 : Int)))))))) else (some (Sum.inr v9.1))) F ((List.replicate (Int.toNat a) false, (0 : Int)))) fun (v8 : List Bool) => gd (decide (Int.toNat a = List.length v8)) (some (v8))))))
def pf75 (F : Nat) : PF := { ats := [.val (.int .i64)], ty := 4, row := [.bool], code := c75 F }
theorem c75_eq (F : Nat) (a : Int) : codeF cx (lx75 F).x 1000 (.two .leaf (.two .leaf (.two (.two .leaf (.one (.loop ⟨[.vec 0 4 [.bool], .slot 4 (.val (.int .i64))], []⟩ [(.exit 0, ⟨[.vec 0 4 [.bool]], []⟩)] ⟨[12, 13, 14, 4, 11, 10, 9, 8, 7], [0], []⟩ F .leaf))) .leaf))) f75 (bodyOf f75) [.val (.int .i64)] 4 [.bool] a = c75 F a := by kernel_rfl
theorem pf75_ok (F : Nat) : PFOk cx 75 (pf75 F) := PFOk.of_eval cx_ok (lx75 F).ok (n := 1000) (an := (.two .leaf (.two .leaf (.two (.two .leaf (.one (.loop ⟨[.vec 0 4 [.bool], .slot 4 (.val (.int .i64))], []⟩ [(.exit 0, ⟨[.vec 0 4 [.bool]], []⟩)] ⟨[12, 13, 14, 4, 11, 10, 9, 8, 7], [0], []⟩ F .leaf))) .leaf)))) (fn := f75) (c := bodyOf f75) (by kernel_rfl) (by kernel_rfl) (fun a y h => (c75_eq F a).trans h) (by kernel_rfl)
def lx80 (F : Nat) : LK := lN
def pc80 (F : Nat) : PC := qT (lx80 F) (.two .leaf (.two (.two .leaf (.one (.loop ⟨[.slot 5 (.val (.int .i64))], []⟩ [(.ret, ⟨[.slot 4 (.val (.bool))], []⟩), (.exit 0, ⟨[], []⟩)] ⟨[12, 13, 14, 15, 16, 17, 18, 19, 20, 4, 29, 28, 27, 26, 25, 24, 23, 22, 21, 5, 11, 10, 9, 8, 7, 6], [], []⟩ F .leaf))) .leaf)) f80 [.val (.seq [.int .i64]), .val (.seq [.int .i64])] [.val (.bool)]
theorem pc80_ok (F : Nat) : PCOk cx 80 (pc80 F) := qT_ok (by kernel_rfl)
def lx114 (g : AEls [.val (.int .i64)] → Option (AEls [.val (.seq [.seq [.int .i64]])])) (F : Nat) : Lx := { ext := [(114, (PC.mk [.val (.int .i64)] [.val (.seq [.seq [.int .i64]])] g).sm)], anns := [], still := [] }
def b114 (g : Int → Option (List (List Int))) (F : Nat) (a : Int) : Option (List (List Int)) :=
  let z2 := (140737488355328 : Nat); let z1 := (9223372036854775807 : Nat); bif decide (a = (0 : Int)) then (some (nilT Int :: nilT (List Int))) else (Option.bind (g (w64 (a - (1 : Int)))) fun (v26 : List (List Int)) => let z3 := (↑(List.length v26) : Int); Option.bind (loopO (σ := List (List Int) × Int) (β := List (List Int)) (fun (v28 : List (List Int) × Int) => let z5 := decide (Int.toNat v28.2 < List.length v26); let z4 := List.getD v26 (Int.toNat v28.2) (nilT Int); bif decide (v28.2 < z3) then (Option.bind (gd (decide (List.length v28.1 = List.length v28.1) && true && (true && true)) (some ((v28.1, (0 : Int))))) fun (v29 : List (List Int) × Int) => let z7 := (↑(List.length z4) : Int); let z6 := (List.take (Int.toNat z7) z4); Option.bind (loopO (σ := List (List Int) × Int) (β := List (List Int)) (fun (v32 : List (List Int) × Int) => let z12 := List.take (Int.toNat v32.2) z4; let z11 := decide (List.length v32.1 = List.length v32.1); let z10 := (nilT Int ++ List.drop (0 : Nat) z12); let z9 := (nilT Int ++ List.drop (0 : Nat) z12 ++ w64 (a - (1 : Int)) :: nilT Int); let z8 := (nilT Int ++ List.drop (0 : Nat) z12 ++ w64 (a - (1 : Int)) :: nilT Int ++ List.drop (Int.toNat v32.2) z6); bif decide (v32.2 < a) then (gd (decide ((0 : Int) ≤ v28.2)) (gd (decide (v28.2 < z3)) (gd z5 (gd (decide ((0 : Int) ≤ v32.2)) (gd (decide (v32.2 ≤ z7)) (gd (decide ((0 : Int) ≤ v28.2)) (gd (decide (v28.2 < z3)) (gd z5 (gd (decide ((0 : Int) ≤ v32.2)) (gd (decide (v32.2 ≤ z7)) (gd (decide (z7 ≤ z7)) (Option.bind (Option.bind (gd (decide (List.length z10 * (8 : Nat) ≤ z2)) (gd (decide (List.length z10 ≤ z1)) (gd (decide (List.length z10 = List.length z10)) (gd (decide (List.length z9 * (8 : Nat) ≤ z2)) (gd (decide (List.length z9 ≤ z1)) (gd (decide (List.length z9 = List.length z9)) (gd (decide (List.length z8 * (8 : Nat) ≤ z2)) (gd (decide (List.length z8 ≤ z1)) (gd (decide ((0 : Nat) + List.length z8 ≤ List.length z8) && true) (gd z11 (gd (decide (List.length (v32.1 ++ List.take (1 : Nat) (List.drop (0 : Nat) (List.take (List.length z8) (List.drop (0 : Nat) z8) :: nilT (List Int)))) * (24 : Nat) ≤ z2)) (gd (decide (List.length (v32.1 ++ List.take (1 : Nat) (List.drop (0 : Nat) (List.take (List.length z8) (List.drop (0 : Nat) z8) :: nilT (List Int)))) ≤ z1)) (Option.bind (gd (decide (List.length (v32.1 ++ List.take (1 : Nat) (List.drop (0 : Nat) (List.take (List.length z8) (List.drop (0 : Nat) z8) :: nilT (List Int)))) = List.length (v32.1 ++ List.take (1 : Nat) (List.drop (0 : Nat) (List.take (List.length z8) (List.drop (0 : Nat) z8) :: nilT (List Int))))) && true && (true && true)) (some ((v32.1 ++ List.take (1 : Nat) (List.drop (0 : Nat) (List.take (List.length z8) (List.drop (0 : Nat) z8) :: nilT (List Int))), w64 (v32.2 + (1 : Int)))))) fun (v39 : List (List Int) × Int) => some (Sum.inl v39)))))))))))))) fun (v36 : List (List Int) × Int ⊕ List (List Int)) => let z14 := (List.drop (0 : Nat) (List.take (List.length z8) (List.drop (0 : Nat) z8) :: nilT (List Int))); let z13 := (v32.1 ++ List.take (1 : Nat) z14); Option.bind (gd (decide (List.length z10 * (8 : Nat) ≤ z2)) (gd (decide (List.length z10 ≤ z1)) (gd (decide (List.length z10 = List.length z10)) (gd (decide (List.length z9 * (8 : Nat) ≤ z2)) (gd (decide (List.length z9 ≤ z1)) (gd (decide (List.length z9 = List.length z9)) (gd (decide (List.length z8 * (8 : Nat) ≤ z2)) (gd (decide (List.length z8 ≤ z1)) (gd (decide ((0 : Nat) + List.length z8 ≤ List.length z8) && true) (gd z11 (gd (decide (List.length z13 * (24 : Nat) ≤ z2)) (gd (decide (List.length z13 ≤ z1)) (Option.bind (gd (decide (List.length z13 = List.length z13) && true && (true && true)) (some ((v32.1 ++ List.take (1 : Nat) z14, w64 (v32.2 + (1 : Int)))))) fun (v38 : List (List Int) × Int) => some (Sum.inl v38)))))))))))))) fun (v37 : List (List Int) × Int ⊕ List (List Int)) => gd (sumEq (CEls.eqv (Cel.vec (0 : Nat) (49 : Nat) (Ty.seq (Ty.int Go.IntKind.i64 :: nilT Ty) :: nilT Ty) :: Cel.slot (6 : Nat) (ATy.val (Ty.int Go.IntKind.i64)) :: nilT Cel)) (AltsEl.eqv ((Go.Exit.exit (2 : Nat), { cells := Cel.vec (0 : Nat) (49 : Nat) (Ty.seq (Ty.int Go.IntKind.i64 :: nilT Ty) :: nilT Ty) :: nilT Cel, owns := ((3 : Nat), Lk.own (0 : Nat)) :: nilT (Nat × Lk) }) :: nilT (Go.Exit × Tmpl))) v36 v37) (some (v36))) fun (v33 : List (List Int) × Int ⊕ List (List Int)) => let z16 := (List.drop (0 : Nat) (List.take (List.length z8) (List.drop (0 : Nat) z8) :: nilT (List Int))); let z15 := (v32.1 ++ List.take (1 : Nat) z16); Option.bind (gd (decide (List.length z10 * (8 : Nat) ≤ z2)) (gd (decide (List.length z10 ≤ z1)) (gd (decide (List.length z10 = List.length z10)) (gd (decide (List.length z9 * (8 : Nat) ≤ z2)) (gd (decide (List.length z9 ≤ z1)) (gd (decide (List.length z9 = List.length z9)) (gd (decide (List.length z8 * (8 : Nat) ≤ z2)) (gd (decide (List.length z8 ≤ z1)) (gd (decide ((0 : Nat) + List.length z8 ≤ List.length z8) && true) (gd z11 (gd (decide (List.length z15 * (24 : Nat) ≤ z2)) (gd (decide (List.length z15 ≤ z1)) (Option.bind (gd (decide (List.length z15 = List.length z15) && true && (true && true)) (some ((v32.1 ++ List.take (1 : Nat) z16, w64 (v32.2 + (1 : Int)))))) fun (v35 : List (List Int) × Int) => some (Sum.inl v35)))))))))))))) fun (v34 : List (List Int) × Int ⊕ List (List Int)) => gd (sumEq (CEls.eqv (Cel.vec (0 : Nat) (49 : Nat) (Ty.seq (Ty.int Go.IntKind.i64 :: nilT Ty) :: nilT Ty) :: Cel.slot (6 : Nat) (ATy.val (Ty.int Go.IntKind.i64)) :: nilT Cel)) (AltsEl.eqv ((Go.Exit.exit (2 : Nat), { cells := Cel.vec (0 : Nat) (49 : Nat) (Ty.seq (Ty.int Go.IntKind.i64 :: nilT Ty) :: nilT Ty) :: nilT Cel, owns := ((3 : Nat), Lk.own (0 : Nat)) :: nilT (Nat × Lk) }) :: nilT (Go.Exit × Tmpl))) v33 v34) (some (v33)))))))))))))) else (Option.bind (gd (decide (List.length v32.1 = List.length v32.1) && true && true) (some v32.1)) fun (v40 : List (List Int)) => some (Sum.inr v40))) F (v29)) fun (v30 : List (List Int)) => Option.bind (gd (decide (List.length v30 = List.length v30) && true && (true && true)) (some ((v30, w64 (v28.2 + (1 : Int)))))) fun (v31 : List (List Int) × Int) => some (Sum.inl v31)) else (Option.bind (gd (decide (List.length v28.1 = List.length v28.1) && true && true) (some v28.1)) fun (v41 : List (List Int)) => some (Sum.inr v41))) F ((nilT (List Int), (0 : Int)))) fun (v27 : List (List Int)) => gd (decide ((0 : Nat) + List.length v27 ≤ List.length v27)) (some (List.take (List.length v27) (List.drop (0 : Nat) v27))))
def r114 (F n : Nat) : Int → Option (List (List Int)) := Nat.rec (motive := fun _ => Int → Option (List (List Int))) (fun _ => none) (fun _ ih => b114 ih F) n
def c114 (F : Nat) (a : Int) : Option (List (List Int)) := r114 F F a
def pr114 (F n : Nat) : PC := { ats := [.val (.int .i64)], rts := [.val (.seq [.seq [.int .i64]])], code := r114 F n }
def pc114 (F : Nat) : PC := { ats := [.val (.int .i64)], rts := [.val (.seq [.seq [.int .i64]])], code := c114 F }
theorem b114_eq (g : Int → Option (List (List Int))) (F : Nat) (a : Int) : codeOf cx (lx114 g F) 1000 (.two .leaf (.two .leaf (.two .leaf (.two .leaf (.two (.two .leaf (.one (.virt 3 49 [.seq [.int .i64]] (.loop ⟨[.vec 0 49 [.seq [.int .i64]], .slot 5 (.val (.int .i64))], [(3, .own 0)]⟩ [(.exit 0, ⟨[.vec 0 49 [.seq [.int .i64]]], [(3, .own 0)]⟩)] ⟨[6, 24, 25, 26, 27, 28, 29, 30, 31, 32, 33, 34, 35, 36, 37, 38, 39, 40, 41, 42, 43, 44, 45, 3, 23, 22, 21, 20, 19, 5, 18, 17, 16, 15, 14, 13], [0], [0]⟩ F (.two .leaf (.two (.one (.two .leaf (.one (.loop ⟨[.vec 0 49 [.seq [.int .i64]], .slot 6 (.val (.int .i64))], [(3, .own 0)]⟩ [(.exit 2, ⟨[.vec 0 49 [.seq [.int .i64]]], [(3, .own 0)]⟩)] ⟨[24, 25, 26, 27, 28, 29, 30, 31, 32, 33, 34, 35, 36, 37, 38, 39, 40, 41, 42, 43, 44, 45, 3, 6, 23, 22, 21, 20, 19], [0], [0]⟩ F .leaf)))) .leaf)))))) .leaf))))) f114 (bodyOf f114) [.val (.int .i64)] [.val (.seq [.seq [.int .i64]])] a = b114 g F a := by kernel_rfl
theorem lx114_ok (F n : Nat) (h : PCOk cx 114 (pr114 F n)) : (lx114 (r114 F n) F).Ok cx := Lx.ok_cons (PC.sm_ok h) (Lx.ok_nil)
theorem pr114_ok (F : Nat) : ∀ n, PCOk cx 114 (pr114 F n)
  | 0 => ⟨⟨f114, by kernel_rfl⟩, fun a y h => absurd (show (none : Option _) = some y from h) (by simp)⟩
  | n + 1 => PCOk.of_eval cx_ok (lx114_ok F n (pr114_ok F n)) (n := 1000) (an := (.two .leaf (.two .leaf (.two .leaf (.two .leaf (.two (.two .leaf (.one (.virt 3 49 [.seq [.int .i64]] (.loop ⟨[.vec 0 49 [.seq [.int .i64]], .slot 5 (.val (.int .i64))], [(3, .own 0)]⟩ [(.exit 0, ⟨[.vec 0 49 [.seq [.int .i64]]], [(3, .own 0)]⟩)] ⟨[6, 24, 25, 26, 27, 28, 29, 30, 31, 32, 33, 34, 35, 36, 37, 38, 39, 40, 41, 42, 43, 44, 45, 3, 23, 22, 21, 20, 19, 5, 18, 17, 16, 15, 14, 13], [0], [0]⟩ F (.two .leaf (.two (.one (.two .leaf (.one (.loop ⟨[.vec 0 49 [.seq [.int .i64]], .slot 6 (.val (.int .i64))], [(3, .own 0)]⟩ [(.exit 2, ⟨[.vec 0 49 [.seq [.int .i64]]], [(3, .own 0)]⟩)] ⟨[24, 25, 26, 27, 28, 29, 30, 31, 32, 33, 34, 35, 36, 37, 38, 39, 40, 41, 42, 43, 44, 45, 3, 6, 23, 22, 21, 20, 19], [0], [0]⟩ F .leaf)))) .leaf)))))) .leaf)))))) (fn := f114) (c := bodyOf f114) (by kernel_rfl) (by kernel_rfl) (fun a y h => (b114_eq (r114 F n) F a).trans h) (by kernel_rfl)
theorem pc114_ok (F : Nat) : PCOk cx 114 (pc114 F) := pr114_ok F F
def tx73_0 : Tmpl := ⟨[.vec 0 3 [.int .i64], .vec 1 117 wO], [(0, .own 0), (1, .own 1)]⟩
def wx73_0 : Tmpl := ⟨[.slot 0 (.val (.seq [.int .i64])), .slot 1 (.val (.bool))], []⟩
def lxx73_0 (F : Nat) : LK := lN
def px73_0 (F : Nat) : PX := qX (lxx73_0 F) (.two .leaf (.two .leaf (.two (.two .leaf (.one (.loop ⟨[.vec 2 3 [.int .i64], .slot 7 (.val (.int .i64))], []⟩ [(.ret, ⟨[.vec 2 3 [.int .i64], .slot 5 (.val (.bool))], [(4, .own 2)]⟩), (.exit 0, ⟨[.vec 2 3 [.int .i64]], []⟩)] ⟨[8, 58, 59, 5, 4, 60, 20, 21, 22, 23, 24, 25, 40, 41, 42, 43, 44, 45, 46, 47, 48, 49, 57, 56, 55, 54, 53, 52, 51, 50, 10, 39, 38, 37, 36, 35, 34, 33, 32, 31, 30, 29, 28, 27, 26, 9, 7, 19, 18, 17, 16, 15, 14], [2], []⟩ F (.two .leaf (.two (.one (.two .leaf (.two (.two .leaf (.one (.loop ⟨[.vec 2 3 [.int .i64], .slot 8 (.val (.bool)), .slot 9 (.val (.int .i64))], []⟩ [(.exit 2, ⟨[.vec 2 3 [.int .i64], .slot 8 (.val (.bool))], []⟩)] ⟨[26, 27, 28, 29, 30, 31, 32, 33, 34, 35, 36, 37, 38, 39, 10, 50, 51, 52, 53, 54, 55, 56, 57, 8, 49, 48, 47, 46, 45, 44, 43, 42, 41, 40, 9, 25, 24, 23, 22, 21, 20], [2], []⟩ F (.two .leaf (.two (.one (.two .leaf (.two .leaf (.join [(.normal, ⟨[.vec 2 3 [.int .i64], .slot 8 (.val (.bool))], []⟩)] ⟨[8, 57, 56, 55, 54, 53, 52, 51, 50], [2], []⟩ .leaf)))) .leaf))))) .leaf))) .leaf))))) .leaf))) f73 (pxB 2 [.arg 0, .arg 1] tx73_0 2 wx73_0 [] [])
theorem px73_0_ok (F : Nat) : PXOk cx 73 (px73_0 F) := qX_ok (by kernel_rfl)
def lx115 (F : Nat) : LK := lC (pc73_ok F) (lX (px73_0_ok F) lN)
def pc115 (F : Nat) : PC := qT (lx115 F) (.two .leaf (.two .leaf (.two (.two .leaf (.one (.loop ⟨[.vec 1 3 [.int .i64], .slot 11 (.val (.int .i64))], []⟩ [(.exit 0, ⟨[.vec 1 3 [.int .i64]], []⟩)] ⟨[31, 32, 33, 34, 35, 36, 37, 11, 30, 29, 28, 27, 26, 25], [1], []⟩ F .leaf))) (.two (.within [(30000072, (.two .leaf (.two .leaf (.two (.two .leaf (.one (.virt 5 117 wO (.loop ⟨[.vec 3 117 wO, .slot 6 (.val (.int .i64))], [(5, .own 3)]⟩ [(.exit 0, ⟨[.vec 3 117 wO], [(5, .own 3)]⟩)] ⟨[15, 16, 17, 18, 19, 20, 21, 22, 23, 24, 25, 26, 32, 33, 34, 35, 36, 37, 38, 39, 40, 41, 42, 43, 44, 45, 46, 47, 48, 49, 5, 7, 31, 30, 29, 28, 27, 6, 14, 13, 12, 11, 10, 9, 8], [3], [3]⟩ F (.two .leaf (.two (.one (.join [(.normal, ⟨[.vec 3 117 wO], [(5, .own 3)]⟩)] ⟨[27, 28, 29, 30, 31, 7, 5, 49, 48, 47, 46, 45, 44, 43, 42, 41, 40, 39, 38, 37, 36, 35, 34, 33, 32, 26, 25, 24, 23, 22, 21, 20, 19, 18, 17, 16, 15], [3], [3]⟩ (.two .leaf (.join [(.normal, ⟨[.vec 3 117 wO], [(5, .own 3)]⟩)] ⟨[32, 33, 34, 35, 36, 37, 38, 39, 40, 41, 42, 43, 44, 45, 46, 47, 48, 49, 5, 7, 31, 30, 29, 28, 27], [3], [3]⟩ .leaf)))) .leaf)))))) .leaf))))]) (.two (.two .leaf (.one (.loop ⟨[.vec 3 117 wO, .slot 13 (.val (.int .i64))], [(12, .own 3)]⟩ [(.exit 2, ⟨[.vec 3 117 wO], [(12, .own 3)]⟩)] ⟨[54, 55, 56, 57, 58, 69, 70, 71, 72, 73, 74, 75, 76, 77, 79, 78, 80, 81, 82, 83, 84, 85, 87, 86, 12, 101, 100, 99, 98, 97, 96, 95, 94, 93, 92, 91, 90, 89, 88, 16, 15, 14, 68, 67, 66, 65, 64, 63, 62, 61, 60, 59, 13, 53, 52, 51, 50, 49, 48], [3], [3]⟩ F (.two .leaf (.two (.join [(.normal, ⟨[.vec 3 117 wO], [(12, .own 3)]⟩)] ⟨[59, 60, 61, 62, 63, 64, 65, 66, 67, 68, 14, 15, 16, 88, 89, 90, 91, 92, 93, 94, 95, 96, 97, 98, 99, 100, 101, 12, 86, 87, 85, 84, 83, 82, 81, 80, 78, 79, 77, 76, 75, 74, 73, 72, 71, 70, 69, 58, 57, 56, 55, 54], [3], [3]⟩ (.one (.two .leaf (.two .leaf (.two (.two .leaf (.join [(.normal, ⟨[.slot 14 (.val (.int .i64)), .slot 15 (.val (.int .i64))], []⟩)] ⟨[15, 14, 79, 78], [], []⟩ .leaf)) (.two .leaf (.two (.two .leaf (.join [(.normal, ⟨[.slot 16 (.val (.int .i64))], []⟩)] ⟨[16, 87, 86], [], []⟩ .leaf)) .leaf))))))) .leaf))))) (.two .leaf (.two (.two .leaf (.one (.loop ⟨[.vec 4 3 [.int .i64], .slot 18 (.val (.int .i64))], []⟩ [(.exit 4, ⟨[.vec 4 3 [.int .i64]], []⟩)] ⟨[112, 113, 114, 115, 124, 123, 122, 121, 120, 119, 118, 117, 116, 18, 111, 110, 109, 108, 107, 106], [4], []⟩ F (.two .leaf (.two (.one (.two .leaf (.join [(.normal, ⟨[.vec 4 3 [.int .i64]], []⟩)] ⟨[124, 123, 122, 121, 120, 119, 118, 117, 116], [4], []⟩ .leaf))) .leaf))))) (.two .leaf (.two (.two .leaf (.one (.loop ⟨[.slot 20 (.val (.bool)), .slot 21 (.val (.int .i64))], []⟩ [(.exit 6, ⟨[.slot 20 (.val (.bool))], []⟩)] ⟨[140, 141, 142, 143, 144, 145, 146, 147, 148, 149, 150, 151, 152, 153, 154, 155, 156, 157, 158, 159, 160, 161, 162, 163, 164, 20, 21, 139, 138, 137, 136, 135, 134, 133, 132, 131], [], []⟩ F (.two (.two (.join [(.normal, ⟨[.slot 137 (.val (.bool))], []⟩)] ⟨[137, 136, 135, 134, 133, 132, 131], [], []⟩ .leaf) .leaf) (.two (.one (.join [(.normal, ⟨[.slot 20 (.val (.bool))], []⟩)] ⟨[20, 164, 163, 162, 161, 160, 159, 158, 157, 156, 155, 154, 153, 152, 151, 150, 149, 148, 147, 146, 145, 144, 143, 142, 141, 140], [], []⟩ .leaf)) .leaf))))) .leaf))))))))) f115 [.agg [sR, sO, .int .i64], .val (.seq [.str, .int .i64, .int .i64]), .val (.seq [.bool]), .val (.seq [.int .i64])] [.val (.seq [.int .i64]), .val (.bool)]
theorem pc115_ok (F : Nat) : PCOk cx 115 (pc115 F) := qT_ok (by kernel_rfl)
def lx74 (F : Nat) : LK := lC (pc114_ok F) (lC (pc115_ok F) (lC (pc37_ok F) lN))
def pc74 (F : Nat) : PC := qT (lx74 F) (.two .leaf (.two .leaf (.two .leaf (.two (.two .leaf (.one (.loop ⟨[.slot 7 (.val (.int .i64))], []⟩ [(.ret, ⟨[.slot 4 (.val (.bool))], []⟩), (.exit 0, ⟨[], []⟩)] ⟨[23, 24, 25, 26, 27, 28, 29, 30, 22, 31, 32, 8, 9, 4, 33, 7, 21, 20, 19, 18, 17, 16], [], []⟩ F .leaf))) .leaf)))) f74 [.agg [sR, sO, .int .i64], .val (.seq [.bool])] [.val (.bool)]
theorem pc74_ok (F : Nat) : PCOk cx 74 (pc74 F) := qT_ok (by kernel_rfl)
def lx79 (F : Nat) : LK := lC (pc115_ok F) (lC (pc114_ok F) (lC (pc37_ok F) lN))
def pc79 (F : Nat) : PC := qT (lx79 F) (.two .leaf (.two .leaf (.two .leaf (.two .leaf (.two (.two .leaf (.one (.virt 6 49 [.seq [.int .i64]] (.loop ⟨[.vec 1 49 [.seq [.int .i64]], .slot 8 (.val (.int .i64))], [(6, .own 1)]⟩ [(.exit 0, ⟨[.vec 1 49 [.seq [.int .i64]]], [(6, .own 1)]⟩)] ⟨[24, 25, 26, 27, 28, 29, 30, 31, 23, 32, 33, 9, 10, 35, 36, 37, 38, 6, 34, 8, 22, 21, 20, 19, 18, 17], [1], [1]⟩ F (.two .leaf (.two (.one (.two .leaf (.two .leaf (.join [(.normal, ⟨[.vec 1 49 [.seq [.int .i64]]], [(6, .own 1)]⟩)] ⟨[6, 38, 37, 36, 35], [1], [1]⟩ .leaf)))) .leaf)))))) .leaf))))) f79 [.agg [sR, sO, .int .i64], .val (.seq [.bool])] [.val (.seq [.seq [.int .i64]])]
theorem pc79_ok (F : Nat) : PCOk cx 79 (pc79 F) := qT_ok (by kernel_rfl)
def lx25 (F : Nat) : LK := lC (pc74_ok F) (lS (PF.sm_ok (pf75_ok F)) (lC (pc37_ok F) lN))
def pc25 (F : Nat) : PC := qT (lx25 F) .leaf f25 [.agg [sR, sO, .int .i64]] [.val (.bool)]
theorem pc25_ok (F : Nat) : PCOk cx 25 (pc25 F) := qT_ok (by kernel_rfl)
def lx30 (F : Nat) : LK := lC (pc34_ok F) (lC (pc79_ok F) (lS (PF.sm_ok (pf75_ok F)) (lC (pc37_ok F) lN)))
def pc30 (F : Nat) : PC := qT (lx30 F) (.two .leaf (.two (.within [(2000079, .leaf)]) (.two .leaf (.two (.two .leaf (.one (.loop ⟨[.slot 4 (.val (.int .i64)), .slot 5 (.val (.int .i64))], []⟩ [(.exit 0, ⟨[.slot 4 (.val (.int .i64))], []⟩)] ⟨[23, 24, 25, 26, 27, 28, 29, 30, 4, 5, 22, 21, 20, 19, 18, 17], [], []⟩ F .leaf))) .leaf)))) f30 [.agg [sR, sO, .int .i64]] [.val (.int .i64)]
theorem pc30_ok (F : Nat) : PCOk cx 30 (pc30 F) := qT_ok (by kernel_rfl)
def lx31 (F : Nat) : LK := lC (pc80_ok F) (lC (pc79_ok F) (lS (PF.sm_ok (pf75_ok F)) (lC (pc37_ok F) lN)))
def pc31 (F : Nat) : PC := qT (lx31 F) (.two .leaf (.two (.within [(2000079, .leaf)]) (.two .leaf (.two (.two .leaf (.one (.loop ⟨[.slot 4 (.val (.seq [.int .i64])), .slot 5 (.val (.int .i64))], []⟩ [(.exit 0, ⟨[.slot 4 (.val (.seq [.int .i64]))], []⟩)] ⟨[21, 22, 23, 24, 25, 26, 4, 30, 29, 28, 27, 5, 20, 19, 18, 17, 16, 15], [], []⟩ F (.two .leaf (.two (.one (.two .leaf (.join [(.normal, ⟨[.slot 4 (.val (.seq [.int .i64]))], []⟩)] ⟨[4, 30, 29, 28, 27], [], []⟩ .leaf))) .leaf))))) .leaf)))) f31 [.agg [sR, sO, .int .i64]] [.val (.seq [.int .i64])]
theorem pc31_ok (F : Nat) : PCOk cx 31 (pc31 F) := qT_ok (by kernel_rfl)
end
end Go.Proofs.Tryz
end
section
namespace Go.Proofs.Tryz
open Go Go.Sx
end Go.Proofs.Tryz
end
section
namespace Go.Proofs.Tryz
open Go Go.Sx
end Go.Proofs.Tryz
end
namespace Go.Proofs.Tryz
open Go Go.Sx
theorem bind_cnt {S β γ : Type} {step : S × Int → Option ((S × Int) ⊕ β)} {F : Nat} {s0 : S} {k : β → Option γ} {P : γ → Prop} (a N : Nat) (Inv : Nat → S → Prop) (Post : β → Prop) (ha : a ≤ N) (hF : N - a < F) (h0 : Inv a s0)
    (hstep : ∀ i s, a ≤ i → i < N → Inv i s → ∃ s', step (s, (i : Int)) = some (.inl (s', (i : Int) + 1)) ∧ Inv (i + 1) s')
    (hend : ∀ s, Inv N s → ∃ b, step (s, (N : Int)) = some (.inr b) ∧ Post b) (hk : ∀ b, Post b → ∃ r, k b = some r ∧ P r) : ∃ r, Option.bind (loopO step F (s0, (a : Int))) k = some r ∧ P r := by
  refine bind_inv (fun x : S × Int => ∃ i : Nat, x.2 = i ∧ a ≤ i ∧ i ≤ N ∧ Inv i x.1) (fun x => N - x.2.toNat) Post ?_ ⟨a, rfl, Nat.le_refl _, ha, h0⟩ (by simpa using hF) hk
  rintro ⟨s, v⟩ ⟨i, hv, h1, h2, h3⟩
  simp only at hv h3
  subst hv
  by_cases hi : i < N
  · obtain ⟨s', e1, e2⟩ := hstep i s h1 hi h3
    refine .inl ⟨_, e1, ⟨i + 1, rfl, by omega, hi, e2⟩, ?_⟩
    simp only
    omega
  · obtain rfl : i = N := by omega
    exact .inr (hend s h3)
def chS (p : Pln) (B : List Bool) : List Rul := ((rulesS p).zip B).filterMap fun x => if x.2 = true then some x.1 else none
theorem mem_chS {p : Pln} {B : List Bool} {r : Rul} : r ∈ chS p B ↔ ∃ k : Nat, (rulesS p)[k]? = some r ∧ B[k]? = some true := by
  unfold chS
  rw [List.mem_filterMap]
  constructor
  · rintro ⟨⟨r', b⟩, hm, h⟩
    obtain ⟨k, hk⟩ := List.mem_iff_getElem?.1 hm
    obtain ⟨h1, h2⟩ := zip_get hk
    cases b with
    | true =>
      simp only [if_true, Option.some.injEq] at h
      subst h
      exact ⟨k, h1, h2⟩
    | false => simp at h
  · rintro ⟨k, h1, h2⟩
    refine ⟨(r, true), List.mem_iff_getElem?.2 ⟨k, ?_⟩, rfl⟩
    rw [List.getElem?_zip_eq_some]
    exact ⟨h1, h2⟩
theorem fL_set {t : List Int} {k i : Nat} {v : Int} (hk : k < t.length) : fL (t.set k v) i = if i = k then v else fL t i := set_get hk
theorem win_rul {p : Pln} {k : Nat} (h : k < p.1.length) : (rulesS p)[k]? = some (kW, (k : Int), (k : Int), 0) := by
  unfold rulesS
  have l1 := winR_len p
  rw [List.append_assoc, List.getElem?_append_left (by omega)]
  have e := ifl_one (fun i (_ : Rnd) => (kW, (i : Int), (i : Int), (0 : Int))) p.1 0 k
  rw [show (ifl winR 0 p.1)[k]? = _ from e, List.getElem?_eq_getElem h]
  simp
theorem holW {p : Pln} {t : List Int} {k : Nat} : holdS p t (kW, (k : Int), (k : Int), 0) = true ↔ (rq p k).2.2.2.2.2.1 ≤ fL t k ∧ fL t k + (rq p k).2.1 ≤ (rq p k).2.2.2.2.2.2 := by
  unfold holdS
  simp only [sWW, if_true, winS, decide_eq_true_eq, tq, fL, Int.toNat_natCast]
end Go.Proofs.Tryz
section
namespace Go.Proofs.Tryz
open Go Go.Sx
end Go.Proofs.Tryz
end
namespace Go.Proofs.Tryz
open Go Go.Sx
theorem Hol.tok {p : Pln} {L : List Rul} {f : List Int} (h : Hol p L f) : TOk p f := by
  refine TOk.ofB h.len fun x hx => ?_
  obtain ⟨i, hi, rfl⟩ := List.mem_iff_getElem.1 hx
  have := h.rng i (by rw [← h.len]; exact hi)
  simp only [fL] at this
  rw [getD_some (List.getElem?_eq_getElem hi)] at this
  omega
def bs (l : List UInt8) : ByteArray := ⟨⟨l⟩⟩
def smp : TP := ([(bs [104, 101, 97, 116, 115], 30, [bs [116, 114, 97, 99, 107]], [], [bs [97, 110, 110], bs [98, 101, 97]], 0, 100), (bs [106, 117, 109, 112], 20, [bs [112, 105, 116]], [], [bs [97, 110, 110]], 0, 100), (bs [102, 105, 110, 97, 108], 10, [bs [116, 114, 97, 99, 107]], [], [bs [98, 101, 97]], 0, 100)], [(0, 2, 15)], 20)
def nar : TP := ([(bs [104, 101, 97, 116, 115], 30, [bs [116, 114, 97, 99, 107]], [], [bs [97, 110, 110], bs [98, 101, 97]], 0, 60), (bs [106, 117, 109, 112], 20, [bs [112, 105, 116]], [], [bs [97, 110, 110]], 20, 60), (bs [102, 105, 110, 97, 108], 10, [bs [116, 114, 97, 99, 107]], [], [bs [98, 101, 97]], 0, 100)], [(0, 2, 15)], 20)
def a50 : TP := smp
def y50 : List (ByteArray × Int × Int) × Int := ([(bs [119, 105, 110, 100, 111, 119], 0, 0), (bs [119, 105, 110, 100, 111, 119], 1, 1), (bs [119, 105, 110, 100, 111, 119], 2, 2), (bs [111, 114, 100, 101, 114], 0, 2), (bs [97, 116, 104, 108, 101, 116, 101], 0, 1), (bs [97, 114, 101, 97], 0, 2), (bs [97, 116, 104, 108, 101, 116, 101], 0, 2)], 0)
theorem r50 : (pc50 400).code a50 = some y50 := by kernel_rfl
def a17 : TP := smp
def y17 : List (Int × Int) × Int := ([(0, 45), (0, 80), (45, 90)], 0)
theorem r17 : (pc17 400).code a17 = some y17 := by kernel_rfl
def a18 : TP := smp
def y18 : Int × Int := (55, 0)
theorem r18 : (pc18 400).code a18 = some y18 := by kernel_rfl
def a26 : TP := smp
def y26 : List Int × Int := ([0, 50, 50], 0)
theorem r26 : (pc26 400).code a26 = some y26 := by kernel_rfl
def a27 : TP := smp
def y27 : Int × Int := (70, 0)
theorem r27 : (pc27 400).code a27 = some y27 := by kernel_rfl
def a36 : TP := nar
def y36 : List Int × Int := ([0, 1, 4], 0)
theorem r36 : (pc36 400).code a36 = some y36 := by kernel_rfl
def a41 : TP × List Int × ByteArray := (smp, [0, 50, 50], bs [97, 110, 110])
def y41 : Int × Int := (20, 0)
theorem r41 : (pc41 400).code a41 = some y41 := by kernel_rfl
def a46 : TP × List Int := (smp, [0, 50, 50])
def a52 : TP × List Int := (smp, [0, 50, 50])
def b52 : TP × List Int := (smp, [0, 40, 50])
def y52 : Int × Int := (7, 0)
def z52 : Int × Int := (4, 29)
theorem r52 : (pc52 400).code a52 = some y52 := by kernel_rfl
theorem s52 : ((pc52 400).at a52 y52).code b52 = some z52 := by kernel_rfl
def a35 : TP := nar
def b35 : TP := smp
def y35 : List Int × Int := ([0, 1, 4], 0)
def z35 : List Int × Int := ([], 7)
theorem r35 : (pc35 400).code a35 = some y35 := by kernel_rfl
theorem s35 : ((pc35 400).at a35 y35).code b35 = some z35 := by kernel_rfl
noncomputable def lxA : Lx := { ext := [(51, (pc51 400).sm)], anns := [], still := [] }
theorem lxA_ok : lxA.Ok cx.bare := Lx.ok_cons (PC.sm_ok (pc51_ok 400).bare) Lx.ok_nil
abbrev at45 : List ATy := [.agg [sR, sO, .int .i64]]
abbrev rt45 : List ATy := [.val (.seq [.str, .int .i64]), .val (.int .i64)]
def y45 : List (ByteArray × Int) × Int := ([(bs [112, 105, 116], 20), (bs [116, 114, 97, 99, 107], 40)], 0)
theorem q45 : codeOf cx.bare lxA 3000 .leaf f45 (bodyOf f45) at45 rt45 smp = some y45 := by kernel_rfl
noncomputable def lx60 (F : Nat) : LK := lN
noncomputable def pc60 (F : Nat) : PC := qT (lx60 F) .leaf f60 [] [.agg [sR, sO, .int .i64]]
theorem pc60_ok (F : Nat) : PCOk cx 60 (pc60 F) := qT_ok (by kernel_rfl)
noncomputable def lx61 (F : Nat) : LK := lN
noncomputable def pc61 (F : Nat) : PC := qT (lx61 F) (.two .leaf (.two (.within [(60, .leaf)]) .leaf)) f61 [] [.agg [sR, sO, .int .i64]]
theorem pc61_ok (F : Nat) : PCOk cx 61 (pc61 F) := qT_ok (by kernel_rfl)
noncomputable def k50 : PC := (pc50 400).one a50 y50
theorem k50_ok : PCOk cx.bare 50 k50 := (pc50_ok 400).bare.one a50 y50 r50
noncomputable def k17 : PC := (pc17 400).one a17 y17
theorem k17_ok : PCOk cx.bare 17 k17 := (pc17_ok 400).bare.one a17 y17 r17
noncomputable def k18 : PC := (pc18 400).one a18 y18
theorem k18_ok : PCOk cx.bare 18 k18 := (pc18_ok 400).bare.one a18 y18 r18
noncomputable def k26 : PC := (pc26 400).one a26 y26
theorem k26_ok : PCOk cx.bare 26 k26 := (pc26_ok 400).bare.one a26 y26 r26
noncomputable def k27 : PC := (pc27 400).one a27 y27
theorem k27_ok : PCOk cx.bare 27 k27 := (pc27_ok 400).bare.one a27 y27 r27
noncomputable def k36 : PC := (pc36 400).one a36 y36
theorem k36_ok : PCOk cx.bare 36 k36 := (pc36_ok 400).bare.one a36 y36 r36
noncomputable def k41 : PC := (pc41 400).one a41 y41
theorem k41_ok : PCOk cx.bare 41 k41 := (pc41_ok 400).bare.one a41 y41 r41
noncomputable def k52 : PC := ((pc52 400).at a52 y52).at b52 z52
theorem k52_ok : PCOk cx.bare 52 k52 := @PCOk.at cx.bare 52 ((pc52 400).at a52 y52) (@PCOk.at cx.bare 52 (pc52 400) (pc52_ok 400).bare a52 y52 r52) b52 z52 s52
noncomputable def k35 : PC := ((pc35 400).at a35 y35).at b35 z35
theorem k35_ok : PCOk cx.bare 35 k35 := @PCOk.at cx.bare 35 ((pc35 400).at a35 y35) (@PCOk.at cx.bare 35 (pc35 400) (pc35_ok 400).bare a35 y35 r35) b35 z35 s35
noncomputable def k45 : PC := { ats := at45, rts := rt45, code := Go.Sx.one (ats := at45) (rts := rt45) smp y45 }
theorem k45_ok : PCOk cx.bare 45 k45 := PCOk.of_eval (Cx.bare_ok cx_ok) lxA_ok (n := 3000) (an := .leaf) (fn := f45) (c := bodyOf f45) (by kernel_rfl) (by kernel_rfl) (fun a y h => by
  obtain ⟨h1, h2⟩ := Go.Sx.one_some h
  subst h1; subst h2
  exact q45) (by kernel_rfl)
noncomputable def lxB0 : Lx := { ext := [(50, k50.sm), (17, k17.sm), (18, k18.sm), (26, k26.sm), (27, k27.sm), (36, k36.sm), (41, k41.sm), (52, k52.sm), (35, k35.sm), (45, k45.sm), (96, (pc96 400).sm), (90, (pc90 400).sm), (97, (pc97 400).sm), (55, (pc55 400).sm), (60, (pc60 400).sm), (61, (pc61 400).sm)], anns := [], still := [] }
theorem lxB0_ok : lxB0.Ok cx.bare := Lx.ok_cons (PC.sm_ok k50_ok) (Lx.ok_cons (PC.sm_ok k17_ok) (Lx.ok_cons (PC.sm_ok k18_ok) (Lx.ok_cons (PC.sm_ok k26_ok) (Lx.ok_cons (PC.sm_ok k27_ok) (Lx.ok_cons (PC.sm_ok k36_ok) (Lx.ok_cons (PC.sm_ok k41_ok) (Lx.ok_cons (PC.sm_ok k52_ok) (Lx.ok_cons (PC.sm_ok k35_ok) (Lx.ok_cons (PC.sm_ok k45_ok) (Lx.ok_cons (PC.sm_ok (pc96_ok 400).bare) (Lx.ok_cons (PC.sm_ok (pc90_ok 400).bare) (Lx.ok_cons (PC.sm_ok (pc97_ok 400).bare) (Lx.ok_cons (PC.sm_ok (pc55_ok 400).bare) (Lx.ok_cons (PC.sm_ok (pc60_ok 400).bare) (Lx.ok_cons (PC.sm_ok (pc61_ok 400).bare) Lx.ok_nil)))))))))))))))
noncomputable def lxB : Lx := { ext := lxB0.ext, anns := [], still := [] }
theorem lxB_ok : lxB.Ok cx.bare := ⟨lxB0_ok.ext, rfl⟩
noncomputable def c15 (F : Nat) (a : Unit) : Option Bool := some true
noncomputable def pc15 (F : Nat) : PC := { ats := [], rts := [.val .bool], code := c15 F }
theorem aw_eq : codeOf cx.bare lxB 3000 .leaf f15 (bodyOf f15) [] [.val .bool] () = some true := by kernel_rfl
theorem pc15_ok (F : Nat) : PCOk cx 15 (pc15 F) := PCOk.full (PCOk.of_eval (Cx.bare_ok cx_ok) lxB_ok (n := 3000) (an := .leaf) (fn := f15) (c := bodyOf f15) (by kernel_rfl) (by kernel_rfl) (fun a y h => aw_eq.trans h) (by kernel_rfl))
end Go.Proofs.Tryz
section

end
section
namespace Go.Proofs.Tryz
open Go Go.Sx
noncomputable section
def lx4 (F : Nat) : LK := lC (pc15_ok F) (lC (pc16_ok F) (lC (pc25_ok F) (lC (pc27_ok F) (lC (pc20_ok F) (lC (pc29_ok F) (lC (pc31_ok F) (lC (pc32_ok F) (lC (pc34_ok F) (lC (pc33_ok F) (lC (pc30_ok F) (lC (pc28_ok F) (lC (pc26_ok F) (lC (pc24_ok F) (lC (pc23_ok F) (lC (pc19_ok F) (lC (pc14_ok F) lN))))))))))))))))
def pc4 (F : Nat) : PC := qT (lx4 F) (.two .leaf (.two .leaf (.two .leaf (.two .leaf (.two (.two (.join [(.normal, ⟨[.slot 39 (.val (.bool))], []⟩)] ⟨[39, 38, 37, 36, 35, 34, 33, 32, 31, 30, 29, 28, 27, 26], [], []⟩ .leaf) .leaf) (.two .leaf (.two (.two .leaf (.join [(.normal, ⟨[.slot 4 (.val (.int .i64))], []⟩)] ⟨[4, 53, 52, 51, 50], [], []⟩ .leaf)) (.two .leaf (.two .leaf (.two .leaf (.two (.two .leaf (.two (.two (.join [(.normal, ⟨[.slot 2 (.val (.bool))], []⟩)] ⟨[2, 86, 85, 84, 83, 82, 81, 80, 79, 78, 77, 76, 75, 74, 73, 72, 71], [], []⟩ .leaf) .leaf) .leaf)) (.two .leaf (.two (.two (.join [(.normal, ⟨[.slot 111 (.val (.bool))], []⟩)] ⟨[111, 110, 109, 108, 107, 106, 105, 104, 103, 102, 101, 100, 99, 98, 97, 96, 95, 94, 93, 92, 91, 90, 89], [], []⟩ .leaf) .leaf) (.two .leaf (.two (.join [(.normal, ⟨[.slot 2 (.val (.bool))], []⟩)] ⟨[2, 126, 125, 124, 123, 122, 121, 120, 119, 118], [], []⟩ .leaf) .leaf))))))))))))))) f4 [.agg [sR, sO, .int .i64]] [.val (.bool)]
def c4 (F : Nat) := (pc4 F).code
end
end Go.Proofs.Tryz
end

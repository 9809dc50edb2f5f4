/- Functions of the program as functions of data. By program. Plain law: the reference's sequences of rounds. And further parts. -/
import Derived.Test.YtlfcbhjoldgijaaGreatXT9t
import Derived.Test.YtlfcbhjoldgijaaGreatXSxQh
import Derived.Test.YtlfcbhjoldgijaaGreatXTtCx
import Derived.Test.YtlfcbhjoldgijaaGreatXT9o
set_option linter.all false
set_option linter.unusedVariables false
set_option linter.unusedSimpArgs false
set_option maxRecDepth 1000000
section
namespace Go.Proofs.Tryz
open Go Go.Sx
noncomputable section
def lx49 (F:Nat):LK := lC (pc19_ok F) (lC (pc16_ok F) lN)
def c49 (F:Nat) (a:TP × Int):Option (Bool) :=
 Option.bind (Option.bind (c16 F (a.1.1,a.1.2.1,a.1.2.2)) fun (v12:Bool)=>bif v12 then (bif decide ((↑(List.length a.1.1):Int) ≤ a.2) then (bif decide ((↑(List.length a.1.2.1):Int) ≤ a.2) then (Option.bind (c19 F (a.1.1,a.1.2.1,a.1.2.2)) fun (v13:Int)=>some (decide (v13 = (0:Int)))) else (some (false))) else (some (false))) else (some (false))) fun (v11:Bool)=>some (v11)
def pc49 (F:Nat):PC := { ats := [.agg [sR,sO,.int .i64],.val (.int .i64)],rts := [.val (.bool)],code := c49 F }
theorem pc49_ok (F:Nat):PCOk cx 49 (pc49 F) := qE (lx49 F) (.two .leaf (.two (.join [(.normal,⟨[.slot 4 (.val (.bool))],[]⟩)] ⟨[4,25,24,23,22,21,20,19,18,17,16,15,14,13,12,11,10,9,8,7,6,5],[],[]⟩ .leaf) .leaf)) f49 (by kernel_rfl) fun a=>by kernel_rfl
def lx75 (F:Nat):LK := lN
def c75 (F:Nat) (a:Int):Option (List Bool) :=
 gd (decide ((0:Int) ≤ a)) (gd (decide (a ≤ a)) (gd (decide ((↑(1:Nat):Int) * a ≤ (281474976710656:Int))) (gd (decide (a ≤ (9223372036854775807:Int))) (Option.bind (loopO (σ := List Bool × Int) (β := List Bool) (fun (v9:List Bool × Int)=>bif decide (v9.2 < a) then (gd (decide ((0:Int) ≤ v9.2)) (gd (decide (v9.2 < (↑(Int.toNat a):Int))) (gd (decide ((0:Nat) + Int.toNat v9.2 < List.length v9.1)) (some (Sum.inl (List.set v9.1 ((0:Nat) + Int.toNat v9.2) true,w64 (v9.2 + (1:Int)))))))) else (some (Sum.inr v9.1))) F ((List.replicate (Int.toNat a) false,(0:Int)))) fun (v8:List Bool)=>gd (decide (Int.toNat a = List.length v8)) (some (v8))))))
def pf75 (F:Nat):PF := { ats := [.val (.int .i64)],ty := 4,row := [.bool],code := c75 F }
theorem c75_eq (F:Nat) (a:Int):codeF cx (lx75 F).x 1000 (.two .leaf (.two .leaf (.two (.two .leaf (.one (.loop ⟨[.vec 0 4 [.bool],.slot 4 (.val (.int .i64))],[]⟩ [(.exit 0,⟨[.vec 0 4 [.bool]],[]⟩)] ⟨[12,13,14,4,11,10,9,8,7],[0],[]⟩ F .leaf))) .leaf))) f75 (bodyOf f75) [.val (.int .i64)] 4 [.bool] a = c75 F a := by kernel_rfl
theorem pf75_ok (F:Nat):PFOk cx 75 (pf75 F) := PFOk.of_eval cx_ok (lx75 F).ok (n := 1000) (an := (.two .leaf (.two .leaf (.two (.two .leaf (.one (.loop ⟨[.vec 0 4 [.bool],.slot 4 (.val (.int .i64))],[]⟩ [(.exit 0,⟨[.vec 0 4 [.bool]],[]⟩)] ⟨[12,13,14,4,11,10,9,8,7],[0],[]⟩ F .leaf))) .leaf)))) (fn := f75) (c := bodyOf f75) (by kernel_rfl) (by kernel_rfl) (fun a y h=>(c75_eq F a).trans h) (by kernel_rfl)
def lx80 (F:Nat):LK := lN
def pc80 (F:Nat):PC := qT (lx80 F) (.two .leaf (.two (.two .leaf (.one (.loop ⟨[.slot 5 (.val (.int .i64))],[]⟩ [(.ret,⟨[.slot 4 (.val (.bool))],[]⟩),(.exit 0,⟨[],[]⟩)] ⟨[12,13,14,15,16,17,18,19,20,4,29,28,27,26,25,24,23,22,21,5,11,10,9,8,7,6],[],[]⟩ F .leaf))) .leaf)) f80 [.val (.seq [.int .i64]),.val (.seq [.int .i64])] [.val (.bool)]
theorem pc80_ok (F:Nat):PCOk cx 80 (pc80 F) := qT_ok (by kernel_rfl)
def lx114 (g:AEls [.val (.int .i64)] → Option (AEls [.val (.seq [.seq [.int .i64]])])) (F:Nat):Lx := { ext := [(114,(PC.mk [.val (.int .i64)] [.val (.seq [.seq [.int .i64]])] g).sm)],anns := [],still := [] }
def b114 (g:Int → Option (List (List Int))) (F:Nat) (a:Int):Option (List (List Int)) :=
 let z2 := (140737488355328:Nat); let z1 := (9223372036854775807:Nat); bif decide (a = (0:Int)) then (some (nilT Int :: nilT (List Int))) else (Option.bind (g (w64 (a - (1:Int)))) fun (v26:List (List Int))=>let z3 := (↑(List.length v26):Int); Option.bind (loopO (σ := List (List Int) × Int) (β := List (List Int)) (fun (v28:List (List Int) × Int)=>let z5 := decide (Int.toNat v28.2 < List.length v26); let z4 := List.getD v26 (Int.toNat v28.2) (nilT Int); bif decide (v28.2 < z3) then (Option.bind (gd (decide (List.length v28.1 = List.length v28.1) && true && (true && true)) (some ((v28.1,(0:Int))))) fun (v29:List (List Int) × Int)=>let z7 := (↑(List.length z4):Int); let z6 := (List.take (Int.toNat z7) z4); Option.bind (loopO (σ := List (List Int) × Int) (β := List (List Int)) (fun (v32:List (List Int) × Int)=>let z12 := List.take (Int.toNat v32.2) z4; let z11 := decide (List.length v32.1 = List.length v32.1); let z10 := (nilT Int ++ List.drop (0:Nat) z12); let z9 := (nilT Int ++ List.drop (0:Nat) z12 ++ w64 (a - (1:Int)) :: nilT Int); let z8 := (nilT Int ++ List.drop (0:Nat) z12 ++ w64 (a - (1:Int)) :: nilT Int ++ List.drop (Int.toNat v32.2) z6); bif decide (v32.2 < a) then (gd (decide ((0:Int) ≤ v28.2)) (gd (decide (v28.2 < z3)) (gd z5 (gd (decide ((0:Int) ≤ v32.2)) (gd (decide (v32.2 ≤ z7)) (gd (decide ((0:Int) ≤ v28.2)) (gd (decide (v28.2 < z3)) (gd z5 (gd (decide ((0:Int) ≤ v32.2)) (gd (decide (v32.2 ≤ z7)) (gd (decide (z7 ≤ z7)) (Option.bind (Option.bind (gd (decide (List.length z10 * (8:Nat) ≤ z2)) (gd (decide (List.length z10 ≤ z1)) (gd (decide (List.length z10 = List.length z10)) (gd (decide (List.length z9 * (8:Nat) ≤ z2)) (gd (decide (List.length z9 ≤ z1)) (gd (decide (List.length z9 = List.length z9)) (gd (decide (List.length z8 * (8:Nat) ≤ z2)) (gd (decide (List.length z8 ≤ z1)) (gd (decide ((0:Nat) + List.length z8 ≤ List.length z8) && true) (gd z11 (gd (decide (List.length (v32.1 ++ List.take (1:Nat) (List.drop (0:Nat) (List.take (List.length z8) (List.drop (0:Nat) z8) :: nilT (List Int)))) * (24:Nat) ≤ z2)) (gd (decide (List.length (v32.1 ++ List.take (1:Nat) (List.drop (0:Nat) (List.take (List.length z8) (List.drop (0:Nat) z8) :: nilT (List Int)))) ≤ z1)) (Option.bind (gd (decide (List.length (v32.1 ++ List.take (1:Nat) (List.drop (0:Nat) (List.take (List.length z8) (List.drop (0:Nat) z8) :: nilT (List Int)))) = List.length (v32.1 ++ List.take (1:Nat) (List.drop (0:Nat) (List.take (List.length z8) (List.drop (0:Nat) z8) :: nilT (List Int))))) && true && (true && true)) (some ((v32.1 ++ List.take (1:Nat) (List.drop (0:Nat) (List.take (List.length z8) (List.drop (0:Nat) z8) :: nilT (List Int))),w64 (v32.2 + (1:Int)))))) fun (v39:List (List Int) × Int)=>some (Sum.inl v39)))))))))))))) fun (v36:List (List Int) × Int ⊕ List (List Int))=>let z14 := (List.drop (0:Nat) (List.take (List.length z8) (List.drop (0:Nat) z8) :: nilT (List Int))); let z13 := (v32.1 ++ List.take (1:Nat) z14); Option.bind (gd (decide (List.length z10 * (8:Nat) ≤ z2)) (gd (decide (List.length z10 ≤ z1)) (gd (decide (List.length z10 = List.length z10)) (gd (decide (List.length z9 * (8:Nat) ≤ z2)) (gd (decide (List.length z9 ≤ z1)) (gd (decide (List.length z9 = List.length z9)) (gd (decide (List.length z8 * (8:Nat) ≤ z2)) (gd (decide (List.length z8 ≤ z1)) (gd (decide ((0:Nat) + List.length z8 ≤ List.length z8) && true) (gd z11 (gd (decide (List.length z13 * (24:Nat) ≤ z2)) (gd (decide (List.length z13 ≤ z1)) (Option.bind (gd (decide (List.length z13 = List.length z13) && true && (true && true)) (some ((v32.1 ++ List.take (1:Nat) z14,w64 (v32.2 + (1:Int)))))) fun (v38:List (List Int) × Int)=>some (Sum.inl v38)))))))))))))) fun (v37:List (List Int) × Int ⊕ List (List Int))=>gd (sumEq (CEls.eqv (Cel.vec (0:Nat) (49:Nat) (Ty.seq (Ty.int Go.IntKind.i64 :: nilT Ty) :: nilT Ty) :: Cel.slot (6:Nat) (ATy.val (Ty.int Go.IntKind.i64)) :: nilT Cel)) (AltsEl.eqv ((Go.Exit.exit (2:Nat),{ cells := Cel.vec (0:Nat) (49:Nat) (Ty.seq (Ty.int Go.IntKind.i64 :: nilT Ty) :: nilT Ty) :: nilT Cel,owns := ((3:Nat),Lk.own (0:Nat)) :: nilT (Nat × Lk) }) :: nilT (Go.Exit × Tmpl))) v36 v37) (some (v36))) fun (v33:List (List Int) × Int ⊕ List (List Int))=>let z16 := (List.drop (0:Nat) (List.take (List.length z8) (List.drop (0:Nat) z8) :: nilT (List Int))); let z15 := (v32.1 ++ List.take (1:Nat) z16); Option.bind (gd (decide (List.length z10 * (8:Nat) ≤ z2)) (gd (decide (List.length z10 ≤ z1)) (gd (decide (List.length z10 = List.length z10)) (gd (decide (List.length z9 * (8:Nat) ≤ z2)) (gd (decide (List.length z9 ≤ z1)) (gd (decide (List.length z9 = List.length z9)) (gd (decide (List.length z8 * (8:Nat) ≤ z2)) (gd (decide (List.length z8 ≤ z1)) (gd (decide ((0:Nat) + List.length z8 ≤ List.length z8) && true) (gd z11 (gd (decide (List.length z15 * (24:Nat) ≤ z2)) (gd (decide (List.length z15 ≤ z1)) (Option.bind (gd (decide (List.length z15 = List.length z15) && true && (true && true)) (some ((v32.1 ++ List.take (1:Nat) z16,w64 (v32.2 + (1:Int)))))) fun (v35:List (List Int) × Int)=>some (Sum.inl v35)))))))))))))) fun (v34:List (List Int) × Int ⊕ List (List Int))=>gd (sumEq (CEls.eqv (Cel.vec (0:Nat) (49:Nat) (Ty.seq (Ty.int Go.IntKind.i64 :: nilT Ty) :: nilT Ty) :: Cel.slot (6:Nat) (ATy.val (Ty.int Go.IntKind.i64)) :: nilT Cel)) (AltsEl.eqv ((Go.Exit.exit (2:Nat),{ cells := Cel.vec (0:Nat) (49:Nat) (Ty.seq (Ty.int Go.IntKind.i64 :: nilT Ty) :: nilT Ty) :: nilT Cel,owns := ((3:Nat),Lk.own (0:Nat)) :: nilT (Nat × Lk) }) :: nilT (Go.Exit × Tmpl))) v33 v34) (some (v33)))))))))))))) else (Option.bind (gd (decide (List.length v32.1 = List.length v32.1) && true && true) (some v32.1)) fun (v40:List (List Int))=>some (Sum.inr v40))) F (v29)) fun (v30:List (List Int))=>Option.bind (gd (decide (List.length v30 = List.length v30) && true && (true && true)) (some ((v30,w64 (v28.2 + (1:Int)))))) fun (v31:List (List Int) × Int)=>some (Sum.inl v31)) else (Option.bind (gd (decide (List.length v28.1 = List.length v28.1) && true && true) (some v28.1)) fun (v41:List (List Int))=>some (Sum.inr v41))) F ((nilT (List Int),(0:Int)))) fun (v27:List (List Int))=>gd (decide ((0:Nat) + List.length v27 ≤ List.length v27)) (some (List.take (List.length v27) (List.drop (0:Nat) v27))))
def r114 (F n:Nat):Int → Option (List (List Int)) := Nat.rec (motive := fun _=>Int → Option (List (List Int))) (fun _=>none) (fun _ ih=>b114 ih F) n
def c114 (F:Nat) (a:Int):Option (List (List Int)) := r114 F F a
def pr114 (F n:Nat):PC := { ats := [.val (.int .i64)],rts := [.val (.seq [.seq [.int .i64]])],code := r114 F n }
def pc114 (F:Nat):PC := { ats := [.val (.int .i64)],rts := [.val (.seq [.seq [.int .i64]])],code := c114 F }
theorem b114_eq (g:Int → Option (List (List Int))) (F:Nat) (a:Int):codeOf cx (lx114 g F) 1000 (.two .leaf (.two .leaf (.two .leaf (.two .leaf (.two (.two .leaf (.one (.virt 3 49 [.seq [.int .i64]] (.loop ⟨[.vec 0 49 [.seq [.int .i64]],.slot 5 (.val (.int .i64))],[(3,.own 0)]⟩ [(.exit 0,⟨[.vec 0 49 [.seq [.int .i64]]],[(3,.own 0)]⟩)] ⟨[6,24,25,26,27,28,29,30,31,32,33,34,35,36,37,38,39,40,41,42,43,44,45,3,23,22,21,20,19,5,18,17,16,15,14,13],[0],[0]⟩ F (.two .leaf (.two (.one (.two .leaf (.one (.loop ⟨[.vec 0 49 [.seq [.int .i64]],.slot 6 (.val (.int .i64))],[(3,.own 0)]⟩ [(.exit 2,⟨[.vec 0 49 [.seq [.int .i64]]],[(3,.own 0)]⟩)] ⟨[24,25,26,27,28,29,30,31,32,33,34,35,36,37,38,39,40,41,42,43,44,45,3,6,23,22,21,20,19],[0],[0]⟩ F .leaf)))) .leaf)))))) .leaf))))) f114 (bodyOf f114) [.val (.int .i64)] [.val (.seq [.seq [.int .i64]])] a = b114 g F a := by kernel_rfl
theorem lx114_ok (F n:Nat) (h:PCOk cx 114 (pr114 F n)):(lx114 (r114 F n) F).Ok cx := Lx.ok_cons (PC.sm_ok h) (Lx.ok_nil)
theorem pr114_ok (F:Nat):∀ n,PCOk cx 114 (pr114 F n)
 | 0=>⟨⟨f114,by kernel_rfl⟩,fun a y h=>absurd (show (none:Option _) = some y from h) (by simp)⟩
 | n + 1=>PCOk.of_eval cx_ok (lx114_ok F n (pr114_ok F n)) (n := 1000) (an := (.two .leaf (.two .leaf (.two .leaf (.two .leaf (.two (.two .leaf (.one (.virt 3 49 [.seq [.int .i64]] (.loop ⟨[.vec 0 49 [.seq [.int .i64]],.slot 5 (.val (.int .i64))],[(3,.own 0)]⟩ [(.exit 0,⟨[.vec 0 49 [.seq [.int .i64]]],[(3,.own 0)]⟩)] ⟨[6,24,25,26,27,28,29,30,31,32,33,34,35,36,37,38,39,40,41,42,43,44,45,3,23,22,21,20,19,5,18,17,16,15,14,13],[0],[0]⟩ F (.two .leaf (.two (.one (.two .leaf (.one (.loop ⟨[.vec 0 49 [.seq [.int .i64]],.slot 6 (.val (.int .i64))],[(3,.own 0)]⟩ [(.exit 2,⟨[.vec 0 49 [.seq [.int .i64]]],[(3,.own 0)]⟩)] ⟨[24,25,26,27,28,29,30,31,32,33,34,35,36,37,38,39,40,41,42,43,44,45,3,6,23,22,21,20,19],[0],[0]⟩ F .leaf)))) .leaf)))))) .leaf)))))) (fn := f114) (c := bodyOf f114) (by kernel_rfl) (by kernel_rfl) (fun a y h=>(b114_eq (r114 F n) F a).trans h) (by kernel_rfl)
theorem pc114_ok (F:Nat):PCOk cx 114 (pc114 F) := pr114_ok F F
def tx73_0:Tmpl := ⟨[.vec 0 3 [.int .i64],.vec 1 117 wO],[(0,.own 0),(1,.own 1)]⟩
def wx73_0:Tmpl := ⟨[.slot 0 (.val (.seq [.int .i64])),.slot 1 (.val (.bool))],[]⟩
def lxx73_0 (F:Nat):LK := lN
def px73_0 (F:Nat):PX := qX (lxx73_0 F) (.two .leaf (.two .leaf (.two (.two .leaf (.one (.loop ⟨[.vec 2 3 [.int .i64],.slot 7 (.val (.int .i64))],[]⟩ [(.ret,⟨[.vec 2 3 [.int .i64],.slot 5 (.val (.bool))],[(4,.own 2)]⟩),(.exit 0,⟨[.vec 2 3 [.int .i64]],[]⟩)] ⟨[8,58,59,5,4,60,20,21,22,23,24,25,40,41,42,43,44,45,46,47,48,49,57,56,55,54,53,52,51,50,10,39,38,37,36,35,34,33,32,31,30,29,28,27,26,9,7,19,18,17,16,15,14],[2],[]⟩ F (.two .leaf (.two (.one (.two .leaf (.two (.two .leaf (.one (.loop ⟨[.vec 2 3 [.int .i64],.slot 8 (.val (.bool)),.slot 9 (.val (.int .i64))],[]⟩ [(.exit 2,⟨[.vec 2 3 [.int .i64],.slot 8 (.val (.bool))],[]⟩)] ⟨[26,27,28,29,30,31,32,33,34,35,36,37,38,39,10,50,51,52,53,54,55,56,57,8,49,48,47,46,45,44,43,42,41,40,9,25,24,23,22,21,20],[2],[]⟩ F (.two .leaf (.two (.one (.two .leaf (.two .leaf (.join [(.normal,⟨[.vec 2 3 [.int .i64],.slot 8 (.val (.bool))],[]⟩)] ⟨[8,57,56,55,54,53,52,51,50],[2],[]⟩ .leaf)))) .leaf))))) .leaf))) .leaf))))) .leaf))) f73 (pxB 2 [.arg 0,.arg 1] tx73_0 2 wx73_0 [] [])
theorem px73_0_ok (F:Nat):PXOk cx 73 (px73_0 F) := qX_ok (by kernel_rfl)
def lx115 (F:Nat):LK := lC (pc73_ok F) (lX (px73_0_ok F) lN)
def pc115 (F:Nat):PC := qT (lx115 F) (.two .leaf (.two .leaf (.two (.two .leaf (.one (.loop ⟨[.vec 1 3 [.int .i64],.slot 11 (.val (.int .i64))],[]⟩ [(.exit 0,⟨[.vec 1 3 [.int .i64]],[]⟩)] ⟨[31,32,33,34,35,36,37,11,30,29,28,27,26,25],[1],[]⟩ F .leaf))) (.two (.within [(30000072,(.two .leaf (.two .leaf (.two (.two .leaf (.one (.virt 5 117 wO (.loop ⟨[.vec 3 117 wO,.slot 6 (.val (.int .i64))],[(5,.own 3)]⟩ [(.exit 0,⟨[.vec 3 117 wO],[(5,.own 3)]⟩)] ⟨[15,16,17,18,19,20,21,22,23,24,25,26,32,33,34,35,36,37,38,39,40,41,42,43,44,45,46,47,48,49,5,7,31,30,29,28,27,6,14,13,12,11,10,9,8],[3],[3]⟩ F (.two .leaf (.two (.one (.join [(.normal,⟨[.vec 3 117 wO],[(5,.own 3)]⟩)] ⟨[27,28,29,30,31,7,5,49,48,47,46,45,44,43,42,41,40,39,38,37,36,35,34,33,32,26,25,24,23,22,21,20,19,18,17,16,15],[3],[3]⟩ (.two .leaf (.join [(.normal,⟨[.vec 3 117 wO],[(5,.own 3)]⟩)] ⟨[32,33,34,35,36,37,38,39,40,41,42,43,44,45,46,47,48,49,5,7,31,30,29,28,27],[3],[3]⟩ .leaf)))) .leaf)))))) .leaf))))]) (.two (.two .leaf (.one (.loop ⟨[.vec 3 117 wO,.slot 13 (.val (.int .i64))],[(12,.own 3)]⟩ [(.exit 2,⟨[.vec 3 117 wO],[(12,.own 3)]⟩)] ⟨[54,55,56,57,58,69,70,71,72,73,74,75,76,77,79,78,80,81,82,83,84,85,87,86,12,101,100,99,98,97,96,95,94,93,92,91,90,89,88,16,15,14,68,67,66,65,64,63,62,61,60,59,13,53,52,51,50,49,48],[3],[3]⟩ F (.two .leaf (.two (.join [(.normal,⟨[.vec 3 117 wO],[(12,.own 3)]⟩)] ⟨[59,60,61,62,63,64,65,66,67,68,14,15,16,88,89,90,91,92,93,94,95,96,97,98,99,100,101,12,86,87,85,84,83,82,81,80,78,79,77,76,75,74,73,72,71,70,69,58,57,56,55,54],[3],[3]⟩ (.one (.two .leaf (.two .leaf (.two (.two .leaf (.join [(.normal,⟨[.slot 14 (.val (.int .i64)),.slot 15 (.val (.int .i64))],[]⟩)] ⟨[15,14,79,78],[],[]⟩ .leaf)) (.two .leaf (.two (.two .leaf (.join [(.normal,⟨[.slot 16 (.val (.int .i64))],[]⟩)] ⟨[16,87,86],[],[]⟩ .leaf)) .leaf))))))) .leaf))))) (.two .leaf (.two (.two .leaf (.one (.loop ⟨[.vec 4 3 [.int .i64],.slot 18 (.val (.int .i64))],[]⟩ [(.exit 4,⟨[.vec 4 3 [.int .i64]],[]⟩)] ⟨[112,113,114,115,124,123,122,121,120,119,118,117,116,18,111,110,109,108,107,106],[4],[]⟩ F (.two .leaf (.two (.one (.two .leaf (.join [(.normal,⟨[.vec 4 3 [.int .i64]],[]⟩)] ⟨[124,123,122,121,120,119,118,117,116],[4],[]⟩ .leaf))) .leaf))))) (.two .leaf (.two (.two .leaf (.one (.loop ⟨[.slot 20 (.val (.bool)),.slot 21 (.val (.int .i64))],[]⟩ [(.exit 6,⟨[.slot 20 (.val (.bool))],[]⟩)] ⟨[140,141,142,143,144,145,146,147,148,149,150,151,152,153,154,155,156,157,158,159,160,161,162,163,164,20,21,139,138,137,136,135,134,133,132,131],[],[]⟩ F (.two (.two (.join [(.normal,⟨[.slot 137 (.val (.bool))],[]⟩)] ⟨[137,136,135,134,133,132,131],[],[]⟩ .leaf) .leaf) (.two (.one (.join [(.normal,⟨[.slot 20 (.val (.bool))],[]⟩)] ⟨[20,164,163,162,161,160,159,158,157,156,155,154,153,152,151,150,149,148,147,146,145,144,143,142,141,140],[],[]⟩ .leaf)) .leaf))))) .leaf))))))))) f115 [.agg [sR,sO,.int .i64],.val (.seq [.str,.int .i64,.int .i64]),.val (.seq [.bool]),.val (.seq [.int .i64])] [.val (.seq [.int .i64]),.val (.bool)]
theorem pc115_ok (F:Nat):PCOk cx 115 (pc115 F) := qT_ok (by kernel_rfl)
def lx74 (F:Nat):LK := lC (pc114_ok F) (lC (pc115_ok F) (lC (pc37_ok F) lN))
def pc74 (F:Nat):PC := qT (lx74 F) (.two .leaf (.two .leaf (.two .leaf (.two (.two .leaf (.one (.loop ⟨[.slot 7 (.val (.int .i64))],[]⟩ [(.ret,⟨[.slot 4 (.val (.bool))],[]⟩),(.exit 0,⟨[],[]⟩)] ⟨[23,24,25,26,27,28,29,30,22,31,32,8,9,4,33,7,21,20,19,18,17,16],[],[]⟩ F .leaf))) .leaf)))) f74 [.agg [sR,sO,.int .i64],.val (.seq [.bool])] [.val (.bool)]
theorem pc74_ok (F:Nat):PCOk cx 74 (pc74 F) := qT_ok (by kernel_rfl)
def lx79 (F:Nat):LK := lC (pc115_ok F) (lC (pc114_ok F) (lC (pc37_ok F) lN))
def pc79 (F:Nat):PC := qT (lx79 F) (.two .leaf (.two .leaf (.two .leaf (.two .leaf (.two (.two .leaf (.one (.virt 6 49 [.seq [.int .i64]] (.loop ⟨[.vec 1 49 [.seq [.int .i64]],.slot 8 (.val (.int .i64))],[(6,.own 1)]⟩ [(.exit 0,⟨[.vec 1 49 [.seq [.int .i64]]],[(6,.own 1)]⟩)] ⟨[24,25,26,27,28,29,30,31,23,32,33,9,10,35,36,37,38,6,34,8,22,21,20,19,18,17],[1],[1]⟩ F (.two .leaf (.two (.one (.two .leaf (.two .leaf (.join [(.normal,⟨[.vec 1 49 [.seq [.int .i64]]],[(6,.own 1)]⟩)] ⟨[6,38,37,36,35],[1],[1]⟩ .leaf)))) .leaf)))))) .leaf))))) f79 [.agg [sR,sO,.int .i64],.val (.seq [.bool])] [.val (.seq [.seq [.int .i64]])]
theorem pc79_ok (F:Nat):PCOk cx 79 (pc79 F) := qT_ok (by kernel_rfl)
def lx25 (F:Nat):LK := lC (pc74_ok F) (lS (PF.sm_ok (pf75_ok F)) (lC (pc37_ok F) lN))
def pc25 (F:Nat):PC := qT (lx25 F) .leaf f25 [.agg [sR,sO,.int .i64]] [.val (.bool)]
def c25 (F:Nat) := (pc25 F).code
def lx30 (F:Nat):LK := lC (pc34_ok F) (lC (pc79_ok F) (lS (PF.sm_ok (pf75_ok F)) (lC (pc37_ok F) lN)))
def pc30 (F:Nat):PC := qT (lx30 F) (.two .leaf (.two (.within [(2000079,.leaf)]) (.two .leaf (.two (.two .leaf (.one (.loop ⟨[.slot 4 (.val (.int .i64)),.slot 5 (.val (.int .i64))],[]⟩ [(.exit 0,⟨[.slot 4 (.val (.int .i64))],[]⟩)] ⟨[23,24,25,26,27,28,29,30,4,5,22,21,20,19,18,17],[],[]⟩ F .leaf))) .leaf)))) f30 [.agg [sR,sO,.int .i64]] [.val (.int .i64)]
def c30 (F:Nat) := (pc30 F).code
def lx31 (F:Nat):LK := lC (pc80_ok F) (lC (pc79_ok F) (lS (PF.sm_ok (pf75_ok F)) (lC (pc37_ok F) lN)))
def pc31 (F:Nat):PC := qT (lx31 F) (.two .leaf (.two (.within [(2000079,.leaf)]) (.two .leaf (.two (.two .leaf (.one (.loop ⟨[.slot 4 (.val (.seq [.int .i64])),.slot 5 (.val (.int .i64))],[]⟩ [(.exit 0,⟨[.slot 4 (.val (.seq [.int .i64]))],[]⟩)] ⟨[21,22,23,24,25,26,4,30,29,28,27,5,20,19,18,17,16,15],[],[]⟩ F (.two .leaf (.two (.one (.two .leaf (.join [(.normal,⟨[.slot 4 (.val (.seq [.int .i64]))],[]⟩)] ⟨[4,30,29,28,27],[],[]⟩ .leaf))) .leaf))))) .leaf)))) f31 [.agg [sR,sO,.int .i64]] [.val (.seq [.int .i64])]
def c31 (F:Nat) := (pc31 F).code
end
end Go.Proofs.Tryz
end
section
namespace Go.Proofs.Tryz
open Go Go.Sx
end Go.Proofs.Tryz
end
section
namespace Go.Proofs.Tryz
open Go Go.Sx
end Go.Proofs.Tryz
end
namespace Go.Proofs.Tryz
open Go Go.Sx
def chS (p:Pln) (B:List Bool):List Rul := ((rulesS p).zip B).filterMap fun x=>if x.2 = true then some x.1 else none
theorem mem_chS {p:Pln} {B:List Bool} {r:Rul}:r ∈ chS p B ↔ ∃ k:Nat,(rulesS p)[k]? = some r ∧ B[k]? = some true := by
 unfold chS
 rw [List.mem_filterMap]
 constructor
 ·rintro ⟨⟨r',b⟩,hm,h⟩
  obtain ⟨k,hk⟩ := List.mem_iff_getElem?.1 hm
  obtain ⟨h1,h2⟩ := zip_get hk
  cases b with
  | true =>
   simp only [if_true,Option.some.injEq] at h
   subst h
   exact ⟨k,h1,h2⟩
  | false=>simp at h
 ·rintro ⟨k,h1,h2⟩
  refine ⟨(r,true),List.mem_iff_getElem?.2 ⟨k,?_⟩,rfl⟩
  rw [List.getElem?_zip_eq_some]
  exact ⟨h1,h2⟩
def eP (p:Pln) (P:List Int) (r:Rul):Edg := if tq P r.2.2.1 < tq P r.2.1 then e2 p r else e1 p r
theorem eP_ew {p:Pln} (hp:PV p) {P:List Int} {r:Rul} (hr:RulP p r):EW p.1.length (eP p P r) := by
 unfold eP
 split
 ·exact (hr.ew hp).2
 ·exact (hr.ew hp).1
theorem fL_set {t:List Int} {k i:Nat} {v:Int} (hk:k < t.length):fL (t.set k v) i = if i = k then v else fL t i := set_get hk
theorem apart_rulP {p:Pln} (hp:PV p) {i:Nat} {r:Rul} (hr:(rulesS p)[i]? = some r) (hi:p.1.length + p.2.1.length ≤ i):RulP p r := by
 refine ⟨hp.rul hr,?_⟩
 rcases rul_cases hr with ⟨h1,rfl⟩ | ⟨h1,h2,o,ho,rfl⟩ | ⟨h1,a,b,x,y,hab,hx,hy,hm⟩
 ·omega
 ·omega
 ·rcases pairR_mem hm with rfl | rfl | rfl
  ·simp [isP,sAW,sAO]
  ·simp [isP,sFW,sFO]
  ·simp [isP,sTW,sTO]
structure EdgsOk (p:Pln) (B:List Bool) (P:List Int) (E:List Edg):Prop where
 ord:∀ (k:Nat) (o:Ord3),p.2.1[k]? = some o → B[p.1.length + k]? = some true → (o.1,o.2.1,(rq p o.1).2.1 + o.2.2) ∈ E
 apart:∀ (k:Nat) r,p.1.length + p.2.1.length ≤ k → (rulesS p)[k]? = some r → B[k]? = some true → eP p P r ∈ E
 all:∀ e ∈ E,(∃ (k:Nat) (o:Ord3),p.2.1[k]? = some o ∧ B[p.1.length + k]? = some true ∧ e = (o.1,o.2.1,(rq p o.1).2.1 + o.2.2)) ∨ ∃ (k:Nat) (r:Rul),p.1.length + p.2.1.length ≤ k ∧ (rulesS p)[k]? = some r ∧ B[k]? = some true ∧ e = eP p P r
theorem ord_rul {p:Pln} {k:Nat} {o:Ord3} (h:p.2.1[k]? = some o):(rulesS p)[p.1.length + k]? = some (kO,o.1,o.2.1,o.2.2) := by
 have hk := (List.getElem?_eq_some_iff.1 h).1
 unfold rulesS
 have l1 := winR_len p
 have l2 := ordR_len p
 rw [List.append_assoc,List.getElem?_append_right (by omega),l1,List.getElem?_append_left (by omega)]
 have e := ifl_one (fun _ (o:Ord3)=>(kO,o.1,o.2.1,o.2.2)) p.2.1 0 k
 rw [show p.1.length + k - p.1.length = k by omega]
 rw [show (ifl ordR 0 p.2.1)[k]? = _ from e,h]
 rfl
theorem win_rul {p:Pln} {k:Nat} (h:k < p.1.length):(rulesS p)[k]? = some (kW,(k:Int),(k:Int),0) := by
 unfold rulesS
 have l1 := winR_len p
 rw [List.append_assoc,List.getElem?_append_left (by omega)]
 have e := ifl_one (fun i (_:Rnd)=>(kW,(i:Int),(i:Int),(0:Int))) p.1 0 k
 rw [show (ifl winR 0 p.1)[k]? = _ from e,List.getElem?_eq_getElem h]
 simp
theorem EdgsOk.ew {p:Pln} (hp:PV p) {B:List Bool} {P:List Int} {E:List Edg} (h:EdgsOk p B P E):∀ e ∈ E,EW p.1.length e := fun e he=>by
 rcases h.all e he with ⟨k,o,ho,_,rfl⟩ | ⟨k,r,hk,hr,_,rfl⟩
 ·exact edgL_ew hp _ (List.mem_map.2 ⟨o,List.mem_of_getElem? ho,rfl⟩)
 ·exact eP_ew hp (apart_rulP hp hr hk)
theorem holW {p:Pln} {t:List Int} {k:Nat}:holdS p t (kW,(k:Int),(k:Int),0) = true ↔ (rq p k).2.2.2.2.2.1 ≤ fL t k ∧ fL t k + (rq p k).2.1 ≤ (rq p k).2.2.2.2.2.2 := by
 unfold holdS
 simp only [sWW,if_true,winS,decide_eq_true_eq,tq,fL,Int.toNat_natCast]
theorem holO {p:Pln} {t:List Int} {o:Ord3}:holdS p t (kO,o.1,o.2.1,o.2.2) = true ↔ fL t o.1.toNat + ((rq p o.1).2.1 + o.2.2) ≤ fL t o.2.1.toNat := by
 unfold holdS
 simp only [sOW,sOO,if_true,Bool.false_eq_true,if_false,befS,decide_eq_true_eq,tq,fL]
 constructor <;> intro h <;> omega
end Go.Proofs.Tryz
section
namespace Go.Proofs.Tryz
open Go Go.Sx
end Go.Proofs.Tryz
end
namespace Go.Proofs.Tryz
open Go Go.Sx
theorem Hol.tok {p:Pln} {L:List Rul} {f:List Int} (h:Hol p L f):TOk p f := by
 refine TOk.ofB h.len fun x hx=>?_
 obtain ⟨i,hi,rfl⟩ := List.mem_iff_getElem.1 hx
 have := h.rng i (by rw [← h.len]; exact hi)
 simp only [fL] at this
 rw [getD_some (List.getElem?_eq_getElem hi)] at this
 omega
def exE (p:Pln):Int := firstNZ [planE p,if 8 < p.1.length then 22 else 0]
theorem l82 {F:Nat} (hF:400 ≤ F) {p:Pln} (h:PShort p):c82 F p = some (exE p) := by
 unfold c82
 have l2:∀ (a b:Int),c102 F (a :: b :: nilT Int) = some (firstNZ [a,b]) := fun a b=>l102 (by simp [nilT]; omega) (by simp [nilT])
 simp only [peta,l51 hF h.sm,l88,Option.bind_some,l2]
 unfold exE
 by_cases h8:8 < p.1.length
 ·have:(8:Int) < (p.1.length:Int) := by omega
  simp [h8,this,nilT]
 ·have:¬ (8:Int) < (p.1.length:Int) := by omega
  simp [h8,this,nilT]
theorem exE_zero {p:Pln} (h:exE p = 0):planE p = 0 ∧ p.1.length ≤ 8 := by
 have h1 := firstNZ_zero h
 refine ⟨h1 _ (by simp),?_⟩
 have := h1 (if 8 < p.1.length then 22 else 0) (by simp)
 split at this <;> omega
theorem l28 {F:Nat} (hF:4000 ≤ F) {p:Pln} (h:PShort p):(exE p ≠ 0 → c28 F p = some ([],exE p)) ∧ (exE p = 0 → ∃ t is,c28 F p = some (t,if is = true then 0 else 23) ∧ BestS p (endC p) t is) := by
 unfold c28 cx76_0
 simp only [peta,l82 (show 400 ≤ F by omega) h,Option.bind_some]
 constructor
 ·intro he
  simp [he,nilT]
 ·intro he
  obtain ⟨t,is,h1,h2⟩ := x116 hF (PV.of h (exE_zero he).1)
  refine ⟨t,is,?_,h2⟩
  simp only [he,decide_true,Bool.not_true,cond_false,h1,Option.bind_some,l88]
  cases is <;> rfl
theorem l27 {F:Nat} (hF:4000 ≤ F) {p:Pln} (h:PShort p) {t:List Int} {e:Int} (h1:c28 F p = some (t,e)) (h2:e = 0 → PV p ∧ TOk p t):c27 F p = some (if e = 0 then (endS p t,0) else (0,e)) := by
 unfold c27
 simp only [peta,h1,Option.bind_some]
 by_cases he:e = 0
 ·obtain ⟨a,b⟩ := h2 he
  simp [he,l68 (show 400 ≤ F by omega) a b]
 ·simp [he]
def bs (l:List UInt8):ByteArray := ⟨⟨l⟩⟩
def smp:TP := ([(bs [104,101,97,116,115],30,[bs [116,114,97,99,107]],[],[bs [97,110,110],bs [98,101,97]],0,100),(bs [106,117,109,112],20,[bs [112,105,116]],[],[bs [97,110,110]],0,100),(bs [102,105,110,97,108],10,[bs [116,114,97,99,107]],[],[bs [98,101,97]],0,100)],[(0,2,15)],20)
def nar:TP := ([(bs [104,101,97,116,115],30,[bs [116,114,97,99,107]],[],[bs [97,110,110],bs [98,101,97]],0,60),(bs [106,117,109,112],20,[bs [112,105,116]],[],[bs [97,110,110]],20,60),(bs [102,105,110,97,108],10,[bs [116,114,97,99,107]],[],[bs [98,101,97]],0,100)],[(0,2,15)],20)
def a50:TP := smp
def y50:List (ByteArray × Int × Int) × Int := ([(bs [119,105,110,100,111,119],0,0),(bs [119,105,110,100,111,119],1,1),(bs [119,105,110,100,111,119],2,2),(bs [111,114,100,101,114],0,2),(bs [97,116,104,108,101,116,101],0,1),(bs [97,114,101,97],0,2),(bs [97,116,104,108,101,116,101],0,2)],0)
theorem r50:(pc50 400).code a50 = some y50 := by kernel_rfl
def a17:TP := smp
def y17:List (Int × Int) × Int := ([(0,45),(0,80),(45,90)],0)
theorem r17:(pc17 400).code a17 = some y17 := by kernel_rfl
def a18:TP := smp
def y18:Int × Int := (55,0)
theorem r18:(pc18 400).code a18 = some y18 := by kernel_rfl
def a26:TP := smp
def y26:List Int × Int := ([0,50,50],0)
theorem r26:(pc26 400).code a26 = some y26 := by kernel_rfl
def a27:TP := smp
def y27:Int × Int := (70,0)
theorem r27:(pc27 400).code a27 = some y27 := by kernel_rfl
def a36:TP := nar
def y36:List Int × Int := ([0,1,4],0)
theorem r36:(pc36 400).code a36 = some y36 := by kernel_rfl
def a41:TP × List Int × ByteArray := (smp,[0,50,50],bs [97,110,110])
def y41:Int × Int := (20,0)
theorem r41:(pc41 400).code a41 = some y41 := by kernel_rfl
def a46:TP × List Int := (smp,[0,50,50])
def a52:TP × List Int := (smp,[0,50,50])
def b52:TP × List Int := (smp,[0,40,50])
def y52:Int × Int := (7,0)
def z52:Int × Int := (4,29)
theorem r52:(pc52 400).code a52 = some y52 := by kernel_rfl
theorem s52:((pc52 400).at a52 y52).code b52 = some z52 := by kernel_rfl
def a35:TP := nar
def b35:TP := smp
def y35:List Int × Int := ([0,1,4],0)
def z35:List Int × Int := ([],7)
theorem r35:(pc35 400).code a35 = some y35 := by kernel_rfl
theorem s35:((pc35 400).at a35 y35).code b35 = some z35 := by kernel_rfl
noncomputable def lxA:Lx := { ext := [(51,(pc51 400).sm)],anns := [],still := [] }
theorem lxA_ok:lxA.Ok cx.bare := Lx.ok_cons (PC.sm_ok (pc51_ok 400).bare) Lx.ok_nil
abbrev at45:List ATy := [.agg [sR,sO,.int .i64]]
abbrev rt45:List ATy := [.val (.seq [.str,.int .i64]),.val (.int .i64)]
def y45:List (ByteArray × Int) × Int := ([(bs [112,105,116],20),(bs [116,114,97,99,107],40)],0)
theorem q45:codeOf cx.bare lxA 3000 .leaf f45 (bodyOf f45) at45 rt45 smp = some y45 := by kernel_rfl
noncomputable def lx60 (F:Nat):LK := lN
noncomputable def pc60 (F:Nat):PC := qT (lx60 F) .leaf f60 [] [.agg [sR,sO,.int .i64]]
theorem pc60_ok (F:Nat):PCOk cx 60 (pc60 F) := qT_ok (by kernel_rfl)
noncomputable def lx61 (F:Nat):LK := lN
noncomputable def pc61 (F:Nat):PC := qT (lx61 F) (.two .leaf (.two (.within [(60,.leaf)]) .leaf)) f61 [] [.agg [sR,sO,.int .i64]]
theorem pc61_ok (F:Nat):PCOk cx 61 (pc61 F) := qT_ok (by kernel_rfl)
noncomputable def k50:PC := (pc50 400).one a50 y50
theorem k50_ok:PCOk cx.bare 50 k50 := (pc50_ok 400).bare.one a50 y50 r50
noncomputable def k17:PC := (pc17 400).one a17 y17
theorem k17_ok:PCOk cx.bare 17 k17 := (pc17_ok 400).bare.one a17 y17 r17
noncomputable def k18:PC := (pc18 400).one a18 y18
theorem k18_ok:PCOk cx.bare 18 k18 := (pc18_ok 400).bare.one a18 y18 r18
noncomputable def k26:PC := (pc26 400).one a26 y26
theorem k26_ok:PCOk cx.bare 26 k26 := (pc26_ok 400).bare.one a26 y26 r26
noncomputable def k27:PC := (pc27 400).one a27 y27
theorem k27_ok:PCOk cx.bare 27 k27 := (pc27_ok 400).bare.one a27 y27 r27
noncomputable def k36:PC := (pc36 400).one a36 y36
theorem k36_ok:PCOk cx.bare 36 k36 := (pc36_ok 400).bare.one a36 y36 r36
noncomputable def k41:PC := (pc41 400).one a41 y41
theorem k41_ok:PCOk cx.bare 41 k41 := (pc41_ok 400).bare.one a41 y41 r41
noncomputable def k52:PC := ((pc52 400).at a52 y52).at b52 z52
theorem k52_ok:PCOk cx.bare 52 k52 := @PCOk.at cx.bare 52 ((pc52 400).at a52 y52) (@PCOk.at cx.bare 52 (pc52 400) (pc52_ok 400).bare a52 y52 r52) b52 z52 s52
noncomputable def k35:PC := ((pc35 400).at a35 y35).at b35 z35
theorem k35_ok:PCOk cx.bare 35 k35 := @PCOk.at cx.bare 35 ((pc35 400).at a35 y35) (@PCOk.at cx.bare 35 (pc35 400) (pc35_ok 400).bare a35 y35 r35) b35 z35 s35
noncomputable def k45:PC := { ats := at45,rts := rt45,code := Go.Sx.one (ats := at45) (rts := rt45) smp y45 }
theorem k45_ok:PCOk cx.bare 45 k45 := PCOk.of_eval (Cx.bare_ok cx_ok) lxA_ok (n := 3000) (an := .leaf) (fn := f45) (c := bodyOf f45) (by kernel_rfl) (by kernel_rfl) (fun a y h=>by
 obtain ⟨h1,h2⟩ := Go.Sx.one_some h
 subst h1; subst h2
 exact q45) (by kernel_rfl)
noncomputable def lxB0:Lx := { ext := [(50,k50.sm),(17,k17.sm),(18,k18.sm),(26,k26.sm),(27,k27.sm),(36,k36.sm),(41,k41.sm),(52,k52.sm),(35,k35.sm),(45,k45.sm),(96,(pc96 400).sm),(90,(pc90 400).sm),(97,(pc97 400).sm),(55,(pc55 400).sm),(60,(pc60 400).sm),(61,(pc61 400).sm)],anns := [],still := [] }
theorem lxB0_ok:lxB0.Ok cx.bare := Lx.ok_cons (PC.sm_ok k50_ok) (Lx.ok_cons (PC.sm_ok k17_ok) (Lx.ok_cons (PC.sm_ok k18_ok) (Lx.ok_cons (PC.sm_ok k26_ok) (Lx.ok_cons (PC.sm_ok k27_ok) (Lx.ok_cons (PC.sm_ok k36_ok) (Lx.ok_cons (PC.sm_ok k41_ok) (Lx.ok_cons (PC.sm_ok k52_ok) (Lx.ok_cons (PC.sm_ok k35_ok) (Lx.ok_cons (PC.sm_ok k45_ok) (Lx.ok_cons (PC.sm_ok (pc96_ok 400).bare) (Lx.ok_cons (PC.sm_ok (pc90_ok 400).bare) (Lx.ok_cons (PC.sm_ok (pc97_ok 400).bare) (Lx.ok_cons (PC.sm_ok (pc55_ok 400).bare) (Lx.ok_cons (PC.sm_ok (pc60_ok 400).bare) (Lx.ok_cons (PC.sm_ok (pc61_ok 400).bare) Lx.ok_nil)))))))))))))))
noncomputable def lxB:Lx := { ext := lxB0.ext,anns := [],still := [] }
theorem lxB_ok:lxB.Ok cx.bare := ⟨lxB0_ok.ext,rfl⟩
noncomputable def c15 (F:Nat) (a:Unit):Option Bool := some true
noncomputable def pc15 (F:Nat):PC := { ats := [],rts := [.val .bool],code := c15 F }
theorem aw_eq:codeOf cx.bare lxB 3000 .leaf f15 (bodyOf f15) [] [.val .bool] () = some true := by kernel_rfl
theorem pc15_ok (F:Nat):PCOk cx 15 (pc15 F) := PCOk.full (PCOk.of_eval (Cx.bare_ok cx_ok) lxB_ok (n := 3000) (an := .leaf) (fn := f15) (c := bodyOf f15) (by kernel_rfl) (by kernel_rfl) (fun a y h=>aw_eq.trans h) (by kernel_rfl))
end Go.Proofs.Tryz
section
namespace Go.Proofs.Tryz
open Go Go.Sx
noncomputable section
def c3 (F:Nat) (a:TP):Option (Bool) :=
 let z1 := (0:Int); Option.bind (c14 F (a.1,a.2.1,a.2.2)) fun (v35:TP)=>let z2 := (v35.1,v35.2.1,v35.2.2); Option.bind (c16 F z2) fun (v36:Bool)=>bif !v36 then (some (true)) else (Option.bind (c17 F (a.1,a.2.1,a.2.2)) fun (v37:List (Int × Int) × Int)=>let z3 := (↑(List.length v37.1):Int); Option.bind (c18 F (a.1,a.2.1,a.2.2)) fun (v38:Int × Int)=>Option.bind (c19 F z2) fun (v39:Int)=>bif !decide (v39 = z1) then (Option.bind (bif decide (z3 = z1) then (bif decide (v37.2 = v39) then (Option.bind (c20 F (v38.1,v38.2,v39,z1)) fun (v41:Bool)=>some (v41)) else (some (false))) else (some (false))) fun (v40:Bool)=>some (v40)) else (Option.bind (c21 F z2) fun (v42:List (Int × Int) × Bool)=>let z4 := (bif v42.2 then (bif !decide (v37.2 = z1) then (some (true)) else (some (!decide (z3 = (↑(List.length v42.1):Int))))) else (some (false))); Option.bind (bif !v42.2 then (bif !decide (z3 = z1) then (some (true)) else (bif !decide (v37.2 = (23:Int)) then (some (true)) else z4)) else z4) fun (v43:Bool)=>bif v43 then (some (false)) else (Option.bind (loopO (σ := Int) (β := Bool ⊕ Unit) (fun (v50:Int)=>let z6 := (List.getD v42.1 (Int.toNat v50) (z1,z1)); let z5 := (List.getD v37.1 (Int.toNat v50) (z1,z1)); bif decide (v50 < z3) then (gd (decide (z1 ≤ v50)) (gd (decide (v50 < z3)) (gd (decide (Int.toNat v50 < List.length v37.1)) (gd (decide (z1 ≤ v50)) (gd (decide (v50 < (↑(List.length v42.1):Int))) (gd (decide (Int.toNat v50 < List.length v42.1)) (bif !(decide (z5.1 = z6.1) && (decide (z5.2 = z6.2) && true)) then (some (Sum.inr (Sum.inl false))) else (some (Sum.inl (w64 (v50 + (1:Int)))))))))))) else (some (Sum.inr (Sum.inr ())))) F (z1)) fun (v44:Bool ⊕ Unit)=>Sum.elim (fun (v45:Bool)=>some (v45)) (fun (v46:Unit)=>Option.bind (c22 F z2) fun (v47:Int × Bool)=>Option.bind (c23 F (!v47.2,(23:Int))) fun (v48:Int)=>Option.bind (c20 F (v38.1,v38.2,v48,v47.1)) fun (v49:Bool)=>some (v49)) (v44))))
end
end Go.Proofs.Tryz
end
section
namespace Go.Proofs.Tryz
open Go Go.Sx
end Go.Proofs.Tryz
end
section

end

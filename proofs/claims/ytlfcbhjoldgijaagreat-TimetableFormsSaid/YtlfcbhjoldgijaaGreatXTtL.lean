/- Functions of the program as functions of data. By program. Plain law: TimetableForms. -/
import Derived.Test.YtlfcbhjoldgijaaGreatXTtR1
import Derived.Test.YtlfcbhjoldgijaaGreatXT9n
section
set_option maxRecDepth 100000
set_option linter.all false
namespace Go.Proofs.Tryz
open Go Go.Sx
noncomputable def lx9 (F : Nat) : Lx := { ext := [(15, (pc15 F).sm), (16, (pc16 F).sm), (50, (pc50 F).sm), (37, (pc37 F).sm), (53, (pc53 F).sm), (20, (pc20 F).sm), (34, (pc34 F).sm), (33, (pc33 F).sm), (42, (pc42 F).sm), (52, (pc52 F).sm), (51, (pc51 F).sm), (19, (pc19 F).sm), (14, (pc14 F).sm)], anns := [], still := [] }
noncomputable def c9 (F : Nat) (a : TP × List Int) : Option (Bool) :=
  Option.bind (c14 F (a.1.1, a.1.2.1, a.1.2.2)) fun (v64 : TP) => Option.bind (Option.bind (c16 F (v64.1, v64.2.1, v64.2.2)) fun (v89 : Bool) => bif !v89 then (some (true)) else (some (decide ((30 : Int) < (↑(List.length a.2) : Int))))) fun (v65 : Bool) => bif v65 then (some (true)) else (Option.bind (c19 F (v64.1, v64.2.1, v64.2.2)) fun (v66 : Int) => Option.bind (c50 F (a.1.1, a.1.2.1, a.1.2.2)) fun (v67 : List (ByteArray × Int × Int) × Int) => Option.bind (c51 F (a.1.1, a.1.2.1, a.1.2.2)) fun (v68 : Int) => bif !decide (v68 = v66) then (some (false)) else (Option.bind (bif !decide (v66 = (0 : Int)) then (Option.bind (bif !decide ((↑(List.length v67.1) : Int) = (0 : Int)) then (some (true)) else (some (!decide (v67.2 = v66)))) fun (v82 : Bool) => bif v82 then (some (Sum.inl false)) else (some (Sum.inr ()))) else (Option.bind (c37 F (v64.1, v64.2.1, v64.2.2)) fun (v83 : List (ByteArray × Int × Int)) => Option.bind (bif !decide (v67.2 = (0 : Int)) then (some (true)) else (some (!decide ((↑(List.length v67.1) : Int) = (↑(List.length v83) : Int))))) fun (v84 : Bool) => bif v84 then (some (Sum.inl false)) else (Option.bind (loopO (σ := Int) (β := Bool ⊕ Unit) (fun (v88 : Int) => bif decide (v88 < (↑(List.length v67.1) : Int)) then (gd (decide ((0 : Int) ≤ v88)) (gd (decide (v88 < (↑(List.length v67.1) : Int))) (gd (decide (Int.toNat v88 < List.length v67.1)) (gd (decide ((0 : Int) ≤ v88)) (gd (decide (v88 < (↑(List.length v83) : Int))) (gd (decide (Int.toNat v88 < List.length v83)) (bif !(Prod.fst (List.getD v67.1 (Int.toNat v88) (ByteArray.empty, (0 : Int), (0 : Int))) == Prod.fst (List.getD v83 (Int.toNat v88) (ByteArray.empty, (0 : Int), (0 : Int))) && (decide (Prod.fst (Prod.snd (List.getD v67.1 (Int.toNat v88) (ByteArray.empty, (0 : Int), (0 : Int)))) = Prod.fst (Prod.snd (List.getD v83 (Int.toNat v88) (ByteArray.empty, (0 : Int), (0 : Int))))) && (decide (Prod.snd (Prod.snd (List.getD v67.1 (Int.toNat v88) (ByteArray.empty, (0 : Int), (0 : Int)))) = Prod.snd (Prod.snd (List.getD v83 (Int.toNat v88) (ByteArray.empty, (0 : Int), (0 : Int))))) && true))) then (some (Sum.inr (Sum.inl false))) else (some (Sum.inl (w64 (v88 + (1 : Int)))))))))))) else (some (Sum.inr (Sum.inr ())))) F ((0 : Int))) fun (v85 : Bool ⊕ Unit) => Sum.elim (fun (v86 : Bool) => some (Sum.inl v86)) (fun (v87 : Unit) => some (Sum.inr ())) (v85)))) fun (v69 : Bool ⊕ Unit) => Sum.elim (fun (v70 : Bool) => some (v70)) (fun (v71 : Unit) => Option.bind (c52 F ((a.1.1, a.1.2.1, a.1.2.2), a.2)) fun (v72 : Int × Int) => Option.bind (c53 F ((a.1.1, a.1.2.1, a.1.2.2), a.2)) fun (v73 : Int × Int) => Option.bind (c42 F ((v64.1, v64.2.1, v64.2.2), a.2)) fun (v74 : Int) => bif !decide (v74 = (0 : Int)) then (Option.bind (Option.bind (c20 F (v72.1, v72.2, v74, (0 : Int))) fun (v76 : Bool) => bif v76 then (Option.bind (c20 F (v73.1, v73.2, v74, (0 : Int))) fun (v77 : Bool) => some (v77)) else (some (false))) fun (v75 : Bool) => some (v75)) else (Option.bind (c33 F ((v64.1, v64.2.1, v64.2.2), a.2)) fun (v78 : Int × Int) => Option.bind (bif decide (v72.1 = v78.1) then (bif decide (v72.2 = v78.2) then (Option.bind (c34 F ((v64.1, v64.2.1, v64.2.2), a.2)) fun (v80 : Int) => Option.bind (c20 F (v73.1, v73.2, (0 : Int), v80)) fun (v81 : Bool) => some (v81)) else (some (false))) else (some (false))) fun (v79 : Bool) => some (v79))) (v69)))
noncomputable def pc9 (F : Nat) : PC := { ats := [.agg [sR, sO, .int .i64], .val (.seq [.int .i64])], rts := [.val (.bool)], code := c9 F }
theorem lx9_ok (F : Nat) : (lx9 F).Ok cx := Lx.ok_cons (PC.sm_ok (pc15_ok F)) (Lx.ok_cons (PC.sm_ok (pc16_ok F)) (Lx.ok_cons (PC.sm_ok (pc50_ok F)) (Lx.ok_cons (PC.sm_ok (pc37_ok F)) (Lx.ok_cons (PC.sm_ok (pc53_ok F)) (Lx.ok_cons (PC.sm_ok (pc20_ok F)) (Lx.ok_cons (PC.sm_ok (pc34_ok F)) (Lx.ok_cons (PC.sm_ok (pc33_ok F)) (Lx.ok_cons (PC.sm_ok (pc42_ok F)) (Lx.ok_cons (PC.sm_ok (pc52_ok F)) (Lx.ok_cons (PC.sm_ok (pc51_ok F)) (Lx.ok_cons (PC.sm_ok (pc19_ok F)) (Lx.ok_cons (PC.sm_ok (pc14_ok F)) (Lx.ok_nil)))))))))))))
theorem pc9_ok (F : Nat) : PCOk cx 9 (pc9 F) := PCOk.of_eval cx_ok (lx9_ok F) (n := 1000) (an := (.two .leaf (.two .leaf (.two (.two (.join [(.normal, ⟨[.slot 30 (.val (.bool))], []⟩)] ⟨[30, 29, 28, 27, 26, 25, 24, 23, 22, 21, 20, 19], [], []⟩ .leaf) .leaf) (.two .leaf (.two .leaf (.two .leaf (.two (.two .leaf (.join [(.ret, ⟨[.slot 4 (.val (.bool))], []⟩), (.normal, ⟨[], []⟩)] ⟨[53, 54, 9, 10, 70, 71, 72, 73, 74, 75, 76, 77, 78, 69, 68, 67, 66, 65, 64, 63, 62, 61, 60, 59, 58, 57, 56, 55, 4, 52, 51, 50, 49, 48, 47, 46, 45], [], []⟩ (.two (.two (.join [(.normal, ⟨[.slot 52 (.val (.bool))], []⟩)] ⟨[52, 51, 50, 49, 48, 47, 46, 45], [], []⟩ .leaf) .leaf) (.two .leaf (.two (.two (.join [(.normal, ⟨[.slot 63 (.val (.bool))], []⟩)] ⟨[63, 62, 61, 60, 59, 58, 57, 56, 55], [], []⟩ .leaf) .leaf) (.two .leaf (.one (.loop ⟨[.slot 10 (.val (.int .i64))], []⟩ [(.ret, ⟨[.slot 4 (.val (.bool))], []⟩), (.exit 0, ⟨[], []⟩)] ⟨[70, 71, 72, 73, 74, 75, 76, 77, 78, 4, 10, 69, 68, 67, 66, 65, 64], [], []⟩ F .leaf)))))))) (.two .leaf (.two .leaf (.two .leaf (.two (.two .leaf (.two (.two (.join [(.normal, ⟨[.slot 4 (.val (.bool))], []⟩)] ⟨[4, 105, 104, 103, 102, 101, 100, 99, 98, 97, 96], [], []⟩ .leaf) .leaf) .leaf)) (.two .leaf (.two (.join [(.normal, ⟨[.slot 4 (.val (.bool))], []⟩)] ⟨[4, 127, 126, 125, 124, 123, 122, 121, 120, 119, 118, 117, 116, 115, 114, 113, 112], [], []⟩ .leaf) .leaf)))))))))))))) (fn := f9) (c := bodyOf f9) (by kernel_rfl) (by kernel_rfl) (fun a y h => Eq.trans (b := c9 F a) (by kernel_rfl) h) (by kernel_rfl)
noncomputable def c3 (F : Nat) (a : TP) : Option (Bool) :=
  Option.bind (c14 F (a.1, a.2.1, a.2.2)) fun (v35 : TP) => Option.bind (c16 F (v35.1, v35.2.1, v35.2.2)) fun (v36 : Bool) => bif !v36 then (some (true)) else (Option.bind (c17 F (a.1, a.2.1, a.2.2)) fun (v37 : List (Int × Int) × Int) => Option.bind (c18 F (a.1, a.2.1, a.2.2)) fun (v38 : Int × Int) => Option.bind (c19 F (v35.1, v35.2.1, v35.2.2)) fun (v39 : Int) => bif !decide (v39 = (0 : Int)) then (Option.bind (bif decide ((↑(List.length v37.1) : Int) = (0 : Int)) then (bif decide (v37.2 = v39) then (Option.bind (c20 F (v38.1, v38.2, v39, (0 : Int))) fun (v41 : Bool) => some (v41)) else (some (false))) else (some (false))) fun (v40 : Bool) => some (v40)) else (Option.bind (c21 F (v35.1, v35.2.1, v35.2.2)) fun (v42 : List (Int × Int) × Bool) => Option.bind (bif !v42.2 then (bif !decide ((↑(List.length v37.1) : Int) = (0 : Int)) then (some (true)) else (bif !decide (v37.2 = (23 : Int)) then (some (true)) else (bif v42.2 then (bif !decide (v37.2 = (0 : Int)) then (some (true)) else (some (!decide ((↑(List.length v37.1) : Int) = (↑(List.length v42.1) : Int))))) else (some (false))))) else (bif v42.2 then (bif !decide (v37.2 = (0 : Int)) then (some (true)) else (some (!decide ((↑(List.length v37.1) : Int) = (↑(List.length v42.1) : Int))))) else (some (false)))) fun (v43 : Bool) => bif v43 then (some (false)) else (Option.bind (loopO (σ := Int) (β := Bool ⊕ Unit) (fun (v50 : Int) => bif decide (v50 < (↑(List.length v37.1) : Int)) then (gd (decide ((0 : Int) ≤ v50)) (gd (decide (v50 < (↑(List.length v37.1) : Int))) (gd (decide (Int.toNat v50 < List.length v37.1)) (gd (decide ((0 : Int) ≤ v50)) (gd (decide (v50 < (↑(List.length v42.1) : Int))) (gd (decide (Int.toNat v50 < List.length v42.1)) (bif !(decide (Prod.fst (List.getD v37.1 (Int.toNat v50) ((0 : Int), (0 : Int))) = Prod.fst (List.getD v42.1 (Int.toNat v50) ((0 : Int), (0 : Int)))) && (decide (Prod.snd (List.getD v37.1 (Int.toNat v50) ((0 : Int), (0 : Int))) = Prod.snd (List.getD v42.1 (Int.toNat v50) ((0 : Int), (0 : Int)))) && true)) then (some (Sum.inr (Sum.inl false))) else (some (Sum.inl (w64 (v50 + (1 : Int)))))))))))) else (some (Sum.inr (Sum.inr ())))) F ((0 : Int))) fun (v44 : Bool ⊕ Unit) => Sum.elim (fun (v45 : Bool) => some (v45)) (fun (v46 : Unit) => Option.bind (c22 F (v35.1, v35.2.1, v35.2.2)) fun (v47 : Int × Bool) => Option.bind (c23 F (!v47.2, (23 : Int))) fun (v48 : Int) => Option.bind (c20 F (v38.1, v38.2, v48, v47.1)) fun (v49 : Bool) => some (v49)) (v44))))
end Go.Proofs.Tryz
end
section
set_option maxRecDepth 100000
set_option linter.unusedVariables false
set_option linter.unusedSimpArgs false
namespace Go.Proofs.Tryz
open Go Go.Sx
theorem m20_err {F : Nat} {b w : Int} (hb : b ≠ 0) : c20 F (0, b, b, w) = some true := by
  unfold c20
  simp [hb]
theorem m20_ok {F : Nat} {w : Int} : c20 F (w, 0, 0, w) = some true := by
  unfold c20
  simp
theorem beqB (x : ByteArray) : (x == x) = true := by cases x with | mk d => exact (beq_self_eq_true d)
theorem law9 (a : Pln × List Int) (hok : AEls.ok [.agg [.seq [.str, .int .i64, .seq [.str], .seq [.str], .seq [.str], .int .i64, .int .i64], .seq [.int .i64, .int .i64, .int .i64], .int .i64], .val (.seq [.int .i64])] a) : ∃ F, c9 F a = some true := by
  obtain ⟨p, t⟩ := a
  obtain ⟨⟨⟨hb1, -⟩, ⟨hb2, -⟩, -⟩, -⟩ := hok
  refine ⟨roomP p t, ?_⟩
  have hF0 : roomP p t = p.1.length + p.2.1.length + t.length + 4000 := rfl
  generalize roomP p t = F at hF0
  unfold c9
  obtain ⟨b, h16, hs⟩ := l16 (F := F) (by omega) (p := p)
  simp only [peta, l14 (F := F) (p := p) (by omega) (by omega) hb1 hb2, Option.bind_some, h16]
  cases b with
  | false => rfl
  | true =>
    have hp := hs rfl
    simp only [Bool.not_true, cond_false, Option.bind_some]
    by_cases h30 : (30 : Int) < t.length
    · simp [h30]
    · have htl : t.length ≤ 300 := by omega
      simp only [h30, decide_false, cond_false, l19 (show 400 ≤ F by omega) hp.sm, l51 (show 400 ≤ F by omega) hp.sm, l50 (show 3000 ≤ F by omega) hp, l42 (show 400 ≤ F by omega) hp htl, l52 (show 3000 ≤ F by omega) hp htl, l53 (show 3000 ≤ F by omega) hp htl, Option.bind_some, decide_true, Bool.not_true]
      by_cases h0 : planE p = 0
      · have hv := PV.of hp h0
        have hl := rulesS_len (p := p) (by have := hv.n1; omega) (by have := hv.n2; omega)
        have hcl := condS_len p
        simp only [h0, decide_true, Bool.not_true, cond_false, if_true, l37 (show 400 ≤ F by omega) hp, Option.bind_some]
        rw [Option.bind_assoc]
        refine bind_list (condS p) (fun (_ : Unit) i => (i : Int)) (fun _ _ => .inl ()) (fun _ => (.inr () : Bool ⊕ Unit)) (fun _ _ => True) () (by omega) rfl trivial ?_ ?_ ?_
        · intro i x _ hi hx _
          refine ⟨?_, fun _ _ => trivial⟩
          simp (disch := omega) only [cd_pos, gd_dec, w64_in, Int.toNat_natCast, getD_some hx, decide_true, Bool.and_true, beqB, Bool.not_true, cond_false]
          rfl
        · intro _ _
          simp (disch := omega) only [cd_neg]
        · rw [goL_unit]
          simp only [Sum.elim_inr]
          by_cases h2 : soundE p t = 0
          · obtain ⟨h3, h4⟩ := TOk.of (soundE_zero h2).2
            simp [h2, l33 (show 3000 ≤ F by omega) hv h3, l34 (show 400 ≤ F by omega) hv h3, m20_ok]
          · simp [h2, m20_err h2]
      · have h2 : soundE p t = planE p := by unfold soundE; rw [if_neg h0]
        have h3 : ¬ soundE p t = 0 := by rw [h2]; exact h0
        simp [h0, h2, m20_err h0, nilT]
end Go.Proofs.Tryz
end

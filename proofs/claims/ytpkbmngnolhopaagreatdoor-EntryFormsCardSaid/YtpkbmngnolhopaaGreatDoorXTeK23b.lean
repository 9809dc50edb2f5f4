/- Functions of the program as functions of data. By program. CheckAct of the program as a function of data: the kinds and the miss, joined. -/
import Derived.Test.YtpkbmngnolhopaaGreatDoorXTeC
import Derived.Test.YtpkbmngnolhopaaGreatDoorXTeK23a
set_option maxRecDepth 100000
set_option linter.all false
set_option linter.unusedVariables false
namespace Go.Proofs.Tryz
open Go Go.Sx
noncomputable def lx23_miss (F:Nat):LK := lC (pc85_ok F) (lC (pc98_ok F) (lC (pc101_ok F) (lC (pc99_ok F) (lC (pc187_ok F) (lS (PF.sm_ok (pf202_ok F)) (lC (pc219_ok F) (lS (PF.sm_ok (pf150_ok F)) (lC (pc173_ok F) (lC (pc171_ok F) (lS (PF.sm_ok (pf201_ok F)) (lC (pc217_ok F) (lC (pc186_ok F) (lC (pc169_ok F) (lC (pc216_ok F) (lC (pc167_ok F) (lC (pc110_ok F) (lS (PF.sm_ok (pf199_ok F)) (lC (pc165_ok F) (lC (pc214_ok F) (lC (pc163_ok F) (lC (pc213_ok F) (lC (pc161_ok F) (lC (pc160_ok F) (lC (pc158_ok F) (lX (px100_0_ok F) (lX (px100_1_ok F) (lX (px100_2_ok F) lN)))))))))))))))))))))))))))
noncomputable def c23_miss (F:Nat) (b:TAct):Option (Int) :=
 tw (X := Int) (AEls.eqv (ATy.val (Ty.int Go.IntKind.i64) :: nilT ATy)) (gd (!strEq b.2.1 { data := List.toArray (99 :: 108 :: 117 :: 98 :: nilT UInt8) }) (gd (!strEq b.2.1 { data := List.toArray (97 :: 116 :: 104 :: 108 :: 101 :: 116 :: 101 :: nilT UInt8) }) (gd (!strEq b.2.1 { data := List.toArray (108 :: 105 :: 99 :: 101 :: 110 :: 99 :: 101 :: nilT UInt8) }) (gd (!strEq b.2.1 { data := List.toArray (116 :: 114 :: 97 :: 110 :: 115 :: 102 :: 101 :: 114 :: nilT UInt8) }) (gd (!strEq b.2.1 { data := List.toArray (101 :: 110 :: 116 :: 101 :: 114 :: nilT UInt8) }) (gd (!strEq b.2.1 { data := List.toArray (119 :: 105 :: 116 :: 104 :: 100 :: 114 :: 97 :: 119 :: nilT UInt8) }) (gd (!strEq b.2.1 { data := List.toArray (99 :: 104 :: 101 :: 99 :: 107 :: nilT UInt8) }) (gd (!strEq b.2.1 { data := List.toArray (116 :: 101 :: 97 :: 109 :: nilT UInt8) }) (tw (X := Int) (AEls.eqv (ATy.val (Ty.int Go.IntKind.i64) :: nilT ATy)) ((c85 F (b.1 :: nilT Int)).bind fun (v22:Int)=>some ((13:Int))))))))))))
theorem c23_miss_eq (F:Nat) (b:TAct):codeOf cx (lx23_miss F).x 1000 (.two .leaf (.two (.low) .leaf)) f23 (bodyOf f23) [.agg [.int .i64,.str,.str,.str,.str,.str,.int .i64,.int .i64,.str,.int .i64,.str,.seq [.str]]] [.val (.int .i64)] (b) = c23_miss F b := by kernel_rfl
def an23_miss (F:Nat):Ann := (.two .leaf (.two (.low) .leaf))
end Go.Proofs.Tryz
section
namespace Go.Sx
open Go
theorem PCOk.cases {cx:Cx} {g:Nat} {ats rts:List ATy} {p:AEls ats → Bool} {c q:AEls ats → Option (AEls rts)} (h1:PCOk cx g { ats := ats,rts := rts,code := fun a=>bif p a then c a else none })
  (h2:PCOk cx g { ats := ats,rts := rts,code := q }):PCOk cx g { ats := ats,rts := rts,code := fun a=>bif p a then c a else q a } :=
 ⟨h1.fn,fun a y hy=>by
  have hy:(bif p a then c a else q a) = some y := hy
  cases e:p a with
  | true =>
   rw [e] at hy
   exact h1.ok a y (by show (bif p a then c a else none) = some y; rw [e]; exact hy)
  | false =>
   rw [e] at hy
   exact h2.ok a y hy⟩
end Go.Sx
namespace Go.Proofs.Tryz
open Go Go.Sx
abbrev tA3:List ATy := [.agg [.int .i64,.str,.str,.str,.str,.str,.int .i64,.int .i64,.str,.int .i64,.str,.seq [.str]]]
abbrev rA3:List ATy := [.val (.int .i64)]
def kq_club:ByteArray := { data := List.toArray [99,108,117,98] }
theorem p23_club_ok (F:Nat):PCOk cx 23 { ats := tA3,rts := rA3,code := fun a=>bif strEq a.2.1 kq_club then c23_club F (a.1,a.2.2) else none } :=
 PCOk.of_eval cx_ok (lx23_club F).ok (n := 1000) (an := an23_club F) (fn := f23) (c := bodyOf f23) (by kernel_rfl) (by kernel_rfl) (fun a y h=>by
  obtain ⟨d,k,r⟩ := a
  have h:(bif strEq k kq_club then c23_club F (d,r) else none) = some y := h
  cases e:strEq k kq_club with
  | false=>rw [e] at h; cases h
  | true =>
   rw [e] at h
   obtain rfl := strEq_ok _ _ e
   exact (c23_club_eq F (d,r)).trans h) (by kernel_rfl)
def kq_athlete:ByteArray := { data := List.toArray [97,116,104,108,101,116,101] }
theorem p23_athlete_ok (F:Nat):PCOk cx 23 { ats := tA3,rts := rA3,code := fun a=>bif strEq a.2.1 kq_athlete then c23_athlete F (a.1,a.2.2) else none } :=
 PCOk.of_eval cx_ok (lx23_athlete F).ok (n := 1000) (an := an23_athlete F) (fn := f23) (c := bodyOf f23) (by kernel_rfl) (by kernel_rfl) (fun a y h=>by
  obtain ⟨d,k,r⟩ := a
  have h:(bif strEq k kq_athlete then c23_athlete F (d,r) else none) = some y := h
  cases e:strEq k kq_athlete with
  | false=>rw [e] at h; cases h
  | true =>
   rw [e] at h
   obtain rfl := strEq_ok _ _ e
   exact (c23_athlete_eq F (d,r)).trans h) (by kernel_rfl)
def kq_licence:ByteArray := { data := List.toArray [108,105,99,101,110,99,101] }
theorem p23_licence_ok (F:Nat):PCOk cx 23 { ats := tA3,rts := rA3,code := fun a=>bif strEq a.2.1 kq_licence then c23_licence F (a.1,a.2.2) else none } :=
 PCOk.of_eval cx_ok (lx23_licence F).ok (n := 1000) (an := an23_licence F) (fn := f23) (c := bodyOf f23) (by kernel_rfl) (by kernel_rfl) (fun a y h=>by
  obtain ⟨d,k,r⟩ := a
  have h:(bif strEq k kq_licence then c23_licence F (d,r) else none) = some y := h
  cases e:strEq k kq_licence with
  | false=>rw [e] at h; cases h
  | true =>
   rw [e] at h
   obtain rfl := strEq_ok _ _ e
   exact (c23_licence_eq F (d,r)).trans h) (by kernel_rfl)
def kq_transfer:ByteArray := { data := List.toArray [116,114,97,110,115,102,101,114] }
theorem p23_transfer_ok (F:Nat):PCOk cx 23 { ats := tA3,rts := rA3,code := fun a=>bif strEq a.2.1 kq_transfer then c23_transfer F (a.1,a.2.2) else none } :=
 PCOk.of_eval cx_ok (lx23_transfer F).ok (n := 1000) (an := an23_transfer F) (fn := f23) (c := bodyOf f23) (by kernel_rfl) (by kernel_rfl) (fun a y h=>by
  obtain ⟨d,k,r⟩ := a
  have h:(bif strEq k kq_transfer then c23_transfer F (d,r) else none) = some y := h
  cases e:strEq k kq_transfer with
  | false=>rw [e] at h; cases h
  | true =>
   rw [e] at h
   obtain rfl := strEq_ok _ _ e
   exact (c23_transfer_eq F (d,r)).trans h) (by kernel_rfl)
def kq_enter:ByteArray := { data := List.toArray [101,110,116,101,114] }
theorem p23_enter_ok (F:Nat):PCOk cx 23 { ats := tA3,rts := rA3,code := fun a=>bif strEq a.2.1 kq_enter then c23_enter F (a.1,a.2.2) else none } :=
 PCOk.of_eval cx_ok (lx23_enter F).ok (n := 1000) (an := an23_enter F) (fn := f23) (c := bodyOf f23) (by kernel_rfl) (by kernel_rfl) (fun a y h=>by
  obtain ⟨d,k,r⟩ := a
  have h:(bif strEq k kq_enter then c23_enter F (d,r) else none) = some y := h
  cases e:strEq k kq_enter with
  | false=>rw [e] at h; cases h
  | true =>
   rw [e] at h
   obtain rfl := strEq_ok _ _ e
   exact (c23_enter_eq F (d,r)).trans h) (by kernel_rfl)
def kq_withdraw:ByteArray := { data := List.toArray [119,105,116,104,100,114,97,119] }
theorem p23_withdraw_ok (F:Nat):PCOk cx 23 { ats := tA3,rts := rA3,code := fun a=>bif strEq a.2.1 kq_withdraw then c23_withdraw F (a.1,a.2.2) else none } :=
 PCOk.of_eval cx_ok (lx23_withdraw F).ok (n := 1000) (an := an23_withdraw F) (fn := f23) (c := bodyOf f23) (by kernel_rfl) (by kernel_rfl) (fun a y h=>by
  obtain ⟨d,k,r⟩ := a
  have h:(bif strEq k kq_withdraw then c23_withdraw F (d,r) else none) = some y := h
  cases e:strEq k kq_withdraw with
  | false=>rw [e] at h; cases h
  | true =>
   rw [e] at h
   obtain rfl := strEq_ok _ _ e
   exact (c23_withdraw_eq F (d,r)).trans h) (by kernel_rfl)
def kq_check:ByteArray := { data := List.toArray [99,104,101,99,107] }
theorem p23_check_ok (F:Nat):PCOk cx 23 { ats := tA3,rts := rA3,code := fun a=>bif strEq a.2.1 kq_check then c23_check F (a.1,a.2.2) else none } :=
 PCOk.of_eval cx_ok (lx23_check F).ok (n := 1000) (an := an23_check F) (fn := f23) (c := bodyOf f23) (by kernel_rfl) (by kernel_rfl) (fun a y h=>by
  obtain ⟨d,k,r⟩ := a
  have h:(bif strEq k kq_check then c23_check F (d,r) else none) = some y := h
  cases e:strEq k kq_check with
  | false=>rw [e] at h; cases h
  | true =>
   rw [e] at h
   obtain rfl := strEq_ok _ _ e
   exact (c23_check_eq F (d,r)).trans h) (by kernel_rfl)
def kq_team:ByteArray := { data := List.toArray [116,101,97,109] }
theorem p23_team_ok (F:Nat):PCOk cx 23 { ats := tA3,rts := rA3,code := fun a=>bif strEq a.2.1 kq_team then c23_team F (a.1,a.2.2) else none } :=
 PCOk.of_eval cx_ok (lx23_team F).ok (n := 1000) (an := an23_team F) (fn := f23) (c := bodyOf f23) (by kernel_rfl) (by kernel_rfl) (fun a y h=>by
  obtain ⟨d,k,r⟩ := a
  have h:(bif strEq k kq_team then c23_team F (d,r) else none) = some y := h
  cases e:strEq k kq_team with
  | false=>rw [e] at h; cases h
  | true =>
   rw [e] at h
   obtain rfl := strEq_ok _ _ e
   exact (c23_team_eq F (d,r)).trans h) (by kernel_rfl)
theorem p23_miss_ok (F:Nat):PCOk cx 23 { ats := tA3,rts := rA3,code := fun a=>c23_miss F a } :=
 PCOk.of_eval cx_ok (lx23_miss F).ok (n := 1000) (an := an23_miss F) (fn := f23) (c := bodyOf f23) (by kernel_rfl) (by kernel_rfl) (fun a y h=>(c23_miss_eq F a).trans h) (by kernel_rfl)
noncomputable def c23 (F:Nat) (a:TAct):Option (Int) :=
 bif strEq a.2.1 kq_club then c23_club F (a.1,a.2.2) else bif strEq a.2.1 kq_athlete then c23_athlete F (a.1,a.2.2) else bif strEq a.2.1 kq_licence then c23_licence F (a.1,a.2.2) else bif strEq a.2.1 kq_transfer then c23_transfer F (a.1,a.2.2) else bif strEq a.2.1 kq_enter then c23_enter F (a.1,a.2.2) else bif strEq a.2.1 kq_withdraw then c23_withdraw F (a.1,a.2.2) else bif strEq a.2.1 kq_check then c23_check F (a.1,a.2.2) else bif strEq a.2.1 kq_team then c23_team F (a.1,a.2.2) else c23_miss F a
noncomputable def pc23 (F:Nat):PC := { ats := tA3,rts := rA3,code := c23 F }
theorem pc23_ok (F:Nat):PCOk cx 23 (pc23 F) := (PCOk.cases (p23_club_ok F) (PCOk.cases (p23_athlete_ok F) (PCOk.cases (p23_licence_ok F) (PCOk.cases (p23_transfer_ok F) (PCOk.cases (p23_enter_ok F) (PCOk.cases (p23_withdraw_ok F) (PCOk.cases (p23_check_ok F) (PCOk.cases (p23_team_ok F) (p23_miss_ok F)))))))))
end Go.Proofs.Tryz
end

/-
  No cell of these rows narrows 'for every input' (looked for: loops, veiled, ifaces, maps, wideKeys, modest, calm, conditions, laid).
  DERIVED. THE GIVEN ROWS OF THIS SEAT. 11 by the template 'for every input the law returns true; each argument reads behind the call as it read before'; 0 by the template 'total and deterministic' (their statements: YtlfcbhjoldgijaaGreatTotals.lean).
  GIVEN WITH THE SEED: the statements are not yours to turn. If you find one false, say at which input.
  Laid BY PROGRAM, IN A SANDBOX (cutbox-rows.mjs): the forced cells as the released guide's own fill.sh prints them over the translation f63700711da17976… (all of the seat's roots in one cut). By AI agents, Wed Nov 11 2026. No macro, syntax, notation, axiom, sorry.
-/
import Derived.Test.YtlfcbhjoldgijaaGreatChecked
import GoSem.Claim
import GoSem.ClaimJoined
import GoSem.ClaimMapViews
import Derived.JoinedTies
import Derived.KernelRfl
namespace Go.Proofs.YtlfcbhjoldgijaaGreat
/- THE CELL 'sum', in the pinned program and in every row, IS THE sha256 OF THE DUMP (.gsa) THAT YtlfcbhjoldgijaaGreatProg.lean LOADS. Nothing in Lean hashes anything: it is a label: what it is worth is what the hold of that sum in a sandbox is worth. -/
noncomputable def Tryz.pinned : Pinned := { name := "ytlfcbhjoldgijaagreat", sum := "f63700711da17976e5e6331ef80030e0d84356f9fdd36139dc18eca414d81a3c", checked := Tryz.checked }
namespace Rows
def none {H : Type} : Left H := { results := [], args := [] }

/-- 'stadionlaw09.TimetableWindows': WHATEVER THE INPUT: true; the input reads as it did. -/
def timetableWindowsSpec : ChangeSpec := { name := "timetableWindows", fn := fun _ => fun
  | [d] => { results := [.lit (.bool true)], args := [d] }
  | _ => none }
def timetableWindowsRow : OpenClaim := { program := "ytlfcbhjoldgijaagreat", sum := "f63700711da17976e5e6331ef80030e0d84356f9fdd36139dc18eca414d81a3c", func := "stadion/stadionlaw09.TimetableWindows", spec := "timetableWindows", unfollowed := true, recurses := true, apart := false }
def TimetableWindowsSaid : Prop := timetableWindowsRow.holds Tryz.pinned (OpenSpec.ofChange timetableWindowsSpec)

/-- ITS FALSE NEIGHBOUR: 'it returns false'. Refute it at one input. -/
def timetableWindowsWrong : ChangeSpec := { name := "timetableWindows", fn := fun _ => fun
  | [d] => { results := [.lit (.bool false)], args := [d] }
  | _ => none }
def TimetableWindowsWrongFalsely : Prop := timetableWindowsRow.holds Tryz.pinned (OpenSpec.ofChange timetableWindowsWrong)

/-- 'stadionlaw09.TimetableTables': WHATEVER THE INPUT: true; the input reads as it did. -/
def timetableTablesSpec : ChangeSpec := { name := "timetableTables", fn := fun _ => fun
  | [d] => { results := [.lit (.bool true)], args := [d] }
  | _ => none }
def timetableTablesRow : OpenClaim := { program := "ytlfcbhjoldgijaagreat", sum := "f63700711da17976e5e6331ef80030e0d84356f9fdd36139dc18eca414d81a3c", func := "stadion/stadionlaw09.TimetableTables", spec := "timetableTables", unfollowed := true, recurses := true, apart := false }
def TimetableTablesSaid : Prop := timetableTablesRow.holds Tryz.pinned (OpenSpec.ofChange timetableTablesSpec)

/-- ITS FALSE NEIGHBOUR: 'it returns false'. Refute it at one input. -/
def timetableTablesWrong : ChangeSpec := { name := "timetableTables", fn := fun _ => fun
  | [d] => { results := [.lit (.bool false)], args := [d] }
  | _ => none }
def TimetableTablesWrongFalsely : Prop := timetableTablesRow.holds Tryz.pinned (OpenSpec.ofChange timetableTablesWrong)

/-- 'stadionlaw09.TimetableConflicts': WHATEVER THE INPUT: true; the input reads as it did. -/
def timetableConflictsSpec : ChangeSpec := { name := "timetableConflicts", fn := fun _ => fun
  | [d] => { results := [.lit (.bool true)], args := [d] }
  | _ => none }
def timetableConflictsRow : OpenClaim := { program := "ytlfcbhjoldgijaagreat", sum := "f63700711da17976e5e6331ef80030e0d84356f9fdd36139dc18eca414d81a3c", func := "stadion/stadionlaw09.TimetableConflicts", spec := "timetableConflicts", unfollowed := true, recurses := true, apart := false }
def TimetableConflictsSaid : Prop := timetableConflictsRow.holds Tryz.pinned (OpenSpec.ofChange timetableConflictsSpec)

/-- ITS FALSE NEIGHBOUR: 'it returns false'. Refute it at one input. -/
def timetableConflictsWrong : ChangeSpec := { name := "timetableConflicts", fn := fun _ => fun
  | [d] => { results := [.lit (.bool false)], args := [d] }
  | _ => none }
def TimetableConflictsWrongFalsely : Prop := timetableConflictsRow.holds Tryz.pinned (OpenSpec.ofChange timetableConflictsWrong)

/-- 'stadionlaw09.TimetableDays': WHATEVER THE INPUT: true; the input reads as it did. -/
def timetableDaysSpec : ChangeSpec := { name := "timetableDays", fn := fun _ => fun
  | [d1, d2, d3] => { results := [.lit (.bool true)], args := [d1, d2, d3] }
  | _ => none }
def timetableDaysRow : OpenClaim := { program := "ytlfcbhjoldgijaagreat", sum := "f63700711da17976e5e6331ef80030e0d84356f9fdd36139dc18eca414d81a3c", func := "stadion/stadionlaw09.TimetableDays", spec := "timetableDays", unfollowed := true, recurses := true, apart := false }
def TimetableDaysSaid : Prop := timetableDaysRow.holds Tryz.pinned (OpenSpec.ofChange timetableDaysSpec)

/-- ITS FALSE NEIGHBOUR: 'it returns false'. Refute it at one input. -/
def timetableDaysWrong : ChangeSpec := { name := "timetableDays", fn := fun _ => fun
  | [d1, d2, d3] => { results := [.lit (.bool false)], args := [d1, d2, d3] }
  | _ => none }
def TimetableDaysWrongFalsely : Prop := timetableDaysRow.holds Tryz.pinned (OpenSpec.ofChange timetableDaysWrong)

/-- 'stadionlaw09.TimetableSlacks': WHATEVER THE INPUT: true; the input reads as it did. -/
def timetableSlacksSpec : ChangeSpec := { name := "timetableSlacks", fn := fun _ => fun
  | [d1, d2] => { results := [.lit (.bool true)], args := [d1, d2] }
  | _ => none }
def timetableSlacksRow : OpenClaim := { program := "ytlfcbhjoldgijaagreat", sum := "f63700711da17976e5e6331ef80030e0d84356f9fdd36139dc18eca414d81a3c", func := "stadion/stadionlaw09.TimetableSlacks", spec := "timetableSlacks", unfollowed := true, recurses := true, apart := false }
def TimetableSlacksSaid : Prop := timetableSlacksRow.holds Tryz.pinned (OpenSpec.ofChange timetableSlacksSpec)

/-- ITS FALSE NEIGHBOUR: 'it returns false'. Refute it at one input. -/
def timetableSlacksWrong : ChangeSpec := { name := "timetableSlacks", fn := fun _ => fun
  | [d1, d2] => { results := [.lit (.bool false)], args := [d1, d2] }
  | _ => none }
def TimetableSlacksWrongFalsely : Prop := timetableSlacksRow.holds Tryz.pinned (OpenSpec.ofChange timetableSlacksWrong)

/-- 'stadionlaw09.TimetableTighter': WHATEVER THE INPUT: true; the input reads as it did. -/
def timetableTighterSpec : ChangeSpec := { name := "timetableTighter", fn := fun _ => fun
  | [d1, d2, d3] => { results := [.lit (.bool true)], args := [d1, d2, d3] }
  | _ => none }
def timetableTighterRow : OpenClaim := { program := "ytlfcbhjoldgijaagreat", sum := "f63700711da17976e5e6331ef80030e0d84356f9fdd36139dc18eca414d81a3c", func := "stadion/stadionlaw09.TimetableTighter", spec := "timetableTighter", unfollowed := true, recurses := true, apart := false }
def TimetableTighterSaid : Prop := timetableTighterRow.holds Tryz.pinned (OpenSpec.ofChange timetableTighterSpec)

/-- ITS FALSE NEIGHBOUR: 'it returns false'. Refute it at one input. -/
def timetableTighterWrong : ChangeSpec := { name := "timetableTighter", fn := fun _ => fun
  | [d1, d2, d3] => { results := [.lit (.bool false)], args := [d1, d2, d3] }
  | _ => none }
def TimetableTighterWrongFalsely : Prop := timetableTighterRow.holds Tryz.pinned (OpenSpec.ofChange timetableTighterWrong)

/-- 'stadionlaw09.TimetableForms': WHATEVER THE INPUT: true; the input reads as it did. -/
def timetableFormsSpec : ChangeSpec := { name := "timetableForms", fn := fun _ => fun
  | [d1, d2] => { results := [.lit (.bool true)], args := [d1, d2] }
  | _ => none }
def timetableFormsRow : OpenClaim := { program := "ytlfcbhjoldgijaagreat", sum := "f63700711da17976e5e6331ef80030e0d84356f9fdd36139dc18eca414d81a3c", func := "stadion/stadionlaw09.TimetableForms", spec := "timetableForms", unfollowed := true, recurses := true, apart := false }
def TimetableFormsSaid : Prop := timetableFormsRow.holds Tryz.pinned (OpenSpec.ofChange timetableFormsSpec)

/-- ITS FALSE NEIGHBOUR: 'it returns false'. Refute it at one input. -/
def timetableFormsWrong : ChangeSpec := { name := "timetableForms", fn := fun _ => fun
  | [d1, d2] => { results := [.lit (.bool false)], args := [d1, d2] }
  | _ => none }
def TimetableFormsWrongFalsely : Prop := timetableFormsRow.holds Tryz.pinned (OpenSpec.ofChange timetableFormsWrong)

/-- 'stadionlaw09.TimetableEnds': WHATEVER THE INPUT: true; the input reads as it did. -/
def timetableEndsSpec : ChangeSpec := { name := "timetableEnds", fn := fun _ => fun
  | [d1, d2] => { results := [.lit (.bool true)], args := [d1, d2] }
  | _ => none }
def timetableEndsRow : OpenClaim := { program := "ytlfcbhjoldgijaagreat", sum := "f63700711da17976e5e6331ef80030e0d84356f9fdd36139dc18eca414d81a3c", func := "stadion/stadionlaw09.TimetableEnds", spec := "timetableEnds", unfollowed := true, recurses := true, apart := false }
def TimetableEndsSaid : Prop := timetableEndsRow.holds Tryz.pinned (OpenSpec.ofChange timetableEndsSpec)

/-- ITS FALSE NEIGHBOUR: 'it returns false'. Refute it at one input. -/
def timetableEndsWrong : ChangeSpec := { name := "timetableEnds", fn := fun _ => fun
  | [d1, d2] => { results := [.lit (.bool false)], args := [d1, d2] }
  | _ => none }
def TimetableEndsWrongFalsely : Prop := timetableEndsRow.holds Tryz.pinned (OpenSpec.ofChange timetableEndsWrong)

/-- 'stadionlaw09.TimetableMoves': WHATEVER THE INPUT: true; the input reads as it did. -/
def timetableMovesSpec : ChangeSpec := { name := "timetableMoves", fn := fun _ => fun
  | [d1, d2, d3] => { results := [.lit (.bool true)], args := [d1, d2, d3] }
  | _ => none }
def timetableMovesRow : OpenClaim := { program := "ytlfcbhjoldgijaagreat", sum := "f63700711da17976e5e6331ef80030e0d84356f9fdd36139dc18eca414d81a3c", func := "stadion/stadionlaw09.TimetableMoves", spec := "timetableMoves", unfollowed := true, recurses := true, apart := false }
def TimetableMovesSaid : Prop := timetableMovesRow.holds Tryz.pinned (OpenSpec.ofChange timetableMovesSpec)

/-- ITS FALSE NEIGHBOUR: 'it returns false'. Refute it at one input. -/
def timetableMovesWrong : ChangeSpec := { name := "timetableMoves", fn := fun _ => fun
  | [d1, d2, d3] => { results := [.lit (.bool false)], args := [d1, d2, d3] }
  | _ => none }
def TimetableMovesWrongFalsely : Prop := timetableMovesRow.holds Tryz.pinned (OpenSpec.ofChange timetableMovesWrong)

/-- 'stadionlaw09.TimetableProofs': WHATEVER THE INPUT: true; the input reads as it did. -/
def timetableProofsSpec : ChangeSpec := { name := "timetableProofs", fn := fun _ => fun
  | [d1, d2] => { results := [.lit (.bool true)], args := [d1, d2] }
  | _ => none }
def timetableProofsRow : OpenClaim := { program := "ytlfcbhjoldgijaagreat", sum := "f63700711da17976e5e6331ef80030e0d84356f9fdd36139dc18eca414d81a3c", func := "stadion/stadionlaw09.TimetableProofs", spec := "timetableProofs", unfollowed := true, recurses := true, apart := false }
def TimetableProofsSaid : Prop := timetableProofsRow.holds Tryz.pinned (OpenSpec.ofChange timetableProofsSpec)

/-- ITS FALSE NEIGHBOUR: 'it returns false'. Refute it at one input. -/
def timetableProofsWrong : ChangeSpec := { name := "timetableProofs", fn := fun _ => fun
  | [d1, d2] => { results := [.lit (.bool false)], args := [d1, d2] }
  | _ => none }
def TimetableProofsWrongFalsely : Prop := timetableProofsRow.holds Tryz.pinned (OpenSpec.ofChange timetableProofsWrong)

/-- 'stadionlaw09.TimetableEither': WHATEVER THE INPUT: true; the input reads as it did. -/
def timetableEitherSpec : ChangeSpec := { name := "timetableEither", fn := fun _ => fun
  | [d] => { results := [.lit (.bool true)], args := [d] }
  | _ => none }
def timetableEitherRow : OpenClaim := { program := "ytlfcbhjoldgijaagreat", sum := "f63700711da17976e5e6331ef80030e0d84356f9fdd36139dc18eca414d81a3c", func := "stadion/stadionlaw09.TimetableEither", spec := "timetableEither", unfollowed := true, recurses := true, apart := false }
def TimetableEitherSaid : Prop := timetableEitherRow.holds Tryz.pinned (OpenSpec.ofChange timetableEitherSpec)

/-- ITS FALSE NEIGHBOUR: 'it returns false'. Refute it at one input. -/
def timetableEitherWrong : ChangeSpec := { name := "timetableEither", fn := fun _ => fun
  | [d] => { results := [.lit (.bool false)], args := [d] }
  | _ => none }
def TimetableEitherWrongFalsely : Prop := timetableEitherRow.holds Tryz.pinned (OpenSpec.ofChange timetableEitherWrong)

/- THE SECOND FORM. 'bulk': how many values and letters a reading holds, each counted each time it is reached (what is shared counts as often as it is met; a slice's spare places count too). A statement '..UptoSaid' is the law's where the arguments, and the package variables that the reading takes, are together of bulk at most 1048576: NARROWER than '..Said'. Prove '..Said' where nothing that the law and all that it calls make is longer than what came in: it says more and counts as full. Else prove '..UptoSaid'. A law counts once. -/
mutual
def uptoBulk {H : Type} : DataW H → Nat
  | .lit (.string bytes) => bytes.length + 1
  | .lit _ => 1
  | .nil => 1
  | .ptr d => uptoBulk d + 1
  | .slice elems spare => uptoBulkAll elems + uptoBulkAll spare + 1
  | .agg parts => uptoBulkAll parts + 1
  | .iface _ d => uptoBulk d + 1
  | .map entries => uptoBulkEntries entries + 1
  | .held _ => 1
def uptoBulkAll {H : Type} : List (DataW H) → Nat
  | [] => 0
  | d :: r => uptoBulk d + uptoBulkAll r
def uptoBulkEntries {H : Type} : List (Lit × DataW H) → Nat
  | [] => 0
  | x :: r => uptoBulkEntry x + uptoBulkEntries r
def uptoBulkEntry {H : Type} : Lit × DataW H → Nat
  | (.string bytes, d) => bytes.length + uptoBulk d + 1
  | (_, d) => uptoBulk d + 1
 end
def uptoSmall : (H : Type) → List (DataW H) → Bool := fun _ ds => decide (uptoBulkAll ds ≤ 1048576)
def OpenSpec.upto (s : _root_.Go.ChangeSpec) : _root_.Go.OpenSpec := { _root_.Go.OpenSpec.ofChange s with cond := some uptoSmall }

/-- 'stadionlaw09.TimetableWindows', WHERE WHAT IT READS IS OF BULK AT MOST 1048576: true; the input reads as it did. -/
def timetableWindowsUptoRow : OpenClaim := { program := "ytlfcbhjoldgijaagreat", sum := "f63700711da17976e5e6331ef80030e0d84356f9fdd36139dc18eca414d81a3c", func := "stadion/stadionlaw09.TimetableWindows", spec := "timetableWindows", unfollowed := true, recurses := true, apart := false, narrowed := true }
def TimetableWindowsUptoSaid : Prop := timetableWindowsUptoRow.holds Tryz.pinned (OpenSpec.upto timetableWindowsSpec)

/-- 'stadionlaw09.TimetableTables', WHERE WHAT IT READS IS OF BULK AT MOST 1048576: true; the input reads as it did. -/
def timetableTablesUptoRow : OpenClaim := { program := "ytlfcbhjoldgijaagreat", sum := "f63700711da17976e5e6331ef80030e0d84356f9fdd36139dc18eca414d81a3c", func := "stadion/stadionlaw09.TimetableTables", spec := "timetableTables", unfollowed := true, recurses := true, apart := false, narrowed := true }
def TimetableTablesUptoSaid : Prop := timetableTablesUptoRow.holds Tryz.pinned (OpenSpec.upto timetableTablesSpec)

/-- 'stadionlaw09.TimetableConflicts', WHERE WHAT IT READS IS OF BULK AT MOST 1048576: true; the input reads as it did. -/
def timetableConflictsUptoRow : OpenClaim := { program := "ytlfcbhjoldgijaagreat", sum := "f63700711da17976e5e6331ef80030e0d84356f9fdd36139dc18eca414d81a3c", func := "stadion/stadionlaw09.TimetableConflicts", spec := "timetableConflicts", unfollowed := true, recurses := true, apart := false, narrowed := true }
def TimetableConflictsUptoSaid : Prop := timetableConflictsUptoRow.holds Tryz.pinned (OpenSpec.upto timetableConflictsSpec)

/-- 'stadionlaw09.TimetableDays', WHERE WHAT IT READS IS OF BULK AT MOST 1048576: true; the input reads as it did. -/
def timetableDaysUptoRow : OpenClaim := { program := "ytlfcbhjoldgijaagreat", sum := "f63700711da17976e5e6331ef80030e0d84356f9fdd36139dc18eca414d81a3c", func := "stadion/stadionlaw09.TimetableDays", spec := "timetableDays", unfollowed := true, recurses := true, apart := false, narrowed := true }
def TimetableDaysUptoSaid : Prop := timetableDaysUptoRow.holds Tryz.pinned (OpenSpec.upto timetableDaysSpec)

/-- 'stadionlaw09.TimetableSlacks', WHERE WHAT IT READS IS OF BULK AT MOST 1048576: true; the input reads as it did. -/
def timetableSlacksUptoRow : OpenClaim := { program := "ytlfcbhjoldgijaagreat", sum := "f63700711da17976e5e6331ef80030e0d84356f9fdd36139dc18eca414d81a3c", func := "stadion/stadionlaw09.TimetableSlacks", spec := "timetableSlacks", unfollowed := true, recurses := true, apart := false, narrowed := true }
def TimetableSlacksUptoSaid : Prop := timetableSlacksUptoRow.holds Tryz.pinned (OpenSpec.upto timetableSlacksSpec)

/-- 'stadionlaw09.TimetableTighter', WHERE WHAT IT READS IS OF BULK AT MOST 1048576: true; the input reads as it did. -/
def timetableTighterUptoRow : OpenClaim := { program := "ytlfcbhjoldgijaagreat", sum := "f63700711da17976e5e6331ef80030e0d84356f9fdd36139dc18eca414d81a3c", func := "stadion/stadionlaw09.TimetableTighter", spec := "timetableTighter", unfollowed := true, recurses := true, apart := false, narrowed := true }
def TimetableTighterUptoSaid : Prop := timetableTighterUptoRow.holds Tryz.pinned (OpenSpec.upto timetableTighterSpec)

/-- 'stadionlaw09.TimetableForms', WHERE WHAT IT READS IS OF BULK AT MOST 1048576: true; the input reads as it did. -/
def timetableFormsUptoRow : OpenClaim := { program := "ytlfcbhjoldgijaagreat", sum := "f63700711da17976e5e6331ef80030e0d84356f9fdd36139dc18eca414d81a3c", func := "stadion/stadionlaw09.TimetableForms", spec := "timetableForms", unfollowed := true, recurses := true, apart := false, narrowed := true }
def TimetableFormsUptoSaid : Prop := timetableFormsUptoRow.holds Tryz.pinned (OpenSpec.upto timetableFormsSpec)

/-- 'stadionlaw09.TimetableEnds', WHERE WHAT IT READS IS OF BULK AT MOST 1048576: true; the input reads as it did. -/
def timetableEndsUptoRow : OpenClaim := { program := "ytlfcbhjoldgijaagreat", sum := "f63700711da17976e5e6331ef80030e0d84356f9fdd36139dc18eca414d81a3c", func := "stadion/stadionlaw09.TimetableEnds", spec := "timetableEnds", unfollowed := true, recurses := true, apart := false, narrowed := true }
def TimetableEndsUptoSaid : Prop := timetableEndsUptoRow.holds Tryz.pinned (OpenSpec.upto timetableEndsSpec)

/-- 'stadionlaw09.TimetableMoves', WHERE WHAT IT READS IS OF BULK AT MOST 1048576: true; the input reads as it did. -/
def timetableMovesUptoRow : OpenClaim := { program := "ytlfcbhjoldgijaagreat", sum := "f63700711da17976e5e6331ef80030e0d84356f9fdd36139dc18eca414d81a3c", func := "stadion/stadionlaw09.TimetableMoves", spec := "timetableMoves", unfollowed := true, recurses := true, apart := false, narrowed := true }
def TimetableMovesUptoSaid : Prop := timetableMovesUptoRow.holds Tryz.pinned (OpenSpec.upto timetableMovesSpec)

/-- 'stadionlaw09.TimetableProofs', WHERE WHAT IT READS IS OF BULK AT MOST 1048576: true; the input reads as it did. -/
def timetableProofsUptoRow : OpenClaim := { program := "ytlfcbhjoldgijaagreat", sum := "f63700711da17976e5e6331ef80030e0d84356f9fdd36139dc18eca414d81a3c", func := "stadion/stadionlaw09.TimetableProofs", spec := "timetableProofs", unfollowed := true, recurses := true, apart := false, narrowed := true }
def TimetableProofsUptoSaid : Prop := timetableProofsUptoRow.holds Tryz.pinned (OpenSpec.upto timetableProofsSpec)

/-- 'stadionlaw09.TimetableEither', WHERE WHAT IT READS IS OF BULK AT MOST 1048576: true; the input reads as it did. -/
def timetableEitherUptoRow : OpenClaim := { program := "ytlfcbhjoldgijaagreat", sum := "f63700711da17976e5e6331ef80030e0d84356f9fdd36139dc18eca414d81a3c", func := "stadion/stadionlaw09.TimetableEither", spec := "timetableEither", unfollowed := true, recurses := true, apart := false, narrowed := true }
def TimetableEitherUptoSaid : Prop := timetableEitherUptoRow.holds Tryz.pinned (OpenSpec.upto timetableEitherSpec)

end Rows
end Go.Proofs.YtlfcbhjoldgijaaGreat

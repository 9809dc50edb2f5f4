/-
  NARROWER THAN 'FOR EVERY INPUT', by the rows' own cells (each row's printed sentence says how): EntryForms: laid · EntryReplays: laid · EntryViews: laid · EntryChanges: laid · EntrySteps: laid · EntryMoves: laid · EntryDivides: laid · EntryRefuses: laid · EntryActs: laid · EntryAges: laid · EntryLists: laid · EntryShared: laid.
  DERIVED. THE GIVEN ROWS OF THIS SEAT. 12 by the template 'for every input the law returns true; each argument reads behind the call as it read before'; 0 by the template 'total and deterministic' (their statements: YtpkbmngnolhopaaGreatDoorTotals.lean).
  GIVEN WITH THE SEED: the statements are not yours to turn. If you find one false, say at which input.
  Laid BY PROGRAM, IN A SANDBOX (cutbox-rows.mjs): the forced cells as the released guide's own fill.sh prints them over the translation 602f533808c3540a… (all of the seat's roots in one cut). By AI agents, Wed Nov 11 2026. No macro, syntax, notation, axiom, sorry.
-/
import Derived.Test.YtpkbmngnolhopaaGreatDoorChecked
import GoSem.Claim
import GoSem.ClaimJoined
import GoSem.ClaimMapViews
import Derived.JoinedTies
import Derived.KernelRfl
namespace Go.Proofs.YtpkbmngnolhopaaGreatDoor
/- THE CELL 'sum', in the pinned program and in every row, IS THE sha256 OF THE DUMP (.gsa) THAT YtpkbmngnolhopaaGreatDoorProg.lean LOADS. Nothing in Lean hashes anything: it is a label: what it is worth is what the hold of that sum in a sandbox is worth. -/
noncomputable def Tryz.pinned : Pinned := { name := "ytpkbmngnolhopaagreatdoor", sum := "602f533808c3540ab0610c357cf98abb923dff88587375e75c3329b2dd3a4124", checked := Tryz.checked }
namespace Rows
def none {H : Type} : Left H := { results := [], args := [] }

/- WHAT THE LISTED PACKAGE-LEVEL VARIABLES READ AS WHEN THE CALL BEGINS. Each datum BY PROGRAM (the guide's laid-datum.mjs) off the statement by which the dump's own 'gosem.cut.vars' lays the variable. In a bare row this is a premise. The card (YtpkbmngnolhopaaGreatDoorCards.lean) ties it to the program's text. -/
def laid_math_bits_deBruijn32tab {H : Type} : DataW H := .agg [.lit (.int .u8 0), .lit (.int .u8 1), .lit (.int .u8 28), .lit (.int .u8 2), .lit (.int .u8 29), .lit (.int .u8 14), .lit (.int .u8 24), .lit (.int .u8 3), .lit (.int .u8 30), .lit (.int .u8 22), .lit (.int .u8 20), .lit (.int .u8 15), .lit (.int .u8 25), .lit (.int .u8 17), .lit (.int .u8 4), .lit (.int .u8 8), .lit (.int .u8 31), .lit (.int .u8 27), .lit (.int .u8 13), .lit (.int .u8 23), .lit (.int .u8 21), .lit (.int .u8 19), .lit (.int .u8 16), .lit (.int .u8 7), .lit (.int .u8 26), .lit (.int .u8 12), .lit (.int .u8 18), .lit (.int .u8 6), .lit (.int .u8 11), .lit (.int .u8 5), .lit (.int .u8 10), .lit (.int .u8 9)]
def laid_math_bits_deBruijn64tab {H : Type} : DataW H := .agg [.lit (.int .u8 0), .lit (.int .u8 1), .lit (.int .u8 56), .lit (.int .u8 2), .lit (.int .u8 57), .lit (.int .u8 49), .lit (.int .u8 28), .lit (.int .u8 3), .lit (.int .u8 61), .lit (.int .u8 58), .lit (.int .u8 42), .lit (.int .u8 50), .lit (.int .u8 38), .lit (.int .u8 29), .lit (.int .u8 17), .lit (.int .u8 4), .lit (.int .u8 62), .lit (.int .u8 47), .lit (.int .u8 59), .lit (.int .u8 36), .lit (.int .u8 45), .lit (.int .u8 43), .lit (.int .u8 51), .lit (.int .u8 22), .lit (.int .u8 53), .lit (.int .u8 39), .lit (.int .u8 33), .lit (.int .u8 30), .lit (.int .u8 24), .lit (.int .u8 18), .lit (.int .u8 12), .lit (.int .u8 5), .lit (.int .u8 63), .lit (.int .u8 55), .lit (.int .u8 48), .lit (.int .u8 27), .lit (.int .u8 60), .lit (.int .u8 41), .lit (.int .u8 37), .lit (.int .u8 16), .lit (.int .u8 46), .lit (.int .u8 35), .lit (.int .u8 44), .lit (.int .u8 21), .lit (.int .u8 52), .lit (.int .u8 32), .lit (.int .u8 23), .lit (.int .u8 11), .lit (.int .u8 54), .lit (.int .u8 26), .lit (.int .u8 40), .lit (.int .u8 15), .lit (.int .u8 34), .lit (.int .u8 20), .lit (.int .u8 31), .lit (.int .u8 10), .lit (.int .u8 25), .lit (.int .u8 14), .lit (.int .u8 19), .lit (.int .u8 9), .lit (.int .u8 13), .lit (.int .u8 8), .lit (.int .u8 7), .lit (.int .u8 6)]
def laid_internal_strconv_uint64pow10 {H : Type} : DataW H := .agg [.lit (.int .u64 1), .lit (.int .u64 10), .lit (.int .u64 100), .lit (.int .u64 1000), .lit (.int .u64 10000), .lit (.int .u64 100000), .lit (.int .u64 1000000), .lit (.int .u64 10000000), .lit (.int .u64 100000000), .lit (.int .u64 1000000000), .lit (.int .u64 10000000000), .lit (.int .u64 100000000000), .lit (.int .u64 1000000000000), .lit (.int .u64 10000000000000), .lit (.int .u64 100000000000000), .lit (.int .u64 1000000000000000), .lit (.int .u64 10000000000000000), .lit (.int .u64 100000000000000000), .lit (.int .u64 1000000000000000000), .lit (.int .u64 10000000000000000000)]

/-- 'stadionlaw03.EntryForms': WHATEVER THE INPUT: true; the input reads as it did. -/
def entryFormsSpec : ChangeSpec := { name := "entryForms", fn := fun _ => fun
  | [d1, d2, d3] => { results := [.lit (.bool true)], args := [d1, d2, d3] }
  | _ => none }
def entryFormsRow : OpenClaim := { program := "ytpkbmngnolhopaagreatdoor", sum := "602f533808c3540ab0610c357cf98abb923dff88587375e75c3329b2dd3a4124", func := "stadion/stadionlaw03.EntryForms", spec := "entryForms", inPlace := ["internal/abi.NoEscape", "internal/bytealg.MakeNoZero"], unfollowed := true, recurses := true, named := ["internal/strconv.uint64pow10", "math/bits.deBruijn32tab", "math/bits.deBruijn64tab"], plainKeys := false, apart := false, laid := [("math/bits.deBruijn32tab", laid_math_bits_deBruijn32tab), ("math/bits.deBruijn64tab", laid_math_bits_deBruijn64tab), ("internal/strconv.uint64pow10", laid_internal_strconv_uint64pow10)] }
def EntryFormsSaid : Prop := entryFormsRow.holds Tryz.pinned (OpenSpec.ofChange entryFormsSpec)

/-- ITS FALSE NEIGHBOUR: 'it returns false'. Refute it at one input. -/
def entryFormsWrong : ChangeSpec := { name := "entryForms", fn := fun _ => fun
  | [d1, d2, d3] => { results := [.lit (.bool false)], args := [d1, d2, d3] }
  | _ => none }
def EntryFormsWrongFalsely : Prop := entryFormsRow.holds Tryz.pinned (OpenSpec.ofChange entryFormsWrong)

/-- 'stadionlaw03.EntryReplays': WHATEVER THE INPUT: true; the input reads as it did. -/
def entryReplaysSpec : ChangeSpec := { name := "entryReplays", fn := fun _ => fun
  | [d1, d2] => { results := [.lit (.bool true)], args := [d1, d2] }
  | _ => none }
def entryReplaysRow : OpenClaim := { program := "ytpkbmngnolhopaagreatdoor", sum := "602f533808c3540ab0610c357cf98abb923dff88587375e75c3329b2dd3a4124", func := "stadion/stadionlaw03.EntryReplays", spec := "entryReplays", inPlace := ["internal/abi.NoEscape", "internal/bytealg.MakeNoZero"], unfollowed := true, recurses := true, named := ["internal/strconv.uint64pow10", "math/bits.deBruijn32tab", "math/bits.deBruijn64tab"], plainKeys := false, apart := false, laid := [("math/bits.deBruijn32tab", laid_math_bits_deBruijn32tab), ("math/bits.deBruijn64tab", laid_math_bits_deBruijn64tab), ("internal/strconv.uint64pow10", laid_internal_strconv_uint64pow10)] }
def EntryReplaysSaid : Prop := entryReplaysRow.holds Tryz.pinned (OpenSpec.ofChange entryReplaysSpec)

/-- ITS FALSE NEIGHBOUR: 'it returns false'. Refute it at one input. -/
def entryReplaysWrong : ChangeSpec := { name := "entryReplays", fn := fun _ => fun
  | [d1, d2] => { results := [.lit (.bool false)], args := [d1, d2] }
  | _ => none }
def EntryReplaysWrongFalsely : Prop := entryReplaysRow.holds Tryz.pinned (OpenSpec.ofChange entryReplaysWrong)

/-- 'stadionlaw03.EntryViews': WHATEVER THE INPUT: true; the input reads as it did. -/
def entryViewsSpec : ChangeSpec := { name := "entryViews", fn := fun _ => fun
  | [d1, d2, d3] => { results := [.lit (.bool true)], args := [d1, d2, d3] }
  | _ => none }
def entryViewsRow : OpenClaim := { program := "ytpkbmngnolhopaagreatdoor", sum := "602f533808c3540ab0610c357cf98abb923dff88587375e75c3329b2dd3a4124", func := "stadion/stadionlaw03.EntryViews", spec := "entryViews", inPlace := ["internal/abi.NoEscape", "internal/bytealg.MakeNoZero"], unfollowed := true, recurses := true, named := ["internal/strconv.uint64pow10", "math/bits.deBruijn32tab", "math/bits.deBruijn64tab"], plainKeys := false, apart := false, laid := [("math/bits.deBruijn32tab", laid_math_bits_deBruijn32tab), ("math/bits.deBruijn64tab", laid_math_bits_deBruijn64tab), ("internal/strconv.uint64pow10", laid_internal_strconv_uint64pow10)] }
def EntryViewsSaid : Prop := entryViewsRow.holds Tryz.pinned (OpenSpec.ofChange entryViewsSpec)

/-- ITS FALSE NEIGHBOUR: 'it returns false'. Refute it at one input. -/
def entryViewsWrong : ChangeSpec := { name := "entryViews", fn := fun _ => fun
  | [d1, d2, d3] => { results := [.lit (.bool false)], args := [d1, d2, d3] }
  | _ => none }
def EntryViewsWrongFalsely : Prop := entryViewsRow.holds Tryz.pinned (OpenSpec.ofChange entryViewsWrong)

/-- 'stadionlaw03.EntryChanges': WHATEVER THE INPUT: true; the input reads as it did. -/
def entryChangesSpec : ChangeSpec := { name := "entryChanges", fn := fun _ => fun
  | [d1, d2, d3] => { results := [.lit (.bool true)], args := [d1, d2, d3] }
  | _ => none }
def entryChangesRow : OpenClaim := { program := "ytpkbmngnolhopaagreatdoor", sum := "602f533808c3540ab0610c357cf98abb923dff88587375e75c3329b2dd3a4124", func := "stadion/stadionlaw03.EntryChanges", spec := "entryChanges", inPlace := ["internal/abi.NoEscape", "internal/bytealg.MakeNoZero"], unfollowed := true, recurses := true, named := ["internal/strconv.uint64pow10", "math/bits.deBruijn32tab", "math/bits.deBruijn64tab"], plainKeys := false, apart := false, laid := [("math/bits.deBruijn32tab", laid_math_bits_deBruijn32tab), ("math/bits.deBruijn64tab", laid_math_bits_deBruijn64tab), ("internal/strconv.uint64pow10", laid_internal_strconv_uint64pow10)] }
def EntryChangesSaid : Prop := entryChangesRow.holds Tryz.pinned (OpenSpec.ofChange entryChangesSpec)

/-- ITS FALSE NEIGHBOUR: 'it returns false'. Refute it at one input. -/
def entryChangesWrong : ChangeSpec := { name := "entryChanges", fn := fun _ => fun
  | [d1, d2, d3] => { results := [.lit (.bool false)], args := [d1, d2, d3] }
  | _ => none }
def EntryChangesWrongFalsely : Prop := entryChangesRow.holds Tryz.pinned (OpenSpec.ofChange entryChangesWrong)

/-- 'stadionlaw03.EntrySteps': WHATEVER THE INPUT: true; the input reads as it did. -/
def entryStepsSpec : ChangeSpec := { name := "entrySteps", fn := fun _ => fun
  | [d1, d2] => { results := [.lit (.bool true)], args := [d1, d2] }
  | _ => none }
def entryStepsRow : OpenClaim := { program := "ytpkbmngnolhopaagreatdoor", sum := "602f533808c3540ab0610c357cf98abb923dff88587375e75c3329b2dd3a4124", func := "stadion/stadionlaw03.EntrySteps", spec := "entrySteps", inPlace := ["internal/abi.NoEscape", "internal/bytealg.MakeNoZero"], unfollowed := true, recurses := true, named := ["internal/strconv.uint64pow10", "math/bits.deBruijn32tab", "math/bits.deBruijn64tab"], plainKeys := false, apart := false, laid := [("math/bits.deBruijn32tab", laid_math_bits_deBruijn32tab), ("math/bits.deBruijn64tab", laid_math_bits_deBruijn64tab), ("internal/strconv.uint64pow10", laid_internal_strconv_uint64pow10)] }
def EntryStepsSaid : Prop := entryStepsRow.holds Tryz.pinned (OpenSpec.ofChange entryStepsSpec)

/-- ITS FALSE NEIGHBOUR: 'it returns false'. Refute it at one input. -/
def entryStepsWrong : ChangeSpec := { name := "entrySteps", fn := fun _ => fun
  | [d1, d2] => { results := [.lit (.bool false)], args := [d1, d2] }
  | _ => none }
def EntryStepsWrongFalsely : Prop := entryStepsRow.holds Tryz.pinned (OpenSpec.ofChange entryStepsWrong)

/-- 'stadionlaw03.EntryMoves': WHATEVER THE INPUT: true; the input reads as it did. -/
def entryMovesSpec : ChangeSpec := { name := "entryMoves", fn := fun _ => fun
  | [d1, d2, d3] => { results := [.lit (.bool true)], args := [d1, d2, d3] }
  | _ => none }
def entryMovesRow : OpenClaim := { program := "ytpkbmngnolhopaagreatdoor", sum := "602f533808c3540ab0610c357cf98abb923dff88587375e75c3329b2dd3a4124", func := "stadion/stadionlaw03.EntryMoves", spec := "entryMoves", inPlace := ["internal/abi.NoEscape", "internal/bytealg.MakeNoZero"], unfollowed := true, recurses := true, named := ["internal/strconv.uint64pow10", "math/bits.deBruijn32tab", "math/bits.deBruijn64tab"], plainKeys := false, apart := false, laid := [("math/bits.deBruijn32tab", laid_math_bits_deBruijn32tab), ("math/bits.deBruijn64tab", laid_math_bits_deBruijn64tab), ("internal/strconv.uint64pow10", laid_internal_strconv_uint64pow10)] }
def EntryMovesSaid : Prop := entryMovesRow.holds Tryz.pinned (OpenSpec.ofChange entryMovesSpec)

/-- ITS FALSE NEIGHBOUR: 'it returns false'. Refute it at one input. -/
def entryMovesWrong : ChangeSpec := { name := "entryMoves", fn := fun _ => fun
  | [d1, d2, d3] => { results := [.lit (.bool false)], args := [d1, d2, d3] }
  | _ => none }
def EntryMovesWrongFalsely : Prop := entryMovesRow.holds Tryz.pinned (OpenSpec.ofChange entryMovesWrong)

/-- 'stadionlaw03.EntryDivides': WHATEVER THE INPUT: true; the input reads as it did. -/
def entryDividesSpec : ChangeSpec := { name := "entryDivides", fn := fun _ => fun
  | [d1, d2, d3] => { results := [.lit (.bool true)], args := [d1, d2, d3] }
  | _ => none }
def entryDividesRow : OpenClaim := { program := "ytpkbmngnolhopaagreatdoor", sum := "602f533808c3540ab0610c357cf98abb923dff88587375e75c3329b2dd3a4124", func := "stadion/stadionlaw03.EntryDivides", spec := "entryDivides", inPlace := ["internal/abi.NoEscape", "internal/bytealg.MakeNoZero"], unfollowed := true, recurses := true, named := ["internal/strconv.uint64pow10", "math/bits.deBruijn32tab", "math/bits.deBruijn64tab"], plainKeys := false, apart := false, laid := [("math/bits.deBruijn32tab", laid_math_bits_deBruijn32tab), ("math/bits.deBruijn64tab", laid_math_bits_deBruijn64tab), ("internal/strconv.uint64pow10", laid_internal_strconv_uint64pow10)] }
def EntryDividesSaid : Prop := entryDividesRow.holds Tryz.pinned (OpenSpec.ofChange entryDividesSpec)

/-- ITS FALSE NEIGHBOUR: 'it returns false'. Refute it at one input. -/
def entryDividesWrong : ChangeSpec := { name := "entryDivides", fn := fun _ => fun
  | [d1, d2, d3] => { results := [.lit (.bool false)], args := [d1, d2, d3] }
  | _ => none }
def EntryDividesWrongFalsely : Prop := entryDividesRow.holds Tryz.pinned (OpenSpec.ofChange entryDividesWrong)

/-- 'stadionlaw03.EntryRefuses': WHATEVER THE INPUT: true; the input reads as it did. -/
def entryRefusesSpec : ChangeSpec := { name := "entryRefuses", fn := fun _ => fun
  | [d1, d2, d3] => { results := [.lit (.bool true)], args := [d1, d2, d3] }
  | _ => none }
def entryRefusesRow : OpenClaim := { program := "ytpkbmngnolhopaagreatdoor", sum := "602f533808c3540ab0610c357cf98abb923dff88587375e75c3329b2dd3a4124", func := "stadion/stadionlaw03.EntryRefuses", spec := "entryRefuses", inPlace := ["internal/abi.NoEscape", "internal/bytealg.MakeNoZero"], unfollowed := true, recurses := true, named := ["internal/strconv.uint64pow10", "math/bits.deBruijn32tab", "math/bits.deBruijn64tab"], plainKeys := false, apart := false, laid := [("math/bits.deBruijn32tab", laid_math_bits_deBruijn32tab), ("math/bits.deBruijn64tab", laid_math_bits_deBruijn64tab), ("internal/strconv.uint64pow10", laid_internal_strconv_uint64pow10)] }
def EntryRefusesSaid : Prop := entryRefusesRow.holds Tryz.pinned (OpenSpec.ofChange entryRefusesSpec)

/-- ITS FALSE NEIGHBOUR: 'it returns false'. Refute it at one input. -/
def entryRefusesWrong : ChangeSpec := { name := "entryRefuses", fn := fun _ => fun
  | [d1, d2, d3] => { results := [.lit (.bool false)], args := [d1, d2, d3] }
  | _ => none }
def EntryRefusesWrongFalsely : Prop := entryRefusesRow.holds Tryz.pinned (OpenSpec.ofChange entryRefusesWrong)

/-- 'stadionlaw03.EntryActs': WHATEVER THE INPUT: true; the input reads as it did. -/
def entryActsSpec : ChangeSpec := { name := "entryActs", fn := fun _ => fun
  | [d1, d2, d3] => { results := [.lit (.bool true)], args := [d1, d2, d3] }
  | _ => none }
def entryActsRow : OpenClaim := { program := "ytpkbmngnolhopaagreatdoor", sum := "602f533808c3540ab0610c357cf98abb923dff88587375e75c3329b2dd3a4124", func := "stadion/stadionlaw03.EntryActs", spec := "entryActs", inPlace := ["internal/abi.NoEscape", "internal/bytealg.MakeNoZero"], unfollowed := true, recurses := true, named := ["internal/strconv.uint64pow10", "math/bits.deBruijn32tab", "math/bits.deBruijn64tab"], plainKeys := false, apart := false, laid := [("math/bits.deBruijn32tab", laid_math_bits_deBruijn32tab), ("math/bits.deBruijn64tab", laid_math_bits_deBruijn64tab), ("internal/strconv.uint64pow10", laid_internal_strconv_uint64pow10)] }
def EntryActsSaid : Prop := entryActsRow.holds Tryz.pinned (OpenSpec.ofChange entryActsSpec)

/-- ITS FALSE NEIGHBOUR: 'it returns false'. Refute it at one input. -/
def entryActsWrong : ChangeSpec := { name := "entryActs", fn := fun _ => fun
  | [d1, d2, d3] => { results := [.lit (.bool false)], args := [d1, d2, d3] }
  | _ => none }
def EntryActsWrongFalsely : Prop := entryActsRow.holds Tryz.pinned (OpenSpec.ofChange entryActsWrong)

/-- 'stadionlaw03.EntryAges': WHATEVER THE INPUT: true; the input reads as it did. -/
def entryAgesSpec : ChangeSpec := { name := "entryAges", fn := fun _ => fun
  | [d1, d2, d3] => { results := [.lit (.bool true)], args := [d1, d2, d3] }
  | _ => none }
def entryAgesRow : OpenClaim := { program := "ytpkbmngnolhopaagreatdoor", sum := "602f533808c3540ab0610c357cf98abb923dff88587375e75c3329b2dd3a4124", func := "stadion/stadionlaw03.EntryAges", spec := "entryAges", inPlace := ["internal/abi.NoEscape", "internal/bytealg.MakeNoZero"], unfollowed := true, recurses := true, named := ["internal/strconv.uint64pow10", "math/bits.deBruijn32tab", "math/bits.deBruijn64tab"], plainKeys := false, apart := false, laid := [("math/bits.deBruijn32tab", laid_math_bits_deBruijn32tab), ("math/bits.deBruijn64tab", laid_math_bits_deBruijn64tab), ("internal/strconv.uint64pow10", laid_internal_strconv_uint64pow10)] }
def EntryAgesSaid : Prop := entryAgesRow.holds Tryz.pinned (OpenSpec.ofChange entryAgesSpec)

/-- ITS FALSE NEIGHBOUR: 'it returns false'. Refute it at one input. -/
def entryAgesWrong : ChangeSpec := { name := "entryAges", fn := fun _ => fun
  | [d1, d2, d3] => { results := [.lit (.bool false)], args := [d1, d2, d3] }
  | _ => none }
def EntryAgesWrongFalsely : Prop := entryAgesRow.holds Tryz.pinned (OpenSpec.ofChange entryAgesWrong)

/-- 'stadionlaw03.EntryLists': WHATEVER THE INPUT: true; the input reads as it did. -/
def entryListsSpec : ChangeSpec := { name := "entryLists", fn := fun _ => fun
  | [d1, d2, d3] => { results := [.lit (.bool true)], args := [d1, d2, d3] }
  | _ => none }
def entryListsRow : OpenClaim := { program := "ytpkbmngnolhopaagreatdoor", sum := "602f533808c3540ab0610c357cf98abb923dff88587375e75c3329b2dd3a4124", func := "stadion/stadionlaw03.EntryLists", spec := "entryLists", inPlace := ["internal/abi.NoEscape", "internal/bytealg.MakeNoZero"], unfollowed := true, recurses := true, named := ["internal/strconv.uint64pow10", "math/bits.deBruijn32tab", "math/bits.deBruijn64tab"], plainKeys := false, apart := false, laid := [("math/bits.deBruijn32tab", laid_math_bits_deBruijn32tab), ("math/bits.deBruijn64tab", laid_math_bits_deBruijn64tab), ("internal/strconv.uint64pow10", laid_internal_strconv_uint64pow10)] }
def EntryListsSaid : Prop := entryListsRow.holds Tryz.pinned (OpenSpec.ofChange entryListsSpec)

/-- ITS FALSE NEIGHBOUR: 'it returns false'. Refute it at one input. -/
def entryListsWrong : ChangeSpec := { name := "entryLists", fn := fun _ => fun
  | [d1, d2, d3] => { results := [.lit (.bool false)], args := [d1, d2, d3] }
  | _ => none }
def EntryListsWrongFalsely : Prop := entryListsRow.holds Tryz.pinned (OpenSpec.ofChange entryListsWrong)

/-- 'stadionlaw03.EntryShared': WHATEVER THE INPUT: true; the input reads as it did. -/
def entrySharedSpec : ChangeSpec := { name := "entryShared", fn := fun _ => fun
  | [d1, d2] => { results := [.lit (.bool true)], args := [d1, d2] }
  | _ => none }
def entrySharedRow : OpenClaim := { program := "ytpkbmngnolhopaagreatdoor", sum := "602f533808c3540ab0610c357cf98abb923dff88587375e75c3329b2dd3a4124", func := "stadion/stadionlaw03.EntryShared", spec := "entryShared", inPlace := ["internal/abi.NoEscape", "internal/bytealg.MakeNoZero"], unfollowed := true, recurses := true, named := ["internal/strconv.uint64pow10", "math/bits.deBruijn32tab", "math/bits.deBruijn64tab"], plainKeys := false, apart := false, laid := [("math/bits.deBruijn32tab", laid_math_bits_deBruijn32tab), ("math/bits.deBruijn64tab", laid_math_bits_deBruijn64tab), ("internal/strconv.uint64pow10", laid_internal_strconv_uint64pow10)] }
def EntrySharedSaid : Prop := entrySharedRow.holds Tryz.pinned (OpenSpec.ofChange entrySharedSpec)

/-- ITS FALSE NEIGHBOUR: 'it returns false'. Refute it at one input. -/
def entrySharedWrong : ChangeSpec := { name := "entryShared", fn := fun _ => fun
  | [d1, d2] => { results := [.lit (.bool false)], args := [d1, d2] }
  | _ => none }
def EntrySharedWrongFalsely : Prop := entrySharedRow.holds Tryz.pinned (OpenSpec.ofChange entrySharedWrong)

/- THE SECOND FORM. 'bulk': how many values and letters a reading holds, each counted each time it is reached (what is shared counts as often as it is met; a slice's spare places count too). A statement '..UptoSaid' is the law's where the arguments, and the package variables that the reading takes, are together of bulk at most 1048576: NARROWER than '..Said'. Prove '..Said' where nothing that the law and all that it calls make is longer than what came in: it says more and counts as full. Else prove '..UptoSaid'. A law counts once. -/
mutual
def uptoBulk {H : Type} : DataW H → Nat
  | .lit (.string bytes) => bytes.length + 1
  | .lit _ => 1
  | .nil => 1
  | .ptr d => uptoBulk d + 1
  | .slice elems spare => uptoBulkAll elems + uptoBulkAll spare + 1
  | .agg parts => uptoBulkAll parts + 1
  | .iface _ d => uptoBulk d + 1
  | .map entries => uptoBulkEntries entries + 1
  | .held _ => 1
def uptoBulkAll {H : Type} : List (DataW H) → Nat
  | [] => 0
  | d :: r => uptoBulk d + uptoBulkAll r
def uptoBulkEntries {H : Type} : List (Lit × DataW H) → Nat
  | [] => 0
  | x :: r => uptoBulkEntry x + uptoBulkEntries r
def uptoBulkEntry {H : Type} : Lit × DataW H → Nat
  | (.string bytes, d) => bytes.length + uptoBulk d + 1
  | (_, d) => uptoBulk d + 1
 end
def uptoSmall : (H : Type) → List (DataW H) → Bool := fun _ ds => decide (uptoBulkAll ds ≤ 1048576)
def OpenSpec.upto (s : _root_.Go.ChangeSpec) : _root_.Go.OpenSpec := { _root_.Go.OpenSpec.ofChange s with cond := some uptoSmall }

/-- 'stadionlaw03.EntryForms', WHERE WHAT IT READS IS OF BULK AT MOST 1048576: true; the input reads as it did. -/
def entryFormsUptoRow : OpenClaim := { program := "ytpkbmngnolhopaagreatdoor", sum := "602f533808c3540ab0610c357cf98abb923dff88587375e75c3329b2dd3a4124", func := "stadion/stadionlaw03.EntryForms", spec := "entryForms", inPlace := ["internal/abi.NoEscape", "internal/bytealg.MakeNoZero"], unfollowed := true, recurses := true, named := ["internal/strconv.uint64pow10", "math/bits.deBruijn32tab", "math/bits.deBruijn64tab"], plainKeys := false, apart := false, laid := [("math/bits.deBruijn32tab", laid_math_bits_deBruijn32tab), ("math/bits.deBruijn64tab", laid_math_bits_deBruijn64tab), ("internal/strconv.uint64pow10", laid_internal_strconv_uint64pow10)], narrowed := true }
def EntryFormsUptoSaid : Prop := entryFormsUptoRow.holds Tryz.pinned (OpenSpec.upto entryFormsSpec)

/-- 'stadionlaw03.EntryReplays', WHERE WHAT IT READS IS OF BULK AT MOST 1048576: true; the input reads as it did. -/
def entryReplaysUptoRow : OpenClaim := { program := "ytpkbmngnolhopaagreatdoor", sum := "602f533808c3540ab0610c357cf98abb923dff88587375e75c3329b2dd3a4124", func := "stadion/stadionlaw03.EntryReplays", spec := "entryReplays", inPlace := ["internal/abi.NoEscape", "internal/bytealg.MakeNoZero"], unfollowed := true, recurses := true, named := ["internal/strconv.uint64pow10", "math/bits.deBruijn32tab", "math/bits.deBruijn64tab"], plainKeys := false, apart := false, laid := [("math/bits.deBruijn32tab", laid_math_bits_deBruijn32tab), ("math/bits.deBruijn64tab", laid_math_bits_deBruijn64tab), ("internal/strconv.uint64pow10", laid_internal_strconv_uint64pow10)], narrowed := true }
def EntryReplaysUptoSaid : Prop := entryReplaysUptoRow.holds Tryz.pinned (OpenSpec.upto entryReplaysSpec)

/-- 'stadionlaw03.EntryViews', WHERE WHAT IT READS IS OF BULK AT MOST 1048576: true; the input reads as it did. -/
def entryViewsUptoRow : OpenClaim := { program := "ytpkbmngnolhopaagreatdoor", sum := "602f533808c3540ab0610c357cf98abb923dff88587375e75c3329b2dd3a4124", func := "stadion/stadionlaw03.EntryViews", spec := "entryViews", inPlace := ["internal/abi.NoEscape", "internal/bytealg.MakeNoZero"], unfollowed := true, recurses := true, named := ["internal/strconv.uint64pow10", "math/bits.deBruijn32tab", "math/bits.deBruijn64tab"], plainKeys := false, apart := false, laid := [("math/bits.deBruijn32tab", laid_math_bits_deBruijn32tab), ("math/bits.deBruijn64tab", laid_math_bits_deBruijn64tab), ("internal/strconv.uint64pow10", laid_internal_strconv_uint64pow10)], narrowed := true }
def EntryViewsUptoSaid : Prop := entryViewsUptoRow.holds Tryz.pinned (OpenSpec.upto entryViewsSpec)

/-- 'stadionlaw03.EntryChanges', WHERE WHAT IT READS IS OF BULK AT MOST 1048576: true; the input reads as it did. -/
def entryChangesUptoRow : OpenClaim := { program := "ytpkbmngnolhopaagreatdoor", sum := "602f533808c3540ab0610c357cf98abb923dff88587375e75c3329b2dd3a4124", func := "stadion/stadionlaw03.EntryChanges", spec := "entryChanges", inPlace := ["internal/abi.NoEscape", "internal/bytealg.MakeNoZero"], unfollowed := true, recurses := true, named := ["internal/strconv.uint64pow10", "math/bits.deBruijn32tab", "math/bits.deBruijn64tab"], plainKeys := false, apart := false, laid := [("math/bits.deBruijn32tab", laid_math_bits_deBruijn32tab), ("math/bits.deBruijn64tab", laid_math_bits_deBruijn64tab), ("internal/strconv.uint64pow10", laid_internal_strconv_uint64pow10)], narrowed := true }
def EntryChangesUptoSaid : Prop := entryChangesUptoRow.holds Tryz.pinned (OpenSpec.upto entryChangesSpec)

/-- 'stadionlaw03.EntrySteps', WHERE WHAT IT READS IS OF BULK AT MOST 1048576: true; the input reads as it did. -/
def entryStepsUptoRow : OpenClaim := { program := "ytpkbmngnolhopaagreatdoor", sum := "602f533808c3540ab0610c357cf98abb923dff88587375e75c3329b2dd3a4124", func := "stadion/stadionlaw03.EntrySteps", spec := "entrySteps", inPlace := ["internal/abi.NoEscape", "internal/bytealg.MakeNoZero"], unfollowed := true, recurses := true, named := ["internal/strconv.uint64pow10", "math/bits.deBruijn32tab", "math/bits.deBruijn64tab"], plainKeys := false, apart := false, laid := [("math/bits.deBruijn32tab", laid_math_bits_deBruijn32tab), ("math/bits.deBruijn64tab", laid_math_bits_deBruijn64tab), ("internal/strconv.uint64pow10", laid_internal_strconv_uint64pow10)], narrowed := true }
def EntryStepsUptoSaid : Prop := entryStepsUptoRow.holds Tryz.pinned (OpenSpec.upto entryStepsSpec)

/-- 'stadionlaw03.EntryMoves', WHERE WHAT IT READS IS OF BULK AT MOST 1048576: true; the input reads as it did. -/
def entryMovesUptoRow : OpenClaim := { program := "ytpkbmngnolhopaagreatdoor", sum := "602f533808c3540ab0610c357cf98abb923dff88587375e75c3329b2dd3a4124", func := "stadion/stadionlaw03.EntryMoves", spec := "entryMoves", inPlace := ["internal/abi.NoEscape", "internal/bytealg.MakeNoZero"], unfollowed := true, recurses := true, named := ["internal/strconv.uint64pow10", "math/bits.deBruijn32tab", "math/bits.deBruijn64tab"], plainKeys := false, apart := false, laid := [("math/bits.deBruijn32tab", laid_math_bits_deBruijn32tab), ("math/bits.deBruijn64tab", laid_math_bits_deBruijn64tab), ("internal/strconv.uint64pow10", laid_internal_strconv_uint64pow10)], narrowed := true }
def EntryMovesUptoSaid : Prop := entryMovesUptoRow.holds Tryz.pinned (OpenSpec.upto entryMovesSpec)

/-- 'stadionlaw03.EntryDivides', WHERE WHAT IT READS IS OF BULK AT MOST 1048576: true; the input reads as it did. -/
def entryDividesUptoRow : OpenClaim := { program := "ytpkbmngnolhopaagreatdoor", sum := "602f533808c3540ab0610c357cf98abb923dff88587375e75c3329b2dd3a4124", func := "stadion/stadionlaw03.EntryDivides", spec := "entryDivides", inPlace := ["internal/abi.NoEscape", "internal/bytealg.MakeNoZero"], unfollowed := true, recurses := true, named := ["internal/strconv.uint64pow10", "math/bits.deBruijn32tab", "math/bits.deBruijn64tab"], plainKeys := false, apart := false, laid := [("math/bits.deBruijn32tab", laid_math_bits_deBruijn32tab), ("math/bits.deBruijn64tab", laid_math_bits_deBruijn64tab), ("internal/strconv.uint64pow10", laid_internal_strconv_uint64pow10)], narrowed := true }
def EntryDividesUptoSaid : Prop := entryDividesUptoRow.holds Tryz.pinned (OpenSpec.upto entryDividesSpec)

/-- 'stadionlaw03.EntryRefuses', WHERE WHAT IT READS IS OF BULK AT MOST 1048576: true; the input reads as it did. -/
def entryRefusesUptoRow : OpenClaim := { program := "ytpkbmngnolhopaagreatdoor", sum := "602f533808c3540ab0610c357cf98abb923dff88587375e75c3329b2dd3a4124", func := "stadion/stadionlaw03.EntryRefuses", spec := "entryRefuses", inPlace := ["internal/abi.NoEscape", "internal/bytealg.MakeNoZero"], unfollowed := true, recurses := true, named := ["internal/strconv.uint64pow10", "math/bits.deBruijn32tab", "math/bits.deBruijn64tab"], plainKeys := false, apart := false, laid := [("math/bits.deBruijn32tab", laid_math_bits_deBruijn32tab), ("math/bits.deBruijn64tab", laid_math_bits_deBruijn64tab), ("internal/strconv.uint64pow10", laid_internal_strconv_uint64pow10)], narrowed := true }
def EntryRefusesUptoSaid : Prop := entryRefusesUptoRow.holds Tryz.pinned (OpenSpec.upto entryRefusesSpec)

/-- 'stadionlaw03.EntryActs', WHERE WHAT IT READS IS OF BULK AT MOST 1048576: true; the input reads as it did. -/
def entryActsUptoRow : OpenClaim := { program := "ytpkbmngnolhopaagreatdoor", sum := "602f533808c3540ab0610c357cf98abb923dff88587375e75c3329b2dd3a4124", func := "stadion/stadionlaw03.EntryActs", spec := "entryActs", inPlace := ["internal/abi.NoEscape", "internal/bytealg.MakeNoZero"], unfollowed := true, recurses := true, named := ["internal/strconv.uint64pow10", "math/bits.deBruijn32tab", "math/bits.deBruijn64tab"], plainKeys := false, apart := false, laid := [("math/bits.deBruijn32tab", laid_math_bits_deBruijn32tab), ("math/bits.deBruijn64tab", laid_math_bits_deBruijn64tab), ("internal/strconv.uint64pow10", laid_internal_strconv_uint64pow10)], narrowed := true }
def EntryActsUptoSaid : Prop := entryActsUptoRow.holds Tryz.pinned (OpenSpec.upto entryActsSpec)

/-- 'stadionlaw03.EntryAges', WHERE WHAT IT READS IS OF BULK AT MOST 1048576: true; the input reads as it did. -/
def entryAgesUptoRow : OpenClaim := { program := "ytpkbmngnolhopaagreatdoor", sum := "602f533808c3540ab0610c357cf98abb923dff88587375e75c3329b2dd3a4124", func := "stadion/stadionlaw03.EntryAges", spec := "entryAges", inPlace := ["internal/abi.NoEscape", "internal/bytealg.MakeNoZero"], unfollowed := true, recurses := true, named := ["internal/strconv.uint64pow10", "math/bits.deBruijn32tab", "math/bits.deBruijn64tab"], plainKeys := false, apart := false, laid := [("math/bits.deBruijn32tab", laid_math_bits_deBruijn32tab), ("math/bits.deBruijn64tab", laid_math_bits_deBruijn64tab), ("internal/strconv.uint64pow10", laid_internal_strconv_uint64pow10)], narrowed := true }
def EntryAgesUptoSaid : Prop := entryAgesUptoRow.holds Tryz.pinned (OpenSpec.upto entryAgesSpec)

/-- 'stadionlaw03.EntryLists', WHERE WHAT IT READS IS OF BULK AT MOST 1048576: true; the input reads as it did. -/
def entryListsUptoRow : OpenClaim := { program := "ytpkbmngnolhopaagreatdoor", sum := "602f533808c3540ab0610c357cf98abb923dff88587375e75c3329b2dd3a4124", func := "stadion/stadionlaw03.EntryLists", spec := "entryLists", inPlace := ["internal/abi.NoEscape", "internal/bytealg.MakeNoZero"], unfollowed := true, recurses := true, named := ["internal/strconv.uint64pow10", "math/bits.deBruijn32tab", "math/bits.deBruijn64tab"], plainKeys := false, apart := false, laid := [("math/bits.deBruijn32tab", laid_math_bits_deBruijn32tab), ("math/bits.deBruijn64tab", laid_math_bits_deBruijn64tab), ("internal/strconv.uint64pow10", laid_internal_strconv_uint64pow10)], narrowed := true }
def EntryListsUptoSaid : Prop := entryListsUptoRow.holds Tryz.pinned (OpenSpec.upto entryListsSpec)

/-- 'stadionlaw03.EntryShared', WHERE WHAT IT READS IS OF BULK AT MOST 1048576: true; the input reads as it did. -/
def entrySharedUptoRow : OpenClaim := { program := "ytpkbmngnolhopaagreatdoor", sum := "602f533808c3540ab0610c357cf98abb923dff88587375e75c3329b2dd3a4124", func := "stadion/stadionlaw03.EntryShared", spec := "entryShared", inPlace := ["internal/abi.NoEscape", "internal/bytealg.MakeNoZero"], unfollowed := true, recurses := true, named := ["internal/strconv.uint64pow10", "math/bits.deBruijn32tab", "math/bits.deBruijn64tab"], plainKeys := false, apart := false, laid := [("math/bits.deBruijn32tab", laid_math_bits_deBruijn32tab), ("math/bits.deBruijn64tab", laid_math_bits_deBruijn64tab), ("internal/strconv.uint64pow10", laid_internal_strconv_uint64pow10)], narrowed := true }
def EntrySharedUptoSaid : Prop := entrySharedUptoRow.holds Tryz.pinned (OpenSpec.upto entrySharedSpec)

end Rows
end Go.Proofs.YtpkbmngnolhopaaGreatDoor

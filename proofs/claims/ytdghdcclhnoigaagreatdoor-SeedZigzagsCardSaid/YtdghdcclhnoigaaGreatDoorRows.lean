/-
  NARROWER THAN 'FOR EVERY INPUT', by the rows' own cells (each row's printed sentence says how): SeedOrders: laid · SeedClashes: laid · SeedParts: laid · SeedLanes: laid · SeedChanges: laid · SeedCharts: laid · SeedFair: laid · SeedZigzags: laid · SeedBetter: laid · SeedOrderless: laid · SeedTracks: laid · SeedPlaces: laid.
  DERIVED. THE GIVEN ROWS OF THIS SEAT. 12 by the template 'for every input the law returns true; each argument reads behind the call as it read before'; 0 by the template 'total and deterministic' (their statements: YtdghdcclhnoigaaGreatDoorTotals.lean).
  GIVEN WITH THE SEED: the statements are not yours to turn. If you find one false, say at which input.
  Laid BY PROGRAM, IN A SANDBOX (cutbox-rows.mjs): the forced cells as the released guide's own fill.sh prints them over the translation b0aa94cf2f6661c6… (all of the seat's roots in one cut). By AI agents, Wed Nov 11 2026. No macro, syntax, notation, axiom, sorry.
-/
import Derived.Test.YtdghdcclhnoigaaGreatDoorChecked
import GoSem.Claim
import GoSem.ClaimJoined
import GoSem.ClaimMapViews
import Derived.JoinedTies
import Derived.KernelRfl
namespace Go.Proofs.YtdghdcclhnoigaaGreatDoor
/- THE CELL 'sum', in the pinned program and in every row, IS THE sha256 OF THE DUMP (.gsa) THAT YtdghdcclhnoigaaGreatDoorProg.lean LOADS. Nothing in Lean hashes anything: it is a label: what it is worth is what the hold of that sum in a sandbox is worth. -/
noncomputable def Tryz.pinned : Pinned := { name := "ytdghdcclhnoigaagreatdoor", sum := "b0aa94cf2f6661c637bd4ddc256ef6c0d3cff4d018d86c2106e8d369637c634f", checked := Tryz.checked }
namespace Rows
def none {H : Type} : Left H := { results := [], args := [] }

/- WHAT THE LISTED PACKAGE-LEVEL VARIABLES READ AS WHEN THE CALL BEGINS. Each datum BY PROGRAM (the guide's laid-datum.mjs) off the statement by which the dump's own 'gosem.cut.vars' lays the variable. In a bare row this is a premise. The card (YtdghdcclhnoigaaGreatDoorCards.lean) ties it to the program's text. -/
def laid_math_bits_deBruijn32tab {H : Type} : DataW H := .agg [.lit (.int .u8 0), .lit (.int .u8 1), .lit (.int .u8 28), .lit (.int .u8 2), .lit (.int .u8 29), .lit (.int .u8 14), .lit (.int .u8 24), .lit (.int .u8 3), .lit (.int .u8 30), .lit (.int .u8 22), .lit (.int .u8 20), .lit (.int .u8 15), .lit (.int .u8 25), .lit (.int .u8 17), .lit (.int .u8 4), .lit (.int .u8 8), .lit (.int .u8 31), .lit (.int .u8 27), .lit (.int .u8 13), .lit (.int .u8 23), .lit (.int .u8 21), .lit (.int .u8 19), .lit (.int .u8 16), .lit (.int .u8 7), .lit (.int .u8 26), .lit (.int .u8 12), .lit (.int .u8 18), .lit (.int .u8 6), .lit (.int .u8 11), .lit (.int .u8 5), .lit (.int .u8 10), .lit (.int .u8 9)]
def laid_math_bits_deBruijn64tab {H : Type} : DataW H := .agg [.lit (.int .u8 0), .lit (.int .u8 1), .lit (.int .u8 56), .lit (.int .u8 2), .lit (.int .u8 57), .lit (.int .u8 49), .lit (.int .u8 28), .lit (.int .u8 3), .lit (.int .u8 61), .lit (.int .u8 58), .lit (.int .u8 42), .lit (.int .u8 50), .lit (.int .u8 38), .lit (.int .u8 29), .lit (.int .u8 17), .lit (.int .u8 4), .lit (.int .u8 62), .lit (.int .u8 47), .lit (.int .u8 59), .lit (.int .u8 36), .lit (.int .u8 45), .lit (.int .u8 43), .lit (.int .u8 51), .lit (.int .u8 22), .lit (.int .u8 53), .lit (.int .u8 39), .lit (.int .u8 33), .lit (.int .u8 30), .lit (.int .u8 24), .lit (.int .u8 18), .lit (.int .u8 12), .lit (.int .u8 5), .lit (.int .u8 63), .lit (.int .u8 55), .lit (.int .u8 48), .lit (.int .u8 27), .lit (.int .u8 60), .lit (.int .u8 41), .lit (.int .u8 37), .lit (.int .u8 16), .lit (.int .u8 46), .lit (.int .u8 35), .lit (.int .u8 44), .lit (.int .u8 21), .lit (.int .u8 52), .lit (.int .u8 32), .lit (.int .u8 23), .lit (.int .u8 11), .lit (.int .u8 54), .lit (.int .u8 26), .lit (.int .u8 40), .lit (.int .u8 15), .lit (.int .u8 34), .lit (.int .u8 20), .lit (.int .u8 31), .lit (.int .u8 10), .lit (.int .u8 25), .lit (.int .u8 14), .lit (.int .u8 19), .lit (.int .u8 9), .lit (.int .u8 13), .lit (.int .u8 8), .lit (.int .u8 7), .lit (.int .u8 6)]
def laid_internal_strconv_uint64pow10 {H : Type} : DataW H := .agg [.lit (.int .u64 1), .lit (.int .u64 10), .lit (.int .u64 100), .lit (.int .u64 1000), .lit (.int .u64 10000), .lit (.int .u64 100000), .lit (.int .u64 1000000), .lit (.int .u64 10000000), .lit (.int .u64 100000000), .lit (.int .u64 1000000000), .lit (.int .u64 10000000000), .lit (.int .u64 100000000000), .lit (.int .u64 1000000000000), .lit (.int .u64 10000000000000), .lit (.int .u64 100000000000000), .lit (.int .u64 1000000000000000), .lit (.int .u64 10000000000000000), .lit (.int .u64 100000000000000000), .lit (.int .u64 1000000000000000000), .lit (.int .u64 10000000000000000000)]

/-- 'stadionlaw04.SeedOrders': WHATEVER THE INPUT: true; the input reads as it did. -/
def seedOrdersSpec : ChangeSpec := { name := "seedOrders", fn := fun _ => fun
  | [d1, d2, d3] => { results := [.lit (.bool true)], args := [d1, d2, d3] }
  | _ => none }
def seedOrdersRow : OpenClaim := { program := "ytdghdcclhnoigaagreatdoor", sum := "b0aa94cf2f6661c637bd4ddc256ef6c0d3cff4d018d86c2106e8d369637c634f", func := "stadion/stadionlaw04.SeedOrders", spec := "seedOrders", inPlace := ["internal/abi.NoEscape", "internal/bytealg.MakeNoZero"], unfollowed := true, recurses := true, named := ["internal/strconv.uint64pow10", "math/bits.deBruijn32tab", "math/bits.deBruijn64tab"], plainKeys := false, apart := false, laid := [("math/bits.deBruijn32tab", laid_math_bits_deBruijn32tab), ("math/bits.deBruijn64tab", laid_math_bits_deBruijn64tab), ("internal/strconv.uint64pow10", laid_internal_strconv_uint64pow10)] }
def SeedOrdersSaid : Prop := seedOrdersRow.holds Tryz.pinned (OpenSpec.ofChange seedOrdersSpec)

/-- ITS FALSE NEIGHBOUR: 'it returns false'. Refute it at one input. -/
def seedOrdersWrong : ChangeSpec := { name := "seedOrders", fn := fun _ => fun
  | [d1, d2, d3] => { results := [.lit (.bool false)], args := [d1, d2, d3] }
  | _ => none }
def SeedOrdersWrongFalsely : Prop := seedOrdersRow.holds Tryz.pinned (OpenSpec.ofChange seedOrdersWrong)

/-- 'stadionlaw04.SeedClashes': WHATEVER THE INPUT: true; the input reads as it did. -/
def seedClashesSpec : ChangeSpec := { name := "seedClashes", fn := fun _ => fun
  | [d1, d2, d3] => { results := [.lit (.bool true)], args := [d1, d2, d3] }
  | _ => none }
def seedClashesRow : OpenClaim := { program := "ytdghdcclhnoigaagreatdoor", sum := "b0aa94cf2f6661c637bd4ddc256ef6c0d3cff4d018d86c2106e8d369637c634f", func := "stadion/stadionlaw04.SeedClashes", spec := "seedClashes", inPlace := ["internal/abi.NoEscape", "internal/bytealg.MakeNoZero"], unfollowed := true, recurses := true, named := ["internal/strconv.uint64pow10", "math/bits.deBruijn32tab", "math/bits.deBruijn64tab"], plainKeys := false, apart := false, laid := [("math/bits.deBruijn32tab", laid_math_bits_deBruijn32tab), ("math/bits.deBruijn64tab", laid_math_bits_deBruijn64tab), ("internal/strconv.uint64pow10", laid_internal_strconv_uint64pow10)] }
def SeedClashesSaid : Prop := seedClashesRow.holds Tryz.pinned (OpenSpec.ofChange seedClashesSpec)

/-- ITS FALSE NEIGHBOUR: 'it returns false'. Refute it at one input. -/
def seedClashesWrong : ChangeSpec := { name := "seedClashes", fn := fun _ => fun
  | [d1, d2, d3] => { results := [.lit (.bool false)], args := [d1, d2, d3] }
  | _ => none }
def SeedClashesWrongFalsely : Prop := seedClashesRow.holds Tryz.pinned (OpenSpec.ofChange seedClashesWrong)

/-- 'stadionlaw04.SeedParts': WHATEVER THE INPUT: true; the input reads as it did. -/
def seedPartsSpec : ChangeSpec := { name := "seedParts", fn := fun _ => fun
  | [d1, d2, d3] => { results := [.lit (.bool true)], args := [d1, d2, d3] }
  | _ => none }
def seedPartsRow : OpenClaim := { program := "ytdghdcclhnoigaagreatdoor", sum := "b0aa94cf2f6661c637bd4ddc256ef6c0d3cff4d018d86c2106e8d369637c634f", func := "stadion/stadionlaw04.SeedParts", spec := "seedParts", inPlace := ["internal/abi.NoEscape", "internal/bytealg.MakeNoZero"], unfollowed := true, recurses := true, named := ["internal/strconv.uint64pow10", "math/bits.deBruijn32tab", "math/bits.deBruijn64tab"], plainKeys := false, apart := false, laid := [("math/bits.deBruijn32tab", laid_math_bits_deBruijn32tab), ("math/bits.deBruijn64tab", laid_math_bits_deBruijn64tab), ("internal/strconv.uint64pow10", laid_internal_strconv_uint64pow10)] }
def SeedPartsSaid : Prop := seedPartsRow.holds Tryz.pinned (OpenSpec.ofChange seedPartsSpec)

/-- ITS FALSE NEIGHBOUR: 'it returns false'. Refute it at one input. -/
def seedPartsWrong : ChangeSpec := { name := "seedParts", fn := fun _ => fun
  | [d1, d2, d3] => { results := [.lit (.bool false)], args := [d1, d2, d3] }
  | _ => none }
def SeedPartsWrongFalsely : Prop := seedPartsRow.holds Tryz.pinned (OpenSpec.ofChange seedPartsWrong)

/-- 'stadionlaw04.SeedLanes': WHATEVER THE INPUT: true; the input reads as it did. -/
def seedLanesSpec : ChangeSpec := { name := "seedLanes", fn := fun _ => fun
  | [d1, d2, d3] => { results := [.lit (.bool true)], args := [d1, d2, d3] }
  | _ => none }
def seedLanesRow : OpenClaim := { program := "ytdghdcclhnoigaagreatdoor", sum := "b0aa94cf2f6661c637bd4ddc256ef6c0d3cff4d018d86c2106e8d369637c634f", func := "stadion/stadionlaw04.SeedLanes", spec := "seedLanes", inPlace := ["internal/abi.NoEscape", "internal/bytealg.MakeNoZero"], unfollowed := true, recurses := true, named := ["internal/strconv.uint64pow10", "math/bits.deBruijn32tab", "math/bits.deBruijn64tab"], plainKeys := false, apart := false, laid := [("math/bits.deBruijn32tab", laid_math_bits_deBruijn32tab), ("math/bits.deBruijn64tab", laid_math_bits_deBruijn64tab), ("internal/strconv.uint64pow10", laid_internal_strconv_uint64pow10)] }
def SeedLanesSaid : Prop := seedLanesRow.holds Tryz.pinned (OpenSpec.ofChange seedLanesSpec)

/-- ITS FALSE NEIGHBOUR: 'it returns false'. Refute it at one input. -/
def seedLanesWrong : ChangeSpec := { name := "seedLanes", fn := fun _ => fun
  | [d1, d2, d3] => { results := [.lit (.bool false)], args := [d1, d2, d3] }
  | _ => none }
def SeedLanesWrongFalsely : Prop := seedLanesRow.holds Tryz.pinned (OpenSpec.ofChange seedLanesWrong)

/-- 'stadionlaw04.SeedChanges': WHATEVER THE INPUT: true; the input reads as it did. -/
def seedChangesSpec : ChangeSpec := { name := "seedChanges", fn := fun _ => fun
  | [d1, d2, d3] => { results := [.lit (.bool true)], args := [d1, d2, d3] }
  | _ => none }
def seedChangesRow : OpenClaim := { program := "ytdghdcclhnoigaagreatdoor", sum := "b0aa94cf2f6661c637bd4ddc256ef6c0d3cff4d018d86c2106e8d369637c634f", func := "stadion/stadionlaw04.SeedChanges", spec := "seedChanges", inPlace := ["internal/abi.NoEscape", "internal/bytealg.MakeNoZero"], unfollowed := true, recurses := true, named := ["internal/strconv.uint64pow10", "math/bits.deBruijn32tab", "math/bits.deBruijn64tab"], plainKeys := false, apart := false, laid := [("math/bits.deBruijn32tab", laid_math_bits_deBruijn32tab), ("math/bits.deBruijn64tab", laid_math_bits_deBruijn64tab), ("internal/strconv.uint64pow10", laid_internal_strconv_uint64pow10)] }
def SeedChangesSaid : Prop := seedChangesRow.holds Tryz.pinned (OpenSpec.ofChange seedChangesSpec)

/-- ITS FALSE NEIGHBOUR: 'it returns false'. Refute it at one input. -/
def seedChangesWrong : ChangeSpec := { name := "seedChanges", fn := fun _ => fun
  | [d1, d2, d3] => { results := [.lit (.bool false)], args := [d1, d2, d3] }
  | _ => none }
def SeedChangesWrongFalsely : Prop := seedChangesRow.holds Tryz.pinned (OpenSpec.ofChange seedChangesWrong)

/-- 'stadionlaw04.SeedCharts': WHATEVER THE INPUT: true; the input reads as it did. -/
def seedChartsSpec : ChangeSpec := { name := "seedCharts", fn := fun _ => fun
  | [d1, d2, d3] => { results := [.lit (.bool true)], args := [d1, d2, d3] }
  | _ => none }
def seedChartsRow : OpenClaim := { program := "ytdghdcclhnoigaagreatdoor", sum := "b0aa94cf2f6661c637bd4ddc256ef6c0d3cff4d018d86c2106e8d369637c634f", func := "stadion/stadionlaw04.SeedCharts", spec := "seedCharts", inPlace := ["internal/abi.NoEscape", "internal/bytealg.MakeNoZero"], unfollowed := true, recurses := true, named := ["internal/strconv.uint64pow10", "math/bits.deBruijn32tab", "math/bits.deBruijn64tab"], plainKeys := false, apart := false, laid := [("math/bits.deBruijn32tab", laid_math_bits_deBruijn32tab), ("math/bits.deBruijn64tab", laid_math_bits_deBruijn64tab), ("internal/strconv.uint64pow10", laid_internal_strconv_uint64pow10)] }
def SeedChartsSaid : Prop := seedChartsRow.holds Tryz.pinned (OpenSpec.ofChange seedChartsSpec)

/-- ITS FALSE NEIGHBOUR: 'it returns false'. Refute it at one input. -/
def seedChartsWrong : ChangeSpec := { name := "seedCharts", fn := fun _ => fun
  | [d1, d2, d3] => { results := [.lit (.bool false)], args := [d1, d2, d3] }
  | _ => none }
def SeedChartsWrongFalsely : Prop := seedChartsRow.holds Tryz.pinned (OpenSpec.ofChange seedChartsWrong)

/-- 'stadionlaw04.SeedFair': WHATEVER THE INPUT: true; the input reads as it did. -/
def seedFairSpec : ChangeSpec := { name := "seedFair", fn := fun _ => fun
  | [d1, d2, d3] => { results := [.lit (.bool true)], args := [d1, d2, d3] }
  | _ => none }
def seedFairRow : OpenClaim := { program := "ytdghdcclhnoigaagreatdoor", sum := "b0aa94cf2f6661c637bd4ddc256ef6c0d3cff4d018d86c2106e8d369637c634f", func := "stadion/stadionlaw04.SeedFair", spec := "seedFair", inPlace := ["internal/abi.NoEscape", "internal/bytealg.MakeNoZero"], unfollowed := true, recurses := true, named := ["internal/strconv.uint64pow10", "math/bits.deBruijn32tab", "math/bits.deBruijn64tab"], plainKeys := false, apart := false, laid := [("math/bits.deBruijn32tab", laid_math_bits_deBruijn32tab), ("math/bits.deBruijn64tab", laid_math_bits_deBruijn64tab), ("internal/strconv.uint64pow10", laid_internal_strconv_uint64pow10)] }
def SeedFairSaid : Prop := seedFairRow.holds Tryz.pinned (OpenSpec.ofChange seedFairSpec)

/-- ITS FALSE NEIGHBOUR: 'it returns false'. Refute it at one input. -/
def seedFairWrong : ChangeSpec := { name := "seedFair", fn := fun _ => fun
  | [d1, d2, d3] => { results := [.lit (.bool false)], args := [d1, d2, d3] }
  | _ => none }
def SeedFairWrongFalsely : Prop := seedFairRow.holds Tryz.pinned (OpenSpec.ofChange seedFairWrong)

/-- 'stadionlaw04.SeedZigzags': WHATEVER THE INPUT: true; the input reads as it did. -/
def seedZigzagsSpec : ChangeSpec := { name := "seedZigzags", fn := fun _ => fun
  | [d1, d2] => { results := [.lit (.bool true)], args := [d1, d2] }
  | _ => none }
def seedZigzagsRow : OpenClaim := { program := "ytdghdcclhnoigaagreatdoor", sum := "b0aa94cf2f6661c637bd4ddc256ef6c0d3cff4d018d86c2106e8d369637c634f", func := "stadion/stadionlaw04.SeedZigzags", spec := "seedZigzags", inPlace := ["internal/abi.NoEscape", "internal/bytealg.MakeNoZero"], unfollowed := true, recurses := true, named := ["internal/strconv.uint64pow10", "math/bits.deBruijn32tab", "math/bits.deBruijn64tab"], plainKeys := false, apart := false, laid := [("math/bits.deBruijn32tab", laid_math_bits_deBruijn32tab), ("math/bits.deBruijn64tab", laid_math_bits_deBruijn64tab), ("internal/strconv.uint64pow10", laid_internal_strconv_uint64pow10)] }
def SeedZigzagsSaid : Prop := seedZigzagsRow.holds Tryz.pinned (OpenSpec.ofChange seedZigzagsSpec)

/-- ITS FALSE NEIGHBOUR: 'it returns false'. Refute it at one input. -/
def seedZigzagsWrong : ChangeSpec := { name := "seedZigzags", fn := fun _ => fun
  | [d1, d2] => { results := [.lit (.bool false)], args := [d1, d2] }
  | _ => none }
def SeedZigzagsWrongFalsely : Prop := seedZigzagsRow.holds Tryz.pinned (OpenSpec.ofChange seedZigzagsWrong)

/-- 'stadionlaw04.SeedBetter': WHATEVER THE INPUT: true; the input reads as it did. -/
def seedBetterSpec : ChangeSpec := { name := "seedBetter", fn := fun _ => fun
  | [d1, d2, d3] => { results := [.lit (.bool true)], args := [d1, d2, d3] }
  | _ => none }
def seedBetterRow : OpenClaim := { program := "ytdghdcclhnoigaagreatdoor", sum := "b0aa94cf2f6661c637bd4ddc256ef6c0d3cff4d018d86c2106e8d369637c634f", func := "stadion/stadionlaw04.SeedBetter", spec := "seedBetter", inPlace := ["internal/abi.NoEscape", "internal/bytealg.MakeNoZero"], unfollowed := true, recurses := true, named := ["internal/strconv.uint64pow10", "math/bits.deBruijn32tab", "math/bits.deBruijn64tab"], plainKeys := false, apart := false, laid := [("math/bits.deBruijn32tab", laid_math_bits_deBruijn32tab), ("math/bits.deBruijn64tab", laid_math_bits_deBruijn64tab), ("internal/strconv.uint64pow10", laid_internal_strconv_uint64pow10)] }
def SeedBetterSaid : Prop := seedBetterRow.holds Tryz.pinned (OpenSpec.ofChange seedBetterSpec)

/-- ITS FALSE NEIGHBOUR: 'it returns false'. Refute it at one input. -/
def seedBetterWrong : ChangeSpec := { name := "seedBetter", fn := fun _ => fun
  | [d1, d2, d3] => { results := [.lit (.bool false)], args := [d1, d2, d3] }
  | _ => none }
def SeedBetterWrongFalsely : Prop := seedBetterRow.holds Tryz.pinned (OpenSpec.ofChange seedBetterWrong)

/-- 'stadionlaw04.SeedOrderless': WHATEVER THE INPUT: true; the input reads as it did. -/
def seedOrderlessSpec : ChangeSpec := { name := "seedOrderless", fn := fun _ => fun
  | [d1, d2, d3] => { results := [.lit (.bool true)], args := [d1, d2, d3] }
  | _ => none }
def seedOrderlessRow : OpenClaim := { program := "ytdghdcclhnoigaagreatdoor", sum := "b0aa94cf2f6661c637bd4ddc256ef6c0d3cff4d018d86c2106e8d369637c634f", func := "stadion/stadionlaw04.SeedOrderless", spec := "seedOrderless", inPlace := ["internal/abi.NoEscape", "internal/bytealg.MakeNoZero"], unfollowed := true, recurses := true, named := ["internal/strconv.uint64pow10", "math/bits.deBruijn32tab", "math/bits.deBruijn64tab"], plainKeys := false, apart := false, laid := [("math/bits.deBruijn32tab", laid_math_bits_deBruijn32tab), ("math/bits.deBruijn64tab", laid_math_bits_deBruijn64tab), ("internal/strconv.uint64pow10", laid_internal_strconv_uint64pow10)] }
def SeedOrderlessSaid : Prop := seedOrderlessRow.holds Tryz.pinned (OpenSpec.ofChange seedOrderlessSpec)

/-- ITS FALSE NEIGHBOUR: 'it returns false'. Refute it at one input. -/
def seedOrderlessWrong : ChangeSpec := { name := "seedOrderless", fn := fun _ => fun
  | [d1, d2, d3] => { results := [.lit (.bool false)], args := [d1, d2, d3] }
  | _ => none }
def SeedOrderlessWrongFalsely : Prop := seedOrderlessRow.holds Tryz.pinned (OpenSpec.ofChange seedOrderlessWrong)

/-- 'stadionlaw04.SeedTracks': WHATEVER THE INPUT: true; the input reads as it did. -/
def seedTracksSpec : ChangeSpec := { name := "seedTracks", fn := fun _ => fun
  | [d1, d2, d3] => { results := [.lit (.bool true)], args := [d1, d2, d3] }
  | _ => none }
def seedTracksRow : OpenClaim := { program := "ytdghdcclhnoigaagreatdoor", sum := "b0aa94cf2f6661c637bd4ddc256ef6c0d3cff4d018d86c2106e8d369637c634f", func := "stadion/stadionlaw04.SeedTracks", spec := "seedTracks", inPlace := ["internal/abi.NoEscape", "internal/bytealg.MakeNoZero"], unfollowed := true, recurses := true, named := ["internal/strconv.uint64pow10", "math/bits.deBruijn32tab", "math/bits.deBruijn64tab"], plainKeys := false, apart := false, laid := [("math/bits.deBruijn32tab", laid_math_bits_deBruijn32tab), ("math/bits.deBruijn64tab", laid_math_bits_deBruijn64tab), ("internal/strconv.uint64pow10", laid_internal_strconv_uint64pow10)] }
def SeedTracksSaid : Prop := seedTracksRow.holds Tryz.pinned (OpenSpec.ofChange seedTracksSpec)

/-- ITS FALSE NEIGHBOUR: 'it returns false'. Refute it at one input. -/
def seedTracksWrong : ChangeSpec := { name := "seedTracks", fn := fun _ => fun
  | [d1, d2, d3] => { results := [.lit (.bool false)], args := [d1, d2, d3] }
  | _ => none }
def SeedTracksWrongFalsely : Prop := seedTracksRow.holds Tryz.pinned (OpenSpec.ofChange seedTracksWrong)

/-- 'stadionlaw04.SeedPlaces': WHATEVER THE INPUT: true; the input reads as it did. -/
def seedPlacesSpec : ChangeSpec := { name := "seedPlaces", fn := fun _ => fun
  | [d1, d2, d3] => { results := [.lit (.bool true)], args := [d1, d2, d3] }
  | _ => none }
def seedPlacesRow : OpenClaim := { program := "ytdghdcclhnoigaagreatdoor", sum := "b0aa94cf2f6661c637bd4ddc256ef6c0d3cff4d018d86c2106e8d369637c634f", func := "stadion/stadionlaw04.SeedPlaces", spec := "seedPlaces", inPlace := ["internal/abi.NoEscape", "internal/bytealg.MakeNoZero"], unfollowed := true, recurses := true, named := ["internal/strconv.uint64pow10", "math/bits.deBruijn32tab", "math/bits.deBruijn64tab"], plainKeys := false, apart := false, laid := [("math/bits.deBruijn32tab", laid_math_bits_deBruijn32tab), ("math/bits.deBruijn64tab", laid_math_bits_deBruijn64tab), ("internal/strconv.uint64pow10", laid_internal_strconv_uint64pow10)] }
def SeedPlacesSaid : Prop := seedPlacesRow.holds Tryz.pinned (OpenSpec.ofChange seedPlacesSpec)

/-- ITS FALSE NEIGHBOUR: 'it returns false'. Refute it at one input. -/
def seedPlacesWrong : ChangeSpec := { name := "seedPlaces", fn := fun _ => fun
  | [d1, d2, d3] => { results := [.lit (.bool false)], args := [d1, d2, d3] }
  | _ => none }
def SeedPlacesWrongFalsely : Prop := seedPlacesRow.holds Tryz.pinned (OpenSpec.ofChange seedPlacesWrong)

/- THE SECOND FORM. 'bulk': how many values and letters a reading holds, each counted each time it is reached (what is shared counts as often as it is met; a slice's spare places count too). A statement '..UptoSaid' is the law's where the arguments, and the package variables that the reading takes, are together of bulk at most 1048576: NARROWER than '..Said'. Prove '..Said' where nothing that the law and all that it calls make is longer than what came in: it says more and counts as full. Else prove '..UptoSaid'. A law counts once. -/
mutual
def uptoBulk {H : Type} : DataW H → Nat
  | .lit (.string bytes) => bytes.length + 1
  | .lit _ => 1
  | .nil => 1
  | .ptr d => uptoBulk d + 1
  | .slice elems spare => uptoBulkAll elems + uptoBulkAll spare + 1
  | .agg parts => uptoBulkAll parts + 1
  | .iface _ d => uptoBulk d + 1
  | .map entries => uptoBulkEntries entries + 1
  | .held _ => 1
def uptoBulkAll {H : Type} : List (DataW H) → Nat
  | [] => 0
  | d :: r => uptoBulk d + uptoBulkAll r
def uptoBulkEntries {H : Type} : List (Lit × DataW H) → Nat
  | [] => 0
  | x :: r => uptoBulkEntry x + uptoBulkEntries r
def uptoBulkEntry {H : Type} : Lit × DataW H → Nat
  | (.string bytes, d) => bytes.length + uptoBulk d + 1
  | (_, d) => uptoBulk d + 1
 end
def uptoSmall : (H : Type) → List (DataW H) → Bool := fun _ ds => decide (uptoBulkAll ds ≤ 1048576)
def OpenSpec.upto (s : _root_.Go.ChangeSpec) : _root_.Go.OpenSpec := { _root_.Go.OpenSpec.ofChange s with cond := some uptoSmall }

/-- 'stadionlaw04.SeedOrders', WHERE WHAT IT READS IS OF BULK AT MOST 1048576: true; the input reads as it did. -/
def seedOrdersUptoRow : OpenClaim := { program := "ytdghdcclhnoigaagreatdoor", sum := "b0aa94cf2f6661c637bd4ddc256ef6c0d3cff4d018d86c2106e8d369637c634f", func := "stadion/stadionlaw04.SeedOrders", spec := "seedOrders", inPlace := ["internal/abi.NoEscape", "internal/bytealg.MakeNoZero"], unfollowed := true, recurses := true, named := ["internal/strconv.uint64pow10", "math/bits.deBruijn32tab", "math/bits.deBruijn64tab"], plainKeys := false, apart := false, laid := [("math/bits.deBruijn32tab", laid_math_bits_deBruijn32tab), ("math/bits.deBruijn64tab", laid_math_bits_deBruijn64tab), ("internal/strconv.uint64pow10", laid_internal_strconv_uint64pow10)], narrowed := true }
def SeedOrdersUptoSaid : Prop := seedOrdersUptoRow.holds Tryz.pinned (OpenSpec.upto seedOrdersSpec)

/-- 'stadionlaw04.SeedClashes', WHERE WHAT IT READS IS OF BULK AT MOST 1048576: true; the input reads as it did. -/
def seedClashesUptoRow : OpenClaim := { program := "ytdghdcclhnoigaagreatdoor", sum := "b0aa94cf2f6661c637bd4ddc256ef6c0d3cff4d018d86c2106e8d369637c634f", func := "stadion/stadionlaw04.SeedClashes", spec := "seedClashes", inPlace := ["internal/abi.NoEscape", "internal/bytealg.MakeNoZero"], unfollowed := true, recurses := true, named := ["internal/strconv.uint64pow10", "math/bits.deBruijn32tab", "math/bits.deBruijn64tab"], plainKeys := false, apart := false, laid := [("math/bits.deBruijn32tab", laid_math_bits_deBruijn32tab), ("math/bits.deBruijn64tab", laid_math_bits_deBruijn64tab), ("internal/strconv.uint64pow10", laid_internal_strconv_uint64pow10)], narrowed := true }
def SeedClashesUptoSaid : Prop := seedClashesUptoRow.holds Tryz.pinned (OpenSpec.upto seedClashesSpec)

/-- 'stadionlaw04.SeedParts', WHERE WHAT IT READS IS OF BULK AT MOST 1048576: true; the input reads as it did. -/
def seedPartsUptoRow : OpenClaim := { program := "ytdghdcclhnoigaagreatdoor", sum := "b0aa94cf2f6661c637bd4ddc256ef6c0d3cff4d018d86c2106e8d369637c634f", func := "stadion/stadionlaw04.SeedParts", spec := "seedParts", inPlace := ["internal/abi.NoEscape", "internal/bytealg.MakeNoZero"], unfollowed := true, recurses := true, named := ["internal/strconv.uint64pow10", "math/bits.deBruijn32tab", "math/bits.deBruijn64tab"], plainKeys := false, apart := false, laid := [("math/bits.deBruijn32tab", laid_math_bits_deBruijn32tab), ("math/bits.deBruijn64tab", laid_math_bits_deBruijn64tab), ("internal/strconv.uint64pow10", laid_internal_strconv_uint64pow10)], narrowed := true }
def SeedPartsUptoSaid : Prop := seedPartsUptoRow.holds Tryz.pinned (OpenSpec.upto seedPartsSpec)

/-- 'stadionlaw04.SeedLanes', WHERE WHAT IT READS IS OF BULK AT MOST 1048576: true; the input reads as it did. -/
def seedLanesUptoRow : OpenClaim := { program := "ytdghdcclhnoigaagreatdoor", sum := "b0aa94cf2f6661c637bd4ddc256ef6c0d3cff4d018d86c2106e8d369637c634f", func := "stadion/stadionlaw04.SeedLanes", spec := "seedLanes", inPlace := ["internal/abi.NoEscape", "internal/bytealg.MakeNoZero"], unfollowed := true, recurses := true, named := ["internal/strconv.uint64pow10", "math/bits.deBruijn32tab", "math/bits.deBruijn64tab"], plainKeys := false, apart := false, laid := [("math/bits.deBruijn32tab", laid_math_bits_deBruijn32tab), ("math/bits.deBruijn64tab", laid_math_bits_deBruijn64tab), ("internal/strconv.uint64pow10", laid_internal_strconv_uint64pow10)], narrowed := true }
def SeedLanesUptoSaid : Prop := seedLanesUptoRow.holds Tryz.pinned (OpenSpec.upto seedLanesSpec)

/-- 'stadionlaw04.SeedChanges', WHERE WHAT IT READS IS OF BULK AT MOST 1048576: true; the input reads as it did. -/
def seedChangesUptoRow : OpenClaim := { program := "ytdghdcclhnoigaagreatdoor", sum := "b0aa94cf2f6661c637bd4ddc256ef6c0d3cff4d018d86c2106e8d369637c634f", func := "stadion/stadionlaw04.SeedChanges", spec := "seedChanges", inPlace := ["internal/abi.NoEscape", "internal/bytealg.MakeNoZero"], unfollowed := true, recurses := true, named := ["internal/strconv.uint64pow10", "math/bits.deBruijn32tab", "math/bits.deBruijn64tab"], plainKeys := false, apart := false, laid := [("math/bits.deBruijn32tab", laid_math_bits_deBruijn32tab), ("math/bits.deBruijn64tab", laid_math_bits_deBruijn64tab), ("internal/strconv.uint64pow10", laid_internal_strconv_uint64pow10)], narrowed := true }
def SeedChangesUptoSaid : Prop := seedChangesUptoRow.holds Tryz.pinned (OpenSpec.upto seedChangesSpec)

/-- 'stadionlaw04.SeedCharts', WHERE WHAT IT READS IS OF BULK AT MOST 1048576: true; the input reads as it did. -/
def seedChartsUptoRow : OpenClaim := { program := "ytdghdcclhnoigaagreatdoor", sum := "b0aa94cf2f6661c637bd4ddc256ef6c0d3cff4d018d86c2106e8d369637c634f", func := "stadion/stadionlaw04.SeedCharts", spec := "seedCharts", inPlace := ["internal/abi.NoEscape", "internal/bytealg.MakeNoZero"], unfollowed := true, recurses := true, named := ["internal/strconv.uint64pow10", "math/bits.deBruijn32tab", "math/bits.deBruijn64tab"], plainKeys := false, apart := false, laid := [("math/bits.deBruijn32tab", laid_math_bits_deBruijn32tab), ("math/bits.deBruijn64tab", laid_math_bits_deBruijn64tab), ("internal/strconv.uint64pow10", laid_internal_strconv_uint64pow10)], narrowed := true }
def SeedChartsUptoSaid : Prop := seedChartsUptoRow.holds Tryz.pinned (OpenSpec.upto seedChartsSpec)

/-- 'stadionlaw04.SeedFair', WHERE WHAT IT READS IS OF BULK AT MOST 1048576: true; the input reads as it did. -/
def seedFairUptoRow : OpenClaim := { program := "ytdghdcclhnoigaagreatdoor", sum := "b0aa94cf2f6661c637bd4ddc256ef6c0d3cff4d018d86c2106e8d369637c634f", func := "stadion/stadionlaw04.SeedFair", spec := "seedFair", inPlace := ["internal/abi.NoEscape", "internal/bytealg.MakeNoZero"], unfollowed := true, recurses := true, named := ["internal/strconv.uint64pow10", "math/bits.deBruijn32tab", "math/bits.deBruijn64tab"], plainKeys := false, apart := false, laid := [("math/bits.deBruijn32tab", laid_math_bits_deBruijn32tab), ("math/bits.deBruijn64tab", laid_math_bits_deBruijn64tab), ("internal/strconv.uint64pow10", laid_internal_strconv_uint64pow10)], narrowed := true }
def SeedFairUptoSaid : Prop := seedFairUptoRow.holds Tryz.pinned (OpenSpec.upto seedFairSpec)

/-- 'stadionlaw04.SeedZigzags', WHERE WHAT IT READS IS OF BULK AT MOST 1048576: true; the input reads as it did. -/
def seedZigzagsUptoRow : OpenClaim := { program := "ytdghdcclhnoigaagreatdoor", sum := "b0aa94cf2f6661c637bd4ddc256ef6c0d3cff4d018d86c2106e8d369637c634f", func := "stadion/stadionlaw04.SeedZigzags", spec := "seedZigzags", inPlace := ["internal/abi.NoEscape", "internal/bytealg.MakeNoZero"], unfollowed := true, recurses := true, named := ["internal/strconv.uint64pow10", "math/bits.deBruijn32tab", "math/bits.deBruijn64tab"], plainKeys := false, apart := false, laid := [("math/bits.deBruijn32tab", laid_math_bits_deBruijn32tab), ("math/bits.deBruijn64tab", laid_math_bits_deBruijn64tab), ("internal/strconv.uint64pow10", laid_internal_strconv_uint64pow10)], narrowed := true }
def SeedZigzagsUptoSaid : Prop := seedZigzagsUptoRow.holds Tryz.pinned (OpenSpec.upto seedZigzagsSpec)

/-- 'stadionlaw04.SeedBetter', WHERE WHAT IT READS IS OF BULK AT MOST 1048576: true; the input reads as it did. -/
def seedBetterUptoRow : OpenClaim := { program := "ytdghdcclhnoigaagreatdoor", sum := "b0aa94cf2f6661c637bd4ddc256ef6c0d3cff4d018d86c2106e8d369637c634f", func := "stadion/stadionlaw04.SeedBetter", spec := "seedBetter", inPlace := ["internal/abi.NoEscape", "internal/bytealg.MakeNoZero"], unfollowed := true, recurses := true, named := ["internal/strconv.uint64pow10", "math/bits.deBruijn32tab", "math/bits.deBruijn64tab"], plainKeys := false, apart := false, laid := [("math/bits.deBruijn32tab", laid_math_bits_deBruijn32tab), ("math/bits.deBruijn64tab", laid_math_bits_deBruijn64tab), ("internal/strconv.uint64pow10", laid_internal_strconv_uint64pow10)], narrowed := true }
def SeedBetterUptoSaid : Prop := seedBetterUptoRow.holds Tryz.pinned (OpenSpec.upto seedBetterSpec)

/-- 'stadionlaw04.SeedOrderless', WHERE WHAT IT READS IS OF BULK AT MOST 1048576: true; the input reads as it did. -/
def seedOrderlessUptoRow : OpenClaim := { program := "ytdghdcclhnoigaagreatdoor", sum := "b0aa94cf2f6661c637bd4ddc256ef6c0d3cff4d018d86c2106e8d369637c634f", func := "stadion/stadionlaw04.SeedOrderless", spec := "seedOrderless", inPlace := ["internal/abi.NoEscape", "internal/bytealg.MakeNoZero"], unfollowed := true, recurses := true, named := ["internal/strconv.uint64pow10", "math/bits.deBruijn32tab", "math/bits.deBruijn64tab"], plainKeys := false, apart := false, laid := [("math/bits.deBruijn32tab", laid_math_bits_deBruijn32tab), ("math/bits.deBruijn64tab", laid_math_bits_deBruijn64tab), ("internal/strconv.uint64pow10", laid_internal_strconv_uint64pow10)], narrowed := true }
def SeedOrderlessUptoSaid : Prop := seedOrderlessUptoRow.holds Tryz.pinned (OpenSpec.upto seedOrderlessSpec)

/-- 'stadionlaw04.SeedTracks', WHERE WHAT IT READS IS OF BULK AT MOST 1048576: true; the input reads as it did. -/
def seedTracksUptoRow : OpenClaim := { program := "ytdghdcclhnoigaagreatdoor", sum := "b0aa94cf2f6661c637bd4ddc256ef6c0d3cff4d018d86c2106e8d369637c634f", func := "stadion/stadionlaw04.SeedTracks", spec := "seedTracks", inPlace := ["internal/abi.NoEscape", "internal/bytealg.MakeNoZero"], unfollowed := true, recurses := true, named := ["internal/strconv.uint64pow10", "math/bits.deBruijn32tab", "math/bits.deBruijn64tab"], plainKeys := false, apart := false, laid := [("math/bits.deBruijn32tab", laid_math_bits_deBruijn32tab), ("math/bits.deBruijn64tab", laid_math_bits_deBruijn64tab), ("internal/strconv.uint64pow10", laid_internal_strconv_uint64pow10)], narrowed := true }
def SeedTracksUptoSaid : Prop := seedTracksUptoRow.holds Tryz.pinned (OpenSpec.upto seedTracksSpec)

/-- 'stadionlaw04.SeedPlaces', WHERE WHAT IT READS IS OF BULK AT MOST 1048576: true; the input reads as it did. -/
def seedPlacesUptoRow : OpenClaim := { program := "ytdghdcclhnoigaagreatdoor", sum := "b0aa94cf2f6661c637bd4ddc256ef6c0d3cff4d018d86c2106e8d369637c634f", func := "stadion/stadionlaw04.SeedPlaces", spec := "seedPlaces", inPlace := ["internal/abi.NoEscape", "internal/bytealg.MakeNoZero"], unfollowed := true, recurses := true, named := ["internal/strconv.uint64pow10", "math/bits.deBruijn32tab", "math/bits.deBruijn64tab"], plainKeys := false, apart := false, laid := [("math/bits.deBruijn32tab", laid_math_bits_deBruijn32tab), ("math/bits.deBruijn64tab", laid_math_bits_deBruijn64tab), ("internal/strconv.uint64pow10", laid_internal_strconv_uint64pow10)], narrowed := true }
def SeedPlacesUptoSaid : Prop := seedPlacesUptoRow.holds Tryz.pinned (OpenSpec.upto seedPlacesSpec)

end Rows
end Go.Proofs.YtdghdcclhnoigaaGreatDoor

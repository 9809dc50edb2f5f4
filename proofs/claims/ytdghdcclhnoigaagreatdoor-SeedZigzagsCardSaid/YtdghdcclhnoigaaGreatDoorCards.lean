/-
  DERIVED. GIVEN WITH THE SEED: THE CARDS: each row of YtdghdcclhnoigaaGreatDoorRows.lean that lists a variable, with what it lists TIED to the program's text (the seventh form; the later family's looks); each row that meets fmt, with fmt's text TOLD by the authors' own Lean function (tested against real Go, not proved from fmt's source: count such statements apart). THE CARD IS WHAT COUNTS. Prove the row's statement (the work); the ties are given (YtdghdcclhnoigaaGreatDoorTie.lean); close each card by the builder's one call (the guide's Derived/Test/ToyasCard.lean, 'card_holds'). Laid BY PROGRAM, IN A SANDBOX (cutbox-door.mjs). By AI agents, Wed Nov 11 2026. No macro, syntax, notation, axiom, sorry.
-/
import Derived.Test.YtdghdcclhnoigaaGreatDoorRows
import GoSem.ClaimSeven
namespace Go.Proofs.YtdghdcclhnoigaaGreatDoor
namespace Rows

/-- THE TIED CARD OF 'stadionlaw04.SeedOrders'. -/
def seedOrdersCard : Claim7 := { stood := { row := seedOrdersRow, standIns := [], harness := (true, "73ffc6bad1a1e0fe7f03ff515a1e2092afa2bdb05d5538aa8b4d6b8f29782ba3"), looks := false }, kinds := [], alts := [], laidByText := true, laidKinds := [.data, .data, .data], laidTests := true, laidLooks := .later }
def SeedOrdersCardSaid : Prop := Claim7.holds Tryz.pinned (.plain (OpenSpec.ofChange seedOrdersSpec)) seedOrdersCard

/-- THE TIED CARD OF 'stadionlaw04.SeedClashes'. -/
def seedClashesCard : Claim7 := { stood := { row := seedClashesRow, standIns := [], harness := (true, "73ffc6bad1a1e0fe7f03ff515a1e2092afa2bdb05d5538aa8b4d6b8f29782ba3"), looks := false }, kinds := [], alts := [], laidByText := true, laidKinds := [.data, .data, .data], laidTests := true, laidLooks := .later }
def SeedClashesCardSaid : Prop := Claim7.holds Tryz.pinned (.plain (OpenSpec.ofChange seedClashesSpec)) seedClashesCard

/-- THE TIED CARD OF 'stadionlaw04.SeedParts'. -/
def seedPartsCard : Claim7 := { stood := { row := seedPartsRow, standIns := [], harness := (true, "73ffc6bad1a1e0fe7f03ff515a1e2092afa2bdb05d5538aa8b4d6b8f29782ba3"), looks := false }, kinds := [], alts := [], laidByText := true, laidKinds := [.data, .data, .data], laidTests := true, laidLooks := .later }
def SeedPartsCardSaid : Prop := Claim7.holds Tryz.pinned (.plain (OpenSpec.ofChange seedPartsSpec)) seedPartsCard

/-- THE TIED CARD OF 'stadionlaw04.SeedLanes'. -/
def seedLanesCard : Claim7 := { stood := { row := seedLanesRow, standIns := [], harness := (true, "73ffc6bad1a1e0fe7f03ff515a1e2092afa2bdb05d5538aa8b4d6b8f29782ba3"), looks := false }, kinds := [], alts := [], laidByText := true, laidKinds := [.data, .data, .data], laidTests := true, laidLooks := .later }
def SeedLanesCardSaid : Prop := Claim7.holds Tryz.pinned (.plain (OpenSpec.ofChange seedLanesSpec)) seedLanesCard

/-- THE TIED CARD OF 'stadionlaw04.SeedChanges'. -/
def seedChangesCard : Claim7 := { stood := { row := seedChangesRow, standIns := [], harness := (true, "73ffc6bad1a1e0fe7f03ff515a1e2092afa2bdb05d5538aa8b4d6b8f29782ba3"), looks := false }, kinds := [], alts := [], laidByText := true, laidKinds := [.data, .data, .data], laidTests := true, laidLooks := .later }
def SeedChangesCardSaid : Prop := Claim7.holds Tryz.pinned (.plain (OpenSpec.ofChange seedChangesSpec)) seedChangesCard

/-- THE TIED CARD OF 'stadionlaw04.SeedCharts'. -/
def seedChartsCard : Claim7 := { stood := { row := seedChartsRow, standIns := [], harness := (true, "73ffc6bad1a1e0fe7f03ff515a1e2092afa2bdb05d5538aa8b4d6b8f29782ba3"), looks := false }, kinds := [], alts := [], laidByText := true, laidKinds := [.data, .data, .data], laidTests := true, laidLooks := .later }
def SeedChartsCardSaid : Prop := Claim7.holds Tryz.pinned (.plain (OpenSpec.ofChange seedChartsSpec)) seedChartsCard

/-- THE TIED CARD OF 'stadionlaw04.SeedFair'. -/
def seedFairCard : Claim7 := { stood := { row := seedFairRow, standIns := [], harness := (true, "73ffc6bad1a1e0fe7f03ff515a1e2092afa2bdb05d5538aa8b4d6b8f29782ba3"), looks := false }, kinds := [], alts := [], laidByText := true, laidKinds := [.data, .data, .data], laidTests := true, laidLooks := .later }
def SeedFairCardSaid : Prop := Claim7.holds Tryz.pinned (.plain (OpenSpec.ofChange seedFairSpec)) seedFairCard

/-- THE TIED CARD OF 'stadionlaw04.SeedZigzags'. -/
def seedZigzagsCard : Claim7 := { stood := { row := seedZigzagsRow, standIns := [], harness := (true, "73ffc6bad1a1e0fe7f03ff515a1e2092afa2bdb05d5538aa8b4d6b8f29782ba3"), looks := false }, kinds := [], alts := [], laidByText := true, laidKinds := [.data, .data, .data], laidTests := true, laidLooks := .later }
def SeedZigzagsCardSaid : Prop := Claim7.holds Tryz.pinned (.plain (OpenSpec.ofChange seedZigzagsSpec)) seedZigzagsCard

/-- THE TIED CARD OF 'stadionlaw04.SeedBetter'. -/
def seedBetterCard : Claim7 := { stood := { row := seedBetterRow, standIns := [], harness := (true, "73ffc6bad1a1e0fe7f03ff515a1e2092afa2bdb05d5538aa8b4d6b8f29782ba3"), looks := false }, kinds := [], alts := [], laidByText := true, laidKinds := [.data, .data, .data], laidTests := true, laidLooks := .later }
def SeedBetterCardSaid : Prop := Claim7.holds Tryz.pinned (.plain (OpenSpec.ofChange seedBetterSpec)) seedBetterCard

/-- THE TIED CARD OF 'stadionlaw04.SeedOrderless'. -/
def seedOrderlessCard : Claim7 := { stood := { row := seedOrderlessRow, standIns := [], harness := (true, "73ffc6bad1a1e0fe7f03ff515a1e2092afa2bdb05d5538aa8b4d6b8f29782ba3"), looks := false }, kinds := [], alts := [], laidByText := true, laidKinds := [.data, .data, .data], laidTests := true, laidLooks := .later }
def SeedOrderlessCardSaid : Prop := Claim7.holds Tryz.pinned (.plain (OpenSpec.ofChange seedOrderlessSpec)) seedOrderlessCard

/-- THE TIED CARD OF 'stadionlaw04.SeedTracks'. -/
def seedTracksCard : Claim7 := { stood := { row := seedTracksRow, standIns := [], harness := (true, "73ffc6bad1a1e0fe7f03ff515a1e2092afa2bdb05d5538aa8b4d6b8f29782ba3"), looks := false }, kinds := [], alts := [], laidByText := true, laidKinds := [.data, .data, .data], laidTests := true, laidLooks := .later }
def SeedTracksCardSaid : Prop := Claim7.holds Tryz.pinned (.plain (OpenSpec.ofChange seedTracksSpec)) seedTracksCard

/-- THE TIED CARD OF 'stadionlaw04.SeedPlaces'. -/
def seedPlacesCard : Claim7 := { stood := { row := seedPlacesRow, standIns := [], harness := (true, "73ffc6bad1a1e0fe7f03ff515a1e2092afa2bdb05d5538aa8b4d6b8f29782ba3"), looks := false }, kinds := [], alts := [], laidByText := true, laidKinds := [.data, .data, .data], laidTests := true, laidLooks := .later }
def SeedPlacesCardSaid : Prop := Claim7.holds Tryz.pinned (.plain (OpenSpec.ofChange seedPlacesSpec)) seedPlacesCard

/-- THE SECOND FORM's CARD OF 'stadionlaw04.SeedOrders'. -/
def seedOrdersUptoCard : Claim7 := { stood := { row := seedOrdersUptoRow, standIns := [], harness := (true, "73ffc6bad1a1e0fe7f03ff515a1e2092afa2bdb05d5538aa8b4d6b8f29782ba3"), looks := false }, kinds := [], alts := [], laidByText := true, laidKinds := [.data, .data, .data], laidTests := true, laidLooks := .later }
def SeedOrdersUptoCardSaid : Prop := Claim7.holds Tryz.pinned (.plain (OpenSpec.upto seedOrdersSpec)) seedOrdersUptoCard

/-- THE SECOND FORM's CARD OF 'stadionlaw04.SeedClashes'. -/
def seedClashesUptoCard : Claim7 := { stood := { row := seedClashesUptoRow, standIns := [], harness := (true, "73ffc6bad1a1e0fe7f03ff515a1e2092afa2bdb05d5538aa8b4d6b8f29782ba3"), looks := false }, kinds := [], alts := [], laidByText := true, laidKinds := [.data, .data, .data], laidTests := true, laidLooks := .later }
def SeedClashesUptoCardSaid : Prop := Claim7.holds Tryz.pinned (.plain (OpenSpec.upto seedClashesSpec)) seedClashesUptoCard

/-- THE SECOND FORM's CARD OF 'stadionlaw04.SeedParts'. -/
def seedPartsUptoCard : Claim7 := { stood := { row := seedPartsUptoRow, standIns := [], harness := (true, "73ffc6bad1a1e0fe7f03ff515a1e2092afa2bdb05d5538aa8b4d6b8f29782ba3"), looks := false }, kinds := [], alts := [], laidByText := true, laidKinds := [.data, .data, .data], laidTests := true, laidLooks := .later }
def SeedPartsUptoCardSaid : Prop := Claim7.holds Tryz.pinned (.plain (OpenSpec.upto seedPartsSpec)) seedPartsUptoCard

/-- THE SECOND FORM's CARD OF 'stadionlaw04.SeedLanes'. -/
def seedLanesUptoCard : Claim7 := { stood := { row := seedLanesUptoRow, standIns := [], harness := (true, "73ffc6bad1a1e0fe7f03ff515a1e2092afa2bdb05d5538aa8b4d6b8f29782ba3"), looks := false }, kinds := [], alts := [], laidByText := true, laidKinds := [.data, .data, .data], laidTests := true, laidLooks := .later }
def SeedLanesUptoCardSaid : Prop := Claim7.holds Tryz.pinned (.plain (OpenSpec.upto seedLanesSpec)) seedLanesUptoCard

/-- THE SECOND FORM's CARD OF 'stadionlaw04.SeedChanges'. -/
def seedChangesUptoCard : Claim7 := { stood := { row := seedChangesUptoRow, standIns := [], harness := (true, "73ffc6bad1a1e0fe7f03ff515a1e2092afa2bdb05d5538aa8b4d6b8f29782ba3"), looks := false }, kinds := [], alts := [], laidByText := true, laidKinds := [.data, .data, .data], laidTests := true, laidLooks := .later }
def SeedChangesUptoCardSaid : Prop := Claim7.holds Tryz.pinned (.plain (OpenSpec.upto seedChangesSpec)) seedChangesUptoCard

/-- THE SECOND FORM's CARD OF 'stadionlaw04.SeedCharts'. -/
def seedChartsUptoCard : Claim7 := { stood := { row := seedChartsUptoRow, standIns := [], harness := (true, "73ffc6bad1a1e0fe7f03ff515a1e2092afa2bdb05d5538aa8b4d6b8f29782ba3"), looks := false }, kinds := [], alts := [], laidByText := true, laidKinds := [.data, .data, .data], laidTests := true, laidLooks := .later }
def SeedChartsUptoCardSaid : Prop := Claim7.holds Tryz.pinned (.plain (OpenSpec.upto seedChartsSpec)) seedChartsUptoCard

/-- THE SECOND FORM's CARD OF 'stadionlaw04.SeedFair'. -/
def seedFairUptoCard : Claim7 := { stood := { row := seedFairUptoRow, standIns := [], harness := (true, "73ffc6bad1a1e0fe7f03ff515a1e2092afa2bdb05d5538aa8b4d6b8f29782ba3"), looks := false }, kinds := [], alts := [], laidByText := true, laidKinds := [.data, .data, .data], laidTests := true, laidLooks := .later }
def SeedFairUptoCardSaid : Prop := Claim7.holds Tryz.pinned (.plain (OpenSpec.upto seedFairSpec)) seedFairUptoCard

/-- THE SECOND FORM's CARD OF 'stadionlaw04.SeedZigzags'. -/
def seedZigzagsUptoCard : Claim7 := { stood := { row := seedZigzagsUptoRow, standIns := [], harness := (true, "73ffc6bad1a1e0fe7f03ff515a1e2092afa2bdb05d5538aa8b4d6b8f29782ba3"), looks := false }, kinds := [], alts := [], laidByText := true, laidKinds := [.data, .data, .data], laidTests := true, laidLooks := .later }
def SeedZigzagsUptoCardSaid : Prop := Claim7.holds Tryz.pinned (.plain (OpenSpec.upto seedZigzagsSpec)) seedZigzagsUptoCard

/-- THE SECOND FORM's CARD OF 'stadionlaw04.SeedBetter'. -/
def seedBetterUptoCard : Claim7 := { stood := { row := seedBetterUptoRow, standIns := [], harness := (true, "73ffc6bad1a1e0fe7f03ff515a1e2092afa2bdb05d5538aa8b4d6b8f29782ba3"), looks := false }, kinds := [], alts := [], laidByText := true, laidKinds := [.data, .data, .data], laidTests := true, laidLooks := .later }
def SeedBetterUptoCardSaid : Prop := Claim7.holds Tryz.pinned (.plain (OpenSpec.upto seedBetterSpec)) seedBetterUptoCard

/-- THE SECOND FORM's CARD OF 'stadionlaw04.SeedOrderless'. -/
def seedOrderlessUptoCard : Claim7 := { stood := { row := seedOrderlessUptoRow, standIns := [], harness := (true, "73ffc6bad1a1e0fe7f03ff515a1e2092afa2bdb05d5538aa8b4d6b8f29782ba3"), looks := false }, kinds := [], alts := [], laidByText := true, laidKinds := [.data, .data, .data], laidTests := true, laidLooks := .later }
def SeedOrderlessUptoCardSaid : Prop := Claim7.holds Tryz.pinned (.plain (OpenSpec.upto seedOrderlessSpec)) seedOrderlessUptoCard

/-- THE SECOND FORM's CARD OF 'stadionlaw04.SeedTracks'. -/
def seedTracksUptoCard : Claim7 := { stood := { row := seedTracksUptoRow, standIns := [], harness := (true, "73ffc6bad1a1e0fe7f03ff515a1e2092afa2bdb05d5538aa8b4d6b8f29782ba3"), looks := false }, kinds := [], alts := [], laidByText := true, laidKinds := [.data, .data, .data], laidTests := true, laidLooks := .later }
def SeedTracksUptoCardSaid : Prop := Claim7.holds Tryz.pinned (.plain (OpenSpec.upto seedTracksSpec)) seedTracksUptoCard

/-- THE SECOND FORM's CARD OF 'stadionlaw04.SeedPlaces'. -/
def seedPlacesUptoCard : Claim7 := { stood := { row := seedPlacesUptoRow, standIns := [], harness := (true, "73ffc6bad1a1e0fe7f03ff515a1e2092afa2bdb05d5538aa8b4d6b8f29782ba3"), looks := false }, kinds := [], alts := [], laidByText := true, laidKinds := [.data, .data, .data], laidTests := true, laidLooks := .later }
def SeedPlacesUptoCardSaid : Prop := Claim7.holds Tryz.pinned (.plain (OpenSpec.upto seedPlacesSpec)) seedPlacesUptoCard
end Rows
end Go.Proofs.YtdghdcclhnoigaaGreatDoor

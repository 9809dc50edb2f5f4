/-
  DERIVED. GIVEN WITH THE SEED: THE CARDS: each row of YtebmfbcngojbdaaGreatDoorRows.lean that lists a variable, with what it lists TIED to the program's text (the seventh form; the later family's looks); each row that meets fmt, with fmt's text TOLD by the authors' own Lean function (tested against real Go, not proved from fmt's source: count such statements apart). THE CARD IS WHAT COUNTS. Prove the row's statement (the work); the ties are given (YtebmfbcngojbdaaGreatDoorTie.lean); close each card by the builder's one call (the guide's Derived/Test/ToyasCard.lean, 'card_holds'). Laid BY PROGRAM, IN A SANDBOX (cutbox-door.mjs). By AI agents, Wed Nov 11 2026. No macro, syntax, notation, axiom, sorry.
-/
import Derived.Test.YtebmfbcngojbdaaGreatDoorRows
import GoSem.ClaimSeven
namespace Go.Proofs.YtebmfbcngojbdaaGreatDoor
namespace Rows

/-- THE TIED CARD OF 'stadionlaw07.TrackHurdles'. -/
def trackHurdlesCard : Claim7 := { stood := { row := trackHurdlesRow, standIns := [], harness := (true, "5630d4b075ec37d57639f87b1666f2ba2c3f1ceb5cf38dbaf27bc3f3c2b5c39d"), looks := false }, kinds := [], alts := [], laidByText := true, laidKinds := [.data, .data, .data, .data], laidTests := true, laidLooks := .later }
def TrackHurdlesCardSaid : Prop := Claim7.holds Tryz.pinned (.plain (OpenSpec.ofChange trackHurdlesSpec)) trackHurdlesCard

/-- THE TIED CARD OF 'stadionlaw07.TrackTeams'. -/
def trackTeamsCard : Claim7 := { stood := { row := trackTeamsRow, standIns := [], harness := (true, "5630d4b075ec37d57639f87b1666f2ba2c3f1ceb5cf38dbaf27bc3f3c2b5c39d"), looks := false }, kinds := [], alts := [], laidByText := true, laidKinds := [.data, .data, .data, .data], laidTests := true, laidLooks := .later }
def TrackTeamsCardSaid : Prop := Claim7.holds Tryz.pinned (.plain (OpenSpec.ofChange trackTeamsSpec)) trackTeamsCard

/-- THE TIED CARD OF 'stadionlaw07.TrackChanges'. -/
def trackChangesCard : Claim7 := { stood := { row := trackChangesRow, standIns := [], harness := (true, "5630d4b075ec37d57639f87b1666f2ba2c3f1ceb5cf38dbaf27bc3f3c2b5c39d"), looks := false }, kinds := [], alts := [], laidByText := true, laidKinds := [.data, .data, .data, .data], laidTests := true, laidLooks := .later }
def TrackChangesCardSaid : Prop := Claim7.holds Tryz.pinned (.plain (OpenSpec.ofChange trackChangesSpec)) trackChangesCard

/-- THE SECOND FORM's CARD OF 'stadionlaw07.TrackHurdles'. -/
def trackHurdlesUptoCard : Claim7 := { stood := { row := trackHurdlesUptoRow, standIns := [], harness := (true, "5630d4b075ec37d57639f87b1666f2ba2c3f1ceb5cf38dbaf27bc3f3c2b5c39d"), looks := false }, kinds := [], alts := [], laidByText := true, laidKinds := [.data, .data, .data, .data], laidTests := true, laidLooks := .later }
def TrackHurdlesUptoCardSaid : Prop := Claim7.holds Tryz.pinned (.plain (OpenSpec.upto trackHurdlesSpec)) trackHurdlesUptoCard

/-- THE SECOND FORM's CARD OF 'stadionlaw07.TrackTeams'. -/
def trackTeamsUptoCard : Claim7 := { stood := { row := trackTeamsUptoRow, standIns := [], harness := (true, "5630d4b075ec37d57639f87b1666f2ba2c3f1ceb5cf38dbaf27bc3f3c2b5c39d"), looks := false }, kinds := [], alts := [], laidByText := true, laidKinds := [.data, .data, .data, .data], laidTests := true, laidLooks := .later }
def TrackTeamsUptoCardSaid : Prop := Claim7.holds Tryz.pinned (.plain (OpenSpec.upto trackTeamsSpec)) trackTeamsUptoCard

/-- THE SECOND FORM's CARD OF 'stadionlaw07.TrackChanges'. -/
def trackChangesUptoCard : Claim7 := { stood := { row := trackChangesUptoRow, standIns := [], harness := (true, "5630d4b075ec37d57639f87b1666f2ba2c3f1ceb5cf38dbaf27bc3f3c2b5c39d"), looks := false }, kinds := [], alts := [], laidByText := true, laidKinds := [.data, .data, .data, .data], laidTests := true, laidLooks := .later }
def TrackChangesUptoCardSaid : Prop := Claim7.holds Tryz.pinned (.plain (OpenSpec.upto trackChangesSpec)) trackChangesUptoCard
end Rows
end Go.Proofs.YtebmfbcngojbdaaGreatDoor

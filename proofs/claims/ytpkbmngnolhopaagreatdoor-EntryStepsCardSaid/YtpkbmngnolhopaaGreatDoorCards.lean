/-
  DERIVED. GIVEN WITH THE SEED: THE CARDS: each row of YtpkbmngnolhopaaGreatDoorRows.lean that lists a variable, with what it lists TIED to the program's text (the seventh form; the later family's looks); each row that meets fmt, with fmt's text TOLD by the authors' own Lean function (tested against real Go, not proved from fmt's source: count such statements apart). THE CARD IS WHAT COUNTS. Prove the row's statement (the work); the ties are given (YtpkbmngnolhopaaGreatDoorTie.lean); close each card by the builder's one call (the guide's Derived/Test/ToyasCard.lean, 'card_holds'). Laid BY PROGRAM, IN A SANDBOX (cutbox-door.mjs). By AI agents, Wed Nov 11 2026. No macro, syntax, notation, axiom, sorry.
-/
import Derived.Test.YtpkbmngnolhopaaGreatDoorRows
import GoSem.ClaimSeven
namespace Go.Proofs.YtpkbmngnolhopaaGreatDoor
namespace Rows

/-- THE TIED CARD OF 'stadionlaw03.EntryForms'. -/
def entryFormsCard : Claim7 := { stood := { row := entryFormsRow, standIns := [], harness := (true, "d26efb83b9ce04d44ea508e44e0d3162b8aac3d4ace8fa2be28d49d00cb1001b"), looks := false }, kinds := [], alts := [], laidByText := true, laidKinds := [.data, .data, .data], laidTests := true, laidLooks := .later }
def EntryFormsCardSaid : Prop := Claim7.holds Tryz.pinned (.plain (OpenSpec.ofChange entryFormsSpec)) entryFormsCard

/-- THE TIED CARD OF 'stadionlaw03.EntryReplays'. -/
def entryReplaysCard : Claim7 := { stood := { row := entryReplaysRow, standIns := [], harness := (true, "d26efb83b9ce04d44ea508e44e0d3162b8aac3d4ace8fa2be28d49d00cb1001b"), looks := false }, kinds := [], alts := [], laidByText := true, laidKinds := [.data, .data, .data], laidTests := true, laidLooks := .later }
def EntryReplaysCardSaid : Prop := Claim7.holds Tryz.pinned (.plain (OpenSpec.ofChange entryReplaysSpec)) entryReplaysCard

/-- THE TIED CARD OF 'stadionlaw03.EntryViews'. -/
def entryViewsCard : Claim7 := { stood := { row := entryViewsRow, standIns := [], harness := (true, "d26efb83b9ce04d44ea508e44e0d3162b8aac3d4ace8fa2be28d49d00cb1001b"), looks := false }, kinds := [], alts := [], laidByText := true, laidKinds := [.data, .data, .data], laidTests := true, laidLooks := .later }
def EntryViewsCardSaid : Prop := Claim7.holds Tryz.pinned (.plain (OpenSpec.ofChange entryViewsSpec)) entryViewsCard

/-- THE TIED CARD OF 'stadionlaw03.EntryChanges'. -/
def entryChangesCard : Claim7 := { stood := { row := entryChangesRow, standIns := [], harness := (true, "d26efb83b9ce04d44ea508e44e0d3162b8aac3d4ace8fa2be28d49d00cb1001b"), looks := false }, kinds := [], alts := [], laidByText := true, laidKinds := [.data, .data, .data], laidTests := true, laidLooks := .later }
def EntryChangesCardSaid : Prop := Claim7.holds Tryz.pinned (.plain (OpenSpec.ofChange entryChangesSpec)) entryChangesCard

/-- THE TIED CARD OF 'stadionlaw03.EntrySteps'. -/
def entryStepsCard : Claim7 := { stood := { row := entryStepsRow, standIns := [], harness := (true, "d26efb83b9ce04d44ea508e44e0d3162b8aac3d4ace8fa2be28d49d00cb1001b"), looks := false }, kinds := [], alts := [], laidByText := true, laidKinds := [.data, .data, .data], laidTests := true, laidLooks := .later }
def EntryStepsCardSaid : Prop := Claim7.holds Tryz.pinned (.plain (OpenSpec.ofChange entryStepsSpec)) entryStepsCard

/-- THE TIED CARD OF 'stadionlaw03.EntryMoves'. -/
def entryMovesCard : Claim7 := { stood := { row := entryMovesRow, standIns := [], harness := (true, "d26efb83b9ce04d44ea508e44e0d3162b8aac3d4ace8fa2be28d49d00cb1001b"), looks := false }, kinds := [], alts := [], laidByText := true, laidKinds := [.data, .data, .data], laidTests := true, laidLooks := .later }
def EntryMovesCardSaid : Prop := Claim7.holds Tryz.pinned (.plain (OpenSpec.ofChange entryMovesSpec)) entryMovesCard

/-- THE TIED CARD OF 'stadionlaw03.EntryDivides'. -/
def entryDividesCard : Claim7 := { stood := { row := entryDividesRow, standIns := [], harness := (true, "d26efb83b9ce04d44ea508e44e0d3162b8aac3d4ace8fa2be28d49d00cb1001b"), looks := false }, kinds := [], alts := [], laidByText := true, laidKinds := [.data, .data, .data], laidTests := true, laidLooks := .later }
def EntryDividesCardSaid : Prop := Claim7.holds Tryz.pinned (.plain (OpenSpec.ofChange entryDividesSpec)) entryDividesCard

/-- THE TIED CARD OF 'stadionlaw03.EntryRefuses'. -/
def entryRefusesCard : Claim7 := { stood := { row := entryRefusesRow, standIns := [], harness := (true, "d26efb83b9ce04d44ea508e44e0d3162b8aac3d4ace8fa2be28d49d00cb1001b"), looks := false }, kinds := [], alts := [], laidByText := true, laidKinds := [.data, .data, .data], laidTests := true, laidLooks := .later }
def EntryRefusesCardSaid : Prop := Claim7.holds Tryz.pinned (.plain (OpenSpec.ofChange entryRefusesSpec)) entryRefusesCard

/-- THE TIED CARD OF 'stadionlaw03.EntryActs'. -/
def entryActsCard : Claim7 := { stood := { row := entryActsRow, standIns := [], harness := (true, "d26efb83b9ce04d44ea508e44e0d3162b8aac3d4ace8fa2be28d49d00cb1001b"), looks := false }, kinds := [], alts := [], laidByText := true, laidKinds := [.data, .data, .data], laidTests := true, laidLooks := .later }
def EntryActsCardSaid : Prop := Claim7.holds Tryz.pinned (.plain (OpenSpec.ofChange entryActsSpec)) entryActsCard

/-- THE TIED CARD OF 'stadionlaw03.EntryAges'. -/
def entryAgesCard : Claim7 := { stood := { row := entryAgesRow, standIns := [], harness := (true, "d26efb83b9ce04d44ea508e44e0d3162b8aac3d4ace8fa2be28d49d00cb1001b"), looks := false }, kinds := [], alts := [], laidByText := true, laidKinds := [.data, .data, .data], laidTests := true, laidLooks := .later }
def EntryAgesCardSaid : Prop := Claim7.holds Tryz.pinned (.plain (OpenSpec.ofChange entryAgesSpec)) entryAgesCard

/-- THE TIED CARD OF 'stadionlaw03.EntryLists'. -/
def entryListsCard : Claim7 := { stood := { row := entryListsRow, standIns := [], harness := (true, "d26efb83b9ce04d44ea508e44e0d3162b8aac3d4ace8fa2be28d49d00cb1001b"), looks := false }, kinds := [], alts := [], laidByText := true, laidKinds := [.data, .data, .data], laidTests := true, laidLooks := .later }
def EntryListsCardSaid : Prop := Claim7.holds Tryz.pinned (.plain (OpenSpec.ofChange entryListsSpec)) entryListsCard

/-- THE TIED CARD OF 'stadionlaw03.EntryShared'. -/
def entrySharedCard : Claim7 := { stood := { row := entrySharedRow, standIns := [], harness := (true, "d26efb83b9ce04d44ea508e44e0d3162b8aac3d4ace8fa2be28d49d00cb1001b"), looks := false }, kinds := [], alts := [], laidByText := true, laidKinds := [.data, .data, .data], laidTests := true, laidLooks := .later }
def EntrySharedCardSaid : Prop := Claim7.holds Tryz.pinned (.plain (OpenSpec.ofChange entrySharedSpec)) entrySharedCard

/-- THE SECOND FORM's CARD OF 'stadionlaw03.EntryForms'. -/
def entryFormsUptoCard : Claim7 := { stood := { row := entryFormsUptoRow, standIns := [], harness := (true, "d26efb83b9ce04d44ea508e44e0d3162b8aac3d4ace8fa2be28d49d00cb1001b"), looks := false }, kinds := [], alts := [], laidByText := true, laidKinds := [.data, .data, .data], laidTests := true, laidLooks := .later }
def EntryFormsUptoCardSaid : Prop := Claim7.holds Tryz.pinned (.plain (OpenSpec.upto entryFormsSpec)) entryFormsUptoCard

/-- THE SECOND FORM's CARD OF 'stadionlaw03.EntryReplays'. -/
def entryReplaysUptoCard : Claim7 := { stood := { row := entryReplaysUptoRow, standIns := [], harness := (true, "d26efb83b9ce04d44ea508e44e0d3162b8aac3d4ace8fa2be28d49d00cb1001b"), looks := false }, kinds := [], alts := [], laidByText := true, laidKinds := [.data, .data, .data], laidTests := true, laidLooks := .later }
def EntryReplaysUptoCardSaid : Prop := Claim7.holds Tryz.pinned (.plain (OpenSpec.upto entryReplaysSpec)) entryReplaysUptoCard

/-- THE SECOND FORM's CARD OF 'stadionlaw03.EntryViews'. -/
def entryViewsUptoCard : Claim7 := { stood := { row := entryViewsUptoRow, standIns := [], harness := (true, "d26efb83b9ce04d44ea508e44e0d3162b8aac3d4ace8fa2be28d49d00cb1001b"), looks := false }, kinds := [], alts := [], laidByText := true, laidKinds := [.data, .data, .data], laidTests := true, laidLooks := .later }
def EntryViewsUptoCardSaid : Prop := Claim7.holds Tryz.pinned (.plain (OpenSpec.upto entryViewsSpec)) entryViewsUptoCard

/-- THE SECOND FORM's CARD OF 'stadionlaw03.EntryChanges'. -/
def entryChangesUptoCard : Claim7 := { stood := { row := entryChangesUptoRow, standIns := [], harness := (true, "d26efb83b9ce04d44ea508e44e0d3162b8aac3d4ace8fa2be28d49d00cb1001b"), looks := false }, kinds := [], alts := [], laidByText := true, laidKinds := [.data, .data, .data], laidTests := true, laidLooks := .later }
def EntryChangesUptoCardSaid : Prop := Claim7.holds Tryz.pinned (.plain (OpenSpec.upto entryChangesSpec)) entryChangesUptoCard

/-- THE SECOND FORM's CARD OF 'stadionlaw03.EntrySteps'. -/
def entryStepsUptoCard : Claim7 := { stood := { row := entryStepsUptoRow, standIns := [], harness := (true, "d26efb83b9ce04d44ea508e44e0d3162b8aac3d4ace8fa2be28d49d00cb1001b"), looks := false }, kinds := [], alts := [], laidByText := true, laidKinds := [.data, .data, .data], laidTests := true, laidLooks := .later }
def EntryStepsUptoCardSaid : Prop := Claim7.holds Tryz.pinned (.plain (OpenSpec.upto entryStepsSpec)) entryStepsUptoCard

/-- THE SECOND FORM's CARD OF 'stadionlaw03.EntryMoves'. -/
def entryMovesUptoCard : Claim7 := { stood := { row := entryMovesUptoRow, standIns := [], harness := (true, "d26efb83b9ce04d44ea508e44e0d3162b8aac3d4ace8fa2be28d49d00cb1001b"), looks := false }, kinds := [], alts := [], laidByText := true, laidKinds := [.data, .data, .data], laidTests := true, laidLooks := .later }
def EntryMovesUptoCardSaid : Prop := Claim7.holds Tryz.pinned (.plain (OpenSpec.upto entryMovesSpec)) entryMovesUptoCard

/-- THE SECOND FORM's CARD OF 'stadionlaw03.EntryDivides'. -/
def entryDividesUptoCard : Claim7 := { stood := { row := entryDividesUptoRow, standIns := [], harness := (true, "d26efb83b9ce04d44ea508e44e0d3162b8aac3d4ace8fa2be28d49d00cb1001b"), looks := false }, kinds := [], alts := [], laidByText := true, laidKinds := [.data, .data, .data], laidTests := true, laidLooks := .later }
def EntryDividesUptoCardSaid : Prop := Claim7.holds Tryz.pinned (.plain (OpenSpec.upto entryDividesSpec)) entryDividesUptoCard

/-- THE SECOND FORM's CARD OF 'stadionlaw03.EntryRefuses'. -/
def entryRefusesUptoCard : Claim7 := { stood := { row := entryRefusesUptoRow, standIns := [], harness := (true, "d26efb83b9ce04d44ea508e44e0d3162b8aac3d4ace8fa2be28d49d00cb1001b"), looks := false }, kinds := [], alts := [], laidByText := true, laidKinds := [.data, .data, .data], laidTests := true, laidLooks := .later }
def EntryRefusesUptoCardSaid : Prop := Claim7.holds Tryz.pinned (.plain (OpenSpec.upto entryRefusesSpec)) entryRefusesUptoCard

/-- THE SECOND FORM's CARD OF 'stadionlaw03.EntryActs'. -/
def entryActsUptoCard : Claim7 := { stood := { row := entryActsUptoRow, standIns := [], harness := (true, "d26efb83b9ce04d44ea508e44e0d3162b8aac3d4ace8fa2be28d49d00cb1001b"), looks := false }, kinds := [], alts := [], laidByText := true, laidKinds := [.data, .data, .data], laidTests := true, laidLooks := .later }
def EntryActsUptoCardSaid : Prop := Claim7.holds Tryz.pinned (.plain (OpenSpec.upto entryActsSpec)) entryActsUptoCard

/-- THE SECOND FORM's CARD OF 'stadionlaw03.EntryAges'. -/
def entryAgesUptoCard : Claim7 := { stood := { row := entryAgesUptoRow, standIns := [], harness := (true, "d26efb83b9ce04d44ea508e44e0d3162b8aac3d4ace8fa2be28d49d00cb1001b"), looks := false }, kinds := [], alts := [], laidByText := true, laidKinds := [.data, .data, .data], laidTests := true, laidLooks := .later }
def EntryAgesUptoCardSaid : Prop := Claim7.holds Tryz.pinned (.plain (OpenSpec.upto entryAgesSpec)) entryAgesUptoCard

/-- THE SECOND FORM's CARD OF 'stadionlaw03.EntryLists'. -/
def entryListsUptoCard : Claim7 := { stood := { row := entryListsUptoRow, standIns := [], harness := (true, "d26efb83b9ce04d44ea508e44e0d3162b8aac3d4ace8fa2be28d49d00cb1001b"), looks := false }, kinds := [], alts := [], laidByText := true, laidKinds := [.data, .data, .data], laidTests := true, laidLooks := .later }
def EntryListsUptoCardSaid : Prop := Claim7.holds Tryz.pinned (.plain (OpenSpec.upto entryListsSpec)) entryListsUptoCard

/-- THE SECOND FORM's CARD OF 'stadionlaw03.EntryShared'. -/
def entrySharedUptoCard : Claim7 := { stood := { row := entrySharedUptoRow, standIns := [], harness := (true, "d26efb83b9ce04d44ea508e44e0d3162b8aac3d4ace8fa2be28d49d00cb1001b"), looks := false }, kinds := [], alts := [], laidByText := true, laidKinds := [.data, .data, .data], laidTests := true, laidLooks := .later }
def EntrySharedUptoCardSaid : Prop := Claim7.holds Tryz.pinned (.plain (OpenSpec.upto entrySharedSpec)) entrySharedUptoCard
end Rows
end Go.Proofs.YtpkbmngnolhopaaGreatDoor

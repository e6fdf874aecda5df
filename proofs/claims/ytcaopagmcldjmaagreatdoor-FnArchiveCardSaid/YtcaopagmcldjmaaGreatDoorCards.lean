/-
  DERIVED. GIVEN WITH THE SEED: THE CARDS: each row of YtcaopagmcldjmaaGreatDoorRows.lean that lists a variable, with what it lists TIED to the program's text (the seventh form; the later family's looks); each row that meets fmt, with fmt's text TOLD by the authors' own Lean function (tested against real Go, not proved from fmt's source: count such statements apart). THE CARD IS WHAT COUNTS. Prove the row's statement (the work); the ties are given (YtcaopagmcldjmaaGreatDoorTie.lean); close each card by the builder's one call (the guide's Derived/Test/ToyasCard.lean, 'card_holds'). Laid BY PROGRAM, IN A SANDBOX (cutbox-door.mjs). By AI agents, Wed Nov 11 2026. No macro, syntax, notation, axiom, sorry.
-/
import Derived.Test.YtcaopagmcldjmaaGreatDoorRows
import GoSem.ClaimSeven
namespace Go.Proofs.YtcaopagmcldjmaaGreatDoor
namespace Rows

/-- THE TIED CARD OF 'laws.FnArchive'. -/
def fnArchiveCard : Claim7 := { stood := { row := fnArchiveRow, standIns := [], harness := (true, "40a4ac2eb95e0b0fcb1b02f87b8f2b686eb47bc4c28dc2f34d6714d8b00a6f26"), looks := true }, kinds := [], alts := [], laidByText := true, laidKinds := [.data, .data, .data, .data, .sentinel, .sentinel, .listed, .data, .pinned], laidTests := true, laidLooks := .later }
def FnArchiveCardSaid : Prop := Claim7.holds Tryz.pinned (.plain (OpenSpec.ofChange fnArchiveSpec)) fnArchiveCard

/-- THE SECOND FORM's CARD OF 'laws.FnArchive'. -/
def fnArchiveUptoCard : Claim7 := { stood := { row := fnArchiveUptoRow, standIns := [], harness := (true, "40a4ac2eb95e0b0fcb1b02f87b8f2b686eb47bc4c28dc2f34d6714d8b00a6f26"), looks := true }, kinds := [], alts := [], laidByText := true, laidKinds := [.data, .data, .data, .data, .sentinel, .sentinel, .listed, .data, .pinned], laidTests := true, laidLooks := .later }
def FnArchiveUptoCardSaid : Prop := Claim7.holds Tryz.pinned (.plain (OpenSpec.upto fnArchiveSpec)) fnArchiveUptoCard
end Rows
end Go.Proofs.YtcaopagmcldjmaaGreatDoor

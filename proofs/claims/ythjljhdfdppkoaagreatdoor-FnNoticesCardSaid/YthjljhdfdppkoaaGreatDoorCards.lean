/-
  DERIVED. GIVEN WITH THE SEED: THE CARDS: each row of YthjljhdfdppkoaaGreatDoorRows.lean that lists a variable, with what it lists TIED to the program's text (the seventh form; the later family's looks); each row that meets fmt, with fmt's text TOLD by the authors' own Lean function (tested against real Go, not proved from fmt's source: count such statements apart). THE CARD IS WHAT COUNTS. Prove the row's statement (the work); the ties are given (YthjljhdfdppkoaaGreatDoorTie.lean); close each card by the builder's one call (the guide's Derived/Test/ToyasCard.lean, 'card_holds'). Laid BY PROGRAM, IN A SANDBOX (cutbox-door.mjs). By AI agents, Wed Nov 11 2026. No macro, syntax, notation, axiom, sorry.
-/
import Derived.Test.YthjljhdfdppkoaaGreatDoorRows
import GoSem.ClaimSeven
namespace Go.Proofs.YthjljhdfdppkoaaGreatDoor
namespace Rows

/-- THE TIED CARD OF 'laws.FnNotices'. -/
def fnNoticesCard : Claim7 := { stood := { row := fnNoticesRow, standIns := [], harness := (true, "5043a78d53f2dde0dc393a05ae9bb65825100b3de6850ddaa98a4e284274ed5b"), looks := true }, kinds := [], alts := [], laidByText := true, laidKinds := [.data, .data, .data, .data, .sentinel, .sentinel, .listed, .data, .pinned], laidTests := true, laidLooks := .later }
def FnNoticesCardSaid : Prop := Claim7.holds Tryz.pinned (.plain (OpenSpec.ofChange fnNoticesSpec)) fnNoticesCard

/-- THE SECOND FORM's CARD OF 'laws.FnNotices'. -/
def fnNoticesUptoCard : Claim7 := { stood := { row := fnNoticesUptoRow, standIns := [], harness := (true, "5043a78d53f2dde0dc393a05ae9bb65825100b3de6850ddaa98a4e284274ed5b"), looks := true }, kinds := [], alts := [], laidByText := true, laidKinds := [.data, .data, .data, .data, .sentinel, .sentinel, .listed, .data, .pinned], laidTests := true, laidLooks := .later }
def FnNoticesUptoCardSaid : Prop := Claim7.holds Tryz.pinned (.plain (OpenSpec.upto fnNoticesSpec)) fnNoticesUptoCard
end Rows
end Go.Proofs.YthjljhdfdppkoaaGreatDoor

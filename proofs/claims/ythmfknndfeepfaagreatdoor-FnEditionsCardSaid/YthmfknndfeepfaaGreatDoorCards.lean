/-
  DERIVED. GIVEN WITH THE SEED: THE CARDS: each row of YthmfknndfeepfaaGreatDoorRows.lean that lists a variable, with what it lists TIED to the program's text (the seventh form; the later family's looks); each row that meets fmt, with fmt's text TOLD by the authors' own Lean function (tested against real Go, not proved from fmt's source: count such statements apart). THE CARD IS WHAT COUNTS. Prove the row's statement (the work); the ties are given (YthmfknndfeepfaaGreatDoorTie.lean); close each card by the builder's one call (the guide's Derived/Test/ToyasCard.lean, 'card_holds'). Laid BY PROGRAM, IN A SANDBOX (cutbox-door.mjs). By AI agents, Wed Nov 11 2026. No macro, syntax, notation, axiom, sorry.
-/
import Derived.Test.YthmfknndfeepfaaGreatDoorRows
import GoSem.ClaimSeven
namespace Go.Proofs.YthmfknndfeepfaaGreatDoor
namespace Rows

/-- THE TIED CARD OF 'laws.FnEditions'. -/
def fnEditionsCard : Claim7 := { stood := { row := fnEditionsRow, standIns := [], harness := (true, "01284022d4ec67ae0655d50047c9587efcc9234a10471779bae77830bea96159"), looks := true }, kinds := [], alts := [], laidByText := true, laidKinds := [.data, .data, .data, .data, .sentinel, .sentinel, .listed, .data, .pinned], laidTests := true, laidLooks := .later }
def FnEditionsCardSaid : Prop := Claim7.holds Tryz.pinned (.plain (OpenSpec.ofChange fnEditionsSpec)) fnEditionsCard

/-- THE SECOND FORM's CARD OF 'laws.FnEditions'. -/
def fnEditionsUptoCard : Claim7 := { stood := { row := fnEditionsUptoRow, standIns := [], harness := (true, "01284022d4ec67ae0655d50047c9587efcc9234a10471779bae77830bea96159"), looks := true }, kinds := [], alts := [], laidByText := true, laidKinds := [.data, .data, .data, .data, .sentinel, .sentinel, .listed, .data, .pinned], laidTests := true, laidLooks := .later }
def FnEditionsUptoCardSaid : Prop := Claim7.holds Tryz.pinned (.plain (OpenSpec.upto fnEditionsSpec)) fnEditionsUptoCard
end Rows
end Go.Proofs.YthmfknndfeepfaaGreatDoor

/-
  DERIVED. GIVEN WITH THE SEED: THE CARDS: each row of YtjngmicjnheliaaGreatDoorRows.lean that lists a variable, with what it lists TIED to the program's text (the seventh form; the later family's looks); each row that meets fmt, with fmt's text TOLD by the authors' own Lean function (tested against real Go, not proved from fmt's source: count such statements apart). THE CARD IS WHAT COUNTS. Prove the row's statement (the work); the ties are given (YtjngmicjnheliaaGreatDoorTie.lean); close each card by the builder's one call (the guide's Derived/Test/ToyasCard.lean, 'card_holds'). Laid BY PROGRAM, IN A SANDBOX (cutbox-door.mjs). By AI agents, Wed Nov 11 2026. No macro, syntax, notation, axiom, sorry.
-/
import Derived.Test.YtjngmicjnheliaaGreatDoorRows
import GoSem.ClaimSeven
namespace Go.Proofs.YtjngmicjnheliaaGreatDoor
namespace Rows

/-- THE TIED CARD OF 'laws.FnExactAidsConfused'. -/
def fnExactAidsConfusedCard : Claim7 := { stood := { row := fnExactAidsConfusedRow, standIns := [], harness := (true, "9b945faccf460df95a0e221c644632c7f54374d70a6785a718ba1b37b0348d24"), looks := false }, kinds := [], alts := [], laidByText := true, laidKinds := [.listed, .data], laidTests := true, laidLooks := .later }
def FnExactAidsConfusedCardSaid : Prop := Claim7.holds Tryz.pinned (.plain (OpenSpec.ofChange fnExactAidsConfusedSpec)) fnExactAidsConfusedCard

/-- THE SECOND FORM's CARD OF 'laws.FnExactAidsConfused'. -/
def fnExactAidsConfusedUptoCard : Claim7 := { stood := { row := fnExactAidsConfusedUptoRow, standIns := [], harness := (true, "9b945faccf460df95a0e221c644632c7f54374d70a6785a718ba1b37b0348d24"), looks := false }, kinds := [], alts := [], laidByText := true, laidKinds := [.listed, .data], laidTests := true, laidLooks := .later }
def FnExactAidsConfusedUptoCardSaid : Prop := Claim7.holds Tryz.pinned (.plain (OpenSpec.upto fnExactAidsConfusedSpec)) fnExactAidsConfusedUptoCard
end Rows
end Go.Proofs.YtjngmicjnheliaaGreatDoor

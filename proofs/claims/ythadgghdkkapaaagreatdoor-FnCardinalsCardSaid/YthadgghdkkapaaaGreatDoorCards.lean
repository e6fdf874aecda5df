/-
  DERIVED. GIVEN WITH THE SEED: THE CARDS: each row of YthadgghdkkapaaaGreatDoorRows.lean that lists a variable, with what it lists TIED to the program's text (the seventh form; the later family's looks); each row that meets fmt, with fmt's text TOLD by the authors' own Lean function (tested against real Go, not proved from fmt's source: count such statements apart). THE CARD IS WHAT COUNTS. Prove the row's statement (the work); the ties are given (YthadgghdkkapaaaGreatDoorTie.lean); close each card by the builder's one call (the guide's Derived/Test/ToyasCard.lean, 'card_holds'). Laid BY PROGRAM, IN A SANDBOX (cutbox-door.mjs). By AI agents, Wed Nov 11 2026. No macro, syntax, notation, axiom, sorry.
-/
import Derived.Test.YthadgghdkkapaaaGreatDoorRows
import GoSem.ClaimSeven
namespace Go.Proofs.YthadgghdkkapaaaGreatDoor
namespace Rows

/-- THE TIED CARD OF 'laws.FnCardinals'. -/
def fnCardinalsCard : Claim7 := { stood := { row := fnCardinalsRow, standIns := [], harness := (true, "3bb51e44e7df9fdf8b0e6fd891a5cd89694048946579efcb480cf79a0ae030ac"), looks := false }, kinds := [], alts := [], laidByText := true, laidKinds := [.listed, .data], laidTests := true, laidLooks := .later }
def FnCardinalsCardSaid : Prop := Claim7.holds Tryz.pinned (.plain (OpenSpec.ofChange fnCardinalsSpec)) fnCardinalsCard

/-- THE TIED CARD OF 'laws.FnExactAidsConfused'. -/
def fnExactAidsConfusedCard : Claim7 := { stood := { row := fnExactAidsConfusedRow, standIns := [], harness := (true, "3bb51e44e7df9fdf8b0e6fd891a5cd89694048946579efcb480cf79a0ae030ac"), looks := false }, kinds := [], alts := [], laidByText := true, laidKinds := [.listed, .data], laidTests := true, laidLooks := .later }
def FnExactAidsConfusedCardSaid : Prop := Claim7.holds Tryz.pinned (.plain (OpenSpec.ofChange fnExactAidsConfusedSpec)) fnExactAidsConfusedCard

/-- THE TIED CARD OF 'laws.FnExactMarkedSides'. -/
def fnExactMarkedSidesCard : Claim7 := { stood := { row := fnExactMarkedSidesRow, standIns := [], harness := (true, "3bb51e44e7df9fdf8b0e6fd891a5cd89694048946579efcb480cf79a0ae030ac"), looks := false }, kinds := [], alts := [], laidByText := true, laidKinds := [.listed, .data], laidTests := true, laidLooks := .later }
def FnExactMarkedSidesCardSaid : Prop := Claim7.holds Tryz.pinned (.plain (OpenSpec.ofChange fnExactMarkedSidesSpec)) fnExactMarkedSidesCard

/-- THE TIED CARD OF 'laws.FnCurrent'. -/
def fnCurrentCard : Claim7 := { stood := { row := fnCurrentRow, standIns := [], harness := (true, "3bb51e44e7df9fdf8b0e6fd891a5cd89694048946579efcb480cf79a0ae030ac"), looks := false }, kinds := [], alts := [], laidByText := true, laidKinds := [.listed, .data], laidTests := true, laidLooks := .later }
def FnCurrentCardSaid : Prop := Claim7.holds Tryz.pinned (.plain (OpenSpec.ofChange fnCurrentSpec)) fnCurrentCard

/-- THE SECOND FORM's CARD OF 'laws.FnCardinals'. -/
def fnCardinalsUptoCard : Claim7 := { stood := { row := fnCardinalsUptoRow, standIns := [], harness := (true, "3bb51e44e7df9fdf8b0e6fd891a5cd89694048946579efcb480cf79a0ae030ac"), looks := false }, kinds := [], alts := [], laidByText := true, laidKinds := [.listed, .data], laidTests := true, laidLooks := .later }
def FnCardinalsUptoCardSaid : Prop := Claim7.holds Tryz.pinned (.plain (OpenSpec.upto fnCardinalsSpec)) fnCardinalsUptoCard

/-- THE SECOND FORM's CARD OF 'laws.FnExactAidsConfused'. -/
def fnExactAidsConfusedUptoCard : Claim7 := { stood := { row := fnExactAidsConfusedUptoRow, standIns := [], harness := (true, "3bb51e44e7df9fdf8b0e6fd891a5cd89694048946579efcb480cf79a0ae030ac"), looks := false }, kinds := [], alts := [], laidByText := true, laidKinds := [.listed, .data], laidTests := true, laidLooks := .later }
def FnExactAidsConfusedUptoCardSaid : Prop := Claim7.holds Tryz.pinned (.plain (OpenSpec.upto fnExactAidsConfusedSpec)) fnExactAidsConfusedUptoCard

/-- THE SECOND FORM's CARD OF 'laws.FnExactMarkedSides'. -/
def fnExactMarkedSidesUptoCard : Claim7 := { stood := { row := fnExactMarkedSidesUptoRow, standIns := [], harness := (true, "3bb51e44e7df9fdf8b0e6fd891a5cd89694048946579efcb480cf79a0ae030ac"), looks := false }, kinds := [], alts := [], laidByText := true, laidKinds := [.listed, .data], laidTests := true, laidLooks := .later }
def FnExactMarkedSidesUptoCardSaid : Prop := Claim7.holds Tryz.pinned (.plain (OpenSpec.upto fnExactMarkedSidesSpec)) fnExactMarkedSidesUptoCard

/-- THE SECOND FORM's CARD OF 'laws.FnCurrent'. -/
def fnCurrentUptoCard : Claim7 := { stood := { row := fnCurrentUptoRow, standIns := [], harness := (true, "3bb51e44e7df9fdf8b0e6fd891a5cd89694048946579efcb480cf79a0ae030ac"), looks := false }, kinds := [], alts := [], laidByText := true, laidKinds := [.listed, .data], laidTests := true, laidLooks := .later }
def FnCurrentUptoCardSaid : Prop := Claim7.holds Tryz.pinned (.plain (OpenSpec.upto fnCurrentSpec)) fnCurrentUptoCard
end Rows
end Go.Proofs.YthadgghdkkapaaaGreatDoor

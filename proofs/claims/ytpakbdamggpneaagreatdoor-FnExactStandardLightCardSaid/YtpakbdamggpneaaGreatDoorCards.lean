/-
  DERIVED. GIVEN WITH THE SEED: THE CARDS: each row of YtpakbdamggpneaaGreatDoorRows.lean that lists a variable, with what it lists TIED to the program's text (the seventh form; the later family's looks); each row that meets fmt, with fmt's text TOLD by the authors' own Lean function (tested against real Go, not proved from fmt's source: count such statements apart). THE CARD IS WHAT COUNTS. Prove the row's statement (the work); the ties are given (YtpakbdamggpneaaGreatDoorTie.lean); close each card by the builder's one call (the guide's Derived/Test/ToyasCard.lean, 'card_holds'). Laid BY PROGRAM, IN A SANDBOX (cutbox-door.mjs). By AI agents, Wed Nov 11 2026. No macro, syntax, notation, axiom, sorry.
-/
import Derived.Test.YtpakbdamggpneaaGreatDoorRows
import GoSem.ClaimSeven
namespace Go.Proofs.YtpakbdamggpneaaGreatDoor
namespace Rows

/-- THE TIED CARD OF 'laws.FnBookings'. -/
def fnBookingsCard : Claim7 := { stood := { row := fnBookingsRow, standIns := [], harness := (true, "90ffc88842415793b8bef2534730d10b4103c7c1e16ef54a296ef8eaddc469be"), looks := true }, kinds := [], alts := [], laidByText := true, laidKinds := [.data, .data, .data, .data, .sentinel, .sentinel, .pinned], laidTests := true, laidLooks := .later }
def FnBookingsCardSaid : Prop := Claim7.holds Tryz.pinned (.plain (OpenSpec.ofChange fnBookingsSpec)) fnBookingsCard

/-- THE TIED CARD OF 'laws.FnExactReadEntry'. -/
def fnExactReadEntryCard : Claim7 := { stood := { row := fnExactReadEntryRow, standIns := [], harness := (true, "90ffc88842415793b8bef2534730d10b4103c7c1e16ef54a296ef8eaddc469be"), looks := true }, kinds := [], alts := [], laidByText := true, laidKinds := [.data, .data, .data, .data, .sentinel, .sentinel, .pinned], laidTests := true, laidLooks := .later }
def FnExactReadEntryCardSaid : Prop := Claim7.holds Tryz.pinned (.plain (OpenSpec.ofChange fnExactReadEntrySpec)) fnExactReadEntryCard

/-- THE TIED CARD OF 'laws.FnExactReadCharacter'. -/
def fnExactReadCharacterCard : Claim7 := { stood := { row := fnExactReadCharacterRow, standIns := [], harness := (true, "90ffc88842415793b8bef2534730d10b4103c7c1e16ef54a296ef8eaddc469be"), looks := true }, kinds := [], alts := [], laidByText := true, laidKinds := [.data, .data, .data, .data, .sentinel, .sentinel, .pinned], laidTests := true, laidLooks := .later }
def FnExactReadCharacterCardSaid : Prop := Claim7.holds Tryz.pinned (.plain (OpenSpec.ofChange fnExactReadCharacterSpec)) fnExactReadCharacterCard

/-- THE TIED CARD OF 'laws.FnExactStandardLight'. -/
def fnExactStandardLightCard : Claim7 := { stood := { row := fnExactStandardLightRow, standIns := [], harness := (true, "90ffc88842415793b8bef2534730d10b4103c7c1e16ef54a296ef8eaddc469be"), looks := true }, kinds := [], alts := [], laidByText := true, laidKinds := [.data, .data, .data, .data, .sentinel, .sentinel, .pinned], laidTests := true, laidLooks := .later }
def FnExactStandardLightCardSaid : Prop := Claim7.holds Tryz.pinned (.plain (OpenSpec.ofChange fnExactStandardLightSpec)) fnExactStandardLightCard

/-- THE SECOND FORM's CARD OF 'laws.FnBookings'. -/
def fnBookingsUptoCard : Claim7 := { stood := { row := fnBookingsUptoRow, standIns := [], harness := (true, "90ffc88842415793b8bef2534730d10b4103c7c1e16ef54a296ef8eaddc469be"), looks := true }, kinds := [], alts := [], laidByText := true, laidKinds := [.data, .data, .data, .data, .sentinel, .sentinel, .pinned], laidTests := true, laidLooks := .later }
def FnBookingsUptoCardSaid : Prop := Claim7.holds Tryz.pinned (.plain (OpenSpec.upto fnBookingsSpec)) fnBookingsUptoCard

/-- THE SECOND FORM's CARD OF 'laws.FnExactReadEntry'. -/
def fnExactReadEntryUptoCard : Claim7 := { stood := { row := fnExactReadEntryUptoRow, standIns := [], harness := (true, "90ffc88842415793b8bef2534730d10b4103c7c1e16ef54a296ef8eaddc469be"), looks := true }, kinds := [], alts := [], laidByText := true, laidKinds := [.data, .data, .data, .data, .sentinel, .sentinel, .pinned], laidTests := true, laidLooks := .later }
def FnExactReadEntryUptoCardSaid : Prop := Claim7.holds Tryz.pinned (.plain (OpenSpec.upto fnExactReadEntrySpec)) fnExactReadEntryUptoCard

/-- THE SECOND FORM's CARD OF 'laws.FnExactReadCharacter'. -/
def fnExactReadCharacterUptoCard : Claim7 := { stood := { row := fnExactReadCharacterUptoRow, standIns := [], harness := (true, "90ffc88842415793b8bef2534730d10b4103c7c1e16ef54a296ef8eaddc469be"), looks := true }, kinds := [], alts := [], laidByText := true, laidKinds := [.data, .data, .data, .data, .sentinel, .sentinel, .pinned], laidTests := true, laidLooks := .later }
def FnExactReadCharacterUptoCardSaid : Prop := Claim7.holds Tryz.pinned (.plain (OpenSpec.upto fnExactReadCharacterSpec)) fnExactReadCharacterUptoCard

/-- THE SECOND FORM's CARD OF 'laws.FnExactStandardLight'. -/
def fnExactStandardLightUptoCard : Claim7 := { stood := { row := fnExactStandardLightUptoRow, standIns := [], harness := (true, "90ffc88842415793b8bef2534730d10b4103c7c1e16ef54a296ef8eaddc469be"), looks := true }, kinds := [], alts := [], laidByText := true, laidKinds := [.data, .data, .data, .data, .sentinel, .sentinel, .pinned], laidTests := true, laidLooks := .later }
def FnExactStandardLightUptoCardSaid : Prop := Claim7.holds Tryz.pinned (.plain (OpenSpec.upto fnExactStandardLightSpec)) fnExactStandardLightUptoCard
end Rows
end Go.Proofs.YtpakbdamggpneaaGreatDoor

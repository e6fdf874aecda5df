/-
  DERIVED. GIVEN WITH THE SEED: THE CARDS: each row of YtijmcongeemehaaGreatDoorRows.lean that lists a variable, with what it lists TIED to the program's text (the seventh form; the later family's looks); each row that meets fmt, with fmt's text TOLD by the authors' own Lean function (tested against real Go, not proved from fmt's source: count such statements apart). THE CARD IS WHAT COUNTS. Prove the row's statement (the work); the ties are given (YtijmcongeemehaaGreatDoorTie.lean); close each card by the builder's one call (the guide's Derived/Test/ToyasCard.lean, 'card_holds'). Laid BY PROGRAM, IN A SANDBOX (cutbox-door.mjs). By AI agents, Wed Nov 11 2026. No macro, syntax, notation, axiom, sorry.
-/
import Derived.Test.YtijmcongeemehaaGreatDoorRows
import GoSem.ClaimSeven
namespace Go.Proofs.YtijmcongeemehaaGreatDoor
namespace Rows

/-- THE TIED CARD OF 'laws.FnCurrent'. -/
def fnCurrentCard : Claim7 := { stood := { row := fnCurrentRow, standIns := [], harness := (true, "694e483db889bfd8912465a79991925c69b66d2a434d97dc844402fe0747de6c"), looks := true }, kinds := [], alts := [], laidByText := true, laidKinds := [.listed, .data], laidTests := true, laidLooks := .later }
def FnCurrentCardSaid : Prop := Claim7.holds Tryz.pinned (.plain (OpenSpec.ofChange fnCurrentSpec)) fnCurrentCard

/-- THE TIED CARD OF 'laws.FnExactAidText'. -/
def fnExactAidTextCard : Claim7 := { stood := { row := fnExactAidTextRow, standIns := [], harness := (true, "694e483db889bfd8912465a79991925c69b66d2a434d97dc844402fe0747de6c"), looks := true }, kinds := [], alts := [], laidByText := true, laidKinds := [.data, .data, .data, .listed, .data], laidTests := true, laidLooks := .later }
def FnExactAidTextCardSaid : Prop := Claim7.holds Tryz.pinned (.plain (OpenSpec.ofChange fnExactAidTextSpec)) fnExactAidTextCard

/-- THE TIED CARD OF 'laws.FnAids'. -/
def fnAidsCard : Claim7 := { stood := { row := fnAidsRow, standIns := [], harness := (true, "694e483db889bfd8912465a79991925c69b66d2a434d97dc844402fe0747de6c"), looks := true }, kinds := [], alts := [], laidByText := true, laidKinds := [.data, .data, .data, .data, .sentinel, .sentinel, .listed, .data, .pinned], laidTests := true, laidLooks := .later }
def FnAidsCardSaid : Prop := Claim7.holds Tryz.pinned (.plain (OpenSpec.ofChange fnAidsSpec)) fnAidsCard

/-- THE TIED CARD OF 'laws.FnExactReadEdition'. -/
def fnExactReadEditionCard : Claim7 := { stood := { row := fnExactReadEditionRow, standIns := [], harness := (true, "694e483db889bfd8912465a79991925c69b66d2a434d97dc844402fe0747de6c"), looks := true }, kinds := [], alts := [], laidByText := true, laidKinds := [.data, .data, .data, .data, .sentinel, .sentinel, .listed, .data, .pinned], laidTests := true, laidLooks := .later }
def FnExactReadEditionCardSaid : Prop := Claim7.holds Tryz.pinned (.plain (OpenSpec.ofChange fnExactReadEditionSpec)) fnExactReadEditionCard

/-- THE SECOND FORM's CARD OF 'laws.FnCurrent'. -/
def fnCurrentUptoCard : Claim7 := { stood := { row := fnCurrentUptoRow, standIns := [], harness := (true, "694e483db889bfd8912465a79991925c69b66d2a434d97dc844402fe0747de6c"), looks := true }, kinds := [], alts := [], laidByText := true, laidKinds := [.listed, .data], laidTests := true, laidLooks := .later }
def FnCurrentUptoCardSaid : Prop := Claim7.holds Tryz.pinned (.plain (OpenSpec.upto fnCurrentSpec)) fnCurrentUptoCard

/-- THE SECOND FORM's CARD OF 'laws.FnExactAidText'. -/
def fnExactAidTextUptoCard : Claim7 := { stood := { row := fnExactAidTextUptoRow, standIns := [], harness := (true, "694e483db889bfd8912465a79991925c69b66d2a434d97dc844402fe0747de6c"), looks := true }, kinds := [], alts := [], laidByText := true, laidKinds := [.data, .data, .data, .listed, .data], laidTests := true, laidLooks := .later }
def FnExactAidTextUptoCardSaid : Prop := Claim7.holds Tryz.pinned (.plain (OpenSpec.upto fnExactAidTextSpec)) fnExactAidTextUptoCard

/-- THE SECOND FORM's CARD OF 'laws.FnAids'. -/
def fnAidsUptoCard : Claim7 := { stood := { row := fnAidsUptoRow, standIns := [], harness := (true, "694e483db889bfd8912465a79991925c69b66d2a434d97dc844402fe0747de6c"), looks := true }, kinds := [], alts := [], laidByText := true, laidKinds := [.data, .data, .data, .data, .sentinel, .sentinel, .listed, .data, .pinned], laidTests := true, laidLooks := .later }
def FnAidsUptoCardSaid : Prop := Claim7.holds Tryz.pinned (.plain (OpenSpec.upto fnAidsSpec)) fnAidsUptoCard

/-- THE SECOND FORM's CARD OF 'laws.FnExactReadEdition'. -/
def fnExactReadEditionUptoCard : Claim7 := { stood := { row := fnExactReadEditionUptoRow, standIns := [], harness := (true, "694e483db889bfd8912465a79991925c69b66d2a434d97dc844402fe0747de6c"), looks := true }, kinds := [], alts := [], laidByText := true, laidKinds := [.data, .data, .data, .data, .sentinel, .sentinel, .listed, .data, .pinned], laidTests := true, laidLooks := .later }
def FnExactReadEditionUptoCardSaid : Prop := Claim7.holds Tryz.pinned (.plain (OpenSpec.upto fnExactReadEditionSpec)) fnExactReadEditionUptoCard
end Rows
end Go.Proofs.YtijmcongeemehaaGreatDoor

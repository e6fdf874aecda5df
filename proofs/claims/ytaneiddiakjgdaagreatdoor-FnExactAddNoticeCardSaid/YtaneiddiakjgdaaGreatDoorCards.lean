/-
  DERIVED. GIVEN WITH THE SEED: THE CARDS: each row of YtaneiddiakjgdaaGreatDoorRows.lean that lists a variable, with what it lists TIED to the program's text (the seventh form; the later family's looks); each row that meets fmt, with fmt's text TOLD by the authors' own Lean function (tested against real Go, not proved from fmt's source: count such statements apart). THE CARD IS WHAT COUNTS. Prove the row's statement (the work); the ties are given (YtaneiddiakjgdaaGreatDoorTie.lean); close each card by the builder's one call (the guide's Derived/Test/ToyasCard.lean, 'card_holds'). Laid BY PROGRAM, IN A SANDBOX (cutbox-door.mjs). By AI agents, Wed Nov 11 2026. No macro, syntax, notation, axiom, sorry.
-/
import Derived.Test.YtaneiddiakjgdaaGreatDoorRows
import GoSem.ClaimSeven
namespace Go.Proofs.YtaneiddiakjgdaaGreatDoor
namespace Rows

/-- THE TIED CARD OF 'laws.FnExactNoticesInForce'. -/
def fnExactNoticesInForceCard : Claim7 := { stood := { row := fnExactNoticesInForceRow, standIns := [], harness := (true, "d6af54a3a917bb184e30699038f9cb78981963691fef7f263228c7d6e135f74c"), looks := false }, kinds := [], alts := [], laidByText := true, laidKinds := [.listed, .data], laidTests := true, laidLooks := .later }
def FnExactNoticesInForceCardSaid : Prop := Claim7.holds Tryz.pinned (.plain (OpenSpec.ofChange fnExactNoticesInForceSpec)) fnExactNoticesInForceCard

/-- THE TIED CARD OF 'laws.FnExactDiffAids'. -/
def fnExactDiffAidsCard : Claim7 := { stood := { row := fnExactDiffAidsRow, standIns := [], harness := (true, "d6af54a3a917bb184e30699038f9cb78981963691fef7f263228c7d6e135f74c"), looks := false }, kinds := [], alts := [], laidByText := true, laidKinds := [.listed, .data], laidTests := true, laidLooks := .later }
def FnExactDiffAidsCardSaid : Prop := Claim7.holds Tryz.pinned (.plain (OpenSpec.ofChange fnExactDiffAidsSpec)) fnExactDiffAidsCard

/-- THE TIED CARD OF 'laws.FnExactAddAid'. -/
def fnExactAddAidCard : Claim7 := { stood := { row := fnExactAddAidRow, standIns := [], harness := (true, "d6af54a3a917bb184e30699038f9cb78981963691fef7f263228c7d6e135f74c"), looks := false }, kinds := [], alts := [], laidByText := true, laidKinds := [.listed, .data], laidTests := true, laidLooks := .later }
def FnExactAddAidCardSaid : Prop := Claim7.holds Tryz.pinned (.plain (OpenSpec.ofChange fnExactAddAidSpec)) fnExactAddAidCard

/-- THE TIED CARD OF 'laws.FnExactMergeAids'. -/
def fnExactMergeAidsCard : Claim7 := { stood := { row := fnExactMergeAidsRow, standIns := [], harness := (true, "d6af54a3a917bb184e30699038f9cb78981963691fef7f263228c7d6e135f74c"), looks := false }, kinds := [], alts := [], laidByText := true, laidKinds := [.listed, .data], laidTests := true, laidLooks := .later }
def FnExactMergeAidsCardSaid : Prop := Claim7.holds Tryz.pinned (.plain (OpenSpec.ofChange fnExactMergeAidsSpec)) fnExactMergeAidsCard

/-- THE TIED CARD OF 'laws.FnCurrent'. -/
def fnCurrentCard : Claim7 := { stood := { row := fnCurrentRow, standIns := [], harness := (true, "d6af54a3a917bb184e30699038f9cb78981963691fef7f263228c7d6e135f74c"), looks := false }, kinds := [], alts := [], laidByText := true, laidKinds := [.listed, .data], laidTests := true, laidLooks := .later }
def FnCurrentCardSaid : Prop := Claim7.holds Tryz.pinned (.plain (OpenSpec.ofChange fnCurrentSpec)) fnCurrentCard

/-- THE TIED CARD OF 'laws.FnExactAddNotice'. -/
def fnExactAddNoticeCard : Claim7 := { stood := { row := fnExactAddNoticeRow, standIns := [], harness := (true, "d6af54a3a917bb184e30699038f9cb78981963691fef7f263228c7d6e135f74c"), looks := false }, kinds := [], alts := [], laidByText := true, laidKinds := [.listed, .data], laidTests := true, laidLooks := .later }
def FnExactAddNoticeCardSaid : Prop := Claim7.holds Tryz.pinned (.plain (OpenSpec.ofChange fnExactAddNoticeSpec)) fnExactAddNoticeCard

/-- THE TIED CARD OF 'laws.FnExactFirstFault'. -/
def fnExactFirstFaultCard : Claim7 := { stood := { row := fnExactFirstFaultRow, standIns := [], harness := (true, "d6af54a3a917bb184e30699038f9cb78981963691fef7f263228c7d6e135f74c"), looks := false }, kinds := [], alts := [], laidByText := true, laidKinds := [.listed, .data], laidTests := true, laidLooks := .later }
def FnExactFirstFaultCardSaid : Prop := Claim7.holds Tryz.pinned (.plain (OpenSpec.ofChange fnExactFirstFaultSpec)) fnExactFirstFaultCard

/-- THE TIED CARD OF 'laws.FnExactPatchAids'. -/
def fnExactPatchAidsCard : Claim7 := { stood := { row := fnExactPatchAidsRow, standIns := [], harness := (true, "d6af54a3a917bb184e30699038f9cb78981963691fef7f263228c7d6e135f74c"), looks := false }, kinds := [], alts := [], laidByText := true, laidKinds := [.listed, .data], laidTests := true, laidLooks := .later }
def FnExactPatchAidsCardSaid : Prop := Claim7.holds Tryz.pinned (.plain (OpenSpec.ofChange fnExactPatchAidsSpec)) fnExactPatchAidsCard

/-- THE TIED CARD OF 'laws.FnExactCurrentList'. -/
def fnExactCurrentListCard : Claim7 := { stood := { row := fnExactCurrentListRow, standIns := [], harness := (true, "d6af54a3a917bb184e30699038f9cb78981963691fef7f263228c7d6e135f74c"), looks := false }, kinds := [], alts := [], laidByText := true, laidKinds := [.listed, .data], laidTests := true, laidLooks := .later }
def FnExactCurrentListCardSaid : Prop := Claim7.holds Tryz.pinned (.plain (OpenSpec.ofChange fnExactCurrentListSpec)) fnExactCurrentListCard

/-- THE TIED CARD OF 'laws.FnExactNextEdition'. -/
def fnExactNextEditionCard : Claim7 := { stood := { row := fnExactNextEditionRow, standIns := [], harness := (true, "d6af54a3a917bb184e30699038f9cb78981963691fef7f263228c7d6e135f74c"), looks := false }, kinds := [], alts := [], laidByText := true, laidKinds := [.listed, .data], laidTests := true, laidLooks := .later }
def FnExactNextEditionCardSaid : Prop := Claim7.holds Tryz.pinned (.plain (OpenSpec.ofChange fnExactNextEditionSpec)) fnExactNextEditionCard

/-- THE SECOND FORM's CARD OF 'laws.FnExactNoticesInForce'. -/
def fnExactNoticesInForceUptoCard : Claim7 := { stood := { row := fnExactNoticesInForceUptoRow, standIns := [], harness := (true, "d6af54a3a917bb184e30699038f9cb78981963691fef7f263228c7d6e135f74c"), looks := false }, kinds := [], alts := [], laidByText := true, laidKinds := [.listed, .data], laidTests := true, laidLooks := .later }
def FnExactNoticesInForceUptoCardSaid : Prop := Claim7.holds Tryz.pinned (.plain (OpenSpec.upto fnExactNoticesInForceSpec)) fnExactNoticesInForceUptoCard

/-- THE SECOND FORM's CARD OF 'laws.FnExactDiffAids'. -/
def fnExactDiffAidsUptoCard : Claim7 := { stood := { row := fnExactDiffAidsUptoRow, standIns := [], harness := (true, "d6af54a3a917bb184e30699038f9cb78981963691fef7f263228c7d6e135f74c"), looks := false }, kinds := [], alts := [], laidByText := true, laidKinds := [.listed, .data], laidTests := true, laidLooks := .later }
def FnExactDiffAidsUptoCardSaid : Prop := Claim7.holds Tryz.pinned (.plain (OpenSpec.upto fnExactDiffAidsSpec)) fnExactDiffAidsUptoCard

/-- THE SECOND FORM's CARD OF 'laws.FnExactAddAid'. -/
def fnExactAddAidUptoCard : Claim7 := { stood := { row := fnExactAddAidUptoRow, standIns := [], harness := (true, "d6af54a3a917bb184e30699038f9cb78981963691fef7f263228c7d6e135f74c"), looks := false }, kinds := [], alts := [], laidByText := true, laidKinds := [.listed, .data], laidTests := true, laidLooks := .later }
def FnExactAddAidUptoCardSaid : Prop := Claim7.holds Tryz.pinned (.plain (OpenSpec.upto fnExactAddAidSpec)) fnExactAddAidUptoCard

/-- THE SECOND FORM's CARD OF 'laws.FnExactMergeAids'. -/
def fnExactMergeAidsUptoCard : Claim7 := { stood := { row := fnExactMergeAidsUptoRow, standIns := [], harness := (true, "d6af54a3a917bb184e30699038f9cb78981963691fef7f263228c7d6e135f74c"), looks := false }, kinds := [], alts := [], laidByText := true, laidKinds := [.listed, .data], laidTests := true, laidLooks := .later }
def FnExactMergeAidsUptoCardSaid : Prop := Claim7.holds Tryz.pinned (.plain (OpenSpec.upto fnExactMergeAidsSpec)) fnExactMergeAidsUptoCard

/-- THE SECOND FORM's CARD OF 'laws.FnCurrent'. -/
def fnCurrentUptoCard : Claim7 := { stood := { row := fnCurrentUptoRow, standIns := [], harness := (true, "d6af54a3a917bb184e30699038f9cb78981963691fef7f263228c7d6e135f74c"), looks := false }, kinds := [], alts := [], laidByText := true, laidKinds := [.listed, .data], laidTests := true, laidLooks := .later }
def FnCurrentUptoCardSaid : Prop := Claim7.holds Tryz.pinned (.plain (OpenSpec.upto fnCurrentSpec)) fnCurrentUptoCard

/-- THE SECOND FORM's CARD OF 'laws.FnExactAddNotice'. -/
def fnExactAddNoticeUptoCard : Claim7 := { stood := { row := fnExactAddNoticeUptoRow, standIns := [], harness := (true, "d6af54a3a917bb184e30699038f9cb78981963691fef7f263228c7d6e135f74c"), looks := false }, kinds := [], alts := [], laidByText := true, laidKinds := [.listed, .data], laidTests := true, laidLooks := .later }
def FnExactAddNoticeUptoCardSaid : Prop := Claim7.holds Tryz.pinned (.plain (OpenSpec.upto fnExactAddNoticeSpec)) fnExactAddNoticeUptoCard

/-- THE SECOND FORM's CARD OF 'laws.FnExactFirstFault'. -/
def fnExactFirstFaultUptoCard : Claim7 := { stood := { row := fnExactFirstFaultUptoRow, standIns := [], harness := (true, "d6af54a3a917bb184e30699038f9cb78981963691fef7f263228c7d6e135f74c"), looks := false }, kinds := [], alts := [], laidByText := true, laidKinds := [.listed, .data], laidTests := true, laidLooks := .later }
def FnExactFirstFaultUptoCardSaid : Prop := Claim7.holds Tryz.pinned (.plain (OpenSpec.upto fnExactFirstFaultSpec)) fnExactFirstFaultUptoCard

/-- THE SECOND FORM's CARD OF 'laws.FnExactPatchAids'. -/
def fnExactPatchAidsUptoCard : Claim7 := { stood := { row := fnExactPatchAidsUptoRow, standIns := [], harness := (true, "d6af54a3a917bb184e30699038f9cb78981963691fef7f263228c7d6e135f74c"), looks := false }, kinds := [], alts := [], laidByText := true, laidKinds := [.listed, .data], laidTests := true, laidLooks := .later }
def FnExactPatchAidsUptoCardSaid : Prop := Claim7.holds Tryz.pinned (.plain (OpenSpec.upto fnExactPatchAidsSpec)) fnExactPatchAidsUptoCard

/-- THE SECOND FORM's CARD OF 'laws.FnExactCurrentList'. -/
def fnExactCurrentListUptoCard : Claim7 := { stood := { row := fnExactCurrentListUptoRow, standIns := [], harness := (true, "d6af54a3a917bb184e30699038f9cb78981963691fef7f263228c7d6e135f74c"), looks := false }, kinds := [], alts := [], laidByText := true, laidKinds := [.listed, .data], laidTests := true, laidLooks := .later }
def FnExactCurrentListUptoCardSaid : Prop := Claim7.holds Tryz.pinned (.plain (OpenSpec.upto fnExactCurrentListSpec)) fnExactCurrentListUptoCard

/-- THE SECOND FORM's CARD OF 'laws.FnExactNextEdition'. -/
def fnExactNextEditionUptoCard : Claim7 := { stood := { row := fnExactNextEditionUptoRow, standIns := [], harness := (true, "d6af54a3a917bb184e30699038f9cb78981963691fef7f263228c7d6e135f74c"), looks := false }, kinds := [], alts := [], laidByText := true, laidKinds := [.listed, .data], laidTests := true, laidLooks := .later }
def FnExactNextEditionUptoCardSaid : Prop := Claim7.holds Tryz.pinned (.plain (OpenSpec.upto fnExactNextEditionSpec)) fnExactNextEditionUptoCard
end Rows
end Go.Proofs.YtaneiddiakjgdaaGreatDoor

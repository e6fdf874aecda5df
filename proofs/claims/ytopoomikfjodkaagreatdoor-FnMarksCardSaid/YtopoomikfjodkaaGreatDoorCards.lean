/-
  DERIVED. GIVEN WITH THE SEED: THE CARDS: each row of YtopoomikfjodkaaGreatDoorRows.lean that lists a variable, with what it lists TIED to the program's text (the seventh form; the later family's looks); each row that meets fmt, with fmt's text TOLD by the authors' own Lean function (tested against real Go, not proved from fmt's source: count such statements apart). THE CARD IS WHAT COUNTS. Prove the row's statement (the work); the ties are given (YtopoomikfjodkaaGreatDoorTie.lean); close each card by the builder's one call (the guide's Derived/Test/ToyasCard.lean, 'card_holds'). Laid BY PROGRAM, IN A SANDBOX (cutbox-door.mjs). By AI agents, Wed Nov 11 2026. No macro, syntax, notation, axiom, sorry.
-/
import Derived.Test.YtopoomikfjodkaaGreatDoorRows
import GoSem.ClaimSeven
namespace Go.Proofs.YtopoomikfjodkaaGreatDoor
namespace Rows

/-- THE TIED CARD OF 'laws.FnMarks'. -/
def fnMarksCard : Claim7 := { stood := { row := fnMarksRow, standIns := [], harness := (true, "44bbc1f91798c7a2608cebd17ec99917ccb7a2d5065b38a46d91a9116be96838"), looks := true }, kinds := [], alts := [], laidByText := true, laidKinds := [.data, .data, .data, .data, .sentinel, .sentinel, .listed, .data, .pinned], laidTests := true, laidLooks := .later }
def FnMarksCardSaid : Prop := Claim7.holds Tryz.pinned (.plain (OpenSpec.ofChange fnMarksSpec)) fnMarksCard

/-- THE TIED CARD OF 'laws.FnExactAidText'. -/
def fnExactAidTextCard : Claim7 := { stood := { row := fnExactAidTextRow, standIns := [], harness := (true, "44bbc1f91798c7a2608cebd17ec99917ccb7a2d5065b38a46d91a9116be96838"), looks := true }, kinds := [], alts := [], laidByText := true, laidKinds := [.data, .data, .data, .listed, .data], laidTests := true, laidLooks := .later }
def FnExactAidTextCardSaid : Prop := Claim7.holds Tryz.pinned (.plain (OpenSpec.ofChange fnExactAidTextSpec)) fnExactAidTextCard

/-- THE TIED CARD OF 'laws.FnExactItemsOfAids'. -/
def fnExactItemsOfAidsCard : Claim7 := { stood := { row := fnExactItemsOfAidsRow, standIns := [], harness := (true, "44bbc1f91798c7a2608cebd17ec99917ccb7a2d5065b38a46d91a9116be96838"), looks := true }, kinds := [], alts := [], laidByText := true, laidKinds := [.data, .data, .data, .listed, .data], laidTests := true, laidLooks := .later }
def FnExactItemsOfAidsCardSaid : Prop := Claim7.holds Tryz.pinned (.plain (OpenSpec.ofChange fnExactItemsOfAidsSpec)) fnExactItemsOfAidsCard

/-- THE TIED CARD OF 'laws.FnExactNoticeText'. -/
def fnExactNoticeTextCard : Claim7 := { stood := { row := fnExactNoticeTextRow, standIns := [], harness := (true, "44bbc1f91798c7a2608cebd17ec99917ccb7a2d5065b38a46d91a9116be96838"), looks := true }, kinds := [], alts := [], laidByText := true, laidKinds := [.data, .data, .data, .listed, .data], laidTests := true, laidLooks := .later }
def FnExactNoticeTextCardSaid : Prop := Claim7.holds Tryz.pinned (.plain (OpenSpec.ofChange fnExactNoticeTextSpec)) fnExactNoticeTextCard

/-- THE TIED CARD OF 'laws.FnExactEditionText'. -/
def fnExactEditionTextCard : Claim7 := { stood := { row := fnExactEditionTextRow, standIns := [], harness := (true, "44bbc1f91798c7a2608cebd17ec99917ccb7a2d5065b38a46d91a9116be96838"), looks := true }, kinds := [], alts := [], laidByText := true, laidKinds := [.data, .data, .data, .listed, .data], laidTests := true, laidLooks := .later }
def FnExactEditionTextCardSaid : Prop := Claim7.holds Tryz.pinned (.plain (OpenSpec.ofChange fnExactEditionTextSpec)) fnExactEditionTextCard

/-- THE TIED CARD OF 'laws.FnExactReadAid'. -/
def fnExactReadAidCard : Claim7 := { stood := { row := fnExactReadAidRow, standIns := [], harness := (true, "44bbc1f91798c7a2608cebd17ec99917ccb7a2d5065b38a46d91a9116be96838"), looks := true }, kinds := [], alts := [], laidByText := true, laidKinds := [.data, .data, .data, .data, .sentinel, .sentinel, .listed, .data, .pinned], laidTests := true, laidLooks := .later }
def FnExactReadAidCardSaid : Prop := Claim7.holds Tryz.pinned (.plain (OpenSpec.ofChange fnExactReadAidSpec)) fnExactReadAidCard

/-- THE TIED CARD OF 'laws.FnAids'. -/
def fnAidsCard : Claim7 := { stood := { row := fnAidsRow, standIns := [], harness := (true, "44bbc1f91798c7a2608cebd17ec99917ccb7a2d5065b38a46d91a9116be96838"), looks := true }, kinds := [], alts := [], laidByText := true, laidKinds := [.data, .data, .data, .data, .sentinel, .sentinel, .listed, .data, .pinned], laidTests := true, laidLooks := .later }
def FnAidsCardSaid : Prop := Claim7.holds Tryz.pinned (.plain (OpenSpec.ofChange fnAidsSpec)) fnAidsCard

/-- THE TIED CARD OF 'laws.FnExactAidsOfItems'. -/
def fnExactAidsOfItemsCard : Claim7 := { stood := { row := fnExactAidsOfItemsRow, standIns := [], harness := (true, "44bbc1f91798c7a2608cebd17ec99917ccb7a2d5065b38a46d91a9116be96838"), looks := true }, kinds := [], alts := [], laidByText := true, laidKinds := [.data, .data, .data, .data, .sentinel, .sentinel, .listed, .data, .pinned], laidTests := true, laidLooks := .later }
def FnExactAidsOfItemsCardSaid : Prop := Claim7.holds Tryz.pinned (.plain (OpenSpec.ofChange fnExactAidsOfItemsSpec)) fnExactAidsOfItemsCard

/-- THE TIED CARD OF 'laws.FnExactReadNotice'. -/
def fnExactReadNoticeCard : Claim7 := { stood := { row := fnExactReadNoticeRow, standIns := [], harness := (true, "44bbc1f91798c7a2608cebd17ec99917ccb7a2d5065b38a46d91a9116be96838"), looks := true }, kinds := [], alts := [], laidByText := true, laidKinds := [.data, .data, .data, .data, .sentinel, .sentinel, .listed, .data, .pinned], laidTests := true, laidLooks := .later }
def FnExactReadNoticeCardSaid : Prop := Claim7.holds Tryz.pinned (.plain (OpenSpec.ofChange fnExactReadNoticeSpec)) fnExactReadNoticeCard

/-- THE TIED CARD OF 'laws.FnExactReadEdition'. -/
def fnExactReadEditionCard : Claim7 := { stood := { row := fnExactReadEditionRow, standIns := [], harness := (true, "44bbc1f91798c7a2608cebd17ec99917ccb7a2d5065b38a46d91a9116be96838"), looks := true }, kinds := [], alts := [], laidByText := true, laidKinds := [.data, .data, .data, .data, .sentinel, .sentinel, .listed, .data, .pinned], laidTests := true, laidLooks := .later }
def FnExactReadEditionCardSaid : Prop := Claim7.holds Tryz.pinned (.plain (OpenSpec.ofChange fnExactReadEditionSpec)) fnExactReadEditionCard

/-- THE SECOND FORM's CARD OF 'laws.FnMarks'. -/
def fnMarksUptoCard : Claim7 := { stood := { row := fnMarksUptoRow, standIns := [], harness := (true, "44bbc1f91798c7a2608cebd17ec99917ccb7a2d5065b38a46d91a9116be96838"), looks := true }, kinds := [], alts := [], laidByText := true, laidKinds := [.data, .data, .data, .data, .sentinel, .sentinel, .listed, .data, .pinned], laidTests := true, laidLooks := .later }
def FnMarksUptoCardSaid : Prop := Claim7.holds Tryz.pinned (.plain (OpenSpec.upto fnMarksSpec)) fnMarksUptoCard

/-- THE SECOND FORM's CARD OF 'laws.FnExactAidText'. -/
def fnExactAidTextUptoCard : Claim7 := { stood := { row := fnExactAidTextUptoRow, standIns := [], harness := (true, "44bbc1f91798c7a2608cebd17ec99917ccb7a2d5065b38a46d91a9116be96838"), looks := true }, kinds := [], alts := [], laidByText := true, laidKinds := [.data, .data, .data, .listed, .data], laidTests := true, laidLooks := .later }
def FnExactAidTextUptoCardSaid : Prop := Claim7.holds Tryz.pinned (.plain (OpenSpec.upto fnExactAidTextSpec)) fnExactAidTextUptoCard

/-- THE SECOND FORM's CARD OF 'laws.FnExactItemsOfAids'. -/
def fnExactItemsOfAidsUptoCard : Claim7 := { stood := { row := fnExactItemsOfAidsUptoRow, standIns := [], harness := (true, "44bbc1f91798c7a2608cebd17ec99917ccb7a2d5065b38a46d91a9116be96838"), looks := true }, kinds := [], alts := [], laidByText := true, laidKinds := [.data, .data, .data, .listed, .data], laidTests := true, laidLooks := .later }
def FnExactItemsOfAidsUptoCardSaid : Prop := Claim7.holds Tryz.pinned (.plain (OpenSpec.upto fnExactItemsOfAidsSpec)) fnExactItemsOfAidsUptoCard

/-- THE SECOND FORM's CARD OF 'laws.FnExactNoticeText'. -/
def fnExactNoticeTextUptoCard : Claim7 := { stood := { row := fnExactNoticeTextUptoRow, standIns := [], harness := (true, "44bbc1f91798c7a2608cebd17ec99917ccb7a2d5065b38a46d91a9116be96838"), looks := true }, kinds := [], alts := [], laidByText := true, laidKinds := [.data, .data, .data, .listed, .data], laidTests := true, laidLooks := .later }
def FnExactNoticeTextUptoCardSaid : Prop := Claim7.holds Tryz.pinned (.plain (OpenSpec.upto fnExactNoticeTextSpec)) fnExactNoticeTextUptoCard

/-- THE SECOND FORM's CARD OF 'laws.FnExactEditionText'. -/
def fnExactEditionTextUptoCard : Claim7 := { stood := { row := fnExactEditionTextUptoRow, standIns := [], harness := (true, "44bbc1f91798c7a2608cebd17ec99917ccb7a2d5065b38a46d91a9116be96838"), looks := true }, kinds := [], alts := [], laidByText := true, laidKinds := [.data, .data, .data, .listed, .data], laidTests := true, laidLooks := .later }
def FnExactEditionTextUptoCardSaid : Prop := Claim7.holds Tryz.pinned (.plain (OpenSpec.upto fnExactEditionTextSpec)) fnExactEditionTextUptoCard

/-- THE SECOND FORM's CARD OF 'laws.FnExactReadAid'. -/
def fnExactReadAidUptoCard : Claim7 := { stood := { row := fnExactReadAidUptoRow, standIns := [], harness := (true, "44bbc1f91798c7a2608cebd17ec99917ccb7a2d5065b38a46d91a9116be96838"), looks := true }, kinds := [], alts := [], laidByText := true, laidKinds := [.data, .data, .data, .data, .sentinel, .sentinel, .listed, .data, .pinned], laidTests := true, laidLooks := .later }
def FnExactReadAidUptoCardSaid : Prop := Claim7.holds Tryz.pinned (.plain (OpenSpec.upto fnExactReadAidSpec)) fnExactReadAidUptoCard

/-- THE SECOND FORM's CARD OF 'laws.FnAids'. -/
def fnAidsUptoCard : Claim7 := { stood := { row := fnAidsUptoRow, standIns := [], harness := (true, "44bbc1f91798c7a2608cebd17ec99917ccb7a2d5065b38a46d91a9116be96838"), looks := true }, kinds := [], alts := [], laidByText := true, laidKinds := [.data, .data, .data, .data, .sentinel, .sentinel, .listed, .data, .pinned], laidTests := true, laidLooks := .later }
def FnAidsUptoCardSaid : Prop := Claim7.holds Tryz.pinned (.plain (OpenSpec.upto fnAidsSpec)) fnAidsUptoCard

/-- THE SECOND FORM's CARD OF 'laws.FnExactAidsOfItems'. -/
def fnExactAidsOfItemsUptoCard : Claim7 := { stood := { row := fnExactAidsOfItemsUptoRow, standIns := [], harness := (true, "44bbc1f91798c7a2608cebd17ec99917ccb7a2d5065b38a46d91a9116be96838"), looks := true }, kinds := [], alts := [], laidByText := true, laidKinds := [.data, .data, .data, .data, .sentinel, .sentinel, .listed, .data, .pinned], laidTests := true, laidLooks := .later }
def FnExactAidsOfItemsUptoCardSaid : Prop := Claim7.holds Tryz.pinned (.plain (OpenSpec.upto fnExactAidsOfItemsSpec)) fnExactAidsOfItemsUptoCard

/-- THE SECOND FORM's CARD OF 'laws.FnExactReadNotice'. -/
def fnExactReadNoticeUptoCard : Claim7 := { stood := { row := fnExactReadNoticeUptoRow, standIns := [], harness := (true, "44bbc1f91798c7a2608cebd17ec99917ccb7a2d5065b38a46d91a9116be96838"), looks := true }, kinds := [], alts := [], laidByText := true, laidKinds := [.data, .data, .data, .data, .sentinel, .sentinel, .listed, .data, .pinned], laidTests := true, laidLooks := .later }
def FnExactReadNoticeUptoCardSaid : Prop := Claim7.holds Tryz.pinned (.plain (OpenSpec.upto fnExactReadNoticeSpec)) fnExactReadNoticeUptoCard

/-- THE SECOND FORM's CARD OF 'laws.FnExactReadEdition'. -/
def fnExactReadEditionUptoCard : Claim7 := { stood := { row := fnExactReadEditionUptoRow, standIns := [], harness := (true, "44bbc1f91798c7a2608cebd17ec99917ccb7a2d5065b38a46d91a9116be96838"), looks := true }, kinds := [], alts := [], laidByText := true, laidKinds := [.data, .data, .data, .data, .sentinel, .sentinel, .listed, .data, .pinned], laidTests := true, laidLooks := .later }
def FnExactReadEditionUptoCardSaid : Prop := Claim7.holds Tryz.pinned (.plain (OpenSpec.upto fnExactReadEditionSpec)) fnExactReadEditionUptoCard
end Rows
end Go.Proofs.YtopoomikfjodkaaGreatDoor

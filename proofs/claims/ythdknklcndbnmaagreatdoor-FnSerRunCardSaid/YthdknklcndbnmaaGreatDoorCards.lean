/-
  DERIVED. GIVEN WITH THE SEED: THE CARDS: each row of YthdknklcndbnmaaGreatDoorRows.lean that lists a variable, with what it lists TIED to the program's text (the seventh form; the later family's looks); each row that meets fmt, with fmt's text TOLD by the authors' own Lean function (tested against real Go, not proved from fmt's source: count such statements apart). THE CARD IS WHAT COUNTS. Prove the row's statement (the work); the ties are given (YthdknklcndbnmaaGreatDoorTie.lean); close each card by the builder's one call (the guide's Derived/Test/ToyasCard.lean, 'card_holds'). Laid BY PROGRAM, IN A SANDBOX (cutbox-door.mjs). By AI agents, Wed Nov 11 2026. No macro, syntax, notation, axiom, sorry.
-/
import Derived.Test.YthdknklcndbnmaaGreatDoorRows
import GoSem.ClaimSeven
namespace Go.Proofs.YthdknklcndbnmaaGreatDoor
namespace Rows

/-- THE TIED CARD OF 'laws.FnSerRun'. -/
def fnSerRunCard : Claim7 := { stood := { row := fnSerRunRow, standIns := [], harness := (true, "62287cf8555a4861e086adce39b68735ddc80fa4618d596f1031ee0187a5623a"), looks := false }, kinds := [], alts := [], laidByText := true, laidKinds := [.data, .data, .data], laidTests := true, laidLooks := .later }
def FnSerRunCardSaid : Prop := Claim7.holds Tryz.pinned (.plain (OpenSpec.ofChange fnSerRunSpec)) fnSerRunCard

/-- THE TIED CARD OF 'laws.FnWldNew'. -/
def fnWldNewCard : Claim7 := { stood := { row := fnWldNewRow, standIns := [], harness := (true, "62287cf8555a4861e086adce39b68735ddc80fa4618d596f1031ee0187a5623a"), looks := false }, kinds := [], alts := [], laidByText := true, laidKinds := [.data, .data, .data], laidTests := true, laidLooks := .later }
def FnWldNewCardSaid : Prop := Claim7.holds Tryz.pinned (.plain (OpenSpec.ofChange fnWldNewSpec)) fnWldNewCard

/-- THE TIED CARD OF 'laws.FnClkFold'. -/
def fnClkFoldCard : Claim7 := { stood := { row := fnClkFoldRow, standIns := [], harness := (true, "62287cf8555a4861e086adce39b68735ddc80fa4618d596f1031ee0187a5623a"), looks := false }, kinds := [], alts := [], laidByText := true, laidKinds := [.data, .data, .data], laidTests := true, laidLooks := .later }
def FnClkFoldCardSaid : Prop := Claim7.holds Tryz.pinned (.plain (OpenSpec.ofChange fnClkFoldSpec)) fnClkFoldCard

/-- THE TIED CARD OF 'laws.FnMsgOk'. -/
def fnMsgOkCard : Claim7 := { stood := { row := fnMsgOkRow, standIns := [], harness := (true, "62287cf8555a4861e086adce39b68735ddc80fa4618d596f1031ee0187a5623a"), looks := false }, kinds := [], alts := [], laidByText := true, laidKinds := [.data, .data, .data], laidTests := true, laidLooks := .later }
def FnMsgOkCardSaid : Prop := Claim7.holds Tryz.pinned (.plain (OpenSpec.ofChange fnMsgOkSpec)) fnMsgOkCard

/-- THE TIED CARD OF 'laws.FnSitFree'. -/
def fnSitFreeCard : Claim7 := { stood := { row := fnSitFreeRow, standIns := [], harness := (true, "62287cf8555a4861e086adce39b68735ddc80fa4618d596f1031ee0187a5623a"), looks := false }, kinds := [], alts := [], laidByText := true, laidKinds := [.data, .data, .data], laidTests := true, laidLooks := .later }
def FnSitFreeCardSaid : Prop := Claim7.holds Tryz.pinned (.plain (OpenSpec.ofChange fnSitFreeSpec)) fnSitFreeCard

/-- THE TIED CARD OF 'laws.FnWldVals'. -/
def fnWldValsCard : Claim7 := { stood := { row := fnWldValsRow, standIns := [], harness := (true, "62287cf8555a4861e086adce39b68735ddc80fa4618d596f1031ee0187a5623a"), looks := false }, kinds := [], alts := [], laidByText := true, laidKinds := [.data, .data, .data], laidTests := true, laidLooks := .later }
def FnWldValsCardSaid : Prop := Claim7.holds Tryz.pinned (.plain (OpenSpec.ofChange fnWldValsSpec)) fnWldValsCard

/-- THE TIED CARD OF 'laws.FnSerSame'. -/
def fnSerSameCard : Claim7 := { stood := { row := fnSerSameRow, standIns := [], harness := (true, "62287cf8555a4861e086adce39b68735ddc80fa4618d596f1031ee0187a5623a"), looks := false }, kinds := [], alts := [], laidByText := true, laidKinds := [.data, .data, .data], laidTests := true, laidLooks := .later }
def FnSerSameCardSaid : Prop := Claim7.holds Tryz.pinned (.plain (OpenSpec.ofChange fnSerSameSpec)) fnSerSameCard

/-- THE TIED CARD OF 'laws.FnSitFrozen'. -/
def fnSitFrozenCard : Claim7 := { stood := { row := fnSitFrozenRow, standIns := [], harness := (true, "62287cf8555a4861e086adce39b68735ddc80fa4618d596f1031ee0187a5623a"), looks := false }, kinds := [], alts := [], laidByText := true, laidKinds := [.data, .data, .data], laidTests := true, laidLooks := .later }
def FnSitFrozenCardSaid : Prop := Claim7.holds Tryz.pinned (.plain (OpenSpec.ofChange fnSitFrozenSpec)) fnSitFrozenCard

/-- THE TIED CARD OF 'laws.FnClkHear'. -/
def fnClkHearCard : Claim7 := { stood := { row := fnClkHearRow, standIns := [], harness := (true, "62287cf8555a4861e086adce39b68735ddc80fa4618d596f1031ee0187a5623a"), looks := false }, kinds := [], alts := [], laidByText := true, laidKinds := [.data, .data, .data], laidTests := true, laidLooks := .later }
def FnClkHearCardSaid : Prop := Claim7.holds Tryz.pinned (.plain (OpenSpec.ofChange fnClkHearSpec)) fnClkHearCard

/-- THE TIED CARD OF 'laws.FnWldStays'. -/
def fnWldStaysCard : Claim7 := { stood := { row := fnWldStaysRow, standIns := [], harness := (true, "62287cf8555a4861e086adce39b68735ddc80fa4618d596f1031ee0187a5623a"), looks := false }, kinds := [], alts := [], laidByText := true, laidKinds := [.data, .data, .data], laidTests := true, laidLooks := .later }
def FnWldStaysCardSaid : Prop := Claim7.holds Tryz.pinned (.plain (OpenSpec.ofChange fnWldStaysSpec)) fnWldStaysCard

/-- THE TIED CARD OF 'laws.FnCalmRest'. -/
def fnCalmRestCard : Claim7 := { stood := { row := fnCalmRestRow, standIns := [], harness := (true, "62287cf8555a4861e086adce39b68735ddc80fa4618d596f1031ee0187a5623a"), looks := false }, kinds := [], alts := [], laidByText := true, laidKinds := [.data, .data, .data], laidTests := true, laidLooks := .later }
def FnCalmRestCardSaid : Prop := Claim7.holds Tryz.pinned (.plain (OpenSpec.ofChange fnCalmRestSpec)) fnCalmRestCard

/-- THE SECOND FORM's CARD OF 'laws.FnSerRun'. -/
def fnSerRunUptoCard : Claim7 := { stood := { row := fnSerRunUptoRow, standIns := [], harness := (true, "62287cf8555a4861e086adce39b68735ddc80fa4618d596f1031ee0187a5623a"), looks := false }, kinds := [], alts := [], laidByText := true, laidKinds := [.data, .data, .data], laidTests := true, laidLooks := .later }
def FnSerRunUptoCardSaid : Prop := Claim7.holds Tryz.pinned (.plain (OpenSpec.upto fnSerRunSpec)) fnSerRunUptoCard

/-- THE SECOND FORM's CARD OF 'laws.FnWldNew'. -/
def fnWldNewUptoCard : Claim7 := { stood := { row := fnWldNewUptoRow, standIns := [], harness := (true, "62287cf8555a4861e086adce39b68735ddc80fa4618d596f1031ee0187a5623a"), looks := false }, kinds := [], alts := [], laidByText := true, laidKinds := [.data, .data, .data], laidTests := true, laidLooks := .later }
def FnWldNewUptoCardSaid : Prop := Claim7.holds Tryz.pinned (.plain (OpenSpec.upto fnWldNewSpec)) fnWldNewUptoCard

/-- THE SECOND FORM's CARD OF 'laws.FnClkFold'. -/
def fnClkFoldUptoCard : Claim7 := { stood := { row := fnClkFoldUptoRow, standIns := [], harness := (true, "62287cf8555a4861e086adce39b68735ddc80fa4618d596f1031ee0187a5623a"), looks := false }, kinds := [], alts := [], laidByText := true, laidKinds := [.data, .data, .data], laidTests := true, laidLooks := .later }
def FnClkFoldUptoCardSaid : Prop := Claim7.holds Tryz.pinned (.plain (OpenSpec.upto fnClkFoldSpec)) fnClkFoldUptoCard

/-- THE SECOND FORM's CARD OF 'laws.FnMsgOk'. -/
def fnMsgOkUptoCard : Claim7 := { stood := { row := fnMsgOkUptoRow, standIns := [], harness := (true, "62287cf8555a4861e086adce39b68735ddc80fa4618d596f1031ee0187a5623a"), looks := false }, kinds := [], alts := [], laidByText := true, laidKinds := [.data, .data, .data], laidTests := true, laidLooks := .later }
def FnMsgOkUptoCardSaid : Prop := Claim7.holds Tryz.pinned (.plain (OpenSpec.upto fnMsgOkSpec)) fnMsgOkUptoCard

/-- THE SECOND FORM's CARD OF 'laws.FnSitFree'. -/
def fnSitFreeUptoCard : Claim7 := { stood := { row := fnSitFreeUptoRow, standIns := [], harness := (true, "62287cf8555a4861e086adce39b68735ddc80fa4618d596f1031ee0187a5623a"), looks := false }, kinds := [], alts := [], laidByText := true, laidKinds := [.data, .data, .data], laidTests := true, laidLooks := .later }
def FnSitFreeUptoCardSaid : Prop := Claim7.holds Tryz.pinned (.plain (OpenSpec.upto fnSitFreeSpec)) fnSitFreeUptoCard

/-- THE SECOND FORM's CARD OF 'laws.FnWldVals'. -/
def fnWldValsUptoCard : Claim7 := { stood := { row := fnWldValsUptoRow, standIns := [], harness := (true, "62287cf8555a4861e086adce39b68735ddc80fa4618d596f1031ee0187a5623a"), looks := false }, kinds := [], alts := [], laidByText := true, laidKinds := [.data, .data, .data], laidTests := true, laidLooks := .later }
def FnWldValsUptoCardSaid : Prop := Claim7.holds Tryz.pinned (.plain (OpenSpec.upto fnWldValsSpec)) fnWldValsUptoCard

/-- THE SECOND FORM's CARD OF 'laws.FnSerSame'. -/
def fnSerSameUptoCard : Claim7 := { stood := { row := fnSerSameUptoRow, standIns := [], harness := (true, "62287cf8555a4861e086adce39b68735ddc80fa4618d596f1031ee0187a5623a"), looks := false }, kinds := [], alts := [], laidByText := true, laidKinds := [.data, .data, .data], laidTests := true, laidLooks := .later }
def FnSerSameUptoCardSaid : Prop := Claim7.holds Tryz.pinned (.plain (OpenSpec.upto fnSerSameSpec)) fnSerSameUptoCard

/-- THE SECOND FORM's CARD OF 'laws.FnSitFrozen'. -/
def fnSitFrozenUptoCard : Claim7 := { stood := { row := fnSitFrozenUptoRow, standIns := [], harness := (true, "62287cf8555a4861e086adce39b68735ddc80fa4618d596f1031ee0187a5623a"), looks := false }, kinds := [], alts := [], laidByText := true, laidKinds := [.data, .data, .data], laidTests := true, laidLooks := .later }
def FnSitFrozenUptoCardSaid : Prop := Claim7.holds Tryz.pinned (.plain (OpenSpec.upto fnSitFrozenSpec)) fnSitFrozenUptoCard

/-- THE SECOND FORM's CARD OF 'laws.FnClkHear'. -/
def fnClkHearUptoCard : Claim7 := { stood := { row := fnClkHearUptoRow, standIns := [], harness := (true, "62287cf8555a4861e086adce39b68735ddc80fa4618d596f1031ee0187a5623a"), looks := false }, kinds := [], alts := [], laidByText := true, laidKinds := [.data, .data, .data], laidTests := true, laidLooks := .later }
def FnClkHearUptoCardSaid : Prop := Claim7.holds Tryz.pinned (.plain (OpenSpec.upto fnClkHearSpec)) fnClkHearUptoCard

/-- THE SECOND FORM's CARD OF 'laws.FnWldStays'. -/
def fnWldStaysUptoCard : Claim7 := { stood := { row := fnWldStaysUptoRow, standIns := [], harness := (true, "62287cf8555a4861e086adce39b68735ddc80fa4618d596f1031ee0187a5623a"), looks := false }, kinds := [], alts := [], laidByText := true, laidKinds := [.data, .data, .data], laidTests := true, laidLooks := .later }
def FnWldStaysUptoCardSaid : Prop := Claim7.holds Tryz.pinned (.plain (OpenSpec.upto fnWldStaysSpec)) fnWldStaysUptoCard

/-- THE SECOND FORM's CARD OF 'laws.FnCalmRest'. -/
def fnCalmRestUptoCard : Claim7 := { stood := { row := fnCalmRestUptoRow, standIns := [], harness := (true, "62287cf8555a4861e086adce39b68735ddc80fa4618d596f1031ee0187a5623a"), looks := false }, kinds := [], alts := [], laidByText := true, laidKinds := [.data, .data, .data], laidTests := true, laidLooks := .later }
def FnCalmRestUptoCardSaid : Prop := Claim7.holds Tryz.pinned (.plain (OpenSpec.upto fnCalmRestSpec)) fnCalmRestUptoCard
end Rows
end Go.Proofs.YthdknklcndbnmaaGreatDoor

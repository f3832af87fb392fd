/-
  DERIVED. GIVEN WITH THE SEED: THE CARDS: each row of YtjkemkpghacdoaaGreatDoorRows.lean that lists a variable, with what it lists TIED to the program's text (the seventh form; the later family's looks); each row that meets fmt, with fmt's text TOLD by the authors' own Lean function (tested against real Go, not proved from fmt's source: count such statements apart). THE CARD IS WHAT COUNTS. Prove the row's statement (the work); the ties are given (YtjkemkpghacdoaaGreatDoorTie.lean); close each card by the builder's one call (the guide's Derived/Test/ToyasCard.lean, 'card_holds'). Laid BY PROGRAM, IN A SANDBOX (cutbox-door.mjs). By AI agents, Wed Nov 11 2026. No macro, syntax, notation, axiom, sorry.
-/
import Derived.Test.YtjkemkpghacdoaaGreatDoorRows
import GoSem.ClaimSeven
namespace Go.Proofs.YtjkemkpghacdoaaGreatDoor
namespace Rows

/-- THE TIED CARD OF 'laws.FnSerRun'. -/
def fnSerRunCard : Claim7 := { stood := { row := fnSerRunRow, standIns := [], harness := (true, "027dde5ac55f61bcbe560da029a551e5731cf44df9abeb7e2b7d10978c05a7fd"), looks := false }, kinds := [], alts := [], laidByText := true, laidKinds := [.data, .data, .data], laidTests := true, laidLooks := .later }
def FnSerRunCardSaid : Prop := Claim7.holds Tryz.pinned (.plain (OpenSpec.ofChange fnSerRunSpec)) fnSerRunCard

/-- THE TIED CARD OF 'laws.FnWldNew'. -/
def fnWldNewCard : Claim7 := { stood := { row := fnWldNewRow, standIns := [], harness := (true, "027dde5ac55f61bcbe560da029a551e5731cf44df9abeb7e2b7d10978c05a7fd"), looks := false }, kinds := [], alts := [], laidByText := true, laidKinds := [.data, .data, .data], laidTests := true, laidLooks := .later }
def FnWldNewCardSaid : Prop := Claim7.holds Tryz.pinned (.plain (OpenSpec.ofChange fnWldNewSpec)) fnWldNewCard

/-- THE TIED CARD OF 'laws.FnExactWldRest'. -/
def fnExactWldRestCard : Claim7 := { stood := { row := fnExactWldRestRow, standIns := [], harness := (true, "027dde5ac55f61bcbe560da029a551e5731cf44df9abeb7e2b7d10978c05a7fd"), looks := false }, kinds := [], alts := [], laidByText := true, laidKinds := [.data, .data, .data], laidTests := true, laidLooks := .later }
def FnExactWldRestCardSaid : Prop := Claim7.holds Tryz.pinned (.plain (OpenSpec.ofChange fnExactWldRestSpec)) fnExactWldRestCard

/-- THE TIED CARD OF 'laws.FnExactSerSame'. -/
def fnExactSerSameCard : Claim7 := { stood := { row := fnExactSerSameRow, standIns := [], harness := (true, "027dde5ac55f61bcbe560da029a551e5731cf44df9abeb7e2b7d10978c05a7fd"), looks := false }, kinds := [], alts := [], laidByText := true, laidKinds := [.data, .data, .data], laidTests := true, laidLooks := .later }
def FnExactSerSameCardSaid : Prop := Claim7.holds Tryz.pinned (.plain (OpenSpec.ofChange fnExactSerSameSpec)) fnExactSerSameCard

/-- THE TIED CARD OF 'laws.FnClkFold'. -/
def fnClkFoldCard : Claim7 := { stood := { row := fnClkFoldRow, standIns := [], harness := (true, "027dde5ac55f61bcbe560da029a551e5731cf44df9abeb7e2b7d10978c05a7fd"), looks := false }, kinds := [], alts := [], laidByText := true, laidKinds := [.data, .data, .data], laidTests := true, laidLooks := .later }
def FnClkFoldCardSaid : Prop := Claim7.holds Tryz.pinned (.plain (OpenSpec.ofChange fnClkFoldSpec)) fnClkFoldCard

/-- THE TIED CARD OF 'laws.FnMsgOk'. -/
def fnMsgOkCard : Claim7 := { stood := { row := fnMsgOkRow, standIns := [], harness := (true, "027dde5ac55f61bcbe560da029a551e5731cf44df9abeb7e2b7d10978c05a7fd"), looks := false }, kinds := [], alts := [], laidByText := true, laidKinds := [.data, .data, .data], laidTests := true, laidLooks := .later }
def FnMsgOkCardSaid : Prop := Claim7.holds Tryz.pinned (.plain (OpenSpec.ofChange fnMsgOkSpec)) fnMsgOkCard

/-- THE TIED CARD OF 'laws.FnSitFree'. -/
def fnSitFreeCard : Claim7 := { stood := { row := fnSitFreeRow, standIns := [], harness := (true, "027dde5ac55f61bcbe560da029a551e5731cf44df9abeb7e2b7d10978c05a7fd"), looks := false }, kinds := [], alts := [], laidByText := true, laidKinds := [.data, .data, .data], laidTests := true, laidLooks := .later }
def FnSitFreeCardSaid : Prop := Claim7.holds Tryz.pinned (.plain (OpenSpec.ofChange fnSitFreeSpec)) fnSitFreeCard

/-- THE TIED CARD OF 'laws.FnWldVals'. -/
def fnWldValsCard : Claim7 := { stood := { row := fnWldValsRow, standIns := [], harness := (true, "027dde5ac55f61bcbe560da029a551e5731cf44df9abeb7e2b7d10978c05a7fd"), looks := false }, kinds := [], alts := [], laidByText := true, laidKinds := [.data, .data, .data], laidTests := true, laidLooks := .later }
def FnWldValsCardSaid : Prop := Claim7.holds Tryz.pinned (.plain (OpenSpec.ofChange fnWldValsSpec)) fnWldValsCard

/-- THE TIED CARD OF 'laws.FnSerSame'. -/
def fnSerSameCard : Claim7 := { stood := { row := fnSerSameRow, standIns := [], harness := (true, "027dde5ac55f61bcbe560da029a551e5731cf44df9abeb7e2b7d10978c05a7fd"), looks := false }, kinds := [], alts := [], laidByText := true, laidKinds := [.data, .data, .data], laidTests := true, laidLooks := .later }
def FnSerSameCardSaid : Prop := Claim7.holds Tryz.pinned (.plain (OpenSpec.ofChange fnSerSameSpec)) fnSerSameCard

/-- THE SECOND FORM's CARD OF 'laws.FnSerRun'. -/
def fnSerRunUptoCard : Claim7 := { stood := { row := fnSerRunUptoRow, standIns := [], harness := (true, "027dde5ac55f61bcbe560da029a551e5731cf44df9abeb7e2b7d10978c05a7fd"), looks := false }, kinds := [], alts := [], laidByText := true, laidKinds := [.data, .data, .data], laidTests := true, laidLooks := .later }
def FnSerRunUptoCardSaid : Prop := Claim7.holds Tryz.pinned (.plain (OpenSpec.upto fnSerRunSpec)) fnSerRunUptoCard

/-- THE SECOND FORM's CARD OF 'laws.FnWldNew'. -/
def fnWldNewUptoCard : Claim7 := { stood := { row := fnWldNewUptoRow, standIns := [], harness := (true, "027dde5ac55f61bcbe560da029a551e5731cf44df9abeb7e2b7d10978c05a7fd"), looks := false }, kinds := [], alts := [], laidByText := true, laidKinds := [.data, .data, .data], laidTests := true, laidLooks := .later }
def FnWldNewUptoCardSaid : Prop := Claim7.holds Tryz.pinned (.plain (OpenSpec.upto fnWldNewSpec)) fnWldNewUptoCard

/-- THE SECOND FORM's CARD OF 'laws.FnExactWldRest'. -/
def fnExactWldRestUptoCard : Claim7 := { stood := { row := fnExactWldRestUptoRow, standIns := [], harness := (true, "027dde5ac55f61bcbe560da029a551e5731cf44df9abeb7e2b7d10978c05a7fd"), looks := false }, kinds := [], alts := [], laidByText := true, laidKinds := [.data, .data, .data], laidTests := true, laidLooks := .later }
def FnExactWldRestUptoCardSaid : Prop := Claim7.holds Tryz.pinned (.plain (OpenSpec.upto fnExactWldRestSpec)) fnExactWldRestUptoCard

/-- THE SECOND FORM's CARD OF 'laws.FnExactSerSame'. -/
def fnExactSerSameUptoCard : Claim7 := { stood := { row := fnExactSerSameUptoRow, standIns := [], harness := (true, "027dde5ac55f61bcbe560da029a551e5731cf44df9abeb7e2b7d10978c05a7fd"), looks := false }, kinds := [], alts := [], laidByText := true, laidKinds := [.data, .data, .data], laidTests := true, laidLooks := .later }
def FnExactSerSameUptoCardSaid : Prop := Claim7.holds Tryz.pinned (.plain (OpenSpec.upto fnExactSerSameSpec)) fnExactSerSameUptoCard

/-- THE SECOND FORM's CARD OF 'laws.FnClkFold'. -/
def fnClkFoldUptoCard : Claim7 := { stood := { row := fnClkFoldUptoRow, standIns := [], harness := (true, "027dde5ac55f61bcbe560da029a551e5731cf44df9abeb7e2b7d10978c05a7fd"), looks := false }, kinds := [], alts := [], laidByText := true, laidKinds := [.data, .data, .data], laidTests := true, laidLooks := .later }
def FnClkFoldUptoCardSaid : Prop := Claim7.holds Tryz.pinned (.plain (OpenSpec.upto fnClkFoldSpec)) fnClkFoldUptoCard

/-- THE SECOND FORM's CARD OF 'laws.FnMsgOk'. -/
def fnMsgOkUptoCard : Claim7 := { stood := { row := fnMsgOkUptoRow, standIns := [], harness := (true, "027dde5ac55f61bcbe560da029a551e5731cf44df9abeb7e2b7d10978c05a7fd"), looks := false }, kinds := [], alts := [], laidByText := true, laidKinds := [.data, .data, .data], laidTests := true, laidLooks := .later }
def FnMsgOkUptoCardSaid : Prop := Claim7.holds Tryz.pinned (.plain (OpenSpec.upto fnMsgOkSpec)) fnMsgOkUptoCard

/-- THE SECOND FORM's CARD OF 'laws.FnSitFree'. -/
def fnSitFreeUptoCard : Claim7 := { stood := { row := fnSitFreeUptoRow, standIns := [], harness := (true, "027dde5ac55f61bcbe560da029a551e5731cf44df9abeb7e2b7d10978c05a7fd"), looks := false }, kinds := [], alts := [], laidByText := true, laidKinds := [.data, .data, .data], laidTests := true, laidLooks := .later }
def FnSitFreeUptoCardSaid : Prop := Claim7.holds Tryz.pinned (.plain (OpenSpec.upto fnSitFreeSpec)) fnSitFreeUptoCard

/-- THE SECOND FORM's CARD OF 'laws.FnWldVals'. -/
def fnWldValsUptoCard : Claim7 := { stood := { row := fnWldValsUptoRow, standIns := [], harness := (true, "027dde5ac55f61bcbe560da029a551e5731cf44df9abeb7e2b7d10978c05a7fd"), looks := false }, kinds := [], alts := [], laidByText := true, laidKinds := [.data, .data, .data], laidTests := true, laidLooks := .later }
def FnWldValsUptoCardSaid : Prop := Claim7.holds Tryz.pinned (.plain (OpenSpec.upto fnWldValsSpec)) fnWldValsUptoCard

/-- THE SECOND FORM's CARD OF 'laws.FnSerSame'. -/
def fnSerSameUptoCard : Claim7 := { stood := { row := fnSerSameUptoRow, standIns := [], harness := (true, "027dde5ac55f61bcbe560da029a551e5731cf44df9abeb7e2b7d10978c05a7fd"), looks := false }, kinds := [], alts := [], laidByText := true, laidKinds := [.data, .data, .data], laidTests := true, laidLooks := .later }
def FnSerSameUptoCardSaid : Prop := Claim7.holds Tryz.pinned (.plain (OpenSpec.upto fnSerSameSpec)) fnSerSameUptoCard
end Rows
end Go.Proofs.YtjkemkpghacdoaaGreatDoor

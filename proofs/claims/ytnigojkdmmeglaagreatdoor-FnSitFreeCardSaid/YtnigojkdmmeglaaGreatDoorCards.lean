/-
  DERIVED. GIVEN WITH THE SEED: THE CARDS: each row of YtnigojkdmmeglaaGreatDoorRows.lean that lists a variable, with what it lists TIED to the program's text (the seventh form; the later family's looks); each row that meets fmt, with fmt's text TOLD by the authors' own Lean function (tested against real Go, not proved from fmt's source: count such statements apart). THE CARD IS WHAT COUNTS. Prove the row's statement (the work); the ties are given (YtnigojkdmmeglaaGreatDoorTie.lean); close each card by the builder's one call (the guide's Derived/Test/ToyasCard.lean, 'card_holds'). Laid BY PROGRAM, IN A SANDBOX (cutbox-door.mjs). By AI agents, Wed Nov 11 2026. No macro, syntax, notation, axiom, sorry.
-/
import Derived.Test.YtnigojkdmmeglaaGreatDoorRows
import GoSem.ClaimSeven
namespace Go.Proofs.YtnigojkdmmeglaaGreatDoor
namespace Rows

/-- THE TIED CARD OF 'laws.FnClkFold'. -/
def fnClkFoldCard : Claim7 := { stood := { row := fnClkFoldRow, standIns := [], harness := (true, "54f9d5a698478062707da89aa4e6486c85ae70dedcb5d600d69d2320a62e97d8"), looks := false }, kinds := [], alts := [], laidByText := true, laidKinds := [.data, .data, .data], laidTests := true, laidLooks := .later }
def FnClkFoldCardSaid : Prop := Claim7.holds Tryz.pinned (.plain (OpenSpec.ofChange fnClkFoldSpec)) fnClkFoldCard

/-- THE TIED CARD OF 'laws.FnMsgOk'. -/
def fnMsgOkCard : Claim7 := { stood := { row := fnMsgOkRow, standIns := [], harness := (true, "54f9d5a698478062707da89aa4e6486c85ae70dedcb5d600d69d2320a62e97d8"), looks := false }, kinds := [], alts := [], laidByText := true, laidKinds := [.data, .data, .data], laidTests := true, laidLooks := .later }
def FnMsgOkCardSaid : Prop := Claim7.holds Tryz.pinned (.plain (OpenSpec.ofChange fnMsgOkSpec)) fnMsgOkCard

/-- THE TIED CARD OF 'laws.FnSitFree'. -/
def fnSitFreeCard : Claim7 := { stood := { row := fnSitFreeRow, standIns := [], harness := (true, "54f9d5a698478062707da89aa4e6486c85ae70dedcb5d600d69d2320a62e97d8"), looks := false }, kinds := [], alts := [], laidByText := true, laidKinds := [.data, .data, .data], laidTests := true, laidLooks := .later }
def FnSitFreeCardSaid : Prop := Claim7.holds Tryz.pinned (.plain (OpenSpec.ofChange fnSitFreeSpec)) fnSitFreeCard

/-- THE TIED CARD OF 'laws.FnWldStays'. -/
def fnWldStaysCard : Claim7 := { stood := { row := fnWldStaysRow, standIns := [], harness := (true, "54f9d5a698478062707da89aa4e6486c85ae70dedcb5d600d69d2320a62e97d8"), looks := false }, kinds := [], alts := [], laidByText := true, laidKinds := [.data, .data, .data], laidTests := true, laidLooks := .later }
def FnWldStaysCardSaid : Prop := Claim7.holds Tryz.pinned (.plain (OpenSpec.ofChange fnWldStaysSpec)) fnWldStaysCard

/-- THE SECOND FORM's CARD OF 'laws.FnClkFold'. -/
def fnClkFoldUptoCard : Claim7 := { stood := { row := fnClkFoldUptoRow, standIns := [], harness := (true, "54f9d5a698478062707da89aa4e6486c85ae70dedcb5d600d69d2320a62e97d8"), looks := false }, kinds := [], alts := [], laidByText := true, laidKinds := [.data, .data, .data], laidTests := true, laidLooks := .later }
def FnClkFoldUptoCardSaid : Prop := Claim7.holds Tryz.pinned (.plain (OpenSpec.upto fnClkFoldSpec)) fnClkFoldUptoCard

/-- THE SECOND FORM's CARD OF 'laws.FnMsgOk'. -/
def fnMsgOkUptoCard : Claim7 := { stood := { row := fnMsgOkUptoRow, standIns := [], harness := (true, "54f9d5a698478062707da89aa4e6486c85ae70dedcb5d600d69d2320a62e97d8"), looks := false }, kinds := [], alts := [], laidByText := true, laidKinds := [.data, .data, .data], laidTests := true, laidLooks := .later }
def FnMsgOkUptoCardSaid : Prop := Claim7.holds Tryz.pinned (.plain (OpenSpec.upto fnMsgOkSpec)) fnMsgOkUptoCard

/-- THE SECOND FORM's CARD OF 'laws.FnSitFree'. -/
def fnSitFreeUptoCard : Claim7 := { stood := { row := fnSitFreeUptoRow, standIns := [], harness := (true, "54f9d5a698478062707da89aa4e6486c85ae70dedcb5d600d69d2320a62e97d8"), looks := false }, kinds := [], alts := [], laidByText := true, laidKinds := [.data, .data, .data], laidTests := true, laidLooks := .later }
def FnSitFreeUptoCardSaid : Prop := Claim7.holds Tryz.pinned (.plain (OpenSpec.upto fnSitFreeSpec)) fnSitFreeUptoCard

/-- THE SECOND FORM's CARD OF 'laws.FnWldStays'. -/
def fnWldStaysUptoCard : Claim7 := { stood := { row := fnWldStaysUptoRow, standIns := [], harness := (true, "54f9d5a698478062707da89aa4e6486c85ae70dedcb5d600d69d2320a62e97d8"), looks := false }, kinds := [], alts := [], laidByText := true, laidKinds := [.data, .data, .data], laidTests := true, laidLooks := .later }
def FnWldStaysUptoCardSaid : Prop := Claim7.holds Tryz.pinned (.plain (OpenSpec.upto fnWldStaysSpec)) fnWldStaysUptoCard
end Rows
end Go.Proofs.YtnigojkdmmeglaaGreatDoor

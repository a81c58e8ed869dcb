/-
  DERIVED. GIVEN WITH THE SEED: THE CARDS: each row of YtfekapdegmfgaaaGreatDoorRows.lean that lists a variable, with what it lists TIED to the program's text (the seventh form; the later family's looks); each row that meets fmt, with fmt's text TOLD by the authors' own Lean function (tested against real Go, not proved from fmt's source: count such statements apart). THE CARD IS WHAT COUNTS. Prove the row's statement (the work); the ties are given (YtfekapdegmfgaaaGreatDoorTie.lean); close each card by the builder's one call (the guide's Derived/Test/ToyasCard.lean, 'card_holds'). Laid BY PROGRAM, IN A SANDBOX (cutbox-door.mjs). By AI agents, Wed Nov 11 2026. No macro, syntax, notation, axiom, sorry.
-/
import Derived.Test.YtfekapdegmfgaaaGreatDoorRows
import GoSem.ClaimSeven
namespace Go.Proofs.YtfekapdegmfgaaaGreatDoor
namespace Rows

/-- THE TIED CARD OF 'klisterlaw10.SheetParses'. -/
def sheetParsesCard : Claim7 := { stood := { row := sheetParsesRow, standIns := [], harness := (true, "fc3a213d7e944039130072f9d0424f91fbc30e25d597438fa960a8a20543f75c"), looks := true }, kinds := [], alts := [], laidByText := true, laidKinds := [.data, .data, .data, .data, .sentinel, .sentinel, .pinned], laidTests := true, laidLooks := .later }
def SheetParsesCardSaid : Prop := Claim7.holds Tryz.pinned (.plain (OpenSpec.ofChange sheetParsesSpec)) sheetParsesCard

/-- THE TIED CARD OF 'klisterlaw10.SheetMerges'. -/
def sheetMergesCard : Claim7 := { stood := { row := sheetMergesRow, standIns := [], harness := (true, "fc3a213d7e944039130072f9d0424f91fbc30e25d597438fa960a8a20543f75c"), looks := true }, kinds := [], alts := [], laidByText := true, laidKinds := [.data, .data, .data, .data, .sentinel, .sentinel, .pinned], laidTests := true, laidLooks := .later }
def SheetMergesCardSaid : Prop := Claim7.holds Tryz.pinned (.plain (OpenSpec.ofChange sheetMergesSpec)) sheetMergesCard

/-- THE TIED CARD OF 'klisterlaw10.SheetRead'. -/
def sheetReadCard : Claim7 := { stood := { row := sheetReadRow, standIns := [], harness := (true, "fc3a213d7e944039130072f9d0424f91fbc30e25d597438fa960a8a20543f75c"), looks := true }, kinds := [], alts := [], laidByText := true, laidKinds := [.data, .data, .data, .data, .sentinel, .sentinel, .pinned], laidTests := true, laidLooks := .later }
def SheetReadCardSaid : Prop := Claim7.holds Tryz.pinned (.plain (OpenSpec.ofChange sheetReadSpec)) sheetReadCard

/-- THE TIED CARD OF 'klisterlaw10.SheetDamaged'. -/
def sheetDamagedCard : Claim7 := { stood := { row := sheetDamagedRow, standIns := [], harness := (true, "fc3a213d7e944039130072f9d0424f91fbc30e25d597438fa960a8a20543f75c"), looks := true }, kinds := [], alts := [], laidByText := true, laidKinds := [.data, .data, .data, .data, .sentinel, .sentinel, .pinned], laidTests := true, laidLooks := .later }
def SheetDamagedCardSaid : Prop := Claim7.holds Tryz.pinned (.plain (OpenSpec.ofChange sheetDamagedSpec)) sheetDamagedCard

/-- THE TIED CARD OF 'klisterlaw10.SheetFields'. -/
def sheetFieldsCard : Claim7 := { stood := { row := sheetFieldsRow, standIns := [], harness := (true, "fc3a213d7e944039130072f9d0424f91fbc30e25d597438fa960a8a20543f75c"), looks := true }, kinds := [], alts := [], laidByText := true, laidKinds := [.data, .data, .data, .data, .sentinel, .sentinel, .pinned], laidTests := true, laidLooks := .later }
def SheetFieldsCardSaid : Prop := Claim7.holds Tryz.pinned (.plain (OpenSpec.ofChange sheetFieldsSpec)) sheetFieldsCard

/-- THE TIED CARD OF 'klisterlaw10.SheetMerged'. -/
def sheetMergedCard : Claim7 := { stood := { row := sheetMergedRow, standIns := [], harness := (true, "fc3a213d7e944039130072f9d0424f91fbc30e25d597438fa960a8a20543f75c"), looks := true }, kinds := [], alts := [], laidByText := true, laidKinds := [.data, .data, .data, .data, .sentinel, .sentinel, .pinned], laidTests := true, laidLooks := .later }
def SheetMergedCardSaid : Prop := Claim7.holds Tryz.pinned (.plain (OpenSpec.ofChange sheetMergedSpec)) sheetMergedCard

/-- THE TIED CARD OF 'klisterlaw10.SheetFirst'. -/
def sheetFirstCard : Claim7 := { stood := { row := sheetFirstRow, standIns := [], harness := (true, "fc3a213d7e944039130072f9d0424f91fbc30e25d597438fa960a8a20543f75c"), looks := true }, kinds := [], alts := [], laidByText := true, laidKinds := [.data, .data, .data, .data, .sentinel, .sentinel, .pinned], laidTests := true, laidLooks := .later }
def SheetFirstCardSaid : Prop := Claim7.holds Tryz.pinned (.plain (OpenSpec.ofChange sheetFirstSpec)) sheetFirstCard

/-- THE TIED CARD OF 'klisterlaw10.SheetChanges'. -/
def sheetChangesCard : Claim7 := { stood := { row := sheetChangesRow, standIns := [], harness := (true, "fc3a213d7e944039130072f9d0424f91fbc30e25d597438fa960a8a20543f75c"), looks := true }, kinds := [], alts := [], laidByText := true, laidKinds := [.data, .data, .data, .data, .sentinel, .sentinel, .pinned], laidTests := true, laidLooks := .later }
def SheetChangesCardSaid : Prop := Claim7.holds Tryz.pinned (.plain (OpenSpec.ofChange sheetChangesSpec)) sheetChangesCard

/-- THE TIED CARD OF 'klisterlaw10.SheetDiffed'. -/
def sheetDiffedCard : Claim7 := { stood := { row := sheetDiffedRow, standIns := [], harness := (true, "fc3a213d7e944039130072f9d0424f91fbc30e25d597438fa960a8a20543f75c"), looks := true }, kinds := [], alts := [], laidByText := true, laidKinds := [.data, .data, .data, .data, .sentinel, .sentinel, .pinned], laidTests := true, laidLooks := .later }
def SheetDiffedCardSaid : Prop := Claim7.holds Tryz.pinned (.plain (OpenSpec.ofChange sheetDiffedSpec)) sheetDiffedCard

/-- THE TIED CARD OF 'klisterlaw10.SheetLists'. -/
def sheetListsCard : Claim7 := { stood := { row := sheetListsRow, standIns := [], harness := (true, "fc3a213d7e944039130072f9d0424f91fbc30e25d597438fa960a8a20543f75c"), looks := true }, kinds := [], alts := [], laidByText := true, laidKinds := [.data, .data, .data, .data, .sentinel, .sentinel, .pinned], laidTests := true, laidLooks := .later }
def SheetListsCardSaid : Prop := Claim7.holds Tryz.pinned (.plain (OpenSpec.ofChange sheetListsSpec)) sheetListsCard

/-- THE TIED CARD OF 'klisterlaw10.SheetTidied'. -/
def sheetTidiedCard : Claim7 := { stood := { row := sheetTidiedRow, standIns := [], harness := (true, "fc3a213d7e944039130072f9d0424f91fbc30e25d597438fa960a8a20543f75c"), looks := true }, kinds := [], alts := [], laidByText := true, laidKinds := [.data, .data, .data, .data, .sentinel, .sentinel, .pinned], laidTests := true, laidLooks := .later }
def SheetTidiedCardSaid : Prop := Claim7.holds Tryz.pinned (.plain (OpenSpec.ofChange sheetTidiedSpec)) sheetTidiedCard

/-- THE SECOND FORM's CARD OF 'klisterlaw10.SheetParses'. -/
def sheetParsesUptoCard : Claim7 := { stood := { row := sheetParsesUptoRow, standIns := [], harness := (true, "fc3a213d7e944039130072f9d0424f91fbc30e25d597438fa960a8a20543f75c"), looks := true }, kinds := [], alts := [], laidByText := true, laidKinds := [.data, .data, .data, .data, .sentinel, .sentinel, .pinned], laidTests := true, laidLooks := .later }
def SheetParsesUptoCardSaid : Prop := Claim7.holds Tryz.pinned (.plain (OpenSpec.upto sheetParsesSpec)) sheetParsesUptoCard

/-- THE SECOND FORM's CARD OF 'klisterlaw10.SheetMerges'. -/
def sheetMergesUptoCard : Claim7 := { stood := { row := sheetMergesUptoRow, standIns := [], harness := (true, "fc3a213d7e944039130072f9d0424f91fbc30e25d597438fa960a8a20543f75c"), looks := true }, kinds := [], alts := [], laidByText := true, laidKinds := [.data, .data, .data, .data, .sentinel, .sentinel, .pinned], laidTests := true, laidLooks := .later }
def SheetMergesUptoCardSaid : Prop := Claim7.holds Tryz.pinned (.plain (OpenSpec.upto sheetMergesSpec)) sheetMergesUptoCard

/-- THE SECOND FORM's CARD OF 'klisterlaw10.SheetRead'. -/
def sheetReadUptoCard : Claim7 := { stood := { row := sheetReadUptoRow, standIns := [], harness := (true, "fc3a213d7e944039130072f9d0424f91fbc30e25d597438fa960a8a20543f75c"), looks := true }, kinds := [], alts := [], laidByText := true, laidKinds := [.data, .data, .data, .data, .sentinel, .sentinel, .pinned], laidTests := true, laidLooks := .later }
def SheetReadUptoCardSaid : Prop := Claim7.holds Tryz.pinned (.plain (OpenSpec.upto sheetReadSpec)) sheetReadUptoCard

/-- THE SECOND FORM's CARD OF 'klisterlaw10.SheetDamaged'. -/
def sheetDamagedUptoCard : Claim7 := { stood := { row := sheetDamagedUptoRow, standIns := [], harness := (true, "fc3a213d7e944039130072f9d0424f91fbc30e25d597438fa960a8a20543f75c"), looks := true }, kinds := [], alts := [], laidByText := true, laidKinds := [.data, .data, .data, .data, .sentinel, .sentinel, .pinned], laidTests := true, laidLooks := .later }
def SheetDamagedUptoCardSaid : Prop := Claim7.holds Tryz.pinned (.plain (OpenSpec.upto sheetDamagedSpec)) sheetDamagedUptoCard

/-- THE SECOND FORM's CARD OF 'klisterlaw10.SheetFields'. -/
def sheetFieldsUptoCard : Claim7 := { stood := { row := sheetFieldsUptoRow, standIns := [], harness := (true, "fc3a213d7e944039130072f9d0424f91fbc30e25d597438fa960a8a20543f75c"), looks := true }, kinds := [], alts := [], laidByText := true, laidKinds := [.data, .data, .data, .data, .sentinel, .sentinel, .pinned], laidTests := true, laidLooks := .later }
def SheetFieldsUptoCardSaid : Prop := Claim7.holds Tryz.pinned (.plain (OpenSpec.upto sheetFieldsSpec)) sheetFieldsUptoCard

/-- THE SECOND FORM's CARD OF 'klisterlaw10.SheetMerged'. -/
def sheetMergedUptoCard : Claim7 := { stood := { row := sheetMergedUptoRow, standIns := [], harness := (true, "fc3a213d7e944039130072f9d0424f91fbc30e25d597438fa960a8a20543f75c"), looks := true }, kinds := [], alts := [], laidByText := true, laidKinds := [.data, .data, .data, .data, .sentinel, .sentinel, .pinned], laidTests := true, laidLooks := .later }
def SheetMergedUptoCardSaid : Prop := Claim7.holds Tryz.pinned (.plain (OpenSpec.upto sheetMergedSpec)) sheetMergedUptoCard

/-- THE SECOND FORM's CARD OF 'klisterlaw10.SheetFirst'. -/
def sheetFirstUptoCard : Claim7 := { stood := { row := sheetFirstUptoRow, standIns := [], harness := (true, "fc3a213d7e944039130072f9d0424f91fbc30e25d597438fa960a8a20543f75c"), looks := true }, kinds := [], alts := [], laidByText := true, laidKinds := [.data, .data, .data, .data, .sentinel, .sentinel, .pinned], laidTests := true, laidLooks := .later }
def SheetFirstUptoCardSaid : Prop := Claim7.holds Tryz.pinned (.plain (OpenSpec.upto sheetFirstSpec)) sheetFirstUptoCard

/-- THE SECOND FORM's CARD OF 'klisterlaw10.SheetChanges'. -/
def sheetChangesUptoCard : Claim7 := { stood := { row := sheetChangesUptoRow, standIns := [], harness := (true, "fc3a213d7e944039130072f9d0424f91fbc30e25d597438fa960a8a20543f75c"), looks := true }, kinds := [], alts := [], laidByText := true, laidKinds := [.data, .data, .data, .data, .sentinel, .sentinel, .pinned], laidTests := true, laidLooks := .later }
def SheetChangesUptoCardSaid : Prop := Claim7.holds Tryz.pinned (.plain (OpenSpec.upto sheetChangesSpec)) sheetChangesUptoCard

/-- THE SECOND FORM's CARD OF 'klisterlaw10.SheetDiffed'. -/
def sheetDiffedUptoCard : Claim7 := { stood := { row := sheetDiffedUptoRow, standIns := [], harness := (true, "fc3a213d7e944039130072f9d0424f91fbc30e25d597438fa960a8a20543f75c"), looks := true }, kinds := [], alts := [], laidByText := true, laidKinds := [.data, .data, .data, .data, .sentinel, .sentinel, .pinned], laidTests := true, laidLooks := .later }
def SheetDiffedUptoCardSaid : Prop := Claim7.holds Tryz.pinned (.plain (OpenSpec.upto sheetDiffedSpec)) sheetDiffedUptoCard

/-- THE SECOND FORM's CARD OF 'klisterlaw10.SheetLists'. -/
def sheetListsUptoCard : Claim7 := { stood := { row := sheetListsUptoRow, standIns := [], harness := (true, "fc3a213d7e944039130072f9d0424f91fbc30e25d597438fa960a8a20543f75c"), looks := true }, kinds := [], alts := [], laidByText := true, laidKinds := [.data, .data, .data, .data, .sentinel, .sentinel, .pinned], laidTests := true, laidLooks := .later }
def SheetListsUptoCardSaid : Prop := Claim7.holds Tryz.pinned (.plain (OpenSpec.upto sheetListsSpec)) sheetListsUptoCard

/-- THE SECOND FORM's CARD OF 'klisterlaw10.SheetTidied'. -/
def sheetTidiedUptoCard : Claim7 := { stood := { row := sheetTidiedUptoRow, standIns := [], harness := (true, "fc3a213d7e944039130072f9d0424f91fbc30e25d597438fa960a8a20543f75c"), looks := true }, kinds := [], alts := [], laidByText := true, laidKinds := [.data, .data, .data, .data, .sentinel, .sentinel, .pinned], laidTests := true, laidLooks := .later }
def SheetTidiedUptoCardSaid : Prop := Claim7.holds Tryz.pinned (.plain (OpenSpec.upto sheetTidiedSpec)) sheetTidiedUptoCard
end Rows
end Go.Proofs.YtfekapdegmfgaaaGreatDoor

/-
  DERIVED. GIVEN WITH THE SEED: THE CARDS: each row of YtgbkgdhnfjndgaaGreatDoorRows.lean that lists a variable, with what it lists TIED to the program's text (the seventh form; the later family's looks); each row that meets fmt, with fmt's text TOLD by the authors' own Lean function (tested against real Go, not proved from fmt's source: count such statements apart). THE CARD IS WHAT COUNTS. Prove the row's statement (the work); the ties are given (YtgbkgdhnfjndgaaGreatDoorTie.lean); close each card by the builder's one call (the guide's Derived/Test/ToyasCard.lean, 'card_holds'). Laid BY PROGRAM, IN A SANDBOX (cutbox-door.mjs). By AI agents, Wed Nov 11 2026. No macro, syntax, notation, axiom, sorry.
-/
import Derived.Test.YtgbkgdhnfjndgaaGreatDoorRows
import GoSem.ClaimSeven
namespace Go.Proofs.YtgbkgdhnfjndgaaGreatDoor
namespace Rows

/-- THE TIED CARD OF 'grommetlaw11.LoadEmpty'. -/
def loadEmptyCard : Claim7 := { stood := { row := loadEmptyRow, standIns := [], harness := (true, "7ae9a3efadb08a5557e11d61ccb65dedec8725c255a6273f22d8ea6db8b02f58"), looks := true }, kinds := [], alts := [], laidByText := true, laidKinds := [.data, .data, .data, .data, .sentinel, .sentinel, .pinned], laidTests := true, laidLooks := .later }
def LoadEmptyCardSaid : Prop := Claim7.holds Tryz.pinned (.plain (OpenSpec.ofChange loadEmptySpec)) loadEmptyCard

/-- THE TIED CARD OF 'grommetlaw10.TreeParses'. -/
def treeParsesCard : Claim7 := { stood := { row := treeParsesRow, standIns := [], harness := (true, "7ae9a3efadb08a5557e11d61ccb65dedec8725c255a6273f22d8ea6db8b02f58"), looks := true }, kinds := [], alts := [], laidByText := true, laidKinds := [.data, .data, .data, .data, .sentinel, .sentinel, .pinned], laidTests := true, laidLooks := .later }
def TreeParsesCardSaid : Prop := Claim7.holds Tryz.pinned (.plain (OpenSpec.ofChange treeParsesSpec)) treeParsesCard

/-- THE TIED CARD OF 'grommetlaw10.TreeHeads'. -/
def treeHeadsCard : Claim7 := { stood := { row := treeHeadsRow, standIns := [], harness := (true, "7ae9a3efadb08a5557e11d61ccb65dedec8725c255a6273f22d8ea6db8b02f58"), looks := true }, kinds := [], alts := [], laidByText := true, laidKinds := [.data, .data, .data, .data, .sentinel, .sentinel, .pinned], laidTests := true, laidLooks := .later }
def TreeHeadsCardSaid : Prop := Claim7.holds Tryz.pinned (.plain (OpenSpec.ofChange treeHeadsSpec)) treeHeadsCard

/-- THE TIED CARD OF 'grommetlaw10.TreeLays'. -/
def treeLaysCard : Claim7 := { stood := { row := treeLaysRow, standIns := [], harness := (true, "7ae9a3efadb08a5557e11d61ccb65dedec8725c255a6273f22d8ea6db8b02f58"), looks := true }, kinds := [], alts := [], laidByText := true, laidKinds := [.data, .data, .data, .data, .sentinel, .sentinel, .pinned], laidTests := true, laidLooks := .later }
def TreeLaysCardSaid : Prop := Claim7.holds Tryz.pinned (.plain (OpenSpec.ofChange treeLaysSpec)) treeLaysCard

/-- THE TIED CARD OF 'grommetlaw10.TreeEmpty'. -/
def treeEmptyCard : Claim7 := { stood := { row := treeEmptyRow, standIns := [], harness := (true, "7ae9a3efadb08a5557e11d61ccb65dedec8725c255a6273f22d8ea6db8b02f58"), looks := true }, kinds := [], alts := [], laidByText := true, laidKinds := [.data, .data, .data, .data, .sentinel, .sentinel, .pinned], laidTests := true, laidLooks := .later }
def TreeEmptyCardSaid : Prop := Claim7.holds Tryz.pinned (.plain (OpenSpec.ofChange treeEmptySpec)) treeEmptyCard

/-- THE TIED CARD OF 'grommetlaw10.TreeMoved'. -/
def treeMovedCard : Claim7 := { stood := { row := treeMovedRow, standIns := [], harness := (true, "7ae9a3efadb08a5557e11d61ccb65dedec8725c255a6273f22d8ea6db8b02f58"), looks := true }, kinds := [], alts := [], laidByText := true, laidKinds := [.data, .data, .data, .data, .sentinel, .sentinel, .pinned], laidTests := true, laidLooks := .later }
def TreeMovedCardSaid : Prop := Claim7.holds Tryz.pinned (.plain (OpenSpec.ofChange treeMovedSpec)) treeMovedCard

/-- THE TIED CARD OF 'grommetlaw10.TreeMay'. -/
def treeMayCard : Claim7 := { stood := { row := treeMayRow, standIns := [], harness := (true, "7ae9a3efadb08a5557e11d61ccb65dedec8725c255a6273f22d8ea6db8b02f58"), looks := true }, kinds := [], alts := [], laidByText := true, laidKinds := [.data, .data, .data, .data, .sentinel, .sentinel, .pinned], laidTests := true, laidLooks := .later }
def TreeMayCardSaid : Prop := Claim7.holds Tryz.pinned (.plain (OpenSpec.ofChange treeMaySpec)) treeMayCard

/-- THE TIED CARD OF 'grommetlaw11.LoadParts'. -/
def loadPartsCard : Claim7 := { stood := { row := loadPartsRow, standIns := [], harness := (true, "7ae9a3efadb08a5557e11d61ccb65dedec8725c255a6273f22d8ea6db8b02f58"), looks := true }, kinds := [], alts := [], laidByText := true, laidKinds := [.data, .data, .data, .data, .sentinel, .sentinel, .pinned], laidTests := true, laidLooks := .later }
def LoadPartsCardSaid : Prop := Claim7.holds Tryz.pinned (.plain (OpenSpec.ofChange loadPartsSpec)) loadPartsCard

/-- THE TIED CARD OF 'grommetlaw11.LoadLoads'. -/
def loadLoadsCard : Claim7 := { stood := { row := loadLoadsRow, standIns := [], harness := (true, "7ae9a3efadb08a5557e11d61ccb65dedec8725c255a6273f22d8ea6db8b02f58"), looks := true }, kinds := [], alts := [], laidByText := true, laidKinds := [.data, .data, .data, .data, .sentinel, .sentinel, .pinned], laidTests := true, laidLooks := .later }
def LoadLoadsCardSaid : Prop := Claim7.holds Tryz.pinned (.plain (OpenSpec.ofChange loadLoadsSpec)) loadLoadsCard

/-- THE TIED CARD OF 'grommetlaw11.LoadMany'. -/
def loadManyCard : Claim7 := { stood := { row := loadManyRow, standIns := [], harness := (true, "7ae9a3efadb08a5557e11d61ccb65dedec8725c255a6273f22d8ea6db8b02f58"), looks := true }, kinds := [], alts := [], laidByText := true, laidKinds := [.data, .data, .data, .data, .sentinel, .sentinel, .pinned], laidTests := true, laidLooks := .later }
def LoadManyCardSaid : Prop := Claim7.holds Tryz.pinned (.plain (OpenSpec.ofChange loadManySpec)) loadManyCard

/-- THE TIED CARD OF 'grommetlaw11.LoadRows'. -/
def loadRowsCard : Claim7 := { stood := { row := loadRowsRow, standIns := [], harness := (true, "7ae9a3efadb08a5557e11d61ccb65dedec8725c255a6273f22d8ea6db8b02f58"), looks := true }, kinds := [], alts := [], laidByText := true, laidKinds := [.data, .data, .data, .data, .sentinel, .sentinel, .pinned], laidTests := true, laidLooks := .later }
def LoadRowsCardSaid : Prop := Claim7.holds Tryz.pinned (.plain (OpenSpec.ofChange loadRowsSpec)) loadRowsCard

/-- THE TIED CARD OF 'grommetlaw10.TreeLines'. -/
def treeLinesCard : Claim7 := { stood := { row := treeLinesRow, standIns := [], harness := (true, "7ae9a3efadb08a5557e11d61ccb65dedec8725c255a6273f22d8ea6db8b02f58"), looks := true }, kinds := [], alts := [], laidByText := true, laidKinds := [.data, .data, .data, .data, .sentinel, .sentinel, .pinned], laidTests := true, laidLooks := .later }
def TreeLinesCardSaid : Prop := Claim7.holds Tryz.pinned (.plain (OpenSpec.ofChange treeLinesSpec)) treeLinesCard

/-- THE SECOND FORM's CARD OF 'grommetlaw11.LoadEmpty'. -/
def loadEmptyUptoCard : Claim7 := { stood := { row := loadEmptyUptoRow, standIns := [], harness := (true, "7ae9a3efadb08a5557e11d61ccb65dedec8725c255a6273f22d8ea6db8b02f58"), looks := true }, kinds := [], alts := [], laidByText := true, laidKinds := [.data, .data, .data, .data, .sentinel, .sentinel, .pinned], laidTests := true, laidLooks := .later }
def LoadEmptyUptoCardSaid : Prop := Claim7.holds Tryz.pinned (.plain (OpenSpec.upto loadEmptySpec)) loadEmptyUptoCard

/-- THE SECOND FORM's CARD OF 'grommetlaw10.TreeParses'. -/
def treeParsesUptoCard : Claim7 := { stood := { row := treeParsesUptoRow, standIns := [], harness := (true, "7ae9a3efadb08a5557e11d61ccb65dedec8725c255a6273f22d8ea6db8b02f58"), looks := true }, kinds := [], alts := [], laidByText := true, laidKinds := [.data, .data, .data, .data, .sentinel, .sentinel, .pinned], laidTests := true, laidLooks := .later }
def TreeParsesUptoCardSaid : Prop := Claim7.holds Tryz.pinned (.plain (OpenSpec.upto treeParsesSpec)) treeParsesUptoCard

/-- THE SECOND FORM's CARD OF 'grommetlaw10.TreeHeads'. -/
def treeHeadsUptoCard : Claim7 := { stood := { row := treeHeadsUptoRow, standIns := [], harness := (true, "7ae9a3efadb08a5557e11d61ccb65dedec8725c255a6273f22d8ea6db8b02f58"), looks := true }, kinds := [], alts := [], laidByText := true, laidKinds := [.data, .data, .data, .data, .sentinel, .sentinel, .pinned], laidTests := true, laidLooks := .later }
def TreeHeadsUptoCardSaid : Prop := Claim7.holds Tryz.pinned (.plain (OpenSpec.upto treeHeadsSpec)) treeHeadsUptoCard

/-- THE SECOND FORM's CARD OF 'grommetlaw10.TreeLays'. -/
def treeLaysUptoCard : Claim7 := { stood := { row := treeLaysUptoRow, standIns := [], harness := (true, "7ae9a3efadb08a5557e11d61ccb65dedec8725c255a6273f22d8ea6db8b02f58"), looks := true }, kinds := [], alts := [], laidByText := true, laidKinds := [.data, .data, .data, .data, .sentinel, .sentinel, .pinned], laidTests := true, laidLooks := .later }
def TreeLaysUptoCardSaid : Prop := Claim7.holds Tryz.pinned (.plain (OpenSpec.upto treeLaysSpec)) treeLaysUptoCard

/-- THE SECOND FORM's CARD OF 'grommetlaw10.TreeEmpty'. -/
def treeEmptyUptoCard : Claim7 := { stood := { row := treeEmptyUptoRow, standIns := [], harness := (true, "7ae9a3efadb08a5557e11d61ccb65dedec8725c255a6273f22d8ea6db8b02f58"), looks := true }, kinds := [], alts := [], laidByText := true, laidKinds := [.data, .data, .data, .data, .sentinel, .sentinel, .pinned], laidTests := true, laidLooks := .later }
def TreeEmptyUptoCardSaid : Prop := Claim7.holds Tryz.pinned (.plain (OpenSpec.upto treeEmptySpec)) treeEmptyUptoCard

/-- THE SECOND FORM's CARD OF 'grommetlaw10.TreeMoved'. -/
def treeMovedUptoCard : Claim7 := { stood := { row := treeMovedUptoRow, standIns := [], harness := (true, "7ae9a3efadb08a5557e11d61ccb65dedec8725c255a6273f22d8ea6db8b02f58"), looks := true }, kinds := [], alts := [], laidByText := true, laidKinds := [.data, .data, .data, .data, .sentinel, .sentinel, .pinned], laidTests := true, laidLooks := .later }
def TreeMovedUptoCardSaid : Prop := Claim7.holds Tryz.pinned (.plain (OpenSpec.upto treeMovedSpec)) treeMovedUptoCard

/-- THE SECOND FORM's CARD OF 'grommetlaw10.TreeMay'. -/
def treeMayUptoCard : Claim7 := { stood := { row := treeMayUptoRow, standIns := [], harness := (true, "7ae9a3efadb08a5557e11d61ccb65dedec8725c255a6273f22d8ea6db8b02f58"), looks := true }, kinds := [], alts := [], laidByText := true, laidKinds := [.data, .data, .data, .data, .sentinel, .sentinel, .pinned], laidTests := true, laidLooks := .later }
def TreeMayUptoCardSaid : Prop := Claim7.holds Tryz.pinned (.plain (OpenSpec.upto treeMaySpec)) treeMayUptoCard

/-- THE SECOND FORM's CARD OF 'grommetlaw11.LoadParts'. -/
def loadPartsUptoCard : Claim7 := { stood := { row := loadPartsUptoRow, standIns := [], harness := (true, "7ae9a3efadb08a5557e11d61ccb65dedec8725c255a6273f22d8ea6db8b02f58"), looks := true }, kinds := [], alts := [], laidByText := true, laidKinds := [.data, .data, .data, .data, .sentinel, .sentinel, .pinned], laidTests := true, laidLooks := .later }
def LoadPartsUptoCardSaid : Prop := Claim7.holds Tryz.pinned (.plain (OpenSpec.upto loadPartsSpec)) loadPartsUptoCard

/-- THE SECOND FORM's CARD OF 'grommetlaw11.LoadLoads'. -/
def loadLoadsUptoCard : Claim7 := { stood := { row := loadLoadsUptoRow, standIns := [], harness := (true, "7ae9a3efadb08a5557e11d61ccb65dedec8725c255a6273f22d8ea6db8b02f58"), looks := true }, kinds := [], alts := [], laidByText := true, laidKinds := [.data, .data, .data, .data, .sentinel, .sentinel, .pinned], laidTests := true, laidLooks := .later }
def LoadLoadsUptoCardSaid : Prop := Claim7.holds Tryz.pinned (.plain (OpenSpec.upto loadLoadsSpec)) loadLoadsUptoCard

/-- THE SECOND FORM's CARD OF 'grommetlaw11.LoadMany'. -/
def loadManyUptoCard : Claim7 := { stood := { row := loadManyUptoRow, standIns := [], harness := (true, "7ae9a3efadb08a5557e11d61ccb65dedec8725c255a6273f22d8ea6db8b02f58"), looks := true }, kinds := [], alts := [], laidByText := true, laidKinds := [.data, .data, .data, .data, .sentinel, .sentinel, .pinned], laidTests := true, laidLooks := .later }
def LoadManyUptoCardSaid : Prop := Claim7.holds Tryz.pinned (.plain (OpenSpec.upto loadManySpec)) loadManyUptoCard

/-- THE SECOND FORM's CARD OF 'grommetlaw11.LoadRows'. -/
def loadRowsUptoCard : Claim7 := { stood := { row := loadRowsUptoRow, standIns := [], harness := (true, "7ae9a3efadb08a5557e11d61ccb65dedec8725c255a6273f22d8ea6db8b02f58"), looks := true }, kinds := [], alts := [], laidByText := true, laidKinds := [.data, .data, .data, .data, .sentinel, .sentinel, .pinned], laidTests := true, laidLooks := .later }
def LoadRowsUptoCardSaid : Prop := Claim7.holds Tryz.pinned (.plain (OpenSpec.upto loadRowsSpec)) loadRowsUptoCard

/-- THE SECOND FORM's CARD OF 'grommetlaw10.TreeLines'. -/
def treeLinesUptoCard : Claim7 := { stood := { row := treeLinesUptoRow, standIns := [], harness := (true, "7ae9a3efadb08a5557e11d61ccb65dedec8725c255a6273f22d8ea6db8b02f58"), looks := true }, kinds := [], alts := [], laidByText := true, laidKinds := [.data, .data, .data, .data, .sentinel, .sentinel, .pinned], laidTests := true, laidLooks := .later }
def TreeLinesUptoCardSaid : Prop := Claim7.holds Tryz.pinned (.plain (OpenSpec.upto treeLinesSpec)) treeLinesUptoCard
end Rows
end Go.Proofs.YtgbkgdhnfjndgaaGreatDoor

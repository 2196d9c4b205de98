/-
  DERIVED. GIVEN WITH THE SEED: THE CARDS: each row of YtkaclcgkndbppaaGreatDoorRows.lean that lists a variable, with what it lists TIED to the program's text (the seventh form; the later family's looks); each row that meets fmt, with fmt's text TOLD by the authors' own Lean function (tested against real Go, not proved from fmt's source: count such statements apart). THE CARD IS WHAT COUNTS. Prove the row's statement (the work); the ties are given (YtkaclcgkndbppaaGreatDoorTie.lean); close each card by the builder's one call (the guide's Derived/Test/ToyasCard.lean, 'card_holds'). Laid BY PROGRAM, IN A SANDBOX (cutbox-door.mjs). By AI agents, Wed Nov 11 2026. No macro, syntax, notation, axiom, sorry.
-/
import Derived.Test.YtkaclcgkndbppaaGreatDoorRows
import GoSem.ClaimSeven
namespace Go.Proofs.YtkaclcgkndbppaaGreatDoor
namespace Rows

/-- THE TIED CARD OF 'laws.FnExactTableFind'. -/
def fnExactTableFindCard : Claim7 := { stood := { row := fnExactTableFindRow, standIns := [], harness := (true, "ffb01ca496a09db2b1b3895006490a1d3d63eb52096a2cb9c4e5289293e77ba8"), looks := true }, kinds := [], alts := [], laidByText := true, laidKinds := [.data, .data, .data], laidTests := true, laidLooks := .later }
def FnExactTableFindCardSaid : Prop := Claim7.holds Tryz.pinned (.plain (OpenSpec.ofChange fnExactTableFindSpec)) fnExactTableFindCard

/-- THE TIED CARD OF 'laws.FnExactTableUnder'. -/
def fnExactTableUnderCard : Claim7 := { stood := { row := fnExactTableUnderRow, standIns := [], harness := (true, "ffb01ca496a09db2b1b3895006490a1d3d63eb52096a2cb9c4e5289293e77ba8"), looks := true }, kinds := [], alts := [], laidByText := true, laidKinds := [.data, .data, .data], laidTests := true, laidLooks := .later }
def FnExactTableUnderCardSaid : Prop := Claim7.holds Tryz.pinned (.plain (OpenSpec.ofChange fnExactTableUnderSpec)) fnExactTableUnderCard

/-- THE TIED CARD OF 'laws.FnExactTableTree'. -/
def fnExactTableTreeCard : Claim7 := { stood := { row := fnExactTableTreeRow, standIns := [], harness := (true, "ffb01ca496a09db2b1b3895006490a1d3d63eb52096a2cb9c4e5289293e77ba8"), looks := true }, kinds := [], alts := [], laidByText := true, laidKinds := [.data, .data, .data], laidTests := true, laidLooks := .later }
def FnExactTableTreeCardSaid : Prop := Claim7.holds Tryz.pinned (.plain (OpenSpec.ofChange fnExactTableTreeSpec)) fnExactTableTreeCard

/-- THE TIED CARD OF 'laws.FnExactTableNames'. -/
def fnExactTableNamesCard : Claim7 := { stood := { row := fnExactTableNamesRow, standIns := [], harness := (true, "ffb01ca496a09db2b1b3895006490a1d3d63eb52096a2cb9c4e5289293e77ba8"), looks := true }, kinds := [], alts := [], laidByText := true, laidKinds := [.data, .data, .data], laidTests := true, laidLooks := .later }
def FnExactTableNamesCardSaid : Prop := Claim7.holds Tryz.pinned (.plain (OpenSpec.ofChange fnExactTableNamesSpec)) fnExactTableNamesCard

/-- THE TIED CARD OF 'laws.FnExactStateNew'. -/
def fnExactStateNewCard : Claim7 := { stood := { row := fnExactStateNewRow, standIns := [], harness := (true, "ffb01ca496a09db2b1b3895006490a1d3d63eb52096a2cb9c4e5289293e77ba8"), looks := true }, kinds := [], alts := [], laidByText := true, laidKinds := [.data, .data, .data], laidTests := true, laidLooks := .later }
def FnExactStateNewCardSaid : Prop := Claim7.holds Tryz.pinned (.plain (OpenSpec.ofChange fnExactStateNewSpec)) fnExactStateNewCard

/-- THE TIED CARD OF 'laws.FnExactUpperRead'. -/
def fnExactUpperReadCard : Claim7 := { stood := { row := fnExactUpperReadRow, standIns := [], harness := (true, "ffb01ca496a09db2b1b3895006490a1d3d63eb52096a2cb9c4e5289293e77ba8"), looks := true }, kinds := [], alts := [], laidByText := true, laidKinds := [.data, .data, .data, .data, .sentinel, .sentinel, .pinned], laidTests := true, laidLooks := .later }
def FnExactUpperReadCardSaid : Prop := Claim7.holds Tryz.pinned (.plain (OpenSpec.ofChange fnExactUpperReadSpec)) fnExactUpperReadCard

/-- THE TIED CARD OF 'laws.FnExactTreeParse'. -/
def fnExactTreeParseCard : Claim7 := { stood := { row := fnExactTreeParseRow, standIns := [], harness := (true, "ffb01ca496a09db2b1b3895006490a1d3d63eb52096a2cb9c4e5289293e77ba8"), looks := true }, kinds := [], alts := [], laidByText := true, laidKinds := [.data, .data, .data, .data, .sentinel, .sentinel, .pinned], laidTests := true, laidLooks := .later }
def FnExactTreeParseCardSaid : Prop := Claim7.holds Tryz.pinned (.plain (OpenSpec.ofChange fnExactTreeParseSpec)) fnExactTreeParseCard

/-- THE TIED CARD OF 'laws.FnExactUpperOf'. -/
def fnExactUpperOfCard : Claim7 := { stood := { row := fnExactUpperOfRow, standIns := [], harness := (true, "ffb01ca496a09db2b1b3895006490a1d3d63eb52096a2cb9c4e5289293e77ba8"), looks := true }, kinds := [], alts := [], laidByText := true, laidKinds := [.data, .data, .data], laidTests := true, laidLooks := .later }
def FnExactUpperOfCardSaid : Prop := Claim7.holds Tryz.pinned (.plain (OpenSpec.ofChange fnExactUpperOfSpec)) fnExactUpperOfCard

/-- THE TIED CARD OF 'laws.FnExactUpperOk'. -/
def fnExactUpperOkCard : Claim7 := { stood := { row := fnExactUpperOkRow, standIns := [], harness := (true, "ffb01ca496a09db2b1b3895006490a1d3d63eb52096a2cb9c4e5289293e77ba8"), looks := true }, kinds := [], alts := [], laidByText := true, laidKinds := [.data, .data, .data], laidTests := true, laidLooks := .later }
def FnExactUpperOkCardSaid : Prop := Claim7.holds Tryz.pinned (.plain (OpenSpec.ofChange fnExactUpperOkSpec)) fnExactUpperOkCard

/-- THE TIED CARD OF 'laws.FnExactUpperNames'. -/
def fnExactUpperNamesCard : Claim7 := { stood := { row := fnExactUpperNamesRow, standIns := [], harness := (true, "ffb01ca496a09db2b1b3895006490a1d3d63eb52096a2cb9c4e5289293e77ba8"), looks := true }, kinds := [], alts := [], laidByText := true, laidKinds := [.data, .data, .data], laidTests := true, laidLooks := .later }
def FnExactUpperNamesCardSaid : Prop := Claim7.holds Tryz.pinned (.plain (OpenSpec.ofChange fnExactUpperNamesSpec)) fnExactUpperNamesCard

/-- THE TIED CARD OF 'laws.FnExactUpperTree'. -/
def fnExactUpperTreeCard : Claim7 := { stood := { row := fnExactUpperTreeRow, standIns := [], harness := (true, "ffb01ca496a09db2b1b3895006490a1d3d63eb52096a2cb9c4e5289293e77ba8"), looks := true }, kinds := [], alts := [], laidByText := true, laidKinds := [.data, .data, .data], laidTests := true, laidLooks := .later }
def FnExactUpperTreeCardSaid : Prop := Claim7.holds Tryz.pinned (.plain (OpenSpec.ofChange fnExactUpperTreeSpec)) fnExactUpperTreeCard

/-- THE SECOND FORM's CARD OF 'laws.FnExactTableFind'. -/
def fnExactTableFindUptoCard : Claim7 := { stood := { row := fnExactTableFindUptoRow, standIns := [], harness := (true, "ffb01ca496a09db2b1b3895006490a1d3d63eb52096a2cb9c4e5289293e77ba8"), looks := true }, kinds := [], alts := [], laidByText := true, laidKinds := [.data, .data, .data], laidTests := true, laidLooks := .later }
def FnExactTableFindUptoCardSaid : Prop := Claim7.holds Tryz.pinned (.plain (OpenSpec.upto fnExactTableFindSpec)) fnExactTableFindUptoCard

/-- THE SECOND FORM's CARD OF 'laws.FnExactTableUnder'. -/
def fnExactTableUnderUptoCard : Claim7 := { stood := { row := fnExactTableUnderUptoRow, standIns := [], harness := (true, "ffb01ca496a09db2b1b3895006490a1d3d63eb52096a2cb9c4e5289293e77ba8"), looks := true }, kinds := [], alts := [], laidByText := true, laidKinds := [.data, .data, .data], laidTests := true, laidLooks := .later }
def FnExactTableUnderUptoCardSaid : Prop := Claim7.holds Tryz.pinned (.plain (OpenSpec.upto fnExactTableUnderSpec)) fnExactTableUnderUptoCard

/-- THE SECOND FORM's CARD OF 'laws.FnExactTableTree'. -/
def fnExactTableTreeUptoCard : Claim7 := { stood := { row := fnExactTableTreeUptoRow, standIns := [], harness := (true, "ffb01ca496a09db2b1b3895006490a1d3d63eb52096a2cb9c4e5289293e77ba8"), looks := true }, kinds := [], alts := [], laidByText := true, laidKinds := [.data, .data, .data], laidTests := true, laidLooks := .later }
def FnExactTableTreeUptoCardSaid : Prop := Claim7.holds Tryz.pinned (.plain (OpenSpec.upto fnExactTableTreeSpec)) fnExactTableTreeUptoCard

/-- THE SECOND FORM's CARD OF 'laws.FnExactTableNames'. -/
def fnExactTableNamesUptoCard : Claim7 := { stood := { row := fnExactTableNamesUptoRow, standIns := [], harness := (true, "ffb01ca496a09db2b1b3895006490a1d3d63eb52096a2cb9c4e5289293e77ba8"), looks := true }, kinds := [], alts := [], laidByText := true, laidKinds := [.data, .data, .data], laidTests := true, laidLooks := .later }
def FnExactTableNamesUptoCardSaid : Prop := Claim7.holds Tryz.pinned (.plain (OpenSpec.upto fnExactTableNamesSpec)) fnExactTableNamesUptoCard

/-- THE SECOND FORM's CARD OF 'laws.FnExactStateNew'. -/
def fnExactStateNewUptoCard : Claim7 := { stood := { row := fnExactStateNewUptoRow, standIns := [], harness := (true, "ffb01ca496a09db2b1b3895006490a1d3d63eb52096a2cb9c4e5289293e77ba8"), looks := true }, kinds := [], alts := [], laidByText := true, laidKinds := [.data, .data, .data], laidTests := true, laidLooks := .later }
def FnExactStateNewUptoCardSaid : Prop := Claim7.holds Tryz.pinned (.plain (OpenSpec.upto fnExactStateNewSpec)) fnExactStateNewUptoCard

/-- THE SECOND FORM's CARD OF 'laws.FnExactUpperRead'. -/
def fnExactUpperReadUptoCard : Claim7 := { stood := { row := fnExactUpperReadUptoRow, standIns := [], harness := (true, "ffb01ca496a09db2b1b3895006490a1d3d63eb52096a2cb9c4e5289293e77ba8"), looks := true }, kinds := [], alts := [], laidByText := true, laidKinds := [.data, .data, .data, .data, .sentinel, .sentinel, .pinned], laidTests := true, laidLooks := .later }
def FnExactUpperReadUptoCardSaid : Prop := Claim7.holds Tryz.pinned (.plain (OpenSpec.upto fnExactUpperReadSpec)) fnExactUpperReadUptoCard

/-- THE SECOND FORM's CARD OF 'laws.FnExactTreeParse'. -/
def fnExactTreeParseUptoCard : Claim7 := { stood := { row := fnExactTreeParseUptoRow, standIns := [], harness := (true, "ffb01ca496a09db2b1b3895006490a1d3d63eb52096a2cb9c4e5289293e77ba8"), looks := true }, kinds := [], alts := [], laidByText := true, laidKinds := [.data, .data, .data, .data, .sentinel, .sentinel, .pinned], laidTests := true, laidLooks := .later }
def FnExactTreeParseUptoCardSaid : Prop := Claim7.holds Tryz.pinned (.plain (OpenSpec.upto fnExactTreeParseSpec)) fnExactTreeParseUptoCard

/-- THE SECOND FORM's CARD OF 'laws.FnExactUpperOf'. -/
def fnExactUpperOfUptoCard : Claim7 := { stood := { row := fnExactUpperOfUptoRow, standIns := [], harness := (true, "ffb01ca496a09db2b1b3895006490a1d3d63eb52096a2cb9c4e5289293e77ba8"), looks := true }, kinds := [], alts := [], laidByText := true, laidKinds := [.data, .data, .data], laidTests := true, laidLooks := .later }
def FnExactUpperOfUptoCardSaid : Prop := Claim7.holds Tryz.pinned (.plain (OpenSpec.upto fnExactUpperOfSpec)) fnExactUpperOfUptoCard

/-- THE SECOND FORM's CARD OF 'laws.FnExactUpperOk'. -/
def fnExactUpperOkUptoCard : Claim7 := { stood := { row := fnExactUpperOkUptoRow, standIns := [], harness := (true, "ffb01ca496a09db2b1b3895006490a1d3d63eb52096a2cb9c4e5289293e77ba8"), looks := true }, kinds := [], alts := [], laidByText := true, laidKinds := [.data, .data, .data], laidTests := true, laidLooks := .later }
def FnExactUpperOkUptoCardSaid : Prop := Claim7.holds Tryz.pinned (.plain (OpenSpec.upto fnExactUpperOkSpec)) fnExactUpperOkUptoCard

/-- THE SECOND FORM's CARD OF 'laws.FnExactUpperNames'. -/
def fnExactUpperNamesUptoCard : Claim7 := { stood := { row := fnExactUpperNamesUptoRow, standIns := [], harness := (true, "ffb01ca496a09db2b1b3895006490a1d3d63eb52096a2cb9c4e5289293e77ba8"), looks := true }, kinds := [], alts := [], laidByText := true, laidKinds := [.data, .data, .data], laidTests := true, laidLooks := .later }
def FnExactUpperNamesUptoCardSaid : Prop := Claim7.holds Tryz.pinned (.plain (OpenSpec.upto fnExactUpperNamesSpec)) fnExactUpperNamesUptoCard

/-- THE SECOND FORM's CARD OF 'laws.FnExactUpperTree'. -/
def fnExactUpperTreeUptoCard : Claim7 := { stood := { row := fnExactUpperTreeUptoRow, standIns := [], harness := (true, "ffb01ca496a09db2b1b3895006490a1d3d63eb52096a2cb9c4e5289293e77ba8"), looks := true }, kinds := [], alts := [], laidByText := true, laidKinds := [.data, .data, .data], laidTests := true, laidLooks := .later }
def FnExactUpperTreeUptoCardSaid : Prop := Claim7.holds Tryz.pinned (.plain (OpenSpec.upto fnExactUpperTreeSpec)) fnExactUpperTreeUptoCard
end Rows
end Go.Proofs.YtkaclcgkndbppaaGreatDoor

/-
  DERIVED. GIVEN WITH THE SEED: THE CARDS: each row of YtkaclcgkndbppaaDoorRows.lean that lists a variable, with what it lists TIED to the program's text (the seventh form; the later family's looks); each row that meets fmt, with fmt's text TOLD by the authors' own Lean function (tested against real Go, not proved from fmt's source: count such statements apart). THE CARD IS WHAT COUNTS. Prove the row's statement (the work); the ties are given (YtkaclcgkndbppaaDoorTie.lean); close each card by the builder's one call (the guide's Derived/Test/ToyasCard.lean, 'card_holds'). Laid BY PROGRAM, IN A SANDBOX (cutbox-door.mjs). By AI agents, Wed Nov 11 2026. No macro, syntax, notation, axiom, sorry.
-/
import Derived.Test.YtkaclcgkndbppaaDoorRows
import GoSem.ClaimSeven
namespace Go.Proofs.YtkaclcgkndbppaaDoor
namespace Rows

/-- THE TIED CARD OF 'laws.FnExactUpperWrite'. -/
def fnExactUpperWriteCard : Claim7 := { stood := { row := fnExactUpperWriteRow, standIns := [], harness := (true, "e4bfc83216873f257d66b863be8616ddd3a7f595a017da1820f2bfbbd112df55"), looks := false }, kinds := [], alts := [], laidByText := true, laidKinds := [.data, .data, .data], laidTests := true, laidLooks := .later }
def FnExactUpperWriteCardSaid : Prop := Claim7.holds Tryd.pinned (.plain (OpenSpec.ofChange fnExactUpperWriteSpec)) fnExactUpperWriteCard

/-- THE SECOND FORM's CARD OF 'laws.FnExactUpperWrite'. -/
def fnExactUpperWriteUptoCard : Claim7 := { stood := { row := fnExactUpperWriteUptoRow, standIns := [], harness := (true, "e4bfc83216873f257d66b863be8616ddd3a7f595a017da1820f2bfbbd112df55"), looks := false }, kinds := [], alts := [], laidByText := true, laidKinds := [.data, .data, .data], laidTests := true, laidLooks := .later }
def FnExactUpperWriteUptoCardSaid : Prop := Claim7.holds Tryd.pinned (.plain (OpenSpec.upto fnExactUpperWriteSpec)) fnExactUpperWriteUptoCard
end Rows
end Go.Proofs.YtkaclcgkndbppaaDoor

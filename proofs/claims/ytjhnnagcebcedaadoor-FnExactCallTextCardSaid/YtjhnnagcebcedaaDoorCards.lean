/-
  DERIVED. GIVEN WITH THE SEED: THE CARDS: each row of YtjhnnagcebcedaaDoorRows.lean that lists a variable, with what it lists TIED to the program's text (the seventh form; the later family's looks); each row that meets fmt, with fmt's text TOLD by the authors' own Lean function (tested against real Go, not proved from fmt's source: count such statements apart). THE CARD IS WHAT COUNTS. Prove the row's statement (the work); the ties are given (YtjhnnagcebcedaaDoorTie.lean); close each card by the builder's one call (the guide's Derived/Test/ToyasCard.lean, 'card_holds'). Laid BY PROGRAM, IN A SANDBOX (cutbox-door.mjs). By AI agents, Wed Nov 11 2026. No macro, syntax, notation, axiom, sorry.
-/
import Derived.Test.YtjhnnagcebcedaaDoorRows
import GoSem.ClaimSeven
namespace Go.Proofs.YtjhnnagcebcedaaDoor
namespace Rows

/-- THE TIED CARD OF 'laws.FnExactCallText'. -/
def fnExactCallTextCard : Claim7 := { stood := { row := fnExactCallTextRow, standIns := [], harness := (true, "aaf1b509fca1d0eac42f23679b8ada1e9567053f0d5d6b1f093852021bb3ae58"), looks := false }, kinds := [], alts := [], laidByText := true, laidKinds := [.data, .data, .data, .widerDeep], laidTests := true, laidLooks := .later }
def FnExactCallTextCardSaid : Prop := Claim7.holds Tryd.pinned (.plain (OpenSpec.ofChange fnExactCallTextSpec)) fnExactCallTextCard

/-- THE TIED CARD OF 'laws.FnExactNodesWrite'. -/
def fnExactNodesWriteCard : Claim7 := { stood := { row := fnExactNodesWriteRow, standIns := [], harness := (true, "aaf1b509fca1d0eac42f23679b8ada1e9567053f0d5d6b1f093852021bb3ae58"), looks := false }, kinds := [], alts := [], laidByText := true, laidKinds := [.data, .data, .data], laidTests := true, laidLooks := .later }
def FnExactNodesWriteCardSaid : Prop := Claim7.holds Tryd.pinned (.plain (OpenSpec.ofChange fnExactNodesWriteSpec)) fnExactNodesWriteCard

/-- THE SECOND FORM's CARD OF 'laws.FnExactCallText'. -/
def fnExactCallTextUptoCard : Claim7 := { stood := { row := fnExactCallTextUptoRow, standIns := [], harness := (true, "aaf1b509fca1d0eac42f23679b8ada1e9567053f0d5d6b1f093852021bb3ae58"), looks := false }, kinds := [], alts := [], laidByText := true, laidKinds := [.data, .data, .data, .widerDeep], laidTests := true, laidLooks := .later }
def FnExactCallTextUptoCardSaid : Prop := Claim7.holds Tryd.pinned (.plain (OpenSpec.upto fnExactCallTextSpec)) fnExactCallTextUptoCard

/-- THE SECOND FORM's CARD OF 'laws.FnExactNodesWrite'. -/
def fnExactNodesWriteUptoCard : Claim7 := { stood := { row := fnExactNodesWriteUptoRow, standIns := [], harness := (true, "aaf1b509fca1d0eac42f23679b8ada1e9567053f0d5d6b1f093852021bb3ae58"), looks := false }, kinds := [], alts := [], laidByText := true, laidKinds := [.data, .data, .data], laidTests := true, laidLooks := .later }
def FnExactNodesWriteUptoCardSaid : Prop := Claim7.holds Tryd.pinned (.plain (OpenSpec.upto fnExactNodesWriteSpec)) fnExactNodesWriteUptoCard
end Rows
end Go.Proofs.YtjhnnagcebcedaaDoor

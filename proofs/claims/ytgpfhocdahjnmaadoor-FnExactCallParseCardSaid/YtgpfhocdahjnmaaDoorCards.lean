/-
  DERIVED. GIVEN WITH THE SEED: THE CARDS: each row of YtgpfhocdahjnmaaDoorRows.lean that lists a variable, with what it lists TIED to the program's text (the seventh form; the later family's looks); each row that meets fmt, with fmt's text TOLD by the authors' own Lean function (tested against real Go, not proved from fmt's source: count such statements apart). THE CARD IS WHAT COUNTS. Prove the row's statement (the work); the ties are given (YtgpfhocdahjnmaaDoorTie.lean); close each card by the builder's one call (the guide's Derived/Test/ToyasCard.lean, 'card_holds'). Laid BY PROGRAM, IN A SANDBOX (cutbox-door.mjs). By AI agents, Wed Nov 11 2026. No macro, syntax, notation, axiom, sorry.
-/
import Derived.Test.YtgpfhocdahjnmaaDoorRows
import GoSem.ClaimSeven
namespace Go.Proofs.YtgpfhocdahjnmaaDoor
namespace Rows

/-- THE TIED CARD OF 'laws.FnExactNodesRead'. -/
def fnExactNodesReadCard : Claim7 := { stood := { row := fnExactNodesReadRow, standIns := [], harness := (true, "a444d36a72607b48c7a60f8f378a29d2f309bdbbab77aaa2ce1e6349ee048bd8"), looks := true }, kinds := [], alts := [], laidByText := true, laidKinds := [.data, .data, .data, .data, .sentinel, .sentinel, .pinned], laidTests := true, laidLooks := .later }
def FnExactNodesReadCardSaid : Prop := Claim7.holds Tryd.pinned (.plain (OpenSpec.ofChange fnExactNodesReadSpec)) fnExactNodesReadCard

/-- THE TIED CARD OF 'laws.FnExactCallParse'. -/
def fnExactCallParseCard : Claim7 := { stood := { row := fnExactCallParseRow, standIns := [], harness := (true, "a444d36a72607b48c7a60f8f378a29d2f309bdbbab77aaa2ce1e6349ee048bd8"), looks := true }, kinds := [], alts := [], laidByText := true, laidKinds := [.data, .data, .data, .data, .sentinel, .sentinel, .widerDeep, .pinned], laidTests := true, laidLooks := .later }
def FnExactCallParseCardSaid : Prop := Claim7.holds Tryd.pinned (.plain (OpenSpec.ofChange fnExactCallParseSpec)) fnExactCallParseCard

/-- THE SECOND FORM's CARD OF 'laws.FnExactNodesRead'. -/
def fnExactNodesReadUptoCard : Claim7 := { stood := { row := fnExactNodesReadUptoRow, standIns := [], harness := (true, "a444d36a72607b48c7a60f8f378a29d2f309bdbbab77aaa2ce1e6349ee048bd8"), looks := true }, kinds := [], alts := [], laidByText := true, laidKinds := [.data, .data, .data, .data, .sentinel, .sentinel, .pinned], laidTests := true, laidLooks := .later }
def FnExactNodesReadUptoCardSaid : Prop := Claim7.holds Tryd.pinned (.plain (OpenSpec.upto fnExactNodesReadSpec)) fnExactNodesReadUptoCard

/-- THE SECOND FORM's CARD OF 'laws.FnExactCallParse'. -/
def fnExactCallParseUptoCard : Claim7 := { stood := { row := fnExactCallParseUptoRow, standIns := [], harness := (true, "a444d36a72607b48c7a60f8f378a29d2f309bdbbab77aaa2ce1e6349ee048bd8"), looks := true }, kinds := [], alts := [], laidByText := true, laidKinds := [.data, .data, .data, .data, .sentinel, .sentinel, .widerDeep, .pinned], laidTests := true, laidLooks := .later }
def FnExactCallParseUptoCardSaid : Prop := Claim7.holds Tryd.pinned (.plain (OpenSpec.upto fnExactCallParseSpec)) fnExactCallParseUptoCard
end Rows
end Go.Proofs.YtgpfhocdahjnmaaDoor

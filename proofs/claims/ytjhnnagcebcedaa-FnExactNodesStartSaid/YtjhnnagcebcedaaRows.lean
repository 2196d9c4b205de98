/-
  NARROWER THAN 'FOR EVERY INPUT', by the rows' own cells (each row's printed sentence says how): FnExactNodesStart: loops · FnExactNodesOk: loops.
  DERIVED. THE GIVEN ROWS OF THIS SEAT. 4 by the template 'for every input the law returns true; each argument reads behind the call as it read before'; 0 by the template 'total and deterministic' (their statements: YtjhnnagcebcedaaTotals.lean).
  GIVEN WITH THE SEED: the statements are not yours to turn. If you find one false, say at which input.
  Laid BY PROGRAM, IN A SANDBOX (cutbox-rows.mjs): the forced cells as the released guide's own fill.sh prints them over the translation be8131d05c8c2155… (all of the seat's roots in one cut). By AI agents, Wed Nov 11 2026. No macro, syntax, notation, axiom, sorry.
-/
import Derived.Test.YtjhnnagcebcedaaChecked
import GoSem.Claim
import GoSem.ClaimJoined
import GoSem.ClaimMapViews
import Derived.JoinedTies
import Derived.KernelRfl
namespace Go.Proofs.Ytjhnnagcebcedaa
/- THE CELL 'sum', in the pinned program and in every row, IS THE sha256 OF THE DUMP (.gsa) THAT YtjhnnagcebcedaaProg.lean LOADS. Nothing in Lean hashes anything: it is a label: what it is worth is what the hold of that sum in a sandbox is worth. -/
noncomputable def Try.pinned : Pinned := { name := "ytjhnnagcebcedaa", sum := "be8131d05c8c21552a988f5e04407b26ae37559471a26ec3de44447d7e91a13e", checked := Try.checked }
namespace Rows
def none {H : Type} : Left H := { results := [], args := [] }

/-- 'laws.FnExactNodesId': WHATEVER THE INPUT: true; the input reads as it did. -/
def fnExactNodesIdSpec : ChangeSpec := { name := "fnExactNodesId", fn := fun _ => fun
  | [d1, d2] => { results := [.lit (.bool true)], args := [d1, d2] }
  | _ => none }
def fnExactNodesIdRow : OpenClaim := { program := "ytjhnnagcebcedaa", sum := "be8131d05c8c21552a988f5e04407b26ae37559471a26ec3de44447d7e91a13e", func := "loop.example/changetrail/laws.FnExactNodesId", spec := "fnExactNodesId", apart := false }
def FnExactNodesIdSaid : Prop := fnExactNodesIdRow.holds Try.pinned (OpenSpec.ofChange fnExactNodesIdSpec)

/-- ITS FALSE NEIGHBOUR: 'it returns false'. Refute it at one input. -/
def fnExactNodesIdWrong : ChangeSpec := { name := "fnExactNodesId", fn := fun _ => fun
  | [d1, d2] => { results := [.lit (.bool false)], args := [d1, d2] }
  | _ => none }
def FnExactNodesIdWrongFalsely : Prop := fnExactNodesIdRow.holds Try.pinned (OpenSpec.ofChange fnExactNodesIdWrong)

/-- 'laws.FnExactNodesPath': WHATEVER THE INPUT: true; the input reads as it did. -/
def fnExactNodesPathSpec : ChangeSpec := { name := "fnExactNodesPath", fn := fun _ => fun
  | [d1, d2] => { results := [.lit (.bool true)], args := [d1, d2] }
  | _ => none }
def fnExactNodesPathRow : OpenClaim := { program := "ytjhnnagcebcedaa", sum := "be8131d05c8c21552a988f5e04407b26ae37559471a26ec3de44447d7e91a13e", func := "loop.example/changetrail/laws.FnExactNodesPath", spec := "fnExactNodesPath", apart := false }
def FnExactNodesPathSaid : Prop := fnExactNodesPathRow.holds Try.pinned (OpenSpec.ofChange fnExactNodesPathSpec)

/-- ITS FALSE NEIGHBOUR: 'it returns false'. Refute it at one input. -/
def fnExactNodesPathWrong : ChangeSpec := { name := "fnExactNodesPath", fn := fun _ => fun
  | [d1, d2] => { results := [.lit (.bool false)], args := [d1, d2] }
  | _ => none }
def FnExactNodesPathWrongFalsely : Prop := fnExactNodesPathRow.holds Try.pinned (OpenSpec.ofChange fnExactNodesPathWrong)

/-- 'laws.FnExactNodesStart': WHATEVER THE INPUT: true; the input reads as it did. -/
def fnExactNodesStartSpec : ChangeSpec := { name := "fnExactNodesStart", fn := fun _ => fun
  | [d] => { results := [.lit (.bool true)], args := [d] }
  | _ => none }
def fnExactNodesStartRow : OpenClaim := { program := "ytjhnnagcebcedaa", sum := "be8131d05c8c21552a988f5e04407b26ae37559471a26ec3de44447d7e91a13e", func := "loop.example/changetrail/laws.FnExactNodesStart", spec := "fnExactNodesStart", unfollowed := true, recurses := true, loops := true, apart := false }
def FnExactNodesStartSaid : Prop := fnExactNodesStartRow.holds Try.pinned (OpenSpec.ofChange fnExactNodesStartSpec)

/-- ITS FALSE NEIGHBOUR: 'it returns false'. Refute it at one input. -/
def fnExactNodesStartWrong : ChangeSpec := { name := "fnExactNodesStart", fn := fun _ => fun
  | [d] => { results := [.lit (.bool false)], args := [d] }
  | _ => none }
def FnExactNodesStartWrongFalsely : Prop := fnExactNodesStartRow.holds Try.pinned (OpenSpec.ofChange fnExactNodesStartWrong)

/-- 'laws.FnExactNodesOk': WHATEVER THE INPUT: true; the input reads as it did. -/
def fnExactNodesOkSpec : ChangeSpec := { name := "fnExactNodesOk", fn := fun _ => fun
  | [d1, d2] => { results := [.lit (.bool true)], args := [d1, d2] }
  | _ => none }
def fnExactNodesOkRow : OpenClaim := { program := "ytjhnnagcebcedaa", sum := "be8131d05c8c21552a988f5e04407b26ae37559471a26ec3de44447d7e91a13e", func := "loop.example/changetrail/laws.FnExactNodesOk", spec := "fnExactNodesOk", unfollowed := true, recurses := true, loops := true, apart := false }
def FnExactNodesOkSaid : Prop := fnExactNodesOkRow.holds Try.pinned (OpenSpec.ofChange fnExactNodesOkSpec)

/-- ITS FALSE NEIGHBOUR: 'it returns false'. Refute it at one input. -/
def fnExactNodesOkWrong : ChangeSpec := { name := "fnExactNodesOk", fn := fun _ => fun
  | [d1, d2] => { results := [.lit (.bool false)], args := [d1, d2] }
  | _ => none }
def FnExactNodesOkWrongFalsely : Prop := fnExactNodesOkRow.holds Try.pinned (OpenSpec.ofChange fnExactNodesOkWrong)

/- THE SECOND FORM. 'bulk': how many values and letters a reading holds, each counted each time it is reached (what is shared counts as often as it is met; a slice's spare places count too). A statement '..UptoSaid' is the law's where the arguments, and the package variables that the reading takes, are together of bulk at most 1048576: NARROWER than '..Said'. Prove '..Said' where nothing that the law and all that it calls make is longer than what came in: it says more and counts as full. Else prove '..UptoSaid'. A law counts once. -/
mutual
def uptoBulk {H : Type} : DataW H → Nat
  | .lit (.string bytes) => bytes.length + 1
  | .lit _ => 1
  | .nil => 1
  | .ptr d => uptoBulk d + 1
  | .slice elems spare => uptoBulkAll elems + uptoBulkAll spare + 1
  | .agg parts => uptoBulkAll parts + 1
  | .iface _ d => uptoBulk d + 1
  | .map entries => uptoBulkEntries entries + 1
  | .held _ => 1
def uptoBulkAll {H : Type} : List (DataW H) → Nat
  | [] => 0
  | d :: r => uptoBulk d + uptoBulkAll r
def uptoBulkEntries {H : Type} : List (Lit × DataW H) → Nat
  | [] => 0
  | x :: r => uptoBulkEntry x + uptoBulkEntries r
def uptoBulkEntry {H : Type} : Lit × DataW H → Nat
  | (.string bytes, d) => bytes.length + uptoBulk d + 1
  | (_, d) => uptoBulk d + 1
 end
def uptoSmall : (H : Type) → List (DataW H) → Bool := fun _ ds => decide (uptoBulkAll ds ≤ 1048576)
def OpenSpec.upto (s : _root_.Go.ChangeSpec) : _root_.Go.OpenSpec := { _root_.Go.OpenSpec.ofChange s with cond := some uptoSmall }

/-- 'laws.FnExactNodesId', WHERE WHAT IT READS IS OF BULK AT MOST 1048576: true; the input reads as it did. -/
def fnExactNodesIdUptoRow : OpenClaim := { program := "ytjhnnagcebcedaa", sum := "be8131d05c8c21552a988f5e04407b26ae37559471a26ec3de44447d7e91a13e", func := "loop.example/changetrail/laws.FnExactNodesId", spec := "fnExactNodesId", apart := false, narrowed := true }
def FnExactNodesIdUptoSaid : Prop := fnExactNodesIdUptoRow.holds Try.pinned (OpenSpec.upto fnExactNodesIdSpec)

/-- 'laws.FnExactNodesPath', WHERE WHAT IT READS IS OF BULK AT MOST 1048576: true; the input reads as it did. -/
def fnExactNodesPathUptoRow : OpenClaim := { program := "ytjhnnagcebcedaa", sum := "be8131d05c8c21552a988f5e04407b26ae37559471a26ec3de44447d7e91a13e", func := "loop.example/changetrail/laws.FnExactNodesPath", spec := "fnExactNodesPath", apart := false, narrowed := true }
def FnExactNodesPathUptoSaid : Prop := fnExactNodesPathUptoRow.holds Try.pinned (OpenSpec.upto fnExactNodesPathSpec)

/-- 'laws.FnExactNodesStart', WHERE WHAT IT READS IS OF BULK AT MOST 1048576: true; the input reads as it did. -/
def fnExactNodesStartUptoRow : OpenClaim := { program := "ytjhnnagcebcedaa", sum := "be8131d05c8c21552a988f5e04407b26ae37559471a26ec3de44447d7e91a13e", func := "loop.example/changetrail/laws.FnExactNodesStart", spec := "fnExactNodesStart", unfollowed := true, recurses := true, loops := true, apart := false, narrowed := true }
def FnExactNodesStartUptoSaid : Prop := fnExactNodesStartUptoRow.holds Try.pinned (OpenSpec.upto fnExactNodesStartSpec)

/-- 'laws.FnExactNodesOk', WHERE WHAT IT READS IS OF BULK AT MOST 1048576: true; the input reads as it did. -/
def fnExactNodesOkUptoRow : OpenClaim := { program := "ytjhnnagcebcedaa", sum := "be8131d05c8c21552a988f5e04407b26ae37559471a26ec3de44447d7e91a13e", func := "loop.example/changetrail/laws.FnExactNodesOk", spec := "fnExactNodesOk", unfollowed := true, recurses := true, loops := true, apart := false, narrowed := true }
def FnExactNodesOkUptoSaid : Prop := fnExactNodesOkUptoRow.holds Try.pinned (OpenSpec.upto fnExactNodesOkSpec)

end Rows
end Go.Proofs.Ytjhnnagcebcedaa

/- A part of the proof: PvRwBF. -/
import Derived.Test.YtkaclcgkndbppaaGreatDoorRows
import Derived.Test.YtkaclcgkndbppaaGreatDoorCards
import Derived.JoinedOf
import Derived.SevenTiedAt
import Derived.KernelRfl
set_option linter.unusedSimpArgs false
set_option linter.unusedVariables false
namespace Go.Proofs.YtkaclcgkndbppaaGreatDoor.FnExactTreeParseRow
open Go Go.Proofs
theorem laidOut : laidOutB Tryz.prog = true := by kernel_rfl
theorem jIn : (Rows.fnExactTreeParseRow.inPlace == Program.inPlace Tryz.prog 9) = true := by kernel_rfl
theorem jUn : (Rows.fnExactTreeParseRow.unfollowed == Program.unfollowed Tryz.prog 9) = true := by kernel_rfl
theorem jRec : (Rows.fnExactTreeParseRow.recurses == Program.recurses Tryz.prog 9) = true := by kernel_rfl
theorem jNam : (Rows.fnExactTreeParseRow.named == Program.varsNamed Tryz.prog 9) = true := by kernel_rfl
theorem jHeard : Program.stopsHeard Tryz.prog = true := by kernel_rfl
theorem jEnter : Program.mayEnter Tryz.prog = true := by kernel_rfl
theorem jLift : (Rows.fnExactTreeParseRow.lifted == Program.liftsFinal Tryz.prog) = true := by kernel_rfl
theorem looksAt : true = Program.looks Tryz.prog [] := by kernel_rfl
theorem goesAt : false = Rows.fnExactTreeParseRow.goesBy Tryz.prog := by kernel_rfl
end Go.Proofs.YtkaclcgkndbppaaGreatDoor.FnExactTreeParseRow

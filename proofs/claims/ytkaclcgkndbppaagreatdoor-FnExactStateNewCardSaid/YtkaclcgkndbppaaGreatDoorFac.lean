/- A part of the proof: PvRwHF. -/
import Derived.Test.YtkaclcgkndbppaaGreatDoorRows
import Derived.Test.YtkaclcgkndbppaaGreatDoorCards
import Derived.JoinedOf
import Derived.SevenTiedAt
import Derived.KernelRfl
set_option linter.unusedSimpArgs false
set_option linter.unusedVariables false
namespace Go.Proofs.YtkaclcgkndbppaaGreatDoor.FnExactStateNewRow
open Go Go.Proofs
theorem laidOut : laidOutB Tryz.prog = true := by kernel_rfl
theorem jIn : (Rows.fnExactStateNewRow.inPlace == Program.inPlace Tryz.prog 7) = true := by kernel_rfl
theorem jUn : (Rows.fnExactStateNewRow.unfollowed == Program.unfollowed Tryz.prog 7) = true := by kernel_rfl
theorem jRec : (Rows.fnExactStateNewRow.recurses == Program.recurses Tryz.prog 7) = true := by kernel_rfl
theorem jNam : (Rows.fnExactStateNewRow.named == Program.varsNamed Tryz.prog 7) = true := by kernel_rfl
theorem jHeard : Program.stopsHeard Tryz.prog = true := by kernel_rfl
theorem jEnter : Program.mayEnter Tryz.prog = true := by kernel_rfl
theorem jLift : (Rows.fnExactStateNewRow.lifted == Program.liftsFinal Tryz.prog) = true := by kernel_rfl
theorem looksAt : true = Program.looks Tryz.prog [] := by kernel_rfl
theorem goesAt : false = Rows.fnExactStateNewRow.goesBy Tryz.prog := by kernel_rfl
end Go.Proofs.YtkaclcgkndbppaaGreatDoor.FnExactStateNewRow

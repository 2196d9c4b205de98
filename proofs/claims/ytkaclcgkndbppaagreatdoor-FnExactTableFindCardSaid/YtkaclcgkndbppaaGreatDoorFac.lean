/- A part of the proof: PvRwDF. -/
import Derived.Test.YtkaclcgkndbppaaGreatDoorRows
import Derived.Test.YtkaclcgkndbppaaGreatDoorCards
import Derived.JoinedOf
import Derived.SevenTiedAt
import Derived.KernelRfl
set_option linter.unusedSimpArgs false
set_option linter.unusedVariables false
namespace Go.Proofs.YtkaclcgkndbppaaGreatDoor.FnExactTableFindRow
open Go Go.Proofs
theorem laidOut : laidOutB Tryz.prog = true := by kernel_rfl
theorem jIn : (Rows.fnExactTableFindRow.inPlace == Program.inPlace Tryz.prog 3) = true := by kernel_rfl
theorem jUn : (Rows.fnExactTableFindRow.unfollowed == Program.unfollowed Tryz.prog 3) = true := by kernel_rfl
theorem jRec : (Rows.fnExactTableFindRow.recurses == Program.recurses Tryz.prog 3) = true := by kernel_rfl
theorem jNam : (Rows.fnExactTableFindRow.named == Program.varsNamed Tryz.prog 3) = true := by kernel_rfl
theorem jHeard : Program.stopsHeard Tryz.prog = true := by kernel_rfl
theorem jEnter : Program.mayEnter Tryz.prog = true := by kernel_rfl
theorem jLift : (Rows.fnExactTableFindRow.lifted == Program.liftsFinal Tryz.prog) = true := by kernel_rfl
theorem looksAt : true = Program.looks Tryz.prog [] := by kernel_rfl
theorem goesAt : false = Rows.fnExactTableFindRow.goesBy Tryz.prog := by kernel_rfl
end Go.Proofs.YtkaclcgkndbppaaGreatDoor.FnExactTableFindRow

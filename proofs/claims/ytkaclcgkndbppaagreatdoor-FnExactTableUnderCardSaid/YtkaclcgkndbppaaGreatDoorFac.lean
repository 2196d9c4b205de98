/- A part of the proof: PvRwEF. -/
import Derived.Test.YtkaclcgkndbppaaGreatDoorRows
import Derived.Test.YtkaclcgkndbppaaGreatDoorCards
import Derived.JoinedOf
import Derived.SevenTiedAt
import Derived.KernelRfl
set_option linter.unusedSimpArgs false
set_option linter.unusedVariables false
namespace Go.Proofs.YtkaclcgkndbppaaGreatDoor.FnExactTableUnderRow
open Go Go.Proofs
theorem laidOut : laidOutB Tryz.prog = true := by kernel_rfl
theorem jIn : (Rows.fnExactTableUnderRow.inPlace == Program.inPlace Tryz.prog 4) = true := by kernel_rfl
theorem jUn : (Rows.fnExactTableUnderRow.unfollowed == Program.unfollowed Tryz.prog 4) = true := by kernel_rfl
theorem jRec : (Rows.fnExactTableUnderRow.recurses == Program.recurses Tryz.prog 4) = true := by kernel_rfl
theorem jNam : (Rows.fnExactTableUnderRow.named == Program.varsNamed Tryz.prog 4) = true := by kernel_rfl
theorem jHeard : Program.stopsHeard Tryz.prog = true := by kernel_rfl
theorem jEnter : Program.mayEnter Tryz.prog = true := by kernel_rfl
theorem jLift : (Rows.fnExactTableUnderRow.lifted == Program.liftsFinal Tryz.prog) = true := by kernel_rfl
theorem looksAt : true = Program.looks Tryz.prog [] := by kernel_rfl
theorem goesAt : false = Rows.fnExactTableUnderRow.goesBy Tryz.prog := by kernel_rfl
end Go.Proofs.YtkaclcgkndbppaaGreatDoor.FnExactTableUnderRow

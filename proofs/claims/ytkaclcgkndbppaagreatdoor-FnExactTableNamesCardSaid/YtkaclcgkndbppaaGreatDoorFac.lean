/- A part of the proof: PvRwGF. -/
import Derived.Test.YtkaclcgkndbppaaGreatDoorRows
import Derived.Test.YtkaclcgkndbppaaGreatDoorCards
import Derived.JoinedOf
import Derived.SevenTiedAt
import Derived.KernelRfl
set_option linter.unusedSimpArgs false
set_option linter.unusedVariables false
namespace Go.Proofs.YtkaclcgkndbppaaGreatDoor.FnExactTableNamesRow
open Go Go.Proofs
theorem laidOut : laidOutB Tryz.prog = true := by kernel_rfl
theorem jIn : (Rows.fnExactTableNamesRow.inPlace == Program.inPlace Tryz.prog 6) = true := by kernel_rfl
theorem jUn : (Rows.fnExactTableNamesRow.unfollowed == Program.unfollowed Tryz.prog 6) = true := by kernel_rfl
theorem jRec : (Rows.fnExactTableNamesRow.recurses == Program.recurses Tryz.prog 6) = true := by kernel_rfl
theorem jNam : (Rows.fnExactTableNamesRow.named == Program.varsNamed Tryz.prog 6) = true := by kernel_rfl
theorem jHeard : Program.stopsHeard Tryz.prog = true := by kernel_rfl
theorem jEnter : Program.mayEnter Tryz.prog = true := by kernel_rfl
theorem jLift : (Rows.fnExactTableNamesRow.lifted == Program.liftsFinal Tryz.prog) = true := by kernel_rfl
theorem looksAt : true = Program.looks Tryz.prog [] := by kernel_rfl
theorem goesAt : false = Rows.fnExactTableNamesRow.goesBy Tryz.prog := by kernel_rfl
end Go.Proofs.YtkaclcgkndbppaaGreatDoor.FnExactTableNamesRow

/- A part of the proof: PvRwAF. -/
import Derived.Test.YtkaclcgkndbppaaGreatDoorRows
import Derived.Test.YtkaclcgkndbppaaGreatDoorCards
import Derived.JoinedOf
import Derived.SevenTiedAt
import Derived.KernelRfl
set_option linter.unusedSimpArgs false
set_option linter.unusedVariables false
namespace Go.Proofs.YtkaclcgkndbppaaGreatDoor.FnExactUpperReadRow
open Go Go.Proofs
theorem laidOut : laidOutB Tryz.prog = true := by kernel_rfl
theorem jIn : (Rows.fnExactUpperReadRow.inPlace == Program.inPlace Tryz.prog 8) = true := by kernel_rfl
theorem jUn : (Rows.fnExactUpperReadRow.unfollowed == Program.unfollowed Tryz.prog 8) = true := by kernel_rfl
theorem jRec : (Rows.fnExactUpperReadRow.recurses == Program.recurses Tryz.prog 8) = true := by kernel_rfl
theorem jNam : (Rows.fnExactUpperReadRow.named == Program.varsNamed Tryz.prog 8) = true := by kernel_rfl
theorem jHeard : Program.stopsHeard Tryz.prog = true := by kernel_rfl
theorem jEnter : Program.mayEnter Tryz.prog = true := by kernel_rfl
theorem jLift : (Rows.fnExactUpperReadRow.lifted == Program.liftsFinal Tryz.prog) = true := by kernel_rfl
theorem looksAt : true = Program.looks Tryz.prog [] := by kernel_rfl
theorem goesAt : false = Rows.fnExactUpperReadRow.goesBy Tryz.prog := by kernel_rfl
end Go.Proofs.YtkaclcgkndbppaaGreatDoor.FnExactUpperReadRow

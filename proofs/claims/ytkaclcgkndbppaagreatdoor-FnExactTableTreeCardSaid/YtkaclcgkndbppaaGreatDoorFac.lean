/- A part of the proof: PvRwCF. -/
import Derived.Test.YtkaclcgkndbppaaGreatDoorRows
import Derived.Test.YtkaclcgkndbppaaGreatDoorCards
import Derived.JoinedOf
import Derived.SevenTiedAt
import Derived.KernelRfl
set_option linter.unusedSimpArgs false
set_option linter.unusedVariables false
namespace Go.Proofs.YtkaclcgkndbppaaGreatDoor.FnExactTableTreeRow
open Go Go.Proofs
theorem laidOut : laidOutB Tryz.prog = true := by kernel_rfl
theorem jIn : (Rows.fnExactTableTreeRow.inPlace == Program.inPlace Tryz.prog 5) = true := by kernel_rfl
theorem jUn : (Rows.fnExactTableTreeRow.unfollowed == Program.unfollowed Tryz.prog 5) = true := by kernel_rfl
theorem jRec : (Rows.fnExactTableTreeRow.recurses == Program.recurses Tryz.prog 5) = true := by kernel_rfl
theorem jNam : (Rows.fnExactTableTreeRow.named == Program.varsNamed Tryz.prog 5) = true := by kernel_rfl
theorem jHeard : Program.stopsHeard Tryz.prog = true := by kernel_rfl
theorem jEnter : Program.mayEnter Tryz.prog = true := by kernel_rfl
theorem jLift : (Rows.fnExactTableTreeRow.lifted == Program.liftsFinal Tryz.prog) = true := by kernel_rfl
theorem looksAt : true = Program.looks Tryz.prog [] := by kernel_rfl
theorem goesAt : false = Rows.fnExactTableTreeRow.goesBy Tryz.prog := by kernel_rfl
end Go.Proofs.YtkaclcgkndbppaaGreatDoor.FnExactTableTreeRow

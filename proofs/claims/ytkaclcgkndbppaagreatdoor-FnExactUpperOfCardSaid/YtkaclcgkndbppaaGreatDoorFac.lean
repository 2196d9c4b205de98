/- A part of the proof: PvRwIF. -/
import Derived.Test.YtkaclcgkndbppaaGreatDoorRows
import Derived.Test.YtkaclcgkndbppaaGreatDoorCards
import Derived.JoinedOf
import Derived.SevenTiedAt
import Derived.KernelRfl
set_option linter.unusedSimpArgs false
set_option linter.unusedVariables false
namespace Go.Proofs.YtkaclcgkndbppaaGreatDoor.FnExactUpperOfRow
open Go Go.Proofs
theorem laidOut:laidOutB Tryz.prog=true:=by kernel_rfl
theorem jIn:(Rows.fnExactUpperOfRow.inPlace==Program.inPlace Tryz.prog 10)=true:=by kernel_rfl
theorem jUn:(Rows.fnExactUpperOfRow.unfollowed==Program.unfollowed Tryz.prog 10)=true:=by kernel_rfl
theorem jRec:(Rows.fnExactUpperOfRow.recurses==Program.recurses Tryz.prog 10)=true:=by kernel_rfl
theorem jNam:(Rows.fnExactUpperOfRow.named==Program.varsNamed Tryz.prog 10)=true:=by kernel_rfl
theorem jHeard:Program.stopsHeard Tryz.prog=true:=by kernel_rfl
theorem jEnter:Program.mayEnter Tryz.prog=true:=by kernel_rfl
theorem jLift:(Rows.fnExactUpperOfRow.lifted==Program.liftsFinal Tryz.prog)=true:=by kernel_rfl
theorem looksAt:true=Program.looks Tryz.prog []:=by kernel_rfl
theorem goesAt:false=Rows.fnExactUpperOfRow.goesBy Tryz.prog:=by kernel_rfl
end Go.Proofs.YtkaclcgkndbppaaGreatDoor.FnExactUpperOfRow

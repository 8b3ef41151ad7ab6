/- What is asked of the program as a whole, part 3; no conditions. -/
import Derived.SevenTiedAt
import Derived.Test.YtpipccfcpeemfacGreatDoorEncodeSameJ2
set_option linter.unusedSectionVars false
set_option linter.unusedSimpArgs false
set_option linter.unusedVariables false
namespace Go.Proofs.YtpipccfcpeemfacGreatDoor.encodeSame
open Go.Am Go.ChangeShapes Go.WideShapes Go.ChangeAt Go.RowKit

theorem kc0 : Rows.encodeSameRow.wfByText (OpenSpec.ofChange Rows.encodeSameSpec) = true := by kernel_rfl
theorem kc1 : Tryz.prog.mainIs = some ((true, "76dd1052dc4aa3b84939bdb71a78c45b584e27d8941692ea9d8840a0715fe54d").1, (true, "76dd1052dc4aa3b84939bdb71a78c45b584e27d8941692ea9d8840a0715fe54d").2.toList) := by kernel_rfl
theorem kc2 : false = Tryz.prog.looks [] := by kernel_rfl
theorem kc3 : false = Rows.encodeSameRow.goesBy Tryz.prog := by kernel_rfl
theorem kc4 : (Tryz.f3.params.toList.all fun t => !Tryz.prog.wantsStandIn t) = true := by kernel_rfl
theorem kc5 : Tryz.prog.funcNamed Rows.encodeSameRow.func = some 3 := by kernel_rfl

end Go.Proofs.YtpipccfcpeemfacGreatDoor.encodeSame

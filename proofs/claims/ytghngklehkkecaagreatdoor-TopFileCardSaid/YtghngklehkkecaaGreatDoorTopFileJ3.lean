/- What is asked of the program as a whole, part 3; no conditions. -/
import Derived.SevenTiedAt
import Derived.Test.YtghngklehkkecaaGreatDoorTopFileJ2
set_option linter.unusedSectionVars false
set_option linter.unusedSimpArgs false
set_option linter.unusedVariables false
namespace Go.Proofs.YtghngklehkkecaaGreatDoor.topFile
open Go.Am Go.ChangeShapes Go.WideShapes Go.ChangeAt Go.RowKit

theorem kc0 : Rows.topFileRow.wfByText (OpenSpec.ofChange Rows.topFileSpec) = true := by kernel_rfl
theorem kc1 : Tryz.prog.mainIs = some ((true, "8cdf49cd04ff2e9f9c3e3fa74cdd1fc6b9d1a2921aeee2447eaa8bd9cc873c17").1, (true, "8cdf49cd04ff2e9f9c3e3fa74cdd1fc6b9d1a2921aeee2447eaa8bd9cc873c17").2.toList) := by kernel_rfl
theorem kc2 : false = Tryz.prog.looks [] := by kernel_rfl
theorem kc3 : false = Rows.topFileRow.goesBy Tryz.prog := by kernel_rfl
theorem kc4 : (Tryz.f3.params.toList.all fun t => !Tryz.prog.wantsStandIn t) = true := by kernel_rfl
theorem kc5 : Tryz.prog.funcNamed Rows.topFileRow.func = some 3 := by kernel_rfl

end Go.Proofs.YtghngklehkkecaaGreatDoor.topFile

/- What is asked of the program as a whole, part 3; no conditions. -/
import Derived.SevenTiedAt
import Derived.Test.YtghngklehkkecabGreatDoorPushencNamesJ2
set_option linter.unusedSectionVars false
set_option linter.unusedSimpArgs false
set_option linter.unusedVariables false
namespace Go.Proofs.YtghngklehkkecabGreatDoor.pushencNames
open Go.Am Go.ChangeShapes Go.WideShapes Go.ChangeAt Go.RowKit

theorem kc0 : Rows.pushencNamesRow.wfByText (OpenSpec.ofChange Rows.pushencNamesSpec) = true := by kernel_rfl
theorem kc1 : Tryz.prog.mainIs = some ((true, "9cc76fe7c0df12c1449805c51cfc25dce0e4476a304aa1bdc5c1e2a2e1409163").1, (true, "9cc76fe7c0df12c1449805c51cfc25dce0e4476a304aa1bdc5c1e2a2e1409163").2.toList) := by kernel_rfl
theorem kc2 : false = Tryz.prog.looks [] := by kernel_rfl
theorem kc3 : false = Rows.pushencNamesRow.goesBy Tryz.prog := by kernel_rfl
theorem kc4 : (Tryz.f3.params.toList.all fun t => !Tryz.prog.wantsStandIn t) = true := by kernel_rfl
theorem kc5 : Tryz.prog.funcNamed Rows.pushencNamesRow.func = some 3 := by kernel_rfl

end Go.Proofs.YtghngklehkkecabGreatDoor.pushencNames

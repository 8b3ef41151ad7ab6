/- What is asked of the program as a whole, part 3; no conditions. -/
import Derived.SevenTiedAt
import Derived.Test.YtghngklehkkecadGreatDoorPushencFileJ2
set_option linter.unusedSectionVars false
set_option linter.unusedSimpArgs false
set_option linter.unusedVariables false
namespace Go.Proofs.YtghngklehkkecadGreatDoor.pushencFile
open Go.Am Go.ChangeShapes Go.WideShapes Go.ChangeAt Go.RowKit

theorem kc0 : Rows.pushencFileRow.wfByText (OpenSpec.ofChange Rows.pushencFileSpec) = true := by kernel_rfl
theorem kc1 : Tryz.prog.mainIs = some ((true, "1c08e11917934e84563fcc608034bcf286a6391b2acc94ea74a4429d0192bae5").1, (true, "1c08e11917934e84563fcc608034bcf286a6391b2acc94ea74a4429d0192bae5").2.toList) := by kernel_rfl
theorem kc2 : false = Tryz.prog.looks [] := by kernel_rfl
theorem kc3 : false = Rows.pushencFileRow.goesBy Tryz.prog := by kernel_rfl
theorem kc4 : (Tryz.f3.params.toList.all fun t => !Tryz.prog.wantsStandIn t) = true := by kernel_rfl
theorem kc5 : Tryz.prog.funcNamed Rows.pushencFileRow.func = some 3 := by kernel_rfl

end Go.Proofs.YtghngklehkkecadGreatDoor.pushencFile

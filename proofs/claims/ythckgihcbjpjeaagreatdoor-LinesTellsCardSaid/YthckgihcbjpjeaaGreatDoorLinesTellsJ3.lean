/- What is asked of the program as a whole, part 3; no conditions. -/
import Derived.SevenTiedAt
import Derived.Test.YthckgihcbjpjeaaGreatDoorLinesTellsJ2
set_option linter.unusedSectionVars false
set_option linter.unusedSimpArgs false
set_option linter.unusedVariables false
namespace Go.Proofs.YthckgihcbjpjeaaGreatDoor.linesTells
open Go.Am Go.ChangeShapes Go.WideShapes Go.ChangeAt Go.RowKit

theorem kc0 : Rows.linesTellsRow.wfByText (OpenSpec.ofChange Rows.linesTellsSpec) = true := by kernel_rfl
theorem kc1 : Tryz.prog.mainIs = some ((true, "65506e3739d36cd44254ebd27dfd677b997d5cc3809c4ab77a7e3eef95f97249").1, (true, "65506e3739d36cd44254ebd27dfd677b997d5cc3809c4ab77a7e3eef95f97249").2.toList) := by kernel_rfl
theorem kc2 : false = Tryz.prog.looks [] := by kernel_rfl
theorem kc3 : false = Rows.linesTellsRow.goesBy Tryz.prog := by kernel_rfl
theorem kc4 : (Tryz.f3.params.toList.all fun t => !Tryz.prog.wantsStandIn t) = true := by kernel_rfl
theorem kc5 : Tryz.prog.funcNamed Rows.linesTellsRow.func = some 3 := by kernel_rfl

end Go.Proofs.YthckgihcbjpjeaaGreatDoor.linesTells

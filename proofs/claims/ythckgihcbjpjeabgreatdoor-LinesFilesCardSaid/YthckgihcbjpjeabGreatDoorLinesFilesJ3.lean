/- What is asked of the program as a whole, part 3; no conditions. -/
import Derived.SevenTiedAt
import Derived.Test.YthckgihcbjpjeabGreatDoorLinesFilesJ2
set_option linter.unusedSectionVars false
set_option linter.unusedSimpArgs false
set_option linter.unusedVariables false
namespace Go.Proofs.YthckgihcbjpjeabGreatDoor.linesFiles
open Go.Am Go.ChangeShapes Go.WideShapes Go.ChangeAt Go.RowKit

theorem kc0 : Rows.linesFilesRow.wfByText (OpenSpec.ofChange Rows.linesFilesSpec) = true := by kernel_rfl
theorem kc1 : Tryz.prog.mainIs = some ((true, "a2367556535b505d50c3a80b9bcf942a3ebdbbf170707aac3d5395500c39bd55").1, (true, "a2367556535b505d50c3a80b9bcf942a3ebdbbf170707aac3d5395500c39bd55").2.toList) := by kernel_rfl
theorem kc2 : true = Tryz.prog.looks [] := by kernel_rfl
theorem kc3 : false = Rows.linesFilesRow.goesBy Tryz.prog := by kernel_rfl
theorem kc4 : (Tryz.f3.params.toList.all fun t => !Tryz.prog.wantsStandIn t) = true := by kernel_rfl
theorem kc5 : Tryz.prog.funcNamed Rows.linesFilesRow.func = some 3 := by kernel_rfl

end Go.Proofs.YthckgihcbjpjeabGreatDoor.linesFiles

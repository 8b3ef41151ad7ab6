/- What is asked of the program as a whole, part 3; no conditions. -/
import Derived.SevenTiedAt
import Derived.Test.YtpfhdmbamkdnpaaGreatDoorLinesNamesJ2
set_option linter.unusedSectionVars false
set_option linter.unusedSimpArgs false
set_option linter.unusedVariables false
namespace Go.Proofs.YtpfhdmbamkdnpaaGreatDoor.linesNames
open Go.Am Go.ChangeShapes Go.WideShapes Go.ChangeAt Go.RowKit

theorem kc0 : Rows.linesNamesRow.wfByText (OpenSpec.ofChange Rows.linesNamesSpec) = true := by kernel_rfl
theorem kc1 : Tryz.prog.mainIs = some ((true, "10d9e6e878151fd1451070e219db7fb71193609d8b477ecff270662f42ecaf01").1, (true, "10d9e6e878151fd1451070e219db7fb71193609d8b477ecff270662f42ecaf01").2.toList) := by kernel_rfl
theorem kc2 : true = Tryz.prog.looks [] := by kernel_rfl
theorem kc3 : false = Rows.linesNamesRow.goesBy Tryz.prog := by kernel_rfl
theorem kc4 : (Tryz.f3.params.toList.all fun t => !Tryz.prog.wantsStandIn t) = true := by kernel_rfl
theorem kc5 : Tryz.prog.funcNamed Rows.linesNamesRow.func = some 3 := by kernel_rfl

end Go.Proofs.YtpfhdmbamkdnpaaGreatDoor.linesNames

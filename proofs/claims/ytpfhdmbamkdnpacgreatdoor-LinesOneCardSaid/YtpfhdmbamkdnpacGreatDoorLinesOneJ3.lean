/- What is asked of the program as a whole, part 3; no conditions. -/
import Derived.SevenTiedAt
import Derived.Test.YtpfhdmbamkdnpacGreatDoorLinesOneJ2
set_option linter.unusedSectionVars false
set_option linter.unusedSimpArgs false
set_option linter.unusedVariables false
namespace Go.Proofs.YtpfhdmbamkdnpacGreatDoor.linesOne
open Go.Am Go.ChangeShapes Go.WideShapes Go.ChangeAt Go.RowKit

theorem kc0 : Rows.linesOneRow.wfByText (OpenSpec.ofChange Rows.linesOneSpec) = true := by kernel_rfl
theorem kc1 : Tryz.prog.mainIs = some ((true, "20020011cc0c59475a397f4009310d18b38057154160e3ffa995012d41a47c31").1, (true, "20020011cc0c59475a397f4009310d18b38057154160e3ffa995012d41a47c31").2.toList) := by kernel_rfl
theorem kc2 : true = Tryz.prog.looks [] := by kernel_rfl
theorem kc3 : false = Rows.linesOneRow.goesBy Tryz.prog := by kernel_rfl
theorem kc4 : (Tryz.f3.params.toList.all fun t => !Tryz.prog.wantsStandIn t) = true := by kernel_rfl
theorem kc5 : Tryz.prog.funcNamed Rows.linesOneRow.func = some 3 := by kernel_rfl

end Go.Proofs.YtpfhdmbamkdnpacGreatDoor.linesOne

/- What is asked of the program as a whole, part 3; no conditions. -/
import Derived.SevenTiedAt
import Derived.Test.YtpfhdmbamkdnpabGreatDoorLinesBackJ2
set_option linter.unusedSectionVars false
set_option linter.unusedSimpArgs false
set_option linter.unusedVariables false
namespace Go.Proofs.YtpfhdmbamkdnpabGreatDoor.linesBack
open Go.Am Go.ChangeShapes Go.WideShapes Go.ChangeAt Go.RowKit

theorem kc0 : Rows.linesBackRow.wfByText (OpenSpec.ofChange Rows.linesBackSpec) = true := by kernel_rfl
theorem kc1 : Tryz.prog.mainIs = some ((true, "2511aeb870537d998064a86cd5af17b017d7f6244ffd31cb542686b18916e233").1, (true, "2511aeb870537d998064a86cd5af17b017d7f6244ffd31cb542686b18916e233").2.toList) := by kernel_rfl
theorem kc2 : true = Tryz.prog.looks [] := by kernel_rfl
theorem kc3 : false = Rows.linesBackRow.goesBy Tryz.prog := by kernel_rfl
theorem kc4 : (Tryz.f3.params.toList.all fun t => !Tryz.prog.wantsStandIn t) = true := by kernel_rfl
theorem kc5 : Tryz.prog.funcNamed Rows.linesBackRow.func = some 3 := by kernel_rfl

end Go.Proofs.YtpfhdmbamkdnpabGreatDoor.linesBack

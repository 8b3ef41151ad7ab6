/- What is asked of the program as a whole, part 3; no conditions. -/
import Derived.SevenTiedAt
import Derived.Test.YtnkkbheggkaopaaDoorLinesReadsJ2
set_option linter.unusedSectionVars false
set_option linter.unusedSimpArgs false
set_option linter.unusedVariables false
namespace Go.Proofs.YtnkkbheggkaopaaDoor.linesReads
open Go.Am Go.ChangeShapes Go.WideShapes Go.ChangeAt Go.RowKit

theorem kc0 : Rows.linesReadsRow.wfByText (OpenSpec.ofChange Rows.linesReadsSpec) = true := by kernel_rfl
theorem kc1 : Tryd.prog.mainIs = some ((true, "dc8d50297bcf966a420027c3ca4153954a9d5e766a38baae7ec019f19e4ffe21").1, (true, "dc8d50297bcf966a420027c3ca4153954a9d5e766a38baae7ec019f19e4ffe21").2.toList) := by kernel_rfl
theorem kc2 : true = Tryd.prog.looks [] := by kernel_rfl
theorem kc3 : false = Rows.linesReadsRow.goesBy Tryd.prog := by kernel_rfl
theorem kc4 : (Tryd.f3.params.toList.all fun t => !Tryd.prog.wantsStandIn t) = true := by kernel_rfl
theorem kc5 : Tryd.prog.funcNamed Rows.linesReadsRow.func = some 3 := by kernel_rfl

end Go.Proofs.YtnkkbheggkaopaaDoor.linesReads

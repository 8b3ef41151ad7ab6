/- What is asked of the program as a whole, part 3; no conditions. -/
import Derived.SevenTiedAt
import Derived.Test.YtkilhchobbfjhaaGreatDoorTopFramesJ2
set_option linter.unusedSectionVars false
set_option linter.unusedSimpArgs false
set_option linter.unusedVariables false
namespace Go.Proofs.YtkilhchobbfjhaaGreatDoor.topFrames
open Go.Am Go.ChangeShapes Go.WideShapes Go.ChangeAt Go.RowKit

theorem kc0 : Rows.topFramesRow.wfByText (OpenSpec.ofChange Rows.topFramesSpec) = true := by kernel_rfl
theorem kc1 : Tryz.prog.mainIs = some ((true, "c6f49d26088b45328b56a85d426a160685f046503e92f3aa69079006cdacd17b").1, (true, "c6f49d26088b45328b56a85d426a160685f046503e92f3aa69079006cdacd17b").2.toList) := by kernel_rfl
theorem kc2 : false = Tryz.prog.looks [] := by kernel_rfl
theorem kc3 : false = Rows.topFramesRow.goesBy Tryz.prog := by kernel_rfl
theorem kc4 : (Tryz.f3.params.toList.all fun t => !Tryz.prog.wantsStandIn t) = true := by kernel_rfl
theorem kc5 : Tryz.prog.funcNamed Rows.topFramesRow.func = some 3 := by kernel_rfl

end Go.Proofs.YtkilhchobbfjhaaGreatDoor.topFrames

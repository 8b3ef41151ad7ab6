/- What is asked of the program as a whole, part 3; no conditions. -/
import Derived.SevenTiedAt
import Derived.Test.YtkilhchobbfjhacGreatDoorClipNamesJ2
set_option linter.unusedSectionVars false
set_option linter.unusedSimpArgs false
set_option linter.unusedVariables false
namespace Go.Proofs.YtkilhchobbfjhacGreatDoor.clipNames
open Go.Am Go.ChangeShapes Go.WideShapes Go.ChangeAt Go.RowKit

theorem kc0 : Rows.clipNamesRow.wfByText (OpenSpec.ofChange Rows.clipNamesSpec) = true := by kernel_rfl
theorem kc1 : Tryz.prog.mainIs = some ((true, "48ca2ecf7d143a97a77bda645650c0d622ebca2ac225fba7ffc30dcfe3dab7bd").1, (true, "48ca2ecf7d143a97a77bda645650c0d622ebca2ac225fba7ffc30dcfe3dab7bd").2.toList) := by kernel_rfl
theorem kc2 : false = Tryz.prog.looks [] := by kernel_rfl
theorem kc3 : false = Rows.clipNamesRow.goesBy Tryz.prog := by kernel_rfl
theorem kc4 : (Tryz.f3.params.toList.all fun t => !Tryz.prog.wantsStandIn t) = true := by kernel_rfl
theorem kc5 : Tryz.prog.funcNamed Rows.clipNamesRow.func = some 3 := by kernel_rfl

end Go.Proofs.YtkilhchobbfjhacGreatDoor.clipNames

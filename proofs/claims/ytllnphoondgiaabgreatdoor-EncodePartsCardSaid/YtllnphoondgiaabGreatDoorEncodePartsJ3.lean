/- What is asked of the program as a whole, part 3; no conditions. -/
import Derived.SevenTiedAt
import Derived.Test.YtllnphoondgiaabGreatDoorEncodePartsJ2
set_option linter.unusedSectionVars false
set_option linter.unusedSimpArgs false
set_option linter.unusedVariables false
namespace Go.Proofs.YtllnphoondgiaabGreatDoor.encodeParts
open Go.Am Go.ChangeShapes Go.WideShapes Go.ChangeAt Go.RowKit

theorem kc0 : Rows.encodePartsRow.wfByText (OpenSpec.ofChange Rows.encodePartsSpec) = true := by kernel_rfl
theorem kc1 : Tryz.prog.mainIs = some ((true, "adc8712fee412e7c05fd624b40b97441971494a0339ea83693e84ead9c176f61").1, (true, "adc8712fee412e7c05fd624b40b97441971494a0339ea83693e84ead9c176f61").2.toList) := by kernel_rfl
theorem kc2 : false = Tryz.prog.looks [] := by kernel_rfl
theorem kc3 : false = Rows.encodePartsRow.goesBy Tryz.prog := by kernel_rfl
theorem kc4 : (Tryz.f3.params.toList.all fun t => !Tryz.prog.wantsStandIn t) = true := by kernel_rfl
theorem kc5 : Tryz.prog.funcNamed Rows.encodePartsRow.func = some 3 := by kernel_rfl

end Go.Proofs.YtllnphoondgiaabGreatDoor.encodeParts

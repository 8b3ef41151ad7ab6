/- What is asked of the program as a whole, part 3; no conditions. -/
import Derived.SevenTiedAt
import Derived.Test.YtghngklehkkecaeGreatDoorPushencSticksJ2
set_option linter.unusedSectionVars false
set_option linter.unusedSimpArgs false
set_option linter.unusedVariables false
namespace Go.Proofs.YtghngklehkkecaeGreatDoor.pushencSticks
open Go.Am Go.ChangeShapes Go.WideShapes Go.ChangeAt Go.RowKit

theorem kc0 : Rows.pushencSticksRow.wfByText (OpenSpec.ofChange Rows.pushencSticksSpec) = true := by kernel_rfl
theorem kc1 : Tryz.prog.mainIs = some ((true, "7738d53f6dbd26997c3bd87b90d175f425eb5ad50f41334625e52f6f223735b9").1, (true, "7738d53f6dbd26997c3bd87b90d175f425eb5ad50f41334625e52f6f223735b9").2.toList) := by kernel_rfl
theorem kc2 : false = Tryz.prog.looks [] := by kernel_rfl
theorem kc3 : false = Rows.pushencSticksRow.goesBy Tryz.prog := by kernel_rfl
theorem kc4 : (Tryz.f3.params.toList.all fun t => !Tryz.prog.wantsStandIn t) = true := by kernel_rfl
theorem kc5 : Tryz.prog.funcNamed Rows.pushencSticksRow.func = some 3 := by kernel_rfl

end Go.Proofs.YtghngklehkkecaeGreatDoor.pushencSticks

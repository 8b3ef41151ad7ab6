/- What is asked of the program as a whole, part 3; no conditions. -/
import Derived.SevenTiedAt
import Derived.Test.YtkilhchobbfjhabGreatDoorEncodeFilesJ2
set_option linter.unusedSectionVars false
set_option linter.unusedSimpArgs false
set_option linter.unusedVariables false
namespace Go.Proofs.YtkilhchobbfjhabGreatDoor.encodeFiles
open Go.Am Go.ChangeShapes Go.WideShapes Go.ChangeAt Go.RowKit

theorem kc0 : Rows.encodeFilesRow.wfByText (OpenSpec.ofChange Rows.encodeFilesSpec) = true := by kernel_rfl
theorem kc1 : Tryz.prog.mainIs = some ((true, "041a6b64b088f169f138d2f59069e4a8f96af14422fbe9f09a0bec2265e59c68").1, (true, "041a6b64b088f169f138d2f59069e4a8f96af14422fbe9f09a0bec2265e59c68").2.toList) := by kernel_rfl
theorem kc2 : false = Tryz.prog.looks [] := by kernel_rfl
theorem kc3 : false = Rows.encodeFilesRow.goesBy Tryz.prog := by kernel_rfl
theorem kc4 : (Tryz.f3.params.toList.all fun t => !Tryz.prog.wantsStandIn t) = true := by kernel_rfl
theorem kc5 : Tryz.prog.funcNamed Rows.encodeFilesRow.func = some 3 := by kernel_rfl

end Go.Proofs.YtkilhchobbfjhabGreatDoor.encodeFiles

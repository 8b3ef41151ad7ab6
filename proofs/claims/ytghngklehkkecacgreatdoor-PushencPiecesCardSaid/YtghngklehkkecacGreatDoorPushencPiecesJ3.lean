/- What is asked of the program as a whole, part 3; no conditions. -/
import Derived.SevenTiedAt
import Derived.Test.YtghngklehkkecacGreatDoorPushencPiecesJ2
set_option linter.unusedSectionVars false
set_option linter.unusedSimpArgs false
set_option linter.unusedVariables false
namespace Go.Proofs.YtghngklehkkecacGreatDoor.pushencPieces
open Go.Am Go.ChangeShapes Go.WideShapes Go.ChangeAt Go.RowKit

theorem kc0 : Rows.pushencPiecesRow.wfByText (OpenSpec.ofChange Rows.pushencPiecesSpec) = true := by kernel_rfl
theorem kc1 : Tryz.prog.mainIs = some ((true, "4b6af446ad682972d07fe6975e99101b19be155135e98b1120f8acb5766ce77e").1, (true, "4b6af446ad682972d07fe6975e99101b19be155135e98b1120f8acb5766ce77e").2.toList) := by kernel_rfl
theorem kc2 : false = Tryz.prog.looks [] := by kernel_rfl
theorem kc3 : false = Rows.pushencPiecesRow.goesBy Tryz.prog := by kernel_rfl
theorem kc4 : (Tryz.f3.params.toList.all fun t => !Tryz.prog.wantsStandIn t) = true := by kernel_rfl
theorem kc5 : Tryz.prog.funcNamed Rows.pushencPiecesRow.func = some 3 := by kernel_rfl

end Go.Proofs.YtghngklehkkecacGreatDoor.pushencPieces

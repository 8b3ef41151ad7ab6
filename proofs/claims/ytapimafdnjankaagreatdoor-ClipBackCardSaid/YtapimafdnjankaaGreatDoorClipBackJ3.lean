/- What is asked of the program as a whole, part 3; no conditions. -/
import Derived.SevenTiedAt
import Derived.Test.YtapimafdnjankaaGreatDoorClipBackJ2
set_option linter.unusedSectionVars false
set_option linter.unusedSimpArgs false
set_option linter.unusedVariables false
namespace Go.Proofs.YtapimafdnjankaaGreatDoor.clipBack
open Go.Am Go.ChangeShapes Go.WideShapes Go.ChangeAt Go.RowKit

theorem kc0 : Rows.clipBackRow.wfByText (OpenSpec.ofChange Rows.clipBackSpec) = true := by kernel_rfl
theorem kc1 : Tryz.prog.mainIs = some ((true, "fb2f2936fba2e648445e05895cd802f11f65596f71bfe97e4c82189382764020").1, (true, "fb2f2936fba2e648445e05895cd802f11f65596f71bfe97e4c82189382764020").2.toList) := by kernel_rfl
theorem kc2 : false = Tryz.prog.looks [] := by kernel_rfl
theorem kc3 : false = Rows.clipBackRow.goesBy Tryz.prog := by kernel_rfl
theorem kc4 : (Tryz.f7.params.toList.all fun t => !Tryz.prog.wantsStandIn t) = true := by kernel_rfl
theorem kc5 : Tryz.prog.funcNamed Rows.clipBackRow.func = some 7 := by kernel_rfl

end Go.Proofs.YtapimafdnjankaaGreatDoor.clipBack

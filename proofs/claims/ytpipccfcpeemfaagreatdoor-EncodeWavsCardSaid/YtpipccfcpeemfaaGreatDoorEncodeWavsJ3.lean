/- What is asked of the program as a whole, part 3; no conditions. -/
import Derived.SevenTiedAt
import Derived.Test.YtpipccfcpeemfaaGreatDoorEncodeWavsJ2
set_option linter.unusedSectionVars false
set_option linter.unusedSimpArgs false
set_option linter.unusedVariables false
namespace Go.Proofs.YtpipccfcpeemfaaGreatDoor.encodeWavs
open Go.Am Go.ChangeShapes Go.WideShapes Go.ChangeAt Go.RowKit

theorem kc0 : Rows.encodeWavsRow.wfByText (OpenSpec.ofChange Rows.encodeWavsSpec) = true := by kernel_rfl
theorem kc1 : Tryz.prog.mainIs = some ((true, "12a7b7265adbc1c32c6d64d1430ca223bc6986b1a0eda367b0706da606fe85c4").1, (true, "12a7b7265adbc1c32c6d64d1430ca223bc6986b1a0eda367b0706da606fe85c4").2.toList) := by kernel_rfl
theorem kc2 : false = Tryz.prog.looks [] := by kernel_rfl
theorem kc3 : false = Rows.encodeWavsRow.goesBy Tryz.prog := by kernel_rfl
theorem kc4 : (Tryz.f3.params.toList.all fun t => !Tryz.prog.wantsStandIn t) = true := by kernel_rfl
theorem kc5 : Tryz.prog.funcNamed Rows.encodeWavsRow.func = some 3 := by kernel_rfl

end Go.Proofs.YtpipccfcpeemfaaGreatDoor.encodeWavs

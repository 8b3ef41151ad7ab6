/- What is asked of the program as a whole, part 3; no conditions. -/
import Derived.SevenTiedAt
import Derived.Test.YtpipccfcpeemfabGreatDoorEncodeNamesJ2
set_option linter.unusedSectionVars false
set_option linter.unusedSimpArgs false
set_option linter.unusedVariables false
namespace Go.Proofs.YtpipccfcpeemfabGreatDoor.encodeNames
open Go.Am Go.ChangeShapes Go.WideShapes Go.ChangeAt Go.RowKit

theorem kc0 : Rows.encodeNamesRow.wfByText (OpenSpec.ofChange Rows.encodeNamesSpec) = true := by kernel_rfl
theorem kc1 : Tryz.prog.mainIs = some ((true, "90887f9ad70a92e48cccf6d81b261efd14ec3c175a48e80f5382fc1ef1d2b738").1, (true, "90887f9ad70a92e48cccf6d81b261efd14ec3c175a48e80f5382fc1ef1d2b738").2.toList) := by kernel_rfl
theorem kc2 : false = Tryz.prog.looks [] := by kernel_rfl
theorem kc3 : false = Rows.encodeNamesRow.goesBy Tryz.prog := by kernel_rfl
theorem kc4 : (Tryz.f3.params.toList.all fun t => !Tryz.prog.wantsStandIn t) = true := by kernel_rfl
theorem kc5 : Tryz.prog.funcNamed Rows.encodeNamesRow.func = some 3 := by kernel_rfl

end Go.Proofs.YtpipccfcpeemfabGreatDoor.encodeNames

/- What is asked of the program as a whole, part 1; no conditions. -/
import Derived.JoinedOf
import Derived.Test.YtapimafdnjankaaGreatDoorClipOnlyI5
set_option linter.unusedSectionVars false
set_option linter.unusedSimpArgs false
set_option linter.unusedVariables false
namespace Go.Proofs.YtapimafdnjankaaGreatDoor.clipOnly
open Go.Am Go.ChangeShapes Go.WideShapes Go.ChangeAt Go.RowKit

theorem jf0 : laidOutB Tryz.prog = true := by kernel_rfl
theorem jf1 : mapsRowed Tryz.prog = true := by kernel_rfl
theorem jf2 : (Rows.clipOnlyRow.inPlace == Tryz.prog.inPlace 5) = true := by kernel_rfl
theorem jf3 : (Rows.clipOnlyRow.unfollowed == Tryz.prog.unfollowed 5) = true := by kernel_rfl
theorem jf4 : (Rows.clipOnlyRow.recurses == Tryz.prog.recurses 5) = true := by kernel_rfl
theorem jf5 : (Rows.clipOnlyRow.named == Tryz.prog.varsNamed 5) = true := by kernel_rfl
theorem jf6 : (Rows.clipOnlyRow.plainKeys == Tryz.prog.plainKeys) = true := by kernel_rfl

end Go.Proofs.YtapimafdnjankaaGreatDoor.clipOnly

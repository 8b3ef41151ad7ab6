/- What is asked of the program as a whole, part 1; no conditions. -/
import Derived.JoinedOf
import Derived.Test.YtapimafdnjankaaGreatDoorClipBackI5
set_option linter.unusedSectionVars false
set_option linter.unusedSimpArgs false
set_option linter.unusedVariables false
namespace Go.Proofs.YtapimafdnjankaaGreatDoor.clipBack
open Go.Am Go.ChangeShapes Go.WideShapes Go.ChangeAt Go.RowKit

theorem jf0 : laidOutB Tryz.prog = true := by kernel_rfl
theorem jf1 : mapsRowed Tryz.prog = true := by kernel_rfl
theorem jf2 : (Rows.clipBackRow.inPlace == Tryz.prog.inPlace 7) = true := by kernel_rfl
theorem jf3 : (Rows.clipBackRow.unfollowed == Tryz.prog.unfollowed 7) = true := by kernel_rfl
theorem jf4 : (Rows.clipBackRow.recurses == Tryz.prog.recurses 7) = true := by kernel_rfl
theorem jf5 : (Rows.clipBackRow.named == Tryz.prog.varsNamed 7) = true := by kernel_rfl
theorem jf6 : (Rows.clipBackRow.plainKeys == Tryz.prog.plainKeys) = true := by kernel_rfl

end Go.Proofs.YtapimafdnjankaaGreatDoor.clipBack

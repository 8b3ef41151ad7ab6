/- What is asked of the program as a whole, part 1; no conditions. -/
import Derived.JoinedOf
import Derived.Test.YtpfhdmbamkdnpacGreatDoorLinesOneI6
set_option linter.unusedSectionVars false
set_option linter.unusedSimpArgs false
set_option linter.unusedVariables false
namespace Go.Proofs.YtpfhdmbamkdnpacGreatDoor.linesOne
open Go.Am Go.ChangeShapes Go.WideShapes Go.ChangeAt Go.RowKit

theorem jf0 : laidOutB Tryz.prog = true := by kernel_rfl
theorem jf1 : mapsRowed Tryz.prog = true := by kernel_rfl
theorem jf2 : (Rows.linesOneRow.inPlace == Tryz.prog.inPlace 3) = true := by kernel_rfl
theorem jf3 : (Rows.linesOneRow.unfollowed == Tryz.prog.unfollowed 3) = true := by kernel_rfl
theorem jf4 : (Rows.linesOneRow.recurses == Tryz.prog.recurses 3) = true := by kernel_rfl
theorem jf5 : (Rows.linesOneRow.named == Tryz.prog.varsNamed 3) = true := by kernel_rfl
theorem jf6 : (Rows.linesOneRow.plainKeys == Tryz.prog.plainKeys) = true := by kernel_rfl

end Go.Proofs.YtpfhdmbamkdnpacGreatDoor.linesOne

/- What is asked of the program as a whole, part 1; no conditions. -/
import Derived.JoinedOf
import Derived.Test.YtnkkbheggkaopaaDoorLinesReadsI3
set_option linter.unusedSectionVars false
set_option linter.unusedSimpArgs false
set_option linter.unusedVariables false
namespace Go.Proofs.YtnkkbheggkaopaaDoor.linesReads
open Go.Am Go.ChangeShapes Go.WideShapes Go.ChangeAt Go.RowKit

theorem jf0 : laidOutB Tryd.prog = true := by kernel_rfl
theorem jf1 : mapsRowed Tryd.prog = true := by kernel_rfl
theorem jf2 : (Rows.linesReadsRow.inPlace == Tryd.prog.inPlace 3) = true := by kernel_rfl
theorem jf3 : (Rows.linesReadsRow.unfollowed == Tryd.prog.unfollowed 3) = true := by kernel_rfl
theorem jf4 : (Rows.linesReadsRow.recurses == Tryd.prog.recurses 3) = true := by kernel_rfl
theorem jf5 : (Rows.linesReadsRow.named == Tryd.prog.varsNamed 3) = true := by kernel_rfl
theorem jf6 : (Rows.linesReadsRow.plainKeys == Tryd.prog.plainKeys) = true := by kernel_rfl

end Go.Proofs.YtnkkbheggkaopaaDoor.linesReads

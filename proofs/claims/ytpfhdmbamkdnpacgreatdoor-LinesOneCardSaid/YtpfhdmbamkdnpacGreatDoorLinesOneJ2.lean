/- What is asked of the program as a whole, part 2; no conditions. -/
import Derived.JoinedOf
import Derived.Test.YtpfhdmbamkdnpacGreatDoorLinesOneJ1
set_option linter.unusedSectionVars false
set_option linter.unusedSimpArgs false
set_option linter.unusedVariables false
namespace Go.Proofs.YtpfhdmbamkdnpacGreatDoor.linesOne
open Go.Am Go.ChangeShapes Go.WideShapes Go.ChangeAt Go.RowKit

theorem jf7 : Tryz.prog.stopsHeard = true := by kernel_rfl
theorem jf8 : Tryz.prog.mayEnter = true := by kernel_rfl
theorem jf9 : (Rows.linesOneRow.lifted == Tryz.prog.liftsFinal) = true := by kernel_rfl
theorem Qqs : (Tryz.prog.make == some Rows.linesOneRow.make) = true := by kernel_rfl
theorem jta {a b : Bool} (ha : a = true) (hb : b = true) : (a && b) = true := by rw [ha, hb]; rfl
theorem closed : joinedFacts Tryz.prog 3 Tryz.f3 Rows.linesOneSpec Rows.linesOneRow = true := by
  unfold joinedFacts
  repeat (refine jta ?_ ?_)
  all_goals first | with_reducible exact jf0 | with_reducible exact jf1 | with_reducible exact jf2 | with_reducible exact jf3 | with_reducible exact jf4 | with_reducible exact jf5 | with_reducible exact jf6 | with_reducible exact jf7 | with_reducible exact jf8 | with_reducible exact jf9 | with_reducible exact Qqs | kernel_rfl

end Go.Proofs.YtpfhdmbamkdnpacGreatDoor.linesOne

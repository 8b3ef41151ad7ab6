/- What the functions that the law reaches return in this program, part 6; no conditions. -/
import Derived.Test.YtpfhdmbamkdnpacGreatDoorLinesOneI5
set_option linter.unusedSectionVars false
set_option linter.unusedSimpArgs false
set_option linter.unusedVariables false
namespace Go.Proofs.YtpfhdmbamkdnpacGreatDoor.linesOne
open Go.Am Go.ChangeShapes Go.WideShapes Go.ChangeAt Go.RowKit

set_option maxRecDepth 100000
variable {m : Int} {u1 u2 : {v : Value // isIf v}}
theorem Qo7 : VC (pg m u1 u2) 8 [clA 1 8 1 Qfb, .str []] (.tup [bs Qfx, .int .i64 0]) := VC.of_run (ow := owE) Qay XJ Qfj 40 (by kernel_rfl)
theorem Qo6 : VC (pg m u1 u2) 28 [bs Qfx, .str []] (.tup [.agg [.int .i64 1, .int .i64 1, .int .i64 8, .int .i64 1, .int .i64 2, .int .i64 34, QL [6, 6]], .int .i64 0]) := VC.of_run (ow := owE) Qay XJ Qfj 40 (by kernel_rfl)
theorem Qo4 : VC (pg m u1 u2) 29 [bs Qfx, .str []] (.tup [.agg [.int .i64 0, .int .u8 0, .int .i64 0, .int .i64 2], .int .i64 0]) := VC.of_run (ow := owE) Qay XJ Qfj 40 (by kernel_rfl)
def QpL : Ev := QoK [(8, [clA 1 8 1 Qfb, .str []], .tup [bs Qfx, .int .i64 0]), (28, [bs Qfx, .str []], .tup [.agg [.int .i64 1, .int .i64 1, .int .i64 8, .int .i64 1, .int .i64 2, .int .i64 34, QL [6, 6]], .int .i64 0]), (29, [bs Qfx, .str []], .tup [.agg [.int .i64 0, .int .u8 0, .int .i64 0, .int .i64 2], .int .i64 0]), (6, [QhR.av], .tup [.str Qj3, .int .i64 0]), (10, [.str Qj3], .tup [QhR.av, .int .i64 0]), (7, [QhR.av, QhR.av], .bool true)]
theorem QmI : Qa9 (pg m u1 u2) QpL := Qa9.list (List.forall_mem_cons.2 ⟨Qo7, List.forall_mem_cons.2 ⟨Qo6, List.forall_mem_cons.2 ⟨Qo4, List.forall_mem_cons.2 ⟨(QnC Qcn), List.forall_mem_cons.2 ⟨(QnQ Qgs), List.forall_mem_cons.2 ⟨(QnL Qcm), (fun _ h => by cases h)⟩⟩⟩⟩⟩⟩)
theorem Qoc : VC (pg m u1 u2) 4 [] (.bool true) := VC.of_run (ow := owE) Qay XJ QmI 5 (by kernel_rfl)
theorem QcM : QhN (pg m u1 u2) 3 := Qec Jq Qoc Qe0 Qcn Qcm

end Go.Proofs.YtpfhdmbamkdnpacGreatDoor.linesOne

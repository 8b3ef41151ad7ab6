/- What the functions that the law reaches return in this program, part 6; no conditions. -/
import Derived.Test.YtpfhdmbamkdnpabGreatDoorLinesBackI5
set_option linter.unusedSectionVars false
set_option linter.unusedSimpArgs false
set_option linter.unusedVariables false
namespace Go.Proofs.YtpfhdmbamkdnpabGreatDoor.linesBack
open Go.Am Go.ChangeShapes Go.WideShapes Go.ChangeAt Go.RowKit

set_option maxRecDepth 100000
variable {m : Int} {u1 u2 : {v : Value // isIf v}}
theorem Qo2 : VC (pg m u1 u2) 9 [clA 1 8 1 Qfc, .str []] (.tup [bs Qfx, .int .i64 0]) := VC.of_run (ow := owE) Qay XJ Qfj 40 (by kernel_rfl)
theorem Qo1 : VC (pg m u1 u2) 29 [bs Qfx, .str []] (.tup [.agg [.int .i64 1, .int .i64 1, .int .i64 8, .int .i64 1, .int .i64 2, .int .i64 34, QL [6, 6]], .int .i64 0]) := VC.of_run (ow := owE) Qay XJ Qfj 40 (by kernel_rfl)
theorem QoZ : VC (pg m u1 u2) 30 [bs Qfx, .str []] (.tup [.agg [.int .i64 0, .int .u8 0, .int .i64 0, .int .i64 2], .int .i64 0]) := VC.of_run (ow := owE) Qay XJ Qfj 40 (by kernel_rfl)
def QpG : Ev := QoF [(9, [clA 1 8 1 Qfc, .str []], .tup [bs Qfx, .int .i64 0]), (29, [bs Qfx, .str []], .tup [.agg [.int .i64 1, .int .i64 1, .int .i64 8, .int .i64 1, .int .i64 2, .int .i64 34, QL [6, 6]], .int .i64 0]), (30, [bs Qfx, .str []], .tup [.agg [.int .i64 0, .int .u8 0, .int .i64 0, .int .i64 2], .int .i64 0]), (5, [QhS.av], .tup [.str Qj0, .int .i64 0]), (7, [.str Qj0], .tup [QhS.av, .int .i64 0]), (8, [QhS.av, QhS.av], .bool true)]
theorem QmB : Qa9 (pg m u1 u2) QpG := Qa9.list (List.forall_mem_cons.2 ⟨Qo2, List.forall_mem_cons.2 ⟨Qo1, List.forall_mem_cons.2 ⟨QoZ, List.forall_mem_cons.2 ⟨(Qnv Qcp), List.forall_mem_cons.2 ⟨(QnJ Qcq), List.forall_mem_cons.2 ⟨(QnE Qco), (fun _ h => by cases h)⟩⟩⟩⟩⟩⟩)
theorem Qn4 : VC (pg m u1 u2) 4 [] (.bool true) := VC.of_run (ow := owE) Qay XJ QmB 5 (by kernel_rfl)
theorem Qb5 : QhO (pg m u1 u2) 3 := Qdx X9 Qn4 Qcp Qe0 Qcq Qco

end Go.Proofs.YtpfhdmbamkdnpabGreatDoor.linesBack

/- What the functions that the law reaches return in this program, part 6; no conditions. -/
import Derived.Test.YtpfhdmbamkdnpaaGreatDoorLinesNamesI5
set_option linter.unusedSectionVars false
set_option linter.unusedSimpArgs false
set_option linter.unusedVariables false
namespace Go.Proofs.YtpfhdmbamkdnpaaGreatDoor.linesNames
open Go.Am Go.ChangeShapes Go.WideShapes Go.ChangeAt Go.RowKit

set_option maxRecDepth 100000
variable {m : Int} {u1 u2 : {v : Value // isIf v}}
theorem Qno : XI (pg m u1 u2) Qpm := XI.or (Ql8 Qcb Jb JC Qca) (XI.list (List.forall_mem_cons.2 ⟨Qpz, List.forall_mem_cons.2 ⟨QoF, (fun _ h => by cases h)⟩⟩))
theorem QmB : XI (pg m u1 u2) (evF ((pg m u1 u2)).G owE agE Qpb Qpm 5) := Qbe X2 Qm7 Qno 5
theorem QnK : QhQ (evS ((pg m u1 u2)).G owE (evF ((pg m u1 u2)).G owE agE Qpb Qpm 5) 26 (Qn 4 5 6 7 8 9 31 3 9 5) ⟨[], []⟩) = some [.str Qew, .int .i64 0, .int .i64 24, .int .i64 2] := by kernel_rfl
theorem Qh7 : VC (pg m u1 u2) 17 [bs (List.replicate 100001 0), .str []] (.tup [.agg [.int .i64 0, .int .i64 0, .int .i64 0, .int .i64 0, .int .i64 0, .int .i64 0, .list 0 []], .int .i64 4]) := QkH Qbm (show Z2 Tryz.prog 26 = some (some 7) by kernel_rfl) (by rw [List.length_replicate]; decide) (by rw [List.length_replicate]; decide)
theorem Qle : VC (pg m u1 u2) 8 [bs (List.replicate 100001 0), .str []] (.tup [Rp.zero.av, .int .i64 4]) := Qns QeD (show Z2 Tryz.prog 31 = some (some 11) by kernel_rfl) (by decide) Qh7
theorem Qa1 : QlD (pg m u1 u2) 3 := QcD XF QmB QnK Qle JC QnL

end Go.Proofs.YtpfhdmbamkdnpaaGreatDoor.linesNames

/- What the functions that the law reaches return in this program, part 8; no conditions. -/
import Derived.Test.YthckgihcbjpjeabGreatDoorLinesFilesI7
set_option linter.unusedSectionVars false
set_option linter.unusedSimpArgs false
set_option linter.unusedVariables false
namespace Go.Proofs.YthckgihcbjpjeabGreatDoor.linesFiles
open Go.Am Go.ChangeShapes Go.WideShapes Go.ChangeAt Go.RowKit

set_option maxRecDepth 100000
variable {m : Int} {u1 u2 : {v : Value // isIf v}}
theorem Qvg : Qdq (pg m u1 u2) QAJ := Qdq.list (List.forall_mem_cons.2 ⟨QzQ, List.forall_mem_cons.2 ⟨QzP, List.forall_mem_cons.2 ⟨QzN, List.forall_mem_cons.2 ⟨(Qw9 Qfi), List.forall_mem_cons.2 ⟨(QxC Qfj), List.forall_mem_cons.2 ⟨(Qxy Qfg), (fun _ h => by cases h)⟩⟩⟩⟩⟩⟩)
theorem Qyh : VC (pg m u1 u2) 4 [] (.bool true) := VC.of_run (ow := owE) QfN Qb5 Qvg 5 (by kernel_rfl)
theorem QdB : Qui (pg m u1 u2) 3 := Qf2 QaW Qyh Qlg Qp1 J2 QdD Qfg Qfi Qfj Qfh Qbk

end Go.Proofs.YthckgihcbjpjeabGreatDoor.linesFiles

/- What the functions that the law reaches return in this program, part 3; no conditions. -/
import Derived.Test.YtnkkbheggkaopaaDoorLinesReadsI2
set_option linter.unusedSectionVars false
set_option linter.unusedSimpArgs false
set_option linter.unusedVariables false
namespace Go.Proofs.YtnkkbheggkaopaaDoor.linesReads
open Go.Am Go.ChangeShapes Go.WideShapes Go.ChangeAt Go.RowKit

set_option maxRecDepth 100000
variable {m : Int} {u1 u2 : {v : Value // isIf v}}
theorem Qdd : QcZ (pg m u1 u2) 10 := QfJ JH Qdf
theorem Jj : Body (pg m u1 u2) 9 84 [.tmp 2] (Qg 20 21 22 31 29) := mkB (A := Tryd.prog) rfl Tryd.func9 (by kernel_rfl)
theorem Xt : ZC (pg m u1 u2) 9 := Qer Jj Qci Qch JS
theorem XZ : Body (pg m u1 u2) 26 18 [.tmp 2] (QL 26 5) := mkB (A := Tryd.prog) rfl Tryd.func26 (by kernel_rfl)
theorem QbG : QeT (pg m u1 u2) 26 := Qdz XZ
theorem XM : Body (pg m u1 u2) 15 84 [.tmp 2] (Q6 26 31 23 29) := mkB (A := Tryd.prog) rfl Tryd.func15 (by kernel_rfl)
theorem XP : Qbz (pg m u1 u2) 15 := Qcu XM QbG
theorem JG : Body (pg m u1 u2) 5 12 [.tmp 2, .tmp 3] (QS 9 15 31) := mkB (A := Tryd.prog) rfl Tryd.func5 (by kernel_rfl)
theorem Qdc : Qc1 (pg m u1 u2) 5 := QfI JG Xt XP
theorem XL : Body (pg m u1 u2) 17 52 [.tmp 2] (Q5 3) := mkB (A := Tryd.prog) rfl Tryd.func17 (by kernel_rfl)
theorem Qa1 : Qc2 (pg m u1 u2) 17 := Qct XL
theorem JI : Body (pg m u1 u2) 7 74 [.cell 2 31, .tmp 3] (QE 17 9 15 31) := mkB (A := Tryd.prog) rfl Tryd.func7 (by kernel_rfl)
theorem Qde : QeS (pg m u1 u2) 7 := QfK JI Qa1 Xt XP (show QaW Tryd.prog 31 = some (some 11) by kernel_rfl)
theorem Xi : Body (pg m u1 u2) 3 68 [.tmp 4] (Qt 4 5 6 7 8 9 10 31) := mkB (A := Tryd.prog) rfl Tryd.func3 (by kernel_rfl)
theorem JT : Qd7 (pg m u1 u2) 3 := QaM Xi Qdk Qdc Qdl Qde Xu Xt Qdd

end Go.Proofs.YtnkkbheggkaopaaDoor.linesReads

/- What the functions that the law reaches return in this program, part 2; no conditions. -/
import Derived.Test.YtghngklehkkecaaGreatDoorTopFileI1
set_option linter.unusedSectionVars false
set_option linter.unusedSimpArgs false
set_option linter.unusedVariables false
namespace Go.Proofs.YtghngklehkkecaaGreatDoor.topFile
open Go.Am Go.ChangeShapes Go.WideShapes Go.ChangeAt Go.RowKit

theorem Qve : Body pg 155 27 [.tmp 4, .cell 5 201, .tmp 6] (Qfj 173 174 201) := mkB Tryz.func155 (by kernel_rfl)
theorem QtU : Qsc pg 155 := QzK Qve (show Zu Tryz.prog 201 = some (some 33) by kernel_rfl) QgY Qg1
theorem QmR : Body pg 171 10 [.tmp 2, .tmp 3] X6 := mkB Tryz.func171 (by kernel_rfl)
theorem QlL : Qnn pg 171 := Qq8 QmR
theorem QmQ : Body pg 172 16 [.tmp 4] J5 := mkB Tryz.func172 (by kernel_rfl)
theorem QlK : Qnm pg 172 := Qq7 QmQ
theorem QmS : Body pg 154 19 [.tmp 4, .tmp 5] (QbS 171 172) := mkB Tryz.func154 (by kernel_rfl)
theorem QfA : Qh8 pg 154 := Qq9 QmS QlL QlK
theorem QrS : Body pg 117 21 [.cell 4 203, .tmp 5] (QdU 152 78 203 201) := mkB Tryz.func117 (by kernel_rfl)
theorem Qiw : QtG pg 117 := Qya QrS (show Zu Tryz.prog 203 = some (some 35) by kernel_rfl) QkG
theorem QmZ : Body pg 153 24 [.tmp 2] (QbX 152 203 201) := mkB Tryz.func153 (by kernel_rfl)
theorem QfD : Qie pg 153 := Qru QmZ QkG
theorem Qjt : Body pg 137 44 [.tmp 4, .cell 5 203, .tmp 6] (Qat 153 154 163 203 201) := mkB Tryz.func137 (by kernel_rfl)
theorem Qix : QgU pg 137 := Qmy Qjt (show Zu Tryz.prog 203 = some (some 35) by kernel_rfl) QfD QfA QlI
theorem QpG : Body pg 118 46 [.tmp 4, .cell 5 203, .tmp 6] (Qc1 153 154 155 203 201) := mkB Tryz.func118 (by kernel_rfl)
theorem QnY : Qsj pg 118 := Qu2 QpG (show Zu Tryz.prog 203 = some (some 35) by kernel_rfl) QfD QfA QtU
theorem QrL : Body pg 138 10 [.tmp 2] QbB := mkB Tryz.func138 (by kernel_rfl)
theorem Qp7 : QyG pg 138 := QxB QrL
theorem QrM : Body pg 119 11 [.tmp 2] QbC := mkB Tryz.func119 (by kernel_rfl)
theorem Qp8 : Qr5 pg 119 := QxC QrM
theorem Qbn : Body pg 157 8 [.tmp 2] (Zv 21) := mkB Tryz.func157 (by kernel_rfl)
theorem Qiu : Qid 21 pg 157 := Qx5 Qbn
theorem Qyr : Body pg 162 39 [] QgN := mkB Tryz.func162 (by kernel_rfl)
theorem QvI : QCJ pg 162 := QBV Qyr
theorem QrK : Body pg 156 22 [.tmp 4] Xq := mkB Tryz.func156 (by kernel_rfl)
theorem Qio : Qh6 pg 156 := Qxb QrK
theorem Qys : Body pg 136 32 [.tmp 4, .tmp 5] (QgO 156 157 162) := mkB Tryz.func136 (by kernel_rfl)
theorem QvJ : Qnk pg 136 := QBW Qys Qio Qiu QvI
theorem Qjq : Body pg 135 30 [.tmp 4] (Qaq 74 51 42) := mkB Tryz.func135 (by kernel_rfl)
theorem Qir : Qln pg 135 := Qmk Qjq QaX Qaw
theorem QeC : Body pg 15 28 [.tmp 4] (Xz 46 47 42) := mkB Tryz.func15 (by kernel_rfl)
theorem QlG : Qln pg 15 := QqH QeC Qfx QlH
theorem QhG : Body pg 102 83 [.tmp 6, .tmp 7] (JZ 135 136 117 137 138 42 78 204 203 129) := mkB Tryz.func102 (by kernel_rfl)
theorem Qhp : Qsf pg 102 := Qkc QhG Qir QvJ Qiw Qix Qp7
theorem QrJ : Body pg 158 40 [] QbA := mkB Tryz.func158 (by kernel_rfl)
theorem Qp6 : Qr4 pg 158 := Qxa QrJ
theorem Qvd : Body pg 120 32 [.tmp 4, .tmp 5] (Qfi 156 157 158) := mkB Tryz.func120 (by kernel_rfl)
theorem QtS : QjE pg 120 := QzH Qvd Qio Qiu Qp6
theorem QgK : Body pg 79 84 [.tmp 6, .tmp 7] (JC 117 119 118 120 51 42 78 204 203 21) := mkB Tryz.func79 (by kernel_rfl)
theorem Qgl : QyJ pg 79 := Qi7 QgK Qiw Qp8 QnY QtS Qaw
theorem Qjk : Body pg 94 32 [.tmp 4, .tmp 5] (Qan 126) := mkB Tryz.func94 (by kernel_rfl)
theorem QaV : Qah pg 94 := Ql9 Qjk QeG
theorem Qhh : Body pg 64 8 [.cell 2 42] (XN 24 42) := mkB Tryz.func64 (by kernel_rfl)
theorem Qg5 : Qag pg 64 := QuZ Qhh (show Zu Tryz.prog 42 = some (some 2) by kernel_rfl)
theorem Qex : Body pg 16 8 [.cell 2 42] (Xw 24 42) := mkB Tryz.func16 (by kernel_rfl)

end Go.Proofs.YtghngklehkkecaaGreatDoor.topFile

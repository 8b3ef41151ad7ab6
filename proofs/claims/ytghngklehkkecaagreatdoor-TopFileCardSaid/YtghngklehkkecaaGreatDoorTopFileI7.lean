/- What the functions that the law reaches return in this program, part 7; no conditions. -/
import Derived.Test.YtghngklehkkecaaGreatDoorTopFileI6
set_option linter.unusedSectionVars false
set_option linter.unusedSimpArgs false
set_option linter.unusedVariables false
namespace Go.Proofs.YtghngklehkkecaaGreatDoor.topFile
open Go.Am Go.ChangeShapes Go.WideShapes Go.ChangeAt Go.RowKit

theorem Qkz : Body pg 65 11 [.tmp 2] (Xs 89 90 56) := mkB Tryz.func65 (by kernel_rfl)
theorem QeH : Qgh pg 65 := QoI Qkz Qdp Qfz
theorem QmP : Body pg 23 35 [.cell 4 56, .tmp 5] (Z9 18 24 56) := mkB Tryz.func23 (by kernel_rfl)
theorem QlJ : Qnl pg 23 := Qq1 QmP Qbr (show Zu Tryz.prog 56 = some (some 5) by kernel_rfl)
theorem Qky : Body pg 25 63 [.tmp 2, .tmp 3] (JA 65 56 66 56 5 0) := mkB Tryz.func25 (by kernel_rfl)
theorem QjV : QjG pg 25 := QoH Qky QeH QaR JQ (show pg.G.lookup 0 = some QCM by rfl)
theorem Qjs : Body pg 29 5 [.tmp 2] Qas := mkB Tryz.func29 (by kernel_rfl)
theorem Qis : QyF pg 29 := Qmm Qjs
theorem Qde : Body pg 28 26 [.tmp 4] (Z0 3) := mkB Tryz.func28 (by kernel_rfl)
theorem QlN : QyI 29 pg 28 := Qre Qde Qis
theorem QmU : Body pg 30 17 [.tmp 2] (QbT 5) := mkB Tryz.func30 (by kernel_rfl)
theorem QlM : Qsd pg 30 := Qrd QmU
theorem QmV : Body pg 9 62 [.tmp 4, .tmp 5] (Zq 23 24 25 26 28 29 27 30 24 56 28) := mkB Tryz.func9 (by kernel_rfl)
theorem QfB : Qnp pg 9 := Qrf QmV QlJ QfC QjV QeI QlN QlA QlM
theorem QkA : Body pg 71 25 [.tmp 4, .tmp 5] (Xt 26 86) := mkB Tryz.func71 (by kernel_rfl)
theorem QjW : Qia pg 71 := Qo3 QkA QeI Qcp
theorem Qjm : Body pg 43 17 [.tmp 2, .tmp 3] (Jc 65 91 56) := mkB Tryz.func43 (by kernel_rfl)
theorem QaW : QaT pg 43 := Qme Qjm QeH Qcn
theorem Qps : Body pg 42 69 [.tmp 4, .tmp 5] (QcU 82 66 68 3) := mkB Tryz.func42 (by kernel_rfl)
theorem Qdn : Qc5 pg 42 := Quc Qps Qip JQ Qfv
theorem JJ : Body pg 125 18 [.tmp 4] QP := mkB Tryz.func125 (by kernel_rfl)
theorem QjT : Qll pg 125 := Qoa JJ
theorem Qfa : Body pg 88 8 [.tmp 4] (XR 125) := mkB Tryz.func88 (by kernel_rfl)
theorem QeW : Qll pg 88 := Qgn Qfa QjT
theorem QmO : Body pg 41 86 [.cell 2 56, .tmp 3] (Z8 88 82 66 89 90 56 128 0) := mkB Tryz.func41 (by kernel_rfl)
theorem Qco : Qen pg 41 := Qq0 QmO QeW Qip JQ Qdp Qfz (show Zu Tryz.prog 56 = some (some 5) by kernel_rfl) (show pg.G.lookup 0 = some QCM by rfl)
theorem Qpx : Body pg 8 21 [.tmp 4, .tmp 5] (QaI 22 9 24) := mkB Tryz.func8 (by kernel_rfl)
theorem Qg2 : QtF pg 8 := QuL Qpx QtR QfB
theorem QgL : Body pg 121 18 [.tmp 4] (Xf 86) := mkB Tryz.func121 (by kernel_rfl)
theorem Qb4 : QtC pg 121 := Qjf QgL Qcp
theorem Qkx : Body pg 168 78 [.tmp 2, .tmp 3] (Qbg 121 179 180 86 5) := mkB Tryz.func168 (by kernel_rfl)
theorem QjU : QbZ pg 168 := QoF Qkx Qb4
theorem QrU : Body pg 169 43 [.tmp 2, .tmp 3] (QdV 121 122 123 86 5 213) := mkB Tryz.func169 (by kernel_rfl)
theorem Qqc : QbZ pg 169 := Qyy QrU Qb4
theorem Qpr : Body pg 147 19 [.tmp 2, .tmp 3] (QcT 168 169) := mkB Tryz.func147 (by kernel_rfl)
theorem QnN : QbZ pg 147 := Qt5 Qpr QjU Qqc
theorem Qpq : Body pg 108 4 [.tmp 2] (QcS 146 28) := mkB Tryz.func108 (by kernel_rfl)
theorem QnM : Qr6 146 pg 108 := Qt4 Qpq
theorem QmG : QAJ pg 70 18 [.cell 2 3, .cell 3 29] (Qbj 108 3 29) := ⟨Tryz.f70, Tryz.func70, by kernel_rfl, by kernel_rfl, by kernel_rfl, by kernel_rfl⟩
theorem Qkr : Body pg 146 35 [] (Jw 147) := mkB Tryz.func146 (by kernel_rfl)
theorem Qfu : Qgi pg 70 := Qql QmG QnM Qkr QnN (show Zu Tryz.prog 3 = some none by kernel_rfl) (show Zu Tryz.prog 29 = some none by kernel_rfl)
theorem Qks : Body pg 36 27 [.tmp 2, .tmp 3] (Qbe 80 28) := mkB Tryz.func36 (by kernel_rfl)
theorem QjR : QjK pg 36 := Qn6 Qks
theorem Qpl : Body pg 11 130 [.cell 4 24, .tmp 5] (QcO 31 32 33 34 35 36 24 72 42 78 21) := mkB Tryz.func11 (by kernel_rfl)
theorem Qf3 : Body pg 31 62 [.cell 2 72, .tmp 3] (X3 70 41 43 72) := mkB Tryz.func31 (by kernel_rfl)

end Go.Proofs.YtghngklehkkecaaGreatDoor.topFile

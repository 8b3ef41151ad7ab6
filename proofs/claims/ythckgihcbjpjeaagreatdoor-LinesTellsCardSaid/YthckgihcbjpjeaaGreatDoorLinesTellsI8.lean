/- What the functions that the law reaches return in this program, part 8; no conditions. -/
import Derived.Test.YthckgihcbjpjeaaGreatDoorLinesTellsI7
set_option linter.unusedSectionVars false
set_option linter.unusedSimpArgs false
set_option linter.unusedVariables false
namespace Go.Proofs.YthckgihcbjpjeaaGreatDoor.linesTells
open Go.Am Go.ChangeShapes Go.WideShapes Go.ChangeAt Go.RowKit

theorem QpE : Qf pg 17 69 [.tmp 4, .tmp 5] (Qad 30 31 38 3) := mkB Tryz.func17 (by kernel_rfl)
theorem QfN : Qan pg 17 := QqE QpE Qql QeQ QfO
theorem Qi2 : Qf pg 69 31 [.tmp 2, .tmp 3] (QaY 38 110 3) := mkB Tryz.func69 (by kernel_rfl)
theorem QgZ : Qf pg 110 8 [.tmp 3] XP := mkB Tryz.func110 (by kernel_rfl)
theorem Qii : Qr7 pg 69 := QlE Qi2 QfO QgZ
theorem Qmx : Qf pg 8 108 [.cell 4 28, .tmp 5] (QQ 13 14 15 16 17 28 25) := mkB Tryz.func8 (by kernel_rfl)
theorem Qcs : Qbf pg 8 := QqD Qmx (show ZE Tryz.prog 28 = some (some 7) by kernel_rfl) QbT Qcu QeJ J6 QfN
theorem Qmu : Qf pg 63 62 [.cell 2 126, .tmp 3] (Z2 13 14 16 126) := mkB Tryz.func63 (by kernel_rfl)
theorem QjA : QmS pg 63 := Qnz Qmu (show ZE Tryz.prog 126 = some (some 11) by kernel_rfl) QbT Qcu J6
theorem Qpx : Qf pg 39 130 [.cell 4 88, .tmp 5] (QcK 63 64 65 66 67 68 88 126 106 108 21) := mkB Tryz.func39 (by kernel_rfl)
theorem QgX : Qf pg 64 51 [.tmp 6] (QY 15) := mkB Tryz.func64 (by kernel_rfl)
theorem Qgf : Qf pg 65 78 [.tmp 4, .tmp 5] (ZJ 17) := mkB Tryz.func65 (by kernel_rfl)
theorem Qk5 : Qeb pg 39 := Qp3 Qpx (show ZE Tryz.prog 88 = some (some 4) by kernel_rfl) QjA QgX QeJ Qgf QfN Qij Qc0 Qig
theorem Qmv : Qf pg 18 14 [.tmp 4] (QaI 39 88) := mkB Tryz.func18 (by kernel_rfl)
theorem QjB : Qco pg 18 := QnA Qmv Qk5
theorem QgY : Qf pg 70 56 [.tmp 8, .tmp 9] (ZX 67 71) := mkB Tryz.func70 (by kernel_rfl)
theorem QhD : QBE pg 70 := QjZ QgY Qc0 Qk4
theorem Qi1 : Qf pg 40 67 [.tmp 4, .tmp 5, .tmp 6, .tmp 7] (JG 8 16 69 66 70 22 28 26 108 106) := mkB Tryz.func40 (by kernel_rfl)
theorem Qih : Qhb 70 pg 40 := QlD Qi1 Qcs J6 Qii Qij
theorem Qkf : Qf pg 20 35 [.tmp 6, .tmp 7] (Qac 40) := mkB Tryz.func20 (by kernel_rfl)
theorem QjE : Qjp pg 20 := Qoy Qkf Qih QhD
theorem QmF : Qf pg 21 42 [.tmp 4, .tmp 5] (Qb3 16 25) := mkB Tryz.func21 (by kernel_rfl)
theorem Qlq : Qsh pg 21 := Qru QmF J6
theorem Qkn : Qf pg 19 43 [.tmp 6] (Zf 13 14 25) := mkB Tryz.func19 (by kernel_rfl)
theorem QjV : Qng pg 19 := Qpm Qkn QbT Qcu
theorem QmG : Qf pg 9 73 [.cell 4 31, .tmp 5] (XC 18 8 19 20 21 31 28) := mkB Tryz.func9 (by kernel_rfl)
theorem Qlr : Qec pg 9 := Qrv QmG (show ZE Tryz.prog 31 = some (some 4) by kernel_rfl) QjB Qcs QjV QjE Qlq
theorem QuZ : Qf pg 5 32 [.cell 4 33, .tmp 5] (QcQ 8 9 33 28 31) := mkB Tryz.func5 (by kernel_rfl)
theorem QtD : Qvb pg 5 := Qy7 QuZ (show ZE Tryz.prog 33 = some (some 11) by kernel_rfl) Qcs Qlr
theorem Qfb : Qf pg 4 16 [.tmp 2] Zi := mkB Tryz.func4 (by kernel_rfl)
theorem QnL : Qm8 pg 4 := Qt1 Qfb
theorem Qet : Qf pg 150 27 [.tmp 2, .tmp 3] Z0 := mkB Tryz.func150 (by kernel_rfl)
theorem Qle : QkY pg 150 := QqQ Qet
theorem Qfh : Qf pg 112 95 [.tmp 2, .tmp 3] (Qt 150) := mkB Tryz.func112 (by kernel_rfl)
theorem QnO : Qef pg 112 := Qt7 Qfh Qle
theorem Qgh : Qf pg 180 30 [.tmp 6] (JO 77 5) := mkB Tryz.func180 (by kernel_rfl)
theorem Qik : Qao pg 180 := Qwm Qgh Qdl
theorem Qfe : Qf pg 152 8 [.tmp 4] (Z8 180) := mkB Tryz.func152 (by kernel_rfl)
theorem Qkt : Qtr pg 152 := QyW Qfe Qik
theorem Qff : Qf pg 153 14 [.tmp 6] (Zv 180) := mkB Tryz.func153 (by kernel_rfl)
theorem Qku : Qts pg 153 := QyX Qff Qik
theorem Qfd : Qf pg 151 28 [.tmp 2, .tmp 3, .tmp 4] (Zj 73) := mkB Tryz.func151 (by kernel_rfl)
theorem Qhk : QmT pg 151 := Qt3 Qfd QgD
theorem Qes : Qf pg 113 57 [.tmp 2, .tmp 3] (QF 151 152 153) := mkB Tryz.func113 (by kernel_rfl)
theorem Qld : Qcr pg 113 := QqP Qes Qhk Qkt Qku

end Go.Proofs.YthckgihcbjpjeaaGreatDoor.linesTells

/- What the functions that the law reaches return in this program, part 6; no conditions. -/
import Derived.Test.YtghngklehkkecaaGreatDoorTopFileI5
set_option linter.unusedSectionVars false
set_option linter.unusedSimpArgs false
set_option linter.unusedVariables false
namespace Go.Proofs.YtghngklehkkecaaGreatDoor.topFile
open Go.Am Go.ChangeShapes Go.WideShapes Go.ChangeAt Go.RowKit

theorem QnT : Qvn pg 176 := Quu QgJ
theorem Qjj : Body pg 159 30 [.tmp 4, .tmp 5] (Qam 175 176) := mkB Tryz.func159 (by kernel_rfl)
theorem QtT : Qvn pg 159 := QzJ Qjj QnT
theorem QcL : Body pg 127 48 [.tmp 4] (ZM 159 3) := mkB Tryz.func127 (by kernel_rfl)
theorem Qhk : Qjy 3 pg 127 := QjZ QcL QtT
theorem QcM : Body pg 160 36 [.tmp 2] (ZN 177 3) := mkB Tryz.func160 (by kernel_rfl)
theorem growI : Qlm 3 pg 177 := grow_nilI Tryz.growI rfl rfl (by kernel_rfl)
theorem Qhl : QjI 3 pg 160 := Qj0 QcM growI
theorem QhC : Body pg 128 9 [.tmp 4] (JX 160 65) := mkB Tryz.func128 (by kernel_rfl)
theorem Qhn : QyK 3 pg 128 := Qj8 QhC Qhl
theorem QmM : Body pg 91 39 [.tmp 4, .tmp 5] (QbR 94 126 127 128 3) := mkB Tryz.func91 (by kernel_rfl)
theorem Qcn : QpN 3 pg 91 := QqR QmM QaV QeG Qhk Qhn
theorem QeU : Body pg 101 43 [] (JD 91) := mkB Tryz.func101 (by kernel_rfl)
theorem QlQ : QjB 3 pg 101 := Qrs QeU Qcn
theorem QpE : Body pg 62 4 [.tmp 2] (Qc0 101 24) := mkB Tryz.func62 (by kernel_rfl)
theorem QnX : QjD 101 pg 62 := Qu0 QpE
theorem QmW : Body pg 149 25 [.tmp 0] (QbU 262) := mkB Tryz.func149 (by kernel_rfl)
theorem QlO : Qna pg 149 := Qro QmW
theorem QkC : Body pg 148 29 [.tmp 6] Qbh := mkB Tryz.func148 (by kernel_rfl)
theorem QjX : QjJ pg 148 := Qo6 QkC
theorem QpC : Body pg 109 13 [.tmp 4, .tmp 5] (QaL 149 148) := mkB Tryz.func109 (by kernel_rfl)
theorem QnV : Qsb pg 109 := QuW QpC QlO QjX
theorem QrP : Body pg 72 8 [.tmp 2, .tmp 3] (QbE 109) := mkB Tryz.func72 (by kernel_rfl)
theorem Qit : QtA pg 72 := Qx2 QrP QnV
theorem Qyq : Body pg 73 18 [.cell 2 78] (QgM 78) := mkB Tryz.func73 (by kernel_rfl)
theorem QvH : QyE pg 73 := QBL Qyq (show Zu Tryz.prog 78 = some (some 16) by kernel_rfl)
theorem QrD : Body pg 34 22 [.cell 2 78, .tmp 3] (QdQ 72 73 78) := mkB Tryz.func34 (by kernel_rfl)
theorem QeX : QpM pg 34 := Qwt QrD Qit QvH (show Zu Tryz.prog 78 = some (some 16) by kernel_rfl)
theorem QmY : QyQ pg 24 45 [.cell 4 59, .cell 5 29] (QbW 18 34 62 64 63 24 59 29 78 28) := ⟨Tryz.f24, Tryz.func24, by kernel_rfl, by kernel_rfl, by kernel_rfl, by kernel_rfl⟩
theorem QfC : Qh7 pg 24 := Qrt QmY Qbr QeX QnX QlQ QeU Qg5 Qhq (show Zu Tryz.prog 59 = some none by kernel_rfl) (show Zu Tryz.prog 29 = some none by kernel_rfl) (by decide) (by decide) (by decide) (by decide) (by decide)
theorem Qyu : Body pg 44 79 [.cell 8 24, .tmp 9] (QgP 50 34 91 64 35 24 78 21) := mkB Tryz.func44 (by kernel_rfl)
theorem QvM : Qnr pg 44 := QCv Qyu Qiv QeX Qcn Qhh (show Zu Tryz.prog 42 = some (some 2) by kernel_rfl) Qc8 (show Zu Tryz.prog 24 = some (some 4) by kernel_rfl)
theorem QrO : Body pg 67 16 [.tmp 2, .tmp 3] (QbD 72) := mkB Tryz.func67 (by kernel_rfl)
theorem Qqb : Qsg pg 67 := Qx0 QrO Qit
theorem QkB : Body pg 26 18 [.tmp 2, .tmp 3] (JB 67 56) := mkB Tryz.func26 (by kernel_rfl)
theorem QeI : Qeo pg 26 := Qo4 QkB Qqb QaR
theorem QmI : Body pg 68 31 [.tmp 2] X4 := mkB Tryz.func68 (by kernel_rfl)
theorem Qfv : Qgc pg 68 := Qqu QmI
theorem QmH : Body pg 27 38 [.tmp 2, .tmp 3] (J4 68 69 66 28) := mkB Tryz.func27 (by kernel_rfl)
theorem Qji : Body pg 69 13 [] (Jb 56 5) := mkB Tryz.func69 (by kernel_rfl)
theorem QlA : Qjx pg 27 := Qqt QmH Qfv Qji QaR JQ
theorem Qjl : Body pg 89 44 [.tmp 2] (QR 56) := mkB Tryz.func89 (by kernel_rfl)
theorem Qdp : Qh4 pg 89 := Qmd Qjl
theorem QmN : Body pg 90 25 [.tmp 2] (X5 94 56) := mkB Tryz.func90 (by kernel_rfl)
theorem Qfz : QtE pg 90 := QqZ QmN QaV

end Go.Proofs.YtghngklehkkecaaGreatDoor.topFile

/- What the functions that the law reaches return in this program, part 8; no conditions. -/
import Derived.Test.YtghngklehkkecaaGreatDoorTopFileI7
set_option linter.unusedSectionVars false
set_option linter.unusedSimpArgs false
set_option linter.unusedVariables false
namespace Go.Proofs.YtghngklehkkecaaGreatDoor.topFile
open Go.Am Go.ChangeShapes Go.WideShapes Go.ChangeAt Go.RowKit

theorem QgI : Body pg 32 51 [.tmp 6] (ZI 71) := mkB Tryz.func32 (by kernel_rfl)
theorem Qbw : Body pg 33 78 [.tmp 4, .tmp 5] (Q7 42) := mkB Tryz.func33 (by kernel_rfl)
theorem QgX : Qng pg 11 := QtP Qpl (show Zu Tryz.prog 24 = some (some 4) by kernel_rfl) Qf3 (show Zu Tryz.prog 72 = some (some 11) by kernel_rfl) Qfu Qco QaW QgI QjW Qbw Qdn QeX Qc8 QjR
theorem QrA : Body pg 10 21 [.tmp 4, .tmp 5] (QdO 11 7 24) := mkB Tryz.func10 (by kernel_rfl)
theorem Qik : Qty pg 10 := QvG QrA QgX QeV
theorem QdN : Body pg 13 95 [.tmp 4] (Xc 37 38 39 21 12 24 48) := mkB Tryz.func13 (by kernel_rfl)
theorem QjQ : QgT pg 13 := Qn1 QdN Qin QkK Qdl QgZ Qdo
theorem Qeu : Body pg 4 45 [.tmp 0] (Xv 7 8 10 21) := mkB Tryz.func4 (by kernel_rfl)
theorem Qly : Qsm pg 4 := Qqg Qeu QeV Qg2 Qik
theorem QcN : Body pg 45 26 [.tmp 4] ZP := mkB Tryz.func45 (by kernel_rfl)
theorem Qhm : Qr9 pg 45 := Qj3 QcN
theorem Qet : Body pg 14 214 [.tmp 6] (Xu 40 24 41 42 43 44 45 12 24 70 56 28 3) := mkB Tryz.func14 (by kernel_rfl)
theorem QmE : Body pg 40 35 [.cell 2 70, .tmp 3] (J3 31 33 70 72) := mkB Tryz.func40 (by kernel_rfl)
theorem Qlx : QjC pg 14 := Qqf Qet QmE (show Zu Tryz.prog 70 = some (some 5) by kernel_rfl) Qf3 (show Zu Tryz.prog 72 = some (some 11) by kernel_rfl) Qfu Qco QaW Qbw Qdn QfC Qco Qdn QaW QvM Qhm Qdo
theorem Qev : Body pg 3 113 [.tmp 4] (QY 4 5 6 7 8 9 10 11 12 13 14 24) := mkB Tryz.func3 (by kernel_rfl)
theorem Qlz : Qhi pg 3 := Qqh Qev Qly QlC QlD QeV Qg2 QfB Qik QgX Qdo QjQ Qlx

end Go.Proofs.YtghngklehkkecaaGreatDoor.topFile

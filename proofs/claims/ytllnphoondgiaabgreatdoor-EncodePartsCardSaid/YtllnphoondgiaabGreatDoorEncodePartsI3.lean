/- What the functions that the law reaches return in this program, part 3; no conditions. -/
import Derived.Test.YtllnphoondgiaabGreatDoorEncodePartsI2
set_option linter.unusedSectionVars false
set_option linter.unusedSimpArgs false
set_option linter.unusedVariables false
namespace Go.Proofs.YtllnphoondgiaabGreatDoor.encodeParts
open Go.Am Go.ChangeShapes Go.WideShapes Go.ChangeAt Go.RowKit

theorem Qbr : Qm pg 5 19 [.tmp 2] (QC 24) := ⟨Tryz.f5, Tryz.func5, by kernel_rfl, by kernel_rfl, by kernel_rfl, by kernel_rfl⟩
theorem QfL : QeC pg 5 := QjQ Qbr
theorem QgY : Qm pg 66 24 [.tmp 0] (JW 154) := ⟨Tryz.f66, Tryz.func66, by kernel_rfl, by kernel_rfl, by kernel_rfl, by kernel_rfl⟩
theorem Qf1 : QkY pg 66 := Qkz QgY
theorem Qi4 : Qm pg 48 32 [.tmp 4, .tmp 5] (X8 66) := ⟨Tryz.f48, Tryz.func48, by kernel_rfl, by kernel_rfl, by kernel_rfl, by kernel_rfl⟩
theorem QhM : Qk6 pg 48 := QmG Qi4 Qf1
theorem QkR : Qm pg 27 16 [.tmp 2, .tmp 3] (JF 48) := ⟨Tryz.f27, Tryz.func27, by kernel_rfl, by kernel_rfl, by kernel_rfl, by kernel_rfl⟩
theorem Je : QeI pg 27 := QoJ QkR QhM
theorem Qi8 : Qm pg 76 40 [.tmp 2] (X9 105) := ⟨Tryz.f76, Tryz.func76, by kernel_rfl, by kernel_rfl, by kernel_rfl, by kernel_rfl⟩
theorem Jv : Qbo pg 76 := QmS Qi8
theorem Qi1 : Qm pg 75 2 [.cell 0 101] (QaA 101) := ⟨Tryz.f75, Tryz.func75, by kernel_rfl, by kernel_rfl, by kernel_rfl, by kernel_rfl⟩
theorem QhJ : Qhd pg 75 := QmC Qi1 (show Xb Tryz.prog 101 = some (some 4) by kernel_rfl)
theorem Qi2 : Qm pg 77 26 [.tmp 2] (QaB 101) := ⟨Tryz.f77, Tryz.func77, by kernel_rfl, by kernel_rfl, by kernel_rfl, by kernel_rfl⟩
theorem QhK : Qhn pg 77 := QmD Qi2
theorem QiY : Qm pg 78 17 [.tmp 4, .tmp 5] (X5 101) := ⟨Tryz.f78, Tryz.func78, by kernel_rfl, by kernel_rfl, by kernel_rfl, by kernel_rfl⟩
theorem Qc7 : QeB pg 78 := Qmz QiY
theorem Qe8 : Qm pg 97 9 [.tmp 4] Xg := ⟨Tryz.f97, Tryz.func97, by kernel_rfl, by kernel_rfl, by kernel_rfl, by kernel_rfl⟩
theorem QlY : Qsf pg 97 := QpW Qe8
theorem J9 : Qm pg 107 8 [.tmp 2] (QF 5) := ⟨Tryz.f107, Tryz.func107, by kernel_rfl, by kernel_rfl, by kernel_rfl, by kernel_rfl⟩
theorem Qnf : QdN 5 pg 107 := Qr6 J9
theorem QmX : Qm pg 79 44 [.cell 6 105, .tmp 7] (QaF 76 95 96 105) := ⟨Tryz.f79, Tryz.func79, by kernel_rfl, by kernel_rfl, by kernel_rfl, by kernel_rfl⟩
theorem QkU : Qm pg 95 9 [.cell 2 105] (JG 107 105) := ⟨Tryz.f95, Tryz.func95, by kernel_rfl, by kernel_rfl, by kernel_rfl, by kernel_rfl⟩
theorem QmW : Qm pg 96 75 [] (QaE 5) := ⟨Tryz.f96, Tryz.func96, by kernel_rfl, by kernel_rfl, by kernel_rfl, by kernel_rfl⟩
theorem QcH : Qja pg 79 := QqH QmX Jv QkU QmW Qnf (show Xb Tryz.prog 105 = some (some 2) by kernel_rfl) (show Xb Tryz.prog 105 = some (some 2) by kernel_rfl)
theorem Qe7 : Qm pg 108 13 [.tmp 2, .tmp 3] Jn := ⟨Tryz.f108, Tryz.func108, by kernel_rfl, by kernel_rfl, by kernel_rfl, by kernel_rfl⟩
theorem QeM : Qpb pg 108 := QhQ Qe7
theorem QgI : Qm pg 98 32 [.cell 4 105, .tmp 5] (JP 76 108 79 105) := ⟨Tryz.f98, Tryz.func98, by kernel_rfl, by kernel_rfl, by kernel_rfl, by kernel_rfl⟩
theorem QfJ : Qg5 pg 98 := Qjy QgI Jv QeM QcH (show Xb Tryz.prog 105 = some (some 2) by kernel_rfl)
theorem QiW : Qm pg 80 57 [.cell 6 105, .tmp 7] (X4 76 97 98 79 105) := ⟨Tryz.f80, Tryz.func80, by kernel_rfl, by kernel_rfl, by kernel_rfl, by kernel_rfl⟩
theorem QhD : Qg7 pg 80 := Qmf QiW Jv QlY QfJ QcH (show Xb Tryz.prog 105 = some (some 2) by kernel_rfl)
theorem Qi0 : Qm pg 57 69 [.cell 6 105, .cell 7 101, .tmp 8] (X6 76 77 78 79 80 81 105 101) := ⟨Tryz.f57, Tryz.func57, by kernel_rfl, by kernel_rfl, by kernel_rfl, by kernel_rfl⟩
theorem QiZ : Qm pg 81 36 [] (Xj 99 78) := ⟨Tryz.f81, Tryz.func81, by kernel_rfl, by kernel_rfl, by kernel_rfl, by kernel_rfl⟩
theorem Qfc : Qm pg 99 58 [] Qp := ⟨Tryz.f99, Tryz.func99, by kernel_rfl, by kernel_rfl, by kernel_rfl, by kernel_rfl⟩
theorem QhI : Qg9 pg 57 := QmB Qi0 Jv QhK Qc7 QcH QhD QiZ Qfc Qc7 (show Xb Tryz.prog 105 = some (some 2) by kernel_rfl) (show Xb Tryz.prog 101 = some (some 4) by kernel_rfl)
theorem Qds : Qm pg 56 11 [.cell 0 102] (Xv 75 102) := ⟨Tryz.f56, Tryz.func56, by kernel_rfl, by kernel_rfl, by kernel_rfl, by kernel_rfl⟩
theorem Qdk : QcB pg 56 := QeY Qds QhJ (show Xb Tryz.prog 102 = some (some 24) by kernel_rfl)
theorem JN : Qm pg 59 36 [.tmp 2] (QU 82 5) := ⟨Tryz.f59, Tryz.func59, by kernel_rfl, by kernel_rfl, by kernel_rfl, by kernel_rfl⟩
theorem growB : QeF 5 pg 82 := grow_nil Tryz.growB rfl rfl (by kernel_rfl)
theorem QdO : Qho pg 59 := Qf7 JN growB
theorem Qdu : Qm pg 34 85 [.tmp 6, .tmp 7] (ZH 55 56 57 58 27 43 59 52 72 102 105 101 28) := ⟨Tryz.f34, Tryz.func34, by kernel_rfl, by kernel_rfl, by kernel_rfl, by kernel_rfl⟩
theorem QgT : Qm pg 58 64 [] (XB 105 5) := ⟨Tryz.f58, Tryz.func58, by kernel_rfl, by kernel_rfl, by kernel_rfl, by kernel_rfl⟩
theorem Qdm : Qsh pg 34 := Qe0 Qdu Qdl Qdk QhI QgT Je Qbb QdO
theorem QcX : Qm pg 101 51 [.tmp 4, .tmp 5] Xh := ⟨Tryz.f101, Tryz.func101, by kernel_rfl, by kernel_rfl, by kernel_rfl, by kernel_rfl⟩
theorem QhG : Qm0 pg 101 := Qml QcX
theorem Qen : Qm pg 83 30 [.tmp 4, .tmp 5] (XO 100 101) := ⟨Tryz.f83, Tryz.func83, by kernel_rfl, by kernel_rfl, by kernel_rfl, by kernel_rfl⟩

end Go.Proofs.YtllnphoondgiaabGreatDoor.encodeParts

/- What the functions that the law reaches return in this program, part 5; no conditions. -/
import Derived.Test.YtghngklehkkecaaGreatDoorTopFileI4
set_option linter.unusedSectionVars false
set_option linter.unusedSimpArgs false
set_option linter.unusedVariables false
namespace Go.Proofs.YtghngklehkkecaaGreatDoor.topFile
open Go.Am Go.ChangeShapes Go.WideShapes Go.ChangeAt Go.RowKit

theorem Qg4 : Qib pg 139 := QuT QpB
theorem Qpy : Body pg 140 17 [.tmp 4, .tmp 5] (QaJ 181) := mkB Tryz.func140 (by kernel_rfl)
theorem Qdq : QgR pg 140 := QuQ Qpy
theorem Qkv : Body pg 165 9 [.tmp 4] Jy := mkB Tryz.func165 (by kernel_rfl)
theorem QkH : QAF pg 165 := Qzt Qkv
theorem QrI : Body pg 151 68 [.tmp 6, .tmp 7, .tmp 8] (ZT 115 170 78 165 143) := mkB Tryz.func151 (by kernel_rfl)
theorem Qp4 : Qr1 pg 151 := QwD QrI ZE QnK QdZ QkH
theorem QrN : Body pg 114 86 [.tmp 6, .tmp 7, .cell 8 181, .tmp 9] (ZU 115 139 78 151 143 143 181) := mkB Tryz.func114 (by kernel_rfl)
theorem Qhg : Body pg 143 36 [] (XM 167 140) := mkB Tryz.func143 (by kernel_rfl)
theorem QeT : Body pg 167 58 [] Qu := mkB Tryz.func167 (by kernel_rfl)
theorem Qqa : Qr3 pg 114 := QxY QrN ZE Qg4 QdZ Qp4 Qhg QeT Qdq (show Zu Tryz.prog 181 = some (some 4) by kernel_rfl)
theorem Jq : Body pg 111 8 [.tmp 2] (QW 5) := mkB Tryz.func111 (by kernel_rfl)
theorem QjS : XO pg 111 := Qn9 Jq
theorem Qyv : Body pg 76 14 [.cell 2 143, .tmp 3] (Qek 111 143) := mkB Tryz.func76 (by kernel_rfl)
theorem QvO : QCI pg 76 := QCz Qyv QjS (show Zu Tryz.prog 143 = some (some 2) by kernel_rfl)
theorem Qvk : Body pg 113 46 [.cell 6 143, .tmp 7] (Qfm 115 116 150 143) := mkB Tryz.func113 (by kernel_rfl)
theorem Qlj : Body pg 150 75 [] (Qbi 5) := mkB Tryz.func150 (by kernel_rfl)
theorem QtW : QCL pg 113 := QAB Qvk ZE QkL Qlj (show Zu Tryz.prog 143 = some (some 2) by kernel_rfl)
theorem QhJ : Body pg 75 46 [.tmp 2, .tmp 3] (Zr 66 110) := mkB Tryz.func75 (by kernel_rfl)
theorem Qhs : Qnc pg 75 := Qkk QhJ JQ QkI
theorem QhI : Body pg 77 76 [.tmp 6, .tmp 7, .tmp 8] (J0 112 113 114 143 182 181 129) := mkB Tryz.func77 (by kernel_rfl)
theorem Qhr : Qr2 pg 77 := Qkj QhI Qg3 QtW Qqa
theorem QhK : Body pg 35 87 [.tmp 8, .tmp 9] (QK 74 75 76 77 78 79 42 78 143) := mkB Tryz.func35 (by kernel_rfl)
theorem Qc8 : Qh9 pg 35 := Qkl QhK QaX Qhs QvO Qhr QdZ Qgl
theorem QvL : Qic 5 pg 111 := QCu Jq
theorem Qvi : Body pg 141 44 [.cell 6 143, .tmp 7] (Qc2 115 164 150 143) := mkB Tryz.func141 (by kernel_rfl)
theorem QrT : Body pg 164 9 [.cell 2 143] (QbG 111 143) := mkB Tryz.func164 (by kernel_rfl)
theorem Qgm : QpL pg 141 := QAz Qvi ZE QrT Qlj QvL (show Zu Tryz.prog 143 = some (some 2) by kernel_rfl) (show Zu Tryz.prog 143 = some (some 2) by kernel_rfl)
theorem Qkq : Body pg 178 13 [.tmp 2, .tmp 3] Qbd := mkB Tryz.func178 (by kernel_rfl)
theorem QjP : QyB pg 178 := Qn0 Qkq
theorem QmF : Body pg 166 32 [.cell 4 143, .tmp 5] (QbN 115 178 141 143) := mkB Tryz.func166 (by kernel_rfl)
theorem Qlw : Qm8 pg 166 := Qqe QmF ZE QjP Qgm (show Zu Tryz.prog 143 = some (some 2) by kernel_rfl)
theorem Qpv : Body pg 142 57 [.cell 6 143, .tmp 7] (QaH 115 165 166 141 143) := mkB Tryz.func142 (by kernel_rfl)
theorem QnQ : Qnb pg 142 := Quk Qpv ZE QkH Qlw Qgm (show Zu Tryz.prog 143 = some (some 2) by kernel_rfl)
theorem Qpz : Body pg 104 69 [.cell 6 143, .cell 7 181, .tmp 8] (QaK 115 139 140 141 142 143 143 181) := mkB Tryz.func104 (by kernel_rfl)
theorem QnU : Qnd pg 104 := QuR Qpz ZE Qg4 Qdq Qgm QnQ Qhg QeT Qdq (show Zu Tryz.prog 143 = some (some 2) by kernel_rfl) (show Zu Tryz.prog 181 = some (some 4) by kernel_rfl)
theorem QhF : Body pg 103 11 [.cell 0 182] (JY 112 182) := mkB Tryz.func103 (by kernel_rfl)
theorem Qho : Qf9 pg 103 := Qkb QhF Qg3 (show Zu Tryz.prog 182 = some (some 24) by kernel_rfl)
theorem QbL : Body pg 106 36 [.tmp 2] (ZA 144 5) := mkB Tryz.func106 (by kernel_rfl)
theorem growB : QjH 5 pg 144 := grow_nil Tryz.growB rfl rfl (by kernel_rfl)
theorem Qil : Qnq pg 106 := QlW QbL growB
theorem QhH : Body pg 63 85 [.tmp 6, .tmp 7] (XL 102 103 104 105 66 56 106 42 78 182 143 181 28) := mkB Tryz.func63 (by kernel_rfl)
theorem QmT : Body pg 105 64 [] (J6 143 5) := mkB Tryz.func105 (by kernel_rfl)
theorem Qhq : QCK pg 63 := Qkd QhH Qhp Qho QnU QmT JQ QaR Qil
theorem QgJ : Body pg 176 51 [.tmp 4, .tmp 5] Jz := mkB Tryz.func176 (by kernel_rfl)

end Go.Proofs.YtghngklehkkecaaGreatDoor.topFile

/- What the functions that the law reaches return in this program, part 3; no conditions. -/
import Derived.Test.YthckgihcbjpjeaaGreatDoorLinesTellsI2
set_option linter.unusedSectionVars false
set_option linter.unusedSimpArgs false
set_option linter.unusedVariables false
namespace Go.Proofs.YthckgihcbjpjeaaGreatDoor.linesTells
open Go.Am Go.ChangeShapes Go.WideShapes Go.ChangeAt Go.RowKit

theorem Qqj : Qr3 pg 179 := QwP QrL
theorem QuX : Qf pg 149 32 [.tmp 4, .tmp 5] (QfE 177 178 179) := mkB Tryz.func149 (by kernel_rfl)
theorem QtA : Qcp pg 149 := Qy3 QuX Qqk Qqp Qqj
theorem Qc7 : Qf pg 166 63 [.tmp 2] (ZD 163 21) := mkB Tryz.func166 (by kernel_rfl)
theorem Qim : Qhc pg 166 := QlK Qc7 QaN
theorem Qfp : Qf pg 128 32 [.tmp 4, .tmp 5] (Jr 165 166 21) := mkB Tryz.func128 (by kernel_rfl)
theorem QnT : Qcp pg 128 := Quf Qfp Qlk Qim
theorem Qg1 : Qf pg 107 84 [.tmp 6, .tmp 7] (Qai 146 148 147 149 111 106 108 224 194 21) := mkB Tryz.func107 (by kernel_rfl)
theorem QgE : Qx3 pg 107 := QiW Qg1 Qqq Qqm Qod QtA QfM
theorem QdE : Qf pg 91 64 [.tmp 6] (XF 125 127 126 128 106 108 21 194) := mkB Tryz.func91 (by kernel_rfl)
theorem QjK : Qji pg 91 := QoK QdE Qqa Qn0 Qil QnT
theorem QdD : Qf pg 90 15 [.tmp 4, .tmp 5] (XE 92 106) := mkB Tryz.func90 (by kernel_rfl)
theorem QjJ : Qm2 pg 90 := QoJ QdD QfP
theorem Qi4 : Qf pg 57 32 [.tmp 4, .tmp 5] (Qa0 60) := mkB Tryz.func57 (by kernel_rfl)
theorem Qdm : Qgz pg 57 := QlW Qi4 QeI
theorem Qew : Qf pg 87 19 [.tmp 4] (X8 118 106) := mkB Tryz.func87 (by kernel_rfl)
theorem Qlh : Qsm pg 87 := QqU Qew Qli
theorem QxI : Qf pg 98 14 [.tmp 4] Qcm := mkB Tryz.func98 (by kernel_rfl)
theorem Qvq : QxT pg 98 := QA2 QxI
theorem Qu1 : Qf pg 59 35 [.tmp 4, .tmp 5] (QcR 98 5) := mkB Tryz.func59 (by kernel_rfl)
theorem Qkw : Qgv pg 59 := Qza Qu1 Qvq
theorem Qdb : Qf pg 77 21 [.tmp 4] (Xv 5) := mkB Tryz.func77 (by kernel_rfl)
theorem Qdl : Qgw pg 77 := QlO Qdb
theorem QmK : Qf pg 35 10 [.tmp 4] Qb7 := mkB Tryz.func35 (by kernel_rfl)
theorem Jh : QbP pg 35 := QrD QmK
theorem Qmt : Qf pg 71 43 [.tmp 4, .tmp 5] (XA 111 5) := mkB Tryz.func71 (by kernel_rfl)
theorem Qk4 : Qea pg 71 := Qp1 Qmt QfM
theorem Qgj : Qf pg 93 39 [.tmp 4] (Q8 129 5) := mkB Tryz.func93 (by kernel_rfl)
theorem Qqb : Qsc pg 93 := Qwo Qgj Qdk
theorem QmI : Qf pg 96 24 [.tmp 0] (Qb5 208) := mkB Tryz.func96 (by kernel_rfl)
theorem Qlt : QrY pg 96 := Qrx QmI
theorem QpL : Qf pg 56 32 [.tmp 4, .tmp 5] (Qbc 96) := mkB Tryz.func56 (by kernel_rfl)
theorem Qoc : Qsi pg 56 := QuN QpL Qlt
theorem QrR : Qf pg 31 16 [.tmp 2, .tmp 3] (QbO 56) := mkB Tryz.func31 (by kernel_rfl)
theorem QeQ : QpR pg 31 := Qxn QrR Qoc
theorem QfC : Qf pg 181 19 [.tmp 4] Zl := mkB Tryz.func181 (by kernel_rfl)
theorem Qn4 : QxV pg 181 := Qus QfC
theorem QfD : Qf pg 154 18 [.tmp 4] (Jy 181) := mkB Tryz.func154 (by kernel_rfl)
theorem Qn5 : Qx5 pg 154 := Qut QfD Qn4
theorem QdO : Qf pg 114 19 [.tmp 4] (XL 154) := mkB Tryz.func114 (by kernel_rfl)
theorem QjS : Qju pg 114 := QoU QdO Qn5
theorem Qg4 : Qf pg 74 6 [.tmp 2] (Qak 114) := mkB Tryz.func74 (by kernel_rfl)
theorem QgC : Qx4 pg 74 := QyZ Qg4 QjS
theorem QpN : Qf pg 144 40 [.tmp 2] (Qbd 170) := mkB Tryz.func144 (by kernel_rfl)
theorem QaO : QcX pg 144 := QuV QpN

end Go.Proofs.YthckgihcbjpjeaaGreatDoor.linesTells

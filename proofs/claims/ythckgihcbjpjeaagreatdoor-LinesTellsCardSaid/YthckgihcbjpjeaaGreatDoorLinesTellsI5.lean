/- What the functions that the law reaches return in this program, part 5; no conditions. -/
import Derived.Test.YthckgihcbjpjeaaGreatDoorLinesTellsI4
set_option linter.unusedSectionVars false
set_option linter.unusedSimpArgs false
set_option linter.unusedVariables false
namespace Go.Proofs.YthckgihcbjpjeaaGreatDoor.linesTells
open Go.Am Go.ChangeShapes Go.WideShapes Go.ChangeAt Go.RowKit

theorem QpH : Qf pg 172 36 [] (Qag 195 196) := mkB Tryz.func172 (by kernel_rfl)
theorem Qkk : Qf pg 195 58 [] QC := mkB Tryz.func195 (by kernel_rfl)
theorem Qqn : Qr2 pg 143 := Qxh QrO QaO Qoa QdV Qp8 QpH Qkk Qn8 (show ZE Tryz.prog 184 = some (some 4) by kernel_rfl)
theorem Qcl : Qf pg 140 8 [.tmp 2] (JB 5) := mkB Tryz.func140 (by kernel_rfl)
theorem QjC : Qbe pg 140 := Qoq Qcl
theorem QxJ : Qf pg 104 14 [.cell 2 170, .tmp 3] (Qd8 140 170) := mkB Tryz.func104 (by kernel_rfl)
theorem Qvs : QBD pg 104 := QBp QxJ QjC (show ZE Tryz.prog 170 = some (some 2) by kernel_rfl)
theorem Qu5 : Qf pg 142 46 [.cell 6 170, .tmp 7] (QfI 144 145 169 170) := mkB Tryz.func142 (by kernel_rfl)
theorem Qu2 : Qf pg 169 75 [] (QcV 5) := mkB Tryz.func169 (by kernel_rfl)
theorem QtE : QBF pg 142 := QzG Qu5 QaO Qkx Qu2 (show ZE Tryz.prog 170 = some (some 2) by kernel_rfl)
theorem Qda : Qf pg 122 21 [.cell 6 170] (Xu 124 157 170) := mkB Tryz.func122 (by kernel_rfl)
theorem Qgr : Qf pg 157 43 [.cell 4 170] (ZL 170 5) := mkB Tryz.func157 (by kernel_rfl)
theorem Qip : Qjs pg 122 := QlN Qda Qcc Qgr (show ZE Tryz.prog 170 = some (some 2) by kernel_rfl) (show ZE Tryz.prog 170 = some (some 2) by kernel_rfl)
theorem QdF : Qf pg 121 26 [.cell 4 184] (XG 120 156 184) := mkB Tryz.func121 (by kernel_rfl)
theorem QjL : QmY pg 121 := QoL QdF QfQ QjR (show ZE Tryz.prog 184 = some (some 4) by kernel_rfl)
theorem QdI : Qf pg 119 22 [.tmp 2] (XH 74 5) := mkB Tryz.func119 (by kernel_rfl)
theorem QjN : QmZ pg 119 := QoO QdI QgC
theorem QhS : Qf pg 103 46 [.tmp 2, .tmp 3] (ZG 31 55) := mkB Tryz.func103 (by kernel_rfl)
theorem QhG : QmQ pg 103 := Qj7 QhS QeQ Qkv
theorem QdG : Qf pg 88 19 [.tmp 2] (Q7 119) := mkB Tryz.func88 (by kernel_rfl)
theorem QjM : Qm5 pg 88 := QoM QdG QjN
theorem QhR : Qf pg 105 76 [.tmp 6, .tmp 7, .tmp 8] (QaG 141 142 143 170 218 184 76) := mkB Tryz.func105 (by kernel_rfl)
theorem QhF : Qr1 pg 105 := Qj6 QhR Qn9 QtE Qqn
theorem Qfn : Qf pg 89 80 [.tmp 6, .tmp 7] (Jp 120 121 122 123 124 170 184 76) := mkB Tryz.func89 (by kernel_rfl)
theorem QnS : Qsa pg 89 := Qud Qfn QfQ QjL Qip Qqf Qcc
theorem QdH : Qf pg 50 44 [.tmp 8, .tmp 9] (QV 87 88 89 91 90 106 108) := mkB Tryz.func50 (by kernel_rfl)
theorem QeG : QbR pg 50 := QoN QdH Qlh QjM QnS QjK QjJ
theorem QhT : Qf pg 67 87 [.tmp 8, .tmp 9] (QS 102 103 104 105 106 107 106 108 170) := mkB Tryz.func67 (by kernel_rfl)
theorem Qc0 : QbR pg 67 := Qj8 QhT Qis QhG Qvs QhF QdV QgE
theorem Qg0 : Qf pg 137 51 [.tmp 4, .tmp 5] Qaf := mkB Tryz.func137 (by kernel_rfl)
theorem Qn6 : Qva pg 137 := Qux Qg0
theorem Qi3 : Qf pg 99 30 [.tmp 4, .tmp 5] (QaZ 136 137) := mkB Tryz.func99 (by kernel_rfl)
theorem QtB : Qva pg 99 := Qy4 Qi3 Qn6
theorem QcG : Qf pg 61 48 [.tmp 4] (Xf 99 3) := mkB Tryz.func61 (by kernel_rfl)
theorem QhB : Qjh 3 pg 61 := QjX QcG QtB
theorem QcH : Qf pg 100 36 [.tmp 2] (Xg 138 3) := mkB Tryz.func100 (by kernel_rfl)
theorem growI : QkZ 3 pg 138 := grow_nilI (P := pg) (ρ := Tryz.growI_ren) Tryz.growI rfl rfl (show (Tryz.prog.info? 3).map (fun i => (i.zero, i.size, i.bytes)) = some (some (.int .i64 0), 1, 8) by kernel_rfl)
theorem QhC : Qjr 3 pg 100 := QjY QcH growI
theorem QhP : Qf pg 62 9 [.tmp 4] (QaF 100 26) := mkB Tryz.func62 (by kernel_rfl)
theorem QhE : Qx6 3 pg 62 := Qj0 QhP QhC
theorem Qmz : Qf pg 37 39 [.tmp 4, .tmp 5] (Qb1 57 60 61 62 3) := mkB Tryz.func37 (by kernel_rfl)
theorem Qlm : Qx7 3 pg 37 := Qq8 Qmz Qdm QeI QhB QhE
theorem QmH : Qf pg 168 25 [.tmp 0] (Qb4 279) := mkB Tryz.func168 (by kernel_rfl)
theorem Qls : QmP pg 168 := Qrw QmH
theorem Qko : Qf pg 167 29 [.tmp 6] Qbr := mkB Tryz.func167 (by kernel_rfl)

end Go.Proofs.YthckgihcbjpjeaaGreatDoor.linesTells

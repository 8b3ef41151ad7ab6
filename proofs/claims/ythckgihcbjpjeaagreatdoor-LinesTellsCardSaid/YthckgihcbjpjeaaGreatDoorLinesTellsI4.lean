/- What the functions that the law reaches return in this program, part 4; no conditions. -/
import Derived.Test.YthckgihcbjpjeaaGreatDoorLinesTellsI3
set_option linter.unusedSectionVars false
set_option linter.unusedSimpArgs false
set_option linter.unusedVariables false
namespace Go.Proofs.YthckgihcbjpjeaaGreatDoor.linesTells
open Go.Am Go.ChangeShapes Go.WideShapes Go.ChangeAt Go.RowKit

theorem Qu3 : Qf pg 145 47 [.tmp 6] (QfH 170) := mkB Tryz.func145 (by kernel_rfl)
theorem Qkx : Qtq pg 145 := QzE Qu3
theorem Qu4 : Qf pg 106 34 [.tmp 6, .tmp 7] (QcW 144 145 170) := mkB Tryz.func106 (by kernel_rfl)
theorem QdV : QkV pg 106 := QzF Qu4 QaO Qkx
theorem Qg5 : Qf pg 124 24 [.tmp 4] (Qal 170) := mkB Tryz.func124 (by kernel_rfl)
theorem Qcc : Qsl pg 124 := Qy0 Qg5
theorem QeE : Qf pg 158 25 [.tmp 6] (Jd 124 170) := mkB Tryz.func158 (by kernel_rfl)
theorem QfR : Qia pg 158 := Qq2 QeE Qcc
theorem Qbp : Qf pg 205 14 [.tmp 2] (ZC 1) := mkB Tryz.func205 (by kernel_rfl)
theorem Qvr : QDu pg 205 := QBo Qbp (show pg.G.lookup 1 = some dbG by rfl)
theorem Qkc : Qf pg 204 8 [.tmp 2] Qbq := mkB Tryz.func204 (by kernel_rfl)
theorem QnC : QmO pg 204 := QtG Qkc
theorem Qpy : Qf pg 193 53 [.tmp 4, .tmp 5, .tmp 6] (QcL 144 204 106 205 170 3) := mkB Tryz.func193 (by kernel_rfl)
theorem QnD : QrX pg 193 := QtH Qpy QaO QnC QdV Qvr
theorem Qgp : Qf pg 186 44 [.tmp 4, .tmp 5] (JT 124 170) := mkB Tryz.func186 (by kernel_rfl)
theorem Qqh : Qx2 pg 186 := Qwu Qgp Qcc
theorem QeD : Qf pg 160 13 [.tmp 2] Jc := mkB Tryz.func160 (by kernel_rfl)
theorem Jg : QdU pg 160 := Qq1 QeD
theorem QpI : Qf pg 141 2 [.cell 0 184] (QcS 184) := mkB Tryz.func141 (by kernel_rfl)
theorem Qn9 : Qb9 pg 141 := QuJ QpI (show ZE Tryz.prog 184 = some (some 4) by kernel_rfl)
theorem QeC : Qf pg 120 2 [.cell 0 184] (Jb 184) := mkB Tryz.func120 (by kernel_rfl)
theorem QfQ : Qb9 pg 120 := Qq0 QeC (show ZE Tryz.prog 184 = some (some 4) by kernel_rfl)
theorem QpJ : Qf pg 170 26 [.tmp 2] (QcT 184) := mkB Tryz.func170 (by kernel_rfl)
theorem Qoa : Qnh pg 170 := QuK QpJ
theorem Qgm : Qf pg 183 11 [.tmp 4] (JS 160 184) := mkB Tryz.func183 (by kernel_rfl)
theorem Qqe : QxY pg 183 := Qwr Qgm Jg
theorem Qfw : Qf pg 185 12 [.tmp 4] (Ju 160 184) := mkB Tryz.func185 (by kernel_rfl)
theorem QnY : Qsd pg 185 := Qum Qfw Jg
theorem Qfv : Qf pg 184 40 [.tmp 6, .tmp 7] (QU 160) := mkB Tryz.func184 (by kernel_rfl)
theorem QnX : Qr0 pg 184 := Qul Qfv Jg
theorem QdM : Qf pg 156 38 [.cell 4 184] (ZQ 183 185 184 184) := mkB Tryz.func156 (by kernel_rfl)
theorem QjR : Qnb pg 156 := QoS QdM Qqe QnY QnX (show ZE Tryz.prog 184 = some (some 4) by kernel_rfl)
theorem QpG : Qf pg 196 17 [.tmp 4, .tmp 5] (Qba 184) := mkB Tryz.func196 (by kernel_rfl)
theorem Qn8 : Qna pg 196 := QuH QpG
theorem Qkg : Qf pg 194 9 [.tmp 4] Qae := mkB Tryz.func194 (by kernel_rfl)
theorem Qtx : QBC pg 194 := QyT Qkg
theorem QrK : Qf pg 171 68 [.tmp 6, .tmp 7, .tmp 8] (Xj 144 193 106 194 170) := mkB Tryz.func171 (by kernel_rfl)
theorem Qp8 : QrZ pg 171 := Qwd QrK QaO QnD QdV Qtx
theorem Qfx : Qf pg 187 12 [.tmp 4] (Jv 160) := mkB Tryz.func187 (by kernel_rfl)
theorem QnZ : Qsb pg 187 := Qun Qfx Jg
theorem Qgo : Qf pg 159 64 [.tmp 6, .tmp 7, .tmp 8] (QR 186 158 160 187 170) := mkB Tryz.func159 (by kernel_rfl)
theorem Qqg : Qx1 pg 159 := Qwt Qgo Qqh QfR Jg QnZ
theorem Qgn : Qf pg 123 65 [.tmp 6, .tmp 7, .tmp 8] (Q1 124 158 159 160 170 184) := mkB Tryz.func123 (by kernel_rfl)
theorem Qqf : Qx0 pg 123 := Qws Qgn Qcc QfR Qqg Jg
theorem QrO : Qf pg 143 86 [.tmp 6, .tmp 7, .cell 8 184, .tmp 9] (Xk 144 170 106 171 172 170 184) := mkB Tryz.func143 (by kernel_rfl)

end Go.Proofs.YthckgihcbjpjeaaGreatDoor.linesTells

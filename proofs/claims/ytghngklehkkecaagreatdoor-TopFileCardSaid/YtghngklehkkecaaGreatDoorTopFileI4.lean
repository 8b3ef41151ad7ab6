/- What the functions that the law reaches return in this program, part 4; no conditions. -/
import Derived.Test.YtghngklehkkecaaGreatDoorTopFileI3
set_option linter.unusedSectionVars false
set_option linter.unusedSimpArgs false
set_option linter.unusedVariables false
namespace Go.Proofs.YtghngklehkkecaaGreatDoor.topFile
open Go.Am Go.ChangeShapes Go.WideShapes Go.ChangeAt Go.RowKit

theorem Qjo : Body pg 52 18 [.tmp 2, .tmp 3] (Qao 85 48) := mkB Tryz.func52 (by kernel_rfl)
theorem QtV : Qsa pg 52 := QAg Qjo Qiq
theorem Qjn : Body pg 53 67 [.tmp 6] (Jd 56 48 156 5 1 2) := mkB Tryz.func53 (by kernel_rfl)
theorem QkJ : Qno pg 53 := QAf Qjn QaR (show pg.G.lookup 1 = some JK by rfl) (show pg.G.lookup 2 = some Qq4 by rfl)
theorem QhD : Body pg 19 21 [.tmp 2, .tmp 3] (XJ 52 53 48) := mkB Tryz.func19 (by kernel_rfl)
theorem Qp9 : Qni pg 19 := QxE QhD QkJ QtV
theorem Qm0 : Body pg 86 10 [.tmp 4] QbY := mkB Tryz.func86 (by kernel_rfl)
theorem Qcp : Qga pg 86 := Qrx Qm0
theorem Qjp : Body pg 38 61 [.cell 2 48, .tmp 3] (Qap 82 85 53 86 48 156 1) := mkB Tryz.func38 (by kernel_rfl)
theorem QkK : Qnj pg 38 := QAh Qjp Qip Qiq QkJ Qcp (show pg.G.lookup 1 = some JK by rfl) (show Zu Tryz.prog 48 = some (some 3) by kernel_rfl)
theorem Qjh : Body pg 39 81 [.tmp 4, .tmp 5] (ZC 87 21) := mkB Tryz.func39 (by kernel_rfl)
theorem Qdl : Qgd pg 39 := Qlq Qjh Qcm
theorem QmD : Body pg 20 43 [.tmp 4, .tmp 5] (Z7 51 5) := mkB Tryz.func20 (by kernel_rfl)
theorem Qlv : Qnf pg 20 := QpY QmD Qaw
theorem Qrz : Body pg 7 41 [.tmp 2, .tmp 3] (Qbx 18 19 20 21 24 52) := mkB Tryz.func7 (by kernel_rfl)
theorem QeV : Qci pg 7 := QvD Qrz Qbr Qp9 Qlv QgZ
theorem Qew : Body pg 5 19 [.tmp 2] (QZ 24) := mkB Tryz.func5 (by kernel_rfl)
theorem QlC : QjF pg 5 := QqB Qew
theorem Qfb : Body pg 12 52 [.tmp 4] (QU 24) := mkB Tryz.func12 (by kernel_rfl)
theorem Qdo : Qge pg 12 := Qul Qfb
theorem Qva : Body pg 61 31 [.tmp 4, .tmp 5] (Qfg 100) := mkB Tryz.func61 (by kernel_rfl)
theorem QtQ : QyD pg 61 := QyZ Qva Qp3
theorem Qvb : Body pg 22 116 [.cell 2 24, .tmp 3] (Qfh 37 61 38 39 18 24 48) := mkB Tryz.func22 (by kernel_rfl)
theorem QtR : Qjw pg 22 := Qy0 Qvb Qin QtQ QkK Qdl Qbr (show Zu Tryz.prog 24 = some (some 4) by kernel_rfl)
theorem QmX : Body pg 145 24 [.tmp 0] (QbV 261) := mkB Tryz.func145 (by kernel_rfl)
theorem QlP : Qr0 pg 145 := Qrp QmX
theorem QpD : Body pg 107 32 [.tmp 4, .tmp 5] (QaM 145) := mkB Tryz.func107 (by kernel_rfl)
theorem QnW : Qsi pg 107 := QuX QpD QlP
theorem QrQ : Body pg 66 16 [.tmp 2, .tmp 3] (QbF 107) := mkB Tryz.func66 (by kernel_rfl)
theorem JQ : Qhj pg 66 := Qx3 QrQ QnW
theorem QpH : Body pg 115 40 [.tmp 2] (QaN 143) := mkB Tryz.func115 (by kernel_rfl)
theorem ZE : JF pg 115 := Qu8 QpH
theorem Qvh : Body pg 116 47 [.tmp 6] (Qfl 143) := mkB Tryz.func116 (by kernel_rfl)
theorem QkL : Qtx pg 116 := QAy Qvh
theorem Qvj : Body pg 78 34 [.tmp 6, .tmp 7] (Qc3 115 116 143) := mkB Tryz.func78 (by kernel_rfl)
theorem QdZ : Qlk pg 78 := QAA Qvj ZE QkL
theorem Qbb : Body pg 182 14 [.tmp 2] (Zp 4) := mkB Tryz.func182 (by kernel_rfl)
theorem QvN : QEw pg 182 := QCy Qbb (show pg.G.lookup 4 = some dbG by rfl)
theorem Qkp : Body pg 181 8 [.tmp 2] Qbc := mkB Tryz.func181 (by kernel_rfl)
theorem QnJ : Qm9 pg 181 := QtY Qkp
theorem Qpm : Body pg 170 53 [.tmp 4, .tmp 5, .tmp 6] (QcP 115 181 78 182 143 3) := mkB Tryz.func170 (by kernel_rfl)
theorem QnK : QrZ pg 170 := QtZ Qpm ZE QnJ QdZ QvN
theorem QpA : Body pg 112 2 [.cell 0 181] (QcY 181) := mkB Tryz.func112 (by kernel_rfl)
theorem Qg3 : QgQ pg 112 := QuS QpA (show Zu Tryz.prog 181 = some (some 4) by kernel_rfl)
theorem QpB : Body pg 139 26 [.tmp 2] (QcZ 181) := mkB Tryz.func139 (by kernel_rfl)

end Go.Proofs.YtghngklehkkecaaGreatDoor.topFile

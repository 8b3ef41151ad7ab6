/- What the functions that the law reaches return in this program, part 6; no conditions. -/
import Derived.Test.YthckgihcbjpjeaaGreatDoorLinesTellsI5
set_option linter.unusedSectionVars false
set_option linter.unusedSimpArgs false
set_option linter.unusedVariables false
namespace Go.Proofs.YthckgihcbjpjeaaGreatDoor.linesTells
open Go.Am Go.ChangeShapes Go.WideShapes Go.ChangeAt Go.RowKit

theorem QjW : Qjt pg 167 := Qpp Qko
theorem QpK : Qf pg 135 13 [.tmp 4, .tmp 5] (Qbb 168 167) := mkB Tryz.func135 (by kernel_rfl)
theorem Qob : Qhe pg 135 := QuM QpK Qls QjW
theorem QrQ : Qf pg 97 8 [.tmp 2, .tmp 3] (QbN 135) := mkB Tryz.func97 (by kernel_rfl)
theorem Qit : Qje pg 97 := Qxm QrQ Qob
theorem Qfz : Qf pg 182 18 [.tmp 4] Zk := mkB Tryz.func182 (by kernel_rfl)
theorem Qn1 : Qr6 pg 182 := Qup Qfz
theorem QfB : Qf pg 155 18 [.tmp 4] (Jw 182) := mkB Tryz.func155 (by kernel_rfl)
theorem Qn3 : Qsk pg 155 := Qur QfB Qn1
theorem QdN : Qf pg 115 19 [.tmp 4] (XJ 155) := mkB Tryz.func115 (by kernel_rfl)
theorem QeH : Qed pg 115 := QoT QdN Qn3
theorem QfA : Qf pg 117 12 [.tmp 4, .tmp 5] (Xd 115) := mkB Tryz.func117 (by kernel_rfl)
theorem Qn2 : Qhe pg 117 := Quq QfA QeH
theorem Qgq : Qf pg 85 8 [.tmp 2, .tmp 3] (Xt 117) := mkB Tryz.func85 (by kernel_rfl)
theorem Qqi : Qje pg 85 := Qwv Qgq Qn2
theorem QxH : Qf pg 101 18 [.cell 2 108] (Qg8 108) := mkB Tryz.func101 (by kernel_rfl)
theorem Qvp : QkX pg 101 := QAP QxH (show ZE Tryz.prog 108 = some (some 16) by kernel_rfl)
theorem Qg3 : Qf pg 86 23 [.cell 2 108] (Qaj 108) := mkB Tryz.func86 (by kernel_rfl)
theorem Qtz : QkX pg 86 := QyY Qg3 (show ZE Tryz.prog 108 = some (some 16) by kernel_rfl)
theorem QrJ : Qf pg 66 22 [.cell 2 108, .tmp 3] (QdQ 97 101 108) := mkB Tryz.func66 (by kernel_rfl)
theorem Qij : QhA pg 66 := Qv8 QrJ Qit Qvp (show ZE Tryz.prog 108 = some (some 16) by kernel_rfl)
theorem Qfq : Qf pg 49 18 [.cell 2 108, .tmp 3] (Js 85 86 108) := mkB Tryz.func49 (by kernel_rfl)
theorem Qhm : QhA pg 49 := Qug Qfq Qqi Qtz (show ZE Tryz.prog 108 = some (some 16) by kernel_rfl)
theorem QrP : Qf pg 58 16 [.tmp 2, .tmp 3] (QbM 97) := mkB Tryz.func58 (by kernel_rfl)
theorem Qqo : Qsg pg 58 := Qxj QrP Qit
theorem Qkm : Qf pg 34 18 [.tmp 2, .tmp 3] (Qah 58 59) := mkB Tryz.func34 (by kernel_rfl)
theorem QjU : Qhf pg 34 := Qpl Qkm Qqo Qkw
theorem Qfi : Qf pg 78 6 [.tmp 2] (Jo 115) := mkB Tryz.func78 (by kernel_rfl)
theorem QnP : QxU pg 78 := Qt8 Qfi QeH
theorem Qc5 : Qf pg 43 6 [.tmp 2] (Xp 78 77) := mkB Tryz.func43 (by kernel_rfl)
theorem Qdi : QmR pg 43 := QlI Qc5 QnP Qdl
theorem Qmy : Qf pg 38 31 [.tmp 2] JC := mkB Tryz.func38 (by kernel_rfl)
theorem QfO : Qbu pg 38 := QqF Qmy
theorem Qi6 : Qf pg 32 44 [.tmp 2] (Q2 25) := mkB Tryz.func32 (by kernel_rfl)
theorem Qdn : QcY pg 32 := Ql3 Qi6
theorem QmA : Qf pg 33 25 [.tmp 2] (JD 57 25) := mkB Tryz.func33 (by kernel_rfl)
theorem QfT : Qtt pg 33 := Qrf QmA Qdm
theorem Qkj : Qf pg 36 11 [.tmp 2] (X2 32 33 25) := mkB Tryz.func36 (by kernel_rfl)
theorem QjT : Qjn pg 36 := Qpa Qkj Qdn QfT
theorem Qfm : Qf pg 80 7 [.tmp 2] Xa := mkB Tryz.func80 (by kernel_rfl)
theorem QnR : Qm9 pg 80 := Quc Qfm
theorem Qev : Qf pg 45 22 [.tmp 4] (X7 80 3) := mkB Tryz.func45 (by kernel_rfl)
theorem Jf : QaT pg 45 := QqT Qev QnR
theorem Qkl : Qf pg 15 25 [.tmp 4, .tmp 5] (X3 34 35) := mkB Tryz.func15 (by kernel_rfl)
theorem QeJ : Qgy pg 15 := Qpk Qkl QjU Jh

end Go.Proofs.YthckgihcbjpjeaaGreatDoor.linesTells

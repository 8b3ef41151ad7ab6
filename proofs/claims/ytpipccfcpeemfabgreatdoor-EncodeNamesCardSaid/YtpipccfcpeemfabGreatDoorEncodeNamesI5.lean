/- What the functions that the law reaches return in this program, part 5; no conditions. -/
import Derived.Test.YtpipccfcpeemfabGreatDoorEncodeNamesI4
set_option linter.unusedSectionVars false
set_option linter.unusedSimpArgs false
set_option linter.unusedVariables false
namespace Go.Proofs.YtpipccfcpeemfabGreatDoor.encodeNames
open Go.Am Go.ChangeShapes Go.WideShapes Go.ChangeAt Go.RowKit

theorem QiO : Body pg 62 64 [] (X2 127 5) := ⟨Tryz.f62, Tryz.func62, by kernel_rfl, by kernel_rfl, by kernel_rfl, by kernel_rfl⟩
theorem QeE : Qwb pg 29 := QgH QeR QeD QeC QjO QiO QcN JG Qfe
theorem Qd8 : Body pg 127 51 [.tmp 4, .tmp 5] Xx := ⟨Tryz.f127, Tryz.func127, by kernel_rfl, by kernel_rfl, by kernel_rfl, by kernel_rfl⟩
theorem QjL : QpT pg 127 := Qo7 Qd8
theorem QfT : Body pg 111 30 [.tmp 4, .tmp 5] (Je 126 127) := ⟨Tryz.f111, Tryz.func111, by kernel_rfl, by kernel_rfl, by kernel_rfl, by kernel_rfl⟩
theorem QoG : QpT pg 111 := QtE QfT QjL
theorem Qbb : Body pg 85 48 [.tmp 4] (Zk 111 3) := ⟨Tryz.f85, Tryz.func85, by kernel_rfl, by kernel_rfl, by kernel_rfl, by kernel_rfl⟩
theorem Qez : Qf9 3 pg 85 := Qgw Qbb QoG
theorem Qbc : Body pg 112 36 [.tmp 2] (Zl 128 3) := ⟨Tryz.f112, Tryz.func112, by kernel_rfl, by kernel_rfl, by kernel_rfl, by kernel_rfl⟩
theorem growI : Qhs 3 pg 128 := grow_nilI Tryz.growI rfl rfl (by kernel_rfl)
theorem QeA : Qgj 3 pg 112 := Qgx Qbc growI
theorem QeM : Body pg 86 9 [.tmp 4] (XR 112 46) := ⟨Tryz.f86, Tryz.func86, by kernel_rfl, by kernel_rfl, by kernel_rfl, by kernel_rfl⟩
theorem QeB : QsG 3 pg 86 := QgC QeM QeA
theorem QiI : Body pg 58 39 [.tmp 4, .tmp 5] (QaA 76 84 85 86 3) := ⟨Tryz.f58, Tryz.func58, by kernel_rfl, by kernel_rfl, by kernel_rfl, by kernel_rfl⟩
theorem QhH : QsH 3 pg 58 := Qmn QiI JK QcB Qez QeB
theorem QcJ : Body pg 57 43 [] (XB 58) := ⟨Tryz.f57, Tryz.func57, by kernel_rfl, by kernel_rfl, by kernel_rfl, by kernel_rfl⟩
theorem QhS : Qgc 3 pg 57 := QmX QcJ QhH
theorem Qlg : Body pg 28 4 [.tmp 2] (Qbm 57 28) := ⟨Tryz.f28, Tryz.func28, by kernel_rfl, by kernel_rfl, by kernel_rfl, by kernel_rfl⟩
theorem QjT : Qgd 57 pg 28 := QpC Qlg
theorem QiS : Body pg 110 25 [.tmp 0] (QaE 215) := ⟨Tryz.f110, Tryz.func110, by kernel_rfl, by kernel_rfl, by kernel_rfl, by kernel_rfl⟩
theorem QhQ : Qi3 pg 110 := QmT QiS
theorem Qg0 : Body pg 109 29 [.tmp 6] JX := ⟨Tryz.f109, Tryz.func109, by kernel_rfl, by kernel_rfl, by kernel_rfl, by kernel_rfl⟩
theorem Qgt : Qgk pg 109 := QkN Qg0
theorem Qld : Body pg 83 13 [.tmp 4, .tmp 5] (JC 110 109) := ⟨Tryz.f83, Tryz.func83, by kernel_rfl, by kernel_rfl, by kernel_rfl, by kernel_rfl⟩
theorem QjR : Qnw pg 83 := Qpx Qld QhQ Qgt
theorem Qnh : Body pg 55 8 [.tmp 2, .tmp 3] (Qak 83) := ⟨Tryz.f55, Tryz.func55, by kernel_rfl, by kernel_rfl, by kernel_rfl, by kernel_rfl⟩
theorem Qfk : Qow pg 55 := QrY Qnh QjR
theorem Qsk : Body pg 56 18 [.cell 2 66] (Qd9 66) := ⟨Tryz.f56, Tryz.func56, by kernel_rfl, by kernel_rfl, by kernel_rfl, by kernel_rfl⟩
theorem Qp8 : Qsy pg 56 := Qvo Qsk (show Z5 Tryz.prog 66 = some (some 16) by kernel_rfl)
theorem Qm9 : Body pg 27 22 [.cell 2 66, .tmp 3] (Qb3 55 56 66) := ⟨Tryz.f27, Tryz.func27, by kernel_rfl, by kernel_rfl, by kernel_rfl, by kernel_rfl⟩
theorem QlC : Qsv pg 27 := QqL Qm9 Qfk Qp8 (show Z5 Tryz.prog 66 = some (some 16) by kernel_rfl)
theorem QiU : QsM pg 12 45 [.cell 4 40, .cell 5 23] (QaG 20 27 28 30 29 28 40 23 66 22) := ⟨Tryz.f12, Tryz.func12, by kernel_rfl, by kernel_rfl, by kernel_rfl, by kernel_rfl⟩
theorem QhT : Qjg pg 12 := QmY QiU J6 QlC QjT QhS QcJ Qem QeE (show Z5 Tryz.prog 40 = some none by kernel_rfl) (show Z5 Tryz.prog 23 = some none by kernel_rfl) (by decide) (by decide) (by decide) (by decide) (by decide)
theorem Qng : Body pg 34 16 [.tmp 2, .tmp 3] (Qaj 55) := ⟨Tryz.f34, Tryz.func34, by kernel_rfl, by kernel_rfl, by kernel_rfl, by kernel_rfl⟩
theorem QlL : QnA pg 34 := QrW Qng Qfk
theorem QgZ : Body pg 14 18 [.tmp 2, .tmp 3] (XA 34 32) := ⟨Tryz.f14, Tryz.func14, by kernel_rfl, by kernel_rfl, by kernel_rfl, by kernel_rfl⟩
theorem Qgs : Qeg pg 14 := QkL QgZ QlL JG
theorem QiE : Body pg 35 31 [.tmp 2] Z9 := ⟨Tryz.f35, Tryz.func35, by kernel_rfl, by kernel_rfl, by kernel_rfl, by kernel_rfl⟩
theorem Qhz : Qf7 pg 35 := QlZ QiE
theorem QiD : Body pg 15 38 [.tmp 2, .tmp 3] (XY 35 36 33 22) := ⟨Tryz.f15, Tryz.func15, by kernel_rfl, by kernel_rfl, by kernel_rfl, by kernel_rfl⟩
theorem QfS : Body pg 36 13 [] (Xf 32 5) := ⟨Tryz.f36, Tryz.func36, by kernel_rfl, by kernel_rfl, by kernel_rfl, by kernel_rfl⟩
theorem Qhy : Qf6 pg 15 := QlY QiD Qhz QfS JG QcN
theorem QfV : Body pg 64 44 [.tmp 2] (QA 37) := ⟨Tryz.f64, Tryz.func64, by kernel_rfl, by kernel_rfl, by kernel_rfl, by kernel_rfl⟩
theorem Qfg : Qjb pg 64 := Qig QfV
theorem QiJ : Body pg 65 25 [.tmp 2] (Xa 76 37) := ⟨Tryz.f65, Tryz.func65, by kernel_rfl, by kernel_rfl, by kernel_rfl, by kernel_rfl⟩

end Go.Proofs.YtpipccfcpeemfabGreatDoor.encodeNames

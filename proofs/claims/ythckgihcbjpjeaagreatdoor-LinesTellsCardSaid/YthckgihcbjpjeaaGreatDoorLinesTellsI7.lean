/- What the functions that the law reaches return in this program, part 7; no conditions. -/
import Derived.Test.YthckgihcbjpjeaaGreatDoorLinesTellsI6
set_option linter.unusedSectionVars false
set_option linter.unusedSimpArgs false
set_option linter.unusedVariables false
namespace Go.Proofs.YthckgihcbjpjeaaGreatDoor.linesTells
open Go.Am Go.ChangeShapes Go.WideShapes Go.ChangeAt Go.RowKit

theorem Qi7 : Qf pg 16 17 [.tmp 2, .tmp 3] (JI 36 37 25) := mkB Tryz.func16 (by kernel_rfl)
theorem J6 : Qbj pg 16 := Ql4 Qi7 QjT Qlm
theorem Qar : Qf pg 54 18 [.tmp 4] QZ := mkB Tryz.func54 (by kernel_rfl)
theorem QjD : QkW pg 54 := Qor Qar
theorem Qe5 : Qf pg 29 8 [.tmp 4] (Jl 54) := mkB Tryz.func29 (by kernel_rfl)
theorem QeP : QkW pg 29 := QgH Qe5 QjD
theorem QmB : Qf pg 14 86 [.cell 2 25, .tmp 3] (XB 29 30 31 32 33 25 79 0) := mkB Tryz.func14 (by kernel_rfl)
theorem Qcu : QaK pg 14 := Qrg QmB QeP Qql QeQ Qdn QfT (show ZE Tryz.prog 25 = some (some 5) by kernel_rfl) (show pg.G.lookup 0 = some QC4 by rfl)
theorem Qg7 : Qf pg 130 18 [.tmp 4] (XR 35) := mkB Tryz.func130 (by kernel_rfl)
theorem Qax : QpP pg 130 := Qi0 Qg7 Jh
theorem QpC : Qf pg 28 4 [.tmp 2] (QcO 52 22) := mkB Tryz.func28 (by kernel_rfl)
theorem QnG : Qr4 52 pg 28 := QtL QpC
theorem QdC : Qf pg 75 51 [.tmp 2] (QB 25) := mkB Tryz.func75 (by kernel_rfl)
theorem QjI : QcY pg 75 := QoI QdC
theorem Qfk : Qf pg 76 18 [.tmp 2] (Z9 45 25) := mkB Tryz.func76 (by kernel_rfl)
theorem QnQ : Qm7 pg 76 := Qua Qfk Jf
theorem Qeu : Qf pg 79 39 [.tmp 2] Zq := mkB Tryz.func79 (by kernel_rfl)
theorem Qlg : Qbu pg 79 := QqS Qeu
theorem QcI : Qf pg 27 26 [.tmp 4] Zc := mkB Tryz.func27 (by kernel_rfl)
theorem Qlf : Qr8 pg 27 := QqR QcI
theorem Qe9 : Qf pg 12 24 [.tmp 4] (Zh 27 28) := mkB Tryz.func12 (by kernel_rfl)
theorem QnK : Qm1 pg 12 := QtZ Qe9 Qlf
theorem Qe6 : Qf pg 7 17 [.tmp 4] (Z7 12 33) := mkB Tryz.func7 (by kernel_rfl)
theorem QnH : Qm0 pg 7 := QtW Qe6 QnK
theorem Qi5 : Qf pg 131 25 [.tmp 2, .tmp 3] JH := mkB Tryz.func131 (by kernel_rfl)
theorem Qiq : QkY pg 131 := Ql1 Qi5
theorem Qki : Qf pg 94 78 [.tmp 2, .tmp 3] (XZ 130 131 132 35 5) := mkB Tryz.func94 (by kernel_rfl)
theorem QhQ : Qf pg 132 16 [.tmp 2] Q4 := mkB Tryz.func132 (by kernel_rfl)
theorem Qir : Qef pg 94 := Ql2 Qki Qax Qiq QhQ Jh
theorem QxK : Qf pg 134 36 [.tmp 6] (Qg9 59 5 73) := mkB Tryz.func134 (by kernel_rfl)
theorem Qiv : Qao pg 134 := QBt QxK Qkw
theorem QrT : Qf pg 133 47 [.cell 4 204, .tmp 5] (J3 30 134 35 204) := mkB Tryz.func133 (by kernel_rfl)
theorem Qiu : QmU pg 133 := QxQ QrT Qql Qiv Jh (show ZE Tryz.prog 204 = some (some 2) by kernel_rfl)
theorem QrU : Qf pg 95 43 [.tmp 2, .tmp 3] (Xl 130 133 134 35 5 204) := mkB Tryz.func95 (by kernel_rfl)
theorem Qoe : Qcr pg 95 := Qu9 QrU Qax Qiu Qiv Jh
theorem QpD : Qf pg 53 19 [.tmp 2, .tmp 3] (Qa9 94 95) := mkB Tryz.func53 (by kernel_rfl)
theorem Qk6 : Qib pg 53 := Qqu QpD Qir Qoe
theorem Qmw : QBI pg 13 18 [.cell 2 3, .cell 3 29] (Je 28 3 29) := ⟨Tryz.f13, Tryz.func13, by kernel_rfl, by kernel_rfl, by kernel_rfl, by kernel_rfl⟩
theorem Qkd : Qf pg 52 35 [] (Qaa 53) := mkB Tryz.func52 (by kernel_rfl)
theorem QbT : QaL pg 13 := Qom Qmw QnG Qkd Qk6 (show ZE Tryz.prog 3 = some none by kernel_rfl) (show ZE Tryz.prog 29 = some none by kernel_rfl)
theorem Qu6 : Qf pg 109 74 [.tmp 2, .tmp 3] (Z3 130 133 134 35 5 204) := mkB Tryz.func109 (by kernel_rfl)
theorem QtF : QcZ pg 109 := QzJ Qu6 Qax Qiu Qiv Jh
theorem Qke : Qf pg 68 27 [.tmp 2, .tmp 3] (Qab 108 22) := mkB Tryz.func68 (by kernel_rfl)
theorem QhO : Qf pg 108 10 [.tmp 1] (Ji 109) := mkB Tryz.func108 (by kernel_rfl)
theorem Qig : Qcq pg 68 := Qly Qke QhO QtF

end Go.Proofs.YthckgihcbjpjeaaGreatDoor.linesTells

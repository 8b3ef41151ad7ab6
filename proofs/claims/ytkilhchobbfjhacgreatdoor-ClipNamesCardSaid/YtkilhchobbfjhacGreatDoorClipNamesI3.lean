/- What the functions that the law reaches return in this program, part 3; no conditions. -/
import Derived.Test.YtkilhchobbfjhacGreatDoorClipNamesI2
set_option linter.unusedSectionVars false
set_option linter.unusedSimpArgs false
set_option linter.unusedVariables false
namespace Go.Proofs.YtkilhchobbfjhacGreatDoor.clipNames
open Go.Am Go.ChangeShapes Go.WideShapes Go.ChangeAt Go.RowKit

theorem QmA : Qo pg 45 34 [.tmp 6, .tmp 7] (Qau 55 70 76) := ⟨Tryz.f45, Tryz.func45, by kernel_rfl, by kernel_rfl, by kernel_rfl, by kernel_rfl⟩
theorem Qa3 : Qfz pg 45 := QqO QmA Q4 Qfc
theorem Ji : Qo pg 104 14 [.tmp 2] (QV 0) := ⟨Tryz.f104, Tryz.func104, by kernel_rfl, by kernel_rfl, by kernel_rfl, by kernel_rfl⟩
theorem QmX : Qt1 pg 104 := Qsl Ji (show pg.G.lookup 0 = some dbG by rfl)
theorem Qe3 : Qo pg 103 8 [.tmp 2] Jj := ⟨Tryz.f103, Tryz.func103, by kernel_rfl, by kernel_rfl, by kernel_rfl, by kernel_rfl⟩
theorem QgY : Qgw pg 103 := QlA Qe3
theorem Qh5 : Qo pg 99 53 [.tmp 4, .tmp 5, .tmp 6] (Qak 55 103 45 104 76 3) := ⟨Tryz.f99, Tryz.func99, by kernel_rfl, by kernel_rfl, by kernel_rfl, by kernel_rfl⟩
theorem QgZ : Qj3 pg 99 := QlB Qh5 Q4 QgY Qa3 QmX
theorem Qid : Qo pg 54 2 [.cell 0 72] (Qap 72) := ⟨Tryz.f54, Tryz.func54, by kernel_rfl, by kernel_rfl, by kernel_rfl, by kernel_rfl⟩
theorem QcW : QcP pg 54 := Ql8 Qid (show Zs Tryz.prog 72 = some (some 4) by kernel_rfl)
theorem Qie : Qo pg 56 26 [.tmp 2] (Qaq 72) := ⟨Tryz.f56, Tryz.func56, by kernel_rfl, by kernel_rfl, by kernel_rfl, by kernel_rfl⟩
theorem QcX : QdN pg 56 := Ql9 Qie
theorem Qib : Qo pg 57 17 [.tmp 4, .tmp 5] (XY 72) := ⟨Tryz.f57, Tryz.func57, by kernel_rfl, by kernel_rfl, by kernel_rfl, by kernel_rfl⟩
theorem QaK : QcQ pg 57 := Ql6 Qib
theorem Qe5 : Qo pg 84 9 [.tmp 4] Xb := ⟨Tryz.f84, Tryz.func84, by kernel_rfl, by kernel_rfl, by kernel_rfl, by kernel_rfl⟩
theorem Qfb : QqT pg 84 := Qp3 Qe5
theorem QjL : Qo pg 91 68 [.tmp 6, .tmp 7, .tmp 8] (Zi 55 99 45 84 76) := ⟨Tryz.f91, Tryz.func91, by kernel_rfl, by kernel_rfl, by kernel_rfl, by kernel_rfl⟩
theorem Qiz : Qj5 pg 91 := QnC QjL Q4 QgZ Qa3 Qfb
theorem QjQ : Qo pg 69 86 [.tmp 6, .tmp 7, .cell 8 72, .tmp 9] (Zj 55 56 45 91 60 76 72) := ⟨Tryz.f69, Tryz.func69, by kernel_rfl, by kernel_rfl, by kernel_rfl, by kernel_rfl⟩
theorem Qc7 : Qo pg 60 36 [] (ZJ 86 57) := ⟨Tryz.f60, Tryz.func60, by kernel_rfl, by kernel_rfl, by kernel_rfl, by kernel_rfl⟩
theorem Qbs : Qo pg 86 58 [] Qq := ⟨Tryz.f86, Tryz.func86, by kernel_rfl, by kernel_rfl, by kernel_rfl, by kernel_rfl⟩
theorem QiD : Qj7 pg 69 := QoE QjQ Q4 QcX Qa3 Qiz Qc7 Qbs QaK (show Zs Tryz.prog 72 = some (some 4) by kernel_rfl)
theorem Z2 : Qo pg 67 8 [.tmp 2] (QE 5) := ⟨Tryz.f67, Tryz.func67, by kernel_rfl, by kernel_rfl, by kernel_rfl, by kernel_rfl⟩
theorem QeH : X6 pg 67 := Qhg Z2
theorem Qpa : Qo pg 43 14 [.cell 2 76, .tmp 3] (Qbf 67 76) := ⟨Tryz.f43, Tryz.func43, by kernel_rfl, by kernel_rfl, by kernel_rfl, by kernel_rfl⟩
theorem QmY : Qss pg 43 := Qsm Qpa QeH (show Zs Tryz.prog 76 = some (some 2) by kernel_rfl)
theorem QmB : Qo pg 68 46 [.cell 6 76, .tmp 7] (QbJ 55 70 83 76) := ⟨Tryz.f68, Tryz.func68, by kernel_rfl, by kernel_rfl, by kernel_rfl, by kernel_rfl⟩
theorem Qfy : Qo pg 83 75 [] (Jm 5) := ⟨Tryz.f83, Tryz.func83, by kernel_rfl, by kernel_rfl, by kernel_rfl, by kernel_rfl⟩
theorem Qly : Qsw pg 68 := QqP QmB Q4 Qfc Qfy (show Zs Tryz.prog 76 = some (some 2) by kernel_rfl)
theorem Qds : Qo pg 42 46 [.tmp 2, .tmp 3] (QX 32 66) := ⟨Tryz.f42, Tryz.func42, by kernel_rfl, by kernel_rfl, by kernel_rfl, by kernel_rfl⟩
theorem Qdg : Qgz pg 42 := Qe0 Qds QdW Qlw
theorem Qdr : Qo pg 44 76 [.tmp 6, .tmp 7, .tmp 8] (Xt 54 68 69 76 73 72 77) := ⟨Tryz.f44, Tryz.func44, by kernel_rfl, by kernel_rfl, by kernel_rfl, by kernel_rfl⟩
theorem Qdf : Qj6 pg 44 := QeZ Qdr QcW Qly QiD
theorem Qdt : Qo pg 23 87 [.tmp 8, .tmp 9] (Qz 36 42 43 44 45 46 50 44 76) := ⟨Tryz.f23, Tryz.func23, by kernel_rfl, by kernel_rfl, by kernel_rfl, by kernel_rfl⟩
theorem Qdh : QgH pg 23 := Qe1 Qdt X9 Qdg QmY Qdf Qa3 Qct
theorem QmV : QdO 5 pg 67 := Qsi Z2
theorem Qmz : Qo pg 58 44 [.cell 6 76, .tmp 7] (Qat 55 82 83 76) := ⟨Tryz.f58, Tryz.func58, by kernel_rfl, by kernel_rfl, by kernel_rfl, by kernel_rfl⟩
theorem QjW : Qo pg 82 9 [.cell 2 76] (JB 67 76) := ⟨Tryz.f82, Tryz.func82, by kernel_rfl, by kernel_rfl, by kernel_rfl, by kernel_rfl⟩
theorem Qcu : Qim pg 58 := QqN Qmz Q4 QjW Qfy QmV (show Zs Tryz.prog 76 = some (some 2) by kernel_rfl) (show Zs Tryz.prog 76 = some (some 2) by kernel_rfl)
theorem Qe4 : Qo pg 98 13 [.tmp 2, .tmp 3] Jk := ⟨Tryz.f98, Tryz.func98, by kernel_rfl, by kernel_rfl, by kernel_rfl, by kernel_rfl⟩
theorem QeG : Qpj pg 98 := Qhb Qe4
theorem Qgg : Qo pg 85 32 [.cell 4 76, .tmp 5] (JI 55 98 58 76) := ⟨Tryz.f85, Tryz.func85, by kernel_rfl, by kernel_rfl, by kernel_rfl, by kernel_rfl⟩
theorem QfB : Qgv pg 85 := QiJ Qgg Q4 QeG Qcu (show Zs Tryz.prog 76 = some (some 2) by kernel_rfl)
theorem Qh9 : Qo pg 59 57 [.cell 6 76, .tmp 7] (XX 55 84 85 58 76) := ⟨Tryz.f59, Tryz.func59, by kernel_rfl, by kernel_rfl, by kernel_rfl, by kernel_rfl⟩
theorem Qg1 : Qgy pg 59 := QlM Qh9 Q4 Qfb QfB Qcu (show Zs Tryz.prog 76 = some (some 2) by kernel_rfl)

end Go.Proofs.YtkilhchobbfjhacGreatDoor.clipNames

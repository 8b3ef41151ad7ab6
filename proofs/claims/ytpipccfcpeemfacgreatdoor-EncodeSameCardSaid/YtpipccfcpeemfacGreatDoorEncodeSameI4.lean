/- What the functions that the law reaches return in this program, part 4; no conditions. -/
import Derived.Test.YtpipccfcpeemfacGreatDoorEncodeSameI3
set_option linter.unusedSectionVars false
set_option linter.unusedSimpArgs false
set_option linter.unusedVariables false
namespace Go.Proofs.YtpipccfcpeemfacGreatDoor.encodeSame
open Go.Am Go.ChangeShapes Go.WideShapes Go.ChangeAt Go.RowKit

theorem QhB : Qjh pg 25 := QlJ QiL QaZ
theorem Qnm : Body pg 9 41 [.tmp 2, .tmp 3] (Qag 23 24 25 26 24 64) := ⟨Tryz.f9, Tryz.func9, by kernel_rfl, by kernel_rfl, by kernel_rfl, by kernel_rfl⟩
theorem QlN : Qee pg 9 := Qqn Qnm J6 QlY QhB QjR
theorem Qct : Body pg 5 19 [.tmp 2] (QH 24) := ⟨Tryz.f5, Tryz.func5, by kernel_rfl, by kernel_rfl, by kernel_rfl, by kernel_rfl⟩
theorem QhG : Qgj pg 5 := Qmn Qct
theorem Qp2 : Body pg 53 31 [.tmp 4, .tmp 5] (Qc2 82) := ⟨Tryz.f53, Tryz.func53, by kernel_rfl, by kernel_rfl, by kernel_rfl, by kernel_rfl⟩
theorem QoU : QsS pg 53 := Qtm Qp2 QlT
theorem Qp3 : Body pg 27 116 [.cell 2 24, .tmp 3] (Qc3 52 53 54 55 23 24 60) := ⟨Tryz.f27, Tryz.func27, by kernel_rfl, by kernel_rfl, by kernel_rfl, by kernel_rfl⟩
theorem QoV : Qf9 pg 27 := Qtn Qp3 QlS QoU Qo0 Qff J6 (show Z6 Tryz.prog 24 = some (some 4) by kernel_rfl)
theorem Qi3 : Body pg 101 24 [.tmp 0] (QaG 216) := ⟨Tryz.f101, Tryz.func101, by kernel_rfl, by kernel_rfl, by kernel_rfl, by kernel_rfl⟩
theorem QhX : QnG pg 101 := Qna Qi3
theorem Qlr : Body pg 68 32 [.tmp 4, .tmp 5] (JE 101) := ⟨Tryz.f68, Tryz.func68, by kernel_rfl, by kernel_rfl, by kernel_rfl, by kernel_rfl⟩
theorem Qj4 : QnS pg 68 := QpP Qlr QhX
theorem Qny : Body pg 34 16 [.tmp 2, .tmp 3] (Qam 68) := ⟨Tryz.f34, Tryz.func34, by kernel_rfl, by kernel_rfl, by kernel_rfl, by kernel_rfl⟩
theorem QcP : Qlz pg 34 := Qsk Qny Qj4
theorem Qlv : Body pg 94 40 [.tmp 2] (JF 129) := ⟨Tryz.f94, Tryz.func94, by kernel_rfl, by kernel_rfl, by kernel_rfl, by kernel_rfl⟩
theorem J7 : Qcr pg 94 := Qp1 Qlv
theorem Qlo : Body pg 93 2 [.cell 0 125] (Qbl 125) := ⟨Tryz.f93, Tryz.func93, by kernel_rfl, by kernel_rfl, by kernel_rfl, by kernel_rfl⟩
theorem Qj1 : Qjk pg 93 := QpL Qlo (show Z6 Tryz.prog 125 = some (some 4) by kernel_rfl)
theorem Qlp : Body pg 95 26 [.tmp 2] (Qbm 125) := ⟨Tryz.f95, Tryz.func95, by kernel_rfl, by kernel_rfl, by kernel_rfl, by kernel_rfl⟩
theorem Qj2 : Qjw pg 95 := QpM Qlp
theorem Qll : Body pg 96 17 [.tmp 4, .tmp 5] (JB 125) := ⟨Tryz.f96, Tryz.func96, by kernel_rfl, by kernel_rfl, by kernel_rfl, by kernel_rfl⟩
theorem Qem : Qgi pg 96 := QpI Qll
theorem QgX : Body pg 123 9 [.tmp 4] Xx := ⟨Tryz.f123, Tryz.func123, by kernel_rfl, by kernel_rfl, by kernel_rfl, by kernel_rfl⟩
theorem QoW : Qwu pg 123 := QtN QgX
theorem QaR : Body pg 134 8 [.tmp 2] (QS 5) := ⟨Tryz.f134, Tryz.func134, by kernel_rfl, by kernel_rfl, by kernel_rfl, by kernel_rfl⟩
theorem Qqt : Qfc 5 pg 134 := Qwl QaR
theorem Qp8 : Body pg 97 44 [.cell 6 129, .tmp 7] (Qbq 94 121 122 129) := ⟨Tryz.f97, Tryz.func97, by kernel_rfl, by kernel_rfl, by kernel_rfl, by kernel_rfl⟩
theorem QnB : Body pg 121 9 [.cell 2 129] (Qan 134 129) := ⟨Tryz.f121, Tryz.func121, by kernel_rfl, by kernel_rfl, by kernel_rfl, by kernel_rfl⟩
theorem Qp7 : Body pg 122 75 [] (Qbp 5) := ⟨Tryz.f122, Tryz.func122, by kernel_rfl, by kernel_rfl, by kernel_rfl, by kernel_rfl⟩
theorem QdO : Qlx pg 97 := QuP Qp8 J7 QnB Qp7 Qqt (show Z6 Tryz.prog 129 = some (some 2) by kernel_rfl) (show Z6 Tryz.prog 129 = some (some 2) by kernel_rfl)
theorem QgU : Body pg 135 13 [.tmp 2, .tmp 3] JW := ⟨Tryz.f135, Tryz.func135, by kernel_rfl, by kernel_rfl, by kernel_rfl, by kernel_rfl⟩
theorem Qgt : QsO pg 135 := Qj7 QgU
theorem QiM : Body pg 124 32 [.cell 4 129, .tmp 5] (Qax 94 135 97 129) := ⟨Tryz.f124, Tryz.func124, by kernel_rfl, by kernel_rfl, by kernel_rfl, by kernel_rfl⟩
theorem QhC : Qjc pg 124 := Ql3 QiM J7 Qgt QdO (show Z6 Tryz.prog 129 = some (some 2) by kernel_rfl)
theorem Qli : Body pg 98 57 [.cell 6 129, .tmp 7] (Jz 94 123 124 97 129) := ⟨Tryz.f98, Tryz.func98, by kernel_rfl, by kernel_rfl, by kernel_rfl, by kernel_rfl⟩
theorem QjU : Qje pg 98 := Qph Qli J7 QoW QhC QdO (show Z6 Tryz.prog 129 = some (some 2) by kernel_rfl)
theorem Qln : Body pg 62 69 [.cell 6 129, .cell 7 125, .tmp 8] (JC 94 95 96 97 98 99 129 125) := ⟨Tryz.f62, Tryz.func62, by kernel_rfl, by kernel_rfl, by kernel_rfl, by kernel_rfl⟩
theorem Qlm : Body pg 99 36 [] (XA 125 96) := ⟨Tryz.f99, Tryz.func99, by kernel_rfl, by kernel_rfl, by kernel_rfl, by kernel_rfl⟩
theorem Qg1 : Body pg 125 58 [] Qm := ⟨Tryz.f125, Tryz.func125, by kernel_rfl, by kernel_rfl, by kernel_rfl, by kernel_rfl⟩
theorem Qj0 : Qjf pg 62 := QpK Qln J7 Qj2 Qem QdO QjU Qlm Qg1 Qem (show Z6 Tryz.prog 129 = some (some 2) by kernel_rfl) (show Z6 Tryz.prog 125 = some (some 4) by kernel_rfl)
theorem QeS : Body pg 61 11 [.cell 0 126] (XT 93 126) := ⟨Tryz.f61, Tryz.func61, by kernel_rfl, by kernel_rfl, by kernel_rfl, by kernel_rfl⟩
theorem QeD : QdI pg 61 := QgJ QeS Qj1 (show Z6 Tryz.prog 126 = some (some 24) by kernel_rfl)
theorem Qau : Body pg 64 36 [.tmp 2] (Q9 100 5) := ⟨Tryz.f64, Tryz.func64, by kernel_rfl, by kernel_rfl, by kernel_rfl, by kernel_rfl⟩
theorem growB : Qgn 5 pg 100 := grow_nil Tryz.growB rfl rfl (by kernel_rfl)

end Go.Proofs.YtpipccfcpeemfacGreatDoor.encodeSame

/- What the functions that the law reaches return in this program, part 3; no conditions. -/
import Derived.Test.YtkilhchobbfjhabGreatDoorEncodeFilesI2
set_option linter.unusedSectionVars false
set_option linter.unusedSimpArgs false
set_option linter.unusedVariables false
namespace Go.Proofs.YtkilhchobbfjhabGreatDoor.encodeFiles
open Go.Am Go.ChangeShapes Go.WideShapes Go.ChangeAt Go.RowKit

theorem QgN : Qj pg 72 30 [.tmp 4] (Qaa 65 41 64) := ⟨Tryz.f72, Tryz.func72, by kernel_rfl, by kernel_rfl, by kernel_rfl, by kernel_rfl⟩
theorem Qf9 : Qhe pg 72 := Qju QgN Qca Qd2
theorem Qdb : Qj pg 32 28 [.tmp 4] (Xr 55 56 64) := ⟨Tryz.f32, Tryz.func32, by kernel_rfl, by kernel_rfl, by kernel_rfl, by kernel_rfl⟩
theorem Qd5 : Qhe pg 32 := QnF Qdb Qd4 QiK
theorem Qb3 : Qj pg 118 25 [.tmp 6] (ZO 21) := ⟨Tryz.f118, Tryz.func118, by kernel_rfl, by kernel_rfl, by kernel_rfl, by kernel_rfl⟩
theorem Qf5 : Qhg pg 118 := Qje Qb3
theorem QfL : Qj pg 46 83 [.tmp 6, .tmp 7] (JN 72 73 74 75 76 64 56 134 133 70) := ⟨Tryz.f46, Tryz.func46, by kernel_rfl, by kernel_rfl, by kernel_rfl, by kernel_rfl⟩
theorem QfE : QoN pg 46 := QhM QfL Qf9 QrA Qna Qgc Qm6
theorem Qc8 : Qj pg 92 72 [.tmp 6] (Xp 116 117 118 119 120 64 56 70 133) := ⟨Tryz.f92, Tryz.func92, by kernel_rfl, by kernel_rfl, by kernel_rfl, by kernel_rfl⟩
theorem QiI : Qkr pg 92 := QnC Qc8 Qm0 QmZ Qf5 QkZ Qk7
theorem QgL : Qj pg 66 32 [.tmp 4, .tmp 5] (J9 69) := ⟨Tryz.f66, Tryz.func66, by kernel_rfl, by kernel_rfl, by kernel_rfl, by kernel_rfl⟩
theorem Qav : J2 pg 66 := Qjm QgL Qdj
theorem QmE : Qj pg 25 8 [.cell 2 64] (QbQ 24 64) := ⟨Tryz.f25, Tryz.func25, by kernel_rfl, by kernel_rfl, by kernel_rfl, by kernel_rfl⟩
theorem Qfs : J1 pg 25 := Qq3 QmE (show Q4 Tryz.prog 64 = some (some 2) by kernel_rfl)
theorem Qc4 : Qj pg 33 8 [.cell 2 64] (Xm 24 64) := ⟨Tryz.f33, Tryz.func33, by kernel_rfl, by kernel_rfl, by kernel_rfl, by kernel_rfl⟩
theorem Qd3 : J1 pg 33 := Qny Qc4 (show Q4 Tryz.prog 64 = some (some 2) by kernel_rfl)
theorem Qoz : Qj pg 40 31 [.tmp 4] (Qcu 25 65 66 24) := ⟨Tryz.f40, Tryz.func40, by kernel_rfl, by kernel_rfl, by kernel_rfl, by kernel_rfl⟩
theorem Qm9 : QoR pg 40 := Qtr Qoz Qfs Qca Qav
theorem QmG : Qj pg 21 33 [.tmp 2] (JA 40 41 24) := ⟨Tryz.f21, Tryz.func21, by kernel_rfl, by kernel_rfl, by kernel_rfl, by kernel_rfl⟩
theorem Qft : Je pg 21 := Qq6 QmG Qm9 Qd2
theorem Qc7 : Qj pg 57 19 [.tmp 4] (Xo 55 64) := ⟨Tryz.f57, Tryz.func57, by kernel_rfl, by kernel_rfl, by kernel_rfl, by kernel_rfl⟩
theorem QiH : QoT pg 57 := QnB Qc7 Qd4
theorem Qev : Qj pg 87 41 [.tmp 4, .tmp 5] (QX 111 3) := ⟨Tryz.f87, Tryz.func87, by kernel_rfl, by kernel_rfl, by kernel_rfl, by kernel_rfl⟩
theorem QmY : QoU pg 87 := Qsh Qev QkY
theorem Qc6 : Qj pg 58 17 [.tmp 4, .tmp 5] (Zs 87) := ⟨Tryz.f58, Tryz.func58, by kernel_rfl, by kernel_rfl, by kernel_rfl, by kernel_rfl⟩
theorem QiG : J2 pg 58 := QnA Qc6 QmY
theorem QdE : Qj pg 34 21 [.tmp 4] (XF 33 57 58 24) := ⟨Tryz.f34, Tryz.func34, by kernel_rfl, by kernel_rfl, by kernel_rfl, by kernel_rfl⟩
theorem QkX : Qg4 pg 34 := Qqn QdE Qd3 QiH QiG
theorem Qc5 : Qj pg 19 20 [.tmp 2] (Xn 33 32 34 24) := ⟨Tryz.f19, Tryz.func19, by kernel_rfl, by kernel_rfl, by kernel_rfl, by kernel_rfl⟩
theorem QiF : Je pg 19 := Qnz Qc5 Qd3 Qd5 QkX
theorem QtM : Qj pg 53 14 [.tmp 4] Qbs := ⟨Tryz.f53, Tryz.func53, by kernel_rfl, by kernel_rfl, by kernel_rfl, by kernel_rfl⟩
theorem QrB : QtU pg 53 := Qwe QtM
theorem Qrf : Qj pg 27 35 [.tmp 4, .tmp 5] (QbN 53 5) := ⟨Tryz.f27, Tryz.func27, by kernel_rfl, by kernel_rfl, by kernel_rfl, by kernel_rfl⟩
theorem QcA : Qbt pg 27 := Qu1 Qrf QrB
theorem Qb5 : Qj pg 62 21 [.tmp 4] (ZS 5) := ⟨Tryz.f62, Tryz.func62, by kernel_rfl, by kernel_rfl, by kernel_rfl, by kernel_rfl⟩
theorem Qau : Qcw pg 62 := Qjg Qb5
theorem Qc2 : Qj pg 4 19 [.tmp 2] (QQ 24) := ⟨Tryz.f4, Tryz.func4, by kernel_rfl, by kernel_rfl, by kernel_rfl, by kernel_rfl⟩
theorem QiD : Qg9 pg 4 := Qnw Qc2
theorem QdA : Qj pg 5 9 [.cell 2 24] (XD 24 21) := ⟨Tryz.f5, Tryz.func5, by kernel_rfl, by kernel_rfl, by kernel_rfl, by kernel_rfl⟩
theorem QkT : Qkh pg 5 := Qqj QdA (show Q4 Tryz.prog 24 = some (some 4) by kernel_rfl)
theorem QdB : Qj pg 10 52 [.tmp 4] (QI 24) := ⟨Tryz.f10, Tryz.func10, by kernel_rfl, by kernel_rfl, by kernel_rfl, by kernel_rfl⟩
theorem QkU : Qkn pg 10 := Qqk QdB
theorem Qj5 : Qj pg 85 24 [.tmp 0] (Qbe 187) := ⟨Tryz.f85, Tryz.func85, by kernel_rfl, by kernel_rfl, by kernel_rfl, by kernel_rfl⟩
theorem Qi0 : QoF pg 85 := Qoh Qj5
theorem QmD : Qj pg 54 32 [.tmp 4, .tmp 5] (Qao 85) := ⟨Tryz.f54, Tryz.func54, by kernel_rfl, by kernel_rfl, by kernel_rfl, by kernel_rfl⟩

end Go.Proofs.YtkilhchobbfjhabGreatDoor.encodeFiles

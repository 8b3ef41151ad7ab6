/- What the functions that the law reaches return in this program, part 5; no conditions. -/
import Derived.Test.YtkilhchobbfjhabGreatDoorEncodeFilesI4
set_option linter.unusedSectionVars false
set_option linter.unusedSimpArgs false
set_option linter.unusedVariables false
namespace Go.Proofs.YtkilhchobbfjhabGreatDoor.encodeFiles
open Go.Am Go.ChangeShapes Go.WideShapes Go.ChangeAt Go.RowKit

theorem QjQ : Qj pg 109 32 [.cell 4 99, .tmp 5] (Qa7 78 131 81 99) := ⟨Tryz.f109, Tryz.func109, by kernel_rfl, by kernel_rfl, by kernel_rfl, by kernel_rfl⟩
theorem Qix : Qkc pg 109 := Qnd QjQ QaQ Qhq QeM (show Q4 Tryz.prog 99 = some (some 2) by kernel_rfl)
theorem Qmv : Qj pg 82 57 [.cell 6 99, .tmp 7] (Qak 78 108 109 81 99) := ⟨Tryz.f82, Tryz.func82, by kernel_rfl, by kernel_rfl, by kernel_rfl, by kernel_rfl⟩
theorem QkR : Qke pg 82 := Qqf Qmv QaQ QpY Qix QeM (show Q4 Tryz.prog 99 = some (some 2) by kernel_rfl)
theorem Qmz : Qj pg 48 69 [.cell 6 99, .cell 7 95, .tmp 8] (Qam 78 79 80 81 82 83 99 95) := ⟨Tryz.f48, Tryz.func48, by kernel_rfl, by kernel_rfl, by kernel_rfl, by kernel_rfl⟩
theorem Qmy : Qj pg 83 36 [] (Jw 110 80) := ⟨Tryz.f83, Tryz.func83, by kernel_rfl, by kernel_rfl, by kernel_rfl, by kernel_rfl⟩
theorem Qh0 : Qj pg 110 58 [] Qr := ⟨Tryz.f110, Tryz.func110, by kernel_rfl, by kernel_rfl, by kernel_rfl, by kernel_rfl⟩
theorem Qlf : Qkg pg 48 := QqW Qmz QaQ Qlh Qfr QeM QkR Qmy Qh0 Qfr (show Q4 Tryz.prog 99 = some (some 2) by kernel_rfl) (show Q4 Tryz.prog 95 = some (some 4) by kernel_rfl)
theorem QfK : Qj pg 47 11 [.cell 0 96] (JM 77 96) := ⟨Tryz.f47, Tryz.func47, by kernel_rfl, by kernel_rfl, by kernel_rfl, by kernel_rfl⟩
theorem QfD : QeI pg 47 := QhL QfK Qlg (show Q4 Tryz.prog 96 = some (some 24) by kernel_rfl)
theorem Qa5 : Qj pg 50 36 [.tmp 2] (Zl 84 5) := ⟨Tryz.f50, Tryz.func50, by kernel_rfl, by kernel_rfl, by kernel_rfl, by kernel_rfl⟩
theorem growB : Qhd 5 pg 84 := grow_nil Tryz.growB rfl rfl (by kernel_rfl)
theorem Qf3 : QkD pg 50 := Qi6 Qa5 growB
theorem QfM : Qj pg 24 85 [.tmp 6, .tmp 7] (Xz 46 47 48 49 28 27 50 64 56 96 99 95 27) := ⟨Tryz.f24, Tryz.func24, by kernel_rfl, by kernel_rfl, by kernel_rfl, by kernel_rfl⟩
theorem Qj0 : Qj pg 49 64 [] (JT 99 5) := ⟨Tryz.f49, Tryz.func49, by kernel_rfl, by kernel_rfl, by kernel_rfl, by kernel_rfl⟩
theorem QfF : Qrl pg 24 := QhN QfM QfE QfD Qlf Qj0 Qdq QcA Qf3
theorem QeB : Qj pg 114 25 [.cell 6 99] (ZQ 134 136 135 138 137 99 95) := ⟨Tryz.f114, Tryz.func114, by kernel_rfl, by kernel_rfl, by kernel_rfl, by kernel_rfl⟩
theorem Z9 : Qj pg 136 43 [.cell 4 99] (Qo 99 5) := ⟨Tryz.f136, Tryz.func136, by kernel_rfl, by kernel_rfl, by kernel_rfl, by kernel_rfl⟩
theorem JZ : Qj pg 135 21 [.cell 6 99] (QK 136 99) := ⟨Tryz.f135, Tryz.func135, by kernel_rfl, by kernel_rfl, by kernel_rfl, by kernel_rfl⟩
theorem QeC : Qj pg 137 28 [.cell 6 99] (Zd 152 153 135 151 99) := ⟨Tryz.f137, Tryz.func137, by kernel_rfl, by kernel_rfl, by kernel_rfl, by kernel_rfl⟩
theorem QeD : Qj pg 153 18 [.cell 4 99] (Ze 136 99) := ⟨Tryz.f153, Tryz.func153, by kernel_rfl, by kernel_rfl, by kernel_rfl, by kernel_rfl⟩
theorem Qm3 : QtV pg 114 := Qsn QeB Qf7 Qfq Z9 JZ Z9 QeC Qk6 QeD JZ Jo Z9 Z9 (show Q4 Tryz.prog 99 = some (some 2) by kernel_rfl) (show Q4 Tryz.prog 99 = some (some 2) by kernel_rfl) (show Q4 Tryz.prog 99 = some (some 2) by kernel_rfl) (show Q4 Tryz.prog 99 = some (some 2) by kernel_rfl) (show Q4 Tryz.prog 99 = some (some 2) by kernel_rfl)
theorem Qcj : Qj pg 113 37 [.tmp 4] (Z2 132 133 95) := ⟨Tryz.f113, Tryz.func113, by kernel_rfl, by kernel_rfl, by kernel_rfl, by kernel_rfl⟩
theorem Qhs : QgS pg 113 := QlF Qcj QiO Qhy
theorem Qda : Qj pg 91 69 [.tmp 4] (Xq 113 114 115 99 5) := ⟨Tryz.f91, Tryz.func91, by kernel_rfl, by kernel_rfl, by kernel_rfl, by kernel_rfl⟩
theorem QiJ : Qkf pg 91 := QnE Qda Qhs Qm3 Qht
theorem Qcl : Qj pg 61 22 [.tmp 6, .tmp 7] (Zh 32 92 91 64 56) := ⟨Tryz.f61, Tryz.func61, by kernel_rfl, by kernel_rfl, by kernel_rfl, by kernel_rfl⟩
theorem Qhu : Qrl pg 61 := QlH Qcl Qd5 QiI QiJ
theorem Qfa : Qj pg 124 51 [.tmp 4, .tmp 5] Ju := ⟨Tryz.f124, Tryz.func124, by kernel_rfl, by kernel_rfl, by kernel_rfl, by kernel_rfl⟩
theorem Qld : Qrk pg 124 := QqG Qfa
theorem QgK : Qj pg 97 30 [.tmp 4, .tmp 5] (J8 123 124) := ⟨Tryz.f97, Tryz.func97, by kernel_rfl, by kernel_rfl, by kernel_rfl, by kernel_rfl⟩
theorem Qp1 : Qrk pg 97 := QuX QgK Qld
theorem QbH : Qj pg 70 48 [.tmp 4] (ZE 97 3) := ⟨Tryz.f70, Tryz.func70, by kernel_rfl, by kernel_rfl, by kernel_rfl, by kernel_rfl⟩
theorem QfA : Qg0 3 pg 70 := QhF QbH Qp1
theorem QbI : Qj pg 98 36 [.tmp 2] (ZF 125 3) := ⟨Tryz.f98, Tryz.func98, by kernel_rfl, by kernel_rfl, by kernel_rfl, by kernel_rfl⟩
theorem growI : Qir 3 pg 125 := grow_nilI Tryz.growI rfl rfl (by kernel_rfl)
theorem QfB : Qhf 3 pg 98 := QhG QbI growI
theorem QfJ : Qj pg 71 9 [.tmp 4] (JL 98 49) := ⟨Tryz.f71, Tryz.func71, by kernel_rfl, by kernel_rfl, by kernel_rfl, by kernel_rfl⟩
theorem QfC : Qt7 3 pg 71 := QhI QfJ QfB
theorem QjU : Qj pg 45 39 [.tmp 4, .tmp 5] (Qa9 66 69 70 71 3) := ⟨Tryz.f45, Tryz.func45, by kernel_rfl, by kernel_rfl, by kernel_rfl, by kernel_rfl⟩
theorem QiQ : Qt8 3 pg 45 := QnQ QjU Qav Qdj QfA QfC
theorem Qdo : Qj pg 44 43 [] (Jz 45) := ⟨Tryz.f44, Tryz.func44, by kernel_rfl, by kernel_rfl, by kernel_rfl, by kernel_rfl⟩
theorem Qi1 : Qg6 3 pg 44 := Qoj Qdo QiQ
theorem QmF : Qj pg 23 4 [.tmp 2] (QbR 44 24) := ⟨Tryz.f23, Tryz.func23, by kernel_rfl, by kernel_rfl, by kernel_rfl, by kernel_rfl⟩
theorem Qlk : Qg7 44 pg 23 := Qq4 QmF

end Go.Proofs.YtkilhchobbfjhabGreatDoor.encodeFiles

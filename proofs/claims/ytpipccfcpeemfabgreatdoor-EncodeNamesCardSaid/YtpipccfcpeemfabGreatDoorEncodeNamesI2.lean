/- What the functions that the law reaches return in this program, part 2; no conditions. -/
import Derived.Test.YtpipccfcpeemfabGreatDoorEncodeNamesI1
set_option linter.unusedSectionVars false
set_option linter.unusedSimpArgs false
set_option linter.unusedVariables false
namespace Go.Proofs.YtpipccfcpeemfabGreatDoor.encodeNames
open Go.Am Go.ChangeShapes Go.WideShapes Go.ChangeAt Go.RowKit

theorem QhM : Qji pg 129 := QmC QiM
theorem QiL : Body pg 130 16 [.tmp 4] XZ := ⟨Tryz.f130, Tryz.func130, by kernel_rfl, by kernel_rfl, by kernel_rfl, by kernel_rfl⟩
theorem QhL : Qjh pg 130 := QmB QiL
theorem QiN : Body pg 118 19 [.tmp 4, .tmp 5] (QaB 129 130) := ⟨Tryz.f118, Tryz.func118, by kernel_rfl, by kernel_rfl, by kernel_rfl, by kernel_rfl⟩
theorem QhN : Qjj pg 118 := QmD QiN QhM QhL
theorem Qnk : Body pg 89 21 [.cell 4 166, .tmp 5] (Qb7 116 66 166 164) := ⟨Tryz.f89, Tryz.func89, by kernel_rfl, by kernel_rfl, by kernel_rfl, by kernel_rfl⟩
theorem QlO : QsF pg 89 := Qr7 Qnk (show Z5 Tryz.prog 166 = some (some 35) by kernel_rfl) Qg4
theorem QiV : Body pg 117 24 [.tmp 2] (QaH 116 166 164) := ⟨Tryz.f117, Tryz.func117, by kernel_rfl, by kernel_rfl, by kernel_rfl, by kernel_rfl⟩
theorem QhU : Qjq pg 117 := QmZ QiV Qg4
theorem Qf2 : Body pg 90 44 [.tmp 4, .cell 5 166, .tmp 6] (Jl 117 118 119 166 164) := ⟨Tryz.f90, Tryz.func90, by kernel_rfl, by kernel_rfl, by kernel_rfl, by kernel_rfl⟩
theorem Qfl : Qeh pg 90 := Qix Qf2 (show Z5 Tryz.prog 166 = some (some 35) by kernel_rfl) QhU QhN QhG
theorem Qnf : Body pg 91 10 [.tmp 2] Qai := ⟨Tryz.f91, Tryz.func91, by kernel_rfl, by kernel_rfl, by kernel_rfl, by kernel_rfl⟩
theorem QlJ : QsA pg 91 := QrD Qnf
theorem J0 : Body pg 114 8 [.tmp 2] (Q4 21) := ⟨Tryz.f114, Tryz.func114, by kernel_rfl, by kernel_rfl, by kernel_rfl, by kernel_rfl⟩
theorem QlM : Qjo 21 pg 114 := Qr2 J0
theorem Qsl : Body pg 115 39 [] Qea := ⟨Tryz.f115, Tryz.func115, by kernel_rfl, by kernel_rfl, by kernel_rfl, by kernel_rfl⟩
theorem Qp9 : Qwa pg 115 := Qvx Qsl
theorem Qne : Body pg 113 22 [.tmp 4] ZN := ⟨Tryz.f113, Tryz.func113, by kernel_rfl, by kernel_rfl, by kernel_rfl, by kernel_rfl⟩
theorem QlH : Qje pg 113 := Qrh Qne
theorem Qsm : Body pg 88 32 [.tmp 4, .tmp 5] (Qeb 113 114 115) := ⟨Tryz.f88, Tryz.func88, by kernel_rfl, by kernel_rfl, by kernel_rfl, by kernel_rfl⟩
theorem Qqa : Qjd pg 88 := Qvy Qsm QlH QlM Qp9
theorem QfZ : Body pg 87 30 [.tmp 4] (Ji 75 42 63) := ⟨Tryz.f87, Tryz.func87, by kernel_rfl, by kernel_rfl, by kernel_rfl, by kernel_rfl⟩
theorem Qfi : Qht pg 87 := Qil QfZ QbI QaZ
theorem Qcw : Body pg 24 28 [.tmp 4] (ZT 51 52 63) := ⟨Tryz.f24, Tryz.func24, by kernel_rfl, by kernel_rfl, by kernel_rfl, by kernel_rfl⟩
theorem QhE : Qht pg 24 := Qmd Qcw Qc9 QhF
theorem QeQ : Body pg 59 83 [.tmp 6, .tmp 7] (XT 87 88 89 90 91 63 66 167 166 77) := ⟨Tryz.f59, Tryz.func59, by kernel_rfl, by kernel_rfl, by kernel_rfl, by kernel_rfl⟩
theorem QeD : Qnz pg 59 := QgG QeQ Qfi Qqa QlO Qfl QlJ
theorem QfU : Body pg 76 32 [.tmp 4, .tmp 5] (Jf 84) := ⟨Tryz.f76, Tryz.func76, by kernel_rfl, by kernel_rfl, by kernel_rfl, by kernel_rfl⟩
theorem JK : X9 pg 76 := Qib QfU QcB
theorem Qlf : Body pg 30 8 [.cell 2 63] (Qbl 28 63) := ⟨Tryz.f30, Tryz.func30, by kernel_rfl, by kernel_rfl, by kernel_rfl, by kernel_rfl⟩
theorem Qem : X8 pg 30 := QpB Qlf (show Z5 Tryz.prog 63 = some (some 2) by kernel_rfl)
theorem Qcr : Body pg 25 8 [.cell 2 63] (ZQ 28 63) := ⟨Tryz.f25, Tryz.func25, by kernel_rfl, by kernel_rfl, by kernel_rfl, by kernel_rfl⟩
theorem Qc8 : X8 pg 25 := Ql8 Qcr (show Z5 Tryz.prog 63 = some (some 2) by kernel_rfl)
theorem Qnj : Body pg 41 31 [.tmp 4] (Qb6 30 75 76 28) := ⟨Tryz.f41, Tryz.func41, by kernel_rfl, by kernel_rfl, by kernel_rfl, by kernel_rfl⟩
theorem QlN : QnD pg 41 := Qr3 Qnj Qem QbI JK
theorem Qlh : Body pg 20 33 [.tmp 2] (XC 41 42 28) := ⟨Tryz.f20, Tryz.func20, by kernel_rfl, by kernel_rfl, by kernel_rfl, by kernel_rfl⟩
theorem J6 : Zv pg 20 := QpE Qlh QlN QaZ
theorem Qcu : Body pg 53 19 [.tmp 4] (ZS 51 63) := ⟨Tryz.f53, Tryz.func53, by kernel_rfl, by kernel_rfl, by kernel_rfl, by kernel_rfl⟩
theorem QhD : QnE pg 53 := Qmb Qcu Qc9
theorem QdA : Body pg 82 41 [.tmp 4, .tmp 5] (QO 108 3) := ⟨Tryz.f82, Tryz.func82, by kernel_rfl, by kernel_rfl, by kernel_rfl, by kernel_rfl⟩
theorem QlG : QnF pg 82 := QqW QdA QjK
theorem Qct : Body pg 54 17 [.tmp 4, .tmp 5] (Zg 82) := ⟨Tryz.f54, Tryz.func54, by kernel_rfl, by kernel_rfl, by kernel_rfl, by kernel_rfl⟩
theorem QhC : X9 pg 54 := Qma Qct QlG
theorem QcX : Body pg 26 21 [.tmp 4] (Z3 25 53 54 28) := ⟨Tryz.f26, Tryz.func26, by kernel_rfl, by kernel_rfl, by kernel_rfl, by kernel_rfl⟩
theorem QjJ : Qgb pg 26 := Qo1 QcX Qc8 QhD QhC

end Go.Proofs.YtpipccfcpeemfabGreatDoor.encodeNames

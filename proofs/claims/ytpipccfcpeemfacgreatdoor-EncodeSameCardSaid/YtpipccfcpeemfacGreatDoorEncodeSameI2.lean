/- What the functions that the law reaches return in this program, part 2; no conditions. -/
import Derived.Test.YtpipccfcpeemfacGreatDoorEncodeSameI1
set_option linter.unusedSectionVars false
set_option linter.unusedSimpArgs false
set_option linter.unusedVariables false
namespace Go.Proofs.YtpipccfcpeemfacGreatDoor.encodeSame
open Go.Am Go.ChangeShapes Go.WideShapes Go.ChangeAt Go.RowKit

theorem QhS : Qjs pg 130 := QmS QiW
theorem QiV : Body pg 131 16 [.tmp 4] X2 := ⟨Tryz.f131, Tryz.func131, by kernel_rfl, by kernel_rfl, by kernel_rfl, by kernel_rfl⟩
theorem QhR : Qjr pg 131 := QmR QiV
theorem QiX : Body pg 119 19 [.tmp 4, .tmp 5] (QaC 130 131) := ⟨Tryz.f119, Tryz.func119, by kernel_rfl, by kernel_rfl, by kernel_rfl, by kernel_rfl⟩
theorem QhT : Qjt pg 119 := QmT QiX QhS QhR
theorem QnA : Body pg 90 21 [.cell 4 168, .tmp 5] (Qb8 117 68 168 166) := ⟨Tryz.f90, Tryz.func90, by kernel_rfl, by kernel_rfl, by kernel_rfl, by kernel_rfl⟩
theorem Ql2 : Qs1 pg 90 := Qss QnA (show Z6 Tryz.prog 168 = some (some 35) by kernel_rfl) Qg7
theorem Qi5 : Body pg 118 24 [.tmp 2] (QaI 117 168 166) := ⟨Tryz.f118, Tryz.func118, by kernel_rfl, by kernel_rfl, by kernel_rfl, by kernel_rfl⟩
theorem Qh0 : QjA pg 118 := Qnf Qi5 Qg7
theorem Qf6 : Body pg 91 44 [.tmp 4, .cell 5 168, .tmp 6] (Jo 118 119 120 168 166) := ⟨Tryz.f91, Tryz.func91, by kernel_rfl, by kernel_rfl, by kernel_rfl, by kernel_rfl⟩
theorem Qfo : Qei pg 91 := QiH Qf6 (show Z6 Tryz.prog 168 = some (some 35) by kernel_rfl) Qh0 QhT QhM
theorem Qnv : Body pg 92 10 [.tmp 2] Qaj := ⟨Tryz.f92, Tryz.func92, by kernel_rfl, by kernel_rfl, by kernel_rfl, by kernel_rfl⟩
theorem QlX : QsV pg 92 := QrW Qnv
theorem J1 : Body pg 115 8 [.tmp 2] (Q6 21) := ⟨Tryz.f115, Tryz.func115, by kernel_rfl, by kernel_rfl, by kernel_rfl, by kernel_rfl⟩
theorem Ql0 : Qjy 21 pg 115 := Qsn J1
theorem QsG : Body pg 116 39 [] Qeb := ⟨Tryz.f116, Tryz.func116, by kernel_rfl, by kernel_rfl, by kernel_rfl, by kernel_rfl⟩
theorem Qqq : Qwv pg 116 := QvU QsG
theorem Qnu : Body pg 114 22 [.tmp 4] ZO := ⟨Tryz.f114, Tryz.func114, by kernel_rfl, by kernel_rfl, by kernel_rfl, by kernel_rfl⟩
theorem QlV : Qjo pg 114 := QrA Qnu
theorem QsH : Body pg 89 32 [.tmp 4, .tmp 5] (Qec 114 115 116) := ⟨Tryz.f89, Tryz.func89, by kernel_rfl, by kernel_rfl, by kernel_rfl, by kernel_rfl⟩
theorem Qqr : Qjn pg 89 := QvV QsH QlV Ql0 Qqq
theorem Qf3 : Body pg 88 30 [.tmp 4] (Jl 71 43 54) := ⟨Tryz.f88, Tryz.func88, by kernel_rfl, by kernel_rfl, by kernel_rfl, by kernel_rfl⟩
theorem Qfl : Qhy pg 88 := Qiu Qf3 QbL QaZ
theorem Qcz : Body pg 20 28 [.tmp 4] (ZU 38 39 54) := ⟨Tryz.f20, Tryz.func20, by kernel_rfl, by kernel_rfl, by kernel_rfl, by kernel_rfl⟩
theorem QhK : Qhy pg 20 := Qmt Qcz Qda QhL
theorem QeT : Body pg 60 83 [.tmp 6, .tmp 7] (XU 88 89 90 91 92 54 68 169 168 79) := ⟨Tryz.f60, Tryz.func60, by kernel_rfl, by kernel_rfl, by kernel_rfl, by kernel_rfl⟩
theorem QeE : QnP pg 60 := QgK QeT Qfl Qqr Ql2 Qfo QlX
theorem QfY : Body pg 72 32 [.tmp 4, .tmp 5] (Ji 85) := ⟨Tryz.f72, Tryz.func72, by kernel_rfl, by kernel_rfl, by kernel_rfl, by kernel_rfl⟩
theorem JL : Ja pg 72 := Qij QfY QcE
theorem Qls : Body pg 31 8 [.cell 2 54] (Qbn 24 54) := ⟨Tryz.f31, Tryz.func31, by kernel_rfl, by kernel_rfl, by kernel_rfl, by kernel_rfl⟩
theorem Qen : X9 pg 31 := QpS Qls (show Z6 Tryz.prog 54 = some (some 2) by kernel_rfl)
theorem Qcu : Body pg 21 8 [.cell 2 54] (ZR 24 54) := ⟨Tryz.f21, Tryz.func21, by kernel_rfl, by kernel_rfl, by kernel_rfl, by kernel_rfl⟩
theorem Qc9 : X9 pg 21 := Qmo Qcu (show Z6 Tryz.prog 54 = some (some 2) by kernel_rfl)
theorem Qnz : Body pg 42 31 [.tmp 4] (Qb7 31 71 72 24) := ⟨Tryz.f42, Tryz.func42, by kernel_rfl, by kernel_rfl, by kernel_rfl, by kernel_rfl⟩
theorem Ql1 : QnT pg 42 := Qso Qnz Qen QbL JL
theorem Qlu : Body pg 23 33 [.tmp 2] (XD 42 43 24) := ⟨Tryz.f23, Tryz.func23, by kernel_rfl, by kernel_rfl, by kernel_rfl, by kernel_rfl⟩
theorem J6 : Zv pg 23 := QpV Qlu Ql1 QaZ
theorem Qcx : Body pg 40 19 [.tmp 4] (ZT 38 54) := ⟨Tryz.f40, Tryz.func40, by kernel_rfl, by kernel_rfl, by kernel_rfl, by kernel_rfl⟩
theorem QhJ : QnU pg 40 := Qmr Qcx Qda
theorem QdD : Body pg 70 41 [.tmp 4, .tmp 5] (QQ 102 3) := ⟨Tryz.f70, Tryz.func70, by kernel_rfl, by kernel_rfl, by kernel_rfl, by kernel_rfl⟩
theorem QlU : QnV pg 70 := Qrf QdD QjW
theorem Qcw : Body pg 41 17 [.tmp 4, .tmp 5] (Zh 70) := ⟨Tryz.f41, Tryz.func41, by kernel_rfl, by kernel_rfl, by kernel_rfl, by kernel_rfl⟩
theorem QhI : Ja pg 41 := Qmq Qcw QlU
theorem QcY : Body pg 22 21 [.tmp 4] (Z4 21 40 41 24) := ⟨Tryz.f22, Tryz.func22, by kernel_rfl, by kernel_rfl, by kernel_rfl, by kernel_rfl⟩
theorem QjV : Qgf pg 22 := Qpi QcY Qc9 QhJ QhI

end Go.Proofs.YtpipccfcpeemfacGreatDoor.encodeSame

/- What the functions that the law reaches return in this program, part 4; no conditions. -/
import Derived.Test.YtpipccfcpeemfabGreatDoorEncodeNamesI3
set_option linter.unusedSectionVars false
set_option linter.unusedSimpArgs false
set_option linter.unusedVariables false
namespace Go.Proofs.YtpipccfcpeemfabGreatDoor.encodeNames
open Go.Am Go.ChangeShapes Go.WideShapes Go.ChangeAt Go.RowKit

theorem Qhw : Qi7 pg 22 := Qlv QiB QaZ
theorem Qm6 : Body pg 8 41 [.tmp 2, .tmp 3] (Qaf 20 21 22 23 28 59) := ⟨Tryz.f8, Tryz.func8, by kernel_rfl, by kernel_rfl, by kernel_rfl, by kernel_rfl⟩
theorem Qlz : Qed pg 8 := Qp5 Qm6 J6 QlK Qhw QjF
theorem QpL : Body pg 38 31 [.tmp 4, .tmp 5] (Qc1 71) := ⟨Tryz.f38, Tryz.func38, by kernel_rfl, by kernel_rfl, by kernel_rfl, by kernel_rfl⟩
theorem QoD : Qsx pg 38 := QsX QpL QlF
theorem QpM : Body pg 19 116 [.cell 2 28, .tmp 3] (Qc2 37 38 39 40 20 28 55) := ⟨Tryz.f19, Tryz.func19, by kernel_rfl, by kernel_rfl, by kernel_rfl, by kernel_rfl⟩
theorem QoE : Qf5 pg 19 := QsY QpM QlE QoD QoJ Qfd J6 (show Z5 Tryz.prog 28 = some (some 4) by kernel_rfl)
theorem QiT : Body pg 100 24 [.tmp 0] (QaF 214) := ⟨Tryz.f100, Tryz.func100, by kernel_rfl, by kernel_rfl, by kernel_rfl, by kernel_rfl⟩
theorem QhR : Qnq pg 100 := QmU QiT
theorem Qle : Body pg 67 32 [.tmp 4, .tmp 5] (JD 100) := ⟨Tryz.f67, Tryz.func67, by kernel_rfl, by kernel_rfl, by kernel_rfl, by kernel_rfl⟩
theorem QjS : QnC pg 67 := Qpy Qle QhR
theorem Qni : Body pg 33 16 [.tmp 2, .tmp 3] (Qal 67) := ⟨Tryz.f33, Tryz.func33, by kernel_rfl, by kernel_rfl, by kernel_rfl, by kernel_rfl⟩
theorem QcN : Qll pg 33 := QrZ Qni QjS
theorem Qli : Body pg 93 40 [.tmp 2] (JE 127) := ⟨Tryz.f93, Tryz.func93, by kernel_rfl, by kernel_rfl, by kernel_rfl, by kernel_rfl⟩
theorem J7 : Qcp pg 93 := QpK Qli
theorem Qlb : Body pg 92 2 [.cell 0 123] (Qbj 123) := ⟨Tryz.f92, Tryz.func92, by kernel_rfl, by kernel_rfl, by kernel_rfl, by kernel_rfl⟩
theorem QjP : Qja pg 92 := Qpu Qlb (show Z5 Tryz.prog 123 = some (some 4) by kernel_rfl)
theorem Qlc : Body pg 94 26 [.tmp 2] (Qbk 123) := ⟨Tryz.f94, Tryz.func94, by kernel_rfl, by kernel_rfl, by kernel_rfl, by kernel_rfl⟩
theorem QjQ : Qjm pg 94 := Qpv Qlc
theorem Qk8 : Body pg 95 17 [.tmp 4, .tmp 5] (JA 123) := ⟨Tryz.f95, Tryz.func95, by kernel_rfl, by kernel_rfl, by kernel_rfl, by kernel_rfl⟩
theorem Qel : Qge pg 95 := Qpr Qk8
theorem QgU : Body pg 122 9 [.tmp 4] Xw := ⟨Tryz.f122, Tryz.func122, by kernel_rfl, by kernel_rfl, by kernel_rfl, by kernel_rfl⟩
theorem QoF : Qv9 pg 122 := Qto QgU
theorem QaR : Body pg 133 8 [.tmp 2] (QQ 5) := ⟨Tryz.f133, Tryz.func133, by kernel_rfl, by kernel_rfl, by kernel_rfl, by kernel_rfl⟩
theorem Qqc : Qfa 5 pg 133 := Qv1 QaR
theorem QpR : Body pg 96 44 [.cell 6 127, .tmp 7] (Qbo 93 120 121 127) := ⟨Tryz.f96, Tryz.func96, by kernel_rfl, by kernel_rfl, by kernel_rfl, by kernel_rfl⟩
theorem Qnl : Body pg 120 9 [.cell 2 127] (Qam 133 127) := ⟨Tryz.f120, Tryz.func120, by kernel_rfl, by kernel_rfl, by kernel_rfl, by kernel_rfl⟩
theorem QpQ : Body pg 121 75 [] (Qbn 5) := ⟨Tryz.f121, Tryz.func121, by kernel_rfl, by kernel_rfl, by kernel_rfl, by kernel_rfl⟩
theorem QdL : Qlk pg 96 := Quq QpR J7 Qnl QpQ Qqc (show Z5 Tryz.prog 127 = some (some 2) by kernel_rfl) (show Z5 Tryz.prog 127 = some (some 2) by kernel_rfl)
theorem QgR : Body pg 134 13 [.tmp 2, .tmp 3] JV := ⟨Tryz.f134, Tryz.func134, by kernel_rfl, by kernel_rfl, by kernel_rfl, by kernel_rfl⟩
theorem Qgp : Qst pg 134 := QjV QgR
theorem QiC : Body pg 123 32 [.cell 4 127, .tmp 5] (Qaw 93 134 96 127) := ⟨Tryz.f123, Tryz.func123, by kernel_rfl, by kernel_rfl, by kernel_rfl, by kernel_rfl⟩
theorem Qhx : Qi2 pg 123 := QlP QiC J7 Qgp QdL (show Z5 Tryz.prog 127 = some (some 2) by kernel_rfl)
theorem Qk5 : Body pg 97 57 [.cell 6 127, .tmp 7] (Jy 93 122 123 96 127) := ⟨Tryz.f97, Tryz.func97, by kernel_rfl, by kernel_rfl, by kernel_rfl, by kernel_rfl⟩
theorem QjI : Qi4 pg 97 := Qo0 Qk5 J7 QoF Qhx QdL (show Z5 Tryz.prog 127 = some (some 2) by kernel_rfl)
theorem Qla : Body pg 61 69 [.cell 6 127, .cell 7 123, .tmp 8] (JB 93 94 95 96 97 98 127 123) := ⟨Tryz.f61, Tryz.func61, by kernel_rfl, by kernel_rfl, by kernel_rfl, by kernel_rfl⟩
theorem Qk9 : Body pg 98 36 [] (Xz 124 95) := ⟨Tryz.f98, Tryz.func98, by kernel_rfl, by kernel_rfl, by kernel_rfl, by kernel_rfl⟩
theorem QgY : Body pg 124 58 [] Qm := ⟨Tryz.f124, Tryz.func124, by kernel_rfl, by kernel_rfl, by kernel_rfl, by kernel_rfl⟩
theorem QjO : Qi5 pg 61 := Qpt Qla J7 QjQ Qel QdL QjI Qk9 QgY Qel (show Z5 Tryz.prog 127 = some (some 2) by kernel_rfl) (show Z5 Tryz.prog 123 = some (some 4) by kernel_rfl)
theorem QeP : Body pg 60 11 [.cell 0 124] (XS 92 124) := ⟨Tryz.f60, Tryz.func60, by kernel_rfl, by kernel_rfl, by kernel_rfl, by kernel_rfl⟩
theorem QeC : QdF pg 60 := QgF QeP QjP (show Z5 Tryz.prog 124 = some (some 24) by kernel_rfl)
theorem Qau : Body pg 63 36 [.tmp 2] (Q7 99 5) := ⟨Tryz.f63, Tryz.func63, by kernel_rfl, by kernel_rfl, by kernel_rfl, by kernel_rfl⟩
theorem growB : Qgi 5 pg 99 := grow_nil Tryz.growB rfl rfl (by kernel_rfl)
theorem Qfe : Qjn pg 63 := QhZ Qau growB
theorem QeR : Body pg 29 85 [.tmp 6, .tmp 7] (Z0 59 60 61 62 33 32 63 63 66 124 127 123 22) := ⟨Tryz.f29, Tryz.func29, by kernel_rfl, by kernel_rfl, by kernel_rfl, by kernel_rfl⟩

end Go.Proofs.YtpipccfcpeemfabGreatDoor.encodeNames

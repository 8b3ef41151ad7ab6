/- What the functions that the law reaches return in this program, part 2; no conditions. -/
import Derived.Test.YtghngklehkkecabGreatDoorPushencNamesI1
set_option linter.unusedSectionVars false
set_option linter.unusedSimpArgs false
set_option linter.unusedVariables false
namespace Go.Proofs.YtghngklehkkecabGreatDoor.pushencNames
open Go.Am Go.ChangeShapes Go.WideShapes Go.ChangeAt Go.RowKit

theorem Qhx : Qi9 pg 101 := QlW QiH
theorem QiG : Qk pg 102 16 [.tmp 4] Je := ⟨Tryz.f102, Tryz.func102, by kernel_rfl, by kernel_rfl, by kernel_rfl, by kernel_rfl⟩
theorem Qhw : Qi8 pg 102 := QlV QiG
theorem QiI : Qk pg 90 19 [.tmp 4, .tmp 5] (QaR 101 102) := ⟨Tryz.f90, Tryz.func90, by kernel_rfl, by kernel_rfl, by kernel_rfl, by kernel_rfl⟩
theorem Qhy : Qja pg 90 := QlX QiI Qhx Qhw
theorem Qmz : Qk pg 67 21 [.cell 4 132, .tmp 5] (Qb3 88 70 132 130) := ⟨Tryz.f67, Tryz.func67, by kernel_rfl, by kernel_rfl, by kernel_rfl, by kernel_rfl⟩
theorem Qlh : Qrd pg 67 := QqJ Qmz (show ZP Tryz.prog 132 = some (some 35) by kernel_rfl) QgR
theorem QiP : Qk pg 89 24 [.tmp 2] (QaW 88 132 130) := ⟨Tryz.f89, Tryz.func89, by kernel_rfl, by kernel_rfl, by kernel_rfl, by kernel_rfl⟩
theorem QhG : Qjd pg 89 := Qmk QiP QgR
theorem QfX : Qk pg 68 44 [.tmp 4, .cell 5 132, .tmp 6] (JB 89 90 91 132 130) := ⟨Tryz.f68, Tryz.func68, by kernel_rfl, by kernel_rfl, by kernel_rfl, by kernel_rfl⟩
theorem Qfd : Qd7 pg 68 := Qiu QfX (show ZP Tryz.prog 132 = some (some 35) by kernel_rfl) QhG Qhy Qhq
theorem Qmu : Qk pg 69 10 [.tmp 2] Qaz := ⟨Tryz.f69, Tryz.func69, by kernel_rfl, by kernel_rfl, by kernel_rfl, by kernel_rfl⟩
theorem Qlc : Qq9 pg 69 := Qqb Qmu
theorem Z4 : Qk pg 38 8 [.tmp 2] (Qw 21) := ⟨Tryz.f38, Tryz.func38, by kernel_rfl, by kernel_rfl, by kernel_rfl, by kernel_rfl⟩
theorem Qlf : Qjc 21 pg 38 := QqF Z4
theorem QqW : Qk pg 87 39 [] Qd1 := ⟨Tryz.f87, Tryz.func87, by kernel_rfl, by kernel_rfl, by kernel_rfl, by kernel_rfl⟩
theorem QoT : QuE pg 87 := QtV QqW
theorem Qmt : Qk pg 86 22 [.tmp 4] ZU := ⟨Tryz.f86, Tryz.func86, by kernel_rfl, by kernel_rfl, by kernel_rfl, by kernel_rfl⟩
theorem Qla : Qi5 pg 86 := QpO Qmt
theorem QqX : Qk pg 66 32 [.tmp 4, .tmp 5] (Qd2 86 38 87) := ⟨Tryz.f66, Tryz.func66, by kernel_rfl, by kernel_rfl, by kernel_rfl, by kernel_rfl⟩
theorem QoU : Qi4 pg 66 := QtW QqX Qla Qlf QoT
theorem QfT : Qk pg 65 30 [.tmp 4] (Jy 29 39 24) := ⟨Tryz.f65, Tryz.func65, by kernel_rfl, by kernel_rfl, by kernel_rfl, by kernel_rfl⟩
theorem Qe9 : Qrc pg 65 := Qih QfT JY Qbb
theorem QeG : Qk pg 49 83 [.tmp 6, .tmp 7] (X8 65 66 67 68 69 24 70 133 132 105) := ⟨Tryz.f49, Tryz.func49, by kernel_rfl, by kernel_rfl, by kernel_rfl, by kernel_rfl⟩
theorem Qet : QmP pg 49 := Qgv QeG Qe9 QoU Qlh Qfd Qlc
theorem QfR : Qk pg 98 32 [.tmp 4, .tmp 5] (Jw 28) := ⟨Tryz.f98, Tryz.func98, by kernel_rfl, by kernel_rfl, by kernel_rfl, by kernel_rfl⟩
theorem JX : Qb4 pg 98 := Qh6 QfR Z9
theorem QkR : Qk pg 63 8 [.cell 2 24] (Qbw 64 24) := ⟨Tryz.f63, Tryz.func63, by kernel_rfl, by kernel_rfl, by kernel_rfl, by kernel_rfl⟩
theorem Qed : Qdz pg 63 := Qor QkR (show ZP Tryz.prog 24 = some (some 2) by kernel_rfl)
theorem Qmy : Qk pg 81 31 [.tmp 4] (Qb2 63 29 98 64) := ⟨Tryz.f81, Tryz.func81, by kernel_rfl, by kernel_rfl, by kernel_rfl, by kernel_rfl⟩
theorem Qlg : QmT pg 81 := QqG Qmy Qed JY JX
theorem QkT : Qk pg 61 33 [.tmp 2] (XM 81 39 64) := ⟨Tryz.f61, Tryz.func61, by kernel_rfl, by kernel_rfl, by kernel_rfl, by kernel_rfl⟩
theorem Qee : QbA pg 61 := Qou QkT Qlg Qbb
theorem QqY : Qk pg 78 14 [.tmp 4] Qa6 := ⟨Tryz.f78, Tryz.func78, by kernel_rfl, by kernel_rfl, by kernel_rfl, by kernel_rfl⟩
theorem QoV : Qq6 pg 78 := QtY QqY
theorem QoD : Qk pg 54 35 [.tmp 4, .tmp 5] (Qbt 78 5) := ⟨Tryz.f54, Tryz.func54, by kernel_rfl, by kernel_rfl, by kernel_rfl, by kernel_rfl⟩
theorem Qa0 : Qah pg 54 := Qse QoD QoV
theorem QfK : Qk pg 20 81 [.tmp 4, .tmp 5] (Za 30 21) := ⟨Tryz.f20, Tryz.func20, by kernel_rfl, by kernel_rfl, by kernel_rfl, by kernel_rfl⟩
theorem Qe6 : QdA pg 20 := Qhl QfK Qba
theorem QiN : Qk pg 97 24 [.tmp 0] (QaU 185) := ⟨Tryz.f97, Tryz.func97, by kernel_rfl, by kernel_rfl, by kernel_rfl, by kernel_rfl⟩
theorem QhD : QmG pg 97 := Qme QiN
theorem QkQ : Qk pg 77 32 [.tmp 4, .tmp 5] (JP 97) := ⟨Tryz.f77, Tryz.func77, by kernel_rfl, by kernel_rfl, by kernel_rfl, by kernel_rfl⟩
theorem Qjx : QmS pg 77 := Qoo QkQ QhD
theorem Qmx : Qk pg 53 16 [.tmp 2, .tmp 3] (QaC 77) := ⟨Tryz.f53, Tryz.func53, by kernel_rfl, by kernel_rfl, by kernel_rfl, by kernel_rfl⟩
theorem Qbd : Qhj pg 53 := QqB Qmx Qjx

end Go.Proofs.YtghngklehkkecabGreatDoor.pushencNames

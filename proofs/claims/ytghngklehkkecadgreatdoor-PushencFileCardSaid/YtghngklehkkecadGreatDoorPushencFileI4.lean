/- What the functions that the law reaches return in this program, part 4; no conditions. -/
import Derived.Test.YtghngklehkkecadGreatDoorPushencFileI3
set_option linter.unusedSectionVars false
set_option linter.unusedSimpArgs false
set_option linter.unusedVariables false
namespace Go.Proofs.YtghngklehkkecadGreatDoor.pushencFile
open Go.Am Go.ChangeShapes Go.WideShapes Go.ChangeAt Go.RowKit

theorem Qnv : Qoy pg 106 := Qr5 QfA Qja
theorem Qa9 : Qf pg 90 48 [.tmp 4] (Zo 106 3) := ⟨Tryz.f90, Tryz.func90, by kernel_rfl, by kernel_rfl, by kernel_rfl, by kernel_rfl⟩
theorem Qeh : QfK 3 pg 90 := Qf9 Qa9 Qnv
theorem Qba : Qf pg 107 36 [.tmp 2] (Zp 115 3) := ⟨Tryz.f107, Tryz.func107, by kernel_rfl, by kernel_rfl, by kernel_rfl, by kernel_rfl⟩
theorem growI : Qg2 3 pg 115 := grow_nilI Tryz.growI rfl rfl (by kernel_rfl)
theorem Qei : QfW 3 pg 107 := Qga Qba growI
theorem Qeu : Qf pg 91 9 [.tmp 4] (XS 107 76) := ⟨Tryz.f91, Tryz.func91, by kernel_rfl, by kernel_rfl, by kernel_rfl, by kernel_rfl⟩
theorem Qej : Qre 3 pg 91 := Qge Qeu Qei
theorem Qij : Qf pg 70 39 [.tmp 4, .tmp 5] (Qaw 89 40 90 91 3) := ⟨Tryz.f70, Tryz.func70, by kernel_rfl, by kernel_rfl, by kernel_rfl, by kernel_rfl⟩
theorem Qhb : Qrf 3 pg 70 := Qlv Qij JK Z3 Qeh Qej
theorem Qcz : Qf pg 69 43 [] (XF 70) := ⟨Tryz.f69, Tryz.func69, by kernel_rfl, by kernel_rfl, by kernel_rfl, by kernel_rfl⟩
theorem Qhn : QfM 3 pg 69 := Ql5 Qcz Qhb
theorem QkG : Qf pg 49 4 [.tmp 2] (Qbi 69 45) := ⟨Tryz.f49, Tryz.func49, by kernel_rfl, by kernel_rfl, by kernel_rfl, by kernel_rfl⟩
theorem Qjj : QfN 69 pg 49 := Qoi QkG
theorem Qis : Qf pg 94 25 [.tmp 0] (Qaz 189) := ⟨Tryz.f94, Tryz.func94, by kernel_rfl, by kernel_rfl, by kernel_rfl, by kernel_rfl⟩
theorem Qhl : QiB pg 94 := Ql1 Qis
theorem QgA : Qf pg 93 29 [.tmp 6] JX := ⟨Tryz.f93, Tryz.func93, by kernel_rfl, by kernel_rfl, by kernel_rfl, by kernel_rfl⟩
theorem Qf6 : QfX pg 93 := Qkg QgA
theorem QkD : Qf pg 75 13 [.tmp 4, .tmp 5] (Jz 94 93) := ⟨Tryz.f75, Tryz.func75, by kernel_rfl, by kernel_rfl, by kernel_rfl, by kernel_rfl⟩
theorem Qjh : Qmy pg 75 := Qod QkD Qhl Qf6
theorem Qmk : Qf pg 58 8 [.tmp 2, .tmp 3] (Qaj 75) := ⟨Tryz.f58, Tryz.func58, by kernel_rfl, by kernel_rfl, by kernel_rfl, by kernel_rfl⟩
theorem QeY : Qnn pg 58 := Qqw Qmk Qjh
theorem QqQ : Qf pg 59 18 [.cell 2 85] (QdU 85) := ⟨Tryz.f59, Tryz.func59, by kernel_rfl, by kernel_rfl, by kernel_rfl, by kernel_rfl⟩
theorem QoK : Qq3 pg 59 := QtA QqQ (show ZJ Tryz.prog 85 = some (some 16) by kernel_rfl)
theorem Qmg : Qf pg 42 22 [.cell 2 85, .tmp 3] (QbU 58 59 85) := ⟨Tryz.f42, Tryz.func42, by kernel_rfl, by kernel_rfl, by kernel_rfl, by kernel_rfl⟩
theorem QcC : QfI pg 42 := Qpl Qmg QeY QoK (show ZJ Tryz.prog 85 = some (some 16) by kernel_rfl)
theorem Qiu : Qrl pg 31 45 [.cell 4 29, .cell 5 30] (QaB 48 42 49 50 43 45 29 30 85 24) := ⟨Tryz.f31, Tryz.func31, by kernel_rfl, by kernel_rfl, by kernel_rfl, by kernel_rfl⟩
theorem Qho : QiO pg 31 := Ql6 Qiu Qd6 QcC Qjj Qhn Qcz Qd5 Jc (show ZJ Tryz.prog 29 = some none by kernel_rfl) (show ZJ Tryz.prog 30 = some none by kernel_rfl) (by decide) (by decide) (by decide) (by decide) (by decide)
theorem Qmj : Qf pg 54 16 [.tmp 2, .tmp 3] (Qai 58) := ⟨Tryz.f54, Tryz.func54, by kernel_rfl, by kernel_rfl, by kernel_rfl, by kernel_rfl⟩
theorem Qk0 : QmC pg 54 := Qqu Qmj QeY
theorem Qgz : Qf pg 33 18 [.tmp 2, .tmp 3] (XE 54 52) := ⟨Tryz.f33, Tryz.func33, by kernel_rfl, by kernel_rfl, by kernel_rfl, by kernel_rfl⟩
theorem Qcs : Qci pg 33 := Qke Qgz Qk0 QaG
theorem Qig : Qf pg 55 31 [.tmp 2] Z7 := ⟨Tryz.f55, Tryz.func55, by kernel_rfl, by kernel_rfl, by kernel_rfl, by kernel_rfl⟩
theorem Qg8 : QfJ pg 55 := Qlj Qig
theorem Qif : Qf pg 34 38 [.tmp 2, .tmp 3] (X2 55 56 53 24) := ⟨Tryz.f34, Tryz.func34, by kernel_rfl, by kernel_rfl, by kernel_rfl, by kernel_rfl⟩
theorem Qfv : Qf pg 56 13 [] (Xc 52 5) := ⟨Tryz.f56, Tryz.func56, by kernel_rfl, by kernel_rfl, by kernel_rfl, by kernel_rfl⟩
theorem QcV : Qdw pg 34 := Qli Qif Qg8 Qfv QaG QaX
theorem QfC : Qf pg 71 44 [.tmp 2] (Qz 68) := ⟨Tryz.f71, Tryz.func71, by kernel_rfl, by kernel_rfl, by kernel_rfl, by kernel_rfl⟩
theorem QeT : QiH pg 71 := QhT QfC
theorem Qik : Qf pg 72 25 [.tmp 2] (Z8 89 68) := ⟨Tryz.f72, Tryz.func72, by kernel_rfl, by kernel_rfl, by kernel_rfl, by kernel_rfl⟩
theorem Qhe : Qra pg 72 := QlB Qik JK
theorem Qgx : Qf pg 51 11 [.tmp 2] (ZP 71 72 68) := ⟨Tryz.f51, Tryz.func51, by kernel_rfl, by kernel_rfl, by kernel_rfl, by kernel_rfl⟩
theorem Qcr : Qdy pg 51 := QjU Qgx QeT Qhe
theorem Qil : Qf pg 30 35 [.cell 4 68, .tmp 5] (ZD 48 45 68) := ⟨Tryz.f30, Tryz.func30, by kernel_rfl, by kernel_rfl, by kernel_rfl, by kernel_rfl⟩
theorem Qhf : QiM pg 30 := QlC Qil Qd6 (show ZJ Tryz.prog 68 = some (some 5) by kernel_rfl)

end Go.Proofs.YtghngklehkkecadGreatDoor.pushencFile

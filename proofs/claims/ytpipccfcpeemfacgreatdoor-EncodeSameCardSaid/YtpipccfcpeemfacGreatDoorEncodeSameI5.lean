/- What the functions that the law reaches return in this program, part 5; no conditions. -/
import Derived.Test.YtpipccfcpeemfacGreatDoorEncodeSameI4
set_option linter.unusedSectionVars false
set_option linter.unusedSimpArgs false
set_option linter.unusedVariables false
namespace Go.Proofs.YtpipccfcpeemfacGreatDoor.encodeSame
open Go.Am Go.ChangeShapes Go.WideShapes Go.ChangeAt Go.RowKit

theorem Qfg : Qjx pg 64 := Qh6 Qau growB
theorem QeU : Body pg 30 85 [.tmp 6, .tmp 7] (Z1 60 61 62 63 34 33 64 54 68 126 129 125 27) := ⟨Tryz.f30, Tryz.func30, by kernel_rfl, by kernel_rfl, by kernel_rfl, by kernel_rfl⟩
theorem QiY : Body pg 63 64 [] (X3 129 5) := ⟨Tryz.f63, Tryz.func63, by kernel_rfl, by kernel_rfl, by kernel_rfl, by kernel_rfl⟩
theorem QeF : Qww pg 30 := QgL QeU QeE QeD Qj0 QiY QcP JH Qfg
theorem Qd9 : Body pg 128 51 [.tmp 4, .tmp 5] Xy := ⟨Tryz.f128, Tryz.func128, by kernel_rfl, by kernel_rfl, by kernel_rfl, by kernel_rfl⟩
theorem QjX : Qqb pg 128 := Qpo Qd9
theorem QfX : Body pg 112 30 [.tmp 4, .tmp 5] (Jh 127 128) := ⟨Tryz.f112, Tryz.func112, by kernel_rfl, by kernel_rfl, by kernel_rfl, by kernel_rfl⟩
theorem QoX : Qqb pg 112 := Qt3 QfX QjX
theorem Qbd : Body pg 86 48 [.tmp 4] (Zl 112 3) := ⟨Tryz.f86, Tryz.func86, by kernel_rfl, by kernel_rfl, by kernel_rfl, by kernel_rfl⟩
theorem QeA : Qgd 3 pg 86 := QgA Qbd QoX
theorem Qbe : Body pg 113 36 [.tmp 2] (Zm 129 3) := ⟨Tryz.f113, Tryz.func113, by kernel_rfl, by kernel_rfl, by kernel_rfl, by kernel_rfl⟩
theorem growI : Qhx 3 pg 129 := grow_nilI Tryz.growI rfl rfl (by kernel_rfl)
theorem QeB : Qgo 3 pg 113 := QgB Qbe growI
theorem QeP : Body pg 87 9 [.tmp 4] (XS 113 48) := ⟨Tryz.f87, Tryz.func87, by kernel_rfl, by kernel_rfl, by kernel_rfl, by kernel_rfl⟩
theorem QeC : Qs2 3 pg 87 := QgG QeP QeB
theorem QiS : Body pg 59 39 [.tmp 4, .tmp 5] (QaB 72 85 86 87 3) := ⟨Tryz.f59, Tryz.func59, by kernel_rfl, by kernel_rfl, by kernel_rfl, by kernel_rfl⟩
theorem QhN : Qs3 3 pg 59 := QmD QiS JL QcE QeA QeC
theorem QcM : Body pg 58 43 [] (XC 59) := ⟨Tryz.f58, Tryz.func58, by kernel_rfl, by kernel_rfl, by kernel_rfl, by kernel_rfl⟩
theorem QhY : Qgg 3 pg 58 := Qnd QcM QhN
theorem Qlt : Body pg 29 4 [.tmp 2] (Qbo 58 24) := ⟨Tryz.f29, Tryz.func29, by kernel_rfl, by kernel_rfl, by kernel_rfl, by kernel_rfl⟩
theorem Qj5 : Qgh 58 pg 29 := QpT Qlt
theorem Qi2 : Body pg 111 25 [.tmp 0] (QaF 217) := ⟨Tryz.f111, Tryz.func111, by kernel_rfl, by kernel_rfl, by kernel_rfl, by kernel_rfl⟩
theorem QhW : Qjd pg 111 := Qm9 Qi2
theorem Qg3 : Body pg 110 29 [.tmp 6] JY := ⟨Tryz.f110, Tryz.func110, by kernel_rfl, by kernel_rfl, by kernel_rfl, by kernel_rfl⟩
theorem Qgx : Qgp pg 110 := Qk0 Qg3
theorem Qlq : Body pg 84 13 [.tmp 4, .tmp 5] (JD 111 110) := ⟨Tryz.f84, Tryz.func84, by kernel_rfl, by kernel_rfl, by kernel_rfl, by kernel_rfl⟩
theorem Qj3 : QnM pg 84 := QpO Qlq QhW Qgx
theorem Qnx : Body pg 56 8 [.tmp 2, .tmp 3] (Qal 84) := ⟨Tryz.f56, Tryz.func56, by kernel_rfl, by kernel_rfl, by kernel_rfl, by kernel_rfl⟩
theorem Qfn : QoO pg 56 := Qsj Qnx Qj3
theorem QsF : Body pg 57 18 [.cell 2 68] (Qea 68) := ⟨Tryz.f57, Tryz.func57, by kernel_rfl, by kernel_rfl, by kernel_rfl, by kernel_rfl⟩
theorem Qqp : QsT pg 57 := QvL QsF (show Z6 Tryz.prog 68 = some (some 16) by kernel_rfl)
theorem Qnp : Body pg 28 22 [.cell 2 68, .tmp 3] (Qb4 56 57 68) := ⟨Tryz.f28, Tryz.func28, by kernel_rfl, by kernel_rfl, by kernel_rfl, by kernel_rfl⟩
theorem QlQ : QsQ pg 28 := Qq4 Qnp Qfn Qqp (show Z6 Tryz.prog 68 = some (some 16) by kernel_rfl)
theorem Qi4 : Qs8 pg 13 45 [.cell 4 42, .cell 5 28] (QaH 23 28 29 31 30 24 42 28 68 27) := ⟨Tryz.f13, Tryz.func13, by kernel_rfl, by kernel_rfl, by kernel_rfl, by kernel_rfl⟩
theorem QhZ : Qjq pg 13 := Qne Qi4 J6 QlQ Qj5 QhY QcM Qen QeF (show Z6 Tryz.prog 42 = some none by kernel_rfl) (show Z6 Tryz.prog 28 = some none by kernel_rfl) (by decide) (by decide) (by decide) (by decide) (by decide)
theorem Qnw : Body pg 35 16 [.tmp 2, .tmp 3] (Qak 56) := ⟨Tryz.f35, Tryz.func35, by kernel_rfl, by kernel_rfl, by kernel_rfl, by kernel_rfl⟩
theorem QlZ : QnQ pg 35 := Qsh Qnw Qfn
theorem Qg2 : Body pg 15 18 [.tmp 2, .tmp 3] (XB 35 33) := ⟨Tryz.f15, Tryz.func15, by kernel_rfl, by kernel_rfl, by kernel_rfl, by kernel_rfl⟩
theorem Qgw : Qeh pg 15 := QkY Qg2 QlZ JH
theorem QiO : Body pg 36 31 [.tmp 2] Xa := ⟨Tryz.f36, Tryz.func36, by kernel_rfl, by kernel_rfl, by kernel_rfl, by kernel_rfl⟩
theorem QhE : Qgb pg 36 := Qmf QiO
theorem QiN : Body pg 16 38 [.tmp 2, .tmp 3] (XZ 36 37 34 27) := ⟨Tryz.f16, Tryz.func16, by kernel_rfl, by kernel_rfl, by kernel_rfl, by kernel_rfl⟩
theorem QfW : Body pg 37 13 [] (Xg 33 5) := ⟨Tryz.f37, Tryz.func37, by kernel_rfl, by kernel_rfl, by kernel_rfl, by kernel_rfl⟩
theorem QhD : Qga pg 16 := Qme QiN QhE QfW JH QcP
theorem QfZ : Body pg 65 44 [.tmp 2] (QB 39) := ⟨Tryz.f65, Tryz.func65, by kernel_rfl, by kernel_rfl, by kernel_rfl, by kernel_rfl⟩

end Go.Proofs.YtpipccfcpeemfacGreatDoor.encodeSame

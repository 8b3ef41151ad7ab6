/- What the functions that the law reaches return in this program, part 5; no conditions. -/
import Derived.Test.YtghngklehkkecadGreatDoorPushencFileI4
set_option linter.unusedSectionVars false
set_option linter.unusedSimpArgs false
set_option linter.unusedVariables false
namespace Go.Proofs.YtghngklehkkecadGreatDoor.pushencFile
open Go.Am Go.ChangeShapes Go.WideShapes Go.ChangeAt Go.RowKit

theorem Qcy : Qf pg 32 63 [.tmp 2, .tmp 3] (Zr 51 52 53 68 5 0) := ⟨Tryz.f32, Tryz.func32, by kernel_rfl, by kernel_rfl, by kernel_rfl, by kernel_rfl⟩
theorem Qf5 : QfS pg 32 := QjT Qcy Qcr QaG QaX (show pg.G.lookup 0 = some Quo by rfl)
theorem QfF : Qf pg 36 5 [.tmp 2] Jn := ⟨Tryz.f36, Tryz.func36, by kernel_rfl, by kernel_rfl, by kernel_rfl, by kernel_rfl⟩
theorem QeW : Qq7 pg 36 := QhY QfF
theorem Qbu : Qf pg 35 26 [.tmp 4] (Zw 3) := ⟨Tryz.f35, Tryz.func35, by kernel_rfl, by kernel_rfl, by kernel_rfl, by kernel_rfl⟩
theorem Qhk : Qrb 36 pg 35 := QlQ Qbu QeW
theorem Qiq : Qf pg 37 17 [.tmp 2] (Qay 5) := ⟨Tryz.f37, Tryz.func37, by kernel_rfl, by kernel_rfl, by kernel_rfl, by kernel_rfl⟩
theorem Qhj : Qmz pg 37 := QlP Qiq
theorem Qir : Qf pg 13 62 [.tmp 4, .tmp 5] (QY 30 31 32 33 35 36 34 37 45 68 24) := ⟨Tryz.f13, Tryz.func13, by kernel_rfl, by kernel_rfl, by kernel_rfl, by kernel_rfl⟩
theorem QcW : QiS pg 13 := QlR Qir Qhf Qho Qf5 Qcs Qhk QcV Qhj
theorem QdB : J0 21 pg 45 := Qsy ZY
theorem Qgu : Qf pg 24 15 [.cell 4 32, .tmp 5] (JV 32) := ⟨Tryz.f24, Tryz.func24, by kernel_rfl, by kernel_rfl, by kernel_rfl, by kernel_rfl⟩
theorem Qcp : QiJ pg 24 := QjD Qgu (show ZJ Tryz.prog 32 = some (some 10) by kernel_rfl)
theorem Qgv : Qf pg 8 55 [.cell 4 32, .tmp 5] (JW 18 19 20 24 32 3 5) := ⟨Tryz.f8, Tryz.func8, by kernel_rfl, by kernel_rfl, by kernel_rfl, by kernel_rfl⟩
theorem QbQ : Qf pg 18 33 [.cell 2 32, .tmp 3, .tmp 4] (Za 25 40 26 32) := ⟨Tryz.f18, Tryz.func18, by kernel_rfl, by kernel_rfl, by kernel_rfl, by kernel_rfl⟩
theorem Qar : Qf pg 26 42 [.cell 2 32] (Q3 27 45 32 24) := ⟨Tryz.f26, Tryz.func26, by kernel_rfl, by kernel_rfl, by kernel_rfl, by kernel_rfl⟩
theorem Qet : Qf pg 20 44 [.tmp 2] (QZ 22 21 11 23 21) := ⟨Tryz.f20, Tryz.func20, by kernel_rfl, by kernel_rfl, by kernel_rfl, by kernel_rfl⟩
theorem Qcx : Qf pg 23 46 [.tmp 2] (Zq 42 43 85 24) := ⟨Tryz.f23, Tryz.func23, by kernel_rfl, by kernel_rfl, by kernel_rfl, by kernel_rfl⟩
theorem Qcq : QfO pg 8 := QjE Qgv QbQ JJ Z3 Qar QcX QdB (show ZJ Tryz.prog 32 = some (some 10) by kernel_rfl) Qbn Qet JI Qco Qbz Qcx QcC Jc Qcp
theorem QfG : Qf pg 46 12 [.tmp 2, .tmp 3] Xd := ⟨Tryz.f46, Tryz.func46, by kernel_rfl, by kernel_rfl, by kernel_rfl, by kernel_rfl⟩
theorem QeX : QfV pg 46 := Qh6 QfG
theorem QeU : QdZ 5 pg 32 := QhU Qcy Qcr QaG QaX (show pg.G.lookup 0 = some Quo by rfl)
theorem Qgt : Qf pg 28 85 [.tmp 4, .tmp 5] (JU 46 32 33 34 47 32 5 3) := ⟨Tryz.f28, Tryz.func28, by kernel_rfl, by kernel_rfl, by kernel_rfl, by kernel_rfl⟩
theorem Qf3 : Qmx pg 28 := QjC Qgt QeX QeU Qcs QcV QbB
theorem Qes : Qf pg 10 67 [.cell 2 32, .tmp 3] (XR 18 22 24 23 28 32) := ⟨Tryz.f10, Tryz.func10, by kernel_rfl, by kernel_rfl, by kernel_rfl, by kernel_rfl⟩
theorem Qbo : QkM pg 10 := Qgc Qes QbQ JJ Z3 Qar QcX QdB (show ZJ Tryz.prog 32 = some (some 10) by kernel_rfl) JI Qcp Qcx QcC Jc Qf3
theorem Qfy : Qf pg 9 38 [.cell 4 32, .tmp 5, .tmp 6] (ZA 25 26 27 32) := ⟨Tryz.f9, Tryz.func9, by kernel_rfl, by kernel_rfl, by kernel_rfl, by kernel_rfl⟩
theorem QbD : Qno pg 9 := QhE Qfy JJ Qar QcX QdB (show ZJ Tryz.prog 32 = some (some 10) by kernel_rfl)
theorem QcO : Qf pg 6 29 [.tmp 6] (Qs 23) := ⟨Tryz.f6, Tryz.func6, by kernel_rfl, by kernel_rfl, by kernel_rfl, by kernel_rfl⟩
theorem Qi7 : QiN pg 6 := QnL QcO
theorem QcR : Qf pg 15 2 [.cell 0 23] (Z0 23) := ⟨Tryz.f15, Tryz.func15, by kernel_rfl, by kernel_rfl, by kernel_rfl, by kernel_rfl⟩
theorem Qjc : Qq5 pg 15 := QnV QcR (show ZJ Tryz.prog 23 = some (some 2) by kernel_rfl)
theorem Qcm : Qf pg 5 12 [.tmp 6] (Zg 16 23) := ⟨Tryz.f5, Tryz.func5, by kernel_rfl, by kernel_rfl, by kernel_rfl, by kernel_rfl⟩
theorem Qck : Qf pg 16 26 [.tmp 6] (Zf 38 39 23) := ⟨Tryz.f16, Tryz.func16, by kernel_rfl, by kernel_rfl, by kernel_rfl, by kernel_rfl⟩
theorem Qf4 : QdX pg 5 := QjO Qcm Qck Qi8 Qg9
theorem QcS : Qf pg 14 34 [.cell 8 32, .tmp 9] (Z1 7 8 23 32) := ⟨Tryz.f14, Tryz.func14, by kernel_rfl, by kernel_rfl, by kernel_rfl, by kernel_rfl⟩
theorem Qjd : Qq6 pg 14 := QnW QcS QaW Qcq (show ZJ Tryz.prog 32 = some (some 10) by kernel_rfl)
theorem Qcn : Qf pg 4 117 [.tmp 0] (ZQ 15 14 10 9 13 7 5 32 21) := ⟨Tryz.f4, Tryz.func4, by kernel_rfl, by kernel_rfl, by kernel_rfl, by kernel_rfl⟩
theorem Qhc : QmF pg 4 := Qlx Qcn Qjc Qjd Qbo QbD QcW QaW
theorem J3 : Qf pg 3 158 [.tmp 8] (Qh 4 5 6 7 8 9 10 11 12 13 23 32) := ⟨Tryz.f3, Tryz.func3, by kernel_rfl, by kernel_rfl, by kernel_rfl, by kernel_rfl⟩
theorem QcD : Qg1 pg 3 := QdN J3 Qhc Qf4 Qi7 QaW Qcq QbD Qbo Qbz Qf2 QcW

end Go.Proofs.YtghngklehkkecadGreatDoor.pushencFile

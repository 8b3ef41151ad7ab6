/- What the functions that the law reaches return in this program, part 6; no conditions. -/
import Derived.Test.YtkilhchobbfjhaaGreatDoorTopFramesI5
set_option linter.unusedSectionVars false
set_option linter.unusedSimpArgs false
set_option linter.unusedVariables false
namespace Go.Proofs.YtkilhchobbfjhaaGreatDoor.topFrames
open Go.Am Go.ChangeShapes Go.WideShapes Go.ChangeAt Go.RowKit

theorem QmA : Ql pg 29 8 [.tmp 2, .tmp 3] (Qal 61) := ⟨Tryz.f29, Tryz.func29, by kernel_rfl, by kernel_rfl, by kernel_rfl, by kernel_rfl⟩
theorem Qli : QsB pg 29 := QrV QmA QjA
theorem Qsj : Ql pg 30 18 [.cell 2 40] (Qeh 40) := ⟨Tryz.f30, Tryz.func30, by kernel_rfl, by kernel_rfl, by kernel_rfl, by kernel_rfl⟩
theorem QpU : QsD pg 30 := Qvu Qsj (show ZD Tryz.prog 40 = some (some 16) by kernel_rfl)
theorem Qmt : Ql pg 10 22 [.cell 2 40, .tmp 3] (Qb7 29 30 40) := ⟨Tryz.f10, Tryz.func10, by kernel_rfl, by kernel_rfl, by kernel_rfl, by kernel_rfl⟩
theorem QcM : QkX pg 10 := Qqy Qmt Qli QpU (show ZD Tryz.prog 40 = some (some 16) by kernel_rfl)
theorem QiN : Qm5 pg 7 45 [.cell 4 30, .cell 5 31] (QaC 21 10 22 23 11 24 30 31 40 43) := ⟨Tryz.f7, Tryz.func7, by kernel_rfl, by kernel_rfl, by kernel_rfl, by kernel_rfl⟩
theorem Qdh : Qfi pg 7 := Qml QiN Qeu QcM Qet Qdg Qau Qes Qbz (show ZD Tryz.prog 30 = some none by kernel_rfl) (show ZD Tryz.prog 31 = some none by kernel_rfl) (by decide) (by decide) (by decide) (by decide) (by decide)
theorem Qsn : Ql pg 16 79 [.cell 8 24, .tmp 9] (Qek 50 10 9 23 13 24 40 21) := ⟨Tryz.f16, Tryz.func16, by kernel_rfl, by kernel_rfl, by kernel_rfl, by kernel_rfl⟩
theorem Qp0 : Qjb pg 16 := Qv2 Qsn Qfw QcM Qa0 QeD (show ZD Tryz.prog 28 = some (some 2) by kernel_rfl) Xk (show ZD Tryz.prog 24 = some (some 4) by kernel_rfl)
theorem Qcy : Ql pg 4 28 [.tmp 0] (ZV 7 18 21 24 5) := ⟨Tryz.f4, Tryz.func4, by kernel_rfl, by kernel_rfl, by kernel_rfl, by kernel_rfl⟩
theorem QhL : Qgr pg 4 := Qlq Qcy Qdh QgB
theorem QbF : Ql pg 3 328 [.tmp 8] (Qv 4 5 6 7 8 9 10 11 12 13 14 15 16 17 24 28 40 51 43 5 21) := ⟨Tryz.f3, Tryz.func3, by kernel_rfl, by kernel_rfl, by kernel_rfl, by kernel_rfl⟩
theorem Qfq : Qgi pg 3 := QhZ QbF QhL QhN QaZ Qdh QjC Qa0 QcM Qbz QeI Xk Qfp Qju Qp0 Qgy

end Go.Proofs.YtkilhchobbfjhaaGreatDoor.topFrames

/- What the functions that the law reaches return in this program, part 5; no conditions. -/
import Derived.Test.YtkilhchobbfjhacGreatDoorClipNamesI4
set_option linter.unusedSectionVars false
set_option linter.unusedSimpArgs false
set_option linter.unusedVariables false
namespace Go.Proofs.YtkilhchobbfjhacGreatDoor.clipNames
open Go.Am Go.ChangeShapes Go.WideShapes Go.ChangeAt Go.RowKit

theorem QjR : Qo pg 26 8 [.tmp 2, .tmp 3] (Jz 48) := ⟨Tryz.f26, Tryz.func26, by kernel_rfl, by kernel_rfl, by kernel_rfl, by kernel_rfl⟩
theorem QiE : Qpl pg 26 := QoI QjR Qg5
theorem Qo5 : Qo pg 27 18 [.cell 2 44] (QcK 44) := ⟨Tryz.f27, Tryz.func27, by kernel_rfl, by kernel_rfl, by kernel_rfl, by kernel_rfl⟩
theorem QmQ : Qpm pg 27 := QrI Qo5 (show Zs Tryz.prog 44 = some (some 16) by kernel_rfl)
theorem QjK : Qo pg 14 22 [.cell 2 44, .tmp 3] (QaW 26 27 44) := ⟨Tryz.f14, Tryz.func14, by kernel_rfl, by kernel_rfl, by kernel_rfl, by kernel_rfl⟩
theorem QdT : Qlg pg 14 := Qnv QjK QiE QmQ (show Zs Tryz.prog 44 = some (some 16) by kernel_rfl)
theorem Qgq : Qkm pg 6 45 [.cell 4 30, .cell 5 27] (JO 9 14 12 16 15 24 30 27 44 38) := ⟨Tryz.f6, Tryz.func6, by kernel_rfl, by kernel_rfl, by kernel_rfl, by kernel_rfl⟩
theorem QbQ : QdL pg 6 := QjA Qgq QaM QdT QcZ QbP JG QcY Qaw (show Zs Tryz.prog 30 = some none by kernel_rfl) (show Zs Tryz.prog 27 = some none by kernel_rfl) (by decide) (by decide) (by decide) (by decide) (by decide)
theorem Qo9 : Qo pg 10 79 [.cell 8 24, .tmp 9] (QcN 20 14 22 16 23 24 44 21) := ⟨Tryz.f10, Tryz.func10, by kernel_rfl, by kernel_rfl, by kernel_rfl, by kernel_rfl⟩
theorem QmW : QgK pg 10 := Qsj Qo9 QdY QdT QbN Qc8 (show Zs Tryz.prog 50 = some (some 2) by kernel_rfl) Qdh (show Zs Tryz.prog 24 = some (some 4) by kernel_rfl)
theorem Xl : Qo pg 4 3 [.cell 0 24] (Qi 24 21) := ⟨Tryz.f4, Tryz.func4, by kernel_rfl, by kernel_rfl, by kernel_rfl, by kernel_rfl⟩
theorem QaJ : Qli pg 4 := QfV Xl (show Zs Tryz.prog 24 = some (some 4) by kernel_rfl)
theorem Qbj : Qo pg 11 60 [.tmp 0] (ZE 4 5 6 15 24 21 22) := ⟨Tryz.f11, Tryz.func11, by kernel_rfl, by kernel_rfl, by kernel_rfl, by kernel_rfl⟩
theorem QfD : Qkj pg 11 := Qi9 Qbj QaJ QaL QbQ Qaw Qcr
theorem QbE : Qo pg 7 17 [.tmp 2] (ZO 5) := ⟨Tryz.f7, Tryz.func7, by kernel_rfl, by kernel_rfl, by kernel_rfl, by kernel_rfl⟩
theorem Qg3 : Qkd pg 7 := QlW QbE
theorem JZ : Qo pg 3 247 [.tmp 0] (Q8 4 5 7 6 8 9 10 11 24 21 22 38 5) := ⟨Tryz.f3, Tryz.func3, by kernel_rfl, by kernel_rfl, by kernel_rfl, by kernel_rfl⟩
theorem Qcs : Qey pg 3 := Qee JZ Xl (show Zs Tryz.prog 24 = some (some 4) by kernel_rfl) QaJ QaL Qg3 QbQ QiF QaM QmW QfD

end Go.Proofs.YtkilhchobbfjhacGreatDoor.clipNames

/- What the functions that the law reaches return in this program, part 6; no conditions. -/
import Derived.Test.YtghngklehkkecaeGreatDoorPushencSticksI5
set_option linter.unusedSectionVars false
set_option linter.unusedSimpArgs false
set_option linter.unusedVariables false
namespace Go.Proofs.YtghngklehkkecaeGreatDoor.pushencSticks
open Go.Am Go.ChangeShapes Go.WideShapes Go.ChangeAt Go.RowKit

theorem QjH : Qjm pg 6 := Qop Qde
theorem Qdh : Qd pg 16 2 [.cell 0 23] (Xb 23) := ⟨Tryz.f16, Tryz.func16, by kernel_rfl, by kernel_rfl, by kernel_rfl, by kernel_rfl⟩
theorem QjK : QrJ pg 16 := Qoz Qdh (show ZQ Tryz.prog 23 = some (some 2) by kernel_rfl)
theorem QcH : Qd pg 5 12 [.tmp 6] (Zh 19 23) := ⟨Tryz.f5, Tryz.func5, by kernel_rfl, by kernel_rfl, by kernel_rfl, by kernel_rfl⟩
theorem Qgx : Qcz pg 5 := Qkl QcH JG QbS Qdm
theorem Qdi : Qd pg 15 34 [.cell 8 32, .tmp 9] (Xc 7 8 23 32) := ⟨Tryz.f15, Tryz.func15, by kernel_rfl, by kernel_rfl, by kernel_rfl, by kernel_rfl⟩
theorem QjL : QrK pg 15 := QoA Qdi Qbd QcM (show ZQ Tryz.prog 32 = some (some 10) by kernel_rfl)
theorem QcI : Qd pg 4 117 [.tmp 0] (ZZ 16 15 13 17 18 7 5 32 21) := ⟨Tryz.f4, Tryz.func4, by kernel_rfl, by kernel_rfl, by kernel_rfl, by kernel_rfl⟩
theorem QhG : Qjv pg 4 := Ql9 QcI QjK QjL QbF Qfn QhP Qbd
theorem JO : Qd pg 3 180 [.tmp 10] (Qh 4 5 6 7 8 9 10 11 12 13 14 23 32) := ⟨Tryz.f3, Tryz.func3, by kernel_rfl, by kernel_rfl, by kernel_rfl, by kernel_rfl⟩
theorem QbU : QeL pg 3 := Qc4 JO QhG Qgx QjH Qbd QcM XE QcJ QhC Qdn QbF QhA

end Go.Proofs.YtghngklehkkecaeGreatDoor.pushencSticks

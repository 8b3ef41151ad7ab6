/- What the functions that the law reaches return in this program, part 1; no conditions. -/
import Derived.Test.YtkilhchobbfjhacGreatDoorRows
import Derived.Test.YtkilhchobbfjhacGreatDoorClipNamesY1
set_option linter.unusedSectionVars false
set_option linter.unusedSimpArgs false
set_option linter.unusedVariables false
namespace Go.Proofs.YtkilhchobbfjhacGreatDoor.clipNames
open Go.Am Go.ChangeShapes Go.WideShapes Go.ChangeAt Go.RowKit

noncomputable def pg : Prg := ⟨Tryz.prog, [(0, [.int .u8 0, .int .u8 1, .int .u8 56, .int .u8 2, .int .u8 57, .int .u8 49, .int .u8 28, .int .u8 3, .int .u8 61, .int .u8 58, .int .u8 42, .int .u8 50, .int .u8 38, .int .u8 29, .int .u8 17, .int .u8 4, .int .u8 62, .int .u8 47, .int .u8 59, .int .u8 36, .int .u8 45, .int .u8 43, .int .u8 51, .int .u8 22, .int .u8 53, .int .u8 39, .int .u8 33, .int .u8 30, .int .u8 24, .int .u8 18, .int .u8 12, .int .u8 5, .int .u8 63, .int .u8 55, .int .u8 48, .int .u8 27, .int .u8 60, .int .u8 41, .int .u8 37, .int .u8 16, .int .u8 46, .int .u8 35, .int .u8 44, .int .u8 21, .int .u8 52, .int .u8 32, .int .u8 23, .int .u8 11, .int .u8 54, .int .u8 26, .int .u8 40, .int .u8 15, .int .u8 34, .int .u8 20, .int .u8 31, .int .u8 10, .int .u8 25, .int .u8 14, .int .u8 19, .int .u8 9, .int .u8 13, .int .u8 8, .int .u8 7, .int .u8 6])], fun g cs h => by
  simp only [List.lookup] at h
  repeat (first | (cases h; done) | (split at h; first | (cases h; rfl) | skip))⟩

theorem Qmw : Qo pg 66 31 [.tmp 2, .tmp 3] QbH := ⟨Tryz.f66, Tryz.func66, by kernel_rfl, by kernel_rfl, by kernel_rfl, by kernel_rfl⟩
theorem Qlw : QcO pg 66 := Qqk Qmw
theorem Qge : Qo pg 38 18 [.tmp 2, .tmp 3, .tmp 4] Zq := ⟨Tryz.f38, Tryz.func38, by kernel_rfl, by kernel_rfl, by kernel_rfl, by kernel_rfl⟩
theorem QbL : QgC pg 38 := Qiv Qge
theorem Qgf : Qo pg 21 37 [.tmp 4] (JH 38) := ⟨Tryz.f21, Tryz.func21, by kernel_rfl, by kernel_rfl, by kernel_rfl, by kernel_rfl⟩
theorem J8 : Qci pg 21 := Qiw Qgf QbL
theorem Qe6 : Qo pg 39 14 [.tmp 2, .tmp 3] ZC := ⟨Tryz.f39, Tryz.func39, by kernel_rfl, by kernel_rfl, by kernel_rfl, by kernel_rfl⟩
theorem Qbl : QdK pg 39 := Qhx Qe6
theorem Qes : Qo pg 36 25 [.tmp 2] (XO 38 50) := ⟨Tryz.f36, Tryz.func36, by kernel_rfl, by kernel_rfl, by kernel_rfl, by kernel_rfl⟩
theorem X9 : Qco pg 36 := Qf0 Qes QbL
theorem Qmt : Qo pg 78 18 [.cell 4 107, .tmp 5] (Xp 44 107) := ⟨Tryz.f78, Tryz.func78, by kernel_rfl, by kernel_rfl, by kernel_rfl, by kernel_rfl⟩
theorem Qfa : Qlh pg 78 := QpH Qmt (show Zs Tryz.prog 107 = some (some 33) by kernel_rfl)
theorem Qh8 : Qo pg 100 11 [.tmp 2] (Xa 107) := ⟨Tryz.f100, Tryz.func100, by kernel_rfl, by kernel_rfl, by kernel_rfl, by kernel_rfl⟩
theorem QaH : Qcj pg 100 := QlE Qh8
theorem Qh7 : Qo pg 96 36 [.tmp 2, .tmp 3] (Qam 100 107) := ⟨Tryz.f96, Tryz.func96, by kernel_rfl, by kernel_rfl, by kernel_rfl, by kernel_rfl⟩
theorem QcU : QdI pg 96 := QlD Qh7 QaH
theorem QjI : Qo pg 105 9 [.tmp 2] XF := ⟨Tryz.f105, Tryz.func105, by kernel_rfl, by kernel_rfl, by kernel_rfl, by kernel_rfl⟩
theorem Qix : Qka pg 105 := Qm8 QjI
theorem Qh6 : Qo pg 101 53 [.cell 4 107, .tmp 5] (Qal 100 105 107) := ⟨Tryz.f101, Tryz.func101, by kernel_rfl, by kernel_rfl, by kernel_rfl, by kernel_rfl⟩
theorem Qg0 : QgB pg 101 := QlC Qh6 (show Zs Tryz.prog 107 = some (some 33) by kernel_rfl) QaH Qix
theorem QjJ : Qo pg 102 22 [.cell 4 107, .tmp 5] (QaV 100 107) := ⟨Tryz.f102, Tryz.func102, by kernel_rfl, by kernel_rfl, by kernel_rfl, by kernel_rfl⟩
theorem Qiy : Qkb pg 102 := Qm9 QjJ (show Zs Tryz.prog 107 = some (some 33) by kernel_rfl) QaH
theorem Qia : Qo pg 97 20 [.cell 6 107] (Qan 101 102 107) := ⟨Tryz.f97, Tryz.func97, by kernel_rfl, by kernel_rfl, by kernel_rfl, by kernel_rfl⟩
theorem QcV : Qcn pg 97 := QlU Qia (show Zs Tryz.prog 107 = some (some 33) by kernel_rfl) Qg0 Qiy
theorem Qgh : Qo pg 81 27 [.tmp 4, .cell 5 107, .tmp 6] (JJ 96 97 107) := ⟨Tryz.f81, Tryz.func81, by kernel_rfl, by kernel_rfl, by kernel_rfl, by kernel_rfl⟩
theorem QfC : QcR pg 81 := Qi6 Qgh (show Zs Tryz.prog 107 = some (some 33) by kernel_rfl) QcU QcV
theorem Qmv : Qo pg 92 27 [.tmp 4, .cell 5 107, .tmp 6] (QbG 96 97 107) := ⟨Tryz.f92, Tryz.func92, by kernel_rfl, by kernel_rfl, by kernel_rfl, by kernel_rfl⟩
theorem Qlv : Qkf pg 92 := Qqg Qmv (show Zs Tryz.prog 107 = some (some 33) by kernel_rfl) QcU QcV
theorem Qgk : Qo pg 94 10 [.tmp 2, .tmp 3] ZT := ⟨Tryz.f94, Tryz.func94, by kernel_rfl, by kernel_rfl, by kernel_rfl, by kernel_rfl⟩
theorem QfF : QgG pg 94 := Qjf Qgk
theorem Qgj : Qo pg 95 16 [.tmp 4] Xx := ⟨Tryz.f95, Tryz.func95, by kernel_rfl, by kernel_rfl, by kernel_rfl, by kernel_rfl⟩
theorem QfE : QgF pg 95 := Qje Qgj
theorem Qgl : Qo pg 80 19 [.tmp 4, .tmp 5] (JL 94 95) := ⟨Tryz.f80, Tryz.func80, by kernel_rfl, by kernel_rfl, by kernel_rfl, by kernel_rfl⟩
theorem QbO : QdM pg 80 := Qjg Qgl QfF QfE
theorem QjV : Qo pg 51 21 [.cell 4 109, .tmp 5] (QaZ 78 44 109 107) := ⟨Tryz.f51, Tryz.func51, by kernel_rfl, by kernel_rfl, by kernel_rfl, by kernel_rfl⟩
theorem QdZ : Qlk pg 51 := QoR QjV (show Zs Tryz.prog 109 = some (some 35) by kernel_rfl) Qfa
theorem Qgr : Qo pg 79 24 [.tmp 2] (JP 78 109 107) := ⟨Tryz.f79, Tryz.func79, by kernel_rfl, by kernel_rfl, by kernel_rfl, by kernel_rfl⟩
theorem QbR : QdQ pg 79 := QjB Qgr Qfa
theorem Qet : Qo pg 52 44 [.tmp 4, .cell 5 109, .tmp 6] (XP 79 80 81 109 107) := ⟨Tryz.f52, Tryz.func52, by kernel_rfl, by kernel_rfl, by kernel_rfl, by kernel_rfl⟩
theorem Qd0 : QcS pg 52 := Qgc Qet (show Zs Tryz.prog 109 = some (some 35) by kernel_rfl) QbR QbO QfC
theorem Qik : Qo pg 71 46 [.tmp 4, .cell 5 109, .tmp 6] (Qas 79 80 92 109 107) := ⟨Tryz.f71, Tryz.func71, by kernel_rfl, by kernel_rfl, by kernel_rfl, by kernel_rfl⟩
theorem Qg8 : Qki pg 71 := Qmk Qik (show Zs Tryz.prog 109 = some (some 35) by kernel_rfl) QbR QbO Qlv
theorem QjO : Qo pg 53 10 [.tmp 2] Jw := ⟨Tryz.f53, Tryz.func53, by kernel_rfl, by kernel_rfl, by kernel_rfl, by kernel_rfl⟩
theorem QiB : Qpn pg 53 := Qoq QjO
theorem QjP : Qo pg 72 11 [.tmp 2] Jy := ⟨Tryz.f72, Tryz.func72, by kernel_rfl, by kernel_rfl, by kernel_rfl, by kernel_rfl⟩

end Go.Proofs.YtkilhchobbfjhacGreatDoor.clipNames

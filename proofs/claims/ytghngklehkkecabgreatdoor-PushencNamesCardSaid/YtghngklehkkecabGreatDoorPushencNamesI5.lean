/- What the functions that the law reaches return in this program, part 5; no conditions. -/
import Derived.Test.YtghngklehkkecabGreatDoorPushencNamesI4
set_option linter.unusedSectionVars false
set_option linter.unusedSimpArgs false
set_option linter.unusedVariables false
namespace Go.Proofs.YtghngklehkkecabGreatDoor.pushencNames
open Go.Am Go.ChangeShapes Go.WideShapes Go.ChangeAt Go.RowKit

theorem QiL : Qk pg 27 62 [.tmp 4, .tmp 5] (Q1 42 43 34 35 44 45 36 46 64 77 22) := ⟨Tryz.f27, Tryz.func27, by kernel_rfl, by kernel_rfl, by kernel_rfl, by kernel_rfl⟩
theorem QhB : QmQ pg 27 := Ql3 QiL Qhv QhF Qgj Qct QhA QcW Qhz
theorem QdG : Qai 21 pg 38 := QsH Z4
theorem QgI : Qk pg 22 15 [.cell 4 29, .tmp 5] (Qad 29) := ⟨Tryz.f22, Tryz.func22, by kernel_rfl, by kernel_rfl, by kernel_rfl, by kernel_rfl⟩
theorem Qcr : Qi3 pg 22 := QjQ QgI (show ZP Tryz.prog 29 = some (some 10) by kernel_rfl)
theorem QgJ : Qk pg 8 55 [.cell 4 29, .tmp 5] (Qae 15 16 17 22 29 3 5) := ⟨Tryz.f8, Tryz.func8, by kernel_rfl, by kernel_rfl, by kernel_rfl, by kernel_rfl⟩
theorem QbY : Qk pg 15 33 [.cell 2 29, .tmp 3, .tmp 4] (Zb 11 28 24 29) := ⟨Tryz.f15, Tryz.func15, by kernel_rfl, by kernel_rfl, by kernel_rfl, by kernel_rfl⟩
theorem QaL : Qk pg 24 42 [.cell 2 29] (Q6 25 38 29 22) := ⟨Tryz.f24, Tryz.func24, by kernel_rfl, by kernel_rfl, by kernel_rfl, by kernel_rfl⟩
theorem QeD : Qk pg 17 44 [.tmp 2] (Q3 19 18 20 21 21) := ⟨Tryz.f17, Tryz.func17, by kernel_rfl, by kernel_rfl, by kernel_rfl, by kernel_rfl⟩
theorem Qcy : Qk pg 21 46 [.tmp 2] (Zr 31 32 70 22) := ⟨Tryz.f21, Tryz.func21, by kernel_rfl, by kernel_rfl, by kernel_rfl, by kernel_rfl⟩
theorem QaH : Qd3 pg 8 := QjR QgJ QbY ZQ Z9 QaL QcX QdG (show ZP Tryz.prog 29 = some (some 10) by kernel_rfl) QbB QeD JV Qcq Qe6 Qcy QcD Jn Qcr
theorem QfW : Qk pg 33 12 [.tmp 2, .tmp 3] Xn := ⟨Tryz.f33, Tryz.func33, by kernel_rfl, by kernel_rfl, by kernel_rfl, by kernel_rfl⟩
theorem Qfb : Qga pg 33 := Qiq QfW
theorem Qe8 : Qd5 5 pg 34 := Qid Qcz Qcs Qa0 Qbd (show pg.G.lookup 0 = some QuF by rfl)
theorem QgH : Qk pg 23 85 [.tmp 4, .tmp 5] (Qac 33 34 35 36 37 29 5 3) := ⟨Tryz.f23, Tryz.func23, by kernel_rfl, by kernel_rfl, by kernel_rfl, by kernel_rfl⟩
theorem Qgi : QmK pg 23 := QjP QgH Qfb Qe8 Qct QcW QbL
theorem QeC : Qk pg 9 67 [.cell 2 29, .tmp 3] (X5 15 19 22 21 23 29) := ⟨Tryz.f9, Tryz.func9, by kernel_rfl, by kernel_rfl, by kernel_rfl, by kernel_rfl⟩
theorem Jm : Qhh pg 9 := Qgq QeC QbY ZQ Z9 QaL QcX QdG (show ZP Tryz.prog 29 = some (some 10) by kernel_rfl) JV Qcr Qcy QcD Jn Qgi
theorem QfO : Qk pg 10 38 [.cell 4 29, .tmp 5, .tmp 6] (ZE 11 24 25 29) := ⟨Tryz.f10, Tryz.func10, by kernel_rfl, by kernel_rfl, by kernel_rfl, by kernel_rfl⟩
theorem JW : QkY pg 10 := QhX QfO ZQ QaL QcX QdG (show ZP Tryz.prog 29 = some (some 10) by kernel_rfl)
theorem QcQ : Qk pg 12 114 [.tmp 4] (Z5 29) := ⟨Tryz.f12, Tryz.func12, by kernel_rfl, by kernel_rfl, by kernel_rfl, by kernel_rfl⟩
theorem Qhp : QmJ pg 12 := QlC QcQ
theorem QcR : Qk pg 5 2 [.cell 0 24] (Z6 24) := ⟨Tryz.f5, Tryz.func5, by kernel_rfl, by kernel_rfl, by kernel_rfl, by kernel_rfl⟩
theorem Qea : QnC pg 5 := Qn7 QcR (show ZP Tryz.prog 24 = some (some 2) by kernel_rfl)
theorem QcS : Qk pg 7 34 [.cell 8 29, .tmp 9] (Z7 4 8 24 29) := ⟨Tryz.f7, Tryz.func7, by kernel_rfl, by kernel_rfl, by kernel_rfl, by kernel_rfl⟩
theorem Qeb : QnD pg 7 := Qn8 QcS Qbc QaH (show ZP Tryz.prog 29 = some (some 10) by kernel_rfl)
theorem Qcp : Qk pg 13 117 [.tmp 0] (ZX 5 7 9 10 27 4 5 29 21) := ⟨Tryz.f13, Tryz.func13, by kernel_rfl, by kernel_rfl, by kernel_rfl, by kernel_rfl⟩
theorem Qhs : Qgd pg 13 := QlM Qcp Qea Qeb Jm JW QhB Qbc
theorem Qds : Qk pg 6 41 [.tmp 2] (Xr 8 9 10 11 29) := ⟨Tryz.f6, Tryz.func6, by kernel_rfl, by kernel_rfl, by kernel_rfl, by kernel_rfl⟩
theorem Qlb : Zt pg 6 := QpU Qds QaH Jm JW ZQ
theorem J9 : Qk pg 3 353 [.tmp 0] (QZ 4 5 6 7 8 9 10 11 12 13 5 29 21 22) := ⟨Tryz.f3, Tryz.func3, by kernel_rfl, by kernel_rfl, by kernel_rfl, by kernel_rfl⟩
theorem Qcm : Qgd pg 3 := Qdj J9 Qbc Qea Qlb Qeb QaH Jm JW ZQ Qhp Qhs

end Go.Proofs.YtghngklehkkecabGreatDoor.pushencNames

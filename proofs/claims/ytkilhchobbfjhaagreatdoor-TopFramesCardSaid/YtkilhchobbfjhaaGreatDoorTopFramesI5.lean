/- What the functions that the law reaches return in this program, part 5; no conditions. -/
import Derived.Test.YtkilhchobbfjhaaGreatDoorTopFramesI4
set_option linter.unusedSectionVars false
set_option linter.unusedSimpArgs false
set_option linter.unusedVariables false
namespace Go.Proofs.YtkilhchobbfjhaaGreatDoor.topFrames
open Go.Am Go.ChangeShapes Go.WideShapes Go.ChangeAt Go.RowKit

theorem Qjr : QiX pg 72 := QoH QkG Zd QdP QhK QdR (show ZD Tryz.prog 85 = some (some 2) by kernel_rfl)
theorem QiD : Ql pg 77 24 [.tmp 4, .tmp 5] (Jc 104) := ⟨Tryz.f77, Tryz.func77, by kernel_rfl, by kernel_rfl, by kernel_rfl, by kernel_rfl⟩
theorem QhM : Qsx pg 77 := QlA QiD QdP
theorem QkJ : Ql pg 33 69 [.cell 6 85, .cell 7 81, .tmp 8] (JM 68 69 70 71 72 73 85 81) := ⟨Tryz.f33, Tryz.func33, by kernel_rfl, by kernel_rfl, by kernel_rfl, by kernel_rfl⟩
theorem Qjy : QiZ pg 33 := Qo9 QkJ Zd Qad Ji QdR Qjr Qb3 Qat Ji (show ZD Tryz.prog 85 = some (some 2) by kernel_rfl) (show ZD Tryz.prog 81 = some (some 4) by kernel_rfl)
theorem QiK : Ql pg 38 37 [.tmp 4, .tmp 5] (Jf 69 70 77 81) := ⟨Tryz.f38, Tryz.func38, by kernel_rfl, by kernel_rfl, by kernel_rfl, by kernel_rfl⟩
theorem QhV : QsA pg 38 := Qmc QiK Qad Ji QhM
theorem QkL : Ql pg 39 16 [.cell 4 81, .tmp 5] (Qbo 69 73 81) := ⟨Tryz.f39, Tryz.func39, by kernel_rfl, by kernel_rfl, by kernel_rfl, by kernel_rfl⟩
theorem Qjz : Qi1 pg 39 := Qpb QkL Qad Qb3 Qat Ji (show ZD Tryz.prog 81 = some (some 4) by kernel_rfl)
theorem QeR : Ql pg 32 11 [.cell 0 82] (X6 67 82) := ⟨Tryz.f32, Tryz.func32, by kernel_rfl, by kernel_rfl, by kernel_rfl, by kernel_rfl⟩
theorem Qbx : QaS pg 32 := QgL QeR QbN (show ZD Tryz.prog 82 = some (some 24) by kernel_rfl)
theorem Qas : Ql pg 37 36 [.tmp 2] (Q9 76 5) := ⟨Tryz.f37, Tryz.func37, by kernel_rfl, by kernel_rfl, by kernel_rfl, by kernel_rfl⟩
theorem growB : Qgn 5 pg 76 := grow_nil Tryz.growB rfl rfl (by kernel_rfl)
theorem Qfr : Qi9 pg 37 := Qh1 Qas growB
theorem QeU : Ql pg 11 85 [.tmp 6, .tmp 7] (Z6 31 32 33 34 35 36 37 28 40 82 85 81 43) := ⟨Tryz.f11, Tryz.func11, by kernel_rfl, by kernel_rfl, by kernel_rfl, by kernel_rfl⟩
theorem QiJ : Ql pg 34 64 [] (Je 85 5) := ⟨Tryz.f34, Tryz.func34, by kernel_rfl, by kernel_rfl, by kernel_rfl, by kernel_rfl⟩
theorem Qbz : Quu pg 11 := QgO QeU Qby Qbx Qjy QiJ QcN Qop Qfr
theorem QeT : Ql pg 12 69 [.tmp 6, .tmp 7] (Z5 31 32 38 39 28 40 82) := ⟨Tryz.f12, Tryz.func12, by kernel_rfl, by kernel_rfl, by kernel_rfl, by kernel_rfl⟩
theorem QeI : QsG pg 12 := QgN QeT Qby Qbx QhV Qjz
theorem Qed : Ql pg 92 51 [.tmp 4, .tmp 5] XF := ⟨Tryz.f92, Tryz.func92, by kernel_rfl, by kernel_rfl, by kernel_rfl, by kernel_rfl⟩
theorem Qjx : QpG pg 92 := QoT Qed
theorem Qgb : Ql pg 59 30 [.tmp 4, .tmp 5] (Ju 91 92) := ⟨Tryz.f59, Tryz.func59, by kernel_rfl, by kernel_rfl, by kernel_rfl, by kernel_rfl⟩
theorem Qon : QpG pg 59 := Qtz Qgb Qjx
theorem Qbg : Ql pg 27 48 [.tmp 4] (Zk 59 3) := ⟨Tryz.f27, Tryz.func27, by kernel_rfl, by kernel_rfl, by kernel_rfl, by kernel_rfl⟩
theorem QeF : Qgk 3 pg 27 := QgF Qbg Qon
theorem Qbh : Ql pg 60 36 [.tmp 2] (Zl 93 3) := ⟨Tryz.f60, Tryz.func60, by kernel_rfl, by kernel_rfl, by kernel_rfl, by kernel_rfl⟩
theorem growI : QhC 3 pg 93 := grow_nilI Tryz.growI rfl rfl (by kernel_rfl)
theorem QeG : Qgo 3 pg 60 := QgG Qbh growI
theorem QeQ : Ql pg 28 9 [.tmp 4] (X5 60 37) := ⟨Tryz.f28, Tryz.func28, by kernel_rfl, by kernel_rfl, by kernel_rfl, by kernel_rfl⟩
theorem QeH : QsI 3 pg 28 := QgJ QeQ QeG
theorem QiF : Ql pg 9 39 [.tmp 4, .tmp 5] (Qay 25 26 27 28 3) := ⟨Tryz.f9, Tryz.func9, by kernel_rfl, by kernel_rfl, by kernel_rfl, by kernel_rfl⟩
theorem Qa0 : QkZ 3 pg 9 := QlR QiF QbM QcG QeF QeH
theorem Qau : Ql pg 58 43 [] (ZU 9) := ⟨Tryz.f58, Tryz.func58, by kernel_rfl, by kernel_rfl, by kernel_rfl, by kernel_rfl⟩
theorem Qdg : QdL 3 pg 58 := Qmk Qau Qa0
theorem QkP : Ql pg 22 4 [.tmp 2] (Qbq 58 24) := ⟨Tryz.f22, Tryz.func22, by kernel_rfl, by kernel_rfl, by kernel_rfl, by kernel_rfl⟩
theorem Qet : QdM 58 pg 22 := Qpk QkP
theorem QpY : Qja pg 24 := Qv0 Z9
theorem QkQ : Qm5 pg 8 21 [.tmp 2, .tmp 3] (JP 21 22 24 24 34 22) := ⟨Tryz.f8, Tryz.func8, by kernel_rfl, by kernel_rfl, by kernel_rfl, by kernel_rfl⟩
theorem QjC : QmT pg 8 := Qpl QkQ Qeu Qet Qdg Qau QpY (by decide) (by decide) (by decide)
theorem QiL : Ql pg 95 25 [.tmp 0] (QaA 191) := ⟨Tryz.f95, Tryz.func95, by kernel_rfl, by kernel_rfl, by kernel_rfl, by kernel_rfl⟩
theorem QhW : QiW pg 95 := Qmg QiL
theorem Qg6 : Ql pg 94 29 [.tmp 6] J8 := ⟨Tryz.f94, Tryz.func94, by kernel_rfl, by kernel_rfl, by kernel_rfl, by kernel_rfl⟩
theorem QgD : Qgp pg 94 := Qks Qg6
theorem QkN : Ql pg 61 13 [.tmp 4, .tmp 5] (JN 95 94) := ⟨Tryz.f61, Tryz.func61, by kernel_rfl, by kernel_rfl, by kernel_rfl, by kernel_rfl⟩
theorem QjA : QmV pg 61 := Qpf QkN QhW QgD

end Go.Proofs.YtkilhchobbfjhaaGreatDoor.topFrames

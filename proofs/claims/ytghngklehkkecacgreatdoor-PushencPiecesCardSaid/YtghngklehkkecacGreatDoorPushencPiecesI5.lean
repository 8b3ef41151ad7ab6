/- What the functions that the law reaches return in this program, part 5; no conditions. -/
import Derived.Test.YtghngklehkkecacGreatDoorPushencPiecesI4
set_option linter.unusedSectionVars false
set_option linter.unusedSimpArgs false
set_option linter.unusedVariables false
namespace Go.Proofs.YtghngklehkkecacGreatDoor.pushencPieces
open Go.Am Go.ChangeShapes Go.WideShapes Go.ChangeAt Go.RowKit

theorem QfL : Qf pg 35 5 [.tmp 2] Jo := ⟨Tryz.f35, Tryz.func35, by kernel_rfl, by kernel_rfl, by kernel_rfl, by kernel_rfl⟩
theorem Qe5 : Qrk pg 35 := Qh2 QfL
theorem Qbu : Qf pg 34 26 [.tmp 4] (Zy 3) := ⟨Tryz.f34, Tryz.func34, by kernel_rfl, by kernel_rfl, by kernel_rfl, by kernel_rfl⟩
theorem Qhn : Qro 35 pg 34 := QlW Qbu Qe5
theorem Qiu : Qf pg 36 17 [.tmp 2] (QaC 5) := ⟨Tryz.f36, Tryz.func36, by kernel_rfl, by kernel_rfl, by kernel_rfl, by kernel_rfl⟩
theorem Qhm : QmG pg 36 := QlV Qiu
theorem Qiv : Qf pg 14 62 [.tmp 4, .tmp 5] (Q0 29 30 31 32 34 35 33 36 48 68 24) := ⟨Tryz.f14, Tryz.func14, by kernel_rfl, by kernel_rfl, by kernel_rfl, by kernel_rfl⟩
theorem Qho : QmJ pg 14 := QlX Qiv Qhi Qhs Qga Qct Qhn QcX Qhm
theorem QdD : J5 21 pg 47 := QsN ZW
theorem Qgy : Qf pg 24 15 [.cell 4 33, .tmp 5] (J0 33) := ⟨Tryz.f24, Tryz.func24, by kernel_rfl, by kernel_rfl, by kernel_rfl, by kernel_rfl⟩
theorem Qcq : QiN pg 24 := QjF Qgy (show ZK Tryz.prog 33 = some (some 10) by kernel_rfl)
theorem Qgz : Qf pg 8 55 [.cell 4 33, .tmp 5] (J1 17 18 19 24 33 3 5) := ⟨Tryz.f8, Tryz.func8, by kernel_rfl, by kernel_rfl, by kernel_rfl, by kernel_rfl⟩
theorem QbT : Qf pg 17 33 [.cell 2 33, .tmp 3, .tmp 4] (Zc 26 39 27 33) := ⟨Tryz.f17, Tryz.func17, by kernel_rfl, by kernel_rfl, by kernel_rfl, by kernel_rfl⟩
theorem Qav : Qf pg 27 42 [.cell 2 33] (Q5 28 47 33 24) := ⟨Tryz.f27, Tryz.func27, by kernel_rfl, by kernel_rfl, by kernel_rfl, by kernel_rfl⟩
theorem QeA : Qf pg 19 44 [.tmp 2] (Q1 21 20 22 23 21) := ⟨Tryz.f19, Tryz.func19, by kernel_rfl, by kernel_rfl, by kernel_rfl, by kernel_rfl⟩
theorem Qcy : Qf pg 23 46 [.tmp 2] (Zr 42 43 86 24) := ⟨Tryz.f23, Tryz.func23, by kernel_rfl, by kernel_rfl, by kernel_rfl, by kernel_rfl⟩
theorem Qcr : Qd3 pg 8 := QjG Qgz QbT JN Z4 Qav QcY QdD (show ZK Tryz.prog 33 = some (some 10) by kernel_rfl) Qbo QeA JM Qcp Qe1 Qcy QcD Jc Qcq
theorem QfM : Qf pg 44 12 [.tmp 2, .tmp 3] Xe := ⟨Tryz.f44, Tryz.func44, by kernel_rfl, by kernel_rfl, by kernel_rfl, by kernel_rfl⟩
theorem Qe6 : Qf1 pg 44 := Qh9 QfM
theorem Qe3 : Qd5 5 pg 31 := QhX Qcz Qcs QaJ QaZ (show pg.G.lookup 0 = some QuD by rfl)
theorem Qgx : Qf pg 25 85 [.tmp 4, .tmp 5] (JZ 44 31 32 33 45 33 5 3) := ⟨Tryz.f25, Tryz.func25, by kernel_rfl, by kernel_rfl, by kernel_rfl, by kernel_rfl⟩
theorem Qf8 : QmE pg 25 := QjE Qgx Qe6 Qe3 Qct QcX QbB
theorem Qez : Qf pg 10 67 [.cell 2 33, .tmp 3] (XR 17 21 24 23 25 33) := ⟨Tryz.f10, Tryz.func10, by kernel_rfl, by kernel_rfl, by kernel_rfl, by kernel_rfl⟩
theorem Qbp : QkR pg 10 := Qgg Qez QbT JN Z4 Qav QcY QdD (show ZK Tryz.prog 33 = some (some 10) by kernel_rfl) JM Qcq Qcy QcD Jc Qf8
theorem QfE : Qf pg 11 38 [.cell 4 33, .tmp 5, .tmp 6] (ZC 26 27 28 33) := ⟨Tryz.f11, Tryz.func11, by kernel_rfl, by kernel_rfl, by kernel_rfl, by kernel_rfl⟩
theorem QbD : Qnx pg 11 := QhI QfE JN Qav QcY QdD (show ZK Tryz.prog 33 = some (some 10) by kernel_rfl)
theorem QcO : Qf pg 9 114 [.tmp 4] (ZY 33) := ⟨Tryz.f9, Tryz.func9, by kernel_rfl, by kernel_rfl, by kernel_rfl, by kernel_rfl⟩
theorem Qhb : QmD pg 9 := Qlu QcO
theorem QcP : Qf pg 6 29 [.tmp 6] (Qw 23) := ⟨Tryz.f6, Tryz.func6, by kernel_rfl, by kernel_rfl, by kernel_rfl, by kernel_rfl⟩
theorem Qja : QiR pg 6 := QnU QcP
theorem QcS : Qf pg 13 2 [.cell 0 23] (Z0 23) := ⟨Tryz.f13, Tryz.func13, by kernel_rfl, by kernel_rfl, by kernel_rfl, by kernel_rfl⟩
theorem Qjf : Qri pg 13 := Qn4 QcS (show ZK Tryz.prog 23 = some (some 2) by kernel_rfl)
theorem Qcn : Qf pg 5 12 [.tmp 6] (Zh 15 23) := ⟨Tryz.f5, Tryz.func5, by kernel_rfl, by kernel_rfl, by kernel_rfl, by kernel_rfl⟩
theorem Qcl : Qf pg 15 26 [.tmp 6] (Zg 37 38 23) := ⟨Tryz.f15, Tryz.func15, by kernel_rfl, by kernel_rfl, by kernel_rfl, by kernel_rfl⟩
theorem Qf9 : Qd2 pg 5 := QjR Qcn Qcl Qjb Qhc
theorem QcT : Qf pg 12 34 [.cell 8 33, .tmp 9] (Z1 7 8 23 33) := ⟨Tryz.f12, Tryz.func12, by kernel_rfl, by kernel_rfl, by kernel_rfl, by kernel_rfl⟩
theorem Qjg : Qrj pg 12 := Qn5 QcT QaY Qcr (show ZK Tryz.prog 33 = some (some 10) by kernel_rfl)
theorem Qco : Qf pg 4 117 [.tmp 0] (ZR 13 12 10 11 14 7 5 33 21) := ⟨Tryz.f4, Tryz.func4, by kernel_rfl, by kernel_rfl, by kernel_rfl, by kernel_rfl⟩
theorem Qhf : QmN pg 4 := QlE Qco Qjf Qjg Qbp QbD Qho QaY
theorem Jz : Qf pg 3 185 [.tmp 10] (Qp 4 5 6 7 8 9 10 11 23 33 5) := ⟨Tryz.f3, Tryz.func3, by kernel_rfl, by kernel_rfl, by kernel_rfl, by kernel_rfl⟩
theorem QbE : QfV pg 3 := QcJ Jz Qhf Qf9 Qja QaY Qcr Qhb Qbp QbD

end Go.Proofs.YtghngklehkkecacGreatDoor.pushencPieces

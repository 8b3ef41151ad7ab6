/- What the functions that the law reaches return in this program, part 3; no conditions. -/
import Derived.Test.YtghngklehkkecaaGreatDoorTopFileI2
set_option linter.unusedSectionVars false
set_option linter.unusedSimpArgs false
set_option linter.unusedVariables false
namespace Go.Proofs.YtghngklehkkecaaGreatDoor.topFile
open Go.Am Go.ChangeShapes Go.WideShapes Go.ChangeAt Go.RowKit

theorem Qfw : Qag pg 16 := QqC Qex (show Zu Tryz.prog 42 = some (some 2) by kernel_rfl)
theorem QrR : Body pg 50 31 [.tmp 4] (QdT 64 74 94 24) := mkB Tryz.func50 (by kernel_rfl)
theorem Qiv : Qnt pg 50 := Qx6 QrR Qg5 QaX QaV
theorem QpF : Body pg 18 33 [.tmp 2] (JE 50 51 24) := mkB Tryz.func18 (by kernel_rfl)
theorem Qbr : Z1 pg 18 := Qu1 QpF Qiv Qaw
theorem QeA : Body pg 48 19 [.tmp 4] (Xy 46 42) := mkB Tryz.func48 (by kernel_rfl)
theorem QlF : Qsk pg 48 := QqF QeA Qfx
theorem Qf4 : Body pg 93 41 [.tmp 4, .tmp 5] (Q8 129 3) := mkB Tryz.func93 (by kernel_rfl)
theorem Qp5 : Qsl pg 93 := QwH Qf4 QnS
theorem Qez : Body pg 49 17 [.tmp 4, .tmp 5] (ZJ 93) := mkB Tryz.func49 (by kernel_rfl)
theorem QlE : Qah pg 49 := QqE Qez Qp5
theorem Qfc : Body pg 17 21 [.tmp 4] (XS 16 48 49 24) := mkB Tryz.func17 (by kernel_rfl)
theorem QnR : QjA pg 17 := Qum Qfc Qfw QlF QlE
theorem Qey : Body pg 6 20 [.tmp 2] (Xx 16 15 17 24) := mkB Tryz.func6 (by kernel_rfl)
theorem QlD : Z1 pg 6 := QqD Qey Qfw QlG QnR
theorem Qyt : Body pg 97 14 [.tmp 4] Qch := mkB Tryz.func97 (by kernel_rfl)
theorem QvK : QyC pg 97 := QBY Qyt
theorem Qvg : Body pg 56 35 [.tmp 4, .tmp 5] (QcX 97 5) := mkB Tryz.func56 (by kernel_rfl)
theorem QaR : X7 pg 56 := QzP Qvg QvK
theorem QrE : Body pg 59 25 [.tmp 2] (QdR 52) := mkB Tryz.func59 (by kernel_rfl)
theorem Qim : Qtw pg 59 4 := Qwy QrE
theorem XI : Body pg 130 19 [.tmp 4] QQ := mkB Tryz.func130 (by kernel_rfl)
theorem Qfy : Qgg pg 130 := QqY XI
theorem Xb : Body pg 95 9 [.tmp 4] (QI 130) := mkB Tryz.func95 (by kernel_rfl)
theorem Qht : QdW pg 95 := Qkm Xb Qfy
theorem Qku : Body pg 96 7 [.tmp 2] (Qbf 83 52) := mkB Tryz.func96 (by kernel_rfl)
theorem QlB : Qns pg 96 := Qqx Qku Qax
theorem Qpu : Body pg 54 21 [.tmp 4] (QaG 83 59 95 96) := mkB Tryz.func54 (by kernel_rfl)
theorem QnP : Qsh pg 54 := Quj Qpu Qax Qim Qht QlB
theorem QmK : Body pg 134 8 [.tmp 3] (QbP 52) := mkB Tryz.func134 (by kernel_rfl)
theorem QnO : Qse pg 134 := Qui QmK
theorem QrH : Body pg 100 13 [.tmp 4, .tmp 5] (QdS 134 130 9) := mkB Tryz.func100 (by kernel_rfl)
theorem Qp3 : QyH pg 100 := QwB QrH QnO Qfy
theorem Qpt : Body pg 21 48 [.tmp 4, .tmp 5] (QcV 54 55 59 57 58 60 112 52 5) := mkB Tryz.func21 (by kernel_rfl)
theorem JV : Body pg 98 33 [.tmp 4, .tmp 5] Qi := mkB Tryz.func98 (by kernel_rfl)
theorem Qff : Body pg 99 110 [.tmp 4] (QV 131 132 98 133 5 3) := mkB Tryz.func99 (by kernel_rfl)
theorem Qf5 : Body pg 131 13 [.tmp 2] Zw := mkB Tryz.func131 (by kernel_rfl)
theorem Qbo : Body pg 57 32 [.tmp 4, .tmp 5] (QH 98 99) := mkB Tryz.func57 (by kernel_rfl)
theorem QeE : Body pg 58 32 [.tmp 4, .tmp 5] (Q0 98 99) := mkB Tryz.func58 (by kernel_rfl)
theorem QeF : Body pg 60 12 [.tmp 2] XB := mkB Tryz.func60 (by kernel_rfl)
theorem QEV : QDT pg Tryz.laysM252_ren 98 131 132 133 3 57 58 60 := ⟨Tryz.laysM252, ⟨JV, Qff, Qf5⟩, Qbo, QeE, QeF⟩
theorem Qkt : Body pg 55 17 [] (ZO 56 57 58) := mkB Tryz.func55 (by kernel_rfl)
theorem QgZ : Qne pg 21 := Quh QEV Qpt QnP Qkt QaR Qim
theorem QhE : Body pg 85 27 [.tmp 2] (QJ 48) := mkB Tryz.func85 (by kernel_rfl)
theorem Qiq : Qh5 pg 85 := QxF QhE

end Go.Proofs.YtghngklehkkecaaGreatDoor.topFile

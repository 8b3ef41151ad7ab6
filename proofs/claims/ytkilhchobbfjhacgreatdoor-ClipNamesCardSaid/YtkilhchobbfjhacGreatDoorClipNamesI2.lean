/- What the functions that the law reaches return in this program, part 2; no conditions. -/
import Derived.Test.YtkilhchobbfjhacGreatDoorClipNamesI1
set_option linter.unusedSectionVars false
set_option linter.unusedSimpArgs false
set_option linter.unusedVariables false
namespace Go.Proofs.YtkilhchobbfjhacGreatDoor.clipNames
open Go.Am Go.ChangeShapes Go.WideShapes Go.ChangeAt Go.RowKit

theorem QiC : Qj9 pg 72 := Qor QjP
theorem ZL : Qo pg 13 8 [.tmp 2] (Qw 21) := ⟨Tryz.f13, Tryz.func13, by kernel_rfl, by kernel_rfl, by kernel_rfl, by kernel_rfl⟩
theorem QdX : QdP 21 pg 13 := QoM ZL
theorem Qo6 : Qo pg 77 39 [] QcL := ⟨Tryz.f77, Tryz.func77, by kernel_rfl, by kernel_rfl, by kernel_rfl, by kernel_rfl⟩
theorem QmR : Qsu pg 77 := QrQ Qo6
theorem QjN : Qo pg 76 22 [.tmp 4] ZB := ⟨Tryz.f76, Tryz.func76, by kernel_rfl, by kernel_rfl, by kernel_rfl, by kernel_rfl⟩
theorem QdU : QdJ pg 76 := Qn2 QjN
theorem Qo7 : Qo pg 50 32 [.tmp 4, .tmp 5] (QcM 76 13 77) := ⟨Tryz.f50, Tryz.func50, by kernel_rfl, by kernel_rfl, by kernel_rfl, by kernel_rfl⟩
theorem QmS : QgD pg 50 := QrR Qo7 QdU QdX QmR
theorem Qer : Qo pg 49 30 [.tmp 4] (XN 36 21 50) := ⟨Tryz.f49, Tryz.func49, by kernel_rfl, by kernel_rfl, by kernel_rfl, by kernel_rfl⟩
theorem QdV : Qpp pg 49 := QfZ Qer X9 J8
theorem Qdp : Qo pg 28 83 [.tmp 6, .tmp 7] (Xs 49 50 51 52 53 50 44 110 109 77) := ⟨Tryz.f28, Tryz.func28, by kernel_rfl, by kernel_rfl, by kernel_rfl, by kernel_rfl⟩
theorem Qde : Qkg pg 28 := QeS Qdp QdV QmS QdZ Qd0 QiB
theorem QjM : Qo pg 93 40 [] Jv := ⟨Tryz.f93, Tryz.func93, by kernel_rfl, by kernel_rfl, by kernel_rfl, by kernel_rfl⟩
theorem QiA : Qj8 pg 93 := Qn1 QjM
theorem Qmu : Qo pg 73 32 [.tmp 4, .tmp 5] (QbF 76 13 93) := ⟨Tryz.f73, Tryz.func73, by kernel_rfl, by kernel_rfl, by kernel_rfl, by kernel_rfl⟩
theorem Qlt : Qex pg 73 := Qqc Qmu QdU QdX QiA
theorem QcJ : Qo pg 46 84 [.tmp 6, .tmp 7] (Xd 51 72 71 73 21 50 44 110 109 21) := ⟨Tryz.f46, Tryz.func46, by kernel_rfl, by kernel_rfl, by kernel_rfl, by kernel_rfl⟩
theorem Qct : Qpq pg 46 := Qem QcJ QdZ QiC Qg8 Qlt J8
theorem Qeq : Qo pg 37 32 [.tmp 4, .tmp 5] (XM 39) := ⟨Tryz.f37, Tryz.func37, by kernel_rfl, by kernel_rfl, by kernel_rfl, by kernel_rfl⟩
theorem QaI : Qcp pg 37 := QfU Qeq Qbl
theorem Qc8 : Qo pg 16 8 [.cell 2 50] (ZK 24 50) := ⟨Tryz.f16, Tryz.func16, by kernel_rfl, by kernel_rfl, by kernel_rfl, by kernel_rfl⟩
theorem QcY : Qck pg 16 := Qmf Qc8 (show Zs Tryz.prog 50 = some (some 2) by kernel_rfl)
theorem QjT : Qo pg 20 31 [.tmp 4] (QaX 16 36 37 24) := ⟨Tryz.f20, Tryz.func20, by kernel_rfl, by kernel_rfl, by kernel_rfl, by kernel_rfl⟩
theorem QdY : QgL pg 20 := QoN QjT QcY X9 QaI
theorem Qij : Qo pg 9 33 [.tmp 2] (Xe 20 21 24) := ⟨Tryz.f9, Tryz.func9, by kernel_rfl, by kernel_rfl, by kernel_rfl, by kernel_rfl⟩
theorem QaM : Jo pg 9 := Qmj Qij QdY J8
theorem QbD : Qo pg 47 26 [.tmp 4] Zb := ⟨Tryz.f47, Tryz.func47, by kernel_rfl, by kernel_rfl, by kernel_rfl, by kernel_rfl⟩
theorem Qls : Qsv pg 47 := Qp7 QbD
theorem JY : Qo pg 24 27 [.tmp 4] (QK 47) := ⟨Tryz.f24, Tryz.func24, by kernel_rfl, by kernel_rfl, by kernel_rfl, by kernel_rfl⟩
theorem Qcr : Qst pg 24 := Qd8 JY Qls
theorem Qo8 : Qo pg 62 14 [.tmp 4] J0 := ⟨Tryz.f62, Tryz.func62, by kernel_rfl, by kernel_rfl, by kernel_rfl, by kernel_rfl⟩
theorem QmT : Qpk pg 62 := QrU Qo8
theorem Qmx : Qo pg 33 35 [.tmp 4, .tmp 5] (Qao 62 5) := ⟨Tryz.f33, Tryz.func33, by kernel_rfl, by kernel_rfl, by kernel_rfl, by kernel_rfl⟩
theorem Qlx : Qeu pg 33 := Qql Qmx QmT
theorem Qgo : Qo pg 87 24 [.tmp 0] (JN 170) := ⟨Tryz.f87, Tryz.func87, by kernel_rfl, by kernel_rfl, by kernel_rfl, by kernel_rfl⟩
theorem QfH : Qj4 pg 87 := Qju Qgo
theorem Qig : Qo pg 61 32 [.tmp 4, .tmp 5] (X3 87) := ⟨Tryz.f61, Tryz.func61, by kernel_rfl, by kernel_rfl, by kernel_rfl, by kernel_rfl⟩
theorem Qg6 : Qkh pg 61 := Qmd Qig QfH
theorem QjS : Qo pg 32 16 [.tmp 2, .tmp 3] (JA 61) := ⟨Tryz.f32, Tryz.func32, by kernel_rfl, by kernel_rfl, by kernel_rfl, by kernel_rfl⟩
theorem QdW : Qlj pg 32 := QoJ QjS Qg6
theorem Qil : Qo pg 55 40 [.tmp 2] (X5 76) := ⟨Tryz.f55, Tryz.func55, by kernel_rfl, by kernel_rfl, by kernel_rfl, by kernel_rfl⟩
theorem Q4 : Xf pg 55 := Qmr Qil
theorem Qmy : Qo pg 70 47 [.tmp 6] (QbI 76) := ⟨Tryz.f70, Tryz.func70, by kernel_rfl, by kernel_rfl, by kernel_rfl, by kernel_rfl⟩
theorem Qfc : Qlf pg 70 := QqM Qmy

end Go.Proofs.YtkilhchobbfjhacGreatDoor.clipNames

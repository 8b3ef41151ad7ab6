/- What the functions that the law reaches return in this program, part 4; no conditions. -/
import Derived.Test.YtkilhchobbfjhabGreatDoorEncodeFilesI3
set_option linter.unusedSectionVars false
set_option linter.unusedSimpArgs false
set_option linter.unusedVariables false
namespace Go.Proofs.YtkilhchobbfjhabGreatDoor.encodeFiles
open Go.Am Go.ChangeShapes Go.WideShapes Go.ChangeAt Go.RowKit

theorem Qlj : QoQ pg 54 := Qq1 QmD Qi0
theorem Qoy : Qj pg 28 16 [.tmp 2, .tmp 3] (QaY 54) := ⟨Tryz.f28, Tryz.func28, by kernel_rfl, by kernel_rfl, by kernel_rfl, by kernel_rfl⟩
theorem Qdq : QmK pg 28 := Qtl Qoy Qlj
theorem QdV : Qj pg 145 19 [.tmp 4] QV := ⟨Tryz.f145, Tryz.func145, by kernel_rfl, by kernel_rfl, by kernel_rfl, by kernel_rfl⟩
theorem Qlb : QtX pg 145 := QqE QdV
theorem QdW : Qj pg 121 18 [.tmp 4] (XP 145) := ⟨Tryz.f121, Tryz.func121, by kernel_rfl, by kernel_rfl, by kernel_rfl, by kernel_rfl⟩
theorem Qlc : Qt6 pg 121 := QqF QdW Qlb
theorem Qcr : Qj pg 93 19 [.tmp 4] (Z6 121) := ⟨Tryz.f93, Tryz.func93, by kernel_rfl, by kernel_rfl, by kernel_rfl, by kernel_rfl⟩
theorem Qhz : Qhj pg 93 := QlO Qcr Qlc
theorem Qfd : Qj pg 63 6 [.tmp 2] (JC 93) := ⟨Tryz.f63, Tryz.func63, by kernel_rfl, by kernel_rfl, by kernel_rfl, by kernel_rfl⟩
theorem QeL : Qt5 pg 63 := QuQ Qfd Qhz
theorem QmH : Qj pg 78 40 [.tmp 2] (Qap 99) := ⟨Tryz.f78, Tryz.func78, by kernel_rfl, by kernel_rfl, by kernel_rfl, by kernel_rfl⟩
theorem QaQ : QcP pg 78 := Qrd QmH
theorem Qdh : Qj pg 151 13 [.tmp 2] Xw := ⟨Tryz.f151, Tryz.func151, by kernel_rfl, by kernel_rfl, by kernel_rfl, by kernel_rfl⟩
theorem Jo : Qcy pg 151 := QnL Qdh
theorem QmA : Qj pg 77 2 [.cell 0 95] (QbO 95) := ⟨Tryz.f77, Tryz.func77, by kernel_rfl, by kernel_rfl, by kernel_rfl, by kernel_rfl⟩
theorem Qlg : Qcx pg 77 := QqX QmA (show Q4 Tryz.prog 95 = some (some 4) by kernel_rfl)
theorem Qdg : Qj pg 132 2 [.cell 0 95] (Xv 95) := ⟨Tryz.f132, Tryz.func132, by kernel_rfl, by kernel_rfl, by kernel_rfl, by kernel_rfl⟩
theorem QiO : Qcx pg 132 := QnK Qdg (show Q4 Tryz.prog 95 = some (some 4) by kernel_rfl)
theorem QmB : Qj pg 79 26 [.tmp 2] (QbP 95) := ⟨Tryz.f79, Tryz.func79, by kernel_rfl, by kernel_rfl, by kernel_rfl, by kernel_rfl⟩
theorem Qlh : QkC pg 79 := QqY QmB
theorem QeA : Qj pg 134 11 [.tmp 4] (Jd 151 95) := ⟨Tryz.f134, Tryz.func134, by kernel_rfl, by kernel_rfl, by kernel_rfl, by kernel_rfl⟩
theorem Qf7 : QpQ pg 134 := Qsm QeA Jo
theorem QdP : Qj pg 138 12 [.tmp 4] (XM 151 95) := ⟨Tryz.f138, Tryz.func138, by kernel_rfl, by kernel_rfl, by kernel_rfl, by kernel_rfl⟩
theorem Qfq : Qku pg 138 := Qqy QdP Jo
theorem QdO : Qj pg 150 40 [.tmp 6, .tmp 7] (Qx 151) := ⟨Tryz.f150, Tryz.func150, by kernel_rfl, by kernel_rfl, by kernel_rfl, by kernel_rfl⟩
theorem Qk5 : QoG pg 150 := Qqx QdO Jo
theorem Qcp : Qj pg 133 38 [.cell 4 95] (Zj 134 138 150 95) := ⟨Tryz.f133, Tryz.func133, by kernel_rfl, by kernel_rfl, by kernel_rfl, by kernel_rfl⟩
theorem Qhy : Qkv pg 133 := QlL Qcp Qf7 Qfq Qk5 (show Q4 Tryz.prog 95 = some (some 4) by kernel_rfl)
theorem Qmx : Qj pg 80 17 [.tmp 4, .tmp 5] (Qal 95) := ⟨Tryz.f80, Tryz.func80, by kernel_rfl, by kernel_rfl, by kernel_rfl, by kernel_rfl⟩
theorem Qfr : Qg8 pg 80 := QqU Qmx
theorem QhW : Qj pg 108 9 [.tmp 4] Jt := ⟨Tryz.f108, Tryz.func108, by kernel_rfl, by kernel_rfl, by kernel_rfl, by kernel_rfl⟩
theorem QpY : QwG pg 108 := QuK QhW
theorem QdQ : Qj pg 152 12 [.tmp 4] (XN 151) := ⟨Tryz.f152, Tryz.func152, by kernel_rfl, by kernel_rfl, by kernel_rfl, by kernel_rfl⟩
theorem Qk6 : Qks pg 152 := Qqz QdQ Jo
theorem Qck : Qj pg 115 22 [.tmp 2] (Z3 63 5) := ⟨Tryz.f115, Tryz.func115, by kernel_rfl, by kernel_rfl, by kernel_rfl, by kernel_rfl⟩
theorem Qht : Qkm pg 115 := QlG Qck QeL
theorem Qbr : Qj pg 130 8 [.tmp 2] (QZ 5) := ⟨Tryz.f130, Tryz.func130, by kernel_rfl, by kernel_rfl, by kernel_rfl, by kernel_rfl⟩
theorem QrC : Qf1 5 pg 130 := Qwy Qbr
theorem Qrh : Qj pg 81 44 [.cell 6 99, .tmp 7] (QbT 78 106 107 99) := ⟨Tryz.f81, Tryz.func81, by kernel_rfl, by kernel_rfl, by kernel_rfl, by kernel_rfl⟩
theorem QoB : Qj pg 106 9 [.cell 2 99] (QaZ 130 99) := ⟨Tryz.f106, Tryz.func106, by kernel_rfl, by kernel_rfl, by kernel_rfl, by kernel_rfl⟩
theorem Qrg : Qj pg 107 75 [] (QbS 5) := ⟨Tryz.f107, Tryz.func107, by kernel_rfl, by kernel_rfl, by kernel_rfl, by kernel_rfl⟩
theorem QeM : QmJ pg 81 := Qvl Qrh QaQ QoB Qrg QrC (show Q4 Tryz.prog 99 = some (some 2) by kernel_rfl) (show Q4 Tryz.prog 99 = some (some 2) by kernel_rfl)
theorem QhV : Qj pg 131 13 [.tmp 2, .tmp 3] QaG := ⟨Tryz.f131, Tryz.func131, by kernel_rfl, by kernel_rfl, by kernel_rfl, by kernel_rfl⟩
theorem Qhq : QtT pg 131 := Qln QhV

end Go.Proofs.YtkilhchobbfjhabGreatDoor.encodeFiles

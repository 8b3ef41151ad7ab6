/- What the functions that the law reaches return in this program, part 2; no conditions. -/
import Derived.Test.YtkilhchobbfjhabGreatDoorEncodeFilesI1
set_option linter.unusedSectionVars false
set_option linter.unusedSimpArgs false
set_option linter.unusedVariables false
namespace Go.Proofs.YtkilhchobbfjhabGreatDoor.encodeFiles
open Go.Am Go.ChangeShapes Go.WideShapes Go.ChangeAt Go.RowKit

theorem JV : QgT pg 142 := Qqw QdN
theorem Qco : Qj pg 155 26 [.tmp 4] Qw := ⟨Tryz.f155, Tryz.func155, by kernel_rfl, by kernel_rfl, by kernel_rfl, by kernel_rfl⟩
theorem Qhx : QkG pg 155 := QlK Qco
theorem Qdf : Qj pg 154 12 [.tmp 2, .tmp 3] Xu := ⟨Tryz.f154, Tryz.func154, by kernel_rfl, by kernel_rfl, by kernel_rfl, by kernel_rfl⟩
theorem QiN : QgZ pg 154 := QnJ Qdf
theorem QdL : Qj pg 161 7 [.tmp 2] Q7 := ⟨Tryz.f161, Tryz.func161, by kernel_rfl, by kernel_rfl, by kernel_rfl, by kernel_rfl⟩
theorem Qk3 : Qg5 pg 161 := Qqu QdL
theorem QdM : Qj pg 162 7 [.tmp 2] Q8 := ⟨Tryz.f162, Tryz.func162, by kernel_rfl, by kernel_rfl, by kernel_rfl, by kernel_rfl⟩
theorem Qk4 : QtY pg 162 := Qqv QdM
theorem Qey : Qj pg 160 28 [.tmp 2] (Jb 142 131) := ⟨Tryz.f160, Tryz.func160, by kernel_rfl, by kernel_rfl, by kernel_rfl, by kernel_rfl⟩
theorem Qm1 : QtZ pg 160 := Qsk Qey JV
theorem QdK : Qj pg 156 28 [.tmp 2] (ZA 160 142 131) := ⟨Tryz.f156, Tryz.func156, by kernel_rfl, by kernel_rfl, by kernel_rfl, by kernel_rfl⟩
theorem Qk2 : QoK pg 156 := Qqt QdK Qm1 JV
theorem Qb4 : Qj pg 158 29 [.cell 4 131] (ZP 161 162 131) := ⟨Tryz.f158, Tryz.func158, by kernel_rfl, by kernel_rfl, by kernel_rfl, by kernel_rfl⟩
theorem Qf6 : Qfh pg 158 := Qjf Qb4 (show Q4 Tryz.prog 131 = some (some 33) by kernel_rfl) Qk3 Qk4
theorem Qcn : Qj pg 157 22 [.cell 4 131] (Z4 131) := ⟨Tryz.f157, Tryz.func157, by kernel_rfl, by kernel_rfl, by kernel_rfl, by kernel_rfl⟩
theorem Qhw : Qg3 pg 157 := QlJ Qcn (show Q4 Tryz.prog 131 = some (some 33) by kernel_rfl)
theorem QdJ : Qj pg 144 20 [.tmp 4, .cell 5 131] (XJ 156 142 158 157 131) := ⟨Tryz.f144, Tryz.func144, by kernel_rfl, by kernel_rfl, by kernel_rfl, by kernel_rfl⟩
theorem Qk1 : Qg2 pg 144 := Qqs QdJ (show Q4 Tryz.prog 131 = some (some 33) by kernel_rfl) Qk2 JV Qf6 Qhw
theorem Qcm : Qj pg 143 12 [.tmp 2] (Zi 155 133) := ⟨Tryz.f143, Tryz.func143, by kernel_rfl, by kernel_rfl, by kernel_rfl, by kernel_rfl⟩
theorem Qhv : QdX pg 143 := QlI Qcm Qhx
theorem QdG : Qj pg 119 28 [.tmp 4, .cell 5 133] (XG 143 142 144 133 131) := ⟨Tryz.f119, Tryz.func119, by kernel_rfl, by kernel_rfl, by kernel_rfl, by kernel_rfl⟩
theorem QkZ : Qg1 pg 119 := Qqp QdG (show Q4 Tryz.prog 133 = some (some 35) by kernel_rfl) Qhv JV Qk1
theorem Qez : Qj pg 141 22 [.cell 4 131, .tmp 5] (Jc 154 56 131) := ⟨Tryz.f141, Tryz.func141, by kernel_rfl, by kernel_rfl, by kernel_rfl, by kernel_rfl⟩
theorem Qm2 : QgU pg 141 := Qsl Qez (show Q4 Tryz.prog 131 = some (some 33) by kernel_rfl) QiN
theorem Qew : Qj pg 117 20 [.cell 4 133, .tmp 5] (X9 141 56 133 131) := ⟨Tryz.f117, Tryz.func117, by kernel_rfl, by kernel_rfl, by kernel_rfl, by kernel_rfl⟩
theorem QmZ : Qit pg 117 := Qsi Qew (show Q4 Tryz.prog 133 = some (some 35) by kernel_rfl) Qm2
theorem Qov : Qj pg 76 10 [.tmp 2] QaV := ⟨Tryz.f76, Tryz.func76, by kernel_rfl, by kernel_rfl, by kernel_rfl, by kernel_rfl⟩
theorem Qm6 : Qis pg 76 := Qs1 Qov
theorem QdR : Qj pg 120 13 [.tmp 2] ZB := ⟨Tryz.f120, Tryz.func120, by kernel_rfl, by kernel_rfl, by kernel_rfl, by kernel_rfl⟩
theorem Qk7 : Qis pg 120 := QqA QdR
theorem QaL : Qj pg 100 8 [.tmp 2] (Zc 21) := ⟨Tryz.f100, Tryz.func100, by kernel_rfl, by kernel_rfl, by kernel_rfl, by kernel_rfl⟩
theorem Qm8 : QkE 21 pg 100 := Qtq QaL
theorem QtK : Qj pg 101 39 [] Qff := ⟨Tryz.f101, Tryz.func101, by kernel_rfl, by kernel_rfl, by kernel_rfl, by kernel_rfl⟩
theorem Qrz : QwH pg 101 := Qwb QtK
theorem Qou : Qj pg 99 22 [.tmp 4] Xf := ⟨Tryz.f99, Tryz.func99, by kernel_rfl, by kernel_rfl, by kernel_rfl, by kernel_rfl⟩
theorem Qm5 : QcS pg 99 := QsI Qou
theorem Qde : Qj pg 139 19 [.tmp 4] QD := ⟨Tryz.f139, Tryz.func139, by kernel_rfl, by kernel_rfl, by kernel_rfl, by kernel_rfl⟩
theorem QiM : QcS pg 139 := QnI Qde
theorem QtL : Qj pg 73 32 [.tmp 4, .tmp 5] (Qfg 99 100 101) := ⟨Tryz.f73, Tryz.func73, by kernel_rfl, by kernel_rfl, by kernel_rfl, by kernel_rfl⟩
theorem QrA : QcR pg 73 := Qwc QtL Qm5 Qm8 Qrz
theorem Qdd : Qj pg 140 61 [.tmp 2] (Xt 142 21) := ⟨Tryz.f140, Tryz.func140, by kernel_rfl, by kernel_rfl, by kernel_rfl, by kernel_rfl⟩
theorem QiL : Qkp pg 140 := QnH Qdd JV
theorem Qex : Qj pg 116 32 [.tmp 4, .tmp 5] (Ja 139 140 21) := ⟨Tryz.f116, Tryz.func116, by kernel_rfl, by kernel_rfl, by kernel_rfl, by kernel_rfl⟩
theorem Qm0 : QcR pg 116 := Qsj Qex QiM QiL

end Go.Proofs.YtkilhchobbfjhabGreatDoor.encodeFiles

/- What the functions that the law reaches return in this program, part 4; no conditions. -/
import Derived.Test.YtapimafdnjankaaGreatDoorClipBackI3
set_option linter.unusedSectionVars false
set_option linter.unusedSimpArgs false
set_option linter.unusedVariables false
namespace Go.Proofs.YtapimafdnjankaaGreatDoor.clipBack
open Go.Am Go.ChangeShapes Go.WideShapes Go.ChangeAt Go.RowKit

theorem Qls : Qj pg 166 86 [.tmp 6, .tmp 7, .cell 8 131, .tmp 9] (Zr 154 155 92 218 159 135 131) := ⟨Tryz.f166, Tryz.func166, by kernel_rfl, by kernel_rfl, by kernel_rfl, by kernel_rfl⟩
theorem Qd5 : Qj pg 159 36 [] (ZZ 216 156) := ⟨Tryz.f159, Tryz.func159, by kernel_rfl, by kernel_rfl, by kernel_rfl, by kernel_rfl⟩
theorem Qck : Qj pg 216 58 [] Qo := ⟨Tryz.f216, Tryz.func216, by kernel_rfl, by kernel_rfl, by kernel_rfl, by kernel_rfl⟩
theorem Qkd : QlH pg 166 := QqI Qls Zb QdV QbL Qj8 Qd5 Qck Qbs (show ZB Tryz.prog 131 = some (some 4) by kernel_rfl)
theorem Xr : Qj pg 131 8 [.tmp 2] (QJ 5) := ⟨Tryz.f131, Tryz.func131, by kernel_rfl, by kernel_rfl, by kernel_rfl, by kernel_rfl⟩
theorem QfR : Jz pg 131 := QiK Xr
theorem Qrf : Qj pg 90 14 [.cell 2 135, .tmp 3] (QbY 131 135) := ⟨Tryz.f90, Tryz.func90, by kernel_rfl, by kernel_rfl, by kernel_rfl, by kernel_rfl⟩
theorem QoO : QuE pg 90 := Quw Qrf QfR (show ZB Tryz.prog 135 = some (some 2) by kernel_rfl)
theorem Qop : Qj pg 165 46 [.cell 6 135, .tmp 7] (QcD 154 167 213 135) := ⟨Tryz.f165, Tryz.func165, by kernel_rfl, by kernel_rfl, by kernel_rfl, by kernel_rfl⟩
theorem QgO : Qj pg 213 75 [] (JT 5) := ⟨Tryz.f213, Tryz.func213, by kernel_rfl, by kernel_rfl, by kernel_rfl, by kernel_rfl⟩
theorem Qng : QuI pg 165 := QsU Qop Zb Qgr QgO (show ZB Tryz.prog 135 = some (some 2) by kernel_rfl)
theorem Qep : Qj pg 89 46 [.tmp 2, .tmp 3] (Q5 83 164) := ⟨Tryz.f89, Tryz.func89, by kernel_rfl, by kernel_rfl, by kernel_rfl, by kernel_rfl⟩
theorem Qef : QhZ pg 89 := Qgc Qep QeU Qne
theorem Qeo : Qj pg 91 76 [.tmp 6, .tmp 7, .tmp 8] (XR 153 165 166 135 132 131 136) := ⟨Tryz.f91, Tryz.func91, by kernel_rfl, by kernel_rfl, by kernel_rfl, by kernel_rfl⟩
theorem Qee : QlG pg 91 := Qgb Qeo QdU Qng Qkd
theorem Qeq : Qj pg 24 87 [.tmp 8, .tmp 9] (QA 88 89 90 91 92 93 28 40 135) := ⟨Tryz.f24, Tryz.func24, by kernel_rfl, by kernel_rfl, by kernel_rfl, by kernel_rfl⟩
theorem Qeg : Qh8 pg 24 := Qgd Qeq JF Qef QoO Qee QbL Qdo
theorem QoL : QeM 5 pg 131 := Qus Xr
theorem Qon : Qj pg 157 44 [.cell 6 135, .tmp 7] (Qa9 154 212 213 135) := ⟨Tryz.f157, Tryz.func157, by kernel_rfl, by kernel_rfl, by kernel_rfl, by kernel_rfl⟩
theorem Qly : Qj pg 212 9 [.cell 2 135] (J7 131 135) := ⟨Tryz.f212, Tryz.func212, by kernel_rfl, by kernel_rfl, by kernel_rfl, by kernel_rfl⟩
theorem Qdp : QjS pg 157 := QsS Qon Zb Qly QgO QoL (show ZB Tryz.prog 135 = some (some 2) by kernel_rfl) (show ZB Tryz.prog 135 = some (some 2) by kernel_rfl)
theorem Qgi : Qj pg 245 13 [.tmp 2, .tmp 3] JR := ⟨Tryz.f245, Tryz.func245, by kernel_rfl, by kernel_rfl, by kernel_rfl, by kernel_rfl⟩
theorem QfQ : Qrl pg 245 := QiF Qgi
theorem QhF : Qj pg 215 32 [.cell 4 135, .tmp 5] (Qag 154 245 157 135) := ⟨Tryz.f215, Tryz.func215, by kernel_rfl, by kernel_rfl, by kernel_rfl, by kernel_rfl⟩
theorem QgV : QhV pg 215 := Qkj QhF Zb QfQ Qdp (show ZB Tryz.prog 135 = some (some 2) by kernel_rfl)
theorem QjD : Qj pg 158 57 [.cell 6 135, .tmp 7] (Jr 154 214 215 157 135) := ⟨Tryz.f158, Tryz.func158, by kernel_rfl, by kernel_rfl, by kernel_rfl, by kernel_rfl⟩
theorem Qir : QhY pg 158 := Qnv QjD Zb Qgq QgV Qdp (show ZB Tryz.prog 135 = some (some 2) by kernel_rfl)
theorem QjG : Qj pg 81 69 [.cell 6 135, .cell 7 131, .tmp 8] (Jt 154 155 156 157 158 159 135 131) := ⟨Tryz.f81, Tryz.func81, by kernel_rfl, by kernel_rfl, by kernel_rfl, by kernel_rfl⟩
theorem Qiy : Qh0 pg 81 := QnV QjG Zb QdV Qbs Qdp Qir Qd5 Qck Qbs (show ZB Tryz.prog 135 = some (some 2) by kernel_rfl) (show ZB Tryz.prog 131 = some (some 4) by kernel_rfl)
theorem Qel : Qj pg 80 11 [.cell 0 132] (XP 153 132) := ⟨Tryz.f80, Tryz.func80, by kernel_rfl, by kernel_rfl, by kernel_rfl, by kernel_rfl⟩
theorem Qec : Qdh pg 80 := Qf3 Qel QdU (show ZB Tryz.prog 132 = some (some 24) by kernel_rfl)
theorem Qad : Qj pg 85 36 [.tmp 2] (Q7 162 5) := ⟨Tryz.f85, Tryz.func85, by kernel_rfl, by kernel_rfl, by kernel_rfl, by kernel_rfl⟩
theorem growB : QfJ 5 pg 162 := grow_nil Tryz.growB rfl rfl (by kernel_rfl)
theorem QeP : Qh9 pg 85 := Qg8 Qad growB
theorem Qen : Qj pg 22 85 [.tmp 6, .tmp 7] (ZY 79 80 81 82 83 84 85 28 40 132 135 131 43) := ⟨Tryz.f22, Tryz.func22, by kernel_rfl, by kernel_rfl, by kernel_rfl, by kernel_rfl⟩
theorem QhL : Qj pg 82 64 [] (XV 135 5) := ⟨Tryz.f82, Tryz.func82, by kernel_rfl, by kernel_rfl, by kernel_rfl, by kernel_rfl⟩
theorem Qbe : QsZ pg 22 := Qf5 Qen Qed Qec Qiy QhL QeU Qnf QeP
theorem QdF : Qj pg 202 51 [.tmp 4, .tmp 5] Xy := ⟨Tryz.f202, Tryz.func202, by kernel_rfl, by kernel_rfl, by kernel_rfl, by kernel_rfl⟩
theorem Qix : Qos pg 202 := QnG QdF
theorem Qfx : Qj pg 145 30 [.tmp 4, .tmp 5] (Jf 201 202) := ⟨Tryz.f145, Tryz.func145, by kernel_rfl, by kernel_rfl, by kernel_rfl, by kernel_rfl⟩
theorem Qnc : Qos pg 145 := Qsk Qfx Qix
theorem QaX : Qj pg 75 48 [.tmp 4] (Zl 145 3) := ⟨Tryz.f75, Tryz.func75, by kernel_rfl, by kernel_rfl, by kernel_rfl, by kernel_rfl⟩
theorem Qd7 : QfG 3 pg 75 := QfV QaX Qnc
theorem QaY : Qj pg 146 36 [.tmp 2] (Zm 203 3) := ⟨Tryz.f146, Tryz.func146, by kernel_rfl, by kernel_rfl, by kernel_rfl, by kernel_rfl⟩
theorem growI : QgQ 3 pg 203 := grow_nilI Tryz.growI rfl rfl (by kernel_rfl)

end Go.Proofs.YtapimafdnjankaaGreatDoor.clipBack

/- What the functions that the law reaches return in this program, part 1; no conditions. -/
import Derived.Test.YtkilhchobbfjhabGreatDoorRows
import Derived.Test.YtkilhchobbfjhabGreatDoorEncodeFilesY1
set_option linter.unusedSectionVars false
set_option linter.unusedSimpArgs false
set_option linter.unusedVariables false
namespace Go.Proofs.YtkilhchobbfjhabGreatDoor.encodeFiles
open Go.Am Go.ChangeShapes Go.WideShapes Go.ChangeAt Go.RowKit

noncomputable def pg : Prg := ⟨Tryz.prog, [(0, [.int .i64 2, .int .i64 2, .int .i64 2, .int .i64 4, .int .i64 4])], fun g cs h => by
  simp only [List.lookup] at h
  repeat (first | (cases h; done) | (split at h; first | (cases h; rfl) | skip))⟩

theorem QjO : Qj pg 67 18 [.tmp 2, .tmp 3, .tmp 4] ZX := ⟨Tryz.f67, Tryz.func67, by kernel_rfl, by kernel_rfl, by kernel_rfl, by kernel_rfl⟩
theorem Qd1 : Qko pg 67 := QmT QjO
theorem QdH : Qj pg 86 10 [.tmp 2] XH := ⟨Tryz.f86, Tryz.func86, by kernel_rfl, by kernel_rfl, by kernel_rfl, by kernel_rfl⟩
theorem Qfp : QpR pg 86 := Qqq QdH
theorem QjP : Qj pg 41 37 [.tmp 4] (Qa6 67) := ⟨Tryz.f41, Tryz.func41, by kernel_rfl, by kernel_rfl, by kernel_rfl, by kernel_rfl⟩
theorem Qd2 : QbU pg 41 := QmU QjP Qd1
theorem Qdc : Qj pg 56 37 [.tmp 4] (Xs 86) := ⟨Tryz.f56, Tryz.func56, by kernel_rfl, by kernel_rfl, by kernel_rfl, by kernel_rfl⟩
theorem QiK : QbU pg 56 := QnG Qdc Qfp
theorem QhX : Qj pg 69 14 [.tmp 2, .tmp 3] Xg := ⟨Tryz.f69, Tryz.func69, by kernel_rfl, by kernel_rfl, by kernel_rfl, by kernel_rfl⟩
theorem Qdj : QbV pg 69 := QlV QhX
theorem QdF : Qj pg 111 17 [.tmp 2, .tmp 3] Q6 := ⟨Tryz.f111, Tryz.func111, by kernel_rfl, by kernel_rfl, by kernel_rfl, by kernel_rfl⟩
theorem QkY : QbV pg 111 := Qqo QdF
theorem QgO : Qj pg 65 25 [.tmp 2] (Qab 67 64) := ⟨Tryz.f65, Tryz.func65, by kernel_rfl, by kernel_rfl, by kernel_rfl, by kernel_rfl⟩
theorem Qca : Qa0 pg 65 := Qjv QgO Qd1
theorem Qc9 : Qj pg 55 17 [.tmp 2] (Q1 86 64) := ⟨Tryz.f55, Tryz.func55, by kernel_rfl, by kernel_rfl, by kernel_rfl, by kernel_rfl⟩
theorem Qd4 : Qa0 pg 55 := QnD Qc9 Qfp
theorem Qre : Qj pg 102 18 [.cell 4 131, .tmp 5] (JK 56 131) := ⟨Tryz.f102, Tryz.func102, by kernel_rfl, by kernel_rfl, by kernel_rfl, by kernel_rfl⟩
theorem Qh4 : QgU pg 102 := Quq Qre (show Q4 Tryz.prog 131 = some (some 33) by kernel_rfl)
theorem Qmu : Qj pg 147 11 [.tmp 2] (Js 131) := ⟨Tryz.f147, Tryz.func147, by kernel_rfl, by kernel_rfl, by kernel_rfl, by kernel_rfl⟩
theorem Qb9 : QeJ pg 147 := Qp5 Qmu
theorem Qmt : Qj pg 128 36 [.tmp 2, .tmp 3] (QbL 147 131) := ⟨Tryz.f128, Tryz.func128, by kernel_rfl, by kernel_rfl, by kernel_rfl, by kernel_rfl⟩
theorem QkQ : Qkk pg 128 := Qp4 Qmt Qb9
theorem Qor : Qj pg 159 9 [.tmp 2] J0 := ⟨Tryz.f159, Tryz.func159, by kernel_rfl, by kernel_rfl, by kernel_rfl, by kernel_rfl⟩
theorem QmV : Qki pg 159 := QrL Qor
theorem Qms : Qj pg 148 53 [.cell 4 131, .tmp 5] (QbK 147 159 131) := ⟨Tryz.f148, Tryz.func148, by kernel_rfl, by kernel_rfl, by kernel_rfl, by kernel_rfl⟩
theorem QkP : Qkj pg 148 := Qp3 Qms (show Q4 Tryz.prog 131 = some (some 33) by kernel_rfl) Qb9 QmV
theorem Qos : Qj pg 149 22 [.cell 4 131, .tmp 5] (Qcs 147 131) := ⟨Tryz.f149, Tryz.func149, by kernel_rfl, by kernel_rfl, by kernel_rfl, by kernel_rfl⟩
theorem QmW : QoI pg 149 := QrM Qos (show Q4 Tryz.prog 131 = some (some 33) by kernel_rfl) Qb9
theorem Qmw : Qj pg 129 20 [.cell 6 131] (QbM 148 149 131) := ⟨Tryz.f129, Tryz.func129, by kernel_rfl, by kernel_rfl, by kernel_rfl, by kernel_rfl⟩
theorem Qle : Qha pg 129 := QqI Qmw (show Q4 Tryz.prog 131 = some (some 33) by kernel_rfl) QkP QmW
theorem QjT : Qj pg 105 27 [.tmp 4, .cell 5 131, .tmp 6] (Qa8 128 129 131) := ⟨Tryz.f105, Tryz.func105, by kernel_rfl, by kernel_rfl, by kernel_rfl, by kernel_rfl⟩
theorem QiP : Qfj pg 105 := QnP QjT (show Q4 Tryz.prog 131 = some (some 33) by kernel_rfl) QkQ Qle
theorem QjY : Qj pg 126 10 [.tmp 2, .tmp 3] X2 := ⟨Tryz.f126, Tryz.func126, by kernel_rfl, by kernel_rfl, by kernel_rfl, by kernel_rfl⟩
theorem QiU : Qkz pg 126 := Qn0 QjY
theorem QjX : Qj pg 127 16 [.tmp 4] JS := ⟨Tryz.f127, Tryz.func127, by kernel_rfl, by kernel_rfl, by kernel_rfl, by kernel_rfl⟩
theorem QiT : Qky pg 127 := QnZ QjX
theorem QjZ : Qj pg 104 19 [.tmp 4, .tmp 5] (Qba 126 127) := ⟨Tryz.f104, Tryz.func104, by kernel_rfl, by kernel_rfl, by kernel_rfl, by kernel_rfl⟩
theorem QiV : QkA pg 104 := Qn1 QjZ QiU QiT
theorem QoA : Qj pg 74 21 [.cell 4 133, .tmp 5] (Qcv 102 56 133 131) := ⟨Tryz.f74, Tryz.func74, by kernel_rfl, by kernel_rfl, by kernel_rfl, by kernel_rfl⟩
theorem Qna : Qit pg 74 := Qtv QoA (show Q4 Tryz.prog 133 = some (some 35) by kernel_rfl) Qh4
theorem Qj7 : Qj pg 103 24 [.tmp 2] (Qbg 102 133 131) := ⟨Tryz.f103, Tryz.func103, by kernel_rfl, by kernel_rfl, by kernel_rfl, by kernel_rfl⟩
theorem Qi3 : QkF pg 103 := Qom Qj7 Qh4
theorem QgQ : Qj pg 75 44 [.tmp 4, .cell 5 133, .tmp 6] (Qad 103 104 105 133 131) := ⟨Tryz.f75, Tryz.func75, by kernel_rfl, by kernel_rfl, by kernel_rfl, by kernel_rfl⟩
theorem Qgc : Qfm pg 75 := QjM QgQ (show Q4 Tryz.prog 133 = some (some 35) by kernel_rfl) Qi3 QiV QiP
theorem QdN : Qj pg 142 7 [.tmp 2] XL := ⟨Tryz.f142, Tryz.func142, by kernel_rfl, by kernel_rfl, by kernel_rfl, by kernel_rfl⟩

end Go.Proofs.YtkilhchobbfjhabGreatDoor.encodeFiles

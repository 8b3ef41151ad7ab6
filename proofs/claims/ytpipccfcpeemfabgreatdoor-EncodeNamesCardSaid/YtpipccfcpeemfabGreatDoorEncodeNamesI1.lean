/- What the functions that the law reaches return in this program, part 1; no conditions. -/
import Derived.Test.YtpipccfcpeemfabGreatDoorRows
import Derived.Test.YtpipccfcpeemfabGreatDoorEncodeNamesY1
set_option linter.unusedSectionVars false
set_option linter.unusedSimpArgs false
set_option linter.unusedVariables false
namespace Go.Proofs.YtpipccfcpeemfabGreatDoor.encodeNames
open Go.Am Go.ChangeShapes Go.WideShapes Go.ChangeAt Go.RowKit

noncomputable def pg : Prg := ⟨Tryz.prog, [(1, [.int .i64 2, .int .i64 2, .int .i64 4, .int .i64 4, .int .i64 2, .int .i64 2, .int .i64 2, .int .i64 2, .int .i64 4]), (2, [.int .u8 1, .int .u8 0, .int .u8 0, .int .u8 0, .int .u8 0, .int .u8 0, .int .u8 16, .int .u8 0, .int .u8 128, .int .u8 0, .int .u8 0, .int .u8 170, .int .u8 0, .int .u8 56, .int .u8 155, .int .u8 113]), (0, [.int .i64 2, .int .i64 2, .int .i64 2, .int .i64 4, .int .i64 4])], fun g cs h => by
  simp only [List.lookup] at h
  repeat (first | (cases h; done) | (split at h; first | (cases h; rfl) | skip))⟩

theorem QpO : Body pg 101 31 [.tmp 2, .tmp 3] Qc3 := ⟨Tryz.f101, Tryz.func101, by kernel_rfl, by kernel_rfl, by kernel_rfl, by kernel_rfl⟩
theorem QoH : Qec pg 101 := QtI QpO
theorem Qv3 : Body pg 68 33 [.tmp 6, .tmp 7] (Qe8 101) := ⟨Tryz.f68, Tryz.func68, by kernel_rfl, by kernel_rfl, by kernel_rfl, by kernel_rfl⟩
theorem QlI : Qf4 pg 68 := Qxk Qv3 QoH
theorem QiF : Body pg 69 22 [.tmp 2] Qax := ⟨Tryz.f69, Tryz.func69, by kernel_rfl, by kernel_rfl, by kernel_rfl, by kernel_rfl⟩
theorem Jq : Qco pg 69 := Ql2 QiF
theorem QiX : Body pg 102 8 [.tmp 2] (X3 5) := ⟨Tryz.f102, Tryz.func102, by kernel_rfl, by kernel_rfl, by kernel_rfl, by kernel_rfl⟩
theorem QhW : Qbp pg 102 := Qm4 QiX
theorem Qnb : Body pg 70 62 [.cell 2 59, .tmp 3, .tmp 4] (Qag 69 68 102 59) := ⟨Tryz.f70, Tryz.func70, by kernel_rfl, by kernel_rfl, by kernel_rfl, by kernel_rfl⟩
theorem QlD : Qc4 pg 70 := QqQ Qnb (show Z5 Tryz.prog 59 = some (some 2) by kernel_rfl) Jq QlI QhW
theorem Qnc : Body pg 37 80 [.tmp 2, .tmp 3, .tmp 4] (Qah 68 69 70 59) := ⟨Tryz.f37, Tryz.func37, by kernel_rfl, by kernel_rfl, by kernel_rfl, by kernel_rfl⟩
theorem QlE : Qsw pg 37 := QqR Qnc QlI Jq QlD
theorem Qiz : Body pg 74 18 [.tmp 2, .tmp 3, .tmp 4] Zy := ⟨Tryz.f74, Tryz.func74, by kernel_rfl, by kernel_rfl, by kernel_rfl, by kernel_rfl⟩
theorem QaY : Qga pg 74 := Qlt Qiz
theorem QcZ : Body pg 81 10 [.tmp 2] Z4 := ⟨Tryz.f81, Tryz.func81, by kernel_rfl, by kernel_rfl, by kernel_rfl, by kernel_rfl⟩
theorem Qek : Qox pg 81 := Qo3 QcZ
theorem QiA : Body pg 42 37 [.tmp 4] (Qav 74) := ⟨Tryz.f42, Tryz.func42, by kernel_rfl, by kernel_rfl, by kernel_rfl, by kernel_rfl⟩
theorem QaZ : Qan pg 42 := Qlu QiA QaY
theorem Qcx : Body pg 52 37 [.tmp 4] (ZU 81) := ⟨Tryz.f52, Tryz.func52, by kernel_rfl, by kernel_rfl, by kernel_rfl, by kernel_rfl⟩
theorem QhF : Qan pg 52 := Qme Qcx Qek
theorem QgV : Body pg 84 14 [.tmp 2, .tmp 3] ZO := ⟨Tryz.f84, Tryz.func84, by kernel_rfl, by kernel_rfl, by kernel_rfl, by kernel_rfl⟩
theorem QcB : Qbq pg 84 := Qkk QgV
theorem QcY : Body pg 108 17 [.tmp 2, .tmp 3] QV := ⟨Tryz.f108, Tryz.func108, by kernel_rfl, by kernel_rfl, by kernel_rfl, by kernel_rfl⟩
theorem QjK : Qbq pg 108 := Qo2 QcY
theorem Qf0 : Body pg 75 25 [.tmp 2] (Jj 74 63) := ⟨Tryz.f75, Tryz.func75, by kernel_rfl, by kernel_rfl, by kernel_rfl, by kernel_rfl⟩
theorem QbI : Qao pg 75 := Qim Qf0 QaY
theorem Qcv : Body pg 51 17 [.tmp 2] (QT 81 63) := ⟨Tryz.f51, Tryz.func51, by kernel_rfl, by kernel_rfl, by kernel_rfl, by kernel_rfl⟩
theorem Qc9 : Qao pg 51 := Qmc Qcv Qek
theorem QpN : Body pg 116 18 [.cell 4 164, .tmp 5] (XQ 66 164) := ⟨Tryz.f116, Tryz.func116, by kernel_rfl, by kernel_rfl, by kernel_rfl, by kernel_rfl⟩
theorem Qg4 : Qov pg 116 := Qs4 QpN (show Z5 Tryz.prog 164 = some (some 33) by kernel_rfl)
theorem Qk2 : Body pg 135 11 [.tmp 2] (Xv 164) := ⟨Tryz.f135, Tryz.func135, by kernel_rfl, by kernel_rfl, by kernel_rfl, by kernel_rfl⟩
theorem QbG : QdG pg 135 := QoN Qk2
theorem Qk1 : Body pg 131 36 [.tmp 2, .tmp 3] (Qbf 135 164) := ⟨Tryz.f131, Tryz.func131, by kernel_rfl, by kernel_rfl, by kernel_rfl, by kernel_rfl⟩
theorem QjE : Qi9 pg 131 := QoM Qk1 QbG
theorem Qm7 : Body pg 138 9 [.tmp 2] X7 := ⟨Tryz.f138, Tryz.func138, by kernel_rfl, by kernel_rfl, by kernel_rfl, by kernel_rfl⟩
theorem QlA : Qns pg 138 := Qqk Qm7
theorem Qk0 : Body pg 136 53 [.cell 4 164, .tmp 5] (Qbe 135 138 164) := ⟨Tryz.f136, Tryz.func136, by kernel_rfl, by kernel_rfl, by kernel_rfl, by kernel_rfl⟩
theorem QjD : Qi8 pg 136 := QoL Qk0 (show Z5 Tryz.prog 164 = some (some 33) by kernel_rfl) QbG QlA
theorem Qm8 : Body pg 137 22 [.cell 4 164, .tmp 5] (Qb2 135 164) := ⟨Tryz.f137, Tryz.func137, by kernel_rfl, by kernel_rfl, by kernel_rfl, by kernel_rfl⟩
theorem QlB : Qnt pg 137 := Qql Qm8 (show Z5 Tryz.prog 164 = some (some 33) by kernel_rfl) QbG
theorem Qk6 : Body pg 132 20 [.cell 6 164] (Qbh 136 137 164) := ⟨Tryz.f132, Tryz.func132, by kernel_rfl, by kernel_rfl, by kernel_rfl, by kernel_rfl⟩
theorem QjM : Qgf pg 132 := Qpa Qk6 (show Z5 Tryz.prog 164 = some (some 33) by kernel_rfl) QjD QlB
theorem QiH : Body pg 119 27 [.tmp 4, .cell 5 164, .tmp 6] (Qaz 131 132 164) := ⟨Tryz.f119, Tryz.func119, by kernel_rfl, by kernel_rfl, by kernel_rfl, by kernel_rfl⟩
theorem QhG : Qee pg 119 := Qmm QiH (show Z5 Tryz.prog 164 = some (some 33) by kernel_rfl) QjE QjM
theorem QiM : Body pg 129 10 [.tmp 2, .tmp 3] Xb := ⟨Tryz.f129, Tryz.func129, by kernel_rfl, by kernel_rfl, by kernel_rfl, by kernel_rfl⟩

end Go.Proofs.YtpipccfcpeemfabGreatDoor.encodeNames

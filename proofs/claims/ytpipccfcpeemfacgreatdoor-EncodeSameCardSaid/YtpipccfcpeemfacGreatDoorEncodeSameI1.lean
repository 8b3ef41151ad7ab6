/- What the functions that the law reaches return in this program, part 1; no conditions. -/
import Derived.Test.YtpipccfcpeemfacGreatDoorRows
import Derived.Test.YtpipccfcpeemfacGreatDoorEncodeSameY1
set_option linter.unusedSectionVars false
set_option linter.unusedSimpArgs false
set_option linter.unusedVariables false
namespace Go.Proofs.YtpipccfcpeemfacGreatDoor.encodeSame
open Go.Am Go.ChangeShapes Go.WideShapes Go.ChangeAt Go.RowKit

noncomputable def pg : Prg := ⟨Tryz.prog, [(1, [.int .i64 2, .int .i64 2, .int .i64 4, .int .i64 4, .int .i64 2, .int .i64 2, .int .i64 2, .int .i64 2, .int .i64 4]), (2, [.int .u8 1, .int .u8 0, .int .u8 0, .int .u8 0, .int .u8 0, .int .u8 0, .int .u8 16, .int .u8 0, .int .u8 128, .int .u8 0, .int .u8 0, .int .u8 170, .int .u8 0, .int .u8 56, .int .u8 155, .int .u8 113]), (0, [.int .i64 2, .int .i64 2, .int .i64 2, .int .i64 4, .int .i64 4])], fun g cs h => by
  simp only [List.lookup] at h
  repeat (first | (cases h; done) | (split at h; first | (cases h; rfl) | skip))⟩

theorem Qp5 : Body pg 107 31 [.tmp 2, .tmp 3] Qc4 := ⟨Tryz.f107, Tryz.func107, by kernel_rfl, by kernel_rfl, by kernel_rfl, by kernel_rfl⟩
theorem QoY : Qed pg 107 := Qt7 Qp5
theorem Qwn : Body pg 80 33 [.tmp 6, .tmp 7] (Qfa 107) := ⟨Tryz.f80, Tryz.func80, by kernel_rfl, by kernel_rfl, by kernel_rfl, by kernel_rfl⟩
theorem QlW : Qf8 pg 80 := QxU Qwn QoY
theorem QiP : Body pg 75 22 [.tmp 2] Qay := ⟨Tryz.f75, Tryz.func75, by kernel_rfl, by kernel_rfl, by kernel_rfl, by kernel_rfl⟩
theorem Js : Qcq pg 75 := Qmi QiP
theorem Qi7 : Body pg 108 8 [.tmp 2] (X4 5) := ⟨Tryz.f108, Tryz.func108, by kernel_rfl, by kernel_rfl, by kernel_rfl, by kernel_rfl⟩
theorem Qh2 : Qbr pg 108 := Qnk Qi7
theorem Qnr : Body pg 81 62 [.cell 2 64, .tmp 3, .tmp 4] (Qah 75 80 108 64) := ⟨Tryz.f81, Tryz.func81, by kernel_rfl, by kernel_rfl, by kernel_rfl, by kernel_rfl⟩
theorem QlR : Qc5 pg 81 := Qq9 Qnr (show Z6 Tryz.prog 64 = some (some 2) by kernel_rfl) Js QlW Qh2
theorem Qns : Body pg 52 80 [.tmp 2, .tmp 3, .tmp 4] (Qai 80 75 81 64) := ⟨Tryz.f52, Tryz.func52, by kernel_rfl, by kernel_rfl, by kernel_rfl, by kernel_rfl⟩
theorem QlS : QsR pg 52 := Qra Qns QlW Js QlR
theorem QiJ : Body pg 73 18 [.tmp 2, .tmp 3, .tmp 4] Zy := ⟨Tryz.f73, Tryz.func73, by kernel_rfl, by kernel_rfl, by kernel_rfl, by kernel_rfl⟩
theorem QaY : Qge pg 73 := QlH QiJ
theorem Qc0 : Body pg 69 10 [.tmp 2] Z5 := ⟨Tryz.f69, Tryz.func69, by kernel_rfl, by kernel_rfl, by kernel_rfl, by kernel_rfl⟩
theorem Qel : QoP pg 69 := Qpk Qc0
theorem QiK : Body pg 43 37 [.tmp 4] (Qaw 73) := ⟨Tryz.f43, Tryz.func43, by kernel_rfl, by kernel_rfl, by kernel_rfl, by kernel_rfl⟩
theorem QaZ : Qao pg 43 := QlI QiK QaY
theorem QcA : Body pg 39 37 [.tmp 4] (ZV 69) := ⟨Tryz.f39, Tryz.func39, by kernel_rfl, by kernel_rfl, by kernel_rfl, by kernel_rfl⟩
theorem QhL : Qao pg 39 := Qmu QcA Qel
theorem QgY : Body pg 85 14 [.tmp 2, .tmp 3] ZP := ⟨Tryz.f85, Tryz.func85, by kernel_rfl, by kernel_rfl, by kernel_rfl, by kernel_rfl⟩
theorem QcE : Qbs pg 85 := Qkw QgY
theorem QcZ : Body pg 102 17 [.tmp 2, .tmp 3] QX := ⟨Tryz.f102, Tryz.func102, by kernel_rfl, by kernel_rfl, by kernel_rfl, by kernel_rfl⟩
theorem QjW : Qbs pg 102 := Qpj QcZ
theorem Qf4 : Body pg 71 25 [.tmp 2] (Jm 73 54) := ⟨Tryz.f71, Tryz.func71, by kernel_rfl, by kernel_rfl, by kernel_rfl, by kernel_rfl⟩
theorem QbL : Qap pg 71 := Qiv Qf4 QaY
theorem Qcy : Body pg 38 17 [.tmp 2] (QV 69 54) := ⟨Tryz.f38, Tryz.func38, by kernel_rfl, by kernel_rfl, by kernel_rfl, by kernel_rfl⟩
theorem Qda : Qap pg 38 := Qms Qcy Qel
theorem Qp4 : Body pg 117 18 [.cell 4 166, .tmp 5] (XR 68 166) := ⟨Tryz.f117, Tryz.func117, by kernel_rfl, by kernel_rfl, by kernel_rfl, by kernel_rfl⟩
theorem Qg7 : QoN pg 117 := Qtt Qp4 (show Z6 Tryz.prog 166 = some (some 33) by kernel_rfl)
theorem Qlf : Body pg 136 11 [.tmp 2] (Xw 166) := ⟨Tryz.f136, Tryz.func136, by kernel_rfl, by kernel_rfl, by kernel_rfl, by kernel_rfl⟩
theorem QbK : QdJ pg 136 := Qo4 Qlf
theorem Qle : Body pg 132 36 [.tmp 2, .tmp 3] (Qbh 136 166) := ⟨Tryz.f132, Tryz.func132, by kernel_rfl, by kernel_rfl, by kernel_rfl, by kernel_rfl⟩
theorem QjQ : Qjj pg 132 := Qo3 Qle QbK
theorem Qnn : Body pg 139 9 [.tmp 2] X8 := ⟨Tryz.f139, Tryz.func139, by kernel_rfl, by kernel_rfl, by kernel_rfl, by kernel_rfl⟩
theorem QlO : QnI pg 139 := QqB Qnn
theorem Qld : Body pg 137 53 [.cell 4 166, .tmp 5] (Qbg 136 139 166) := ⟨Tryz.f137, Tryz.func137, by kernel_rfl, by kernel_rfl, by kernel_rfl, by kernel_rfl⟩
theorem QjP : Qji pg 137 := Qo2 Qld (show Z6 Tryz.prog 166 = some (some 33) by kernel_rfl) QbK QlO
theorem Qno : Body pg 138 22 [.cell 4 166, .tmp 5] (Qb3 136 166) := ⟨Tryz.f138, Tryz.func138, by kernel_rfl, by kernel_rfl, by kernel_rfl, by kernel_rfl⟩
theorem QlP : QnJ pg 138 := QqC Qno (show Z6 Tryz.prog 166 = some (some 33) by kernel_rfl) QbK
theorem Qlj : Body pg 133 20 [.cell 6 166] (Qbj 137 138 166) := ⟨Tryz.f133, Tryz.func133, by kernel_rfl, by kernel_rfl, by kernel_rfl, by kernel_rfl⟩
theorem QjY : Qgk pg 133 := Qpr Qlj (show Z6 Tryz.prog 166 = some (some 33) by kernel_rfl) QjP QlP
theorem QiR : Body pg 120 27 [.tmp 4, .cell 5 166, .tmp 6] (QaA 132 133 166) := ⟨Tryz.f120, Tryz.func120, by kernel_rfl, by kernel_rfl, by kernel_rfl, by kernel_rfl⟩
theorem QhM : Qef pg 120 := QmC QiR (show Z6 Tryz.prog 166 = some (some 33) by kernel_rfl) QjQ QjY
theorem QiW : Body pg 130 10 [.tmp 2, .tmp 3] Xc := ⟨Tryz.f130, Tryz.func130, by kernel_rfl, by kernel_rfl, by kernel_rfl, by kernel_rfl⟩

end Go.Proofs.YtpipccfcpeemfacGreatDoor.encodeSame

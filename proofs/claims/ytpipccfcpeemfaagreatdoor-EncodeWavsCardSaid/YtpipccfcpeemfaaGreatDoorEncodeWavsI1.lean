/- What the functions that the law reaches return in this program, part 1; no conditions. -/
import Derived.Test.YtpipccfcpeemfaaGreatDoorRows
import Derived.Test.YtpipccfcpeemfaaGreatDoorEncodeWavsY1
set_option linter.unusedSectionVars false
set_option linter.unusedSimpArgs false
set_option linter.unusedVariables false
namespace Go.Proofs.YtpipccfcpeemfaaGreatDoor.encodeWavs
open Go.Am Go.ChangeShapes Go.WideShapes Go.ChangeAt Go.RowKit

noncomputable def pg : Prg := ⟨Tryz.prog, [(0, [.int .i64 2, .int .i64 2, .int .i64 4, .int .i64 4, .int .i64 2, .int .i64 2, .int .i64 2, .int .i64 2, .int .i64 4]), (2, [.int .u8 1, .int .u8 0, .int .u8 0, .int .u8 0, .int .u8 0, .int .u8 0, .int .u8 16, .int .u8 0, .int .u8 128, .int .u8 0, .int .u8 0, .int .u8 170, .int .u8 0, .int .u8 56, .int .u8 155, .int .u8 113]), (1, [.int .i64 2, .int .i64 2, .int .i64 2, .int .i64 4, .int .i64 4])], fun g cs h => by
  simp only [List.lookup] at h
  repeat (first | (cases h; done) | (split at h; first | (cases h; rfl) | skip))⟩

theorem Quv : Qf pg 63 31 [.tmp 2, .tmp 3] Qfk := ⟨Tryz.f63, Tryz.func63, by kernel_rfl, by kernel_rfl, by kernel_rfl, by kernel_rfl⟩
theorem Qs8 : QgO pg 63 := QyJ Quv
theorem QAH : Qf pg 29 33 [.tmp 6, .tmp 7] (QhI 63) := ⟨Tryz.f29, Tryz.func29, by kernel_rfl, by kernel_rfl, by kernel_rfl, by kernel_rfl⟩
theorem QpM : QiM pg 29 := QB9 QAH Qs8
theorem QgK : Qf pg 49 21 [.tmp 2] J6 := ⟨Tryz.f49, Tryz.func49, by kernel_rfl, by kernel_rfl, by kernel_rfl, by kernel_rfl⟩
theorem Qj5 : QdW pg 49 := Qyw QgK
theorem Qmb : Qf pg 30 22 [.tmp 2] QbY := ⟨Tryz.f30, Tryz.func30, by kernel_rfl, by kernel_rfl, by kernel_rfl, by kernel_rfl⟩
theorem Qfs : QcR pg 30 := Qp8 Qmb
theorem QeW : Qf pg 50 23 [.tmp 2] X8 := ⟨Tryz.f50, Tryz.func50, by kernel_rfl, by kernel_rfl, by kernel_rfl, by kernel_rfl⟩
theorem Qnk : QcR pg 50 := Qtv QeW
theorem Qms : Qf pg 64 8 [.tmp 2] (Qas 5) := ⟨Tryz.f64, Tryz.func64, by kernel_rfl, by kernel_rfl, by kernel_rfl, by kernel_rfl⟩
theorem Qli : QcS pg 64 := Qrh Qms
theorem Qrl : Qf pg 31 62 [.cell 2 48, .tmp 3, .tmp 4] (QbH 30 29 64 48) := ⟨Tryz.f31, Tryz.func31, by kernel_rfl, by kernel_rfl, by kernel_rfl, by kernel_rfl⟩
theorem QpA : Qfl pg 31 := Qvw Qrl (show Q6 Tryz.prog 48 = some (some 2) by kernel_rfl) Qfs QpM Qli
theorem Qrm : Qf pg 10 80 [.tmp 2, .tmp 3, .tmp 4] (QbI 29 30 31 48) := ⟨Tryz.f10, Tryz.func10, by kernel_rfl, by kernel_rfl, by kernel_rfl, by kernel_rfl⟩
theorem QpB : Qkz pg 10 := Qvx Qrm QpM Qfs QpA
theorem QeV : Qf pg 23 130 [.tmp 2, .tmp 3, .tmp 4] (ZJ 49 50 5 48) := ⟨Tryz.f23, Tryz.func23, by kernel_rfl, by kernel_rfl, by kernel_rfl, by kernel_rfl⟩
theorem Qnj : Qkz pg 23 := Qtu QeV Qj5 Qnk
theorem Ql6 : Qf pg 36 18 [.tmp 2, .tmp 3, .tmp 4] Xb := ⟨Tryz.f36, Tryz.func36, by kernel_rfl, by kernel_rfl, by kernel_rfl, by kernel_rfl⟩
theorem Qcq : QiV pg 36 := Qpv Ql6
theorem Qe2 : Qf pg 54 10 [.tmp 2] Jc := ⟨Tryz.f54, Tryz.func54, by kernel_rfl, by kernel_rfl, by kernel_rfl, by kernel_rfl⟩
theorem Qdc : Qpl pg 54 := QtB Qe2
theorem Ql7 : Qf pg 38 37 [.tmp 4] (QbW 36) := ⟨Tryz.f38, Tryz.func38, by kernel_rfl, by kernel_rfl, by kernel_rfl, by kernel_rfl⟩
theorem Qfr : QcT pg 38 := Qpw Ql7 Qcq
theorem Qeq : Qf pg 85 37 [.tmp 4] (XT 54) := ⟨Tryz.f85, Tryz.func85, by kernel_rfl, by kernel_rfl, by kernel_rfl, by kernel_rfl⟩
theorem QkW : QcT pg 85 := Qqs Qeq Qdc
theorem QjW : Qf pg 93 14 [.tmp 2, .tmp 3] XD := ⟨Tryz.f93, Tryz.func93, by kernel_rfl, by kernel_rfl, by kernel_rfl, by kernel_rfl⟩
theorem Qex : QcU pg 93 := Qot QjW
theorem Qe0 : Qf pg 135 17 [.tmp 2, .tmp 3] Zf := ⟨Tryz.f135, Tryz.func135, by kernel_rfl, by kernel_rfl, by kernel_rfl, by kernel_rfl⟩
theorem Qno : QcU pg 135 := Qtz Qe0
theorem QiH : Qf pg 67 25 [.tmp 2] (QaP 36 99) := ⟨Tryz.f67, Tryz.func67, by kernel_rfl, by kernel_rfl, by kernel_rfl, by kernel_rfl⟩
theorem Qdd : QbO pg 67 := QlO QiH Qcq
theorem Qen : Qf pg 84 17 [.tmp 2] (Za 54 99) := ⟨Tryz.f84, Tryz.func84, by kernel_rfl, by kernel_rfl, by kernel_rfl, by kernel_rfl⟩
theorem Qfw : QbO pg 84 := Qqp Qen Qdc
theorem Quu : Qf pg 126 18 [.cell 4 169, .tmp 5] (Qai 91 169) := ⟨Tryz.f126, Tryz.func126, by kernel_rfl, by kernel_rfl, by kernel_rfl, by kernel_rfl⟩
theorem Qj4 : QiO pg 126 := Qx5 Quu (show Q6 Tryz.prog 169 = some (some 33) by kernel_rfl)
theorem Qo4 : Qf pg 171 11 [.tmp 2] (JW 169) := ⟨Tryz.f171, Tryz.func171, by kernel_rfl, by kernel_rfl, by kernel_rfl, by kernel_rfl⟩
theorem Qdb : Qgd pg 171 := Qte Qo4
theorem Qo3 : Qf pg 152 36 [.tmp 2, .tmp 3] (QcI 171 169) := ⟨Tryz.f152, Tryz.func152, by kernel_rfl, by kernel_rfl, by kernel_rfl, by kernel_rfl⟩
theorem Qnd : QmF pg 152 := Qtd Qo3 Qdb
theorem Qri : Qf pg 183 9 [.tmp 2] QaB := ⟨Tryz.f183, Tryz.func183, by kernel_rfl, by kernel_rfl, by kernel_rfl, by kernel_rfl⟩
theorem Qpx : QmD pg 183 := Qu1 Qri
theorem Qo2 : Qf pg 172 53 [.cell 4 169, .tmp 5] (QcH 171 183 169) := ⟨Tryz.f172, Tryz.func172, by kernel_rfl, by kernel_rfl, by kernel_rfl, by kernel_rfl⟩
theorem Qnc : QmE pg 172 := Qtc Qo2 (show Q6 Tryz.prog 169 = some (some 33) by kernel_rfl) Qdb Qpx
theorem Qrj : Qf pg 173 22 [.cell 4 169, .tmp 5] (Qdz 171 169) := ⟨Tryz.f173, Tryz.func173, by kernel_rfl, by kernel_rfl, by kernel_rfl, by kernel_rfl⟩

end Go.Proofs.YtpipccfcpeemfaaGreatDoor.encodeWavs

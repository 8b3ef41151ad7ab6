/- What the functions that the law reaches return in this program, part 1; no conditions. -/
import Derived.Test.YtghngklehkkecadGreatDoorRows
import Derived.Test.YtghngklehkkecadGreatDoorPushencFileY1
set_option linter.unusedSectionVars false
set_option linter.unusedSimpArgs false
set_option linter.unusedVariables false
namespace Go.Proofs.YtghngklehkkecadGreatDoor.pushencFile
open Go.Am Go.ChangeShapes Go.WideShapes Go.ChangeAt Go.RowKit

noncomputable def pg : Prg := ⟨Tryz.prog, [(0, [.int .i64 2, .int .i64 2, .int .i64 2, .int .i64 4, .int .i64 4])], fun g cs h => by
  simp only [List.lookup] at h
  repeat (first | (cases h; done) | (split at h; first | (cases h; rfl) | skip))⟩

theorem Qic : Qf pg 29 18 [.tmp 2, .tmp 3, .tmp 4] ZC := ⟨Tryz.f29, Tryz.func29, by kernel_rfl, by kernel_rfl, by kernel_rfl, by kernel_rfl⟩
theorem QaU : QfL pg 29 := QkT Qic
theorem QcQ : Qf pg 57 10 [.tmp 2] ZZ := ⟨Tryz.f57, Tryz.func57, by kernel_rfl, by kernel_rfl, by kernel_rfl, by kernel_rfl⟩
theorem Qi9 : Qq8 pg 57 := QnN QcQ
theorem Qid : Qf pg 64 37 [.tmp 4] (Qas 29) := ⟨Tryz.f64, Tryz.func64, by kernel_rfl, by kernel_rfl, by kernel_rfl, by kernel_rfl⟩
theorem QaV : Qdu pg 64 := QkU Qid QaU
theorem Qgw : Qf pg 40 14 [.tmp 2, .tmp 3] ZO := ⟨Tryz.f40, Tryz.func40, by kernel_rfl, by kernel_rfl, by kernel_rfl, by kernel_rfl⟩
theorem Z3 : Xe pg 40 := QjN Qgw
theorem QcP : Qf pg 38 17 [.tmp 2, .tmp 3] QV := ⟨Tryz.f38, Tryz.func38, by kernel_rfl, by kernel_rfl, by kernel_rfl, by kernel_rfl⟩
theorem Qi8 : Xe pg 38 := QnM QcP
theorem QfE : Qf pg 41 25 [.tmp 2] (Jm 29 23) := ⟨Tryz.f41, Tryz.func41, by kernel_rfl, by kernel_rfl, by kernel_rfl, by kernel_rfl⟩
theorem JL : JC pg 41 := QhX QfE QaU
theorem Qcl : Qf pg 39 17 [.tmp 2] (QR 57 23) := ⟨Tryz.f39, Tryz.func39, by kernel_rfl, by kernel_rfl, by kernel_rfl, by kernel_rfl⟩
theorem Qg9 : JC pg 39 := Qlo Qcl Qi9
theorem Qfw : Qf pg 17 28 [.tmp 6, .tmp 7] (Jg 40 41 23) := ⟨Tryz.f17, Tryz.func17, by kernel_rfl, by kernel_rfl, by kernel_rfl, by kernel_rfl⟩
theorem QbC : QiI pg 17 := QhC Qfw Z3 JL
theorem Qer : Qf pg 19 9 [.tmp 2] (XQ 23) := ⟨Tryz.f19, Tryz.func19, by kernel_rfl, by kernel_rfl, by kernel_rfl, by kernel_rfl⟩
theorem Qbn : Qbl pg 19 := Qgb Qer
theorem QbR : Qf pg 12 9 [.tmp 2] (ZG 23) := ⟨Tryz.f12, Tryz.func12, by kernel_rfl, by kernel_rfl, by kernel_rfl, by kernel_rfl⟩
theorem Qf2 : Qbl pg 12 := Qjz QbR
theorem Qfx : Qf pg 22 18 [.tmp 4] (Jh 32) := ⟨Tryz.f22, Tryz.func22, by kernel_rfl, by kernel_rfl, by kernel_rfl, by kernel_rfl⟩
theorem JI : Qd0 pg 22 := QhD Qfx
theorem Qgs : Qf pg 21 17 [.tmp 6] (XA 32) := ⟨Tryz.f21, Tryz.func21, by kernel_rfl, by kernel_rfl, by kernel_rfl, by kernel_rfl⟩
theorem Qco : QkL pg 21 := QjB Qgs
theorem Ju : Qf pg 88 19 [.tmp 4] QU := ⟨Tryz.f88, Tryz.func88, by kernel_rfl, by kernel_rfl, by kernel_rfl, by kernel_rfl⟩
theorem Qhd : QfR pg 88 := QlA Ju
theorem XO : Qf pg 65 9 [.tmp 4] (QM 88) := ⟨Tryz.f65, Tryz.func65, by kernel_rfl, by kernel_rfl, by kernel_rfl, by kernel_rfl⟩
theorem Qem : QbZ pg 65 := Qgo XO Qhd
theorem QcN : Qf pg 66 13 [.tmp 3] Zm := ⟨Tryz.f66, Tryz.func66, by kernel_rfl, by kernel_rfl, by kernel_rfl, by kernel_rfl⟩
theorem QkZ : QiW pg 66 := Qqh QcN
theorem QdS : Qf pg 44 82 [.tmp 4] (XB 19 64 22 21 66 65 32 3) := ⟨Tryz.f44, Tryz.func44, by kernel_rfl, by kernel_rfl, by kernel_rfl, by kernel_rfl⟩
theorem QdA : QfU pg 44 := Qfa QdS Qbn QaV JI Qco QkZ Qem
theorem Qfz : Qf pg 25 71 [.tmp 2] (Ji 17 44 32) := ⟨Tryz.f25, Tryz.func25, by kernel_rfl, by kernel_rfl, by kernel_rfl, by kernel_rfl⟩
theorem JJ : Qch pg 25 := QhF Qfz QbC QdA
theorem Qih : Qf pg 7 24 [.cell 6 32, .tmp 7] (Qau 17 23 32) := ⟨Tryz.f7, Tryz.func7, by kernel_rfl, by kernel_rfl, by kernel_rfl, by kernel_rfl⟩
theorem QaW : Qq4 pg 7 := Qlp Qih (show ZJ Tryz.prog 32 = some (some 10) by kernel_rfl) QbC
theorem Qos : Qf pg 97 18 [.cell 4 140, .tmp 5] (XP 85 140) := ⟨Tryz.f97, Tryz.func97, by kernel_rfl, by kernel_rfl, by kernel_rfl, by kernel_rfl⟩
theorem QgC : Qnm pg 97 := QrA Qos (show ZJ Tryz.prog 140 = some (some 33) by kernel_rfl)
theorem Qkv : Qf pg 116 11 [.tmp 2] (Xy 140) := ⟨Tryz.f116, Tryz.func116, by kernel_rfl, by kernel_rfl, by kernel_rfl, by kernel_rfl⟩
theorem QbA : Qdv pg 116 := Qnz Qkv
theorem Qku : Qf pg 110 36 [.tmp 2, .tmp 3] (Qbc 116 140) := ⟨Tryz.f110, Tryz.func110, by kernel_rfl, by kernel_rfl, by kernel_rfl, by kernel_rfl⟩
theorem Qi5 : QiF pg 110 := Qny Qku QbA
theorem Qme : Qf pg 119 9 [.tmp 2] X9 := ⟨Tryz.f119, Tryz.func119, by kernel_rfl, by kernel_rfl, by kernel_rfl, by kernel_rfl⟩
theorem QkV : Qmv pg 119 := QoX Qme
theorem Qkt : Qf pg 117 53 [.cell 4 140, .tmp 5] (Qbb 116 119 140) := ⟨Tryz.f117, Tryz.func117, by kernel_rfl, by kernel_rfl, by kernel_rfl, by kernel_rfl⟩

end Go.Proofs.YtghngklehkkecadGreatDoor.pushencFile

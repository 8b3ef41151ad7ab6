/- What the functions that the law reaches return in this program, part 1; no conditions. -/
import Derived.Test.YtghngklehkkecacGreatDoorRows
import Derived.Test.YtghngklehkkecacGreatDoorPushencPiecesY1
set_option linter.unusedSectionVars false
set_option linter.unusedSimpArgs false
set_option linter.unusedVariables false
namespace Go.Proofs.YtghngklehkkecacGreatDoor.pushencPieces
open Go.Am Go.ChangeShapes Go.WideShapes Go.ChangeAt Go.RowKit

noncomputable def pg : Prg := ⟨Tryz.prog, [(0, [.int .i64 2, .int .i64 2, .int .i64 2, .int .i64 4, .int .i64 4])], fun g cs h => by
  simp only [List.lookup] at h
  repeat (first | (cases h; done) | (split at h; first | (cases h; rfl) | skip))⟩

theorem Qig : Qf pg 41 18 [.tmp 2, .tmp 3, .tmp 4] ZE := ⟨Tryz.f41, Tryz.func41, by kernel_rfl, by kernel_rfl, by kernel_rfl, by kernel_rfl⟩
theorem QaW : QfR pg 41 := QkY Qig
theorem QcR : Qf pg 57 10 [.tmp 2] ZZ := ⟨Tryz.f57, Tryz.func57, by kernel_rfl, by kernel_rfl, by kernel_rfl, by kernel_rfl⟩
theorem Qjc : Qrl pg 57 := QnW QcR
theorem Qih : Qf pg 65 37 [.tmp 4] (Qaw 41) := ⟨Tryz.f65, Tryz.func65, by kernel_rfl, by kernel_rfl, by kernel_rfl, by kernel_rfl⟩
theorem QaX : Qdv pg 65 := QkZ Qih QaW
theorem QgA : Qf pg 39 14 [.tmp 2, .tmp 3] ZP := ⟨Tryz.f39, Tryz.func39, by kernel_rfl, by kernel_rfl, by kernel_rfl, by kernel_rfl⟩
theorem Z4 : Xf pg 39 := QjQ QgA
theorem QcQ : Qf pg 37 17 [.tmp 2, .tmp 3] QX := ⟨Tryz.f37, Tryz.func37, by kernel_rfl, by kernel_rfl, by kernel_rfl, by kernel_rfl⟩
theorem Qjb : Xf pg 37 := QnV QcQ
theorem QfK : Qf pg 40 25 [.tmp 2] (Jn 41 23) := ⟨Tryz.f40, Tryz.func40, by kernel_rfl, by kernel_rfl, by kernel_rfl, by kernel_rfl⟩
theorem JP : JG pg 40 := Qh1 QfK QaW
theorem Qcm : Qf pg 38 17 [.tmp 2] (QS 57 23) := ⟨Tryz.f38, Tryz.func38, by kernel_rfl, by kernel_rfl, by kernel_rfl, by kernel_rfl⟩
theorem Qhc : JG pg 38 := Qlv Qcm Qjc
theorem QfC : Qf pg 16 28 [.tmp 6, .tmp 7] (Jh 39 40 23) := ⟨Tryz.f16, Tryz.func16, by kernel_rfl, by kernel_rfl, by kernel_rfl, by kernel_rfl⟩
theorem QbC : QiM pg 16 := QhG QfC Z4 JP
theorem Qey : Qf pg 18 9 [.tmp 2] (XQ 23) := ⟨Tryz.f18, Tryz.func18, by kernel_rfl, by kernel_rfl, by kernel_rfl, by kernel_rfl⟩
theorem Qbo : QeZ pg 18 := Qgf Qey
theorem QfD : Qf pg 21 18 [.tmp 4] (Ji 33) := ⟨Tryz.f21, Tryz.func21, by kernel_rfl, by kernel_rfl, by kernel_rfl, by kernel_rfl⟩
theorem JM : Qd6 pg 21 := QhH QfD
theorem Qgw : Qf pg 20 17 [.tmp 6] (Xz 33) := ⟨Tryz.f20, Tryz.func20, by kernel_rfl, by kernel_rfl, by kernel_rfl, by kernel_rfl⟩
theorem Qcp : QkQ pg 20 := QjD Qgw
theorem Jy : Qf pg 88 19 [.tmp 4] QW := ⟨Tryz.f88, Tryz.func88, by kernel_rfl, by kernel_rfl, by kernel_rfl, by kernel_rfl⟩
theorem Qhg : QfX pg 88 := QlH Jy
theorem XO : Qf pg 66 9 [.tmp 4] (QM 88) := ⟨Tryz.f66, Tryz.func66, by kernel_rfl, by kernel_rfl, by kernel_rfl, by kernel_rfl⟩
theorem Qet : Qb0 pg 66 := Qgs XO Qhg
theorem QcN : Qf pg 67 13 [.tmp 3] Zn := ⟨Tryz.f67, Tryz.func67, by kernel_rfl, by kernel_rfl, by kernel_rfl, by kernel_rfl⟩
theorem Qk4 : QiZ pg 67 := Qqr QcN
theorem QdX : Qf pg 46 82 [.tmp 4] (XA 18 65 21 20 67 66 33 3) := ⟨Tryz.f46, Tryz.func46, by kernel_rfl, by kernel_rfl, by kernel_rfl, by kernel_rfl⟩
theorem QdC : Qf0 pg 46 := Qfi QdX Qbo QaX JM Qcp Qk4 Qet
theorem QfF : Qf pg 26 71 [.tmp 2] (Jj 16 46 33) := ⟨Tryz.f26, Tryz.func26, by kernel_rfl, by kernel_rfl, by kernel_rfl, by kernel_rfl⟩
theorem JN : Qch pg 26 := QhJ QfF QbC QdC
theorem Qil : Qf pg 7 24 [.cell 6 33, .tmp 7] (Qay 16 23 33) := ⟨Tryz.f7, Tryz.func7, by kernel_rfl, by kernel_rfl, by kernel_rfl, by kernel_rfl⟩
theorem QaY : Qrh pg 7 := Qlw Qil (show ZK Tryz.prog 33 = some (some 10) by kernel_rfl) QbC
theorem QoB : Qf pg 97 18 [.cell 4 141, .tmp 5] (XP 86 141) := ⟨Tryz.f97, Tryz.func97, by kernel_rfl, by kernel_rfl, by kernel_rfl, by kernel_rfl⟩
theorem QgG : Qnv pg 97 := QrN QoB (show ZK Tryz.prog 141 = some (some 33) by kernel_rfl)
theorem Qkz : Qf pg 116 11 [.tmp 2] (Xx 141) := ⟨Tryz.f116, Tryz.func116, by kernel_rfl, by kernel_rfl, by kernel_rfl, by kernel_rfl⟩
theorem QbA : Qdw pg 116 := QnI Qkz
theorem Qky : Qf pg 110 36 [.tmp 2, .tmp 3] (Qbe 116 141) := ⟨Tryz.f110, Tryz.func110, by kernel_rfl, by kernel_rfl, by kernel_rfl, by kernel_rfl⟩
theorem Qi8 : QiJ pg 110 := QnH Qky QbA
theorem Qmk : Qf pg 119 9 [.tmp 2] X9 := ⟨Tryz.f119, Tryz.func119, by kernel_rfl, by kernel_rfl, by kernel_rfl, by kernel_rfl⟩
theorem Qk0 : QmB pg 119 := Qo7 Qmk
theorem Qkx : Qf pg 117 53 [.cell 4 141, .tmp 5] (Qbd 116 119 141) := ⟨Tryz.f117, Tryz.func117, by kernel_rfl, by kernel_rfl, by kernel_rfl, by kernel_rfl⟩
theorem Qi7 : QiI pg 117 := QnG Qkx (show ZK Tryz.prog 141 = some (some 33) by kernel_rfl) QbA Qk0
theorem Qml : Qf pg 118 22 [.cell 4 141, .tmp 5] (QbV 116 141) := ⟨Tryz.f118, Tryz.func118, by kernel_rfl, by kernel_rfl, by kernel_rfl, by kernel_rfl⟩

end Go.Proofs.YtghngklehkkecacGreatDoor.pushencPieces

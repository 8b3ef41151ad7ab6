/- What the functions that the law reaches return in this program, part 1; no conditions. -/
import Derived.Test.YtghngklehkkecabGreatDoorRows
import Derived.Test.YtghngklehkkecabGreatDoorPushencNamesY1
set_option linter.unusedSectionVars false
set_option linter.unusedSimpArgs false
set_option linter.unusedVariables false
namespace Go.Proofs.YtghngklehkkecabGreatDoor.pushencNames
open Go.Am Go.ChangeShapes Go.WideShapes Go.ChangeAt Go.RowKit

noncomputable def pg : Prg := ⟨Tryz.prog, [(0, [.int .i64 2, .int .i64 2, .int .i64 2, .int .i64 4, .int .i64 4])], fun g cs h => by
  simp only [List.lookup] at h
  repeat (first | (cases h; done) | (split at h; first | (cases h; rfl) | skip))⟩

theorem Qiw : Qk pg 30 18 [.tmp 2, .tmp 3, .tmp 4] ZI := ⟨Tryz.f30, Tryz.func30, by kernel_rfl, by kernel_rfl, by kernel_rfl, by kernel_rfl⟩
theorem Qba : Qf1 pg 30 := Qk6 Qiw
theorem Qix : Qk pg 39 37 [.tmp 4] (QaM 30) := ⟨Tryz.f39, Tryz.func39, by kernel_rfl, by kernel_rfl, by kernel_rfl, by kernel_rfl⟩
theorem Qbb : Qdw pg 39 := Qk7 Qix Qba
theorem QgK : Qk pg 28 14 [.tmp 2, .tmp 3] ZV := ⟨Tryz.f28, Tryz.func28, by kernel_rfl, by kernel_rfl, by kernel_rfl, by kernel_rfl⟩
theorem Z9 : QaF pg 28 := Qj1 QgK
theorem QfU : Qk pg 29 25 [.tmp 2] (Jz 30 24) := ⟨Tryz.f29, Tryz.func29, by kernel_rfl, by kernel_rfl, by kernel_rfl, by kernel_rfl⟩
theorem JY : QdC pg 29 := Qii QfU Qba
theorem QfM : Qk pg 14 28 [.tmp 6, .tmp 7] (Js 28 29 24) := ⟨Tryz.f14, Tryz.func14, by kernel_rfl, by kernel_rfl, by kernel_rfl, by kernel_rfl⟩
theorem QbM : Qi2 pg 14 := QhV QfM Z9 JY
theorem QeB : Qk pg 16 9 [.tmp 2] (X4 24) := ⟨Tryz.f16, Tryz.func16, by kernel_rfl, by kernel_rfl, by kernel_rfl, by kernel_rfl⟩
theorem QbB : Qe4 pg 16 := Qgp QeB
theorem QfN : Qk pg 19 18 [.tmp 4] (Jt 29) := ⟨Tryz.f19, Tryz.func19, by kernel_rfl, by kernel_rfl, by kernel_rfl, by kernel_rfl⟩
theorem JV : Qd6 pg 19 := QhW QfN
theorem QgG : Qk pg 18 17 [.tmp 6] (XF 29) := ⟨Tryz.f18, Tryz.func18, by kernel_rfl, by kernel_rfl, by kernel_rfl, by kernel_rfl⟩
theorem Qcq : QkX pg 18 := QjO QgG
theorem JK : Qk pg 60 19 [.tmp 4] QV := ⟨Tryz.f60, Tryz.func60, by kernel_rfl, by kernel_rfl, by kernel_rfl, by kernel_rfl⟩
theorem Qht : Qf6 pg 60 := QlP JK
theorem X2 : Qk pg 40 9 [.tmp 4] (QN 60) := ⟨Tryz.f40, Tryz.func40, by kernel_rfl, by kernel_rfl, by kernel_rfl, by kernel_rfl⟩
theorem Qeu : Qb5 pg 40 := QgC X2 Qht
theorem QcP : Qk pg 41 13 [.tmp 3] Zl := ⟨Tryz.f41, Tryz.func41, by kernel_rfl, by kernel_rfl, by kernel_rfl, by kernel_rfl⟩
theorem Qld : Qje pg 41 := Qqj QcP
theorem QdY : Qk pg 26 82 [.tmp 4] (XG 16 39 19 18 41 40 29 3) := ⟨Tryz.f26, Tryz.func26, by kernel_rfl, by kernel_rfl, by kernel_rfl, by kernel_rfl⟩
theorem QdF : Qf9 pg 26 := Qfp QdY QbB Qbb JV Qcq Qld Qeu
theorem QfP : Qk pg 11 71 [.tmp 2] (Ju 14 26 29) := ⟨Tryz.f11, Tryz.func11, by kernel_rfl, by kernel_rfl, by kernel_rfl, by kernel_rfl⟩
theorem ZQ : QaE pg 11 := QhY QfP QbM QdF
theorem QiB : Qk pg 4 24 [.cell 6 29, .tmp 7] (QaO 14 24 29) := ⟨Tryz.f4, Tryz.func4, by kernel_rfl, by kernel_rfl, by kernel_rfl, by kernel_rfl⟩
theorem Qbc : QmM pg 4 := QlD QiB (show ZP Tryz.prog 29 = some (some 10) by kernel_rfl) QbM
theorem QoC : Qk pg 88 18 [.cell 4 130, .tmp 5] (X3 70 130) := ⟨Tryz.f88, Tryz.func88, by kernel_rfl, by kernel_rfl, by kernel_rfl, by kernel_rfl⟩
theorem QgR : QnA pg 88 := QrC QoC (show ZP Tryz.prog 130 = some (some 33) by kernel_rfl)
theorem QkH : Qk pg 108 11 [.tmp 2] (XD 130) := ⟨Tryz.f108, Tryz.func108, by kernel_rfl, by kernel_rfl, by kernel_rfl, by kernel_rfl⟩
theorem QbK : Qdx pg 108 := QnN QkH
theorem QkG : Qk pg 103 36 [.tmp 2, .tmp 3] (Qbr 108 130) := ⟨Tryz.f103, Tryz.func103, by kernel_rfl, by kernel_rfl, by kernel_rfl, by kernel_rfl⟩
theorem Qjp : QiZ pg 103 := QnM QkG QbK
theorem Qmq : Qk pg 114 9 [.tmp 2] Jk := ⟨Tryz.f114, Tryz.func114, by kernel_rfl, by kernel_rfl, by kernel_rfl, by kernel_rfl⟩
theorem Qk8 : QmH pg 114 := Qo4 Qmq
theorem QkF : Qk pg 109 53 [.cell 4 130, .tmp 5] (Qbq 108 114 130) := ⟨Tryz.f109, Tryz.func109, by kernel_rfl, by kernel_rfl, by kernel_rfl, by kernel_rfl⟩
theorem Qjo : QiY pg 109 := QnL QkF (show ZP Tryz.prog 130 = some (some 33) by kernel_rfl) QbK Qk8
theorem Qmr : Qk pg 110 22 [.cell 4 130, .tmp 5] (Qb0 108 130) := ⟨Tryz.f110, Tryz.func110, by kernel_rfl, by kernel_rfl, by kernel_rfl, by kernel_rfl⟩
theorem Qk9 : QmI pg 110 := Qo5 Qmr (show ZP Tryz.prog 130 = some (some 33) by kernel_rfl) QbK
theorem QkJ : Qk pg 104 20 [.cell 6 130] (Qbs 109 110 130) := ⟨Tryz.f104, Tryz.func104, by kernel_rfl, by kernel_rfl, by kernel_rfl, by kernel_rfl⟩
theorem Qjs : Qf5 pg 104 := Qn5 QkJ (show ZP Tryz.prog 130 = some (some 33) by kernel_rfl) Qjo Qk9
theorem QiC : Qk pg 91 27 [.tmp 4, .cell 5 130, .tmp 6] (QaP 103 104 130) := ⟨Tryz.f91, Tryz.func91, by kernel_rfl, by kernel_rfl, by kernel_rfl, by kernel_rfl⟩
theorem Qhq : Qd4 pg 91 := QlJ QiC (show ZP Tryz.prog 130 = some (some 33) by kernel_rfl) Qjp Qjs
theorem QiH : Qk pg 101 10 [.tmp 2, .tmp 3] Xh := ⟨Tryz.f101, Tryz.func101, by kernel_rfl, by kernel_rfl, by kernel_rfl, by kernel_rfl⟩

end Go.Proofs.YtghngklehkkecabGreatDoor.pushencNames

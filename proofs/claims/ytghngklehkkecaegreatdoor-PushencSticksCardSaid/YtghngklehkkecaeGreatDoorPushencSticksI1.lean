/- What the functions that the law reaches return in this program, part 1; no conditions. -/
import Derived.Test.YtghngklehkkecaeGreatDoorRows
import Derived.Test.YtghngklehkkecaeGreatDoorPushencSticksY1
set_option linter.unusedSectionVars false
set_option linter.unusedSimpArgs false
set_option linter.unusedVariables false
namespace Go.Proofs.YtghngklehkkecaeGreatDoor.pushencSticks
open Go.Am Go.ChangeShapes Go.WideShapes Go.ChangeAt Go.RowKit

noncomputable def pg : Prg := ⟨Tryz.prog, [(0, [.int .i64 2, .int .i64 2, .int .i64 2, .int .i64 4, .int .i64 4])], fun g cs h => by
  simp only [List.lookup] at h
  repeat (first | (cases h; done) | (split at h; first | (cases h; rfl) | skip))⟩

theorem QiJ : Qd pg 47 18 [.tmp 2, .tmp 3, .tmp 4] ZH := ⟨Tryz.f47, Tryz.func47, by kernel_rfl, by kernel_rfl, by kernel_rfl, by kernel_rfl⟩
theorem Qbb : Qgf pg 47 := Qlq QiJ
theorem Qdg : Qd pg 31 10 [.tmp 2] Xa := ⟨Tryz.f31, Tryz.func31, by kernel_rfl, by kernel_rfl, by kernel_rfl, by kernel_rfl⟩
theorem Qew : QnZ pg 31 := Qor Qdg
theorem QiK : Qd pg 50 37 [.tmp 4] (QaI 47) := ⟨Tryz.f50, Tryz.func50, by kernel_rfl, by kernel_rfl, by kernel_rfl, by kernel_rfl⟩
theorem Qbc : Ji pg 50 := Qlr QiK Qbb
theorem QcG : Qd pg 12 37 [.tmp 4] (ZY 31) := ⟨Tryz.f12, Tryz.func12, by kernel_rfl, by kernel_rfl, by kernel_rfl, by kernel_rfl⟩
theorem Qdn : Ji pg 12 := Ql0 QcG Qew
theorem QgZ : Qd pg 45 14 [.tmp 2, .tmp 3] ZU := ⟨Tryz.f45, Tryz.func45, by kernel_rfl, by kernel_rfl, by kernel_rfl, by kernel_rfl⟩
theorem Xe : ZP pg 45 := Qkk QgZ
theorem Qdf : Qd pg 43 17 [.tmp 2, .tmp 3] QZ := ⟨Tryz.f43, Tryz.func43, by kernel_rfl, by kernel_rfl, by kernel_rfl, by kernel_rfl⟩
theorem QbS : ZP pg 43 := Qoq Qdf
theorem Qf7 : Qd pg 46 25 [.tmp 2] (JC 47 23) := ⟨Tryz.f46, Tryz.func46, by kernel_rfl, by kernel_rfl, by kernel_rfl, by kernel_rfl⟩
theorem J3 : Jj pg 46 := Qiv Qf7 Qbb
theorem QcF : Qd pg 44 17 [.tmp 2] (QV 31 23) := ⟨Tryz.f44, Tryz.func44, by kernel_rfl, by kernel_rfl, by kernel_rfl, by kernel_rfl⟩
theorem Qdm : Jj pg 44 := QlZ QcF Qew
theorem QfZ : Qd pg 20 28 [.tmp 6, .tmp 7] (Jv 45 46 23) := ⟨Tryz.f20, Tryz.func20, by kernel_rfl, by kernel_rfl, by kernel_rfl, by kernel_rfl⟩
theorem QbT : Qjf pg 20 := Qh9 QfZ Xe J3
theorem JG : Qd pg 19 26 [.tmp 6] (QL 43 44 23) := ⟨Tryz.f19, Tryz.func19, by kernel_rfl, by kernel_rfl, by kernel_rfl, by kernel_rfl⟩
theorem QhD : Qnf pg 19 := QlY JG QbS Qdm
theorem QeX : Qd pg 22 9 [.tmp 2] (X7 23) := ⟨Tryz.f22, Tryz.func22, by kernel_rfl, by kernel_rfl, by kernel_rfl, by kernel_rfl⟩
theorem QbE : JV pg 22 := QgE QeX
theorem Qb8 : Qd pg 10 9 [.tmp 2] (ZL 23) := ⟨Tryz.f10, Tryz.func10, by kernel_rfl, by kernel_rfl, by kernel_rfl, by kernel_rfl⟩
theorem QcJ : JV pg 10 := Qj7 Qb8
theorem Qf0 : Qd pg 25 18 [.tmp 4] (Jw 32) := ⟨Tryz.f25, Tryz.func25, by kernel_rfl, by kernel_rfl, by kernel_rfl, by kernel_rfl⟩
theorem J1 : Qer pg 25 := Qia Qf0
theorem Qdb : Qd pg 53 12 [.tmp 2] (Z8 43 32) := ⟨Tryz.f53, Tryz.func53, by kernel_rfl, by kernel_rfl, by kernel_rfl, by kernel_rfl⟩
theorem Qev : Qjg pg 53 := Qon Qdb QbS
theorem QcD : Qd pg 55 17 [.tmp 2] (ZW 53 32) := ⟨Tryz.f55, Tryz.func55, by kernel_rfl, by kernel_rfl, by kernel_rfl, by kernel_rfl⟩
theorem QhB : Qjh pg 55 := QlW QcD Qev
theorem QgV : Qd pg 24 17 [.tmp 6] (XL 32) := ⟨Tryz.f24, Tryz.func24, by kernel_rfl, by kernel_rfl, by kernel_rfl, by kernel_rfl⟩
theorem QcK : QeK pg 24 := Qj9 QgV
theorem Qdc : Qd pg 54 17 [.tmp 6] (Zn 32) := ⟨Tryz.f54, Tryz.func54, by kernel_rfl, by kernel_rfl, by kernel_rfl, by kernel_rfl⟩
theorem QjG : QeK pg 54 := Qoo Qdc
theorem JN : Qd pg 74 19 [.tmp 4] QY := ⟨Tryz.f74, Tryz.func74, by kernel_rfl, by kernel_rfl, by kernel_rfl, by kernel_rfl⟩
theorem QhH : Qgl pg 74 := Qmc JN
theorem X5 : Qd pg 51 9 [.tmp 4] (QR 74) := ⟨Tryz.f51, Tryz.func51, by kernel_rfl, by kernel_rfl, by kernel_rfl, by kernel_rfl⟩
theorem QeS : Qcf pg 51 := QgR X5 QhH
theorem Qda : Qd pg 52 13 [.tmp 3] Zm := ⟨Tryz.f52, Tryz.func52, by kernel_rfl, by kernel_rfl, by kernel_rfl, by kernel_rfl⟩
theorem Qlw : Qju pg 52 := QqT Qda
theorem Qej : Qd pg 29 82 [.tmp 4] (XM 22 50 25 24 52 51 32 3) := ⟨Tryz.f29, Tryz.func29, by kernel_rfl, by kernel_rfl, by kernel_rfl, by kernel_rfl⟩
theorem Qd3 : Qgo pg 29 := QfE Qej QbE Qbc J1 QcK Qlw QeS
theorem QbL : Qd pg 30 104 [.tmp 2] (ZC 53 10 12 55 54 32) := ⟨Tryz.f30, Tryz.func30, by kernel_rfl, by kernel_rfl, by kernel_rfl, by kernel_rfl⟩
theorem Qfm : Qeo pg 30 := Qh7 QbL Qev QcJ Qdn QhB QjG
theorem Qf2 : Qd pg 9 71 [.tmp 2] (Jy 20 29 32) := ⟨Tryz.f9, Tryz.func9, by kernel_rfl, by kernel_rfl, by kernel_rfl, by kernel_rfl⟩

end Go.Proofs.YtghngklehkkecaeGreatDoor.pushencSticks

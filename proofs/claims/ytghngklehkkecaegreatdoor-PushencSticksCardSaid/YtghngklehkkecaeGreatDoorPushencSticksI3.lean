/- What the functions that the law reaches return in this program, part 3; no conditions. -/
import Derived.Test.YtghngklehkkecaeGreatDoorPushencSticksI2
set_option linter.unusedSectionVars false
set_option linter.unusedSimpArgs false
set_option linter.unusedVariables false
namespace Go.Proofs.YtghngklehkkecaeGreatDoor.pushencSticks
open Go.Am Go.ChangeShapes Go.WideShapes Go.ChangeAt Go.RowKit

theorem Qe2 : Qd pg 70 83 [.tmp 6, .tmp 7] (Jb 84 85 86 87 88 23 91 148 147 109) := ⟨Tryz.f70, Tryz.func70, by kernel_rfl, by kernel_rfl, by kernel_rfl, by kernel_rfl⟩
theorem QeR : Qna pg 70 := QgK Qe2 Qfq Qpp QlA Qfu Qlv
theorem Qf4 : Qd pg 96 32 [.tmp 4, .tmp 5] (JA 45) := ⟨Tryz.f96, Tryz.func96, by kernel_rfl, by kernel_rfl, by kernel_rfl, by kernel_rfl⟩
theorem J2 : Qce pg 96 := Qik Qf4 Xe
theorem Qlc : Qd pg 61 8 [.cell 2 23] (Qbz 51 23) := ⟨Tryz.f61, Tryz.func61, by kernel_rfl, by kernel_rfl, by kernel_rfl, by kernel_rfl⟩
theorem Qey : QdZ pg 61 := QoT Qlc (show ZQ Tryz.prog 23 = some (some 2) by kernel_rfl)
theorem QmW : Qd pg 76 31 [.tmp 4] (Qcc 61 46 96 51) := ⟨Tryz.f76, Tryz.func76, by kernel_rfl, by kernel_rfl, by kernel_rfl, by kernel_rfl⟩
theorem Qlz : Qne pg 76 := Qrg QmW Qey J3 J2
theorem Qle : Qd pg 59 33 [.tmp 2] (XR 76 50 51) := ⟨Tryz.f59, Tryz.func59, by kernel_rfl, by kernel_rfl, by kernel_rfl, by kernel_rfl⟩
theorem Qez : QbD pg 59 := QoW Qle Qlz Qbc
theorem Qry : Qd pg 81 14 [.tmp 4] Qa6 := ⟨Tryz.f81, Tryz.func81, by kernel_rfl, by kernel_rfl, by kernel_rfl, by kernel_rfl⟩
theorem Qpq : QrG pg 81 := Qur Qry
theorem Qo5 : Qd pg 63 35 [.tmp 4, .tmp 5] (Qbw 81 5) := ⟨Tryz.f63, Tryz.func63, by kernel_rfl, by kernel_rfl, by kernel_rfl, by kernel_rfl⟩
theorem QaV : Qai pg 63 := QsM Qo5 Qpq
theorem QfX : Qd pg 26 81 [.tmp 4, .tmp 5] (Zb 47 21) := ⟨Tryz.f26, Tryz.func26, by kernel_rfl, by kernel_rfl, by kernel_rfl, by kernel_rfl⟩
theorem Qfl : Qd0 pg 26 := Qhw QfX Qbb
theorem Qi0 : Qd pg 99 24 [.tmp 0] (QaQ 192) := ⟨Tryz.f99, Tryz.func99, by kernel_rfl, by kernel_rfl, by kernel_rfl, by kernel_rfl⟩
theorem QhR : Qm3 pg 99 := QmC Qi0
theorem Qlb : Qd pg 82 32 [.tmp 4, .tmp 5] (JT 99) := ⟨Tryz.f82, Tryz.func82, by kernel_rfl, by kernel_rfl, by kernel_rfl, by kernel_rfl⟩
theorem QjQ : Qnd pg 82 := QoQ Qlb QhR
theorem QmV : Qd pg 64 16 [.tmp 2, .tmp 3] (QaA 82) := ⟨Tryz.f64, Tryz.func64, by kernel_rfl, by kernel_rfl, by kernel_rfl, by kernel_rfl⟩
theorem Qbe : Qhu pg 64 := Qrc QmV QjQ
theorem Qlf : Qd pg 90 40 [.tmp 2] (JU 126) := ⟨Tryz.f90, Tryz.func90, by kernel_rfl, by kernel_rfl, by kernel_rfl, by kernel_rfl⟩
theorem Qao : Qcy pg 90 := Qo3 Qlf
theorem Qk8 : Qd pg 89 2 [.cell 0 122] (Qbx 122) := ⟨Tryz.f89, Tryz.func89, by kernel_rfl, by kernel_rfl, by kernel_rfl, by kernel_rfl⟩
theorem QjN : Qjc pg 89 := QoM Qk8 (show ZQ Tryz.prog 122 = some (some 4) by kernel_rfl)
theorem Qk9 : Qd pg 91 26 [.tmp 2] (Qby 122) := ⟨Tryz.f91, Tryz.func91, by kernel_rfl, by kernel_rfl, by kernel_rfl, by kernel_rfl⟩
theorem QjO : Qjr pg 91 := QoN Qk9
theorem Qk5 : Qd pg 92 17 [.tmp 4, .tmp 5] (JQ 122) := ⟨Tryz.f92, Tryz.func92, by kernel_rfl, by kernel_rfl, by kernel_rfl, by kernel_rfl⟩
theorem Qex : Qgj pg 92 := QoJ Qk5
theorem QgU : Qd pg 110 9 [.tmp 4] XJ := ⟨Tryz.f110, Tryz.func110, by kernel_rfl, by kernel_rfl, by kernel_rfl, by kernel_rfl⟩
theorem Qn5 : Qu0 pg 110 := Qsx QgU
theorem Qa5 : Qd pg 34 8 [.tmp 2] (QT 5) := ⟨Tryz.f34, Tryz.func34, by kernel_rfl, by kernel_rfl, by kernel_rfl, by kernel_rfl⟩
theorem Qdo : JW 5 pg 34 := QuS Qa5
theorem Qo7 : Qd pg 93 44 [.cell 6 126, .tmp 7] (QbC 90 108 109 126) := ⟨Tryz.f93, Tryz.func93, by kernel_rfl, by kernel_rfl, by kernel_rfl, by kernel_rfl⟩
theorem QmY : Qd pg 108 9 [.cell 2 126] (QaB 34 126) := ⟨Tryz.f108, Tryz.func108, by kernel_rfl, by kernel_rfl, by kernel_rfl, by kernel_rfl⟩
theorem Qo6 : Qd pg 109 75 [] (QbB 5) := ⟨Tryz.f109, Tryz.func109, by kernel_rfl, by kernel_rfl, by kernel_rfl, by kernel_rfl⟩
theorem Qd5 : Qli pg 93 := Qtk Qo7 Qao QmY Qo6 Qdo (show ZQ Tryz.prog 126 = some (some 2) by kernel_rfl) (show ZQ Tryz.prog 126 = some (some 2) by kernel_rfl)
theorem QgT : Qd pg 119 13 [.tmp 2, .tmp 3] Qac := ⟨Tryz.f119, Tryz.func119, by kernel_rfl, by kernel_rfl, by kernel_rfl, by kernel_rfl⟩
theorem Qgv : QrF pg 119 := QjU QgT
theorem QiL : Qd pg 111 32 [.cell 4 126, .tmp 5] (QaJ 90 119 93 126) := ⟨Tryz.f111, Tryz.func111, by kernel_rfl, by kernel_rfl, by kernel_rfl, by kernel_rfl⟩
theorem Qhy : Qi6 pg 111 := QlD QiL Qao Qgv Qd5 (show ZQ Tryz.prog 126 = some (some 2) by kernel_rfl)
theorem Qk3 : Qd pg 94 57 [.cell 6 126, .tmp 7] (JP 90 110 111 93 126) := ⟨Tryz.f94, Tryz.func94, by kernel_rfl, by kernel_rfl, by kernel_rfl, by kernel_rfl⟩
theorem QjF : Qi8 pg 94 := Qol Qk3 Qao Qn5 Qhy Qd5 (show ZQ Tryz.prog 126 = some (some 2) by kernel_rfl)
theorem Qk7 : Qd pg 72 69 [.cell 6 126, .cell 7 122, .tmp 8] (JR 90 91 92 93 94 95 126 122) := ⟨Tryz.f72, Tryz.func72, by kernel_rfl, by kernel_rfl, by kernel_rfl, by kernel_rfl⟩

end Go.Proofs.YtghngklehkkecaeGreatDoor.pushencSticks

/- What the functions that the law reaches return in this program, part 2; no conditions. -/
import Derived.Test.YtghngklehkkecaeGreatDoorPushencSticksI1
set_option linter.unusedSectionVars false
set_option linter.unusedSimpArgs false
set_option linter.unusedVariables false
namespace Go.Proofs.YtghngklehkkecaeGreatDoor.pushencSticks
open Go.Am Go.ChangeShapes Go.WideShapes Go.ChangeAt Go.RowKit

theorem XE : Xq pg 9 := Qic Qf2 QbT Qd3
theorem QcE : Qd pg 11 69 [.tmp 2] (ZX 19 30 32) := ⟨Tryz.f11, Tryz.func11, by kernel_rfl, by kernel_rfl, by kernel_rfl, by kernel_rfl⟩
theorem QhC : Xq pg 11 := QlX QcE QhD Qfm
theorem QiO : Qd pg 7 24 [.cell 6 32, .tmp 7] (QaK 20 23 32) := ⟨Tryz.f7, Tryz.func7, by kernel_rfl, by kernel_rfl, by kernel_rfl, by kernel_rfl⟩
theorem Qbd : Qpa pg 7 := Ql1 QiO (show ZQ Tryz.prog 32 = some (some 10) by kernel_rfl) QbT
theorem Qo4 : Qd pg 104 18 [.cell 4 145, .tmp 5] (X6 91 145) := ⟨Tryz.f104, Tryz.func104, by kernel_rfl, by kernel_rfl, by kernel_rfl, by kernel_rfl⟩
theorem Qg5 : QnX pg 104 := Qsd Qo4 (show ZQ Tryz.prog 145 = some (some 33) by kernel_rfl)
theorem Qk2 : Qd pg 123 11 [.tmp 2] (XI 145) := ⟨Tryz.f123, Tryz.func123, by kernel_rfl, by kernel_rfl, by kernel_rfl, by kernel_rfl⟩
theorem QbQ : QdX pg 123 := Qoa Qk2
theorem Qk1 : Qd pg 117 36 [.tmp 2, .tmp 3] (Qbu 123 145) := ⟨Tryz.f117, Tryz.func117, by kernel_rfl, by kernel_rfl, by kernel_rfl, by kernel_rfl⟩
theorem QjE : Qjb pg 117 := Qn9 Qk1 QbQ
theorem QmO : Qd pg 126 9 [.tmp 2] Jo := ⟨Tryz.f126, Tryz.func126, by kernel_rfl, by kernel_rfl, by kernel_rfl, by kernel_rfl⟩
theorem Qls : Qm4 pg 126 := QpA QmO
theorem Qk0 : Qd pg 124 53 [.cell 4 145, .tmp 5] (Qbt 123 126 145) := ⟨Tryz.f124, Tryz.func124, by kernel_rfl, by kernel_rfl, by kernel_rfl, by kernel_rfl⟩
theorem QjD : Qja pg 124 := Qn8 Qk0 (show ZQ Tryz.prog 145 = some (some 33) by kernel_rfl) QbQ Qls
theorem QmP : Qd pg 125 22 [.cell 4 145, .tmp 5] (Qca 123 145) := ⟨Tryz.f125, Tryz.func125, by kernel_rfl, by kernel_rfl, by kernel_rfl, by kernel_rfl⟩
theorem Qlt : Qm5 pg 125 := QpB QmP (show ZQ Tryz.prog 145 = some (some 33) by kernel_rfl) QbQ
theorem Qk4 : Qd pg 118 20 [.cell 6 145] (Qbv 124 125 145) := ⟨Tryz.f118, Tryz.func118, by kernel_rfl, by kernel_rfl, by kernel_rfl, by kernel_rfl⟩
theorem QjJ : Qgk pg 118 := Qox Qk4 (show ZQ Tryz.prog 145 = some (some 33) by kernel_rfl) QjD Qlt
theorem QiP : Qd pg 107 27 [.tmp 4, .cell 5 145, .tmp 6] (QaL 117 118 145) := ⟨Tryz.f107, Tryz.func107, by kernel_rfl, by kernel_rfl, by kernel_rfl, by kernel_rfl⟩
theorem QhE : Qep pg 107 := Ql6 QiP (show ZQ Tryz.prog 145 = some (some 33) by kernel_rfl) QjE QjJ
theorem QiU : Qd pg 115 10 [.tmp 2, .tmp 3] Xl := ⟨Tryz.f115, Tryz.func115, by kernel_rfl, by kernel_rfl, by kernel_rfl, by kernel_rfl⟩
theorem QhL : Qjp pg 115 := Qmj QiU
theorem QiT : Qd pg 116 16 [.tmp 4] Jg := ⟨Tryz.f116, Tryz.func116, by kernel_rfl, by kernel_rfl, by kernel_rfl, by kernel_rfl⟩
theorem QhK : Qjo pg 116 := Qmi QiT
theorem QiV : Qd pg 106 19 [.tmp 4, .tmp 5] (QaN 115 116) := ⟨Tryz.f106, Tryz.func106, by kernel_rfl, by kernel_rfl, by kernel_rfl, by kernel_rfl⟩
theorem QhM : Qjq pg 106 := Qmk QiV QhL QhK
theorem QmX : Qd pg 86 21 [.cell 4 147, .tmp 5] (Qcd 104 91 147 145) := ⟨Tryz.f86, Tryz.func86, by kernel_rfl, by kernel_rfl, by kernel_rfl, by kernel_rfl⟩
theorem QlA : QrQ pg 86 := Qrj QmX (show ZQ Tryz.prog 147 = some (some 35) by kernel_rfl) Qg5
theorem Qi2 : Qd pg 105 24 [.tmp 2] (QaS 104 147 145) := ⟨Tryz.f105, Tryz.func105, by kernel_rfl, by kernel_rfl, by kernel_rfl, by kernel_rfl⟩
theorem QhU : Qjt pg 105 := QmI Qi2 Qg5
theorem Qga : Qd pg 87 44 [.tmp 4, .cell 5 147, .tmp 6] (JE 105 106 107 147 145) := ⟨Tryz.f87, Tryz.func87, by kernel_rfl, by kernel_rfl, by kernel_rfl, by kernel_rfl⟩
theorem Qfu : Qes pg 87 := QiH Qga (show ZQ Tryz.prog 147 = some (some 35) by kernel_rfl) QhU QhM QhE
theorem QmS : Qd pg 88 10 [.tmp 2] Qax := ⟨Tryz.f88, Tryz.func88, by kernel_rfl, by kernel_rfl, by kernel_rfl, by kernel_rfl⟩
theorem Qlv : QrM pg 88 := QqI QmS
theorem Z6 : Qd pg 58 8 [.tmp 2] (Qs 21) := ⟨Tryz.f58, Tryz.func58, by kernel_rfl, by kernel_rfl, by kernel_rfl, by kernel_rfl⟩
theorem Qly : Qjs 21 pg 58 := Qrf Z6
theorem Qrw : Qd pg 103 39 [] Qem := ⟨Tryz.f103, Tryz.func103, by kernel_rfl, by kernel_rfl, by kernel_rfl, by kernel_rfl⟩
theorem Qpo : Qu1 pg 103 := Quo Qrw
theorem QmR : Qd pg 102 22 [.tmp 4] ZT := ⟨Tryz.f102, Tryz.func102, by kernel_rfl, by kernel_rfl, by kernel_rfl, by kernel_rfl⟩
theorem Qlu : Qjk pg 102 := Qqm QmR
theorem Qrx : Qd pg 85 32 [.tmp 4, .tmp 5] (Qen 102 58 103) := ⟨Tryz.f85, Tryz.func85, by kernel_rfl, by kernel_rfl, by kernel_rfl, by kernel_rfl⟩
theorem Qpp : Qjj pg 85 := Qup Qrx Qlu Qly Qpo
theorem Qf6 : Qd pg 84 30 [.tmp 4] (JB 46 50 23) := ⟨Tryz.f84, Tryz.func84, by kernel_rfl, by kernel_rfl, by kernel_rfl, by kernel_rfl⟩
theorem Qfq : QrP pg 84 := Qiu Qf6 J3 Qbc

end Go.Proofs.YtghngklehkkecaeGreatDoor.pushencSticks

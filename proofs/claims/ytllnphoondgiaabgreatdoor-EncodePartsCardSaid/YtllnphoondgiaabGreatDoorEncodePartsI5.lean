/- What the functions that the law reaches return in this program, part 5; no conditions. -/
import Derived.Test.YtllnphoondgiaabGreatDoorEncodePartsI4
set_option linter.unusedSectionVars false
set_option linter.unusedSimpArgs false
set_option linter.unusedVariables false
namespace Go.Proofs.YtllnphoondgiaabGreatDoor.encodeParts
open Go.Am Go.ChangeShapes Go.WideShapes Go.ChangeAt Go.RowKit

theorem Qfa : Qm pg 19 63 [.tmp 2, .tmp 3] (Xi 36 43 27 33 5 0) := ⟨Tryz.f19, Tryz.func19, by kernel_rfl, by kernel_rfl, by kernel_rfl, by kernel_rfl⟩
theorem QeO : QeE pg 19 := Qii Qfa QbB Qbb Je (show pg.G.lookup 0 = some Qsj by rfl)
theorem Qet : Qm pg 23 5 [.tmp 2] XS := ⟨Tryz.f23, Tryz.func23, by kernel_rfl, by kernel_rfl, by kernel_rfl, by kernel_rfl⟩
theorem QdS : Qpf pg 23 := Qgt Qet
theorem QaN : Qm pg 22 26 [.tmp 4] (Ze 3) := ⟨Tryz.f22, Tryz.func22, by kernel_rfl, by kernel_rfl, by kernel_rfl, by kernel_rfl⟩
theorem QfY : Qpi 23 pg 22 := Qkm QaN QdS
theorem QgU : Qm pg 24 17 [.tmp 2] (JT 5) := ⟨Tryz.f24, Tryz.func24, by kernel_rfl, by kernel_rfl, by kernel_rfl, by kernel_rfl⟩
theorem QfX : Qk2 pg 24 := Qkl QgU
theorem QgW : Qm pg 7 62 [.tmp 4, .tmp 5] (QN 9 11 19 20 22 23 21 24 24 33 28) := ⟨Tryz.f7, Tryz.func7, by kernel_rfl, by kernel_rfl, by kernel_rfl, by kernel_rfl⟩
theorem Qah : QeG pg 7 := Qko QgW Qb7 Qb8 QeO QbC QfY QfK QfX
theorem QgV : Qm pg 15 17 [.tmp 4, .tmp 5] (JU 7 24) := ⟨Tryz.f15, Tryz.func15, by kernel_rfl, by kernel_rfl, by kernel_rfl, by kernel_rfl⟩
theorem QfZ : Qk4 pg 15 := Qkn QgV Qah
theorem Qfd : Qm pg 10 25 [.tmp 4, .tmp 5] (Zy 20 31) := ⟨Tryz.f10, Tryz.func10, by kernel_rfl, by kernel_rfl, by kernel_rfl, by kernel_rfl⟩
theorem QeP : Qhm pg 10 := QiF Qfd QbC Qf4
theorem Qeq : Qm pg 12 17 [.tmp 2, .tmp 3] (ZY 36 37 33) := ⟨Tryz.f12, Tryz.func12, by kernel_rfl, by kernel_rfl, by kernel_rfl, by kernel_rfl⟩
theorem QdQ : Qc3 pg 12 := Qgn Qeq QbB Qb5
theorem QiV : Qm pg 13 69 [.tmp 4, .tmp 5] (Qax 26 27 38 3) := ⟨Tryz.f13, Tryz.func13, by kernel_rfl, by kernel_rfl, by kernel_rfl, by kernel_rfl⟩
theorem QhC : Qhe pg 13 := Qma QiV Qne Je Qb2
theorem Xo : Qm pg 46 18 [.tmp 4] Qw := ⟨Tryz.f46, Tryz.func46, by kernel_rfl, by kernel_rfl, by kernel_rfl, by kernel_rfl⟩
theorem QeN : QfF pg 46 := QhV Xo
theorem QbT : Qm pg 25 8 [.tmp 4] (ZK 46) := ⟨Tryz.f25, Tryz.func25, by kernel_rfl, by kernel_rfl, by kernel_rfl, by kernel_rfl⟩
theorem QbM : QfF pg 25 := QcI QbT QeN
theorem QgO : Qm pg 8 86 [.cell 2 33, .tmp 3] (Zm 25 26 27 28 29 33 68 0) := ⟨Tryz.f8, Tryz.func8, by kernel_rfl, by kernel_rfl, by kernel_rfl, by kernel_rfl⟩
theorem QfT : Qhi pg 8 := Qkb QgO QbM Qne Je QaT Qb6 (show Xb Tryz.prog 33 = some (some 5) by kernel_rfl) (show pg.G.lookup 0 = some Qsj by rfl)
theorem QaO : Qm pg 14 3 [.cell 0 24] (Zf 24 21) := ⟨Tryz.f14, Tryz.func14, by kernel_rfl, by kernel_rfl, by kernel_rfl, by kernel_rfl⟩
theorem QdP : Qph pg 14 := Qgk QaO (show Xb Tryz.prog 24 = some (some 4) by kernel_rfl)
theorem Qbz : Qm pg 4 42 [.tmp 0] (ZE 14 7 15) := ⟨Tryz.f4, Tryz.func4, by kernel_rfl, by kernel_rfl, by kernel_rfl, by kernel_rfl⟩
theorem QfS : Qla pg 4 := Qj4 Qbz QdP Qah QfZ
theorem Js : Qm pg 3 208 [.tmp 4] (Qr 4 5 6 7 8 9 10 11 12 13 24 33) := ⟨Tryz.f3, Tryz.func3, by kernel_rfl, by kernel_rfl, by kernel_rfl, by kernel_rfl⟩
theorem QbN : Qjb pg 3 := QcS Js QfS QfL QfM Qah QfT Qb7 QeP Qb8 QdQ QhC

end Go.Proofs.YtllnphoondgiaabGreatDoor.encodeParts

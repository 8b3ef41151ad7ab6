/- What the functions that the law reaches return in this program, part 4; no conditions. -/
import Derived.Test.YtllnphoondgiaabGreatDoorEncodePartsI3
set_option linter.unusedSectionVars false
set_option linter.unusedSimpArgs false
set_option linter.unusedVariables false
namespace Go.Proofs.YtllnphoondgiaabGreatDoor.encodeParts
open Go.Am Go.ChangeShapes Go.WideShapes Go.ChangeAt Go.RowKit

theorem QlZ : Qm0 pg 83 := Qp7 Qen QhG
theorem Qas : Qm pg 61 48 [.tmp 4] (Q9 83 3) := ⟨Tryz.f61, Tryz.func61, by kernel_rfl, by kernel_rfl, by kernel_rfl, by kernel_rfl⟩
theorem Qdh : Qex 3 pg 61 := QeT Qas QlZ
theorem Qat : Qm pg 84 36 [.tmp 2] (Za 102 3) := ⟨Tryz.f84, Tryz.func84, by kernel_rfl, by kernel_rfl, by kernel_rfl, by kernel_rfl⟩
theorem growI : QfG 3 pg 102 := grow_nilI Tryz.growI rfl rfl (by kernel_rfl)
theorem Qdi : QeH 3 pg 84 := QeU Qat growI
theorem Qdr : Qm pg 62 9 [.tmp 4] (Xu 84 42) := ⟨Tryz.f62, Tryz.func62, by kernel_rfl, by kernel_rfl, by kernel_rfl, by kernel_rfl⟩
theorem Qdj : Qpk 3 pg 62 := QeW Qdr Qdi
theorem QgM : Qm pg 37 39 [.tmp 4, .tmp 5] (JR 49 60 61 62 3) := ⟨Tryz.f37, Tryz.func37, by kernel_rfl, by kernel_rfl, by kernel_rfl, by kernel_rfl⟩
theorem Qb5 : QlT 3 pg 37 := Qj2 QgM Jd QbA Qdh Qdj
theorem QbI : Qm pg 54 43 [] (Xl 37) := ⟨Tryz.f54, Tryz.func54, by kernel_rfl, by kernel_rfl, by kernel_rfl, by kernel_rfl⟩
theorem Qf2 : Qez 3 pg 54 := QkC QbI Qb5
theorem Qi6 : Qm pg 33 4 [.tmp 2] (QaD 54 24) := ⟨Tryz.f33, Tryz.func33, by kernel_rfl, by kernel_rfl, by kernel_rfl, by kernel_rfl⟩
theorem QhN : QeA 54 pg 33 := QmK Qi6
theorem QgX : Qm pg 87 25 [.tmp 0] (JV 179) := ⟨Tryz.f87, Tryz.func87, by kernel_rfl, by kernel_rfl, by kernel_rfl, by kernel_rfl⟩
theorem Qf0 : Qg6 pg 87 := Qky QgX
theorem Qff : Qm pg 86 29 [.tmp 6] Jo := ⟨Tryz.f86, Tryz.func86, by kernel_rfl, by kernel_rfl, by kernel_rfl, by kernel_rfl⟩
theorem QeQ : QeJ pg 86 := QiI Qff
theorem Qi3 : Qm pg 69 13 [.tmp 4, .tmp 5] (X7 87 86) := ⟨Tryz.f69, Tryz.func69, by kernel_rfl, by kernel_rfl, by kernel_rfl, by kernel_rfl⟩
theorem QhL : Qk1 pg 69 := QmF Qi3 Qf0 QeQ
theorem QkQ : Qm pg 52 8 [.tmp 2, .tmp 3] (JE 69) := ⟨Tryz.f52, Tryz.func52, by kernel_rfl, by kernel_rfl, by kernel_rfl, by kernel_rfl⟩
theorem QdT : QlQ pg 52 := QoI QkQ QhL
theorem Qo2 : Qm pg 53 18 [.cell 2 72] (QcY 72) := ⟨Tryz.f53, Tryz.func53, by kernel_rfl, by kernel_rfl, by kernel_rfl, by kernel_rfl⟩
theorem Qna : Qpe pg 53 := Qrx Qo2 (show Xb Tryz.prog 72 = some (some 16) by kernel_rfl)
theorem QkM : Qm pg 32 22 [.cell 2 72, .tmp 3] (Qa4 52 53 72) := ⟨Tryz.f32, Tryz.func32, by kernel_rfl, by kernel_rfl, by kernel_rfl, by kernel_rfl⟩
theorem Qjo : Qpd pg 32 := QnJ QkM QdT Qna (show Xb Tryz.prog 72 = some (some 16) by kernel_rfl)
theorem QgZ : Qpo pg 11 45 [.cell 4 39, .cell 5 29] (JX 30 32 33 35 34 24 39 29 72 28) := ⟨Tryz.f11, Tryz.func11, by kernel_rfl, by kernel_rfl, by kernel_rfl, by kernel_rfl⟩
theorem Qb8 : QdM pg 11 := QkD QgZ Qc9 Qjo QhN Qf2 QbI Qc8 Qdm (show Xb Tryz.prog 39 = some none by kernel_rfl) (show Xb Tryz.prog 29 = some none by kernel_rfl) (by decide) (by decide) (by decide) (by decide) (by decide)
theorem QkP : Qm pg 44 16 [.tmp 2, .tmp 3] (JD 52) := ⟨Tryz.f44, Tryz.func44, by kernel_rfl, by kernel_rfl, by kernel_rfl, by kernel_rfl⟩
theorem Qjs : Qk5 pg 44 := QoG QkP QdT
theorem Qfe : Qm pg 20 18 [.tmp 2, .tmp 3] (Xk 44 43) := ⟨Tryz.f20, Tryz.func20, by kernel_rfl, by kernel_rfl, by kernel_rfl, by kernel_rfl⟩
theorem QbC : Qbp pg 20 := QiG Qfe Qjs Qbb
theorem QgK : Qm pg 38 31 [.tmp 2] ZS := ⟨Tryz.f38, Tryz.func38, by kernel_rfl, by kernel_rfl, by kernel_rfl, by kernel_rfl⟩
theorem Qb2 : QcD pg 38 := QjK QgK
theorem QgJ : Qm pg 21 38 [.tmp 2, .tmp 3] (Xz 38 45 27 28) := ⟨Tryz.f21, Tryz.func21, by kernel_rfl, by kernel_rfl, by kernel_rfl, by kernel_rfl⟩
theorem Qem : Qm pg 45 13 [] (ZX 43 5) := ⟨Tryz.f45, Tryz.func45, by kernel_rfl, by kernel_rfl, by kernel_rfl, by kernel_rfl⟩
theorem QfK : Qew pg 21 := QjJ QgJ Qb2 Qem Qbb Je
theorem Qep : Qm pg 28 44 [.tmp 2] (Qx 33) := ⟨Tryz.f28, Tryz.func28, by kernel_rfl, by kernel_rfl, by kernel_rfl, by kernel_rfl⟩
theorem QaT : QdK pg 28 := Qgm Qep
theorem QgN : Qm pg 29 25 [.tmp 2] (ZT 49 33) := ⟨Tryz.f29, Tryz.func29, by kernel_rfl, by kernel_rfl, by kernel_rfl, by kernel_rfl⟩
theorem Qb6 : QlS pg 29 := Qka QgN Jd
theorem Qfb : Qm pg 36 11 [.tmp 2] (Zx 28 29 33) := ⟨Tryz.f36, Tryz.func36, by kernel_rfl, by kernel_rfl, by kernel_rfl, by kernel_rfl⟩
theorem QbB : QcE pg 36 := Qij Qfb QaT Qb6
theorem QgP : Qm pg 9 35 [.cell 4 33, .tmp 5] (Zn 30 24 33) := ⟨Tryz.f9, Tryz.func9, by kernel_rfl, by kernel_rfl, by kernel_rfl, by kernel_rfl⟩
theorem Qb7 : QdL pg 9 := Qkc QgP Qc9 (show Xb Tryz.prog 33 = some (some 5) by kernel_rfl)

end Go.Proofs.YtllnphoondgiaabGreatDoor.encodeParts

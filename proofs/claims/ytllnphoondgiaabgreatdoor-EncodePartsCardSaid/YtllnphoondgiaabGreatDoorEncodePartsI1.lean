/- What the functions that the law reaches return in this program, part 1; no conditions. -/
import Derived.Test.YtllnphoondgiaabGreatDoorRows
import Derived.Test.YtllnphoondgiaabGreatDoorEncodePartsY1
set_option linter.unusedSectionVars false
set_option linter.unusedSimpArgs false
set_option linter.unusedVariables false
namespace Go.Proofs.YtllnphoondgiaabGreatDoor.encodeParts
open Go.Am Go.ChangeShapes Go.WideShapes Go.ChangeAt Go.RowKit

noncomputable def pg : Prg := ⟨Tryz.prog, [(0, [.int .i64 2, .int .i64 2, .int .i64 2, .int .i64 4, .int .i64 4])], fun g cs h => by
  simp only [List.lookup] at h
  repeat (first | (cases h; done) | (split at h; first | (cases h; rfl) | skip))⟩

theorem QmU : Qm pg 47 31 [.tmp 2, .tmp 3] QbX := ⟨Tryz.f47, Tryz.func47, by kernel_rfl, by kernel_rfl, by kernel_rfl, by kernel_rfl⟩
theorem Ql0 : Qc1 pg 47 := Qqb QmU
theorem Qr8 : Qm pg 26 33 [.tmp 6, .tmp 7] (QdJ 47) := ⟨Tryz.f26, Tryz.func26, by kernel_rfl, by kernel_rfl, by kernel_rfl, by kernel_rfl⟩
theorem Qne : Qg8 pg 26 := Qtu Qr8 Ql0
theorem QgG : Qm pg 68 18 [.tmp 2, .tmp 3, .tmp 4] Zl := ⟨Tryz.f68, Tryz.func68, by kernel_rfl, by kernel_rfl, by kernel_rfl, by kernel_rfl⟩
theorem Qb0 : Qhf pg 68 := Qjj QgG
theorem QbW : Qm pg 63 10 [.tmp 2] ZM := ⟨Tryz.f63, Tryz.func63, by kernel_rfl, by kernel_rfl, by kernel_rfl, by kernel_rfl⟩
theorem Qc6 : QlR pg 63 := Qmj QbW
theorem QgH : Qm pg 51 37 [.tmp 4] (JO 68) := ⟨Tryz.f51, Tryz.func51, by kernel_rfl, by kernel_rfl, by kernel_rfl, by kernel_rfl⟩
theorem Qb1 : QaG pg 51 := Qjk QgH Qb0
theorem Qby : Qm pg 40 37 [.tmp 4] (ZD 63) := ⟨Tryz.f40, Tryz.func40, by kernel_rfl, by kernel_rfl, by kernel_rfl, by kernel_rfl⟩
theorem QfQ : QaG pg 40 := QjX Qby Qc6
theorem Qe9 : Qm pg 60 14 [.tmp 2, .tmp 3] Zw := ⟨Tryz.f60, Tryz.func60, by kernel_rfl, by kernel_rfl, by kernel_rfl, by kernel_rfl⟩
theorem QbA : QaH pg 60 := Qid Qe9
theorem QbV : Qm pg 85 17 [.tmp 2, .tmp 3] QL := ⟨Tryz.f85, Tryz.func85, by kernel_rfl, by kernel_rfl, by kernel_rfl, by kernel_rfl⟩
theorem QhF : QaH pg 85 := Qmi QbV
theorem Qes : Qm pg 67 25 [.tmp 2] (XR 68 52) := ⟨Tryz.f67, Tryz.func67, by kernel_rfl, by kernel_rfl, by kernel_rfl, by kernel_rfl⟩
theorem QaU : JH pg 67 := Qgs Qes Qb0
theorem Qbw : Qm pg 39 17 [.tmp 2] (QH 63 52) := ⟨Tryz.f39, Tryz.func39, by kernel_rfl, by kernel_rfl, by kernel_rfl, by kernel_rfl⟩
theorem Qb4 : JH pg 39 := QjV Qbw Qc6
theorem QmT : Qm pg 91 18 [.cell 4 129, .tmp 5] (Xt 72 129) := ⟨Tryz.f91, Tryz.func91, by kernel_rfl, by kernel_rfl, by kernel_rfl, by kernel_rfl⟩
theorem Qfi : QlP pg 91 := QpC QmT (show Xb Tryz.prog 129 = some (some 33) by kernel_rfl)
theorem QiU : Qm pg 109 11 [.tmp 2] (Xf 129) := ⟨Tryz.f109, Tryz.func109, by kernel_rfl, by kernel_rfl, by kernel_rfl, by kernel_rfl⟩
theorem QaS : QcC pg 109 := Ql4 QiU
theorem QiT : Qm pg 105 36 [.tmp 2, .tmp 3] (Qaw 109 129) := ⟨Tryz.f105, Tryz.func105, by kernel_rfl, by kernel_rfl, by kernel_rfl, by kernel_rfl⟩
theorem QhB : Qhc pg 105 := Ql3 QiT QaS
theorem QkK : Qm pg 112 9 [.tmp 2] XG := ⟨Tryz.f112, Tryz.func112, by kernel_rfl, by kernel_rfl, by kernel_rfl, by kernel_rfl⟩
theorem Qjm : QkZ pg 112 := Qnp QkK
theorem QiS : Qm pg 110 53 [.cell 4 129, .tmp 5] (Qav 109 112 129) := ⟨Tryz.f110, Tryz.func110, by kernel_rfl, by kernel_rfl, by kernel_rfl, by kernel_rfl⟩
theorem QhA : Qhb pg 110 := Ql2 QiS (show Xb Tryz.prog 129 = some (some 33) by kernel_rfl) QaS Qjm
theorem QkL : Qm pg 111 22 [.cell 4 129, .tmp 5] (Qa3 109 129) := ⟨Tryz.f111, Tryz.func111, by kernel_rfl, by kernel_rfl, by kernel_rfl, by kernel_rfl⟩
theorem Qjn : Qk0 pg 111 := Qnq QkL (show Xb Tryz.prog 129 = some (some 33) by kernel_rfl) QaS
theorem QiX : Qm pg 106 20 [.cell 6 129] (Qay 110 111 129) := ⟨Tryz.f106, Tryz.func106, by kernel_rfl, by kernel_rfl, by kernel_rfl, by kernel_rfl⟩
theorem QhH : QeD pg 106 := Qmn QiX (show Xb Tryz.prog 129 = some (some 33) by kernel_rfl) QhA Qjn
theorem QgL : Qm pg 94 27 [.tmp 4, .cell 5 129, .tmp 6] (JQ 105 106 129) := ⟨Tryz.f94, Tryz.func94, by kernel_rfl, by kernel_rfl, by kernel_rfl, by kernel_rfl⟩
theorem QfR : Qc2 pg 94 := Qj1 QgL (show Xb Tryz.prog 129 = some (some 33) by kernel_rfl) QhB QhH
theorem QgR : Qm pg 103 10 [.tmp 2, .tmp 3] ZU := ⟨Tryz.f103, Tryz.func103, by kernel_rfl, by kernel_rfl, by kernel_rfl, by kernel_rfl⟩
theorem QfV : Qhk pg 103 := Qkh QgR
theorem QgQ : Qm pg 104 16 [.tmp 4] XA := ⟨Tryz.f104, Tryz.func104, by kernel_rfl, by kernel_rfl, by kernel_rfl, by kernel_rfl⟩
theorem QfU : Qhj pg 104 := Qkg QgQ
theorem QgS : Qm pg 93 19 [.tmp 4, .tmp 5] (JS 103 104) := ⟨Tryz.f93, Tryz.func93, by kernel_rfl, by kernel_rfl, by kernel_rfl, by kernel_rfl⟩
theorem QfW : Qhl pg 93 := Qki QgS QfV QfU
theorem QkT : Qm pg 72 21 [.cell 4 131, .tmp 5] (Qa6 91 72 131 129) := ⟨Tryz.f72, Tryz.func72, by kernel_rfl, by kernel_rfl, by kernel_rfl, by kernel_rfl⟩
theorem Qjv : Qpj pg 72 := QoQ QkT (show Xb Tryz.prog 131 = some (some 35) by kernel_rfl) Qfi
theorem Qg0 : Qm pg 92 24 [.tmp 2] (JY 91 131 129) := ⟨Tryz.f92, Tryz.func92, by kernel_rfl, by kernel_rfl, by kernel_rfl, by kernel_rfl⟩

end Go.Proofs.YtllnphoondgiaabGreatDoor.encodeParts

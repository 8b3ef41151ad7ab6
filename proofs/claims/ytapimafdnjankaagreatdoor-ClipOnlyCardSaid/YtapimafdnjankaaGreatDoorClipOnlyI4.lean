/- What the functions that the law reaches return in this program, part 4; no conditions. -/
import Derived.Test.YtapimafdnjankaaGreatDoorClipOnlyI3
set_option linter.unusedSectionVars false
set_option linter.unusedSimpArgs false
set_option linter.unusedVariables false
namespace Go.Proofs.YtapimafdnjankaaGreatDoor.clipOnly
open Go.Am Go.ChangeShapes Go.WideShapes Go.ChangeAt Go.RowKit

theorem Qfx : Js pg 131 := Qiq Xn
theorem QqM : Qj pg 90 14 [.cell 2 135, .tmp 3] (QbQ 131 135) := ⟨Tryz.f90, Tryz.func90, by kernel_rfl, by kernel_rfl, by kernel_rfl, by kernel_rfl⟩
theorem Qos : Quq pg 90 := Quh QqM Qfx (show ZG Tryz.prog 135 = some (some 2) by kernel_rfl)
theorem Qn6 : Qj pg 165 46 [.cell 6 135, .tmp 7] (Qct 154 167 213 135) := ⟨Tryz.f165, Tryz.func165, by kernel_rfl, by kernel_rfl, by kernel_rfl, by kernel_rfl⟩
theorem Qgx : Qj pg 213 75 [] (JK 5) := ⟨Tryz.f213, Tryz.func213, by kernel_rfl, by kernel_rfl, by kernel_rfl, by kernel_rfl⟩
theorem Qm3 : Quv pg 165 := Qsx Qn6 Q9 Qga Qgx (show ZG Tryz.prog 135 = some (some 2) by kernel_rfl)
theorem Qec : Qj pg 89 46 [.tmp 2, .tmp 3] (Q2 83 164) := ⟨Tryz.f89, Tryz.func89, by kernel_rfl, by kernel_rfl, by kernel_rfl, by kernel_rfl⟩
theorem Qd0 : QhH pg 89 := QfU Qec QeG Qm1
theorem Qeb : Qj pg 91 76 [.tmp 6, .tmp 7, .tmp 8] (XN 153 165 166 135 132 131 136) := ⟨Tryz.f91, Tryz.func91, by kernel_rfl, by kernel_rfl, by kernel_rfl, by kernel_rfl⟩
theorem QdZ : Qll pg 91 := QfT Qeb QdH Qm3 QjR
theorem Qed : Qj pg 24 87 [.tmp 8, .tmp 9] (Qy 88 89 90 91 92 93 28 40 135) := ⟨Tryz.f24, Tryz.func24, by kernel_rfl, by kernel_rfl, by kernel_rfl, by kernel_rfl⟩
theorem Qd1 : QhP pg 24 := QfV Qed Jz Qd0 Qos QdZ Qbz Qdd
theorem Qop : Qex 5 pg 131 := Qud Xn
theorem Qn4 : Qj pg 157 44 [.cell 6 135, .tmp 7] (QaZ 154 212 213 135) := ⟨Tryz.f157, Tryz.func157, by kernel_rfl, by kernel_rfl, by kernel_rfl, by kernel_rfl⟩
theorem Qld : Qj pg 212 9 [.cell 2 135] (JX 131 135) := ⟨Tryz.f212, Tryz.func212, by kernel_rfl, by kernel_rfl, by kernel_rfl, by kernel_rfl⟩
theorem Qde : Qjw pg 157 := Qsv Qn4 Q9 Qld Qgx Qop (show ZG Tryz.prog 135 = some (some 2) by kernel_rfl) (show ZG Tryz.prog 135 = some (some 2) by kernel_rfl)
theorem Qf0 : Qj pg 245 13 [.tmp 2, .tmp 3] JI := ⟨Tryz.f245, Tryz.func245, by kernel_rfl, by kernel_rfl, by kernel_rfl, by kernel_rfl⟩
theorem Qfw : QqU pg 245 := Qik Qf0
theorem Qho : Qj pg 215 32 [.cell 4 135, .tmp 5] (J6 154 245 157 135) := ⟨Tryz.f215, Tryz.func215, by kernel_rfl, by kernel_rfl, by kernel_rfl, by kernel_rfl⟩
theorem QgD : QhD pg 215 := QjX Qho Q9 Qfw Qde (show ZG Tryz.prog 135 = some (some 2) by kernel_rfl)
theorem Qjh : Qj pg 158 57 [.cell 6 135, .tmp 7] (Jl 154 214 215 157 135) := ⟨Tryz.f158, Tryz.func158, by kernel_rfl, by kernel_rfl, by kernel_rfl, by kernel_rfl⟩
theorem Qh9 : QhG pg 158 := Qnj Qjh Q9 Qf9 QgD Qde (show ZG Tryz.prog 135 = some (some 2) by kernel_rfl)
theorem Qjk : Qj pg 81 69 [.cell 6 135, .cell 7 131, .tmp 8] (Jn 154 155 156 157 158 159 135 131) := ⟨Tryz.f81, Tryz.func81, by kernel_rfl, by kernel_rfl, by kernel_rfl, by kernel_rfl⟩
theorem Qid : QhI pg 81 := QnF Qjk Q9 QdI Qbi Qde Qh9 QdR Qca Qbi (show ZG Tryz.prog 135 = some (some 2) by kernel_rfl) (show ZG Tryz.prog 131 = some (some 4) by kernel_rfl)
theorem Qd8 : Qj pg 80 11 [.cell 0 132] (XL 153 132) := ⟨Tryz.f80, Tryz.func80, by kernel_rfl, by kernel_rfl, by kernel_rfl, by kernel_rfl⟩
theorem QdX : Qc5 pg 80 := QfL Qd8 QdH (show ZG Tryz.prog 132 = some (some 24) by kernel_rfl)
theorem J2 : Qj pg 85 36 [.tmp 2] (Q5 162 5) := ⟨Tryz.f85, Tryz.func85, by kernel_rfl, by kernel_rfl, by kernel_rfl, by kernel_rfl⟩
theorem growB : Qfq 5 pg 162 := grow_nil Tryz.growB rfl rfl (by kernel_rfl)
theorem QeB : QhQ pg 85 := QgQ J2 growB
theorem Qea : Qj pg 22 85 [.tmp 6, .tmp 7] (ZZ 79 80 81 82 83 84 85 28 40 132 135 131 43) := ⟨Tryz.f22, Tryz.func22, by kernel_rfl, by kernel_rfl, by kernel_rfl, by kernel_rfl⟩
theorem Qhu : Qj pg 82 64 [] (XS 135 5) := ⟨Tryz.f82, Tryz.func82, by kernel_rfl, by kernel_rfl, by kernel_rfl, by kernel_rfl⟩
theorem Qa3 : QsC pg 22 := QfN Qea QdY QdX Qid Qhu QeG Qm2 QeB
theorem Qds : Qj pg 202 51 [.tmp 4, .tmp 5] Xu := ⟨Tryz.f202, Tryz.func202, by kernel_rfl, by kernel_rfl, by kernel_rfl, by kernel_rfl⟩
theorem Qic : Qn9 pg 202 := Qnq Qds
theorem Qfg : Qj pg 145 30 [.tmp 4, .tmp 5] (Ja 201 202) := ⟨Tryz.f145, Tryz.func145, by kernel_rfl, by kernel_rfl, by kernel_rfl, by kernel_rfl⟩
theorem QmZ : Qn9 pg 145 := QrW Qfg Qic
theorem QaM : Qj pg 75 48 [.tmp 4] (Zj 145 3) := ⟨Tryz.f75, Tryz.func75, by kernel_rfl, by kernel_rfl, by kernel_rfl, by kernel_rfl⟩
theorem QdT : Qfn 3 pg 75 := QfC QaM QmZ
theorem QaN : Qj pg 146 36 [.tmp 2] (Zk 203 3) := ⟨Tryz.f146, Tryz.func146, by kernel_rfl, by kernel_rfl, by kernel_rfl, by kernel_rfl⟩
theorem growI : QgA 3 pg 203 := grow_nilI Tryz.growI rfl rfl (by kernel_rfl)
theorem QdU : Qfr 3 pg 146 := QfD QaN growI
theorem Qd7 : Qj pg 76 9 [.tmp 4] (XJ 146 37) := ⟨Tryz.f76, Tryz.func76, by kernel_rfl, by kernel_rfl, by kernel_rfl, by kernel_rfl⟩
theorem QdV : Qq1 3 pg 76 := QfI Qd7 QdU
theorem Qhq : Qj pg 20 39 [.tmp 4, .tmp 5] (J8 73 74 75 76 3) := ⟨Tryz.f20, Tryz.func20, by kernel_rfl, by kernel_rfl, by kernel_rfl, by kernel_rfl⟩
theorem Qcz : QmQ 3 pg 20 := Qks Qhq Qbh Qb2 QdT QdV

end Go.Proofs.YtapimafdnjankaaGreatDoor.clipOnly

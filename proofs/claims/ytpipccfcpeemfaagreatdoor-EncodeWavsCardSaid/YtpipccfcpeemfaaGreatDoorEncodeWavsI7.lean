/- What the functions that the law reaches return in this program, part 7; no conditions. -/
import Derived.Test.YtpipccfcpeemfaaGreatDoorEncodeWavsI6
set_option linter.unusedSectionVars false
set_option linter.unusedSimpArgs false
set_option linter.unusedVariables false
namespace Go.Proofs.YtpipccfcpeemfaaGreatDoor.encodeWavs
open Go.Am Go.ChangeShapes Go.WideShapes Go.ChangeAt Go.RowKit

theorem QeG : Qf pg 71 43 [] (J2 72) := ⟨Tryz.f71, Tryz.func71, by kernel_rfl, by kernel_rfl, by kernel_rfl, by kernel_rfl⟩
theorem Qle : Qi1 3 pg 71 := Qq7 QeG Qk2
theorem Qpg : Qf pg 40 4 [.tmp 2] (QcO 71 31) := ⟨Tryz.f40, Tryz.func40, by kernel_rfl, by kernel_rfl, by kernel_rfl, by kernel_rfl⟩
theorem QnL : Qi2 71 pg 40 := Quh Qpg
theorem Qmn : Qf pg 120 25 [.tmp 0] (Qb4 238) := ⟨Tryz.f120, Tryz.func120, by kernel_rfl, by kernel_rfl, by kernel_rfl, by kernel_rfl⟩
theorem Qlc : Qmy pg 120 := Qq4 Qmn
theorem Qj1 : Qf pg 119 29 [.tmp 6] Qbq := ⟨Tryz.f119, Tryz.func119, by kernel_rfl, by kernel_rfl, by kernel_rfl, by kernel_rfl⟩
theorem QjA : Qje pg 119 := QoS Qj1
theorem Qpd : Qf pg 94 13 [.tmp 4, .tmp 5] (Qa3 120 119) := ⟨Tryz.f94, Tryz.func94, by kernel_rfl, by kernel_rfl, by kernel_rfl, by kernel_rfl⟩
theorem QnJ : QgS pg 94 := Qud Qpd Qlc QjA
theorem Qrr : Qf pg 69 8 [.tmp 2, .tmp 3] (QbL 94) := ⟨Tryz.f69, Tryz.func69, by kernel_rfl, by kernel_rfl, by kernel_rfl, by kernel_rfl⟩
theorem QhV : QiP pg 69 := QwP Qrr QnJ
theorem Qfd : Qf pg 170 18 [.tmp 4] Q1 := ⟨Tryz.f170, Tryz.func170, by kernel_rfl, by kernel_rfl, by kernel_rfl, by kernel_rfl⟩
theorem Qny : QrE pg 170 := QtM Qfd
theorem Qff : Qf pg 146 18 [.tmp 4] (Ji 170) := ⟨Tryz.f146, Tryz.func146, by kernel_rfl, by kernel_rfl, by kernel_rfl, by kernel_rfl⟩
theorem QnA : QrO pg 146 := QtO Qff Qny
theorem Qdx : Qf pg 118 19 [.tmp 4] (Xj 146) := ⟨Tryz.f118, Tryz.func118, by kernel_rfl, by kernel_rfl, by kernel_rfl, by kernel_rfl⟩
theorem Qew : QdZ pg 118 := Qoh Qdx QnA
theorem Qfe : Qf pg 136 12 [.tmp 4, .tmp 5] (ZN 118) := ⟨Tryz.f136, Tryz.func136, by kernel_rfl, by kernel_rfl, by kernel_rfl, by kernel_rfl⟩
theorem Qnz : QgS pg 136 := QtN Qfe Qew
theorem Qf7 : Qf pg 112 8 [.tmp 2, .tmp 3] (Z3 136) := ⟨Tryz.f112, Tryz.func112, by kernel_rfl, by kernel_rfl, by kernel_rfl, by kernel_rfl⟩
theorem QpK : QiP pg 112 := QvL Qf7 Qnz
theorem Qxg : Qf pg 70 18 [.cell 2 91] (QgL 91) := ⟨Tryz.f70, Tryz.func70, by kernel_rfl, by kernel_rfl, by kernel_rfl, by kernel_rfl⟩
theorem QuQ : QkA pg 70 := Qz1 Qxg (show Q6 Tryz.prog 91 = some (some 16) by kernel_rfl)
theorem QgI : Qf pg 113 23 [.cell 2 91] (J4 91) := ⟨Tryz.f113, Tryz.func113, by kernel_rfl, by kernel_rfl, by kernel_rfl, by kernel_rfl⟩
theorem Qs6 : QkA pg 113 := Qyu QgI (show Q6 Tryz.prog 91 = some (some 16) by kernel_rfl)
theorem Qrk : Qf pg 39 22 [.cell 2 91, .tmp 3] (QdA 69 70 91) := ⟨Tryz.f39, Tryz.func39, by kernel_rfl, by kernel_rfl, by kernel_rfl, by kernel_rfl⟩
theorem Qpz : Qky pg 39 := Qvs Qrk QhV QuQ (show Q6 Tryz.prog 91 = some (some 16) by kernel_rfl)
theorem Qe3 : Qf pg 88 18 [.cell 2 91, .tmp 3] (Jd 112 113 91) := ⟨Tryz.f88, Tryz.func88, by kernel_rfl, by kernel_rfl, by kernel_rfl, by kernel_rfl⟩
theorem Qnq : Qky pg 88 := QtC Qe3 QpK Qs6 (show Q6 Tryz.prog 91 = some (some 16) by kernel_rfl)
theorem Qmp : QxP pg 16 45 [.cell 4 56, .cell 5 23] (Qb6 14 39 40 42 41 31 56 23 91 22) := ⟨Tryz.f16, Tryz.func16, by kernel_rfl, by kernel_rfl, by kernel_rfl, by kernel_rfl⟩
theorem Qlf : QmR pg 16 := Qq8 Qmp Qde Qpz QnL Qle QeG Qg1 Qhh (show Q6 Tryz.prog 56 = some none by kernel_rfl) (show Q6 Tryz.prog 23 = some none by kernel_rfl) (by decide) (by decide) (by decide) (by decide) (by decide)
theorem Qrq : Qf pg 46 16 [.tmp 2, .tmp 3] (QbK 69) := ⟨Tryz.f46, Tryz.func46, by kernel_rfl, by kernel_rfl, by kernel_rfl, by kernel_rfl⟩
theorem QpP : QrL pg 46 := QwN Qrq QhV
theorem Qj0 : Qf pg 18 18 [.tmp 2, .tmp 3] (J1 46 44) := ⟨Tryz.f18, Tryz.func18, by kernel_rfl, by kernel_rfl, by kernel_rfl, by kernel_rfl⟩
theorem Qjz : QgV pg 18 := QoP Qj0 QpP Qcb
theorem QeX : Qf pg 92 6 [.tmp 2] (X9 118) := ⟨Tryz.f92, Tryz.func92, by kernel_rfl, by kernel_rfl, by kernel_rfl, by kernel_rfl⟩
theorem Qnl : Qxu pg 92 := Qtw QeX Qew
theorem Qc2 : Qf pg 61 6 [.tmp 2] (ZY 92 83) := ⟨Tryz.f61, Tryz.func61, by kernel_rfl, by kernel_rfl, by kernel_rfl, by kernel_rfl⟩
theorem QhN : QrC pg 61 := Qlt Qc2 Qnl Xs
theorem Qma : Qf pg 47 31 [.tmp 2] Jp := ⟨Tryz.f47, Tryz.func47, by kernel_rfl, by kernel_rfl, by kernel_rfl, by kernel_rfl⟩
theorem QkK : QiS pg 47 := Qp5 Qma
theorem Ql9 : Qf pg 19 38 [.tmp 2, .tmp 3] (Qap 47 48 45 22) := ⟨Tryz.f19, Tryz.func19, by kernel_rfl, by kernel_rfl, by kernel_rfl, by kernel_rfl⟩
theorem QiA : Qf pg 48 13 [] (Jt 44 5) := ⟨Tryz.f48, Tryz.func48, by kernel_rfl, by kernel_rfl, by kernel_rfl, by kernel_rfl⟩
theorem QkJ : QiR pg 19 := Qp4 Ql9 QkK QiA Qcb QeH

end Go.Proofs.YtpipccfcpeemfaaGreatDoor.encodeWavs

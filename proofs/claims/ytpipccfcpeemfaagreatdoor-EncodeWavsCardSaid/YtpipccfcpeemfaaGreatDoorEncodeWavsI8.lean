/- What the functions that the law reaches return in this program, part 8; no conditions. -/
import Derived.Test.YtpipccfcpeemfaaGreatDoorEncodeWavsI7
set_option linter.unusedSectionVars false
set_option linter.unusedSimpArgs false
set_option linter.unusedVariables false
namespace Go.Proofs.YtpipccfcpeemfaaGreatDoor.encodeWavs
open Go.Am Go.ChangeShapes Go.WideShapes Go.ChangeAt Go.RowKit

theorem QiD : Qf pg 78 44 [.tmp 2] (QO 53) := ⟨Tryz.f78, Tryz.func78, by kernel_rfl, by kernel_rfl, by kernel_rfl, by kernel_rfl⟩
theorem QhS : QmG pg 78 := QlJ QiD
theorem Qmf : Qf pg 79 25 [.tmp 2] (Jq 68 53) := ⟨Tryz.f79, Tryz.func79, by kernel_rfl, by kernel_rfl, by kernel_rfl, by kernel_rfl⟩
theorem Qk4 : QxD pg 79 := QqK Qmf Qbb
theorem QjY : Qf pg 43 11 [.tmp 2] (XE 78 79 53) := ⟨Tryz.f43, Tryz.func43, by kernel_rfl, by kernel_rfl, by kernel_rfl, by kernel_rfl⟩
theorem Qjy : Qi7 pg 43 := QoA QjY QhS Qk4
theorem Qmg : Qf pg 15 35 [.cell 4 53, .tmp 5] (Xc 14 31 53) := ⟨Tryz.f15, Tryz.func15, by kernel_rfl, by kernel_rfl, by kernel_rfl, by kernel_rfl⟩
theorem Qk5 : QmQ pg 15 := QqL Qmg Qde (show Q6 Tryz.prog 53 = some (some 5) by kernel_rfl)
theorem QjX : Qf pg 17 63 [.tmp 2, .tmp 3] (JZ 43 44 45 53 5 1) := ⟨Tryz.f17, Tryz.func17, by kernel_rfl, by kernel_rfl, by kernel_rfl, by kernel_rfl⟩
theorem Qjx : Qi6 pg 17 := Qoz QjX Qjy Qcb QeH (show pg.G.lookup 1 = some QBT by rfl)
theorem QiI : Qf pg 21 5 [.tmp 2] QaQ := ⟨Tryz.f21, Tryz.func21, by kernel_rfl, by kernel_rfl, by kernel_rfl, by kernel_rfl⟩
theorem QhU : Qxz pg 21 := QlP QiI
theorem Qc1 : Qf pg 20 26 [.tmp 4] (ZX 3) := ⟨Tryz.f20, Tryz.func20, by kernel_rfl, by kernel_rfl, by kernel_rfl, by kernel_rfl⟩
theorem Qla : QxF 21 pg 20 := QqU Qc1 QhU
theorem Qml : Qf pg 22 17 [.tmp 2] (Qb3 5) := ⟨Tryz.f22, Tryz.func22, by kernel_rfl, by kernel_rfl, by kernel_rfl, by kernel_rfl⟩
theorem Qk9 : QrH pg 22 := QqT Qml
theorem Qmm : Qf pg 7 62 [.tmp 4, .tmp 5] (Zj 15 16 17 18 20 21 19 22 31 53 22) := ⟨Tryz.f7, Tryz.func7, by kernel_rfl, by kernel_rfl, by kernel_rfl, by kernel_rfl⟩
theorem Qlb : QmW pg 7 := QqV Qmm Qk5 Qlf Qjx Qjz Qla QkJ Qk9
theorem QeY : Qf pg 114 7 [.tmp 2] ZK := ⟨Tryz.f114, Tryz.func114, by kernel_rfl, by kernel_rfl, by kernel_rfl, by kernel_rfl⟩
theorem Qnm : QmN pg 114 := Qtx QeY
theorem Qeg : Qf pg 89 22 [.tmp 4] (XL 114 3) := ⟨Tryz.f89, Tryz.func89, by kernel_rfl, by kernel_rfl, by kernel_rfl, by kernel_rfl⟩
theorem QkQ : QiQ pg 89 := Qqi Qeg Qnm
theorem QgH : Qf pg 60 23 [.cell 4 53] (Xr 31 53) := ⟨Tryz.f60, Tryz.func60, by kernel_rfl, by kernel_rfl, by kernel_rfl, by kernel_rfl⟩
theorem Qs5 : QxB pg 60 := Qyt QgH (show Q6 Tryz.prog 53 = some (some 5) by kernel_rfl)
theorem Qef : Qf pg 62 25 [.tmp 2] (XJ 83 91 5) := ⟨Tryz.f62, Tryz.func62, by kernel_rfl, by kernel_rfl, by kernel_rfl, by kernel_rfl⟩
theorem QkP : Qjd pg 62 := Qqh Qef Xs Qgf
theorem Qeh : Qf pg 59 42 [.tmp 2] (XM 83 91 53 5) := ⟨Tryz.f59, Tryz.func59, by kernel_rfl, by kernel_rfl, by kernel_rfl, by kernel_rfl⟩
theorem QkR : QgU 5 pg 59 := Qqj Qeh Xs Qgf
theorem Qdo : Qf pg 58 66 [.tmp 4] (Xe 88 89 90 31 91 22) := ⟨Tryz.f58, Tryz.func58, by kernel_rfl, by kernel_rfl, by kernel_rfl, by kernel_rfl⟩
theorem Qjn : QxC pg 58 := Qn7 Qdo Qnq QkQ Qjr
theorem Qea : Qf pg 28 50 [.tmp 4] (XF 58 60 59 61 62 31 5 3) := ⟨Tryz.f28, Tryz.func28, by kernel_rfl, by kernel_rfl, by kernel_rfl, by kernel_rfl⟩
theorem QkL : QAQ pg 28 := Qqc Qea Qjn Qs5 QkR QhN QkP
theorem QeS : Qf pg 9 18 [.tmp 4, .tmp 5] (Zd 27 28 31) := ⟨Tryz.f9, Tryz.func9, by kernel_rfl, by kernel_rfl, by kernel_rfl, by kernel_rfl⟩
theorem Qng : QmK pg 9 := Qtr QeS Qfv QkL
theorem Qo7 : Qf pg 4 21 [.tmp 4, .tmp 5] (Qa0 6 7 31) := ⟨Tryz.f4, Tryz.func4, by kernel_rfl, by kernel_rfl, by kernel_rfl, by kernel_rfl⟩
theorem QnF : QkD pg 4 := Qkq Qo7 Qs3 Qlb
theorem QfX : Qf pg 5 21 [.tmp 4, .tmp 5] (Qbr 8 9 31) := ⟨Tryz.f5, Tryz.func5, by kernel_rfl, by kernel_rfl, by kernel_rfl, by kernel_rfl⟩
theorem QpD : QkD pg 5 := QvC QfX Qnh Qng
theorem QbV : Qf pg 3 39 [.tmp 4] (QS 4 5) := ⟨Tryz.f3, Tryz.func3, by kernel_rfl, by kernel_rfl, by kernel_rfl, by kernel_rfl⟩
theorem Qfy : QxA pg 3 := Qhj QbV QnF QpD

end Go.Proofs.YtpipccfcpeemfaaGreatDoor.encodeWavs

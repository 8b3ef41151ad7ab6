/- What the functions that the law reaches return in this program, part 6; no conditions. -/
import Derived.Test.YtpipccfcpeemfabGreatDoorEncodeNamesI5
set_option linter.unusedSectionVars false
set_option linter.unusedSimpArgs false
set_option linter.unusedVariables false
namespace Go.Proofs.YtpipccfcpeemfabGreatDoor.encodeNames
open Go.Am Go.ChangeShapes Go.WideShapes Go.ChangeAt Go.RowKit

theorem QhJ : QsB pg 65 := Qmw QiJ JK
theorem QgX : Body pg 31 11 [.tmp 2] (ZP 64 65 37) := ⟨Tryz.f31, Tryz.func31, by kernel_rfl, by kernel_rfl, by kernel_rfl, by kernel_rfl⟩
theorem Qgr : Qgh pg 31 := Qks QgX Qfg QhJ
theorem QiK : Body pg 11 35 [.cell 4 37, .tmp 5] (ZA 20 28 37) := ⟨Tryz.f11, Tryz.func11, by kernel_rfl, by kernel_rfl, by kernel_rfl, by kernel_rfl⟩
theorem QhK : Qjf pg 11 := Qmx QiK J6 (show Z5 Tryz.prog 37 = some (some 5) by kernel_rfl)
theorem QgW : Body pg 13 63 [.tmp 2, .tmp 3] (Xy 31 32 33 37 5 0) := ⟨Tryz.f13, Tryz.func13, by kernel_rfl, by kernel_rfl, by kernel_rfl, by kernel_rfl⟩
theorem Qgq : Qgg pg 13 := Qkr QgW Qgr JG QcN (show pg.G.lookup 0 = some Qw6 by rfl)
theorem Qf1 : Body pg 17 5 [.tmp 2] Jk := ⟨Tryz.f17, Tryz.func17, by kernel_rfl, by kernel_rfl, by kernel_rfl, by kernel_rfl⟩
theorem Qfj : Qsz pg 17 := Qin Qf1
theorem Qbz : Body pg 16 26 [.tmp 4] (Zt 3) := ⟨Tryz.f16, Tryz.func16, by kernel_rfl, by kernel_rfl, by kernel_rfl, by kernel_rfl⟩
theorem QhP : QsD 17 pg 16 := QmH Qbz Qfj
theorem QiP : Body pg 18 17 [.tmp 2] (QaC 5) := ⟨Tryz.f18, Tryz.func18, by kernel_rfl, by kernel_rfl, by kernel_rfl, by kernel_rfl⟩
theorem QhO : Qnx pg 18 := QmG QiP
theorem QiR : Body pg 4 62 [.tmp 4, .tmp 5] (QY 11 12 13 14 16 17 15 18 28 37 22) := ⟨Tryz.f4, Tryz.func4, by kernel_rfl, by kernel_rfl, by kernel_rfl, by kernel_rfl⟩
theorem Jr : Qef pg 4 := QmJ QiR QhK QhT Qgq Qgs QhP Qhy QhO
theorem QiQ : Body pg 6 17 [.tmp 4, .tmp 5] (QaD 4 28) := ⟨Tryz.f6, Tryz.func6, by kernel_rfl, by kernel_rfl, by kernel_rfl, by kernel_rfl⟩
theorem Qdb : Qjl pg 6 := QmI QiQ Jr
theorem QbA : Body pg 5 3 [.cell 0 28] (Zu 28 21) := ⟨Tryz.f5, Tryz.func5, by kernel_rfl, by kernel_rfl, by kernel_rfl, by kernel_rfl⟩
theorem QbH : Qoy pg 5 := Qic QbA (show Z5 Tryz.prog 28 = some (some 4) by kernel_rfl)
theorem Qcy : Body pg 9 42 [.tmp 0] (ZV 5 4 6) := ⟨Tryz.f9, Tryz.func9, by kernel_rfl, by kernel_rfl, by kernel_rfl, by kernel_rfl⟩
theorem QhI : Qgl pg 9 := Qmr Qcy QbH Jr Qdb
theorem Qk7 : Body pg 7 21 [.tmp 4, .tmp 5] (Jz 19 4 28) := ⟨Tryz.f7, Tryz.func7, by kernel_rfl, by kernel_rfl, by kernel_rfl, by kernel_rfl⟩
theorem QjN : QsE pg 7 := Qpm Qk7 QoE Jr
theorem J1 : Body pg 3 167 [.tmp 0] (Q5 4 5 6 7 8 9 10 5 21 28) := ⟨Tryz.f3, Tryz.func3, by kernel_rfl, by kernel_rfl, by kernel_rfl, by kernel_rfl⟩
theorem QcM : Qgl pg 3 := Qd1 J1 Jr QbH Qdb QjN Qlz QhI QhB

end Go.Proofs.YtpipccfcpeemfabGreatDoor.encodeNames

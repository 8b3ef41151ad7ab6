/- What the functions that the law reaches return in this program, part 6; no conditions. -/
import Derived.Test.YtpipccfcpeemfacGreatDoorEncodeSameI5
set_option linter.unusedSectionVars false
set_option linter.unusedSimpArgs false
set_option linter.unusedVariables false
namespace Go.Proofs.YtpipccfcpeemfacGreatDoor.encodeSame
open Go.Am Go.ChangeShapes Go.WideShapes Go.ChangeAt Go.RowKit

theorem Qfj : Qjl pg 65 := Qip QfZ
theorem QiT : Body pg 66 25 [.tmp 2] (Xb 72 39) := ⟨Tryz.f66, Tryz.func66, by kernel_rfl, by kernel_rfl, by kernel_rfl, by kernel_rfl⟩
theorem QhP : QsW pg 66 := QmM QiT JL
theorem Qg0 : Body pg 32 11 [.tmp 2] (ZQ 65 66 39) := ⟨Tryz.f32, Tryz.func32, by kernel_rfl, by kernel_rfl, by kernel_rfl, by kernel_rfl⟩
theorem Qgv : Qgm pg 32 := QkE Qg0 Qfj QhP
theorem QiU : Body pg 12 35 [.cell 4 39, .tmp 5] (ZA 23 24 39) := ⟨Tryz.f12, Tryz.func12, by kernel_rfl, by kernel_rfl, by kernel_rfl, by kernel_rfl⟩
theorem QhQ : Qjp pg 12 := QmN QiU J6 (show Z6 Tryz.prog 39 = some (some 5) by kernel_rfl)
theorem QgZ : Body pg 14 63 [.tmp 2, .tmp 3] (Xz 32 33 34 39 5 0) := ⟨Tryz.f14, Tryz.func14, by kernel_rfl, by kernel_rfl, by kernel_rfl, by kernel_rfl⟩
theorem Qgu : Qgl pg 14 := QkD QgZ Qgv JH QcP (show pg.G.lookup 0 = some QxF by rfl)
theorem Qf5 : Body pg 18 5 [.tmp 2] Jn := ⟨Tryz.f18, Tryz.func18, by kernel_rfl, by kernel_rfl, by kernel_rfl, by kernel_rfl⟩
theorem Qfm : QsU pg 18 := Qiw Qf5
theorem QbD : Body pg 17 26 [.tmp 4] (Zt 3) := ⟨Tryz.f17, Tryz.func17, by kernel_rfl, by kernel_rfl, by kernel_rfl, by kernel_rfl⟩
theorem QhV : QsZ 18 pg 17 := QmX QbD Qfm
theorem QiZ : Body pg 19 17 [.tmp 2] (QaD 5) := ⟨Tryz.f19, Tryz.func19, by kernel_rfl, by kernel_rfl, by kernel_rfl, by kernel_rfl⟩
theorem QhU : QnN pg 19 := QmW QiZ
theorem Qi1 : Body pg 6 62 [.tmp 4, .tmp 5] (Q0 12 13 14 15 17 18 16 19 24 39 27) := ⟨Tryz.f6, Tryz.func6, by kernel_rfl, by kernel_rfl, by kernel_rfl, by kernel_rfl⟩
theorem Jt : Qeg pg 6 := QmZ Qi1 QhQ QhZ Qgu Qgw QhV QhD QhU
theorem Qi0 : Body pg 7 17 [.tmp 4, .tmp 5] (QaE 6 24) := ⟨Tryz.f7, Tryz.func7, by kernel_rfl, by kernel_rfl, by kernel_rfl, by kernel_rfl⟩
theorem Qdd : Qjv pg 7 := QmY Qi0 Jt
theorem QbE : Body pg 11 3 [.cell 0 24] (Zu 24 21) := ⟨Tryz.f11, Tryz.func11, by kernel_rfl, by kernel_rfl, by kernel_rfl, by kernel_rfl⟩
theorem Qfi : QsY pg 11 := Qil QbE (show Z6 Tryz.prog 24 = some (some 4) by kernel_rfl)
theorem QcB : Body pg 4 42 [.tmp 0] (ZW 11 6 7) := ⟨Tryz.f4, Tryz.func4, by kernel_rfl, by kernel_rfl, by kernel_rfl, by kernel_rfl⟩
theorem QhO : QnW pg 4 := QmG QcB Qfi Jt Qdd
theorem Qlk : Body pg 10 21 [.tmp 4, .tmp 5] (JA 27 6 24) := ⟨Tryz.f10, Tryz.func10, by kernel_rfl, by kernel_rfl, by kernel_rfl, by kernel_rfl⟩
theorem QjZ : Qs0 pg 10 := QpD Qlk QoV Jt
theorem Qav : Body pg 3 135 [.tmp 4] (Qs 4 5 6 7 8 9 10 24) := ⟨Tryz.f3, Tryz.func3, by kernel_rfl, by kernel_rfl, by kernel_rfl, by kernel_rfl⟩
theorem Qdb : Qly pg 3 := QeJ Qav QhO QhG Jt Qdd QhH QlN QjZ

end Go.Proofs.YtpipccfcpeemfacGreatDoor.encodeSame

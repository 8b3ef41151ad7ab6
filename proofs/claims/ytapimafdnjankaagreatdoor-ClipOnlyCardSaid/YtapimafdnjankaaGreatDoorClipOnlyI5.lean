/- What the functions that the law reaches return in this program, part 5; no conditions. -/
import Derived.Test.YtapimafdnjankaaGreatDoorClipOnlyI4
set_option linter.unusedSectionVars false
set_option linter.unusedSimpArgs false
set_option linter.unusedVariables false
namespace Go.Proofs.YtapimafdnjankaaGreatDoor.clipOnly
open Go.Am Go.ChangeShapes Go.WideShapes Go.ChangeAt Go.RowKit

theorem J3 : Qj pg 144 43 [] (ZN 20) := ⟨Tryz.f144, Tryz.func144, by kernel_rfl, by kernel_rfl, by kernel_rfl, by kernel_rfl⟩
theorem QcB : Qc7 3 pg 144 := QkT J3 Qcz
theorem Qjp : Qj pg 70 4 [.tmp 2] (QaX 144 24) := ⟨Tryz.f70, Tryz.func70, by kernel_rfl, by kernel_rfl, by kernel_rfl, by kernel_rfl⟩
theorem QdK : Qc8 144 pg 70 := QnO Qjp
theorem Qoo : QhR pg 72 := Quc Z2
theorem Qjq : QlC pg 19 21 [.tmp 2, .tmp 3] (Jq 43 70 72 24 34 22) := ⟨Tryz.f19, Tryz.func19, by kernel_rfl, by kernel_rfl, by kernel_rfl, by kernel_rfl⟩
theorem Qig : Qlr pg 19 := QnP Qjq QdL QdK QcB J3 Qoo (by decide) (by decide) (by decide)
theorem Qhv : Qj pg 205 25 [.tmp 0] (Qaa 334) := ⟨Tryz.f205, Tryz.func205, by kernel_rfl, by kernel_rfl, by kernel_rfl, by kernel_rfl⟩
theorem QgN : QhF pg 205 := QkP Qhv
theorem Qf3 : Qj pg 204 29 [.tmp 6] JJ := ⟨Tryz.f204, Tryz.func204, by kernel_rfl, by kernel_rfl, by kernel_rfl, by kernel_rfl⟩
theorem Qfy : Qfs pg 204 := Qi3 Qf3
theorem Qjn : Qj pg 147 13 [.tmp 4, .tmp 5] (Jo 205 204) := ⟨Tryz.f147, Tryz.func147, by kernel_rfl, by kernel_rfl, by kernel_rfl, by kernel_rfl⟩
theorem Qie : Qls pg 147 := QnK Qjn QgN Qfy
theorem Qk9 : Qj pg 77 8 [.tmp 2, .tmp 3] (JV 147) := ⟨Tryz.f77, Tryz.func77, by kernel_rfl, by kernel_rfl, by kernel_rfl, by kernel_rfl⟩
theorem QjS : QqW pg 77 := Qqj Qk9 Qie
theorem QqH : Qj pg 78 18 [.cell 2 40] (Qdu 40) := ⟨Tryz.f78, Tryz.func78, by kernel_rfl, by kernel_rfl, by kernel_rfl, by kernel_rfl⟩
theorem Qok : QqX pg 78 := Qtu QqH (show ZG Tryz.prog 40 = some (some 16) by kernel_rfl)
theorem Qk2 : Qj pg 21 22 [.cell 2 40, .tmp 3] (Qbu 77 78 40) := ⟨Tryz.f21, Tryz.func21, by kernel_rfl, by kernel_rfl, by kernel_rfl, by kernel_rfl⟩
theorem QeC : QmL pg 21 := Qo5 Qk2 QjS Qok (show ZG Tryz.prog 40 = some (some 16) by kernel_rfl)
theorem Qhx : QlC pg 18 45 [.cell 4 30, .cell 5 31] (Qac 43 21 70 71 22 24 30 31 40 43) := ⟨Tryz.f18, Tryz.func18, by kernel_rfl, by kernel_rfl, by kernel_rfl, by kernel_rfl⟩
theorem QcC : Qeu pg 18 := QkU Qhx QdL QeC QdK QcB J3 QdJ Qa3 (show ZG Tryz.prog 30 = some none by kernel_rfl) (show ZG Tryz.prog 31 = some none by kernel_rfl) (by decide) (by decide) (by decide) (by decide) (by decide)
theorem J4 : Qj pg 39 28 [.tmp 4] QK := ⟨Tryz.f39, Tryz.func39, by kernel_rfl, by kernel_rfl, by kernel_rfl, by kernel_rfl⟩
theorem Qcx : Quu pg 39 := Qd3 J4
theorem QqL : Qj pg 27 79 [.cell 8 24, .tmp 9] (Qdx 98 21 20 71 24 24 40 21) := ⟨Tryz.f27, Tryz.func27, by kernel_rfl, by kernel_rfl, by kernel_rfl, by kernel_rfl⟩
theorem Qoq : QhS pg 27 := Que QqL QeI QeC Qcz QdS (show ZG Tryz.prog 28 = some (some 2) by kernel_rfl) Qd1 (show ZG Tryz.prog 24 = some (some 4) by kernel_rfl)
theorem JN : Qj pg 38 29 [.tmp 2] Q4 := ⟨Tryz.f38, Tryz.func38, by kernel_rfl, by kernel_rfl, by kernel_rfl, by kernel_rfl⟩
theorem Qcc : QhM pg 38 := Qdh JN
theorem Qa9 : Qj pg 40 3 [.cell 0 24] (Zu 24 21) := ⟨Tryz.f40, Tryz.func40, by kernel_rfl, by kernel_rfl, by kernel_rfl, by kernel_rfl⟩
theorem QeE : QqZ pg 40 := Qg3 Qa9 (show ZG Tryz.prog 24 = some (some 4) by kernel_rfl)
theorem QbZ : Qj pg 37 60 [.tmp 0] (ZT 40 19 18 22 113 21 22) := ⟨Tryz.f37, Tryz.func37, by kernel_rfl, by kernel_rfl, by kernel_rfl, by kernel_rfl⟩
theorem QgK : Qlz pg 37 := Qku QbZ QeE Qig QcC Qa3 Qdc
theorem QaO : Qj pg 5 94 [.tmp 8] (QB 37 38 27 16 18 39 24) := ⟨Tryz.f5, Tryz.func5, by kernel_rfl, by kernel_rfl, by kernel_rfl, by kernel_rfl⟩
theorem QdW : Qgz pg 5 := QfJ QaO QgK Qcc Qoq QgE QcC Qcx

end Go.Proofs.YtapimafdnjankaaGreatDoor.clipOnly

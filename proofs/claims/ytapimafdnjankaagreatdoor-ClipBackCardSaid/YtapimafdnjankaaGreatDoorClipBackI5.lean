/- What the functions that the law reaches return in this program, part 5; no conditions. -/
import Derived.Test.YtapimafdnjankaaGreatDoorClipBackI4
set_option linter.unusedSectionVars false
set_option linter.unusedSimpArgs false
set_option linter.unusedVariables false
namespace Go.Proofs.YtapimafdnjankaaGreatDoor.clipBack
open Go.Am Go.ChangeShapes Go.WideShapes Go.ChangeAt Go.RowKit

theorem Qd9 : QfL 3 pg 146 := QfX QaY growI
theorem Qek : Qj pg 76 9 [.tmp 4] (XO 146 37) := ⟨Tryz.f76, Tryz.func76, by kernel_rfl, by kernel_rfl, by kernel_rfl, by kernel_rfl⟩
theorem Qea : Qrt 3 pg 76 := Qf0 Qek Qd9
theorem QhH : Qj pg 20 39 [.tmp 4, .tmp 5] (Qai 73 74 75 76 3) := ⟨Tryz.f20, Tryz.func20, by kernel_rfl, by kernel_rfl, by kernel_rfl, by kernel_rfl⟩
theorem QcL : Qm2 3 pg 20 := QkN QhH Qbr Qcb Qd7 Qea
theorem Qae : Qj pg 144 43 [] (ZN 20) := ⟨Tryz.f144, Tryz.func144, by kernel_rfl, by kernel_rfl, by kernel_rfl, by kernel_rfl⟩
theorem QcN : Qdj 3 pg 144 := Qld Qae QcL
theorem QjL : Qj pg 70 4 [.tmp 2] (Qa7 144 24) := ⟨Tryz.f70, Tryz.func70, by kernel_rfl, by kernel_rfl, by kernel_rfl, by kernel_rfl⟩
theorem QdX : Qdk 144 pg 70 := Qn4 QjL
theorem QoK : Qia pg 72 := Qur Z2
theorem QjM : QlZ pg 19 21 [.tmp 2, .tmp 3] (Jw 43 70 72 24 34 22) := ⟨Tryz.f19, Tryz.func19, by kernel_rfl, by kernel_rfl, by kernel_rfl, by kernel_rfl⟩
theorem Qbt : QfF pg 19 := Qn6 QjM QdY QdX QcN Qae QoK (by decide) (by decide) (by decide)
theorem JN : Qj pg 114 36 [.tmp 2] (Q2 175 21) := ⟨Tryz.f114, Tryz.func114, by kernel_rfl, by kernel_rfl, by kernel_rfl, by kernel_rfl⟩
theorem growJ : S_GrowNilJ 21 pg 175 := grow_nilJ (k := .i32) (m := 4) Tryz.growJ rfl rfl (by omega) (by kernel_rfl)
theorem Qd8 : QfK pg 114 := QfW JN growJ
theorem QhO : Qj pg 116 10 [.tmp 4] XX := ⟨Tryz.f116, Tryz.func116, by kernel_rfl, by kernel_rfl, by kernel_rfl, by kernel_rfl⟩
theorem QiB : QlN pg 116 := Qn7 QhO
theorem ZA : Qj pg 115 32 [.tmp 6] Qq := ⟨Tryz.f115, Tryz.func115, by kernel_rfl, by kernel_rfl, by kernel_rfl, by kernel_rfl⟩
theorem QcI : Qrr 116 pg 115 := Qeh ZA QiB
theorem Qlw : Qj pg 42 26 [.cell 4 24, .tmp 5] (QbH 114 19 115 116 24) := ⟨Tryz.f42, Tryz.func42, by kernel_rfl, by kernel_rfl, by kernel_rfl, by kernel_rfl⟩
theorem Qkf : Qh5 pg 42 := QqS Qlw Qd8 Qbt QcI (show ZB Tryz.prog 24 = some (some 4) by kernel_rfl)
theorem QhM : Qj pg 205 25 [.tmp 0] (Qak 334) := ⟨Tryz.f205, Tryz.func205, by kernel_rfl, by kernel_rfl, by kernel_rfl, by kernel_rfl⟩
theorem Qg5 : QhX pg 205 := Qk8 QhM
theorem Qgl : Qj pg 204 29 [.tmp 6] JS := ⟨Tryz.f204, Tryz.func204, by kernel_rfl, by kernel_rfl, by kernel_rfl, by kernel_rfl⟩
theorem QfS : QfM pg 204 := Qjo Qgl
theorem QjJ : Qj pg 147 13 [.tmp 4, .tmp 5] (Ju 205 204) := ⟨Tryz.f147, Tryz.func147, by kernel_rfl, by kernel_rfl, by kernel_rfl, by kernel_rfl⟩
theorem Qiz : QlM pg 147 := Qn0 QjJ Qg5 QfS
theorem Qlt : Qj pg 77 8 [.tmp 2, .tmp 3] (J5 147) := ⟨Tryz.f77, Tryz.func77, by kernel_rfl, by kernel_rfl, by kernel_rfl, by kernel_rfl⟩
theorem Qke : Qrn pg 77 := QqN Qlt Qiz
theorem Qra : Qj pg 78 18 [.cell 2 40] (QdH 40) := ⟨Tryz.f78, Tryz.func78, by kernel_rfl, by kernel_rfl, by kernel_rfl, by kernel_rfl⟩
theorem QoG : Qro pg 78 := QtQ Qra (show ZB Tryz.prog 40 = some (some 16) by kernel_rfl)
theorem Qlm : Qj pg 21 22 [.cell 2 40, .tmp 3] (QbF 77 78 40) := ⟨Tryz.f21, Tryz.func21, by kernel_rfl, by kernel_rfl, by kernel_rfl, by kernel_rfl⟩
theorem QeQ : QmX pg 21 := Qpo Qlm Qke QoG (show ZB Tryz.prog 40 = some (some 16) by kernel_rfl)
theorem QhP : QlZ pg 18 45 [.cell 4 30, .cell 5 31] (Qam 43 21 70 71 22 24 30 31 40 43) := ⟨Tryz.f18, Tryz.func18, by kernel_rfl, by kernel_rfl, by kernel_rfl, by kernel_rfl⟩
theorem QcO : QeJ pg 18 := Qle QhP QdY QeQ QdX QcN Qae QdW Qbe (show ZB Tryz.prog 30 = some none by kernel_rfl) (show ZB Tryz.prog 31 = some none by kernel_rfl) (by decide) (by decide) (by decide) (by decide) (by decide)
theorem Qre : Qj pg 27 79 [.cell 8 24, .tmp 9] (QdK 98 21 20 71 24 24 40 21) := ⟨Tryz.f27, Tryz.func27, by kernel_rfl, by kernel_rfl, by kernel_rfl, by kernel_rfl⟩
theorem QoM : Qib pg 27 := Qut Qre QeW QeQ QcL Qd6 (show ZB Tryz.prog 28 = some (some 2) by kernel_rfl) Qeg (show ZB Tryz.prog 24 = some (some 4) by kernel_rfl)
theorem Qbl : Qj pg 40 3 [.cell 0 24] (Zv 24 21) := ⟨Tryz.f40, Tryz.func40, by kernel_rfl, by kernel_rfl, by kernel_rfl, by kernel_rfl⟩
theorem QeS : Qrq pg 40 := Qhi Qbl (show ZB Tryz.prog 24 = some (some 4) by kernel_rfl)
theorem Qb9 : Qj pg 37 60 [.tmp 0] (ZT 40 19 18 22 113 21 22) := ⟨Tryz.f37, Tryz.func37, by kernel_rfl, by kernel_rfl, by kernel_rfl, by kernel_rfl⟩
theorem Qg2 : QlW pg 37 := QkQ Qb9 QeS Qbt QcO Qbe Qdn
theorem QaZ : Qj pg 7 99 [.tmp 4] (QD 37 16 18 19 44 27 42 45 24) := ⟨Tryz.f7, Tryz.func7, by kernel_rfl, by kernel_rfl, by kernel_rfl, by kernel_rfl⟩
theorem Qeb : QjT pg 7 := Qf1 QaZ Qg2 QgW QcO Qbt Qis QoM Qkf Qit

end Go.Proofs.YtapimafdnjankaaGreatDoor.clipBack

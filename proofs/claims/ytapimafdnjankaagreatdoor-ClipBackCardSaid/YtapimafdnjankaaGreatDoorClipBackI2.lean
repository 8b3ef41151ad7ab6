/- What the functions that the law reaches return in this program, part 2; no conditions. -/
import Derived.Test.YtapimafdnjankaaGreatDoorClipBackI1
set_option linter.unusedSectionVars false
set_option linter.unusedSimpArgs false
set_option linter.unusedVariables false
namespace Go.Proofs.YtapimafdnjankaaGreatDoor.clipBack
open Go.Am Go.ChangeShapes Go.WideShapes Go.ChangeAt Go.RowKit

theorem QcP : QeO pg 209 := Qlf QhQ Qgp
theorem QfB : Qj pg 151 44 [.tmp 4, .cell 5 223, .tmp 6] (Jj 209 210 211 223 221) := ⟨Tryz.f151, Tryz.func151, by kernel_rfl, by kernel_rfl, by kernel_rfl, by kernel_rfl⟩
theorem QeY : QdP pg 151 := QhA QfB (show ZB Tryz.prog 223 = some (some 35) by kernel_rfl) QcP QcM Qg1
theorem QjO : Qj pg 168 46 [.tmp 4, .cell 5 223, .tmp 6] (Qa8 209 210 219 223 221) := ⟨Tryz.f168, Tryz.func168, by kernel_rfl, by kernel_rfl, by kernel_rfl, by kernel_rfl⟩
theorem QiC : QlT pg 168 := Qn9 QjO (show ZB Tryz.prog 223 = some (some 35) by kernel_rfl) QcP QcM Qnd
theorem Qlq : Qj pg 152 10 [.tmp 2] J3 := ⟨Tryz.f152, Tryz.func152, by kernel_rfl, by kernel_rfl, by kernel_rfl, by kernel_rfl⟩
theorem Qkb : Qrp pg 152 := Qqr Qlq
theorem Qlr : Qj pg 169 11 [.tmp 2] J4 := ⟨Tryz.f169, Tryz.func169, by kernel_rfl, by kernel_rfl, by kernel_rfl, by kernel_rfl⟩
theorem Qkc : QlJ pg 169 := Qqs Qlr
theorem Z2 : Qj pg 72 8 [.tmp 2] (Qx 21) := ⟨Tryz.f72, Tryz.func72, by kernel_rfl, by kernel_rfl, by kernel_rfl, by kernel_rfl⟩
theorem QeV : QeN 21 pg 72 := QqP Z2
theorem Qrb : Qj pg 207 39 [] QdI := ⟨Tryz.f207, Tryz.func207, by kernel_rfl, by kernel_rfl, by kernel_rfl, by kernel_rfl⟩
theorem QoH : QuG pg 207 := QtZ Qrb
theorem Qlp : Qj pg 206 22 [.tmp 4] ZL := ⟨Tryz.f206, Tryz.func206, by kernel_rfl, by kernel_rfl, by kernel_rfl, by kernel_rfl⟩
theorem QeR : QeI pg 206 := QpY Qlp
theorem Qrc : Qj pg 149 32 [.tmp 4, .tmp 5] (QdJ 206 72 207) := ⟨Tryz.f149, Tryz.func149, by kernel_rfl, by kernel_rfl, by kernel_rfl, by kernel_rfl⟩
theorem QoI : Qh4 pg 149 := Qt0 Qrc QeR QeV QoH
theorem Qfz : Qj pg 148 30 [.tmp 4] (Jh 88 117 28) := ⟨Tryz.f148, Tryz.func148, by kernel_rfl, by kernel_rfl, by kernel_rfl, by kernel_rfl⟩
theorem QeT : QgR pg 148 := Qho Qfz JF QaG
theorem Qb7 : Qj pg 68 28 [.tmp 4] (ZR 141 63 28) := ⟨Tryz.f68, Tryz.func68, by kernel_rfl, by kernel_rfl, by kernel_rfl, by kernel_rfl⟩
theorem QgZ : QgR pg 68 := QkE Qb7 QcK Qg0
theorem Qem : Qj pg 79 83 [.tmp 6, .tmp 7] (XQ 148 149 150 151 152 28 40 224 223 136) := ⟨Tryz.f79, Tryz.func79, by kernel_rfl, by kernel_rfl, by kernel_rfl, by kernel_rfl⟩
theorem Qed : QlQ pg 79 := Qf4 Qem QeT QoI QeX QeY Qkb
theorem JP : Qj pg 26 26 [.tmp 4] QM := ⟨Tryz.f26, Tryz.func26, by kernel_rfl, by kernel_rfl, by kernel_rfl, by kernel_rfl⟩
theorem Qiw : QlP pg 26 := QnC JP
theorem Qlo : Qj pg 220 40 [] J2 := ⟨Tryz.f220, Tryz.func220, by kernel_rfl, by kernel_rfl, by kernel_rfl, by kernel_rfl⟩
theorem Qka : QlI pg 220 := QpX Qlo
theorem Qoi : Qj pg 170 32 [.tmp 4, .tmp 5] (Qcz 206 72 220) := ⟨Tryz.f170, Tryz.func170, by kernel_rfl, by kernel_rfl, by kernel_rfl, by kernel_rfl⟩
theorem Qnb : QfI pg 170 := Qsi Qoi QeR QeV Qka
theorem QdG : Qj pg 93 84 [.tmp 6, .tmp 7] (Xz 150 169 168 170 117 28 40 224 223 21) := ⟨Tryz.f93, Tryz.func93, by kernel_rfl, by kernel_rfl, by kernel_rfl, by kernel_rfl⟩
theorem Qdo : Qrs pg 93 := Qfs QdG QeX Qkc QiC Qnb QaG
theorem Qfy : Qj pg 73 32 [.tmp 4, .tmp 5] (Jg 74) := ⟨Tryz.f73, Tryz.func73, by kernel_rfl, by kernel_rfl, by kernel_rfl, by kernel_rfl⟩
theorem Qbr : JV pg 73 := Qhh Qfy Qcb
theorem Qd6 : Qj pg 71 8 [.cell 2 28] (Z0 24 28) := ⟨Tryz.f71, Tryz.func71, by kernel_rfl, by kernel_rfl, by kernel_rfl, by kernel_rfl⟩
theorem QdW : Ja pg 71 := Qn3 Qd6 (show ZB Tryz.prog 28 = some (some 2) by kernel_rfl)
theorem Qb2 : Qj pg 17 8 [.cell 2 28] (ZO 24 28) := ⟨Tryz.f17, Tryz.func17, by kernel_rfl, by kernel_rfl, by kernel_rfl, by kernel_rfl⟩
theorem QcJ : Ja pg 17 := Qkz Qb2 (show ZB Tryz.prog 28 = some (some 2) by kernel_rfl)
theorem Qlv : Qj pg 98 31 [.tmp 4] (QbG 71 88 73 24) := ⟨Tryz.f98, Tryz.func98, by kernel_rfl, by kernel_rfl, by kernel_rfl, by kernel_rfl⟩
theorem QeW : Qic pg 98 := QqQ Qlv QdW JF Qbr
theorem QjN : Qj pg 43 33 [.tmp 2] (XA 98 117 24) := ⟨Tryz.f43, Tryz.func43, by kernel_rfl, by kernel_rfl, by kernel_rfl, by kernel_rfl⟩
theorem QdY : Xj pg 43 := Qn8 QjN QeW QaG
theorem Qb5 : Qj pg 142 19 [.tmp 4] (ZQ 141 28) := ⟨Tryz.f142, Tryz.func142, by kernel_rfl, by kernel_rfl, by kernel_rfl, by kernel_rfl⟩
theorem QgY : QlU pg 142 := QkC Qb5 QcK
theorem Qdd : Qj pg 200 41 [.tmp 4, .tmp 5] (QQ 187 3) := ⟨Tryz.f200, Tryz.func200, by kernel_rfl, by kernel_rfl, by kernel_rfl, by kernel_rfl⟩
theorem Qj9 : QlV pg 200 := Qpz Qdd Qiv

end Go.Proofs.YtapimafdnjankaaGreatDoor.clipBack

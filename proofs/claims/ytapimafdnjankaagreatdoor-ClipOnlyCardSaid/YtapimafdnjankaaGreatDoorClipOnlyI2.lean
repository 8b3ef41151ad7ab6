/- What the functions that the law reaches return in this program, part 2; no conditions. -/
import Derived.Test.YtapimafdnjankaaGreatDoorClipOnlyI1
set_option linter.unusedSectionVars false
set_option linter.unusedSimpArgs false
set_option linter.unusedVariables false
namespace Go.Proofs.YtapimafdnjankaaGreatDoor.clipOnly
open Go.Am Go.ChangeShapes Go.WideShapes Go.ChangeAt Go.RowKit

theorem QcD : Qez pg 209 := QkV Qhy Qf8
theorem Qfk : Qj pg 151 44 [.tmp 4, .cell 5 223, .tmp 6] (Je 209 210 211 223 221) := ⟨Tryz.f151, Tryz.func151, by kernel_rfl, by kernel_rfl, by kernel_rfl, by kernel_rfl⟩
theorem QeK : QdC pg 151 := Qhk Qfk (show ZG Tryz.prog 223 = some (some 35) by kernel_rfl) QcD QcA QgJ
theorem Qjs : Qj pg 168 46 [.tmp 4, .cell 5 223, .tmp 6] (QaY 209 210 219 223 221) := ⟨Tryz.f168, Tryz.func168, by kernel_rfl, by kernel_rfl, by kernel_rfl, by kernel_rfl⟩
theorem Qih : Qlw pg 168 := QnR Qjs (show ZG Tryz.prog 223 = some (some 35) by kernel_rfl) QcD QcA Qm0
theorem Qk6 : Qj pg 152 10 [.tmp 2] JT := ⟨Tryz.f152, Tryz.func152, by kernel_rfl, by kernel_rfl, by kernel_rfl, by kernel_rfl⟩
theorem QjP : QqY pg 152 := QpY Qk6
theorem Qk7 : Qj pg 169 11 [.tmp 2] JU := ⟨Tryz.f169, Tryz.func169, by kernel_rfl, by kernel_rfl, by kernel_rfl, by kernel_rfl⟩
theorem QjQ : Qlo pg 169 := QpZ Qk7
theorem Z2 : Qj pg 72 8 [.tmp 2] (Qv 21) := ⟨Tryz.f72, Tryz.func72, by kernel_rfl, by kernel_rfl, by kernel_rfl, by kernel_rfl⟩
theorem QeH : Qey 21 pg 72 := Qqm Z2
theorem QqI : Qj pg 207 39 [] Qdv := ⟨Tryz.f207, Tryz.func207, by kernel_rfl, by kernel_rfl, by kernel_rfl, by kernel_rfl⟩
theorem Qol : Qus pg 207 := QtH QqI
theorem Qk5 : Qj pg 206 22 [.tmp 4] ZL := ⟨Tryz.f206, Tryz.func206, by kernel_rfl, by kernel_rfl, by kernel_rfl, by kernel_rfl⟩
theorem QeD : Qet pg 206 := QpD Qk5
theorem QqJ : Qj pg 149 32 [.tmp 4, .tmp 5] (Qdw 206 72 207) := ⟨Tryz.f149, Tryz.func149, by kernel_rfl, by kernel_rfl, by kernel_rfl, by kernel_rfl⟩
theorem Qom : QhL pg 149 := QtI QqJ QeD QeH Qol
theorem Qfi : Qj pg 148 30 [.tmp 4] (Jc 88 117 28) := ⟨Tryz.f148, Tryz.func148, by kernel_rfl, by kernel_rfl, by kernel_rfl, by kernel_rfl⟩
theorem QeF : QgB pg 148 := Qg9 Qfi Jz Qax
theorem QbX : Qj pg 68 28 [.tmp 4] (ZR 141 63 28) := ⟨Tryz.f68, Tryz.func68, by kernel_rfl, by kernel_rfl, by kernel_rfl, by kernel_rfl⟩
theorem QgH : QgB pg 68 := Qki QbX Qcy QgI
theorem Qd9 : Qj pg 79 83 [.tmp 6, .tmp 7] (XM 148 149 150 151 152 28 40 224 223 136) := ⟨Tryz.f79, Tryz.func79, by kernel_rfl, by kernel_rfl, by kernel_rfl, by kernel_rfl⟩
theorem QdY : Qlu pg 79 := QfM Qd9 QeF Qom QeJ QeK QjP
theorem Qk4 : Qj pg 220 40 [] JS := ⟨Tryz.f220, Tryz.func220, by kernel_rfl, by kernel_rfl, by kernel_rfl, by kernel_rfl⟩
theorem QjO : Qln pg 220 := QpC Qk4
theorem QnZ : Qj pg 170 32 [.tmp 4, .tmp 5] (Qcp 206 72 220) := ⟨Tryz.f170, Tryz.func170, by kernel_rfl, by kernel_rfl, by kernel_rfl, by kernel_rfl⟩
theorem QmY : Qfp pg 170 := QrU QnZ QeD QeH QjO
theorem Qdt : Qj pg 93 84 [.tmp 6, .tmp 7] (Xv 150 169 168 170 117 28 40 224 223 21) := ⟨Tryz.f93, Tryz.func93, by kernel_rfl, by kernel_rfl, by kernel_rfl, by kernel_rfl⟩
theorem Qdd : Qq0 pg 93 := Qfa Qdt QeJ QjQ Qih QmY Qax
theorem Qfh : Qj pg 73 32 [.tmp 4, .tmp 5] (Jb 74) := ⟨Tryz.f73, Tryz.func73, by kernel_rfl, by kernel_rfl, by kernel_rfl, by kernel_rfl⟩
theorem Qbh : JM pg 73 := Qg1 Qfh Qb2
theorem QdS : Qj pg 71 8 [.cell 2 28] (Z1 24 28) := ⟨Tryz.f71, Tryz.func71, by kernel_rfl, by kernel_rfl, by kernel_rfl, by kernel_rfl⟩
theorem QdJ : X5 pg 71 := QnN QdS (show ZG Tryz.prog 28 = some (some 2) by kernel_rfl)
theorem QbS : Qj pg 17 8 [.cell 2 28] (ZO 24 28) := ⟨Tryz.f17, Tryz.func17, by kernel_rfl, by kernel_rfl, by kernel_rfl, by kernel_rfl⟩
theorem Qcw : X5 pg 17 := Qkd QbS (show ZG Tryz.prog 28 = some (some 2) by kernel_rfl)
theorem Qlb : Qj pg 98 31 [.tmp 4] (Qbv 71 88 73 24) := ⟨Tryz.f98, Tryz.func98, by kernel_rfl, by kernel_rfl, by kernel_rfl, by kernel_rfl⟩
theorem QeI : QhT pg 98 := Qqn Qlb QdJ Jz Qbh
theorem Qjr : Qj pg 43 33 [.tmp 2] (Xw 98 117 24) := ⟨Tryz.f43, Tryz.func43, by kernel_rfl, by kernel_rfl, by kernel_rfl, by kernel_rfl⟩
theorem QdL : Xg pg 43 := QnQ Qjr QeI Qax
theorem QbV : Qj pg 142 19 [.tmp 4] (ZQ 141 28) := ⟨Tryz.f142, Tryz.func142, by kernel_rfl, by kernel_rfl, by kernel_rfl, by kernel_rfl⟩
theorem QgG : Qlx pg 142 := Qkg QbV Qcy
theorem Qc1 : Qj pg 200 41 [.tmp 4, .tmp 5] (QN 187 3) := ⟨Tryz.f200, Tryz.func200, by kernel_rfl, by kernel_rfl, by kernel_rfl, by kernel_rfl⟩
theorem QjN : Qly pg 200 := Qph Qc1 Qib
theorem QbU : Qj pg 143 17 [.tmp 4, .tmp 5] (Zd 200) := ⟨Tryz.f143, Tryz.func143, by kernel_rfl, by kernel_rfl, by kernel_rfl, by kernel_rfl⟩
theorem QgF : JM pg 143 := Qkf QbU QjN

end Go.Proofs.YtapimafdnjankaaGreatDoor.clipOnly

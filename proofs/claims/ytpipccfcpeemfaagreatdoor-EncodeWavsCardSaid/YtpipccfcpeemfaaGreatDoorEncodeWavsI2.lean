/- What the functions that the law reaches return in this program, part 2; no conditions. -/
import Derived.Test.YtpipccfcpeemfaaGreatDoorEncodeWavsI1
set_option linter.unusedSectionVars false
set_option linter.unusedSimpArgs false
set_option linter.unusedVariables false
namespace Go.Proofs.YtpipccfcpeemfaaGreatDoor.encodeWavs
open Go.Am Go.ChangeShapes Go.WideShapes Go.ChangeAt Go.RowKit

theorem Qpy : QrD pg 173 := Qu2 Qrj (show Q6 Tryz.prog 169 = some (some 33) by kernel_rfl) Qdb
theorem Qo6 : Qf pg 153 20 [.cell 6 169] (QcJ 172 173 169) := ⟨Tryz.f153, Tryz.func153, by kernel_rfl, by kernel_rfl, by kernel_rfl, by kernel_rfl⟩
theorem QnE : Qi4 pg 153 := QtU Qo6 (show Q6 Tryz.prog 169 = some (some 33) by kernel_rfl) Qnc Qpy
theorem Qmd : Qf pg 129 27 [.tmp 4, .cell 5 169, .tmp 6] (Qb0 152 153 169) := ⟨Tryz.f129, Tryz.func129, by kernel_rfl, by kernel_rfl, by kernel_rfl, by kernel_rfl⟩
theorem Qk1 : QgT pg 129 := QqB Qmd (show Q6 Tryz.prog 169 = some (some 33) by kernel_rfl) Qnd QnE
theorem Qmi : Qf pg 150 10 [.tmp 2, .tmp 3] Jr := ⟨Tryz.f150, Tryz.func150, by kernel_rfl, by kernel_rfl, by kernel_rfl, by kernel_rfl⟩
theorem Qk7 : QmU pg 150 := QqO Qmi
theorem Qmh : Qf pg 151 16 [.tmp 4] Qaq := ⟨Tryz.f151, Tryz.func151, by kernel_rfl, by kernel_rfl, by kernel_rfl, by kernel_rfl⟩
theorem Qk6 : QmT pg 151 := QqN Qmh
theorem Qmj : Qf pg 128 19 [.tmp 4, .tmp 5] (Qb2 150 151) := ⟨Tryz.f128, Tryz.func128, by kernel_rfl, by kernel_rfl, by kernel_rfl, by kernel_rfl⟩
theorem Qk8 : QmV pg 128 := QqP Qmj Qk7 Qk6
theorem Qru : Qf pg 99 21 [.cell 4 171, .tmp 5] (QdD 126 91 171 169) := ⟨Tryz.f99, Tryz.func99, by kernel_rfl, by kernel_rfl, by kernel_rfl, by kernel_rfl⟩
theorem QpS : QkE pg 99 := Qw2 Qru (show Q6 Tryz.prog 171 = some (some 35) by kernel_rfl) Qj4
theorem Qmq : Qf pg 127 24 [.tmp 2] (Qb7 126 171 169) := ⟨Tryz.f127, Tryz.func127, by kernel_rfl, by kernel_rfl, by kernel_rfl, by kernel_rfl⟩
theorem Qlg : Qm0 pg 127 := Qrb Qmq Qj4
theorem QiJ : Qf pg 100 44 [.tmp 4, .cell 5 171, .tmp 6] (QaR 127 128 129 171 169) := ⟨Tryz.f100, Tryz.func100, by kernel_rfl, by kernel_rfl, by kernel_rfl, by kernel_rfl⟩
theorem QhW : QgW pg 100 := Ql4 QiJ (show Q6 Tryz.prog 171 = some (some 35) by kernel_rfl) Qlg Qk8 Qk1
theorem Qe8 : Qf pg 166 7 [.tmp 2] Jf := ⟨Tryz.f166, Tryz.func166, by kernel_rfl, by kernel_rfl, by kernel_rfl, by kernel_rfl⟩
theorem Qau : QiN pg 166 := QtH Qe8
theorem Qdv : Qf pg 179 26 [.tmp 4] QB := ⟨Tryz.f179, Tryz.func179, by kernel_rfl, by kernel_rfl, by kernel_rfl, by kernel_rfl⟩
theorem Qju : Qm1 pg 179 := Qoe Qdv
theorem Qet : Qf pg 178 12 [.tmp 2, .tmp 3] XV := ⟨Tryz.f178, Tryz.func178, by kernel_rfl, by kernel_rfl, by kernel_rfl, by kernel_rfl⟩
theorem QkZ : QiT pg 178 := Qqv Qet
theorem Qe6 : Qf pg 185 7 [.tmp 2] Zg := ⟨Tryz.f185, Tryz.func185, by kernel_rfl, by kernel_rfl, by kernel_rfl, by kernel_rfl⟩
theorem Qnt : Qi0 pg 185 := QtF Qe6
theorem Qe7 : Qf pg 186 7 [.tmp 2] Zh := ⟨Tryz.f186, Tryz.func186, by kernel_rfl, by kernel_rfl, by kernel_rfl, by kernel_rfl⟩
theorem Qnu : Qxw pg 186 := QtG Qe7
theorem Qf1 : Qf pg 184 28 [.tmp 2] (JD 166 169) := ⟨Tryz.f184, Tryz.func184, by kernel_rfl, by kernel_rfl, by kernel_rfl, by kernel_rfl⟩
theorem QpH : Qxx pg 184 := QvG Qf1 Qau
theorem Qe5 : Qf pg 180 28 [.tmp 2] (ZL 184 166 169) := ⟨Tryz.f180, Tryz.func180, by kernel_rfl, by kernel_rfl, by kernel_rfl, by kernel_rfl⟩
theorem Qns : QrG pg 180 := QtE Qe5 QpH Qau
theorem Qc5 : Qf pg 182 29 [.cell 4 169] (Z1 185 186 169) := ⟨Tryz.f182, Tryz.func182, by kernel_rfl, by kernel_rfl, by kernel_rfl, by kernel_rfl⟩
theorem QhQ : QgR pg 182 := Qlw Qc5 (show Q6 Tryz.prog 169 = some (some 33) by kernel_rfl) Qnt Qnu
theorem Qdu : Qf pg 181 22 [.cell 4 169] (Xi 169) := ⟨Tryz.f181, Tryz.func181, by kernel_rfl, by kernel_rfl, by kernel_rfl, by kernel_rfl⟩
theorem Qjt : QiY pg 181 := Qod Qdu (show Q6 Tryz.prog 169 = some (some 33) by kernel_rfl)
theorem Qe4 : Qf pg 168 20 [.tmp 4, .cell 5 169] (Je 180 166 182 181 169) := ⟨Tryz.f168, Tryz.func168, by kernel_rfl, by kernel_rfl, by kernel_rfl, by kernel_rfl⟩
theorem Qnr : QiX pg 168 := QtD Qe4 (show Q6 Tryz.prog 169 = some (some 33) by kernel_rfl) Qns Qau QhQ Qjt
theorem Qdt : Qf pg 167 12 [.tmp 2] (Zt 179 171) := ⟨Tryz.f167, Tryz.func167, by kernel_rfl, by kernel_rfl, by kernel_rfl, by kernel_rfl⟩
theorem Qjs : Qfm pg 167 := Qoc Qdt Qju
theorem Qe1 : Qf pg 143 28 [.tmp 4, .cell 5 171] (Jb 167 166 168 171 169) := ⟨Tryz.f143, Tryz.func143, by kernel_rfl, by kernel_rfl, by kernel_rfl, by kernel_rfl⟩
theorem Qnp : QiW pg 143 := QtA Qe1 (show Q6 Tryz.prog 171 = some (some 35) by kernel_rfl) Qjs Qau Qnr
theorem Qf2 : Qf pg 165 22 [.cell 4 169, .tmp 5] (JE 178 91 169) := ⟨Tryz.f165, Tryz.func165, by kernel_rfl, by kernel_rfl, by kernel_rfl, by kernel_rfl⟩
theorem QpI : QiO pg 165 := QvH Qf2 (show Q6 Tryz.prog 169 = some (some 33) by kernel_rfl) QkZ
theorem QfZ : Qf pg 141 20 [.cell 4 171, .tmp 5] (JB 165 91 171 169) := ⟨Tryz.f141, Tryz.func141, by kernel_rfl, by kernel_rfl, by kernel_rfl, by kernel_rfl⟩
theorem QpF : QkE pg 141 := QvE QfZ (show Q6 Tryz.prog 171 = some (some 35) by kernel_rfl) QpI

end Go.Proofs.YtpipccfcpeemfaaGreatDoor.encodeWavs

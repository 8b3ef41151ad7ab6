/- What the functions that the law reaches return in this program, part 1; no conditions. -/
import Derived.Test.YtapimafdnjankaaGreatDoorRows
import Derived.Test.YtapimafdnjankaaGreatDoorClipBackY1
set_option linter.unusedSectionVars false
set_option linter.unusedSimpArgs false
set_option linter.unusedVariables false
namespace Go.Proofs.YtapimafdnjankaaGreatDoor.clipBack
open Go.Am Go.ChangeShapes Go.WideShapes Go.ChangeAt Go.RowKit

noncomputable def pg : Prg := ⟨Tryz.prog, [(4, [.int .u8 0, .int .u8 1, .int .u8 56, .int .u8 2, .int .u8 57, .int .u8 49, .int .u8 28, .int .u8 3, .int .u8 61, .int .u8 58, .int .u8 42, .int .u8 50, .int .u8 38, .int .u8 29, .int .u8 17, .int .u8 4, .int .u8 62, .int .u8 47, .int .u8 59, .int .u8 36, .int .u8 45, .int .u8 43, .int .u8 51, .int .u8 22, .int .u8 53, .int .u8 39, .int .u8 33, .int .u8 30, .int .u8 24, .int .u8 18, .int .u8 12, .int .u8 5, .int .u8 63, .int .u8 55, .int .u8 48, .int .u8 27, .int .u8 60, .int .u8 41, .int .u8 37, .int .u8 16, .int .u8 46, .int .u8 35, .int .u8 44, .int .u8 21, .int .u8 52, .int .u8 32, .int .u8 23, .int .u8 11, .int .u8 54, .int .u8 26, .int .u8 40, .int .u8 15, .int .u8 34, .int .u8 20, .int .u8 31, .int .u8 10, .int .u8 25, .int .u8 14, .int .u8 19, .int .u8 9, .int .u8 13, .int .u8 8, .int .u8 7, .int .u8 6])], fun g cs h => by
  simp only [List.lookup] at h
  repeat (first | (cases h; done) | (split at h; first | (cases h; rfl) | skip))⟩

theorem Qok : Qj pg 164 31 [.tmp 2, .tmp 3] QcB := ⟨Tryz.f164, Tryz.func164, by kernel_rfl, by kernel_rfl, by kernel_rfl, by kernel_rfl⟩
theorem Qne : QdL pg 164 := Qsp Qok
theorem QhD : Qj pg 134 18 [.tmp 2, .tmp 3, .tmp 4] ZC := ⟨Tryz.f134, Tryz.func134, by kernel_rfl, by kernel_rfl, by kernel_rfl, by kernel_rfl⟩
theorem QcH : Qh3 pg 134 := Qj3 QhD
theorem Qcy : Qj pg 136 10 [.tmp 2] Z6 := ⟨Tryz.f136, Tryz.func136, by kernel_rfl, by kernel_rfl, by kernel_rfl, by kernel_rfl⟩
theorem QdS : QmZ pg 136 := QnB Qcy
theorem QhE : Qj pg 117 37 [.tmp 4] (Qaf 134) := ⟨Tryz.f117, Tryz.func117, by kernel_rfl, by kernel_rfl, by kernel_rfl, by kernel_rfl⟩
theorem QaG : J8 pg 117 := Qj4 QhE QcH
theorem Qb8 : Qj pg 63 37 [.tmp 4] (ZS 136) := ⟨Tryz.f63, Tryz.func63, by kernel_rfl, by kernel_rfl, by kernel_rfl, by kernel_rfl⟩
theorem Qg0 : J8 pg 63 := QkF Qb8 QdS
theorem Qgk : Qj pg 74 14 [.tmp 2, .tmp 3] ZM := ⟨Tryz.f74, Tryz.func74, by kernel_rfl, by kernel_rfl, by kernel_rfl, by kernel_rfl⟩
theorem Qcb : Qbb pg 74 := Qi1 Qgk
theorem Qcx : Qj pg 187 17 [.tmp 2, .tmp 3] QY := ⟨Tryz.f187, Tryz.func187, by kernel_rfl, by kernel_rfl, by kernel_rfl, by kernel_rfl⟩
theorem Qiv : Qbb pg 187 := QnA Qcx
theorem QfA : Qj pg 88 25 [.tmp 2] (Ji 134 28) := ⟨Tryz.f88, Tryz.func88, by kernel_rfl, by kernel_rfl, by kernel_rfl, by kernel_rfl⟩
theorem JF : JA pg 88 := Qhp QfA QcH
theorem Qb6 : Qj pg 141 17 [.tmp 2] (QT 136 28) := ⟨Tryz.f141, Tryz.func141, by kernel_rfl, by kernel_rfl, by kernel_rfl, by kernel_rfl⟩
theorem QcK : JA pg 141 := QkD Qb6 QdS
theorem Qoh : Qj pg 208 18 [.cell 4 221, .tmp 5] (XN 40 221) := ⟨Tryz.f208, Tryz.func208, by kernel_rfl, by kernel_rfl, by kernel_rfl, by kernel_rfl⟩
theorem Qgp : QmY pg 208 := QrM Qoh (show ZB Tryz.prog 221 = some (some 33) by kernel_rfl)
theorem QjC : Qj pg 260 11 [.tmp 2] (Xw 221) := ⟨Tryz.f260, Tryz.func260, by kernel_rfl, by kernel_rfl, by kernel_rfl, by kernel_rfl⟩
theorem Qbq : Qdi pg 260 := Qnm QjC
theorem QjB : Qj pg 243 36 [.tmp 2, .tmp 3] (Qa2 260 221) := ⟨Tryz.f243, Tryz.func243, by kernel_rfl, by kernel_rfl, by kernel_rfl, by kernel_rfl⟩
theorem QdR : QeH pg 243 := Qnl QjB Qbq
theorem Qlk : Qj pg 272 9 [.tmp 2] X9 := ⟨Tryz.f272, Tryz.func272, by kernel_rfl, by kernel_rfl, by kernel_rfl, by kernel_rfl⟩
theorem Qj6 : QlK pg 272 := Qo0 Qlk
theorem QjA : Qj pg 261 53 [.cell 4 221, .tmp 5] (Qa1 260 272 221) := ⟨Tryz.f261, Tryz.func261, by kernel_rfl, by kernel_rfl, by kernel_rfl, by kernel_rfl⟩
theorem Qiq : Qh2 pg 261 := Qnk QjA (show ZB Tryz.prog 221 = some (some 33) by kernel_rfl) Qbq Qj6
theorem Qll : Qj pg 262 22 [.cell 4 221, .tmp 5] (QbE 260 221) := ⟨Tryz.f262, Tryz.func262, by kernel_rfl, by kernel_rfl, by kernel_rfl, by kernel_rfl⟩
theorem Qj7 : QlL pg 262 := Qo1 Qll (show ZB Tryz.prog 221 = some (some 33) by kernel_rfl) Qbq
theorem QjE : Qj pg 244 20 [.cell 6 221] (Qa3 261 262 221) := ⟨Tryz.f244, Tryz.func244, by kernel_rfl, by kernel_rfl, by kernel_rfl, by kernel_rfl⟩
theorem QdT : Qdl pg 244 := QnI QjE (show ZB Tryz.prog 221 = some (some 33) by kernel_rfl) Qiq Qj7
theorem QhG : Qj pg 211 27 [.tmp 4, .cell 5 221, .tmp 6] (Qah 243 244 221) := ⟨Tryz.f211, Tryz.func211, by kernel_rfl, by kernel_rfl, by kernel_rfl, by kernel_rfl⟩
theorem Qg1 : QdO pg 211 := QkM QhG (show ZB Tryz.prog 221 = some (some 33) by kernel_rfl) QdR QdT
theorem Qoj : Qj pg 219 27 [.tmp 4, .cell 5 221, .tmp 6] (QcA 243 244 221) := ⟨Tryz.f219, Tryz.func219, by kernel_rfl, by kernel_rfl, by kernel_rfl, by kernel_rfl⟩
theorem Qnd : QlO pg 219 := Qsl Qoj (show ZB Tryz.prog 221 = some (some 33) by kernel_rfl) QdR QdT
theorem QhJ : Qj pg 241 10 [.tmp 2, .tmp 3] Xd := ⟨Tryz.f241, Tryz.func241, by kernel_rfl, by kernel_rfl, by kernel_rfl, by kernel_rfl⟩
theorem Qg4 : Qh7 pg 241 := QkV QhJ
theorem QhI : Qj pg 242 16 [.tmp 4] XU := ⟨Tryz.f242, Tryz.func242, by kernel_rfl, by kernel_rfl, by kernel_rfl, by kernel_rfl⟩
theorem Qg3 : Qh6 pg 242 := QkU QhI
theorem QhK : Qj pg 210 19 [.tmp 4, .tmp 5] (Qaj 241 242) := ⟨Tryz.f210, Tryz.func210, by kernel_rfl, by kernel_rfl, by kernel_rfl, by kernel_rfl⟩
theorem QcM : QeK pg 210 := QkW QhK Qg4 Qg3
theorem Qlx : Qj pg 150 21 [.cell 4 223, .tmp 5] (QbI 208 40 223 221) := ⟨Tryz.f150, Tryz.func150, by kernel_rfl, by kernel_rfl, by kernel_rfl, by kernel_rfl⟩
theorem QeX : Qm1 pg 150 := QqV Qlx (show ZB Tryz.prog 223 = some (some 35) by kernel_rfl) Qgp
theorem QhQ : Qj pg 209 24 [.tmp 2] (Qan 208 223 221) := ⟨Tryz.f209, Tryz.func209, by kernel_rfl, by kernel_rfl, by kernel_rfl, by kernel_rfl⟩

end Go.Proofs.YtapimafdnjankaaGreatDoor.clipBack

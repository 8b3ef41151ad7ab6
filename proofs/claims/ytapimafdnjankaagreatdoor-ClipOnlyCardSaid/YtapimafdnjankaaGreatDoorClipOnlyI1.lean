/- What the functions that the law reaches return in this program, part 1; no conditions. -/
import Derived.Test.YtapimafdnjankaaGreatDoorRows
import Derived.Test.YtapimafdnjankaaGreatDoorClipOnlyY1
set_option linter.unusedSectionVars false
set_option linter.unusedSimpArgs false
set_option linter.unusedVariables false
namespace Go.Proofs.YtapimafdnjankaaGreatDoor.clipOnly
open Go.Am Go.ChangeShapes Go.WideShapes Go.ChangeAt Go.RowKit

noncomputable def pg : Prg := ⟨Tryz.prog, [(4, [.int .u8 0, .int .u8 1, .int .u8 56, .int .u8 2, .int .u8 57, .int .u8 49, .int .u8 28, .int .u8 3, .int .u8 61, .int .u8 58, .int .u8 42, .int .u8 50, .int .u8 38, .int .u8 29, .int .u8 17, .int .u8 4, .int .u8 62, .int .u8 47, .int .u8 59, .int .u8 36, .int .u8 45, .int .u8 43, .int .u8 51, .int .u8 22, .int .u8 53, .int .u8 39, .int .u8 33, .int .u8 30, .int .u8 24, .int .u8 18, .int .u8 12, .int .u8 5, .int .u8 63, .int .u8 55, .int .u8 48, .int .u8 27, .int .u8 60, .int .u8 41, .int .u8 37, .int .u8 16, .int .u8 46, .int .u8 35, .int .u8 44, .int .u8 21, .int .u8 52, .int .u8 32, .int .u8 23, .int .u8 11, .int .u8 54, .int .u8 26, .int .u8 40, .int .u8 15, .int .u8 34, .int .u8 20, .int .u8 31, .int .u8 10, .int .u8 25, .int .u8 14, .int .u8 19, .int .u8 9, .int .u8 13, .int .u8 8, .int .u8 7, .int .u8 6])], fun g cs h => by
  simp only [List.lookup] at h
  repeat (first | (cases h; done) | (split at h; first | (cases h; rfl) | skip))⟩

theorem Qn1 : Qj pg 164 31 [.tmp 2, .tmp 3] Qcr := ⟨Tryz.f164, Tryz.func164, by kernel_rfl, by kernel_rfl, by kernel_rfl, by kernel_rfl⟩
theorem Qm1 : Qdy pg 164 := Qr1 Qn1
theorem Qhm : Qj pg 134 18 [.tmp 2, .tmp 3, .tmp 4] Zz := ⟨Tryz.f134, Tryz.func134, by kernel_rfl, by kernel_rfl, by kernel_rfl, by kernel_rfl⟩
theorem Qcv : QhK pg 134 := QjH Qhm
theorem Qcn : Qj pg 136 10 [.tmp 2] Z4 := ⟨Tryz.f136, Tryz.func136, by kernel_rfl, by kernel_rfl, by kernel_rfl, by kernel_rfl⟩
theorem QdF : QmN pg 136 := Qnn Qcn
theorem Qhn : Qj pg 117 37 [.tmp 4] (J5 134) := ⟨Tryz.f117, Tryz.func117, by kernel_rfl, by kernel_rfl, by kernel_rfl, by kernel_rfl⟩
theorem Qax : JY pg 117 := QjI Qhn Qcv
theorem QbY : Qj pg 63 37 [.tmp 4] (ZS 136) := ⟨Tryz.f63, Tryz.func63, by kernel_rfl, by kernel_rfl, by kernel_rfl, by kernel_rfl⟩
theorem QgI : JY pg 63 := Qkj QbY QdF
theorem Qf2 : Qj pg 74 14 [.tmp 2, .tmp 3] ZM := ⟨Tryz.f74, Tryz.func74, by kernel_rfl, by kernel_rfl, by kernel_rfl, by kernel_rfl⟩
theorem Qb2 : Qa1 pg 74 := QiH Qf2
theorem Qcm : Qj pg 187 17 [.tmp 2, .tmp 3] QV := ⟨Tryz.f187, Tryz.func187, by kernel_rfl, by kernel_rfl, by kernel_rfl, by kernel_rfl⟩
theorem Qib : Qa1 pg 187 := Qnm Qcm
theorem Qfj : Qj pg 88 25 [.tmp 2] (Jd 134 28) := ⟨Tryz.f88, Tryz.func88, by kernel_rfl, by kernel_rfl, by kernel_rfl, by kernel_rfl⟩
theorem Jz : Jt pg 88 := Qha Qfj Qcv
theorem QbW : Qj pg 141 17 [.tmp 2] (QR 136 28) := ⟨Tryz.f141, Tryz.func141, by kernel_rfl, by kernel_rfl, by kernel_rfl, by kernel_rfl⟩
theorem Qcy : Jt pg 141 := Qkh QbW QdF
theorem QnY : Qj pg 208 18 [.cell 4 221, .tmp 5] (XI 40 221) := ⟨Tryz.f208, Tryz.func208, by kernel_rfl, by kernel_rfl, by kernel_rfl, by kernel_rfl⟩
theorem Qf8 : QmM pg 208 := Qrl QnY (show ZG Tryz.prog 221 = some (some 33) by kernel_rfl)
theorem Qjg : Qj pg 260 11 [.tmp 2] (Xs 221) := ⟨Tryz.f260, Tryz.func260, by kernel_rfl, by kernel_rfl, by kernel_rfl, by kernel_rfl⟩
theorem Qbg : Qc6 pg 260 := Qm9 Qjg
theorem Qjf : Qj pg 243 36 [.tmp 2, .tmp 3] (QaS 260 221) := ⟨Tryz.f243, Tryz.func243, by kernel_rfl, by kernel_rfl, by kernel_rfl, by kernel_rfl⟩
theorem QdE : Qes pg 243 := Qm8 Qjf Qbg
theorem Qk0 : Qj pg 272 9 [.tmp 2] X4 := ⟨Tryz.f272, Tryz.func272, by kernel_rfl, by kernel_rfl, by kernel_rfl, by kernel_rfl⟩
theorem QjK : Qlp pg 272 := QoD Qk0
theorem Qje : Qj pg 261 53 [.cell 4 221, .tmp 5] (QaR 260 272 221) := ⟨Tryz.f261, Tryz.func261, by kernel_rfl, by kernel_rfl, by kernel_rfl, by kernel_rfl⟩
theorem Qh8 : QhJ pg 261 := Qm7 Qje (show ZG Tryz.prog 221 = some (some 33) by kernel_rfl) Qbg QjK
theorem Qk1 : Qj pg 262 22 [.cell 4 221, .tmp 5] (Qbt 260 221) := ⟨Tryz.f262, Tryz.func262, by kernel_rfl, by kernel_rfl, by kernel_rfl, by kernel_rfl⟩
theorem QjL : Qlq pg 262 := QoE Qk1 (show ZG Tryz.prog 221 = some (some 33) by kernel_rfl) Qbg
theorem Qji : Qj pg 244 20 [.cell 6 221] (QaT 261 262 221) := ⟨Tryz.f244, Tryz.func244, by kernel_rfl, by kernel_rfl, by kernel_rfl, by kernel_rfl⟩
theorem QdG : Qc9 pg 244 := Qns Qji (show ZG Tryz.prog 221 = some (some 33) by kernel_rfl) Qh8 QjL
theorem Qhp : Qj pg 211 27 [.tmp 4, .cell 5 221, .tmp 6] (J7 243 244 221) := ⟨Tryz.f211, Tryz.func211, by kernel_rfl, by kernel_rfl, by kernel_rfl, by kernel_rfl⟩
theorem QgJ : QdB pg 211 := Qkq Qhp (show ZG Tryz.prog 221 = some (some 33) by kernel_rfl) QdE QdG
theorem Qn0 : Qj pg 219 27 [.tmp 4, .cell 5 221, .tmp 6] (Qcq 243 244 221) := ⟨Tryz.f219, Tryz.func219, by kernel_rfl, by kernel_rfl, by kernel_rfl, by kernel_rfl⟩
theorem Qm0 : Qlt pg 219 := QrX Qn0 (show ZG Tryz.prog 221 = some (some 33) by kernel_rfl) QdE QdG
theorem Qhs : Qj pg 241 10 [.tmp 2, .tmp 3] Xa := ⟨Tryz.f241, Tryz.func241, by kernel_rfl, by kernel_rfl, by kernel_rfl, by kernel_rfl⟩
theorem QgM : QhO pg 241 := QkB Qhs
theorem Qhr : Qj pg 242 16 [.tmp 4] XR := ⟨Tryz.f242, Tryz.func242, by kernel_rfl, by kernel_rfl, by kernel_rfl, by kernel_rfl⟩
theorem QgL : QhN pg 242 := QkA Qhr
theorem Qht : Qj pg 210 19 [.tmp 4, .tmp 5] (J9 241 242) := ⟨Tryz.f210, Tryz.func210, by kernel_rfl, by kernel_rfl, by kernel_rfl, by kernel_rfl⟩
theorem QcA : Qev pg 210 := QkC Qht QgM QgL
theorem Qlc : Qj pg 150 21 [.cell 4 223, .tmp 5] (Qbw 208 40 223 221) := ⟨Tryz.f150, Tryz.func150, by kernel_rfl, by kernel_rfl, by kernel_rfl, by kernel_rfl⟩
theorem QeJ : QmP pg 150 := Qqs Qlc (show ZG Tryz.prog 223 = some (some 35) by kernel_rfl) Qf8
theorem Qhy : Qj pg 209 24 [.tmp 2] (Qad 208 223 221) := ⟨Tryz.f209, Tryz.func209, by kernel_rfl, by kernel_rfl, by kernel_rfl, by kernel_rfl⟩

end Go.Proofs.YtapimafdnjankaaGreatDoor.clipOnly

/- What the functions that the law reaches return in this program, part 5; no conditions. -/
import Derived.Test.YtpipccfcpeemfaaGreatDoorEncodeWavsI4
set_option linter.unusedSectionVars false
set_option linter.unusedSimpArgs false
set_option linter.unusedVariables false
namespace Go.Proofs.YtpipccfcpeemfaaGreatDoor.encodeWavs
open Go.Am Go.ChangeShapes Go.WideShapes Go.ChangeAt Go.RowKit

theorem Qnh : Qcl pg 8 := Qts QeT Qnj QkM Qni QhP Qfv (show Q6 Tryz.prog 31 = some (some 4) by kernel_rfl)
theorem Qmo : Qf pg 110 24 [.tmp 0] (Qb5 224) := ⟨Tryz.f110, Tryz.func110, by kernel_rfl, by kernel_rfl, by kernel_rfl, by kernel_rfl⟩
theorem Qld : QrA pg 110 := Qq5 Qmo
theorem Qpe : Qf pg 81 32 [.tmp 4, .tmp 5] (Qa4 110) := ⟨Tryz.f81, Tryz.func81, by kernel_rfl, by kernel_rfl, by kernel_rfl, by kernel_rfl⟩
theorem QnK : QrM pg 81 := Que Qpe Qld
theorem Qrs : Qf pg 45 16 [.tmp 2, .tmp 3] (QbM 81) := ⟨Tryz.f45, Tryz.func45, by kernel_rfl, by kernel_rfl, by kernel_rfl, by kernel_rfl⟩
theorem QeH : Qpm pg 45 := QwQ Qrs QnK
theorem Qfg : Qf pg 169 19 [.tmp 4] Q2 := ⟨Tryz.f169, Tryz.func169, by kernel_rfl, by kernel_rfl, by kernel_rfl, by kernel_rfl⟩
theorem QnB : Qxv pg 169 := QtP Qfg
theorem Qfh : Qf pg 145 18 [.tmp 4] (Jj 169) := ⟨Tryz.f145, Tryz.func145, by kernel_rfl, by kernel_rfl, by kernel_rfl, by kernel_rfl⟩
theorem QnC : QxH pg 145 := QtQ Qfh QnB
theorem Qdy : Qf pg 117 19 [.tmp 4] (Xk 145) := ⟨Tryz.f117, Tryz.func117, by kernel_rfl, by kernel_rfl, by kernel_rfl, by kernel_rfl⟩
theorem Qjw : Qjf pg 117 := Qoi Qdy QnC
theorem QgJ : Qf pg 91 6 [.tmp 2] (J5 117) := ⟨Tryz.f91, Tryz.func91, by kernel_rfl, by kernel_rfl, by kernel_rfl, by kernel_rfl⟩
theorem Qgf : QxG pg 91 := Qyv QgJ Qjw
theorem Qpi : Qf pg 103 40 [.tmp 2] (Qa5 141) := ⟨Tryz.f103, Tryz.func103, by kernel_rfl, by kernel_rfl, by kernel_rfl, by kernel_rfl⟩
theorem QbC : QdX pg 103 := Qur Qpi
theorem Qev : Qf pg 175 13 [.tmp 2] XZ := ⟨Tryz.f175, Tryz.func175, by kernel_rfl, by kernel_rfl, by kernel_rfl, by kernel_rfl⟩
theorem JR : QdF pg 175 := Qqx Qev
theorem Qpb : Qf pg 102 2 [.cell 0 137] (QcL 137) := ⟨Tryz.f102, Tryz.func102, by kernel_rfl, by kernel_rfl, by kernel_rfl, by kernel_rfl⟩
theorem QnH : QdE pg 102 := Qua Qpb (show Q6 Tryz.prog 137 = some (some 4) by kernel_rfl)
theorem Qeu : Qf pg 156 2 [.cell 0 137] (XY 137) := ⟨Tryz.f156, Tryz.func156, by kernel_rfl, by kernel_rfl, by kernel_rfl, by kernel_rfl⟩
theorem Qk0 : QdE pg 156 := Qqw Qeu (show Q6 Tryz.prog 137 = some (some 4) by kernel_rfl)
theorem Qpc : Qf pg 104 26 [.tmp 2] (QcM 137) := ⟨Tryz.f104, Tryz.func104, by kernel_rfl, by kernel_rfl, by kernel_rfl, by kernel_rfl⟩
theorem QnI : QmX pg 104 := Qub Qpc
theorem Qf3 : Qf pg 158 11 [.tmp 4] (JF 175 137) := ⟨Tryz.f158, Tryz.func158, by kernel_rfl, by kernel_rfl, by kernel_rfl, by kernel_rfl⟩
theorem QhR : QsW pg 158 := QvI Qf3 JR
theorem Qfa : Qf pg 162 12 [.tmp 4] (Jg 175 137) := ⟨Tryz.f162, Tryz.func162, by kernel_rfl, by kernel_rfl, by kernel_rfl, by kernel_rfl⟩
theorem QgZ : QmO pg 162 := QtJ Qfa JR
theorem Qe9 : Qf pg 174 40 [.tmp 6, .tmp 7] (QH 175) := ⟨Tryz.f174, Tryz.func174, by kernel_rfl, by kernel_rfl, by kernel_rfl, by kernel_rfl⟩
theorem Qnv : QrB pg 174 := QtI Qe9 JR
theorem Qdw : Qf pg 157 38 [.cell 4 137] (Zu 158 162 174 137) := ⟨Tryz.f157, Tryz.func157, by kernel_rfl, by kernel_rfl, by kernel_rfl, by kernel_rfl⟩
theorem Qjv : QmP pg 157 := Qof Qdw QhR QgZ Qnv (show Q6 Tryz.prog 137 = some (some 4) by kernel_rfl)
theorem Qo8 : Qf pg 105 17 [.tmp 4, .tmp 5] (Qa1 137) := ⟨Tryz.f105, Tryz.func105, by kernel_rfl, by kernel_rfl, by kernel_rfl, by kernel_rfl⟩
theorem Qg0 : Qi3 pg 105 := Qt7 Qo8
theorem QjV : Qf pg 132 9 [.tmp 4] JX := ⟨Tryz.f132, Tryz.func132, by kernel_rfl, by kernel_rfl, by kernel_rfl, by kernel_rfl⟩
theorem Qs4 : QAO pg 132 := Qyp QjV
theorem Qfb : Qf pg 176 12 [.tmp 4] (Jh 175) := ⟨Tryz.f176, Tryz.func176, by kernel_rfl, by kernel_rfl, by kernel_rfl, by kernel_rfl⟩
theorem Qnw : QmM pg 176 := QtK Qfb JR
theorem Qdr : Qf pg 139 22 [.tmp 2] (Xh 91 5) := ⟨Tryz.f139, Tryz.func139, by kernel_rfl, by kernel_rfl, by kernel_rfl, by kernel_rfl⟩
theorem Qjq : QmH pg 139 := Qoa Qdr Qgf
theorem Qcj : Qf pg 154 8 [.tmp 2] (Q8 5) := ⟨Tryz.f154, Tryz.func154, by kernel_rfl, by kernel_rfl, by kernel_rfl, by kernel_rfl⟩
theorem QuU : QhJ 5 pg 154 := QAF Qcj
theorem Quy : Qf pg 106 44 [.cell 6 141, .tmp 7] (QcQ 103 130 131 141) := ⟨Tryz.f106, Tryz.func106, by kernel_rfl, by kernel_rfl, by kernel_rfl, by kernel_rfl⟩
theorem Qrv : Qf pg 130 9 [.cell 2 141] (QbN 154 141) := ⟨Tryz.f130, Tryz.func130, by kernel_rfl, by kernel_rfl, by kernel_rfl, by kernel_rfl⟩

end Go.Proofs.YtpipccfcpeemfaaGreatDoor.encodeWavs

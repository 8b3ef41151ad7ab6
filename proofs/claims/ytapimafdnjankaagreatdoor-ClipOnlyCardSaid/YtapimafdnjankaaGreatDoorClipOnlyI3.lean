/- What the functions that the law reaches return in this program, part 3; no conditions. -/
import Derived.Test.YtapimafdnjankaaGreatDoorClipOnlyI2
set_option linter.unusedSectionVars false
set_option linter.unusedSimpArgs false
set_option linter.unusedVariables false
namespace Go.Proofs.YtapimafdnjankaaGreatDoor.clipOnly
open Go.Am Go.ChangeShapes Go.WideShapes Go.ChangeAt Go.RowKit

theorem Qcl : Qj pg 69 21 [.tmp 4] (Z3 17 142 143 24) := ⟨Tryz.f69, Tryz.func69, by kernel_rfl, by kernel_rfl, by kernel_rfl, by kernel_rfl⟩
theorem Qia : Qfo pg 69 := Qnl Qcl Qcw QgG QgF
theorem QbT : Qj pg 16 20 [.tmp 2] (ZP 17 68 69 24) := ⟨Tryz.f16, Tryz.func16, by kernel_rfl, by kernel_rfl, by kernel_rfl, by kernel_rfl⟩
theorem QgE : Xg pg 16 := Qke QbT Qcw QgH Qia
theorem Qco : Qj pg 26 26 [.tmp 4] Zh := ⟨Tryz.f26, Tryz.func26, by kernel_rfl, by kernel_rfl, by kernel_rfl, by kernel_rfl⟩
theorem QmX : Qut pg 26 := QrO Qco
theorem Qao : Qj pg 113 27 [.tmp 4] (QP 26) := ⟨Tryz.f113, Tryz.func113, by kernel_rfl, by kernel_rfl, by kernel_rfl, by kernel_rfl⟩
theorem Qdc : Qur pg 113 := QeR Qao QmX
theorem QqK : Qj pg 161 14 [.tmp 4] Qap := ⟨Tryz.f161, Tryz.func161, by kernel_rfl, by kernel_rfl, by kernel_rfl, by kernel_rfl⟩
theorem Qon : QqV pg 161 := QtL QqK
theorem Qn2 : Qj pg 84 35 [.tmp 4, .tmp 5] (QaU 161 5) := ⟨Tryz.f84, Tryz.func84, by kernel_rfl, by kernel_rfl, by kernel_rfl, by kernel_rfl⟩
theorem Qm2 : Qfm pg 84 := Qr2 Qn2 Qon
theorem Qhw : Qj pg 217 24 [.tmp 0] (Qab 338) := ⟨Tryz.f217, Tryz.func217, by kernel_rfl, by kernel_rfl, by kernel_rfl, by kernel_rfl⟩
theorem QgO : Qlj pg 217 := QkQ Qhw
theorem Qjo : Qj pg 160 32 [.tmp 4, .tmp 5] (Jp 217) := ⟨Tryz.f160, Tryz.func160, by kernel_rfl, by kernel_rfl, by kernel_rfl, by kernel_rfl⟩
theorem Qif : Qlv pg 160 := QnL Qjo QgO
theorem Qla : Qj pg 83 16 [.tmp 2, .tmp 3] (JW 160) := ⟨Tryz.f83, Tryz.func83, by kernel_rfl, by kernel_rfl, by kernel_rfl, by kernel_rfl⟩
theorem QeG : QmO pg 83 := Qqk Qla Qif
theorem Qjt : Qj pg 154 40 [.tmp 2] (Jr 135) := ⟨Tryz.f154, Tryz.func154, by kernel_rfl, by kernel_rfl, by kernel_rfl, by kernel_rfl⟩
theorem Q9 : Xx pg 154 := QnX Qjt
theorem Qn3 : Qj pg 167 47 [.tmp 6] (Qcs 135) := ⟨Tryz.f167, Tryz.func167, by kernel_rfl, by kernel_rfl, by kernel_rfl, by kernel_rfl⟩
theorem Qga : QmK pg 167 := Qsu Qn3
theorem Qn5 : Qj pg 92 34 [.tmp 6, .tmp 7] (Qa0 154 167 135) := ⟨Tryz.f92, Tryz.func92, by kernel_rfl, by kernel_rfl, by kernel_rfl, by kernel_rfl⟩
theorem Qbz : Qgy pg 92 := Qsw Qn5 Q9 Qga
theorem JG : Qj pg 264 14 [.tmp 2] (Q0 4) := ⟨Tryz.f264, Tryz.func264, by kernel_rfl, by kernel_rfl, by kernel_rfl, by kernel_rfl⟩
theorem Qor : Qv1 pg 264 := Qug JG (show pg.G.lookup 4 = some dbG by rfl)
theorem QfZ : Qj pg 263 8 [.tmp 2] JH := ⟨Tryz.f263, Tryz.func263, by kernel_rfl, by kernel_rfl, by kernel_rfl, by kernel_rfl⟩
theorem Qh6 : QhE pg 263 := Qm5 QfZ
theorem Qjd : Qj pg 246 53 [.tmp 4, .tmp 5, .tmp 6] (QaQ 154 263 92 264 135 3) := ⟨Tryz.f246, Tryz.func246, by kernel_rfl, by kernel_rfl, by kernel_rfl, by kernel_rfl⟩
theorem Qh7 : Qli pg 246 := Qm6 Qjd Q9 Qh6 Qbz Qor
theorem Qjl : Qj pg 153 2 [.cell 0 131] (QaV 131) := ⟨Tryz.f153, Tryz.func153, by kernel_rfl, by kernel_rfl, by kernel_rfl, by kernel_rfl⟩
theorem QdH : Qdz pg 153 := QnG Qjl (show ZG Tryz.prog 131 = some (some 4) by kernel_rfl)
theorem Qjm : Qj pg 155 26 [.tmp 2] (QaW 131) := ⟨Tryz.f155, Tryz.func155, by kernel_rfl, by kernel_rfl, by kernel_rfl, by kernel_rfl⟩
theorem QdI : Qew pg 155 := QnH Qjm
theorem Qjj : Qj pg 156 17 [.tmp 4, .tmp 5] (Jm 131) := ⟨Tryz.f156, Tryz.func156, by kernel_rfl, by kernel_rfl, by kernel_rfl, by kernel_rfl⟩
theorem Qbi : QdA pg 156 := QnE Qjj
theorem Qf1 : Qj pg 214 9 [.tmp 4] Xt := ⟨Tryz.f214, Tryz.func214, by kernel_rfl, by kernel_rfl, by kernel_rfl, by kernel_rfl⟩
theorem Qf9 : QsB pg 214 := QrJ Qf1
theorem Qk3 : Qj pg 218 68 [.tmp 6, .tmp 7, .tmp 8] (Zo 154 246 92 214 135) := ⟨Tryz.f218, Tryz.func218, by kernel_rfl, by kernel_rfl, by kernel_rfl, by kernel_rfl⟩
theorem QjM : Qlk pg 218 := Qpd Qk3 Q9 Qh7 Qbz Qf9
theorem Qk8 : Qj pg 166 86 [.tmp 6, .tmp 7, .cell 8 131, .tmp 9] (Zp 154 155 92 218 159 135 131) := ⟨Tryz.f166, Tryz.func166, by kernel_rfl, by kernel_rfl, by kernel_rfl, by kernel_rfl⟩
theorem QdR : Qj pg 159 36 [] (Z0 216 156) := ⟨Tryz.f159, Tryz.func159, by kernel_rfl, by kernel_rfl, by kernel_rfl, by kernel_rfl⟩
theorem Qca : Qj pg 216 58 [] Qn := ⟨Tryz.f216, Tryz.func216, by kernel_rfl, by kernel_rfl, by kernel_rfl, by kernel_rfl⟩
theorem QjR : Qlm pg 166 := Qqe Qk8 Q9 QdI Qbz QjM QdR Qca Qbi (show ZG Tryz.prog 131 = some (some 4) by kernel_rfl)
theorem Xn : Qj pg 131 8 [.tmp 2] (QG 5) := ⟨Tryz.f131, Tryz.func131, by kernel_rfl, by kernel_rfl, by kernel_rfl, by kernel_rfl⟩

end Go.Proofs.YtapimafdnjankaaGreatDoor.clipOnly

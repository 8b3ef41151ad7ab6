/- What the functions that the law reaches return in this program, part 3; no conditions. -/
import Derived.Test.YtapimafdnjankaaGreatDoorClipBackI2
set_option linter.unusedSectionVars false
set_option linter.unusedSimpArgs false
set_option linter.unusedVariables false
namespace Go.Proofs.YtapimafdnjankaaGreatDoor.clipBack
open Go.Am Go.ChangeShapes Go.WideShapes Go.ChangeAt Go.RowKit

theorem Qb4 : Qj pg 143 17 [.tmp 4, .tmp 5] (Zg 200) := ⟨Tryz.f143, Tryz.func143, by kernel_rfl, by kernel_rfl, by kernel_rfl, by kernel_rfl⟩
theorem QgX : JV pg 143 := QkB Qb4 Qj9
theorem Qcw : Qj pg 69 21 [.tmp 4] (Z5 17 142 143 24) := ⟨Tryz.f69, Tryz.func69, by kernel_rfl, by kernel_rfl, by kernel_rfl, by kernel_rfl⟩
theorem Qiu : QfH pg 69 := Qnz Qcw QcJ QgY QgX
theorem Qb3 : Qj pg 16 20 [.tmp 2] (ZP 17 68 69 24) := ⟨Tryz.f16, Tryz.func16, by kernel_rfl, by kernel_rfl, by kernel_rfl, by kernel_rfl⟩
theorem QgW : Xj pg 16 := QkA Qb3 QcJ QgZ Qiu
theorem Qcu : Qj pg 44 13 [.cell 4 24] (Z3 24) := ⟨Tryz.f44, Tryz.func44, by kernel_rfl, by kernel_rfl, by kernel_rfl, by kernel_rfl⟩
theorem Qis : Qh1 pg 44 := Qnx Qcu (show ZB Tryz.prog 24 = some (some 4) by kernel_rfl)
theorem Qcv : Qj pg 45 31 [.tmp 4] (Z4 26 24) := ⟨Tryz.f45, Tryz.func45, by kernel_rfl, by kernel_rfl, by kernel_rfl, by kernel_rfl⟩
theorem Qit : QlR pg 45 := Qny Qcv Qiw
theorem Qna : QuH pg 26 := Qsd JP
theorem Qay : Qj pg 113 27 [.tmp 4] (QR 26) := ⟨Tryz.f113, Tryz.func113, by kernel_rfl, by kernel_rfl, by kernel_rfl, by kernel_rfl⟩
theorem Qdn : QuF pg 113 := Qe9 Qay Qna
theorem Qrd : Qj pg 161 14 [.tmp 4] Qaz := ⟨Tryz.f161, Tryz.func161, by kernel_rfl, by kernel_rfl, by kernel_rfl, by kernel_rfl⟩
theorem QoJ : Qrm pg 161 := Qt2 Qrd
theorem Qol : Qj pg 84 35 [.tmp 4, .tmp 5] (Qa4 161 5) := ⟨Tryz.f84, Tryz.func84, by kernel_rfl, by kernel_rfl, by kernel_rfl, by kernel_rfl⟩
theorem Qnf : QfE pg 84 := Qsq Qol QoJ
theorem QhN : Qj pg 217 24 [.tmp 0] (Qal 338) := ⟨Tryz.f217, Tryz.func217, by kernel_rfl, by kernel_rfl, by kernel_rfl, by kernel_rfl⟩
theorem Qg6 : QlE pg 217 := Qk9 QhN
theorem QjK : Qj pg 160 32 [.tmp 4, .tmp 5] (Jv 217) := ⟨Tryz.f160, Tryz.func160, by kernel_rfl, by kernel_rfl, by kernel_rfl, by kernel_rfl⟩
theorem QiA : QlS pg 160 := Qn1 QjK Qg6
theorem Qlu : Qj pg 83 16 [.tmp 2, .tmp 3] (J6 160) := ⟨Tryz.f83, Tryz.func83, by kernel_rfl, by kernel_rfl, by kernel_rfl, by kernel_rfl⟩
theorem QeU : Qm0 pg 83 := QqO Qlu QiA
theorem QjP : Qj pg 154 40 [.tmp 2] (Jy 135) := ⟨Tryz.f154, Tryz.func154, by kernel_rfl, by kernel_rfl, by kernel_rfl, by kernel_rfl⟩
theorem Zb : XB pg 154 := Qof QjP
theorem Qom : Qj pg 167 47 [.tmp 6] (QcC 135) := ⟨Tryz.f167, Tryz.func167, by kernel_rfl, by kernel_rfl, by kernel_rfl, by kernel_rfl⟩
theorem Qgr : QmW pg 167 := QsR Qom
theorem Qoo : Qj pg 92 34 [.tmp 6, .tmp 7] (Qba 154 167 135) := ⟨Tryz.f92, Tryz.func92, by kernel_rfl, by kernel_rfl, by kernel_rfl, by kernel_rfl⟩
theorem QbL : QgP pg 92 := QsT Qoo Zb Qgr
theorem JO : Qj pg 264 14 [.tmp 2] (Q3 4) := ⟨Tryz.f264, Tryz.func264, by kernel_rfl, by kernel_rfl, by kernel_rfl, by kernel_rfl⟩
theorem QoN : Qwi pg 264 := Quv JO (show pg.G.lookup 4 = some dbG by rfl)
theorem Qgh : Qj pg 263 8 [.tmp 2] JQ := ⟨Tryz.f263, Tryz.func263, by kernel_rfl, by kernel_rfl, by kernel_rfl, by kernel_rfl⟩
theorem Qio : QhW pg 263 := Qni Qgh
theorem Qjz : Qj pg 246 53 [.tmp 4, .tmp 5, .tmp 6] (Qa0 154 263 92 264 135 3) := ⟨Tryz.f246, Tryz.func246, by kernel_rfl, by kernel_rfl, by kernel_rfl, by kernel_rfl⟩
theorem Qip : QlD pg 246 := Qnj Qjz Zb Qio QbL QoN
theorem QjH : Qj pg 153 2 [.cell 0 131] (Qa5 131) := ⟨Tryz.f153, Tryz.func153, by kernel_rfl, by kernel_rfl, by kernel_rfl, by kernel_rfl⟩
theorem QdU : QdM pg 153 := QnW QjH (show ZB Tryz.prog 131 = some (some 4) by kernel_rfl)
theorem QjI : Qj pg 155 26 [.tmp 2] (Qa6 131) := ⟨Tryz.f155, Tryz.func155, by kernel_rfl, by kernel_rfl, by kernel_rfl, by kernel_rfl⟩
theorem QdV : QeL pg 155 := QnX QjI
theorem QjF : Qj pg 156 17 [.tmp 4, .tmp 5] (Js 131) := ⟨Tryz.f156, Tryz.func156, by kernel_rfl, by kernel_rfl, by kernel_rfl, by kernel_rfl⟩
theorem Qbs : QdN pg 156 := QnU QjF
theorem Qgj : Qj pg 214 9 [.tmp 4] Xx := ⟨Tryz.f214, Tryz.func214, by kernel_rfl, by kernel_rfl, by kernel_rfl, by kernel_rfl⟩
theorem Qgq : QsY pg 214 := Qr8 Qgj
theorem Qln : Qj pg 218 68 [.tmp 6, .tmp 7, .tmp 8] (Zq 154 246 92 214 135) := ⟨Tryz.f218, Tryz.func218, by kernel_rfl, by kernel_rfl, by kernel_rfl, by kernel_rfl⟩
theorem Qj8 : QlF pg 218 := Qpu Qln Zb Qip QbL Qgq

end Go.Proofs.YtapimafdnjankaaGreatDoor.clipBack

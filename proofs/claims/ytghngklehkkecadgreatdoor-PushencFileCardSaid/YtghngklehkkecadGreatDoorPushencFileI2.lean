/- What the functions that the law reaches return in this program, part 2; no conditions. -/
import Derived.Test.YtghngklehkkecadGreatDoorPushencFileI1
set_option linter.unusedSectionVars false
set_option linter.unusedSimpArgs false
set_option linter.unusedVariables false
namespace Go.Proofs.YtghngklehkkecadGreatDoor.pushencFile
open Go.Am Go.ChangeShapes Go.WideShapes Go.ChangeAt Go.RowKit

theorem Qi4 : QiE pg 117 := Qnx Qkt (show ZJ Tryz.prog 140 = some (some 33) by kernel_rfl) QbA QkV
theorem Qmf : Qf pg 118 22 [.cell 4 140, .tmp 5] (QbT 116 140) := ⟨Tryz.f118, Tryz.func118, by kernel_rfl, by kernel_rfl, by kernel_rfl, by kernel_rfl⟩
theorem QkW : Qmw pg 118 := QoY Qmf (show ZJ Tryz.prog 140 = some (some 33) by kernel_rfl) QbA
theorem Qkx : Qf pg 111 20 [.cell 6 140] (Qbd 117 118 140) := ⟨Tryz.f111, Tryz.func111, by kernel_rfl, by kernel_rfl, by kernel_rfl, by kernel_rfl⟩
theorem Qjb : QfQ pg 111 := QnT Qkx (show ZJ Tryz.prog 140 = some (some 33) by kernel_rfl) Qi4 QkW
theorem Qii : Qf pg 100 27 [.tmp 4, .cell 5 140, .tmp 6] (Qav 110 111 140) := ⟨Tryz.f100, Tryz.func100, by kernel_rfl, by kernel_rfl, by kernel_rfl, by kernel_rfl⟩
theorem Qha : QdY pg 100 := Qlu Qii (show ZJ Tryz.prog 140 = some (some 33) by kernel_rfl) Qi5 Qjb
theorem Qin : Qf pg 108 10 [.tmp 2, .tmp 3] Z9 := ⟨Tryz.f108, Tryz.func108, by kernel_rfl, by kernel_rfl, by kernel_rfl, by kernel_rfl⟩
theorem Qhh : QiQ pg 108 := QlH Qin
theorem Qim : Qf pg 109 16 [.tmp 4] X3 := ⟨Tryz.f109, Tryz.func109, by kernel_rfl, by kernel_rfl, by kernel_rfl, by kernel_rfl⟩
theorem Qhg : QiP pg 109 := QlG Qim
theorem Qio : Qf pg 99 19 [.tmp 4, .tmp 5] (Qax 108 109) := ⟨Tryz.f99, Tryz.func99, by kernel_rfl, by kernel_rfl, by kernel_rfl, by kernel_rfl⟩
theorem Qhi : QiR pg 99 := QlI Qio Qhh Qhg
theorem Qmn : Qf pg 78 21 [.cell 4 142, .tmp 5] (QbW 97 85 142 140) := ⟨Tryz.f78, Tryz.func78, by kernel_rfl, by kernel_rfl, by kernel_rfl, by kernel_rfl⟩
theorem Qk3 : Qrd pg 78 := QqE Qmn (show ZJ Tryz.prog 142 = some (some 35) by kernel_rfl) QgC
theorem Qiv : Qf pg 98 24 [.tmp 2] (QaC 97 142 140) := ⟨Tryz.f98, Tryz.func98, by kernel_rfl, by kernel_rfl, by kernel_rfl, by kernel_rfl⟩
theorem Qhp : QiV pg 98 := Ql8 Qiv QgC
theorem QfH : Qf pg 79 44 [.tmp 4, .cell 5 142, .tmp 6] (Jo 98 99 100 142 140) := ⟨Tryz.f79, Tryz.func79, by kernel_rfl, by kernel_rfl, by kernel_rfl, by kernel_rfl⟩
theorem QeZ : Qd1 pg 79 := Qia QfH (show ZJ Tryz.prog 142 = some (some 35) by kernel_rfl) Qhp Qhi Qha
theorem Qmi : Qf pg 80 10 [.tmp 2] Qah := ⟨Tryz.f80, Tryz.func80, by kernel_rfl, by kernel_rfl, by kernel_rfl, by kernel_rfl⟩
theorem QkY : Qq9 pg 80 := Qp6 Qmi
theorem ZY : Qf pg 45 8 [.tmp 2] (Qq 21) := ⟨Tryz.f45, Tryz.func45, by kernel_rfl, by kernel_rfl, by kernel_rfl, by kernel_rfl⟩
theorem Qk1 : QiU 21 pg 45 := QqA ZY
theorem QqR : Qf pg 96 39 [] QdV := ⟨Tryz.f96, Tryz.func96, by kernel_rfl, by kernel_rfl, by kernel_rfl, by kernel_rfl⟩
theorem QoL : Qun pg 96 := QtJ QqR
theorem Qmh : Qf pg 95 22 [.tmp 4] ZN := ⟨Tryz.f95, Tryz.func95, by kernel_rfl, by kernel_rfl, by kernel_rfl, by kernel_rfl⟩
theorem QkX : QiL pg 95 := QpK Qmh
theorem QqS : Qf pg 77 32 [.tmp 4, .tmp 5] (QdW 95 45 96) := ⟨Tryz.f77, Tryz.func77, by kernel_rfl, by kernel_rfl, by kernel_rfl, by kernel_rfl⟩
theorem QoM : QiK pg 77 := QtK QqS QkX Qk1 QoL
theorem QfD : Qf pg 76 30 [.tmp 4] (Jl 41 64 23) := ⟨Tryz.f76, Tryz.func76, by kernel_rfl, by kernel_rfl, by kernel_rfl, by kernel_rfl⟩
theorem QeV : Qrc pg 76 := QhW QfD JL QaV
theorem Qew : Qf pg 60 83 [.tmp 6, .tmp 7] (XU 76 77 78 79 80 23 85 143 142 101) := ⟨Tryz.f60, Tryz.func60, by kernel_rfl, by kernel_rfl, by kernel_rfl, by kernel_rfl⟩
theorem Qel : QmB pg 60 := Qgh Qew QeV QoM Qk3 QeZ QkY
theorem QfB : Qf pg 89 32 [.tmp 4, .tmp 5] (Jk 40) := ⟨Tryz.f89, Tryz.func89, by kernel_rfl, by kernel_rfl, by kernel_rfl, by kernel_rfl⟩
theorem JK : QbY pg 89 := QhN QfB Z3
theorem QkF : Qf pg 50 8 [.cell 2 23] (Qbh 45 23) := ⟨Tryz.f50, Tryz.func50, by kernel_rfl, by kernel_rfl, by kernel_rfl, by kernel_rfl⟩
theorem Qd5 : Qdx pg 50 := Qoh QkF (show ZJ Tryz.prog 23 = some (some 2) by kernel_rfl)
theorem Qmm : Qf pg 68 31 [.tmp 4] (QbV 50 41 89 45) := ⟨Tryz.f68, Tryz.func68, by kernel_rfl, by kernel_rfl, by kernel_rfl, by kernel_rfl⟩
theorem Qk2 : QmE pg 68 := QqB Qmm Qd5 JL JK
theorem QkH : Qf pg 48 33 [.tmp 2] (XG 68 64 45) := ⟨Tryz.f48, Tryz.func48, by kernel_rfl, by kernel_rfl, by kernel_rfl, by kernel_rfl⟩
theorem Qd6 : Qbm pg 48 := Qok QkH Qk2 QaV
theorem QqT : Qf pg 73 14 [.tmp 4] QaP := ⟨Tryz.f73, Tryz.func73, by kernel_rfl, by kernel_rfl, by kernel_rfl, by kernel_rfl⟩
theorem QoN : Qq2 pg 73 := QtM QqT
theorem Qot : Qf pg 52 35 [.tmp 4, .tmp 5] (Qbe 73 5) := ⟨Tryz.f52, Tryz.func52, by kernel_rfl, by kernel_rfl, by kernel_rfl, by kernel_rfl⟩
theorem QaG : JZ pg 52 := Qr9 Qot QoN

end Go.Proofs.YtghngklehkkecadGreatDoor.pushencFile

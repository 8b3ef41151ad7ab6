/- What the functions that the law reaches return in this program, part 2; no conditions. -/
import Derived.Test.YtghngklehkkecacGreatDoorPushencPiecesI1
set_option linter.unusedSectionVars false
set_option linter.unusedSimpArgs false
set_option linter.unusedVariables false
namespace Go.Proofs.YtghngklehkkecacGreatDoor.pushencPieces
open Go.Am Go.ChangeShapes Go.WideShapes Go.ChangeAt Go.RowKit

theorem Qk1 : QmC pg 118 := Qo8 Qml (show ZK Tryz.prog 141 = some (some 33) by kernel_rfl) QbA
theorem QkB : Qf pg 111 20 [.cell 6 141] (Qbf 117 118 141) := ⟨Tryz.f111, Tryz.func111, by kernel_rfl, by kernel_rfl, by kernel_rfl, by kernel_rfl⟩
theorem Qje : QfW pg 111 := Qn2 QkB (show ZK Tryz.prog 141 = some (some 33) by kernel_rfl) Qi7 Qk1
theorem Qim : Qf pg 100 27 [.tmp 4, .cell 5 141, .tmp 6] (Qaz 110 111 141) := ⟨Tryz.f100, Tryz.func100, by kernel_rfl, by kernel_rfl, by kernel_rfl, by kernel_rfl⟩
theorem Qhd : Qd4 pg 100 := QlB Qim (show ZK Tryz.prog 141 = some (some 33) by kernel_rfl) Qi8 Qje
theorem Qir : Qf pg 108 10 [.tmp 2, .tmp 3] Xa := ⟨Tryz.f108, Tryz.func108, by kernel_rfl, by kernel_rfl, by kernel_rfl, by kernel_rfl⟩
theorem Qhk : QiU pg 108 := QlO Qir
theorem Qiq : Qf pg 109 16 [.tmp 4] X3 := ⟨Tryz.f109, Tryz.func109, by kernel_rfl, by kernel_rfl, by kernel_rfl, by kernel_rfl⟩
theorem Qhj : QiT pg 109 := QlN Qiq
theorem Qis : Qf pg 99 19 [.tmp 4, .tmp 5] (QaB 108 109) := ⟨Tryz.f99, Tryz.func99, by kernel_rfl, by kernel_rfl, by kernel_rfl, by kernel_rfl⟩
theorem Qhl : QiV pg 99 := QlP Qis Qhk Qhj
theorem Qmt : Qf pg 78 21 [.cell 4 143, .tmp 5] (QbY 97 86 143 141) := ⟨Tryz.f78, Tryz.func78, by kernel_rfl, by kernel_rfl, by kernel_rfl, by kernel_rfl⟩
theorem Qk8 : Qrq pg 78 := QqS Qmt (show ZK Tryz.prog 143 = some (some 35) by kernel_rfl) QgG
theorem Qiz : Qf pg 98 24 [.tmp 2] (QaG 97 143 141) := ⟨Tryz.f98, Tryz.func98, by kernel_rfl, by kernel_rfl, by kernel_rfl, by kernel_rfl⟩
theorem Qht : QiY pg 98 := Qme Qiz QgG
theorem QfN : Qf pg 79 44 [.tmp 4, .cell 5 143, .tmp 6] (Jp 98 99 100 143 141) := ⟨Tryz.f79, Tryz.func79, by kernel_rfl, by kernel_rfl, by kernel_rfl, by kernel_rfl⟩
theorem Qe8 : Qd7 pg 79 := Qid QfN (show ZK Tryz.prog 143 = some (some 35) by kernel_rfl) Qht Qhl Qhd
theorem Qmo : Qf pg 80 10 [.tmp 2] Qal := ⟨Tryz.f80, Tryz.func80, by kernel_rfl, by kernel_rfl, by kernel_rfl, by kernel_rfl⟩
theorem Qk3 : Qrm pg 80 := Qqg Qmo
theorem ZW : Qf pg 47 8 [.tmp 2] (Qs 21) := ⟨Tryz.f47, Tryz.func47, by kernel_rfl, by kernel_rfl, by kernel_rfl, by kernel_rfl⟩
theorem Qk6 : QiX 21 pg 47 := QqO ZW
theorem Qq5 : Qf pg 96 39 [] Qd0 := ⟨Tryz.f96, Tryz.func96, by kernel_rfl, by kernel_rfl, by kernel_rfl, by kernel_rfl⟩
theorem QoV : QuC pg 96 := QtX Qq5
theorem Qmn : Qf pg 95 22 [.tmp 4] ZO := ⟨Tryz.f95, Tryz.func95, by kernel_rfl, by kernel_rfl, by kernel_rfl, by kernel_rfl⟩
theorem Qk2 : QiP pg 95 := QpT Qmn
theorem Qq6 : Qf pg 77 32 [.tmp 4, .tmp 5] (Qd1 95 47 96) := ⟨Tryz.f77, Tryz.func77, by kernel_rfl, by kernel_rfl, by kernel_rfl, by kernel_rfl⟩
theorem QoW : QiO pg 77 := QtY Qq6 Qk2 Qk6 QoV
theorem QfJ : Qf pg 76 30 [.tmp 4] (Jm 40 65 23) := ⟨Tryz.f76, Tryz.func76, by kernel_rfl, by kernel_rfl, by kernel_rfl, by kernel_rfl⟩
theorem Qe4 : Qrp pg 76 := Qh0 QfJ JP QaX
theorem QeD : Qf pg 60 83 [.tmp 6, .tmp 7] (XU 76 77 78 79 80 23 86 144 143 102) := ⟨Tryz.f60, Tryz.func60, by kernel_rfl, by kernel_rfl, by kernel_rfl, by kernel_rfl⟩
theorem Qes : QmI pg 60 := Qgl QeD Qe4 QoW Qk8 Qe8 Qk3
theorem QfH : Qf pg 89 32 [.tmp 4, .tmp 5] (Jl 39) := ⟨Tryz.f89, Tryz.func89, by kernel_rfl, by kernel_rfl, by kernel_rfl, by kernel_rfl⟩
theorem JO : QbZ pg 89 := QhR QfH Z4
theorem QkJ : Qf pg 50 8 [.cell 2 23] (Qbj 48 23) := ⟨Tryz.f50, Tryz.func50, by kernel_rfl, by kernel_rfl, by kernel_rfl, by kernel_rfl⟩
theorem Qeb : Qdy pg 50 := Qoq QkJ (show ZK Tryz.prog 23 = some (some 2) by kernel_rfl)
theorem Qms : Qf pg 68 31 [.tmp 4] (QbX 50 40 89 48) := ⟨Tryz.f68, Tryz.func68, by kernel_rfl, by kernel_rfl, by kernel_rfl, by kernel_rfl⟩
theorem Qk7 : QmM pg 68 := QqP Qms Qeb JP JO
theorem QkL : Qf pg 48 33 [.tmp 2] (XF 68 65 48) := ⟨Tryz.f48, Tryz.func48, by kernel_rfl, by kernel_rfl, by kernel_rfl, by kernel_rfl⟩
theorem Qec : Qbn pg 48 := Qot QkL Qk7 QaX
theorem Qq7 : Qf pg 73 14 [.tmp 4] QaR := ⟨Tryz.f73, Tryz.func73, by kernel_rfl, by kernel_rfl, by kernel_rfl, by kernel_rfl⟩
theorem QoX : Qrf pg 73 := Qt0 Qq7
theorem QoC : Qf pg 52 35 [.tmp 4, .tmp 5] (Qbg 73 5) := ⟨Tryz.f52, Tryz.func52, by kernel_rfl, by kernel_rfl, by kernel_rfl, by kernel_rfl⟩
theorem QaJ : J4 pg 52 := Qsm QoC QoX
theorem QfA : Qf pg 22 81 [.tmp 4, .tmp 5] (Zb 41 21) := ⟨Tryz.f22, Tryz.func22, by kernel_rfl, by kernel_rfl, by kernel_rfl, by kernel_rfl⟩
theorem Qe1 : Qdz pg 22 := Qg7 QfA QaW

end Go.Proofs.YtghngklehkkecacGreatDoor.pushencPieces

/- What the functions that the law reaches return in this program, part 3; no conditions. -/
import Derived.Test.YtghngklehkkecacGreatDoorPushencPiecesI2
set_option linter.unusedSectionVars false
set_option linter.unusedSimpArgs false
set_option linter.unusedVariables false
namespace Go.Proofs.YtghngklehkkecacGreatDoor.pushencPieces
open Go.Am Go.ChangeShapes Go.WideShapes Go.ChangeAt Go.RowKit

theorem Qix : Qf pg 92 24 [.tmp 0] (QaE 189) := ⟨Tryz.f92, Tryz.func92, by kernel_rfl, by kernel_rfl, by kernel_rfl, by kernel_rfl⟩
theorem Qhq : QmA pg 92 := Ql8 Qix
theorem QkI : Qf pg 74 32 [.tmp 4, .tmp 5] (JE 92) := ⟨Tryz.f74, Tryz.func74, by kernel_rfl, by kernel_rfl, by kernel_rfl, by kernel_rfl⟩
theorem Qjl : QmL pg 74 := Qom QkI Qhq
theorem Qmr : Qf pg 53 16 [.tmp 2, .tmp 3] (Qao 74) := ⟨Tryz.f53, Tryz.func53, by kernel_rfl, by kernel_rfl, by kernel_rfl, by kernel_rfl⟩
theorem QaZ : Qg5 pg 53 := QqL Qmr Qjl
theorem QkM : Qf pg 82 40 [.tmp 2] (JF 120) := ⟨Tryz.f82, Tryz.func82, by kernel_rfl, by kernel_rfl, by kernel_rfl, by kernel_rfl⟩
theorem Qaa : Qcg pg 82 := QoA QkM
theorem QkF : Qf pg 81 2 [.cell 0 116] (Qbh 116) := ⟨Tryz.f81, Tryz.func81, by kernel_rfl, by kernel_rfl, by kernel_rfl, by kernel_rfl⟩
theorem Qji : QiK pg 81 := Qoh QkF (show ZK Tryz.prog 116 = some (some 4) by kernel_rfl)
theorem QkG : Qf pg 83 26 [.tmp 2] (Qbi 116) := ⟨Tryz.f83, Tryz.func83, by kernel_rfl, by kernel_rfl, by kernel_rfl, by kernel_rfl⟩
theorem Qjj : QiW pg 83 := Qoi QkG
theorem QkC : Qf pg 84 17 [.tmp 4, .tmp 5] (JB 116) := ⟨Tryz.f84, Tryz.func84, by kernel_rfl, by kernel_rfl, by kernel_rfl, by kernel_rfl⟩
theorem Qea : QfU pg 84 := Qoe QkC
theorem Qgv : Qf pg 103 9 [.tmp 4] Xy := ⟨Tryz.f103, Tryz.func103, by kernel_rfl, by kernel_rfl, by kernel_rfl, by kernel_rfl⟩
theorem QnD : QuB pg 103 := Qr7 Qgv
theorem QaQ : Qf pg 28 8 [.tmp 2] (QQ 5) := ⟨Tryz.f28, Tryz.func28, by kernel_rfl, by kernel_rfl, by kernel_rfl, by kernel_rfl⟩
theorem QcY : JH 5 pg 28 := Qus QaQ
theorem QoE : Qf pg 85 44 [.cell 6 120, .tmp 7] (Qbm 82 101 102 120) := ⟨Tryz.f85, Tryz.func85, by kernel_rfl, by kernel_rfl, by kernel_rfl, by kernel_rfl⟩
theorem Qmu : Qf pg 101 9 [.cell 2 120] (Qap 28 120) := ⟨Tryz.f101, Tryz.func101, by kernel_rfl, by kernel_rfl, by kernel_rfl, by kernel_rfl⟩
theorem QoD : Qf pg 102 75 [] (Qbl 5) := ⟨Tryz.f102, Tryz.func102, by kernel_rfl, by kernel_rfl, by kernel_rfl, by kernel_rfl⟩
theorem QdE : QkP pg 85 := QsV QoE Qaa Qmu QoD QcY (show ZK Tryz.prog 120 = some (some 2) by kernel_rfl) (show ZK Tryz.prog 120 = some (some 2) by kernel_rfl)
theorem Qgu : Qf pg 112 13 [.tmp 2, .tmp 3] JY := ⟨Tryz.f112, Tryz.func112, by kernel_rfl, by kernel_rfl, by kernel_rfl, by kernel_rfl⟩
theorem Qf7 : Qre pg 112 := Qjp Qgu
theorem Qii : Qf pg 104 32 [.cell 4 120, .tmp 5] (Qax 82 112 85 120) := ⟨Tryz.f104, Tryz.func104, by kernel_rfl, by kernel_rfl, by kernel_rfl, by kernel_rfl⟩
theorem Qg9 : QiE pg 104 := Qlb Qii Qaa Qf7 QdE (show ZK Tryz.prog 120 = some (some 2) by kernel_rfl)
theorem QkA : Qf pg 86 57 [.cell 6 120, .tmp 7] (JA 82 103 104 85 120) := ⟨Tryz.f86, Tryz.func86, by kernel_rfl, by kernel_rfl, by kernel_rfl, by kernel_rfl⟩
theorem Qi9 : QiG pg 86 := QnS QkA Qaa QnD Qg9 QdE (show ZK Tryz.prog 120 = some (some 2) by kernel_rfl)
theorem QkE : Qf pg 62 69 [.cell 6 120, .cell 7 116, .tmp 8] (JC 82 83 84 85 86 87 120 116) := ⟨Tryz.f62, Tryz.func62, by kernel_rfl, by kernel_rfl, by kernel_rfl, by kernel_rfl⟩
theorem QkD : Qf pg 87 36 [] (XC 105 84) := ⟨Tryz.f87, Tryz.func87, by kernel_rfl, by kernel_rfl, by kernel_rfl, by kernel_rfl⟩
theorem QgC : Qf pg 105 58 [] Ql := ⟨Tryz.f105, Tryz.func105, by kernel_rfl, by kernel_rfl, by kernel_rfl, by kernel_rfl⟩
theorem Qjh : QiH pg 62 := Qog QkE Qaa Qjj Qea QdE Qi9 QkD QgC Qea (show ZK Tryz.prog 120 = some (some 2) by kernel_rfl) (show ZK Tryz.prog 116 = some (some 4) by kernel_rfl)
theorem QeC : Qf pg 61 11 [.cell 0 117] (XT 81 117) := ⟨Tryz.f61, Tryz.func61, by kernel_rfl, by kernel_rfl, by kernel_rfl, by kernel_rfl⟩
theorem Qer : Qdu pg 61 := Qgk QeC Qji (show ZK Tryz.prog 117 = some (some 24) by kernel_rfl)
theorem Qau : Qf pg 45 36 [.tmp 2] (Q8 64 5) := ⟨Tryz.f45, Tryz.func45, by kernel_rfl, by kernel_rfl, by kernel_rfl, by kernel_rfl⟩
theorem growB : QfZ 5 pg 64 := grow_nil Tryz.growB rfl rfl (by kernel_rfl)
theorem QbB : Qe0 pg 45 := Qhx Qau growB
theorem QeE : Qf pg 43 85 [.tmp 6, .tmp 7] (ZU 60 61 62 63 53 52 45 23 86 117 120 116 24) := ⟨Tryz.f43, Tryz.func43, by kernel_rfl, by kernel_rfl, by kernel_rfl, by kernel_rfl⟩
theorem Qit : Qf pg 63 64 [] (X4 120 5) := ⟨Tryz.f63, Tryz.func63, by kernel_rfl, by kernel_rfl, by kernel_rfl, by kernel_rfl⟩
theorem Jc : QmH pg 43 := Qgm QeE Qes Qer Qjh Qit QaZ QaJ QbB
theorem QdY : Qf pg 114 51 [.tmp 4, .tmp 5] XB := ⟨Tryz.f114, Tryz.func114, by kernel_rfl, by kernel_rfl, by kernel_rfl, by kernel_rfl⟩
theorem Qjd : QoH pg 114 := QnZ QdY
theorem QfG : Qf pg 106 30 [.tmp 4, .tmp 5] (Jk 113 114) := ⟨Tryz.f106, Tryz.func106, by kernel_rfl, by kernel_rfl, by kernel_rfl, by kernel_rfl⟩
theorem QnE : QoH pg 106 := Qsi QfG Qjd
theorem Qbb : Qf pg 90 48 [.tmp 4] (Zp 106 3) := ⟨Tryz.f90, Tryz.func90, by kernel_rfl, by kernel_rfl, by kernel_rfl, by kernel_rfl⟩

end Go.Proofs.YtghngklehkkecacGreatDoor.pushencPieces

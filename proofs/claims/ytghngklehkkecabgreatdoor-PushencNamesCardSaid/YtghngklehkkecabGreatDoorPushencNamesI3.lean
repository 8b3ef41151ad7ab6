/- What the functions that the law reaches return in this program, part 3; no conditions. -/
import Derived.Test.YtghngklehkkecabGreatDoorPushencNamesI2
set_option linter.unusedSectionVars false
set_option linter.unusedSimpArgs false
set_option linter.unusedVariables false
namespace Go.Proofs.YtghngklehkkecabGreatDoor.pushencNames
open Go.Am Go.ChangeShapes Go.WideShapes Go.ChangeAt Go.RowKit

theorem QkU : Qk pg 71 40 [.tmp 2] (JQ 104) := ⟨Tryz.f71, Tryz.func71, by kernel_rfl, by kernel_rfl, by kernel_rfl, by kernel_rfl⟩
theorem Qap : Qck pg 71 := QoB QkU
theorem QkN : Qk pg 70 2 [.cell 0 100] (Qbu 100) := ⟨Tryz.f70, Tryz.func70, by kernel_rfl, by kernel_rfl, by kernel_rfl, by kernel_rfl⟩
theorem Qju : Qi0 pg 70 := Qok QkN (show ZP Tryz.prog 100 = some (some 4) by kernel_rfl)
theorem QkO : Qk pg 72 26 [.tmp 2] (Qbv 100) := ⟨Tryz.f72, Tryz.func72, by kernel_rfl, by kernel_rfl, by kernel_rfl, by kernel_rfl⟩
theorem Qjv : Qjb pg 72 := Qol QkO
theorem QkK : Qk pg 73 17 [.tmp 4, .tmp 5] (JM 100) := ⟨Tryz.f73, Tryz.func73, by kernel_rfl, by kernel_rfl, by kernel_rfl, by kernel_rfl⟩
theorem Qec : Qf4 pg 73 := Qoh QkK
theorem QgF : Qk pg 94 9 [.tmp 4] XE := ⟨Tryz.f94, Tryz.func94, by kernel_rfl, by kernel_rfl, by kernel_rfl, by kernel_rfl⟩
theorem QnI : QuD pg 94 := QrX QgF
theorem Qa5 : Qk pg 25 8 [.tmp 2] (QQ 5) := ⟨Tryz.f25, Tryz.func25, by kernel_rfl, by kernel_rfl, by kernel_rfl, by kernel_rfl⟩
theorem QcX : JR 5 pg 25 := Quu Qa5
theorem QoF : Qk pg 74 44 [.cell 6 104, .tmp 7] (Qbz 71 92 93 104) := ⟨Tryz.f74, Tryz.func74, by kernel_rfl, by kernel_rfl, by kernel_rfl, by kernel_rfl⟩
theorem QmA : Qk pg 92 9 [.cell 2 104] (QaD 25 104) := ⟨Tryz.f92, Tryz.func92, by kernel_rfl, by kernel_rfl, by kernel_rfl, by kernel_rfl⟩
theorem QoE : Qk pg 93 75 [] (Qby 5) := ⟨Tryz.f93, Tryz.func93, by kernel_rfl, by kernel_rfl, by kernel_rfl, by kernel_rfl⟩
theorem QdH : QkW pg 74 := QsO QoF Qap QmA QoE QcX (show ZP Tryz.prog 104 = some (some 2) by kernel_rfl) (show ZP Tryz.prog 104 = some (some 2) by kernel_rfl)
theorem QgE : Qk pg 105 13 [.tmp 2, .tmp 3] Qab := ⟨Tryz.f105, Tryz.func105, by kernel_rfl, by kernel_rfl, by kernel_rfl, by kernel_rfl⟩
theorem Qgh : Qq5 pg 105 := QjB QgE
theorem Qiy : Qk pg 95 32 [.cell 4 104, .tmp 5] (QaN 71 105 74 104) := ⟨Tryz.f95, Tryz.func95, by kernel_rfl, by kernel_rfl, by kernel_rfl, by kernel_rfl⟩
theorem Qhn : QiU pg 95 := Qlk Qiy Qap Qgh QdH (show ZP Tryz.prog 104 = some (some 2) by kernel_rfl)
theorem QkI : Qk pg 75 57 [.cell 6 104, .tmp 7] (JL 71 94 95 74 104) := ⟨Tryz.f75, Tryz.func75, by kernel_rfl, by kernel_rfl, by kernel_rfl, by kernel_rfl⟩
theorem Qjq : QiW pg 75 := QnY QkI Qap QnI Qhn QdH (show ZP Tryz.prog 104 = some (some 2) by kernel_rfl)
theorem QkM : Qk pg 51 69 [.cell 6 104, .cell 7 100, .tmp 8] (JN 71 72 73 74 75 76 104 100) := ⟨Tryz.f51, Tryz.func51, by kernel_rfl, by kernel_rfl, by kernel_rfl, by kernel_rfl⟩
theorem QkL : Qk pg 76 36 [] (XI 96 73) := ⟨Tryz.f76, Tryz.func76, by kernel_rfl, by kernel_rfl, by kernel_rfl, by kernel_rfl⟩
theorem QgM : Qk pg 96 58 [] Qp := ⟨Tryz.f96, Tryz.func96, by kernel_rfl, by kernel_rfl, by kernel_rfl, by kernel_rfl⟩
theorem Qjt : QiX pg 51 := Qoj QkM Qap Qjv Qec QdH Qjq QkL QgM Qec (show ZP Tryz.prog 104 = some (some 2) by kernel_rfl) (show ZP Tryz.prog 100 = some (some 4) by kernel_rfl)
theorem QeF : Qk pg 50 11 [.cell 0 101] (X7 70 101) := ⟨Tryz.f50, Tryz.func50, by kernel_rfl, by kernel_rfl, by kernel_rfl, by kernel_rfl⟩
theorem Qes : Qdv pg 50 := Qgu QeF Qju (show ZP Tryz.prog 101 = some (some 24) by kernel_rfl)
theorem QaK : Qk pg 37 36 [.tmp 2] (Q8 59 5) := ⟨Tryz.f37, Tryz.func37, by kernel_rfl, by kernel_rfl, by kernel_rfl, by kernel_rfl⟩
theorem growB : Qf8 5 pg 59 := grow_nil Tryz.growB rfl rfl (by kernel_rfl)
theorem QbL : Qe5 pg 37 := QhN QaK growB
theorem QeH : Qk pg 32 85 [.tmp 6, .tmp 7] (Z3 49 50 51 52 53 54 37 24 70 101 104 100 22) := ⟨Tryz.f32, Tryz.func32, by kernel_rfl, by kernel_rfl, by kernel_rfl, by kernel_rfl⟩
theorem QiJ : Qk pg 52 64 [] (Jf 104 5) := ⟨Tryz.f52, Tryz.func52, by kernel_rfl, by kernel_rfl, by kernel_rfl, by kernel_rfl⟩
theorem Jn : QmO pg 32 := Qgw QeH Qet Qes Qjt QiJ Qbd Qa0 QbL
theorem QdZ : Qk pg 112 51 [.tmp 4, .tmp 5] XH := ⟨Tryz.f112, Tryz.func112, by kernel_rfl, by kernel_rfl, by kernel_rfl, by kernel_rfl⟩
theorem Qjr : QoH pg 112 := Qn2 QdZ
theorem QfQ : Qk pg 106 30 [.tmp 4, .tmp 5] (Jv 111 112) := ⟨Tryz.f106, Tryz.func106, by kernel_rfl, by kernel_rfl, by kernel_rfl, by kernel_rfl⟩
theorem QnJ : QoH pg 106 := Qsa QfQ Qjr
theorem Qbo : Qk pg 99 48 [.tmp 4] (Zp 106 3) := ⟨Tryz.f99, Tryz.func99, by kernel_rfl, by kernel_rfl, by kernel_rfl, by kernel_rfl⟩
theorem Qep : Qf0 3 pg 99 := Qgn Qbo QnJ
theorem Qbp : Qk pg 107 36 [.tmp 2] (Zq 113 3) := ⟨Tryz.f107, Tryz.func107, by kernel_rfl, by kernel_rfl, by kernel_rfl, by kernel_rfl⟩
theorem growI : Qhi 3 pg 113 := grow_nilI Tryz.growI rfl rfl (by kernel_rfl)
theorem Qeq : Qgb 3 pg 107 := Qgo Qbp growI
theorem QeE : Qk pg 100 9 [.tmp 4] (X6 107 79) := ⟨Tryz.f100, Tryz.func100, by kernel_rfl, by kernel_rfl, by kernel_rfl, by kernel_rfl⟩
theorem Qer : Qre 3 pg 100 := Qgs QeE Qeq

end Go.Proofs.YtghngklehkkecabGreatDoor.pushencNames

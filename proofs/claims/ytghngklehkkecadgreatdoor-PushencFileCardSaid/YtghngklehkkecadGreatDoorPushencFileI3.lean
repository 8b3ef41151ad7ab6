/- What the functions that the law reaches return in this program, part 3; no conditions. -/
import Derived.Test.YtghngklehkkecadGreatDoorPushencFileI2
set_option linter.unusedSectionVars false
set_option linter.unusedSimpArgs false
set_option linter.unusedVariables false
namespace Go.Proofs.YtghngklehkkecadGreatDoor.pushencFile
open Go.Am Go.ChangeShapes Go.WideShapes Go.ChangeAt Go.RowKit

theorem Qfu : Qf pg 11 81 [.tmp 4, .tmp 5] (Q9 29 21) := ⟨Tryz.f11, Tryz.func11, by kernel_rfl, by kernel_rfl, by kernel_rfl, by kernel_rfl⟩
theorem Qbz : QbX pg 11 := Qg5 Qfu QaU
theorem Qit : Qf pg 92 24 [.tmp 0] (QaA 188) := ⟨Tryz.f92, Tryz.func92, by kernel_rfl, by kernel_rfl, by kernel_rfl, by kernel_rfl⟩
theorem Qhm : Qmu pg 92 := Ql2 Qit
theorem QkE : Qf pg 74 32 [.tmp 4, .tmp 5] (JA 92) := ⟨Tryz.f74, Tryz.func74, by kernel_rfl, by kernel_rfl, by kernel_rfl, by kernel_rfl⟩
theorem Qji : QmD pg 74 := Qoe QkE Qhm
theorem Qml : Qf pg 53 16 [.tmp 2, .tmp 3] (Qak 74) := ⟨Tryz.f53, Tryz.func53, by kernel_rfl, by kernel_rfl, by kernel_rfl, by kernel_rfl⟩
theorem QaX : Qg3 pg 53 := Qqx Qml Qji
theorem QkI : Qf pg 82 40 [.tmp 2] (JB 119) := ⟨Tryz.f82, Tryz.func82, by kernel_rfl, by kernel_rfl, by kernel_rfl, by kernel_rfl⟩
theorem J7 : Qcg pg 82 := Qor QkI
theorem QkB : Qf pg 81 2 [.cell 0 115] (Qbf 115) := ⟨Tryz.f81, Tryz.func81, by kernel_rfl, by kernel_rfl, by kernel_rfl, by kernel_rfl⟩
theorem Qjf : QiG pg 81 := Qn8 QkB (show ZJ Tryz.prog 115 = some (some 4) by kernel_rfl)
theorem QkC : Qf pg 83 26 [.tmp 2] (Qbg 115) := ⟨Tryz.f83, Tryz.func83, by kernel_rfl, by kernel_rfl, by kernel_rfl, by kernel_rfl⟩
theorem Qjg : QiT pg 83 := Qn9 QkC
theorem Qky : Qf pg 84 17 [.tmp 4, .tmp 5] (Jw 115) := ⟨Tryz.f84, Tryz.func84, by kernel_rfl, by kernel_rfl, by kernel_rfl, by kernel_rfl⟩
theorem Qd4 : QfP pg 84 := Qn5 Qky
theorem Qgr : Qf pg 103 9 [.tmp 4] Xz := ⟨Tryz.f103, Tryz.func103, by kernel_rfl, by kernel_rfl, by kernel_rfl, by kernel_rfl⟩
theorem Qnu : Qum pg 103 := QrU Qgr
theorem QaO : Qf pg 27 8 [.tmp 2] (QO 5) := ⟨Tryz.f27, Tryz.func27, by kernel_rfl, by kernel_rfl, by kernel_rfl, by kernel_rfl⟩
theorem QcX : JD 5 pg 27 := Que QaO
theorem Qov : Qf pg 85 44 [.cell 6 119, .tmp 7] (Qbk 82 101 102 119) := ⟨Tryz.f85, Tryz.func85, by kernel_rfl, by kernel_rfl, by kernel_rfl, by kernel_rfl⟩
theorem Qmo : Qf pg 101 9 [.cell 2 119] (Qal 27 119) := ⟨Tryz.f101, Tryz.func101, by kernel_rfl, by kernel_rfl, by kernel_rfl, by kernel_rfl⟩
theorem Qou : Qf pg 102 75 [] (Qbj 5) := ⟨Tryz.f102, Tryz.func102, by kernel_rfl, by kernel_rfl, by kernel_rfl, by kernel_rfl⟩
theorem QdC : QkK pg 85 := QsF Qov J7 Qmo Qou QcX (show ZJ Tryz.prog 119 = some (some 2) by kernel_rfl) (show ZJ Tryz.prog 119 = some (some 2) by kernel_rfl)
theorem Qgq : Qf pg 112 13 [.tmp 2, .tmp 3] JT := ⟨Tryz.f112, Tryz.func112, by kernel_rfl, by kernel_rfl, by kernel_rfl, by kernel_rfl⟩
theorem Qf1 : Qq1 pg 112 := Qjm Qgq
theorem Qie : Qf pg 104 32 [.cell 4 119, .tmp 5] (Qat 82 112 85 119) := ⟨Tryz.f104, Tryz.func104, by kernel_rfl, by kernel_rfl, by kernel_rfl, by kernel_rfl⟩
theorem Qg7 : QiA pg 104 := Qk6 Qie J7 Qf1 QdC (show ZJ Tryz.prog 119 = some (some 2) by kernel_rfl)
theorem Qkw : Qf pg 86 57 [.cell 6 119, .tmp 7] (Jv 82 103 104 85 119) := ⟨Tryz.f86, Tryz.func86, by kernel_rfl, by kernel_rfl, by kernel_rfl, by kernel_rfl⟩
theorem Qi6 : QiC pg 86 := QnJ Qkw J7 Qnu Qg7 QdC (show ZJ Tryz.prog 119 = some (some 2) by kernel_rfl)
theorem QkA : Qf pg 62 69 [.cell 6 119, .cell 7 115, .tmp 8] (Jy 82 83 84 85 86 87 119 115) := ⟨Tryz.f62, Tryz.func62, by kernel_rfl, by kernel_rfl, by kernel_rfl, by kernel_rfl⟩
theorem Qkz : Qf pg 87 36 [] (XD 105 84) := ⟨Tryz.f87, Tryz.func87, by kernel_rfl, by kernel_rfl, by kernel_rfl, by kernel_rfl⟩
theorem Qgy : Qf pg 105 58 [] Qm := ⟨Tryz.f105, Tryz.func105, by kernel_rfl, by kernel_rfl, by kernel_rfl, by kernel_rfl⟩
theorem Qje : QiD pg 62 := Qn7 QkA J7 Qjg Qd4 QdC Qi6 Qkz Qgy Qd4 (show ZJ Tryz.prog 119 = some (some 2) by kernel_rfl) (show ZJ Tryz.prog 115 = some (some 4) by kernel_rfl)
theorem Qev : Qf pg 61 11 [.cell 0 116] (XT 81 116) := ⟨Tryz.f61, Tryz.func61, by kernel_rfl, by kernel_rfl, by kernel_rfl, by kernel_rfl⟩
theorem Qek : Qdt pg 61 := Qgg Qev Qjf (show ZJ Tryz.prog 116 = some (some 24) by kernel_rfl)
theorem Qaq : Qf pg 47 36 [.tmp 2] (Q6 67 5) := ⟨Tryz.f47, Tryz.func47, by kernel_rfl, by kernel_rfl, by kernel_rfl, by kernel_rfl⟩
theorem growB : QfT 5 pg 67 := grow_nil Tryz.growB rfl rfl (by kernel_rfl)
theorem QbB : QeS pg 47 := Qhu Qaq growB
theorem Qex : Qf pg 43 85 [.tmp 6, .tmp 7] (ZV 60 61 62 63 53 52 47 23 85 116 119 115 24) := ⟨Tryz.f43, Tryz.func43, by kernel_rfl, by kernel_rfl, by kernel_rfl, by kernel_rfl⟩
theorem Qip : Qf pg 63 64 [] (X4 119 5) := ⟨Tryz.f63, Tryz.func63, by kernel_rfl, by kernel_rfl, by kernel_rfl, by kernel_rfl⟩
theorem Jc : QmA pg 43 := Qgi Qex Qel Qek Qje Qip QaX QaG QbB
theorem QdT : Qf pg 114 51 [.tmp 4, .tmp 5] XC := ⟨Tryz.f114, Tryz.func114, by kernel_rfl, by kernel_rfl, by kernel_rfl, by kernel_rfl⟩
theorem Qja : Qoy pg 114 := QnQ QdT
theorem QfA : Qf pg 106 30 [.tmp 4, .tmp 5] (Jj 113 114) := ⟨Tryz.f106, Tryz.func106, by kernel_rfl, by kernel_rfl, by kernel_rfl, by kernel_rfl⟩

end Go.Proofs.YtghngklehkkecadGreatDoor.pushencFile

/- What the functions that the law reaches return in this program, part 4; no conditions. -/
import Derived.Test.YtkilhchobbfjhaaGreatDoorTopFramesI3
set_option linter.unusedSectionVars false
set_option linter.unusedSimpArgs false
set_option linter.unusedVariables false
namespace Go.Proofs.YtkilhchobbfjhaaGreatDoor.topFrames
open Go.Am Go.ChangeShapes Go.WideShapes Go.ChangeAt Go.RowKit

theorem QdP : Qsz pg 104 := Qtj Qg4
theorem Qmu : Ql pg 108 68 [.tmp 6, .tmp 7, .tmp 8] (Zo 68 118 44 104 85) := ⟨Tryz.f108, Tryz.func108, by kernel_rfl, by kernel_rfl, by kernel_rfl, by kernel_rfl⟩
theorem Qld : QmN pg 108 := QqE Qmu Zd Qjp Qcf QdP
theorem Qmz : Ql pg 82 86 [.tmp 6, .tmp 7, .cell 8 81, .tmp 9] (Zp 68 69 44 108 73 85 81) := ⟨Tryz.f82, Tryz.func82, by kernel_rfl, by kernel_rfl, by kernel_rfl, by kernel_rfl⟩
theorem Qb3 : Ql pg 73 36 [] (Zu 106 70) := ⟨Tryz.f73, Tryz.func73, by kernel_rfl, by kernel_rfl, by kernel_rfl, by kernel_rfl⟩
theorem Qat : Ql pg 106 58 [] Qn := ⟨Tryz.f106, Tryz.func106, by kernel_rfl, by kernel_rfl, by kernel_rfl, by kernel_rfl⟩
theorem Qfu : Qi0 pg 82 := QrP Qmz Zd Qad Qcf Qld Qb3 Qat Ji (show ZD Tryz.prog 81 = some (some 4) by kernel_rfl)
theorem Xw : Ql pg 80 8 [.tmp 2] (QH 5) := ⟨Tryz.f80, Tryz.func80, by kernel_rfl, by kernel_rfl, by kernel_rfl, by kernel_rfl⟩
theorem QgA : JR pg 80 := QjN Xw
theorem Qso : Ql pg 42 14 [.cell 2 85, .tmp 3] (Qcs 80 85) := ⟨Tryz.f42, Tryz.func42, by kernel_rfl, by kernel_rfl, by kernel_rfl, by kernel_rfl⟩
theorem QjE : Qut pg 42 := Qv6 Qso QgA (show ZD Tryz.prog 85 = some (some 2) by kernel_rfl)
theorem QpD : Ql pg 81 46 [.cell 6 85, .tmp 7] (Qc7 68 83 103 85) := ⟨Tryz.f81, Tryz.func81, by kernel_rfl, by kernel_rfl, by kernel_rfl, by kernel_rfl⟩
theorem QhA : Ql pg 103 75 [] (J9 5) := ⟨Tryz.f103, Tryz.func103, by kernel_rfl, by kernel_rfl, by kernel_rfl, by kernel_rfl⟩
theorem Qhd : Quv pg 81 := Quo QpD Zd Qhc QhA (show ZD Tryz.prog 85 = some (some 2) by kernel_rfl)
theorem Qb4 : Ql pg 18 22 [.tmp 2] (ZE 52 5) := ⟨Tryz.f18, Tryz.func18, by kernel_rfl, by kernel_rfl, by kernel_rfl, by kernel_rfl⟩
theorem QgB : Qi3 pg 18 := QjV Qb4 Qol
theorem QeW : Ql pg 41 46 [.tmp 2, .tmp 3] (Q3 35 79) := ⟨Tryz.f41, Tryz.func41, by kernel_rfl, by kernel_rfl, by kernel_rfl, by kernel_rfl⟩
theorem QeK : QiY pg 41 := QgV QeW QcN Qhb
theorem QeV : Ql pg 43 76 [.tmp 6, .tmp 7, .tmp 8] (X8 67 81 82 85 82 81 86) := ⟨Tryz.f43, Tryz.func43, by kernel_rfl, by kernel_rfl, by kernel_rfl, by kernel_rfl⟩
theorem QeJ : QmO pg 43 := QgU QeV QbN Qhd Qfu
theorem QeX : Ql pg 13 87 [.tmp 8, .tmp 9] (QB 40 41 42 43 44 45 28 40 85) := ⟨Tryz.f13, Tryz.func13, by kernel_rfl, by kernel_rfl, by kernel_rfl, by kernel_rfl⟩
theorem Xk : Qcu pg 13 := QgW QeX ZL QeK QjE QeJ Qcf QaI
theorem Qf9 : Ql pg 46 20 [.tmp 4] (Jt 40 28) := ⟨Tryz.f46, Tryz.func46, by kernel_rfl, by kernel_rfl, by kernel_rfl, by kernel_rfl⟩
theorem JV : Qcc pg 46 := QhH Qf9 ZL
theorem Qf8 : Ql pg 47 43 [.tmp 2] (Zz 35 79) := ⟨Tryz.f47, Tryz.func47, by kernel_rfl, by kernel_rfl, by kernel_rfl, by kernel_rfl⟩
theorem Qfo : QmU pg 47 := QhG Qf8 QcN Qhb
theorem QeP : Ql pg 49 86 [.tmp 6] (X3 67 42 81 82 82 85 81 86) := ⟨Tryz.f49, Tryz.func49, by kernel_rfl, by kernel_rfl, by kernel_rfl, by kernel_rfl⟩
theorem QeE : QmJ pg 49 := Qgw QeP QbN QjE Qhd Qfu
theorem Qg0 : Ql pg 48 46 [.tmp 6] (J5 87 28 40) := ⟨Tryz.f48, Tryz.func48, by kernel_rfl, by kernel_rfl, by kernel_rfl, by kernel_rfl⟩
theorem Qgx : QmK pg 48 := Qjm Qg0 QdQ
theorem Qga : Ql pg 14 52 [.cell 8 51, .tmp 9] (Zb 46 13 47 49 48 28 40 51) := ⟨Tryz.f14, Tryz.func14, by kernel_rfl, by kernel_rfl, by kernel_rfl, by kernel_rfl⟩
theorem Qfp : QmX pg 14 := QhI Qga JV Xk Qfo QeE Qgx (show ZD Tryz.prog 51 = some (some 2) by kernel_rfl)
theorem Qec : Ql pg 51 18 [.tmp 4, .tmp 5] (ZJ 46 28 21) := ⟨Tryz.f51, Tryz.func51, by kernel_rfl, by kernel_rfl, by kernel_rfl, by kernel_rfl⟩
theorem QdO : Qgj pg 51 := Qfn Qec JV
theorem Qg1 : Ql pg 17 41 [.tmp 8, .tmp 9, .tmp 10] (ZR 46 13 51 28 40) := ⟨Tryz.f17, Tryz.func17, by kernel_rfl, by kernel_rfl, by kernel_rfl, by kernel_rfl⟩
theorem Qgy : QsE pg 17 := Qjn Qg1 JV Xk QdO
theorem QpZ : Qfk 5 pg 80 := Qv1 Xw
theorem QpB : Ql pg 71 44 [.cell 6 85, .tmp 7] (Qbs 68 102 103 85) := ⟨Tryz.f71, Tryz.func71, by kernel_rfl, by kernel_rfl, by kernel_rfl, by kernel_rfl⟩
theorem QmE : Ql pg 102 9 [.cell 2 85] (Qan 80 85) := ⟨Tryz.f102, Tryz.func102, by kernel_rfl, by kernel_rfl, by kernel_rfl, by kernel_rfl⟩
theorem QdR : QkW pg 71 := Qum QpB Zd QmE QhA QpZ (show ZD Tryz.prog 85 = some (some 2) by kernel_rfl) (show ZD Tryz.prog 85 = some (some 2) by kernel_rfl)
theorem Qg3 : Ql pg 117 13 [.tmp 2, .tmp 3] J7 := ⟨Tryz.f117, Tryz.func117, by kernel_rfl, by kernel_rfl, by kernel_rfl, by kernel_rfl⟩
theorem Qgz : Qsw pg 117 := QjH Qg3
theorem QiC : Ql pg 105 32 [.cell 4 85, .tmp 5] (Qaw 68 117 71 85) := ⟨Tryz.f105, Tryz.func105, by kernel_rfl, by kernel_rfl, by kernel_rfl, by kernel_rfl⟩
theorem QhK : QiU pg 105 := Qlm QiC Zd Qgz QdR (show ZD Tryz.prog 85 = some (some 2) by kernel_rfl)
theorem QkG : Ql pg 72 57 [.cell 6 85, .tmp 7] (JK 68 104 105 71 85) := ⟨Tryz.f72, Tryz.func72, by kernel_rfl, by kernel_rfl, by kernel_rfl, by kernel_rfl⟩

end Go.Proofs.YtkilhchobbfjhaaGreatDoor.topFrames

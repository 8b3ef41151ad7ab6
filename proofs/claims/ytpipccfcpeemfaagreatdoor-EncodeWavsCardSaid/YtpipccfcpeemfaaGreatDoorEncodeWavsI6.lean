/- What the functions that the law reaches return in this program, part 6; no conditions. -/
import Derived.Test.YtpipccfcpeemfaaGreatDoorEncodeWavsI5
set_option linter.unusedSectionVars false
set_option linter.unusedSimpArgs false
set_option linter.unusedVariables false
namespace Go.Proofs.YtpipccfcpeemfaaGreatDoor.encodeWavs
open Go.Am Go.ChangeShapes Go.WideShapes Go.ChangeAt Go.RowKit

theorem Qux : Qf pg 131 75 [] (QcP 5) := ⟨Tryz.f131, Tryz.func131, by kernel_rfl, by kernel_rfl, by kernel_rfl, by kernel_rfl⟩
theorem Qgg : Qpk pg 106 := Qy9 Quy QbC Qrv Qux QuU (show Q6 Tryz.prog 141 = some (some 2) by kernel_rfl) (show Q6 Tryz.prog 141 = some (some 2) by kernel_rfl)
theorem QjU : Qf pg 155 13 [.tmp 2, .tmp 3] Qbp := ⟨Tryz.f155, Tryz.func155, by kernel_rfl, by kernel_rfl, by kernel_rfl, by kernel_rfl⟩
theorem Qjm : Qxr pg 155 := QnO QjU
theorem Ql8 : Qf pg 133 32 [.cell 4 141, .tmp 5] (QbX 103 155 106 141) := ⟨Tryz.f133, Tryz.func133, by kernel_rfl, by kernel_rfl, by kernel_rfl, by kernel_rfl⟩
theorem QkI : Qmx pg 133 := QpV Ql8 QbC Qjm Qgg (show Q6 Tryz.prog 141 = some (some 2) by kernel_rfl)
theorem Qo5 : Qf pg 107 57 [.cell 6 141, .tmp 7] (QaZ 103 132 133 106 141) := ⟨Tryz.f107, Tryz.func107, by kernel_rfl, by kernel_rfl, by kernel_rfl, by kernel_rfl⟩
theorem Qnf : Qmz pg 107 := Qtq Qo5 QbC Qs4 QkI Qgg (show Q6 Tryz.prog 141 = some (some 2) by kernel_rfl)
theorem Qpa : Qf pg 75 69 [.cell 6 141, .cell 7 137, .tmp 8] (Qa2 103 104 105 106 107 108 141 137) := ⟨Tryz.f75, Tryz.func75, by kernel_rfl, by kernel_rfl, by kernel_rfl, by kernel_rfl⟩
theorem Qo9 : Qf pg 108 36 [] (J0 134 105) := ⟨Tryz.f108, Tryz.func108, by kernel_rfl, by kernel_rfl, by kernel_rfl, by kernel_rfl⟩
theorem QjZ : Qf pg 134 58 [] Qt := ⟨Tryz.f134, Tryz.func134, by kernel_rfl, by kernel_rfl, by kernel_rfl, by kernel_rfl⟩
theorem QnG : QmB pg 75 := Qt9 Qpa QbC QnI Qg0 Qgg Qnf Qo9 QjZ Qg0 (show Q6 Tryz.prog 141 = some (some 2) by kernel_rfl) (show Q6 Tryz.prog 137 = some (some 4) by kernel_rfl)
theorem Qho : Qf pg 74 11 [.cell 0 138] (Qak 102 138) := ⟨Tryz.f74, Tryz.func74, by kernel_rfl, by kernel_rfl, by kernel_rfl, by kernel_rfl⟩
theorem Qhf : Qgc pg 74 := QjJ Qho QnH (show Q6 Tryz.prog 138 = some (some 24) by kernel_rfl)
theorem QbU : Qf pg 77 36 [.tmp 2] (Zv 109 5) := ⟨Tryz.f77, Tryz.func77, by kernel_rfl, by kernel_rfl, by kernel_rfl, by kernel_rfl⟩
theorem growB : Qi8 5 pg 109 := grow_nil Tryz.growB rfl rfl (by kernel_rfl)
theorem QhM : QmY pg 77 := Qlm QbU growB
theorem Qhq : Qf pg 41 85 [.tmp 6, .tmp 7] (X5 73 74 75 76 45 44 77 99 91 138 141 137 22) := ⟨Tryz.f41, Tryz.func41, by kernel_rfl, by kernel_rfl, by kernel_rfl, by kernel_rfl⟩
theorem Qmk : Qf pg 76 64 [] (Qar 141 5) := ⟨Tryz.f76, Tryz.func76, by kernel_rfl, by kernel_rfl, by kernel_rfl, by kernel_rfl⟩
theorem Qhh : QuC pg 41 := QjL Qhq Qhg Qhf QnG Qmk QeH Qcb QhM
theorem Qf4 : Qf pg 138 25 [.cell 6 141] (Z2 158 160 159 162 161 141 137) := ⟨Tryz.f138, Tryz.func138, by kernel_rfl, by kernel_rfl, by kernel_rfl, by kernel_rfl⟩
theorem Xp : Qf pg 160 43 [.cell 4 141] (Qp 141 5) := ⟨Tryz.f160, Tryz.func160, by kernel_rfl, by kernel_rfl, by kernel_rfl, by kernel_rfl⟩
theorem QaA : Qf pg 159 21 [.cell 6 141] (QT 160 141) := ⟨Tryz.f159, Tryz.func159, by kernel_rfl, by kernel_rfl, by kernel_rfl, by kernel_rfl⟩
theorem Qf5 : Qf pg 161 28 [.cell 6 141] (Zo 176 177 159 175 141) := ⟨Tryz.f161, Tryz.func161, by kernel_rfl, by kernel_rfl, by kernel_rfl, by kernel_rfl⟩
theorem Qf6 : Qf pg 177 18 [.cell 4 141] (Zp 160 141) := ⟨Tryz.f177, Tryz.func177, by kernel_rfl, by kernel_rfl, by kernel_rfl, by kernel_rfl⟩
theorem QpJ : Qxt pg 138 := QvJ Qf4 QhR QgZ Xp QaA Xp Qf5 Qnw Qf6 QaA JR Xp Xp (show Q6 Tryz.prog 141 = some (some 2) by kernel_rfl) (show Q6 Tryz.prog 141 = some (some 2) by kernel_rfl) (show Q6 Tryz.prog 141 = some (some 2) by kernel_rfl) (show Q6 Tryz.prog 141 = some (some 2) by kernel_rfl) (show Q6 Tryz.prog 141 = some (some 2) by kernel_rfl)
theorem Qdq : Qf pg 137 37 [.tmp 4] (Xg 156 157 137) := ⟨Tryz.f137, Tryz.func137, by kernel_rfl, by kernel_rfl, by kernel_rfl, by kernel_rfl⟩
theorem Qjp : QiL pg 137 := Qn9 Qdq Qk0 Qjv
theorem Qeo : Qf pg 115 69 [.tmp 4] (XR 137 138 139 141 5) := ⟨Tryz.f115, Tryz.func115, by kernel_rfl, by kernel_rfl, by kernel_rfl, by kernel_rfl⟩
theorem QkV : QmA pg 115 := Qqq Qeo Qjp QpJ Qjq
theorem Qds : Qf pg 90 22 [.tmp 6, .tmp 7] (Zs 55 116 115 99 91) := ⟨Tryz.f90, Tryz.func90, by kernel_rfl, by kernel_rfl, by kernel_rfl, by kernel_rfl⟩
theorem Qjr : QuC pg 90 := Qob Qds Qfx QkU QkV
theorem QgG : Qf pg 148 51 [.tmp 4, .tmp 5] JY := ⟨Tryz.f148, Tryz.func148, by kernel_rfl, by kernel_rfl, by kernel_rfl, by kernel_rfl⟩
theorem QnD : QuB pg 148 := QtS QgG
theorem QiB : Qf pg 121 30 [.tmp 4, .tmp 5] (QaL 147 148) := ⟨Tryz.f121, Tryz.func121, by kernel_rfl, by kernel_rfl, by kernel_rfl, by kernel_rfl⟩
theorem Qs7 : QuB pg 121 := QyF QiB QnD
theorem QcE : Qf pg 95 48 [.tmp 4] (ZO 121 3) := ⟨Tryz.f95, Tryz.func95, by kernel_rfl, by kernel_rfl, by kernel_rfl, by kernel_rfl⟩
theorem Qhb : QiU 3 pg 95 := QjC QcE Qs7
theorem QcF : Qf pg 122 36 [.tmp 2] (ZP 149 3) := ⟨Tryz.f122, Tryz.func122, by kernel_rfl, by kernel_rfl, by kernel_rfl, by kernel_rfl⟩
theorem growI : QkB 3 pg 149 := grow_nilI Tryz.growI rfl rfl (by kernel_rfl)
theorem Qhc : Qjb 3 pg 122 := QjD QcF growI
theorem Qhm : Qf pg 96 9 [.tmp 4] (Qaj 122 62) := ⟨Tryz.f96, Tryz.func96, by kernel_rfl, by kernel_rfl, by kernel_rfl, by kernel_rfl⟩
theorem Qhe : QxI 3 pg 96 := QjI Qhm Qhc
theorem Qme : Qf pg 72 39 [.tmp 4, .tmp 5] (Qb1 68 93 95 96 3) := ⟨Tryz.f72, Tryz.func72, by kernel_rfl, by kernel_rfl, by kernel_rfl, by kernel_rfl⟩
theorem Qk2 : QxJ 3 pg 72 := QqC Qme Qbb Qex Qhb Qhe

end Go.Proofs.YtpipccfcpeemfaaGreatDoor.encodeWavs

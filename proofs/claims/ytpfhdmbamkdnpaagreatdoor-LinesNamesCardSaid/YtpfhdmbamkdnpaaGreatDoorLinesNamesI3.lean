/- What the functions that the law reaches return in this program, part 3; no conditions. -/
import Derived.Test.YtpfhdmbamkdnpaaGreatDoorLinesNamesI2
set_option linter.unusedSectionVars false
set_option linter.unusedSimpArgs false
set_option linter.unusedVariables false
namespace Go.Proofs.YtpfhdmbamkdnpaaGreatDoor.linesNames
open Go.Am Go.ChangeShapes Go.WideShapes Go.ChangeAt Go.RowKit

set_option maxRecDepth 100000
variable {m : Int} {u1 u2 : {v : Value // isIf v}}
theorem Qhw : QnV 48 5 3 (pg m u1 u2) 12 := QkM Qd9 XP QkR
theorem Qhc : Body (pg m u1 u2) 6 70 [.tmp 2, .tmp 3] (Xc 11 12 13 15 31 23 29 48 3) := mkB (A := Tryz.prog) rfl Tryz.func6 (by kernel_rfl)
theorem Qms : Go.Am.Enters (pg m u1 u2) 15 := ⟨Tryz.f15, Tryz.func15, by kernel_rfl, by kernel_rfl⟩
theorem Qnu : QlH 48 5 (pg m u1 u2) 15 := Qoo (P := (pg m u1 u2)) (ρ := Tryz.shLaysn169_ren) Tryz.shLaysn169 Tryz.shLaysn169X Qms
theorem Qcb : QfS (pg m u1 u2) 6 := Qjr Qhc Jb Qhw XP Qnu
theorem Jk : Body (pg m u1 u2) 29 26 [.tmp 4] Qt := mkB (A := Tryz.prog) rfl Tryz.func29 (by kernel_rfl)
theorem QeO : Qiu (pg m u1 u2) 29 := QhN Jk
theorem QaS : Body (pg m u1 u2) 16 24 [.tmp 4] (Qu 29 26) := mkB (A := Tryz.prog) rfl Tryz.func16 (by kernel_rfl)
theorem Qf3 : QfR (pg m u1 u2) 16 := Qjl QaS QeO
theorem QaR : Body (pg m u1 u2) 7 17 [.tmp 4] (QS 16 31) := mkB (A := Tryz.prog) rfl Tryz.func7 (by kernel_rfl)
theorem Qca : QcV (pg m u1 u2) 7 := Qjk QaR Qf3
theorem XF : Body (pg m u1 u2) 3 191 [.tmp 0] (Qn 4 5 6 7 8 9 31 3 9 5) := mkB (A := Tryz.prog) rfl Tryz.func3 (by kernel_rfl)
theorem QfG : Body (pg m u1 u2) 19 62 [.tmp 4, .tmp 5] (QaC 38 39 40 41 43 44 42 45 65 23 41) := mkB (A := Tryz.prog) rfl Tryz.func19 (by kernel_rfl)
theorem QfA : Body (pg m u1 u2) 38 35 [.cell 4 23, .tmp 5] (Qaw 64 65 23) := mkB (A := Tryz.prog) rfl Tryz.func38 (by kernel_rfl)
theorem Qeb : Body (pg m u1 u2) 40 63 [.tmp 2, .tmp 3] (JQ 51 69 58 23 5 0) := mkB (A := Tryz.prog) rfl Tryz.func40 (by kernel_rfl)
theorem Qfv : Body (pg m u1 u2) 42 38 [.tmp 2, .tmp 3] (Qat 26 71 58 41) := mkB (A := Tryz.prog) rfl Tryz.func42 (by kernel_rfl)
theorem Jz : Body (pg m u1 u2) 43 26 [.tmp 4] (ZH 3) := mkB (A := Tryz.prog) rfl Tryz.func43 (by kernel_rfl)
theorem Qdz : Body (pg m u1 u2) 44 5 [.tmp 2] Jw := mkB (A := Tryz.prog) rfl Tryz.func44 (by kernel_rfl)
theorem QfF : Body (pg m u1 u2) 45 17 [.tmp 2] (QaB 5) := mkB (A := Tryz.prog) rfl Tryz.func45 (by kernel_rfl)
theorem Qbm : Body (pg m u1 u2) 17 108 [.cell 4 26, .tmp 5] (ZR 30 31 32 25 33 26 23) := mkB (A := Tryz.prog) rfl Tryz.func17 (by kernel_rfl)
theorem QfI : Body (pg m u1 u2) 18 73 [.cell 4 29, .tmp 5] (QaE 34 17 35 36 37 29 26) := mkB (A := Tryz.prog) rfl Tryz.func18 (by kernel_rfl)
theorem Qhm : Body (pg m u1 u2) 64 33 [.tmp 2] (QbG 99 100 65) := mkB (A := Tryz.prog) rfl Tryz.func64 (by kernel_rfl)
theorem Qig : Body (pg m u1 u2) 65 22 [.cell 2 130, .tmp 3] (Qcm 101 102 130) := mkB (A := Tryz.prog) rfl Tryz.func65 (by kernel_rfl)
theorem QcJ : Body (pg m u1 u2) 67 85 [.tmp 6, .tmp 7] (X6 104 105 106 107 58 69 108 138 130 178 181 177 41) := mkB (A := Tryz.prog) rfl Tryz.func67 (by kernel_rfl)
theorem QjP : Body (pg m u1 u2) 69 35 [.tmp 4, .tmp 5] (QdF 109 5) := mkB (A := Tryz.prog) rfl Tryz.func69 (by kernel_rfl)
theorem Qin : Body (pg m u1 u2) 58 16 [.tmp 2, .tmp 3] (Qct 90) := mkB (A := Tryz.prog) rfl Tryz.func58 (by kernel_rfl)
theorem Qdv : Body (pg m u1 u2) 71 13 [] (Jt 69 5) := mkB (A := Tryz.prog) rfl Tryz.func71 (by kernel_rfl)
theorem Qfz : Body (pg m u1 u2) 31 86 [.cell 2 23, .tmp 3] (Qav 56 57 58 59 60 23 121 0) := mkB (A := Tryz.prog) rfl Tryz.func31 (by kernel_rfl)
theorem Qg9 : Body (pg m u1 u2) 33 69 [.tmp 4, .tmp 5] (Qbx 57 58 26 3) := mkB (A := Tryz.prog) rfl Tryz.func33 (by kernel_rfl)
theorem Qft : Body (pg m u1 u2) 34 14 [.tmp 4] (Qas 62 65) := mkB (A := Tryz.prog) rfl Tryz.func34 (by kernel_rfl)
theorem QfH : Body (pg m u1 u2) 37 42 [.tmp 4, .tmp 5] (QaD 25 23) := mkB (A := Tryz.prog) rfl Tryz.func37 (by kernel_rfl)
theorem Qio : Body (pg m u1 u2) 99 31 [.tmp 4] (Qcu 68 130 79 65) := mkB (A := Tryz.prog) rfl Tryz.func99 (by kernel_rfl)
theorem Qfr : Body (pg m u1 u2) 100 37 [.tmp 4] (Qaq 139) := mkB (A := Tryz.prog) rfl Tryz.func100 (by kernel_rfl)
theorem Qim : Body (pg m u1 u2) 101 8 [.tmp 2, .tmp 3] (Qcs 140) := mkB (A := Tryz.prog) rfl Tryz.func101 (by kernel_rfl)
theorem Qls : Body (pg m u1 u2) 102 18 [.cell 2 130] (QeE 130) := mkB (A := Tryz.prog) rfl Tryz.func102 (by kernel_rfl)
theorem QcI : Body (pg m u1 u2) 104 83 [.tmp 6, .tmp 7] (X4 141 142 143 144 145 138 130 225 224 118) := mkB (A := Tryz.prog) rfl Tryz.func104 (by kernel_rfl)
theorem QcH : Body (pg m u1 u2) 105 11 [.cell 0 178] (X3 146 178) := mkB (A := Tryz.prog) rfl Tryz.func105 (by kernel_rfl)
theorem Qhg : Body (pg m u1 u2) 106 69 [.cell 6 181, .cell 7 177, .tmp 8] (QbB 147 148 149 150 151 152 181 177) := mkB (A := Tryz.prog) rfl Tryz.func106 (by kernel_rfl)
theorem QfE : Body (pg m u1 u2) 107 64 [] (QaA 181 5) := mkB (A := Tryz.prog) rfl Tryz.func107 (by kernel_rfl)
theorem XE : Body (pg m u1 u2) 108 36 [.tmp 2] (Zj 153 5) := mkB (A := Tryz.prog) rfl Tryz.func108 (by kernel_rfl)
theorem Qlv : Body (pg m u1 u2) 109 14 [.tmp 4] QeH := mkB (A := Tryz.prog) rfl Tryz.func109 (by kernel_rfl)
theorem Qhk : Body (pg m u1 u2) 90 32 [.tmp 4, .tmp 5] (QbF 129) := mkB (A := Tryz.prog) rfl Tryz.func90 (by kernel_rfl)
theorem QaP : Body (pg m u1 u2) 56 8 [.tmp 4] (Z7 78) := mkB (A := Tryz.prog) rfl Tryz.func56 (by kernel_rfl)
theorem QnR : Body (pg m u1 u2) 57 33 [.tmp 6, .tmp 7] (Qi2 89) := mkB (A := Tryz.prog) rfl Tryz.func57 (by kernel_rfl)
theorem Qg3 : Body (pg m u1 u2) 62 130 [.cell 4 65, .tmp 5] (Qbt 91 92 93 65 94 95 65 161 138 130 21) := mkB (A := Tryz.prog) rfl Tryz.func62 (by kernel_rfl)

end Go.Proofs.YtpfhdmbamkdnpaaGreatDoor.linesNames

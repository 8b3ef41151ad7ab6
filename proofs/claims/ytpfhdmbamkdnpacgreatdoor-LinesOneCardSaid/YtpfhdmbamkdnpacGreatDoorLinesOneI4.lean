/- What the functions that the law reaches return in this program, part 4; no conditions. -/
import Derived.Test.YtpfhdmbamkdnpacGreatDoorLinesOneI3
set_option linter.unusedSectionVars false
set_option linter.unusedSimpArgs false
set_option linter.unusedVariables false
namespace Go.Proofs.YtpfhdmbamkdnpacGreatDoor.linesOne
open Go.Am Go.ChangeShapes Go.WideShapes Go.ChangeAt Go.RowKit

set_option maxRecDepth 100000
variable {m : Int} {u1 u2 : {v : Value // isIf v}}
theorem QiO : Body (pg m u1 u2) 65 31 [.tmp 4] (QcG 43 98 90 42) := mkB (A := Tryz.prog) rfl Tryz.func65 (by kernel_rfl)
theorem QfI : Body (pg m u1 u2) 66 37 [.tmp 4] (QaA 99) := mkB (A := Tryz.prog) rfl Tryz.func66 (by kernel_rfl)
theorem QiM : Body (pg m u1 u2) 67 8 [.tmp 2, .tmp 3] (QcE 100) := mkB (A := Tryz.prog) rfl Tryz.func67 (by kernel_rfl)
theorem Ql1 : Body (pg m u1 u2) 68 18 [.cell 2 86] (QeP 86) := mkB (A := Tryz.prog) rfl Tryz.func68 (by kernel_rfl)
theorem QcU : Body (pg m u1 u2) 70 83 [.tmp 6, .tmp 7] (Ja 101 102 103 104 105 94 86 187 186 100) := mkB (A := Tryz.prog) rfl Tryz.func70 (by kernel_rfl)
theorem QcT : Body (pg m u1 u2) 71 11 [.cell 0 139] (X9 106 139) := mkB (A := Tryz.prog) rfl Tryz.func71 (by kernel_rfl)
theorem QhD : Body (pg m u1 u2) 72 69 [.cell 6 142, .cell 7 138, .tmp 8] (QbO 107 108 109 110 111 112 142 138) := mkB (A := Tryz.prog) rfl Tryz.func72 (by kernel_rfl)
theorem QfW : Body (pg m u1 u2) 73 64 [] (QaL 142 5) := mkB (A := Tryz.prog) rfl Tryz.func73 (by kernel_rfl)
theorem XO : Body (pg m u1 u2) 74 36 [.tmp 2] (Zs 113 5) := mkB (A := Tryz.prog) rfl Tryz.func74 (by kernel_rfl)
theorem Ql4 : Body (pg m u1 u2) 77 14 [.tmp 4] QeS := mkB (A := Tryz.prog) rfl Tryz.func77 (by kernel_rfl)
theorem QhH : Body (pg m u1 u2) 78 32 [.tmp 4, .tmp 5] (QbS 114) := mkB (A := Tryz.prog) rfl Tryz.func78 (by kernel_rfl)
theorem Qa2 : Body (pg m u1 u2) 80 8 [.tmp 4] (Xe 117) := mkB (A := Tryz.prog) rfl Tryz.func80 (by kernel_rfl)
theorem Qoj : Body (pg m u1 u2) 81 33 [.tmp 6, .tmp 7] (Qjy 118) := mkB (A := Tryz.prog) rfl Tryz.func81 (by kernel_rfl)
theorem Qhq : Body (pg m u1 u2) 83 130 [.cell 4 42, .tmp 5] (QbG 119 120 121 40 122 123 42 212 94 86 21) := mkB (A := Tryz.prog) rfl Tryz.func83 (by kernel_rfl)
theorem QdK : Body (pg m u1 u2) 98 25 [.tmp 2] (JB 99 94) := mkB (A := Tryz.prog) rfl Tryz.func98 (by kernel_rfl)
theorem QfH : Body (pg m u1 u2) 99 18 [.tmp 2, .tmp 3, .tmp 4] Qaz := mkB (A := Tryz.prog) rfl Tryz.func99 (by kernel_rfl)
theorem QhG : Body (pg m u1 u2) 100 13 [.tmp 4, .tmp 5] (QbR 141 140) := mkB (A := Tryz.prog) rfl Tryz.func100 (by kernel_rfl)
theorem QdJ : Body (pg m u1 u2) 101 30 [.tmp 4] (JA 98 66 94) := mkB (A := Tryz.prog) rfl Tryz.func101 (by kernel_rfl)
theorem Ql3 : Body (pg m u1 u2) 102 32 [.tmp 4, .tmp 5] (QeR 142 143 144) := mkB (A := Tryz.prog) rfl Tryz.func102 (by kernel_rfl)
theorem QiP : Body (pg m u1 u2) 103 21 [.cell 4 186, .tmp 5] (QcH 145 86 186 184) := mkB (A := Tryz.prog) rfl Tryz.func103 (by kernel_rfl)
theorem QdM : Body (pg m u1 u2) 104 44 [.tmp 4, .cell 5 186, .tmp 6] (JD 146 147 148 186 184) := mkB (A := Tryz.prog) rfl Tryz.func104 (by kernel_rfl)
theorem QiJ : Body (pg m u1 u2) 105 10 [.tmp 2] QcB := mkB (A := Tryz.prog) rfl Tryz.func105 (by kernel_rfl)
theorem QhE : Body (pg m u1 u2) 106 2 [.cell 0 138] (QbP 138) := mkB (A := Tryz.prog) rfl Tryz.func106 (by kernel_rfl)
theorem QhL : Body (pg m u1 u2) 107 40 [.tmp 2] (QbV 142) := mkB (A := Tryz.prog) rfl Tryz.func107 (by kernel_rfl)
theorem QhF : Body (pg m u1 u2) 108 26 [.tmp 2] (QbQ 138) := mkB (A := Tryz.prog) rfl Tryz.func108 (by kernel_rfl)
theorem QhB : Body (pg m u1 u2) 109 17 [.tmp 4, .tmp 5] (QbM 138) := mkB (A := Tryz.prog) rfl Tryz.func109 (by kernel_rfl)
theorem Qkt : Body (pg m u1 u2) 110 44 [.cell 6 142, .tmp 7] (QdV 107 149 150 142) := mkB (A := Tryz.prog) rfl Tryz.func110 (by kernel_rfl)
theorem QhC : Body (pg m u1 u2) 112 36 [] (QbN 153 109) := mkB (A := Tryz.prog) rfl Tryz.func112 (by kernel_rfl)
theorem Qf2 : Body (pg m u1 u2) 114 24 [.tmp 0] (QaR 249) := mkB (A := Tryz.prog) rfl Tryz.func114 (by kernel_rfl)
theorem Qkp : Body (pg m u1 u2) 118 31 [.tmp 2, .tmp 3] QdR := mkB (A := Tryz.prog) rfl Tryz.func118 (by kernel_rfl)
theorem QfJ : Body (pg m u1 u2) 119 62 [.cell 2 212, .tmp 3] (QaB 49 50 34 212) := mkB (A := Tryz.prog) rfl Tryz.func119 (by kernel_rfl)
theorem Qcg : Body (pg m u1 u2) 120 51 [.tmp 6] (XG 51) := mkB (A := Tryz.prog) rfl Tryz.func120 (by kernel_rfl)
theorem Qby : Body (pg m u1 u2) 121 78 [.tmp 4, .tmp 5] (Xy 52) := mkB (A := Tryz.prog) rfl Tryz.func121 (by kernel_rfl)
theorem QcY : Body (pg m u1 u2) 122 87 [.tmp 8, .tmp 9] (Je 98 156 157 158 159 160 94 86 142) := mkB (A := Tryz.prog) rfl Tryz.func122 (by kernel_rfl)
theorem Qek : Body (pg m u1 u2) 123 27 [.tmp 2, .tmp 3] (JT 161 37) := mkB (A := Tryz.prog) rfl Tryz.func123 (by kernel_rfl)
theorem Qeq : Body (pg m u1 u2) 140 29 [.tmp 6] JW := mkB (A := Tryz.prog) rfl Tryz.func140 (by kernel_rfl)
theorem Qf1 : Body (pg m u1 u2) 141 25 [.tmp 0] (QaQ 270) := mkB (A := Tryz.prog) rfl Tryz.func141 (by kernel_rfl)
theorem QiI : Body (pg m u1 u2) 142 22 [.tmp 4] QcA := mkB (A := Tryz.prog) rfl Tryz.func142 (by kernel_rfl)
theorem XC : Body (pg m u1 u2) 143 8 [.tmp 2] (Zk 21) := mkB (A := Tryz.prog) rfl Tryz.func143 (by kernel_rfl)
theorem Ql2 : Body (pg m u1 u2) 144 39 [] QeQ := mkB (A := Tryz.prog) rfl Tryz.func144 (by kernel_rfl)
theorem Qkl : Body (pg m u1 u2) 145 18 [.cell 4 184, .tmp 5] (QdN 86 184) := mkB (A := Tryz.prog) rfl Tryz.func145 (by kernel_rfl)
theorem Qf4 : Body (pg m u1 u2) 146 24 [.tmp 2] (QaS 145 186 184) := mkB (A := Tryz.prog) rfl Tryz.func146 (by kernel_rfl)
theorem QfV : Body (pg m u1 u2) 147 19 [.tmp 4, .tmp 5] (QaK 179 180) := mkB (A := Tryz.prog) rfl Tryz.func147 (by kernel_rfl)
theorem QfO : Body (pg m u1 u2) 148 27 [.tmp 4, .cell 5 184, .tmp 6] (QaF 181 182 184) := mkB (A := Tryz.prog) rfl Tryz.func148 (by kernel_rfl)
theorem QiQ : Body (pg m u1 u2) 149 9 [.cell 2 142] (QcI 183 142) := mkB (A := Tryz.prog) rfl Tryz.func149 (by kernel_rfl)

end Go.Proofs.YtpfhdmbamkdnpacGreatDoor.linesOne

/- What the functions that the law reaches return in this program, part 4; no conditions. -/
import Derived.Test.YtpfhdmbamkdnpaaGreatDoorLinesNamesI3
set_option linter.unusedSectionVars false
set_option linter.unusedSimpArgs false
set_option linter.unusedVariables false
namespace Go.Proofs.YtpfhdmbamkdnpaaGreatDoor.linesNames
open Go.Am Go.ChangeShapes Go.WideShapes Go.ChangeAt Go.RowKit

set_option maxRecDepth 100000
variable {m : Int} {u1 u2 : {v : Value // isIf v}}
theorem Qdy : Body (pg m u1 u2) 130 25 [.tmp 2] (Jv 139 138) := mkB (A := Tryz.prog) rfl Tryz.func130 (by kernel_rfl)
theorem Qfq : Body (pg m u1 u2) 139 18 [.tmp 2, .tmp 3, .tmp 4] Qap := mkB (A := Tryz.prog) rfl Tryz.func139 (by kernel_rfl)
theorem Qhj : Body (pg m u1 u2) 140 13 [.tmp 4, .tmp 5] (QbE 180 179) := mkB (A := Tryz.prog) rfl Tryz.func140 (by kernel_rfl)
theorem Qdx : Body (pg m u1 u2) 141 30 [.tmp 4] (Ju 130 100 138) := mkB (A := Tryz.prog) rfl Tryz.func141 (by kernel_rfl)
theorem Qlu : Body (pg m u1 u2) 142 32 [.tmp 4, .tmp 5] (QeG 181 182 183) := mkB (A := Tryz.prog) rfl Tryz.func142 (by kernel_rfl)
theorem Qip : Body (pg m u1 u2) 143 21 [.cell 4 224, .tmp 5] (Qcv 184 130 224 222) := mkB (A := Tryz.prog) rfl Tryz.func143 (by kernel_rfl)
theorem QdA : Body (pg m u1 u2) 144 44 [.tmp 4, .cell 5 224, .tmp 6] (Jy 185 186 187 224 222) := mkB (A := Tryz.prog) rfl Tryz.func144 (by kernel_rfl)
theorem Qij : Body (pg m u1 u2) 145 10 [.tmp 2] Qcp := mkB (A := Tryz.prog) rfl Tryz.func145 (by kernel_rfl)
theorem Qhh : Body (pg m u1 u2) 146 2 [.cell 0 177] (QbC 177) := mkB (A := Tryz.prog) rfl Tryz.func146 (by kernel_rfl)
theorem Qho : Body (pg m u1 u2) 147 40 [.tmp 2] (QbI 181) := mkB (A := Tryz.prog) rfl Tryz.func147 (by kernel_rfl)
theorem Qhi : Body (pg m u1 u2) 148 26 [.tmp 2] (QbD 177) := mkB (A := Tryz.prog) rfl Tryz.func148 (by kernel_rfl)
theorem Qhe : Body (pg m u1 u2) 149 17 [.tmp 4, .tmp 5] (Qbz 177) := mkB (A := Tryz.prog) rfl Tryz.func149 (by kernel_rfl)
theorem QjS : Body (pg m u1 u2) 150 44 [.cell 6 181, .tmp 7] (QdI 147 188 189 181) := mkB (A := Tryz.prog) rfl Tryz.func150 (by kernel_rfl)
theorem Qhf : Body (pg m u1 u2) 152 36 [] (QbA 192 149) := mkB (A := Tryz.prog) rfl Tryz.func152 (by kernel_rfl)
theorem QfK : Body (pg m u1 u2) 129 24 [.tmp 0] (QaG 260) := mkB (A := Tryz.prog) rfl Tryz.func129 (by kernel_rfl)
theorem QjO : Body (pg m u1 u2) 89 31 [.tmp 2, .tmp 3] QdE := mkB (A := Tryz.prog) rfl Tryz.func89 (by kernel_rfl)
theorem Qfs : Body (pg m u1 u2) 91 62 [.cell 2 161, .tmp 3] (Qar 30 31 25 161) := mkB (A := Tryz.prog) rfl Tryz.func91 (by kernel_rfl)
theorem Qb4 : Body (pg m u1 u2) 92 51 [.tmp 6] (Xy 32) := mkB (A := Tryz.prog) rfl Tryz.func92 (by kernel_rfl)
theorem Qbj : Body (pg m u1 u2) 93 78 [.tmp 4, .tmp 5] (Xo 33) := mkB (A := Tryz.prog) rfl Tryz.func93 (by kernel_rfl)
theorem QcM : Body (pg m u1 u2) 94 87 [.tmp 8, .tmp 9] (X9 130 131 132 133 134 135 138 130 181) := mkB (A := Tryz.prog) rfl Tryz.func94 (by kernel_rfl)
theorem Qd7 : Body (pg m u1 u2) 95 27 [.tmp 2, .tmp 3] (JP 136 41) := mkB (A := Tryz.prog) rfl Tryz.func95 (by kernel_rfl)
theorem Qed : Body (pg m u1 u2) 179 29 [.tmp 6] JS := mkB (A := Tryz.prog) rfl Tryz.func179 (by kernel_rfl)
theorem QfJ : Body (pg m u1 u2) 180 25 [.tmp 0] (QaF 301) := mkB (A := Tryz.prog) rfl Tryz.func180 (by kernel_rfl)
theorem Qii : Body (pg m u1 u2) 181 22 [.tmp 4] Qco := mkB (A := Tryz.prog) rfl Tryz.func181 (by kernel_rfl)
theorem Xt : Body (pg m u1 u2) 182 8 [.tmp 2] (Zd 21) := mkB (A := Tryz.prog) rfl Tryz.func182 (by kernel_rfl)
theorem Qlt : Body (pg m u1 u2) 183 39 [] QeF := mkB (A := Tryz.prog) rfl Tryz.func183 (by kernel_rfl)
theorem QjL : Body (pg m u1 u2) 184 18 [.cell 4 222, .tmp 5] (QdB 130 222) := mkB (A := Tryz.prog) rfl Tryz.func184 (by kernel_rfl)
theorem QfM : Body (pg m u1 u2) 185 24 [.tmp 2] (QaH 184 224 222) := mkB (A := Tryz.prog) rfl Tryz.func185 (by kernel_rfl)
theorem QfD : Body (pg m u1 u2) 186 19 [.tmp 4, .tmp 5] (Qaz 199 200) := mkB (A := Tryz.prog) rfl Tryz.func186 (by kernel_rfl)
theorem Qfw : Body (pg m u1 u2) 187 27 [.tmp 4, .cell 5 222, .tmp 6] (Qau 201 202 222) := mkB (A := Tryz.prog) rfl Tryz.func187 (by kernel_rfl)
theorem Qiq : Body (pg m u1 u2) 188 9 [.cell 2 181] (Qcw 172 181) := mkB (A := Tryz.prog) rfl Tryz.func188 (by kernel_rfl)
theorem QjQ : Body (pg m u1 u2) 189 75 [] (QdG 5) := mkB (A := Tryz.prog) rfl Tryz.func189 (by kernel_rfl)
theorem Qec : Body (pg m u1 u2) 192 58 [] JR := mkB (A := Tryz.prog) rfl Tryz.func192 (by kernel_rfl)
theorem QcL : Body (pg m u1 u2) 131 46 [.tmp 2, .tmp 3] (X8 58 89) := mkB (A := Tryz.prog) rfl Tryz.func131 (by kernel_rfl)
theorem Qlw : Body (pg m u1 u2) 132 14 [.cell 2 181, .tmp 3] (QeI 172 181) := mkB (A := Tryz.prog) rfl Tryz.func132 (by kernel_rfl)
theorem QcK : Body (pg m u1 u2) 133 76 [.tmp 6, .tmp 7, .tmp 8] (X7 146 173 174 181 178 177 118) := mkB (A := Tryz.prog) rfl Tryz.func133 (by kernel_rfl)
theorem QjT : Body (pg m u1 u2) 134 34 [.tmp 6, .tmp 7] (QdJ 147 175 181) := mkB (A := Tryz.prog) rfl Tryz.func134 (by kernel_rfl)
theorem Qb5 : Body (pg m u1 u2) 135 84 [.tmp 6, .tmp 7] (Xz 143 177 176 178 100 138 130 225 224 21) := mkB (A := Tryz.prog) rfl Tryz.func135 (by kernel_rfl)
theorem QfC : Body (pg m u1 u2) 199 10 [.tmp 2, .tmp 3] Qay := mkB (A := Tryz.prog) rfl Tryz.func199 (by kernel_rfl)
theorem QfB : Body (pg m u1 u2) 200 16 [.tmp 4] Qax := mkB (A := Tryz.prog) rfl Tryz.func200 (by kernel_rfl)
theorem Qg5 : Body (pg m u1 u2) 201 36 [.tmp 2, .tmp 3] (Qbv 207 222) := mkB (A := Tryz.prog) rfl Tryz.func201 (by kernel_rfl)
theorem Qha : Body (pg m u1 u2) 202 20 [.cell 6 222] (Qby 208 209 222) := mkB (A := Tryz.prog) rfl Tryz.func202 (by kernel_rfl)
theorem XY : Body (pg m u1 u2) 172 8 [.tmp 2] (Zm 5) := mkB (A := Tryz.prog) rfl Tryz.func172 (by kernel_rfl)
theorem QjU : Body (pg m u1 u2) 173 46 [.cell 6 181, .tmp 7] (QdK 147 175 189 181) := mkB (A := Tryz.prog) rfl Tryz.func173 (by kernel_rfl)
theorem Qil : Body (pg m u1 u2) 174 86 [.tmp 6, .tmp 7, .cell 8 177, .tmp 9] (Qcr 147 148 134 196 152 181 177) := mkB (A := Tryz.prog) rfl Tryz.func174 (by kernel_rfl)

end Go.Proofs.YtpfhdmbamkdnpaaGreatDoor.linesNames

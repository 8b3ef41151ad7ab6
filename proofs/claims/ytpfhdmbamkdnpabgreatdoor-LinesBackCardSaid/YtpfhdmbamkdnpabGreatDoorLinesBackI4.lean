/- What the functions that the law reaches return in this program, part 4; no conditions. -/
import Derived.Test.YtpfhdmbamkdnpabGreatDoorLinesBackI3
set_option linter.unusedSectionVars false
set_option linter.unusedSimpArgs false
set_option linter.unusedVariables false
namespace Go.Proofs.YtpfhdmbamkdnpabGreatDoor.linesBack
open Go.Am Go.ChangeShapes Go.WideShapes Go.ChangeAt Go.RowKit

set_option maxRecDepth 100000
variable {m : Int} {u1 u2 : {v : Value // isIf v}}
theorem QiO : Body (pg m u1 u2) 70 31 [.tmp 4] (QcJ 48 105 90 45) := mkB (A := Tryz.prog) rfl Tryz.func70 (by kernel_rfl)
theorem QfI : Body (pg m u1 u2) 71 37 [.tmp 4] (QaA 106) := mkB (A := Tryz.prog) rfl Tryz.func71 (by kernel_rfl)
theorem QiM : Body (pg m u1 u2) 72 8 [.tmp 2, .tmp 3] (QcH 107) := mkB (A := Tryz.prog) rfl Tryz.func72 (by kernel_rfl)
theorem QlW : Body (pg m u1 u2) 73 18 [.cell 2 96] (QeP 96) := mkB (A := Tryz.prog) rfl Tryz.func73 (by kernel_rfl)
theorem QcW : Body (pg m u1 u2) 75 83 [.tmp 6, .tmp 7] (Jb 108 109 110 111 112 104 96 191 190 110) := mkB (A := Tryz.prog) rfl Tryz.func75 (by kernel_rfl)
theorem QcV : Body (pg m u1 u2) 76 11 [.cell 0 146] (Ja 113 146) := mkB (A := Tryz.prog) rfl Tryz.func76 (by kernel_rfl)
theorem QhE : Body (pg m u1 u2) 77 69 [.cell 6 149, .cell 7 145, .tmp 8] (QbP 114 115 116 117 118 119 149 145) := mkB (A := Tryz.prog) rfl Tryz.func77 (by kernel_rfl)
theorem QfW : Body (pg m u1 u2) 78 64 [] (QaL 149 5) := mkB (A := Tryz.prog) rfl Tryz.func78 (by kernel_rfl)
theorem XO : Body (pg m u1 u2) 79 36 [.tmp 2] (Zr 120 5) := mkB (A := Tryz.prog) rfl Tryz.func79 (by kernel_rfl)
theorem QlZ : Body (pg m u1 u2) 82 14 [.tmp 4] QeS := mkB (A := Tryz.prog) rfl Tryz.func82 (by kernel_rfl)
theorem QhI : Body (pg m u1 u2) 83 32 [.tmp 4, .tmp 5] (QbT 121) := mkB (A := Tryz.prog) rfl Tryz.func83 (by kernel_rfl)
theorem Qa2 : Body (pg m u1 u2) 85 8 [.tmp 4] (Xe 104) := mkB (A := Tryz.prog) rfl Tryz.func85 (by kernel_rfl)
theorem Qob : Body (pg m u1 u2) 86 33 [.tmp 6, .tmp 7] (Qjv 124) := mkB (A := Tryz.prog) rfl Tryz.func86 (by kernel_rfl)
theorem Qhr : Body (pg m u1 u2) 88 130 [.cell 4 45, .tmp 5] (QbH 125 126 127 45 128 129 45 216 104 96 21) := mkB (A := Tryz.prog) rfl Tryz.func88 (by kernel_rfl)
theorem QdN : Body (pg m u1 u2) 105 25 [.tmp 2] (JB 106 104) := mkB (A := Tryz.prog) rfl Tryz.func105 (by kernel_rfl)
theorem QfH : Body (pg m u1 u2) 106 18 [.tmp 2, .tmp 3, .tmp 4] Qaz := mkB (A := Tryz.prog) rfl Tryz.func106 (by kernel_rfl)
theorem QhH : Body (pg m u1 u2) 107 13 [.tmp 4, .tmp 5] (QbS 151 150) := mkB (A := Tryz.prog) rfl Tryz.func107 (by kernel_rfl)
theorem QdM : Body (pg m u1 u2) 108 30 [.tmp 4] (JA 105 71 104) := mkB (A := Tryz.prog) rfl Tryz.func108 (by kernel_rfl)
theorem QlY : Body (pg m u1 u2) 109 32 [.tmp 4, .tmp 5] (QeR 152 153 154) := mkB (A := Tryz.prog) rfl Tryz.func109 (by kernel_rfl)
theorem QiP : Body (pg m u1 u2) 110 21 [.cell 4 190, .tmp 5] (QcK 155 96 190 188) := mkB (A := Tryz.prog) rfl Tryz.func110 (by kernel_rfl)
theorem QdP : Body (pg m u1 u2) 111 44 [.tmp 4, .cell 5 190, .tmp 6] (JD 156 157 158 190 188) := mkB (A := Tryz.prog) rfl Tryz.func111 (by kernel_rfl)
theorem QiJ : Body (pg m u1 u2) 112 10 [.tmp 2] QcE := mkB (A := Tryz.prog) rfl Tryz.func112 (by kernel_rfl)
theorem QhF : Body (pg m u1 u2) 113 2 [.cell 0 145] (QbQ 145) := mkB (A := Tryz.prog) rfl Tryz.func113 (by kernel_rfl)
theorem QhM : Body (pg m u1 u2) 114 40 [.tmp 2] (QbW 149) := mkB (A := Tryz.prog) rfl Tryz.func114 (by kernel_rfl)
theorem QhG : Body (pg m u1 u2) 115 26 [.tmp 2] (QbR 145) := mkB (A := Tryz.prog) rfl Tryz.func115 (by kernel_rfl)
theorem QhC : Body (pg m u1 u2) 116 17 [.tmp 4, .tmp 5] (QbN 145) := mkB (A := Tryz.prog) rfl Tryz.func116 (by kernel_rfl)
theorem Qkp : Body (pg m u1 u2) 117 44 [.cell 6 149, .tmp 7] (QdY 114 159 160 149) := mkB (A := Tryz.prog) rfl Tryz.func117 (by kernel_rfl)
theorem QhD : Body (pg m u1 u2) 119 36 [] (QbO 163 116) := mkB (A := Tryz.prog) rfl Tryz.func119 (by kernel_rfl)
theorem Qf2 : Body (pg m u1 u2) 121 24 [.tmp 0] (QaR 256) := mkB (A := Tryz.prog) rfl Tryz.func121 (by kernel_rfl)
theorem Qkl : Body (pg m u1 u2) 124 31 [.tmp 2, .tmp 3] QdU := mkB (A := Tryz.prog) rfl Tryz.func124 (by kernel_rfl)
theorem QfJ : Body (pg m u1 u2) 125 62 [.cell 2 216, .tmp 3] (QaB 54 55 31 216) := mkB (A := Tryz.prog) rfl Tryz.func125 (by kernel_rfl)
theorem Qci : Body (pg m u1 u2) 126 51 [.tmp 6] (XG 56) := mkB (A := Tryz.prog) rfl Tryz.func126 (by kernel_rfl)
theorem Qbz : Body (pg m u1 u2) 127 78 [.tmp 4, .tmp 5] (Xy 57) := mkB (A := Tryz.prog) rfl Tryz.func127 (by kernel_rfl)
theorem Qc0 : Body (pg m u1 u2) 128 87 [.tmp 8, .tmp 9] (Jf 105 166 167 168 169 170 104 96 149) := mkB (A := Tryz.prog) rfl Tryz.func128 (by kernel_rfl)
theorem Qem : Body (pg m u1 u2) 129 27 [.tmp 2, .tmp 3] (JU 171 40) := mkB (A := Tryz.prog) rfl Tryz.func129 (by kernel_rfl)
theorem Qes : Body (pg m u1 u2) 150 29 [.tmp 6] JX := mkB (A := Tryz.prog) rfl Tryz.func150 (by kernel_rfl)
theorem Qf1 : Body (pg m u1 u2) 151 25 [.tmp 0] (QaQ 278) := mkB (A := Tryz.prog) rfl Tryz.func151 (by kernel_rfl)
theorem QiI : Body (pg m u1 u2) 152 22 [.tmp 4] QcD := mkB (A := Tryz.prog) rfl Tryz.func152 (by kernel_rfl)
theorem XC : Body (pg m u1 u2) 153 8 [.tmp 2] (Zk 21) := mkB (A := Tryz.prog) rfl Tryz.func153 (by kernel_rfl)
theorem QlX : Body (pg m u1 u2) 154 39 [] QeQ := mkB (A := Tryz.prog) rfl Tryz.func154 (by kernel_rfl)
theorem Qkh : Body (pg m u1 u2) 155 18 [.cell 4 188, .tmp 5] (QdQ 96 188) := mkB (A := Tryz.prog) rfl Tryz.func155 (by kernel_rfl)
theorem Qf4 : Body (pg m u1 u2) 156 24 [.tmp 2] (QaS 155 190 188) := mkB (A := Tryz.prog) rfl Tryz.func156 (by kernel_rfl)
theorem QfV : Body (pg m u1 u2) 157 19 [.tmp 4, .tmp 5] (QaK 187 188) := mkB (A := Tryz.prog) rfl Tryz.func157 (by kernel_rfl)
theorem QfO : Body (pg m u1 u2) 158 27 [.tmp 4, .cell 5 188, .tmp 6] (QaF 189 190 188) := mkB (A := Tryz.prog) rfl Tryz.func158 (by kernel_rfl)
theorem QiQ : Body (pg m u1 u2) 159 9 [.cell 2 149] (QcL 191 149) := mkB (A := Tryz.prog) rfl Tryz.func159 (by kernel_rfl)

end Go.Proofs.YtpfhdmbamkdnpabGreatDoor.linesBack

/- What the functions that the law reaches return in this program, part 3; no conditions. -/
import Derived.Test.YthckgihcbjpjeabGreatDoorLinesFilesI2
set_option linter.unusedSectionVars false
set_option linter.unusedSimpArgs false
set_option linter.unusedVariables false
namespace Go.Proofs.YthckgihcbjpjeabGreatDoor.linesFiles
open Go.Am Go.ChangeShapes Go.WideShapes Go.ChangeAt Go.RowKit

set_option maxRecDepth 100000
variable {m : Int} {u1 u2 : {v : Value // isIf v}}
theorem QpX : QyG (pg m u1 u2) 180 := Qvd Qis
theorem Qoq : Body (pg m u1 u2) 183 68 [.tmp 6, .tmp 7, .tmp 8] (ZM 132 201 109 180 173) := mkB (A := Tryz.prog) rfl Tryz.func183 (by kernel_rfl)
theorem Qna : QoC (pg m u1 u2) 183 := Qsk Qoq JL Qlc Qcq QpX
theorem QhC : Body (pg m u1 u2) 149 86 [.tmp 6, .tmp 7, .cell 8 169, .tmp 9] (Zp 132 133 109 183 137 173 169) := mkB (A := Tryz.prog) rfl Tryz.func149 (by kernel_rfl)
theorem QfF : Body (pg m u1 u2) 137 36 [] (Xt 182 134) := mkB (A := Tryz.prog) rfl Tryz.func137 (by kernel_rfl)
theorem QcZ : Body (pg m u1 u2) 182 58 [] Qq := mkB (A := Tryz.prog) rfl Tryz.func182 (by kernel_rfl)
theorem Qng : QoE (pg m u1 u2) 149 := QtC QhC JL Qlm Qcq Qna QfF QcZ Qlk (show Zq Tryz.prog 169 = some (some 4) by kernel_rfl)
theorem XS : Body (pg m u1 u2) 147 8 [.tmp 2] (Zt 5) := mkB (A := Tryz.prog) rfl Tryz.func147 (by kernel_rfl)
theorem Qh1 : Qaj (pg m u1 u2) 147 := Qlz XS
theorem QmO : Body (pg m u1 u2) 107 14 [.cell 2 173, .tmp 3] (Qbg 147 173) := mkB (A := Tryz.prog) rfl Tryz.func107 (by kernel_rfl)
theorem QrB : QyH (pg m u1 u2) 107 := Qyy QmO Qh1 (show Zq Tryz.prog 173 = some (some 2) by kernel_rfl)
theorem Qjd : Body (pg m u1 u2) 148 46 [.cell 6 173, .tmp 7] (QbJ 132 150 179 173) := mkB (A := Tryz.prog) rfl Tryz.func148 (by kernel_rfl)
theorem Qja : Body (pg m u1 u2) 179 75 [] (QaB 5) := mkB (A := Tryz.prog) rfl Tryz.func179 (by kernel_rfl)
theorem Qp2 : QyM (pg m u1 u2) 148 := Qwm Qjd JL QiH Qja (show Zq Tryz.prog 173 = some (some 2) by kernel_rfl)
theorem QbP : Body (pg m u1 u2) 106 46 [.tmp 2, .tmp 3] (Q0 42 68) := mkB (A := Tryz.prog) rfl Tryz.func106 (by kernel_rfl)
theorem QfW : Qkz (pg m u1 u2) 106 := Qil QbP Qdb QiF
theorem QbO : Body (pg m u1 u2) 108 76 [.tmp 6, .tmp 7, .tmp 8] (Xu 131 148 149 173 170 169 97) := mkB (A := Tryz.prog) rfl Tryz.func108 (by kernel_rfl)
theorem QfV : QoD (pg m u1 u2) 108 := Qik QbO Qll Qp2 Qng
theorem QbQ : Body (pg m u1 u2) 77 87 [.tmp 8, .tmp 9] (QE 105 106 107 108 109 110 129 121 173) := mkB (A := Tryz.prog) rfl Tryz.func77 (by kernel_rfl)
theorem QbL : QgB (pg m u1 u2) 77 := Qim QbQ QgL QfW QrB QfV Qcq QeQ
theorem Qbb : Body (pg m u1 u2) 145 51 [.tmp 4, .tmp 5] Z4 := mkB (A := Tryz.prog) rfl Tryz.func145 (by kernel_rfl)
theorem Qlh : Qre (pg m u1 u2) 145 := Qqt Qbb
theorem Qch : Body (pg m u1 u2) 103 30 [.tmp 4, .tmp 5] (XE 144 145) := mkB (A := Tryz.prog) rfl Tryz.func103 (by kernel_rfl)
theorem QpZ : Qre (pg m u1 u2) 103 := Qvp Qch Qlh
theorem XY : Body (pg m u1 u2) 72 48 [.tmp 4] (Q3 103 3) := mkB (A := Tryz.prog) rfl Tryz.func72 (by kernel_rfl)
theorem QfR : QhL 3 (pg m u1 u2) 72 := Qh9 XY QpZ
theorem XZ : Body (pg m u1 u2) 104 36 [.tmp 2] (Q4 146 3) := mkB (A := Tryz.prog) rfl Tryz.func104 (by kernel_rfl)
theorem growI : Qjh 3 (pg m u1 u2) 146 := grow_nilI (P := (pg m u1 u2)) (ρ := Tryz.growI_ren) Tryz.growI rfl rfl (show (Tryz.prog.info? 3).map (fun i => (i.zero, i.size, i.bytes)) = some (some (.int .i64 0), 1, 8) by kernel_rfl)
theorem QfS : QhR 3 (pg m u1 u2) 104 := Qia XZ growI
theorem QbN : Body (pg m u1 u2) 73 9 [.tmp 4] (Xs 104 27) := mkB (A := Tryz.prog) rfl Tryz.func73 (by kernel_rfl)
theorem QfU : Qun 3 (pg m u1 u2) 73 := Qid QbN QfS
theorem Qem : Body (pg m u1 u2) 47 39 [.tmp 4, .tmp 5] (JC 70 71 72 73 3) := mkB (A := Tryz.prog) rfl Tryz.func47 (by kernel_rfl)
theorem QdA : QpR 3 (pg m u1 u2) 47 := QnR Qem Qb2 QcP QfR QfU
theorem Qc1 : Body (pg m u1 u2) 93 43 [] (Xi 47) := mkB (A := Tryz.prog) rfl Tryz.func93 (by kernel_rfl)
theorem Qjt : QeG 3 (pg m u1 u2) 93 := Qog Qc1 QdA
theorem QmM : Body (pg m u1 u2) 59 4 [.tmp 2] (QbH 93 52) := mkB (A := Tryz.prog) rfl Tryz.func59 (by kernel_rfl)
theorem Qlq : QeH 93 (pg m u1 u2) 59 := QqZ QmM
theorem Qeu : Body (pg m u1 u2) 170 25 [.tmp 0] (JF 289) := mkB (A := Tryz.prog) rfl Tryz.func170 (by kernel_rfl)
theorem QdE : Qky (pg m u1 u2) 170 := Qod Qeu
theorem Qc0 : Body (pg m u1 u2) 169 29 [.tmp 6] Jb := mkB (A := Tryz.prog) rfl Tryz.func169 (by kernel_rfl)
theorem Qh7 : QhT (pg m u1 u2) 169 := Qmq Qc0
theorem QfI : Body (pg m u1 u2) 125 13 [.tmp 4, .tmp 5] (Jc 170 169) := mkB (A := Tryz.prog) rfl Tryz.func125 (by kernel_rfl)
theorem Qln : QoM (pg m u1 u2) 125 := QqU QfI QdE Qh7
theorem QhD : Body (pg m u1 u2) 91 8 [.tmp 2, .tmp 3] (JR 125) := mkB (A := Tryz.prog) rfl Tryz.func91 (by kernel_rfl)
theorem QgM : QpP (pg m u1 u2) 91 := QtI QhD Qln

end Go.Proofs.YthckgihcbjpjeabGreatDoor.linesFiles

/- What the functions that the law reaches return in this program, part 2; no conditions. -/
import Derived.Test.YthckgihcbjpjeabGreatDoorLinesFilesI1
set_option linter.unusedSectionVars false
set_option linter.unusedSimpArgs false
set_option linter.unusedVariables false
namespace Go.Proofs.YthckgihcbjpjeabGreatDoor.linesFiles
open Go.Am Go.ChangeShapes Go.WideShapes Go.ChangeAt Go.RowKit

set_option maxRecDepth 100000
variable {m : Int} {u1 u2 : {v : Value // isIf v}}
theorem Qhw : Body (pg m u1 u2) 171 22 [.tmp 4] ZN := mkB (A := Tryz.prog) rfl Tryz.func171 (by kernel_rfl)
theorem Qnc : QkI (pg m u1 u2) 171 := QsV Qhw
theorem Qhv : Body (pg m u1 u2) 185 40 [] JP := mkB (A := Tryz.prog) rfl Tryz.func185 (by kernel_rfl)
theorem Qnb : QoF (pg m u1 u2) 185 := QsU Qhv
theorem Qi5 : Body (pg m u1 u2) 153 32 [.tmp 4, .tmp 5] (QbE 171 172 185) := mkB (A := Tryz.prog) rfl Tryz.func153 (by kernel_rfl)
theorem QpY : QhN (pg m u1 u2) 153 := Qvo Qi5 Qnc Qni Qnb
theorem Qbc : Body (pg m u1 u2) 110 84 [.tmp 6, .tmp 7] (Z5 128 152 151 153 90 129 121 214 213 21) := mkB (A := Tryz.prog) rfl Tryz.func110 (by kernel_rfl)
theorem QeQ : Quk (pg m u1 u2) 110 := Qhl Qbc Qnj Qnf Qlr QpY Qdw
theorem Qci : Body (pg m u1 u2) 70 32 [.tmp 4, .tmp 5] (XF 71) := mkB (A := Tryz.prog) rfl Tryz.func70 (by kernel_rfl)
theorem Qb2 : QeL (pg m u1 u2) 70 := QjU Qci QcP
theorem QfK : Body (pg m u1 u2) 61 8 [.cell 2 129] (Qag 52 129) := mkB (A := Tryz.prog) rfl Tryz.func61 (by kernel_rfl)
theorem Qlp : QeF (pg m u1 u2) 61 := QqY QfK (show Zq Tryz.prog 129 = some (some 2) by kernel_rfl)
theorem QmK : Body (pg m u1 u2) 99 14 [.tmp 4] Qak := mkB (A := Tryz.prog) rfl Tryz.func99 (by kernel_rfl)
theorem Qrz : Quf (pg m u1 u2) 99 := QxN QmK
theorem Qi9 : Body (pg m u1 u2) 62 35 [.tmp 4, .tmp 5] (QaA 99 5) := mkB (A := Tryz.prog) rfl Tryz.func62 (by kernel_rfl)
theorem QiG : QeD (pg m u1 u2) 62 := Qvx Qi9 Qrz
theorem Qkt : Body (pg m u1 u2) 45 10 [.tmp 4] QaX := mkB (A := Tryz.prog) rfl Tryz.func45 (by kernel_rfl)
theorem Xl : QaR (pg m u1 u2) 45 := Qok Qkt
theorem Qki : Body (pg m u1 u2) 81 43 [.tmp 4, .tmp 5] (ZX 90 5) := mkB (A := Tryz.prog) rfl Tryz.func81 (by kernel_rfl)
theorem Qjk : QkA (pg m u1 u2) 81 := Qm4 Qki Qdw
theorem Qev : Body (pg m u1 u2) 102 24 [.tmp 0] (JG 236) := mkB (A := Tryz.prog) rfl Tryz.func102 (by kernel_rfl)
theorem QdF : QoB (pg m u1 u2) 102 := Qoe Qev
theorem QfJ : Body (pg m u1 u2) 69 32 [.tmp 4, .tmp 5] (Jd 102) := mkB (A := Tryz.prog) rfl Tryz.func69 (by kernel_rfl)
theorem Qlo : QoR (pg m u1 u2) 69 := QqV QfJ QdF
theorem QhE : Body (pg m u1 u2) 42 16 [.tmp 2, .tmp 3] (JS 69) := mkB (A := Tryz.prog) rfl Tryz.func42 (by kernel_rfl)
theorem Qdb : QmT (pg m u1 u2) 42 := QtJ QhE Qlo
theorem QfM : Body (pg m u1 u2) 132 40 [.tmp 2] (Je 173) := mkB (A := Tryz.prog) rfl Tryz.func132 (by kernel_rfl)
theorem JL : QbK (pg m u1 u2) 132 := Qq6 QfM
theorem Qjb : Body (pg m u1 u2) 150 47 [.tmp 6] (QbI 173) := mkB (A := Tryz.prog) rfl Tryz.func150 (by kernel_rfl)
theorem QiH : QpL (pg m u1 u2) 150 := Qwk Qjb
theorem Qjc : Body (pg m u1 u2) 109 34 [.tmp 6, .tmp 7] (QaC 132 150 173) := mkB (A := Tryz.prog) rfl Tryz.func109 (by kernel_rfl)
theorem Qcq : Qjg (pg m u1 u2) 109 := Qwl Qjc JL QiH
theorem Qaw : Body (pg m u1 u2) 187 14 [.tmp 2] (Q8 4) := mkB (A := Tryz.prog) rfl Tryz.func187 (by kernel_rfl)
theorem QrA : QA8 (pg m u1 u2) 187 := Qyx Qaw (show (pg m u1 u2).G.lookup 4 = some dbG by rfl)
theorem Qip : Body (pg m u1 u2) 208 8 [.tmp 2] Qax := mkB (A := Tryz.prog) rfl Tryz.func208 (by kernel_rfl)
theorem Qlb : Qkx (pg m u1 u2) 208 := Qp5 Qip
theorem QmD : Body (pg m u1 u2) 201 53 [.tmp 4, .tmp 5, .tmp 6] (QbC 132 208 109 187 173 3) := mkB (A := Tryz.prog) rfl Tryz.func201 (by kernel_rfl)
theorem Qlc : QoA (pg m u1 u2) 201 := Qp6 QmD JL Qlb Qcq QrA
theorem QfG : Body (pg m u1 u2) 131 2 [.cell 0 169] (Qae 169) := mkB (A := Tryz.prog) rfl Tryz.func131 (by kernel_rfl)
theorem Qll : QkG (pg m u1 u2) 131 := QqQ QfG (show Zq Tryz.prog 169 = some (some 4) by kernel_rfl)
theorem QfH : Body (pg m u1 u2) 133 26 [.tmp 2] (Qaf 169) := mkB (A := Tryz.prog) rfl Tryz.func133 (by kernel_rfl)
theorem Qlm : QkT (pg m u1 u2) 133 := QqR QfH
theorem QfE : Body (pg m u1 u2) 134 17 [.tmp 4, .tmp 5] (X9 169) := mkB (A := Tryz.prog) rfl Tryz.func134 (by kernel_rfl)
theorem Qlk : QkK (pg m u1 u2) 134 := QqO QfE
theorem Qis : Body (pg m u1 u2) 180 9 [.tmp 4] X4 := mkB (A := Tryz.prog) rfl Tryz.func180 (by kernel_rfl)

end Go.Proofs.YthckgihcbjpjeabGreatDoor.linesFiles

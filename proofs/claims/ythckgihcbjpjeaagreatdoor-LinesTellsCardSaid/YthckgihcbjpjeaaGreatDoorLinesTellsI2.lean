/- What the functions that the law reaches return in this program, part 2; no conditions. -/
import Derived.Test.YthckgihcbjpjeaaGreatDoorLinesTellsI1
set_option linter.unusedSectionVars false
set_option linter.unusedSimpArgs false
set_option linter.unusedVariables false
namespace Go.Proofs.YthckgihcbjpjeaaGreatDoor.linesTells
open Go.Am Go.ChangeShapes Go.WideShapes Go.ChangeAt Go.RowKit

theorem QrS : Qf pg 146 21 [.cell 4 194, .tmp 5] (QdR 173 108 194 192) := mkB Tryz.func146 (by kernel_rfl)
theorem Qqq : Qk0 pg 146 := Qxx QrS (show ZE Tryz.prog 194 = some (some 35) by kernel_rfl) Qks
theorem QmJ : Qf pg 174 24 [.tmp 2] (Qb6 173 194 192) := mkB Tryz.func174 (by kernel_rfl)
theorem Qlu : Qnj pg 174 := QrA QmJ Qks
theorem QpM : Qf pg 147 46 [.tmp 4, .cell 5 194, .tmp 6] (QcU 174 175 176 194 192) := mkB Tryz.func147 (by kernel_rfl)
theorem Qod : Qsj pg 147 := QuR QpM (show ZE Tryz.prog 194 = some (some 35) by kernel_rfl) Qlu Qlp QtC
theorem Qfu : Qf pg 163 7 [.tmp 2] Jt := mkB Tryz.func163 (by kernel_rfl)
theorem QaN : Qjb pg 163 := Quk Qfu
theorem QdL : Qf pg 192 26 [.tmp 4] QN := mkB Tryz.func192 (by kernel_rfl)
theorem QjQ : Qnk pg 192 := QoR QdL
theorem QeB : Qf pg 188 12 [.tmp 2, .tmp 3] Ja := mkB Tryz.func188 (by kernel_rfl)
theorem Qll : Qjg pg 188 := QqZ QeB
theorem Qfs : Qf pg 202 7 [.tmp 2] Zx := mkB Tryz.func202 (by kernel_rfl)
theorem QnV : Qjk pg 202 := Qui Qfs
theorem Qft : Qf pg 203 7 [.tmp 2] Zy := mkB Tryz.func203 (by kernel_rfl)
theorem QnW : QxW pg 203 := Quj Qft
theorem Qgk : Qf pg 201 28 [.tmp 2] (JQ 163 192) := mkB Tryz.func201 (by kernel_rfl)
theorem Qqc : QxX pg 201 := Qwp Qgk QaN
theorem Qfr : Qf pg 189 28 [.tmp 2] (Xb 201 163 192) := mkB Tryz.func189 (by kernel_rfl)
theorem QnU : Qr9 pg 189 := Quh Qfr Qqc QaN
theorem Qc9 : Qf pg 191 29 [.cell 4 192] (Xs 202 203 192) := mkB Tryz.func191 (by kernel_rfl)
theorem Qio : Qhd pg 191 := QlM Qc9 (show ZE Tryz.prog 192 = some (some 33) by kernel_rfl) QnV QnW
theorem QdK : Qf pg 190 22 [.cell 4 192] (XI 192) := mkB Tryz.func190 (by kernel_rfl)
theorem QjP : Qjj pg 190 := QoQ QdK (show ZE Tryz.prog 192 = some (some 33) by kernel_rfl)
theorem Qc8 : Qf pg 162 20 [.tmp 4, .cell 5 192] (Xr 189 163 191 190 192) := mkB Tryz.func162 (by kernel_rfl)
theorem Qin : QdT pg 162 := QlL Qc8 (show ZE Tryz.prog 192 = some (some 33) by kernel_rfl) QnU QaN Qio QjP
theorem QdJ : Qf pg 164 12 [.tmp 2] (ZP 192 194) := mkB Tryz.func164 (by kernel_rfl)
theorem QjO : QfJ pg 164 := QoP QdJ QjQ
theorem Qc6 : Qf pg 126 28 [.tmp 4, .cell 5 194] (Xq 162 164 163 194 192) := mkB Tryz.func126 (by kernel_rfl)
theorem Qil : QdS pg 126 := QlJ Qc6 (show ZE Tryz.prog 194 = some (some 35) by kernel_rfl) Qin QjO QaN
theorem Qgl : Qf pg 161 22 [.cell 4 192, .tmp 5] (JR 188 108 192) := mkB Tryz.func161 (by kernel_rfl)
theorem Qqd : Qjd pg 161 := Qwq Qgl (show ZE Tryz.prog 192 = some (some 33) by kernel_rfl) Qll
theorem Qgi : Qf pg 125 20 [.cell 4 194, .tmp 5] (JP 161 108 194 192) := mkB Tryz.func125 (by kernel_rfl)
theorem Qqa : Qk0 pg 125 := Qwn Qgi (show ZE Tryz.prog 194 = some (some 35) by kernel_rfl) Qqd
theorem QrN : Qf pg 148 11 [.tmp 2] QbL := mkB Tryz.func148 (by kernel_rfl)
theorem Qqm : Qha pg 148 := Qw9 QrN
theorem Qfy : Qf pg 127 15 [.tmp 2] Xc := mkB Tryz.func127 (by kernel_rfl)
theorem Qn0 : Qha pg 127 := Quo Qfy
theorem Qbz : Qf pg 178 8 [.tmp 2] (ZK 21) := mkB Tryz.func178 (by kernel_rfl)
theorem Qqp : Qni 21 pg 178 := Qxr Qbz
theorem QrM : Qf pg 177 22 [.tmp 4] XX := mkB Tryz.func177 (by kernel_rfl)
theorem Qqk : Qee pg 177 := QwQ QrM
theorem QeA : Qf pg 165 19 [.tmp 4] Q0 := mkB Tryz.func165 (by kernel_rfl)
theorem Qlk : Qee pg 165 := QqY QeA
theorem QrL : Qf pg 179 40 [] QbK := mkB Tryz.func179 (by kernel_rfl)

end Go.Proofs.YthckgihcbjpjeaaGreatDoor.linesTells

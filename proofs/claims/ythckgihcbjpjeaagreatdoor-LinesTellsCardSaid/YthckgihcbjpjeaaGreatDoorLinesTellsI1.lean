/- What the functions that the law reaches return in this program, part 1; no conditions. -/
import Derived.Test.YthckgihcbjpjeaaGreatDoorRows
import Derived.Test.YthckgihcbjpjeaaGreatDoorLinesTellsY1
set_option linter.unusedSectionVars false
set_option linter.unusedSimpArgs false
set_option linter.unusedVariables false
namespace Go.Proofs.YthckgihcbjpjeaaGreatDoor.linesTells
open Go.Am Go.ChangeShapes Go.WideShapes Go.ChangeAt Go.RowKit

noncomputable def pg : Prg := ⟨Tryz.prog, [(1, [.int .u8 0, .int .u8 1, .int .u8 56, .int .u8 2, .int .u8 57, .int .u8 49, .int .u8 28, .int .u8 3, .int .u8 61, .int .u8 58, .int .u8 42, .int .u8 50, .int .u8 38, .int .u8 29, .int .u8 17, .int .u8 4, .int .u8 62, .int .u8 47, .int .u8 59, .int .u8 36, .int .u8 45, .int .u8 43, .int .u8 51, .int .u8 22, .int .u8 53, .int .u8 39, .int .u8 33, .int .u8 30, .int .u8 24, .int .u8 18, .int .u8 12, .int .u8 5, .int .u8 63, .int .u8 55, .int .u8 48, .int .u8 27, .int .u8 60, .int .u8 41, .int .u8 37, .int .u8 16, .int .u8 46, .int .u8 35, .int .u8 44, .int .u8 21, .int .u8 52, .int .u8 32, .int .u8 23, .int .u8 11, .int .u8 54, .int .u8 26, .int .u8 40, .int .u8 15, .int .u8 34, .int .u8 20, .int .u8 31, .int .u8 10, .int .u8 25, .int .u8 14, .int .u8 19, .int .u8 9, .int .u8 13, .int .u8 8, .int .u8 7, .int .u8 6]), (0, [.int .i64 2, .int .i64 2, .int .i64 2, .int .i64 4, .int .i64 4])], fun g cs h => by
  simp only [List.lookup] at h
  repeat (first | (cases h; done) | (split at h; first | (cases h; rfl) | skip))⟩

theorem mkB {P : Prg} {f N : Nat} {rl : List ResultVar} {ac : AC} {fn : _} (h0 : P.prog.funcs[f]? = some fn) (h : (fn.name == "runtime.NumGoroutine", fn.ntmps, fn.results.toList, fn.body.bind (Qx P.prog N)) = (false, N, rl, some ac)) : Qf P f N rl ac := by simp only [Prod.mk.injEq] at h; exact ⟨fn, h0, h.1, h.2.1, h.2.2.1, h.2.2.2⟩
theorem Qu0 : Qf pg 55 31 [.tmp 2, .tmp 3] QfG := mkB Tryz.func55 (by kernel_rfl)
theorem Qkv : Qd9 pg 55 := Qy9 Qu0
theorem QBr : Qf pg 30 33 [.tmp 6, .tmp 7] (Qh9 55) := mkB Tryz.func30 (by kernel_rfl)
theorem Qql : Qja pg 30 := QDn QBr Qkv
theorem Qg6 : Qf pg 73 21 [.tmp 2] Qam := mkB Tryz.func73 (by kernel_rfl)
theorem QgD : Qcn pg 73 := Qy1 Qg6
theorem Qmr : Qf pg 139 18 [.tmp 2, .tmp 3, .tmp 4] Xz := mkB Tryz.func139 (by kernel_rfl)
theorem QfL : Qm3 pg 139 := QpZ Qmr
theorem Qfo : Qf pg 129 10 [.tmp 2] Jq := mkB Tryz.func129 (by kernel_rfl)
theorem Qdk : QpQ pg 129 := Que Qfo
theorem Qms : Qf pg 111 37 [.tmp 4] (Qb0 139) := mkB Tryz.func111 (by kernel_rfl)
theorem QfM : QbQ pg 111 := Qp0 Qms QfL
theorem Qey : Qf pg 92 37 [.tmp 4] (X9 129) := mkB Tryz.func92 (by kernel_rfl)
theorem QfP : QbQ pg 92 := QqW Qey Qdk
theorem Qkh : Qf pg 60 14 [.tmp 2, .tmp 3] XY := mkB Tryz.func60 (by kernel_rfl)
theorem QeI : Qid pg 60 := Qo2 Qkh
theorem Qi8 : Qf pg 102 25 [.tmp 2] (Qa1 139 106) := mkB Tryz.func102 (by kernel_rfl)
theorem Qis : Qeg pg 102 := Qma Qi8 QfL
theorem Qex : Qf pg 118 17 [.tmp 2] (Zr 129 106) := mkB Tryz.func118 (by kernel_rfl)
theorem Qli : Qeg pg 118 := QqV Qex Qdk
theorem Qdz : Qf pg 47 9 [.tmp 2] (XD 106) := mkB Tryz.func47 (by kernel_rfl)
theorem QjF : Qm6 pg 47 := QoF Qdz
theorem QuW : Qf pg 173 18 [.cell 4 192, .tmp 5] (QaE 108 192) := mkB Tryz.func173 (by kernel_rfl)
theorem Qks : Qjd pg 173 := Qys QuW (show ZE Tryz.prog 192 = some (some 33) by kernel_rfl)
theorem QpB : Qf pg 206 11 [.tmp 2] (J9 192) := mkB Tryz.func206 (by kernel_rfl)
theorem Qdh : Qgx pg 206 := QtK QpB
theorem QpA : Qf pg 199 36 [.tmp 2, .tmp 3] (QcN 206 192) := mkB Tryz.func199 (by kernel_rfl)
theorem QnF : QmX pg 199 := QtJ QpA Qdh
theorem QrH : Qf pg 209 9 [.tmp 2] QaS := mkB Tryz.func209 (by kernel_rfl)
theorem Qp6 : QmV pg 209 := QvJ QrH
theorem Qpz : Qf pg 207 53 [.cell 4 192, .tmp 5] (QcM 206 209 192) := mkB Tryz.func207 (by kernel_rfl)
theorem QnE : QmW pg 207 := QtI Qpz (show ZE Tryz.prog 192 = some (some 33) by kernel_rfl) Qdh Qp6
theorem QrI : Qf pg 208 22 [.cell 4 192, .tmp 5] (QdP 206 192) := mkB Tryz.func208 (by kernel_rfl)
theorem Qp7 : Qr5 pg 208 := QvK QrI (show ZE Tryz.prog 192 = some (some 33) by kernel_rfl) Qdh
theorem QpF : Qf pg 200 20 [.cell 6 192] (QcP 207 208 192) := mkB Tryz.func200 (by kernel_rfl)
theorem Qn7 : Qjm pg 200 := Quz QpF (show ZE Tryz.prog 192 = some (some 33) by kernel_rfl) QnE Qp7
theorem QuY : Qf pg 176 27 [.tmp 4, .cell 5 192, .tmp 6] (QfF 199 200 192) := mkB Tryz.func176 (by kernel_rfl)
theorem QtC : Qse pg 176 := Qy6 QuY (show ZE Tryz.prog 192 = some (some 33) by kernel_rfl) QnF Qn7
theorem QmD : Qf pg 197 10 [.tmp 2, .tmp 3] JE := mkB Tryz.func197 (by kernel_rfl)
theorem Qlo : Qne pg 197 := Qrl QmD
theorem QmC : Qf pg 198 16 [.tmp 4] QaJ := mkB Tryz.func198 (by kernel_rfl)
theorem Qln : Qnd pg 198 := Qrk QmC
theorem QmE : Qf pg 175 19 [.tmp 4, .tmp 5] (Qb2 197 198) := mkB Tryz.func175 (by kernel_rfl)
theorem Qlp : Qnf pg 175 := Qrm QmE Qlo Qln

end Go.Proofs.YthckgihcbjpjeaaGreatDoor.linesTells

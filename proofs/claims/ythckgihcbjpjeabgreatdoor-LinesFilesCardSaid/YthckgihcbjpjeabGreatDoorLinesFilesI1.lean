/- What the functions that the law reaches return in this program, part 1; no conditions. -/
import Derived.Test.YthckgihcbjpjeabGreatDoorRows
import Derived.Test.YthckgihcbjpjeabGreatDoorLinesFilesY2
set_option linter.unusedSectionVars false
set_option linter.unusedSimpArgs false
set_option linter.unusedVariables false
namespace Go.Proofs.YthckgihcbjpjeabGreatDoor.linesFiles
open Go.Am Go.ChangeShapes Go.WideShapes Go.ChangeAt Go.RowKit

noncomputable def pg (m : Int) (u1 u2 : {v : Value // isIf v}) : Prg := ⟨Tryz.prog, [(1, powG), (2, [.int .i64 m]), (7, [.lit u1.1]), (8, [.lit u2.1]), (4, [.int .u8 0, .int .u8 1, .int .u8 56, .int .u8 2, .int .u8 57, .int .u8 49, .int .u8 28, .int .u8 3, .int .u8 61, .int .u8 58, .int .u8 42, .int .u8 50, .int .u8 38, .int .u8 29, .int .u8 17, .int .u8 4, .int .u8 62, .int .u8 47, .int .u8 59, .int .u8 36, .int .u8 45, .int .u8 43, .int .u8 51, .int .u8 22, .int .u8 53, .int .u8 39, .int .u8 33, .int .u8 30, .int .u8 24, .int .u8 18, .int .u8 12, .int .u8 5, .int .u8 63, .int .u8 55, .int .u8 48, .int .u8 27, .int .u8 60, .int .u8 41, .int .u8 37, .int .u8 16, .int .u8 46, .int .u8 35, .int .u8 44, .int .u8 21, .int .u8 52, .int .u8 32, .int .u8 23, .int .u8 11, .int .u8 54, .int .u8 26, .int .u8 40, .int .u8 15, .int .u8 34, .int .u8 20, .int .u8 31, .int .u8 10, .int .u8 25, .int .u8 14, .int .u8 19, .int .u8 9, .int .u8 13, .int .u8 8, .int .u8 7, .int .u8 6]), (0, [.int .i64 2, .int .i64 2, .int .i64 2, .int .i64 4, .int .i64 4])], fun g cs h => by
  simp only [List.lookup] at h
  repeat (first | (cases h; done) | (split at h; first | (cases h; rfl) | skip))⟩

set_option maxRecDepth 100000
variable {m : Int} {u1 u2 : {v : Value // isIf v}}
theorem mkB {A : Program} {P : Prg} {f N : Nat} {rl : List ResultVar} {ac : AC} {fn : _} (hP : P.prog = A) (h0 : A.funcs[f]? = some fn) (h : (fn.name == "runtime.NumGoroutine", fn.ntmps, fn.results.toList, fn.body.bind (Qf A N)) = (false, N, rl, some ac)) : Body P f N rl ac := by subst hP; simp only [Prod.mk.injEq] at h; exact ⟨fn, h0, h.1, h.2.1, h.2.2.1, h.2.2.2⟩
theorem Qi8 : Body (pg m u1 u2) 68 31 [.tmp 2, .tmp 3] QbG := mkB (A := Tryz.prog) rfl Tryz.func68 (by kernel_rfl)
theorem QiF : QcE (pg m u1 u2) 68 := Qvw Qi8
theorem Qt5 : Body (pg m u1 u2) 41 33 [.tmp 6, .tmp 7] (QeA 68) := mkB (A := Tryz.prog) rfl Tryz.func41 (by kernel_rfl)
theorem Qne : QhI (pg m u1 u2) 41 := QAT Qt5 QiF
theorem Qee : Body (pg m u1 u2) 124 18 [.tmp 2, .tmp 3, .tmp 4] Zs := mkB (A := Tryz.prog) rfl Tryz.func124 (by kernel_rfl)
theorem Qdv : QkH (pg m u1 u2) 124 := Qm2 Qee
theorem Qef : Body (pg m u1 u2) 90 37 [.tmp 4] (JA 124) := mkB (A := Tryz.prog) rfl Tryz.func90 (by kernel_rfl)
theorem Qdw : Qgt (pg m u1 u2) 90 := Qm3 Qef Qdv
theorem QcX : Body (pg m u1 u2) 71 14 [.tmp 2, .tmp 3] ZG := mkB (A := Tryz.prog) rfl Tryz.func71 (by kernel_rfl)
theorem QcP : QgA (pg m u1 u2) 71 := QlZ QcX
theorem Qcl : Body (pg m u1 u2) 105 25 [.tmp 2] (XH 124 129) := mkB (A := Tryz.prog) rfl Tryz.func105 (by kernel_rfl)
theorem QgL : QkR (pg m u1 u2) 105 := Qj5 Qcl Qdv
theorem Qi4 : Body (pg m u1 u2) 174 18 [.cell 4 211, .tmp 5] (XM 121 211) := mkB (A := Tryz.prog) rfl Tryz.func174 (by kernel_rfl)
theorem QiE : QpO (pg m u1 u2) 174 := QuL Qi4 (show Zq Tryz.prog 211 = some (some 33) by kernel_rfl)
theorem QfB : Body (pg m u1 u2) 205 11 [.tmp 2] (Xo 211) := mkB (A := Tryz.prog) rfl Tryz.func205 (by kernel_rfl)
theorem Qb1 : QeE (pg m u1 u2) 205 := Qqa QfB
theorem QfA : Body (pg m u1 u2) 198 36 [.tmp 2, .tmp 3] (Qaa 205 211) := mkB (A := Tryz.prog) rfl Tryz.func198 (by kernel_rfl)
theorem Qle : QkF (pg m u1 u2) 198 := Qp9 QfA Qb1
theorem Qop : Body (pg m u1 u2) 211 9 [.tmp 2] JO := mkB (A := Tryz.prog) rfl Tryz.func211 (by kernel_rfl)
theorem Qm8 : QoI (pg m u1 u2) 211 := QrR Qop
theorem Qfz : Body (pg m u1 u2) 206 53 [.cell 4 211, .tmp 5] (J9 205 211 211) := mkB (A := Tryz.prog) rfl Tryz.func206 (by kernel_rfl)
theorem Qld : QkE (pg m u1 u2) 206 := Qp8 Qfz (show Zq Tryz.prog 211 = some (some 33) by kernel_rfl) Qb1 Qm8
theorem Qhq : Body (pg m u1 u2) 207 22 [.cell 4 211, .tmp 5] (QaN 205 211) := mkB (A := Tryz.prog) rfl Tryz.func207 (by kernel_rfl)
theorem Qm9 : QoJ (pg m u1 u2) 207 := QrS Qhq (show Zq Tryz.prog 211 = some (some 33) by kernel_rfl) Qb1
theorem QfD : Body (pg m u1 u2) 199 20 [.cell 6 211] (Qac 206 207 211) := mkB (A := Tryz.prog) rfl Tryz.func199 (by kernel_rfl)
theorem Qli : QhO (pg m u1 u2) 199 := Qqv QfD (show Zq Tryz.prog 211 = some (some 33) by kernel_rfl) Qld Qm9
theorem Qi6 : Body (pg m u1 u2) 184 27 [.tmp 4, .cell 5 211, .tmp 6] (QbF 198 199 211) := mkB (A := Tryz.prog) rfl Tryz.func184 (by kernel_rfl)
theorem Qp0 : QoO (pg m u1 u2) 184 := Qvr Qi6 (show Zq Tryz.prog 211 = some (some 33) by kernel_rfl) Qle Qli
theorem Qeq : Body (pg m u1 u2) 196 10 [.tmp 2, .tmp 3] Z0 := mkB (A := Tryz.prog) rfl Tryz.func196 (by kernel_rfl)
theorem Qjq : QkP (pg m u1 u2) 196 := QnZ Qeq
theorem Qep : Body (pg m u1 u2) 197 16 [.tmp 4] XA := mkB (A := Tryz.prog) rfl Tryz.func197 (by kernel_rfl)
theorem Qjp : QkO (pg m u1 u2) 197 := QnY Qep
theorem Qer : Body (pg m u1 u2) 176 19 [.tmp 4, .tmp 5] (JD 196 197) := mkB (A := Tryz.prog) rfl Tryz.func176 (by kernel_rfl)
theorem Qjr : QkQ (pg m u1 u2) 176 := Qn0 Qer Qjq Qjp
theorem QhF : Body (pg m u1 u2) 128 21 [.cell 4 213, .tmp 5] (QaQ 174 121 213 211) := mkB (A := Tryz.prog) rfl Tryz.func128 (by kernel_rfl)
theorem Qnj : Qum (pg m u1 u2) 128 := QtQ QhF (show Zq Tryz.prog 213 = some (some 35) by kernel_rfl) QiE
theorem Qew : Body (pg m u1 u2) 175 24 [.tmp 2] (JI 174 213 211) := mkB (A := Tryz.prog) rfl Tryz.func175 (by kernel_rfl)
theorem Qju : QkV (pg m u1 u2) 175 := Qoh Qew QiE
theorem QfL : Body (pg m u1 u2) 151 46 [.tmp 4, .cell 5 213, .tmp 6] (Qah 175 176 184 213 211) := mkB (A := Tryz.prog) rfl Tryz.func151 (by kernel_rfl)
theorem Qlr : QoS (pg m u1 u2) 151 := Qq0 QfL (show Zq Tryz.prog 213 = some (some 35) by kernel_rfl) Qju Qjr Qp0
theorem Qhz : Body (pg m u1 u2) 152 11 [.tmp 2] JQ := mkB (A := Tryz.prog) rfl Tryz.func152 (by kernel_rfl)
theorem Qnf : QoG (pg m u1 u2) 152 := Qtp Qhz
theorem Xv : Body (pg m u1 u2) 172 8 [.tmp 2] (QS 21) := mkB (A := Tryz.prog) rfl Tryz.func172 (by kernel_rfl)
theorem Qni : QkU 21 (pg m u1 u2) 172 := QtM Xv

end Go.Proofs.YthckgihcbjpjeabGreatDoor.linesFiles

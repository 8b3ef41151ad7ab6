/- What the functions that the law reaches return in this program, part 6; no conditions. -/
import Derived.Test.YthckgihcbjpjeabGreatDoorLinesFilesI5
set_option linter.unusedSectionVars false
set_option linter.unusedSimpArgs false
set_option linter.unusedVariables false
namespace Go.Proofs.YthckgihcbjpjeabGreatDoor.linesFiles
open Go.Am Go.ChangeShapes Go.WideShapes Go.ChangeAt Go.RowKit

set_option maxRecDepth 100000
variable {m : Int} {u1 u2 : {v : Value // isIf v}}
theorem QmF : Body (pg m u1 u2) 66 19 [.tmp 2, .tmp 3] (Qab 100 101) := mkB (A := Tryz.prog) rfl Tryz.func66 (by kernel_rfl)
theorem Qjm : Qgv (pg m u1 u2) 66 := Qno QmF QgK Qls
theorem QBr {A : Program} {P : Prg} {f N : Nat} {rl : List ResultVar} {ac : RC2} {fn : _} (hP : P.prog = A) (h0 : A.funcs[f]? = some fn) (h : (fn.name == "runtime.NumGoroutine", fn.ntmps, fn.results.toList, fn.body.bind (QlO A N)) = (false, N, rl, some ac)) : Qwu P f N rl ac := by subst hP; simp only [Prod.mk.injEq] at h; exact ⟨fn, h0, h.1, h.2.1, h.2.2.1, h.2.2.2⟩
theorem Qkj : Qwu (pg m u1 u2) 15 18 [.cell 2 3, .cell 3 30] (Xj 39 3 30) := QBr (A := Tryz.prog) rfl Tryz.func15 (by kernel_rfl)
theorem Qiq : Body (pg m u1 u2) 65 35 [] (X2 66) := mkB (A := Tryz.prog) rfl Tryz.func65 (by kernel_rfl)
theorem Jw : QcG (pg m u1 u2) 15 := Qlu Qkj Qlf Qiq Qjm (show Zq Tryz.prog 3 = some none by kernel_rfl) (show Zq Tryz.prog 30 = some none by kernel_rfl)
theorem Qra : Body (pg m u1 u2) 112 74 [.tmp 2, .tmp 3] (Zw 139 142 143 45 5 232) := mkB (A := Tryz.prog) rfl Tryz.func112 (by kernel_rfl)
theorem Qp3 : QgC (pg m u1 u2) 112 := Qwp Qra Jm QgN QgO Xl
theorem QcW : Body (pg m u1 u2) 78 27 [.tmp 2, .tmp 3] (Xf 111 22) := mkB (A := Tryz.prog) rfl Tryz.func78 (by kernel_rfl)
theorem Qf6 : Body (pg m u1 u2) 111 10 [.tmp 1] (Xp 112) := mkB (A := Tryz.prog) rfl Tryz.func111 (by kernel_rfl)
theorem QgE : QhS (pg m u1 u2) 78 := Qjz QcW Qf6 Qp3
theorem QfC : Body (pg m u1 u2) 19 69 [.tmp 4, .tmp 5] (Xq 41 42 30 3) := mkB (A := Tryz.prog) rfl Tryz.func19 (by kernel_rfl)
theorem Qdz : Qcn (pg m u1 u2) 19 := Qnz QfC Qne Qdb Qbj
theorem Qht : Body (pg m u1 u2) 79 31 [.tmp 2, .tmp 3] (JZ 30 113 3) := mkB (A := Tryz.prog) rfl Tryz.func79 (by kernel_rfl)
theorem Qe7 : Body (pg m u1 u2) 113 8 [.tmp 3] Z3 := mkB (A := Tryz.prog) rfl Tryz.func113 (by kernel_rfl)
theorem QgG : QoK (pg m u1 u2) 79 := QjH Qht Qbj Qe7
theorem Qek : Body (pg m u1 u2) 7 108 [.cell 4 29, .tmp 5] (Qz 15 16 17 18 19 29 26) := mkB (A := Tryz.prog) rfl Tryz.func7 (by kernel_rfl)
theorem J2 : QcF (pg m u1 u2) 7 := Qny Qek (show Zq Tryz.prog 29 = some (some 7) by kernel_rfl) Jw Qbl QcQ Z8 Qdz
theorem Qeg : Body (pg m u1 u2) 74 62 [.cell 2 144, .tmp 3] (Q9 15 16 18 144) := mkB (A := Tryz.prog) rfl Tryz.func74 (by kernel_rfl)
theorem QhZ : QkB (pg m u1 u2) 74 := Qk9 Qeg (show Zq Tryz.prog 144 = some (some 11) by kernel_rfl) Jw Qbl Z8
theorem Qfy : Body (pg m u1 u2) 48 130 [.cell 4 52, .tmp 5] (J8 74 75 76 58 77 78 52 144 129 121 21) := mkB (A := Tryz.prog) rfl Tryz.func48 (by kernel_rfl)
theorem Qba : Body (pg m u1 u2) 75 51 [.tmp 6] (QF 17) := mkB (A := Tryz.prog) rfl Tryz.func75 (by kernel_rfl)
theorem QaM : Body (pg m u1 u2) 76 78 [.tmp 4, .tmp 5] (QZ 19) := mkB (A := Tryz.prog) rfl Tryz.func76 (by kernel_rfl)
theorem Qjl : QkC (pg m u1 u2) 48 := Qm6 Qfy (show Zq Tryz.prog 52 = some (some 4) by kernel_rfl) QhZ Qba QcQ QaM Qdz QgH QbL QgE
theorem Qeh : Body (pg m u1 u2) 20 14 [.tmp 4] (Xz 48 52) := mkB (A := Tryz.prog) rfl Tryz.func20 (by kernel_rfl)
theorem Qh0 : QhJ (pg m u1 u2) 20 := Qla Qeh Qjl
theorem Qe6 : Body (pg m u1 u2) 80 56 [.tmp 8, .tmp 9] (Zo 77 81) := mkB (A := Tryz.prog) rfl Tryz.func80 (by kernel_rfl)
theorem QfT : QyJ (pg m u1 u2) 80 := Qib Qe6 QbL Qjk
theorem Qhr : Body (pg m u1 u2) 49 67 [.tmp 4, .tmp 5, .tmp 6, .tmp 7] (XD 7 18 79 58 80 22 29 27 121 129) := mkB (A := Tryz.prog) rfl Tryz.func49 (by kernel_rfl)
theorem QgF : Qfb 80 (pg m u1 u2) 49 := QjG Qhr J2 Z8 QgG QgH
theorem Qir : Body (pg m u1 u2) 22 35 [.tmp 6, .tmp 7] (X3 49) := mkB (A := Tryz.prog) rfl Tryz.func22 (by kernel_rfl)
theorem Qh3 : QhQ (pg m u1 u2) 22 := QlH Qir QgF QfT
theorem Qes : Body (pg m u1 u2) 23 42 [.tmp 4, .tmp 5] (JE 18 26) := mkB (A := Tryz.prog) rfl Tryz.func23 (by kernel_rfl)
theorem Qjs : QoQ (pg m u1 u2) 23 := Qoa Qes Z8
theorem Qiz : Body (pg m u1 u2) 21 43 [.tmp 6] (QT 15 16 26) := mkB (A := Tryz.prog) rfl Tryz.func21 (by kernel_rfl)
theorem Qh6 : QkS (pg m u1 u2) 21 := Qmo Qiz Jw Qbl
theorem Qet : Body (pg m u1 u2) 8 73 [.cell 4 32, .tmp 5] (Zv 20 7 21 22 23 32 29) := mkB (A := Tryz.prog) rfl Tryz.func8 (by kernel_rfl)
theorem QdD : Qgu (pg m u1 u2) 8 := Qob Qet (show Zq Tryz.prog 32 = some (some 4) by kernel_rfl) Qh0 J2 Qh6 Qh3 Qjs
theorem Qi7 : Body (pg m u1 u2) 6 32 [.cell 4 34, .tmp 5] (Qaz 7 8 34 29 32) := mkB (A := Tryz.prog) rfl Tryz.func6 (by kernel_rfl)
theorem Qp1 : QyL (pg m u1 u2) 6 := Qvs Qi7 (show Zq Tryz.prog 34 = some (some 11) by kernel_rfl) J2 QdD
theorem Qdo : Body (pg m u1 u2) 5 16 [.tmp 2] QV := mkB (A := Tryz.prog) rfl Tryz.func5 (by kernel_rfl)
theorem Qlg : QkJ (pg m u1 u2) 5 := Qqo Qdo
theorem QaW : Body (pg m u1 u2) 3 108 [.tmp 4] (QG 4 5 6 7 8 9 10 11 12 13 34 29 32) := mkB (A := Tryz.prog) rfl Tryz.func3 (by kernel_rfl)
theorem Qkr : Body (pg m u1 u2) 14 62 [.tmp 4, .tmp 5] (Qc7 31 32 33 34 36 37 35 38 52 26 22) := mkB (A := Tryz.prog) rfl Tryz.func14 (by kernel_rfl)
theorem Qko : Body (pg m u1 u2) 31 35 [.cell 4 26, .tmp 5] (Qc4 57 52 26) := mkB (A := Tryz.prog) rfl Tryz.func31 (by kernel_rfl)

end Go.Proofs.YthckgihcbjpjeabGreatDoor.linesFiles

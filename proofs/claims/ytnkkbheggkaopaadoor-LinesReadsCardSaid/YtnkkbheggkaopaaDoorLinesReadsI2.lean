/- What the functions that the law reaches return in this program, part 2; no conditions. -/
import Derived.Test.YtnkkbheggkaopaaDoorLinesReadsI1
set_option linter.unusedSectionVars false
set_option linter.unusedSimpArgs false
set_option linter.unusedVariables false
namespace Go.Proofs.YtnkkbheggkaopaaDoor.linesReads
open Go.Am Go.ChangeShapes Go.WideShapes Go.ChangeAt Go.RowKit

set_option maxRecDepth 100000
variable {m : Int} {u1 u2 : {v : Value // isIf v}}
theorem Ji : Body (pg m u1 u2) 78 52 [] (QO 70 57) := mkB (A := Tryd.prog) rfl Tryd.func78 (by kernel_rfl)
theorem QdT : Go.Am.Enters (pg m u1 u2) 57 := ⟨Tryd.f57, Tryd.func57, by kernel_rfl, by kernel_rfl⟩
theorem QeC : S_StrIndex (pg m u1 u2) 57 := k_index (P := (pg m u1 u2)) (ρ := Tryd.shLaysn143_ren) Tryd.shLaysn143 QdT rfl
theorem JQ : JN 9 3 32 (pg m u1 u2) 60 := QaJ Qab Ji QeC
theorem Qac : Body (pg m u1 u2) 43 8 [.tmp 4] (Zr 60) := mkB (A := Tryd.prog) rfl Tryd.func43 (by kernel_rfl)
theorem JR : Qaw 9 3 32 (pg m u1 u2) 43 := QaK Qac JQ
theorem QkP {A : Program} {P : Prg} {f N : Nat} {rl : List ResultVar} {ac : RC} {fn : _} (hP : P.prog = A) (h0 : A.funcs[f]? = some fn) (h : (fn.name == "runtime.NumGoroutine", fn.ntmps, fn.results.toList, fn.body.bind (QgR A N)) = (false, N, rl, some ac)) : Qgb P f N rl ac := by subst hP; simp only [Prod.mk.injEq] at h; exact ⟨fn, h0, h.1, h.2.1, h.2.2.1, h.2.2.2⟩
theorem Qbv : Qgb (pg m u1 u2) 30 23 [.cell 2 24, .cell 3 4] (ZU 43 41 24 4 3) := QkP (A := Tryd.prog) rfl Tryd.func30 (by kernel_rfl)
theorem Qa2 : QhB (pg m u1 u2) 30 := QcC Qbv JR Jn (show QaW Tryd.prog 24 = some none by kernel_rfl) (show QaW Tryd.prog 4 = some none by kernel_rfl)
theorem QcU : Body (pg m u1 u2) 28 54 [.tmp 4, .tmp 5] (ZN 27 41 3) := mkB (A := Tryd.prog) rfl Tryd.func28 (by kernel_rfl)
theorem QdS : Go.Am.Enters (pg m u1 u2) 27 := ⟨Tryd.f27, Tryd.func27, by kernel_rfl, by kernel_rfl⟩
theorem hi9 : (Tryd.prog.info? 9).map (fun i => (i.zero, i.size, i.bytes)) = some (some (.string ByteArray.empty), 1, 16) := by kernel_rfl
theorem Qbj : S_SplitS (pg m u1 u2) 27 := k_split (P := (pg m u1 u2)) (ρ := Tryd.shLaysn146_ren) Tryd.shLaysn146 hi9 QdS rfl
theorem Qcj : QeU (pg m u1 u2) 28 := Qey QcU Qbj Jn
theorem QcV : Body (pg m u1 u2) 8 63 [.tmp 2] (Qh 18 19 31 29) := mkB (A := Tryd.prog) rfl Tryd.func8 (by kernel_rfl)
theorem Xu : ZC (pg m u1 u2) 8 := Qez QcV Qa4 Qcf
theorem Qd3 : Body (pg m u1 u2) 16 140 [.cell 2 31, .tmp 3] (Zf 27 28 29 30 31 31 9) := mkB (A := Tryd.prog) rfl Tryd.func16 (by kernel_rfl)
theorem QfY : Go.Am.Enters (pg m u1 u2) 29 := ⟨Tryd.f29, Tryd.func29, by kernel_rfl, by kernel_rfl⟩
theorem Qg6 : S_StrCut (pg m u1 u2) 29 := k_strcut (P := (pg m u1 u2)) (ρ := Tryd.shLaysn145_ren) Tryd.shLaysn145 QfY rfl
theorem Qdj : Qjr (pg m u1 u2) 16 := QfQ Qd3 Qbj Qcj Qg6 Qa2 Jv (show QaW Tryd.prog 31 = some (some 11) by kernel_rfl)
theorem Qd5 : Body (pg m u1 u2) 6 20 [.cell 2 31, .tmp 3] (ZB 16 8 31) := mkB (A := Tryd.prog) rfl Tryd.func6 (by kernel_rfl)
theorem Qdl : Qc6 (pg m u1 u2) 6 := QfS Qd5 Qdj Xu (show QaW Tryd.prog 31 = some (some 11) by kernel_rfl)
theorem ZS : Body (pg m u1 u2) 12 19 [.tmp 4, .tmp 5] (Qz 24 5) := mkB (A := Tryd.prog) rfl Tryd.func12 (by kernel_rfl)
theorem Qif : Go.Am.Enters (pg m u1 u2) 24 := ⟨Tryd.f24, Tryd.func24, by kernel_rfl, by kernel_rfl⟩
theorem QiY : QhD 47 (pg m u1 u2) 24 := QjM (P := (pg m u1 u2)) copy_new copy_old Qif
theorem Xn : Qfw 47 5 (pg m u1 u2) 12 := Qbt ZS QiY
theorem QbU : Body (pg m u1 u2) 11 20 [] (ZA 12 13) := mkB (A := Tryd.prog) rfl Tryd.func11 (by kernel_rfl)
theorem Qed : Qjq 47 5 3 (pg m u1 u2) 11 := Qg3 QbU Xn Qg7
theorem Qd4 : Body (pg m u1 u2) 4 70 [.tmp 2, .tmp 3] (ZY 8 11 12 14 31 23 29 47 3) := mkB (A := Tryd.prog) rfl Tryd.func4 (by kernel_rfl)
theorem Qig : Go.Am.Enters (pg m u1 u2) 14 := ⟨Tryd.f14, Tryd.func14, by kernel_rfl, by kernel_rfl⟩
theorem QiZ : QhF 47 5 (pg m u1 u2) 14 := QjN (P := (pg m u1 u2)) (ρ := Tryd.shLaysn169_ren) Tryd.shLaysn169 Tryd.shLaysn169X Qig
theorem Qdk : Qc5 (pg m u1 u2) 4 := QfR Qd4 Xu Qed Xn QiZ
theorem X2 : Body (pg m u1 u2) 34 51 [.tmp 2] (Qd 23) := mkB (A := Tryd.prog) rfl Tryd.func34 (by kernel_rfl)
theorem QbH : Je (pg m u1 u2) 34 := QdA X2
theorem JK : Body (pg m u1 u2) 35 18 [.tmp 2] (QU 22 23) := mkB (A := Tryd.prog) rfl Tryd.func35 (by kernel_rfl)
theorem Qdg : Qc3 (pg m u1 u2) 35 := QfM JK JS
theorem Jm : Body (pg m u1 u2) 20 10 [.tmp 2] (QB 34 35 23) := mkB (A := Tryd.prog) rfl Tryd.func20 (by kernel_rfl)
theorem Qci : Xr (pg m u1 u2) 20 := Qev Jm QbH Qdg
theorem Jk : Body (pg m u1 u2) 21 39 [.tmp 2] QA := mkB (A := Tryd.prog) rfl Tryd.func21 (by kernel_rfl)
theorem Qch : Xq (pg m u1 u2) 21 := Qet Jk
theorem XH : Body (pg m u1 u2) 37 26 [.tmp 4] Qu := mkB (A := Tryd.prog) rfl Tryd.func37 (by kernel_rfl)
theorem Qcg : QeR (pg m u1 u2) 37 := Qes XH
theorem JJ : Body (pg m u1 u2) 23 24 [.tmp 4] (Qv 37 26) := mkB (A := Tryd.prog) rfl Tryd.func23 (by kernel_rfl)
theorem Qdf : Qc0 (pg m u1 u2) 23 := QfL JJ Qcg
theorem JH : Body (pg m u1 u2) 10 17 [.tmp 4] (QT 23 31) := mkB (A := Tryd.prog) rfl Tryd.func10 (by kernel_rfl)

end Go.Proofs.YtnkkbheggkaopaaDoor.linesReads

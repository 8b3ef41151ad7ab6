/- What the functions that the law reaches return in this program, part 2; no conditions. -/
import Derived.Test.YtpfhdmbamkdnpacGreatDoorLinesOneI1
set_option linter.unusedSectionVars false
set_option linter.unusedSimpArgs false
set_option linter.unusedVariables false
namespace Go.Proofs.YtpfhdmbamkdnpacGreatDoor.linesOne
open Go.Am Go.ChangeShapes Go.WideShapes Go.ChangeAt Go.RowKit

set_option maxRecDepth 100000
variable {m : Int} {u1 u2 : {v : Value // isIf v}}
theorem Qd7 : XQ (pg m u1 u2) 154 := QgZ Qen XV
theorem QiR : Body (pg m u1 u2) 155 43 [.tmp 2, .tmp 3] (JX 185 188 189 82 5 276) := mkB (A := Tryz.prog) rfl Tryz.func155 (by kernel_rfl)
theorem QhW : XQ (pg m u1 u2) 155 := Ql9 QiR XV
theorem Qhv : Body (pg m u1 u2) 116 19 [.tmp 2, .tmp 3] (Js 154 155) := mkB (A := Tryz.prog) rfl Tryz.func116 (by kernel_rfl)
theorem Qgm : XQ (pg m u1 u2) 116 := QjI Qhv Qd7 QhW
theorem Qhu : Body (pg m u1 u2) 79 4 [.tmp 2] (Jr 115 37) := mkB (A := Tryz.prog) rfl Tryz.func79 (by kernel_rfl)
theorem Qgl : QiT 115 (pg m u1 u2) 79 := QjH Qhu
theorem Qqn {A : Program} {P : Prg} {f N : Nat} {rl : List ResultVar} {ac : RC0} {fn : _} (hP : P.prog = A) (h0 : A.funcs[f]? = some fn) (h : (fn.name == "runtime.NumGoroutine", fn.ntmps, fn.results.toList, fn.body.bind (Qey A N)) = (false, N, rl, some ac)) : Qmj P f N rl ac := by subst hP; simp only [Prod.mk.injEq] at h; exact ⟨fn, h0, h.1, h.2.1, h.2.2.1, h.2.2.2⟩
theorem QfL : Qmj (pg m u1 u2) 49 18 [.cell 2 3, .cell 3 27] (XB 79 3 27) := Qqn (A := Tryz.prog) rfl Tryz.func49 (by kernel_rfl)
theorem Qej : Body (pg m u1 u2) 115 35 [] (ZM 116) := mkB (A := Tryz.prog) rfl Tryz.func115 (by kernel_rfl)
theorem QeY : Qgc (pg m u1 u2) 49 := Qh1 QfL Qgl Qej Qgm (show Xp Tryz.prog 3 = some none by kernel_rfl) (show Xp Tryz.prog 27 = some none by kernel_rfl)
theorem Qel : Body (pg m u1 u2) 86 20 [.tmp 2, .tmp 3] (Xz 130 17) := mkB (A := Tryz.prog) rfl Tryz.func86 (by kernel_rfl)
theorem Qm2 : Go.Am.Enters (pg m u1 u2) 130 := ⟨Tryz.f130, Tryz.func130, by kernel_rfl, by kernel_rfl⟩
theorem QnV : S_Atoi (pg m u1 u2) 130 := k_atoi (P := (pg m u1 u2)) (ρ := Tryz.shLaysCn172_ren) Tryz.shLaysCn172 Qm2 rfl rfl u1.2 u2.2
theorem QmZ : Go.Am.Enters (pg m u1 u2) 17 := ⟨Tryz.f17, Tryz.func17, by kernel_rfl, by kernel_rfl⟩
theorem Qlp : S_Itoa (pg m u1 u2) 17 := k_itoa (P := (pg m u1 u2)) (ρ := Tryz.shLaysMn171_ren) Tryz.shLaysMn171 QmZ rfl
theorem Qal : Qc8 (pg m u1 u2) 86 := QgR Qel QnV Qlp
theorem ZQ : Body (pg m u1 u2) 89 15 [.tmp 4, .tmp 5] (Qt 117) := mkB (A := Tryz.prog) rfl Tryz.func89 (by kernel_rfl)
theorem Qd5 : J9 (pg m u1 u2) 89 := QgD ZQ Qd4
theorem Qa3 : Body (pg m u1 u2) 61 11 [.tmp 4, .tmp 5] (QY 89) := mkB (A := Tryz.prog) rfl Tryz.func61 (by kernel_rfl)
theorem QaT : J9 (pg m u1 u2) 61 := Qb5 Qa3 Qd5
theorem Qbz : Body (pg m u1 u2) 132 8 [.tmp 6] (ZD 173 9 3) := mkB (A := Tryz.prog) rfl Tryz.func132 (by kernel_rfl)
theorem Qaf : Body (pg m u1 u2) 173 52 [] (QV 165 129) := mkB (A := Tryz.prog) rfl Tryz.func173 (by kernel_rfl)
theorem Qg6 : Go.Am.Enters (pg m u1 u2) 129 := ⟨Tryz.f129, Tryz.func129, by kernel_rfl, by kernel_rfl⟩
theorem Qio : S_StrIndex (pg m u1 u2) 129 := k_index (P := (pg m u1 u2)) (ρ := Tryz.shLaysn143_ren) Tryz.shLaysn143 Qg6 rfl
theorem Qbc : Qa8 9 3 32 (pg m u1 u2) 132 := QcN Qbz Qaf Qio
theorem QbA : Body (pg m u1 u2) 88 8 [.tmp 4] (ZE 132) := mkB (A := Tryz.prog) rfl Tryz.func88 (by kernel_rfl)
theorem Qbd : Qcj 9 3 32 (pg m u1 u2) 88 := QcO QbA Qbc
theorem Qp9 {A : Program} {P : Prg} {f N : Nat} {rl : List ResultVar} {ac : RC} {fn : _} (hP : P.prog = A) (h0 : A.funcs[f]? = some fn) (h : (fn.name == "runtime.NumGoroutine", fn.ntmps, fn.results.toList, fn.body.bind (Qla A N)) = (false, N, rl, some ac)) : Qer P f N rl ac := by subst hP; simp only [Prod.mk.injEq] at h; exact ⟨fn, h0, h.1, h.2.1, h.2.2.1, h.2.2.2⟩
theorem QdI : Qer (pg m u1 u2) 60 23 [.cell 2 24, .cell 3 4] (Xd 88 86 24 4 3) := Qp9 (A := Tryz.prog) rfl Tryz.func60 (by kernel_rfl)
theorem Qdc : Qmc (pg m u1 u2) 60 := Qfo QdI Qbd Qal (show Xp Tryz.prog 24 = some none by kernel_rfl) (show Xp Tryz.prog 4 = some none by kernel_rfl)
theorem QfP : Body (pg m u1 u2) 58 54 [.tmp 4, .tmp 5] (ZY 57 86 3) := mkB (A := Tryz.prog) rfl Tryz.func58 (by kernel_rfl)
theorem Qg5 : Go.Am.Enters (pg m u1 u2) 57 := ⟨Tryz.f57, Tryz.func57, by kernel_rfl, by kernel_rfl⟩
theorem hi9 : (Tryz.prog.info? 9).map (fun i => (i.zero, i.size, i.bytes)) = some (some (.string ByteArray.empty), 1, 16) := by kernel_rfl
theorem Qdv : S_SplitS (pg m u1 u2) 57 := k_split (P := (pg m u1 u2)) (ρ := Tryz.shLaysn146_ren) Tryz.shLaysn146 hi9 Qg5 rfl
theorem Qe4 : QiV (pg m u1 u2) 58 := Qik QfP Qdv Qal
theorem QfQ : Body (pg m u1 u2) 14 63 [.tmp 2] (Qm 34 35 31 29) := mkB (A := Tryz.prog) rfl Tryz.func14 (by kernel_rfl)
theorem Qbf : Jv (pg m u1 u2) 14 := Qil QfQ Qde QeZ
theorem Qhy : Body (pg m u1 u2) 30 140 [.cell 2 31, .tmp 3] (Zo 57 58 59 60 61 31 9) := mkB (A := Tryz.prog) rfl Tryz.func30 (by kernel_rfl)
theorem Qj7 : Go.Am.Enters (pg m u1 u2) 59 := ⟨Tryz.f59, Tryz.func59, by kernel_rfl, by kernel_rfl⟩
theorem Qlo : S_StrCut (pg m u1 u2) 59 := k_strcut (P := (pg m u1 u2)) (ρ := Tryz.shLaysn145_ren) Tryz.shLaysn145 Qj7 rfl
theorem Qgr : Qop (pg m u1 u2) 30 := QjX Qhy Qdv Qe4 Qlo Qdc QaT (show Xp Tryz.prog 31 = some (some 11) by kernel_rfl)
theorem QhA : Body (pg m u1 u2) 10 20 [.cell 2 31, .tmp 3] (ZO 30 14 31) := mkB (A := Tryz.prog) rfl Tryz.func10 (by kernel_rfl)
theorem Qgs : QiW (pg m u1 u2) 10 := QjZ QhA Qgr Qbf (show Xp Tryz.prog 31 = some (some 11) by kernel_rfl)
theorem Xc : Body (pg m u1 u2) 16 19 [.tmp 4, .tmp 5] (QE 36 5) := mkB (A := Tryz.prog) rfl Tryz.func16 (by kernel_rfl)

end Go.Proofs.YtpfhdmbamkdnpacGreatDoor.linesOne

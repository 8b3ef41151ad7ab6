/- What the functions that the law reaches return in this program, part 2; no conditions. -/
import Derived.Test.YtpfhdmbamkdnpabGreatDoorLinesBackI1
set_option linter.unusedSectionVars false
set_option linter.unusedSimpArgs false
set_option linter.unusedVariables false
namespace Go.Proofs.YtpfhdmbamkdnpabGreatDoor.linesBack
open Go.Am Go.ChangeShapes Go.WideShapes Go.ChangeAt Go.RowKit

set_option maxRecDepth 100000
variable {m : Int} {u1 u2 : {v : Value // isIf v}}
theorem Qea : XQ (pg m u1 u2) 164 := Qg0 Qep XV
theorem QiR : Body (pg m u1 u2) 165 43 [.tmp 2, .tmp 3] (JY 193 196 197 87 5 284) := mkB (A := Tryz.prog) rfl Tryz.func165 (by kernel_rfl)
theorem QhX : XQ (pg m u1 u2) 165 := Ql3 QiR XV
theorem Qhw : Body (pg m u1 u2) 123 19 [.tmp 2, .tmp 3] (Js 164 165) := mkB (A := Tryz.prog) rfl Tryz.func123 (by kernel_rfl)
theorem Qgo : XQ (pg m u1 u2) 123 := QjF Qhw Qea QhX
theorem Qhv : Body (pg m u1 u2) 84 4 [.tmp 2] (Jr 122 40) := mkB (A := Tryz.prog) rfl Tryz.func84 (by kernel_rfl)
theorem Qgn : QiT 122 (pg m u1 u2) 84 := QjE Qhv
theorem Qqi {A : Program} {P : Prg} {f N : Nat} {rl : List ResultVar} {ac : RC0} {fn : _} (hP : P.prog = A) (h0 : A.funcs[f]? = some fn) (h : (fn.name == "runtime.NumGoroutine", fn.ntmps, fn.results.toList, fn.body.bind (Qez A N)) = (false, N, rl, some ac)) : Qmd P f N rl ac := by subst hP; simp only [Prod.mk.injEq] at h; exact ⟨fn, h0, h.1, h.2.1, h.2.2.1, h.2.2.2⟩
theorem QfL : Qmd (pg m u1 u2) 54 18 [.cell 2 3, .cell 3 27] (XB 84 3 27) := Qqi (A := Tryz.prog) rfl Tryz.func54 (by kernel_rfl)
theorem Qel : Body (pg m u1 u2) 122 35 [] (ZM 123) := mkB (A := Tryz.prog) rfl Tryz.func122 (by kernel_rfl)
theorem QeY : Qgd (pg m u1 u2) 54 := Qh1 QfL Qgn Qel Qgo (show Xp Tryz.prog 3 = some none by kernel_rfl) (show Xp Tryz.prog 27 = some none by kernel_rfl)
theorem Qen : Body (pg m u1 u2) 66 20 [.tmp 2, .tmp 3] (Xz 101 14) := mkB (A := Tryz.prog) rfl Tryz.func66 (by kernel_rfl)
theorem QmW : Go.Am.Enters (pg m u1 u2) 101 := ⟨Tryz.f101, Tryz.func101, by kernel_rfl, by kernel_rfl⟩
theorem QnO : S_Atoi (pg m u1 u2) 101 := k_atoi (P := (pg m u1 u2)) (ρ := Tryz.shLaysCn172_ren) Tryz.shLaysCn172 QmW rfl rfl u1.2 u2.2
theorem QmT : Go.Am.Enters (pg m u1 u2) 14 := ⟨Tryz.f14, Tryz.func14, by kernel_rfl, by kernel_rfl⟩
theorem Qll : S_Itoa (pg m u1 u2) 14 := k_itoa (P := (pg m u1 u2)) (ρ := Tryz.shLaysMn171_ren) Tryz.shLaysMn171 QmT rfl
theorem Qal : Qda (pg m u1 u2) 66 := QgS Qen QnO Qll
theorem ZQ : Body (pg m u1 u2) 69 15 [.tmp 4, .tmp 5] (Qt 104) := mkB (A := Tryz.prog) rfl Tryz.func69 (by kernel_rfl)
theorem Qd8 : J9 (pg m u1 u2) 69 := QgE ZQ Qd7
theorem Qa3 : Body (pg m u1 u2) 42 11 [.tmp 4, .tmp 5] (QY 69) := mkB (A := Tryz.prog) rfl Tryz.func42 (by kernel_rfl)
theorem QaT : J9 (pg m u1 u2) 42 := Qb7 Qa3 Qd8
theorem QbA : Body (pg m u1 u2) 103 8 [.tmp 6] (ZD 149 9 3) := mkB (A := Tryz.prog) rfl Tryz.func103 (by kernel_rfl)
theorem Qaf : Body (pg m u1 u2) 149 52 [] (QV 141 100) := mkB (A := Tryz.prog) rfl Tryz.func149 (by kernel_rfl)
theorem Qg7 : Go.Am.Enters (pg m u1 u2) 100 := ⟨Tryz.f100, Tryz.func100, by kernel_rfl, by kernel_rfl⟩
theorem Qio : S_StrIndex (pg m u1 u2) 100 := k_index (P := (pg m u1 u2)) (ρ := Tryz.shLaysn143_ren) Tryz.shLaysn143 Qg7 rfl
theorem Qbc : Qa8 9 3 32 (pg m u1 u2) 103 := QcP QbA Qaf Qio
theorem QbB : Body (pg m u1 u2) 68 8 [.tmp 4] (ZE 103) := mkB (A := Tryz.prog) rfl Tryz.func68 (by kernel_rfl)
theorem Qbd : Qcl 9 3 32 (pg m u1 u2) 68 := QcQ QbB Qbc
theorem Qp4 {A : Program} {P : Prg} {f N : Nat} {rl : List ResultVar} {ac : RC} {fn : _} (hP : P.prog = A) (h0 : A.funcs[f]? = some fn) (h : (fn.name == "runtime.NumGoroutine", fn.ntmps, fn.results.toList, fn.body.bind (Qk6 A N)) = (false, N, rl, some ac)) : Qet P f N rl ac := by subst hP; simp only [Prod.mk.injEq] at h; exact ⟨fn, h0, h.1, h.2.1, h.2.2.1, h.2.2.2⟩
theorem QdL : Qet (pg m u1 u2) 41 23 [.cell 2 24, .cell 3 4] (Xd 68 66 24 4 3) := Qp4 (A := Tryz.prog) rfl Tryz.func41 (by kernel_rfl)
theorem Qde : Ql6 (pg m u1 u2) 41 := Qfo QdL Qbd Qal (show Xp Tryz.prog 24 = some none by kernel_rfl) (show Xp Tryz.prog 4 = some none by kernel_rfl)
theorem QfP : Body (pg m u1 u2) 39 54 [.tmp 4, .tmp 5] (ZY 38 66 3) := mkB (A := Tryz.prog) rfl Tryz.func39 (by kernel_rfl)
theorem Qg6 : Go.Am.Enters (pg m u1 u2) 38 := ⟨Tryz.f38, Tryz.func38, by kernel_rfl, by kernel_rfl⟩
theorem hi9 : (Tryz.prog.info? 9).map (fun i => (i.zero, i.size, i.bytes)) = some (some (.string ByteArray.empty), 1, 16) := by kernel_rfl
theorem Qdy : S_SplitS (pg m u1 u2) 38 := k_split (P := (pg m u1 u2)) (ρ := Tryz.shLaysn146_ren) Tryz.shLaysn146 hi9 Qg6 rfl
theorem Qe4 : QiV (pg m u1 u2) 39 := Qik QfP Qdy Qal
theorem QfQ : Body (pg m u1 u2) 11 63 [.tmp 2] (Qn 31 32 31 29) := mkB (A := Tryz.prog) rfl Tryz.func11 (by kernel_rfl)
theorem Qbf : Jv (pg m u1 u2) 11 := Qil QfQ Qdg QeZ
theorem Qhz : Body (pg m u1 u2) 19 140 [.cell 2 31, .tmp 3] (Zo 38 39 40 41 42 31 9) := mkB (A := Tryz.prog) rfl Tryz.func19 (by kernel_rfl)
theorem Qj4 : Go.Am.Enters (pg m u1 u2) 40 := ⟨Tryz.f40, Tryz.func40, by kernel_rfl, by kernel_rfl⟩
theorem Qlk : S_StrCut (pg m u1 u2) 40 := k_strcut (P := (pg m u1 u2)) (ρ := Tryz.shLaysn145_ren) Tryz.shLaysn145 Qj4 rfl
theorem Qgt : Qoi (pg m u1 u2) 19 := QjU Qhz Qdy Qe4 Qlk Qde QaT (show Xp Tryz.prog 31 = some (some 11) by kernel_rfl)
theorem QhB : Body (pg m u1 u2) 7 20 [.cell 2 31, .tmp 3] (ZO 19 11 31) := mkB (A := Tryz.prog) rfl Tryz.func7 (by kernel_rfl)
theorem Qcq : Qgc (pg m u1 u2) 7 := QjW QhB Qgt Qbf (show Xp Tryz.prog 31 = some (some 11) by kernel_rfl)
theorem Xc : Body (pg m u1 u2) 13 19 [.tmp 4, .tmp 5] (QD 33 5) := mkB (A := Tryz.prog) rfl Tryz.func13 (by kernel_rfl)

end Go.Proofs.YtpfhdmbamkdnpabGreatDoor.linesBack

/- What the functions that the law reaches return in this program, part 1; no conditions. -/
import Derived.Test.YtpfhdmbamkdnpacGreatDoorRows
import Derived.Test.YtpfhdmbamkdnpacGreatDoorLinesOneY2
set_option linter.unusedSectionVars false
set_option linter.unusedSimpArgs false
set_option linter.unusedVariables false
namespace Go.Proofs.YtpfhdmbamkdnpacGreatDoor.linesOne
open Go.Am Go.ChangeShapes Go.WideShapes Go.ChangeAt Go.RowKit

noncomputable def pg (m : Int) (u1 u2 : {v : Value // isIf v}) : Prg := ⟨Tryz.prog, [(1, powG), (2, [.int .i64 m]), (7, [.lit u1.1]), (8, [.lit u2.1]), (0, [.int .i64 2, .int .i64 2, .int .i64 2, .int .i64 4, .int .i64 4])], fun g cs h => by
  simp only [List.lookup] at h
  repeat (first | (cases h; done) | (split at h; first | (cases h; rfl) | skip))⟩

set_option maxRecDepth 100000
variable {m : Int} {u1 u2 : {v : Value // isIf v}}
theorem mkB {A : Program} {P : Prg} {f N : Nat} {rl : List ResultVar} {ac : AC} {fn : _} (hP : P.prog = A) (h0 : A.funcs[f]? = some fn) (h : (fn.name == "runtime.NumGoroutine", fn.ntmps, fn.results.toList, fn.body.bind (Qb A N)) = (false, N, rl, some ac)) : Body P f N rl ac := by subst hP; simp only [Prod.mk.injEq] at h; exact ⟨fn, h0, h.1, h.2.1, h.2.2.1, h.2.2.2⟩
theorem Qav : Body (pg m u1 u2) 91 14 [.tmp 2, .tmp 3] Q4 := mkB (A := Tryz.prog) rfl Tryz.func91 (by kernel_rfl)
theorem Qam : Qc9 (pg m u1 u2) 91 := QgS Qav
theorem JP : Body (pg m u1 u2) 90 32 [.tmp 4, .tmp 5] (ZC 91) := mkB (A := Tryz.prog) rfl Tryz.func90 (by kernel_rfl)
theorem JH : Qb0 (pg m u1 u2) 90 := Qfp JP Qam
theorem Qcw : Body (pg m u1 u2) 43 8 [.cell 2 94] (Xl 42 94) := mkB (A := Tryz.prog) rfl Tryz.func43 (by kernel_rfl)
theorem Qgt : QbX (pg m u1 u2) 43 := Qkf Qcw (show Xp Tryz.prog 94 = some (some 2) by kernel_rfl)
theorem Qf5 : Body (pg m u1 u2) 82 10 [.tmp 4] XP := mkB (A := Tryz.prog) rfl Tryz.func82 (by kernel_rfl)
theorem Qe7 : Qf7 (pg m u1 u2) 82 := QiE Qf5
theorem X8 : Body (pg m u1 u2) 175 51 [.tmp 4, .tmp 5] Zh := mkB (A := Tryz.prog) rfl Tryz.func175 (by kernel_rfl)
theorem Qgq : Qkx (pg m u1 u2) 175 := QjV X8
theorem JO : Body (pg m u1 u2) 133 30 [.tmp 4, .tmp 5] (ZB 174 175) := mkB (A := Tryz.prog) rfl Tryz.func133 (by kernel_rfl)
theorem QjF : Qkx (pg m u1 u2) 133 := QmN JO Qgq
theorem ZK : Body (pg m u1 u2) 92 48 [.tmp 4] (QH 133 3) := mkB (A := Tryz.prog) rfl Tryz.func92 (by kernel_rfl)
theorem QcJ : QdZ 3 (pg m u1 u2) 92 := Qd9 ZK QjF
theorem ZL : Body (pg m u1 u2) 134 36 [.tmp 2] (QI 176 3) := mkB (A := Tryz.prog) rfl Tryz.func134 (by kernel_rfl)
theorem growI : QeU 3 (pg m u1 u2) 176 := grow_nilI (P := (pg m u1 u2)) (ρ := Tryz.growI_ren) Tryz.growI rfl rfl (show (Tryz.prog.info? 3).map (fun i => (i.zero, i.size, i.bytes)) = some (some (.int .i64 0), 1, 8) by kernel_rfl)
theorem QcK : Qd0 3 (pg m u1 u2) 134 := Qea ZL growI
theorem Jy : Body (pg m u1 u2) 93 9 [.tmp 4] (Zp 134 24) := mkB (A := Tryz.prog) rfl Tryz.func93 (by kernel_rfl)
theorem QcL : Qmf 3 (pg m u1 u2) 93 := Qeb Jy QcK
theorem QbC : Body (pg m u1 u2) 62 39 [.tmp 4, .tmp 5] (ZZ 90 91 92 93 3) := mkB (A := Tryz.prog) rfl Tryz.func62 (by kernel_rfl)
theorem Qbg : QjB 3 (pg m u1 u2) 62 := Qim QbC JH Qam QcJ QcL
theorem Qax : Body (pg m u1 u2) 69 43 [] (Zl 62) := mkB (A := Tryz.prog) rfl Tryz.func69 (by kernel_rfl)
theorem Qe6 : QbY 3 (pg m u1 u2) 69 := QiA Qax Qbg
theorem QhI : Body (pg m u1 u2) 41 4 [.tmp 2] (Jt 69 42) := mkB (A := Tryz.prog) rfl Tryz.func41 (by kernel_rfl)
theorem Qgu : QbZ 69 (pg m u1 u2) 41 := Qkg QhI
theorem QbB : Body (pg m u1 u2) 35 31 [.tmp 2] Zc := mkB (A := Tryz.prog) rfl Tryz.func35 (by kernel_rfl)
theorem QeZ : Jf (pg m u1 u2) 35 := Qh7 QbB
theorem JQ : Body (pg m u1 u2) 75 44 [.tmp 2] (Qr 23) := mkB (A := Tryz.prog) rfl Tryz.func75 (by kernel_rfl)
theorem Qdd : J8 (pg m u1 u2) 75 := Qfv JQ
theorem QbD : Body (pg m u1 u2) 76 25 [.tmp 2] (Zd 90 23) := mkB (A := Tryz.prog) rfl Tryz.func76 (by kernel_rfl)
theorem Qe5 : Qmd (pg m u1 u2) 76 := Qiq QbD JH
theorem Qaw : Body (pg m u1 u2) 44 11 [.tmp 2] (Q5 75 76 23) := mkB (A := Tryz.prog) rfl Tryz.func44 (by kernel_rfl)
theorem Qd8 : Jg (pg m u1 u2) 44 := Qg1 Qaw Qdd Qe5
theorem Qa7 : Body (pg m u1 u2) 33 7 [.tmp 2] Q1 := mkB (A := Tryz.prog) rfl Tryz.func33 (by kernel_rfl)
theorem Qgp : Qga (pg m u1 u2) 33 := QjT Qa7
theorem Qai : Body (pg m u1 u2) 13 22 [.tmp 4] (Zm 33 3) := mkB (A := Tryz.prog) rfl Tryz.func13 (by kernel_rfl)
theorem Qbe : QbW (pg m u1 u2) 13 := Qif Qai Qgp
theorem JR : Body (pg m u1 u2) 34 17 [.tmp 2, .tmp 3] (Zb 44 62 23) := mkB (A := Tryz.prog) rfl Tryz.func34 (by kernel_rfl)
theorem Qde : Qck (pg m u1 u2) 34 := Qfw JR Qd8 Qbg
theorem QW : Body (pg m u1 u2) 117 18 [.tmp 4] Qj := mkB (A := Tryz.prog) rfl Tryz.func117 (by kernel_rfl)
theorem Qd4 : Qmb (pg m u1 u2) 117 := QgC QW
theorem Qci : Body (pg m u1 u2) 185 18 [.tmp 4] (Zi 82) := mkB (A := Tryz.prog) rfl Tryz.func185 (by kernel_rfl)
theorem XV : QjA (pg m u1 u2) 185 := QdF Qci Qe7
theorem Qen : Body (pg m u1 u2) 154 78 [.tmp 2, .tmp 3] (XA 185 186 187 82 5) := mkB (A := Tryz.prog) rfl Tryz.func154 (by kernel_rfl)

end Go.Proofs.YtpfhdmbamkdnpacGreatDoor.linesOne

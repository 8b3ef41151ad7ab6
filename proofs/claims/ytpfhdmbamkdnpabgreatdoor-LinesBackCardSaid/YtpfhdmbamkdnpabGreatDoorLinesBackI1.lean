/- What the functions that the law reaches return in this program, part 1; no conditions. -/
import Derived.Test.YtpfhdmbamkdnpabGreatDoorRows
import Derived.Test.YtpfhdmbamkdnpabGreatDoorLinesBackY2
set_option linter.unusedSectionVars false
set_option linter.unusedSimpArgs false
set_option linter.unusedVariables false
namespace Go.Proofs.YtpfhdmbamkdnpabGreatDoor.linesBack
open Go.Am Go.ChangeShapes Go.WideShapes Go.ChangeAt Go.RowKit

noncomputable def pg (m : Int) (u1 u2 : {v : Value // isIf v}) : Prg := ⟨Tryz.prog, [(1, powG), (2, [.int .i64 m]), (7, [.lit u1.1]), (8, [.lit u2.1]), (0, [.int .i64 2, .int .i64 2, .int .i64 2, .int .i64 4, .int .i64 4])], fun g cs h => by
  simp only [List.lookup] at h
  repeat (first | (cases h; done) | (split at h; first | (cases h; rfl) | skip))⟩

set_option maxRecDepth 100000
variable {m : Int} {u1 u2 : {v : Value // isIf v}}
theorem mkB {A : Program} {P : Prg} {f N : Nat} {rl : List ResultVar} {ac : AC} {fn : _} (hP : P.prog = A) (h0 : A.funcs[f]? = some fn) (h : (fn.name == "runtime.NumGoroutine", fn.ntmps, fn.results.toList, fn.body.bind (Qb A N)) = (false, N, rl, some ac)) : Body P f N rl ac := by subst hP; simp only [Prod.mk.injEq] at h; exact ⟨fn, h0, h.1, h.2.1, h.2.2.1, h.2.2.2⟩
theorem Qav : Body (pg m u1 u2) 91 14 [.tmp 2, .tmp 3] Q4 := mkB (A := Tryz.prog) rfl Tryz.func91 (by kernel_rfl)
theorem Qam : Qdb (pg m u1 u2) 91 := QgT Qav
theorem JQ : Body (pg m u1 u2) 90 32 [.tmp 4, .tmp 5] (ZB 91) := mkB (A := Tryz.prog) rfl Tryz.func90 (by kernel_rfl)
theorem JH : Qb1 (pg m u1 u2) 90 := Qfp JQ Qam
theorem Qcz : Body (pg m u1 u2) 48 8 [.cell 2 104] (Xl 45 104) := mkB (A := Tryz.prog) rfl Tryz.func48 (by kernel_rfl)
theorem Qgu : QbY (pg m u1 u2) 48 := Qkb Qcz (show Xp Tryz.prog 104 = some (some 2) by kernel_rfl)
theorem Qf5 : Body (pg m u1 u2) 87 10 [.tmp 4] XP := mkB (A := Tryz.prog) rfl Tryz.func87 (by kernel_rfl)
theorem Qe7 : Qf7 (pg m u1 u2) 87 := QiE Qf5
theorem X8 : Body (pg m u1 u2) 175 51 [.tmp 4, .tmp 5] Zg := mkB (A := Tryz.prog) rfl Tryz.func175 (by kernel_rfl)
theorem Qgs : Qku (pg m u1 u2) 175 := QjS X8
theorem JP : Body (pg m u1 u2) 133 30 [.tmp 4, .tmp 5] (ZA 174 175) := mkB (A := Tryz.prog) rfl Tryz.func133 (by kernel_rfl)
theorem QjC : Qku (pg m u1 u2) 133 := QmG JP Qgs
theorem ZK : Body (pg m u1 u2) 92 48 [.tmp 4] (QG 133 3) := mkB (A := Tryz.prog) rfl Tryz.func92 (by kernel_rfl)
theorem QcM : Qd2 3 (pg m u1 u2) 92 := Qec ZK QjC
theorem ZL : Body (pg m u1 u2) 134 36 [.tmp 2] (QH 176 3) := mkB (A := Tryz.prog) rfl Tryz.func134 (by kernel_rfl)
theorem growI : QeU 3 (pg m u1 u2) 176 := grow_nilI (P := (pg m u1 u2)) (ρ := Tryz.growI_ren) Tryz.growI rfl rfl (show (Tryz.prog.info? 3).map (fun i => (i.zero, i.size, i.bytes)) = some (some (.int .i64 0), 1, 8) by kernel_rfl)
theorem QcN : Qd3 3 (pg m u1 u2) 134 := Qed ZL growI
theorem Jy : Body (pg m u1 u2) 93 9 [.tmp 4] (Zp 134 24) := mkB (A := Tryz.prog) rfl Tryz.func93 (by kernel_rfl)
theorem QcO : Ql9 3 (pg m u1 u2) 93 := Qee Jy QcN
theorem QbD : Body (pg m u1 u2) 62 39 [.tmp 4, .tmp 5] (ZZ 90 91 92 93 3) := mkB (A := Tryz.prog) rfl Tryz.func62 (by kernel_rfl)
theorem Qbg : Qjy 3 (pg m u1 u2) 62 := Qim QbD JH Qam QcM QcO
theorem Qax : Body (pg m u1 u2) 74 43 [] (Zl 62) := mkB (A := Tryz.prog) rfl Tryz.func74 (by kernel_rfl)
theorem Qe6 : QbZ 3 (pg m u1 u2) 74 := QiA Qax Qbg
theorem QhJ : Body (pg m u1 u2) 46 4 [.tmp 2] (Jt 74 45) := mkB (A := Tryz.prog) rfl Tryz.func46 (by kernel_rfl)
theorem Qgv : Qb0 74 (pg m u1 u2) 46 := Qkc QhJ
theorem QbC : Body (pg m u1 u2) 32 31 [.tmp 2] Zc := mkB (A := Tryz.prog) rfl Tryz.func32 (by kernel_rfl)
theorem QeZ : Jg (pg m u1 u2) 32 := Qh7 QbC
theorem JR : Body (pg m u1 u2) 80 44 [.tmp 2] (Qr 23) := mkB (A := Tryz.prog) rfl Tryz.func80 (by kernel_rfl)
theorem Qdf : J8 (pg m u1 u2) 80 := Qfv JR
theorem QbE : Body (pg m u1 u2) 81 25 [.tmp 2] (Zd 90 23) := mkB (A := Tryz.prog) rfl Tryz.func81 (by kernel_rfl)
theorem Qe5 : Ql7 (pg m u1 u2) 81 := Qiq QbE JH
theorem Qaw : Body (pg m u1 u2) 49 11 [.tmp 2] (Q5 80 81 23) := mkB (A := Tryz.prog) rfl Tryz.func49 (by kernel_rfl)
theorem Qeb : Jh (pg m u1 u2) 49 := Qg2 Qaw Qdf Qe5
theorem Qa7 : Body (pg m u1 u2) 37 7 [.tmp 2] Q1 := mkB (A := Tryz.prog) rfl Tryz.func37 (by kernel_rfl)
theorem Qgr : Qga (pg m u1 u2) 37 := QjQ Qa7
theorem Qai : Body (pg m u1 u2) 18 22 [.tmp 4] (Zm 37 3) := mkB (A := Tryz.prog) rfl Tryz.func18 (by kernel_rfl)
theorem Qbe : QbX (pg m u1 u2) 18 := Qif Qai Qgr
theorem JS : Body (pg m u1 u2) 31 17 [.tmp 2, .tmp 3] (Zb 49 62 23) := mkB (A := Tryz.prog) rfl Tryz.func31 (by kernel_rfl)
theorem Qdg : Qcm (pg m u1 u2) 31 := Qfw JS Qeb Qbg
theorem QW : Body (pg m u1 u2) 104 18 [.tmp 4] Qk := mkB (A := Tryz.prog) rfl Tryz.func104 (by kernel_rfl)
theorem Qd7 : Ql5 (pg m u1 u2) 104 := QgD QW
theorem Qck : Body (pg m u1 u2) 193 18 [.tmp 4] (Zh 87) := mkB (A := Tryz.prog) rfl Tryz.func193 (by kernel_rfl)
theorem XV : Qjx (pg m u1 u2) 193 := QdI Qck Qe7
theorem Qep : Body (pg m u1 u2) 164 78 [.tmp 2, .tmp 3] (XA 193 194 195 87 5) := mkB (A := Tryz.prog) rfl Tryz.func164 (by kernel_rfl)

end Go.Proofs.YtpfhdmbamkdnpabGreatDoor.linesBack

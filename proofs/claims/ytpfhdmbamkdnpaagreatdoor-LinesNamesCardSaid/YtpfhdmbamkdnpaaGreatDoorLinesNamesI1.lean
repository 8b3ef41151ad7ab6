/- What the functions that the law reaches return in this program, part 1; no conditions. -/
import Derived.Test.YtpfhdmbamkdnpaaGreatDoorRows
import Derived.Test.YtpfhdmbamkdnpaaGreatDoorLinesNamesY2
set_option linter.unusedSectionVars false
set_option linter.unusedSimpArgs false
set_option linter.unusedVariables false
namespace Go.Proofs.YtpfhdmbamkdnpaaGreatDoor.linesNames
open Go.Am Go.ChangeShapes Go.WideShapes Go.ChangeAt Go.RowKit

noncomputable def pg (m : Int) (u1 u2 : {v : Value // isIf v}) : Prg := ⟨Tryz.prog, [(2, powG), (1, [.int .i64 m]), (5, [.lit u1.1]), (6, [.lit u2.1]), (0, [.int .i64 2, .int .i64 2, .int .i64 2, .int .i64 4, .int .i64 4])], fun g cs h => by
  simp only [List.lookup] at h
  repeat (first | (cases h; done) | (split at h; first | (cases h; rfl) | skip))⟩

set_option maxRecDepth 100000
variable {m : Int} {u1 u2 : {v : Value // isIf v}}
theorem mkB {A : Program} {P : Prg} {f N : Nat} {rl : List ResultVar} {ac : AC} {fn : _} (hP : P.prog = A) (h0 : A.funcs[f]? = some fn) (h : (fn.name == "runtime.NumGoroutine", fn.ntmps, fn.results.toList, fn.body.bind (Qb A N)) = (false, N, rl, some ac)) : Body P f N rl ac := by subst hP; simp only [Prod.mk.injEq] at h; exact ⟨fn, h0, h.1, h.2.1, h.2.2.1, h.2.2.2⟩
theorem Qam : Body (pg m u1 u2) 80 14 [.tmp 2, .tmp 3] QW := mkB (A := Tryz.prog) rfl Tryz.func80 (by kernel_rfl)
theorem Qae : QcX (pg m u1 u2) 80 := Qgs Qam
theorem JM : Body (pg m u1 u2) 79 32 [.tmp 4, .tmp 5] (Zs 80) := mkB (A := Tryz.prog) rfl Tryz.func79 (by kernel_rfl)
theorem JD : QbN (pg m u1 u2) 79 := Qe8 JM Qae
theorem Qck : Body (pg m u1 u2) 68 8 [.cell 2 138] (Xd 65 138) := mkB (A := Tryz.prog) rfl Tryz.func68 (by kernel_rfl)
theorem Qf6 : QbJ (pg m u1 u2) 68 := QjF Qck (show Z2 Tryz.prog 138 = some (some 2) by kernel_rfl)
theorem QfN : Body (pg m u1 u2) 61 10 [.tmp 4] XG := mkB (A := Tryz.prog) rfl Tryz.func61 (by kernel_rfl)
theorem QeS : QfP (pg m u1 u2) 61 := Qie QfN
theorem XZ : Body (pg m u1 u2) 163 51 [.tmp 4, .tmp 5] Q9 := mkB (A := Tryz.prog) rfl Tryz.func163 (by kernel_rfl)
theorem Qf4 : QjW (pg m u1 u2) 163 := Qjo XZ
theorem JL : Body (pg m u1 u2) 120 30 [.tmp 4, .tmp 5] (Zr 162 163) := mkB (A := Tryz.prog) rfl Tryz.func120 (by kernel_rfl)
theorem Qi8 : QjW (pg m u1 u2) 120 := Qmd JL Qf4
theorem ZC : Body (pg m u1 u2) 81 48 [.tmp 4] (QA 120 3) := mkB (A := Tryz.prog) rfl Tryz.func81 (by kernel_rfl)
theorem Qcx : QdN 3 (pg m u1 u2) 81 := QdX ZC Qi8
theorem ZD : Body (pg m u1 u2) 121 36 [.tmp 2] (QB 164 3) := mkB (A := Tryz.prog) rfl Tryz.func121 (by kernel_rfl)
theorem growI : QeJ 3 (pg m u1 u2) 164 := grow_nilI (P := (pg m u1 u2)) (ρ := Tryz.growI_ren) Tryz.growI rfl rfl (show (Tryz.prog.info? 3).map (fun i => (i.zero, i.size, i.bytes)) = some (some (.int .i64 0), 1, 8) by kernel_rfl)
theorem Qcy : QdP 3 (pg m u1 u2) 121 := QdY ZD growI
theorem Js : Body (pg m u1 u2) 82 9 [.tmp 4] (Zh 121 24) := mkB (A := Tryz.prog) rfl Tryz.func82 (by kernel_rfl)
theorem Qcz : QlG 3 (pg m u1 u2) 82 := QdZ Js Qcy
theorem Qbo : Body (pg m u1 u2) 52 39 [.tmp 4, .tmp 5] (ZT 79 80 81 82 3) := mkB (A := Tryz.prog) rfl Tryz.func52 (by kernel_rfl)
theorem Qa0 : Qi5 3 (pg m u1 u2) 52 := QhU Qbo JD Qae Qcx Qcz
theorem Qao : Body (pg m u1 u2) 103 43 [] (Ze 52) := mkB (A := Tryz.prog) rfl Tryz.func103 (by kernel_rfl)
theorem QeR : QbK 3 (pg m u1 u2) 103 := Qia Qao Qa0
theorem Qhl : Body (pg m u1 u2) 66 4 [.tmp 2] (Jo 103 65) := mkB (A := Tryz.prog) rfl Tryz.func66 (by kernel_rfl)
theorem Qf7 : QbL 103 (pg m u1 u2) 66 := QjG Qhl
theorem Qbn : Body (pg m u1 u2) 26 31 [.tmp 2] Q6 := mkB (A := Tryz.prog) rfl Tryz.func26 (by kernel_rfl)
theorem QeN : QdM (pg m u1 u2) 26 := QhH Qbn
theorem JN : Body (pg m u1 u2) 59 44 [.tmp 2] (Qp 23) := mkB (A := Tryz.prog) rfl Tryz.func59 (by kernel_rfl)
theorem Qc2 : QfQ (pg m u1 u2) 59 := Qfd JN
theorem Qbp : Body (pg m u1 u2) 60 25 [.tmp 2] (Q7 79 23) := mkB (A := Tryz.prog) rfl Tryz.func60 (by kernel_rfl)
theorem QeQ : QlE (pg m u1 u2) 60 := QhZ Qbp JD
theorem Qan : Body (pg m u1 u2) 51 11 [.tmp 2] (QX 59 60 23) := mkB (A := Tryz.prog) rfl Tryz.func51 (by kernel_rfl)
theorem QdW : QdO (pg m u1 u2) 51 := QgD Qan Qc2 QeQ
theorem JO : Body (pg m u1 u2) 25 17 [.tmp 2, .tmp 3] (Q4 51 52 23) := mkB (A := Tryz.prog) rfl Tryz.func25 (by kernel_rfl)
theorem Qc3 : Qb8 (pg m u1 u2) 25 := Qfe JO QdW Qa0
theorem QO : Body (pg m u1 u2) 78 18 [.tmp 4] Qk := mkB (A := Tryz.prog) rfl Tryz.func78 (by kernel_rfl)
theorem QdT : QlB (pg m u1 u2) 78 := Qge QO
theorem Qb6 : Body (pg m u1 u2) 167 18 [.tmp 4] (Za 61) := mkB (A := Tryz.prog) rfl Tryz.func167 (by kernel_rfl)
theorem XO : Qi4 (pg m u1 u2) 167 := Qdt Qb6 QeS
theorem Qea : Body (pg m u1 u2) 127 78 [.tmp 2, .tmp 3] (Xq 167 168 169 61 5) := mkB (A := Tryz.prog) rfl Tryz.func127 (by kernel_rfl)
theorem QdV : XH (pg m u1 u2) 127 := QgB Qea XO
theorem Qir : Body (pg m u1 u2) 128 43 [.tmp 2, .tmp 3] (JT 167 170 171 61 5 256) := mkB (A := Tryz.prog) rfl Tryz.func128 (by kernel_rfl)
theorem Qhx : XH (pg m u1 u2) 128 := Qlz Qir XO
theorem Qg8 : Body (pg m u1 u2) 88 19 [.tmp 2, .tmp 3] (Jm 127 128) := mkB (A := Tryz.prog) rfl Tryz.func88 (by kernel_rfl)

end Go.Proofs.YtpfhdmbamkdnpaaGreatDoor.linesNames

/- What the functions that the law reaches return in this program, part 1; no conditions. -/
import Derived.Test.YtnkkbheggkaopaaDoorRows
import Derived.Test.YtnkkbheggkaopaaDoorLinesReadsY2
set_option linter.unusedSectionVars false
set_option linter.unusedSimpArgs false
set_option linter.unusedVariables false
namespace Go.Proofs.YtnkkbheggkaopaaDoor.linesReads
open Go.Am Go.ChangeShapes Go.WideShapes Go.ChangeAt Go.RowKit

noncomputable def pg (m : Int) (u1 u2 : {v : Value // isIf v}) : Prg := ⟨Tryd.prog, [(0, powG), (1, [.int .i64 m]), (6, [.lit u1.1]), (7, [.lit u2.1])], fun g cs h => by
  simp only [List.lookup] at h
  repeat (first | (cases h; done) | (split at h; first | (cases h; rfl) | skip))⟩

set_option maxRecDepth 100000
variable {m : Int} {u1 u2 : {v : Value // isIf v}}
theorem mkB {A : Program} {P : Prg} {f N : Nat} {rl : List ResultVar} {ac : AC} {fn : _} (hP : P.prog = A) (h0 : A.funcs[f]? = some fn) (h : (fn.name == "runtime.NumGoroutine", fn.ntmps, fn.results.toList, fn.body.bind (Qc A N)) = (false, N, rl, some ac)) : Body P f N rl ac := by subst hP; simp only [Prod.mk.injEq] at h; exact ⟨fn, h0, h.1, h.2.1, h.2.2.1, h.2.2.2⟩
theorem QbV : Body (pg m u1 u2) 48 14 [.tmp 2, .tmp 3] Zb := mkB (A := Tryd.prog) rfl Tryd.func48 (by kernel_rfl)
theorem Jo : QaY (pg m u1 u2) 48 := QdJ QbV
theorem Qbw : Body (pg m u1 u2) 47 32 [.tmp 4, .tmp 5] (ZV 48) := mkB (A := Tryd.prog) rfl Tryd.func47 (by kernel_rfl)
theorem XQ : Qag (pg m u1 u2) 47 := QcD Qbw Jo
theorem Qav : Body (pg m u1 u2) 80 51 [.tmp 4, .tmp 5] Zz := mkB (A := Tryd.prog) rfl Tryd.func80 (by kernel_rfl)
theorem Qdi : Qga (pg m u1 u2) 80 := QfO Qav
theorem Qbu : Body (pg m u1 u2) 62 30 [.tmp 4, .tmp 5] (ZT 79 80) := mkB (A := Tryd.prog) rfl Tryd.func62 (by kernel_rfl)
theorem QfA : Qga (pg m u1 u2) 62 := Qh5 Qbu Qdi
theorem XF : Body (pg m u1 u2) 49 48 [.tmp 4] (QX 62 3) := mkB (A := Tryd.prog) rfl Tryd.func49 (by kernel_rfl)
theorem QaF : QbB 3 (pg m u1 u2) 49 := QbK XF QfA
theorem XG : Body (pg m u1 u2) 63 36 [.tmp 2] (QY 81 3) := mkB (A := Tryd.prog) rfl Tryd.func63 (by kernel_rfl)
theorem growI : Qce 3 (pg m u1 u2) 81 := grow_nilI (P := (pg m u1 u2)) (ρ := Tryd.growI_ren) Tryd.growI rfl rfl (show (Tryd.prog.info? 3).map (fun i => (i.zero, i.size, i.bytes)) = some (some (.int .i64 0), 1, 8) by kernel_rfl)
theorem QaG : QbC 3 (pg m u1 u2) 63 := QbL XG growI
theorem QaQ : Body (pg m u1 u2) 50 9 [.tmp 4] (ZK 63 24) := mkB (A := Tryd.prog) rfl Tryd.func50 (by kernel_rfl)
theorem QaH : QhE 3 (pg m u1 u2) 50 := QbM QaQ QaG
theorem QcW : Body (pg m u1 u2) 33 39 [.tmp 4, .tmp 5] (Xj 47 48 49 50 3) := mkB (A := Tryd.prog) rfl Tryd.func33 (by kernel_rfl)
theorem Qck : QhG 3 (pg m u1 u2) 33 := QeA QcW XQ Jo QaF QaH
theorem QcT : Body (pg m u1 u2) 19 31 [.tmp 2] Zl := mkB (A := Tryd.prog) rfl Tryd.func19 (by kernel_rfl)
theorem Qcf : Xq (pg m u1 u2) 19 := Qej QcT
theorem Qbx : Body (pg m u1 u2) 45 44 [.tmp 2] (Qr 23) := mkB (A := Tryd.prog) rfl Tryd.func45 (by kernel_rfl)
theorem Qa3 : Je (pg m u1 u2) 45 := QcI Qbx
theorem QcX : Body (pg m u1 u2) 46 25 [.tmp 2] (Zm 47 23) := mkB (A := Tryd.prog) rfl Tryd.func46 (by kernel_rfl)
theorem Qcl : QhC (pg m u1 u2) 46 := QeE QcX XQ
theorem QbW : Body (pg m u1 u2) 32 11 [.tmp 2] (Zc 45 46 23) := mkB (A := Tryd.prog) rfl Tryd.func32 (by kernel_rfl)
theorem QbI : Xr (pg m u1 u2) 32 := QdP QbW Qa3 Qcl
theorem JL : Body (pg m u1 u2) 36 7 [.tmp 2] QV := mkB (A := Tryd.prog) rfl Tryd.func36 (by kernel_rfl)
theorem Qdh : Qc4 (pg m u1 u2) 36 := QfN JL
theorem Jl : Body (pg m u1 u2) 22 22 [.tmp 4] (Zd 36 3) := mkB (A := Tryd.prog) rfl Tryd.func22 (by kernel_rfl)
theorem JS : Qaf (pg m u1 u2) 22 := Qeu Jl Qdh
theorem Qby : Body (pg m u1 u2) 18 17 [.tmp 2, .tmp 3] (Zp 32 33 23) := mkB (A := Tryd.prog) rfl Tryd.func18 (by kernel_rfl)
theorem Qa4 : Qax (pg m u1 u2) 18 := QcJ Qby QbI Qck
theorem ZE : Body (pg m u1 u2) 61 18 [.tmp 4] Qp := mkB (A := Tryd.prog) rfl Tryd.func61 (by kernel_rfl)
theorem QbE : QhA (pg m u1 u2) 61 := Qds ZE
theorem QbT : Body (pg m u1 u2) 41 20 [.tmp 2, .tmp 3] (Z4 58 13) := mkB (A := Tryd.prog) rfl Tryd.func41 (by kernel_rfl)
theorem Qih : Go.Am.Enters (pg m u1 u2) 58 := ⟨Tryd.f58, Tryd.func58, by kernel_rfl, by kernel_rfl⟩
theorem Qi0 : S_Atoi (pg m u1 u2) 58 := k_atoi (P := (pg m u1 u2)) (ρ := Tryd.shLaysCn172_ren) Tryd.shLaysCn172 Qih rfl rfl u1.2 u2.2
theorem Qie : Go.Am.Enters (pg m u1 u2) 13 := ⟨Tryd.f13, Tryd.func13, by kernel_rfl, by kernel_rfl⟩
theorem Qg7 : S_Itoa (pg m u1 u2) 13 := k_itoa (P := (pg m u1 u2)) (ρ := Tryd.shLaysMn171_ren) Tryd.shLaysMn171 Qie rfl
theorem Jn : QaX (pg m u1 u2) 41 := QdI QbT Qi0 Qg7
theorem ZF : Body (pg m u1 u2) 44 15 [.tmp 4, .tmp 5] (Qq 61) := mkB (A := Tryd.prog) rfl Tryd.func44 (by kernel_rfl)
theorem QbF : Jf (pg m u1 u2) 44 := Qdt ZF QbE
theorem JF : Body (pg m u1 u2) 31 11 [.tmp 4, .tmp 5] (QR 44) := mkB (A := Tryd.prog) rfl Tryd.func31 (by kernel_rfl)
theorem Jv : Jf (pg m u1 u2) 31 := Qaj JF QbF
theorem Qab : Body (pg m u1 u2) 60 8 [.tmp 6] (Zq 78 9 3) := mkB (A := Tryd.prog) rfl Tryd.func60 (by kernel_rfl)

end Go.Proofs.YtnkkbheggkaopaaDoor.linesReads

/- What the functions that the law reaches return in this program, part 5; no conditions. -/
import Derived.Test.YthckgihcbjpjeabGreatDoorLinesFilesI4
set_option linter.unusedSectionVars false
set_option linter.unusedSimpArgs false
set_option linter.unusedVariables false
namespace Go.Proofs.YthckgihcbjpjeabGreatDoor.linesFiles
open Go.Am Go.ChangeShapes Go.WideShapes Go.ChangeAt Go.RowKit

set_option maxRecDepth 100000
variable {m : Int} {u1 u2 : {v : Value // isIf v}}
theorem Qej : Body (pg m u1 u2) 87 8 [.tmp 4] (XO 123) := mkB (A := Tryz.prog) rfl Tryz.func87 (by kernel_rfl)
theorem Qdy : Qfa 9 3 32 (pg m u1 u2) 87 := QfY Qej Qdx
theorem QBe {A : Program} {P : Prg} {f N : Nat} {rl : List ResultVar} {ac : RC} {fn : _} (hP : P.prog = A) (h0 : A.funcs[f]? = some fn) (h : (fn.name == "runtime.NumGoroutine", fn.ntmps, fn.results.toList, fn.body.bind (Qsv A N)) = (false, N, rl, some ac)) : QiB P f N rl ac := by subst hP; simp only [Prod.mk.injEq] at h; exact ⟨fn, h0, h.1, h.2.1, h.2.2.1, h.2.2.2⟩
theorem Qhx : QiB (pg m u1 u2) 55 23 [.cell 2 27, .cell 3 4] (J0 87 85 27 4 3) := QBe (A := Tryz.prog) rfl Tryz.func55 (by kernel_rfl)
theorem QgI : Quh (pg m u1 u2) 55 := QjT Qhx Qdy QcO (show Zq Tryz.prog 27 = some none by kernel_rfl) (show Zq Tryz.prog 4 = some none by kernel_rfl)
theorem Qkm : Body (pg m u1 u2) 53 54 [.tmp 4, .tmp 5] (JB 52 85 3) := mkB (A := Tryz.prog) rfl Tryz.func53 (by kernel_rfl)
theorem Qme : Go.Am.Enters (pg m u1 u2) 52 := ⟨Tryz.f52, Tryz.func52, by kernel_rfl, by kernel_rfl⟩
theorem hi9 : (Tryz.prog.info? 9).map (fun i => (i.zero, i.size, i.bytes)) = some (some (.string ByteArray.empty), 1, 16) := by kernel_rfl
theorem Qg8 : S_SplitS (pg m u1 u2) 52 := k_split (P := (pg m u1 u2)) (ρ := Tryz.shLaysn146_ren) Tryz.shLaysn146 hi9 Qme rfl
theorem Qjo : QoN (pg m u1 u2) 53 := QnP Qkm Qg8 QcO
theorem Qkn : Body (pg m u1 u2) 13 63 [.tmp 2] (QA 18 30 34 32) := mkB (A := Tryz.prog) rfl Tryz.func13 (by kernel_rfl)
theorem Qbk : QeI (pg m u1 u2) 13 := QnQ Qkn Z8 Qbj
theorem QmH : Body (pg m u1 u2) 28 140 [.cell 2 34, .tmp 3] (Xr 52 53 54 55 56 34 9) := mkB (A := Tryz.prog) rfl Tryz.func28 (by kernel_rfl)
theorem QqJ : Go.Am.Enters (pg m u1 u2) 54 := ⟨Tryz.f54, Tryz.func54, by kernel_rfl, by kernel_rfl⟩
theorem Qs3 : S_StrCut (pg m u1 u2) 54 := k_strcut (P := (pg m u1 u2)) (ρ := Tryz.shLaysn145_ren) Tryz.shLaysn145 QqJ rfl
theorem Qlj : QyK (pg m u1 u2) 28 := Qqw QmH Qg8 Qjo Qs3 QgI Qda (show Zq Tryz.prog 34 = some (some 11) by kernel_rfl)
theorem QmJ : Body (pg m u1 u2) 11 20 [.cell 2 34, .tmp 3] (X7 28 13 34) := mkB (A := Tryz.prog) rfl Tryz.func11 (by kernel_rfl)
theorem Qfj : QkM (pg m u1 u2) 11 := Qqy QmJ Qlj Qbk (show Zq Tryz.prog 34 = some (some 11) by kernel_rfl)
theorem JY : Body (pg m u1 u2) 25 19 [.tmp 4, .tmp 5] (Q2 50 5) := mkB (A := Tryz.prog) rfl Tryz.func25 (by kernel_rfl)
theorem Qv0 : Go.Am.Enters (pg m u1 u2) 50 := ⟨Tryz.f50, Tryz.func50, by kernel_rfl, by kernel_rfl⟩
theorem QxQ : Qul 68 (pg m u1 u2) 50 := Qzy (P := (pg m u1 u2)) copy_new copy_old Qv0
theorem Qa2 : QpM 68 5 (pg m u1 u2) 25 := Qhp JY QxQ
theorem Qiu : Body (pg m u1 u2) 24 20 [] (X6 25 26) := mkB (A := Tryz.prog) rfl Tryz.func24 (by kernel_rfl)
theorem Qnd : QyI 68 5 3 (pg m u1 u2) 24 := QsX Qiu Qa2 Qs4
theorem QmI : Body (pg m u1 u2) 10 70 [.tmp 2, .tmp 3] (Qad 13 24 25 27 34 26 32 68 3) := mkB (A := Tryz.prog) rfl Tryz.func10 (by kernel_rfl)
theorem Qv1 : Go.Am.Enters (pg m u1 u2) 27 := ⟨Tryz.f27, Tryz.func27, by kernel_rfl, by kernel_rfl⟩
theorem QxR : Quo 68 5 (pg m u1 u2) 27 := Qzz (P := (pg m u1 u2)) (ρ := Tryz.shLaysn169_ren) Tryz.shLaysn169 Tryz.shLaysn169X Qv1
theorem Qfi : QkL (pg m u1 u2) 10 := Qqx QmI Qbk Qnd Qa2 QxR
theorem QbB : Body (pg m u1 u2) 29 26 [.tmp 4] QR := mkB (A := Tryz.prog) rfl Tryz.func29 (by kernel_rfl)
theorem Qjn : QoL (pg m u1 u2) 29 := QnF QbB
theorem Qdn : Body (pg m u1 u2) 12 24 [.tmp 4] (QU 29 29) := mkB (A := Tryz.prog) rfl Tryz.func12 (by kernel_rfl)
theorem Qfh : Qgy (pg m u1 u2) 12 := Qqn Qdn Qjn
theorem Qdm : Body (pg m u1 u2) 9 17 [.tmp 4] (ZD 12 34) := mkB (A := Tryz.prog) rfl Tryz.func9 (by kernel_rfl)
theorem Qfg : Qgx (pg m u1 u2) 9 := Qqm Qdm Qfh
theorem Qhy : Body (pg m u1 u2) 140 25 [.tmp 2, .tmp 3] XG := mkB (A := Tryz.prog) rfl Tryz.func140 (by kernel_rfl)
theorem QgJ : Quj (pg m u1 u2) 140 := Qj0 Qhy
theorem Qiv : Body (pg m u1 u2) 100 78 [.tmp 2, .tmp 3] (Xg 139 140 141 45 5) := mkB (A := Tryz.prog) rfl Tryz.func100 (by kernel_rfl)
theorem Qf7 : Body (pg m u1 u2) 141 16 [.tmp 2] QO := mkB (A := Tryz.prog) rfl Tryz.func141 (by kernel_rfl)
theorem QgK : QkN (pg m u1 u2) 100 := Qj1 Qiv Jm QgJ Qf7 Xl
theorem Qt6 : Body (pg m u1 u2) 143 36 [.tmp 6] (Qe9 62 5 94) := mkB (A := Tryz.prog) rfl Tryz.func143 (by kernel_rfl)
theorem QgO : QeM (pg m u1 u2) 143 := Qyz Qt6 QiG
theorem Qov : Body (pg m u1 u2) 142 47 [.cell 4 232, .tmp 5] (XU 41 143 45 232) := mkB (A := Tryz.prog) rfl Tryz.func142 (by kernel_rfl)
theorem QgN : QkD (pg m u1 u2) 142 := Quc Qov Qne QgO Xl (show Zq Tryz.prog 232 = some (some 2) by kernel_rfl)
theorem Qow : Body (pg m u1 u2) 101 43 [.tmp 2, .tmp 3] (ZO 139 142 143 45 5 232) := mkB (A := Tryz.prog) rfl Tryz.func101 (by kernel_rfl)
theorem Qls : QhU (pg m u1 u2) 101 := Qrd Qow Jm QgN QgO Xl

end Go.Proofs.YthckgihcbjpjeabGreatDoor.linesFiles

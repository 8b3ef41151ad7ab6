/- What the functions that the law reaches return in this program, part 2; no conditions. -/
import Derived.Test.YtpfhdmbamkdnpaaGreatDoorLinesNamesI1
set_option linter.unusedSectionVars false
set_option linter.unusedSimpArgs false
set_option linter.unusedVariables false
namespace Go.Proofs.YtpfhdmbamkdnpaaGreatDoor.linesNames
open Go.Am Go.ChangeShapes Go.WideShapes Go.ChangeAt Go.RowKit

set_option maxRecDepth 100000
variable {m : Int} {u1 u2 : {v : Value // isIf v}}
theorem Qf2 : XH (pg m u1 u2) 88 := Qjc Qg8 QdV Qhx
theorem Qg7 : Body (pg m u1 u2) 55 4 [.tmp 2] (Jl 87 41) := mkB (A := Tryz.prog) rfl Tryz.func55 (by kernel_rfl)
theorem Qf1 : Qit 87 (pg m u1 u2) 55 := Qjb Qg7
theorem Qp0 {A : Program} {P : Prg} {f N : Nat} {rl : List ResultVar} {ac : RC0} {fn : _} (hP : P.prog = A) (h0 : A.funcs[f]? = some fn) (h : (fn.name == "runtime.NumGoroutine", fn.ntmps, fn.results.toList, fn.body.bind (Qem A N)) = (false, N, rl, some ac)) : QlJ P f N rl ac := by subst hP; simp only [Prod.mk.injEq] at h; exact ⟨fn, h0, h.1, h.2.1, h.2.2.1, h.2.2.2⟩
theorem Qfu : QlJ (pg m u1 u2) 30 18 [.cell 2 3, .cell 3 27] (Xs 55 3 27) := Qp0 (A := Tryz.prog) rfl Tryz.func30 (by kernel_rfl)
theorem Qd6 : Body (pg m u1 u2) 87 35 [] (ZE 88) := mkB (A := Tryz.prog) rfl Tryz.func87 (by kernel_rfl)
theorem QaX : QcY (pg m u1 u2) 30 := QhB Qfu Qf1 Qd6 Qf2 (show Z2 Tryz.prog 3 = some none by kernel_rfl) (show Z2 Tryz.prog 27 = some none by kernel_rfl)
theorem Qd8 : Body (pg m u1 u2) 47 20 [.tmp 2, .tmp 3] (Xp 75 14) := mkB (A := Tryz.prog) rfl Tryz.func47 (by kernel_rfl)
theorem Qmt : Go.Am.Enters (pg m u1 u2) 75 := ⟨Tryz.f75, Tryz.func75, by kernel_rfl, by kernel_rfl⟩
theorem Qnv : S_Atoi (pg m u1 u2) 75 := k_atoi (P := (pg m u1 u2)) (ρ := Tryz.shLaysCn172_ren) Tryz.shLaysCn172 Qmt rfl rfl u1.2 u2.2
theorem Qmq : Go.Am.Enters (pg m u1 u2) 14 := ⟨Tryz.f14, Tryz.func14, by kernel_rfl, by kernel_rfl⟩
theorem QkR : S_Itoa (pg m u1 u2) 14 := k_itoa (P := (pg m u1 u2)) (ρ := Tryz.shLaysMn171_ren) Tryz.shLaysMn171 Qmq rfl
theorem Qad : QcW (pg m u1 u2) 47 := Qgr Qd8 Qnv QkR
theorem ZI : Body (pg m u1 u2) 50 15 [.tmp 4, .tmp 5] (Qr 78) := mkB (A := Tryz.prog) rfl Tryz.func50 (by kernel_rfl)
theorem QdU : J4 (pg m u1 u2) 50 := Qgf ZI QdT
theorem QaQ : Body (pg m u1 u2) 24 11 [.tmp 4, .tmp 5] (QR 50) := mkB (A := Tryz.prog) rfl Tryz.func24 (by kernel_rfl)
theorem QaI : J4 (pg m u1 u2) 24 := QbR QaQ QdU
theorem Qbk : Body (pg m u1 u2) 77 8 [.tmp 6] (Zu 119 9 3) := mkB (A := Tryz.prog) rfl Tryz.func77 (by kernel_rfl)
theorem Qab : Body (pg m u1 u2) 119 52 [] (QM 111 74) := mkB (A := Tryz.prog) rfl Tryz.func119 (by kernel_rfl)
theorem QgJ : Go.Am.Enters (pg m u1 u2) 74 := ⟨Tryz.f74, Tryz.func74, by kernel_rfl, by kernel_rfl⟩
theorem QhW : S_StrIndex (pg m u1 u2) 74 := k_index (P := (pg m u1 u2)) (ρ := Tryz.shLaysn143_ren) Tryz.shLaysn143 QgJ rfl
theorem QaY : QaT 9 3 32 (pg m u1 u2) 77 := QcA Qbk Qab QhW
theorem Qbl : Body (pg m u1 u2) 49 8 [.tmp 4] (Zv 77) := mkB (A := Tryz.prog) rfl Tryz.func49 (by kernel_rfl)
theorem QaZ : Qb7 9 3 32 (pg m u1 u2) 49 := QcB Qbl QaY
theorem QpM {A : Program} {P : Prg} {f N : Nat} {rl : List ResultVar} {ac : RC} {fn : _} (hP : P.prog = A) (h0 : A.funcs[f]? = some fn) (h : (fn.name == "runtime.NumGoroutine", fn.ntmps, fn.results.toList, fn.body.bind (QkA A N)) = (false, N, rl, some ac)) : Qee P f N rl ac := by subst hP; simp only [Prod.mk.injEq] at h; exact ⟨fn, h0, h.1, h.2.1, h.2.2.1, h.2.2.2⟩
theorem Qdw : Qee (pg m u1 u2) 23 23 [.cell 2 24, .cell 3 4] (Z6 49 47 24 4 3) := QpM (A := Tryz.prog) rfl Tryz.func23 (by kernel_rfl)
theorem Qc1 : QlC (pg m u1 u2) 23 := Qe7 Qdw QaZ Qad (show Z2 Tryz.prog 24 = some none by kernel_rfl) (show Z2 Tryz.prog 4 = some none by kernel_rfl)
theorem Qfx : Body (pg m u1 u2) 21 54 [.tmp 4, .tmp 5] (ZS 20 47 3) := mkB (A := Tryz.prog) rfl Tryz.func21 (by kernel_rfl)
theorem QgI : Go.Am.Enters (pg m u1 u2) 20 := ⟨Tryz.f20, Tryz.func20, by kernel_rfl, by kernel_rfl⟩
theorem hi9 : (Tryz.prog.info? 9).map (fun i => (i.zero, i.size, i.bytes)) = some (some (.string ByteArray.empty), 1, 16) := by kernel_rfl
theorem Qdj : S_SplitS (pg m u1 u2) 20 := k_split (P := (pg m u1 u2)) (ρ := Tryz.shLaysn146_ren) Tryz.shLaysn146 hi9 QgI rfl
theorem QeP : Qiv (pg m u1 u2) 21 := QhS Qfx Qdj Qad
theorem Qfy : Body (pg m u1 u2) 11 63 [.tmp 2] (Ql 25 26 31 29) := mkB (A := Tryz.prog) rfl Tryz.func11 (by kernel_rfl)
theorem Jb : QbM (pg m u1 u2) 11 := QhT Qfy Qc3 QeN
theorem Qhb : Body (pg m u1 u2) 10 140 [.cell 2 31, .tmp 3] (Zg 20 21 22 23 24 31 9) := mkB (A := Tryz.prog) rfl Tryz.func10 (by kernel_rfl)
theorem Qjz : Go.Am.Enters (pg m u1 u2) 22 := ⟨Tryz.f22, Tryz.func22, by kernel_rfl, by kernel_rfl⟩
theorem QkQ : S_StrCut (pg m u1 u2) 22 := k_strcut (P := (pg m u1 u2)) (ρ := Tryz.shLaysn145_ren) Tryz.shLaysn145 Qjz rfl
theorem Qf5 : QnW (pg m u1 u2) 10 := Qjq Qhb Qdj QeP QkQ Qc1 QaI (show Z2 Tryz.prog 31 = some (some 11) by kernel_rfl)
theorem Qhd : Body (pg m u1 u2) 4 20 [.cell 2 31, .tmp 3] (ZG 10 11 31) := mkB (A := Tryz.prog) rfl Tryz.func4 (by kernel_rfl)
theorem JC : QaU (pg m u1 u2) 4 := Qjs Qhd Qf5 Jb (show Z2 Tryz.prog 31 = some (some 11) by kernel_rfl)
theorem Z5 : Body (pg m u1 u2) 13 19 [.tmp 4, .tmp 5] (Qz 27 5) := mkB (A := Tryz.prog) rfl Tryz.func13 (by kernel_rfl)
theorem Qmr : Go.Am.Enters (pg m u1 u2) 27 := ⟨Tryz.f27, Tryz.func27, by kernel_rfl, by kernel_rfl⟩
theorem Qnt : QlF 48 (pg m u1 u2) 27 := Qon (P := (pg m u1 u2)) copy_new copy_old Qmr
theorem XP : Qi3 48 5 (pg m u1 u2) 13 := Qdu Z5 Qnt
theorem Qd9 : Body (pg m u1 u2) 12 20 [] (ZF 13 14) := mkB (A := Tryz.prog) rfl Tryz.func12 (by kernel_rfl)

end Go.Proofs.YtpfhdmbamkdnpaaGreatDoor.linesNames

/- What the functions that the law reaches return in this program, part 5; no conditions. -/
import Derived.Test.YtghngklehkkecaeGreatDoorPushencSticksI4
set_option linter.unusedSectionVars false
set_option linter.unusedSimpArgs false
set_option linter.unusedVariables false
namespace Go.Proofs.YtghngklehkkecaeGreatDoor.pushencSticks
open Go.Am Go.ChangeShapes Go.WideShapes Go.ChangeAt Go.RowKit

theorem QcO : QcA pg 38 := QkL Qg2 Qlx QaV
theorem QiN : Qd pg 66 31 [.tmp 2] Xj := ⟨Tryz.f66, Tryz.func66, by kernel_rfl, by kernel_rfl, by kernel_rfl, by kernel_rfl⟩
theorem Qhz : Qgd pg 66 := QlQ QiN
theorem QiM : Qd pg 39 38 [.tmp 2, .tmp 3] (Jf 66 67 64 24) := ⟨Tryz.f39, Tryz.func39, by kernel_rfl, by kernel_rfl, by kernel_rfl, by kernel_rfl⟩
theorem QfY : Qd pg 67 13 [] (Xo 63 5) := ⟨Tryz.f67, Tryz.func67, by kernel_rfl, by kernel_rfl, by kernel_rfl, by kernel_rfl⟩
theorem Qdl : QdY pg 39 := QlP QiM Qhz QfY QaV Qbe
theorem Qf5 : Qd pg 79 44 [.tmp 2] (QC 72) := ⟨Tryz.f79, Tryz.func79, by kernel_rfl, by kernel_rfl, by kernel_rfl, by kernel_rfl⟩
theorem Qfo : Qjd pg 79 := Qip Qf5
theorem QiR : Qd pg 80 25 [.tmp 2] (Xk 96 72) := ⟨Tryz.f80, Tryz.func80, by kernel_rfl, by kernel_rfl, by kernel_rfl, by kernel_rfl⟩
theorem QhI : QrN pg 80 := Qmd QiR J2
theorem Qg0 : Qd pg 62 11 [.tmp 2] (ZV 79 80 72) := ⟨Tryz.f62, Tryz.func62, by kernel_rfl, by kernel_rfl, by kernel_rfl, by kernel_rfl⟩
theorem QcN : Qd1 pg 62 := Qkr Qg0 Qfo QhI
theorem QiS : Qd pg 35 35 [.cell 4 72, .tmp 5] (ZI 59 51 72) := ⟨Tryz.f35, Tryz.func35, by kernel_rfl, by kernel_rfl, by kernel_rfl, by kernel_rfl⟩
theorem QhJ : Qjl pg 35 := Qme QiS Qez (show ZQ Tryz.prog 72 = some (some 5) by kernel_rfl)
theorem QcU : Qd pg 37 63 [.tmp 2, .tmp 3] (Zv 62 63 64 72 5 0) := ⟨Tryz.f37, Tryz.func37, by kernel_rfl, by kernel_rfl, by kernel_rfl, by kernel_rfl⟩
theorem Qgy : Qgm pg 37 := Qkq QcU QcN QaV Qbe (show pg.G.lookup 0 = some Qu2 by rfl)
theorem Qf8 : Qd pg 41 5 [.tmp 2] JD := ⟨Tryz.f41, Tryz.func41, by kernel_rfl, by kernel_rfl, by kernel_rfl, by kernel_rfl⟩
theorem Qfr : QrL pg 41 := Qiw Qf8
theorem QbK : Qd pg 40 26 [.tmp 4] (ZB 3) := ⟨Tryz.f40, Tryz.func40, by kernel_rfl, by kernel_rfl, by kernel_rfl, by kernel_rfl⟩
theorem QhO : QrO 41 pg 40 := Qmq QbK Qfr
theorem QiX : Qd pg 42 17 [.tmp 2] (QaO 5) := ⟨Tryz.f42, Tryz.func42, by kernel_rfl, by kernel_rfl, by kernel_rfl, by kernel_rfl⟩
theorem QhN : Qm8 pg 42 := Qmp QiX
theorem QiY : Qd pg 18 62 [.tmp 4, .tmp 5] (Q2 35 36 37 38 40 41 39 42 51 72 24) := ⟨Tryz.f18, Tryz.func18, by kernel_rfl, by kernel_rfl, by kernel_rfl, by kernel_rfl⟩
theorem QhP : Qnb pg 18 := Qmr QiY QhJ QhT Qgy QcO QhO Qdl QhN
theorem Qd4 : Qaj 21 pg 58 := Qtd Z6
theorem QgX : Qd pg 28 15 [.cell 4 32, .tmp 5] (Qae 32) := ⟨Tryz.f28, Tryz.func28, by kernel_rfl, by kernel_rfl, by kernel_rfl, by kernel_rfl⟩
theorem QcL : Qji pg 28 := Qkb QgX (show ZQ Tryz.prog 32 = some (some 10) by kernel_rfl)
theorem QgY : Qd pg 8 55 [.cell 4 32, .tmp 5] (Qaf 21 22 23 28 32 3 5) := ⟨Tryz.f8, Tryz.func8, by kernel_rfl, by kernel_rfl, by kernel_rfl, by kernel_rfl⟩
theorem Qb7 : Qd pg 21 33 [.cell 2 32, .tmp 3, .tmp 4] (Zc 9 45 33 32) := ⟨Tryz.f21, Tryz.func21, by kernel_rfl, by kernel_rfl, by kernel_rfl, by kernel_rfl⟩
theorem QaH : Qd pg 33 42 [.cell 2 32] (Q7 34 58 32 24) := ⟨Tryz.f33, Tryz.func33, by kernel_rfl, by kernel_rfl, by kernel_rfl, by kernel_rfl⟩
theorem QeZ : Qd pg 23 44 [.tmp 2] (Q4 25 24 26 27 21) := ⟨Tryz.f23, Tryz.func23, by kernel_rfl, by kernel_rfl, by kernel_rfl, by kernel_rfl⟩
theorem QcT : Qd pg 27 46 [.tmp 2] (Zu 48 49 91 24) := ⟨Tryz.f27, Tryz.func27, by kernel_rfl, by kernel_rfl, by kernel_rfl, by kernel_rfl⟩
theorem QcM : Qgi pg 8 := Qkc QgY Qb7 XE Xe QaH Qdo Qd4 (show ZQ Tryz.prog 32 = some (some 10) by kernel_rfl) QbE QeZ J1 QcK Qfl QcT QcY Jr QcL
theorem Qf9 : Qd pg 56 12 [.tmp 2, .tmp 3] Xp := ⟨Tryz.f56, Tryz.func56, by kernel_rfl, by kernel_rfl, by kernel_rfl, by kernel_rfl⟩
theorem Qfs : Qgp pg 56 := QiD Qf9
theorem Qfp : Qeq 5 pg 37 := Qiq QcU QcN QaV Qbe (show pg.G.lookup 0 = some Qu2 by rfl)
theorem QgW : Qd pg 32 85 [.tmp 4, .tmp 5] (Qad 56 37 38 39 57 32 5 3) := ⟨Tryz.f32, Tryz.func32, by kernel_rfl, by kernel_rfl, by kernel_rfl, by kernel_rfl⟩
theorem Qgw : Qm6 pg 32 := Qka QgW Qfs Qfp QcO Qdl QbR
theorem QeY : Qd pg 13 67 [.cell 2 32, .tmp 3] (X8 21 25 28 27 32 32) := ⟨Tryz.f13, Tryz.func13, by kernel_rfl, by kernel_rfl, by kernel_rfl, by kernel_rfl⟩
theorem QbF : Qlj pg 13 := QgF QeY Qb7 XE Xe QaH Qdo Qd4 (show ZQ Tryz.prog 32 = some (some 10) by kernel_rfl) J1 QcL QcT QcY Jr Qgw
theorem Qf1 : Qd pg 17 38 [.cell 4 32, .tmp 5, .tmp 6] (ZF 9 33 34 32) := ⟨Tryz.f17, Tryz.func17, by kernel_rfl, by kernel_rfl, by kernel_rfl, by kernel_rfl⟩
theorem Qfn : QrH pg 17 := Qib Qf1 XE QaH Qdo Qd4 (show ZQ Tryz.prog 32 = some (some 10) by kernel_rfl)
theorem Qdd : Qd pg 14 114 [.tmp 4] (Z9 32) := ⟨Tryz.f14, Tryz.func14, by kernel_rfl, by kernel_rfl, by kernel_rfl, by kernel_rfl⟩
theorem QhA : Qje pg 14 := QlV Qdd
theorem Qde : Qd pg 6 29 [.tmp 6] (Qv 23) := ⟨Tryz.f6, Tryz.func6, by kernel_rfl, by kernel_rfl, by kernel_rfl, by kernel_rfl⟩

end Go.Proofs.YtghngklehkkecaeGreatDoor.pushencSticks

/- What the functions that the law reaches return in this program, part 4; no conditions. -/
import Derived.Test.YtghngklehkkecaeGreatDoorPushencSticksI3
set_option linter.unusedSectionVars false
set_option linter.unusedSimpArgs false
set_option linter.unusedVariables false
namespace Go.Proofs.YtghngklehkkecaeGreatDoor.pushencSticks
open Go.Am Go.ChangeShapes Go.WideShapes Go.ChangeAt Go.RowKit

theorem Qk6 : Qd pg 95 36 [] (XO 112 92) := ⟨Tryz.f95, Tryz.func95, by kernel_rfl, by kernel_rfl, by kernel_rfl, by kernel_rfl⟩
theorem Qg1 : Qd pg 112 58 [] Qm := ⟨Tryz.f112, Tryz.func112, by kernel_rfl, by kernel_rfl, by kernel_rfl, by kernel_rfl⟩
theorem QjM : Qi9 pg 72 := QoL Qk7 Qao QjO Qex Qd5 QjF Qk6 Qg1 Qex (show ZQ Tryz.prog 126 = some (some 2) by kernel_rfl) (show ZQ Tryz.prog 122 = some (some 4) by kernel_rfl)
theorem Qe1 : Qd pg 71 11 [.cell 0 123] (Ja 89 123) := ⟨Tryz.f71, Tryz.func71, by kernel_rfl, by kernel_rfl, by kernel_rfl, by kernel_rfl⟩
theorem QeQ : QdW pg 71 := QgJ Qe1 QjN (show ZQ Tryz.prog 123 = some (some 24) by kernel_rfl)
theorem QaG : Qd pg 57 36 [.tmp 2] (Q9 75 5) := ⟨Tryz.f57, Tryz.func57, by kernel_rfl, by kernel_rfl, by kernel_rfl, by kernel_rfl⟩
theorem growB : Qgn 5 pg 75 := grow_nil Tryz.growB rfl rfl (by kernel_rfl)
theorem QbR : Qfk pg 57 := QhZ QaG growB
theorem Qe3 : Qd pg 49 85 [.tmp 6, .tmp 7] (Z2 70 71 72 73 64 63 57 23 91 123 126 122 24) := ⟨Tryz.f49, Tryz.func49, by kernel_rfl, by kernel_rfl, by kernel_rfl, by kernel_rfl⟩
theorem QiW : Qd pg 73 64 [] (Jh 126 5) := ⟨Tryz.f73, Tryz.func73, by kernel_rfl, by kernel_rfl, by kernel_rfl, by kernel_rfl⟩
theorem Jr : Qm9 pg 49 := QgL Qe3 QeR QeQ QjM QiW Qbe QaV QbR
theorem Qek : Qd pg 121 51 [.tmp 4, .tmp 5] XN := ⟨Tryz.f121, Tryz.func121, by kernel_rfl, by kernel_rfl, by kernel_rfl, by kernel_rfl⟩
theorem QjI : Qpb pg 121 := Qou Qek
theorem Qf3 : Qd pg 113 30 [.tmp 4, .tmp 5] (Jz 120 121) := ⟨Tryz.f113, Tryz.func113, by kernel_rfl, by kernel_rfl, by kernel_rfl, by kernel_rfl⟩
theorem Qn6 : Qpb pg 113 := QsH Qf3 QjI
theorem Qbr : Qd pg 97 48 [.tmp 4] (Zs 113 3) := ⟨Tryz.f97, Tryz.func97, by kernel_rfl, by kernel_rfl, by kernel_rfl, by kernel_rfl⟩
theorem QeN : Qge 3 pg 97 := QgC Qbr Qn6
theorem Qbs : Qd pg 114 36 [.tmp 2] (Zt 122 3) := ⟨Tryz.f114, Tryz.func114, by kernel_rfl, by kernel_rfl, by kernel_rfl, by kernel_rfl⟩
theorem growI : Qht 3 pg 122 := grow_nilI Tryz.growI rfl rfl (by kernel_rfl)
theorem QeO : Qgq 3 pg 114 := QgD Qbs growI
theorem Qe0 : Qd pg 98 9 [.tmp 4] (X9 114 80) := ⟨Tryz.f98, Tryz.func98, by kernel_rfl, by kernel_rfl, by kernel_rfl, by kernel_rfl⟩
theorem QeP : QrR 3 pg 98 := QgH Qe0 QeO
theorem QiQ : Qd pg 78 39 [.tmp 4, .tmp 5] (QaM 96 45 97 98 3) := ⟨Tryz.f78, Tryz.func78, by kernel_rfl, by kernel_rfl, by kernel_rfl, by kernel_rfl⟩
theorem QhF : QrS 3 pg 78 := Ql7 QiQ J2 Xe QeN QeP
theorem QcV : Qd pg 77 43 [] (XQ 78) := ⟨Tryz.f77, Tryz.func77, by kernel_rfl, by kernel_rfl, by kernel_rfl, by kernel_rfl⟩
theorem QhS : Qgg 3 pg 77 := QmF QcV QhF
theorem Qld : Qd pg 60 4 [.tmp 2] (QbA 77 51) := ⟨Tryz.f60, Tryz.func60, by kernel_rfl, by kernel_rfl, by kernel_rfl, by kernel_rfl⟩
theorem QjR : Qgh 77 pg 60 := QoU Qld
theorem QiZ : Qd pg 101 25 [.tmp 0] (QaP 193) := ⟨Tryz.f101, Tryz.func101, by kernel_rfl, by kernel_rfl, by kernel_rfl, by kernel_rfl⟩
theorem QhQ : Qi7 pg 101 := QmB QiZ
theorem Qg3 : Qd pg 100 29 [.tmp 6] Qag := ⟨Tryz.f100, Tryz.func100, by kernel_rfl, by kernel_rfl, by kernel_rfl, by kernel_rfl⟩
theorem Qgz : Qgr pg 100 := QkN Qg3
theorem Qla : Qd pg 83 13 [.tmp 4, .tmp 5] (JS 101 100) := ⟨Tryz.f83, Tryz.func83, by kernel_rfl, by kernel_rfl, by kernel_rfl, by kernel_rfl⟩
theorem QjP : Qm7 pg 83 := QoP Qla QhQ Qgz
theorem QmU : Qd pg 68 8 [.tmp 2, .tmp 3] (Qaz 83) := ⟨Tryz.f68, Tryz.func68, by kernel_rfl, by kernel_rfl, by kernel_rfl, by kernel_rfl⟩
theorem Qft : QnY pg 68 := Qrb QmU QjP
theorem Qrv : Qd pg 69 18 [.cell 2 91] (Qel 91) := ⟨Tryz.f69, Tryz.func69, by kernel_rfl, by kernel_rfl, by kernel_rfl, by kernel_rfl⟩
theorem Qpn : QrI pg 69 := Quf Qrv (show ZQ Tryz.prog 91 = some (some 16) by kernel_rfl)
theorem QmQ : Qd pg 48 22 [.cell 2 91, .tmp 3] (Qcb 68 69 91) := ⟨Tryz.f48, Tryz.func48, by kernel_rfl, by kernel_rfl, by kernel_rfl, by kernel_rfl⟩
theorem QcY : Qgc pg 48 := QpX QmQ Qft Qpn (show ZQ Tryz.prog 91 = some (some 16) by kernel_rfl)
theorem Qi1 : QrY pg 36 45 [.cell 4 29, .cell 5 30] (QaR 59 48 60 61 49 51 29 30 91 24) := ⟨Tryz.f36, Tryz.func36, by kernel_rfl, by kernel_rfl, by kernel_rfl, by kernel_rfl⟩
theorem QhT : Qjn pg 36 := QmG Qi1 Qez QcY QjR QhS QcV Qey Jr (show ZQ Tryz.prog 29 = some none by kernel_rfl) (show ZQ Tryz.prog 30 = some none by kernel_rfl) (by decide) (by decide) (by decide) (by decide) (by decide)
theorem QmT : Qd pg 65 16 [.tmp 2, .tmp 3] (Qay 68) := ⟨Tryz.f65, Tryz.func65, by kernel_rfl, by kernel_rfl, by kernel_rfl, by kernel_rfl⟩
theorem Qlx : Qnc pg 65 := Qq9 QmT Qft
theorem Qg2 : Qd pg 38 18 [.tmp 2, .tmp 3] (XP 65 63) := ⟨Tryz.f38, Tryz.func38, by kernel_rfl, by kernel_rfl, by kernel_rfl, by kernel_rfl⟩

end Go.Proofs.YtghngklehkkecaeGreatDoor.pushencSticks

/- What the functions that the law reaches return in this program, part 2; no conditions. -/
import Derived.Test.YtllnphoondgiaabGreatDoorEncodePartsI1
set_option linter.unusedSectionVars false
set_option linter.unusedSimpArgs false
set_option linter.unusedVariables false
namespace Go.Proofs.YtllnphoondgiaabGreatDoor.encodeParts
open Go.Am Go.ChangeShapes Go.WideShapes Go.ChangeAt Go.RowKit

theorem Qf3 : Qhq pg 92 := QkE Qg0 Qfi
theorem Qeu : Qm pg 73 44 [.tmp 4, .cell 5 131, .tmp 6] (XT 92 93 94 131 129) := ⟨Tryz.f73, Tryz.func73, by kernel_rfl, by kernel_rfl, by kernel_rfl, by kernel_rfl⟩
theorem QdU : Qc4 pg 73 := QgE Qeu (show Xb Tryz.prog 131 = some (some 35) by kernel_rfl) Qf3 QfW QfR
theorem QkO : Qm pg 74 10 [.tmp 2] JC := ⟨Tryz.f74, Tryz.func74, by kernel_rfl, by kernel_rfl, by kernel_rfl, by kernel_rfl⟩
theorem Qjr : Qpg pg 74 := Qop QkO
theorem Jr : Qm pg 89 8 [.tmp 2] (QR 21) := ⟨Tryz.f89, Tryz.func89, by kernel_rfl, by kernel_rfl, by kernel_rfl, by kernel_rfl⟩
theorem Qjt : Qhp 21 pg 89 := QoM Jr
theorem Qo3 : Qm pg 90 39 [] QcZ := ⟨Tryz.f90, Tryz.func90, by kernel_rfl, by kernel_rfl, by kernel_rfl, by kernel_rfl⟩
theorem Qnb : Qsg pg 90 := QrE Qo3
theorem QkN : Qm pg 88 22 [.tmp 4] Zv := ⟨Tryz.f88, Tryz.func88, by kernel_rfl, by kernel_rfl, by kernel_rfl, by kernel_rfl⟩
theorem Qjq : Qhh pg 88 := Qn6 QkN
theorem Qo4 : Qm pg 71 32 [.tmp 4, .tmp 5] (Qc0 88 89 90) := ⟨Tryz.f71, Tryz.func71, by kernel_rfl, by kernel_rfl, by kernel_rfl, by kernel_rfl⟩
theorem Qnc : Qhg pg 71 := QrF Qo4 Qjq Qjt Qnb
theorem Qer : Qm pg 70 30 [.tmp 4] (XQ 67 51 52) := ⟨Tryz.f70, Tryz.func70, by kernel_rfl, by kernel_rfl, by kernel_rfl, by kernel_rfl⟩
theorem QdR : QfH pg 70 := Qgr Qer QaU Qb1
theorem Qbx : Qm pg 16 28 [.tmp 4] (ZC 39 40 52) := ⟨Tryz.f16, Tryz.func16, by kernel_rfl, by kernel_rfl, by kernel_rfl, by kernel_rfl⟩
theorem QfP : QfH pg 16 := QjW Qbx Qb4 QfQ
theorem Qdt : Qm pg 55 83 [.tmp 6, .tmp 7] (Xw 70 71 72 73 74 52 72 132 131 65) := ⟨Tryz.f55, Tryz.func55, by kernel_rfl, by kernel_rfl, by kernel_rfl, by kernel_rfl⟩
theorem Qdl : Qk3 pg 55 := QeZ Qdt QdR Qnc Qjv QdU Qjr
theorem Qeo : Qm pg 49 32 [.tmp 4, .tmp 5] (XP 60) := ⟨Tryz.f49, Tryz.func49, by kernel_rfl, by kernel_rfl, by kernel_rfl, by kernel_rfl⟩
theorem Jd : XI pg 49 := Qgi Qeo QbA
theorem Qi5 : Qm pg 35 8 [.cell 2 52] (QaC 24 52) := ⟨Tryz.f35, Tryz.func35, by kernel_rfl, by kernel_rfl, by kernel_rfl, by kernel_rfl⟩
theorem Qc8 : XH pg 35 := QmJ Qi5 (show Xb Tryz.prog 52 = some (some 2) by kernel_rfl)
theorem Qbs : Qm pg 17 8 [.cell 2 52] (Zz 24 52) := ⟨Tryz.f17, Tryz.func17, by kernel_rfl, by kernel_rfl, by kernel_rfl, by kernel_rfl⟩
theorem Qb3 : XH pg 17 := QjR Qbs (show Xb Tryz.prog 52 = some (some 2) by kernel_rfl)
theorem QkS : Qm pg 50 31 [.tmp 4] (Qa5 35 67 49 24) := ⟨Tryz.f50, Tryz.func50, by kernel_rfl, by kernel_rfl, by kernel_rfl, by kernel_rfl⟩
theorem Qju : Qk7 pg 50 := QoN QkS Qc8 QaU Jd
theorem Qi7 : Qm pg 30 33 [.tmp 2] (Xm 50 51 24) := ⟨Tryz.f30, Tryz.func30, by kernel_rfl, by kernel_rfl, by kernel_rfl, by kernel_rfl⟩
theorem Qc9 : Z3 pg 30 := QmM Qi7 Qju Qb1
theorem Qbv : Qm pg 41 19 [.tmp 4] (ZB 39 52) := ⟨Tryz.f41, Tryz.func41, by kernel_rfl, by kernel_rfl, by kernel_rfl, by kernel_rfl⟩
theorem QfO : Qk8 pg 41 := QjU Qbv Qb4
theorem Qcx : Qm pg 64 41 [.tmp 4, .tmp 5] (QE 85 3) := ⟨Tryz.f64, Tryz.func64, by kernel_rfl, by kernel_rfl, by kernel_rfl, by kernel_rfl⟩
theorem Qjp : Qk9 pg 64 := QnQ Qcx QhF
theorem Qbu : Qm pg 42 17 [.tmp 4, .tmp 5] (Q3 64) := ⟨Tryz.f42, Tryz.func42, by kernel_rfl, by kernel_rfl, by kernel_rfl, by kernel_rfl⟩
theorem QfN : XI pg 42 := QjT Qbu Qjp
theorem QbU : Qm pg 18 21 [.tmp 4] (ZL 17 41 42 24) := ⟨Tryz.f18, Tryz.func18, by kernel_rfl, by kernel_rfl, by kernel_rfl, by kernel_rfl⟩
theorem QhE : Qey pg 18 := Qmh QbU Qb3 QfO QfN
theorem Qbt : Qm pg 6 20 [.tmp 2] (ZA 17 16 18 24) := ⟨Tryz.f6, Tryz.func6, by kernel_rfl, by kernel_rfl, by kernel_rfl, by kernel_rfl⟩
theorem QfM : Z3 pg 6 := QjS Qbt Qb3 QfP QhE
theorem Qo5 : Qm pg 65 14 [.tmp 4] Qaa := ⟨Tryz.f65, Tryz.func65, by kernel_rfl, by kernel_rfl, by kernel_rfl, by kernel_rfl⟩
theorem Qnd : Qpc pg 65 := QrH Qo5
theorem QmV : Qm pg 43 35 [.tmp 4, .tmp 5] (Qaz 65 5) := ⟨Tryz.f43, Tryz.func43, by kernel_rfl, by kernel_rfl, by kernel_rfl, by kernel_rfl⟩
theorem Qbb : Qab pg 43 := Qqc QmV Qnd
theorem Qg1 : Qm pg 31 10 [.tmp 4] JZ := ⟨Tryz.f31, Tryz.func31, by kernel_rfl, by kernel_rfl, by kernel_rfl, by kernel_rfl⟩
theorem Qf4 : Qha pg 31 := QkJ Qg1

end Go.Proofs.YtllnphoondgiaabGreatDoor.encodeParts

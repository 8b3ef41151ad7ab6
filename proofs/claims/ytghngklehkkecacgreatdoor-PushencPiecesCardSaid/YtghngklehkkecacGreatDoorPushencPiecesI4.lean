/- What the functions that the law reaches return in this program, part 4; no conditions. -/
import Derived.Test.YtghngklehkkecacGreatDoorPushencPiecesI3
set_option linter.unusedSectionVars false
set_option linter.unusedSimpArgs false
set_option linter.unusedVariables false
namespace Go.Proofs.YtghngklehkkecacGreatDoor.pushencPieces
open Go.Am Go.ChangeShapes Go.WideShapes Go.ChangeAt Go.RowKit

theorem Qeo : QfQ 3 pg 90 := Qgd Qbb QnE
theorem Qbc : Qf pg 107 36 [.tmp 2] (Zq 115 3) := ⟨Tryz.f107, Tryz.func107, by kernel_rfl, by kernel_rfl, by kernel_rfl, by kernel_rfl⟩
theorem growI : Qg4 3 pg 115 := grow_nilI Tryz.growI rfl rfl (by kernel_rfl)
theorem Qep : Qf2 3 pg 107 := Qge Qbc growI
theorem QeB : Qf pg 91 9 [.tmp 4] (XS 107 25) := ⟨Tryz.f91, Tryz.func91, by kernel_rfl, by kernel_rfl, by kernel_rfl, by kernel_rfl⟩
theorem Qeq : Qrr 3 pg 91 := Qgi QeB Qep
theorem Qin : Qf pg 70 39 [.tmp 4, .tmp 5] (QaA 89 39 90 91 3) := ⟨Tryz.f70, Tryz.func70, by kernel_rfl, by kernel_rfl, by kernel_rfl, by kernel_rfl⟩
theorem Qhe : Qrs 3 pg 70 := QlC Qin JO Z4 Qeo Qeq
theorem QcA : Qf pg 69 43 [] (XE 70) := ⟨Tryz.f69, Tryz.func69, by kernel_rfl, by kernel_rfl, by kernel_rfl, by kernel_rfl⟩
theorem Qhr : QfS 3 pg 69 := Qmb QcA Qhe
theorem QkK : Qf pg 49 4 [.tmp 2] (Qbk 69 48) := ⟨Tryz.f49, Tryz.func49, by kernel_rfl, by kernel_rfl, by kernel_rfl, by kernel_rfl⟩
theorem Qjm : QfT 69 pg 49 := Qor QkK
theorem Qiw : Qf pg 94 25 [.tmp 0] (QaD 190) := ⟨Tryz.f94, Tryz.func94, by kernel_rfl, by kernel_rfl, by kernel_rfl, by kernel_rfl⟩
theorem Qhp : QiF pg 94 := Ql7 Qiw
theorem QgE : Qf pg 93 29 [.tmp 6] J2 := ⟨Tryz.f93, Tryz.func93, by kernel_rfl, by kernel_rfl, by kernel_rfl, by kernel_rfl⟩
theorem Qgb : Qf3 pg 93 := Qkk QgE
theorem QkH : Qf pg 75 13 [.tmp 4, .tmp 5] (JD 94 93) := ⟨Tryz.f75, Tryz.func75, by kernel_rfl, by kernel_rfl, by kernel_rfl, by kernel_rfl⟩
theorem Qjk : QmF pg 75 := Qol QkH Qhp Qgb
theorem Qmq : Qf pg 58 8 [.tmp 2, .tmp 3] (Qan 75) := ⟨Tryz.f58, Tryz.func58, by kernel_rfl, by kernel_rfl, by kernel_rfl, by kernel_rfl⟩
theorem Qe7 : Qnw pg 58 := QqK Qmq Qjk
theorem Qq4 : Qf pg 59 18 [.cell 2 86] (QdZ 86) := ⟨Tryz.f59, Tryz.func59, by kernel_rfl, by kernel_rfl, by kernel_rfl, by kernel_rfl⟩
theorem QoU : Qrg pg 59 := QtO Qq4 (show ZK Tryz.prog 86 = some (some 16) by kernel_rfl)
theorem Qmm : Qf pg 42 22 [.cell 2 86, .tmp 3] (QbW 58 59 86) := ⟨Tryz.f42, Tryz.func42, by kernel_rfl, by kernel_rfl, by kernel_rfl, by kernel_rfl⟩
theorem QcD : QfO pg 42 := Qpu Qmm Qe7 QoU (show ZK Tryz.prog 86 = some (some 16) by kernel_rfl)
theorem Qiy : Qry pg 30 45 [.cell 4 30, .cell 5 31] (QaF 48 42 49 50 43 48 30 31 86 24) := ⟨Tryz.f30, Tryz.func30, by kernel_rfl, by kernel_rfl, by kernel_rfl, by kernel_rfl⟩
theorem Qhs : QiS pg 30 := Qmc Qiy Qec QcD Qjm Qhr QcA Qeb Jc (show ZK Tryz.prog 30 = some none by kernel_rfl) (show ZK Tryz.prog 31 = some none by kernel_rfl) (by decide) (by decide) (by decide) (by decide) (by decide)
theorem Qmp : Qf pg 54 16 [.tmp 2, .tmp 3] (Qam 58) := ⟨Tryz.f54, Tryz.func54, by kernel_rfl, by kernel_rfl, by kernel_rfl, by kernel_rfl⟩
theorem Qk5 : QmK pg 54 := QqI Qmp Qe7
theorem QgD : Qf pg 32 18 [.tmp 2, .tmp 3] (XD 54 52) := ⟨Tryz.f32, Tryz.func32, by kernel_rfl, by kernel_rfl, by kernel_rfl, by kernel_rfl⟩
theorem Qct : Qci pg 32 := Qki QgD Qk5 QaJ
theorem Qik : Qf pg 55 31 [.tmp 2] Z8 := ⟨Tryz.f55, Tryz.func55, by kernel_rfl, by kernel_rfl, by kernel_rfl, by kernel_rfl⟩
theorem Qha : QfP pg 55 := Qlp Qik
theorem Qij : Qf pg 33 38 [.tmp 2, .tmp 3] (X2 55 56 53 24) := ⟨Tryz.f33, Tryz.func33, by kernel_rfl, by kernel_rfl, by kernel_rfl, by kernel_rfl⟩
theorem QfB : Qf pg 56 13 [] (Xd 52 5) := ⟨Tryz.f56, Tryz.func56, by kernel_rfl, by kernel_rfl, by kernel_rfl, by kernel_rfl⟩
theorem QcX : Qdx pg 33 := Qlo Qij Qha QfB QaJ QaZ
theorem QfI : Qf pg 71 44 [.tmp 2] (QC 68) := ⟨Tryz.f71, Tryz.func71, by kernel_rfl, by kernel_rfl, by kernel_rfl, by kernel_rfl⟩
theorem Qe2 : QiL pg 71 := QhW QfI
theorem Qio : Qf pg 72 25 [.tmp 2] (Z9 89 68) := ⟨Tryz.f72, Tryz.func72, by kernel_rfl, by kernel_rfl, by kernel_rfl, by kernel_rfl⟩
theorem Qhh : Qrn pg 72 := QlI Qio JO
theorem QgB : Qf pg 51 11 [.tmp 2] (ZQ 71 72 68) := ⟨Tryz.f51, Tryz.func51, by kernel_rfl, by kernel_rfl, by kernel_rfl, by kernel_rfl⟩
theorem Qcs : QdA pg 51 := QjX QgB Qe2 Qhh
theorem Qip : Qf pg 29 35 [.cell 4 68, .tmp 5] (ZF 48 48 68) := ⟨Tryz.f29, Tryz.func29, by kernel_rfl, by kernel_rfl, by kernel_rfl, by kernel_rfl⟩
theorem Qhi : QiQ pg 29 := QlJ Qip Qec (show ZK Tryz.prog 68 = some (some 5) by kernel_rfl)
theorem Qcz : Qf pg 31 63 [.tmp 2, .tmp 3] (Zs 51 52 53 68 5 0) := ⟨Tryz.f31, Tryz.func31, by kernel_rfl, by kernel_rfl, by kernel_rfl, by kernel_rfl⟩
theorem Qga : QfY pg 31 := QjW Qcz Qcs QaJ QaZ (show pg.G.lookup 0 = some QuD by rfl)

end Go.Proofs.YtghngklehkkecacGreatDoor.pushencPieces

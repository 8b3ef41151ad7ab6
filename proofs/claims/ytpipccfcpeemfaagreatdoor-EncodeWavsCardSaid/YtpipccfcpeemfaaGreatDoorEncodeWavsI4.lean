/- What the functions that the law reaches return in this program, part 4; no conditions. -/
import Derived.Test.YtpipccfcpeemfaaGreatDoorEncodeWavsI3
set_option linter.unusedSectionVars false
set_option linter.unusedSimpArgs false
set_option linter.unusedVariables false
namespace Go.Proofs.YtpipccfcpeemfaaGreatDoor.encodeWavs
open Go.Am Go.ChangeShapes Go.WideShapes Go.ChangeAt Go.RowKit

theorem Qnn : QiZ pg 57 := Qty QeZ Qfu QkT QkS
theorem Qej : Qf pg 27 20 [.tmp 2] (XO 56 55 57 31) := ⟨Tryz.f27, Tryz.func27, by kernel_rfl, by kernel_rfl, by kernel_rfl, by kernel_rfl⟩
theorem Qfv : Z4 pg 27 := Qql Qej Qfu Qfx Qnn
theorem Qxj : Qf pg 80 14 [.tmp 4] Qck := ⟨Tryz.f80, Tryz.func80, by kernel_rfl, by kernel_rfl, by kernel_rfl, by kernel_rfl⟩
theorem QuT : Qxs pg 80 := QAf Qxj
theorem Quw : Qf pg 44 35 [.tmp 4, .tmp 5] (QcK 80 5) := ⟨Tryz.f44, Tryz.func44, by kernel_rfl, by kernel_rfl, by kernel_rfl, by kernel_rfl⟩
theorem Qcb : Qbt pg 44 := QyK Quw QuT
theorem Qaa : Qf pg 83 21 [.tmp 4] (Q0 5) := ⟨Tryz.f83, Tryz.func83, by kernel_rfl, by kernel_rfl, by kernel_rfl, by kernel_rfl⟩
theorem Xs : Qbu pg 83 := Qlx Qaa
theorem X4 : Qf pg 65 19 [.tmp 4] QM := ⟨Tryz.f65, Tryz.func65, by kernel_rfl, by kernel_rfl, by kernel_rfl, by kernel_rfl⟩
theorem Qk3 : Qi5 pg 65 := QqJ X4
theorem Qmc : Qf pg 66 8 [.tmp 3] (QbZ 48) := ⟨Tryz.f66, Tryz.func66, by kernel_rfl, by kernel_rfl, by kernel_rfl, by kernel_rfl⟩
theorem Qne : QrI pg 66 := Qtp Qmc
theorem Qrn : Qf pg 32 13 [.tmp 4, .tmp 5] (QdB 66 65 9) := ⟨Tryz.f32, Tryz.func32, by kernel_rfl, by kernel_rfl, by kernel_rfl, by kernel_rfl⟩
theorem QpC : QxE pg 32 := Qvy Qrn Qne Qk3
theorem Qhn : Qf pg 33 27 [.tmp 2] (QG 44) := ⟨Tryz.f33, Tryz.func33, by kernel_rfl, by kernel_rfl, by kernel_rfl, by kernel_rfl⟩
theorem QpO : QdY pg 33 := Qwv Qhn
theorem Qee : Qf pg 51 36 [.tmp 2] (Qk 44) := ⟨Tryz.f51, Tryz.func51, by kernel_rfl, by kernel_rfl, by kernel_rfl, by kernel_rfl⟩
theorem QkO : QdY pg 51 := Qqg Qee
theorem QiE : Qf pg 35 67 [.tmp 6] (Ju 44 44 82 5 0 2) := ⟨Tryz.f35, Tryz.func35, by kernel_rfl, by kernel_rfl, by kernel_rfl, by kernel_rfl⟩
theorem Qs9 : QrJ pg 35 := QyU QiE Qcb (show pg.G.lookup 0 = some J9 by rfl) (show pg.G.lookup 2 = some QlK by rfl)
theorem Qhd : QgP 5 pg 83 := QjE Qaa
theorem Qec : Qf pg 82 46 [.tmp 4] (XH 83 44 5) := ⟨Tryz.f82, Tryz.func82, by kernel_rfl, by kernel_rfl, by kernel_rfl, by kernel_rfl⟩
theorem Qft : QmS 5 pg 82 := Qqe Qec Qhd Xs
theorem Qed : Qf pg 52 5 [.tmp 2] (XI 82 44) := ⟨Tryz.f52, Tryz.func52, by kernel_rfl, by kernel_rfl, by kernel_rfl, by kernel_rfl⟩
theorem QkN : QmI pg 52 := Qqf Qed (_) Qft
theorem Qdp : Qf pg 53 25 [.tmp 4] (Xf 82 83 44 5) := ⟨Tryz.f53, Tryz.func53, by kernel_rfl, by kernel_rfl, by kernel_rfl, by kernel_rfl⟩
theorem Qjo : QrF pg 53 := Qn8 Qdp Qft Xs
theorem Qmr : Qf pg 34 10 [.tmp 4] Qb8 := ⟨Tryz.f34, Tryz.func34, by kernel_rfl, by kernel_rfl, by kernel_rfl, by kernel_rfl⟩
theorem Qlh : QmC pg 34 := Qrg Qmr
theorem QiF : Qf pg 12 61 [.cell 2 44, .tmp 3] (QaN 29 33 35 34 44 82 0) := ⟨Tryz.f12, Tryz.func12, by kernel_rfl, by kernel_rfl, by kernel_rfl, by kernel_rfl⟩
theorem Qta : QgQ pg 12 := QyV QiF QpM QpO Qs9 Qlh (show pg.G.lookup 0 = some J9 by rfl) (show Q6 Tryz.prog 44 = some (some 3) by kernel_rfl)
theorem QeU : Qf pg 25 50 [.cell 2 44, .tmp 3] (Ze 49 51 52 53 44) := ⟨Tryz.f25, Tryz.func25, by kernel_rfl, by kernel_rfl, by kernel_rfl, by kernel_rfl⟩
theorem Qni : QgQ pg 25 := Qtt QeU Qj5 QkO QkN Qjo (show Q6 Tryz.prog 44 = some (some 3) by kernel_rfl)
theorem Qiz : Qf pg 13 81 [.tmp 4, .tmp 5] (Zx 36 21) := ⟨Tryz.f13, Tryz.func13, by kernel_rfl, by kernel_rfl, by kernel_rfl, by kernel_rfl⟩
theorem QhL : Qcm pg 13 := QkG Qiz Qcq
theorem Qc4 : Qf pg 26 68 [.tmp 4, .tmp 5] (QQ 54 21) := ⟨Tryz.f26, Tryz.func26, by kernel_rfl, by kernel_rfl, by kernel_rfl, by kernel_rfl⟩
theorem QhP : Qcm pg 26 := Qlv Qc4 Qdc
theorem Qeb : Qf pg 24 27 [.tmp 4, .tmp 5] XG := ⟨Tryz.f24, Tryz.func24, by kernel_rfl, by kernel_rfl, by kernel_rfl, by kernel_rfl⟩
theorem QkM : Qja pg 24 := Qqd Qeb
theorem Qus : Qf pg 11 31 [.tmp 4, .tmp 5] (Qfi 32) := ⟨Tryz.f11, Tryz.func11, by kernel_rfl, by kernel_rfl, by kernel_rfl, by kernel_rfl⟩
theorem Qs2 : Qxy pg 11 := Qx0 Qus QpC
theorem Qut : Qf pg 6 116 [.cell 2 31, .tmp 3] (Qfj 10 11 12 13 14 31 44) := ⟨Tryz.f6, Tryz.func6, by kernel_rfl, by kernel_rfl, by kernel_rfl, by kernel_rfl⟩
theorem Qs3 : Qcl pg 6 := Qx1 Qut QpB Qs2 Qta QhL Qde (show Q6 Tryz.prog 31 = some (some 4) by kernel_rfl)
theorem QeT : Qf pg 8 139 [.cell 2 31, .tmp 3] (X7 23 24 25 26 27 31 44 21) := ⟨Tryz.f8, Tryz.func8, by kernel_rfl, by kernel_rfl, by kernel_rfl, by kernel_rfl⟩

end Go.Proofs.YtpipccfcpeemfaaGreatDoor.encodeWavs

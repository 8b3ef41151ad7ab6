/- What the functions that the law reaches return in this program, part 3; no conditions. -/
import Derived.Test.YtpipccfcpeemfacGreatDoorEncodeSameI2
set_option linter.unusedSectionVars false
set_option linter.unusedSimpArgs false
set_option linter.unusedVariables false
namespace Go.Proofs.YtpipccfcpeemfacGreatDoor.encodeSame
open Go.Am Go.ChangeShapes Go.WideShapes Go.ChangeAt Go.RowKit

theorem Qcv : Body pg 8 20 [.tmp 2] (ZS 21 20 22 24) := ⟨Tryz.f8, Tryz.func8, by kernel_rfl, by kernel_rfl, by kernel_rfl, by kernel_rfl⟩
theorem QhH : Zv pg 8 := Qmp Qcv Qc9 QhK QjV
theorem QsI : Body pg 67 14 [.tmp 4] QaS := ⟨Tryz.f67, Tryz.func67, by kernel_rfl, by kernel_rfl, by kernel_rfl, by kernel_rfl⟩
theorem Qqs : QsP pg 67 := QvX QsI
theorem Qp6 : Body pg 33 35 [.tmp 4, .tmp 5] (Qbk 67 5) := ⟨Tryz.f33, Tryz.func33, by kernel_rfl, by kernel_rfl, by kernel_rfl, by kernel_rfl⟩
theorem JH : Xd pg 33 := Qt8 Qp6 Qqs
theorem Qnq : Body pg 50 25 [.tmp 2] (Qb5 64) := ⟨Tryz.f50, Tryz.func50, by kernel_rfl, by kernel_rfl, by kernel_rfl, by kernel_rfl⟩
theorem Qfh : QoM pg 50 4 := Qq8 Qnq
theorem ZZ : Body pg 103 19 [.tmp 4] QA := ⟨Tryz.f103, Tryz.func103, by kernel_rfl, by kernel_rfl, by kernel_rfl, by kernel_rfl⟩
theorem Qdc : QdK pg 103 := QmL ZZ
theorem ZC : Body pg 76 9 [.tmp 4] (Qt 103) := ⟨Tryz.f76, Tryz.func76, by kernel_rfl, by kernel_rfl, by kernel_rfl, by kernel_rfl⟩
theorem QeG : Qb9 pg 76 := QgR ZC Qdc
theorem QgW : Body pg 77 7 [.tmp 2] (JX 75 64) := ⟨Tryz.f77, Tryz.func77, by kernel_rfl, by kernel_rfl, by kernel_rfl, by kernel_rfl⟩
theorem QhF : Qjz pg 77 := Qmj QgW Js
theorem Qlh : Body pg 46 21 [.tmp 4] (Jy 75 50 76 77) := ⟨Tryz.f46, Tryz.func46, by kernel_rfl, by kernel_rfl, by kernel_rfl, by kernel_rfl⟩
theorem QjT : QnR pg 46 := Qpg Qlh Js Qfh QeG QhF
theorem QiQ : Body pg 109 8 [.tmp 3] (Qaz 64) := ⟨Tryz.f109, Tryz.func109, by kernel_rfl, by kernel_rfl, by kernel_rfl, by kernel_rfl⟩
theorem QjS : QnO pg 109 := Qpf QiQ
theorem Qnt : Body pg 82 13 [.tmp 4, .tmp 5] (Qb6 109 103 9) := ⟨Tryz.f82, Tryz.func82, by kernel_rfl, by kernel_rfl, by kernel_rfl, by kernel_rfl⟩
theorem QlT : QsX pg 82 := Qrb Qnt QjS Qdc
theorem Qlg : Body pg 26 48 [.tmp 4, .tmp 5] (Qbi 46 47 50 48 49 51 100 64 5) := ⟨Tryz.f26, Tryz.func26, by kernel_rfl, by kernel_rfl, by kernel_rfl, by kernel_rfl⟩
theorem XQ : Body pg 78 33 [.tmp 4, .tmp 5] Qf := ⟨Tryz.f78, Tryz.func78, by kernel_rfl, by kernel_rfl, by kernel_rfl, by kernel_rfl⟩
theorem Qc1 : Body pg 79 110 [.tmp 4] (QD 104 105 78 106 5 3) := ⟨Tryz.f79, Tryz.func79, by kernel_rfl, by kernel_rfl, by kernel_rfl, by kernel_rfl⟩
theorem QdE : Body pg 104 13 [.tmp 2] Q7 := ⟨Tryz.f104, Tryz.func104, by kernel_rfl, by kernel_rfl, by kernel_rfl, by kernel_rfl⟩
theorem J2 : Body pg 48 32 [.tmp 4, .tmp 5] (Qp 78 79) := ⟨Tryz.f48, Tryz.func48, by kernel_rfl, by kernel_rfl, by kernel_rfl, by kernel_rfl⟩
theorem QcC : Body pg 49 32 [.tmp 4, .tmp 5] (QI 78 79) := ⟨Tryz.f49, Tryz.func49, by kernel_rfl, by kernel_rfl, by kernel_rfl, by kernel_rfl⟩
theorem QcD : Body pg 51 12 [.tmp 2] ZX := ⟨Tryz.f51, Tryz.func51, by kernel_rfl, by kernel_rfl, by kernel_rfl, by kernel_rfl⟩
theorem Qys : Qxt pg Tryz.laysM252_ren 78 104 105 106 3 48 49 51 := ⟨Tryz.laysM252, ⟨XQ, Qc1, QdE⟩, J2, QcC, QcD⟩
theorem QgV : Body pg 47 17 [] (Zn 33 48 49) := ⟨Tryz.f47, Tryz.func47, by kernel_rfl, by kernel_rfl, by kernel_rfl, by kernel_rfl⟩
theorem QjR : QnH pg 26 := Qpe Qys Qlg QjT QgV JH Qfh
theorem QeR : Body pg 74 27 [.tmp 2] (Qu 60) := ⟨Tryz.f74, Tryz.func74, by kernel_rfl, by kernel_rfl, by kernel_rfl, by kernel_rfl⟩
theorem Qfk : Qfb pg 74 := QrZ QeR
theorem Qf1 : Body pg 44 18 [.tmp 2, .tmp 3] (Jj 74 60) := ⟨Tryz.f44, Tryz.func44, by kernel_rfl, by kernel_rfl, by kernel_rfl, by kernel_rfl⟩
theorem QoZ : QnK pg 44 := Quz Qf1 Qfk
theorem Qf0 : Body pg 45 67 [.tmp 6] (Xh 33 60 145 5 1 2) := ⟨Tryz.f45, Tryz.func45, by kernel_rfl, by kernel_rfl, by kernel_rfl, by kernel_rfl⟩
theorem Qg8 : Qju pg 45 := Quy Qf0 JH (show pg.G.lookup 1 = some XF by rfl) (show pg.G.lookup 2 = some QmO by rfl)
theorem QeQ : Body pg 24 21 [.tmp 2, .tmp 3] (Z0 44 45 60) := ⟨Tryz.f24, Tryz.func24, by kernel_rfl, by kernel_rfl, by kernel_rfl, by kernel_rfl⟩
theorem QlY : Qjm pg 24 := QrY QeQ Qg8 QoZ
theorem Qi6 : Body pg 83 10 [.tmp 4] QaJ := ⟨Tryz.f83, Tryz.func83, by kernel_rfl, by kernel_rfl, by kernel_rfl, by kernel_rfl⟩
theorem Qh1 : Qjg pg 83 := Qnj Qi6
theorem Qf2 : Body pg 54 61 [.cell 2 60, .tmp 3] (Jk 80 74 45 83 60 145 1) := ⟨Tryz.f54, Tryz.func54, by kernel_rfl, by kernel_rfl, by kernel_rfl, by kernel_rfl⟩
theorem Qo0 : QnL pg 54 := QuA Qf2 QlW Qfk Qg8 Qh1 (show pg.G.lookup 1 = some XF by rfl) (show Z6 Tryz.prog 60 = some (some 3) by kernel_rfl)
theorem QfV : Body pg 55 81 [.tmp 4, .tmp 5] (Zb 73 21) := ⟨Tryz.f55, Tryz.func55, by kernel_rfl, by kernel_rfl, by kernel_rfl, by kernel_rfl⟩
theorem Qff : Qgc pg 55 := Qhz QfV QaY
theorem QiL : Body pg 25 43 [.tmp 4, .tmp 5] (Zz 43 5) := ⟨Tryz.f25, Tryz.func25, by kernel_rfl, by kernel_rfl, by kernel_rfl, by kernel_rfl⟩

end Go.Proofs.YtpipccfcpeemfacGreatDoor.encodeSame

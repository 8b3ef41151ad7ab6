/- What the functions that the law reaches return in this program, part 3; no conditions. -/
import Derived.Test.YtkilhchobbfjhaaGreatDoorTopFramesI2
set_option linter.unusedSectionVars false
set_option linter.unusedSimpArgs false
set_option linter.unusedVariables false
namespace Go.Proofs.YtkilhchobbfjhaaGreatDoor.topFrames
open Go.Am Go.ChangeShapes Go.WideShapes Go.ChangeAt Go.RowKit

theorem QdG : Ql pg 90 41 [.tmp 4, .tmp 5] (QR 112 3) := ⟨Tryz.f90, Tryz.func90, by kernel_rfl, by kernel_rfl, by kernel_rfl, by kernel_rfl⟩
theorem Qle : Qm1 pg 90 := QqK QdG Qjt
theorem QcB : Ql pg 56 17 [.tmp 4, .tmp 5] (Zh 90) := ⟨Tryz.f56, Tryz.func56, by kernel_rfl, by kernel_rfl, by kernel_rfl, by kernel_rfl⟩
theorem QhO : Qab pg 56 := QlG QcB Qle
theorem QcX : Ql pg 20 21 [.tmp 4] (Xa 6 55 56 24) := ⟨Tryz.f20, Tryz.func20, by kernel_rfl, by kernel_rfl, by kernel_rfl, by kernel_rfl⟩
theorem Qjs : Qgl pg 20 := QoJ QcX QaZ QhP QhO
theorem QcA : Ql pg 5 20 [.tmp 2] (ZX 6 19 20 24) := ⟨Tryz.f5, Tryz.func5, by kernel_rfl, by kernel_rfl, by kernel_rfl, by kernel_rfl⟩
theorem QhN : Xr pg 5 := QlF QcA QaZ QhQ Qjs
theorem Qsm : Ql pg 75 14 [.tmp 4] QaR := ⟨Tryz.f75, Tryz.func75, by kernel_rfl, by kernel_rfl, by kernel_rfl, by kernel_rfl⟩
theorem QpX : Qsy pg 75 := QvF Qsm
theorem Qpz : Ql pg 36 35 [.tmp 4, .tmp 5] (Qbm 75 5) := ⟨Tryz.f36, Tryz.func36, by kernel_rfl, by kernel_rfl, by kernel_rfl, by kernel_rfl⟩
theorem Qop : Qgh pg 36 := QtG Qpz QpX
theorem QiM : Ql pg 107 24 [.tmp 0] (QaB 195) := ⟨Tryz.f107, Tryz.func107, by kernel_rfl, by kernel_rfl, by kernel_rfl, by kernel_rfl⟩
theorem QhX : QmM pg 107 := Qmh QiM
theorem QkO : Ql pg 74 32 [.tmp 4, .tmp 5] (JO 107) := ⟨Tryz.f74, Tryz.func74, by kernel_rfl, by kernel_rfl, by kernel_rfl, by kernel_rfl⟩
theorem QjB : QmZ pg 74 := Qpg QkO QhX
theorem QmB : Ql pg 35 16 [.tmp 2, .tmp 3] (Qam 74) := ⟨Tryz.f35, Tryz.func35, by kernel_rfl, by kernel_rfl, by kernel_rfl, by kernel_rfl⟩
theorem QcN : QkY pg 35 := QrW QmB QjB
theorem Qc1 : Ql pg 119 19 [.tmp 4] QL := ⟨Tryz.f119, Tryz.func119, by kernel_rfl, by kernel_rfl, by kernel_rfl, by kernel_rfl⟩
theorem Qjv : QsC pg 119 := QoN Qc1
theorem Qc2 : Ql pg 111 18 [.tmp 4] (Xd 119) := ⟨Tryz.f111, Tryz.func111, by kernel_rfl, by kernel_rfl, by kernel_rfl, by kernel_rfl⟩
theorem Qjw : QsH pg 111 := QoO Qc2 Qjv
theorem Qb5 : Ql pg 88 19 [.tmp 4] (ZF 111) := ⟨Tryz.f88, Tryz.func88, by kernel_rfl, by kernel_rfl, by kernel_rfl, by kernel_rfl⟩
theorem QgC : Qgq pg 88 := QjW Qb5 Qjw
theorem Qeg : Ql pg 52 6 [.tmp 2] (XJ 88) := ⟨Tryz.f52, Tryz.func52, by kernel_rfl, by kernel_rfl, by kernel_rfl, by kernel_rfl⟩
theorem Qol : Qwj pg 52 := Qtn Qeg QgC
theorem QkT : Ql pg 68 40 [.tmp 2] (JQ 85) := ⟨Tryz.f68, Tryz.func68, by kernel_rfl, by kernel_rfl, by kernel_rfl, by kernel_rfl⟩
theorem Zd : XL pg 68 := Qpt QkT
theorem QpA : Ql pg 83 47 [.tmp 6] (Qc6 85) := ⟨Tryz.f83, Tryz.func83, by kernel_rfl, by kernel_rfl, by kernel_rfl, by kernel_rfl⟩
theorem Qhc : Qn8 pg 83 := Qul QpA
theorem QpC : Ql pg 44 34 [.tmp 6, .tmp 7] (Qbt 68 83 85) := ⟨Tryz.f44, Tryz.func44, by kernel_rfl, by kernel_rfl, by kernel_rfl, by kernel_rfl⟩
theorem Qcf : QhB pg 44 := Qun QpC Zd Qhc
theorem J4 : Ql pg 124 14 [.tmp 2] (Q2 0) := ⟨Tryz.f124, Tryz.func124, by kernel_rfl, by kernel_rfl, by kernel_rfl, by kernel_rfl⟩
theorem Qp1 : QxW pg 124 := Qv5 J4 (show pg.G.lookup 0 = some dbG by rfl)
theorem Qg2 : Ql pg 123 8 [.tmp 2] J6 := ⟨Tryz.f123, Tryz.func123, by kernel_rfl, by kernel_rfl, by kernel_rfl, by kernel_rfl⟩
theorem Qjo : QiV pg 123 := Qos Qg2
theorem QkC : Ql pg 118 53 [.tmp 4, .tmp 5, .tmp 6] (Qbi 68 123 44 124 85 3) := ⟨Tryz.f118, Tryz.func118, by kernel_rfl, by kernel_rfl, by kernel_rfl, by kernel_rfl⟩
theorem Qjp : QmL pg 118 := Qot QkC Zd Qjo Qcf Qp1
theorem QkK : Ql pg 67 2 [.cell 0 81] (Qbn 81) := ⟨Tryz.f67, Tryz.func67, by kernel_rfl, by kernel_rfl, by kernel_rfl, by kernel_rfl⟩
theorem QbN : Qca pg 67 := Qpa QkK (show ZD Tryz.prog 81 = some (some 4) by kernel_rfl)
theorem QkM : Ql pg 69 26 [.tmp 2] (Qbp 81) := ⟨Tryz.f69, Tryz.func69, by kernel_rfl, by kernel_rfl, by kernel_rfl, by kernel_rfl⟩
theorem Qad : Qcv pg 69 := Qpc QkM
theorem QkI : Ql pg 70 17 [.tmp 4, .tmp 5] (JL 81) := ⟨Tryz.f70, Tryz.func70, by kernel_rfl, by kernel_rfl, by kernel_rfl, by kernel_rfl⟩
theorem Ji : Qcb pg 70 := Qo8 QkI
theorem Qg4 : Ql pg 104 9 [.tmp 4] XE := ⟨Tryz.f104, Tryz.func104, by kernel_rfl, by kernel_rfl, by kernel_rfl, by kernel_rfl⟩

end Go.Proofs.YtkilhchobbfjhaaGreatDoor.topFrames

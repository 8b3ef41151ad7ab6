/- What the functions that the law reaches return in this program, part 2; no conditions. -/
import Derived.Test.YtkilhchobbfjhaaGreatDoorTopFramesI1
set_option linter.unusedSectionVars false
set_option linter.unusedSimpArgs false
set_option linter.unusedVariables false
namespace Go.Proofs.YtkilhchobbfjhaaGreatDoor.topFrames
open Go.Am Go.ChangeShapes Go.WideShapes Go.ChangeAt Go.RowKit

theorem Qdi : Qfm pg 99 := Qmm QiO Qha
theorem Qgf : Ql pg 65 44 [.tmp 4, .cell 5 131, .tmp 6] (Jz 99 100 101 131 129) := ⟨Tryz.f65, Tryz.func65, by kernel_rfl, by kernel_rfl, by kernel_rfl, by kernel_rfl⟩
theorem Qfy : Qen pg 65 := Qiw Qgf (show ZD Tryz.prog 131 = some (some 35) by kernel_rfl) Qdi Qdf QhS
theorem QkS : Ql pg 84 46 [.tmp 4, .cell 5 131, .tmp 6] (Qbr 99 100 109 131 129) := ⟨Tryz.f84, Tryz.func84, by kernel_rfl, by kernel_rfl, by kernel_rfl, by kernel_rfl⟩
theorem QjD : Qm0 pg 84 := Qpn QkS (show ZD Tryz.prog 131 = some (some 35) by kernel_rfl) Qdi Qdf Qoo
theorem Qmx : Ql pg 66 10 [.tmp 2] Qaj := ⟨Tryz.f66, Tryz.func66, by kernel_rfl, by kernel_rfl, by kernel_rfl, by kernel_rfl⟩
theorem Qlg : QsF pg 66 := Qrx Qmx
theorem Qmy : Ql pg 85 11 [.tmp 2] Qak := ⟨Tryz.f85, Tryz.func85, by kernel_rfl, by kernel_rfl, by kernel_rfl, by kernel_rfl⟩
theorem Qlh : QmQ pg 85 := Qry Qmy
theorem Z9 : Ql pg 24 8 [.tmp 2] (Qz 21) := ⟨Tryz.f24, Tryz.func24, by kernel_rfl, by kernel_rfl, by kernel_rfl, by kernel_rfl⟩
theorem Qfv : Qfl 21 pg 24 := QrX Z9
theorem Qsk : Ql pg 97 39 [] Qei := ⟨Tryz.f97, Tryz.func97, by kernel_rfl, by kernel_rfl, by kernel_rfl, by kernel_rfl⟩
theorem QpV : Qwi pg 97 := QvB Qsk
theorem Qmw : Ql pg 96 22 [.tmp 4] ZS := ⟨Tryz.f96, Tryz.func96, by kernel_rfl, by kernel_rfl, by kernel_rfl, by kernel_rfl⟩
theorem Qfs : Qfh pg 96 := Qq9 Qmw
theorem Qsl : Ql pg 63 32 [.tmp 4, .tmp 5] (Qej 96 24 97) := ⟨Tryz.f63, Tryz.func63, by kernel_rfl, by kernel_rfl, by kernel_rfl, by kernel_rfl⟩
theorem QpW : Qi5 pg 63 := QvC Qsl Qfs Qfv QpV
theorem Qgd : Ql pg 62 30 [.tmp 4] (Jw 40 57 28) := ⟨Tryz.f62, Tryz.func62, by kernel_rfl, by kernel_rfl, by kernel_rfl, by kernel_rfl⟩
theorem Qft : QhD pg 62 := Qik Qgd ZL QaY
theorem QcE : Ql pg 19 28 [.tmp 4] (ZZ 53 54 28) := ⟨Tryz.f19, Tryz.func19, by kernel_rfl, by kernel_rfl, by kernel_rfl, by kernel_rfl⟩
theorem QhQ : QhD pg 19 := QlJ QcE Qde QhR
theorem QeS : Ql pg 31 83 [.tmp 6, .tmp 7] (X7 62 63 64 65 66 28 40 132 131 86) := ⟨Tryz.f31, Tryz.func31, by kernel_rfl, by kernel_rfl, by kernel_rfl, by kernel_rfl⟩
theorem Qby : Qi8 pg 31 := QgM QeS Qft QpW Qfx Qfy Qlg
theorem Qc0 : Ql pg 15 26 [.tmp 4] Xc := ⟨Tryz.f15, Tryz.func15, by kernel_rfl, by kernel_rfl, by kernel_rfl, by kernel_rfl⟩
theorem Qju : QmY pg 15 := QoM Qc0
theorem Qmv : Ql pg 110 40 [] Qai := ⟨Tryz.f110, Tryz.func110, by kernel_rfl, by kernel_rfl, by kernel_rfl, by kernel_rfl⟩
theorem Qlf : QmP pg 110 := Qq8 Qmv
theorem Qpw : Ql pg 86 32 [.tmp 4, .tmp 5] (Qc3 96 24 110) := ⟨Tryz.f86, Tryz.func86, by kernel_rfl, by kernel_rfl, by kernel_rfl, by kernel_rfl⟩
theorem Qom : Qgm pg 86 := Qtx Qpw Qfs Qfv Qlf
theorem Qee : Ql pg 45 84 [.tmp 6, .tmp 7] (XG 64 85 84 86 57 28 40 132 131 21) := ⟨Tryz.f45, Tryz.func45, by kernel_rfl, by kernel_rfl, by kernel_rfl, by kernel_rfl⟩
theorem QaI : Qob pg 45 := Qf0 Qee Qfx Qlh QjD Qom QaY
theorem Qef : Ql pg 87 34 [.tmp 6, .tmp 7] (XH 40 45 28 40) := ⟨Tryz.f87, Tryz.func87, by kernel_rfl, by kernel_rfl, by kernel_rfl, by kernel_rfl⟩
theorem QdQ : Qem pg 87 := Qf1 Qef ZL QaI
theorem Qgc : Ql pg 25 32 [.tmp 4, .tmp 5] (Jv 26) := ⟨Tryz.f25, Tryz.func25, by kernel_rfl, by kernel_rfl, by kernel_rfl, by kernel_rfl⟩
theorem QbM : Qab pg 25 := Qib Qgc QcG
theorem QeD : Ql pg 23 8 [.cell 2 28] (Z7 24 28) := ⟨Tryz.f23, Tryz.func23, by kernel_rfl, by kernel_rfl, by kernel_rfl, by kernel_rfl⟩
theorem Qes : XM pg 23 := Qpj QeD (show ZD Tryz.prog 28 = some (some 2) by kernel_rfl)
theorem Qcz : Ql pg 6 8 [.cell 2 28] (ZW 24 28) := ⟨Tryz.f6, Tryz.func6, by kernel_rfl, by kernel_rfl, by kernel_rfl, by kernel_rfl⟩
theorem QaZ : XM pg 6 := QlE Qcz (show ZD Tryz.prog 28 = some (some 2) by kernel_rfl)
theorem QmC : Ql pg 50 31 [.tmp 4] (Qb8 23 40 25 24) := ⟨Tryz.f50, Tryz.func50, by kernel_rfl, by kernel_rfl, by kernel_rfl, by kernel_rfl⟩
theorem Qfw : Qjc pg 50 := QrY QmC Qes ZL QbM
theorem QkR : Ql pg 21 33 [.tmp 2] (XI 50 57 24) := ⟨Tryz.f21, Tryz.func21, by kernel_rfl, by kernel_rfl, by kernel_rfl, by kernel_rfl⟩
theorem Qeu : Xr pg 21 := Qpm QkR Qfw QaY
theorem QcC : Ql pg 55 19 [.tmp 4] (ZY 53 28) := ⟨Tryz.f55, Tryz.func55, by kernel_rfl, by kernel_rfl, by kernel_rfl, by kernel_rfl⟩
theorem QhP : Qcc pg 55 := QlH QcC Qde

end Go.Proofs.YtkilhchobbfjhaaGreatDoor.topFrames

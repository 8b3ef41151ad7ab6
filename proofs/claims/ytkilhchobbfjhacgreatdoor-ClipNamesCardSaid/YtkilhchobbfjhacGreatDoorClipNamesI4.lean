/- What the functions that the law reaches return in this program, part 4; no conditions. -/
import Derived.Test.YtkilhchobbfjhacGreatDoorClipNamesI3
set_option linter.unusedSectionVars false
set_option linter.unusedSimpArgs false
set_option linter.unusedVariables false
namespace Go.Proofs.YtkilhchobbfjhacGreatDoor.clipNames
open Go.Am Go.ChangeShapes Go.WideShapes Go.ChangeAt Go.RowKit

theorem Qic : Qo pg 30 69 [.cell 6 76, .cell 7 72, .tmp 8] (XZ 55 56 57 58 59 60 76 72) := ⟨Tryz.f30, Tryz.func30, by kernel_rfl, by kernel_rfl, by kernel_rfl, by kernel_rfl⟩
theorem Qg4 : QgA pg 30 := Ql7 Qic Q4 QcX QaK Qcu Qg1 Qc7 Qbs QaK (show Zs Tryz.prog 76 = some (some 2) by kernel_rfl) (show Zs Tryz.prog 72 = some (some 4) by kernel_rfl)
theorem Qdo : Qo pg 29 11 [.cell 0 73] (Xr 54 73) := ⟨Tryz.f29, Tryz.func29, by kernel_rfl, by kernel_rfl, by kernel_rfl, by kernel_rfl⟩
theorem Qdd : Qch pg 29 := QeR Qdo QcW (show Zs Tryz.prog 73 = some (some 24) by kernel_rfl)
theorem JF : Qo pg 34 36 [.tmp 2] (Q0 63 5) := ⟨Tryz.f34, Tryz.func34, by kernel_rfl, by kernel_rfl, by kernel_rfl, by kernel_rfl⟩
theorem growB : Qez 5 pg 63 := grow_nil Tryz.growB rfl rfl (by kernel_rfl)
theorem QdS : QgI pg 34 := QfJ JF growB
theorem Qdq : Qo pg 15 85 [.tmp 6, .tmp 7] (ZI 28 29 30 31 32 33 34 50 44 73 76 72 38) := ⟨Tryz.f15, Tryz.func15, by kernel_rfl, by kernel_rfl, by kernel_rfl, by kernel_rfl⟩
theorem Qgm : Qo pg 31 64 [] (Xy 76 5) := ⟨Tryz.f31, Tryz.func31, by kernel_rfl, by kernel_rfl, by kernel_rfl, by kernel_rfl⟩
theorem Qaw : QqU pg 15 := QeT Qdq Qde Qdd Qg4 Qgm QdW Qlx QdS
theorem QcI : Qo pg 89 51 [.tmp 4, .tmp 5] Xc := ⟨Tryz.f89, Tryz.func89, by kernel_rfl, by kernel_rfl, by kernel_rfl, by kernel_rfl⟩
theorem Qg2 : QmD pg 89 := QlS QcI
theorem Qep : Qo pg 64 30 [.tmp 4, .tmp 5] (XL 88 89) := ⟨Tryz.f64, Tryz.func64, by kernel_rfl, by kernel_rfl, by kernel_rfl, by kernel_rfl⟩
theorem Qlu : QmD pg 64 := Qqe Qep Qg2
theorem Qai : Qo pg 40 48 [.tmp 4] (Zd 64 3) := ⟨Tryz.f40, Tryz.func40, by kernel_rfl, by kernel_rfl, by kernel_rfl, by kernel_rfl⟩
theorem Qc9 : Qew 3 pg 40 := QeL Qai Qlu
theorem Qaj : Qo pg 65 36 [.tmp 2] (Ze 90 3) := ⟨Tryz.f65, Tryz.func65, by kernel_rfl, by kernel_rfl, by kernel_rfl, by kernel_rfl⟩
theorem growI : QfA 3 pg 90 := grow_nilI Tryz.growI rfl rfl (by kernel_rfl)
theorem Qdb : QeB 3 pg 65 := QeN Qaj growI
theorem Qdn : Qo pg 41 9 [.tmp 4] (Xq 65 57) := ⟨Tryz.f41, Tryz.func41, by kernel_rfl, by kernel_rfl, by kernel_rfl, by kernel_rfl⟩
theorem Qdc : Qpr 3 pg 41 := QeP Qdn Qdb
theorem Qgi : Qo pg 22 39 [.tmp 4, .tmp 5] (JK 37 39 40 41 3) := ⟨Tryz.f22, Tryz.func22, by kernel_rfl, by kernel_rfl, by kernel_rfl, by kernel_rfl⟩
theorem QbN : Qll 3 pg 22 := Qi7 Qgi QaI Qbl Qc9 Qdc
theorem JG : Qo pg 25 43 [] (ZD 22) := ⟨Tryz.f25, Tryz.func25, by kernel_rfl, by kernel_rfl, by kernel_rfl, by kernel_rfl⟩
theorem QbP : Qcl 3 pg 25 := Qjz JG QbN
theorem Qih : Qo pg 12 4 [.tmp 2] (Qar 25 24) := ⟨Tryz.f12, Tryz.func12, by kernel_rfl, by kernel_rfl, by kernel_rfl, by kernel_rfl⟩
theorem QcZ : Qcm 25 pg 12 := Qmg Qih
theorem QmU : QgJ pg 13 := Qsh ZL
theorem Qii : Qkm pg 5 21 [.tmp 2, .tmp 3] (X4 9 12 13 24 26 22) := ⟨Tryz.f5, Tryz.func5, by kernel_rfl, by kernel_rfl, by kernel_rfl, by kernel_rfl⟩
theorem QaL : Qev pg 5 := Qmh Qii QaM QcZ QbP JG QmU (by decide) (by decide) (by decide)
theorem Jh : Qo pg 17 36 [.tmp 2] (QU 35 21) := ⟨Tryz.f17, Tryz.func17, by kernel_rfl, by kernel_rfl, by kernel_rfl, by kernel_rfl⟩
theorem growJ : S_GrowNilJ 21 pg 35 := grow_nilJ (k := .i32) (m := 4) Tryz.growJ rfl rfl (by omega) (by kernel_rfl)
theorem Qda : QeA pg 17 := QeM Jh growJ
theorem Qgp : Qo pg 19 10 [.tmp 4] Xz := ⟨Tryz.f19, Tryz.func19, by kernel_rfl, by kernel_rfl, by kernel_rfl, by kernel_rfl⟩
theorem Qg7 : Qke pg 19 := Qmi Qgp
theorem Zp : Qo pg 18 32 [.tmp 6] Qs := ⟨Tryz.f18, Tryz.func18, by kernel_rfl, by kernel_rfl, by kernel_rfl, by kernel_rfl⟩
theorem QbM : Qpo 19 pg 18 := Qdi Zp Qg7
theorem QjU : Qo pg 8 26 [.cell 4 24, .tmp 5] (QaY 17 5 18 19 24) := ⟨Tryz.f8, Tryz.func8, by kernel_rfl, by kernel_rfl, by kernel_rfl, by kernel_rfl⟩
theorem QiF : QgE pg 8 := QoO QjU Qda QaL QbM (show Zs Tryz.prog 24 = some (some 4) by kernel_rfl)
theorem Qgn : Qo pg 75 25 [.tmp 0] (JM 166) := ⟨Tryz.f75, Tryz.func75, by kernel_rfl, by kernel_rfl, by kernel_rfl, by kernel_rfl⟩
theorem QfG : Qgx pg 75 := Qjt Qgn
theorem Qe7 : Qo pg 74 29 [.tmp 6] Jl := ⟨Tryz.f74, Tryz.func74, by kernel_rfl, by kernel_rfl, by kernel_rfl, by kernel_rfl⟩
theorem QeI : QeC pg 74 := QhW Qe7
theorem Qif : Qo pg 48 13 [.tmp 4, .tmp 5] (X2 75 74) := ⟨Tryz.f48, Tryz.func48, by kernel_rfl, by kernel_rfl, by kernel_rfl, by kernel_rfl⟩
theorem Qg5 : Qkc pg 48 := Qmc Qif QfG QeI

end Go.Proofs.YtkilhchobbfjhacGreatDoor.clipNames

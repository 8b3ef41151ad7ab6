/- What the functions that the law reaches return in this program, part 6; no conditions. -/
import Derived.Test.YtkilhchobbfjhabGreatDoorEncodeFilesI5
set_option linter.unusedSectionVars false
set_option linter.unusedSimpArgs false
set_option linter.unusedVariables false
namespace Go.Proofs.YtkilhchobbfjhabGreatDoor.encodeFiles
open Go.Am Go.ChangeShapes Go.WideShapes Go.ChangeAt Go.RowKit

theorem Qj4 : Qj pg 96 25 [.tmp 0] (Qbd 203) := ⟨Tryz.f96, Tryz.func96, by kernel_rfl, by kernel_rfl, by kernel_rfl, by kernel_rfl⟩
theorem QiZ : Qkd pg 96 := Qog Qj4
theorem Qh2 : Qj pg 95 29 [.tmp 6] QaH := ⟨Tryz.f95, Tryz.func95, by kernel_rfl, by kernel_rfl, by kernel_rfl, by kernel_rfl⟩
theorem QhD : Qhi pg 95 := Qmj Qh2
theorem QmC : Qj pg 68 13 [.tmp 4, .tmp 5] (Qan 96 95) := ⟨Tryz.f68, Tryz.func68, by kernel_rfl, by kernel_rfl, by kernel_rfl, by kernel_rfl⟩
theorem Qli : Qfi pg 68 := Qq0 QmC QiZ QhD
theorem Qox : Qj pg 42 8 [.tmp 2, .tmp 3] (QaX 68) := ⟨Tryz.f42, Tryz.func42, by kernel_rfl, by kernel_rfl, by kernel_rfl, by kernel_rfl⟩
theorem Qgb : QgV pg 42 := Qtk Qox Qli
theorem QdS : Qj pg 146 18 [.tmp 4] QU := ⟨Tryz.f146, Tryz.func146, by kernel_rfl, by kernel_rfl, by kernel_rfl, by kernel_rfl⟩
theorem Qk8 : QoJ pg 146 := QqB QdS
theorem QdU : Qj pg 122 18 [.tmp 4] (XO 146) := ⟨Tryz.f122, Tryz.func122, by kernel_rfl, by kernel_rfl, by kernel_rfl, by kernel_rfl⟩
theorem Qla : QoS pg 122 := QqD QdU Qk8
theorem Qcq : Qj pg 94 19 [.tmp 4] (Z5 122) := ⟨Tryz.f94, Tryz.func94, by kernel_rfl, by kernel_rfl, by kernel_rfl, by kernel_rfl⟩
theorem Qdi : QcQ pg 94 := QlN Qcq Qla
theorem QdT : Qj pg 112 12 [.tmp 4, .tmp 5] (ZC 94) := ⟨Tryz.f112, Tryz.func112, by kernel_rfl, by kernel_rfl, by kernel_rfl, by kernel_rfl⟩
theorem Qk9 : Qfi pg 112 := QqC QdT Qdi
theorem QeE : Qj pg 88 8 [.tmp 2, .tmp 3] (ZR 112) := ⟨Tryz.f88, Tryz.func88, by kernel_rfl, by kernel_rfl, by kernel_rfl, by kernel_rfl⟩
theorem Qm4 : QgV pg 88 := Qsp QeE Qk9
theorem QtJ : Qj pg 43 18 [.cell 2 56] (Qfe 56) := ⟨Tryz.f43, Tryz.func43, by kernel_rfl, by kernel_rfl, by kernel_rfl, by kernel_rfl⟩
theorem Qry : Qip pg 43 := Qv2 QtJ (show Q4 Tryz.prog 56 = some (some 16) by kernel_rfl)
theorem Qfc : Qj pg 89 23 [.cell 2 56] (JB 56) := ⟨Tryz.f89, Tryz.func89, by kernel_rfl, by kernel_rfl, by kernel_rfl, by kernel_rfl⟩
theorem Qp0 : Qip pg 89 := QuP Qfc (show Q4 Tryz.prog 56 = some (some 16) by kernel_rfl)
theorem Qot : Qj pg 22 22 [.cell 2 56, .tmp 3] (Qct 42 43 56) := ⟨Tryz.f22, Tryz.func22, by kernel_rfl, by kernel_rfl, by kernel_rfl, by kernel_rfl⟩
theorem QmX : Qio pg 22 := Qsa Qot Qgb Qry (show Q4 Tryz.prog 56 = some (some 16) by kernel_rfl)
theorem QdI : Qj pg 59 18 [.cell 2 56, .tmp 3] (XI 88 89 56) := ⟨Tryz.f59, Tryz.func59, by kernel_rfl, by kernel_rfl, by kernel_rfl, by kernel_rfl⟩
theorem Qk0 : Qio pg 59 := Qqr QdI Qm4 Qp0 (show Q4 Tryz.prog 56 = some (some 16) by kernel_rfl)
theorem Qj6 : Qud pg 12 45 [.cell 4 43, .cell 5 28] (Qbf 21 22 23 25 24 24 43 28 56 27) := ⟨Tryz.f12, Tryz.func12, by kernel_rfl, by kernel_rfl, by kernel_rfl, by kernel_rfl⟩
theorem Qi2 : Qkx pg 12 := Qok Qj6 Qft QmX Qlk Qi1 Qdo Qfs QfF (show Q4 Tryz.prog 43 = some none by kernel_rfl) (show Q4 Tryz.prog 28 = some none by kernel_rfl) (by decide) (by decide) (by decide) (by decide) (by decide)
theorem Qow : Qj pg 29 16 [.tmp 2, .tmp 3] (QaW 42) := ⟨Tryz.f29, Tryz.func29, by kernel_rfl, by kernel_rfl, by kernel_rfl, by kernel_rfl⟩
theorem Qm7 : QoP pg 29 := Qti Qow Qgb
theorem Qh1 : Qj pg 14 18 [.tmp 2, .tmp 3] (Jy 29 27) := ⟨Tryz.f14, Tryz.func14, by kernel_rfl, by kernel_rfl, by kernel_rfl, by kernel_rfl⟩
theorem QhC : Qfl pg 14 := Qmg Qh1 Qm7 QcA
theorem QdC : Qj pg 64 6 [.tmp 2] (XE 94) := ⟨Tryz.f64, Tryz.func64, by kernel_rfl, by kernel_rfl, by kernel_rfl, by kernel_rfl⟩
theorem QkV : QtW pg 64 := Qql QdC Qdi
theorem Qb2 : Qj pg 38 6 [.tmp 2] (ZN 64 62) := ⟨Tryz.f38, Tryz.func38, by kernel_rfl, by kernel_rfl, by kernel_rfl, by kernel_rfl⟩
theorem Qf4 : QoH pg 38 := Qjd Qb2 QkV Qau
theorem QjS : Qj pg 30 31 [.tmp 2] XY := ⟨Tryz.f30, Tryz.func30, by kernel_rfl, by kernel_rfl, by kernel_rfl, by kernel_rfl⟩
theorem Qiz : QgY pg 30 := Qnn QjS
theorem QjR : Qj pg 15 38 [.tmp 2, .tmp 3] (JR 30 31 28 27) := ⟨Tryz.f15, Tryz.func15, by kernel_rfl, by kernel_rfl, by kernel_rfl, by kernel_rfl⟩
theorem QgJ : Qj pg 31 13 [] (X4 27 5) := ⟨Tryz.f31, Tryz.func31, by kernel_rfl, by kernel_rfl, by kernel_rfl, by kernel_rfl⟩
theorem Qiy : QgX pg 15 := Qnm QjR Qiz QgJ QcA Qdq
theorem QgM : Qj pg 51 44 [.tmp 2] (QF 40) := ⟨Tryz.f51, Tryz.func51, by kernel_rfl, by kernel_rfl, by kernel_rfl, by kernel_rfl⟩
theorem Qf8 : Qkl pg 51 := Qjr QgM
theorem QjV : Qj pg 52 25 [.tmp 2] (XZ 66 40) := ⟨Tryz.f52, Tryz.func52, by kernel_rfl, by kernel_rfl, by kernel_rfl, by kernel_rfl⟩
theorem QiR : Qt3 pg 52 := QnW QjV Qav

end Go.Proofs.YtkilhchobbfjhabGreatDoor.encodeFiles

/- What the functions that the law reaches return in this program, part 3; no conditions. -/
import Derived.Test.YtpfhdmbamkdnpacGreatDoorLinesOneI2
set_option linter.unusedSectionVars false
set_option linter.unusedSimpArgs false
set_option linter.unusedVariables false
namespace Go.Proofs.YtpfhdmbamkdnpacGreatDoor.linesOne
open Go.Am Go.ChangeShapes Go.WideShapes Go.ChangeAt Go.RowKit

set_option maxRecDepth 100000
variable {m : Int} {u1 u2 : {v : Value // isIf v}}
theorem Qm0 : Go.Am.Enters (pg m u1 u2) 36 := ⟨Tryz.f36, Tryz.func36, by kernel_rfl, by kernel_rfl⟩
theorem QnT : Qme 52 (pg m u1 u2) 36 := QoR (P := (pg m u1 u2)) copy_new copy_old Qm0
theorem XX : Qjz 52 5 (pg m u1 u2) 16 := QdG Xc QnT
theorem Qem : Body (pg m u1 u2) 15 20 [] (ZN 16 17) := mkB (A := Tryz.prog) rfl Tryz.func15 (by kernel_rfl)
theorem QhV : Qoo 52 5 3 (pg m u1 u2) 15 := Qll Qem XX Qlp
theorem Qhz : Body (pg m u1 u2) 6 70 [.tmp 2, .tmp 3] (Xk 14 15 16 18 31 23 29 52 3) := mkB (A := Tryz.prog) rfl Tryz.func6 (by kernel_rfl)
theorem Qm1 : Go.Am.Enters (pg m u1 u2) 18 := ⟨Tryz.f18, Tryz.func18, by kernel_rfl, by kernel_rfl⟩
theorem QnU : Qmg 52 5 (pg m u1 u2) 18 := QoS (P := (pg m u1 u2)) (ρ := Tryz.shLaysn169_ren) Tryz.shLaysn169 Tryz.shLaysn169X Qm1
theorem Qcn : Qgb (pg m u1 u2) 6 := QjY Qhz Qbf QhV XX QnU
theorem JS : Body (pg m u1 u2) 31 51 [.tmp 2] (Qf 23) := mkB (A := Tryz.prog) rfl Tryz.func31 (by kernel_rfl)
theorem Qd6 : J8 (pg m u1 u2) 31 := QgJ JS
theorem Qa6 : Body (pg m u1 u2) 32 18 [.tmp 2] (Q0 13 23) := mkB (A := Tryz.prog) rfl Tryz.func32 (by kernel_rfl)
theorem Qgo : Qf9 (pg m u1 u2) 32 := QjS Qa6 Qbe
theorem Qaj : Body (pg m u1 u2) 11 10 [.tmp 2] (QG 31 32 23) := mkB (A := Tryz.prog) rfl Tryz.func11 (by kernel_rfl)
theorem Qe3 : Jg (pg m u1 u2) 11 := Qig Qaj Qd6 Qgo
theorem Qah : Body (pg m u1 u2) 12 39 [.tmp 2] QF := mkB (A := Tryz.prog) rfl Tryz.func12 (by kernel_rfl)
theorem Qe2 : Jf (pg m u1 u2) 12 := Qie Qah
theorem Jp : Body (pg m u1 u2) 38 26 [.tmp 4] Qv := mkB (A := Tryz.prog) rfl Tryz.func38 (by kernel_rfl)
theorem Qe1 : QiU (pg m u1 u2) 38 := Qid Jp
theorem Qa5 : Body (pg m u1 u2) 19 24 [.tmp 4] (Qx 38 26) := mkB (A := Tryz.prog) rfl Tryz.func19 (by kernel_rfl)
theorem Qgn : Qf8 (pg m u1 u2) 19 := QjR Qa5 Qe1
theorem Qa4 : Body (pg m u1 u2) 7 17 [.tmp 4] (QZ 19 31) := mkB (A := Tryz.prog) rfl Tryz.func7 (by kernel_rfl)
theorem Qcm : Qc7 (pg m u1 u2) 7 := QjQ Qa4 Qgn
theorem Qag : Body (pg m u1 u2) 5 84 [.tmp 2] (Qk 11 12 13 31 29) := mkB (A := Tryz.prog) rfl Tryz.func5 (by kernel_rfl)
theorem Qe0 : Jv (pg m u1 u2) 5 := Qic Qag Qe3 Qe2 Qbe
theorem Jq : Body (pg m u1 u2) 3 92 [.tmp 4] (Qo 4 5 6 7 31) := mkB (A := Tryz.prog) rfl Tryz.func3 (by kernel_rfl)
theorem QfY : Body (pg m u1 u2) 8 62 [.tmp 4, .tmp 5] (QaN 20 21 22 23 25 26 24 27 42 23 37) := mkB (A := Tryz.prog) rfl Tryz.func8 (by kernel_rfl)
theorem QfS : Body (pg m u1 u2) 20 35 [.cell 4 23, .tmp 5] (QaH 39 42 23) := mkB (A := Tryz.prog) rfl Tryz.func20 (by kernel_rfl)
theorem Qeo : Body (pg m u1 u2) 22 63 [.tmp 2, .tmp 3] (JU 44 45 46 23 5 0) := mkB (A := Tryz.prog) rfl Tryz.func22 (by kernel_rfl)
theorem QfN : Body (pg m u1 u2) 24 38 [.tmp 2, .tmp 3] (QaE 35 48 46 37) := mkB (A := Tryz.prog) rfl Tryz.func24 (by kernel_rfl)
theorem JE : Body (pg m u1 u2) 25 26 [.tmp 4] (ZP 3) := mkB (A := Tryz.prog) rfl Tryz.func25 (by kernel_rfl)
theorem QdL : Body (pg m u1 u2) 26 5 [.tmp 2] JC := mkB (A := Tryz.prog) rfl Tryz.func26 (by kernel_rfl)
theorem QfX : Body (pg m u1 u2) 27 17 [.tmp 2] (QaM 5) := mkB (A := Tryz.prog) rfl Tryz.func27 (by kernel_rfl)
theorem QfM : Body (pg m u1 u2) 28 108 [.cell 4 26, .tmp 5] (QaD 49 50 51 34 52 26 23) := mkB (A := Tryz.prog) rfl Tryz.func28 (by kernel_rfl)
theorem Qf0 : Body (pg m u1 u2) 29 73 [.cell 4 29, .tmp 5] (QaP 53 28 54 55 56 29 26) := mkB (A := Tryz.prog) rfl Tryz.func29 (by kernel_rfl)
theorem QhJ : Body (pg m u1 u2) 39 33 [.tmp 2] (QbT 65 66 42) := mkB (A := Tryz.prog) rfl Tryz.func39 (by kernel_rfl)
theorem QiG : Body (pg m u1 u2) 40 22 [.cell 2 86, .tmp 3] (Qcy 67 68 86) := mkB (A := Tryz.prog) rfl Tryz.func40 (by kernel_rfl)
theorem QcV : Body (pg m u1 u2) 42 85 [.tmp 6, .tmp 7] (Jb 70 71 72 73 46 45 74 94 86 139 142 138 37) := mkB (A := Tryz.prog) rfl Tryz.func42 (by kernel_rfl)
theorem Qkq : Body (pg m u1 u2) 45 35 [.tmp 4, .tmp 5] (QdS 77 5) := mkB (A := Tryz.prog) rfl Tryz.func45 (by kernel_rfl)
theorem QiN : Body (pg m u1 u2) 46 16 [.tmp 2, .tmp 3] (QcF 78) := mkB (A := Tryz.prog) rfl Tryz.func46 (by kernel_rfl)
theorem QdH : Body (pg m u1 u2) 48 13 [] (Jz 45 5) := mkB (A := Tryz.prog) rfl Tryz.func48 (by kernel_rfl)
theorem QfR : Body (pg m u1 u2) 50 86 [.cell 2 23, .tmp 3] (QaG 80 81 46 75 76 23 97 0) := mkB (A := Tryz.prog) rfl Tryz.func50 (by kernel_rfl)
theorem Qhw : Body (pg m u1 u2) 52 69 [.tmp 4, .tmp 5] (QbK 81 46 35 3) := mkB (A := Tryz.prog) rfl Tryz.func52 (by kernel_rfl)
theorem QfK : Body (pg m u1 u2) 53 14 [.tmp 4] (QaC 83 42) := mkB (A := Tryz.prog) rfl Tryz.func53 (by kernel_rfl)
theorem QfZ : Body (pg m u1 u2) 56 42 [.tmp 4, .tmp 5] (QaO 34 23) := mkB (A := Tryz.prog) rfl Tryz.func56 (by kernel_rfl)

end Go.Proofs.YtpfhdmbamkdnpacGreatDoor.linesOne

/- What the functions that the law reaches return in this program, part 3; no conditions. -/
import Derived.Test.YtpfhdmbamkdnpabGreatDoorLinesBackI2
set_option linter.unusedSectionVars false
set_option linter.unusedSimpArgs false
set_option linter.unusedVariables false
namespace Go.Proofs.YtpfhdmbamkdnpabGreatDoor.linesBack
open Go.Am Go.ChangeShapes Go.WideShapes Go.ChangeAt Go.RowKit

set_option maxRecDepth 100000
variable {m : Int} {u1 u2 : {v : Value // isIf v}}
theorem QmU : Go.Am.Enters (pg m u1 u2) 33 := ⟨Tryz.f33, Tryz.func33, by kernel_rfl, by kernel_rfl⟩
theorem QnM : Ql8 50 (pg m u1 u2) 33 := QoM (P := (pg m u1 u2)) copy_new copy_old QmU
theorem XX : Qjw 50 5 (pg m u1 u2) 13 := QdJ Xc QnM
theorem Qeo : Body (pg m u1 u2) 12 20 [] (ZN 13 14) := mkB (A := Tryz.prog) rfl Tryz.func12 (by kernel_rfl)
theorem QhW : Qoh 50 5 3 (pg m u1 u2) 12 := Qlh Qeo XX Qll
theorem QhA : Body (pg m u1 u2) 5 70 [.tmp 2, .tmp 3] (Xk 11 12 13 15 31 23 29 50 3) := mkB (A := Tryz.prog) rfl Tryz.func5 (by kernel_rfl)
theorem QmV : Go.Am.Enters (pg m u1 u2) 15 := ⟨Tryz.f15, Tryz.func15, by kernel_rfl, by kernel_rfl⟩
theorem QnN : Qma 50 5 (pg m u1 u2) 15 := QoN (P := (pg m u1 u2)) (ρ := Tryz.shLaysn169_ren) Tryz.shLaysn169 Tryz.shLaysn169X QmV
theorem Qcp : Qgb (pg m u1 u2) 5 := QjV QhA Qbf QhW XX QnN
theorem JT : Body (pg m u1 u2) 35 51 [.tmp 2] (Qf 23) := mkB (A := Tryz.prog) rfl Tryz.func35 (by kernel_rfl)
theorem Qd9 : J8 (pg m u1 u2) 35 := QgK JT
theorem Qa6 : Body (pg m u1 u2) 36 18 [.tmp 2] (Q0 18 23) := mkB (A := Tryz.prog) rfl Tryz.func36 (by kernel_rfl)
theorem Qgq : Qf9 (pg m u1 u2) 36 := QjP Qa6 Qbe
theorem Qaj : Body (pg m u1 u2) 16 10 [.tmp 2] (QF 35 36 23) := mkB (A := Tryz.prog) rfl Tryz.func16 (by kernel_rfl)
theorem Qe3 : Jh (pg m u1 u2) 16 := Qig Qaj Qd9 Qgq
theorem Qah : Body (pg m u1 u2) 17 39 [.tmp 2] QE := mkB (A := Tryz.prog) rfl Tryz.func17 (by kernel_rfl)
theorem Qe2 : Jg (pg m u1 u2) 17 := Qie Qah
theorem Jq : Body (pg m u1 u2) 43 26 [.tmp 4] Qv := mkB (A := Tryz.prog) rfl Tryz.func43 (by kernel_rfl)
theorem Qe1 : QiU (pg m u1 u2) 43 := Qid Jq
theorem Qa5 : Body (pg m u1 u2) 20 24 [.tmp 4] (Qx 43 26) := mkB (A := Tryz.prog) rfl Tryz.func20 (by kernel_rfl)
theorem Qgp : Qf8 (pg m u1 u2) 20 := QjO Qa5 Qe1
theorem Qa4 : Body (pg m u1 u2) 8 17 [.tmp 4] (QZ 20 31) := mkB (A := Tryz.prog) rfl Tryz.func8 (by kernel_rfl)
theorem Qco : Qc9 (pg m u1 u2) 8 := QjN Qa4 Qgp
theorem Qag : Body (pg m u1 u2) 6 84 [.tmp 2] (Ql 16 17 18 31 29) := mkB (A := Tryz.prog) rfl Tryz.func6 (by kernel_rfl)
theorem Qe0 : Jv (pg m u1 u2) 6 := Qic Qag Qe3 Qe2 Qbe
theorem X9 : Body (pg m u1 u2) 3 88 [.tmp 4] (Qi 4 5 6 7 8 31) := mkB (A := Tryz.prog) rfl Tryz.func3 (by kernel_rfl)
theorem QfY : Body (pg m u1 u2) 9 62 [.tmp 4, .tmp 5] (QaN 21 22 23 24 26 27 25 28 45 23 40) := mkB (A := Tryz.prog) rfl Tryz.func9 (by kernel_rfl)
theorem QfS : Body (pg m u1 u2) 21 35 [.cell 4 23, .tmp 5] (QaH 44 45 23) := mkB (A := Tryz.prog) rfl Tryz.func21 (by kernel_rfl)
theorem Qeq : Body (pg m u1 u2) 23 63 [.tmp 2, .tmp 3] (JV 49 50 51 23 5 0) := mkB (A := Tryz.prog) rfl Tryz.func23 (by kernel_rfl)
theorem QfN : Body (pg m u1 u2) 25 38 [.tmp 2, .tmp 3] (QaE 32 53 51 40) := mkB (A := Tryz.prog) rfl Tryz.func25 (by kernel_rfl)
theorem JE : Body (pg m u1 u2) 26 26 [.tmp 4] (ZP 3) := mkB (A := Tryz.prog) rfl Tryz.func26 (by kernel_rfl)
theorem QdO : Body (pg m u1 u2) 27 5 [.tmp 2] JC := mkB (A := Tryz.prog) rfl Tryz.func27 (by kernel_rfl)
theorem QfX : Body (pg m u1 u2) 28 17 [.tmp 2] (QaM 5) := mkB (A := Tryz.prog) rfl Tryz.func28 (by kernel_rfl)
theorem QfM : Body (pg m u1 u2) 29 108 [.cell 4 26, .tmp 5] (QaD 54 55 56 31 57 26 23) := mkB (A := Tryz.prog) rfl Tryz.func29 (by kernel_rfl)
theorem Qf0 : Body (pg m u1 u2) 30 73 [.cell 4 29, .tmp 5] (QaP 58 29 59 60 61 29 26) := mkB (A := Tryz.prog) rfl Tryz.func30 (by kernel_rfl)
theorem QhK : Body (pg m u1 u2) 44 33 [.tmp 2] (QbU 70 71 45) := mkB (A := Tryz.prog) rfl Tryz.func44 (by kernel_rfl)
theorem QiG : Body (pg m u1 u2) 45 22 [.cell 2 96, .tmp 3] (QcB 72 73 96) := mkB (A := Tryz.prog) rfl Tryz.func45 (by kernel_rfl)
theorem QcX : Body (pg m u1 u2) 47 85 [.tmp 6, .tmp 7] (Jc 75 76 77 78 51 50 79 104 96 146 149 145 40) := mkB (A := Tryz.prog) rfl Tryz.func47 (by kernel_rfl)
theorem Qkm : Body (pg m u1 u2) 50 35 [.tmp 4, .tmp 5] (QdV 82 5) := mkB (A := Tryz.prog) rfl Tryz.func50 (by kernel_rfl)
theorem QiN : Body (pg m u1 u2) 51 16 [.tmp 2, .tmp 3] (QcI 83) := mkB (A := Tryz.prog) rfl Tryz.func51 (by kernel_rfl)
theorem QdK : Body (pg m u1 u2) 53 13 [] (Jz 50 5) := mkB (A := Tryz.prog) rfl Tryz.func53 (by kernel_rfl)
theorem QfR : Body (pg m u1 u2) 55 86 [.cell 2 23, .tmp 3] (QaG 85 86 51 80 81 23 107 0) := mkB (A := Tryz.prog) rfl Tryz.func55 (by kernel_rfl)
theorem Qhx : Body (pg m u1 u2) 57 69 [.tmp 4, .tmp 5] (QbL 86 51 32 3) := mkB (A := Tryz.prog) rfl Tryz.func57 (by kernel_rfl)
theorem QfK : Body (pg m u1 u2) 58 14 [.tmp 4] (QaC 88 45) := mkB (A := Tryz.prog) rfl Tryz.func58 (by kernel_rfl)
theorem QfZ : Body (pg m u1 u2) 61 42 [.tmp 4, .tmp 5] (QaO 31 23) := mkB (A := Tryz.prog) rfl Tryz.func61 (by kernel_rfl)

end Go.Proofs.YtpfhdmbamkdnpabGreatDoor.linesBack

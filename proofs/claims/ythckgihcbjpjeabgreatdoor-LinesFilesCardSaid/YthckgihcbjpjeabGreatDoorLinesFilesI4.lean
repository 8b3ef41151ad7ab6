/- What the functions that the law reaches return in this program, part 4; no conditions. -/
import Derived.Test.YthckgihcbjpjeabGreatDoorLinesFilesI3
set_option linter.unusedSectionVars false
set_option linter.unusedSimpArgs false
set_option linter.unusedVariables false
namespace Go.Proofs.YthckgihcbjpjeabGreatDoor.linesFiles
open Go.Am Go.ChangeShapes Go.WideShapes Go.ChangeAt Go.RowKit

set_option maxRecDepth 100000
variable {m : Int} {u1 u2 : {v : Value // isIf v}}
theorem QmG : Body (pg m u1 u2) 92 18 [.cell 2 121] (QcD 121) := mkB (A := Tryz.prog) rfl Tryz.func92 (by kernel_rfl)
theorem Qry : Qug (pg m u1 u2) 92 := Qxw QmG (show Zq Tryz.prog 121 = some (some 16) by kernel_rfl)
theorem Qhu : Body (pg m u1 u2) 58 22 [.cell 2 121, .tmp 3] (QaO 91 92 121) := mkB (A := Tryz.prog) rfl Tryz.func58 (by kernel_rfl)
theorem QgH : QpN (pg m u1 u2) 58 := Qsf Qhu QgM Qry (show Zq Tryz.prog 121 = some (some 16) by kernel_rfl)
theorem Qos : Body (pg m u1 u2) 63 16 [.tmp 2, .tmp 3] (QaP 91) := mkB (A := Tryz.prog) rfl Tryz.func63 (by kernel_rfl)
theorem Qnh : QoP (pg m u1 u2) 63 := QtE Qos QgM
theorem Qiy : Body (pg m u1 u2) 34 18 [.tmp 2, .tmp 3] (Ja 63 62) := mkB (A := Tryz.prog) rfl Tryz.func34 (by kernel_rfl)
theorem Qh5 : Qfc (pg m u1 u2) 34 := Qmn Qiy Qnh QiG
theorem Qel : Body (pg m u1 u2) 30 31 [.tmp 2] ZY := mkB (A := Tryz.prog) rfl Tryz.func30 (by kernel_rfl)
theorem Qbj : Qco (pg m u1 u2) 30 := QnA Qel
theorem Qcj : Body (pg m u1 u2) 43 44 [.tmp 2] (QH 26) := mkB (A := Tryz.prog) rfl Tryz.func43 (by kernel_rfl)
theorem Qb3 : Qgw (pg m u1 u2) 43 := Qj2 Qcj
theorem Qen : Body (pg m u1 u2) 44 25 [.tmp 2] (ZZ 70 26) := mkB (A := Tryz.prog) rfl Tryz.func44 (by kernel_rfl)
theorem QdC : QpQ (pg m u1 u2) 44 := QnV Qen Qb2
theorem QcY : Body (pg m u1 u2) 46 11 [.tmp 2] (ZH 43 44 26) := mkB (A := Tryz.prog) rfl Tryz.func46 (by kernel_rfl)
theorem Qh4 : QhP (pg m u1 u2) 46 := Ql7 QcY Qb3 QdC
theorem Qix : Body (pg m u1 u2) 17 25 [.tmp 4, .tmp 5] (Xh 34 45) := mkB (A := Tryz.prog) rfl Tryz.func17 (by kernel_rfl)
theorem QcQ : QeK (pg m u1 u2) 17 := Qmm Qix Qh5 Xl
theorem Qck : Body (pg m u1 u2) 18 17 [.tmp 2, .tmp 3] (ZV 46 47 26) := mkB (A := Tryz.prog) rfl Tryz.func18 (by kernel_rfl)
theorem Z8 : Ju (pg m u1 u2) 18 := Qj3 Qck Qh4 QdA
theorem Zz : Body (pg m u1 u2) 67 18 [.tmp 4] Qy := mkB (A := Tryz.prog) rfl Tryz.func67 (by kernel_rfl)
theorem QcN : QhM (pg m u1 u2) 67 := QlA Zz
theorem Qav : Body (pg m u1 u2) 40 8 [.tmp 4] (ZB 67) := mkB (A := Tryz.prog) rfl Tryz.func40 (by kernel_rfl)
theorem Qc9 : QhM (pg m u1 u2) 40 := QeT Qav QcN
theorem Qeo : Body (pg m u1 u2) 16 86 [.cell 2 26, .tmp 3] (Zu 40 41 42 43 44 26 100 0) := mkB (A := Tryz.prog) rfl Tryz.func16 (by kernel_rfl)
theorem Qbl : QeJ (pg m u1 u2) 16 := QnW Qeo Qc9 Qne Qdb Qb3 QdC (show Zq Tryz.prog 26 = some (some 5) by kernel_rfl) (show (pg m u1 u2).G.lookup 0 = some QAw by rfl)
theorem Qe8 : Body (pg m u1 u2) 139 18 [.tmp 4] (Z6 45) := mkB (A := Tryz.prog) rfl Tryz.func139 (by kernel_rfl)
theorem Jm : QmR (pg m u1 u2) 139 := Qho Qe8 Xl
theorem QmE : Body (pg m u1 u2) 39 4 [.tmp 2] (QbD 65 22) := mkB (A := Tryz.prog) rfl Tryz.func39 (by kernel_rfl)
theorem Qlf : QoH 65 (pg m u1 u2) 39 := Qqb QmE
theorem Qit : Body (pg m u1 u2) 85 20 [.tmp 2, .tmp 3] (Qay 121 26) := mkB (A := Tryz.prog) rfl Tryz.func85 (by kernel_rfl)
theorem Qv2 : Go.Am.Enters (pg m u1 u2) 121 := ⟨Tryz.f121, Tryz.func121, by kernel_rfl, by kernel_rfl⟩
theorem QxS : S_Atoi (pg m u1 u2) 121 := k_atoi (P := (pg m u1 u2)) (ρ := Tryz.shLaysCn172_ren) Tryz.shLaysCn172 Qv2 rfl rfl u1.2 u2.2
theorem QvZ : Go.Am.Enters (pg m u1 u2) 26 := ⟨Tryz.f26, Tryz.func26, by kernel_rfl, by kernel_rfl⟩
theorem Qs4 : S_Itoa (pg m u1 u2) 26 := k_itoa (P := (pg m u1 u2)) (ρ := Tryz.shLaysMn171_ren) Tryz.shLaysMn171 QvZ rfl
theorem QcO : Qgz (pg m u1 u2) 85 := QlY Qit QxS Qs4
theorem Ji : Body (pg m u1 u2) 88 15 [.tmp 4, .tmp 5] (QL 67) := mkB (A := Tryz.prog) rfl Tryz.func88 (by kernel_rfl)
theorem Qh2 : QcH (pg m u1 u2) 88 := QlB Ji QcN
theorem Qdl : Body (pg m u1 u2) 56 11 [.tmp 4, .tmp 5] (ZC 88) := mkB (A := Tryz.prog) rfl Tryz.func56 (by kernel_rfl)
theorem Qda : QcH (pg m u1 u2) 56 := QeU Qdl Qh2
theorem Qei : Body (pg m u1 u2) 123 8 [.tmp 6] (XN 168 9 3) := mkB (A := Tryz.prog) rfl Tryz.func123 (by kernel_rfl)
theorem QcK : Body (pg m u1 u2) 168 52 [] (Zn 160 120) := mkB (A := Tryz.prog) rfl Tryz.func168 (by kernel_rfl)
theorem Qmf : Go.Am.Enters (pg m u1 u2) 120 := ⟨Tryz.f120, Tryz.func120, by kernel_rfl, by kernel_rfl⟩
theorem QnT : S_StrIndex (pg m u1 u2) 120 := k_index (P := (pg m u1 u2)) (ρ := Tryz.shLaysn143_ren) Tryz.shLaysn143 Qmf rfl
theorem Qdx : Qdp 9 3 32 (pg m u1 u2) 123 := QfX Qei QcK QnT

end Go.Proofs.YthckgihcbjpjeabGreatDoor.linesFiles

/- What the functions that the law reaches return in this program, part 4; no conditions. -/
import Derived.Test.YtghngklehkkecabGreatDoorPushencNamesI3
set_option linter.unusedSectionVars false
set_option linter.unusedSimpArgs false
set_option linter.unusedVariables false
namespace Go.Proofs.YtghngklehkkecabGreatDoor.pushencNames
open Go.Am Go.ChangeShapes Go.WideShapes Go.ChangeAt Go.RowKit

theorem QiD : Qk pg 83 39 [.tmp 4, .tmp 5] (QaQ 98 28 99 100 3) := ⟨Tryz.f83, Tryz.func83, by kernel_rfl, by kernel_rfl, by kernel_rfl, by kernel_rfl⟩
theorem Qhr : Qrf 3 pg 83 := QlK QiD JX Z9 Qep Qer
theorem QcA : Qk pg 82 43 [] (XL 83) := ⟨Tryz.f82, Tryz.func82, by kernel_rfl, by kernel_rfl, by kernel_rfl, by kernel_rfl⟩
theorem QhE : Qf2 3 pg 82 := Qmh QcA Qhr
theorem QkS : Qk pg 62 4 [.tmp 2] (Qbx 82 64) := ⟨Tryz.f62, Tryz.func62, by kernel_rfl, by kernel_rfl, by kernel_rfl, by kernel_rfl⟩
theorem Qjy : Qf3 82 pg 62 := Qos QkS
theorem QiM : Qk pg 85 25 [.tmp 0] (QaT 181) := ⟨Tryz.f85, Tryz.func85, by kernel_rfl, by kernel_rfl, by kernel_rfl, by kernel_rfl⟩
theorem QhC : QiV pg 85 := Qmd QiM
theorem QgO : Qk pg 84 29 [.tmp 6] Qaf := ⟨Tryz.f84, Tryz.func84, by kernel_rfl, by kernel_rfl, by kernel_rfl, by kernel_rfl⟩
theorem Qgk : Qgc pg 84 := Qks QgO
theorem QkP : Qk pg 64 13 [.tmp 4, .tmp 5] (JO 85 84) := ⟨Tryz.f64, Tryz.func64, by kernel_rfl, by kernel_rfl, by kernel_rfl, by kernel_rfl⟩
theorem Qjw : QmL pg 64 := Qon QkP QhC Qgk
theorem Qmw : Qk pg 47 8 [.tmp 2, .tmp 3] (QaB 64) := ⟨Tryz.f47, Tryz.func47, by kernel_rfl, by kernel_rfl, by kernel_rfl, by kernel_rfl⟩
theorem Qfc : QnB pg 47 := QqA Qmw Qjw
theorem QqV : Qk pg 48 18 [.cell 2 70] (Qd0 70) := ⟨Tryz.f48, Tryz.func48, by kernel_rfl, by kernel_rfl, by kernel_rfl, by kernel_rfl⟩
theorem QoS : Qq7 pg 48 := QtK QqV (show ZP Tryz.prog 70 = some (some 16) by kernel_rfl)
theorem Qms : Qk pg 31 22 [.cell 2 70, .tmp 3] (Qb1 47 48 70) := ⟨Tryz.f31, Tryz.func31, by kernel_rfl, by kernel_rfl, by kernel_rfl, by kernel_rfl⟩
theorem QcD : QfY pg 31 := Qpo Qms Qfc QoS (show ZP Tryz.prog 70 = some (some 16) by kernel_rfl)
theorem QiO : Qrm pg 43 45 [.cell 4 26, .cell 5 27] (QaV 61 31 62 63 32 64 26 27 70 22) := ⟨Tryz.f43, Tryz.func43, by kernel_rfl, by kernel_rfl, by kernel_rfl, by kernel_rfl⟩
theorem QhF : Qi7 pg 43 := Qmi QiO Qee QcD Qjy QhE QcA Qed Jn (show ZP Tryz.prog 26 = some none by kernel_rfl) (show ZP Tryz.prog 27 = some none by kernel_rfl) (by decide) (by decide) (by decide) (by decide) (by decide)
theorem Qmv : Qk pg 56 16 [.tmp 2, .tmp 3] (QaA 47) := ⟨Tryz.f56, Tryz.func56, by kernel_rfl, by kernel_rfl, by kernel_rfl, by kernel_rfl⟩
theorem Qle : QmR pg 56 := Qqy Qmv Qfc
theorem QgN : Qk pg 35 18 [.tmp 2, .tmp 3] (XJ 56 54) := ⟨Tryz.f35, Tryz.func35, by kernel_rfl, by kernel_rfl, by kernel_rfl, by kernel_rfl⟩
theorem Qct : Qcl pg 35 := Qkq QgN Qle Qa0
theorem QiA : Qk pg 57 31 [.tmp 2] Xf := ⟨Tryz.f57, Tryz.func57, by kernel_rfl, by kernel_rfl, by kernel_rfl, by kernel_rfl⟩
theorem Qho : QfZ pg 57 := Qlx QiA
theorem Qiz : Qk pg 36 38 [.tmp 2, .tmp 3] (Jd 57 58 53 22) := ⟨Tryz.f36, Tryz.func36, by kernel_rfl, by kernel_rfl, by kernel_rfl, by kernel_rfl⟩
theorem QfL : Qk pg 58 13 [] (Xm 54 5) := ⟨Tryz.f58, Tryz.func58, by kernel_rfl, by kernel_rfl, by kernel_rfl, by kernel_rfl⟩
theorem QcW : Qdy pg 36 := Qlw Qiz Qho QfL Qa0 Qbd
theorem QfS : Qk pg 79 44 [.tmp 2] (QE 77) := ⟨Tryz.f79, Tryz.func79, by kernel_rfl, by kernel_rfl, by kernel_rfl, by kernel_rfl⟩
theorem Qe7 : Qi1 pg 79 := Qic QfS
theorem QiE : Qk pg 80 25 [.tmp 2] (Xg 98 77) := ⟨Tryz.f80, Tryz.func80, by kernel_rfl, by kernel_rfl, by kernel_rfl, by kernel_rfl⟩
theorem Qhu : Qra pg 80 := QlQ QiE JX
theorem QgL : Qk pg 55 11 [.tmp 2] (ZW 79 80 77) := ⟨Tryz.f55, Tryz.func55, by kernel_rfl, by kernel_rfl, by kernel_rfl, by kernel_rfl⟩
theorem Qcs : QdB pg 55 := Qj7 QgL Qe7 Qhu
theorem QiF : Qk pg 42 35 [.cell 4 77, .tmp 5] (ZJ 61 64 77) := ⟨Tryz.f42, Tryz.func42, by kernel_rfl, by kernel_rfl, by kernel_rfl, by kernel_rfl⟩
theorem Qhv : Qi6 pg 42 := QlR QiF Qee (show ZP Tryz.prog 77 = some (some 5) by kernel_rfl)
theorem Qcz : Qk pg 34 63 [.tmp 2, .tmp 3] (Zs 55 54 53 77 5 0) := ⟨Tryz.f34, Tryz.func34, by kernel_rfl, by kernel_rfl, by kernel_rfl, by kernel_rfl⟩
theorem Qgj : Qf7 pg 34 := Qj6 Qcz Qcs Qa0 Qbd (show pg.G.lookup 0 = some QuF by rfl)
theorem QfV : Qk pg 45 5 [.tmp 2] JA := ⟨Tryz.f45, Tryz.func45, by kernel_rfl, by kernel_rfl, by kernel_rfl, by kernel_rfl⟩
theorem Qfa : Qq8 pg 45 := Qij QfV
theorem QbG : Qk pg 44 26 [.tmp 4] (ZA 3) := ⟨Tryz.f44, Tryz.func44, by kernel_rfl, by kernel_rfl, by kernel_rfl, by kernel_rfl⟩
theorem QhA : Qrb 45 pg 44 := Ql2 QbG Qfa
theorem QiK : Qk pg 46 17 [.tmp 2] (QaS 5) := ⟨Tryz.f46, Tryz.func46, by kernel_rfl, by kernel_rfl, by kernel_rfl, by kernel_rfl⟩
theorem Qhz : QmN pg 46 := Ql1 QiK

end Go.Proofs.YtghngklehkkecabGreatDoor.pushencNames

/- What the functions that the law reaches return in this program, part 7; no conditions. -/
import Derived.Test.YtkilhchobbfjhabGreatDoorEncodeFilesI6
set_option linter.unusedSectionVars false
set_option linter.unusedSimpArgs false
set_option linter.unusedVariables false
namespace Go.Proofs.YtkilhchobbfjhabGreatDoor.encodeFiles
open Go.Am Go.ChangeShapes Go.WideShapes Go.ChangeAt Go.RowKit

theorem QhZ : Qj pg 26 11 [.tmp 2] (Xh 51 52 40) := ⟨Tryz.f26, Tryz.func26, by kernel_rfl, by kernel_rfl, by kernel_rfl, by kernel_rfl⟩
theorem QhB : Qhc pg 26 := Ql2 QhZ Qf8 QiR
theorem QjW : Qj pg 11 35 [.cell 4 40, .tmp 5] (ZY 21 24 40) := ⟨Tryz.f11, Tryz.func11, by kernel_rfl, by kernel_rfl, by kernel_rfl, by kernel_rfl⟩
theorem QiS : Qkw pg 11 := QnX QjW Qft (show Q4 Tryz.prog 40 = some (some 5) by kernel_rfl)
theorem QhY : Qj pg 13 63 [.tmp 2, .tmp 3] (Jv 26 27 28 40 5 0) := ⟨Tryz.f13, Tryz.func13, by kernel_rfl, by kernel_rfl, by kernel_rfl, by kernel_rfl⟩
theorem QhA : Qhb pg 13 := Ql1 QhY QhB QcA Qdq (show pg.G.lookup 0 = some QxJ by rfl)
theorem QgP : Qj pg 17 5 [.tmp 2] Qac := ⟨Tryz.f17, Tryz.func17, by kernel_rfl, by kernel_rfl, by kernel_rfl, by kernel_rfl⟩
theorem Qga : Qt0 pg 17 := Qjw QgP
theorem Qb1 : Qj pg 16 26 [.tmp 4] (ZM 3) := ⟨Tryz.f16, Tryz.func16, by kernel_rfl, by kernel_rfl, by kernel_rfl, by kernel_rfl⟩
theorem QiX : Qt4 17 pg 16 := Qn5 Qb1 Qga
theorem Qj1 : Qj pg 18 17 [.tmp 2] (Qbb 5) := ⟨Tryz.f18, Tryz.func18, by kernel_rfl, by kernel_rfl, by kernel_rfl, by kernel_rfl⟩
theorem QiW : QoM pg 18 := Qn4 Qj1
theorem Qj3 : Qj pg 6 62 [.tmp 4, .tmp 5] (Q9 11 12 13 14 16 17 15 18 24 40 27) := ⟨Tryz.f6, Tryz.func6, by kernel_rfl, by kernel_rfl, by kernel_rfl, by kernel_rfl⟩
theorem Qd6 : QkB pg 6 := Qn7 Qj3 QiS Qi2 QhA QhC QiX Qiy QiW
theorem QdD : Qj pg 90 7 [.tmp 2] Zz := ⟨Tryz.f90, Tryz.func90, by kernel_rfl, by kernel_rfl, by kernel_rfl, by kernel_rfl⟩
theorem QkW : Qkt pg 90 := Qqm QdD
theorem Qc1 : Qj pg 60 22 [.tmp 4] (Xk 90 3) := ⟨Tryz.f60, Tryz.func60, by kernel_rfl, by kernel_rfl, by kernel_rfl, by kernel_rfl⟩
theorem QiC : QgW pg 60 := Qnv Qc1 QkW
theorem Qfb : Qj pg 37 23 [.cell 4 40] (Xb 24 40) := ⟨Tryz.f37, Tryz.func37, by kernel_rfl, by kernel_rfl, by kernel_rfl, by kernel_rfl⟩
theorem QpZ : Qt1 pg 37 := QuO Qfb (show Q4 Tryz.prog 40 = some (some 5) by kernel_rfl)
theorem Qc0 : Qj pg 39 25 [.tmp 2] (Xj 62 63 5) := ⟨Tryz.f39, Tryz.func39, by kernel_rfl, by kernel_rfl, by kernel_rfl, by kernel_rfl⟩
theorem QiB : Qhh pg 39 := Qnu Qc0 Qau QeL
theorem Qc3 : Qj pg 36 42 [.tmp 2] (Xl 62 63 40 5) := ⟨Tryz.f36, Tryz.func36, by kernel_rfl, by kernel_rfl, by kernel_rfl, by kernel_rfl⟩
theorem QiE : Qfk 5 pg 36 := Qnx Qc3 Qau QeL
theorem Qj2 : Qj pg 8 17 [.tmp 4, .tmp 5] (Qbc 6 24) := ⟨Tryz.f8, Tryz.func8, by kernel_rfl, by kernel_rfl, by kernel_rfl, by kernel_rfl⟩
theorem QiY : QoO pg 8 := Qn6 Qj2 Qd6
theorem Qci : Qj pg 35 66 [.tmp 4] (Z1 59 60 61 24 56 27) := ⟨Tryz.f35, Tryz.func35, by kernel_rfl, by kernel_rfl, by kernel_rfl, by kernel_rfl⟩
theorem Qhr : Qt2 pg 35 := QlE Qci Qk0 QiC Qhu
theorem QcZ : Qj pg 20 50 [.tmp 4] (Xi 35 37 36 38 39 24 5 3) := ⟨Tryz.f20, Tryz.func20, by kernel_rfl, by kernel_rfl, by kernel_rfl, by kernel_rfl⟩
theorem QiA : QwI pg 20 := Qnt QcZ Qhr QpZ QiE Qf4 QiB
theorem Qdz : Qj pg 7 18 [.tmp 4, .tmp 5] (Q5 19 20 24) := ⟨Tryz.f7, Tryz.func7, by kernel_rfl, by kernel_rfl, by kernel_rfl, by kernel_rfl⟩
theorem Qfo : Qkq pg 7 := Qqi Qdz QiF QiA
theorem Qdy : Qj pg 9 17 [.tmp 4, .tmp 5] (XC 7 24) := ⟨Tryz.f9, Tryz.func9, by kernel_rfl, by kernel_rfl, by kernel_rfl, by kernel_rfl⟩
theorem QkS : QoL pg 9 := Qqh Qdy Qfo
theorem QaM : Qj pg 3 72 [.tmp 4] (QE 4 5 6 7 8 9 10 24) := ⟨Tryz.f3, Tryz.func3, by kernel_rfl, by kernel_rfl, by kernel_rfl, by kernel_rfl⟩
theorem Qdp : Qiq pg 3 := QeZ QaM QiD QkT Qd6 Qfo QiY QkS QkU

end Go.Proofs.YtkilhchobbfjhabGreatDoor.encodeFiles

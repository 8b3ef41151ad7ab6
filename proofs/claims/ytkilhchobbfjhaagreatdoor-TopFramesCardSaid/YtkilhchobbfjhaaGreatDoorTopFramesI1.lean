/- What the functions that the law reaches return in this program, part 1; no conditions. -/
import Derived.Test.YtkilhchobbfjhaaGreatDoorRows
import Derived.Test.YtkilhchobbfjhaaGreatDoorTopFramesY1
set_option linter.unusedSectionVars false
set_option linter.unusedSimpArgs false
set_option linter.unusedVariables false
namespace Go.Proofs.YtkilhchobbfjhaaGreatDoor.topFrames
open Go.Am Go.ChangeShapes Go.WideShapes Go.ChangeAt Go.RowKit

noncomputable def pg : Prg := ⟨Tryz.prog, [(0, [.int .u8 0, .int .u8 1, .int .u8 56, .int .u8 2, .int .u8 57, .int .u8 49, .int .u8 28, .int .u8 3, .int .u8 61, .int .u8 58, .int .u8 42, .int .u8 50, .int .u8 38, .int .u8 29, .int .u8 17, .int .u8 4, .int .u8 62, .int .u8 47, .int .u8 59, .int .u8 36, .int .u8 45, .int .u8 43, .int .u8 51, .int .u8 22, .int .u8 53, .int .u8 39, .int .u8 33, .int .u8 30, .int .u8 24, .int .u8 18, .int .u8 12, .int .u8 5, .int .u8 63, .int .u8 55, .int .u8 48, .int .u8 27, .int .u8 60, .int .u8 41, .int .u8 37, .int .u8 16, .int .u8 46, .int .u8 35, .int .u8 44, .int .u8 21, .int .u8 52, .int .u8 32, .int .u8 23, .int .u8 11, .int .u8 54, .int .u8 26, .int .u8 40, .int .u8 15, .int .u8 34, .int .u8 20, .int .u8 31, .int .u8 10, .int .u8 25, .int .u8 14, .int .u8 19, .int .u8 9, .int .u8 13, .int .u8 8, .int .u8 7, .int .u8 6])], fun g cs h => by
  simp only [List.lookup] at h
  repeat (first | (cases h; done) | (split at h; first | (cases h; rfl) | skip))⟩

theorem Qpy : Ql pg 79 31 [.tmp 2, .tmp 3] Qc5 := ⟨Tryz.f79, Tryz.func79, by kernel_rfl, by kernel_rfl, by kernel_rfl, by kernel_rfl⟩
theorem Qhb : Qct pg 79 := QtF Qpy
theorem QiA : Ql pg 78 18 [.tmp 2, .tmp 3, .tmp 4] ZA := ⟨Tryz.f78, Tryz.func78, by kernel_rfl, by kernel_rfl, by kernel_rfl, by kernel_rfl⟩
theorem Qdd : Qi4 pg 78 := Qk9 QiA
theorem QcZ : Ql pg 89 10 [.tmp 2] Xb := ⟨Tryz.f89, Tryz.func89, by kernel_rfl, by kernel_rfl, by kernel_rfl, by kernel_rfl⟩
theorem Qeq : Qoa pg 89 := QoL QcZ
theorem QiB : Ql pg 57 37 [.tmp 4] (Qav 78) := ⟨Tryz.f57, Tryz.func57, by kernel_rfl, by kernel_rfl, by kernel_rfl, by kernel_rfl⟩
theorem QaY : Qao pg 57 := Qla QiB Qdd
theorem QcF : Ql pg 54 37 [.tmp 4] (Z0 89) := ⟨Tryz.f54, Tryz.func54, by kernel_rfl, by kernel_rfl, by kernel_rfl, by kernel_rfl⟩
theorem QhR : Qao pg 54 := QlK QcF Qeq
theorem Qg5 : Ql pg 26 14 [.tmp 2, .tmp 3] ZT := ⟨Tryz.f26, Tryz.func26, by kernel_rfl, by kernel_rfl, by kernel_rfl, by kernel_rfl⟩
theorem QcG : Qbu pg 26 := Qj6 Qg5
theorem QcY : Ql pg 112 17 [.tmp 2, .tmp 3] QZ := ⟨Tryz.f112, Tryz.func112, by kernel_rfl, by kernel_rfl, by kernel_rfl, by kernel_rfl⟩
theorem Qjt : Qbu pg 112 := QoK QcY
theorem Qge : Ql pg 40 25 [.tmp 2] (Jy 78 28) := ⟨Tryz.f40, Tryz.func40, by kernel_rfl, by kernel_rfl, by kernel_rfl, by kernel_rfl⟩
theorem ZL : XN pg 40 := Qil Qge Qdd
theorem QcD : Ql pg 53 17 [.tmp 2] (QW 89 28) := ⟨Tryz.f53, Tryz.func53, by kernel_rfl, by kernel_rfl, by kernel_rfl, by kernel_rfl⟩
theorem Qde : XN pg 53 := QlI QcD Qeq
theorem Qpv : Ql pg 98 18 [.cell 4 129, .tmp 5] (X4 40 129) := ⟨Tryz.f98, Tryz.func98, by kernel_rfl, by kernel_rfl, by kernel_rfl, by kernel_rfl⟩
theorem Qha : Qn9 pg 98 := QsY Qpv (show ZD Tryz.prog 129 = some (some 33) by kernel_rfl)
theorem QkF : Ql pg 120 11 [.tmp 2] (XD 129) := ⟨Tryz.f120, Tryz.func120, by kernel_rfl, by kernel_rfl, by kernel_rfl, by kernel_rfl⟩
theorem QbL : QdK pg 120 := Qow QkF
theorem QkE : Ql pg 115 36 [.tmp 2, .tmp 3] (Qbk 120 129) := ⟨Tryz.f115, Tryz.func115, by kernel_rfl, by kernel_rfl, by kernel_rfl, by kernel_rfl⟩
theorem Qep : Qfg pg 115 := Qov QkE QbL
theorem Qmr : Ql pg 125 9 [.tmp 2] Jo := ⟨Tryz.f125, Tryz.func125, by kernel_rfl, by kernel_rfl, by kernel_rfl, by kernel_rfl⟩
theorem Qlb : QmR pg 125 := Qqa Qmr
theorem QkD : Ql pg 121 53 [.cell 4 129, .tmp 5] (Qbj 120 125 129) := ⟨Tryz.f121, Tryz.func121, by kernel_rfl, by kernel_rfl, by kernel_rfl, by kernel_rfl⟩
theorem Qjq : Qi2 pg 121 := Qou QkD (show ZD Tryz.prog 129 = some (some 33) by kernel_rfl) QbL Qlb
theorem Qms : Ql pg 122 22 [.cell 4 129, .tmp 5] (Qb6 120 129) := ⟨Tryz.f122, Tryz.func122, by kernel_rfl, by kernel_rfl, by kernel_rfl, by kernel_rfl⟩
theorem Qlc : QmS pg 122 := Qqb Qms (show ZD Tryz.prog 129 = some (some 33) by kernel_rfl) QbL
theorem QkH : Ql pg 116 20 [.cell 6 129] (Qbl 121 122 129) := ⟨Tryz.f116, Tryz.func116, by kernel_rfl, by kernel_rfl, by kernel_rfl, by kernel_rfl⟩
theorem Qer : QdN pg 116 := QoV QkH (show ZD Tryz.prog 129 = some (some 33) by kernel_rfl) Qjq Qlc
theorem QiE : Ql pg 101 27 [.tmp 4, .cell 5 129, .tmp 6] (Qax 115 116 129) := ⟨Tryz.f101, Tryz.func101, by kernel_rfl, by kernel_rfl, by kernel_rfl, by kernel_rfl⟩
theorem QhS : Qel pg 101 := QlQ QiE (show ZD Tryz.prog 129 = some (some 33) by kernel_rfl) Qep Qer
theorem Qpx : Ql pg 109 27 [.tmp 4, .cell 5 129, .tmp 6] (Qc4 115 116 129) := ⟨Tryz.f109, Tryz.func109, by kernel_rfl, by kernel_rfl, by kernel_rfl, by kernel_rfl⟩
theorem Qoo : QmW pg 109 := QtA Qpx (show ZD Tryz.prog 129 = some (some 33) by kernel_rfl) Qep Qer
theorem QiH : Ql pg 113 10 [.tmp 2, .tmp 3] Xj := ⟨Tryz.f113, Tryz.func113, by kernel_rfl, by kernel_rfl, by kernel_rfl, by kernel_rfl⟩
theorem QhU : Qi7 pg 113 := QlZ QiH
theorem QiG : Ql pg 114 16 [.tmp 4] Jd := ⟨Tryz.f114, Tryz.func114, by kernel_rfl, by kernel_rfl, by kernel_rfl, by kernel_rfl⟩
theorem QhT : Qi6 pg 114 := QlY QiG
theorem QiI : Ql pg 100 19 [.tmp 4, .tmp 5] (Qaz 113 114) := ⟨Tryz.f100, Tryz.func100, by kernel_rfl, by kernel_rfl, by kernel_rfl, by kernel_rfl⟩
theorem Qdf : Qfj pg 100 := Ql0 QiI QhU QhT
theorem QmD : Ql pg 64 21 [.cell 4 131, .tmp 5] (Qb9 98 40 131 129) := ⟨Tryz.f64, Tryz.func64, by kernel_rfl, by kernel_rfl, by kernel_rfl, by kernel_rfl⟩
theorem Qfx : Qoc pg 64 := Qr1 QmD (show ZD Tryz.prog 131 = some (some 35) by kernel_rfl) Qha
theorem QiO : Ql pg 99 24 [.tmp 2] (QaD 98 131 129) := ⟨Tryz.f99, Tryz.func99, by kernel_rfl, by kernel_rfl, by kernel_rfl, by kernel_rfl⟩

end Go.Proofs.YtkilhchobbfjhaaGreatDoor.topFrames

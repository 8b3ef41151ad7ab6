/- What the functions that the law reaches return in this program, part 1; no conditions. -/
import Derived.Test.YtghngklehkkecaaGreatDoorRows
import Derived.Test.YtghngklehkkecaaGreatDoorTopFileY1
set_option linter.unusedSectionVars false
set_option linter.unusedSimpArgs false
set_option linter.unusedVariables false
namespace Go.Proofs.YtghngklehkkecaaGreatDoor.topFile
open Go.Am Go.ChangeShapes Go.WideShapes Go.ChangeAt Go.RowKit

noncomputable def pg : Prg := ⟨Tryz.prog, [(4, [.int .u8 0, .int .u8 1, .int .u8 56, .int .u8 2, .int .u8 57, .int .u8 49, .int .u8 28, .int .u8 3, .int .u8 61, .int .u8 58, .int .u8 42, .int .u8 50, .int .u8 38, .int .u8 29, .int .u8 17, .int .u8 4, .int .u8 62, .int .u8 47, .int .u8 59, .int .u8 36, .int .u8 45, .int .u8 43, .int .u8 51, .int .u8 22, .int .u8 53, .int .u8 39, .int .u8 33, .int .u8 30, .int .u8 24, .int .u8 18, .int .u8 12, .int .u8 5, .int .u8 63, .int .u8 55, .int .u8 48, .int .u8 27, .int .u8 60, .int .u8 41, .int .u8 37, .int .u8 16, .int .u8 46, .int .u8 35, .int .u8 44, .int .u8 21, .int .u8 52, .int .u8 32, .int .u8 23, .int .u8 11, .int .u8 54, .int .u8 26, .int .u8 40, .int .u8 15, .int .u8 34, .int .u8 20, .int .u8 31, .int .u8 10, .int .u8 25, .int .u8 14, .int .u8 19, .int .u8 9, .int .u8 13, .int .u8 8, .int .u8 7, .int .u8 6]), (1, [.int .i64 2, .int .i64 2, .int .i64 4, .int .i64 4, .int .i64 2, .int .i64 2, .int .i64 2, .int .i64 2, .int .i64 4]), (2, [.int .u8 1, .int .u8 0, .int .u8 0, .int .u8 0, .int .u8 0, .int .u8 0, .int .u8 16, .int .u8 0, .int .u8 128, .int .u8 0, .int .u8 0, .int .u8 170, .int .u8 0, .int .u8 56, .int .u8 155, .int .u8 113]), (0, [.int .i64 2, .int .i64 2, .int .i64 2, .int .i64 4, .int .i64 4])], fun g cs h => by
  simp only [List.lookup] at h
  repeat (first | (cases h; done) | (split at h; first | (cases h; rfl) | skip))⟩

theorem mkB {P : Prg} {f N : Nat} {rl : List ResultVar} {ac : AC} {fn : _} (h0 : P.prog.funcs[f]? = some fn) (h : (fn.name == "runtime.NumGoroutine", fn.ntmps, fn.results.toList, fn.body.bind (Qp P.prog N)) = (false, N, rl, some ac)) : Body P f N rl ac := by simp only [Prod.mk.injEq] at h; exact ⟨fn, h0, h.1, h.2.1, h.2.2.1, h.2.2.2⟩
theorem Qvf : Body pg 110 31 [.tmp 2, .tmp 3] Qfk := mkB Tryz.func110 (by kernel_rfl)
theorem QkI : Qel pg 110 := QzO Qvf
theorem QCA : Body pg 82 33 [.tmp 6, .tmp 7] (Qh2 110) := mkB Tryz.func82 (by kernel_rfl)
theorem Qip : Qfo pg 82 := QEo QCA QkI
theorem QmJ : Body pg 83 22 [.tmp 2] QbO := mkB Tryz.func83 (by kernel_rfl)
theorem Qax : Qem pg 83 := Qqw QmJ
theorem Qm1 : Body pg 124 8 [.tmp 2] (J7 5) := mkB Tryz.func124 (by kernel_rfl)
theorem QlR : XO pg 124 := Qjg Qm1
theorem QrF : Body pg 84 62 [.cell 2 52, .tmp 3, .tmp 4] (Qby 83 82 124 52) := mkB Tryz.func84 (by kernel_rfl)
theorem Qp2 : Qfn pg 84 := Qwz QrF (show Zu Tryz.prog 52 = some (some 2) by kernel_rfl) Qax Qip QlR
theorem QrG : Body pg 37 80 [.tmp 2, .tmp 3, .tmp 4] (Qbz 82 83 84 52) := mkB Tryz.func37 (by kernel_rfl)
theorem Qin : QtB pg 37 := QwA QrG Qip Qax Qp2
theorem QmB : Body pg 87 18 [.tmp 2, .tmp 3, .tmp 4] Z6 := mkB Tryz.func87 (by kernel_rfl)
theorem Qcm : Qjz pg 87 := QpW QmB
theorem Qfe : Body pg 92 10 [.tmp 2] XT := mkB Tryz.func92 (by kernel_rfl)
theorem Qg0 : QtD pg 92 := Quo Qfe
theorem QmC : Body pg 51 37 [.tmp 4] (QbM 87) := mkB Tryz.func51 (by kernel_rfl)
theorem Qaw : QaO pg 51 := QpX QmC Qcm
theorem QeD : Body pg 47 37 [.tmp 4] (XA 92) := mkB Tryz.func47 (by kernel_rfl)
theorem QlH : QaO pg 47 := QqI QeD Qg0
theorem Qkw : Body pg 126 14 [.tmp 2, .tmp 3] Xr := mkB Tryz.func126 (by kernel_rfl)
theorem QeG : Qc6 pg 126 := Qoy Qkw
theorem Qfd : Body pg 129 17 [.tmp 2, .tmp 3] Zl := mkB Tryz.func129 (by kernel_rfl)
theorem QnS : Qc6 pg 129 := Qun Qfd
theorem Qjr : Body pg 74 25 [.tmp 2] (Qar 87 42) := mkB Tryz.func74 (by kernel_rfl)
theorem QaX : QaP pg 74 := Qml Qjr Qcm
theorem QeB : Body pg 46 17 [.tmp 2] (Ze 92 42) := mkB Tryz.func46 (by kernel_rfl)
theorem Qfx : QaP pg 46 := QqG QeB Qg0
theorem Qvc : Body pg 152 18 [.cell 4 201, .tmp 5] (JW 78 201) := mkB Tryz.func152 (by kernel_rfl)
theorem QkG : Qtz pg 152 := Qy8 Qvc (show Zu Tryz.prog 201 = some (some 33) by kernel_rfl)
theorem Qpp : Body pg 183 11 [.tmp 2] (Jv 201) := mkB Tryz.func183 (by kernel_rfl)
theorem Qdm : Qgb pg 183 := Qt2 Qpp
theorem Qpo : Body pg 173 36 [.tmp 2, .tmp 3] (QcR 183 201) := mkB Tryz.func173 (by kernel_rfl)
theorem QgY : Qh3 pg 173 := Qt1 Qpo Qdm
theorem QrB : Body pg 186 9 [.tmp 2] Qaf := mkB Tryz.func186 (by kernel_rfl)
theorem Qp0 : Qr7 pg 186 := QvW QrB
theorem Qpn : Body pg 184 53 [.cell 4 201, .tmp 5] (QcQ 183 186 201) := mkB Tryz.func184 (by kernel_rfl)
theorem QnL : Qnh pg 184 := Qt0 Qpn (show Zu Tryz.prog 201 = some (some 33) by kernel_rfl) Qdm Qp0
theorem QrC : Body pg 185 22 [.cell 4 201, .tmp 5] (QdP 183 201) := mkB Tryz.func185 (by kernel_rfl)
theorem Qp1 : Qr8 pg 185 := QvX QrC (show Zu Tryz.prog 201 = some (some 33) by kernel_rfl) Qdm
theorem Qpw : Body pg 174 20 [.cell 6 201] (QcW 184 185 201) := mkB Tryz.func174 (by kernel_rfl)
theorem Qg1 : Qgf pg 174 := Qux Qpw (show Zu Tryz.prog 201 = some (some 33) by kernel_rfl) QnL Qp1
theorem QmL : Body pg 163 27 [.tmp 4, .cell 5 201, .tmp 6] (QbQ 173 174 201) := mkB Tryz.func163 (by kernel_rfl)
theorem QlI : QgS pg 163 := QqQ QmL (show Zu Tryz.prog 201 = some (some 33) by kernel_rfl) QgY Qg1

end Go.Proofs.YtghngklehkkecaaGreatDoor.topFile

/- What the functions that the law reaches return in this program, part 3; no conditions. -/
import Derived.Test.YtpipccfcpeemfabGreatDoorEncodeNamesI2
set_option linter.unusedSectionVars false
set_option linter.unusedSimpArgs false
set_option linter.unusedVariables false
namespace Go.Proofs.YtpipccfcpeemfabGreatDoor.encodeNames
open Go.Am Go.ChangeShapes Go.WideShapes Go.ChangeAt Go.RowKit

theorem Qcs : Body pg 10 20 [.tmp 2] (ZR 25 24 26 28) := ⟨Tryz.f10, Tryz.func10, by kernel_rfl, by kernel_rfl, by kernel_rfl, by kernel_rfl⟩
theorem QhB : Zv pg 10 := Ql9 Qcs Qc8 QhE QjJ
theorem Qsn : Body pg 66 14 [.tmp 4] QaS := ⟨Tryz.f66, Tryz.func66, by kernel_rfl, by kernel_rfl, by kernel_rfl, by kernel_rfl⟩
theorem Qqb : Qsu pg 66 := QvB Qsn
theorem QpP : Body pg 32 35 [.tmp 4, .tmp 5] (Qbi 66 5) := ⟨Tryz.f32, Tryz.func32, by kernel_rfl, by kernel_rfl, by kernel_rfl, by kernel_rfl⟩
theorem JG : Xc pg 32 := QtJ QpP Qqb
theorem Qna : Body pg 49 25 [.tmp 2] (Qb4 59) := ⟨Tryz.f49, Tryz.func49, by kernel_rfl, by kernel_rfl, by kernel_rfl, by kernel_rfl⟩
theorem Qff : Qou pg 49 4 := QqP Qna
theorem ZY : Body pg 103 19 [.tmp 4] Qz := ⟨Tryz.f103, Tryz.func103, by kernel_rfl, by kernel_rfl, by kernel_rfl, by kernel_rfl⟩
theorem Qda : QdH pg 103 := Qmv ZY
theorem ZC : Body pg 77 9 [.tmp 4] (Qs 103) := ⟨Tryz.f77, Tryz.func77, by kernel_rfl, by kernel_rfl, by kernel_rfl, by kernel_rfl⟩
theorem QeF : Qb8 pg 77 := QgO ZC Qda
theorem QgT : Body pg 78 7 [.tmp 2] (JW 69 59) := ⟨Tryz.f78, Tryz.func78, by kernel_rfl, by kernel_rfl, by kernel_rfl, by kernel_rfl⟩
theorem QhA : Qjp pg 78 := Ql3 QgT Jq
theorem Qk4 : Body pg 45 21 [.tmp 4] (Jw 69 49 77 78) := ⟨Tryz.f45, Tryz.func45, by kernel_rfl, by kernel_rfl, by kernel_rfl, by kernel_rfl⟩
theorem QjH : QnB pg 45 := QoZ Qk4 Jq Qff QeF QhA
theorem QiG : Body pg 104 8 [.tmp 3] (Qay 59) := ⟨Tryz.f104, Tryz.func104, by kernel_rfl, by kernel_rfl, by kernel_rfl, by kernel_rfl⟩
theorem QjG : Qny pg 104 := QoY QiG
theorem Qnd : Body pg 71 13 [.tmp 4, .tmp 5] (Qb5 104 103 9) := ⟨Tryz.f71, Tryz.func71, by kernel_rfl, by kernel_rfl, by kernel_rfl, by kernel_rfl⟩
theorem QlF : QsC pg 71 := QqS Qnd QjG Qda
theorem Qk3 : Body pg 23 48 [.tmp 4, .tmp 5] (Qbg 45 46 49 47 48 50 100 59 5) := ⟨Tryz.f23, Tryz.func23, by kernel_rfl, by kernel_rfl, by kernel_rfl, by kernel_rfl⟩
theorem XP : Body pg 79 33 [.tmp 4, .tmp 5] Qf := ⟨Tryz.f79, Tryz.func79, by kernel_rfl, by kernel_rfl, by kernel_rfl, by kernel_rfl⟩
theorem Qc0 : Body pg 80 110 [.tmp 4] (QC 105 106 79 107 5 3) := ⟨Tryz.f80, Tryz.func80, by kernel_rfl, by kernel_rfl, by kernel_rfl, by kernel_rfl⟩
theorem QdB : Body pg 105 13 [.tmp 2] Q6 := ⟨Tryz.f105, Tryz.func105, by kernel_rfl, by kernel_rfl, by kernel_rfl, by kernel_rfl⟩
theorem J2 : Body pg 47 32 [.tmp 4, .tmp 5] (Qq 79 80) := ⟨Tryz.f47, Tryz.func47, by kernel_rfl, by kernel_rfl, by kernel_rfl, by kernel_rfl⟩
theorem Qcz : Body pg 48 32 [.tmp 4, .tmp 5] (QG 79 80) := ⟨Tryz.f48, Tryz.func48, by kernel_rfl, by kernel_rfl, by kernel_rfl, by kernel_rfl⟩
theorem QcA : Body pg 50 12 [.tmp 2] ZW := ⟨Tryz.f50, Tryz.func50, by kernel_rfl, by kernel_rfl, by kernel_rfl, by kernel_rfl⟩
theorem QxR : QwX pg Tryz.laysM252_ren 79 105 106 107 3 47 48 50 := ⟨Tryz.laysM252, ⟨XP, Qc0, QdB⟩, J2, Qcz, QcA⟩
theorem QgS : Body pg 46 17 [] (Zm 32 47 48) := ⟨Tryz.f46, Tryz.func46, by kernel_rfl, by kernel_rfl, by kernel_rfl, by kernel_rfl⟩
theorem QjF : Qnr pg 23 := QoX QxR Qk3 QjH QgS JG Qff
theorem QeO : Body pg 72 27 [.tmp 2] (Qt 55) := ⟨Tryz.f72, Tryz.func72, by kernel_rfl, by kernel_rfl, by kernel_rfl, by kernel_rfl⟩
theorem Qfh : Qe9 pg 72 := QrG QeO
theorem QfX : Body pg 43 18 [.tmp 2, .tmp 3] (Jg 72 55) := ⟨Tryz.f43, Tryz.func43, by kernel_rfl, by kernel_rfl, by kernel_rfl, by kernel_rfl⟩
theorem QoI : Qnu pg 43 := Qt9 QfX Qfh
theorem QfW : Body pg 44 67 [.tmp 6] (Xg 32 55 139 5 1 2) := ⟨Tryz.f44, Tryz.func44, by kernel_rfl, by kernel_rfl, by kernel_rfl, by kernel_rfl⟩
theorem Qg5 : Qjk pg 44 := Qt8 QfW JG (show pg.G.lookup 1 = some XE by rfl) (show pg.G.lookup 2 = some Qmy by rfl)
theorem QeN : Body pg 21 21 [.tmp 2, .tmp 3] (ZZ 43 44 55) := ⟨Tryz.f21, Tryz.func21, by kernel_rfl, by kernel_rfl, by kernel_rfl, by kernel_rfl⟩
theorem QlK : Qjc pg 21 := QrF QeN Qg5 QoI
theorem QiW : Body pg 73 10 [.tmp 4] QaI := ⟨Tryz.f73, Tryz.func73, by kernel_rfl, by kernel_rfl, by kernel_rfl, by kernel_rfl⟩
theorem QhV : Qi6 pg 73 := Qm3 QiW
theorem QfY : Body pg 39 61 [.cell 2 55, .tmp 3] (Jh 68 72 44 73 55 139 1) := ⟨Tryz.f39, Tryz.func39, by kernel_rfl, by kernel_rfl, by kernel_rfl, by kernel_rfl⟩
theorem QoJ : Qnv pg 39 := Qua QfY QlI Qfh Qg5 QhV (show pg.G.lookup 1 = some XE by rfl) (show Z5 Tryz.prog 55 = some (some 3) by kernel_rfl)
theorem QfR : Body pg 40 81 [.tmp 4, .tmp 5] (Q9 74 21) := ⟨Tryz.f40, Tryz.func40, by kernel_rfl, by kernel_rfl, by kernel_rfl, by kernel_rfl⟩
theorem Qfd : Qf8 pg 40 := Qhu QfR QaY
theorem QiB : Body pg 22 43 [.tmp 4, .tmp 5] (Zz 42 5) := ⟨Tryz.f22, Tryz.func22, by kernel_rfl, by kernel_rfl, by kernel_rfl, by kernel_rfl⟩

end Go.Proofs.YtpipccfcpeemfabGreatDoor.encodeNames

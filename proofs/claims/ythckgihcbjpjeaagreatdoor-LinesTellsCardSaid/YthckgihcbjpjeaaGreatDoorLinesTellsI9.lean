/- What the functions that the law reaches return in this program, part 9; no conditions. -/
import Derived.Test.YthckgihcbjpjeaaGreatDoorLinesTellsI8
set_option linter.unusedSectionVars false
set_option linter.unusedSimpArgs false
set_option linter.unusedVariables false
namespace Go.Proofs.YthckgihcbjpjeaaGreatDoor.linesTells
open Go.Am Go.ChangeShapes Go.WideShapes Go.ChangeAt Go.RowKit

theorem Qfg : Qf pg 116 87 [.tmp 2, .tmp 3] (QD 151 153 152) := mkB Tryz.func116 (by kernel_rfl)
theorem QnN : QcZ pg 116 := Qt6 Qfg Qhk Qku Qkt
theorem Qeq : Qf pg 72 39 [.tmp 2, .tmp 3] (X5 112 113 3) := mkB Tryz.func72 (by kernel_rfl)
theorem Qlc : Qjl pg 72 := QqN Qeq QnO Qld
theorem Qer : Qf pg 41 27 [.tmp 2, .tmp 3] (X6 72) := mkB Tryz.func41 (by kernel_rfl)
theorem Qct : QaL pg 41 := QqO Qer Qlc
theorem QdB : Qf pg 84 29 [.tmp 2, .tmp 3] (ZO 116) := mkB Tryz.func84 (by kernel_rfl)
theorem QjH : Qcq pg 84 := QoH QdB QnN
theorem Qfl : Qf pg 42 59 [.cell 2 25, .tmp 3] (QT 73 74 75 76 25) := mkB Tryz.func42 (by kernel_rfl)
theorem Qdj : QaK pg 42 := Qub Qfl QgD QgC QjI QnQ (show ZE Tryz.prog 25 = some (some 5) by kernel_rfl)
theorem Qfj : Qf pg 44 56 [.tmp 4, .tmp 5] (Zw 73 74 79 3) := mkB Tryz.func44 (by kernel_rfl)
theorem Qhl : Qan pg 44 := Qt9 Qfj QgD QgC Qlg
theorem Qdy : Qf pg 22 91 [.cell 4 28, .tmp 5] (Qp 41 42 43 45 44 28 25) := mkB Tryz.func22 (by kernel_rfl)
theorem QeF : Qic pg 22 := QoE Qdy Qct Qdj Qdi Jf Qhl (show ZE Tryz.prog 28 = some (some 7) by kernel_rfl)
theorem Qfa : Qf pg 10 15 [.cell 4 28, .tmp 5] (Zu 22 28) := mkB Tryz.func10 (by kernel_rfl)
theorem Qhj : Qbf pg 10 := Qt0 Qfa QeF (show ZE Tryz.prog 28 = some (some 7) by kernel_rfl)
theorem Qez : Qf pg 51 30 [.tmp 4, .tmp 5] (Z1 92 93 5) := mkB Tryz.func51 (by kernel_rfl)
theorem Qlj : Qea pg 51 := QqX Qez QfP Qqb
theorem Qem : Qf pg 48 22 [.tmp 4] (X4 28) := mkB Tryz.func48 (by kernel_rfl)
theorem Qk8 : Qjf pg 48 := QqJ Qem
theorem Qgg : Qf pg 26 79 [.tmp 8, .tmp 9] (JN 48 49 45 50 51 28 108) := mkB Tryz.func26 (by kernel_rfl)
theorem Qp9 : Qsf pg 26 := Qwl Qgg Qk8 Qhm Jf QeG Qlj
theorem Qeo : Qf pg 81 31 [.tmp 2, .cell 3 25, .tmp 4] (Zb 41 42 25) := mkB Tryz.func81 (by kernel_rfl)
theorem Qla : Qjq pg 81 := QqL Qeo Qct Qdj (show ZE Tryz.prog 25 = some (some 5) by kernel_rfl)
theorem QdA : Qf pg 82 36 [.tmp 8, .tmp 9] (QM 43 25) := mkB Tryz.func82 (by kernel_rfl)
theorem QjG : Qm4 pg 82 := QoG QdA Qdi
theorem Qen : Qf pg 83 20 [.tmp 6, .tmp 7] (ZY 45 44 25) := mkB Tryz.func83 (by kernel_rfl)
theorem Qk9 : Qjc pg 83 := QqK Qen Jf Qhl
theorem Qfc : Qf pg 46 145 [.cell 4 88, .tmp 5] (Jn 81 82 83 45 49 50 84 88 25 108 21) := mkB Tryz.func46 (by kernel_rfl)
theorem QnM : Qeb pg 46 := Qt2 Qfc Qla QjG Qk9 Jf Qhm QeG QjH (show ZE Tryz.prog 88 = some (some 4) by kernel_rfl)
theorem Qep : Qf pg 23 14 [.tmp 4] (ZZ 46 88) := mkB Tryz.func23 (by kernel_rfl)
theorem Qlb : Qco pg 23 := QqM Qep QnM
theorem Qe7 : Qf pg 25 32 [.tmp 4] (Jm 45 47 25) := mkB Tryz.func25 (by kernel_rfl)
theorem QnI : Qnc pg 25 := QtX Qe7 Jf QjF
theorem Qel : Qf pg 24 61 [.tmp 4] (QA 41 42 22 25 28) := mkB Tryz.func24 (by kernel_rfl)
theorem Qk7 : Qjo pg 24 := QqI Qel Qct Qdj QeF
theorem Qe8 : Qf pg 11 72 [.cell 4 31, .tmp 5] (Zg 23 10 24 25 26 31 28) := mkB Tryz.func11 (by kernel_rfl)
theorem QnJ : Qec pg 11 := QtY Qe8 Qlb Qhj Qk7 QnI Qp9 (show ZE Tryz.prog 31 = some (some 4) by kernel_rfl)
theorem Qg2 : Qf pg 6 29 [.cell 4 33, .tmp 5] (XQ 10 11 33 28 31) := mkB Tryz.func6 (by kernel_rfl)
theorem Qty : Qvb pg 6 := QyV Qg2 Qhj QnJ (show ZE Tryz.prog 33 = some (some 11) by kernel_rfl)
theorem QbZ : Qf pg 3 36 [.tmp 4] (Q5 4 5 6 7 33) := mkB Tryz.func3 (by kernel_rfl)
theorem QfS : QxZ pg 3 := QhK QbZ QnL QtD Qty QnH

end Go.Proofs.YthckgihcbjpjeaaGreatDoor.linesTells

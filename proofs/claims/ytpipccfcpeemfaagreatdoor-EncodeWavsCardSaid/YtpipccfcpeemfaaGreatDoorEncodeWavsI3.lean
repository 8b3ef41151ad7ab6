/- What the functions that the law reaches return in this program, part 3; no conditions. -/
import Derived.Test.YtpipccfcpeemfaaGreatDoorEncodeWavsI2
set_option linter.unusedSectionVars false
set_option linter.unusedSimpArgs false
set_option linter.unusedVariables false
namespace Go.Proofs.YtpipccfcpeemfaaGreatDoor.encodeWavs
open Go.Am Go.ChangeShapes Go.WideShapes Go.ChangeAt Go.RowKit

theorem Qrp : Qf pg 101 10 [.tmp 2] QbJ := ⟨Tryz.f101, Tryz.func101, by kernel_rfl, by kernel_rfl, by kernel_rfl, by kernel_rfl⟩
theorem QpN : QkC pg 101 := Qwt Qrp
theorem Qfc : Qf pg 144 13 [.tmp 2] ZM := ⟨Tryz.f144, Tryz.func144, by kernel_rfl, by kernel_rfl, by kernel_rfl, by kernel_rfl⟩
theorem Qnx : QkC pg 144 := QtL Qfc
theorem Qby : Qf pg 124 8 [.tmp 2] (Zn 21) := ⟨Tryz.f124, Tryz.func124, by kernel_rfl, by kernel_rfl, by kernel_rfl, by kernel_rfl⟩
theorem QpQ : QmZ 21 pg 124 := QwW Qby
theorem Qxh : Qf pg 125 39 [] QgM := ⟨Tryz.f125, Tryz.func125, by kernel_rfl, by kernel_rfl, by kernel_rfl, by kernel_rfl⟩
theorem QuR : QAP pg 125 := QAc Qxh
theorem Qro : Qf pg 123 22 [.tmp 4] XC := ⟨Tryz.f123, Tryz.func123, by kernel_rfl, by kernel_rfl, by kernel_rfl, by kernel_rfl⟩
theorem QpL : Qd1 pg 123 := Qv8 Qro
theorem Qes : Qf pg 163 19 [.tmp 4] QN := ⟨Tryz.f163, Tryz.func163, by kernel_rfl, by kernel_rfl, by kernel_rfl, by kernel_rfl⟩
theorem QkY : Qd1 pg 163 := Qqu Qes
theorem Qxi : Qf pg 98 32 [.tmp 4, .tmp 5] (QgN 123 124 125) := ⟨Tryz.f98, Tryz.func98, by kernel_rfl, by kernel_rfl, by kernel_rfl, by kernel_rfl⟩
theorem QuS : Qd0 pg 98 := QAd Qxi QpL QpQ QuR
theorem Qer : Qf pg 164 61 [.tmp 2] (XU 166 21) := ⟨Tryz.f164, Tryz.func164, by kernel_rfl, by kernel_rfl, by kernel_rfl, by kernel_rfl⟩
theorem QkX : QmJ pg 164 := Qqt Qer Qau
theorem Qf0 : Qf pg 140 32 [.tmp 4, .tmp 5] (JC 163 164 21) := ⟨Tryz.f140, Tryz.func140, by kernel_rfl, by kernel_rfl, by kernel_rfl, by kernel_rfl⟩
theorem QpG : Qd0 pg 140 := QvF Qf0 QkY QkX
theorem QiG : Qf pg 97 30 [.tmp 4] (QaO 67 38 99) := ⟨Tryz.f97, Tryz.func97, by kernel_rfl, by kernel_rfl, by kernel_rfl, by kernel_rfl⟩
theorem QhT : Qi9 pg 97 := QlN QiG Qdd Qfr
theorem Qep : Qf pg 55 28 [.tmp 4] (XS 84 85 99) := ⟨Tryz.f55, Tryz.func55, by kernel_rfl, by kernel_rfl, by kernel_rfl, by kernel_rfl⟩
theorem Qfx : Qi9 pg 55 := Qqr Qep Qfw QkW
theorem Qc3 : Qf pg 142 25 [.tmp 6] (Z0 21) := ⟨Tryz.f142, Tryz.func142, by kernel_rfl, by kernel_rfl, by kernel_rfl, by kernel_rfl⟩
theorem QhO : Qjc pg 142 := Qlu Qc3
theorem Qhp : Qf pg 73 83 [.tmp 6, .tmp 7] (Qal 97 98 99 100 101 99 91 172 171 104) := ⟨Tryz.f73, Tryz.func73, by kernel_rfl, by kernel_rfl, by kernel_rfl, by kernel_rfl⟩
theorem Qhg : QrK pg 73 := QjK Qhp QhT QuS QpS QhW QpN
theorem Qem : Qf pg 116 72 [.tmp 6] (XQ 140 141 142 143 144 99 91 104 171) := ⟨Tryz.f116, Tryz.func116, by kernel_rfl, by kernel_rfl, by kernel_rfl, by kernel_rfl⟩
theorem QkU : QmL pg 116 := Qqo Qem QpG QpF QhO Qnp Qnx
theorem QiC : Qf pg 68 32 [.tmp 4, .tmp 5] (QaM 93) := ⟨Tryz.f68, Tryz.func68, by kernel_rfl, by kernel_rfl, by kernel_rfl, by kernel_rfl⟩
theorem Qbb : QaD pg 68 := QlF QiC Qex
theorem Qpf : Qf pg 42 8 [.cell 2 99] (QcN 31 99) := ⟨Tryz.f42, Tryz.func42, by kernel_rfl, by kernel_rfl, by kernel_rfl, by kernel_rfl⟩
theorem Qg1 : QaC pg 42 := Qug Qpf (show Q6 Tryz.prog 99 = some (some 2) by kernel_rfl)
theorem Qei : Qf pg 56 8 [.cell 2 99] (XN 31 99) := ⟨Tryz.f56, Tryz.func56, by kernel_rfl, by kernel_rfl, by kernel_rfl, by kernel_rfl⟩
theorem Qfu : QaC pg 56 := Qqk Qei (show Q6 Tryz.prog 99 = some (some 2) by kernel_rfl)
theorem Qrt : Qf pg 37 31 [.tmp 4] (QdC 42 67 68 31) := ⟨Tryz.f37, Tryz.func37, by kernel_rfl, by kernel_rfl, by kernel_rfl, by kernel_rfl⟩
theorem QpR : QrN pg 37 := QwX Qrt Qg1 Qdd Qbb
theorem Qph : Qf pg 14 33 [.tmp 2] (J3 37 38 31) := ⟨Tryz.f14, Tryz.func14, by kernel_rfl, by kernel_rfl, by kernel_rfl, by kernel_rfl⟩
theorem Qde : Z4 pg 14 := Quj Qph QpR Qfr
theorem Qel : Qf pg 86 19 [.tmp 4] (XP 84 99) := ⟨Tryz.f86, Tryz.func86, by kernel_rfl, by kernel_rfl, by kernel_rfl, by kernel_rfl⟩
theorem QkT : QrP pg 86 := Qqn Qel Qfw
theorem QfY : Qf pg 111 41 [.tmp 4, .tmp 5] (Q5 135 3) := ⟨Tryz.f111, Tryz.func111, by kernel_rfl, by kernel_rfl, by kernel_rfl, by kernel_rfl⟩
theorem QpE : QrQ pg 111 := QvD QfY Qno
theorem Qek : Qf pg 87 17 [.tmp 4, .tmp 5] (ZD 111) := ⟨Tryz.f87, Tryz.func87, by kernel_rfl, by kernel_rfl, by kernel_rfl, by kernel_rfl⟩
theorem QkS : QaD pg 87 := Qqm Qek QpE
theorem QeZ : Qf pg 57 21 [.tmp 4] (Ja 56 86 87 31) := ⟨Tryz.f57, Tryz.func57, by kernel_rfl, by kernel_rfl, by kernel_rfl, by kernel_rfl⟩

end Go.Proofs.YtpipccfcpeemfaaGreatDoor.encodeWavs

/- For every shape, tap list and sample list cadenzalaw20.EnframeBytes returns true and leaves its arguments as they were. No conditions. -/
import Derived.Test.YtkngajpinabacaaGreatRows
import Derived.Test.YtkngajpinabacaaGreatEnframeBytesY1
set_option linter.unusedSectionVars false
set_option linter.unusedSimpArgs false
set_option linter.unusedVariables false
namespace Go.Proofs.YtkngajpinabacaaGreat.enframeBytes
open Go.Am Go.ChangeShapes Go.WideShapes Go.ChangeAt Go.RowKit

noncomputable def pg : Prg := ⟨Tryz.prog, [], fun g cs h => by
  cases h⟩

theorem b_width_Range : Body pg 78 18 [.tmp 2, .tmp 3, .tmp 4] ac_width_Range := ⟨Tryz.f78, Tryz.func78, by kernel_rfl, by kernel_rfl, by kernel_rfl, by kernel_rfl⟩
theorem v_width_Range : S_Range pg 78 := width_Range b_width_Range
theorem b_cadenzaref18_Half : Body pg 63 10 [.tmp 2] ac_cadenzaref18_Half := ⟨Tryz.f63, Tryz.func63, by kernel_rfl, by kernel_rfl, by kernel_rfl, by kernel_rfl⟩
theorem v_ref18_Half : S_Half pg 63 := ref18_Half b_cadenzaref18_Half
theorem b_width_Check : Body pg 49 37 [.tmp 4] (ac_width_Check 78) := ⟨Tryz.f49, Tryz.func49, by kernel_rfl, by kernel_rfl, by kernel_rfl, by kernel_rfl⟩
theorem v_width_Check : S_WCheck pg 49 := width_Check b_width_Check v_width_Range
theorem b_cadenzaref18_Check : Body pg 38 37 [.tmp 4] (ac_cadenzaref18_Check 63) := ⟨Tryz.f38, Tryz.func38, by kernel_rfl, by kernel_rfl, by kernel_rfl, by kernel_rfl⟩
theorem v_ref18_Check : S_WCheck pg 38 := ref18_Check b_cadenzaref18_Check v_ref18_Half
theorem b_enframe_Check : Body pg 48 25 [.tmp 2] (ac_enframe_Check 78 23) := ⟨Tryz.f48, Tryz.func48, by kernel_rfl, by kernel_rfl, by kernel_rfl, by kernel_rfl⟩
theorem v_enframe_Check : S_ECheck pg 48 := enframe_Check b_enframe_Check v_width_Range
theorem b_cadenzaref20_Check : Body pg 37 17 [.tmp 2] (ac_cadenzaref20_Check 63 23) := ⟨Tryz.f37, Tryz.func37, by kernel_rfl, by kernel_rfl, by kernel_rfl, by kernel_rfl⟩
theorem v_ref20_Check : S_ECheck pg 37 := ref20_Check b_cadenzaref20_Check v_ref18_Half
theorem b_taps_New : Body pg 53 18 [.cell 4 68, .tmp 5] (ac_taps_New 24 68) := ⟨Tryz.f53, Tryz.func53, by kernel_rfl, by kernel_rfl, by kernel_rfl, by kernel_rfl⟩
theorem v_taps_New : S_TNew pg 53 := taps_New b_taps_New (show aggO Tryz.prog 68 = some (some 33) by kernel_rfl)
theorem b_taps_Check : Body pg 95 11 [.tmp 2] (ac_taps_Check 68) := ⟨Tryz.f95, Tryz.func95, by kernel_rfl, by kernel_rfl, by kernel_rfl, by kernel_rfl⟩
theorem v_taps_Check : S_TCheck pg 95 := taps_Check b_taps_Check
theorem b_taps_Guess : Body pg 81 36 [.tmp 2, .tmp 3] (ac_taps_Guess 95 68) := ⟨Tryz.f81, Tryz.func81, by kernel_rfl, by kernel_rfl, by kernel_rfl, by kernel_rfl⟩
theorem v_taps_Guess : S_TGuess pg 81 := taps_Guess b_taps_Guess v_taps_Check
theorem b_taps_step : Body pg 102 9 [.tmp 2] ac_taps_step := ⟨Tryz.f102, Tryz.func102, by kernel_rfl, by kernel_rfl, by kernel_rfl, by kernel_rfl⟩
theorem v_taps_step : S_TStep pg 102 := taps_step b_taps_step
theorem b_taps_Learn : Body pg 96 53 [.cell 4 68, .tmp 5] (ac_taps_Learn 95 102 68) := ⟨Tryz.f96, Tryz.func96, by kernel_rfl, by kernel_rfl, by kernel_rfl, by kernel_rfl⟩
theorem v_taps_Learn : S_TLearn pg 96 := taps_Learn b_taps_Learn (show aggO Tryz.prog 68 = some (some 33) by kernel_rfl) v_taps_Check v_taps_step
theorem b_taps_Push : Body pg 97 22 [.cell 4 68, .tmp 5] (ac_taps_Push 95 68) := ⟨Tryz.f97, Tryz.func97, by kernel_rfl, by kernel_rfl, by kernel_rfl, by kernel_rfl⟩
theorem v_taps_Push : S_TPush pg 97 := taps_Push b_taps_Push (show aggO Tryz.prog 68 = some (some 33) by kernel_rfl) v_taps_Check
theorem b_lms_behind : Body pg 82 20 [.cell 6 68] (ac_lms_behind 96 97 68) := ⟨Tryz.f82, Tryz.func82, by kernel_rfl, by kernel_rfl, by kernel_rfl, by kernel_rfl⟩
theorem v_lms_behind : S_LBehind pg 82 := lms_behind b_lms_behind (show aggO Tryz.prog 68 = some (some 33) by kernel_rfl) v_taps_Learn v_taps_Push
theorem b_lms_Forward : Body pg 56 27 [.tmp 4, .cell 5 68, .tmp 6] (ac_lms_Forward 81 82 68) := ⟨Tryz.f56, Tryz.func56, by kernel_rfl, by kernel_rfl, by kernel_rfl, by kernel_rfl⟩
theorem v_lms_Forward : S_LForward pg 56 := lms_Forward b_lms_Forward (show aggO Tryz.prog 68 = some (some 33) by kernel_rfl) v_taps_Guess v_lms_behind
theorem b_first_Shift : Body pg 79 10 [.tmp 2, .tmp 3] ac_first_Shift := ⟨Tryz.f79, Tryz.func79, by kernel_rfl, by kernel_rfl, by kernel_rfl, by kernel_rfl⟩
theorem v_first_Shift : S_FShift pg 79 := first_Shift b_first_Shift
theorem b_first_guess : Body pg 80 16 [.tmp 4] ac_first_guess := ⟨Tryz.f80, Tryz.func80, by kernel_rfl, by kernel_rfl, by kernel_rfl, by kernel_rfl⟩
theorem v_first_guess : S_Fguess pg 80 := first_guess b_first_guess
theorem b_first_Guess : Body pg 55 19 [.tmp 4, .tmp 5] (ac_first_Guess 79 80) := ⟨Tryz.f55, Tryz.func55, by kernel_rfl, by kernel_rfl, by kernel_rfl, by kernel_rfl⟩
theorem v_first_Guess : S_FGuess pg 55 := first_Guess b_first_Guess v_first_Shift v_first_guess
theorem b_chain_New : Body pg 24 21 [.cell 4 70, .tmp 5] (ac_chain_New 53 24 70 68) := ⟨Tryz.f24, Tryz.func24, by kernel_rfl, by kernel_rfl, by kernel_rfl, by kernel_rfl⟩
theorem v_chain_New : S_CNew pg 24 := chain_New b_chain_New (show aggO Tryz.prog 70 = some (some 35) by kernel_rfl) v_taps_New
theorem b_chain_Check : Body pg 54 24 [.tmp 2] (ac_chain_Check 53 70 68) := ⟨Tryz.f54, Tryz.func54, by kernel_rfl, by kernel_rfl, by kernel_rfl, by kernel_rfl⟩
theorem v_chain_Check : S_CCheck pg 54 := chain_Check b_chain_Check v_taps_New
theorem b_chain_Forward : Body pg 25 44 [.tmp 4, .cell 5 70, .tmp 6] (ac_chain_Forward 54 55 56 70 68) := ⟨Tryz.f25, Tryz.func25, by kernel_rfl, by kernel_rfl, by kernel_rfl, by kernel_rfl⟩
theorem v_chain_Forward : S_CForward pg 25 := chain_Forward b_chain_Forward (show aggO Tryz.prog 70 = some (some 35) by kernel_rfl) v_chain_Check v_first_Guess v_lms_Forward
theorem b_cadenzaref13_Wrap : Body pg 75 7 [.tmp 2] ac_cadenzaref13_Wrap := ⟨Tryz.f75, Tryz.func75, by kernel_rfl, by kernel_rfl, by kernel_rfl, by kernel_rfl⟩
theorem v_ref13_Wrap : S_Wrap pg 75 := ref13_Wrap b_cadenzaref13_Wrap
theorem b_cadenzaref13_Behind : Body pg 91 26 [.tmp 4] ac_cadenzaref13_Behind := ⟨Tryz.f91, Tryz.func91, by kernel_rfl, by kernel_rfl, by kernel_rfl, by kernel_rfl⟩
theorem v_ref13_Behind : S_Behind pg 91 := ref13_Behind b_cadenzaref13_Behind
theorem b_cadenzaref13_Shift : Body pg 90 12 [.tmp 2, .tmp 3] ac_cadenzaref13_Shift := ⟨Tryz.f90, Tryz.func90, by kernel_rfl, by kernel_rfl, by kernel_rfl, by kernel_rfl⟩
theorem v_ref13_Shift : S_Shift13 pg 90 := ref13_Shift b_cadenzaref13_Shift
theorem b_cadenzaref14_Step : Body pg 100 7 [.tmp 2] ac_cadenzaref14_Step := ⟨Tryz.f100, Tryz.func100, by kernel_rfl, by kernel_rfl, by kernel_rfl, by kernel_rfl⟩
theorem v_ref14_Step : S_R14Step pg 100 := ref14_Step b_cadenzaref14_Step
theorem b_cadenzaref14_Sign : Body pg 101 7 [.tmp 2] ac_cadenzaref14_Sign := ⟨Tryz.f101, Tryz.func101, by kernel_rfl, by kernel_rfl, by kernel_rfl, by kernel_rfl⟩
theorem v_ref14_Sign : S_Sign pg 101 := ref14_Sign b_cadenzaref14_Sign
theorem b_cadenzaref14_Sum : Body pg 99 28 [.tmp 2] (ac_cadenzaref14_Sum 75 68) := ⟨Tryz.f99, Tryz.func99, by kernel_rfl, by kernel_rfl, by kernel_rfl, by kernel_rfl⟩
theorem v_ref14_Sum : S_RSum pg 99 := ref14_Sum b_cadenzaref14_Sum v_ref13_Wrap
theorem b_cadenzaref14_Told : Body pg 92 28 [.tmp 2] (ac_cadenzaref14_Told 99 75 68) := ⟨Tryz.f92, Tryz.func92, by kernel_rfl, by kernel_rfl, by kernel_rfl, by kernel_rfl⟩
theorem v_ref14_Told : S_RTold pg 92 := ref14_Told b_cadenzaref14_Told v_ref14_Sum v_ref13_Wrap
theorem b_cadenzaref14_Learned : Body pg 94 29 [.cell 4 68] (ac_cadenzaref14_Learned 100 101 68) := ⟨Tryz.f94, Tryz.func94, by kernel_rfl, by kernel_rfl, by kernel_rfl, by kernel_rfl⟩
theorem v_ref14_Learned : S_RLearned pg 94 := ref14_Learned b_cadenzaref14_Learned (show aggO Tryz.prog 68 = some (some 33) by kernel_rfl) v_ref14_Step v_ref14_Sign
theorem b_cadenzaref14_Pushed : Body pg 93 22 [.cell 4 68] (ac_cadenzaref14_Pushed 68) := ⟨Tryz.f93, Tryz.func93, by kernel_rfl, by kernel_rfl, by kernel_rfl, by kernel_rfl⟩
theorem v_ref14_Pushed : S_RPushed pg 93 := ref14_Pushed b_cadenzaref14_Pushed (show aggO Tryz.prog 68 = some (some 33) by kernel_rfl)
theorem b_cadenzaref15_Step : Body pg 77 20 [.tmp 4, .cell 5 68] (ac_cadenzaref15_Step 92 75 94 93 68) := ⟨Tryz.f77, Tryz.func77, by kernel_rfl, by kernel_rfl, by kernel_rfl, by kernel_rfl⟩
theorem v_ref15_Step : S_RStep15 pg 77 := ref15_Step b_cadenzaref15_Step (show aggO Tryz.prog 68 = some (some 33) by kernel_rfl) v_ref14_Told v_ref13_Wrap v_ref14_Learned v_ref14_Pushed
theorem b_cadenzaref19_behind : Body pg 76 12 [.tmp 2] (ac_cadenzaref19_behind 91 70) := ⟨Tryz.f76, Tryz.func76, by kernel_rfl, by kernel_rfl, by kernel_rfl, by kernel_rfl⟩
theorem v_ref19_behind : S_RBehind19 pg 76 := ref19_behind b_cadenzaref19_behind v_ref13_Behind
theorem b_cadenzaref19_Step : Body pg 45 28 [.tmp 4, .cell 5 70] (ac_cadenzaref19_Step 76 75 77 70 68) := ⟨Tryz.f45, Tryz.func45, by kernel_rfl, by kernel_rfl, by kernel_rfl, by kernel_rfl⟩
theorem v_ref19_Step : S_RStep19 pg 45 := ref19_Step b_cadenzaref19_Step (show aggO Tryz.prog 70 = some (some 35) by kernel_rfl) v_ref19_behind v_ref13_Wrap v_ref15_Step
theorem b_cadenzaref14_New : Body pg 74 22 [.cell 4 68, .tmp 5] (ac_cadenzaref14_New 90 24 68) := ⟨Tryz.f74, Tryz.func74, by kernel_rfl, by kernel_rfl, by kernel_rfl, by kernel_rfl⟩
theorem v_ref14_New : S_TNew pg 74 := ref14_New b_cadenzaref14_New (show aggO Tryz.prog 68 = some (some 33) by kernel_rfl) v_ref13_Shift
theorem b_cadenzaref19_New : Body pg 43 20 [.cell 4 70, .tmp 5] (ac_cadenzaref19_New 74 24 70 68) := ⟨Tryz.f43, Tryz.func43, by kernel_rfl, by kernel_rfl, by kernel_rfl, by kernel_rfl⟩
theorem v_ref19_New : S_CNew pg 43 := ref19_New b_cadenzaref19_New (show aggO Tryz.prog 70 = some (some 35) by kernel_rfl) v_ref14_New
theorem b_fold_Fold : Body pg 26 10 [.tmp 2] ac_fold_Fold := ⟨Tryz.f26, Tryz.func26, by kernel_rfl, by kernel_rfl, by kernel_rfl, by kernel_rfl⟩
theorem v_fold_Fold : S_Fold pg 26 := fold_Fold b_fold_Fold
theorem b_cadenzaref05_Fold : Body pg 46 13 [.tmp 2] ac_cadenzaref05_Fold := ⟨Tryz.f46, Tryz.func46, by kernel_rfl, by kernel_rfl, by kernel_rfl, by kernel_rfl⟩
theorem v_ref05_Fold : S_Fold pg 46 := ref05_Fold b_cadenzaref05_Fold
theorem b_slices_Clone_int32_int32 : Body pg 51 8 [.tmp 2] (ac_slices_Clone_int32_int32 21) := ⟨Tryz.f51, Tryz.func51, by kernel_rfl, by kernel_rfl, by kernel_rfl, by kernel_rfl⟩
theorem v_clone_i32 : S_CloneA 21 pg 51 := clone_i32 b_slices_Clone_int32_int32
theorem b_mix_mix : Body pg 52 39 [] ac_mix_mix := ⟨Tryz.f52, Tryz.func52, by kernel_rfl, by kernel_rfl, by kernel_rfl, by kernel_rfl⟩
theorem v_mix_mix : S_Mix pg 52 := mix_mix b_mix_mix
theorem b_mix_check : Body pg 50 22 [.tmp 4] ac_mix_check := ⟨Tryz.f50, Tryz.func50, by kernel_rfl, by kernel_rfl, by kernel_rfl, by kernel_rfl⟩
theorem v_mix_check : S_MCheck pg 50 := mix_check b_mix_check
theorem b_cadenzaref17_Check : Body pg 72 19 [.tmp 4] ac_cadenzaref17_Check := ⟨Tryz.f72, Tryz.func72, by kernel_rfl, by kernel_rfl, by kernel_rfl, by kernel_rfl⟩
theorem v_ref17_Check : S_MCheck pg 72 := ref17_Check b_cadenzaref17_Check
theorem b_mix_All : Body pg 23 32 [.tmp 4, .tmp 5] (ac_mix_All 50 51 52) := ⟨Tryz.f23, Tryz.func23, by kernel_rfl, by kernel_rfl, by kernel_rfl, by kernel_rfl⟩
theorem v_mix_All : S_MixAll pg 23 := mix_All b_mix_All v_mix_check v_clone_i32 v_mix_mix
theorem b_cadenzaref17_Mixed : Body pg 73 61 [.tmp 2] (ac_cadenzaref17_Mixed 75 21) := ⟨Tryz.f73, Tryz.func73, by kernel_rfl, by kernel_rfl, by kernel_rfl, by kernel_rfl⟩
theorem v_ref17_Mixed : S_RMixed pg 73 := ref17_Mixed b_cadenzaref17_Mixed v_ref13_Wrap
theorem b_cadenzaref17_All : Body pg 42 32 [.tmp 4, .tmp 5] (ac_cadenzaref17_All 72 73 21) := ⟨Tryz.f42, Tryz.func42, by kernel_rfl, by kernel_rfl, by kernel_rfl, by kernel_rfl⟩
theorem v_ref17_All : S_MixAll pg 42 := ref17_All b_cadenzaref17_All v_ref17_Check v_ref17_Mixed
theorem b_enframe_check : Body pg 22 30 [.tmp 4] (ac_enframe_check 48 49 23) := ⟨Tryz.f22, Tryz.func22, by kernel_rfl, by kernel_rfl, by kernel_rfl, by kernel_rfl⟩
theorem v_enframe_check : S_EAsk pg 22 := enframe_check b_enframe_check v_enframe_Check v_width_Check
theorem b_cadenzaref20_Asked : Body pg 17 28 [.tmp 4] (ac_cadenzaref20_Asked 37 38 23) := ⟨Tryz.f17, Tryz.func17, by kernel_rfl, by kernel_rfl, by kernel_rfl, by kernel_rfl⟩
theorem v_ref20_Asked : S_EAsk pg 17 := ref20_Asked b_cadenzaref20_Asked v_ref20_Check v_ref18_Check
theorem b_cadenzaref20_channel : Body pg 44 25 [.tmp 6] (ac_cadenzaref20_channel 21) := ⟨Tryz.f44, Tryz.func44, by kernel_rfl, by kernel_rfl, by kernel_rfl, by kernel_rfl⟩
theorem v_ref20_channel : S_Channel pg 44 := ref20_channel b_cadenzaref20_channel
theorem b_enframe_Values : Body pg 10 83 [.tmp 6, .tmp 7] (ac_enframe_Values 22 23 24 25 26 23 24 71 70 48) := ⟨Tryz.f10, Tryz.func10, by kernel_rfl, by kernel_rfl, by kernel_rfl, by kernel_rfl⟩
theorem v_enframe_Values : S_EVals pg 10 := enframe_Values b_enframe_Values v_enframe_check v_mix_All v_chain_New v_chain_Forward v_fold_Fold
theorem b_cadenzaref20_Coded : Body pg 19 72 [.tmp 6] (ac_cadenzaref20_Coded 42 43 44 45 46 23 24 48 70) := ⟨Tryz.f19, Tryz.func19, by kernel_rfl, by kernel_rfl, by kernel_rfl, by kernel_rfl⟩
theorem v_ref20_Coded : S_RCoded pg 19 := ref20_Coded b_cadenzaref20_Coded v_ref17_All v_ref19_New v_ref20_channel v_ref19_Step v_ref05_Fold
theorem b_cadenzaref13_Great : Body pg 9 16 [.tmp 2] ac_cadenzaref13_Great := ⟨Tryz.f9, Tryz.func9, by kernel_rfl, by kernel_rfl, by kernel_rfl, by kernel_rfl⟩
theorem v_ref13_Great : S_Great13 pg 9 := ref13_Great b_cadenzaref13_Great
theorem b_cadenzaref20_Great : Body pg 4 5 [.tmp 2] (ac_cadenzaref20_Great 9) := ⟨Tryz.f4, Tryz.func4, by kernel_rfl, by kernel_rfl, by kernel_rfl, by kernel_rfl⟩
theorem v_ref20_Great : S_Great13 pg 4 := ref20_Great b_cadenzaref20_Great v_ref13_Great
theorem b_le_fits : Body pg 35 14 [.tmp 4] ac_le_fits := ⟨Tryz.f35, Tryz.func35, by kernel_rfl, by kernel_rfl, by kernel_rfl, by kernel_rfl⟩
theorem v_le_fits : S_fits pg 35 := le_fits b_le_fits
theorem b_le_Bytes : Body pg 15 35 [.tmp 4, .tmp 5] (ac_le_Bytes 35 5) := ⟨Tryz.f15, Tryz.func15, by kernel_rfl, by kernel_rfl, by kernel_rfl, by kernel_rfl⟩
theorem v_le_Bytes : S_leBytes pg 15 := le_Bytes b_le_Bytes v_le_fits
theorem b_crc32_table : Body pg 62 24 [.tmp 0] (ac_crc32_table 146) := ⟨Tryz.f62, Tryz.func62, by kernel_rfl, by kernel_rfl, by kernel_rfl, by kernel_rfl⟩
theorem v_crc32_table : S_table pg 62 := crc32_table b_crc32_table
theorem b_crc32_Next : Body pg 34 32 [.tmp 4, .tmp 5] (ac_crc32_Next 62) := ⟨Tryz.f34, Tryz.func34, by kernel_rfl, by kernel_rfl, by kernel_rfl, by kernel_rfl⟩
theorem v_crc32_Next : S_CNext pg 34 := crc32_Next b_crc32_Next v_crc32_table
theorem b_crc32_Sum : Body pg 14 16 [.tmp 2, .tmp 3] (ac_crc32_Sum 34) := ⟨Tryz.f14, Tryz.func14, by kernel_rfl, by kernel_rfl, by kernel_rfl, by kernel_rfl⟩
theorem v_crc32_Sum : S_CSum pg 14 := crc32_Sum b_crc32_Sum v_crc32_Next
theorem b_cadenzaref03_Step : Body pg 103 19 [.tmp 4] ac_cadenzaref03_Step := ⟨Tryz.f103, Tryz.func103, by kernel_rfl, by kernel_rfl, by kernel_rfl, by kernel_rfl⟩
theorem v_ref03_Step : S_Step pg 103 := ref03_Step b_cadenzaref03_Step
theorem b_cadenzaref03_Byte : Body pg 98 18 [.tmp 4] (ac_cadenzaref03_Byte 103) := ⟨Tryz.f98, Tryz.func98, by kernel_rfl, by kernel_rfl, by kernel_rfl, by kernel_rfl⟩
theorem v_ref03_Byte : S_Byte pg 98 := ref03_Byte b_cadenzaref03_Byte v_ref03_Step
theorem b_cadenzaref03_Behind : Body pg 89 19 [.tmp 4] (ac_cadenzaref03_Behind 98) := ⟨Tryz.f89, Tryz.func89, by kernel_rfl, by kernel_rfl, by kernel_rfl, by kernel_rfl⟩
theorem v_ref03_Behind : S_Behind3 pg 89 := ref03_Behind b_cadenzaref03_Behind v_ref03_Byte
theorem b_cadenzaref03_Of : Body pg 71 6 [.tmp 2] (ac_cadenzaref03_Of 89) := ⟨Tryz.f71, Tryz.func71, by kernel_rfl, by kernel_rfl, by kernel_rfl, by kernel_rfl⟩
theorem v_ref03_Of : S_COf pg 71 := ref03_Of b_cadenzaref03_Of v_ref03_Behind
theorem b_bits_Check : Body pg 28 40 [.tmp 2] (ac_bits_Check 47) := ⟨Tryz.f28, Tryz.func28, by kernel_rfl, by kernel_rfl, by kernel_rfl, by kernel_rfl⟩
theorem v_bits_Check : S_bCheck pg 28 := bits_Check b_bits_Check
theorem b_cadenzaref07_Power : Body pg 86 13 [.tmp 2] ac_cadenzaref07_Power := ⟨Tryz.f86, Tryz.func86, by kernel_rfl, by kernel_rfl, by kernel_rfl, by kernel_rfl⟩
theorem v_ref07_Power : S_Power pg 86 := ref07_Power b_cadenzaref07_Power
theorem b_dual_Start : Body pg 27 2 [.cell 0 43] (ac_dual_Start 43) := ⟨Tryz.f27, Tryz.func27, by kernel_rfl, by kernel_rfl, by kernel_rfl, by kernel_rfl⟩
theorem v_dual_Start : S_Start pg 27 := dual_Start b_dual_Start (show aggO Tryz.prog 43 = some (some 4) by kernel_rfl)
theorem b_cadenzaref08_Start : Body pg 64 2 [.cell 0 43] (ac_cadenzaref08_Start 43) := ⟨Tryz.f64, Tryz.func64, by kernel_rfl, by kernel_rfl, by kernel_rfl, by kernel_rfl⟩
theorem v_ref08_Start : S_Start pg 64 := ref08_Start b_cadenzaref08_Start (show aggO Tryz.prog 43 = some (some 4) by kernel_rfl)
theorem b_dual_Check : Body pg 29 26 [.tmp 2] (ac_dual_Check 43) := ⟨Tryz.f29, Tryz.func29, by kernel_rfl, by kernel_rfl, by kernel_rfl, by kernel_rfl⟩
theorem v_dual_Check : S_DCheck pg 29 := dual_Check b_dual_Check
theorem b_cadenzaref08_Low : Body pg 66 11 [.tmp 4] (ac_cadenzaref08_Low 86 43) := ⟨Tryz.f66, Tryz.func66, by kernel_rfl, by kernel_rfl, by kernel_rfl, by kernel_rfl⟩
theorem v_ref08_Low : S_Low8 pg 66 := ref08_Low b_cadenzaref08_Low v_ref07_Power
theorem b_cadenzaref08_Left : Body pg 70 12 [.tmp 4] (ac_cadenzaref08_Left 86 43) := ⟨Tryz.f70, Tryz.func70, by kernel_rfl, by kernel_rfl, by kernel_rfl, by kernel_rfl⟩
theorem v_ref08_Left : S_Left8 pg 70 := ref08_Left b_cadenzaref08_Left v_ref07_Power
theorem b_cadenzaref08_pair : Body pg 85 40 [.tmp 6, .tmp 7] (ac_cadenzaref08_pair 86) := ⟨Tryz.f85, Tryz.func85, by kernel_rfl, by kernel_rfl, by kernel_rfl, by kernel_rfl⟩
theorem v_ref08_pair : S_pair8 pg 85 := ref08_pair b_cadenzaref08_pair v_ref07_Power
theorem b_cadenzaref08_Learnt : Body pg 65 38 [.cell 4 43] (ac_cadenzaref08_Learnt 66 70 85 43) := ⟨Tryz.f65, Tryz.func65, by kernel_rfl, by kernel_rfl, by kernel_rfl, by kernel_rfl⟩
theorem v_ref08_Learnt : S_Learnt pg 65 := ref08_Learnt b_cadenzaref08_Learnt v_ref08_Low v_ref08_Left v_ref08_pair (show aggO Tryz.prog 43 = some (some 4) by kernel_rfl)
theorem b_dual_level : Body pg 30 17 [.tmp 4, .tmp 5] (ac_dual_level 43) := ⟨Tryz.f30, Tryz.func30, by kernel_rfl, by kernel_rfl, by kernel_rfl, by kernel_rfl⟩
theorem v_dual_level : S_Level pg 30 := dual_level b_dual_level
theorem b_rice_escaped : Body pg 59 9 [.tmp 4] ac_rice_escaped := ⟨Tryz.f59, Tryz.func59, by kernel_rfl, by kernel_rfl, by kernel_rfl, by kernel_rfl⟩
theorem v_rice_esc : S_esc pg 59 := rice_esc b_rice_escaped
theorem b_cadenzaref07_Part : Body pg 87 12 [.tmp 4] (ac_cadenzaref07_Part 86) := ⟨Tryz.f87, Tryz.func87, by kernel_rfl, by kernel_rfl, by kernel_rfl, by kernel_rfl⟩
theorem v_ref07_Part : S_Part7 pg 87 := ref07_Part b_cadenzaref07_Part v_ref07_Power
theorem b_cadenzaref20_Sealed : Body pg 41 22 [.tmp 2] (ac_cadenzaref20_Sealed 71 5) := ⟨Tryz.f41, Tryz.func41, by kernel_rfl, by kernel_rfl, by kernel_rfl, by kernel_rfl⟩
theorem v_ref20_Sealed : S_Sealed pg 41 := ref20_Sealed b_cadenzaref20_Sealed v_ref03_Of
theorem b_slices_Clone_byte_byte : Body pg 83 8 [.tmp 2] (ac_slices_Clone_byte_byte 5) := ⟨Tryz.f83, Tryz.func83, by kernel_rfl, by kernel_rfl, by kernel_rfl, by kernel_rfl⟩
theorem v_clone_b : S_CloneB 5 pg 83 := clone_b b_slices_Clone_byte_byte
theorem b_bits_Put : Body pg 31 44 [.cell 6 47, .tmp 7] (ac_bits_Put 28 57 58 47) := ⟨Tryz.f31, Tryz.func31, by kernel_rfl, by kernel_rfl, by kernel_rfl, by kernel_rfl⟩
theorem b_bits_twin : Body pg 57 9 [.cell 2 47] (ac_bits_twin 83 47) := ⟨Tryz.f57, Tryz.func57, by kernel_rfl, by kernel_rfl, by kernel_rfl, by kernel_rfl⟩
theorem b_bits_put : Body pg 58 75 [] (ac_bits_put 5) := ⟨Tryz.f58, Tryz.func58, by kernel_rfl, by kernel_rfl, by kernel_rfl, by kernel_rfl⟩
theorem v_bits_Put : S_bPut pg 31 := bits_Put b_bits_Put v_bits_Check b_bits_twin b_bits_put v_clone_b (show aggO Tryz.prog 47 = some (some 2) by kernel_rfl) (show aggO Tryz.prog 47 = some (some 2) by kernel_rfl)
theorem b_unary_Length : Body pg 84 13 [.tmp 2, .tmp 3] ac_unary_Length := ⟨Tryz.f84, Tryz.func84, by kernel_rfl, by kernel_rfl, by kernel_rfl, by kernel_rfl⟩
theorem v_unary_Length : S_uLen pg 84 := unary_Length b_unary_Length
theorem b_unary_Write : Body pg 60 32 [.cell 4 47, .tmp 5] (ac_unary_Write 28 84 31 47) := ⟨Tryz.f60, Tryz.func60, by kernel_rfl, by kernel_rfl, by kernel_rfl, by kernel_rfl⟩
theorem v_unary_Write : S_uWrite pg 60 := unary_Write b_unary_Write v_bits_Check v_unary_Length v_bits_Put (show aggO Tryz.prog 47 = some (some 2) by kernel_rfl)
theorem b_rice_Write : Body pg 32 57 [.cell 6 47, .tmp 7] (ac_rice_Write 28 59 60 31 47) := ⟨Tryz.f32, Tryz.func32, by kernel_rfl, by kernel_rfl, by kernel_rfl, by kernel_rfl⟩
theorem v_rice_Write : S_rWrite pg 32 := rice_Write b_rice_Write v_bits_Check v_rice_esc v_unary_Write v_bits_Put (show aggO Tryz.prog 47 = some (some 2) by kernel_rfl)
theorem b_rice_Length : Body pg 47 24 [.tmp 4, .tmp 5] (ac_rice_Length 59) := ⟨Tryz.f47, Tryz.func47, by kernel_rfl, by kernel_rfl, by kernel_rfl, by kernel_rfl⟩
theorem v_rice_Length : S_rLen pg 47 := rice_Length b_rice_Length v_rice_esc
theorem b_dual_Write : Body pg 12 69 [.cell 6 47, .cell 7 43, .tmp 8] (ac_dual_Write 28 29 30 31 32 33 47 43) := ⟨Tryz.f12, Tryz.func12, by kernel_rfl, by kernel_rfl, by kernel_rfl, by kernel_rfl⟩
theorem b_dual_learn : Body pg 33 36 [] (ac_dual_learn 61 30) := ⟨Tryz.f33, Tryz.func33, by kernel_rfl, by kernel_rfl, by kernel_rfl, by kernel_rfl⟩
theorem b_dual_learn_1 : Body pg 61 58 [] ac_dual_learn_1 := ⟨Tryz.f61, Tryz.func61, by kernel_rfl, by kernel_rfl, by kernel_rfl, by kernel_rfl⟩
theorem v_dual_Write : S_dWrite pg 12 := dual_Write b_dual_Write v_bits_Check v_dual_Check v_dual_level v_bits_Put v_rice_Write b_dual_learn b_dual_learn_1 v_dual_level (show aggO Tryz.prog 47 = some (some 2) by kernel_rfl) (show aggO Tryz.prog 43 = some (some 4) by kernel_rfl)
theorem b_dual_Length : Body pg 20 37 [.tmp 4, .tmp 5] (ac_dual_Length 29 30 47 43) := ⟨Tryz.f20, Tryz.func20, by kernel_rfl, by kernel_rfl, by kernel_rfl, by kernel_rfl⟩
theorem v_dual_Length : S_dLen pg 20 := dual_Length b_dual_Length v_dual_Check v_dual_level v_rice_Length
theorem b_dual_Learn : Body pg 21 16 [.cell 4 43, .tmp 5] (ac_dual_Learn 29 33 43) := ⟨Tryz.f21, Tryz.func21, by kernel_rfl, by kernel_rfl, by kernel_rfl, by kernel_rfl⟩
theorem v_dual_Learn : S_dLearn pg 21 := dual_Learn b_dual_Learn v_dual_Check b_dual_learn b_dual_learn_1 v_dual_level (show aggO Tryz.prog 43 = some (some 4) by kernel_rfl)
theorem b_enframe_states : Body pg 11 11 [.cell 0 44] (ac_enframe_states 27 44) := ⟨Tryz.f11, Tryz.func11, by kernel_rfl, by kernel_rfl, by kernel_rfl, by kernel_rfl⟩
theorem v_enframe_states : S_eStates pg 11 := enframe_states b_enframe_states v_dual_Start (show aggO Tryz.prog 44 = some (some 24) by kernel_rfl)
theorem b_slices_Concat_byte_byte : Body pg 16 36 [.tmp 2] (ac_slices_Concat_byte_byte 36 5) := ⟨Tryz.f16, Tryz.func16, by kernel_rfl, by kernel_rfl, by kernel_rfl, by kernel_rfl⟩
theorem growB : S_GrowNil 5 pg 36 := grow_nil Tryz.growB rfl rfl (by kernel_rfl)
theorem v_slices_Concat : S_Concat pg 16 := slices_Concat b_slices_Concat_byte_byte growB
theorem b_enframe_Encode : Body pg 5 85 [.tmp 6, .tmp 7] (ac_enframe_Encode 10 11 12 13 14 15 16 23 24 44 47 43 27) := ⟨Tryz.f5, Tryz.func5, by kernel_rfl, by kernel_rfl, by kernel_rfl, by kernel_rfl⟩
theorem b_enframe_put : Body pg 13 64 [] (ac_enframe_put 47 5) := ⟨Tryz.f13, Tryz.func13, by kernel_rfl, by kernel_rfl, by kernel_rfl, by kernel_rfl⟩
theorem v_enframe_Encode : S_Enc pg 5 := enframe_Encode b_enframe_Encode v_enframe_Values v_enframe_states v_dual_Write b_enframe_put v_crc32_Sum v_le_Bytes v_slices_Concat
theorem b_enframe_Length : Body pg 7 69 [.tmp 6, .tmp 7] (ac_enframe_Length 10 11 20 21 23 24 44) := ⟨Tryz.f7, Tryz.func7, by kernel_rfl, by kernel_rfl, by kernel_rfl, by kernel_rfl⟩
theorem v_enframe_Length : S_ELen pg 7 := enframe_Length b_enframe_Length v_enframe_Values v_enframe_states v_dual_Length v_dual_Learn
theorem b_cadenzaref08_Add : Body pg 40 25 [.cell 6 47] (ac_cadenzaref08_Add 66 68 67 70 69 47 43) := ⟨Tryz.f40, Tryz.func40, by kernel_rfl, by kernel_rfl, by kernel_rfl, by kernel_rfl⟩
theorem b_cadenzaref02_Add : Body pg 68 43 [.cell 4 47] (ac_cadenzaref02_Add 47 5) := ⟨Tryz.f68, Tryz.func68, by kernel_rfl, by kernel_rfl, by kernel_rfl, by kernel_rfl⟩
theorem b_cadenzaref02_Number : Body pg 67 21 [.cell 6 47] (ac_cadenzaref02_Number 68 47) := ⟨Tryz.f67, Tryz.func67, by kernel_rfl, by kernel_rfl, by kernel_rfl, by kernel_rfl⟩
theorem b_cadenzaref07_Add : Body pg 69 28 [.cell 6 47] (ac_cadenzaref07_Add 87 88 67 86 47) := ⟨Tryz.f69, Tryz.func69, by kernel_rfl, by kernel_rfl, by kernel_rfl, by kernel_rfl⟩
theorem b_cadenzaref06_Add : Body pg 88 18 [.cell 4 47] (ac_cadenzaref06_Add 68 47) := ⟨Tryz.f88, Tryz.func88, by kernel_rfl, by kernel_rfl, by kernel_rfl, by kernel_rfl⟩
theorem v_ref08_Add : S_dAdd pg 40 := ref08_Add b_cadenzaref08_Add v_ref08_Low v_ref08_Left b_cadenzaref02_Add b_cadenzaref02_Number b_cadenzaref02_Add b_cadenzaref07_Add v_ref07_Part b_cadenzaref06_Add b_cadenzaref02_Number v_ref07_Power b_cadenzaref02_Add b_cadenzaref02_Add (show aggO Tryz.prog 47 = some (some 2) by kernel_rfl) (show aggO Tryz.prog 47 = some (some 2) by kernel_rfl) (show aggO Tryz.prog 47 = some (some 2) by kernel_rfl) (show aggO Tryz.prog 47 = some (some 2) by kernel_rfl) (show aggO Tryz.prog 47 = some (some 2) by kernel_rfl)
theorem b_cadenzaref20_States : Body pg 39 37 [.tmp 4] (ac_cadenzaref20_States 64 65 43) := ⟨Tryz.f39, Tryz.func39, by kernel_rfl, by kernel_rfl, by kernel_rfl, by kernel_rfl⟩
theorem v_ref20_States : S_rStates pg 39 := ref20_States b_cadenzaref20_States v_ref08_Start v_ref08_Learnt
theorem b_cadenzaref20_Bytes : Body pg 18 69 [.tmp 4] (ac_cadenzaref20_Bytes 39 40 41 47 5) := ⟨Tryz.f18, Tryz.func18, by kernel_rfl, by kernel_rfl, by kernel_rfl, by kernel_rfl⟩
theorem v_ref20_Bytes : S_rBytes pg 18 := ref20_Bytes b_cadenzaref20_Bytes v_ref20_States v_ref08_Add v_ref20_Sealed
theorem b_cadenzaref20_Encode : Body pg 6 22 [.tmp 6, .tmp 7] (ac_cadenzaref20_Encode 17 19 18 23 24) := ⟨Tryz.f6, Tryz.func6, by kernel_rfl, by kernel_rfl, by kernel_rfl, by kernel_rfl⟩
theorem v_ref20_Encode : S_Enc pg 6 := ref20_Encode b_cadenzaref20_Encode v_ref20_Asked v_ref20_Coded v_ref20_Bytes
theorem b_cadenzaref20_Length : Body pg 8 20 [.tmp 6, .tmp 7] (ac_cadenzaref20_Length 6 23 24) := ⟨Tryz.f8, Tryz.func8, by kernel_rfl, by kernel_rfl, by kernel_rfl, by kernel_rfl⟩
theorem v_ref20_Length : S_ELen pg 8 := ref20_Length b_cadenzaref20_Length v_ref20_Encode
theorem b_cadenzalaw20_EnframeBytes : Body pg 3 65 [.tmp 6] (ac_cadenzalaw20_EnframeBytes 4 5 6 7 8 23 24) := ⟨Tryz.f3, Tryz.func3, by kernel_rfl, by kernel_rfl, by kernel_rfl, by kernel_rfl⟩
theorem v_law20_EnframeBytes : S_LawValues pg 3 := law20_EnframeBytes b_cadenzalaw20_EnframeBytes v_ref20_Great v_enframe_Encode v_ref20_Encode v_enframe_Length v_ref20_Length

theorem own : ownKnob Tryz.prog.godebug = none := by kernel_rfl
theorem laid : laidOutB Tryz.prog = true := by kernel_rfl

set_option maxRecDepth 100000 in
theorem contract (H : Type) (enc : TypeId × Value → H) (W : World) (base : Nat) (args : Array Value) (ds gs : List (DataW H)) (before : List MemPlace)
    (hval : ∀ (j : Nat) t v, Tryz.f3.params[j]? = some t → args[j]? = some v → Value.okWide Tryz.prog W .any base t v)
    (hW : DataW.Whole enc Tryz.prog Tryz.f3.params.toList Rows.enframeBytesSpec.vars false W args.toList ds gs before) :
    Calls Tryz.prog 3 args W fun e W' => ∃ v, e = .returned v ∧ Rows.enframeBytesSpec.post enc Tryz.prog Tryz.f3 false true false false W args v W' := by
  have hW' := hW
  obtain ⟨p, q, hA0, hV, rfl, hfz, hnd⟩ := hW
  have hA : DataW.TrodAll enc Tryz.prog W 0 (fun _ => true) true Tryz.f3.params.toList args.toList ds p := hA0
  rw [Tryz.params3] at hA hval
  obtain ⟨v0, vs0, d0, ds0, p0, q0, hargs, rfl, rfl, h0, r0⟩ := trodAll_cons hA
  obtain ⟨v1, vs1, d1, ds1, p1, q1, rfl, rfl, rfl, h1, r1⟩ := trodAll_cons r0
  obtain ⟨v2, vs2, d2, ds2, p2, q2, rfl, rfl, rfl, h2, r2⟩ := trodAll_cons r1
  obtain ⟨rfl, rfl, rfl⟩ := trodAll_nil r2
  obtain rfl : args = #[v0, v1, v2] := by cases args; simp_all
  obtain ⟨rfl, rfl⟩ := trodVars_none hV
  obtain ⟨as0, r0, q0⟩ := arg_agg (P := Tryz.prog) (k := 8) (s := shSh) (by kernel_rfl) (isStr_eq (by kernel_rfl)) (hval 0 _ v0 rfl rfl) h0
  obtain ⟨c0, b0, rfl⟩ := fits_shape q0
  obtain ⟨as1, r1, q1⟩ := arg_arr (P := Tryz.prog) (k := 8) (s := tapSh) (by kernel_rfl) (isArr_eq (by kernel_rfl)) (hval 1 _ v1 rfl rfl) h1
  obtain ⟨t1, rfl, g1, i1⟩ := fits_taps q1
  obtain ⟨L2, r2, m2, q2⟩ := arg_slice (P := Tryz.prog) (k := 8) (s := .int .i32) (by kernel_rfl) (isSl_eq (by kernel_rfl)) (hval 2 _ v2 rfl rfl) h2
  obtain ⟨x2, z2, y2, g2⟩ := fits_i32s q2
  rw [y2] at r2
  refine (calls_true (P := pg) (v_law20_EnframeBytes c0 b0 t1 x2 g1 i1 g2) (fun q cs h => by cases h) (args := #[v0, v1, v2]) (by simp only [RepL]; exact ⟨v0, _, rfl, r0, v1, _, rfl, r1, v2, _, rfl, r2, rfl⟩)).mono fun e W' ⟨he, hb⟩ => ?_
  subst he
  exact ⟨_, rfl, post_true laid (by kernel_rfl) (by rfl) (by kernel_rfl) rfl ⟨rfl, rfl, rfl⟩ hW' hb⟩

set_option maxRecDepth 100000 in
theorem lifted (os : Os) (started : os.Started) (H : Type) (enc : TypeId × Value → H) :
    ReturnsInHanded {} Tryz.checked os 3 .any (Rows.enframeBytesSpec.pre6 enc Tryz.prog Tryz.f3 Rows.enframeBytesRow.domain false) (Rows.enframeBytesSpec.post enc Tryz.prog Tryz.f3 false true false false) := by
  refine returnsInHanded_of_change (C := Tryz.checked) own started (by kernel_rfl) Tryz.func3
    (ChangeSpec.witness6 (enc := enc) (C := Tryz.checked) false ⟨#[], #[.agg #[.int .i64 0, .int .i64 0], .agg #[.int .i32 0, .int .i32 0, .int .i32 0, .int .i32 0, .int .i32 0, .int .i32 0, .int .i32 0, .int .i32 0, .int .i32 0, .int .i32 0, .int .i32 0, .int .i32 0, .int .i32 0, .int .i32 0, .int .i32 0, .int .i32 0], .slice none 0 0], []⟩ 8 (by kernel_rfl) (by kernel_rfl) (by kernel_rfl) (by kernel_rfl)) ?_
  intro W base args ds gs before hval hW _ _
  exact contract H enc W base args ds gs before hval hW

theorem proved : Rows.EnframeBytesSaid :=
  OpenClaim.holds_of_wide 3 Tryz.f3 rfl rfl rfl rfl rfl rfl rfl ⟨rfl, rfl, rfl, rfl, rfl⟩ rfl rfl rfl rfl rfl (by kernel_rfl) Tryz.func3 (by kernel_rfl)
    (of_decide_eq_true (by kernel_rfl)) (by unfold Func.isWrapper; first | (rw [if_pos (by decide +kernel)]; kernel_rfl) | (rw [if_neg (by decide +kernel)]; exact ⟨rfl, rfl⟩))
    (fun os started H enc _ => lifted os started H enc)

end Go.Proofs.YtkngajpinabacaaGreat.enframeBytes

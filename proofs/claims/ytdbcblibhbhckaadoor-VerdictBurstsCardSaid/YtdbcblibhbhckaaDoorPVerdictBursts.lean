/- For every shape, tap list, sample list, place and burst cadenzalaw23.VerdictBursts returns true and leaves its arguments as they were. No conditions. -/
import Derived.Test.YtdbcblibhbhckaaDoorRows
import Derived.Test.YtdbcblibhbhckaaDoorCards
import Derived.Test.YtdbcblibhbhckaaDoorTie
import Derived.Test.YtdbcblibhbhckaaDoorVerdictBurstsY1
import Derived.ChangeSame
import Derived.ChangeVars
import Derived.JoinedOf
import Derived.RowKit
import Derived.RowKitTokens
import Derived.LaidLaws
import Derived.Stop.Joined
import Derived.SevenTiedAt
set_option linter.unusedSectionVars false
set_option linter.unusedSimpArgs false
set_option linter.unusedVariables false
namespace Go.Proofs.YtdbcblibhbhckaaDoor.verdictBursts
open Go.Am Go.ChangeShapes Go.WideShapes Go.ChangeAt Go.RowKit

noncomputable def pg : Prg := ⟨Tryd.prog, [(0, [.int .u8 0, .int .u8 1, .int .u8 56, .int .u8 2, .int .u8 57, .int .u8 49, .int .u8 28, .int .u8 3, .int .u8 61, .int .u8 58, .int .u8 42, .int .u8 50, .int .u8 38, .int .u8 29, .int .u8 17, .int .u8 4, .int .u8 62, .int .u8 47, .int .u8 59, .int .u8 36, .int .u8 45, .int .u8 43, .int .u8 51, .int .u8 22, .int .u8 53, .int .u8 39, .int .u8 33, .int .u8 30, .int .u8 24, .int .u8 18, .int .u8 12, .int .u8 5, .int .u8 63, .int .u8 55, .int .u8 48, .int .u8 27, .int .u8 60, .int .u8 41, .int .u8 37, .int .u8 16, .int .u8 46, .int .u8 35, .int .u8 44, .int .u8 21, .int .u8 52, .int .u8 32, .int .u8 23, .int .u8 11, .int .u8 54, .int .u8 26, .int .u8 40, .int .u8 15, .int .u8 34, .int .u8 20, .int .u8 31, .int .u8 10, .int .u8 25, .int .u8 14, .int .u8 19, .int .u8 9, .int .u8 13, .int .u8 8, .int .u8 7, .int .u8 6])], fun g cs h => by
  simp only [List.lookup] at h
  repeat (first | (cases h; done) | (split at h; first | (cases h; rfl) | skip))⟩

theorem b_le_Value : Body pg 52 31 [.tmp 2, .tmp 3] ac_le_Value := ⟨Tryd.f52, Tryd.func52, by kernel_rfl, by kernel_rfl, by kernel_rfl, by kernel_rfl⟩
theorem v_le_Value : S_le_Value pg 52 := le_Value b_le_Value
theorem b_width_Range : Body pg 56 18 [.tmp 2, .tmp 3, .tmp 4] ac_width_Range := ⟨Tryd.f56, Tryd.func56, by kernel_rfl, by kernel_rfl, by kernel_rfl, by kernel_rfl⟩
theorem v_width_Range : S_Range pg 56 := width_Range b_width_Range
theorem b_cadenzaref18_Half : Body pg 51 10 [.tmp 2] ac_cadenzaref18_Half := ⟨Tryd.f51, Tryd.func51, by kernel_rfl, by kernel_rfl, by kernel_rfl, by kernel_rfl⟩
theorem v_ref18_Half : S_Half pg 51 := ref18_Half b_cadenzaref18_Half
theorem b_width_Check : Body pg 63 37 [.tmp 4] (ac_width_Check 56) := ⟨Tryd.f63, Tryd.func63, by kernel_rfl, by kernel_rfl, by kernel_rfl, by kernel_rfl⟩
theorem v_width_Check : S_WCheck pg 63 := width_Check b_width_Check v_width_Range
theorem b_cadenzaref18_Check : Body pg 38 37 [.tmp 4] (ac_cadenzaref18_Check 51) := ⟨Tryd.f38, Tryd.func38, by kernel_rfl, by kernel_rfl, by kernel_rfl, by kernel_rfl⟩
theorem v_ref18_Check : S_WCheck pg 38 := ref18_Check b_cadenzaref18_Check v_ref18_Half
theorem b_enframe_Check : Body pg 30 25 [.tmp 2] (ac_enframe_Check 56 23) := ⟨Tryd.f30, Tryd.func30, by kernel_rfl, by kernel_rfl, by kernel_rfl, by kernel_rfl⟩
theorem v_enframe_Check : S_ECheck pg 30 := enframe_Check b_enframe_Check v_width_Range
theorem b_cadenzaref20_Check : Body pg 25 17 [.tmp 2] (ac_cadenzaref20_Check 51 23) := ⟨Tryd.f25, Tryd.func25, by kernel_rfl, by kernel_rfl, by kernel_rfl, by kernel_rfl⟩
theorem v_ref20_Check : S_ECheck pg 25 := ref20_Check b_cadenzaref20_Check v_ref18_Half
theorem b_taps_New : Body pg 75 18 [.cell 4 92, .tmp 5] (ac_taps_New 24 92) := ⟨Tryd.f75, Tryd.func75, by kernel_rfl, by kernel_rfl, by kernel_rfl, by kernel_rfl⟩
theorem v_taps_New : S_TNew pg 75 := taps_New b_taps_New (show aggO Tryd.prog 92 = some (some 33) by kernel_rfl)
theorem b_taps_Check : Body pg 96 11 [.tmp 2] (ac_taps_Check 92) := ⟨Tryd.f96, Tryd.func96, by kernel_rfl, by kernel_rfl, by kernel_rfl, by kernel_rfl⟩
theorem v_taps_Check : S_TCheck pg 96 := taps_Check b_taps_Check
theorem b_taps_Guess : Body pg 91 36 [.tmp 2, .tmp 3] (ac_taps_Guess 96 92) := ⟨Tryd.f91, Tryd.func91, by kernel_rfl, by kernel_rfl, by kernel_rfl, by kernel_rfl⟩
theorem v_taps_Guess : S_TGuess pg 91 := taps_Guess b_taps_Guess v_taps_Check
theorem b_taps_step : Body pg 102 9 [.tmp 2] ac_taps_step := ⟨Tryd.f102, Tryd.func102, by kernel_rfl, by kernel_rfl, by kernel_rfl, by kernel_rfl⟩
theorem v_taps_step : S_TStep pg 102 := taps_step b_taps_step
theorem b_taps_Learn : Body pg 97 53 [.cell 4 92, .tmp 5] (ac_taps_Learn 96 102 92) := ⟨Tryd.f97, Tryd.func97, by kernel_rfl, by kernel_rfl, by kernel_rfl, by kernel_rfl⟩
theorem v_taps_Learn : S_TLearn pg 97 := taps_Learn b_taps_Learn (show aggO Tryd.prog 92 = some (some 33) by kernel_rfl) v_taps_Check v_taps_step
theorem b_taps_Push : Body pg 98 22 [.cell 4 92, .tmp 5] (ac_taps_Push 96 92) := ⟨Tryd.f98, Tryd.func98, by kernel_rfl, by kernel_rfl, by kernel_rfl, by kernel_rfl⟩
theorem v_taps_Push : S_TPush pg 98 := taps_Push b_taps_Push (show aggO Tryd.prog 92 = some (some 33) by kernel_rfl) v_taps_Check
theorem b_lms_behind : Body pg 92 20 [.cell 6 92] (ac_lms_behind 97 98 92) := ⟨Tryd.f92, Tryd.func92, by kernel_rfl, by kernel_rfl, by kernel_rfl, by kernel_rfl⟩
theorem v_lms_behind : S_LBehind pg 92 := lms_behind b_lms_behind (show aggO Tryd.prog 92 = some (some 33) by kernel_rfl) v_taps_Learn v_taps_Push
theorem b_lms_Forward : Body pg 78 27 [.tmp 4, .cell 5 92, .tmp 6] (ac_lms_Forward 91 92 92) := ⟨Tryd.f78, Tryd.func78, by kernel_rfl, by kernel_rfl, by kernel_rfl, by kernel_rfl⟩
theorem v_lms_Forward : S_LForward pg 78 := lms_Forward b_lms_Forward (show aggO Tryd.prog 92 = some (some 33) by kernel_rfl) v_taps_Guess v_lms_behind
theorem b_lms_Back : Body pg 82 27 [.tmp 4, .cell 5 92, .tmp 6] (ac_lms_Back 91 92 92) := ⟨Tryd.f82, Tryd.func82, by kernel_rfl, by kernel_rfl, by kernel_rfl, by kernel_rfl⟩
theorem v_lms_Back : S_LBack pg 82 := lms_Back b_lms_Back (show aggO Tryd.prog 92 = some (some 33) by kernel_rfl) v_taps_Guess v_lms_behind
theorem b_first_Shift : Body pg 89 10 [.tmp 2, .tmp 3] ac_first_Shift := ⟨Tryd.f89, Tryd.func89, by kernel_rfl, by kernel_rfl, by kernel_rfl, by kernel_rfl⟩
theorem v_first_Shift : S_FShift pg 89 := first_Shift b_first_Shift
theorem b_first_guess : Body pg 90 16 [.tmp 4] ac_first_guess := ⟨Tryd.f90, Tryd.func90, by kernel_rfl, by kernel_rfl, by kernel_rfl, by kernel_rfl⟩
theorem v_first_guess : S_Fguess pg 90 := first_guess b_first_guess
theorem b_first_Guess : Body pg 77 19 [.tmp 4, .tmp 5] (ac_first_Guess 89 90) := ⟨Tryd.f77, Tryd.func77, by kernel_rfl, by kernel_rfl, by kernel_rfl, by kernel_rfl⟩
theorem v_first_Guess : S_FGuess pg 77 := first_Guess b_first_Guess v_first_Shift v_first_guess
theorem b_chain_New : Body pg 47 21 [.cell 4 94, .tmp 5] (ac_chain_New 75 24 94 92) := ⟨Tryd.f47, Tryd.func47, by kernel_rfl, by kernel_rfl, by kernel_rfl, by kernel_rfl⟩
theorem v_chain_New : S_CNew pg 47 := chain_New b_chain_New (show aggO Tryd.prog 94 = some (some 35) by kernel_rfl) v_taps_New
theorem b_chain_Check : Body pg 76 24 [.tmp 2] (ac_chain_Check 75 94 92) := ⟨Tryd.f76, Tryd.func76, by kernel_rfl, by kernel_rfl, by kernel_rfl, by kernel_rfl⟩
theorem v_chain_Check : S_CCheck pg 76 := chain_Check b_chain_Check v_taps_New
theorem b_chain_Forward : Body pg 48 44 [.tmp 4, .cell 5 94, .tmp 6] (ac_chain_Forward 76 77 78 94 92) := ⟨Tryd.f48, Tryd.func48, by kernel_rfl, by kernel_rfl, by kernel_rfl, by kernel_rfl⟩
theorem v_chain_Forward : S_CForward pg 48 := chain_Forward b_chain_Forward (show aggO Tryd.prog 94 = some (some 35) by kernel_rfl) v_chain_Check v_first_Guess v_lms_Forward
theorem b_chain_Back : Body pg 60 46 [.tmp 4, .cell 5 94, .tmp 6] (ac_chain_Back 76 77 82 94 92) := ⟨Tryd.f60, Tryd.func60, by kernel_rfl, by kernel_rfl, by kernel_rfl, by kernel_rfl⟩
theorem v_chain_Back : S_CBack pg 60 := chain_Back b_chain_Back (show aggO Tryd.prog 94 = some (some 35) by kernel_rfl) v_chain_Check v_first_Guess v_lms_Back
theorem b_fold_Fold : Body pg 49 10 [.tmp 2] ac_fold_Fold := ⟨Tryd.f49, Tryd.func49, by kernel_rfl, by kernel_rfl, by kernel_rfl, by kernel_rfl⟩
theorem v_fold_Fold : S_Fold pg 49 := fold_Fold b_fold_Fold
theorem b_fold_Back : Body pg 61 11 [.tmp 2] ac_fold_Back := ⟨Tryd.f61, Tryd.func61, by kernel_rfl, by kernel_rfl, by kernel_rfl, by kernel_rfl⟩
theorem v_fold_Back : S_UBack pg 61 := fold_Back b_fold_Back
theorem b_slices_Clone_int32_int32 : Body pg 73 8 [.tmp 2] (ac_slices_Clone_int32_int32 21) := ⟨Tryd.f73, Tryd.func73, by kernel_rfl, by kernel_rfl, by kernel_rfl, by kernel_rfl⟩
theorem v_clone_i32 : S_CloneA 21 pg 73 := clone_i32 b_slices_Clone_int32_int32
theorem b_mix_mix : Body pg 74 39 [] ac_mix_mix := ⟨Tryd.f74, Tryd.func74, by kernel_rfl, by kernel_rfl, by kernel_rfl, by kernel_rfl⟩
theorem v_mix_mix : S_Mix pg 74 := mix_mix b_mix_mix
theorem b_mix_check : Body pg 72 22 [.tmp 4] ac_mix_check := ⟨Tryd.f72, Tryd.func72, by kernel_rfl, by kernel_rfl, by kernel_rfl, by kernel_rfl⟩
theorem v_mix_check : S_MCheck pg 72 := mix_check b_mix_check
theorem b_mix_All : Body pg 46 32 [.tmp 4, .tmp 5] (ac_mix_All 72 73 74) := ⟨Tryd.f46, Tryd.func46, by kernel_rfl, by kernel_rfl, by kernel_rfl, by kernel_rfl⟩
theorem v_mix_All : S_MixAll pg 46 := mix_All b_mix_All v_mix_check v_clone_i32 v_mix_mix
theorem b_enframe_check : Body pg 45 30 [.tmp 4] (ac_enframe_check 30 63 23) := ⟨Tryd.f45, Tryd.func45, by kernel_rfl, by kernel_rfl, by kernel_rfl, by kernel_rfl⟩
theorem v_enframe_check : S_EAsk pg 45 := enframe_check b_enframe_check v_enframe_Check v_width_Check
theorem b_cadenzaref20_Asked : Body pg 17 28 [.tmp 4] (ac_cadenzaref20_Asked 25 38 23) := ⟨Tryd.f17, Tryd.func17, by kernel_rfl, by kernel_rfl, by kernel_rfl, by kernel_rfl⟩
theorem v_ref20_Asked : S_EAsk pg 17 := ref20_Asked b_cadenzaref20_Asked v_ref20_Check v_ref18_Check
theorem b_enframe_Values : Body pg 19 83 [.tmp 6, .tmp 7] (ac_enframe_Values 45 46 47 48 49 23 24 95 94 55) := ⟨Tryd.f19, Tryd.func19, by kernel_rfl, by kernel_rfl, by kernel_rfl, by kernel_rfl⟩
theorem v_enframe_Values : S_EVals pg 19 := enframe_Values b_enframe_Values v_enframe_check v_mix_All v_chain_New v_chain_Forward v_fold_Fold
theorem b_cadenzaref13_Same : Body pg 15 26 [.tmp 4] ac_cadenzaref13_Same := ⟨Tryd.f15, Tryd.func15, by kernel_rfl, by kernel_rfl, by kernel_rfl, by kernel_rfl⟩
theorem v_ref13_Same : S_ISame pg 15 := ref13_Same b_cadenzaref13_Same
theorem b_mix_unmix : Body pg 83 40 [] ac_mix_unmix := ⟨Tryd.f83, Tryd.func83, by kernel_rfl, by kernel_rfl, by kernel_rfl, by kernel_rfl⟩
theorem v_mix_unmix : S_Unmix pg 83 := mix_unmix b_mix_unmix
theorem b_mix_Undo : Body pg 62 32 [.tmp 4, .tmp 5] (ac_mix_Undo 72 73 83) := ⟨Tryd.f62, Tryd.func62, by kernel_rfl, by kernel_rfl, by kernel_rfl, by kernel_rfl⟩
theorem v_mix_Undo : S_MixUndo pg 62 := mix_Undo b_mix_Undo v_mix_check v_clone_i32 v_mix_unmix
theorem b_deframe_samples : Body pg 35 84 [.tmp 6, .tmp 7] (ac_deframe_samples 47 61 60 62 63 23 24 95 94 21) := ⟨Tryd.f35, Tryd.func35, by kernel_rfl, by kernel_rfl, by kernel_rfl, by kernel_rfl⟩
theorem v_deframe_samples : S_DSam pg 35 := deframe_samples b_deframe_samples v_chain_New v_fold_Back v_chain_Back v_mix_Undo v_width_Check
theorem b_deframe_Samples : Body pg 20 34 [.tmp 6, .tmp 7] (ac_deframe_Samples 30 35 23 24) := ⟨Tryd.f20, Tryd.func20, by kernel_rfl, by kernel_rfl, by kernel_rfl, by kernel_rfl⟩
theorem v_deframe_Samples : S_DSamples pg 20 := deframe_Samples b_deframe_Samples v_enframe_Check v_deframe_samples
theorem b_le_fits : Body pg 70 14 [.tmp 4] ac_le_fits := ⟨Tryd.f70, Tryd.func70, by kernel_rfl, by kernel_rfl, by kernel_rfl, by kernel_rfl⟩
theorem v_le_fits : S_fits pg 70 := le_fits b_le_fits
theorem b_le_Bytes : Body pg 43 35 [.tmp 4, .tmp 5] (ac_le_Bytes 70 5) := ⟨Tryd.f43, Tryd.func43, by kernel_rfl, by kernel_rfl, by kernel_rfl, by kernel_rfl⟩
theorem v_le_Bytes : S_leBytes pg 43 := le_Bytes b_le_Bytes v_le_fits
theorem b_crc32_table : Body pg 88 24 [.tmp 0] (ac_crc32_table 155) := ⟨Tryd.f88, Tryd.func88, by kernel_rfl, by kernel_rfl, by kernel_rfl, by kernel_rfl⟩
theorem v_crc32_table : S_table pg 88 := crc32_table b_crc32_table
theorem b_crc32_Next : Body pg 69 32 [.tmp 4, .tmp 5] (ac_crc32_Next 88) := ⟨Tryd.f69, Tryd.func69, by kernel_rfl, by kernel_rfl, by kernel_rfl, by kernel_rfl⟩
theorem v_crc32_Next : S_CNext pg 69 := crc32_Next b_crc32_Next v_crc32_table
theorem b_crc32_Sum : Body pg 42 16 [.tmp 2, .tmp 3] (ac_crc32_Sum 69) := ⟨Tryd.f42, Tryd.func42, by kernel_rfl, by kernel_rfl, by kernel_rfl, by kernel_rfl⟩
theorem v_crc32_Sum : S_CSum pg 42 := crc32_Sum b_crc32_Sum v_crc32_Next
theorem b_cadenzaref03_Step : Body pg 99 19 [.tmp 4] ac_cadenzaref03_Step := ⟨Tryd.f99, Tryd.func99, by kernel_rfl, by kernel_rfl, by kernel_rfl, by kernel_rfl⟩
theorem v_ref03_Step : S_Step pg 99 := ref03_Step b_cadenzaref03_Step
theorem b_cadenzaref03_Byte : Body pg 93 18 [.tmp 4] (ac_cadenzaref03_Byte 99) := ⟨Tryd.f93, Tryd.func93, by kernel_rfl, by kernel_rfl, by kernel_rfl, by kernel_rfl⟩
theorem v_ref03_Byte : S_Byte pg 93 := ref03_Byte b_cadenzaref03_Byte v_ref03_Step
theorem b_cadenzaref03_Behind : Body pg 79 19 [.tmp 4] (ac_cadenzaref03_Behind 93) := ⟨Tryd.f79, Tryd.func79, by kernel_rfl, by kernel_rfl, by kernel_rfl, by kernel_rfl⟩
theorem v_ref03_Behind : S_Behind3 pg 79 := ref03_Behind b_cadenzaref03_Behind v_ref03_Byte
theorem b_cadenzaref03_Of : Body pg 50 6 [.tmp 2] (ac_cadenzaref03_Of 79) := ⟨Tryd.f50, Tryd.func50, by kernel_rfl, by kernel_rfl, by kernel_rfl, by kernel_rfl⟩
theorem v_ref03_Of : S_COf pg 50 := ref03_Of b_cadenzaref03_Of v_ref03_Behind
theorem b_bits_Check : Body pg 58 40 [.tmp 2] (ac_bits_Check 66) := ⟨Tryd.f58, Tryd.func58, by kernel_rfl, by kernel_rfl, by kernel_rfl, by kernel_rfl⟩
theorem v_bits_Check : S_bCheck pg 58 := bits_Check b_bits_Check
theorem b_bits_get : Body pg 59 47 [.tmp 6] (ac_bits_get 66) := ⟨Tryd.f59, Tryd.func59, by kernel_rfl, by kernel_rfl, by kernel_rfl, by kernel_rfl⟩
theorem v_bits_get : S_bget pg 59 := bits_get b_bits_get
theorem b_bits_Get : Body pg 34 34 [.tmp 6, .tmp 7] (ac_bits_Get 58 59 66) := ⟨Tryd.f34, Tryd.func34, by kernel_rfl, by kernel_rfl, by kernel_rfl, by kernel_rfl⟩
theorem v_bits_Get : S_bGet pg 34 := bits_Get b_bits_Get v_bits_Check v_bits_get
theorem b_math_bits_TrailingZeros64 : Body pg 101 14 [.tmp 2] (ac_math_bits_TrailingZeros64 0) := ⟨Tryd.f101, Tryd.func101, by kernel_rfl, by kernel_rfl, by kernel_rfl, by kernel_rfl⟩
theorem v_bits_TZ : S_TZ pg 101 := bits_TZ b_math_bits_TrailingZeros64 (show pg.G.lookup 0 = some dbG by rfl)
theorem b_unary_Read_1 : Body pg 100 8 [.tmp 2] ac_unary_Read_1 := ⟨Tryd.f100, Tryd.func100, by kernel_rfl, by kernel_rfl, by kernel_rfl, by kernel_rfl⟩
theorem v_unary_take : S_take48 pg 100 := unary_take b_unary_Read_1
theorem b_unary_Read : Body pg 94 53 [.tmp 4, .tmp 5, .tmp 6] (ac_unary_Read 58 100 34 101 66 3) := ⟨Tryd.f94, Tryd.func94, by kernel_rfl, by kernel_rfl, by kernel_rfl, by kernel_rfl⟩
theorem v_unary_Read : S_uRead pg 94 := unary_Read b_unary_Read v_bits_Check v_unary_take v_bits_Get v_bits_TZ
theorem b_dual_Start : Body pg 53 2 [.cell 0 78] (ac_dual_Start 78) := ⟨Tryd.f53, Tryd.func53, by kernel_rfl, by kernel_rfl, by kernel_rfl, by kernel_rfl⟩
theorem v_dual_Start : S_Start pg 53 := dual_Start b_dual_Start (show aggO Tryd.prog 78 = some (some 4) by kernel_rfl)
theorem b_dual_Check : Body pg 64 26 [.tmp 2] (ac_dual_Check 78) := ⟨Tryd.f64, Tryd.func64, by kernel_rfl, by kernel_rfl, by kernel_rfl, by kernel_rfl⟩
theorem v_dual_Check : S_DCheck pg 64 := dual_Check b_dual_Check
theorem b_dual_level : Body pg 65 17 [.tmp 4, .tmp 5] (ac_dual_level 78) := ⟨Tryd.f65, Tryd.func65, by kernel_rfl, by kernel_rfl, by kernel_rfl, by kernel_rfl⟩
theorem v_dual_level : S_Level pg 65 := dual_level b_dual_level
theorem b_rice_escaped : Body pg 85 9 [.tmp 4] ac_rice_escaped := ⟨Tryd.f85, Tryd.func85, by kernel_rfl, by kernel_rfl, by kernel_rfl, by kernel_rfl⟩
theorem v_rice_esc : S_esc pg 85 := rice_esc b_rice_escaped
theorem b_rice_Read : Body pg 81 68 [.tmp 6, .tmp 7, .tmp 8] (ac_rice_Read 58 94 34 85 66) := ⟨Tryd.f81, Tryd.func81, by kernel_rfl, by kernel_rfl, by kernel_rfl, by kernel_rfl⟩
theorem v_rice_Read : S_rRead pg 81 := rice_Read b_rice_Read v_bits_Check v_unary_Read v_bits_Get v_rice_esc
theorem b_dual_Read : Body pg 55 86 [.tmp 6, .tmp 7, .cell 8 78, .tmp 9] (ac_dual_Read 58 64 34 81 68 66 78) := ⟨Tryd.f55, Tryd.func55, by kernel_rfl, by kernel_rfl, by kernel_rfl, by kernel_rfl⟩
theorem b_dual_learn : Body pg 68 36 [] (ac_dual_learn 87 65) := ⟨Tryd.f68, Tryd.func68, by kernel_rfl, by kernel_rfl, by kernel_rfl, by kernel_rfl⟩
theorem b_dual_learn_1 : Body pg 87 58 [] ac_dual_learn_1 := ⟨Tryd.f87, Tryd.func87, by kernel_rfl, by kernel_rfl, by kernel_rfl, by kernel_rfl⟩
theorem v_dual_Read : S_dRead pg 55 := dual_Read b_dual_Read v_bits_Check v_dual_Check v_bits_Get v_rice_Read b_dual_learn b_dual_learn_1 v_dual_level (show aggO Tryd.prog 78 = some (some 4) by kernel_rfl)
theorem b_slices_Clone_byte_byte : Body pg 57 8 [.tmp 2] (ac_slices_Clone_byte_byte 5) := ⟨Tryd.f57, Tryd.func57, by kernel_rfl, by kernel_rfl, by kernel_rfl, by kernel_rfl⟩
theorem v_slices_Clone : S_bytes_Clone pg 57 := slices_Clone b_slices_Clone_byte_byte
theorem b_bits_Of : Body pg 32 14 [.cell 2 66, .tmp 3] (ac_bits_Of 57 66) := ⟨Tryd.f32, Tryd.func32, by kernel_rfl, by kernel_rfl, by kernel_rfl, by kernel_rfl⟩
theorem v_bits_Of : S_bOf pg 32 := bits_Of b_bits_Of v_slices_Clone (show aggO Tryd.prog 66 = some (some 2) by kernel_rfl)
theorem b_bits_Cut : Body pg 54 46 [.cell 6 66, .tmp 7] (ac_bits_Cut 58 59 80 66) := ⟨Tryd.f54, Tryd.func54, by kernel_rfl, by kernel_rfl, by kernel_rfl, by kernel_rfl⟩
theorem b_bits_put : Body pg 80 75 [] (ac_bits_put 5) := ⟨Tryd.f80, Tryd.func80, by kernel_rfl, by kernel_rfl, by kernel_rfl, by kernel_rfl⟩
theorem v_bits_Cut : S_Cut pg 54 := bits_Cut b_bits_Cut v_bits_Check v_bits_get b_bits_put (show aggO Tryd.prog 66 = some (some 2) by kernel_rfl)
theorem b_cadenzaref20_Sealed : Body pg 23 22 [.tmp 2] (ac_cadenzaref20_Sealed 50 5) := ⟨Tryd.f23, Tryd.func23, by kernel_rfl, by kernel_rfl, by kernel_rfl, by kernel_rfl⟩
theorem v_ref20_Sealed : S_Sealed pg 23 := ref20_Sealed b_cadenzaref20_Sealed v_ref03_Of
theorem b_deframe_opened : Body pg 31 46 [.tmp 2, .tmp 3] (ac_deframe_opened 42 52) := ⟨Tryd.f31, Tryd.func31, by kernel_rfl, by kernel_rfl, by kernel_rfl, by kernel_rfl⟩
theorem v_deframe_opened : S_opened pg 31 := deframe_opened b_deframe_opened v_crc32_Sum v_le_Value
theorem b_deframe_values : Body pg 33 76 [.tmp 6, .tmp 7, .tmp 8] (ac_deframe_values 53 54 55 66 79 78 55) := ⟨Tryd.f33, Tryd.func33, by kernel_rfl, by kernel_rfl, by kernel_rfl, by kernel_rfl⟩
theorem v_deframe_values : S_dVals pg 33 := deframe_values b_deframe_values v_dual_Start v_bits_Cut v_dual_Read
theorem b_deframe_Decode : Body pg 13 87 [.tmp 8, .tmp 9] (ac_deframe_Decode 30 31 32 33 34 35 23 24 66) := ⟨Tryd.f13, Tryd.func13, by kernel_rfl, by kernel_rfl, by kernel_rfl, by kernel_rfl⟩
theorem v_deframe_Decode : S_Decode pg 13 := deframe_Decode b_deframe_Decode v_enframe_Check v_deframe_opened v_bits_Of v_deframe_values v_bits_Get v_deframe_samples
theorem b_verdict_check : Body pg 26 20 [.tmp 4] (ac_verdict_check 30 23) := ⟨Tryd.f26, Tryd.func26, by kernel_rfl, by kernel_rfl, by kernel_rfl, by kernel_rfl⟩
theorem v_verdict_check : S_Ask21 pg 26 := verdict_check b_verdict_check v_enframe_Check
theorem b_verdict_sound : Body pg 27 43 [.tmp 2] (ac_verdict_sound 42 52) := ⟨Tryd.f27, Tryd.func27, by kernel_rfl, by kernel_rfl, by kernel_rfl, by kernel_rfl⟩
theorem v_verdict_sound : S_Sound pg 27 := verdict_sound b_verdict_sound v_crc32_Sum v_le_Value
theorem b_verdict_values : Body pg 29 86 [.tmp 6] (ac_verdict_values 53 32 54 55 79 66 78 55) := ⟨Tryd.f29, Tryd.func29, by kernel_rfl, by kernel_rfl, by kernel_rfl, by kernel_rfl⟩
theorem v_verdict_values : S_vVals pg 29 := verdict_values b_verdict_values v_dual_Start v_bits_Of v_bits_Cut v_dual_Read
theorem b_verdict_good : Body pg 28 46 [.tmp 6] (ac_verdict_good 20 23 24) := ⟨Tryd.f28, Tryd.func28, by kernel_rfl, by kernel_rfl, by kernel_rfl, by kernel_rfl⟩
theorem v_verdict_good : S_vGood pg 28 := verdict_good b_verdict_good v_deframe_Samples
theorem b_verdict_Judge : Body pg 12 52 [.cell 8 30, .tmp 9] (ac_verdict_Judge 26 13 27 29 28 23 24 30) := ⟨Tryd.f12, Tryd.func12, by kernel_rfl, by kernel_rfl, by kernel_rfl, by kernel_rfl⟩
theorem v_verdict_Judge : S_Judge pg 12 := verdict_Judge b_verdict_Judge v_verdict_check v_deframe_Decode v_verdict_sound v_verdict_values v_verdict_good (show aggO Tryd.prog 30 = some (some 2) by kernel_rfl)
theorem b_verdict_Silence : Body pg 36 18 [.tmp 4, .tmp 5] (ac_verdict_Silence 26 23 21) := ⟨Tryd.f36, Tryd.func36, by kernel_rfl, by kernel_rfl, by kernel_rfl, by kernel_rfl⟩
theorem v_verdict_Silence : S_Silence pg 36 := verdict_Silence b_verdict_Silence v_verdict_check
theorem b_verdict_Heal : Body pg 14 41 [.tmp 8, .tmp 9, .tmp 10] (ac_verdict_Heal 26 13 36 23 24) := ⟨Tryd.f14, Tryd.func14, by kernel_rfl, by kernel_rfl, by kernel_rfl, by kernel_rfl⟩
theorem v_verdict_Heal : S_Heal pg 14 := verdict_Heal b_verdict_Heal v_verdict_check v_deframe_Decode v_verdict_Silence
theorem v_clone_b : S_CloneB 5 pg 57 := clone_b b_slices_Clone_byte_byte
theorem b_bits_Put : Body pg 66 44 [.cell 6 66, .tmp 7] (ac_bits_Put 58 84 80 66) := ⟨Tryd.f66, Tryd.func66, by kernel_rfl, by kernel_rfl, by kernel_rfl, by kernel_rfl⟩
theorem b_bits_twin : Body pg 84 9 [.cell 2 66] (ac_bits_twin 57 66) := ⟨Tryd.f84, Tryd.func84, by kernel_rfl, by kernel_rfl, by kernel_rfl, by kernel_rfl⟩
theorem v_bits_Put : S_bPut pg 66 := bits_Put b_bits_Put v_bits_Check b_bits_twin b_bits_put v_clone_b (show aggO Tryd.prog 66 = some (some 2) by kernel_rfl) (show aggO Tryd.prog 66 = some (some 2) by kernel_rfl)
theorem b_unary_Length : Body pg 95 13 [.tmp 2, .tmp 3] ac_unary_Length := ⟨Tryd.f95, Tryd.func95, by kernel_rfl, by kernel_rfl, by kernel_rfl, by kernel_rfl⟩
theorem v_unary_Length : S_uLen pg 95 := unary_Length b_unary_Length
theorem b_unary_Write : Body pg 86 32 [.cell 4 66, .tmp 5] (ac_unary_Write 58 95 66 66) := ⟨Tryd.f86, Tryd.func86, by kernel_rfl, by kernel_rfl, by kernel_rfl, by kernel_rfl⟩
theorem v_unary_Write : S_uWrite pg 86 := unary_Write b_unary_Write v_bits_Check v_unary_Length v_bits_Put (show aggO Tryd.prog 66 = some (some 2) by kernel_rfl)
theorem b_rice_Write : Body pg 67 57 [.cell 6 66, .tmp 7] (ac_rice_Write 58 85 86 66 66) := ⟨Tryd.f67, Tryd.func67, by kernel_rfl, by kernel_rfl, by kernel_rfl, by kernel_rfl⟩
theorem v_rice_Write : S_rWrite pg 67 := rice_Write b_rice_Write v_bits_Check v_rice_esc v_unary_Write v_bits_Put (show aggO Tryd.prog 66 = some (some 2) by kernel_rfl)
theorem b_dual_Write : Body pg 40 69 [.cell 6 66, .cell 7 78, .tmp 8] (ac_dual_Write 58 64 65 66 67 68 66 78) := ⟨Tryd.f40, Tryd.func40, by kernel_rfl, by kernel_rfl, by kernel_rfl, by kernel_rfl⟩
theorem v_dual_Write : S_dWrite pg 40 := dual_Write b_dual_Write v_bits_Check v_dual_Check v_dual_level v_bits_Put v_rice_Write b_dual_learn b_dual_learn_1 v_dual_level (show aggO Tryd.prog 66 = some (some 2) by kernel_rfl) (show aggO Tryd.prog 78 = some (some 4) by kernel_rfl)
theorem b_enframe_states : Body pg 39 11 [.cell 0 79] (ac_enframe_states 53 79) := ⟨Tryd.f39, Tryd.func39, by kernel_rfl, by kernel_rfl, by kernel_rfl, by kernel_rfl⟩
theorem v_enframe_states : S_eStates pg 39 := enframe_states b_enframe_states v_dual_Start (show aggO Tryd.prog 79 = some (some 24) by kernel_rfl)
theorem b_slices_Concat_byte_byte : Body pg 44 36 [.tmp 2] (ac_slices_Concat_byte_byte 71 5) := ⟨Tryd.f44, Tryd.func44, by kernel_rfl, by kernel_rfl, by kernel_rfl, by kernel_rfl⟩
theorem growB : S_GrowNil 5 pg 71 := grow_nil Tryd.growB rfl rfl (by kernel_rfl)
theorem v_slices_Concat : S_Concat pg 44 := slices_Concat b_slices_Concat_byte_byte growB
theorem b_enframe_Encode : Body pg 18 85 [.tmp 6, .tmp 7] (ac_enframe_Encode 19 39 40 41 42 43 44 23 24 79 66 78 25) := ⟨Tryd.f18, Tryd.func18, by kernel_rfl, by kernel_rfl, by kernel_rfl, by kernel_rfl⟩
theorem b_enframe_put : Body pg 41 64 [] (ac_enframe_put 66 5) := ⟨Tryd.f41, Tryd.func41, by kernel_rfl, by kernel_rfl, by kernel_rfl, by kernel_rfl⟩
theorem v_enframe_Encode : S_Enc pg 18 := enframe_Encode b_enframe_Encode v_enframe_Values v_enframe_states v_dual_Write b_enframe_put v_crc32_Sum v_le_Bytes v_slices_Concat
theorem b_cadenzalaw23_judged : Body pg 24 28 [.tmp 8] (ac_cadenzalaw23_judged 12 30) := ⟨Tryd.f24, Tryd.func24, by kernel_rfl, by kernel_rfl, by kernel_rfl, by kernel_rfl⟩
theorem v_law23_judged : S_Judged pg 24 := law23_judged b_cadenzalaw23_judged v_verdict_Judge
theorem b_cadenzalaw23_alive : Body pg 10 27 [.tmp 0] (ac_cadenzalaw23_alive 23 24 5) := ⟨Tryd.f10, Tryd.func10, by kernel_rfl, by kernel_rfl, by kernel_rfl, by kernel_rfl⟩
theorem v_law23_alive : S_alive21 pg 10 := law23_alive b_cadenzalaw23_alive v_ref20_Sealed v_law23_judged
theorem b_cadenzalaw23_VerdictBursts : Body pg 9 152 [.tmp 10] (ac_cadenzalaw23_VerdictBursts 10 17 18 12 14 15 23 24 5 30 21) := ⟨Tryd.f9, Tryd.func9, by kernel_rfl, by kernel_rfl, by kernel_rfl, by kernel_rfl⟩
theorem v_law23_VerdictBursts : S_LawBursts pg 9 := law23_VerdictBursts b_cadenzalaw23_VerdictBursts v_law23_alive v_ref20_Asked v_enframe_Encode v_verdict_Judge v_verdict_Heal v_ref13_Same

theorem own : ownKnob Tryd.prog.godebug = none := by kernel_rfl
theorem laid : laidOutB Tryd.prog = true := by kernel_rfl

set_option maxRecDepth 100000 in
theorem gok {W : World} (hl : laidMet Tryd.prog Rows.verdictBurstsRow.laid W) : GOk pg.G (X0 W) := by
  intro q cs h
  have h1 : List.lookup q [(0, [.int .u8 0, .int .u8 1, .int .u8 56, .int .u8 2, .int .u8 57, .int .u8 49, .int .u8 28, .int .u8 3, .int .u8 61, .int .u8 58, .int .u8 42, .int .u8 50, .int .u8 38, .int .u8 29, .int .u8 17, .int .u8 4, .int .u8 62, .int .u8 47, .int .u8 59, .int .u8 36, .int .u8 45, .int .u8 43, .int .u8 51, .int .u8 22, .int .u8 53, .int .u8 39, .int .u8 33, .int .u8 30, .int .u8 24, .int .u8 18, .int .u8 12, .int .u8 5, .int .u8 63, .int .u8 55, .int .u8 48, .int .u8 27, .int .u8 60, .int .u8 41, .int .u8 37, .int .u8 16, .int .u8 46, .int .u8 35, .int .u8 44, .int .u8 21, .int .u8 52, .int .u8 32, .int .u8 23, .int .u8 11, .int .u8 54, .int .u8 26, .int .u8 40, .int .u8 15, .int .u8 34, .int .u8 20, .int .u8 31, .int .u8 10, .int .u8 25, .int .u8 14, .int .u8 19, .int .u8 9, .int .u8 13, .int .u8 8, .int .u8 7, .int .u8 6])] = some cs := h
  simp only [List.lookup] at h1
  split at h1
  · rename_i e
    obtain rfl := eq_of_beq e
    cases h1
    exact rep_tableB hl (name := "math/bits.deBruijn64tab") (k := .u8) [0, 1, 56, 2, 57, 49, 28, 3, 61, 58, 42, 50, 38, 29, 17, 4, 62, 47, 59, 36, 45, 43, 51, 22, 53, 39, 33, 30, 24, 18, 12, 5, 63, 55, 48, 27, 60, 41, 37, 16, 46, 35, 44, 21, 52, 32, 23, 11, 54, 26, 40, 15, 34, 20, 31, 10, 25, 14, 19, 9, 13, 8, 7, 6] (by kernel_rfl) (List.Mem.head _)
  cases h1

set_option maxRecDepth 100000 in
theorem contract (H : Type) (enc : TypeId × Value → H) (W : World) (base : Nat) (args : Array Value) (ds gs : List (DataW H)) (before : List MemPlace) (hlaid : laidMet Tryd.prog Rows.verdictBurstsRow.laid W)
    (hval : ∀ (j : Nat) t v, Tryd.f9.params[j]? = some t → args[j]? = some v → Value.okWide Tryd.prog W .any base t v)
    (hW : DataW.Whole enc Tryd.prog Tryd.f9.params.toList Rows.verdictBurstsSpec.vars false W args.toList ds gs before) :
    Calls Tryd.prog 9 args W fun e W' => ∃ v, e = .returned v ∧ Rows.verdictBurstsSpec.post enc Tryd.prog Tryd.f9 false true false false W args v W' := by
  have hW' := hW
  obtain ⟨p, q, hA0, hV, rfl, hfz, hnd⟩ := hW
  have hA : DataW.TrodAll enc Tryd.prog W 0 (fun _ => true) true Tryd.f9.params.toList args.toList ds p := hA0
  rw [Tryd.params9] at hA hval
  obtain ⟨v0, vs0, d0, ds0, p0, q0, hargs, rfl, rfl, h0, r0⟩ := trodAll_cons hA
  obtain ⟨v1, vs1, d1, ds1, p1, q1, rfl, rfl, rfl, h1, r1⟩ := trodAll_cons r0
  obtain ⟨v2, vs2, d2, ds2, p2, q2, rfl, rfl, rfl, h2, r2⟩ := trodAll_cons r1
  obtain ⟨v3, vs3, d3, ds3, p3, q3, rfl, rfl, rfl, h3, r3⟩ := trodAll_cons r2
  obtain ⟨v4, vs4, d4, ds4, p4, q4, rfl, rfl, rfl, h4, r4⟩ := trodAll_cons r3
  obtain ⟨rfl, rfl, rfl⟩ := trodAll_nil r4
  obtain rfl : args = #[v0, v1, v2, v3, v4] := by cases args; simp_all
  obtain ⟨rfl, rfl⟩ := trodVars_none hV
  obtain ⟨as0, r0, q0⟩ := arg_agg (P := Tryd.prog) (k := 8) (s := shSh) (by kernel_rfl) (isStr_eq (by kernel_rfl)) (hval 0 _ v0 rfl rfl) h0
  obtain ⟨c0, b0, rfl⟩ := fits_shape q0
  obtain ⟨as1, r1, q1⟩ := arg_arr (P := Tryd.prog) (k := 8) (s := tapSh) (by kernel_rfl) (isArr_eq (by kernel_rfl)) (hval 1 _ v1 rfl rfl) h1
  obtain ⟨t1, rfl, g1, i1⟩ := fits_taps q1
  obtain ⟨L2, r2, m2, q2⟩ := arg_slice (P := Tryd.prog) (k := 8) (s := .int .i32) (by kernel_rfl) (isSl_eq (by kernel_rfl)) (hval 2 _ v2 rfl rfl) h2
  obtain ⟨x2, z2, y2, g2⟩ := fits_i32s q2
  rw [y2] at r2
  obtain ⟨n3, w3, r3⟩ := arg_int (P := Tryd.prog) (k := .i64) (by kernel_rfl) (hval 3 _ v3 rfl rfl) h3
  obtain ⟨n4, w4, r4⟩ := arg_int (P := Tryd.prog) (k := .u32) (by kernel_rfl) (hval 4 _ v4 rfl rfl) h4
  refine (calls_true (P := pg) (v_law23_VerdictBursts c0 b0 t1 x2 n3 n4 g1 i1 g2 (wf_u32 w4).1 (wf_u32 w4).2) (gok hlaid) (args := #[v0, v1, v2, v3, v4]) (by simp only [RepL]; exact ⟨v0, _, rfl, r0, v1, _, rfl, r1, v2, _, rfl, r2, v3, _, rfl, r3, v4, _, rfl, r4, rfl⟩)).mono fun e W' ⟨he, hb⟩ => ?_
  subst he
  exact ⟨_, rfl, post_true laid (by kernel_rfl) (by rfl) (by kernel_rfl) rfl ⟨rfl, rfl, rfl⟩ hW' hb⟩

noncomputable def low : Nat := (World.holding Tryd.prog default ⟨#[], #[], []⟩).heap.size
/-- A world in which the listed variables lie as the text lays them. -/
noncomputable def laidWorld (os : Os) : World :=
  let w0 := World.holding Tryd.prog os ⟨#[], #[], []⟩
  { w0 with heap := (w0.heap.modify 0 fun
      | .cells _ t frozen => .cells #[.int .u8 0, .int .u8 1, .int .u8 56, .int .u8 2, .int .u8 57, .int .u8 49, .int .u8 28, .int .u8 3, .int .u8 61, .int .u8 58, .int .u8 42, .int .u8 50, .int .u8 38, .int .u8 29, .int .u8 17, .int .u8 4, .int .u8 62, .int .u8 47, .int .u8 59, .int .u8 36, .int .u8 45, .int .u8 43, .int .u8 51, .int .u8 22, .int .u8 53, .int .u8 39, .int .u8 33, .int .u8 30, .int .u8 24, .int .u8 18, .int .u8 12, .int .u8 5, .int .u8 63, .int .u8 55, .int .u8 48, .int .u8 27, .int .u8 60, .int .u8 41, .int .u8 37, .int .u8 16, .int .u8 46, .int .u8 35, .int .u8 44, .int .u8 21, .int .u8 52, .int .u8 32, .int .u8 23, .int .u8 11, .int .u8 54, .int .u8 26, .int .u8 40, .int .u8 15, .int .u8 34, .int .u8 20, .int .u8 31, .int .u8 10, .int .u8 25, .int .u8 14, .int .u8 19, .int .u8 9, .int .u8 13, .int .u8 8, .int .u8 7, .int .u8 6] t frozen
      | o => o) }
theorem laidWorld_met (os : Os) (args : Array Value) : laidMet Tryd.prog Rows.verdictBurstsRow.laid ((laidWorld os).forCall (fun _ _ => 0) ⟨#[], args, []⟩).memory :=
  laidMet_of_run' 8 (by kernel_rfl) (by kernel_rfl)

set_option maxRecDepth 100000 in
theorem lifted (os : Os) (started : os.Started) (H : Type) (enc : TypeId × Value → H) :
    ReturnsInHanded {} Tryd.checked os 9 .any (fun w args => (Rows.verdictBurstsSpec.pre enc Tryd.prog Tryd.f9 [] false w args ∧ laidMet Tryd.prog Rows.verdictBurstsRow.laid w) ∧ sizedMet enc Tryd.prog Tryd.f9 (OpenSpec.ofChange Rows.verdictBurstsSpec) false w args)
      (Rows.verdictBurstsSpec.post enc Tryd.prog Tryd.f9 false true false false) := by
  refine returnsInHanded_of_change_and (C := Tryd.checked) (X := fun w _ => laidMet Tryd.prog Rows.verdictBurstsRow.laid w) (fun _ _ _ hh h => h.of_heap hh) own started (by kernel_rfl) Tryd.func9
    (ChangeSpec.witness_at (enc := enc) (C := Tryd.checked) (os := os) (X := fun w _ => laidMet Tryd.prog Rows.verdictBurstsRow.laid w) false (laidWorld os) #[.agg #[.int .i64 0, .int .i64 0], .agg #[.int .i32 0, .int .i32 0, .int .i32 0, .int .i32 0, .int .i32 0, .int .i32 0, .int .i32 0, .int .i32 0, .int .i32 0, .int .i32 0, .int .i32 0, .int .i32 0, .int .i32 0, .int .i32 0, .int .i32 0, .int .i32 0], .slice none 0 0, .int .i64 0, .int .u32 0] 8 rfl (by kernel_rfl) (by kernel_rfl) (by kernel_rfl) (by kernel_rfl) (by kernel_rfl) (laidWorld_met os _)) ?_
  intro W base args ds gs before hval hW _ _ hL _
  exact contract H enc W base args ds gs before hL hval hW

theorem row_holds : Rows.VerdictBurstsSaid :=
  OpenClaim.holds_of_wide 9 Tryd.f9 rfl rfl rfl rfl rfl rfl rfl ⟨rfl, rfl, rfl, rfl, rfl⟩ rfl rfl rfl rfl rfl (by kernel_rfl) Tryd.func9 (by kernel_rfl)
    (of_decide_eq_true (by kernel_rfl)) (by unfold Func.isWrapper; first | (rw [if_pos (by decide +kernel)]; kernel_rfl) | (rw [if_neg (by decide +kernel)]; exact ⟨rfl, rfl⟩))
    (fun os started H enc _ => lifted os started H enc)

theorem proved : Rows.VerdictBurstsCardSaid :=
  Claim7.holds_tied_plain_at .later [] [.data] true (true, "90d9637b9413c1bebd8b52b6e91834495fee7b92fb6f337f8f9ffd2389f05acc") false
    row_holds (fun _ h => by cases h) (by kernel_rfl) (fun _ h => by cases h) verdictBursts_row_tie rfl ⟨rfl, rfl⟩ (by kernel_rfl) rfl
    (fun f fn hf hfn => by
      obtain rfl : f = 9 := Option.some.inj ((show Tryd.prog.funcNamed Rows.verdictBurstsRow.func = some 9 by kernel_rfl).symm.trans hf) |>.symm
      obtain rfl : fn = Tryd.f9 := (Option.some.inj (Tryd.func9.symm.trans hfn)).symm
      exact ⟨by kernel_rfl, fun j t ht => by
        have hall : (Tryd.f9.params.toList.all fun t => !Tryd.prog.wantsStandIn t) = true := by kernel_rfl
        have hm : t ∈ Tryd.f9.params.toList := by simpa using Array.mem_of_getElem? ht
        have h2 : Tryd.prog.wantsStandIn t = false := by simpa using List.all_eq_true.1 hall t hm
        exact h2⟩)
    (by kernel_rfl)

end Go.Proofs.YtdbcblibhbhckaaDoor.verdictBursts

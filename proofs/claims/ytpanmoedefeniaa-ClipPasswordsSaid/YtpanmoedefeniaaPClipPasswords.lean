/- For every clip and two passwords cadenzalaw24.ClipPasswords returns true and leaves its arguments as they were. No conditions. -/
import Derived.Test.YtpanmoedefeniaaRows
import Derived.Test.YtpanmoedefeniaaClipPasswordsY1
set_option linter.unusedSectionVars false
set_option linter.unusedSimpArgs false
set_option linter.unusedVariables false
namespace Go.Proofs.Ytpanmoedefeniaa.clipPasswords
open Go.Am Go.ChangeShapes Go.WideShapes Go.ChangeAt Go.RowKit

noncomputable def pg : Prg := ⟨Try.prog, [], fun g cs h => by
  cases h⟩

theorem b_width_Range : Body pg 48 18 [.tmp 2, .tmp 3, .tmp 4] ac_width_Range := ⟨Try.f48, Try.func48, by kernel_rfl, by kernel_rfl, by kernel_rfl, by kernel_rfl⟩
theorem v_width_Range : S_Range pg 48 := width_Range b_width_Range
theorem b_cadenzaref18_Half : Body pg 65 10 [.tmp 2] ac_cadenzaref18_Half := ⟨Try.f65, Try.func65, by kernel_rfl, by kernel_rfl, by kernel_rfl, by kernel_rfl⟩
theorem v_ref18_Half : S_Half pg 65 := ref18_Half b_cadenzaref18_Half
theorem b_width_Check : Body pg 31 37 [.tmp 4] (ac_width_Check 48) := ⟨Try.f31, Try.func31, by kernel_rfl, by kernel_rfl, by kernel_rfl, by kernel_rfl⟩
theorem v_width_Check : S_WCheck pg 31 := width_Check b_width_Check v_width_Range
theorem b_cadenzaref18_Check : Body pg 50 37 [.tmp 4] (ac_cadenzaref18_Check 65) := ⟨Try.f50, Try.func50, by kernel_rfl, by kernel_rfl, by kernel_rfl, by kernel_rfl⟩
theorem v_ref18_Check : S_WCheck pg 50 := ref18_Check b_cadenzaref18_Check v_ref18_Half
theorem b_lengths_Long : Body pg 40 14 [.tmp 2, .tmp 3] ac_lengths_Long := ⟨Try.f40, Try.func40, by kernel_rfl, by kernel_rfl, by kernel_rfl, by kernel_rfl⟩
theorem v_lengths_Long : S_Long22 pg 40 := lengths_Long b_lengths_Long
theorem b_cadenzaref22_Long : Body pg 64 17 [.tmp 2, .tmp 3] ac_cadenzaref22_Long := ⟨Try.f64, Try.func64, by kernel_rfl, by kernel_rfl, by kernel_rfl, by kernel_rfl⟩
theorem v_ref22_Long : S_Long22 pg 64 := ref22_Long b_cadenzaref22_Long
theorem b_enframe_Check : Body pg 47 25 [.tmp 2] (ac_enframe_Check 48 71) := ⟨Try.f47, Try.func47, by kernel_rfl, by kernel_rfl, by kernel_rfl, by kernel_rfl⟩
theorem v_enframe_Check : S_ECheck pg 47 := enframe_Check b_enframe_Check v_width_Range
theorem b_cadenzaref20_Check : Body pg 49 17 [.tmp 2] (ac_cadenzaref20_Check 65 71) := ⟨Try.f49, Try.func49, by kernel_rfl, by kernel_rfl, by kernel_rfl, by kernel_rfl⟩
theorem v_ref20_Check : S_ECheck pg 49 := ref20_Check b_cadenzaref20_Check v_ref18_Half
theorem b_taps_New : Body pg 86 18 [.cell 4 127, .tmp 5] (ac_taps_New 77 127) := ⟨Try.f86, Try.func86, by kernel_rfl, by kernel_rfl, by kernel_rfl, by kernel_rfl⟩
theorem v_taps_New : S_TNew pg 86 := taps_New b_taps_New (show aggO Try.prog 127 = some (some 33) by kernel_rfl)
theorem b_taps_Check : Body pg 102 11 [.tmp 2] (ac_taps_Check 127) := ⟨Try.f102, Try.func102, by kernel_rfl, by kernel_rfl, by kernel_rfl, by kernel_rfl⟩
theorem v_taps_Check : S_TCheck pg 102 := taps_Check b_taps_Check
theorem b_taps_Guess : Body pg 98 36 [.tmp 2, .tmp 3] (ac_taps_Guess 102 127) := ⟨Try.f98, Try.func98, by kernel_rfl, by kernel_rfl, by kernel_rfl, by kernel_rfl⟩
theorem v_taps_Guess : S_TGuess pg 98 := taps_Guess b_taps_Guess v_taps_Check
theorem b_taps_step : Body pg 105 9 [.tmp 2] ac_taps_step := ⟨Try.f105, Try.func105, by kernel_rfl, by kernel_rfl, by kernel_rfl, by kernel_rfl⟩
theorem v_taps_step : S_TStep pg 105 := taps_step b_taps_step
theorem b_taps_Learn : Body pg 103 53 [.cell 4 127, .tmp 5] (ac_taps_Learn 102 105 127) := ⟨Try.f103, Try.func103, by kernel_rfl, by kernel_rfl, by kernel_rfl, by kernel_rfl⟩
theorem v_taps_Learn : S_TLearn pg 103 := taps_Learn b_taps_Learn (show aggO Try.prog 127 = some (some 33) by kernel_rfl) v_taps_Check v_taps_step
theorem b_taps_Push : Body pg 104 22 [.cell 4 127, .tmp 5] (ac_taps_Push 102 127) := ⟨Try.f104, Try.func104, by kernel_rfl, by kernel_rfl, by kernel_rfl, by kernel_rfl⟩
theorem v_taps_Push : S_TPush pg 104 := taps_Push b_taps_Push (show aggO Try.prog 127 = some (some 33) by kernel_rfl) v_taps_Check
theorem b_lms_behind : Body pg 99 20 [.cell 6 127] (ac_lms_behind 103 104 127) := ⟨Try.f99, Try.func99, by kernel_rfl, by kernel_rfl, by kernel_rfl, by kernel_rfl⟩
theorem v_lms_behind : S_LBehind pg 99 := lms_behind b_lms_behind (show aggO Try.prog 127 = some (some 33) by kernel_rfl) v_taps_Learn v_taps_Push
theorem b_lms_Forward : Body pg 89 27 [.tmp 4, .cell 5 127, .tmp 6] (ac_lms_Forward 98 99 127) := ⟨Try.f89, Try.func89, by kernel_rfl, by kernel_rfl, by kernel_rfl, by kernel_rfl⟩
theorem v_lms_Forward : S_LForward pg 89 := lms_Forward b_lms_Forward (show aggO Try.prog 127 = some (some 33) by kernel_rfl) v_taps_Guess v_lms_behind
theorem b_first_Shift : Body pg 96 10 [.tmp 2, .tmp 3] ac_first_Shift := ⟨Try.f96, Try.func96, by kernel_rfl, by kernel_rfl, by kernel_rfl, by kernel_rfl⟩
theorem v_first_Shift : S_FShift pg 96 := first_Shift b_first_Shift
theorem b_first_guess : Body pg 97 16 [.tmp 4] ac_first_guess := ⟨Try.f97, Try.func97, by kernel_rfl, by kernel_rfl, by kernel_rfl, by kernel_rfl⟩
theorem v_first_guess : S_Fguess pg 97 := first_guess b_first_guess
theorem b_first_Guess : Body pg 88 19 [.tmp 4, .tmp 5] (ac_first_Guess 96 97) := ⟨Try.f88, Try.func88, by kernel_rfl, by kernel_rfl, by kernel_rfl, by kernel_rfl⟩
theorem v_first_Guess : S_FGuess pg 88 := first_Guess b_first_Guess v_first_Shift v_first_guess
theorem b_chain_New : Body pg 68 21 [.cell 4 129, .tmp 5] (ac_chain_New 86 77 129 127) := ⟨Try.f68, Try.func68, by kernel_rfl, by kernel_rfl, by kernel_rfl, by kernel_rfl⟩
theorem v_chain_New : S_CNew pg 68 := chain_New b_chain_New (show aggO Try.prog 129 = some (some 35) by kernel_rfl) v_taps_New
theorem b_chain_Check : Body pg 87 24 [.tmp 2] (ac_chain_Check 86 129 127) := ⟨Try.f87, Try.func87, by kernel_rfl, by kernel_rfl, by kernel_rfl, by kernel_rfl⟩
theorem v_chain_Check : S_CCheck pg 87 := chain_Check b_chain_Check v_taps_New
theorem b_chain_Forward : Body pg 69 44 [.tmp 4, .cell 5 129, .tmp 6] (ac_chain_Forward 87 88 89 129 127) := ⟨Try.f69, Try.func69, by kernel_rfl, by kernel_rfl, by kernel_rfl, by kernel_rfl⟩
theorem v_chain_Forward : S_CForward pg 69 := chain_Forward b_chain_Forward (show aggO Try.prog 129 = some (some 35) by kernel_rfl) v_chain_Check v_first_Guess v_lms_Forward
theorem b_fold_Fold : Body pg 70 10 [.tmp 2] ac_fold_Fold := ⟨Try.f70, Try.func70, by kernel_rfl, by kernel_rfl, by kernel_rfl, by kernel_rfl⟩
theorem v_fold_Fold : S_Fold pg 70 := fold_Fold b_fold_Fold
theorem b_slices_Clone_int32_int32 : Body pg 25 8 [.tmp 2] (ac_slices_Clone_int32_int32 21) := ⟨Try.f25, Try.func25, by kernel_rfl, by kernel_rfl, by kernel_rfl, by kernel_rfl⟩
theorem v_clone_i32 : S_CloneA 21 pg 25 := clone_i32 b_slices_Clone_int32_int32
theorem b_mix_mix : Body pg 85 39 [] ac_mix_mix := ⟨Try.f85, Try.func85, by kernel_rfl, by kernel_rfl, by kernel_rfl, by kernel_rfl⟩
theorem v_mix_mix : S_Mix pg 85 := mix_mix b_mix_mix
theorem b_mix_check : Body pg 84 22 [.tmp 4] ac_mix_check := ⟨Try.f84, Try.func84, by kernel_rfl, by kernel_rfl, by kernel_rfl, by kernel_rfl⟩
theorem v_mix_check : S_MCheck pg 84 := mix_check b_mix_check
theorem b_mix_All : Body pg 67 32 [.tmp 4, .tmp 5] (ac_mix_All 84 25 85) := ⟨Try.f67, Try.func67, by kernel_rfl, by kernel_rfl, by kernel_rfl, by kernel_rfl⟩
theorem v_mix_All : S_MixAll pg 67 := mix_All b_mix_All v_mix_check v_clone_i32 v_mix_mix
theorem b_enframe_check : Body pg 66 30 [.tmp 4] (ac_enframe_check 47 31 71) := ⟨Try.f66, Try.func66, by kernel_rfl, by kernel_rfl, by kernel_rfl, by kernel_rfl⟩
theorem v_enframe_check : S_EAsk pg 66 := enframe_check b_enframe_check v_enframe_Check v_width_Check
theorem b_cadenzaref20_Asked : Body pg 32 28 [.tmp 4] (ac_cadenzaref20_Asked 49 50 71) := ⟨Try.f32, Try.func32, by kernel_rfl, by kernel_rfl, by kernel_rfl, by kernel_rfl⟩
theorem v_ref20_Asked : S_EAsk pg 32 := ref20_Asked b_cadenzaref20_Asked v_ref20_Check v_ref18_Check
theorem b_enframe_Values : Body pg 52 83 [.tmp 6, .tmp 7] (ac_enframe_Values 66 67 68 69 70 71 77 130 129 104) := ⟨Try.f52, Try.func52, by kernel_rfl, by kernel_rfl, by kernel_rfl, by kernel_rfl⟩
theorem v_enframe_Values : S_EVals pg 52 := enframe_Values b_enframe_Values v_enframe_check v_mix_All v_chain_New v_chain_Forward v_fold_Fold
theorem b_lengths_Count : Body pg 39 32 [.tmp 4, .tmp 5] (ac_lengths_Count 40) := ⟨Try.f39, Try.func39, by kernel_rfl, by kernel_rfl, by kernel_rfl, by kernel_rfl⟩
theorem v_lengths_Count : S_Count22 pg 39 := lengths_Count b_lengths_Count v_lengths_Long
theorem b_clip_shape : Body pg 38 8 [.cell 2 71] (ac_clip_shape 24 71) := ⟨Try.f38, Try.func38, by kernel_rfl, by kernel_rfl, by kernel_rfl, by kernel_rfl⟩
theorem v_clip_shape : S_Shape24 pg 38 := clip_shape b_clip_shape (show aggO Try.prog 71 = some (some 2) by kernel_rfl)
theorem b_cadenzaref24_Shape : Body pg 33 8 [.cell 2 71] (ac_cadenzaref24_Shape 24 71) := ⟨Try.f33, Try.func33, by kernel_rfl, by kernel_rfl, by kernel_rfl, by kernel_rfl⟩
theorem v_ref24_Shape : S_Shape24 pg 33 := ref24_Shape b_cadenzaref24_Shape (show aggO Try.prog 71 = some (some 2) by kernel_rfl)
theorem b_clip_head : Body pg 30 31 [.tmp 4] (ac_clip_head 38 47 39 24) := ⟨Try.f30, Try.func30, by kernel_rfl, by kernel_rfl, by kernel_rfl, by kernel_rfl⟩
theorem v_clip_head : S_CHead pg 30 := clip_head b_clip_head v_clip_shape v_enframe_Check v_lengths_Count
theorem b_clip_Check : Body pg 12 33 [.tmp 2] (ac_clip_Check 30 31 24) := ⟨Try.f12, Try.func12, by kernel_rfl, by kernel_rfl, by kernel_rfl, by kernel_rfl⟩
theorem v_clip_Check : S_ClipCheck pg 12 := clip_Check b_clip_Check v_clip_head v_width_Check
theorem b_cadenzaref21_Asked : Body pg 51 19 [.tmp 4] (ac_cadenzaref21_Asked 49 71) := ⟨Try.f51, Try.func51, by kernel_rfl, by kernel_rfl, by kernel_rfl, by kernel_rfl⟩
theorem v_ref21_Asked : S_Ask21 pg 51 := ref21_Asked b_cadenzaref21_Asked v_ref20_Check
theorem b_cadenzaref22_All : Body pg 44 41 [.tmp 4, .tmp 5] (ac_cadenzaref22_All 64 3) := ⟨Try.f44, Try.func44, by kernel_rfl, by kernel_rfl, by kernel_rfl, by kernel_rfl⟩
theorem v_ref22_All : S_All22 pg 44 := ref22_All b_cadenzaref22_All v_ref22_Long
theorem b_cadenzaref22_Count : Body pg 22 17 [.tmp 4, .tmp 5] (ac_cadenzaref22_Count 44) := ⟨Try.f22, Try.func22, by kernel_rfl, by kernel_rfl, by kernel_rfl, by kernel_rfl⟩
theorem v_ref22_Count : S_Count22 pg 22 := ref22_Count b_cadenzaref22_Count v_ref22_All
theorem b_cadenzaref24_Head : Body pg 34 21 [.tmp 4] (ac_cadenzaref24_Head 33 51 22 24) := ⟨Try.f34, Try.func34, by kernel_rfl, by kernel_rfl, by kernel_rfl, by kernel_rfl⟩
theorem v_ref24_Head : S_RHead24 pg 34 := ref24_Head b_cadenzaref24_Head v_ref24_Shape v_ref21_Asked v_ref22_Count
theorem b_cadenzaref24_Check : Body pg 13 20 [.tmp 2] (ac_cadenzaref24_Check 33 32 34 24) := ⟨Try.f13, Try.func13, by kernel_rfl, by kernel_rfl, by kernel_rfl, by kernel_rfl⟩
theorem v_ref24_Check : S_ClipCheck pg 13 := ref24_Check b_cadenzaref24_Check v_ref24_Shape v_ref20_Asked v_ref24_Head
theorem b_cadenzaref13_Same : Body pg 16 26 [.tmp 4] ac_cadenzaref13_Same := ⟨Try.f16, Try.func16, by kernel_rfl, by kernel_rfl, by kernel_rfl, by kernel_rfl⟩
theorem v_ref13_Eq : S_IEq pg 16 := ref13_Eq b_cadenzaref13_Same
theorem b_cadenzaref24_SameParts : Body pg 14 27 [.tmp 4] (ac_cadenzaref24_SameParts 16) := ⟨Try.f14, Try.func14, by kernel_rfl, by kernel_rfl, by kernel_rfl, by kernel_rfl⟩
theorem v_ref24_SameParts : S_PEq pg 14 := ref24_SameParts b_cadenzaref24_SameParts v_ref13_Eq
theorem b_le_fits : Body pg 79 14 [.tmp 4] ac_le_fits := ⟨Try.f79, Try.func79, by kernel_rfl, by kernel_rfl, by kernel_rfl, by kernel_rfl⟩
theorem v_le_fits : S_fits pg 79 := le_fits b_le_fits
theorem b_le_Bytes : Body pg 57 35 [.tmp 4, .tmp 5] (ac_le_Bytes 79 5) := ⟨Try.f57, Try.func57, by kernel_rfl, by kernel_rfl, by kernel_rfl, by kernel_rfl⟩
theorem v_le_Bytes : S_leBytes pg 57 := le_Bytes b_le_Bytes v_le_fits
theorem b_crc32_table : Body pg 95 24 [.tmp 0] (ac_crc32_table 178) := ⟨Try.f95, Try.func95, by kernel_rfl, by kernel_rfl, by kernel_rfl, by kernel_rfl⟩
theorem v_crc32_table : S_table pg 95 := crc32_table b_crc32_table
theorem b_crc32_Next : Body pg 78 32 [.tmp 4, .tmp 5] (ac_crc32_Next 95) := ⟨Try.f78, Try.func78, by kernel_rfl, by kernel_rfl, by kernel_rfl, by kernel_rfl⟩
theorem v_crc32_Next : S_CNext pg 78 := crc32_Next b_crc32_Next v_crc32_table
theorem b_crc32_Sum : Body pg 56 16 [.tmp 2, .tmp 3] (ac_crc32_Sum 78) := ⟨Try.f56, Try.func56, by kernel_rfl, by kernel_rfl, by kernel_rfl, by kernel_rfl⟩
theorem v_crc32_Sum : S_CSum pg 56 := crc32_Sum b_crc32_Sum v_crc32_Next
theorem b_bits_Check : Body pg 72 40 [.tmp 2] (ac_bits_Check 103) := ⟨Try.f72, Try.func72, by kernel_rfl, by kernel_rfl, by kernel_rfl, by kernel_rfl⟩
theorem v_bits_Check : S_bCheck pg 72 := bits_Check b_bits_Check
theorem b_dual_Start : Body pg 71 2 [.cell 0 99] (ac_dual_Start 99) := ⟨Try.f71, Try.func71, by kernel_rfl, by kernel_rfl, by kernel_rfl, by kernel_rfl⟩
theorem v_dual_Start : S_Start pg 71 := dual_Start b_dual_Start (show aggO Try.prog 99 = some (some 4) by kernel_rfl)
theorem b_dual_Check : Body pg 73 26 [.tmp 2] (ac_dual_Check 99) := ⟨Try.f73, Try.func73, by kernel_rfl, by kernel_rfl, by kernel_rfl, by kernel_rfl⟩
theorem v_dual_Check : S_DCheck pg 73 := dual_Check b_dual_Check
theorem b_dual_level : Body pg 74 17 [.tmp 4, .tmp 5] (ac_dual_level 99) := ⟨Try.f74, Try.func74, by kernel_rfl, by kernel_rfl, by kernel_rfl, by kernel_rfl⟩
theorem v_dual_level : S_Level pg 74 := dual_level b_dual_level
theorem b_rice_escaped : Body pg 92 9 [.tmp 4] ac_rice_escaped := ⟨Try.f92, Try.func92, by kernel_rfl, by kernel_rfl, by kernel_rfl, by kernel_rfl⟩
theorem v_rice_esc : S_esc pg 92 := rice_esc b_rice_escaped
theorem b_slices_Clone_byte_byte : Body pg 100 8 [.tmp 2] (ac_slices_Clone_byte_byte 5) := ⟨Try.f100, Try.func100, by kernel_rfl, by kernel_rfl, by kernel_rfl, by kernel_rfl⟩
theorem v_clone_b : S_CloneB 5 pg 100 := clone_b b_slices_Clone_byte_byte
theorem b_bits_Put : Body pg 75 44 [.cell 6 103, .tmp 7] (ac_bits_Put 72 90 91 103) := ⟨Try.f75, Try.func75, by kernel_rfl, by kernel_rfl, by kernel_rfl, by kernel_rfl⟩
theorem b_bits_twin : Body pg 90 9 [.cell 2 103] (ac_bits_twin 100 103) := ⟨Try.f90, Try.func90, by kernel_rfl, by kernel_rfl, by kernel_rfl, by kernel_rfl⟩
theorem b_bits_put : Body pg 91 75 [] (ac_bits_put 5) := ⟨Try.f91, Try.func91, by kernel_rfl, by kernel_rfl, by kernel_rfl, by kernel_rfl⟩
theorem v_bits_Put : S_bPut pg 75 := bits_Put b_bits_Put v_bits_Check b_bits_twin b_bits_put v_clone_b (show aggO Try.prog 103 = some (some 2) by kernel_rfl) (show aggO Try.prog 103 = some (some 2) by kernel_rfl)
theorem b_unary_Length : Body pg 101 13 [.tmp 2, .tmp 3] ac_unary_Length := ⟨Try.f101, Try.func101, by kernel_rfl, by kernel_rfl, by kernel_rfl, by kernel_rfl⟩
theorem v_unary_Length : S_uLen pg 101 := unary_Length b_unary_Length
theorem b_unary_Write : Body pg 93 32 [.cell 4 103, .tmp 5] (ac_unary_Write 72 101 75 103) := ⟨Try.f93, Try.func93, by kernel_rfl, by kernel_rfl, by kernel_rfl, by kernel_rfl⟩
theorem v_unary_Write : S_uWrite pg 93 := unary_Write b_unary_Write v_bits_Check v_unary_Length v_bits_Put (show aggO Try.prog 103 = some (some 2) by kernel_rfl)
theorem b_rice_Write : Body pg 76 57 [.cell 6 103, .tmp 7] (ac_rice_Write 72 92 93 75 103) := ⟨Try.f76, Try.func76, by kernel_rfl, by kernel_rfl, by kernel_rfl, by kernel_rfl⟩
theorem v_rice_Write : S_rWrite pg 76 := rice_Write b_rice_Write v_bits_Check v_rice_esc v_unary_Write v_bits_Put (show aggO Try.prog 103 = some (some 2) by kernel_rfl)
theorem b_dual_Write : Body pg 54 69 [.cell 6 103, .cell 7 99, .tmp 8] (ac_dual_Write 72 73 74 75 76 77 103 99) := ⟨Try.f54, Try.func54, by kernel_rfl, by kernel_rfl, by kernel_rfl, by kernel_rfl⟩
theorem b_dual_learn : Body pg 77 36 [] (ac_dual_learn 94 74) := ⟨Try.f77, Try.func77, by kernel_rfl, by kernel_rfl, by kernel_rfl, by kernel_rfl⟩
theorem b_dual_learn_1 : Body pg 94 58 [] ac_dual_learn_1 := ⟨Try.f94, Try.func94, by kernel_rfl, by kernel_rfl, by kernel_rfl, by kernel_rfl⟩
theorem v_dual_Write : S_dWrite pg 54 := dual_Write b_dual_Write v_bits_Check v_dual_Check v_dual_level v_bits_Put v_rice_Write b_dual_learn b_dual_learn_1 v_dual_level (show aggO Try.prog 103 = some (some 2) by kernel_rfl) (show aggO Try.prog 99 = some (some 4) by kernel_rfl)
theorem b_enframe_states : Body pg 53 11 [.cell 0 100] (ac_enframe_states 71 100) := ⟨Try.f53, Try.func53, by kernel_rfl, by kernel_rfl, by kernel_rfl, by kernel_rfl⟩
theorem v_enframe_states : S_eStates pg 53 := enframe_states b_enframe_states v_dual_Start (show aggO Try.prog 100 = some (some 24) by kernel_rfl)
theorem b_slices_Concat_byte_byte : Body pg 58 36 [.tmp 2] (ac_slices_Concat_byte_byte 80 5) := ⟨Try.f58, Try.func58, by kernel_rfl, by kernel_rfl, by kernel_rfl, by kernel_rfl⟩
theorem growB : S_GrowNil 5 pg 80 := grow_nil Try.growB rfl rfl (by kernel_rfl)
theorem v_slices_Concat : S_Concat pg 58 := slices_Concat b_slices_Concat_byte_byte growB
theorem b_enframe_Encode : Body pg 36 85 [.tmp 6, .tmp 7] (ac_enframe_Encode 52 53 54 55 56 57 58 71 77 100 103 99 51) := ⟨Try.f36, Try.func36, by kernel_rfl, by kernel_rfl, by kernel_rfl, by kernel_rfl⟩
theorem b_enframe_put : Body pg 55 64 [] (ac_enframe_put 103 5) := ⟨Try.f55, Try.func55, by kernel_rfl, by kernel_rfl, by kernel_rfl, by kernel_rfl⟩
theorem v_enframe_Encode : S_Enc pg 36 := enframe_Encode b_enframe_Encode v_enframe_Values v_enframe_states v_dual_Write b_enframe_put v_crc32_Sum v_le_Bytes v_slices_Concat
theorem b_math_bits_Mul64 : Body pg 82 51 [.tmp 4, .tmp 5] ac_math_bits_Mul64 := ⟨Try.f82, Try.func82, by kernel_rfl, by kernel_rfl, by kernel_rfl, by kernel_rfl⟩
theorem v_math_Mul64 : S_Mul pg 82 := math_Mul64 b_math_bits_Mul64
theorem b_math_bits_Mul : Body pg 60 30 [.tmp 4, .tmp 5] (ac_math_bits_Mul 81 82) := ⟨Try.f60, Try.func60, by kernel_rfl, by kernel_rfl, by kernel_rfl, by kernel_rfl⟩
theorem v_math_Mul : S_Mul pg 60 := math_Mul b_math_bits_Mul v_math_Mul64
theorem b_slices_Repeat_int_int : Body pg 41 48 [.tmp 4] (ac_slices_Repeat_int_int 60 3) := ⟨Try.f41, Try.func41, by kernel_rfl, by kernel_rfl, by kernel_rfl, by kernel_rfl⟩
theorem v_slices_Repeat1 : S_Repeat1 3 pg 41 := slices_Repeat1 b_slices_Repeat_int_int v_math_Mul
theorem b_slices_Concat_int_int : Body pg 61 36 [.tmp 2] (ac_slices_Concat_int_int 83 3) := ⟨Try.f61, Try.func61, by kernel_rfl, by kernel_rfl, by kernel_rfl, by kernel_rfl⟩
theorem growI : S_GrowNilI 3 pg 83 := grow_nilI Try.growI rfl rfl (by kernel_rfl)
theorem v_slices_ConcatI : S_ConcatI 3 pg 61 := slices_ConcatI b_slices_Concat_int_int growI
theorem b_lengths_behind : Body pg 42 9 [.tmp 4] (ac_lengths_behind 61 47) := ⟨Try.f42, Try.func42, by kernel_rfl, by kernel_rfl, by kernel_rfl, by kernel_rfl⟩
theorem v_lengths_behind : S_BehO 3 pg 42 := lengths_behind b_lengths_behind v_slices_ConcatI
theorem b_lengths_All : Body pg 19 39 [.tmp 4, .tmp 5] (ac_lengths_All 39 40 41 42 3) := ⟨Try.f19, Try.func19, by kernel_rfl, by kernel_rfl, by kernel_rfl, by kernel_rfl⟩
theorem v_lengths_All : S_AllO 3 pg 19 := lengths_All b_lengths_All v_lengths_Count v_lengths_Long v_slices_Repeat1 v_lengths_behind
theorem b_clip_parts_1 : Body pg 45 43 [] (ac_clip_parts_1 19) := ⟨Try.f45, Try.func45, by kernel_rfl, by kernel_rfl, by kernel_rfl, by kernel_rfl⟩
theorem v_clip_parts1 : S_PartsIt 3 pg 45 := clip_parts1 b_clip_parts_1 v_lengths_All
theorem b_clip_parts : Body pg 24 4 [.tmp 2] (ac_clip_parts 45 24) := ⟨Try.f24, Try.func24, by kernel_rfl, by kernel_rfl, by kernel_rfl, by kernel_rfl⟩
theorem v_clip_parts : S_Parts24 45 pg 24 := clip_parts b_clip_parts
theorem v_clone_j : S_CloneJ pg 25 := clone_j b_slices_Clone_int32_int32
theorem b_clip_Split : BodyC pg 8 21 [.tmp 2, .tmp 3] (ac_clip_Split 12 24 25 24 25 22) := ⟨Try.f8, Try.func8, by kernel_rfl, by kernel_rfl, by kernel_rfl, by kernel_rfl⟩
theorem v_clip_Split : S_Split pg 8 := clip_Split b_clip_Split v_clip_Check v_clip_parts v_clip_parts1 b_clip_parts_1 v_clone_j (by decide) (by decide) (by decide)
theorem b_crc64_table : Body pg 63 25 [.tmp 0] (ac_crc64_table 156) := ⟨Try.f63, Try.func63, by kernel_rfl, by kernel_rfl, by kernel_rfl, by kernel_rfl⟩
theorem v_crc64_table : S_table6 pg 63 := crc64_table b_crc64_table
theorem b_crc64_behind : Body pg 62 29 [.tmp 6] ac_crc64_behind := ⟨Try.f62, Try.func62, by kernel_rfl, by kernel_rfl, by kernel_rfl, by kernel_rfl⟩
theorem v_crc64_behind : S_Behind6 pg 62 := crc64_behind b_crc64_behind
theorem b_crc64_Next : Body pg 43 13 [.tmp 4, .tmp 5] (ac_crc64_Next 63 62) := ⟨Try.f43, Try.func43, by kernel_rfl, by kernel_rfl, by kernel_rfl, by kernel_rfl⟩
theorem v_crc64_Next : S_Next6 pg 43 := crc64_Next b_crc64_Next v_crc64_table v_crc64_behind
theorem b_crc64_Sum : Body pg 21 8 [.tmp 2, .tmp 3] (ac_crc64_Sum 43) := ⟨Try.f21, Try.func21, by kernel_rfl, by kernel_rfl, by kernel_rfl, by kernel_rfl⟩
theorem v_crc64_Sum : S_Sum6 pg 21 := crc64_Sum b_crc64_Sum v_crc64_Next
theorem b_seed_Of : Body pg 59 18 [.cell 2 77] (ac_seed_Of 77) := ⟨Try.f59, Try.func59, by kernel_rfl, by kernel_rfl, by kernel_rfl, by kernel_rfl⟩
theorem v_seed_Of : S_Of16 pg 59 := seed_Of b_seed_Of (show aggO Try.prog 77 = some (some 16) by kernel_rfl)
theorem b_seed_Taps : Body pg 37 22 [.cell 2 77, .tmp 3] (ac_seed_Taps 21 59 77) := ⟨Try.f37, Try.func37, by kernel_rfl, by kernel_rfl, by kernel_rfl, by kernel_rfl⟩
theorem v_seed_Taps : S_Taps pg 37 := seed_Taps b_seed_Taps v_crc64_Sum v_seed_Of (show aggO Try.prog 77 = some (some 16) by kernel_rfl)
theorem b_clip_Frames : BodyC pg 18 45 [.cell 4 44, .cell 5 28] (ac_clip_Frames 12 37 24 38 36 24 44 28 77 51) := ⟨Try.f18, Try.func18, by kernel_rfl, by kernel_rfl, by kernel_rfl, by kernel_rfl⟩
theorem v_clip_Frames : S_Frames pg 18 := clip_Frames b_clip_Frames v_clip_Check v_seed_Taps v_clip_parts v_clip_parts1 b_clip_parts_1 v_clip_shape v_enframe_Encode (show aggO Try.prog 44 = some none by kernel_rfl) (show aggO Try.prog 28 = some none by kernel_rfl) (by decide) (by decide) (by decide) (by decide) (by decide)
theorem b_cadenzaref24_SameFrames : Body pg 23 28 [.tmp 4] ac_cadenzaref24_SameFrames := ⟨Try.f23, Try.func23, by kernel_rfl, by kernel_rfl, by kernel_rfl, by kernel_rfl⟩
theorem v_ref24_SameFrames : S_FEq pg 23 := ref24_SameFrames b_cadenzaref24_SameFrames
theorem b_cadenzalaw24_example : Body pg 35 3 [.cell 0 24] (ac_cadenzalaw24_example 24 21) := ⟨Try.f35, Try.func35, by kernel_rfl, by kernel_rfl, by kernel_rfl, by kernel_rfl⟩
theorem v_law24_example : S_Ex24 pg 35 := law24_example b_cadenzalaw24_example (show aggO Try.prog 24 = some (some 4) by kernel_rfl)
theorem b_cadenzalaw24_alive : Body pg 17 60 [.tmp 0] (ac_cadenzalaw24_alive 35 8 18 36 14 21 22) := ⟨Try.f17, Try.func17, by kernel_rfl, by kernel_rfl, by kernel_rfl, by kernel_rfl⟩
theorem v_law24_alive : S_Alive pg 17 := law24_alive b_cadenzalaw24_alive v_law24_example v_clip_Split v_clip_Frames v_enframe_Encode v_ref24_SameParts
theorem b_cadenzalaw24_ClipPasswords : Body pg 5 121 [.tmp 6] (ac_cadenzalaw24_ClipPasswords 17 13 18 21 22 23 24) := ⟨Try.f5, Try.func5, by kernel_rfl, by kernel_rfl, by kernel_rfl, by kernel_rfl⟩
theorem v_law24_ClipPasswords : S_LawPw pg 5 := law24_ClipPasswords b_cadenzalaw24_ClipPasswords v_law24_alive v_ref24_Check v_clip_Frames v_crc64_Sum v_ref22_Count v_ref24_SameFrames

theorem own : ownKnob Try.prog.godebug = none := by kernel_rfl
theorem laid : laidOutB Try.prog = true := by kernel_rfl

set_option maxRecDepth 100000 in
theorem contract (H : Type) (enc : TypeId × Value → H) (W : World) (base : Nat) (args : Array Value) (ds gs : List (DataW H)) (before : List MemPlace)
    (hval : ∀ (j : Nat) t v, Try.f5.params[j]? = some t → args[j]? = some v → Value.okWide Try.prog W .any base t v)
    (hW : DataW.Whole enc Try.prog Try.f5.params.toList Rows.clipPasswordsSpec.vars false W args.toList ds gs before) :
    Calls Try.prog 5 args W fun e W' => ∃ v, e = .returned v ∧ Rows.clipPasswordsSpec.post enc Try.prog Try.f5 false true false false W args v W' := by
  have hW' := hW
  obtain ⟨p, q, hA0, hV, rfl, hfz, hnd⟩ := hW
  have hA : DataW.TrodAll enc Try.prog W 0 (fun _ => true) true Try.f5.params.toList args.toList ds p := hA0
  rw [Try.params5] at hA hval
  obtain ⟨v0, vs0, d0, ds0, p0, q0, hargs, rfl, rfl, h0, r0⟩ := trodAll_cons hA
  obtain ⟨v1, vs1, d1, ds1, p1, q1, rfl, rfl, rfl, h1, r1⟩ := trodAll_cons r0
  obtain ⟨v2, vs2, d2, ds2, p2, q2, rfl, rfl, rfl, h2, r2⟩ := trodAll_cons r1
  obtain ⟨rfl, rfl, rfl⟩ := trodAll_nil r2
  obtain rfl : args = #[v0, v1, v2] := by cases args; simp_all
  obtain ⟨rfl, rfl⟩ := trodVars_none hV
  obtain ⟨as0, r0, q0⟩ := arg_agg (P := Try.prog) (k := 8) (s := clSh) (by kernel_rfl) (isStr_eq (by kernel_rfl)) (hval 0 _ v0 rfl rfl) h0
  obtain ⟨c0, x0, t0, l0, rfl, g0⟩ := fits_clip q0
  obtain ⟨s1, l1, r1⟩ := arg_string (P := Try.prog) (by kernel_rfl) (hval 1 _ v1 rfl rfl) h1
  obtain ⟨s2, l2, r2⟩ := arg_string (P := Try.prog) (by kernel_rfl) (hval 2 _ v2 rfl rfl) h2
  refine (calls_true (P := pg) (v_law24_ClipPasswords c0 x0 t0 l0 s1 s2 g0) (fun q cs h => by cases h) (args := #[v0, v1, v2]) (by simp only [RepL]; exact ⟨v0, _, rfl, r0, v1, _, rfl, r1, v2, _, rfl, r2, rfl⟩)).mono fun e W' ⟨he, hb⟩ => ?_
  subst he
  exact ⟨_, rfl, post_true laid (by kernel_rfl) (by rfl) (by kernel_rfl) rfl ⟨rfl, rfl, rfl⟩ hW' hb⟩

set_option maxRecDepth 100000 in
theorem lifted (os : Os) (started : os.Started) (H : Type) (enc : TypeId × Value → H) :
    ReturnsInHanded {} Try.checked os 5 .any (Rows.clipPasswordsSpec.pre6 enc Try.prog Try.f5 Rows.clipPasswordsRow.domain false) (Rows.clipPasswordsSpec.post enc Try.prog Try.f5 false true false false) := by
  refine returnsInHanded_of_change (C := Try.checked) own started (by kernel_rfl) Try.func5
    (ChangeSpec.witness6 (enc := enc) (C := Try.checked) false ⟨#[], #[.agg #[.int .i64 0, .int .i64 0, .int .i64 0, .slice none 0 0], .string ⟨#[]⟩, .string ⟨#[]⟩], []⟩ 8 (by kernel_rfl) (by kernel_rfl) (by kernel_rfl) (by kernel_rfl)) ?_
  intro W base args ds gs before hval hW _ _
  exact contract H enc W base args ds gs before hval hW

theorem proved : Rows.ClipPasswordsSaid :=
  OpenClaim.holds_of_wide 5 Try.f5 rfl rfl rfl rfl rfl rfl rfl ⟨rfl, rfl, rfl, rfl, rfl⟩ rfl rfl rfl rfl rfl (by kernel_rfl) Try.func5 (by kernel_rfl)
    (of_decide_eq_true (by kernel_rfl)) (by unfold Func.isWrapper; first | (rw [if_pos (by decide +kernel)]; kernel_rfl) | (rw [if_neg (by decide +kernel)]; exact ⟨rfl, rfl⟩))
    (fun os started H enc _ => lifted os started H enc)

end Go.Proofs.Ytpanmoedefeniaa.clipPasswords

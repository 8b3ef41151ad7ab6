/- For every number of bits, tap list and sample list cadenzalaw20.EnframeOne returns true and leaves its arguments as they were. No conditions. -/
import Derived.Test.YtkngajpinabacaaRows
import Derived.Test.YtkngajpinabacaaEnframeOneY1
set_option linter.unusedSectionVars false
set_option linter.unusedSimpArgs false
set_option linter.unusedVariables false
namespace Go.Proofs.Ytkngajpinabacaa.enframeOne
open Go.Am Go.ChangeShapes Go.WideShapes Go.ChangeAt Go.RowKit

noncomputable def pg : Prg := ⟨Try.prog, [], fun g cs h => by
  cases h⟩

theorem b_width_Range : Body pg 32 18 [.tmp 2, .tmp 3, .tmp 4] ac_width_Range := ⟨Try.f32, Try.func32, by kernel_rfl, by kernel_rfl, by kernel_rfl, by kernel_rfl⟩
theorem v_width_Range : S_Range pg 32 := width_Range b_width_Range
theorem b_cadenzaref18_Half : Body pg 57 10 [.tmp 2] ac_cadenzaref18_Half := ⟨Try.f57, Try.func57, by kernel_rfl, by kernel_rfl, by kernel_rfl, by kernel_rfl⟩
theorem v_ref18_Half : S_Half pg 57 := ref18_Half b_cadenzaref18_Half
theorem b_width_Check : Body pg 48 37 [.tmp 4] (ac_width_Check 32) := ⟨Try.f48, Try.func48, by kernel_rfl, by kernel_rfl, by kernel_rfl, by kernel_rfl⟩
theorem v_width_Check : S_WCheck pg 48 := width_Check b_width_Check v_width_Range
theorem b_cadenzaref18_Check : Body pg 35 37 [.tmp 4] (ac_cadenzaref18_Check 57) := ⟨Try.f35, Try.func35, by kernel_rfl, by kernel_rfl, by kernel_rfl, by kernel_rfl⟩
theorem v_ref18_Check : S_WCheck pg 35 := ref18_Check b_cadenzaref18_Check v_ref18_Half
theorem b_enframe_Check : Body pg 11 25 [.tmp 2] (ac_enframe_Check 32 24) := ⟨Try.f11, Try.func11, by kernel_rfl, by kernel_rfl, by kernel_rfl, by kernel_rfl⟩
theorem v_enframe_Check : S_ECheck pg 11 := enframe_Check b_enframe_Check v_width_Range
theorem b_cadenzaref20_Check : Body pg 34 17 [.tmp 2] (ac_cadenzaref20_Check 57 24) := ⟨Try.f34, Try.func34, by kernel_rfl, by kernel_rfl, by kernel_rfl, by kernel_rfl⟩
theorem v_ref20_Check : S_ECheck pg 34 := ref20_Check b_cadenzaref20_Check v_ref18_Half
theorem b_taps_New : Body pg 44 18 [.cell 4 57, .tmp 5] (ac_taps_New 22 57) := ⟨Try.f44, Try.func44, by kernel_rfl, by kernel_rfl, by kernel_rfl, by kernel_rfl⟩
theorem v_taps_New : S_TNew pg 44 := taps_New b_taps_New (show aggO Try.prog 57 = some (some 33) by kernel_rfl)
theorem b_taps_Check : Body pg 73 11 [.tmp 2] (ac_taps_Check 57) := ⟨Try.f73, Try.func73, by kernel_rfl, by kernel_rfl, by kernel_rfl, by kernel_rfl⟩
theorem v_taps_Check : S_TCheck pg 73 := taps_Check b_taps_Check
theorem b_taps_Guess : Body pg 68 36 [.tmp 2, .tmp 3] (ac_taps_Guess 73 57) := ⟨Try.f68, Try.func68, by kernel_rfl, by kernel_rfl, by kernel_rfl, by kernel_rfl⟩
theorem v_taps_Guess : S_TGuess pg 68 := taps_Guess b_taps_Guess v_taps_Check
theorem b_taps_step : Body pg 78 9 [.tmp 2] ac_taps_step := ⟨Try.f78, Try.func78, by kernel_rfl, by kernel_rfl, by kernel_rfl, by kernel_rfl⟩
theorem v_taps_step : S_TStep pg 78 := taps_step b_taps_step
theorem b_taps_Learn : Body pg 74 53 [.cell 4 57, .tmp 5] (ac_taps_Learn 73 78 57) := ⟨Try.f74, Try.func74, by kernel_rfl, by kernel_rfl, by kernel_rfl, by kernel_rfl⟩
theorem v_taps_Learn : S_TLearn pg 74 := taps_Learn b_taps_Learn (show aggO Try.prog 57 = some (some 33) by kernel_rfl) v_taps_Check v_taps_step
theorem b_taps_Push : Body pg 75 22 [.cell 4 57, .tmp 5] (ac_taps_Push 73 57) := ⟨Try.f75, Try.func75, by kernel_rfl, by kernel_rfl, by kernel_rfl, by kernel_rfl⟩
theorem v_taps_Push : S_TPush pg 75 := taps_Push b_taps_Push (show aggO Try.prog 57 = some (some 33) by kernel_rfl) v_taps_Check
theorem b_lms_behind : Body pg 69 20 [.cell 6 57] (ac_lms_behind 74 75 57) := ⟨Try.f69, Try.func69, by kernel_rfl, by kernel_rfl, by kernel_rfl, by kernel_rfl⟩
theorem v_lms_behind : S_LBehind pg 69 := lms_behind b_lms_behind (show aggO Try.prog 57 = some (some 33) by kernel_rfl) v_taps_Learn v_taps_Push
theorem b_lms_Forward : Body pg 51 27 [.tmp 4, .cell 5 57, .tmp 6] (ac_lms_Forward 68 69 57) := ⟨Try.f51, Try.func51, by kernel_rfl, by kernel_rfl, by kernel_rfl, by kernel_rfl⟩
theorem v_lms_Forward : S_LForward pg 51 := lms_Forward b_lms_Forward (show aggO Try.prog 57 = some (some 33) by kernel_rfl) v_taps_Guess v_lms_behind
theorem b_first_Shift : Body pg 66 10 [.tmp 2, .tmp 3] ac_first_Shift := ⟨Try.f66, Try.func66, by kernel_rfl, by kernel_rfl, by kernel_rfl, by kernel_rfl⟩
theorem v_first_Shift : S_FShift pg 66 := first_Shift b_first_Shift
theorem b_first_guess : Body pg 67 16 [.tmp 4] ac_first_guess := ⟨Try.f67, Try.func67, by kernel_rfl, by kernel_rfl, by kernel_rfl, by kernel_rfl⟩
theorem v_first_guess : S_Fguess pg 67 := first_guess b_first_guess
theorem b_first_Guess : Body pg 50 19 [.tmp 4, .tmp 5] (ac_first_Guess 66 67) := ⟨Try.f50, Try.func50, by kernel_rfl, by kernel_rfl, by kernel_rfl, by kernel_rfl⟩
theorem v_first_Guess : S_FGuess pg 50 := first_Guess b_first_Guess v_first_Shift v_first_guess
theorem b_chain_New : Body pg 20 21 [.cell 4 59, .tmp 5] (ac_chain_New 44 22 59 57) := ⟨Try.f20, Try.func20, by kernel_rfl, by kernel_rfl, by kernel_rfl, by kernel_rfl⟩
theorem v_chain_New : S_CNew pg 20 := chain_New b_chain_New (show aggO Try.prog 59 = some (some 35) by kernel_rfl) v_taps_New
theorem b_chain_Check : Body pg 49 24 [.tmp 2] (ac_chain_Check 44 59 57) := ⟨Try.f49, Try.func49, by kernel_rfl, by kernel_rfl, by kernel_rfl, by kernel_rfl⟩
theorem v_chain_Check : S_CCheck pg 49 := chain_Check b_chain_Check v_taps_New
theorem b_chain_Forward : Body pg 26 44 [.tmp 4, .cell 5 59, .tmp 6] (ac_chain_Forward 49 50 51 59 57) := ⟨Try.f26, Try.func26, by kernel_rfl, by kernel_rfl, by kernel_rfl, by kernel_rfl⟩
theorem v_chain_Forward : S_CForward pg 26 := chain_Forward b_chain_Forward (show aggO Try.prog 59 = some (some 35) by kernel_rfl) v_chain_Check v_first_Guess v_lms_Forward
theorem b_fold_Fold : Body pg 22 10 [.tmp 2] ac_fold_Fold := ⟨Try.f22, Try.func22, by kernel_rfl, by kernel_rfl, by kernel_rfl, by kernel_rfl⟩
theorem v_fold_Fold : S_Fold pg 22 := fold_Fold b_fold_Fold
theorem b_slices_Clone_int32_int32 : Body pg 42 8 [.tmp 2] (ac_slices_Clone_int32_int32 21) := ⟨Try.f42, Try.func42, by kernel_rfl, by kernel_rfl, by kernel_rfl, by kernel_rfl⟩
theorem v_clone_i32 : S_CloneA 21 pg 42 := clone_i32 b_slices_Clone_int32_int32
theorem b_mix_mix : Body pg 43 39 [] ac_mix_mix := ⟨Try.f43, Try.func43, by kernel_rfl, by kernel_rfl, by kernel_rfl, by kernel_rfl⟩
theorem v_mix_mix : S_Mix pg 43 := mix_mix b_mix_mix
theorem b_mix_check : Body pg 41 22 [.tmp 4] ac_mix_check := ⟨Try.f41, Try.func41, by kernel_rfl, by kernel_rfl, by kernel_rfl, by kernel_rfl⟩
theorem v_mix_check : S_MCheck pg 41 := mix_check b_mix_check
theorem b_mix_All : Body pg 19 32 [.tmp 4, .tmp 5] (ac_mix_All 41 42 43) := ⟨Try.f19, Try.func19, by kernel_rfl, by kernel_rfl, by kernel_rfl, by kernel_rfl⟩
theorem v_mix_All : S_MixAll pg 19 := mix_All b_mix_All v_mix_check v_clone_i32 v_mix_mix
theorem b_enframe_check : Body pg 25 30 [.tmp 4] (ac_enframe_check 11 48 24) := ⟨Try.f25, Try.func25, by kernel_rfl, by kernel_rfl, by kernel_rfl, by kernel_rfl⟩
theorem v_enframe_check : S_EAsk pg 25 := enframe_check b_enframe_check v_enframe_Check v_width_Check
theorem b_cadenzaref20_Asked : Body pg 14 28 [.tmp 4] (ac_cadenzaref20_Asked 34 35 24) := ⟨Try.f14, Try.func14, by kernel_rfl, by kernel_rfl, by kernel_rfl, by kernel_rfl⟩
theorem v_ref20_Asked : S_EAsk pg 14 := ref20_Asked b_cadenzaref20_Asked v_ref20_Check v_ref18_Check
theorem b_enframe_Values : Body pg 8 83 [.tmp 6, .tmp 7] (ac_enframe_Values 25 19 20 26 22 24 22 72 59 39) := ⟨Try.f8, Try.func8, by kernel_rfl, by kernel_rfl, by kernel_rfl, by kernel_rfl⟩
theorem v_enframe_Values : S_EVals pg 8 := enframe_Values b_enframe_Values v_enframe_check v_mix_All v_chain_New v_chain_Forward v_fold_Fold
theorem b_cadenzaref05_Same : Body pg 13 26 [.tmp 4] ac_cadenzaref05_Same := ⟨Try.f13, Try.func13, by kernel_rfl, by kernel_rfl, by kernel_rfl, by kernel_rfl⟩
theorem v_ref05_Same : S_USame pg 13 := ref05_Same b_cadenzaref05_Same
theorem b_le_fits : Body pg 55 14 [.tmp 4] ac_le_fits := ⟨Try.f55, Try.func55, by kernel_rfl, by kernel_rfl, by kernel_rfl, by kernel_rfl⟩
theorem v_le_fits : S_fits pg 55 := le_fits b_le_fits
theorem b_le_Bytes : Body pg 30 35 [.tmp 4, .tmp 5] (ac_le_Bytes 55 5) := ⟨Try.f30, Try.func30, by kernel_rfl, by kernel_rfl, by kernel_rfl, by kernel_rfl⟩
theorem v_le_Bytes : S_leBytes pg 30 := le_Bytes b_le_Bytes v_le_fits
theorem b_crc32_table : Body pg 60 24 [.tmp 0] (ac_crc32_table 131) := ⟨Try.f60, Try.func60, by kernel_rfl, by kernel_rfl, by kernel_rfl, by kernel_rfl⟩
theorem v_crc32_table : S_table pg 60 := crc32_table b_crc32_table
theorem b_crc32_Next : Body pg 40 32 [.tmp 4, .tmp 5] (ac_crc32_Next 60) := ⟨Try.f40, Try.func40, by kernel_rfl, by kernel_rfl, by kernel_rfl, by kernel_rfl⟩
theorem v_crc32_Next : S_CNext pg 40 := crc32_Next b_crc32_Next v_crc32_table
theorem b_crc32_Sum : Body pg 18 16 [.tmp 2, .tmp 3] (ac_crc32_Sum 40) := ⟨Try.f18, Try.func18, by kernel_rfl, by kernel_rfl, by kernel_rfl, by kernel_rfl⟩
theorem v_crc32_Sum : S_CSum pg 18 := crc32_Sum b_crc32_Sum v_crc32_Next
theorem b_cadenzaref03_Step : Body pg 77 19 [.tmp 4] ac_cadenzaref03_Step := ⟨Try.f77, Try.func77, by kernel_rfl, by kernel_rfl, by kernel_rfl, by kernel_rfl⟩
theorem v_ref03_Step : S_Step pg 77 := ref03_Step b_cadenzaref03_Step
theorem b_cadenzaref03_Byte : Body pg 72 18 [.tmp 4] (ac_cadenzaref03_Byte 77) := ⟨Try.f72, Try.func72, by kernel_rfl, by kernel_rfl, by kernel_rfl, by kernel_rfl⟩
theorem v_ref03_Byte : S_Byte pg 72 := ref03_Byte b_cadenzaref03_Byte v_ref03_Step
theorem b_cadenzaref03_Behind : Body pg 65 19 [.tmp 4] (ac_cadenzaref03_Behind 72) := ⟨Try.f65, Try.func65, by kernel_rfl, by kernel_rfl, by kernel_rfl, by kernel_rfl⟩
theorem v_ref03_Behind : S_Behind3 pg 65 := ref03_Behind b_cadenzaref03_Behind v_ref03_Byte
theorem b_cadenzaref03_Of : Body pg 47 6 [.tmp 2] (ac_cadenzaref03_Of 65) := ⟨Try.f47, Try.func47, by kernel_rfl, by kernel_rfl, by kernel_rfl, by kernel_rfl⟩
theorem v_ref03_Of : S_COf pg 47 := ref03_Of b_cadenzaref03_Of v_ref03_Behind
theorem b_bits_Check : Body pg 52 40 [.tmp 2] (ac_bits_Check 66) := ⟨Try.f52, Try.func52, by kernel_rfl, by kernel_rfl, by kernel_rfl, by kernel_rfl⟩
theorem v_bits_Check : S_bCheck pg 52 := bits_Check b_bits_Check
theorem b_bits_get : Body pg 64 47 [.tmp 6] (ac_bits_get 66) := ⟨Try.f64, Try.func64, by kernel_rfl, by kernel_rfl, by kernel_rfl, by kernel_rfl⟩
theorem v_bits_get : S_bget pg 64 := bits_get b_bits_get
theorem b_dual_Start : Body pg 15 2 [.cell 0 43] (ac_dual_Start 43) := ⟨Try.f15, Try.func15, by kernel_rfl, by kernel_rfl, by kernel_rfl, by kernel_rfl⟩
theorem v_dual_Start : S_Start pg 15 := dual_Start b_dual_Start (show aggO Try.prog 43 = some (some 4) by kernel_rfl)
theorem b_dual_Check : Body pg 36 26 [.tmp 2] (ac_dual_Check 43) := ⟨Try.f36, Try.func36, by kernel_rfl, by kernel_rfl, by kernel_rfl, by kernel_rfl⟩
theorem v_dual_Check : S_DCheck pg 36 := dual_Check b_dual_Check
theorem b_dual_level : Body pg 37 17 [.tmp 4, .tmp 5] (ac_dual_level 43) := ⟨Try.f37, Try.func37, by kernel_rfl, by kernel_rfl, by kernel_rfl, by kernel_rfl⟩
theorem v_dual_level : S_Level pg 37 := dual_level b_dual_level
theorem b_rice_escaped : Body pg 58 9 [.tmp 4] ac_rice_escaped := ⟨Try.f58, Try.func58, by kernel_rfl, by kernel_rfl, by kernel_rfl, by kernel_rfl⟩
theorem v_rice_esc : S_esc pg 58 := rice_esc b_rice_escaped
theorem b_cadenzaref20_Sealed : Body pg 24 22 [.tmp 2] (ac_cadenzaref20_Sealed 47 5) := ⟨Try.f24, Try.func24, by kernel_rfl, by kernel_rfl, by kernel_rfl, by kernel_rfl⟩
theorem v_ref20_Sealed : S_Sealed pg 24 := ref20_Sealed b_cadenzaref20_Sealed v_ref03_Of
theorem b_slices_Clone_byte_byte : Body pg 71 8 [.tmp 2] (ac_slices_Clone_byte_byte 5) := ⟨Try.f71, Try.func71, by kernel_rfl, by kernel_rfl, by kernel_rfl, by kernel_rfl⟩
theorem v_clone_b : S_CloneB 5 pg 71 := clone_b b_slices_Clone_byte_byte
theorem b_bits_Put : Body pg 53 44 [.cell 6 66, .tmp 7] (ac_bits_Put 52 61 63 66) := ⟨Try.f53, Try.func53, by kernel_rfl, by kernel_rfl, by kernel_rfl, by kernel_rfl⟩
theorem b_bits_twin : Body pg 61 9 [.cell 2 66] (ac_bits_twin 71 66) := ⟨Try.f61, Try.func61, by kernel_rfl, by kernel_rfl, by kernel_rfl, by kernel_rfl⟩
theorem b_bits_put : Body pg 63 75 [] (ac_bits_put 5) := ⟨Try.f63, Try.func63, by kernel_rfl, by kernel_rfl, by kernel_rfl, by kernel_rfl⟩
theorem v_bits_Put : S_bPut pg 53 := bits_Put b_bits_Put v_bits_Check b_bits_twin b_bits_put v_clone_b (show aggO Try.prog 66 = some (some 2) by kernel_rfl) (show aggO Try.prog 66 = some (some 2) by kernel_rfl)
theorem b_unary_Length : Body pg 76 13 [.tmp 2, .tmp 3] ac_unary_Length := ⟨Try.f76, Try.func76, by kernel_rfl, by kernel_rfl, by kernel_rfl, by kernel_rfl⟩
theorem v_unary_Length : S_uLen pg 76 := unary_Length b_unary_Length
theorem b_unary_Write : Body pg 70 32 [.cell 4 66, .tmp 5] (ac_unary_Write 52 76 53 66) := ⟨Try.f70, Try.func70, by kernel_rfl, by kernel_rfl, by kernel_rfl, by kernel_rfl⟩
theorem v_unary_Write : S_uWrite pg 70 := unary_Write b_unary_Write v_bits_Check v_unary_Length v_bits_Put (show aggO Try.prog 66 = some (some 2) by kernel_rfl)
theorem b_rice_Write : Body pg 54 57 [.cell 6 66, .tmp 7] (ac_rice_Write 52 58 70 53 66) := ⟨Try.f54, Try.func54, by kernel_rfl, by kernel_rfl, by kernel_rfl, by kernel_rfl⟩
theorem v_rice_Write : S_rWrite pg 54 := rice_Write b_rice_Write v_bits_Check v_rice_esc v_unary_Write v_bits_Put (show aggO Try.prog 66 = some (some 2) by kernel_rfl)
theorem b_rice_Length : Body pg 38 24 [.tmp 4, .tmp 5] (ac_rice_Length 58) := ⟨Try.f38, Try.func38, by kernel_rfl, by kernel_rfl, by kernel_rfl, by kernel_rfl⟩
theorem v_rice_Length : S_rLen pg 38 := rice_Length b_rice_Length v_rice_esc
theorem b_dual_Write : Body pg 28 69 [.cell 6 66, .cell 7 43, .tmp 8] (ac_dual_Write 52 36 37 53 54 39 66 43) := ⟨Try.f28, Try.func28, by kernel_rfl, by kernel_rfl, by kernel_rfl, by kernel_rfl⟩
theorem b_dual_learn : Body pg 39 36 [] (ac_dual_learn 59 37) := ⟨Try.f39, Try.func39, by kernel_rfl, by kernel_rfl, by kernel_rfl, by kernel_rfl⟩
theorem b_dual_learn_1 : Body pg 59 58 [] ac_dual_learn_1 := ⟨Try.f59, Try.func59, by kernel_rfl, by kernel_rfl, by kernel_rfl, by kernel_rfl⟩
theorem v_dual_Write : S_dWrite pg 28 := dual_Write b_dual_Write v_bits_Check v_dual_Check v_dual_level v_bits_Put v_rice_Write b_dual_learn b_dual_learn_1 v_dual_level (show aggO Try.prog 66 = some (some 2) by kernel_rfl) (show aggO Try.prog 43 = some (some 4) by kernel_rfl)
theorem b_dual_Length : Body pg 16 37 [.tmp 4, .tmp 5] (ac_dual_Length 36 37 38 43) := ⟨Try.f16, Try.func16, by kernel_rfl, by kernel_rfl, by kernel_rfl, by kernel_rfl⟩
theorem v_dual_Length : S_dLen pg 16 := dual_Length b_dual_Length v_dual_Check v_dual_level v_rice_Length
theorem b_dual_Learn : Body pg 17 16 [.cell 4 43, .tmp 5] (ac_dual_Learn 36 39 43) := ⟨Try.f17, Try.func17, by kernel_rfl, by kernel_rfl, by kernel_rfl, by kernel_rfl⟩
theorem v_dual_Learn : S_dLearn pg 17 := dual_Learn b_dual_Learn v_dual_Check b_dual_learn b_dual_learn_1 v_dual_level (show aggO Try.prog 43 = some (some 4) by kernel_rfl)
theorem b_enframe_states : Body pg 27 11 [.cell 0 44] (ac_enframe_states 15 44) := ⟨Try.f27, Try.func27, by kernel_rfl, by kernel_rfl, by kernel_rfl, by kernel_rfl⟩
theorem v_enframe_states : S_eStates pg 27 := enframe_states b_enframe_states v_dual_Start (show aggO Try.prog 44 = some (some 24) by kernel_rfl)
theorem b_slices_Concat_byte_byte : Body pg 31 36 [.tmp 2] (ac_slices_Concat_byte_byte 56 5) := ⟨Try.f31, Try.func31, by kernel_rfl, by kernel_rfl, by kernel_rfl, by kernel_rfl⟩
theorem growB : S_GrowNil 5 pg 56 := grow_nil Try.growB rfl rfl (by kernel_rfl)
theorem v_slices_Concat : S_Concat pg 31 := slices_Concat b_slices_Concat_byte_byte growB
theorem b_enframe_Encode : Body pg 9 85 [.tmp 6, .tmp 7] (ac_enframe_Encode 8 27 28 29 18 30 31 24 22 44 66 43 31) := ⟨Try.f9, Try.func9, by kernel_rfl, by kernel_rfl, by kernel_rfl, by kernel_rfl⟩
theorem b_enframe_put : Body pg 29 64 [] (ac_enframe_put 66 5) := ⟨Try.f29, Try.func29, by kernel_rfl, by kernel_rfl, by kernel_rfl, by kernel_rfl⟩
theorem v_enframe_Encode : S_Enc pg 9 := enframe_Encode b_enframe_Encode v_enframe_Values v_enframe_states v_dual_Write b_enframe_put v_crc32_Sum v_le_Bytes v_slices_Concat
theorem b_enframe_Length : Body pg 10 69 [.tmp 6, .tmp 7] (ac_enframe_Length 8 27 16 17 24 22 44) := ⟨Try.f10, Try.func10, by kernel_rfl, by kernel_rfl, by kernel_rfl, by kernel_rfl⟩
theorem v_enframe_Length : S_ELen pg 10 := enframe_Length b_enframe_Length v_enframe_Values v_enframe_states v_dual_Length v_dual_Learn
theorem b_cadenzalaw20_mono : Body pg 33 2 [.cell 0 24] (ac_cadenzalaw20_mono 24) := ⟨Try.f33, Try.func33, by kernel_rfl, by kernel_rfl, by kernel_rfl, by kernel_rfl⟩
theorem v_law20_mono : S_mono pg 33 := law20_mono b_cadenzalaw20_mono (show aggO Try.prog 24 = some (some 2) by kernel_rfl)
theorem b_cadenzalaw20_alive : Body pg 12 74 [.tmp 0] (ac_cadenzalaw20_alive 33 8 9 10 13 24 22 21 39 5) := ⟨Try.f12, Try.func12, by kernel_rfl, by kernel_rfl, by kernel_rfl, by kernel_rfl⟩
theorem v_law20_alive : S_alive21 pg 12 := law20_alive b_cadenzalaw20_alive v_law20_mono v_enframe_Values v_enframe_Encode v_enframe_Length v_ref05_Same v_ref20_Sealed
theorem b_bits_Join : Body pg 46 49 [.cell 4 66, .tmp 5] (ac_bits_Join 52 61 62 66) := ⟨Try.f46, Try.func46, by kernel_rfl, by kernel_rfl, by kernel_rfl, by kernel_rfl⟩
theorem b_bits_Join_1 : Body pg 62 12 [] (ac_bits_Join_1 64 63) := ⟨Try.f62, Try.func62, by kernel_rfl, by kernel_rfl, by kernel_rfl, by kernel_rfl⟩
theorem v_bits_Join : S_Join pg 46 := bits_Join b_bits_Join v_bits_Check b_bits_twin b_bits_Join_1 v_bits_get b_bits_put v_clone_b (show aggO Try.prog 66 = some (some 2) by kernel_rfl) (show aggO Try.prog 66 = some (some 2) by kernel_rfl)
theorem b_coder_Encode : Body pg 23 57 [.cell 2 66, .tmp 3] (ac_coder_Encode 15 28 46 66 43) := ⟨Try.f23, Try.func23, by kernel_rfl, by kernel_rfl, by kernel_rfl, by kernel_rfl⟩
theorem v_coder_Encode : S_CEnc pg 23 := coder_Encode b_coder_Encode v_dual_Start v_dual_Write v_bits_Join (show aggO Try.prog 66 = some (some 2) by kernel_rfl)
theorem b_cadenzalaw20_EnframeOne : Body pg 7 78 [.tmp 6] (ac_cadenzalaw20_EnframeOne 12 14 9 8 23 24 22 24 66) := ⟨Try.f7, Try.func7, by kernel_rfl, by kernel_rfl, by kernel_rfl, by kernel_rfl⟩
theorem v_law20_EnframeOne : S_LawOne pg 7 := law20_EnframeOne b_cadenzalaw20_EnframeOne v_law20_alive v_ref20_Asked v_enframe_Encode v_enframe_Values v_coder_Encode v_ref20_Sealed

theorem own : ownKnob Try.prog.godebug = none := by kernel_rfl
theorem laid : laidOutB Try.prog = true := by kernel_rfl

set_option maxRecDepth 100000 in
theorem contract (H : Type) (enc : TypeId × Value → H) (W : World) (base : Nat) (args : Array Value) (ds gs : List (DataW H)) (before : List MemPlace)
    (hval : ∀ (j : Nat) t v, Try.f7.params[j]? = some t → args[j]? = some v → Value.okWide Try.prog W .any base t v)
    (hW : DataW.Whole enc Try.prog Try.f7.params.toList Rows.enframeOneSpec.vars false W args.toList ds gs before) :
    Calls Try.prog 7 args W fun e W' => ∃ v, e = .returned v ∧ Rows.enframeOneSpec.post enc Try.prog Try.f7 false true false false W args v W' := by
  have hW' := hW
  obtain ⟨p, q, hA0, hV, rfl, hfz, hnd⟩ := hW
  have hA : DataW.TrodAll enc Try.prog W 0 (fun _ => true) true Try.f7.params.toList args.toList ds p := hA0
  rw [Try.params7] at hA hval
  obtain ⟨v0, vs0, d0, ds0, p0, q0, hargs, rfl, rfl, h0, r0⟩ := trodAll_cons hA
  obtain ⟨v1, vs1, d1, ds1, p1, q1, rfl, rfl, rfl, h1, r1⟩ := trodAll_cons r0
  obtain ⟨v2, vs2, d2, ds2, p2, q2, rfl, rfl, rfl, h2, r2⟩ := trodAll_cons r1
  obtain ⟨rfl, rfl, rfl⟩ := trodAll_nil r2
  obtain rfl : args = #[v0, v1, v2] := by cases args; simp_all
  obtain ⟨rfl, rfl⟩ := trodVars_none hV
  obtain ⟨n0, w0, r0⟩ := arg_int (P := Try.prog) (k := .i64) (by kernel_rfl) (hval 0 _ v0 rfl rfl) h0
  obtain ⟨as1, r1, q1⟩ := arg_arr (P := Try.prog) (k := 8) (s := tapSh) (by kernel_rfl) (isArr_eq (by kernel_rfl)) (hval 1 _ v1 rfl rfl) h1
  obtain ⟨t1, rfl, g1, i1⟩ := fits_taps q1
  obtain ⟨L2, r2, m2, q2⟩ := arg_slice (P := Try.prog) (k := 8) (s := .int .i32) (by kernel_rfl) (isSl_eq (by kernel_rfl)) (hval 2 _ v2 rfl rfl) h2
  obtain ⟨x2, z2, y2, g2⟩ := fits_i32s q2
  rw [y2] at r2
  refine (calls_true (P := pg) (v_law20_EnframeOne n0 t1 x2 g1 i1 g2) (fun q cs h => by cases h) (args := #[v0, v1, v2]) (by simp only [RepL]; exact ⟨v0, _, rfl, r0, v1, _, rfl, r1, v2, _, rfl, r2, rfl⟩)).mono fun e W' ⟨he, hb⟩ => ?_
  subst he
  exact ⟨_, rfl, post_true laid (by kernel_rfl) (by rfl) (by kernel_rfl) rfl ⟨rfl, rfl, rfl⟩ hW' hb⟩

set_option maxRecDepth 100000 in
theorem lifted (os : Os) (started : os.Started) (H : Type) (enc : TypeId × Value → H) :
    ReturnsInHanded {} Try.checked os 7 .any (Rows.enframeOneSpec.pre6 enc Try.prog Try.f7 Rows.enframeOneRow.domain false) (Rows.enframeOneSpec.post enc Try.prog Try.f7 false true false false) := by
  refine returnsInHanded_of_change (C := Try.checked) own started (by kernel_rfl) Try.func7
    (ChangeSpec.witness6 (enc := enc) (C := Try.checked) false ⟨#[], #[.int .i64 0, .agg #[.int .i32 0, .int .i32 0, .int .i32 0, .int .i32 0, .int .i32 0, .int .i32 0, .int .i32 0, .int .i32 0, .int .i32 0, .int .i32 0, .int .i32 0, .int .i32 0, .int .i32 0, .int .i32 0, .int .i32 0, .int .i32 0], .slice none 0 0], []⟩ 8 (by kernel_rfl) (by kernel_rfl) (by kernel_rfl) (by kernel_rfl)) ?_
  intro W base args ds gs before hval hW _ _
  exact contract H enc W base args ds gs before hval hW

theorem proved : Rows.EnframeOneSaid :=
  OpenClaim.holds_of_wide 7 Try.f7 rfl rfl rfl rfl rfl rfl rfl ⟨rfl, rfl, rfl, rfl, rfl⟩ rfl rfl rfl rfl rfl (by kernel_rfl) Try.func7 (by kernel_rfl)
    (of_decide_eq_true (by kernel_rfl)) (by unfold Func.isWrapper; first | (rw [if_pos (by decide +kernel)]; kernel_rfl) | (rw [if_neg (by decide +kernel)]; exact ⟨rfl, rfl⟩))
    (fun os started H enc _ => lifted os started H enc)

end Go.Proofs.Ytkngajpinabacaa.enframeOne

/- cadenzalaw21.DeframeNames returns true. No conditions. -/
import Derived.Test.YtkngajpinabacaaDoorRows
import Derived.Test.YtkngajpinabacaaDoorCards
import Derived.Test.YtkngajpinabacaaDoorTie
import Derived.Test.YtkngajpinabacaaDoorDeframeNamesL2
import Derived.ChangeSame
import Derived.ChangeVars
import Derived.JoinedOf
import Derived.RowKit
import Derived.RowKitTokens
import Derived.LaidLaws
import Derived.Stop.Joined
import Derived.SevenTiedAt
set_option linter.unusedSectionVars false
set_option linter.unusedSimpArgs false
set_option linter.unusedVariables false
namespace Go.Proofs.YtkngajpinabacaaDoor.deframeNames
open Go.Am Go.ChangeShapes Go.WideShapes Go.ChangeAt Go.RowKit

noncomputable def pg : Prg := ⟨Tryd.prog, [(0, [.int .u8 0, .int .u8 1, .int .u8 56, .int .u8 2, .int .u8 57, .int .u8 49, .int .u8 28, .int .u8 3, .int .u8 61, .int .u8 58, .int .u8 42, .int .u8 50, .int .u8 38, .int .u8 29, .int .u8 17, .int .u8 4, .int .u8 62, .int .u8 47, .int .u8 59, .int .u8 36, .int .u8 45, .int .u8 43, .int .u8 51, .int .u8 22, .int .u8 53, .int .u8 39, .int .u8 33, .int .u8 30, .int .u8 24, .int .u8 18, .int .u8 12, .int .u8 5, .int .u8 63, .int .u8 55, .int .u8 48, .int .u8 27, .int .u8 60, .int .u8 41, .int .u8 37, .int .u8 16, .int .u8 46, .int .u8 35, .int .u8 44, .int .u8 21, .int .u8 52, .int .u8 32, .int .u8 23, .int .u8 11, .int .u8 54, .int .u8 26, .int .u8 40, .int .u8 15, .int .u8 34, .int .u8 20, .int .u8 31, .int .u8 10, .int .u8 25, .int .u8 14, .int .u8 19, .int .u8 9, .int .u8 13, .int .u8 8, .int .u8 7, .int .u8 6])], fun g cs h => by
  simp only [List.lookup] at h
  repeat (first | (cases h; done) | (split at h; first | (cases h; rfl) | skip))⟩

theorem b_le_Value : Body pg 46 31 [.tmp 2, .tmp 3] ac_le_Value := ⟨Tryd.f46, Tryd.func46, by kernel_rfl, by kernel_rfl, by kernel_rfl, by kernel_rfl⟩
theorem v_le_Value : S_le_Value pg 46 := le_Value b_le_Value
theorem b_width_Range : Body pg 44 18 [.tmp 2, .tmp 3, .tmp 4] ac_width_Range := ⟨Tryd.f44, Tryd.func44, by kernel_rfl, by kernel_rfl, by kernel_rfl, by kernel_rfl⟩
theorem v_width_Range : S_Range pg 44 := width_Range b_width_Range
theorem b_width_Check : Body pg 54 37 [.tmp 4] (ac_width_Check 44) := ⟨Tryd.f54, Tryd.func54, by kernel_rfl, by kernel_rfl, by kernel_rfl, by kernel_rfl⟩
theorem v_width_Check : S_WCheck pg 54 := width_Check b_width_Check v_width_Range
theorem b_enframe_Check : Body pg 23 25 [.tmp 2] (ac_enframe_Check 44 23) := ⟨Tryd.f23, Tryd.func23, by kernel_rfl, by kernel_rfl, by kernel_rfl, by kernel_rfl⟩
theorem v_enframe_Check : S_ECheck pg 23 := enframe_Check b_enframe_Check v_width_Range
theorem b_taps_New : Body pg 37 18 [.cell 4 43, .tmp 5] (ac_taps_New 24 43) := ⟨Tryd.f37, Tryd.func37, by kernel_rfl, by kernel_rfl, by kernel_rfl, by kernel_rfl⟩
theorem v_taps_New : S_TNew pg 37 := taps_New b_taps_New (show aggO Tryd.prog 43 = some (some 33) by kernel_rfl)
theorem b_taps_Check : Body pg 109 11 [.tmp 2] (ac_taps_Check 43) := ⟨Tryd.f109, Tryd.func109, by kernel_rfl, by kernel_rfl, by kernel_rfl, by kernel_rfl⟩
theorem v_taps_Check : S_TCheck pg 109 := taps_Check b_taps_Check
theorem b_taps_Guess : Body pg 91 36 [.tmp 2, .tmp 3] (ac_taps_Guess 109 43) := ⟨Tryd.f91, Tryd.func91, by kernel_rfl, by kernel_rfl, by kernel_rfl, by kernel_rfl⟩
theorem v_taps_Guess : S_TGuess pg 91 := taps_Guess b_taps_Guess v_taps_Check
theorem b_taps_step : Body pg 117 9 [.tmp 2] ac_taps_step := ⟨Tryd.f117, Tryd.func117, by kernel_rfl, by kernel_rfl, by kernel_rfl, by kernel_rfl⟩
theorem v_taps_step : S_TStep pg 117 := taps_step b_taps_step
theorem b_taps_Learn : Body pg 110 53 [.cell 4 43, .tmp 5] (ac_taps_Learn 109 117 43) := ⟨Tryd.f110, Tryd.func110, by kernel_rfl, by kernel_rfl, by kernel_rfl, by kernel_rfl⟩
theorem v_taps_Learn : S_TLearn pg 110 := taps_Learn b_taps_Learn (show aggO Tryd.prog 43 = some (some 33) by kernel_rfl) v_taps_Check v_taps_step
theorem b_taps_Push : Body pg 111 22 [.cell 4 43, .tmp 5] (ac_taps_Push 109 43) := ⟨Tryd.f111, Tryd.func111, by kernel_rfl, by kernel_rfl, by kernel_rfl, by kernel_rfl⟩
theorem v_taps_Push : S_TPush pg 111 := taps_Push b_taps_Push (show aggO Tryd.prog 43 = some (some 33) by kernel_rfl) v_taps_Check
theorem b_lms_behind : Body pg 92 20 [.cell 6 43] (ac_lms_behind 110 111 43) := ⟨Tryd.f92, Tryd.func92, by kernel_rfl, by kernel_rfl, by kernel_rfl, by kernel_rfl⟩
theorem v_lms_behind : S_LBehind pg 92 := lms_behind b_lms_behind (show aggO Tryd.prog 43 = some (some 33) by kernel_rfl) v_taps_Learn v_taps_Push
theorem b_lms_Back : Body pg 68 27 [.tmp 4, .cell 5 43, .tmp 6] (ac_lms_Back 91 92 43) := ⟨Tryd.f68, Tryd.func68, by kernel_rfl, by kernel_rfl, by kernel_rfl, by kernel_rfl⟩
theorem v_lms_Back : S_LBack pg 68 := lms_Back b_lms_Back (show aggO Tryd.prog 43 = some (some 33) by kernel_rfl) v_taps_Guess v_lms_behind
theorem b_first_Shift : Body pg 89 10 [.tmp 2, .tmp 3] ac_first_Shift := ⟨Tryd.f89, Tryd.func89, by kernel_rfl, by kernel_rfl, by kernel_rfl, by kernel_rfl⟩
theorem v_first_Shift : S_FShift pg 89 := first_Shift b_first_Shift
theorem b_first_guess : Body pg 90 16 [.tmp 4] ac_first_guess := ⟨Tryd.f90, Tryd.func90, by kernel_rfl, by kernel_rfl, by kernel_rfl, by kernel_rfl⟩
theorem v_first_guess : S_Fguess pg 90 := first_guess b_first_guess
theorem b_first_Guess : Body pg 67 19 [.tmp 4, .tmp 5] (ac_first_Guess 89 90) := ⟨Tryd.f67, Tryd.func67, by kernel_rfl, by kernel_rfl, by kernel_rfl, by kernel_rfl⟩
theorem v_first_Guess : S_FGuess pg 67 := first_Guess b_first_Guess v_first_Shift v_first_guess
theorem b_chain_New : Body pg 15 21 [.cell 4 45, .tmp 5] (ac_chain_New 37 24 45 43) := ⟨Tryd.f15, Tryd.func15, by kernel_rfl, by kernel_rfl, by kernel_rfl, by kernel_rfl⟩
theorem v_chain_New : S_CNew pg 15 := chain_New b_chain_New (show aggO Tryd.prog 45 = some (some 35) by kernel_rfl) v_taps_New
theorem b_chain_Check : Body pg 66 24 [.tmp 2] (ac_chain_Check 37 45 43) := ⟨Tryd.f66, Tryd.func66, by kernel_rfl, by kernel_rfl, by kernel_rfl, by kernel_rfl⟩
theorem v_chain_Check : S_CCheck pg 66 := chain_Check b_chain_Check v_taps_New
theorem b_chain_Back : Body pg 39 46 [.tmp 4, .cell 5 45, .tmp 6] (ac_chain_Back 66 67 68 45 43) := ⟨Tryd.f39, Tryd.func39, by kernel_rfl, by kernel_rfl, by kernel_rfl, by kernel_rfl⟩
theorem v_chain_Back : S_CBack pg 39 := chain_Back b_chain_Back (show aggO Tryd.prog 45 = some (some 35) by kernel_rfl) v_chain_Check v_first_Guess v_lms_Back
theorem b_fold_Back : Body pg 16 11 [.tmp 2] ac_fold_Back := ⟨Tryd.f16, Tryd.func16, by kernel_rfl, by kernel_rfl, by kernel_rfl, by kernel_rfl⟩
theorem v_fold_Back : S_UBack pg 16 := fold_Back b_fold_Back
theorem b_slices_Clone_int32_int32 : Body pg 75 8 [.tmp 2] (ac_slices_Clone_int32_int32 21) := ⟨Tryd.f75, Tryd.func75, by kernel_rfl, by kernel_rfl, by kernel_rfl, by kernel_rfl⟩
theorem v_clone_i32 : S_CloneA 21 pg 75 := clone_i32 b_slices_Clone_int32_int32
theorem b_mix_check : Body pg 74 22 [.tmp 4] ac_mix_check := ⟨Tryd.f74, Tryd.func74, by kernel_rfl, by kernel_rfl, by kernel_rfl, by kernel_rfl⟩
theorem v_mix_check : S_MCheck pg 74 := mix_check b_mix_check
theorem b_cadenzaref13_Same : Body pg 10 26 [.tmp 4] ac_cadenzaref13_Same := ⟨Tryd.f10, Tryd.func10, by kernel_rfl, by kernel_rfl, by kernel_rfl, by kernel_rfl⟩
theorem v_ref13_Same : S_ISame pg 10 := ref13_Same b_cadenzaref13_Same
theorem b_mix_unmix : Body pg 76 40 [] ac_mix_unmix := ⟨Tryd.f76, Tryd.func76, by kernel_rfl, by kernel_rfl, by kernel_rfl, by kernel_rfl⟩
theorem v_mix_unmix : S_Unmix pg 76 := mix_unmix b_mix_unmix
theorem b_mix_Undo : Body pg 53 32 [.tmp 4, .tmp 5] (ac_mix_Undo 74 75 76) := ⟨Tryd.f53, Tryd.func53, by kernel_rfl, by kernel_rfl, by kernel_rfl, by kernel_rfl⟩
theorem v_mix_Undo : S_MixUndo pg 53 := mix_Undo b_mix_Undo v_mix_check v_clone_i32 v_mix_unmix
theorem b_deframe_samples : Body pg 28 84 [.tmp 6, .tmp 7] (ac_deframe_samples 15 16 39 53 54 23 24 105 45 21) := ⟨Tryd.f28, Tryd.func28, by kernel_rfl, by kernel_rfl, by kernel_rfl, by kernel_rfl⟩
theorem v_deframe_samples : S_DSam pg 28 := deframe_samples b_deframe_samples v_chain_New v_fold_Back v_chain_Back v_mix_Undo v_width_Check
theorem b_deframe_Samples : Body pg 11 34 [.tmp 6, .tmp 7] (ac_deframe_Samples 23 28 23 24) := ⟨Tryd.f11, Tryd.func11, by kernel_rfl, by kernel_rfl, by kernel_rfl, by kernel_rfl⟩
theorem v_deframe_Samples : S_DSamples pg 11 := deframe_Samples b_deframe_Samples v_enframe_Check v_deframe_samples
theorem b_crc32_table : Body pg 93 24 [.tmp 0] (ac_crc32_table 175) := ⟨Tryd.f93, Tryd.func93, by kernel_rfl, by kernel_rfl, by kernel_rfl, by kernel_rfl⟩
theorem v_crc32_table : S_table pg 93 := crc32_table b_crc32_table
theorem b_crc32_Next : Body pg 69 32 [.tmp 4, .tmp 5] (ac_crc32_Next 93) := ⟨Tryd.f69, Tryd.func69, by kernel_rfl, by kernel_rfl, by kernel_rfl, by kernel_rfl⟩
theorem v_crc32_Next : S_CNext pg 69 := crc32_Next b_crc32_Next v_crc32_table
theorem b_crc32_Sum : Body pg 45 16 [.tmp 2, .tmp 3] (ac_crc32_Sum 69) := ⟨Tryd.f45, Tryd.func45, by kernel_rfl, by kernel_rfl, by kernel_rfl, by kernel_rfl⟩
theorem v_crc32_Sum : S_CSum pg 45 := crc32_Sum b_crc32_Sum v_crc32_Next
theorem b_cadenzaref03_Step : Body pg 108 19 [.tmp 4] ac_cadenzaref03_Step := ⟨Tryd.f108, Tryd.func108, by kernel_rfl, by kernel_rfl, by kernel_rfl, by kernel_rfl⟩
theorem v_ref03_Step : S_Step pg 108 := ref03_Step b_cadenzaref03_Step
theorem b_cadenzaref03_Byte : Body pg 88 18 [.tmp 4] (ac_cadenzaref03_Byte 108) := ⟨Tryd.f88, Tryd.func88, by kernel_rfl, by kernel_rfl, by kernel_rfl, by kernel_rfl⟩
theorem v_ref03_Byte : S_Byte pg 88 := ref03_Byte b_cadenzaref03_Byte v_ref03_Step
theorem b_cadenzaref03_Behind : Body pg 65 19 [.tmp 4] (ac_cadenzaref03_Behind 88) := ⟨Tryd.f65, Tryd.func65, by kernel_rfl, by kernel_rfl, by kernel_rfl, by kernel_rfl⟩
theorem v_ref03_Behind : S_Behind3 pg 65 := ref03_Behind b_cadenzaref03_Behind v_ref03_Byte
theorem b_cadenzaref03_Of : Body pg 34 6 [.tmp 2] (ac_cadenzaref03_Of 65) := ⟨Tryd.f34, Tryd.func34, by kernel_rfl, by kernel_rfl, by kernel_rfl, by kernel_rfl⟩
theorem v_ref03_Of : S_COf pg 34 := ref03_Of b_cadenzaref03_Of v_ref03_Behind
theorem b_bits_Check : Body pg 51 40 [.tmp 2] (ac_bits_Check 66) := ⟨Tryd.f51, Tryd.func51, by kernel_rfl, by kernel_rfl, by kernel_rfl, by kernel_rfl⟩
theorem v_bits_Check : S_bCheck pg 51 := bits_Check b_bits_Check
theorem b_bits_get : Body pg 52 47 [.tmp 6] (ac_bits_get 66) := ⟨Tryd.f52, Tryd.func52, by kernel_rfl, by kernel_rfl, by kernel_rfl, by kernel_rfl⟩
theorem v_bits_get : S_bget pg 52 := bits_get b_bits_get
theorem b_bits_Get : Body pg 27 34 [.tmp 6, .tmp 7] (ac_bits_Get 51 52 66) := ⟨Tryd.f27, Tryd.func27, by kernel_rfl, by kernel_rfl, by kernel_rfl, by kernel_rfl⟩
theorem v_bits_Get : S_bGet pg 27 := bits_Get b_bits_Get v_bits_Check v_bits_get
theorem b_math_bits_TrailingZeros64 : Body pg 113 14 [.tmp 2] (ac_math_bits_TrailingZeros64 0) := ⟨Tryd.f113, Tryd.func113, by kernel_rfl, by kernel_rfl, by kernel_rfl, by kernel_rfl⟩
theorem v_bits_TZ : S_TZ pg 113 := bits_TZ b_math_bits_TrailingZeros64 (show pg.G.lookup 0 = some dbG by rfl)
theorem b_unary_Read_1 : Body pg 112 8 [.tmp 2] ac_unary_Read_1 := ⟨Tryd.f112, Tryd.func112, by kernel_rfl, by kernel_rfl, by kernel_rfl, by kernel_rfl⟩
theorem v_unary_take : S_take48 pg 112 := unary_take b_unary_Read_1
theorem b_unary_Read : Body pg 94 53 [.tmp 4, .tmp 5, .tmp 6] (ac_unary_Read 51 112 27 113 66 3) := ⟨Tryd.f94, Tryd.func94, by kernel_rfl, by kernel_rfl, by kernel_rfl, by kernel_rfl⟩
theorem v_unary_Read : S_uRead pg 94 := unary_Read b_unary_Read v_bits_Check v_unary_take v_bits_Get v_bits_TZ
theorem b_dual_Start : Body pg 48 2 [.cell 0 97] (ac_dual_Start 97) := ⟨Tryd.f48, Tryd.func48, by kernel_rfl, by kernel_rfl, by kernel_rfl, by kernel_rfl⟩
theorem v_dual_Start : S_Start pg 48 := dual_Start b_dual_Start (show aggO Tryd.prog 97 = some (some 4) by kernel_rfl)
theorem b_dual_Check : Body pg 71 26 [.tmp 2] (ac_dual_Check 97) := ⟨Tryd.f71, Tryd.func71, by kernel_rfl, by kernel_rfl, by kernel_rfl, by kernel_rfl⟩
theorem v_dual_Check : S_DCheck pg 71 := dual_Check b_dual_Check
theorem b_dual_level : Body pg 97 17 [.tmp 4, .tmp 5] (ac_dual_level 97) := ⟨Tryd.f97, Tryd.func97, by kernel_rfl, by kernel_rfl, by kernel_rfl, by kernel_rfl⟩
theorem v_dual_level : S_Level pg 97 := dual_level b_dual_level
theorem b_rice_escaped : Body pg 95 9 [.tmp 4] ac_rice_escaped := ⟨Tryd.f95, Tryd.func95, by kernel_rfl, by kernel_rfl, by kernel_rfl, by kernel_rfl⟩
theorem v_rice_esc : S_esc pg 95 := rice_esc b_rice_escaped
theorem b_rice_Read : Body pg 72 68 [.tmp 6, .tmp 7, .tmp 8] (ac_rice_Read 51 94 27 95 66) := ⟨Tryd.f72, Tryd.func72, by kernel_rfl, by kernel_rfl, by kernel_rfl, by kernel_rfl⟩
theorem v_rice_Read : S_rRead pg 72 := rice_Read b_rice_Read v_bits_Check v_unary_Read v_bits_Get v_rice_esc
theorem b_dual_Read : Body pg 50 86 [.tmp 6, .tmp 7, .cell 8 97, .tmp 9] (ac_dual_Read 51 71 27 72 73 66 97) := ⟨Tryd.f50, Tryd.func50, by kernel_rfl, by kernel_rfl, by kernel_rfl, by kernel_rfl⟩
theorem b_dual_learn : Body pg 73 36 [] (ac_dual_learn 96 97) := ⟨Tryd.f73, Tryd.func73, by kernel_rfl, by kernel_rfl, by kernel_rfl, by kernel_rfl⟩
theorem b_dual_learn_1 : Body pg 96 58 [] ac_dual_learn_1 := ⟨Tryd.f96, Tryd.func96, by kernel_rfl, by kernel_rfl, by kernel_rfl, by kernel_rfl⟩
theorem v_dual_Read : S_dRead pg 50 := dual_Read b_dual_Read v_bits_Check v_dual_Check v_bits_Get v_rice_Read b_dual_learn b_dual_learn_1 v_dual_level (show aggO Tryd.prog 97 = some (some 4) by kernel_rfl)
theorem b_slices_Clone_byte_byte : Body pg 47 8 [.tmp 2] (ac_slices_Clone_byte_byte 5) := ⟨Tryd.f47, Tryd.func47, by kernel_rfl, by kernel_rfl, by kernel_rfl, by kernel_rfl⟩
theorem v_slices_Clone : S_bytes_Clone pg 47 := slices_Clone b_slices_Clone_byte_byte
theorem b_bits_Of : Body pg 25 14 [.cell 2 66, .tmp 3] (ac_bits_Of 47 66) := ⟨Tryd.f25, Tryd.func25, by kernel_rfl, by kernel_rfl, by kernel_rfl, by kernel_rfl⟩
theorem v_bits_Of : S_bOf pg 25 := bits_Of b_bits_Of v_slices_Clone (show aggO Tryd.prog 66 = some (some 2) by kernel_rfl)
theorem b_bits_Cut : Body pg 49 46 [.cell 6 66, .tmp 7] (ac_bits_Cut 51 52 70 66) := ⟨Tryd.f49, Tryd.func49, by kernel_rfl, by kernel_rfl, by kernel_rfl, by kernel_rfl⟩
theorem b_bits_put : Body pg 70 75 [] (ac_bits_put 5) := ⟨Tryd.f70, Tryd.func70, by kernel_rfl, by kernel_rfl, by kernel_rfl, by kernel_rfl⟩
theorem v_bits_Cut : S_Cut pg 49 := bits_Cut b_bits_Cut v_bits_Check v_bits_get b_bits_put (show aggO Tryd.prog 66 = some (some 2) by kernel_rfl)
theorem b_cadenzaref20_Sealed : Body pg 12 22 [.tmp 2] (ac_cadenzaref20_Sealed 34 5) := ⟨Tryd.f12, Tryd.func12, by kernel_rfl, by kernel_rfl, by kernel_rfl, by kernel_rfl⟩
theorem v_ref20_Sealed : S_Sealed pg 12 := ref20_Sealed b_cadenzaref20_Sealed v_ref03_Of
theorem b_deframe_opened : Body pg 24 46 [.tmp 2, .tmp 3] (ac_deframe_opened 45 46) := ⟨Tryd.f24, Tryd.func24, by kernel_rfl, by kernel_rfl, by kernel_rfl, by kernel_rfl⟩
theorem v_deframe_opened : S_opened pg 24 := deframe_opened b_deframe_opened v_crc32_Sum v_le_Value
theorem b_deframe_values : Body pg 26 76 [.tmp 6, .tmp 7, .tmp 8] (ac_deframe_values 48 49 50 66 98 97 38) := ⟨Tryd.f26, Tryd.func26, by kernel_rfl, by kernel_rfl, by kernel_rfl, by kernel_rfl⟩
theorem v_deframe_values : S_dVals pg 26 := deframe_values b_deframe_values v_dual_Start v_bits_Cut v_dual_Read
theorem b_deframe_Decode : Body pg 8 87 [.tmp 8, .tmp 9] (ac_deframe_Decode 23 24 25 26 27 28 23 24 66) := ⟨Tryd.f8, Tryd.func8, by kernel_rfl, by kernel_rfl, by kernel_rfl, by kernel_rfl⟩
theorem v_deframe_Decode : S_Decode pg 8 := deframe_Decode b_deframe_Decode v_enframe_Check v_deframe_opened v_bits_Of v_deframe_values v_bits_Get v_deframe_samples
theorem b_cadenzalaw21_mono : Body pg 35 2 [.cell 0 23] (ac_cadenzalaw21_mono 23) := ⟨Tryd.f35, Tryd.func35, by kernel_rfl, by kernel_rfl, by kernel_rfl, by kernel_rfl⟩
theorem v_law21_mono : S_mono pg 35 := law21_mono b_cadenzalaw21_mono (show aggO Tryd.prog 23 = some (some 2) by kernel_rfl)
theorem b_cadenzalaw21_alive : Body pg 13 65 [.tmp 0] (ac_cadenzalaw21_alive 35 11 12 8 10 24 38 5 21) := ⟨Tryd.f13, Tryd.func13, by kernel_rfl, by kernel_rfl, by kernel_rfl, by kernel_rfl⟩
theorem v_law21_alive : S_alive21 pg 13 := law21_alive b_cadenzalaw21_alive v_law21_mono v_deframe_Samples v_ref20_Sealed v_deframe_Decode v_ref13_Same
theorem b_cadenzalaw21_DeframeNames : Body pg 4 242 [.tmp 0] (ac_cadenzalaw21_DeframeNames 11 8 12 13 10 24 23 38 5 21) := ⟨Tryd.f4, Tryd.func4, by kernel_rfl, by kernel_rfl, by kernel_rfl, by kernel_rfl⟩
theorem v_law21_DeframeNames : S_alive21 pg 4 := law21_DeframeNames b_cadenzalaw21_DeframeNames v_deframe_Samples v_deframe_Decode v_ref20_Sealed v_law21_alive v_ref13_Same

theorem own : ownKnob Tryd.prog.godebug = none := by kernel_rfl
theorem laid : laidOutB Tryd.prog = true := by kernel_rfl

set_option maxRecDepth 100000 in
theorem gok {W : World} (hl : laidMet Tryd.prog Rows.deframeNamesRow.laid W) : GOk pg.G (X0 W) := by
  intro q cs h
  have h1 : List.lookup q [(0, [.int .u8 0, .int .u8 1, .int .u8 56, .int .u8 2, .int .u8 57, .int .u8 49, .int .u8 28, .int .u8 3, .int .u8 61, .int .u8 58, .int .u8 42, .int .u8 50, .int .u8 38, .int .u8 29, .int .u8 17, .int .u8 4, .int .u8 62, .int .u8 47, .int .u8 59, .int .u8 36, .int .u8 45, .int .u8 43, .int .u8 51, .int .u8 22, .int .u8 53, .int .u8 39, .int .u8 33, .int .u8 30, .int .u8 24, .int .u8 18, .int .u8 12, .int .u8 5, .int .u8 63, .int .u8 55, .int .u8 48, .int .u8 27, .int .u8 60, .int .u8 41, .int .u8 37, .int .u8 16, .int .u8 46, .int .u8 35, .int .u8 44, .int .u8 21, .int .u8 52, .int .u8 32, .int .u8 23, .int .u8 11, .int .u8 54, .int .u8 26, .int .u8 40, .int .u8 15, .int .u8 34, .int .u8 20, .int .u8 31, .int .u8 10, .int .u8 25, .int .u8 14, .int .u8 19, .int .u8 9, .int .u8 13, .int .u8 8, .int .u8 7, .int .u8 6])] = some cs := h
  simp only [List.lookup] at h1
  split at h1
  · rename_i e
    obtain rfl := eq_of_beq e
    cases h1
    exact rep_tableB hl (name := "math/bits.deBruijn64tab") (k := .u8) [0, 1, 56, 2, 57, 49, 28, 3, 61, 58, 42, 50, 38, 29, 17, 4, 62, 47, 59, 36, 45, 43, 51, 22, 53, 39, 33, 30, 24, 18, 12, 5, 63, 55, 48, 27, 60, 41, 37, 16, 46, 35, 44, 21, 52, 32, 23, 11, 54, 26, 40, 15, 34, 20, 31, 10, 25, 14, 19, 9, 13, 8, 7, 6] (by kernel_rfl) (List.Mem.head _)
  cases h1

set_option maxRecDepth 100000 in
theorem contract (H : Type) (enc : TypeId × Value → H) (W : World) (base : Nat) (args : Array Value) (ds gs : List (DataW H)) (before : List MemPlace) (hlaid : laidMet Tryd.prog Rows.deframeNamesRow.laid W)
    (hval : ∀ (j : Nat) t v, Tryd.f4.params[j]? = some t → args[j]? = some v → Value.okWide Tryd.prog W .any base t v)
    (hW : DataW.Whole enc Tryd.prog Tryd.f4.params.toList Rows.deframeNamesSpec.vars false W args.toList ds gs before) :
    Calls Tryd.prog 4 args W fun e W' => ∃ v, e = .returned v ∧ Rows.deframeNamesSpec.post enc Tryd.prog Tryd.f4 false true false false W args v W' := by
  have hW' := hW
  obtain ⟨p, q, hA0, hV, rfl, hfz, hnd⟩ := hW
  have hA : DataW.TrodAll enc Tryd.prog W 0 (fun _ => true) true Tryd.f4.params.toList args.toList ds p := hA0
  rw [Tryd.params4] at hA hval
  obtain ⟨hargs, rfl, rfl⟩ := trodAll_nil hA
  obtain rfl : args = #[] := by cases args; simp_all
  obtain ⟨rfl, rfl⟩ := trodVars_none hV
  refine (calls_true (P := pg) (v_law21_DeframeNames) (gok hlaid) (args := #[]) (by simp only [RepL])).mono fun e W' ⟨he, hb⟩ => ?_
  subst he
  exact ⟨_, rfl, post_true laid (by kernel_rfl) (by rfl) (by kernel_rfl) rfl ⟨rfl, rfl, rfl⟩ hW' hb⟩

noncomputable def low : Nat := (World.holding Tryd.prog default ⟨#[], #[], []⟩).heap.size
/-- A world in which the listed variables lie as the text lays them. -/
noncomputable def laidWorld (os : Os) : World :=
  let w0 := World.holding Tryd.prog os ⟨#[], #[], []⟩
  { w0 with heap := (w0.heap.modify 0 fun
      | .cells _ t frozen => .cells #[.int .u8 0, .int .u8 1, .int .u8 56, .int .u8 2, .int .u8 57, .int .u8 49, .int .u8 28, .int .u8 3, .int .u8 61, .int .u8 58, .int .u8 42, .int .u8 50, .int .u8 38, .int .u8 29, .int .u8 17, .int .u8 4, .int .u8 62, .int .u8 47, .int .u8 59, .int .u8 36, .int .u8 45, .int .u8 43, .int .u8 51, .int .u8 22, .int .u8 53, .int .u8 39, .int .u8 33, .int .u8 30, .int .u8 24, .int .u8 18, .int .u8 12, .int .u8 5, .int .u8 63, .int .u8 55, .int .u8 48, .int .u8 27, .int .u8 60, .int .u8 41, .int .u8 37, .int .u8 16, .int .u8 46, .int .u8 35, .int .u8 44, .int .u8 21, .int .u8 52, .int .u8 32, .int .u8 23, .int .u8 11, .int .u8 54, .int .u8 26, .int .u8 40, .int .u8 15, .int .u8 34, .int .u8 20, .int .u8 31, .int .u8 10, .int .u8 25, .int .u8 14, .int .u8 19, .int .u8 9, .int .u8 13, .int .u8 8, .int .u8 7, .int .u8 6] t frozen
      | o => o) }
theorem laidWorld_met (os : Os) (args : Array Value) : laidMet Tryd.prog Rows.deframeNamesRow.laid ((laidWorld os).forCall (fun _ _ => 0) ⟨#[], args, []⟩).memory :=
  laidMet_of_run' 8 (by kernel_rfl) (by kernel_rfl)

set_option maxRecDepth 100000 in
theorem lifted (os : Os) (started : os.Started) (H : Type) (enc : TypeId × Value → H) :
    ReturnsInHanded {} Tryd.checked os 4 .any (fun w args => (Rows.deframeNamesSpec.pre enc Tryd.prog Tryd.f4 [] false w args ∧ laidMet Tryd.prog Rows.deframeNamesRow.laid w) ∧ sizedMet enc Tryd.prog Tryd.f4 (OpenSpec.ofChange Rows.deframeNamesSpec) false w args)
      (Rows.deframeNamesSpec.post enc Tryd.prog Tryd.f4 false true false false) := by
  refine returnsInHanded_of_change_and (C := Tryd.checked) (X := fun w _ => laidMet Tryd.prog Rows.deframeNamesRow.laid w) (fun _ _ _ hh h => h.of_heap hh) own started (by kernel_rfl) Tryd.func4
    (ChangeSpec.witness_at (enc := enc) (C := Tryd.checked) (os := os) (X := fun w _ => laidMet Tryd.prog Rows.deframeNamesRow.laid w) false (laidWorld os) #[] 8 rfl (by kernel_rfl) (by kernel_rfl) (by kernel_rfl) (by kernel_rfl) (by kernel_rfl) (laidWorld_met os _)) ?_
  intro W base args ds gs before hval hW _ _ hL _
  exact contract H enc W base args ds gs before hL hval hW

theorem row_holds : Rows.DeframeNamesSaid :=
  OpenClaim.holds_of_wide 4 Tryd.f4 rfl rfl rfl rfl rfl rfl rfl ⟨rfl, rfl, rfl, rfl, rfl⟩ rfl rfl rfl rfl rfl (by kernel_rfl) Tryd.func4 (by kernel_rfl)
    (of_decide_eq_true (by kernel_rfl)) (by unfold Func.isWrapper; first | (rw [if_pos (by decide +kernel)]; kernel_rfl) | (rw [if_neg (by decide +kernel)]; exact ⟨rfl, rfl⟩))
    (fun os started H enc _ => lifted os started H enc)

theorem proved : Rows.DeframeNamesCardSaid :=
  Claim7.holds_tied_plain_at .later [] [.data] true (true, "c02e30db045fbaae7133e8d8451fa5b8ecf79198cd8da3debd1b7345cd7c3d46") false
    row_holds (fun _ h => by cases h) (by kernel_rfl) (fun _ h => by cases h) deframeNames_row_tie rfl ⟨rfl, rfl⟩ (by kernel_rfl) rfl
    (fun f fn hf hfn => by
      obtain rfl : f = 4 := Option.some.inj ((show Tryd.prog.funcNamed Rows.deframeNamesRow.func = some 4 by kernel_rfl).symm.trans hf) |>.symm
      obtain rfl : fn = Tryd.f4 := (Option.some.inj (Tryd.func4.symm.trans hfn)).symm
      exact ⟨by kernel_rfl, fun j t ht => by
        have hall : (Tryd.f4.params.toList.all fun t => !Tryd.prog.wantsStandIn t) = true := by kernel_rfl
        have hm : t ∈ Tryd.f4.params.toList := by simpa using Array.mem_of_getElem? ht
        have h2 : Tryd.prog.wantsStandIn t = false := by simpa using List.all_eq_true.1 hall t hm
        exact h2⟩)
    (by kernel_rfl)

end Go.Proofs.YtkngajpinabacaaDoor.deframeNames

/- For every shape, tap list, number of moments and list of bytes cadenzalaw23.VerdictJudges returns true and leaves its arguments as they were. No conditions. -/
import Derived.Test.YtkngajpinabacaaGreatDoorRows
import Derived.Test.YtkngajpinabacaaGreatDoorCards
import Derived.Test.YtkngajpinabacaaGreatDoorTie
import Derived.Test.YtkngajpinabacaaGreatDoorVerdictJudgesL3
import Derived.ChangeSame
import Derived.ChangeVars
import Derived.JoinedOf
import Derived.RowKit
import Derived.RowKitTokens
import Derived.LaidLaws
import Derived.Stop.Joined
import Derived.SevenTiedAt
set_option linter.unusedSectionVars false
set_option linter.unusedSimpArgs false
set_option linter.unusedVariables false
namespace Go.Proofs.YtkngajpinabacaaGreatDoor.verdictJudges
open Go.Am Go.ChangeShapes Go.WideShapes Go.ChangeAt Go.RowKit

noncomputable def pg : Prg := ⟨Tryz.prog, [(0, [.int .u8 0, .int .u8 1, .int .u8 56, .int .u8 2, .int .u8 57, .int .u8 49, .int .u8 28, .int .u8 3, .int .u8 61, .int .u8 58, .int .u8 42, .int .u8 50, .int .u8 38, .int .u8 29, .int .u8 17, .int .u8 4, .int .u8 62, .int .u8 47, .int .u8 59, .int .u8 36, .int .u8 45, .int .u8 43, .int .u8 51, .int .u8 22, .int .u8 53, .int .u8 39, .int .u8 33, .int .u8 30, .int .u8 24, .int .u8 18, .int .u8 12, .int .u8 5, .int .u8 63, .int .u8 55, .int .u8 48, .int .u8 27, .int .u8 60, .int .u8 41, .int .u8 37, .int .u8 16, .int .u8 46, .int .u8 35, .int .u8 44, .int .u8 21, .int .u8 52, .int .u8 32, .int .u8 23, .int .u8 11, .int .u8 54, .int .u8 26, .int .u8 40, .int .u8 15, .int .u8 34, .int .u8 20, .int .u8 31, .int .u8 10, .int .u8 25, .int .u8 14, .int .u8 19, .int .u8 9, .int .u8 13, .int .u8 8, .int .u8 7, .int .u8 6])], fun g cs h => by
  simp only [List.lookup] at h
  repeat (first | (cases h; done) | (split at h; first | (cases h; rfl) | skip))⟩

theorem b_le_Value : Body pg 33 31 [.tmp 2, .tmp 3] ac_le_Value := ⟨Tryz.f33, Tryz.func33, by kernel_rfl, by kernel_rfl, by kernel_rfl, by kernel_rfl⟩
theorem v_le_Value : S_le_Value pg 33 := le_Value b_le_Value
theorem b_width_Range : Body pg 40 18 [.tmp 2, .tmp 3, .tmp 4] ac_width_Range := ⟨Tryz.f40, Tryz.func40, by kernel_rfl, by kernel_rfl, by kernel_rfl, by kernel_rfl⟩
theorem v_width_Range : S_Range pg 40 := width_Range b_width_Range
theorem b_cadenzaref18_Half : Body pg 41 10 [.tmp 2] ac_cadenzaref18_Half := ⟨Tryz.f41, Tryz.func41, by kernel_rfl, by kernel_rfl, by kernel_rfl, by kernel_rfl⟩
theorem v_ref18_Half : S_Half pg 41 := ref18_Half b_cadenzaref18_Half
theorem b_width_Check : Body pg 49 37 [.tmp 4] (ac_width_Check 40) := ⟨Tryz.f49, Tryz.func49, by kernel_rfl, by kernel_rfl, by kernel_rfl, by kernel_rfl⟩
theorem v_width_Check : S_WCheck pg 49 := width_Check b_width_Check v_width_Range
theorem b_cadenzaref18_Check : Body pg 39 37 [.tmp 4] (ac_cadenzaref18_Check 41) := ⟨Tryz.f39, Tryz.func39, by kernel_rfl, by kernel_rfl, by kernel_rfl, by kernel_rfl⟩
theorem v_ref18_Check : S_WCheck pg 39 := ref18_Check b_cadenzaref18_Check v_ref18_Half
theorem b_enframe_Check : Body pg 22 25 [.tmp 2] (ac_enframe_Check 40 23) := ⟨Tryz.f22, Tryz.func22, by kernel_rfl, by kernel_rfl, by kernel_rfl, by kernel_rfl⟩
theorem v_enframe_Check : S_ECheck pg 22 := enframe_Check b_enframe_Check v_width_Range
theorem b_cadenzaref20_Check : Body pg 23 17 [.tmp 2] (ac_cadenzaref20_Check 41 23) := ⟨Tryz.f23, Tryz.func23, by kernel_rfl, by kernel_rfl, by kernel_rfl, by kernel_rfl⟩
theorem v_ref20_Check : S_ECheck pg 23 := ref20_Check b_cadenzaref20_Check v_ref18_Half
theorem b_taps_New : Body pg 65 18 [.cell 4 91, .tmp 5] (ac_taps_New 24 91) := ⟨Tryz.f65, Tryz.func65, by kernel_rfl, by kernel_rfl, by kernel_rfl, by kernel_rfl⟩
theorem v_taps_New : S_TNew pg 65 := taps_New b_taps_New (show aggO Tryz.prog 91 = some (some 33) by kernel_rfl)
theorem b_taps_Check : Body pg 106 11 [.tmp 2] (ac_taps_Check 91) := ⟨Tryz.f106, Tryz.func106, by kernel_rfl, by kernel_rfl, by kernel_rfl, by kernel_rfl⟩
theorem v_taps_Check : S_TCheck pg 106 := taps_Check b_taps_Check
theorem b_taps_Guess : Body pg 91 36 [.tmp 2, .tmp 3] (ac_taps_Guess 106 91) := ⟨Tryz.f91, Tryz.func91, by kernel_rfl, by kernel_rfl, by kernel_rfl, by kernel_rfl⟩
theorem v_taps_Guess : S_TGuess pg 91 := taps_Guess b_taps_Guess v_taps_Check
theorem b_taps_step : Body pg 113 9 [.tmp 2] ac_taps_step := ⟨Tryz.f113, Tryz.func113, by kernel_rfl, by kernel_rfl, by kernel_rfl, by kernel_rfl⟩
theorem v_taps_step : S_TStep pg 113 := taps_step b_taps_step
theorem b_taps_Learn : Body pg 107 53 [.cell 4 91, .tmp 5] (ac_taps_Learn 106 113 91) := ⟨Tryz.f107, Tryz.func107, by kernel_rfl, by kernel_rfl, by kernel_rfl, by kernel_rfl⟩
theorem v_taps_Learn : S_TLearn pg 107 := taps_Learn b_taps_Learn (show aggO Tryz.prog 91 = some (some 33) by kernel_rfl) v_taps_Check v_taps_step
theorem b_taps_Push : Body pg 108 22 [.cell 4 91, .tmp 5] (ac_taps_Push 106 91) := ⟨Tryz.f108, Tryz.func108, by kernel_rfl, by kernel_rfl, by kernel_rfl, by kernel_rfl⟩
theorem v_taps_Push : S_TPush pg 108 := taps_Push b_taps_Push (show aggO Tryz.prog 91 = some (some 33) by kernel_rfl) v_taps_Check
theorem b_lms_behind : Body pg 92 20 [.cell 6 91] (ac_lms_behind 107 108 91) := ⟨Tryz.f92, Tryz.func92, by kernel_rfl, by kernel_rfl, by kernel_rfl, by kernel_rfl⟩
theorem v_lms_behind : S_LBehind pg 92 := lms_behind b_lms_behind (show aggO Tryz.prog 91 = some (some 33) by kernel_rfl) v_taps_Learn v_taps_Push
theorem b_lms_Back : Body pg 68 27 [.tmp 4, .cell 5 91, .tmp 6] (ac_lms_Back 91 92 91) := ⟨Tryz.f68, Tryz.func68, by kernel_rfl, by kernel_rfl, by kernel_rfl, by kernel_rfl⟩
theorem v_lms_Back : S_LBack pg 68 := lms_Back b_lms_Back (show aggO Tryz.prog 91 = some (some 33) by kernel_rfl) v_taps_Guess v_lms_behind
theorem b_first_Shift : Body pg 89 10 [.tmp 2, .tmp 3] ac_first_Shift := ⟨Tryz.f89, Tryz.func89, by kernel_rfl, by kernel_rfl, by kernel_rfl, by kernel_rfl⟩
theorem v_first_Shift : S_FShift pg 89 := first_Shift b_first_Shift
theorem b_first_guess : Body pg 90 16 [.tmp 4] ac_first_guess := ⟨Tryz.f90, Tryz.func90, by kernel_rfl, by kernel_rfl, by kernel_rfl, by kernel_rfl⟩
theorem v_first_guess : S_Fguess pg 90 := first_guess b_first_guess
theorem b_first_Guess : Body pg 67 19 [.tmp 4, .tmp 5] (ac_first_Guess 89 90) := ⟨Tryz.f67, Tryz.func67, by kernel_rfl, by kernel_rfl, by kernel_rfl, by kernel_rfl⟩
theorem v_first_Guess : S_FGuess pg 67 := first_Guess b_first_Guess v_first_Shift v_first_guess
theorem b_chain_New : Body pg 45 21 [.cell 4 93, .tmp 5] (ac_chain_New 65 24 93 91) := ⟨Tryz.f45, Tryz.func45, by kernel_rfl, by kernel_rfl, by kernel_rfl, by kernel_rfl⟩
theorem v_chain_New : S_CNew pg 45 := chain_New b_chain_New (show aggO Tryz.prog 93 = some (some 35) by kernel_rfl) v_taps_New
theorem b_chain_Check : Body pg 66 24 [.tmp 2] (ac_chain_Check 65 93 91) := ⟨Tryz.f66, Tryz.func66, by kernel_rfl, by kernel_rfl, by kernel_rfl, by kernel_rfl⟩
theorem v_chain_Check : S_CCheck pg 66 := chain_Check b_chain_Check v_taps_New
theorem b_chain_Back : Body pg 46 46 [.tmp 4, .cell 5 93, .tmp 6] (ac_chain_Back 66 67 68 93 91) := ⟨Tryz.f46, Tryz.func46, by kernel_rfl, by kernel_rfl, by kernel_rfl, by kernel_rfl⟩
theorem v_chain_Back : S_CBack pg 46 := chain_Back b_chain_Back (show aggO Tryz.prog 93 = some (some 35) by kernel_rfl) v_chain_Check v_first_Guess v_lms_Back
theorem b_cadenzaref13_Wrap : Body pg 79 7 [.tmp 2] ac_cadenzaref13_Wrap := ⟨Tryz.f79, Tryz.func79, by kernel_rfl, by kernel_rfl, by kernel_rfl, by kernel_rfl⟩
theorem v_ref13_Wrap : S_Wrap pg 79 := ref13_Wrap b_cadenzaref13_Wrap
theorem b_cadenzaref13_Behind : Body pg 102 26 [.tmp 4] ac_cadenzaref13_Behind := ⟨Tryz.f102, Tryz.func102, by kernel_rfl, by kernel_rfl, by kernel_rfl, by kernel_rfl⟩
theorem v_ref13_Behind : S_Behind pg 102 := ref13_Behind b_cadenzaref13_Behind
theorem b_cadenzaref13_Shift : Body pg 98 12 [.tmp 2, .tmp 3] ac_cadenzaref13_Shift := ⟨Tryz.f98, Tryz.func98, by kernel_rfl, by kernel_rfl, by kernel_rfl, by kernel_rfl⟩
theorem v_ref13_Shift : S_Shift13 pg 98 := ref13_Shift b_cadenzaref13_Shift
theorem b_cadenzaref14_Step : Body pg 110 7 [.tmp 2] ac_cadenzaref14_Step := ⟨Tryz.f110, Tryz.func110, by kernel_rfl, by kernel_rfl, by kernel_rfl, by kernel_rfl⟩
theorem v_ref14_Step : S_R14Step pg 110 := ref14_Step b_cadenzaref14_Step
theorem b_cadenzaref14_Sign : Body pg 111 7 [.tmp 2] ac_cadenzaref14_Sign := ⟨Tryz.f111, Tryz.func111, by kernel_rfl, by kernel_rfl, by kernel_rfl, by kernel_rfl⟩
theorem v_ref14_Sign : S_Sign pg 111 := ref14_Sign b_cadenzaref14_Sign
theorem b_cadenzaref14_Sum : Body pg 109 28 [.tmp 2] (ac_cadenzaref14_Sum 79 91) := ⟨Tryz.f109, Tryz.func109, by kernel_rfl, by kernel_rfl, by kernel_rfl, by kernel_rfl⟩
theorem v_ref14_Sum : S_RSum pg 109 := ref14_Sum b_cadenzaref14_Sum v_ref13_Wrap
theorem b_cadenzaref14_Told : Body pg 99 28 [.tmp 2] (ac_cadenzaref14_Told 109 79 91) := ⟨Tryz.f99, Tryz.func99, by kernel_rfl, by kernel_rfl, by kernel_rfl, by kernel_rfl⟩
theorem v_ref14_Told : S_RTold pg 99 := ref14_Told b_cadenzaref14_Told v_ref14_Sum v_ref13_Wrap
theorem b_cadenzaref14_Learned : Body pg 101 29 [.cell 4 91] (ac_cadenzaref14_Learned 110 111 91) := ⟨Tryz.f101, Tryz.func101, by kernel_rfl, by kernel_rfl, by kernel_rfl, by kernel_rfl⟩
theorem v_ref14_Learned : S_RLearned pg 101 := ref14_Learned b_cadenzaref14_Learned (show aggO Tryz.prog 91 = some (some 33) by kernel_rfl) v_ref14_Step v_ref14_Sign
theorem b_cadenzaref14_Pushed : Body pg 100 22 [.cell 4 91] (ac_cadenzaref14_Pushed 91) := ⟨Tryz.f100, Tryz.func100, by kernel_rfl, by kernel_rfl, by kernel_rfl, by kernel_rfl⟩
theorem v_ref14_Pushed : S_RPushed pg 100 := ref14_Pushed b_cadenzaref14_Pushed (show aggO Tryz.prog 91 = some (some 33) by kernel_rfl)
theorem b_cadenzaref15_Stepped : Body pg 78 20 [.tmp 4, .cell 5 91] (ac_cadenzaref15_Stepped 99 79 101 100 91) := ⟨Tryz.f78, Tryz.func78, by kernel_rfl, by kernel_rfl, by kernel_rfl, by kernel_rfl⟩
theorem v_ref15_Stepped : S_RStepped15 pg 78 := ref15_Stepped b_cadenzaref15_Stepped (show aggO Tryz.prog 91 = some (some 33) by kernel_rfl) v_ref14_Told v_ref13_Wrap v_ref14_Learned v_ref14_Pushed
theorem b_cadenzaref19_behind : Body pg 80 12 [.tmp 2] (ac_cadenzaref19_behind 102 93) := ⟨Tryz.f80, Tryz.func80, by kernel_rfl, by kernel_rfl, by kernel_rfl, by kernel_rfl⟩
theorem v_ref19_behind : S_RBehind19 pg 80 := ref19_behind b_cadenzaref19_behind v_ref13_Behind
theorem b_cadenzaref19_Stepped : Body pg 56 28 [.tmp 4, .cell 5 93] (ac_cadenzaref19_Stepped 78 80 79 93 91) := ⟨Tryz.f56, Tryz.func56, by kernel_rfl, by kernel_rfl, by kernel_rfl, by kernel_rfl⟩
theorem v_ref19_Stepped : S_RStepped19 pg 56 := ref19_Stepped b_cadenzaref19_Stepped (show aggO Tryz.prog 93 = some (some 35) by kernel_rfl) v_ref15_Stepped v_ref19_behind v_ref13_Wrap
theorem b_cadenzaref14_New : Body pg 77 22 [.cell 4 91, .tmp 5] (ac_cadenzaref14_New 98 24 91) := ⟨Tryz.f77, Tryz.func77, by kernel_rfl, by kernel_rfl, by kernel_rfl, by kernel_rfl⟩
theorem v_ref14_New : S_TNew pg 77 := ref14_New b_cadenzaref14_New (show aggO Tryz.prog 91 = some (some 33) by kernel_rfl) v_ref13_Shift
theorem b_cadenzaref19_New : Body pg 55 20 [.cell 4 93, .tmp 5] (ac_cadenzaref19_New 77 24 93 91) := ⟨Tryz.f55, Tryz.func55, by kernel_rfl, by kernel_rfl, by kernel_rfl, by kernel_rfl⟩
theorem v_ref19_New : S_CNew pg 55 := ref19_New b_cadenzaref19_New (show aggO Tryz.prog 93 = some (some 35) by kernel_rfl) v_ref14_New
theorem b_fold_Back : Body pg 47 11 [.tmp 2] ac_fold_Back := ⟨Tryz.f47, Tryz.func47, by kernel_rfl, by kernel_rfl, by kernel_rfl, by kernel_rfl⟩
theorem v_fold_Back : S_UBack pg 47 := fold_Back b_fold_Back
theorem b_cadenzaref05_Back : Body pg 57 15 [.tmp 2] ac_cadenzaref05_Back := ⟨Tryz.f57, Tryz.func57, by kernel_rfl, by kernel_rfl, by kernel_rfl, by kernel_rfl⟩
theorem v_ref05_Back : S_UBack pg 57 := ref05_Back b_cadenzaref05_Back
theorem b_slices_Clone_int32_int32 : Body pg 70 8 [.tmp 2] (ac_slices_Clone_int32_int32 21) := ⟨Tryz.f70, Tryz.func70, by kernel_rfl, by kernel_rfl, by kernel_rfl, by kernel_rfl⟩
theorem v_clone_i32 : S_CloneA 21 pg 70 := clone_i32 b_slices_Clone_int32_int32
theorem b_mix_check : Body pg 69 22 [.tmp 4] ac_mix_check := ⟨Tryz.f69, Tryz.func69, by kernel_rfl, by kernel_rfl, by kernel_rfl, by kernel_rfl⟩
theorem v_mix_check : S_MCheck pg 69 := mix_check b_mix_check
theorem b_cadenzaref17_Check : Body pg 81 19 [.tmp 4] ac_cadenzaref17_Check := ⟨Tryz.f81, Tryz.func81, by kernel_rfl, by kernel_rfl, by kernel_rfl, by kernel_rfl⟩
theorem v_ref17_Check : S_MCheck pg 81 := ref17_Check b_cadenzaref17_Check
theorem b_mix_unmix : Body pg 71 40 [] ac_mix_unmix := ⟨Tryz.f71, Tryz.func71, by kernel_rfl, by kernel_rfl, by kernel_rfl, by kernel_rfl⟩
theorem v_mix_unmix : S_Unmix pg 71 := mix_unmix b_mix_unmix
theorem b_mix_Undo : Body pg 48 32 [.tmp 4, .tmp 5] (ac_mix_Undo 69 70 71) := ⟨Tryz.f48, Tryz.func48, by kernel_rfl, by kernel_rfl, by kernel_rfl, by kernel_rfl⟩
theorem v_mix_Undo : S_MixUndo pg 48 := mix_Undo b_mix_Undo v_mix_check v_clone_i32 v_mix_unmix
theorem b_cadenzaref17_Unmixed : Body pg 82 63 [.tmp 2] (ac_cadenzaref17_Unmixed 79 21) := ⟨Tryz.f82, Tryz.func82, by kernel_rfl, by kernel_rfl, by kernel_rfl, by kernel_rfl⟩
theorem v_ref17_Unmixed : S_RUnmixed pg 82 := ref17_Unmixed b_cadenzaref17_Unmixed v_ref13_Wrap
theorem b_cadenzaref17_Undo : Body pg 58 32 [.tmp 4, .tmp 5] (ac_cadenzaref17_Undo 81 82 21) := ⟨Tryz.f58, Tryz.func58, by kernel_rfl, by kernel_rfl, by kernel_rfl, by kernel_rfl⟩
theorem v_ref17_Undo : S_MixUndo pg 58 := ref17_Undo b_cadenzaref17_Undo v_ref17_Check v_ref17_Unmixed
theorem b_deframe_samples : Body pg 28 84 [.tmp 6, .tmp 7] (ac_deframe_samples 45 47 46 48 49 23 24 94 93 21) := ⟨Tryz.f28, Tryz.func28, by kernel_rfl, by kernel_rfl, by kernel_rfl, by kernel_rfl⟩
theorem v_deframe_samples : S_DSam pg 28 := deframe_samples b_deframe_samples v_chain_New v_fold_Back v_chain_Back v_mix_Undo v_width_Check
theorem b_cadenzaref21_Undone : Body pg 31 64 [.tmp 6] (ac_cadenzaref21_Undone 55 57 56 58 23 24 21 93) := ⟨Tryz.f31, Tryz.func31, by kernel_rfl, by kernel_rfl, by kernel_rfl, by kernel_rfl⟩
theorem v_ref21_Undone : S_RUndone pg 31 := ref21_Undone b_cadenzaref21_Undone v_ref19_New v_ref05_Back v_ref19_Stepped v_ref17_Undo
theorem b_cadenzaref21_ranged : Body pg 30 15 [.tmp 4, .tmp 5] (ac_cadenzaref21_ranged 39 23) := ⟨Tryz.f30, Tryz.func30, by kernel_rfl, by kernel_rfl, by kernel_rfl, by kernel_rfl⟩
theorem v_ref21_ranged : S_Ranged pg 30 := ref21_ranged b_cadenzaref21_ranged v_ref18_Check
theorem b_deframe_Samples : Body pg 34 34 [.tmp 6, .tmp 7] (ac_deframe_Samples 22 28 23 24) := ⟨Tryz.f34, Tryz.func34, by kernel_rfl, by kernel_rfl, by kernel_rfl, by kernel_rfl⟩
theorem v_deframe_Samples : S_DSamples pg 34 := deframe_Samples b_deframe_Samples v_enframe_Check v_deframe_samples
theorem b_cadenzaref21_Asked : Body pg 14 19 [.tmp 4] (ac_cadenzaref21_Asked 23 23) := ⟨Tryz.f14, Tryz.func14, by kernel_rfl, by kernel_rfl, by kernel_rfl, by kernel_rfl⟩
theorem v_ref21_Asked : S_Ask21 pg 14 := ref21_Asked b_cadenzaref21_Asked v_ref20_Check
theorem b_crc32_table : Body pg 83 24 [.tmp 0] (ac_crc32_table 168) := ⟨Tryz.f83, Tryz.func83, by kernel_rfl, by kernel_rfl, by kernel_rfl, by kernel_rfl⟩
theorem v_crc32_table : S_table pg 83 := crc32_table b_crc32_table
theorem b_crc32_Next : Body pg 59 32 [.tmp 4, .tmp 5] (ac_crc32_Next 83) := ⟨Tryz.f59, Tryz.func59, by kernel_rfl, by kernel_rfl, by kernel_rfl, by kernel_rfl⟩
theorem v_crc32_Next : S_CNext pg 59 := crc32_Next b_crc32_Next v_crc32_table
theorem b_crc32_Sum : Body pg 32 16 [.tmp 2, .tmp 3] (ac_crc32_Sum 59) := ⟨Tryz.f32, Tryz.func32, by kernel_rfl, by kernel_rfl, by kernel_rfl, by kernel_rfl⟩
theorem v_crc32_Sum : S_CSum pg 32 := crc32_Sum b_crc32_Sum v_crc32_Next
theorem b_cadenzaref03_Step : Body pg 112 19 [.tmp 4] ac_cadenzaref03_Step := ⟨Tryz.f112, Tryz.func112, by kernel_rfl, by kernel_rfl, by kernel_rfl, by kernel_rfl⟩
theorem v_ref03_Step : S_Step pg 112 := ref03_Step b_cadenzaref03_Step
theorem b_cadenzaref03_Byte : Body pg 105 18 [.tmp 4] (ac_cadenzaref03_Byte 112) := ⟨Tryz.f105, Tryz.func105, by kernel_rfl, by kernel_rfl, by kernel_rfl, by kernel_rfl⟩
theorem v_ref03_Byte : S_Byte pg 105 := ref03_Byte b_cadenzaref03_Byte v_ref03_Step
theorem b_cadenzaref03_Behind : Body pg 88 19 [.tmp 4] (ac_cadenzaref03_Behind 105) := ⟨Tryz.f88, Tryz.func88, by kernel_rfl, by kernel_rfl, by kernel_rfl, by kernel_rfl⟩
theorem v_ref03_Behind : S_Behind3 pg 88 := ref03_Behind b_cadenzaref03_Behind v_ref03_Byte
theorem b_cadenzaref03_Of : Body pg 64 6 [.tmp 2] (ac_cadenzaref03_Of 88) := ⟨Tryz.f64, Tryz.func64, by kernel_rfl, by kernel_rfl, by kernel_rfl, by kernel_rfl⟩
theorem v_ref03_Of : S_COf pg 64 := ref03_Of b_cadenzaref03_Of v_ref03_Behind
theorem b_bits_Check : Body pg 43 40 [.tmp 2] (ac_bits_Check 59) := ⟨Tryz.f43, Tryz.func43, by kernel_rfl, by kernel_rfl, by kernel_rfl, by kernel_rfl⟩
theorem v_bits_Check : S_bCheck pg 43 := bits_Check b_bits_Check
theorem b_bits_get : Body pg 44 47 [.tmp 6] (ac_bits_get 59) := ⟨Tryz.f44, Tryz.func44, by kernel_rfl, by kernel_rfl, by kernel_rfl, by kernel_rfl⟩
theorem v_bits_get : S_bget pg 44 := bits_get b_bits_get
theorem b_bits_Get : Body pg 27 34 [.tmp 6, .tmp 7] (ac_bits_Get 43 44 59) := ⟨Tryz.f27, Tryz.func27, by kernel_rfl, by kernel_rfl, by kernel_rfl, by kernel_rfl⟩
theorem v_bits_Get : S_bGet pg 27 := bits_Get b_bits_Get v_bits_Check v_bits_get
theorem b_cadenzaref02_At : Body pg 54 24 [.tmp 4] (ac_cadenzaref02_At 59) := ⟨Tryz.f54, Tryz.func54, by kernel_rfl, by kernel_rfl, by kernel_rfl, by kernel_rfl⟩
theorem v_ref02_At : S_At2 pg 54 := ref02_At b_cadenzaref02_At
theorem b_cadenzaref02_Value : Body pg 74 25 [.tmp 6] (ac_cadenzaref02_Value 54 59) := ⟨Tryz.f74, Tryz.func74, by kernel_rfl, by kernel_rfl, by kernel_rfl, by kernel_rfl⟩
theorem v_ref02_Value : S_Value2 pg 74 := ref02_Value b_cadenzaref02_Value v_ref02_At
theorem b_math_bits_TrailingZeros64 : Body pg 104 14 [.tmp 2] (ac_math_bits_TrailingZeros64 0) := ⟨Tryz.f104, Tryz.func104, by kernel_rfl, by kernel_rfl, by kernel_rfl, by kernel_rfl⟩
theorem v_bits_TZ : S_TZ pg 104 := bits_TZ b_math_bits_TrailingZeros64 (show pg.G.lookup 0 = some dbG by rfl)
theorem b_unary_Read_1 : Body pg 103 8 [.tmp 2] ac_unary_Read_1 := ⟨Tryz.f103, Tryz.func103, by kernel_rfl, by kernel_rfl, by kernel_rfl, by kernel_rfl⟩
theorem v_unary_take : S_take48 pg 103 := unary_take b_unary_Read_1
theorem b_unary_Read : Body pg 84 53 [.tmp 4, .tmp 5, .tmp 6] (ac_unary_Read 43 103 27 104 59 3) := ⟨Tryz.f84, Tryz.func84, by kernel_rfl, by kernel_rfl, by kernel_rfl, by kernel_rfl⟩
theorem v_unary_Read : S_uRead pg 84 := unary_Read b_unary_Read v_bits_Check v_unary_take v_bits_Get v_bits_TZ
theorem b_cadenzaref06_Got : Body pg 96 44 [.tmp 4, .tmp 5] (ac_cadenzaref06_Got 54 59) := ⟨Tryz.f96, Tryz.func96, by kernel_rfl, by kernel_rfl, by kernel_rfl, by kernel_rfl⟩
theorem v_ref06_Got : S_Got6 pg 96 := ref06_Got b_cadenzaref06_Got v_ref02_At
theorem b_cadenzaref07_Power : Body pg 76 13 [.tmp 2] ac_cadenzaref07_Power := ⟨Tryz.f76, Tryz.func76, by kernel_rfl, by kernel_rfl, by kernel_rfl, by kernel_rfl⟩
theorem v_ref07_Power : S_Power pg 76 := ref07_Power b_cadenzaref07_Power
theorem b_dual_Start : Body pg 35 2 [.cell 0 77] (ac_dual_Start 77) := ⟨Tryz.f35, Tryz.func35, by kernel_rfl, by kernel_rfl, by kernel_rfl, by kernel_rfl⟩
theorem v_dual_Start : S_Start pg 35 := dual_Start b_dual_Start (show aggO Tryz.prog 77 = some (some 4) by kernel_rfl)
theorem b_cadenzaref08_Start : Body pg 50 2 [.cell 0 77] (ac_cadenzaref08_Start 77) := ⟨Tryz.f50, Tryz.func50, by kernel_rfl, by kernel_rfl, by kernel_rfl, by kernel_rfl⟩
theorem v_ref08_Start : S_Start pg 50 := ref08_Start b_cadenzaref08_Start (show aggO Tryz.prog 77 = some (some 4) by kernel_rfl)
theorem b_dual_Check : Body pg 61 26 [.tmp 2] (ac_dual_Check 77) := ⟨Tryz.f61, Tryz.func61, by kernel_rfl, by kernel_rfl, by kernel_rfl, by kernel_rfl⟩
theorem v_dual_Check : S_DCheck pg 61 := dual_Check b_dual_Check
theorem b_cadenzaref08_Low : Body pg 93 11 [.tmp 4] (ac_cadenzaref08_Low 76 77) := ⟨Tryz.f93, Tryz.func93, by kernel_rfl, by kernel_rfl, by kernel_rfl, by kernel_rfl⟩
theorem v_ref08_Low : S_Low8 pg 93 := ref08_Low b_cadenzaref08_Low v_ref07_Power
theorem b_cadenzaref08_Left : Body pg 95 12 [.tmp 4] (ac_cadenzaref08_Left 76 77) := ⟨Tryz.f95, Tryz.func95, by kernel_rfl, by kernel_rfl, by kernel_rfl, by kernel_rfl⟩
theorem v_ref08_Left : S_Left8 pg 95 := ref08_Left b_cadenzaref08_Left v_ref07_Power
theorem b_cadenzaref08_pair : Body pg 94 40 [.tmp 6, .tmp 7] (ac_cadenzaref08_pair 76) := ⟨Tryz.f94, Tryz.func94, by kernel_rfl, by kernel_rfl, by kernel_rfl, by kernel_rfl⟩
theorem v_ref08_pair : S_pair8 pg 94 := ref08_pair b_cadenzaref08_pair v_ref07_Power
theorem b_cadenzaref08_Learnt : Body pg 72 38 [.cell 4 77] (ac_cadenzaref08_Learnt 93 95 94 77) := ⟨Tryz.f72, Tryz.func72, by kernel_rfl, by kernel_rfl, by kernel_rfl, by kernel_rfl⟩
theorem v_ref08_Learnt : S_Learnt pg 72 := ref08_Learnt b_cadenzaref08_Learnt v_ref08_Low v_ref08_Left v_ref08_pair (show aggO Tryz.prog 77 = some (some 4) by kernel_rfl)
theorem b_dual_level : Body pg 87 17 [.tmp 4, .tmp 5] (ac_dual_level 77) := ⟨Tryz.f87, Tryz.func87, by kernel_rfl, by kernel_rfl, by kernel_rfl, by kernel_rfl⟩
theorem v_dual_level : S_Level pg 87 := dual_level b_dual_level
theorem b_rice_escaped : Body pg 85 9 [.tmp 4] ac_rice_escaped := ⟨Tryz.f85, Tryz.func85, by kernel_rfl, by kernel_rfl, by kernel_rfl, by kernel_rfl⟩
theorem v_rice_esc : S_esc pg 85 := rice_esc b_rice_escaped
theorem b_rice_Read : Body pg 62 68 [.tmp 6, .tmp 7, .tmp 8] (ac_rice_Read 43 84 27 85 59) := ⟨Tryz.f62, Tryz.func62, by kernel_rfl, by kernel_rfl, by kernel_rfl, by kernel_rfl⟩
theorem v_rice_Read : S_rRead pg 62 := rice_Read b_rice_Read v_bits_Check v_unary_Read v_bits_Get v_rice_esc
theorem b_cadenzaref07_Part : Body pg 97 12 [.tmp 4] (ac_cadenzaref07_Part 76) := ⟨Tryz.f97, Tryz.func97, by kernel_rfl, by kernel_rfl, by kernel_rfl, by kernel_rfl⟩
theorem v_ref07_Part : S_Part7 pg 97 := ref07_Part b_cadenzaref07_Part v_ref07_Power
theorem b_cadenzaref07_Got : Body pg 75 64 [.tmp 6, .tmp 7, .tmp 8] (ac_cadenzaref07_Got 96 74 76 97 59) := ⟨Tryz.f75, Tryz.func75, by kernel_rfl, by kernel_rfl, by kernel_rfl, by kernel_rfl⟩
theorem v_ref07_Got : S_Got7 pg 75 := ref07_Got b_cadenzaref07_Got v_ref06_Got v_ref02_Value v_ref07_Power v_ref07_Part
theorem b_cadenzaref08_Got : Body pg 53 65 [.tmp 6, .tmp 7, .tmp 8] (ac_cadenzaref08_Got 54 74 75 76 59 77) := ⟨Tryz.f53, Tryz.func53, by kernel_rfl, by kernel_rfl, by kernel_rfl, by kernel_rfl⟩
theorem v_ref08_Got : S_Got8 pg 53 := ref08_Got b_cadenzaref08_Got v_ref02_At v_ref02_Value v_ref07_Got v_ref07_Power
theorem b_dual_Read : Body pg 37 86 [.tmp 6, .tmp 7, .cell 8 77, .tmp 9] (ac_dual_Read 43 61 27 62 63 59 77) := ⟨Tryz.f37, Tryz.func37, by kernel_rfl, by kernel_rfl, by kernel_rfl, by kernel_rfl⟩
theorem b_dual_learn : Body pg 63 36 [] (ac_dual_learn 86 87) := ⟨Tryz.f63, Tryz.func63, by kernel_rfl, by kernel_rfl, by kernel_rfl, by kernel_rfl⟩
theorem b_dual_learn_1 : Body pg 86 58 [] ac_dual_learn_1 := ⟨Tryz.f86, Tryz.func86, by kernel_rfl, by kernel_rfl, by kernel_rfl, by kernel_rfl⟩
theorem v_dual_Read : S_dRead pg 37 := dual_Read b_dual_Read v_bits_Check v_dual_Check v_bits_Get v_rice_Read b_dual_learn b_dual_learn_1 v_dual_level (show aggO Tryz.prog 77 = some (some 4) by kernel_rfl)
theorem b_slices_Clone_byte_byte : Body pg 42 8 [.tmp 2] (ac_slices_Clone_byte_byte 5) := ⟨Tryz.f42, Tryz.func42, by kernel_rfl, by kernel_rfl, by kernel_rfl, by kernel_rfl⟩
theorem v_slices_Clone : S_bytes_Clone pg 42 := slices_Clone b_slices_Clone_byte_byte
theorem b_bits_Of : Body pg 25 14 [.cell 2 59, .tmp 3] (ac_bits_Of 42 59) := ⟨Tryz.f25, Tryz.func25, by kernel_rfl, by kernel_rfl, by kernel_rfl, by kernel_rfl⟩
theorem v_bits_Of : S_bOf pg 25 := bits_Of b_bits_Of v_slices_Clone (show aggO Tryz.prog 59 = some (some 2) by kernel_rfl)
theorem b_bits_Cut : Body pg 36 46 [.cell 6 59, .tmp 7] (ac_bits_Cut 43 44 60 59) := ⟨Tryz.f36, Tryz.func36, by kernel_rfl, by kernel_rfl, by kernel_rfl, by kernel_rfl⟩
theorem b_bits_put : Body pg 60 75 [] (ac_bits_put 5) := ⟨Tryz.f60, Tryz.func60, by kernel_rfl, by kernel_rfl, by kernel_rfl, by kernel_rfl⟩
theorem v_bits_Cut : S_Cut pg 36 := bits_Cut b_bits_Cut v_bits_Check v_bits_get b_bits_put (show aggO Tryz.prog 59 = some (some 2) by kernel_rfl)
theorem b_cadenzaref02_Between : Body pg 52 21 [.cell 6 59] (ac_cadenzaref02_Between 54 73 59) := ⟨Tryz.f52, Tryz.func52, by kernel_rfl, by kernel_rfl, by kernel_rfl, by kernel_rfl⟩
theorem b_cadenzaref02_Add : Body pg 73 43 [.cell 4 59] (ac_cadenzaref02_Add 59 5) := ⟨Tryz.f73, Tryz.func73, by kernel_rfl, by kernel_rfl, by kernel_rfl, by kernel_rfl⟩
theorem v_ref02_Between : S_Between pg 52 := ref02_Between b_cadenzaref02_Between v_ref02_At b_cadenzaref02_Add (show aggO Tryz.prog 59 = some (some 2) by kernel_rfl) (show aggO Tryz.prog 59 = some (some 2) by kernel_rfl)
theorem b_cadenzaref21_States : Body pg 51 26 [.cell 4 77] (ac_cadenzaref21_States 50 72 77) := ⟨Tryz.f51, Tryz.func51, by kernel_rfl, by kernel_rfl, by kernel_rfl, by kernel_rfl⟩
theorem v_ref21_States : S_States pg 51 := ref21_States b_cadenzaref21_States v_ref08_Start v_ref08_Learnt (show aggO Tryz.prog 77 = some (some 4) by kernel_rfl)
theorem b_cadenzaref20_Sealed : Body pg 38 22 [.tmp 2] (ac_cadenzaref20_Sealed 64 5) := ⟨Tryz.f38, Tryz.func38, by kernel_rfl, by kernel_rfl, by kernel_rfl, by kernel_rfl⟩
theorem v_ref20_Sealed : S_Sealed pg 38 := ref20_Sealed b_cadenzaref20_Sealed v_ref03_Of
theorem b_deframe_opened : Body pg 24 46 [.tmp 2, .tmp 3] (ac_deframe_opened 32 33) := ⟨Tryz.f24, Tryz.func24, by kernel_rfl, by kernel_rfl, by kernel_rfl, by kernel_rfl⟩
theorem v_deframe_opened : S_opened pg 24 := deframe_opened b_deframe_opened v_crc32_Sum v_le_Value
theorem b_cadenzaref21_Opened : Body pg 20 19 [.tmp 2] (ac_cadenzaref21_Opened 38) := ⟨Tryz.f20, Tryz.func20, by kernel_rfl, by kernel_rfl, by kernel_rfl, by kernel_rfl⟩
theorem v_ref21_Opened : S_Opened pg 20 := ref21_Opened b_cadenzaref21_Opened v_ref20_Sealed
theorem b_deframe_values : Body pg 26 76 [.tmp 6, .tmp 7, .tmp 8] (ac_deframe_values 35 36 37 59 78 77 72) := ⟨Tryz.f26, Tryz.func26, by kernel_rfl, by kernel_rfl, by kernel_rfl, by kernel_rfl⟩
theorem v_deframe_values : S_dVals pg 26 := deframe_values b_deframe_values v_dual_Start v_bits_Cut v_dual_Read
theorem b_cadenzaref21_Read : Body pg 29 80 [.tmp 6, .tmp 7] (ac_cadenzaref21_Read 50 51 52 53 54 59 77 72) := ⟨Tryz.f29, Tryz.func29, by kernel_rfl, by kernel_rfl, by kernel_rfl, by kernel_rfl⟩
theorem v_ref21_Read : S_RRead pg 29 := ref21_Read b_cadenzaref21_Read v_ref08_Start v_ref21_States v_ref02_Between v_ref08_Got v_ref02_At
theorem b_cadenzaref21_Decode : Body pg 16 44 [.tmp 8, .tmp 9] (ac_cadenzaref21_Decode 14 20 29 31 30 23 24) := ⟨Tryz.f16, Tryz.func16, by kernel_rfl, by kernel_rfl, by kernel_rfl, by kernel_rfl⟩
theorem v_ref21_Decode : S_Decode pg 16 := ref21_Decode b_cadenzaref21_Decode v_ref21_Asked v_ref21_Opened v_ref21_Read v_ref21_Undone v_ref21_ranged
theorem b_deframe_Decode : Body pg 15 87 [.tmp 8, .tmp 9] (ac_deframe_Decode 22 24 25 26 27 28 23 24 59) := ⟨Tryz.f15, Tryz.func15, by kernel_rfl, by kernel_rfl, by kernel_rfl, by kernel_rfl⟩
theorem v_deframe_Decode : S_Decode pg 15 := deframe_Decode b_deframe_Decode v_enframe_Check v_deframe_opened v_bits_Of v_deframe_values v_bits_Get v_deframe_samples
theorem b_cadenzaref21_Great : Body pg 5 16 [.tmp 2] ac_cadenzaref21_Great := ⟨Tryz.f5, Tryz.func5, by kernel_rfl, by kernel_rfl, by kernel_rfl, by kernel_rfl⟩
theorem v_ref21_Great : S_Great21 pg 5 := ref21_Great b_cadenzaref21_Great
theorem b_verdict_check : Body pg 13 20 [.tmp 4] (ac_verdict_check 22 23) := ⟨Tryz.f13, Tryz.func13, by kernel_rfl, by kernel_rfl, by kernel_rfl, by kernel_rfl⟩
theorem v_verdict_check : S_Ask21 pg 13 := verdict_check b_verdict_check v_enframe_Check
theorem b_verdict_sound : Body pg 17 43 [.tmp 2] (ac_verdict_sound 32 33) := ⟨Tryz.f17, Tryz.func17, by kernel_rfl, by kernel_rfl, by kernel_rfl, by kernel_rfl⟩
theorem v_verdict_sound : S_Sound pg 17 := verdict_sound b_verdict_sound v_crc32_Sum v_le_Value
theorem b_verdict_values : Body pg 19 86 [.tmp 6] (ac_verdict_values 35 25 36 37 78 59 77 72) := ⟨Tryz.f19, Tryz.func19, by kernel_rfl, by kernel_rfl, by kernel_rfl, by kernel_rfl⟩
theorem v_verdict_values : S_vVals pg 19 := verdict_values b_verdict_values v_dual_Start v_bits_Of v_bits_Cut v_dual_Read
theorem b_verdict_good : Body pg 18 46 [.tmp 6] (ac_verdict_good 34 23 24) := ⟨Tryz.f18, Tryz.func18, by kernel_rfl, by kernel_rfl, by kernel_rfl, by kernel_rfl⟩
theorem v_verdict_good : S_vGood pg 18 := verdict_good b_verdict_good v_deframe_Samples
theorem b_verdict_Judge : Body pg 11 52 [.cell 8 40, .tmp 9] (ac_verdict_Judge 13 15 17 19 18 23 24 40) := ⟨Tryz.f11, Tryz.func11, by kernel_rfl, by kernel_rfl, by kernel_rfl, by kernel_rfl⟩
theorem v_verdict_Judge : S_Judge pg 11 := verdict_Judge b_verdict_Judge v_verdict_check v_deframe_Decode v_verdict_sound v_verdict_values v_verdict_good (show aggO Tryz.prog 40 = some (some 2) by kernel_rfl)
theorem b_cadenzaref23_Good : Body pg 21 63 [.tmp 8] (ac_cadenzaref23_Good 29 31 39 23 24) := ⟨Tryz.f21, Tryz.func21, by kernel_rfl, by kernel_rfl, by kernel_rfl, by kernel_rfl⟩
theorem v_ref23_Good : S_RGood pg 21 := ref23_Good b_cadenzaref23_Good v_ref21_Read v_ref21_Undone v_ref18_Check
theorem b_cadenzaref23_Judge : Body pg 12 45 [.cell 8 40, .tmp 9] (ac_cadenzaref23_Judge 14 16 20 21 23 24 40) := ⟨Tryz.f12, Tryz.func12, by kernel_rfl, by kernel_rfl, by kernel_rfl, by kernel_rfl⟩
theorem v_ref23_Judge : S_Judge pg 12 := ref23_Judge b_cadenzaref23_Judge v_ref21_Asked v_ref21_Decode v_ref21_Opened v_ref23_Good (show aggO Tryz.prog 40 = some (some 2) by kernel_rfl)
theorem b_cadenzalaw23_VerdictJudges : Body pg 4 49 [.tmp 8] (ac_cadenzalaw23_VerdictJudges 5 11 12 23 24 40) := ⟨Tryz.f4, Tryz.func4, by kernel_rfl, by kernel_rfl, by kernel_rfl, by kernel_rfl⟩
theorem v_law23_VerdictJudges : S_LawJudges pg 4 := law23_VerdictJudges b_cadenzalaw23_VerdictJudges v_ref21_Great v_verdict_Judge v_ref23_Judge

theorem own : ownKnob Tryz.prog.godebug = none := by kernel_rfl
theorem laid : laidOutB Tryz.prog = true := by kernel_rfl

set_option maxRecDepth 100000 in
theorem gok {W : World} (hl : laidMet Tryz.prog Rows.verdictJudgesRow.laid W) : GOk pg.G (X0 W) := by
  intro q cs h
  have h1 : List.lookup q [(0, [.int .u8 0, .int .u8 1, .int .u8 56, .int .u8 2, .int .u8 57, .int .u8 49, .int .u8 28, .int .u8 3, .int .u8 61, .int .u8 58, .int .u8 42, .int .u8 50, .int .u8 38, .int .u8 29, .int .u8 17, .int .u8 4, .int .u8 62, .int .u8 47, .int .u8 59, .int .u8 36, .int .u8 45, .int .u8 43, .int .u8 51, .int .u8 22, .int .u8 53, .int .u8 39, .int .u8 33, .int .u8 30, .int .u8 24, .int .u8 18, .int .u8 12, .int .u8 5, .int .u8 63, .int .u8 55, .int .u8 48, .int .u8 27, .int .u8 60, .int .u8 41, .int .u8 37, .int .u8 16, .int .u8 46, .int .u8 35, .int .u8 44, .int .u8 21, .int .u8 52, .int .u8 32, .int .u8 23, .int .u8 11, .int .u8 54, .int .u8 26, .int .u8 40, .int .u8 15, .int .u8 34, .int .u8 20, .int .u8 31, .int .u8 10, .int .u8 25, .int .u8 14, .int .u8 19, .int .u8 9, .int .u8 13, .int .u8 8, .int .u8 7, .int .u8 6])] = some cs := h
  simp only [List.lookup] at h1
  split at h1
  · rename_i e
    obtain rfl := eq_of_beq e
    cases h1
    exact rep_tableB hl (name := "math/bits.deBruijn64tab") (k := .u8) [0, 1, 56, 2, 57, 49, 28, 3, 61, 58, 42, 50, 38, 29, 17, 4, 62, 47, 59, 36, 45, 43, 51, 22, 53, 39, 33, 30, 24, 18, 12, 5, 63, 55, 48, 27, 60, 41, 37, 16, 46, 35, 44, 21, 52, 32, 23, 11, 54, 26, 40, 15, 34, 20, 31, 10, 25, 14, 19, 9, 13, 8, 7, 6] (by kernel_rfl) (List.Mem.head _)
  cases h1

set_option maxRecDepth 100000 in
theorem contract (H : Type) (enc : TypeId × Value → H) (W : World) (base : Nat) (args : Array Value) (ds gs : List (DataW H)) (before : List MemPlace) (hlaid : laidMet Tryz.prog Rows.verdictJudgesRow.laid W)
    (hval : ∀ (j : Nat) t v, Tryz.f4.params[j]? = some t → args[j]? = some v → Value.okWide Tryz.prog W .any base t v)
    (hW : DataW.Whole enc Tryz.prog Tryz.f4.params.toList Rows.verdictJudgesSpec.vars false W args.toList ds gs before) :
    Calls Tryz.prog 4 args W fun e W' => ∃ v, e = .returned v ∧ Rows.verdictJudgesSpec.post enc Tryz.prog Tryz.f4 false true false false W args v W' := by
  have hW' := hW
  obtain ⟨p, q, hA0, hV, rfl, hfz, hnd⟩ := hW
  have hA : DataW.TrodAll enc Tryz.prog W 0 (fun _ => true) true Tryz.f4.params.toList args.toList ds p := hA0
  rw [Tryz.params4] at hA hval
  obtain ⟨v0, vs0, d0, ds0, p0, q0, hargs, rfl, rfl, h0, r0⟩ := trodAll_cons hA
  obtain ⟨v1, vs1, d1, ds1, p1, q1, rfl, rfl, rfl, h1, r1⟩ := trodAll_cons r0
  obtain ⟨v2, vs2, d2, ds2, p2, q2, rfl, rfl, rfl, h2, r2⟩ := trodAll_cons r1
  obtain ⟨v3, vs3, d3, ds3, p3, q3, rfl, rfl, rfl, h3, r3⟩ := trodAll_cons r2
  obtain ⟨rfl, rfl, rfl⟩ := trodAll_nil r3
  obtain rfl : args = #[v0, v1, v2, v3] := by cases args; simp_all
  obtain ⟨rfl, rfl⟩ := trodVars_none hV
  obtain ⟨as0, r0, q0⟩ := arg_agg (P := Tryz.prog) (k := 8) (s := shSh) (by kernel_rfl) (isStr_eq (by kernel_rfl)) (hval 0 _ v0 rfl rfl) h0
  obtain ⟨c0, b0, rfl⟩ := fits_shape q0
  obtain ⟨as1, r1, q1⟩ := arg_arr (P := Tryz.prog) (k := 8) (s := tapSh) (by kernel_rfl) (isArr_eq (by kernel_rfl)) (hval 1 _ v1 rfl rfl) h1
  obtain ⟨t1, rfl, g1, i1⟩ := fits_taps q1
  obtain ⟨n2, w2, r2⟩ := arg_int (P := Tryz.prog) (k := .i64) (by kernel_rfl) (hval 2 _ v2 rfl rfl) h2
  obtain ⟨L3, r3, m3, q3⟩ := arg_slice (P := Tryz.prog) (k := 8) (s := .int .u8) (by kernel_rfl) (isSl_eq (by kernel_rfl)) (hval 3 _ v3 rfl rfl) h3
  obtain ⟨x3, z3, y3⟩ := fits_u8s q3
  rw [y3] at r3
  refine (calls_true (P := pg) (v_law23_VerdictJudges c0 b0 t1 n2 x3 g1 i1) (gok hlaid) (args := #[v0, v1, v2, v3]) (by simp only [RepL]; exact ⟨v0, _, rfl, r0, v1, _, rfl, r1, v2, _, rfl, r2, v3, _, rfl, r3, rfl⟩)).mono fun e W' ⟨he, hb⟩ => ?_
  subst he
  exact ⟨_, rfl, post_true laid (by kernel_rfl) (by rfl) (by kernel_rfl) rfl ⟨rfl, rfl, rfl⟩ hW' hb⟩

noncomputable def low : Nat := (World.holding Tryz.prog default ⟨#[], #[], []⟩).heap.size
/-- A world in which the listed variables lie as the text lays them. -/
noncomputable def laidWorld (os : Os) : World :=
  let w0 := World.holding Tryz.prog os ⟨#[], #[], []⟩
  { w0 with heap := (w0.heap.modify 0 fun
      | .cells _ t frozen => .cells #[.int .u8 0, .int .u8 1, .int .u8 56, .int .u8 2, .int .u8 57, .int .u8 49, .int .u8 28, .int .u8 3, .int .u8 61, .int .u8 58, .int .u8 42, .int .u8 50, .int .u8 38, .int .u8 29, .int .u8 17, .int .u8 4, .int .u8 62, .int .u8 47, .int .u8 59, .int .u8 36, .int .u8 45, .int .u8 43, .int .u8 51, .int .u8 22, .int .u8 53, .int .u8 39, .int .u8 33, .int .u8 30, .int .u8 24, .int .u8 18, .int .u8 12, .int .u8 5, .int .u8 63, .int .u8 55, .int .u8 48, .int .u8 27, .int .u8 60, .int .u8 41, .int .u8 37, .int .u8 16, .int .u8 46, .int .u8 35, .int .u8 44, .int .u8 21, .int .u8 52, .int .u8 32, .int .u8 23, .int .u8 11, .int .u8 54, .int .u8 26, .int .u8 40, .int .u8 15, .int .u8 34, .int .u8 20, .int .u8 31, .int .u8 10, .int .u8 25, .int .u8 14, .int .u8 19, .int .u8 9, .int .u8 13, .int .u8 8, .int .u8 7, .int .u8 6] t frozen
      | o => o) }
theorem laidWorld_met (os : Os) (args : Array Value) : laidMet Tryz.prog Rows.verdictJudgesRow.laid ((laidWorld os).forCall (fun _ _ => 0) ⟨#[], args, []⟩).memory :=
  laidMet_of_run' 8 (by kernel_rfl) (by kernel_rfl)

set_option maxRecDepth 100000 in
theorem lifted (os : Os) (started : os.Started) (H : Type) (enc : TypeId × Value → H) :
    ReturnsInHanded {} Tryz.checked os 4 .any (fun w args => (Rows.verdictJudgesSpec.pre enc Tryz.prog Tryz.f4 [] false w args ∧ laidMet Tryz.prog Rows.verdictJudgesRow.laid w) ∧ sizedMet enc Tryz.prog Tryz.f4 (OpenSpec.ofChange Rows.verdictJudgesSpec) false w args)
      (Rows.verdictJudgesSpec.post enc Tryz.prog Tryz.f4 false true false false) := by
  refine returnsInHanded_of_change_and (C := Tryz.checked) (X := fun w _ => laidMet Tryz.prog Rows.verdictJudgesRow.laid w) (fun _ _ _ hh h => h.of_heap hh) own started (by kernel_rfl) Tryz.func4
    (ChangeSpec.witness_at (enc := enc) (C := Tryz.checked) (os := os) (X := fun w _ => laidMet Tryz.prog Rows.verdictJudgesRow.laid w) false (laidWorld os) #[.agg #[.int .i64 0, .int .i64 0], .agg #[.int .i32 0, .int .i32 0, .int .i32 0, .int .i32 0, .int .i32 0, .int .i32 0, .int .i32 0, .int .i32 0, .int .i32 0, .int .i32 0, .int .i32 0, .int .i32 0, .int .i32 0, .int .i32 0, .int .i32 0, .int .i32 0], .int .i64 0, .slice none 0 0] 8 rfl (by kernel_rfl) (by kernel_rfl) (by kernel_rfl) (by kernel_rfl) (by kernel_rfl) (laidWorld_met os _)) ?_
  intro W base args ds gs before hval hW _ _ hL _
  exact contract H enc W base args ds gs before hL hval hW

theorem row_holds : Rows.VerdictJudgesSaid :=
  OpenClaim.holds_of_wide 4 Tryz.f4 rfl rfl rfl rfl rfl rfl rfl ⟨rfl, rfl, rfl, rfl, rfl⟩ rfl rfl rfl rfl rfl (by kernel_rfl) Tryz.func4 (by kernel_rfl)
    (of_decide_eq_true (by kernel_rfl)) (by unfold Func.isWrapper; first | (rw [if_pos (by decide +kernel)]; kernel_rfl) | (rw [if_neg (by decide +kernel)]; exact ⟨rfl, rfl⟩))
    (fun os started H enc _ => lifted os started H enc)

theorem proved : Rows.VerdictJudgesCardSaid :=
  Claim7.holds_tied_plain_at .later [] [.data] true (true, "e6b9db09d888ddb46c74b23c7356443c25e9a2a02269644a14f22ce4b1a96b90") false
    row_holds (fun _ h => by cases h) (by kernel_rfl) (fun _ h => by cases h) verdictJudges_row_tie rfl ⟨rfl, rfl⟩ (by kernel_rfl) rfl
    (fun f fn hf hfn => by
      obtain rfl : f = 4 := Option.some.inj ((show Tryz.prog.funcNamed Rows.verdictJudgesRow.func = some 4 by kernel_rfl).symm.trans hf) |>.symm
      obtain rfl : fn = Tryz.f4 := (Option.some.inj (Tryz.func4.symm.trans hfn)).symm
      exact ⟨by kernel_rfl, fun j t ht => by
        have hall : (Tryz.f4.params.toList.all fun t => !Tryz.prog.wantsStandIn t) = true := by kernel_rfl
        have hm : t ∈ Tryz.f4.params.toList := by simpa using Array.mem_of_getElem? ht
        have h2 : Tryz.prog.wantsStandIn t = false := by simpa using List.all_eq_true.1 hall t hm
        exact h2⟩)
    (by kernel_rfl)

end Go.Proofs.YtkngajpinabacaaGreatDoor.verdictJudges

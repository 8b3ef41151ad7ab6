/- For every clip and password cadenzalaw24.ClipFrames returns true and leaves its arguments as they were. No conditions. -/
import Derived.Test.YtpanmoedefeniaaGreatRows
import Derived.Test.YtpanmoedefeniaaGreatClipFramesY1
set_option linter.unusedSectionVars false
set_option linter.unusedSimpArgs false
set_option linter.unusedVariables false
namespace Go.Proofs.YtpanmoedefeniaaGreat.clipFrames
open Go.Am Go.ChangeShapes Go.WideShapes Go.ChangeAt Go.RowKit

noncomputable def pg : Prg := ⟨Tryz.prog, [], fun g cs h => by
  cases h⟩

theorem b_width_Range : Body pg 39 18 [.tmp 2, .tmp 3, .tmp 4] ac_width_Range := ⟨Tryz.f39, Tryz.func39, by kernel_rfl, by kernel_rfl, by kernel_rfl, by kernel_rfl⟩
theorem v_width_Range : S_Range pg 39 := width_Range b_width_Range
theorem b_cadenzaref18_Half : Body pg 93 10 [.tmp 2] ac_cadenzaref18_Half := ⟨Tryz.f93, Tryz.func93, by kernel_rfl, by kernel_rfl, by kernel_rfl, by kernel_rfl⟩
theorem v_ref18_Half : S_Half pg 93 := ref18_Half b_cadenzaref18_Half
theorem b_width_Check : Body pg 18 37 [.tmp 4] (ac_width_Check 39) := ⟨Tryz.f18, Tryz.func18, by kernel_rfl, by kernel_rfl, by kernel_rfl, by kernel_rfl⟩
theorem v_width_Check : S_WCheck pg 18 := width_Check b_width_Check v_width_Range
theorem b_cadenzaref18_Check : Body pg 63 37 [.tmp 4] (ac_cadenzaref18_Check 93) := ⟨Tryz.f63, Tryz.func63, by kernel_rfl, by kernel_rfl, by kernel_rfl, by kernel_rfl⟩
theorem v_ref18_Check : S_WCheck pg 63 := ref18_Check b_cadenzaref18_Check v_ref18_Half
theorem b_lengths_Long : Body pg 41 14 [.tmp 2, .tmp 3] ac_lengths_Long := ⟨Tryz.f41, Tryz.func41, by kernel_rfl, by kernel_rfl, by kernel_rfl, by kernel_rfl⟩
theorem v_lengths_Long : S_Long22 pg 41 := lengths_Long b_lengths_Long
theorem b_cadenzaref22_Long : Body pg 91 17 [.tmp 2, .tmp 3] ac_cadenzaref22_Long := ⟨Tryz.f91, Tryz.func91, by kernel_rfl, by kernel_rfl, by kernel_rfl, by kernel_rfl⟩
theorem v_ref22_Long : S_Long22 pg 91 := ref22_Long b_cadenzaref22_Long
theorem b_enframe_Check : Body pg 37 25 [.tmp 2] (ac_enframe_Check 39 45) := ⟨Tryz.f37, Tryz.func37, by kernel_rfl, by kernel_rfl, by kernel_rfl, by kernel_rfl⟩
theorem v_enframe_Check : S_ECheck pg 37 := enframe_Check b_enframe_Check v_width_Range
theorem b_cadenzaref20_Check : Body pg 62 17 [.tmp 2] (ac_cadenzaref20_Check 93 45) := ⟨Tryz.f62, Tryz.func62, by kernel_rfl, by kernel_rfl, by kernel_rfl, by kernel_rfl⟩
theorem v_ref20_Check : S_ECheck pg 62 := ref20_Check b_cadenzaref20_Check v_ref18_Half
theorem b_taps_New : Body pg 79 18 [.cell 4 102, .tmp 5] (ac_taps_New 35 102) := ⟨Tryz.f79, Tryz.func79, by kernel_rfl, by kernel_rfl, by kernel_rfl, by kernel_rfl⟩
theorem v_taps_New : S_TNew pg 79 := taps_New b_taps_New (show aggO Tryz.prog 102 = some (some 33) by kernel_rfl)
theorem b_taps_Check : Body pg 128 11 [.tmp 2] (ac_taps_Check 102) := ⟨Tryz.f128, Tryz.func128, by kernel_rfl, by kernel_rfl, by kernel_rfl, by kernel_rfl⟩
theorem v_taps_Check : S_TCheck pg 128 := taps_Check b_taps_Check
theorem b_taps_Guess : Body pg 113 36 [.tmp 2, .tmp 3] (ac_taps_Guess 128 102) := ⟨Tryz.f113, Tryz.func113, by kernel_rfl, by kernel_rfl, by kernel_rfl, by kernel_rfl⟩
theorem v_taps_Guess : S_TGuess pg 113 := taps_Guess b_taps_Guess v_taps_Check
theorem b_taps_step : Body pg 136 9 [.tmp 2] ac_taps_step := ⟨Tryz.f136, Tryz.func136, by kernel_rfl, by kernel_rfl, by kernel_rfl, by kernel_rfl⟩
theorem v_taps_step : S_TStep pg 136 := taps_step b_taps_step
theorem b_taps_Learn : Body pg 129 53 [.cell 4 102, .tmp 5] (ac_taps_Learn 128 136 102) := ⟨Tryz.f129, Tryz.func129, by kernel_rfl, by kernel_rfl, by kernel_rfl, by kernel_rfl⟩
theorem v_taps_Learn : S_TLearn pg 129 := taps_Learn b_taps_Learn (show aggO Tryz.prog 102 = some (some 33) by kernel_rfl) v_taps_Check v_taps_step
theorem b_taps_Push : Body pg 130 22 [.cell 4 102, .tmp 5] (ac_taps_Push 128 102) := ⟨Tryz.f130, Tryz.func130, by kernel_rfl, by kernel_rfl, by kernel_rfl, by kernel_rfl⟩
theorem v_taps_Push : S_TPush pg 130 := taps_Push b_taps_Push (show aggO Tryz.prog 102 = some (some 33) by kernel_rfl) v_taps_Check
theorem b_lms_behind : Body pg 114 20 [.cell 6 102] (ac_lms_behind 129 130 102) := ⟨Tryz.f114, Tryz.func114, by kernel_rfl, by kernel_rfl, by kernel_rfl, by kernel_rfl⟩
theorem v_lms_behind : S_LBehind pg 114 := lms_behind b_lms_behind (show aggO Tryz.prog 102 = some (some 33) by kernel_rfl) v_taps_Learn v_taps_Push
theorem b_lms_Forward : Body pg 82 27 [.tmp 4, .cell 5 102, .tmp 6] (ac_lms_Forward 113 114 102) := ⟨Tryz.f82, Tryz.func82, by kernel_rfl, by kernel_rfl, by kernel_rfl, by kernel_rfl⟩
theorem v_lms_Forward : S_LForward pg 82 := lms_Forward b_lms_Forward (show aggO Tryz.prog 102 = some (some 33) by kernel_rfl) v_taps_Guess v_lms_behind
theorem b_first_Shift : Body pg 111 10 [.tmp 2, .tmp 3] ac_first_Shift := ⟨Tryz.f111, Tryz.func111, by kernel_rfl, by kernel_rfl, by kernel_rfl, by kernel_rfl⟩
theorem v_first_Shift : S_FShift pg 111 := first_Shift b_first_Shift
theorem b_first_guess : Body pg 112 16 [.tmp 4] ac_first_guess := ⟨Tryz.f112, Tryz.func112, by kernel_rfl, by kernel_rfl, by kernel_rfl, by kernel_rfl⟩
theorem v_first_guess : S_Fguess pg 112 := first_guess b_first_guess
theorem b_first_Guess : Body pg 81 19 [.tmp 4, .tmp 5] (ac_first_Guess 111 112) := ⟨Tryz.f81, Tryz.func81, by kernel_rfl, by kernel_rfl, by kernel_rfl, by kernel_rfl⟩
theorem v_first_Guess : S_FGuess pg 81 := first_Guess b_first_Guess v_first_Shift v_first_guess
theorem b_chain_New : Body pg 46 21 [.cell 4 104, .tmp 5] (ac_chain_New 79 35 104 102) := ⟨Tryz.f46, Tryz.func46, by kernel_rfl, by kernel_rfl, by kernel_rfl, by kernel_rfl⟩
theorem v_chain_New : S_CNew pg 46 := chain_New b_chain_New (show aggO Tryz.prog 104 = some (some 35) by kernel_rfl) v_taps_New
theorem b_chain_Check : Body pg 80 24 [.tmp 2] (ac_chain_Check 79 104 102) := ⟨Tryz.f80, Tryz.func80, by kernel_rfl, by kernel_rfl, by kernel_rfl, by kernel_rfl⟩
theorem v_chain_Check : S_CCheck pg 80 := chain_Check b_chain_Check v_taps_New
theorem b_chain_Forward : Body pg 47 44 [.tmp 4, .cell 5 104, .tmp 6] (ac_chain_Forward 80 81 82 104 102) := ⟨Tryz.f47, Tryz.func47, by kernel_rfl, by kernel_rfl, by kernel_rfl, by kernel_rfl⟩
theorem v_chain_Forward : S_CForward pg 47 := chain_Forward b_chain_Forward (show aggO Tryz.prog 104 = some (some 35) by kernel_rfl) v_chain_Check v_first_Guess v_lms_Forward
theorem b_cadenzaref13_Wrap : Body pg 105 7 [.tmp 2] ac_cadenzaref13_Wrap := ⟨Tryz.f105, Tryz.func105, by kernel_rfl, by kernel_rfl, by kernel_rfl, by kernel_rfl⟩
theorem v_ref13_Wrap : S_Wrap pg 105 := ref13_Wrap b_cadenzaref13_Wrap
theorem b_cadenzaref13_Behind : Body pg 124 26 [.tmp 4] ac_cadenzaref13_Behind := ⟨Tryz.f124, Tryz.func124, by kernel_rfl, by kernel_rfl, by kernel_rfl, by kernel_rfl⟩
theorem v_ref13_Behind : S_Behind pg 124 := ref13_Behind b_cadenzaref13_Behind
theorem b_cadenzaref13_Shift : Body pg 123 12 [.tmp 2, .tmp 3] ac_cadenzaref13_Shift := ⟨Tryz.f123, Tryz.func123, by kernel_rfl, by kernel_rfl, by kernel_rfl, by kernel_rfl⟩
theorem v_ref13_Shift : S_Shift13 pg 123 := ref13_Shift b_cadenzaref13_Shift
theorem b_cadenzaref14_Step : Body pg 134 7 [.tmp 2] ac_cadenzaref14_Step := ⟨Tryz.f134, Tryz.func134, by kernel_rfl, by kernel_rfl, by kernel_rfl, by kernel_rfl⟩
theorem v_ref14_Step : S_R14Step pg 134 := ref14_Step b_cadenzaref14_Step
theorem b_cadenzaref14_Sign : Body pg 135 7 [.tmp 2] ac_cadenzaref14_Sign := ⟨Tryz.f135, Tryz.func135, by kernel_rfl, by kernel_rfl, by kernel_rfl, by kernel_rfl⟩
theorem v_ref14_Sign : S_Sign pg 135 := ref14_Sign b_cadenzaref14_Sign
theorem b_cadenzaref14_Sum : Body pg 133 28 [.tmp 2] (ac_cadenzaref14_Sum 105 102) := ⟨Tryz.f133, Tryz.func133, by kernel_rfl, by kernel_rfl, by kernel_rfl, by kernel_rfl⟩
theorem v_ref14_Sum : S_RSum pg 133 := ref14_Sum b_cadenzaref14_Sum v_ref13_Wrap
theorem b_cadenzaref14_Told : Body pg 125 28 [.tmp 2] (ac_cadenzaref14_Told 133 105 102) := ⟨Tryz.f125, Tryz.func125, by kernel_rfl, by kernel_rfl, by kernel_rfl, by kernel_rfl⟩
theorem v_ref14_Told : S_RTold pg 125 := ref14_Told b_cadenzaref14_Told v_ref14_Sum v_ref13_Wrap
theorem b_cadenzaref14_Learned : Body pg 127 29 [.cell 4 102] (ac_cadenzaref14_Learned 134 135 102) := ⟨Tryz.f127, Tryz.func127, by kernel_rfl, by kernel_rfl, by kernel_rfl, by kernel_rfl⟩
theorem v_ref14_Learned : S_RLearned pg 127 := ref14_Learned b_cadenzaref14_Learned (show aggO Tryz.prog 102 = some (some 33) by kernel_rfl) v_ref14_Step v_ref14_Sign
theorem b_cadenzaref14_Pushed : Body pg 126 22 [.cell 4 102] (ac_cadenzaref14_Pushed 102) := ⟨Tryz.f126, Tryz.func126, by kernel_rfl, by kernel_rfl, by kernel_rfl, by kernel_rfl⟩
theorem v_ref14_Pushed : S_RPushed pg 126 := ref14_Pushed b_cadenzaref14_Pushed (show aggO Tryz.prog 102 = some (some 33) by kernel_rfl)
theorem b_cadenzaref15_Step : Body pg 107 20 [.tmp 4, .cell 5 102] (ac_cadenzaref15_Step 125 105 127 126 102) := ⟨Tryz.f107, Tryz.func107, by kernel_rfl, by kernel_rfl, by kernel_rfl, by kernel_rfl⟩
theorem v_ref15_Step : S_RStep15 pg 107 := ref15_Step b_cadenzaref15_Step (show aggO Tryz.prog 102 = some (some 33) by kernel_rfl) v_ref14_Told v_ref13_Wrap v_ref14_Learned v_ref14_Pushed
theorem b_cadenzaref19_behind : Body pg 106 12 [.tmp 2] (ac_cadenzaref19_behind 124 104) := ⟨Tryz.f106, Tryz.func106, by kernel_rfl, by kernel_rfl, by kernel_rfl, by kernel_rfl⟩
theorem v_ref19_behind : S_RBehind19 pg 106 := ref19_behind b_cadenzaref19_behind v_ref13_Behind
theorem b_cadenzaref19_Step : Body pg 70 28 [.tmp 4, .cell 5 104] (ac_cadenzaref19_Step 106 105 107 104 102) := ⟨Tryz.f70, Tryz.func70, by kernel_rfl, by kernel_rfl, by kernel_rfl, by kernel_rfl⟩
theorem v_ref19_Step : S_RStep19 pg 70 := ref19_Step b_cadenzaref19_Step (show aggO Tryz.prog 104 = some (some 35) by kernel_rfl) v_ref19_behind v_ref13_Wrap v_ref15_Step
theorem b_cadenzaref14_New : Body pg 104 22 [.cell 4 102, .tmp 5] (ac_cadenzaref14_New 123 35 102) := ⟨Tryz.f104, Tryz.func104, by kernel_rfl, by kernel_rfl, by kernel_rfl, by kernel_rfl⟩
theorem v_ref14_New : S_TNew pg 104 := ref14_New b_cadenzaref14_New (show aggO Tryz.prog 102 = some (some 33) by kernel_rfl) v_ref13_Shift
theorem b_cadenzaref19_New : Body pg 68 20 [.cell 4 104, .tmp 5] (ac_cadenzaref19_New 104 35 104 102) := ⟨Tryz.f68, Tryz.func68, by kernel_rfl, by kernel_rfl, by kernel_rfl, by kernel_rfl⟩
theorem v_ref19_New : S_CNew pg 68 := ref19_New b_cadenzaref19_New (show aggO Tryz.prog 104 = some (some 35) by kernel_rfl) v_ref14_New
theorem b_fold_Fold : Body pg 48 10 [.tmp 2] ac_fold_Fold := ⟨Tryz.f48, Tryz.func48, by kernel_rfl, by kernel_rfl, by kernel_rfl, by kernel_rfl⟩
theorem v_fold_Fold : S_Fold pg 48 := fold_Fold b_fold_Fold
theorem b_cadenzaref05_Fold : Body pg 71 13 [.tmp 2] ac_cadenzaref05_Fold := ⟨Tryz.f71, Tryz.func71, by kernel_rfl, by kernel_rfl, by kernel_rfl, by kernel_rfl⟩
theorem v_ref05_Fold : S_Fold pg 71 := ref05_Fold b_cadenzaref05_Fold
theorem b_slices_Clone_int32_int32 : Body pg 77 8 [.tmp 2] (ac_slices_Clone_int32_int32 21) := ⟨Tryz.f77, Tryz.func77, by kernel_rfl, by kernel_rfl, by kernel_rfl, by kernel_rfl⟩
theorem v_clone_i32 : S_CloneA 21 pg 77 := clone_i32 b_slices_Clone_int32_int32
theorem b_mix_mix : Body pg 78 39 [] ac_mix_mix := ⟨Tryz.f78, Tryz.func78, by kernel_rfl, by kernel_rfl, by kernel_rfl, by kernel_rfl⟩
theorem v_mix_mix : S_Mix pg 78 := mix_mix b_mix_mix
theorem b_mix_check : Body pg 76 22 [.tmp 4] ac_mix_check := ⟨Tryz.f76, Tryz.func76, by kernel_rfl, by kernel_rfl, by kernel_rfl, by kernel_rfl⟩
theorem v_mix_check : S_MCheck pg 76 := mix_check b_mix_check
theorem b_cadenzaref17_Check : Body pg 102 19 [.tmp 4] ac_cadenzaref17_Check := ⟨Tryz.f102, Tryz.func102, by kernel_rfl, by kernel_rfl, by kernel_rfl, by kernel_rfl⟩
theorem v_ref17_Check : S_MCheck pg 102 := ref17_Check b_cadenzaref17_Check
theorem b_mix_All : Body pg 45 32 [.tmp 4, .tmp 5] (ac_mix_All 76 77 78) := ⟨Tryz.f45, Tryz.func45, by kernel_rfl, by kernel_rfl, by kernel_rfl, by kernel_rfl⟩
theorem v_mix_All : S_MixAll pg 45 := mix_All b_mix_All v_mix_check v_clone_i32 v_mix_mix
theorem b_cadenzaref17_Mixed : Body pg 103 61 [.tmp 2] (ac_cadenzaref17_Mixed 105 21) := ⟨Tryz.f103, Tryz.func103, by kernel_rfl, by kernel_rfl, by kernel_rfl, by kernel_rfl⟩
theorem v_ref17_Mixed : S_RMixed pg 103 := ref17_Mixed b_cadenzaref17_Mixed v_ref13_Wrap
theorem b_cadenzaref17_All : Body pg 67 32 [.tmp 4, .tmp 5] (ac_cadenzaref17_All 102 103 21) := ⟨Tryz.f67, Tryz.func67, by kernel_rfl, by kernel_rfl, by kernel_rfl, by kernel_rfl⟩
theorem v_ref17_All : S_MixAll pg 67 := ref17_All b_cadenzaref17_All v_ref17_Check v_ref17_Mixed
theorem b_enframe_check : Body pg 44 30 [.tmp 4] (ac_enframe_check 37 18 45) := ⟨Tryz.f44, Tryz.func44, by kernel_rfl, by kernel_rfl, by kernel_rfl, by kernel_rfl⟩
theorem v_enframe_check : S_EAsk pg 44 := enframe_check b_enframe_check v_enframe_Check v_width_Check
theorem b_cadenzaref20_Asked : Body pg 34 28 [.tmp 4] (ac_cadenzaref20_Asked 62 63 45) := ⟨Tryz.f34, Tryz.func34, by kernel_rfl, by kernel_rfl, by kernel_rfl, by kernel_rfl⟩
theorem v_ref20_Asked : S_EAsk pg 34 := ref20_Asked b_cadenzaref20_Asked v_ref20_Check v_ref18_Check
theorem b_cadenzaref20_channel : Body pg 69 25 [.tmp 6] (ac_cadenzaref20_channel 21) := ⟨Tryz.f69, Tryz.func69, by kernel_rfl, by kernel_rfl, by kernel_rfl, by kernel_rfl⟩
theorem v_ref20_channel : S_Channel pg 69 := ref20_channel b_cadenzaref20_channel
theorem b_enframe_Values : Body pg 23 83 [.tmp 6, .tmp 7] (ac_enframe_Values 44 45 46 47 48 45 35 105 104 72) := ⟨Tryz.f23, Tryz.func23, by kernel_rfl, by kernel_rfl, by kernel_rfl, by kernel_rfl⟩
theorem v_enframe_Values : S_EVals pg 23 := enframe_Values b_enframe_Values v_enframe_check v_mix_All v_chain_New v_chain_Forward v_fold_Fold
theorem b_cadenzaref20_Coded : Body pg 36 72 [.tmp 6] (ac_cadenzaref20_Coded 67 68 69 70 71 45 35 72 104) := ⟨Tryz.f36, Tryz.func36, by kernel_rfl, by kernel_rfl, by kernel_rfl, by kernel_rfl⟩
theorem v_ref20_Coded : S_RCoded pg 36 := ref20_Coded b_cadenzaref20_Coded v_ref17_All v_ref19_New v_ref20_channel v_ref19_Step v_ref05_Fold
theorem b_cadenzaref13_Great : Body pg 4 16 [.tmp 2] ac_cadenzaref13_Great := ⟨Tryz.f4, Tryz.func4, by kernel_rfl, by kernel_rfl, by kernel_rfl, by kernel_rfl⟩
theorem v_ref13_Great : S_Great13 pg 4 := ref13_Great b_cadenzaref13_Great
theorem b_lengths_Count : Body pg 38 32 [.tmp 4, .tmp 5] (ac_lengths_Count 41) := ⟨Tryz.f38, Tryz.func38, by kernel_rfl, by kernel_rfl, by kernel_rfl, by kernel_rfl⟩
theorem v_lengths_Count : S_Count22 pg 38 := lengths_Count b_lengths_Count v_lengths_Long
theorem b_clip_shape : Body pg 12 8 [.cell 2 45] (ac_clip_shape 24 45) := ⟨Tryz.f12, Tryz.func12, by kernel_rfl, by kernel_rfl, by kernel_rfl, by kernel_rfl⟩
theorem v_clip_shape : S_Shape24 pg 12 := clip_shape b_clip_shape (show aggO Tryz.prog 45 = some (some 2) by kernel_rfl)
theorem b_cadenzaref24_Shape : Body pg 16 8 [.cell 2 45] (ac_cadenzaref24_Shape 24 45) := ⟨Tryz.f16, Tryz.func16, by kernel_rfl, by kernel_rfl, by kernel_rfl, by kernel_rfl⟩
theorem v_ref24_Shape : S_Shape24 pg 16 := ref24_Shape b_cadenzaref24_Shape (show aggO Tryz.prog 45 = some (some 2) by kernel_rfl)
theorem b_clip_head : Body pg 17 31 [.tmp 4] (ac_clip_head 12 37 38 24) := ⟨Tryz.f17, Tryz.func17, by kernel_rfl, by kernel_rfl, by kernel_rfl, by kernel_rfl⟩
theorem v_clip_head : S_CHead pg 17 := clip_head b_clip_head v_clip_shape v_enframe_Check v_lengths_Count
theorem b_clip_Check : Body pg 8 33 [.tmp 2] (ac_clip_Check 17 18 24) := ⟨Tryz.f8, Tryz.func8, by kernel_rfl, by kernel_rfl, by kernel_rfl, by kernel_rfl⟩
theorem v_clip_Check : S_ClipCheck pg 8 := clip_Check b_clip_Check v_clip_head v_width_Check
theorem b_cadenzaref21_Asked : Body pg 89 19 [.tmp 4] (ac_cadenzaref21_Asked 62 45) := ⟨Tryz.f89, Tryz.func89, by kernel_rfl, by kernel_rfl, by kernel_rfl, by kernel_rfl⟩
theorem v_ref21_Asked : S_Ask21 pg 89 := ref21_Asked b_cadenzaref21_Asked v_ref20_Check
theorem b_cadenzaref22_All : Body pg 60 41 [.tmp 4, .tmp 5] (ac_cadenzaref22_All 91 3) := ⟨Tryz.f60, Tryz.func60, by kernel_rfl, by kernel_rfl, by kernel_rfl, by kernel_rfl⟩
theorem v_ref22_All : S_All22 pg 60 := ref22_All b_cadenzaref22_All v_ref22_Long
theorem b_cadenzaref22_Count : Body pg 90 17 [.tmp 4, .tmp 5] (ac_cadenzaref22_Count 60) := ⟨Tryz.f90, Tryz.func90, by kernel_rfl, by kernel_rfl, by kernel_rfl, by kernel_rfl⟩
theorem v_ref22_Count : S_Count22 pg 90 := ref22_Count b_cadenzaref22_Count v_ref22_All
theorem b_cadenzaref24_Head : Body pg 59 21 [.tmp 4] (ac_cadenzaref24_Head 16 89 90 24) := ⟨Tryz.f59, Tryz.func59, by kernel_rfl, by kernel_rfl, by kernel_rfl, by kernel_rfl⟩
theorem v_ref24_Head : S_RHead24 pg 59 := ref24_Head b_cadenzaref24_Head v_ref24_Shape v_ref21_Asked v_ref22_Count
theorem b_cadenzaref24_Check : Body pg 30 20 [.tmp 2] (ac_cadenzaref24_Check 16 34 59 24) := ⟨Tryz.f30, Tryz.func30, by kernel_rfl, by kernel_rfl, by kernel_rfl, by kernel_rfl⟩
theorem v_ref24_Check : S_ClipCheck pg 30 := ref24_Check b_cadenzaref24_Check v_ref24_Shape v_ref20_Asked v_ref24_Head
theorem b_le_fits : Body pg 57 14 [.tmp 4] ac_le_fits := ⟨Tryz.f57, Tryz.func57, by kernel_rfl, by kernel_rfl, by kernel_rfl, by kernel_rfl⟩
theorem v_le_fits : S_fits pg 57 := le_fits b_le_fits
theorem b_le_Bytes : Body pg 28 35 [.tmp 4, .tmp 5] (ac_le_Bytes 57 5) := ⟨Tryz.f28, Tryz.func28, by kernel_rfl, by kernel_rfl, by kernel_rfl, by kernel_rfl⟩
theorem v_le_Bytes : S_leBytes pg 28 := le_Bytes b_le_Bytes v_le_fits
theorem b_crc32_table : Body pg 88 24 [.tmp 0] (ac_crc32_table 195) := ⟨Tryz.f88, Tryz.func88, by kernel_rfl, by kernel_rfl, by kernel_rfl, by kernel_rfl⟩
theorem v_crc32_table : S_table pg 88 := crc32_table b_crc32_table
theorem b_crc32_Next : Body pg 56 32 [.tmp 4, .tmp 5] (ac_crc32_Next 88) := ⟨Tryz.f56, Tryz.func56, by kernel_rfl, by kernel_rfl, by kernel_rfl, by kernel_rfl⟩
theorem v_crc32_Next : S_CNext pg 56 := crc32_Next b_crc32_Next v_crc32_table
theorem b_crc32_Sum : Body pg 27 16 [.tmp 2, .tmp 3] (ac_crc32_Sum 56) := ⟨Tryz.f27, Tryz.func27, by kernel_rfl, by kernel_rfl, by kernel_rfl, by kernel_rfl⟩
theorem v_crc32_Sum : S_CSum pg 27 := crc32_Sum b_crc32_Sum v_crc32_Next
theorem b_cadenzaref03_Step : Body pg 137 19 [.tmp 4] ac_cadenzaref03_Step := ⟨Tryz.f137, Tryz.func137, by kernel_rfl, by kernel_rfl, by kernel_rfl, by kernel_rfl⟩
theorem v_ref03_Step : S_Step pg 137 := ref03_Step b_cadenzaref03_Step
theorem b_cadenzaref03_Byte : Body pg 132 18 [.tmp 4] (ac_cadenzaref03_Byte 137) := ⟨Tryz.f132, Tryz.func132, by kernel_rfl, by kernel_rfl, by kernel_rfl, by kernel_rfl⟩
theorem v_ref03_Byte : S_Byte pg 132 := ref03_Byte b_cadenzaref03_Byte v_ref03_Step
theorem b_cadenzaref03_Behind : Body pg 122 19 [.tmp 4] (ac_cadenzaref03_Behind 132) := ⟨Tryz.f122, Tryz.func122, by kernel_rfl, by kernel_rfl, by kernel_rfl, by kernel_rfl⟩
theorem v_ref03_Behind : S_Behind3 pg 122 := ref03_Behind b_cadenzaref03_Behind v_ref03_Byte
theorem b_cadenzaref03_Of : Body pg 101 6 [.tmp 2] (ac_cadenzaref03_Of 122) := ⟨Tryz.f101, Tryz.func101, by kernel_rfl, by kernel_rfl, by kernel_rfl, by kernel_rfl⟩
theorem v_ref03_Of : S_COf pg 101 := ref03_Of b_cadenzaref03_Of v_ref03_Behind
theorem b_bits_Check : Body pg 50 40 [.tmp 2] (ac_bits_Check 71) := ⟨Tryz.f50, Tryz.func50, by kernel_rfl, by kernel_rfl, by kernel_rfl, by kernel_rfl⟩
theorem v_bits_Check : S_bCheck pg 50 := bits_Check b_bits_Check
theorem b_cadenzaref07_Power : Body pg 119 13 [.tmp 2] ac_cadenzaref07_Power := ⟨Tryz.f119, Tryz.func119, by kernel_rfl, by kernel_rfl, by kernel_rfl, by kernel_rfl⟩
theorem v_ref07_Power : S_Power pg 119 := ref07_Power b_cadenzaref07_Power
theorem b_dual_Start : Body pg 49 2 [.cell 0 67] (ac_dual_Start 67) := ⟨Tryz.f49, Tryz.func49, by kernel_rfl, by kernel_rfl, by kernel_rfl, by kernel_rfl⟩
theorem v_dual_Start : S_Start pg 49 := dual_Start b_dual_Start (show aggO Tryz.prog 67 = some (some 4) by kernel_rfl)
theorem b_cadenzaref08_Start : Body pg 94 2 [.cell 0 67] (ac_cadenzaref08_Start 67) := ⟨Tryz.f94, Tryz.func94, by kernel_rfl, by kernel_rfl, by kernel_rfl, by kernel_rfl⟩
theorem v_ref08_Start : S_Start pg 94 := ref08_Start b_cadenzaref08_Start (show aggO Tryz.prog 67 = some (some 4) by kernel_rfl)
theorem b_dual_Check : Body pg 51 26 [.tmp 2] (ac_dual_Check 67) := ⟨Tryz.f51, Tryz.func51, by kernel_rfl, by kernel_rfl, by kernel_rfl, by kernel_rfl⟩
theorem v_dual_Check : S_DCheck pg 51 := dual_Check b_dual_Check
theorem b_cadenzaref08_Low : Body pg 96 11 [.tmp 4] (ac_cadenzaref08_Low 119 67) := ⟨Tryz.f96, Tryz.func96, by kernel_rfl, by kernel_rfl, by kernel_rfl, by kernel_rfl⟩
theorem v_ref08_Low : S_Low8 pg 96 := ref08_Low b_cadenzaref08_Low v_ref07_Power
theorem b_cadenzaref08_Left : Body pg 100 12 [.tmp 4] (ac_cadenzaref08_Left 119 67) := ⟨Tryz.f100, Tryz.func100, by kernel_rfl, by kernel_rfl, by kernel_rfl, by kernel_rfl⟩
theorem v_ref08_Left : S_Left8 pg 100 := ref08_Left b_cadenzaref08_Left v_ref07_Power
theorem b_cadenzaref08_pair : Body pg 118 40 [.tmp 6, .tmp 7] (ac_cadenzaref08_pair 119) := ⟨Tryz.f118, Tryz.func118, by kernel_rfl, by kernel_rfl, by kernel_rfl, by kernel_rfl⟩
theorem v_ref08_pair : S_pair8 pg 118 := ref08_pair b_cadenzaref08_pair v_ref07_Power
theorem b_cadenzaref08_Learnt : Body pg 95 38 [.cell 4 67] (ac_cadenzaref08_Learnt 96 100 118 67) := ⟨Tryz.f95, Tryz.func95, by kernel_rfl, by kernel_rfl, by kernel_rfl, by kernel_rfl⟩
theorem v_ref08_Learnt : S_Learnt pg 95 := ref08_Learnt b_cadenzaref08_Learnt v_ref08_Low v_ref08_Left v_ref08_pair (show aggO Tryz.prog 67 = some (some 4) by kernel_rfl)
theorem b_dual_level : Body pg 52 17 [.tmp 4, .tmp 5] (ac_dual_level 67) := ⟨Tryz.f52, Tryz.func52, by kernel_rfl, by kernel_rfl, by kernel_rfl, by kernel_rfl⟩
theorem v_dual_level : S_Level pg 52 := dual_level b_dual_level
theorem b_rice_escaped : Body pg 85 9 [.tmp 4] ac_rice_escaped := ⟨Tryz.f85, Tryz.func85, by kernel_rfl, by kernel_rfl, by kernel_rfl, by kernel_rfl⟩
theorem v_rice_esc : S_esc pg 85 := rice_esc b_rice_escaped
theorem b_cadenzaref07_Part : Body pg 120 12 [.tmp 4] (ac_cadenzaref07_Part 119) := ⟨Tryz.f120, Tryz.func120, by kernel_rfl, by kernel_rfl, by kernel_rfl, by kernel_rfl⟩
theorem v_ref07_Part : S_Part7 pg 120 := ref07_Part b_cadenzaref07_Part v_ref07_Power
theorem b_cadenzaref20_Sealed : Body pg 66 22 [.tmp 2] (ac_cadenzaref20_Sealed 101 5) := ⟨Tryz.f66, Tryz.func66, by kernel_rfl, by kernel_rfl, by kernel_rfl, by kernel_rfl⟩
theorem v_ref20_Sealed : S_Sealed pg 66 := ref20_Sealed b_cadenzaref20_Sealed v_ref03_Of
theorem b_slices_Clone_byte_byte : Body pg 115 8 [.tmp 2] (ac_slices_Clone_byte_byte 5) := ⟨Tryz.f115, Tryz.func115, by kernel_rfl, by kernel_rfl, by kernel_rfl, by kernel_rfl⟩
theorem v_clone_b : S_CloneB 5 pg 115 := clone_b b_slices_Clone_byte_byte
theorem b_bits_Put : Body pg 53 44 [.cell 6 71, .tmp 7] (ac_bits_Put 50 83 84 71) := ⟨Tryz.f53, Tryz.func53, by kernel_rfl, by kernel_rfl, by kernel_rfl, by kernel_rfl⟩
theorem b_bits_twin : Body pg 83 9 [.cell 2 71] (ac_bits_twin 115 71) := ⟨Tryz.f83, Tryz.func83, by kernel_rfl, by kernel_rfl, by kernel_rfl, by kernel_rfl⟩
theorem b_bits_put : Body pg 84 75 [] (ac_bits_put 5) := ⟨Tryz.f84, Tryz.func84, by kernel_rfl, by kernel_rfl, by kernel_rfl, by kernel_rfl⟩
theorem v_bits_Put : S_bPut pg 53 := bits_Put b_bits_Put v_bits_Check b_bits_twin b_bits_put v_clone_b (show aggO Tryz.prog 71 = some (some 2) by kernel_rfl) (show aggO Tryz.prog 71 = some (some 2) by kernel_rfl)
theorem b_unary_Length : Body pg 116 13 [.tmp 2, .tmp 3] ac_unary_Length := ⟨Tryz.f116, Tryz.func116, by kernel_rfl, by kernel_rfl, by kernel_rfl, by kernel_rfl⟩
theorem v_unary_Length : S_uLen pg 116 := unary_Length b_unary_Length
theorem b_unary_Write : Body pg 86 32 [.cell 4 71, .tmp 5] (ac_unary_Write 50 116 53 71) := ⟨Tryz.f86, Tryz.func86, by kernel_rfl, by kernel_rfl, by kernel_rfl, by kernel_rfl⟩
theorem v_unary_Write : S_uWrite pg 86 := unary_Write b_unary_Write v_bits_Check v_unary_Length v_bits_Put (show aggO Tryz.prog 71 = some (some 2) by kernel_rfl)
theorem b_rice_Write : Body pg 54 57 [.cell 6 71, .tmp 7] (ac_rice_Write 50 85 86 53 71) := ⟨Tryz.f54, Tryz.func54, by kernel_rfl, by kernel_rfl, by kernel_rfl, by kernel_rfl⟩
theorem v_rice_Write : S_rWrite pg 54 := rice_Write b_rice_Write v_bits_Check v_rice_esc v_unary_Write v_bits_Put (show aggO Tryz.prog 71 = some (some 2) by kernel_rfl)
theorem b_dual_Write : Body pg 25 69 [.cell 6 71, .cell 7 67, .tmp 8] (ac_dual_Write 50 51 52 53 54 55 71 67) := ⟨Tryz.f25, Tryz.func25, by kernel_rfl, by kernel_rfl, by kernel_rfl, by kernel_rfl⟩
theorem b_dual_learn : Body pg 55 36 [] (ac_dual_learn 87 52) := ⟨Tryz.f55, Tryz.func55, by kernel_rfl, by kernel_rfl, by kernel_rfl, by kernel_rfl⟩
theorem b_dual_learn_1 : Body pg 87 58 [] ac_dual_learn_1 := ⟨Tryz.f87, Tryz.func87, by kernel_rfl, by kernel_rfl, by kernel_rfl, by kernel_rfl⟩
theorem v_dual_Write : S_dWrite pg 25 := dual_Write b_dual_Write v_bits_Check v_dual_Check v_dual_level v_bits_Put v_rice_Write b_dual_learn b_dual_learn_1 v_dual_level (show aggO Tryz.prog 71 = some (some 2) by kernel_rfl) (show aggO Tryz.prog 67 = some (some 4) by kernel_rfl)
theorem b_enframe_states : Body pg 24 11 [.cell 0 68] (ac_enframe_states 49 68) := ⟨Tryz.f24, Tryz.func24, by kernel_rfl, by kernel_rfl, by kernel_rfl, by kernel_rfl⟩
theorem v_enframe_states : S_eStates pg 24 := enframe_states b_enframe_states v_dual_Start (show aggO Tryz.prog 68 = some (some 24) by kernel_rfl)
theorem b_slices_Concat_byte_byte : Body pg 29 36 [.tmp 2] (ac_slices_Concat_byte_byte 58 5) := ⟨Tryz.f29, Tryz.func29, by kernel_rfl, by kernel_rfl, by kernel_rfl, by kernel_rfl⟩
theorem growB : S_GrowNil 5 pg 58 := grow_nil Tryz.growB rfl rfl (by kernel_rfl)
theorem v_slices_Concat : S_Concat pg 29 := slices_Concat b_slices_Concat_byte_byte growB
theorem b_enframe_Encode : Body pg 11 85 [.tmp 6, .tmp 7] (ac_enframe_Encode 23 24 25 26 27 28 29 45 35 68 71 67 41) := ⟨Tryz.f11, Tryz.func11, by kernel_rfl, by kernel_rfl, by kernel_rfl, by kernel_rfl⟩
theorem b_enframe_put : Body pg 26 64 [] (ac_enframe_put 71 5) := ⟨Tryz.f26, Tryz.func26, by kernel_rfl, by kernel_rfl, by kernel_rfl, by kernel_rfl⟩
theorem v_enframe_Encode : S_Enc pg 11 := enframe_Encode b_enframe_Encode v_enframe_Values v_enframe_states v_dual_Write b_enframe_put v_crc32_Sum v_le_Bytes v_slices_Concat
theorem b_cadenzaref08_Add : Body pg 65 25 [.cell 6 71] (ac_cadenzaref08_Add 96 98 97 100 99 71 67) := ⟨Tryz.f65, Tryz.func65, by kernel_rfl, by kernel_rfl, by kernel_rfl, by kernel_rfl⟩
theorem b_cadenzaref02_Add : Body pg 98 43 [.cell 4 71] (ac_cadenzaref02_Add 71 5) := ⟨Tryz.f98, Tryz.func98, by kernel_rfl, by kernel_rfl, by kernel_rfl, by kernel_rfl⟩
theorem b_cadenzaref02_Number : Body pg 97 21 [.cell 6 71] (ac_cadenzaref02_Number 98 71) := ⟨Tryz.f97, Tryz.func97, by kernel_rfl, by kernel_rfl, by kernel_rfl, by kernel_rfl⟩
theorem b_cadenzaref07_Add : Body pg 99 28 [.cell 6 71] (ac_cadenzaref07_Add 120 121 97 119 71) := ⟨Tryz.f99, Tryz.func99, by kernel_rfl, by kernel_rfl, by kernel_rfl, by kernel_rfl⟩
theorem b_cadenzaref06_Add : Body pg 121 18 [.cell 4 71] (ac_cadenzaref06_Add 98 71) := ⟨Tryz.f121, Tryz.func121, by kernel_rfl, by kernel_rfl, by kernel_rfl, by kernel_rfl⟩
theorem v_ref08_Add : S_dAdd pg 65 := ref08_Add b_cadenzaref08_Add v_ref08_Low v_ref08_Left b_cadenzaref02_Add b_cadenzaref02_Number b_cadenzaref02_Add b_cadenzaref07_Add v_ref07_Part b_cadenzaref06_Add b_cadenzaref02_Number v_ref07_Power b_cadenzaref02_Add b_cadenzaref02_Add (show aggO Tryz.prog 71 = some (some 2) by kernel_rfl) (show aggO Tryz.prog 71 = some (some 2) by kernel_rfl) (show aggO Tryz.prog 71 = some (some 2) by kernel_rfl) (show aggO Tryz.prog 71 = some (some 2) by kernel_rfl) (show aggO Tryz.prog 71 = some (some 2) by kernel_rfl)
theorem b_cadenzaref20_States : Body pg 64 37 [.tmp 4] (ac_cadenzaref20_States 94 95 67) := ⟨Tryz.f64, Tryz.func64, by kernel_rfl, by kernel_rfl, by kernel_rfl, by kernel_rfl⟩
theorem v_ref20_States : S_rStates pg 64 := ref20_States b_cadenzaref20_States v_ref08_Start v_ref08_Learnt
theorem b_cadenzaref20_Bytes : Body pg 35 69 [.tmp 4] (ac_cadenzaref20_Bytes 64 65 66 71 5) := ⟨Tryz.f35, Tryz.func35, by kernel_rfl, by kernel_rfl, by kernel_rfl, by kernel_rfl⟩
theorem v_ref20_Bytes : S_rBytes pg 35 := ref20_Bytes b_cadenzaref20_Bytes v_ref20_States v_ref08_Add v_ref20_Sealed
theorem b_cadenzaref20_Encode : Body pg 15 22 [.tmp 6, .tmp 7] (ac_cadenzaref20_Encode 34 36 35 45 35) := ⟨Tryz.f15, Tryz.func15, by kernel_rfl, by kernel_rfl, by kernel_rfl, by kernel_rfl⟩
theorem v_ref20_Encode : S_Enc pg 15 := ref20_Encode b_cadenzaref20_Encode v_ref20_Asked v_ref20_Coded v_ref20_Bytes
theorem b_math_bits_Mul64 : Body pg 109 51 [.tmp 4, .tmp 5] ac_math_bits_Mul64 := ⟨Tryz.f109, Tryz.func109, by kernel_rfl, by kernel_rfl, by kernel_rfl, by kernel_rfl⟩
theorem v_math_Mul64 : S_Mul pg 109 := math_Mul64 b_math_bits_Mul64
theorem b_math_bits_Mul : Body pg 74 30 [.tmp 4, .tmp 5] (ac_math_bits_Mul 108 109) := ⟨Tryz.f74, Tryz.func74, by kernel_rfl, by kernel_rfl, by kernel_rfl, by kernel_rfl⟩
theorem v_math_Mul : S_Mul pg 74 := math_Mul b_math_bits_Mul v_math_Mul64
theorem b_slices_Repeat_int_int : Body pg 42 48 [.tmp 4] (ac_slices_Repeat_int_int 74 3) := ⟨Tryz.f42, Tryz.func42, by kernel_rfl, by kernel_rfl, by kernel_rfl, by kernel_rfl⟩
theorem v_slices_Repeat1 : S_Repeat1 3 pg 42 := slices_Repeat1 b_slices_Repeat_int_int v_math_Mul
theorem b_slices_Concat_int_int : Body pg 75 36 [.tmp 2] (ac_slices_Concat_int_int 110 3) := ⟨Tryz.f75, Tryz.func75, by kernel_rfl, by kernel_rfl, by kernel_rfl, by kernel_rfl⟩
theorem growI : S_GrowNilI 3 pg 110 := grow_nilI Tryz.growI rfl rfl (by kernel_rfl)
theorem v_slices_ConcatI : S_ConcatI 3 pg 75 := slices_ConcatI b_slices_Concat_int_int growI
theorem b_lengths_behind : Body pg 43 9 [.tmp 4] (ac_lengths_behind 75 60) := ⟨Tryz.f43, Tryz.func43, by kernel_rfl, by kernel_rfl, by kernel_rfl, by kernel_rfl⟩
theorem v_lengths_behind : S_BehO 3 pg 43 := lengths_behind b_lengths_behind v_slices_ConcatI
theorem b_lengths_All : Body pg 22 39 [.tmp 4, .tmp 5] (ac_lengths_All 38 41 42 43 3) := ⟨Tryz.f22, Tryz.func22, by kernel_rfl, by kernel_rfl, by kernel_rfl, by kernel_rfl⟩
theorem v_lengths_All : S_AllO 3 pg 22 := lengths_All b_lengths_All v_lengths_Count v_lengths_Long v_slices_Repeat1 v_lengths_behind
theorem b_clip_parts_1 : Body pg 21 43 [] (ac_clip_parts_1 22) := ⟨Tryz.f21, Tryz.func21, by kernel_rfl, by kernel_rfl, by kernel_rfl, by kernel_rfl⟩
theorem v_clip_parts1 : S_PartsIt 3 pg 21 := clip_parts1 b_clip_parts_1 v_lengths_All
theorem b_clip_parts : Body pg 10 4 [.tmp 2] (ac_clip_parts 21 24) := ⟨Tryz.f10, Tryz.func10, by kernel_rfl, by kernel_rfl, by kernel_rfl, by kernel_rfl⟩
theorem v_clip_parts : S_Parts24 21 pg 10 := clip_parts b_clip_parts
theorem b_cadenzaref24_Parts : Body pg 31 48 [.tmp 2] (ac_cadenzaref24_Parts 60 24 21 22) := ⟨Tryz.f31, Tryz.func31, by kernel_rfl, by kernel_rfl, by kernel_rfl, by kernel_rfl⟩
theorem v_ref24_Parts : S_RParts pg 31 := ref24_Parts b_cadenzaref24_Parts v_ref22_All
theorem b_cadenzaref24_Split : Body pg 13 9 [.tmp 2, .tmp 3] (ac_cadenzaref24_Split 30 31 24) := ⟨Tryz.f13, Tryz.func13, by kernel_rfl, by kernel_rfl, by kernel_rfl, by kernel_rfl⟩
theorem v_ref24_Split : S_Split pg 13 := ref24_Split b_cadenzaref24_Split v_ref24_Check v_ref24_Parts
theorem b_crc64_table : Body pg 73 25 [.tmp 0] (ac_crc64_table 186) := ⟨Tryz.f73, Tryz.func73, by kernel_rfl, by kernel_rfl, by kernel_rfl, by kernel_rfl⟩
theorem v_crc64_table : S_table6 pg 73 := crc64_table b_crc64_table
theorem b_crc64_behind : Body pg 72 29 [.tmp 6] ac_crc64_behind := ⟨Tryz.f72, Tryz.func72, by kernel_rfl, by kernel_rfl, by kernel_rfl, by kernel_rfl⟩
theorem v_crc64_behind : S_Behind6 pg 72 := crc64_behind b_crc64_behind
theorem b_crc64_Next : Body pg 40 13 [.tmp 4, .tmp 5] (ac_crc64_Next 73 72) := ⟨Tryz.f40, Tryz.func40, by kernel_rfl, by kernel_rfl, by kernel_rfl, by kernel_rfl⟩
theorem v_crc64_Next : S_Next6 pg 40 := crc64_Next b_crc64_Next v_crc64_table v_crc64_behind
theorem b_crc64_Sum : Body pg 19 8 [.tmp 2, .tmp 3] (ac_crc64_Sum 40) := ⟨Tryz.f19, Tryz.func19, by kernel_rfl, by kernel_rfl, by kernel_rfl, by kernel_rfl⟩
theorem v_crc64_Sum : S_Sum6 pg 19 := crc64_Sum b_crc64_Sum v_crc64_Next
theorem b_cadenzaref04_Step : Body pg 131 18 [.tmp 4] ac_cadenzaref04_Step := ⟨Tryz.f131, Tryz.func131, by kernel_rfl, by kernel_rfl, by kernel_rfl, by kernel_rfl⟩
theorem v_ref04_Step : S_Step6 pg 131 := ref04_Step b_cadenzaref04_Step
theorem b_cadenzaref04_Byte : Body pg 117 18 [.tmp 4] (ac_cadenzaref04_Byte 131) := ⟨Tryz.f117, Tryz.func117, by kernel_rfl, by kernel_rfl, by kernel_rfl, by kernel_rfl⟩
theorem v_ref04_Byte : S_Byte6 pg 117 := ref04_Byte b_cadenzaref04_Byte v_ref04_Step
theorem b_cadenzaref04_Behind : Body pg 92 19 [.tmp 4] (ac_cadenzaref04_Behind 117) := ⟨Tryz.f92, Tryz.func92, by kernel_rfl, by kernel_rfl, by kernel_rfl, by kernel_rfl⟩
theorem v_ref04_Behind : S_RBehind6 pg 92 := ref04_Behind b_cadenzaref04_Behind v_ref04_Byte
theorem b_cadenzaref04_Next : Body pg 61 12 [.tmp 4, .tmp 5] (ac_cadenzaref04_Next 92) := ⟨Tryz.f61, Tryz.func61, by kernel_rfl, by kernel_rfl, by kernel_rfl, by kernel_rfl⟩
theorem v_ref04_Next : S_Next6 pg 61 := ref04_Next b_cadenzaref04_Next v_ref04_Behind
theorem b_cadenzaref04_Sum : Body pg 32 8 [.tmp 2, .tmp 3] (ac_cadenzaref04_Sum 61) := ⟨Tryz.f32, Tryz.func32, by kernel_rfl, by kernel_rfl, by kernel_rfl, by kernel_rfl⟩
theorem v_ref04_Sum : S_Sum6 pg 32 := ref04_Sum b_cadenzaref04_Sum v_ref04_Next
theorem b_seed_Of : Body pg 20 18 [.cell 2 35] (ac_seed_Of 35) := ⟨Tryz.f20, Tryz.func20, by kernel_rfl, by kernel_rfl, by kernel_rfl, by kernel_rfl⟩
theorem v_seed_Of : S_Of16 pg 20 := seed_Of b_seed_Of (show aggO Tryz.prog 35 = some (some 16) by kernel_rfl)
theorem b_cadenzaref16_Of : Body pg 33 23 [.cell 2 35] (ac_cadenzaref16_Of 35) := ⟨Tryz.f33, Tryz.func33, by kernel_rfl, by kernel_rfl, by kernel_rfl, by kernel_rfl⟩
theorem v_ref16_Of : S_Of16 pg 33 := ref16_Of b_cadenzaref16_Of (show aggO Tryz.prog 35 = some (some 16) by kernel_rfl)
theorem b_seed_Taps : Body pg 9 22 [.cell 2 35, .tmp 3] (ac_seed_Taps 19 20 35) := ⟨Tryz.f9, Tryz.func9, by kernel_rfl, by kernel_rfl, by kernel_rfl, by kernel_rfl⟩
theorem v_seed_Taps : S_Taps pg 9 := seed_Taps b_seed_Taps v_crc64_Sum v_seed_Of (show aggO Tryz.prog 35 = some (some 16) by kernel_rfl)
theorem b_cadenzaref16_Taps : Body pg 14 18 [.cell 2 35, .tmp 3] (ac_cadenzaref16_Taps 32 33 35) := ⟨Tryz.f14, Tryz.func14, by kernel_rfl, by kernel_rfl, by kernel_rfl, by kernel_rfl⟩
theorem v_ref16_Taps : S_Taps pg 14 := ref16_Taps b_cadenzaref16_Taps v_ref04_Sum v_ref16_Of (show aggO Tryz.prog 35 = some (some 16) by kernel_rfl)
theorem b_clip_Frames : BodyC pg 5 45 [.cell 4 26, .cell 5 27] (ac_clip_Frames 8 9 10 12 11 24 26 27 35 41) := ⟨Tryz.f5, Tryz.func5, by kernel_rfl, by kernel_rfl, by kernel_rfl, by kernel_rfl⟩
theorem v_clip_Frames : S_Frames pg 5 := clip_Frames b_clip_Frames v_clip_Check v_seed_Taps v_clip_parts v_clip_parts1 b_clip_parts_1 v_clip_shape v_enframe_Encode (show aggO Tryz.prog 26 = some none by kernel_rfl) (show aggO Tryz.prog 27 = some none by kernel_rfl) (by decide) (by decide) (by decide) (by decide) (by decide)
theorem b_cadenzaref24_Frames : Body pg 6 51 [.tmp 4, .tmp 5] (ac_cadenzaref24_Frames 13 14 16 15 24 35 41) := ⟨Tryz.f6, Tryz.func6, by kernel_rfl, by kernel_rfl, by kernel_rfl, by kernel_rfl⟩
theorem v_ref24_Frames : S_Frames pg 6 := ref24_Frames b_cadenzaref24_Frames v_ref24_Split v_ref16_Taps v_ref24_Shape v_ref20_Encode
theorem b_cadenzaref24_SameFrames : Body pg 7 28 [.tmp 4] ac_cadenzaref24_SameFrames := ⟨Tryz.f7, Tryz.func7, by kernel_rfl, by kernel_rfl, by kernel_rfl, by kernel_rfl⟩
theorem v_ref24_SameFrames : S_FEq pg 7 := ref24_SameFrames b_cadenzaref24_SameFrames
theorem b_cadenzalaw24_ClipFrames : Body pg 3 37 [.tmp 4] (ac_cadenzalaw24_ClipFrames 4 5 6 7 24) := ⟨Tryz.f3, Tryz.func3, by kernel_rfl, by kernel_rfl, by kernel_rfl, by kernel_rfl⟩
theorem v_law24_ClipFrames : S_LawFrames pg 3 := law24_ClipFrames b_cadenzalaw24_ClipFrames v_ref13_Great v_clip_Frames v_ref24_Frames v_ref24_SameFrames

theorem own : ownKnob Tryz.prog.godebug = none := by kernel_rfl
theorem laid : laidOutB Tryz.prog = true := by kernel_rfl

set_option maxRecDepth 100000 in
theorem contract (H : Type) (enc : TypeId × Value → H) (W : World) (base : Nat) (args : Array Value) (ds gs : List (DataW H)) (before : List MemPlace)
    (hval : ∀ (j : Nat) t v, Tryz.f3.params[j]? = some t → args[j]? = some v → Value.okWide Tryz.prog W .any base t v)
    (hW : DataW.Whole enc Tryz.prog Tryz.f3.params.toList Rows.clipFramesSpec.vars false W args.toList ds gs before) :
    Calls Tryz.prog 3 args W fun e W' => ∃ v, e = .returned v ∧ Rows.clipFramesSpec.post enc Tryz.prog Tryz.f3 false true false false W args v W' := by
  have hW' := hW
  obtain ⟨p, q, hA0, hV, rfl, hfz, hnd⟩ := hW
  have hA : DataW.TrodAll enc Tryz.prog W 0 (fun _ => true) true Tryz.f3.params.toList args.toList ds p := hA0
  rw [Tryz.params3] at hA hval
  obtain ⟨v0, vs0, d0, ds0, p0, q0, hargs, rfl, rfl, h0, r0⟩ := trodAll_cons hA
  obtain ⟨v1, vs1, d1, ds1, p1, q1, rfl, rfl, rfl, h1, r1⟩ := trodAll_cons r0
  obtain ⟨rfl, rfl, rfl⟩ := trodAll_nil r1
  obtain rfl : args = #[v0, v1] := by cases args; simp_all
  obtain ⟨rfl, rfl⟩ := trodVars_none hV
  obtain ⟨as0, r0, q0⟩ := arg_agg (P := Tryz.prog) (k := 8) (s := clSh) (by kernel_rfl) (isStr_eq (by kernel_rfl)) (hval 0 _ v0 rfl rfl) h0
  obtain ⟨c0, x0, t0, l0, rfl, g0⟩ := fits_clip q0
  obtain ⟨s1, l1, r1⟩ := arg_string (P := Tryz.prog) (by kernel_rfl) (hval 1 _ v1 rfl rfl) h1
  refine (calls_true (P := pg) (v_law24_ClipFrames c0 x0 t0 l0 s1 g0) (fun q cs h => by cases h) (args := #[v0, v1]) (by simp only [RepL]; exact ⟨v0, _, rfl, r0, v1, _, rfl, r1, rfl⟩)).mono fun e W' ⟨he, hb⟩ => ?_
  subst he
  exact ⟨_, rfl, post_true laid (by kernel_rfl) (by rfl) (by kernel_rfl) rfl ⟨rfl, rfl, rfl⟩ hW' hb⟩

set_option maxRecDepth 100000 in
theorem lifted (os : Os) (started : os.Started) (H : Type) (enc : TypeId × Value → H) :
    ReturnsInHanded {} Tryz.checked os 3 .any (Rows.clipFramesSpec.pre6 enc Tryz.prog Tryz.f3 Rows.clipFramesRow.domain false) (Rows.clipFramesSpec.post enc Tryz.prog Tryz.f3 false true false false) := by
  refine returnsInHanded_of_change (C := Tryz.checked) own started (by kernel_rfl) Tryz.func3
    (ChangeSpec.witness6 (enc := enc) (C := Tryz.checked) false ⟨#[], #[.agg #[.int .i64 0, .int .i64 0, .int .i64 0, .slice none 0 0], .string ⟨#[]⟩], []⟩ 8 (by kernel_rfl) (by kernel_rfl) (by kernel_rfl) (by kernel_rfl)) ?_
  intro W base args ds gs before hval hW _ _
  exact contract H enc W base args ds gs before hval hW

theorem proved : Rows.ClipFramesSaid :=
  OpenClaim.holds_of_wide 3 Tryz.f3 rfl rfl rfl rfl rfl rfl rfl ⟨rfl, rfl, rfl, rfl, rfl⟩ rfl rfl rfl rfl rfl (by kernel_rfl) Tryz.func3 (by kernel_rfl)
    (of_decide_eq_true (by kernel_rfl)) (by unfold Func.isWrapper; first | (rw [if_pos (by decide +kernel)]; kernel_rfl) | (rw [if_neg (by decide +kernel)]; exact ⟨rfl, rfl⟩))
    (fun os started H enc _ => lifted os started H enc)

end Go.Proofs.YtpanmoedefeniaaGreat.clipFrames

/- For every clip, password, number and list of frames cadenzalaw24.ClipReads returns true and leaves its arguments as they were. No conditions. -/
import Derived.Test.YtpanmoedefeniaaGreatDoorRows
import Derived.Test.YtpanmoedefeniaaGreatDoorCards
import Derived.Test.YtpanmoedefeniaaGreatDoorTie
import Derived.Test.YtpanmoedefeniaaGreatDoorClipReadsY1
import Derived.ChangeSame
import Derived.ChangeVars
import Derived.JoinedOf
import Derived.RowKit
import Derived.RowKitTokens
import Derived.LaidLaws
import Derived.Stop.Joined
import Derived.SevenTiedAt
set_option linter.unusedSectionVars false
set_option linter.unusedSimpArgs false
set_option linter.unusedVariables false
namespace Go.Proofs.YtpanmoedefeniaaGreatDoor.clipReads
open Go.Am Go.ChangeShapes Go.WideShapes Go.ChangeAt Go.RowKit

noncomputable def pg : Prg := ⟨Tryz.prog, [(1, [.int .u8 0, .int .u8 1, .int .u8 56, .int .u8 2, .int .u8 57, .int .u8 49, .int .u8 28, .int .u8 3, .int .u8 61, .int .u8 58, .int .u8 42, .int .u8 50, .int .u8 38, .int .u8 29, .int .u8 17, .int .u8 4, .int .u8 62, .int .u8 47, .int .u8 59, .int .u8 36, .int .u8 45, .int .u8 43, .int .u8 51, .int .u8 22, .int .u8 53, .int .u8 39, .int .u8 33, .int .u8 30, .int .u8 24, .int .u8 18, .int .u8 12, .int .u8 5, .int .u8 63, .int .u8 55, .int .u8 48, .int .u8 27, .int .u8 60, .int .u8 41, .int .u8 37, .int .u8 16, .int .u8 46, .int .u8 35, .int .u8 44, .int .u8 21, .int .u8 52, .int .u8 32, .int .u8 23, .int .u8 11, .int .u8 54, .int .u8 26, .int .u8 40, .int .u8 15, .int .u8 34, .int .u8 20, .int .u8 31, .int .u8 10, .int .u8 25, .int .u8 14, .int .u8 19, .int .u8 9, .int .u8 13, .int .u8 8, .int .u8 7, .int .u8 6])], fun g cs h => by
  simp only [List.lookup] at h
  repeat (first | (cases h; done) | (split at h; first | (cases h; rfl) | skip))⟩

theorem b_le_Value : Body pg 78 31 [.tmp 2, .tmp 3] ac_le_Value := ⟨Tryz.f78, Tryz.func78, by kernel_rfl, by kernel_rfl, by kernel_rfl, by kernel_rfl⟩
theorem v_le_Value : S_le_Value pg 78 := le_Value b_le_Value
theorem b_width_Range : Body pg 74 18 [.tmp 2, .tmp 3, .tmp 4] ac_width_Range := ⟨Tryz.f74, Tryz.func74, by kernel_rfl, by kernel_rfl, by kernel_rfl, by kernel_rfl⟩
theorem v_width_Range : S_Range pg 74 := width_Range b_width_Range
theorem b_cadenzaref18_Half : Body pg 134 10 [.tmp 2] ac_cadenzaref18_Half := ⟨Tryz.f134, Tryz.func134, by kernel_rfl, by kernel_rfl, by kernel_rfl, by kernel_rfl⟩
theorem v_ref18_Half : S_Half pg 134 := ref18_Half b_cadenzaref18_Half
theorem b_width_Check : Body pg 89 37 [.tmp 4] (ac_width_Check 74) := ⟨Tryz.f89, Tryz.func89, by kernel_rfl, by kernel_rfl, by kernel_rfl, by kernel_rfl⟩
theorem v_width_Check : S_WCheck pg 89 := width_Check b_width_Check v_width_Range
theorem b_cadenzaref18_Check : Body pg 98 37 [.tmp 4] (ac_cadenzaref18_Check 134) := ⟨Tryz.f98, Tryz.func98, by kernel_rfl, by kernel_rfl, by kernel_rfl, by kernel_rfl⟩
theorem v_ref18_Check : S_WCheck pg 98 := ref18_Check b_cadenzaref18_Check v_ref18_Half
theorem b_lengths_Long : Body pg 42 14 [.tmp 2, .tmp 3] ac_lengths_Long := ⟨Tryz.f42, Tryz.func42, by kernel_rfl, by kernel_rfl, by kernel_rfl, by kernel_rfl⟩
theorem v_lengths_Long : S_Long22 pg 42 := lengths_Long b_lengths_Long
theorem b_cadenzaref22_Long : Body pg 54 17 [.tmp 2, .tmp 3] ac_cadenzaref22_Long := ⟨Tryz.f54, Tryz.func54, by kernel_rfl, by kernel_rfl, by kernel_rfl, by kernel_rfl⟩
theorem v_ref22_Long : S_Long22 pg 54 := ref22_Long b_cadenzaref22_Long
theorem b_enframe_Check : Body pg 38 25 [.tmp 2] (ac_enframe_Check 74 56) := ⟨Tryz.f38, Tryz.func38, by kernel_rfl, by kernel_rfl, by kernel_rfl, by kernel_rfl⟩
theorem v_enframe_Check : S_ECheck pg 38 := enframe_Check b_enframe_Check v_width_Range
theorem b_cadenzaref20_Check : Body pg 90 17 [.tmp 2] (ac_cadenzaref20_Check 134 56) := ⟨Tryz.f90, Tryz.func90, by kernel_rfl, by kernel_rfl, by kernel_rfl, by kernel_rfl⟩
theorem v_ref20_Check : S_ECheck pg 90 := ref20_Check b_cadenzaref20_Check v_ref18_Half
theorem b_taps_New : Body pg 127 18 [.cell 4 148, .tmp 5] (ac_taps_New 47 148) := ⟨Tryz.f127, Tryz.func127, by kernel_rfl, by kernel_rfl, by kernel_rfl, by kernel_rfl⟩
theorem v_taps_New : S_TNew pg 127 := taps_New b_taps_New (show aggO Tryz.prog 148 = some (some 33) by kernel_rfl)
theorem b_taps_Check : Body pg 191 11 [.tmp 2] (ac_taps_Check 148) := ⟨Tryz.f191, Tryz.func191, by kernel_rfl, by kernel_rfl, by kernel_rfl, by kernel_rfl⟩
theorem v_taps_Check : S_TCheck pg 191 := taps_Check b_taps_Check
theorem b_taps_Guess : Body pg 165 36 [.tmp 2, .tmp 3] (ac_taps_Guess 191 148) := ⟨Tryz.f165, Tryz.func165, by kernel_rfl, by kernel_rfl, by kernel_rfl, by kernel_rfl⟩
theorem v_taps_Guess : S_TGuess pg 165 := taps_Guess b_taps_Guess v_taps_Check
theorem b_taps_step : Body pg 204 9 [.tmp 2] ac_taps_step := ⟨Tryz.f204, Tryz.func204, by kernel_rfl, by kernel_rfl, by kernel_rfl, by kernel_rfl⟩
theorem v_taps_step : S_TStep pg 204 := taps_step b_taps_step
theorem b_taps_Learn : Body pg 192 53 [.cell 4 148, .tmp 5] (ac_taps_Learn 191 204 148) := ⟨Tryz.f192, Tryz.func192, by kernel_rfl, by kernel_rfl, by kernel_rfl, by kernel_rfl⟩
theorem v_taps_Learn : S_TLearn pg 192 := taps_Learn b_taps_Learn (show aggO Tryz.prog 148 = some (some 33) by kernel_rfl) v_taps_Check v_taps_step
theorem b_taps_Push : Body pg 193 22 [.cell 4 148, .tmp 5] (ac_taps_Push 191 148) := ⟨Tryz.f193, Tryz.func193, by kernel_rfl, by kernel_rfl, by kernel_rfl, by kernel_rfl⟩
theorem v_taps_Push : S_TPush pg 193 := taps_Push b_taps_Push (show aggO Tryz.prog 148 = some (some 33) by kernel_rfl) v_taps_Check
theorem b_lms_behind : Body pg 166 20 [.cell 6 148] (ac_lms_behind 192 193 148) := ⟨Tryz.f166, Tryz.func166, by kernel_rfl, by kernel_rfl, by kernel_rfl, by kernel_rfl⟩
theorem v_lms_behind : S_LBehind pg 166 := lms_behind b_lms_behind (show aggO Tryz.prog 148 = some (some 33) by kernel_rfl) v_taps_Learn v_taps_Push
theorem b_lms_Back : Body pg 130 27 [.tmp 4, .cell 5 148, .tmp 6] (ac_lms_Back 165 166 148) := ⟨Tryz.f130, Tryz.func130, by kernel_rfl, by kernel_rfl, by kernel_rfl, by kernel_rfl⟩
theorem v_lms_Back : S_LBack pg 130 := lms_Back b_lms_Back (show aggO Tryz.prog 148 = some (some 33) by kernel_rfl) v_taps_Guess v_lms_behind
theorem b_first_Shift : Body pg 163 10 [.tmp 2, .tmp 3] ac_first_Shift := ⟨Tryz.f163, Tryz.func163, by kernel_rfl, by kernel_rfl, by kernel_rfl, by kernel_rfl⟩
theorem v_first_Shift : S_FShift pg 163 := first_Shift b_first_Shift
theorem b_first_guess : Body pg 164 16 [.tmp 4] ac_first_guess := ⟨Tryz.f164, Tryz.func164, by kernel_rfl, by kernel_rfl, by kernel_rfl, by kernel_rfl⟩
theorem v_first_guess : S_Fguess pg 164 := first_guess b_first_guess
theorem b_first_Guess : Body pg 129 19 [.tmp 4, .tmp 5] (ac_first_Guess 163 164) := ⟨Tryz.f129, Tryz.func129, by kernel_rfl, by kernel_rfl, by kernel_rfl, by kernel_rfl⟩
theorem v_first_Guess : S_FGuess pg 129 := first_Guess b_first_Guess v_first_Shift v_first_guess
theorem b_chain_New : Body pg 85 21 [.cell 4 150, .tmp 5] (ac_chain_New 127 47 150 148) := ⟨Tryz.f85, Tryz.func85, by kernel_rfl, by kernel_rfl, by kernel_rfl, by kernel_rfl⟩
theorem v_chain_New : S_CNew pg 85 := chain_New b_chain_New (show aggO Tryz.prog 150 = some (some 35) by kernel_rfl) v_taps_New
theorem b_chain_Check : Body pg 128 24 [.tmp 2] (ac_chain_Check 127 150 148) := ⟨Tryz.f128, Tryz.func128, by kernel_rfl, by kernel_rfl, by kernel_rfl, by kernel_rfl⟩
theorem v_chain_Check : S_CCheck pg 128 := chain_Check b_chain_Check v_taps_New
theorem b_chain_Back : Body pg 86 46 [.tmp 4, .cell 5 150, .tmp 6] (ac_chain_Back 128 129 130 150 148) := ⟨Tryz.f86, Tryz.func86, by kernel_rfl, by kernel_rfl, by kernel_rfl, by kernel_rfl⟩
theorem v_chain_Back : S_CBack pg 86 := chain_Back b_chain_Back (show aggO Tryz.prog 150 = some (some 35) by kernel_rfl) v_chain_Check v_first_Guess v_lms_Back
theorem b_cadenzaref13_Wrap : Body pg 143 7 [.tmp 2] ac_cadenzaref13_Wrap := ⟨Tryz.f143, Tryz.func143, by kernel_rfl, by kernel_rfl, by kernel_rfl, by kernel_rfl⟩
theorem v_ref13_Wrap : S_Wrap pg 143 := ref13_Wrap b_cadenzaref13_Wrap
theorem b_cadenzaref13_Behind : Body pg 177 26 [.tmp 4] ac_cadenzaref13_Behind := ⟨Tryz.f177, Tryz.func177, by kernel_rfl, by kernel_rfl, by kernel_rfl, by kernel_rfl⟩
theorem v_ref13_Behind : S_Behind pg 177 := ref13_Behind b_cadenzaref13_Behind
theorem b_cadenzaref13_Shift : Body pg 173 12 [.tmp 2, .tmp 3] ac_cadenzaref13_Shift := ⟨Tryz.f173, Tryz.func173, by kernel_rfl, by kernel_rfl, by kernel_rfl, by kernel_rfl⟩
theorem v_ref13_Shift : S_Shift13 pg 173 := ref13_Shift b_cadenzaref13_Shift
theorem b_cadenzaref14_Step : Body pg 196 7 [.tmp 2] ac_cadenzaref14_Step := ⟨Tryz.f196, Tryz.func196, by kernel_rfl, by kernel_rfl, by kernel_rfl, by kernel_rfl⟩
theorem v_ref14_Step : S_R14Step pg 196 := ref14_Step b_cadenzaref14_Step
theorem b_cadenzaref14_Sign : Body pg 197 7 [.tmp 2] ac_cadenzaref14_Sign := ⟨Tryz.f197, Tryz.func197, by kernel_rfl, by kernel_rfl, by kernel_rfl, by kernel_rfl⟩
theorem v_ref14_Sign : S_Sign pg 197 := ref14_Sign b_cadenzaref14_Sign
theorem b_cadenzaref14_Sum : Body pg 195 28 [.tmp 2] (ac_cadenzaref14_Sum 143 148) := ⟨Tryz.f195, Tryz.func195, by kernel_rfl, by kernel_rfl, by kernel_rfl, by kernel_rfl⟩
theorem v_ref14_Sum : S_RSum pg 195 := ref14_Sum b_cadenzaref14_Sum v_ref13_Wrap
theorem b_cadenzaref14_Told : Body pg 174 28 [.tmp 2] (ac_cadenzaref14_Told 195 143 148) := ⟨Tryz.f174, Tryz.func174, by kernel_rfl, by kernel_rfl, by kernel_rfl, by kernel_rfl⟩
theorem v_ref14_Told : S_RTold pg 174 := ref14_Told b_cadenzaref14_Told v_ref14_Sum v_ref13_Wrap
theorem b_cadenzaref14_Learned : Body pg 176 29 [.cell 4 148] (ac_cadenzaref14_Learned 196 197 148) := ⟨Tryz.f176, Tryz.func176, by kernel_rfl, by kernel_rfl, by kernel_rfl, by kernel_rfl⟩
theorem v_ref14_Learned : S_RLearned pg 176 := ref14_Learned b_cadenzaref14_Learned (show aggO Tryz.prog 148 = some (some 33) by kernel_rfl) v_ref14_Step v_ref14_Sign
theorem b_cadenzaref14_Pushed : Body pg 175 22 [.cell 4 148] (ac_cadenzaref14_Pushed 148) := ⟨Tryz.f175, Tryz.func175, by kernel_rfl, by kernel_rfl, by kernel_rfl, by kernel_rfl⟩
theorem v_ref14_Pushed : S_RPushed pg 175 := ref14_Pushed b_cadenzaref14_Pushed (show aggO Tryz.prog 148 = some (some 33) by kernel_rfl)
theorem b_cadenzaref15_Stepped : Body pg 142 20 [.tmp 4, .cell 5 148] (ac_cadenzaref15_Stepped 174 143 176 175 148) := ⟨Tryz.f142, Tryz.func142, by kernel_rfl, by kernel_rfl, by kernel_rfl, by kernel_rfl⟩
theorem v_ref15_Stepped : S_RStepped15 pg 142 := ref15_Stepped b_cadenzaref15_Stepped (show aggO Tryz.prog 148 = some (some 33) by kernel_rfl) v_ref14_Told v_ref13_Wrap v_ref14_Learned v_ref14_Pushed
theorem b_cadenzaref19_behind : Body pg 144 12 [.tmp 2] (ac_cadenzaref19_behind 177 150) := ⟨Tryz.f144, Tryz.func144, by kernel_rfl, by kernel_rfl, by kernel_rfl, by kernel_rfl⟩
theorem v_ref19_behind : S_RBehind19 pg 144 := ref19_behind b_cadenzaref19_behind v_ref13_Behind
theorem b_cadenzaref19_Stepped : Body pg 100 28 [.tmp 4, .cell 5 150] (ac_cadenzaref19_Stepped 142 144 143 150 148) := ⟨Tryz.f100, Tryz.func100, by kernel_rfl, by kernel_rfl, by kernel_rfl, by kernel_rfl⟩
theorem v_ref19_Stepped : S_RStepped19 pg 100 := ref19_Stepped b_cadenzaref19_Stepped (show aggO Tryz.prog 150 = some (some 35) by kernel_rfl) v_ref15_Stepped v_ref19_behind v_ref13_Wrap
theorem b_cadenzaref14_New : Body pg 141 22 [.cell 4 148, .tmp 5] (ac_cadenzaref14_New 173 47 148) := ⟨Tryz.f141, Tryz.func141, by kernel_rfl, by kernel_rfl, by kernel_rfl, by kernel_rfl⟩
theorem v_ref14_New : S_TNew pg 141 := ref14_New b_cadenzaref14_New (show aggO Tryz.prog 148 = some (some 33) by kernel_rfl) v_ref13_Shift
theorem b_cadenzaref19_New : Body pg 99 20 [.cell 4 150, .tmp 5] (ac_cadenzaref19_New 141 47 150 148) := ⟨Tryz.f99, Tryz.func99, by kernel_rfl, by kernel_rfl, by kernel_rfl, by kernel_rfl⟩
theorem v_ref19_New : S_CNew pg 99 := ref19_New b_cadenzaref19_New (show aggO Tryz.prog 150 = some (some 35) by kernel_rfl) v_ref14_New
theorem b_fold_Back : Body pg 87 11 [.tmp 2] ac_fold_Back := ⟨Tryz.f87, Tryz.func87, by kernel_rfl, by kernel_rfl, by kernel_rfl, by kernel_rfl⟩
theorem v_fold_Back : S_UBack pg 87 := fold_Back b_fold_Back
theorem b_cadenzaref05_Back : Body pg 101 15 [.tmp 2] ac_cadenzaref05_Back := ⟨Tryz.f101, Tryz.func101, by kernel_rfl, by kernel_rfl, by kernel_rfl, by kernel_rfl⟩
theorem v_ref05_Back : S_UBack pg 101 := ref05_Back b_cadenzaref05_Back
theorem b_slices_Clone_int32_int32 : Body pg 132 8 [.tmp 2] (ac_slices_Clone_int32_int32 21) := ⟨Tryz.f132, Tryz.func132, by kernel_rfl, by kernel_rfl, by kernel_rfl, by kernel_rfl⟩
theorem v_clone_i32 : S_CloneA 21 pg 132 := clone_i32 b_slices_Clone_int32_int32
theorem b_mix_check : Body pg 131 22 [.tmp 4] ac_mix_check := ⟨Tryz.f131, Tryz.func131, by kernel_rfl, by kernel_rfl, by kernel_rfl, by kernel_rfl⟩
theorem v_mix_check : S_MCheck pg 131 := mix_check b_mix_check
theorem b_cadenzaref17_Check : Body pg 145 19 [.tmp 4] ac_cadenzaref17_Check := ⟨Tryz.f145, Tryz.func145, by kernel_rfl, by kernel_rfl, by kernel_rfl, by kernel_rfl⟩
theorem v_ref17_Check : S_MCheck pg 145 := ref17_Check b_cadenzaref17_Check
theorem b_cadenzaref13_Same : Body pg 27 26 [.tmp 4] ac_cadenzaref13_Same := ⟨Tryz.f27, Tryz.func27, by kernel_rfl, by kernel_rfl, by kernel_rfl, by kernel_rfl⟩
theorem v_ref13_Same : S_ISame pg 27 := ref13_Same b_cadenzaref13_Same
theorem b_mix_unmix : Body pg 133 40 [] ac_mix_unmix := ⟨Tryz.f133, Tryz.func133, by kernel_rfl, by kernel_rfl, by kernel_rfl, by kernel_rfl⟩
theorem v_mix_unmix : S_Unmix pg 133 := mix_unmix b_mix_unmix
theorem b_mix_Undo : Body pg 88 32 [.tmp 4, .tmp 5] (ac_mix_Undo 131 132 133) := ⟨Tryz.f88, Tryz.func88, by kernel_rfl, by kernel_rfl, by kernel_rfl, by kernel_rfl⟩
theorem v_mix_Undo : S_MixUndo pg 88 := mix_Undo b_mix_Undo v_mix_check v_clone_i32 v_mix_unmix
theorem b_cadenzaref17_Unmixed : Body pg 146 63 [.tmp 2] (ac_cadenzaref17_Unmixed 143 21) := ⟨Tryz.f146, Tryz.func146, by kernel_rfl, by kernel_rfl, by kernel_rfl, by kernel_rfl⟩
theorem v_ref17_Unmixed : S_RUnmixed pg 146 := ref17_Unmixed b_cadenzaref17_Unmixed v_ref13_Wrap
theorem b_cadenzaref17_Undo : Body pg 102 32 [.tmp 4, .tmp 5] (ac_cadenzaref17_Undo 145 146 21) := ⟨Tryz.f102, Tryz.func102, by kernel_rfl, by kernel_rfl, by kernel_rfl, by kernel_rfl⟩
theorem v_ref17_Undo : S_MixUndo pg 102 := ref17_Undo b_cadenzaref17_Undo v_ref17_Check v_ref17_Unmixed
theorem b_deframe_samples : Body pg 49 84 [.tmp 6, .tmp 7] (ac_deframe_samples 85 87 86 88 89 56 47 151 150 21) := ⟨Tryz.f49, Tryz.func49, by kernel_rfl, by kernel_rfl, by kernel_rfl, by kernel_rfl⟩
theorem v_deframe_samples : S_DSam pg 49 := deframe_samples b_deframe_samples v_chain_New v_fold_Back v_chain_Back v_mix_Undo v_width_Check
theorem b_cadenzaref21_Undone : Body pg 58 64 [.tmp 6] (ac_cadenzaref21_Undone 99 101 100 102 56 47 21 150) := ⟨Tryz.f58, Tryz.func58, by kernel_rfl, by kernel_rfl, by kernel_rfl, by kernel_rfl⟩
theorem v_ref21_Undone : S_RUndone pg 58 := ref21_Undone b_cadenzaref21_Undone v_ref19_New v_ref05_Back v_ref19_Stepped v_ref17_Undo
theorem b_cadenzaref21_ranged : Body pg 57 15 [.tmp 4, .tmp 5] (ac_cadenzaref21_ranged 98 56) := ⟨Tryz.f57, Tryz.func57, by kernel_rfl, by kernel_rfl, by kernel_rfl, by kernel_rfl⟩
theorem v_ref21_ranged : S_Ranged pg 57 := ref21_ranged b_cadenzaref21_ranged v_ref18_Check
theorem b_lengths_Count : Body pg 39 32 [.tmp 4, .tmp 5] (ac_lengths_Count 42) := ⟨Tryz.f39, Tryz.func39, by kernel_rfl, by kernel_rfl, by kernel_rfl, by kernel_rfl⟩
theorem v_lengths_Count : S_Count22 pg 39 := lengths_Count b_lengths_Count v_lengths_Long
theorem b_clip_shape : Body pg 20 8 [.cell 2 56] (ac_clip_shape 24 56) := ⟨Tryz.f20, Tryz.func20, by kernel_rfl, by kernel_rfl, by kernel_rfl, by kernel_rfl⟩
theorem v_clip_shape : S_Shape24 pg 20 := clip_shape b_clip_shape (show aggO Tryz.prog 56 = some (some 2) by kernel_rfl)
theorem b_cadenzaref24_Shape : Body pg 25 8 [.cell 2 56] (ac_cadenzaref24_Shape 24 56) := ⟨Tryz.f25, Tryz.func25, by kernel_rfl, by kernel_rfl, by kernel_rfl, by kernel_rfl⟩
theorem v_ref24_Shape : S_Shape24 pg 25 := ref24_Shape b_cadenzaref24_Shape (show aggO Tryz.prog 56 = some (some 2) by kernel_rfl)
theorem b_clip_head : Body pg 16 31 [.tmp 4] (ac_clip_head 20 38 39 24) := ⟨Tryz.f16, Tryz.func16, by kernel_rfl, by kernel_rfl, by kernel_rfl, by kernel_rfl⟩
theorem v_clip_head : S_CHead pg 16 := clip_head b_clip_head v_clip_shape v_enframe_Check v_lengths_Count
theorem b_cadenzaref21_Asked : Body pg 50 19 [.tmp 4] (ac_cadenzaref21_Asked 90 56) := ⟨Tryz.f50, Tryz.func50, by kernel_rfl, by kernel_rfl, by kernel_rfl, by kernel_rfl⟩
theorem v_ref21_Asked : S_Ask21 pg 50 := ref21_Asked b_cadenzaref21_Asked v_ref20_Check
theorem b_cadenzaref22_All : Body pg 23 41 [.tmp 4, .tmp 5] (ac_cadenzaref22_All 54 3) := ⟨Tryz.f23, Tryz.func23, by kernel_rfl, by kernel_rfl, by kernel_rfl, by kernel_rfl⟩
theorem v_ref22_All : S_All22 pg 23 := ref22_All b_cadenzaref22_All v_ref22_Long
theorem b_cadenzaref22_Count : Body pg 51 17 [.tmp 4, .tmp 5] (ac_cadenzaref22_Count 23) := ⟨Tryz.f51, Tryz.func51, by kernel_rfl, by kernel_rfl, by kernel_rfl, by kernel_rfl⟩
theorem v_ref22_Count : S_Count22 pg 51 := ref22_Count b_cadenzaref22_Count v_ref22_All
theorem b_cadenzaref24_Head : Body pg 21 21 [.tmp 4] (ac_cadenzaref24_Head 25 50 51 24) := ⟨Tryz.f21, Tryz.func21, by kernel_rfl, by kernel_rfl, by kernel_rfl, by kernel_rfl⟩
theorem v_ref24_Head : S_RHead24 pg 21 := ref24_Head b_cadenzaref24_Head v_ref24_Shape v_ref21_Asked v_ref22_Count
theorem b_cadenzaref24_With : Body pg 26 13 [.cell 4 24] (ac_cadenzaref24_With 24) := ⟨Tryz.f26, Tryz.func26, by kernel_rfl, by kernel_rfl, by kernel_rfl, by kernel_rfl⟩
theorem v_ref24_With : S_With24 pg 26 := ref24_With b_cadenzaref24_With (show aggO Tryz.prog 24 = some (some 4) by kernel_rfl)
theorem b_cadenzaref24_Same : Body pg 8 31 [.tmp 4] (ac_cadenzaref24_Same 27 24) := ⟨Tryz.f8, Tryz.func8, by kernel_rfl, by kernel_rfl, by kernel_rfl, by kernel_rfl⟩
theorem v_ref24_Same : S_CSame pg 8 := ref24_Same b_cadenzaref24_Same v_ref13_Same
theorem b_crc32_table : Body pg 155 24 [.tmp 0] (ac_crc32_table 258) := ⟨Tryz.f155, Tryz.func155, by kernel_rfl, by kernel_rfl, by kernel_rfl, by kernel_rfl⟩
theorem v_crc32_table : S_table pg 155 := crc32_table b_crc32_table
theorem b_crc32_Next : Body pg 112 32 [.tmp 4, .tmp 5] (ac_crc32_Next 155) := ⟨Tryz.f112, Tryz.func112, by kernel_rfl, by kernel_rfl, by kernel_rfl, by kernel_rfl⟩
theorem v_crc32_Next : S_CNext pg 112 := crc32_Next b_crc32_Next v_crc32_table
theorem b_crc32_Sum : Body pg 64 16 [.tmp 2, .tmp 3] (ac_crc32_Sum 112) := ⟨Tryz.f64, Tryz.func64, by kernel_rfl, by kernel_rfl, by kernel_rfl, by kernel_rfl⟩
theorem v_crc32_Sum : S_CSum pg 64 := crc32_Sum b_crc32_Sum v_crc32_Next
theorem b_cadenzaref03_Step : Body pg 203 19 [.tmp 4] ac_cadenzaref03_Step := ⟨Tryz.f203, Tryz.func203, by kernel_rfl, by kernel_rfl, by kernel_rfl, by kernel_rfl⟩
theorem v_ref03_Step : S_Step pg 203 := ref03_Step b_cadenzaref03_Step
theorem b_cadenzaref03_Byte : Body pg 188 18 [.tmp 4] (ac_cadenzaref03_Byte 203) := ⟨Tryz.f188, Tryz.func188, by kernel_rfl, by kernel_rfl, by kernel_rfl, by kernel_rfl⟩
theorem v_ref03_Byte : S_Byte pg 188 := ref03_Byte b_cadenzaref03_Byte v_ref03_Step
theorem b_cadenzaref03_Behind : Body pg 159 19 [.tmp 4] (ac_cadenzaref03_Behind 188) := ⟨Tryz.f159, Tryz.func159, by kernel_rfl, by kernel_rfl, by kernel_rfl, by kernel_rfl⟩
theorem v_ref03_Behind : S_Behind3 pg 159 := ref03_Behind b_cadenzaref03_Behind v_ref03_Byte
theorem b_cadenzaref03_Of : Body pg 116 6 [.tmp 2] (ac_cadenzaref03_Of 159) := ⟨Tryz.f116, Tryz.func116, by kernel_rfl, by kernel_rfl, by kernel_rfl, by kernel_rfl⟩
theorem v_ref03_Of : S_COf pg 116 := ref03_Of b_cadenzaref03_Of v_ref03_Behind
theorem b_bits_Check : Body pg 83 40 [.tmp 2] (ac_bits_Check 92) := ⟨Tryz.f83, Tryz.func83, by kernel_rfl, by kernel_rfl, by kernel_rfl, by kernel_rfl⟩
theorem v_bits_Check : S_bCheck pg 83 := bits_Check b_bits_Check
theorem b_bits_get : Body pg 84 47 [.tmp 6] (ac_bits_get 92) := ⟨Tryz.f84, Tryz.func84, by kernel_rfl, by kernel_rfl, by kernel_rfl, by kernel_rfl⟩
theorem v_bits_get : S_bget pg 84 := bits_get b_bits_get
theorem b_bits_Get : Body pg 48 34 [.tmp 6, .tmp 7] (ac_bits_Get 83 84 92) := ⟨Tryz.f48, Tryz.func48, by kernel_rfl, by kernel_rfl, by kernel_rfl, by kernel_rfl⟩
theorem v_bits_Get : S_bGet pg 48 := bits_Get b_bits_Get v_bits_Check v_bits_get
theorem b_cadenzaref02_At : Body pg 97 24 [.tmp 4] (ac_cadenzaref02_At 92) := ⟨Tryz.f97, Tryz.func97, by kernel_rfl, by kernel_rfl, by kernel_rfl, by kernel_rfl⟩
theorem v_ref02_At : S_At2 pg 97 := ref02_At b_cadenzaref02_At
theorem b_cadenzaref02_Value : Body pg 138 25 [.tmp 6] (ac_cadenzaref02_Value 97 92) := ⟨Tryz.f138, Tryz.func138, by kernel_rfl, by kernel_rfl, by kernel_rfl, by kernel_rfl⟩
theorem v_ref02_Value : S_Value2 pg 138 := ref02_Value b_cadenzaref02_Value v_ref02_At
theorem b_math_bits_TrailingZeros64 : Body pg 190 14 [.tmp 2] (ac_math_bits_TrailingZeros64 1) := ⟨Tryz.f190, Tryz.func190, by kernel_rfl, by kernel_rfl, by kernel_rfl, by kernel_rfl⟩
theorem v_bits_TZ : S_TZ pg 190 := bits_TZ b_math_bits_TrailingZeros64 (show pg.G.lookup 1 = some dbG by rfl)
theorem b_unary_Read_1 : Body pg 189 8 [.tmp 2] ac_unary_Read_1 := ⟨Tryz.f189, Tryz.func189, by kernel_rfl, by kernel_rfl, by kernel_rfl, by kernel_rfl⟩
theorem v_unary_take : S_take48 pg 189 := unary_take b_unary_Read_1
theorem b_unary_Read : Body pg 160 53 [.tmp 4, .tmp 5, .tmp 6] (ac_unary_Read 83 189 48 190 92 3) := ⟨Tryz.f160, Tryz.func160, by kernel_rfl, by kernel_rfl, by kernel_rfl, by kernel_rfl⟩
theorem v_unary_Read : S_uRead pg 160 := unary_Read b_unary_Read v_bits_Check v_unary_take v_bits_Get v_bits_TZ
theorem b_cadenzaref06_Got : Body pg 171 44 [.tmp 4, .tmp 5] (ac_cadenzaref06_Got 97 92) := ⟨Tryz.f171, Tryz.func171, by kernel_rfl, by kernel_rfl, by kernel_rfl, by kernel_rfl⟩
theorem v_ref06_Got : S_Got6 pg 171 := ref06_Got b_cadenzaref06_Got v_ref02_At
theorem b_cadenzaref07_Power : Body pg 140 13 [.tmp 2] ac_cadenzaref07_Power := ⟨Tryz.f140, Tryz.func140, by kernel_rfl, by kernel_rfl, by kernel_rfl, by kernel_rfl⟩
theorem v_ref07_Power : S_Power pg 140 := ref07_Power b_cadenzaref07_Power
theorem b_dual_Start : Body pg 80 2 [.cell 0 139] (ac_dual_Start 139) := ⟨Tryz.f80, Tryz.func80, by kernel_rfl, by kernel_rfl, by kernel_rfl, by kernel_rfl⟩
theorem v_dual_Start : S_Start pg 80 := dual_Start b_dual_Start (show aggO Tryz.prog 139 = some (some 4) by kernel_rfl)
theorem b_cadenzaref08_Start : Body pg 93 2 [.cell 0 139] (ac_cadenzaref08_Start 139) := ⟨Tryz.f93, Tryz.func93, by kernel_rfl, by kernel_rfl, by kernel_rfl, by kernel_rfl⟩
theorem v_ref08_Start : S_Start pg 93 := ref08_Start b_cadenzaref08_Start (show aggO Tryz.prog 139 = some (some 4) by kernel_rfl)
theorem b_dual_Check : Body pg 124 26 [.tmp 2] (ac_dual_Check 139) := ⟨Tryz.f124, Tryz.func124, by kernel_rfl, by kernel_rfl, by kernel_rfl, by kernel_rfl⟩
theorem v_dual_Check : S_DCheck pg 124 := dual_Check b_dual_Check
theorem b_cadenzaref08_Low : Body pg 168 11 [.tmp 4] (ac_cadenzaref08_Low 140 139) := ⟨Tryz.f168, Tryz.func168, by kernel_rfl, by kernel_rfl, by kernel_rfl, by kernel_rfl⟩
theorem v_ref08_Low : S_Low8 pg 168 := ref08_Low b_cadenzaref08_Low v_ref07_Power
theorem b_cadenzaref08_Left : Body pg 170 12 [.tmp 4] (ac_cadenzaref08_Left 140 139) := ⟨Tryz.f170, Tryz.func170, by kernel_rfl, by kernel_rfl, by kernel_rfl, by kernel_rfl⟩
theorem v_ref08_Left : S_Left8 pg 170 := ref08_Left b_cadenzaref08_Left v_ref07_Power
theorem b_cadenzaref08_pair : Body pg 169 40 [.tmp 6, .tmp 7] (ac_cadenzaref08_pair 140) := ⟨Tryz.f169, Tryz.func169, by kernel_rfl, by kernel_rfl, by kernel_rfl, by kernel_rfl⟩
theorem v_ref08_pair : S_pair8 pg 169 := ref08_pair b_cadenzaref08_pair v_ref07_Power
theorem b_cadenzaref08_Learnt : Body pg 136 38 [.cell 4 139] (ac_cadenzaref08_Learnt 168 170 169 139) := ⟨Tryz.f136, Tryz.func136, by kernel_rfl, by kernel_rfl, by kernel_rfl, by kernel_rfl⟩
theorem v_ref08_Learnt : S_Learnt pg 136 := ref08_Learnt b_cadenzaref08_Learnt v_ref08_Low v_ref08_Left v_ref08_pair (show aggO Tryz.prog 139 = some (some 4) by kernel_rfl)
theorem b_dual_level : Body pg 151 17 [.tmp 4, .tmp 5] (ac_dual_level 139) := ⟨Tryz.f151, Tryz.func151, by kernel_rfl, by kernel_rfl, by kernel_rfl, by kernel_rfl⟩
theorem v_dual_level : S_Level pg 151 := dual_level b_dual_level
theorem b_rice_escaped : Body pg 161 9 [.tmp 4] ac_rice_escaped := ⟨Tryz.f161, Tryz.func161, by kernel_rfl, by kernel_rfl, by kernel_rfl, by kernel_rfl⟩
theorem v_rice_esc : S_esc pg 161 := rice_esc b_rice_escaped
theorem b_rice_Read : Body pg 125 68 [.tmp 6, .tmp 7, .tmp 8] (ac_rice_Read 83 160 48 161 92) := ⟨Tryz.f125, Tryz.func125, by kernel_rfl, by kernel_rfl, by kernel_rfl, by kernel_rfl⟩
theorem v_rice_Read : S_rRead pg 125 := rice_Read b_rice_Read v_bits_Check v_unary_Read v_bits_Get v_rice_esc
theorem b_cadenzaref07_Part : Body pg 172 12 [.tmp 4] (ac_cadenzaref07_Part 140) := ⟨Tryz.f172, Tryz.func172, by kernel_rfl, by kernel_rfl, by kernel_rfl, by kernel_rfl⟩
theorem v_ref07_Part : S_Part7 pg 172 := ref07_Part b_cadenzaref07_Part v_ref07_Power
theorem b_cadenzaref07_Got : Body pg 139 64 [.tmp 6, .tmp 7, .tmp 8] (ac_cadenzaref07_Got 171 138 140 172 92) := ⟨Tryz.f139, Tryz.func139, by kernel_rfl, by kernel_rfl, by kernel_rfl, by kernel_rfl⟩
theorem v_ref07_Got : S_Got7 pg 139 := ref07_Got b_cadenzaref07_Got v_ref06_Got v_ref02_Value v_ref07_Power v_ref07_Part
theorem b_cadenzaref08_Got : Body pg 96 65 [.tmp 6, .tmp 7, .tmp 8] (ac_cadenzaref08_Got 97 138 139 140 92 139) := ⟨Tryz.f96, Tryz.func96, by kernel_rfl, by kernel_rfl, by kernel_rfl, by kernel_rfl⟩
theorem v_ref08_Got : S_Got8 pg 96 := ref08_Got b_cadenzaref08_Got v_ref02_At v_ref02_Value v_ref07_Got v_ref07_Power
theorem b_dual_Read : Body pg 82 86 [.tmp 6, .tmp 7, .cell 8 139, .tmp 9] (ac_dual_Read 83 124 48 125 126 92 139) := ⟨Tryz.f82, Tryz.func82, by kernel_rfl, by kernel_rfl, by kernel_rfl, by kernel_rfl⟩
theorem b_dual_learn : Body pg 126 36 [] (ac_dual_learn 162 151) := ⟨Tryz.f126, Tryz.func126, by kernel_rfl, by kernel_rfl, by kernel_rfl, by kernel_rfl⟩
theorem b_dual_learn_1 : Body pg 162 58 [] ac_dual_learn_1 := ⟨Tryz.f162, Tryz.func162, by kernel_rfl, by kernel_rfl, by kernel_rfl, by kernel_rfl⟩
theorem v_dual_Read : S_dRead pg 82 := dual_Read b_dual_Read v_bits_Check v_dual_Check v_bits_Get v_rice_Read b_dual_learn b_dual_learn_1 v_dual_level (show aggO Tryz.prog 139 = some (some 4) by kernel_rfl)
theorem b_slices_Clone_byte_byte : Body pg 79 8 [.tmp 2] (ac_slices_Clone_byte_byte 5) := ⟨Tryz.f79, Tryz.func79, by kernel_rfl, by kernel_rfl, by kernel_rfl, by kernel_rfl⟩
theorem v_slices_Clone : S_bytes_Clone pg 79 := slices_Clone b_slices_Clone_byte_byte
theorem b_bits_Of : Body pg 46 14 [.cell 2 92, .tmp 3] (ac_bits_Of 79 92) := ⟨Tryz.f46, Tryz.func46, by kernel_rfl, by kernel_rfl, by kernel_rfl, by kernel_rfl⟩
theorem v_bits_Of : S_bOf pg 46 := bits_Of b_bits_Of v_slices_Clone (show aggO Tryz.prog 92 = some (some 2) by kernel_rfl)
theorem b_bits_Cut : Body pg 81 46 [.cell 6 92, .tmp 7] (ac_bits_Cut 83 84 123 92) := ⟨Tryz.f81, Tryz.func81, by kernel_rfl, by kernel_rfl, by kernel_rfl, by kernel_rfl⟩
theorem b_bits_put : Body pg 123 75 [] (ac_bits_put 5) := ⟨Tryz.f123, Tryz.func123, by kernel_rfl, by kernel_rfl, by kernel_rfl, by kernel_rfl⟩
theorem v_bits_Cut : S_Cut pg 81 := bits_Cut b_bits_Cut v_bits_Check v_bits_get b_bits_put (show aggO Tryz.prog 92 = some (some 2) by kernel_rfl)
theorem b_cadenzaref02_Between : Body pg 95 21 [.cell 6 92] (ac_cadenzaref02_Between 97 137 92) := ⟨Tryz.f95, Tryz.func95, by kernel_rfl, by kernel_rfl, by kernel_rfl, by kernel_rfl⟩
theorem b_cadenzaref02_Add : Body pg 137 43 [.cell 4 92] (ac_cadenzaref02_Add 92 5) := ⟨Tryz.f137, Tryz.func137, by kernel_rfl, by kernel_rfl, by kernel_rfl, by kernel_rfl⟩
theorem v_ref02_Between : S_Between pg 95 := ref02_Between b_cadenzaref02_Between v_ref02_At b_cadenzaref02_Add (show aggO Tryz.prog 92 = some (some 2) by kernel_rfl) (show aggO Tryz.prog 92 = some (some 2) by kernel_rfl)
theorem b_cadenzaref21_States : Body pg 94 26 [.cell 4 139] (ac_cadenzaref21_States 93 136 139) := ⟨Tryz.f94, Tryz.func94, by kernel_rfl, by kernel_rfl, by kernel_rfl, by kernel_rfl⟩
theorem v_ref21_States : S_States pg 94 := ref21_States b_cadenzaref21_States v_ref08_Start v_ref08_Learnt (show aggO Tryz.prog 139 = some (some 4) by kernel_rfl)
theorem b_cadenzaref20_Sealed : Body pg 92 22 [.tmp 2] (ac_cadenzaref20_Sealed 116 5) := ⟨Tryz.f92, Tryz.func92, by kernel_rfl, by kernel_rfl, by kernel_rfl, by kernel_rfl⟩
theorem v_ref20_Sealed : S_Sealed pg 92 := ref20_Sealed b_cadenzaref20_Sealed v_ref03_Of
theorem b_deframe_opened : Body pg 45 46 [.tmp 2, .tmp 3] (ac_deframe_opened 64 78) := ⟨Tryz.f45, Tryz.func45, by kernel_rfl, by kernel_rfl, by kernel_rfl, by kernel_rfl⟩
theorem v_deframe_opened : S_opened pg 45 := deframe_opened b_deframe_opened v_crc32_Sum v_le_Value
theorem b_cadenzaref21_Opened : Body pg 55 19 [.tmp 2] (ac_cadenzaref21_Opened 92) := ⟨Tryz.f55, Tryz.func55, by kernel_rfl, by kernel_rfl, by kernel_rfl, by kernel_rfl⟩
theorem v_ref21_Opened : S_Opened pg 55 := ref21_Opened b_cadenzaref21_Opened v_ref20_Sealed
theorem b_deframe_values : Body pg 47 76 [.tmp 6, .tmp 7, .tmp 8] (ac_deframe_values 80 81 82 92 140 139 117) := ⟨Tryz.f47, Tryz.func47, by kernel_rfl, by kernel_rfl, by kernel_rfl, by kernel_rfl⟩
theorem v_deframe_values : S_dVals pg 47 := deframe_values b_deframe_values v_dual_Start v_bits_Cut v_dual_Read
theorem b_cadenzaref21_Read : Body pg 56 80 [.tmp 6, .tmp 7] (ac_cadenzaref21_Read 93 94 95 96 97 92 139 117) := ⟨Tryz.f56, Tryz.func56, by kernel_rfl, by kernel_rfl, by kernel_rfl, by kernel_rfl⟩
theorem v_ref21_Read : S_RRead pg 56 := ref21_Read b_cadenzaref21_Read v_ref08_Start v_ref21_States v_ref02_Between v_ref08_Got v_ref02_At
theorem b_cadenzaref21_Decode : Body pg 24 44 [.tmp 8, .tmp 9] (ac_cadenzaref21_Decode 50 55 56 58 57 56 47) := ⟨Tryz.f24, Tryz.func24, by kernel_rfl, by kernel_rfl, by kernel_rfl, by kernel_rfl⟩
theorem v_ref21_Decode : S_Decode pg 24 := ref21_Decode b_cadenzaref21_Decode v_ref21_Asked v_ref21_Opened v_ref21_Read v_ref21_Undone v_ref21_ranged
theorem b_deframe_Decode : Body pg 19 87 [.tmp 8, .tmp 9] (ac_deframe_Decode 38 45 46 47 48 49 56 47 92) := ⟨Tryz.f19, Tryz.func19, by kernel_rfl, by kernel_rfl, by kernel_rfl, by kernel_rfl⟩
theorem v_deframe_Decode : S_Decode pg 19 := deframe_Decode b_deframe_Decode v_enframe_Check v_deframe_opened v_bits_Of v_deframe_values v_bits_Get v_deframe_samples
theorem b_math_bits_Mul64 : Body pg 121 51 [.tmp 4, .tmp 5] ac_math_bits_Mul64 := ⟨Tryz.f121, Tryz.func121, by kernel_rfl, by kernel_rfl, by kernel_rfl, by kernel_rfl⟩
theorem v_math_Mul64 : S_Mul pg 121 := math_Mul64 b_math_bits_Mul64
theorem b_math_bits_Mul : Body pg 76 30 [.tmp 4, .tmp 5] (ac_math_bits_Mul 120 121) := ⟨Tryz.f76, Tryz.func76, by kernel_rfl, by kernel_rfl, by kernel_rfl, by kernel_rfl⟩
theorem v_math_Mul : S_Mul pg 76 := math_Mul b_math_bits_Mul v_math_Mul64
theorem b_slices_Repeat_int_int : Body pg 43 48 [.tmp 4] (ac_slices_Repeat_int_int 76 3) := ⟨Tryz.f43, Tryz.func43, by kernel_rfl, by kernel_rfl, by kernel_rfl, by kernel_rfl⟩
theorem v_slices_Repeat1 : S_Repeat1 3 pg 43 := slices_Repeat1 b_slices_Repeat_int_int v_math_Mul
theorem b_slices_Concat_int_int : Body pg 77 36 [.tmp 2] (ac_slices_Concat_int_int 122 3) := ⟨Tryz.f77, Tryz.func77, by kernel_rfl, by kernel_rfl, by kernel_rfl, by kernel_rfl⟩
theorem growI : S_GrowNilI 3 pg 122 := grow_nilI Tryz.growI rfl rfl (by kernel_rfl)
theorem v_slices_ConcatI : S_ConcatI 3 pg 77 := slices_ConcatI b_slices_Concat_int_int growI
theorem b_lengths_behind : Body pg 44 9 [.tmp 4] (ac_lengths_behind 77 50) := ⟨Tryz.f44, Tryz.func44, by kernel_rfl, by kernel_rfl, by kernel_rfl, by kernel_rfl⟩
theorem v_lengths_behind : S_BehO 3 pg 44 := lengths_behind b_lengths_behind v_slices_ConcatI
theorem b_lengths_All : Body pg 18 39 [.tmp 4, .tmp 5] (ac_lengths_All 39 42 43 44 3) := ⟨Tryz.f18, Tryz.func18, by kernel_rfl, by kernel_rfl, by kernel_rfl, by kernel_rfl⟩
theorem v_lengths_All : S_AllO 3 pg 18 := lengths_All b_lengths_All v_lengths_Count v_lengths_Long v_slices_Repeat1 v_lengths_behind
theorem b_crc64_table : Body pg 119 25 [.tmp 0] (ac_crc64_table 237) := ⟨Tryz.f119, Tryz.func119, by kernel_rfl, by kernel_rfl, by kernel_rfl, by kernel_rfl⟩
theorem v_crc64_table : S_table6 pg 119 := crc64_table b_crc64_table
theorem b_crc64_behind : Body pg 118 29 [.tmp 6] ac_crc64_behind := ⟨Tryz.f118, Tryz.func118, by kernel_rfl, by kernel_rfl, by kernel_rfl, by kernel_rfl⟩
theorem v_crc64_behind : S_Behind6 pg 118 := crc64_behind b_crc64_behind
theorem b_crc64_Next : Body pg 75 13 [.tmp 4, .tmp 5] (ac_crc64_Next 119 118) := ⟨Tryz.f75, Tryz.func75, by kernel_rfl, by kernel_rfl, by kernel_rfl, by kernel_rfl⟩
theorem v_crc64_Next : S_Next6 pg 75 := crc64_Next b_crc64_Next v_crc64_table v_crc64_behind
theorem b_crc64_Sum : Body pg 40 8 [.tmp 2, .tmp 3] (ac_crc64_Sum 75) := ⟨Tryz.f40, Tryz.func40, by kernel_rfl, by kernel_rfl, by kernel_rfl, by kernel_rfl⟩
theorem v_crc64_Sum : S_Sum6 pg 40 := crc64_Sum b_crc64_Sum v_crc64_Next
theorem b_cadenzaref04_Step : Body pg 194 18 [.tmp 4] ac_cadenzaref04_Step := ⟨Tryz.f194, Tryz.func194, by kernel_rfl, by kernel_rfl, by kernel_rfl, by kernel_rfl⟩
theorem v_ref04_Step : S_Step6 pg 194 := ref04_Step b_cadenzaref04_Step
theorem b_cadenzaref04_Byte : Body pg 167 18 [.tmp 4] (ac_cadenzaref04_Byte 194) := ⟨Tryz.f167, Tryz.func167, by kernel_rfl, by kernel_rfl, by kernel_rfl, by kernel_rfl⟩
theorem v_ref04_Byte : S_Byte6 pg 167 := ref04_Byte b_cadenzaref04_Byte v_ref04_Step
theorem b_cadenzaref04_Behind : Body pg 135 19 [.tmp 4] (ac_cadenzaref04_Behind 167) := ⟨Tryz.f135, Tryz.func135, by kernel_rfl, by kernel_rfl, by kernel_rfl, by kernel_rfl⟩
theorem v_ref04_Behind : S_RBehind6 pg 135 := ref04_Behind b_cadenzaref04_Behind v_ref04_Byte
theorem b_cadenzaref04_Next : Body pg 91 12 [.tmp 4, .tmp 5] (ac_cadenzaref04_Next 135) := ⟨Tryz.f91, Tryz.func91, by kernel_rfl, by kernel_rfl, by kernel_rfl, by kernel_rfl⟩
theorem v_ref04_Next : S_Next6 pg 91 := ref04_Next b_cadenzaref04_Next v_ref04_Behind
theorem b_cadenzaref04_Sum : Body pg 52 8 [.tmp 2, .tmp 3] (ac_cadenzaref04_Sum 91) := ⟨Tryz.f52, Tryz.func52, by kernel_rfl, by kernel_rfl, by kernel_rfl, by kernel_rfl⟩
theorem v_ref04_Sum : S_Sum6 pg 52 := ref04_Sum b_cadenzaref04_Sum v_ref04_Next
theorem b_seed_Of : Body pg 41 18 [.cell 2 47] (ac_seed_Of 47) := ⟨Tryz.f41, Tryz.func41, by kernel_rfl, by kernel_rfl, by kernel_rfl, by kernel_rfl⟩
theorem v_seed_Of : S_Of16 pg 41 := seed_Of b_seed_Of (show aggO Tryz.prog 47 = some (some 16) by kernel_rfl)
theorem b_cadenzaref16_Of : Body pg 53 23 [.cell 2 47] (ac_cadenzaref16_Of 47) := ⟨Tryz.f53, Tryz.func53, by kernel_rfl, by kernel_rfl, by kernel_rfl, by kernel_rfl⟩
theorem v_ref16_Of : S_Of16 pg 53 := ref16_Of b_cadenzaref16_Of (show aggO Tryz.prog 47 = some (some 16) by kernel_rfl)
theorem b_seed_Taps : Body pg 17 22 [.cell 2 47, .tmp 3] (ac_seed_Taps 40 41 47) := ⟨Tryz.f17, Tryz.func17, by kernel_rfl, by kernel_rfl, by kernel_rfl, by kernel_rfl⟩
theorem v_seed_Taps : S_Taps pg 17 := seed_Taps b_seed_Taps v_crc64_Sum v_seed_Of (show aggO Tryz.prog 47 = some (some 16) by kernel_rfl)
theorem b_cadenzaref16_Taps : Body pg 22 18 [.cell 2 47, .tmp 3] (ac_cadenzaref16_Taps 52 53 47) := ⟨Tryz.f22, Tryz.func22, by kernel_rfl, by kernel_rfl, by kernel_rfl, by kernel_rfl⟩
theorem v_ref16_Taps : S_Taps pg 22 := ref16_Taps b_cadenzaref16_Taps v_ref04_Sum v_ref16_Of (show aggO Tryz.prog 47 = some (some 16) by kernel_rfl)
theorem b_clip_Of : Body pg 6 79 [.cell 8 24, .tmp 9] (ac_clip_Of 16 17 18 20 19 24 47 21) := ⟨Tryz.f6, Tryz.func6, by kernel_rfl, by kernel_rfl, by kernel_rfl, by kernel_rfl⟩
theorem v_clip_Of : S_ClipOf pg 6 := clip_Of b_clip_Of v_clip_head v_seed_Taps v_lengths_All b_clip_shape (show aggO Tryz.prog 56 = some (some 2) by kernel_rfl) v_deframe_Decode (show aggO Tryz.prog 24 = some (some 4) by kernel_rfl)
theorem b_cadenzaref24_Of : Body pg 7 76 [.cell 8 24, .tmp 9] (ac_cadenzaref24_Of 21 22 23 25 24 26 24 47 21) := ⟨Tryz.f7, Tryz.func7, by kernel_rfl, by kernel_rfl, by kernel_rfl, by kernel_rfl⟩
theorem v_ref24_Of : S_ClipOf pg 7 := ref24_Of b_cadenzaref24_Of v_ref24_Head v_ref16_Taps v_ref22_All v_ref24_Shape v_ref21_Decode v_ref24_With (show aggO Tryz.prog 24 = some (some 4) by kernel_rfl)
theorem b_cadenzaref24_GreatFrames : Body pg 5 29 [.tmp 2] ac_cadenzaref24_GreatFrames := ⟨Tryz.f5, Tryz.func5, by kernel_rfl, by kernel_rfl, by kernel_rfl, by kernel_rfl⟩
theorem v_ref24_GreatFrames : S_GreatF pg 5 := ref24_GreatFrames b_cadenzaref24_GreatFrames
theorem b_cadenzalaw24_ClipReads : Body pg 3 44 [.tmp 8] (ac_cadenzalaw24_ClipReads 5 6 7 8 24) := ⟨Tryz.f3, Tryz.func3, by kernel_rfl, by kernel_rfl, by kernel_rfl, by kernel_rfl⟩
theorem v_law24_ClipReads : S_LawReads pg 3 := law24_ClipReads b_cadenzalaw24_ClipReads v_ref24_GreatFrames v_clip_Of v_ref24_Of v_ref24_Same

theorem own : ownKnob Tryz.prog.godebug = none := by kernel_rfl
theorem laid : laidOutB Tryz.prog = true := by kernel_rfl

set_option maxRecDepth 100000 in
theorem gok {W : World} (hl : laidMet Tryz.prog Rows.clipReadsRow.laid W) : GOk pg.G (X0 W) := by
  intro q cs h
  have h1 : List.lookup q [(1, [.int .u8 0, .int .u8 1, .int .u8 56, .int .u8 2, .int .u8 57, .int .u8 49, .int .u8 28, .int .u8 3, .int .u8 61, .int .u8 58, .int .u8 42, .int .u8 50, .int .u8 38, .int .u8 29, .int .u8 17, .int .u8 4, .int .u8 62, .int .u8 47, .int .u8 59, .int .u8 36, .int .u8 45, .int .u8 43, .int .u8 51, .int .u8 22, .int .u8 53, .int .u8 39, .int .u8 33, .int .u8 30, .int .u8 24, .int .u8 18, .int .u8 12, .int .u8 5, .int .u8 63, .int .u8 55, .int .u8 48, .int .u8 27, .int .u8 60, .int .u8 41, .int .u8 37, .int .u8 16, .int .u8 46, .int .u8 35, .int .u8 44, .int .u8 21, .int .u8 52, .int .u8 32, .int .u8 23, .int .u8 11, .int .u8 54, .int .u8 26, .int .u8 40, .int .u8 15, .int .u8 34, .int .u8 20, .int .u8 31, .int .u8 10, .int .u8 25, .int .u8 14, .int .u8 19, .int .u8 9, .int .u8 13, .int .u8 8, .int .u8 7, .int .u8 6])] = some cs := h
  simp only [List.lookup] at h1
  split at h1
  · rename_i e
    obtain rfl := eq_of_beq e
    cases h1
    exact rep_tableB hl (name := "math/bits.deBruijn64tab") (k := .u8) [0, 1, 56, 2, 57, 49, 28, 3, 61, 58, 42, 50, 38, 29, 17, 4, 62, 47, 59, 36, 45, 43, 51, 22, 53, 39, 33, 30, 24, 18, 12, 5, 63, 55, 48, 27, 60, 41, 37, 16, 46, 35, 44, 21, 52, 32, 23, 11, 54, 26, 40, 15, 34, 20, 31, 10, 25, 14, 19, 9, 13, 8, 7, 6] (by kernel_rfl) (List.Mem.head _)
  cases h1

set_option maxRecDepth 100000 in
theorem contract (H : Type) (enc : TypeId × Value → H) (W : World) (base : Nat) (args : Array Value) (ds gs : List (DataW H)) (before : List MemPlace) (hlaid : laidMet Tryz.prog Rows.clipReadsRow.laid W)
    (hval : ∀ (j : Nat) t v, Tryz.f3.params[j]? = some t → args[j]? = some v → Value.okWide Tryz.prog W .any base t v)
    (hW : DataW.Whole enc Tryz.prog Tryz.f3.params.toList Rows.clipReadsSpec.vars false W args.toList ds gs before)
    (hZ : (DataW.weightsEach Tryz.prog (Tryz.f3.params.toList ++ Rows.clipReadsSpec.plain.varTypes Tryz.prog) (ds ++ gs)).all (· ≤ reachBytes) = true) :
    Calls Tryz.prog 3 args W fun e W' => ∃ v, e = .returned v ∧ Rows.clipReadsSpec.post enc Tryz.prog Tryz.f3 false true false false W args v W' := by
  have hW' := hW
  obtain ⟨p, q, hA0, hV, rfl, hfz, hnd⟩ := hW
  have hA : DataW.TrodAll enc Tryz.prog W 0 (fun _ => true) true Tryz.f3.params.toList args.toList ds p := hA0
  rw [Tryz.params3] at hA hval
  obtain ⟨v0, vs0, d0, ds0, p0, q0, hargs, rfl, rfl, h0, r0⟩ := trodAll_cons hA
  obtain ⟨v1, vs1, d1, ds1, p1, q1, rfl, rfl, rfl, h1, r1⟩ := trodAll_cons r0
  obtain ⟨v2, vs2, d2, ds2, p2, q2, rfl, rfl, rfl, h2, r2⟩ := trodAll_cons r1
  obtain ⟨v3, vs3, d3, ds3, p3, q3, rfl, rfl, rfl, h3, r3⟩ := trodAll_cons r2
  obtain ⟨rfl, rfl, rfl⟩ := trodAll_nil r3
  obtain rfl : args = #[v0, v1, v2, v3] := by cases args; simp_all
  obtain ⟨rfl, rfl⟩ := trodVars_none hV
  obtain ⟨as0, r0, q0⟩ := arg_agg (P := Tryz.prog) (k := 8) (s := clSh) (by kernel_rfl) (isStr_eq (by kernel_rfl)) (hval 0 _ v0 rfl rfl) h0
  obtain ⟨c0, x0, t0, l0, rfl, g0⟩ := fits_clip q0
  obtain ⟨s1, l1, r1⟩ := arg_string (P := Tryz.prog) (by kernel_rfl) (hval 1 _ v1 rfl rfl) h1
  obtain ⟨n2, w2, r2⟩ := arg_int (P := Tryz.prog) (k := .i64) (by kernel_rfl) (hval 2 _ v2 rfl rfl) h2
  obtain ⟨L3, r3, m3, q3⟩ := arg_slice (P := Tryz.prog) (k := 8) (s := .slice (.int .u8)) (by kernel_rfl) (isSl_eq (by kernel_rfl)) (hval 3 _ v3 rfl rfl) h3
  obtain ⟨x3, z3, y3, g3⟩ := fits_bss q3
  rw [y3] at r3
  have b3 := rows_bigF (j := 3) (by kernel_rfl) h3 hZ (by kernel_rfl) rfl (by rw [← z3]; exact m3) r3
  refine (calls_true (P := pg) (v_law24_ClipReads c0 x0 t0 l0 s1 n2 x3 b3) (gok hlaid) (args := #[v0, v1, v2, v3]) (by simp only [RepL]; exact ⟨v0, _, rfl, r0, v1, _, rfl, r1, v2, _, rfl, r2, v3, _, rfl, r3, rfl⟩)).mono fun e W' ⟨he, hb⟩ => ?_
  subst he
  exact ⟨_, rfl, post_true laid (by kernel_rfl) (by rfl) (by kernel_rfl) rfl ⟨rfl, rfl, rfl⟩ hW' hb⟩

noncomputable def low : Nat := (World.holding Tryz.prog default ⟨#[], #[], []⟩).heap.size
/-- A world in which the listed variables lie as the text lays them. -/
noncomputable def laidWorld (os : Os) : World :=
  let w0 := World.holding Tryz.prog os ⟨#[], #[], []⟩
  { w0 with heap := (w0.heap.modify 1 fun
      | .cells _ t frozen => .cells #[.int .u8 0, .int .u8 1, .int .u8 56, .int .u8 2, .int .u8 57, .int .u8 49, .int .u8 28, .int .u8 3, .int .u8 61, .int .u8 58, .int .u8 42, .int .u8 50, .int .u8 38, .int .u8 29, .int .u8 17, .int .u8 4, .int .u8 62, .int .u8 47, .int .u8 59, .int .u8 36, .int .u8 45, .int .u8 43, .int .u8 51, .int .u8 22, .int .u8 53, .int .u8 39, .int .u8 33, .int .u8 30, .int .u8 24, .int .u8 18, .int .u8 12, .int .u8 5, .int .u8 63, .int .u8 55, .int .u8 48, .int .u8 27, .int .u8 60, .int .u8 41, .int .u8 37, .int .u8 16, .int .u8 46, .int .u8 35, .int .u8 44, .int .u8 21, .int .u8 52, .int .u8 32, .int .u8 23, .int .u8 11, .int .u8 54, .int .u8 26, .int .u8 40, .int .u8 15, .int .u8 34, .int .u8 20, .int .u8 31, .int .u8 10, .int .u8 25, .int .u8 14, .int .u8 19, .int .u8 9, .int .u8 13, .int .u8 8, .int .u8 7, .int .u8 6] t frozen
      | o => o) }
theorem laidWorld_met (os : Os) (args : Array Value) : laidMet Tryz.prog Rows.clipReadsRow.laid ((laidWorld os).forCall (fun _ _ => 0) ⟨#[], args, []⟩).memory :=
  laidMet_of_run' 8 (by kernel_rfl) (by kernel_rfl)

set_option maxRecDepth 100000 in
theorem lifted (os : Os) (started : os.Started) (H : Type) (enc : TypeId × Value → H) :
    ReturnsInHanded {} Tryz.checked os 3 .any (fun w args => (Rows.clipReadsSpec.pre enc Tryz.prog Tryz.f3 [] false w args ∧ laidMet Tryz.prog Rows.clipReadsRow.laid w) ∧ sizedMet enc Tryz.prog Tryz.f3 (OpenSpec.ofChange Rows.clipReadsSpec) false w args)
      (Rows.clipReadsSpec.post enc Tryz.prog Tryz.f3 false true false false) := by
  refine returnsInHanded_of_change_and (C := Tryz.checked) (X := fun w _ => laidMet Tryz.prog Rows.clipReadsRow.laid w) (fun _ _ _ hh h => h.of_heap hh) own started (by kernel_rfl) Tryz.func3
    (ChangeSpec.witness_at (enc := enc) (C := Tryz.checked) (os := os) (X := fun w _ => laidMet Tryz.prog Rows.clipReadsRow.laid w) false (laidWorld os) #[.agg #[.int .i64 0, .int .i64 0, .int .i64 0, .slice none 0 0], .string ⟨#[]⟩, .int .i64 0, .slice none 0 0] 8 rfl (by kernel_rfl) (by kernel_rfl) (by kernel_rfl) (by kernel_rfl) (by kernel_rfl) (laidWorld_met os _)) ?_
  intro W base args ds gs before hval hW _ hZ hL _
  exact contract H enc W base args ds gs before hL hval hW hZ

theorem row_holds : Rows.ClipReadsSaid :=
  OpenClaim.holds_of_wide 3 Tryz.f3 rfl rfl rfl rfl rfl rfl rfl ⟨rfl, rfl, rfl, rfl, rfl⟩ rfl rfl rfl rfl rfl (by kernel_rfl) Tryz.func3 (by kernel_rfl)
    (of_decide_eq_true (by kernel_rfl)) (by unfold Func.isWrapper; first | (rw [if_pos (by decide +kernel)]; kernel_rfl) | (rw [if_neg (by decide +kernel)]; exact ⟨rfl, rfl⟩))
    (fun os started H enc _ => lifted os started H enc)

theorem proved : Rows.ClipReadsCardSaid :=
  Claim7.holds_tied_plain_at .later [] [.data] true (true, "3c47be1a56d76c1754403e21bbbf39ea47d2d0ee57b2b09c47016b8868057d3c") false
    row_holds (fun _ h => by cases h) (by kernel_rfl) (fun _ h => by cases h) clipReads_row_tie rfl ⟨rfl, rfl⟩ (by kernel_rfl) rfl
    (fun f fn hf hfn => by
      obtain rfl : f = 3 := Option.some.inj ((show Tryz.prog.funcNamed Rows.clipReadsRow.func = some 3 by kernel_rfl).symm.trans hf) |>.symm
      obtain rfl : fn = Tryz.f3 := (Option.some.inj (Tryz.func3.symm.trans hfn)).symm
      exact ⟨by kernel_rfl, fun j t ht => by
        have hall : (Tryz.f3.params.toList.all fun t => !Tryz.prog.wantsStandIn t) = true := by kernel_rfl
        have hm : t ∈ Tryz.f3.params.toList := by simpa using Array.mem_of_getElem? ht
        have h2 : Tryz.prog.wantsStandIn t = false := by simpa using List.all_eq_true.1 hall t hm
        exact h2⟩)
    (by kernel_rfl)

end Go.Proofs.YtpanmoedefeniaaGreatDoor.clipReads

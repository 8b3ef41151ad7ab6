/- For every shape, tap list and sample list cadenzalaw20.EnframeValues returns true and leaves its arguments as they were. No conditions. -/
import Derived.Test.YtjkgohbljmmmdaaRows
import Derived.Test.YtjkgohbljmmmdaaEnframeValuesL3
set_option linter.unusedSectionVars false
set_option linter.unusedSimpArgs false
set_option linter.unusedVariables false
namespace Go.Proofs.Ytjkgohbljmmmdaa.enframeValues
open Go.Am Go.ChangeShapes Go.WideShapes Go.ChangeAt Go.RowKit

theorem b_width_Range : Body Try.prog 54 18 [.tmp 2, .tmp 3, .tmp 4] ac_width_Range := ⟨Try.f54, Try.func54, by kernel_rfl, by kernel_rfl, by kernel_rfl, by kernel_rfl⟩
theorem v_width_Range : S_Range Try.prog 54 := width_Range b_width_Range
theorem b_cadenzaref18_Half : Body Try.prog 55 10 [.tmp 2] ac_cadenzaref18_Half := ⟨Try.f55, Try.func55, by kernel_rfl, by kernel_rfl, by kernel_rfl, by kernel_rfl⟩
theorem v_ref18_Half : S_Half Try.prog 55 := ref18_Half b_cadenzaref18_Half
theorem b_width_Check : Body Try.prog 44 37 [.tmp 4] (ac_width_Check 54) := ⟨Try.f44, Try.func44, by kernel_rfl, by kernel_rfl, by kernel_rfl, by kernel_rfl⟩
theorem v_width_Check : S_WCheck Try.prog 44 := width_Check b_width_Check v_width_Range
theorem b_cadenzaref18_Check : Body Try.prog 68 37 [.tmp 4] (ac_cadenzaref18_Check 55) := ⟨Try.f68, Try.func68, by kernel_rfl, by kernel_rfl, by kernel_rfl, by kernel_rfl⟩
theorem v_ref18_Check : S_WCheck Try.prog 68 := ref18_Check b_cadenzaref18_Check v_ref18_Half
theorem b_enframe_Check : Body Try.prog 27 25 [.tmp 2] (ac_enframe_Check 54 23) := ⟨Try.f27, Try.func27, by kernel_rfl, by kernel_rfl, by kernel_rfl, by kernel_rfl⟩
theorem v_enframe_Check : S_ECheck Try.prog 27 := enframe_Check b_enframe_Check v_width_Range
theorem b_cadenzaref20_Check : Body Try.prog 28 17 [.tmp 2] (ac_cadenzaref20_Check 55 23) := ⟨Try.f28, Try.func28, by kernel_rfl, by kernel_rfl, by kernel_rfl, by kernel_rfl⟩
theorem v_ref20_Check : S_ECheck Try.prog 28 := ref20_Check b_cadenzaref20_Check v_ref18_Half
theorem b_taps_New : Body Try.prog 81 18 [.cell 4 93, .tmp 5] (ac_taps_New 58 93) := ⟨Try.f81, Try.func81, by kernel_rfl, by kernel_rfl, by kernel_rfl, by kernel_rfl⟩
theorem v_taps_New : S_TNew Try.prog 81 := taps_New b_taps_New (show aggO Try.prog 93 = some (some 33) by kernel_rfl)
theorem b_taps_Check : Body Try.prog 115 11 [.tmp 2] (ac_taps_Check 93) := ⟨Try.f115, Try.func115, by kernel_rfl, by kernel_rfl, by kernel_rfl, by kernel_rfl⟩
theorem v_taps_Check : S_TCheck Try.prog 115 := taps_Check b_taps_Check
theorem b_taps_Guess : Body Try.prog 101 36 [.tmp 2, .tmp 3] (ac_taps_Guess 115 93) := ⟨Try.f101, Try.func101, by kernel_rfl, by kernel_rfl, by kernel_rfl, by kernel_rfl⟩
theorem v_taps_Guess : S_TGuess Try.prog 101 := taps_Guess b_taps_Guess v_taps_Check
theorem b_taps_step : Body Try.prog 126 9 [.tmp 2] ac_taps_step := ⟨Try.f126, Try.func126, by kernel_rfl, by kernel_rfl, by kernel_rfl, by kernel_rfl⟩
theorem v_taps_step : S_TStep Try.prog 126 := taps_step b_taps_step
theorem b_taps_Learn : Body Try.prog 116 53 [.cell 4 93, .tmp 5] (ac_taps_Learn 115 126 93) := ⟨Try.f116, Try.func116, by kernel_rfl, by kernel_rfl, by kernel_rfl, by kernel_rfl⟩
theorem v_taps_Learn : S_TLearn Try.prog 116 := taps_Learn b_taps_Learn (show aggO Try.prog 93 = some (some 33) by kernel_rfl) v_taps_Check v_taps_step
theorem b_taps_Push : Body Try.prog 117 22 [.cell 4 93, .tmp 5] (ac_taps_Push 115 93) := ⟨Try.f117, Try.func117, by kernel_rfl, by kernel_rfl, by kernel_rfl, by kernel_rfl⟩
theorem v_taps_Push : S_TPush Try.prog 117 := taps_Push b_taps_Push (show aggO Try.prog 93 = some (some 33) by kernel_rfl) v_taps_Check
theorem b_lms_behind : Body Try.prog 102 20 [.cell 6 93] (ac_lms_behind 116 117 93) := ⟨Try.f102, Try.func102, by kernel_rfl, by kernel_rfl, by kernel_rfl, by kernel_rfl⟩
theorem v_lms_behind : S_LBehind Try.prog 102 := lms_behind b_lms_behind (show aggO Try.prog 93 = some (some 33) by kernel_rfl) v_taps_Learn v_taps_Push
theorem b_lms_Forward : Body Try.prog 84 27 [.tmp 4, .cell 5 93, .tmp 6] (ac_lms_Forward 101 102 93) := ⟨Try.f84, Try.func84, by kernel_rfl, by kernel_rfl, by kernel_rfl, by kernel_rfl⟩
theorem v_lms_Forward : S_LForward Try.prog 84 := lms_Forward b_lms_Forward (show aggO Try.prog 93 = some (some 33) by kernel_rfl) v_taps_Guess v_lms_behind
theorem b_first_Shift : Body Try.prog 99 10 [.tmp 2, .tmp 3] ac_first_Shift := ⟨Try.f99, Try.func99, by kernel_rfl, by kernel_rfl, by kernel_rfl, by kernel_rfl⟩
theorem v_first_Shift : S_FShift Try.prog 99 := first_Shift b_first_Shift
theorem b_first_guess : Body Try.prog 100 16 [.tmp 4] ac_first_guess := ⟨Try.f100, Try.func100, by kernel_rfl, by kernel_rfl, by kernel_rfl, by kernel_rfl⟩
theorem v_first_guess : S_Fguess Try.prog 100 := first_guess b_first_guess
theorem b_first_Guess : Body Try.prog 83 19 [.tmp 4, .tmp 5] (ac_first_Guess 99 100) := ⟨Try.f83, Try.func83, by kernel_rfl, by kernel_rfl, by kernel_rfl, by kernel_rfl⟩
theorem v_first_Guess : S_FGuess Try.prog 83 := first_Guess b_first_Guess v_first_Shift v_first_guess
theorem b_chain_New : Body Try.prog 50 21 [.cell 4 95, .tmp 5] (ac_chain_New 81 58 95 93) := ⟨Try.f50, Try.func50, by kernel_rfl, by kernel_rfl, by kernel_rfl, by kernel_rfl⟩
theorem v_chain_New : S_CNew Try.prog 50 := chain_New b_chain_New (show aggO Try.prog 95 = some (some 35) by kernel_rfl) v_taps_New
theorem b_chain_Check : Body Try.prog 82 24 [.tmp 2] (ac_chain_Check 81 95 93) := ⟨Try.f82, Try.func82, by kernel_rfl, by kernel_rfl, by kernel_rfl, by kernel_rfl⟩
theorem v_chain_Check : S_CCheck Try.prog 82 := chain_Check b_chain_Check v_taps_New
theorem b_chain_Forward : Body Try.prog 51 44 [.tmp 4, .cell 5 95, .tmp 6] (ac_chain_Forward 82 83 84 95 93) := ⟨Try.f51, Try.func51, by kernel_rfl, by kernel_rfl, by kernel_rfl, by kernel_rfl⟩
theorem v_chain_Forward : S_CForward Try.prog 51 := chain_Forward b_chain_Forward (show aggO Try.prog 95 = some (some 35) by kernel_rfl) v_chain_Check v_first_Guess v_lms_Forward
theorem b_cadenzaref13_Wrap : Body Try.prog 106 7 [.tmp 2] ac_cadenzaref13_Wrap := ⟨Try.f106, Try.func106, by kernel_rfl, by kernel_rfl, by kernel_rfl, by kernel_rfl⟩
theorem v_ref13_Wrap : S_Wrap Try.prog 106 := ref13_Wrap b_cadenzaref13_Wrap
theorem b_cadenzaref13_Behind : Body Try.prog 119 26 [.tmp 4] ac_cadenzaref13_Behind := ⟨Try.f119, Try.func119, by kernel_rfl, by kernel_rfl, by kernel_rfl, by kernel_rfl⟩
theorem v_ref13_Behind : S_Behind Try.prog 119 := ref13_Behind b_cadenzaref13_Behind
theorem b_cadenzaref13_Shift : Body Try.prog 118 12 [.tmp 2, .tmp 3] ac_cadenzaref13_Shift := ⟨Try.f118, Try.func118, by kernel_rfl, by kernel_rfl, by kernel_rfl, by kernel_rfl⟩
theorem v_ref13_Shift : S_Shift13 Try.prog 118 := ref13_Shift b_cadenzaref13_Shift
theorem b_cadenzaref14_Step : Body Try.prog 128 7 [.tmp 2] ac_cadenzaref14_Step := ⟨Try.f128, Try.func128, by kernel_rfl, by kernel_rfl, by kernel_rfl, by kernel_rfl⟩
theorem v_ref14_Step : S_R14Step Try.prog 128 := ref14_Step b_cadenzaref14_Step
theorem b_cadenzaref14_Sign : Body Try.prog 129 7 [.tmp 2] ac_cadenzaref14_Sign := ⟨Try.f129, Try.func129, by kernel_rfl, by kernel_rfl, by kernel_rfl, by kernel_rfl⟩
theorem v_ref14_Sign : S_Sign Try.prog 129 := ref14_Sign b_cadenzaref14_Sign
theorem b_cadenzaref14_Sum : Body Try.prog 127 28 [.tmp 2] (ac_cadenzaref14_Sum 106 93) := ⟨Try.f127, Try.func127, by kernel_rfl, by kernel_rfl, by kernel_rfl, by kernel_rfl⟩
theorem v_ref14_Sum : S_RSum Try.prog 127 := ref14_Sum b_cadenzaref14_Sum v_ref13_Wrap
theorem b_cadenzaref14_Told : Body Try.prog 120 28 [.tmp 2] (ac_cadenzaref14_Told 127 106 93) := ⟨Try.f120, Try.func120, by kernel_rfl, by kernel_rfl, by kernel_rfl, by kernel_rfl⟩
theorem v_ref14_Told : S_RTold Try.prog 120 := ref14_Told b_cadenzaref14_Told v_ref14_Sum v_ref13_Wrap
theorem b_cadenzaref14_Learned : Body Try.prog 122 29 [.cell 4 93] (ac_cadenzaref14_Learned 128 129 93) := ⟨Try.f122, Try.func122, by kernel_rfl, by kernel_rfl, by kernel_rfl, by kernel_rfl⟩
theorem v_ref14_Learned : S_RLearned Try.prog 122 := ref14_Learned b_cadenzaref14_Learned (show aggO Try.prog 93 = some (some 33) by kernel_rfl) v_ref14_Step v_ref14_Sign
theorem b_cadenzaref14_Pushed : Body Try.prog 121 22 [.cell 4 93] (ac_cadenzaref14_Pushed 93) := ⟨Try.f121, Try.func121, by kernel_rfl, by kernel_rfl, by kernel_rfl, by kernel_rfl⟩
theorem v_ref14_Pushed : S_RPushed Try.prog 121 := ref14_Pushed b_cadenzaref14_Pushed (show aggO Try.prog 93 = some (some 33) by kernel_rfl)
theorem b_cadenzaref15_Step : Body Try.prog 108 20 [.tmp 4, .cell 5 93] (ac_cadenzaref15_Step 120 106 122 121 93) := ⟨Try.f108, Try.func108, by kernel_rfl, by kernel_rfl, by kernel_rfl, by kernel_rfl⟩
theorem v_ref15_Step : S_RStep15 Try.prog 108 := ref15_Step b_cadenzaref15_Step (show aggO Try.prog 93 = some (some 33) by kernel_rfl) v_ref14_Told v_ref13_Wrap v_ref14_Learned v_ref14_Pushed
theorem b_cadenzaref19_behind : Body Try.prog 107 12 [.tmp 2] (ac_cadenzaref19_behind 119 95) := ⟨Try.f107, Try.func107, by kernel_rfl, by kernel_rfl, by kernel_rfl, by kernel_rfl⟩
theorem v_ref19_behind : S_RBehind19 Try.prog 107 := ref19_behind b_cadenzaref19_behind v_ref13_Behind
theorem b_cadenzaref19_Step : Body Try.prog 88 28 [.tmp 4, .cell 5 95] (ac_cadenzaref19_Step 107 106 108 95 93) := ⟨Try.f88, Try.func88, by kernel_rfl, by kernel_rfl, by kernel_rfl, by kernel_rfl⟩
theorem v_ref19_Step : S_RStep19 Try.prog 88 := ref19_Step b_cadenzaref19_Step (show aggO Try.prog 95 = some (some 35) by kernel_rfl) v_ref19_behind v_ref13_Wrap v_ref15_Step
theorem b_cadenzaref14_New : Body Try.prog 105 22 [.cell 4 93, .tmp 5] (ac_cadenzaref14_New 118 58 93) := ⟨Try.f105, Try.func105, by kernel_rfl, by kernel_rfl, by kernel_rfl, by kernel_rfl⟩
theorem v_ref14_New : S_TNew Try.prog 105 := ref14_New b_cadenzaref14_New (show aggO Try.prog 93 = some (some 33) by kernel_rfl) v_ref13_Shift
theorem b_cadenzaref19_New : Body Try.prog 86 20 [.cell 4 95, .tmp 5] (ac_cadenzaref19_New 105 58 95 93) := ⟨Try.f86, Try.func86, by kernel_rfl, by kernel_rfl, by kernel_rfl, by kernel_rfl⟩
theorem v_ref19_New : S_CNew Try.prog 86 := ref19_New b_cadenzaref19_New (show aggO Try.prog 95 = some (some 35) by kernel_rfl) v_ref14_New
theorem b_fold_Fold : Body Try.prog 52 10 [.tmp 2] ac_fold_Fold := ⟨Try.f52, Try.func52, by kernel_rfl, by kernel_rfl, by kernel_rfl, by kernel_rfl⟩
theorem v_fold_Fold : S_Fold Try.prog 52 := fold_Fold b_fold_Fold
theorem b_cadenzaref05_Fold : Body Try.prog 89 13 [.tmp 2] ac_cadenzaref05_Fold := ⟨Try.f89, Try.func89, by kernel_rfl, by kernel_rfl, by kernel_rfl, by kernel_rfl⟩
theorem v_ref05_Fold : S_Fold Try.prog 89 := ref05_Fold b_cadenzaref05_Fold
theorem b_slices_Clone_int32_int32 : Body Try.prog 37 8 [.tmp 2] (ac_slices_Clone_int32_int32 21) := ⟨Try.f37, Try.func37, by kernel_rfl, by kernel_rfl, by kernel_rfl, by kernel_rfl⟩
theorem v_clone_i32 : S_CloneA 21 Try.prog 37 := clone_i32 b_slices_Clone_int32_int32
theorem b_mix_mix : Body Try.prog 80 39 [] ac_mix_mix := ⟨Try.f80, Try.func80, by kernel_rfl, by kernel_rfl, by kernel_rfl, by kernel_rfl⟩
theorem v_mix_mix : S_Mix Try.prog 80 := mix_mix b_mix_mix
theorem b_mix_check : Body Try.prog 79 22 [.tmp 4] ac_mix_check := ⟨Try.f79, Try.func79, by kernel_rfl, by kernel_rfl, by kernel_rfl, by kernel_rfl⟩
theorem v_mix_check : S_MCheck Try.prog 79 := mix_check b_mix_check
theorem b_cadenzaref17_Check : Body Try.prog 103 19 [.tmp 4] ac_cadenzaref17_Check := ⟨Try.f103, Try.func103, by kernel_rfl, by kernel_rfl, by kernel_rfl, by kernel_rfl⟩
theorem v_ref17_Check : S_MCheck Try.prog 103 := ref17_Check b_cadenzaref17_Check
theorem b_mix_All : Body Try.prog 49 32 [.tmp 4, .tmp 5] (ac_mix_All 79 37 80) := ⟨Try.f49, Try.func49, by kernel_rfl, by kernel_rfl, by kernel_rfl, by kernel_rfl⟩
theorem v_mix_All : S_MixAll Try.prog 49 := mix_All b_mix_All v_mix_check v_clone_i32 v_mix_mix
theorem b_cadenzaref17_Mixed : Body Try.prog 104 61 [.tmp 2] (ac_cadenzaref17_Mixed 106 21) := ⟨Try.f104, Try.func104, by kernel_rfl, by kernel_rfl, by kernel_rfl, by kernel_rfl⟩
theorem v_ref17_Mixed : S_RMixed Try.prog 104 := ref17_Mixed b_cadenzaref17_Mixed v_ref13_Wrap
theorem b_cadenzaref17_All : Body Try.prog 85 32 [.tmp 4, .tmp 5] (ac_cadenzaref17_All 103 104 21) := ⟨Try.f85, Try.func85, by kernel_rfl, by kernel_rfl, by kernel_rfl, by kernel_rfl⟩
theorem v_ref17_All : S_MixAll Try.prog 85 := ref17_All b_cadenzaref17_All v_ref17_Check v_ref17_Mixed
theorem b_enframe_check : Body Try.prog 48 30 [.tmp 4] (ac_enframe_check 27 44 23) := ⟨Try.f48, Try.func48, by kernel_rfl, by kernel_rfl, by kernel_rfl, by kernel_rfl⟩
theorem v_enframe_check : S_EAsk Try.prog 48 := enframe_check b_enframe_check v_enframe_Check v_width_Check
theorem b_cadenzaref20_Asked : Body Try.prog 45 28 [.tmp 4] (ac_cadenzaref20_Asked 28 68 23) := ⟨Try.f45, Try.func45, by kernel_rfl, by kernel_rfl, by kernel_rfl, by kernel_rfl⟩
theorem v_ref20_Asked : S_EAsk Try.prog 45 := ref20_Asked b_cadenzaref20_Asked v_ref20_Check v_ref18_Check
theorem b_cadenzaref20_channel : Body Try.prog 87 25 [.tmp 6] (ac_cadenzaref20_channel 21) := ⟨Try.f87, Try.func87, by kernel_rfl, by kernel_rfl, by kernel_rfl, by kernel_rfl⟩
theorem v_ref20_channel : S_Channel Try.prog 87 := ref20_channel b_cadenzaref20_channel
theorem b_enframe_Values : Body Try.prog 25 83 [.tmp 6, .tmp 7] (ac_enframe_Values 48 49 50 51 52 23 58 96 95 102) := ⟨Try.f25, Try.func25, by kernel_rfl, by kernel_rfl, by kernel_rfl, by kernel_rfl⟩
theorem v_enframe_Values : S_EVals Try.prog 25 := enframe_Values b_enframe_Values v_enframe_check v_mix_All v_chain_New v_chain_Forward v_fold_Fold
theorem b_cadenzaref20_Coded : Body Try.prog 53 72 [.tmp 6] (ac_cadenzaref20_Coded 85 86 87 88 89 23 58 102 95) := ⟨Try.f53, Try.func53, by kernel_rfl, by kernel_rfl, by kernel_rfl, by kernel_rfl⟩
theorem v_ref20_Coded : S_RCoded Try.prog 53 := ref20_Coded b_cadenzaref20_Coded v_ref17_All v_ref19_New v_ref20_channel v_ref19_Step v_ref05_Fold
theorem b_cadenzaref20_Values : Body Try.prog 26 19 [.tmp 6, .tmp 7] (ac_cadenzaref20_Values 45 53 23 58) := ⟨Try.f26, Try.func26, by kernel_rfl, by kernel_rfl, by kernel_rfl, by kernel_rfl⟩
theorem v_ref20_Values : S_EVals Try.prog 26 := ref20_Values b_cadenzaref20_Values v_ref20_Asked v_ref20_Coded
theorem b_cadenzaref13_Great : Body Try.prog 13 16 [.tmp 2] ac_cadenzaref13_Great := ⟨Try.f13, Try.func13, by kernel_rfl, by kernel_rfl, by kernel_rfl, by kernel_rfl⟩
theorem v_ref13_Great : S_Great13 Try.prog 13 := ref13_Great b_cadenzaref13_Great
theorem b_cadenzaref20_Great : Body Try.prog 24 5 [.tmp 2] (ac_cadenzaref20_Great 13) := ⟨Try.f24, Try.func24, by kernel_rfl, by kernel_rfl, by kernel_rfl, by kernel_rfl⟩
theorem v_ref20_Great : S_Great13 Try.prog 24 := ref20_Great b_cadenzaref20_Great v_ref13_Great
theorem b_cadenzaref13_Same : Body Try.prog 23 26 [.tmp 4] ac_cadenzaref13_Same := ⟨Try.f23, Try.func23, by kernel_rfl, by kernel_rfl, by kernel_rfl, by kernel_rfl⟩
theorem v_ref13_Same : S_ISame Try.prog 23 := ref13_Same b_cadenzaref13_Same
theorem b_cadenzaref05_Same : Body Try.prog 29 26 [.tmp 4] ac_cadenzaref05_Same := ⟨Try.f29, Try.func29, by kernel_rfl, by kernel_rfl, by kernel_rfl, by kernel_rfl⟩
theorem v_ref05_Same : S_USame Try.prog 29 := ref05_Same b_cadenzaref05_Same
theorem b_cadenzalaw20_EnframeValues : Body Try.prog 5 51 [.tmp 6] (ac_cadenzalaw20_EnframeValues 24 25 26 27 28 29 23 23 58 21) := ⟨Try.f5, Try.func5, by kernel_rfl, by kernel_rfl, by kernel_rfl, by kernel_rfl⟩
theorem v_law20_EnframeValues : S_LawValues Try.prog 5 := law20_EnframeValues b_cadenzalaw20_EnframeValues v_ref20_Great v_enframe_Values v_ref20_Values v_enframe_Check v_ref20_Check v_ref05_Same v_ref13_Same

theorem own : ownKnob Try.prog.godebug = none := by kernel_rfl
theorem laid : laidOutB Try.prog = true := by kernel_rfl

set_option maxRecDepth 100000 in
theorem contract (H : Type) (enc : TypeId × Value → H) (W : World) (base : Nat) (args : Array Value) (ds gs : List (DataW H)) (before : List MemPlace)
    (hval : ∀ (j : Nat) t v, Try.f5.params[j]? = some t → args[j]? = some v → Value.okWide Try.prog W .any base t v)
    (hW : DataW.Whole enc Try.prog Try.f5.params.toList Rows.enframeValuesSpec.vars false W args.toList ds gs before) :
    Calls Try.prog 5 args W fun e W' => ∃ v, e = .returned v ∧ Rows.enframeValuesSpec.post enc Try.prog Try.f5 false true false false W args v W' := by
  have hW' := hW
  obtain ⟨p, q, hA0, hV, rfl, hfz, hnd⟩ := hW
  have hA : DataW.TrodAll enc Try.prog W 0 (fun _ => true) true Try.f5.params.toList args.toList ds p := hA0
  rw [Try.params5] at hA hval
  obtain ⟨v0, vs0, d0, ds0, p0, q0, hargs, rfl, rfl, h0, r0⟩ := trodAll_cons hA
  obtain ⟨v1, vs1, d1, ds1, p1, q1, rfl, rfl, rfl, h1, r1⟩ := trodAll_cons r0
  obtain ⟨v2, vs2, d2, ds2, p2, q2, rfl, rfl, rfl, h2, r2⟩ := trodAll_cons r1
  obtain ⟨rfl, rfl, rfl⟩ := trodAll_nil r2
  obtain rfl : args = #[v0, v1, v2] := by cases args; simp_all
  obtain ⟨rfl, rfl⟩ := trodVars_none hV
  obtain ⟨as0, r0, q0⟩ := arg_agg (P := Try.prog) (k := 8) (s := shSh) (by kernel_rfl) (isStr_eq (by kernel_rfl)) (hval 0 _ v0 rfl rfl) h0
  obtain ⟨c0, b0, rfl⟩ := fits_shape q0
  obtain ⟨as1, r1, q1⟩ := arg_arr (P := Try.prog) (k := 8) (s := tapSh) (by kernel_rfl) (isArr_eq (by kernel_rfl)) (hval 1 _ v1 rfl rfl) h1
  obtain ⟨t1, rfl, g1, i1⟩ := fits_taps q1
  obtain ⟨L2, r2, m2, q2⟩ := arg_slice (P := Try.prog) (k := 8) (s := .int .i32) (by kernel_rfl) (isSl_eq (by kernel_rfl)) (hval 2 _ v2 rfl rfl) h2
  obtain ⟨x2, z2, y2, g2⟩ := fits_i32s q2
  rw [y2] at r2
  refine (calls_true (v_law20_EnframeValues c0 b0 t1 x2 g1 i1 g2) (args := #[v0, v1, v2]) (by simp only [RepL]; exact ⟨v0, _, rfl, r0, v1, _, rfl, r1, v2, _, rfl, r2, rfl⟩)).mono fun e W' ⟨he, hb⟩ => ?_
  subst he
  exact ⟨_, rfl, post_true laid (by kernel_rfl) (by rfl) (by kernel_rfl) rfl ⟨rfl, rfl, rfl⟩ hW' hb⟩

set_option maxRecDepth 100000 in
theorem lifted (os : Os) (started : os.Started) (H : Type) (enc : TypeId × Value → H) :
    ReturnsInHanded {} Try.checked os 5 .any (Rows.enframeValuesSpec.pre6 enc Try.prog Try.f5 Rows.enframeValuesRow.domain false) (Rows.enframeValuesSpec.post enc Try.prog Try.f5 false true false false) := by
  refine returnsInHanded_of_change (C := Try.checked) own started (by kernel_rfl) Try.func5
    (ChangeSpec.witness6 (enc := enc) (C := Try.checked) false ⟨#[], #[.agg #[.int .i64 0, .int .i64 0], .agg #[.int .i32 0, .int .i32 0, .int .i32 0, .int .i32 0, .int .i32 0, .int .i32 0, .int .i32 0, .int .i32 0, .int .i32 0, .int .i32 0, .int .i32 0, .int .i32 0, .int .i32 0, .int .i32 0, .int .i32 0, .int .i32 0], .slice none 0 0], []⟩ 8 (by kernel_rfl) (by kernel_rfl) (by kernel_rfl) (by kernel_rfl)) ?_
  intro W base args ds gs before hval hW _ _
  exact contract H enc W base args ds gs before hval hW

theorem proved : Rows.EnframeValuesSaid :=
  OpenClaim.holds_of_wide 5 Try.f5 rfl rfl rfl rfl rfl rfl rfl ⟨rfl, rfl, rfl, rfl, rfl⟩ rfl rfl rfl rfl rfl (by kernel_rfl) Try.func5 (by kernel_rfl)
    (of_decide_eq_true (by kernel_rfl)) (by unfold Func.isWrapper; first | (rw [if_pos (by decide +kernel)]; kernel_rfl) | (rw [if_neg (by decide +kernel)]; exact ⟨rfl, rfl⟩))
    (fun os started H enc _ => lifted os started H enc)

end Go.Proofs.Ytjkgohbljmmmdaa.enframeValues

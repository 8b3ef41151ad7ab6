/- For every shape, tap list and list of coded numbers cadenzalaw21.DeframeSamples returns true and leaves its arguments as they were. No conditions. -/
import Derived.Test.YtjkgohbljmmmdaaRows
import Derived.Test.YtjkgohbljmmmdaaDeframeSamplesL3
set_option linter.unusedSectionVars false
set_option linter.unusedSimpArgs false
set_option linter.unusedVariables false
namespace Go.Proofs.Ytjkgohbljmmmdaa.deframeSamples
open Go.Am Go.ChangeShapes Go.WideShapes Go.ChangeAt Go.RowKit

theorem b_width_Range : Body Try.prog 54 18 [.tmp 2, .tmp 3, .tmp 4] ac_width_Range := ⟨Try.f54, Try.func54, by kernel_rfl, by kernel_rfl, by kernel_rfl, by kernel_rfl⟩
theorem v_width_Range : S_Range Try.prog 54 := width_Range b_width_Range
theorem b_cadenzaref18_Half : Body Try.prog 55 10 [.tmp 2] ac_cadenzaref18_Half := ⟨Try.f55, Try.func55, by kernel_rfl, by kernel_rfl, by kernel_rfl, by kernel_rfl⟩
theorem v_ref18_Half : S_Half Try.prog 55 := ref18_Half b_cadenzaref18_Half
theorem b_width_Check : Body Try.prog 44 37 [.tmp 4] (ac_width_Check 54) := ⟨Try.f44, Try.func44, by kernel_rfl, by kernel_rfl, by kernel_rfl, by kernel_rfl⟩
theorem v_width_Check : S_WCheck Try.prog 44 := width_Check b_width_Check v_width_Range
theorem b_cadenzaref18_Check : Body Try.prog 68 37 [.tmp 4] (ac_cadenzaref18_Check 55) := ⟨Try.f68, Try.func68, by kernel_rfl, by kernel_rfl, by kernel_rfl, by kernel_rfl⟩
theorem v_ref18_Check : S_WCheck Try.prog 68 := ref18_Check b_cadenzaref18_Check v_ref18_Half
theorem b_enframe_Check : Body Try.prog 27 25 [.tmp 2] (ac_enframe_Check 54 23) := ⟨Try.f27, Try.func27, by kernel_rfl, by kernel_rfl, by kernel_rfl, by kernel_rfl⟩
theorem v_enframe_Check : S_ECheck Try.prog 27 := enframe_Check b_enframe_Check v_width_Range
theorem b_cadenzaref20_Check : Body Try.prog 28 17 [.tmp 2] (ac_cadenzaref20_Check 55 23) := ⟨Try.f28, Try.func28, by kernel_rfl, by kernel_rfl, by kernel_rfl, by kernel_rfl⟩
theorem v_ref20_Check : S_ECheck Try.prog 28 := ref20_Check b_cadenzaref20_Check v_ref18_Half
theorem b_taps_New : Body Try.prog 81 18 [.cell 4 93, .tmp 5] (ac_taps_New 58 93) := ⟨Try.f81, Try.func81, by kernel_rfl, by kernel_rfl, by kernel_rfl, by kernel_rfl⟩
theorem v_taps_New : S_TNew Try.prog 81 := taps_New b_taps_New (show aggO Try.prog 93 = some (some 33) by kernel_rfl)
theorem b_taps_Check : Body Try.prog 115 11 [.tmp 2] (ac_taps_Check 93) := ⟨Try.f115, Try.func115, by kernel_rfl, by kernel_rfl, by kernel_rfl, by kernel_rfl⟩
theorem v_taps_Check : S_TCheck Try.prog 115 := taps_Check b_taps_Check
theorem b_taps_Guess : Body Try.prog 101 36 [.tmp 2, .tmp 3] (ac_taps_Guess 115 93) := ⟨Try.f101, Try.func101, by kernel_rfl, by kernel_rfl, by kernel_rfl, by kernel_rfl⟩
theorem v_taps_Guess : S_TGuess Try.prog 101 := taps_Guess b_taps_Guess v_taps_Check
theorem b_taps_step : Body Try.prog 126 9 [.tmp 2] ac_taps_step := ⟨Try.f126, Try.func126, by kernel_rfl, by kernel_rfl, by kernel_rfl, by kernel_rfl⟩
theorem v_taps_step : S_TStep Try.prog 126 := taps_step b_taps_step
theorem b_taps_Learn : Body Try.prog 116 53 [.cell 4 93, .tmp 5] (ac_taps_Learn 115 126 93) := ⟨Try.f116, Try.func116, by kernel_rfl, by kernel_rfl, by kernel_rfl, by kernel_rfl⟩
theorem v_taps_Learn : S_TLearn Try.prog 116 := taps_Learn b_taps_Learn (show aggO Try.prog 93 = some (some 33) by kernel_rfl) v_taps_Check v_taps_step
theorem b_taps_Push : Body Try.prog 117 22 [.cell 4 93, .tmp 5] (ac_taps_Push 115 93) := ⟨Try.f117, Try.func117, by kernel_rfl, by kernel_rfl, by kernel_rfl, by kernel_rfl⟩
theorem v_taps_Push : S_TPush Try.prog 117 := taps_Push b_taps_Push (show aggO Try.prog 93 = some (some 33) by kernel_rfl) v_taps_Check
theorem b_lms_behind : Body Try.prog 102 20 [.cell 6 93] (ac_lms_behind 116 117 93) := ⟨Try.f102, Try.func102, by kernel_rfl, by kernel_rfl, by kernel_rfl, by kernel_rfl⟩
theorem v_lms_behind : S_LBehind Try.prog 102 := lms_behind b_lms_behind (show aggO Try.prog 93 = some (some 33) by kernel_rfl) v_taps_Learn v_taps_Push
theorem b_lms_Back : Body Try.prog 109 27 [.tmp 4, .cell 5 93, .tmp 6] (ac_lms_Back 101 102 93) := ⟨Try.f109, Try.func109, by kernel_rfl, by kernel_rfl, by kernel_rfl, by kernel_rfl⟩
theorem v_lms_Back : S_LBack Try.prog 109 := lms_Back b_lms_Back (show aggO Try.prog 93 = some (some 33) by kernel_rfl) v_taps_Guess v_lms_behind
theorem b_first_Shift : Body Try.prog 99 10 [.tmp 2, .tmp 3] ac_first_Shift := ⟨Try.f99, Try.func99, by kernel_rfl, by kernel_rfl, by kernel_rfl, by kernel_rfl⟩
theorem v_first_Shift : S_FShift Try.prog 99 := first_Shift b_first_Shift
theorem b_first_guess : Body Try.prog 100 16 [.tmp 4] ac_first_guess := ⟨Try.f100, Try.func100, by kernel_rfl, by kernel_rfl, by kernel_rfl, by kernel_rfl⟩
theorem v_first_guess : S_Fguess Try.prog 100 := first_guess b_first_guess
theorem b_first_Guess : Body Try.prog 83 19 [.tmp 4, .tmp 5] (ac_first_Guess 99 100) := ⟨Try.f83, Try.func83, by kernel_rfl, by kernel_rfl, by kernel_rfl, by kernel_rfl⟩
theorem v_first_Guess : S_FGuess Try.prog 83 := first_Guess b_first_Guess v_first_Shift v_first_guess
theorem b_chain_New : Body Try.prog 50 21 [.cell 4 95, .tmp 5] (ac_chain_New 81 58 95 93) := ⟨Try.f50, Try.func50, by kernel_rfl, by kernel_rfl, by kernel_rfl, by kernel_rfl⟩
theorem v_chain_New : S_CNew Try.prog 50 := chain_New b_chain_New (show aggO Try.prog 95 = some (some 35) by kernel_rfl) v_taps_New
theorem b_chain_Check : Body Try.prog 82 24 [.tmp 2] (ac_chain_Check 81 95 93) := ⟨Try.f82, Try.func82, by kernel_rfl, by kernel_rfl, by kernel_rfl, by kernel_rfl⟩
theorem v_chain_Check : S_CCheck Try.prog 82 := chain_Check b_chain_Check v_taps_New
theorem b_chain_Back : Body Try.prog 90 46 [.tmp 4, .cell 5 95, .tmp 6] (ac_chain_Back 82 83 109 95 93) := ⟨Try.f90, Try.func90, by kernel_rfl, by kernel_rfl, by kernel_rfl, by kernel_rfl⟩
theorem v_chain_Back : S_CBack Try.prog 90 := chain_Back b_chain_Back (show aggO Try.prog 95 = some (some 35) by kernel_rfl) v_chain_Check v_first_Guess v_lms_Back
theorem b_cadenzaref13_Wrap : Body Try.prog 106 7 [.tmp 2] ac_cadenzaref13_Wrap := ⟨Try.f106, Try.func106, by kernel_rfl, by kernel_rfl, by kernel_rfl, by kernel_rfl⟩
theorem v_ref13_Wrap : S_Wrap Try.prog 106 := ref13_Wrap b_cadenzaref13_Wrap
theorem b_cadenzaref13_Behind : Body Try.prog 119 26 [.tmp 4] ac_cadenzaref13_Behind := ⟨Try.f119, Try.func119, by kernel_rfl, by kernel_rfl, by kernel_rfl, by kernel_rfl⟩
theorem v_ref13_Behind : S_Behind Try.prog 119 := ref13_Behind b_cadenzaref13_Behind
theorem b_cadenzaref13_Shift : Body Try.prog 118 12 [.tmp 2, .tmp 3] ac_cadenzaref13_Shift := ⟨Try.f118, Try.func118, by kernel_rfl, by kernel_rfl, by kernel_rfl, by kernel_rfl⟩
theorem v_ref13_Shift : S_Shift13 Try.prog 118 := ref13_Shift b_cadenzaref13_Shift
theorem b_cadenzaref14_Step : Body Try.prog 128 7 [.tmp 2] ac_cadenzaref14_Step := ⟨Try.f128, Try.func128, by kernel_rfl, by kernel_rfl, by kernel_rfl, by kernel_rfl⟩
theorem v_ref14_Step : S_R14Step Try.prog 128 := ref14_Step b_cadenzaref14_Step
theorem b_cadenzaref14_Sign : Body Try.prog 129 7 [.tmp 2] ac_cadenzaref14_Sign := ⟨Try.f129, Try.func129, by kernel_rfl, by kernel_rfl, by kernel_rfl, by kernel_rfl⟩
theorem v_ref14_Sign : S_Sign Try.prog 129 := ref14_Sign b_cadenzaref14_Sign
theorem b_cadenzaref14_Sum : Body Try.prog 127 28 [.tmp 2] (ac_cadenzaref14_Sum 106 93) := ⟨Try.f127, Try.func127, by kernel_rfl, by kernel_rfl, by kernel_rfl, by kernel_rfl⟩
theorem v_ref14_Sum : S_RSum Try.prog 127 := ref14_Sum b_cadenzaref14_Sum v_ref13_Wrap
theorem b_cadenzaref14_Told : Body Try.prog 120 28 [.tmp 2] (ac_cadenzaref14_Told 127 106 93) := ⟨Try.f120, Try.func120, by kernel_rfl, by kernel_rfl, by kernel_rfl, by kernel_rfl⟩
theorem v_ref14_Told : S_RTold Try.prog 120 := ref14_Told b_cadenzaref14_Told v_ref14_Sum v_ref13_Wrap
theorem b_cadenzaref14_Learned : Body Try.prog 122 29 [.cell 4 93] (ac_cadenzaref14_Learned 128 129 93) := ⟨Try.f122, Try.func122, by kernel_rfl, by kernel_rfl, by kernel_rfl, by kernel_rfl⟩
theorem v_ref14_Learned : S_RLearned Try.prog 122 := ref14_Learned b_cadenzaref14_Learned (show aggO Try.prog 93 = some (some 33) by kernel_rfl) v_ref14_Step v_ref14_Sign
theorem b_cadenzaref14_Pushed : Body Try.prog 121 22 [.cell 4 93] (ac_cadenzaref14_Pushed 93) := ⟨Try.f121, Try.func121, by kernel_rfl, by kernel_rfl, by kernel_rfl, by kernel_rfl⟩
theorem v_ref14_Pushed : S_RPushed Try.prog 121 := ref14_Pushed b_cadenzaref14_Pushed (show aggO Try.prog 93 = some (some 33) by kernel_rfl)
theorem b_cadenzaref15_Stepped : Body Try.prog 111 20 [.tmp 4, .cell 5 93] (ac_cadenzaref15_Stepped 120 106 122 121 93) := ⟨Try.f111, Try.func111, by kernel_rfl, by kernel_rfl, by kernel_rfl, by kernel_rfl⟩
theorem v_ref15_Stepped : S_RStepped15 Try.prog 111 := ref15_Stepped b_cadenzaref15_Stepped (show aggO Try.prog 93 = some (some 33) by kernel_rfl) v_ref14_Told v_ref13_Wrap v_ref14_Learned v_ref14_Pushed
theorem b_cadenzaref19_behind : Body Try.prog 107 12 [.tmp 2] (ac_cadenzaref19_behind 119 95) := ⟨Try.f107, Try.func107, by kernel_rfl, by kernel_rfl, by kernel_rfl, by kernel_rfl⟩
theorem v_ref19_behind : S_RBehind19 Try.prog 107 := ref19_behind b_cadenzaref19_behind v_ref13_Behind
theorem b_cadenzaref19_Stepped : Body Try.prog 93 28 [.tmp 4, .cell 5 95] (ac_cadenzaref19_Stepped 111 107 106 95 93) := ⟨Try.f93, Try.func93, by kernel_rfl, by kernel_rfl, by kernel_rfl, by kernel_rfl⟩
theorem v_ref19_Stepped : S_RStepped19 Try.prog 93 := ref19_Stepped b_cadenzaref19_Stepped (show aggO Try.prog 95 = some (some 35) by kernel_rfl) v_ref15_Stepped v_ref19_behind v_ref13_Wrap
theorem b_cadenzaref14_New : Body Try.prog 105 22 [.cell 4 93, .tmp 5] (ac_cadenzaref14_New 118 58 93) := ⟨Try.f105, Try.func105, by kernel_rfl, by kernel_rfl, by kernel_rfl, by kernel_rfl⟩
theorem v_ref14_New : S_TNew Try.prog 105 := ref14_New b_cadenzaref14_New (show aggO Try.prog 93 = some (some 33) by kernel_rfl) v_ref13_Shift
theorem b_cadenzaref19_New : Body Try.prog 86 20 [.cell 4 95, .tmp 5] (ac_cadenzaref19_New 105 58 95 93) := ⟨Try.f86, Try.func86, by kernel_rfl, by kernel_rfl, by kernel_rfl, by kernel_rfl⟩
theorem v_ref19_New : S_CNew Try.prog 86 := ref19_New b_cadenzaref19_New (show aggO Try.prog 95 = some (some 35) by kernel_rfl) v_ref14_New
theorem b_fold_Back : Body Try.prog 91 11 [.tmp 2] ac_fold_Back := ⟨Try.f91, Try.func91, by kernel_rfl, by kernel_rfl, by kernel_rfl, by kernel_rfl⟩
theorem v_fold_Back : S_UBack Try.prog 91 := fold_Back b_fold_Back
theorem b_cadenzaref05_Back : Body Try.prog 94 15 [.tmp 2] ac_cadenzaref05_Back := ⟨Try.f94, Try.func94, by kernel_rfl, by kernel_rfl, by kernel_rfl, by kernel_rfl⟩
theorem v_ref05_Back : S_UBack Try.prog 94 := ref05_Back b_cadenzaref05_Back
theorem b_slices_Clone_int32_int32 : Body Try.prog 37 8 [.tmp 2] (ac_slices_Clone_int32_int32 21) := ⟨Try.f37, Try.func37, by kernel_rfl, by kernel_rfl, by kernel_rfl, by kernel_rfl⟩
theorem v_clone_i32 : S_CloneA 21 Try.prog 37 := clone_i32 b_slices_Clone_int32_int32
theorem b_mix_check : Body Try.prog 79 22 [.tmp 4] ac_mix_check := ⟨Try.f79, Try.func79, by kernel_rfl, by kernel_rfl, by kernel_rfl, by kernel_rfl⟩
theorem v_mix_check : S_MCheck Try.prog 79 := mix_check b_mix_check
theorem b_cadenzaref17_Check : Body Try.prog 103 19 [.tmp 4] ac_cadenzaref17_Check := ⟨Try.f103, Try.func103, by kernel_rfl, by kernel_rfl, by kernel_rfl, by kernel_rfl⟩
theorem v_ref17_Check : S_MCheck Try.prog 103 := ref17_Check b_cadenzaref17_Check
theorem b_cadenzaref13_Same : Body Try.prog 23 26 [.tmp 4] ac_cadenzaref13_Same := ⟨Try.f23, Try.func23, by kernel_rfl, by kernel_rfl, by kernel_rfl, by kernel_rfl⟩
theorem v_ref13_Same : S_ISame Try.prog 23 := ref13_Same b_cadenzaref13_Same
theorem b_cadenzaref05_Same : Body Try.prog 29 26 [.tmp 4] ac_cadenzaref05_Same := ⟨Try.f29, Try.func29, by kernel_rfl, by kernel_rfl, by kernel_rfl, by kernel_rfl⟩
theorem v_ref05_Same : S_USame Try.prog 29 := ref05_Same b_cadenzaref05_Same
theorem b_mix_unmix : Body Try.prog 110 40 [] ac_mix_unmix := ⟨Try.f110, Try.func110, by kernel_rfl, by kernel_rfl, by kernel_rfl, by kernel_rfl⟩
theorem v_mix_unmix : S_Unmix Try.prog 110 := mix_unmix b_mix_unmix
theorem b_mix_Undo : Body Try.prog 92 32 [.tmp 4, .tmp 5] (ac_mix_Undo 79 37 110) := ⟨Try.f92, Try.func92, by kernel_rfl, by kernel_rfl, by kernel_rfl, by kernel_rfl⟩
theorem v_mix_Undo : S_MixUndo Try.prog 92 := mix_Undo b_mix_Undo v_mix_check v_clone_i32 v_mix_unmix
theorem b_cadenzaref17_Unmixed : Body Try.prog 112 63 [.tmp 2] (ac_cadenzaref17_Unmixed 106 21) := ⟨Try.f112, Try.func112, by kernel_rfl, by kernel_rfl, by kernel_rfl, by kernel_rfl⟩
theorem v_ref17_Unmixed : S_RUnmixed Try.prog 112 := ref17_Unmixed b_cadenzaref17_Unmixed v_ref13_Wrap
theorem b_cadenzaref17_Undo : Body Try.prog 95 32 [.tmp 4, .tmp 5] (ac_cadenzaref17_Undo 103 112 21) := ⟨Try.f95, Try.func95, by kernel_rfl, by kernel_rfl, by kernel_rfl, by kernel_rfl⟩
theorem v_ref17_Undo : S_MixUndo Try.prog 95 := ref17_Undo b_cadenzaref17_Undo v_ref17_Check v_ref17_Unmixed
theorem b_deframe_samples : Body Try.prog 56 84 [.tmp 6, .tmp 7] (ac_deframe_samples 50 91 90 92 44 23 58 96 95 21) := ⟨Try.f56, Try.func56, by kernel_rfl, by kernel_rfl, by kernel_rfl, by kernel_rfl⟩
theorem v_deframe_samples : S_DSam Try.prog 56 := deframe_samples b_deframe_samples v_chain_New v_fold_Back v_chain_Back v_mix_Undo v_width_Check
theorem b_cadenzaref21_Undone : Body Try.prog 58 64 [.tmp 6] (ac_cadenzaref21_Undone 86 94 93 95 23 58 21 95) := ⟨Try.f58, Try.func58, by kernel_rfl, by kernel_rfl, by kernel_rfl, by kernel_rfl⟩
theorem v_ref21_Undone : S_RUndone Try.prog 58 := ref21_Undone b_cadenzaref21_Undone v_ref19_New v_ref05_Back v_ref19_Stepped v_ref17_Undo
theorem b_cadenzaref21_ranged : Body Try.prog 57 15 [.tmp 4, .tmp 5] (ac_cadenzaref21_ranged 68 23) := ⟨Try.f57, Try.func57, by kernel_rfl, by kernel_rfl, by kernel_rfl, by kernel_rfl⟩
theorem v_ref21_ranged : S_Ranged Try.prog 57 := ref21_ranged b_cadenzaref21_ranged v_ref18_Check
theorem b_deframe_Samples : Body Try.prog 30 34 [.tmp 6, .tmp 7] (ac_deframe_Samples 27 56 23 58) := ⟨Try.f30, Try.func30, by kernel_rfl, by kernel_rfl, by kernel_rfl, by kernel_rfl⟩
theorem v_deframe_Samples : S_DSamples Try.prog 30 := deframe_Samples b_deframe_Samples v_enframe_Check v_deframe_samples
theorem b_cadenzaref21_Samples : Body Try.prog 31 33 [.tmp 6, .tmp 7] (ac_cadenzaref21_Samples 28 58 57 23 58) := ⟨Try.f31, Try.func31, by kernel_rfl, by kernel_rfl, by kernel_rfl, by kernel_rfl⟩
theorem v_ref21_Samples : S_DSamples Try.prog 31 := ref21_Samples b_cadenzaref21_Samples v_ref20_Check v_ref21_Undone v_ref21_ranged
theorem b_cadenzalaw21_DeframeSamples : Body Try.prog 6 55 [.tmp 6] (ac_cadenzalaw21_DeframeSamples 30 31 23 29 23 58 102) := ⟨Try.f6, Try.func6, by kernel_rfl, by kernel_rfl, by kernel_rfl, by kernel_rfl⟩
theorem v_law21_DeframeSamples : S_LawDeframe Try.prog 6 := law21_DeframeSamples b_cadenzalaw21_DeframeSamples v_deframe_Samples v_ref21_Samples v_ref13_Same v_ref05_Same

theorem own : ownKnob Try.prog.godebug = none := by kernel_rfl
theorem laid : laidOutB Try.prog = true := by kernel_rfl

set_option maxRecDepth 100000 in
theorem contract (H : Type) (enc : TypeId × Value → H) (W : World) (base : Nat) (args : Array Value) (ds gs : List (DataW H)) (before : List MemPlace)
    (hval : ∀ (j : Nat) t v, Try.f6.params[j]? = some t → args[j]? = some v → Value.okWide Try.prog W .any base t v)
    (hW : DataW.Whole enc Try.prog Try.f6.params.toList Rows.deframeSamplesSpec.vars false W args.toList ds gs before) :
    Calls Try.prog 6 args W fun e W' => ∃ v, e = .returned v ∧ Rows.deframeSamplesSpec.post enc Try.prog Try.f6 false true false false W args v W' := by
  have hW' := hW
  obtain ⟨p, q, hA0, hV, rfl, hfz, hnd⟩ := hW
  have hA : DataW.TrodAll enc Try.prog W 0 (fun _ => true) true Try.f6.params.toList args.toList ds p := hA0
  rw [Try.params6] at hA hval
  obtain ⟨v0, vs0, d0, ds0, p0, q0, hargs, rfl, rfl, h0, r0⟩ := trodAll_cons hA
  obtain ⟨v1, vs1, d1, ds1, p1, q1, rfl, rfl, rfl, h1, r1⟩ := trodAll_cons r0
  obtain ⟨v2, vs2, d2, ds2, p2, q2, rfl, rfl, rfl, h2, r2⟩ := trodAll_cons r1
  obtain ⟨rfl, rfl, rfl⟩ := trodAll_nil r2
  obtain rfl : args = #[v0, v1, v2] := by cases args; simp_all
  obtain ⟨rfl, rfl⟩ := trodVars_none hV
  obtain ⟨as0, r0, q0⟩ := arg_agg (P := Try.prog) (k := 8) (s := shSh) (by kernel_rfl) (isStr_eq (by kernel_rfl)) (hval 0 _ v0 rfl rfl) h0
  obtain ⟨c0, b0, rfl⟩ := fits_shape q0
  obtain ⟨as1, r1, q1⟩ := arg_arr (P := Try.prog) (k := 8) (s := tapSh) (by kernel_rfl) (isArr_eq (by kernel_rfl)) (hval 1 _ v1 rfl rfl) h1
  obtain ⟨t1, rfl, g1, i1⟩ := fits_taps q1
  obtain ⟨L2, r2, m2, q2⟩ := arg_slice (P := Try.prog) (k := 8) (s := .int .u32) (by kernel_rfl) (isSl_eq (by kernel_rfl)) (hval 2 _ v2 rfl rfl) h2
  obtain ⟨x2, z2, y2, g2⟩ := fits_u32s q2
  rw [y2] at r2
  refine (calls_true (v_law21_DeframeSamples c0 b0 t1 x2 g1 i1 g2) (args := #[v0, v1, v2]) (by simp only [RepL]; exact ⟨v0, _, rfl, r0, v1, _, rfl, r1, v2, _, rfl, r2, rfl⟩)).mono fun e W' ⟨he, hb⟩ => ?_
  subst he
  exact ⟨_, rfl, post_true laid (by kernel_rfl) (by rfl) (by kernel_rfl) rfl ⟨rfl, rfl, rfl⟩ hW' hb⟩

set_option maxRecDepth 100000 in
theorem lifted (os : Os) (started : os.Started) (H : Type) (enc : TypeId × Value → H) :
    ReturnsInHanded {} Try.checked os 6 .any (Rows.deframeSamplesSpec.pre6 enc Try.prog Try.f6 Rows.deframeSamplesRow.domain false) (Rows.deframeSamplesSpec.post enc Try.prog Try.f6 false true false false) := by
  refine returnsInHanded_of_change (C := Try.checked) own started (by kernel_rfl) Try.func6
    (ChangeSpec.witness6 (enc := enc) (C := Try.checked) false ⟨#[], #[.agg #[.int .i64 0, .int .i64 0], .agg #[.int .i32 0, .int .i32 0, .int .i32 0, .int .i32 0, .int .i32 0, .int .i32 0, .int .i32 0, .int .i32 0, .int .i32 0, .int .i32 0, .int .i32 0, .int .i32 0, .int .i32 0, .int .i32 0, .int .i32 0, .int .i32 0], .slice none 0 0], []⟩ 8 (by kernel_rfl) (by kernel_rfl) (by kernel_rfl) (by kernel_rfl)) ?_
  intro W base args ds gs before hval hW _ _
  exact contract H enc W base args ds gs before hval hW

theorem proved : Rows.DeframeSamplesSaid :=
  OpenClaim.holds_of_wide 6 Try.f6 rfl rfl rfl rfl rfl rfl rfl ⟨rfl, rfl, rfl, rfl, rfl⟩ rfl rfl rfl rfl rfl (by kernel_rfl) Try.func6 (by kernel_rfl)
    (of_decide_eq_true (by kernel_rfl)) (by unfold Func.isWrapper; first | (rw [if_pos (by decide +kernel)]; kernel_rfl) | (rw [if_neg (by decide +kernel)]; exact ⟨rfl, rfl⟩))
    (fun os started H enc _ => lifted os started H enc)

end Go.Proofs.Ytjkgohbljmmmdaa.deframeSamples

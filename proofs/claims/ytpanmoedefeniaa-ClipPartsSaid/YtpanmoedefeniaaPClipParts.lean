/- For every clip and list of parts cadenzalaw24.ClipParts returns true and leaves its arguments as they were. No conditions. -/
import Derived.Test.YtpanmoedefeniaaRows
import Derived.Test.YtpanmoedefeniaaClipPartsY1
set_option linter.unusedSectionVars false
set_option linter.unusedSimpArgs false
set_option linter.unusedVariables false
namespace Go.Proofs.Ytpanmoedefeniaa.clipParts
open Go.Am Go.ChangeShapes Go.WideShapes Go.ChangeAt Go.RowKit

noncomputable def pg : Prg := ⟨Try.prog, [], fun g cs h => by
  cases h⟩

theorem b_width_Range : Body pg 48 18 [.tmp 2, .tmp 3, .tmp 4] ac_width_Range := ⟨Try.f48, Try.func48, by kernel_rfl, by kernel_rfl, by kernel_rfl, by kernel_rfl⟩
theorem v_width_Range : S_Range pg 48 := width_Range b_width_Range
theorem b_cadenzaref18_Half : Body pg 65 10 [.tmp 2] ac_cadenzaref18_Half := ⟨Try.f65, Try.func65, by kernel_rfl, by kernel_rfl, by kernel_rfl, by kernel_rfl⟩
theorem v_ref18_Half : S_Half pg 65 := ref18_Half b_cadenzaref18_Half
theorem b_width_Check : Body pg 31 37 [.tmp 4] (ac_width_Check 48) := ⟨Try.f31, Try.func31, by kernel_rfl, by kernel_rfl, by kernel_rfl, by kernel_rfl⟩
theorem v_width_Check : S_WCheck pg 31 := width_Check b_width_Check v_width_Range
theorem b_cadenzaref18_Check : Body pg 50 37 [.tmp 4] (ac_cadenzaref18_Check 65) := ⟨Try.f50, Try.func50, by kernel_rfl, by kernel_rfl, by kernel_rfl, by kernel_rfl⟩
theorem v_ref18_Check : S_WCheck pg 50 := ref18_Check b_cadenzaref18_Check v_ref18_Half
theorem b_lengths_Long : Body pg 40 14 [.tmp 2, .tmp 3] ac_lengths_Long := ⟨Try.f40, Try.func40, by kernel_rfl, by kernel_rfl, by kernel_rfl, by kernel_rfl⟩
theorem v_lengths_Long : S_Long22 pg 40 := lengths_Long b_lengths_Long
theorem b_cadenzaref22_Long : Body pg 64 17 [.tmp 2, .tmp 3] ac_cadenzaref22_Long := ⟨Try.f64, Try.func64, by kernel_rfl, by kernel_rfl, by kernel_rfl, by kernel_rfl⟩
theorem v_ref22_Long : S_Long22 pg 64 := ref22_Long b_cadenzaref22_Long
theorem b_enframe_Check : Body pg 47 25 [.tmp 2] (ac_enframe_Check 48 71) := ⟨Try.f47, Try.func47, by kernel_rfl, by kernel_rfl, by kernel_rfl, by kernel_rfl⟩
theorem v_enframe_Check : S_ECheck pg 47 := enframe_Check b_enframe_Check v_width_Range
theorem b_cadenzaref20_Check : Body pg 49 17 [.tmp 2] (ac_cadenzaref20_Check 65 71) := ⟨Try.f49, Try.func49, by kernel_rfl, by kernel_rfl, by kernel_rfl, by kernel_rfl⟩
theorem v_ref20_Check : S_ECheck pg 49 := ref20_Check b_cadenzaref20_Check v_ref18_Half
theorem b_cadenzaref20_Asked : Body pg 32 28 [.tmp 4] (ac_cadenzaref20_Asked 49 50 71) := ⟨Try.f32, Try.func32, by kernel_rfl, by kernel_rfl, by kernel_rfl, by kernel_rfl⟩
theorem v_ref20_Asked : S_EAsk pg 32 := ref20_Asked b_cadenzaref20_Asked v_ref20_Check v_ref18_Check
theorem b_cadenzaref13_Great : Body pg 6 16 [.tmp 2] ac_cadenzaref13_Great := ⟨Try.f6, Try.func6, by kernel_rfl, by kernel_rfl, by kernel_rfl, by kernel_rfl⟩
theorem v_ref13_Great : S_Great13 pg 6 := ref13_Great b_cadenzaref13_Great
theorem b_cadenzaref13_Same : Body pg 16 26 [.tmp 4] ac_cadenzaref13_Same := ⟨Try.f16, Try.func16, by kernel_rfl, by kernel_rfl, by kernel_rfl, by kernel_rfl⟩
theorem v_ref13_Same : S_ISame pg 16 := ref13_Same b_cadenzaref13_Same
theorem b_lengths_Count : Body pg 39 32 [.tmp 4, .tmp 5] (ac_lengths_Count 40) := ⟨Try.f39, Try.func39, by kernel_rfl, by kernel_rfl, by kernel_rfl, by kernel_rfl⟩
theorem v_lengths_Count : S_Count22 pg 39 := lengths_Count b_lengths_Count v_lengths_Long
theorem b_clip_shape : Body pg 38 8 [.cell 2 71] (ac_clip_shape 24 71) := ⟨Try.f38, Try.func38, by kernel_rfl, by kernel_rfl, by kernel_rfl, by kernel_rfl⟩
theorem v_clip_shape : S_Shape24 pg 38 := clip_shape b_clip_shape (show aggO Try.prog 71 = some (some 2) by kernel_rfl)
theorem b_cadenzaref24_Shape : Body pg 33 8 [.cell 2 71] (ac_cadenzaref24_Shape 24 71) := ⟨Try.f33, Try.func33, by kernel_rfl, by kernel_rfl, by kernel_rfl, by kernel_rfl⟩
theorem v_ref24_Shape : S_Shape24 pg 33 := ref24_Shape b_cadenzaref24_Shape (show aggO Try.prog 71 = some (some 2) by kernel_rfl)
theorem b_clip_head : Body pg 30 31 [.tmp 4] (ac_clip_head 38 47 39 24) := ⟨Try.f30, Try.func30, by kernel_rfl, by kernel_rfl, by kernel_rfl, by kernel_rfl⟩
theorem v_clip_head : S_CHead pg 30 := clip_head b_clip_head v_clip_shape v_enframe_Check v_lengths_Count
theorem b_clip_Check : Body pg 12 33 [.tmp 2] (ac_clip_Check 30 31 24) := ⟨Try.f12, Try.func12, by kernel_rfl, by kernel_rfl, by kernel_rfl, by kernel_rfl⟩
theorem v_clip_Check : S_ClipCheck pg 12 := clip_Check b_clip_Check v_clip_head v_width_Check
theorem b_cadenzaref21_Asked : Body pg 51 19 [.tmp 4] (ac_cadenzaref21_Asked 49 71) := ⟨Try.f51, Try.func51, by kernel_rfl, by kernel_rfl, by kernel_rfl, by kernel_rfl⟩
theorem v_ref21_Asked : S_Ask21 pg 51 := ref21_Asked b_cadenzaref21_Asked v_ref20_Check
theorem b_cadenzaref22_All : Body pg 44 41 [.tmp 4, .tmp 5] (ac_cadenzaref22_All 64 3) := ⟨Try.f44, Try.func44, by kernel_rfl, by kernel_rfl, by kernel_rfl, by kernel_rfl⟩
theorem v_ref22_All : S_All22 pg 44 := ref22_All b_cadenzaref22_All v_ref22_Long
theorem b_cadenzaref22_Count : Body pg 22 17 [.tmp 4, .tmp 5] (ac_cadenzaref22_Count 44) := ⟨Try.f22, Try.func22, by kernel_rfl, by kernel_rfl, by kernel_rfl, by kernel_rfl⟩
theorem v_ref22_Count : S_Count22 pg 22 := ref22_Count b_cadenzaref22_Count v_ref22_All
theorem b_cadenzaref24_Head : Body pg 34 21 [.tmp 4] (ac_cadenzaref24_Head 33 51 22 24) := ⟨Try.f34, Try.func34, by kernel_rfl, by kernel_rfl, by kernel_rfl, by kernel_rfl⟩
theorem v_ref24_Head : S_RHead24 pg 34 := ref24_Head b_cadenzaref24_Head v_ref24_Shape v_ref21_Asked v_ref22_Count
theorem b_cadenzaref24_Check : Body pg 13 20 [.tmp 2] (ac_cadenzaref24_Check 33 32 34 24) := ⟨Try.f13, Try.func13, by kernel_rfl, by kernel_rfl, by kernel_rfl, by kernel_rfl⟩
theorem v_ref24_Check : S_ClipCheck pg 13 := ref24_Check b_cadenzaref24_Check v_ref24_Shape v_ref20_Asked v_ref24_Head
theorem b_cadenzaref24_With : Body pg 20 13 [.cell 4 24] (ac_cadenzaref24_With 24) := ⟨Try.f20, Try.func20, by kernel_rfl, by kernel_rfl, by kernel_rfl, by kernel_rfl⟩
theorem v_ref24_With : S_With24 pg 20 := ref24_With b_cadenzaref24_With (show aggO Try.prog 24 = some (some 4) by kernel_rfl)
theorem b_cadenzaref24_Same : Body pg 15 31 [.tmp 4] (ac_cadenzaref24_Same 16 24) := ⟨Try.f15, Try.func15, by kernel_rfl, by kernel_rfl, by kernel_rfl, by kernel_rfl⟩
theorem v_ref24_Same : S_CSame pg 15 := ref24_Same b_cadenzaref24_Same v_ref13_Same
theorem v_ref13_Eq : S_IEq pg 16 := ref13_Eq b_cadenzaref13_Same
theorem b_cadenzaref24_SameParts : Body pg 14 27 [.tmp 4] (ac_cadenzaref24_SameParts 16) := ⟨Try.f14, Try.func14, by kernel_rfl, by kernel_rfl, by kernel_rfl, by kernel_rfl⟩
theorem v_ref24_SameParts : S_PEq pg 14 := ref24_SameParts b_cadenzaref24_SameParts v_ref13_Eq
theorem b_cadenzaref24_GreatParts : Body pg 7 29 [.tmp 2] ac_cadenzaref24_GreatParts := ⟨Try.f7, Try.func7, by kernel_rfl, by kernel_rfl, by kernel_rfl, by kernel_rfl⟩
theorem v_ref24_GreatParts : S_GreatP pg 7 := ref24_GreatParts b_cadenzaref24_GreatParts
theorem b_math_bits_Mul64 : Body pg 82 51 [.tmp 4, .tmp 5] ac_math_bits_Mul64 := ⟨Try.f82, Try.func82, by kernel_rfl, by kernel_rfl, by kernel_rfl, by kernel_rfl⟩
theorem v_math_Mul64 : S_Mul pg 82 := math_Mul64 b_math_bits_Mul64
theorem b_math_bits_Mul : Body pg 60 30 [.tmp 4, .tmp 5] (ac_math_bits_Mul 81 82) := ⟨Try.f60, Try.func60, by kernel_rfl, by kernel_rfl, by kernel_rfl, by kernel_rfl⟩
theorem v_math_Mul : S_Mul pg 60 := math_Mul b_math_bits_Mul v_math_Mul64
theorem b_slices_Repeat_int_int : Body pg 41 48 [.tmp 4] (ac_slices_Repeat_int_int 60 3) := ⟨Try.f41, Try.func41, by kernel_rfl, by kernel_rfl, by kernel_rfl, by kernel_rfl⟩
theorem v_slices_Repeat1 : S_Repeat1 3 pg 41 := slices_Repeat1 b_slices_Repeat_int_int v_math_Mul
theorem b_slices_Concat_int_int : Body pg 61 36 [.tmp 2] (ac_slices_Concat_int_int 83 3) := ⟨Try.f61, Try.func61, by kernel_rfl, by kernel_rfl, by kernel_rfl, by kernel_rfl⟩
theorem growI : S_GrowNilI 3 pg 83 := grow_nilI Try.growI rfl rfl (by kernel_rfl)
theorem v_slices_ConcatI : S_ConcatI 3 pg 61 := slices_ConcatI b_slices_Concat_int_int growI
theorem b_lengths_behind : Body pg 42 9 [.tmp 4] (ac_lengths_behind 61 47) := ⟨Try.f42, Try.func42, by kernel_rfl, by kernel_rfl, by kernel_rfl, by kernel_rfl⟩
theorem v_lengths_behind : S_BehO 3 pg 42 := lengths_behind b_lengths_behind v_slices_ConcatI
theorem b_lengths_All : Body pg 19 39 [.tmp 4, .tmp 5] (ac_lengths_All 39 40 41 42 3) := ⟨Try.f19, Try.func19, by kernel_rfl, by kernel_rfl, by kernel_rfl, by kernel_rfl⟩
theorem v_lengths_All : S_AllO 3 pg 19 := lengths_All b_lengths_All v_lengths_Count v_lengths_Long v_slices_Repeat1 v_lengths_behind
theorem b_clip_parts_1 : Body pg 45 43 [] (ac_clip_parts_1 19) := ⟨Try.f45, Try.func45, by kernel_rfl, by kernel_rfl, by kernel_rfl, by kernel_rfl⟩
theorem v_clip_parts1 : S_PartsIt 3 pg 45 := clip_parts1 b_clip_parts_1 v_lengths_All
theorem b_clip_parts : Body pg 24 4 [.tmp 2] (ac_clip_parts 45 24) := ⟨Try.f24, Try.func24, by kernel_rfl, by kernel_rfl, by kernel_rfl, by kernel_rfl⟩
theorem v_clip_parts : S_Parts24 45 pg 24 := clip_parts b_clip_parts
theorem b_slices_Clone_int32_int32 : Body pg 25 8 [.tmp 2] (ac_slices_Clone_int32_int32 21) := ⟨Try.f25, Try.func25, by kernel_rfl, by kernel_rfl, by kernel_rfl, by kernel_rfl⟩
theorem v_clone_j : S_CloneJ pg 25 := clone_j b_slices_Clone_int32_int32
theorem b_clip_Split : BodyC pg 8 21 [.tmp 2, .tmp 3] (ac_clip_Split 12 24 25 24 25 22) := ⟨Try.f8, Try.func8, by kernel_rfl, by kernel_rfl, by kernel_rfl, by kernel_rfl⟩
theorem v_clip_Split : S_Split pg 8 := clip_Split b_clip_Split v_clip_Check v_clip_parts v_clip_parts1 b_clip_parts_1 v_clone_j (by decide) (by decide) (by decide)
theorem b_slices_Concat_int32_int32 : Body pg 27 36 [.tmp 2] (ac_slices_Concat_int32_int32 46 21) := ⟨Try.f27, Try.func27, by kernel_rfl, by kernel_rfl, by kernel_rfl, by kernel_rfl⟩
theorem growJ : S_GrowNilJ 21 pg 46 := grow_nilJ (k := .i32) (m := 4) Try.growJ rfl rfl (by omega) (by kernel_rfl)
theorem v_slices_ConcatJ : S_ConcatJ pg 27 := slices_ConcatJ b_slices_Concat_int32_int32 growJ
theorem b_clip_Join_1 : Body pg 29 10 [.tmp 4] ac_clip_Join_1 := ⟨Try.f29, Try.func29, by kernel_rfl, by kernel_rfl, by kernel_rfl, by kernel_rfl⟩
theorem v_clip_Join1 : S_LenEq pg 29 := clip_Join1 b_clip_Join_1
theorem b_slices_EqualFunc_int32_int32_int32_int32 : Body pg 28 32 [.tmp 6] ac_slices_EqualFunc_int32_int32_int32_int32 := ⟨Try.f28, Try.func28, by kernel_rfl, by kernel_rfl, by kernel_rfl, by kernel_rfl⟩
theorem v_slices_EqualFunc : S_EqFn 29 pg 28 := slices_EqualFunc b_slices_EqualFunc_int32_int32_int32_int32 v_clip_Join1
theorem b_clip_Join : Body pg 10 26 [.cell 4 24, .tmp 5] (ac_clip_Join 27 8 28 29 24) := ⟨Try.f10, Try.func10, by kernel_rfl, by kernel_rfl, by kernel_rfl, by kernel_rfl⟩
theorem v_clip_Join : S_Join24 pg 10 := clip_Join b_clip_Join v_slices_ConcatJ v_clip_Split v_slices_EqualFunc (show aggO Try.prog 24 = some (some 4) by kernel_rfl)
theorem b_cadenzaref24_Parts : Body pg 26 48 [.tmp 2] (ac_cadenzaref24_Parts 44 24 21 22) := ⟨Try.f26, Try.func26, by kernel_rfl, by kernel_rfl, by kernel_rfl, by kernel_rfl⟩
theorem v_ref24_Parts : S_RParts pg 26 := ref24_Parts b_cadenzaref24_Parts v_ref22_All
theorem b_cadenzaref24_Split : Body pg 9 9 [.tmp 2, .tmp 3] (ac_cadenzaref24_Split 13 26 24) := ⟨Try.f9, Try.func9, by kernel_rfl, by kernel_rfl, by kernel_rfl, by kernel_rfl⟩
theorem v_ref24_Split : S_Split pg 9 := ref24_Split b_cadenzaref24_Split v_ref24_Check v_ref24_Parts
theorem b_cadenzaref24_Join : Body pg 11 41 [.cell 4 24, .tmp 5] (ac_cadenzaref24_Join 20 9 14 24 21) := ⟨Try.f11, Try.func11, by kernel_rfl, by kernel_rfl, by kernel_rfl, by kernel_rfl⟩
theorem v_ref24_Join : S_Join24 pg 11 := ref24_Join b_cadenzaref24_Join v_ref24_With v_ref24_Split v_ref24_SameParts (show aggO Try.prog 24 = some (some 4) by kernel_rfl)
theorem b_cadenzalaw24_ClipParts : Body pg 3 78 [.tmp 4] (ac_cadenzalaw24_ClipParts 6 7 8 9 10 11 12 13 14 15 16 24 21) := ⟨Try.f3, Try.func3, by kernel_rfl, by kernel_rfl, by kernel_rfl, by kernel_rfl⟩
theorem v_law24_ClipParts : S_LawParts pg 3 := law24_ClipParts b_cadenzalaw24_ClipParts v_ref13_Great v_ref24_GreatParts v_clip_Split v_ref24_Split v_clip_Join v_ref24_Join v_clip_Check v_ref24_Check v_ref24_SameParts v_ref24_Same v_ref13_Eq

theorem own : ownKnob Try.prog.godebug = none := by kernel_rfl
theorem laid : laidOutB Try.prog = true := by kernel_rfl

set_option maxRecDepth 100000 in
theorem contract (H : Type) (enc : TypeId × Value → H) (W : World) (base : Nat) (args : Array Value) (ds gs : List (DataW H)) (before : List MemPlace)
    (hval : ∀ (j : Nat) t v, Try.f3.params[j]? = some t → args[j]? = some v → Value.okWide Try.prog W .any base t v)
    (hW : DataW.Whole enc Try.prog Try.f3.params.toList Rows.clipPartsSpec.vars false W args.toList ds gs before)
    (hZ : (DataW.weightsEach Try.prog (Try.f3.params.toList ++ Rows.clipPartsSpec.plain.varTypes Try.prog) (ds ++ gs)).all (· ≤ reachBytes) = true) :
    Calls Try.prog 3 args W fun e W' => ∃ v, e = .returned v ∧ Rows.clipPartsSpec.post enc Try.prog Try.f3 false true false false W args v W' := by
  have hW' := hW
  obtain ⟨p, q, hA0, hV, rfl, hfz, hnd⟩ := hW
  have hA : DataW.TrodAll enc Try.prog W 0 (fun _ => true) true Try.f3.params.toList args.toList ds p := hA0
  rw [Try.params3] at hA hval
  obtain ⟨v0, vs0, d0, ds0, p0, q0, hargs, rfl, rfl, h0, r0⟩ := trodAll_cons hA
  obtain ⟨v1, vs1, d1, ds1, p1, q1, rfl, rfl, rfl, h1, r1⟩ := trodAll_cons r0
  obtain ⟨rfl, rfl, rfl⟩ := trodAll_nil r1
  obtain rfl : args = #[v0, v1] := by cases args; simp_all
  obtain ⟨rfl, rfl⟩ := trodVars_none hV
  obtain ⟨as0, r0, q0⟩ := arg_agg (P := Try.prog) (k := 8) (s := clSh) (by kernel_rfl) (isStr_eq (by kernel_rfl)) (hval 0 _ v0 rfl rfl) h0
  obtain ⟨c0, x0, t0, l0, rfl, g0⟩ := fits_clip q0
  obtain ⟨L1, r1, m1, q1⟩ := arg_slice (P := Try.prog) (k := 8) (s := .slice (.int .i32)) (by kernel_rfl) (isSl_eq (by kernel_rfl)) (hval 1 _ v1 rfl rfl) h1
  obtain ⟨x1, z1, y1, g1⟩ := fits_iss q1
  rw [y1] at r1
  have b1 := rows_big (j := 1) (by kernel_rfl) h1 hZ (by kernel_rfl) rfl (by rw [← z1]; exact m1) r1
  refine (calls_true (P := pg) (v_law24_ClipParts c0 x0 t0 l0 x1 g0 g1 b1) (fun q cs h => by cases h) (args := #[v0, v1]) (by simp only [RepL]; exact ⟨v0, _, rfl, r0, v1, _, rfl, r1, rfl⟩)).mono fun e W' ⟨he, hb⟩ => ?_
  subst he
  exact ⟨_, rfl, post_true laid (by kernel_rfl) (by rfl) (by kernel_rfl) rfl ⟨rfl, rfl, rfl⟩ hW' hb⟩

set_option maxRecDepth 100000 in
theorem lifted (os : Os) (started : os.Started) (H : Type) (enc : TypeId × Value → H) :
    ReturnsInHanded {} Try.checked os 3 .any (Rows.clipPartsSpec.pre6 enc Try.prog Try.f3 Rows.clipPartsRow.domain false) (Rows.clipPartsSpec.post enc Try.prog Try.f3 false true false false) := by
  refine returnsInHanded_of_change_sized (C := Try.checked) own started (by kernel_rfl) Try.func3
    (ChangeSpec.witness6 (enc := enc) (C := Try.checked) false ⟨#[], #[.agg #[.int .i64 0, .int .i64 0, .int .i64 0, .slice none 0 0], .slice none 0 0], []⟩ 8 (by kernel_rfl) (by kernel_rfl) (by kernel_rfl) (by kernel_rfl)) ?_
  intro W base args ds gs before hval hW _ hZ _
  exact contract H enc W base args ds gs before hval hW hZ

theorem proved : Rows.ClipPartsSaid :=
  OpenClaim.holds_of_wide 3 Try.f3 rfl rfl rfl rfl rfl rfl rfl ⟨rfl, rfl, rfl, rfl, rfl⟩ rfl rfl rfl rfl rfl (by kernel_rfl) Try.func3 (by kernel_rfl)
    (of_decide_eq_true (by kernel_rfl)) (by unfold Func.isWrapper; first | (rw [if_pos (by decide +kernel)]; kernel_rfl) | (rw [if_neg (by decide +kernel)]; exact ⟨rfl, rfl⟩))
    (fun os started H enc _ => lifted os started H enc)

end Go.Proofs.Ytpanmoedefeniaa.clipParts

/- For every encoder, shape, rate and password cadenzalaw36.PushencChecks returns true and leaves its arguments as they were. No conditions. -/
import Derived.Test.YtjkgohbljmmmdaaRows
import Derived.Test.YtjkgohbljmmmdaaL1
set_option linter.unusedSectionVars false
set_option linter.unusedSimpArgs false
set_option linter.unusedVariables false
namespace Go.Proofs.Ytjkgohbljmmmdaa.pushencChecks
open Go.Am Go.ChangeShapes Go.WideShapes Go.ChangeAt Go.RowKit

theorem b_width_Range : Body Try.prog 54 18 [.tmp 2, .tmp 3, .tmp 4] ac_width_Range := ⟨Try.f54, Try.func54, by kernel_rfl, by kernel_rfl, by kernel_rfl, by kernel_rfl⟩
theorem v_width_Range : S_Range Try.prog 54 := width_Range b_width_Range
theorem b_cadenzaref18_Half : Body Try.prog 55 10 [.tmp 2] ac_cadenzaref18_Half := ⟨Try.f55, Try.func55, by kernel_rfl, by kernel_rfl, by kernel_rfl, by kernel_rfl⟩
theorem v_ref18_Half : S_Half Try.prog 55 := ref18_Half b_cadenzaref18_Half
theorem b_width_Check : Body Try.prog 44 37 [.tmp 4] (ac_width_Check 54) := ⟨Try.f44, Try.func44, by kernel_rfl, by kernel_rfl, by kernel_rfl, by kernel_rfl⟩
theorem v_width_Check : S_WCheck Try.prog 44 := width_Check b_width_Check v_width_Range
theorem b_cadenzaref18_Check : Body Try.prog 68 37 [.tmp 4] (ac_cadenzaref18_Check 55) := ⟨Try.f68, Try.func68, by kernel_rfl, by kernel_rfl, by kernel_rfl, by kernel_rfl⟩
theorem v_ref18_Check : S_WCheck Try.prog 68 := ref18_Check b_cadenzaref18_Check v_ref18_Half
theorem b_lengths_Long : Body Try.prog 59 14 [.tmp 2, .tmp 3] ac_lengths_Long := ⟨Try.f59, Try.func59, by kernel_rfl, by kernel_rfl, by kernel_rfl, by kernel_rfl⟩
theorem v_lengths_Long : S_Long22 Try.prog 59 := lengths_Long b_lengths_Long
theorem b_cadenzaref22_Long : Body Try.prog 60 17 [.tmp 2, .tmp 3] ac_cadenzaref22_Long := ⟨Try.f60, Try.func60, by kernel_rfl, by kernel_rfl, by kernel_rfl, by kernel_rfl⟩
theorem v_ref22_Long : S_Long22 Try.prog 60 := ref22_Long b_cadenzaref22_Long
theorem b_enframe_Check : Body Try.prog 27 25 [.tmp 2] (ac_enframe_Check 54 23) := ⟨Try.f27, Try.func27, by kernel_rfl, by kernel_rfl, by kernel_rfl, by kernel_rfl⟩
theorem v_enframe_Check : S_ECheck Try.prog 27 := enframe_Check b_enframe_Check v_width_Range
theorem b_cadenzaref20_Check : Body Try.prog 28 17 [.tmp 2] (ac_cadenzaref20_Check 55 23) := ⟨Try.f28, Try.func28, by kernel_rfl, by kernel_rfl, by kernel_rfl, by kernel_rfl⟩
theorem v_ref20_Check : S_ECheck Try.prog 28 := ref20_Check b_cadenzaref20_Check v_ref18_Half
theorem b_pushenc_right : Body Try.prog 32 28 [.tmp 6, .tmp 7] (ac_pushenc_right 59 27 23) := ⟨Try.f32, Try.func32, by kernel_rfl, by kernel_rfl, by kernel_rfl, by kernel_rfl⟩
theorem v_pushenc_right : S_Right Try.prog 32 := pushenc_right b_pushenc_right v_lengths_Long v_enframe_Check
theorem b_cadenzaref36_Asked : Body Try.prog 33 26 [.tmp 6] (ac_cadenzaref36_Asked 60 28 23) := ⟨Try.f33, Try.func33, by kernel_rfl, by kernel_rfl, by kernel_rfl, by kernel_rfl⟩
theorem v_ref36_Asked : S_Asked Try.prog 33 := ref36_Asked b_cadenzaref36_Asked v_ref22_Long v_ref20_Check
theorem b_pushenc_moment : Body Try.prog 61 9 [.tmp 2] (ac_pushenc_moment 23) := ⟨Try.f61, Try.func61, by kernel_rfl, by kernel_rfl, by kernel_rfl, by kernel_rfl⟩
theorem v_pushenc_moment : S_Moment Try.prog 61 := pushenc_moment b_pushenc_moment
theorem b_cadenzaref36_Moment : Body Try.prog 67 9 [.tmp 2] (ac_cadenzaref36_Moment 23) := ⟨Try.f67, Try.func67, by kernel_rfl, by kernel_rfl, by kernel_rfl, by kernel_rfl⟩
theorem v_ref36_Moment : S_Moment Try.prog 67 := ref36_Moment b_cadenzaref36_Moment
theorem b_pushenc_count : Body Try.prog 63 18 [.tmp 4] (ac_pushenc_count 29) := ⟨Try.f63, Try.func63, by kernel_rfl, by kernel_rfl, by kernel_rfl, by kernel_rfl⟩
theorem v_pushenc_count : S_Count Try.prog 63 := pushenc_count b_pushenc_count
theorem b_cadenzaref36_long : Body Try.prog 66 12 [.tmp 2] (ac_cadenzaref36_long 60 29) := ⟨Try.f66, Try.func66, by kernel_rfl, by kernel_rfl, by kernel_rfl, by kernel_rfl⟩
theorem v_ref36_long : S_RLong Try.prog 66 := ref36_long b_cadenzaref36_long v_ref22_Long
theorem b_cadenzaref36_Count : Body Try.prog 70 17 [.tmp 2] (ac_cadenzaref36_Count 66 29) := ⟨Try.f70, Try.func70, by kernel_rfl, by kernel_rfl, by kernel_rfl, by kernel_rfl⟩
theorem v_ref36_Count : S_RCount Try.prog 70 := ref36_Count b_cadenzaref36_Count v_ref36_long
theorem b_pushenc_room : Body Try.prog 62 17 [.tmp 6] (ac_pushenc_room 29) := ⟨Try.f62, Try.func62, by kernel_rfl, by kernel_rfl, by kernel_rfl, by kernel_rfl⟩
theorem v_pushenc_room : S_Room Try.prog 62 := pushenc_room b_pushenc_room
theorem b_cadenzaref36_fits : Body Try.prog 69 17 [.tmp 6] (ac_cadenzaref36_fits 29) := ⟨Try.f69, Try.func69, by kernel_rfl, by kernel_rfl, by kernel_rfl, by kernel_rfl⟩
theorem v_ref36_fits : S_Room Try.prog 69 := ref36_fits b_cadenzaref36_fits
theorem b_slices_IndexFunc_byte_byte : Body Try.prog 96 19 [.tmp 4] ac_slices_IndexFunc_byte_byte := ⟨Try.f96, Try.func96, by kernel_rfl, by kernel_rfl, by kernel_rfl, by kernel_rfl⟩
theorem v_index_func1 : S_IndexF1 Try.prog 96 := index_func1 b_slices_IndexFunc_byte_byte
theorem b_slices_ContainsFunc_byte_byte : Body Try.prog 64 9 [.tmp 4] (ac_slices_ContainsFunc_byte_byte 96) := ⟨Try.f64, Try.func64, by kernel_rfl, by kernel_rfl, by kernel_rfl, by kernel_rfl⟩
theorem v_contains_func1 : S_ContainsF1 Try.prog 64 := contains_func1 b_slices_ContainsFunc_byte_byte v_index_func1
theorem b_pushenc_feeding_1 : Body Try.prog 65 13 [.tmp 3] ac_pushenc_feeding_1 := ⟨Try.f65, Try.func65, by kernel_rfl, by kernel_rfl, by kernel_rfl, by kernel_rfl⟩
theorem v_feeding_1 : S_BadLen Try.prog 65 := feeding_1 b_pushenc_feeding_1
theorem b_pushenc_feeding : Body Try.prog 34 82 [.tmp 4] (ac_pushenc_feeding 61 44 63 62 65 64 29 3) := ⟨Try.f34, Try.func34, by kernel_rfl, by kernel_rfl, by kernel_rfl, by kernel_rfl⟩
theorem v_pushenc_feeding : S_Feeding Try.prog 34 := pushenc_feeding b_pushenc_feeding v_pushenc_moment v_width_Check v_pushenc_count v_pushenc_room v_feeding_1 v_contains_func1
theorem b_cadenzaref36_feeding : Body Try.prog 35 104 [.tmp 2] (ac_cadenzaref36_feeding 66 67 68 70 69 29) := ⟨Try.f35, Try.func35, by kernel_rfl, by kernel_rfl, by kernel_rfl, by kernel_rfl⟩
theorem v_ref36_feeding : S_RFeeding Try.prog 35 := ref36_feeding b_cadenzaref36_feeding v_ref36_long v_ref36_Moment v_ref18_Check v_ref36_Count v_ref36_fits
theorem b_pushenc_Check : Body Try.prog 10 71 [.tmp 2] (ac_pushenc_Check 32 34 29) := ⟨Try.f10, Try.func10, by kernel_rfl, by kernel_rfl, by kernel_rfl, by kernel_rfl⟩
theorem v_pushenc_Check : S_PCheck Try.prog 10 := pushenc_Check b_pushenc_Check v_pushenc_right v_pushenc_feeding
theorem b_cadenzaref36_Check : Body Try.prog 11 69 [.tmp 2] (ac_cadenzaref36_Check 33 35 29) := ⟨Try.f11, Try.func11, by kernel_rfl, by kernel_rfl, by kernel_rfl, by kernel_rfl⟩
theorem v_ref36_Check : S_PCheck Try.prog 11 := ref36_Check b_cadenzaref36_Check v_ref36_Asked v_ref36_feeding
theorem b_pushenc_New : Body Try.prog 8 24 [.cell 6 29, .tmp 7] (ac_pushenc_New 32 23 29) := ⟨Try.f8, Try.func8, by kernel_rfl, by kernel_rfl, by kernel_rfl, by kernel_rfl⟩
theorem v_pushenc_New : S_New Try.prog 8 := pushenc_New b_pushenc_New (show aggO Try.prog 29 = some (some 10) by kernel_rfl) v_pushenc_right
theorem b_cadenzaref36_New : Body Try.prog 9 21 [.cell 6 29, .tmp 7] (ac_cadenzaref36_New 33 23 29) := ⟨Try.f9, Try.func9, by kernel_rfl, by kernel_rfl, by kernel_rfl, by kernel_rfl⟩
theorem v_ref36_New : S_New Try.prog 9 := ref36_New b_cadenzaref36_New (show aggO Try.prog 29 = some (some 10) by kernel_rfl) v_ref36_Asked
theorem b_cadenzaref36_Same : Body Try.prog 12 114 [.tmp 4] (ac_cadenzaref36_Same 29) := ⟨Try.f12, Try.func12, by kernel_rfl, by kernel_rfl, by kernel_rfl, by kernel_rfl⟩
theorem v_ref36_Same0 : S_Same0 Try.prog 12 := ref36_Same0 b_cadenzaref36_Same
theorem b_cadenzaref36_Great : Body Try.prog 7 74 [.tmp 2] (ac_cadenzaref36_Great 29) := ⟨Try.f7, Try.func7, by kernel_rfl, by kernel_rfl, by kernel_rfl, by kernel_rfl⟩
theorem v_ref36_Great : S_Great36 Try.prog 7 := ref36_Great b_cadenzaref36_Great
theorem b_cadenzalaw36_PushencChecks : Body Try.prog 3 49 [.tmp 8] (ac_cadenzalaw36_PushencChecks 7 8 9 10 11 12 29 23) := ⟨Try.f3, Try.func3, by kernel_rfl, by kernel_rfl, by kernel_rfl, by kernel_rfl⟩
theorem v_law36_PushencChecks : S_LawChecks Try.prog 3 := law36_PushencChecks b_cadenzalaw36_PushencChecks v_ref36_Great v_pushenc_New v_ref36_New v_pushenc_Check v_ref36_Check v_ref36_Same0

theorem own : ownKnob Try.prog.godebug = none := by kernel_rfl
theorem laid : laidOutB Try.prog = true := by kernel_rfl

set_option maxRecDepth 100000 in
theorem contract (H : Type) (enc : TypeId × Value → H) (W : World) (base : Nat) (args : Array Value) (ds gs : List (DataW H)) (before : List MemPlace)
    (hval : ∀ (j : Nat) t v, Try.f3.params[j]? = some t → args[j]? = some v → Value.okWide Try.prog W .any base t v)
    (hW : DataW.Whole enc Try.prog Try.f3.params.toList Rows.pushencChecksSpec.vars false W args.toList ds gs before) :
    Calls Try.prog 3 args W fun e W' => ∃ v, e = .returned v ∧ Rows.pushencChecksSpec.post enc Try.prog Try.f3 false true false false W args v W' := by
  have hW' := hW
  obtain ⟨p, q, hA0, hV, rfl, hfz, hnd⟩ := hW
  have hA : DataW.TrodAll enc Try.prog W 0 (fun _ => true) true Try.f3.params.toList args.toList ds p := hA0
  rw [Try.params3] at hA hval
  obtain ⟨v0, vs0, d0, ds0, p0, q0, hargs, rfl, rfl, h0, r0⟩ := trodAll_cons hA
  obtain ⟨v1, vs1, d1, ds1, p1, q1, rfl, rfl, rfl, h1, r1⟩ := trodAll_cons r0
  obtain ⟨v2, vs2, d2, ds2, p2, q2, rfl, rfl, rfl, h2, r2⟩ := trodAll_cons r1
  obtain ⟨v3, vs3, d3, ds3, p3, q3, rfl, rfl, rfl, h3, r3⟩ := trodAll_cons r2
  obtain ⟨rfl, rfl, rfl⟩ := trodAll_nil r3
  obtain rfl : args = #[v0, v1, v2, v3] := by cases args; simp_all
  obtain ⟨rfl, rfl⟩ := trodVars_none hV
  obtain ⟨as0, r0, q0⟩ := arg_agg (P := Try.prog) (k := 8) (s := encSh) (by kernel_rfl) (isStr_eq (by kernel_rfl)) (hval 0 _ v0 rfl rfl) h0
  obtain ⟨e0, rfl, g0⟩ := fits_enc q0
  obtain ⟨as1, r1, q1⟩ := arg_agg (P := Try.prog) (k := 8) (s := shSh) (by kernel_rfl) (isStr_eq (by kernel_rfl)) (hval 1 _ v1 rfl rfl) h1
  obtain ⟨c1, b1, rfl⟩ := fits_shape q1
  obtain ⟨n2, w2, r2⟩ := arg_int (P := Try.prog) (k := .i64) (by kernel_rfl) (hval 2 _ v2 rfl rfl) h2
  obtain ⟨s3, l3, r3⟩ := arg_string (P := Try.prog) (by kernel_rfl) (hval 3 _ v3 rfl rfl) h3
  refine (calls_true (v_law36_PushencChecks e0 c1 b1 n2 s3 g0) (args := #[v0, v1, v2, v3]) (by simp only [RepL]; exact ⟨v0, _, rfl, r0, v1, _, rfl, r1, v2, _, rfl, r2, v3, _, rfl, r3, rfl⟩)).mono fun e W' ⟨he, hb⟩ => ?_
  subst he
  exact ⟨_, rfl, post_true laid (by kernel_rfl) (by rfl) (by kernel_rfl) rfl ⟨rfl, rfl, rfl⟩ hW' hb⟩

set_option maxRecDepth 100000 in
theorem lifted (os : Os) (started : os.Started) (H : Type) (enc : TypeId × Value → H) :
    ReturnsInHanded {} Try.checked os 3 .any (Rows.pushencChecksSpec.pre6 enc Try.prog Try.f3 Rows.pushencChecksRow.domain false) (Rows.pushencChecksSpec.post enc Try.prog Try.f3 false true false false) := by
  refine returnsInHanded_of_change (C := Try.checked) own started (by kernel_rfl) Try.func3
    (ChangeSpec.witness6 (enc := enc) (C := Try.checked) false ⟨#[], #[.agg #[.int .i64 0, .int .i64 0, .int .i64 0, .string ⟨#[]⟩, .slice none 0 0, .slice none 0 0, .slice none 0 0, .slice none 0 0, .bool false, .int .i64 0], .agg #[.int .i64 0, .int .i64 0], .int .i64 0, .string ⟨#[]⟩], []⟩ 8 (by kernel_rfl) (by kernel_rfl) (by kernel_rfl) (by kernel_rfl)) ?_
  intro W base args ds gs before hval hW _ _
  exact contract H enc W base args ds gs before hval hW

theorem proved : Rows.PushencChecksSaid :=
  OpenClaim.holds_of_wide 3 Try.f3 rfl rfl rfl rfl rfl rfl rfl ⟨rfl, rfl, rfl, rfl, rfl⟩ rfl rfl rfl rfl rfl (by kernel_rfl) Try.func3 (by kernel_rfl)
    (of_decide_eq_true (by kernel_rfl)) (by unfold Func.isWrapper; first | (rw [if_pos (by decide +kernel)]; kernel_rfl) | (rw [if_neg (by decide +kernel)]; exact ⟨rfl, rfl⟩))
    (fun os started H enc _ => lifted os started H enc)

end Go.Proofs.Ytjkgohbljmmmdaa.pushencChecks

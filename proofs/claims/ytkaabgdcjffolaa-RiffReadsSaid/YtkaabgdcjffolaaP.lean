/- For every slice of bytes cadenzalaw31.RiffReads returns true and leaves the bytes as they were; no conditions. -/
import Derived.Test.YtkaabgdcjffolaaRows
import Derived.Test.YtkaabgdcjffolaaL
set_option linter.unusedSectionVars false
set_option linter.unusedSimpArgs false
set_option linter.unusedVariables false
namespace Go.Proofs.Ytkaabgdcjffolaa.riffReads
open Go.Am Go.ChangeShapes Go.WideShapes Go.ChangeAt Go.RowKit

theorem b_le_Value : Body Try.prog 13 31 [.tmp 2, .tmp 3] ac_le_Value := ⟨Try.f13, Try.func13, by kernel_rfl, by kernel_rfl, by kernel_rfl, by kernel_rfl⟩
theorem v_le_Value : S_le_Value Try.prog 13 := le_Value b_le_Value
theorem b_le_At : Body Try.prog 8 33 [.tmp 6, .tmp 7] (ac_le_At 13) := ⟨Try.f8, Try.func8, by kernel_rfl, by kernel_rfl, by kernel_rfl, by kernel_rfl⟩
theorem v_le_At : S_le_At Try.prog 8 := le_At b_le_At v_le_Value
theorem b_cadenzaref01_Of : Body Try.prog 11 21 [.tmp 2] ac_cadenzaref01_Of := ⟨Try.f11, Try.func11, by kernel_rfl, by kernel_rfl, by kernel_rfl, by kernel_rfl⟩
theorem v_ref01_Of : S_ref01_Of Try.prog 11 := ref01_Of b_cadenzaref01_Of
theorem b_riff_isName : Body Try.prog 9 22 [.tmp 2] ac_riff_isName := ⟨Try.f9, Try.func9, by kernel_rfl, by kernel_rfl, by kernel_rfl, by kernel_rfl⟩
theorem v_riff_isName : S_isName Try.prog 9 := riff_isName b_riff_isName
theorem b_cadenzaref31_Name : Body Try.prog 12 23 [.tmp 2] ac_cadenzaref31_Name := ⟨Try.f12, Try.func12, by kernel_rfl, by kernel_rfl, by kernel_rfl, by kernel_rfl⟩
theorem v_ref31_Name : S_isName Try.prog 12 := ref31_Name b_cadenzaref31_Name
theorem b_bytes_Clone : Body Try.prog 14 8 [.tmp 2] (ac_bytes_Clone 5) := ⟨Try.f14, Try.func14, by kernel_rfl, by kernel_rfl, by kernel_rfl, by kernel_rfl⟩
theorem v_bytes_Clone : S_bytes_Clone Try.prog 14 := bytes_Clone b_bytes_Clone
theorem b_riff_next : Body Try.prog 10 62 [.cell 2 36, .tmp 3, .tmp 4] (ac_riff_next 9 8 14 36) := ⟨Try.f10, Try.func10, by kernel_rfl, by kernel_rfl, by kernel_rfl, by kernel_rfl⟩
theorem v_riff_next : S_riff_next Try.prog 10 := riff_next b_riff_next (show aggO Try.prog 36 = some (some 2) by kernel_rfl) v_riff_isName v_le_At v_bytes_Clone
theorem b_riff_Read : Body Try.prog 5 80 [.tmp 2, .tmp 3, .tmp 4] (ac_riff_Read 8 9 10 36) := ⟨Try.f5, Try.func5, by kernel_rfl, by kernel_rfl, by kernel_rfl, by kernel_rfl⟩
theorem v_riff_Read : S_Read Try.prog 5 := riff_Read b_riff_Read v_le_At v_riff_isName v_riff_next
theorem b_cadenzaref31_Read : Body Try.prog 6 130 [.tmp 2, .tmp 3, .tmp 4] (ac_cadenzaref31_Read 11 12 5 36) := ⟨Try.f6, Try.func6, by kernel_rfl, by kernel_rfl, by kernel_rfl, by kernel_rfl⟩
theorem v_ref31_Read : S_Read Try.prog 6 := ref31_Read b_cadenzaref31_Read v_ref01_Of v_ref31_Name
theorem b_cadenzaref31_Long : Body Try.prog 4 16 [.tmp 2] ac_cadenzaref31_Long := ⟨Try.f4, Try.func4, by kernel_rfl, by kernel_rfl, by kernel_rfl, by kernel_rfl⟩
theorem v_ref31_Long : S_Long Try.prog 4 := ref31_Long b_cadenzaref31_Long
theorem b_cadenzaref31_Same : Body Try.prog 7 43 [.tmp 4] ac_cadenzaref31_Same := ⟨Try.f7, Try.func7, by kernel_rfl, by kernel_rfl, by kernel_rfl, by kernel_rfl⟩
theorem v_ref31_Same : S_Same Try.prog 7 := ref31_Same b_cadenzaref31_Same
theorem b_cadenzalaw31_RiffReads : Body Try.prog 3 45 [.tmp 2] (ac_cadenzalaw31_RiffReads 4 5 6 7) := ⟨Try.f3, Try.func3, by kernel_rfl, by kernel_rfl, by kernel_rfl, by kernel_rfl⟩
theorem v_law31_RiffReads : S_True1 Try.prog 3 := law31_RiffReads b_cadenzalaw31_RiffReads v_ref31_Long v_riff_Read v_ref31_Read v_ref31_Same


theorem own : ownKnob Try.prog.godebug = none := by kernel_rfl
theorem laid : laidOutB Try.prog = true := by kernel_rfl

theorem contract (H : Type) (enc : TypeId × Value → H) (W : World) (base : Nat) (args : Array Value) (ds gs : List (DataW H)) (before : List MemPlace)
    (hval : ∀ (j : Nat) t v, Try.f3.params[j]? = some t → args[j]? = some v → Value.okWide Try.prog W .any base t v)
    (hW : DataW.Whole enc Try.prog Try.f3.params.toList Rows.riffReadsSpec.vars false W args.toList ds gs before) :
    Calls Try.prog 3 args W fun e W' => ∃ v, e = .returned v ∧ Rows.riffReadsSpec.post enc Try.prog Try.f3 false true false false W args v W' := by
  have hW' := hW
  obtain ⟨p, q, hA0, hV, rfl, hfz, hnd⟩ := hW
  have hA : DataW.TrodAll enc Try.prog W 0 (fun _ => true) true Try.f3.params.toList args.toList ds p := hA0
  rw [Try.params3] at hA hval
  obtain ⟨v0, vs0, d0, ds0, p0, q0, hargs, rfl, rfl, h0, r0⟩ := trodAll_cons hA
  obtain ⟨rfl, rfl, rfl⟩ := trodAll_nil r0
  obtain rfl : args = #[v0] := by cases args; simp_all
  obtain ⟨rfl, rfl⟩ := trodVars_none hV
  obtain ⟨l, hl, hr⟩ := arg_bytes (P := Try.prog) (e := 5) (by kernel_rfl) (by kernel_rfl) (by kernel_rfl) (hval 0 _ v0 rfl rfl) h0
  refine (calls_true (v_law31_RiffReads l) (args := #[v0]) (by simp only [RepL]; exact ⟨v0, [], rfl, hr, rfl⟩)).mono fun e W' ⟨he, hb⟩ => ?_
  subst he
  exact ⟨_, rfl, post_true laid (by kernel_rfl) (by rfl) (by kernel_rfl) rfl ⟨rfl, rfl, rfl⟩ hW' hb⟩

set_option maxRecDepth 100000 in
theorem lifted (os : Os) (started : os.Started) (H : Type) (enc : TypeId × Value → H) :
    ReturnsInHanded {} Try.checked os 3 .any (Rows.riffReadsSpec.pre6 enc Try.prog Try.f3 Rows.riffReadsRow.domain false) (Rows.riffReadsSpec.post enc Try.prog Try.f3 false true false false) := by
  refine returnsInHanded_of_change (C := Try.checked) own started (by kernel_rfl) Try.func3
    (ChangeSpec.witness6 (enc := enc) (C := Try.checked) false ⟨#[], #[.slice none 0 0], []⟩ 8 (by kernel_rfl) (by kernel_rfl) (by kernel_rfl) (by kernel_rfl)) ?_
  intro W base args ds gs before hval hW _ _
  exact contract H enc W base args ds gs before hval hW

theorem proved : Rows.RiffReadsSaid :=
  OpenClaim.holds_of_wide 3 Try.f3 rfl rfl rfl rfl rfl rfl rfl ⟨rfl, rfl, rfl, rfl, rfl⟩ rfl rfl rfl rfl rfl (by kernel_rfl) Try.func3 (by kernel_rfl)
    (of_decide_eq_true (by kernel_rfl)) (by unfold Func.isWrapper; first | (rw [if_pos (by decide +kernel)]; kernel_rfl) | (rw [if_neg (by decide +kernel)]; exact ⟨rfl, rfl⟩))
    (fun os started H enc _ => lifted os started H enc)

end Go.Proofs.Ytkaabgdcjffolaa.riffReads

/- cadenzalaw31.RiffNames returns true. No conditions. -/
import Derived.Test.YtpbpkljfcfhkoaaDoorRows
import Derived.Test.YtpbpkljfcfhkoaaDoorCards
import Derived.Test.YtpbpkljfcfhkoaaDoorTie
import Derived.Test.YtpbpkljfcfhkoaaDoorRiffNamesY1
import Derived.ChangeSame
import Derived.ChangeVars
import Derived.JoinedOf
import Derived.RowKit
import Derived.RowKitTokens
import Derived.LaidLaws
import Derived.Stop.Joined
import Derived.SevenTiedAt
set_option linter.unusedSectionVars false
set_option linter.unusedSimpArgs false
set_option linter.unusedVariables false
namespace Go.Proofs.YtpbpkljfcfhkoaaDoor.riffNames
open Go.Am Go.ChangeShapes Go.WideShapes Go.ChangeAt Go.RowKit

noncomputable def pg : Prg := ⟨Tryd.prog, [], fun g cs h => by
  cases h⟩

theorem b_le_Value : Body pg 41 31 [.tmp 2, .tmp 3] ac_le_Value := ⟨Tryd.f41, Tryd.func41, by kernel_rfl, by kernel_rfl, by kernel_rfl, by kernel_rfl⟩
theorem v_le_Value : S_le_Value pg 41 := le_Value b_le_Value
theorem b_le_At : Body pg 35 33 [.tmp 6, .tmp 7] (ac_le_At 41) := ⟨Tryd.f35, Tryd.func35, by kernel_rfl, by kernel_rfl, by kernel_rfl, by kernel_rfl⟩
theorem v_le_At : S_le_At pg 35 := le_At b_le_At v_le_Value
theorem b_riff_isName : Body pg 30 22 [.tmp 2] ac_riff_isName := ⟨Tryd.f30, Tryd.func30, by kernel_rfl, by kernel_rfl, by kernel_rfl, by kernel_rfl⟩
theorem v_riff_isName : S_isName pg 30 := riff_isName b_riff_isName
theorem b_bytes_Clone : Body pg 42 8 [.tmp 2] (ac_bytes_Clone 5) := ⟨Tryd.f42, Tryd.func42, by kernel_rfl, by kernel_rfl, by kernel_rfl, by kernel_rfl⟩
theorem v_bytes_Clone : S_bytes_Clone pg 42 := bytes_Clone b_bytes_Clone
theorem b_riff_next : Body pg 36 62 [.cell 2 45, .tmp 3, .tmp 4] (ac_riff_next 30 35 42 45) := ⟨Tryd.f36, Tryd.func36, by kernel_rfl, by kernel_rfl, by kernel_rfl, by kernel_rfl⟩
theorem v_riff_next : S_riff_next pg 36 := riff_next b_riff_next (show aggO Tryd.prog 45 = some (some 2) by kernel_rfl) v_riff_isName v_le_At v_bytes_Clone
theorem b_riff_Read : Body pg 16 80 [.tmp 2, .tmp 3, .tmp 4] (ac_riff_Read 35 30 36 45) := ⟨Tryd.f16, Tryd.func16, by kernel_rfl, by kernel_rfl, by kernel_rfl, by kernel_rfl⟩
theorem v_riff_Read : S_Read pg 16 := riff_Read b_riff_Read v_le_At v_riff_isName v_riff_next
theorem b_cadenzaref31_Same : Body pg 17 43 [.tmp 4] ac_cadenzaref31_Same := ⟨Tryd.f17, Tryd.func17, by kernel_rfl, by kernel_rfl, by kernel_rfl, by kernel_rfl⟩
theorem v_ref31_Same : S_Same pg 17 := ref31_Same b_cadenzaref31_Same
theorem b_le_fits : Body pg 37 14 [.tmp 4] ac_le_fits := ⟨Tryd.f37, Tryd.func37, by kernel_rfl, by kernel_rfl, by kernel_rfl, by kernel_rfl⟩
theorem v_le_fits : S_fits pg 37 := le_fits b_le_fits
theorem b_le_Bytes : Body pg 22 35 [.tmp 4, .tmp 5] (ac_le_Bytes 37 5) := ⟨Tryd.f22, Tryd.func22, by kernel_rfl, by kernel_rfl, by kernel_rfl, by kernel_rfl⟩
theorem v_le_Bytes : S_leBytes pg 22 := le_Bytes b_le_Bytes v_le_fits
theorem b_riff_size : Body pg 25 25 [.tmp 2] (ac_riff_size 45) := ⟨Tryd.f25, Tryd.func25, by kernel_rfl, by kernel_rfl, by kernel_rfl, by kernel_rfl⟩
theorem v_riff_size : S_size pg 25 4 := riff_size b_riff_size
theorem b_slices_IndexFunc_api_Chunk_api_Chunk : Body pg 28 19 [.tmp 4] ac_slices_IndexFunc_api_Chunk_api_Chunk := ⟨Tryd.f28, Tryd.func28, by kernel_rfl, by kernel_rfl, by kernel_rfl, by kernel_rfl⟩
theorem v_index_func2 : S_IndexF2 pg 28 := index_func2 b_slices_IndexFunc_api_Chunk_api_Chunk
theorem b_slices_ContainsFunc_api_Chunk_api_Chunk : Body pg 31 9 [.tmp 4] (ac_slices_ContainsFunc_api_Chunk_api_Chunk 28) := ⟨Tryd.f31, Tryd.func31, by kernel_rfl, by kernel_rfl, by kernel_rfl, by kernel_rfl⟩
theorem v_contains_func2 : S_ContainsF2 pg 31 := contains_func2 b_slices_ContainsFunc_api_Chunk_api_Chunk v_index_func2
theorem b_riff_Check_1 : Body pg 32 7 [.tmp 2] (ac_riff_Check_1 30 45) := ⟨Tryd.f32, Tryd.func32, by kernel_rfl, by kernel_rfl, by kernel_rfl, by kernel_rfl⟩
theorem v_riff_Check1 : S_Check1 pg 32 := riff_Check1 b_riff_Check_1 v_riff_isName
theorem b_riff_Check : Body pg 13 21 [.tmp 4] (ac_riff_Check 30 25 31 32) := ⟨Tryd.f13, Tryd.func13, by kernel_rfl, by kernel_rfl, by kernel_rfl, by kernel_rfl⟩
theorem v_riff_Check : S_Check pg 13 := riff_Check b_riff_Check v_riff_isName v_riff_size v_contains_func2 v_riff_Check1
theorem b_riff_Find_1 : Body pg 29 8 [.tmp 3] (ac_riff_Find_1 45) := ⟨Tryd.f29, Tryd.func29, by kernel_rfl, by kernel_rfl, by kernel_rfl, by kernel_rfl⟩
theorem v_riff_Find1 : S_Find1 pg 29 := riff_Find1 b_riff_Find_1
theorem b_riff_Find : Body pg 11 13 [.tmp 4, .tmp 5] (ac_riff_Find 29 28 9) := ⟨Tryd.f11, Tryd.func11, by kernel_rfl, by kernel_rfl, by kernel_rfl, by kernel_rfl⟩
theorem v_riff_Find : S_Find pg 11 := riff_Find b_riff_Find v_riff_Find1 v_index_func2
theorem b_riff_Write : Body pg 9 48 [.tmp 4, .tmp 5] (ac_riff_Write 13 21 25 23 24 26 51 45 5) := ⟨Tryd.f9, Tryd.func9, by kernel_rfl, by kernel_rfl, by kernel_rfl, by kernel_rfl⟩
theorem b_bytes_Buffer_tryGrowByReslice : Body pg 38 33 [.tmp 4, .tmp 5] ac_bytes_Buffer_tryGrowByReslice := ⟨Tryd.f38, Tryd.func38, by kernel_rfl, by kernel_rfl, by kernel_rfl, by kernel_rfl⟩
theorem b_bytes_Buffer_grow : Body pg 39 110 [.tmp 4] (ac_bytes_Buffer_grow 43 44 38 45 5 0) := ⟨Tryd.f39, Tryd.func39, by kernel_rfl, by kernel_rfl, by kernel_rfl, by kernel_rfl⟩
theorem b_bytes_Buffer_Len : Body pg 43 13 [.tmp 2] ac_bytes_Buffer_Len := ⟨Tryd.f43, Tryd.func43, by kernel_rfl, by kernel_rfl, by kernel_rfl, by kernel_rfl⟩
theorem b_bytes_Buffer_WriteString : Body pg 23 32 [.tmp 4, .tmp 5] (ac_bytes_Buffer_WriteString 38 39) := ⟨Tryd.f23, Tryd.func23, by kernel_rfl, by kernel_rfl, by kernel_rfl, by kernel_rfl⟩
theorem b_bytes_Buffer_Write : Body pg 24 32 [.tmp 4, .tmp 5] (ac_bytes_Buffer_Write 38 39) := ⟨Tryd.f24, Tryd.func24, by kernel_rfl, by kernel_rfl, by kernel_rfl, by kernel_rfl⟩
theorem b_bytes_Buffer_Bytes : Body pg 26 12 [.tmp 2] ac_bytes_Buffer_Bytes := ⟨Tryd.f26, Tryd.func26, by kernel_rfl, by kernel_rfl, by kernel_rfl, by kernel_rfl⟩
theorem bufW : BufW pg Tryd.laysM252_ren 38 43 44 45 0 23 24 26 := ⟨Tryd.laysM252, ⟨b_bytes_Buffer_tryGrowByReslice, b_bytes_Buffer_grow, b_bytes_Buffer_Len⟩, b_bytes_Buffer_WriteString, b_bytes_Buffer_Write, b_bytes_Buffer_Bytes⟩
theorem b_riff_Write_1 : Body pg 21 17 [] (ac_riff_Write_1 22 23 24) := ⟨Tryd.f21, Tryd.func21, by kernel_rfl, by kernel_rfl, by kernel_rfl, by kernel_rfl⟩
theorem v_riff_Write : S_Write pg 9 := riff_Write bufW b_riff_Write v_riff_Check b_riff_Write_1 v_le_Bytes v_riff_size
theorem b_cadenzalaw31_example : Body pg 34 4 [.tmp 0] (ac_cadenzalaw31_example 5 45) := ⟨Tryd.f34, Tryd.func34, by kernel_rfl, by kernel_rfl, by kernel_rfl, by kernel_rfl⟩
theorem v_law31_example : S_example pg 34 := law31_example b_cadenzalaw31_example
theorem b_cadenzalaw31_alive : Body pg 15 38 [.tmp 0] (ac_cadenzalaw31_alive 34 9 16 17 5) := ⟨Tryd.f15, Tryd.func15, by kernel_rfl, by kernel_rfl, by kernel_rfl, by kernel_rfl⟩
theorem v_law31_alive : S_alive pg 15 := law31_alive b_cadenzalaw31_alive v_law31_example v_riff_Write v_riff_Read v_ref31_Same
theorem b_cadenzalaw31_reads : Body pg 18 31 [.tmp 4] (ac_cadenzalaw31_reads 16) := ⟨Tryd.f18, Tryd.func18, by kernel_rfl, by kernel_rfl, by kernel_rfl, by kernel_rfl⟩
theorem v_law31_reads : S_reads pg 18 := law31_reads b_cadenzalaw31_reads v_riff_Read
theorem b_cadenzalaw31_RiffNames : Body pg 6 227 [.tmp 0] (ac_cadenzalaw31_RiffNames 13 9 18 11 15 45 5) := ⟨Tryd.f6, Tryd.func6, by kernel_rfl, by kernel_rfl, by kernel_rfl, by kernel_rfl⟩
theorem v_law31_RiffNames : S_RiffNames pg 6 := law31_RiffNames b_cadenzalaw31_RiffNames v_riff_Check v_riff_Write v_law31_reads v_riff_Find v_law31_alive

theorem own : ownKnob Tryd.prog.godebug = none := by kernel_rfl
theorem laid : laidOutB Tryd.prog = true := by kernel_rfl

set_option maxRecDepth 100000 in
theorem contract (H : Type) (enc : TypeId × Value → H) (W : World) (base : Nat) (args : Array Value) (ds gs : List (DataW H)) (before : List MemPlace)
    (hval : ∀ (j : Nat) t v, Tryd.f6.params[j]? = some t → args[j]? = some v → Value.okWide Tryd.prog W .any base t v)
    (hW : DataW.Whole enc Tryd.prog Tryd.f6.params.toList Rows.riffNamesSpec.vars false W args.toList ds gs before) :
    Calls Tryd.prog 6 args W fun e W' => ∃ v, e = .returned v ∧ Rows.riffNamesSpec.post enc Tryd.prog Tryd.f6 false true false false W args v W' := by
  have hW' := hW
  obtain ⟨p, q, hA0, hV, rfl, hfz, hnd⟩ := hW
  have hA : DataW.TrodAll enc Tryd.prog W 0 (fun _ => true) true Tryd.f6.params.toList args.toList ds p := hA0
  rw [Tryd.params6] at hA hval
  obtain ⟨hargs, rfl, rfl⟩ := trodAll_nil hA
  obtain rfl : args = #[] := by cases args; simp_all
  obtain ⟨rfl, rfl⟩ := trodVars_none hV
  refine (calls_true (P := pg) (v_law31_RiffNames) (fun q cs h => by cases h) (args := #[]) (by simp only [RepL])).mono fun e W' ⟨he, hb⟩ => ?_
  subst he
  exact ⟨_, rfl, post_true laid (by kernel_rfl) (by rfl) (by kernel_rfl) rfl ⟨rfl, rfl, rfl⟩ hW' hb⟩

noncomputable def low : Nat := (World.holding Tryd.prog default ⟨#[], #[], []⟩).heap.size
/-- A world in which the listed variables lie as the text lays them. -/
noncomputable def laidWorld (os : Os) : World :=
  let w0 := World.holding Tryd.prog os ⟨#[.cells #[.string { data := #[98, 121, 116, 101, 115, 46, 66, 117, 102, 102, 101, 114, 58, 32, 116, 111, 111, 32, 108, 97, 114, 103, 101] }] 98], #[], []⟩
  { w0 with heap := (w0.heap.modify 0 fun
      | .cells _ t frozen => .cells #[.iface 81 (.pointer (some ⟨low + 0, 0, none⟩))] t frozen
      | o => o) }
theorem laidWorld_met (os : Os) (args : Array Value) : laidMet Tryd.prog Rows.riffNamesRow.laid ((laidWorld os).forCall (fun _ _ => 0) ⟨#[], args, []⟩).memory :=
  laidMet_of_run' 8 (by kernel_rfl) (by kernel_rfl)

set_option maxRecDepth 100000 in
theorem lifted (os : Os) (started : os.Started) (H : Type) (enc : TypeId × Value → H) :
    ReturnsInHanded {} Tryd.checked os 6 .any (fun w args => (Rows.riffNamesSpec.pre enc Tryd.prog Tryd.f6 [] false w args ∧ laidMet Tryd.prog Rows.riffNamesRow.laid w) ∧ sizedMet enc Tryd.prog Tryd.f6 (OpenSpec.ofChange Rows.riffNamesSpec) false w args)
      (Rows.riffNamesSpec.post enc Tryd.prog Tryd.f6 false true false false) := by
  refine returnsInHanded_of_change_and (C := Tryd.checked) (X := fun w _ => laidMet Tryd.prog Rows.riffNamesRow.laid w) (fun _ _ _ hh h => h.of_heap hh) own started (by kernel_rfl) Tryd.func6
    (ChangeSpec.witness_at (enc := enc) (C := Tryd.checked) (os := os) (X := fun w _ => laidMet Tryd.prog Rows.riffNamesRow.laid w) false (laidWorld os) #[] 8 rfl (by kernel_rfl) (by kernel_rfl) (by kernel_rfl) (by kernel_rfl) (by kernel_rfl) (laidWorld_met os _)) ?_
  intro W base args ds gs before hval hW _ _ hL _
  exact contract H enc W base args ds gs before hval hW

theorem row_holds : Rows.RiffNamesSaid :=
  OpenClaim.holds_of_wide 6 Tryd.f6 rfl rfl rfl rfl rfl rfl rfl ⟨rfl, rfl, rfl, rfl, rfl⟩ rfl rfl rfl rfl rfl (by kernel_rfl) Tryd.func6 (by kernel_rfl)
    (of_decide_eq_true (by kernel_rfl)) (by unfold Func.isWrapper; first | (rw [if_pos (by decide +kernel)]; kernel_rfl) | (rw [if_neg (by decide +kernel)]; exact ⟨rfl, rfl⟩))
    (fun os started H enc _ => lifted os started H enc)

theorem proved : Rows.RiffNamesCardSaid :=
  Claim7.holds_tied_plain_at .later [] [.sentinel] true (true, "e1607a0935e044d5e91fa717110783c103f81e01909bc1c5fcb890b517ef0e02") false
    row_holds (fun _ h => by cases h) (by kernel_rfl) (fun _ h => by cases h) riffNames_row_tie rfl ⟨rfl, rfl⟩ (by kernel_rfl) rfl
    (fun f fn hf hfn => by
      obtain rfl : f = 6 := Option.some.inj ((show Tryd.prog.funcNamed Rows.riffNamesRow.func = some 6 by kernel_rfl).symm.trans hf) |>.symm
      obtain rfl : fn = Tryd.f6 := (Option.some.inj (Tryd.func6.symm.trans hfn)).symm
      exact ⟨by kernel_rfl, fun j t ht => by
        have hall : (Tryd.f6.params.toList.all fun t => !Tryd.prog.wantsStandIn t) = true := by kernel_rfl
        have hm : t ∈ Tryd.f6.params.toList := by simpa using Array.mem_of_getElem? ht
        have h2 : Tryd.prog.wantsStandIn t = false := by simpa using List.all_eq_true.1 hall t hm
        exact h2⟩)
    (by kernel_rfl)

end Go.Proofs.YtpbpkljfcfhkoaaDoor.riffNames

/- For every list of bytes cadenzalaw33.WavReads returns true and leaves its argument as it was. No conditions. -/
import Derived.Test.YtjkgohbljmmmdaaDoorRows
import Derived.Test.YtjkgohbljmmmdaaDoorCards
import Derived.Test.YtjkgohbljmmmdaaDoorTie
import Derived.Test.YtjkgohbljmmmdaaDoorWavReadsL3
import Derived.ChangeSame
import Derived.ChangeVars
import Derived.JoinedOf
import Derived.RowKit
import Derived.RowKitTokens
import Derived.LaidLaws
import Derived.Stop.Joined
import Derived.SevenTiedAt
set_option linter.unusedSectionVars false
set_option linter.unusedSimpArgs false
set_option linter.unusedVariables false
namespace Go.Proofs.YtjkgohbljmmmdaaDoor.wavReads
open Go.Am Go.ChangeShapes Go.WideShapes Go.ChangeAt Go.RowKit

noncomputable def pg : Prg := ⟨Tryd.prog, [(0, [.int .i64 2, .int .i64 2, .int .i64 4, .int .i64 4, .int .i64 2, .int .i64 2, .int .i64 2, .int .i64 2, .int .i64 4]), (1, [.int .u8 1, .int .u8 0, .int .u8 0, .int .u8 0, .int .u8 0, .int .u8 0, .int .u8 16, .int .u8 0, .int .u8 128, .int .u8 0, .int .u8 0, .int .u8 170, .int .u8 0, .int .u8 56, .int .u8 155, .int .u8 113])], fun g cs h => by
  simp only [List.lookup] at h
  repeat (first | (cases h; done) | (split at h; first | (cases h; rfl) | skip))⟩

theorem b_le_Value : Body pg 79 31 [.tmp 2, .tmp 3] ac_le_Value := ⟨Tryd.f79, Tryd.func79, by kernel_rfl, by kernel_rfl, by kernel_rfl, by kernel_rfl⟩
theorem v_le_Value : S_le_Value pg 79 := le_Value b_le_Value
theorem b_le_At : Body pg 45 33 [.tmp 6, .tmp 7] (ac_le_At 79) := ⟨Tryd.f45, Tryd.func45, by kernel_rfl, by kernel_rfl, by kernel_rfl, by kernel_rfl⟩
theorem v_le_At : S_le_At pg 45 := le_At b_le_At v_le_Value
theorem b_cadenzaref01_Of : Body pg 67 21 [.tmp 2] ac_cadenzaref01_Of := ⟨Tryd.f67, Tryd.func67, by kernel_rfl, by kernel_rfl, by kernel_rfl, by kernel_rfl⟩
theorem v_ref01_Of : S_ref01_Of pg 67 := ref01_Of b_cadenzaref01_Of
theorem b_riff_isName : Body pg 46 22 [.tmp 2] ac_riff_isName := ⟨Tryd.f46, Tryd.func46, by kernel_rfl, by kernel_rfl, by kernel_rfl, by kernel_rfl⟩
theorem v_riff_isName : S_isName pg 46 := riff_isName b_riff_isName
theorem b_cadenzaref31_Name : Body pg 55 23 [.tmp 2] ac_cadenzaref31_Name := ⟨Tryd.f55, Tryd.func55, by kernel_rfl, by kernel_rfl, by kernel_rfl, by kernel_rfl⟩
theorem v_ref31_Name : S_isName pg 55 := ref31_Name b_cadenzaref31_Name
theorem b_bytes_Clone : Body pg 80 8 [.tmp 2] (ac_bytes_Clone 5) := ⟨Tryd.f80, Tryd.func80, by kernel_rfl, by kernel_rfl, by kernel_rfl, by kernel_rfl⟩
theorem v_bytes_Clone : S_bytes_Clone pg 80 := bytes_Clone b_bytes_Clone
theorem b_riff_next : Body pg 47 62 [.cell 2 49, .tmp 3, .tmp 4] (ac_riff_next 46 45 80 49) := ⟨Tryd.f47, Tryd.func47, by kernel_rfl, by kernel_rfl, by kernel_rfl, by kernel_rfl⟩
theorem v_riff_next : S_riff_next pg 47 := riff_next b_riff_next (show aggO Tryd.prog 49 = some (some 2) by kernel_rfl) v_riff_isName v_le_At v_bytes_Clone
theorem b_riff_Read : Body pg 22 80 [.tmp 2, .tmp 3, .tmp 4] (ac_riff_Read 45 46 47 49) := ⟨Tryd.f22, Tryd.func22, by kernel_rfl, by kernel_rfl, by kernel_rfl, by kernel_rfl⟩
theorem v_riff_Read : S_Read pg 22 := riff_Read b_riff_Read v_le_At v_riff_isName v_riff_next
theorem b_cadenzaref31_Read : Body pg 37 130 [.tmp 2, .tmp 3, .tmp 4] (ac_cadenzaref31_Read 67 55 5 49) := ⟨Tryd.f37, Tryd.func37, by kernel_rfl, by kernel_rfl, by kernel_rfl, by kernel_rfl⟩
theorem v_ref31_Read : S_Read pg 37 := ref31_Read b_cadenzaref31_Read v_ref01_Of v_ref31_Name
theorem b_width_Range : Body pg 65 18 [.tmp 2, .tmp 3, .tmp 4] ac_width_Range := ⟨Tryd.f65, Tryd.func65, by kernel_rfl, by kernel_rfl, by kernel_rfl, by kernel_rfl⟩
theorem v_width_Range : S_Range pg 65 := width_Range b_width_Range
theorem b_cadenzaref18_Half : Body pg 70 10 [.tmp 2] ac_cadenzaref18_Half := ⟨Tryd.f70, Tryd.func70, by kernel_rfl, by kernel_rfl, by kernel_rfl, by kernel_rfl⟩
theorem v_ref18_Half : S_Half pg 70 := ref18_Half b_cadenzaref18_Half
theorem b_width_Check : Body pg 57 37 [.tmp 4] (ac_width_Check 65) := ⟨Tryd.f57, Tryd.func57, by kernel_rfl, by kernel_rfl, by kernel_rfl, by kernel_rfl⟩
theorem v_width_Check : S_WCheck pg 57 := width_Check b_width_Check v_width_Range
theorem b_cadenzaref18_Check : Body pg 76 37 [.tmp 4] (ac_cadenzaref18_Check 70) := ⟨Tryd.f76, Tryd.func76, by kernel_rfl, by kernel_rfl, by kernel_rfl, by kernel_rfl⟩
theorem v_ref18_Check : S_WCheck pg 76 := ref18_Check b_cadenzaref18_Check v_ref18_Half
theorem b_lengths_Long : Body pg 97 14 [.tmp 2, .tmp 3] ac_lengths_Long := ⟨Tryd.f97, Tryd.func97, by kernel_rfl, by kernel_rfl, by kernel_rfl, by kernel_rfl⟩
theorem v_lengths_Long : S_Long22 pg 97 := lengths_Long b_lengths_Long
theorem b_cadenzaref22_Long : Body pg 98 17 [.tmp 2, .tmp 3] ac_cadenzaref22_Long := ⟨Tryd.f98, Tryd.func98, by kernel_rfl, by kernel_rfl, by kernel_rfl, by kernel_rfl⟩
theorem v_ref22_Long : S_Long22 pg 98 := ref22_Long b_cadenzaref22_Long
theorem b_enframe_Check : Body pg 88 25 [.tmp 2] (ac_enframe_Check 65 80) := ⟨Tryd.f88, Tryd.func88, by kernel_rfl, by kernel_rfl, by kernel_rfl, by kernel_rfl⟩
theorem v_enframe_Check : S_ECheck pg 88 := enframe_Check b_enframe_Check v_width_Range
theorem b_cadenzaref20_Check : Body pg 75 17 [.tmp 2] (ac_cadenzaref20_Check 70 80) := ⟨Tryd.f75, Tryd.func75, by kernel_rfl, by kernel_rfl, by kernel_rfl, by kernel_rfl⟩
theorem v_ref20_Check : S_ECheck pg 75 := ref20_Check b_cadenzaref20_Check v_ref18_Half
theorem b_cadenzaref20_Asked : Body pg 42 28 [.tmp 4] (ac_cadenzaref20_Asked 75 76 80) := ⟨Tryd.f42, Tryd.func42, by kernel_rfl, by kernel_rfl, by kernel_rfl, by kernel_rfl⟩
theorem v_ref20_Asked : S_EAsk pg 42 := ref20_Asked b_cadenzaref20_Asked v_ref20_Check v_ref18_Check
theorem b_lengths_Count : Body pg 90 32 [.tmp 4, .tmp 5] (ac_lengths_Count 97) := ⟨Tryd.f90, Tryd.func90, by kernel_rfl, by kernel_rfl, by kernel_rfl, by kernel_rfl⟩
theorem v_lengths_Count : S_Count22 pg 90 := lengths_Count b_lengths_Count v_lengths_Long
theorem b_clip_shape : Body pg 89 8 [.cell 2 80] (ac_clip_shape 26 80) := ⟨Tryd.f89, Tryd.func89, by kernel_rfl, by kernel_rfl, by kernel_rfl, by kernel_rfl⟩
theorem v_clip_shape : S_Shape24 pg 89 := clip_shape b_clip_shape (show aggO Tryd.prog 80 = some (some 2) by kernel_rfl)
theorem b_cadenzaref24_Shape : Body pg 43 8 [.cell 2 80] (ac_cadenzaref24_Shape 26 80) := ⟨Tryd.f43, Tryd.func43, by kernel_rfl, by kernel_rfl, by kernel_rfl, by kernel_rfl⟩
theorem v_ref24_Shape : S_Shape24 pg 43 := ref24_Shape b_cadenzaref24_Shape (show aggO Tryd.prog 80 = some (some 2) by kernel_rfl)
theorem b_clip_head : Body pg 66 31 [.tmp 4] (ac_clip_head 89 88 90 26) := ⟨Tryd.f66, Tryd.func66, by kernel_rfl, by kernel_rfl, by kernel_rfl, by kernel_rfl⟩
theorem v_clip_head : S_CHead pg 66 := clip_head b_clip_head v_clip_shape v_enframe_Check v_lengths_Count
theorem b_clip_Check : Body pg 36 33 [.tmp 2] (ac_clip_Check 66 57 26) := ⟨Tryd.f36, Tryd.func36, by kernel_rfl, by kernel_rfl, by kernel_rfl, by kernel_rfl⟩
theorem v_clip_Check : S_ClipCheck pg 36 := clip_Check b_clip_Check v_clip_head v_width_Check
theorem b_cadenzaref21_Asked : Body pg 77 19 [.tmp 4] (ac_cadenzaref21_Asked 75 80) := ⟨Tryd.f77, Tryd.func77, by kernel_rfl, by kernel_rfl, by kernel_rfl, by kernel_rfl⟩
theorem v_ref21_Asked : S_Ask21 pg 77 := ref21_Asked b_cadenzaref21_Asked v_ref20_Check
theorem b_cadenzaref22_All : Body pg 93 41 [.tmp 4, .tmp 5] (ac_cadenzaref22_All 98 3) := ⟨Tryd.f93, Tryd.func93, by kernel_rfl, by kernel_rfl, by kernel_rfl, by kernel_rfl⟩
theorem v_ref22_All : S_All22 pg 93 := ref22_All b_cadenzaref22_All v_ref22_Long
theorem b_cadenzaref22_Count : Body pg 78 17 [.tmp 4, .tmp 5] (ac_cadenzaref22_Count 93) := ⟨Tryd.f78, Tryd.func78, by kernel_rfl, by kernel_rfl, by kernel_rfl, by kernel_rfl⟩
theorem v_ref22_Count : S_Count22 pg 78 := ref22_Count b_cadenzaref22_Count v_ref22_All
theorem b_cadenzaref24_Head : Body pg 44 21 [.tmp 4] (ac_cadenzaref24_Head 43 77 78 26) := ⟨Tryd.f44, Tryd.func44, by kernel_rfl, by kernel_rfl, by kernel_rfl, by kernel_rfl⟩
theorem v_ref24_Head : S_RHead24 pg 44 := ref24_Head b_cadenzaref24_Head v_ref24_Shape v_ref21_Asked v_ref22_Count
theorem b_cadenzaref24_Check : Body pg 21 20 [.tmp 2] (ac_cadenzaref24_Check 43 42 44 26) := ⟨Tryd.f21, Tryd.func21, by kernel_rfl, by kernel_rfl, by kernel_rfl, by kernel_rfl⟩
theorem v_ref24_Check : S_ClipCheck pg 21 := ref24_Check b_cadenzaref24_Check v_ref24_Shape v_ref20_Asked v_ref24_Head
theorem b_le_fits : Body pg 83 14 [.tmp 4] ac_le_fits := ⟨Tryd.f83, Tryd.func83, by kernel_rfl, by kernel_rfl, by kernel_rfl, by kernel_rfl⟩
theorem v_le_fits : S_fits pg 83 := le_fits b_le_fits
theorem b_le_Bytes : Body pg 50 35 [.tmp 4, .tmp 5] (ac_le_Bytes 83 5) := ⟨Tryd.f50, Tryd.func50, by kernel_rfl, by kernel_rfl, by kernel_rfl, by kernel_rfl⟩
theorem v_le_Bytes : S_leBytes pg 50 := le_Bytes b_le_Bytes v_le_fits
theorem b_cadenzaref01_Written : Body pg 61 21 [.tmp 4] (ac_cadenzaref01_Written 5) := ⟨Tryd.f61, Tryd.func61, by kernel_rfl, by kernel_rfl, by kernel_rfl, by kernel_rfl⟩
theorem v_ref01_Written : S_Written pg 61 := ref01_Written b_cadenzaref01_Written
theorem b_slices_IndexFunc_api_Chunk_api_Chunk : Body pg 86 19 [.tmp 4] ac_slices_IndexFunc_api_Chunk_api_Chunk := ⟨Tryd.f86, Tryd.func86, by kernel_rfl, by kernel_rfl, by kernel_rfl, by kernel_rfl⟩
theorem v_index_func2 : S_IndexF2 pg 86 := index_func2 b_slices_IndexFunc_api_Chunk_api_Chunk
theorem b_riff_Find_1 : Body pg 87 8 [.tmp 3] (ac_riff_Find_1 49) := ⟨Tryd.f87, Tryd.func87, by kernel_rfl, by kernel_rfl, by kernel_rfl, by kernel_rfl⟩
theorem v_riff_Find1 : S_Find1 pg 87 := riff_Find1 b_riff_Find_1
theorem b_riff_Find : Body pg 62 13 [.tmp 4, .tmp 5] (ac_riff_Find 87 86 9) := ⟨Tryd.f62, Tryd.func62, by kernel_rfl, by kernel_rfl, by kernel_rfl, by kernel_rfl⟩
theorem v_riff_Find : S_Find pg 62 := riff_Find b_riff_Find v_riff_Find1 v_index_func2
theorem b_fmtchunk_Check : Body pg 63 27 [.tmp 2] (ac_fmtchunk_Check 57) := ⟨Tryd.f63, Tryd.func63, by kernel_rfl, by kernel_rfl, by kernel_rfl, by kernel_rfl⟩
theorem v_fmt_Check : S_SCheck pg 63 := fmt_Check b_fmtchunk_Check
theorem b_cadenzaref32_Check : Body pg 68 36 [.tmp 2] (ac_cadenzaref32_Check 57) := ⟨Tryd.f68, Tryd.func68, by kernel_rfl, by kernel_rfl, by kernel_rfl, by kernel_rfl⟩
theorem v_ref32_Check : S_SCheck pg 68 := ref32_Check b_cadenzaref32_Check
theorem b_fmtchunk_form : Body pg 59 67 [.tmp 6] (ac_fmtchunk_form 50 57 110 5 0 1) := ⟨Tryd.f59, Tryd.func59, by kernel_rfl, by kernel_rfl, by kernel_rfl, by kernel_rfl⟩
theorem v_fmt_form : S_FForm pg 59 := fmt_form b_fmtchunk_form v_le_Bytes (show pg.G.lookup 0 = some widG by rfl) (show pg.G.lookup 1 = some guidG by rfl)
theorem v_ref01_WrittenO : S_WrittenO 5 pg 61 := ref01_WrittenO b_cadenzaref01_Written
theorem b_cadenzaref32_first : Body pg 60 46 [.tmp 4] (ac_cadenzaref32_first 61 57 5) := ⟨Tryd.f60, Tryd.func60, by kernel_rfl, by kernel_rfl, by kernel_rfl, by kernel_rfl⟩
theorem v_ref32_first : S_First 5 pg 60 := ref32_first b_cadenzaref32_first v_ref01_WrittenO v_ref01_Written
theorem b_cadenzaref32_Plain : Body pg 69 5 [.tmp 2] (ac_cadenzaref32_Plain 60 57) := ⟨Tryd.f69, Tryd.func69, by kernel_rfl, by kernel_rfl, by kernel_rfl, by kernel_rfl⟩
theorem v_ref32_Plain : S_SPlain pg 69 := ref32_Plain b_cadenzaref32_Plain (_) v_ref32_first
theorem b_cadenzaref32_Masked : Body pg 31 25 [.tmp 4] (ac_cadenzaref32_Masked 60 61 57 5) := ⟨Tryd.f31, Tryd.func31, by kernel_rfl, by kernel_rfl, by kernel_rfl, by kernel_rfl⟩
theorem v_ref32_Masked : S_SMask pg 31 := ref32_Masked b_cadenzaref32_Masked v_ref32_first v_ref01_Written
theorem b_bytes_Equal : Body pg 64 10 [.tmp 4] ac_bytes_Equal := ⟨Tryd.f64, Tryd.func64, by kernel_rfl, by kernel_rfl, by kernel_rfl, by kernel_rfl⟩
theorem v_bytes_Equal : S_bEqual pg 64 := bytes_Equal b_bytes_Equal
theorem b_fmtchunk_Read : Body pg 34 61 [.cell 2 57, .tmp 3] (ac_fmtchunk_Read 45 63 59 64 57 110 0) := ⟨Tryd.f34, Tryd.func34, by kernel_rfl, by kernel_rfl, by kernel_rfl, by kernel_rfl⟩
theorem v_fmt_Read : S_SRead pg 34 := fmt_Read b_fmtchunk_Read v_le_At v_fmt_Check v_fmt_form v_bytes_Equal (show pg.G.lookup 0 = some widG by rfl) (show aggO Tryd.prog 57 = some (some 3) by kernel_rfl)
theorem b_cadenzaref32_Read : Body pg 39 50 [.cell 2 57, .tmp 3] (ac_cadenzaref32_Read 67 68 69 31 57) := ⟨Tryd.f39, Tryd.func39, by kernel_rfl, by kernel_rfl, by kernel_rfl, by kernel_rfl⟩
theorem v_ref32_Read : S_SRead pg 39 := ref32_Read b_cadenzaref32_Read v_ref01_Of v_ref32_Check v_ref32_Plain v_ref32_Masked (show aggO Tryd.prog 57 = some (some 3) by kernel_rfl)
theorem b_width_Samples : Body pg 35 81 [.tmp 4, .tmp 5] (ac_width_Samples 65 21) := ⟨Tryd.f35, Tryd.func35, by kernel_rfl, by kernel_rfl, by kernel_rfl, by kernel_rfl⟩
theorem v_width_Samples : S_Samples pg 35 := width_Samples b_width_Samples v_width_Range
theorem b_cadenzaref18_Samples : Body pg 40 68 [.tmp 4, .tmp 5] (ac_cadenzaref18_Samples 70 21) := ⟨Tryd.f40, Tryd.func40, by kernel_rfl, by kernel_rfl, by kernel_rfl, by kernel_rfl⟩
theorem v_ref18_Samples : S_Samples pg 40 := ref18_Samples b_cadenzaref18_Samples v_ref18_Half
theorem b_cadenzaref33_Long : Body pg 10 16 [.tmp 2] ac_cadenzaref33_Long := ⟨Tryd.f10, Tryd.func10, by kernel_rfl, by kernel_rfl, by kernel_rfl, by kernel_rfl⟩
theorem v_ref33_Long : S_Long33 pg 10 := ref33_Long b_cadenzaref33_Long
theorem b_cadenzaref33_Same : Body pg 13 52 [.tmp 4] (ac_cadenzaref33_Same 26) := ⟨Tryd.f13, Tryd.func13, by kernel_rfl, by kernel_rfl, by kernel_rfl, by kernel_rfl⟩
theorem v_ref33_Same : S_Same33 pg 13 := ref33_Same b_cadenzaref33_Same
theorem b_cadenzaref33_count : Body pg 38 27 [.tmp 4, .tmp 5] ac_cadenzaref33_count := ⟨Tryd.f38, Tryd.func38, by kernel_rfl, by kernel_rfl, by kernel_rfl, by kernel_rfl⟩
theorem v_ref33_count : S_Count33 pg 38 := ref33_count b_cadenzaref33_count
theorem b_wav_only : Body pg 33 31 [.tmp 4, .tmp 5] (ac_wav_only 62) := ⟨Tryd.f33, Tryd.func33, by kernel_rfl, by kernel_rfl, by kernel_rfl, by kernel_rfl⟩
theorem v_wav_only : S_Only pg 33 := wav_only b_wav_only v_riff_Find
theorem b_wav_Read : Body pg 11 116 [.cell 2 26, .tmp 3] (ac_wav_Read 22 33 34 35 36 26 57) := ⟨Tryd.f11, Tryd.func11, by kernel_rfl, by kernel_rfl, by kernel_rfl, by kernel_rfl⟩
theorem v_wav_Read : S_WavRead pg 11 := wav_Read b_wav_Read v_riff_Read v_wav_only v_fmt_Read v_width_Samples v_clip_Check (show aggO Tryd.prog 26 = some (some 4) by kernel_rfl)
theorem b_cadenzaref33_Read : Body pg 12 139 [.cell 2 26, .tmp 3] (ac_cadenzaref33_Read 37 38 39 40 21 26 57 21) := ⟨Tryd.f12, Tryd.func12, by kernel_rfl, by kernel_rfl, by kernel_rfl, by kernel_rfl⟩
theorem v_ref33_Read : S_WavRead pg 12 := ref33_Read b_cadenzaref33_Read v_ref31_Read v_ref33_count v_ref32_Read v_ref18_Samples v_ref24_Check (show aggO Tryd.prog 26 = some (some 4) by kernel_rfl)
theorem b_cadenzalaw33_WavReads : Body pg 3 36 [.tmp 2] (ac_cadenzalaw33_WavReads 10 11 12 13 26) := ⟨Tryd.f3, Tryd.func3, by kernel_rfl, by kernel_rfl, by kernel_rfl, by kernel_rfl⟩
theorem v_law33_WavReads : S_True1 pg 3 := law33_WavReads b_cadenzalaw33_WavReads v_ref33_Long v_wav_Read v_ref33_Read v_ref33_Same

theorem own : ownKnob Tryd.prog.godebug = none := by kernel_rfl
theorem laid : laidOutB Tryd.prog = true := by kernel_rfl

set_option maxRecDepth 100000 in
theorem gok {W : World} (hl : laidMet Tryd.prog Rows.wavReadsRow.laid W) : GOk pg.G (X0 W) := by
  intro q cs h
  have h1 : List.lookup q [(0, [.int .i64 2, .int .i64 2, .int .i64 4, .int .i64 4, .int .i64 2, .int .i64 2, .int .i64 2, .int .i64 2, .int .i64 4]), (1, [.int .u8 1, .int .u8 0, .int .u8 0, .int .u8 0, .int .u8 0, .int .u8 0, .int .u8 16, .int .u8 0, .int .u8 128, .int .u8 0, .int .u8 0, .int .u8 170, .int .u8 0, .int .u8 56, .int .u8 155, .int .u8 113])] = some cs := h
  simp only [List.lookup] at h1
  split at h1
  · rename_i e
    obtain rfl := eq_of_beq e
    cases h1
    exact rep_tableB hl (name := "cadenza/fmtchunk.widths") (k := .i64) [2, 2, 4, 4, 2, 2, 2, 2, 4] (by kernel_rfl) (List.Mem.head _)
  split at h1
  · rename_i e
    obtain rfl := eq_of_beq e
    cases h1
    exact rep_tableB hl (name := "cadenza/fmtchunk.guid") (k := .u8) [1, 0, 0, 0, 0, 0, 16, 0, 128, 0, 0, 170, 0, 56, 155, 113] (by kernel_rfl) (List.Mem.tail _ (List.Mem.head _))
  cases h1

set_option maxRecDepth 100000 in
theorem contract (H : Type) (enc : TypeId × Value → H) (W : World) (base : Nat) (args : Array Value) (ds gs : List (DataW H)) (before : List MemPlace) (hlaid : laidMet Tryd.prog Rows.wavReadsRow.laid W)
    (hval : ∀ (j : Nat) t v, Tryd.f3.params[j]? = some t → args[j]? = some v → Value.okWide Tryd.prog W .any base t v)
    (hW : DataW.Whole enc Tryd.prog Tryd.f3.params.toList Rows.wavReadsSpec.vars false W args.toList ds gs before) :
    Calls Tryd.prog 3 args W fun e W' => ∃ v, e = .returned v ∧ Rows.wavReadsSpec.post enc Tryd.prog Tryd.f3 false true false false W args v W' := by
  have hW' := hW
  obtain ⟨p, q, hA0, hV, rfl, hfz, hnd⟩ := hW
  have hA : DataW.TrodAll enc Tryd.prog W 0 (fun _ => true) true Tryd.f3.params.toList args.toList ds p := hA0
  rw [Tryd.params3] at hA hval
  obtain ⟨v0, vs0, d0, ds0, p0, q0, hargs, rfl, rfl, h0, r0⟩ := trodAll_cons hA
  obtain ⟨rfl, rfl, rfl⟩ := trodAll_nil r0
  obtain rfl : args = #[v0] := by cases args; simp_all
  obtain ⟨rfl, rfl⟩ := trodVars_none hV
  obtain ⟨L0, r0, m0, q0⟩ := arg_slice (P := Tryd.prog) (k := 8) (s := .int .u8) (by kernel_rfl) (isSl_eq (by kernel_rfl)) (hval 0 _ v0 rfl rfl) h0
  obtain ⟨x0, z0, y0⟩ := fits_u8s q0
  rw [y0] at r0
  refine (calls_true (P := pg) (v_law33_WavReads x0) (gok hlaid) (args := #[v0]) (by simp only [RepL]; exact ⟨v0, _, rfl, r0, rfl⟩)).mono fun e W' ⟨he, hb⟩ => ?_
  subst he
  exact ⟨_, rfl, post_true laid (by kernel_rfl) (by rfl) (by kernel_rfl) rfl ⟨rfl, rfl, rfl⟩ hW' hb⟩

noncomputable def low : Nat := (World.holding Tryd.prog default ⟨#[], #[], []⟩).heap.size
/-- A world in which the listed variables lie as the text lays them. -/
noncomputable def laidWorld (os : Os) : World :=
  let w0 := World.holding Tryd.prog os ⟨#[], #[], []⟩
  { w0 with heap := ((w0.heap.modify 0 fun
      | .cells _ t frozen => .cells #[.int .i64 2, .int .i64 2, .int .i64 4, .int .i64 4, .int .i64 2, .int .i64 2, .int .i64 2, .int .i64 2, .int .i64 4] t frozen
      | o => o).modify 1 fun
      | .cells _ t frozen => .cells #[.int .u8 1, .int .u8 0, .int .u8 0, .int .u8 0, .int .u8 0, .int .u8 0, .int .u8 16, .int .u8 0, .int .u8 128, .int .u8 0, .int .u8 0, .int .u8 170, .int .u8 0, .int .u8 56, .int .u8 155, .int .u8 113] t frozen
      | o => o) }
theorem laidWorld_met (os : Os) (args : Array Value) : laidMet Tryd.prog Rows.wavReadsRow.laid ((laidWorld os).forCall (fun _ _ => 0) ⟨#[], args, []⟩).memory :=
  laidMet_of_run' 8 (by kernel_rfl) (by kernel_rfl)

set_option maxRecDepth 100000 in
theorem lifted (os : Os) (started : os.Started) (H : Type) (enc : TypeId × Value → H) :
    ReturnsInHanded {} Tryd.checked os 3 .any (fun w args => (Rows.wavReadsSpec.pre enc Tryd.prog Tryd.f3 [] false w args ∧ laidMet Tryd.prog Rows.wavReadsRow.laid w) ∧ sizedMet enc Tryd.prog Tryd.f3 (OpenSpec.ofChange Rows.wavReadsSpec) false w args)
      (Rows.wavReadsSpec.post enc Tryd.prog Tryd.f3 false true false false) := by
  refine returnsInHanded_of_change_and (C := Tryd.checked) (X := fun w _ => laidMet Tryd.prog Rows.wavReadsRow.laid w) (fun _ _ _ hh h => h.of_heap hh) own started (by kernel_rfl) Tryd.func3
    (ChangeSpec.witness_at (enc := enc) (C := Tryd.checked) (os := os) (X := fun w _ => laidMet Tryd.prog Rows.wavReadsRow.laid w) false (laidWorld os) #[.slice none 0 0] 8 rfl (by kernel_rfl) (by kernel_rfl) (by kernel_rfl) (by kernel_rfl) (by kernel_rfl) (laidWorld_met os _)) ?_
  intro W base args ds gs before hval hW _ _ hL _
  exact contract H enc W base args ds gs before hL hval hW

theorem row_holds : Rows.WavReadsSaid :=
  OpenClaim.holds_of_wide 3 Tryd.f3 rfl rfl rfl rfl rfl rfl rfl ⟨rfl, rfl, rfl, rfl, rfl⟩ rfl rfl rfl rfl rfl (by kernel_rfl) Tryd.func3 (by kernel_rfl)
    (of_decide_eq_true (by kernel_rfl)) (by unfold Func.isWrapper; first | (rw [if_pos (by decide +kernel)]; kernel_rfl) | (rw [if_neg (by decide +kernel)]; exact ⟨rfl, rfl⟩))
    (fun os started H enc _ => lifted os started H enc)

theorem proved : Rows.WavReadsCardSaid :=
  Claim7.holds_tied_plain_at .later [] [.data, .widerDeep] true (true, "2ae503678ac3bf2ef74ec7276957959041b983bd7b0e6469f53da352d42a9eeb") false
    row_holds (fun _ h => by cases h) (by kernel_rfl) (fun _ h => by cases h) wavReads_row_tie rfl ⟨rfl, rfl⟩ (by kernel_rfl) rfl
    (fun f fn hf hfn => by
      obtain rfl : f = 3 := Option.some.inj ((show Tryd.prog.funcNamed Rows.wavReadsRow.func = some 3 by kernel_rfl).symm.trans hf) |>.symm
      obtain rfl : fn = Tryd.f3 := (Option.some.inj (Tryd.func3.symm.trans hfn)).symm
      exact ⟨by kernel_rfl, fun j t ht => by
        have hall : (Tryd.f3.params.toList.all fun t => !Tryd.prog.wantsStandIn t) = true := by kernel_rfl
        have hm : t ∈ Tryd.f3.params.toList := by simpa using Array.mem_of_getElem? ht
        have h2 : Tryd.prog.wantsStandIn t = false := by simpa using List.all_eq_true.1 hall t hm
        exact h2⟩)
    (by kernel_rfl)

end Go.Proofs.YtjkgohbljmmmdaaDoor.wavReads

/- cadenzalaw33.WavNames returns true. No conditions. -/
import Derived.Test.YtjkgohbljmmmdaaDoorRows
import Derived.Test.YtjkgohbljmmmdaaDoorCards
import Derived.Test.YtjkgohbljmmmdaaDoorTie
import Derived.Test.YtjkgohbljmmmdaaDoorWavNamesY1
import Derived.ChangeSame
import Derived.ChangeVars
import Derived.JoinedOf
import Derived.RowKit
import Derived.RowKitTokens
import Derived.LaidLaws
import Derived.Stop.Joined
import Derived.SevenTiedAt
set_option linter.unusedSectionVars false
set_option linter.unusedSimpArgs false
set_option linter.unusedVariables false
namespace Go.Proofs.YtjkgohbljmmmdaaDoor.wavNames
open Go.Am Go.ChangeShapes Go.WideShapes Go.ChangeAt Go.RowKit

noncomputable def pg : Prg := ⟨Tryd.prog, [(0, [.int .i64 2, .int .i64 2, .int .i64 4, .int .i64 4, .int .i64 2, .int .i64 2, .int .i64 2, .int .i64 2, .int .i64 4]), (1, [.int .u8 1, .int .u8 0, .int .u8 0, .int .u8 0, .int .u8 0, .int .u8 0, .int .u8 16, .int .u8 0, .int .u8 128, .int .u8 0, .int .u8 0, .int .u8 170, .int .u8 0, .int .u8 56, .int .u8 155, .int .u8 113])], fun g cs h => by
  simp only [List.lookup] at h
  repeat (first | (cases h; done) | (split at h; first | (cases h; rfl) | skip))⟩

theorem b_le_Value : Body pg 79 31 [.tmp 2, .tmp 3] ac_le_Value := ⟨Tryd.f79, Tryd.func79, by kernel_rfl, by kernel_rfl, by kernel_rfl, by kernel_rfl⟩
theorem v_le_Value : S_le_Value pg 79 := le_Value b_le_Value
theorem b_le_At : Body pg 45 33 [.tmp 6, .tmp 7] (ac_le_At 79) := ⟨Tryd.f45, Tryd.func45, by kernel_rfl, by kernel_rfl, by kernel_rfl, by kernel_rfl⟩
theorem v_le_At : S_le_At pg 45 := le_At b_le_At v_le_Value
theorem b_riff_isName : Body pg 46 22 [.tmp 2] ac_riff_isName := ⟨Tryd.f46, Tryd.func46, by kernel_rfl, by kernel_rfl, by kernel_rfl, by kernel_rfl⟩
theorem v_riff_isName : S_isName pg 46 := riff_isName b_riff_isName
theorem b_bytes_Clone : Body pg 80 8 [.tmp 2] (ac_bytes_Clone 5) := ⟨Tryd.f80, Tryd.func80, by kernel_rfl, by kernel_rfl, by kernel_rfl, by kernel_rfl⟩
theorem v_bytes_Clone : S_bytes_Clone pg 80 := bytes_Clone b_bytes_Clone
theorem b_riff_next : Body pg 47 62 [.cell 2 49, .tmp 3, .tmp 4] (ac_riff_next 46 45 80 49) := ⟨Tryd.f47, Tryd.func47, by kernel_rfl, by kernel_rfl, by kernel_rfl, by kernel_rfl⟩
theorem v_riff_next : S_riff_next pg 47 := riff_next b_riff_next (show aggO Tryd.prog 49 = some (some 2) by kernel_rfl) v_riff_isName v_le_At v_bytes_Clone
theorem b_riff_Read : Body pg 22 80 [.tmp 2, .tmp 3, .tmp 4] (ac_riff_Read 45 46 47 49) := ⟨Tryd.f22, Tryd.func22, by kernel_rfl, by kernel_rfl, by kernel_rfl, by kernel_rfl⟩
theorem v_riff_Read : S_Read pg 22 := riff_Read b_riff_Read v_le_At v_riff_isName v_riff_next
theorem b_width_Range : Body pg 65 18 [.tmp 2, .tmp 3, .tmp 4] ac_width_Range := ⟨Tryd.f65, Tryd.func65, by kernel_rfl, by kernel_rfl, by kernel_rfl, by kernel_rfl⟩
theorem v_width_Range : S_Range pg 65 := width_Range b_width_Range
theorem b_cadenzaref18_Half : Body pg 70 10 [.tmp 2] ac_cadenzaref18_Half := ⟨Tryd.f70, Tryd.func70, by kernel_rfl, by kernel_rfl, by kernel_rfl, by kernel_rfl⟩
theorem v_ref18_Half : S_Half pg 70 := ref18_Half b_cadenzaref18_Half
theorem b_width_Check : Body pg 57 37 [.tmp 4] (ac_width_Check 65) := ⟨Tryd.f57, Tryd.func57, by kernel_rfl, by kernel_rfl, by kernel_rfl, by kernel_rfl⟩
theorem v_width_Check : S_WCheck pg 57 := width_Check b_width_Check v_width_Range
theorem b_cadenzaref18_Check : Body pg 76 37 [.tmp 4] (ac_cadenzaref18_Check 70) := ⟨Tryd.f76, Tryd.func76, by kernel_rfl, by kernel_rfl, by kernel_rfl, by kernel_rfl⟩
theorem v_ref18_Check : S_WCheck pg 76 := ref18_Check b_cadenzaref18_Check v_ref18_Half
theorem b_lengths_Long : Body pg 97 14 [.tmp 2, .tmp 3] ac_lengths_Long := ⟨Tryd.f97, Tryd.func97, by kernel_rfl, by kernel_rfl, by kernel_rfl, by kernel_rfl⟩
theorem v_lengths_Long : S_Long22 pg 97 := lengths_Long b_lengths_Long
theorem b_cadenzaref22_Long : Body pg 98 17 [.tmp 2, .tmp 3] ac_cadenzaref22_Long := ⟨Tryd.f98, Tryd.func98, by kernel_rfl, by kernel_rfl, by kernel_rfl, by kernel_rfl⟩
theorem v_ref22_Long : S_Long22 pg 98 := ref22_Long b_cadenzaref22_Long
theorem b_enframe_Check : Body pg 88 25 [.tmp 2] (ac_enframe_Check 65 80) := ⟨Tryd.f88, Tryd.func88, by kernel_rfl, by kernel_rfl, by kernel_rfl, by kernel_rfl⟩
theorem v_enframe_Check : S_ECheck pg 88 := enframe_Check b_enframe_Check v_width_Range
theorem b_cadenzaref20_Check : Body pg 75 17 [.tmp 2] (ac_cadenzaref20_Check 70 80) := ⟨Tryd.f75, Tryd.func75, by kernel_rfl, by kernel_rfl, by kernel_rfl, by kernel_rfl⟩
theorem v_ref20_Check : S_ECheck pg 75 := ref20_Check b_cadenzaref20_Check v_ref18_Half
theorem b_cadenzaref20_Asked : Body pg 42 28 [.tmp 4] (ac_cadenzaref20_Asked 75 76 80) := ⟨Tryd.f42, Tryd.func42, by kernel_rfl, by kernel_rfl, by kernel_rfl, by kernel_rfl⟩
theorem v_ref20_Asked : S_EAsk pg 42 := ref20_Asked b_cadenzaref20_Asked v_ref20_Check v_ref18_Check
theorem b_lengths_Count : Body pg 90 32 [.tmp 4, .tmp 5] (ac_lengths_Count 97) := ⟨Tryd.f90, Tryd.func90, by kernel_rfl, by kernel_rfl, by kernel_rfl, by kernel_rfl⟩
theorem v_lengths_Count : S_Count22 pg 90 := lengths_Count b_lengths_Count v_lengths_Long
theorem b_clip_shape : Body pg 89 8 [.cell 2 80] (ac_clip_shape 26 80) := ⟨Tryd.f89, Tryd.func89, by kernel_rfl, by kernel_rfl, by kernel_rfl, by kernel_rfl⟩
theorem v_clip_shape : S_Shape24 pg 89 := clip_shape b_clip_shape (show aggO Tryd.prog 80 = some (some 2) by kernel_rfl)
theorem b_cadenzaref24_Shape : Body pg 43 8 [.cell 2 80] (ac_cadenzaref24_Shape 26 80) := ⟨Tryd.f43, Tryd.func43, by kernel_rfl, by kernel_rfl, by kernel_rfl, by kernel_rfl⟩
theorem v_ref24_Shape : S_Shape24 pg 43 := ref24_Shape b_cadenzaref24_Shape (show aggO Tryd.prog 80 = some (some 2) by kernel_rfl)
theorem b_clip_head : Body pg 66 31 [.tmp 4] (ac_clip_head 89 88 90 26) := ⟨Tryd.f66, Tryd.func66, by kernel_rfl, by kernel_rfl, by kernel_rfl, by kernel_rfl⟩
theorem v_clip_head : S_CHead pg 66 := clip_head b_clip_head v_clip_shape v_enframe_Check v_lengths_Count
theorem b_clip_Check : Body pg 36 33 [.tmp 2] (ac_clip_Check 66 57 26) := ⟨Tryd.f36, Tryd.func36, by kernel_rfl, by kernel_rfl, by kernel_rfl, by kernel_rfl⟩
theorem v_clip_Check : S_ClipCheck pg 36 := clip_Check b_clip_Check v_clip_head v_width_Check
theorem b_cadenzaref21_Asked : Body pg 77 19 [.tmp 4] (ac_cadenzaref21_Asked 75 80) := ⟨Tryd.f77, Tryd.func77, by kernel_rfl, by kernel_rfl, by kernel_rfl, by kernel_rfl⟩
theorem v_ref21_Asked : S_Ask21 pg 77 := ref21_Asked b_cadenzaref21_Asked v_ref20_Check
theorem b_cadenzaref22_All : Body pg 93 41 [.tmp 4, .tmp 5] (ac_cadenzaref22_All 98 3) := ⟨Tryd.f93, Tryd.func93, by kernel_rfl, by kernel_rfl, by kernel_rfl, by kernel_rfl⟩
theorem v_ref22_All : S_All22 pg 93 := ref22_All b_cadenzaref22_All v_ref22_Long
theorem b_cadenzaref22_Count : Body pg 78 17 [.tmp 4, .tmp 5] (ac_cadenzaref22_Count 93) := ⟨Tryd.f78, Tryd.func78, by kernel_rfl, by kernel_rfl, by kernel_rfl, by kernel_rfl⟩
theorem v_ref22_Count : S_Count22 pg 78 := ref22_Count b_cadenzaref22_Count v_ref22_All
theorem b_cadenzaref24_Head : Body pg 44 21 [.tmp 4] (ac_cadenzaref24_Head 43 77 78 26) := ⟨Tryd.f44, Tryd.func44, by kernel_rfl, by kernel_rfl, by kernel_rfl, by kernel_rfl⟩
theorem v_ref24_Head : S_RHead24 pg 44 := ref24_Head b_cadenzaref24_Head v_ref24_Shape v_ref21_Asked v_ref22_Count
theorem b_cadenzaref24_Check : Body pg 21 20 [.tmp 2] (ac_cadenzaref24_Check 43 42 44 26) := ⟨Tryd.f21, Tryd.func21, by kernel_rfl, by kernel_rfl, by kernel_rfl, by kernel_rfl⟩
theorem v_ref24_Check : S_ClipCheck pg 21 := ref24_Check b_cadenzaref24_Check v_ref24_Shape v_ref20_Asked v_ref24_Head
theorem b_le_fits : Body pg 83 14 [.tmp 4] ac_le_fits := ⟨Tryd.f83, Tryd.func83, by kernel_rfl, by kernel_rfl, by kernel_rfl, by kernel_rfl⟩
theorem v_le_fits : S_fits pg 83 := le_fits b_le_fits
theorem b_le_Bytes : Body pg 50 35 [.tmp 4, .tmp 5] (ac_le_Bytes 83 5) := ⟨Tryd.f50, Tryd.func50, by kernel_rfl, by kernel_rfl, by kernel_rfl, by kernel_rfl⟩
theorem v_le_Bytes : S_leBytes pg 50 := le_Bytes b_le_Bytes v_le_fits
theorem b_cadenzaref01_Written : Body pg 61 21 [.tmp 4] (ac_cadenzaref01_Written 5) := ⟨Tryd.f61, Tryd.func61, by kernel_rfl, by kernel_rfl, by kernel_rfl, by kernel_rfl⟩
theorem v_ref01_Written : S_Written pg 61 := ref01_Written b_cadenzaref01_Written
theorem b_riff_size : Body pg 53 25 [.tmp 2] (ac_riff_size 49) := ⟨Tryd.f53, Tryd.func53, by kernel_rfl, by kernel_rfl, by kernel_rfl, by kernel_rfl⟩
theorem v_riff_size : S_size pg 53 4 := riff_size b_riff_size
theorem b_slices_IndexFunc_api_Chunk_api_Chunk : Body pg 86 19 [.tmp 4] ac_slices_IndexFunc_api_Chunk_api_Chunk := ⟨Tryd.f86, Tryd.func86, by kernel_rfl, by kernel_rfl, by kernel_rfl, by kernel_rfl⟩
theorem v_index_func2 : S_IndexF2 pg 86 := index_func2 b_slices_IndexFunc_api_Chunk_api_Chunk
theorem b_slices_ContainsFunc_api_Chunk_api_Chunk : Body pg 81 9 [.tmp 4] (ac_slices_ContainsFunc_api_Chunk_api_Chunk 86) := ⟨Tryd.f81, Tryd.func81, by kernel_rfl, by kernel_rfl, by kernel_rfl, by kernel_rfl⟩
theorem v_contains_func2 : S_ContainsF2 pg 81 := contains_func2 b_slices_ContainsFunc_api_Chunk_api_Chunk v_index_func2
theorem b_riff_Check_1 : Body pg 82 7 [.tmp 2] (ac_riff_Check_1 46 49) := ⟨Tryd.f82, Tryd.func82, by kernel_rfl, by kernel_rfl, by kernel_rfl, by kernel_rfl⟩
theorem v_riff_Check1 : S_Check1 pg 82 := riff_Check1 b_riff_Check_1 v_riff_isName
theorem b_riff_Check : Body pg 48 21 [.tmp 4] (ac_riff_Check 46 53 81 82) := ⟨Tryd.f48, Tryd.func48, by kernel_rfl, by kernel_rfl, by kernel_rfl, by kernel_rfl⟩
theorem v_riff_Check : S_Check pg 48 := riff_Check b_riff_Check v_riff_isName v_riff_size v_contains_func2 v_riff_Check1
theorem b_riff_Find_1 : Body pg 87 8 [.tmp 3] (ac_riff_Find_1 49) := ⟨Tryd.f87, Tryd.func87, by kernel_rfl, by kernel_rfl, by kernel_rfl, by kernel_rfl⟩
theorem v_riff_Find1 : S_Find1 pg 87 := riff_Find1 b_riff_Find_1
theorem b_riff_Find : Body pg 62 13 [.tmp 4, .tmp 5] (ac_riff_Find 87 86 9) := ⟨Tryd.f62, Tryd.func62, by kernel_rfl, by kernel_rfl, by kernel_rfl, by kernel_rfl⟩
theorem v_riff_Find : S_Find pg 62 := riff_Find b_riff_Find v_riff_Find1 v_index_func2
theorem b_riff_Write : Body pg 23 48 [.tmp 4, .tmp 5] (ac_riff_Write 48 49 53 51 52 54 93 49 5) := ⟨Tryd.f23, Tryd.func23, by kernel_rfl, by kernel_rfl, by kernel_rfl, by kernel_rfl⟩
theorem b_bytes_Buffer_tryGrowByReslice : Body pg 84 33 [.tmp 4, .tmp 5] ac_bytes_Buffer_tryGrowByReslice := ⟨Tryd.f84, Tryd.func84, by kernel_rfl, by kernel_rfl, by kernel_rfl, by kernel_rfl⟩
theorem b_bytes_Buffer_grow : Body pg 85 110 [.tmp 4] (ac_bytes_Buffer_grow 94 95 84 96 5 2) := ⟨Tryd.f85, Tryd.func85, by kernel_rfl, by kernel_rfl, by kernel_rfl, by kernel_rfl⟩
theorem b_bytes_Buffer_Len : Body pg 94 13 [.tmp 2] ac_bytes_Buffer_Len := ⟨Tryd.f94, Tryd.func94, by kernel_rfl, by kernel_rfl, by kernel_rfl, by kernel_rfl⟩
theorem b_bytes_Buffer_WriteString : Body pg 51 32 [.tmp 4, .tmp 5] (ac_bytes_Buffer_WriteString 84 85) := ⟨Tryd.f51, Tryd.func51, by kernel_rfl, by kernel_rfl, by kernel_rfl, by kernel_rfl⟩
theorem b_bytes_Buffer_Write : Body pg 52 32 [.tmp 4, .tmp 5] (ac_bytes_Buffer_Write 84 85) := ⟨Tryd.f52, Tryd.func52, by kernel_rfl, by kernel_rfl, by kernel_rfl, by kernel_rfl⟩
theorem b_bytes_Buffer_Bytes : Body pg 54 12 [.tmp 2] ac_bytes_Buffer_Bytes := ⟨Tryd.f54, Tryd.func54, by kernel_rfl, by kernel_rfl, by kernel_rfl, by kernel_rfl⟩
theorem bufW : BufW pg Tryd.laysM252_ren 84 94 95 96 2 51 52 54 := ⟨Tryd.laysM252, ⟨b_bytes_Buffer_tryGrowByReslice, b_bytes_Buffer_grow, b_bytes_Buffer_Len⟩, b_bytes_Buffer_WriteString, b_bytes_Buffer_Write, b_bytes_Buffer_Bytes⟩
theorem b_riff_Write_1 : Body pg 49 17 [] (ac_riff_Write_1 50 51 52) := ⟨Tryd.f49, Tryd.func49, by kernel_rfl, by kernel_rfl, by kernel_rfl, by kernel_rfl⟩
theorem v_riff_Write : S_Write pg 23 := riff_Write bufW b_riff_Write v_riff_Check b_riff_Write_1 v_le_Bytes v_riff_size
theorem v_riff_WriteO : S_WriteO 5 pg 23 := riff_WriteO bufW b_riff_Write v_riff_Check b_riff_Write_1 v_le_Bytes v_riff_size
theorem b_fmtchunk_Check : Body pg 63 27 [.tmp 2] (ac_fmtchunk_Check 57) := ⟨Tryd.f63, Tryd.func63, by kernel_rfl, by kernel_rfl, by kernel_rfl, by kernel_rfl⟩
theorem v_fmt_Check : S_SCheck pg 63 := fmt_Check b_fmtchunk_Check
theorem b_fmtchunk_Wide : Body pg 58 18 [.tmp 2, .tmp 3] (ac_fmtchunk_Wide 63 57) := ⟨Tryd.f58, Tryd.func58, by kernel_rfl, by kernel_rfl, by kernel_rfl, by kernel_rfl⟩
theorem v_fmt_Wide : S_SWide pg 58 := fmt_Wide b_fmtchunk_Wide v_fmt_Check
theorem b_fmtchunk_form : Body pg 59 67 [.tmp 6] (ac_fmtchunk_form 50 57 110 5 0 1) := ⟨Tryd.f59, Tryd.func59, by kernel_rfl, by kernel_rfl, by kernel_rfl, by kernel_rfl⟩
theorem v_fmt_form : S_FForm pg 59 := fmt_form b_fmtchunk_form v_le_Bytes (show pg.G.lookup 0 = some widG by rfl) (show pg.G.lookup 1 = some guidG by rfl)
theorem v_ref01_WrittenO : S_WrittenO 5 pg 61 := ref01_WrittenO b_cadenzaref01_Written
theorem b_cadenzaref32_first : Body pg 60 46 [.tmp 4] (ac_cadenzaref32_first 61 57 5) := ⟨Tryd.f60, Tryd.func60, by kernel_rfl, by kernel_rfl, by kernel_rfl, by kernel_rfl⟩
theorem v_ref32_first : S_First 5 pg 60 := ref32_first b_cadenzaref32_first v_ref01_WrittenO v_ref01_Written
theorem b_cadenzaref32_Masked : Body pg 31 25 [.tmp 4] (ac_cadenzaref32_Masked 60 61 57 5) := ⟨Tryd.f31, Tryd.func31, by kernel_rfl, by kernel_rfl, by kernel_rfl, by kernel_rfl⟩
theorem v_ref32_Masked : S_SMask pg 31 := ref32_Masked b_cadenzaref32_Masked v_ref32_first v_ref01_Written
theorem b_fmtchunk_Write : Body pg 27 21 [.tmp 2, .tmp 3] (ac_fmtchunk_Write 58 59 57) := ⟨Tryd.f27, Tryd.func27, by kernel_rfl, by kernel_rfl, by kernel_rfl, by kernel_rfl⟩
theorem v_fmt_Write : S_SWrite pg 27 := fmt_Write b_fmtchunk_Write v_fmt_form v_fmt_Wide
theorem b_bytes_Equal : Body pg 64 10 [.tmp 4] ac_bytes_Equal := ⟨Tryd.f64, Tryd.func64, by kernel_rfl, by kernel_rfl, by kernel_rfl, by kernel_rfl⟩
theorem v_bytes_Equal : S_bEqual pg 64 := bytes_Equal b_bytes_Equal
theorem b_fmtchunk_Read : Body pg 34 61 [.cell 2 57, .tmp 3] (ac_fmtchunk_Read 45 63 59 64 57 110 0) := ⟨Tryd.f34, Tryd.func34, by kernel_rfl, by kernel_rfl, by kernel_rfl, by kernel_rfl⟩
theorem v_fmt_Read : S_SRead pg 34 := fmt_Read b_fmtchunk_Read v_le_At v_fmt_Check v_fmt_form v_bytes_Equal (show pg.G.lookup 0 = some widG by rfl) (show aggO Tryd.prog 57 = some (some 3) by kernel_rfl)
theorem b_width_Samples : Body pg 35 81 [.tmp 4, .tmp 5] (ac_width_Samples 65 21) := ⟨Tryd.f35, Tryd.func35, by kernel_rfl, by kernel_rfl, by kernel_rfl, by kernel_rfl⟩
theorem v_width_Samples : S_Samples pg 35 := width_Samples b_width_Samples v_width_Range
theorem b_width_Bytes : Body pg 26 43 [.tmp 4, .tmp 5] (ac_width_Bytes 57 5) := ⟨Tryd.f26, Tryd.func26, by kernel_rfl, by kernel_rfl, by kernel_rfl, by kernel_rfl⟩
theorem v_width_Bytes : S_WBytes pg 26 := width_Bytes b_width_Bytes v_width_Check
theorem b_wav_Write : Body pg 16 41 [.tmp 2, .tmp 3] (ac_wav_Write 36 27 26 23 26 49) := ⟨Tryd.f16, Tryd.func16, by kernel_rfl, by kernel_rfl, by kernel_rfl, by kernel_rfl⟩
theorem v_wav_Write : S_WavWrite pg 16 := wav_Write b_wav_Write v_clip_Check v_fmt_Write v_width_Bytes v_riff_Write
theorem b_wav_Size : Body pg 18 14 [.tmp 2, .tmp 3] (ac_wav_Size 16 26) := ⟨Tryd.f18, Tryd.func18, by kernel_rfl, by kernel_rfl, by kernel_rfl, by kernel_rfl⟩
theorem v_wav_Size : S_WavSize pg 18 := wav_Size b_wav_Size v_wav_Write
theorem b_cadenzaref33_Same : Body pg 13 52 [.tmp 4] (ac_cadenzaref33_Same 26) := ⟨Tryd.f13, Tryd.func13, by kernel_rfl, by kernel_rfl, by kernel_rfl, by kernel_rfl⟩
theorem v_ref33_Same : S_Same33 pg 13 := ref33_Same b_cadenzaref33_Same
theorem b_wav_only : Body pg 33 31 [.tmp 4, .tmp 5] (ac_wav_only 62) := ⟨Tryd.f33, Tryd.func33, by kernel_rfl, by kernel_rfl, by kernel_rfl, by kernel_rfl⟩
theorem v_wav_only : S_Only pg 33 := wav_only b_wav_only v_riff_Find
theorem b_wav_Read : Body pg 11 116 [.cell 2 26, .tmp 3] (ac_wav_Read 22 33 34 35 36 26 57) := ⟨Tryd.f11, Tryd.func11, by kernel_rfl, by kernel_rfl, by kernel_rfl, by kernel_rfl⟩
theorem v_wav_Read : S_WavRead pg 11 := wav_Read b_wav_Read v_riff_Read v_wav_only v_fmt_Read v_width_Samples v_clip_Check (show aggO Tryd.prog 26 = some (some 4) by kernel_rfl)
theorem b_cadenzalaw33_example : Body pg 30 3 [.cell 0 26] (ac_cadenzalaw33_example 26 21) := ⟨Tryd.f30, Tryd.func30, by kernel_rfl, by kernel_rfl, by kernel_rfl, by kernel_rfl⟩
theorem v_law33_example : S_example33 pg 30 := law33_example b_cadenzalaw33_example (show aggO Tryd.prog 26 = some (some 4) by kernel_rfl)
theorem b_cadenzalaw33_reads : Body pg 25 19 [.tmp 4] (ac_cadenzalaw33_reads 11 13 26) := ⟨Tryd.f25, Tryd.func25, by kernel_rfl, by kernel_rfl, by kernel_rfl, by kernel_rfl⟩
theorem v_law33_reads : S_reads33 pg 25 := law33_reads b_cadenzalaw33_reads v_wav_Read v_ref33_Same
theorem b_cadenzalaw33_fails : Body pg 32 20 [.tmp 4] (ac_cadenzalaw33_fails 11 13 26) := ⟨Tryd.f32, Tryd.func32, by kernel_rfl, by kernel_rfl, by kernel_rfl, by kernel_rfl⟩
theorem v_law33_fails : S_fails33 pg 32 := law33_fails b_cadenzalaw33_fails v_wav_Read v_ref33_Same
theorem b_cadenzalaw33_alive : Body pg 20 32 [.tmp 0] (ac_cadenzalaw33_alive 30 16 25) := ⟨Tryd.f20, Tryd.func20, by kernel_rfl, by kernel_rfl, by kernel_rfl, by kernel_rfl⟩
theorem v_law33_alive : S_alive pg 20 := law33_alive b_cadenzalaw33_alive v_law33_example v_wav_Write v_law33_reads
theorem b_cadenzalaw33_file : Body pg 29 37 [.tmp 4] (ac_cadenzalaw33_file 23 49) := ⟨Tryd.f29, Tryd.func29, by kernel_rfl, by kernel_rfl, by kernel_rfl, by kernel_rfl⟩
theorem v_law33_file : S_file33 pg 29 := law33_file b_cadenzalaw33_file v_riff_Write
theorem v_law33_fileO : S_file33O 5 pg 29 := law33_fileO b_cadenzalaw33_file v_riff_WriteO
theorem b_cadenzalaw33_said : Body pg 28 19 [.tmp 6] (ac_cadenzalaw33_said 27) := ⟨Tryd.f28, Tryd.func28, by kernel_rfl, by kernel_rfl, by kernel_rfl, by kernel_rfl⟩
theorem v_law33_said : S_said33 pg 28 := law33_said b_cadenzalaw33_said v_fmt_Write
theorem b_cadenzalaw33_WavNames : Body pg 8 214 [.tmp 0] (ac_cadenzalaw33_WavNames 28 29 30 25 31 32 11 16 18 20 21 9 21 5 26) := ⟨Tryd.f8, Tryd.func8, by kernel_rfl, by kernel_rfl, by kernel_rfl, by kernel_rfl⟩
theorem v_law33_WavNames : S_alive pg 8 := law33_WavNames b_cadenzalaw33_WavNames v_law33_said v_law33_file v_law33_example v_law33_reads v_ref32_Masked v_law33_fails v_wav_Read v_wav_Write v_wav_Size v_law33_alive v_ref24_Check v_law33_fileO

theorem own : ownKnob Tryd.prog.godebug = none := by kernel_rfl
theorem laid : laidOutB Tryd.prog = true := by kernel_rfl

set_option maxRecDepth 100000 in
theorem gok {W : World} (hl : laidMet Tryd.prog Rows.wavNamesRow.laid W) : GOk pg.G (X0 W) := by
  intro q cs h
  have h1 : List.lookup q [(0, [.int .i64 2, .int .i64 2, .int .i64 4, .int .i64 4, .int .i64 2, .int .i64 2, .int .i64 2, .int .i64 2, .int .i64 4]), (1, [.int .u8 1, .int .u8 0, .int .u8 0, .int .u8 0, .int .u8 0, .int .u8 0, .int .u8 16, .int .u8 0, .int .u8 128, .int .u8 0, .int .u8 0, .int .u8 170, .int .u8 0, .int .u8 56, .int .u8 155, .int .u8 113])] = some cs := h
  simp only [List.lookup] at h1
  split at h1
  · rename_i e
    obtain rfl := eq_of_beq e
    cases h1
    exact rep_tableB hl (name := "cadenza/fmtchunk.widths") (k := .i64) [2, 2, 4, 4, 2, 2, 2, 2, 4] (by kernel_rfl) (List.Mem.tail _ (List.Mem.head _))
  split at h1
  · rename_i e
    obtain rfl := eq_of_beq e
    cases h1
    exact rep_tableB hl (name := "cadenza/fmtchunk.guid") (k := .u8) [1, 0, 0, 0, 0, 0, 16, 0, 128, 0, 0, 170, 0, 56, 155, 113] (by kernel_rfl) (List.Mem.tail _ (List.Mem.tail _ (List.Mem.head _)))
  cases h1

set_option maxRecDepth 100000 in
theorem contract (H : Type) (enc : TypeId × Value → H) (W : World) (base : Nat) (args : Array Value) (ds gs : List (DataW H)) (before : List MemPlace) (hlaid : laidMet Tryd.prog Rows.wavNamesRow.laid W)
    (hval : ∀ (j : Nat) t v, Tryd.f8.params[j]? = some t → args[j]? = some v → Value.okWide Tryd.prog W .any base t v)
    (hW : DataW.Whole enc Tryd.prog Tryd.f8.params.toList Rows.wavNamesSpec.vars false W args.toList ds gs before) :
    Calls Tryd.prog 8 args W fun e W' => ∃ v, e = .returned v ∧ Rows.wavNamesSpec.post enc Tryd.prog Tryd.f8 false true false false W args v W' := by
  have hW' := hW
  obtain ⟨p, q, hA0, hV, rfl, hfz, hnd⟩ := hW
  have hA : DataW.TrodAll enc Tryd.prog W 0 (fun _ => true) true Tryd.f8.params.toList args.toList ds p := hA0
  rw [Tryd.params8] at hA hval
  obtain ⟨hargs, rfl, rfl⟩ := trodAll_nil hA
  obtain rfl : args = #[] := by cases args; simp_all
  obtain ⟨rfl, rfl⟩ := trodVars_none hV
  refine (calls_true (P := pg) (v_law33_WavNames) (gok hlaid) (args := #[]) (by simp only [RepL])).mono fun e W' ⟨he, hb⟩ => ?_
  subst he
  exact ⟨_, rfl, post_true laid (by kernel_rfl) (by rfl) (by kernel_rfl) rfl ⟨rfl, rfl, rfl⟩ hW' hb⟩

noncomputable def low : Nat := (World.holding Tryd.prog default ⟨#[], #[], []⟩).heap.size
/-- A world in which the listed variables lie as the text lays them. -/
noncomputable def laidWorld (os : Os) : World :=
  let w0 := World.holding Tryd.prog os ⟨#[.cells #[.string { data := #[98, 121, 116, 101, 115, 46, 66, 117, 102, 102, 101, 114, 58, 32, 116, 111, 111, 32, 108, 97, 114, 103, 101] }] 166], #[], []⟩
  { w0 with heap := (((w0.heap.modify 2 fun
      | .cells _ t frozen => .cells #[.iface 150 (.pointer (some ⟨low + 0, 0, none⟩))] t frozen
      | o => o).modify 0 fun
      | .cells _ t frozen => .cells #[.int .i64 2, .int .i64 2, .int .i64 4, .int .i64 4, .int .i64 2, .int .i64 2, .int .i64 2, .int .i64 2, .int .i64 4] t frozen
      | o => o).modify 1 fun
      | .cells _ t frozen => .cells #[.int .u8 1, .int .u8 0, .int .u8 0, .int .u8 0, .int .u8 0, .int .u8 0, .int .u8 16, .int .u8 0, .int .u8 128, .int .u8 0, .int .u8 0, .int .u8 170, .int .u8 0, .int .u8 56, .int .u8 155, .int .u8 113] t frozen
      | o => o) }
theorem laidWorld_met (os : Os) (args : Array Value) : laidMet Tryd.prog Rows.wavNamesRow.laid ((laidWorld os).forCall (fun _ _ => 0) ⟨#[], args, []⟩).memory :=
  laidMet_of_run' 8 (by kernel_rfl) (by kernel_rfl)

set_option maxRecDepth 100000 in
theorem lifted (os : Os) (started : os.Started) (H : Type) (enc : TypeId × Value → H) :
    ReturnsInHanded {} Tryd.checked os 8 .any (fun w args => (Rows.wavNamesSpec.pre enc Tryd.prog Tryd.f8 [] false w args ∧ laidMet Tryd.prog Rows.wavNamesRow.laid w) ∧ sizedMet enc Tryd.prog Tryd.f8 (OpenSpec.ofChange Rows.wavNamesSpec) false w args)
      (Rows.wavNamesSpec.post enc Tryd.prog Tryd.f8 false true false false) := by
  refine returnsInHanded_of_change_and (C := Tryd.checked) (X := fun w _ => laidMet Tryd.prog Rows.wavNamesRow.laid w) (fun _ _ _ hh h => h.of_heap hh) own started (by kernel_rfl) Tryd.func8
    (ChangeSpec.witness_at (enc := enc) (C := Tryd.checked) (os := os) (X := fun w _ => laidMet Tryd.prog Rows.wavNamesRow.laid w) false (laidWorld os) #[] 8 rfl (by kernel_rfl) (by kernel_rfl) (by kernel_rfl) (by kernel_rfl) (by kernel_rfl) (laidWorld_met os _)) ?_
  intro W base args ds gs before hval hW _ _ hL _
  exact contract H enc W base args ds gs before hL hval hW

theorem row_holds : Rows.WavNamesSaid :=
  OpenClaim.holds_of_wide 8 Tryd.f8 rfl rfl rfl rfl rfl rfl rfl ⟨rfl, rfl, rfl, rfl, rfl⟩ rfl rfl rfl rfl rfl (by kernel_rfl) Tryd.func8 (by kernel_rfl)
    (of_decide_eq_true (by kernel_rfl)) (by unfold Func.isWrapper; first | (rw [if_pos (by decide +kernel)]; kernel_rfl) | (rw [if_neg (by decide +kernel)]; exact ⟨rfl, rfl⟩))
    (fun os started H enc _ => lifted os started H enc)

theorem proved : Rows.WavNamesCardSaid :=
  Claim7.holds_tied_plain_at .later [] [.sentinel, .data, .widerDeep] true (true, "2ae503678ac3bf2ef74ec7276957959041b983bd7b0e6469f53da352d42a9eeb") false
    row_holds (fun _ h => by cases h) (by kernel_rfl) (fun _ h => by cases h) wavNames_row_tie rfl ⟨rfl, rfl⟩ (by kernel_rfl) rfl
    (fun f fn hf hfn => by
      obtain rfl : f = 8 := Option.some.inj ((show Tryd.prog.funcNamed Rows.wavNamesRow.func = some 8 by kernel_rfl).symm.trans hf) |>.symm
      obtain rfl : fn = Tryd.f8 := (Option.some.inj (Tryd.func8.symm.trans hfn)).symm
      exact ⟨by kernel_rfl, fun j t ht => by
        have hall : (Tryd.f8.params.toList.all fun t => !Tryd.prog.wantsStandIn t) = true := by kernel_rfl
        have hm : t ∈ Tryd.f8.params.toList := by simpa using Array.mem_of_getElem? ht
        have h2 : Tryd.prog.wantsStandIn t = false := by simpa using List.all_eq_true.1 hall t hm
        exact h2⟩)
    (by kernel_rfl)

end Go.Proofs.YtjkgohbljmmmdaaDoor.wavNames

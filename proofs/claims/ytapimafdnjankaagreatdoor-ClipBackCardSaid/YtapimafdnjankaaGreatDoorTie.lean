/-
  DERIVED. GIVEN WITH THE SEED: THE PROGRAM's TIES (one call each: nine closed facts by the kernel) AND EACH ROW's TIE, after the 31st guide's Derived/Test/Toyas{Tie, Card}.lean. No idea stands in it: it is a product of the set-up. Laid BY PROGRAM, IN A SANDBOX (cutbox-door.mjs). By AI agents, Wed Nov 11 2026. No macro, syntax, notation, axiom, sorry.
-/
import Derived.Test.YtapimafdnjankaaGreatDoorRows
import Derived.LaidByTextLater
import Derived.SevenTiedAt
import Derived.LaidSub
import Derived.LaidOnce
namespace Go.Proofs.YtapimafdnjankaaGreatDoor
open Go
set_option maxRecDepth 100000
theorem seatTie1 : Tryz.prog.laidByTextLater [("math/bits.deBruijn64tab", Rows.laid_math_bits_deBruijn64tab), ("bytes.ErrTooLarge", Rows.laid_bytes_ErrTooLarge), ("cadenza/fmtchunk.widths", Rows.laid_cadenza_fmtchunk_widths), ("cadenza/fmtchunk.guid", Rows.laid_cadenza_fmtchunk_guid), ("cadenza/header.widths", Rows.laid_cadenza_header_widths)] [.data, .sentinel, .data, .widerDeep, .data] true :=
  Program.laidByTextLater_by_one 48 8 65 (by kernel_rfl) (by kernel_rfl) (by kernel_rfl) (by kernel_rfl) (by kernel_rfl) (by kernel_rfl) (fun _ _ => by kernel_rfl)
theorem noOwnUnsafe : Tryz.pinned.checked.prog.headLifts.contains "ownunsafe" = false := by kernel_rfl
theorem tie : Tryz.prog.laidByTextLater [("math/bits.deBruijn64tab", Rows.laid_math_bits_deBruijn64tab)] [.data] true :=
  Program.laidByTextLater.sub seatTie1 ["math/bits.deBruijn64tab"] (by kernel_rfl) (by kernel_rfl)
theorem topFrames_row_tie : Rows.topFramesRow.laidByTextAt .later Tryz.pinned [.data] true :=
  OpenClaim.laidByTextAt_later rfl rfl tie noOwnUnsafe
theorem clipOnly_row_tie : Rows.clipOnlyRow.laidByTextAt .later Tryz.pinned [.data] true :=
  OpenClaim.laidByTextAt_later rfl rfl tie noOwnUnsafe
theorem clipNames_row_tie : Rows.clipNamesRow.laidByTextAt .later Tryz.pinned [.data] true :=
  OpenClaim.laidByTextAt_later rfl rfl tie noOwnUnsafe
theorem clipBack_row_tie : Rows.clipBackRow.laidByTextAt .later Tryz.pinned [.data] true :=
  OpenClaim.laidByTextAt_later rfl rfl tie noOwnUnsafe
theorem tie2 : Tryz.prog.laidByTextLater [("cadenza/header.widths", Rows.laid_cadenza_header_widths)] [.data] true :=
  Program.laidByTextLater.sub seatTie1 ["cadenza/header.widths"] (by kernel_rfl) (by kernel_rfl)
theorem encodeParts_row_tie : Rows.encodePartsRow.laidByTextAt .later Tryz.pinned [.data] true :=
  OpenClaim.laidByTextAt_later rfl rfl tie2 noOwnUnsafe
theorem pushencNames_row_tie : Rows.pushencNamesRow.laidByTextAt .later Tryz.pinned [.data] true :=
  OpenClaim.laidByTextAt_later rfl rfl tie2 noOwnUnsafe
theorem pushencPieces_row_tie : Rows.pushencPiecesRow.laidByTextAt .later Tryz.pinned [.data] true :=
  OpenClaim.laidByTextAt_later rfl rfl tie2 noOwnUnsafe
theorem pushencFile_row_tie : Rows.pushencFileRow.laidByTextAt .later Tryz.pinned [.data] true :=
  OpenClaim.laidByTextAt_later rfl rfl tie2 noOwnUnsafe
theorem pushencSticks_row_tie : Rows.pushencSticksRow.laidByTextAt .later Tryz.pinned [.data] true :=
  OpenClaim.laidByTextAt_later rfl rfl tie2 noOwnUnsafe
theorem tie3 : Tryz.prog.laidByTextLater [("cadenza/fmtchunk.widths", Rows.laid_cadenza_fmtchunk_widths), ("cadenza/fmtchunk.guid", Rows.laid_cadenza_fmtchunk_guid), ("cadenza/header.widths", Rows.laid_cadenza_header_widths)] [.data, .widerDeep, .data] true :=
  Program.laidByTextLater.sub seatTie1 ["cadenza/fmtchunk.widths", "cadenza/fmtchunk.guid", "cadenza/header.widths"] (by kernel_rfl) (by kernel_rfl)
theorem encodeWavs_row_tie : Rows.encodeWavsRow.laidByTextAt .later Tryz.pinned [.data, .widerDeep, .data] true :=
  OpenClaim.laidByTextAt_later rfl rfl tie3 noOwnUnsafe
theorem tie4 : Tryz.prog.laidByTextLater [("bytes.ErrTooLarge", Rows.laid_bytes_ErrTooLarge), ("cadenza/fmtchunk.widths", Rows.laid_cadenza_fmtchunk_widths), ("cadenza/fmtchunk.guid", Rows.laid_cadenza_fmtchunk_guid), ("cadenza/header.widths", Rows.laid_cadenza_header_widths)] [.sentinel, .data, .widerDeep, .data] true :=
  Program.laidByTextLater.sub seatTie1 ["bytes.ErrTooLarge", "cadenza/fmtchunk.widths", "cadenza/fmtchunk.guid", "cadenza/header.widths"] (by kernel_rfl) (by kernel_rfl)
theorem encodeNames_row_tie : Rows.encodeNamesRow.laidByTextAt .later Tryz.pinned [.sentinel, .data, .widerDeep, .data] true :=
  OpenClaim.laidByTextAt_later rfl rfl tie4 noOwnUnsafe
theorem encodeSame_row_tie : Rows.encodeSameRow.laidByTextAt .later Tryz.pinned [.sentinel, .data, .widerDeep, .data] true :=
  OpenClaim.laidByTextAt_later rfl rfl tie4 noOwnUnsafe
theorem topFramesUpto_row_tie : Rows.topFramesUptoRow.laidByTextAt .later Tryz.pinned [.data] true :=
  OpenClaim.laidByTextAt_later rfl rfl tie noOwnUnsafe
theorem encodePartsUpto_row_tie : Rows.encodePartsUptoRow.laidByTextAt .later Tryz.pinned [.data] true :=
  OpenClaim.laidByTextAt_later rfl rfl tie2 noOwnUnsafe
theorem clipOnlyUpto_row_tie : Rows.clipOnlyUptoRow.laidByTextAt .later Tryz.pinned [.data] true :=
  OpenClaim.laidByTextAt_later rfl rfl tie noOwnUnsafe
theorem clipNamesUpto_row_tie : Rows.clipNamesUptoRow.laidByTextAt .later Tryz.pinned [.data] true :=
  OpenClaim.laidByTextAt_later rfl rfl tie noOwnUnsafe
theorem clipBackUpto_row_tie : Rows.clipBackUptoRow.laidByTextAt .later Tryz.pinned [.data] true :=
  OpenClaim.laidByTextAt_later rfl rfl tie noOwnUnsafe
theorem encodeWavsUpto_row_tie : Rows.encodeWavsUptoRow.laidByTextAt .later Tryz.pinned [.data, .widerDeep, .data] true :=
  OpenClaim.laidByTextAt_later rfl rfl tie3 noOwnUnsafe
theorem pushencNamesUpto_row_tie : Rows.pushencNamesUptoRow.laidByTextAt .later Tryz.pinned [.data] true :=
  OpenClaim.laidByTextAt_later rfl rfl tie2 noOwnUnsafe
theorem pushencPiecesUpto_row_tie : Rows.pushencPiecesUptoRow.laidByTextAt .later Tryz.pinned [.data] true :=
  OpenClaim.laidByTextAt_later rfl rfl tie2 noOwnUnsafe
theorem pushencFileUpto_row_tie : Rows.pushencFileUptoRow.laidByTextAt .later Tryz.pinned [.data] true :=
  OpenClaim.laidByTextAt_later rfl rfl tie2 noOwnUnsafe
theorem pushencSticksUpto_row_tie : Rows.pushencSticksUptoRow.laidByTextAt .later Tryz.pinned [.data] true :=
  OpenClaim.laidByTextAt_later rfl rfl tie2 noOwnUnsafe
theorem encodeNamesUpto_row_tie : Rows.encodeNamesUptoRow.laidByTextAt .later Tryz.pinned [.sentinel, .data, .widerDeep, .data] true :=
  OpenClaim.laidByTextAt_later rfl rfl tie4 noOwnUnsafe
theorem encodeSameUpto_row_tie : Rows.encodeSameUptoRow.laidByTextAt .later Tryz.pinned [.sentinel, .data, .widerDeep, .data] true :=
  OpenClaim.laidByTextAt_later rfl rfl tie4 noOwnUnsafe
end Go.Proofs.YtapimafdnjankaaGreatDoor

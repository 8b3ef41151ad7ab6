/-
  DERIVED. GIVEN WITH THE SEED: THE PROGRAM's TIES (one call each: nine closed facts by the kernel) AND EACH ROW's TIE, after the 31st guide's Derived/Test/Toyas{Tie, Card}.lean. No idea stands in it: it is a product of the set-up. Laid BY PROGRAM, IN A SANDBOX (cutbox-door.mjs). By AI agents, Wed Nov 11 2026. No macro, syntax, notation, axiom, sorry.
-/
import Derived.Test.YtjkgohbljmmmdaaDoorRows
import Derived.LaidByTextLater
import Derived.SevenTiedAt
import Derived.LaidSub
import Derived.LaidOnce
namespace Go.Proofs.YtjkgohbljmmmdaaDoor
open Go
set_option maxRecDepth 100000
theorem seatTie1 : Tryd.prog.laidByTextLater [("bytes.ErrTooLarge", Rows.laid_bytes_ErrTooLarge), ("cadenza/fmtchunk.widths", Rows.laid_cadenza_fmtchunk_widths), ("cadenza/fmtchunk.guid", Rows.laid_cadenza_fmtchunk_guid)] [.sentinel, .data, .widerDeep] true :=
  Program.laidByTextLater_by_one 38 8 17 (by kernel_rfl) (by kernel_rfl) (by kernel_rfl) (by kernel_rfl) (by kernel_rfl) (by kernel_rfl) (fun _ _ => by kernel_rfl)
theorem noOwnUnsafe : Tryd.pinned.checked.prog.headLifts.contains "ownunsafe" = false := by kernel_rfl
theorem tie : Tryd.prog.laidByTextLater [("cadenza/fmtchunk.widths", Rows.laid_cadenza_fmtchunk_widths), ("cadenza/fmtchunk.guid", Rows.laid_cadenza_fmtchunk_guid)] [.data, .widerDeep] true :=
  Program.laidByTextLater.sub seatTie1 ["cadenza/fmtchunk.widths", "cadenza/fmtchunk.guid"] (by kernel_rfl) (by kernel_rfl)
theorem wavReads_row_tie : Rows.wavReadsRow.laidByTextAt .later Tryd.pinned [.data, .widerDeep] true :=
  OpenClaim.laidByTextAt_later rfl rfl tie noOwnUnsafe
theorem tie2 : Tryd.prog.laidByTextLater [("bytes.ErrTooLarge", Rows.laid_bytes_ErrTooLarge), ("cadenza/fmtchunk.widths", Rows.laid_cadenza_fmtchunk_widths), ("cadenza/fmtchunk.guid", Rows.laid_cadenza_fmtchunk_guid)] [.sentinel, .data, .widerDeep] true :=
  Program.laidByTextLater.sub seatTie1 ["bytes.ErrTooLarge", "cadenza/fmtchunk.widths", "cadenza/fmtchunk.guid"] (by kernel_rfl) (by kernel_rfl)
theorem wavWrites_row_tie : Rows.wavWritesRow.laidByTextAt .later Tryd.pinned [.sentinel, .data, .widerDeep] true :=
  OpenClaim.laidByTextAt_later rfl rfl tie2 noOwnUnsafe
theorem wavChunks_row_tie : Rows.wavChunksRow.laidByTextAt .later Tryd.pinned [.sentinel, .data, .widerDeep] true :=
  OpenClaim.laidByTextAt_later rfl rfl tie2 noOwnUnsafe
theorem wavValid_row_tie : Rows.wavValidRow.laidByTextAt .later Tryd.pinned [.sentinel, .data, .widerDeep] true :=
  OpenClaim.laidByTextAt_later rfl rfl tie2 noOwnUnsafe
theorem wavData_row_tie : Rows.wavDataRow.laidByTextAt .later Tryd.pinned [.sentinel, .data, .widerDeep] true :=
  OpenClaim.laidByTextAt_later rfl rfl tie2 noOwnUnsafe
theorem wavNames_row_tie : Rows.wavNamesRow.laidByTextAt .later Tryd.pinned [.sentinel, .data, .widerDeep] true :=
  OpenClaim.laidByTextAt_later rfl rfl tie2 noOwnUnsafe
theorem wavBack_row_tie : Rows.wavBackRow.laidByTextAt .later Tryd.pinned [.sentinel, .data, .widerDeep] true :=
  OpenClaim.laidByTextAt_later rfl rfl tie2 noOwnUnsafe
theorem wavReadsUpto_row_tie : Rows.wavReadsUptoRow.laidByTextAt .later Tryd.pinned [.data, .widerDeep] true :=
  OpenClaim.laidByTextAt_later rfl rfl tie noOwnUnsafe
theorem wavWritesUpto_row_tie : Rows.wavWritesUptoRow.laidByTextAt .later Tryd.pinned [.sentinel, .data, .widerDeep] true :=
  OpenClaim.laidByTextAt_later rfl rfl tie2 noOwnUnsafe
theorem wavChunksUpto_row_tie : Rows.wavChunksUptoRow.laidByTextAt .later Tryd.pinned [.sentinel, .data, .widerDeep] true :=
  OpenClaim.laidByTextAt_later rfl rfl tie2 noOwnUnsafe
theorem wavValidUpto_row_tie : Rows.wavValidUptoRow.laidByTextAt .later Tryd.pinned [.sentinel, .data, .widerDeep] true :=
  OpenClaim.laidByTextAt_later rfl rfl tie2 noOwnUnsafe
theorem wavDataUpto_row_tie : Rows.wavDataUptoRow.laidByTextAt .later Tryd.pinned [.sentinel, .data, .widerDeep] true :=
  OpenClaim.laidByTextAt_later rfl rfl tie2 noOwnUnsafe
theorem wavNamesUpto_row_tie : Rows.wavNamesUptoRow.laidByTextAt .later Tryd.pinned [.sentinel, .data, .widerDeep] true :=
  OpenClaim.laidByTextAt_later rfl rfl tie2 noOwnUnsafe
theorem wavBackUpto_row_tie : Rows.wavBackUptoRow.laidByTextAt .later Tryd.pinned [.sentinel, .data, .widerDeep] true :=
  OpenClaim.laidByTextAt_later rfl rfl tie2 noOwnUnsafe
end Go.Proofs.YtjkgohbljmmmdaaDoor

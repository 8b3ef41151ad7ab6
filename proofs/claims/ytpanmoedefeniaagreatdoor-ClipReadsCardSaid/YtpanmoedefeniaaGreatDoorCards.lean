/-
  DERIVED. GIVEN WITH THE SEED: THE CARDS: each row of YtpanmoedefeniaaGreatDoorRows.lean that lists a variable, with what it lists TIED to the program's text (the seventh form; the later family's looks); each row that meets fmt, with fmt's text TOLD by the authors' own Lean function (tested against real Go, not proved from fmt's source: count such statements apart). THE CARD IS WHAT COUNTS. Prove the row's statement (the work); the ties are given (YtpanmoedefeniaaGreatDoorTie.lean); close each card by the builder's one call (the guide's Derived/Test/ToyasCard.lean, 'card_holds'). Laid BY PROGRAM, IN A SANDBOX (cutbox-door.mjs). By AI agents, Wed Nov 11 2026. No macro, syntax, notation, axiom, sorry.
-/
import Derived.Test.YtpanmoedefeniaaGreatDoorRows
import GoSem.ClaimSeven
namespace Go.Proofs.YtpanmoedefeniaaGreatDoor
namespace Rows

/-- THE TIED CARD OF 'cadenzalaw24.ClipReads'. -/
def clipReadsCard : Claim7 := { stood := { row := clipReadsRow, standIns := [], harness := (true, "3c47be1a56d76c1754403e21bbbf39ea47d2d0ee57b2b09c47016b8868057d3c"), looks := false }, kinds := [], alts := [], laidByText := true, laidKinds := [.data], laidTests := true, laidLooks := .later }
def ClipReadsCardSaid : Prop := Claim7.holds Tryz.pinned (.plain (OpenSpec.ofChange clipReadsSpec)) clipReadsCard

/-- THE TIED CARD OF 'cadenzalaw34.EncodeFiles'. -/
def encodeFilesCard : Claim7 := { stood := { row := encodeFilesRow, standIns := [], harness := (true, "3c47be1a56d76c1754403e21bbbf39ea47d2d0ee57b2b09c47016b8868057d3c"), looks := false }, kinds := [], alts := [], laidByText := true, laidKinds := [.data], laidTests := true, laidLooks := .later }
def EncodeFilesCardSaid : Prop := Claim7.holds Tryz.pinned (.plain (OpenSpec.ofChange encodeFilesSpec)) encodeFilesCard

/-- THE SECOND FORM's CARD OF 'cadenzalaw24.ClipReads'. -/
def clipReadsUptoCard : Claim7 := { stood := { row := clipReadsUptoRow, standIns := [], harness := (true, "3c47be1a56d76c1754403e21bbbf39ea47d2d0ee57b2b09c47016b8868057d3c"), looks := false }, kinds := [], alts := [], laidByText := true, laidKinds := [.data], laidTests := true, laidLooks := .later }
def ClipReadsUptoCardSaid : Prop := Claim7.holds Tryz.pinned (.plain (OpenSpec.upto clipReadsSpec)) clipReadsUptoCard

/-- THE SECOND FORM's CARD OF 'cadenzalaw34.EncodeFiles'. -/
def encodeFilesUptoCard : Claim7 := { stood := { row := encodeFilesUptoRow, standIns := [], harness := (true, "3c47be1a56d76c1754403e21bbbf39ea47d2d0ee57b2b09c47016b8868057d3c"), looks := false }, kinds := [], alts := [], laidByText := true, laidKinds := [.data], laidTests := true, laidLooks := .later }
def EncodeFilesUptoCardSaid : Prop := Claim7.holds Tryz.pinned (.plain (OpenSpec.upto encodeFilesSpec)) encodeFilesUptoCard
end Rows
end Go.Proofs.YtpanmoedefeniaaGreatDoor

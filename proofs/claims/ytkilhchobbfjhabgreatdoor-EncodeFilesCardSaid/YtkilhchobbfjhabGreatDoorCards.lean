/-
  DERIVED. GIVEN WITH THE SEED: THE CARDS: each row of YtkilhchobbfjhabGreatDoorRows.lean that lists a variable, with what it lists TIED to the program's text (the seventh form; the later family's looks); each row that meets fmt, with fmt's text TOLD by the authors' own Lean function (tested against real Go, not proved from fmt's source: count such statements apart). THE CARD IS WHAT COUNTS. Prove the row's statement (the work); the ties are given (YtkilhchobbfjhabGreatDoorTie.lean); close each card by the builder's one call (the guide's Derived/Test/ToyasCard.lean, 'card_holds'). Laid BY PROGRAM, IN A SANDBOX (cutbox-door.mjs). By AI agents, Wed Nov 11 2026. No macro, syntax, notation, axiom, sorry.
-/
import Derived.Test.YtkilhchobbfjhabGreatDoorRows
import GoSem.ClaimSeven
namespace Go.Proofs.YtkilhchobbfjhabGreatDoor
namespace Rows

/-- THE TIED CARD OF 'cadenzalaw34.EncodeFiles'. -/
def encodeFilesCard : Claim7 := { stood := { row := encodeFilesRow, standIns := [], harness := (true, "041a6b64b088f169f138d2f59069e4a8f96af14422fbe9f09a0bec2265e59c68"), looks := false }, kinds := [], alts := [], laidByText := true, laidKinds := [.data], laidTests := true, laidLooks := .later }
def EncodeFilesCardSaid : Prop := Claim7.holds Tryz.pinned (.plain (OpenSpec.ofChange encodeFilesSpec)) encodeFilesCard

/-- THE SECOND FORM's CARD OF 'cadenzalaw34.EncodeFiles'. -/
def encodeFilesUptoCard : Claim7 := { stood := { row := encodeFilesUptoRow, standIns := [], harness := (true, "041a6b64b088f169f138d2f59069e4a8f96af14422fbe9f09a0bec2265e59c68"), looks := false }, kinds := [], alts := [], laidByText := true, laidKinds := [.data], laidTests := true, laidLooks := .later }
def EncodeFilesUptoCardSaid : Prop := Claim7.holds Tryz.pinned (.plain (OpenSpec.upto encodeFilesSpec)) encodeFilesUptoCard
end Rows
end Go.Proofs.YtkilhchobbfjhabGreatDoor

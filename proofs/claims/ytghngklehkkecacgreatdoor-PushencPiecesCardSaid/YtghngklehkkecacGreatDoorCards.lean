/-
  DERIVED. GIVEN WITH THE SEED: THE CARDS: each row of YtghngklehkkecacGreatDoorRows.lean that lists a variable, with what it lists TIED to the program's text (the seventh form; the later family's looks); each row that meets fmt, with fmt's text TOLD by the authors' own Lean function (tested against real Go, not proved from fmt's source: count such statements apart). THE CARD IS WHAT COUNTS. Prove the row's statement (the work); the ties are given (YtghngklehkkecacGreatDoorTie.lean); close each card by the builder's one call (the guide's Derived/Test/ToyasCard.lean, 'card_holds'). Laid BY PROGRAM, IN A SANDBOX (cutbox-door.mjs). By AI agents, Wed Nov 11 2026. No macro, syntax, notation, axiom, sorry.
-/
import Derived.Test.YtghngklehkkecacGreatDoorRows
import GoSem.ClaimSeven
namespace Go.Proofs.YtghngklehkkecacGreatDoor
namespace Rows

/-- THE TIED CARD OF 'cadenzalaw36.PushencPieces'. -/
def pushencPiecesCard : Claim7 := { stood := { row := pushencPiecesRow, standIns := [], harness := (true, "4b6af446ad682972d07fe6975e99101b19be155135e98b1120f8acb5766ce77e"), looks := false }, kinds := [], alts := [], laidByText := true, laidKinds := [.data], laidTests := true, laidLooks := .later }
def PushencPiecesCardSaid : Prop := Claim7.holds Tryz.pinned (.plain (OpenSpec.ofChange pushencPiecesSpec)) pushencPiecesCard

/-- THE SECOND FORM's CARD OF 'cadenzalaw36.PushencPieces'. -/
def pushencPiecesUptoCard : Claim7 := { stood := { row := pushencPiecesUptoRow, standIns := [], harness := (true, "4b6af446ad682972d07fe6975e99101b19be155135e98b1120f8acb5766ce77e"), looks := false }, kinds := [], alts := [], laidByText := true, laidKinds := [.data], laidTests := true, laidLooks := .later }
def PushencPiecesUptoCardSaid : Prop := Claim7.holds Tryz.pinned (.plain (OpenSpec.upto pushencPiecesSpec)) pushencPiecesUptoCard
end Rows
end Go.Proofs.YtghngklehkkecacGreatDoor

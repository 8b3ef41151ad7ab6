/-
  DERIVED. GIVEN WITH THE SEED: THE CARDS: each row of YtghngklehkkecadGreatDoorRows.lean that lists a variable, with what it lists TIED to the program's text (the seventh form; the later family's looks); each row that meets fmt, with fmt's text TOLD by the authors' own Lean function (tested against real Go, not proved from fmt's source: count such statements apart). THE CARD IS WHAT COUNTS. Prove the row's statement (the work); the ties are given (YtghngklehkkecadGreatDoorTie.lean); close each card by the builder's one call (the guide's Derived/Test/ToyasCard.lean, 'card_holds'). Laid BY PROGRAM, IN A SANDBOX (cutbox-door.mjs). By AI agents, Wed Nov 11 2026. No macro, syntax, notation, axiom, sorry.
-/
import Derived.Test.YtghngklehkkecadGreatDoorRows
import GoSem.ClaimSeven
namespace Go.Proofs.YtghngklehkkecadGreatDoor
namespace Rows

/-- THE TIED CARD OF 'cadenzalaw36.PushencFile'. -/
def pushencFileCard : Claim7 := { stood := { row := pushencFileRow, standIns := [], harness := (true, "1c08e11917934e84563fcc608034bcf286a6391b2acc94ea74a4429d0192bae5"), looks := false }, kinds := [], alts := [], laidByText := true, laidKinds := [.data], laidTests := true, laidLooks := .later }
def PushencFileCardSaid : Prop := Claim7.holds Tryz.pinned (.plain (OpenSpec.ofChange pushencFileSpec)) pushencFileCard

/-- THE SECOND FORM's CARD OF 'cadenzalaw36.PushencFile'. -/
def pushencFileUptoCard : Claim7 := { stood := { row := pushencFileUptoRow, standIns := [], harness := (true, "1c08e11917934e84563fcc608034bcf286a6391b2acc94ea74a4429d0192bae5"), looks := false }, kinds := [], alts := [], laidByText := true, laidKinds := [.data], laidTests := true, laidLooks := .later }
def PushencFileUptoCardSaid : Prop := Claim7.holds Tryz.pinned (.plain (OpenSpec.upto pushencFileSpec)) pushencFileUptoCard
end Rows
end Go.Proofs.YtghngklehkkecadGreatDoor

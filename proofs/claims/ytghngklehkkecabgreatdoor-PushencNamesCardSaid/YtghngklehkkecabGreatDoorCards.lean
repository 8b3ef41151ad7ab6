/-
  DERIVED. GIVEN WITH THE SEED: THE CARDS: each row of YtghngklehkkecabGreatDoorRows.lean that lists a variable, with what it lists TIED to the program's text (the seventh form; the later family's looks); each row that meets fmt, with fmt's text TOLD by the authors' own Lean function (tested against real Go, not proved from fmt's source: count such statements apart). THE CARD IS WHAT COUNTS. Prove the row's statement (the work); the ties are given (YtghngklehkkecabGreatDoorTie.lean); close each card by the builder's one call (the guide's Derived/Test/ToyasCard.lean, 'card_holds'). Laid BY PROGRAM, IN A SANDBOX (cutbox-door.mjs). By AI agents, Wed Nov 11 2026. No macro, syntax, notation, axiom, sorry.
-/
import Derived.Test.YtghngklehkkecabGreatDoorRows
import GoSem.ClaimSeven
namespace Go.Proofs.YtghngklehkkecabGreatDoor
namespace Rows

/-- THE TIED CARD OF 'cadenzalaw36.PushencNames'. -/
def pushencNamesCard : Claim7 := { stood := { row := pushencNamesRow, standIns := [], harness := (true, "9cc76fe7c0df12c1449805c51cfc25dce0e4476a304aa1bdc5c1e2a2e1409163"), looks := false }, kinds := [], alts := [], laidByText := true, laidKinds := [.data], laidTests := true, laidLooks := .later }
def PushencNamesCardSaid : Prop := Claim7.holds Tryz.pinned (.plain (OpenSpec.ofChange pushencNamesSpec)) pushencNamesCard

/-- THE SECOND FORM's CARD OF 'cadenzalaw36.PushencNames'. -/
def pushencNamesUptoCard : Claim7 := { stood := { row := pushencNamesUptoRow, standIns := [], harness := (true, "9cc76fe7c0df12c1449805c51cfc25dce0e4476a304aa1bdc5c1e2a2e1409163"), looks := false }, kinds := [], alts := [], laidByText := true, laidKinds := [.data], laidTests := true, laidLooks := .later }
def PushencNamesUptoCardSaid : Prop := Claim7.holds Tryz.pinned (.plain (OpenSpec.upto pushencNamesSpec)) pushencNamesUptoCard
end Rows
end Go.Proofs.YtghngklehkkecabGreatDoor

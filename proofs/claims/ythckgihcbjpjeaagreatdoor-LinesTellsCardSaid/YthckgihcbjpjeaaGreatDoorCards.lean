/-
  DERIVED. GIVEN WITH THE SEED: THE CARDS: each row of YthckgihcbjpjeaaGreatDoorRows.lean that lists a variable, with what it lists TIED to the program's text (the seventh form; the later family's looks); each row that meets fmt, with fmt's text TOLD by the authors' own Lean function (tested against real Go, not proved from fmt's source: count such statements apart). THE CARD IS WHAT COUNTS. Prove the row's statement (the work); the ties are given (YthckgihcbjpjeaaGreatDoorTie.lean); close each card by the builder's one call (the guide's Derived/Test/ToyasCard.lean, 'card_holds'). Laid BY PROGRAM, IN A SANDBOX (cutbox-door.mjs). By AI agents, Wed Nov 11 2026. No macro, syntax, notation, axiom, sorry.
-/
import Derived.Test.YthckgihcbjpjeaaGreatDoorRows
import GoSem.ClaimSeven
namespace Go.Proofs.YthckgihcbjpjeaaGreatDoor
namespace Rows

/-- THE TIED CARD OF 'cadenzalaw45.LinesTells'. -/
def linesTellsCard : Claim7 := { stood := { row := linesTellsRow, standIns := [], harness := (true, "65506e3739d36cd44254ebd27dfd677b997d5cc3809c4ab77a7e3eef95f97249"), looks := false }, kinds := [], alts := [], laidByText := true, laidKinds := [.data, .data], laidTests := true, laidLooks := .later }
def LinesTellsCardSaid : Prop := Claim7.holds Tryz.pinned (.plain (OpenSpec.ofChange linesTellsSpec)) linesTellsCard

/-- THE SECOND FORM's CARD OF 'cadenzalaw45.LinesTells'. -/
def linesTellsUptoCard : Claim7 := { stood := { row := linesTellsUptoRow, standIns := [], harness := (true, "65506e3739d36cd44254ebd27dfd677b997d5cc3809c4ab77a7e3eef95f97249"), looks := false }, kinds := [], alts := [], laidByText := true, laidKinds := [.data, .data], laidTests := true, laidLooks := .later }
def LinesTellsUptoCardSaid : Prop := Claim7.holds Tryz.pinned (.plain (OpenSpec.upto linesTellsSpec)) linesTellsUptoCard
end Rows
end Go.Proofs.YthckgihcbjpjeaaGreatDoor

/-
  DERIVED. GIVEN WITH THE SEED: THE CARDS: each row of YthckgihcbjpjeabGreatDoorRows.lean that lists a variable, with what it lists TIED to the program's text (the seventh form; the later family's looks); each row that meets fmt, with fmt's text TOLD by the authors' own Lean function (tested against real Go, not proved from fmt's source: count such statements apart). THE CARD IS WHAT COUNTS. Prove the row's statement (the work); the ties are given (YthckgihcbjpjeabGreatDoorTie.lean); close each card by the builder's one call (the guide's Derived/Test/ToyasCard.lean, 'card_holds'). Laid BY PROGRAM, IN A SANDBOX (cutbox-door.mjs). By AI agents, Wed Nov 11 2026. No macro, syntax, notation, axiom, sorry.
-/
import Derived.Test.YthckgihcbjpjeabGreatDoorRows
import GoSem.ClaimSeven
namespace Go.Proofs.YthckgihcbjpjeabGreatDoor
namespace Rows

/-- THE TIED CARD OF 'cadenzalaw45.LinesFiles'. -/
def linesFilesCard : Claim7 := { stood := { row := linesFilesRow, standIns := [], harness := (true, "a2367556535b505d50c3a80b9bcf942a3ebdbbf170707aac3d5395500c39bd55"), looks := true }, kinds := [], alts := [], laidByText := true, laidKinds := [.data, .data, .data, .data, .sentinel, .sentinel, .data, .pinned], laidTests := true, laidLooks := .later }
def LinesFilesCardSaid : Prop := Claim7.holds Tryz.pinned (.plain (OpenSpec.ofChange linesFilesSpec)) linesFilesCard

/-- THE SECOND FORM's CARD OF 'cadenzalaw45.LinesFiles'. -/
def linesFilesUptoCard : Claim7 := { stood := { row := linesFilesUptoRow, standIns := [], harness := (true, "a2367556535b505d50c3a80b9bcf942a3ebdbbf170707aac3d5395500c39bd55"), looks := true }, kinds := [], alts := [], laidByText := true, laidKinds := [.data, .data, .data, .data, .sentinel, .sentinel, .data, .pinned], laidTests := true, laidLooks := .later }
def LinesFilesUptoCardSaid : Prop := Claim7.holds Tryz.pinned (.plain (OpenSpec.upto linesFilesSpec)) linesFilesUptoCard
end Rows
end Go.Proofs.YthckgihcbjpjeabGreatDoor

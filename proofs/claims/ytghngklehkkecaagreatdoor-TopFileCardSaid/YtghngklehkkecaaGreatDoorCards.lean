/-
  DERIVED. GIVEN WITH THE SEED: THE CARDS: each row of YtghngklehkkecaaGreatDoorRows.lean that lists a variable, with what it lists TIED to the program's text (the seventh form; the later family's looks); each row that meets fmt, with fmt's text TOLD by the authors' own Lean function (tested against real Go, not proved from fmt's source: count such statements apart). THE CARD IS WHAT COUNTS. Prove the row's statement (the work); the ties are given (YtghngklehkkecaaGreatDoorTie.lean); close each card by the builder's one call (the guide's Derived/Test/ToyasCard.lean, 'card_holds'). Laid BY PROGRAM, IN A SANDBOX (cutbox-door.mjs). By AI agents, Wed Nov 11 2026. No macro, syntax, notation, axiom, sorry.
-/
import Derived.Test.YtghngklehkkecaaGreatDoorRows
import GoSem.ClaimSeven
namespace Go.Proofs.YtghngklehkkecaaGreatDoor
namespace Rows

/-- THE TIED CARD OF 'cadenzatop.TopFile'. -/
def topFileCard : Claim7 := { stood := { row := topFileRow, standIns := [], harness := (true, "8cdf49cd04ff2e9f9c3e3fa74cdd1fc6b9d1a2921aeee2447eaa8bd9cc873c17"), looks := false }, kinds := [], alts := [], laidByText := true, laidKinds := [.data, .sentinel, .data, .widerDeep, .data], laidTests := true, laidLooks := .later }
def TopFileCardSaid : Prop := Claim7.holds Tryz.pinned (.plain (OpenSpec.ofChange topFileSpec)) topFileCard

/-- THE SECOND FORM's CARD OF 'cadenzatop.TopFile'. -/
def topFileUptoCard : Claim7 := { stood := { row := topFileUptoRow, standIns := [], harness := (true, "8cdf49cd04ff2e9f9c3e3fa74cdd1fc6b9d1a2921aeee2447eaa8bd9cc873c17"), looks := false }, kinds := [], alts := [], laidByText := true, laidKinds := [.data, .sentinel, .data, .widerDeep, .data], laidTests := true, laidLooks := .later }
def TopFileUptoCardSaid : Prop := Claim7.holds Tryz.pinned (.plain (OpenSpec.upto topFileSpec)) topFileUptoCard
end Rows
end Go.Proofs.YtghngklehkkecaaGreatDoor

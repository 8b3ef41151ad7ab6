/-
  DERIVED. GIVEN WITH THE SEED: THE CARDS: each row of YtkilhchobbfjhacGreatDoorRows.lean that lists a variable, with what it lists TIED to the program's text (the seventh form; the later family's looks); each row that meets fmt, with fmt's text TOLD by the authors' own Lean function (tested against real Go, not proved from fmt's source: count such statements apart). THE CARD IS WHAT COUNTS. Prove the row's statement (the work); the ties are given (YtkilhchobbfjhacGreatDoorTie.lean); close each card by the builder's one call (the guide's Derived/Test/ToyasCard.lean, 'card_holds'). Laid BY PROGRAM, IN A SANDBOX (cutbox-door.mjs). By AI agents, Wed Nov 11 2026. No macro, syntax, notation, axiom, sorry.
-/
import Derived.Test.YtkilhchobbfjhacGreatDoorRows
import GoSem.ClaimSeven
namespace Go.Proofs.YtkilhchobbfjhacGreatDoor
namespace Rows

/-- THE TIED CARD OF 'cadenzalaw24.ClipNames'. -/
def clipNamesCard : Claim7 := { stood := { row := clipNamesRow, standIns := [], harness := (true, "48ca2ecf7d143a97a77bda645650c0d622ebca2ac225fba7ffc30dcfe3dab7bd"), looks := false }, kinds := [], alts := [], laidByText := true, laidKinds := [.data], laidTests := true, laidLooks := .later }
def ClipNamesCardSaid : Prop := Claim7.holds Tryz.pinned (.plain (OpenSpec.ofChange clipNamesSpec)) clipNamesCard

/-- THE SECOND FORM's CARD OF 'cadenzalaw24.ClipNames'. -/
def clipNamesUptoCard : Claim7 := { stood := { row := clipNamesUptoRow, standIns := [], harness := (true, "48ca2ecf7d143a97a77bda645650c0d622ebca2ac225fba7ffc30dcfe3dab7bd"), looks := false }, kinds := [], alts := [], laidByText := true, laidKinds := [.data], laidTests := true, laidLooks := .later }
def ClipNamesUptoCardSaid : Prop := Claim7.holds Tryz.pinned (.plain (OpenSpec.upto clipNamesSpec)) clipNamesUptoCard
end Rows
end Go.Proofs.YtkilhchobbfjhacGreatDoor

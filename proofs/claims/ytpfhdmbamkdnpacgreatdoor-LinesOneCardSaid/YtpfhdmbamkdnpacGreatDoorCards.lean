/-
  DERIVED. GIVEN WITH THE SEED: THE CARDS: each row of YtpfhdmbamkdnpacGreatDoorRows.lean that lists a variable, with what it lists TIED to the program's text (the seventh form; the later family's looks); each row that meets fmt, with fmt's text TOLD by the authors' own Lean function (tested against real Go, not proved from fmt's source: count such statements apart). THE CARD IS WHAT COUNTS. Prove the row's statement (the work); the ties are given (YtpfhdmbamkdnpacGreatDoorTie.lean); close each card by the builder's one call (the guide's Derived/Test/ToyasCard.lean, 'card_holds'). Laid BY PROGRAM, IN A SANDBOX (cutbox-door.mjs). By AI agents, Wed Nov 11 2026. No macro, syntax, notation, axiom, sorry.
-/
import Derived.Test.YtpfhdmbamkdnpacGreatDoorRows
import GoSem.ClaimSeven
namespace Go.Proofs.YtpfhdmbamkdnpacGreatDoor
namespace Rows

/-- THE TIED CARD OF 'cadenzalaw45.LinesOne'. -/
def linesOneCard : Claim7 := { stood := { row := linesOneRow, standIns := [], harness := (true, "20020011cc0c59475a397f4009310d18b38057154160e3ffa995012d41a47c31"), looks := true }, kinds := [], alts := [], laidByText := true, laidKinds := [.data, .data, .data, .data, .sentinel, .sentinel, .data, .pinned], laidTests := true, laidLooks := .later }
def LinesOneCardSaid : Prop := Claim7.holds Tryz.pinned (.plain (OpenSpec.ofChange linesOneSpec)) linesOneCard

/-- THE SECOND FORM's CARD OF 'cadenzalaw45.LinesOne'. -/
def linesOneUptoCard : Claim7 := { stood := { row := linesOneUptoRow, standIns := [], harness := (true, "20020011cc0c59475a397f4009310d18b38057154160e3ffa995012d41a47c31"), looks := true }, kinds := [], alts := [], laidByText := true, laidKinds := [.data, .data, .data, .data, .sentinel, .sentinel, .data, .pinned], laidTests := true, laidLooks := .later }
def LinesOneUptoCardSaid : Prop := Claim7.holds Tryz.pinned (.plain (OpenSpec.upto linesOneSpec)) linesOneUptoCard
end Rows
end Go.Proofs.YtpfhdmbamkdnpacGreatDoor

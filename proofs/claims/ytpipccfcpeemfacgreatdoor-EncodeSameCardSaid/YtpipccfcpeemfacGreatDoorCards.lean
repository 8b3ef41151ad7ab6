/-
  DERIVED. GIVEN WITH THE SEED: THE CARDS: each row of YtpipccfcpeemfacGreatDoorRows.lean that lists a variable, with what it lists TIED to the program's text (the seventh form; the later family's looks); each row that meets fmt, with fmt's text TOLD by the authors' own Lean function (tested against real Go, not proved from fmt's source: count such statements apart). THE CARD IS WHAT COUNTS. Prove the row's statement (the work); the ties are given (YtpipccfcpeemfacGreatDoorTie.lean); close each card by the builder's one call (the guide's Derived/Test/ToyasCard.lean, 'card_holds'). Laid BY PROGRAM, IN A SANDBOX (cutbox-door.mjs). By AI agents, Wed Nov 11 2026. No macro, syntax, notation, axiom, sorry.
-/
import Derived.Test.YtpipccfcpeemfacGreatDoorRows
import GoSem.ClaimSeven
namespace Go.Proofs.YtpipccfcpeemfacGreatDoor
namespace Rows

/-- THE TIED CARD OF 'cadenzalaw34.EncodeSame'. -/
def encodeSameCard : Claim7 := { stood := { row := encodeSameRow, standIns := [], harness := (true, "76dd1052dc4aa3b84939bdb71a78c45b584e27d8941692ea9d8840a0715fe54d"), looks := false }, kinds := [], alts := [], laidByText := true, laidKinds := [.sentinel, .data, .widerDeep, .data], laidTests := true, laidLooks := .later }
def EncodeSameCardSaid : Prop := Claim7.holds Tryz.pinned (.plain (OpenSpec.ofChange encodeSameSpec)) encodeSameCard

/-- THE SECOND FORM's CARD OF 'cadenzalaw34.EncodeSame'. -/
def encodeSameUptoCard : Claim7 := { stood := { row := encodeSameUptoRow, standIns := [], harness := (true, "76dd1052dc4aa3b84939bdb71a78c45b584e27d8941692ea9d8840a0715fe54d"), looks := false }, kinds := [], alts := [], laidByText := true, laidKinds := [.sentinel, .data, .widerDeep, .data], laidTests := true, laidLooks := .later }
def EncodeSameUptoCardSaid : Prop := Claim7.holds Tryz.pinned (.plain (OpenSpec.upto encodeSameSpec)) encodeSameUptoCard
end Rows
end Go.Proofs.YtpipccfcpeemfacGreatDoor

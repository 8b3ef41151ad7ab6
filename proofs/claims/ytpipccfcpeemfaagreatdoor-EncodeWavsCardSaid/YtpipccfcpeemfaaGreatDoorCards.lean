/-
  DERIVED. GIVEN WITH THE SEED: THE CARDS: each row of YtpipccfcpeemfaaGreatDoorRows.lean that lists a variable, with what it lists TIED to the program's text (the seventh form; the later family's looks); each row that meets fmt, with fmt's text TOLD by the authors' own Lean function (tested against real Go, not proved from fmt's source: count such statements apart). THE CARD IS WHAT COUNTS. Prove the row's statement (the work); the ties are given (YtpipccfcpeemfaaGreatDoorTie.lean); close each card by the builder's one call (the guide's Derived/Test/ToyasCard.lean, 'card_holds'). Laid BY PROGRAM, IN A SANDBOX (cutbox-door.mjs). By AI agents, Wed Nov 11 2026. No macro, syntax, notation, axiom, sorry.
-/
import Derived.Test.YtpipccfcpeemfaaGreatDoorRows
import GoSem.ClaimSeven
namespace Go.Proofs.YtpipccfcpeemfaaGreatDoor
namespace Rows

/-- THE TIED CARD OF 'cadenzalaw34.EncodeWavs'. -/
def encodeWavsCard : Claim7 := { stood := { row := encodeWavsRow, standIns := [], harness := (true, "12a7b7265adbc1c32c6d64d1430ca223bc6986b1a0eda367b0706da606fe85c4"), looks := false }, kinds := [], alts := [], laidByText := true, laidKinds := [.data, .widerDeep, .data], laidTests := true, laidLooks := .later }
def EncodeWavsCardSaid : Prop := Claim7.holds Tryz.pinned (.plain (OpenSpec.ofChange encodeWavsSpec)) encodeWavsCard

/-- THE SECOND FORM's CARD OF 'cadenzalaw34.EncodeWavs'. -/
def encodeWavsUptoCard : Claim7 := { stood := { row := encodeWavsUptoRow, standIns := [], harness := (true, "12a7b7265adbc1c32c6d64d1430ca223bc6986b1a0eda367b0706da606fe85c4"), looks := false }, kinds := [], alts := [], laidByText := true, laidKinds := [.data, .widerDeep, .data], laidTests := true, laidLooks := .later }
def EncodeWavsUptoCardSaid : Prop := Claim7.holds Tryz.pinned (.plain (OpenSpec.upto encodeWavsSpec)) encodeWavsUptoCard
end Rows
end Go.Proofs.YtpipccfcpeemfaaGreatDoor

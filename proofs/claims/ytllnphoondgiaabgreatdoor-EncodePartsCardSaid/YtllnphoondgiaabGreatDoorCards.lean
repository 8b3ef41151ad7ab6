/-
  DERIVED. GIVEN WITH THE SEED: THE CARDS: each row of YtllnphoondgiaabGreatDoorRows.lean that lists a variable, with what it lists TIED to the program's text (the seventh form; the later family's looks); each row that meets fmt, with fmt's text TOLD by the authors' own Lean function (tested against real Go, not proved from fmt's source: count such statements apart). THE CARD IS WHAT COUNTS. Prove the row's statement (the work); the ties are given (YtllnphoondgiaabGreatDoorTie.lean); close each card by the builder's one call (the guide's Derived/Test/ToyasCard.lean, 'card_holds'). Laid BY PROGRAM, IN A SANDBOX (cutbox-door.mjs). By AI agents, Wed Nov 11 2026. No macro, syntax, notation, axiom, sorry.
-/
import Derived.Test.YtllnphoondgiaabGreatDoorRows
import GoSem.ClaimSeven
namespace Go.Proofs.YtllnphoondgiaabGreatDoor
namespace Rows

/-- THE TIED CARD OF 'cadenzalaw34.EncodeParts'. -/
def encodePartsCard : Claim7 := { stood := { row := encodePartsRow, standIns := [], harness := (true, "adc8712fee412e7c05fd624b40b97441971494a0339ea83693e84ead9c176f61"), looks := false }, kinds := [], alts := [], laidByText := true, laidKinds := [.data], laidTests := true, laidLooks := .later }
def EncodePartsCardSaid : Prop := Claim7.holds Tryz.pinned (.plain (OpenSpec.ofChange encodePartsSpec)) encodePartsCard

/-- THE SECOND FORM's CARD OF 'cadenzalaw34.EncodeParts'. -/
def encodePartsUptoCard : Claim7 := { stood := { row := encodePartsUptoRow, standIns := [], harness := (true, "adc8712fee412e7c05fd624b40b97441971494a0339ea83693e84ead9c176f61"), looks := false }, kinds := [], alts := [], laidByText := true, laidKinds := [.data], laidTests := true, laidLooks := .later }
def EncodePartsUptoCardSaid : Prop := Claim7.holds Tryz.pinned (.plain (OpenSpec.upto encodePartsSpec)) encodePartsUptoCard
end Rows
end Go.Proofs.YtllnphoondgiaabGreatDoor

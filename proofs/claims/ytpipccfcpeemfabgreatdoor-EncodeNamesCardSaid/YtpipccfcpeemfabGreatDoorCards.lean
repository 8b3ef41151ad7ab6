/-
  DERIVED. GIVEN WITH THE SEED: THE CARDS: each row of YtpipccfcpeemfabGreatDoorRows.lean that lists a variable, with what it lists TIED to the program's text (the seventh form; the later family's looks); each row that meets fmt, with fmt's text TOLD by the authors' own Lean function (tested against real Go, not proved from fmt's source: count such statements apart). THE CARD IS WHAT COUNTS. Prove the row's statement (the work); the ties are given (YtpipccfcpeemfabGreatDoorTie.lean); close each card by the builder's one call (the guide's Derived/Test/ToyasCard.lean, 'card_holds'). Laid BY PROGRAM, IN A SANDBOX (cutbox-door.mjs). By AI agents, Wed Nov 11 2026. No macro, syntax, notation, axiom, sorry.
-/
import Derived.Test.YtpipccfcpeemfabGreatDoorRows
import GoSem.ClaimSeven
namespace Go.Proofs.YtpipccfcpeemfabGreatDoor
namespace Rows

/-- THE TIED CARD OF 'cadenzalaw34.EncodeNames'. -/
def encodeNamesCard : Claim7 := { stood := { row := encodeNamesRow, standIns := [], harness := (true, "90887f9ad70a92e48cccf6d81b261efd14ec3c175a48e80f5382fc1ef1d2b738"), looks := false }, kinds := [], alts := [], laidByText := true, laidKinds := [.sentinel, .data, .widerDeep, .data], laidTests := true, laidLooks := .later }
def EncodeNamesCardSaid : Prop := Claim7.holds Tryz.pinned (.plain (OpenSpec.ofChange encodeNamesSpec)) encodeNamesCard

/-- THE SECOND FORM's CARD OF 'cadenzalaw34.EncodeNames'. -/
def encodeNamesUptoCard : Claim7 := { stood := { row := encodeNamesUptoRow, standIns := [], harness := (true, "90887f9ad70a92e48cccf6d81b261efd14ec3c175a48e80f5382fc1ef1d2b738"), looks := false }, kinds := [], alts := [], laidByText := true, laidKinds := [.sentinel, .data, .widerDeep, .data], laidTests := true, laidLooks := .later }
def EncodeNamesUptoCardSaid : Prop := Claim7.holds Tryz.pinned (.plain (OpenSpec.upto encodeNamesSpec)) encodeNamesUptoCard
end Rows
end Go.Proofs.YtpipccfcpeemfabGreatDoor

/-
  DERIVED. GIVEN WITH THE SEED: THE CARDS: each row of YtghngklehkkecaeGreatDoorRows.lean that lists a variable, with what it lists TIED to the program's text (the seventh form; the later family's looks); each row that meets fmt, with fmt's text TOLD by the authors' own Lean function (tested against real Go, not proved from fmt's source: count such statements apart). THE CARD IS WHAT COUNTS. Prove the row's statement (the work); the ties are given (YtghngklehkkecaeGreatDoorTie.lean); close each card by the builder's one call (the guide's Derived/Test/ToyasCard.lean, 'card_holds'). Laid BY PROGRAM, IN A SANDBOX (cutbox-door.mjs). By AI agents, Wed Nov 11 2026. No macro, syntax, notation, axiom, sorry.
-/
import Derived.Test.YtghngklehkkecaeGreatDoorRows
import GoSem.ClaimSeven
namespace Go.Proofs.YtghngklehkkecaeGreatDoor
namespace Rows

/-- THE TIED CARD OF 'cadenzalaw36.PushencSticks'. -/
def pushencSticksCard : Claim7 := { stood := { row := pushencSticksRow, standIns := [], harness := (true, "7738d53f6dbd26997c3bd87b90d175f425eb5ad50f41334625e52f6f223735b9"), looks := false }, kinds := [], alts := [], laidByText := true, laidKinds := [.data], laidTests := true, laidLooks := .later }
def PushencSticksCardSaid : Prop := Claim7.holds Tryz.pinned (.plain (OpenSpec.ofChange pushencSticksSpec)) pushencSticksCard

/-- THE SECOND FORM's CARD OF 'cadenzalaw36.PushencSticks'. -/
def pushencSticksUptoCard : Claim7 := { stood := { row := pushencSticksUptoRow, standIns := [], harness := (true, "7738d53f6dbd26997c3bd87b90d175f425eb5ad50f41334625e52f6f223735b9"), looks := false }, kinds := [], alts := [], laidByText := true, laidKinds := [.data], laidTests := true, laidLooks := .later }
def PushencSticksUptoCardSaid : Prop := Claim7.holds Tryz.pinned (.plain (OpenSpec.upto pushencSticksSpec)) pushencSticksUptoCard
end Rows
end Go.Proofs.YtghngklehkkecaeGreatDoor

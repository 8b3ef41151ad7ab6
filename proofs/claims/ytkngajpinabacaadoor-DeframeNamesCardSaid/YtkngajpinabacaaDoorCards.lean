/-
  DERIVED. GIVEN WITH THE SEED: THE CARDS: each row of YtkngajpinabacaaDoorRows.lean that lists a variable, with what it lists TIED to the program's text (the seventh form; the later family's looks); each row that meets fmt, with fmt's text TOLD by the authors' own Lean function (tested against real Go, not proved from fmt's source: count such statements apart). THE CARD IS WHAT COUNTS. Prove the row's statement (the work); the ties are given (YtkngajpinabacaaDoorTie.lean); close each card by the builder's one call (the guide's Derived/Test/ToyasCard.lean, 'card_holds'). Laid BY PROGRAM, IN A SANDBOX (cutbox-door.mjs). By AI agents, Wed Nov 11 2026. No macro, syntax, notation, axiom, sorry.
-/
import Derived.Test.YtkngajpinabacaaDoorRows
import GoSem.ClaimSeven
namespace Go.Proofs.YtkngajpinabacaaDoor
namespace Rows

/-- THE TIED CARD OF 'cadenzalaw21.DeframeDecodes'. -/
def deframeDecodesCard : Claim7 := { stood := { row := deframeDecodesRow, standIns := [], harness := (true, "c02e30db045fbaae7133e8d8451fa5b8ecf79198cd8da3debd1b7345cd7c3d46"), looks := false }, kinds := [], alts := [], laidByText := true, laidKinds := [.data], laidTests := true, laidLooks := .later }
def DeframeDecodesCardSaid : Prop := Claim7.holds Tryd.pinned (.plain (OpenSpec.ofChange deframeDecodesSpec)) deframeDecodesCard

/-- THE TIED CARD OF 'cadenzalaw21.DeframeNames'. -/
def deframeNamesCard : Claim7 := { stood := { row := deframeNamesRow, standIns := [], harness := (true, "c02e30db045fbaae7133e8d8451fa5b8ecf79198cd8da3debd1b7345cd7c3d46"), looks := false }, kinds := [], alts := [], laidByText := true, laidKinds := [.data], laidTests := true, laidLooks := .later }
def DeframeNamesCardSaid : Prop := Claim7.holds Tryd.pinned (.plain (OpenSpec.ofChange deframeNamesSpec)) deframeNamesCard

/-- THE TIED CARD OF 'cadenzalaw21.DeframeParts'. -/
def deframePartsCard : Claim7 := { stood := { row := deframePartsRow, standIns := [], harness := (true, "c02e30db045fbaae7133e8d8451fa5b8ecf79198cd8da3debd1b7345cd7c3d46"), looks := false }, kinds := [], alts := [], laidByText := true, laidKinds := [.data], laidTests := true, laidLooks := .later }
def DeframePartsCardSaid : Prop := Claim7.holds Tryd.pinned (.plain (OpenSpec.ofChange deframePartsSpec)) deframePartsCard

/-- THE TIED CARD OF 'cadenzalaw23.VerdictNames'. -/
def verdictNamesCard : Claim7 := { stood := { row := verdictNamesRow, standIns := [], harness := (true, "c02e30db045fbaae7133e8d8451fa5b8ecf79198cd8da3debd1b7345cd7c3d46"), looks := false }, kinds := [], alts := [], laidByText := true, laidKinds := [.data], laidTests := true, laidLooks := .later }
def VerdictNamesCardSaid : Prop := Claim7.holds Tryd.pinned (.plain (OpenSpec.ofChange verdictNamesSpec)) verdictNamesCard

/-- THE SECOND FORM's CARD OF 'cadenzalaw21.DeframeDecodes'. -/
def deframeDecodesUptoCard : Claim7 := { stood := { row := deframeDecodesUptoRow, standIns := [], harness := (true, "c02e30db045fbaae7133e8d8451fa5b8ecf79198cd8da3debd1b7345cd7c3d46"), looks := false }, kinds := [], alts := [], laidByText := true, laidKinds := [.data], laidTests := true, laidLooks := .later }
def DeframeDecodesUptoCardSaid : Prop := Claim7.holds Tryd.pinned (.plain (OpenSpec.upto deframeDecodesSpec)) deframeDecodesUptoCard

/-- THE SECOND FORM's CARD OF 'cadenzalaw21.DeframeNames'. -/
def deframeNamesUptoCard : Claim7 := { stood := { row := deframeNamesUptoRow, standIns := [], harness := (true, "c02e30db045fbaae7133e8d8451fa5b8ecf79198cd8da3debd1b7345cd7c3d46"), looks := false }, kinds := [], alts := [], laidByText := true, laidKinds := [.data], laidTests := true, laidLooks := .later }
def DeframeNamesUptoCardSaid : Prop := Claim7.holds Tryd.pinned (.plain (OpenSpec.upto deframeNamesSpec)) deframeNamesUptoCard

/-- THE SECOND FORM's CARD OF 'cadenzalaw21.DeframeParts'. -/
def deframePartsUptoCard : Claim7 := { stood := { row := deframePartsUptoRow, standIns := [], harness := (true, "c02e30db045fbaae7133e8d8451fa5b8ecf79198cd8da3debd1b7345cd7c3d46"), looks := false }, kinds := [], alts := [], laidByText := true, laidKinds := [.data], laidTests := true, laidLooks := .later }
def DeframePartsUptoCardSaid : Prop := Claim7.holds Tryd.pinned (.plain (OpenSpec.upto deframePartsSpec)) deframePartsUptoCard

/-- THE SECOND FORM's CARD OF 'cadenzalaw23.VerdictNames'. -/
def verdictNamesUptoCard : Claim7 := { stood := { row := verdictNamesUptoRow, standIns := [], harness := (true, "c02e30db045fbaae7133e8d8451fa5b8ecf79198cd8da3debd1b7345cd7c3d46"), looks := false }, kinds := [], alts := [], laidByText := true, laidKinds := [.data], laidTests := true, laidLooks := .later }
def VerdictNamesUptoCardSaid : Prop := Claim7.holds Tryd.pinned (.plain (OpenSpec.upto verdictNamesSpec)) verdictNamesUptoCard
end Rows
end Go.Proofs.YtkngajpinabacaaDoor

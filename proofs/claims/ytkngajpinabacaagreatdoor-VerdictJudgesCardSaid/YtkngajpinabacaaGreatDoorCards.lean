/-
  DERIVED. GIVEN WITH THE SEED: THE CARDS: each row of YtkngajpinabacaaGreatDoorRows.lean that lists a variable, with what it lists TIED to the program's text (the seventh form; the later family's looks); each row that meets fmt, with fmt's text TOLD by the authors' own Lean function (tested against real Go, not proved from fmt's source: count such statements apart). THE CARD IS WHAT COUNTS. Prove the row's statement (the work); the ties are given (YtkngajpinabacaaGreatDoorTie.lean); close each card by the builder's one call (the guide's Derived/Test/ToyasCard.lean, 'card_holds'). Laid BY PROGRAM, IN A SANDBOX (cutbox-door.mjs). By AI agents, Wed Nov 11 2026. No macro, syntax, notation, axiom, sorry.
-/
import Derived.Test.YtkngajpinabacaaGreatDoorRows
import GoSem.ClaimSeven
namespace Go.Proofs.YtkngajpinabacaaGreatDoor
namespace Rows

/-- THE TIED CARD OF 'cadenzalaw23.VerdictHeals'. -/
def verdictHealsCard : Claim7 := { stood := { row := verdictHealsRow, standIns := [], harness := (true, "e6b9db09d888ddb46c74b23c7356443c25e9a2a02269644a14f22ce4b1a96b90"), looks := false }, kinds := [], alts := [], laidByText := true, laidKinds := [.data], laidTests := true, laidLooks := .later }
def VerdictHealsCardSaid : Prop := Claim7.holds Tryz.pinned (.plain (OpenSpec.ofChange verdictHealsSpec)) verdictHealsCard

/-- THE TIED CARD OF 'cadenzalaw23.VerdictJudges'. -/
def verdictJudgesCard : Claim7 := { stood := { row := verdictJudgesRow, standIns := [], harness := (true, "e6b9db09d888ddb46c74b23c7356443c25e9a2a02269644a14f22ce4b1a96b90"), looks := false }, kinds := [], alts := [], laidByText := true, laidKinds := [.data], laidTests := true, laidLooks := .later }
def VerdictJudgesCardSaid : Prop := Claim7.holds Tryz.pinned (.plain (OpenSpec.ofChange verdictJudgesSpec)) verdictJudgesCard

/-- THE SECOND FORM's CARD OF 'cadenzalaw23.VerdictHeals'. -/
def verdictHealsUptoCard : Claim7 := { stood := { row := verdictHealsUptoRow, standIns := [], harness := (true, "e6b9db09d888ddb46c74b23c7356443c25e9a2a02269644a14f22ce4b1a96b90"), looks := false }, kinds := [], alts := [], laidByText := true, laidKinds := [.data], laidTests := true, laidLooks := .later }
def VerdictHealsUptoCardSaid : Prop := Claim7.holds Tryz.pinned (.plain (OpenSpec.upto verdictHealsSpec)) verdictHealsUptoCard

/-- THE SECOND FORM's CARD OF 'cadenzalaw23.VerdictJudges'. -/
def verdictJudgesUptoCard : Claim7 := { stood := { row := verdictJudgesUptoRow, standIns := [], harness := (true, "e6b9db09d888ddb46c74b23c7356443c25e9a2a02269644a14f22ce4b1a96b90"), looks := false }, kinds := [], alts := [], laidByText := true, laidKinds := [.data], laidTests := true, laidLooks := .later }
def VerdictJudgesUptoCardSaid : Prop := Claim7.holds Tryz.pinned (.plain (OpenSpec.upto verdictJudgesSpec)) verdictJudgesUptoCard
end Rows
end Go.Proofs.YtkngajpinabacaaGreatDoor

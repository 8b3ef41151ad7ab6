/-
  DERIVED. GIVEN WITH THE SEED: THE CARDS: each row of YtdbcblibhbhckaaDoorRows.lean that lists a variable, with what it lists TIED to the program's text (the seventh form; the later family's looks); each row that meets fmt, with fmt's text TOLD by the authors' own Lean function (tested against real Go, not proved from fmt's source: count such statements apart). THE CARD IS WHAT COUNTS. Prove the row's statement (the work); the ties are given (YtdbcblibhbhckaaDoorTie.lean); close each card by the builder's one call (the guide's Derived/Test/ToyasCard.lean, 'card_holds'). Laid BY PROGRAM, IN A SANDBOX (cutbox-door.mjs). By AI agents, Wed Nov 11 2026. No macro, syntax, notation, axiom, sorry.
-/
import Derived.Test.YtdbcblibhbhckaaDoorRows
import GoSem.ClaimSeven
namespace Go.Proofs.YtdbcblibhbhckaaDoor
namespace Rows

/-- THE TIED CARD OF 'cadenzalaw23.VerdictSays'. -/
def verdictSaysCard : Claim7 := { stood := { row := verdictSaysRow, standIns := [], harness := (true, "90d9637b9413c1bebd8b52b6e91834495fee7b92fb6f337f8f9ffd2389f05acc"), looks := false }, kinds := [], alts := [], laidByText := true, laidKinds := [.data], laidTests := true, laidLooks := .later }
def VerdictSaysCardSaid : Prop := Claim7.holds Tryd.pinned (.plain (OpenSpec.ofChange verdictSaysSpec)) verdictSaysCard

/-- THE TIED CARD OF 'cadenzalaw21.DeframeBack'. -/
def deframeBackCard : Claim7 := { stood := { row := deframeBackRow, standIns := [], harness := (true, "90d9637b9413c1bebd8b52b6e91834495fee7b92fb6f337f8f9ffd2389f05acc"), looks := false }, kinds := [], alts := [], laidByText := true, laidKinds := [.data], laidTests := true, laidLooks := .later }
def DeframeBackCardSaid : Prop := Claim7.holds Tryd.pinned (.plain (OpenSpec.ofChange deframeBackSpec)) deframeBackCard

/-- THE TIED CARD OF 'cadenzalaw21.DeframeOnly'. -/
def deframeOnlyCard : Claim7 := { stood := { row := deframeOnlyRow, standIns := [], harness := (true, "90d9637b9413c1bebd8b52b6e91834495fee7b92fb6f337f8f9ffd2389f05acc"), looks := false }, kinds := [], alts := [], laidByText := true, laidKinds := [.data], laidTests := true, laidLooks := .later }
def DeframeOnlyCardSaid : Prop := Claim7.holds Tryd.pinned (.plain (OpenSpec.ofChange deframeOnlySpec)) deframeOnlyCard

/-- THE TIED CARD OF 'cadenzalaw21.DeframeSpoilt'. -/
def deframeSpoiltCard : Claim7 := { stood := { row := deframeSpoiltRow, standIns := [], harness := (true, "90d9637b9413c1bebd8b52b6e91834495fee7b92fb6f337f8f9ffd2389f05acc"), looks := false }, kinds := [], alts := [], laidByText := true, laidKinds := [.data], laidTests := true, laidLooks := .later }
def DeframeSpoiltCardSaid : Prop := Claim7.holds Tryd.pinned (.plain (OpenSpec.ofChange deframeSpoiltSpec)) deframeSpoiltCard

/-- THE TIED CARD OF 'cadenzalaw23.VerdictFewer'. -/
def verdictFewerCard : Claim7 := { stood := { row := verdictFewerRow, standIns := [], harness := (true, "90d9637b9413c1bebd8b52b6e91834495fee7b92fb6f337f8f9ffd2389f05acc"), looks := false }, kinds := [], alts := [], laidByText := true, laidKinds := [.data], laidTests := true, laidLooks := .later }
def VerdictFewerCardSaid : Prop := Claim7.holds Tryd.pinned (.plain (OpenSpec.ofChange verdictFewerSpec)) verdictFewerCard

/-- THE TIED CARD OF 'cadenzalaw23.VerdictLost'. -/
def verdictLostCard : Claim7 := { stood := { row := verdictLostRow, standIns := [], harness := (true, "90d9637b9413c1bebd8b52b6e91834495fee7b92fb6f337f8f9ffd2389f05acc"), looks := false }, kinds := [], alts := [], laidByText := true, laidKinds := [.data], laidTests := true, laidLooks := .later }
def VerdictLostCardSaid : Prop := Claim7.holds Tryd.pinned (.plain (OpenSpec.ofChange verdictLostSpec)) verdictLostCard

/-- THE TIED CARD OF 'cadenzalaw23.VerdictBursts'. -/
def verdictBurstsCard : Claim7 := { stood := { row := verdictBurstsRow, standIns := [], harness := (true, "90d9637b9413c1bebd8b52b6e91834495fee7b92fb6f337f8f9ffd2389f05acc"), looks := false }, kinds := [], alts := [], laidByText := true, laidKinds := [.data], laidTests := true, laidLooks := .later }
def VerdictBurstsCardSaid : Prop := Claim7.holds Tryd.pinned (.plain (OpenSpec.ofChange verdictBurstsSpec)) verdictBurstsCard

/-- THE SECOND FORM's CARD OF 'cadenzalaw23.VerdictSays'. -/
def verdictSaysUptoCard : Claim7 := { stood := { row := verdictSaysUptoRow, standIns := [], harness := (true, "90d9637b9413c1bebd8b52b6e91834495fee7b92fb6f337f8f9ffd2389f05acc"), looks := false }, kinds := [], alts := [], laidByText := true, laidKinds := [.data], laidTests := true, laidLooks := .later }
def VerdictSaysUptoCardSaid : Prop := Claim7.holds Tryd.pinned (.plain (OpenSpec.upto verdictSaysSpec)) verdictSaysUptoCard

/-- THE SECOND FORM's CARD OF 'cadenzalaw21.DeframeBack'. -/
def deframeBackUptoCard : Claim7 := { stood := { row := deframeBackUptoRow, standIns := [], harness := (true, "90d9637b9413c1bebd8b52b6e91834495fee7b92fb6f337f8f9ffd2389f05acc"), looks := false }, kinds := [], alts := [], laidByText := true, laidKinds := [.data], laidTests := true, laidLooks := .later }
def DeframeBackUptoCardSaid : Prop := Claim7.holds Tryd.pinned (.plain (OpenSpec.upto deframeBackSpec)) deframeBackUptoCard

/-- THE SECOND FORM's CARD OF 'cadenzalaw21.DeframeOnly'. -/
def deframeOnlyUptoCard : Claim7 := { stood := { row := deframeOnlyUptoRow, standIns := [], harness := (true, "90d9637b9413c1bebd8b52b6e91834495fee7b92fb6f337f8f9ffd2389f05acc"), looks := false }, kinds := [], alts := [], laidByText := true, laidKinds := [.data], laidTests := true, laidLooks := .later }
def DeframeOnlyUptoCardSaid : Prop := Claim7.holds Tryd.pinned (.plain (OpenSpec.upto deframeOnlySpec)) deframeOnlyUptoCard

/-- THE SECOND FORM's CARD OF 'cadenzalaw21.DeframeSpoilt'. -/
def deframeSpoiltUptoCard : Claim7 := { stood := { row := deframeSpoiltUptoRow, standIns := [], harness := (true, "90d9637b9413c1bebd8b52b6e91834495fee7b92fb6f337f8f9ffd2389f05acc"), looks := false }, kinds := [], alts := [], laidByText := true, laidKinds := [.data], laidTests := true, laidLooks := .later }
def DeframeSpoiltUptoCardSaid : Prop := Claim7.holds Tryd.pinned (.plain (OpenSpec.upto deframeSpoiltSpec)) deframeSpoiltUptoCard

/-- THE SECOND FORM's CARD OF 'cadenzalaw23.VerdictFewer'. -/
def verdictFewerUptoCard : Claim7 := { stood := { row := verdictFewerUptoRow, standIns := [], harness := (true, "90d9637b9413c1bebd8b52b6e91834495fee7b92fb6f337f8f9ffd2389f05acc"), looks := false }, kinds := [], alts := [], laidByText := true, laidKinds := [.data], laidTests := true, laidLooks := .later }
def VerdictFewerUptoCardSaid : Prop := Claim7.holds Tryd.pinned (.plain (OpenSpec.upto verdictFewerSpec)) verdictFewerUptoCard

/-- THE SECOND FORM's CARD OF 'cadenzalaw23.VerdictLost'. -/
def verdictLostUptoCard : Claim7 := { stood := { row := verdictLostUptoRow, standIns := [], harness := (true, "90d9637b9413c1bebd8b52b6e91834495fee7b92fb6f337f8f9ffd2389f05acc"), looks := false }, kinds := [], alts := [], laidByText := true, laidKinds := [.data], laidTests := true, laidLooks := .later }
def VerdictLostUptoCardSaid : Prop := Claim7.holds Tryd.pinned (.plain (OpenSpec.upto verdictLostSpec)) verdictLostUptoCard

/-- THE SECOND FORM's CARD OF 'cadenzalaw23.VerdictBursts'. -/
def verdictBurstsUptoCard : Claim7 := { stood := { row := verdictBurstsUptoRow, standIns := [], harness := (true, "90d9637b9413c1bebd8b52b6e91834495fee7b92fb6f337f8f9ffd2389f05acc"), looks := false }, kinds := [], alts := [], laidByText := true, laidKinds := [.data], laidTests := true, laidLooks := .later }
def VerdictBurstsUptoCardSaid : Prop := Claim7.holds Tryd.pinned (.plain (OpenSpec.upto verdictBurstsSpec)) verdictBurstsUptoCard
end Rows
end Go.Proofs.YtdbcblibhbhckaaDoor

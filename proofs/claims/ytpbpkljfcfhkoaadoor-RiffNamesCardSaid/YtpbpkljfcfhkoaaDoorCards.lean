/-
  DERIVED. GIVEN WITH THE SEED: THE CARDS: each row of YtpbpkljfcfhkoaaDoorRows.lean that lists a variable, with what it lists TIED to the program's text (the seventh form; the later family's looks); each row that meets fmt, with fmt's text TOLD by the authors' own Lean function (tested against real Go, not proved from fmt's source: count such statements apart). THE CARD IS WHAT COUNTS. Prove the row's statement (the work); the ties are given (YtpbpkljfcfhkoaaDoorTie.lean); close each card by the builder's one call (the guide's Derived/Test/ToyasCard.lean, 'card_holds'). Laid BY PROGRAM, IN A SANDBOX (cutbox-door.mjs). By AI agents, Wed Nov 11 2026. No macro, syntax, notation, axiom, sorry.
-/
import Derived.Test.YtpbpkljfcfhkoaaDoorRows
import GoSem.ClaimSeven
namespace Go.Proofs.YtpbpkljfcfhkoaaDoor
namespace Rows

/-- THE TIED CARD OF 'cadenzalaw31.RiffWrites'. -/
def riffWritesCard : Claim7 := { stood := { row := riffWritesRow, standIns := [], harness := (true, "e1607a0935e044d5e91fa717110783c103f81e01909bc1c5fcb890b517ef0e02"), looks := false }, kinds := [], alts := [], laidByText := true, laidKinds := [.sentinel], laidTests := true, laidLooks := .later }
def RiffWritesCardSaid : Prop := Claim7.holds Tryd.pinned (.plain (OpenSpec.ofChange riffWritesSpec)) riffWritesCard

/-- THE TIED CARD OF 'cadenzalaw31.RiffBack'. -/
def riffBackCard : Claim7 := { stood := { row := riffBackRow, standIns := [], harness := (true, "e1607a0935e044d5e91fa717110783c103f81e01909bc1c5fcb890b517ef0e02"), looks := false }, kinds := [], alts := [], laidByText := true, laidKinds := [.sentinel], laidTests := true, laidLooks := .later }
def RiffBackCardSaid : Prop := Claim7.holds Tryd.pinned (.plain (OpenSpec.ofChange riffBackSpec)) riffBackCard

/-- THE TIED CARD OF 'cadenzalaw31.RiffAgain'. -/
def riffAgainCard : Claim7 := { stood := { row := riffAgainRow, standIns := [], harness := (true, "e1607a0935e044d5e91fa717110783c103f81e01909bc1c5fcb890b517ef0e02"), looks := false }, kinds := [], alts := [], laidByText := true, laidKinds := [.sentinel], laidTests := true, laidLooks := .later }
def RiffAgainCardSaid : Prop := Claim7.holds Tryd.pinned (.plain (OpenSpec.ofChange riffAgainSpec)) riffAgainCard

/-- THE TIED CARD OF 'cadenzalaw31.RiffNames'. -/
def riffNamesCard : Claim7 := { stood := { row := riffNamesRow, standIns := [], harness := (true, "e1607a0935e044d5e91fa717110783c103f81e01909bc1c5fcb890b517ef0e02"), looks := false }, kinds := [], alts := [], laidByText := true, laidKinds := [.sentinel], laidTests := true, laidLooks := .later }
def RiffNamesCardSaid : Prop := Claim7.holds Tryd.pinned (.plain (OpenSpec.ofChange riffNamesSpec)) riffNamesCard

/-- THE TIED CARD OF 'cadenzalaw31.RiffFind'. -/
def riffFindCard : Claim7 := { stood := { row := riffFindRow, standIns := [], harness := (true, "e1607a0935e044d5e91fa717110783c103f81e01909bc1c5fcb890b517ef0e02"), looks := false }, kinds := [], alts := [], laidByText := true, laidKinds := [.sentinel], laidTests := true, laidLooks := .later }
def RiffFindCardSaid : Prop := Claim7.holds Tryd.pinned (.plain (OpenSpec.ofChange riffFindSpec)) riffFindCard

/-- THE SECOND FORM's CARD OF 'cadenzalaw31.RiffWrites'. -/
def riffWritesUptoCard : Claim7 := { stood := { row := riffWritesUptoRow, standIns := [], harness := (true, "e1607a0935e044d5e91fa717110783c103f81e01909bc1c5fcb890b517ef0e02"), looks := false }, kinds := [], alts := [], laidByText := true, laidKinds := [.sentinel], laidTests := true, laidLooks := .later }
def RiffWritesUptoCardSaid : Prop := Claim7.holds Tryd.pinned (.plain (OpenSpec.upto riffWritesSpec)) riffWritesUptoCard

/-- THE SECOND FORM's CARD OF 'cadenzalaw31.RiffBack'. -/
def riffBackUptoCard : Claim7 := { stood := { row := riffBackUptoRow, standIns := [], harness := (true, "e1607a0935e044d5e91fa717110783c103f81e01909bc1c5fcb890b517ef0e02"), looks := false }, kinds := [], alts := [], laidByText := true, laidKinds := [.sentinel], laidTests := true, laidLooks := .later }
def RiffBackUptoCardSaid : Prop := Claim7.holds Tryd.pinned (.plain (OpenSpec.upto riffBackSpec)) riffBackUptoCard

/-- THE SECOND FORM's CARD OF 'cadenzalaw31.RiffAgain'. -/
def riffAgainUptoCard : Claim7 := { stood := { row := riffAgainUptoRow, standIns := [], harness := (true, "e1607a0935e044d5e91fa717110783c103f81e01909bc1c5fcb890b517ef0e02"), looks := false }, kinds := [], alts := [], laidByText := true, laidKinds := [.sentinel], laidTests := true, laidLooks := .later }
def RiffAgainUptoCardSaid : Prop := Claim7.holds Tryd.pinned (.plain (OpenSpec.upto riffAgainSpec)) riffAgainUptoCard

/-- THE SECOND FORM's CARD OF 'cadenzalaw31.RiffNames'. -/
def riffNamesUptoCard : Claim7 := { stood := { row := riffNamesUptoRow, standIns := [], harness := (true, "e1607a0935e044d5e91fa717110783c103f81e01909bc1c5fcb890b517ef0e02"), looks := false }, kinds := [], alts := [], laidByText := true, laidKinds := [.sentinel], laidTests := true, laidLooks := .later }
def RiffNamesUptoCardSaid : Prop := Claim7.holds Tryd.pinned (.plain (OpenSpec.upto riffNamesSpec)) riffNamesUptoCard

/-- THE SECOND FORM's CARD OF 'cadenzalaw31.RiffFind'. -/
def riffFindUptoCard : Claim7 := { stood := { row := riffFindUptoRow, standIns := [], harness := (true, "e1607a0935e044d5e91fa717110783c103f81e01909bc1c5fcb890b517ef0e02"), looks := false }, kinds := [], alts := [], laidByText := true, laidKinds := [.sentinel], laidTests := true, laidLooks := .later }
def RiffFindUptoCardSaid : Prop := Claim7.holds Tryd.pinned (.plain (OpenSpec.upto riffFindSpec)) riffFindUptoCard
end Rows
end Go.Proofs.YtpbpkljfcfhkoaaDoor

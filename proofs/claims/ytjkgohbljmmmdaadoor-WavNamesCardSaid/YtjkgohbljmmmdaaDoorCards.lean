/-
  DERIVED. GIVEN WITH THE SEED: THE CARDS: each row of YtjkgohbljmmmdaaDoorRows.lean that lists a variable, with what it lists TIED to the program's text (the seventh form; the later family's looks); each row that meets fmt, with fmt's text TOLD by the authors' own Lean function (tested against real Go, not proved from fmt's source: count such statements apart). THE CARD IS WHAT COUNTS. Prove the row's statement (the work); the ties are given (YtjkgohbljmmmdaaDoorTie.lean); close each card by the builder's one call (the guide's Derived/Test/ToyasCard.lean, 'card_holds'). Laid BY PROGRAM, IN A SANDBOX (cutbox-door.mjs). By AI agents, Wed Nov 11 2026. No macro, syntax, notation, axiom, sorry.
-/
import Derived.Test.YtjkgohbljmmmdaaDoorRows
import GoSem.ClaimSeven
namespace Go.Proofs.YtjkgohbljmmmdaaDoor
namespace Rows

/-- THE TIED CARD OF 'cadenzalaw33.WavReads'. -/
def wavReadsCard : Claim7 := { stood := { row := wavReadsRow, standIns := [], harness := (true, "2ae503678ac3bf2ef74ec7276957959041b983bd7b0e6469f53da352d42a9eeb"), looks := false }, kinds := [], alts := [], laidByText := true, laidKinds := [.data, .widerDeep], laidTests := true, laidLooks := .later }
def WavReadsCardSaid : Prop := Claim7.holds Tryd.pinned (.plain (OpenSpec.ofChange wavReadsSpec)) wavReadsCard

/-- THE TIED CARD OF 'cadenzalaw33.WavWrites'. -/
def wavWritesCard : Claim7 := { stood := { row := wavWritesRow, standIns := [], harness := (true, "2ae503678ac3bf2ef74ec7276957959041b983bd7b0e6469f53da352d42a9eeb"), looks := false }, kinds := [], alts := [], laidByText := true, laidKinds := [.sentinel, .data, .widerDeep], laidTests := true, laidLooks := .later }
def WavWritesCardSaid : Prop := Claim7.holds Tryd.pinned (.plain (OpenSpec.ofChange wavWritesSpec)) wavWritesCard

/-- THE TIED CARD OF 'cadenzalaw33.WavChunks'. -/
def wavChunksCard : Claim7 := { stood := { row := wavChunksRow, standIns := [], harness := (true, "2ae503678ac3bf2ef74ec7276957959041b983bd7b0e6469f53da352d42a9eeb"), looks := false }, kinds := [], alts := [], laidByText := true, laidKinds := [.sentinel, .data, .widerDeep], laidTests := true, laidLooks := .later }
def WavChunksCardSaid : Prop := Claim7.holds Tryd.pinned (.plain (OpenSpec.ofChange wavChunksSpec)) wavChunksCard

/-- THE TIED CARD OF 'cadenzalaw33.WavValid'. -/
def wavValidCard : Claim7 := { stood := { row := wavValidRow, standIns := [], harness := (true, "2ae503678ac3bf2ef74ec7276957959041b983bd7b0e6469f53da352d42a9eeb"), looks := false }, kinds := [], alts := [], laidByText := true, laidKinds := [.sentinel, .data, .widerDeep], laidTests := true, laidLooks := .later }
def WavValidCardSaid : Prop := Claim7.holds Tryd.pinned (.plain (OpenSpec.ofChange wavValidSpec)) wavValidCard

/-- THE TIED CARD OF 'cadenzalaw33.WavData'. -/
def wavDataCard : Claim7 := { stood := { row := wavDataRow, standIns := [], harness := (true, "2ae503678ac3bf2ef74ec7276957959041b983bd7b0e6469f53da352d42a9eeb"), looks := false }, kinds := [], alts := [], laidByText := true, laidKinds := [.sentinel, .data, .widerDeep], laidTests := true, laidLooks := .later }
def WavDataCardSaid : Prop := Claim7.holds Tryd.pinned (.plain (OpenSpec.ofChange wavDataSpec)) wavDataCard

/-- THE TIED CARD OF 'cadenzalaw33.WavNames'. -/
def wavNamesCard : Claim7 := { stood := { row := wavNamesRow, standIns := [], harness := (true, "2ae503678ac3bf2ef74ec7276957959041b983bd7b0e6469f53da352d42a9eeb"), looks := false }, kinds := [], alts := [], laidByText := true, laidKinds := [.sentinel, .data, .widerDeep], laidTests := true, laidLooks := .later }
def WavNamesCardSaid : Prop := Claim7.holds Tryd.pinned (.plain (OpenSpec.ofChange wavNamesSpec)) wavNamesCard

/-- THE TIED CARD OF 'cadenzalaw33.WavBack'. -/
def wavBackCard : Claim7 := { stood := { row := wavBackRow, standIns := [], harness := (true, "2ae503678ac3bf2ef74ec7276957959041b983bd7b0e6469f53da352d42a9eeb"), looks := false }, kinds := [], alts := [], laidByText := true, laidKinds := [.sentinel, .data, .widerDeep], laidTests := true, laidLooks := .later }
def WavBackCardSaid : Prop := Claim7.holds Tryd.pinned (.plain (OpenSpec.ofChange wavBackSpec)) wavBackCard

/-- THE SECOND FORM's CARD OF 'cadenzalaw33.WavReads'. -/
def wavReadsUptoCard : Claim7 := { stood := { row := wavReadsUptoRow, standIns := [], harness := (true, "2ae503678ac3bf2ef74ec7276957959041b983bd7b0e6469f53da352d42a9eeb"), looks := false }, kinds := [], alts := [], laidByText := true, laidKinds := [.data, .widerDeep], laidTests := true, laidLooks := .later }
def WavReadsUptoCardSaid : Prop := Claim7.holds Tryd.pinned (.plain (OpenSpec.upto wavReadsSpec)) wavReadsUptoCard

/-- THE SECOND FORM's CARD OF 'cadenzalaw33.WavWrites'. -/
def wavWritesUptoCard : Claim7 := { stood := { row := wavWritesUptoRow, standIns := [], harness := (true, "2ae503678ac3bf2ef74ec7276957959041b983bd7b0e6469f53da352d42a9eeb"), looks := false }, kinds := [], alts := [], laidByText := true, laidKinds := [.sentinel, .data, .widerDeep], laidTests := true, laidLooks := .later }
def WavWritesUptoCardSaid : Prop := Claim7.holds Tryd.pinned (.plain (OpenSpec.upto wavWritesSpec)) wavWritesUptoCard

/-- THE SECOND FORM's CARD OF 'cadenzalaw33.WavChunks'. -/
def wavChunksUptoCard : Claim7 := { stood := { row := wavChunksUptoRow, standIns := [], harness := (true, "2ae503678ac3bf2ef74ec7276957959041b983bd7b0e6469f53da352d42a9eeb"), looks := false }, kinds := [], alts := [], laidByText := true, laidKinds := [.sentinel, .data, .widerDeep], laidTests := true, laidLooks := .later }
def WavChunksUptoCardSaid : Prop := Claim7.holds Tryd.pinned (.plain (OpenSpec.upto wavChunksSpec)) wavChunksUptoCard

/-- THE SECOND FORM's CARD OF 'cadenzalaw33.WavValid'. -/
def wavValidUptoCard : Claim7 := { stood := { row := wavValidUptoRow, standIns := [], harness := (true, "2ae503678ac3bf2ef74ec7276957959041b983bd7b0e6469f53da352d42a9eeb"), looks := false }, kinds := [], alts := [], laidByText := true, laidKinds := [.sentinel, .data, .widerDeep], laidTests := true, laidLooks := .later }
def WavValidUptoCardSaid : Prop := Claim7.holds Tryd.pinned (.plain (OpenSpec.upto wavValidSpec)) wavValidUptoCard

/-- THE SECOND FORM's CARD OF 'cadenzalaw33.WavData'. -/
def wavDataUptoCard : Claim7 := { stood := { row := wavDataUptoRow, standIns := [], harness := (true, "2ae503678ac3bf2ef74ec7276957959041b983bd7b0e6469f53da352d42a9eeb"), looks := false }, kinds := [], alts := [], laidByText := true, laidKinds := [.sentinel, .data, .widerDeep], laidTests := true, laidLooks := .later }
def WavDataUptoCardSaid : Prop := Claim7.holds Tryd.pinned (.plain (OpenSpec.upto wavDataSpec)) wavDataUptoCard

/-- THE SECOND FORM's CARD OF 'cadenzalaw33.WavNames'. -/
def wavNamesUptoCard : Claim7 := { stood := { row := wavNamesUptoRow, standIns := [], harness := (true, "2ae503678ac3bf2ef74ec7276957959041b983bd7b0e6469f53da352d42a9eeb"), looks := false }, kinds := [], alts := [], laidByText := true, laidKinds := [.sentinel, .data, .widerDeep], laidTests := true, laidLooks := .later }
def WavNamesUptoCardSaid : Prop := Claim7.holds Tryd.pinned (.plain (OpenSpec.upto wavNamesSpec)) wavNamesUptoCard

/-- THE SECOND FORM's CARD OF 'cadenzalaw33.WavBack'. -/
def wavBackUptoCard : Claim7 := { stood := { row := wavBackUptoRow, standIns := [], harness := (true, "2ae503678ac3bf2ef74ec7276957959041b983bd7b0e6469f53da352d42a9eeb"), looks := false }, kinds := [], alts := [], laidByText := true, laidKinds := [.sentinel, .data, .widerDeep], laidTests := true, laidLooks := .later }
def WavBackUptoCardSaid : Prop := Claim7.holds Tryd.pinned (.plain (OpenSpec.upto wavBackSpec)) wavBackUptoCard
end Rows
end Go.Proofs.YtjkgohbljmmmdaaDoor

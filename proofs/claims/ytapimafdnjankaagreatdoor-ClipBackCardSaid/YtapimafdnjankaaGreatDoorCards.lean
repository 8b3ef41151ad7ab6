/-
  DERIVED. GIVEN WITH THE SEED: THE CARDS: each row of YtapimafdnjankaaGreatDoorRows.lean that lists a variable, with what it lists TIED to the program's text (the seventh form; the later family's looks); each row that meets fmt, with fmt's text TOLD by the authors' own Lean function (tested against real Go, not proved from fmt's source: count such statements apart). THE CARD IS WHAT COUNTS. Prove the row's statement (the work); the ties are given (YtapimafdnjankaaGreatDoorTie.lean); close each card by the builder's one call (the guide's Derived/Test/ToyasCard.lean, 'card_holds'). Laid BY PROGRAM, IN A SANDBOX (cutbox-door.mjs). By AI agents, Wed Nov 11 2026. No macro, syntax, notation, axiom, sorry.
-/
import Derived.Test.YtapimafdnjankaaGreatDoorRows
import GoSem.ClaimSeven
namespace Go.Proofs.YtapimafdnjankaaGreatDoor
namespace Rows

/-- THE TIED CARD OF 'cadenzatop.TopFrames'. -/
def topFramesCard : Claim7 := { stood := { row := topFramesRow, standIns := [], harness := (true, "fb2f2936fba2e648445e05895cd802f11f65596f71bfe97e4c82189382764020"), looks := false }, kinds := [], alts := [], laidByText := true, laidKinds := [.data], laidTests := true, laidLooks := .later }
def TopFramesCardSaid : Prop := Claim7.holds Tryz.pinned (.plain (OpenSpec.ofChange topFramesSpec)) topFramesCard

/-- THE TIED CARD OF 'cadenzalaw34.EncodeParts'. -/
def encodePartsCard : Claim7 := { stood := { row := encodePartsRow, standIns := [], harness := (true, "fb2f2936fba2e648445e05895cd802f11f65596f71bfe97e4c82189382764020"), looks := false }, kinds := [], alts := [], laidByText := true, laidKinds := [.data], laidTests := true, laidLooks := .later }
def EncodePartsCardSaid : Prop := Claim7.holds Tryz.pinned (.plain (OpenSpec.ofChange encodePartsSpec)) encodePartsCard

/-- THE TIED CARD OF 'cadenzalaw24.ClipOnly'. -/
def clipOnlyCard : Claim7 := { stood := { row := clipOnlyRow, standIns := [], harness := (true, "fb2f2936fba2e648445e05895cd802f11f65596f71bfe97e4c82189382764020"), looks := false }, kinds := [], alts := [], laidByText := true, laidKinds := [.data], laidTests := true, laidLooks := .later }
def ClipOnlyCardSaid : Prop := Claim7.holds Tryz.pinned (.plain (OpenSpec.ofChange clipOnlySpec)) clipOnlyCard

/-- THE TIED CARD OF 'cadenzalaw24.ClipNames'. -/
def clipNamesCard : Claim7 := { stood := { row := clipNamesRow, standIns := [], harness := (true, "fb2f2936fba2e648445e05895cd802f11f65596f71bfe97e4c82189382764020"), looks := false }, kinds := [], alts := [], laidByText := true, laidKinds := [.data], laidTests := true, laidLooks := .later }
def ClipNamesCardSaid : Prop := Claim7.holds Tryz.pinned (.plain (OpenSpec.ofChange clipNamesSpec)) clipNamesCard

/-- THE TIED CARD OF 'cadenzalaw24.ClipBack'. -/
def clipBackCard : Claim7 := { stood := { row := clipBackRow, standIns := [], harness := (true, "fb2f2936fba2e648445e05895cd802f11f65596f71bfe97e4c82189382764020"), looks := false }, kinds := [], alts := [], laidByText := true, laidKinds := [.data], laidTests := true, laidLooks := .later }
def ClipBackCardSaid : Prop := Claim7.holds Tryz.pinned (.plain (OpenSpec.ofChange clipBackSpec)) clipBackCard

/-- THE TIED CARD OF 'cadenzalaw34.EncodeWavs'. -/
def encodeWavsCard : Claim7 := { stood := { row := encodeWavsRow, standIns := [], harness := (true, "fb2f2936fba2e648445e05895cd802f11f65596f71bfe97e4c82189382764020"), looks := false }, kinds := [], alts := [], laidByText := true, laidKinds := [.data, .widerDeep, .data], laidTests := true, laidLooks := .later }
def EncodeWavsCardSaid : Prop := Claim7.holds Tryz.pinned (.plain (OpenSpec.ofChange encodeWavsSpec)) encodeWavsCard

/-- THE TIED CARD OF 'cadenzalaw36.PushencNames'. -/
def pushencNamesCard : Claim7 := { stood := { row := pushencNamesRow, standIns := [], harness := (true, "fb2f2936fba2e648445e05895cd802f11f65596f71bfe97e4c82189382764020"), looks := false }, kinds := [], alts := [], laidByText := true, laidKinds := [.data], laidTests := true, laidLooks := .later }
def PushencNamesCardSaid : Prop := Claim7.holds Tryz.pinned (.plain (OpenSpec.ofChange pushencNamesSpec)) pushencNamesCard

/-- THE TIED CARD OF 'cadenzalaw36.PushencPieces'. -/
def pushencPiecesCard : Claim7 := { stood := { row := pushencPiecesRow, standIns := [], harness := (true, "fb2f2936fba2e648445e05895cd802f11f65596f71bfe97e4c82189382764020"), looks := false }, kinds := [], alts := [], laidByText := true, laidKinds := [.data], laidTests := true, laidLooks := .later }
def PushencPiecesCardSaid : Prop := Claim7.holds Tryz.pinned (.plain (OpenSpec.ofChange pushencPiecesSpec)) pushencPiecesCard

/-- THE TIED CARD OF 'cadenzalaw36.PushencFile'. -/
def pushencFileCard : Claim7 := { stood := { row := pushencFileRow, standIns := [], harness := (true, "fb2f2936fba2e648445e05895cd802f11f65596f71bfe97e4c82189382764020"), looks := false }, kinds := [], alts := [], laidByText := true, laidKinds := [.data], laidTests := true, laidLooks := .later }
def PushencFileCardSaid : Prop := Claim7.holds Tryz.pinned (.plain (OpenSpec.ofChange pushencFileSpec)) pushencFileCard

/-- THE TIED CARD OF 'cadenzalaw36.PushencSticks'. -/
def pushencSticksCard : Claim7 := { stood := { row := pushencSticksRow, standIns := [], harness := (true, "fb2f2936fba2e648445e05895cd802f11f65596f71bfe97e4c82189382764020"), looks := false }, kinds := [], alts := [], laidByText := true, laidKinds := [.data], laidTests := true, laidLooks := .later }
def PushencSticksCardSaid : Prop := Claim7.holds Tryz.pinned (.plain (OpenSpec.ofChange pushencSticksSpec)) pushencSticksCard

/-- THE TIED CARD OF 'cadenzalaw34.EncodeNames'. -/
def encodeNamesCard : Claim7 := { stood := { row := encodeNamesRow, standIns := [], harness := (true, "fb2f2936fba2e648445e05895cd802f11f65596f71bfe97e4c82189382764020"), looks := false }, kinds := [], alts := [], laidByText := true, laidKinds := [.sentinel, .data, .widerDeep, .data], laidTests := true, laidLooks := .later }
def EncodeNamesCardSaid : Prop := Claim7.holds Tryz.pinned (.plain (OpenSpec.ofChange encodeNamesSpec)) encodeNamesCard

/-- THE TIED CARD OF 'cadenzalaw34.EncodeSame'. -/
def encodeSameCard : Claim7 := { stood := { row := encodeSameRow, standIns := [], harness := (true, "fb2f2936fba2e648445e05895cd802f11f65596f71bfe97e4c82189382764020"), looks := false }, kinds := [], alts := [], laidByText := true, laidKinds := [.sentinel, .data, .widerDeep, .data], laidTests := true, laidLooks := .later }
def EncodeSameCardSaid : Prop := Claim7.holds Tryz.pinned (.plain (OpenSpec.ofChange encodeSameSpec)) encodeSameCard

/-- THE SECOND FORM's CARD OF 'cadenzatop.TopFrames'. -/
def topFramesUptoCard : Claim7 := { stood := { row := topFramesUptoRow, standIns := [], harness := (true, "fb2f2936fba2e648445e05895cd802f11f65596f71bfe97e4c82189382764020"), looks := false }, kinds := [], alts := [], laidByText := true, laidKinds := [.data], laidTests := true, laidLooks := .later }
def TopFramesUptoCardSaid : Prop := Claim7.holds Tryz.pinned (.plain (OpenSpec.upto topFramesSpec)) topFramesUptoCard

/-- THE SECOND FORM's CARD OF 'cadenzalaw34.EncodeParts'. -/
def encodePartsUptoCard : Claim7 := { stood := { row := encodePartsUptoRow, standIns := [], harness := (true, "fb2f2936fba2e648445e05895cd802f11f65596f71bfe97e4c82189382764020"), looks := false }, kinds := [], alts := [], laidByText := true, laidKinds := [.data], laidTests := true, laidLooks := .later }
def EncodePartsUptoCardSaid : Prop := Claim7.holds Tryz.pinned (.plain (OpenSpec.upto encodePartsSpec)) encodePartsUptoCard

/-- THE SECOND FORM's CARD OF 'cadenzalaw24.ClipOnly'. -/
def clipOnlyUptoCard : Claim7 := { stood := { row := clipOnlyUptoRow, standIns := [], harness := (true, "fb2f2936fba2e648445e05895cd802f11f65596f71bfe97e4c82189382764020"), looks := false }, kinds := [], alts := [], laidByText := true, laidKinds := [.data], laidTests := true, laidLooks := .later }
def ClipOnlyUptoCardSaid : Prop := Claim7.holds Tryz.pinned (.plain (OpenSpec.upto clipOnlySpec)) clipOnlyUptoCard

/-- THE SECOND FORM's CARD OF 'cadenzalaw24.ClipNames'. -/
def clipNamesUptoCard : Claim7 := { stood := { row := clipNamesUptoRow, standIns := [], harness := (true, "fb2f2936fba2e648445e05895cd802f11f65596f71bfe97e4c82189382764020"), looks := false }, kinds := [], alts := [], laidByText := true, laidKinds := [.data], laidTests := true, laidLooks := .later }
def ClipNamesUptoCardSaid : Prop := Claim7.holds Tryz.pinned (.plain (OpenSpec.upto clipNamesSpec)) clipNamesUptoCard

/-- THE SECOND FORM's CARD OF 'cadenzalaw24.ClipBack'. -/
def clipBackUptoCard : Claim7 := { stood := { row := clipBackUptoRow, standIns := [], harness := (true, "fb2f2936fba2e648445e05895cd802f11f65596f71bfe97e4c82189382764020"), looks := false }, kinds := [], alts := [], laidByText := true, laidKinds := [.data], laidTests := true, laidLooks := .later }
def ClipBackUptoCardSaid : Prop := Claim7.holds Tryz.pinned (.plain (OpenSpec.upto clipBackSpec)) clipBackUptoCard

/-- THE SECOND FORM's CARD OF 'cadenzalaw34.EncodeWavs'. -/
def encodeWavsUptoCard : Claim7 := { stood := { row := encodeWavsUptoRow, standIns := [], harness := (true, "fb2f2936fba2e648445e05895cd802f11f65596f71bfe97e4c82189382764020"), looks := false }, kinds := [], alts := [], laidByText := true, laidKinds := [.data, .widerDeep, .data], laidTests := true, laidLooks := .later }
def EncodeWavsUptoCardSaid : Prop := Claim7.holds Tryz.pinned (.plain (OpenSpec.upto encodeWavsSpec)) encodeWavsUptoCard

/-- THE SECOND FORM's CARD OF 'cadenzalaw36.PushencNames'. -/
def pushencNamesUptoCard : Claim7 := { stood := { row := pushencNamesUptoRow, standIns := [], harness := (true, "fb2f2936fba2e648445e05895cd802f11f65596f71bfe97e4c82189382764020"), looks := false }, kinds := [], alts := [], laidByText := true, laidKinds := [.data], laidTests := true, laidLooks := .later }
def PushencNamesUptoCardSaid : Prop := Claim7.holds Tryz.pinned (.plain (OpenSpec.upto pushencNamesSpec)) pushencNamesUptoCard

/-- THE SECOND FORM's CARD OF 'cadenzalaw36.PushencPieces'. -/
def pushencPiecesUptoCard : Claim7 := { stood := { row := pushencPiecesUptoRow, standIns := [], harness := (true, "fb2f2936fba2e648445e05895cd802f11f65596f71bfe97e4c82189382764020"), looks := false }, kinds := [], alts := [], laidByText := true, laidKinds := [.data], laidTests := true, laidLooks := .later }
def PushencPiecesUptoCardSaid : Prop := Claim7.holds Tryz.pinned (.plain (OpenSpec.upto pushencPiecesSpec)) pushencPiecesUptoCard

/-- THE SECOND FORM's CARD OF 'cadenzalaw36.PushencFile'. -/
def pushencFileUptoCard : Claim7 := { stood := { row := pushencFileUptoRow, standIns := [], harness := (true, "fb2f2936fba2e648445e05895cd802f11f65596f71bfe97e4c82189382764020"), looks := false }, kinds := [], alts := [], laidByText := true, laidKinds := [.data], laidTests := true, laidLooks := .later }
def PushencFileUptoCardSaid : Prop := Claim7.holds Tryz.pinned (.plain (OpenSpec.upto pushencFileSpec)) pushencFileUptoCard

/-- THE SECOND FORM's CARD OF 'cadenzalaw36.PushencSticks'. -/
def pushencSticksUptoCard : Claim7 := { stood := { row := pushencSticksUptoRow, standIns := [], harness := (true, "fb2f2936fba2e648445e05895cd802f11f65596f71bfe97e4c82189382764020"), looks := false }, kinds := [], alts := [], laidByText := true, laidKinds := [.data], laidTests := true, laidLooks := .later }
def PushencSticksUptoCardSaid : Prop := Claim7.holds Tryz.pinned (.plain (OpenSpec.upto pushencSticksSpec)) pushencSticksUptoCard

/-- THE SECOND FORM's CARD OF 'cadenzalaw34.EncodeNames'. -/
def encodeNamesUptoCard : Claim7 := { stood := { row := encodeNamesUptoRow, standIns := [], harness := (true, "fb2f2936fba2e648445e05895cd802f11f65596f71bfe97e4c82189382764020"), looks := false }, kinds := [], alts := [], laidByText := true, laidKinds := [.sentinel, .data, .widerDeep, .data], laidTests := true, laidLooks := .later }
def EncodeNamesUptoCardSaid : Prop := Claim7.holds Tryz.pinned (.plain (OpenSpec.upto encodeNamesSpec)) encodeNamesUptoCard

/-- THE SECOND FORM's CARD OF 'cadenzalaw34.EncodeSame'. -/
def encodeSameUptoCard : Claim7 := { stood := { row := encodeSameUptoRow, standIns := [], harness := (true, "fb2f2936fba2e648445e05895cd802f11f65596f71bfe97e4c82189382764020"), looks := false }, kinds := [], alts := [], laidByText := true, laidKinds := [.sentinel, .data, .widerDeep, .data], laidTests := true, laidLooks := .later }
def EncodeSameUptoCardSaid : Prop := Claim7.holds Tryz.pinned (.plain (OpenSpec.upto encodeSameSpec)) encodeSameUptoCard
end Rows
end Go.Proofs.YtapimafdnjankaaGreatDoor

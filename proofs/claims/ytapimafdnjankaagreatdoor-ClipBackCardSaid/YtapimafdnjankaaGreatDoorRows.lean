/-
  NARROWER THAN 'FOR EVERY INPUT', by the rows' own cells (each row's printed sentence says how): TopFrames: laid · EncodeParts: laid · ClipOnly: laid · ClipNames: laid · ClipBack: laid · EncodeWavs: laid · PushencNames: laid · PushencPieces: laid · PushencFile: laid · PushencSticks: laid · EncodeNames: laid · EncodeSame: laid.
  DERIVED. THE GIVEN ROWS OF THIS SEAT. 12 by the template 'for every input the law returns true; each argument reads behind the call as it read before'; 0 by the template 'total and deterministic' (their statements: YtapimafdnjankaaGreatDoorTotals.lean).
  GIVEN WITH THE SEED: the statements are not yours to turn. If you find one false, say at which input.
  Laid BY PROGRAM, IN A SANDBOX (cutbox-rows.mjs): the forced cells as the released guide's own fill.sh prints them over the translation f62317780b2c6b9f… (all of the seat's roots in one cut). By AI agents, Wed Nov 11 2026. No macro, syntax, notation, axiom, sorry.
-/
import Derived.Test.YtapimafdnjankaaGreatDoorChecked
import GoSem.Claim
import GoSem.ClaimJoined
import GoSem.ClaimMapViews
import Derived.JoinedTies
import Derived.KernelRfl
namespace Go.Proofs.YtapimafdnjankaaGreatDoor
/- THE CELL 'sum', in the pinned program and in every row, IS THE sha256 OF THE DUMP (.gsa) THAT YtapimafdnjankaaGreatDoorProg.lean LOADS. Nothing in Lean hashes anything: it is a label: what it is worth is what the hold of that sum in a sandbox is worth. -/
noncomputable def Tryz.pinned : Pinned := { name := "ytapimafdnjankaagreatdoor", sum := "f62317780b2c6b9fa7b83abdd29b98d728474c0c2be62188880a4eb03be02420", checked := Tryz.checked }
namespace Rows
def none {H : Type} : Left H := { results := [], args := [] }

/- WHAT THE LISTED PACKAGE-LEVEL VARIABLES READ AS WHEN THE CALL BEGINS. Each datum BY PROGRAM (the guide's laid-datum.mjs) off the statement by which the dump's own 'gosem.cut.vars' lays the variable. In a bare row this is a premise. The card (YtapimafdnjankaaGreatDoorCards.lean) ties it to the program's text. -/
def laid_math_bits_deBruijn64tab {H : Type} : DataW H := .agg [.lit (.int .u8 0), .lit (.int .u8 1), .lit (.int .u8 56), .lit (.int .u8 2), .lit (.int .u8 57), .lit (.int .u8 49), .lit (.int .u8 28), .lit (.int .u8 3), .lit (.int .u8 61), .lit (.int .u8 58), .lit (.int .u8 42), .lit (.int .u8 50), .lit (.int .u8 38), .lit (.int .u8 29), .lit (.int .u8 17), .lit (.int .u8 4), .lit (.int .u8 62), .lit (.int .u8 47), .lit (.int .u8 59), .lit (.int .u8 36), .lit (.int .u8 45), .lit (.int .u8 43), .lit (.int .u8 51), .lit (.int .u8 22), .lit (.int .u8 53), .lit (.int .u8 39), .lit (.int .u8 33), .lit (.int .u8 30), .lit (.int .u8 24), .lit (.int .u8 18), .lit (.int .u8 12), .lit (.int .u8 5), .lit (.int .u8 63), .lit (.int .u8 55), .lit (.int .u8 48), .lit (.int .u8 27), .lit (.int .u8 60), .lit (.int .u8 41), .lit (.int .u8 37), .lit (.int .u8 16), .lit (.int .u8 46), .lit (.int .u8 35), .lit (.int .u8 44), .lit (.int .u8 21), .lit (.int .u8 52), .lit (.int .u8 32), .lit (.int .u8 23), .lit (.int .u8 11), .lit (.int .u8 54), .lit (.int .u8 26), .lit (.int .u8 40), .lit (.int .u8 15), .lit (.int .u8 34), .lit (.int .u8 20), .lit (.int .u8 31), .lit (.int .u8 10), .lit (.int .u8 25), .lit (.int .u8 14), .lit (.int .u8 19), .lit (.int .u8 9), .lit (.int .u8 13), .lit (.int .u8 8), .lit (.int .u8 7), .lit (.int .u8 6)]
def laid_cadenza_header_widths {H : Type} : DataW H := .agg [.lit (.int .i64 2), .lit (.int .i64 2), .lit (.int .i64 2), .lit (.int .i64 4), .lit (.int .i64 4)]
def laid_cadenza_fmtchunk_widths {H : Type} : DataW H := .agg [.lit (.int .i64 2), .lit (.int .i64 2), .lit (.int .i64 4), .lit (.int .i64 4), .lit (.int .i64 2), .lit (.int .i64 2), .lit (.int .i64 2), .lit (.int .i64 2), .lit (.int .i64 4)]
def laid_cadenza_fmtchunk_guid {H : Type} : DataW H := .agg [.lit (.int .u8 1), .lit (.int .u8 0), .lit (.int .u8 0), .lit (.int .u8 0), .lit (.int .u8 0), .lit (.int .u8 0), .lit (.int .u8 16), .lit (.int .u8 0), .lit (.int .u8 128), .lit (.int .u8 0), .lit (.int .u8 0), .lit (.int .u8 170), .lit (.int .u8 0), .lit (.int .u8 56), .lit (.int .u8 155), .lit (.int .u8 113)]
def laid_bytes_ErrTooLarge {H : Type} : DataW H := .iface "*errors.errorString" (.ptr (.agg [.lit (.string [98, 121, 116, 101, 115, 46, 66, 117, 102, 102, 101, 114, 58, 32, 116, 111, 111, 32, 108, 97, 114, 103, 101])]))

/-- 'cadenzatop.TopFrames': WHATEVER THE INPUT: true; the input reads as it did. -/
def topFramesSpec : ChangeSpec := { name := "topFrames", fn := fun _ => fun
  | [d1, d2, d3, d4] => { results := [.lit (.bool true)], args := [d1, d2, d3, d4] }
  | _ => none }
def topFramesRow : OpenClaim := { program := "ytapimafdnjankaagreatdoor", sum := "f62317780b2c6b9fa7b83abdd29b98d728474c0c2be62188880a4eb03be02420", func := "cadenza/cadenzatop.TopFrames", spec := "topFrames", unfollowed := true, recurses := true, named := ["math/bits.deBruijn64tab"], apart := false, laid := [("math/bits.deBruijn64tab", laid_math_bits_deBruijn64tab)] }
def TopFramesSaid : Prop := topFramesRow.holds Tryz.pinned (OpenSpec.ofChange topFramesSpec)

/-- ITS FALSE NEIGHBOUR: 'it returns false'. Refute it at one input. -/
def topFramesWrong : ChangeSpec := { name := "topFrames", fn := fun _ => fun
  | [d1, d2, d3, d4] => { results := [.lit (.bool false)], args := [d1, d2, d3, d4] }
  | _ => none }
def TopFramesWrongFalsely : Prop := topFramesRow.holds Tryz.pinned (OpenSpec.ofChange topFramesWrong)

/-- 'cadenzalaw34.EncodeParts': WHATEVER THE INPUT: true; the input reads as it did. -/
def encodePartsSpec : ChangeSpec := { name := "encodeParts", fn := fun _ => fun
  | [d1, d2] => { results := [.lit (.bool true)], args := [d1, d2] }
  | _ => none }
def encodePartsRow : OpenClaim := { program := "ytapimafdnjankaagreatdoor", sum := "f62317780b2c6b9fa7b83abdd29b98d728474c0c2be62188880a4eb03be02420", func := "cadenza/cadenzalaw34.EncodeParts", spec := "encodeParts", unfollowed := true, recurses := true, named := ["cadenza/header.widths"], apart := false, laid := [("cadenza/header.widths", laid_cadenza_header_widths)] }
def EncodePartsSaid : Prop := encodePartsRow.holds Tryz.pinned (OpenSpec.ofChange encodePartsSpec)

/-- ITS FALSE NEIGHBOUR: 'it returns false'. Refute it at one input. -/
def encodePartsWrong : ChangeSpec := { name := "encodeParts", fn := fun _ => fun
  | [d1, d2] => { results := [.lit (.bool false)], args := [d1, d2] }
  | _ => none }
def EncodePartsWrongFalsely : Prop := encodePartsRow.holds Tryz.pinned (OpenSpec.ofChange encodePartsWrong)

/-- 'cadenzalaw24.ClipOnly': WHATEVER THE INPUT: true; the input reads as it did. -/
def clipOnlySpec : ChangeSpec := { name := "clipOnly", fn := fun _ => fun
  | [d1, d2, d3, d4] => { results := [.lit (.bool true)], args := [d1, d2, d3, d4] }
  | _ => none }
def clipOnlyRow : OpenClaim := { program := "ytapimafdnjankaagreatdoor", sum := "f62317780b2c6b9fa7b83abdd29b98d728474c0c2be62188880a4eb03be02420", func := "cadenza/cadenzalaw24.ClipOnly", spec := "clipOnly", unfollowed := true, recurses := true, named := ["math/bits.deBruijn64tab"], apart := false, laid := [("math/bits.deBruijn64tab", laid_math_bits_deBruijn64tab)] }
def ClipOnlySaid : Prop := clipOnlyRow.holds Tryz.pinned (OpenSpec.ofChange clipOnlySpec)

/-- ITS FALSE NEIGHBOUR: 'it returns false'. Refute it at one input. -/
def clipOnlyWrong : ChangeSpec := { name := "clipOnly", fn := fun _ => fun
  | [d1, d2, d3, d4] => { results := [.lit (.bool false)], args := [d1, d2, d3, d4] }
  | _ => none }
def ClipOnlyWrongFalsely : Prop := clipOnlyRow.holds Tryz.pinned (OpenSpec.ofChange clipOnlyWrong)

/-- 'cadenzalaw24.ClipNames': WHATEVER THE INPUT: true; the input reads as it did. -/
def clipNamesSpec : ChangeSpec := { name := "clipNames", fn := fun _ => fun
  | [] => { results := [.lit (.bool true)], args := [] }
  | _ => none }
def clipNamesRow : OpenClaim := { program := "ytapimafdnjankaagreatdoor", sum := "f62317780b2c6b9fa7b83abdd29b98d728474c0c2be62188880a4eb03be02420", func := "cadenza/cadenzalaw24.ClipNames", spec := "clipNames", unfollowed := true, recurses := true, named := ["math/bits.deBruijn64tab"], apart := false, laid := [("math/bits.deBruijn64tab", laid_math_bits_deBruijn64tab)] }
def ClipNamesSaid : Prop := clipNamesRow.holds Tryz.pinned (OpenSpec.ofChange clipNamesSpec)

/-- ITS FALSE NEIGHBOUR: 'it returns false'. Refute it at one input. -/
def clipNamesWrong : ChangeSpec := { name := "clipNames", fn := fun _ => fun
  | [] => { results := [.lit (.bool false)], args := [] }
  | _ => none }
def ClipNamesWrongFalsely : Prop := clipNamesRow.holds Tryz.pinned (OpenSpec.ofChange clipNamesWrong)

/-- 'cadenzalaw24.ClipBack': WHATEVER THE INPUT: true; the input reads as it did. -/
def clipBackSpec : ChangeSpec := { name := "clipBack", fn := fun _ => fun
  | [d1, d2] => { results := [.lit (.bool true)], args := [d1, d2] }
  | _ => none }
def clipBackRow : OpenClaim := { program := "ytapimafdnjankaagreatdoor", sum := "f62317780b2c6b9fa7b83abdd29b98d728474c0c2be62188880a4eb03be02420", func := "cadenza/cadenzalaw24.ClipBack", spec := "clipBack", unfollowed := true, recurses := true, named := ["math/bits.deBruijn64tab"], apart := false, laid := [("math/bits.deBruijn64tab", laid_math_bits_deBruijn64tab)] }
def ClipBackSaid : Prop := clipBackRow.holds Tryz.pinned (OpenSpec.ofChange clipBackSpec)

/-- ITS FALSE NEIGHBOUR: 'it returns false'. Refute it at one input. -/
def clipBackWrong : ChangeSpec := { name := "clipBack", fn := fun _ => fun
  | [d1, d2] => { results := [.lit (.bool false)], args := [d1, d2] }
  | _ => none }
def ClipBackWrongFalsely : Prop := clipBackRow.holds Tryz.pinned (OpenSpec.ofChange clipBackWrong)

/-- 'cadenzalaw34.EncodeWavs': WHATEVER THE INPUT: true; the input reads as it did. -/
def encodeWavsSpec : ChangeSpec := { name := "encodeWavs", fn := fun _ => fun
  | [d1, d2] => { results := [.lit (.bool true)], args := [d1, d2] }
  | _ => none }
def encodeWavsRow : OpenClaim := { program := "ytapimafdnjankaagreatdoor", sum := "f62317780b2c6b9fa7b83abdd29b98d728474c0c2be62188880a4eb03be02420", func := "cadenza/cadenzalaw34.EncodeWavs", spec := "encodeWavs", unfollowed := true, recurses := true, named := ["cadenza/fmtchunk.widths", "cadenza/fmtchunk.guid", "cadenza/header.widths"], apart := false, laid := [("cadenza/fmtchunk.widths", laid_cadenza_fmtchunk_widths), ("cadenza/fmtchunk.guid", laid_cadenza_fmtchunk_guid), ("cadenza/header.widths", laid_cadenza_header_widths)] }
def EncodeWavsSaid : Prop := encodeWavsRow.holds Tryz.pinned (OpenSpec.ofChange encodeWavsSpec)

/-- ITS FALSE NEIGHBOUR: 'it returns false'. Refute it at one input. -/
def encodeWavsWrong : ChangeSpec := { name := "encodeWavs", fn := fun _ => fun
  | [d1, d2] => { results := [.lit (.bool false)], args := [d1, d2] }
  | _ => none }
def EncodeWavsWrongFalsely : Prop := encodeWavsRow.holds Tryz.pinned (OpenSpec.ofChange encodeWavsWrong)

/-- 'cadenzalaw36.PushencNames': WHATEVER THE INPUT: true; the input reads as it did. -/
def pushencNamesSpec : ChangeSpec := { name := "pushencNames", fn := fun _ => fun
  | [] => { results := [.lit (.bool true)], args := [] }
  | _ => none }
def pushencNamesRow : OpenClaim := { program := "ytapimafdnjankaagreatdoor", sum := "f62317780b2c6b9fa7b83abdd29b98d728474c0c2be62188880a4eb03be02420", func := "cadenza/cadenzalaw36.PushencNames", spec := "pushencNames", unfollowed := true, recurses := true, named := ["cadenza/header.widths"], apart := false, laid := [("cadenza/header.widths", laid_cadenza_header_widths)] }
def PushencNamesSaid : Prop := pushencNamesRow.holds Tryz.pinned (OpenSpec.ofChange pushencNamesSpec)

/-- ITS FALSE NEIGHBOUR: 'it returns false'. Refute it at one input. -/
def pushencNamesWrong : ChangeSpec := { name := "pushencNames", fn := fun _ => fun
  | [] => { results := [.lit (.bool false)], args := [] }
  | _ => none }
def PushencNamesWrongFalsely : Prop := pushencNamesRow.holds Tryz.pinned (OpenSpec.ofChange pushencNamesWrong)

/-- 'cadenzalaw36.PushencPieces': WHATEVER THE INPUT: true; the input reads as it did. -/
def pushencPiecesSpec : ChangeSpec := { name := "pushencPieces", fn := fun _ => fun
  | [d1, d2, d3, d4, d5] => { results := [.lit (.bool true)], args := [d1, d2, d3, d4, d5] }
  | _ => none }
def pushencPiecesRow : OpenClaim := { program := "ytapimafdnjankaagreatdoor", sum := "f62317780b2c6b9fa7b83abdd29b98d728474c0c2be62188880a4eb03be02420", func := "cadenza/cadenzalaw36.PushencPieces", spec := "pushencPieces", unfollowed := true, recurses := true, named := ["cadenza/header.widths"], apart := false, laid := [("cadenza/header.widths", laid_cadenza_header_widths)] }
def PushencPiecesSaid : Prop := pushencPiecesRow.holds Tryz.pinned (OpenSpec.ofChange pushencPiecesSpec)

/-- ITS FALSE NEIGHBOUR: 'it returns false'. Refute it at one input. -/
def pushencPiecesWrong : ChangeSpec := { name := "pushencPieces", fn := fun _ => fun
  | [d1, d2, d3, d4, d5] => { results := [.lit (.bool false)], args := [d1, d2, d3, d4, d5] }
  | _ => none }
def PushencPiecesWrongFalsely : Prop := pushencPiecesRow.holds Tryz.pinned (OpenSpec.ofChange pushencPiecesWrong)

/-- 'cadenzalaw36.PushencFile': WHATEVER THE INPUT: true; the input reads as it did. -/
def pushencFileSpec : ChangeSpec := { name := "pushencFile", fn := fun _ => fun
  | [d1, d2, d3, d4] => { results := [.lit (.bool true)], args := [d1, d2, d3, d4] }
  | _ => none }
def pushencFileRow : OpenClaim := { program := "ytapimafdnjankaagreatdoor", sum := "f62317780b2c6b9fa7b83abdd29b98d728474c0c2be62188880a4eb03be02420", func := "cadenza/cadenzalaw36.PushencFile", spec := "pushencFile", unfollowed := true, recurses := true, named := ["cadenza/header.widths"], apart := false, laid := [("cadenza/header.widths", laid_cadenza_header_widths)] }
def PushencFileSaid : Prop := pushencFileRow.holds Tryz.pinned (OpenSpec.ofChange pushencFileSpec)

/-- ITS FALSE NEIGHBOUR: 'it returns false'. Refute it at one input. -/
def pushencFileWrong : ChangeSpec := { name := "pushencFile", fn := fun _ => fun
  | [d1, d2, d3, d4] => { results := [.lit (.bool false)], args := [d1, d2, d3, d4] }
  | _ => none }
def PushencFileWrongFalsely : Prop := pushencFileRow.holds Tryz.pinned (OpenSpec.ofChange pushencFileWrong)

/-- 'cadenzalaw36.PushencSticks': WHATEVER THE INPUT: true; the input reads as it did. -/
def pushencSticksSpec : ChangeSpec := { name := "pushencSticks", fn := fun _ => fun
  | [d1, d2, d3, d4, d5] => { results := [.lit (.bool true)], args := [d1, d2, d3, d4, d5] }
  | _ => none }
def pushencSticksRow : OpenClaim := { program := "ytapimafdnjankaagreatdoor", sum := "f62317780b2c6b9fa7b83abdd29b98d728474c0c2be62188880a4eb03be02420", func := "cadenza/cadenzalaw36.PushencSticks", spec := "pushencSticks", unfollowed := true, recurses := true, named := ["cadenza/header.widths"], apart := false, laid := [("cadenza/header.widths", laid_cadenza_header_widths)] }
def PushencSticksSaid : Prop := pushencSticksRow.holds Tryz.pinned (OpenSpec.ofChange pushencSticksSpec)

/-- ITS FALSE NEIGHBOUR: 'it returns false'. Refute it at one input. -/
def pushencSticksWrong : ChangeSpec := { name := "pushencSticks", fn := fun _ => fun
  | [d1, d2, d3, d4, d5] => { results := [.lit (.bool false)], args := [d1, d2, d3, d4, d5] }
  | _ => none }
def PushencSticksWrongFalsely : Prop := pushencSticksRow.holds Tryz.pinned (OpenSpec.ofChange pushencSticksWrong)

/-- 'cadenzalaw34.EncodeNames': WHATEVER THE INPUT: true; the input reads as it did. -/
def encodeNamesSpec : ChangeSpec := { name := "encodeNames", fn := fun _ => fun
  | [] => { results := [.lit (.bool true)], args := [] }
  | _ => none }
def encodeNamesRow : OpenClaim := { program := "ytapimafdnjankaagreatdoor", sum := "f62317780b2c6b9fa7b83abdd29b98d728474c0c2be62188880a4eb03be02420", func := "cadenza/cadenzalaw34.EncodeNames", spec := "encodeNames", unfollowed := true, recurses := true, named := ["cadenza/header.widths", "cadenza/fmtchunk.widths", "cadenza/fmtchunk.guid", "bytes.ErrTooLarge"], apart := false, laid := [("bytes.ErrTooLarge", laid_bytes_ErrTooLarge), ("cadenza/fmtchunk.widths", laid_cadenza_fmtchunk_widths), ("cadenza/fmtchunk.guid", laid_cadenza_fmtchunk_guid), ("cadenza/header.widths", laid_cadenza_header_widths)] }
def EncodeNamesSaid : Prop := encodeNamesRow.holds Tryz.pinned (OpenSpec.ofChange encodeNamesSpec)

/-- ITS FALSE NEIGHBOUR: 'it returns false'. Refute it at one input. -/
def encodeNamesWrong : ChangeSpec := { name := "encodeNames", fn := fun _ => fun
  | [] => { results := [.lit (.bool false)], args := [] }
  | _ => none }
def EncodeNamesWrongFalsely : Prop := encodeNamesRow.holds Tryz.pinned (OpenSpec.ofChange encodeNamesWrong)

/-- 'cadenzalaw34.EncodeSame': WHATEVER THE INPUT: true; the input reads as it did. -/
def encodeSameSpec : ChangeSpec := { name := "encodeSame", fn := fun _ => fun
  | [d1, d2] => { results := [.lit (.bool true)], args := [d1, d2] }
  | _ => none }
def encodeSameRow : OpenClaim := { program := "ytapimafdnjankaagreatdoor", sum := "f62317780b2c6b9fa7b83abdd29b98d728474c0c2be62188880a4eb03be02420", func := "cadenza/cadenzalaw34.EncodeSame", spec := "encodeSame", unfollowed := true, recurses := true, named := ["cadenza/header.widths", "cadenza/fmtchunk.widths", "cadenza/fmtchunk.guid", "bytes.ErrTooLarge"], apart := false, laid := [("bytes.ErrTooLarge", laid_bytes_ErrTooLarge), ("cadenza/fmtchunk.widths", laid_cadenza_fmtchunk_widths), ("cadenza/fmtchunk.guid", laid_cadenza_fmtchunk_guid), ("cadenza/header.widths", laid_cadenza_header_widths)] }
def EncodeSameSaid : Prop := encodeSameRow.holds Tryz.pinned (OpenSpec.ofChange encodeSameSpec)

/-- ITS FALSE NEIGHBOUR: 'it returns false'. Refute it at one input. -/
def encodeSameWrong : ChangeSpec := { name := "encodeSame", fn := fun _ => fun
  | [d1, d2] => { results := [.lit (.bool false)], args := [d1, d2] }
  | _ => none }
def EncodeSameWrongFalsely : Prop := encodeSameRow.holds Tryz.pinned (OpenSpec.ofChange encodeSameWrong)

/- THE SECOND FORM. 'bulk': how many values and letters a reading holds, each counted each time it is reached (what is shared counts as often as it is met; a slice's spare places count too). A statement '..UptoSaid' is the law's where the arguments, and the package variables that the reading takes, are together of bulk at most 1048576: NARROWER than '..Said'. Prove '..Said' where nothing that the law and all that it calls make is longer than what came in: it says more and counts as full. Else prove '..UptoSaid'. A law counts once. -/
mutual
def uptoBulk {H : Type} : DataW H → Nat
  | .lit (.string bytes) => bytes.length + 1
  | .lit _ => 1
  | .nil => 1
  | .ptr d => uptoBulk d + 1
  | .slice elems spare => uptoBulkAll elems + uptoBulkAll spare + 1
  | .agg parts => uptoBulkAll parts + 1
  | .iface _ d => uptoBulk d + 1
  | .map entries => uptoBulkEntries entries + 1
  | .held _ => 1
def uptoBulkAll {H : Type} : List (DataW H) → Nat
  | [] => 0
  | d :: r => uptoBulk d + uptoBulkAll r
def uptoBulkEntries {H : Type} : List (Lit × DataW H) → Nat
  | [] => 0
  | x :: r => uptoBulkEntry x + uptoBulkEntries r
def uptoBulkEntry {H : Type} : Lit × DataW H → Nat
  | (.string bytes, d) => bytes.length + uptoBulk d + 1
  | (_, d) => uptoBulk d + 1
 end
def uptoSmall : (H : Type) → List (DataW H) → Bool := fun _ ds => decide (uptoBulkAll ds ≤ 1048576)
def OpenSpec.upto (s : _root_.Go.ChangeSpec) : _root_.Go.OpenSpec := { _root_.Go.OpenSpec.ofChange s with cond := some uptoSmall }

/-- 'cadenzatop.TopFrames', WHERE WHAT IT READS IS OF BULK AT MOST 1048576: true; the input reads as it did. -/
def topFramesUptoRow : OpenClaim := { program := "ytapimafdnjankaagreatdoor", sum := "f62317780b2c6b9fa7b83abdd29b98d728474c0c2be62188880a4eb03be02420", func := "cadenza/cadenzatop.TopFrames", spec := "topFrames", unfollowed := true, recurses := true, named := ["math/bits.deBruijn64tab"], apart := false, laid := [("math/bits.deBruijn64tab", laid_math_bits_deBruijn64tab)], narrowed := true }
def TopFramesUptoSaid : Prop := topFramesUptoRow.holds Tryz.pinned (OpenSpec.upto topFramesSpec)

/-- 'cadenzalaw34.EncodeParts', WHERE WHAT IT READS IS OF BULK AT MOST 1048576: true; the input reads as it did. -/
def encodePartsUptoRow : OpenClaim := { program := "ytapimafdnjankaagreatdoor", sum := "f62317780b2c6b9fa7b83abdd29b98d728474c0c2be62188880a4eb03be02420", func := "cadenza/cadenzalaw34.EncodeParts", spec := "encodeParts", unfollowed := true, recurses := true, named := ["cadenza/header.widths"], apart := false, laid := [("cadenza/header.widths", laid_cadenza_header_widths)], narrowed := true }
def EncodePartsUptoSaid : Prop := encodePartsUptoRow.holds Tryz.pinned (OpenSpec.upto encodePartsSpec)

/-- 'cadenzalaw24.ClipOnly', WHERE WHAT IT READS IS OF BULK AT MOST 1048576: true; the input reads as it did. -/
def clipOnlyUptoRow : OpenClaim := { program := "ytapimafdnjankaagreatdoor", sum := "f62317780b2c6b9fa7b83abdd29b98d728474c0c2be62188880a4eb03be02420", func := "cadenza/cadenzalaw24.ClipOnly", spec := "clipOnly", unfollowed := true, recurses := true, named := ["math/bits.deBruijn64tab"], apart := false, laid := [("math/bits.deBruijn64tab", laid_math_bits_deBruijn64tab)], narrowed := true }
def ClipOnlyUptoSaid : Prop := clipOnlyUptoRow.holds Tryz.pinned (OpenSpec.upto clipOnlySpec)

/-- 'cadenzalaw24.ClipNames', WHERE WHAT IT READS IS OF BULK AT MOST 1048576: true; the input reads as it did. -/
def clipNamesUptoRow : OpenClaim := { program := "ytapimafdnjankaagreatdoor", sum := "f62317780b2c6b9fa7b83abdd29b98d728474c0c2be62188880a4eb03be02420", func := "cadenza/cadenzalaw24.ClipNames", spec := "clipNames", unfollowed := true, recurses := true, named := ["math/bits.deBruijn64tab"], apart := false, laid := [("math/bits.deBruijn64tab", laid_math_bits_deBruijn64tab)], narrowed := true }
def ClipNamesUptoSaid : Prop := clipNamesUptoRow.holds Tryz.pinned (OpenSpec.upto clipNamesSpec)

/-- 'cadenzalaw24.ClipBack', WHERE WHAT IT READS IS OF BULK AT MOST 1048576: true; the input reads as it did. -/
def clipBackUptoRow : OpenClaim := { program := "ytapimafdnjankaagreatdoor", sum := "f62317780b2c6b9fa7b83abdd29b98d728474c0c2be62188880a4eb03be02420", func := "cadenza/cadenzalaw24.ClipBack", spec := "clipBack", unfollowed := true, recurses := true, named := ["math/bits.deBruijn64tab"], apart := false, laid := [("math/bits.deBruijn64tab", laid_math_bits_deBruijn64tab)], narrowed := true }
def ClipBackUptoSaid : Prop := clipBackUptoRow.holds Tryz.pinned (OpenSpec.upto clipBackSpec)

/-- 'cadenzalaw34.EncodeWavs', WHERE WHAT IT READS IS OF BULK AT MOST 1048576: true; the input reads as it did. -/
def encodeWavsUptoRow : OpenClaim := { program := "ytapimafdnjankaagreatdoor", sum := "f62317780b2c6b9fa7b83abdd29b98d728474c0c2be62188880a4eb03be02420", func := "cadenza/cadenzalaw34.EncodeWavs", spec := "encodeWavs", unfollowed := true, recurses := true, named := ["cadenza/fmtchunk.widths", "cadenza/fmtchunk.guid", "cadenza/header.widths"], apart := false, laid := [("cadenza/fmtchunk.widths", laid_cadenza_fmtchunk_widths), ("cadenza/fmtchunk.guid", laid_cadenza_fmtchunk_guid), ("cadenza/header.widths", laid_cadenza_header_widths)], narrowed := true }
def EncodeWavsUptoSaid : Prop := encodeWavsUptoRow.holds Tryz.pinned (OpenSpec.upto encodeWavsSpec)

/-- 'cadenzalaw36.PushencNames', WHERE WHAT IT READS IS OF BULK AT MOST 1048576: true; the input reads as it did. -/
def pushencNamesUptoRow : OpenClaim := { program := "ytapimafdnjankaagreatdoor", sum := "f62317780b2c6b9fa7b83abdd29b98d728474c0c2be62188880a4eb03be02420", func := "cadenza/cadenzalaw36.PushencNames", spec := "pushencNames", unfollowed := true, recurses := true, named := ["cadenza/header.widths"], apart := false, laid := [("cadenza/header.widths", laid_cadenza_header_widths)], narrowed := true }
def PushencNamesUptoSaid : Prop := pushencNamesUptoRow.holds Tryz.pinned (OpenSpec.upto pushencNamesSpec)

/-- 'cadenzalaw36.PushencPieces', WHERE WHAT IT READS IS OF BULK AT MOST 1048576: true; the input reads as it did. -/
def pushencPiecesUptoRow : OpenClaim := { program := "ytapimafdnjankaagreatdoor", sum := "f62317780b2c6b9fa7b83abdd29b98d728474c0c2be62188880a4eb03be02420", func := "cadenza/cadenzalaw36.PushencPieces", spec := "pushencPieces", unfollowed := true, recurses := true, named := ["cadenza/header.widths"], apart := false, laid := [("cadenza/header.widths", laid_cadenza_header_widths)], narrowed := true }
def PushencPiecesUptoSaid : Prop := pushencPiecesUptoRow.holds Tryz.pinned (OpenSpec.upto pushencPiecesSpec)

/-- 'cadenzalaw36.PushencFile', WHERE WHAT IT READS IS OF BULK AT MOST 1048576: true; the input reads as it did. -/
def pushencFileUptoRow : OpenClaim := { program := "ytapimafdnjankaagreatdoor", sum := "f62317780b2c6b9fa7b83abdd29b98d728474c0c2be62188880a4eb03be02420", func := "cadenza/cadenzalaw36.PushencFile", spec := "pushencFile", unfollowed := true, recurses := true, named := ["cadenza/header.widths"], apart := false, laid := [("cadenza/header.widths", laid_cadenza_header_widths)], narrowed := true }
def PushencFileUptoSaid : Prop := pushencFileUptoRow.holds Tryz.pinned (OpenSpec.upto pushencFileSpec)

/-- 'cadenzalaw36.PushencSticks', WHERE WHAT IT READS IS OF BULK AT MOST 1048576: true; the input reads as it did. -/
def pushencSticksUptoRow : OpenClaim := { program := "ytapimafdnjankaagreatdoor", sum := "f62317780b2c6b9fa7b83abdd29b98d728474c0c2be62188880a4eb03be02420", func := "cadenza/cadenzalaw36.PushencSticks", spec := "pushencSticks", unfollowed := true, recurses := true, named := ["cadenza/header.widths"], apart := false, laid := [("cadenza/header.widths", laid_cadenza_header_widths)], narrowed := true }
def PushencSticksUptoSaid : Prop := pushencSticksUptoRow.holds Tryz.pinned (OpenSpec.upto pushencSticksSpec)

/-- 'cadenzalaw34.EncodeNames', WHERE WHAT IT READS IS OF BULK AT MOST 1048576: true; the input reads as it did. -/
def encodeNamesUptoRow : OpenClaim := { program := "ytapimafdnjankaagreatdoor", sum := "f62317780b2c6b9fa7b83abdd29b98d728474c0c2be62188880a4eb03be02420", func := "cadenza/cadenzalaw34.EncodeNames", spec := "encodeNames", unfollowed := true, recurses := true, named := ["cadenza/header.widths", "cadenza/fmtchunk.widths", "cadenza/fmtchunk.guid", "bytes.ErrTooLarge"], apart := false, laid := [("bytes.ErrTooLarge", laid_bytes_ErrTooLarge), ("cadenza/fmtchunk.widths", laid_cadenza_fmtchunk_widths), ("cadenza/fmtchunk.guid", laid_cadenza_fmtchunk_guid), ("cadenza/header.widths", laid_cadenza_header_widths)], narrowed := true }
def EncodeNamesUptoSaid : Prop := encodeNamesUptoRow.holds Tryz.pinned (OpenSpec.upto encodeNamesSpec)

/-- 'cadenzalaw34.EncodeSame', WHERE WHAT IT READS IS OF BULK AT MOST 1048576: true; the input reads as it did. -/
def encodeSameUptoRow : OpenClaim := { program := "ytapimafdnjankaagreatdoor", sum := "f62317780b2c6b9fa7b83abdd29b98d728474c0c2be62188880a4eb03be02420", func := "cadenza/cadenzalaw34.EncodeSame", spec := "encodeSame", unfollowed := true, recurses := true, named := ["cadenza/header.widths", "cadenza/fmtchunk.widths", "cadenza/fmtchunk.guid", "bytes.ErrTooLarge"], apart := false, laid := [("bytes.ErrTooLarge", laid_bytes_ErrTooLarge), ("cadenza/fmtchunk.widths", laid_cadenza_fmtchunk_widths), ("cadenza/fmtchunk.guid", laid_cadenza_fmtchunk_guid), ("cadenza/header.widths", laid_cadenza_header_widths)], narrowed := true }
def EncodeSameUptoSaid : Prop := encodeSameUptoRow.holds Tryz.pinned (OpenSpec.upto encodeSameSpec)

end Rows
end Go.Proofs.YtapimafdnjankaaGreatDoor

/-
  NARROWER THAN 'FOR EVERY INPUT', by the rows' own cells (each row's printed sentence says how): WavReads: laid · WavWrites: laid · WavChunks: laid · WavValid: laid · WavData: laid · WavNames: laid · WavBack: laid.
  DERIVED. THE GIVEN ROWS OF THIS SEAT. 7 by the template 'for every input the law returns true; each argument reads behind the call as it read before'; 0 by the template 'total and deterministic' (their statements: YtjkgohbljmmmdaaDoorTotals.lean).
  GIVEN WITH THE SEED: the statements are not yours to turn. If you find one false, say at which input.
  Laid BY PROGRAM, IN A SANDBOX (cutbox-rows.mjs): the forced cells as the released guide's own fill.sh prints them over the translation 10e7b84c9d85eafb… (all of the seat's roots in one cut). By AI agents, Wed Nov 11 2026. No macro, syntax, notation, axiom, sorry.
-/
import Derived.Test.YtjkgohbljmmmdaaDoorChecked
import GoSem.Claim
import GoSem.ClaimJoined
import GoSem.ClaimMapViews
import Derived.JoinedTies
import Derived.KernelRfl
namespace Go.Proofs.YtjkgohbljmmmdaaDoor
/- THE CELL 'sum', in the pinned program and in every row, IS THE sha256 OF THE DUMP (.gsa) THAT YtjkgohbljmmmdaaDoorProg.lean LOADS. Nothing in Lean hashes anything: it is a label: what it is worth is what the hold of that sum in a sandbox is worth. -/
noncomputable def Tryd.pinned : Pinned := { name := "ytjkgohbljmmmdaadoor", sum := "10e7b84c9d85eafb928b316f283cf9a2a756c98a1d5d7328bd5d5eeee9d32f70", checked := Tryd.checked }
namespace Rows
def none {H : Type} : Left H := { results := [], args := [] }

/- WHAT THE LISTED PACKAGE-LEVEL VARIABLES READ AS WHEN THE CALL BEGINS. Each datum BY PROGRAM (the guide's laid-datum.mjs) off the statement by which the dump's own 'gosem.cut.vars' lays the variable. In a bare row this is a premise. The card (YtjkgohbljmmmdaaDoorCards.lean) ties it to the program's text. -/
def laid_cadenza_fmtchunk_widths {H : Type} : DataW H := .agg [.lit (.int .i64 2), .lit (.int .i64 2), .lit (.int .i64 4), .lit (.int .i64 4), .lit (.int .i64 2), .lit (.int .i64 2), .lit (.int .i64 2), .lit (.int .i64 2), .lit (.int .i64 4)]
def laid_cadenza_fmtchunk_guid {H : Type} : DataW H := .agg [.lit (.int .u8 1), .lit (.int .u8 0), .lit (.int .u8 0), .lit (.int .u8 0), .lit (.int .u8 0), .lit (.int .u8 0), .lit (.int .u8 16), .lit (.int .u8 0), .lit (.int .u8 128), .lit (.int .u8 0), .lit (.int .u8 0), .lit (.int .u8 170), .lit (.int .u8 0), .lit (.int .u8 56), .lit (.int .u8 155), .lit (.int .u8 113)]
def laid_bytes_ErrTooLarge {H : Type} : DataW H := .iface "*errors.errorString" (.ptr (.agg [.lit (.string [98, 121, 116, 101, 115, 46, 66, 117, 102, 102, 101, 114, 58, 32, 116, 111, 111, 32, 108, 97, 114, 103, 101])]))

/-- 'cadenzalaw33.WavReads': WHATEVER THE INPUT: true; the input reads as it did. -/
def wavReadsSpec : ChangeSpec := { name := "wavReads", fn := fun _ => fun
  | [d] => { results := [.lit (.bool true)], args := [d] }
  | _ => none }
def wavReadsRow : OpenClaim := { program := "ytjkgohbljmmmdaadoor", sum := "10e7b84c9d85eafb928b316f283cf9a2a756c98a1d5d7328bd5d5eeee9d32f70", func := "cadenza/cadenzalaw33.WavReads", spec := "wavReads", unfollowed := true, recurses := true, named := ["cadenza/fmtchunk.widths", "cadenza/fmtchunk.guid"], apart := false, laid := [("cadenza/fmtchunk.widths", laid_cadenza_fmtchunk_widths), ("cadenza/fmtchunk.guid", laid_cadenza_fmtchunk_guid)] }
def WavReadsSaid : Prop := wavReadsRow.holds Tryd.pinned (OpenSpec.ofChange wavReadsSpec)

/-- ITS FALSE NEIGHBOUR: 'it returns false'. Refute it at one input. -/
def wavReadsWrong : ChangeSpec := { name := "wavReads", fn := fun _ => fun
  | [d] => { results := [.lit (.bool false)], args := [d] }
  | _ => none }
def WavReadsWrongFalsely : Prop := wavReadsRow.holds Tryd.pinned (OpenSpec.ofChange wavReadsWrong)

/-- 'cadenzalaw33.WavWrites': WHATEVER THE INPUT: true; the input reads as it did. -/
def wavWritesSpec : ChangeSpec := { name := "wavWrites", fn := fun _ => fun
  | [d] => { results := [.lit (.bool true)], args := [d] }
  | _ => none }
def wavWritesRow : OpenClaim := { program := "ytjkgohbljmmmdaadoor", sum := "10e7b84c9d85eafb928b316f283cf9a2a756c98a1d5d7328bd5d5eeee9d32f70", func := "cadenza/cadenzalaw33.WavWrites", spec := "wavWrites", unfollowed := true, recurses := true, named := ["cadenza/fmtchunk.widths", "cadenza/fmtchunk.guid", "bytes.ErrTooLarge"], apart := false, laid := [("bytes.ErrTooLarge", laid_bytes_ErrTooLarge), ("cadenza/fmtchunk.widths", laid_cadenza_fmtchunk_widths), ("cadenza/fmtchunk.guid", laid_cadenza_fmtchunk_guid)] }
def WavWritesSaid : Prop := wavWritesRow.holds Tryd.pinned (OpenSpec.ofChange wavWritesSpec)

/-- ITS FALSE NEIGHBOUR: 'it returns false'. Refute it at one input. -/
def wavWritesWrong : ChangeSpec := { name := "wavWrites", fn := fun _ => fun
  | [d] => { results := [.lit (.bool false)], args := [d] }
  | _ => none }
def WavWritesWrongFalsely : Prop := wavWritesRow.holds Tryd.pinned (OpenSpec.ofChange wavWritesWrong)

/-- 'cadenzalaw33.WavChunks': WHATEVER THE INPUT: true; the input reads as it did. -/
def wavChunksSpec : ChangeSpec := { name := "wavChunks", fn := fun _ => fun
  | [d1, d2, d3] => { results := [.lit (.bool true)], args := [d1, d2, d3] }
  | _ => none }
def wavChunksRow : OpenClaim := { program := "ytjkgohbljmmmdaadoor", sum := "10e7b84c9d85eafb928b316f283cf9a2a756c98a1d5d7328bd5d5eeee9d32f70", func := "cadenza/cadenzalaw33.WavChunks", spec := "wavChunks", unfollowed := true, recurses := true, named := ["cadenza/fmtchunk.widths", "cadenza/fmtchunk.guid", "bytes.ErrTooLarge"], apart := false, laid := [("bytes.ErrTooLarge", laid_bytes_ErrTooLarge), ("cadenza/fmtchunk.widths", laid_cadenza_fmtchunk_widths), ("cadenza/fmtchunk.guid", laid_cadenza_fmtchunk_guid)] }
def WavChunksSaid : Prop := wavChunksRow.holds Tryd.pinned (OpenSpec.ofChange wavChunksSpec)

/-- ITS FALSE NEIGHBOUR: 'it returns false'. Refute it at one input. -/
def wavChunksWrong : ChangeSpec := { name := "wavChunks", fn := fun _ => fun
  | [d1, d2, d3] => { results := [.lit (.bool false)], args := [d1, d2, d3] }
  | _ => none }
def WavChunksWrongFalsely : Prop := wavChunksRow.holds Tryd.pinned (OpenSpec.ofChange wavChunksWrong)

/-- 'cadenzalaw33.WavValid': WHATEVER THE INPUT: true; the input reads as it did. -/
def wavValidSpec : ChangeSpec := { name := "wavValid", fn := fun _ => fun
  | [d] => { results := [.lit (.bool true)], args := [d] }
  | _ => none }
def wavValidRow : OpenClaim := { program := "ytjkgohbljmmmdaadoor", sum := "10e7b84c9d85eafb928b316f283cf9a2a756c98a1d5d7328bd5d5eeee9d32f70", func := "cadenza/cadenzalaw33.WavValid", spec := "wavValid", unfollowed := true, recurses := true, named := ["cadenza/fmtchunk.widths", "cadenza/fmtchunk.guid", "bytes.ErrTooLarge"], apart := false, laid := [("bytes.ErrTooLarge", laid_bytes_ErrTooLarge), ("cadenza/fmtchunk.widths", laid_cadenza_fmtchunk_widths), ("cadenza/fmtchunk.guid", laid_cadenza_fmtchunk_guid)] }
def WavValidSaid : Prop := wavValidRow.holds Tryd.pinned (OpenSpec.ofChange wavValidSpec)

/-- ITS FALSE NEIGHBOUR: 'it returns false'. Refute it at one input. -/
def wavValidWrong : ChangeSpec := { name := "wavValid", fn := fun _ => fun
  | [d] => { results := [.lit (.bool false)], args := [d] }
  | _ => none }
def WavValidWrongFalsely : Prop := wavValidRow.holds Tryd.pinned (OpenSpec.ofChange wavValidWrong)

/-- 'cadenzalaw33.WavData': WHATEVER THE INPUT: true; the input reads as it did. -/
def wavDataSpec : ChangeSpec := { name := "wavData", fn := fun _ => fun
  | [d] => { results := [.lit (.bool true)], args := [d] }
  | _ => none }
def wavDataRow : OpenClaim := { program := "ytjkgohbljmmmdaadoor", sum := "10e7b84c9d85eafb928b316f283cf9a2a756c98a1d5d7328bd5d5eeee9d32f70", func := "cadenza/cadenzalaw33.WavData", spec := "wavData", unfollowed := true, recurses := true, named := ["cadenza/fmtchunk.widths", "cadenza/fmtchunk.guid", "bytes.ErrTooLarge"], apart := false, laid := [("bytes.ErrTooLarge", laid_bytes_ErrTooLarge), ("cadenza/fmtchunk.widths", laid_cadenza_fmtchunk_widths), ("cadenza/fmtchunk.guid", laid_cadenza_fmtchunk_guid)] }
def WavDataSaid : Prop := wavDataRow.holds Tryd.pinned (OpenSpec.ofChange wavDataSpec)

/-- ITS FALSE NEIGHBOUR: 'it returns false'. Refute it at one input. -/
def wavDataWrong : ChangeSpec := { name := "wavData", fn := fun _ => fun
  | [d] => { results := [.lit (.bool false)], args := [d] }
  | _ => none }
def WavDataWrongFalsely : Prop := wavDataRow.holds Tryd.pinned (OpenSpec.ofChange wavDataWrong)

/-- 'cadenzalaw33.WavNames': WHATEVER THE INPUT: true; the input reads as it did. -/
def wavNamesSpec : ChangeSpec := { name := "wavNames", fn := fun _ => fun
  | [] => { results := [.lit (.bool true)], args := [] }
  | _ => none }
def wavNamesRow : OpenClaim := { program := "ytjkgohbljmmmdaadoor", sum := "10e7b84c9d85eafb928b316f283cf9a2a756c98a1d5d7328bd5d5eeee9d32f70", func := "cadenza/cadenzalaw33.WavNames", spec := "wavNames", unfollowed := true, recurses := true, named := ["cadenza/fmtchunk.widths", "cadenza/fmtchunk.guid", "bytes.ErrTooLarge"], apart := false, laid := [("bytes.ErrTooLarge", laid_bytes_ErrTooLarge), ("cadenza/fmtchunk.widths", laid_cadenza_fmtchunk_widths), ("cadenza/fmtchunk.guid", laid_cadenza_fmtchunk_guid)] }
def WavNamesSaid : Prop := wavNamesRow.holds Tryd.pinned (OpenSpec.ofChange wavNamesSpec)

/-- ITS FALSE NEIGHBOUR: 'it returns false'. Refute it at one input. -/
def wavNamesWrong : ChangeSpec := { name := "wavNames", fn := fun _ => fun
  | [] => { results := [.lit (.bool false)], args := [] }
  | _ => none }
def WavNamesWrongFalsely : Prop := wavNamesRow.holds Tryd.pinned (OpenSpec.ofChange wavNamesWrong)

/-- 'cadenzalaw33.WavBack': WHATEVER THE INPUT: true; the input reads as it did. -/
def wavBackSpec : ChangeSpec := { name := "wavBack", fn := fun _ => fun
  | [d1, d2] => { results := [.lit (.bool true)], args := [d1, d2] }
  | _ => none }
def wavBackRow : OpenClaim := { program := "ytjkgohbljmmmdaadoor", sum := "10e7b84c9d85eafb928b316f283cf9a2a756c98a1d5d7328bd5d5eeee9d32f70", func := "cadenza/cadenzalaw33.WavBack", spec := "wavBack", unfollowed := true, recurses := true, named := ["cadenza/fmtchunk.widths", "cadenza/fmtchunk.guid", "bytes.ErrTooLarge"], apart := false, laid := [("bytes.ErrTooLarge", laid_bytes_ErrTooLarge), ("cadenza/fmtchunk.widths", laid_cadenza_fmtchunk_widths), ("cadenza/fmtchunk.guid", laid_cadenza_fmtchunk_guid)] }
def WavBackSaid : Prop := wavBackRow.holds Tryd.pinned (OpenSpec.ofChange wavBackSpec)

/-- ITS FALSE NEIGHBOUR: 'it returns false'. Refute it at one input. -/
def wavBackWrong : ChangeSpec := { name := "wavBack", fn := fun _ => fun
  | [d1, d2] => { results := [.lit (.bool false)], args := [d1, d2] }
  | _ => none }
def WavBackWrongFalsely : Prop := wavBackRow.holds Tryd.pinned (OpenSpec.ofChange wavBackWrong)

/- THE SECOND FORM. 'bulk': how many values and letters a reading holds, each counted each time it is reached (what is shared counts as often as it is met; a slice's spare places count too). A statement '..UptoSaid' is the law's where the arguments, and the package variables that the reading takes, are together of bulk at most 1048576: NARROWER than '..Said'. Prove '..Said' where nothing that the law and all that it calls make is longer than what came in: it says more and counts as full. Else prove '..UptoSaid'. A law counts once. -/
mutual
def uptoBulk {H : Type} : DataW H → Nat
  | .lit (.string bytes) => bytes.length + 1
  | .lit _ => 1
  | .nil => 1
  | .ptr d => uptoBulk d + 1
  | .slice elems spare => uptoBulkAll elems + uptoBulkAll spare + 1
  | .agg parts => uptoBulkAll parts + 1
  | .iface _ d => uptoBulk d + 1
  | .map entries => uptoBulkEntries entries + 1
  | .held _ => 1
def uptoBulkAll {H : Type} : List (DataW H) → Nat
  | [] => 0
  | d :: r => uptoBulk d + uptoBulkAll r
def uptoBulkEntries {H : Type} : List (Lit × DataW H) → Nat
  | [] => 0
  | x :: r => uptoBulkEntry x + uptoBulkEntries r
def uptoBulkEntry {H : Type} : Lit × DataW H → Nat
  | (.string bytes, d) => bytes.length + uptoBulk d + 1
  | (_, d) => uptoBulk d + 1
 end
def uptoSmall : (H : Type) → List (DataW H) → Bool := fun _ ds => decide (uptoBulkAll ds ≤ 1048576)
def OpenSpec.upto (s : _root_.Go.ChangeSpec) : _root_.Go.OpenSpec := { _root_.Go.OpenSpec.ofChange s with cond := some uptoSmall }

/-- 'cadenzalaw33.WavReads', WHERE WHAT IT READS IS OF BULK AT MOST 1048576: true; the input reads as it did. -/
def wavReadsUptoRow : OpenClaim := { program := "ytjkgohbljmmmdaadoor", sum := "10e7b84c9d85eafb928b316f283cf9a2a756c98a1d5d7328bd5d5eeee9d32f70", func := "cadenza/cadenzalaw33.WavReads", spec := "wavReads", unfollowed := true, recurses := true, named := ["cadenza/fmtchunk.widths", "cadenza/fmtchunk.guid"], apart := false, laid := [("cadenza/fmtchunk.widths", laid_cadenza_fmtchunk_widths), ("cadenza/fmtchunk.guid", laid_cadenza_fmtchunk_guid)], narrowed := true }
def WavReadsUptoSaid : Prop := wavReadsUptoRow.holds Tryd.pinned (OpenSpec.upto wavReadsSpec)

/-- 'cadenzalaw33.WavWrites', WHERE WHAT IT READS IS OF BULK AT MOST 1048576: true; the input reads as it did. -/
def wavWritesUptoRow : OpenClaim := { program := "ytjkgohbljmmmdaadoor", sum := "10e7b84c9d85eafb928b316f283cf9a2a756c98a1d5d7328bd5d5eeee9d32f70", func := "cadenza/cadenzalaw33.WavWrites", spec := "wavWrites", unfollowed := true, recurses := true, named := ["cadenza/fmtchunk.widths", "cadenza/fmtchunk.guid", "bytes.ErrTooLarge"], apart := false, laid := [("bytes.ErrTooLarge", laid_bytes_ErrTooLarge), ("cadenza/fmtchunk.widths", laid_cadenza_fmtchunk_widths), ("cadenza/fmtchunk.guid", laid_cadenza_fmtchunk_guid)], narrowed := true }
def WavWritesUptoSaid : Prop := wavWritesUptoRow.holds Tryd.pinned (OpenSpec.upto wavWritesSpec)

/-- 'cadenzalaw33.WavChunks', WHERE WHAT IT READS IS OF BULK AT MOST 1048576: true; the input reads as it did. -/
def wavChunksUptoRow : OpenClaim := { program := "ytjkgohbljmmmdaadoor", sum := "10e7b84c9d85eafb928b316f283cf9a2a756c98a1d5d7328bd5d5eeee9d32f70", func := "cadenza/cadenzalaw33.WavChunks", spec := "wavChunks", unfollowed := true, recurses := true, named := ["cadenza/fmtchunk.widths", "cadenza/fmtchunk.guid", "bytes.ErrTooLarge"], apart := false, laid := [("bytes.ErrTooLarge", laid_bytes_ErrTooLarge), ("cadenza/fmtchunk.widths", laid_cadenza_fmtchunk_widths), ("cadenza/fmtchunk.guid", laid_cadenza_fmtchunk_guid)], narrowed := true }
def WavChunksUptoSaid : Prop := wavChunksUptoRow.holds Tryd.pinned (OpenSpec.upto wavChunksSpec)

/-- 'cadenzalaw33.WavValid', WHERE WHAT IT READS IS OF BULK AT MOST 1048576: true; the input reads as it did. -/
def wavValidUptoRow : OpenClaim := { program := "ytjkgohbljmmmdaadoor", sum := "10e7b84c9d85eafb928b316f283cf9a2a756c98a1d5d7328bd5d5eeee9d32f70", func := "cadenza/cadenzalaw33.WavValid", spec := "wavValid", unfollowed := true, recurses := true, named := ["cadenza/fmtchunk.widths", "cadenza/fmtchunk.guid", "bytes.ErrTooLarge"], apart := false, laid := [("bytes.ErrTooLarge", laid_bytes_ErrTooLarge), ("cadenza/fmtchunk.widths", laid_cadenza_fmtchunk_widths), ("cadenza/fmtchunk.guid", laid_cadenza_fmtchunk_guid)], narrowed := true }
def WavValidUptoSaid : Prop := wavValidUptoRow.holds Tryd.pinned (OpenSpec.upto wavValidSpec)

/-- 'cadenzalaw33.WavData', WHERE WHAT IT READS IS OF BULK AT MOST 1048576: true; the input reads as it did. -/
def wavDataUptoRow : OpenClaim := { program := "ytjkgohbljmmmdaadoor", sum := "10e7b84c9d85eafb928b316f283cf9a2a756c98a1d5d7328bd5d5eeee9d32f70", func := "cadenza/cadenzalaw33.WavData", spec := "wavData", unfollowed := true, recurses := true, named := ["cadenza/fmtchunk.widths", "cadenza/fmtchunk.guid", "bytes.ErrTooLarge"], apart := false, laid := [("bytes.ErrTooLarge", laid_bytes_ErrTooLarge), ("cadenza/fmtchunk.widths", laid_cadenza_fmtchunk_widths), ("cadenza/fmtchunk.guid", laid_cadenza_fmtchunk_guid)], narrowed := true }
def WavDataUptoSaid : Prop := wavDataUptoRow.holds Tryd.pinned (OpenSpec.upto wavDataSpec)

/-- 'cadenzalaw33.WavNames', WHERE WHAT IT READS IS OF BULK AT MOST 1048576: true; the input reads as it did. -/
def wavNamesUptoRow : OpenClaim := { program := "ytjkgohbljmmmdaadoor", sum := "10e7b84c9d85eafb928b316f283cf9a2a756c98a1d5d7328bd5d5eeee9d32f70", func := "cadenza/cadenzalaw33.WavNames", spec := "wavNames", unfollowed := true, recurses := true, named := ["cadenza/fmtchunk.widths", "cadenza/fmtchunk.guid", "bytes.ErrTooLarge"], apart := false, laid := [("bytes.ErrTooLarge", laid_bytes_ErrTooLarge), ("cadenza/fmtchunk.widths", laid_cadenza_fmtchunk_widths), ("cadenza/fmtchunk.guid", laid_cadenza_fmtchunk_guid)], narrowed := true }
def WavNamesUptoSaid : Prop := wavNamesUptoRow.holds Tryd.pinned (OpenSpec.upto wavNamesSpec)

/-- 'cadenzalaw33.WavBack', WHERE WHAT IT READS IS OF BULK AT MOST 1048576: true; the input reads as it did. -/
def wavBackUptoRow : OpenClaim := { program := "ytjkgohbljmmmdaadoor", sum := "10e7b84c9d85eafb928b316f283cf9a2a756c98a1d5d7328bd5d5eeee9d32f70", func := "cadenza/cadenzalaw33.WavBack", spec := "wavBack", unfollowed := true, recurses := true, named := ["cadenza/fmtchunk.widths", "cadenza/fmtchunk.guid", "bytes.ErrTooLarge"], apart := false, laid := [("bytes.ErrTooLarge", laid_bytes_ErrTooLarge), ("cadenza/fmtchunk.widths", laid_cadenza_fmtchunk_widths), ("cadenza/fmtchunk.guid", laid_cadenza_fmtchunk_guid)], narrowed := true }
def WavBackUptoSaid : Prop := wavBackUptoRow.holds Tryd.pinned (OpenSpec.upto wavBackSpec)

end Rows
end Go.Proofs.YtjkgohbljmmmdaaDoor

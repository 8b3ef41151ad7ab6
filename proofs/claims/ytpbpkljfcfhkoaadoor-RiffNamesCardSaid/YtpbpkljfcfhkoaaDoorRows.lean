/-
  NARROWER THAN 'FOR EVERY INPUT', by the rows' own cells (each row's printed sentence says how): RiffWrites: laid · RiffBack: laid · RiffAgain: laid · RiffNames: laid · RiffFind: laid.
  DERIVED. THE GIVEN ROWS OF THIS SEAT. 5 by the template 'for every input the law returns true; each argument reads behind the call as it read before'; 0 by the template 'total and deterministic' (their statements: YtpbpkljfcfhkoaaDoorTotals.lean).
  GIVEN WITH THE SEED: the statements are not yours to turn. If you find one false, say at which input.
  Laid BY PROGRAM, IN A SANDBOX (cutbox-rows.mjs): the forced cells as the released guide's own fill.sh prints them over the translation b00e0c57a791aee4… (all of the seat's roots in one cut). By AI agents, Wed Nov 11 2026. No macro, syntax, notation, axiom, sorry.
-/
import Derived.Test.YtpbpkljfcfhkoaaDoorChecked
import GoSem.Claim
import GoSem.ClaimJoined
import GoSem.ClaimMapViews
import Derived.JoinedTies
import Derived.KernelRfl
namespace Go.Proofs.YtpbpkljfcfhkoaaDoor
/- THE CELL 'sum', in the pinned program and in every row, IS THE sha256 OF THE DUMP (.gsa) THAT YtpbpkljfcfhkoaaDoorProg.lean LOADS. Nothing in Lean hashes anything: it is a label: what it is worth is what the hold of that sum in a sandbox is worth. -/
noncomputable def Tryd.pinned : Pinned := { name := "ytpbpkljfcfhkoaadoor", sum := "b00e0c57a791aee469a4bbe52f1e51ec96286554144b2d7180a17d8e6d28f415", checked := Tryd.checked }
namespace Rows
def none {H : Type} : Left H := { results := [], args := [] }

/- WHAT THE LISTED PACKAGE-LEVEL VARIABLES READ AS WHEN THE CALL BEGINS. Each datum BY PROGRAM (the guide's laid-datum.mjs) off the statement by which the dump's own 'gosem.cut.vars' lays the variable. In a bare row this is a premise. The card (YtpbpkljfcfhkoaaDoorCards.lean) ties it to the program's text. -/
def laid_bytes_ErrTooLarge {H : Type} : DataW H := .iface "*errors.errorString" (.ptr (.agg [.lit (.string [98, 121, 116, 101, 115, 46, 66, 117, 102, 102, 101, 114, 58, 32, 116, 111, 111, 32, 108, 97, 114, 103, 101])]))

/-- 'cadenzalaw31.RiffWrites': WHATEVER THE INPUT: true; the input reads as it did. -/
def riffWritesSpec : ChangeSpec := { name := "riffWrites", fn := fun _ => fun
  | [d1, d2, d3] => { results := [.lit (.bool true)], args := [d1, d2, d3] }
  | _ => none }
def riffWritesRow : OpenClaim := { program := "ytpbpkljfcfhkoaadoor", sum := "b00e0c57a791aee469a4bbe52f1e51ec96286554144b2d7180a17d8e6d28f415", func := "cadenza/cadenzalaw31.RiffWrites", spec := "riffWrites", unfollowed := true, recurses := true, named := ["bytes.ErrTooLarge"], apart := false, laid := [("bytes.ErrTooLarge", laid_bytes_ErrTooLarge)] }
def RiffWritesSaid : Prop := riffWritesRow.holds Tryd.pinned (OpenSpec.ofChange riffWritesSpec)

/-- ITS FALSE NEIGHBOUR: 'it returns false'. Refute it at one input. -/
def riffWritesWrong : ChangeSpec := { name := "riffWrites", fn := fun _ => fun
  | [d1, d2, d3] => { results := [.lit (.bool false)], args := [d1, d2, d3] }
  | _ => none }
def RiffWritesWrongFalsely : Prop := riffWritesRow.holds Tryd.pinned (OpenSpec.ofChange riffWritesWrong)

/-- 'cadenzalaw31.RiffBack': WHATEVER THE INPUT: true; the input reads as it did. -/
def riffBackSpec : ChangeSpec := { name := "riffBack", fn := fun _ => fun
  | [d1, d2, d3, d4] => { results := [.lit (.bool true)], args := [d1, d2, d3, d4] }
  | _ => none }
def riffBackRow : OpenClaim := { program := "ytpbpkljfcfhkoaadoor", sum := "b00e0c57a791aee469a4bbe52f1e51ec96286554144b2d7180a17d8e6d28f415", func := "cadenza/cadenzalaw31.RiffBack", spec := "riffBack", unfollowed := true, recurses := true, named := ["bytes.ErrTooLarge"], apart := false, laid := [("bytes.ErrTooLarge", laid_bytes_ErrTooLarge)] }
def RiffBackSaid : Prop := riffBackRow.holds Tryd.pinned (OpenSpec.ofChange riffBackSpec)

/-- ITS FALSE NEIGHBOUR: 'it returns false'. Refute it at one input. -/
def riffBackWrong : ChangeSpec := { name := "riffBack", fn := fun _ => fun
  | [d1, d2, d3, d4] => { results := [.lit (.bool false)], args := [d1, d2, d3, d4] }
  | _ => none }
def RiffBackWrongFalsely : Prop := riffBackRow.holds Tryd.pinned (OpenSpec.ofChange riffBackWrong)

/-- 'cadenzalaw31.RiffAgain': WHATEVER THE INPUT: true; the input reads as it did. -/
def riffAgainSpec : ChangeSpec := { name := "riffAgain", fn := fun _ => fun
  | [d] => { results := [.lit (.bool true)], args := [d] }
  | _ => none }
def riffAgainRow : OpenClaim := { program := "ytpbpkljfcfhkoaadoor", sum := "b00e0c57a791aee469a4bbe52f1e51ec96286554144b2d7180a17d8e6d28f415", func := "cadenza/cadenzalaw31.RiffAgain", spec := "riffAgain", unfollowed := true, recurses := true, named := ["bytes.ErrTooLarge"], apart := false, laid := [("bytes.ErrTooLarge", laid_bytes_ErrTooLarge)] }
def RiffAgainSaid : Prop := riffAgainRow.holds Tryd.pinned (OpenSpec.ofChange riffAgainSpec)

/-- ITS FALSE NEIGHBOUR: 'it returns false'. Refute it at one input. -/
def riffAgainWrong : ChangeSpec := { name := "riffAgain", fn := fun _ => fun
  | [d] => { results := [.lit (.bool false)], args := [d] }
  | _ => none }
def RiffAgainWrongFalsely : Prop := riffAgainRow.holds Tryd.pinned (OpenSpec.ofChange riffAgainWrong)

/-- 'cadenzalaw31.RiffNames': WHATEVER THE INPUT: true; the input reads as it did. -/
def riffNamesSpec : ChangeSpec := { name := "riffNames", fn := fun _ => fun
  | [] => { results := [.lit (.bool true)], args := [] }
  | _ => none }
def riffNamesRow : OpenClaim := { program := "ytpbpkljfcfhkoaadoor", sum := "b00e0c57a791aee469a4bbe52f1e51ec96286554144b2d7180a17d8e6d28f415", func := "cadenza/cadenzalaw31.RiffNames", spec := "riffNames", unfollowed := true, recurses := true, named := ["bytes.ErrTooLarge"], apart := false, laid := [("bytes.ErrTooLarge", laid_bytes_ErrTooLarge)] }
def RiffNamesSaid : Prop := riffNamesRow.holds Tryd.pinned (OpenSpec.ofChange riffNamesSpec)

/-- ITS FALSE NEIGHBOUR: 'it returns false'. Refute it at one input. -/
def riffNamesWrong : ChangeSpec := { name := "riffNames", fn := fun _ => fun
  | [] => { results := [.lit (.bool false)], args := [] }
  | _ => none }
def RiffNamesWrongFalsely : Prop := riffNamesRow.holds Tryd.pinned (OpenSpec.ofChange riffNamesWrong)

/-- 'cadenzalaw31.RiffFind': WHATEVER THE INPUT: true; the input reads as it did. -/
def riffFindSpec : ChangeSpec := { name := "riffFind", fn := fun _ => fun
  | [d1, d2, d3] => { results := [.lit (.bool true)], args := [d1, d2, d3] }
  | _ => none }
def riffFindRow : OpenClaim := { program := "ytpbpkljfcfhkoaadoor", sum := "b00e0c57a791aee469a4bbe52f1e51ec96286554144b2d7180a17d8e6d28f415", func := "cadenza/cadenzalaw31.RiffFind", spec := "riffFind", unfollowed := true, recurses := true, named := ["bytes.ErrTooLarge"], apart := false, laid := [("bytes.ErrTooLarge", laid_bytes_ErrTooLarge)] }
def RiffFindSaid : Prop := riffFindRow.holds Tryd.pinned (OpenSpec.ofChange riffFindSpec)

/-- ITS FALSE NEIGHBOUR: 'it returns false'. Refute it at one input. -/
def riffFindWrong : ChangeSpec := { name := "riffFind", fn := fun _ => fun
  | [d1, d2, d3] => { results := [.lit (.bool false)], args := [d1, d2, d3] }
  | _ => none }
def RiffFindWrongFalsely : Prop := riffFindRow.holds Tryd.pinned (OpenSpec.ofChange riffFindWrong)

/- THE SECOND FORM. 'bulk': how many values and letters a reading holds, each counted each time it is reached (what is shared counts as often as it is met; a slice's spare places count too). A statement '..UptoSaid' is the law's where the arguments, and the package variables that the reading takes, are together of bulk at most 1048576: NARROWER than '..Said'. Prove '..Said' where nothing that the law and all that it calls make is longer than what came in: it says more and counts as full. Else prove '..UptoSaid'. A law counts once. -/
mutual
def uptoBulk {H : Type} : DataW H → Nat
  | .lit (.string bytes) => bytes.length + 1
  | .lit _ => 1
  | .nil => 1
  | .ptr d => uptoBulk d + 1
  | .slice elems spare => uptoBulkAll elems + uptoBulkAll spare + 1
  | .agg parts => uptoBulkAll parts + 1
  | .iface _ d => uptoBulk d + 1
  | .map entries => uptoBulkEntries entries + 1
  | .held _ => 1
def uptoBulkAll {H : Type} : List (DataW H) → Nat
  | [] => 0
  | d :: r => uptoBulk d + uptoBulkAll r
def uptoBulkEntries {H : Type} : List (Lit × DataW H) → Nat
  | [] => 0
  | x :: r => uptoBulkEntry x + uptoBulkEntries r
def uptoBulkEntry {H : Type} : Lit × DataW H → Nat
  | (.string bytes, d) => bytes.length + uptoBulk d + 1
  | (_, d) => uptoBulk d + 1
 end
def uptoSmall : (H : Type) → List (DataW H) → Bool := fun _ ds => decide (uptoBulkAll ds ≤ 1048576)
def OpenSpec.upto (s : _root_.Go.ChangeSpec) : _root_.Go.OpenSpec := { _root_.Go.OpenSpec.ofChange s with cond := some uptoSmall }

/-- 'cadenzalaw31.RiffWrites', WHERE WHAT IT READS IS OF BULK AT MOST 1048576: true; the input reads as it did. -/
def riffWritesUptoRow : OpenClaim := { program := "ytpbpkljfcfhkoaadoor", sum := "b00e0c57a791aee469a4bbe52f1e51ec96286554144b2d7180a17d8e6d28f415", func := "cadenza/cadenzalaw31.RiffWrites", spec := "riffWrites", unfollowed := true, recurses := true, named := ["bytes.ErrTooLarge"], apart := false, laid := [("bytes.ErrTooLarge", laid_bytes_ErrTooLarge)], narrowed := true }
def RiffWritesUptoSaid : Prop := riffWritesUptoRow.holds Tryd.pinned (OpenSpec.upto riffWritesSpec)

/-- 'cadenzalaw31.RiffBack', WHERE WHAT IT READS IS OF BULK AT MOST 1048576: true; the input reads as it did. -/
def riffBackUptoRow : OpenClaim := { program := "ytpbpkljfcfhkoaadoor", sum := "b00e0c57a791aee469a4bbe52f1e51ec96286554144b2d7180a17d8e6d28f415", func := "cadenza/cadenzalaw31.RiffBack", spec := "riffBack", unfollowed := true, recurses := true, named := ["bytes.ErrTooLarge"], apart := false, laid := [("bytes.ErrTooLarge", laid_bytes_ErrTooLarge)], narrowed := true }
def RiffBackUptoSaid : Prop := riffBackUptoRow.holds Tryd.pinned (OpenSpec.upto riffBackSpec)

/-- 'cadenzalaw31.RiffAgain', WHERE WHAT IT READS IS OF BULK AT MOST 1048576: true; the input reads as it did. -/
def riffAgainUptoRow : OpenClaim := { program := "ytpbpkljfcfhkoaadoor", sum := "b00e0c57a791aee469a4bbe52f1e51ec96286554144b2d7180a17d8e6d28f415", func := "cadenza/cadenzalaw31.RiffAgain", spec := "riffAgain", unfollowed := true, recurses := true, named := ["bytes.ErrTooLarge"], apart := false, laid := [("bytes.ErrTooLarge", laid_bytes_ErrTooLarge)], narrowed := true }
def RiffAgainUptoSaid : Prop := riffAgainUptoRow.holds Tryd.pinned (OpenSpec.upto riffAgainSpec)

/-- 'cadenzalaw31.RiffNames', WHERE WHAT IT READS IS OF BULK AT MOST 1048576: true; the input reads as it did. -/
def riffNamesUptoRow : OpenClaim := { program := "ytpbpkljfcfhkoaadoor", sum := "b00e0c57a791aee469a4bbe52f1e51ec96286554144b2d7180a17d8e6d28f415", func := "cadenza/cadenzalaw31.RiffNames", spec := "riffNames", unfollowed := true, recurses := true, named := ["bytes.ErrTooLarge"], apart := false, laid := [("bytes.ErrTooLarge", laid_bytes_ErrTooLarge)], narrowed := true }
def RiffNamesUptoSaid : Prop := riffNamesUptoRow.holds Tryd.pinned (OpenSpec.upto riffNamesSpec)

/-- 'cadenzalaw31.RiffFind', WHERE WHAT IT READS IS OF BULK AT MOST 1048576: true; the input reads as it did. -/
def riffFindUptoRow : OpenClaim := { program := "ytpbpkljfcfhkoaadoor", sum := "b00e0c57a791aee469a4bbe52f1e51ec96286554144b2d7180a17d8e6d28f415", func := "cadenza/cadenzalaw31.RiffFind", spec := "riffFind", unfollowed := true, recurses := true, named := ["bytes.ErrTooLarge"], apart := false, laid := [("bytes.ErrTooLarge", laid_bytes_ErrTooLarge)], narrowed := true }
def RiffFindUptoSaid : Prop := riffFindUptoRow.holds Tryd.pinned (OpenSpec.upto riffFindSpec)

end Rows
end Go.Proofs.YtpbpkljfcfhkoaaDoor

/-
  No cell of these rows narrows 'for every input' (looked for: loops, veiled, ifaces, maps, wideKeys, modest, calm, conditions, laid).
  DERIVED. THE GIVEN ROWS OF THIS SEAT. 3 by the template 'for every input the law returns true; each argument reads behind the call as it read before'; 0 by the template 'total and deterministic' (their statements: YtpanmoedefeniaaTotals.lean).
  GIVEN WITH THE SEED: the statements are not yours to turn. If you find one false, say at which input.
  Laid BY PROGRAM, IN A SANDBOX (cutbox-rows.mjs): the forced cells as the released guide's own fill.sh prints them over the translation 75b573d6372f1c62… (all of the seat's roots in one cut). By AI agents, Wed Nov 11 2026. No macro, syntax, notation, axiom, sorry.
-/
import Derived.Test.YtpanmoedefeniaaChecked
import GoSem.Claim
import GoSem.ClaimJoined
import GoSem.ClaimMapViews
import Derived.JoinedTies
import Derived.KernelRfl
namespace Go.Proofs.Ytpanmoedefeniaa
/- THE CELL 'sum', in the pinned program and in every row, IS THE sha256 OF THE DUMP (.gsa) THAT YtpanmoedefeniaaProg.lean LOADS. Nothing in Lean hashes anything: it is a label: what it is worth is what the hold of that sum in a sandbox is worth. -/
noncomputable def Try.pinned : Pinned := { name := "ytpanmoedefeniaa", sum := "75b573d6372f1c62d99bd871da46cce00619f57aa5e1b4a6730e5bb09dcc6d3a", checked := Try.checked }
namespace Rows
def none {H : Type} : Left H := { results := [], args := [] }

/-- 'cadenzalaw24.ClipParts': WHATEVER THE INPUT: true; the input reads as it did. -/
def clipPartsSpec : ChangeSpec := { name := "clipParts", fn := fun _ => fun
  | [d1, d2] => { results := [.lit (.bool true)], args := [d1, d2] }
  | _ => none }
def clipPartsRow : OpenClaim := { program := "ytpanmoedefeniaa", sum := "75b573d6372f1c62d99bd871da46cce00619f57aa5e1b4a6730e5bb09dcc6d3a", func := "cadenza/cadenzalaw24.ClipParts", spec := "clipParts", unfollowed := true, recurses := true, apart := false }
def ClipPartsSaid : Prop := clipPartsRow.holds Try.pinned (OpenSpec.ofChange clipPartsSpec)

/-- ITS FALSE NEIGHBOUR: 'it returns false'. Refute it at one input. -/
def clipPartsWrong : ChangeSpec := { name := "clipParts", fn := fun _ => fun
  | [d1, d2] => { results := [.lit (.bool false)], args := [d1, d2] }
  | _ => none }
def ClipPartsWrongFalsely : Prop := clipPartsRow.holds Try.pinned (OpenSpec.ofChange clipPartsWrong)

/-- 'cadenzalaw24.ClipAnew': WHATEVER THE INPUT: true; the input reads as it did. -/
def clipAnewSpec : ChangeSpec := { name := "clipAnew", fn := fun _ => fun
  | [d1, d2] => { results := [.lit (.bool true)], args := [d1, d2] }
  | _ => none }
def clipAnewRow : OpenClaim := { program := "ytpanmoedefeniaa", sum := "75b573d6372f1c62d99bd871da46cce00619f57aa5e1b4a6730e5bb09dcc6d3a", func := "cadenza/cadenzalaw24.ClipAnew", spec := "clipAnew", unfollowed := true, recurses := true, apart := false }
def ClipAnewSaid : Prop := clipAnewRow.holds Try.pinned (OpenSpec.ofChange clipAnewSpec)

/-- ITS FALSE NEIGHBOUR: 'it returns false'. Refute it at one input. -/
def clipAnewWrong : ChangeSpec := { name := "clipAnew", fn := fun _ => fun
  | [d1, d2] => { results := [.lit (.bool false)], args := [d1, d2] }
  | _ => none }
def ClipAnewWrongFalsely : Prop := clipAnewRow.holds Try.pinned (OpenSpec.ofChange clipAnewWrong)

/-- 'cadenzalaw24.ClipPasswords': WHATEVER THE INPUT: true; the input reads as it did. -/
def clipPasswordsSpec : ChangeSpec := { name := "clipPasswords", fn := fun _ => fun
  | [d1, d2, d3] => { results := [.lit (.bool true)], args := [d1, d2, d3] }
  | _ => none }
def clipPasswordsRow : OpenClaim := { program := "ytpanmoedefeniaa", sum := "75b573d6372f1c62d99bd871da46cce00619f57aa5e1b4a6730e5bb09dcc6d3a", func := "cadenza/cadenzalaw24.ClipPasswords", spec := "clipPasswords", unfollowed := true, recurses := true, apart := false }
def ClipPasswordsSaid : Prop := clipPasswordsRow.holds Try.pinned (OpenSpec.ofChange clipPasswordsSpec)

/-- ITS FALSE NEIGHBOUR: 'it returns false'. Refute it at one input. -/
def clipPasswordsWrong : ChangeSpec := { name := "clipPasswords", fn := fun _ => fun
  | [d1, d2, d3] => { results := [.lit (.bool false)], args := [d1, d2, d3] }
  | _ => none }
def ClipPasswordsWrongFalsely : Prop := clipPasswordsRow.holds Try.pinned (OpenSpec.ofChange clipPasswordsWrong)

/- THE SECOND FORM. 'bulk': how many values and letters a reading holds, each counted each time it is reached (what is shared counts as often as it is met; a slice's spare places count too). A statement '..UptoSaid' is the law's where the arguments, and the package variables that the reading takes, are together of bulk at most 1048576: NARROWER than '..Said'. Prove '..Said' where nothing that the law and all that it calls make is longer than what came in: it says more and counts as full. Else prove '..UptoSaid'. A law counts once. -/
mutual
def uptoBulk {H : Type} : DataW H → Nat
  | .lit (.string bytes) => bytes.length + 1
  | .lit _ => 1
  | .nil => 1
  | .ptr d => uptoBulk d + 1
  | .slice elems spare => uptoBulkAll elems + uptoBulkAll spare + 1
  | .agg parts => uptoBulkAll parts + 1
  | .iface _ d => uptoBulk d + 1
  | .map entries => uptoBulkEntries entries + 1
  | .held _ => 1
def uptoBulkAll {H : Type} : List (DataW H) → Nat
  | [] => 0
  | d :: r => uptoBulk d + uptoBulkAll r
def uptoBulkEntries {H : Type} : List (Lit × DataW H) → Nat
  | [] => 0
  | x :: r => uptoBulkEntry x + uptoBulkEntries r
def uptoBulkEntry {H : Type} : Lit × DataW H → Nat
  | (.string bytes, d) => bytes.length + uptoBulk d + 1
  | (_, d) => uptoBulk d + 1
 end
def uptoSmall : (H : Type) → List (DataW H) → Bool := fun _ ds => decide (uptoBulkAll ds ≤ 1048576)
def OpenSpec.upto (s : _root_.Go.ChangeSpec) : _root_.Go.OpenSpec := { _root_.Go.OpenSpec.ofChange s with cond := some uptoSmall }

/-- 'cadenzalaw24.ClipParts', WHERE WHAT IT READS IS OF BULK AT MOST 1048576: true; the input reads as it did. -/
def clipPartsUptoRow : OpenClaim := { program := "ytpanmoedefeniaa", sum := "75b573d6372f1c62d99bd871da46cce00619f57aa5e1b4a6730e5bb09dcc6d3a", func := "cadenza/cadenzalaw24.ClipParts", spec := "clipParts", unfollowed := true, recurses := true, apart := false, narrowed := true }
def ClipPartsUptoSaid : Prop := clipPartsUptoRow.holds Try.pinned (OpenSpec.upto clipPartsSpec)

/-- 'cadenzalaw24.ClipAnew', WHERE WHAT IT READS IS OF BULK AT MOST 1048576: true; the input reads as it did. -/
def clipAnewUptoRow : OpenClaim := { program := "ytpanmoedefeniaa", sum := "75b573d6372f1c62d99bd871da46cce00619f57aa5e1b4a6730e5bb09dcc6d3a", func := "cadenza/cadenzalaw24.ClipAnew", spec := "clipAnew", unfollowed := true, recurses := true, apart := false, narrowed := true }
def ClipAnewUptoSaid : Prop := clipAnewUptoRow.holds Try.pinned (OpenSpec.upto clipAnewSpec)

/-- 'cadenzalaw24.ClipPasswords', WHERE WHAT IT READS IS OF BULK AT MOST 1048576: true; the input reads as it did. -/
def clipPasswordsUptoRow : OpenClaim := { program := "ytpanmoedefeniaa", sum := "75b573d6372f1c62d99bd871da46cce00619f57aa5e1b4a6730e5bb09dcc6d3a", func := "cadenza/cadenzalaw24.ClipPasswords", spec := "clipPasswords", unfollowed := true, recurses := true, apart := false, narrowed := true }
def ClipPasswordsUptoSaid : Prop := clipPasswordsUptoRow.holds Try.pinned (OpenSpec.upto clipPasswordsSpec)

end Rows
end Go.Proofs.Ytpanmoedefeniaa

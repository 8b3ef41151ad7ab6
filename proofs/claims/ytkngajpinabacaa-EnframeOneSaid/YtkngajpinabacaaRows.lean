/-
  No cell of these rows narrows 'for every input' (looked for: loops, veiled, ifaces, maps, wideKeys, modest, calm, conditions, laid).
  DERIVED. THE GIVEN ROWS OF THIS SEAT. 5 by the template 'for every input the law returns true; each argument reads behind the call as it read before'; 0 by the template 'total and deterministic' (their statements: YtkngajpinabacaaTotals.lean).
  GIVEN WITH THE SEED: the statements are not yours to turn. If you find one false, say at which input.
  Laid BY PROGRAM, IN A SANDBOX (cutbox-rows.mjs): the forced cells as the released guide's own fill.sh prints them over the translation 2c89eb9141cd29d1… (all of the seat's roots in one cut). By AI agents, Wed Nov 11 2026. No macro, syntax, notation, axiom, sorry.
-/
import Derived.Test.YtkngajpinabacaaChecked
import GoSem.Claim
import GoSem.ClaimJoined
import GoSem.ClaimMapViews
import Derived.JoinedTies
import Derived.KernelRfl
namespace Go.Proofs.Ytkngajpinabacaa
/- THE CELL 'sum', in the pinned program and in every row, IS THE sha256 OF THE DUMP (.gsa) THAT YtkngajpinabacaaProg.lean LOADS. Nothing in Lean hashes anything: it is a label: what it is worth is what the hold of that sum in a sandbox is worth. -/
noncomputable def Try.pinned : Pinned := { name := "ytkngajpinabacaa", sum := "2c89eb9141cd29d1ef5da523592ecb5501c537de1a6b9f08309b2c6ed0ce9ca2", checked := Try.checked }
namespace Rows
def none {H : Type} : Left H := { results := [], args := [] }

/-- 'cadenzalaw20.EnframeNames': WHATEVER THE INPUT: true; the input reads as it did. -/
def enframeNamesSpec : ChangeSpec := { name := "enframeNames", fn := fun _ => fun
  | [] => { results := [.lit (.bool true)], args := [] }
  | _ => none }
def enframeNamesRow : OpenClaim := { program := "ytkngajpinabacaa", sum := "2c89eb9141cd29d1ef5da523592ecb5501c537de1a6b9f08309b2c6ed0ce9ca2", func := "cadenza/cadenzalaw20.EnframeNames", spec := "enframeNames", unfollowed := true, recurses := true, apart := false }
def EnframeNamesSaid : Prop := enframeNamesRow.holds Try.pinned (OpenSpec.ofChange enframeNamesSpec)

/-- ITS FALSE NEIGHBOUR: 'it returns false'. Refute it at one input. -/
def enframeNamesWrong : ChangeSpec := { name := "enframeNames", fn := fun _ => fun
  | [] => { results := [.lit (.bool false)], args := [] }
  | _ => none }
def EnframeNamesWrongFalsely : Prop := enframeNamesRow.holds Try.pinned (OpenSpec.ofChange enframeNamesWrong)

/-- 'cadenzalaw20.EnframeLength': WHATEVER THE INPUT: true; the input reads as it did. -/
def enframeLengthSpec : ChangeSpec := { name := "enframeLength", fn := fun _ => fun
  | [d1, d2, d3] => { results := [.lit (.bool true)], args := [d1, d2, d3] }
  | _ => none }
def enframeLengthRow : OpenClaim := { program := "ytkngajpinabacaa", sum := "2c89eb9141cd29d1ef5da523592ecb5501c537de1a6b9f08309b2c6ed0ce9ca2", func := "cadenza/cadenzalaw20.EnframeLength", spec := "enframeLength", unfollowed := true, recurses := true, apart := false }
def EnframeLengthSaid : Prop := enframeLengthRow.holds Try.pinned (OpenSpec.ofChange enframeLengthSpec)

/-- ITS FALSE NEIGHBOUR: 'it returns false'. Refute it at one input. -/
def enframeLengthWrong : ChangeSpec := { name := "enframeLength", fn := fun _ => fun
  | [d1, d2, d3] => { results := [.lit (.bool false)], args := [d1, d2, d3] }
  | _ => none }
def EnframeLengthWrongFalsely : Prop := enframeLengthRow.holds Try.pinned (OpenSpec.ofChange enframeLengthWrong)

/-- 'cadenzalaw20.EnframeFirst': WHATEVER THE INPUT: true; the input reads as it did. -/
def enframeFirstSpec : ChangeSpec := { name := "enframeFirst", fn := fun _ => fun
  | [d1, d2, d3, d4] => { results := [.lit (.bool true)], args := [d1, d2, d3, d4] }
  | _ => none }
def enframeFirstRow : OpenClaim := { program := "ytkngajpinabacaa", sum := "2c89eb9141cd29d1ef5da523592ecb5501c537de1a6b9f08309b2c6ed0ce9ca2", func := "cadenza/cadenzalaw20.EnframeFirst", spec := "enframeFirst", unfollowed := true, recurses := true, apart := false }
def EnframeFirstSaid : Prop := enframeFirstRow.holds Try.pinned (OpenSpec.ofChange enframeFirstSpec)

/-- ITS FALSE NEIGHBOUR: 'it returns false'. Refute it at one input. -/
def enframeFirstWrong : ChangeSpec := { name := "enframeFirst", fn := fun _ => fun
  | [d1, d2, d3, d4] => { results := [.lit (.bool false)], args := [d1, d2, d3, d4] }
  | _ => none }
def EnframeFirstWrongFalsely : Prop := enframeFirstRow.holds Try.pinned (OpenSpec.ofChange enframeFirstWrong)

/-- 'cadenzalaw20.EnframeParts': WHATEVER THE INPUT: true; the input reads as it did. -/
def enframePartsSpec : ChangeSpec := { name := "enframeParts", fn := fun _ => fun
  | [d1, d2, d3, d4] => { results := [.lit (.bool true)], args := [d1, d2, d3, d4] }
  | _ => none }
def enframePartsRow : OpenClaim := { program := "ytkngajpinabacaa", sum := "2c89eb9141cd29d1ef5da523592ecb5501c537de1a6b9f08309b2c6ed0ce9ca2", func := "cadenza/cadenzalaw20.EnframeParts", spec := "enframeParts", unfollowed := true, recurses := true, apart := false }
def EnframePartsSaid : Prop := enframePartsRow.holds Try.pinned (OpenSpec.ofChange enframePartsSpec)

/-- ITS FALSE NEIGHBOUR: 'it returns false'. Refute it at one input. -/
def enframePartsWrong : ChangeSpec := { name := "enframeParts", fn := fun _ => fun
  | [d1, d2, d3, d4] => { results := [.lit (.bool false)], args := [d1, d2, d3, d4] }
  | _ => none }
def EnframePartsWrongFalsely : Prop := enframePartsRow.holds Try.pinned (OpenSpec.ofChange enframePartsWrong)

/-- 'cadenzalaw20.EnframeOne': WHATEVER THE INPUT: true; the input reads as it did. -/
def enframeOneSpec : ChangeSpec := { name := "enframeOne", fn := fun _ => fun
  | [d1, d2, d3] => { results := [.lit (.bool true)], args := [d1, d2, d3] }
  | _ => none }
def enframeOneRow : OpenClaim := { program := "ytkngajpinabacaa", sum := "2c89eb9141cd29d1ef5da523592ecb5501c537de1a6b9f08309b2c6ed0ce9ca2", func := "cadenza/cadenzalaw20.EnframeOne", spec := "enframeOne", unfollowed := true, recurses := true, apart := false }
def EnframeOneSaid : Prop := enframeOneRow.holds Try.pinned (OpenSpec.ofChange enframeOneSpec)

/-- ITS FALSE NEIGHBOUR: 'it returns false'. Refute it at one input. -/
def enframeOneWrong : ChangeSpec := { name := "enframeOne", fn := fun _ => fun
  | [d1, d2, d3] => { results := [.lit (.bool false)], args := [d1, d2, d3] }
  | _ => none }
def EnframeOneWrongFalsely : Prop := enframeOneRow.holds Try.pinned (OpenSpec.ofChange enframeOneWrong)

/- THE SECOND FORM. 'bulk': how many values and letters a reading holds, each counted each time it is reached (what is shared counts as often as it is met; a slice's spare places count too). A statement '..UptoSaid' is the law's where the arguments, and the package variables that the reading takes, are together of bulk at most 1048576: NARROWER than '..Said'. Prove '..Said' where nothing that the law and all that it calls make is longer than what came in: it says more and counts as full. Else prove '..UptoSaid'. A law counts once. -/
mutual
def uptoBulk {H : Type} : DataW H → Nat
  | .lit (.string bytes) => bytes.length + 1
  | .lit _ => 1
  | .nil => 1
  | .ptr d => uptoBulk d + 1
  | .slice elems spare => uptoBulkAll elems + uptoBulkAll spare + 1
  | .agg parts => uptoBulkAll parts + 1
  | .iface _ d => uptoBulk d + 1
  | .map entries => uptoBulkEntries entries + 1
  | .held _ => 1
def uptoBulkAll {H : Type} : List (DataW H) → Nat
  | [] => 0
  | d :: r => uptoBulk d + uptoBulkAll r
def uptoBulkEntries {H : Type} : List (Lit × DataW H) → Nat
  | [] => 0
  | x :: r => uptoBulkEntry x + uptoBulkEntries r
def uptoBulkEntry {H : Type} : Lit × DataW H → Nat
  | (.string bytes, d) => bytes.length + uptoBulk d + 1
  | (_, d) => uptoBulk d + 1
 end
def uptoSmall : (H : Type) → List (DataW H) → Bool := fun _ ds => decide (uptoBulkAll ds ≤ 1048576)
def OpenSpec.upto (s : _root_.Go.ChangeSpec) : _root_.Go.OpenSpec := { _root_.Go.OpenSpec.ofChange s with cond := some uptoSmall }

/-- 'cadenzalaw20.EnframeNames', WHERE WHAT IT READS IS OF BULK AT MOST 1048576: true; the input reads as it did. -/
def enframeNamesUptoRow : OpenClaim := { program := "ytkngajpinabacaa", sum := "2c89eb9141cd29d1ef5da523592ecb5501c537de1a6b9f08309b2c6ed0ce9ca2", func := "cadenza/cadenzalaw20.EnframeNames", spec := "enframeNames", unfollowed := true, recurses := true, apart := false, narrowed := true }
def EnframeNamesUptoSaid : Prop := enframeNamesUptoRow.holds Try.pinned (OpenSpec.upto enframeNamesSpec)

/-- 'cadenzalaw20.EnframeLength', WHERE WHAT IT READS IS OF BULK AT MOST 1048576: true; the input reads as it did. -/
def enframeLengthUptoRow : OpenClaim := { program := "ytkngajpinabacaa", sum := "2c89eb9141cd29d1ef5da523592ecb5501c537de1a6b9f08309b2c6ed0ce9ca2", func := "cadenza/cadenzalaw20.EnframeLength", spec := "enframeLength", unfollowed := true, recurses := true, apart := false, narrowed := true }
def EnframeLengthUptoSaid : Prop := enframeLengthUptoRow.holds Try.pinned (OpenSpec.upto enframeLengthSpec)

/-- 'cadenzalaw20.EnframeFirst', WHERE WHAT IT READS IS OF BULK AT MOST 1048576: true; the input reads as it did. -/
def enframeFirstUptoRow : OpenClaim := { program := "ytkngajpinabacaa", sum := "2c89eb9141cd29d1ef5da523592ecb5501c537de1a6b9f08309b2c6ed0ce9ca2", func := "cadenza/cadenzalaw20.EnframeFirst", spec := "enframeFirst", unfollowed := true, recurses := true, apart := false, narrowed := true }
def EnframeFirstUptoSaid : Prop := enframeFirstUptoRow.holds Try.pinned (OpenSpec.upto enframeFirstSpec)

/-- 'cadenzalaw20.EnframeParts', WHERE WHAT IT READS IS OF BULK AT MOST 1048576: true; the input reads as it did. -/
def enframePartsUptoRow : OpenClaim := { program := "ytkngajpinabacaa", sum := "2c89eb9141cd29d1ef5da523592ecb5501c537de1a6b9f08309b2c6ed0ce9ca2", func := "cadenza/cadenzalaw20.EnframeParts", spec := "enframeParts", unfollowed := true, recurses := true, apart := false, narrowed := true }
def EnframePartsUptoSaid : Prop := enframePartsUptoRow.holds Try.pinned (OpenSpec.upto enframePartsSpec)

/-- 'cadenzalaw20.EnframeOne', WHERE WHAT IT READS IS OF BULK AT MOST 1048576: true; the input reads as it did. -/
def enframeOneUptoRow : OpenClaim := { program := "ytkngajpinabacaa", sum := "2c89eb9141cd29d1ef5da523592ecb5501c537de1a6b9f08309b2c6ed0ce9ca2", func := "cadenza/cadenzalaw20.EnframeOne", spec := "enframeOne", unfollowed := true, recurses := true, apart := false, narrowed := true }
def EnframeOneUptoSaid : Prop := enframeOneUptoRow.holds Try.pinned (OpenSpec.upto enframeOneSpec)

end Rows
end Go.Proofs.Ytkngajpinabacaa

/-
  NARROWER THAN 'FOR EVERY INPUT', by the rows' own cells (each row's printed sentence says how): VerdictSays: laid · DeframeBack: laid · DeframeOnly: laid · DeframeSpoilt: laid · VerdictFewer: laid · VerdictLost: laid · VerdictBursts: laid.
  DERIVED. THE GIVEN ROWS OF THIS SEAT. 7 by the template 'for every input the law returns true; each argument reads behind the call as it read before'; 0 by the template 'total and deterministic' (their statements: YtdbcblibhbhckaaDoorTotals.lean).
  GIVEN WITH THE SEED: the statements are not yours to turn. If you find one false, say at which input.
  Laid BY PROGRAM, IN A SANDBOX (cutbox-rows.mjs): the forced cells as the released guide's own fill.sh prints them over the translation 8b33386db41eb43c… (all of the seat's roots in one cut). By AI agents, Wed Nov 11 2026. No macro, syntax, notation, axiom, sorry.
-/
import Derived.Test.YtdbcblibhbhckaaDoorChecked
import GoSem.Claim
import GoSem.ClaimJoined
import GoSem.ClaimMapViews
import Derived.JoinedTies
import Derived.KernelRfl
namespace Go.Proofs.YtdbcblibhbhckaaDoor
/- THE CELL 'sum', in the pinned program and in every row, IS THE sha256 OF THE DUMP (.gsa) THAT YtdbcblibhbhckaaDoorProg.lean LOADS. Nothing in Lean hashes anything: it is a label: what it is worth is what the hold of that sum in a sandbox is worth. -/
noncomputable def Tryd.pinned : Pinned := { name := "ytdbcblibhbhckaadoor", sum := "8b33386db41eb43c3aa81e39ea80f4f5719c9ca151dd8271a18f667c98578063", checked := Tryd.checked }
namespace Rows
def none {H : Type} : Left H := { results := [], args := [] }

/- WHAT THE LISTED PACKAGE-LEVEL VARIABLES READ AS WHEN THE CALL BEGINS. Each datum BY PROGRAM (the guide's laid-datum.mjs) off the statement by which the dump's own 'gosem.cut.vars' lays the variable. In a bare row this is a premise. The card (YtdbcblibhbhckaaDoorCards.lean) ties it to the program's text. -/
def laid_math_bits_deBruijn64tab {H : Type} : DataW H := .agg [.lit (.int .u8 0), .lit (.int .u8 1), .lit (.int .u8 56), .lit (.int .u8 2), .lit (.int .u8 57), .lit (.int .u8 49), .lit (.int .u8 28), .lit (.int .u8 3), .lit (.int .u8 61), .lit (.int .u8 58), .lit (.int .u8 42), .lit (.int .u8 50), .lit (.int .u8 38), .lit (.int .u8 29), .lit (.int .u8 17), .lit (.int .u8 4), .lit (.int .u8 62), .lit (.int .u8 47), .lit (.int .u8 59), .lit (.int .u8 36), .lit (.int .u8 45), .lit (.int .u8 43), .lit (.int .u8 51), .lit (.int .u8 22), .lit (.int .u8 53), .lit (.int .u8 39), .lit (.int .u8 33), .lit (.int .u8 30), .lit (.int .u8 24), .lit (.int .u8 18), .lit (.int .u8 12), .lit (.int .u8 5), .lit (.int .u8 63), .lit (.int .u8 55), .lit (.int .u8 48), .lit (.int .u8 27), .lit (.int .u8 60), .lit (.int .u8 41), .lit (.int .u8 37), .lit (.int .u8 16), .lit (.int .u8 46), .lit (.int .u8 35), .lit (.int .u8 44), .lit (.int .u8 21), .lit (.int .u8 52), .lit (.int .u8 32), .lit (.int .u8 23), .lit (.int .u8 11), .lit (.int .u8 54), .lit (.int .u8 26), .lit (.int .u8 40), .lit (.int .u8 15), .lit (.int .u8 34), .lit (.int .u8 20), .lit (.int .u8 31), .lit (.int .u8 10), .lit (.int .u8 25), .lit (.int .u8 14), .lit (.int .u8 19), .lit (.int .u8 9), .lit (.int .u8 13), .lit (.int .u8 8), .lit (.int .u8 7), .lit (.int .u8 6)]

/-- 'cadenzalaw23.VerdictSays': WHATEVER THE INPUT: true; the input reads as it did. -/
def verdictSaysSpec : ChangeSpec := { name := "verdictSays", fn := fun _ => fun
  | [d1, d2, d3, d4] => { results := [.lit (.bool true)], args := [d1, d2, d3, d4] }
  | _ => none }
def verdictSaysRow : OpenClaim := { program := "ytdbcblibhbhckaadoor", sum := "8b33386db41eb43c3aa81e39ea80f4f5719c9ca151dd8271a18f667c98578063", func := "cadenza/cadenzalaw23.VerdictSays", spec := "verdictSays", unfollowed := true, recurses := true, named := ["math/bits.deBruijn64tab"], apart := false, laid := [("math/bits.deBruijn64tab", laid_math_bits_deBruijn64tab)] }
def VerdictSaysSaid : Prop := verdictSaysRow.holds Tryd.pinned (OpenSpec.ofChange verdictSaysSpec)

/-- ITS FALSE NEIGHBOUR: 'it returns false'. Refute it at one input. -/
def verdictSaysWrong : ChangeSpec := { name := "verdictSays", fn := fun _ => fun
  | [d1, d2, d3, d4] => { results := [.lit (.bool false)], args := [d1, d2, d3, d4] }
  | _ => none }
def VerdictSaysWrongFalsely : Prop := verdictSaysRow.holds Tryd.pinned (OpenSpec.ofChange verdictSaysWrong)

/-- 'cadenzalaw21.DeframeBack': WHATEVER THE INPUT: true; the input reads as it did. -/
def deframeBackSpec : ChangeSpec := { name := "deframeBack", fn := fun _ => fun
  | [d1, d2, d3] => { results := [.lit (.bool true)], args := [d1, d2, d3] }
  | _ => none }
def deframeBackRow : OpenClaim := { program := "ytdbcblibhbhckaadoor", sum := "8b33386db41eb43c3aa81e39ea80f4f5719c9ca151dd8271a18f667c98578063", func := "cadenza/cadenzalaw21.DeframeBack", spec := "deframeBack", unfollowed := true, recurses := true, named := ["math/bits.deBruijn64tab"], apart := false, laid := [("math/bits.deBruijn64tab", laid_math_bits_deBruijn64tab)] }
def DeframeBackSaid : Prop := deframeBackRow.holds Tryd.pinned (OpenSpec.ofChange deframeBackSpec)

/-- ITS FALSE NEIGHBOUR: 'it returns false'. Refute it at one input. -/
def deframeBackWrong : ChangeSpec := { name := "deframeBack", fn := fun _ => fun
  | [d1, d2, d3] => { results := [.lit (.bool false)], args := [d1, d2, d3] }
  | _ => none }
def DeframeBackWrongFalsely : Prop := deframeBackRow.holds Tryd.pinned (OpenSpec.ofChange deframeBackWrong)

/-- 'cadenzalaw21.DeframeOnly': WHATEVER THE INPUT: true; the input reads as it did. -/
def deframeOnlySpec : ChangeSpec := { name := "deframeOnly", fn := fun _ => fun
  | [d1, d2, d3, d4, d5] => { results := [.lit (.bool true)], args := [d1, d2, d3, d4, d5] }
  | _ => none }
def deframeOnlyRow : OpenClaim := { program := "ytdbcblibhbhckaadoor", sum := "8b33386db41eb43c3aa81e39ea80f4f5719c9ca151dd8271a18f667c98578063", func := "cadenza/cadenzalaw21.DeframeOnly", spec := "deframeOnly", unfollowed := true, recurses := true, named := ["math/bits.deBruijn64tab"], apart := false, laid := [("math/bits.deBruijn64tab", laid_math_bits_deBruijn64tab)] }
def DeframeOnlySaid : Prop := deframeOnlyRow.holds Tryd.pinned (OpenSpec.ofChange deframeOnlySpec)

/-- ITS FALSE NEIGHBOUR: 'it returns false'. Refute it at one input. -/
def deframeOnlyWrong : ChangeSpec := { name := "deframeOnly", fn := fun _ => fun
  | [d1, d2, d3, d4, d5] => { results := [.lit (.bool false)], args := [d1, d2, d3, d4, d5] }
  | _ => none }
def DeframeOnlyWrongFalsely : Prop := deframeOnlyRow.holds Tryd.pinned (OpenSpec.ofChange deframeOnlyWrong)

/-- 'cadenzalaw21.DeframeSpoilt': WHATEVER THE INPUT: true; the input reads as it did. -/
def deframeSpoiltSpec : ChangeSpec := { name := "deframeSpoilt", fn := fun _ => fun
  | [d1, d2, d3, d4, d5] => { results := [.lit (.bool true)], args := [d1, d2, d3, d4, d5] }
  | _ => none }
def deframeSpoiltRow : OpenClaim := { program := "ytdbcblibhbhckaadoor", sum := "8b33386db41eb43c3aa81e39ea80f4f5719c9ca151dd8271a18f667c98578063", func := "cadenza/cadenzalaw21.DeframeSpoilt", spec := "deframeSpoilt", unfollowed := true, recurses := true, named := ["math/bits.deBruijn64tab"], apart := false, laid := [("math/bits.deBruijn64tab", laid_math_bits_deBruijn64tab)] }
def DeframeSpoiltSaid : Prop := deframeSpoiltRow.holds Tryd.pinned (OpenSpec.ofChange deframeSpoiltSpec)

/-- ITS FALSE NEIGHBOUR: 'it returns false'. Refute it at one input. -/
def deframeSpoiltWrong : ChangeSpec := { name := "deframeSpoilt", fn := fun _ => fun
  | [d1, d2, d3, d4, d5] => { results := [.lit (.bool false)], args := [d1, d2, d3, d4, d5] }
  | _ => none }
def DeframeSpoiltWrongFalsely : Prop := deframeSpoiltRow.holds Tryd.pinned (OpenSpec.ofChange deframeSpoiltWrong)

/-- 'cadenzalaw23.VerdictFewer': WHATEVER THE INPUT: true; the input reads as it did. -/
def verdictFewerSpec : ChangeSpec := { name := "verdictFewer", fn := fun _ => fun
  | [d1, d2, d3, d4] => { results := [.lit (.bool true)], args := [d1, d2, d3, d4] }
  | _ => none }
def verdictFewerRow : OpenClaim := { program := "ytdbcblibhbhckaadoor", sum := "8b33386db41eb43c3aa81e39ea80f4f5719c9ca151dd8271a18f667c98578063", func := "cadenza/cadenzalaw23.VerdictFewer", spec := "verdictFewer", unfollowed := true, recurses := true, named := ["math/bits.deBruijn64tab"], apart := false, laid := [("math/bits.deBruijn64tab", laid_math_bits_deBruijn64tab)] }
def VerdictFewerSaid : Prop := verdictFewerRow.holds Tryd.pinned (OpenSpec.ofChange verdictFewerSpec)

/-- ITS FALSE NEIGHBOUR: 'it returns false'. Refute it at one input. -/
def verdictFewerWrong : ChangeSpec := { name := "verdictFewer", fn := fun _ => fun
  | [d1, d2, d3, d4] => { results := [.lit (.bool false)], args := [d1, d2, d3, d4] }
  | _ => none }
def VerdictFewerWrongFalsely : Prop := verdictFewerRow.holds Tryd.pinned (OpenSpec.ofChange verdictFewerWrong)

/-- 'cadenzalaw23.VerdictLost': WHATEVER THE INPUT: true; the input reads as it did. -/
def verdictLostSpec : ChangeSpec := { name := "verdictLost", fn := fun _ => fun
  | [d1, d2, d3, d4] => { results := [.lit (.bool true)], args := [d1, d2, d3, d4] }
  | _ => none }
def verdictLostRow : OpenClaim := { program := "ytdbcblibhbhckaadoor", sum := "8b33386db41eb43c3aa81e39ea80f4f5719c9ca151dd8271a18f667c98578063", func := "cadenza/cadenzalaw23.VerdictLost", spec := "verdictLost", unfollowed := true, recurses := true, named := ["math/bits.deBruijn64tab"], apart := false, laid := [("math/bits.deBruijn64tab", laid_math_bits_deBruijn64tab)] }
def VerdictLostSaid : Prop := verdictLostRow.holds Tryd.pinned (OpenSpec.ofChange verdictLostSpec)

/-- ITS FALSE NEIGHBOUR: 'it returns false'. Refute it at one input. -/
def verdictLostWrong : ChangeSpec := { name := "verdictLost", fn := fun _ => fun
  | [d1, d2, d3, d4] => { results := [.lit (.bool false)], args := [d1, d2, d3, d4] }
  | _ => none }
def VerdictLostWrongFalsely : Prop := verdictLostRow.holds Tryd.pinned (OpenSpec.ofChange verdictLostWrong)

/-- 'cadenzalaw23.VerdictBursts': WHATEVER THE INPUT: true; the input reads as it did. -/
def verdictBurstsSpec : ChangeSpec := { name := "verdictBursts", fn := fun _ => fun
  | [d1, d2, d3, d4, d5] => { results := [.lit (.bool true)], args := [d1, d2, d3, d4, d5] }
  | _ => none }
def verdictBurstsRow : OpenClaim := { program := "ytdbcblibhbhckaadoor", sum := "8b33386db41eb43c3aa81e39ea80f4f5719c9ca151dd8271a18f667c98578063", func := "cadenza/cadenzalaw23.VerdictBursts", spec := "verdictBursts", unfollowed := true, recurses := true, named := ["math/bits.deBruijn64tab"], apart := false, laid := [("math/bits.deBruijn64tab", laid_math_bits_deBruijn64tab)] }
def VerdictBurstsSaid : Prop := verdictBurstsRow.holds Tryd.pinned (OpenSpec.ofChange verdictBurstsSpec)

/-- ITS FALSE NEIGHBOUR: 'it returns false'. Refute it at one input. -/
def verdictBurstsWrong : ChangeSpec := { name := "verdictBursts", fn := fun _ => fun
  | [d1, d2, d3, d4, d5] => { results := [.lit (.bool false)], args := [d1, d2, d3, d4, d5] }
  | _ => none }
def VerdictBurstsWrongFalsely : Prop := verdictBurstsRow.holds Tryd.pinned (OpenSpec.ofChange verdictBurstsWrong)

/- THE SECOND FORM. 'bulk': how many values and letters a reading holds, each counted each time it is reached (what is shared counts as often as it is met; a slice's spare places count too). A statement '..UptoSaid' is the law's where the arguments, and the package variables that the reading takes, are together of bulk at most 1048576: NARROWER than '..Said'. Prove '..Said' where nothing that the law and all that it calls make is longer than what came in: it says more and counts as full. Else prove '..UptoSaid'. A law counts once. -/
mutual
def uptoBulk {H : Type} : DataW H → Nat
  | .lit (.string bytes) => bytes.length + 1
  | .lit _ => 1
  | .nil => 1
  | .ptr d => uptoBulk d + 1
  | .slice elems spare => uptoBulkAll elems + uptoBulkAll spare + 1
  | .agg parts => uptoBulkAll parts + 1
  | .iface _ d => uptoBulk d + 1
  | .map entries => uptoBulkEntries entries + 1
  | .held _ => 1
def uptoBulkAll {H : Type} : List (DataW H) → Nat
  | [] => 0
  | d :: r => uptoBulk d + uptoBulkAll r
def uptoBulkEntries {H : Type} : List (Lit × DataW H) → Nat
  | [] => 0
  | x :: r => uptoBulkEntry x + uptoBulkEntries r
def uptoBulkEntry {H : Type} : Lit × DataW H → Nat
  | (.string bytes, d) => bytes.length + uptoBulk d + 1
  | (_, d) => uptoBulk d + 1
 end
def uptoSmall : (H : Type) → List (DataW H) → Bool := fun _ ds => decide (uptoBulkAll ds ≤ 1048576)
def OpenSpec.upto (s : _root_.Go.ChangeSpec) : _root_.Go.OpenSpec := { _root_.Go.OpenSpec.ofChange s with cond := some uptoSmall }

/-- 'cadenzalaw23.VerdictSays', WHERE WHAT IT READS IS OF BULK AT MOST 1048576: true; the input reads as it did. -/
def verdictSaysUptoRow : OpenClaim := { program := "ytdbcblibhbhckaadoor", sum := "8b33386db41eb43c3aa81e39ea80f4f5719c9ca151dd8271a18f667c98578063", func := "cadenza/cadenzalaw23.VerdictSays", spec := "verdictSays", unfollowed := true, recurses := true, named := ["math/bits.deBruijn64tab"], apart := false, laid := [("math/bits.deBruijn64tab", laid_math_bits_deBruijn64tab)], narrowed := true }
def VerdictSaysUptoSaid : Prop := verdictSaysUptoRow.holds Tryd.pinned (OpenSpec.upto verdictSaysSpec)

/-- 'cadenzalaw21.DeframeBack', WHERE WHAT IT READS IS OF BULK AT MOST 1048576: true; the input reads as it did. -/
def deframeBackUptoRow : OpenClaim := { program := "ytdbcblibhbhckaadoor", sum := "8b33386db41eb43c3aa81e39ea80f4f5719c9ca151dd8271a18f667c98578063", func := "cadenza/cadenzalaw21.DeframeBack", spec := "deframeBack", unfollowed := true, recurses := true, named := ["math/bits.deBruijn64tab"], apart := false, laid := [("math/bits.deBruijn64tab", laid_math_bits_deBruijn64tab)], narrowed := true }
def DeframeBackUptoSaid : Prop := deframeBackUptoRow.holds Tryd.pinned (OpenSpec.upto deframeBackSpec)

/-- 'cadenzalaw21.DeframeOnly', WHERE WHAT IT READS IS OF BULK AT MOST 1048576: true; the input reads as it did. -/
def deframeOnlyUptoRow : OpenClaim := { program := "ytdbcblibhbhckaadoor", sum := "8b33386db41eb43c3aa81e39ea80f4f5719c9ca151dd8271a18f667c98578063", func := "cadenza/cadenzalaw21.DeframeOnly", spec := "deframeOnly", unfollowed := true, recurses := true, named := ["math/bits.deBruijn64tab"], apart := false, laid := [("math/bits.deBruijn64tab", laid_math_bits_deBruijn64tab)], narrowed := true }
def DeframeOnlyUptoSaid : Prop := deframeOnlyUptoRow.holds Tryd.pinned (OpenSpec.upto deframeOnlySpec)

/-- 'cadenzalaw21.DeframeSpoilt', WHERE WHAT IT READS IS OF BULK AT MOST 1048576: true; the input reads as it did. -/
def deframeSpoiltUptoRow : OpenClaim := { program := "ytdbcblibhbhckaadoor", sum := "8b33386db41eb43c3aa81e39ea80f4f5719c9ca151dd8271a18f667c98578063", func := "cadenza/cadenzalaw21.DeframeSpoilt", spec := "deframeSpoilt", unfollowed := true, recurses := true, named := ["math/bits.deBruijn64tab"], apart := false, laid := [("math/bits.deBruijn64tab", laid_math_bits_deBruijn64tab)], narrowed := true }
def DeframeSpoiltUptoSaid : Prop := deframeSpoiltUptoRow.holds Tryd.pinned (OpenSpec.upto deframeSpoiltSpec)

/-- 'cadenzalaw23.VerdictFewer', WHERE WHAT IT READS IS OF BULK AT MOST 1048576: true; the input reads as it did. -/
def verdictFewerUptoRow : OpenClaim := { program := "ytdbcblibhbhckaadoor", sum := "8b33386db41eb43c3aa81e39ea80f4f5719c9ca151dd8271a18f667c98578063", func := "cadenza/cadenzalaw23.VerdictFewer", spec := "verdictFewer", unfollowed := true, recurses := true, named := ["math/bits.deBruijn64tab"], apart := false, laid := [("math/bits.deBruijn64tab", laid_math_bits_deBruijn64tab)], narrowed := true }
def VerdictFewerUptoSaid : Prop := verdictFewerUptoRow.holds Tryd.pinned (OpenSpec.upto verdictFewerSpec)

/-- 'cadenzalaw23.VerdictLost', WHERE WHAT IT READS IS OF BULK AT MOST 1048576: true; the input reads as it did. -/
def verdictLostUptoRow : OpenClaim := { program := "ytdbcblibhbhckaadoor", sum := "8b33386db41eb43c3aa81e39ea80f4f5719c9ca151dd8271a18f667c98578063", func := "cadenza/cadenzalaw23.VerdictLost", spec := "verdictLost", unfollowed := true, recurses := true, named := ["math/bits.deBruijn64tab"], apart := false, laid := [("math/bits.deBruijn64tab", laid_math_bits_deBruijn64tab)], narrowed := true }
def VerdictLostUptoSaid : Prop := verdictLostUptoRow.holds Tryd.pinned (OpenSpec.upto verdictLostSpec)

/-- 'cadenzalaw23.VerdictBursts', WHERE WHAT IT READS IS OF BULK AT MOST 1048576: true; the input reads as it did. -/
def verdictBurstsUptoRow : OpenClaim := { program := "ytdbcblibhbhckaadoor", sum := "8b33386db41eb43c3aa81e39ea80f4f5719c9ca151dd8271a18f667c98578063", func := "cadenza/cadenzalaw23.VerdictBursts", spec := "verdictBursts", unfollowed := true, recurses := true, named := ["math/bits.deBruijn64tab"], apart := false, laid := [("math/bits.deBruijn64tab", laid_math_bits_deBruijn64tab)], narrowed := true }
def VerdictBurstsUptoSaid : Prop := verdictBurstsUptoRow.holds Tryd.pinned (OpenSpec.upto verdictBurstsSpec)

end Rows
end Go.Proofs.YtdbcblibhbhckaaDoor

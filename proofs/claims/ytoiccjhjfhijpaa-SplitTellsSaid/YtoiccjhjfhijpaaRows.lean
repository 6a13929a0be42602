/-
  No cell of these rows narrows 'for every input' (looked for: loops, veiled, ifaces, maps, wideKeys, modest, calm, conditions, laid).
  DERIVED. THE GIVEN ROWS OF THIS SEAT. 5 by the template 'for every input the law returns true; each argument reads behind the call as it read before'; 0 by the template 'total and deterministic' (their statements: YtoiccjhjfhijpaaTotals.lean).
  GIVEN WITH THE SEED: the statements are not yours to turn. If you find one false, say at which input.
  Laid BY PROGRAM, IN A SANDBOX (cutbox-rows.mjs): the forced cells as the released guide's own fill.sh prints them over the translation 087c01a174048c2a… (all of the seat's roots in one cut). By AI agents, Wed Nov 11 2026. No macro, syntax, notation, axiom, sorry.
-/
import Derived.Test.YtoiccjhjfhijpaaChecked
import GoSem.Claim
import GoSem.ClaimJoined
import GoSem.ClaimMapViews
import Derived.JoinedTies
import Derived.KernelRfl
namespace Go.Proofs.Ytoiccjhjfhijpaa
/- THE CELL 'sum', in the pinned program and in every row, IS THE sha256 OF THE DUMP (.gsa) THAT YtoiccjhjfhijpaaProg.lean LOADS. Nothing in Lean hashes anything: it is a label: what it is worth is what the hold of that sum in a sandbox is worth. -/
noncomputable def Try.pinned : Pinned := { name := "ytoiccjhjfhijpaa", sum := "087c01a174048c2a1e043cea411cb2f0e7aaf3ebb137d61ec0f1710c3cb9e6bd", checked := Try.checked }
namespace Rows
def none {H : Type} : Left H := { results := [], args := [] }

/-- 'stokvellaw18.SplitTells': WHATEVER THE INPUT: true; the input reads as it did. -/
def splitTellsSpec : ChangeSpec := { name := "splitTells", fn := fun _ => fun
  | [d1, d2, d3, d4] => { results := [.lit (.bool true)], args := [d1, d2, d3, d4] }
  | _ => none }
def splitTellsRow : OpenClaim := { program := "ytoiccjhjfhijpaa", sum := "087c01a174048c2a1e043cea411cb2f0e7aaf3ebb137d61ec0f1710c3cb9e6bd", func := "stokvel/stokvellaw18.SplitTells", spec := "splitTells", unfollowed := true, recurses := true, apart := false }
def SplitTellsSaid : Prop := splitTellsRow.holds Try.pinned (OpenSpec.ofChange splitTellsSpec)

/-- ITS FALSE NEIGHBOUR: 'it returns false'. Refute it at one input. -/
def splitTellsWrong : ChangeSpec := { name := "splitTells", fn := fun _ => fun
  | [d1, d2, d3, d4] => { results := [.lit (.bool false)], args := [d1, d2, d3, d4] }
  | _ => none }
def SplitTellsWrongFalsely : Prop := splitTellsRow.holds Try.pinned (OpenSpec.ofChange splitTellsWrong)

/-- 'stokvellaw18.SplitExact': WHATEVER THE INPUT: true; the input reads as it did. -/
def splitExactSpec : ChangeSpec := { name := "splitExact", fn := fun _ => fun
  | [d1, d2] => { results := [.lit (.bool true)], args := [d1, d2] }
  | _ => none }
def splitExactRow : OpenClaim := { program := "ytoiccjhjfhijpaa", sum := "087c01a174048c2a1e043cea411cb2f0e7aaf3ebb137d61ec0f1710c3cb9e6bd", func := "stokvel/stokvellaw18.SplitExact", spec := "splitExact", unfollowed := true, recurses := true, apart := false }
def SplitExactSaid : Prop := splitExactRow.holds Try.pinned (OpenSpec.ofChange splitExactSpec)

/-- ITS FALSE NEIGHBOUR: 'it returns false'. Refute it at one input. -/
def splitExactWrong : ChangeSpec := { name := "splitExact", fn := fun _ => fun
  | [d1, d2] => { results := [.lit (.bool false)], args := [d1, d2] }
  | _ => none }
def SplitExactWrongFalsely : Prop := splitExactRow.holds Try.pinned (OpenSpec.ofChange splitExactWrong)

/-- 'stokvellaw18.SplitGiven': WHATEVER THE INPUT: true; the input reads as it did. -/
def splitGivenSpec : ChangeSpec := { name := "splitGiven", fn := fun _ => fun
  | [d1, d2, d3] => { results := [.lit (.bool true)], args := [d1, d2, d3] }
  | _ => none }
def splitGivenRow : OpenClaim := { program := "ytoiccjhjfhijpaa", sum := "087c01a174048c2a1e043cea411cb2f0e7aaf3ebb137d61ec0f1710c3cb9e6bd", func := "stokvel/stokvellaw18.SplitGiven", spec := "splitGiven", unfollowed := true, recurses := true, apart := false }
def SplitGivenSaid : Prop := splitGivenRow.holds Try.pinned (OpenSpec.ofChange splitGivenSpec)

/-- ITS FALSE NEIGHBOUR: 'it returns false'. Refute it at one input. -/
def splitGivenWrong : ChangeSpec := { name := "splitGiven", fn := fun _ => fun
  | [d1, d2, d3] => { results := [.lit (.bool false)], args := [d1, d2, d3] }
  | _ => none }
def SplitGivenWrongFalsely : Prop := splitGivenRow.holds Try.pinned (OpenSpec.ofChange splitGivenWrong)

/-- 'stokvellaw18.SplitFair': WHATEVER THE INPUT: true; the input reads as it did. -/
def splitFairSpec : ChangeSpec := { name := "splitFair", fn := fun _ => fun
  | [d1, d2] => { results := [.lit (.bool true)], args := [d1, d2] }
  | _ => none }
def splitFairRow : OpenClaim := { program := "ytoiccjhjfhijpaa", sum := "087c01a174048c2a1e043cea411cb2f0e7aaf3ebb137d61ec0f1710c3cb9e6bd", func := "stokvel/stokvellaw18.SplitFair", spec := "splitFair", unfollowed := true, recurses := true, apart := false }
def SplitFairSaid : Prop := splitFairRow.holds Try.pinned (OpenSpec.ofChange splitFairSpec)

/-- ITS FALSE NEIGHBOUR: 'it returns false'. Refute it at one input. -/
def splitFairWrong : ChangeSpec := { name := "splitFair", fn := fun _ => fun
  | [d1, d2] => { results := [.lit (.bool false)], args := [d1, d2] }
  | _ => none }
def SplitFairWrongFalsely : Prop := splitFairRow.holds Try.pinned (OpenSpec.ofChange splitFairWrong)

/-- 'stokvellaw18.SplitScales': WHATEVER THE INPUT: true; the input reads as it did. -/
def splitScalesSpec : ChangeSpec := { name := "splitScales", fn := fun _ => fun
  | [d1, d2, d3, d4] => { results := [.lit (.bool true)], args := [d1, d2, d3, d4] }
  | _ => none }
def splitScalesRow : OpenClaim := { program := "ytoiccjhjfhijpaa", sum := "087c01a174048c2a1e043cea411cb2f0e7aaf3ebb137d61ec0f1710c3cb9e6bd", func := "stokvel/stokvellaw18.SplitScales", spec := "splitScales", unfollowed := true, recurses := true, apart := false }
def SplitScalesSaid : Prop := splitScalesRow.holds Try.pinned (OpenSpec.ofChange splitScalesSpec)

/-- ITS FALSE NEIGHBOUR: 'it returns false'. Refute it at one input. -/
def splitScalesWrong : ChangeSpec := { name := "splitScales", fn := fun _ => fun
  | [d1, d2, d3, d4] => { results := [.lit (.bool false)], args := [d1, d2, d3, d4] }
  | _ => none }
def SplitScalesWrongFalsely : Prop := splitScalesRow.holds Try.pinned (OpenSpec.ofChange splitScalesWrong)

/- THE SECOND FORM. 'bulk': how many values and letters a reading holds, each counted each time it is reached (what is shared counts as often as it is met; a slice's spare places count too). A statement '..UptoSaid' is the law's where the arguments, and the package variables that the reading takes, are together of bulk at most 1048576: NARROWER than '..Said'. Prove '..Said' where nothing that the law and all that it calls make is longer than what came in: it says more and counts as full. Else prove '..UptoSaid'. A law counts once. -/
mutual
def uptoBulk {H : Type} : DataW H → Nat
  | .lit (.string bytes) => bytes.length + 1
  | .lit _ => 1
  | .nil => 1
  | .ptr d => uptoBulk d + 1
  | .slice elems spare => uptoBulkAll elems + uptoBulkAll spare + 1
  | .agg parts => uptoBulkAll parts + 1
  | .iface _ d => uptoBulk d + 1
  | .map entries => uptoBulkEntries entries + 1
  | .held _ => 1
def uptoBulkAll {H : Type} : List (DataW H) → Nat
  | [] => 0
  | d :: r => uptoBulk d + uptoBulkAll r
def uptoBulkEntries {H : Type} : List (Lit × DataW H) → Nat
  | [] => 0
  | x :: r => uptoBulkEntry x + uptoBulkEntries r
def uptoBulkEntry {H : Type} : Lit × DataW H → Nat
  | (.string bytes, d) => bytes.length + uptoBulk d + 1
  | (_, d) => uptoBulk d + 1
 end
def uptoSmall : (H : Type) → List (DataW H) → Bool := fun _ ds => decide (uptoBulkAll ds ≤ 1048576)
def OpenSpec.upto (s : _root_.Go.ChangeSpec) : _root_.Go.OpenSpec := { _root_.Go.OpenSpec.ofChange s with cond := some uptoSmall }

/-- 'stokvellaw18.SplitTells', WHERE WHAT IT READS IS OF BULK AT MOST 1048576: true; the input reads as it did. -/
def splitTellsUptoRow : OpenClaim := { program := "ytoiccjhjfhijpaa", sum := "087c01a174048c2a1e043cea411cb2f0e7aaf3ebb137d61ec0f1710c3cb9e6bd", func := "stokvel/stokvellaw18.SplitTells", spec := "splitTells", unfollowed := true, recurses := true, apart := false, narrowed := true }
def SplitTellsUptoSaid : Prop := splitTellsUptoRow.holds Try.pinned (OpenSpec.upto splitTellsSpec)

/-- 'stokvellaw18.SplitExact', WHERE WHAT IT READS IS OF BULK AT MOST 1048576: true; the input reads as it did. -/
def splitExactUptoRow : OpenClaim := { program := "ytoiccjhjfhijpaa", sum := "087c01a174048c2a1e043cea411cb2f0e7aaf3ebb137d61ec0f1710c3cb9e6bd", func := "stokvel/stokvellaw18.SplitExact", spec := "splitExact", unfollowed := true, recurses := true, apart := false, narrowed := true }
def SplitExactUptoSaid : Prop := splitExactUptoRow.holds Try.pinned (OpenSpec.upto splitExactSpec)

/-- 'stokvellaw18.SplitGiven', WHERE WHAT IT READS IS OF BULK AT MOST 1048576: true; the input reads as it did. -/
def splitGivenUptoRow : OpenClaim := { program := "ytoiccjhjfhijpaa", sum := "087c01a174048c2a1e043cea411cb2f0e7aaf3ebb137d61ec0f1710c3cb9e6bd", func := "stokvel/stokvellaw18.SplitGiven", spec := "splitGiven", unfollowed := true, recurses := true, apart := false, narrowed := true }
def SplitGivenUptoSaid : Prop := splitGivenUptoRow.holds Try.pinned (OpenSpec.upto splitGivenSpec)

/-- 'stokvellaw18.SplitFair', WHERE WHAT IT READS IS OF BULK AT MOST 1048576: true; the input reads as it did. -/
def splitFairUptoRow : OpenClaim := { program := "ytoiccjhjfhijpaa", sum := "087c01a174048c2a1e043cea411cb2f0e7aaf3ebb137d61ec0f1710c3cb9e6bd", func := "stokvel/stokvellaw18.SplitFair", spec := "splitFair", unfollowed := true, recurses := true, apart := false, narrowed := true }
def SplitFairUptoSaid : Prop := splitFairUptoRow.holds Try.pinned (OpenSpec.upto splitFairSpec)

/-- 'stokvellaw18.SplitScales', WHERE WHAT IT READS IS OF BULK AT MOST 1048576: true; the input reads as it did. -/
def splitScalesUptoRow : OpenClaim := { program := "ytoiccjhjfhijpaa", sum := "087c01a174048c2a1e043cea411cb2f0e7aaf3ebb137d61ec0f1710c3cb9e6bd", func := "stokvel/stokvellaw18.SplitScales", spec := "splitScales", unfollowed := true, recurses := true, apart := false, narrowed := true }
def SplitScalesUptoSaid : Prop := splitScalesUptoRow.holds Try.pinned (OpenSpec.upto splitScalesSpec)

end Rows
end Go.Proofs.Ytoiccjhjfhijpaa

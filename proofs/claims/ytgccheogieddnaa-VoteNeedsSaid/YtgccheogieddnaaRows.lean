/-
  No cell of these rows narrows 'for every input' (looked for: loops, veiled, ifaces, maps, wideKeys, modest, calm, conditions, laid).
  DERIVED. THE GIVEN ROWS OF THIS SEAT. 5 by the template 'for every input the law returns true; each argument reads behind the call as it read before'; 0 by the template 'total and deterministic' (their statements: YtgccheogieddnaaTotals.lean).
  GIVEN WITH THE SEED: the statements are not yours to turn. If you find one false, say at which input.
  Laid BY PROGRAM, IN A SANDBOX (cutbox-rows.mjs): the forced cells as the released guide's own fill.sh prints them over the translation 1850f8e25051ea10… (all of the seat's roots in one cut). By AI agents, Wed Nov 11 2026. No macro, syntax, notation, axiom, sorry.
-/
import Derived.Test.YtgccheogieddnaaChecked
import GoSem.Claim
import GoSem.ClaimJoined
import GoSem.ClaimMapViews
import Derived.JoinedTies
import Derived.KernelRfl
namespace Go.Proofs.Ytgccheogieddnaa
/- THE CELL 'sum', in the pinned program and in every row, IS THE sha256 OF THE DUMP (.gsa) THAT YtgccheogieddnaaProg.lean LOADS. Nothing in Lean hashes anything: it is a label: what it is worth is what the hold of that sum in a sandbox is worth. -/
noncomputable def Try.pinned : Pinned := { name := "ytgccheogieddnaa", sum := "1850f8e25051ea10f0f635a7f647bcecb65db1827a3aac07b51c849fe6ad0a67", checked := Try.checked }
namespace Rows
def none {H : Type} : Left H := { results := [], args := [] }

/-- 'stokvellaw31.VoteTells': WHATEVER THE INPUT: true; the input reads as it did. -/
def voteTellsSpec : ChangeSpec := { name := "voteTells", fn := fun _ => fun
  | [d1, d2, d3, d4, d5, d6] => { results := [.lit (.bool true)], args := [d1, d2, d3, d4, d5, d6] }
  | _ => none }
def voteTellsRow : OpenClaim := { program := "ytgccheogieddnaa", sum := "1850f8e25051ea10f0f635a7f647bcecb65db1827a3aac07b51c849fe6ad0a67", func := "stokvel/stokvellaw31.VoteTells", spec := "voteTells", apart := false }
def VoteTellsSaid : Prop := voteTellsRow.holds Try.pinned (OpenSpec.ofChange voteTellsSpec)

/-- ITS FALSE NEIGHBOUR: 'it returns false'. Refute it at one input. -/
def voteTellsWrong : ChangeSpec := { name := "voteTells", fn := fun _ => fun
  | [d1, d2, d3, d4, d5, d6] => { results := [.lit (.bool false)], args := [d1, d2, d3, d4, d5, d6] }
  | _ => none }
def VoteTellsWrongFalsely : Prop := voteTellsRow.holds Try.pinned (OpenSpec.ofChange voteTellsWrong)

/-- 'stokvellaw31.VoteStays': WHATEVER THE INPUT: true; the input reads as it did. -/
def voteStaysSpec : ChangeSpec := { name := "voteStays", fn := fun _ => fun
  | [d1, d2, d3, d4, d5, d6, d7] => { results := [.lit (.bool true)], args := [d1, d2, d3, d4, d5, d6, d7] }
  | _ => none }
def voteStaysRow : OpenClaim := { program := "ytgccheogieddnaa", sum := "1850f8e25051ea10f0f635a7f647bcecb65db1827a3aac07b51c849fe6ad0a67", func := "stokvel/stokvellaw31.VoteStays", spec := "voteStays", apart := false }
def VoteStaysSaid : Prop := voteStaysRow.holds Try.pinned (OpenSpec.ofChange voteStaysSpec)

/-- ITS FALSE NEIGHBOUR: 'it returns false'. Refute it at one input. -/
def voteStaysWrong : ChangeSpec := { name := "voteStays", fn := fun _ => fun
  | [d1, d2, d3, d4, d5, d6, d7] => { results := [.lit (.bool false)], args := [d1, d2, d3, d4, d5, d6, d7] }
  | _ => none }
def VoteStaysWrongFalsely : Prop := voteStaysRow.holds Try.pinned (OpenSpec.ofChange voteStaysWrong)

/-- 'stokvellaw31.VoteCounts': WHATEVER THE INPUT: true; the input reads as it did. -/
def voteCountsSpec : ChangeSpec := { name := "voteCounts", fn := fun _ => fun
  | [d1, d2, d3, d4, d5] => { results := [.lit (.bool true)], args := [d1, d2, d3, d4, d5] }
  | _ => none }
def voteCountsRow : OpenClaim := { program := "ytgccheogieddnaa", sum := "1850f8e25051ea10f0f635a7f647bcecb65db1827a3aac07b51c849fe6ad0a67", func := "stokvel/stokvellaw31.VoteCounts", spec := "voteCounts", apart := false }
def VoteCountsSaid : Prop := voteCountsRow.holds Try.pinned (OpenSpec.ofChange voteCountsSpec)

/-- ITS FALSE NEIGHBOUR: 'it returns false'. Refute it at one input. -/
def voteCountsWrong : ChangeSpec := { name := "voteCounts", fn := fun _ => fun
  | [d1, d2, d3, d4, d5] => { results := [.lit (.bool false)], args := [d1, d2, d3, d4, d5] }
  | _ => none }
def VoteCountsWrongFalsely : Prop := voteCountsRow.holds Try.pinned (OpenSpec.ofChange voteCountsWrong)

/-- 'stokvellaw31.VoteTurns': WHATEVER THE INPUT: true; the input reads as it did. -/
def voteTurnsSpec : ChangeSpec := { name := "voteTurns", fn := fun _ => fun
  | [d1, d2, d3, d4, d5, d6, d7] => { results := [.lit (.bool true)], args := [d1, d2, d3, d4, d5, d6, d7] }
  | _ => none }
def voteTurnsRow : OpenClaim := { program := "ytgccheogieddnaa", sum := "1850f8e25051ea10f0f635a7f647bcecb65db1827a3aac07b51c849fe6ad0a67", func := "stokvel/stokvellaw31.VoteTurns", spec := "voteTurns", apart := false }
def VoteTurnsSaid : Prop := voteTurnsRow.holds Try.pinned (OpenSpec.ofChange voteTurnsSpec)

/-- ITS FALSE NEIGHBOUR: 'it returns false'. Refute it at one input. -/
def voteTurnsWrong : ChangeSpec := { name := "voteTurns", fn := fun _ => fun
  | [d1, d2, d3, d4, d5, d6, d7] => { results := [.lit (.bool false)], args := [d1, d2, d3, d4, d5, d6, d7] }
  | _ => none }
def VoteTurnsWrongFalsely : Prop := voteTurnsRow.holds Try.pinned (OpenSpec.ofChange voteTurnsWrong)

/-- 'stokvellaw31.VoteNeeds': WHATEVER THE INPUT: true; the input reads as it did. -/
def voteNeedsSpec : ChangeSpec := { name := "voteNeeds", fn := fun _ => fun
  | [d1, d2, d3] => { results := [.lit (.bool true)], args := [d1, d2, d3] }
  | _ => none }
def voteNeedsRow : OpenClaim := { program := "ytgccheogieddnaa", sum := "1850f8e25051ea10f0f635a7f647bcecb65db1827a3aac07b51c849fe6ad0a67", func := "stokvel/stokvellaw31.VoteNeeds", spec := "voteNeeds", apart := false }
def VoteNeedsSaid : Prop := voteNeedsRow.holds Try.pinned (OpenSpec.ofChange voteNeedsSpec)

/-- ITS FALSE NEIGHBOUR: 'it returns false'. Refute it at one input. -/
def voteNeedsWrong : ChangeSpec := { name := "voteNeeds", fn := fun _ => fun
  | [d1, d2, d3] => { results := [.lit (.bool false)], args := [d1, d2, d3] }
  | _ => none }
def VoteNeedsWrongFalsely : Prop := voteNeedsRow.holds Try.pinned (OpenSpec.ofChange voteNeedsWrong)

/- THE SECOND FORM. 'bulk': how many values and letters a reading holds, each counted each time it is reached (what is shared counts as often as it is met; a slice's spare places count too). A statement '..UptoSaid' is the law's where the arguments, and the package variables that the reading takes, are together of bulk at most 1048576: NARROWER than '..Said'. Prove '..Said' where nothing that the law and all that it calls make is longer than what came in: it says more and counts as full. Else prove '..UptoSaid'. A law counts once. -/
mutual
def uptoBulk {H : Type} : DataW H → Nat
  | .lit (.string bytes) => bytes.length + 1
  | .lit _ => 1
  | .nil => 1
  | .ptr d => uptoBulk d + 1
  | .slice elems spare => uptoBulkAll elems + uptoBulkAll spare + 1
  | .agg parts => uptoBulkAll parts + 1
  | .iface _ d => uptoBulk d + 1
  | .map entries => uptoBulkEntries entries + 1
  | .held _ => 1
def uptoBulkAll {H : Type} : List (DataW H) → Nat
  | [] => 0
  | d :: r => uptoBulk d + uptoBulkAll r
def uptoBulkEntries {H : Type} : List (Lit × DataW H) → Nat
  | [] => 0
  | x :: r => uptoBulkEntry x + uptoBulkEntries r
def uptoBulkEntry {H : Type} : Lit × DataW H → Nat
  | (.string bytes, d) => bytes.length + uptoBulk d + 1
  | (_, d) => uptoBulk d + 1
 end
def uptoSmall : (H : Type) → List (DataW H) → Bool := fun _ ds => decide (uptoBulkAll ds ≤ 1048576)
def OpenSpec.upto (s : _root_.Go.ChangeSpec) : _root_.Go.OpenSpec := { _root_.Go.OpenSpec.ofChange s with cond := some uptoSmall }

/-- 'stokvellaw31.VoteTells', WHERE WHAT IT READS IS OF BULK AT MOST 1048576: true; the input reads as it did. -/
def voteTellsUptoRow : OpenClaim := { program := "ytgccheogieddnaa", sum := "1850f8e25051ea10f0f635a7f647bcecb65db1827a3aac07b51c849fe6ad0a67", func := "stokvel/stokvellaw31.VoteTells", spec := "voteTells", apart := false, narrowed := true }
def VoteTellsUptoSaid : Prop := voteTellsUptoRow.holds Try.pinned (OpenSpec.upto voteTellsSpec)

/-- 'stokvellaw31.VoteStays', WHERE WHAT IT READS IS OF BULK AT MOST 1048576: true; the input reads as it did. -/
def voteStaysUptoRow : OpenClaim := { program := "ytgccheogieddnaa", sum := "1850f8e25051ea10f0f635a7f647bcecb65db1827a3aac07b51c849fe6ad0a67", func := "stokvel/stokvellaw31.VoteStays", spec := "voteStays", apart := false, narrowed := true }
def VoteStaysUptoSaid : Prop := voteStaysUptoRow.holds Try.pinned (OpenSpec.upto voteStaysSpec)

/-- 'stokvellaw31.VoteCounts', WHERE WHAT IT READS IS OF BULK AT MOST 1048576: true; the input reads as it did. -/
def voteCountsUptoRow : OpenClaim := { program := "ytgccheogieddnaa", sum := "1850f8e25051ea10f0f635a7f647bcecb65db1827a3aac07b51c849fe6ad0a67", func := "stokvel/stokvellaw31.VoteCounts", spec := "voteCounts", apart := false, narrowed := true }
def VoteCountsUptoSaid : Prop := voteCountsUptoRow.holds Try.pinned (OpenSpec.upto voteCountsSpec)

/-- 'stokvellaw31.VoteTurns', WHERE WHAT IT READS IS OF BULK AT MOST 1048576: true; the input reads as it did. -/
def voteTurnsUptoRow : OpenClaim := { program := "ytgccheogieddnaa", sum := "1850f8e25051ea10f0f635a7f647bcecb65db1827a3aac07b51c849fe6ad0a67", func := "stokvel/stokvellaw31.VoteTurns", spec := "voteTurns", apart := false, narrowed := true }
def VoteTurnsUptoSaid : Prop := voteTurnsUptoRow.holds Try.pinned (OpenSpec.upto voteTurnsSpec)

/-- 'stokvellaw31.VoteNeeds', WHERE WHAT IT READS IS OF BULK AT MOST 1048576: true; the input reads as it did. -/
def voteNeedsUptoRow : OpenClaim := { program := "ytgccheogieddnaa", sum := "1850f8e25051ea10f0f635a7f647bcecb65db1827a3aac07b51c849fe6ad0a67", func := "stokvel/stokvellaw31.VoteNeeds", spec := "voteNeeds", apart := false, narrowed := true }
def VoteNeedsUptoSaid : Prop := voteNeedsUptoRow.holds Try.pinned (OpenSpec.upto voteNeedsSpec)

end Rows
end Go.Proofs.Ytgccheogieddnaa

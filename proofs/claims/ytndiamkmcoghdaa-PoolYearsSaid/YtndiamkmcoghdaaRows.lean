/-
  No cell of these rows narrows 'for every input' (looked for: loops, veiled, ifaces, maps, wideKeys, modest, calm, conditions, laid).
  DERIVED. THE GIVEN ROWS OF THIS SEAT. 4 by the template 'for every input the law returns true; each argument reads behind the call as it read before'; 0 by the template 'total and deterministic' (their statements: YtndiamkmcoghdaaTotals.lean).
  GIVEN WITH THE SEED: the statements are not yours to turn. If you find one false, say at which input.
  Laid BY PROGRAM, IN A SANDBOX (cutbox-rows.mjs): the forced cells as the released guide's own fill.sh prints them over the translation 52117331a7aeffb7… (all of the seat's roots in one cut). By AI agents, Wed Nov 11 2026. No macro, syntax, notation, axiom, sorry.
-/
import Derived.Test.YtndiamkmcoghdaaChecked
import GoSem.Claim
import GoSem.ClaimJoined
import GoSem.ClaimMapViews
import Derived.JoinedTies
import Derived.KernelRfl
namespace Go.Proofs.Ytndiamkmcoghdaa
/- THE CELL 'sum', in the pinned program and in every row, IS THE sha256 OF THE DUMP (.gsa) THAT YtndiamkmcoghdaaProg.lean LOADS. Nothing in Lean hashes anything: it is a label: what it is worth is what the hold of that sum in a sandbox is worth. -/
noncomputable def Try.pinned : Pinned := { name := "ytndiamkmcoghdaa", sum := "52117331a7aeffb7d3737341493943cc5cfdd51724422a16a8b79ee9109e3d78", checked := Try.checked }
namespace Rows
def none {H : Type} : Left H := { results := [], args := [] }

/-- 'stokvellaw40.PoolYear': WHATEVER THE INPUT: true; the input reads as it did. -/
def poolYearSpec : ChangeSpec := { name := "poolYear", fn := fun _ => fun
  | [d] => { results := [.lit (.bool true)], args := [d] }
  | _ => none }
def poolYearRow : OpenClaim := { program := "ytndiamkmcoghdaa", sum := "52117331a7aeffb7d3737341493943cc5cfdd51724422a16a8b79ee9109e3d78", func := "stokvel/stokvellaw40.PoolYear", spec := "poolYear", unfollowed := true, recurses := true, apart := false }
def PoolYearSaid : Prop := poolYearRow.holds Try.pinned (OpenSpec.ofChange poolYearSpec)

/-- ITS FALSE NEIGHBOUR: 'it returns false'. Refute it at one input. -/
def poolYearWrong : ChangeSpec := { name := "poolYear", fn := fun _ => fun
  | [d] => { results := [.lit (.bool false)], args := [d] }
  | _ => none }
def PoolYearWrongFalsely : Prop := poolYearRow.holds Try.pinned (OpenSpec.ofChange poolYearWrong)

/-- 'stokvellaw40.PoolFair': WHATEVER THE INPUT: true; the input reads as it did. -/
def poolFairSpec : ChangeSpec := { name := "poolFair", fn := fun _ => fun
  | [d] => { results := [.lit (.bool true)], args := [d] }
  | _ => none }
def poolFairRow : OpenClaim := { program := "ytndiamkmcoghdaa", sum := "52117331a7aeffb7d3737341493943cc5cfdd51724422a16a8b79ee9109e3d78", func := "stokvel/stokvellaw40.PoolFair", spec := "poolFair", unfollowed := true, recurses := true, apart := false }
def PoolFairSaid : Prop := poolFairRow.holds Try.pinned (OpenSpec.ofChange poolFairSpec)

/-- ITS FALSE NEIGHBOUR: 'it returns false'. Refute it at one input. -/
def poolFairWrong : ChangeSpec := { name := "poolFair", fn := fun _ => fun
  | [d] => { results := [.lit (.bool false)], args := [d] }
  | _ => none }
def PoolFairWrongFalsely : Prop := poolFairRow.holds Try.pinned (OpenSpec.ofChange poolFairWrong)

/-- 'stokvellaw40.PoolOwed': WHATEVER THE INPUT: true; the input reads as it did. -/
def poolOwedSpec : ChangeSpec := { name := "poolOwed", fn := fun _ => fun
  | [d] => { results := [.lit (.bool true)], args := [d] }
  | _ => none }
def poolOwedRow : OpenClaim := { program := "ytndiamkmcoghdaa", sum := "52117331a7aeffb7d3737341493943cc5cfdd51724422a16a8b79ee9109e3d78", func := "stokvel/stokvellaw40.PoolOwed", spec := "poolOwed", unfollowed := true, recurses := true, apart := false }
def PoolOwedSaid : Prop := poolOwedRow.holds Try.pinned (OpenSpec.ofChange poolOwedSpec)

/-- ITS FALSE NEIGHBOUR: 'it returns false'. Refute it at one input. -/
def poolOwedWrong : ChangeSpec := { name := "poolOwed", fn := fun _ => fun
  | [d] => { results := [.lit (.bool false)], args := [d] }
  | _ => none }
def PoolOwedWrongFalsely : Prop := poolOwedRow.holds Try.pinned (OpenSpec.ofChange poolOwedWrong)

/-- 'stokvellaw40.PoolYears': WHATEVER THE INPUT: true; the input reads as it did. -/
def poolYearsSpec : ChangeSpec := { name := "poolYears", fn := fun _ => fun
  | [d1, d2, d3, d4] => { results := [.lit (.bool true)], args := [d1, d2, d3, d4] }
  | _ => none }
def poolYearsRow : OpenClaim := { program := "ytndiamkmcoghdaa", sum := "52117331a7aeffb7d3737341493943cc5cfdd51724422a16a8b79ee9109e3d78", func := "stokvel/stokvellaw40.PoolYears", spec := "poolYears", unfollowed := true, recurses := true, apart := false }
def PoolYearsSaid : Prop := poolYearsRow.holds Try.pinned (OpenSpec.ofChange poolYearsSpec)

/-- ITS FALSE NEIGHBOUR: 'it returns false'. Refute it at one input. -/
def poolYearsWrong : ChangeSpec := { name := "poolYears", fn := fun _ => fun
  | [d1, d2, d3, d4] => { results := [.lit (.bool false)], args := [d1, d2, d3, d4] }
  | _ => none }
def PoolYearsWrongFalsely : Prop := poolYearsRow.holds Try.pinned (OpenSpec.ofChange poolYearsWrong)

/- THE SECOND FORM. 'bulk': how many values and letters a reading holds, each counted each time it is reached (what is shared counts as often as it is met; a slice's spare places count too). A statement '..UptoSaid' is the law's where the arguments, and the package variables that the reading takes, are together of bulk at most 1048576: NARROWER than '..Said'. Prove '..Said' where nothing that the law and all that it calls make is longer than what came in: it says more and counts as full. Else prove '..UptoSaid'. A law counts once. -/
mutual
def uptoBulk {H : Type} : DataW H → Nat
  | .lit (.string bytes) => bytes.length + 1
  | .lit _ => 1
  | .nil => 1
  | .ptr d => uptoBulk d + 1
  | .slice elems spare => uptoBulkAll elems + uptoBulkAll spare + 1
  | .agg parts => uptoBulkAll parts + 1
  | .iface _ d => uptoBulk d + 1
  | .map entries => uptoBulkEntries entries + 1
  | .held _ => 1
def uptoBulkAll {H : Type} : List (DataW H) → Nat
  | [] => 0
  | d :: r => uptoBulk d + uptoBulkAll r
def uptoBulkEntries {H : Type} : List (Lit × DataW H) → Nat
  | [] => 0
  | x :: r => uptoBulkEntry x + uptoBulkEntries r
def uptoBulkEntry {H : Type} : Lit × DataW H → Nat
  | (.string bytes, d) => bytes.length + uptoBulk d + 1
  | (_, d) => uptoBulk d + 1
 end
def uptoSmall : (H : Type) → List (DataW H) → Bool := fun _ ds => decide (uptoBulkAll ds ≤ 1048576)
def OpenSpec.upto (s : _root_.Go.ChangeSpec) : _root_.Go.OpenSpec := { _root_.Go.OpenSpec.ofChange s with cond := some uptoSmall }

/-- 'stokvellaw40.PoolYear', WHERE WHAT IT READS IS OF BULK AT MOST 1048576: true; the input reads as it did. -/
def poolYearUptoRow : OpenClaim := { program := "ytndiamkmcoghdaa", sum := "52117331a7aeffb7d3737341493943cc5cfdd51724422a16a8b79ee9109e3d78", func := "stokvel/stokvellaw40.PoolYear", spec := "poolYear", unfollowed := true, recurses := true, apart := false, narrowed := true }
def PoolYearUptoSaid : Prop := poolYearUptoRow.holds Try.pinned (OpenSpec.upto poolYearSpec)

/-- 'stokvellaw40.PoolFair', WHERE WHAT IT READS IS OF BULK AT MOST 1048576: true; the input reads as it did. -/
def poolFairUptoRow : OpenClaim := { program := "ytndiamkmcoghdaa", sum := "52117331a7aeffb7d3737341493943cc5cfdd51724422a16a8b79ee9109e3d78", func := "stokvel/stokvellaw40.PoolFair", spec := "poolFair", unfollowed := true, recurses := true, apart := false, narrowed := true }
def PoolFairUptoSaid : Prop := poolFairUptoRow.holds Try.pinned (OpenSpec.upto poolFairSpec)

/-- 'stokvellaw40.PoolOwed', WHERE WHAT IT READS IS OF BULK AT MOST 1048576: true; the input reads as it did. -/
def poolOwedUptoRow : OpenClaim := { program := "ytndiamkmcoghdaa", sum := "52117331a7aeffb7d3737341493943cc5cfdd51724422a16a8b79ee9109e3d78", func := "stokvel/stokvellaw40.PoolOwed", spec := "poolOwed", unfollowed := true, recurses := true, apart := false, narrowed := true }
def PoolOwedUptoSaid : Prop := poolOwedUptoRow.holds Try.pinned (OpenSpec.upto poolOwedSpec)

/-- 'stokvellaw40.PoolYears', WHERE WHAT IT READS IS OF BULK AT MOST 1048576: true; the input reads as it did. -/
def poolYearsUptoRow : OpenClaim := { program := "ytndiamkmcoghdaa", sum := "52117331a7aeffb7d3737341493943cc5cfdd51724422a16a8b79ee9109e3d78", func := "stokvel/stokvellaw40.PoolYears", spec := "poolYears", unfollowed := true, recurses := true, apart := false, narrowed := true }
def PoolYearsUptoSaid : Prop := poolYearsUptoRow.holds Try.pinned (OpenSpec.upto poolYearsSpec)

end Rows
end Go.Proofs.Ytndiamkmcoghdaa

/-
  No cell of these rows narrows 'for every input' (looked for: loops, veiled, ifaces, maps, wideKeys, modest, calm, conditions, laid).
  DERIVED. THE GIVEN ROWS OF THIS SEAT. 4 by the template 'for every input the law returns true; each argument reads behind the call as it read before'; 0 by the template 'total and deterministic' (their statements: YtnifpooobleahaaTotals.lean).
  GIVEN WITH THE SEED: the statements are not yours to turn. If you find one false, say at which input.
  Laid BY PROGRAM, IN A SANDBOX (cutbox-rows.mjs): the forced cells as the released guide's own fill.sh prints them over the translation b347eb42b5b743a8… (all of the seat's roots in one cut). By AI agents, Wed Nov 11 2026. No macro, syntax, notation, axiom, sorry.
-/
import Derived.Test.YtnifpooobleahaaChecked
import GoSem.Claim
import GoSem.ClaimJoined
import GoSem.ClaimMapViews
import Derived.JoinedTies
import Derived.KernelRfl
namespace Go.Proofs.Ytnifpooobleahaa
/- THE CELL 'sum', in the pinned program and in every row, IS THE sha256 OF THE DUMP (.gsa) THAT YtnifpooobleahaaProg.lean LOADS. Nothing in Lean hashes anything: it is a label: what it is worth is what the hold of that sum in a sandbox is worth. -/
noncomputable def Try.pinned : Pinned := { name := "ytnifpooobleahaa", sum := "b347eb42b5b743a88618fc0b7c688e478fb24e6a80e47451bfd573a08bc9efc0", checked := Try.checked }
namespace Rows
def none {H : Type} : Left H := { results := [], args := [] }

/-- 'stokvellaw39.RationTells': WHATEVER THE INPUT: true; the input reads as it did. -/
def rationTellsSpec : ChangeSpec := { name := "rationTells", fn := fun _ => fun
  | [d1, d2] => { results := [.lit (.bool true)], args := [d1, d2] }
  | _ => none }
def rationTellsRow : OpenClaim := { program := "ytnifpooobleahaa", sum := "b347eb42b5b743a88618fc0b7c688e478fb24e6a80e47451bfd573a08bc9efc0", func := "stokvel/stokvellaw39.RationTells", spec := "rationTells", unfollowed := true, recurses := true, apart := false }
def RationTellsSaid : Prop := rationTellsRow.holds Try.pinned (OpenSpec.ofChange rationTellsSpec)

/-- ITS FALSE NEIGHBOUR: 'it returns false'. Refute it at one input. -/
def rationTellsWrong : ChangeSpec := { name := "rationTells", fn := fun _ => fun
  | [d1, d2] => { results := [.lit (.bool false)], args := [d1, d2] }
  | _ => none }
def RationTellsWrongFalsely : Prop := rationTellsRow.holds Try.pinned (OpenSpec.ofChange rationTellsWrong)

/-- 'stokvellaw39.RationFair': WHATEVER THE INPUT: true; the input reads as it did. -/
def rationFairSpec : ChangeSpec := { name := "rationFair", fn := fun _ => fun
  | [d1, d2] => { results := [.lit (.bool true)], args := [d1, d2] }
  | _ => none }
def rationFairRow : OpenClaim := { program := "ytnifpooobleahaa", sum := "b347eb42b5b743a88618fc0b7c688e478fb24e6a80e47451bfd573a08bc9efc0", func := "stokvel/stokvellaw39.RationFair", spec := "rationFair", unfollowed := true, recurses := true, apart := false }
def RationFairSaid : Prop := rationFairRow.holds Try.pinned (OpenSpec.ofChange rationFairSpec)

/-- ITS FALSE NEIGHBOUR: 'it returns false'. Refute it at one input. -/
def rationFairWrong : ChangeSpec := { name := "rationFair", fn := fun _ => fun
  | [d1, d2] => { results := [.lit (.bool false)], args := [d1, d2] }
  | _ => none }
def RationFairWrongFalsely : Prop := rationFairRow.holds Try.pinned (OpenSpec.ofChange rationFairWrong)

/-- 'stokvellaw39.RationMore': WHATEVER THE INPUT: true; the input reads as it did. -/
def rationMoreSpec : ChangeSpec := { name := "rationMore", fn := fun _ => fun
  | [d1, d2] => { results := [.lit (.bool true)], args := [d1, d2] }
  | _ => none }
def rationMoreRow : OpenClaim := { program := "ytnifpooobleahaa", sum := "b347eb42b5b743a88618fc0b7c688e478fb24e6a80e47451bfd573a08bc9efc0", func := "stokvel/stokvellaw39.RationMore", spec := "rationMore", unfollowed := true, recurses := true, apart := false }
def RationMoreSaid : Prop := rationMoreRow.holds Try.pinned (OpenSpec.ofChange rationMoreSpec)

/-- ITS FALSE NEIGHBOUR: 'it returns false'. Refute it at one input. -/
def rationMoreWrong : ChangeSpec := { name := "rationMore", fn := fun _ => fun
  | [d1, d2] => { results := [.lit (.bool false)], args := [d1, d2] }
  | _ => none }
def RationMoreWrongFalsely : Prop := rationMoreRow.holds Try.pinned (OpenSpec.ofChange rationMoreWrong)

/-- 'stokvellaw39.RationQuota': WHATEVER THE INPUT: true; the input reads as it did. -/
def rationQuotaSpec : ChangeSpec := { name := "rationQuota", fn := fun _ => fun
  | [d1, d2] => { results := [.lit (.bool true)], args := [d1, d2] }
  | _ => none }
def rationQuotaRow : OpenClaim := { program := "ytnifpooobleahaa", sum := "b347eb42b5b743a88618fc0b7c688e478fb24e6a80e47451bfd573a08bc9efc0", func := "stokvel/stokvellaw39.RationQuota", spec := "rationQuota", unfollowed := true, recurses := true, apart := false }
def RationQuotaSaid : Prop := rationQuotaRow.holds Try.pinned (OpenSpec.ofChange rationQuotaSpec)

/-- ITS FALSE NEIGHBOUR: 'it returns false'. Refute it at one input. -/
def rationQuotaWrong : ChangeSpec := { name := "rationQuota", fn := fun _ => fun
  | [d1, d2] => { results := [.lit (.bool false)], args := [d1, d2] }
  | _ => none }
def RationQuotaWrongFalsely : Prop := rationQuotaRow.holds Try.pinned (OpenSpec.ofChange rationQuotaWrong)

/- THE SECOND FORM. 'bulk': how many values and letters a reading holds, each counted each time it is reached (what is shared counts as often as it is met; a slice's spare places count too). A statement '..UptoSaid' is the law's where the arguments, and the package variables that the reading takes, are together of bulk at most 1048576: NARROWER than '..Said'. Prove '..Said' where nothing that the law and all that it calls make is longer than what came in: it says more and counts as full. Else prove '..UptoSaid'. A law counts once. -/
mutual
def uptoBulk {H : Type} : DataW H → Nat
  | .lit (.string bytes) => bytes.length + 1
  | .lit _ => 1
  | .nil => 1
  | .ptr d => uptoBulk d + 1
  | .slice elems spare => uptoBulkAll elems + uptoBulkAll spare + 1
  | .agg parts => uptoBulkAll parts + 1
  | .iface _ d => uptoBulk d + 1
  | .map entries => uptoBulkEntries entries + 1
  | .held _ => 1
def uptoBulkAll {H : Type} : List (DataW H) → Nat
  | [] => 0
  | d :: r => uptoBulk d + uptoBulkAll r
def uptoBulkEntries {H : Type} : List (Lit × DataW H) → Nat
  | [] => 0
  | x :: r => uptoBulkEntry x + uptoBulkEntries r
def uptoBulkEntry {H : Type} : Lit × DataW H → Nat
  | (.string bytes, d) => bytes.length + uptoBulk d + 1
  | (_, d) => uptoBulk d + 1
 end
def uptoSmall : (H : Type) → List (DataW H) → Bool := fun _ ds => decide (uptoBulkAll ds ≤ 1048576)
def OpenSpec.upto (s : _root_.Go.ChangeSpec) : _root_.Go.OpenSpec := { _root_.Go.OpenSpec.ofChange s with cond := some uptoSmall }

/-- 'stokvellaw39.RationTells', WHERE WHAT IT READS IS OF BULK AT MOST 1048576: true; the input reads as it did. -/
def rationTellsUptoRow : OpenClaim := { program := "ytnifpooobleahaa", sum := "b347eb42b5b743a88618fc0b7c688e478fb24e6a80e47451bfd573a08bc9efc0", func := "stokvel/stokvellaw39.RationTells", spec := "rationTells", unfollowed := true, recurses := true, apart := false, narrowed := true }
def RationTellsUptoSaid : Prop := rationTellsUptoRow.holds Try.pinned (OpenSpec.upto rationTellsSpec)

/-- 'stokvellaw39.RationFair', WHERE WHAT IT READS IS OF BULK AT MOST 1048576: true; the input reads as it did. -/
def rationFairUptoRow : OpenClaim := { program := "ytnifpooobleahaa", sum := "b347eb42b5b743a88618fc0b7c688e478fb24e6a80e47451bfd573a08bc9efc0", func := "stokvel/stokvellaw39.RationFair", spec := "rationFair", unfollowed := true, recurses := true, apart := false, narrowed := true }
def RationFairUptoSaid : Prop := rationFairUptoRow.holds Try.pinned (OpenSpec.upto rationFairSpec)

/-- 'stokvellaw39.RationMore', WHERE WHAT IT READS IS OF BULK AT MOST 1048576: true; the input reads as it did. -/
def rationMoreUptoRow : OpenClaim := { program := "ytnifpooobleahaa", sum := "b347eb42b5b743a88618fc0b7c688e478fb24e6a80e47451bfd573a08bc9efc0", func := "stokvel/stokvellaw39.RationMore", spec := "rationMore", unfollowed := true, recurses := true, apart := false, narrowed := true }
def RationMoreUptoSaid : Prop := rationMoreUptoRow.holds Try.pinned (OpenSpec.upto rationMoreSpec)

/-- 'stokvellaw39.RationQuota', WHERE WHAT IT READS IS OF BULK AT MOST 1048576: true; the input reads as it did. -/
def rationQuotaUptoRow : OpenClaim := { program := "ytnifpooobleahaa", sum := "b347eb42b5b743a88618fc0b7c688e478fb24e6a80e47451bfd573a08bc9efc0", func := "stokvel/stokvellaw39.RationQuota", spec := "rationQuota", unfollowed := true, recurses := true, apart := false, narrowed := true }
def RationQuotaUptoSaid : Prop := rationQuotaUptoRow.holds Try.pinned (OpenSpec.upto rationQuotaSpec)

end Rows
end Go.Proofs.Ytnifpooobleahaa

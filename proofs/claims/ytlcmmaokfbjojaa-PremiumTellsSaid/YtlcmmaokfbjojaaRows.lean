/-
  No cell of these rows narrows 'for every input' (looked for: loops, veiled, ifaces, maps, wideKeys, modest, calm, conditions, laid).
  DERIVED. THE GIVEN ROWS OF THIS SEAT. 4 by the template 'for every input the law returns true; each argument reads behind the call as it read before'; 0 by the template 'total and deterministic' (their statements: YtlcmmaokfbjojaaTotals.lean).
  GIVEN WITH THE SEED: the statements are not yours to turn. If you find one false, say at which input.
  Laid BY PROGRAM, IN A SANDBOX (cutbox-rows.mjs): the forced cells as the released guide's own fill.sh prints them over the translation 2d9d51cd86b01c93… (all of the seat's roots in one cut). By AI agents, Wed Nov 11 2026. No macro, syntax, notation, axiom, sorry.
-/
import Derived.Test.YtlcmmaokfbjojaaChecked
import GoSem.Claim
import GoSem.ClaimJoined
import GoSem.ClaimMapViews
import Derived.JoinedTies
import Derived.KernelRfl
namespace Go.Proofs.Ytlcmmaokfbjojaa
/- THE CELL 'sum', in the pinned program and in every row, IS THE sha256 OF THE DUMP (.gsa) THAT YtlcmmaokfbjojaaProg.lean LOADS. Nothing in Lean hashes anything: it is a label: what it is worth is what the hold of that sum in a sandbox is worth. -/
noncomputable def Try.pinned : Pinned := { name := "ytlcmmaokfbjojaa", sum := "2d9d51cd86b01c9340a5822e63642ee59c34243295476d4014cd03760f0c4798", checked := Try.checked }
namespace Rows
def none {H : Type} : Left H := { results := [], args := [] }

/-- 'stokvellaw37.PremiumTells': WHATEVER THE INPUT: true; the input reads as it did. -/
def premiumTellsSpec : ChangeSpec := { name := "premiumTells", fn := fun _ => fun
  | [d1, d2, d3] => { results := [.lit (.bool true)], args := [d1, d2, d3] }
  | _ => none }
def premiumTellsRow : OpenClaim := { program := "ytlcmmaokfbjojaa", sum := "2d9d51cd86b01c9340a5822e63642ee59c34243295476d4014cd03760f0c4798", func := "stokvel/stokvellaw37.PremiumTells", spec := "premiumTells", apart := false }
def PremiumTellsSaid : Prop := premiumTellsRow.holds Try.pinned (OpenSpec.ofChange premiumTellsSpec)

/-- ITS FALSE NEIGHBOUR: 'it returns false'. Refute it at one input. -/
def premiumTellsWrong : ChangeSpec := { name := "premiumTells", fn := fun _ => fun
  | [d1, d2, d3] => { results := [.lit (.bool false)], args := [d1, d2, d3] }
  | _ => none }
def PremiumTellsWrongFalsely : Prop := premiumTellsRow.holds Try.pinned (OpenSpec.ofChange premiumTellsWrong)

/-- 'stokvellaw37.PremiumMore': WHATEVER THE INPUT: true; the input reads as it did. -/
def premiumMoreSpec : ChangeSpec := { name := "premiumMore", fn := fun _ => fun
  | [d1, d2, d3] => { results := [.lit (.bool true)], args := [d1, d2, d3] }
  | _ => none }
def premiumMoreRow : OpenClaim := { program := "ytlcmmaokfbjojaa", sum := "2d9d51cd86b01c9340a5822e63642ee59c34243295476d4014cd03760f0c4798", func := "stokvel/stokvellaw37.PremiumMore", spec := "premiumMore", apart := false }
def PremiumMoreSaid : Prop := premiumMoreRow.holds Try.pinned (OpenSpec.ofChange premiumMoreSpec)

/-- ITS FALSE NEIGHBOUR: 'it returns false'. Refute it at one input. -/
def premiumMoreWrong : ChangeSpec := { name := "premiumMore", fn := fun _ => fun
  | [d1, d2, d3] => { results := [.lit (.bool false)], args := [d1, d2, d3] }
  | _ => none }
def PremiumMoreWrongFalsely : Prop := premiumMoreRow.holds Try.pinned (OpenSpec.ofChange premiumMoreWrong)

/-- 'stokvellaw37.PremiumSums': WHATEVER THE INPUT: true; the input reads as it did. -/
def premiumSumsSpec : ChangeSpec := { name := "premiumSums", fn := fun _ => fun
  | [d1, d2, d3] => { results := [.lit (.bool true)], args := [d1, d2, d3] }
  | _ => none }
def premiumSumsRow : OpenClaim := { program := "ytlcmmaokfbjojaa", sum := "2d9d51cd86b01c9340a5822e63642ee59c34243295476d4014cd03760f0c4798", func := "stokvel/stokvellaw37.PremiumSums", spec := "premiumSums", apart := false }
def PremiumSumsSaid : Prop := premiumSumsRow.holds Try.pinned (OpenSpec.ofChange premiumSumsSpec)

/-- ITS FALSE NEIGHBOUR: 'it returns false'. Refute it at one input. -/
def premiumSumsWrong : ChangeSpec := { name := "premiumSums", fn := fun _ => fun
  | [d1, d2, d3] => { results := [.lit (.bool false)], args := [d1, d2, d3] }
  | _ => none }
def PremiumSumsWrongFalsely : Prop := premiumSumsRow.holds Try.pinned (OpenSpec.ofChange premiumSumsWrong)

/-- 'stokvellaw37.PremiumTurned': WHATEVER THE INPUT: true; the input reads as it did. -/
def premiumTurnedSpec : ChangeSpec := { name := "premiumTurned", fn := fun _ => fun
  | [d1, d2, d3] => { results := [.lit (.bool true)], args := [d1, d2, d3] }
  | _ => none }
def premiumTurnedRow : OpenClaim := { program := "ytlcmmaokfbjojaa", sum := "2d9d51cd86b01c9340a5822e63642ee59c34243295476d4014cd03760f0c4798", func := "stokvel/stokvellaw37.PremiumTurned", spec := "premiumTurned", apart := false }
def PremiumTurnedSaid : Prop := premiumTurnedRow.holds Try.pinned (OpenSpec.ofChange premiumTurnedSpec)

/-- ITS FALSE NEIGHBOUR: 'it returns false'. Refute it at one input. -/
def premiumTurnedWrong : ChangeSpec := { name := "premiumTurned", fn := fun _ => fun
  | [d1, d2, d3] => { results := [.lit (.bool false)], args := [d1, d2, d3] }
  | _ => none }
def PremiumTurnedWrongFalsely : Prop := premiumTurnedRow.holds Try.pinned (OpenSpec.ofChange premiumTurnedWrong)

/- THE SECOND FORM. 'bulk': how many values and letters a reading holds, each counted each time it is reached (what is shared counts as often as it is met; a slice's spare places count too). A statement '..UptoSaid' is the law's where the arguments, and the package variables that the reading takes, are together of bulk at most 1048576: NARROWER than '..Said'. Prove '..Said' where nothing that the law and all that it calls make is longer than what came in: it says more and counts as full. Else prove '..UptoSaid'. A law counts once. -/
mutual
def uptoBulk {H : Type} : DataW H → Nat
  | .lit (.string bytes) => bytes.length + 1
  | .lit _ => 1
  | .nil => 1
  | .ptr d => uptoBulk d + 1
  | .slice elems spare => uptoBulkAll elems + uptoBulkAll spare + 1
  | .agg parts => uptoBulkAll parts + 1
  | .iface _ d => uptoBulk d + 1
  | .map entries => uptoBulkEntries entries + 1
  | .held _ => 1
def uptoBulkAll {H : Type} : List (DataW H) → Nat
  | [] => 0
  | d :: r => uptoBulk d + uptoBulkAll r
def uptoBulkEntries {H : Type} : List (Lit × DataW H) → Nat
  | [] => 0
  | x :: r => uptoBulkEntry x + uptoBulkEntries r
def uptoBulkEntry {H : Type} : Lit × DataW H → Nat
  | (.string bytes, d) => bytes.length + uptoBulk d + 1
  | (_, d) => uptoBulk d + 1
 end
def uptoSmall : (H : Type) → List (DataW H) → Bool := fun _ ds => decide (uptoBulkAll ds ≤ 1048576)
def OpenSpec.upto (s : _root_.Go.ChangeSpec) : _root_.Go.OpenSpec := { _root_.Go.OpenSpec.ofChange s with cond := some uptoSmall }

/-- 'stokvellaw37.PremiumTells', WHERE WHAT IT READS IS OF BULK AT MOST 1048576: true; the input reads as it did. -/
def premiumTellsUptoRow : OpenClaim := { program := "ytlcmmaokfbjojaa", sum := "2d9d51cd86b01c9340a5822e63642ee59c34243295476d4014cd03760f0c4798", func := "stokvel/stokvellaw37.PremiumTells", spec := "premiumTells", apart := false, narrowed := true }
def PremiumTellsUptoSaid : Prop := premiumTellsUptoRow.holds Try.pinned (OpenSpec.upto premiumTellsSpec)

/-- 'stokvellaw37.PremiumMore', WHERE WHAT IT READS IS OF BULK AT MOST 1048576: true; the input reads as it did. -/
def premiumMoreUptoRow : OpenClaim := { program := "ytlcmmaokfbjojaa", sum := "2d9d51cd86b01c9340a5822e63642ee59c34243295476d4014cd03760f0c4798", func := "stokvel/stokvellaw37.PremiumMore", spec := "premiumMore", apart := false, narrowed := true }
def PremiumMoreUptoSaid : Prop := premiumMoreUptoRow.holds Try.pinned (OpenSpec.upto premiumMoreSpec)

/-- 'stokvellaw37.PremiumSums', WHERE WHAT IT READS IS OF BULK AT MOST 1048576: true; the input reads as it did. -/
def premiumSumsUptoRow : OpenClaim := { program := "ytlcmmaokfbjojaa", sum := "2d9d51cd86b01c9340a5822e63642ee59c34243295476d4014cd03760f0c4798", func := "stokvel/stokvellaw37.PremiumSums", spec := "premiumSums", apart := false, narrowed := true }
def PremiumSumsUptoSaid : Prop := premiumSumsUptoRow.holds Try.pinned (OpenSpec.upto premiumSumsSpec)

/-- 'stokvellaw37.PremiumTurned', WHERE WHAT IT READS IS OF BULK AT MOST 1048576: true; the input reads as it did. -/
def premiumTurnedUptoRow : OpenClaim := { program := "ytlcmmaokfbjojaa", sum := "2d9d51cd86b01c9340a5822e63642ee59c34243295476d4014cd03760f0c4798", func := "stokvel/stokvellaw37.PremiumTurned", spec := "premiumTurned", apart := false, narrowed := true }
def PremiumTurnedUptoSaid : Prop := premiumTurnedUptoRow.holds Try.pinned (OpenSpec.upto premiumTurnedSpec)

end Rows
end Go.Proofs.Ytlcmmaokfbjojaa

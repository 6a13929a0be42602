/-
  No cell of these rows narrows 'for every input' (looked for: loops, veiled, ifaces, maps, wideKeys, modest, calm, conditions, laid).
  DERIVED. THE GIVEN ROWS OF THIS SEAT. 4 by the template 'for every input the law returns true; each argument reads behind the call as it read before'; 0 by the template 'total and deterministic' (their statements: YtflcmfeafiippaaTotals.lean).
  GIVEN WITH THE SEED: the statements are not yours to turn. If you find one false, say at which input.
  Laid BY PROGRAM, IN A SANDBOX (cutbox-rows.mjs): the forced cells as the released guide's own fill.sh prints them over the translation 9866640f6414cb34… (all of the seat's roots in one cut). By AI agents, Wed Nov 11 2026. No macro, syntax, notation, axiom, sorry.
-/
import Derived.Test.YtflcmfeafiippaaChecked
import GoSem.Claim
import GoSem.ClaimJoined
import GoSem.ClaimMapViews
import Derived.JoinedTies
import Derived.KernelRfl
namespace Go.Proofs.Ytflcmfeafiippaa
/- THE CELL 'sum', in the pinned program and in every row, IS THE sha256 OF THE DUMP (.gsa) THAT YtflcmfeafiippaaProg.lean LOADS. Nothing in Lean hashes anything: it is a label: what it is worth is what the hold of that sum in a sandbox is worth. -/
noncomputable def Try.pinned : Pinned := { name := "ytflcmfeafiippaa", sum := "9866640f6414cb3452c136b67e371548b1819e54e8b4cb36a500ee0f7a9583d9", checked := Try.checked }
namespace Rows
def none {H : Type} : Left H := { results := [], args := [] }

/-- 'stokvellaw35.JuryTells': WHATEVER THE INPUT: true; the input reads as it did. -/
def juryTellsSpec : ChangeSpec := { name := "juryTells", fn := fun _ => fun
  | [d1, d2, d3, d4, d5, d6] => { results := [.lit (.bool true)], args := [d1, d2, d3, d4, d5, d6] }
  | _ => none }
def juryTellsRow : OpenClaim := { program := "ytflcmfeafiippaa", sum := "9866640f6414cb3452c136b67e371548b1819e54e8b4cb36a500ee0f7a9583d9", func := "stokvel/stokvellaw35.JuryTells", spec := "juryTells", unfollowed := true, recurses := true, apart := false }
def JuryTellsSaid : Prop := juryTellsRow.holds Try.pinned (OpenSpec.ofChange juryTellsSpec)

/-- ITS FALSE NEIGHBOUR: 'it returns false'. Refute it at one input. -/
def juryTellsWrong : ChangeSpec := { name := "juryTells", fn := fun _ => fun
  | [d1, d2, d3, d4, d5, d6] => { results := [.lit (.bool false)], args := [d1, d2, d3, d4, d5, d6] }
  | _ => none }
def JuryTellsWrongFalsely : Prop := juryTellsRow.holds Try.pinned (OpenSpec.ofChange juryTellsWrong)

/-- 'stokvellaw35.JuryDraws': WHATEVER THE INPUT: true; the input reads as it did. -/
def juryDrawsSpec : ChangeSpec := { name := "juryDraws", fn := fun _ => fun
  | [d1, d2, d3, d4, d5] => { results := [.lit (.bool true)], args := [d1, d2, d3, d4, d5] }
  | _ => none }
def juryDrawsRow : OpenClaim := { program := "ytflcmfeafiippaa", sum := "9866640f6414cb3452c136b67e371548b1819e54e8b4cb36a500ee0f7a9583d9", func := "stokvel/stokvellaw35.JuryDraws", spec := "juryDraws", unfollowed := true, recurses := true, apart := false }
def JuryDrawsSaid : Prop := juryDrawsRow.holds Try.pinned (OpenSpec.ofChange juryDrawsSpec)

/-- ITS FALSE NEIGHBOUR: 'it returns false'. Refute it at one input. -/
def juryDrawsWrong : ChangeSpec := { name := "juryDraws", fn := fun _ => fun
  | [d1, d2, d3, d4, d5] => { results := [.lit (.bool false)], args := [d1, d2, d3, d4, d5] }
  | _ => none }
def JuryDrawsWrongFalsely : Prop := juryDrawsRow.holds Try.pinned (OpenSpec.ofChange juryDrawsWrong)

/-- 'stokvellaw35.JuryStays': WHATEVER THE INPUT: true; the input reads as it did. -/
def juryStaysSpec : ChangeSpec := { name := "juryStays", fn := fun _ => fun
  | [d1, d2, d3] => { results := [.lit (.bool true)], args := [d1, d2, d3] }
  | _ => none }
def juryStaysRow : OpenClaim := { program := "ytflcmfeafiippaa", sum := "9866640f6414cb3452c136b67e371548b1819e54e8b4cb36a500ee0f7a9583d9", func := "stokvel/stokvellaw35.JuryStays", spec := "juryStays", unfollowed := true, recurses := true, apart := false }
def JuryStaysSaid : Prop := juryStaysRow.holds Try.pinned (OpenSpec.ofChange juryStaysSpec)

/-- ITS FALSE NEIGHBOUR: 'it returns false'. Refute it at one input. -/
def juryStaysWrong : ChangeSpec := { name := "juryStays", fn := fun _ => fun
  | [d1, d2, d3] => { results := [.lit (.bool false)], args := [d1, d2, d3] }
  | _ => none }
def JuryStaysWrongFalsely : Prop := juryStaysRow.holds Try.pinned (OpenSpec.ofChange juryStaysWrong)

/-- 'stokvellaw35.JuryMajority': WHATEVER THE INPUT: true; the input reads as it did. -/
def juryMajoritySpec : ChangeSpec := { name := "juryMajority", fn := fun _ => fun
  | [d1, d2] => { results := [.lit (.bool true)], args := [d1, d2] }
  | _ => none }
def juryMajorityRow : OpenClaim := { program := "ytflcmfeafiippaa", sum := "9866640f6414cb3452c136b67e371548b1819e54e8b4cb36a500ee0f7a9583d9", func := "stokvel/stokvellaw35.JuryMajority", spec := "juryMajority", unfollowed := true, recurses := true, apart := false }
def JuryMajoritySaid : Prop := juryMajorityRow.holds Try.pinned (OpenSpec.ofChange juryMajoritySpec)

/-- ITS FALSE NEIGHBOUR: 'it returns false'. Refute it at one input. -/
def juryMajorityWrong : ChangeSpec := { name := "juryMajority", fn := fun _ => fun
  | [d1, d2] => { results := [.lit (.bool false)], args := [d1, d2] }
  | _ => none }
def JuryMajorityWrongFalsely : Prop := juryMajorityRow.holds Try.pinned (OpenSpec.ofChange juryMajorityWrong)

/- THE SECOND FORM. 'bulk': how many values and letters a reading holds, each counted each time it is reached (what is shared counts as often as it is met; a slice's spare places count too). A statement '..UptoSaid' is the law's where the arguments, and the package variables that the reading takes, are together of bulk at most 1048576: NARROWER than '..Said'. Prove '..Said' where nothing that the law and all that it calls make is longer than what came in: it says more and counts as full. Else prove '..UptoSaid'. A law counts once. -/
mutual
def uptoBulk {H : Type} : DataW H → Nat
  | .lit (.string bytes) => bytes.length + 1
  | .lit _ => 1
  | .nil => 1
  | .ptr d => uptoBulk d + 1
  | .slice elems spare => uptoBulkAll elems + uptoBulkAll spare + 1
  | .agg parts => uptoBulkAll parts + 1
  | .iface _ d => uptoBulk d + 1
  | .map entries => uptoBulkEntries entries + 1
  | .held _ => 1
def uptoBulkAll {H : Type} : List (DataW H) → Nat
  | [] => 0
  | d :: r => uptoBulk d + uptoBulkAll r
def uptoBulkEntries {H : Type} : List (Lit × DataW H) → Nat
  | [] => 0
  | x :: r => uptoBulkEntry x + uptoBulkEntries r
def uptoBulkEntry {H : Type} : Lit × DataW H → Nat
  | (.string bytes, d) => bytes.length + uptoBulk d + 1
  | (_, d) => uptoBulk d + 1
 end
def uptoSmall : (H : Type) → List (DataW H) → Bool := fun _ ds => decide (uptoBulkAll ds ≤ 1048576)
def OpenSpec.upto (s : _root_.Go.ChangeSpec) : _root_.Go.OpenSpec := { _root_.Go.OpenSpec.ofChange s with cond := some uptoSmall }

/-- 'stokvellaw35.JuryTells', WHERE WHAT IT READS IS OF BULK AT MOST 1048576: true; the input reads as it did. -/
def juryTellsUptoRow : OpenClaim := { program := "ytflcmfeafiippaa", sum := "9866640f6414cb3452c136b67e371548b1819e54e8b4cb36a500ee0f7a9583d9", func := "stokvel/stokvellaw35.JuryTells", spec := "juryTells", unfollowed := true, recurses := true, apart := false, narrowed := true }
def JuryTellsUptoSaid : Prop := juryTellsUptoRow.holds Try.pinned (OpenSpec.upto juryTellsSpec)

/-- 'stokvellaw35.JuryDraws', WHERE WHAT IT READS IS OF BULK AT MOST 1048576: true; the input reads as it did. -/
def juryDrawsUptoRow : OpenClaim := { program := "ytflcmfeafiippaa", sum := "9866640f6414cb3452c136b67e371548b1819e54e8b4cb36a500ee0f7a9583d9", func := "stokvel/stokvellaw35.JuryDraws", spec := "juryDraws", unfollowed := true, recurses := true, apart := false, narrowed := true }
def JuryDrawsUptoSaid : Prop := juryDrawsUptoRow.holds Try.pinned (OpenSpec.upto juryDrawsSpec)

/-- 'stokvellaw35.JuryStays', WHERE WHAT IT READS IS OF BULK AT MOST 1048576: true; the input reads as it did. -/
def juryStaysUptoRow : OpenClaim := { program := "ytflcmfeafiippaa", sum := "9866640f6414cb3452c136b67e371548b1819e54e8b4cb36a500ee0f7a9583d9", func := "stokvel/stokvellaw35.JuryStays", spec := "juryStays", unfollowed := true, recurses := true, apart := false, narrowed := true }
def JuryStaysUptoSaid : Prop := juryStaysUptoRow.holds Try.pinned (OpenSpec.upto juryStaysSpec)

/-- 'stokvellaw35.JuryMajority', WHERE WHAT IT READS IS OF BULK AT MOST 1048576: true; the input reads as it did. -/
def juryMajorityUptoRow : OpenClaim := { program := "ytflcmfeafiippaa", sum := "9866640f6414cb3452c136b67e371548b1819e54e8b4cb36a500ee0f7a9583d9", func := "stokvel/stokvellaw35.JuryMajority", spec := "juryMajority", unfollowed := true, recurses := true, apart := false, narrowed := true }
def JuryMajorityUptoSaid : Prop := juryMajorityUptoRow.holds Try.pinned (OpenSpec.upto juryMajoritySpec)

end Rows
end Go.Proofs.Ytflcmfeafiippaa

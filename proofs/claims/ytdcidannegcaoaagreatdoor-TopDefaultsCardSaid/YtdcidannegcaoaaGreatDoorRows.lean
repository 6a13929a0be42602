/-
  NARROWER THAN 'FOR EVERY INPUT', by the rows' own cells (each row's printed sentence says how): TopDefaults: laid.
  DERIVED. THE GIVEN ROWS OF THIS SEAT. 1 by the template 'for every input the law returns true; each argument reads behind the call as it read before'; 0 by the template 'total and deterministic' (their statements: YtdcidannegcaoaaGreatDoorTotals.lean).
  GIVEN WITH THE SEED: the statements are not yours to turn. If you find one false, say at which input.
  Laid BY PROGRAM, IN A SANDBOX (cutbox-rows.mjs): the forced cells as the released guide's own fill.sh prints them over the translation ce2a0d795a7c9d87… (all of the seat's roots in one cut). By AI agents, Wed Nov 11 2026. No macro, syntax, notation, axiom, sorry.
-/
import Derived.Test.YtdcidannegcaoaaGreatDoorChecked
import GoSem.Claim
import GoSem.ClaimJoined
import GoSem.ClaimMapViews
import Derived.JoinedTies
import Derived.KernelRfl
namespace Go.Proofs.YtdcidannegcaoaaGreatDoor
/- THE CELL 'sum', in the pinned program and in every row, IS THE sha256 OF THE DUMP (.gsa) THAT YtdcidannegcaoaaGreatDoorProg.lean LOADS. Nothing in Lean hashes anything: it is a label: what it is worth is what the hold of that sum in a sandbox is worth. -/
noncomputable def Tryz.pinned : Pinned := { name := "ytdcidannegcaoaagreatdoor", sum := "ce2a0d795a7c9d87ce4ab105d17d68cb67b3daca697bc284ac0507d1d78c57bc", checked := Tryz.checked }
namespace Rows
def none {H : Type} : Left H := { results := [], args := [] }

/- WHAT THE LISTED PACKAGE-LEVEL VARIABLES READ AS WHEN THE CALL BEGINS. Each datum BY PROGRAM (the guide's laid-datum.mjs) off the statement by which the dump's own 'gosem.cut.vars' lays the variable. In a bare row this is a premise. The card (YtdcidannegcaoaaGreatDoorCards.lean) ties it to the program's text. -/
def laid_stokvel_lex_signs {H : Type} : DataW H := .agg [.lit (.string [61, 61]), .lit (.string [59]), .lit (.string [44]), .lit (.string [61]), .lit (.string [60]), .lit (.string [43]), .lit (.string [45]), .lit (.string [42]), .lit (.string [47]), .lit (.string [40]), .lit (.string [41])]
def laid_stokvel_entry_uses {H : Type} : DataW H := .agg [.lit (.string [107, 116]), .lit (.string [99]), .lit (.string [99]), .lit (.string [99, 119, 110, 109]), .lit (.string [110, 114]), .lit (.string [119, 115]), .lit (.string [119, 109, 115]), .lit (.string [99, 119, 109, 114, 115]), .lit (.string [99, 110, 109, 114]), .lit (.string [110, 114]), .lit (.string [99, 110, 109, 116]), .lit (.string [114, 116]), .lit (.string [110, 114]), .lit (.string [114]), .lit (.string [99, 116]), .lit (.string [119, 110]), .lit (.string [99, 109]), .lit (.string [99, 107]), .lit (.string [110, 109, 114]), .lit (.string [110, 109, 114]), .lit (.string [110, 109, 114])]

/-- 'stokveltop.TopDefaults': WHATEVER THE INPUT: true; the input reads as it did. -/
def topDefaultsSpec : ChangeSpec := { name := "topDefaults", fn := fun _ => fun
  | [d1, d2, d3, d4, d5, d6, d7] => { results := [.lit (.bool true)], args := [d1, d2, d3, d4, d5, d6, d7] }
  | _ => none }
def topDefaultsRow : OpenClaim := { program := "ytdcidannegcaoaagreatdoor", sum := "ce2a0d795a7c9d87ce4ab105d17d68cb67b3daca697bc284ac0507d1d78c57bc", func := "stokvel/stokveltop.TopDefaults", spec := "topDefaults", inPlace := ["internal/bytealg.IndexByteString", "internal/bytealg.IndexString"], unfollowed := true, recurses := true, named := ["stokvel/lex.signs", "stokvel/entry.uses", "internal/bytealg.MaxLen"], apart := false, laid := [("stokvel/lex.signs", laid_stokvel_lex_signs), ("stokvel/entry.uses", laid_stokvel_entry_uses)] }
def TopDefaultsSaid : Prop := topDefaultsRow.holds Tryz.pinned (OpenSpec.ofChange topDefaultsSpec)

/-- ITS FALSE NEIGHBOUR: 'it returns false'. Refute it at one input. -/
def topDefaultsWrong : ChangeSpec := { name := "topDefaults", fn := fun _ => fun
  | [d1, d2, d3, d4, d5, d6, d7] => { results := [.lit (.bool false)], args := [d1, d2, d3, d4, d5, d6, d7] }
  | _ => none }
def TopDefaultsWrongFalsely : Prop := topDefaultsRow.holds Tryz.pinned (OpenSpec.ofChange topDefaultsWrong)

/- THE SECOND FORM. 'bulk': how many values and letters a reading holds, each counted each time it is reached (what is shared counts as often as it is met; a slice's spare places count too). A statement '..UptoSaid' is the law's where the arguments, and the package variables that the reading takes, are together of bulk at most 1048576: NARROWER than '..Said'. Prove '..Said' where nothing that the law and all that it calls make is longer than what came in: it says more and counts as full. Else prove '..UptoSaid'. A law counts once. -/
mutual
def uptoBulk {H : Type} : DataW H → Nat
  | .lit (.string bytes) => bytes.length + 1
  | .lit _ => 1
  | .nil => 1
  | .ptr d => uptoBulk d + 1
  | .slice elems spare => uptoBulkAll elems + uptoBulkAll spare + 1
  | .agg parts => uptoBulkAll parts + 1
  | .iface _ d => uptoBulk d + 1
  | .map entries => uptoBulkEntries entries + 1
  | .held _ => 1
def uptoBulkAll {H : Type} : List (DataW H) → Nat
  | [] => 0
  | d :: r => uptoBulk d + uptoBulkAll r
def uptoBulkEntries {H : Type} : List (Lit × DataW H) → Nat
  | [] => 0
  | x :: r => uptoBulkEntry x + uptoBulkEntries r
def uptoBulkEntry {H : Type} : Lit × DataW H → Nat
  | (.string bytes, d) => bytes.length + uptoBulk d + 1
  | (_, d) => uptoBulk d + 1
 end
def uptoSmall : (H : Type) → List (DataW H) → Bool := fun _ ds => decide (uptoBulkAll ds ≤ 1048576)
def OpenSpec.upto (s : _root_.Go.ChangeSpec) : _root_.Go.OpenSpec := { _root_.Go.OpenSpec.ofChange s with cond := some uptoSmall }

/-- 'stokveltop.TopDefaults', WHERE WHAT IT READS IS OF BULK AT MOST 1048576: true; the input reads as it did. -/
def topDefaultsUptoRow : OpenClaim := { program := "ytdcidannegcaoaagreatdoor", sum := "ce2a0d795a7c9d87ce4ab105d17d68cb67b3daca697bc284ac0507d1d78c57bc", func := "stokvel/stokveltop.TopDefaults", spec := "topDefaults", inPlace := ["internal/bytealg.IndexByteString", "internal/bytealg.IndexString"], unfollowed := true, recurses := true, named := ["stokvel/lex.signs", "stokvel/entry.uses", "internal/bytealg.MaxLen"], apart := false, laid := [("stokvel/lex.signs", laid_stokvel_lex_signs), ("stokvel/entry.uses", laid_stokvel_entry_uses)], narrowed := true }
def TopDefaultsUptoSaid : Prop := topDefaultsUptoRow.holds Tryz.pinned (OpenSpec.upto topDefaultsSpec)

end Rows
end Go.Proofs.YtdcidannegcaoaaGreatDoor

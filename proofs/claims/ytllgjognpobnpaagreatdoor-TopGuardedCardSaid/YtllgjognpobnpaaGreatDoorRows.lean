/-
  NARROWER THAN 'FOR EVERY INPUT', by the rows' own cells (each row's printed sentence says how): TopGuarded: laid.
  DERIVED. THE GIVEN ROWS OF THIS SEAT. 1 by the template 'for every input the law returns true; each argument reads behind the call as it read before'; 0 by the template 'total and deterministic' (their statements: YtllgjognpobnpaaGreatDoorTotals.lean).
  GIVEN WITH THE SEED: the statements are not yours to turn. If you find one false, say at which input.
  Laid BY PROGRAM, IN A SANDBOX (cutbox-rows.mjs): the forced cells as the released guide's own fill.sh prints them over the translation 09af21e518ccf5b7… (all of the seat's roots in one cut). By AI agents, Wed Nov 11 2026. No macro, syntax, notation, axiom, sorry.
-/
import Derived.Test.YtllgjognpobnpaaGreatDoorChecked
import GoSem.Claim
import GoSem.ClaimJoined
import GoSem.ClaimMapViews
import Derived.JoinedTies
import Derived.KernelRfl
namespace Go.Proofs.YtllgjognpobnpaaGreatDoor
/- THE CELL 'sum', in the pinned program and in every row, IS THE sha256 OF THE DUMP (.gsa) THAT YtllgjognpobnpaaGreatDoorProg.lean LOADS. Nothing in Lean hashes anything: it is a label: what it is worth is what the hold of that sum in a sandbox is worth. -/
noncomputable def Tryz.pinned : Pinned := { name := "ytllgjognpobnpaagreatdoor", sum := "09af21e518ccf5b7e9bb56a1f9fcae71a25cd729caf6288b7bc63930826b963d", checked := Tryz.checked }
namespace Rows
def none {H : Type} : Left H := { results := [], args := [] }

/- WHAT THE LISTED PACKAGE-LEVEL VARIABLES READ AS WHEN THE CALL BEGINS. Each datum BY PROGRAM (the guide's laid-datum.mjs) off the statement by which the dump's own 'gosem.cut.vars' lays the variable. In a bare row this is a premise. The card (YtllgjognpobnpaaGreatDoorCards.lean) ties it to the program's text. -/
def laid_stokvel_lex_signs {H : Type} : DataW H := .agg [.lit (.string [61, 61]), .lit (.string [59]), .lit (.string [44]), .lit (.string [61]), .lit (.string [60]), .lit (.string [43]), .lit (.string [45]), .lit (.string [42]), .lit (.string [47]), .lit (.string [40]), .lit (.string [41])]
def laid_stokvel_entry_uses {H : Type} : DataW H := .agg [.lit (.string [107, 116]), .lit (.string [99]), .lit (.string [99]), .lit (.string [99, 119, 110, 109]), .lit (.string [110, 114]), .lit (.string [119, 115]), .lit (.string [119, 109, 115]), .lit (.string [99, 119, 109, 114, 115]), .lit (.string [99, 110, 109, 114]), .lit (.string [110, 114]), .lit (.string [99, 110, 109, 116]), .lit (.string [114, 116]), .lit (.string [110, 114]), .lit (.string [114]), .lit (.string [99, 116]), .lit (.string [119, 110]), .lit (.string [99, 109]), .lit (.string [99, 107]), .lit (.string [110, 109, 114]), .lit (.string [110, 109, 114]), .lit (.string [110, 109, 114])]

/-- 'stokveltop.TopGuarded': WHATEVER THE INPUT: true; the input reads as it did. -/
def topGuardedSpec : ChangeSpec := { name := "topGuarded", fn := fun _ => fun
  | [d1, d2, d3, d4] => { results := [.lit (.bool true)], args := [d1, d2, d3, d4] }
  | _ => none }
def topGuardedRow : OpenClaim := { program := "ytllgjognpobnpaagreatdoor", sum := "09af21e518ccf5b7e9bb56a1f9fcae71a25cd729caf6288b7bc63930826b963d", func := "stokvel/stokveltop.TopGuarded", spec := "topGuarded", inPlace := ["internal/bytealg.IndexByteString", "internal/bytealg.IndexString"], unfollowed := true, recurses := true, named := ["stokvel/lex.signs", "stokvel/entry.uses", "internal/bytealg.MaxLen"], apart := false, laid := [("stokvel/lex.signs", laid_stokvel_lex_signs), ("stokvel/entry.uses", laid_stokvel_entry_uses)] }
def TopGuardedSaid : Prop := topGuardedRow.holds Tryz.pinned (OpenSpec.ofChange topGuardedSpec)

/-- ITS FALSE NEIGHBOUR: 'it returns false'. Refute it at one input. -/
def topGuardedWrong : ChangeSpec := { name := "topGuarded", fn := fun _ => fun
  | [d1, d2, d3, d4] => { results := [.lit (.bool false)], args := [d1, d2, d3, d4] }
  | _ => none }
def TopGuardedWrongFalsely : Prop := topGuardedRow.holds Tryz.pinned (OpenSpec.ofChange topGuardedWrong)

/- THE SECOND FORM. 'bulk': how many values and letters a reading holds, each counted each time it is reached (what is shared counts as often as it is met; a slice's spare places count too). A statement '..UptoSaid' is the law's where the arguments, and the package variables that the reading takes, are together of bulk at most 1048576: NARROWER than '..Said'. Prove '..Said' where nothing that the law and all that it calls make is longer than what came in: it says more and counts as full. Else prove '..UptoSaid'. A law counts once. -/
mutual
def uptoBulk {H : Type} : DataW H → Nat
  | .lit (.string bytes) => bytes.length + 1
  | .lit _ => 1
  | .nil => 1
  | .ptr d => uptoBulk d + 1
  | .slice elems spare => uptoBulkAll elems + uptoBulkAll spare + 1
  | .agg parts => uptoBulkAll parts + 1
  | .iface _ d => uptoBulk d + 1
  | .map entries => uptoBulkEntries entries + 1
  | .held _ => 1
def uptoBulkAll {H : Type} : List (DataW H) → Nat
  | [] => 0
  | d :: r => uptoBulk d + uptoBulkAll r
def uptoBulkEntries {H : Type} : List (Lit × DataW H) → Nat
  | [] => 0
  | x :: r => uptoBulkEntry x + uptoBulkEntries r
def uptoBulkEntry {H : Type} : Lit × DataW H → Nat
  | (.string bytes, d) => bytes.length + uptoBulk d + 1
  | (_, d) => uptoBulk d + 1
 end
def uptoSmall : (H : Type) → List (DataW H) → Bool := fun _ ds => decide (uptoBulkAll ds ≤ 1048576)
def OpenSpec.upto (s : _root_.Go.ChangeSpec) : _root_.Go.OpenSpec := { _root_.Go.OpenSpec.ofChange s with cond := some uptoSmall }

/-- 'stokveltop.TopGuarded', WHERE WHAT IT READS IS OF BULK AT MOST 1048576: true; the input reads as it did. -/
def topGuardedUptoRow : OpenClaim := { program := "ytllgjognpobnpaagreatdoor", sum := "09af21e518ccf5b7e9bb56a1f9fcae71a25cd729caf6288b7bc63930826b963d", func := "stokvel/stokveltop.TopGuarded", spec := "topGuarded", inPlace := ["internal/bytealg.IndexByteString", "internal/bytealg.IndexString"], unfollowed := true, recurses := true, named := ["stokvel/lex.signs", "stokvel/entry.uses", "internal/bytealg.MaxLen"], apart := false, laid := [("stokvel/lex.signs", laid_stokvel_lex_signs), ("stokvel/entry.uses", laid_stokvel_entry_uses)], narrowed := true }
def TopGuardedUptoSaid : Prop := topGuardedUptoRow.holds Tryz.pinned (OpenSpec.upto topGuardedSpec)

end Rows
end Go.Proofs.YtllgjognpobnpaaGreatDoor

/-
  DERIVED. GIVEN WITH THE SEED: THE CARDS: each row of YtdcidannegcaoaaGreatDoorRows.lean that lists a variable, with what it lists TIED to the program's text (the seventh form; the later family's looks); each row that meets fmt, with fmt's text TOLD by the authors' own Lean function (tested against real Go, not proved from fmt's source: count such statements apart). THE CARD IS WHAT COUNTS. Prove the row's statement (the work); the ties are given (YtdcidannegcaoaaGreatDoorTie.lean); close each card by the builder's one call (the guide's Derived/Test/ToyasCard.lean, 'card_holds'). Laid BY PROGRAM, IN A SANDBOX (cutbox-door.mjs). By AI agents, Wed Nov 11 2026. No macro, syntax, notation, axiom, sorry.
-/
import Derived.Test.YtdcidannegcaoaaGreatDoorRows
import GoSem.ClaimSeven
namespace Go.Proofs.YtdcidannegcaoaaGreatDoor
namespace Rows

/-- THE TIED CARD OF 'stokveltop.TopDefaults'. -/
def topDefaultsCard : Claim7 := { stood := { row := topDefaultsRow, standIns := [], harness := (true, "c81d484a9e7c9347f5cb24dffaedb554eb265319dcc4c34983b01ef574273e9b"), looks := true }, kinds := [], alts := [], laidByText := true, laidKinds := [.data, .data], laidTests := true, laidLooks := .later }
def TopDefaultsCardSaid : Prop := Claim7.holds Tryz.pinned (.plain (OpenSpec.ofChange topDefaultsSpec)) topDefaultsCard

/-- THE SECOND FORM's CARD OF 'stokveltop.TopDefaults'. -/
def topDefaultsUptoCard : Claim7 := { stood := { row := topDefaultsUptoRow, standIns := [], harness := (true, "c81d484a9e7c9347f5cb24dffaedb554eb265319dcc4c34983b01ef574273e9b"), looks := true }, kinds := [], alts := [], laidByText := true, laidKinds := [.data, .data], laidTests := true, laidLooks := .later }
def TopDefaultsUptoCardSaid : Prop := Claim7.holds Tryz.pinned (.plain (OpenSpec.upto topDefaultsSpec)) topDefaultsUptoCard
end Rows
end Go.Proofs.YtdcidannegcaoaaGreatDoor

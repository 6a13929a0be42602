/-
  DERIVED. GIVEN WITH THE SEED: THE CARDS: each row of YtebinaffldlihaaGreatDoorRows.lean that lists a variable, with what it lists TIED to the program's text (the seventh form; the later family's looks); each row that meets fmt, with fmt's text TOLD by the authors' own Lean function (tested against real Go, not proved from fmt's source: count such statements apart). THE CARD IS WHAT COUNTS. Prove the row's statement (the work); the ties are given (YtebinaffldlihaaGreatDoorTie.lean); close each card by the builder's one call (the guide's Derived/Test/ToyasCard.lean, 'card_holds'). Laid BY PROGRAM, IN A SANDBOX (cutbox-door.mjs). By AI agents, Wed Nov 11 2026. No macro, syntax, notation, axiom, sorry.
-/
import Derived.Test.YtebinaffldlihaaGreatDoorRows
import GoSem.ClaimSeven
namespace Go.Proofs.YtebinaffldlihaaGreatDoor
namespace Rows

/-- THE TIED CARD OF 'stokvellaw05.FracTells'. -/
def fracTellsCard : Claim7 := { stood := { row := fracTellsRow, standIns := [], harness := (true, "77957ba6de78673e30dd59c9fe5693570337ffc5525bb9f014492358de1f0e91"), looks := false }, kinds := [], alts := [], laidByText := true, laidKinds := [.data, .data, .data, .data, .pinned], laidTests := true, laidLooks := .later }
def FracTellsCardSaid : Prop := Claim7.holds Tryz.pinned (.plain (OpenSpec.ofChange fracTellsSpec)) fracTellsCard

/-- THE SECOND FORM's CARD OF 'stokvellaw05.FracTells'. -/
def fracTellsUptoCard : Claim7 := { stood := { row := fracTellsUptoRow, standIns := [], harness := (true, "77957ba6de78673e30dd59c9fe5693570337ffc5525bb9f014492358de1f0e91"), looks := false }, kinds := [], alts := [], laidByText := true, laidKinds := [.data, .data, .data, .data, .pinned], laidTests := true, laidLooks := .later }
def FracTellsUptoCardSaid : Prop := Claim7.holds Tryz.pinned (.plain (OpenSpec.upto fracTellsSpec)) fracTellsUptoCard
end Rows
end Go.Proofs.YtebinaffldlihaaGreatDoor

/-
  DERIVED. GIVEN WITH THE SEED: THE CARDS: each row of YtlejmkmcghbdiaaGreatDoorRows.lean that lists a variable, with what it lists TIED to the program's text (the seventh form; the later family's looks); each row that meets fmt, with fmt's text TOLD by the authors' own Lean function (tested against real Go, not proved from fmt's source: count such statements apart). THE CARD IS WHAT COUNTS. Prove the row's statement (the work); the ties are given (YtlejmkmcghbdiaaGreatDoorTie.lean); close each card by the builder's one call (the guide's Derived/Test/ToyasCard.lean, 'card_holds'). Laid BY PROGRAM, IN A SANDBOX (cutbox-door.mjs). By AI agents, Wed Nov 11 2026. No macro, syntax, notation, axiom, sorry.
-/
import Derived.Test.YtlejmkmcghbdiaaGreatDoorRows
import GoSem.ClaimSeven
namespace Go.Proofs.YtlejmkmcghbdiaaGreatDoor
namespace Rows

/-- THE TIED CARD OF 'stokvellaw04.BigTells'. -/
def bigTellsCard : Claim7 := { stood := { row := bigTellsRow, standIns := [], harness := (true, "88d18a0d2363896c607cd98295a7e2092491cb278966d923bcb05aae0c49c4a5"), looks := false }, kinds := [], alts := [], laidByText := true, laidKinds := [.data, .data, .data, .data, .pinned], laidTests := true, laidLooks := .later }
def BigTellsCardSaid : Prop := Claim7.holds Tryz.pinned (.plain (OpenSpec.ofChange bigTellsSpec)) bigTellsCard

/-- THE SECOND FORM's CARD OF 'stokvellaw04.BigTells'. -/
def bigTellsUptoCard : Claim7 := { stood := { row := bigTellsUptoRow, standIns := [], harness := (true, "88d18a0d2363896c607cd98295a7e2092491cb278966d923bcb05aae0c49c4a5"), looks := false }, kinds := [], alts := [], laidByText := true, laidKinds := [.data, .data, .data, .data, .pinned], laidTests := true, laidLooks := .later }
def BigTellsUptoCardSaid : Prop := Claim7.holds Tryz.pinned (.plain (OpenSpec.upto bigTellsSpec)) bigTellsUptoCard
end Rows
end Go.Proofs.YtlejmkmcghbdiaaGreatDoor

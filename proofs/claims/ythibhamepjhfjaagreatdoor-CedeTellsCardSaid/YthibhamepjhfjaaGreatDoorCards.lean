/-
  DERIVED. GIVEN WITH THE SEED: THE CARDS: each row of YthibhamepjhfjaaGreatDoorRows.lean that lists a variable, with what it lists TIED to the program's text (the seventh form; the later family's looks); each row that meets fmt, with fmt's text TOLD by the authors' own Lean function (tested against real Go, not proved from fmt's source: count such statements apart). THE CARD IS WHAT COUNTS. Prove the row's statement (the work); the ties are given (YthibhamepjhfjaaGreatDoorTie.lean); close each card by the builder's one call (the guide's Derived/Test/ToyasCard.lean, 'card_holds'). Laid BY PROGRAM, IN A SANDBOX (cutbox-door.mjs). By AI agents, Wed Nov 11 2026. No macro, syntax, notation, axiom, sorry.
-/
import Derived.Test.YthibhamepjhfjaaGreatDoorRows
import GoSem.ClaimSeven
namespace Go.Proofs.YthibhamepjhfjaaGreatDoor
namespace Rows

/-- THE TIED CARD OF 'stokvellaw38.CedeTells'. -/
def cedeTellsCard : Claim7 := { stood := { row := cedeTellsRow, standIns := [], harness := (true, "f8b7619e23e342d3967724c23a95a5fdaa26328ccf3ad356d5c8254e8e93b11c"), looks := false }, kinds := [], alts := [], laidByText := true, laidKinds := [.data, .data, .data], laidTests := true, laidLooks := .later }
def CedeTellsCardSaid : Prop := Claim7.holds Tryz.pinned (.plain (OpenSpec.ofChange cedeTellsSpec)) cedeTellsCard

/-- THE TIED CARD OF 'stokvellaw38.CedeSolves'. -/
def cedeSolvesCard : Claim7 := { stood := { row := cedeSolvesRow, standIns := [], harness := (true, "f8b7619e23e342d3967724c23a95a5fdaa26328ccf3ad356d5c8254e8e93b11c"), looks := false }, kinds := [], alts := [], laidByText := true, laidKinds := [.data, .data, .data], laidTests := true, laidLooks := .later }
def CedeSolvesCardSaid : Prop := Claim7.holds Tryz.pinned (.plain (OpenSpec.ofChange cedeSolvesSpec)) cedeSolvesCard

/-- THE TIED CARD OF 'stokvellaw38.CedeCoins'. -/
def cedeCoinsCard : Claim7 := { stood := { row := cedeCoinsRow, standIns := [], harness := (true, "f8b7619e23e342d3967724c23a95a5fdaa26328ccf3ad356d5c8254e8e93b11c"), looks := false }, kinds := [], alts := [], laidByText := true, laidKinds := [.data, .data, .data], laidTests := true, laidLooks := .later }
def CedeCoinsCardSaid : Prop := Claim7.holds Tryz.pinned (.plain (OpenSpec.ofChange cedeCoinsSpec)) cedeCoinsCard

/-- THE TIED CARD OF 'stokvellaw38.CedeTurns'. -/
def cedeTurnsCard : Claim7 := { stood := { row := cedeTurnsRow, standIns := [], harness := (true, "f8b7619e23e342d3967724c23a95a5fdaa26328ccf3ad356d5c8254e8e93b11c"), looks := false }, kinds := [], alts := [], laidByText := true, laidKinds := [.data, .data, .data], laidTests := true, laidLooks := .later }
def CedeTurnsCardSaid : Prop := Claim7.holds Tryz.pinned (.plain (OpenSpec.ofChange cedeTurnsSpec)) cedeTurnsCard

/-- THE SECOND FORM's CARD OF 'stokvellaw38.CedeTells'. -/
def cedeTellsUptoCard : Claim7 := { stood := { row := cedeTellsUptoRow, standIns := [], harness := (true, "f8b7619e23e342d3967724c23a95a5fdaa26328ccf3ad356d5c8254e8e93b11c"), looks := false }, kinds := [], alts := [], laidByText := true, laidKinds := [.data, .data, .data], laidTests := true, laidLooks := .later }
def CedeTellsUptoCardSaid : Prop := Claim7.holds Tryz.pinned (.plain (OpenSpec.upto cedeTellsSpec)) cedeTellsUptoCard

/-- THE SECOND FORM's CARD OF 'stokvellaw38.CedeSolves'. -/
def cedeSolvesUptoCard : Claim7 := { stood := { row := cedeSolvesUptoRow, standIns := [], harness := (true, "f8b7619e23e342d3967724c23a95a5fdaa26328ccf3ad356d5c8254e8e93b11c"), looks := false }, kinds := [], alts := [], laidByText := true, laidKinds := [.data, .data, .data], laidTests := true, laidLooks := .later }
def CedeSolvesUptoCardSaid : Prop := Claim7.holds Tryz.pinned (.plain (OpenSpec.upto cedeSolvesSpec)) cedeSolvesUptoCard

/-- THE SECOND FORM's CARD OF 'stokvellaw38.CedeCoins'. -/
def cedeCoinsUptoCard : Claim7 := { stood := { row := cedeCoinsUptoRow, standIns := [], harness := (true, "f8b7619e23e342d3967724c23a95a5fdaa26328ccf3ad356d5c8254e8e93b11c"), looks := false }, kinds := [], alts := [], laidByText := true, laidKinds := [.data, .data, .data], laidTests := true, laidLooks := .later }
def CedeCoinsUptoCardSaid : Prop := Claim7.holds Tryz.pinned (.plain (OpenSpec.upto cedeCoinsSpec)) cedeCoinsUptoCard

/-- THE SECOND FORM's CARD OF 'stokvellaw38.CedeTurns'. -/
def cedeTurnsUptoCard : Claim7 := { stood := { row := cedeTurnsUptoRow, standIns := [], harness := (true, "f8b7619e23e342d3967724c23a95a5fdaa26328ccf3ad356d5c8254e8e93b11c"), looks := false }, kinds := [], alts := [], laidByText := true, laidKinds := [.data, .data, .data], laidTests := true, laidLooks := .later }
def CedeTurnsUptoCardSaid : Prop := Claim7.holds Tryz.pinned (.plain (OpenSpec.upto cedeTurnsSpec)) cedeTurnsUptoCard
end Rows
end Go.Proofs.YthibhamepjhfjaaGreatDoor

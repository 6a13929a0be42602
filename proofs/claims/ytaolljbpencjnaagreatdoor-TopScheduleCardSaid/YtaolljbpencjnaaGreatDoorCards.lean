/-
  DERIVED. GIVEN WITH THE SEED: THE CARDS: each row of YtaolljbpencjnaaGreatDoorRows.lean that lists a variable, with what it lists TIED to the program's text (the seventh form; the later family's looks); each row that meets fmt, with fmt's text TOLD by the authors' own Lean function (tested against real Go, not proved from fmt's source: count such statements apart). THE CARD IS WHAT COUNTS. Prove the row's statement (the work); the ties are given (YtaolljbpencjnaaGreatDoorTie.lean); close each card by the builder's one call (the guide's Derived/Test/ToyasCard.lean, 'card_holds'). Laid BY PROGRAM, IN A SANDBOX (cutbox-door.mjs). By AI agents, Wed Nov 11 2026. No macro, syntax, notation, axiom, sorry.
-/
import Derived.Test.YtaolljbpencjnaaGreatDoorRows
import GoSem.ClaimSeven
namespace Go.Proofs.YtaolljbpencjnaaGreatDoor
namespace Rows

/-- THE TIED CARD OF 'stokveltop.TopSchedule'. -/
def topScheduleCard : Claim7 := { stood := { row := topScheduleRow, standIns := [], harness := (true, "ab0578587137dada03cb827ebb2cde9e8af96d5046bfdef701e39b17a8896c3a"), looks := true }, kinds := [], alts := [], laidByText := true, laidKinds := [.data, .data], laidTests := true, laidLooks := .later }
def TopScheduleCardSaid : Prop := Claim7.holds Tryz.pinned (.plain (OpenSpec.ofChange topScheduleSpec)) topScheduleCard

/-- THE SECOND FORM's CARD OF 'stokveltop.TopSchedule'. -/
def topScheduleUptoCard : Claim7 := { stood := { row := topScheduleUptoRow, standIns := [], harness := (true, "ab0578587137dada03cb827ebb2cde9e8af96d5046bfdef701e39b17a8896c3a"), looks := true }, kinds := [], alts := [], laidByText := true, laidKinds := [.data, .data], laidTests := true, laidLooks := .later }
def TopScheduleUptoCardSaid : Prop := Claim7.holds Tryz.pinned (.plain (OpenSpec.upto topScheduleSpec)) topScheduleUptoCard
end Rows
end Go.Proofs.YtaolljbpencjnaaGreatDoor

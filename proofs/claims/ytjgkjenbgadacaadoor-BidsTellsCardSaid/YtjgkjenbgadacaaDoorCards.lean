/-
  DERIVED. GIVEN WITH THE SEED: THE CARDS: each row of YtjgkjenbgadacaaDoorRows.lean that lists a variable, with what it lists TIED to the program's text (the seventh form; the later family's looks); each row that meets fmt, with fmt's text TOLD by the authors' own Lean function (tested against real Go, not proved from fmt's source: count such statements apart). THE CARD IS WHAT COUNTS. Prove the row's statement (the work); the ties are given (YtjgkjenbgadacaaDoorTie.lean); close each card by the builder's one call (the guide's Derived/Test/ToyasCard.lean, 'card_holds'). Laid BY PROGRAM, IN A SANDBOX (cutbox-door.mjs). By AI agents, Wed Nov 11 2026. No macro, syntax, notation, axiom, sorry.
-/
import Derived.Test.YtjgkjenbgadacaaDoorRows
import GoSem.ClaimSeven
namespace Go.Proofs.YtjgkjenbgadacaaDoor
namespace Rows

/-- THE TIED CARD OF 'stokvellaw24.BidsTells'. -/
def bidsTellsCard : Claim7 := { stood := { row := bidsTellsRow, standIns := [], harness := (true, "513977f5e9ffd81fbc320b1d3643206116dd0da3aa28e53c584ec207b8533d74"), looks := false }, kinds := [], alts := [], laidByText := true, laidKinds := [.data, .data, .data], laidTests := true, laidLooks := .later }
def BidsTellsCardSaid : Prop := Claim7.holds Tryd.pinned (.plain (OpenSpec.ofChange bidsTellsSpec)) bidsTellsCard

/-- THE TIED CARD OF 'stokvellaw24.BidsShares'. -/
def bidsSharesCard : Claim7 := { stood := { row := bidsSharesRow, standIns := [], harness := (true, "513977f5e9ffd81fbc320b1d3643206116dd0da3aa28e53c584ec207b8533d74"), looks := false }, kinds := [], alts := [], laidByText := true, laidKinds := [.data, .data, .data], laidTests := true, laidLooks := .later }
def BidsSharesCardSaid : Prop := Claim7.holds Tryd.pinned (.plain (OpenSpec.ofChange bidsSharesSpec)) bidsSharesCard

/-- THE TIED CARD OF 'stokvellaw24.BidsStory'. -/
def bidsStoryCard : Claim7 := { stood := { row := bidsStoryRow, standIns := [], harness := (true, "513977f5e9ffd81fbc320b1d3643206116dd0da3aa28e53c584ec207b8533d74"), looks := false }, kinds := [], alts := [], laidByText := true, laidKinds := [.data, .data, .data], laidTests := true, laidLooks := .later }
def BidsStoryCardSaid : Prop := Claim7.holds Tryd.pinned (.plain (OpenSpec.ofChange bidsStorySpec)) bidsStoryCard

/-- THE TIED CARD OF 'stokvellaw24.BidsOrder'. -/
def bidsOrderCard : Claim7 := { stood := { row := bidsOrderRow, standIns := [], harness := (true, "513977f5e9ffd81fbc320b1d3643206116dd0da3aa28e53c584ec207b8533d74"), looks := false }, kinds := [], alts := [], laidByText := true, laidKinds := [.data, .data, .data], laidTests := true, laidLooks := .later }
def BidsOrderCardSaid : Prop := Claim7.holds Tryd.pinned (.plain (OpenSpec.ofChange bidsOrderSpec)) bidsOrderCard

/-- THE TIED CARD OF 'stokvellaw24.BidsHidden'. -/
def bidsHiddenCard : Claim7 := { stood := { row := bidsHiddenRow, standIns := [], harness := (true, "513977f5e9ffd81fbc320b1d3643206116dd0da3aa28e53c584ec207b8533d74"), looks := false }, kinds := [], alts := [], laidByText := true, laidKinds := [.data, .data, .data], laidTests := true, laidLooks := .later }
def BidsHiddenCardSaid : Prop := Claim7.holds Tryd.pinned (.plain (OpenSpec.ofChange bidsHiddenSpec)) bidsHiddenCard

/-- THE SECOND FORM's CARD OF 'stokvellaw24.BidsTells'. -/
def bidsTellsUptoCard : Claim7 := { stood := { row := bidsTellsUptoRow, standIns := [], harness := (true, "513977f5e9ffd81fbc320b1d3643206116dd0da3aa28e53c584ec207b8533d74"), looks := false }, kinds := [], alts := [], laidByText := true, laidKinds := [.data, .data, .data], laidTests := true, laidLooks := .later }
def BidsTellsUptoCardSaid : Prop := Claim7.holds Tryd.pinned (.plain (OpenSpec.upto bidsTellsSpec)) bidsTellsUptoCard

/-- THE SECOND FORM's CARD OF 'stokvellaw24.BidsShares'. -/
def bidsSharesUptoCard : Claim7 := { stood := { row := bidsSharesUptoRow, standIns := [], harness := (true, "513977f5e9ffd81fbc320b1d3643206116dd0da3aa28e53c584ec207b8533d74"), looks := false }, kinds := [], alts := [], laidByText := true, laidKinds := [.data, .data, .data], laidTests := true, laidLooks := .later }
def BidsSharesUptoCardSaid : Prop := Claim7.holds Tryd.pinned (.plain (OpenSpec.upto bidsSharesSpec)) bidsSharesUptoCard

/-- THE SECOND FORM's CARD OF 'stokvellaw24.BidsStory'. -/
def bidsStoryUptoCard : Claim7 := { stood := { row := bidsStoryUptoRow, standIns := [], harness := (true, "513977f5e9ffd81fbc320b1d3643206116dd0da3aa28e53c584ec207b8533d74"), looks := false }, kinds := [], alts := [], laidByText := true, laidKinds := [.data, .data, .data], laidTests := true, laidLooks := .later }
def BidsStoryUptoCardSaid : Prop := Claim7.holds Tryd.pinned (.plain (OpenSpec.upto bidsStorySpec)) bidsStoryUptoCard

/-- THE SECOND FORM's CARD OF 'stokvellaw24.BidsOrder'. -/
def bidsOrderUptoCard : Claim7 := { stood := { row := bidsOrderUptoRow, standIns := [], harness := (true, "513977f5e9ffd81fbc320b1d3643206116dd0da3aa28e53c584ec207b8533d74"), looks := false }, kinds := [], alts := [], laidByText := true, laidKinds := [.data, .data, .data], laidTests := true, laidLooks := .later }
def BidsOrderUptoCardSaid : Prop := Claim7.holds Tryd.pinned (.plain (OpenSpec.upto bidsOrderSpec)) bidsOrderUptoCard

/-- THE SECOND FORM's CARD OF 'stokvellaw24.BidsHidden'. -/
def bidsHiddenUptoCard : Claim7 := { stood := { row := bidsHiddenUptoRow, standIns := [], harness := (true, "513977f5e9ffd81fbc320b1d3643206116dd0da3aa28e53c584ec207b8533d74"), looks := false }, kinds := [], alts := [], laidByText := true, laidKinds := [.data, .data, .data], laidTests := true, laidLooks := .later }
def BidsHiddenUptoCardSaid : Prop := Claim7.holds Tryd.pinned (.plain (OpenSpec.upto bidsHiddenSpec)) bidsHiddenUptoCard
end Rows
end Go.Proofs.YtjgkjenbgadacaaDoor

/-
  DERIVED. GIVEN WITH THE SEED: THE CARDS: each row of YtlngljdmmlbhgaaGreatDoorRows.lean that lists a variable, with what it lists TIED to the program's text (the seventh form; the later family's looks); each row that meets fmt, with fmt's text TOLD by the authors' own Lean function (tested against real Go, not proved from fmt's source: count such statements apart). THE CARD IS WHAT COUNTS. Prove the row's statement (the work); the ties are given (YtlngljdmmlbhgaaGreatDoorTie.lean); close each card by the builder's one call (the guide's Derived/Test/ToyasCard.lean, 'card_holds'). Laid BY PROGRAM, IN A SANDBOX (cutbox-door.mjs). By AI agents, Wed Nov 11 2026. No macro, syntax, notation, axiom, sorry.
-/
import Derived.Test.YtlngljdmmlbhgaaGreatDoorRows
import GoSem.ClaimSeven
namespace Go.Proofs.YtlngljdmmlbhgaaGreatDoor
namespace Rows

/-- THE TIED CARD OF 'tuschetop.TopStripped'. -/
def topStrippedCard : Claim7 := { stood := { row := topStrippedRow, standIns := [], harness := (true, "69c06ac03b3ed56c04e33853c34d64b6ce6ced1c407eebd00536eb3acf0ce811"), looks := true }, kinds := [], alts := [], laidByText := true, laidKinds := [.data], laidTests := true, laidLooks := .later }
def TopStrippedCardSaid : Prop := Claim7.holds Tryz.pinned (.plain (OpenSpec.ofChange topStrippedSpec)) topStrippedCard

/-- THE TIED CARD OF 'tuschetop.TopTurned'. -/
def topTurnedCard : Claim7 := { stood := { row := topTurnedRow, standIns := [], harness := (true, "69c06ac03b3ed56c04e33853c34d64b6ce6ced1c407eebd00536eb3acf0ce811"), looks := true }, kinds := [], alts := [], laidByText := true, laidKinds := [.data], laidTests := true, laidLooks := .later }
def TopTurnedCardSaid : Prop := Claim7.holds Tryz.pinned (.plain (OpenSpec.ofChange topTurnedSpec)) topTurnedCard

/-- THE TIED CARD OF 'tuschetop.TopSwapped'. -/
def topSwappedCard : Claim7 := { stood := { row := topSwappedRow, standIns := [], harness := (true, "69c06ac03b3ed56c04e33853c34d64b6ce6ced1c407eebd00536eb3acf0ce811"), looks := true }, kinds := [], alts := [], laidByText := true, laidKinds := [.data, .pinned], laidTests := true, laidLooks := .later }
def TopSwappedCardSaid : Prop := Claim7.holds Tryz.pinned (.plain (OpenSpec.ofChange topSwappedSpec)) topSwappedCard

/-- THE TIED CARD OF 'tuschetop.TopDrawn'. -/
def topDrawnCard : Claim7 := { stood := { row := topDrawnRow, standIns := [], harness := (true, "69c06ac03b3ed56c04e33853c34d64b6ce6ced1c407eebd00536eb3acf0ce811"), looks := true }, kinds := [], alts := [], laidByText := true, laidKinds := [.data, .data, .data, .data, .pinned], laidTests := true, laidLooks := .later }
def TopDrawnCardSaid : Prop := Claim7.holds Tryz.pinned (.plain (OpenSpec.ofChange topDrawnSpec)) topDrawnCard

/-- THE TIED CARD OF 'tuschetop.TopExchanged'. -/
def topExchangedCard : Claim7 := { stood := { row := topExchangedRow, standIns := [], harness := (true, "69c06ac03b3ed56c04e33853c34d64b6ce6ced1c407eebd00536eb3acf0ce811"), looks := true }, kinds := [], alts := [], laidByText := true, laidKinds := [.data, .data, .data, .data, .pinned], laidTests := true, laidLooks := .later }
def TopExchangedCardSaid : Prop := Claim7.holds Tryz.pinned (.plain (OpenSpec.ofChange topExchangedSpec)) topExchangedCard

/-- THE SECOND FORM's CARD OF 'tuschetop.TopStripped'. -/
def topStrippedUptoCard : Claim7 := { stood := { row := topStrippedUptoRow, standIns := [], harness := (true, "69c06ac03b3ed56c04e33853c34d64b6ce6ced1c407eebd00536eb3acf0ce811"), looks := true }, kinds := [], alts := [], laidByText := true, laidKinds := [.data], laidTests := true, laidLooks := .later }
def TopStrippedUptoCardSaid : Prop := Claim7.holds Tryz.pinned (.plain (OpenSpec.upto topStrippedSpec)) topStrippedUptoCard

/-- THE SECOND FORM's CARD OF 'tuschetop.TopTurned'. -/
def topTurnedUptoCard : Claim7 := { stood := { row := topTurnedUptoRow, standIns := [], harness := (true, "69c06ac03b3ed56c04e33853c34d64b6ce6ced1c407eebd00536eb3acf0ce811"), looks := true }, kinds := [], alts := [], laidByText := true, laidKinds := [.data], laidTests := true, laidLooks := .later }
def TopTurnedUptoCardSaid : Prop := Claim7.holds Tryz.pinned (.plain (OpenSpec.upto topTurnedSpec)) topTurnedUptoCard

/-- THE SECOND FORM's CARD OF 'tuschetop.TopSwapped'. -/
def topSwappedUptoCard : Claim7 := { stood := { row := topSwappedUptoRow, standIns := [], harness := (true, "69c06ac03b3ed56c04e33853c34d64b6ce6ced1c407eebd00536eb3acf0ce811"), looks := true }, kinds := [], alts := [], laidByText := true, laidKinds := [.data, .pinned], laidTests := true, laidLooks := .later }
def TopSwappedUptoCardSaid : Prop := Claim7.holds Tryz.pinned (.plain (OpenSpec.upto topSwappedSpec)) topSwappedUptoCard

/-- THE SECOND FORM's CARD OF 'tuschetop.TopDrawn'. -/
def topDrawnUptoCard : Claim7 := { stood := { row := topDrawnUptoRow, standIns := [], harness := (true, "69c06ac03b3ed56c04e33853c34d64b6ce6ced1c407eebd00536eb3acf0ce811"), looks := true }, kinds := [], alts := [], laidByText := true, laidKinds := [.data, .data, .data, .data, .pinned], laidTests := true, laidLooks := .later }
def TopDrawnUptoCardSaid : Prop := Claim7.holds Tryz.pinned (.plain (OpenSpec.upto topDrawnSpec)) topDrawnUptoCard

/-- THE SECOND FORM's CARD OF 'tuschetop.TopExchanged'. -/
def topExchangedUptoCard : Claim7 := { stood := { row := topExchangedUptoRow, standIns := [], harness := (true, "69c06ac03b3ed56c04e33853c34d64b6ce6ced1c407eebd00536eb3acf0ce811"), looks := true }, kinds := [], alts := [], laidByText := true, laidKinds := [.data, .data, .data, .data, .pinned], laidTests := true, laidLooks := .later }
def TopExchangedUptoCardSaid : Prop := Claim7.holds Tryz.pinned (.plain (OpenSpec.upto topExchangedSpec)) topExchangedUptoCard
end Rows
end Go.Proofs.YtlngljdmmlbhgaaGreatDoor

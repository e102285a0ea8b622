/-
  DERIVED. GIVEN WITH THE SEED: THE CARDS: each row of YtijmkjnlgcockaaGreatDoorRows.lean that lists a variable, with what it lists TIED to the program's text (the seventh form; the later family's looks); each row that meets fmt, with fmt's text TOLD by the authors' own Lean function (tested against real Go, not proved from fmt's source: count such statements apart). THE CARD IS WHAT COUNTS. Prove the row's statement (the work); the ties are given (YtijmkjnlgcockaaGreatDoorTie.lean); close each card by the builder's one call (the guide's Derived/Test/ToyasCard.lean, 'card_holds'). Laid BY PROGRAM, IN A SANDBOX (cutbox-door.mjs). By AI agents, Wed Nov 11 2026. No macro, syntax, notation, axiom, sorry.
-/
import Derived.Test.YtijmkjnlgcockaaGreatDoorRows
import GoSem.ClaimSeven
namespace Go.Proofs.YtijmkjnlgcockaaGreatDoor
namespace Rows

/-- THE TIED CARD OF 'tuschelaw14.ForemanLines'. -/
def foremanLinesCard : Claim7 := { stood := { row := foremanLinesRow, standIns := [], harness := (true, "db7d98a7bafc083f96861ed504a954a0a0fd6f33642bcbb1a19562f0baa2e531"), looks := true }, kinds := [], alts := [], laidByText := true, laidKinds := [.data, .data, .data, .data, .pinned], laidTests := true, laidLooks := .later }
def ForemanLinesCardSaid : Prop := Claim7.holds Tryz.pinned (.plain (OpenSpec.ofChange foremanLinesSpec)) foremanLinesCard

/-- THE TIED CARD OF 'tuschelaw14.ForemanNames'. -/
def foremanNamesCard : Claim7 := { stood := { row := foremanNamesRow, standIns := [], harness := (true, "db7d98a7bafc083f96861ed504a954a0a0fd6f33642bcbb1a19562f0baa2e531"), looks := true }, kinds := [], alts := [], laidByText := true, laidKinds := [.data, .data, .data, .data, .pinned], laidTests := true, laidLooks := .later }
def ForemanNamesCardSaid : Prop := Claim7.holds Tryz.pinned (.plain (OpenSpec.ofChange foremanNamesSpec)) foremanNamesCard

/-- THE TIED CARD OF 'tuschelaw14.ForemanAsked'. -/
def foremanAskedCard : Claim7 := { stood := { row := foremanAskedRow, standIns := [], harness := (true, "db7d98a7bafc083f96861ed504a954a0a0fd6f33642bcbb1a19562f0baa2e531"), looks := true }, kinds := [], alts := [], laidByText := true, laidKinds := [.data, .data, .data, .data, .pinned], laidTests := true, laidLooks := .later }
def ForemanAskedCardSaid : Prop := Claim7.holds Tryz.pinned (.plain (OpenSpec.ofChange foremanAskedSpec)) foremanAskedCard

/-- THE TIED CARD OF 'tuschelaw14.ForemanNone'. -/
def foremanNoneCard : Claim7 := { stood := { row := foremanNoneRow, standIns := [], harness := (true, "db7d98a7bafc083f96861ed504a954a0a0fd6f33642bcbb1a19562f0baa2e531"), looks := true }, kinds := [], alts := [], laidByText := true, laidKinds := [.data, .data, .data, .data, .pinned], laidTests := true, laidLooks := .later }
def ForemanNoneCardSaid : Prop := Claim7.holds Tryz.pinned (.plain (OpenSpec.ofChange foremanNoneSpec)) foremanNoneCard

/-- THE TIED CARD OF 'tuschelaw14.ForemanAgain'. -/
def foremanAgainCard : Claim7 := { stood := { row := foremanAgainRow, standIns := [], harness := (true, "db7d98a7bafc083f96861ed504a954a0a0fd6f33642bcbb1a19562f0baa2e531"), looks := true }, kinds := [], alts := [], laidByText := true, laidKinds := [.data, .data, .data, .data, .pinned], laidTests := true, laidLooks := .later }
def ForemanAgainCardSaid : Prop := Claim7.holds Tryz.pinned (.plain (OpenSpec.ofChange foremanAgainSpec)) foremanAgainCard

/-- THE TIED CARD OF 'tuschelaw14.ForemanFiles'. -/
def foremanFilesCard : Claim7 := { stood := { row := foremanFilesRow, standIns := [], harness := (true, "db7d98a7bafc083f96861ed504a954a0a0fd6f33642bcbb1a19562f0baa2e531"), looks := true }, kinds := [], alts := [], laidByText := true, laidKinds := [.data, .data, .data, .data, .pinned], laidTests := true, laidLooks := .later }
def ForemanFilesCardSaid : Prop := Claim7.holds Tryz.pinned (.plain (OpenSpec.ofChange foremanFilesSpec)) foremanFilesCard

/-- THE TIED CARD OF 'tuschelaw14.ForemanRead'. -/
def foremanReadCard : Claim7 := { stood := { row := foremanReadRow, standIns := [], harness := (true, "db7d98a7bafc083f96861ed504a954a0a0fd6f33642bcbb1a19562f0baa2e531"), looks := true }, kinds := [], alts := [], laidByText := true, laidKinds := [.data, .data, .data, .data, .pinned], laidTests := true, laidLooks := .later }
def ForemanReadCardSaid : Prop := Claim7.holds Tryz.pinned (.plain (OpenSpec.ofChange foremanReadSpec)) foremanReadCard

/-- THE TIED CARD OF 'tuschelaw14.ForemanKnown'. -/
def foremanKnownCard : Claim7 := { stood := { row := foremanKnownRow, standIns := [], harness := (true, "db7d98a7bafc083f96861ed504a954a0a0fd6f33642bcbb1a19562f0baa2e531"), looks := true }, kinds := [], alts := [], laidByText := true, laidKinds := [.data, .data, .data, .data, .pinned], laidTests := true, laidLooks := .later }
def ForemanKnownCardSaid : Prop := Claim7.holds Tryz.pinned (.plain (OpenSpec.ofChange foremanKnownSpec)) foremanKnownCard

/-- THE TIED CARD OF 'tuschelaw14.ForemanSheets'. -/
def foremanSheetsCard : Claim7 := { stood := { row := foremanSheetsRow, standIns := [], harness := (true, "db7d98a7bafc083f96861ed504a954a0a0fd6f33642bcbb1a19562f0baa2e531"), looks := true }, kinds := [], alts := [], laidByText := true, laidKinds := [.data, .data, .data, .data, .sentinel, .sentinel, .pinned], laidTests := true, laidLooks := .later }
def ForemanSheetsCardSaid : Prop := Claim7.holds Tryz.pinned (.plain (OpenSpec.ofChange foremanSheetsSpec)) foremanSheetsCard

/-- THE TIED CARD OF 'tuschelaw14.ForemanClaims'. -/
def foremanClaimsCard : Claim7 := { stood := { row := foremanClaimsRow, standIns := [], harness := (true, "db7d98a7bafc083f96861ed504a954a0a0fd6f33642bcbb1a19562f0baa2e531"), looks := true }, kinds := [], alts := [], laidByText := true, laidKinds := [.data, .data, .data, .data, .sentinel, .sentinel, .pinned], laidTests := true, laidLooks := .later }
def ForemanClaimsCardSaid : Prop := Claim7.holds Tryz.pinned (.plain (OpenSpec.ofChange foremanClaimsSpec)) foremanClaimsCard

/-- THE TIED CARD OF 'tuschelaw14.ForemanRest'. -/
def foremanRestCard : Claim7 := { stood := { row := foremanRestRow, standIns := [], harness := (true, "db7d98a7bafc083f96861ed504a954a0a0fd6f33642bcbb1a19562f0baa2e531"), looks := true }, kinds := [], alts := [], laidByText := true, laidKinds := [.data, .data, .data, .data, .sentinel, .sentinel, .pinned], laidTests := true, laidLooks := .later }
def ForemanRestCardSaid : Prop := Claim7.holds Tryz.pinned (.plain (OpenSpec.ofChange foremanRestSpec)) foremanRestCard

/-- THE SECOND FORM's CARD OF 'tuschelaw14.ForemanLines'. -/
def foremanLinesUptoCard : Claim7 := { stood := { row := foremanLinesUptoRow, standIns := [], harness := (true, "db7d98a7bafc083f96861ed504a954a0a0fd6f33642bcbb1a19562f0baa2e531"), looks := true }, kinds := [], alts := [], laidByText := true, laidKinds := [.data, .data, .data, .data, .pinned], laidTests := true, laidLooks := .later }
def ForemanLinesUptoCardSaid : Prop := Claim7.holds Tryz.pinned (.plain (OpenSpec.upto foremanLinesSpec)) foremanLinesUptoCard

/-- THE SECOND FORM's CARD OF 'tuschelaw14.ForemanNames'. -/
def foremanNamesUptoCard : Claim7 := { stood := { row := foremanNamesUptoRow, standIns := [], harness := (true, "db7d98a7bafc083f96861ed504a954a0a0fd6f33642bcbb1a19562f0baa2e531"), looks := true }, kinds := [], alts := [], laidByText := true, laidKinds := [.data, .data, .data, .data, .pinned], laidTests := true, laidLooks := .later }
def ForemanNamesUptoCardSaid : Prop := Claim7.holds Tryz.pinned (.plain (OpenSpec.upto foremanNamesSpec)) foremanNamesUptoCard

/-- THE SECOND FORM's CARD OF 'tuschelaw14.ForemanAsked'. -/
def foremanAskedUptoCard : Claim7 := { stood := { row := foremanAskedUptoRow, standIns := [], harness := (true, "db7d98a7bafc083f96861ed504a954a0a0fd6f33642bcbb1a19562f0baa2e531"), looks := true }, kinds := [], alts := [], laidByText := true, laidKinds := [.data, .data, .data, .data, .pinned], laidTests := true, laidLooks := .later }
def ForemanAskedUptoCardSaid : Prop := Claim7.holds Tryz.pinned (.plain (OpenSpec.upto foremanAskedSpec)) foremanAskedUptoCard

/-- THE SECOND FORM's CARD OF 'tuschelaw14.ForemanNone'. -/
def foremanNoneUptoCard : Claim7 := { stood := { row := foremanNoneUptoRow, standIns := [], harness := (true, "db7d98a7bafc083f96861ed504a954a0a0fd6f33642bcbb1a19562f0baa2e531"), looks := true }, kinds := [], alts := [], laidByText := true, laidKinds := [.data, .data, .data, .data, .pinned], laidTests := true, laidLooks := .later }
def ForemanNoneUptoCardSaid : Prop := Claim7.holds Tryz.pinned (.plain (OpenSpec.upto foremanNoneSpec)) foremanNoneUptoCard

/-- THE SECOND FORM's CARD OF 'tuschelaw14.ForemanAgain'. -/
def foremanAgainUptoCard : Claim7 := { stood := { row := foremanAgainUptoRow, standIns := [], harness := (true, "db7d98a7bafc083f96861ed504a954a0a0fd6f33642bcbb1a19562f0baa2e531"), looks := true }, kinds := [], alts := [], laidByText := true, laidKinds := [.data, .data, .data, .data, .pinned], laidTests := true, laidLooks := .later }
def ForemanAgainUptoCardSaid : Prop := Claim7.holds Tryz.pinned (.plain (OpenSpec.upto foremanAgainSpec)) foremanAgainUptoCard

/-- THE SECOND FORM's CARD OF 'tuschelaw14.ForemanFiles'. -/
def foremanFilesUptoCard : Claim7 := { stood := { row := foremanFilesUptoRow, standIns := [], harness := (true, "db7d98a7bafc083f96861ed504a954a0a0fd6f33642bcbb1a19562f0baa2e531"), looks := true }, kinds := [], alts := [], laidByText := true, laidKinds := [.data, .data, .data, .data, .pinned], laidTests := true, laidLooks := .later }
def ForemanFilesUptoCardSaid : Prop := Claim7.holds Tryz.pinned (.plain (OpenSpec.upto foremanFilesSpec)) foremanFilesUptoCard

/-- THE SECOND FORM's CARD OF 'tuschelaw14.ForemanRead'. -/
def foremanReadUptoCard : Claim7 := { stood := { row := foremanReadUptoRow, standIns := [], harness := (true, "db7d98a7bafc083f96861ed504a954a0a0fd6f33642bcbb1a19562f0baa2e531"), looks := true }, kinds := [], alts := [], laidByText := true, laidKinds := [.data, .data, .data, .data, .pinned], laidTests := true, laidLooks := .later }
def ForemanReadUptoCardSaid : Prop := Claim7.holds Tryz.pinned (.plain (OpenSpec.upto foremanReadSpec)) foremanReadUptoCard

/-- THE SECOND FORM's CARD OF 'tuschelaw14.ForemanKnown'. -/
def foremanKnownUptoCard : Claim7 := { stood := { row := foremanKnownUptoRow, standIns := [], harness := (true, "db7d98a7bafc083f96861ed504a954a0a0fd6f33642bcbb1a19562f0baa2e531"), looks := true }, kinds := [], alts := [], laidByText := true, laidKinds := [.data, .data, .data, .data, .pinned], laidTests := true, laidLooks := .later }
def ForemanKnownUptoCardSaid : Prop := Claim7.holds Tryz.pinned (.plain (OpenSpec.upto foremanKnownSpec)) foremanKnownUptoCard

/-- THE SECOND FORM's CARD OF 'tuschelaw14.ForemanSheets'. -/
def foremanSheetsUptoCard : Claim7 := { stood := { row := foremanSheetsUptoRow, standIns := [], harness := (true, "db7d98a7bafc083f96861ed504a954a0a0fd6f33642bcbb1a19562f0baa2e531"), looks := true }, kinds := [], alts := [], laidByText := true, laidKinds := [.data, .data, .data, .data, .sentinel, .sentinel, .pinned], laidTests := true, laidLooks := .later }
def ForemanSheetsUptoCardSaid : Prop := Claim7.holds Tryz.pinned (.plain (OpenSpec.upto foremanSheetsSpec)) foremanSheetsUptoCard

/-- THE SECOND FORM's CARD OF 'tuschelaw14.ForemanClaims'. -/
def foremanClaimsUptoCard : Claim7 := { stood := { row := foremanClaimsUptoRow, standIns := [], harness := (true, "db7d98a7bafc083f96861ed504a954a0a0fd6f33642bcbb1a19562f0baa2e531"), looks := true }, kinds := [], alts := [], laidByText := true, laidKinds := [.data, .data, .data, .data, .sentinel, .sentinel, .pinned], laidTests := true, laidLooks := .later }
def ForemanClaimsUptoCardSaid : Prop := Claim7.holds Tryz.pinned (.plain (OpenSpec.upto foremanClaimsSpec)) foremanClaimsUptoCard

/-- THE SECOND FORM's CARD OF 'tuschelaw14.ForemanRest'. -/
def foremanRestUptoCard : Claim7 := { stood := { row := foremanRestUptoRow, standIns := [], harness := (true, "db7d98a7bafc083f96861ed504a954a0a0fd6f33642bcbb1a19562f0baa2e531"), looks := true }, kinds := [], alts := [], laidByText := true, laidKinds := [.data, .data, .data, .data, .sentinel, .sentinel, .pinned], laidTests := true, laidLooks := .later }
def ForemanRestUptoCardSaid : Prop := Claim7.holds Tryz.pinned (.plain (OpenSpec.upto foremanRestSpec)) foremanRestUptoCard
end Rows
end Go.Proofs.YtijmkjnlgcockaaGreatDoor

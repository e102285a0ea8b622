/-
  No cell of these rows narrows 'for every input' (looked for: loops, veiled, ifaces, maps, wideKeys, modest, calm, conditions, laid).
  DERIVED. THE GIVEN ROWS OF THIS SEAT. 12 by the template 'for every input the law returns true; each argument reads behind the call as it read before'; 0 by the template 'total and deterministic' (their statements: YtikifojhjbcfhaaTotals.lean).
  GIVEN WITH THE SEED: the statements are not yours to turn. If you find one false, say at which input.
  Laid BY PROGRAM, IN A SANDBOX (cutbox-rows.mjs): the forced cells as the released guide's own fill.sh prints them over the translation 27c212f456a4d3e1… (all of the seat's roots in one cut). By AI agents, Wed Nov 11 2026. No macro, syntax, notation, axiom, sorry.
-/
import Derived.Test.YtikifojhjbcfhaaChecked
import GoSem.Claim
import GoSem.ClaimJoined
import GoSem.ClaimMapViews
import Derived.JoinedTies
import Derived.KernelRfl
namespace Go.Proofs.Ytikifojhjbcfhaa
/- THE CELL 'sum', in the pinned program and in every row, IS THE sha256 OF THE DUMP (.gsa) THAT YtikifojhjbcfhaaProg.lean LOADS. Nothing in Lean hashes anything: it is a label: what it is worth is what the hold of that sum in a sandbox is worth. -/
noncomputable def Try.pinned : Pinned := { name := "ytikifojhjbcfhaa", sum := "27c212f456a4d3e1f11893d6d3b9c3d660b2ad40bdf05d49da288c20e7a2018b", checked := Try.checked }
namespace Rows
def none {H : Type} : Left H := { results := [], args := [] }

/-- 'tuschelaw01.SerialTexts': WHATEVER THE INPUT: true; the input reads as it did. -/
def serialTextsSpec : ChangeSpec := { name := "serialTexts", fn := fun _ => fun
  | [d] => { results := [.lit (.bool true)], args := [d] }
  | _ => none }
def serialTextsRow : OpenClaim := { program := "ytikifojhjbcfhaa", sum := "27c212f456a4d3e1f11893d6d3b9c3d660b2ad40bdf05d49da288c20e7a2018b", func := "tusche/tuschelaw01.SerialTexts", spec := "serialTexts", unfollowed := true, recurses := true, plainKeys := false, apart := false }
def SerialTextsSaid : Prop := serialTextsRow.holds Try.pinned (OpenSpec.ofChange serialTextsSpec)

/-- ITS FALSE NEIGHBOUR: 'it returns false'. Refute it at one input. -/
def serialTextsWrong : ChangeSpec := { name := "serialTexts", fn := fun _ => fun
  | [d] => { results := [.lit (.bool false)], args := [d] }
  | _ => none }
def SerialTextsWrongFalsely : Prop := serialTextsRow.holds Try.pinned (OpenSpec.ofChange serialTextsWrong)

/-- 'tuschelaw01.SerialCodes': WHATEVER THE INPUT: true; the input reads as it did. -/
def serialCodesSpec : ChangeSpec := { name := "serialCodes", fn := fun _ => fun
  | [d1, d2, d3] => { results := [.lit (.bool true)], args := [d1, d2, d3] }
  | _ => none }
def serialCodesRow : OpenClaim := { program := "ytikifojhjbcfhaa", sum := "27c212f456a4d3e1f11893d6d3b9c3d660b2ad40bdf05d49da288c20e7a2018b", func := "tusche/tuschelaw01.SerialCodes", spec := "serialCodes", unfollowed := true, recurses := true, plainKeys := false, apart := false }
def SerialCodesSaid : Prop := serialCodesRow.holds Try.pinned (OpenSpec.ofChange serialCodesSpec)

/-- ITS FALSE NEIGHBOUR: 'it returns false'. Refute it at one input. -/
def serialCodesWrong : ChangeSpec := { name := "serialCodes", fn := fun _ => fun
  | [d1, d2, d3] => { results := [.lit (.bool false)], args := [d1, d2, d3] }
  | _ => none }
def SerialCodesWrongFalsely : Prop := serialCodesRow.holds Try.pinned (OpenSpec.ofChange serialCodesWrong)

/-- 'tuschelaw01.SerialFixes': WHATEVER THE INPUT: true; the input reads as it did. -/
def serialFixesSpec : ChangeSpec := { name := "serialFixes", fn := fun _ => fun
  | [d1, d2] => { results := [.lit (.bool true)], args := [d1, d2] }
  | _ => none }
def serialFixesRow : OpenClaim := { program := "ytikifojhjbcfhaa", sum := "27c212f456a4d3e1f11893d6d3b9c3d660b2ad40bdf05d49da288c20e7a2018b", func := "tusche/tuschelaw01.SerialFixes", spec := "serialFixes", unfollowed := true, recurses := true, plainKeys := false, apart := false }
def SerialFixesSaid : Prop := serialFixesRow.holds Try.pinned (OpenSpec.ofChange serialFixesSpec)

/-- ITS FALSE NEIGHBOUR: 'it returns false'. Refute it at one input. -/
def serialFixesWrong : ChangeSpec := { name := "serialFixes", fn := fun _ => fun
  | [d1, d2] => { results := [.lit (.bool false)], args := [d1, d2] }
  | _ => none }
def SerialFixesWrongFalsely : Prop := serialFixesRow.holds Try.pinned (OpenSpec.ofChange serialFixesWrong)

/-- 'tuschelaw01.SerialNumbers': WHATEVER THE INPUT: true; the input reads as it did. -/
def serialNumbersSpec : ChangeSpec := { name := "serialNumbers", fn := fun _ => fun
  | [d1, d2, d3, d4] => { results := [.lit (.bool true)], args := [d1, d2, d3, d4] }
  | _ => none }
def serialNumbersRow : OpenClaim := { program := "ytikifojhjbcfhaa", sum := "27c212f456a4d3e1f11893d6d3b9c3d660b2ad40bdf05d49da288c20e7a2018b", func := "tusche/tuschelaw01.SerialNumbers", spec := "serialNumbers", unfollowed := true, recurses := true, plainKeys := false, apart := false }
def SerialNumbersSaid : Prop := serialNumbersRow.holds Try.pinned (OpenSpec.ofChange serialNumbersSpec)

/-- ITS FALSE NEIGHBOUR: 'it returns false'. Refute it at one input. -/
def serialNumbersWrong : ChangeSpec := { name := "serialNumbers", fn := fun _ => fun
  | [d1, d2, d3, d4] => { results := [.lit (.bool false)], args := [d1, d2, d3, d4] }
  | _ => none }
def SerialNumbersWrongFalsely : Prop := serialNumbersRow.holds Try.pinned (OpenSpec.ofChange serialNumbersWrong)

/-- 'tuschelaw01.SerialFixed': WHATEVER THE INPUT: true; the input reads as it did. -/
def serialFixedSpec : ChangeSpec := { name := "serialFixed", fn := fun _ => fun
  | [d1, d2, d3] => { results := [.lit (.bool true)], args := [d1, d2, d3] }
  | _ => none }
def serialFixedRow : OpenClaim := { program := "ytikifojhjbcfhaa", sum := "27c212f456a4d3e1f11893d6d3b9c3d660b2ad40bdf05d49da288c20e7a2018b", func := "tusche/tuschelaw01.SerialFixed", spec := "serialFixed", unfollowed := true, recurses := true, plainKeys := false, apart := false }
def SerialFixedSaid : Prop := serialFixedRow.holds Try.pinned (OpenSpec.ofChange serialFixedSpec)

/-- ITS FALSE NEIGHBOUR: 'it returns false'. Refute it at one input. -/
def serialFixedWrong : ChangeSpec := { name := "serialFixed", fn := fun _ => fun
  | [d1, d2, d3] => { results := [.lit (.bool false)], args := [d1, d2, d3] }
  | _ => none }
def SerialFixedWrongFalsely : Prop := serialFixedRow.holds Try.pinned (OpenSpec.ofChange serialFixedWrong)

/-- 'tuschelaw01.SerialEdition': WHATEVER THE INPUT: true; the input reads as it did. -/
def serialEditionSpec : ChangeSpec := { name := "serialEdition", fn := fun _ => fun
  | [d1, d2, d3] => { results := [.lit (.bool true)], args := [d1, d2, d3] }
  | _ => none }
def serialEditionRow : OpenClaim := { program := "ytikifojhjbcfhaa", sum := "27c212f456a4d3e1f11893d6d3b9c3d660b2ad40bdf05d49da288c20e7a2018b", func := "tusche/tuschelaw01.SerialEdition", spec := "serialEdition", unfollowed := true, recurses := true, plainKeys := false, apart := false }
def SerialEditionSaid : Prop := serialEditionRow.holds Try.pinned (OpenSpec.ofChange serialEditionSpec)

/-- ITS FALSE NEIGHBOUR: 'it returns false'. Refute it at one input. -/
def serialEditionWrong : ChangeSpec := { name := "serialEdition", fn := fun _ => fun
  | [d1, d2, d3] => { results := [.lit (.bool false)], args := [d1, d2, d3] }
  | _ => none }
def SerialEditionWrongFalsely : Prop := serialEditionRow.holds Try.pinned (OpenSpec.ofChange serialEditionWrong)

/-- 'tuschelaw01.SerialTables': WHATEVER THE INPUT: true; the input reads as it did. -/
def serialTablesSpec : ChangeSpec := { name := "serialTables", fn := fun _ => fun
  | [d1, d2, d3] => { results := [.lit (.bool true)], args := [d1, d2, d3] }
  | _ => none }
def serialTablesRow : OpenClaim := { program := "ytikifojhjbcfhaa", sum := "27c212f456a4d3e1f11893d6d3b9c3d660b2ad40bdf05d49da288c20e7a2018b", func := "tusche/tuschelaw01.SerialTables", spec := "serialTables", unfollowed := true, recurses := true, plainKeys := false, apart := false }
def SerialTablesSaid : Prop := serialTablesRow.holds Try.pinned (OpenSpec.ofChange serialTablesSpec)

/-- ITS FALSE NEIGHBOUR: 'it returns false'. Refute it at one input. -/
def serialTablesWrong : ChangeSpec := { name := "serialTables", fn := fun _ => fun
  | [d1, d2, d3] => { results := [.lit (.bool false)], args := [d1, d2, d3] }
  | _ => none }
def SerialTablesWrongFalsely : Prop := serialTablesRow.holds Try.pinned (OpenSpec.ofChange serialTablesWrong)

/-- 'tuschelaw01.SerialNoticed': WHATEVER THE INPUT: true; the input reads as it did. -/
def serialNoticedSpec : ChangeSpec := { name := "serialNoticed", fn := fun _ => fun
  | [d1, d2] => { results := [.lit (.bool true)], args := [d1, d2] }
  | _ => none }
def serialNoticedRow : OpenClaim := { program := "ytikifojhjbcfhaa", sum := "27c212f456a4d3e1f11893d6d3b9c3d660b2ad40bdf05d49da288c20e7a2018b", func := "tusche/tuschelaw01.SerialNoticed", spec := "serialNoticed", unfollowed := true, recurses := true, plainKeys := false, apart := false }
def SerialNoticedSaid : Prop := serialNoticedRow.holds Try.pinned (OpenSpec.ofChange serialNoticedSpec)

/-- ITS FALSE NEIGHBOUR: 'it returns false'. Refute it at one input. -/
def serialNoticedWrong : ChangeSpec := { name := "serialNoticed", fn := fun _ => fun
  | [d1, d2] => { results := [.lit (.bool false)], args := [d1, d2] }
  | _ => none }
def SerialNoticedWrongFalsely : Prop := serialNoticedRow.holds Try.pinned (OpenSpec.ofChange serialNoticedWrong)

/-- 'tuschelaw01.SerialSpots': WHATEVER THE INPUT: true; the input reads as it did. -/
def serialSpotsSpec : ChangeSpec := { name := "serialSpots", fn := fun _ => fun
  | [d] => { results := [.lit (.bool true)], args := [d] }
  | _ => none }
def serialSpotsRow : OpenClaim := { program := "ytikifojhjbcfhaa", sum := "27c212f456a4d3e1f11893d6d3b9c3d660b2ad40bdf05d49da288c20e7a2018b", func := "tusche/tuschelaw01.SerialSpots", spec := "serialSpots", unfollowed := true, recurses := true, plainKeys := false, apart := false }
def SerialSpotsSaid : Prop := serialSpotsRow.holds Try.pinned (OpenSpec.ofChange serialSpotsSpec)

/-- ITS FALSE NEIGHBOUR: 'it returns false'. Refute it at one input. -/
def serialSpotsWrong : ChangeSpec := { name := "serialSpots", fn := fun _ => fun
  | [d] => { results := [.lit (.bool false)], args := [d] }
  | _ => none }
def SerialSpotsWrongFalsely : Prop := serialSpotsRow.holds Try.pinned (OpenSpec.ofChange serialSpotsWrong)

/-- 'tuschelaw01.SerialLines': WHATEVER THE INPUT: true; the input reads as it did. -/
def serialLinesSpec : ChangeSpec := { name := "serialLines", fn := fun _ => fun
  | [d1, d2] => { results := [.lit (.bool true)], args := [d1, d2] }
  | _ => none }
def serialLinesRow : OpenClaim := { program := "ytikifojhjbcfhaa", sum := "27c212f456a4d3e1f11893d6d3b9c3d660b2ad40bdf05d49da288c20e7a2018b", func := "tusche/tuschelaw01.SerialLines", spec := "serialLines", unfollowed := true, recurses := true, plainKeys := false, apart := false }
def SerialLinesSaid : Prop := serialLinesRow.holds Try.pinned (OpenSpec.ofChange serialLinesSpec)

/-- ITS FALSE NEIGHBOUR: 'it returns false'. Refute it at one input. -/
def serialLinesWrong : ChangeSpec := { name := "serialLines", fn := fun _ => fun
  | [d1, d2] => { results := [.lit (.bool false)], args := [d1, d2] }
  | _ => none }
def SerialLinesWrongFalsely : Prop := serialLinesRow.holds Try.pinned (OpenSpec.ofChange serialLinesWrong)

/-- 'tuschelaw01.SerialRenamed': WHATEVER THE INPUT: true; the input reads as it did. -/
def serialRenamedSpec : ChangeSpec := { name := "serialRenamed", fn := fun _ => fun
  | [d1, d2, d3] => { results := [.lit (.bool true)], args := [d1, d2, d3] }
  | _ => none }
def serialRenamedRow : OpenClaim := { program := "ytikifojhjbcfhaa", sum := "27c212f456a4d3e1f11893d6d3b9c3d660b2ad40bdf05d49da288c20e7a2018b", func := "tusche/tuschelaw01.SerialRenamed", spec := "serialRenamed", unfollowed := true, recurses := true, plainKeys := false, apart := false }
def SerialRenamedSaid : Prop := serialRenamedRow.holds Try.pinned (OpenSpec.ofChange serialRenamedSpec)

/-- ITS FALSE NEIGHBOUR: 'it returns false'. Refute it at one input. -/
def serialRenamedWrong : ChangeSpec := { name := "serialRenamed", fn := fun _ => fun
  | [d1, d2, d3] => { results := [.lit (.bool false)], args := [d1, d2, d3] }
  | _ => none }
def SerialRenamedWrongFalsely : Prop := serialRenamedRow.holds Try.pinned (OpenSpec.ofChange serialRenamedWrong)

/-- 'tuschelaw01.SerialKnown': WHATEVER THE INPUT: true; the input reads as it did. -/
def serialKnownSpec : ChangeSpec := { name := "serialKnown", fn := fun _ => fun
  | [] => { results := [.lit (.bool true)], args := [] }
  | _ => none }
def serialKnownRow : OpenClaim := { program := "ytikifojhjbcfhaa", sum := "27c212f456a4d3e1f11893d6d3b9c3d660b2ad40bdf05d49da288c20e7a2018b", func := "tusche/tuschelaw01.SerialKnown", spec := "serialKnown", unfollowed := true, recurses := true, plainKeys := false, apart := false }
def SerialKnownSaid : Prop := serialKnownRow.holds Try.pinned (OpenSpec.ofChange serialKnownSpec)

/-- ITS FALSE NEIGHBOUR: 'it returns false'. Refute it at one input. -/
def serialKnownWrong : ChangeSpec := { name := "serialKnown", fn := fun _ => fun
  | [] => { results := [.lit (.bool false)], args := [] }
  | _ => none }
def SerialKnownWrongFalsely : Prop := serialKnownRow.holds Try.pinned (OpenSpec.ofChange serialKnownWrong)

/- THE SECOND FORM. 'bulk': how many values and letters a reading holds, each counted each time it is reached (what is shared counts as often as it is met; a slice's spare places count too). A statement '..UptoSaid' is the law's where the arguments, and the package variables that the reading takes, are together of bulk at most 1048576: NARROWER than '..Said'. Prove '..Said' where nothing that the law and all that it calls make is longer than what came in: it says more and counts as full. Else prove '..UptoSaid'. A law counts once. -/
mutual
def uptoBulk {H : Type} : DataW H → Nat
  | .lit (.string bytes) => bytes.length + 1
  | .lit _ => 1
  | .nil => 1
  | .ptr d => uptoBulk d + 1
  | .slice elems spare => uptoBulkAll elems + uptoBulkAll spare + 1
  | .agg parts => uptoBulkAll parts + 1
  | .iface _ d => uptoBulk d + 1
  | .map entries => uptoBulkEntries entries + 1
  | .held _ => 1
def uptoBulkAll {H : Type} : List (DataW H) → Nat
  | [] => 0
  | d :: r => uptoBulk d + uptoBulkAll r
def uptoBulkEntries {H : Type} : List (Lit × DataW H) → Nat
  | [] => 0
  | x :: r => uptoBulkEntry x + uptoBulkEntries r
def uptoBulkEntry {H : Type} : Lit × DataW H → Nat
  | (.string bytes, d) => bytes.length + uptoBulk d + 1
  | (_, d) => uptoBulk d + 1
 end
def uptoSmall : (H : Type) → List (DataW H) → Bool := fun _ ds => decide (uptoBulkAll ds ≤ 1048576)
def OpenSpec.upto (s : _root_.Go.ChangeSpec) : _root_.Go.OpenSpec := { _root_.Go.OpenSpec.ofChange s with cond := some uptoSmall }

/-- 'tuschelaw01.SerialTexts', WHERE WHAT IT READS IS OF BULK AT MOST 1048576: true; the input reads as it did. -/
def serialTextsUptoRow : OpenClaim := { program := "ytikifojhjbcfhaa", sum := "27c212f456a4d3e1f11893d6d3b9c3d660b2ad40bdf05d49da288c20e7a2018b", func := "tusche/tuschelaw01.SerialTexts", spec := "serialTexts", unfollowed := true, recurses := true, plainKeys := false, apart := false, narrowed := true }
def SerialTextsUptoSaid : Prop := serialTextsUptoRow.holds Try.pinned (OpenSpec.upto serialTextsSpec)

/-- 'tuschelaw01.SerialCodes', WHERE WHAT IT READS IS OF BULK AT MOST 1048576: true; the input reads as it did. -/
def serialCodesUptoRow : OpenClaim := { program := "ytikifojhjbcfhaa", sum := "27c212f456a4d3e1f11893d6d3b9c3d660b2ad40bdf05d49da288c20e7a2018b", func := "tusche/tuschelaw01.SerialCodes", spec := "serialCodes", unfollowed := true, recurses := true, plainKeys := false, apart := false, narrowed := true }
def SerialCodesUptoSaid : Prop := serialCodesUptoRow.holds Try.pinned (OpenSpec.upto serialCodesSpec)

/-- 'tuschelaw01.SerialFixes', WHERE WHAT IT READS IS OF BULK AT MOST 1048576: true; the input reads as it did. -/
def serialFixesUptoRow : OpenClaim := { program := "ytikifojhjbcfhaa", sum := "27c212f456a4d3e1f11893d6d3b9c3d660b2ad40bdf05d49da288c20e7a2018b", func := "tusche/tuschelaw01.SerialFixes", spec := "serialFixes", unfollowed := true, recurses := true, plainKeys := false, apart := false, narrowed := true }
def SerialFixesUptoSaid : Prop := serialFixesUptoRow.holds Try.pinned (OpenSpec.upto serialFixesSpec)

/-- 'tuschelaw01.SerialNumbers', WHERE WHAT IT READS IS OF BULK AT MOST 1048576: true; the input reads as it did. -/
def serialNumbersUptoRow : OpenClaim := { program := "ytikifojhjbcfhaa", sum := "27c212f456a4d3e1f11893d6d3b9c3d660b2ad40bdf05d49da288c20e7a2018b", func := "tusche/tuschelaw01.SerialNumbers", spec := "serialNumbers", unfollowed := true, recurses := true, plainKeys := false, apart := false, narrowed := true }
def SerialNumbersUptoSaid : Prop := serialNumbersUptoRow.holds Try.pinned (OpenSpec.upto serialNumbersSpec)

/-- 'tuschelaw01.SerialFixed', WHERE WHAT IT READS IS OF BULK AT MOST 1048576: true; the input reads as it did. -/
def serialFixedUptoRow : OpenClaim := { program := "ytikifojhjbcfhaa", sum := "27c212f456a4d3e1f11893d6d3b9c3d660b2ad40bdf05d49da288c20e7a2018b", func := "tusche/tuschelaw01.SerialFixed", spec := "serialFixed", unfollowed := true, recurses := true, plainKeys := false, apart := false, narrowed := true }
def SerialFixedUptoSaid : Prop := serialFixedUptoRow.holds Try.pinned (OpenSpec.upto serialFixedSpec)

/-- 'tuschelaw01.SerialEdition', WHERE WHAT IT READS IS OF BULK AT MOST 1048576: true; the input reads as it did. -/
def serialEditionUptoRow : OpenClaim := { program := "ytikifojhjbcfhaa", sum := "27c212f456a4d3e1f11893d6d3b9c3d660b2ad40bdf05d49da288c20e7a2018b", func := "tusche/tuschelaw01.SerialEdition", spec := "serialEdition", unfollowed := true, recurses := true, plainKeys := false, apart := false, narrowed := true }
def SerialEditionUptoSaid : Prop := serialEditionUptoRow.holds Try.pinned (OpenSpec.upto serialEditionSpec)

/-- 'tuschelaw01.SerialTables', WHERE WHAT IT READS IS OF BULK AT MOST 1048576: true; the input reads as it did. -/
def serialTablesUptoRow : OpenClaim := { program := "ytikifojhjbcfhaa", sum := "27c212f456a4d3e1f11893d6d3b9c3d660b2ad40bdf05d49da288c20e7a2018b", func := "tusche/tuschelaw01.SerialTables", spec := "serialTables", unfollowed := true, recurses := true, plainKeys := false, apart := false, narrowed := true }
def SerialTablesUptoSaid : Prop := serialTablesUptoRow.holds Try.pinned (OpenSpec.upto serialTablesSpec)

/-- 'tuschelaw01.SerialNoticed', WHERE WHAT IT READS IS OF BULK AT MOST 1048576: true; the input reads as it did. -/
def serialNoticedUptoRow : OpenClaim := { program := "ytikifojhjbcfhaa", sum := "27c212f456a4d3e1f11893d6d3b9c3d660b2ad40bdf05d49da288c20e7a2018b", func := "tusche/tuschelaw01.SerialNoticed", spec := "serialNoticed", unfollowed := true, recurses := true, plainKeys := false, apart := false, narrowed := true }
def SerialNoticedUptoSaid : Prop := serialNoticedUptoRow.holds Try.pinned (OpenSpec.upto serialNoticedSpec)

/-- 'tuschelaw01.SerialSpots', WHERE WHAT IT READS IS OF BULK AT MOST 1048576: true; the input reads as it did. -/
def serialSpotsUptoRow : OpenClaim := { program := "ytikifojhjbcfhaa", sum := "27c212f456a4d3e1f11893d6d3b9c3d660b2ad40bdf05d49da288c20e7a2018b", func := "tusche/tuschelaw01.SerialSpots", spec := "serialSpots", unfollowed := true, recurses := true, plainKeys := false, apart := false, narrowed := true }
def SerialSpotsUptoSaid : Prop := serialSpotsUptoRow.holds Try.pinned (OpenSpec.upto serialSpotsSpec)

/-- 'tuschelaw01.SerialLines', WHERE WHAT IT READS IS OF BULK AT MOST 1048576: true; the input reads as it did. -/
def serialLinesUptoRow : OpenClaim := { program := "ytikifojhjbcfhaa", sum := "27c212f456a4d3e1f11893d6d3b9c3d660b2ad40bdf05d49da288c20e7a2018b", func := "tusche/tuschelaw01.SerialLines", spec := "serialLines", unfollowed := true, recurses := true, plainKeys := false, apart := false, narrowed := true }
def SerialLinesUptoSaid : Prop := serialLinesUptoRow.holds Try.pinned (OpenSpec.upto serialLinesSpec)

/-- 'tuschelaw01.SerialRenamed', WHERE WHAT IT READS IS OF BULK AT MOST 1048576: true; the input reads as it did. -/
def serialRenamedUptoRow : OpenClaim := { program := "ytikifojhjbcfhaa", sum := "27c212f456a4d3e1f11893d6d3b9c3d660b2ad40bdf05d49da288c20e7a2018b", func := "tusche/tuschelaw01.SerialRenamed", spec := "serialRenamed", unfollowed := true, recurses := true, plainKeys := false, apart := false, narrowed := true }
def SerialRenamedUptoSaid : Prop := serialRenamedUptoRow.holds Try.pinned (OpenSpec.upto serialRenamedSpec)

/-- 'tuschelaw01.SerialKnown', WHERE WHAT IT READS IS OF BULK AT MOST 1048576: true; the input reads as it did. -/
def serialKnownUptoRow : OpenClaim := { program := "ytikifojhjbcfhaa", sum := "27c212f456a4d3e1f11893d6d3b9c3d660b2ad40bdf05d49da288c20e7a2018b", func := "tusche/tuschelaw01.SerialKnown", spec := "serialKnown", unfollowed := true, recurses := true, plainKeys := false, apart := false, narrowed := true }
def SerialKnownUptoSaid : Prop := serialKnownUptoRow.holds Try.pinned (OpenSpec.upto serialKnownSpec)

end Rows
end Go.Proofs.Ytikifojhjbcfhaa

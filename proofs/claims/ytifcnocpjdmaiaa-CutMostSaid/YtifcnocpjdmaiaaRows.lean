/-
  No cell of these rows narrows 'for every input' (looked for: loops, veiled, ifaces, maps, wideKeys, modest, calm, conditions, laid).
  DERIVED. THE GIVEN ROWS OF THIS SEAT. 10 by the template 'for every input the law returns true; each argument reads behind the call as it read before'; 0 by the template 'total and deterministic' (their statements: YtifcnocpjdmaiaaTotals.lean).
  GIVEN WITH THE SEED: the statements are not yours to turn. If you find one false, say at which input.
  Laid BY PROGRAM, IN A SANDBOX (cutbox-rows.mjs): the forced cells as the released guide's own fill.sh prints them over the translation 99069afb35a4618b… (all of the seat's roots in one cut). By AI agents, Wed Nov 11 2026. No macro, syntax, notation, axiom, sorry.
-/
import Derived.Test.YtifcnocpjdmaiaaChecked
import GoSem.Claim
import GoSem.ClaimJoined
import GoSem.ClaimMapViews
import Derived.JoinedTies
import Derived.KernelRfl
namespace Go.Proofs.Ytifcnocpjdmaiaa
/- THE CELL 'sum', in the pinned program and in every row, IS THE sha256 OF THE DUMP (.gsa) THAT YtifcnocpjdmaiaaProg.lean LOADS. Nothing in Lean hashes anything: it is a label: what it is worth is what the hold of that sum in a sandbox is worth. -/
noncomputable def Try.pinned : Pinned := { name := "ytifcnocpjdmaiaa", sum := "99069afb35a4618b2ea81c6de8d933bb60d8c22b51116c2989380dd7ae511cf6", checked := Try.checked }
namespace Rows
def none {H : Type} : Left H := { results := [], args := [] }

/-- 'tuschelaw06.CutLayouts': WHATEVER THE INPUT: true; the input reads as it did. -/
def cutLayoutsSpec : ChangeSpec := { name := "cutLayouts", fn := fun _ => fun
  | [d1, d2] => { results := [.lit (.bool true)], args := [d1, d2] }
  | _ => none }
def cutLayoutsRow : OpenClaim := { program := "ytifcnocpjdmaiaa", sum := "99069afb35a4618b2ea81c6de8d933bb60d8c22b51116c2989380dd7ae511cf6", func := "tusche/tuschelaw06.CutLayouts", spec := "cutLayouts", unfollowed := true, recurses := true, plainKeys := false, apart := false }
def CutLayoutsSaid : Prop := cutLayoutsRow.holds Try.pinned (OpenSpec.ofChange cutLayoutsSpec)

/-- ITS FALSE NEIGHBOUR: 'it returns false'. Refute it at one input. -/
def cutLayoutsWrong : ChangeSpec := { name := "cutLayouts", fn := fun _ => fun
  | [d1, d2] => { results := [.lit (.bool false)], args := [d1, d2] }
  | _ => none }
def CutLayoutsWrongFalsely : Prop := cutLayoutsRow.holds Try.pinned (OpenSpec.ofChange cutLayoutsWrong)

/-- 'tuschelaw06.CutPlans': WHATEVER THE INPUT: true; the input reads as it did. -/
def cutPlansSpec : ChangeSpec := { name := "cutPlans", fn := fun _ => fun
  | [d1, d2] => { results := [.lit (.bool true)], args := [d1, d2] }
  | _ => none }
def cutPlansRow : OpenClaim := { program := "ytifcnocpjdmaiaa", sum := "99069afb35a4618b2ea81c6de8d933bb60d8c22b51116c2989380dd7ae511cf6", func := "tusche/tuschelaw06.CutPlans", spec := "cutPlans", unfollowed := true, recurses := true, plainKeys := false, apart := false }
def CutPlansSaid : Prop := cutPlansRow.holds Try.pinned (OpenSpec.ofChange cutPlansSpec)

/-- ITS FALSE NEIGHBOUR: 'it returns false'. Refute it at one input. -/
def cutPlansWrong : ChangeSpec := { name := "cutPlans", fn := fun _ => fun
  | [d1, d2] => { results := [.lit (.bool false)], args := [d1, d2] }
  | _ => none }
def CutPlansWrongFalsely : Prop := cutPlansRow.holds Try.pinned (OpenSpec.ofChange cutPlansWrong)

/-- 'tuschelaw06.CutBest': WHATEVER THE INPUT: true; the input reads as it did. -/
def cutBestSpec : ChangeSpec := { name := "cutBest", fn := fun _ => fun
  | [d1, d2, d3] => { results := [.lit (.bool true)], args := [d1, d2, d3] }
  | _ => none }
def cutBestRow : OpenClaim := { program := "ytifcnocpjdmaiaa", sum := "99069afb35a4618b2ea81c6de8d933bb60d8c22b51116c2989380dd7ae511cf6", func := "tusche/tuschelaw06.CutBest", spec := "cutBest", unfollowed := true, recurses := true, plainKeys := false, apart := false }
def CutBestSaid : Prop := cutBestRow.holds Try.pinned (OpenSpec.ofChange cutBestSpec)

/-- ITS FALSE NEIGHBOUR: 'it returns false'. Refute it at one input. -/
def cutBestWrong : ChangeSpec := { name := "cutBest", fn := fun _ => fun
  | [d1, d2, d3] => { results := [.lit (.bool false)], args := [d1, d2, d3] }
  | _ => none }
def CutBestWrongFalsely : Prop := cutBestRow.holds Try.pinned (OpenSpec.ofChange cutBestWrong)

/-- 'tuschelaw06.CutApart': WHATEVER THE INPUT: true; the input reads as it did. -/
def cutApartSpec : ChangeSpec := { name := "cutApart", fn := fun _ => fun
  | [d] => { results := [.lit (.bool true)], args := [d] }
  | _ => none }
def cutApartRow : OpenClaim := { program := "ytifcnocpjdmaiaa", sum := "99069afb35a4618b2ea81c6de8d933bb60d8c22b51116c2989380dd7ae511cf6", func := "tusche/tuschelaw06.CutApart", spec := "cutApart", unfollowed := true, recurses := true, plainKeys := false, apart := false }
def CutApartSaid : Prop := cutApartRow.holds Try.pinned (OpenSpec.ofChange cutApartSpec)

/-- ITS FALSE NEIGHBOUR: 'it returns false'. Refute it at one input. -/
def cutApartWrong : ChangeSpec := { name := "cutApart", fn := fun _ => fun
  | [d] => { results := [.lit (.bool false)], args := [d] }
  | _ => none }
def CutApartWrongFalsely : Prop := cutApartRow.holds Try.pinned (OpenSpec.ofChange cutApartWrong)

/-- 'tuschelaw06.CutAny': WHATEVER THE INPUT: true; the input reads as it did. -/
def cutAnySpec : ChangeSpec := { name := "cutAny", fn := fun _ => fun
  | [d] => { results := [.lit (.bool true)], args := [d] }
  | _ => none }
def cutAnyRow : OpenClaim := { program := "ytifcnocpjdmaiaa", sum := "99069afb35a4618b2ea81c6de8d933bb60d8c22b51116c2989380dd7ae511cf6", func := "tusche/tuschelaw06.CutAny", spec := "cutAny", unfollowed := true, recurses := true, plainKeys := false, apart := false }
def CutAnySaid : Prop := cutAnyRow.holds Try.pinned (OpenSpec.ofChange cutAnySpec)

/-- ITS FALSE NEIGHBOUR: 'it returns false'. Refute it at one input. -/
def cutAnyWrong : ChangeSpec := { name := "cutAny", fn := fun _ => fun
  | [d] => { results := [.lit (.bool false)], args := [d] }
  | _ => none }
def CutAnyWrongFalsely : Prop := cutAnyRow.holds Try.pinned (OpenSpec.ofChange cutAnyWrong)

/-- 'tuschelaw06.CutVerified': WHATEVER THE INPUT: true; the input reads as it did. -/
def cutVerifiedSpec : ChangeSpec := { name := "cutVerified", fn := fun _ => fun
  | [d1, d2] => { results := [.lit (.bool true)], args := [d1, d2] }
  | _ => none }
def cutVerifiedRow : OpenClaim := { program := "ytifcnocpjdmaiaa", sum := "99069afb35a4618b2ea81c6de8d933bb60d8c22b51116c2989380dd7ae511cf6", func := "tusche/tuschelaw06.CutVerified", spec := "cutVerified", unfollowed := true, recurses := true, plainKeys := false, apart := false }
def CutVerifiedSaid : Prop := cutVerifiedRow.holds Try.pinned (OpenSpec.ofChange cutVerifiedSpec)

/-- ITS FALSE NEIGHBOUR: 'it returns false'. Refute it at one input. -/
def cutVerifiedWrong : ChangeSpec := { name := "cutVerified", fn := fun _ => fun
  | [d1, d2] => { results := [.lit (.bool false)], args := [d1, d2] }
  | _ => none }
def CutVerifiedWrongFalsely : Prop := cutVerifiedRow.holds Try.pinned (OpenSpec.ofChange cutVerifiedWrong)

/-- 'tuschelaw06.CutLess': WHATEVER THE INPUT: true; the input reads as it did. -/
def cutLessSpec : ChangeSpec := { name := "cutLess", fn := fun _ => fun
  | [d1, d2, d3] => { results := [.lit (.bool true)], args := [d1, d2, d3] }
  | _ => none }
def cutLessRow : OpenClaim := { program := "ytifcnocpjdmaiaa", sum := "99069afb35a4618b2ea81c6de8d933bb60d8c22b51116c2989380dd7ae511cf6", func := "tusche/tuschelaw06.CutLess", spec := "cutLess", unfollowed := true, recurses := true, plainKeys := false, apart := false }
def CutLessSaid : Prop := cutLessRow.holds Try.pinned (OpenSpec.ofChange cutLessSpec)

/-- ITS FALSE NEIGHBOUR: 'it returns false'. Refute it at one input. -/
def cutLessWrong : ChangeSpec := { name := "cutLess", fn := fun _ => fun
  | [d1, d2, d3] => { results := [.lit (.bool false)], args := [d1, d2, d3] }
  | _ => none }
def CutLessWrongFalsely : Prop := cutLessRow.holds Try.pinned (OpenSpec.ofChange cutLessWrong)

/-- 'tuschelaw06.CutMost': WHATEVER THE INPUT: true; the input reads as it did. -/
def cutMostSpec : ChangeSpec := { name := "cutMost", fn := fun _ => fun
  | [d1, d2] => { results := [.lit (.bool true)], args := [d1, d2] }
  | _ => none }
def cutMostRow : OpenClaim := { program := "ytifcnocpjdmaiaa", sum := "99069afb35a4618b2ea81c6de8d933bb60d8c22b51116c2989380dd7ae511cf6", func := "tusche/tuschelaw06.CutMost", spec := "cutMost", unfollowed := true, recurses := true, plainKeys := false, apart := false }
def CutMostSaid : Prop := cutMostRow.holds Try.pinned (OpenSpec.ofChange cutMostSpec)

/-- ITS FALSE NEIGHBOUR: 'it returns false'. Refute it at one input. -/
def cutMostWrong : ChangeSpec := { name := "cutMost", fn := fun _ => fun
  | [d1, d2] => { results := [.lit (.bool false)], args := [d1, d2] }
  | _ => none }
def CutMostWrongFalsely : Prop := cutMostRow.holds Try.pinned (OpenSpec.ofChange cutMostWrong)

/-- 'tuschelaw06.CutMore': WHATEVER THE INPUT: true; the input reads as it did. -/
def cutMoreSpec : ChangeSpec := { name := "cutMore", fn := fun _ => fun
  | [d1, d2, d3, d4] => { results := [.lit (.bool true)], args := [d1, d2, d3, d4] }
  | _ => none }
def cutMoreRow : OpenClaim := { program := "ytifcnocpjdmaiaa", sum := "99069afb35a4618b2ea81c6de8d933bb60d8c22b51116c2989380dd7ae511cf6", func := "tusche/tuschelaw06.CutMore", spec := "cutMore", unfollowed := true, recurses := true, plainKeys := false, apart := false }
def CutMoreSaid : Prop := cutMoreRow.holds Try.pinned (OpenSpec.ofChange cutMoreSpec)

/-- ITS FALSE NEIGHBOUR: 'it returns false'. Refute it at one input. -/
def cutMoreWrong : ChangeSpec := { name := "cutMore", fn := fun _ => fun
  | [d1, d2, d3, d4] => { results := [.lit (.bool false)], args := [d1, d2, d3, d4] }
  | _ => none }
def CutMoreWrongFalsely : Prop := cutMoreRow.holds Try.pinned (OpenSpec.ofChange cutMoreWrong)

/-- 'tuschelaw06.CutKnown': WHATEVER THE INPUT: true; the input reads as it did. -/
def cutKnownSpec : ChangeSpec := { name := "cutKnown", fn := fun _ => fun
  | [] => { results := [.lit (.bool true)], args := [] }
  | _ => none }
def cutKnownRow : OpenClaim := { program := "ytifcnocpjdmaiaa", sum := "99069afb35a4618b2ea81c6de8d933bb60d8c22b51116c2989380dd7ae511cf6", func := "tusche/tuschelaw06.CutKnown", spec := "cutKnown", unfollowed := true, recurses := true, plainKeys := false, apart := false }
def CutKnownSaid : Prop := cutKnownRow.holds Try.pinned (OpenSpec.ofChange cutKnownSpec)

/-- ITS FALSE NEIGHBOUR: 'it returns false'. Refute it at one input. -/
def cutKnownWrong : ChangeSpec := { name := "cutKnown", fn := fun _ => fun
  | [] => { results := [.lit (.bool false)], args := [] }
  | _ => none }
def CutKnownWrongFalsely : Prop := cutKnownRow.holds Try.pinned (OpenSpec.ofChange cutKnownWrong)

/- THE SECOND FORM. 'bulk': how many values and letters a reading holds, each counted each time it is reached (what is shared counts as often as it is met; a slice's spare places count too). A statement '..UptoSaid' is the law's where the arguments, and the package variables that the reading takes, are together of bulk at most 1048576: NARROWER than '..Said'. Prove '..Said' where nothing that the law and all that it calls make is longer than what came in: it says more and counts as full. Else prove '..UptoSaid'. A law counts once. -/
mutual
def uptoBulk {H : Type} : DataW H → Nat
  | .lit (.string bytes) => bytes.length + 1
  | .lit _ => 1
  | .nil => 1
  | .ptr d => uptoBulk d + 1
  | .slice elems spare => uptoBulkAll elems + uptoBulkAll spare + 1
  | .agg parts => uptoBulkAll parts + 1
  | .iface _ d => uptoBulk d + 1
  | .map entries => uptoBulkEntries entries + 1
  | .held _ => 1
def uptoBulkAll {H : Type} : List (DataW H) → Nat
  | [] => 0
  | d :: r => uptoBulk d + uptoBulkAll r
def uptoBulkEntries {H : Type} : List (Lit × DataW H) → Nat
  | [] => 0
  | x :: r => uptoBulkEntry x + uptoBulkEntries r
def uptoBulkEntry {H : Type} : Lit × DataW H → Nat
  | (.string bytes, d) => bytes.length + uptoBulk d + 1
  | (_, d) => uptoBulk d + 1
 end
def uptoSmall : (H : Type) → List (DataW H) → Bool := fun _ ds => decide (uptoBulkAll ds ≤ 1048576)
def OpenSpec.upto (s : _root_.Go.ChangeSpec) : _root_.Go.OpenSpec := { _root_.Go.OpenSpec.ofChange s with cond := some uptoSmall }

/-- 'tuschelaw06.CutLayouts', WHERE WHAT IT READS IS OF BULK AT MOST 1048576: true; the input reads as it did. -/
def cutLayoutsUptoRow : OpenClaim := { program := "ytifcnocpjdmaiaa", sum := "99069afb35a4618b2ea81c6de8d933bb60d8c22b51116c2989380dd7ae511cf6", func := "tusche/tuschelaw06.CutLayouts", spec := "cutLayouts", unfollowed := true, recurses := true, plainKeys := false, apart := false, narrowed := true }
def CutLayoutsUptoSaid : Prop := cutLayoutsUptoRow.holds Try.pinned (OpenSpec.upto cutLayoutsSpec)

/-- 'tuschelaw06.CutPlans', WHERE WHAT IT READS IS OF BULK AT MOST 1048576: true; the input reads as it did. -/
def cutPlansUptoRow : OpenClaim := { program := "ytifcnocpjdmaiaa", sum := "99069afb35a4618b2ea81c6de8d933bb60d8c22b51116c2989380dd7ae511cf6", func := "tusche/tuschelaw06.CutPlans", spec := "cutPlans", unfollowed := true, recurses := true, plainKeys := false, apart := false, narrowed := true }
def CutPlansUptoSaid : Prop := cutPlansUptoRow.holds Try.pinned (OpenSpec.upto cutPlansSpec)

/-- 'tuschelaw06.CutBest', WHERE WHAT IT READS IS OF BULK AT MOST 1048576: true; the input reads as it did. -/
def cutBestUptoRow : OpenClaim := { program := "ytifcnocpjdmaiaa", sum := "99069afb35a4618b2ea81c6de8d933bb60d8c22b51116c2989380dd7ae511cf6", func := "tusche/tuschelaw06.CutBest", spec := "cutBest", unfollowed := true, recurses := true, plainKeys := false, apart := false, narrowed := true }
def CutBestUptoSaid : Prop := cutBestUptoRow.holds Try.pinned (OpenSpec.upto cutBestSpec)

/-- 'tuschelaw06.CutApart', WHERE WHAT IT READS IS OF BULK AT MOST 1048576: true; the input reads as it did. -/
def cutApartUptoRow : OpenClaim := { program := "ytifcnocpjdmaiaa", sum := "99069afb35a4618b2ea81c6de8d933bb60d8c22b51116c2989380dd7ae511cf6", func := "tusche/tuschelaw06.CutApart", spec := "cutApart", unfollowed := true, recurses := true, plainKeys := false, apart := false, narrowed := true }
def CutApartUptoSaid : Prop := cutApartUptoRow.holds Try.pinned (OpenSpec.upto cutApartSpec)

/-- 'tuschelaw06.CutAny', WHERE WHAT IT READS IS OF BULK AT MOST 1048576: true; the input reads as it did. -/
def cutAnyUptoRow : OpenClaim := { program := "ytifcnocpjdmaiaa", sum := "99069afb35a4618b2ea81c6de8d933bb60d8c22b51116c2989380dd7ae511cf6", func := "tusche/tuschelaw06.CutAny", spec := "cutAny", unfollowed := true, recurses := true, plainKeys := false, apart := false, narrowed := true }
def CutAnyUptoSaid : Prop := cutAnyUptoRow.holds Try.pinned (OpenSpec.upto cutAnySpec)

/-- 'tuschelaw06.CutVerified', WHERE WHAT IT READS IS OF BULK AT MOST 1048576: true; the input reads as it did. -/
def cutVerifiedUptoRow : OpenClaim := { program := "ytifcnocpjdmaiaa", sum := "99069afb35a4618b2ea81c6de8d933bb60d8c22b51116c2989380dd7ae511cf6", func := "tusche/tuschelaw06.CutVerified", spec := "cutVerified", unfollowed := true, recurses := true, plainKeys := false, apart := false, narrowed := true }
def CutVerifiedUptoSaid : Prop := cutVerifiedUptoRow.holds Try.pinned (OpenSpec.upto cutVerifiedSpec)

/-- 'tuschelaw06.CutLess', WHERE WHAT IT READS IS OF BULK AT MOST 1048576: true; the input reads as it did. -/
def cutLessUptoRow : OpenClaim := { program := "ytifcnocpjdmaiaa", sum := "99069afb35a4618b2ea81c6de8d933bb60d8c22b51116c2989380dd7ae511cf6", func := "tusche/tuschelaw06.CutLess", spec := "cutLess", unfollowed := true, recurses := true, plainKeys := false, apart := false, narrowed := true }
def CutLessUptoSaid : Prop := cutLessUptoRow.holds Try.pinned (OpenSpec.upto cutLessSpec)

/-- 'tuschelaw06.CutMost', WHERE WHAT IT READS IS OF BULK AT MOST 1048576: true; the input reads as it did. -/
def cutMostUptoRow : OpenClaim := { program := "ytifcnocpjdmaiaa", sum := "99069afb35a4618b2ea81c6de8d933bb60d8c22b51116c2989380dd7ae511cf6", func := "tusche/tuschelaw06.CutMost", spec := "cutMost", unfollowed := true, recurses := true, plainKeys := false, apart := false, narrowed := true }
def CutMostUptoSaid : Prop := cutMostUptoRow.holds Try.pinned (OpenSpec.upto cutMostSpec)

/-- 'tuschelaw06.CutMore', WHERE WHAT IT READS IS OF BULK AT MOST 1048576: true; the input reads as it did. -/
def cutMoreUptoRow : OpenClaim := { program := "ytifcnocpjdmaiaa", sum := "99069afb35a4618b2ea81c6de8d933bb60d8c22b51116c2989380dd7ae511cf6", func := "tusche/tuschelaw06.CutMore", spec := "cutMore", unfollowed := true, recurses := true, plainKeys := false, apart := false, narrowed := true }
def CutMoreUptoSaid : Prop := cutMoreUptoRow.holds Try.pinned (OpenSpec.upto cutMoreSpec)

/-- 'tuschelaw06.CutKnown', WHERE WHAT IT READS IS OF BULK AT MOST 1048576: true; the input reads as it did. -/
def cutKnownUptoRow : OpenClaim := { program := "ytifcnocpjdmaiaa", sum := "99069afb35a4618b2ea81c6de8d933bb60d8c22b51116c2989380dd7ae511cf6", func := "tusche/tuschelaw06.CutKnown", spec := "cutKnown", unfollowed := true, recurses := true, plainKeys := false, apart := false, narrowed := true }
def CutKnownUptoSaid : Prop := cutKnownUptoRow.holds Try.pinned (OpenSpec.upto cutKnownSpec)

end Rows
end Go.Proofs.Ytifcnocpjdmaiaa

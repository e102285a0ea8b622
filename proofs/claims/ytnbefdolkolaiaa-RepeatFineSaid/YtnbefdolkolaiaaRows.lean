/-
  No cell of these rows narrows 'for every input' (looked for: loops, veiled, ifaces, maps, wideKeys, modest, calm, conditions, laid).
  DERIVED. THE GIVEN ROWS OF THIS SEAT. 12 by the template 'for every input the law returns true; each argument reads behind the call as it read before'; 0 by the template 'total and deterministic' (their statements: YtnbefdolkolaiaaTotals.lean).
  GIVEN WITH THE SEED: the statements are not yours to turn. If you find one false, say at which input.
  Laid BY PROGRAM, IN A SANDBOX (cutbox-rows.mjs): the forced cells as the released guide's own fill.sh prints them over the translation 6e7d7197ec368b74… (all of the seat's roots in one cut). By AI agents, Wed Nov 11 2026. No macro, syntax, notation, axiom, sorry.
-/
import Derived.Test.YtnbefdolkolaiaaChecked
import GoSem.Claim
import GoSem.ClaimJoined
import GoSem.ClaimMapViews
import Derived.JoinedTies
import Derived.KernelRfl
namespace Go.Proofs.Ytnbefdolkolaiaa
/- THE CELL 'sum', in the pinned program and in every row, IS THE sha256 OF THE DUMP (.gsa) THAT YtnbefdolkolaiaaProg.lean LOADS. Nothing in Lean hashes anything: it is a label: what it is worth is what the hold of that sum in a sandbox is worth. -/
noncomputable def Try.pinned : Pinned := { name := "ytnbefdolkolaiaa", sum := "6e7d7197ec368b741e164fa94be85c91b10b11daa8d4b43e44c63a72b702566f", checked := Try.checked }
namespace Rows
def none {H : Type} : Left H := { results := [], args := [] }

/-- 'tuschelaw08.RepeatPeriods': WHATEVER THE INPUT: true; the input reads as it did. -/
def repeatPeriodsSpec : ChangeSpec := { name := "repeatPeriods", fn := fun _ => fun
  | [d] => { results := [.lit (.bool true)], args := [d] }
  | _ => none }
def repeatPeriodsRow : OpenClaim := { program := "ytnbefdolkolaiaa", sum := "6e7d7197ec368b741e164fa94be85c91b10b11daa8d4b43e44c63a72b702566f", func := "tusche/tuschelaw08.RepeatPeriods", spec := "repeatPeriods", inPlace := ["internal/bytealg.IndexByteString", "internal/bytealg.IndexString", "internal/abi.NoEscape", "internal/bytealg.MakeNoZero"], unfollowed := true, recurses := true, named := ["internal/bytealg.MaxLen"], apart := false }
def RepeatPeriodsSaid : Prop := repeatPeriodsRow.holds Try.pinned (OpenSpec.ofChange repeatPeriodsSpec)

/-- ITS FALSE NEIGHBOUR: 'it returns false'. Refute it at one input. -/
def repeatPeriodsWrong : ChangeSpec := { name := "repeatPeriods", fn := fun _ => fun
  | [d] => { results := [.lit (.bool false)], args := [d] }
  | _ => none }
def RepeatPeriodsWrongFalsely : Prop := repeatPeriodsRow.holds Try.pinned (OpenSpec.ofChange repeatPeriodsWrong)

/-- 'tuschelaw08.RepeatWide': WHATEVER THE INPUT: true; the input reads as it did. -/
def repeatWideSpec : ChangeSpec := { name := "repeatWide", fn := fun _ => fun
  | [d1, d2, d3, d4] => { results := [.lit (.bool true)], args := [d1, d2, d3, d4] }
  | _ => none }
def repeatWideRow : OpenClaim := { program := "ytnbefdolkolaiaa", sum := "6e7d7197ec368b741e164fa94be85c91b10b11daa8d4b43e44c63a72b702566f", func := "tusche/tuschelaw08.RepeatWide", spec := "repeatWide", inPlace := ["internal/bytealg.IndexByteString", "internal/bytealg.IndexString", "internal/abi.NoEscape", "internal/bytealg.MakeNoZero"], unfollowed := true, recurses := true, named := ["internal/bytealg.MaxLen"], apart := false }
def RepeatWideSaid : Prop := repeatWideRow.holds Try.pinned (OpenSpec.ofChange repeatWideSpec)

/-- ITS FALSE NEIGHBOUR: 'it returns false'. Refute it at one input. -/
def repeatWideWrong : ChangeSpec := { name := "repeatWide", fn := fun _ => fun
  | [d1, d2, d3, d4] => { results := [.lit (.bool false)], args := [d1, d2, d3, d4] }
  | _ => none }
def RepeatWideWrongFalsely : Prop := repeatWideRow.holds Try.pinned (OpenSpec.ofChange repeatWideWrong)

/-- 'tuschelaw08.RepeatRings': WHATEVER THE INPUT: true; the input reads as it did. -/
def repeatRingsSpec : ChangeSpec := { name := "repeatRings", fn := fun _ => fun
  | [d1, d2, d3, d4] => { results := [.lit (.bool true)], args := [d1, d2, d3, d4] }
  | _ => none }
def repeatRingsRow : OpenClaim := { program := "ytnbefdolkolaiaa", sum := "6e7d7197ec368b741e164fa94be85c91b10b11daa8d4b43e44c63a72b702566f", func := "tusche/tuschelaw08.RepeatRings", spec := "repeatRings", inPlace := ["internal/bytealg.IndexByteString", "internal/bytealg.IndexString", "internal/abi.NoEscape", "internal/bytealg.MakeNoZero"], unfollowed := true, recurses := true, named := ["internal/bytealg.MaxLen"], apart := false }
def RepeatRingsSaid : Prop := repeatRingsRow.holds Try.pinned (OpenSpec.ofChange repeatRingsSpec)

/-- ITS FALSE NEIGHBOUR: 'it returns false'. Refute it at one input. -/
def repeatRingsWrong : ChangeSpec := { name := "repeatRings", fn := fun _ => fun
  | [d1, d2, d3, d4] => { results := [.lit (.bool false)], args := [d1, d2, d3, d4] }
  | _ => none }
def RepeatRingsWrongFalsely : Prop := repeatRingsRow.holds Try.pinned (OpenSpec.ofChange repeatRingsWrong)

/-- 'tuschelaw08.RepeatJoins': WHATEVER THE INPUT: true; the input reads as it did. -/
def repeatJoinsSpec : ChangeSpec := { name := "repeatJoins", fn := fun _ => fun
  | [d] => { results := [.lit (.bool true)], args := [d] }
  | _ => none }
def repeatJoinsRow : OpenClaim := { program := "ytnbefdolkolaiaa", sum := "6e7d7197ec368b741e164fa94be85c91b10b11daa8d4b43e44c63a72b702566f", func := "tusche/tuschelaw08.RepeatJoins", spec := "repeatJoins", inPlace := ["internal/bytealg.IndexByteString", "internal/bytealg.IndexString", "internal/abi.NoEscape", "internal/bytealg.MakeNoZero"], unfollowed := true, recurses := true, named := ["internal/bytealg.MaxLen"], apart := false }
def RepeatJoinsSaid : Prop := repeatJoinsRow.holds Try.pinned (OpenSpec.ofChange repeatJoinsSpec)

/-- ITS FALSE NEIGHBOUR: 'it returns false'. Refute it at one input. -/
def repeatJoinsWrong : ChangeSpec := { name := "repeatJoins", fn := fun _ => fun
  | [d] => { results := [.lit (.bool false)], args := [d] }
  | _ => none }
def RepeatJoinsWrongFalsely : Prop := repeatJoinsRow.holds Try.pinned (OpenSpec.ofChange repeatJoinsWrong)

/-- 'tuschelaw08.RepeatFine': WHATEVER THE INPUT: true; the input reads as it did. -/
def repeatFineSpec : ChangeSpec := { name := "repeatFine", fn := fun _ => fun
  | [d1, d2] => { results := [.lit (.bool true)], args := [d1, d2] }
  | _ => none }
def repeatFineRow : OpenClaim := { program := "ytnbefdolkolaiaa", sum := "6e7d7197ec368b741e164fa94be85c91b10b11daa8d4b43e44c63a72b702566f", func := "tusche/tuschelaw08.RepeatFine", spec := "repeatFine", inPlace := ["internal/bytealg.IndexByteString", "internal/bytealg.IndexString", "internal/abi.NoEscape", "internal/bytealg.MakeNoZero"], unfollowed := true, recurses := true, named := ["internal/bytealg.MaxLen"], apart := false }
def RepeatFineSaid : Prop := repeatFineRow.holds Try.pinned (OpenSpec.ofChange repeatFineSpec)

/-- ITS FALSE NEIGHBOUR: 'it returns false'. Refute it at one input. -/
def repeatFineWrong : ChangeSpec := { name := "repeatFine", fn := fun _ => fun
  | [d1, d2] => { results := [.lit (.bool false)], args := [d1, d2] }
  | _ => none }
def RepeatFineWrongFalsely : Prop := repeatFineRow.holds Try.pinned (OpenSpec.ofChange repeatFineWrong)

/-- 'tuschelaw08.RepeatAll': WHATEVER THE INPUT: true; the input reads as it did. -/
def repeatAllSpec : ChangeSpec := { name := "repeatAll", fn := fun _ => fun
  | [d] => { results := [.lit (.bool true)], args := [d] }
  | _ => none }
def repeatAllRow : OpenClaim := { program := "ytnbefdolkolaiaa", sum := "6e7d7197ec368b741e164fa94be85c91b10b11daa8d4b43e44c63a72b702566f", func := "tusche/tuschelaw08.RepeatAll", spec := "repeatAll", inPlace := ["internal/bytealg.IndexByteString", "internal/bytealg.IndexString", "internal/abi.NoEscape", "internal/bytealg.MakeNoZero"], unfollowed := true, recurses := true, named := ["internal/bytealg.MaxLen"], apart := false }
def RepeatAllSaid : Prop := repeatAllRow.holds Try.pinned (OpenSpec.ofChange repeatAllSpec)

/-- ITS FALSE NEIGHBOUR: 'it returns false'. Refute it at one input. -/
def repeatAllWrong : ChangeSpec := { name := "repeatAll", fn := fun _ => fun
  | [d] => { results := [.lit (.bool false)], args := [d] }
  | _ => none }
def RepeatAllWrongFalsely : Prop := repeatAllRow.holds Try.pinned (OpenSpec.ofChange repeatAllWrong)

/-- 'tuschelaw08.RepeatPieces': WHATEVER THE INPUT: true; the input reads as it did. -/
def repeatPiecesSpec : ChangeSpec := { name := "repeatPieces", fn := fun _ => fun
  | [d] => { results := [.lit (.bool true)], args := [d] }
  | _ => none }
def repeatPiecesRow : OpenClaim := { program := "ytnbefdolkolaiaa", sum := "6e7d7197ec368b741e164fa94be85c91b10b11daa8d4b43e44c63a72b702566f", func := "tusche/tuschelaw08.RepeatPieces", spec := "repeatPieces", inPlace := ["internal/bytealg.IndexByteString", "internal/bytealg.IndexString", "internal/abi.NoEscape", "internal/bytealg.MakeNoZero"], unfollowed := true, recurses := true, named := ["internal/bytealg.MaxLen"], apart := false }
def RepeatPiecesSaid : Prop := repeatPiecesRow.holds Try.pinned (OpenSpec.ofChange repeatPiecesSpec)

/-- ITS FALSE NEIGHBOUR: 'it returns false'. Refute it at one input. -/
def repeatPiecesWrong : ChangeSpec := { name := "repeatPieces", fn := fun _ => fun
  | [d] => { results := [.lit (.bool false)], args := [d] }
  | _ => none }
def RepeatPiecesWrongFalsely : Prop := repeatPiecesRow.holds Try.pinned (OpenSpec.ofChange repeatPiecesWrong)

/-- 'tuschelaw08.RepeatPlain': WHATEVER THE INPUT: true; the input reads as it did. -/
def repeatPlainSpec : ChangeSpec := { name := "repeatPlain", fn := fun _ => fun
  | [d] => { results := [.lit (.bool true)], args := [d] }
  | _ => none }
def repeatPlainRow : OpenClaim := { program := "ytnbefdolkolaiaa", sum := "6e7d7197ec368b741e164fa94be85c91b10b11daa8d4b43e44c63a72b702566f", func := "tusche/tuschelaw08.RepeatPlain", spec := "repeatPlain", inPlace := ["internal/bytealg.IndexByteString", "internal/bytealg.IndexString", "internal/abi.NoEscape", "internal/bytealg.MakeNoZero"], unfollowed := true, recurses := true, named := ["internal/bytealg.MaxLen"], apart := false }
def RepeatPlainSaid : Prop := repeatPlainRow.holds Try.pinned (OpenSpec.ofChange repeatPlainSpec)

/-- ITS FALSE NEIGHBOUR: 'it returns false'. Refute it at one input. -/
def repeatPlainWrong : ChangeSpec := { name := "repeatPlain", fn := fun _ => fun
  | [d] => { results := [.lit (.bool false)], args := [d] }
  | _ => none }
def RepeatPlainWrongFalsely : Prop := repeatPlainRow.holds Try.pinned (OpenSpec.ofChange repeatPlainWrong)

/-- 'tuschelaw08.RepeatTurned': WHATEVER THE INPUT: true; the input reads as it did. -/
def repeatTurnedSpec : ChangeSpec := { name := "repeatTurned", fn := fun _ => fun
  | [d1, d2] => { results := [.lit (.bool true)], args := [d1, d2] }
  | _ => none }
def repeatTurnedRow : OpenClaim := { program := "ytnbefdolkolaiaa", sum := "6e7d7197ec368b741e164fa94be85c91b10b11daa8d4b43e44c63a72b702566f", func := "tusche/tuschelaw08.RepeatTurned", spec := "repeatTurned", inPlace := ["internal/bytealg.IndexByteString", "internal/bytealg.IndexString", "internal/abi.NoEscape", "internal/bytealg.MakeNoZero"], unfollowed := true, recurses := true, named := ["internal/bytealg.MaxLen"], apart := false }
def RepeatTurnedSaid : Prop := repeatTurnedRow.holds Try.pinned (OpenSpec.ofChange repeatTurnedSpec)

/-- ITS FALSE NEIGHBOUR: 'it returns false'. Refute it at one input. -/
def repeatTurnedWrong : ChangeSpec := { name := "repeatTurned", fn := fun _ => fun
  | [d1, d2] => { results := [.lit (.bool false)], args := [d1, d2] }
  | _ => none }
def RepeatTurnedWrongFalsely : Prop := repeatTurnedRow.holds Try.pinned (OpenSpec.ofChange repeatTurnedWrong)

/-- 'tuschelaw08.RepeatRingCount': WHATEVER THE INPUT: true; the input reads as it did. -/
def repeatRingCountSpec : ChangeSpec := { name := "repeatRingCount", fn := fun _ => fun
  | [d] => { results := [.lit (.bool true)], args := [d] }
  | _ => none }
def repeatRingCountRow : OpenClaim := { program := "ytnbefdolkolaiaa", sum := "6e7d7197ec368b741e164fa94be85c91b10b11daa8d4b43e44c63a72b702566f", func := "tusche/tuschelaw08.RepeatRingCount", spec := "repeatRingCount", inPlace := ["internal/bytealg.IndexByteString", "internal/bytealg.IndexString", "internal/abi.NoEscape", "internal/bytealg.MakeNoZero"], unfollowed := true, recurses := true, named := ["internal/bytealg.MaxLen"], apart := false }
def RepeatRingCountSaid : Prop := repeatRingCountRow.holds Try.pinned (OpenSpec.ofChange repeatRingCountSpec)

/-- ITS FALSE NEIGHBOUR: 'it returns false'. Refute it at one input. -/
def repeatRingCountWrong : ChangeSpec := { name := "repeatRingCount", fn := fun _ => fun
  | [d] => { results := [.lit (.bool false)], args := [d] }
  | _ => none }
def RepeatRingCountWrongFalsely : Prop := repeatRingCountRow.holds Try.pinned (OpenSpec.ofChange repeatRingCountWrong)

/-- 'tuschelaw08.RepeatJoined': WHATEVER THE INPUT: true; the input reads as it did. -/
def repeatJoinedSpec : ChangeSpec := { name := "repeatJoined", fn := fun _ => fun
  | [d1, d2] => { results := [.lit (.bool true)], args := [d1, d2] }
  | _ => none }
def repeatJoinedRow : OpenClaim := { program := "ytnbefdolkolaiaa", sum := "6e7d7197ec368b741e164fa94be85c91b10b11daa8d4b43e44c63a72b702566f", func := "tusche/tuschelaw08.RepeatJoined", spec := "repeatJoined", inPlace := ["internal/bytealg.IndexByteString", "internal/bytealg.IndexString", "internal/abi.NoEscape", "internal/bytealg.MakeNoZero"], unfollowed := true, recurses := true, named := ["internal/bytealg.MaxLen"], apart := false }
def RepeatJoinedSaid : Prop := repeatJoinedRow.holds Try.pinned (OpenSpec.ofChange repeatJoinedSpec)

/-- ITS FALSE NEIGHBOUR: 'it returns false'. Refute it at one input. -/
def repeatJoinedWrong : ChangeSpec := { name := "repeatJoined", fn := fun _ => fun
  | [d1, d2] => { results := [.lit (.bool false)], args := [d1, d2] }
  | _ => none }
def RepeatJoinedWrongFalsely : Prop := repeatJoinedRow.holds Try.pinned (OpenSpec.ofChange repeatJoinedWrong)

/-- 'tuschelaw08.RepeatKnown': WHATEVER THE INPUT: true; the input reads as it did. -/
def repeatKnownSpec : ChangeSpec := { name := "repeatKnown", fn := fun _ => fun
  | [] => { results := [.lit (.bool true)], args := [] }
  | _ => none }
def repeatKnownRow : OpenClaim := { program := "ytnbefdolkolaiaa", sum := "6e7d7197ec368b741e164fa94be85c91b10b11daa8d4b43e44c63a72b702566f", func := "tusche/tuschelaw08.RepeatKnown", spec := "repeatKnown", inPlace := ["internal/bytealg.IndexByteString", "internal/bytealg.IndexString", "internal/abi.NoEscape", "internal/bytealg.MakeNoZero"], unfollowed := true, recurses := true, named := ["internal/bytealg.MaxLen"], apart := false }
def RepeatKnownSaid : Prop := repeatKnownRow.holds Try.pinned (OpenSpec.ofChange repeatKnownSpec)

/-- ITS FALSE NEIGHBOUR: 'it returns false'. Refute it at one input. -/
def repeatKnownWrong : ChangeSpec := { name := "repeatKnown", fn := fun _ => fun
  | [] => { results := [.lit (.bool false)], args := [] }
  | _ => none }
def RepeatKnownWrongFalsely : Prop := repeatKnownRow.holds Try.pinned (OpenSpec.ofChange repeatKnownWrong)

/- THE SECOND FORM. 'bulk': how many values and letters a reading holds, each counted each time it is reached (what is shared counts as often as it is met; a slice's spare places count too). A statement '..UptoSaid' is the law's where the arguments, and the package variables that the reading takes, are together of bulk at most 1048576: NARROWER than '..Said'. Prove '..Said' where nothing that the law and all that it calls make is longer than what came in: it says more and counts as full. Else prove '..UptoSaid'. A law counts once. -/
mutual
def uptoBulk {H : Type} : DataW H → Nat
  | .lit (.string bytes) => bytes.length + 1
  | .lit _ => 1
  | .nil => 1
  | .ptr d => uptoBulk d + 1
  | .slice elems spare => uptoBulkAll elems + uptoBulkAll spare + 1
  | .agg parts => uptoBulkAll parts + 1
  | .iface _ d => uptoBulk d + 1
  | .map entries => uptoBulkEntries entries + 1
  | .held _ => 1
def uptoBulkAll {H : Type} : List (DataW H) → Nat
  | [] => 0
  | d :: r => uptoBulk d + uptoBulkAll r
def uptoBulkEntries {H : Type} : List (Lit × DataW H) → Nat
  | [] => 0
  | x :: r => uptoBulkEntry x + uptoBulkEntries r
def uptoBulkEntry {H : Type} : Lit × DataW H → Nat
  | (.string bytes, d) => bytes.length + uptoBulk d + 1
  | (_, d) => uptoBulk d + 1
 end
def uptoSmall : (H : Type) → List (DataW H) → Bool := fun _ ds => decide (uptoBulkAll ds ≤ 1048576)
def OpenSpec.upto (s : _root_.Go.ChangeSpec) : _root_.Go.OpenSpec := { _root_.Go.OpenSpec.ofChange s with cond := some uptoSmall }

/-- 'tuschelaw08.RepeatPeriods', WHERE WHAT IT READS IS OF BULK AT MOST 1048576: true; the input reads as it did. -/
def repeatPeriodsUptoRow : OpenClaim := { program := "ytnbefdolkolaiaa", sum := "6e7d7197ec368b741e164fa94be85c91b10b11daa8d4b43e44c63a72b702566f", func := "tusche/tuschelaw08.RepeatPeriods", spec := "repeatPeriods", inPlace := ["internal/bytealg.IndexByteString", "internal/bytealg.IndexString", "internal/abi.NoEscape", "internal/bytealg.MakeNoZero"], unfollowed := true, recurses := true, named := ["internal/bytealg.MaxLen"], apart := false, narrowed := true }
def RepeatPeriodsUptoSaid : Prop := repeatPeriodsUptoRow.holds Try.pinned (OpenSpec.upto repeatPeriodsSpec)

/-- 'tuschelaw08.RepeatWide', WHERE WHAT IT READS IS OF BULK AT MOST 1048576: true; the input reads as it did. -/
def repeatWideUptoRow : OpenClaim := { program := "ytnbefdolkolaiaa", sum := "6e7d7197ec368b741e164fa94be85c91b10b11daa8d4b43e44c63a72b702566f", func := "tusche/tuschelaw08.RepeatWide", spec := "repeatWide", inPlace := ["internal/bytealg.IndexByteString", "internal/bytealg.IndexString", "internal/abi.NoEscape", "internal/bytealg.MakeNoZero"], unfollowed := true, recurses := true, named := ["internal/bytealg.MaxLen"], apart := false, narrowed := true }
def RepeatWideUptoSaid : Prop := repeatWideUptoRow.holds Try.pinned (OpenSpec.upto repeatWideSpec)

/-- 'tuschelaw08.RepeatRings', WHERE WHAT IT READS IS OF BULK AT MOST 1048576: true; the input reads as it did. -/
def repeatRingsUptoRow : OpenClaim := { program := "ytnbefdolkolaiaa", sum := "6e7d7197ec368b741e164fa94be85c91b10b11daa8d4b43e44c63a72b702566f", func := "tusche/tuschelaw08.RepeatRings", spec := "repeatRings", inPlace := ["internal/bytealg.IndexByteString", "internal/bytealg.IndexString", "internal/abi.NoEscape", "internal/bytealg.MakeNoZero"], unfollowed := true, recurses := true, named := ["internal/bytealg.MaxLen"], apart := false, narrowed := true }
def RepeatRingsUptoSaid : Prop := repeatRingsUptoRow.holds Try.pinned (OpenSpec.upto repeatRingsSpec)

/-- 'tuschelaw08.RepeatJoins', WHERE WHAT IT READS IS OF BULK AT MOST 1048576: true; the input reads as it did. -/
def repeatJoinsUptoRow : OpenClaim := { program := "ytnbefdolkolaiaa", sum := "6e7d7197ec368b741e164fa94be85c91b10b11daa8d4b43e44c63a72b702566f", func := "tusche/tuschelaw08.RepeatJoins", spec := "repeatJoins", inPlace := ["internal/bytealg.IndexByteString", "internal/bytealg.IndexString", "internal/abi.NoEscape", "internal/bytealg.MakeNoZero"], unfollowed := true, recurses := true, named := ["internal/bytealg.MaxLen"], apart := false, narrowed := true }
def RepeatJoinsUptoSaid : Prop := repeatJoinsUptoRow.holds Try.pinned (OpenSpec.upto repeatJoinsSpec)

/-- 'tuschelaw08.RepeatFine', WHERE WHAT IT READS IS OF BULK AT MOST 1048576: true; the input reads as it did. -/
def repeatFineUptoRow : OpenClaim := { program := "ytnbefdolkolaiaa", sum := "6e7d7197ec368b741e164fa94be85c91b10b11daa8d4b43e44c63a72b702566f", func := "tusche/tuschelaw08.RepeatFine", spec := "repeatFine", inPlace := ["internal/bytealg.IndexByteString", "internal/bytealg.IndexString", "internal/abi.NoEscape", "internal/bytealg.MakeNoZero"], unfollowed := true, recurses := true, named := ["internal/bytealg.MaxLen"], apart := false, narrowed := true }
def RepeatFineUptoSaid : Prop := repeatFineUptoRow.holds Try.pinned (OpenSpec.upto repeatFineSpec)

/-- 'tuschelaw08.RepeatAll', WHERE WHAT IT READS IS OF BULK AT MOST 1048576: true; the input reads as it did. -/
def repeatAllUptoRow : OpenClaim := { program := "ytnbefdolkolaiaa", sum := "6e7d7197ec368b741e164fa94be85c91b10b11daa8d4b43e44c63a72b702566f", func := "tusche/tuschelaw08.RepeatAll", spec := "repeatAll", inPlace := ["internal/bytealg.IndexByteString", "internal/bytealg.IndexString", "internal/abi.NoEscape", "internal/bytealg.MakeNoZero"], unfollowed := true, recurses := true, named := ["internal/bytealg.MaxLen"], apart := false, narrowed := true }
def RepeatAllUptoSaid : Prop := repeatAllUptoRow.holds Try.pinned (OpenSpec.upto repeatAllSpec)

/-- 'tuschelaw08.RepeatPieces', WHERE WHAT IT READS IS OF BULK AT MOST 1048576: true; the input reads as it did. -/
def repeatPiecesUptoRow : OpenClaim := { program := "ytnbefdolkolaiaa", sum := "6e7d7197ec368b741e164fa94be85c91b10b11daa8d4b43e44c63a72b702566f", func := "tusche/tuschelaw08.RepeatPieces", spec := "repeatPieces", inPlace := ["internal/bytealg.IndexByteString", "internal/bytealg.IndexString", "internal/abi.NoEscape", "internal/bytealg.MakeNoZero"], unfollowed := true, recurses := true, named := ["internal/bytealg.MaxLen"], apart := false, narrowed := true }
def RepeatPiecesUptoSaid : Prop := repeatPiecesUptoRow.holds Try.pinned (OpenSpec.upto repeatPiecesSpec)

/-- 'tuschelaw08.RepeatPlain', WHERE WHAT IT READS IS OF BULK AT MOST 1048576: true; the input reads as it did. -/
def repeatPlainUptoRow : OpenClaim := { program := "ytnbefdolkolaiaa", sum := "6e7d7197ec368b741e164fa94be85c91b10b11daa8d4b43e44c63a72b702566f", func := "tusche/tuschelaw08.RepeatPlain", spec := "repeatPlain", inPlace := ["internal/bytealg.IndexByteString", "internal/bytealg.IndexString", "internal/abi.NoEscape", "internal/bytealg.MakeNoZero"], unfollowed := true, recurses := true, named := ["internal/bytealg.MaxLen"], apart := false, narrowed := true }
def RepeatPlainUptoSaid : Prop := repeatPlainUptoRow.holds Try.pinned (OpenSpec.upto repeatPlainSpec)

/-- 'tuschelaw08.RepeatTurned', WHERE WHAT IT READS IS OF BULK AT MOST 1048576: true; the input reads as it did. -/
def repeatTurnedUptoRow : OpenClaim := { program := "ytnbefdolkolaiaa", sum := "6e7d7197ec368b741e164fa94be85c91b10b11daa8d4b43e44c63a72b702566f", func := "tusche/tuschelaw08.RepeatTurned", spec := "repeatTurned", inPlace := ["internal/bytealg.IndexByteString", "internal/bytealg.IndexString", "internal/abi.NoEscape", "internal/bytealg.MakeNoZero"], unfollowed := true, recurses := true, named := ["internal/bytealg.MaxLen"], apart := false, narrowed := true }
def RepeatTurnedUptoSaid : Prop := repeatTurnedUptoRow.holds Try.pinned (OpenSpec.upto repeatTurnedSpec)

/-- 'tuschelaw08.RepeatRingCount', WHERE WHAT IT READS IS OF BULK AT MOST 1048576: true; the input reads as it did. -/
def repeatRingCountUptoRow : OpenClaim := { program := "ytnbefdolkolaiaa", sum := "6e7d7197ec368b741e164fa94be85c91b10b11daa8d4b43e44c63a72b702566f", func := "tusche/tuschelaw08.RepeatRingCount", spec := "repeatRingCount", inPlace := ["internal/bytealg.IndexByteString", "internal/bytealg.IndexString", "internal/abi.NoEscape", "internal/bytealg.MakeNoZero"], unfollowed := true, recurses := true, named := ["internal/bytealg.MaxLen"], apart := false, narrowed := true }
def RepeatRingCountUptoSaid : Prop := repeatRingCountUptoRow.holds Try.pinned (OpenSpec.upto repeatRingCountSpec)

/-- 'tuschelaw08.RepeatJoined', WHERE WHAT IT READS IS OF BULK AT MOST 1048576: true; the input reads as it did. -/
def repeatJoinedUptoRow : OpenClaim := { program := "ytnbefdolkolaiaa", sum := "6e7d7197ec368b741e164fa94be85c91b10b11daa8d4b43e44c63a72b702566f", func := "tusche/tuschelaw08.RepeatJoined", spec := "repeatJoined", inPlace := ["internal/bytealg.IndexByteString", "internal/bytealg.IndexString", "internal/abi.NoEscape", "internal/bytealg.MakeNoZero"], unfollowed := true, recurses := true, named := ["internal/bytealg.MaxLen"], apart := false, narrowed := true }
def RepeatJoinedUptoSaid : Prop := repeatJoinedUptoRow.holds Try.pinned (OpenSpec.upto repeatJoinedSpec)

/-- 'tuschelaw08.RepeatKnown', WHERE WHAT IT READS IS OF BULK AT MOST 1048576: true; the input reads as it did. -/
def repeatKnownUptoRow : OpenClaim := { program := "ytnbefdolkolaiaa", sum := "6e7d7197ec368b741e164fa94be85c91b10b11daa8d4b43e44c63a72b702566f", func := "tusche/tuschelaw08.RepeatKnown", spec := "repeatKnown", inPlace := ["internal/bytealg.IndexByteString", "internal/bytealg.IndexString", "internal/abi.NoEscape", "internal/bytealg.MakeNoZero"], unfollowed := true, recurses := true, named := ["internal/bytealg.MaxLen"], apart := false, narrowed := true }
def RepeatKnownUptoSaid : Prop := repeatKnownUptoRow.holds Try.pinned (OpenSpec.upto repeatKnownSpec)

end Rows
end Go.Proofs.Ytnbefdolkolaiaa

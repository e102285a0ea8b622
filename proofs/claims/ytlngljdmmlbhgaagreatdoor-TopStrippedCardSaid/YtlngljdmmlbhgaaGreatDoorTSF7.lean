/-
  A library for proofs about Go functions by symbolic evaluation,and plain Lean functions that the walked Go functions compute (written by a program of this claim).
-/
import Derived.Test.YtlngljdmmlbhgaaGreatDoorTSF3
set_option linter.unusedVariables false
set_option linter.unnecessarySimpa false
set_option linter.unusedSimpArgs false
namespace Go.Vc
theorem all9 (N:Nat):allB N 9=true:=by kernel_rfl
theorem all10 (N:Nat):allB N 10=true:=by kernel_rfl
theorem all11 (N:Nat):allB N 11=true:=by kernel_rfl
end Go.Vc

/-
  A library for proofs about Go functions by symbolic evaluation,and plain Lean functions that the walked Go functions compute (written by a program of this claim).
-/
import Derived.Test.YtlngljdmmlbhgaaGreatDoorTSF3
set_option linter.unusedVariables false
set_option linter.unnecessarySimpa false
set_option linter.unusedSimpArgs false
namespace Go.Vc
theorem all3 (N:Nat):allB N 3=true:=by kernel_rfl
theorem all4 (N:Nat):allB N 4=true:=by kernel_rfl
theorem all5 (N:Nat):allB N 5=true:=by kernel_rfl
end Go.Vc

/-
  A library for proofs about Go functions by symbolic evaluation,and plain Lean functions that the walked Go functions compute (written by a program of this claim).
-/
import Derived.Test.YtlngljdmmlbhgaaGreatDoorTSF3
set_option linter.unusedVariables false
set_option linter.unnecessarySimpa false
set_option linter.unusedSimpArgs false
namespace Go.Vc
theorem all0 (N:Nat):allB N 0=true:=by kernel_rfl
theorem all1 (N:Nat):allB N 1=true:=by kernel_rfl
theorem all2 (N:Nat):allB N 2=true:=by kernel_rfl
end Go.Vc

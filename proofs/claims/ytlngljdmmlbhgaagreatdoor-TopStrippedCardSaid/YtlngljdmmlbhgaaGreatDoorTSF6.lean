/-
  A library for proofs about Go functions by symbolic evaluation,and plain Lean functions that the walked Go functions compute (written by a program of this claim).
-/
import Derived.Test.YtlngljdmmlbhgaaGreatDoorTSF3
set_option linter.unusedVariables false
set_option linter.unnecessarySimpa false
set_option linter.unusedSimpArgs false
namespace Go.Vc
theorem all6 (N:Nat):allB N 6=true:=by kernel_rfl
theorem all7 (N:Nat):allB N 7=true:=by kernel_rfl
theorem all8 (N:Nat):allB N 8=true:=by kernel_rfl
end Go.Vc

/-
  A library for proofs about Go functions by symbolic evaluation,and plain Lean functions that the walked Go functions compute (written by a program of this claim).
-/
import Derived.Test.YtlngljdmmlbhgaaGreatDoorVc5
import Derived.Test.YtlngljdmmlbhgaaGreatDoorTTF1
set_option linter.unusedVariables false
set_option linter.unnecessarySimpa false
set_option linter.unusedSimpArgs false
namespace Go.Cv
open Go.Proofs Go.Vc
set_option maxRecDepth 20000
theorem fnOK:FnOK Tryz.prog za9:=fn_ok (by kernel_rfl)
theorem zoy:runB Tryz.prog za9 (.n .l (some (.p 0 0)) .l) (rowH .i64 zkf) 2 100000 13=some true:=by kernel_rfl
theorem P13:PureOK Tryz.prog 13 λ ds d=>ds=[]/\d = .v (.bool true):=zox rfl tyOK fnOK zoy
end Go.Cv

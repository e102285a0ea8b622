/-
  A library for proofs about Go functions by symbolic evaluation,and plain Lean functions that the walked Go functions compute (written by a program of this claim).
-/
import Derived.Test.YtlngljdmmlbhgaaGreatDoorVc5
import Derived.Test.YtlngljdmmlbhgaaGreatDoorTSF1
set_option linter.unusedVariables false
set_option linter.unnecessarySimpa false
set_option linter.unusedSimpArgs false
namespace Go.Cv
open Go.Proofs Go.Vc
set_option maxRecDepth 20000
theorem fnOK:FnOK Tryz.prog zaO:=fn_ok (by kernel_rfl)
theorem zm8:runB Tryz.prog zaO (.n .l (some (.p 0 0)) .l) (rowH .i64 zjl) 2 100000 13=some true:=by kernel_rfl
theorem P13:PureOK Tryz.prog 13 λ ds d=>ds=[]/\d = .v (.bool true):=zm7 rfl tyOK fnOK zm8
end Go.Cv

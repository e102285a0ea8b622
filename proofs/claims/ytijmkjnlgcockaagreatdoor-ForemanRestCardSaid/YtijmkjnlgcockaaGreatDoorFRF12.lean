/-
  A library for proofs about Go functions by symbolic evaluation,and plain Lean functions that the walked Go functions compute (written by a program of this claim).
-/
import Derived.Test.YtijmkjnlgcockaaGreatDoorFRF6
set_option linter.unusedVariables false
set_option linter.unnecessarySimpa false
set_option linter.unusedSimpArgs false
namespace Go.Vc
open Go.Proofs
def rdX (l:Ln):Bool:=match f79 398 (txt nm0 l) with
 | some (o,e)=>decide (o=ord nm0 l)&&decide (e=0)
 | none=>false
theorem zeD {l:Ln}(h:rdX l=true):f79 398 (txt nm0 l)=some (ord nm0 l,0):=by
 unfold rdX at h
 split at h
 .rename_i o e he
  rw[Bool.and_eq_true,decide_eq_true_eq,decide_eq_true_eq] at h;rw[he,h.1,h.2]
 .cases h
theorem zrx:zr.all rdX=true:=by kernel_rfl
theorem ztp:((List.range 301).all λ n=>rdX (.print 0 n 0))=true:=by kernel_rfl
theorem ztq:((List.range 301).all λ n=>rdX (.print 1 n 0))=true:=by kernel_rfl
theorem ztr:((List.range 301).all λ n=>rdX (.print 2 n 0))=true:=by kernel_rfl
theorem rdP {a n:Nat}(ha:a<3)(hn:n<=300):f79 398 (txt nm0 (.print a n 0))=some (ord nm0 (.print a n 0),0):=by
 have hm:n∈List.range 301:=List.mem_range.2 (by omega)
 match a,ha with
 | 0,_=>exact zeD (List.all_eq_true.1 ztp n hm)
 | 1,_=>exact zeD (List.all_eq_true.1 ztq n hm)
 | 2,_=>exact zeD (List.all_eq_true.1 ztr n hm)
end Go.Vc

/-
  A library for proofs about Go functions by symbolic evaluation,and plain Lean functions that the walked Go functions compute (written by a program of this claim).
-/
import Derived.Test.YtijmkjnlgcockaaGreatDoorFRF12
set_option linter.unusedVariables false
set_option linter.unnecessarySimpa false
set_option linter.unusedSimpArgs false
namespace Go.Vc
open Go.Proofs
theorem zry:((List.range 300).all λ n=>rdX (.deliver 0 0 (n+1)))=true:=by kernel_rfl
theorem zrz:((List.range 300).all λ n=>rdX (.deliver 0 1 (n+1)))=true:=by kernel_rfl
theorem zrA:((List.range 300).all λ n=>rdX (.deliver 1 0 (n+1)))=true:=by kernel_rfl
theorem zrB:((List.range 300).all λ n=>rdX (.deliver 1 1 (n+1)))=true:=by kernel_rfl
theorem zrC:((List.range 300).all λ n=>rdX (.deliver 2 0 (n+1)))=true:=by kernel_rfl
theorem zrD:((List.range 300).all λ n=>rdX (.deliver 2 1 (n+1)))=true:=by kernel_rfl
theorem rdD {c e n:Nat}(hc:c<3)(he:e<2)(h1:1<=n)(hn:n<=300):f79 398 (txt nm0 (.deliver c e n))=some (ord nm0 (.deliver c e n),0):=by
 obtain⟨n,rfl⟩:∃ m,n=m+1:=⟨n-1,by omega⟩;have hm:n∈List.range 300:=List.mem_range.2 (by omega)
 match c,hc,e,he with
 | 0,_,0,_=>exact zeD (List.all_eq_true.1 zry n hm)
 | 0,_,1,_=>exact zeD (List.all_eq_true.1 zrz n hm)
 | 1,_,0,_=>exact zeD (List.all_eq_true.1 zrA n hm)
 | 1,_,1,_=>exact zeD (List.all_eq_true.1 zrB n hm)
 | 2,_,0,_=>exact zeD (List.all_eq_true.1 zrC n hm)
 | 2,_,1,_=>exact zeD (List.all_eq_true.1 zrD n hm)
end Go.Vc

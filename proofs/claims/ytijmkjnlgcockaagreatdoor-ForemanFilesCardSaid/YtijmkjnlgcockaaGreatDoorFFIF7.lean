/-
  A library for proofs about Go functions by symbolic evaluation,and plain Lean functions that the walked Go functions compute (written by a program of this claim).
-/
import Derived.Test.YtijmkjnlgcockaaGreatDoorFFIF6
import Derived.Test.YtijmkjnlgcockaaGreatDoorFFIF5
set_option linter.unusedVariables false
set_option linter.unnecessarySimpa false
set_option linter.unusedSimpArgs false
namespace Go.Vc
open Go.Proofs
def u8In (n:Int):Prop:=0<=n/\n<=255
def A4u8N.ok (x:A4u8N):Prop:=u8In x.e0/\u8In x.e1/\u8In x.e2/\u8In x.e3
theorem zcc (l:List UInt8):(strC l).size=l.length:=by simp[strC,ByteArray.size]
theorem zhb {N n:Nat}(hn:n<1000000):f30 (N+1) (n:Int)=some (num n):=by
 unfold f30;dsimp only;rw[if_pos (by omega)];rfl
theorem zjW {α β γ:Type}(o:Option α)(f:α->Option β)(g:β->Option γ):(o.bind λ x=>(f x).bind g)=(o.bind f).bind g:=by cases o <;> rfl
end Go.Vc
namespace Go.Vc
open Go.Proofs
section
variable {b:Bk} {k c:ByteArray} {M:Nat}
theorem zzF (h:BkOK b):f21 (M+1) b.L b.S b.E b.C=some b.L:=by
 have:=h.ll;simp only[f21,f21b];rw[zcp (by simp;omega) (by simp;omega)];simp only[zAl,List.nil_append]
 exact zrW λ h=>by rw[h]
end
end Go.Vc

/-
  A library for proofs about Go functions by symbolic evaluation,and plain Lean functions that the walked Go functions compute (written by a program of this claim).
-/
import Derived.Test.YtijmkjnlgcockaaGreatDoorFFIF7
set_option linter.unusedVariables false
set_option linter.unnecessarySimpa false
set_option linter.unusedSimpArgs false
namespace Go.Vc
open Go.Proofs
def GLn (y:ByteArray):Prop:=∃ l:Ln,l.ok/\y=txt nm0 l
noncomputable def rd (y:ByteArray):I97×Int:=(f79 198 y).getD (.nil,9)
theorem zzG {l:Ln}(h:l.ok):zbt (ord nm0 l):=by
 cases l <;> simp only[Ln.ok] at h <;> simp only[ord,zbt] <;> first|trivial|omega
theorem GLn.rd {y:ByteArray}(h:GLn y):f79 198 y=some (rd y)/\(rd y).2=0/\zbt (rd y).1:=by
 obtain⟨l,hl,rfl⟩:=h;have:=zxb hl;unfold Go.Vc.rd;rw[this];exact⟨rfl,rfl,zzG hl⟩
noncomputable def zzH (b:Bk)(y:ByteArray):Bk:=goM b y (rd y)
noncomputable def errB (b:Bk)(y:ByteArray):Int:=errM b (rd y)
theorem GLn.f18 {y:ByteArray}(h:GLn y){b:Bk}(hb:BkOK b):f18 200 y b.L b.S b.E b.C=some (outM (errB b y) (zzH b y)):=zv4 (M:=197) hb (by omega) h.rd.1 λ _=>h.rd.2.2
theorem GLn.f17 {y:ByteArray}(h:GLn y){b:Bk}(hb:BkOK b):f17 200 y b.L b.S b.E b.C=some (errB b y):=zzE (M:=197) hb (by omega) h.rd.1 λ _=>h.rd.2.2
theorem GLn.step {y:ByteArray}(h:GLn y){b:Bk}(hb:BkOK b):BkOK (zzH b y):=zzD hb λ _=>h.rd.2.2
theorem zdp {α:Type}[DecidableEq α](x:α):decide (¬ x=x)=false:=decide_eq_false (by simp)
theorem zzI {α:Type}[DecidableEq α](x:α):decide (x=x)=true:=decide_eq_true rfl
end Go.Vc

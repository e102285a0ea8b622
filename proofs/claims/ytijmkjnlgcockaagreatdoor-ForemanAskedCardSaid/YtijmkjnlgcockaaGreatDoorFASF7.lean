/-
  A library for proofs about Go functions by symbolic evaluation,and plain Lean functions that the walked Go functions compute (written by a program of this claim).
-/
import Derived.Test.YtijmkjnlgcockaaGreatDoorFASF6
import Derived.Test.YtijmkjnlgcockaaGreatDoorFASF5
set_option linter.unusedVariables false
set_option linter.unnecessarySimpa false
set_option linter.unusedSimpArgs false
namespace Go.Vc
open Go.Proofs
def u8In (n:Int):Prop:=0<=n/\n<=255
def A4u8N.ok (x:A4u8N):Prop:=u8In x.e0/\u8In x.e1/\u8In x.e2/\u8In x.e3
theorem zro (l:List UInt8):(strC l).size=l.length:=by simp[strC,ByteArray.size]
end Go.Vc
namespace Go.Vc
open Go.Proofs
def zki (b:Bk)(k:ByteArray):Int×ByteArray×Int:=match stO b.S k with
 | none=>(0,zaG,5)
 | some a=>match a.of with
  | none=>(a.thick,zaG,0)
  | some j=>(a.thick,((getF b.E j).map (·.name)).getD zaG,0)
def zhX (b:Bk)(k:ByteArray):List Int×Int:=match edO b.E k with
 | none=>([],5)
 | some e=>(e.places,0)
def EditionM.tally (e:EditionM):Tally:=⟨e.paper,e.delivered,e.spoilt,sumI e.places-e.rest e.from_,e.rest e.from_⟩
def zkj (b:Bk)(k:ByteArray):Tally×Int:=match edO b.E k with
 | none=>(⟨0,0,0,0,0⟩,5)
 | some e=>(e.tally,0)
def zkk (b:Bk)(k:ByteArray):Int×Int:=match edO b.E k with
 | none=>(0,5)
 | some e=>(max 0 (e.open_-e.rest e.from_),0)
def znb (b:Bk)(c k:ByteArray):Int×Int:=match edO b.E k with
 | none=>(0,5)
 | some e=>if (za1 0 c e.owed).2=true then ((za1 0 c e.owed).1,0) else (0,5)
section
variable {b:Bk} {k c:ByteArray} {M:Nat}
theorem zxN (h:BkOK b):f21 (M+1) b.L b.S b.E b.C=some b.L:=by
 have:=h.ll;simp only[f21,f21b];rw[zc6 (by simp;omega) (by simp;omega)];simp only[zyl,List.nil_append]
 exact zll λ h=>by rw[h]
theorem zxO (h:BkOK b)(hk:f61 M k=some true):f32 (M+1) k b.L b.S b.E b.C=some (zki b k):=by
 simp only[f32,f32b,hk,zyl,Bool.not_true,cond_false,zki,stO]
 cases hl:zan k b.S with
 | none=>simp[onO]
 | some i =>
  obtain⟨a,ha⟩:=zaW hl;simp only[onO,ha,zyl]
  cases hof:a.of with
  | none=>rfl
  | some j =>
   obtain⟨e,he,_⟩:=(h.sh.gS ha).getE hof;simp[he]
theorem zxP (h:BkOK b)(hk:f61 M k=some true):f33 (M+1) k b.L b.S b.E b.C=some (zhX b k):=by
 have hl:=h.ll;simp only[f33,f33b,hk,zyl,Bool.not_true,cond_false,zhX,edO]
 cases hE:zan k b.E with
 | none=>simp[onO]
 | some j =>
  obtain⟨e,he⟩:=zaW hE;have hK:=h.sh.gE he;have h1:=hK.le;simp only[onO,he,zyl];rw[zc6 (by simp;omega) (by simp;omega)];simp only[zyl,List.nil_append]
  exact zll λ h=>by rw[h]
theorem zxQ (h:BkOK b)(hM:130<=M)(hk:f61 M k=some true):f34 (M+1) k b.L b.S b.E b.C=some (zkj b k):=by
 have hl:=h.ll;simp only[f34,f34b,hk,zyl,Bool.not_true,cond_false,zkj,edO]
 cases hE:zan k b.E with
 | none=>simp[onO]
 | some j =>
  obtain⟨e,he⟩:=zaW hE;have hK:=h.sh.gE he;have h1:=hK.le;have h2:=hK.f0;have h3:=hK.fl;have h4:=hK.rest_b e.from_;have h5:=hK.sums;have h6:=zbM hK.nn
  have hr:e.rest 0=sumI e.places:=by simp[EditionM.rest]
  simp only[onO,he,zyl];rw[ziV hK (by omega) (by omega) (by omega) (by omega),ziV hK (by omega) (by omega) (by omega) (by omega)];simp only[zyl,hr];rw[za8 (by omega) (by omega)];rfl
theorem zxR (h:BkOK b)(hM:130<=M)(hk:f61 M k=some true):f40 (M+1) k b.L b.S b.E b.C=some (zkk b k):=by
 have hl:=h.ll;simp only[f40,f40b,hk,zyl,Bool.not_true,cond_false,zkk,edO]
 cases hE:zan k b.E with
 | none=>simp[onO]
 | some j =>
  obtain⟨e,he⟩:=zaW hE;have hK:=h.sh.gE he;have h1:=hK.le;have h2:=hK.f0;have h3:=hK.fl;have h4:=hK.rest_b e.from_;have h5:=hK.open0;have h6:=hK.ob;simp only[onO,he,zyl];rw[ziV hK (by omega) (by omega) (by omega) (by omega)];simp only[zyl];rw[za8 (by omega) (by omega)]
theorem zxS (h:BkOK b)(hc:f61 M c=some true)(hk:f61 M k=some true):f36 (M+1) c k b.L b.S b.E b.C=some (znb b c k):=by
 simp only[f36,f36b,hc,hk,zyl,Bool.not_true,cond_false,znb,edO]
 cases hE:zan k b.E with
 | none=>simp[onO]
 | some j =>
  obtain⟨e,he⟩:=zaW hE;simp only[onO,he,zyl]
  cases (za1 0 c e.owed).2 <;> simp
end
end Go.Vc

/-
  A library for proofs about Go functions by symbolic evaluation,and plain Lean functions that the walked Go functions compute (written by a program of this claim).
-/
import Derived.Test.YtlngljdmmlbhgaaGreatDoorTSF4
import Derived.Test.YtlngljdmmlbhgaaGreatDoorTSF5
import Derived.Test.YtlngljdmmlbhgaaGreatDoorTSF6
import Derived.Test.YtlngljdmmlbhgaaGreatDoorTSF7
import Derived.Test.YtlngljdmmlbhgaaGreatDoorVc4
import Derived.Test.YtlngljdmmlbhgaaGreatDoorTSF1
import Derived.Test.YtlngljdmmlbhgaaGreatDoorVc3
import Derived.Test.YtlngljdmmlbhgaaGreatDoorVc5
import Derived.Test.YtlngljdmmlbhgaaGreatDoorProg
import Derived.LaidSub
import Derived.MakeChecks
set_option linter.unusedVariables false
set_option linter.unnecessarySimpa false
set_option linter.unusedSimpArgs false
namespace Go.Vc
theorem c20_h {a b:Int}(e:Int.tmod a 12=Int.tmod b 12):zdX a=zdX b:=by
 funext N x3 bs x4;unfold zdX;rw[e]
theorem l15_h (a b:Int):zg0 a=zg0 b:=by
 funext x1 x3 bs x4 k0 n
 induction n with
 | zero=>rfl
 | succ n ih =>
  funext v;show zjM (zg0 a x1 x3 bs x4 k0 n) a x1 x3 bs x4 k0 v=zjM (zg0 b x1 x3 bs x4 k0 n) b x1 x3 bs x4 k0 v;rw[ih];rfl
theorem c10_h {a b:Int}(e:Int.tmod a 12=Int.tmod b 12):zdY a=zdY b:=by
 funext N x1 x3 bs;unfold zdY;rw[e,c20_h e,l15_h a b]
theorem l7_h {a b:Int}(e:Int.tmod a 12=Int.tmod b 12):f3_7 a=f3_7 b:=by
 funext x1 x3 k1 n
 induction n with
 | zero=>rfl
 | succ n ih =>
  funext v bs;show zmc (f3_7 a x1 x3 k1 n) a x1 x3 k1 v bs=zmc (f3_7 b x1 x3 k1 n) b x1 x3 k1 v bs;rw[ih];unfold zmc;rw[e]
theorem g3_h {a b:Int}(e:Int.tmod a 12=Int.tmod b 12)(N:Nat)(l:List Int):g3 N a l=g3 N b l:=by
 unfold g3;rw[c10_h e,l7_h e]
theorem all_h {N:Nat}{h:Int}(h0:0<=h)(h1:h<12):allB N h=true:=by
 have:h=0∨h=1∨h=2∨h=3∨h=4∨h=5∨h=6∨h=7∨h=8∨h=9∨h=10∨h=11:=by omega
 rcases this with rfl|rfl|rfl|rfl|rfl|rfl|rfl|rfl|rfl|rfl|rfl|rfl
 .exact all0 N
 .exact all1 N
 .exact all2 N
 .exact all3 N
 .exact all4 N
 .exact all5 N
 .exact all6 N
 .exact all7 N
 .exact all8 N
 .exact all9 N
 .exact all10 N
 .exact all11 N
theorem zi3 {a0:List Int}{a1:Int}(ha:∀ x,x∈a0->0<=x)(hl:a0.length<=9223372036854775807)(h1:0<=a1):f3 (a0.length+100) a0 a1=some true:=by
 obtain⟨r,hr,h8⟩:=znd (last:=12) (by omega) (by omega) ha hl (N:=a0.length+100) (by omega)
 have e:Int.tmod (Int.tmod a1 12) 12=Int.tmod a1 12:=by
  rw[Int.tmod_eq_emod_of_nonneg h1,Int.tmod_eq_emod_of_nonneg (by omega)];omega
 have hg:g3 (a0.length+100) (Int.tmod a1 12) r=some true:=by
  have:=all_h (N:=a0.length) (h:=Int.tmod a1 12) (by rw[Int.tmod_eq_emod_of_nonneg h1];omega) (by rw[Int.tmod_eq_emod_of_nonneg h1];omega);exact zpl (List.all_eq_true.1 this r hr)
 show (f8 (a0.length+100) a0 4 12).bind (g3 (a0.length+100) a1)=some true;rw[h8,zpo,g3_h e.symm,hg]
end Go.Vc
namespace Go.Vc
abbrev tB:Ty := .int .u8
abbrev znG:Ty := .slice tB false 1
def u8In (n:Int):Prop:=0<=n/\n<=255
theorem zpm {ds:List D}(h:tB.has ds):∃ n,ds=[u8N n]/\u8In n:=by
 simp only[tB,Ty.has] at h;obtain⟨n,rfl,h⟩:=h;exact⟨n,rfl,by simpa [IntKind.min,IntKind.max,IntKind.signed,IntKind.bits,u8In] using h⟩
theorem zpn {x:D}(h:tB.hasD x):∃ n,x=u8N n/\u8In n:=by
 obtain⟨n,h1,h2⟩:=zpm (ds:=[x]) h;exact⟨n,List.singleton_inj.1 h1,h2⟩
theorem zme {x:D}(h:znG.hasD x):∃ l:List Int,x=zfo l/\(l.length<=9223372036854775807/\∀ x,x∈l->0<=x):=by
 obtain⟨l,h1,h2,h3⟩:=zmY (d:=u8N) (p:=u8In) (ds:=[x]) (λ cs hc=>by
  obtain⟨n,rfl,h⟩:=zpm hc
  exact⟨n,rfl,h⟩) h
 exact⟨l,List.singleton_inj.1 h1,h2,λ x hx=>(h3 x hx).1⟩
end Go.Vc
namespace Go.Vc
open Go.Proofs
theorem lx_of {l:List (String×DataW Unit)} (h1:(l.filter λ x=>x.1 == "tusche/mark.count")=[("tusche/mark.count", .slice (zjl.map λ z=>.lit (.int .i64 z)) [])]) {w:World} (h:laidMetH Tryz.prog l w.memory):LX Tryz.prog w:=by
 have h2:=laidMetH.filter (λ x=>x.1 == "tusche/mark.count") h
 rw[h1,MakeChecks.laidMetH_plain _ _ _ (by rfl)] at h2;exact LX.heap (w:=w.memory) (Cv.laid_row (P:=Tryz.prog) (g:=0) (t:=23) (e:=3) (by kernel_rfl) (by kernel_rfl) (by kernel_rfl) (by kernel_rfl) (by kernel_rfl) (by decide) h2) rfl
end Go.Vc

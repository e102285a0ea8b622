/-
  A library for proofs about Go functions by symbolic evaluation,and plain Lean functions that the walked Go functions compute (written by a program of this claim).
-/
import Derived.Test.YtijmkjnlgcockaaGreatDoorVc4
import Derived.Test.YtijmkjnlgcockaaGreatDoorFMF1
import Derived.Test.YtijmkjnlgcockaaGreatDoorFMF7
import Derived.Test.YtijmkjnlgcockaaGreatDoorVc3
import Derived.Test.YtijmkjnlgcockaaGreatDoorProg
import Derived.LaidSub
import Derived.MakeChecks
set_option linter.unusedVariables false
set_option linter.unnecessarySimpa false
set_option linter.unusedSimpArgs false
namespace Go.Vc
abbrev tB : Ty := .int .u8
abbrev tA4 : Ty := .comp [tB,tB,tB,tB]
abbrev tSh : Ty := .slice tA4 true 4
theorem zvJ {ds : List D} (h : tB.has ds) : ∃ n,ds = [u8N n] /\ u8In n := by
 simp only [tB,Ty.has] at h;obtain ⟨n,rfl,h⟩ := h;exact ⟨n,rfl,by simpa [IntKind.min,IntKind.max,IntKind.signed,IntKind.bits,u8In] using h⟩
theorem zmW {ds : List D} (h : (Ty.int .u8).has ds) : ∃ n,ds = [u8N n] /\ u8In n := zvJ h
theorem zvK {x : D} (h : tB.hasD x) : ∃ n,x = u8N n /\ u8In n := by
 obtain ⟨n,h1,h2⟩ := zvJ (ds := [x]) h;exact ⟨n,List.singleton_inj.1 h1,h2⟩
theorem zql {x : D} (h : tSh.hasD x) : ∃ l : List A4u8N,x = zdr l /\ ∀ y,y ∈ l -> y.ok := by
 obtain ⟨l,h1,_,h3⟩ := zri (d := A4u8N.d) (p := A4u8N.ok) (ds := [x]) (λ cs h=>by
  simp only [tA4,Ty.has] at h;rw [Ty.hasL] at h;obtain ⟨a0,b0,rfl,h0,h⟩ := h;rw [Ty.hasL] at h;obtain ⟨a1,b1,rfl,h1,h⟩ := h;rw [Ty.hasL] at h;obtain ⟨a2,b2,rfl,h2,h⟩ := h;rw [Ty.hasL] at h;obtain ⟨a3,b3,rfl,h3,h⟩ := h;simp only [Ty.hasL] at h;subst h;obtain ⟨x0,rfl,p0⟩ := zmW h0;obtain ⟨x1,rfl,p1⟩ := zmW h1;obtain ⟨x2,rfl,p2⟩ := zmW h2;obtain ⟨x3,rfl,p3⟩ := zmW h3
  exact ⟨⟨x0,x1,x2,x3⟩,rfl,p0,p1,p2,p3⟩) h
 exact ⟨l,List.singleton_inj.1 h1,h3⟩
end Go.Vc
namespace Go.Vc
open Go.Proofs
theorem lx_of {l : List (String × DataW Unit)} (h1 : (l.filter λ x=>x.1 == "internal/strconv.uint64pow10") = [("internal/strconv.uint64pow10", Lib.tabData .u64 Lib.pow10Tab)]) {w : World} (h : laidMetH Tryz.prog l w.memory) : LX Tryz.prog w := by
 have h2 := laidMetH.filter (λ x=>x.1 == "internal/strconv.uint64pow10") h
 rw [h1,MakeChecks.laidMetH_plain _ _ _ (by rfl)] at h2;exact LX.heap (w := w.memory) (Lib.tabIs_of_head (g := 0) (t := 226) (e := 182) (n := 20) (by kernel_rfl) (by kernel_rfl) (by kernel_rfl) (by kernel_rfl) (by kernel_rfl) (by kernel_rfl) h2) rfl
end Go.Vc

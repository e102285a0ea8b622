/-
  A library for proofs about Go functions by symbolic evaluation,and plain Lean functions that the walked Go functions compute (written by a program of this claim).
-/
import Derived.Test.YtijmkjnlgcockaaGreatDoorFRDF8
import Derived.Test.YtijmkjnlgcockaaGreatDoorFRDF5
set_option linter.unusedVariables false
set_option linter.unnecessarySimpa false
set_option linter.unusedSimpArgs false
namespace Go.Vc
open Go.Proofs
theorem lt_t {i n:Nat}(h:i<n):decide ((i:Int)<(n:Int))=true:=decide_eq_true (by omega)
theorem lt_f {n:Nat}:decide ((n:Int)<(n:Int))=false:=decide_eq_false (by omega)
theorem zr9 {F:Nat->Int->TL->TS->TE->TC->Option Bool}{k:TL->TS->TE->TC->Option Bool}{x:TL}(hg:GLns x)
  (hs:∀ (n i:Nat) (y:ByteArray) (b:Bk),i<x.length->x[i]? = some y->GLn y->BkOK b->F (n+1) (i:Int) b.L b.S b.E b.C=F n ((i+1:Nat):Int) (zdx b y).L (zdx b y).S (zdx b y).E (zdx b y).C)
  (hk:∀ (n:Nat) (b:Bk),F (n+1) (x.length:Int) b.L b.S b.E b.C=k b.L b.S b.E b.C) :
  ∀ (n:Nat) (b:Bk),BkOK b->x.length<n->F n 0 b.L b.S b.E b.C=k (tell b x).L (tell b x).S (tell b x).E (tell b x).C:=by
 have key:∀ (r:TL) (i n:Nat) (b:Bk),x.drop i=r->i<=x.length->BkOK b->r.length<n->F n (i:Int) b.L b.S b.E b.C=k (tell b r).L (tell b r).S (tell b r).E (tell b r).C:=by
  intro r
  induction r with
  | nil =>
   intro i n b hd hi hb hn;obtain⟨n,rfl⟩:∃ q,n=q+1:=⟨n-1,by simp at hn;omega⟩
   have:i=x.length:=by
    have:=congrArg List.length hd;simp at this;omega
   subst this;exact hk n b
  | cons y r ih =>
   intro i n b hd hi hb hn;obtain⟨n,rfl⟩:∃ q,n=q+1:=⟨n-1,by simp at hn;omega⟩
   have hx:x[i]? = some y:=by
    have:(x.drop i)[0]? = some y:=by rw[hd];rfl
    simpa using this
   have hil:=(zyR.1 hx).1;have hy:=hg y (zyU hx);rw[hs n i y b hil hx hy hb];exact ih (i+1) n (zdx b y) (by rw[<- List.drop_drop,hd];rfl) (by omega) (hy.step hb) (by simp at hn;omega)
 intro n b hb hn;exact key x 0 n b rfl (Nat.zero_le _) hb hn
theorem zpR {s:List A4u8N}(h:∀ x,x∈s->x.ok):GLns ((zh3 s).map (txt nm0)):=by
 intro y hy;obtain⟨l,hl,rfl⟩:=List.mem_map.1 hy;exact⟨l,zrO h l hl,rfl⟩
theorem zsa (s:List A4u8N):((zh3 s).map (txt nm0)).length<=35:=by simp[zh3,zpJ];omega
theorem zuf:Runs Bk.new Bk.new.L/\tell Bk.new Bk.new.L=Bk.new:=⟨trivial,rfl⟩
end Go.Vc

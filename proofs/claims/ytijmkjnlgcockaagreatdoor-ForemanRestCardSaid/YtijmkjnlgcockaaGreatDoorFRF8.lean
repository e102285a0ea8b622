/-
  A library for proofs about Go functions by symbolic evaluation,and plain Lean functions that the walked Go functions compute (written by a program of this claim).
-/
import Derived.Test.YtijmkjnlgcockaaGreatDoorFRF7
set_option linter.unusedVariables false
set_option linter.unnecessarySimpa false
set_option linter.unusedSimpArgs false
namespace Go.Vc
open Go.Proofs
def GLn (y:ByteArray):Prop:=∃ l:Ln,l.ok/\y=txt nm0 l
def GLns (L:TL):Prop:=∀ y,y∈L->GLn y
noncomputable def rd (y:ByteArray):I97×Int:=(f79 198 y).getD (.nil,9)
theorem zt8 {l:Ln}(h:l.ok):zdp (ord nm0 l):=by
 cases l <;> simp only[Ln.ok] at h <;> simp only[ord,zdp] <;> first|trivial|omega
theorem GLn.rd {y:ByteArray}(h:GLn y):f79 198 y=some (rd y)/\(rd y).2=0/\zdp (rd y).1:=by
 obtain⟨l,hl,rfl⟩:=h;have:=zrb hl;unfold Go.Vc.rd;rw[this];exact⟨rfl,rfl,zt8 hl⟩
noncomputable def zdl (b:Bk)(y:ByteArray):Bk:=goM b y (rd y)
noncomputable def errB (b:Bk)(y:ByteArray):Int:=errM b (rd y)
theorem GLn.f18 {y:ByteArray}(h:GLn y){b:Bk}(hb:BkOK b):f18 200 y b.L b.S b.E b.C=some (outM (errB b y) (zdl b y)):=zq9 (M:=197) hb (by omega) h.rd.1 λ _=>h.rd.2.2
theorem GLn.f17 {y:ByteArray}(h:GLn y){b:Bk}(hb:BkOK b):f17 200 y b.L b.S b.E b.C=some (errB b y):=zw9 (M:=197) hb (by omega) h.rd.1 λ _=>h.rd.2.2
theorem GLn.step {y:ByteArray}(h:GLn y){b:Bk}(hb:BkOK b):BkOK (zdl b y):=zw8 hb λ _=>h.rd.2.2
theorem zrd {b:Bk}{y:ByteArray}(h:errB b y≠0):zdl b y=b:=by
 unfold zdl goM;rw[if_neg (show ¬ errM b (rd y)=0 from h)]
theorem zt9 {b:Bk}{y:ByteArray}(h:errB b y=0):(zdl b y).L=b.L++[y]:=by
 unfold zdl goM;rw[if_pos (show errM b (rd y)=0 from h)]
noncomputable def tell (b:Bk)(l:TL):Bk:=l.foldl zdl b
theorem zre:∀ {l:TL} {b:Bk},BkOK b->GLns l->BkOK (tell b l)
 | [],b,h,_=>h
 | y::l,b,h,hg=>zre (l:=l) ((hg y List.mem_cons_self).step h) λ z hz=>hg z (List.mem_cons_of_mem _ hz)
def Runs:Bk->TL->Prop
 | _,[]=>True
 | b,y::l=>errB b y=0/\Runs (zdl b y) l
theorem znX:∀ {l r:TL} {b:Bk},Runs b (l++r) ↔ Runs b l/\Runs (tell b l) r
 | [],r,b=>by simp[Runs,tell]
 | y::l,r,b=>by
  simp only[List.cons_append,Runs,znX (l:=l) (r:=r),and_assoc];rfl
theorem ztf (b:Bk)(l r:TL):tell b (l++r)=tell (tell b l) r:=by simp[tell]
theorem zo1:∀ (l:TL) (b:Bk),(Runs Bk.new b.L/\tell Bk.new b.L=b)->Runs Bk.new (tell b l).L/\tell Bk.new (tell b l).L=tell b l:=by
 intro l
 induction l with
 | nil=>intro b h;exact h
 | cons y l ih =>
  intro b h;refine ih (zdl b y) ?_;by_cases he:errB b y=0
  .rw [zt9 he,znX,ztf,h.2]
   exact⟨⟨h.1,he,trivial⟩,rfl⟩
  .rw [zrd he];exact h
theorem zrf (N:Nat):f29 N=some [nm0 2 0,nm0 2 1,nm0 2 2]:=rfl
theorem zvl (N:Nat):f28 N=some [nm0 1 0,nm0 1 1]:=rfl
end Go.Vc

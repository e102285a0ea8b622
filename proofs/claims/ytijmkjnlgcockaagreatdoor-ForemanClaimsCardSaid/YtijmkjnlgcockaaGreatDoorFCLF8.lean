/-
  A library for proofs about Go functions by symbolic evaluation,and plain Lean functions that the walked Go functions compute (written by a program of this claim).
-/
import Derived.Test.YtijmkjnlgcockaaGreatDoorFCLF7
set_option linter.unusedVariables false
set_option linter.unnecessarySimpa false
set_option linter.unusedSimpArgs false
namespace Go.Vc
open Go.Proofs
def GLn (y:ByteArray):Prop:=∃ l:Ln,l.ok/\y=txt nm0 l
def GLns (L:TL):Prop:=∀ y,y∈L->GLn y
noncomputable def rd (y:ByteArray):I97×Int:=(f79 198 y).getD (.nil,9)
theorem zrq {l:Ln}(h:l.ok):ze3 (ord nm0 l):=by
 cases l <;> simp only[Ln.ok] at h <;> simp only[ord,ze3] <;> first|trivial|omega
theorem GLn.rd {y:ByteArray}(h:GLn y):f79 198 y=some (rd y)/\(rd y).2=0/\ze3 (rd y).1:=by
 obtain⟨l,hl,rfl⟩:=h;have:=zrm hl;unfold Go.Vc.rd;rw[this];exact⟨rfl,rfl,zrq hl⟩
noncomputable def zcc (b:Bk)(y:ByteArray):Bk:=goM b y (rd y)
noncomputable def errB (b:Bk)(y:ByteArray):Int:=errM b (rd y)
theorem GLn.f18 {y:ByteArray}(h:GLn y){b:Bk}(hb:BkOK b):f18 200 y b.L b.S b.E b.C=some (outM (errB b y) (zcc b y)):=zum (M:=197) hb (by omega) h.rd.1 λ _=>h.rd.2.2
theorem GLn.f17 {y:ByteArray}(h:GLn y){b:Bk}(hb:BkOK b):f17 200 y b.L b.S b.E b.C=some (errB b y):=zul (M:=197) hb (by omega) h.rd.1 λ _=>h.rd.2.2
theorem GLn.step {y:ByteArray}(h:GLn y){b:Bk}(hb:BkOK b):BkOK (zcc b y):=go_ok hb λ _=>h.rd.2.2
theorem zrr {b:Bk}{y:ByteArray}(h:errB b y≠0):zcc b y=b:=by
 unfold zcc goM;rw[if_neg (show ¬ errM b (rd y)=0 from h)]
theorem zun {b:Bk}{y:ByteArray}(h:errB b y=0):(zcc b y).L=b.L++[y]:=by
 unfold zcc goM;rw[if_pos (show errM b (rd y)=0 from h)]
noncomputable def tell (b:Bk)(l:TL):Bk:=l.foldl zcc b
theorem zrs:∀ {l:TL} {b:Bk},BkOK b->GLns l->BkOK (tell b l)
 | [],b,h,_=>h
 | y::l,b,h,hg=>zrs (l:=l) ((hg y List.mem_cons_self).step h) λ z hz=>hg z (List.mem_cons_of_mem _ hz)
def Runs:Bk->TL->Prop
 | _,[]=>True
 | b,y::l=>errB b y=0/\Runs (zcc b y) l
theorem zn1:∀ {l r:TL} {b:Bk},Runs b (l++r) ↔ Runs b l/\Runs (tell b l) r
 | [],r,b=>by simp[Runs,tell]
 | y::l,r,b=>by
  simp only[List.cons_append,Runs,zn1 (l:=l) (r:=r),and_assoc];rfl
theorem ztw (b:Bk)(l r:TL):tell b (l++r)=tell (tell b l) r:=by simp[tell]
theorem zo9:∀ (l:TL) (b:Bk),(Runs Bk.new b.L/\tell Bk.new b.L=b)->Runs Bk.new (tell b l).L/\tell Bk.new (tell b l).L=tell b l:=by
 intro l
 induction l with
 | nil=>intro b h;exact h
 | cons y l ih =>
  intro b h;refine ih (zcc b y) ?_;by_cases he:errB b y=0
  .rw [zun he,zn1,ztw,h.2]
   exact⟨⟨h.1,he,trivial⟩,rfl⟩
  .rw [zrr he];exact h
theorem zrt (N:Nat):f28 N=some [nm0 1 0,nm0 1 1]:=rfl
end Go.Vc

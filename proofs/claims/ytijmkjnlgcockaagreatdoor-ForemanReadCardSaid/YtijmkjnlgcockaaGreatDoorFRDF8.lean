/-
  A library for proofs about Go functions by symbolic evaluation,and plain Lean functions that the walked Go functions compute (written by a program of this claim).
-/
import Derived.Test.YtijmkjnlgcockaaGreatDoorFRDF7
set_option linter.unusedVariables false
set_option linter.unnecessarySimpa false
set_option linter.unusedSimpArgs false
namespace Go.Vc
open Go.Proofs
def GLn (y:ByteArray):Prop:=∃ l:Ln,l.ok/\y=txt nm0 l
def zt1 (N:Nat)(l:Ln):Bool:=match f57 N (txt nm0 l) with
 | some m=>Nat.ble m.size 10
 | none=>false
theorem zrR:zpI.all (zt1 198)=true:=by kernel_rfl
theorem zrS:zpI.all (zt1 199)=true:=by kernel_rfl
theorem zox {N:Nat}{l:Ln}(h:zt1 N l=true):∃ m,f57 N (txt nm0 l)=some m/\m.size<=10:=by
 unfold zt1 at h
 split at h
 .rename_i m hm;exact⟨m,hm,zyV h⟩
 .cases h
theorem zt2 (l:Ln)(h:l.ok):(txt nm0 l).size<=100:=by
 have s:=zgQ;have q:=zkj
 cases l <;> simp only[txt,ByteArray.size_append,za8,List.length_cons,List.length_nil,zrP]
 case stone a n=>have:=s 0 a;have:=q n;omega
 case edition e=>have:=s 1 e;omega
 case draw a e=>have:=s 0 a;have:=s 1 e;omega
 case paper e n=>have:=s 1 e;have:=q n;omega
 case print a n k=>have:=s 0 a;have:=q n;have:=q k;omega
 case close e=>have:=s 1 e;omega
 case claim c e n=>have:=s 2 c;have:=s 1 e;have:=q n;omega
 case deliver c e n=>have:=s 2 c;have:=s 1 e;have:=q n;omega
 case grind a=>have:=s 0 a;omega
theorem GLn.mark {y:ByteArray}(h:GLn y):y.size<=100/\(∃ m,f57 198 y=some m/\m.size<=10)/\∃ m,f57 199 y=some m/\m.size<=10:=by
 obtain⟨l,hl,rfl⟩:=h;exact⟨zt2 l hl,zox (List.all_eq_true.1 zrR l (zfT hl)),zox (List.all_eq_true.1 zrS l (zfT hl))⟩
def GLns (L:TL):Prop:=∀ y,y∈L->GLn y
noncomputable def rd (y:ByteArray):I97×Int:=(f79 198 y).getD (.nil,9)
theorem zyB {l:Ln}(h:l.ok):zc3 (ord nm0 l):=by
 cases l <;> simp only[Ln.ok] at h <;> simp only[ord,zc3] <;> first|trivial|omega
theorem GLn.rd {y:ByteArray}(h:GLn y):f79 198 y=some (rd y)/\(rd y).2=0/\zc3 (rd y).1:=by
 obtain⟨l,hl,rfl⟩:=h;have:=zrN hl;unfold Go.Vc.rd;rw[this];exact⟨rfl,rfl,zyB hl⟩
noncomputable def zdx (b:Bk)(y:ByteArray):Bk:=goM b y (rd y)
noncomputable def errB (b:Bk)(y:ByteArray):Int:=errM b (rd y)
theorem GLn.f18 {y:ByteArray}(h:GLn y){b:Bk}(hb:BkOK b):f18 200 y b.L b.S b.E b.C=some (outM (errB b y) (zdx b y)):=zrL (M:=197) hb (by omega) h.rd.1 λ _=>h.rd.2.2
theorem GLn.f17 {y:ByteArray}(h:GLn y){b:Bk}(hb:BkOK b):f17 200 y b.L b.S b.E b.C=some (errB b y):=zyu (M:=197) hb (by omega) h.rd.1 λ _=>h.rd.2.2
theorem GLn.step {y:ByteArray}(h:GLn y){b:Bk}(hb:BkOK b):BkOK (zdx b y):=zyt hb λ _=>h.rd.2.2
theorem znn {b:Bk}{y:ByteArray}(h:errB b y≠0):zdx b y=b:=by
 unfold zdx goM;rw[if_neg (show ¬ errM b (rd y)=0 from h)]
theorem zrT {b:Bk}{y:ByteArray}(h:errB b y=0):(zdx b y).L=b.L++[y]:=by
 unfold zdx goM;rw[if_pos (show errM b (rd y)=0 from h)]
noncomputable def tell (b:Bk)(l:TL):Bk:=l.foldl zdx b
theorem zrU:∀ {l:TL} {b:Bk},BkOK b->GLns l->BkOK (tell b l)
 | [],b,h,_=>h
 | y::l,b,h,hg=>zrU (l:=l) ((hg y List.mem_cons_self).step h) λ z hz=>hg z (List.mem_cons_of_mem _ hz)
theorem zl7:∀ {l:TL} {b:Bk},GLns b.L->GLns l->GLns (tell b l).L
 | [],b,h,_=>h
 | y::l,b,h,hg=>by
  refine zl7 (l:=l) (b:=zdx b y) ?_ λ z hz=>hg z (List.mem_cons_of_mem _ hz);by_cases he:errB b y=0
  .rw [zrT he]
   intro z hz
   rcases List.mem_append.1 hz with hz|hz
   .exact h z hz
   .simp at hz;subst hz;exact hg z List.mem_cons_self
  .rw [znn he];exact h
def Runs:Bk->TL->Prop
 | _,[]=>True
 | b,y::l=>errB b y=0/\Runs (zdx b y) l
theorem zoy:∀ {l r:TL} {b:Bk},Runs b (l++r) ↔ Runs b l/\Runs (tell b l) r
 | [],r,b=>by simp[Runs,tell]
 | y::l,r,b=>by
  simp only[List.cons_append,Runs,zoy (l:=l) (r:=r),and_assoc];rfl
theorem zt3 (b:Bk)(l r:TL):tell b (l++r)=tell (tell b l) r:=by simp[tell]
theorem zpK:∀ (l:TL) (b:Bk),(Runs Bk.new b.L/\tell Bk.new b.L=b)->Runs Bk.new (tell b l).L/\tell Bk.new (tell b l).L=tell b l:=by
 intro l
 induction l with
 | nil=>intro b h;exact h
 | cons y l ih =>
  intro b h;refine ih (zdx b y) ?_;by_cases he:errB b y=0
  .rw [zrT he,zoy,zt3,h.2]
   exact⟨⟨h.1,he,trivial⟩,rfl⟩
  .rw [znn he];exact h
theorem zt4 {N:Nat}{l:TL}(h:l.length<N)(hl:l.length<=1000):f20 N l l=some true:=by
 unfold f20;rw[show decide (¬ (l.length:Int)=(l.length:Int))=false from decide_eq_false (by simp),cond_false];unfold zau
 have key:∀ (m i n:Nat),l.length-i=m->i<=l.length->m<n->zlS l l zgs n (i:Int)=some true:=by
  intro m
  induction m with
  | zero =>
   intro i n h1 h2 h3;obtain⟨n,rfl⟩:∃ q,n=q+1:=⟨n-1,by omega⟩;simp only[zlS,zn9,zgs];rw[show decide ((i:Int)<(l.length:Int))=false from decide_eq_false (by omega),cond_false]
  | succ m ih =>
   intro i n h1 h2 h3;obtain⟨n,rfl⟩:∃ q,n=q+1:=⟨n-1,by omega⟩;have hx:l[i]? = some l[i]:=zyS (by omega);simp only[zlS,zn9,zbk,hx,zyQ];rw[show decide ((i:Int)<(l.length:Int))=true from decide_eq_true (by omega),cond_true];simp only[not_true_eq_false,decide_false,cond_false];rw[zcC (by omega)];exact ih (i+1) n (by omega) (by omega) (by omega)
 exact key l.length 0 N rfl (Nat.zero_le _) h
theorem zpL {N:Nat}{l:List Int}(h:l.length<N)(hl:l.length<=1000):f35 N l l=some true:=by
 unfold f35;rw[show decide (¬ (l.length:Int)=(l.length:Int))=false from decide_eq_false (by simp),cond_false];unfold zau
 have key:∀ (m i n:Nat),l.length-i=m->i<=l.length->m<n->zlR l l zgr n (i:Int)=some true:=by
  intro m
  induction m with
  | zero =>
   intro i n h1 h2 h3;obtain⟨n,rfl⟩:∃ q,n=q+1:=⟨n-1,by omega⟩;simp only[zlR,zn8,zgr];rw[show decide ((i:Int)<(l.length:Int))=false from decide_eq_false (by omega),cond_false]
  | succ m ih =>
   intro i n h1 h2 h3;obtain⟨n,rfl⟩:∃ q,n=q+1:=⟨n-1,by omega⟩;have hx:l[i]? = some l[i]:=zyS (by omega);simp only[zlR,zn8,zbk,hx,zyQ];rw[show decide ((i:Int)<(l.length:Int))=true from decide_eq_true (by omega),cond_true];simp only[not_true_eq_false,decide_false,cond_false];rw[zcC (by omega)];exact ih (i+1) n (by omega) (by omega) (by omega)
 exact key l.length 0 N rfl (Nat.zero_le _) h
theorem ziZ {b:Bk}(h:BkOK b)(k:ByteArray):(zer b k).1.length<=121:=by
 unfold zer;have hl:=h.ll
 split
 .simp
 .rename_i e he
  obtain⟨j,_,hj⟩:=zeL he;have:=(h.sh.gE hj).le;show e.places.length<=121;omega
theorem zwc (N:Nat):f29 N=some [nm0 2 0,nm0 2 1,nm0 2 2]:=rfl
theorem zwd (N:Nat):f28 N=some [nm0 1 0,nm0 1 1]:=rfl
theorem zwe (N:Nat):f27 N=some [nm0 0 0,nm0 0 1,nm0 0 2]:=rfl
theorem zi0 {α:Type}[DecidableEq α](x:α):decide (¬ x=x)=false:=decide_eq_false (by simp)
theorem zuW {α:Type}[DecidableEq α](x:α):decide (x=x)=true:=decide_eq_true rfl
end Go.Vc

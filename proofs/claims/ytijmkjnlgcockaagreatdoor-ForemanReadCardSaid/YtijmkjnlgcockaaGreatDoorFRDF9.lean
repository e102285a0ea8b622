/-
  A library for proofs about Go functions by symbolic evaluation,and plain Lean functions that the walked Go functions compute (written by a program of this claim).
-/
import Derived.Test.YtijmkjnlgcockaaGreatDoorFRDF8
import Derived.Lib.TrimU
import Derived.Test.YtijmkjnlgcockaaGreatDoorFRDF5
import Derived.Lib.LastIndexByte
set_option linter.unusedVariables false
set_option linter.unnecessarySimpa false
set_option linter.unusedSimpArgs false
namespace Go.Vc
open Go.Proofs
theorem zh5 (s:ByteArray)(p:Nat):p<(zeN s p).2:=by
 have:=Lib.width_pos s p;show p<p+_;omega
theorem zoz {a b:List UInt8}:strC a=strC b ↔ a=b:=by
 constructor
 .intro h
  have h2:(strC a).data.toList=(strC b).data.toList:=by rw[h]
  simpa [strC] using h2
 .intro h;rw[h]
theorem zl8 {s:ByteArray}{k0:Int->Option (Int×Bool)}(hk:∀ v,∃ r,k0 v=some r):∀ (n:Nat) (v:Int) (p:Nat),s.size-p<n->∃ r,zhx s k0 n v p=some r
 | 0,v,p,h=>by omega
 | n+1,v,p,h=>by
  have hr:=zh5 s p;have ih:=λ v=>zl8 (s:=s) hk n v (zeN s p).2;simp only[zhx,zmY,zyQ,zaR,decide_eq_true_eq]
  split
  .split
   .exact ⟨_,rfl⟩
   .split
    .exact ⟨_,rfl⟩
    .exact ih _ (by omega)
  .exact hk _
theorem zwf {N:Nat}{s:ByteArray}(h:s.size<N):∃ r,f105 N s=some r:=by
 have hl:=zl8 (s:=s) (k0:=zf8) (λ v=>⟨_,rfl⟩) N 0 0 (by omega);simp only[f105,ze8,zau,zaR,decide_eq_true_eq]
 split
 .exact ⟨_,rfl⟩
 .rename_i h0
  split
  .exact ⟨_,rfl⟩
  .have h1:0<s.size:=by
    cases hs:s.size with
    | zero=>exact absurd (by cases s with|mk d=>have:d.size=0:=hs;rw[Array.size_eq_zero_iff.1 this];rfl) h0
    | succ n=>omega
   rw[idxS,if_pos ⟨by omega,by omega⟩];simp only[zyQ]
   split
   .split
    .exact ⟨_,rfl⟩
    .exact hl
   .exact hl
theorem zoA {s:ByteArray}{k0:Option Bool}(hk:∃ r,k0=some r):∀ (n:Nat) (p:Nat),s.size-p<n->∃ r,zm0 s k0 n p=some r
 | 0,p,h=>by omega
 | n+1,p,h=>by
  have hr:=zh5 s p;have ih:=zoA (s:=s) hk n (zeN s p).2;simp only[zm0,zrm,zyQ,zaR,decide_eq_true_eq]
  split
  .split
   .exact ⟨_,rfl⟩
   .split
    .exact ⟨_,rfl⟩
    .exact ih (by omega)
  .exact hk
theorem zwg {N:Nat}{s:ByteArray}(h:s.size<N):∃ r,f107 N s=some r:=by
 obtain⟨r,hr⟩:=zoA (s:=s) (k0:=zgp s) (by unfold zgp;simp only[zaR];split <;> exact⟨_,rfl⟩) N 0 (by omega);exact⟨!r,by simp only[f107,f61,f88,zau,hr,zyQ]⟩
theorem zl9 {s:ByteArray}{k0:Int->Option (TL×Bool)}{Q:TL×Bool->Prop}(hQ:Q ([],false))(hk:∀ v,∃ r,k0 v=some r/\Q r):∀ (n:Nat) (v:Int) (p:Nat),s.size-p<n->∃ r,zhG s k0 n v p=some r/\Q r
 | 0,v,p,h=>by omega
 | n+1,v,p,h=>by
  have hr:=zh5 s p;have ih:=λ v=>zl9 (s:=s) hQ hk n v (zeN s p).2;simp only[zhG,zm6,zyQ,zaR,decide_eq_true_eq]
  repeat' split
  all_goals first|exact⟨_,rfl,hQ⟩|exact ih _ (by omega)|exact hk _
def PcOK (s:ByteArray)(r:TL×Bool):Prop:=r.2=true->r.1≠[]/\∀ x,x∈r.1->x.size<=s.size
theorem zwh {N:Nat}{s:ByteArray}(h:s.size<N)(h2:s.size<=1000000):∃ r,f104 N s=some r/\PcOK s r:=by
 refine zl9 (Q:=PcOK s) (λ h=>by cases h) (λ v=>?_) N 32 0 (by omega);obtain⟨N,rfl⟩:∃ q,N=q+1:=⟨N-1,by omega⟩
 have hs:(strC [32]).size=1:=by rw[za8];rfl
 have h3:ze9 s (N+1) v=some ((za7 ((strC [32]).data.toList.headD 0) s.data.toList).map (λ l=>(⟨l.toArray⟩:ByteArray)),decide (¬ v=32)):=by
  unfold ze9 f73;dsimp only;rw[if_pos ⟨h2,hs⟩,zyQ]
 refine⟨_,h3,λ _=>⟨?_,λ x hx=>?_⟩⟩
 .intro h0
  exact zfJ _ _ (List.map_eq_nil_iff.1 h0)
 .obtain ⟨y,hy,rfl⟩:=List.mem_map.1 hx
  have:=(zeI _ _).2 _ hy;exact this
def RdOK (o:Option (I97×Int)):Prop:=∃ r,o=some r/\(r.2=0->zc3 r.1)
theorem RdOK.err {n:Int}(h:n≠0):RdOK (some (I97.nil,n)):=⟨_,rfl,λ h' => absurd h' h⟩
section
variable {N:Nat} {P:TL} {q:Bool} {nm nu:Nat} {lo hi:Int}
theorem zpM {e0 e1:Int}{k0:Option (I97×Int)}(hk:(0<nu->lo<=e0/\e0<=hi)->(1<nu->lo<=e1/\e1<=hi)->RdOK k0)(hnu:nu<=2):∀ (m i n:Nat),nu-i=m->m<n->(0<i->0<nu->lo<=e0/\e0<=hi)->(1<i->1<nu->lo<=e1/\e1<=hi)->RdOK (zgt (P,q) (nu:Int) [e0,e1] lo hi k0 n (i:Int)):=by
 intro m
 induction m with
 | zero =>
  intro i n h1 h2 h3 h4;obtain⟨n,rfl⟩:∃ q,n=q+1:=⟨n-1,by omega⟩;simp only[zgt,zjW,zaR,decide_eq_true_eq,Int.toNat_natCast];rw[if_neg (by omega)];exact hk (λ h=>h3 (by omega) h) λ h=>h4 (by omega) h
 | succ m ih =>
  intro i n h1 h2 h3 h4;obtain⟨n,rfl⟩:∃ q,n=q+1:=⟨n-1,by omega⟩;simp only[zgt,zjW,zaR,decide_eq_true_eq,Int.toNat_natCast];rw[if_pos (by omega),chkI,if_pos ⟨by omega,by omega⟩];simp only[zyQ,ixN,Int.toNat_natCast]
  have hi2:i<2:=by omega
  have hW:W ((i:Int)+1)=((i+1:Nat):Int):=zcC (by omega)
  match i,hi2 with
  | 0,_ =>
   simp only[List.getElem?_cons_zero,zyQ]
   split
   .exact .err (by decide)
   .split
    .exact .err (by decide)
    .rw [hW];exact ih 1 n (by omega) (by omega) (λ _ _=>by omega) (λ h=>by omega)
  | 1,_ =>
   simp only[List.getElem?_cons_succ,List.getElem?_cons_zero,zyQ]
   split
   .exact .err (by decide)
   .split
    .exact .err (by decide)
    .rw [hW];exact ih 2 n (by omega) (by omega) (λ _ h=>h3 (by omega) h) (λ _ _=>by omega)
theorem zrV {k2 k3:Option (I97×Int)}{b:List Int}(hk:RdOK k3){X:TL}(hX:∀ x,x∈X->x.size<N)(hl:X.length<=1000):∀ (m i n:Nat),X.length-i=m->m<n->RdOK (zaz N b k2 X k3 n (i:Int)):=by
 intro m
 induction m with
 | zero =>
  intro i n h1 h2;obtain⟨n,rfl⟩:∃ q,n=q+1:=⟨n-1,by omega⟩;simp only[zaz,za1,zaR,decide_eq_true_eq];rw[if_neg (by omega)];exact hk
 | succ m ih =>
  intro i n h1 h2;obtain⟨n,rfl⟩:∃ q,n=q+1:=⟨n-1,by omega⟩
  have hi:i<X.length:=by omega
  obtain⟨r,hr⟩:=zwg (N:=N) (s:=X[i]) (hX _ (List.getElem_mem hi));simp only[zaz,za1,zaR,decide_eq_true_eq];rw[if_pos (by omega),zri hi];simp only[zyQ,hr]
  split
  .rw [if_pos (by omega)];exact .err (by decide)
  .rw [zcC (by omega)];exact ih (i+1) n (by omega) (by omega)
theorem zt5 {k4:List Int->Option (I97×Int)}(hk:∀ e0 e1,RdOK (k4 [e0,e1])){X:TL}(hX:∀ x,x∈X->x.size<N)(hl:X.length<=2):∀ (m i n:Nat) (e0 e1:Int),X.length-i=m->m<n->RdOK (zgu N (P,q) (nm:Int) (nu:Int) k4 X n (i:Int) [e0,e1]):=by
 intro m
 induction m with
 | zero =>
  intro i n e0 e1 h1 h2;obtain⟨n,rfl⟩:∃ q,n=q+1:=⟨n-1,by omega⟩;simp only[zgu,zj0,zaR,decide_eq_true_eq];rw[if_neg (by omega)];exact hk _ _
 | succ m ih =>
  intro i n e0 e1 h1 h2;obtain⟨n,rfl⟩:∃ q,n=q+1:=⟨n-1,by omega⟩
  have hi:i<X.length:=by omega
  obtain⟨r,hr⟩:=zwf (N:=N) (s:=X[i]) (hX _ (List.getElem_mem hi));simp only[zgu,zj0,zaR,decide_eq_true_eq];rw[if_pos (by omega),zri hi];simp only[zyQ,hr];rw[chkI,if_pos ⟨by omega,by omega⟩];simp only[zyQ,setN,Int.toNat_natCast]
  have hi2:i<2:=by omega
  have hW:W ((i:Int)+1)=((i+1:Nat):Int):=zcC (by omega)
  match i,hi2 with
  | 0,_ =>
   simp only[List.length_cons,List.length_nil];rw[if_pos (by omega)];simp only[zyQ,List.set_cons_zero]
   split
   .exact .err (by decide)
   .rw [hW];exact ih 1 n _ _ (by omega) (by omega)
  | 1,_ =>
   simp only[List.length_cons,List.length_nil];rw[if_pos (by omega)];simp only[zyQ,List.set_cons_succ,List.set_cons_zero]
   split
   .exact .err (by decide)
   .rw [hW];exact ih 2 n _ _ (by omega) (by omega)
theorem zcI (hnm:nm<=2)(hnu:nu<=2)(hN:10<=N)(hX:∀ x,x∈P->x.size<N)
  (hsel:∀ b,zfb N (P,q) (nu:Int) b=zfa N (P,q) (nu:Int) b lo hi)
  (hfin:P.length=1+nm+nu->∀ e0 e1,(0<nu->lo<=e0/\e0<=hi)->(1<nu->lo<=e1/\e1<=hi)->RdOK (f108 N P ⟨e0,e1⟩ |>.bind λ x=>some (x,0))):RdOK (zeo N (P,q) (nm:Int) (nu:Int)):=by
 have w1:W (1+(nm:Int))=((1+nm:Nat):Int):=by rw[zaE (by omega) (by omega)];omega
 have w2:W (((1+nm:Nat):Int)+(nu:Int))=((1+nm+nu:Nat):Int):=by rw[zaE (by omega) (by omega)];omega
 simp only[zeo,zau,zaR,decide_eq_true_eq,w1,w2]
 split
 .exact .err (by decide)
 .rename_i hlen
  have hlen:P.length=1+nm+nu:=by omega
  rw[zjK (by omega) (Nat.le_refl _)];simp only[zyQ];refine zt5 (λ e0 e1=>?_) (λ x hx=>hX x (List.mem_of_mem_take (List.mem_of_mem_drop hx))) (by simp;omega) _ 0 N 0 0 rfl (by simp;omega);simp only[zg,zau,w1];rw[show (1:Int)=((1:Nat):Int) from rfl,zjK (by omega) (by omega)];simp only[zyQ];refine zrV ?_ (λ x hx=>hX x (List.mem_of_mem_take (List.mem_of_mem_drop hx))) (by simp;omega) _ 0 N rfl (by simp;omega);simp only[zaC,hsel,zfa,zau];rw[arS,if_pos ⟨by omega,by omega⟩];simp only[zyQ];refine zpM (λ h1 h2=>?_) hnu _ 0 N rfl (by omega) (λ h=>by omega) (λ h=>by omega);simp only[zf,A2iN.of,zyQ];exact hfin hlen e0 e1 h1 h2
end
theorem ix_h {x:ByteArray}{l:TL}:ix (x::l) (0:Int)=some x:=rfl
theorem zgc {x:ByteArray}{P:TL}{n:Nat}(h:(x::P).length=1+1+n):∃ a l,P=a::l:=by
 cases P with
 | nil=>simp at h;omega
 | cons a l=>exact⟨_,_,rfl⟩
theorem zh6 {x:ByteArray}{P:TL}{n:Nat}(h:(x::P).length=1+2+n):∃ a b l,P=a::b::l:=by
 match P,h with
 | [],h=>simp at h;omega
 | [a],h=>simp at h;omega
 | a::b::l,h=>exact⟨_,_,_,rfl⟩
abbrev RdK (k:List UInt8)(a u:Nat):Prop:=∀ {N:Nat} {P:TL} {b:Bool},10<=N->(∀ z,z∈strC k::P->z.size<N)->RdOK (zeo N (strC k::P,b) (a:Int) (u:Int))
theorem zt6:RdK [115,116,111,110,101] 1 1:=λ hN hX=>zcI (lo:=1) (hi:=99) (by omega) (by omega) hN hX (λ b=>by kernel_rfl) λ hl e0 e1 b1 b2=>by
 obtain⟨a,l,rfl⟩:=zgc hl;exact⟨(I97.c199 ⟨a,e0⟩,0),by kernel_rfl,λ _=>by simp only[zc3];omega⟩
theorem zpN:RdK [101,100,105,116,105,111,110] 1 0:=λ hN hX=>zcI (lo:=1) (hi:=5000) (by omega) (by omega) hN hX (λ b=>by kernel_rfl) λ hl e0 e1 b1 b2=>by
 obtain⟨a,l,rfl⟩:=zgc hl;exact⟨(I97.c201 ⟨a⟩,0),by kernel_rfl,λ _=>by trivial⟩
theorem zwi:RdK [100,114,97,119] 2 0:=λ hN hX=>zcI (lo:=1) (hi:=5000) (by omega) (by omega) hN hX (λ b=>by kernel_rfl) λ hl e0 e1 b1 b2=>by
 obtain⟨a,b,l,rfl⟩:=zh6 hl;exact⟨(I97.c203 ⟨a,b⟩,0),by kernel_rfl,λ _=>by trivial⟩
theorem zt7:RdK [112,97,112,101,114] 1 1:=λ hN hX=>zcI (lo:=1) (hi:=5000) (by omega) (by omega) hN hX (λ b=>by kernel_rfl) λ hl e0 e1 b1 b2=>by
 obtain⟨a,l,rfl⟩:=zgc hl;exact⟨(I97.c205 ⟨a,e0⟩,0),by kernel_rfl,λ _=>by simp only[zc3];omega⟩
theorem zt8:RdK [112,114,105,110,116] 1 2:=λ hN hX=>zcI (lo:=0) (hi:=5000) (by omega) (by omega) hN hX (λ b=>by kernel_rfl) λ hl e0 e1 b1 b2=>by
 obtain⟨a,l,rfl⟩:=zgc hl;exact⟨(I97.c207 ⟨a,e0,e1⟩,0),by kernel_rfl,λ _=>by simp only[zc3];omega⟩
theorem zt9:RdK [99,108,111,115,101] 1 0:=λ hN hX=>zcI (lo:=1) (hi:=5000) (by omega) (by omega) hN hX (λ b=>by kernel_rfl) λ hl e0 e1 b1 b2=>by
 obtain⟨a,l,rfl⟩:=zgc hl;exact⟨(I97.c209 ⟨a⟩,0),by kernel_rfl,λ _=>by trivial⟩
theorem zu:RdK [99,108,97,105,109] 2 1:=λ hN hX=>zcI (lo:=1) (hi:=5000) (by omega) (by omega) hN hX (λ b=>by kernel_rfl) λ hl e0 e1 b1 b2=>by
 obtain⟨a,b,l,rfl⟩:=zh6 hl;exact⟨(I97.c211 ⟨a,b,e0⟩,0),by kernel_rfl,λ _=>by simp only[zc3];omega⟩
theorem zpO:RdK [100,101,108,105,118,101,114] 2 1:=λ hN hX=>zcI (lo:=1) (hi:=5000) (by omega) (by omega) hN hX (λ b=>by kernel_rfl) λ hl e0 e1 b1 b2=>by
 obtain⟨a,b,l,rfl⟩:=zh6 hl;exact⟨(I97.c213 ⟨⟨a,b,e0⟩⟩,0),by kernel_rfl,λ _=>by simp only[zc3];omega⟩
theorem zua:RdK [103,114,105,110,100] 1 0:=λ hN hX=>zcI (lo:=1) (hi:=5000) (by omega) (by omega) hN hX (λ b=>by kernel_rfl) λ hl e0 e1 b1 b2=>by
 obtain⟨a,l,rfl⟩:=zgc hl;exact⟨(I97.c215 ⟨a⟩,0),by kernel_rfl,λ _=>by trivial⟩
theorem iteP {c:Prop}[Decidable c]{a b:Option (I97×Int)}(h:c->RdOK a)(h':¬ c->RdOK b):RdOK (if c then a else b):=by
 split
 .exact h (by assumption)
 .exact h' (by assumption)
theorem zyC {N:Nat}{y:ByteArray}(hN:60<=N):RdOK (f79 N y):=by
 unfold f79;rw[zaR];simp only[decide_eq_true_eq]
 split
 .exact .err (by decide)
 .rename_i h40
  obtain⟨⟨P,q⟩,hr,hp⟩:=zwh (N:=N) (s:=y) (by omega) (by omega);rw[hr];simp only[zyQ]
  cases hq:q with
  | false=>exact .err (by decide)
  | true =>
   obtain⟨hne,hsz⟩:=hp hq;rw[Bool.not_true,cond_false]
   obtain⟨x,P',rfl⟩:∃ x P',P=x::P':=by cases P with|nil=>exact absurd rfl hne|cons x P' => exact⟨_,_,rfl⟩
   have hX:∀ z,z∈x::P'->z.size<N:=λ z hz=>by have:=hsz z hz;omega
   have w1:W ((0:Int)+1)=((1:Nat):Int):=by rw[zaE (by omega) (by omega)];rfl
   have w2:W ((0:Int)+2)=((2:Nat):Int):=by rw[zaE (by omega) (by omega)];rfl
   have w3:W (((1:Nat):Int)+1)=((2:Nat):Int):=by rw[zaE (by omega) (by omega)];rfl
   rw[zau,ix_h,zyQ];simp only[zaR,decide_eq_true_eq,w1,w2,w3];refine iteP (λ hx=>?_) (λ _=>?_)
   .subst hx;exact zt8 (by omega) hX
   refine iteP (λ hx=>?_) (λ _=>?_)
   .subst hx;exact zt6 (by omega) hX
   refine iteP (λ hx=>?_) (λ _=>?_)
   .subst hx;exact zt7 (by omega) hX
   refine iteP (λ hx=>?_) (λ _=>?_)
   .subst hx;exact zpN (by omega) hX
   refine iteP (λ hx=>?_) (λ _=>?_)
   .subst hx;exact zt9 (by omega) hX
   refine iteP (λ hx=>?_) (λ _=>?_)
   .subst hx;exact zua (by omega) hX
   refine iteP (λ hx=>?_) (λ _=>?_)
   .subst hx;exact zu (by omega) hX
   refine iteP (λ hx=>?_) (λ _=>?_)
   .subst hx;exact zpO (by omega) hX
   refine iteP (λ hx=>?_) (λ _=>?_)
   .subst hx;exact zwi (by omega) hX
   exact .err (by decide)
end Go.Vc
namespace Go.Vc
open Go.Proofs
def dT:List (List Int):=(List.range 10).map λ s=>(List.range 10).map λ d=>(((3*s+d) % 10:Nat):Int)
structure FuM (N:Nat):Prop where
 big:130<=N
 t84:f84 N=some dT
 t116:f116 N dT=some 0
theorem zrW:dT.length=10:=rfl
theorem zyD {s:Nat}(h:s<10):dT[s]? = some ((List.range 10).map λ d=>(((3*s+d) % 10:Nat):Int)):=by
 unfold dT;rw[List.getElem?_map,List.getElem?_range h];rfl
theorem dT_at {s d:Nat}(h:s<10)(h':d<10):(ix dT (s:Int)).bind (λ r=>ix r (d:Int))=some (((3*s+d) % 10:Nat):Int):=by
 rw[zbk,zyD h,zyQ,zbk,List.getElem?_map,List.getElem?_range h'];rfl
def stN:Nat->List Nat->Nat
 | s,[]=>s
 | s,d::l=>stN ((3*s+d) % 10) l
abbrev cI (l:List Nat):List Int:=l.map λ (d:Nat)=>(d:Int)
theorem ltT {i n:Nat}(h:i<n):decide ((i:Int)<(n:Int))=true:=decide_eq_true (by omega)
theorem ltF {i n:Nat}(h:n<=i):decide ((i:Int)<(n:Int))=false:=decide_eq_false (by omega)
theorem zgC (l:List Nat):(cI l).length=l.length:=by simp
theorem zoB:∀ (l:List Nat) {s:Nat},s<10->stN s l<10
 | [],s,h=>h
 | d::l,s,h=>zoB l (Nat.mod_lt _ (by omega))
theorem zm {L:List Nat}{k0:Int->Option Int}(hL:L.length<=1000)(hd:∀ d,d∈L->d<10):∀ (r p:List Nat) (n s:Nat),p++r=L->r.length<n->s<10->zbF dT (cI L) k0 n (s:Int) (p.length:Int)=k0 (stN s r:Nat)
 | [],p,n,s,h,h1,h2=>by
  obtain⟨n,rfl⟩:∃ q,n=q+1:=⟨n-1,by omega⟩
  have:L.length=p.length:=by rw[<- h];simp
  simp only[zbF,zdf,zgC];rw[ltF (by omega),cond_false];rfl
 | d::r,p,n,s,h,h1,h2=>by
  obtain⟨n,rfl⟩:∃ q,n=q+1:=⟨n-1,by omega⟩
  have hl:L.length=p.length+(r.length+1):=by rw[<- h];simp
  have hd0:d<10:=hd d (by rw[<- h];simp)
  have hx:(cI L)[p.length]? = some (d:Int):=by rw[<- h];simp
  simp only[zbF,zdf,zgC];rw[ltT (by omega),cond_true,zbk,hx,zyQ,zdw,dT_at h2 hd0,zyQ,zcC (by omega)];have:=zm (k0:=k0) hL hd r (p++[d]) n ((3*s+d) % 10) (by simpa using h) (by simpa using h1) (Nat.mod_lt _ (by omega));simpa [stN] using this
theorem zrX {N:Nat}{L:List Nat}(hL:L.length<=1000)(hN:L.length<N)(hd:∀ d,d∈L->d<10):f132 N dT 0 (cI L)=some ((stN 0 L:Nat):Int):=by
 have:=zm (k0:=zbE dT) hL hd L [] N 0 rfl hN (by omega);simpa [f132,zau,zbE] using this
theorem zma {N:Nat}{L:List Nat}{k0:Option Int}(hL:L.length<=1000)(hd:∀ d,d∈L->d<10):∀ (r p:List Nat) (n:Nat),p++r=L->r.length<n->zaB dT (cI L) N k0 n (p.length:Int)=k0
 | [],p,n,h,h1=>by
  obtain⟨n,rfl⟩:∃ q,n=q+1:=⟨n-1,by omega⟩
  have:L.length=p.length:=by rw[<- h];simp
  simp only[zaB,za4,zgC];rw[ltF (by omega),cond_false]
 | d::r,p,n,h,h1=>by
  obtain⟨n,rfl⟩:∃ q,n=q+1:=⟨n-1,by omega⟩
  have hl:L.length=p.length+(r.length+1):=by rw[<- h];simp
  have hd0:d<10:=hd d (by rw[<- h];simp)
  have hx:(cI L)[p.length]? = some (d:Int):=by rw[<- h];simp
  have hw:W ((dT.length:Int)-1)=9:=by rw[zrW];rfl
  have h117:f117 N 0 (d:Int) 9=some true:=by
   unfold f117;rw[decide_eq_true (by omega),cond_true,decide_eq_true (by omega)]
  simp only[zaB,za4,zgC];rw[ltT (by omega),cond_true,zbk,hx,zyQ,hw,h117,zyQ,Bool.not_true,cond_false,zcC (by omega)];have:=zma (N:=N) (k0:=k0) hL hd r (p++[d]) n (by simpa using h) (by simpa using h1);simpa using this
theorem zrY {N:Nat}(fu:FuM N){L:List Nat}(hL:L.length<=12)(hd:∀ d,d∈L->d<10):f158 N dT (cI L)=some 0:=by
 have hN:=fu.big;have:=zma (N:=N) (k0:=zay dT) (by omega) hd L [] N rfl (by omega);unfold f158;rw[fu.t116,zyQ,decide_eq_false (by simp),cond_false,zgC,decide_eq_false (by omega),cond_false,zau];simpa [zay] using this
theorem zwj {N:Nat}(fu:FuM N){L:List Nat}(h2:2<=L.length)(hL:L.length<=12)(hd:∀ d,d∈L->d<10):f101 N dT (cI L)=some (if stN 0 L=0 then 0 else 13):=by
 have hN:=fu.big;unfold f101 f131;rw[fu.t116,zyQ,decide_eq_false (by simp),cond_false,zgC,decide_eq_false (by omega),cond_false,zrY fu hL hd,zyQ,zyQ,zuW,cond_true,zrX (by omega) (by omega) hd,zyQ];by_cases h:stN 0 L=0
 .rw [h,if_pos rfl];rfl
 .rw [if_neg h,decide_eq_true (by omega),cond_true]
def ckN (s:Nat):Nat:=(100-3*s) % 10
theorem zwk {N s:Nat}(hN:130<=N)(h:s<10):(ix dT (s:Int)).bind (λ r=>f147 N r 0)=some ((ckN s:Nat):Int):=by
 obtain⟨M,rfl⟩:∃ M,N=M+12:=⟨N-12,by omega⟩
 match s,h with
 | 0,_=>rfl
 | 1,_=>rfl
 | 2,_=>rfl
 | 3,_=>rfl
 | 4,_=>rfl
 | 5,_=>rfl
 | 6,_=>rfl
 | 7,_=>rfl
 | 8,_=>rfl
 | 9,_=>rfl
theorem zwl {N:Nat}(fu:FuM N){L:List Nat}(hL:L.length<=12)(hd:∀ d,d∈L->d<10):f118 N dT (cI L)=some (((ckN (stN 0 L):Nat):Int),0):=by
 have hN:=fu.big;unfold f118 f146;rw[zrY fu hL hd,zyQ,decide_eq_false (by simp),cond_false,zrX (by omega) (by omega) hd,zyQ,zyQ,decide_eq_false (by simp),cond_false];show (ix dT ((stN 0 L:Nat):Int)).bind (λ x2=>(f147 N x2 0).bind λ x3=>some (x3,(0:Int)))=_;rw[zdw,zwk hN (zoB L (by omega)),zyQ]
def dg4 (n:Nat):List Nat:=[n / 1000 % 10,n / 100 % 10,n / 10 % 10,n % 10]
def dg5 (n:Nat):List Nat:=dg4 n++[ckN (stN 0 (dg4 n))]
theorem zuX {n d:Nat}(h:d∈dg4 n):d<10:=by
 simp only[dg4,List.mem_cons,List.not_mem_nil,or_false] at h;omega
theorem zoC {n d:Nat}(h:d∈dg5 n):d<10:=by
 rcases List.mem_append.1 h with h|h
 .exact zuX h
 .rw [List.mem_singleton.1 h];exact Nat.mod_lt _ (by omega)
theorem zyE {N n:Nat}(fu:FuM N)(h:n<10000):f83 N dT 5 (n:Int)=some (cI (dg5 n),0):=by
 have hN:=fu.big;obtain⟨M,rfl⟩:∃ M,N=M+12:=⟨N-12,by omega⟩;have h117:f117 (M+12) 2 5 12=some true:=rfl;have hm:mkS 8 (0:Int) (W (5-1)) (W (5-1))=some [0,0,0,0]:=rfl;unfold f83;rw[fu.t116,zyQ,decide_eq_false (by simp),cond_false,h117,zyQ,Bool.not_true,cond_false,decide_eq_false (by omega),cond_false,hm,zyQ,zau];have hc:chk (decide ((dT.length:Int)≠0))=some ():=rfl
 have t:∀ m:Nat,Int.tmod (m:Int) (dT.length:Int)=((m % 10:Nat):Int):=λ m=>by rw[zrW];rfl
 have e:∀ m:Nat,m<1000000->W (Int.tdiv (m:Int) (dT.length:Int))=((m / 10:Nat):Int):=λ m hm=>by
  rw[zrW,show Int.tdiv (m:Int) ((10:Nat):Int)=((m / 10:Nat):Int) from rfl,zaE (by omega) (by omega)]
 have z4:((([0,0,0,0]:List Int).length:Nat):Int)=4:=rfl;have d0:decide ((0:Int)<4)=true:=rfl;have d1:decide ((1:Int)<4)=true:=rfl;have d2:decide ((2:Int)<4)=true:=rfl;have d3:decide ((3:Int)<4)=true:=rfl;have d4:decide ((4:Int)<4)=false:=rfl;have w1:W ((0:Int)+1)=1:=rfl;have w2:W ((1:Int)+1)=2:=rfl;have w3:W ((2:Int)+1)=3:=rfl;have w4:W ((3:Int)+1)=4:=rfl
 have step:∀ (a b c d:Int) (m:Nat) (i:Nat) (j:Int) (F:Int->List Int->Int->Option (List Int×Int)) (K:Int->List Int->Option (List Int×Int)),m<1000000->i<4->j=(i:Int) ->
   zhM F dT [0,0,0,0] K (m:Int) [a,b,c,d] j=F ((m / 10:Nat):Int) ([a,b,c,d].set (3-i) ((m % 10:Nat):Int)) ((i+1:Nat):Int):=by
  intro a b c d m i j F K hm hi hj;subst hj;unfold zhM;rw[z4,decide_eq_true (by omega),cond_true,hc,zyQ]
  have w:W (W ((([a,b,c,d]:List Int).length:Int)-1)-(i:Int))=((3-i:Nat):Int):=by
   rw[show W ((([a,b,c,d]:List Int).length:Int)-1)=3 from rfl,zaE (by omega) (by omega)];omega
  rw[w,zri (by simp;omega),zyQ,setx,if_pos ⟨by omega,by simp;omega⟩,zyQ,zyQ,t,e m hm,zcC (by omega)];rfl
 simp only[ziV];rw[step _ _ _ _ _ 0 0 _ _ (by omega) (by omega) rfl];simp only[List.set_cons_succ,List.set_cons_zero,Nat.sub_zero,Nat.reduceAdd];rw[step _ _ _ _ _ 1 _ _ _ (by omega) (by omega) rfl];simp only[List.set_cons_succ,List.set_cons_zero,Nat.reduceAdd,Nat.reduceSub];rw[step _ _ _ _ _ 2 _ _ _ (by omega) (by omega) rfl];simp only[List.set_cons_succ,List.set_cons_zero,Nat.reduceAdd,Nat.reduceSub];rw[step _ _ _ _ _ 3 _ _ _ (by omega) (by omega) rfl];simp only[List.set_cons_succ,List.set_cons_zero,Nat.reduceAdd,Nat.reduceSub];unfold zhM
 have hq:[((n / 10 / 10 / 10 % 10:Nat):Int),((n / 10 / 10 % 10:Nat):Int),((n / 10 % 10:Nat):Int),((n % 10:Nat):Int)]=cI (dg4 n):=by
  simp only[dg4,List.map_cons,List.map_nil,Nat.div_div_eq_div_mul,Nat.reduceMul]
 have h0:n / 10 / 10 / 10 / 10=0:=by omega
 rw[show decide (((4:Nat):Int)<((([0,0,0,0]:List Int).length:Nat):Int))=false from rfl,cond_false,hq,h0];unfold zga;rw[show decide ((0:Int)<((0:Nat):Int))=false from rfl,cond_false,zwl fu (by simp[dg4]) (λ d hd=>zuX hd),zyQ,zeQ (by simp[dg4]) (by simp[dg4]),zyQ];simp[dg5]
end Go.Vc
namespace Go.Vc
open Go.Proofs
abbrev Bs:=List UInt8
theorem zbH (l:Bs):(strC l).data.toList=l:=rfl
theorem zkk (s:ByteArray):strC s.data.toList=s:=rfl
def smN:Nat->Bs->Nat
 | _,[]=>0
 | i,b::l=>(i+1)*b.toNat+smN (i+1) l
def mkL (l:Bs):Bs:=(dg5 (smN 0 l % 10000)).map λ d=>UInt8.ofNat (48+d)
theorem zc0 (l:Bs):(mkL l).length=5:=by simp[mkL,dg5,dg4]
theorem zmb {d:Nat}(h:d<10):(UInt8.ofNat (48+d)).toNat=48+d:=by
 rw[UInt8.toNat_ofNat'];omega
theorem zrZ {l:Bs}{x:UInt8}(h:x∈mkL l):48<=x.toNat/\x.toNat<=57:=by
 obtain⟨d,hd,rfl⟩:=List.mem_map.1 h;have:=zoC hd;rw[zmb this];omega
theorem zi1 {y:List Int×Int}{n:Nat}{L:List Nat}(hy:y.1=cI L)(hL:L.length<=100)(hd:∀ d,d∈L->d<10){k0:List Int->Option ByteArray}:∀ (r p:List Nat) (n:Nat) (b:List Int),p++r=L->r.length<n->b.length<=100+p.length->zfR y k0 n (p.length:Int) b=k0 (b++r.map λ d=>((48+d:Nat):Int))
 | [],p,n,b,h,h1,h2=>by
  obtain⟨n,rfl⟩:∃ q,n=q+1:=⟨n-1,by omega⟩
  have:L.length=p.length:=by rw[<- h];simp
  simp only[zfR,zj4,hy,zgC];rw[ltF (by omega),cond_false];simp
 | d::r,p,n,b,h,h1,h2=>by
  obtain⟨n,rfl⟩:∃ q,n=q+1:=⟨n-1,by omega⟩
  have hl:L.length=p.length+(r.length+1):=by rw[<- h];simp
  have hd0:d<10:=hd d (by rw[<- h];simp)
  have hx:(cI L)[p.length]? = some (d:Int):=by rw[<- h];simp
  have hw:Wk .u8 (W ((48:Int)+(d:Int)))=((48+d:Nat):Int):=by
   rw[zaE (by omega) (by omega),zs4 (by simp[IntKind.min,IntKind.max,IntKind.signed,IntKind.bits];omega)];omega
  simp only[zfR,zj4,hy,zgC];rw[ltT (by omega),cond_true,zbk,hx,zyQ,hw,zeQ (by simp;omega) (by simp;omega),zyQ,zcC (by omega)];have:=zi1 (k0:=k0) (n:=n) hy hL hd r (p++[d]) n (b++[((48+d:Nat):Int)]) (by simpa using h) (by simpa using h1) (by simp;omega);rw[show ((p.length+1:Nat):Int)=(((p++[d]).length:Nat):Int) by simp,this];simp
theorem zub (L:List Nat):strB (L.map λ d=>((48+d:Nat):Int))=strC (L.map λ d=>UInt8.ofNat (48+d)):=by
 simp only[strB,strC,List.map_map]
 congr 1
theorem zr0 {N s:Nat}(fu:FuM N):zeR N (s:Int)=some (strC ((dg5 (s % 10000)).map λ d=>UInt8.ofNat (48+d))):=by
 have hN:=fu.big;have ht:Int.tmod (s:Int) 10000=((s % 10000:Nat):Int):=rfl;unfold zeR;rw[fu.t84,zyQ,ht,zyE fu (Nat.mod_lt _ (by omega)),zyQ,zau];have:=zi1 (y:=(cI (dg5 (s % 10000)),0)) (n:=N) (k0:=zep) rfl (by simp[dg5,dg4]) (λ d hd=>zoC hd) (dg5 (s % 10000)) [] N [] rfl (by simp[dg5,dg4];omega) (by simp);show zfR (cI (dg5 (s % 10000)),0) zep N ((([]:List Nat).length:Nat):Int) []=_;rw[this,List.nil_append,zep,neN,if_neg (by simp[dg5,dg4]),zyQ,zyQ,zyQ,zub]
theorem zmc {y:ByteArray}{p r:Bs}{b:UInt8}(h:y.data.toList=p++b::r):zdn y p.length=(b.toNat:Int):=by
 unfold zdn;rw[h];simp[List.getD]
theorem zbu {y:ByteArray}{l:Bs}(h:y.data.toList=l):y.size=l.length:=by
 rw[<- h,Array.length_toList];rfl
theorem zr1 {y:ByteArray}{k1:Int->Option ByteArray}(hy:y.size<=20000):∀ (r p:Bs) (n s:Nat),y.data.toList=p++r->r.length<n->s<=p.length*5200000->zj5 y k1 n (s:Int) (p.length:Int)=k1 ((s+smN p.length r:Nat):Int)
 | [],p,n,s,h,h1,h2=>by
  obtain⟨n,rfl⟩:∃ q,n=q+1:=⟨n-1,by omega⟩;have hl:=zbu h;simp only[List.append_nil] at hl;simp only[zj5,zob];rw[ltF (by omega),cond_false];rfl
 | b::r,p,n,s,h,h1,h2=>by
  obtain⟨n,rfl⟩:∃ q,n=q+1:=⟨n-1,by omega⟩;have hl:=zbu h;simp only[List.length_append,List.length_cons] at hl;have hb:b.toNat<256:=b.toNat_lt;have h3:(p.length+1)*b.toNat<=20000*255:=Nat.mul_le_mul (by omega) (by omega);have h4:p.length*5200000<=20000*5200000:=Nat.mul_le_mul_right _ (by omega);simp only[zj5,zob];rw[ltT (by omega),cond_true,idxS,if_pos ⟨by omega,by omega⟩,zyQ,Int.toNat_natCast,zmc h,zcC (by omega)]
  have e1:W (((p.length+1:Nat):Int)*(b.toNat:Int))=(((p.length+1)*b.toNat:Nat):Int):=by
   rw[<- Int.natCast_mul,W_of (by omega) (by omega)]
  rw[e1,<- Int.natCast_add,W_of (by omega) (by omega)];have:=zr1 (k1:=k1) hy r (p++[b]) n (s+(p.length+1)*b.toNat) (by simpa using h) (by simpa using h1) (by simp only[List.length_append,List.length_singleton];omega);rw[show ((p.length+1:Nat):Int)=(((p++[b]).length:Nat):Int) by simp,this];simp[smN,Nat.add_assoc]
theorem zuY {N:Nat}(fu:FuM N){y:ByteArray}(hy:y.size<=20000)(hN:y.size<N):f57 N y=some (strC (mkL y.data.toList)):=by
 have:=zr1 (k1:=zeR N) hy y.data.toList [] N 0 rfl (by rw[<- zbu rfl];exact hN) (by simp);unfold f57;rw[zau,show (0:Int)=((0:Nat):Int) from rfl,show ((0:Nat):Int)=((([]:Bs).length:Nat):Int) from rfl];rw[show zj5 y (zeR N) N ((([]:Bs).length:Nat):Int) ((([]:Bs).length:Nat):Int)=zeR N ((0+smN 0 y.data.toList:Nat):Int) from this,zr0 fu,Nat.zero_add];rfl
end Go.Vc
namespace Go.Vc
open Go.Proofs
theorem zwm {y:ByteArray}{p r:Bs}{b:UInt8}(h:y.data.toList=p++b::r):y.data[p.length]! = b:=by
 rw[<- Array.getElem!_toList,h];simp
theorem zuc {y:ByteArray}{j:Nat}(h:j<y.size):y.data[j]! ∈ y.data.toList:=by
 have h':j<y.data.size:=h;rw[getElem!_pos y.data j h'];simp
theorem zr2 {y:ByteArray}{l t:Bs}(h:y.data.toList=l++32::t)(ht:(32:UInt8) ∉ t):Lib.lastIndexByte y 32=l.length:=by
 have hsz:=zbu h;simp only[List.length_append,List.length_cons] at hsz;have hb:=zwm h
 rcases Lib.lastIdx_spec y 32 y.size with ⟨_,h2⟩|⟨i,h1,h2,h3,h4⟩
 .exact absurd (by rw[hb];rfl) (h2 l.length (by omega))
 .unfold Lib.lastIndexByte
  rw[h2]
  rcases Nat.lt_trichotomy i l.length with hi|hi|hi
  .exact absurd (by rw[hb];rfl) (h4 l.length hi (by omega))
  .rw [hi]
  .exfalso
   have hi':i<y.data.toList.length:=by rw[<- zbu rfl];exact h1
   have e:y.data[i]! = y.data.toList[i]:=by rw[<- Array.getElem!_toList,getElem!_pos y.data.toList i hi']
   have:y.data.toList[i]∈t:=by
    have h5:∃ z,z=y.data.toList[i]/\y.data.toList[i]? = some z:=⟨_,rfl,zyS hi'⟩;obtain⟨z,hz,h5⟩:=h5;rw[<- hz];rw[h,List.getElem?_append_right (by omega),List.getElem?_cons] at h5;rw[if_neg (by omega)] at h5;exact zyU h5
   rw[e] at h3;have h6:y.data.toList[i]=32:=UInt8.toNat_inj.1 (by have:(y.data.toList[i].toNat:Int)=32:=h3;show _=32;omega);rw[h6] at this;exact ht this
theorem zpP (y:ByteArray):((32:UInt8) ∉ y.data.toList/\Lib.lastIndexByte y 32 = -1) ∨ ∃ l t,y.data.toList=l++32::t/\(32:UInt8) ∉ t/\Lib.lastIndexByte y 32=l.length:=by
 by_cases hm:(32:UInt8)∈y.data.toList
 .right
  have:∀ q:Bs,32∈q->∃ l t,q=l++(32:UInt8)::t/\(32:UInt8) ∉ t:=by
   intro q
   induction q with
   | nil=>intro h;cases h
   | cons b q ih =>
    intro h;by_cases hq:(32:UInt8)∈q
    .obtain ⟨l,t,h1,h2⟩:=ih hq
     exact⟨b::l,t,by rw[h1];rfl,h2⟩
    .rcases List.mem_cons.1 h with h|h
     .exact ⟨[],q,by rw[h];rfl,hq⟩
     .exact absurd h hq
  obtain⟨l,t,h1,h2⟩:=this _ hm;exact⟨l,t,h1,h2,zr2 h1 h2⟩
 .left
  refine⟨hm, ?_⟩
  rcases Lib.lastIdx_spec y 32 y.size with ⟨h1,_⟩|⟨i,h1,h2,h3,h4⟩
  .exact h1
  .exfalso
   have:=zuc h1;have h6:y.data[i]! = 32:=UInt8.toNat_inj.1 (by have:(y.data[i]!.toNat:Int)=32:=h3;show _=32;omega);rw[h6] at this;exact hm this
theorem zkl (s:ByteArray)(a b:Nat):(zd2 s a b).data.toList=(s.data.toList.drop a).take (b-a):=by
 have:=Lib.extract_toList s a b;unfold zd2;rw[<- this];exact(Lib.toList_data _).symm
def dgB (b:UInt8):Bool:=decide (48<=b.toNat)&&decide (b.toNat<=57)
def dgV (b:UInt8):Nat:=b.toNat-48
theorem zyF {b:UInt8}(h:dgB b=true):dgV b<10:=by
 simp only[dgB,zyW,decide_eq_true_eq] at h;unfold dgV;omega
theorem zoD {y:ByteArray}{x1:Int}{k0:List Int->Option (ByteArray×Int)}{t:Bs}(ht:t.length<=100):∀ (r p:Bs) (n:Nat),p++r=t->r.length<n ->
  zl0 y x1 k0 (t.map λ b=>(b.toNat:Int)) n (cI (p.map dgV)) (p.length:Int)=if r.all dgB then k0 (cI ((p++r).map dgV)) else some (zbO,9)
 | [],p,n,h,h1=>by
  obtain⟨n,rfl⟩:∃ q,n=q+1:=⟨n-1,by omega⟩
  have:t.length=p.length:=by rw[<- h];simp
  simp only[zl0,zod,List.length_map];rw[ltF (by omega),cond_false];simp
 | b::r,p,n,h,h1=>by
  obtain⟨n,rfl⟩:∃ q,n=q+1:=⟨n-1,by omega⟩
  have hl:t.length=p.length+(r.length+1):=by rw[<- h];simp
  have hx:(t.map λ b=>(b.toNat:Int))[p.length]? = some (b.toNat:Int):=by rw[<- h];simp
  simp only[zl0,zod,List.length_map];rw[ltT (by omega),cond_true,zbk,hx,zyQ];by_cases hb:dgB b=true
  .have hb':=hb
   simp only[dgB,zyW,decide_eq_true_eq] at hb'
   have hw:Wk .u8 ((b.toNat:Int)-48)=((dgV b:Nat):Int):=by
    rw[zs4 (by simp[IntKind.min,IntKind.max,IntKind.signed,IntKind.bits];omega)];unfold dgV;omega
   rw[decide_eq_false (by omega),cond_false,decide_eq_false (by omega),cond_false,hw,zeQ (by simp;omega) (by simp;omega),zyQ,zcC (by omega)];have:=zoD (y:=y) (x1:=x1) (k0:=k0) ht r (p++[b]) n (by simpa using h) (by simpa using h1)
   have e:cI (p.map dgV)++[((dgV b:Nat):Int)]=cI ((p++[b]).map dgV):=by simp
   have e2:((p.length+1:Nat):Int)=(((p++[b]).length:Nat):Int):=by simp
   have e3:p++[b]++r=p++b::r:=by simp
   rw[e,e2,this,List.all_cons,hb,Bool.true_and,e3]
  .rw [List.all_cons,Bool.eq_false_iff.2 hb,Bool.false_and,if_neg (by simp)]
   simp only[dgB,zyW,decide_eq_true_eq] at hb;by_cases h48:(b.toNat:Int)<48
   .rw [decide_eq_true h48,cond_true]
   .rw [decide_eq_false h48,cond_false,decide_eq_true (by omega),cond_true]
def umV (l t:Bs):ByteArray×Int:=if t.all dgB then (if stN 0 (t.map dgV)=0 then (if mkL l=t then (strC l,0) else (zbO,17)) else (zbO,13)) else (zbO,9)
theorem zuZ {N:Nat}(fu:FuM N){y:ByteArray}{l t:Bs}(h:y.data.toList=l++32::t)(ht:(32:UInt8) ∉ t)(h5:t.length=5)(hy:y.size<=20000)(hN:y.size<N):f75 N y=some (umV l t):=by
 have hsz:=zbu h;simp only[List.length_append,List.length_cons] at hsz;have hb:=fu.big;obtain⟨M,rfl⟩:∃ M,N=M+1:=⟨N-1,by omega⟩
 have h100:f100 (M+1) y 32=some (l.length:Int):=by
  unfold f100;dsimp only;rw[zr2 h ht,if_pos ⟨by omega,by omega,by omega⟩]
 have hw1:W (W ((y.size:Int)-(l.length:Int))-1)=5:=by rw[zaE (n:=(y.size:Int)-(l.length:Int)) (by omega) (by omega),zaE (by omega) (by omega)];omega
 have hs8:subS y (W ((l.length:Int)+1)) (y.size:Int)=some (strC t):=by
  rw[zcC (by omega),subS,if_pos ⟨by omega,by omega,by omega⟩,Int.toNat_natCast,Int.toNat_natCast]
  congr 1
  rw[<- zkk (zd2 _ _ _),zkl,h]
  congr 1
  rw[show l++32::t=(l++[32])++t by simp,List.drop_left' (by simp),List.take_of_length_le (by omega)]
 have hs4:subS y 0 (l.length:Int)=some (strC l):=by
  rw[subS,if_pos ⟨by omega,by omega,by omega⟩,Int.toNat_natCast]
  congr 1
  rw[<- zkk (zd2 _ _ _),zkl,h];simp
 unfold f75;rw[h100,zyQ,decide_eq_false (by omega),cond_false,hw1,zi0,cond_false,zau,hs8,zyQ,zyQ];have hl:=zoD (y:=y) (x1:=(l.length:Int)) (k0:=zfd y (M+1) (l.length:Int)) (t:=t) (by omega) t [] (M+1) rfl (by omega);rw[show zd4 (strC t)=t.map λ b=>(b.toNat:Int) from rfl];refine Eq.trans hl ?_;unfold umV;by_cases hd:t.all dgB=true
 .rw [if_pos hd,if_pos hd]
  unfold zfd
  have hlt:∀ d,d∈t.map dgV->d<10:=by
   intro d hd';obtain⟨b,hb,rfl⟩:=List.mem_map.1 hd';exact zyF (List.all_eq_true.1 hd b hb)
  rw[fu.t84,zyQ,List.nil_append,zwj fu (by simp;omega) (by simp;omega) hlt,zyQ];by_cases h0:stN 0 (t.map dgV)=0
  .rw [if_pos h0,if_pos h0,zi0,cond_false,hs4,zyQ,zuY fu (by rw[zbu (zbH l)];omega) (by rw[zbu (zbH l)];omega),zyQ,hs8,zyQ,zbH]
   by_cases hm:mkL l=t
   .rw [hm,zi0,cond_false,if_pos rfl,zyQ]
   .rw [decide_eq_true (by rw[zoz];exact hm),cond_true,if_neg hm]
  .rw [if_neg h0,if_neg h0,decide_eq_true (by simp),cond_true]
 .rw [if_neg hd,if_neg hd]
theorem zyG {N:Nat}(fu:FuM N){y:ByteArray}(hy:y.size<=20000)(hN:y.size<N):∃ r,f75 N y=some r/\(r.2=0->y.data.toList=r.1.data.toList++32::mkL r.1.data.toList):=by
 have hb:=fu.big;obtain⟨M,rfl⟩:∃ M,N=M+1:=⟨N-1,by omega⟩
 rcases zpP y with ⟨_,h⟩|⟨l,t,h,ht,hx⟩
 .refine ⟨(zbO,9), ?_,λ h=>by cases h⟩
  have h100:f100 (M+1) y 32=some (-1):=by
   unfold f100;dsimp only;rw[h,if_pos ⟨by omega,by omega,by omega⟩]
  unfold f75;rw[h100,zyQ];rfl
 .by_cases h5:t.length=5
  .refine ⟨umV l t,zuZ fu h ht h5 hy hN,λ h0=>?_⟩
   unfold umV at h0 ⊢
   split at h0
   .split at h0
    .split at h0
     .rename_i h1 h2 h3
      rw[if_pos h1,if_pos h2,if_pos h3,zbH,h3];exact h
     .cases h0
    .cases h0
   .cases h0
  .have hsz:=zbu h
   simp only[List.length_append,List.length_cons] at hsz;refine⟨(zbO,9), ?_,λ h=>by cases h⟩
   have h100:f100 (M+1) y 32=some (l.length:Int):=by
    unfold f100;dsimp only;rw[hx,if_pos ⟨by omega,by omega,by omega⟩]
   have hw1:W (W ((y.size:Int)-(l.length:Int))-1)=(t.length:Int):=by rw[zaE (n:=(y.size:Int)-(l.length:Int)) (by omega) (by omega),zaE (by omega) (by omega)];omega
   unfold f75;rw[h100,zyQ,decide_eq_false (by omega),cond_false,hw1,decide_eq_true (by omega),cond_true]
theorem zu0 (l:Bs):(32:UInt8) ∉ mkL l:=λ h=>by have:=zrZ h;simp at this
theorem zr3 {d:Nat}(h:d<10):dgB (UInt8.ofNat (48+d))=true/\dgV (UInt8.ofNat (48+d))=d:=by
 have:=zmb h;simp only[dgB,dgV,this,zyW,decide_eq_true_eq];omega
theorem zwn (l:Bs):(mkL l).all dgB=true:=by
 rw[List.all_eq_true];intro x hx;obtain⟨d,hd,rfl⟩:=List.mem_map.1 hx;exact(zr3 (zoC hd)).1
theorem zwo (l:Bs):(mkL l).map dgV=dg5 (smN 0 l % 10000):=by
 unfold mkL;rw[List.map_map]
 conv=>rhs;rw[<- List.map_id (dg5 (smN 0 l % 10000))]
 exact List.map_congr_left λ d hd=>(zr3 (zoC hd)).2
theorem zr4:∀ (a b:List Nat) (s:Nat),stN s (a++b)=stN (stN s a) b
 | [],b,s=>rfl
 | d::a,b,s=>zr4 a b _
theorem zr5 (n:Nat):stN 0 (dg5 n)=0:=by
 unfold dg5;rw[zr4];have:=zoB (dg4 n) (s:=0) (by omega);show (3*stN 0 (dg4 n)+ckN (stN 0 (dg4 n))) % 10=0;unfold ckN;omega
theorem zyH {N:Nat}(fu:FuM N){y:ByteArray}{l:Bs}(h:y.data.toList=l++32::mkL l)(hy:y.size<=20000)(hN:y.size<N):f75 N y=some (strC l,0):=by
 rw[zuZ fu h (zu0 l) (zc0 l) hy hN,umV,if_pos (zwn l),zwo,if_pos (zr5 _),if_pos rfl]
end Go.Vc
namespace Go.Vc
open Go.Proofs
def cat (c:UInt8)(P:List Bs):Bs:=P.flatMap λ x=>x++[c]
theorem zc1 (c:UInt8):cat c []=[]:=rfl
theorem zaS (c:UInt8)(x:Bs)(P:List Bs):cat c (x::P)=x++c::cat c P:=by simp[cat]
theorem zr6 (c:UInt8)(P Q:List Bs):cat c (P++Q)=cat c P++cat c Q:=by simp[cat]
theorem zh7 (c:UInt8):∀ l:Bs,cat c (za7 c l)=l++[c]
 | []=>rfl
 | b::l=>by
  have ih:=zh7 c l;simp only[za7,zaR]
  split
  .rename_i h;rw[zaS,ih,beq_iff_eq.1 h];rfl
  .split
   .rename_i h;exact absurd h (zfJ c l)
   .rename_i x r h
    rw[h,zaS] at ih;rw[zaS,List.cons_append,ih];rfl
theorem zkm (c:UInt8):∀ (l x:Bs),x∈za7 c l->c ∉ x
 | [],x,h=>by simp[za7] at h;rw[h];simp
 | b::l,x,h=>by
  have ih:=zkm c l;simp only[za7,zaR] at h
  split at h
  .rcases List.mem_cons.1 h with h|h
   .rw [h];simp
   .exact ih x h
  .rename_i hb
   have hb':¬ c=b:=λ e=>hb (beq_iff_eq.2 e.symm)
   split at h
   .rename_i hs;exact absurd hs (zfJ c l)
   .rename_i y r hs
    rcases List.mem_cons.1 h with h|h
    .rw [h]
     intro hm
     rcases List.mem_cons.1 hm with hm|hm
     .exact hb' hm
     .exact ih y (by rw[hs];exact List.mem_cons_self ..) hm
    .exact ih x (by rw[hs];exact List.mem_cons_of_mem _ h)
theorem zoE {c:UInt8}:∀ {x y A B:Bs},c ∉ x->c ∉ y->x++c::A=y++c::B->x=y/\A=B
 | [],[],A,B,_,_,h=>⟨rfl,by simpa using h⟩
 | [],b::y,A,B,_,hy,h=>by
  simp only[List.nil_append,List.cons_append,List.cons.injEq] at h;exact absurd (by rw[h.1];exact List.mem_cons_self ..) hy
 | a::x,[],A,B,hx,_,h=>by
  simp only[List.nil_append,List.cons_append,List.cons.injEq] at h;exact absurd (by rw[h.1];exact List.mem_cons_self ..) hx
 | a::x,b::y,A,B,hx,hy,h=>by
  simp only[List.cons_append,List.cons.injEq] at h;obtain⟨h1,h2⟩:=zoE (λ hm=>hx (List.mem_cons_of_mem _ hm)) (λ hm=>hy (List.mem_cons_of_mem _ hm)) h.2;exact⟨by rw[h.1,h1],h2⟩
abbrev NoC (c:UInt8)(P:List Bs):Prop:=∀ x,x∈P->c ∉ x
theorem NoC.tl {c:UInt8}{x:Bs}{P:List Bs}(h:NoC c (x::P)):NoC c P:=λ y hy=>h y (List.mem_cons_of_mem _ hy)
theorem NoC.hd {c:UInt8}{x:Bs}{P:List Bs}(h:NoC c (x::P)):c ∉ x:=h x (List.mem_cons_self ..)
theorem zr7 {c:UInt8}:∀ {P Q:List Bs},NoC c P->NoC c Q->cat c P=cat c Q->P=Q
 | [],[],_,_,_=>rfl
 | [],y::Q,_,_,h=>by rw[zaS,zc1] at h;simp at h
 | x::P,[],_,_,h=>by rw[zaS,zc1] at h;simp at h
 | x::P,y::Q,hP,hQ,h=>by
  rw[zaS,zaS] at h;obtain⟨h1,h2⟩:=zoE hP.hd hQ.hd h;rw[h1,zr7 hP.tl hQ.tl h2]
theorem zud {c:UInt8}{l:Bs}{P:List Bs}(hP:NoC c P)(h:l++[c]=cat c P):za7 c l=P :=
 zr7 (zkm c l) hP (by rw[zh7,h])
theorem zkn {c:UInt8}:∀ {P Q:List Bs} {R:Bs},NoC c P->NoC c Q->cat c P++R=cat c Q->∃ Q',Q=P++Q'/\R=cat c Q'
 | [],Q,R,_,_,h=>⟨Q,rfl,by simpa [zc1] using h⟩
 | x::P,[],R,_,_,h=>by rw[zaS,zc1] at h;simp at h
 | x::P,y::Q,R,hP,hQ,h=>by
  rw[zaS,zaS,List.append_assoc,List.cons_append] at h;obtain⟨h1,h2⟩:=zoE hP.hd hQ.hd h;obtain⟨Q',h3,h4⟩:=zkn hP.tl hQ.tl h2;exact⟨Q',by rw[h1,h3];rfl,h4⟩
def hdL (n:Nat):Bs:=[116,117,115,99,104,101,32]++digs 7 n
def mkd (l:Bs):Bs:=l++32::mkL l
def pcsF (L:List Bs):List Bs:=hdL L.length::L.map mkd
def zaT (L:List Bs):Bs:=cat 10 (pcsF L)
def hdV (l:Bs):Nat:=(l.drop 7).foldl (λ a b=>a*10+(b.toNat-48)) 0
def hdB (n:Nat):Bool := !(hdL n).contains 10&&decide ((hdL n).length<=10)&&decide (hdV (hdL n)=n)
theorem zyI:((List.range 130).all hdB)=true:=by kernel_rfl
theorem zpQ {n:Nat}(h:n<=120):(10:UInt8) ∉ hdL n/\(hdL n).length<=10/\hdV (hdL n)=n:=by
 have:=List.all_eq_true.1 zyI n (List.mem_range.2 (by omega));unfold hdB at this;simp only[zyW,Bool.not_eq_true',decide_eq_true_eq] at this;refine⟨λ h=>?_,this.1.2,this.2⟩;have h2:=this.1.1;rw[List.contains_iff_mem.2 h] at h2;cases h2
theorem zyJ (l:Bs):(10:UInt8) ∉ mkL l:=λ h=>by have:=zrZ h;simp at this
theorem zu1 {l:Bs}(h:(10:UInt8) ∉ l):(10:UInt8) ∉ mkd l:=by
 intro hm
 rcases List.mem_append.1 hm with hm|hm
 .exact h hm
 .rcases List.mem_cons.1 hm with hm|hm
  .cases hm
  .exact zyJ l hm
theorem zwp {l:Bs}(h:(10:UInt8) ∉ mkd l):(10:UInt8) ∉ l:=λ hm=>h (List.mem_append_left _ hm)
theorem zh8 {L:List Bs}(h:NoC 10 L)(hl:L.length<=120):NoC 10 (pcsF L):=by
 intro x hx
 rcases List.mem_cons.1 hx with hx|hx
 .rw [hx];exact(zpQ hl).1
 .obtain ⟨l,hl,rfl⟩:=List.mem_map.1 hx
  exact zu1 (h l hl)
theorem zue {L L':List Bs}{R:Bs}(h:NoC 10 L)(hl:L.length<=120)(h':NoC 10 L')(hl':L'.length<=120)(he:zaT L'++R=zaT L):R=[]:=by
 obtain⟨Q,h1,h2⟩:=zkn (zh8 h' hl') (zh8 h hl) he
 have hh:hdL L'.length=hdL L.length:=by
  have:=congrArg (λ l=>l.head?) h1;simp[pcsF] at this;exact this.symm
 have hn:L'.length=L.length:=by rw[<- (zpQ hl').2.2,hh,(zpQ hl).2.2]
 have h3:=congrArg List.length h1;simp[pcsF] at h3;have:Q=[]:=List.eq_nil_of_length_eq_zero (by omega);rw[h2,this];rfl
theorem zr8 {L' P1:List Bs}{l T:Bs}(h1:P1≠[])(hP1:NoC 10 P1)(hl:(10:UInt8) ∉ l)(h':NoC 10 L')(hl':L'.length<=120)(he:zaT L'=cat 10 P1++(l++32::T))(hT:(10:UInt8)∈T.take 6):T.take 6=mkL l++[10]:=by
 obtain⟨Q,e1,e2⟩:=zkn hP1 (zh8 h' hl') he.symm
 obtain⟨p,P1,rfl⟩:∃ p P,P1=p::P:=by cases P1 with|nil=>exact absurd rfl h1|cons p P=>exact⟨_,_,rfl⟩
 cases Q with
 | nil=>rw[zc1] at e2;simp at e2
 | cons y Q =>
  have hy:y∈L'.map mkd:=by
   simp only[pcsF,List.cons_append,List.cons.injEq] at e1;rw[e1.2];simp
  obtain⟨l',hm,rfl⟩:=List.mem_map.1 hy;have hnl:(10:UInt8) ∉ mkd l':=zu1 (h' l' hm);rw[zaS] at e2
  -- T up to its first newline
  have:∀ (q:Bs) (n:Nat),(10:UInt8)∈q.take n->∃ s r,q=s++10::r/\(10:UInt8) ∉ s/\s.length<n:=by
   intro q
   induction q with
   | nil=>intro n h;simp at h
   | cons b q ih =>
    intro n h
    cases n with
    | zero=>simp at h
    | succ n =>
     by_cases hb:b=10
     .exact ⟨[],q,by rw[hb];rfl,by simp,by simp⟩
     .rw [List.take_succ_cons] at h
      rcases List.mem_cons.1 h with h|h
      .exact absurd h.symm hb
      .obtain ⟨s,r,q1,q2,q3⟩:=ih n h
       refine⟨b::s,r,by rw[q1];rfl,λ hm=>?_,by simp;omega⟩
       rcases List.mem_cons.1 hm with hm|hm
       .exact hb hm.symm
       .exact q2 hm
  obtain⟨s,r,s1,s2,s3⟩:=this T 6 hT;rw[s1,show l++32::(s++10::r)=(l++32::s)++10::r by simp] at e2
  have hls:(10:UInt8) ∉ l++32::s:=by
   intro hm
   rcases List.mem_append.1 hm with hm|hm
   .exact hl hm
   .rcases List.mem_cons.1 hm with hm|hm
    .cases hm
    .exact s2 hm
  obtain⟨e3,_⟩:=zoE hls hnl e2
  -- two ways to part it
  have key:∀ (a b u v:Bs),a++(32:UInt8)::u=b++32::v->u.length<=v.length->(32:UInt8) ∉ v->a=b/\u=v:=by
   intro a
   induction a with
   | nil =>
    intro b u v h hl hv
    cases b with
    | nil=>exact⟨rfl,by simpa using h⟩
    | cons c b =>
     have:=congrArg List.length h;simp at this;omega
   | cons c a ih =>
    intro b u v h hl hv
    cases b with
    | nil =>
     simp only[List.cons_append,List.nil_append,List.cons.injEq] at h;exact absurd (by rw[<- h.2];simp) hv
    | cons c' b =>
     simp only[List.cons_append,List.cons.injEq] at h;obtain⟨k1,k2⟩:=ih b u v h.2 hl hv;exact⟨by rw[h.1,k1],k2⟩
  obtain⟨k1,k2⟩:=key _ _ _ _ e3 (by rw[zc0];omega) (zu0 l');rw[s1,k2,k1,show mkL l'++10::r=(mkL l'++[10])++r by simp,List.take_left' (by simp[zc0])]
end Go.Vc

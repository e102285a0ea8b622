/-
  A library for proofs about Go functions by symbolic evaluation,and plain Lean functions that the walked Go functions compute (written by a program of this claim).
-/
import Derived.Test.YtijmkjnlgcockaaGreatDoorFFIF8
import Derived.Lib.TrimU
import Derived.Test.YtijmkjnlgcockaaGreatDoorFFIF5
import Derived.Lib.LastIndexByte
set_option linter.unusedVariables false
set_option linter.unnecessarySimpa false
set_option linter.unusedSimpArgs false
namespace Go.Vc
open Go.Proofs
theorem zi0 (s:ByteArray)(p:Nat):p<(zd0 s p).2:=by
 have:=Lib.width_pos s p;show p<p+_;omega
theorem zhP {a b:List UInt8}:strC a=strC b ↔ a=b:=by
 grind [strC]
theorem zm7 {s:ByteArray}{k0:Int->Option (Int×Bool)}(hk:∀ v,∃ r,k0 v=some r):∀ (n:Nat) (v:Int) (p:Nat),s.size-p<n->∃ r,zeS s k0 n v p=some r
 | 0,v,p,h=>by omega
 | n+1,v,p,h=>by
  have hr:=zi0 s p;have ih:=λ v=>zm7 (s:=s) hk n v (zd0 s p).2;simp only[zeS,zis,zAl,zaC,decide_eq_true_eq]
  split
  .split
   .grind
   .split
    .grind
    .exact ih _ (by omega)
  .exact hk _
theorem zsH {N:Nat}{s:ByteArray}(h:s.size<N):∃ r,f105 N s=some r:=by
 have hl:=zm7 (s:=s) (k0:=zeR) (λ v=>⟨_,rfl⟩) N 0 0 (by omega);simp only[f105,zeq,zap,zaC,decide_eq_true_eq]
 split
 .grind
 .rename_i h0
  split
  .grind
  .have h1:0<s.size:=by
    cases hs:s.size with
    | zero=>exact absurd (by cases s with|mk d=>have:d.size=0:=hs;rw[Array.size_eq_zero_iff.1 this];rfl) h0
    | succ n=>omega
   rw[idxS,if_pos ⟨by omega,by omega⟩]
   grind
theorem zpj {s:ByteArray}{k0:Option Bool}(hk:∃ r,k0=some r):∀ (n:Nat) (p:Nat),s.size-p<n->∃ r,zit s k0 n p=some r
 | 0,p,h=>by omega
 | n+1,p,h=>by
  have hr:=zi0 s p;have ih:=zpj (s:=s) hk n (zd0 s p).2;simp only[zit,zms,zAl,zaC,decide_eq_true_eq]
  grind
theorem zxc {N:Nat}{s:ByteArray}(h:s.size<N):∃ r,f107 N s=some r:=by
 obtain⟨r,hr⟩:=zpj (s:=s) (k0:=zeT s) (by unfold zeT;simp only[zaC];split <;> exact⟨_,rfl⟩) N 0 (by omega)
 grind [Bool.not,f107,f61,f88,zap]
theorem zm8 {s:ByteArray}{k0:Int->Option (TL×Bool)}{Q:TL×Bool->Prop}(hQ:Q ([],false))(hk:∀ v,∃ r,k0 v=some r/\Q r):∀ (n:Nat) (v:Int) (p:Nat),s.size-p<n->∃ r,zfF s k0 n v p=some r/\Q r
 | 0,v,p,h=>by omega
 | n+1,v,p,h=>by
  have hr:=zi0 s p;have ih:=λ v=>zm8 (s:=s) hQ hk n v (zd0 s p).2;simp only[zfF,ziJ,zAl,zaC,decide_eq_true_eq]
  repeat' split
  all_goals first|exact⟨_,rfl,hQ⟩|exact ih _ (by omega)|exact hk _
def PcOK (s:ByteArray)(r:TL×Bool):Prop:=r.2=true->r.1≠[]/\∀ x,x∈r.1->x.size<=s.size
theorem zsI {N:Nat}{s:ByteArray}(h:s.size<N)(h2:s.size<=1000000):∃ r,f104 N s=some r/\PcOK s r:=by
 refine zm8 (Q:=PcOK s) (λ h=>by cases h) (λ v=>?_) N 32 0 (by omega);obtain⟨N,rfl⟩:∃ q,N=q+1:=⟨N-1,by omega⟩
 have hs:(strC [32]).size=1:=by rw[zcc];rfl
 have h3:zdN s (N+1) v=some ((zaX ((strC [32]).data.toList.headD 0) s.data.toList).map (λ l=>(⟨l.toArray⟩:ByteArray)),decide (¬ v=32)):=by simp_all [if_pos,zAl,zdN,f73]
 refine⟨_,h3,λ _=>⟨?_,λ x hx=>?_⟩⟩
 .grind [zdl,List.map_eq_nil_iff]
 .obtain ⟨y,hy,rfl⟩:=List.mem_map.1 hx
  have:=(zfp _ _).2 _ hy;exact this
def RdOK (o:Option (I97×Int)):Prop:=∃ r,o=some r/\(r.2=0->zbt r.1)
theorem RdOK.err {n:Int}(h:n≠0):RdOK (some (I97.nil,n)):=⟨_,rfl,λ h' => absurd h' h⟩
section
variable {N:Nat} {P:TL} {q:Bool} {nm nu:Nat} {lo hi:Int}
theorem zql {e0 e1:Int}{k0:Option (I97×Int)}(hk:(0<nu->lo<=e0/\e0<=hi)->(1<nu->lo<=e1/\e1<=hi)->RdOK k0)(hnu:nu<=2):∀ (m i n:Nat),nu-i=m->m<n->(0<i->0<nu->lo<=e0/\e0<=hi)->(1<i->1<nu->lo<=e1/\e1<=hi)->RdOK (zd7 (P,q) (nu:Int) [e0,e1] lo hi k0 n (i:Int)):=by
 intro m
 induction m with
 | zero =>
  intro i n h1 h2 h3 h4;obtain⟨n,rfl⟩:∃ q,n=q+1:=⟨n-1,by omega⟩;simp only[zd7,zg9,zaC,decide_eq_true_eq,Int.toNat_natCast]
  grind
 | succ m ih =>
  intro i n h1 h2 h3 h4;obtain⟨n,rfl⟩:∃ q,n=q+1:=⟨n-1,by omega⟩;simp only[zd7,zg9,zaC,decide_eq_true_eq,Int.toNat_natCast];rw[if_pos (by omega),chkI,if_pos ⟨by omega,by omega⟩];simp only[zAl,ixN,Int.toNat_natCast]
  have hi2:i<2:=by omega
  have hW:W ((i:Int)+1)=((i+1:Nat):Int):=zbE (by omega)
  match i,hi2 with
  | 0,_ =>
   simp only[List.getElem?_cons_zero,zAl]
   split
   .exact .err (by decide)
   .split
    .exact .err (by decide)
    grind
  | 1,_ =>
   simp only[List.getElem?_cons_succ,List.getElem?_cons_zero,zAl]
   split
   .exact .err (by decide)
   .split
    .exact .err (by decide)
    grind
theorem zsJ {k2 k3:Option (I97×Int)}{b:List Int}(hk:RdOK k3){X:TL}(hX:∀ x,x∈X->x.size<N)(hl:X.length<=1000):∀ (m i n:Nat),X.length-i=m->m<n->RdOK (zav N b k2 X k3 n (i:Int)):=by
 intro m
 induction m with
 | zero =>
  intro i n h1 h2;obtain⟨n,rfl⟩:∃ q,n=q+1:=⟨n-1,by omega⟩;simp only[zav,zaP,zaC,decide_eq_true_eq]
  grind
 | succ m ih =>
  intro i n h1 h2;obtain⟨n,rfl⟩:∃ q,n=q+1:=⟨n-1,by omega⟩
  have hi:i<X.length:=by omega
  obtain⟨r,hr⟩:=zxc (N:=N) (s:=X[i]) (hX _ (List.getElem_mem hi));simp only[zav,zaP,zaC,decide_eq_true_eq];rw[if_pos (by omega),zhm hi];simp only[zAl,hr]
  split
  .rw [if_pos (by omega)];exact .err (by decide)
  .rw [zbE (by omega)];exact ih (i+1) n (by omega) (by omega)
theorem zuR {k4:List Int->Option (I97×Int)}(hk:∀ e0 e1,RdOK (k4 [e0,e1])){X:TL}(hX:∀ x,x∈X->x.size<N)(hl:X.length<=2):∀ (m i n:Nat) (e0 e1:Int),X.length-i=m->m<n->RdOK (zeY N (P,q) (nm:Int) (nu:Int) k4 X n (i:Int) [e0,e1]):=by
 intro m
 induction m with
 | zero =>
  intro i n e0 e1 h1 h2;obtain⟨n,rfl⟩:∃ q,n=q+1:=⟨n-1,by omega⟩;simp only[zeY,zh,zaC,decide_eq_true_eq]
  grind
 | succ m ih =>
  intro i n e0 e1 h1 h2;obtain⟨n,rfl⟩:∃ q,n=q+1:=⟨n-1,by omega⟩
  have hi:i<X.length:=by omega
  obtain⟨r,hr⟩:=zsH (N:=N) (s:=X[i]) (hX _ (List.getElem_mem hi));simp only[zeY,zh,zaC,decide_eq_true_eq];rw[if_pos (by omega),zhm hi];simp only[zAl,hr];rw[chkI,if_pos ⟨by omega,by omega⟩];simp only[zAl,setN,Int.toNat_natCast]
  have hi2:i<2:=by omega
  have hW:W ((i:Int)+1)=((i+1:Nat):Int):=zbE (by omega)
  match i,hi2 with
  | 0,_ =>
   simp only[List.length_cons,List.length_nil];rw[if_pos (by omega)];simp only[zAl,List.set_cons_zero]
   split
   .exact .err (by decide)
   .rw [hW];exact ih 1 n _ _ (by omega) (by omega)
  | 1,_ =>
   simp only[List.length_cons,List.length_nil];rw[if_pos (by omega)];simp only[zAl,List.set_cons_succ,List.set_cons_zero]
   split
   .exact .err (by decide)
   grind
theorem zc7 (hnm:nm<=2)(hnu:nu<=2)(hN:10<=N)(hX:∀ x,x∈P->x.size<N)
  (hsel:∀ b,zeX N (P,q) (nu:Int) b=zet N (P,q) (nu:Int) b lo hi)
  (hfin:P.length=1+nm+nu->∀ e0 e1,(0<nu->lo<=e0/\e0<=hi)->(1<nu->lo<=e1/\e1<=hi)->RdOK (f108 N P ⟨e0,e1⟩ |>.bind λ x=>some (x,0))):RdOK (zdm N (P,q) (nm:Int) (nu:Int)):=by
 have w1:W (1+(nm:Int))=((1+nm:Nat):Int):=by grind [zaK]
 have w2:W (((1+nm:Nat):Int)+(nu:Int))=((1+nm+nu:Nat):Int):=by grind [zaK]
 simp only[zdm,zap,zaC,decide_eq_true_eq,w1,w2]
 split
 .exact .err (by decide)
 .rename_i hlen
  have hlen:P.length=1+nm+nu:=by omega
  rw[zeP (by omega) (Nat.le_refl _)];simp only[zAl];refine zuR (λ e0 e1=>?_) (λ x hx=>hX x (List.mem_of_mem_take (List.mem_of_mem_drop hx))) (by simp;omega) _ 0 N 0 0 rfl (by simp;omega);simp only[zf8,zap,w1];rw[show (1:Int)=((1:Nat):Int) from rfl,zeP (by omega) (by omega)];simp only[zAl];refine zsJ ?_ (λ x hx=>hX x (List.mem_of_mem_take (List.mem_of_mem_drop hx))) (by simp;omega) _ 0 N rfl (by simp;omega);simp only[zaA,hsel,zet,zap];rw[arS,if_pos ⟨by omega,by omega⟩];simp only[zAl];refine zql (λ h1 h2=>?_) hnu _ 0 N rfl (by omega) (λ h=>by omega) (λ h=>by omega)
  grind [zeW,A2iN.of]
end
theorem ix_h {x:ByteArray}{l:TL}:ix (x::l) (0:Int)=some x:=rfl
theorem zc0 {x:ByteArray}{P:TL}{n:Nat}(h:(x::P).length=1+1+n):∃ a l,P=a::l:=by
 cases P with
 | nil=>simp at h;omega
 | cons a l=>grind
theorem zd9 {x:ByteArray}{P:TL}{n:Nat}(h:(x::P).length=1+2+n):∃ a b l,P=a::b::l:=by
 match P,h with
 | [],h=>simp at h;omega
 | [a],h=>simp at h;omega
 | a::b::l,h=>grind
abbrev RdK (k:List UInt8)(a u:Nat):Prop:=∀ {N:Nat} {P:TL} {b:Bool},10<=N->(∀ z,z∈strC k::P->z.size<N)->RdOK (zdm N (strC k::P,b) (a:Int) (u:Int))
theorem zuS:RdK [115,116,111,110,101] 1 1:=λ hN hX=>zc7 (lo:=1) (hi:=99) (by omega) (by omega) hN hX (λ b=>by kernel_rfl) λ hl e0 e1 b1 b2=>by
 obtain⟨a,l,rfl⟩:=zc0 hl;exact⟨(I97.c199 ⟨a,e0⟩,0),by kernel_rfl,λ _=>by simp only[zbt];omega⟩
theorem zqm:RdK [101,100,105,116,105,111,110] 1 0:=λ hN hX=>zc7 (lo:=1) (hi:=5000) (by omega) (by omega) hN hX (λ b=>by kernel_rfl) λ hl e0 e1 b1 b2=>by
 obtain⟨a,l,rfl⟩:=zc0 hl;exact⟨(I97.c201 ⟨a⟩,0),by kernel_rfl,λ _=>by trivial⟩
theorem zxd:RdK [100,114,97,119] 2 0:=λ hN hX=>zc7 (lo:=1) (hi:=5000) (by omega) (by omega) hN hX (λ b=>by kernel_rfl) λ hl e0 e1 b1 b2=>by
 obtain⟨a,b,l,rfl⟩:=zd9 hl;exact⟨(I97.c203 ⟨a,b⟩,0),by kernel_rfl,λ _=>by trivial⟩
theorem zuT:RdK [112,97,112,101,114] 1 1:=λ hN hX=>zc7 (lo:=1) (hi:=5000) (by omega) (by omega) hN hX (λ b=>by kernel_rfl) λ hl e0 e1 b1 b2=>by
 obtain⟨a,l,rfl⟩:=zc0 hl;exact⟨(I97.c205 ⟨a,e0⟩,0),by kernel_rfl,λ _=>by simp only[zbt];omega⟩
theorem zuU:RdK [112,114,105,110,116] 1 2:=λ hN hX=>zc7 (lo:=0) (hi:=5000) (by omega) (by omega) hN hX (λ b=>by kernel_rfl) λ hl e0 e1 b1 b2=>by
 obtain⟨a,l,rfl⟩:=zc0 hl;exact⟨(I97.c207 ⟨a,e0,e1⟩,0),by kernel_rfl,λ _=>by simp only[zbt];omega⟩
theorem zuV:RdK [99,108,111,115,101] 1 0:=λ hN hX=>zc7 (lo:=1) (hi:=5000) (by omega) (by omega) hN hX (λ b=>by kernel_rfl) λ hl e0 e1 b1 b2=>by
 obtain⟨a,l,rfl⟩:=zc0 hl;exact⟨(I97.c209 ⟨a⟩,0),by kernel_rfl,λ _=>by trivial⟩
theorem zuW:RdK [99,108,97,105,109] 2 1:=λ hN hX=>zc7 (lo:=1) (hi:=5000) (by omega) (by omega) hN hX (λ b=>by kernel_rfl) λ hl e0 e1 b1 b2=>by
 obtain⟨a,b,l,rfl⟩:=zd9 hl;exact⟨(I97.c211 ⟨a,b,e0⟩,0),by kernel_rfl,λ _=>by simp only[zbt];omega⟩
theorem zqn:RdK [100,101,108,105,118,101,114] 2 1:=λ hN hX=>zc7 (lo:=1) (hi:=5000) (by omega) (by omega) hN hX (λ b=>by kernel_rfl) λ hl e0 e1 b1 b2=>by
 obtain⟨a,b,l,rfl⟩:=zd9 hl;exact⟨(I97.c213 ⟨⟨a,b,e0⟩⟩,0),by kernel_rfl,λ _=>by simp only[zbt];omega⟩
theorem zuX:RdK [103,114,105,110,100] 1 0:=λ hN hX=>zc7 (lo:=1) (hi:=5000) (by omega) (by omega) hN hX (λ b=>by kernel_rfl) λ hl e0 e1 b1 b2=>by
 obtain⟨a,l,rfl⟩:=zc0 hl;exact⟨(I97.c215 ⟨a⟩,0),by kernel_rfl,λ _=>by trivial⟩
theorem iteP {c:Prop}[Decidable c]{a b:Option (I97×Int)}(h:c->RdOK a)(h':¬ c->RdOK b):RdOK (if c then a else b):=by
 grind
theorem zzJ {N:Nat}{y:ByteArray}(hN:60<=N):RdOK (f79 N y):=by
 unfold f79;rw[zaC];simp only[decide_eq_true_eq]
 split
 .exact .err (by decide)
 .rename_i h40
  obtain⟨⟨P,q⟩,hr,hp⟩:=zsI (N:=N) (s:=y) (by omega) (by omega);rw[hr];simp only[zAl]
  cases hq:q with
  | false=>exact .err (by decide)
  | true =>
   obtain⟨hne,hsz⟩:=hp hq;rw[Bool.not_true,cond_false]
   obtain⟨x,P',rfl⟩:∃ x P',P=x::P':=by cases P with|nil=>grind|cons x P' => grind
   have hX:∀ z,z∈x::P'->z.size<N:=λ z hz=>by grind
   have w1:W ((0:Int)+1)=((1:Nat):Int):=by grind [zaK]
   have w2:W ((0:Int)+2)=((2:Nat):Int):=by grind [zaK]
   have w3:W (((1:Nat):Int)+1)=((2:Nat):Int):=by grind
   rw[zap,ix_h,zAl];simp only[zaC,decide_eq_true_eq,w1,w2,w3];refine iteP (λ hx=>?_) (λ _=>?_)
   .grind [zuU]
   refine iteP (λ hx=>?_) (λ _=>?_)
   .grind [zuS]
   refine iteP (λ hx=>?_) (λ _=>?_)
   .grind [zuT]
   refine iteP (λ hx=>?_) (λ _=>?_)
   .grind [zqm]
   refine iteP (λ hx=>?_) (λ _=>?_)
   .grind [zuV]
   refine iteP (λ hx=>?_) (λ _=>?_)
   .grind [zuX]
   refine iteP (λ hx=>?_) (λ _=>?_)
   .grind [zuW]
   refine iteP (λ hx=>?_) (λ _=>?_)
   .grind [zqn]
   refine iteP (λ hx=>?_) (λ _=>?_)
   .grind [zxd]
   exact .err (by decide)
end Go.Vc
namespace Go.Vc
open Go.Proofs
def dT:List (List Int):=(List.range 10).map λ s=>(List.range 10).map λ d=>(((3*s+d) % 10:Nat):Int)
structure FuM (N:Nat):Prop where
 big:130<=N
 t84:f84 N=some dT
 t116:f116 N dT=some 0
theorem zsK:dT.length=10:=rfl
theorem zzK {s:Nat}(h:s<10):dT[s]? = some ((List.range 10).map λ d=>(((3*s+d) % 10:Nat):Int)):=by
 unfold dT
 grind
theorem dT_at {s d:Nat}(h:s<10)(h':d<10):(ix dT (s:Int)).bind (λ r=>ix r (d:Int))=some (((3*s+d) % 10:Nat):Int):=by
 grind [zaU,zzK,List.getElem?_range]
def stN:Nat->List Nat->Nat
 | s,[]=>s
 | s,d::l=>stN ((3*s+d) % 10) l
abbrev cI (l:List Nat):List Int:=l.map λ (d:Nat)=>(d:Int)
theorem ltT {i n:Nat}(h:i<n):decide ((i:Int)<(n:Int))=true:=decide_eq_true (by omega)
theorem ltF {i n:Nat}(h:n<=i):decide ((i:Int)<(n:Int))=false:=decide_eq_false (by omega)
theorem zhy (l:List Nat):(cI l).length=l.length:=by simp
theorem zsL:∀ (l:List Nat) {s:Nat},s<10->stN s l<10
 | [],s,h=>h
 | d::l,s,h=>zsL l (Nat.mod_lt _ (by omega))
theorem zm9 {L:List Nat}{k0:Int->Option Int}(hL:L.length<=1000)(hd:∀ d,d∈L->d<10):∀ (r p:List Nat) (n s:Nat),p++r=L->r.length<n->s<10->zbU dT (cI L) k0 n (s:Int) (p.length:Int)=k0 (stN s r:Nat)
 | [],p,n,s,h,h1,h2=>by
  obtain⟨n,rfl⟩:∃ q,n=q+1:=⟨n-1,by omega⟩
  have:L.length=p.length:=by grind
  simp only[zbU,zdA,zhy];rw[ltF (by omega),cond_false];rfl
 | d::r,p,n,s,h,h1,h2=>by
  obtain⟨n,rfl⟩:∃ q,n=q+1:=⟨n-1,by omega⟩
  have hl:L.length=p.length+(r.length+1):=by grind
  have hd0:d<10:=hd d (by rw[<- h];simp)
  have hx:(cI L)[p.length]? = some (d:Int):=by grind
  simp only[zbU,zdA,zhy];rw[ltT (by omega),cond_true,zaU,hx,zAl,zjW,dT_at h2 hd0,zAl,zbE (by omega)];have:=zm9 (k0:=k0) hL hd r (p++[d]) n ((3*s+d) % 10) (by simpa using h) (by simpa using h1) (Nat.mod_lt _ (by omega));simpa [stN] using this
theorem zsM {N:Nat}{L:List Nat}(hL:L.length<=1000)(hN:L.length<N)(hd:∀ d,d∈L->d<10):f132 N dT 0 (cI L)=some ((stN 0 L:Nat):Int):=by
 have:=zm9 (k0:=zbT dT) hL hd L [] N 0 rfl hN (by omega);simpa [f132,zap,zbT] using this
theorem zn {N:Nat}{L:List Nat}{k0:Option Int}(hL:L.length<=1000)(hd:∀ d,d∈L->d<10):∀ (r p:List Nat) (n:Nat),p++r=L->r.length<n->zaG dT (cI L) N k0 n (p.length:Int)=k0
 | [],p,n,h,h1=>by
  obtain⟨n,rfl⟩:∃ q,n=q+1:=⟨n-1,by omega⟩
  simp_all [zhy,ltF,cond_false,List.length,zaG,zbd]
 | d::r,p,n,h,h1=>by
  obtain⟨n,rfl⟩:∃ q,n=q+1:=⟨n-1,by omega⟩
  have hl:L.length=p.length+(r.length+1):=by grind
  have hd0:d<10:=hd d (by rw[<- h];simp)
  have hx:(cI L)[p.length]? = some (d:Int):=by grind
  have hw:W ((dT.length:Int)-1)=9:=by rw[zsK];rfl
  have h117:f117 N 0 (d:Int) 9=some true:=by
   unfold f117
   grind
  simp only[zaG,zbd,zhy];rw[ltT (by omega),cond_true,zaU,hx,zAl,hw,h117,zAl,Bool.not_true,cond_false,zbE (by omega)];have:=zn (N:=N) (k0:=k0) hL hd r (p++[d]) n (by simpa using h) (by simpa using h1);simpa using this
theorem zsN {N:Nat}(fu:FuM N){L:List Nat}(hL:L.length<=12)(hd:∀ d,d∈L->d<10):f158 N dT (cI L)=some 0:=by
 have hN:=fu.big;have:=zn (N:=N) (k0:=zaD dT) (by omega) hd L [] N rfl (by omega);unfold f158;rw[fu.t116,zAl,decide_eq_false (by simp),cond_false,zhy,decide_eq_false (by omega),cond_false,zap];simpa [zaD] using this
theorem zxe {N:Nat}(fu:FuM N){L:List Nat}(h2:2<=L.length)(hL:L.length<=12)(hd:∀ d,d∈L->d<10):f101 N dT (cI L)=some (if stN 0 L=0 then 0 else 13):=by
 have hN:=fu.big;unfold f101 f131;rw[fu.t116,zAl,decide_eq_false (by simp),cond_false,zhy,decide_eq_false (by omega),cond_false,zsN fu hL hd,zAl,zAl,zzI,cond_true,zsM (by omega) (by omega) hd,zAl]
 grind
def ckN (s:Nat):Nat:=(100-3*s) % 10
theorem zxf {N s:Nat}(hN:130<=N)(h:s<10):(ix dT (s:Int)).bind (λ r=>f147 N r 0)=some ((ckN s:Nat):Int):=by
 obtain⟨M,rfl⟩:∃ M,N=M+12:=⟨N-12,by omega⟩
 match s,h with
 | 0,_=>rfl
 | 1,_=>rfl
 | 2,_=>rfl
 | 3,_=>rfl
 | 4,_=>rfl
 | 5,_=>rfl
 | 6,_=>rfl
 | 7,_=>rfl
 | 8,_=>rfl
 | 9,_=>rfl
theorem zxg {N:Nat}(fu:FuM N){L:List Nat}(hL:L.length<=12)(hd:∀ d,d∈L->d<10):f118 N dT (cI L)=some (((ckN (stN 0 L):Nat):Int),0):=by
 have hN:=fu.big;unfold f118 f146;rw[zsN fu hL hd,zAl,decide_eq_false (by simp),cond_false,zsM (by omega) (by omega) hd,zAl,zAl,decide_eq_false (by simp),cond_false];show (ix dT ((stN 0 L:Nat):Int)).bind (λ x2=>(f147 N x2 0).bind λ x3=>some (x3,(0:Int)))=_;rw[zjW,zxf hN (zsL L (by omega)),zAl]
def dg4 (n:Nat):List Nat:=[n / 1000 % 10,n / 100 % 10,n / 10 % 10,n % 10]
def dg5 (n:Nat):List Nat:=dg4 n++[ckN (stN 0 (dg4 n))]
theorem zsO {n d:Nat}(h:d∈dg4 n):d<10:=by
 simp only[dg4,List.mem_cons,List.not_mem_nil,or_false] at h;omega
theorem zzL {n d:Nat}(h:d∈dg5 n):d<10:=by
 rcases List.mem_append.1 h with h|h
 .exact zsO h
 .rw [List.mem_singleton.1 h];exact Nat.mod_lt _ (by omega)
theorem zzM {N n:Nat}(fu:FuM N)(h:n<10000):f83 N dT 5 (n:Int)=some (cI (dg5 n),0):=by
 have hN:=fu.big;obtain⟨M,rfl⟩:∃ M,N=M+12:=⟨N-12,by omega⟩;have h117:f117 (M+12) 2 5 12=some true:=rfl;have hm:mkS 8 (0:Int) (W (5-1)) (W (5-1))=some [0,0,0,0]:=rfl;unfold f83;rw[fu.t116,zAl,decide_eq_false (by simp),cond_false,h117,zAl,Bool.not_true,cond_false,decide_eq_false (by omega),cond_false,hm,zAl,zap];have hc:chk (decide ((dT.length:Int)≠0))=some ():=rfl
 have t:∀ m:Nat,Int.tmod (m:Int) (dT.length:Int)=((m % 10:Nat):Int):=λ m=>by rw[zsK];rfl
 have e:∀ m:Nat,m<1000000->W (Int.tdiv (m:Int) (dT.length:Int))=((m / 10:Nat):Int):=λ m hm=>by
  grind [zsK,zaK]
 have z4:((([0,0,0,0]:List Int).length:Nat):Int)=4:=rfl;have d0:decide ((0:Int)<4)=true:=rfl;have d1:decide ((1:Int)<4)=true:=rfl;have d2:decide ((2:Int)<4)=true:=rfl;have d3:decide ((3:Int)<4)=true:=rfl;have d4:decide ((4:Int)<4)=false:=rfl;have w1:W ((0:Int)+1)=1:=rfl;have w2:W ((1:Int)+1)=2:=rfl;have w3:W ((2:Int)+1)=3:=rfl;have w4:W ((3:Int)+1)=4:=rfl
 have step:∀ (a b c d:Int) (m:Nat) (i:Nat) (j:Int) (F:Int->List Int->Int->Option (List Int×Int)) (K:Int->List Int->Option (List Int×Int)),m<1000000->i<4->j=(i:Int) ->
   ziU F dT [0,0,0,0] K (m:Int) [a,b,c,d] j=F ((m / 10:Nat):Int) ([a,b,c,d].set (3-i) ((m % 10:Nat):Int)) ((i+1:Nat):Int):=by
  intro a b c d m i j F K hm hi hj;subst hj;unfold ziU;rw[z4,decide_eq_true (by omega),cond_true,hc,zAl]
  have w:W (W ((([a,b,c,d]:List Int).length:Int)-1)-(i:Int))=((3-i:Nat):Int):=by
   rw[show W ((([a,b,c,d]:List Int).length:Int)-1)=3 from rfl,zaK (by omega) (by omega)];omega
  rw[w,zhm (by simp;omega),zAl,setx,if_pos ⟨by omega,by simp;omega⟩,zAl,zAl,t,e m hm,zbE (by omega)];rfl
 simp only[zjT];rw[step _ _ _ _ _ 0 0 _ _ (by omega) (by omega) rfl];simp only[List.set_cons_succ,List.set_cons_zero,Nat.sub_zero,Nat.reduceAdd];rw[step _ _ _ _ _ 1 _ _ _ (by omega) (by omega) rfl];simp only[List.set_cons_succ,List.set_cons_zero,Nat.reduceAdd,Nat.reduceSub];rw[step _ _ _ _ _ 2 _ _ _ (by omega) (by omega) rfl];simp only[List.set_cons_succ,List.set_cons_zero,Nat.reduceAdd,Nat.reduceSub];rw[step _ _ _ _ _ 3 _ _ _ (by omega) (by omega) rfl];simp only[List.set_cons_succ,List.set_cons_zero,Nat.reduceAdd,Nat.reduceSub];unfold ziU
 have hq:[((n / 10 / 10 / 10 % 10:Nat):Int),((n / 10 / 10 % 10:Nat):Int),((n / 10 % 10:Nat):Int),((n % 10:Nat):Int)]=cI (dg4 n):=by
  simp only[dg4,List.map_cons,List.map_nil,Nat.div_div_eq_div_mul,Nat.reduceMul]
 have h0:n / 10 / 10 / 10 / 10=0:=by omega
 rw[show decide (((4:Nat):Int)<((([0,0,0,0]:List Int).length:Nat):Int))=false from rfl,cond_false,hq,h0];unfold zha;rw[show decide ((0:Int)<((0:Nat):Int))=false from rfl,cond_false,zxg fu (by simp[dg4]) (λ d hd=>zsO hd),zAl,zcp (by simp[dg4]) (by simp[dg4]),zAl];simp[dg5]
end Go.Vc
namespace Go.Vc
open Go.Proofs
abbrev Bs:=List UInt8
theorem zcD (l:Bs):(strC l).data.toList=l:=rfl
theorem zi1 (s:ByteArray):strC s.data.toList=s:=rfl
def smN:Nat->Bs->Nat
 | _,[]=>0
 | i,b::l=>(i+1)*b.toNat+smN (i+1) l
def mkL (l:Bs):Bs:=(dg5 (smN 0 l % 10000)).map λ d=>UInt8.ofNat (48+d)
theorem zdW (l:Bs):(mkL l).length=5:=by simp[mkL,dg5,dg4]
theorem zna {d:Nat}(h:d<10):(UInt8.ofNat (48+d)).toNat=48+d:=by
 rw[UInt8.toNat_ofNat'];omega
theorem zjX {y:List Int×Int}{n:Nat}{L:List Nat}(hy:y.1=cI L)(hL:L.length<=100)(hd:∀ d,d∈L->d<10){k0:List Int->Option ByteArray}:∀ (r p:List Nat) (n:Nat) (b:List Int),p++r=L->r.length<n->b.length<=100+p.length->zgL y k0 n (p.length:Int) b=k0 (b++r.map λ d=>((48+d:Nat):Int))
 | [],p,n,b,h,h1,h2=>by
  obtain⟨n,rfl⟩:∃ q,n=q+1:=⟨n-1,by omega⟩
  simp_all [zhy,ltF,cond_false,List.length,zgL,zlc]
 | d::r,p,n,b,h,h1,h2=>by
  obtain⟨n,rfl⟩:∃ q,n=q+1:=⟨n-1,by omega⟩
  have hl:L.length=p.length+(r.length+1):=by grind
  have hd0:d<10:=hd d (by rw[<- h];simp)
  have hx:(cI L)[p.length]? = some (d:Int):=by grind
  have hw:Wk .u8 (W ((48:Int)+(d:Int)))=((48+d:Nat):Int):=by grind [zaK,zq,Go.IntKind.min,Go.IntKind.max,Go.IntKind.signed,Go.IntKind.bits]
  simp only[zgL,zlc,hy,zhy];rw[ltT (by omega),cond_true,zaU,hx,zAl,hw,zcp (by simp;omega) (by simp;omega),zAl,zbE (by omega)];have:=zjX (k0:=k0) (n:=n) hy hL hd r (p++[d]) n (b++[((48+d:Nat):Int)]) (by simpa using h) (by simpa using h1) (by simp;omega)
  grind
theorem zuY (L:List Nat):strB (L.map λ d=>((48+d:Nat):Int))=strC (L.map λ d=>UInt8.ofNat (48+d)):=by
 simp only[strB,strC,List.map_map]
 congr 1
theorem zsP {N s:Nat}(fu:FuM N):zfH N (s:Int)=some (strC ((dg5 (s % 10000)).map λ d=>UInt8.ofNat (48+d))):=by
 have hN:=fu.big;have ht:Int.tmod (s:Int) 10000=((s % 10000:Nat):Int):=rfl;unfold zfH;rw[fu.t84,zAl,ht,zzM fu (Nat.mod_lt _ (by omega)),zAl,zap];have:=zjX (y:=(cI (dg5 (s % 10000)),0)) (n:=N) (k0:=ze0) rfl (by simp[dg5,dg4]) (λ d hd=>zzL hd) (dg5 (s % 10000)) [] N [] rfl (by simp[dg5,dg4];omega) (by simp);show zgL (cI (dg5 (s % 10000)),0) ze0 N ((([]:List Nat).length:Nat):Int) []=_;rw[this,List.nil_append,ze0,neN,if_neg (by simp[dg5,dg4]),zAl,zAl,zAl,zuY]
theorem zbo {y:ByteArray}{p r:Bs}{b:UInt8}(h:y.data.toList=p++b::r):zdc y p.length=(b.toNat:Int):=by
 grind [zdc,List.getD]
theorem zaE {y:ByteArray}{l:Bs}(h:y.data.toList=l):y.size=l.length:=by
 rw[<- h,Array.length_toList];rfl
theorem zok {y:ByteArray}{k1:Int->Option ByteArray}(hy:y.size<=20000):∀ (r p:Bs) (n s:Nat),y.data.toList=p++r->r.length<n->s<=p.length*5200000->zhB y k1 n (s:Int) (p.length:Int)=k1 ((s+smN p.length r:Nat):Int)
 | [],p,n,s,h,h1,h2=>by
  obtain⟨n,rfl⟩:∃ q,n=q+1:=⟨n-1,by omega⟩;have hl:=zaE h;simp only[List.append_nil] at hl;simp only[zhB,zmZ];rw[ltF (by omega),cond_false];rfl
 | b::r,p,n,s,h,h1,h2=>by
  obtain⟨n,rfl⟩:∃ q,n=q+1:=⟨n-1,by omega⟩;have hl:=zaE h;simp only[List.length_append,List.length_cons] at hl;have hb:b.toNat<256:=b.toNat_lt;have h3:(p.length+1)*b.toNat<=20000*255:=Nat.mul_le_mul (by omega) (by omega);have h4:p.length*5200000<=20000*5200000:=Nat.mul_le_mul_right _ (by omega);simp only[zhB,zmZ];rw[ltT (by omega),cond_true,idxS,if_pos ⟨by omega,by omega⟩,zAl,Int.toNat_natCast,zbo h,zbE (by omega)]
  have e1:W (((p.length+1:Nat):Int)*(b.toNat:Int))=(((p.length+1)*b.toNat:Nat):Int):=by grind [Int.natCast_mul,W_of]
  rw[e1,<- Int.natCast_add,W_of (by omega) (by omega)];have:=zok (k1:=k1) hy r (p++[b]) n (s+(p.length+1)*b.toNat) (by simpa using h) (by simpa using h1) (by grind)
  grind [Nat.add_assoc,List.length,smN]
theorem zv5 {N:Nat}(fu:FuM N){y:ByteArray}(hy:y.size<=20000)(hN:y.size<N):f57 N y=some (strC (mkL y.data.toList)):=by
 have:=zok (k1:=zfH N) hy y.data.toList [] N 0 rfl (by simp_all) (by simp);unfold f57;rw[zap,show (0:Int)=((0:Nat):Int) from rfl,show ((0:Nat):Int)=((([]:Bs).length:Nat):Int) from rfl];rw[show zhB y (zfH N) N ((([]:Bs).length:Nat):Int) ((([]:Bs).length:Nat):Int)=zfH N ((0+smN 0 y.data.toList:Nat):Int) from this,zsP fu,Nat.zero_add];rfl
end Go.Vc
namespace Go.Vc
open Go.Proofs
theorem zxh {y:ByteArray}{p r:Bs}{b:UInt8}(h:y.data.toList=p++b::r):y.data[p.length]! = b:=by
 rw[<- Array.getElem!_toList,h];simp
theorem zuZ {y:ByteArray}{j:Nat}(h:j<y.size):y.data[j]! ∈ y.data.toList:=by
 have h':j<y.data.size:=h;rw[getElem!_pos y.data j h'];simp
theorem zsQ {y:ByteArray}{l t:Bs}(h:y.data.toList=l++32::t)(ht:(32:UInt8) ∉ t):Lib.lastIndexByte y 32=l.length:=by
 have hsz:=zaE h;simp only[List.length_append,List.length_cons] at hsz;have hb:=zxh h
 rcases Lib.lastIdx_spec y 32 y.size with ⟨_,h2⟩|⟨i,h1,h2,h3,h4⟩
 .exact absurd (by rw[hb];rfl) (h2 l.length (by omega))
 .unfold Lib.lastIndexByte
  rw[h2]
  rcases Nat.lt_trichotomy i l.length with hi|hi|hi
  .exact absurd (by rw[hb];rfl) (h4 l.length hi (by omega))
  .rw [hi]
  .exfalso
   have hi':i<y.data.toList.length:=by rw[<- zaE rfl];exact h1
   have e:y.data[i]! = y.data.toList[i]:=by rw[<- Array.getElem!_toList,getElem!_pos y.data.toList i hi']
   have:y.data.toList[i]∈t:=by
    have h5:∃ z,z=y.data.toList[i]/\y.data.toList[i]? = some z:=⟨_,rfl,zAn hi'⟩;obtain⟨z,hz,h5⟩:=h5;rw[<- hz];rw[h,List.getElem?_append_right (by omega),List.getElem?_cons] at h5;rw[if_neg (by omega)] at h5;exact zAp h5
   rw[e] at h3;have h6:y.data.toList[i]=32:=UInt8.toNat_inj.1 (by have:(y.data.toList[i].toNat:Int)=32:=h3;show _=32;omega);rw[h6] at this;exact ht this
theorem zjY (y:ByteArray):((32:UInt8) ∉ y.data.toList/\Lib.lastIndexByte y 32 = -1) ∨ ∃ l t,y.data.toList=l++32::t/\(32:UInt8) ∉ t/\Lib.lastIndexByte y 32=l.length:=by
 by_cases hm:(32:UInt8)∈y.data.toList
 .right
  have:∀ q:Bs,32∈q->∃ l t,q=l++(32:UInt8)::t/\(32:UInt8) ∉ t:=by
   intro q
   induction q with
   | nil=>intro h;cases h
   | cons b q ih =>
    intro h;by_cases hq:(32:UInt8)∈q
    .obtain ⟨l,t,h1,h2⟩:=ih hq
     exact⟨b::l,t,by rw[h1];rfl,h2⟩
    .rcases List.mem_cons.1 h with h|h
     .exact ⟨[],q,by rw[h];rfl,hq⟩
     .exact absurd h hq
  obtain⟨l,t,h1,h2⟩:=this _ hm;exact⟨l,t,h1,h2,zsQ h1 h2⟩
 .left
  refine⟨hm, ?_⟩
  rcases Lib.lastIdx_spec y 32 y.size with ⟨h1,_⟩|⟨i,h1,h2,h3,h4⟩
  .exact h1
  .exfalso
   have:=zuZ h1;have h6:y.data[i]! = 32:=UInt8.toNat_inj.1 (by have:(y.data[i]!.toNat:Int)=32:=h3;show _=32;omega);rw[h6] at this;exact hm this
theorem zlm (s:ByteArray)(a b:Nat):(zeC s a b).data.toList=(s.data.toList.drop a).take (b-a):=by
 have:=Lib.extract_toList s a b;unfold zeC;rw[<- this];exact(Lib.toList_data _).symm
def dgB (b:UInt8):Bool:=decide (48<=b.toNat)&&decide (b.toNat<=57)
def dgV (b:UInt8):Nat:=b.toNat-48
theorem zsR {b:UInt8}(h:dgB b=true):dgV b<10:=by
 simp only[dgB,zAr,decide_eq_true_eq] at h;unfold dgV;omega
theorem zpk {y:ByteArray}{x1:Int}{k0:List Int->Option (ByteArray×Int)}{t:Bs}(ht:t.length<=100):∀ (r p:Bs) (n:Nat),p++r=t->r.length<n ->
  zm1 y x1 k0 (t.map λ b=>(b.toNat:Int)) n (cI (p.map dgV)) (p.length:Int)=if r.all dgB then k0 (cI ((p++r).map dgV)) else some (zaz,9)
 | [],p,n,h,h1=>by
  obtain⟨n,rfl⟩:∃ q,n=q+1:=⟨n-1,by omega⟩
  have:t.length=p.length:=by rw[<- h];simp
  simp only[zm1,zph,List.length_map];rw[ltF (by omega),cond_false];simp
 | b::r,p,n,h,h1=>by
  obtain⟨n,rfl⟩:∃ q,n=q+1:=⟨n-1,by omega⟩
  have hl:t.length=p.length+(r.length+1):=by rw[<- h];simp
  have hx:(t.map λ b=>(b.toNat:Int))[p.length]? = some (b.toNat:Int):=by rw[<- h];simp
  simp only[zm1,zph,List.length_map];rw[ltT (by omega),cond_true,zaU,hx,zAl];by_cases hb:dgB b=true
  .have hb':=hb
   simp only[dgB,zAr,decide_eq_true_eq] at hb'
   have hw:Wk .u8 ((b.toNat:Int)-48)=((dgV b:Nat):Int):=by
    rw[zq (by simp[IntKind.min,IntKind.max,IntKind.signed,IntKind.bits];omega)];unfold dgV;omega
   rw[decide_eq_false (by omega),cond_false,decide_eq_false (by omega),cond_false,hw,zcp (by simp;omega) (by simp;omega),zAl,zbE (by omega)];have:=zpk (y:=y) (x1:=x1) (k0:=k0) ht r (p++[b]) n (by simpa using h) (by simpa using h1)
   have e:cI (p.map dgV)++[((dgV b:Nat):Int)]=cI ((p++[b]).map dgV):=by simp
   have e2:((p.length+1:Nat):Int)=(((p++[b]).length:Nat):Int):=by simp
   have e3:p++[b]++r=p++b::r:=by simp
   rw[e,e2,this,List.all_cons,hb,Bool.true_and,e3]
  .rw [List.all_cons,Bool.eq_false_iff.2 hb,Bool.false_and,if_neg (by simp)]
   simp only[dgB,zAr,decide_eq_true_eq] at hb;by_cases h48:(b.toNat:Int)<48
   .rw [decide_eq_true h48,cond_true]
   .rw [decide_eq_false h48,cond_false,decide_eq_true (by omega),cond_true]
def umV (l t:Bs):ByteArray×Int:=if t.all dgB then (if stN 0 (t.map dgV)=0 then (if mkL l=t then (strC l,0) else (zaz,17)) else (zaz,13)) else (zaz,9)
theorem zv6 {N:Nat}(fu:FuM N){y:ByteArray}{l t:Bs}(h:y.data.toList=l++32::t)(ht:(32:UInt8) ∉ t)(h5:t.length=5)(hy:y.size<=20000)(hN:y.size<N):f75 N y=some (umV l t):=by
 have hsz:=zaE h;simp only[List.length_append,List.length_cons] at hsz;have hb:=fu.big;obtain⟨M,rfl⟩:∃ M,N=M+1:=⟨N-1,by omega⟩
 have h100:f100 (M+1) y 32=some (l.length:Int):=by
  unfold f100;dsimp only;rw[zsQ h ht,if_pos ⟨by omega,by omega,by omega⟩]
 have hw1:W (W ((y.size:Int)-(l.length:Int))-1)=5:=by rw[zaK (n:=(y.size:Int)-(l.length:Int)) (by omega) (by omega),zaK (by omega) (by omega)];omega
 have hs8:subS y (W ((l.length:Int)+1)) (y.size:Int)=some (strC t):=by
  rw[zbE (by omega),subS,if_pos ⟨by omega,by omega,by omega⟩,Int.toNat_natCast,Int.toNat_natCast]
  congr 1
  rw[<- zi1 (zeC _ _ _),zlm,h]
  congr 1
  rw[show l++32::t=(l++[32])++t by simp,List.drop_left' (by simp),List.take_of_length_le (by omega)]
 have hs4:subS y 0 (l.length:Int)=some (strC l):=by
  rw[subS,if_pos ⟨by omega,by omega,by omega⟩,Int.toNat_natCast]
  congr 1
  rw[<- zi1 (zeC _ _ _),zlm,h];simp
 unfold f75;rw[h100,zAl,decide_eq_false (by omega),cond_false,hw1,zdp,cond_false,zap,hs8,zAl,zAl];have hl:=zpk (y:=y) (x1:=(l.length:Int)) (k0:=zg y (M+1) (l.length:Int)) (t:=t) (by omega) t [] (M+1) rfl (by omega);rw[show zgw (strC t)=t.map λ b=>(b.toNat:Int) from rfl];refine Eq.trans hl ?_;unfold umV;by_cases hd:t.all dgB=true
 .rw [if_pos hd,if_pos hd]
  unfold zg
  have hlt:∀ d,d∈t.map dgV->d<10:=by
   intro d hd';obtain⟨b,hb,rfl⟩:=List.mem_map.1 hd';exact zsR (List.all_eq_true.1 hd b hb)
  rw[fu.t84,zAl,List.nil_append,zxe fu (by simp;omega) (by simp;omega) hlt,zAl];by_cases h0:stN 0 (t.map dgV)=0
  .rw [if_pos h0,if_pos h0,zdp,cond_false,hs4,zAl,zv5 fu (by rw[zaE (zcD l)];omega) (by rw[zaE (zcD l)];omega),zAl,hs8,zAl,zcD]
   by_cases hm:mkL l=t
   .rw [hm,zdp,cond_false,if_pos rfl,zAl]
   .rw [decide_eq_true (by rw[zhP];exact hm),cond_true,if_neg hm]
  .rw [if_neg h0,if_neg h0,decide_eq_true (by simp),cond_true]
 .rw [if_neg hd,if_neg hd]
theorem zzN {N:Nat}(fu:FuM N){y:ByteArray}(hy:y.size<=20000)(hN:y.size<N):∃ r,f75 N y=some r/\(r.2=0->y.data.toList=r.1.data.toList++32::mkL r.1.data.toList):=by
 have hb:=fu.big;obtain⟨M,rfl⟩:∃ M,N=M+1:=⟨N-1,by omega⟩
 rcases zjY y with ⟨_,h⟩|⟨l,t,h,ht,hx⟩
 .refine ⟨(zaz,9), ?_,λ h=>by cases h⟩
  have h100:f100 (M+1) y 32=some (-1):=by
   unfold f100;dsimp only;rw[h,if_pos ⟨by omega,by omega,by omega⟩]
  unfold f75;rw[h100,zAl];rfl
 .by_cases h5:t.length=5
  .refine ⟨umV l t,zv6 fu h ht h5 hy hN,λ h0=>?_⟩
   unfold umV at h0 ⊢
   split at h0
   .split at h0
    .split at h0
     .rename_i h1 h2 h3
      rw[if_pos h1,if_pos h2,if_pos h3,zcD,h3];exact h
     .cases h0
    .cases h0
   .cases h0
  .have hsz:=zaE h
   simp only[List.length_append,List.length_cons] at hsz;refine⟨(zaz,9), ?_,λ h=>by cases h⟩
   have h100:f100 (M+1) y 32=some (l.length:Int):=by
    unfold f100;dsimp only;rw[hx,if_pos ⟨by omega,by omega,by omega⟩]
   have hw1:W (W ((y.size:Int)-(l.length:Int))-1)=(t.length:Int):=by rw[zaK (n:=(y.size:Int)-(l.length:Int)) (by omega) (by omega),zaK (by omega) (by omega)];omega
   unfold f75;rw[h100,zAl,decide_eq_false (by omega),cond_false,hw1,decide_eq_true (by omega),cond_true]
end Go.Vc
namespace Go.Vc
open Go.Proofs
theorem zxi {s:ByteArray}{p r:Bs}{b:UInt8}(h:s.data.toList=p++b::r):s.get! p.length=b:=by
 have h1:s.data[p.length]? = some b:=by rw[<- Array.getElem?_toList,h];simp
 show s.data[p.length]! = b
 grind
theorem zsS (n b0 b1 b2 b3:Nat)(h:128<=b0):128<=(Lib.decodeN n b0 b1 b2 b3).1:=by
 unfold Lib.decodeN;rw[if_neg (by omega)]
 repeat' split
 all_goals (simp only;omega)
theorem zol {s:ByteArray}{p r:Bs}{b:UInt8}(h:s.data.toList=p++b::r):(b.toNat<128/\zd0 s p.length=((b.toNat:Int),p.length+1))∨(128<=b.toNat/\128<=(zd0 s p.length).1):=by
 unfold zd0;rw[Lib.decode_at,zxi h];by_cases hb:b.toNat<128
 .rw [show ∀ n x y z,Lib.decodeN n b.toNat x y z=(b.toNat,1) from λ n x y z=>by simp[Lib.decodeN,hb]]
  exact .inl ⟨hb,rfl⟩
 .have:=zsS (s.size-p.length) b.toNat (s.get! (p.length+1)).toNat (s.get! (p.length+2)).toNat (s.get! (p.length+3)).toNat (by omega)
  exact .inr ⟨by omega,by dsimp only;omega⟩
def az (b:UInt8):Bool:=Nat.ble 97 b.toNat&&Nat.ble b.toNat 122
theorem znb {b:UInt8}:az b=true ↔ 97<=b.toNat/\b.toNat<=122:=by simp[az]
theorem zv7 {s:ByteArray}{k0:Option Bool}:∀ (r p:Bs) (n:Nat),s.data.toList=p++r->r.length<n->zit s k0 n p.length=if r.all az=true then k0 else some false
 | [],p,n,h,h1=>by
  obtain⟨n,rfl⟩:∃ q,n=q+1:=⟨n-1,by omega⟩
  have hs:s.size=p.length:=by rw[zaE h];simp
  simp_all [decide_eq_false,cond_false,zit,zms]
 | b::r,p,n,h,h1=>by
  obtain⟨n,rfl⟩:∃ q,n=q+1:=⟨n-1,by omega⟩
  have hs:s.size=p.length+(r.length+1):=by rw[zaE h];simp
  have ih:=zv7 (s:=s) (k0:=k0) r (p++[b]) n (by simpa using h) (by simpa using h1);simp only[zit,zms,zAl];rw[decide_eq_true (by omega),cond_true];simp only[List.length_append,List.length_singleton] at ih
  rcases zol h with ⟨h2,h3⟩|⟨h2,h3⟩
  .rw [h3]
   dsimp only;by_cases ha:az b=true
   .have:=znb.1 ha
    rw[decide_eq_false (by omega),cond_false,decide_eq_false (by omega),cond_false,ih,List.all_cons,ha,Bool.true_and]
   .have h4:¬ (97<=b.toNat/\b.toNat<=122):=λ h=>ha (znb.2 h)
    rw[List.all_cons,Bool.eq_false_iff.2 ha,Bool.false_and,if_neg (by simp)];simp only[zaC,decide_eq_true_eq]
    split
    .rfl
    .rw [if_pos (by omega)]
  .have h4:¬ az b=true:=λ h=>by have:=znb.1 h;omega
   rw[List.all_cons,Bool.eq_false_iff.2 h4,Bool.false_and,if_neg (by simp)];simp only[zaC,decide_eq_true_eq];rw[if_neg (by omega),if_pos (by omega)]
theorem zv8 {s:ByteArray}{k0:Option Bool}(hs0:s.size<=1000000):∀ (r p:Bs) (n:Nat),s.data.toList=p++r->r.length<n->zkS s k0 n (p.length:Int)=if r.all az=true then k0 else some false
 | [],p,n,h,h1=>by
  obtain⟨n,rfl⟩:∃ q,n=q+1:=⟨n-1,by omega⟩
  have hs:s.size=p.length:=by rw[zaE h];simp
  simp_all [ltF,cond_false,zkS,zpd]
 | b::r,p,n,h,h1=>by
  obtain⟨n,rfl⟩:∃ q,n=q+1:=⟨n-1,by omega⟩
  have hs:s.size=p.length+(r.length+1):=by rw[zaE h];simp
  have ih:=zv8 (s:=s) (k0:=k0) hs0 r (p++[b]) n (by simpa using h) (by simpa using h1);simp only[zkS,zpd];rw[ltT (by omega),cond_true,idxS,if_pos ⟨by omega,by omega⟩,zAl,Int.toNat_natCast,zbo h,zbE (by omega)];simp only[List.length_append,List.length_singleton] at ih;by_cases ha:az b=true
  .have:=znb.1 ha
   rw[decide_eq_false (by omega),cond_false,zAl,decide_eq_false (by omega),cond_false,ih,List.all_cons,ha,Bool.true_and]
  .have h4:¬ (97<=b.toNat/\b.toNat<=122):=λ h=>ha (znb.2 h)
   rw[List.all_cons,Bool.eq_false_iff.2 ha,Bool.false_and,if_neg (by simp)];simp only[zaC,decide_eq_true_eq,zAl]
   split
   .rfl
   .rw [if_pos (by omega)]
def zjn (s:ByteArray):Bool:=decide (1<=s.size/\s.size<=9)&&s.data.toList.all az
theorem zgR {s:ByteArray}:s=zaz ↔ s.size=0:=by
 constructor
 .rintro rfl;rfl
 .intro h
  cases s with|mk d=>have:d.size=0:=h;rw[Array.size_eq_zero_iff.1 this];rfl
theorem zzO {N:Nat}{s:ByteArray}(h:s.size<N):f61 N s=some (zjn s):=by
 have hl:=zv7 (s:=s) (k0:=zeT s) s.data.toList [] N rfl (by simp_all);simp only[f61,f88,zap,Option.bind_eq_bind];rw[show zit s (zeT s) N 0=_ from hl];unfold zjn zeT;by_cases ha:s.data.toList.all az=true
 .rw [if_pos ha,ha,Bool.and_true]
  by_cases h0:s=zaz
  .have:=zgR.1 h0
   grind
  .have:s.size≠0:=λ h=>h0 (zgR.2 h)
   rw[decide_eq_true h0,cond_true,zAl]
   congr 1
   grind
 grind
theorem zsT {N:Nat}{a b c:Int}:f124 N a b c=some (decide (b<=a/\a<=c)):=by
 unfold f124
 grind
theorem zzP {N:Nat}{a b c:Int}:f71 N a b c=some (decide (b<=a/\a<=c)):=by
 unfold f71 f96
 grind
theorem zzQ {N:Nat}{s:ByteArray}(h:s.size<N):f89 N s=some (zjn s):=by
 unfold f89;rw[zsT,zAl];unfold zjn;by_cases h2:1<=s.size/\s.size<=9
 .have hl:=zv8 (s:=s) (k0:=zhr) (by omega) s.data.toList [] N rfl (by simp_all)
  rw[decide_eq_true (by omega),decide_eq_true h2,Bool.not_true,cond_false,zap,Bool.true_and]
  grind [zkS,zhr,az]
 grind
def dgs:Bs->Int->Option Int
 | [],v=>some v
 | b::r,v=>if 48<=b.toNat/\b.toNat<=57 then dgs r (W (W ((10:Int)*v)+((b.toNat:Int)-48))) else none
theorem zpl {s:ByteArray}{k0:Int->Option (Int×Bool)}:∀ (r p:Bs) (n:Nat) (v:Int),s.data.toList=p++r->r.length<n->zeS s k0 n v p.length=match dgs r v with|none=>some (0,false)|some q=>k0 q
 | [],p,n,v,h,h1=>by
  obtain⟨n,rfl⟩:∃ q,n=q+1:=⟨n-1,by omega⟩
  have hs:s.size=p.length:=by rw[zaE h];simp
  simp only[zeS,zis];rw[decide_eq_false (by omega),cond_false];rfl
 | b::r,p,n,v,h,h1=>by
  obtain⟨n,rfl⟩:∃ q,n=q+1:=⟨n-1,by omega⟩
  have hs:s.size=p.length+(r.length+1):=by rw[zaE h];simp
  have ih:=λ v=>zpl (s:=s) (k0:=k0) r (p++[b]) n v (by simpa using h) (by simpa using h1);simp only[zeS,zis,zAl];rw[decide_eq_true (by omega),cond_true];simp only[List.length_append,List.length_singleton] at ih;unfold dgs
  rcases zol h with ⟨h2,h3⟩|⟨h2,h3⟩
  .rw [h3]
   dsimp only;by_cases hd:48<=b.toNat/\b.toNat<=57
   .rw [decide_eq_false (by omega),cond_false,decide_eq_false (by omega),cond_false,if_pos hd,zq (by simp[IntKind.min,IntKind.max,IntKind.signed,IntKind.bits];omega),ih]
   grind
  grind
theorem zpm {s:ByteArray}{k0:Int->Option (Int×Bool)}(hs0:s.size<=1000000):∀ (r p:Bs) (n:Nat) (v:Int),s.data.toList=p++r->r.length<n->zgI s k0 n v (p.length:Int)=match dgs r v with|none=>some (0,false)|some q=>k0 q
 | [],p,n,v,h,h1=>by
  obtain⟨n,rfl⟩:∃ q,n=q+1:=⟨n-1,by omega⟩
  have hs:s.size=p.length:=by rw[zaE h];simp
  simp only[zgI,zkT];rw[ltF (by omega),cond_false];rfl
 | b::r,p,n,v,h,h1=>by
  obtain⟨n,rfl⟩:∃ q,n=q+1:=⟨n-1,by omega⟩
  have hs:s.size=p.length+(r.length+1):=by rw[zaE h];simp
  have ih:=λ v=>zpm (s:=s) (k0:=k0) hs0 r (p++[b]) n v (by simpa using h) (by simpa using h1);simp only[zgI,zkT];rw[ltT (by omega),cond_true,idxS,if_pos ⟨by omega,by omega⟩,zAl,Int.toNat_natCast,zbo h,zbE (by omega)];simp only[List.length_append,List.length_singleton,zAl] at ih ⊢;unfold dgs;by_cases hd:48<=b.toNat/\b.toNat<=57
  .rw [decide_eq_false (by omega),cond_false,decide_eq_false (by omega),cond_false,if_pos hd,zq (by simp[IntKind.min,IntKind.max,IntKind.signed,IntKind.bits];omega),ih]
  grind
theorem zxj {N N':Nat}{s:ByteArray}(h:s.size<N)(h':s.size<N'):f111 N' s=f105 N s:=by
 unfold f111 f105;simp only[zap];rw[zsT,zAl];by_cases h2:1<=s.size/\s.size<=8
 .have h3:¬ s=zaz:=λ h=>by have:=zgR.1 h;omega
  have hi:idxS s 0=some (zdc s 0):=by rw[idxS,if_pos ⟨by omega,by omega⟩];rfl
  have hk:zeV s N'=zeq s N:=by
   have l1:=zpm (s:=s) (k0:=zes) (by omega) s.data.toList [] N' 0 rfl (by rw[<- zaE rfl];exact h');have l2:=zpl (s:=s) (k0:=zeR) s.data.toList [] N 0 rfl (by rw[<- zaE rfl];exact h);simp only[zeV,zeq,zap];rw[show zgI s zes N' 0 0=_ from l1,show zeS s zeR N 0 0=_ from l2]
   cases dgs s.data.toList 0 <;> rfl
  rw[decide_eq_true (by omega),Bool.not_true,cond_false,decide_eq_false h3,cond_false,decide_eq_false (show ¬ (8:Int)<(s.size:Int) by omega),cond_false,hi,zAl,zAl,hk];by_cases h48:zdc s 0=48
  .rw [decide_eq_true h48,cond_true,cond_true]
   have:(1:Int)<(s.size:Int) ↔ ¬ s=strC [48]:=by
    constructor
    .rintro h rfl;have:(strC [48]).size=1:=rfl;omega
    .intro hn
     by_cases h1:s.size=1
     .refine absurd ?_ hn
      have hl:s.data.toList.length=1:=by simp_all
      match hm:s.data.toList,hl with
      | [b],_ =>
       have:=zbo (p:=[]) (r:=[]) hm;rw[show zdc s ([]:Bs).length=zdc s 0 from rfl,h48] at this;have hb:b=48:=UInt8.toNat_inj.1 (by have:(48:UInt8).toNat=48:=rfl;omega);rw[<- zi1 s,hm,hb]
     .omega
   by_cases h1:(1:Int)<(s.size:Int)
   .rw [decide_eq_true h1,decide_eq_true (this.1 h1),cond_true]
   .rw [decide_eq_false h1,decide_eq_false (λ h=>h1 (this.2 h)),cond_false]
  .rw [decide_eq_false h48,cond_false,cond_false]
 .rw [decide_eq_false (by omega),Bool.not_false,cond_true]
  by_cases h0:s=zaz
  .rw [decide_eq_true h0,cond_true]
  .have:s.size≠0:=λ h=>h0 (zgR.2 h)
   rw[decide_eq_false h0,cond_false,decide_eq_true (show (8:Int)<(s.size:Int) by omega),cond_true]
def chkP:Bs->Int->Option Int
 | [],v=>some v
 | b::r,v=>if 32<=b.toNat/\b.toNat<=126/\¬ ((b.toNat:Int)=32/\v=32) then chkP r b.toNat else none
def pcsP:Bs->Bs->Option (List Bs)
 | [],cur=>if cur=[] then none else some [cur]
 | b::r,cur=>if b.toNat=32 then (if cur=[] then none else (pcsP r []).map (cur :: ·)) else if 33<=b.toNat/\b.toNat<=126 then pcsP r (cur++[b]) else none
theorem zpn {s:ByteArray}{k0:Int->Option (TL×Bool)}:∀ (r p:Bs) (n:Nat) (v:Int),s.data.toList=p++r->r.length<n->zfF s k0 n v p.length=match chkP r v with|none=>some ([],false)|some q=>k0 q
 | [],p,n,v,h,h1=>by
  obtain⟨n,rfl⟩:∃ q,n=q+1:=⟨n-1,by omega⟩
  have hs:s.size=p.length:=by rw[zaE h];simp
  simp only[zfF,ziJ];rw[decide_eq_false (by omega),cond_false];rfl
 | b::r,p,n,v,h,h1=>by
  obtain⟨n,rfl⟩:∃ q,n=q+1:=⟨n-1,by omega⟩
  have hs:s.size=p.length+(r.length+1):=by rw[zaE h];simp
  have ih:=λ v=>zpn (s:=s) (k0:=k0) r (p++[b]) n v (by simpa using h) (by simpa using h1);simp only[zfF,ziJ,zAl];rw[decide_eq_true (by omega),cond_true];simp only[List.length_append,List.length_singleton] at ih;unfold chkP
  rcases zol h with ⟨h2,h3⟩|⟨h2,h3⟩
  .grind
  grind
theorem zga {s:ByteArray}{p c r:Bs}(h:s.data.toList=p++(c++r)):subS s (p.length:Int) ((p++c).length:Int)=some (strC c):=by
 have hs:s.size=p.length+(c.length+r.length):=by rw[zaE h];simp
 unfold subS;rw[if_pos ⟨by omega,by grind,by grind⟩]
 congr 1
 rw[<- zi1 (zeC _ _ _),zlm,h,Int.toNat_natCast,Int.toNat_natCast,List.drop_left' rfl,List.length_append,Nat.add_sub_cancel_left,List.take_left' rfl]
theorem zln {s:ByteArray}{k0:TL->Option (TL×Bool)}(hs0:s.size<=1000):∀ (r c p:Bs) (n:Nat) (out:TL),s.data.toList=p++(c++r)->r.length+1<n->out.length<=p.length->zho s k0 n out (p.length:Int) ((p++c).length:Int)=match pcsP r c with|none=>some ([],false)|some q=>k0 (out++q.map strC)
 | [],c,p,n,out,h,h1,h2=>by
  obtain⟨n,rfl⟩:∃ q,n=q+2:=⟨n-2,by omega⟩
  have hs:s.size=p.length+c.length:=by rw[zaE h];simp
  have hl:(p++c).length=p.length+c.length:=by simp
  have hsub:=zga h;simp only[zho,zkH,zap];rw[decide_eq_true (by omega),cond_true,ltF (by omega),cond_false];unfold pcsP zeU;by_cases hc:c=[]
  .grind
  .have:0<c.length:=List.length_pos_iff.2 hc
   rw[decide_eq_false (by omega),cond_false,hsub,zAl,zcp (by simp;omega) (by simp;omega),zAl,if_neg hc,zbE (by omega)]
   grind
 | b::r,c,p,n,out,h,h1,h2=>by
  obtain⟨n,rfl⟩:∃ q,n=q+1:=⟨n-1,by omega⟩
  have hs:s.size=p.length+(c.length+(r.length+1)):=by rw[zaE h];simp
  have hl:(p++c).length=p.length+c.length:=by simp
  have hb:=zbo (p:=p++c) (r:=r) (b:=b) (y:=s) (by simpa using h);have hsub:=zga h;simp only[zho,zkH,zap];rw[decide_eq_true (by omega),cond_true,ltT (by omega),cond_true,idxS,if_pos ⟨by omega,by omega⟩,zAl,Int.toNat_natCast,hb,zAl,zAl,zbE (by omega)];unfold pcsP;by_cases h32:b.toNat=32
  .rw [if_pos h32,decide_eq_false (by omega),cond_false]
   unfold zeU;by_cases hc:c=[]
   .grind
   .have:0<c.length:=List.length_pos_iff.2 hc
    have ih:=zln (s:=s) (k0:=k0) hs0 r [] (p++c++[b]) n (out++[strC c]) (by simpa using h) (by simpa using h1) (by simp;omega);rw[decide_eq_false (by omega),cond_false,hsub,zAl,zcp (by simp;omega) (by simp;omega),zAl,if_neg hc,zbE (by omega)]
    grind
  .rw [if_neg h32,decide_eq_true (by omega),cond_true]
   by_cases hr:33<=b.toNat/\b.toNat<=126
   .have ih:=zln (s:=s) (k0:=k0) hs0 r (c++[b]) p n out (by simpa using h) (by simpa using h1) h2
    grind
   grind
theorem zom:∀ (r cur:Bs) (v:Int),(cur=[] ↔ v=32)->pcsP r cur=match chkP r v with|none=>none|some q=>if q=32 then none else (match zaX 32 r with|[]=>none|x::t=>some ((cur++x)::t))
 | [],cur,v,h=>by
  simp_all [if_pos,if_neg,pcsP,chkP,dite,zaX]
 | b::r,cur,v,h=>by
  unfold pcsP chkP;by_cases h32:b.toNat=32
  .have hb:b=32:=UInt8.toNat_inj.1 (by simpa using h32)
   rw[if_pos h32];by_cases hc:cur=[]
   .grind
   .have hv:¬ v=32:=λ q=>hc (h.2 q)
    have hcd:32<=b.toNat/\b.toNat<=126/\¬ ((b.toNat:Int)=32/\v=32):=⟨by omega,by omega,λ h=>hv h.2⟩;rw[if_neg hc,if_pos hcd,zom r [] b.toNat ⟨λ _=>by omega,λ _=>rfl⟩];subst hb;rw[show zaX 32 (32::r)=[]::zaX 32 r from rfl]
    cases chkP r _ with
    | none=>rfl
    | some q =>
     grind [zdl]
  .rw [if_neg h32]
   by_cases hr:33<=b.toNat/\b.toNat<=126
   .rw [if_pos hr,if_pos (by omega),zom r (cur++[b]) b.toNat ⟨λ h=>by simp at h,λ h=>by omega⟩]
    have hb:(b == 32)=false:=by
     cases hq:b == 32 with
     | false=>rfl
     | true=>simp_all
    grind [zaX.eq_2,zaX.eq_1,zdl]
   grind
theorem zsU {N N':Nat}{s:ByteArray}(h:s.size+2<N)(h':s.size+2<N')(h2:s.size<=1000):∃ r r':TL×Bool,f104 N s=some r/\f109 N' s=some r'/\r'.2=r.2/\(r.2=true->r'.1=r.1):=by
 have hl:s.data.toList.length=s.size:=(zaE rfl).symm;have l1:=zpn (s:=s) (k0:=zdN s N) s.data.toList [] N 32 rfl (by omega);have l2:=zln (s:=s) (k0:=zfq) h2 s.data.toList [] [] N' [] rfl (by omega) (by simp);have hp:=zom s.data.toList [] 32 (by simp);have e1:f104 N s=_:=l1;have e2:f109 N' s=_:=l2;rw[e1,e2,hp]
 cases chkP s.data.toList 32 with
 | none=>grind
 | some v =>
  dsimp only;have hs:(strC [32]).size=1:=rfl
  have h3:zdN s N v=some ((zaX 32 s.data.toList).map (λ l=>(⟨l.toArray⟩:ByteArray)),decide (¬ v=32)):=by
   obtain⟨N,rfl⟩:∃ q,N=q+1:=⟨N-1,by omega⟩;unfold zdN f73;dsimp only;rw[if_pos ⟨by omega,hs⟩,zAl];rfl
  rw[h3];by_cases hv:v=32
  .grind
  .rw [if_neg hv]
   cases hsp:zaX 32 s.data.toList with
   | nil=>grind [zdl]
   | cons x t=>exact⟨_,_,rfl,rfl,by simp[hv],λ _=>rfl⟩
end Go.Vc
namespace Go.Vc
open Go.Proofs
def ordR:I97->Order
 | .nil=>⟨zaz,[],[]⟩
 | .c199 x=>⟨strC [115,116,111,110,101],[x.name],[x.thick]⟩
 | .c201 x=>⟨strC [101,100,105,116,105,111,110],[x.name],[]⟩
 | .c203 x=>⟨strC [100,114,97,119],[x.stone,x.edition],[]⟩
 | .c205 x=>⟨strC [112,97,112,101,114],[x.edition],[x.n]⟩
 | .c207 x=>⟨strC [112,114,105,110,116],[x.stone],[x.good,x.spoilt]⟩
 | .c209 x=>⟨strC [99,108,111,115,101],[x.edition],[]⟩
 | .c211 x=>⟨strC [99,108,97,105,109],[x.customer,x.edition],[x.n]⟩
 | .c213 x=>⟨strC [100,101,108,105,118,101,114],[x.claiming.customer,x.claiming.edition],[x.claiming.n]⟩
 | .c215 x=>⟨strC [103,114,105,110,100],[x.stone],[]⟩
def Bo (o:Option (I97×Int))(p:Option (Order×Int)):Prop:=∃ r s,o=some r/\p=some s/\s.2=r.2/\(r.2=0->zbt r.1/\s.1=ordR r.1/\∀ z,z∈s.1.names->zjn z=true)
theorem Bo.err {n:Int}{o:Order}(h:n≠0):Bo (some (I97.nil,n)) (some (o,n)):=⟨_,_,rfl,rfl,rfl,λ h' => absurd h' h⟩
section
variable {N N':Nat} {P:TL} {q q':Bool} {nm nu:Nat} {lo hi:Int} {x4:ByteArray} {x5:TL}
theorem zsV {e0 e1:Int}{k0:Option (I97×Int)}{k0':Option (Order×Int)}(hk:(0<nu->lo<=e0/\e0<=hi)->(1<nu->lo<=e1/\e1<=hi)->Bo k0 k0')(hnu:nu<=2):∀ (m i n n':Nat),nu-i=m->m<n->m<n'->(0<i->0<nu->lo<=e0/\e0<=hi)->(1<i->1<nu->lo<=e1/\e1<=hi) ->
  Bo (zd7 (P,q) (nu:Int) [e0,e1] lo hi k0 n (i:Int)) (zfG N' ((nm:Int),(nu:Int),true) x4 x5 ([e0,e1].take nu) lo hi k0' n' (i:Int)):=by
 intro m
 induction m with
 | zero =>
  intro i n n' h1 h2 h2' h3 h4;obtain⟨n,rfl⟩:∃ q,n=q+1:=⟨n-1,by omega⟩;obtain⟨n',rfl⟩:∃ q,n'=q+1:=⟨n'-1,by omega⟩;simp only[zd7,zg9,zfG,zkX,zaC,decide_eq_true_eq,Int.toNat_natCast]
  grind
 | succ m ih =>
  intro i n n' h1 h2 h2' h3 h4;obtain⟨n,rfl⟩:∃ q,n=q+1:=⟨n-1,by omega⟩;obtain⟨n',rfl⟩:∃ q,n'=q+1:=⟨n'-1,by omega⟩;simp only[zd7,zg9,zfG,zkX,zaC,decide_eq_true_eq,Int.toNat_natCast];rw[if_pos (by omega),if_pos (by omega),chkI,if_pos ⟨by omega,by omega⟩]
  have hi2:i<2:=by omega
  have hW:W ((i:Int)+1)=((i+1:Nat):Int):=zbE (by omega)
  have key:∀ e:Int,([e0,e1]:List Int)[i]? = some e->(lo<=e/\e<=hi->Bo (zd7 (P,q) (nu:Int) [e0,e1] lo hi k0 n ((i+1:Nat):Int)) (zfG N' ((nm:Int),(nu:Int),true) x4 x5 ([e0,e1].take nu) lo hi k0' n' ((i+1:Nat):Int))) ->
    Bo (Option.bind (some ()) λ _=>(ixN [e0,e1] i).bind λ x4=>if x4<lo then some (I97.nil,4) else if hi<x4 then some (I97.nil,4) else zd7 (P,q) (nu:Int) [e0,e1] lo hi k0 n (W ((i:Int)+1)))
     ((ix ([e0,e1].take nu) (i:Int)).bind λ x6=>(f71 N' x6 lo hi).bind λ x7=>if (!x7)=true then some (Order.mk zaz [] [],4) else zfG N' ((nm:Int),(nu:Int),true) x4 x5 ([e0,e1].take nu) lo hi k0' n' (W ((i:Int)+1))):=by
   intro e he hb
   have he2:(([e0,e1]:List Int).take nu)[i]? = some e:=by grind
   rw[zaU,he2,ixN,he,hW];simp only[zAl,zzP];by_cases hin:lo<=e/\e<=hi
   .grind
   .rw [decide_eq_false hin]
    simp only[Bool.not_false,if_true]
    split
    .exact .err (by decide)
    .rw [if_pos (by omega)];exact .err (by decide)
  grind
theorem zu0 {k2 k3:Option (I97×Int)}{k3':Option (Order×Int)}{b b':List Int}{X:TL}(hk:(∀ z,z∈X->zjn z=true)->Bo k3 k3')(hX:∀ x,x∈X->x.size<N/\x.size<N')(hl:X.length=nm)(hn:nm<=2):∀ (m i n n':Nat),nm-i=m->m<n->m<n'->(∀ z,z∈X.take i->zjn z=true) ->
  Bo (zav N b k2 X k3 n (i:Int)) (zhs N' ((nm:Int),(nu:Int),true) x4 X b' k3' n' (i:Int)):=by
 intro m
 induction m with
 | zero =>
  intro i n n' h1 h2 h2' h3;obtain⟨n,rfl⟩:∃ q,n=q+1:=⟨n-1,by omega⟩;obtain⟨n',rfl⟩:∃ q,n'=q+1:=⟨n'-1,by omega⟩;simp only[zav,zaP,zhs,zk1,zaC,decide_eq_true_eq];rw[if_neg (by omega),if_neg (by omega)]
  grind [List.take_of_length_le]
 | succ m ih =>
  intro i n n' h1 h2 h2' h3;obtain⟨n,rfl⟩:∃ q,n=q+1:=⟨n-1,by omega⟩;obtain⟨n',rfl⟩:∃ q,n'=q+1:=⟨n'-1,by omega⟩
  have hi:i<X.length:=by omega
  have hs:=hX _ (List.getElem_mem hi);simp only[zav,zaP,zhs,zk1,zaC,decide_eq_true_eq];rw[if_pos (show (i:Int)<(X.length:Int) by omega),if_pos (show (i:Int)<(nm:Int) by omega),zhm hi];simp only[zAl,f107,zzO hs.1,zzQ hs.2]
  cases hb:zjn X[i] with
  | false=>rw[if_pos (by simp),if_pos (by omega),if_pos (by simp)];exact .err (by decide)
  | true =>
   rw[if_neg (by simp),if_neg (by simp),zbE (by omega)];refine ih (i+1) n n' (by omega) (by omega) (by omega) λ z hz=>?_
   grind [List.take_add_one,zAn]
theorem zxk {k4:List Int->Option (I97×Int)}{k4':List Int->Option (Order×Int)}(hk:∀ e0 e1,Bo (k4 [e0,e1]) (k4' ([e0,e1].take nu)))(hX:∀ x,x∈P->x.size<N/\x.size<N')(hl:P.length=1+nm+nu)(hnm:nm<=2)(hnu:nu<=2):∀ (m i n n':Nat) (e0 e1:Int),nu-i=m->m<n->m<n' ->
  Bo (zeY N (P,q) (nm:Int) (nu:Int) k4 (P.drop (1+nm)) n (i:Int) [e0,e1]) (zgJ N' (P,q') ((nm:Int),(nu:Int),true) x4 x5 k4' n' (i:Int) ([e0,e1].take (min i nu))):=by
 intro m
 induction m with
 | zero =>
  intro i n n' e0 e1 h1 h2 h2';obtain⟨n,rfl⟩:∃ q,n=q+1:=⟨n-1,by omega⟩;obtain⟨n',rfl⟩:∃ q,n'=q+1:=⟨n'-1,by omega⟩;simp only[zeY,zh,zgJ,zk3,zaC,decide_eq_true_eq]
  grind
 | succ m ih =>
  intro i n n' e0 e1 h1 h2 h2';obtain⟨n,rfl⟩:∃ q,n=q+1:=⟨n-1,by omega⟩;obtain⟨n',rfl⟩:∃ q,n'=q+1:=⟨n'-1,by omega⟩
  have hi:1+nm+i<P.length:=by omega
  have hs:=hX _ (List.getElem_mem hi)
  have w1:W ((W ((1:Int)+(nm:Int)))+(i:Int))=((1+nm+i:Nat):Int):=by grind [zaK]
  have hd:(P.drop (1+nm))[i]? = some P[1+nm+i]:=by grind
  simp only[zeY,zh,zgJ,zk3,zaC,decide_eq_true_eq];rw[if_pos (by simp;omega),if_pos (by omega),zaU,hd,w1,zhm hi];simp only[zAl,zxj hs.1 hs.2];obtain⟨r,hr⟩:=zsH (N:=N) (s:=P[1+nm+i]) hs.1;rw[hr,chkI,if_pos ⟨by omega,by omega⟩];simp only[zAl,setN,Int.toNat_natCast]
  have hi2:i<2:=by omega
  have hW:W ((i:Int)+1)=((i+1:Nat):Int):=zbE (by omega);simp only[List.length_cons,List.length_nil,hW];rw[if_pos (by omega),Nat.min_eq_left (by omega)];simp only[zAl]
  match i,hi2 with
  | 0,_ =>
   simp only[List.set_cons_zero,List.take_zero]
   cases r.2 with
   | false=>exact .err (by decide)
   | true =>
    rw[if_neg (by simp),if_neg (by simp),zcp (by simp) (by simp),zAl]
    grind
  | 1,_ =>
   simp only[List.set_cons_succ,List.set_cons_zero]
   cases r.2 with
   | false=>exact .err (by decide)
   | true =>
    rw[if_neg (by simp),if_neg (by simp),zcp (by simp) (by simp),zAl]
    grind
end
def zpo (N:Nat)(x1:TL×Bool)(x3:Int×Int×Bool):Option (Order×Int) :=
 bif !x3.2.2 then (some ((Order.mk zaz [] []),(10:Int)))
 else (bif decide (¬ (List.length x1.1:Int)=(W ((W ((1:Int)+x3.1))+x3.2.1))) then (some ((Order.mk zaz [] []),(9:Int)))
 else ((ix x1.1 (0:Int)).bind λ x4 =>
 (sub x1.1 (1:Int) (W ((1:Int)+x3.1))).bind λ x5 =>
 zap (zf7 N x3 x4 x5) λ k4 =>
 zgJ N x1 x3 x4 x5 k4 N (0:Int) []))
section
variable {N N':Nat} {P:TL} {q q':Bool} {nm nu:Nat} {lo hi:Int} {x:ByteArray}
theorem zeB (hnm:nm<=2)(hnu:nu<=2)(hN:10<=N/\10<=N')(hX:∀ z,z∈x::P->z.size<N/\z.size<N')
  (hsel:∀ b,zeX N (x::P,q) (nu:Int) b=zet N (x::P,q) (nu:Int) b lo hi) (hsel':∀ x3 x5 b,zf6 N' x3 x x5 b=zf5 N' x3 x x5 b lo hi)
  (hfin:(x::P).length=1+nm+nu->(∀ z,z∈P.take nm->zjn z=true)->∀ e0 e1,(0<nu->lo<=e0/\e0<=hi)->(1<nu->lo<=e1/\e1<=hi)->Bo (f108 N (x::P) ⟨e0,e1⟩ |>.bind λ x=>some (x,0)) (some (Order.mk x (P.take nm) ([e0,e1].take nu),0))) :
  Bo (zdm N (x::P,q) (nm:Int) (nu:Int)) (zpo N' (x::P,q') ((nm:Int),(nu:Int),true)):=by
 have w1:W (1+(nm:Int))=((1+nm:Nat):Int):=by grind [zaK]
 have w2:W (((1+nm:Nat):Int)+(nu:Int))=((1+nm+nu:Nat):Int):=by grind [zaK]
 simp only[zdm,zpo,zap,zaC,decide_eq_true_eq,w1,w2,Bool.not_true];rw[if_neg (show ¬ (false=true) by simp)];by_cases hlen:(((x::P).length:Nat):Int)=((1+nm+nu:Nat):Int)
 .have hlen:(x::P).length=1+nm+nu:=by omega
  rw[if_neg (by omega),if_neg (by omega),zeP (by omega) (Nat.le_refl _),ix_h,show (1:Int)=((1:Nat):Int) from rfl,zeP (by omega) (by omega)];simp only[zAl,List.take_length]
  have e5:((x::P).take (1+nm)).drop 1=P.take nm:=by grind
  rw[e5];refine zxk (λ e0 e1=>?_) hX hlen hnm hnu nu 0 N N' 0 0 rfl (by omega) (by omega);simp only[zf8,zf7,zap,w1];rw[show (1:Int)=((1:Nat):Int) from rfl,zeP (by omega) (by omega),zAl,e5];refine zu0 (λ hnb=>?_) (λ z hz=>hX z (List.mem_cons_of_mem _ (List.mem_of_mem_take hz))) (by grind) hnm nm 0 N N' rfl (by omega) (by omega) (λ z hz=>by simp at hz);simp only[zaA,hsel,hsel',zet,zf5,zap];rw[arS,if_pos ⟨by omega,by omega⟩,zAl];refine zsV (λ h1 h2=>?_) hnu nu 0 N N' rfl (by omega) (by omega) (λ h=>by omega) (λ h=>by omega)
  grind [zeW,zf4,A2iN.of]
 .rw [if_pos hlen,if_pos hlen];exact .err (by decide)
end
abbrev RdK2 (k:List UInt8)(a u:Nat):Prop:=∀ {N N':Nat} {P:TL} {b b':Bool},10<=N/\10<=N'->(∀ z,z∈strC k::P->z.size<N/\z.size<N')->Bo (zdm N (strC k::P,b) (a:Int) (u:Int)) (zpo N' (strC k::P,b') ((a:Int),(u:Int),true))
theorem zu1:RdK2 [115,116,111,110,101] 1 1:=λ hN hX=>zeB (lo:=1) (hi:=99) (by omega) (by omega) hN hX (λ b=>by kernel_rfl) (λ _ _ _=>by kernel_rfl) λ hl hn e0 e1 b1 b2=>by
 obtain⟨a,l,rfl⟩:=zc0 hl;exact⟨(I97.c199 ⟨a,e0⟩,0),_,by kernel_rfl,rfl,rfl,λ _=>⟨by simp only[zbt];omega,rfl,hn⟩⟩
theorem zqo:RdK2 [101,100,105,116,105,111,110] 1 0:=λ hN hX=>zeB (lo:=1) (hi:=5000) (by omega) (by omega) hN hX (λ b=>by kernel_rfl) (λ _ _ _=>by kernel_rfl) λ hl hn e0 e1 b1 b2=>by
 obtain⟨a,l,rfl⟩:=zc0 hl;exact⟨(I97.c201 ⟨a⟩,0),_,by kernel_rfl,rfl,rfl,λ _=>⟨by trivial,rfl,hn⟩⟩
theorem zxl:RdK2 [100,114,97,119] 2 0:=λ hN hX=>zeB (lo:=1) (hi:=5000) (by omega) (by omega) hN hX (λ b=>by kernel_rfl) (λ _ _ _=>by kernel_rfl) λ hl hn e0 e1 b1 b2=>by
 obtain⟨a,b,l,rfl⟩:=zd9 hl;exact⟨(I97.c203 ⟨a,b⟩,0),_,by kernel_rfl,rfl,rfl,λ _=>⟨by trivial,rfl,hn⟩⟩
theorem zu2:RdK2 [112,97,112,101,114] 1 1:=λ hN hX=>zeB (lo:=1) (hi:=5000) (by omega) (by omega) hN hX (λ b=>by kernel_rfl) (λ _ _ _=>by kernel_rfl) λ hl hn e0 e1 b1 b2=>by
 obtain⟨a,l,rfl⟩:=zc0 hl;exact⟨(I97.c205 ⟨a,e0⟩,0),_,by kernel_rfl,rfl,rfl,λ _=>⟨by simp only[zbt];omega,rfl,hn⟩⟩
theorem zu3:RdK2 [112,114,105,110,116] 1 2:=λ hN hX=>zeB (lo:=0) (hi:=5000) (by omega) (by omega) hN hX (λ b=>by kernel_rfl) (λ _ _ _=>by kernel_rfl) λ hl hn e0 e1 b1 b2=>by
 obtain⟨a,l,rfl⟩:=zc0 hl;exact⟨(I97.c207 ⟨a,e0,e1⟩,0),_,by kernel_rfl,rfl,rfl,λ _=>⟨by simp only[zbt];omega,rfl,hn⟩⟩
theorem zu4:RdK2 [99,108,111,115,101] 1 0:=λ hN hX=>zeB (lo:=1) (hi:=5000) (by omega) (by omega) hN hX (λ b=>by kernel_rfl) (λ _ _ _=>by kernel_rfl) λ hl hn e0 e1 b1 b2=>by
 obtain⟨a,l,rfl⟩:=zc0 hl;exact⟨(I97.c209 ⟨a⟩,0),_,by kernel_rfl,rfl,rfl,λ _=>⟨by trivial,rfl,hn⟩⟩
theorem zu5:RdK2 [99,108,97,105,109] 2 1:=λ hN hX=>zeB (lo:=1) (hi:=5000) (by omega) (by omega) hN hX (λ b=>by kernel_rfl) (λ _ _ _=>by kernel_rfl) λ hl hn e0 e1 b1 b2=>by
 obtain⟨a,b,l,rfl⟩:=zd9 hl;exact⟨(I97.c211 ⟨a,b,e0⟩,0),_,by kernel_rfl,rfl,rfl,λ _=>⟨by simp only[zbt];omega,rfl,hn⟩⟩
theorem zqp:RdK2 [100,101,108,105,118,101,114] 2 1:=λ hN hX=>zeB (lo:=1) (hi:=5000) (by omega) (by omega) hN hX (λ b=>by kernel_rfl) (λ _ _ _=>by kernel_rfl) λ hl hn e0 e1 b1 b2=>by
 obtain⟨a,b,l,rfl⟩:=zd9 hl;exact⟨(I97.c213 ⟨⟨a,b,e0⟩⟩,0),_,by kernel_rfl,rfl,rfl,λ _=>⟨by simp only[zbt];omega,rfl,hn⟩⟩
theorem zu6:RdK2 [103,114,105,110,100] 1 0:=λ hN hX=>zeB (lo:=1) (hi:=5000) (by omega) (by omega) hN hX (λ b=>by kernel_rfl) (λ _ _ _=>by kernel_rfl) λ hl hn e0 e1 b1 b2=>by
 obtain⟨a,l,rfl⟩:=zc0 hl;exact⟨(I97.c215 ⟨a⟩,0),_,by kernel_rfl,rfl,rfl,λ _=>⟨by trivial,rfl,hn⟩⟩
theorem iteB {c:Prop}[Decidable c]{a b:Option (I97×Int)}{p:Option (Order×Int)}(h:c->Bo a p)(h':¬ c->Bo b p):Bo (if c then a else b) p:=by
 grind
theorem zon {N N':Nat}{y:ByteArray}(hN:60<=N)(hN':60<=N'):Bo (f79 N y) (f80 N' y):=by
 unfold f79 f80;rw[zaC,zaC];simp only[decide_eq_true_eq];by_cases h40:(40:Int)<(y.size:Int)
 .rw [if_pos h40,if_pos h40];exact .err (by decide)
 .rw [if_neg h40,if_neg h40]
  obtain⟨⟨P,q⟩,⟨P2,q2⟩,hr,hr2,e1,e2⟩:=zsU (N:=N) (N':=N') (s:=y) (by omega) (by omega) (by omega);obtain⟨r3,hr3,hp⟩:=zsI (N:=N) (s:=y) (by omega) (by omega);rw[hr] at hr3
  cases hr3
  dsimp only at e1 e2;subst e1;rw[hr,hr2];simp only[zAl]
  cases hq:q2 with
  | false=>exact .err (by decide)
  | true =>
   obtain⟨hne,hsz⟩:=hp hq;have:=e2 hq;subst this;rw[Bool.not_true,cond_false,cond_false]
   obtain⟨x,P',rfl⟩:∃ x P',P2=x::P':=by cases P2 with|nil=>grind|cons x P' => grind
   have hX:∀ z,z∈x::P'->z.size<N/\z.size<N':=λ z hz=>by grind
   have w1:W ((0:Int)+1)=((1:Nat):Int):=by grind [zaK]
   have w2:W ((0:Int)+2)=((2:Nat):Int):=by grind [zaK]
   have w3:W (((1:Nat):Int)+1)=((2:Nat):Int):=by grind
   show Bo _ ((ix (x::P') 0).bind λ x2=>(f110 N' x2).bind λ x3=>zpo N' (x::P',true) x3);rw[zap,ix_h,zAl,zAl];simp only[zaC,decide_eq_true_eq,w1,w2,w3];refine iteB (λ hx=>?_) (λ n1=>?_)
   .subst hx;exact zu3 ⟨by omega,by omega⟩ hX
   refine iteB (λ hx=>?_) (λ n2=>?_)
   .subst hx;exact zu1 ⟨by omega,by omega⟩ hX
   refine iteB (λ hx=>?_) (λ n3=>?_)
   .subst hx;exact zu2 ⟨by omega,by omega⟩ hX
   refine iteB (λ hx=>?_) (λ n4=>?_)
   .subst hx;exact zqo ⟨by omega,by omega⟩ hX
   refine iteB (λ hx=>?_) (λ n5=>?_)
   .subst hx;exact zu4 ⟨by omega,by omega⟩ hX
   refine iteB (λ hx=>?_) (λ n6=>?_)
   .subst hx;exact zu6 ⟨by omega,by omega⟩ hX
   refine iteB (λ hx=>?_) (λ n7=>?_)
   .subst hx;exact zu5 ⟨by omega,by omega⟩ hX
   refine iteB (λ hx=>?_) (λ n8=>?_)
   .subst hx;exact zqp ⟨by omega,by omega⟩ hX
   refine iteB (λ hx=>?_) (λ n9=>?_)
   .subst hx;exact zxl ⟨by omega,by omega⟩ hX
   have h110:f110 N' x=some (0,0,false):=by grind [decide_eq_false,f110]
   rw[h110,zAl];exact .err (by decide)
end Go.Vc
namespace Go.Vc
open Go.Proofs
def edR (q:ByteArray×EditionM):Edition:=⟨q.1,q.2.closed,q.2.places,q.2.from_,q.2.paper,q.2.delivered,q.2.spoilt⟩
def StR (E:TE)(p:ByteArray×StoneM)(s:Stone):Prop:=s.name=p.1/\s.thick=p.2.thick/\(p.2.of=none->s.on=zaz)/\∀ j,p.2.of=some j->∃ q,E[j]? = some q/\s.on=q.1/\s.place=p.2.place
structure RelS (E:TE)(S:TS)(st:List Stone):Prop where
 len:st.length=S.length
 at_:∀ (i:Nat) p s,S[i]? = some p->st[i]? = some s->StR E p s
def za1 (cl:List ClaimS)(k:ByteArray):List (ByteArray×Int):=(cl.filter λ c=>decide (c.edition=k)).map λ c=>(c.customer,c.claimed-c.got)
def zcY (cl:List ClaimS):TC:=cl.foldl (λ acc c=>setK c.customer true acc) []
structure RelC (E:TE)(C:TC)(cl:List ClaimS)(n:Nat):Prop where
 ln:cl.length<=n
 ow:∀ q,q∈E->q.2.owed=za1 cl q.1
 cs:C=zcY cl
 bd:∀ c,c∈cl->0<=c.got/\c.got<=c.claimed/\c.claimed<=5000*n
 ed:∀ c,c∈cl->∃ q,q∈E/\q.1=c.edition
structure RelB (b:Bk)(R:StateS):Prop where
 ed:R.editions=b.E.map edR
 st:RelS b.E b.S R.stones
 cl:RelC b.E b.C R.claims b.L.length
 nm:∀ q,q∈b.E->q.1≠zaz
def ixO:Option Nat->Int
 | some j=>(j:Int)
 | none=>-1
section
variable {κ σ α:Type}
theorem zsW {L:List α}{f:α->ByteArray}{k:ByteArray}{F:Nat->Int->Option Int}(hF:∀ n i,F (n+1) i=bif decide (i<(L.length:Int)) then ((ix L i).bind λ x=>bif decide (f x=k) then some i else F n (W (i+1))) else some (-1))(hl:L.length<=1000)(S:List (ByteArray×σ))(hS:S.map (·.1)=L.map f) :
  ∀ (m i n:Nat),L.length-i=m->i<=L.length->m<n->(∀ j p,j<i->S[j]? = some p->p.1≠k)->F n (i:Int)=some (ixO (zas k S)):=by
 have hlen:S.length=L.length:=by have:=congrArg List.length hS;simpa using this
 have hat:∀ (i:Nat) p x,S[i]? = some p->L[i]? = some x->p.1=f x:=λ i p x hp hx=>by
  have:(S.map (·.1))[i]? = (L.map f)[i]? := by rw[hS]
  grind
 intro m
 induction m with
 | zero =>
  intro i n h1 h2 h3 h4;obtain⟨n,rfl⟩:∃ q,n=q+1:=⟨n-1,by omega⟩;rw[hF,ltF (by omega),cond_false];rw[(zfn (l:=S)).2 λ p hp=>by grind [List.getElem?_of_mem,zAm]];rfl
 | succ m ih =>
  intro i n h1 h2 h3 h4;obtain⟨n,rfl⟩:∃ q,n=q+1:=⟨n-1,by omega⟩
  have hi:i<L.length:=by omega
  have hiS:i<S.length:=by omega
  have e:=hat i S[i] L[i] (zAn hiS) (zAn hi);rw[hF,ltT hi,cond_true,zhm hi,zAl];by_cases hk:f L[i]=k
  .rw [decide_eq_true hk,cond_true]
   rw[(zbP (i:=i)).2 ⟨⟨S[i].2,by grind⟩,h4⟩];rfl
  .rw [decide_eq_false hk,cond_false,zbE (by omega)]
   grind
end
theorem zgS {N:Nat}{E:TE}{S:TS}{R:StateS}(h:RelS E S R.stones)(hl:S.length<=8)(hN:10<=N)(k:ByteArray):f91 N R k=some (ixO (zas k S)):=by
 have:=zsW (L:=R.stones) (f:=Stone.name) (k:=k) (F:=zqh R k ziF) (λ n i=>rfl) (by have:=h.len;omega) S (by
  apply List.ext_getElem?;intro i;rw[List.getElem?_map,List.getElem?_map]
  cases hs:S[i]? with
  | none=>grind [List.getElem?_eq_none_iff,RelS.len]
  | some p =>
   have hi:=(zAm.1 hs).1
   have hi2:i<R.stones.length:=by have:=h.len;omega
   have h2:R.stones[i]? = some R.stones[i]:=zAn hi2
   rw[h2];simp[(h.at_ i p _ hs h2).1]) R.stones.length 0 N rfl (by omega) (by have:=h.len;omega) (λ j p hj=>by omega)
 exact this
theorem zbN {N:Nat}{E:TE}{R:StateS}(h:R.editions=E.map edR)(hl:E.length<=5)(hN:10<=N)(k:ByteArray):f112 N R k=some (ixO (zas k E)):=by
 have:=zsW (L:=R.editions) (f:=Edition.name) (k:=k) (F:=zjJ R k zf1) (λ n i=>rfl) (by grind) E (by rw[h,List.map_map];rfl) R.editions.length 0 N rfl (by omega) (by grind) (λ j p hj=>by omega);exact this
theorem zu7 {k0:Int->Option Int}{x1:List Int}:∀ (r:List Int) (i n:Nat) (acc:Int),x1.drop i=r->i<=x1.length->r.length<n->(∀ k,k∈r->0<=k)->0<=acc->acc+sumI r<=1000000->x1.length<=1000000 ->
  zmR x1 k0 n acc (i:Int)=k0 (acc+sumI r):=by
 intro r
 induction r with
 | nil =>
  intro i n acc hd hi hn hnn ha hs hl;obtain⟨n,rfl⟩:∃ q,n=q+1:=⟨n-1,by omega⟩
  have:i=x1.length:=by grind
  simp_all [Int.add_zero,ltF,Nat.le_refl,cond_false,zmR,zpa,sumI]
 | cons y r ih =>
  intro i n acc hd hi hn hnn ha hs hl;obtain⟨n,rfl⟩:∃ q,n=q+1:=⟨n-1,by omega⟩
  have hx:x1[i]? = some y:=by
   have:(x1.drop i)[0]? = some y:=by rw[hd];rfl
   simpa using this
  have hil:=(zAm.1 hx).1;simp only[List.mem_cons,forall_eq_or_imp] at hnn;simp only[sumI] at hs;have hr:=zb8 hnn.2;simp only[zmR,zpa,zaU,hx,zAl];rw[ltT hil,cond_true,zbE (by omega),W_of (by omega) (by omega),ih (i+1) n (acc+y) (by rw[<- List.drop_drop,hd];rfl) (by omega) (by grind) hnn.2 (by omega) (by omega) hl];simp only[sumI,Int.add_assoc]
theorem zzR {N:Nat}{l:List Int}(h:∀ k,k∈l->0<=k)(hs:sumI l<=1000000)(hl:l.length<N)(hl2:l.length<=1000):f93 N l=some (sumI l):=by
 have:=zu7 (k0:=zjK) l 0 N 0 rfl (by omega) hl h (by omega) (by omega) (by omega);rw[Int.zero_add] at this;exact this
theorem zsX {m N:Nat}{q:ByteArray×EditionM}(h:EdOK m q.2){k:Int}(h0:0<=k)(hk:k<=q.2.places.length)(hM:m+2<=N)(hm:m<=900):f94 N (edR q) k=some (q.2.rest k):=by
 have hle:=h.le;have hs:=ziZ h.nn k.toNat;have h5:=h.sums;obtain⟨j,rfl⟩:∃ j:Nat,k=j:=⟨k.toNat,by omega⟩;unfold f94;show ((sub q.2.places (j:Int) (q.2.places.length:Int)).bind _)=_;rw[zeP (by omega) (by omega),zAl,List.take_length,zzR (λ k hk=>h.nn k (List.mem_of_mem_drop hk)) (by grind) (by simp;omega) (by simp;omega)];rfl
theorem zpp (a b:List ClaimS)(k:ByteArray):za1 (a++b) k=za1 a k++za1 b k:=by simp[za1]
theorem znc {R:StateS}{k:ByteArray}{k0:Int->Option Int}(hl:R.claims.length<=1000)(hb:∀ c,c∈R.claims->0<=c.got/\c.got<=c.claimed/\c.claimed<=1000000):∀ (r p:List ClaimS) (n:Nat) (acc:Int),p++r=R.claims->r.length<n->0<=acc->acc+sumI ((za1 r k).map (·.2))<=1000000 ->
  zhp R k k0 n acc (p.length:Int)=k0 (acc+sumI ((za1 r k).map (·.2)))
 | [],p,n,acc,h,h1,h2,h3=>by
  obtain⟨n,rfl⟩:∃ q,n=q+1:=⟨n-1,by omega⟩
  simp_all [ltF,cond_false,List.length,zhp,zkK,za1,sumI]
 | c::r,p,n,acc,h,h1,h2,h3=>by
  obtain⟨n,rfl⟩:∃ q,n=q+1:=⟨n-1,by omega⟩
  have hx:R.claims[p.length]? = some c:=by grind
  have hlen:R.claims.length=p.length+(r.length+1):=by grind
  have hc:=hb c (by rw[<- h];simp)
  have hr:0<=sumI ((za1 r k).map (·.2)):=zb8 λ z hz=>by
   obtain⟨w,hw,rfl⟩:=List.mem_map.1 hz;obtain⟨d,hd,rfl⟩:=List.mem_map.1 hw
   grind
  simp only[zhp,zkK];rw[ltT (by omega),cond_true,zaU,hx,zAl,zAl,zAl,zbE (by omega)];have ih:=λ acc=>znc (k:=k) (k0:=k0) hl hb r (p++[c]) n acc (by simpa using h) (by simpa using h1);simp only[List.length_append,List.length_singleton] at ih;by_cases he:c.edition=k
  .have e1:za1 (c::r) k=(c.customer,c.claimed-c.got)::za1 r k:=by simp[za1,he]
   rw[e1] at h3 ⊢;simp only[List.map_cons,sumI] at h3 ⊢;rw[decide_eq_true he,cond_true,W_of (n:=c.claimed-c.got) (by omega) (by omega),W_of (by omega) (by omega),ih _ (by omega) (by omega),Int.add_assoc]
  simp_all [decide_eq_false,cond_false,za1]
theorem RelC.open_ {E:TE}{C:TC}{R:StateS}{n m N:Nat}(h:RelC E C R.claims n){q:ByteArray×EditionM}(hq:q∈E)(he:EdOK m q.2)(hn:n<=150)(hN:n<N):f126 N R q.1=some q.2.open_:=by
 have hs:sumI ((za1 R.claims q.1).map (·.2))=q.2.open_:=by rw[he.os,h.ow q hq]
 have hb:=he.ob;have:=znc (k:=q.1) (k0:=zg7) (by have:=h.ln;omega) (λ c hc=>by have:=h.bd c hc;omega) R.claims [] N 0 rfl (by have:=h.ln;omega) (by omega) (by omega);rw[hs,Int.zero_add] at this;exact this
theorem zi2 {κ σ:Type}[DecidableEq κ]{z v:σ}{k k':κ}:∀ l:List (κ×σ),za2 z k (setK k' v l)=if k'=k then (v,true) else za2 z k l
 | []=>rfl
 | p::r=>by
  have ih:=zi2 (z:=z) (v:=v) (k:=k) (k':=k') r;simp only[setK];by_cases h1:p.1=k'
  .simp_all [if_pos,if_neg,za2,dite]
  .rw [if_neg h1]
   simp only[za2]
   grind
theorem zgT (a:List ClaimS)(c:ClaimS):zcY (a++[c])=setK c.customer true (zcY a):=by simp[zcY]
theorem zjZ (k:ByteArray):∀ (l:List ClaimS),(∃ c,c∈l/\c.customer=k)/\za2 false k (zcY l)=(true,true)∨(∀ c,c∈l->c.customer≠k)/\za2 false k (zcY l)=(false,false):=by
 intro l
 have:∀ (n:Nat) (l:List ClaimS),l.length=n->(∃ c,c∈l/\c.customer=k)/\za2 false k (zcY l)=(true,true)∨(∀ c,c∈l->c.customer≠k)/\za2 false k (zcY l)=(false,false):=by
  intro n
  induction n with
  | zero=>intro l hl;have:=List.length_eq_zero_iff.1 hl;subst this;exact .inr ⟨by simp,rfl⟩
  | succ n ih =>
   intro l hl;obtain⟨a,c,rfl⟩:∃ a c,l=a++[c]:=⟨l.dropLast,l.getLast (by grind),(List.dropLast_concat_getLast _).symm⟩;rw[zgT,zi2]
   grind
 grind
theorem zqq {R:StateS}{w:ByteArray}{n6:Int}{kn:Bool}{k2:Bool->Option (Int×Bool)}{c:ClaimS}{i:Nat}(hl:R.claims.length<=1000)(hi:R.claims[i]? = some c):∀ (m j n:Nat) (f:Bool),i-j=m->j<=i->m<n ->
  zhq R w n6 (i:Int) kn k2 n f (j:Int)=k2 (f&&decide (∀ d,d∈(R.claims.take i).drop j->d.customer≠c.customer)):=by
 have hil:=(zAm.1 hi).1;intro m
 induction m with
 | zero =>
  intro j n f h1 h2 h3;obtain⟨n,rfl⟩:∃ q,n=q+1:=⟨n-1,by omega⟩
  have:j=i:=by omega
  simp_all [decide_eq_false,cond_false,List.drop_of_length_le,decide_eq_true,Bool.and_true,zhq,zkM]
 | succ m ih =>
  intro j n f h1 h2 h3;obtain⟨n,rfl⟩:∃ q,n=q+1:=⟨n-1,by omega⟩
  have hj:j<R.claims.length:=by omega
  have hd:(R.claims.take i).drop j=R.claims[j]::(R.claims.take i).drop (j+1):=by grind [List.drop_eq_getElem_cons]
  simp only[zhq,zkM];rw[decide_eq_true (by omega),cond_true,zhm hj,zaU,hi,zbE (by omega),hd]
  cases f with
  | false=>rw[cond_false,ih (j+1) n false (by omega) (by omega) (by omega)];simp
  | true =>
   rw[cond_true,zAl,zAl,ih (j+1) n _ (by omega) (by omega) (by omega)]
   simp_all
theorem znd {R:StateS}{w:ByteArray}{N:Nat}(hl:R.claims.length<=1000)(hN:R.claims.length<N):∀ (r p:List ClaimS) (n:Nat),p++r=R.claims->r.length<n ->
  zfE R w N zdB n ((zcY p).length:Int) (za2 false w (zcY p)).1 (p.length:Int)=some (((zcY R.claims).length:Int),(za2 false w (zcY R.claims)).1)
 | [],p,n,h,h1=>by
  obtain⟨n,rfl⟩:∃ q,n=q+1:=⟨n-1,by omega⟩;simp only[List.append_nil] at h;subst h;simp only[zfE,zkO];rw[ltF (Nat.le_refl _),cond_false];rfl
 | c::r,p,n,h,h1=>by
  obtain⟨n,rfl⟩:∃ q,n=q+1:=⟨n-1,by omega⟩
  have hx:R.claims[p.length]? = some c:=by grind
  have hlen:R.claims.length=p.length+(r.length+1):=by grind
  have ih:=znd (w:=w) hl hN r (p++[c]) n (by simpa using h) (by simpa using h1)
  have htk:R.claims.take p.length=p:=by grind
  rw[zgT,zi2,zhO (z:=false)] at ih
  have hpl:(zcY p).length<=p.length:=by
   have:∀ (m:Nat) (l:List ClaimS),l.length=m->(zcY l).length<=l.length:=by
    intro m
    induction m with
    | zero=>grind [List.length_eq_zero_iff,zcY]
    | succ m ih =>
     intro l hl;obtain⟨a,d,rfl⟩:∃ a d,l=a++[d]:=⟨l.dropLast,l.getLast (by grind),(List.dropLast_concat_getLast _).symm⟩;rw[zgT,zhO (z:=false)]
     grind
   exact this _ p rfl
  have hf:=λ kn k2=>zqq (w:=w) (n6:=((zcY p).length:Int)) (kn:=kn) (k2:=k2) hl hx p.length 0 N true (by omega) (by omega) (by omega);simp only[List.drop_zero,Bool.true_and,htk] at hf;simp only[zfE,zkO,zap];rw[ltT (by omega),cond_true]
  have key:∀ kn,zf3 R w N ((zcY p).length:Int) (p.length:Int) (zf2 R w (p.length:Int) (zfE R w N zdB n)) kn=zfE R w N zdB n (((if (za2 false c.customer (zcY p)).2=true then (zcY p).length else (zcY p).length+1:Nat)):Int) kn ((p++[c]).length:Int):=by
   intro kn;simp only[zf3,zap];rw[show ((0:Int))=((0:Nat):Int) from rfl,hf];simp only[zfr,zf2];rw[zbE (by omega),zbE (i:=p.length) (by omega)]
   rcases zjZ c.customer p with ⟨⟨d,d1,d2⟩,h3⟩|⟨h3,h4⟩
   .grind
   .grind
  rw[key,zaU,hx,zAl,key]
  grind
theorem RelC.cust {E:TE}{C:TC}{R:StateS}{n N:Nat}(h:RelC E C R.claims n)(hn:n<=150)(hN:n<N)(w:ByteArray):f139 N R w=some ((C.length:Int),(za2 false w C).1):=by
 have:=znd (R:=R) (w:=w) (N:=N) (by have:=h.ln;omega) (by have:=h.ln;omega) R.claims [] N rfl (by have:=h.ln;omega);rw[h.cs];exact this
end Go.Vc
namespace Go.Vc
open Go.Proofs
theorem zgU {κ σ:Type}[DecidableEq κ]{l:List (κ×σ)}(h:(l.map (·.1)).Nodup){j:Nat}{q:κ×σ}(hq:l[j]? = some q):zas q.1 l=some j:=by
 refine zbP.2 ⟨⟨q.2,hq⟩,λ i p hi hp he=>?_⟩
 have h1:(l.map (·.1))[i]? = some q.1:=by grind
 have h2:(l.map (·.1))[j]? = some q.1:=by grind
 have:=(List.getElem?_inj (zAm.1 h1).1 h).1 (h1.trans h2.symm);omega
section
variable {b:Bk} {R:StateS} {N:Nat}
theorem RelB.stone (hr:RelB b R)(hb:BkOK b){k:ByteArray}{i:Nat}(h:zas k b.S=some i):∃ a s,stO b.S k=some a/\getF b.S i=some a/\R.stones[i]? = some s/\s.name=k/\s.thick=a.thick/\(a.of=none->s.on=zaz) /\
  (∀ j,a.of=some j->∃ q,b.E[j]? = some q/\s.on=q.1/\s.on≠zaz/\s.place=a.place/\zas s.on b.E=some j):=by
 obtain⟨⟨a,ha⟩,_⟩:=zbP.1 h;have hi:=(zAm.1 ha).1
 have hi2:i<R.stones.length:=by have:=hr.st.len;omega
 have hs:R.stones[i]? = some R.stones[i]:=zAn hi2;obtain⟨h1,h2,h3,h4⟩:=hr.st.at_ i _ _ ha hs;have hg:getF b.S i=some a:=za4.2 ⟨k,ha⟩;refine⟨a,_,by grind [stO],hg,hs,h1,h2,h3,λ j hj=>?_⟩;obtain⟨q,q1,q2,q3⟩:=h4 j hj;exact⟨q,q1,q2,by rw[q2];exact hr.nm q (zAp q1),q3,by rw[q2];exact zgU hb.sh.ek q1⟩
theorem zft {S:TS}{k:ByteArray}(h:zas k S=none):stO S k=none:=by unfold stO;rw[h];rfl
theorem zcT {E:TE}{k:ByteArray}(h:zas k E=none):edO E k=none:=by unfold edO;rw[h];rfl
theorem RelB.edit (hr:RelB b R)(hb:BkOK b){k:ByteArray}{j:Nat}(h:zas k b.E=some j):∃ q,b.E[j]? = some q/\q.1=k/\edO b.E k=some q.2/\getF b.E j=some q.2/\R.editions[j]? = some (edR q)/\EdOK b.L.length q.2/\q∈b.E:=by
 obtain⟨⟨e,he⟩,_⟩:=zbP.1 h;have hg:getF b.E j=some e:=za4.2 ⟨k,he⟩;exact⟨(k,e),he,rfl,by grind [edO],hg,by rw[hr.ed,List.getElem?_map,he];rfl,hb.sh.gE hg,zAp he⟩
theorem zsY {c:ClaimS}{r:List ClaimS}{cu k:ByteArray}:za2 0 cu (za1 (c::r) k)=if c.edition=k/\c.customer=cu then (c.claimed-c.got,true) else za2 0 cu (za1 r k):=by
 by_cases he:c.edition=k
 .simp_all [if_pos,if_neg,za1,za2,dite]
 simp_all [if_neg,za1]
def ClAt (R:StateS)(cu k:ByteArray)(v:Int):Prop:=(v = -1/\za2 0 cu (za1 R.claims k)=(0,false)/\∀ c,c∈R.claims->¬ (c.customer=cu/\c.edition=k)) ∨
 ∃ (i:Nat) (c:ClaimS),v=(i:Int)/\R.claims[i]? = some c/\c.customer=cu/\c.edition=k/\za2 0 cu (za1 R.claims k)=(c.claimed-c.got,true)/\∀ j d,j<i->R.claims[j]? = some d->¬ (d.customer=cu/\d.edition=k)
theorem zpq {cu k:ByteArray}(hl:R.claims.length<=1000):∀ (r p:List ClaimS) (n:Nat),p++r=R.claims->r.length<n->(∀ c,c∈p->¬ (c.customer=cu/\c.edition=k))->za2 0 cu (za1 R.claims k)=za2 0 cu (za1 r k)->∃ v,zmQ R cu k ziG n (p.length:Int)=some v/\ClAt R cu k v
 | [],p,n,h,h1,h2,h3=>by
  obtain⟨n,rfl⟩:∃ q,n=q+1:=⟨n-1,by omega⟩
  have:R.claims.length=p.length:=by grind
  simp only[zmQ,zp];rw[ltF (by omega),cond_false];simp only[List.append_nil] at h;exact⟨-1,rfl, .inl ⟨rfl,h3,by grind⟩⟩
 | c::r,p,n,h,h1,h2,h3=>by
  obtain⟨n,rfl⟩:∃ q,n=q+1:=⟨n-1,by omega⟩
  have hx:R.claims[p.length]? = some c:=by grind
  have hlen:R.claims.length=p.length+(r.length+1):=by grind
  rw[zsY] at h3;simp only[zmQ,zp];rw[ltT (by omega),cond_true,zaU,hx,zAl,zAl,zbE (by omega)];by_cases hc:c.edition=k/\c.customer=cu
  .rw [decide_eq_true hc.2,cond_true,decide_eq_true hc.1,cond_true]
   rw[if_pos hc] at h3;refine⟨_,rfl, .inr ⟨p.length,c,rfl,hx,hc.2,hc.1,h3,λ j d hj hd=>h2 d ?_⟩⟩
   grind
  .rw [if_neg hc] at h3
   have ih:=zpq (cu:=cu) (k:=k) hl r (p++[c]) n (by simpa using h) (by simpa using h1) (λ d hd=>by
    grind) h3
   grind
theorem zhQ (hl:R.claims.length<=1000)(hN:R.claims.length<N)(cu k:ByteArray):∃ v,f95 N R cu k=some v/\ClAt R cu k v :=
 zpq hl R.claims [] N rfl hN (λ c hc=>by simp at hc) rfl
def finM (L:TL)(e:Int):Int:=if e=0 then (if L.length=120 then 15 else 0) else e
theorem za7 {L:TL}(e:Int):zbe ⟨true,L⟩ e=some (finM L e):=by
 simp only[zbe,finM,zaC,decide_eq_true_eq]
 grind
def zbk (L:TL):BookM:=⟨true,L⟩
variable {nms:TL} {ns:List Int} {L:TL}
theorem zzS:f81 N (zbk L) ⟨strC [115,116,111,110,101],nms,ns⟩=(f90 N L).bind λ x1=>(ix nms 0).bind λ x2=>(f112 N x1 x2).bind λ _=>(f113 N x1 ⟨strC [115,116,111,110,101],nms,ns⟩).bind (zbe (zbk L)):=by kernel_rfl
theorem zzT:f81 N (zbk L) ⟨strC [100,114,97,119],nms,ns⟩=(f90 N L).bind λ x1=>(ix nms 0).bind λ x2=>(f112 N x1 x2).bind λ _=>(f113 N x1 ⟨strC [100,114,97,119],nms,ns⟩).bind (zbe (zbk L)):=by kernel_rfl
theorem zzU:f81 N (zbk L) ⟨strC [112,114,105,110,116],nms,ns⟩=(f90 N L).bind λ x1=>(ix nms 0).bind λ x2=>(f112 N x1 x2).bind λ _=>(f113 N x1 ⟨strC [112,114,105,110,116],nms,ns⟩).bind (zbe (zbk L)):=by kernel_rfl
theorem zzV:f81 N (zbk L) ⟨strC [103,114,105,110,100],nms,ns⟩=(f90 N L).bind λ x1=>(ix nms 0).bind λ x2=>(f112 N x1 x2).bind λ _=>(f113 N x1 ⟨strC [103,114,105,110,100],nms,ns⟩).bind (zbe (zbk L)):=by kernel_rfl
theorem zzW:f81 N (zbk L) ⟨strC [99,108,97,105,109],nms,ns⟩=(f90 N L).bind λ x1=>(ix nms 0).bind λ x2=>(f112 N x1 x2).bind λ _=>(f114 N x1 ⟨strC [99,108,97,105,109],nms,ns⟩).bind (zbe (zbk L)):=by kernel_rfl
theorem zzX:f81 N (zbk L) ⟨strC [100,101,108,105,118,101,114],nms,ns⟩=(f90 N L).bind λ x1=>(ix nms 0).bind λ x2=>(f112 N x1 x2).bind λ _=>(f114 N x1 ⟨strC [100,101,108,105,118,101,114],nms,ns⟩).bind (zbe (zbk L)):=by kernel_rfl
theorem zzY:f81 N (zbk L) ⟨strC [101,100,105,116,105,111,110],nms,ns⟩=(f90 N L).bind λ x1=>(ix nms 0).bind λ x2=>(f112 N x1 x2).bind λ x3=>bif decide ((0:Int)<=x3) then zbe (zbk L) 6 else (bif decide ((List.length x1.editions:Int)=(5:Int)) then zbe (zbk L) 2 else zbe (zbk L) 0):=by kernel_rfl
theorem zzZ:f81 N (zbk L) ⟨strC [112,97,112,101,114],nms,ns⟩=(f90 N L).bind λ x1=>(ix nms 0).bind λ x2=>(f112 N x1 x2).bind λ x3=>bif decide (x3<(0:Int)) then zbe (zbk L) 5 else ((ix x1.editions x3).bind λ x10=>bif decide ((0:Int)<x10.ground) then zbe (zbk L) 21 else ((ix x1.editions x3).bind λ x11=>(ix ns (0:Int)).bind λ x12=>bif decide ((5000:Int)<(W (x11.paper+x12))) then zbe (zbk L) 16 else zbe (zbk L) 0)):=by kernel_rfl
theorem zz0:f81 N (zbk L) ⟨strC [99,108,111,115,101],nms,ns⟩=(f90 N L).bind λ x1=>(ix nms 0).bind λ x2=>(f112 N x1 x2).bind λ x3=>bif decide (x3<(0:Int)) then zbe (zbk L) 5 else ((ix x1.editions x3).bind λ x13=>bif x13.closed then zbe (zbk L) 21 else ((ix x1.editions x3).bind λ x14=>bif decide ((List.length x14.places:Int)=(1:Int)) then zbe (zbk L) 1 else zbe (zbk L) 0)):=by kernel_rfl
theorem zxm:f113 N R ⟨strC [115,116,111,110,101],nms,ns⟩=(ix nms 0).bind λ x1=>(f91 N R x1).bind λ x2=>bif decide ((0:Int)<=x2) then some 6 else (bif decide ((List.length R.stones:Int)=(8:Int)) then some 2 else some 0):=by kernel_rfl
theorem zxn:f113 N R ⟨strC [100,114,97,119],nms,ns⟩=(ix nms 0).bind λ x1=>(f91 N R x1).bind λ x2=>bif decide (x2<(0:Int)) then some 5 else ((ix R.stones x2).bind λ x3=>(ix nms 1).bind λ x4=>(f112 N R x4).bind λ x5=>bif decide (x5<(0:Int)) then some 5 else (bif decide (¬ x3.on=zaz) then some 20 else ((ix R.editions x5).bind λ x6=>bif x6.closed then some 21 else some 0))):=by kernel_rfl
theorem zxo:f113 N R ⟨strC [112,114,105,110,116],nms,ns⟩=(ix nms 0).bind λ x1=>(f91 N R x1).bind λ x2=>bif decide (x2<(0:Int)) then some 5 else ((ix R.stones x2).bind λ x3=>bif decide (x3.on=zaz) then some 1 else ((ix ns 0).bind λ x15=>(ix ns 1).bind λ x16=>bif decide ((W (x15+x16))=(0:Int)) then some 1 else
  ((f112 N R x3.on).bind λ x7=>(ix R.editions x7).bind λ x8=>(ix ns 0).bind λ x9=>(ix ns 1).bind λ x10=>(ix x8.places x3.place).bind λ x11=>bif decide (x11<(W (x9+x10))) then some 16 else some 0))):=by kernel_rfl
theorem zxp:f113 N R ⟨strC [103,114,105,110,100],nms,ns⟩=(ix nms 0).bind λ x1=>(f91 N R x1).bind λ x2=>bif decide (x2<(0:Int)) then some 5 else ((ix R.stones x2).bind λ x3=>bif decide (x3.on=zaz) then some 1 else
  ((f112 N R x3.on).bind λ x7=>(ix R.editions x7).bind λ x8=>bif !x8.closed then some 22 else ((f94 N x8 (max x8.ground (W (x3.place+(1:Int))))).bind λ x12=>(f94 N x8 x8.ground).bind λ x13 =>
   bif decide (x12<x13) then ((f126 N R x8.name).bind λ x14=>bif decide (x12<x14) then some 12 else (bif decide (x3.thick=(1:Int)) then some 13 else some 0)) else (bif decide (x3.thick=(1:Int)) then some 13 else some 0)))):=by kernel_rfl
theorem zxq:f114 N R ⟨strC [99,108,97,105,109],nms,ns⟩=(ix nms 1).bind λ x1=>(f112 N R x1).bind λ x2=>(ix nms 0).bind λ x3=>(ix nms 1).bind λ x4=>(f95 N R x3 x4).bind λ x5=>bif decide (x2<(0:Int)) then some 5 else ((ix R.editions x2).bind λ x6=>(ix nms 0).bind λ x7=>(f139 N R x7).bind λ x8 =>
  bif !x8.2 then (bif decide (x8.1=(6:Int)) then some 2 else zcR R ⟨strC [99,108,97,105,109],nms,ns⟩ N x6) else zcR R ⟨strC [99,108,97,105,109],nms,ns⟩ N x6):=by kernel_rfl
theorem zxr:f114 N R ⟨strC [100,101,108,105,118,101,114],nms,ns⟩=(ix nms 1).bind λ x1=>(f112 N R x1).bind λ x2=>(ix nms 0).bind λ x3=>(ix nms 1).bind λ x4=>(f95 N R x3 x4).bind λ x5=>bif decide (x2<(0:Int)) then some 5 else (bif decide (x5<(0:Int)) then some 5 else ((ix R.editions x2).bind λ x6 =>
  bif !x6.closed then some 22 else ((ix ns 0).bind λ x12=>(ix R.claims x5).bind λ x13=>(ix R.claims x5).bind λ x14=>bif decide ((W (x13.claimed-x14.got))<x12) then some 14 else ((ix ns 0).bind λ x15=>(ix x6.places (W ((List.length x6.places:Int)-(1:Int)))).bind λ x16=>bif decide (x16<x15) then some 16 else some 0)))):=by kernel_rfl
end
end Go.Vc
namespace Go.Vc
open Go.Proofs
theorem ix0 {α:Type}{x:α}{l:List α}:ix (x::l) (0:Int)=some x:=rfl
theorem ix1' {α:Type}{x y:α}{l:List α}:ix (x::y::l) (1:Int)=some y:=rfl
theorem zcU:ixO none = -1:=rfl
theorem zbf {j:Nat}:ixO (some j)=(j:Int):=rfl
theorem ge0 {j:Nat}:decide ((0:Int)<=(j:Int))=true:=decide_eq_true (by omega)
theorem ge0':decide ((0:Int)<=(-1:Int))=false:=rfl
theorem lt0 {j:Nat}:decide ((j:Int)<(0:Int))=false:=decide_eq_false (by omega)
theorem lt0':decide ((-1:Int)<(0:Int))=true:=rfl
section
variable {b:Bk} {R:StateS} {N:Nat}
theorem zxs (hr:RelB b R)(hb:BkOK b)(h90:f90 N b.L=some R)(hN:200<=N)(x:NewStone):f81 N (zbk b.L) (ordR (.c199 x))=some (finM b.L (zao b.S b.E b.C (.c199 x))):=by
 have hl:=hb.sh.sl;rw[show ordR (.c199 x)=⟨_,_,_⟩ from rfl,zzS,h90,zAl,ix0,zAl,zbN hr.ed hb.sh.el (by omega),zAl,zxm,ix0,zAl,zgS hr.st hl (by omega),zAl];simp only[zao]
 cases h:zas x.name b.S with
 | some i=>rw[zbf,ge0,cond_true,zAl,if_pos (show (some i).isSome=true from rfl)];exact za7 _
 | none =>
  rw[zcU,ge0',cond_false,if_neg (by simp)];by_cases h8:b.S.length=8
  .rw [decide_eq_true (by have:=hr.st.len;omega),cond_true,zAl,if_pos h8];exact za7 _
  .rw [decide_eq_false (by have:=hr.st.len;omega),cond_false,zAl,if_neg h8];exact za7 _
theorem zsZ (hr:RelB b R)(hb:BkOK b)(h90:f90 N b.L=some R)(hN:200<=N)(x:NewEdition):f81 N (zbk b.L) (ordR (.c201 x))=some (finM b.L (zao b.S b.E b.C (.c201 x))):=by
 have hl:=hb.sh.el
 have hlen:R.editions.length=b.E.length:=by rw[hr.ed,List.length_map]
 rw[show ordR (.c201 x)=⟨_,_,_⟩ from rfl,zzY,h90,zAl,ix0,zAl,zbN hr.ed hl (by omega),zAl];simp only[zao]
 cases h:zas x.name b.E with
 | some i=>rw[zbf,ge0,cond_true,if_pos (show (some i).isSome=true from rfl)];exact za7 _
 | none =>
  rw[zcU,ge0',cond_false,if_neg (by simp)];by_cases h8:b.E.length=5
  .rw [decide_eq_true (by omega),cond_true,if_pos h8];exact za7 _
  .rw [decide_eq_false (by omega),cond_false,if_neg h8];exact za7 _
theorem zxt (hr:RelB b R)(hb:BkOK b)(h90:f90 N b.L=some R)(hN:200<=N)(x:Paper)(ho:zbt (.c205 x)):f81 N (zbk b.L) (ordR (.c205 x))=some (finM b.L (zao b.S b.E b.C (.c205 x))):=by
 have hl:=hb.sh.el;rw[show ordR (.c205 x)=⟨_,_,_⟩ from rfl,zzZ,h90,zAl,ix0,zAl,zbN hr.ed hl (by omega),zAl];simp only[zao]
 cases h:zas x.edition b.E with
 | none=>rw[zcU,lt0',cond_true,zcT h];exact za7 _
 | some j =>
  obtain⟨q,_,_,e1,_,e2,e3,_⟩:=hr.edit hb h;rw[zbf,lt0,cond_false,zaU,e2,zAl,zAl,ix0,zAl,e1];show (bif decide ((0:Int)<q.2.from_) then _ else bif decide ((5000:Int)<W (q.2.paper+x.n)) then _ else _)=_;have:=e3.pp;have:=e3.sm;have:=zb8 e3.nn;have:=e3.dl;have:=e3.sp;simp only[zbt] at ho;rw[W_of (by omega) (by omega)];simp only[zaC,decide_eq_true_eq]
  split
  .exact za7 _
  .split <;> exact za7 _
theorem zxu (hr:RelB b R)(hb:BkOK b)(h90:f90 N b.L=some R)(hN:200<=N)(x:Closing):f81 N (zbk b.L) (ordR (.c209 x))=some (finM b.L (zao b.S b.E b.C (.c209 x))):=by
 have hl:=hb.sh.el;rw[show ordR (.c209 x)=⟨_,_,_⟩ from rfl,zz0,h90,zAl,ix0,zAl,zbN hr.ed hl (by omega),zAl];simp only[zao]
 cases h:zas x.edition b.E with
 | none=>rw[zcU,lt0',cond_true,zcT h];exact za7 _
 | some j =>
  obtain⟨q,_,_,e1,_,e2,e3,_⟩:=hr.edit hb h;rw[zbf,lt0,cond_false,zaU,e2,zAl,zAl,e1];show (bif q.2.closed then _ else bif decide ((q.2.places.length:Int)=1) then _ else _)=_
  cases hc:q.2.closed with
  | true=>rw[cond_true];simp only[hc,if_true];exact za7 _
  | false =>
   rw[cond_false];simp only[hc];by_cases h1:q.2.places.length=1
   .rw [decide_eq_true (by omega),cond_true];simp only[h1,if_true];exact za7 _
   .rw [decide_eq_false (by omega),cond_false];simp only[h1,if_false];exact za7 _
theorem zz1 (hr:RelB b R)(hb:BkOK b)(h90:f90 N b.L=some R)(hN:200<=N)(x:Drawing):f81 N (zbk b.L) (ordR (.c203 x))=some (finM b.L (zao b.S b.E b.C (.c203 x))):=by
 have hl:=hb.sh.el;have hf:=λ k=>zbN (N:=N) hr.ed hl (by omega) k;rw[show ordR (.c203 x)=⟨_,_,_⟩ from rfl,zzT,h90,zAl,ix0,zAl,hf,zAl,zxn,ix0,zAl,zgS hr.st hb.sh.sl (by omega),zAl];simp only[zao]
 cases h:zas x.stone b.S with
 | none=>rw[zcU,lt0',cond_true,zft h,zAl];exact za7 _
 | some i =>
  obtain⟨a,s,s1,_,s2,_,_,s3,s4⟩:=hr.stone hb h;rw[zbf,lt0,cond_false,zaU,s2,zAl,ix1',zAl,hf,zAl,s1]
  cases h2:zas x.edition b.E with
  | none=>rw[zcU,lt0',cond_true,zcT h2,zAl];exact za7 _
  | some j =>
   obtain⟨q,_,_,e1,_,e2,e3,_⟩:=hr.edit hb h2;rw[zbf,lt0,cond_false,zaU,e2,zAl,e1];dsimp only
   cases ha:a.of with
   | none =>
    rw[s3 ha,zdp,cond_false];simp only[Option.isSome_none,edR]
    cases q.2.closed <;> exact za7 _
   | some j' =>
    obtain⟨_,_,_,t3,_,_⟩:=s4 j' ha;rw[decide_eq_true t3,cond_true,zAl];exact za7 _
theorem zxv (hr:RelB b R)(hb:BkOK b)(h90:f90 N b.L=some R)(hN:200<=N)(x:Printing)(ho:zbt (.c207 x)):f81 N (zbk b.L) (ordR (.c207 x))=some (finM b.L (zao b.S b.E b.C (.c207 x))):=by
 have hl:=hb.sh.el;have hf:=λ k=>zbN (N:=N) hr.ed hl (by omega) k;rw[show ordR (.c207 x)=⟨_,_,_⟩ from rfl,zzU,h90,zAl,ix0,zAl,hf,zAl,zxo,ix0,zAl,zgS hr.st hb.sh.sl (by omega),zAl];simp only[zao];simp only[zbt] at ho
 cases h:zas x.stone b.S with
 | none=>rw[zcU,lt0',cond_true,zft h,zAl];exact za7 _
 | some i =>
  obtain⟨a,s,s1,s0,s2,_,_,s3,s4⟩:=hr.stone hb h;rw[zbf,lt0,cond_false,zaU,s2,zAl,s1,ix0,ix1',zAl,zAl,W_of (n:=x.good+x.spoilt) (by omega) (by omega)];dsimp only
  cases ha:a.of with
  | none=>rw[s3 ha,decide_eq_true rfl,cond_true,zAl];exact za7 _
  | some j =>
   obtain⟨q,t1,_,t3,t4,t5⟩:=s4 j ha;obtain⟨e,u1,u2,u3⟩:=(hb.sh.gS s0).getE ha
   have hq:e=q.2:=by obtain⟨q',v1,v2⟩:=zcS u1;rw[t1] at v1;cases v1;exact v2.symm
   subst hq
   have hE:R.editions[j]? = some (edR q):=by rw[hr.ed,List.getElem?_map,t1];rfl
   rw[decide_eq_false t3,cond_false,hf,t5,zAl,zbf,zaU,hE,zAl,zAl,zAl,t4];obtain⟨p1,p2,p3⟩:=(hb.sh.gE u1).at_ u2 (by omega);rw[show ix (edR q).places a.place=_ from p1,zAl];dsimp only;by_cases h0:x.good+x.spoilt=0
   .rw [decide_eq_true h0,cond_true,zAl,if_pos h0];exact za7 _
   .rw [decide_eq_false h0,cond_false,if_neg h0,u1]
    dsimp only;rw[W_of (n:=x.good+x.spoilt) (by omega) (by omega)];by_cases h5:q.2.at_ a.place<x.good+x.spoilt
    .rw [decide_eq_true h5,cond_true,zAl,if_pos h5];exact za7 _
    .rw [decide_eq_false h5,cond_false,zAl,if_neg h5];exact za7 _
theorem zxw (hr:RelB b R)(hb:BkOK b)(h90:f90 N b.L=some R)(hN:200<=N)(x:Grinding):f81 N (zbk b.L) (ordR (.c215 x))=some (finM b.L (zao b.S b.E b.C (.c215 x))):=by
 have hl:=hb.sh.el;have hL:=hb.ll;have hf:=λ k=>zbN (N:=N) hr.ed hl (by omega) k;rw[show ordR (.c215 x)=⟨_,_,_⟩ from rfl,zzV,h90,zAl,ix0,zAl,hf,zAl,zxp,ix0,zAl,zgS hr.st hb.sh.sl (by omega),zAl];simp only[zao]
 cases h:zas x.stone b.S with
 | none=>rw[zcU,lt0',cond_true,zft h,zAl];exact za7 _
 | some i =>
  obtain⟨a,s,s1,s0,s2,_,s5,s3,s4⟩:=hr.stone hb h;rw[zbf,lt0,cond_false,zaU,s2,zAl,s1];dsimp only
  cases ha:a.of with
  | none=>rw[s3 ha,decide_eq_true rfl,cond_true,zAl];exact za7 _
  | some j =>
   obtain⟨q,t1,_,t3,t4,t5⟩:=s4 j ha;obtain⟨e,u1,u2,u3⟩:=(hb.sh.gS s0).getE ha
   have hq:e=q.2:=by obtain⟨q',v1,v2⟩:=zcS u1;rw[t1] at v1;cases v1;exact v2.symm
   subst hq
   have hE:R.editions[j]? = some (edR q):=by rw[hr.ed,List.getElem?_map,t1];rfl
   have ek:=hb.sh.gE u1;have f0:=ek.f0;have fl:=ek.fl;have le:=ek.le;have hgr:(edR q).ground=q.2.from_:=rfl;rw[decide_eq_false t3,cond_false,hf,t5,zAl,zbf,zaU,hE,zAl,t4,hgr,W_of (n:=a.place+1) (by omega) (by omega)];rw[zsX ek (k:=max q.2.from_ (a.place+1)) (by omega) (by omega) (by omega) (by omega),zsX ek f0 (by omega) (by omega) (by omega),zAl,zAl,show (edR q).name=q.1 from rfl,hr.cl.open_ (N:=N) (zAp t1) ek (by omega) (by omega),zAl,s5];dsimp only;rw[u1];dsimp only;show ((bif !q.2.closed then _ else _:Option Int).bind _)=_
   cases hc:q.2.closed with
   | false=>rw[Bool.not_false,cond_true,if_pos rfl,zAl];exact za7 _
   | true =>
    rw[Bool.not_true,cond_false,if_neg (by simp)];simp only[zaC,decide_eq_true_eq];by_cases h1:q.2.rest (max q.2.from_ (a.place+1))<q.2.rest q.2.from_
    .rw [if_pos h1]
     by_cases h2:q.2.rest (max q.2.from_ (a.place+1))<q.2.open_
     .rw [if_pos h2,if_pos ⟨h1,h2⟩,zAl];exact za7 _
     .rw [if_neg h2,if_neg (show ¬ (q.2.rest (max q.2.from_ (a.place+1))<q.2.rest q.2.from_/\q.2.rest (max q.2.from_ (a.place+1))<q.2.open_) from λ h=>h2 h.2)]
      split <;> exact za7 _
    .rw [if_neg h1,if_neg (show ¬ (q.2.rest (max q.2.from_ (a.place+1))<q.2.rest q.2.from_/\q.2.rest (max q.2.from_ (a.place+1))<q.2.open_) from λ h=>h1 h.1)]
     split <;> exact za7 _
theorem zxx (hr:RelB b R)(hb:BkOK b)(h90:f90 N b.L=some R)(hN:200<=N)(x:Claiming)(ho:zbt (.c211 x)):f81 N (zbk b.L) (ordR (.c211 x))=some (finM b.L (zao b.S b.E b.C (.c211 x))):=by
 have hl:=hb.sh.el;have hL:=hb.ll;have hcl:=hb.sh.cl;have hf:=λ k=>zbN (N:=N) hr.ed hl (by omega) k;obtain⟨v,hv,_⟩:=zhQ (R:=R) (N:=N) (by have:=hr.cl.ln;omega) (by have:=hr.cl.ln;omega) x.customer x.edition;rw[show ordR (.c211 x)=⟨_,_,_⟩ from rfl,zzW,h90,zAl,ix0,zAl,hf,zAl,zxq,ix1',zAl,hf,zAl,ix0,zAl,zAl,hv,zAl];simp only[zao];simp only[zbt] at ho
 cases h:zas x.edition b.E with
 | none=>rw[zcU,lt0',cond_true,zcT h,zAl];exact za7 _
 | some j =>
  obtain⟨q,_,_,e1,_,e2,ek,e4⟩:=hr.edit hb h;have f0:=ek.f0;have fl:=ek.fl;have le:=ek.le;have o0:=ek.open0;have o1:=ek.ob
  have hc10:zcR R ⟨strC [99,108,97,105,109],[x.customer,x.edition],[x.n]⟩ N (edR q)=some (if q.2.rest q.2.from_<q.2.open_+x.n then 16 else 0):=by
   unfold zcR;rw[show (edR q).name=q.1 from rfl,hr.cl.open_ (N:=N) e4 ek (by omega) (by omega),zAl,ix0,zAl,show (edR q).ground=q.2.from_ from rfl,zsX ek f0 (by omega) (by omega) (by omega),zAl,W_of (by omega) (by omega)];simp only[zaC,decide_eq_true_eq]
   split <;> rfl
  rw[zbf,lt0,cond_false,zaU,e2,zAl,zAl,hr.cl.cust (N:=N) (by omega) (by omega),zAl,hc10,e1];dsimp only
  cases hk:(za2 false x.customer b.C).1 with
  | true=>rw[Bool.not_true,cond_false,zAl,if_neg (show ¬ (true=false/\b.C.length=6) by simp)];exact za7 _
  | false =>
   rw[Bool.not_false,cond_true];by_cases h6:b.C.length=6
   .rw [decide_eq_true (by omega),cond_true,zAl,if_pos (show false=false/\b.C.length=6 from ⟨rfl,h6⟩)];exact za7 _
   .rw [decide_eq_false (by omega),cond_false,zAl,if_neg (show ¬ (false=false/\b.C.length=6) from λ h=>h6 h.2)];exact za7 _
theorem zs0 (hr:RelB b R)(hb:BkOK b)(h90:f90 N b.L=some R)(hN:200<=N)(x:Delivery):f81 N (zbk b.L) (ordR (.c213 x))=some (finM b.L (zao b.S b.E b.C (.c213 x))):=by
 have hl:=hb.sh.el;have hL:=hb.ll;have hf:=λ k=>zbN (N:=N) hr.ed hl (by omega) k;obtain⟨v,hv,hv2⟩:=zhQ (R:=R) (N:=N) (by have:=hr.cl.ln;omega) (by have:=hr.cl.ln;omega) x.claiming.customer x.claiming.edition;rw[show ordR (.c213 x)=⟨_,_,_⟩ from rfl,zzX,h90,zAl,ix0,zAl,hf,zAl,zxr,ix1',zAl,hf,zAl,ix0,zAl,zAl,hv,zAl];simp only[zao]
 cases h:zas x.claiming.edition b.E with
 | none=>rw[zcU,lt0',cond_true,zcT h,zAl];exact za7 _
 | some j =>
  obtain⟨q,_,e0,e1,_,e2,ek,e4⟩:=hr.edit hb h;rw[zbf,lt0,cond_false,e1];have how:=hr.cl.ow q e4;rw[e0] at how;dsimp only
  rcases hv2 with ⟨rfl,v2,_⟩|⟨i,c,rfl,v1,_,_,v2,_⟩
  .rw [lt0',cond_true,zAl,how,v2,if_pos rfl];exact za7 _
  .obtain ⟨p1,p2,p3⟩:=ek.last_ (by omega)
   have hbd:=hr.cl.bd c (zAp v1);rw[lt0,cond_false,zaU,e2,zAl,ix0,zAl,zaU,v1,zAl,zAl,zAl,show (edR q).places=q.2.places from rfl,p1,zAl,W_of (n:=c.claimed-c.got) (by omega) (by omega),how,v2,if_neg (by simp)];show ((bif !q.2.closed then _ else _:Option Int).bind _)=_
   cases hc:q.2.closed with
   | false=>rw[Bool.not_false,cond_true,if_pos rfl,zAl];exact za7 _
   | true =>
    rw[Bool.not_true,cond_false,if_neg (by simp)];simp only[zaC,decide_eq_true_eq]
    split
    .exact za7 _
    .split <;> exact za7 _
theorem zz2 (hr:RelB b R)(hb:BkOK b)(h90:f90 N b.L=some R)(hN:200<=N){o:I97}(ho:zbt o):f81 N (zbk b.L) (ordR o)=some (finM b.L (zao b.S b.E b.C o)):=by
 cases o with
 | nil=>exact ho.elim
 | c199 x=>grind [zxs]
 | c201 x=>grind [zsZ]
 | c203 x=>grind [zz1]
 | c205 x=>grind [zxt]
 | c207 x=>grind [zxv]
 | c209 x=>grind [zxu]
 | c211 x=>grind [zxx]
 | c213 x=>grind [zs0]
 | c215 x=>grind [zxw]
theorem zz3 (hr:RelB b R)(hb:BkOK b)(h90:f90 N b.L=some R)(hN:200<=N){M:Nat}(hM:60<=M){y:ByteArray}{r:I97×Int}(h79:f79 M y=some r):f52 N (zbk b.L) y=some (errM b r):=by
 obtain⟨r',s,e1,e2,e3,e4⟩:=zon (N:=M) (N':=N) (y:=y) hM (by omega);rw[h79] at e1
 cases e1
 unfold f52 f55;rw[zAl,show (!(zbk b.L).made)=false from rfl,cond_false,e2,zAl,e3];unfold errM;by_cases h0:r.2=0
 .obtain ⟨f1,f2,_⟩:=e4 h0
  rw[decide_eq_true h0,cond_true,f2,zz2 hr hb h90 hN f1,if_pos h0];rfl
 grind
end
end Go.Vc
namespace Go.Vc
open Go.Proofs
section
variable {N:Nat} {i4:Int} {b101_0:List Stone} {b101_1:List Edition} {b101_2:List ClaimS} {r3:Int->(List Stone)->(List Edition)->(List ClaimS)->Option (StateS)} {nms:TL} {ns:List Int} {ee:Int} {x3:ByteArray} {x4 v7:Int}
theorem zz4:zaY N i4 b101_0 b101_1 b101_2 r3 (⟨strC [115,116,111,110,101],nms,ns⟩,ee) x3 x4 v7=(ix ns (0:Int)).bind λ x6=>(app 48 b101_0 [(Stone.mk x3 x6 zaz (0:Int))]).bind λ x7=>r3 (W (i4+(1:Int))) x7 b101_1 b101_2:=by kernel_rfl
theorem zz5:zaY N i4 b101_0 b101_1 b101_2 r3 (⟨strC [101,100,105,116,105,111,110],nms,ns⟩,ee) x3 x4 v7=(app 80 b101_1 [(Edition.mk x3 false [(0:Int)] (0:Int) (0:Int) (0:Int) (0:Int))]).bind λ x8=>r3 (W (i4+(1:Int))) b101_0 x8 b101_2:=by kernel_rfl
theorem zz6:zaY N i4 b101_0 b101_1 b101_2 r3 (⟨strC [100,114,97,119],nms,ns⟩,ee) x3 x4 v7=(ix nms (1:Int)).bind λ x9=>(ix b101_1 v7).bind λ x10=>(ix b101_0 x4).bind λ x11=>(setx b101_0 x4 (Stone.mk x11.name x11.thick x9 x11.place)).bind λ x12=>(ix x12 x4).bind λ x13=>(setx x12 x4 (Stone.mk x13.name x13.thick x13.on (W ((List.length x10.places:Int)-(1:Int))))).bind λ x14=>(setx b101_1 v7 x10).bind λ x15=>(ix x15 v7).bind λ x16=>(ix x15 v7).bind λ x17=>(zjg x17.places x16.places).bind λ x18=>(app 8 x16.places [(0:Int)]).bind λ x19=>(ix x15 v7).bind λ x20=>(setx x15 v7 (Edition.mk x20.name x20.closed x19 x20.ground x20.paper x20.delivered x20.spoilt)).bind λ x21=>r3 (W (i4+(1:Int))) x14 x21 b101_2:=by kernel_rfl
theorem zz7:zaY N i4 b101_0 b101_1 b101_2 r3 (⟨strC [112,97,112,101,114],nms,ns⟩,ee) x3 x4 v7=(ix b101_1 v7).bind λ x22=>(ix ns (0:Int)).bind λ x23=>(ix b101_1 v7).bind λ x24=>(setx b101_1 v7 (Edition.mk x24.name x24.closed x24.places x24.ground (W (x22.paper+x23)) x24.delivered x24.spoilt)).bind λ x25=>(ix x25 v7).bind λ x26=>(ix x26.places (0:Int)).bind λ x27=>(ix ns (0:Int)).bind λ x28=>(ix x26.places (0:Int)).bind λ x29=>(setx x26.places (0:Int) (W (x27+x28))).bind λ x30=>(setx x25 v7 (Edition.mk x26.name x26.closed x30 x26.ground x26.paper x26.delivered x26.spoilt)).bind λ x31=>r3 (W (i4+(1:Int))) b101_0 x31 b101_2:=by kernel_rfl
theorem zz8:zaY N i4 b101_0 b101_1 b101_2 r3 (⟨strC [112,114,105,110,116],nms,ns⟩,ee) x3 x4 v7=(ix b101_0 x4).bind λ x32=>(f112 N (StateS.mk b101_0 b101_1 b101_2) x32.on).bind λ x33=>(ix b101_0 x4).bind λ x34=>(ix b101_1 x33).bind λ x35=>(ix x35.places x34.place).bind λ x36=>(ix ns (0:Int)).bind λ x37=>(ix ns (1:Int)).bind λ x38=>(ix x35.places x34.place).bind λ x39=>(setx x35.places x34.place (W (x36-(W (x37+x38))))).bind λ x40=>(setx b101_1 x33 (Edition.mk x35.name x35.closed x40 x35.ground x35.paper x35.delivered x35.spoilt)).bind λ x41=>(ix x41 x33).bind λ x42=>(ix x42.places (W (x34.place+(1:Int)))).bind λ x43=>(ix ns (0:Int)).bind λ x44=>(ix x42.places (W (x34.place+(1:Int)))).bind λ x45=>(setx x42.places (W (x34.place+(1:Int))) (W (x43+x44))).bind λ x46=>(setx x41 x33 (Edition.mk x42.name x42.closed x46 x42.ground x42.paper x42.delivered x42.spoilt)).bind λ x47=>(ix x47 x33).bind λ x48=>(ix ns (1:Int)).bind λ x49=>(ix x47 x33).bind λ x50=>(setx x47 x33 (Edition.mk x50.name x50.closed x50.places x50.ground x50.paper x50.delivered (W (x48.spoilt+x49)))).bind λ x51=>r3 (W (i4+(1:Int))) b101_0 x51 b101_2:=by kernel_rfl
theorem zz9:zaY N i4 b101_0 b101_1 b101_2 r3 (⟨strC [99,108,111,115,101],nms,ns⟩,ee) x3 x4 v7=(ix b101_1 v7).bind λ x52=>(setx b101_1 v7 (Edition.mk x52.name true x52.places x52.ground x52.paper x52.delivered x52.spoilt)).bind λ x53=>r3 (W (i4+(1:Int))) b101_0 x53 b101_2:=by kernel_rfl
theorem zv9:zaY N i4 b101_0 b101_1 b101_2 r3 (⟨strC [99,108,97,105,109],nms,ns⟩,ee) x3 x4 v7=(ix nms (1:Int)).bind λ x54=>(f95 N (StateS.mk b101_0 b101_1 b101_2) x3 x54).bind λ x55=>zap (zbF i4 b101_0 b101_1 r3 (⟨strC [99,108,97,105,109],nms,ns⟩,ee)) λ k1=>bif decide (x55<(0:Int)) then ((ix nms (1:Int)).bind λ x60=>(app 48 b101_2 [(ClaimS.mk x3 x60 (0:Int) (0:Int))]).bind λ x61=>k1 (List.length b101_2:Int) x61) else (k1 x55 b101_2):=by kernel_rfl
theorem zA:zaY N i4 b101_0 b101_1 b101_2 r3 (⟨strC [100,101,108,105,118,101,114],nms,ns⟩,ee) x3 x4 v7=(ix nms (1:Int)).bind λ x62=>(f95 N (StateS.mk b101_0 b101_1 b101_2) x3 x62).bind λ x63=>(ix b101_2 x63).bind λ x64=>(ix ns (0:Int)).bind λ x65=>(ix b101_2 x63).bind λ x66=>(setx b101_2 x63 (ClaimS.mk x66.customer x66.edition x66.claimed (W (x64.got+x65)))).bind λ x67=>(ix b101_1 v7).bind λ x68=>(ix ns (0:Int)).bind λ x69=>(ix b101_1 v7).bind λ x70=>(setx b101_1 v7 (Edition.mk x70.name x70.closed x70.places x70.ground x70.paper (W (x68.delivered+x69)) x70.spoilt)).bind λ x71=>(ix x71 v7).bind λ x72=>(ix x71 v7).bind λ x73=>(zjg x73.places x72.places).bind λ x74=>(ix x71 v7).bind λ x75=>(zjg x75.places x72.places).bind λ x76=>(ix x72.places (W ((List.length x72.places:Int)-(1:Int)))).bind λ x77=>(ix ns (0:Int)).bind λ x78=>(ix x72.places (W ((List.length x72.places:Int)-(1:Int)))).bind λ x79=>(setx x72.places (W ((List.length x72.places:Int)-(1:Int))) (W (x77-x78))).bind λ x80=>(setx x71 v7 (Edition.mk x75.name x75.closed x80 x75.ground x75.paper x75.delivered x75.spoilt)).bind λ x81=>r3 (W (i4+(1:Int))) b101_0 x81 x67:=by kernel_rfl
theorem zAa:zaY N i4 b101_0 b101_1 b101_2 r3 (⟨strC [103,114,105,110,100],nms,ns⟩,ee) x3 x4 v7=(ix b101_0 x4).bind λ x82=>(f112 N (StateS.mk b101_0 b101_1 b101_2) x82.on).bind λ x83=>(ix b101_1 x83).bind λ x84=>(ix b101_0 x4).bind λ x85=>(ix b101_1 x83).bind λ x86=>(setx b101_1 x83 (Edition.mk x86.name x86.closed x86.places (max x84.ground (W (x85.place+(1:Int)))) x86.paper x86.delivered x86.spoilt)).bind λ x87=>(ix b101_0 x4).bind λ x88=>(ix b101_0 x4).bind λ x89=>(setx b101_0 x4 (Stone.mk x89.name (W (x88.thick-(1:Int))) x89.on x89.place)).bind λ x90=>(ix x90 x4).bind λ x91=>(setx x90 x4 (Stone.mk x91.name x91.thick zaz x91.place)).bind λ x92=>r3 (W (i4+(1:Int))) x92 x87 b101_2:=by kernel_rfl
end
section
variable {α:Type} {l:List α} {j:Nat} {d d':α}
theorem zc3 (h:j<l.length):setx l (j:Int) d=some (l.set j d):=by
 simp_all [if_pos,Int.toNat_natCast,setx]
theorem zfu (h:j<l.length):setx (l.set j d) (j:Int) d'=some (l.set j d'):=by
 grind [zc3,List.set_set]
theorem zj0 (h:j<l.length):ix (l.set j d) (j:Int)=some d:=by rw[zaU];simp[h]
theorem zj1:zjg l l=some l:=by simp[zjg]
end
theorem zs1 {E:TE}{j:Nat}{q:ByteArray×EditionM}(hq:E[j]? = some q)(f:EditionM->EditionM):(modF E j f).map edR=(E.map edR).set j (edR (q.1,f q.2)):=by
 obtain⟨hj,rfl⟩:=zAm.1 hq;apply List.ext_getElem?
 grind [zdC]
theorem zdq {E:TE}{j:Nat}{f:EditionM->EditionM}{i:Nat}{q:ByteArray×EditionM}(h:E[i]? = some q):∃ q',(modF E j f)[i]? = some q'/\q'.1=q.1:=by
 grind [zdC]
section
variable {E E':TE} {S:TS} {C:TC} {st:List Stone} {cl:List ClaimS} {n:Nat}
theorem RelS.mono (h:RelS E S st)(hE:∀ (j:Nat) q,E[j]? = some q->∃ q',E'[j]? = some q'/\q'.1=q.1):RelS E' S st :=
 ⟨h.len,λ i p s hp hs=>by
  obtain⟨h1,h2,h3,h4⟩:=h.at_ i p s hp hs;refine⟨h1,h2,h3,λ j hj=>?_⟩
  grind⟩
theorem RelS.set (h:RelS E S st){i:Nat}{p:ByteArray×StoneM}(hp:S[i]? = some p)(f:StoneM->StoneM){s:Stone}(hs:StR E (p.1,f p.2) s):RelS E (modF S i f) (st.set i s):=by
 refine⟨by rw[List.length_set,zlg];exact h.len,λ j p' s' hp' hs' => ?_⟩;rw[zdC] at hp';rw[List.getElem?_set] at hs';by_cases hj:i=j
 .grind
 .rw [if_neg hj] at hp' hs';exact h.at_ j p' s' hp' hs'
theorem RelS.app (h:RelS E S st){p:ByteArray×StoneM}{s:Stone}(hs:StR E p s):RelS E (S++[p]) (st++[s]):=by
 refine⟨by simp[h.len],λ j p' s' hp' hs' => ?_⟩;have hl:=h.len;by_cases hj:j<S.length
 .rw [List.getElem?_append_left hj] at hp'
  rw[List.getElem?_append_left (by omega)] at hs';exact h.at_ j p' s' hp' hs'
 grind
theorem RelC.up (h:RelC E C cl n):RelC E C cl (n+1):=⟨by have:=h.ln;omega,h.ow,h.cs,λ c hc=>by have:=h.bd c hc;omega,h.ed⟩
theorem RelC.modE (h:RelC E C cl n){j:Nat}{f:EditionM->EditionM}(hf:∀ e,(f e).owed=e.owed):RelC (modF E j f) C cl n:=by
 refine⟨h.ln,λ q hq=>?_,h.cs,h.bd,λ c hc=>?_⟩
 .rcases zhN hq with hq|⟨p,hp,rfl⟩
  .exact h.ow q hq
  .show (f p.2).owed=_;rw[hf];exact h.ow p (zAp hp)
 .obtain ⟨q,q1,q2⟩:=h.ed c hc
  obtain⟨i,hi⟩:=List.getElem?_of_mem q1;obtain⟨q',q3,q4⟩:=zdq (j:=j) (f:=f) hi
  grind
theorem zpr (h:∀ q,q∈E->q.1≠zaz){j:Nat}{f:EditionM->EditionM}:∀ q,q∈modF E j f->q.1≠zaz:=λ q hq=>by
 grind [zhN,zAp]
theorem zne {κ σ:Type}[DecidableEq κ]{z v:σ}{k:κ}:∀ {l:List (κ×σ)},za2 z k l=(v,true)->setK k v l=l
 | [],h=>by simp[za2] at h
 | p::r,h=>by
  simp only[za2] at h;simp only[setK];by_cases hp:p.1=k
  .grind
  .rw [if_neg hp] at h
   rw[if_neg hp,zne h]
theorem zps {κ σ:Type}[DecidableEq κ]{z v:σ}{k:κ}:∀ {l:List (κ×σ)},(za2 z k l).2=false->setK k v l=l++[(k,v)]
 | [],h=>rfl
 | p::r,h=>by
  simp only[za2] at h;simp only[setK];by_cases hp:p.1=k
  .grind
  .rw [if_neg hp] at h
   rw[if_neg hp,zps (v:=v) h];rfl
theorem zpt {cu k:ByteArray}{c':ClaimS}(h1:c'.customer=cu)(h2:c'.edition=k):∀ {cl:List ClaimS} {i:Nat} {c:ClaimS},cl[i]? = some c->c.customer=cu->c.edition=k->(∀ j d,j<i->cl[j]? = some d->¬ (d.customer=cu/\d.edition=k)) ->
  za1 (cl.set i c') k=setK cu (c'.claimed-c'.got) (za1 cl k)
 | [],i,c,h3,_,_,_=>by simp at h3
 | d::r,0,c,h3,h4,h5,_=>by
  simp_all [List.set_cons_zero,if_pos,za1,setK]
 | d::r,i+1,c,h3,h4,h5,h6=>by
  have ih:=zpt (k:=k) h1 h2 (cl:=r) (i:=i) (by simpa using h3) h4 h5 λ j d hj hd=>h6 (j+1) d (by omega) (by simpa using hd);have h0:=h6 0 d (by omega) rfl;rw[List.set_cons_succ];by_cases he:d.edition=k
  .simp_all [if_neg,za1,setK]
  grind [za1]
theorem zs2 {k:ByteArray}{c':ClaimS}(h2:c'.edition≠k):∀ {cl:List ClaimS} {i:Nat} {c:ClaimS},cl[i]? = some c->c.edition≠k->za1 (cl.set i c') k=za1 cl k
 | [],i,c,h3,_=>by simp at h3
 | d::r,0,c,h3,h4=>by
  grind [za1]
 | d::r,i+1,c,h3,h4=>by
  have ih:=zs2 (k:=k) h2 (cl:=r) (i:=i) (by simpa using h3) h4;rw[List.set_cons_succ];by_cases he:d.edition=k
  .grind [za1]
  grind [za1]
theorem zs3:∀ {a b:List ClaimS},a.map (·.customer)=b.map (·.customer)->zcY a=zcY b:=by
 intro a b h
 have:∀ l:List ClaimS,zcY l=(l.map (·.customer)).foldl (λ acc c=>setK c true acc) []:=λ l=>by unfold zcY;rw[List.foldl_map]
 grind
theorem zs4 {cl:List ClaimS}{i:Nat}{c c':ClaimS}(h:cl[i]? = some c)(hc:c'.customer=c.customer):zcY (cl.set i c')=zcY cl:=by
 refine zs3 ?_;obtain⟨hi,rfl⟩:=zAm.1 h;apply List.ext_getElem?
 grind
theorem RelC.set (h:RelC E C cl n)(hk:(E.map (·.1)).Nodup){j i:Nat}{q:ByteArray×EditionM}{c c':ClaimS}{f:EditionM->EditionM}(hq:E[j]? = some q)(hc:cl[i]? = some c)(e1:c.edition=q.1)(e2:c'.edition=q.1)(e3:c'.customer=c.customer)
  (hf:(f q.2).owed=setK c.customer (c'.claimed-c'.got) q.2.owed) (hfirst:∀ j d,j<i->cl[j]? = some d->¬ (d.customer=c.customer/\d.edition=q.1)) (hb:0<=c'.got/\c'.got<=c'.claimed/\c'.claimed<=5000*n):RelC (modF E j f) C (cl.set i c') n:=by
 refine⟨by rw[List.length_set];exact h.ln,λ p hp=>?_,by rw[zs4 hc e3];exact h.cs,λ d hd=>?_,λ d hd=>?_⟩
 .obtain ⟨m,hm⟩:=List.getElem?_of_mem hp
  rw[zdC] at hm
  split at hm
  .rename_i h0
   subst h0;rw[hq] at hm
   have hm:(q.1,f q.2)=p:=by grind
   subst hm;show (f q.2).owed=za1 _ q.1;rw[zpt (cu:=c.customer) (k:=q.1) e3 e2 hc rfl e1 hfirst,<- h.ow q (zAp hq)];exact hf
  .rename_i h0
   have hne:q.1≠p.1:=λ he=>by
    have h1:=zgU hk hm;rw[<- he,zgU hk hq] at h1
    grind
   rw[zs2 (by grind) hc (by grind)];exact h.ow p (zAp hm)
 .rcases List.mem_or_eq_of_mem_set hd with hd|rfl
  .exact h.bd d hd
  .exact hb
 .have key:∀ d:ClaimS,(∃ q0,q0∈E/\q0.1=d.edition)->∃ q0,q0∈modF E j f/\q0.1=d.edition:=λ d ⟨q0,q1,q2⟩=>by
   obtain⟨i',hi'⟩:=List.getElem?_of_mem q1;obtain⟨q',q3,q4⟩:=zdq (j:=j) (f:=f) hi'
   grind
  rcases List.mem_or_eq_of_mem_set hd with hd|rfl
  .exact key d (h.ed d hd)
  .exact key _ ⟨q,zAp hq,e2.symm⟩
theorem RelC.app (h:RelC E C cl n)(hk:(E.map (·.1)).Nodup){j:Nat}{q:ByteArray×EditionM}{c:ClaimS}{f:EditionM->EditionM}(hq:E[j]? = some q)(e1:c.edition=q.1)
  (hf:(f q.2).owed=setK c.customer (c.claimed-c.got) q.2.owed) (hno:(za2 0 c.customer (za1 cl q.1)).2=false) (hb:0<=c.got/\c.got<=c.claimed/\c.claimed<=5000*(n+1)):RelC (modF E j f) (setK c.customer true C) (cl++[c]) (n+1):=by
 refine⟨by have:=h.ln;simp;omega,λ p hp=>?_,by rw[zgT,<- h.cs],λ d hd=>?_,λ d hd=>?_⟩
 .obtain ⟨m,hm⟩:=List.getElem?_of_mem hp
  rw[zdC] at hm
  split at hm
  .rename_i h0
   subst h0;rw[hq] at hm
   have hm:(q.1,f q.2)=p:=by grind
   subst hm;show (f q.2).owed=za1 _ q.1;rw[zpp,hf,h.ow q (zAp hq),zps hno]
   grind [za1]
  .rename_i h0
   have hne:c.edition≠p.1:=λ he=>by
    have h1:=zgU hk hm;rw[<- he,e1,zgU hk hq] at h1
    grind
   rw[zpp,h.ow p (zAp hm)];simp[za1,hne]
 .rcases List.mem_append.1 hd with hd|hd
  .have:=h.bd d hd;omega
  grind
 .have key:∀ d:ClaimS,(∃ q0,q0∈E/\q0.1=d.edition)->∃ q0,q0∈modF E j f/\q0.1=d.edition:=λ d ⟨q0,q1,q2⟩=>by
   obtain⟨i',hi'⟩:=List.getElem?_of_mem q1;obtain⟨q',q3,q4⟩:=zdq (j:=j) (f:=f) hi'
   grind
  rcases List.mem_append.1 hd with hd|hd
  .exact key d (h.ed d hd)
  .simp at hd;subst hd;exact key _ ⟨q,zAp hq,e1.symm⟩
theorem RelC.newE (h:RelC E C cl n){k:ByteArray}{e:EditionM}(hk:zas k E=none)(he:e.owed=[]):RelC (E++[(k,e)]) C cl n:=by
 refine⟨h.ln,λ q hq=>?_,h.cs,h.bd,λ c hc=>?_⟩
 .rcases List.mem_append.1 hq with hq|hq
  .exact h.ow q hq
  .simp at hq;subst hq
   show e.owed=za1 cl k;rw[he];unfold za1
   rw[List.filter_eq_nil_iff.2 λ c hc=>?_];· rfl
   obtain⟨q,q1,q2⟩:=h.ed c hc
   grind [zfn]
 .obtain ⟨q,q1,q2⟩:=h.ed c hc
  grind
end
end Go.Vc
namespace Go.Vc
open Go.Proofs
def zcG (b:Bk)(y:ByteArray)(o:I97):Bk:=⟨b.L++[y],(doM b.S b.E b.C o).1,(doM b.S b.E b.C o).2.1,(doM b.S b.E b.C o).2.2⟩
def Stp (b:Bk)(R:StateS)(N:Nat)(o:I97)(y x3:ByteArray)(x4 v7:Int):Prop:=∃ R',RelB (zcG b y o) R'/\∀ i r3,zaY N i R.stones R.editions R.claims r3 (ordR o,0) x3 x4 v7=r3 (W (i+(1:Int))) R'.stones R'.editions R'.claims
section
variable {b:Bk} {R:StateS} {N:Nat} {y:ByteArray} {v4 v7:Int}
theorem ll1 {E:TE}{C:TC}{cl:List ClaimS}{L:TL}(h:RelC E C cl (L.length+1)):RelC E C cl (L++[y]).length:=by simpa using h
theorem zxy (hr:RelB b R)(hb:BkOK b)(x:NewStone):Stp b R N (.c199 x) y x.name v4 v7:=by
 have hl:=hr.st.len;have:=hb.sh.sl;refine⟨⟨R.stones++[⟨x.name,x.thick,zaz,0⟩],R.editions,R.claims⟩,⟨hr.ed,hr.st.app ⟨rfl,rfl,λ _=>rfl,λ j h=>by cases h⟩,ll1 hr.cl.up,hr.nm⟩,λ i r3=>?_⟩;rw[show ordR (.c199 x)=⟨_,_,_⟩ from rfl,zz4,ix0,zAl,zcp (by simp;omega) (by simp;omega),zAl]
theorem zs5 (hr:RelB b R)(hb:BkOK b)(x:NewEdition)(hn:x.name≠zaz)(hw:zao b.S b.E b.C (.c201 x)=0):Stp b R N (.c201 x) y x.name v4 v7:=by
 have hl:R.editions.length=b.E.length:=by rw[hr.ed,List.length_map]
 have:=hb.sh.el
 have hk:zas x.name b.E=none:=by
  cases h:zas x.name b.E with
  | none=>rfl
  | some j=>grind [zao]
 refine⟨⟨R.stones,R.editions++[⟨x.name,false,[0],0,0,0,0⟩],R.claims⟩,⟨by rw[hr.ed];simp[zcG,doM,edR],hr.st.mono λ j q hq=>⟨q, ?_,rfl⟩,ll1 (hr.cl.up.newE hk rfl),λ q hq=>?_⟩,λ i r3=>?_⟩
 .show (b.E++[_])[j]? = _
  grind
 .rcases List.mem_append.1 hq with hq|hq
  .exact hr.nm q hq
  grind
 .rw [show ordR (.c201 x)=⟨_,_,_⟩ from rfl,zz5,zcp (by simp;omega) (by simp;omega),zAl]
structure EdJ (b:Bk)(R:StateS)(j:Nat)(q:ByteArray×EditionM):Prop where
 hq:b.E[j]? = some q
 hj:j<R.editions.length
 hE:ix R.editions (j:Int)=some ⟨q.1,q.2.closed,q.2.places,q.2.from_,q.2.paper,q.2.delivered,q.2.spoilt⟩
 ok:EdOK b.L.length q.2
 hg:getF b.E j=some q.2
theorem RelB.edJ (hr:RelB b R)(hb:BkOK b){j:Nat}{q:ByteArray×EditionM}(hq:b.E[j]? = some q):EdJ b R j q:=by
 have hg:getF b.E j=some q.2:=za4.2 ⟨q.1,hq⟩;exact⟨hq,by rw[hr.ed,List.length_map];grind,by rw[zaU,hr.ed,List.getElem?_map,hq];rfl,hb.sh.gE hg,hg⟩
theorem RelB.edits (hr:RelB b R){j:Nat}{q:ByteArray×EditionM}(hq:b.E[j]? = some q)(f:EditionM->EditionM):R.editions.set j (edR (q.1,f q.2))=(modF b.E j f).map edR:=by rw[zs1 hq,hr.ed]
theorem zi3 (hr:RelB b R){j:Nat}{q:ByteArray×EditionM}(hq:b.E[j]? = some q)(f:EditionM->EditionM)(hf:∀ e,(f e).owed=e.owed){S':TS}{st':List Stone}(hst:RelS (modF b.E j f) S' st'){d:Edition}(hd:d=edR (q.1,f q.2)) :
  RelB ⟨b.L++[y],S',modF b.E j f,b.C⟩ ⟨st',R.editions.set j d,R.claims⟩:=by
 subst hd;exact⟨hr.edits hq f,hst,ll1 (hr.cl.up.modE hf),zpr hr.nm⟩
theorem zxz (hr:RelB b R)(hb:BkOK b)(x:Paper)(ho:zbt (.c205 x))(hw:zao b.S b.E b.C (.c205 x)=0):Stp b R N (.c205 x) y x.edition v4 (ixO (zas x.edition b.E)):=by
 cases h:zas x.edition b.E with
 | none=>grind [zcT,zao]
 | some j =>
  obtain⟨q,hq,_,e1,_⟩:=hr.edit hb h;obtain⟨_,hj,hE,ek,hg⟩:=hr.edJ hb hq;simp only[zbt] at ho;have h1:=ek.pp;have h2:=ek.sm;have h3:=zb8 ek.nn;have h4:=ek.dl;have h5:=ek.sp;have hne:=ek.ne;obtain⟨p1,p2,p3⟩:=ek.at_ (k:=0) (by omega) (by omega)
  have hl0:0<q.2.places.length:=by omega
  have hdo:zcG b y (.c205 x)=⟨b.L++[y],b.S,modF b.E j λ e=>{ e with paper:=e.paper+x.n,places:=e.places.set 0 (e.at_ 0+x.n) },b.C⟩:=by simp only[zcG,doM,h]
  refine⟨⟨R.stones,R.editions.set j ⟨q.1,q.2.closed,q.2.places.set 0 (q.2.at_ 0+x.n),q.2.from_,q.2.paper+x.n,q.2.delivered,q.2.spoilt⟩,R.claims⟩, ?_,λ i r3=>?_⟩
  .rw [hdo]
   refine zi3 hr hq _ ?_ (hr.st.mono λ j q hq=>zdq hq) ?_ <;> intros <;> rfl
  .have w1:W (q.2.paper+x.n)=q.2.paper+x.n:=W_of (by omega) (by omega)
   have w2:W (q.2.at_ 0+x.n)=q.2.at_ 0+x.n:=W_of (by omega) (by omega);have s0:∀ v,setx q.2.places (0:Int) v=some (q.2.places.set 0 v):=λ v=>zc3 (j:=0) hl0;rw[show ordR (.c205 x)=⟨_,_,_⟩ from rfl,zz7,zbf];simp only[hE,zAl,ix0,zc3 hj,zj0 hj,zfu hj,p1,s0,w1,w2]
theorem zxA (hr:RelB b R)(hb:BkOK b)(x:Closing)(hw:zao b.S b.E b.C (.c209 x)=0):Stp b R N (.c209 x) y x.edition v4 (ixO (zas x.edition b.E)):=by
 cases h:zas x.edition b.E with
 | none=>grind [zcT,zao]
 | some j =>
  obtain⟨q,hq,_,e1,_⟩:=hr.edit hb h;obtain⟨_,hj,hE,ek,hg⟩:=hr.edJ hb hq
  have hdo:zcG b y (.c209 x)=⟨b.L++[y],b.S,modF b.E j λ e=>{ e with closed:=true },b.C⟩:=by simp only[zcG,doM,h]
  refine⟨⟨R.stones,R.editions.set j ⟨q.1,true,q.2.places,q.2.from_,q.2.paper,q.2.delivered,q.2.spoilt⟩,R.claims⟩, ?_,λ i r3=>?_⟩
  .rw [hdo]
   refine zi3 hr hq _ ?_ (hr.st.mono λ j q hq=>zdq hq) ?_ <;> intros <;> rfl
  .rw [show ordR (.c209 x)=⟨_,_,_⟩ from rfl,zz9,zbf]
   simp only[hE,zAl,zc3 hj]
theorem zAb (hr:RelB b R)(hb:BkOK b)(x:Drawing)(hw:zao b.S b.E b.C (.c203 x)=0):Stp b R N (.c203 x) y x.stone (ixO (zas x.stone b.S)) (ixO (zas x.edition b.E)):=by
 cases hs:zas x.stone b.S with
 | none=>grind [zft,zao]
 | some i0 =>
 cases h:zas x.edition b.E with
 | none=>grind [zcT,zao]
 | some j =>
  obtain⟨a,s,t1,t2,t3,t4,t5,t6,t7⟩:=hr.stone hb hs;obtain⟨q,hq,hqk,e1,_⟩:=hr.edit hb h;obtain⟨_,hj,hE,ek,hg⟩:=hr.edJ hb hq;have hL:=hb.ll;have hle:=ek.le;have hne:=ek.ne;have hi0:=(zAm.1 t3).1
  have hs3:ix R.stones (i0:Int)=some s:=by rw[zaU,t3]
  obtain⟨p,hp,hpa⟩:=zcS t2
  have hpk:p.1=x.stone:=by grind [zbP]
  have hdo:zcG b y (.c203 x)=⟨b.L++[y],modF b.S i0 λ a=>{ a with of:=some j,place:=(q.2.places.length:Int)-1 },modF b.E j λ e=>{ e with places:=e.places++[0] },b.C⟩:=by grind [zcG,doM]
  refine⟨⟨R.stones.set i0 ⟨s.name,s.thick,x.edition,(q.2.places.length:Int)-1⟩,R.editions.set j ⟨q.1,q.2.closed,q.2.places++[0],q.2.from_,q.2.paper,q.2.delivered,q.2.spoilt⟩,R.claims⟩, ?_,λ i r3=>?_⟩
  .rw [hdo]
   refine zi3 hr hq _ ?_ (RelS.set (hr.st.mono λ j q hq=>zdq hq) hp _ ⟨?_, ?_, ?_,λ j' hj' => ?_⟩) ?_
   .intro e;rfl
   .grind
   .grind
   .grind
   rotate_left
   .rfl
   have hj':some j=some j':=hj'
   cases hj'
   obtain⟨q',q1,q2⟩:=zdq (j:=j) (f:=λ e=>{ e with places:=e.places++[0] }) hq
   grind
  .have w1:W ((q.2.places.length:Int)-1)=(q.2.places.length:Int)-1:=W_of (by omega) (by omega)
   have ha:app 8 q.2.places [(0:Int)]=some (q.2.places++[0]):=zcp (by simp;omega) (by simp;omega);rw[show ordR (.c203 x)=⟨_,_,_⟩ from rfl,zz6,zbf,zbf];simp only[hE,hs3,zAl,ix1',zc3 hi0,zj0 hi0,zfu hi0,zc3 hj,zj0 hj,zfu hj,zj1,w1,ha]
theorem zxB (hr:RelB b R)(hb:BkOK b)(hN:200<=N)(x:Printing)(ho:zbt (.c207 x))(hw:zao b.S b.E b.C (.c207 x)=0):Stp b R N (.c207 x) y x.stone (ixO (zas x.stone b.S)) v7:=by
 cases hs:zas x.stone b.S with
 | none=>grind [zft,zao]
 | some i0 =>
  obtain⟨a,s,t1,t2,t3,t4,t5,t6,t7⟩:=hr.stone hb hs;simp only[zao,t1] at hw
  cases ha:a.of with
  | none=>grind
  | some j =>
   obtain⟨q,hq,u1,u2,u3,u4⟩:=t7 j ha;obtain⟨e,v1,v2,v3⟩:=(hb.sh.gS t2).getE ha;obtain⟨_,hj,hE,ek,hg⟩:=hr.edJ hb hq;rw[hg] at v1;cases v1;rw[ha] at hw;simp only[hg] at hw;have hL:=hb.ll;have hle:=ek.le;simp only[zbt] at ho;have h1:=ek.pp;have h2:=ek.sm;have h3:=zb8 ek.nn;have h4:=ek.dl;have h5:=ek.sp
   have hs3:ix R.stones (i0:Int)=some s:=by rw[zaU,t3]
   obtain⟨p,hp⟩:∃ p:Nat,a.place=(p:Int):=⟨a.place.toNat,by omega⟩;rw[hp] at v2 v3
   have hpl:p+1<q.2.places.length:=by omega
   obtain⟨p1,p2,p3⟩:=ek.at_ (k:=(p:Int)) (by omega) (by omega);obtain⟨q1,q2,q3⟩:=ek.at_ (k:=((p+1:Nat):Int)) (by omega) (by omega)
   have hf:f112 N R s.on=some (j:Int):=by rw[zbN hr.ed hb.sh.el (by omega),u4];rfl
   have hdo:zcG b y (.c207 x)=⟨b.L++[y],b.S,modF b.E j λ e=>{ e with places:=(e.places.set a.place.toNat (e.at_ a.place-(x.good+x.spoilt))).set (a.place.toNat+1) (e.at_ (a.place+1)+x.good),spoilt:=e.spoilt+x.spoilt },b.C⟩:=by grind [zcG,doM]
   refine⟨⟨R.stones,R.editions.set j ⟨q.1,q.2.closed,(q.2.places.set p (q.2.at_ p-(x.good+x.spoilt))).set (p+1) (q.2.at_ ((p+1:Nat):Int)+x.good),q.2.from_,q.2.paper,q.2.delivered,q.2.spoilt+x.spoilt⟩,R.claims⟩, ?_,λ i r3=>?_⟩
   .rw [hdo]
    refine zi3 hr hq _ ?_ (hr.st.mono λ j q hq=>zdq hq) ?_
    .intro e;rfl
    .rw [hp];rfl
   .have w1:W (x.good+x.spoilt)=x.good+x.spoilt:=W_of (by omega) (by omega)
    have w2:W (q.2.at_ p-(x.good+x.spoilt))=q.2.at_ p-(x.good+x.spoilt):=W_of (by omega) (by omega);have w3:W ((p:Int)+1)=((p+1:Nat):Int):=zbE (by omega);have w4:W (q.2.at_ ((p+1:Nat):Int)+x.good)=q.2.at_ ((p+1:Nat):Int)+x.good:=W_of (by omega) (by omega);have w5:W (q.2.spoilt+x.spoilt)=q.2.spoilt+x.spoilt:=W_of (by omega) (by omega)
    have g1:∀ v,ix (q.2.places.set p v) ((p+1:Nat):Int)=some (q.2.at_ ((p+1:Nat):Int)):=λ v=>by
     rw[zaU,List.getElem?_set_ne (by omega),<- zaU,q1]
    have g2:∀ v v',setx (q.2.places.set p v) ((p+1:Nat):Int) v'=some ((q.2.places.set p v).set (p+1) v'):=λ v v' => zc3 (by simpa using hpl);have g3:∀ v,setx q.2.places (p:Int) v=some (q.2.places.set p v):=λ v=>zc3 (by omega)
    have hsp:s.place=(p:Int):=by rw[u3,hp]
    rw[show ordR (.c207 x)=⟨_,_,_⟩ from rfl,zz8,zbf];simp only[hE,hs3,hf,hsp,zAl,ix0,ix1',zc3 hj,zj0 hj,zfu hj,p1,g1,g2,g3,w1,w2,w3,w4,w5]
theorem zxC (hr:RelB b R)(hb:BkOK b)(hN:200<=N)(x:Grinding)(hw:zao b.S b.E b.C (.c215 x)=0):Stp b R N (.c215 x) y x.stone (ixO (zas x.stone b.S)) v7:=by
 cases hs:zas x.stone b.S with
 | none=>grind [zft,zao]
 | some i0 =>
  obtain⟨a,s,t1,t2,t3,t4,t5,t6,t7⟩:=hr.stone hb hs;simp only[zao,t1] at hw
  cases ha:a.of with
  | none=>grind
  | some j =>
   obtain⟨q,hq,u1,u2,u3,u4⟩:=t7 j ha;obtain⟨e,v1,v2,v3⟩:=(hb.sh.gS t2).getE ha;obtain⟨_,hj,hE,ek,hg⟩:=hr.edJ hb hq;rw[hg] at v1;cases v1;have hL:=hb.ll;have hle:=ek.le;have f0:=ek.f0;have fl:=ek.fl;have st:=hb.sh.gS t2;have st1:=st.t1;have st9:=st.t9;have hi0:=(zAm.1 t3).1
   have hs3:ix R.stones (i0:Int)=some s:=by rw[zaU,t3]
   have hf:f112 N R s.on=some (j:Int):=by rw[zbN hr.ed hb.sh.el (by omega),u4];rfl
   obtain⟨p,hp,hpa⟩:=zcS t2
   have hpk:p.1=x.stone:=by grind [zbP]
   have hdo:zcG b y (.c215 x)=⟨b.L++[y],modF b.S i0 λ a=>⟨a.thick-1,none,0⟩,modF b.E j λ e=>{ e with from_:=max e.from_ (a.place+1) },b.C⟩:=by grind [zcG,doM]
   refine⟨⟨R.stones.set i0 ⟨s.name,s.thick-1,zaz,s.place⟩,R.editions.set j ⟨q.1,q.2.closed,q.2.places,max q.2.from_ (a.place+1),q.2.paper,q.2.delivered,q.2.spoilt⟩,R.claims⟩, ?_,λ i r3=>?_⟩
   .rw [hdo]
    refine zi3 hr hq _ ?_ (RelS.set (hr.st.mono λ j q hq=>zdq hq) hp _ ⟨?_, ?_, ?_, ?_⟩) ?_
    .intro e;rfl
    .grind
    .grind
    .intro _;rfl
    .grind
    .rfl
   .have w1:W (a.place+1)=a.place+1:=W_of (by omega) (by omega)
    have w2:W (a.thick-1)=a.thick-1:=W_of (by omega) (by omega);rw[show ordR (.c215 x)=⟨_,_,_⟩ from rfl,zAa,zbf];simp only[hE,hs3,hf,u3,t5,zAl,zc3 hi0,zj0 hi0,zfu hi0,zc3 hj,w1,w2]
end
end Go.Vc
namespace Go.Vc
open Go.Proofs
theorem zu8 {α:Type}{l:List α}{j:Nat}{d:α}(h:l[j]? = some d):l.set j d=l:=by
 grind [zAm,List.set_getElem_self]
section
variable {b:Bk} {R:StateS} {N:Nat} {y:ByteArray} {v4 v7:Int}
theorem zxD (hr:RelB b R)(hb:BkOK b)(hN:200<=N)(x:Claiming)(ho:zbt (.c211 x))(hw:zao b.S b.E b.C (.c211 x)=0):Stp b R N (.c211 x) y x.customer v4 (ixO (zas x.edition b.E)):=by
 cases h:zas x.edition b.E with
 | none=>grind [zcT,zao]
 | some j =>
  obtain⟨q,hq,hqk,e1,_⟩:=hr.edit hb h;obtain⟨_,hj,hE,ek,hg⟩:=hr.edJ hb hq;have hL:=hb.ll;simp only[zbt] at ho;obtain⟨v,hv,hv2⟩:=zhQ (R:=R) (N:=N) (by have:=hr.cl.ln;omega) (by have:=hr.cl.ln;omega) x.customer x.edition;have how:=hr.cl.ow q (zAp hq);rw[hqk] at how
  let f:EditionM->EditionM:=λ e=>{ e with owed:=setK x.customer ((za2 0 x.customer e.owed).1+x.n) e.owed,open_:=e.open_+x.n }
  have hdo:zcG b y (.c211 x)=⟨b.L++[y],b.S,modF b.E j f,setK x.customer true b.C⟩:=by grind [zcG,doM]
  have hEd:R.editions=(modF b.E j f).map edR:=by
   rw[zs1 hq,hr.ed];exact(zu8 (by rw[List.getElem?_map,hq];rfl)).symm
  have hst:RelS (modF b.E j f) b.S R.stones:=hr.st.mono λ j q hq=>zdq hq
  rcases hv2 with ⟨rfl,l1,l2⟩|⟨i,c,rfl,c1,c2,c3,l1,l2⟩
  .refine ⟨⟨R.stones,R.editions,R.claims++[⟨x.customer,x.edition,x.n,0⟩]⟩, ?_,λ i r3=>?_⟩
   .rw [hdo]
    refine⟨hEd,hst,ll1 (hr.cl.app (c:=⟨x.customer,x.edition,x.n,0⟩) hb.sh.ek hq hqk.symm ?_ ?_ ⟨by simp,by grind,by grind⟩),zpr hr.nm⟩
    .grind
    .rw [hqk,l1]
   .have w1:W ((0:Int)+x.n)=x.n:=by grind [W_of]
    have i1:∀ c:ClaimS,ix (R.claims++[c]) (R.claims.length:Int)=some c:=λ c=>by rw[zaU];simp
    have i2:∀ c c':ClaimS,setx (R.claims++[c]) (R.claims.length:Int) c'=some (R.claims++[c']):=λ c c' => by grind [zc3]
    have ha:∀ c:ClaimS,app 48 R.claims [c]=some (R.claims++[c]):=λ c=>zcp (by have:=hr.cl.ln;simp;omega) (by have:=hr.cl.ln;simp;omega);rw[show ordR (.c211 x)=⟨_,_,_⟩ from rfl,zv9,ix1',zAl,show f95 N ⟨R.stones,R.editions,R.claims⟩ x.customer x.edition=_ from hv,zAl,zap,lt0',cond_true,zAl,ha,zAl,zbF]
    grind [ix0]
  .have hbd:=hr.cl.bd c (zAp c1)
   have hi:=(zAm.1 c1).1
   have hsame:setK x.customer true b.C=b.C:=by
    rw[hr.cl.cs]
    rcases zjZ x.customer R.claims with ⟨_,h3⟩|⟨h3,_⟩
    .exact zne h3
    .grind
   refine⟨⟨R.stones,R.editions,R.claims.set i ⟨c.customer,c.edition,c.claimed+x.n,c.got⟩⟩, ?_,λ i' r3=>?_⟩
   .rw [hdo]
    refine⟨hEd,hst,ll1 ?_,zpr hr.nm⟩;rw[hsame];refine hr.cl.up.set hb.sh.ek hq c1 (by rw[c3,hqk]) (by grind) rfl ?_ (by grind) ⟨by grind,by grind,by grind⟩
    grind
   .have w1:W (c.claimed+x.n)=c.claimed+x.n:=W_of (by omega) (by omega)
    have i1:ix R.claims (i:Int)=some c:=by rw[zaU,c1]
    rw[show ordR (.c211 x)=⟨_,_,_⟩ from rfl,zv9,ix1',zAl,show f95 N ⟨R.stones,R.editions,R.claims⟩ x.customer x.edition=_ from hv,zAl,zap,lt0,cond_false,zbF]
    grind [zc3,ix0]
theorem zs6 (hr:RelB b R)(hb:BkOK b)(hN:200<=N)(x:Delivery)(ho:zbt (.c213 x))(hw:zao b.S b.E b.C (.c213 x)=0):Stp b R N (.c213 x) y x.claiming.customer v4 (ixO (zas x.claiming.edition b.E)):=by
 cases h:zas x.claiming.edition b.E with
 | none=>grind [zcT,zao]
 | some j =>
  obtain⟨q,hq,hqk,e1,_⟩:=hr.edit hb h;obtain⟨_,hj,hE,ek,hg⟩:=hr.edJ hb hq;have hL:=hb.ll;have hle:=ek.le;have hne:=ek.ne;simp only[zbt] at ho;obtain⟨v,hv,hv2⟩:=zhQ (R:=R) (N:=N) (by have:=hr.cl.ln;omega) (by have:=hr.cl.ln;omega) x.claiming.customer x.claiming.edition;have how:=hr.cl.ow q (zAp hq);rw[hqk] at how;simp only[zao,e1] at hw;rw[how] at hw
  rcases hv2 with ⟨rfl,l1,l2⟩|⟨i,c,rfl,c1,c2,c3,l1,l2⟩
  .grind
  .rw [l1] at hw
   dsimp only at hw
   have hn14:x.claiming.n<=c.claimed-c.got:=by omega
   have h1:=ek.pp;have h2:=ek.sm;have h3:=zb8 ek.nn;have h4:=ek.dl;have h5:=ek.sp;obtain⟨p1,p2,p3⟩:=ek.last_ (by omega);have hbd:=hr.cl.bd c (zAp c1);have hi:=(zAm.1 c1).1
   let f:EditionM->EditionM:=λ e=>{ e with owed:=setK x.claiming.customer ((za2 0 x.claiming.customer e.owed).1-x.claiming.n) e.owed,open_:=e.open_-x.claiming.n,delivered:=e.delivered+x.claiming.n,places:=e.places.set (e.places.length-1) (e.last-x.claiming.n) }
   have hdo:zcG b y (.c213 x)=⟨b.L++[y],b.S,modF b.E j f,b.C⟩:=by grind [zcG,doM]
   refine⟨⟨R.stones,R.editions.set j ⟨q.1,q.2.closed,q.2.places.set (q.2.places.length-1) (q.2.last-x.claiming.n),q.2.from_,q.2.paper,q.2.delivered+x.claiming.n,q.2.spoilt⟩,R.claims.set i ⟨c.customer,c.edition,c.claimed,c.got+x.claiming.n⟩⟩, ?_,λ i' r3=>?_⟩
   .rw [hdo]
    refine⟨hr.edits hq f,hr.st.mono λ j q hq=>zdq hq,ll1 ?_,zpr hr.nm⟩;refine hr.cl.up.set hb.sh.ek hq c1 (by rw[c3,hqk]) (by grind) rfl ?_ (by grind) ⟨by grind,by grind,by grind⟩
    grind
   .have w1:W (c.got+x.claiming.n)=c.got+x.claiming.n:=W_of (by omega) (by omega)
    have w2:W (q.2.delivered+x.claiming.n)=q.2.delivered+x.claiming.n:=W_of (by omega) (by omega);have w3:W (q.2.last-x.claiming.n)=q.2.last-x.claiming.n:=W_of (by omega) (by omega)
    have w4:W ((q.2.places.length:Int)-1)=((q.2.places.length-1:Nat):Int):=by grind [W_of]
    have i1:ix R.claims (i:Int)=some c:=by rw[zaU,c1]
    have g3:∀ v,setx q.2.places (((q.2.places.length-1:Nat)):Int) v=some (q.2.places.set (q.2.places.length-1) v):=λ v=>zc3 (by omega);rw[w4] at p1;rw[show ordR (.c213 x)=⟨_,_,_⟩ from rfl,zA,zbf];simp only[ix1',zAl,show f95 N ⟨R.stones,R.editions,R.claims⟩ x.claiming.customer x.claiming.edition=_ from hv,i1,ix0,zc3 hi,hE,zc3 hj,zj0 hj,zfu hj,zj1,w4,p1,g3,w1,w2,w3]
theorem zAc (hr:RelB b R)(hb:BkOK b)(hN:200<=N){o:I97}(h80:f80 N y=some (ordR o,0))(ho:zbt o)(hnm:∀ z,z∈(ordR o).names->zjn z=true)(hw:zao b.S b.E b.C o=0) :
  ∃ R',RelB (zcG b y o) R'/\∀ (L:TL) (i:Nat),L[i]? = some y->i<1000->∀ k0 n,zgK L N k0 (n+1) (i:Int) R.stones R.editions R.claims=zgK L N k0 n ((i+1:Nat):Int) R'.stones R'.editions R'.claims:=by
 have hS:=λ k=>zgS (N:=N) hr.st hb.sh.sl (by omega) k;have hE:=λ k=>zbN (N:=N) hr.ed hb.sh.el (by omega) k
 have key:∀ (nm:ByteArray) (ed:ByteArray),((ordR o).names=[nm]/\ed=nm∨(ordR o).names=[nm,ed])->Stp b R N o y nm (ixO (zas nm b.S)) (ixO (zas ed b.E))->∃ R',RelB (zcG b y o) R'/\∀ (L:TL) (i:Nat),L[i]? = some y->i<1000->∀ k0 n,zgK L N k0 (n+1) (i:Int) R.stones R.editions R.claims=zgK L N k0 n ((i+1:Nat):Int) R'.stones R'.editions R'.claims:=by
  rintro nm ed hnms ⟨R',h1,h2⟩;refine⟨R',h1,λ L i hy hi k0 n=>?_⟩;have hil:=(zAm.1 hy).1;have h2':=h2 (i:Int) (zgK L N k0 n);rw[zbE (by omega)] at h2';rw[<- h2'];show zjS (zgK L N k0 n) L N k0 (i:Int) R.stones R.editions R.claims=_;unfold zjS;rw[ltT hil,cond_true,zaU,hy,zAl,h80,zAl]
  rcases hnms with ⟨e,rfl⟩|e
  .grind [ix0,zap,f91,f112]
  .simp_all [ix0,ix1',zAl,zap,f91,f112]
 cases o with
 | nil=>exact ho.elim
 | c199 x=>exact key x.name x.name (.inl ⟨rfl,rfl⟩) (zxy hr hb x)
 | c201 x =>
  refine key x.name x.name (.inl ⟨rfl,rfl⟩) (zs5 hr hb x ?_ hw);rintro h;have:=hnm x.name (by simp[ordR]);rw[h] at this
  cases this
 | c203 x=>exact key x.stone x.edition (.inr rfl) (zAb hr hb x hw)
 | c205 x=>exact key x.edition x.edition (.inl ⟨rfl,rfl⟩) (zxz hr hb x ho hw)
 | c207 x=>exact key x.stone x.stone (.inl ⟨rfl,rfl⟩) (zxB hr hb hN x ho hw)
 | c209 x=>exact key x.edition x.edition (.inl ⟨rfl,rfl⟩) (zxA hr hb x hw)
 | c211 x=>exact key x.customer x.edition (.inr rfl) (zxD hr hb hN x ho hw)
 | c213 x=>exact key x.claiming.customer x.claiming.edition (.inr rfl) (zs6 hr hb hN x ho hw)
 | c215 x=>exact key x.stone x.stone (.inl ⟨rfl,rfl⟩) (zxC hr hb hN x hw)
end
inductive Made (M:Nat):Bk->Prop where
 | new:Made M Bk.new
 | step {b:Bk} {y:ByteArray} {r:I97×Int}:Made M b->f79 M y=some r->Made M (goM b y r)
theorem Made.ok {M:Nat}(hM:60<=M){b:Bk}(h:Made M b):BkOK b:=by
 induction h with
 | new=>exact zzC
 | @step b y r h1 h2 ih =>
  obtain⟨r',s,e1,e2,e3,e4⟩:=zon (N:=M) (N':=M) (y:=y) hM hM
  grind [zzD]
theorem Made.after {M N:Nat}(hM:60<=M)(hN:200<=N){b:Bk}(h:Made M b):∃ R,RelB b R/\∀ (t:TL) k0 n,zgK (b.L++t) N k0 (n+b.L.length) (0:Int) [] [] []=zgK (b.L++t) N k0 n (b.L.length:Int) R.stones R.editions R.claims:=by
 induction h with
 | new=>exact⟨⟨[],[],[]⟩,⟨rfl,⟨rfl,λ i p s h=>by grind⟩,⟨by simp,λ q hq=>by simp[Bk.new] at hq,rfl,λ c hc=>by simp at hc,λ c hc=>by simp at hc⟩,λ q hq=>by simp[Bk.new] at hq⟩,λ t k0 n=>rfl⟩
 | @step b y r h1 h2 ih =>
  obtain⟨R,hr,hR⟩:=ih;have hb:=h1.ok hM;unfold goM
  split
  .rename_i he
   unfold errM at he
   split at he
   .rename_i h0
    split at he
    .rename_i hw
     obtain⟨r',s,e1,e2,e3,e4⟩:=zon (N:=M) (N':=N) (y:=y) hM (by omega);rw[h2] at e1;cases e1;obtain⟨f1,f2,f3⟩:=e4 h0;obtain⟨s1,s2⟩:=s;dsimp only at e3 f2 f3;subst f2;rw[e3,h0] at e2;have hl:=hb.ll;obtain⟨R',hr',hst⟩:=zAc (y:=y) hr hb hN e2 f1 f3 hw;refine⟨R',hr',λ t k0 n=>?_⟩;have e5:=hR (y::t) k0 (n+1)
     grind
    omega
   omega
  grind
theorem Made.f90 {M N:Nat}(hM:60<=M)(hN:200<=N){b:Bk}(h:Made M b):∃ R,RelB b R/\Go.Vc.f90 N b.L=some R:=by
 obtain⟨R,hr,hR⟩:=h.after hM hN;have hl:=(h.ok hM).ll;refine⟨R,hr, ?_⟩;have:=hR [] ziS (N-b.L.length);rw[List.append_nil,show N-b.L.length+b.L.length=N by omega] at this;obtain⟨m,hm⟩:∃ m,N-b.L.length=m+1:=⟨N-b.L.length-1,by omega⟩;rw[hm] at this;show zgK b.L N ziS N 0 [] [] []=_;rw[this];show zjS _ _ _ _ _ _ _ _=_;unfold zjS;rw[ltF (Nat.le_refl _),cond_false];rfl
theorem Made.would {M N:Nat}(hM:60<=M)(hN:200<=N){b:Bk}(h:Made M b){y:ByteArray}{r:I97×Int}(h79:f79 M y=some r):f52 N (zbk b.L) y=some (errM b r):=by
 obtain⟨R,hr,h90⟩:=h.f90 hM hN;exact zz3 hr (h.ok hM) h90 hN hM h79
end Go.Vc
namespace Go.Vc
open Go.Proofs
def cat (c:UInt8)(P:List Bs):Bs:=P.flatMap λ x=>x++[c]
theorem zoo (c:UInt8):cat c []=[]:=rfl
theorem zdD (c:UInt8)(x:Bs)(P:List Bs):cat c (x::P)=x++c::cat c P:=by simp[cat]
abbrev NoC (c:UInt8)(P:List Bs):Prop:=∀ x,x∈P->c ∉ x
theorem NoC.hd {c:UInt8}{x:Bs}{P:List Bs}(h:NoC c (x::P)):c ∉ x:=h x (List.mem_cons_self ..)
def hdL (n:Nat):Bs:=[116,117,115,99,104,101,32]++digs 7 n
def mkd (l:Bs):Bs:=l++32::mkL l
def pcsF (L:List Bs):List Bs:=hdL L.length::L.map mkd
def zhC (L:List Bs):Bs:=cat 10 (pcsF L)
def hdV (l:Bs):Nat:=(l.drop 7).foldl (λ a b=>a*10+(b.toNat-48)) 0
def hdB (n:Nat):Bool := !(hdL n).contains 10&&decide ((hdL n).length<=10)&&decide (hdV (hdL n)=n)
theorem zAd:((List.range 130).all hdB)=true:=by kernel_rfl
theorem zxE {n:Nat}(h:n<=120):(10:UInt8) ∉ hdL n/\(hdL n).length<=10/\hdV (hdL n)=n:=by
 have:=List.all_eq_true.1 zAd n (List.mem_range.2 (by omega));unfold hdB at this;simp only[zAr,Bool.not_eq_true',decide_eq_true_eq] at this;refine⟨λ h=>?_,this.1.2,this.2⟩;have h2:=this.1.1;rw[List.contains_iff_mem.2 h] at h2;cases h2
end Go.Vc

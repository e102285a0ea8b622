/-
  A library for proofs about Go functions by symbolic evaluation,and plain Lean functions that the walked Go functions compute (written by a program of this claim).
-/
import Derived.Test.YtijmkjnlgcockaaGreatDoorFASF8
import Derived.Lib.TrimU
import Derived.Test.YtijmkjnlgcockaaGreatDoorFASF5
import Derived.Lib.LastIndexByte
set_option linter.unusedVariables false
set_option linter.unnecessarySimpa false
set_option linter.unusedSimpArgs false
namespace Go.Vc
open Go.Proofs
theorem zhY (s:ByteArray)(p:Nat):p<(zdB s p).2:=by
 have:=Lib.width_pos s p;show p<p+_;omega
theorem zlZ {s:ByteArray}{k0:Int->Option (Int×Bool)}(hk:∀ v,∃ r,k0 v=some r):∀ (n:Nat) (v:Int) (p:Nat),s.size-p<n->∃ r,zep s k0 n v p=some r
 | 0,v,p,h=>by omega
 | n+1,v,p,h=>by
  have hr:=zhY s p;have ih:=λ v=>zlZ (s:=s) hk n v (zdB s p).2;simp only[zep,zhr,zyl,zaE,decide_eq_true_eq]
  split
  .split
   .grind
   .split
    .grind
    .exact ih _ (by omega)
  .exact hk _
theorem zrp {N:Nat}{s:ByteArray}(h:s.size<N):∃ r,f105 N s=some r:=by
 have hl:=zlZ (s:=s) (k0:=zeo) (λ v=>⟨_,rfl⟩) N 0 0 (by omega);simp only[f105,zdW,zay,zaE,decide_eq_true_eq]
 split
 .grind
 .rename_i h0
  split
  .grind
  .have h1:0<s.size:=by
    cases hs:s.size with
    | zero=>exact absurd (by cases s with|mk d=>have:d.size=0:=hs;rw[Array.size_eq_zero_iff.1 this];rfl) h0
    | succ n=>omega
   rw[idxS,if_pos ⟨by omega,by omega⟩]
   grind
theorem zn4 {s:ByteArray}{k0:Option Bool}(hk:∃ r,k0=some r):∀ (n:Nat) (p:Nat),s.size-p<n->∃ r,zhs s k0 n p=some r
 | 0,p,h=>by omega
 | n+1,p,h=>by
  have hr:=zhY s p;have ih:=zn4 (s:=s) hk n (zdB s p).2;simp only[zhs,zln,zyl,zaE,decide_eq_true_eq]
  grind
theorem zvi {N:Nat}{s:ByteArray}(h:s.size<N):∃ r,f107 N s=some r:=by
 obtain⟨r,hr⟩:=zn4 (s:=s) (k0:=zeq s) (by unfold zeq;simp only[zaE];split <;> exact⟨_,rfl⟩) N 0 (by omega)
 grind [Bool.not,f107,f61,f88,zay]
theorem zl0 {s:ByteArray}{k0:Int->Option (TL×Bool)}{Q:TL×Bool->Prop}(hQ:Q ([],false))(hk:∀ v,∃ r,k0 v=some r/\Q r):∀ (n:Nat) (v:Int) (p:Nat),s.size-p<n->∃ r,ze6 s k0 n v p=some r/\Q r
 | 0,v,p,h=>by omega
 | n+1,v,p,h=>by
  have hr:=zhY s p;have ih:=λ v=>zl0 (s:=s) hQ hk n v (zdB s p).2;simp only[ze6,zhI,zyl,zaE,decide_eq_true_eq]
  repeat' split
  all_goals first|exact⟨_,rfl,hQ⟩|exact ih _ (by omega)|exact hk _
def PcOK (s:ByteArray)(r:TL×Bool):Prop:=r.2=true->r.1≠[]/\∀ x,x∈r.1->x.size<=s.size
theorem zrq {N:Nat}{s:ByteArray}(h:s.size<N)(h2:s.size<=1000000):∃ r,f104 N s=some r/\PcOK s r:=by
 refine zl0 (Q:=PcOK s) (λ h=>by cases h) (λ v=>?_) N 32 0 (by omega);obtain⟨N,rfl⟩:∃ q,N=q+1:=⟨N-1,by omega⟩
 have hs:(strC [32]).size=1:=by rw[zro];rfl
 have h3:zdx s (N+1) v=some ((zbu ((strC [32]).data.toList.headD 0) s.data.toList).map (λ l=>(⟨l.toArray⟩:ByteArray)),decide (¬ v=32)):=by simp_all [if_pos,zyl,zdx,f73]
 refine⟨_,h3,λ _=>⟨?_,λ x hx=>?_⟩⟩
 .grind [zfO,List.map_eq_nil_iff]
 .obtain ⟨y,hy,rfl⟩:=List.mem_map.1 hx
  have:=(ziF _ _).2 _ hy;exact this
def RdOK (o:Option (I97×Int)):Prop:=∃ r,o=some r/\(r.2=0->zbv r.1)
theorem RdOK.err {n:Int}(h:n≠0):RdOK (some (I97.nil,n)):=⟨_,rfl,λ h' => absurd h' h⟩
section
variable {N:Nat} {P:TL} {q:Bool} {nm nu:Nat} {lo hi:Int}
theorem zo8 {e0 e1:Int}{k0:Option (I97×Int)}(hk:(0<nu->lo<=e0/\e0<=hi)->(1<nu->lo<=e1/\e1<=hi)->RdOK k0)(hnu:nu<=2):∀ (m i n:Nat),nu-i=m->m<n->(0<i->0<nu->lo<=e0/\e0<=hi)->(1<i->1<nu->lo<=e1/\e1<=hi)->RdOK (zdI (P,q) (nu:Int) [e0,e1] lo hi k0 n (i:Int)):=by
 intro m
 induction m with
 | zero =>
  intro i n h1 h2 h3 h4;obtain⟨n,rfl⟩:∃ q,n=q+1:=⟨n-1,by omega⟩;simp only[zdI,zgj,zaE,decide_eq_true_eq,Int.toNat_natCast]
  grind
 | succ m ih =>
  intro i n h1 h2 h3 h4;obtain⟨n,rfl⟩:∃ q,n=q+1:=⟨n-1,by omega⟩;simp only[zdI,zgj,zaE,decide_eq_true_eq,Int.toNat_natCast];rw[if_pos (by omega),chkI,if_pos ⟨by omega,by omega⟩];simp only[zyl,ixN,Int.toNat_natCast]
  have hi2:i<2:=by omega
  have hW:W ((i:Int)+1)=((i+1:Nat):Int):=zcO (by omega)
  match i,hi2 with
  | 0,_ =>
   simp only[List.getElem?_cons_zero,zyl]
   split
   .exact .err (by decide)
   .split
    .exact .err (by decide)
    grind
  | 1,_ =>
   simp only[List.getElem?_cons_succ,List.getElem?_cons_zero,zyl]
   split
   .exact .err (by decide)
   .split
    .exact .err (by decide)
    grind
theorem zrr {k2 k3:Option (I97×Int)}{b:List Int}(hk:RdOK k3){X:TL}(hX:∀ x,x∈X->x.size<N)(hl:X.length<=1000):∀ (m i n:Nat),X.length-i=m->m<n->RdOK (zau N b k2 X k3 n (i:Int)):=by
 intro m
 induction m with
 | zero =>
  intro i n h1 h2;obtain⟨n,rfl⟩:∃ q,n=q+1:=⟨n-1,by omega⟩;simp only[zau,zaO,zaE,decide_eq_true_eq]
  grind
 | succ m ih =>
  intro i n h1 h2;obtain⟨n,rfl⟩:∃ q,n=q+1:=⟨n-1,by omega⟩
  have hi:i<X.length:=by omega
  obtain⟨r,hr⟩:=zvi (N:=N) (s:=X[i]) (hX _ (List.getElem_mem hi));simp only[zau,zaO,zaE,decide_eq_true_eq];rw[if_pos (by omega),ze4 hi];simp only[zyl,hr]
  split
  .rw [if_pos (by omega)];exact .err (by decide)
  .rw [zcO (by omega)];exact ih (i+1) n (by omega) (by omega)
theorem ztc {k4:List Int->Option (I97×Int)}(hk:∀ e0 e1,RdOK (k4 [e0,e1])){X:TL}(hX:∀ x,x∈X->x.size<N)(hl:X.length<=2):∀ (m i n:Nat) (e0 e1:Int),X.length-i=m->m<n->RdOK (zev N (P,q) (nm:Int) (nu:Int) k4 X n (i:Int) [e0,e1]):=by
 intro m
 induction m with
 | zero =>
  intro i n e0 e1 h1 h2;obtain⟨n,rfl⟩:∃ q,n=q+1:=⟨n-1,by omega⟩;simp only[zev,zgk,zaE,decide_eq_true_eq]
  grind
 | succ m ih =>
  intro i n e0 e1 h1 h2;obtain⟨n,rfl⟩:∃ q,n=q+1:=⟨n-1,by omega⟩
  have hi:i<X.length:=by omega
  obtain⟨r,hr⟩:=zrp (N:=N) (s:=X[i]) (hX _ (List.getElem_mem hi));simp only[zev,zgk,zaE,decide_eq_true_eq];rw[if_pos (by omega),ze4 hi];simp only[zyl,hr];rw[chkI,if_pos ⟨by omega,by omega⟩];simp only[zyl,setN,Int.toNat_natCast]
  have hi2:i<2:=by omega
  have hW:W ((i:Int)+1)=((i+1:Nat):Int):=zcO (by omega)
  match i,hi2 with
  | 0,_ =>
   simp only[List.length_cons,List.length_nil];rw[if_pos (by omega)];simp only[zyl,List.set_cons_zero]
   split
   .exact .err (by decide)
   .rw [hW];exact ih 1 n _ _ (by omega) (by omega)
  | 1,_ =>
   simp only[List.length_cons,List.length_nil];rw[if_pos (by omega)];simp only[zyl,List.set_cons_succ,List.set_cons_zero]
   split
   .exact .err (by decide)
   grind
theorem zcT (hnm:nm<=2)(hnu:nu<=2)(hN:10<=N)(hX:∀ x,x∈P->x.size<N)
  (hsel:∀ b,zeu N (P,q) (nu:Int) b=zdZ N (P,q) (nu:Int) b lo hi)
  (hfin:P.length=1+nm+nu->∀ e0 e1,(0<nu->lo<=e0/\e0<=hi)->(1<nu->lo<=e1/\e1<=hi)->RdOK (f108 N P ⟨e0,e1⟩ |>.bind λ x=>some (x,0))):RdOK (zc8 N (P,q) (nm:Int) (nu:Int)):=by
 have w1:W (1+(nm:Int))=((1+nm:Nat):Int):=by grind [za8]
 have w2:W (((1+nm:Nat):Int)+(nu:Int))=((1+nm+nu:Nat):Int):=by grind [za8]
 simp only[zc8,zay,zaE,decide_eq_true_eq,w1,w2]
 split
 .exact .err (by decide)
 .rename_i hlen
  have hlen:P.length=1+nm+nu:=by omega
  rw[zem (by omega) (Nat.le_refl _)];simp only[zyl];refine ztc (λ e0 e1=>?_) (λ x hx=>hX x (List.mem_of_mem_take (List.mem_of_mem_drop hx))) (by simp;omega) _ 0 N 0 0 rfl (by simp;omega);simp only[zfr,zay,w1];rw[show (1:Int)=((1:Nat):Int) from rfl,zem (by omega) (by omega)];simp only[zyl];refine zrr ?_ (λ x hx=>hX x (List.mem_of_mem_take (List.mem_of_mem_drop hx))) (by simp;omega) _ 0 N rfl (by simp;omega);simp only[zaB,hsel,zdZ,zay];rw[arS,if_pos ⟨by omega,by omega⟩];simp only[zyl];refine zo8 (λ h1 h2=>?_) hnu _ 0 N rfl (by omega) (λ h=>by omega) (λ h=>by omega)
  grind [zet,A2iN.of]
end
theorem ix_h {x:ByteArray}{l:TL}:ix (x::l) (0:Int)=some x:=rfl
theorem zcP {x:ByteArray}{P:TL}{n:Nat}(h:(x::P).length=1+1+n):∃ a l,P=a::l:=by
 cases P with
 | nil=>simp at h;omega
 | cons a l=>grind
theorem zdJ {x:ByteArray}{P:TL}{n:Nat}(h:(x::P).length=1+2+n):∃ a b l,P=a::b::l:=by
 match P,h with
 | [],h=>simp at h;omega
 | [a],h=>simp at h;omega
 | a::b::l,h=>grind
abbrev RdK (k:List UInt8)(a u:Nat):Prop:=∀ {N:Nat} {P:TL} {b:Bool},10<=N->(∀ z,z∈strC k::P->z.size<N)->RdOK (zc8 N (strC k::P,b) (a:Int) (u:Int))
theorem ztd:RdK [115,116,111,110,101] 1 1:=λ hN hX=>zcT (lo:=1) (hi:=99) (by omega) (by omega) hN hX (λ b=>by kernel_rfl) λ hl e0 e1 b1 b2=>by
 obtain⟨a,l,rfl⟩:=zcP hl;exact⟨(I97.c199 ⟨a,e0⟩,0),by kernel_rfl,λ _=>by simp only[zbv];omega⟩
theorem zo9:RdK [101,100,105,116,105,111,110] 1 0:=λ hN hX=>zcT (lo:=1) (hi:=5000) (by omega) (by omega) hN hX (λ b=>by kernel_rfl) λ hl e0 e1 b1 b2=>by
 obtain⟨a,l,rfl⟩:=zcP hl;exact⟨(I97.c201 ⟨a⟩,0),by kernel_rfl,λ _=>by trivial⟩
theorem zvj:RdK [100,114,97,119] 2 0:=λ hN hX=>zcT (lo:=1) (hi:=5000) (by omega) (by omega) hN hX (λ b=>by kernel_rfl) λ hl e0 e1 b1 b2=>by
 obtain⟨a,b,l,rfl⟩:=zdJ hl;exact⟨(I97.c203 ⟨a,b⟩,0),by kernel_rfl,λ _=>by trivial⟩
theorem zte:RdK [112,97,112,101,114] 1 1:=λ hN hX=>zcT (lo:=1) (hi:=5000) (by omega) (by omega) hN hX (λ b=>by kernel_rfl) λ hl e0 e1 b1 b2=>by
 obtain⟨a,l,rfl⟩:=zcP hl;exact⟨(I97.c205 ⟨a,e0⟩,0),by kernel_rfl,λ _=>by simp only[zbv];omega⟩
theorem ztf:RdK [112,114,105,110,116] 1 2:=λ hN hX=>zcT (lo:=0) (hi:=5000) (by omega) (by omega) hN hX (λ b=>by kernel_rfl) λ hl e0 e1 b1 b2=>by
 obtain⟨a,l,rfl⟩:=zcP hl;exact⟨(I97.c207 ⟨a,e0,e1⟩,0),by kernel_rfl,λ _=>by simp only[zbv];omega⟩
theorem ztg:RdK [99,108,111,115,101] 1 0:=λ hN hX=>zcT (lo:=1) (hi:=5000) (by omega) (by omega) hN hX (λ b=>by kernel_rfl) λ hl e0 e1 b1 b2=>by
 obtain⟨a,l,rfl⟩:=zcP hl;exact⟨(I97.c209 ⟨a⟩,0),by kernel_rfl,λ _=>by trivial⟩
theorem zth:RdK [99,108,97,105,109] 2 1:=λ hN hX=>zcT (lo:=1) (hi:=5000) (by omega) (by omega) hN hX (λ b=>by kernel_rfl) λ hl e0 e1 b1 b2=>by
 obtain⟨a,b,l,rfl⟩:=zdJ hl;exact⟨(I97.c211 ⟨a,b,e0⟩,0),by kernel_rfl,λ _=>by simp only[zbv];omega⟩
theorem zp:RdK [100,101,108,105,118,101,114] 2 1:=λ hN hX=>zcT (lo:=1) (hi:=5000) (by omega) (by omega) hN hX (λ b=>by kernel_rfl) λ hl e0 e1 b1 b2=>by
 obtain⟨a,b,l,rfl⟩:=zdJ hl;exact⟨(I97.c213 ⟨⟨a,b,e0⟩⟩,0),by kernel_rfl,λ _=>by simp only[zbv];omega⟩
theorem zti:RdK [103,114,105,110,100] 1 0:=λ hN hX=>zcT (lo:=1) (hi:=5000) (by omega) (by omega) hN hX (λ b=>by kernel_rfl) λ hl e0 e1 b1 b2=>by
 obtain⟨a,l,rfl⟩:=zcP hl;exact⟨(I97.c215 ⟨a⟩,0),by kernel_rfl,λ _=>by trivial⟩
theorem iteP {c:Prop}[Decidable c]{a b:Option (I97×Int)}(h:c->RdOK a)(h':¬ c->RdOK b):RdOK (if c then a else b):=by
 grind
theorem zt7 {N:Nat}{y:ByteArray}(hN:60<=N):RdOK (f79 N y):=by
 unfold f79;rw[zaE];simp only[decide_eq_true_eq]
 split
 .exact .err (by decide)
 .rename_i h40
  obtain⟨⟨P,q⟩,hr,hp⟩:=zrq (N:=N) (s:=y) (by omega) (by omega);rw[hr];simp only[zyl]
  cases hq:q with
  | false=>exact .err (by decide)
  | true =>
   obtain⟨hne,hsz⟩:=hp hq;rw[Bool.not_true,cond_false]
   obtain⟨x,P',rfl⟩:∃ x P',P=x::P':=by cases P with|nil=>grind|cons x P' => grind
   have hX:∀ z,z∈x::P'->z.size<N:=λ z hz=>by grind
   have w1:W ((0:Int)+1)=((1:Nat):Int):=by grind [za8]
   have w2:W ((0:Int)+2)=((2:Nat):Int):=by grind [za8]
   have w3:W (((1:Nat):Int)+1)=((2:Nat):Int):=by grind
   rw[zay,ix_h,zyl];simp only[zaE,decide_eq_true_eq,w1,w2,w3];refine iteP (λ hx=>?_) (λ _=>?_)
   .grind [ztf]
   refine iteP (λ hx=>?_) (λ _=>?_)
   .grind [ztd]
   refine iteP (λ hx=>?_) (λ _=>?_)
   .grind [zte]
   refine iteP (λ hx=>?_) (λ _=>?_)
   .grind [zo9]
   refine iteP (λ hx=>?_) (λ _=>?_)
   .grind [ztg]
   refine iteP (λ hx=>?_) (λ _=>?_)
   .grind [zti]
   refine iteP (λ hx=>?_) (λ _=>?_)
   .grind [zth]
   refine iteP (λ hx=>?_) (λ _=>?_)
   .grind [zp]
   refine iteP (λ hx=>?_) (λ _=>?_)
   .grind [zvj]
   exact .err (by decide)
end Go.Vc
namespace Go.Vc
open Go.Proofs
theorem ltT {i n:Nat}(h:i<n):decide ((i:Int)<(n:Int))=true:=decide_eq_true (by omega)
theorem ltF {i n:Nat}(h:n<=i):decide ((i:Int)<(n:Int))=false:=decide_eq_false (by omega)
end Go.Vc
namespace Go.Vc
open Go.Proofs
abbrev Bs:=List UInt8
theorem zrs (s:ByteArray):strC s.data.toList=s:=rfl
theorem zf1 {y:ByteArray}{p r:Bs}{b:UInt8}(h:y.data.toList=p++b::r):zcX y p.length=(b.toNat:Int):=by
 grind [zcX,List.getD]
theorem zbV {y:ByteArray}{l:Bs}(h:y.data.toList=l):y.size=l.length:=by
 rw[<- h,Array.length_toList];rfl
end Go.Vc
namespace Go.Vc
open Go.Proofs
theorem ztj (s:ByteArray)(a b:Nat):(zeY s a b).data.toList=(s.data.toList.drop a).take (b-a):=by
 have:=Lib.extract_toList s a b;unfold zeY;rw[<- this];exact(Lib.toList_data _).symm
end Go.Vc
namespace Go.Vc
open Go.Proofs
theorem zvk {s:ByteArray}{p r:Bs}{b:UInt8}(h:s.data.toList=p++b::r):s.get! p.length=b:=by
 have h1:s.data[p.length]? = some b:=by rw[<- Array.getElem?_toList,h];simp
 show s.data[p.length]! = b
 grind
theorem zrt (n b0 b1 b2 b3:Nat)(h:128<=b0):128<=(Lib.decodeN n b0 b1 b2 b3).1:=by
 unfold Lib.decodeN;rw[if_neg (by omega)]
 repeat' split
 all_goals (simp only;omega)
theorem znc {s:ByteArray}{p r:Bs}{b:UInt8}(h:s.data.toList=p++b::r):(b.toNat<128/\zdB s p.length=((b.toNat:Int),p.length+1))∨(128<=b.toNat/\128<=(zdB s p.length).1):=by
 unfold zdB;rw[Lib.decode_at,zvk h];by_cases hb:b.toNat<128
 .rw [show ∀ n x y z,Lib.decodeN n b.toNat x y z=(b.toNat,1) from λ n x y z=>by simp[Lib.decodeN,hb]]
  exact .inl ⟨hb,rfl⟩
 .have:=zrt (s.size-p.length) b.toNat (s.get! (p.length+1)).toNat (s.get! (p.length+2)).toNat (s.get! (p.length+3)).toNat (by omega)
  exact .inr ⟨by omega,by dsimp only;omega⟩
def az (b:UInt8):Bool:=Nat.ble 97 b.toNat&&Nat.ble b.toNat 122
theorem zl1 {b:UInt8}:az b=true ↔ 97<=b.toNat/\b.toNat<=122:=by simp[az]
theorem zt8 {s:ByteArray}{k0:Option Bool}:∀ (r p:Bs) (n:Nat),s.data.toList=p++r->r.length<n->zhs s k0 n p.length=if r.all az=true then k0 else some false
 | [],p,n,h,h1=>by
  obtain⟨n,rfl⟩:∃ q,n=q+1:=⟨n-1,by omega⟩
  have hs:s.size=p.length:=by rw[zbV h];simp
  simp_all [decide_eq_false,cond_false,zhs,zln]
 | b::r,p,n,h,h1=>by
  obtain⟨n,rfl⟩:∃ q,n=q+1:=⟨n-1,by omega⟩
  have hs:s.size=p.length+(r.length+1):=by rw[zbV h];simp
  have ih:=zt8 (s:=s) (k0:=k0) r (p++[b]) n (by simpa using h) (by simpa using h1);simp only[zhs,zln,zyl];rw[decide_eq_true (by omega),cond_true];simp only[List.length_append,List.length_singleton] at ih
  rcases znc h with ⟨h2,h3⟩|⟨h2,h3⟩
  .rw [h3]
   dsimp only;by_cases ha:az b=true
   .have:=zl1.1 ha
    rw[decide_eq_false (by omega),cond_false,decide_eq_false (by omega),cond_false,ih,List.all_cons,ha,Bool.true_and]
   .have h4:¬ (97<=b.toNat/\b.toNat<=122):=λ h=>ha (zl1.2 h)
    rw[List.all_cons,Bool.eq_false_iff.2 ha,Bool.false_and,if_neg (by simp)];simp only[zaE,decide_eq_true_eq]
    split
    .rfl
    .rw [if_pos (by omega)]
  .have h4:¬ az b=true:=λ h=>by have:=zl1.1 h;omega
   rw[List.all_cons,Bool.eq_false_iff.2 h4,Bool.false_and,if_neg (by simp)];simp only[zaE,decide_eq_true_eq];rw[if_neg (by omega),if_pos (by omega)]
theorem zt9 {s:ByteArray}{k0:Option Bool}(hs0:s.size<=1000000):∀ (r p:Bs) (n:Nat),s.data.toList=p++r->r.length<n->zjO s k0 n (p.length:Int)=if r.all az=true then k0 else some false
 | [],p,n,h,h1=>by
  obtain⟨n,rfl⟩:∃ q,n=q+1:=⟨n-1,by omega⟩
  have hs:s.size=p.length:=by rw[zbV h];simp
  simp_all [ltF,cond_false,zjO,zn3]
 | b::r,p,n,h,h1=>by
  obtain⟨n,rfl⟩:∃ q,n=q+1:=⟨n-1,by omega⟩
  have hs:s.size=p.length+(r.length+1):=by rw[zbV h];simp
  have ih:=zt9 (s:=s) (k0:=k0) hs0 r (p++[b]) n (by simpa using h) (by simpa using h1);simp only[zjO,zn3];rw[ltT (by omega),cond_true,idxS,if_pos ⟨by omega,by omega⟩,zyl,Int.toNat_natCast,zf1 h,zcO (by omega)];simp only[List.length_append,List.length_singleton] at ih;by_cases ha:az b=true
  .have:=zl1.1 ha
   rw[decide_eq_false (by omega),cond_false,zyl,decide_eq_false (by omega),cond_false,ih,List.all_cons,ha,Bool.true_and]
  .have h4:¬ (97<=b.toNat/\b.toNat<=122):=λ h=>ha (zl1.2 h)
   rw[List.all_cons,Bool.eq_false_iff.2 ha,Bool.false_and,if_neg (by simp)];simp only[zaE,decide_eq_true_eq,zyl]
   split
   .rfl
   .rw [if_pos (by omega)]
def zcq (s:ByteArray):Bool:=decide (1<=s.size/\s.size<=9)&&s.data.toList.all az
theorem zf2 {s:ByteArray}:s=zaG ↔ s.size=0:=by
 constructor
 .rintro rfl;rfl
 .intro h
  cases s with|mk d=>have:d.size=0:=h;rw[Array.size_eq_zero_iff.1 this];rfl
theorem zhZ {N:Nat}{s:ByteArray}(h:s.size<N):f61 N s=some (zcq s):=by
 have hl:=zt8 (s:=s) (k0:=zeq s) s.data.toList [] N rfl (by simp_all);simp only[f61,f88,zay,Option.bind_eq_bind];rw[show zhs s (zeq s) N 0=_ from hl];unfold zcq zeq;by_cases ha:s.data.toList.all az=true
 .rw [if_pos ha,ha,Bool.and_true]
  by_cases h0:s=zaG
  .have:=zf2.1 h0
   grind
  .have:s.size≠0:=λ h=>h0 (zf2.2 h)
   rw[decide_eq_true h0,cond_true,zyl]
   congr 1
   grind
 grind
theorem zru {N:Nat}{a b c:Int}:f124 N a b c=some (decide (b<=a/\a<=c)):=by
 unfold f124
 grind
theorem zn5 {N:Nat}{a b c:Int}:f71 N a b c=some (decide (b<=a/\a<=c)):=by
 unfold f71 f96
 grind
theorem zh0 {N:Nat}{s:ByteArray}(h:s.size<N):f89 N s=some (zcq s):=by
 unfold f89;rw[zru,zyl];unfold zcq;by_cases h2:1<=s.size/\s.size<=9
 .have hl:=zt9 (s:=s) (k0:=zgA) (by omega) s.data.toList [] N rfl (by simp_all)
  rw[decide_eq_true (by omega),decide_eq_true h2,Bool.not_true,cond_false,zay,Bool.true_and]
  grind [zjO,zgA,az]
 grind
def dgs:Bs->Int->Option Int
 | [],v=>some v
 | b::r,v=>if 48<=b.toNat/\b.toNat<=57 then dgs r (W (W ((10:Int)*v)+((b.toNat:Int)-48))) else none
theorem zn6 {s:ByteArray}{k0:Int->Option (Int×Bool)}:∀ (r p:Bs) (n:Nat) (v:Int),s.data.toList=p++r->r.length<n->zep s k0 n v p.length=match dgs r v with|none=>some (0,false)|some q=>k0 q
 | [],p,n,v,h,h1=>by
  obtain⟨n,rfl⟩:∃ q,n=q+1:=⟨n-1,by omega⟩
  have hs:s.size=p.length:=by rw[zbV h];simp
  simp only[zep,zhr];rw[decide_eq_false (by omega),cond_false];rfl
 | b::r,p,n,v,h,h1=>by
  obtain⟨n,rfl⟩:∃ q,n=q+1:=⟨n-1,by omega⟩
  have hs:s.size=p.length+(r.length+1):=by rw[zbV h];simp
  have ih:=λ v=>zn6 (s:=s) (k0:=k0) r (p++[b]) n v (by simpa using h) (by simpa using h1);simp only[zep,zhr,zyl];rw[decide_eq_true (by omega),cond_true];simp only[List.length_append,List.length_singleton] at ih;unfold dgs
  rcases znc h with ⟨h2,h3⟩|⟨h2,h3⟩
  .rw [h3]
   dsimp only;by_cases hd:48<=b.toNat/\b.toNat<=57
   .rw [decide_eq_false (by omega),cond_false,decide_eq_false (by omega),cond_false,if_pos hd,zuG (by simp[IntKind.min,IntKind.max,IntKind.signed,IntKind.bits];omega),ih]
   grind
  grind
theorem zn7 {s:ByteArray}{k0:Int->Option (Int×Bool)}(hs0:s.size<=1000000):∀ (r p:Bs) (n:Nat) (v:Int),s.data.toList=p++r->r.length<n->zfW s k0 n v (p.length:Int)=match dgs r v with|none=>some (0,false)|some q=>k0 q
 | [],p,n,v,h,h1=>by
  obtain⟨n,rfl⟩:∃ q,n=q+1:=⟨n-1,by omega⟩
  have hs:s.size=p.length:=by rw[zbV h];simp
  simp only[zfW,zjP];rw[ltF (by omega),cond_false];rfl
 | b::r,p,n,v,h,h1=>by
  obtain⟨n,rfl⟩:∃ q,n=q+1:=⟨n-1,by omega⟩
  have hs:s.size=p.length+(r.length+1):=by rw[zbV h];simp
  have ih:=λ v=>zn7 (s:=s) (k0:=k0) hs0 r (p++[b]) n v (by simpa using h) (by simpa using h1);simp only[zfW,zjP];rw[ltT (by omega),cond_true,idxS,if_pos ⟨by omega,by omega⟩,zyl,Int.toNat_natCast,zf1 h,zcO (by omega)];simp only[List.length_append,List.length_singleton,zyl] at ih ⊢;unfold dgs;by_cases hd:48<=b.toNat/\b.toNat<=57
  .rw [decide_eq_false (by omega),cond_false,decide_eq_false (by omega),cond_false,if_pos hd,zuG (by simp[IntKind.min,IntKind.max,IntKind.signed,IntKind.bits];omega),ih]
  grind
theorem zvl {N N':Nat}{s:ByteArray}(h:s.size<N)(h':s.size<N'):f111 N' s=f105 N s:=by
 unfold f111 f105;simp only[zay];rw[zru,zyl];by_cases h2:1<=s.size/\s.size<=8
 .have h3:¬ s=zaG:=λ h=>by have:=zf2.1 h;omega
  have hi:idxS s 0=some (zcX s 0):=by rw[idxS,if_pos ⟨by omega,by omega⟩];rfl
  have hk:zes s N'=zdW s N:=by
   have l1:=zn7 (s:=s) (k0:=zdY) (by omega) s.data.toList [] N' 0 rfl (by rw[<- zbV rfl];exact h');have l2:=zn6 (s:=s) (k0:=zeo) s.data.toList [] N 0 rfl (by rw[<- zbV rfl];exact h);simp only[zes,zdW,zay];rw[show zfW s zdY N' 0 0=_ from l1,show zep s zeo N 0 0=_ from l2]
   cases dgs s.data.toList 0 <;> rfl
  rw[decide_eq_true (by omega),Bool.not_true,cond_false,decide_eq_false h3,cond_false,decide_eq_false (show ¬ (8:Int)<(s.size:Int) by omega),cond_false,hi,zyl,zyl,hk];by_cases h48:zcX s 0=48
  .rw [decide_eq_true h48,cond_true,cond_true]
   have:(1:Int)<(s.size:Int) ↔ ¬ s=strC [48]:=by
    constructor
    .rintro h rfl;have:(strC [48]).size=1:=rfl;omega
    .intro hn
     by_cases h1:s.size=1
     .refine absurd ?_ hn
      have hl:s.data.toList.length=1:=by simp_all
      match hm:s.data.toList,hl with
      | [b],_ =>
       have:=zf1 (p:=[]) (r:=[]) hm;rw[show zcX s ([]:Bs).length=zcX s 0 from rfl,h48] at this;have hb:b=48:=UInt8.toNat_inj.1 (by have:(48:UInt8).toNat=48:=rfl;omega);rw[<- zrs s,hm,hb]
     .omega
   by_cases h1:(1:Int)<(s.size:Int)
   .rw [decide_eq_true h1,decide_eq_true (this.1 h1),cond_true]
   .rw [decide_eq_false h1,decide_eq_false (λ h=>h1 (this.2 h)),cond_false]
  .rw [decide_eq_false h48,cond_false,cond_false]
 .rw [decide_eq_false (by omega),Bool.not_false,cond_true]
  by_cases h0:s=zaG
  .rw [decide_eq_true h0,cond_true]
  .have:s.size≠0:=λ h=>h0 (zf2.2 h)
   rw[decide_eq_false h0,cond_false,decide_eq_true (show (8:Int)<(s.size:Int) by omega),cond_true]
def chkP:Bs->Int->Option Int
 | [],v=>some v
 | b::r,v=>if 32<=b.toNat/\b.toNat<=126/\¬ ((b.toNat:Int)=32/\v=32) then chkP r b.toNat else none
def pcsP:Bs->Bs->Option (List Bs)
 | [],cur=>if cur=[] then none else some [cur]
 | b::r,cur=>if b.toNat=32 then (if cur=[] then none else (pcsP r []).map (cur :: ·)) else if 33<=b.toNat/\b.toNat<=126 then pcsP r (cur++[b]) else none
theorem zn8 {s:ByteArray}{k0:Int->Option (TL×Bool)}:∀ (r p:Bs) (n:Nat) (v:Int),s.data.toList=p++r->r.length<n->ze6 s k0 n v p.length=match chkP r v with|none=>some ([],false)|some q=>k0 q
 | [],p,n,v,h,h1=>by
  obtain⟨n,rfl⟩:∃ q,n=q+1:=⟨n-1,by omega⟩
  have hs:s.size=p.length:=by rw[zbV h];simp
  simp only[ze6,zhI];rw[decide_eq_false (by omega),cond_false];rfl
 | b::r,p,n,v,h,h1=>by
  obtain⟨n,rfl⟩:∃ q,n=q+1:=⟨n-1,by omega⟩
  have hs:s.size=p.length+(r.length+1):=by rw[zbV h];simp
  have ih:=λ v=>zn8 (s:=s) (k0:=k0) r (p++[b]) n v (by simpa using h) (by simpa using h1);simp only[ze6,zhI,zyl];rw[decide_eq_true (by omega),cond_true];simp only[List.length_append,List.length_singleton] at ih;unfold chkP
  rcases znc h with ⟨h2,h3⟩|⟨h2,h3⟩
  .grind
  grind
theorem zrv {s:ByteArray}{p c r:Bs}(h:s.data.toList=p++(c++r)):subS s (p.length:Int) ((p++c).length:Int)=some (strC c):=by
 have hs:s.size=p.length+(c.length+r.length):=by rw[zbV h];simp
 unfold subS;rw[if_pos ⟨by omega,by grind,by grind⟩]
 congr 1
 rw[<- zrs (zeY _ _ _),ztj,h,Int.toNat_natCast,Int.toNat_natCast,List.drop_left' rfl,List.length_append,Nat.add_sub_cancel_left,List.take_left' rfl]
theorem zkl {s:ByteArray}{k0:TL->Option (TL×Bool)}(hs0:s.size<=1000):∀ (r c p:Bs) (n:Nat) (out:TL),s.data.toList=p++(c++r)->r.length+1<n->out.length<=p.length->zgx s k0 n out (p.length:Int) ((p++c).length:Int)=match pcsP r c with|none=>some ([],false)|some q=>k0 (out++q.map strC)
 | [],c,p,n,out,h,h1,h2=>by
  obtain⟨n,rfl⟩:∃ q,n=q+2:=⟨n-2,by omega⟩
  have hs:s.size=p.length+c.length:=by rw[zbV h];simp
  have hl:(p++c).length=p.length+c.length:=by simp
  have hsub:=zrv h;simp only[zgx,zjD,zay];rw[decide_eq_true (by omega),cond_true,ltF (by omega),cond_false];unfold pcsP zer;by_cases hc:c=[]
  .grind
  .have:0<c.length:=List.length_pos_iff.2 hc
   rw[decide_eq_false (by omega),cond_false,hsub,zyl,zc6 (by simp;omega) (by simp;omega),zyl,if_neg hc,zcO (by omega)]
   grind
 | b::r,c,p,n,out,h,h1,h2=>by
  obtain⟨n,rfl⟩:∃ q,n=q+1:=⟨n-1,by omega⟩
  have hs:s.size=p.length+(c.length+(r.length+1)):=by rw[zbV h];simp
  have hl:(p++c).length=p.length+c.length:=by simp
  have hb:=zf1 (p:=p++c) (r:=r) (b:=b) (y:=s) (by simpa using h);have hsub:=zrv h;simp only[zgx,zjD,zay];rw[decide_eq_true (by omega),cond_true,ltT (by omega),cond_true,idxS,if_pos ⟨by omega,by omega⟩,zyl,Int.toNat_natCast,hb,zyl,zyl,zcO (by omega)];unfold pcsP;by_cases h32:b.toNat=32
  .rw [if_pos h32,decide_eq_false (by omega),cond_false]
   unfold zer;by_cases hc:c=[]
   .grind
   .have:0<c.length:=List.length_pos_iff.2 hc
    have ih:=zkl (s:=s) (k0:=k0) hs0 r [] (p++c++[b]) n (out++[strC c]) (by simpa using h) (by simpa using h1) (by simp;omega);rw[decide_eq_false (by omega),cond_false,hsub,zyl,zc6 (by simp;omega) (by simp;omega),zyl,if_neg hc,zcO (by omega)]
    grind
  .rw [if_neg h32,decide_eq_true (by omega),cond_true]
   by_cases hr:33<=b.toNat/\b.toNat<=126
   .have ih:=zkl (s:=s) (k0:=k0) hs0 r (c++[b]) p n out (by simpa using h) (by simpa using h1) h2
    grind
   grind
theorem znd:∀ (r cur:Bs) (v:Int),(cur=[] ↔ v=32)->pcsP r cur=match chkP r v with|none=>none|some q=>if q=32 then none else (match zbu 32 r with|[]=>none|x::t=>some ((cur++x)::t))
 | [],cur,v,h=>by
  simp_all [if_pos,if_neg,pcsP,chkP,dite,zbu]
 | b::r,cur,v,h=>by
  unfold pcsP chkP;by_cases h32:b.toNat=32
  .have hb:b=32:=UInt8.toNat_inj.1 (by simpa using h32)
   rw[if_pos h32];by_cases hc:cur=[]
   .grind
   .have hv:¬ v=32:=λ q=>hc (h.2 q)
    have hcd:32<=b.toNat/\b.toNat<=126/\¬ ((b.toNat:Int)=32/\v=32):=⟨by omega,by omega,λ h=>hv h.2⟩;rw[if_neg hc,if_pos hcd,znd r [] b.toNat ⟨λ _=>by omega,λ _=>rfl⟩];subst hb;rw[show zbu 32 (32::r)=[]::zbu 32 r from rfl]
    cases chkP r _ with
    | none=>rfl
    | some q =>
     grind [zfO]
  .rw [if_neg h32]
   by_cases hr:33<=b.toNat/\b.toNat<=126
   .rw [if_pos hr,if_pos (by omega),znd r (cur++[b]) b.toNat ⟨λ h=>by simp at h,λ h=>by omega⟩]
    have hb:(b == 32)=false:=by
     cases hq:b == 32 with
     | false=>rfl
     | true=>simp_all
    grind [zbu.eq_2,zbu.eq_1,zfO]
   grind
theorem zrw {N N':Nat}{s:ByteArray}(h:s.size+2<N)(h':s.size+2<N')(h2:s.size<=1000):∃ r r':TL×Bool,f104 N s=some r/\f109 N' s=some r'/\r'.2=r.2/\(r.2=true->r'.1=r.1):=by
 have hl:s.data.toList.length=s.size:=(zbV rfl).symm;have l1:=zn8 (s:=s) (k0:=zdx s N) s.data.toList [] N 32 rfl (by omega);have l2:=zkl (s:=s) (k0:=zeP) h2 s.data.toList [] [] N' [] rfl (by omega) (by simp);have hp:=znd s.data.toList [] 32 (by simp);have e1:f104 N s=_:=l1;have e2:f109 N' s=_:=l2;rw[e1,e2,hp]
 cases chkP s.data.toList 32 with
 | none=>grind
 | some v =>
  dsimp only;have hs:(strC [32]).size=1:=rfl
  have h3:zdx s N v=some ((zbu 32 s.data.toList).map (λ l=>(⟨l.toArray⟩:ByteArray)),decide (¬ v=32)):=by
   obtain⟨N,rfl⟩:∃ q,N=q+1:=⟨N-1,by omega⟩;unfold zdx f73;dsimp only;rw[if_pos ⟨by omega,hs⟩,zyl];rfl
  rw[h3];by_cases hv:v=32
  .grind
  .rw [if_neg hv]
   cases hsp:zbu 32 s.data.toList with
   | nil=>grind [zfO]
   | cons x t=>exact⟨_,_,rfl,rfl,by simp[hv],λ _=>rfl⟩
end Go.Vc
namespace Go.Vc
open Go.Proofs
def ordR:I97->Order
 | .nil=>⟨zaG,[],[]⟩
 | .c199 x=>⟨strC [115,116,111,110,101],[x.name],[x.thick]⟩
 | .c201 x=>⟨strC [101,100,105,116,105,111,110],[x.name],[]⟩
 | .c203 x=>⟨strC [100,114,97,119],[x.stone,x.edition],[]⟩
 | .c205 x=>⟨strC [112,97,112,101,114],[x.edition],[x.n]⟩
 | .c207 x=>⟨strC [112,114,105,110,116],[x.stone],[x.good,x.spoilt]⟩
 | .c209 x=>⟨strC [99,108,111,115,101],[x.edition],[]⟩
 | .c211 x=>⟨strC [99,108,97,105,109],[x.customer,x.edition],[x.n]⟩
 | .c213 x=>⟨strC [100,101,108,105,118,101,114],[x.claiming.customer,x.claiming.edition],[x.claiming.n]⟩
 | .c215 x=>⟨strC [103,114,105,110,100],[x.stone],[]⟩
def Bo (o:Option (I97×Int))(p:Option (Order×Int)):Prop:=∃ r s,o=some r/\p=some s/\s.2=r.2/\(r.2=0->zbv r.1/\s.1=ordR r.1/\∀ z,z∈s.1.names->zcq z=true)
theorem Bo.err {n:Int}{o:Order}(h:n≠0):Bo (some (I97.nil,n)) (some (o,n)):=⟨_,_,rfl,rfl,rfl,λ h' => absurd h' h⟩
section
variable {N N':Nat} {P:TL} {q q':Bool} {nm nu:Nat} {lo hi:Int} {x4:ByteArray} {x5:TL}
theorem zrx {e0 e1:Int}{k0:Option (I97×Int)}{k0':Option (Order×Int)}(hk:(0<nu->lo<=e0/\e0<=hi)->(1<nu->lo<=e1/\e1<=hi)->Bo k0 k0')(hnu:nu<=2):∀ (m i n n':Nat),nu-i=m->m<n->m<n'->(0<i->0<nu->lo<=e0/\e0<=hi)->(1<i->1<nu->lo<=e1/\e1<=hi) ->
  Bo (zdI (P,q) (nu:Int) [e0,e1] lo hi k0 n (i:Int)) (ze7 N' ((nm:Int),(nu:Int),true) x4 x5 ([e0,e1].take nu) lo hi k0' n' (i:Int)):=by
 intro m
 induction m with
 | zero =>
  intro i n n' h1 h2 h2' h3 h4;obtain⟨n,rfl⟩:∃ q,n=q+1:=⟨n-1,by omega⟩;obtain⟨n',rfl⟩:∃ q,n'=q+1:=⟨n'-1,by omega⟩;simp only[zdI,zgj,ze7,zjT,zaE,decide_eq_true_eq,Int.toNat_natCast]
  grind
 | succ m ih =>
  intro i n n' h1 h2 h2' h3 h4;obtain⟨n,rfl⟩:∃ q,n=q+1:=⟨n-1,by omega⟩;obtain⟨n',rfl⟩:∃ q,n'=q+1:=⟨n'-1,by omega⟩;simp only[zdI,zgj,ze7,zjT,zaE,decide_eq_true_eq,Int.toNat_natCast];rw[if_pos (by omega),if_pos (by omega),chkI,if_pos ⟨by omega,by omega⟩]
  have hi2:i<2:=by omega
  have hW:W ((i:Int)+1)=((i+1:Nat):Int):=zcO (by omega)
  have key:∀ e:Int,([e0,e1]:List Int)[i]? = some e->(lo<=e/\e<=hi->Bo (zdI (P,q) (nu:Int) [e0,e1] lo hi k0 n ((i+1:Nat):Int)) (ze7 N' ((nm:Int),(nu:Int),true) x4 x5 ([e0,e1].take nu) lo hi k0' n' ((i+1:Nat):Int))) ->
    Bo (Option.bind (some ()) λ _=>(ixN [e0,e1] i).bind λ x4=>if x4<lo then some (I97.nil,4) else if hi<x4 then some (I97.nil,4) else zdI (P,q) (nu:Int) [e0,e1] lo hi k0 n (W ((i:Int)+1)))
     ((ix ([e0,e1].take nu) (i:Int)).bind λ x6=>(f71 N' x6 lo hi).bind λ x7=>if (!x7)=true then some (Order.mk zaG [] [],4) else ze7 N' ((nm:Int),(nu:Int),true) x4 x5 ([e0,e1].take nu) lo hi k0' n' (W ((i:Int)+1))):=by
   intro e he hb
   have he2:(([e0,e1]:List Int).take nu)[i]? = some e:=by grind
   rw[za2,he2,ixN,he,hW];simp only[zyl,zn5];by_cases hin:lo<=e/\e<=hi
   .grind
   .rw [decide_eq_false hin]
    simp only[Bool.not_false,if_true]
    split
    .exact .err (by decide)
    .rw [if_pos (by omega)];exact .err (by decide)
  grind
theorem ztk {k2 k3:Option (I97×Int)}{k3':Option (Order×Int)}{b b':List Int}{X:TL}(hk:(∀ z,z∈X->zcq z=true)->Bo k3 k3')(hX:∀ x,x∈X->x.size<N/\x.size<N')(hl:X.length=nm)(hn:nm<=2):∀ (m i n n':Nat),nm-i=m->m<n->m<n'->(∀ z,z∈X.take i->zcq z=true) ->
  Bo (zau N b k2 X k3 n (i:Int)) (zgB N' ((nm:Int),(nu:Int),true) x4 X b' k3' n' (i:Int)):=by
 intro m
 induction m with
 | zero =>
  intro i n n' h1 h2 h2' h3;obtain⟨n,rfl⟩:∃ q,n=q+1:=⟨n-1,by omega⟩;obtain⟨n',rfl⟩:∃ q,n'=q+1:=⟨n'-1,by omega⟩;simp only[zau,zaO,zgB,zjX,zaE,decide_eq_true_eq];rw[if_neg (by omega),if_neg (by omega)]
  grind [List.take_of_length_le]
 | succ m ih =>
  intro i n n' h1 h2 h2' h3;obtain⟨n,rfl⟩:∃ q,n=q+1:=⟨n-1,by omega⟩;obtain⟨n',rfl⟩:∃ q,n'=q+1:=⟨n'-1,by omega⟩
  have hi:i<X.length:=by omega
  have hs:=hX _ (List.getElem_mem hi);simp only[zau,zaO,zgB,zjX,zaE,decide_eq_true_eq];rw[if_pos (show (i:Int)<(X.length:Int) by omega),if_pos (show (i:Int)<(nm:Int) by omega),ze4 hi];simp only[zyl,f107,zhZ hs.1,zh0 hs.2]
  cases hb:zcq X[i] with
  | false=>rw[if_pos (by simp),if_pos (by omega),if_pos (by simp)];exact .err (by decide)
  | true =>
   rw[if_neg (by simp),if_neg (by simp),zcO (by omega)];refine ih (i+1) n n' (by omega) (by omega) (by omega) λ z hz=>?_
   grind [List.take_add_one,zyn]
theorem zvm {k4:List Int->Option (I97×Int)}{k4':List Int->Option (Order×Int)}(hk:∀ e0 e1,Bo (k4 [e0,e1]) (k4' ([e0,e1].take nu)))(hX:∀ x,x∈P->x.size<N/\x.size<N')(hl:P.length=1+nm+nu)(hnm:nm<=2)(hnu:nu<=2):∀ (m i n n':Nat) (e0 e1:Int),nu-i=m->m<n->m<n' ->
  Bo (zev N (P,q) (nm:Int) (nu:Int) k4 (P.drop (1+nm)) n (i:Int) [e0,e1]) (zfX N' (P,q') ((nm:Int),(nu:Int),true) x4 x5 k4' n' (i:Int) ([e0,e1].take (min i nu))):=by
 intro m
 induction m with
 | zero =>
  intro i n n' e0 e1 h1 h2 h2';obtain⟨n,rfl⟩:∃ q,n=q+1:=⟨n-1,by omega⟩;obtain⟨n',rfl⟩:∃ q,n'=q+1:=⟨n'-1,by omega⟩;simp only[zev,zgk,zfX,zjZ,zaE,decide_eq_true_eq]
  grind
 | succ m ih =>
  intro i n n' e0 e1 h1 h2 h2';obtain⟨n,rfl⟩:∃ q,n=q+1:=⟨n-1,by omega⟩;obtain⟨n',rfl⟩:∃ q,n'=q+1:=⟨n'-1,by omega⟩
  have hi:1+nm+i<P.length:=by omega
  have hs:=hX _ (List.getElem_mem hi)
  have w1:W ((W ((1:Int)+(nm:Int)))+(i:Int))=((1+nm+i:Nat):Int):=by grind [za8]
  have hd:(P.drop (1+nm))[i]? = some P[1+nm+i]:=by grind
  simp only[zev,zgk,zfX,zjZ,zaE,decide_eq_true_eq];rw[if_pos (by simp;omega),if_pos (by omega),za2,hd,w1,ze4 hi];simp only[zyl,zvl hs.1 hs.2];obtain⟨r,hr⟩:=zrp (N:=N) (s:=P[1+nm+i]) hs.1;rw[hr,chkI,if_pos ⟨by omega,by omega⟩];simp only[zyl,setN,Int.toNat_natCast]
  have hi2:i<2:=by omega
  have hW:W ((i:Int)+1)=((i+1:Nat):Int):=zcO (by omega);simp only[List.length_cons,List.length_nil,hW];rw[if_pos (by omega),Nat.min_eq_left (by omega)];simp only[zyl]
  match i,hi2 with
  | 0,_ =>
   simp only[List.set_cons_zero,List.take_zero]
   cases r.2 with
   | false=>exact .err (by decide)
   | true =>
    rw[if_neg (by simp),if_neg (by simp),zc6 (by simp) (by simp),zyl]
    grind
  | 1,_ =>
   simp only[List.set_cons_succ,List.set_cons_zero]
   cases r.2 with
   | false=>exact .err (by decide)
   | true =>
    rw[if_neg (by simp),if_neg (by simp),zc6 (by simp) (by simp),zyl]
    grind
end
def zn9 (N:Nat)(x1:TL×Bool)(x3:Int×Int×Bool):Option (Order×Int) :=
 bif !x3.2.2 then (some ((Order.mk zaG [] []),(10:Int)))
 else (bif decide (¬ (List.length x1.1:Int)=(W ((W ((1:Int)+x3.1))+x3.2.1))) then (some ((Order.mk zaG [] []),(9:Int)))
 else ((ix x1.1 (0:Int)).bind λ x4 =>
 (sub x1.1 (1:Int) (W ((1:Int)+x3.1))).bind λ x5 =>
 zay (zfq N x3 x4 x5) λ k4 =>
 zfX N x1 x3 x4 x5 k4 N (0:Int) []))
section
variable {N N':Nat} {P:TL} {q q':Bool} {nm nu:Nat} {lo hi:Int} {x:ByteArray}
theorem zd2 (hnm:nm<=2)(hnu:nu<=2)(hN:10<=N/\10<=N')(hX:∀ z,z∈x::P->z.size<N/\z.size<N')
  (hsel:∀ b,zeu N (x::P,q) (nu:Int) b=zdZ N (x::P,q) (nu:Int) b lo hi) (hsel':∀ x3 x5 b,zfp N' x3 x x5 b=zfo N' x3 x x5 b lo hi)
  (hfin:(x::P).length=1+nm+nu->(∀ z,z∈P.take nm->zcq z=true)->∀ e0 e1,(0<nu->lo<=e0/\e0<=hi)->(1<nu->lo<=e1/\e1<=hi)->Bo (f108 N (x::P) ⟨e0,e1⟩ |>.bind λ x=>some (x,0)) (some (Order.mk x (P.take nm) ([e0,e1].take nu),0))) :
  Bo (zc8 N (x::P,q) (nm:Int) (nu:Int)) (zn9 N' (x::P,q') ((nm:Int),(nu:Int),true)):=by
 have w1:W (1+(nm:Int))=((1+nm:Nat):Int):=by grind [za8]
 have w2:W (((1+nm:Nat):Int)+(nu:Int))=((1+nm+nu:Nat):Int):=by grind [za8]
 simp only[zc8,zn9,zay,zaE,decide_eq_true_eq,w1,w2,Bool.not_true];rw[if_neg (show ¬ (false=true) by simp)];by_cases hlen:(((x::P).length:Nat):Int)=((1+nm+nu:Nat):Int)
 .have hlen:(x::P).length=1+nm+nu:=by omega
  rw[if_neg (by omega),if_neg (by omega),zem (by omega) (Nat.le_refl _),ix_h,show (1:Int)=((1:Nat):Int) from rfl,zem (by omega) (by omega)];simp only[zyl,List.take_length]
  have e5:((x::P).take (1+nm)).drop 1=P.take nm:=by grind
  rw[e5];refine zvm (λ e0 e1=>?_) hX hlen hnm hnu nu 0 N N' 0 0 rfl (by omega) (by omega);simp only[zfr,zfq,zay,w1];rw[show (1:Int)=((1:Nat):Int) from rfl,zem (by omega) (by omega),zyl,e5];refine ztk (λ hnb=>?_) (λ z hz=>hX z (List.mem_cons_of_mem _ (List.mem_of_mem_take hz))) (by grind) hnm nm 0 N N' rfl (by omega) (by omega) (λ z hz=>by simp at hz);simp only[zaB,hsel,hsel',zdZ,zfo,zay];rw[arS,if_pos ⟨by omega,by omega⟩,zyl];refine zrx (λ h1 h2=>?_) hnu nu 0 N N' rfl (by omega) (by omega) (λ h=>by omega) (λ h=>by omega)
  grind [zet,zfn,A2iN.of]
 .rw [if_pos hlen,if_pos hlen];exact .err (by decide)
end
abbrev RdK2 (k:List UInt8)(a u:Nat):Prop:=∀ {N N':Nat} {P:TL} {b b':Bool},10<=N/\10<=N'->(∀ z,z∈strC k::P->z.size<N/\z.size<N')->Bo (zc8 N (strC k::P,b) (a:Int) (u:Int)) (zn9 N' (strC k::P,b') ((a:Int),(u:Int),true))
theorem ztl:RdK2 [115,116,111,110,101] 1 1:=λ hN hX=>zd2 (lo:=1) (hi:=99) (by omega) (by omega) hN hX (λ b=>by kernel_rfl) (λ _ _ _=>by kernel_rfl) λ hl hn e0 e1 b1 b2=>by
 obtain⟨a,l,rfl⟩:=zcP hl;exact⟨(I97.c199 ⟨a,e0⟩,0),_,by kernel_rfl,rfl,rfl,λ _=>⟨by simp only[zbv];omega,rfl,hn⟩⟩
theorem zpa:RdK2 [101,100,105,116,105,111,110] 1 0:=λ hN hX=>zd2 (lo:=1) (hi:=5000) (by omega) (by omega) hN hX (λ b=>by kernel_rfl) (λ _ _ _=>by kernel_rfl) λ hl hn e0 e1 b1 b2=>by
 obtain⟨a,l,rfl⟩:=zcP hl;exact⟨(I97.c201 ⟨a⟩,0),_,by kernel_rfl,rfl,rfl,λ _=>⟨by trivial,rfl,hn⟩⟩
theorem zvn:RdK2 [100,114,97,119] 2 0:=λ hN hX=>zd2 (lo:=1) (hi:=5000) (by omega) (by omega) hN hX (λ b=>by kernel_rfl) (λ _ _ _=>by kernel_rfl) λ hl hn e0 e1 b1 b2=>by
 obtain⟨a,b,l,rfl⟩:=zdJ hl;exact⟨(I97.c203 ⟨a,b⟩,0),_,by kernel_rfl,rfl,rfl,λ _=>⟨by trivial,rfl,hn⟩⟩
theorem ztm:RdK2 [112,97,112,101,114] 1 1:=λ hN hX=>zd2 (lo:=1) (hi:=5000) (by omega) (by omega) hN hX (λ b=>by kernel_rfl) (λ _ _ _=>by kernel_rfl) λ hl hn e0 e1 b1 b2=>by
 obtain⟨a,l,rfl⟩:=zcP hl;exact⟨(I97.c205 ⟨a,e0⟩,0),_,by kernel_rfl,rfl,rfl,λ _=>⟨by simp only[zbv];omega,rfl,hn⟩⟩
theorem ztn:RdK2 [112,114,105,110,116] 1 2:=λ hN hX=>zd2 (lo:=0) (hi:=5000) (by omega) (by omega) hN hX (λ b=>by kernel_rfl) (λ _ _ _=>by kernel_rfl) λ hl hn e0 e1 b1 b2=>by
 obtain⟨a,l,rfl⟩:=zcP hl;exact⟨(I97.c207 ⟨a,e0,e1⟩,0),_,by kernel_rfl,rfl,rfl,λ _=>⟨by simp only[zbv];omega,rfl,hn⟩⟩
theorem zto:RdK2 [99,108,111,115,101] 1 0:=λ hN hX=>zd2 (lo:=1) (hi:=5000) (by omega) (by omega) hN hX (λ b=>by kernel_rfl) (λ _ _ _=>by kernel_rfl) λ hl hn e0 e1 b1 b2=>by
 obtain⟨a,l,rfl⟩:=zcP hl;exact⟨(I97.c209 ⟨a⟩,0),_,by kernel_rfl,rfl,rfl,λ _=>⟨by trivial,rfl,hn⟩⟩
theorem ztp:RdK2 [99,108,97,105,109] 2 1:=λ hN hX=>zd2 (lo:=1) (hi:=5000) (by omega) (by omega) hN hX (λ b=>by kernel_rfl) (λ _ _ _=>by kernel_rfl) λ hl hn e0 e1 b1 b2=>by
 obtain⟨a,b,l,rfl⟩:=zdJ hl;exact⟨(I97.c211 ⟨a,b,e0⟩,0),_,by kernel_rfl,rfl,rfl,λ _=>⟨by simp only[zbv];omega,rfl,hn⟩⟩
theorem zpb:RdK2 [100,101,108,105,118,101,114] 2 1:=λ hN hX=>zd2 (lo:=1) (hi:=5000) (by omega) (by omega) hN hX (λ b=>by kernel_rfl) (λ _ _ _=>by kernel_rfl) λ hl hn e0 e1 b1 b2=>by
 obtain⟨a,b,l,rfl⟩:=zdJ hl;exact⟨(I97.c213 ⟨⟨a,b,e0⟩⟩,0),_,by kernel_rfl,rfl,rfl,λ _=>⟨by simp only[zbv];omega,rfl,hn⟩⟩
theorem ztq:RdK2 [103,114,105,110,100] 1 0:=λ hN hX=>zd2 (lo:=1) (hi:=5000) (by omega) (by omega) hN hX (λ b=>by kernel_rfl) (λ _ _ _=>by kernel_rfl) λ hl hn e0 e1 b1 b2=>by
 obtain⟨a,l,rfl⟩:=zcP hl;exact⟨(I97.c215 ⟨a⟩,0),_,by kernel_rfl,rfl,rfl,λ _=>⟨by trivial,rfl,hn⟩⟩
theorem iteB {c:Prop}[Decidable c]{a b:Option (I97×Int)}{p:Option (Order×Int)}(h:c->Bo a p)(h':¬ c->Bo b p):Bo (if c then a else b) p:=by
 grind
theorem zne {N N':Nat}{y:ByteArray}(hN:60<=N)(hN':60<=N'):Bo (f79 N y) (f80 N' y):=by
 unfold f79 f80;rw[zaE,zaE];simp only[decide_eq_true_eq];by_cases h40:(40:Int)<(y.size:Int)
 .rw [if_pos h40,if_pos h40];exact .err (by decide)
 .rw [if_neg h40,if_neg h40]
  obtain⟨⟨P,q⟩,⟨P2,q2⟩,hr,hr2,e1,e2⟩:=zrw (N:=N) (N':=N') (s:=y) (by omega) (by omega) (by omega);obtain⟨r3,hr3,hp⟩:=zrq (N:=N) (s:=y) (by omega) (by omega);rw[hr] at hr3
  cases hr3
  dsimp only at e1 e2;subst e1;rw[hr,hr2];simp only[zyl]
  cases hq:q2 with
  | false=>exact .err (by decide)
  | true =>
   obtain⟨hne,hsz⟩:=hp hq;have:=e2 hq;subst this;rw[Bool.not_true,cond_false,cond_false]
   obtain⟨x,P',rfl⟩:∃ x P',P2=x::P':=by cases P2 with|nil=>grind|cons x P' => grind
   have hX:∀ z,z∈x::P'->z.size<N/\z.size<N':=λ z hz=>by grind
   have w1:W ((0:Int)+1)=((1:Nat):Int):=by grind [za8]
   have w2:W ((0:Int)+2)=((2:Nat):Int):=by grind [za8]
   have w3:W (((1:Nat):Int)+1)=((2:Nat):Int):=by grind
   show Bo _ ((ix (x::P') 0).bind λ x2=>(f110 N' x2).bind λ x3=>zn9 N' (x::P',true) x3);rw[zay,ix_h,zyl,zyl];simp only[zaE,decide_eq_true_eq,w1,w2,w3];refine iteB (λ hx=>?_) (λ n1=>?_)
   .subst hx;exact ztn ⟨by omega,by omega⟩ hX
   refine iteB (λ hx=>?_) (λ n2=>?_)
   .subst hx;exact ztl ⟨by omega,by omega⟩ hX
   refine iteB (λ hx=>?_) (λ n3=>?_)
   .subst hx;exact ztm ⟨by omega,by omega⟩ hX
   refine iteB (λ hx=>?_) (λ n4=>?_)
   .subst hx;exact zpa ⟨by omega,by omega⟩ hX
   refine iteB (λ hx=>?_) (λ n5=>?_)
   .subst hx;exact zto ⟨by omega,by omega⟩ hX
   refine iteB (λ hx=>?_) (λ n6=>?_)
   .subst hx;exact ztq ⟨by omega,by omega⟩ hX
   refine iteB (λ hx=>?_) (λ n7=>?_)
   .subst hx;exact ztp ⟨by omega,by omega⟩ hX
   refine iteB (λ hx=>?_) (λ n8=>?_)
   .subst hx;exact zpb ⟨by omega,by omega⟩ hX
   refine iteB (λ hx=>?_) (λ n9=>?_)
   .subst hx;exact zvn ⟨by omega,by omega⟩ hX
   have h110:f110 N' x=some (0,0,false):=by grind [decide_eq_false,f110]
   rw[h110,zyl];exact .err (by decide)
end Go.Vc
namespace Go.Vc
open Go.Proofs
def edR (q:ByteArray×EditionM):Edition:=⟨q.1,q.2.closed,q.2.places,q.2.from_,q.2.paper,q.2.delivered,q.2.spoilt⟩
def StR (E:TE)(p:ByteArray×StoneM)(s:Stone):Prop:=s.name=p.1/\s.thick=p.2.thick/\(p.2.of=none->s.on=zaG)/\∀ j,p.2.of=some j->∃ q,E[j]? = some q/\s.on=q.1/\s.place=p.2.place
structure RelS (E:TE)(S:TS)(st:List Stone):Prop where
 len:st.length=S.length
 at_:∀ (i:Nat) p s,S[i]? = some p->st[i]? = some s->StR E p s
def za0 (cl:List ClaimS)(k:ByteArray):List (ByteArray×Int):=(cl.filter λ c=>decide (c.edition=k)).map λ c=>(c.customer,c.claimed-c.got)
def zcJ (cl:List ClaimS):TC:=cl.foldl (λ acc c=>setK c.customer true acc) []
structure RelC (E:TE)(C:TC)(cl:List ClaimS)(n:Nat):Prop where
 ln:cl.length<=n
 ow:∀ q,q∈E->q.2.owed=za0 cl q.1
 cs:C=zcJ cl
 bd:∀ c,c∈cl->0<=c.got/\c.got<=c.claimed/\c.claimed<=5000*n
 ed:∀ c,c∈cl->∃ q,q∈E/\q.1=c.edition
structure RelB (b:Bk)(R:StateS):Prop where
 ed:R.editions=b.E.map edR
 st:RelS b.E b.S R.stones
 cl:RelC b.E b.C R.claims b.L.length
 nm:∀ q,q∈b.E->q.1≠zaG
def ixO:Option Nat->Int
 | some j=>(j:Int)
 | none=>-1
section
variable {κ σ α:Type}
theorem zry {L:List α}{f:α->ByteArray}{k:ByteArray}{F:Nat->Int->Option Int}(hF:∀ n i,F (n+1) i=bif decide (i<(L.length:Int)) then ((ix L i).bind λ x=>bif decide (f x=k) then some i else F n (W (i+1))) else some (-1))(hl:L.length<=1000)(S:List (ByteArray×σ))(hS:S.map (·.1)=L.map f) :
  ∀ (m i n:Nat),L.length-i=m->i<=L.length->m<n->(∀ j p,j<i->S[j]? = some p->p.1≠k)->F n (i:Int)=some (ixO (zan k S)):=by
 have hlen:S.length=L.length:=by have:=congrArg List.length hS;simpa using this
 have hat:∀ (i:Nat) p x,S[i]? = some p->L[i]? = some x->p.1=f x:=λ i p x hp hx=>by
  have:(S.map (·.1))[i]? = (L.map f)[i]? := by rw[hS]
  grind
 intro m
 induction m with
 | zero =>
  intro i n h1 h2 h3 h4;obtain⟨n,rfl⟩:∃ q,n=q+1:=⟨n-1,by omega⟩;rw[hF,ltF (by omega),cond_false];rw[(zdH (l:=S)).2 λ p hp=>by grind [List.getElem?_of_mem,zym]];rfl
 | succ m ih =>
  intro i n h1 h2 h3 h4;obtain⟨n,rfl⟩:∃ q,n=q+1:=⟨n-1,by omega⟩
  have hi:i<L.length:=by omega
  have hiS:i<S.length:=by omega
  have e:=hat i S[i] L[i] (zyn hiS) (zyn hi);rw[hF,ltT hi,cond_true,ze4 hi,zyl];by_cases hk:f L[i]=k
  .rw [decide_eq_true hk,cond_true]
   rw[(zbr (i:=i)).2 ⟨⟨S[i].2,by grind⟩,h4⟩];rfl
  .rw [decide_eq_false hk,cond_false,zcO (by omega)]
   grind
end
theorem zeS {N:Nat}{E:TE}{S:TS}{R:StateS}(h:RelS E S R.stones)(hl:S.length<=8)(hN:10<=N)(k:ByteArray):f91 N R k=some (ixO (zan k S)):=by
 have:=zry (L:=R.stones) (f:=Stone.name) (k:=k) (F:=zo1 R k zhD) (λ n i=>rfl) (by have:=h.len;omega) S (by
  apply List.ext_getElem?;intro i;rw[List.getElem?_map,List.getElem?_map]
  cases hs:S[i]? with
  | none=>grind [List.getElem?_eq_none_iff,RelS.len]
  | some p =>
   have hi:=(zym.1 hs).1
   have hi2:i<R.stones.length:=by have:=h.len;omega
   have h2:R.stones[i]? = some R.stones[i]:=zyn hi2
   rw[h2];simp[(h.at_ i p _ hs h2).1]) R.stones.length 0 N rfl (by omega) (by have:=h.len;omega) (λ j p hj=>by omega)
 exact this
theorem zbw {N:Nat}{E:TE}{R:StateS}(h:R.editions=E.map edR)(hl:E.length<=5)(hN:10<=N)(k:ByteArray):f112 N R k=some (ixO (zan k E)):=by
 have:=zry (L:=R.editions) (f:=Edition.name) (k:=k) (F:=ziG R k zfk) (λ n i=>rfl) (by grind) E (by rw[h,List.map_map];rfl) R.editions.length 0 N rfl (by omega) (by grind) (λ j p hj=>by omega);exact this
theorem ztr {k0:Int->Option Int}{x1:List Int}:∀ (r:List Int) (i n:Nat) (acc:Int),x1.drop i=r->i<=x1.length->r.length<n->(∀ k,k∈r->0<=k)->0<=acc->acc+sumI r<=1000000->x1.length<=1000000 ->
  zlL x1 k0 n acc (i:Int)=k0 (acc+sumI r):=by
 intro r
 induction r with
 | nil =>
  intro i n acc hd hi hn hnn ha hs hl;obtain⟨n,rfl⟩:∃ q,n=q+1:=⟨n-1,by omega⟩
  have:i=x1.length:=by grind
  simp_all [Int.add_zero,ltF,Nat.le_refl,cond_false,zlL,znZ,sumI]
 | cons y r ih =>
  intro i n acc hd hi hn hnn ha hs hl;obtain⟨n,rfl⟩:∃ q,n=q+1:=⟨n-1,by omega⟩
  have hx:x1[i]? = some y:=by
   have:(x1.drop i)[0]? = some y:=by rw[hd];rfl
   simpa using this
  have hil:=(zym.1 hx).1;simp only[List.mem_cons,forall_eq_or_imp] at hnn;simp only[sumI] at hs;have hr:=zbM hnn.2;simp only[zlL,znZ,za2,hx,zyl];rw[ltT hil,cond_true,zcO (by omega),W_of (by omega) (by omega),ih (i+1) n (acc+y) (by rw[<- List.drop_drop,hd];rfl) (by omega) (by grind) hnn.2 (by omega) (by omega) hl];simp only[sumI,Int.add_assoc]
theorem zu {N:Nat}{l:List Int}(h:∀ k,k∈l->0<=k)(hs:sumI l<=1000000)(hl:l.length<N)(hl2:l.length<=1000):f93 N l=some (sumI l):=by
 have:=ztr (k0:=ziH) l 0 N 0 rfl (by omega) hl h (by omega) (by omega) (by omega);rw[Int.zero_add] at this;exact this
theorem zl2 {m N:Nat}{q:ByteArray×EditionM}(h:EdOK m q.2){k:Int}(h0:0<=k)(hk:k<=q.2.places.length)(hM:m+2<=N)(hm:m<=900):f94 N (edR q) k=some (q.2.rest k):=by
 have hle:=h.le;have hs:=zhW h.nn k.toNat;have h5:=h.sums;obtain⟨j,rfl⟩:∃ j:Nat,k=j:=⟨k.toNat,by omega⟩;unfold f94;show ((sub q.2.places (j:Int) (q.2.places.length:Int)).bind _)=_;rw[zem (by omega) (by omega),zyl,List.take_length,zu (λ k hk=>h.nn k (List.mem_of_mem_drop hk)) (by grind) (by simp;omega) (by simp;omega)];rfl
theorem zo (a b:List ClaimS)(k:ByteArray):za0 (a++b) k=za0 a k++za0 b k:=by simp[za0]
theorem zl3 {R:StateS}{k:ByteArray}{k0:Int->Option Int}(hl:R.claims.length<=1000)(hb:∀ c,c∈R.claims->0<=c.got/\c.got<=c.claimed/\c.claimed<=1000000):∀ (r p:List ClaimS) (n:Nat) (acc:Int),p++r=R.claims->r.length<n->0<=acc->acc+sumI ((za0 r k).map (·.2))<=1000000 ->
  zgy R k k0 n acc (p.length:Int)=k0 (acc+sumI ((za0 r k).map (·.2)))
 | [],p,n,acc,h,h1,h2,h3=>by
  obtain⟨n,rfl⟩:∃ q,n=q+1:=⟨n-1,by omega⟩
  simp_all [ltF,cond_false,List.length,zgy,zjG,za0,sumI]
 | c::r,p,n,acc,h,h1,h2,h3=>by
  obtain⟨n,rfl⟩:∃ q,n=q+1:=⟨n-1,by omega⟩
  have hx:R.claims[p.length]? = some c:=by grind
  have hlen:R.claims.length=p.length+(r.length+1):=by grind
  have hc:=hb c (by rw[<- h];simp)
  have hr:0<=sumI ((za0 r k).map (·.2)):=zbM λ z hz=>by
   obtain⟨w,hw,rfl⟩:=List.mem_map.1 hz;obtain⟨d,hd,rfl⟩:=List.mem_map.1 hw
   grind
  simp only[zgy,zjG];rw[ltT (by omega),cond_true,za2,hx,zyl,zyl,zyl,zcO (by omega)];have ih:=λ acc=>zl3 (k:=k) (k0:=k0) hl hb r (p++[c]) n acc (by simpa using h) (by simpa using h1);simp only[List.length_append,List.length_singleton] at ih;by_cases he:c.edition=k
  .have e1:za0 (c::r) k=(c.customer,c.claimed-c.got)::za0 r k:=by simp[za0,he]
   rw[e1] at h3 ⊢;simp only[List.map_cons,sumI] at h3 ⊢;rw[decide_eq_true he,cond_true,W_of (n:=c.claimed-c.got) (by omega) (by omega),W_of (by omega) (by omega),ih _ (by omega) (by omega),Int.add_assoc]
  simp_all [decide_eq_false,cond_false,za0]
theorem RelC.open_ {E:TE}{C:TC}{R:StateS}{n m N:Nat}(h:RelC E C R.claims n){q:ByteArray×EditionM}(hq:q∈E)(he:EdOK m q.2)(hn:n<=150)(hN:n<N):f126 N R q.1=some q.2.open_:=by
 have hs:sumI ((za0 R.claims q.1).map (·.2))=q.2.open_:=by rw[he.os,h.ow q hq]
 have hb:=he.ob;have:=zl3 (k:=q.1) (k0:=zgh) (by have:=h.ln;omega) (λ c hc=>by have:=h.bd c hc;omega) R.claims [] N 0 rfl (by have:=h.ln;omega) (by omega) (by omega);rw[hs,Int.zero_add] at this;exact this
theorem zh1 {κ σ:Type}[DecidableEq κ]{z v:σ}{k k':κ}:∀ l:List (κ×σ),za1 z k (setK k' v l)=if k'=k then (v,true) else za1 z k l
 | []=>rfl
 | p::r=>by
  have ih:=zh1 (z:=z) (v:=v) (k:=k) (k':=k') r;simp only[setK];by_cases h1:p.1=k'
  .simp_all [if_pos,if_neg,za1,dite]
  .rw [if_neg h1]
   simp only[za1]
   grind
theorem zf3 (a:List ClaimS)(c:ClaimS):zcJ (a++[c])=setK c.customer true (zcJ a):=by simp[zcJ]
theorem ziW (k:ByteArray):∀ (l:List ClaimS),(∃ c,c∈l/\c.customer=k)/\za1 false k (zcJ l)=(true,true)∨(∀ c,c∈l->c.customer≠k)/\za1 false k (zcJ l)=(false,false):=by
 intro l
 have:∀ (n:Nat) (l:List ClaimS),l.length=n->(∃ c,c∈l/\c.customer=k)/\za1 false k (zcJ l)=(true,true)∨(∀ c,c∈l->c.customer≠k)/\za1 false k (zcJ l)=(false,false):=by
  intro n
  induction n with
  | zero=>intro l hl;have:=List.length_eq_zero_iff.1 hl;subst this;exact .inr ⟨by simp,rfl⟩
  | succ n ih =>
   intro l hl;obtain⟨a,c,rfl⟩:∃ a c,l=a++[c]:=⟨l.dropLast,l.getLast (by grind),(List.dropLast_concat_getLast _).symm⟩;rw[zf3,zh1]
   grind
 grind
theorem zpc {R:StateS}{w:ByteArray}{n6:Int}{kn:Bool}{k2:Bool->Option (Int×Bool)}{c:ClaimS}{i:Nat}(hl:R.claims.length<=1000)(hi:R.claims[i]? = some c):∀ (m j n:Nat) (f:Bool),i-j=m->j<=i->m<n ->
  zgz R w n6 (i:Int) kn k2 n f (j:Int)=k2 (f&&decide (∀ d,d∈(R.claims.take i).drop j->d.customer≠c.customer)):=by
 have hil:=(zym.1 hi).1;intro m
 induction m with
 | zero =>
  intro j n f h1 h2 h3;obtain⟨n,rfl⟩:∃ q,n=q+1:=⟨n-1,by omega⟩
  have:j=i:=by omega
  simp_all [decide_eq_false,cond_false,List.drop_of_length_le,decide_eq_true,Bool.and_true,zgz,zjI]
 | succ m ih =>
  intro j n f h1 h2 h3;obtain⟨n,rfl⟩:∃ q,n=q+1:=⟨n-1,by omega⟩
  have hj:j<R.claims.length:=by omega
  have hd:(R.claims.take i).drop j=R.claims[j]::(R.claims.take i).drop (j+1):=by grind [List.drop_eq_getElem_cons]
  simp only[zgz,zjI];rw[decide_eq_true (by omega),cond_true,ze4 hj,za2,hi,zcO (by omega),hd]
  cases f with
  | false=>rw[cond_false,ih (j+1) n false (by omega) (by omega) (by omega)];simp
  | true =>
   rw[cond_true,zyl,zyl,ih (j+1) n _ (by omega) (by omega) (by omega)]
   simp_all
theorem zl4 {R:StateS}{w:ByteArray}{N:Nat}(hl:R.claims.length<=1000)(hN:R.claims.length<N):∀ (r p:List ClaimS) (n:Nat),p++r=R.claims->r.length<n ->
  ze5 R w N zdn n ((zcJ p).length:Int) (za1 false w (zcJ p)).1 (p.length:Int)=some (((zcJ R.claims).length:Int),(za1 false w (zcJ R.claims)).1)
 | [],p,n,h,h1=>by
  obtain⟨n,rfl⟩:∃ q,n=q+1:=⟨n-1,by omega⟩;simp only[List.append_nil] at h;subst h;simp only[ze5,zjK];rw[ltF (Nat.le_refl _),cond_false];rfl
 | c::r,p,n,h,h1=>by
  obtain⟨n,rfl⟩:∃ q,n=q+1:=⟨n-1,by omega⟩
  have hx:R.claims[p.length]? = some c:=by grind
  have hlen:R.claims.length=p.length+(r.length+1):=by grind
  have ih:=zl4 (w:=w) hl hN r (p++[c]) n (by simpa using h) (by simpa using h1)
  have htk:R.claims.take p.length=p:=by grind
  rw[zf3,zh1,zgP (z:=false)] at ih
  have hpl:(zcJ p).length<=p.length:=by
   have:∀ (m:Nat) (l:List ClaimS),l.length=m->(zcJ l).length<=l.length:=by
    intro m
    induction m with
    | zero=>grind [List.length_eq_zero_iff,zcJ]
    | succ m ih =>
     intro l hl;obtain⟨a,d,rfl⟩:∃ a d,l=a++[d]:=⟨l.dropLast,l.getLast (by grind),(List.dropLast_concat_getLast _).symm⟩;rw[zf3,zgP (z:=false)]
     grind
   exact this _ p rfl
  have hf:=λ kn k2=>zpc (w:=w) (n6:=((zcJ p).length:Int)) (kn:=kn) (k2:=k2) hl hx p.length 0 N true (by omega) (by omega) (by omega);simp only[List.drop_zero,Bool.true_and,htk] at hf;simp only[ze5,zjK,zay];rw[ltT (by omega),cond_true]
  have key:∀ kn,zfm R w N ((zcJ p).length:Int) (p.length:Int) (zfl R w (p.length:Int) (ze5 R w N zdn n)) kn=ze5 R w N zdn n (((if (za1 false c.customer (zcJ p)).2=true then (zcJ p).length else (zcJ p).length+1:Nat)):Int) kn ((p++[c]).length:Int):=by
   intro kn;simp only[zfm,zay];rw[show ((0:Int))=((0:Nat):Int) from rfl,hf];simp only[zeQ,zfl];rw[zcO (by omega),zcO (i:=p.length) (by omega)]
   rcases ziW c.customer p with ⟨⟨d,d1,d2⟩,h3⟩|⟨h3,h4⟩
   .grind
   .grind
  rw[key,za2,hx,zyl,key]
  grind
theorem RelC.cust {E:TE}{C:TC}{R:StateS}{n N:Nat}(h:RelC E C R.claims n)(hn:n<=150)(hN:n<N)(w:ByteArray):f139 N R w=some ((C.length:Int),(za1 false w C).1):=by
 have:=zl4 (R:=R) (w:=w) (N:=N) (by have:=h.ln;omega) (by have:=h.ln;omega) R.claims [] N rfl (by have:=h.ln;omega);rw[h.cs];exact this
end Go.Vc
namespace Go.Vc
open Go.Proofs
theorem zf4 {κ σ:Type}[DecidableEq κ]{l:List (κ×σ)}(h:(l.map (·.1)).Nodup){j:Nat}{q:κ×σ}(hq:l[j]? = some q):zan q.1 l=some j:=by
 refine zbr.2 ⟨⟨q.2,hq⟩,λ i p hi hp he=>?_⟩
 have h1:(l.map (·.1))[i]? = some q.1:=by grind
 have h2:(l.map (·.1))[j]? = some q.1:=by grind
 have:=(List.getElem?_inj (zym.1 h1).1 h).1 (h1.trans h2.symm);omega
section
variable {b:Bk} {R:StateS} {N:Nat}
theorem RelB.stone (hr:RelB b R)(hb:BkOK b){k:ByteArray}{i:Nat}(h:zan k b.S=some i):∃ a s,stO b.S k=some a/\getF b.S i=some a/\R.stones[i]? = some s/\s.name=k/\s.thick=a.thick/\(a.of=none->s.on=zaG) /\
  (∀ j,a.of=some j->∃ q,b.E[j]? = some q/\s.on=q.1/\s.on≠zaG/\s.place=a.place/\zan s.on b.E=some j):=by
 obtain⟨⟨a,ha⟩,_⟩:=zbr.1 h;have hi:=(zym.1 ha).1
 have hi2:i<R.stones.length:=by have:=hr.st.len;omega
 have hs:R.stones[i]? = some R.stones[i]:=zyn hi2;obtain⟨h1,h2,h3,h4⟩:=hr.st.at_ i _ _ ha hs;have hg:getF b.S i=some a:=zaV.2 ⟨k,ha⟩;refine⟨a,_,by grind [stO],hg,hs,h1,h2,h3,λ j hj=>?_⟩;obtain⟨q,q1,q2,q3⟩:=h4 j hj;exact⟨q,q1,q2,by rw[q2];exact hr.nm q (zyp q1),q3,by rw[q2];exact zf4 hb.sh.ek q1⟩
theorem zeT {S:TS}{k:ByteArray}(h:zan k S=none):stO S k=none:=by unfold stO;rw[h];rfl
theorem zcC {E:TE}{k:ByteArray}(h:zan k E=none):edO E k=none:=by unfold edO;rw[h];rfl
theorem RelB.edit (hr:RelB b R)(hb:BkOK b){k:ByteArray}{j:Nat}(h:zan k b.E=some j):∃ q,b.E[j]? = some q/\q.1=k/\edO b.E k=some q.2/\getF b.E j=some q.2/\R.editions[j]? = some (edR q)/\EdOK b.L.length q.2/\q∈b.E:=by
 obtain⟨⟨e,he⟩,_⟩:=zbr.1 h;have hg:getF b.E j=some e:=zaV.2 ⟨k,he⟩;exact⟨(k,e),he,rfl,by grind [edO],hg,by rw[hr.ed,List.getElem?_map,he];rfl,hb.sh.gE hg,zyp he⟩
theorem zrz {c:ClaimS}{r:List ClaimS}{cu k:ByteArray}:za1 0 cu (za0 (c::r) k)=if c.edition=k/\c.customer=cu then (c.claimed-c.got,true) else za1 0 cu (za0 r k):=by
 by_cases he:c.edition=k
 .simp_all [if_pos,if_neg,za0,za1,dite]
 simp_all [if_neg,za0]
def ClAt (R:StateS)(cu k:ByteArray)(v:Int):Prop:=(v = -1/\za1 0 cu (za0 R.claims k)=(0,false)/\∀ c,c∈R.claims->¬ (c.customer=cu/\c.edition=k)) ∨
 ∃ (i:Nat) (c:ClaimS),v=(i:Int)/\R.claims[i]? = some c/\c.customer=cu/\c.edition=k/\za1 0 cu (za0 R.claims k)=(c.claimed-c.got,true)/\∀ j d,j<i->R.claims[j]? = some d->¬ (d.customer=cu/\d.edition=k)
theorem zoa {cu k:ByteArray}(hl:R.claims.length<=1000):∀ (r p:List ClaimS) (n:Nat),p++r=R.claims->r.length<n->(∀ c,c∈p->¬ (c.customer=cu/\c.edition=k))->za1 0 cu (za0 R.claims k)=za1 0 cu (za0 r k)->∃ v,zlK R cu k zhE n (p.length:Int)=some v/\ClAt R cu k v
 | [],p,n,h,h1,h2,h3=>by
  obtain⟨n,rfl⟩:∃ q,n=q+1:=⟨n-1,by omega⟩
  have:R.claims.length=p.length:=by grind
  simp only[zlK,znY];rw[ltF (by omega),cond_false];simp only[List.append_nil] at h;exact⟨-1,rfl, .inl ⟨rfl,h3,by grind⟩⟩
 | c::r,p,n,h,h1,h2,h3=>by
  obtain⟨n,rfl⟩:∃ q,n=q+1:=⟨n-1,by omega⟩
  have hx:R.claims[p.length]? = some c:=by grind
  have hlen:R.claims.length=p.length+(r.length+1):=by grind
  rw[zrz] at h3;simp only[zlK,znY];rw[ltT (by omega),cond_true,za2,hx,zyl,zyl,zcO (by omega)];by_cases hc:c.edition=k/\c.customer=cu
  .rw [decide_eq_true hc.2,cond_true,decide_eq_true hc.1,cond_true]
   rw[if_pos hc] at h3;refine⟨_,rfl, .inr ⟨p.length,c,rfl,hx,hc.2,hc.1,h3,λ j d hj hd=>h2 d ?_⟩⟩
   grind
  .rw [if_neg hc] at h3
   have ih:=zoa (cu:=cu) (k:=k) hl r (p++[c]) n (by simpa using h) (by simpa using h1) (λ d hd=>by
    grind) h3
   grind
theorem zf5 (hl:R.claims.length<=1000)(hN:R.claims.length<N)(cu k:ByteArray):∃ v,f95 N R cu k=some v/\ClAt R cu k v :=
 zoa hl R.claims [] N rfl hN (λ c hc=>by simp at hc) rfl
def finM (L:TL)(e:Int):Int:=if e=0 then (if L.length=120 then 15 else 0) else e
theorem za6 {L:TL}(e:Int):zbf ⟨true,L⟩ e=some (finM L e):=by
 simp only[zbf,finM,zaE,decide_eq_true_eq]
 grind
def zbb (L:TL):BookM:=⟨true,L⟩
variable {nms:TL} {ns:List Int} {L:TL}
theorem zxV:f81 N (zbb L) ⟨strC [115,116,111,110,101],nms,ns⟩=(f90 N L).bind λ x1=>(ix nms 0).bind λ x2=>(f112 N x1 x2).bind λ _=>(f113 N x1 ⟨strC [115,116,111,110,101],nms,ns⟩).bind (zbf (zbb L)):=by kernel_rfl
theorem zxW:f81 N (zbb L) ⟨strC [100,114,97,119],nms,ns⟩=(f90 N L).bind λ x1=>(ix nms 0).bind λ x2=>(f112 N x1 x2).bind λ _=>(f113 N x1 ⟨strC [100,114,97,119],nms,ns⟩).bind (zbf (zbb L)):=by kernel_rfl
theorem zxX:f81 N (zbb L) ⟨strC [112,114,105,110,116],nms,ns⟩=(f90 N L).bind λ x1=>(ix nms 0).bind λ x2=>(f112 N x1 x2).bind λ _=>(f113 N x1 ⟨strC [112,114,105,110,116],nms,ns⟩).bind (zbf (zbb L)):=by kernel_rfl
theorem zxY:f81 N (zbb L) ⟨strC [103,114,105,110,100],nms,ns⟩=(f90 N L).bind λ x1=>(ix nms 0).bind λ x2=>(f112 N x1 x2).bind λ _=>(f113 N x1 ⟨strC [103,114,105,110,100],nms,ns⟩).bind (zbf (zbb L)):=by kernel_rfl
theorem zxZ:f81 N (zbb L) ⟨strC [99,108,97,105,109],nms,ns⟩=(f90 N L).bind λ x1=>(ix nms 0).bind λ x2=>(f112 N x1 x2).bind λ _=>(f114 N x1 ⟨strC [99,108,97,105,109],nms,ns⟩).bind (zbf (zbb L)):=by kernel_rfl
theorem zx0:f81 N (zbb L) ⟨strC [100,101,108,105,118,101,114],nms,ns⟩=(f90 N L).bind λ x1=>(ix nms 0).bind λ x2=>(f112 N x1 x2).bind λ _=>(f114 N x1 ⟨strC [100,101,108,105,118,101,114],nms,ns⟩).bind (zbf (zbb L)):=by kernel_rfl
theorem zx1:f81 N (zbb L) ⟨strC [101,100,105,116,105,111,110],nms,ns⟩=(f90 N L).bind λ x1=>(ix nms 0).bind λ x2=>(f112 N x1 x2).bind λ x3=>bif decide ((0:Int)<=x3) then zbf (zbb L) 6 else (bif decide ((List.length x1.editions:Int)=(5:Int)) then zbf (zbb L) 2 else zbf (zbb L) 0):=by kernel_rfl
theorem zx2:f81 N (zbb L) ⟨strC [112,97,112,101,114],nms,ns⟩=(f90 N L).bind λ x1=>(ix nms 0).bind λ x2=>(f112 N x1 x2).bind λ x3=>bif decide (x3<(0:Int)) then zbf (zbb L) 5 else ((ix x1.editions x3).bind λ x10=>bif decide ((0:Int)<x10.ground) then zbf (zbb L) 21 else ((ix x1.editions x3).bind λ x11=>(ix ns (0:Int)).bind λ x12=>bif decide ((5000:Int)<(W (x11.paper+x12))) then zbf (zbb L) 16 else zbf (zbb L) 0)):=by kernel_rfl
theorem zx3:f81 N (zbb L) ⟨strC [99,108,111,115,101],nms,ns⟩=(f90 N L).bind λ x1=>(ix nms 0).bind λ x2=>(f112 N x1 x2).bind λ x3=>bif decide (x3<(0:Int)) then zbf (zbb L) 5 else ((ix x1.editions x3).bind λ x13=>bif x13.closed then zbf (zbb L) 21 else ((ix x1.editions x3).bind λ x14=>bif decide ((List.length x14.places:Int)=(1:Int)) then zbf (zbb L) 1 else zbf (zbb L) 0)):=by kernel_rfl
theorem zvo:f113 N R ⟨strC [115,116,111,110,101],nms,ns⟩=(ix nms 0).bind λ x1=>(f91 N R x1).bind λ x2=>bif decide ((0:Int)<=x2) then some 6 else (bif decide ((List.length R.stones:Int)=(8:Int)) then some 2 else some 0):=by kernel_rfl
theorem zvp:f113 N R ⟨strC [100,114,97,119],nms,ns⟩=(ix nms 0).bind λ x1=>(f91 N R x1).bind λ x2=>bif decide (x2<(0:Int)) then some 5 else ((ix R.stones x2).bind λ x3=>(ix nms 1).bind λ x4=>(f112 N R x4).bind λ x5=>bif decide (x5<(0:Int)) then some 5 else (bif decide (¬ x3.on=zaG) then some 20 else ((ix R.editions x5).bind λ x6=>bif x6.closed then some 21 else some 0))):=by kernel_rfl
theorem zvq:f113 N R ⟨strC [112,114,105,110,116],nms,ns⟩=(ix nms 0).bind λ x1=>(f91 N R x1).bind λ x2=>bif decide (x2<(0:Int)) then some 5 else ((ix R.stones x2).bind λ x3=>bif decide (x3.on=zaG) then some 1 else ((ix ns 0).bind λ x15=>(ix ns 1).bind λ x16=>bif decide ((W (x15+x16))=(0:Int)) then some 1 else
  ((f112 N R x3.on).bind λ x7=>(ix R.editions x7).bind λ x8=>(ix ns 0).bind λ x9=>(ix ns 1).bind λ x10=>(ix x8.places x3.place).bind λ x11=>bif decide (x11<(W (x9+x10))) then some 16 else some 0))):=by kernel_rfl
theorem zvr:f113 N R ⟨strC [103,114,105,110,100],nms,ns⟩=(ix nms 0).bind λ x1=>(f91 N R x1).bind λ x2=>bif decide (x2<(0:Int)) then some 5 else ((ix R.stones x2).bind λ x3=>bif decide (x3.on=zaG) then some 1 else
  ((f112 N R x3.on).bind λ x7=>(ix R.editions x7).bind λ x8=>bif !x8.closed then some 22 else ((f94 N x8 (max x8.ground (W (x3.place+(1:Int))))).bind λ x12=>(f94 N x8 x8.ground).bind λ x13 =>
   bif decide (x12<x13) then ((f126 N R x8.name).bind λ x14=>bif decide (x12<x14) then some 12 else (bif decide (x3.thick=(1:Int)) then some 13 else some 0)) else (bif decide (x3.thick=(1:Int)) then some 13 else some 0)))):=by kernel_rfl
theorem zvs:f114 N R ⟨strC [99,108,97,105,109],nms,ns⟩=(ix nms 1).bind λ x1=>(f112 N R x1).bind λ x2=>(ix nms 0).bind λ x3=>(ix nms 1).bind λ x4=>(f95 N R x3 x4).bind λ x5=>bif decide (x2<(0:Int)) then some 5 else ((ix R.editions x2).bind λ x6=>(ix nms 0).bind λ x7=>(f139 N R x7).bind λ x8 =>
  bif !x8.2 then (bif decide (x8.1=(6:Int)) then some 2 else zcA R ⟨strC [99,108,97,105,109],nms,ns⟩ N x6) else zcA R ⟨strC [99,108,97,105,109],nms,ns⟩ N x6):=by kernel_rfl
theorem zvt:f114 N R ⟨strC [100,101,108,105,118,101,114],nms,ns⟩=(ix nms 1).bind λ x1=>(f112 N R x1).bind λ x2=>(ix nms 0).bind λ x3=>(ix nms 1).bind λ x4=>(f95 N R x3 x4).bind λ x5=>bif decide (x2<(0:Int)) then some 5 else (bif decide (x5<(0:Int)) then some 5 else ((ix R.editions x2).bind λ x6 =>
  bif !x6.closed then some 22 else ((ix ns 0).bind λ x12=>(ix R.claims x5).bind λ x13=>(ix R.claims x5).bind λ x14=>bif decide ((W (x13.claimed-x14.got))<x12) then some 14 else ((ix ns 0).bind λ x15=>(ix x6.places (W ((List.length x6.places:Int)-(1:Int)))).bind λ x16=>bif decide (x16<x15) then some 16 else some 0)))):=by kernel_rfl
end
end Go.Vc
namespace Go.Vc
open Go.Proofs
theorem ix0 {α:Type}{x:α}{l:List α}:ix (x::l) (0:Int)=some x:=rfl
theorem ix1' {α:Type}{x y:α}{l:List α}:ix (x::y::l) (1:Int)=some y:=rfl
theorem zcD:ixO none = -1:=rfl
theorem zbh {j:Nat}:ixO (some j)=(j:Int):=rfl
theorem ge0 {j:Nat}:decide ((0:Int)<=(j:Int))=true:=decide_eq_true (by omega)
theorem ge0':decide ((0:Int)<=(-1:Int))=false:=rfl
theorem lt0 {j:Nat}:decide ((j:Int)<(0:Int))=false:=decide_eq_false (by omega)
theorem lt0':decide ((-1:Int)<(0:Int))=true:=rfl
section
variable {b:Bk} {R:StateS} {N:Nat}
theorem zvu (hr:RelB b R)(hb:BkOK b)(h90:f90 N b.L=some R)(hN:200<=N)(x:NewStone):f81 N (zbb b.L) (ordR (.c199 x))=some (finM b.L (zap b.S b.E b.C (.c199 x))):=by
 have hl:=hb.sh.sl;rw[show ordR (.c199 x)=⟨_,_,_⟩ from rfl,zxV,h90,zyl,ix0,zyl,zbw hr.ed hb.sh.el (by omega),zyl,zvo,ix0,zyl,zeS hr.st hl (by omega),zyl];simp only[zap]
 cases h:zan x.name b.S with
 | some i=>rw[zbh,ge0,cond_true,zyl,if_pos (show (some i).isSome=true from rfl)];exact za6 _
 | none =>
  rw[zcD,ge0',cond_false,if_neg (by simp)];by_cases h8:b.S.length=8
  .rw [decide_eq_true (by have:=hr.st.len;omega),cond_true,zyl,if_pos h8];exact za6 _
  .rw [decide_eq_false (by have:=hr.st.len;omega),cond_false,zyl,if_neg h8];exact za6 _
theorem zrA (hr:RelB b R)(hb:BkOK b)(h90:f90 N b.L=some R)(hN:200<=N)(x:NewEdition):f81 N (zbb b.L) (ordR (.c201 x))=some (finM b.L (zap b.S b.E b.C (.c201 x))):=by
 have hl:=hb.sh.el
 have hlen:R.editions.length=b.E.length:=by rw[hr.ed,List.length_map]
 rw[show ordR (.c201 x)=⟨_,_,_⟩ from rfl,zx1,h90,zyl,ix0,zyl,zbw hr.ed hl (by omega),zyl];simp only[zap]
 cases h:zan x.name b.E with
 | some i=>rw[zbh,ge0,cond_true,if_pos (show (some i).isSome=true from rfl)];exact za6 _
 | none =>
  rw[zcD,ge0',cond_false,if_neg (by simp)];by_cases h8:b.E.length=5
  .rw [decide_eq_true (by omega),cond_true,if_pos h8];exact za6 _
  .rw [decide_eq_false (by omega),cond_false,if_neg h8];exact za6 _
theorem zvv (hr:RelB b R)(hb:BkOK b)(h90:f90 N b.L=some R)(hN:200<=N)(x:Paper)(ho:zbv (.c205 x)):f81 N (zbb b.L) (ordR (.c205 x))=some (finM b.L (zap b.S b.E b.C (.c205 x))):=by
 have hl:=hb.sh.el;rw[show ordR (.c205 x)=⟨_,_,_⟩ from rfl,zx2,h90,zyl,ix0,zyl,zbw hr.ed hl (by omega),zyl];simp only[zap]
 cases h:zan x.edition b.E with
 | none=>rw[zcD,lt0',cond_true,zcC h];exact za6 _
 | some j =>
  obtain⟨q,_,_,e1,_,e2,e3,_⟩:=hr.edit hb h;rw[zbh,lt0,cond_false,za2,e2,zyl,zyl,ix0,zyl,e1];show (bif decide ((0:Int)<q.2.from_) then _ else bif decide ((5000:Int)<W (q.2.paper+x.n)) then _ else _)=_;have:=e3.pp;have:=e3.sm;have:=zbM e3.nn;have:=e3.dl;have:=e3.sp;simp only[zbv] at ho;rw[W_of (by omega) (by omega)];simp only[zaE,decide_eq_true_eq]
  split
  .exact za6 _
  .split <;> exact za6 _
theorem zvw (hr:RelB b R)(hb:BkOK b)(h90:f90 N b.L=some R)(hN:200<=N)(x:Closing):f81 N (zbb b.L) (ordR (.c209 x))=some (finM b.L (zap b.S b.E b.C (.c209 x))):=by
 have hl:=hb.sh.el;rw[show ordR (.c209 x)=⟨_,_,_⟩ from rfl,zx3,h90,zyl,ix0,zyl,zbw hr.ed hl (by omega),zyl];simp only[zap]
 cases h:zan x.edition b.E with
 | none=>rw[zcD,lt0',cond_true,zcC h];exact za6 _
 | some j =>
  obtain⟨q,_,_,e1,_,e2,e3,_⟩:=hr.edit hb h;rw[zbh,lt0,cond_false,za2,e2,zyl,zyl,e1];show (bif q.2.closed then _ else bif decide ((q.2.places.length:Int)=1) then _ else _)=_
  cases hc:q.2.closed with
  | true=>rw[cond_true];simp only[hc,if_true];exact za6 _
  | false =>
   rw[cond_false];simp only[hc];by_cases h1:q.2.places.length=1
   .rw [decide_eq_true (by omega),cond_true];simp only[h1,if_true];exact za6 _
   .rw [decide_eq_false (by omega),cond_false];simp only[h1,if_false];exact za6 _
theorem zx4 (hr:RelB b R)(hb:BkOK b)(h90:f90 N b.L=some R)(hN:200<=N)(x:Drawing):f81 N (zbb b.L) (ordR (.c203 x))=some (finM b.L (zap b.S b.E b.C (.c203 x))):=by
 have hl:=hb.sh.el;have hf:=λ k=>zbw (N:=N) hr.ed hl (by omega) k;rw[show ordR (.c203 x)=⟨_,_,_⟩ from rfl,zxW,h90,zyl,ix0,zyl,hf,zyl,zvp,ix0,zyl,zeS hr.st hb.sh.sl (by omega),zyl];simp only[zap]
 cases h:zan x.stone b.S with
 | none=>rw[zcD,lt0',cond_true,zeT h,zyl];exact za6 _
 | some i =>
  obtain⟨a,s,s1,_,s2,_,_,s3,s4⟩:=hr.stone hb h;rw[zbh,lt0,cond_false,za2,s2,zyl,ix1',zyl,hf,zyl,s1]
  cases h2:zan x.edition b.E with
  | none=>rw[zcD,lt0',cond_true,zcC h2,zyl];exact za6 _
  | some j =>
   obtain⟨q,_,_,e1,_,e2,e3,_⟩:=hr.edit hb h2;rw[zbh,lt0,cond_false,za2,e2,zyl,e1];dsimp only
   cases ha:a.of with
   | none =>
    rw[s3 ha,ze8,cond_false];simp only[Option.isSome_none,edR]
    cases q.2.closed <;> exact za6 _
   | some j' =>
    obtain⟨_,_,_,t3,_,_⟩:=s4 j' ha;rw[decide_eq_true t3,cond_true,zyl];exact za6 _
theorem zvx (hr:RelB b R)(hb:BkOK b)(h90:f90 N b.L=some R)(hN:200<=N)(x:Printing)(ho:zbv (.c207 x)):f81 N (zbb b.L) (ordR (.c207 x))=some (finM b.L (zap b.S b.E b.C (.c207 x))):=by
 have hl:=hb.sh.el;have hf:=λ k=>zbw (N:=N) hr.ed hl (by omega) k;rw[show ordR (.c207 x)=⟨_,_,_⟩ from rfl,zxX,h90,zyl,ix0,zyl,hf,zyl,zvq,ix0,zyl,zeS hr.st hb.sh.sl (by omega),zyl];simp only[zap];simp only[zbv] at ho
 cases h:zan x.stone b.S with
 | none=>rw[zcD,lt0',cond_true,zeT h,zyl];exact za6 _
 | some i =>
  obtain⟨a,s,s1,s0,s2,_,_,s3,s4⟩:=hr.stone hb h;rw[zbh,lt0,cond_false,za2,s2,zyl,s1,ix0,ix1',zyl,zyl,W_of (n:=x.good+x.spoilt) (by omega) (by omega)];dsimp only
  cases ha:a.of with
  | none=>rw[s3 ha,decide_eq_true rfl,cond_true,zyl];exact za6 _
  | some j =>
   obtain⟨q,t1,_,t3,t4,t5⟩:=s4 j ha;obtain⟨e,u1,u2,u3⟩:=(hb.sh.gS s0).getE ha
   have hq:e=q.2:=by obtain⟨q',v1,v2⟩:=zcB u1;rw[t1] at v1;cases v1;exact v2.symm
   subst hq
   have hE:R.editions[j]? = some (edR q):=by rw[hr.ed,List.getElem?_map,t1];rfl
   rw[decide_eq_false t3,cond_false,hf,t5,zyl,zbh,za2,hE,zyl,zyl,zyl,t4];obtain⟨p1,p2,p3⟩:=(hb.sh.gE u1).at_ u2 (by omega);rw[show ix (edR q).places a.place=_ from p1,zyl];dsimp only;by_cases h0:x.good+x.spoilt=0
   .rw [decide_eq_true h0,cond_true,zyl,if_pos h0];exact za6 _
   .rw [decide_eq_false h0,cond_false,if_neg h0,u1]
    dsimp only;rw[W_of (n:=x.good+x.spoilt) (by omega) (by omega)];by_cases h5:q.2.at_ a.place<x.good+x.spoilt
    .rw [decide_eq_true h5,cond_true,zyl,if_pos h5];exact za6 _
    .rw [decide_eq_false h5,cond_false,zyl,if_neg h5];exact za6 _
theorem zvy (hr:RelB b R)(hb:BkOK b)(h90:f90 N b.L=some R)(hN:200<=N)(x:Grinding):f81 N (zbb b.L) (ordR (.c215 x))=some (finM b.L (zap b.S b.E b.C (.c215 x))):=by
 have hl:=hb.sh.el;have hL:=hb.ll;have hf:=λ k=>zbw (N:=N) hr.ed hl (by omega) k;rw[show ordR (.c215 x)=⟨_,_,_⟩ from rfl,zxY,h90,zyl,ix0,zyl,hf,zyl,zvr,ix0,zyl,zeS hr.st hb.sh.sl (by omega),zyl];simp only[zap]
 cases h:zan x.stone b.S with
 | none=>rw[zcD,lt0',cond_true,zeT h,zyl];exact za6 _
 | some i =>
  obtain⟨a,s,s1,s0,s2,_,s5,s3,s4⟩:=hr.stone hb h;rw[zbh,lt0,cond_false,za2,s2,zyl,s1];dsimp only
  cases ha:a.of with
  | none=>rw[s3 ha,decide_eq_true rfl,cond_true,zyl];exact za6 _
  | some j =>
   obtain⟨q,t1,_,t3,t4,t5⟩:=s4 j ha;obtain⟨e,u1,u2,u3⟩:=(hb.sh.gS s0).getE ha
   have hq:e=q.2:=by obtain⟨q',v1,v2⟩:=zcB u1;rw[t1] at v1;cases v1;exact v2.symm
   subst hq
   have hE:R.editions[j]? = some (edR q):=by rw[hr.ed,List.getElem?_map,t1];rfl
   have ek:=hb.sh.gE u1;have f0:=ek.f0;have fl:=ek.fl;have le:=ek.le;have hgr:(edR q).ground=q.2.from_:=rfl;rw[decide_eq_false t3,cond_false,hf,t5,zyl,zbh,za2,hE,zyl,t4,hgr,W_of (n:=a.place+1) (by omega) (by omega)];rw[zl2 ek (k:=max q.2.from_ (a.place+1)) (by omega) (by omega) (by omega) (by omega),zl2 ek f0 (by omega) (by omega) (by omega),zyl,zyl,show (edR q).name=q.1 from rfl,hr.cl.open_ (N:=N) (zyp t1) ek (by omega) (by omega),zyl,s5];dsimp only;rw[u1];dsimp only;show ((bif !q.2.closed then _ else _:Option Int).bind _)=_
   cases hc:q.2.closed with
   | false=>rw[Bool.not_false,cond_true,if_pos rfl,zyl];exact za6 _
   | true =>
    rw[Bool.not_true,cond_false,if_neg (by simp)];simp only[zaE,decide_eq_true_eq];by_cases h1:q.2.rest (max q.2.from_ (a.place+1))<q.2.rest q.2.from_
    .rw [if_pos h1]
     by_cases h2:q.2.rest (max q.2.from_ (a.place+1))<q.2.open_
     .rw [if_pos h2,if_pos ⟨h1,h2⟩,zyl];exact za6 _
     .rw [if_neg h2,if_neg (show ¬ (q.2.rest (max q.2.from_ (a.place+1))<q.2.rest q.2.from_/\q.2.rest (max q.2.from_ (a.place+1))<q.2.open_) from λ h=>h2 h.2)]
      split <;> exact za6 _
    .rw [if_neg h1,if_neg (show ¬ (q.2.rest (max q.2.from_ (a.place+1))<q.2.rest q.2.from_/\q.2.rest (max q.2.from_ (a.place+1))<q.2.open_) from λ h=>h1 h.1)]
     split <;> exact za6 _
theorem zvz (hr:RelB b R)(hb:BkOK b)(h90:f90 N b.L=some R)(hN:200<=N)(x:Claiming)(ho:zbv (.c211 x)):f81 N (zbb b.L) (ordR (.c211 x))=some (finM b.L (zap b.S b.E b.C (.c211 x))):=by
 have hl:=hb.sh.el;have hL:=hb.ll;have hcl:=hb.sh.cl;have hf:=λ k=>zbw (N:=N) hr.ed hl (by omega) k;obtain⟨v,hv,_⟩:=zf5 (R:=R) (N:=N) (by have:=hr.cl.ln;omega) (by have:=hr.cl.ln;omega) x.customer x.edition;rw[show ordR (.c211 x)=⟨_,_,_⟩ from rfl,zxZ,h90,zyl,ix0,zyl,hf,zyl,zvs,ix1',zyl,hf,zyl,ix0,zyl,zyl,hv,zyl];simp only[zap];simp only[zbv] at ho
 cases h:zan x.edition b.E with
 | none=>rw[zcD,lt0',cond_true,zcC h,zyl];exact za6 _
 | some j =>
  obtain⟨q,_,_,e1,_,e2,ek,e4⟩:=hr.edit hb h;have f0:=ek.f0;have fl:=ek.fl;have le:=ek.le;have o0:=ek.open0;have o1:=ek.ob
  have hc10:zcA R ⟨strC [99,108,97,105,109],[x.customer,x.edition],[x.n]⟩ N (edR q)=some (if q.2.rest q.2.from_<q.2.open_+x.n then 16 else 0):=by
   unfold zcA;rw[show (edR q).name=q.1 from rfl,hr.cl.open_ (N:=N) e4 ek (by omega) (by omega),zyl,ix0,zyl,show (edR q).ground=q.2.from_ from rfl,zl2 ek f0 (by omega) (by omega) (by omega),zyl,W_of (by omega) (by omega)];simp only[zaE,decide_eq_true_eq]
   split <;> rfl
  rw[zbh,lt0,cond_false,za2,e2,zyl,zyl,hr.cl.cust (N:=N) (by omega) (by omega),zyl,hc10,e1];dsimp only
  cases hk:(za1 false x.customer b.C).1 with
  | true=>rw[Bool.not_true,cond_false,zyl,if_neg (show ¬ (true=false/\b.C.length=6) by simp)];exact za6 _
  | false =>
   rw[Bool.not_false,cond_true];by_cases h6:b.C.length=6
   .rw [decide_eq_true (by omega),cond_true,zyl,if_pos (show false=false/\b.C.length=6 from ⟨rfl,h6⟩)];exact za6 _
   .rw [decide_eq_false (by omega),cond_false,zyl,if_neg (show ¬ (false=false/\b.C.length=6) from λ h=>h6 h.2)];exact za6 _
theorem zrB (hr:RelB b R)(hb:BkOK b)(h90:f90 N b.L=some R)(hN:200<=N)(x:Delivery):f81 N (zbb b.L) (ordR (.c213 x))=some (finM b.L (zap b.S b.E b.C (.c213 x))):=by
 have hl:=hb.sh.el;have hL:=hb.ll;have hf:=λ k=>zbw (N:=N) hr.ed hl (by omega) k;obtain⟨v,hv,hv2⟩:=zf5 (R:=R) (N:=N) (by have:=hr.cl.ln;omega) (by have:=hr.cl.ln;omega) x.claiming.customer x.claiming.edition;rw[show ordR (.c213 x)=⟨_,_,_⟩ from rfl,zx0,h90,zyl,ix0,zyl,hf,zyl,zvt,ix1',zyl,hf,zyl,ix0,zyl,zyl,hv,zyl];simp only[zap]
 cases h:zan x.claiming.edition b.E with
 | none=>rw[zcD,lt0',cond_true,zcC h,zyl];exact za6 _
 | some j =>
  obtain⟨q,_,e0,e1,_,e2,ek,e4⟩:=hr.edit hb h;rw[zbh,lt0,cond_false,e1];have how:=hr.cl.ow q e4;rw[e0] at how;dsimp only
  rcases hv2 with ⟨rfl,v2,_⟩|⟨i,c,rfl,v1,_,_,v2,_⟩
  .rw [lt0',cond_true,zyl,how,v2,if_pos rfl];exact za6 _
  .obtain ⟨p1,p2,p3⟩:=ek.last_ (by omega)
   have hbd:=hr.cl.bd c (zyp v1);rw[lt0,cond_false,za2,e2,zyl,ix0,zyl,za2,v1,zyl,zyl,zyl,show (edR q).places=q.2.places from rfl,p1,zyl,W_of (n:=c.claimed-c.got) (by omega) (by omega),how,v2,if_neg (by simp)];show ((bif !q.2.closed then _ else _:Option Int).bind _)=_
   cases hc:q.2.closed with
   | false=>rw[Bool.not_false,cond_true,if_pos rfl,zyl];exact za6 _
   | true =>
    rw[Bool.not_true,cond_false,if_neg (by simp)];simp only[zaE,decide_eq_true_eq]
    split
    .exact za6 _
    .split <;> exact za6 _
theorem zx5 (hr:RelB b R)(hb:BkOK b)(h90:f90 N b.L=some R)(hN:200<=N){o:I97}(ho:zbv o):f81 N (zbb b.L) (ordR o)=some (finM b.L (zap b.S b.E b.C o)):=by
 cases o with
 | nil=>exact ho.elim
 | c199 x=>grind [zvu]
 | c201 x=>grind [zrA]
 | c203 x=>grind [zx4]
 | c205 x=>grind [zvv]
 | c207 x=>grind [zvx]
 | c209 x=>grind [zvw]
 | c211 x=>grind [zvz]
 | c213 x=>grind [zrB]
 | c215 x=>grind [zvy]
theorem zx6 (hr:RelB b R)(hb:BkOK b)(h90:f90 N b.L=some R)(hN:200<=N){M:Nat}(hM:60<=M){y:ByteArray}{r:I97×Int}(h79:f79 M y=some r):f52 N (zbb b.L) y=some (errM b r):=by
 obtain⟨r',s,e1,e2,e3,e4⟩:=zne (N:=M) (N':=N) (y:=y) hM (by omega);rw[h79] at e1
 cases e1
 unfold f52 f55;rw[zyl,show (!(zbb b.L).made)=false from rfl,cond_false,e2,zyl,e3];unfold errM;by_cases h0:r.2=0
 .obtain ⟨f1,f2,_⟩:=e4 h0
  rw[decide_eq_true h0,cond_true,f2,zx5 hr hb h90 hN f1,if_pos h0];rfl
 grind
end
end Go.Vc
namespace Go.Vc
open Go.Proofs
section
variable {N:Nat} {i4:Int} {b101_0:List Stone} {b101_1:List Edition} {b101_2:List ClaimS} {r3:Int->(List Stone)->(List Edition)->(List ClaimS)->Option (StateS)} {nms:TL} {ns:List Int} {ee:Int} {x3:ByteArray} {x4 v7:Int}
theorem zx7:zaY N i4 b101_0 b101_1 b101_2 r3 (⟨strC [115,116,111,110,101],nms,ns⟩,ee) x3 x4 v7=(ix ns (0:Int)).bind λ x6=>(app 48 b101_0 [(Stone.mk x3 x6 zaG (0:Int))]).bind λ x7=>r3 (W (i4+(1:Int))) x7 b101_1 b101_2:=by kernel_rfl
theorem zx8:zaY N i4 b101_0 b101_1 b101_2 r3 (⟨strC [101,100,105,116,105,111,110],nms,ns⟩,ee) x3 x4 v7=(app 80 b101_1 [(Edition.mk x3 false [(0:Int)] (0:Int) (0:Int) (0:Int) (0:Int))]).bind λ x8=>r3 (W (i4+(1:Int))) b101_0 x8 b101_2:=by kernel_rfl
theorem zx9:zaY N i4 b101_0 b101_1 b101_2 r3 (⟨strC [100,114,97,119],nms,ns⟩,ee) x3 x4 v7=(ix nms (1:Int)).bind λ x9=>(ix b101_1 v7).bind λ x10=>(ix b101_0 x4).bind λ x11=>(setx b101_0 x4 (Stone.mk x11.name x11.thick x9 x11.place)).bind λ x12=>(ix x12 x4).bind λ x13=>(setx x12 x4 (Stone.mk x13.name x13.thick x13.on (W ((List.length x10.places:Int)-(1:Int))))).bind λ x14=>(setx b101_1 v7 x10).bind λ x15=>(ix x15 v7).bind λ x16=>(ix x15 v7).bind λ x17=>(zie x17.places x16.places).bind λ x18=>(app 8 x16.places [(0:Int)]).bind λ x19=>(ix x15 v7).bind λ x20=>(setx x15 v7 (Edition.mk x20.name x20.closed x19 x20.ground x20.paper x20.delivered x20.spoilt)).bind λ x21=>r3 (W (i4+(1:Int))) x14 x21 b101_2:=by kernel_rfl
theorem zy:zaY N i4 b101_0 b101_1 b101_2 r3 (⟨strC [112,97,112,101,114],nms,ns⟩,ee) x3 x4 v7=(ix b101_1 v7).bind λ x22=>(ix ns (0:Int)).bind λ x23=>(ix b101_1 v7).bind λ x24=>(setx b101_1 v7 (Edition.mk x24.name x24.closed x24.places x24.ground (W (x22.paper+x23)) x24.delivered x24.spoilt)).bind λ x25=>(ix x25 v7).bind λ x26=>(ix x26.places (0:Int)).bind λ x27=>(ix ns (0:Int)).bind λ x28=>(ix x26.places (0:Int)).bind λ x29=>(setx x26.places (0:Int) (W (x27+x28))).bind λ x30=>(setx x25 v7 (Edition.mk x26.name x26.closed x30 x26.ground x26.paper x26.delivered x26.spoilt)).bind λ x31=>r3 (W (i4+(1:Int))) b101_0 x31 b101_2:=by kernel_rfl
theorem zya:zaY N i4 b101_0 b101_1 b101_2 r3 (⟨strC [112,114,105,110,116],nms,ns⟩,ee) x3 x4 v7=(ix b101_0 x4).bind λ x32=>(f112 N (StateS.mk b101_0 b101_1 b101_2) x32.on).bind λ x33=>(ix b101_0 x4).bind λ x34=>(ix b101_1 x33).bind λ x35=>(ix x35.places x34.place).bind λ x36=>(ix ns (0:Int)).bind λ x37=>(ix ns (1:Int)).bind λ x38=>(ix x35.places x34.place).bind λ x39=>(setx x35.places x34.place (W (x36-(W (x37+x38))))).bind λ x40=>(setx b101_1 x33 (Edition.mk x35.name x35.closed x40 x35.ground x35.paper x35.delivered x35.spoilt)).bind λ x41=>(ix x41 x33).bind λ x42=>(ix x42.places (W (x34.place+(1:Int)))).bind λ x43=>(ix ns (0:Int)).bind λ x44=>(ix x42.places (W (x34.place+(1:Int)))).bind λ x45=>(setx x42.places (W (x34.place+(1:Int))) (W (x43+x44))).bind λ x46=>(setx x41 x33 (Edition.mk x42.name x42.closed x46 x42.ground x42.paper x42.delivered x42.spoilt)).bind λ x47=>(ix x47 x33).bind λ x48=>(ix ns (1:Int)).bind λ x49=>(ix x47 x33).bind λ x50=>(setx x47 x33 (Edition.mk x50.name x50.closed x50.places x50.ground x50.paper x50.delivered (W (x48.spoilt+x49)))).bind λ x51=>r3 (W (i4+(1:Int))) b101_0 x51 b101_2:=by kernel_rfl
theorem zyb:zaY N i4 b101_0 b101_1 b101_2 r3 (⟨strC [99,108,111,115,101],nms,ns⟩,ee) x3 x4 v7=(ix b101_1 v7).bind λ x52=>(setx b101_1 v7 (Edition.mk x52.name true x52.places x52.ground x52.paper x52.delivered x52.spoilt)).bind λ x53=>r3 (W (i4+(1:Int))) b101_0 x53 b101_2:=by kernel_rfl
theorem zua:zaY N i4 b101_0 b101_1 b101_2 r3 (⟨strC [99,108,97,105,109],nms,ns⟩,ee) x3 x4 v7=(ix nms (1:Int)).bind λ x54=>(f95 N (StateS.mk b101_0 b101_1 b101_2) x3 x54).bind λ x55=>zay (zbJ i4 b101_0 b101_1 r3 (⟨strC [99,108,97,105,109],nms,ns⟩,ee)) λ k1=>bif decide (x55<(0:Int)) then ((ix nms (1:Int)).bind λ x60=>(app 48 b101_2 [(ClaimS.mk x3 x60 (0:Int) (0:Int))]).bind λ x61=>k1 (List.length b101_2:Int) x61) else (k1 x55 b101_2):=by kernel_rfl
theorem zyc:zaY N i4 b101_0 b101_1 b101_2 r3 (⟨strC [100,101,108,105,118,101,114],nms,ns⟩,ee) x3 x4 v7=(ix nms (1:Int)).bind λ x62=>(f95 N (StateS.mk b101_0 b101_1 b101_2) x3 x62).bind λ x63=>(ix b101_2 x63).bind λ x64=>(ix ns (0:Int)).bind λ x65=>(ix b101_2 x63).bind λ x66=>(setx b101_2 x63 (ClaimS.mk x66.customer x66.edition x66.claimed (W (x64.got+x65)))).bind λ x67=>(ix b101_1 v7).bind λ x68=>(ix ns (0:Int)).bind λ x69=>(ix b101_1 v7).bind λ x70=>(setx b101_1 v7 (Edition.mk x70.name x70.closed x70.places x70.ground x70.paper (W (x68.delivered+x69)) x70.spoilt)).bind λ x71=>(ix x71 v7).bind λ x72=>(ix x71 v7).bind λ x73=>(zie x73.places x72.places).bind λ x74=>(ix x71 v7).bind λ x75=>(zie x75.places x72.places).bind λ x76=>(ix x72.places (W ((List.length x72.places:Int)-(1:Int)))).bind λ x77=>(ix ns (0:Int)).bind λ x78=>(ix x72.places (W ((List.length x72.places:Int)-(1:Int)))).bind λ x79=>(setx x72.places (W ((List.length x72.places:Int)-(1:Int))) (W (x77-x78))).bind λ x80=>(setx x71 v7 (Edition.mk x75.name x75.closed x80 x75.ground x75.paper x75.delivered x75.spoilt)).bind λ x81=>r3 (W (i4+(1:Int))) b101_0 x81 x67:=by kernel_rfl
theorem zyd:zaY N i4 b101_0 b101_1 b101_2 r3 (⟨strC [103,114,105,110,100],nms,ns⟩,ee) x3 x4 v7=(ix b101_0 x4).bind λ x82=>(f112 N (StateS.mk b101_0 b101_1 b101_2) x82.on).bind λ x83=>(ix b101_1 x83).bind λ x84=>(ix b101_0 x4).bind λ x85=>(ix b101_1 x83).bind λ x86=>(setx b101_1 x83 (Edition.mk x86.name x86.closed x86.places (max x84.ground (W (x85.place+(1:Int)))) x86.paper x86.delivered x86.spoilt)).bind λ x87=>(ix b101_0 x4).bind λ x88=>(ix b101_0 x4).bind λ x89=>(setx b101_0 x4 (Stone.mk x89.name (W (x88.thick-(1:Int))) x89.on x89.place)).bind λ x90=>(ix x90 x4).bind λ x91=>(setx x90 x4 (Stone.mk x91.name x91.thick zaG x91.place)).bind λ x92=>r3 (W (i4+(1:Int))) x92 x87 b101_2:=by kernel_rfl
end
section
variable {α:Type} {l:List α} {j:Nat} {d d':α}
theorem zcR (h:j<l.length):setx l (j:Int) d=some (l.set j d):=by
 simp_all [if_pos,Int.toNat_natCast,setx]
theorem zeU (h:j<l.length):setx (l.set j d) (j:Int) d'=some (l.set j d'):=by
 grind [zcR,List.set_set]
theorem ziX (h:j<l.length):ix (l.set j d) (j:Int)=some d:=by rw[za2];simp[h]
theorem ziY:zie l l=some l:=by simp[zie]
end
theorem zrC {E:TE}{j:Nat}{q:ByteArray×EditionM}(hq:E[j]? = some q)(f:EditionM->EditionM):(modF E j f).map edR=(E.map edR).set j (edR (q.1,f q.2)):=by
 obtain⟨hj,rfl⟩:=zym.1 hq;apply List.ext_getElem?
 grind [zdo]
theorem zc9 {E:TE}{j:Nat}{f:EditionM->EditionM}{i:Nat}{q:ByteArray×EditionM}(h:E[i]? = some q):∃ q',(modF E j f)[i]? = some q'/\q'.1=q.1:=by
 grind [zdo]
section
variable {E E':TE} {S:TS} {C:TC} {st:List Stone} {cl:List ClaimS} {n:Nat}
theorem RelS.mono (h:RelS E S st)(hE:∀ (j:Nat) q,E[j]? = some q->∃ q',E'[j]? = some q'/\q'.1=q.1):RelS E' S st :=
 ⟨h.len,λ i p s hp hs=>by
  obtain⟨h1,h2,h3,h4⟩:=h.at_ i p s hp hs;refine⟨h1,h2,h3,λ j hj=>?_⟩
  grind⟩
theorem RelS.set (h:RelS E S st){i:Nat}{p:ByteArray×StoneM}(hp:S[i]? = some p)(f:StoneM->StoneM){s:Stone}(hs:StR E (p.1,f p.2) s):RelS E (modF S i f) (st.set i s):=by
 refine⟨by rw[List.length_set,zkc];exact h.len,λ j p' s' hp' hs' => ?_⟩;rw[zdo] at hp';rw[List.getElem?_set] at hs';by_cases hj:i=j
 .grind
 .rw [if_neg hj] at hp' hs';exact h.at_ j p' s' hp' hs'
theorem RelS.app (h:RelS E S st){p:ByteArray×StoneM}{s:Stone}(hs:StR E p s):RelS E (S++[p]) (st++[s]):=by
 refine⟨by simp[h.len],λ j p' s' hp' hs' => ?_⟩;have hl:=h.len;by_cases hj:j<S.length
 .rw [List.getElem?_append_left hj] at hp'
  rw[List.getElem?_append_left (by omega)] at hs';exact h.at_ j p' s' hp' hs'
 grind
theorem RelC.up (h:RelC E C cl n):RelC E C cl (n+1):=⟨by have:=h.ln;omega,h.ow,h.cs,λ c hc=>by have:=h.bd c hc;omega,h.ed⟩
theorem RelC.modE (h:RelC E C cl n){j:Nat}{f:EditionM->EditionM}(hf:∀ e,(f e).owed=e.owed):RelC (modF E j f) C cl n:=by
 refine⟨h.ln,λ q hq=>?_,h.cs,h.bd,λ c hc=>?_⟩
 .rcases zgO hq with hq|⟨p,hp,rfl⟩
  .exact h.ow q hq
  .show (f p.2).owed=_;rw[hf];exact h.ow p (zyp hp)
 .obtain ⟨q,q1,q2⟩:=h.ed c hc
  obtain⟨i,hi⟩:=List.getElem?_of_mem q1;obtain⟨q',q3,q4⟩:=zc9 (j:=j) (f:=f) hi
  grind
theorem zob (h:∀ q,q∈E->q.1≠zaG){j:Nat}{f:EditionM->EditionM}:∀ q,q∈modF E j f->q.1≠zaG:=λ q hq=>by
 grind [zgO,zyp]
theorem zl5 {κ σ:Type}[DecidableEq κ]{z v:σ}{k:κ}:∀ {l:List (κ×σ)},za1 z k l=(v,true)->setK k v l=l
 | [],h=>by simp[za1] at h
 | p::r,h=>by
  simp only[za1] at h;simp only[setK];by_cases hp:p.1=k
  .grind
  .rw [if_neg hp] at h
   rw[if_neg hp,zl5 h]
theorem zoc {κ σ:Type}[DecidableEq κ]{z v:σ}{k:κ}:∀ {l:List (κ×σ)},(za1 z k l).2=false->setK k v l=l++[(k,v)]
 | [],h=>rfl
 | p::r,h=>by
  simp only[za1] at h;simp only[setK];by_cases hp:p.1=k
  .grind
  .rw [if_neg hp] at h
   rw[if_neg hp,zoc (v:=v) h];rfl
theorem zod {cu k:ByteArray}{c':ClaimS}(h1:c'.customer=cu)(h2:c'.edition=k):∀ {cl:List ClaimS} {i:Nat} {c:ClaimS},cl[i]? = some c->c.customer=cu->c.edition=k->(∀ j d,j<i->cl[j]? = some d->¬ (d.customer=cu/\d.edition=k)) ->
  za0 (cl.set i c') k=setK cu (c'.claimed-c'.got) (za0 cl k)
 | [],i,c,h3,_,_,_=>by simp at h3
 | d::r,0,c,h3,h4,h5,_=>by
  simp_all [List.set_cons_zero,if_pos,za0,setK]
 | d::r,i+1,c,h3,h4,h5,h6=>by
  have ih:=zod (k:=k) h1 h2 (cl:=r) (i:=i) (by simpa using h3) h4 h5 λ j d hj hd=>h6 (j+1) d (by omega) (by simpa using hd);have h0:=h6 0 d (by omega) rfl;rw[List.set_cons_succ];by_cases he:d.edition=k
  .simp_all [if_neg,za0,setK]
  grind [za0]
theorem zrD {k:ByteArray}{c':ClaimS}(h2:c'.edition≠k):∀ {cl:List ClaimS} {i:Nat} {c:ClaimS},cl[i]? = some c->c.edition≠k->za0 (cl.set i c') k=za0 cl k
 | [],i,c,h3,_=>by simp at h3
 | d::r,0,c,h3,h4=>by
  grind [za0]
 | d::r,i+1,c,h3,h4=>by
  have ih:=zrD (k:=k) h2 (cl:=r) (i:=i) (by simpa using h3) h4;rw[List.set_cons_succ];by_cases he:d.edition=k
  .grind [za0]
  grind [za0]
theorem zrE:∀ {a b:List ClaimS},a.map (·.customer)=b.map (·.customer)->zcJ a=zcJ b:=by
 intro a b h
 have:∀ l:List ClaimS,zcJ l=(l.map (·.customer)).foldl (λ acc c=>setK c true acc) []:=λ l=>by unfold zcJ;rw[List.foldl_map]
 grind
theorem zrF {cl:List ClaimS}{i:Nat}{c c':ClaimS}(h:cl[i]? = some c)(hc:c'.customer=c.customer):zcJ (cl.set i c')=zcJ cl:=by
 refine zrE ?_;obtain⟨hi,rfl⟩:=zym.1 h;apply List.ext_getElem?
 grind
theorem RelC.set (h:RelC E C cl n)(hk:(E.map (·.1)).Nodup){j i:Nat}{q:ByteArray×EditionM}{c c':ClaimS}{f:EditionM->EditionM}(hq:E[j]? = some q)(hc:cl[i]? = some c)(e1:c.edition=q.1)(e2:c'.edition=q.1)(e3:c'.customer=c.customer)
  (hf:(f q.2).owed=setK c.customer (c'.claimed-c'.got) q.2.owed) (hfirst:∀ j d,j<i->cl[j]? = some d->¬ (d.customer=c.customer/\d.edition=q.1)) (hb:0<=c'.got/\c'.got<=c'.claimed/\c'.claimed<=5000*n):RelC (modF E j f) C (cl.set i c') n:=by
 refine⟨by rw[List.length_set];exact h.ln,λ p hp=>?_,by rw[zrF hc e3];exact h.cs,λ d hd=>?_,λ d hd=>?_⟩
 .obtain ⟨m,hm⟩:=List.getElem?_of_mem hp
  rw[zdo] at hm
  split at hm
  .rename_i h0
   subst h0;rw[hq] at hm
   have hm:(q.1,f q.2)=p:=by grind
   subst hm;show (f q.2).owed=za0 _ q.1;rw[zod (cu:=c.customer) (k:=q.1) e3 e2 hc rfl e1 hfirst,<- h.ow q (zyp hq)];exact hf
  .rename_i h0
   have hne:q.1≠p.1:=λ he=>by
    have h1:=zf4 hk hm;rw[<- he,zf4 hk hq] at h1
    grind
   rw[zrD (by grind) hc (by grind)];exact h.ow p (zyp hm)
 .rcases List.mem_or_eq_of_mem_set hd with hd|rfl
  .exact h.bd d hd
  .exact hb
 .have key:∀ d:ClaimS,(∃ q0,q0∈E/\q0.1=d.edition)->∃ q0,q0∈modF E j f/\q0.1=d.edition:=λ d ⟨q0,q1,q2⟩=>by
   obtain⟨i',hi'⟩:=List.getElem?_of_mem q1;obtain⟨q',q3,q4⟩:=zc9 (j:=j) (f:=f) hi'
   grind
  rcases List.mem_or_eq_of_mem_set hd with hd|rfl
  .exact key d (h.ed d hd)
  .exact key _ ⟨q,zyp hq,e2.symm⟩
theorem RelC.app (h:RelC E C cl n)(hk:(E.map (·.1)).Nodup){j:Nat}{q:ByteArray×EditionM}{c:ClaimS}{f:EditionM->EditionM}(hq:E[j]? = some q)(e1:c.edition=q.1)
  (hf:(f q.2).owed=setK c.customer (c.claimed-c.got) q.2.owed) (hno:(za1 0 c.customer (za0 cl q.1)).2=false) (hb:0<=c.got/\c.got<=c.claimed/\c.claimed<=5000*(n+1)):RelC (modF E j f) (setK c.customer true C) (cl++[c]) (n+1):=by
 refine⟨by have:=h.ln;simp;omega,λ p hp=>?_,by rw[zf3,<- h.cs],λ d hd=>?_,λ d hd=>?_⟩
 .obtain ⟨m,hm⟩:=List.getElem?_of_mem hp
  rw[zdo] at hm
  split at hm
  .rename_i h0
   subst h0;rw[hq] at hm
   have hm:(q.1,f q.2)=p:=by grind
   subst hm;show (f q.2).owed=za0 _ q.1;rw[zo,hf,h.ow q (zyp hq),zoc hno]
   grind [za0]
  .rename_i h0
   have hne:c.edition≠p.1:=λ he=>by
    have h1:=zf4 hk hm;rw[<- he,e1,zf4 hk hq] at h1
    grind
   rw[zo,h.ow p (zyp hm)];simp[za0,hne]
 .rcases List.mem_append.1 hd with hd|hd
  .have:=h.bd d hd;omega
  grind
 .have key:∀ d:ClaimS,(∃ q0,q0∈E/\q0.1=d.edition)->∃ q0,q0∈modF E j f/\q0.1=d.edition:=λ d ⟨q0,q1,q2⟩=>by
   obtain⟨i',hi'⟩:=List.getElem?_of_mem q1;obtain⟨q',q3,q4⟩:=zc9 (j:=j) (f:=f) hi'
   grind
  rcases List.mem_append.1 hd with hd|hd
  .exact key d (h.ed d hd)
  .simp at hd;subst hd;exact key _ ⟨q,zyp hq,e1.symm⟩
theorem RelC.newE (h:RelC E C cl n){k:ByteArray}{e:EditionM}(hk:zan k E=none)(he:e.owed=[]):RelC (E++[(k,e)]) C cl n:=by
 refine⟨h.ln,λ q hq=>?_,h.cs,h.bd,λ c hc=>?_⟩
 .rcases List.mem_append.1 hq with hq|hq
  .exact h.ow q hq
  .simp at hq;subst hq
   show e.owed=za0 cl k;rw[he];unfold za0
   rw[List.filter_eq_nil_iff.2 λ c hc=>?_];· rfl
   obtain⟨q,q1,q2⟩:=h.ed c hc
   grind [zdH]
 .obtain ⟨q,q1,q2⟩:=h.ed c hc
  grind
end
end Go.Vc
namespace Go.Vc
open Go.Proofs
def zcr (b:Bk)(y:ByteArray)(o:I97):Bk:=⟨b.L++[y],(doM b.S b.E b.C o).1,(doM b.S b.E b.C o).2.1,(doM b.S b.E b.C o).2.2⟩
def Stp (b:Bk)(R:StateS)(N:Nat)(o:I97)(y x3:ByteArray)(x4 v7:Int):Prop:=∃ R',RelB (zcr b y o) R'/\∀ i r3,zaY N i R.stones R.editions R.claims r3 (ordR o,0) x3 x4 v7=r3 (W (i+(1:Int))) R'.stones R'.editions R'.claims
section
variable {b:Bk} {R:StateS} {N:Nat} {y:ByteArray} {v4 v7:Int}
theorem ll1 {E:TE}{C:TC}{cl:List ClaimS}{L:TL}(h:RelC E C cl (L.length+1)):RelC E C cl (L++[y]).length:=by simpa using h
theorem zvA (hr:RelB b R)(hb:BkOK b)(x:NewStone):Stp b R N (.c199 x) y x.name v4 v7:=by
 have hl:=hr.st.len;have:=hb.sh.sl;refine⟨⟨R.stones++[⟨x.name,x.thick,zaG,0⟩],R.editions,R.claims⟩,⟨hr.ed,hr.st.app ⟨rfl,rfl,λ _=>rfl,λ j h=>by cases h⟩,ll1 hr.cl.up,hr.nm⟩,λ i r3=>?_⟩;rw[show ordR (.c199 x)=⟨_,_,_⟩ from rfl,zx7,ix0,zyl,zc6 (by simp;omega) (by simp;omega),zyl]
theorem zrG (hr:RelB b R)(hb:BkOK b)(x:NewEdition)(hn:x.name≠zaG)(hw:zap b.S b.E b.C (.c201 x)=0):Stp b R N (.c201 x) y x.name v4 v7:=by
 have hl:R.editions.length=b.E.length:=by rw[hr.ed,List.length_map]
 have:=hb.sh.el
 have hk:zan x.name b.E=none:=by
  cases h:zan x.name b.E with
  | none=>rfl
  | some j=>grind [zap]
 refine⟨⟨R.stones,R.editions++[⟨x.name,false,[0],0,0,0,0⟩],R.claims⟩,⟨by rw[hr.ed];simp[zcr,doM,edR],hr.st.mono λ j q hq=>⟨q, ?_,rfl⟩,ll1 (hr.cl.up.newE hk rfl),λ q hq=>?_⟩,λ i r3=>?_⟩
 .show (b.E++[_])[j]? = _
  grind
 .rcases List.mem_append.1 hq with hq|hq
  .exact hr.nm q hq
  grind
 .rw [show ordR (.c201 x)=⟨_,_,_⟩ from rfl,zx8,zc6 (by simp;omega) (by simp;omega),zyl]
structure EdJ (b:Bk)(R:StateS)(j:Nat)(q:ByteArray×EditionM):Prop where
 hq:b.E[j]? = some q
 hj:j<R.editions.length
 hE:ix R.editions (j:Int)=some ⟨q.1,q.2.closed,q.2.places,q.2.from_,q.2.paper,q.2.delivered,q.2.spoilt⟩
 ok:EdOK b.L.length q.2
 hg:getF b.E j=some q.2
theorem RelB.edJ (hr:RelB b R)(hb:BkOK b){j:Nat}{q:ByteArray×EditionM}(hq:b.E[j]? = some q):EdJ b R j q:=by
 have hg:getF b.E j=some q.2:=zaV.2 ⟨q.1,hq⟩;exact⟨hq,by rw[hr.ed,List.length_map];grind,by rw[za2,hr.ed,List.getElem?_map,hq];rfl,hb.sh.gE hg,hg⟩
theorem RelB.edits (hr:RelB b R){j:Nat}{q:ByteArray×EditionM}(hq:b.E[j]? = some q)(f:EditionM->EditionM):R.editions.set j (edR (q.1,f q.2))=(modF b.E j f).map edR:=by rw[zrC hq,hr.ed]
theorem zh2 (hr:RelB b R){j:Nat}{q:ByteArray×EditionM}(hq:b.E[j]? = some q)(f:EditionM->EditionM)(hf:∀ e,(f e).owed=e.owed){S':TS}{st':List Stone}(hst:RelS (modF b.E j f) S' st'){d:Edition}(hd:d=edR (q.1,f q.2)) :
  RelB ⟨b.L++[y],S',modF b.E j f,b.C⟩ ⟨st',R.editions.set j d,R.claims⟩:=by
 subst hd;exact⟨hr.edits hq f,hst,ll1 (hr.cl.up.modE hf),zob hr.nm⟩
theorem zvB (hr:RelB b R)(hb:BkOK b)(x:Paper)(ho:zbv (.c205 x))(hw:zap b.S b.E b.C (.c205 x)=0):Stp b R N (.c205 x) y x.edition v4 (ixO (zan x.edition b.E)):=by
 cases h:zan x.edition b.E with
 | none=>grind [zcC,zap]
 | some j =>
  obtain⟨q,hq,_,e1,_⟩:=hr.edit hb h;obtain⟨_,hj,hE,ek,hg⟩:=hr.edJ hb hq;simp only[zbv] at ho;have h1:=ek.pp;have h2:=ek.sm;have h3:=zbM ek.nn;have h4:=ek.dl;have h5:=ek.sp;have hne:=ek.ne;obtain⟨p1,p2,p3⟩:=ek.at_ (k:=0) (by omega) (by omega)
  have hl0:0<q.2.places.length:=by omega
  have hdo:zcr b y (.c205 x)=⟨b.L++[y],b.S,modF b.E j λ e=>{ e with paper:=e.paper+x.n,places:=e.places.set 0 (e.at_ 0+x.n) },b.C⟩:=by simp only[zcr,doM,h]
  refine⟨⟨R.stones,R.editions.set j ⟨q.1,q.2.closed,q.2.places.set 0 (q.2.at_ 0+x.n),q.2.from_,q.2.paper+x.n,q.2.delivered,q.2.spoilt⟩,R.claims⟩, ?_,λ i r3=>?_⟩
  .rw [hdo]
   refine zh2 hr hq _ ?_ (hr.st.mono λ j q hq=>zc9 hq) ?_ <;> intros <;> rfl
  .have w1:W (q.2.paper+x.n)=q.2.paper+x.n:=W_of (by omega) (by omega)
   have w2:W (q.2.at_ 0+x.n)=q.2.at_ 0+x.n:=W_of (by omega) (by omega);have s0:∀ v,setx q.2.places (0:Int) v=some (q.2.places.set 0 v):=λ v=>zcR (j:=0) hl0;rw[show ordR (.c205 x)=⟨_,_,_⟩ from rfl,zy,zbh];simp only[hE,zyl,ix0,zcR hj,ziX hj,zeU hj,p1,s0,w1,w2]
theorem zvC (hr:RelB b R)(hb:BkOK b)(x:Closing)(hw:zap b.S b.E b.C (.c209 x)=0):Stp b R N (.c209 x) y x.edition v4 (ixO (zan x.edition b.E)):=by
 cases h:zan x.edition b.E with
 | none=>grind [zcC,zap]
 | some j =>
  obtain⟨q,hq,_,e1,_⟩:=hr.edit hb h;obtain⟨_,hj,hE,ek,hg⟩:=hr.edJ hb hq
  have hdo:zcr b y (.c209 x)=⟨b.L++[y],b.S,modF b.E j λ e=>{ e with closed:=true },b.C⟩:=by simp only[zcr,doM,h]
  refine⟨⟨R.stones,R.editions.set j ⟨q.1,true,q.2.places,q.2.from_,q.2.paper,q.2.delivered,q.2.spoilt⟩,R.claims⟩, ?_,λ i r3=>?_⟩
  .rw [hdo]
   refine zh2 hr hq _ ?_ (hr.st.mono λ j q hq=>zc9 hq) ?_ <;> intros <;> rfl
  .rw [show ordR (.c209 x)=⟨_,_,_⟩ from rfl,zyb,zbh]
   simp only[hE,zyl,zcR hj]
theorem zye (hr:RelB b R)(hb:BkOK b)(x:Drawing)(hw:zap b.S b.E b.C (.c203 x)=0):Stp b R N (.c203 x) y x.stone (ixO (zan x.stone b.S)) (ixO (zan x.edition b.E)):=by
 cases hs:zan x.stone b.S with
 | none=>grind [zeT,zap]
 | some i0 =>
 cases h:zan x.edition b.E with
 | none=>grind [zcC,zap]
 | some j =>
  obtain⟨a,s,t1,t2,t3,t4,t5,t6,t7⟩:=hr.stone hb hs;obtain⟨q,hq,hqk,e1,_⟩:=hr.edit hb h;obtain⟨_,hj,hE,ek,hg⟩:=hr.edJ hb hq;have hL:=hb.ll;have hle:=ek.le;have hne:=ek.ne;have hi0:=(zym.1 t3).1
  have hs3:ix R.stones (i0:Int)=some s:=by rw[za2,t3]
  obtain⟨p,hp,hpa⟩:=zcB t2
  have hpk:p.1=x.stone:=by grind [zbr]
  have hdo:zcr b y (.c203 x)=⟨b.L++[y],modF b.S i0 λ a=>{ a with of:=some j,place:=(q.2.places.length:Int)-1 },modF b.E j λ e=>{ e with places:=e.places++[0] },b.C⟩:=by grind [zcr,doM]
  refine⟨⟨R.stones.set i0 ⟨s.name,s.thick,x.edition,(q.2.places.length:Int)-1⟩,R.editions.set j ⟨q.1,q.2.closed,q.2.places++[0],q.2.from_,q.2.paper,q.2.delivered,q.2.spoilt⟩,R.claims⟩, ?_,λ i r3=>?_⟩
  .rw [hdo]
   refine zh2 hr hq _ ?_ (RelS.set (hr.st.mono λ j q hq=>zc9 hq) hp _ ⟨?_, ?_, ?_,λ j' hj' => ?_⟩) ?_
   .intro e;rfl
   .grind
   .grind
   .grind
   rotate_left
   .rfl
   have hj':some j=some j':=hj'
   cases hj'
   obtain⟨q',q1,q2⟩:=zc9 (j:=j) (f:=λ e=>{ e with places:=e.places++[0] }) hq
   grind
  .have w1:W ((q.2.places.length:Int)-1)=(q.2.places.length:Int)-1:=W_of (by omega) (by omega)
   have ha:app 8 q.2.places [(0:Int)]=some (q.2.places++[0]):=zc6 (by simp;omega) (by simp;omega);rw[show ordR (.c203 x)=⟨_,_,_⟩ from rfl,zx9,zbh,zbh];simp only[hE,hs3,zyl,ix1',zcR hi0,ziX hi0,zeU hi0,zcR hj,ziX hj,zeU hj,ziY,w1,ha]
theorem zvD (hr:RelB b R)(hb:BkOK b)(hN:200<=N)(x:Printing)(ho:zbv (.c207 x))(hw:zap b.S b.E b.C (.c207 x)=0):Stp b R N (.c207 x) y x.stone (ixO (zan x.stone b.S)) v7:=by
 cases hs:zan x.stone b.S with
 | none=>grind [zeT,zap]
 | some i0 =>
  obtain⟨a,s,t1,t2,t3,t4,t5,t6,t7⟩:=hr.stone hb hs;simp only[zap,t1] at hw
  cases ha:a.of with
  | none=>grind
  | some j =>
   obtain⟨q,hq,u1,u2,u3,u4⟩:=t7 j ha;obtain⟨e,v1,v2,v3⟩:=(hb.sh.gS t2).getE ha;obtain⟨_,hj,hE,ek,hg⟩:=hr.edJ hb hq;rw[hg] at v1;cases v1;rw[ha] at hw;simp only[hg] at hw;have hL:=hb.ll;have hle:=ek.le;simp only[zbv] at ho;have h1:=ek.pp;have h2:=ek.sm;have h3:=zbM ek.nn;have h4:=ek.dl;have h5:=ek.sp
   have hs3:ix R.stones (i0:Int)=some s:=by rw[za2,t3]
   obtain⟨p,hp⟩:∃ p:Nat,a.place=(p:Int):=⟨a.place.toNat,by omega⟩;rw[hp] at v2 v3
   have hpl:p+1<q.2.places.length:=by omega
   obtain⟨p1,p2,p3⟩:=ek.at_ (k:=(p:Int)) (by omega) (by omega);obtain⟨q1,q2,q3⟩:=ek.at_ (k:=((p+1:Nat):Int)) (by omega) (by omega)
   have hf:f112 N R s.on=some (j:Int):=by rw[zbw hr.ed hb.sh.el (by omega),u4];rfl
   have hdo:zcr b y (.c207 x)=⟨b.L++[y],b.S,modF b.E j λ e=>{ e with places:=(e.places.set a.place.toNat (e.at_ a.place-(x.good+x.spoilt))).set (a.place.toNat+1) (e.at_ (a.place+1)+x.good),spoilt:=e.spoilt+x.spoilt },b.C⟩:=by grind [zcr,doM]
   refine⟨⟨R.stones,R.editions.set j ⟨q.1,q.2.closed,(q.2.places.set p (q.2.at_ p-(x.good+x.spoilt))).set (p+1) (q.2.at_ ((p+1:Nat):Int)+x.good),q.2.from_,q.2.paper,q.2.delivered,q.2.spoilt+x.spoilt⟩,R.claims⟩, ?_,λ i r3=>?_⟩
   .rw [hdo]
    refine zh2 hr hq _ ?_ (hr.st.mono λ j q hq=>zc9 hq) ?_
    .intro e;rfl
    .rw [hp];rfl
   .have w1:W (x.good+x.spoilt)=x.good+x.spoilt:=W_of (by omega) (by omega)
    have w2:W (q.2.at_ p-(x.good+x.spoilt))=q.2.at_ p-(x.good+x.spoilt):=W_of (by omega) (by omega);have w3:W ((p:Int)+1)=((p+1:Nat):Int):=zcO (by omega);have w4:W (q.2.at_ ((p+1:Nat):Int)+x.good)=q.2.at_ ((p+1:Nat):Int)+x.good:=W_of (by omega) (by omega);have w5:W (q.2.spoilt+x.spoilt)=q.2.spoilt+x.spoilt:=W_of (by omega) (by omega)
    have g1:∀ v,ix (q.2.places.set p v) ((p+1:Nat):Int)=some (q.2.at_ ((p+1:Nat):Int)):=λ v=>by
     rw[za2,List.getElem?_set_ne (by omega),<- za2,q1]
    have g2:∀ v v',setx (q.2.places.set p v) ((p+1:Nat):Int) v'=some ((q.2.places.set p v).set (p+1) v'):=λ v v' => zcR (by simpa using hpl);have g3:∀ v,setx q.2.places (p:Int) v=some (q.2.places.set p v):=λ v=>zcR (by omega)
    have hsp:s.place=(p:Int):=by rw[u3,hp]
    rw[show ordR (.c207 x)=⟨_,_,_⟩ from rfl,zya,zbh];simp only[hE,hs3,hf,hsp,zyl,ix0,ix1',zcR hj,ziX hj,zeU hj,p1,g1,g2,g3,w1,w2,w3,w4,w5]
theorem zvE (hr:RelB b R)(hb:BkOK b)(hN:200<=N)(x:Grinding)(hw:zap b.S b.E b.C (.c215 x)=0):Stp b R N (.c215 x) y x.stone (ixO (zan x.stone b.S)) v7:=by
 cases hs:zan x.stone b.S with
 | none=>grind [zeT,zap]
 | some i0 =>
  obtain⟨a,s,t1,t2,t3,t4,t5,t6,t7⟩:=hr.stone hb hs;simp only[zap,t1] at hw
  cases ha:a.of with
  | none=>grind
  | some j =>
   obtain⟨q,hq,u1,u2,u3,u4⟩:=t7 j ha;obtain⟨e,v1,v2,v3⟩:=(hb.sh.gS t2).getE ha;obtain⟨_,hj,hE,ek,hg⟩:=hr.edJ hb hq;rw[hg] at v1;cases v1;have hL:=hb.ll;have hle:=ek.le;have f0:=ek.f0;have fl:=ek.fl;have st:=hb.sh.gS t2;have st1:=st.t1;have st9:=st.t9;have hi0:=(zym.1 t3).1
   have hs3:ix R.stones (i0:Int)=some s:=by rw[za2,t3]
   have hf:f112 N R s.on=some (j:Int):=by rw[zbw hr.ed hb.sh.el (by omega),u4];rfl
   obtain⟨p,hp,hpa⟩:=zcB t2
   have hpk:p.1=x.stone:=by grind [zbr]
   have hdo:zcr b y (.c215 x)=⟨b.L++[y],modF b.S i0 λ a=>⟨a.thick-1,none,0⟩,modF b.E j λ e=>{ e with from_:=max e.from_ (a.place+1) },b.C⟩:=by grind [zcr,doM]
   refine⟨⟨R.stones.set i0 ⟨s.name,s.thick-1,zaG,s.place⟩,R.editions.set j ⟨q.1,q.2.closed,q.2.places,max q.2.from_ (a.place+1),q.2.paper,q.2.delivered,q.2.spoilt⟩,R.claims⟩, ?_,λ i r3=>?_⟩
   .rw [hdo]
    refine zh2 hr hq _ ?_ (RelS.set (hr.st.mono λ j q hq=>zc9 hq) hp _ ⟨?_, ?_, ?_, ?_⟩) ?_
    .intro e;rfl
    .grind
    .grind
    .intro _;rfl
    .grind
    .rfl
   .have w1:W (a.place+1)=a.place+1:=W_of (by omega) (by omega)
    have w2:W (a.thick-1)=a.thick-1:=W_of (by omega) (by omega);rw[show ordR (.c215 x)=⟨_,_,_⟩ from rfl,zyd,zbh];simp only[hE,hs3,hf,u3,t5,zyl,zcR hi0,ziX hi0,zeU hi0,zcR hj,w1,w2]
end
end Go.Vc
namespace Go.Vc
open Go.Proofs
theorem zts {α:Type}{l:List α}{j:Nat}{d:α}(h:l[j]? = some d):l.set j d=l:=by
 grind [zym,List.set_getElem_self]
section
variable {b:Bk} {R:StateS} {N:Nat} {y:ByteArray} {v4 v7:Int}
theorem zvF (hr:RelB b R)(hb:BkOK b)(hN:200<=N)(x:Claiming)(ho:zbv (.c211 x))(hw:zap b.S b.E b.C (.c211 x)=0):Stp b R N (.c211 x) y x.customer v4 (ixO (zan x.edition b.E)):=by
 cases h:zan x.edition b.E with
 | none=>grind [zcC,zap]
 | some j =>
  obtain⟨q,hq,hqk,e1,_⟩:=hr.edit hb h;obtain⟨_,hj,hE,ek,hg⟩:=hr.edJ hb hq;have hL:=hb.ll;simp only[zbv] at ho;obtain⟨v,hv,hv2⟩:=zf5 (R:=R) (N:=N) (by have:=hr.cl.ln;omega) (by have:=hr.cl.ln;omega) x.customer x.edition;have how:=hr.cl.ow q (zyp hq);rw[hqk] at how
  let f:EditionM->EditionM:=λ e=>{ e with owed:=setK x.customer ((za1 0 x.customer e.owed).1+x.n) e.owed,open_:=e.open_+x.n }
  have hdo:zcr b y (.c211 x)=⟨b.L++[y],b.S,modF b.E j f,setK x.customer true b.C⟩:=by grind [zcr,doM]
  have hEd:R.editions=(modF b.E j f).map edR:=by
   rw[zrC hq,hr.ed];exact(zts (by rw[List.getElem?_map,hq];rfl)).symm
  have hst:RelS (modF b.E j f) b.S R.stones:=hr.st.mono λ j q hq=>zc9 hq
  rcases hv2 with ⟨rfl,l1,l2⟩|⟨i,c,rfl,c1,c2,c3,l1,l2⟩
  .refine ⟨⟨R.stones,R.editions,R.claims++[⟨x.customer,x.edition,x.n,0⟩]⟩, ?_,λ i r3=>?_⟩
   .rw [hdo]
    refine⟨hEd,hst,ll1 (hr.cl.app (c:=⟨x.customer,x.edition,x.n,0⟩) hb.sh.ek hq hqk.symm ?_ ?_ ⟨by simp,by grind,by grind⟩),zob hr.nm⟩
    .grind
    .rw [hqk,l1]
   .have w1:W ((0:Int)+x.n)=x.n:=by grind [W_of]
    have i1:∀ c:ClaimS,ix (R.claims++[c]) (R.claims.length:Int)=some c:=λ c=>by rw[za2];simp
    have i2:∀ c c':ClaimS,setx (R.claims++[c]) (R.claims.length:Int) c'=some (R.claims++[c']):=λ c c' => by grind [zcR]
    have ha:∀ c:ClaimS,app 48 R.claims [c]=some (R.claims++[c]):=λ c=>zc6 (by have:=hr.cl.ln;simp;omega) (by have:=hr.cl.ln;simp;omega);rw[show ordR (.c211 x)=⟨_,_,_⟩ from rfl,zua,ix1',zyl,show f95 N ⟨R.stones,R.editions,R.claims⟩ x.customer x.edition=_ from hv,zyl,zay,lt0',cond_true,zyl,ha,zyl,zbJ]
    grind [ix0]
  .have hbd:=hr.cl.bd c (zyp c1)
   have hi:=(zym.1 c1).1
   have hsame:setK x.customer true b.C=b.C:=by
    rw[hr.cl.cs]
    rcases ziW x.customer R.claims with ⟨_,h3⟩|⟨h3,_⟩
    .exact zl5 h3
    .grind
   refine⟨⟨R.stones,R.editions,R.claims.set i ⟨c.customer,c.edition,c.claimed+x.n,c.got⟩⟩, ?_,λ i' r3=>?_⟩
   .rw [hdo]
    refine⟨hEd,hst,ll1 ?_,zob hr.nm⟩;rw[hsame];refine hr.cl.up.set hb.sh.ek hq c1 (by rw[c3,hqk]) (by grind) rfl ?_ (by grind) ⟨by grind,by grind,by grind⟩
    grind
   .have w1:W (c.claimed+x.n)=c.claimed+x.n:=W_of (by omega) (by omega)
    have i1:ix R.claims (i:Int)=some c:=by rw[za2,c1]
    rw[show ordR (.c211 x)=⟨_,_,_⟩ from rfl,zua,ix1',zyl,show f95 N ⟨R.stones,R.editions,R.claims⟩ x.customer x.edition=_ from hv,zyl,zay,lt0,cond_false,zbJ]
    grind [zcR,ix0]
theorem zrH (hr:RelB b R)(hb:BkOK b)(hN:200<=N)(x:Delivery)(ho:zbv (.c213 x))(hw:zap b.S b.E b.C (.c213 x)=0):Stp b R N (.c213 x) y x.claiming.customer v4 (ixO (zan x.claiming.edition b.E)):=by
 cases h:zan x.claiming.edition b.E with
 | none=>grind [zcC,zap]
 | some j =>
  obtain⟨q,hq,hqk,e1,_⟩:=hr.edit hb h;obtain⟨_,hj,hE,ek,hg⟩:=hr.edJ hb hq;have hL:=hb.ll;have hle:=ek.le;have hne:=ek.ne;simp only[zbv] at ho;obtain⟨v,hv,hv2⟩:=zf5 (R:=R) (N:=N) (by have:=hr.cl.ln;omega) (by have:=hr.cl.ln;omega) x.claiming.customer x.claiming.edition;have how:=hr.cl.ow q (zyp hq);rw[hqk] at how;simp only[zap,e1] at hw;rw[how] at hw
  rcases hv2 with ⟨rfl,l1,l2⟩|⟨i,c,rfl,c1,c2,c3,l1,l2⟩
  .grind
  .rw [l1] at hw
   dsimp only at hw
   have hn14:x.claiming.n<=c.claimed-c.got:=by omega
   have h1:=ek.pp;have h2:=ek.sm;have h3:=zbM ek.nn;have h4:=ek.dl;have h5:=ek.sp;obtain⟨p1,p2,p3⟩:=ek.last_ (by omega);have hbd:=hr.cl.bd c (zyp c1);have hi:=(zym.1 c1).1
   let f:EditionM->EditionM:=λ e=>{ e with owed:=setK x.claiming.customer ((za1 0 x.claiming.customer e.owed).1-x.claiming.n) e.owed,open_:=e.open_-x.claiming.n,delivered:=e.delivered+x.claiming.n,places:=e.places.set (e.places.length-1) (e.last-x.claiming.n) }
   have hdo:zcr b y (.c213 x)=⟨b.L++[y],b.S,modF b.E j f,b.C⟩:=by grind [zcr,doM]
   refine⟨⟨R.stones,R.editions.set j ⟨q.1,q.2.closed,q.2.places.set (q.2.places.length-1) (q.2.last-x.claiming.n),q.2.from_,q.2.paper,q.2.delivered+x.claiming.n,q.2.spoilt⟩,R.claims.set i ⟨c.customer,c.edition,c.claimed,c.got+x.claiming.n⟩⟩, ?_,λ i' r3=>?_⟩
   .rw [hdo]
    refine⟨hr.edits hq f,hr.st.mono λ j q hq=>zc9 hq,ll1 ?_,zob hr.nm⟩;refine hr.cl.up.set hb.sh.ek hq c1 (by rw[c3,hqk]) (by grind) rfl ?_ (by grind) ⟨by grind,by grind,by grind⟩
    grind
   .have w1:W (c.got+x.claiming.n)=c.got+x.claiming.n:=W_of (by omega) (by omega)
    have w2:W (q.2.delivered+x.claiming.n)=q.2.delivered+x.claiming.n:=W_of (by omega) (by omega);have w3:W (q.2.last-x.claiming.n)=q.2.last-x.claiming.n:=W_of (by omega) (by omega)
    have w4:W ((q.2.places.length:Int)-1)=((q.2.places.length-1:Nat):Int):=by grind [W_of]
    have i1:ix R.claims (i:Int)=some c:=by rw[za2,c1]
    have g3:∀ v,setx q.2.places (((q.2.places.length-1:Nat)):Int) v=some (q.2.places.set (q.2.places.length-1) v):=λ v=>zcR (by omega);rw[w4] at p1;rw[show ordR (.c213 x)=⟨_,_,_⟩ from rfl,zyc,zbh];simp only[ix1',zyl,show f95 N ⟨R.stones,R.editions,R.claims⟩ x.claiming.customer x.claiming.edition=_ from hv,i1,ix0,zcR hi,hE,zcR hj,ziX hj,zeU hj,ziY,w4,p1,g3,w1,w2,w3]
theorem zyf (hr:RelB b R)(hb:BkOK b)(hN:200<=N){o:I97}(h80:f80 N y=some (ordR o,0))(ho:zbv o)(hnm:∀ z,z∈(ordR o).names->zcq z=true)(hw:zap b.S b.E b.C o=0) :
  ∃ R',RelB (zcr b y o) R'/\∀ (L:TL) (i:Nat),L[i]? = some y->i<1000->∀ k0 n,zfY L N k0 (n+1) (i:Int) R.stones R.editions R.claims=zfY L N k0 n ((i+1:Nat):Int) R'.stones R'.editions R'.claims:=by
 have hS:=λ k=>zeS (N:=N) hr.st hb.sh.sl (by omega) k;have hE:=λ k=>zbw (N:=N) hr.ed hb.sh.el (by omega) k
 have key:∀ (nm:ByteArray) (ed:ByteArray),((ordR o).names=[nm]/\ed=nm∨(ordR o).names=[nm,ed])->Stp b R N o y nm (ixO (zan nm b.S)) (ixO (zan ed b.E))->∃ R',RelB (zcr b y o) R'/\∀ (L:TL) (i:Nat),L[i]? = some y->i<1000->∀ k0 n,zfY L N k0 (n+1) (i:Int) R.stones R.editions R.claims=zfY L N k0 n ((i+1:Nat):Int) R'.stones R'.editions R'.claims:=by
  rintro nm ed hnms ⟨R',h1,h2⟩;refine⟨R',h1,λ L i hy hi k0 n=>?_⟩;have hil:=(zym.1 hy).1;have h2':=h2 (i:Int) (zfY L N k0 n);rw[zcO (by omega)] at h2';rw[<- h2'];show ziP (zfY L N k0 n) L N k0 (i:Int) R.stones R.editions R.claims=_;unfold ziP;rw[ltT hil,cond_true,za2,hy,zyl,h80,zyl]
  rcases hnms with ⟨e,rfl⟩|e
  .grind [ix0,zay,f91,f112]
  .simp_all [ix0,ix1',zyl,zay,f91,f112]
 cases o with
 | nil=>exact ho.elim
 | c199 x=>exact key x.name x.name (.inl ⟨rfl,rfl⟩) (zvA hr hb x)
 | c201 x =>
  refine key x.name x.name (.inl ⟨rfl,rfl⟩) (zrG hr hb x ?_ hw);rintro h;have:=hnm x.name (by simp[ordR]);rw[h] at this
  cases this
 | c203 x=>exact key x.stone x.edition (.inr rfl) (zye hr hb x hw)
 | c205 x=>exact key x.edition x.edition (.inl ⟨rfl,rfl⟩) (zvB hr hb x ho hw)
 | c207 x=>exact key x.stone x.stone (.inl ⟨rfl,rfl⟩) (zvD hr hb hN x ho hw)
 | c209 x=>exact key x.edition x.edition (.inl ⟨rfl,rfl⟩) (zvC hr hb x hw)
 | c211 x=>exact key x.customer x.edition (.inr rfl) (zvF hr hb hN x ho hw)
 | c213 x=>exact key x.claiming.customer x.claiming.edition (.inr rfl) (zrH hr hb hN x ho hw)
 | c215 x=>exact key x.stone x.stone (.inl ⟨rfl,rfl⟩) (zvE hr hb hN x hw)
end
inductive Made (M:Nat):Bk->Prop where
 | new:Made M Bk.new
 | step {b:Bk} {y:ByteArray} {r:I97×Int}:Made M b->f79 M y=some r->Made M (goM b y r)
theorem Made.ok {M:Nat}(hM:60<=M){b:Bk}(h:Made M b):BkOK b:=by
 induction h with
 | new=>exact zxK
 | @step b y r h1 h2 ih =>
  obtain⟨r',s,e1,e2,e3,e4⟩:=zne (N:=M) (N':=M) (y:=y) hM hM
  grind [zxL]
theorem Made.after {M N:Nat}(hM:60<=M)(hN:200<=N){b:Bk}(h:Made M b):∃ R,RelB b R/\∀ (t:TL) k0 n,zfY (b.L++t) N k0 (n+b.L.length) (0:Int) [] [] []=zfY (b.L++t) N k0 n (b.L.length:Int) R.stones R.editions R.claims:=by
 induction h with
 | new=>exact⟨⟨[],[],[]⟩,⟨rfl,⟨rfl,λ i p s h=>by grind⟩,⟨by simp,λ q hq=>by simp[Bk.new] at hq,rfl,λ c hc=>by simp at hc,λ c hc=>by simp at hc⟩,λ q hq=>by simp[Bk.new] at hq⟩,λ t k0 n=>rfl⟩
 | @step b y r h1 h2 ih =>
  obtain⟨R,hr,hR⟩:=ih;have hb:=h1.ok hM;unfold goM
  split
  .rename_i he
   unfold errM at he
   split at he
   .rename_i h0
    split at he
    .rename_i hw
     obtain⟨r',s,e1,e2,e3,e4⟩:=zne (N:=M) (N':=N) (y:=y) hM (by omega);rw[h2] at e1;cases e1;obtain⟨f1,f2,f3⟩:=e4 h0;obtain⟨s1,s2⟩:=s;dsimp only at e3 f2 f3;subst f2;rw[e3,h0] at e2;have hl:=hb.ll;obtain⟨R',hr',hst⟩:=zyf (y:=y) hr hb hN e2 f1 f3 hw;refine⟨R',hr',λ t k0 n=>?_⟩;have e5:=hR (y::t) k0 (n+1)
     grind
    omega
   omega
  grind
theorem Made.f90 {M N:Nat}(hM:60<=M)(hN:200<=N){b:Bk}(h:Made M b):∃ R,RelB b R/\Go.Vc.f90 N b.L=some R:=by
 obtain⟨R,hr,hR⟩:=h.after hM hN;have hl:=(h.ok hM).ll;refine⟨R,hr, ?_⟩;have:=hR [] zhQ (N-b.L.length);rw[List.append_nil,show N-b.L.length+b.L.length=N by omega] at this;obtain⟨m,hm⟩:∃ m,N-b.L.length=m+1:=⟨N-b.L.length-1,by omega⟩;rw[hm] at this;show zfY b.L N zhQ N 0 [] [] []=_;rw[this];show ziP _ _ _ _ _ _ _ _=_;unfold ziP;rw[ltF (Nat.le_refl _),cond_false];rfl
theorem Made.would {M N:Nat}(hM:60<=M)(hN:200<=N){b:Bk}(h:Made M b){y:ByteArray}{r:I97×Int}(h79:f79 M y=some r):f52 N (zbb b.L) y=some (errM b r):=by
 obtain⟨R,hr,h90⟩:=h.f90 hM hN;exact zx6 hr (h.ok hM) h90 hN hM h79
end Go.Vc
namespace Go.Vc
open Go.Proofs
abbrev NoC (c:UInt8)(P:List Bs):Prop:=∀ x,x∈P->c ∉ x
theorem NoC.hd {c:UInt8}{x:Bs}{P:List Bs}(h:NoC c (x::P)):c ∉ x:=h x (List.mem_cons_self ..)
end Go.Vc

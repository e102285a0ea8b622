/-
  A library for proofs about Go functions by symbolic evaluation,and plain Lean functions that the walked Go functions compute (written by a program of this claim).
-/
import Derived.Test.YtijmkjnlgcockaaGreatDoorFCLF9
import Derived.Test.YtijmkjnlgcockaaGreatDoorFCLF5
set_option linter.unusedVariables false
set_option linter.unnecessarySimpa false
set_option linter.unusedSimpArgs false
namespace Go.Vc
open Go.Proofs
def pcs:Ln->TL
 | .stone a n=>[strC [115,116,111,110,101],nm0 0 a,num n]
 | .edition e=>[strC [101,100,105,116,105,111,110],nm0 1 e]
 | .draw a e=>[strC [100,114,97,119],nm0 0 a,nm0 1 e]
 | .paper e n=>[strC [112,97,112,101,114],nm0 1 e,num n]
 | .print a n k=>[strC [112,114,105,110,116],nm0 0 a,num n,num k]
 | .close e=>[strC [99,108,111,115,101],nm0 1 e]
 | .claim c e n=>[strC [99,108,97,105,109],nm0 2 c,nm0 1 e,num n]
 | .deliver c e n=>[strC [100,101,108,105,118,101,114],nm0 2 c,nm0 1 e,num n]
 | .grind a=>[strC [103,114,105,110,100],nm0 0 a]
def pcsB (l:Ln):Bool:=match f31 400 (txt nm0 l) with
 | some p=>decide (p=pcs l)
 | none=>false
theorem zvy:zrk.all pcsB=true:=by kernel_rfl
theorem zxp {l:Ln}(h:l.ok):f31 400 (txt nm0 l)=some (pcs l):=by
 have h:=List.all_eq_true.1 zvy l (zhR h);unfold pcsB at h
 split at h
 .rename_i p hp;rw[hp,of_decide_eq_true h]
 .cases h
theorem zrw:((List.range 301).all λ n=>decide (f49 400 (num n)=some (n:Int))&&decide (f30 400 (n:Int)=some (num n)))=true:=by kernel_rfl
theorem zrx {n:Nat}(h:n<=300):f49 400 (num n)=some (n:Int):=by
 have:=List.all_eq_true.1 zrw n (List.mem_range.2 (by omega));rw[Bool.and_eq_true] at this;exact of_decide_eq_true this.1
theorem zty {n:Nat}(h:n<=300):f30 400 (n:Int)=some (num n):=by
 have:=List.all_eq_true.1 zrw n (List.mem_range.2 (by omega));rw[Bool.and_eq_true] at this;exact of_decide_eq_true this.2
def cnt (v:Int):List Int->Int
 | []=>0
 | x::l=>(if x=v then 1 else 0)+cnt v l
def mv (a b:Int):Int->List Int->List Int
 | _,[]=>[]
 | n,x::l=>if x=a/\0<n then b::mv a b (n-1) l else x::mv a b n l
theorem zuo (v:Int):∀ l,0<=cnt v l
 | []=>by simp[cnt]
 | x::l=>by have:=zuo v l;simp only[cnt];split <;> omega
theorem zlO (a b:Int):∀ (l:List Int) (n:Int),(mv a b n l).length=l.length
 | [],n=>rfl
 | x::l,n=>by unfold mv;split <;> simp[zlO]
theorem ziR {a b : Int}(hab : a ≠ b)(v : Int) : ∀ (l : List Int) (n : Int), 0 ≤ n → n ≤ cnt a l → cnt v (mv a b n l) = cnt v l + (if v = b then n else 0) - (if v = a then n else 0)
  | [], n, h0, h1 => by simp [cnt, mv] at *; have : n = 0 := by omega
                        subst this; simp
  | x :: l, n, h0, h1 => by
    simp only [cnt] at h1;unfold mv
    split
    · rename_i hx
      obtain ⟨rfl, hn⟩ := hx;simp only [if_true] at h1;have ih := ziR hab v l (n - 1) (by omega) (by omega);simp only [cnt, ih];by_cases hb : v = b
      · subst hb; simp only [if_true, if_neg hab, if_neg (Ne.symm hab)]; omega
      · by_cases ha : v = x
        · subst ha; simp only [if_true, if_neg hab, if_neg (Ne.symm hab)]; omega
        · rw [if_neg (Ne.symm hb), if_neg hb, if_neg ha, if_neg hb, if_neg ha, if_neg (Ne.symm ha)]; omega
    · rename_i hx
      by_cases hxa : x = a
      · have hn : n = 0 := by
          by_cases h : 0 < n
          · exact absurd ⟨hxa, h⟩ hx
          · omega
        have ih := ziR hab v l n h0 (by have := zuo a l; omega);simp only [cnt, ih]; omega
      · rw [if_neg hxa] at h1
        have ih := ziR hab v l n h0 (by omega);simp only [cnt, ih]; omega
theorem zlP {a b y:Int}:∀ {l:List Int} {n:Int},y∈mv a b n l->y∈l∨y=b
 | [],n,h=>by simp[mv] at h
 | x::l,n,h=>by
  unfold mv at h
  split at h
  .rcases List.mem_cons.1 h with h|h
   .exact .inr h
   .rcases zlP h with h|h
    .exact .inl (List.mem_cons_of_mem _ h)
    .exact .inr h
  .rcases List.mem_cons.1 h with h|h
   .exact .inl (h ▸ List.mem_cons_self ..)
   .rcases zlP h with h|h
    .exact .inl (List.mem_cons_of_mem _ h)
    .exact .inr h
theorem zj5 (v:Int)(l m:List Int):cnt v (l++m)=cnt v l+cnt v m:=by
 induction l with
 | nil=>simp[cnt]
 | cons x l ih=>simp only[List.cons_append,cnt,ih];omega
theorem zj6 (v x:Int)(n:Nat):cnt v (List.replicate n x)=if x=v then n else 0:=by
 induction n with
 | zero=>simp[cnt]
 | succ n ih=>simp only[List.replicate_succ,cnt,ih];split <;> simp <;> omega
theorem zry {v:Int}:∀ {l:List Int},(∀ x,x∈l->x≠v)->cnt v l=0
 | [],_=>rfl
 | x::l,h=>by
  simp only[cnt,if_neg (h x (List.mem_cons_self ..)),zry λ y hy=>h y (List.mem_cons_of_mem _ hy)];rfl
def zfF {ρ:Type}(a t:Int)(m:Nat)(F:Int->Int->List Int->Option ρ)(K:List Int->Option ρ)(n v:Int)(b:List Int):Option ρ :=
 bif decide (v<(m:Int)) then ((ix b v).bind λ x=>bif decide (x=a) then (bif decide ((0:Int)<n) then ((setx b v t).bind λ q=>F (W (n-(1:Int))) (W (v+(1:Int))) q) else F n (W (v+(1:Int))) b) else F n (W (v+(1:Int))) b) else K b
theorem zf4 {ρ:Type}{a t:Int}{m:Nat}{F:Nat->Int->Int->List Int->Option ρ}{K:List Int->Option ρ}(hm:m<=100000)(hF:∀ n k v b,b.length=m->F (n+1) k v b=zfF a t m (F n) K k v b) :
  ∀ (r d:List Int) (n:Nat) (k:Int),d.length+r.length=m->r.length<n->0<=k->k<=1000000->F n k (d.length:Int) (d++r)=K (d++mv a t k r)
 | [],d,n,k,h1,h2,h3,h4=>by
  cases n with
  | zero=>omega
  | succ n =>
   rw[hF n k _ _ (by simpa using h1)];unfold zfF;rw[decide_eq_false (by simp at h1;omega),cond_false];rfl
 | x::r,d,n,k,h1,h2,h3,h4=>by
  cases n with
  | zero=>omega
  | succ n =>
   simp only[List.length_cons] at h1 h2;rw[hF n k _ _ (by simpa using h1)]
   have hix:ix (d++x::r) (d.length:Int)=some x:=by
    unfold ix;rw[if_pos (by omega)];simp
   have hw:W ((d.length:Int)+1)=((d++[x]).length:Int):=by rw[zaO (by omega) (by omega)];simp
   have hw2:∀ y:Int,W ((d.length:Int)+1)=((d++[y]).length:Int):=λ y=>by rw[zaO (by omega) (by omega)];simp
   unfold zfF;rw[decide_eq_true (by omega),cond_true,hix];simp only[Option.bind_some];unfold mv;by_cases hx:x=a
   .rw [decide_eq_true hx,cond_true]
    by_cases hk:0<k
    .rw [decide_eq_true hk,cond_true,if_pos ⟨hx,hk⟩]
     have hs:setx (d++x::r) (d.length:Int) t=some ((d++[t])++r):=by
      unfold setx;rw[if_pos (by simp;omega)];simp
     have hwk:W (k-1)=k-1:=zaO (by omega) (by omega);rw[hs];simp only[Option.bind_some];rw[hwk,hw2 t,zf4 hm hF r (d++[t]) n (k-1) (by simp;omega) (by omega) (by omega) (by omega)];simp
    .rw [decide_eq_false hk,cond_false,if_neg (λ h=>hk h.2),hw,show d++x::r=(d++[x])++r by simp,zf4 hm hF r (d++[x]) n k (by simp;omega) (by omega) h3 h4]
     simp
   .rw [decide_eq_false hx,cond_false,if_neg (λ h=>hx h.1),hw,show d++x::r=(d++[x])++r by simp,zf4 hm hF r (d++[x]) n k (by simp;omega) (by omega) h3 h4]
    simp
theorem zj7 {r:RunM}{v:Int}(hm:r.sheets.length<=100000):∀ (l d:List Int) (n:Nat) (k:Int),d++l=r.sheets->l.length<n->0<=k->k<=d.length->zlx r v zhC n k (d.length:Int)=some (k+cnt v l)
 | [],d,n,k,h1,h2,h3,h4=>by
  cases n with
  | zero=>omega
  | succ n =>
   unfold zlx znT;rw[decide_eq_false (by rw[<- h1];simp),cond_false];simp[zhC,cnt]
 | x::l,d,n,k,h1,h2,h3,h4=>by
  cases n with
  | zero=>omega
  | succ n =>
   simp only[List.length_cons] at h2
   have hl:d.length+(l.length+1)=r.sheets.length:=by rw[<- h1];simp
   have hix:ix r.sheets (d.length:Int)=some x:=by
    unfold ix;rw[if_pos (by omega),<- h1];simp
   have hw:W ((d.length:Int)+1)=((d++[x]).length:Int):=by rw[zaO (by omega) (by omega)];simp
   have hk:W (k+1)=k+1:=zaO (by omega) (by omega);unfold zlx znT;rw[decide_eq_true (by omega),cond_true,hix];simp only[Option.bind_some];by_cases hx:x=v
   .rw [decide_eq_true hx,cond_true,hw,hk,zj7 hm l (d++[x]) n (k+1) (by simpa using h1) (by omega) (by omega) (by simp;omega)]
    simp only[cnt,if_pos hx,Option.some.injEq];omega
   .rw [decide_eq_false hx,cond_false,hw,zj7 hm l (d++[x]) n k (by simpa using h1) (by omega) h3 (by simp;omega)]
    simp only[cnt,if_neg hx,Option.some.injEq];omega
theorem zup {r:RunM}{v:Int}{N:Nat}(hm:r.sheets.length<=100000)(h:r.sheets.length<N):f48 N r v=some (cnt v r.sheets):=by
 have:=zj7 (r:=r) (v:=v) hm r.sheets [] N 0 rfl h (by omega) (by simp);simpa [f48,zaN] using this
end Go.Vc

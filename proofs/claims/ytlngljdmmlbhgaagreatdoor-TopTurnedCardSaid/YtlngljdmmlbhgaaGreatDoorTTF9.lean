/-
  A library for proofs about Go functions by symbolic evaluation,and plain Lean functions that the walked Go functions compute (written by a program of this claim).
-/
import Derived.Test.YtlngljdmmlbhgaaGreatDoorTTF8
set_option linter.unusedVariables false
set_option linter.unnecessarySimpa false
set_option linter.unusedSimpArgs false
namespace Go.Vc
def sh (m t x:Nat):Nat:=if x+t<m then x+t else x+t-m
def oth (M:List Nat)(m t p:Nat):Bool:=M.any λ x=>sh m t x == p
def Oth (M:List Nat)(m t:Nat):List Nat:=(List.range m).filter (oth M m t)
theorem zqm {M:List Nat}{m t p:Nat}:oth M m t p=true ↔ ∃ x,x∈M/\sh m t x=p:=by simp[oth]
theorem zq9 {m t x:Nat}(ht:t<m)(hx:x<m):sh m t x<m:=by unfold sh;split <;> omega
theorem zgw {m t x y:Nat}(ht:t<m)(hx:x<m)(hy:y<m)(h:sh m t x=sh m t y):x=y:=by
 unfold sh at h;split at h <;> split at h <;> omega
theorem zkM {m t x y:Nat}(ht:t<m)(hx:x<m)(hy:y<m):wy m (sh m t x) (sh m t y)=wy m x y:=by
 unfold wy sh
 split <;> split <;> split <;> split <;> omega
theorem zr {m x:Nat}(t:Nat)(hm:0<m)(hx:x<m):(x+t) % m=sh m (t % m) x:=by
 have ht:=Nat.mod_lt t hm;rw[Nat.add_mod,Nat.mod_eq_of_lt hx];unfold sh;generalize t % m=q at *;by_cases h:x+q<m
 .rw [if_pos h,Nat.mod_eq_of_lt h]
 .rw [if_neg h,Nat.mod_eq_sub_mod (by omega),Nat.mod_eq_of_lt (by omega)]
theorem zhF:∀ (A B:List Nat),A.Nodup->(∀ x,x∈A->x∈B)->A.length<=B.length
 | [],B,_,_=>Nat.zero_le _
 | a::A,B,h,hs=>by
  have hb:=hs a (by simp);have h1:=List.nodup_cons.1 h;have:=zhF A (B.erase a) h1.2 λ x hx=>(List.mem_erase_of_ne (λ he:x=a=>h1.1 (by rw[<- he];exact hx))).2 (hs x (by simp[hx]));rw[List.length_erase_of_mem hb] at this;have:=List.length_pos_of_mem hb;simp;omega
theorem znA {M:List Nat}(h:M.Pairwise (· < ·)):M.Nodup:=h.imp λ h=>Nat.ne_of_lt h
section
variable {M:List Nat} {m t:Nat}
theorem zbP (h:Rule M m)(ht:t<m){p:Nat}:p∈Oth M m t ↔ ∃ x,x∈M/\sh m t x=p:=by
 unfold Oth;rw[List.mem_filter,zqm,List.mem_range];constructor
 .rintro ⟨_,h⟩;exact h
 .rintro ⟨x,hx,rfl⟩;exact⟨zq9 ht (h.lt x hx),x,hx,rfl⟩
theorem zoM (h:Rule M m)(ht:t<m):Rule (Oth M m t) m:=by
 have asc:(Oth M m t).Pairwise (· < ·):=List.Pairwise.filter _ List.pairwise_lt_range
 refine⟨asc, ?_, ?_,λ x hx=>?_,h.m16⟩
 .have h2:=h.two
  have:=zhF [sh m t M[0],sh m t M[1]] (Oth M m t) (by
   simp only[List.nodup_cons,List.mem_singleton,List.not_mem_nil,not_false_iff,List.nodup_nil,and_true];intro he;have:=zgw ht (h.lt _ (List.getElem_mem _)) (h.lt _ (List.getElem_mem _)) he;have:=zcu h.asc (by omega) (by omega) this
   omega) (λ x hx=>by
   simp only[List.mem_cons,List.not_mem_nil,or_false] at hx;rw[zbP h ht]
   rcases hx with rfl|rfl
   .exact ⟨_,List.getElem_mem _,rfl⟩
   .exact ⟨_,List.getElem_mem _,rfl⟩)
  simpa using this
 .have:=zhF (Oth M m t) (M.map (sh m t)) (znA asc) (λ x hx=>by
   obtain⟨y,hy,rfl⟩:=(zbP h ht).1 hx
   exact List.mem_map.2 ⟨y,hy,rfl⟩)
  have:=h.few;simp at *;omega
 .obtain ⟨y,hy,rfl⟩:=(zbP h ht).1 hx
  exact zq9 ht (h.lt y hy)
theorem ziU (h:Rule M m)(ht:t<m):zf4 (Oth M m t) m ↔ zf4 M m:=by
 constructor
 .rintro ⟨x,y,x',y',hx,hy,hx',hy',h1,h2,h3,h4⟩
  obtain⟨x,kx,rfl⟩:=(zbP h ht).1 hx;obtain⟨y,ky,rfl⟩:=(zbP h ht).1 hy;obtain⟨x',kx',rfl⟩:=(zbP h ht).1 hx';obtain⟨y',ky',rfl⟩:=(zbP h ht).1 hy';rw[zkM ht (h.lt _ kx) (h.lt _ ky),zkM ht (h.lt _ kx') (h.lt _ ky')] at h4;exact⟨x,y,x',y',kx,ky,kx',ky',λ he=>h1 (by rw[he]),λ he=>h2 (by rw[he]),λ ⟨a,b⟩=>h3 ⟨by rw[a],by rw[b]⟩,h4⟩
 .rintro ⟨x,y,x',y',hx,hy,hx',hy',h1,h2,h3,h4⟩
  refine⟨sh m t x,sh m t y,sh m t x',sh m t y',(zbP h ht).2 ⟨_,hx,rfl⟩,(zbP h ht).2 ⟨_,hy,rfl⟩,(zbP h ht).2 ⟨_,hx',rfl⟩,(zbP h ht).2 ⟨_,hy',rfl⟩,
   λ he=>h1 (zgw ht (h.lt _ hx) (h.lt _ hy) he),λ he=>h2 (zgw ht (h.lt _ hx') (h.lt _ hy') he),
   λ ⟨a,b⟩=>h3 ⟨zgw ht (h.lt _ hx) (h.lt _ hx') a,zgw ht (h.lt _ hy) (h.lt _ hy') b⟩, ?_⟩
  rw[zkM ht (h.lt _ hx) (h.lt _ hy),zkM ht (h.lt _ hx') (h.lt _ hy')];exact h4
theorem zeR {p:Nat}(hp:p<m):(bord M m)[p]? = some (fig M p):=by
 unfold bord;rw[List.getElem?_map,List.getElem?_range hp];rfl
theorem zfN (h:Rule M m)(ht:t<m):Turned (bord M m) (bord (Oth M m t) m):=by
 refine⟨m-t,by rw[zaP];omega,List.ext_getElem? λ x=>?_⟩;by_cases hx:x<m
 .rw [zhE (by rw[zaP];omega) (by rw[zaP];exact hx),zeR hx,zaP,zeR (Nat.mod_lt _ (by omega))]
  congr 1
  have e:(x+(m-t)) % m=if t<=x then x-t else x+m-t:=by
   by_cases htx:t<=x
   .rw [if_pos htx,show x+(m-t)=(x-t)+m by omega,Nat.add_mod_right,Nat.mod_eq_of_lt (by omega)]
   .rw [if_neg htx,Nat.mod_eq_of_lt (by omega)];omega
  rw[e];unfold fig
  have:x∈Oth M m t ↔ (if t<=x then x-t else x+m-t)∈M:=by
   rw[zbP h ht];constructor
   .rintro ⟨y,hy,rfl⟩
    have hy':=h.lt y hy
    have:(if t<=sh m t y then sh m t y-t else sh m t y+m-t)=y:=by unfold sh;split <;> split <;> omega
    rw[this];exact hy
   .intro hy
    refine⟨_,hy, ?_⟩
    unfold sh;split <;> split <;> omega
  by_cases hm:x∈Oth M m t
  .rw [if_pos hm,if_pos (this.1 hm)]
  .rw [if_neg hm,if_neg λ hh=>hm (this.2 hh)]
 .rw [List.getElem?_eq_none (by rw[zaP];omega),List.getElem?_eq_none (by rw[zbZ,zaP];omega)]
theorem znB (h2:2<=m)(h16:m<=16):chk8 (bord M m)=0:=by
 rw[zfM];refine⟨λ he=>?_,by rw[zaP];omega, ?_⟩
 .have:=congrArg List.length he;rw[zaP] at this;simp at this;omega
 .unfold bord
  rw[List.all_eq_true];intro b hb;obtain⟨p,_,rfl⟩:=List.mem_map.1 hb;unfold fig
  split <;> rfl
theorem zlO (h:Rule M m)(h0:0∈M)(hc:¬ zf4 M m):zcK (bord M m)=m:=by
 have h2:=h.m2
 have hne:bord M m≠[]:=λ he=>by have:=congrArg List.length he;rw[zaP] at this;simp at this;omega
 obtain⟨r1,r2,r3,r4,_⟩:=zgu hne;rw[zaP] at r2 r3;generalize zcK (bord M m)=r at *;by_cases hr:r=m
 .exact hr
 .exfalso
  have hper:=zqh.1 r4
  have hfig:∀ i,i+r<m->fig M i=fig M (i+r):=by
   intro i hi;have:=hper i (by rw[zaP];exact hi);have e1:(bord M m)[i]? = some (fig M i):=zeR (by omega);have e2:(bord M m)[i+r]? = some (fig M (i+r)):=zeR hi;rw[zrg (by rw[zaP];omega)] at e1;rw[zrg (by rw[zaP];omega)] at e2;rw[Option.some.inj e1,Option.some.inj e2] at this;exact this
  have mem:∀ i,i+r<m->i∈M->i+r∈M:=by
   intro i hi hm;have:=hfig i hi;unfold fig at this;rw[if_pos hm] at this;by_cases hh:i+r∈M
   .exact hh
   .rw [if_neg hh] at this;exact absurd this (by decide)
  have hrM:r∈M:=by have:=mem 0 (by omega) h0;simpa using this
  have h2r:2*r<=m:=by
   have e:=Nat.div_add_mod m r;rw[r3] at e
   match hq:m / r with
   | 0=>rw[hq] at e;simp at e;omega
   | 1=>rw[hq] at e;simp at e;omega
   | q+2 =>
    rw[hq] at e;have h5:r*2<=r*(q+2):=Nat.mul_le_mul_left r (by omega);generalize r*(q+2)=z at *;omega
  by_cases h3:2*r=m
  .exact hc ⟨0,r,r,0,h0,hrM,hrM,h0,by omega,by omega,λ ⟨a,_⟩=>by omega,by unfold wy;split <;> split <;> omega⟩
  .have:=mem r (by omega) hrM
   exact hc ⟨0,r,r,r+r,h0,hrM,hrM,this,by omega,by omega,λ ⟨a,_⟩=>by omega,by unfold wy;split <;> split <;> omega⟩
end
end Go.Vc

/-
  A library for proofs about Go functions by symbolic evaluation,and plain Lean functions that the walked Go functions compute (written by a program of this claim).
-/
import Derived.Test.YtlngljdmmlbhgaaGreatDoorTTF7
import Derived.Test.YtlngljdmmlbhgaaGreatDoorTTF6
set_option linter.unusedVariables false
set_option linter.unnecessarySimpa false
set_option linter.unusedSimpArgs false
namespace Go.Vc
structure Rule (M:List Nat)(m:Nat):Prop where
 asc:M.Pairwise (· < ·)
 two:2<=M.length
 few:M.length<=8
 lt:∀ x,x∈M->x<m
 m16:m<=16
theorem zay {M:List Nat}:(toI M).length=M.length:=by simp[toI]
theorem zeb {M:List Nat}{i:Nat}(h:i<M.length):ix (toI M) (i:Int)=some ((M[i]:Nat):Int):=by
 rw[zm3 (by simpa [toI] using h)];simp[toI]
theorem znw {N:Nat}{a b c:Int}:f56 N a b c=some (decide (a<=b/\b<=c)):=by
 unfold f56
 by_cases h:a<=b <;> simp[h]
theorem Rule.m2 {M:List Nat}{m:Nat}(h:Rule M m):2<=m:=by
 have h1:=h.two;have h2:=List.pairwise_iff_getElem.1 h.asc 0 1 (by omega) (by omega) (by omega);have h3:=h.lt M[1] (List.getElem_mem _);omega
theorem zq7 {M:List Nat}(ha:M.Pairwise (· < ·))(hm:∀ x,x∈M->x<=60)(hl:M.length<=100){N:Nat}(hN:M.length<N):f47 N (toI M) 0 60=some 0:=by
 unfold f47;simp only[zbI]
 have key:∀ (n i:Nat) (last:Int),i<=M.length->M.length-i<n->(∀ j,(h:j<M.length)->i<=j->last<(M[j]:Int))->zlJ (toI M) 0 60 N zc3 n last (i:Int)=some 0:=by
  intro n
  induction n with
  | zero=>intro i last _ h;omega
  | succ n ih =>
   intro i last hi hn hlast;show zkH _ (toI M) 0 60 N zc3 last (i:Int)=some 0;unfold zkH;rw[zay];by_cases hlt:i<M.length
   .rw [decide_eq_true (show (i:Int)<(M.length:Int) by omega),cond_true,zeb hlt,zre,znw,zre]
    have h1:=hm M[i] (List.getElem_mem hlt);have h2:=hlast i hlt (by omega);rw[decide_eq_true (show (0:Int)<=((M[i]:Nat):Int)/\((M[i]:Nat):Int)<=60 by omega),decide_eq_false (show ¬ ((M[i]:Nat):Int)<=last by omega)];simp only[Bool.not_true,cond_false];rw[zeK (by omega)];refine ih (i+1) _ (by omega) (by omega) λ j hj hij=>?_;have:=List.pairwise_iff_getElem.1 ha i j hlt hj (by omega);omega
   .rw [decide_eq_false (show ¬ (i:Int)<(M.length:Int) by omega),cond_false]
    rfl
 exact key N 0 _ (by omega) (by omega) λ j hj _=>by rw[W_of (by omega) (by omega)];omega
theorem f9_eq {M:List Nat}{m:Nat}(h:Rule M m){N:Nat}(hN:100<=N):f9 N (toI M)=some 0:=by
 unfold f9;have:=h.two;have:=h.few;have:=h.m16;rw[zay,decide_eq_false (show ¬ (M.length:Int)<2 by omega),decide_eq_false (show ¬ (8:Int)<(M.length:Int) by omega)];simp only[cond_false];rw[zq7 h.asc (λ x hx=>by have:=h.lt x hx;omega) (by omega) (by omega),zre]
def fig (M:List Nat)(p:Nat):UInt8:=if p∈M then 98 else 97
def bord (M:List Nat)(m:Nat):List UInt8:=(List.range m).map (fig M)
theorem zaP {M:List Nat}{m:Nat}:(bord M m).length=m:=by simp[bord]
theorem znx {M:List Nat}{m:Nat}(hl:M.length<=100)(hm:m<=100){N:Nat}(hN:200<=N):f15 N (toI M) (m:Int)=some (strC (bord M m)):=by
 unfold f15;simp only[zbI]
 have hin:∀ (p:Nat) (out:ByteArray) (k:ByteArray->Option ByteArray),zjP (toI M) (m:Int) out (p:Int) k N (strC [97]) 0=k (strC [fig M p]):=by
  intro p out k
  have h:=zc4 (F:=λ n (s:List UInt8) i=>zjP (toI M) (m:Int) out (p:Int) k n (strC s) i) (k:=λ s=>k (strC s)) (λ s i=>if M.getD i 0=p then [98] else s)
   (λ i s=>s=if p∈M.take i then [98] else [97]) M.length
   (λ n s i hi _=>by
    show zgr _ (toI M) (m:Int) out (p:Int) k (strC s) (i:Int)=_;unfold zgr;rw[zay,decide_eq_true (show (i:Int)<(M.length:Int) by omega),cond_true,zeb hi,zre,zeK (by omega)]
    have e:M.getD i 0=M[i]:=by simp[List.getD,hi]
    rw[e];by_cases hp:M[i]=p
    .rw [decide_eq_true (show ((M[i]:Nat):Int)=(p:Int) by omega),cond_true,if_pos hp]
    .rw [decide_eq_false (show ¬ ((M[i]:Nat):Int)=(p:Int) by omega),cond_false,if_neg hp])
   (λ s i hi hs=>by
    have e:M.getD i 0=M[i]:=by simp[List.getD,hi]
    have ht:M.take (i+1)=M.take i++[M[i]]:=by rw[List.take_succ_eq_append_getElem hi]
    rw[e,hs,ht];by_cases hp:M[i]=p
    .rw [if_pos hp,if_pos (List.mem_append.2 (Or.inr (by simp[hp])))]
    .have hp':¬ p=M[i]:=λ h=>hp h.symm
     rw[if_neg hp];by_cases hq:p∈M.take i
     .rw [if_pos hq,if_pos (List.mem_append.2 (Or.inl hq))]
     .rw [if_neg hq,if_neg λ hh=>(List.mem_append.1 hh).elim hq λ hh=>hp' (by simpa using hh)])
   (λ n s=>by
    show zgr _ (toI M) (m:Int) out (p:Int) k (strC s) (M.length:Int)=_;unfold zgr
    rw[zay,decide_eq_false (show ¬ (M.length:Int)<(M.length:Int) by omega),cond_false]) (n:=N) (s:=[97]) (by omega) (by simp)
  rw[h.1];have h2:=h.2;rw[List.take_length] at h2;rw[h2];unfold fig
  by_cases hp:p∈M <;> simp[hp]
 have h:=zc4 (F:=λ n (s:List UInt8) i=>zlI (toI M) (m:Int) N zcJ n (strC s) i) (k:=λ s=>zcJ (strC s)) (λ s i=>s++[fig M i]) (λ i s=>s=(List.range i).map (fig M)) m
  (λ n s i hi hs=>by
   show zgs _ (toI M) (m:Int) N zcJ (strC s) (i:Int)=_;unfold zgs;rw[decide_eq_true (show (i:Int)<(m:Int) by omega),cond_true];simp only[zbI];rw[hin];unfold zeu;rw[znp (by rw[hs];simp;omega),zre];unfold zgq
   rw[zeK (by omega)])
  (λ s i hi hs=>by rw[hs,List.range_succ,List.map_append];rfl)
  (λ n s=>by
   show zgs _ (toI M) (m:Int) N zcJ (strC s) (m:Int)=_;unfold zgs
   rw[decide_eq_false (show ¬ (m:Int)<(m:Int) by omega),cond_false]) (n:=N) (s:=[]) (by omega) rfl
 rw[zfK,h.1,h.2];rfl
def wy (m x y:Nat):Nat:=if x<=y then y-x else y+m-x
def zf4 (M:List Nat)(m:Nat):Prop:=∃ x y x' y',x∈M/\y∈M/\x'∈M/\y'∈M/\x≠y/\x'≠y'/\¬ (x=x'/\y=y')/\wy m x y=wy m x' y'
theorem zpb {m x y:Nat}(hx:x<m)(hy:y<m)(hm:m<=100):Int.tmod (W ((W ((y:Int)-(x:Int)))+(m:Int))) (m:Int)=(wy m x y:Int):=by
 rw[W_of (n:=(y:Int)-(x:Int)) (by omega) (by omega),W_of (by omega) (by omega)];rw[show (y:Int)-(x:Int)+(m:Int)=((y+m-x:Nat):Int) by omega];show (((y+m-x) % m:Nat):Int)=_
 congr 1
 unfold wy;by_cases h:x<=y
 .rw [if_pos h,show y+m-x=(y-x)+m by omega,Nat.add_mod_right,Nat.mod_eq_of_lt (by omega)]
 .rw [if_neg h,Nat.mod_eq_of_lt (by omega)]
theorem zoK {β:Type}{F:Nat->Int->Option β}{P:Option β->Prop}{p:Nat->Prop}{k:Option β}(len:Nat)
  (hs:∀ n i,i<len->p i->P (F (n+1) (i:Int))) (hn:∀ n i,i<len->¬ p i->F (n+1) (i:Int)=F n ((i+1:Nat):Int)) (he:∀ n,F (n+1) (len:Int)=k) :
  ∀ (n i:Nat),i<=len->len-i<n->((∃ j,i<=j/\j<len/\p j)->P (F n (i:Int)))/\((¬ ∃ j,i<=j/\j<len/\p j)->F n (i:Int)=k):=by
 intro n
 induction n with
 | zero=>intro i _ h;omega
 | succ n ih =>
  intro i hi hlt;by_cases h:i=len
  .subst h
   exact⟨λ ⟨j,h1,h2,_⟩=>by omega,λ _=>he n⟩
  .by_cases hp:p i
   .exact ⟨λ _=>hs n i (by omega) hp,λ hno=>absurd ⟨i,Nat.le_refl _,by omega,hp⟩ hno⟩
   .obtain ⟨h1,h2⟩:=ih (i+1) (by omega) (by omega)
    rw[hn n i (by omega) hp];refine⟨λ ⟨j,a,b,c⟩=>h1 ⟨j, ?_,b,c⟩,λ hno=>h2 λ ⟨j,a,b,c⟩=>hno ⟨j,by omega,b,c⟩⟩;by_cases hj:j=i
    .subst hj;exact absurd c hp
    .omega
theorem zec {β:Type}{F:Nat->Int->Option β}{P:Option β->Prop}{p:Nat->Prop}{k:Option β}(len:Nat)
  (hs:∀ n i,i<len->p i->P (F (n+1) (i:Int))) (hn:∀ n i,i<len->¬ p i->F (n+1) (i:Int)=F n ((i+1:Nat):Int)) (he:∀ n,F (n+1) (len:Int)=k) {n:Nat} (hl:len<n) :
  ((∃ j,j<len/\p j)->P (F n 0))/\((¬ ∃ j,j<len/\p j)->F n 0=k):=by
 obtain⟨h1,h2⟩:=zoK len hs hn he n 0 (by omega) (by omega);exact⟨λ ⟨j,a,b⟩=>h1 ⟨j,by omega,a,b⟩,λ h=>h2 λ ⟨j,_,a,b⟩=>h ⟨j,a,b⟩⟩
end Go.Vc
namespace Go.Vc
def Hit (x:Option (A2iN×A2iN×Int)):Prop:=∃ r,x=some r/\r.2.2=0
theorem zq8 (a b c d:Int):Hit (zaO true a b c d):=⟨_,rfl,rfl⟩
def Cl (M:List Nat)(m i k i' k':Nat):Prop:=i'≠k'/\¬ (i=i'/\k=k')/\wy m (M.getD i 0) (M.getD k 0)=wy m (M.getD i' 0) (M.getD k' 0)
theorem za4 {M:List Nat}{i:Nat}(h:i<M.length):M.getD i 0=M[i]:=by simp[List.getD,h]
section
variable {M:List Nat} {m N:Nat}
theorem in4 (h:Rule M m)(hN:100<=N){i k i':Nat}(hi:i<M.length)(hk:k<M.length)(hi':i'<M.length)(k2:Option (A2iN×A2iN×Int)) :
  ((∃ k',k'<M.length/\Cl M m i k i' k')->Hit (zab (toI M) (m:Int) zaO (i:Int) (k:Int) (i':Int) k2 N 0))/\((¬ ∃ k',k'<M.length/\Cl M m i k i' k')->zab (toI M) (m:Int) zaO (i:Int) (k:Int) (i':Int) k2 N 0=k2):=by
 have hl:=h.few;have h2:=h.m2;have h16:=h.m16
 have hx:∀ j,j<M.length->M.getD j 0<m:=λ j hj=>by rw[za4 hj];exact h.lt _ (List.getElem_mem hj)
 have hstep:∀ n j,j<M.length->zab (toI M) (m:Int) zaO (i:Int) (k:Int) (i':Int) k2 (n+1) (j:Int)=(open Classical in if Cl M m i k i' j then zaO true (i:Int) (k:Int) (i':Int) (j:Int) else zab (toI M) (m:Int) zaO (i:Int) (k:Int) (i':Int) k2 n ((j+1:Nat):Int)):=by
  intro n j hj;show zai _ (toI M) (m:Int) zaO (i:Int) (k:Int) (i':Int) k2 (j:Int)=_;unfold zai;rw[zay,decide_eq_true (show (j:Int)<(M.length:Int) by omega),cond_true,zeK (by omega)];unfold Cl;by_cases h1:i'=j
  .rw [decide_eq_false (show ¬ ¬ (i':Int)=(j:Int) by omega),cond_false,if_neg (λ hh=>hh.1 h1)]
  .rw [decide_eq_true (show ¬ (i':Int)=(j:Int) by omega),cond_true]
   by_cases h3:i=i'/\k=j
   .rw [show (!(decide ((i:Int)=(i':Int))&&(decide ((k:Int)=(j:Int))&&true)))=false by simp[h3.1,h3.2],cond_false,if_neg (λ hh=>hh.2.1 h3)]
   .have h3':(!(decide ((i:Int)=(i':Int))&&(decide ((k:Int)=(j:Int))&&true)))=true:=by
     simp only[Bool.and_true,Bool.not_eq_true',Bool.and_eq_false_iff,decide_eq_false_iff_not];by_cases a:i=i'
     .exact Or.inr λ b=>h3 ⟨a,by omega⟩
     .exact Or.inl λ b=>a (by omega)
    rw[h3',cond_true,zeb hk,zeb hi,zeb hj,zeb hi'];simp only[zre];rw[show chk (decide ((m:Int)≠0))=some () by rw[decide_eq_true (show (m:Int)≠0 by omega)];rfl];simp only[zre];have e1:=zpb (m:=m) (x:=M[i]) (y:=M[k]) (h.lt _ (List.getElem_mem hi)) (h.lt _ (List.getElem_mem hk)) (by omega);have e2:=zpb (m:=m) (x:=M[i']) (y:=M[j]) (h.lt _ (List.getElem_mem hi')) (h.lt _ (List.getElem_mem hj)) (by omega);rw[e1,e2];rw[za4 hi,za4 hk,za4 hi',za4 hj];by_cases h4:wy m M[i] M[k]=wy m M[i'] M[j]
    .rw [decide_eq_true (show (wy m M[i] M[k]:Int)=(wy m M[i'] M[j]:Int) by omega),cond_true,if_pos ⟨h1,h3,h4⟩]
    .rw [decide_eq_false (show ¬ (wy m M[i] M[k]:Int)=(wy m M[i'] M[j]:Int) by omega),cond_false,if_neg (λ hh=>h4 hh.2.2)]
 refine zec (P:=Hit) (p:=λ j=>Cl M m i k i' j) M.length (λ n j hj hp=>?_) (λ n j hj hp=>?_) (λ n=>?_) (by omega)
 .rw [hstep n j hj,if_pos hp];exact zq8 _ _ _ _
 .rw [hstep n j hj,if_neg hp]
 .show zai _ (toI M) (m:Int) zaO (i:Int) (k:Int) (i':Int) k2 (M.length:Int)=_
  unfold zai;rw[zay,decide_eq_false (show ¬ (M.length:Int)<(M.length:Int) by omega),cond_false]
theorem in1 (h:Rule M m)(hN:100<=N){i k:Nat}(hi:i<M.length)(hk:k<M.length)(r4:Int->Option (A2iN×A2iN×Int)) :
  ((∃ i',i'<M.length/\∃ k',k'<M.length/\Cl M m i k i' k')->Hit (zaf (toI M) (m:Int) N zaO (i:Int) (k:Int) r4 N 0))/\((¬ ∃ i',i'<M.length/\∃ k',k'<M.length/\Cl M m i k i' k')->zaf (toI M) (m:Int) N zaO (i:Int) (k:Int) r4 N 0=r4 (((k+1:Nat)):Int)):=by
 have hl:=h.few;refine zec (P:=Hit) (p:=λ i' => ∃ k',k'<M.length/\Cl M m i k i' k') M.length (λ n j hj hp=>?_) (λ n j hj hp=>?_) (λ n=>?_) (by omega)
 .show Hit (zad _ (toI M) (m:Int) N zaO (i:Int) (k:Int) r4 (j:Int))
  unfold zad;rw[zay,decide_eq_true (show (j:Int)<(M.length:Int) by omega),cond_true];exact(in4 h hN hi hk hj _).1 hp
 .show zad _ (toI M) (m:Int) N zaO (i:Int) (k:Int) r4 (j:Int)=_
  unfold zad;rw[zay,decide_eq_true (show (j:Int)<(M.length:Int) by omega),cond_true];simp only[zbI];rw[(in4 h hN hi hk hj _).2 hp];unfold zae;rw[zeK (by omega)]
 .show zad _ (toI M) (m:Int) N zaO (i:Int) (k:Int) r4 (M.length:Int)=_
  unfold zad;rw[zay,decide_eq_false (show ¬ (M.length:Int)<(M.length:Int) by omega),cond_false,zeK (by omega)]
theorem out4 (h:Rule M m)(hN:100<=N){i:Nat}(hi:i<M.length)(k1:Option (A2iN×A2iN×Int)) :
  ((∃ k,k<M.length/\i≠k/\∃ i',i'<M.length/\∃ k',k'<M.length/\Cl M m i k i' k')->Hit (zaA (toI M) (m:Int) N zaO (i:Int) k1 N 0))/\((¬ ∃ k,k<M.length/\i≠k/\∃ i',i'<M.length/\∃ k',k'<M.length/\Cl M m i k i' k')->zaA (toI M) (m:Int) N zaO (i:Int) k1 N 0=k1):=by
 have hl:=h.few;refine zec (P:=Hit) (p:=λ k=>i≠k/\∃ i',i'<M.length/\∃ k',k'<M.length/\Cl M m i k i' k') M.length (λ n j hj hp=>?_) (λ n j hj hp=>?_) (λ n=>?_) (by omega)
 .show Hit (zas _ (toI M) (m:Int) N zaO (i:Int) k1 (j:Int))
  unfold zas;rw[zay,decide_eq_true (show (j:Int)<(M.length:Int) by omega),cond_true,decide_eq_true (show ¬ (i:Int)=(j:Int) by have:=hp.1;omega),cond_true];exact(in1 h hN hi hj _).1 hp.2
 .show zas _ (toI M) (m:Int) N zaO (i:Int) k1 (j:Int)=_
  unfold zas;rw[zay,decide_eq_true (show (j:Int)<(M.length:Int) by omega),cond_true];by_cases hij:i=j
  .rw [decide_eq_false (show ¬ ¬ (i:Int)=(j:Int) by omega),cond_false,zeK (by omega)]
  .rw [decide_eq_true (show ¬ (i:Int)=(j:Int) by omega),cond_true,(in1 h hN hi hj _).2 λ hh=>hp ⟨hij,hh⟩]
 .show zas _ (toI M) (m:Int) N zaO (i:Int) k1 (M.length:Int)=_
  unfold zas;rw[zay,decide_eq_false (show ¬ (M.length:Int)<(M.length:Int) by omega),cond_false]
def zny (M:List Nat)(m:Nat):Prop:=∃ i,i<M.length/\∃ k,k<M.length/\i≠k/\∃ i',i'<M.length/\∃ k',k'<M.length/\Cl M m i k i' k'
theorem out1 (h:Rule M m)(hN:100<=N):(zny M m->Hit (zaB (toI M) (m:Int) N zaO N 0))/\(¬ zny M m->zaB (toI M) (m:Int) N zaO N 0=zaO false 0 0 0 0):=by
 have hl:=h.few;refine zec (P:=Hit) (p:=λ i=>∃ k,k<M.length/\i≠k/\∃ i',i'<M.length/\∃ k',k'<M.length/\Cl M m i k i' k') M.length (λ n j hj hp=>?_) (λ n j hj hp=>?_) (λ n=>?_) (by omega)
 .show Hit (zat _ (toI M) (m:Int) N zaO (j:Int))
  unfold zat;rw[zay,decide_eq_true (show (j:Int)<(M.length:Int) by omega),cond_true];exact(out4 h hN hj _).1 hp
 .show zat _ (toI M) (m:Int) N zaO (j:Int)=_
  unfold zat;rw[zay,decide_eq_true (show (j:Int)<(M.length:Int) by omega),cond_true];simp only[zbI];rw[(out4 h hN hj _).2 hp];unfold zaz;rw[zeK (by omega)]
 .show zat _ (toI M) (m:Int) N zaO (M.length:Int)=_
  unfold zat;rw[zay,decide_eq_false (show ¬ (M.length:Int)<(M.length:Int) by omega),cond_false]
theorem zcu {M:List Nat}(h:M.Pairwise (· < ·)){i j:Nat}(hi:i<M.length)(hj:j<M.length)(he:M[i]=M[j]):i=j:=by
 have:=List.pairwise_iff_getElem.1 h
 rcases Nat.lt_trichotomy i j with hh|hh|hh
 .have:=this i j hi hj hh;omega
 .exact hh
 .have:=this j i hj hi hh;omega
theorem ziT (h:Rule M m):zny M m ↔ zf4 M m:=by
 constructor
 .rintro ⟨i,hi,k,hk,hik,i',hi',k',hk',h1,h2,h3⟩
  rw[za4 hi,za4 hk,za4 hi',za4 hk'] at h3
  exact⟨M[i],M[k],M[i'],M[k'],List.getElem_mem _,List.getElem_mem _,List.getElem_mem _,List.getElem_mem _,λ he=>hik (zcu h.asc hi hk he),λ he=>h1 (zcu h.asc hi' hk' he),
   λ ⟨a,b⟩=>h2 ⟨zcu h.asc hi hi' a,zcu h.asc hk hk' b⟩,h3⟩
 .rintro ⟨x,y,x',y',hx,hy,hx',hy',h1,h2,h3,h4⟩
  obtain⟨i,hi,rfl⟩:=List.getElem_of_mem hx;obtain⟨k,hk,rfl⟩:=List.getElem_of_mem hy;obtain⟨i',hi',rfl⟩:=List.getElem_of_mem hx';obtain⟨k',hk',rfl⟩:=List.getElem_of_mem hy';refine⟨i,hi,k,hk,λ he=>h1 (by subst he;rfl),i',hi',k',hk',λ he=>h2 (by subst he;rfl),λ ⟨a,b⟩=>h3 ⟨by subst a;rfl,by subst b;rfl⟩, ?_⟩;rw[za4 hi,za4 hk,za4 hi',za4 hk'];exact h4
theorem zoL (h:Rule M m):∃ x:Nat,x<m/\ix (toI M) (W (((toI M).length:Int)-1))=some (x:Int):=by
 have h2:=h.two;have hl:=h.few;rw[zay,W_of (by omega) (by omega),show (M.length:Int)-1=((M.length-1:Nat):Int) by omega,zeb (by omega)];exact⟨_,h.lt _ (List.getElem_mem _),rfl⟩
theorem znz (h:Rule M m)(hN:100<=N):∃ r,f14 N (toI M) (m:Int)=some r/\(zf4 M m->r.2.2=0)/\(¬ zf4 M m->r.2.2=5):=by
 unfold f14;obtain⟨x,hx,hx'⟩:=zoL h;have h2:=h.m2;have h16:=h.m16;rw[f9_eq h hN,zre,znw,zre,hx',zre,decide_eq_true (show (2:Int)<=(m:Int)/\(m:Int)<=40 by omega),decide_eq_false (show ¬ (m:Int)<=(x:Int) by omega)];simp only[not_true,decide_false,cond_false,Bool.not_true,zbI];by_cases hc:zf4 M m
 .obtain ⟨r,h1,h2⟩:=(out1 h hN).1 ((ziT h).2 hc)
  exact⟨r,h1,λ _=>h2,λ hn=>absurd hc hn⟩
 .have:=(out1 h hN).2 λ hh=>hc ((ziT h).1 hh)
  exact⟨_,this,λ hh=>absurd hh hc,λ _=>rfl⟩
end
end Go.Vc

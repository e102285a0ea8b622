/-
  A library for proofs about Go functions by symbolic evaluation,and plain Lean functions that the walked Go functions compute (written by a program of this claim).
-/
import Derived.Test.YtlngljdmmlbhgaaGreatDoorTTF6
import Derived.Test.YtlngljdmmlbhgaaGreatDoorVc5
import Derived.Test.YtlngljdmmlbhgaaGreatDoorTTF9
import Derived.Test.YtlngljdmmlbhgaaGreatDoorTTF1
import Derived.Test.YtlngljdmmlbhgaaGreatDoorVc3
import Derived.Test.YtlngljdmmlbhgaaGreatDoorProg
import Derived.LaidSub
import Derived.MakeChecks
set_option linter.unusedVariables false
set_option linter.unnecessarySimpa false
set_option linter.unusedSimpArgs false
namespace Go.Vc
def lev (last:Int):Nat->List (List Int)
 | 0=>[[0]]
 | n+1=>(lev last n).flatMap λ l=>([1,2,3,4].map λ d=>l++[l.getLastD 0+d]).filter λ l=>decide (l.getLastD 0<=last)
def zjW (last:Int):List (List Int):=lev last 1++(lev last 2++(lev last 3++lev last 4))
theorem znC {last:Int}(h0:0<=last):∀ {n:Nat} {l:List Int},l∈lev last n->l.length=n+1/\0<=l.getLastD 0/\l.getLastD 0<=last
 | 0,l,h=>by simp[lev] at h;subst h;simp;exact h0
 | n+1,l,h=>by
  simp only[lev,List.mem_flatMap,List.mem_filter,decide_eq_true_eq,List.mem_map] at h;obtain⟨q,hq,⟨d,hd,rfl⟩,hl⟩:=h;obtain⟨h1,h2,h3⟩:=znC h0 hq
  have h4:1<=d:=by
   simp at hd;omega
  have e:(q++[q.getLastD 0+d]).getLastD 0=q.getLastD 0+d:=by simp
  rw[e] at hl ⊢;exact⟨by simp[h1],by omega,hl⟩
theorem zqn {last:Int}{n:Nat}{l:List Int}(h:l∈lev last n){d:Int}(h1:1<=d)(h4:d<=4)(hl:l.getLastD 0+d<=last):l++[l.getLastD 0+d]∈lev last (n+1):=by
 simp only[lev,List.mem_flatMap,List.mem_filter,decide_eq_true_eq,List.mem_map];exact⟨l,h,⟨d,by simp;omega,rfl⟩,by simpa using hl⟩
theorem zqo {l:List Int}{n:Nat}(h:l.length=n+1)(hn:n<=100):ix l (W ((List.length l:Int)-(1:Int)))=some (l.getLastD 0):=by
 rw[W_of (by omega) (by omega),show (l.length:Int)-1=((n:Nat):Int) by omega,zm3 (by omega)]
 have e:l[l.length-1]? = some l[n]:=by rw[show l.length-1=n by omega];exact zrg (by omega)
 rw[List.getLastD_eq_getLast?,List.getLast?_eq_getElem?,e];rfl
theorem zqp {last:Int}(h0:2<=last)(h1:last<=100){a0:List Int}(ha:∀ x,x∈a0->0<=x)(hl:a0.length<=9223372036854775807) :
  ∀ (n i k:Nat) (l:List Int),l∈lev last k->k<=4->i<=a0.length->a0.length-i<n->∃ r,r∈zjW last/\f8_3 a0 4 last zf3 n l (i:Int)=some r:=by
 have hfin:∀ k l,l∈lev last k->k<=4->∃ r,r∈zjW last/\zf3 l=some r:=by
  intro k l hm hk;obtain⟨h3,_,_⟩:=znC (by omega) hm;unfold zf3;by_cases h2:(List.length l:Int)<(2:Int)
  .rw [decide_eq_true h2,cond_true]
   obtain rfl:k=0:=by omega
   simp[lev] at hm;subst hm;refine⟨[0,2], ?_,rfl⟩;simp only[zjW,List.mem_append];refine Or.inl ?_;simp[lev];omega
  .rw [decide_eq_false h2,cond_false]
   refine⟨l, ?_,rfl⟩;simp only[zjW,List.mem_append]
   match k,hk,h3,hm with
   | 0,_,h3,_=>omega
   | 1,_,_,hm=>exact Or.inl hm
   | 2,_,_,hm=>exact Or.inr (Or.inl hm)
   | 3,_,_,hm=>exact Or.inr (Or.inr (Or.inl hm))
   | 4,_,_,hm=>exact Or.inr (Or.inr (Or.inr hm))
   | k+5,hk,_,_=>omega
 intro n
 induction n with
 | zero=>intro i k l _ _ _ h;omega
 | succ n ih =>
  intro i k l hm hk hi hn;obtain⟨h3,h5,h6⟩:=znC (by omega) hm;show ∃ r,r∈zjW last/\zoA (f8_3 a0 4 last zf3 n) a0 4 last zf3 l (i:Int)=some r;unfold zoA;by_cases hlt:i<a0.length
  .rw [decide_eq_true (show (i:Int)<(a0.length:Int) by omega),cond_true]
   by_cases h7:(List.length l:Int)<(5:Int)
   .rw [decide_eq_true h7,cond_true,zqo h3 (by omega),zre,zm3 hlt,zre]
    rw[show chk (decide ((4:Int)≠0))=some () from rfl,zre,zeK (by omega)]
    have hd:0<=Int.tmod a0[i] 4/\Int.tmod a0[i] 4<=3:=by
     have:=ha a0[i] (List.getElem_mem hlt);rw[Int.tmod_eq_emod_of_nonneg this];omega
    obtain⟨d,hd'⟩:∃ d,d=Int.tmod a0[i] 4:=⟨_,rfl⟩;rw[<- hd'] at hd ⊢;rw[W_of (n:=l.getLastD 0+1) (by omega) (by omega),W_of (n:=l.getLastD 0+1+d) (by omega) (by omega)];by_cases hle:l.getLastD 0+1+d<=last
    .rw [decide_eq_true hle,cond_true,zoY (by simp;omega) (by simp;omega),zre]
     rw[show l.getLastD 0+1+d=l.getLastD 0+(1+d) by omega];exact ih (i+1) (k+1) _ (zqn hm (by omega) (by omega) (by omega)) (by omega) (by omega) (by omega)
    .rw [decide_eq_false hle,cond_false]
     exact ih (i+1) k l hm hk (by omega) (by omega)
   .rw [decide_eq_false h7,cond_false]
    exact hfin k l hm hk
  .rw [decide_eq_false (show ¬ (i:Int)<(a0.length:Int) by omega),cond_false]
   exact hfin k l hm hk
theorem zoN {last:Int}(h0:2<=last)(h1:last<=100){a0:List Int}(ha:∀ x,x∈a0->0<=x)(hl:a0.length<=9223372036854775807){N:Nat}(hN:a0.length<N) :
  ∃ r,r∈zjW last/\f8 N a0 4 last=some r :=
 zqp h0 h1 ha hl N 0 0 [0] (by simp[lev]) (by omega) (by omega) (by omega)
end Go.Vc
namespace Go.Vc
def ascB:Int->List Int->Bool
 | _,[]=>true
 | a,x::r=>decide (a<x)&&decide (x<=14)&&ascB x r
def okR:List Int->Bool
 | []=>false
 | a::r=>decide (a=0)&&ascB a r&&Nat.ble 1 r.length&&Nat.ble r.length 4
theorem zqq:((zjW 14).all okR)=true:=by kernel_rfl
theorem znD:∀ {r:List Int} {a:Int},ascB a r=true->0<=a->∃ M:List Nat,r=toI M/\M.Pairwise (· < ·)/\∀ x,x∈M->a<(x:Int)/\x<=14
 | [],a,_,_=>⟨[],rfl, .nil,λ x hx=>by cases hx⟩
 | y::r,a,h,ha=>by
  simp only[ascB,zrk,decide_eq_true_eq] at h;obtain⟨M,rfl,h1,h2⟩:=znD h.2 (by omega);refine⟨y.toNat::M, ?_, ?_, ?_⟩
  .show y::toI M=((y.toNat:Nat):Int)::toI M
   rw[Int.toNat_of_nonneg (by omega)]
  .refine List.pairwise_cons.2 ⟨λ x hx=>?_,h1⟩
   have:=(h2 x hx).1;omega
  .intro x hx
   rcases List.mem_cons.1 hx with rfl|hx
   .omega
   .have:=h2 x hx;omega
theorem zra {l:List Int}(h:okR l=true):∃ M:List Nat,l=toI M/\M.Pairwise (· < ·)/\(∀ x,x∈M->x<=14)/\0∈M/\2<=M.length/\M.length<=5:=by
 cases l with
 | nil=>cases h
 | cons a r =>
  simp only[okR,zrk,decide_eq_true_eq] at h;obtain⟨⟨⟨rfl,h1⟩,h2⟩,h3⟩:=h;obtain⟨M,rfl,h4,h5⟩:=znD h1 (by omega);have h2:=zrj h2;have h3:=zrj h3;rw[zay] at h2 h3;refine⟨0::M,rfl,List.pairwise_cons.2 ⟨λ x hx=>by have:=(h5 x hx).1;omega,h4⟩,λ x hx=>?_,by simp,by simp;omega,by simp;omega⟩
  rcases List.mem_cons.1 hx with rfl|hx
  .omega
  .exact (h5 x hx).2
section
variable {M:List Nat} {m t N:Nat} {a1 a2 x2:Int} {x3:A2iN×A2iN×Int} {x4:ByteArray}
abbrev Sz (x2 a1:Int):Int:=max (2:Int) (min (16:Int) (W ((W (x2+(1:Int)))+(Int.tmod a1 (8:Int)))))
theorem zqr {A:List Nat}{p:Nat}:toI A++[(p:Int)]=toI (A++[p]):=by simp[toI]
theorem f4_in (h:Rule M m)(hm:Sz x2 a1=(m:Int))(hN:200<=N)(h0:0<=a2)(h255:a2<=255)(ht:t=a2.toNat % m){p:Nat}{A:List Nat}(hA:A.length<=100)(k1:List Int->Option Bool) :
  zjU a1 a2 (toI M) x2 x3 x4 (p:Int) k1 N (toI A) 0=k1 (toI (A++if oth M m t p=true then [p] else [])):=by
 have h2:=h.m2;have h16:=h.m16;have hf:=h.few
 have htm:t<m:=by rw[ht];exact Nat.mod_lt _ (by omega)
 have hst:∀ i,i<M.length->Int.tmod (W (((M.getD i 0:Nat):Int)+a2)) (m:Int)=(sh m t (M.getD i 0):Int):=by
  intro i hi
  have hx:M.getD i 0<m:=by rw[za4 hi];exact h.lt _ (List.getElem_mem hi)
  generalize M.getD i 0=x at *;rw[W_of (by omega) (by omega)];rw[show (x:Int)+a2=((x+a2.toNat:Nat):Int) by omega];show (((x+a2.toNat) % m:Nat):Int)=_;rw[zr _ (by omega) hx,ht]
 have h:=zc4 (F:=λ n (s:List Nat) i=>zjU a1 a2 (toI M) x2 x3 x4 (p:Int) k1 n (toI s) i) (k:=λ s=>k1 (toI s)) (λ s i=>if sh m t (M.getD i 0)=p then s++[p] else s)
  (λ i s=>s=A++if ((M.take i).any λ x=>sh m t x == p)=true then [p] else []) M.length
  (λ n s i hi hs=>by
   show zgt _ a1 a2 (toI M) x2 x3 x4 (p:Int) k1 (toI s) (i:Int)=_;unfold zgt
   have hsl:s.length<=101:=by
    rw[hs];split <;> simp <;> omega
   rw[zay,decide_eq_true (show (i:Int)<(M.length:Int) by omega),cond_true,zeb hi,zre];rw[show max (2:Int) (min (16:Int) (W ((W (x2+(1:Int)))+(Int.tmod a1 (8:Int)))))=(m:Int) from hm];rw[show chk (decide ((m:Int)≠0))=some () by rw[decide_eq_true (show (m:Int)≠0 by omega)];rfl,zre,zeK (by omega)];have e:=hst i hi;rw[za4 hi] at e;rw[za4 hi,e];by_cases hp:sh m t M[i]=p
   .rw [decide_eq_true (show (sh m t M[i]:Int)=(p:Int) by omega),cond_true,if_pos hp,zoY (by simp[zay];omega) (by simp[zay];omega),zre,zqr]
   .rw [decide_eq_false (show ¬ (sh m t M[i]:Int)=(p:Int) by omega),cond_false,if_neg hp])
  (λ s i hi hs=>by
   have htk:M.take (i+1)=M.take i++[M[i]]:=by rw[List.take_succ_eq_append_getElem hi]
   rw[hs,za4 hi,htk,List.any_append];by_cases hp:sh m t M[i]=p
   .have hno:((M.take i).any λ x=>sh m t x == p)=false:=by
     rw[Bool.eq_false_iff];intro hh;obtain⟨x,hx,hxp⟩:=List.any_eq_true.1 hh;obtain⟨j,hj,rfl⟩:=List.getElem_of_mem hx;simp only[List.length_take] at hj;rw[List.getElem_take] at hxp;have:=zgw htm (h.lt _ (List.getElem_mem _)) (h.lt _ (List.getElem_mem hi)) ((eq_of_beq hxp).trans hp.symm);have:=zcu h.asc (by omega) hi this;omega
    rw[hno,if_pos hp];simp[hp]
   .rw [if_neg hp]
    have:([M[i]].any λ x=>sh m t x == p)=false:=by simp[hp]
    rw[this,Bool.or_false])
  (λ n s=>by
   show zgt _ a1 a2 (toI M) x2 x3 x4 (p:Int) k1 (toI s) (M.length:Int)=_;unfold zgt
   rw[zay,decide_eq_false (show ¬ (M.length:Int)<(M.length:Int) by omega),cond_false]) (n:=N) (s:=A) (by omega) (by simp)
 rw[h.1,h.2,List.take_length];rfl
theorem zrb (h:Rule M m)(hm:Sz x2 a1=(m:Int))(hN:200<=N)(h0:0<=a2)(h255:a2<=255)(ht:t=a2.toNat % m)(k0:List Int->Option Bool) :
  f4_7 a1 a2 N (toI M) x2 x3 x4 k0 N [] 0=k0 (toI (Oth M m t)):=by
 have h2:=h.m2;have h16:=h.m16
 have hh:=zc4 (F:=λ n (s:List Nat) i=>f4_7 a1 a2 N (toI M) x2 x3 x4 k0 n (toI s) i) (k:=λ s=>k0 (toI s)) (λ s i=>s++if oth M m t i=true then [i] else [])
  (λ i s=>s=(List.range i).filter (oth M m t)) m
  (λ n s i hi hs=>by
   show zlL _ a1 a2 N (toI M) x2 x3 x4 k0 (toI s) (i:Int)=_;unfold zlL;rw[show max (2:Int) (min (16:Int) (W ((W (x2+(1:Int)))+(Int.tmod a1 (8:Int)))))=(m:Int) from hm];rw[decide_eq_true (show (i:Int)<(m:Int) by omega),cond_true];simp only[zbI]
   have hsl:s.length<=100:=by
    rw[hs];exact Nat.le_trans (List.length_filter_le _ _) (by simp;omega)
   rw[f4_in h hm hN h0 h255 ht hsl];unfold zlK
   rw[zeK (by omega)])
  (λ s i hi hs=>by
   rw[hs,List.range_succ,List.filter_append]
   congr 1
   cases hb:oth M m t i <;> simp[hb])
  (λ n s=>by
   show zlL _ a1 a2 N (toI M) x2 x3 x4 k0 (toI s) (m:Int)=_;unfold zlL;rw[show max (2:Int) (min (16:Int) (W ((W (x2+(1:Int)))+(Int.tmod a1 (8:Int)))))=(m:Int) from hm]
   rw[decide_eq_false (show ¬ (m:Int)<(m:Int) by omega),cond_false]) (n:=N) (s:=[]) (by omega) rfl
 have e:toI ([]:List Nat)=[]:=rfl;rw[<- e,hh.1,hh.2];rfl
theorem zrc (h:Rule M m)(hm:Sz x2 a1=(m:Int))(hN:200<=N)(ht:t<m)(hz:0∈M)(h3:f14 N (toI M) (m:Int)=some x3)(h4:f15 N (toI M) (m:Int)=some x4):zfJ a1 N x2 x3 x4 (toI (Oth M m t))=some true:=by
 have h2:=h.m2;have h16:=h.m16;have hO:=zoM h ht
 have e4:x4=strC (bord M m):=by
  have:=znx (M:=M) (m:=m) (N:=N) (by have:=h.few;omega) (by omega) hN;rw[h4] at this;exact Option.some.inj this
 subst e4;obtain⟨r3,hr3,c1,c2⟩:=znz h (N:=N) (by omega);rw[h3] at hr3
 cases hr3
 obtain⟨r6,h6,d1,d2⟩:=znz hO (N:=N) (by omega);have ok1:=znB (M:=M) h2 h16;have ok2:=znB (M:=Oth M m t) h2 h16
 have hne:bord M m≠[]:=λ he=>by have:=congrArg List.length he;rw[zaP] at this;simp at this;omega
 obtain⟨q1,q2,q3,q4,_⟩:=zgu hne;rw[zaP] at q2 q3;have hroot:¬ zf4 M m->zcK (bord M m)=m:=zlO h hz;unfold zfJ;rw[show max (2:Int) (min (16:Int) (W ((W (x2+(1:Int)))+(Int.tmod a1 (8:Int)))))=(m:Int) from hm];rw[znx (by have:=hO.few;omega) (by omega) hN,zre,h6,zre,zq6 (by omega),zre,zpa (by omega),zre,zpa (by omega),zre,zq4 (by omega) (by rw[zaP];omega),zre]
 have hs:zoJ (bord M m) (bord (Oth M m t) m)=(true,0):=by
  unfold zoJ;rw[if_neg (by simp[ok1]),if_neg (by simp[ok2])];simp[zfN h ht]
 rw[hs,if_pos ok1,if_pos ok2,if_pos ok1,zqk.2 (zfN h ht)];simp only[not_true,decide_false,cond_false,Bool.not_true,zaP,zbf,List.length_take];have hmin:min (zcK (bord M m)) m=zcK (bord M m):=Nat.min_eq_left q2;rw[hmin];generalize zcK (bord M m)=r at *;have k1:1<=m / r:=Nat.div_pos q2 (by omega);have k2:m / r<=m:=Nat.div_le_self _ _
 have k3:m / r*r=m:=by have:=Nat.div_add_mod m r;rw[q3] at this;rw[Nat.mul_comm];omega
 have kk:((m / r:Nat):Int)*(r:Int)=(m:Int):=by exact_mod_cast k3
 have k4:¬ zf4 M m->m / r=1:=λ hc=>by rw[hroot hc];exact Nat.div_self (by omega)
 generalize m / r=q at *;rw[kk,W_of (by omega) (by omega)];have hf:∀ N,f13 N=some true:=λ N=>rfl;have f1:decide ((q:Int)<(1:Int))=false:=decide_eq_false (by omega);have f2:decide ((16:Int)<(q:Int))=false:=decide_eq_false (by omega);simp only[hf,f1,f2,cond_false,not_true,decide_false,zre];by_cases hc:zf4 M m
 .rw [c1 hc,d1 ((ziU h ht).2 hc)]
  rfl
 .rw [c2 hc,d2 (λ hh=>hc ((ziU h ht).1 hh)),k4 hc]
  rfl
end
theorem znE {a0:List Int}{a1 a2:Int}(ha:∀ x,x∈a0->0<=x)(hl:a0.length<=9223372036854775807)(h1:0<=a1)(h2:0<=a2)(h255:a2<=255):f4 (a0.length+200) a0 a1 a2=some true:=by
 obtain⟨r,hr,h8⟩:=zoN (last:=14) (by omega) (by omega) ha hl (N:=a0.length+200) (by omega);obtain⟨M,rfl,hasc,h14,hz,hM2,hM5⟩:=zra (List.all_eq_true.1 zqq r hr);generalize hN:a0.length+200=N at *
 have hN:200<=N:=by omega
 unfold f4;rw[h8,zre]
 have hlast:ix (toI M) (W (((toI M).length:Int)-1))=some ((M[M.length-1]:Nat):Int):=by
  rw[zay,W_of (by omega) (by omega),show (M.length:Int)-1=((M.length-1:Nat):Int) by omega,zeb (by omega)]
 have hmax:∀ x,x∈M->x<=M[M.length-1]:=by
  intro x hx;obtain⟨i,hi,rfl⟩:=List.getElem_of_mem hx;by_cases hi':i=M.length-1
  .subst hi';exact Nat.le_refl _
  .exact Nat.le_of_lt (List.pairwise_iff_getElem.1 hasc i (M.length-1) hi (by omega) (by omega))
 have hl14:=h14 _ (List.getElem_mem (show M.length-1<M.length by omega));rw[hlast,zre];generalize M[M.length-1]=last at *
 have hq:0<=Int.tmod a1 8/\Int.tmod a1 8<=7:=by rw[Int.tmod_eq_emod_of_nonneg h1];omega
 obtain⟨m,hm,hm1,hm2,hm3⟩:∃ m:Nat,Sz (last:Int) a1=(m:Int)/\2<=m/\m<=16/\last<m:=by
  unfold Sz;generalize Int.tmod a1 8=q at *;rw[W_of (n:=(last:Int)+1) (by omega) (by omega),W_of (by omega) (by omega)]
  refine⟨(max (2:Int) (min (16:Int) ((last:Int)+1+q))).toNat, ?_, ?_, ?_, ?_⟩ <;> omega
 have hR:Rule M m:=⟨hasc,hM2,by omega,λ x hx=>by have:=hmax x hx;omega,hm2⟩;rw[show max (2:Int) (min (16:Int) (W ((W ((last:Int)+(1:Int)))+(Int.tmod a1 (8:Int)))))=(m:Int) from hm];obtain⟨x3,h3,_⟩:=znz hR (N:=N) (by omega);have h15:=znx (M:=M) (m:=m) (N:=N) (by omega) (by omega) hN;rw[h3,zre,h15,zre];simp only[zbI];rw[zrb hR hm hN h2 h255 rfl];exact zrc hR hm hN (Nat.mod_lt _ (by omega)) hz h3 h15
end Go.Vc
namespace Go.Vc
abbrev tB:Ty := .int .u8
abbrev zpc:Ty := .slice tB false 1
def u8In (n:Int):Prop:=0<=n/\n<=255
theorem zrd {ds:List D}(h:tB.has ds):∃ n,ds=[u8N n]/\u8In n:=by
 simp only[tB,Ty.has] at h;obtain⟨n,rfl,h⟩:=h;exact⟨n,rfl,by simpa [IntKind.min,IntKind.max,IntKind.signed,IntKind.bits,u8In] using h⟩
theorem zpd {x:D}(h:tB.hasD x):∃ n,x=u8N n/\u8In n:=by
 obtain⟨n,h1,h2⟩:=zrd (ds:=[x]) h;exact⟨n,List.singleton_inj.1 h1,h2⟩
theorem znF {x:D}(h:zpc.hasD x):∃ l:List Int,x=zfF l/\(l.length<=9223372036854775807/\∀ x,x∈l->0<=x):=by
 obtain⟨l,h1,h2,h3⟩:=zoo (d:=u8N) (p:=u8In) (ds:=[x]) (λ cs hc=>by
  obtain⟨n,rfl,h⟩:=zrd hc
  exact⟨n,rfl,h⟩) h
 exact⟨l,List.singleton_inj.1 h1,h2,λ x hx=>(h3 x hx).1⟩
end Go.Vc
namespace Go.Vc
open Go.Proofs
theorem lx_of {l:List (String×DataW Unit)} (h1:(l.filter λ x=>x.1 == "tusche/mark.count")=[("tusche/mark.count", .slice (zkf.map λ z=>.lit (.int .i64 z)) [])]) {w:World} (h:laidMetH Tryz.prog l w.memory):LX Tryz.prog w:=by
 have h2:=laidMetH.filter (λ x=>x.1 == "tusche/mark.count") h
 rw[h1,MakeChecks.laidMetH_plain _ _ _ (by rfl)] at h2;exact LX.heap (w:=w.memory) (Cv.laid_row (P:=Tryz.prog) (g:=0) (t:=23) (e:=3) (by kernel_rfl) (by kernel_rfl) (by kernel_rfl) (by kernel_rfl) (by kernel_rfl) (by decide) h2) rfl
end Go.Vc

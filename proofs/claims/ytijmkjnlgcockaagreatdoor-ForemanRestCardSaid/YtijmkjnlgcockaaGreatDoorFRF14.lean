/-
  A library for proofs about Go functions by symbolic evaluation,and plain Lean functions that the walked Go functions compute (written by a program of this claim).
-/
import Derived.Test.YtijmkjnlgcockaaGreatDoorFRF11
import Derived.Test.YtijmkjnlgcockaaGreatDoorFRF13
import Derived.Test.YtijmkjnlgcockaaGreatDoorFRF5
import Derived.Test.YtijmkjnlgcockaaGreatDoorVc4
import Derived.Test.YtijmkjnlgcockaaGreatDoorFRF1
import Derived.Test.YtijmkjnlgcockaaGreatDoorFRF7
import Derived.Test.YtijmkjnlgcockaaGreatDoorVc3
import Derived.Test.YtijmkjnlgcockaaGreatDoorProg
import Derived.LaidSub
import Derived.MakeChecks
set_option linter.unusedVariables false
set_option linter.unnecessarySimpa false
set_option linter.unusedSimpArgs false
namespace Go.Vc
open Go.Proofs
theorem zm5 {c:Bk}(hc:BkOK c){y:ByteArray}{o:I97}(hr:f79 398 y=some (o,0))(ho:zdp o)(hw:zay c.S c.E c.C o=0)(hl:c.L.length<120){N:Nat}(hN:N=400) :
  f18 N y c.L c.S c.E c.C=some (0,(doM c.S c.E c.C o).1,(doM c.S c.E c.C o).2.1,(doM c.S c.E c.C o).2.2,c.L++[y])/\BkOK ⟨c.L++[y],(doM c.S c.E c.C o).1,(doM c.S c.E c.C o).2.1,(doM c.S c.E c.C o).2.2⟩:=by
 have he:errM c (o,0)=0:=by
  unfold errM;dsimp only;rw[if_pos rfl,if_pos hw,if_neg (by omega)]
 have hg:goM c y (o,0)=⟨c.L++[y],(doM c.S c.E c.C o).1,(doM c.S c.E c.C o).2.1,(doM c.S c.E c.C o).2.2⟩:=by
  unfold goM;rw[if_pos he]
 have h1:=zq9 (M:=397) hc (by omega) hr λ _=>ho;rw[he,hg] at h1;have h2:=zw8 hc (y:=y) (r:=(o,0)) λ _=>ho;rw[hg] at h2;subst hN;exact⟨h1,h2⟩
theorem zo5 {N:Nat}(hN:N=400)(k i:Nat):f61 399 (nm0 k i)=some true:=by
 unfold nm0
 split <;> kernel_rfl
structure EdS (d e:EditionM):Prop where
 pp:e.paper=d.paper
 dl:e.delivered=d.delivered
 sp:e.spoilt=d.spoilt
 fr:e.from_=d.from_
 cl:e.closed=d.closed
 ow:e.owed=d.owed
 op:e.open_=d.open_
 ln:e.places.length=d.places.length
 sm:sumI e.places=sumI d.places
 rs:e.rest e.from_=d.rest d.from_
theorem EdS.refl (d:EditionM):EdS d d:=⟨rfl,rfl,rfl,rfl,rfl,rfl,rfl,rfl,rfl,rfl⟩
theorem EdS.trans {a b c:EditionM}(h:EdS a b)(g:EdS b c):EdS a c:=⟨g.pp.trans h.pp,g.dl.trans h.dl,g.sp.trans h.sp,g.fr.trans h.fr,g.cl.trans h.cl,g.ow.trans h.ow,g.op.trans h.op,g.ln.trans h.ln,g.sm.trans h.sm,g.rs.trans h.rs⟩
structure Cx (b c:Bk)(Q:Nat->Prop):Prop where
 ok:BkOK c
 S:c.S=b.S
 ky:c.E.map (·.1)=b.E.map (·.1)
 ot:∀ i,Q i->getF c.E i=getF b.E i
theorem zrE (a n:Nat):(((strC [112,114,105,110,116,32]++nm0 0 a)++strC [32])++num n)++strC [32,48]=txt nm0 (.print a n 0):=by
 have:strC [32,48]=sp++num 0:=by kernel_rfl
 simp only[txt,this,sp,ByteArray.append_assoc]
theorem zb6 {a b:ByteArray}(h:a.size+b.size<=100000):addS a b=some (a++b):=by
 unfold addS;rw[if_pos];simp only[maxLen];omega
theorem zts:((List.range 301).all λ n=>decide ((num n).size<=10))=true:=by kernel_rfl
theorem zl0 {n:Nat}(h:n<=300):(num n).size<=10:=of_decide_eq_true (List.all_eq_true.1 zts n (List.mem_range.2 (by omega)))
theorem zke (k i:Nat):(nm0 k i).size<=10:=by
 unfold nm0
 split <;> decide
section
variable {b:Bk} {R:TR} {H:TH} {j:Nat} {r:RunM} {N:Nat} {x4:TL} {v42:Int} {x9:Tally×Int} {k4:TL->TS->TE->TC->Option Bool}
variable {ed:Nat} {Q:Nat->Prop}
theorem zi0 {E:TE}{k:ByteArray}{e:EditionM}(h:zan k E=some j)(he:getF E j=some e):edO E k=some e:=by
 unfold edO;rw[h];exact he
theorem zn3 {n:Nat}{e:EditionM}(h:EdOK n e){i:Nat}{x:Int}(hx:e.places[i]? = some x):0<=x/\x<=e.paper:=by
 have h1:=h.nn x (List.mem_of_getElem? hx);have h2:=zm0 h.nn hx;have h3:=h.sm;have h4:=h.dl;have h5:=h.sp;omega
theorem zua (hN:N=400)(hb:RelR b.S b.E R H)(hr:getF R j=some r)(hj:zan (nm0 1 ed) b.E=some j)(hlen:r.stones.length<=200)(hQ:¬ Q j) :
  ∀ (q i m:Nat) (c:Bk) (e:EditionM),i+q=r.stones.length->q<m->Cx b c Q->getF c.E j=some e->e.from_=r.ground->e.places.length=r.stones.length+1->e.paper<=290->c.L.length+q<119 ->
   (∀ t:Nat,r.ground<=(t:Int)->t<i->e.places[t]? = some 0) ->
   ∃ c' e',Cx b c' Q/\getF c'.E j=some e'/\EdS e e'/\c'.L.length<=c.L.length+q/\(∀ t:Nat,r.ground<=(t:Int)->t<r.stones.length->e'.places[t]? = some 0) /\
    zdz N R H x4 v42 (nm0 1 ed) j r x9 k4 m (i:Int) c.L c.S c.E c.C=k4 c'.L c'.S c'.E c'.C
 | 0,i,m,c,e,h1,h2,hc,he,hf,hl,hp,hL,hz=>by
  obtain⟨m,rfl⟩:∃ x,m=x+1:=⟨m-1,by omega⟩;refine⟨c,e,hc,he,EdS.refl e,by omega,λ t g1 g2=>hz t g1 (by omega), ?_⟩;unfold zdz zj2;exact zaR (by omega) rfl
 | q+1,i,m,c,e,h1,h2,hc,he,hf,hl,hp,hL,hz=>by
  obtain⟨m,rfl⟩:∃ x,m=x+1:=⟨m-1,by omega⟩
  have hil:i<r.stones.length:=by omega
  have hjc:zan (nm0 1 ed) c.E=some j:=by rw[zbY hc.ky];exact hj
  have hed:=zi0 hjc he;have heo:=hc.ok.sh.edOK he;have hst:r.stones[i]? = some r.stones[i]:=List.getElem?_eq_getElem hil;have hpl:e.places[i]? = some (e.at_ i):=zgD (by omega);have hpb:=zn3 heo hpl
  have hsh:f33 N (nm0 1 ed) c.L c.S c.E c.C=some (e.places,0):=by
   have:=zt6 (M:=399) hc.ok (zo5 rfl 1 ed);rw[hN,this];simp only[zfW,hed]
  have hw:W ((List.length r.stones:Int)+1)=((r.stones.length+1:Nat):Int):=W1 (by omega);have hwi:W ((i:Int)+1)=((i+1:Nat):Int):=W1 (by omega)
  have next:∀ (c1:Bk) (e1:EditionM),Cx b c1 Q->getF c1.E j=some e1->EdS e e1->c1.L.length<=c.L.length+1->(∀ t:Nat,r.ground<=(t:Int)->t<i+1->e1.places[t]? = some 0) ->
    ∃ c' e',Cx b c' Q/\getF c'.E j=some e'/\EdS e e'/\c'.L.length<=c.L.length+(q+1)/\(∀ t:Nat,r.ground<=(t:Int)->t<r.stones.length->e'.places[t]? = some 0) /\
     zdz N R H x4 v42 (nm0 1 ed) j r x9 k4 m ((i+1:Nat):Int) c1.L c1.S c1.E c1.C=k4 c'.L c'.S c'.E c'.C:=by
   intro c1 e1 g1 g2 g3 g4 g5;obtain⟨c',e',a1,a2,a3,a4,a5,a6⟩:=zua hN hb hr hj hlen hQ q (i+1) m c1 e1 (by omega) (by omega) g1 g2 (by rw[g3.fr];exact hf) (by rw[g3.ln];exact hl) (by rw[g3.pp];exact hp) (by omega) g5;exact⟨c',e',a1,a2,g3.trans a3,by omega,a5,a6⟩
  have head:∀ X,(bif decide (r.ground<=(i:Int)) then ((ix e.places (i:Int)).bind λ x30 =>
    bif decide ((0:Int)<x30) then ((some (zal (A2strN.mk zaq zaq) r.stones[i] H)).bind λ x31 =>
    bif decide (x31.1.e1=nm0 1 ed) then (bif decide ((1000:Int)<x30) then ((some ()).bind λ _=>some (false))
    else ((addS (strC [112,114,105,110,116,32]) r.stones[i]).bind λ x32 =>
    (addS x32 (strC [32])).bind λ x33=>(f30 N x30).bind λ x34=>(addS x33 x34).bind λ x35=>(addS x35 (strC [32,48])).bind λ x36=>(f18 N x36 c.L c.S c.E c.C).bind λ x37 =>
    bif decide (¬ x37.1=(0:Int)) then ((some ()).bind λ _=>some (false))
    else (zdz N R H x4 v42 (nm0 1 ed) j r x9 k4 m (W ((i:Int)+(1:Int))) x37.2.2.2.2 x37.2.1 x37.2.2.1 x37.2.2.2.1)))
    else (zdz N R H x4 v42 (nm0 1 ed) j r x9 k4 m (W ((i:Int)+(1:Int))) c.L c.S c.E c.C))
    else (zdz N R H x4 v42 (nm0 1 ed) j r x9 k4 m (W ((i:Int)+(1:Int))) c.L c.S c.E c.C))
    else (zdz N R H x4 v42 (nm0 1 ed) j r x9 k4 m (W ((i:Int)+(1:Int))) c.L c.S c.E c.C))=X ->
    zdz N R H x4 v42 (nm0 1 ed) j r x9 k4 (m+1) (i:Int) c.L c.S c.E c.C=X:=by
   intro X hX;unfold zdz zj2;refine zbI (by omega) (zac (zej hst) (zac hsh (zaR (by simp) (zaR ?_ hX))));rw[hw,hl];simp
  by_cases hg:r.ground<=(i:Int)
  .by_cases h0:0<e.at_ i
   .-- printed
    obtain⟨a,ha,hof,hpla⟩:=hb.bk j r i _ hr hg hst;obtain⟨an,han,hk⟩:=hb.sk _ a ha
    have hq:e.at_ i=((e.at_ i).toNat:Int):=by omega
    have hqn:(e.at_ i).toNat<=300:=by omega
    rw[hk] at ha
    have hlk:zal (A2strN.mk zaq zaq) (nm0 0 an) H=(zfi b.E a,true):=by have:=hb.st (nm0 0 an);rw[ha] at this;exact this
    have hac:stO c.S (nm0 0 an)=some a:=by rw[hc.S];exact ha
    have hw1:zay c.S c.E c.C (ord nm0 (.print an (e.at_ i).toNat 0))=0:=by
     simp only[ord,zay,hac,hof,he,hpla,<- hq];rw[if_neg (by simp;omega),if_neg (by simp)]
    obtain⟨d1,d2⟩:=zm5 hc.ok (rdP han hqn) (show zdp (ord nm0 (.print an (e.at_ i).toNat 0)) by simp only[ord,zdp];omega) hw1 (by omega) hN
    have hE:(doM c.S c.E c.C (ord nm0 (.print an (e.at_ i).toNat 0))).2.1=modF c.E j λ d=>{ d with places:=(d.places.set i (d.at_ i-(((e.at_ (i:Int)).toNat:Int)+((0:Nat):Int)))).set (i+1) (d.at_ ((i:Int)+1)+((e.at_ (i:Int)).toNat:Int)),spoilt:=d.spoilt+((0:Nat):Int) }:=by
     simp only[ord,doM,hac,hof,hpla,Int.toNat_natCast]
    have hSd:(doM c.S c.E c.C (ord nm0 (.print an (e.at_ i).toNat 0))).1=c.S:=by simp only[ord,doM,hac,hof]
    have g2:(e.places.set i (e.at_ i-(((e.at_ (i:Int)).toNat:Int)+((0:Nat):Int))))[i+1]? = some (e.at_ ((i:Int)+1)):=by
     have g3:=zgD (e:=e) (k:=i+1) (by omega);rw[show ((i+1:Nat):Int)=(i:Int)+1 by omega] at g3;rw[List.getElem?_set,if_neg (by omega)];exact g3
    have hs:EdS e { e with places:=(e.places.set i (e.at_ i-(((e.at_ (i:Int)).toNat:Int)+((0:Nat):Int)))).set (i+1) (e.at_ ((i:Int)+1)+((e.at_ (i:Int)).toNat:Int)),spoilt:=e.spoilt+((0:Nat):Int) }:=by
     refine⟨rfl,rfl, ?_,rfl,rfl,rfl,rfl,by simp, ?_, ?_⟩
     .show e.spoilt+((0:Nat):Int)=e.spoilt;omega
     .show sumI ((e.places.set i _).set (i+1) _)=_
      rw[zee g2,zee hpl];omega
     .show sumI (((e.places.set i _).set (i+1) _).drop e.from_.toNat)=sumI (e.places.drop e.from_.toNat)
      rw[zbW g2,zbW hpl,if_pos (by omega),if_pos (by omega)];omega
    obtain⟨c',e',a1,a2,a3,a4,a5,a6⟩:=next _ _ (⟨d2,by show (doM c.S c.E c.C _).1=b.S;rw[hSd];exact hc.S,by show (doM c.S c.E c.C _).2.1.map (·.1)=_;rw[hE,zbl];exact hc.ky,λ i' hi' => by
      show getF (doM c.S c.E c.C _).2.1 i'=_
      rw[hE,zbc,if_neg (λ h:j=i' => hQ (by rw[h];exact hi'))];exact hc.ot i' hi'⟩) (by show getF (doM c.S c.E c.C _).2.1 j=_;rw[hE,zbc,if_pos rfl,he];rfl) hs (by simp) λ t g1 g3=>by
     show ((e.places.set i _).set (i+1) _)[t]? = some 0;rw[List.getElem?_set,if_neg (by omega),List.getElem?_set];by_cases ht:i=t
     .rw [if_pos ht,if_pos (by omega)];congr 1;omega
     .rw [if_neg ht];exact hz t g1 (by omega)
    refine⟨c',e',a1,a2,a3,a4,a5,head _ (zbI hg (zac (zej hpl) (zbI h0 ?_)))⟩;rw[hk];have z1:=zke 0 an;have z2:=zl0 hqn;have z3:(strC [112,114,105,110,116,32]).size=6:=rfl;have z4:(strC [32]).size=1:=rfl;have z5:(strC [32,48]).size=2:=rfl;refine zac (congrArg some hlk) (zbI ?_ (zaR (by omega) (zac (zb6 (by omega)) (zac (zb6 (by simp only[ByteArray.size_append];omega)) (zac (x:=num (e.at_ i).toNat) ?_ (zac (zb6 (by simp only[ByteArray.size_append];omega)) (zac (zb6 (by simp only[ByteArray.size_append];omega)) ?_)))))))
    .show onN b.E a.of=nm0 1 ed
     rw[hof];exact zkd hj
    .rw [hq];exact zvo hN hqn
    .rw [zrE]
     refine zac d1 (zaR (by simp) ?_);rw[hwi];exact a6
   .have hz0:e.places[i]? = some 0:=by rw[hpl];congr 1;omega
    obtain⟨c',e',a1,a2,a3,a4,a5,a6⟩:=next c e hc he (EdS.refl e) (by omega) λ t g1 g2=>by
     by_cases ht:t<i
     .exact hz t g1 ht
     .have:t=i:=by omega
      subst this;exact hz0
    refine⟨c',e',a1,a2,a3,a4,a5,head _ (zbI hg (zac (zej hpl) (zaR (by omega) ?_)))⟩;rw[hwi];exact a6
  .obtain ⟨c',e',a1,a2,a3,a4,a5,a6⟩:=next c e hc he (EdS.refl e) (by omega) λ t g1 g2=>by
    by_cases ht:t<i
    .exact hz t g1 ht
    .have:t=i:=by omega
     subst this;exact absurd g1 hg
   refine⟨c',e',a1,a2,a3,a4,a5,head _ (zaR hg ?_)⟩;rw[hwi];exact a6
end
end Go.Vc
namespace Go.Vc
open Go.Proofs
def sc (f:Nat->Int):Nat->Nat->Int
 | _,0=>0
 | i,q+1=>f i+sc f (i+1) q
theorem zxg {f:Nat->Int}(h:∀ i,0<=f i):∀ q i,0<=sc f i q
 | 0,i=>by simp[sc]
 | q+1,i=>by have:=zxg h q (i+1);have:=h i;simp only[sc];omega
def cus:TL:=[nm0 2 0,nm0 2 1,nm0 2 2]
theorem zrF {i:Nat}(h:i<3):cus[i]? = some (nm0 2 i):=by
 match i,h with
 | 0,_=>rfl
 | 1,_=>rfl
 | 2,_=>rfl
theorem zrG:((List.range 3).all λ i=>(List.range 3).all λ k=>decide (i=k) || decide (nm0 2 i≠nm0 2 k))=true:=by kernel_rfl
theorem zl1 {i k:Nat}(hi:i<3)(hk:k<3)(h:i≠k):nm0 2 i≠nm0 2 k:=by
 have h1:=List.all_eq_true.1 (List.all_eq_true.1 zrG i (List.mem_range.2 hi)) k (List.mem_range.2 hk);simp only[decide_eq_false h,Bool.false_or] at h1;exact of_decide_eq_true h1
theorem zn4 {k:ByteArray}:∀ {l:List (ByteArray×Int)},(zal 0 k l).1≠0->(zal 0 k l).2=true
 | [],h=>by simp[zal] at h
 | p::l,h=>by
  simp only[zal] at h ⊢
  split
  .rfl
  .rename_i hp;rw[if_neg hp] at h;exact zn4 h
theorem zl2 {k:ByteArray}:∀ {l:List (ByteArray×Int)},(zal 0 k l).2≠true->(zal 0 k l).1=0
 | [],h=>rfl
 | p::l,h=>by
  simp only[zal] at h ⊢
  split
  .rename_i hp;rw[if_pos hp] at h;exact absurd rfl h
  .rename_i hp;rw[if_neg hp] at h;exact zl2 h
theorem zm6 (c e n:Nat):((((strC [100,101,108,105,118,101,114,32]++nm0 2 c)++strC [32])++nm0 1 e)++strC [32])++num n=txt nm0 (.deliver c e n):=by
 simp only[txt,sp]
section
variable {b:Bk} {R:TR} {H:TH} {j:Nat} {r:RunM} {N:Nat} {x4:TL} {v42:Int} {x11:Tally×Int} {k3:TL->TS->TE->TC->Option Bool}
variable {ed:Nat} {Q:Nat->Prop}
theorem zub (hN:N=400)(hed:ed<2)(hj:zan (nm0 1 ed) b.E=some j)(hQ:¬ Q j)(hcl:∀ t,0<=(zal 0 (nm0 2 t) r.claims).1) :
  ∀ (q i m:Nat) (c:Bk) (e:EditionM) (rem:Int),i+q=3->q<m->Cx b c Q->getF c.E j=some e->e.closed=true->e.last=rem->e.paper<=290->c.L.length+q<119 ->
   (∀ t,i<=t->t<3->zal 0 (nm0 2 t) e.owed=zal 0 (nm0 2 t) r.claims) ->
   ∃ c' e',Cx b c' Q/\getF c'.E j=some e'/\c'.L.length<=c.L.length+q /\
    (sc (λ t=>(zal 0 (nm0 2 t) r.claims).1) i q<=rem->(∀ t,t<i->(zal 0 (nm0 2 t) e.owed).1=0)->∀ t,t<3->(zal 0 (nm0 2 t) e'.owed).1=0) /\
    zdS N R H x4 v42 (nm0 1 ed) j r x11 k3 cus m (i:Int) c.L rem c.S c.E c.C=k3 c'.L c'.S c'.E c'.C
 | 0,i,m,c,e,rem,h1,h2,hc,he,hcd,hla,hp,hL,hz=>by
  obtain⟨m,rfl⟩:∃ x,m=x+1:=⟨m-1,by omega⟩;refine⟨c,e,hc,he,by omega,λ _ g t ht=>g t (by omega), ?_⟩;unfold zdS zj0;exact zaR (by simp[cus];omega) rfl
 | q+1,i,m,c,e,rem,h1,h2,hc,he,hcd,hla,hp,hL,hz=>by
  obtain⟨m,rfl⟩:∃ x,m=x+1:=⟨m-1,by omega⟩
  have hjc:zan (nm0 1 ed) c.E=some j:=by rw[zbY hc.ky];exact hj
  have hed':=zi0 hjc he;have heo:=hc.ok.sh.edOK he;have hne:=heo.ne;have hwi:W ((i:Int)+1)=((i+1:Nat):Int):=W1 (by omega);have hzi:=hz i (Nat.le_refl _) (by omega)
  have hlg:e.places[e.places.length-1]? = some e.last:=by
   unfold EditionM.last;rw[List.getElem?_eq_getElem (by omega)];rfl
  have hlb:=zn3 heo hlg
  have next:∀ (c1:Bk) (e1:EditionM) (rem1:Int),Cx b c1 Q->getF c1.E j=some e1->e1.closed=true->e1.last=rem1->e1.paper<=290->c1.L.length<=c.L.length+1->(∀ t,i+1<=t->t<3->zal 0 (nm0 2 t) e1.owed=zal 0 (nm0 2 t) r.claims) ->
    (sc (λ t=>(zal 0 (nm0 2 t) r.claims).1) i (q+1)<=rem->(∀ t,t<i->(zal 0 (nm0 2 t) e.owed).1=0)->sc (λ t=>(zal 0 (nm0 2 t) r.claims).1) (i+1) q<=rem1/\∀ t,t<i+1->(zal 0 (nm0 2 t) e1.owed).1=0) ->
    ∃ c' e',Cx b c' Q/\getF c'.E j=some e'/\c'.L.length<=c.L.length+(q+1) /\
     (sc (λ t=>(zal 0 (nm0 2 t) r.claims).1) i (q+1)<=rem->(∀ t,t<i->(zal 0 (nm0 2 t) e.owed).1=0)->∀ t,t<3->(zal 0 (nm0 2 t) e'.owed).1=0) /\
     zdS N R H x4 v42 (nm0 1 ed) j r x11 k3 cus m ((i+1:Nat):Int) c1.L rem1 c1.S c1.E c1.C=k3 c'.L c'.S c'.E c'.C:=by
   intro c1 e1 rem1 g1 g2 g3 g4 g5 g6 g7 g8;obtain⟨c',e',a1,a2,a3,a4,a5⟩:=zub hN hed hj hQ hcl q (i+1) m c1 e1 rem1 (by omega) (by omega) g1 g2 g3 g4 g5 (by omega) g7;exact⟨c',e',a1,a2,by omega,λ u1 u2=>a4 (g8 u1 u2).1 (g8 u1 u2).2,a5⟩
  have head:∀ X,(bif decide ((0:Int)<(zal (0:Int) (nm0 2 i) r.claims).1) then (bif decide ((zal (0:Int) (nm0 2 i) r.claims).1<=rem) then ((addS (strC [100,101,108,105,118,101,114,32]) (nm0 2 i)).bind λ x21 =>
    (addS x21 (strC [32])).bind λ x22=>(addS x22 (nm0 1 ed)).bind λ x23=>(addS x23 (strC [32])).bind λ x24=>(f30 N (zal (0:Int) (nm0 2 i) r.claims).1).bind λ x25=>(addS x24 x25).bind λ x26 =>
    (f18 N x26 c.L c.S c.E c.C).bind λ x27=>bif decide (¬ x27.1=(0:Int)) then (some (false))
    else (zdS N R H x4 v42 (nm0 1 ed) j r x11 k3 cus m (W ((i:Int)+(1:Int))) x27.2.2.2.2 (W (rem-(zal (0:Int) (nm0 2 i) r.claims).1)) x27.2.1 x27.2.2.1 x27.2.2.2.1))
    else (zdS N R H x4 v42 (nm0 1 ed) j r x11 k3 cus m (W ((i:Int)+(1:Int))) c.L rem c.S c.E c.C))
    else (zdS N R H x4 v42 (nm0 1 ed) j r x11 k3 cus m (W ((i:Int)+(1:Int))) c.L rem c.S c.E c.C))=X ->
    zdS N R H x4 v42 (nm0 1 ed) j r x11 k3 cus (m+1) (i:Int) c.L rem c.S c.E c.C=X:=by
   intro X hX;unfold zdS zj0;exact zbI (by simp[cus];omega) (zac (zej (zrF (by omega))) (zac rfl (zac rfl hX)))
  have hv:=hcl i;have hsn:=zxg hcl q (i+1);by_cases h0:0<(zal (0:Int) (nm0 2 i) r.claims).1
  .by_cases hle:(zal (0:Int) (nm0 2 i) r.claims).1<=rem
   .-- delivered
    have hvq:(zal (0:Int) (nm0 2 i) r.claims).1=(((zal (0:Int) (nm0 2 i) r.claims).1).toNat:Int):=by omega
    generalize hgn:((zal (0:Int) (nm0 2 i) r.claims).1).toNat=n at hvq
    have hn1:1<=n:=by omega
    have hn2:n<=300:=by omega
    have hhas:(zal (0:Int) (nm0 2 i) e.owed).2=true:=zn4 (by rw[hzi];omega)
    have hhas2:(zal (0:Int) (nm0 2 i) r.claims).2=true:=by rw[<- hzi];exact hhas
    have hw1:zay c.S c.E c.C (ord nm0 (.deliver i ed n))=0:=by
     simp only[ord,zay,hed',hcd,hzi,hhas2,hvq];rw[if_neg (by simp),if_neg (by simp),if_neg (by omega),if_neg (by omega)]
    obtain⟨d1,d2⟩:=zm5 hc.ok (rdD (c:=i) (by omega) hed hn1 hn2) (show zdp (ord nm0 (.deliver i ed n)) by simp only[ord,zdp];omega) hw1 (by omega) hN
    have hE:(doM c.S c.E c.C (ord nm0 (.deliver i ed n))).2.1=modF c.E j λ e=>{ e with owed:=setK (nm0 2 i) ((zal 0 (nm0 2 i) e.owed).1-(n:Int)) e.owed,open_:=e.open_-(n:Int),delivered:=e.delivered+(n:Int),places:=e.places.set (e.places.length-1) (e.last-(n:Int)) }:=by
     simp only[ord,doM,hjc]
    have hSd:(doM c.S c.E c.C (ord nm0 (.deliver i ed n))).1=c.S:=by simp only[ord,doM,hjc]
    have hlast:({ e with owed:=setK (nm0 2 i) ((zal 0 (nm0 2 i) e.owed).1-(n:Int)) e.owed,open_:=e.open_-(n:Int),delivered:=e.delivered+(n:Int),places:=e.places.set (e.places.length-1) (e.last-(n:Int)) }:EditionM).last=rem-n:=by
     show ((e.places.set (e.places.length-1) (e.last-(n:Int)))[(e.places.set (e.places.length-1) (e.last-(n:Int))).length-1]?).getD 0=_;rw[List.length_set,List.getElem?_set,if_pos rfl,if_pos (by omega),hla];rfl
    obtain⟨c',e',a1,a2,a3,a4,a5⟩:=next _ { e with owed:=setK (nm0 2 i) ((zal 0 (nm0 2 i) e.owed).1-(n:Int)) e.owed,open_:=e.open_-(n:Int),delivered:=e.delivered+(n:Int),places:=e.places.set (e.places.length-1) (e.last-(n:Int)) } (rem-n) (⟨d2,by show (doM c.S c.E c.C _).1=b.S;rw[hSd];exact hc.S,by show (doM c.S c.E c.C _).2.1.map (·.1)=_;rw[hE,zbl];exact hc.ky,λ i' hi' => by
      show getF (doM c.S c.E c.C _).2.1 i'=_
      rw[hE,zbc,if_neg (λ h:j=i' => hQ (by rw[h];exact hi'))];exact hc.ot i' hi'⟩) (by show getF (doM c.S c.E c.C _).2.1 j=_;rw[hE,zbc,if_pos rfl,he];rfl) hcd hlast hp (by simp)
     (λ t g1 g2=>by
      show zal 0 (nm0 2 t) (setK (nm0 2 i) _ e.owed)=_
      rw[zc3,if_neg (zl1 (by omega) g2 (by omega))];exact hz t (by omega) g2)
     (λ u1 u2=>by
      simp only[sc] at u1;refine⟨by omega,λ t ht=>?_⟩;show (zal 0 (nm0 2 t) (setK (nm0 2 i) _ e.owed)).1=0;rw[zc3];by_cases hti:i=t
      .subst hti;rw[if_pos rfl,hzi];show (zal (0:Int) (nm0 2 i) r.claims).1-(n:Int)=0;omega
      .rw [if_neg (zl1 (by omega) (by omega) hti)];exact u2 t (by omega))
    refine⟨c',e',a1,a2,a3,a4,head _ (zbI h0 (zbI hle ?_))⟩;have z1:=zke 2 i;have z2:=zke 1 ed;have z6:=zl0 hn2;have z3:(strC [100,101,108,105,118,101,114,32]).size=8:=rfl;have z4:(strC [32]).size=1:=rfl;refine zac (zb6 (by omega)) (zac (zb6 (by simp only[ByteArray.size_append];omega)) (zac (zb6 (by simp only[ByteArray.size_append];omega)) (zac (zb6 (by simp only[ByteArray.size_append];omega)) (zac (x:=num n) ?_ (zac (zb6 (by simp only[ByteArray.size_append];omega)) ?_)))))
    .rw [hvq];exact zvo hN hn2
    .rw [zm6]
     refine zac d1 (zaR (by simp) ?_);rw[hwi,hvq,show W (rem-(n:Int))=rem-n from zaU (by omega) (by omega)];exact a5
   .obtain ⟨c',e',a1,a2,a3,a4,a5⟩:=next c e rem hc he hcd hla hp (by omega) (λ t g1 g2=>hz t (by omega) g2) (λ u1 u2=>by simp only[sc] at u1;omega)
    refine⟨c',e',a1,a2,a3,a4,head _ (zbI h0 (zaR hle ?_))⟩;rw[hwi];exact a5
  .obtain ⟨c',e',a1,a2,a3,a4,a5⟩:=next c e rem hc he hcd hla hp (by omega) (λ t g1 g2=>hz t (by omega) g2) (λ u1 u2=>by
    simp only[sc] at u1;refine⟨by omega,λ t ht=>?_⟩;by_cases hti:t=i
    .subst hti;rw[hzi];omega
    .exact u2 t (by omega))
   refine⟨c',e',a1,a2,a3,a4,head _ (zaR h0 ?_)⟩;rw[hwi];exact a5
theorem zuc {k2:Int->Option Bool}{x6:Nat}(hN:N=400){c:Bk}{e:EditionM}(hc:BkOK c)(hjc:zan (nm0 1 ed) c.E=some j)(he:getF c.E j=some e) :
  ∀ (q i m:Nat) (acc:Int),i+q=3->q<m->0<=acc->acc<=5000*i->zgz N R H x4 v42 (nm0 1 ed) x6 c.L c.S c.E c.C k2 cus m acc (i:Int)=k2 (acc+sc (λ t=>(zal 0 (nm0 2 t) e.owed).1) i q)
 | 0,i,m,acc,h1,h2,h3,h4=>by
  obtain⟨m,rfl⟩:∃ x,m=x+1:=⟨m-1,by omega⟩;unfold zgz zjY;refine zaR (by simp[cus];omega) ?_;simp[sc]
 | q+1,i,m,acc,h1,h2,h3,h4=>by
  obtain⟨m,rfl⟩:∃ x,m=x+1:=⟨m-1,by omega⟩;have hwi:W ((i:Int)+1)=((i+1:Nat):Int):=W1 (by omega);have hb:=(hc.sh.edOK he).owe (nm0 2 i)
  have hO:f36 N (nm0 2 i) (nm0 1 ed) c.L c.S c.E c.C=some (zh3 c (nm0 2 i) (nm0 1 ed)):=by
   rw[hN];exact zxb (M:=399) hc (zo5 rfl 2 i) (zo5 rfl 1 ed)
  have hv:(zh3 c (nm0 2 i) (nm0 1 ed)).1=(zal 0 (nm0 2 i) e.owed).1:=by
   unfold zh3;rw[zi0 hjc he];dsimp only
   split
   .rfl
   .rename_i hx;exact(zl2 hx).symm
  unfold zgz zjY;refine zbI (by simp[cus];omega) (zac (zej (zrF (by omega))) (zac hO ?_));rw[hv,hwi,show W (acc+(zal (0:Int) (nm0 2 i) e.owed).1)=acc+(zal 0 (nm0 2 i) e.owed).1 from zaU (by omega) (by omega)];rw[zuc hN hc hjc he q (i+1) m _ (by omega) (by omega) (by omega) (by omega)];simp only[sc]
  congr 1;omega
end
end Go.Vc
namespace Go.Vc
open Go.Proofs
theorem zeh:∀ {l:List Int} {f:Nat},(∀ t,f<=t->t+1<l.length->l[t]? = some 0)->f<l.length->sumI (l.drop f)=(l[l.length-1]?).getD 0
 | [],f,h,hf=>by simp at hf
 | x::l,f+1,h,hf=>by
  simp only[List.length_cons] at hf h;have ih:=zeh (l:=l) (f:=f) (λ t g1 g2=>by have:=h (t+1) (by omega) (by omega);simpa using this) (by omega);simp only[List.drop_succ_cons,ih,List.length_cons,Nat.add_sub_cancel];obtain⟨m,hm⟩:∃ m,l.length=m+1:=⟨l.length-1,by omega⟩;rw[hm];simp
 | x::l,0,h,hf=>by
  simp only[List.length_cons] at h
  cases l with
  | nil=>simp[sumI]
  | cons y l =>
   have h0:x=0:=by have:=h 0 (Nat.zero_le _) (by simp);simpa using this
   have ih:=zeh (l:=y::l) (f:=0) (λ t g1 g2=>by have:=h (t+1) (by omega) (by simp at g2 ⊢;omega);simpa using this) (by simp);simp only[List.drop_zero] at ih ⊢;simp only[sumI] at ih ⊢;rw[h0];simp only[List.length_cons,Nat.add_sub_cancel] at ih ⊢;rw[Int.zero_add,ih];simp
theorem zn5 {a b c:ByteArray}(hab:a≠b)(hac:a≠c)(hbc:b≠c):∀ {l:List (ByteArray×Int)},(∀ p,p∈l->0<=p.2)->(zal 0 a l).1+(zal 0 b l).1+(zal 0 c l).1<=sumI (l.map (·.2))
 | [],_=>by simp[zal,sumI]
 | p::l,h=>by
  have h0:=h p (List.mem_cons_self ..);have hl:∀ q,q∈l->0<=q.2:=λ q hq=>h q (List.mem_cons_of_mem _ hq);have ih:=zn5 hab hac hbc hl;have n1:=(zfZ (c:=a) hl).1;have n2:=(zfZ (c:=b) hl).1;have n3:=(zfZ (c:=c) hl).1;simp only[zal,List.map_cons,sumI];by_cases h1:p.1=a
  .rw [if_pos h1,if_neg (λ e=>hab (h1.symm.trans e)),if_neg (λ e=>hac (h1.symm.trans e))]
   show p.2+_+_<=_;omega
  .rw [if_neg h1]
   by_cases h2:p.1=b
   .rw [if_pos h2,if_neg (λ e=>hbc (h2.symm.trans e))]
    show _+p.2+_<=_;omega
   .rw [if_neg h2]
    by_cases h3:p.1=c
    .rw [if_pos h3];show _+_+p.2<=_;omega
    .rw [if_neg h3];omega
theorem zvr {p:Bool}{a b c:Option Bool}(h:p=false)(h2:b=c):(bif p then a else b)=c:=by rw[h];exact h2
section
variable {b:Bk} {R:TR} {H:TH} {N:Nat} {x4:TL} {v42:Int} {k0:Option Bool}
variable {ed:Nat} {Q:Nat->Prop}
theorem zxh {k1:TL->TS->TE->TC->Option Bool}{j:Nat}{r:RunM}{e0:EditionM}(hN:N=400)(hed:ed<2)(hb:RelR b.S b.E R H)(hbo:BkOK b)(hi:InvO b.E)(hj:zan (nm0 1 ed) b.E=some j)(hr:getF R j=some r)(he0:getF b.E j=some e0)(hp0:e0.paper<=290)(hne:r.stones.length≠0)(hlen:r.stones.length<=40)(hQ:¬ Q j)
  {c1:Bk} {e1:EditionM} (hc1:Cx b c1 Q) (he1:getF c1.E j=some e1) (hs1:e1={ e0 with closed:=true }) (hL:c1.L.length+r.stones.length+3<119) :
  ∃ c',Cx b c' Q/\c'.L.length<=c1.L.length+r.stones.length+3/\zfh N R H x4 v42 k1 (nm0 1 ed) j r (e0.tally,0) c1.L c1.S c1.E c1.C=k1 c'.L c'.S c'.E c'.C:=by
 have hd:=hb.ed j e0 r he0 hr;have hdl:=hd.ln;have heo0:=hbo.sh.edOK he0
 have hf:e1.from_=r.ground:=by rw[hs1];exact hd.fr
 have hl1:e1.places.length=r.stones.length+1:=by rw[hs1];exact hdl
 obtain⟨c2,e2,q1,q2,q3,q4,q5,q6⟩:=zua (x4:=x4) (v42:=v42) (x9:=(e0.tally,0)) (k4:=zfg N R H x4 v42 k1 (nm0 1 ed) j r (e0.tally,0)) hN hb hr hj (by omega) hQ r.stones.length 0 N c1 e1 (by omega) (by omega) hc1 he1 hf hl1 (by rw[hs1];exact hp0) (by omega) (λ t g1 g2=>by omega);have h2o:=q1.ok.sh.edOK q2
 have hj2:zan (nm0 1 ed) c2.E=some j:=by rw[zbY q1.ky];exact hj
 have hed2:=zi0 hj2 q2
 have hl2:e2.places.length=r.stones.length+1:=by rw[q3.ln];exact hl1
 have hf2:e2.from_=r.ground:=by rw[q3.fr];exact hf
 have hfl:=h2o.fl;have hf0:=h2o.f0
 have hrest:e2.rest e2.from_=e2.last:=by
  unfold EditionM.rest EditionM.last;exact zeh (λ t g1 g2=>q5 t (by omega) (by omega)) (by omega)
 have hrest0:e2.rest e2.from_=e0.rest e0.from_:=by rw[q3.rs,hs1];rfl
 have htal:e2.tally=e0.tally:=by
  unfold EditionM.tally;rw[hrest0,q3.pp,q3.dl,q3.sp,q3.sm,hs1]
 have hsh:f33 N (nm0 1 ed) c2.L c2.S c2.E c2.C=some (e2.places,0):=by
  rw[hN,zt6 (M:=399) q1.ok (zo5 rfl 1 ed)];simp only[zfW,hed2]
 have hta:f34 N (nm0 1 ed) c2.L c2.S c2.E c2.C=some (e0.tally,0):=by
  rw[hN,zt7 (M:=399) q1.ok (by omega) (zo5 rfl 1 ed)];simp only[zgU,hed2,htal]
 have hlg:e2.places[e2.places.length-1]? = some e2.last:=by
  unfold EditionM.last;rw[List.getElem?_eq_getElem (by omega)];rfl
 have hcl:∀ t,0<=(zal 0 (nm0 2 t) r.claims).1:=λ t=>by rw[<- hd.ow];exact(heo0.owe _).1
 obtain⟨c3,e3,w1,w2,w3,w4,w5⟩:=zub (x4:=x4) (v42:=v42) (x11:=(e0.tally,0)) (k3:=zff N R H x4 v42 k1 (nm0 1 ed) j r) (R:=R) (H:=H) (N:=N) (r:=r) hN hed hj hQ hcl 3 0 N c2 e2 e2.last rfl (by omega) q1 q2 (by rw[q3.cl,hs1]) rfl (by rw[q3.pp,hs1];exact hp0) (by omega) (λ t _ _=>by rw[q3.ow,hs1];show zal 0 (nm0 2 t) e0.owed=_;rw[hd.ow])
 have hj3:zan (nm0 1 ed) c3.E=some j:=by rw[zbY w1.ky];exact hj
 refine⟨c3,w1,by omega, ?_⟩;unfold zfh;simp only[zaS];rw[show ((0:Nat):Int)=(0:Int) from rfl] at q6 w5;rw[q6];unfold zfg;refine zac hsh (zac rfl (zac hta (zaR (by simp) (zaR (by simp) (zac rfl (zaR ?_ (zvr (by simp) (zac (x:=e2.last) ?_ (zaR ?_ ?_)))))))))
 .rw [W1 (by omega),hl2];simp
 .rw [show W ((e2.places.length:Int)-1)=((e2.places.length-1:Nat):Int) by rw[zaU (by omega) (by omega)];omega]
  exact zej hlg
 .rw [<- hrest,hrest0];simp[EditionM.tally]
 .simp only[zaS]
  refine zac (zrf N) ?_
  have hrm:((e0.tally,(0:Int)).1).Rest=e2.last:=by rw[<- hrest,hrest0];rfl
  rw[hrm,show ([nm0 2 0,nm0 2 1,nm0 2 2]:TL)=cus from rfl,w5];unfold zff;simp only[zaS];refine zac (zrf N) ?_;rw[show ([nm0 2 0,nm0 2 1,nm0 2 2]:TL)=cus from rfl];have h38:=zuc (R:=R) (H:=H) (x4:=x4) (v42:=v42) (x6:=j) (k2:=zfe N R H x4 v42 k1 j r c3.L c3.S c3.E c3.C) hN w1.ok hj3 w2 3 0 N 0 rfl (by omega) (by omega) (by simp);rw[show ((0:Nat):Int)=(0:Int) from rfl] at h38;refine h38.trans ?_;unfold zfe;have hpp:=hd.pp;refine zac (zrl (by omega) (by omega)) ?_;by_cases hz:cnt (-1) r.sheets=0
  .have hspz:e0.spoilt=0:=by rw[hd.sp];exact hz
   have hall:=w4 (by
    have h1:=hi j e0 he0;have h2:=heo0.os;have h3:=zn5 (zl1 (i:=0) (k:=1) (by omega) (by omega) (by omega)) (zl1 (i:=0) (k:=2) (by omega) (by omega) (by omega)) (zl1 (i:=1) (k:=2) (by omega) (by omega) (by omega)) heo0.ow;rw[hd.ow] at h3 h2;show (zal 0 (nm0 2 0) r.claims).1+((zal 0 (nm0 2 1) r.claims).1+((zal 0 (nm0 2 2) r.claims).1+0))<=e2.last
    rw[<- hrest,hrest0];omega) (λ t ht=>by omega)
   refine zbI hz (zaR ?_ rfl);simp only[sc,hall 0 (by omega),hall 1 (by omega),hall 2 (by omega)];simp
  .exact zaR hz rfl
end
end Go.Vc
namespace Go.Vc
open Go.Proofs
theorem ztt:f14 400=some true:=by kernel_rfl
theorem rdC {e:Nat}(h:e<2):f79 398 (txt nm0 (.close e))=some (ord nm0 (.close e),0):=zeD (List.all_eq_true.1 zrx _ (zfV h))
theorem rdA {l:Ln}(h:l.ok):f79 398 (txt nm0 l)=some (ord nm0 l,0):=zeD (List.all_eq_true.1 zrx _ (zfV h))
section
variable {b:Bk} {R:TR} {H:TH} {N:Nat} {x4:TL} {k0:Option Bool}
theorem zn6 {ed:Nat}{Q Q':Nat->Prop}(hN:N=400)(hed:ed<2)(hb:RelR b.S b.E R H)(hbo:BkOK b)(hi:InvO b.E)(hp:∀ j e,getF b.E j=some e->e.paper<=290)(hsl:∀ j r,getF R j=some r->r.stones.length<=35)
  (hx:x4[ed]? = some (nm0 1 ed)) (hx4:x4.length=2) {c:Bk} (hc:Cx b c Q) (hL:c.L.length+40<119) (hQ:∀ j,zan (nm0 1 ed) b.E=some j->Q j) (hQ':∀ i,Q' i->Q i/\zan (nm0 1 ed) b.E≠some i) {r6:Int->TL->TS->TE->TC->Option Bool} :
  ∃ c',Cx b c' Q'/\c'.L.length<=c.L.length+39/\zfU r6 N R H k0 x4 (ed:Int) c.L c.S c.E c.C=r6 ((ed+1:Nat):Int) c'.L c'.S c'.E c'.C:=by
 have hwi:W ((ed:Int)+1)=((ed+1:Nat):Int):=W1 (by omega);have weak:∀ {c':Bk},Cx b c' Q->Cx b c' Q':=λ h=>⟨h.ok,h.S,h.ky,λ i hi' => h.ot i (hQ' i hi').1⟩
 have k1eq:∀ c':Bk,zeb R H x4 (ed:Int) r6 c'.L c'.S c'.E c'.C=r6 ((ed+1:Nat):Int) c'.L c'.S c'.E c'.C:=λ c' => by unfold zeb;rw[hwi]
 unfold zfU;simp only[zaS];have hlk:=hb.look (nm0 1 ed)
 cases hj:zan (nm0 1 ed) b.E with
 | none =>
  refine⟨c,weak hc,by omega,zbI (by omega) (zac (zej hx) ?_)⟩;rw[hlk,hj];exact k1eq c
 | some j =>
  obtain⟨e0,he0⟩:=za2 hj;obtain⟨r,hr,hd⟩:=hb.runOf he0;have hdl:=hd.ln
  have hce:getF c.E j=some e0:=by rw[hc.ot j (hQ j hj)];exact he0
  have hjc:zan (nm0 1 ed) c.E=some j:=by rw[zbY hc.ky];exact hj
  by_cases hne:r.stones.length=0
  .refine ⟨c,weak hc,by omega,zbI (by omega) (zac (zej hx) (zh4 (by rw[hlk];exact hj) (zac hr (zac rfl (zbI (by omega) (k1eq c))))))⟩
  .have hsl':=hsl j r hr
   have hQj:¬ Q' j:=λ h=>(hQ' j h).2 hj
   have ht:f34 N (nm0 1 ed) c.L c.S c.E c.C=some (e0.tally,0):=by
    rw[hN,zt7 (M:=399) hc.ok (by omega) (zo5 rfl 1 ed)];simp only[zgU,zi0 hjc hce]
   by_cases hcl:r.closed=true
   .have he1:e0={ e0 with closed:=true }:=by
     have:e0.closed=true:=by rw[hd.cl];exact hcl
     cases e0;simp only at this;subst this;rfl
    obtain⟨c',a1,a2,a3⟩:=zxh (x4:=x4) (v42:=(ed:Int)) (k1:=zeb R H x4 (ed:Int) r6) hN hed hb hbo hi hj hr he0 (hp j e0 he0) hne (by omega) hQj (weak hc) hce he1 (by omega);refine⟨c',a1,by omega,zbI (by omega) (zac (zej hx) (zh4 (by rw[hlk];exact hj) (zac hr (zac rfl (zaR (by omega) (zac ht (zaR (by simp) (zbI rfl ?_))))))))⟩;rw[hcl];exact a3.trans (k1eq c')
   .have hcl0:r.closed=false:=by cases h:r.closed <;> simp_all
    have hcl1:e0.closed=false:=by rw[hd.cl];exact hcl0
    have hw1:zay c.S c.E c.C (ord nm0 (.close ed))=0:=by
     simp only[ord,zay,zi0 hjc hce,hcl1];rw[if_neg (by simp),if_neg (by omega)]
    obtain⟨d1,d2⟩:=zm5 hc.ok (rdC hed) (show zdp (ord nm0 (.close ed)) by simp only[ord,zdp]) hw1 (by omega) hN
    have hE:(doM c.S c.E c.C (ord nm0 (.close ed))).2.1=modF c.E j λ e=>{ e with closed:=true }:=by simp only[ord,doM,hjc]
    have hSd:(doM c.S c.E c.C (ord nm0 (.close ed))).1=c.S:=by simp only[ord,doM,hjc]
    have hc1:Cx b ⟨c.L++[txt nm0 (.close ed)],(doM c.S c.E c.C (ord nm0 (.close ed))).1,(doM c.S c.E c.C (ord nm0 (.close ed))).2.1,(doM c.S c.E c.C (ord nm0 (.close ed))).2.2⟩ Q' :=
     ⟨d2,by show (doM c.S c.E c.C _).1=b.S;rw[hSd];exact hc.S,by show (doM c.S c.E c.C _).2.1.map (·.1)=_;rw[hE,zbl];exact hc.ky,λ i' hi' => by
      show getF (doM c.S c.E c.C _).2.1 i'=_
      rw[hE,zbc,if_neg (λ h:j=i' => hQj (by rw[h];exact hi'))];exact hc.ot i' (hQ' i' hi').1⟩
    obtain⟨c',a1,a2,a3⟩:=zxh (x4:=x4) (v42:=(ed:Int)) (k1:=zeb R H x4 (ed:Int) r6) hN hed hb hbo hi hj hr he0 (hp j e0 he0) hne (by omega) hQj hc1 (e1:={ e0 with closed:=true }) (by show getF (doM c.S c.E c.C _).2.1 j=_;rw[hE,zbc,if_pos rfl,hce];rfl) rfl (by simp;omega);refine⟨c',a1,by simp at a2;omega,zbI (by omega) (zac (zej hx) (zh4 (by rw[hlk];exact hj) (zac hr (zac rfl (zaR (by omega) (zac ht (zaR (by simp) (zbI rfl ?_))))))))⟩;rw[hcl0];have z2:=zke 1 ed;have z3:(strC [99,108,111,115,101,32]).size=6:=rfl;show ((addS (strC [99,108,111,115,101,32]) (nm0 1 ed)).bind _)=_;refine zac (zb6 (by omega)) ?_;rw[show strC [99,108,111,115,101,32]++nm0 1 ed=txt nm0 (.close ed) from rfl];exact zac d1 (zaR (by simp) (a3.trans (k1eq c')))
end
theorem zxi {N:Nat}(hN:N=400){a0:List A4u8N}(h0:∀ x,x∈a0->x.ok):f13 N a0=some true:=by
 have hx1:f26 N a0=some ((zcV a0).map (txt nm0)):=zx (by omega) h0;have hg:=zo2 h0;have hlen:=zrh a0;unfold f13;simp only[zaS];refine zac hx1 ?_
 have htell:=zrg (F:=zc2 N ((zcV a0).map (txt nm0)) (zbV N)) (k:=zbV N) hg (λ n i y b hi hxi hy hb=>by
  obtain⟨l,hl,rfl⟩:=hy;show zcG _ N _ _ (i:Int) b.L b.S b.E b.C=_;unfold zcG;simp only[zaS];have hq:=zq9 (M:=397) hb (by omega) (rdA hl) (λ _=>zt8 hl);rw[show 397+3=N by omega] at hq;refine zbI (by omega) (zac (zej hxi) ?_);unfold zcF;refine zac hq ?_;rw[show W ((i:Int)+1)=((i+1:Nat):Int) from W1 (by omega)];unfold zdl outM
  rw[rdL hl]) (λ n b=>by
  show zcG _ N _ _ _ b.L b.S b.E b.C=_;unfold zcG
  exact zaR (by omega) rfl) N Bk.new znV (by omega)
 refine htell.trans ?_;obtain⟨ls,hL,hsub,hwt,hln⟩:=zn2 (zcV a0) Bk.new;have hlok:∀ l,l∈ls->l.ok:=λ l hl=>zh2 h0 l (hsub l hl);have hbo:BkOK (tell Bk.new ((zcV a0).map (txt nm0))):=zre znV hg;obtain⟨hrun,hsame⟩:=zo1 ((zcV a0).map (txt nm0)) Bk.new ztg;have hinv:InvO (tell Bk.new ((zcV a0).map (txt nm0))).E:=zlZ (zcV a0) Bk.new (zh2 h0) znV (λ j e h=>by simp[Bk.new,getF] at h);generalize hbd:tell Bk.new ((zcV a0).map (txt nm0))=b at *;rw[show Bk.new.L=[] from rfl,List.nil_append] at hL;rw[hL] at hrun hsame;have hw290:=zrv h0
 have hls:ls.length<=35:=by simp only[List.length_map] at hlen;omega
 obtain⟨R,H,hrel,hpap,hrr⟩:=ziZ ls Bk.new [] [] 0 hlok znV hrun zvn (λ j e h=>by simp[Bk.new,getF] at h) (by omega);rw[hsame] at hrel hpap;unfold zbV;simp only[zaS]
 have h21:f21 N b.L b.S b.E b.C=some b.L:=by rw[hN];exact zxa (M:=399) hbo
 refine zac h21 ?_;have hr0:=hrr b.L b.S b.E b.C b.L (zbT N b.L b.S b.E b.C b.L) 0 N N hN (by rw[hL];rfl) (Nat.zero_le _) (by rw[hL];simp;omega) (by omega);rw[show ((0:Nat):Int)=(0:Int) from rfl] at hr0;refine hr0.trans ?_;unfold zbT;simp only[zaS];refine zac (zvl N) ?_
 have hsl:∀ j r,getF R j=some r->r.stones.length<=35:=by
  intro j r hr;obtain⟨e,he⟩:=zlX hrel.ky hr;have h1:=(hrel.ed j e r he hr).ln;have h2:=(hbo.sh.edOK he).le;rw[hL] at h2;simp only[List.length_map] at h2;omega
 have hbl:b.L.length<=35:=by rw[hL];simpa using hls
 have hp290:∀ j e,getF b.E j=some e->e.paper<=290:=λ j e he=>by have:=hpap j e he;omega
 have hc0:Cx b b (λ _=>True):=⟨hbo,rfl,rfl,λ _ _=>rfl⟩;obtain⟨n1,hn1⟩:∃ q,N=q+3:=⟨N-3,by omega⟩
 have hne:∀ i,zan (nm0 1 0) b.E=some i->zan (nm0 1 1) b.E=some i->False:=by
  intro i h1 h2;have:=(zkd h1).symm.trans (zkd h2);exact absurd this (by decide)
 obtain⟨c1,a1,a2,a3⟩:=zn6 (ed:=0) (Q:=λ _=>True) (Q':=λ i=>zan (nm0 1 0) b.E≠some i) (x4:=[nm0 1 0,nm0 1 1]) (k0:=zbN N) (r6:=zhZ N R H (zbN N) [nm0 1 0,nm0 1 1] (n1+2)) hN (by omega) hrel hbo hinv hp290 hsl rfl rfl hc0 (by omega) (λ _ _=>trivial) (λ i h=>⟨trivial,h⟩);obtain⟨c2,b1,b2,b3⟩:=zn6 (ed:=1) (Q:=λ i=>zan (nm0 1 0) b.E≠some i) (Q':=λ i=>zan (nm0 1 0) b.E≠some i/\zan (nm0 1 1) b.E≠some i) (x4:=[nm0 1 0,nm0 1 1]) (k0:=zbN N) (r6:=zhZ N R H (zbN N) [nm0 1 0,nm0 1 1] (n1+1)) hN (by omega) hrel hbo hinv hp290 hsl rfl rfl a1 (by omega) (λ j h1 h2=>hne j h2 h1) (λ i h=>h)
 have e3:zhZ N R H (zbN N) [nm0 1 0,nm0 1 1] N 0 b.L b.S b.E b.C=zfU (zhZ N R H (zbN N) [nm0 1 0,nm0 1 1] (n1+2)) N R H (zbN N) [nm0 1 0,nm0 1 1] 0 b.L b.S b.E b.C:=by
  have:∀ M,M=n1+3->zhZ N R H (zbN N) [nm0 1 0,nm0 1 1] M 0 b.L b.S b.E b.C=zfU (zhZ N R H (zbN N) [nm0 1 0,nm0 1 1] (n1+2)) N R H (zbN N) [nm0 1 0,nm0 1 1] 0 b.L b.S b.E b.C:=by
   intro M hM;subst hM;rfl
  exact this N hn1
 rw[e3];refine a3.trans ?_;show zfU _ N R H (zbN N) [nm0 1 0,nm0 1 1] ((0+1:Nat):Int) c1.L c1.S c1.E c1.C=_;refine b3.trans ?_;show zfU _ N R H (zbN N) [nm0 1 0,nm0 1 1] ((1+1:Nat):Int) c2.L c2.S c2.E c2.C=_;unfold zfU;refine zaR (by simp) ?_;unfold zbN;rw[hN,ztt];rfl
theorem zvs {a0:List A4u8N}(h0:∀ x,x∈a0->x.ok):f13 400 a0=some true:=zxi rfl h0
end Go.Vc
namespace Go.Vc
abbrev tB:Ty := .int .u8
abbrev tA4:Ty := .comp [tB,tB,tB,tB]
abbrev tSh:Ty := .slice tA4 true 4
theorem tB_of {ds:List D}(h:tB.has ds):∃ n,ds=[u8N n]/\u8In n:=by
 simp only[tB,Ty.has] at h;obtain⟨n,rfl,h⟩:=h;exact⟨n,rfl,by simpa [IntKind.min,IntKind.max,IntKind.signed,IntKind.bits,u8In] using h⟩
theorem zn7 {ds:List D}(h:(Ty.int .u8).has ds):∃ n,ds=[u8N n]/\u8In n:=tB_of h
theorem zrH {x:D}(h:tSh.hasD x):∃ l:List A4u8N,x=ze l/\∀ y,y∈l->y.ok:=by
 obtain⟨l,h1,_,h3⟩:=zsG (d:=A4u8N.d) (p:=A4u8N.ok) (ds:=[x]) (λ cs h=>by
  simp only[tA4,Ty.has] at h;rw[Ty.hasL] at h;obtain⟨a0,b0,rfl,h0,h⟩:=h;rw[Ty.hasL] at h;obtain⟨a1,b1,rfl,h1,h⟩:=h;rw[Ty.hasL] at h;obtain⟨a2,b2,rfl,h2,h⟩:=h;rw[Ty.hasL] at h;obtain⟨a3,b3,rfl,h3,h⟩:=h;simp only[Ty.hasL] at h;subst h;obtain⟨x0,rfl,p0⟩:=zn7 h0;obtain⟨x1,rfl,p1⟩:=zn7 h1;obtain⟨x2,rfl,p2⟩:=zn7 h2;obtain⟨x3,rfl,p3⟩:=zn7 h3
  exact⟨⟨x0,x1,x2,x3⟩,rfl,p0,p1,p2,p3⟩) h
 exact⟨l,List.singleton_inj.1 h1,h3⟩
end Go.Vc
namespace Go.Vc
open Go.Proofs
theorem lx_of {l:List (String×DataW Unit)} (h1:(l.filter λ x=>x.1 == "internal/strconv.uint64pow10")=[("internal/strconv.uint64pow10", Lib.tabData .u64 Lib.pow10Tab)]) {w:World} (h:laidMetH Tryz.prog l w.memory):LX Tryz.prog w:=by
 have h2:=laidMetH.filter (λ x=>x.1 == "internal/strconv.uint64pow10") h
 rw[h1,MakeChecks.laidMetH_plain _ _ _ (by rfl)] at h2;exact LX.heap (w:=w.memory) (Lib.tabIs_of_head (g:=0) (t:=226) (e:=182) (n:=20) (by kernel_rfl) (by kernel_rfl) (by kernel_rfl) (by kernel_rfl) (by kernel_rfl) (by kernel_rfl) h2) rfl
end Go.Vc

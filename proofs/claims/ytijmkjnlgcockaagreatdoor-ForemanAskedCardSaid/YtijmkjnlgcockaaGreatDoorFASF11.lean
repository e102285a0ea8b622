/-
  A library for proofs about Go functions by symbolic evaluation,and plain Lean functions that the walked Go functions compute (written by a program of this claim).
-/
import Derived.Test.YtijmkjnlgcockaaGreatDoorFASF9
import Derived.Test.YtijmkjnlgcockaaGreatDoorFASF10
import Derived.Test.YtijmkjnlgcockaaGreatDoorFASF5
import Derived.Test.YtijmkjnlgcockaaGreatDoorFASF7
import Derived.Test.YtijmkjnlgcockaaGreatDoorVc4
import Derived.Test.YtijmkjnlgcockaaGreatDoorFASF1
import Derived.Test.YtijmkjnlgcockaaGreatDoorVc3
import Derived.Test.YtijmkjnlgcockaaGreatDoorProg
import Derived.LaidSub
import Derived.MakeChecks
set_option linter.unusedVariables false
set_option linter.unnecessarySimpa false
set_option linter.unusedSimpArgs false
namespace Go.Vc
open Go.Proofs
section
variable {M:Nat}
end
end Go.Vc
namespace Go.Vc
open Go.Proofs
end Go.Vc
namespace Go.Vc
open Go.Proofs
theorem ztt {N:Nat}{L:TL}(h:L.length<N)(h2:L.length<=1000):f20 N L L=some true:=by
 have lp:∀ (m i n:Nat),L.length-i=m->i<=L.length->m<n->zlM L L zhH n (i:Int)=some true:=by
  intro m
  induction m with
  | zero =>
   intro i n h1 h2 h3;obtain⟨n,rfl⟩:∃ q,n=q+1:=⟨n-1,by omega⟩;simp only[zlM,zn0];rw[ltF (by omega),cond_false];rfl
  | succ m ih =>
   intro i n h1 h2 h3;obtain⟨n,rfl⟩:∃ q,n=q+1:=⟨n-1,by omega⟩
   have hi:i<L.length:=by omega
   simp only[zlM,zn0];rw[ltT hi,cond_true,ze4 hi,zyl,zyl,ze8,cond_false,zcO (by omega)]
   grind
 unfold f20;rw[ze8,cond_false,zay];exact lp L.length 0 N rfl (by omega) h
end Go.Vc
namespace Go.Vc
open Go.Proofs
theorem zoe {N:Nat}{L:List Int}(h:L.length<N)(h2:L.length<=1000):f35 N L L=some true:=by
 have lp:∀ (m i n:Nat),L.length-i=m->i<=L.length->m<n->zlJ L L zhB n (i:Int)=some true:=by
  intro m
  induction m with
  | zero =>
   intro i n h1 h2 h3;obtain⟨n,rfl⟩:∃ q,n=q+1:=⟨n-1,by omega⟩;simp only[zlJ,znX];rw[ltF (by omega),cond_false];rfl
  | succ m ih =>
   intro i n h1 h2 h3;obtain⟨n,rfl⟩:∃ q,n=q+1:=⟨n-1,by omega⟩
   have hi:i<L.length:=by omega
   simp only[zlJ,znX];rw[ltT hi,cond_true,ze4 hi,zyl,zyl,ze8,cond_false,zcO (by omega)];exact ih (i+1) n (by omega) (by omega) (by omega)
 unfold f35;rw[ze8,cond_false,zay];exact lp L.length 0 N rfl (by omega) h
theorem zrI (o:Option Nat):decide (ixO o<(0:Int))=o.isNone:=by
 cases o with
 | none=>rfl
 | some j=>exact decide_eq_false (by show ¬ ((j:Int)<0);omega)
def ed0:Edition:=Edition.mk zaG false [] 0 0 0 0
section
variable {b:Bk} {R:StateS} {N M:Nat} {k c:ByteArray}
theorem zpd {E:TE}{j:Nat}(h:zan k E=some j):∃ e,E[j]? = some (k,e)/\getF E j=some e:=by
 obtain⟨⟨e,he⟩,_⟩:=zbr.1 h;exact⟨e,he,zaV.2 ⟨k,he⟩⟩
def askd (b:Bk)(k:ByteArray):Edition×Int×Int:=match zan k b.E with
 | none=>(ed0,0,5)
 | some j=>match b.E[j]? with
  | none=>(ed0,0,5)
  | some q=>(edR q,q.2.open_,0)
theorem zl6 (h:zan k b.E=none):askd b k=(ed0,0,5):=by unfold askd;rw[h]
theorem zl7 {j:Nat}{e:EditionM}(h:zan k b.E=some j)(he:b.E[j]? = some (k,e)):askd b k=(edR (k,e),e.open_,0):=by
 unfold askd;rw[h];dsimp only;rw[he]
theorem zub (hk:f89 N k=some false):f92 N (zbb b.L) k=some (ed0,0,8):=by
 unfold f92;rw[show f55 N (zbb b.L)=some false from rfl,zyl,cond_false,hk,zyl,Bool.not_false,cond_true];rfl
theorem zuc (hr:RelB b R)(hb:BkOK b)(h90:f90 N b.L=some R)(hN:200<=N)(hk:f89 N k=some true):f92 N (zbb b.L) k=some (askd b k):=by
 have hl:=hb.ll;unfold f92 askd;rw[show f55 N (zbb b.L)=some false from rfl,zyl,cond_false,hk,zyl,Bool.not_true,cond_false,show f90 N (zbb b.L).lines=some R from h90,zyl,zbw hr.ed hb.sh.el (by omega),zyl,zrI]
 cases hE:zan k b.E with
 | none=>rfl
 | some j =>
  obtain⟨e,he,_⟩:=zpd hE;have hj:=(zym.1 he).1
  have hx:ix R.editions (ixO (some j))=some (edR (k,e)):=by
   show ix R.editions (j:Int)=_;rw[za2,hr.ed,List.getElem?_map,he];rfl
  have hm:=zyp he;rw[show (some j).isNone=false from rfl,cond_false,hx,zyl,show f126 N R k=some e.open_ from hr.cl.open_ hm (hb.sh.ed _ hm).1 (by omega) (by omega),zyl];dsimp only;rw[he]
theorem zvG (hr:RelB b R)(hb:BkOK b)(h90:f90 (M+1) b.L=some R)(hM:200<=M)(hk:k.size<M):∃ x,f32 (M+1) k b.L b.S b.E b.C=some x/\f65 (M+1) (zbb b.L) k=some x:=by
 have h61:f61 M k=some (zcq k):=zhZ hk;have h89:f89 (M+1) k=some (zcq k):=zh0 (by omega);unfold f65;rw[show f55 (M+1) (zbb b.L)=some false from rfl,zyl,cond_false,h89,zyl]
 cases hn:zcq k with
 | false =>
  rw[hn] at h61;refine⟨_, ?_,rfl⟩;simp only[f32,f32b,h61,zyl,Bool.not_false,cond_true]
 | true =>
  rw[hn] at h61;refine⟨_,zxO hb h61, ?_⟩;rw[Bool.not_true,cond_false,show f90 (M+1) (zbb b.L).lines=some R from h90,zyl,zeS hr.st hb.sh.sl (by omega),zyl,zrI];unfold zki stO
  cases hS:zan k b.S with
  | none=>rfl
  | some i =>
   obtain⟨⟨a,ha⟩,_⟩:=zbr.1 hS;have hi:=(zym.1 ha).1
   have hi2:i<R.stones.length:=by rw[hr.st.len];exact hi
   have hs:R.stones[i]? = some R.stones[i]:=zyn hi2;obtain⟨q1,q2,q3,q4⟩:=hr.st.at_ i _ _ ha hs
   have hx:ix R.stones (ixO (some i))=some R.stones[i]:=by
    show ix R.stones (i:Int)=_;rw[za2,hs]
   have hg:getF b.S i=some a:=zaV.2 ⟨k,ha⟩;rw[show (some i).isNone=false from rfl,cond_false,hx,zyl,zyl,zyl,hg];dsimp only at q2 q3 q4 ⊢
   cases hof:a.of with
   | none=>rw[q2,q3 hof]
   | some j =>
    obtain⟨q,hq,e1,_⟩:=q4 j hof;have hm:=zyp hq;dsimp only;rw[q2,e1,zaV.2 ⟨q.1,hq⟩,<- (hb.sh.ed q hm).2];rfl
theorem zvH (hr:RelB b R)(hb:BkOK b)(h90:f90 (M+1) b.L=some R)(hM:200<=M)(hk:k.size<M):∃ x,f34 (M+1) k b.L b.S b.E b.C=some x/\f67 (M+1) (zbb b.L) k=some x:=by
 have h61:f61 M k=some (zcq k):=zhZ hk;have h89:f89 (M+1) k=some (zcq k):=zh0 (by omega);have hl:=hb.ll;unfold f67
 cases hn:zcq k with
 | false =>
  rw[hn] at h61 h89;refine⟨_, ?_,by rw[zub h89];rfl⟩;simp only[f34,f34b,h61,zyl,Bool.not_false,cond_true]
 | true =>
  rw[hn] at h61 h89;refine⟨_,zxQ hb (by omega) h61, ?_⟩;rw[zuc hr hb h90 (by omega) h89];unfold zkj edO
  cases hE:zan k b.E with
  | none=>rw[zl6 hE];rfl
  | some j =>
   obtain⟨e,he,hg⟩:=zpd hE;have hm:=zyp he;have hK:=(hb.sh.ed _ hm).1;have h1:=hK.le;have h2:=hK.f0;have h3:=hK.fl;have h5:=hK.sums;have h6:=zbM hK.nn;dsimp only at h1 h2 h3 h5 h6;obtain⟨f,hf⟩:∃ f:Nat,e.from_=(f:Int):=⟨e.from_.toNat,by omega⟩
   have hsum:sumI (e.places.take f)+sumI (e.places.drop f)=sumI e.places:=by rw[<- zkb,List.take_append_drop]
   have hnn:∀ q,q∈e.places.take f->0<=q:=λ q hq=>hK.nn q (List.mem_of_mem_take hq);have hnd:0<=sumI (e.places.drop f):=zbM λ q hq=>hK.nn q (List.mem_of_mem_drop hq);rw[zl7 hE he,zyl,zyl,hg];have h94:f94 (M+1) (edR (k,e)) e.from_=some (e.rest e.from_):=zl2 (q:=(k,e)) hK h2 (Int.le_of_lt h3) (by omega) (by omega)
   have hsub:sub e.places 0 e.from_=some (e.places.take f):=by
    rw[hf,show (0:Int)=((0:Nat):Int) from rfl,zem (by omega) (by omega),List.drop_zero]
   rw[decide_eq_false (by simp),cond_false,show sub (edR (k,e)).places 0 (edR (k,e)).ground=_ from hsub,zyl,zu hnn (by omega) (by simp;omega) (by simp;omega),zyl,show f94 (M+1) (edR (k,e)) (edR (k,e)).ground=_ from h94,zyl]
   have hl:sumI (e.places.take f)=sumI e.places-e.rest e.from_:=by unfold EditionM.rest;rw[hf,Int.toNat_natCast];omega
   rw[hl];rfl
theorem zvI (hr:RelB b R)(hb:BkOK b)(h90:f90 (M+1) b.L=some R)(hM:200<=M)(hk:k.size<M):∃ x,f40 (M+1) k b.L b.S b.E b.C=some x/\f68 (M+1) (zbb b.L) k=some x:=by
 have h61:f61 M k=some (zcq k):=zhZ hk;have h89:f89 (M+1) k=some (zcq k):=zh0 (by omega);have hl:=hb.ll;unfold f68
 cases hn:zcq k with
 | false =>
  rw[hn] at h61 h89;refine⟨_, ?_,by rw[zub h89];rfl⟩;simp only[f40,f40b,h61,zyl,Bool.not_false,cond_true]
 | true =>
  rw[hn] at h61 h89;refine⟨_,zxR hb (by omega) h61, ?_⟩;rw[zuc hr hb h90 (by omega) h89];unfold zkk edO
  cases hE:zan k b.E with
  | none=>rw[zl6 hE];rfl
  | some j =>
   obtain⟨e,he,hg⟩:=zpd hE;have hm:=zyp he;have hK:=(hb.sh.ed _ hm).1;have h1:=hK.le;have h2:=hK.f0;have h3:=hK.fl;have h4:=hK.rest_b e.from_;have h5:=hK.open0;have h6:=hK.ob;dsimp only at h1 h2 h3 h4 h5 h6;rw[zl7 hE he,zyl,zyl,hg];rw[show f94 (M+1) (edR (k,e)) (edR (k,e)).ground=some (e.rest e.from_) from zl2 (q:=(k,e)) hK h2 (Int.le_of_lt h3) (by omega) (by omega),zyl];dsimp only;rw[decide_eq_false (by simp),cond_false,za8 (by omega) (by omega)]
theorem zyg (hr:RelB b R)(hb:BkOK b)(h90:f90 (M+1) b.L=some R)(hM:200<=M)(hk:k.size<M)(hc:c.size<M):∃ x,f36 (M+1) c k b.L b.S b.E b.C=some x/\f69 (M+1) (zbb b.L) c k=some x:=by
 have h61:f61 M k=some (zcq k):=zhZ hk;have h89:f89 (M+1) k=some (zcq k):=zh0 (by omega);have c61:f61 M c=some (zcq c):=zhZ hc;have c89:f89 (M+1) c=some (zcq c):=zh0 (by omega);have hl:=hb.ll;have hcl:=hr.cl.ln;unfold f69;rw[show f55 (M+1) (zbb b.L)=some false from rfl,zyl,cond_false,c89,zyl]
 cases hn:zcq c with
 | false =>
  rw[hn] at c61;refine⟨_, ?_,rfl⟩;simp only[f36,f36b,c61,zyl,Bool.not_false,cond_true]
 | true =>
 rw[hn] at c61;rw[Bool.not_true,cond_false,h89,zyl]
 cases hn:zcq k with
 | false =>
  rw[hn] at h61;refine⟨_, ?_,rfl⟩;simp only[f36,f36b,c61,h61,zyl,Bool.not_false,Bool.not_true,cond_true,cond_false]
 | true =>
  rw[hn] at h61;refine⟨_,zxS hb c61 h61, ?_⟩;obtain⟨v,hv,hat⟩:=zf5 (R:=R) (N:=M+1) (by omega) (by omega) c k;rw[Bool.not_true,cond_false,show f90 (M+1) (zbb b.L).lines=some R from h90,zyl,hv,zyl];unfold znb edO
  rcases hat with ⟨rfl,h0,hno⟩|⟨i,cl,rfl,hi,e1,e2,h0,_⟩
  .rw [decide_eq_true (by omega),cond_true]
   cases hE:zan k b.E with
   | none=>rfl
   | some j =>
    obtain⟨e,he,hg⟩:=zpd hE;have ho:e.owed=za0 R.claims k:=hr.cl.ow _ (zyp he);rw[zyl,hg];dsimp only;rw[ho,h0];rfl
  .obtain ⟨q,hq,hqe⟩:=hr.cl.ed cl (zyp hi)
   have hbd:=hr.cl.bd cl (zyp hi);have hw:W (cl.claimed-cl.got)=cl.claimed-cl.got:=za8 (by omega) (by omega);rw[decide_eq_false (by omega),cond_false,za2,hi,zyl,zyl,hw]
   cases hE:zan k b.E with
   | none=>exact absurd (hqe.trans e2) (zdH.1 hE q hq)
   | some j =>
    obtain⟨e,he,hg⟩:=zpd hE;have ho:e.owed=za0 R.claims k:=hr.cl.ow _ (zyp he);rw[zyl,hg];dsimp only;rw[ho,h0,if_pos rfl]
end
end Go.Vc
namespace Go.Vc
open Go.Proofs
theorem zof {M m:Nat}{b:Bk}(h:Made m b)(hm:60<=m)(hM:200<=M){s c e:ByteArray}(hs:s.size<M)(hc:c.size<M)(he:e.size<M):f37 (M+2) s c e true b.L b.L b.S b.E b.C=some true:=by
 have hb:=h.ok hm;have hl:=hb.ll;obtain⟨R,hr,h90⟩:=h.f90 (N:=M+1) hm (by omega);obtain⟨x1,a1,a2⟩:=zvG hr hb h90 hM hs;obtain⟨x2,b1,b2⟩:=zvH hr hb h90 hM he;obtain⟨x3,c1,c2⟩:=zvI hr hb h90 hM he;obtain⟨x4,d1,d2⟩:=zyg hr hb h90 hM he hc;have h61:f61 M e=some (zcq e):=zhZ he;have h89:f89 (M+1) e=some (zcq e):=zh0 (by omega);have nil:f35 (M+1) [] []=some true:=zoe (by simp) (by simp);rw[f37,f37b,a1,zyl,show f65 (M+1) (BookM.mk true b.L) s=_ from a2,zyl,ze8,cond_false,ze8,cond_false,ze8,cond_false];simp only[b1,show f67 (M+1) (BookM.mk true b.L) e=_ from b2,c1,show f68 (M+1) (BookM.mk true b.L) e=_ from c2,d1,show f69 (M+1) (BookM.mk true b.L) c e=_ from d2,zyl,show f55 (M+1) (BookM.mk true b.L)=some false from rfl,cond_false,h89,h90,zbw hr.ed hb.sh.el (show 10<=M+1 by omega),zrI]
 cases hn:zcq e with
 | false =>
  have h33:f33 (M+1) e b.L b.S b.E b.C=some ([],8):=by
   rw[hn] at h61;simp only[f33,f33b,h61,zyl,Bool.not_false,cond_true]
  simp only[h33,zyl,Bool.not_false,cond_true,nil,Bool.not_true,cond_false,not_true_eq_false,decide_false,decide_true,Bool.and_true]
 | true =>
  rw[hn] at h61;have h33:=zxP hb h61;unfold zhX edO at h33
  cases hE:zan e b.E with
  | none =>
   rw[hE] at h33;simp only[Option.bind_none] at h33;simp only[h33,zyl,Option.isNone_none,Bool.not_false,cond_true,nil,Bool.not_true,cond_false,not_true_eq_false,decide_false,decide_true,Bool.and_true]
  | some j =>
   obtain⟨q,hq,hg⟩:=zpd hE;have hm:=zyp hq;have hK:=(hb.sh.ed _ hm).1;have hle:=hK.le;dsimp only at hle;rw[hE] at h33;simp only[zyl,hg] at h33
   have hx:ix R.editions (ixO (some j))=some (edR (e,q)):=by
    show ix R.editions (j:Int)=_;rw[za2,hr.ed,List.getElem?_map,hq];rfl
   have h126:f126 (M+1) R e=some q.open_:=hr.cl.open_ hm hK (by omega) (by omega);have h35:f35 (M+1) q.places (edR (e,q)).places=some true:=zoe (by omega) (by omega);simp only[h33,zyl,Option.isNone_some,hx,h126,h35,Bool.not_true,cond_false,not_true_eq_false,decide_false,decide_true,Bool.and_true,Bool.not_false,cond_true]
def rpS (M:Nat)(b:Bk)(y:ByteArray):Bk:=match f79 M y with
 | some r=>goM b y r
 | none=>b
def rpl (M:Nat)(L:TL):Bk:=L.foldl (rpS M) Bk.new
theorem zrJ {M:Nat}(L:TL)(y:ByteArray):rpl M (L++[y])=rpS M (rpl M L) y:=by simp[rpl]
theorem zog {M:Nat}(L:TL):Made M (rpl M L):=by
 unfold rpl
 have:∀ (L:TL) (b:Bk),Made M b->Made M (L.foldl (rpS M) b):=by
  intro L
  induction L with
  | nil=>intro b h;exact h
  | cons y L ih =>
   intro b h;refine ih _ ?_;unfold rpS
   split
   .rename_i r hr;exact .step h hr
   .exact h
 exact this L _ .new
theorem go_L {b:Bk}{y:ByteArray}{r:I97×Int}(h:errM b r=0):(goM b y r).L=b.L++[y]:=by unfold goM;rw[if_pos h]
theorem zvJ {b:Bk}{y:ByteArray}{r:I97×Int}(h:errM b r≠0):goM b y r=b:=by unfold goM;rw[if_neg h]
theorem Made.rp {M:Nat}{b:Bk}(h:Made M b):rpl M b.L=b/\∀ i,i<=b.L.length->(rpl M (b.L.take i)).L=b.L.take i:=by
 induction h with
 | new=>exact⟨rfl,λ i _=>by simp[Bk.new,rpl]⟩
 | @step b y r h1 h2 ih =>
  by_cases he:errM b r=0
  .have e1:rpl M (goM b y r).L=goM b y r:=by rw[go_L he,zrJ,ih.1];unfold rpS;rw[h2]
   refine⟨e1,λ i hi=>?_⟩;rw[go_L he,List.length_append,List.length_singleton] at hi;by_cases hlt:i<=b.L.length
   .rw [go_L he,List.take_append_of_le_length hlt];exact ih.2 i hlt
   .rw [List.take_of_length_le (by rw[go_L he,List.length_append,List.length_singleton];omega),e1]
  .rw [zvJ he];exact ih
theorem Made.again {M:Nat}{b:Bk}(h:Made M b)(hM:130<=M){i:Nat}(hi:i<b.L.length):∃ r,f79 M b.L[i]=some r/\(r.2=0->zbv r.1)/\errM (rpl M (b.L.take i)) r=0/\goM (rpl M (b.L.take i)) b.L[i] r=rpl M (b.L.take (i+1)):=by
 obtain⟨r,h79,ho⟩:=zt7 (N:=M) (y:=b.L[i]) (by omega)
 have e:rpl M (b.L.take (i+1))=goM (rpl M (b.L.take i)) b.L[i] r:=by
  rw[List.take_succ_eq_append_getElem hi,zrJ];unfold rpS;rw[h79]
 refine⟨r,h79,ho, ?_,e.symm⟩;apply Classical.byContradiction;intro he;rw[zvJ he] at e;have h1:=h.rp.2 (i+1) (by omega);have h2:=h.rp.2 i (by omega);rw[e,h2] at h1;have:=congrArg List.length h1;simp at this;omega
theorem zud {l:TL}{n:Nat}(h:n<=l.length):vw l (n:Int)=some n:=by unfold vw;rw[if_pos ⟨by omega,by omega⟩];simp
theorem zvK {l:TL}{n i:Nat}(h:i<n)(h':n<=l.length):ixV l n (i:Int)=some l[i]:=by
 unfold ixV;rw[if_pos ⟨by omega,by omega,h'⟩,Int.toNat_natCast,zyn]
theorem zoh (k:Nat):f14 (k+300)=some true:=by kernel_rfl
end Go.Vc
namespace Go.Vc
open Go.Proofs
section
variable {k:Nat} {b:Bk} {a0:TL} {a1 a2 a3:ByteArray} {a4:Int}
theorem zyh (h:Made (k+298) b)(h1:a1.size<k+298)(h2:a2.size<k+298)(h3:a3.size<k+298){n:Nat}(hn:n<=b.L.length) :
  zaD a1 a2 a3 (n:Int) (k+300) b.L b.L b.S b.E b.C (rpl (k+298) (b.L.take n)).L (rpl (k+298) (b.L.take n)).S (rpl (k+298) (b.L.take n)).E (rpl (k+298) (b.L.take n)).C=some true:=by
 have hb:=h.ok (by omega);have hl:=hb.ll;have hq:Made (k+298) (rpl (k+298) (b.L.take n)):=zog _;have hqb:=hq.ok (by omega);have hL:=h.rp.2 n hn;have ha:=zof hq (by omega) (show 200<=k+298 by omega) h1 h2 h3;have h21:f21 (k+300) (rpl (k+298) (b.L.take n)).L (rpl (k+298) (b.L.take n)).S (rpl (k+298) (b.L.take n)).E (rpl (k+298) (b.L.take n)).C=some (rpl (k+298) (b.L.take n)).L:=zxN (M:=k+299) hqb
 have ht:(b.L.take n).length<=120:=by simp;omega
 generalize rpl (k+298) (b.L.take n)=q at *;unfold zaD;rw[show f55 (k+300) (BookM.mk true b.L)=some false from rfl,zyl,cond_false,zn5,zyl,decide_eq_true ⟨by omega,by omega⟩,Bool.not_true,cond_false,zud hn,zyl,zc6 (by simp;omega) (by simp;omega),zyl,List.nil_append,h21,zyl,show f55 (k+300) (BookM.mk true (b.L.take n))=some false from rfl,zyl,cond_false,zc6 (by simp;omega) (by simp;omega),zyl,List.nil_append,<- hL];rw[ztt (by rw[hL];omega) (by rw[hL];omega),zyl,cond_true,ha,zyl,cond_true,zoh];rfl
theorem znf (h:Made (k+298) b){n:Nat}(hn:n<=b.L.length)(k0:TL->TS->TE->TC->Option Bool):∀ (m i q:Nat),n-i=m->i<=n->m<q ->
  zaA a4 (k+300) b.L b.L b.S b.E b.C n k0 q (i:Int) (rpl (k+298) (b.L.take i)).L (rpl (k+298) (b.L.take i)).S (rpl (k+298) (b.L.take i)).E (rpl (k+298) (b.L.take i)).C=k0 (rpl (k+298) (b.L.take n)).L (rpl (k+298) (b.L.take n)).S (rpl (k+298) (b.L.take n)).E (rpl (k+298) (b.L.take n)).C:=by
 have hl:=(h.ok (by omega)).ll;intro m
 induction m with
 | zero =>
  intro i q h1 h2 h3;obtain⟨q,rfl⟩:∃ p,q=p+1:=⟨q-1,by omega⟩
  obtain rfl:i=n:=by omega
  simp only[zaA,zbg];rw[ltF (by omega),cond_false]
 | succ m ih =>
  intro i q h1 h2 h3;obtain⟨q,rfl⟩:∃ p,q=p+1:=⟨q-1,by omega⟩
  have hi:i<b.L.length:=by omega
  obtain⟨r,h79,ho,he,hg⟩:=h.again (by omega) hi;have hq:Made (k+298) (rpl (k+298) (b.L.take i)):=zog _;have h18:=zrl (M:=k+297) (hq.ok (by omega)) (by omega) h79 ho;rw[he,hg] at h18;have ih':=ih (i+1) q (by omega) (by omega) (by omega);simp only[zaA,zbg];rw[ltT (by omega),cond_true,zay,zvK (by omega) hn,zyl];unfold zaT;rw[h18,zyl];show (bif decide (¬ (0:Int)=0) then _ else zaA a4 (k+300) b.L b.L b.S b.E b.C n k0 q (W ((i:Int)+1)) (rpl (k+298) (b.L.take (i+1))).L (rpl (k+298) (b.L.take (i+1))).S (rpl (k+298) (b.L.take (i+1))).E (rpl (k+298) (b.L.take (i+1))).C)=_;rw[ze8,cond_false,zcO (by omega)];exact ih'
theorem zyi (h:Made (k+298) b)(h1:a1.size<k+298)(h2:a2.size<k+298)(h3:a3.size<k+298):zfZ a1 a2 a3 a4 (k+300) b.L b.L b.S b.E b.C=some true:=by
 have hl:=(h.ok (by omega)).ll
 have hw:((f14 (k+300)).bind λ x=>some x)=some true:=by rw[zoh];rfl
 unfold zfZ;rw[zof h (by omega) (show 200<=k+298 by omega) h1 h2 h3,zyl,Bool.not_true,cond_false];by_cases h0:a4<0
 .rw [decide_eq_true h0,cond_true,show f55 (k+300) (BookM.mk true b.L)=some false from rfl,zyl,cond_false,zn5,zyl,decide_eq_false (by omega),Bool.not_false,cond_true];exact hw
 .rw [decide_eq_false h0,cond_false]
  by_cases h9:(b.L.length:Int)<a4
  .rw [decide_eq_true h9,cond_true,show f55 (k+300) (BookM.mk true b.L)=some false from rfl,zyl,cond_false,zn5,zyl,decide_eq_false (by omega),Bool.not_false,cond_true];exact hw
  .rw [decide_eq_false h9,cond_false]
   obtain⟨n,rfl⟩:∃ n:Nat,a4=(n:Int):=⟨a4.toNat,by omega⟩
   have hn:n<=b.L.length:=by omega
   rw[zud hn,zyl,zay];have:=znf (a4:=(n:Int)) h hn (zaD a1 a2 a3 (n:Int) (k+300) b.L b.L b.S b.E b.C) n 0 (k+300) (by omega) (by omega) (by omega);exact this.trans (zyh h h1 h2 h3 hn)
theorem zvL (hl:a0.length<=100)(h1:a1.size<k+298)(h2:a2.size<k+298)(h3:a3.size<k+298):∀ (m i n:Nat) (b:Bk),a0.length-i=m->i<=a0.length->m<n->Made (k+298) b->f5_5 a0 a1 a2 a3 a4 (k+300) (zfZ a1 a2 a3 a4 (k+300)) n (i:Int) b.L b.L b.S b.E b.C=some true:=by
 have hw:((f14 (k+300)).bind λ x=>some x)=some true:=by rw[zoh];rfl
 intro m
 induction m with
 | zero =>
  intro i n b q1 q2 q3 h4;obtain⟨n,rfl⟩:∃ q,n=q+1:=⟨n-1,by omega⟩;simp only[f5_5,zt];rw[ltF (by omega),cond_false];exact zyi h4 h1 h2 h3
 | succ m ih =>
  intro i n b q1 q2 q3 h4;obtain⟨n,rfl⟩:∃ q,n=q+1:=⟨n-1,by omega⟩
  have hi:i<a0.length:=by omega
  have hb:=h4.ok (by omega);have hll:=hb.ll;simp only[f5_5,zt,zay];rw[ltT hi,cond_true,ze4 hi,zyl];by_cases h100:(100:Int)<(a0[i].size:Int)
  .rw [decide_eq_true h100,cond_true];exact hw
  .rw [decide_eq_false h100,cond_false]
   obtain⟨r,h79,ho⟩:=zt7 (N:=k+298) (y:=a0[i]) (by omega);have hwd:f52 (k+299) (BookM.mk true b.L) a0[i]=some (errM b r):=h4.would (N:=k+299) (by omega) (by omega) h79;have h18:f18 (k+300) a0[i] b.L b.S b.E b.C=some (outM (errM b r) (goM b a0[i] r)):=zrl (M:=k+297) hb (by omega) h79 ho
   have h19:f19 (k+300) a0[i] true b.L=some (errM b r,(goM b a0[i] r).L):=by
    rw[f19,f19b,hwd,zyl];by_cases he:errM b r=0
    .rw [decide_eq_true he,cond_true,zc6 (by simp;omega) (by simp;omega),zyl,go_L he]
    .rw [decide_eq_false he,cond_false,zvJ he]
   have ih':=ih (i+1) n (goM b a0[i] r) (by omega) (by omega) (by omega) (.step h4 h79);unfold zn;rw[ze4 hi,zyl,h18,zyl,zyl,h19,zyl,zcO (by omega)];show (bif decide (¬ errM b r=errM b r) then _ else f5_5 a0 a1 a2 a3 a4 (k+300) (zfZ a1 a2 a3 a4 (k+300)) n _ (goM b a0[i] r).L (goM b a0[i] r).L (goM b a0[i] r).S (goM b a0[i] r).E (goM b a0[i] r).C)=_;rw[ze8,cond_false];exact ih'
end
theorem ztu (a0:TL)(a1 a2 a3:ByteArray)(a4:Int):f5 (a1.size+a2.size+a3.size+300) a0 a1 a2 a3 a4=some true:=by
 unfold f5;by_cases h:(100:Int)<(a0.length:Int)
 .rw [decide_eq_true h,cond_true,zoh];rfl
 .rw [decide_eq_false h,cond_false,zay]
  exact zvL (by omega) (by omega) (by omega) (by omega) a0.length 0 _ Bk.new rfl (by omega) (by omega) .new
end Go.Vc
namespace Go.Vc
abbrev tLs:Ty := .slice .str false 1
theorem zrK {x:D}(h:tLs.hasD x):∃ l:List ByteArray,x=zaq l/\True:=by
 obtain⟨l,h1,_,_⟩:=zsJ (d:=strN) (p:=λ _=>True) (ds:=[x]) (λ cs h=>by
  simp only[Ty.has] at h;obtain⟨s,rfl,_⟩:=h
  exact⟨s,rfl,trivial⟩) h
 exact⟨l,List.singleton_inj.1 h1,trivial⟩
end Go.Vc
namespace Go.Vc
abbrev tS:Ty := .str
abbrev tI:Ty := .int .i64
def zyj (n:Int):Prop := -9223372036854775808<=n/\n<=9223372036854775807
theorem zyk {x:D}(h:tI.hasD x):∃ n,x=iN n/\zyj n:=by
 have h:tI.has [x]:=h;simp only[tI,Ty.has] at h;obtain⟨n,h1,h⟩:=h;exact⟨n,List.singleton_inj.1 h1,by simpa [IntKind.min,IntKind.max,IntKind.signed,IntKind.bits,zyj] using h⟩
theorem zrL {x:D}(h:tS.hasD x):∃ s,x=strN s:=by
 have h:tS.has [x]:=h;simp only[tS,Ty.has] at h;obtain⟨s,h1,_⟩:=h;exact⟨s,List.singleton_inj.1 h1⟩
end Go.Vc
namespace Go.Vc
open Go.Proofs
theorem lx_of {l:List (String×DataW Unit)} (h1:(l.filter λ x=>x.1 == "internal/strconv.uint64pow10")=[("internal/strconv.uint64pow10", Lib.tabData .u64 Lib.pow10Tab)]) {w:World} (h:laidMetH Tryz.prog l w.memory):LX Tryz.prog w:=by
 have h2:=laidMetH.filter (λ x=>x.1 == "internal/strconv.uint64pow10") h
 rw[h1,MakeChecks.laidMetH_plain _ _ _ (by rfl)] at h2;exact LX.heap (w:=w.memory) (Lib.tabIs_of_head (g:=0) (t:=226) (e:=182) (n:=20) (by kernel_rfl) (by kernel_rfl) (by kernel_rfl) (by kernel_rfl) (by kernel_rfl) (by kernel_rfl) h2) rfl
end Go.Vc

/-
  A library for proofs about Go functions by symbolic evaluation,and plain Lean functions that the walked Go functions compute (written by a program of this claim).
-/
import Derived.Test.YtijmkjnlgcockaaGreatDoorFSHF10
import Derived.Test.YtijmkjnlgcockaaGreatDoorFSHF5
import Derived.Test.YtijmkjnlgcockaaGreatDoorVc4
import Derived.Test.YtijmkjnlgcockaaGreatDoorFSHF1
import Derived.Test.YtijmkjnlgcockaaGreatDoorFSHF7
import Derived.Test.YtijmkjnlgcockaaGreatDoorVc3
import Derived.Test.YtijmkjnlgcockaaGreatDoorProg
import Derived.LaidSub
import Derived.MakeChecks
set_option linter.unusedVariables false
set_option linter.unnecessarySimpa false
set_option linter.unusedSimpArgs false
namespace Go.Vc
open Go.Proofs
abbrev TR:=List (ByteArray×RunM)
abbrev TH:=List (ByteArray×A2strN)
def zA:A2strN:=A2strN.mk zan zan
section
variable {κ σ τ:Type}
theorem zex [DecidableEq κ]{k:κ}:∀ {l:List (κ×σ)} {m:List (κ×τ)},l.map (·.1)=m.map (·.1)->zat k l=zat k m
 | [],[],_=>rfl
 | [],_::_,h=>by simp at h
 | _::_,[],h=>by simp at h
 | p::l,q::m,h=>by
  simp only[List.map_cons,List.cons.injEq] at h;simp only[zat,h.1,zex h.2]
theorem zey [DecidableEq κ]{z v:σ}{k k':κ}:∀ l:List (κ×σ),zaA z k (setK k' v l)=if k'=k then (v,true) else zaA z k l
 | []=>by simp[setK,zaA]
 | p::l=>by
  simp only[setK];by_cases h:p.1=k'
  .rw [if_pos h]
   simp only[zaA];by_cases h2:k'=k
   .simp [h2]
   .rw [if_neg h2,if_neg h2,if_neg (by rw[h];exact h2)]
  .rw [if_neg h]
   simp only[zaA];by_cases h3:p.1=k
   .rw [if_pos h3,if_pos h3,if_neg (λ e=>h (h3.trans e.symm))]
   .rw [if_neg h3,if_neg h3,zey l]
theorem zbM {l:List (κ×σ)}{i j:Nat}{f:σ->σ}:getF (modF l i f) j=if i=j then (getF l j).map f else getF l j:=by
 unfold getF;rw[zgI]
 split <;> cases l[j]? <;> rfl
theorem zf9 {l:List (κ×σ)}{i:Nat}{x:σ}(h:getF l i=some x):i<l.length:=by
 obtain⟨k,hk⟩:=zaT.1 h;exact(List.getElem?_eq_some_iff.1 hk).1
theorem zlV {l:List (κ×σ)}{m:List (κ×τ)}(h:l.map (·.1)=m.map (·.1)){i:Nat}{x:σ}(hx:getF l i=some x):∃ y,getF m i=some y:=by
 have h1:=zf9 hx
 have h2:l.length=m.length:=by simpa using congrArg List.length h
 have h3:i<m.length:=by omega
 exact⟨m[i].2,by simp[getF,List.getElem?_eq_getElem h3]⟩
theorem zd1 {l m:List (κ×σ)}{i:Nat}(h:i<l.length):getF (l++m) i=getF l i:=by
 simp[getF,List.getElem?_append_left h]
theorem zez {l:List (κ×σ)}{p:κ×σ}:getF (l++[p]) l.length=some p.2:=by simp[getF]
theorem zpf [DecidableEq κ]{l:List (κ×σ)}{i:Nat}{f:σ->σ}{k:κ}:zat k (modF l i f)=zat k l:=zex zbG
theorem ziV [DecidableEq κ]{k k':κ}{x:σ}:∀ l:List (κ×σ),zat k (l++[(k',x)])=match zat k l with|some i=>some i|none=>if k'=k then some l.length else none
 | []=>by simp only[List.nil_append,zat];split <;> simp
 | p::l=>by
  simp only[List.cons_append,zat,ziV l];by_cases h:p.1=k
  .simp [h]
  .simp only[h,if_false]
   cases zat k l with
   | some i=>simp
   | none=>by_cases h2:k'=k <;> simp[h2]
end
theorem zn6 {S:TS}{i:Nat}{f:StoneM->StoneM}{k:ByteArray}:stO (modF S i f) k=if zat k S=some i then (stO S k).map f else stO S k:=by
 unfold stO;rw[zpf]
 cases h:zat k S with
 | none=>rfl
 | some j =>
  simp only[Option.bind_some,zbM,Option.some.injEq];by_cases hj:j=i
  .subst hj;simp
  .rw [if_neg (λ e=>hj e.symm),if_neg hj]
structure EdR (e:EditionM)(r:RunM):Prop where
 ln:e.places.length=r.stones.length+1
 pl:∀ i:Nat,i<e.places.length->e.places[i]? = some (cnt i r.sheets)
 pp:e.paper=r.sheets.length
 dl:e.delivered=cnt (-2) r.sheets
 sp:e.spoilt=cnt (-1) r.sheets
 fr:e.from_=r.ground
 cl:e.closed=r.closed
 ow:e.owed=r.claims
 rg:∀ x,x∈r.sheets -> -2<=x/\x<(e.places.length:Int)
def onN (E:TE):Option Nat->ByteArray
 | none=>zan
 | some j=>((E[j]?).map (·.1)).getD zan
def ze5 (E:TE)(a:StoneM):A2strN:=⟨num a.thick.toNat,onN E a.of⟩
structure RelR (S:TS)(E:TE)(R:TR)(H:TH):Prop where
 ky:R.map (·.1)=E.map (·.1)
 ed:∀ j e r,getF E j=some e->getF R j=some r->EdR e r
 st:∀ k,zaA zA k H=match stO S k with|none=>(zA,false)|some a=>(ze5 E a,true)
 on:∀ k a j r,stO S k=some a->a.of=some j->getF R j=some r->0<=a.place/\r.stones[a.place.toNat]? = some k/\∀ i,a.place.toNat<i->r.stones[i]? ≠ some k
 nm:∀ k,k∈E.map (·.1)->k≠zan
 bk:∀ j r (i:Nat) k,getF R j=some r->r.ground<=(i:Int)->r.stones[i]? = some k->∃ a,stO S k=some a/\a.of=some j/\a.place=i
 sk:∀ k a,stO S k=some a->∃ q,q<3/\k=nm0 0 q
theorem zvz:RelR [] [] [] []:=⟨rfl,λ j e r h=>by simp[getF] at h,λ k=>rfl,λ k a j r h=>by simp[stO,zat] at h,λ k h=>by simp at h,λ j r i k h=>by simp[getF] at h,λ k a h=>by simp[stO,zat] at h⟩
theorem zn7 {E E':TE}(h:E'.map (·.1)=E.map (·.1))(o:Option Nat):onN E' o=onN E o:=by
 cases o with
 | none=>rfl
 | some j =>
  have:(E'[j]?).map (·.1)=(E[j]?).map (·.1):=by
   have:=congrArg (·[j]?) h;simpa using this
  simp only[onN,this]
theorem zg {E E':TE}(h:E'.map (·.1)=E.map (·.1))(a:StoneM):ze5 E' a=ze5 E a:=by simp only[ze5,zn7 h]
section
variable {S:TS} {E:TE} {R:TR} {H:TH} {n:Nat} {C:TC}
theorem RelR.modE (h:RelR S E R H){j:Nat}{e:EditionM}{r r':RunM}{f:EditionM->EditionM}(he:getF E j=some e)(hr:getF R j=some r)(h1:EdR (f e) r')(h2:r'.stones=r.stones)(h3:r'.ground=r.ground):RelR S (modF E j f) (setF R j r') H:=by
 have hs:setF R j r'=modF R j (λ _=>r'):=zb2 (f:=λ _=>r') hr;rw[hs];have hk:(modF E j f).map (·.1)=E.map (·.1):=zbG;refine⟨by rw[zbG,zbG];exact h.ky,λ i e1 r1 ha hb=>?_,λ k=>?_,λ k a i r1 ha hb hc=>?_,λ k=>by rw[hk];exact h.nm k,λ i r1 q k ha hb hc=>?_,h.sk⟩
 .rw [zbM] at ha hb
  by_cases hi:j=i
  .subst hi
   rw[if_pos rfl] at ha hb;rw[he] at ha;rw[hr] at hb
   cases ha;cases hb;exact h1
  .rw [if_neg hi] at ha hb
   exact h.ed i e1 r1 ha hb
 .rw [h.st k]
  cases stO S k with
  | none=>rfl
  | some a=>simp only[zg hk]
 .rw [zbM] at hc
  by_cases hi:j=i
  .subst hi
   rw[if_pos rfl,hr] at hc
   cases hc
   rw[h2];exact h.on k a j r ha hb hr
  .rw [if_neg hi] at hc
   exact h.on k a i r1 ha hb hc
 .rw [zbM] at ha
  by_cases hi:j=i
  .subst hi
   rw[if_pos rfl,hr] at ha
   cases ha
   rw[h2] at hc;rw[h3] at hb;exact h.bk j r q k hr hb hc
  .rw [if_neg hi] at ha
   exact h.bk i r1 q k ha hb hc
theorem RelR.runOf (h:RelR S E R H){j:Nat}{e:EditionM}(he:getF E j=some e):∃ r,getF R j=some r/\EdR e r:=by
 obtain⟨r,hr⟩:=zlV h.ky.symm he;exact⟨r,hr,h.ed j e r he hr⟩
theorem RelR.look (h:RelR S E R H)(k:ByteArray):zat k R=zat k E:=zex h.ky
theorem zm8 (hE:(E.map (·.1)).Nodup){j:Nat}{e:EditionM}(he:getF E j=some e):zat (onN E (some j)) E=some j:=by
 obtain⟨k,hk⟩:=zaT.1 he
 have:onN E (some j)=k:=by simp[onN,hk]
 rw[this];refine zbr.2 ⟨⟨e,hk⟩,λ i q hi hq hqk=>?_⟩;have h1:i<E.length:=(List.getElem?_eq_some_iff.1 hq).1;have h2:j<E.length:=(List.getElem?_eq_some_iff.1 hk).1
 have h4:(E.map (·.1))[i]'(by simpa using h1)=(E.map (·.1))[j]'(by simpa using h2):=by
  simp only[List.getElem_map];rw[(List.getElem?_eq_some_iff.1 hq).2,(List.getElem?_eq_some_iff.1 hk).2,hqk]
 exact List.pairwise_iff_getElem.1 hE i j (by simpa using h1) (by simpa using h2) hi h4
theorem RelR.addS (h:RelR S E R H){k:ByteArray}{t:Int}(hk:zat k S=none)(hq:∃ q,q<3/\k=nm0 0 q):RelR (S++[(k,⟨t,none,0⟩)]) E R (setK k ⟨num t.toNat,zan⟩ H):=by
 have hst:∀ k',stO (S++[(k,⟨t,none,0⟩)]) k'=if k=k' then some ⟨t,none,0⟩ else stO S k':=by
  intro k';unfold stO;rw[ziV];by_cases hkk:k=k'
  .subst hkk;rw[hk];simp[zez]
  .cases hl:zat k' S with
   | none=>simp[hkk]
   | some i =>
    obtain⟨⟨x,hx⟩,_⟩:=zbr.1 hl;simp only[if_neg hkk,Option.bind_some];exact zd1 (List.getElem?_eq_some_iff.1 hx).1
 refine⟨h.ky,h.ed,λ k' => ?_,λ k' a j r ha hb hc=>?_,h.nm,λ j r i k' ha hb hc=>?_,λ k' a ha=>?_⟩
 rotate_left 2
 .obtain ⟨a,h1,h2,h3⟩:=h.bk j r i k' ha hb hc
  refine⟨a, ?_,h2,h3⟩;rw[hst,if_neg]
  .exact h1
  .intro e;subst e
   unfold stO at h1;rw[hk] at h1;cases h1
 .rw [hst] at ha
  by_cases hkk:k=k'
  .subst hkk;exact hq
  .rw [if_neg hkk] at ha;exact h.sk k' a ha
 .rw [zey,hst]
  by_cases hkk:k=k'
  .simp [hkk,ze5,onN]
  .rw [if_neg hkk,if_neg hkk,h.st]
 .rw [hst] at ha
  by_cases hkk:k=k'
  .rw [if_pos hkk] at ha;cases ha;cases hb
  .rw [if_neg hkk] at ha;exact h.on k' a j r ha hb hc
theorem RelR.addE (h:RelR S E R H)(hS:∀ k a j,stO S k=some a->a.of=some j->j<E.length){k:ByteArray}(hk0:k≠zan)(hk:zat k E=none) :
  RelR S (E++[(k,⟨k,false,[0],0,0,0,0,[],0⟩)]) (R++[(k,⟨[],[],0,false,[]⟩)]) H:=by
 have hl:R.length=E.length:=by simpa using congrArg List.length h.ky
 have hon:∀ k' a,stO S k'=some a->ze5 (E++[(k,⟨k,false,[0],0,0,0,0,[],0⟩)]) a=ze5 E a:=by
  intro k' a ha;unfold ze5
  cases hof:a.of with
  | none=>rfl
  | some j=>simp only[onN,List.getElem?_append_left (hS k' a j ha hof)]
 refine⟨by simp[h.ky],λ j e r he hr=>?_,λ k' => ?_,λ k' a j r ha hb hc=>?_,λ k' hk' => ?_,λ j r i k' ha hb hc=>?_,h.sk⟩
 rotate_left 4
 .by_cases hj:j<R.length
  .rw [zd1 hj] at ha;exact h.bk j r i k' ha hb hc
  .have h1:=zf9 ha
   have:j=R.length:=by simp at h1;omega
   subst this;rw[zez] at ha;cases ha;simp at hc
 .by_cases hj:j<E.length
  .rw [zd1 hj] at he;rw[zd1 (by omega)] at hr;exact h.ed j e r he hr
  .have h1:=zf9 he
   have:j=E.length:=by simp at h1;omega
   subst this;rw[zez] at he;rw[show E.length=R.length from hl.symm,zez] at hr
   cases he;cases hr
   refine⟨rfl,λ i hi=>?_,rfl,rfl,rfl,rfl,rfl,rfl,λ x hx=>by simp at hx⟩
   have:i=0:=by simp at hi;omega
   subst this;rfl
 .rw [h.st]
  cases ha:stO S k' with
  | none=>rfl
  | some a=>simp only[hon k' a ha]
 .have hj:=hS k' a j ha hb
  rw[zd1 (by omega)] at hc;exact h.on k' a j r ha hb hc
 .simp only[List.map_append,List.mem_append,List.map_cons,List.map_nil,List.mem_singleton] at hk'
  rcases hk' with hk'|rfl
  .exact h.nm k' hk'
  .exact hk0
theorem RelR.draw (h:RelR S E R H){k:ByteArray}{i j:Nat}{a:StoneM}{e:EditionM}{r:RunM}(hof:a.of=none)(hi:zat k S=some i)(ha:getF S i=some a)(he:getF E j=some e)(hr:getF R j=some r) :
  RelR (modF S i λ a=>{ a with of:=some j,place:=(e.places.length:Nat)-1 }) (modF E j λ e=>{ e with places:=e.places++[0] }) (setF R j { r with stones:=r.stones++[k] }) (setK k ⟨num a.thick.toNat,onN E (some j)⟩ H):=by
 have hd:=h.ed j e r he hr;have hs:setF R j { r with stones:=r.stones++[k] }=modF R j (λ _=>{ r with stones:=r.stones++[k] }):=zb2 (f:=λ _=>{ r with stones:=r.stones++[k] }) hr;rw[hs];have hk:(modF E j λ e=>{ e with places:=e.places++[0] }).map (·.1)=E.map (·.1):=zbG
 have hak:stO S k=some a:=by unfold stO;rw[hi];exact ha
 have hln:=hd.ln
 have hst:∀ k',stO (modF S i λ a=>{ a with of:=some j,place:=(e.places.length:Nat)-1 }) k'=if k=k' then some { a with of:=some j,place:=(e.places.length:Nat)-1 } else stO S k':=by
  intro k';rw[zn6];by_cases hkk:k=k'
  .subst hkk;rw[if_pos hi,if_pos rfl,hak];rfl
  .rw [if_neg hkk,if_neg]
   intro hl;obtain⟨⟨x,hx⟩,_⟩:=zbr.1 hl;obtain⟨⟨y,hy⟩,_⟩:=zbr.1 hi;rw[hx] at hy;cases hy;exact hkk rfl
 refine⟨by rw[zbG,zbG];exact h.ky,λ i' e1 r1 hA hB=>?_,λ k' => ?_,λ k' a' i' r1 hA hB hC=>?_,λ k=>by rw[hk];exact h.nm k,λ i' r1 q k' hA hB hC=>?_,λ k' a' hA=>?_⟩
 rotate_left 3
 .have old:∀ r2,getF R i'=some r2->r2.ground<=(q:Int)->r2.stones[q]? = some k'->∃ a',stO (modF S i λ a=>{ a with of:=some j,place:=(e.places.length:Nat)-1 }) k'=some a'/\a'.of=some i'/\a'.place=q:=by
   intro r2 g1 g2 g3;obtain⟨a',h1,h2,h3⟩:=h.bk i' r2 q k' g1 g2 g3;refine⟨a', ?_,h2,h3⟩;rw[hst,if_neg]
   .exact h1
   .intro e;subst e
    rw[hak] at h1;cases h1;rw[hof] at h2;cases h2
  rw[zbM] at hA;by_cases hi':j=i'
  .subst hi'
   rw[if_pos rfl,hr] at hA
   cases hA
   have hC:(r.stones++[k])[q]? = some k':=hC;have hB:r.ground<=(q:Int):=hB;by_cases hq':q<r.stones.length
   .rw [List.getElem?_append_left hq'] at hC
    exact old r hr hB hC
   .rw [List.getElem?_append_right (by omega)] at hC
    cases hz:q-r.stones.length with
    | succ m=>rw[hz] at hC;simp at hC
    | zero =>
     rw[hz] at hC;simp at hC;subst hC;refine⟨{ a with of:=some j,place:=(e.places.length:Nat)-1 },by rw[hst,if_pos rfl],rfl, ?_⟩;show ((e.places.length:Nat):Int)-1=q;omega
  .rw [if_neg hi'] at hA
   exact old r1 hA hB hC
 .rw [hst] at hA
  by_cases hkk:k=k'
  .subst hkk;exact h.sk k a hak
  .rw [if_neg hkk] at hA;exact h.sk k' a' hA
 .rw [zbM] at hA hB
  by_cases hi':j=i'
  .subst hi'
   rw[if_pos rfl] at hA hB;rw[he] at hA;rw[hr] at hB
   cases hA;cases hB
   refine⟨by simp[hln],λ q hq=>?_,hd.pp,hd.dl,hd.sp,hd.fr,hd.cl,hd.ow,λ x hx=>?_⟩
   .simp only[List.length_append,List.length_singleton] at hq
    by_cases hq':q<e.places.length
    .rw [List.getElem?_append_left hq'];exact hd.pl q hq'
    .have:q=e.places.length:=by omega
     subst this;rw[List.getElem?_append_right (Nat.le_refl _)];simp only[Nat.sub_self,List.getElem?_cons_zero,Option.some.injEq];exact(zrC λ x hx he=>by have:=(hd.rg x hx).2;omega).symm
   .have:=hd.rg x hx
    simp only[List.length_append,List.length_singleton];omega
  .rw [if_neg hi'] at hA hB
   exact h.ed i' e1 r1 hA hB
 .rw [zey,hst]
  by_cases hkk:k=k'
  .rw [if_pos hkk,if_pos hkk];simp only[ze5,zn7 hk]
  .rw [if_neg hkk,if_neg hkk,h.st]
   cases stO S k' with
   | none=>rfl
   | some a=>simp only[zg hk]
 .rw [hst] at hA
  rw[zbM] at hC;by_cases hkk:k=k'
  .subst hkk
   rw[if_pos rfl] at hA
   cases hA
   cases hB
   rw[if_pos rfl,hr] at hC
   cases hC
   have hp:((e.places.length:Int)-1).toNat=r.stones.length:=by omega
   refine⟨by show 0<=((e.places.length:Nat):Int)-1;omega, ?_,λ q hq=>?_⟩
   .show (r.stones++[k])[((e.places.length:Int)-1).toNat]? = some k
    rw[hp];simp
   .have hq:((e.places.length:Int)-1).toNat<q:=hq
    rw[List.getElem?_eq_none (by simp;omega)];simp
  .rw [if_neg hkk] at hA
   by_cases hi':j=i'
   .subst hi'
    rw[if_pos rfl,hr] at hC
    cases hC
    obtain⟨h1,h2,h3⟩:=h.on k' a' j r hA hB hr;refine⟨h1, ?_,λ q hq=>?_⟩
    .show (r.stones++[k])[a'.place.toNat]? = some k'
     rw[List.getElem?_append_left (List.getElem?_eq_some_iff.1 h2).1];exact h2
    .show (r.stones++[k])[q]? ≠ some k'
     by_cases hq':q<r.stones.length
     .rw [List.getElem?_append_left hq'];exact h3 q hq
     .rw [List.getElem?_append_right (by omega)]
      cases hz:q-r.stones.length with
      | zero=>simp[hkk]
      | succ m=>simp
   .rw [if_neg hi'] at hC
    exact h.on k' a' i' r1 hA hB hC
theorem RelR.grind (h:RelR S E R H){k:ByteArray}{i j:Nat}{a:StoneM}{e:EditionM}{r:RunM}(hi:zat k S=some i)(ha:getF S i=some a)(hof:a.of=some j)(he:getF E j=some e)(hr:getF R j=some r)(q:Int)(hq:q=a.place+1) :
  RelR (modF S i λ a=>⟨a.thick-1,none,0⟩) (modF E j λ e=>{ e with from_:=max e.from_ q }) (setF R j { r with ground:=max r.ground q }) (setK k ⟨num (a.thick-1).toNat,zan⟩ H):=by
 have hd:=h.ed j e r he hr;have hs:setF R j { r with ground:=max r.ground q }=modF R j (λ _=>{ r with ground:=max r.ground q }):=zb2 (f:=λ _=>{ r with ground:=max r.ground q }) hr;rw[hs];have hk:(modF E j λ e=>{ e with from_:=max e.from_ q }).map (·.1)=E.map (·.1):=zbG
 have hak:stO S k=some a:=by unfold stO;rw[hi];exact ha
 have hst:∀ k',stO (modF S i λ a=>⟨a.thick-1,none,0⟩) k'=if k=k' then some ⟨a.thick-1,none,0⟩ else stO S k':=by
  intro k';rw[zn6];by_cases hkk:k=k'
  .subst hkk;rw[if_pos hi,if_pos rfl,hak];rfl
  .rw [if_neg hkk,if_neg]
   intro hl;obtain⟨⟨x,hx⟩,_⟩:=zbr.1 hl;obtain⟨⟨y,hy⟩,_⟩:=zbr.1 hi;rw[hx] at hy;cases hy;exact hkk rfl
 refine⟨by rw[zbG,zbG];exact h.ky,λ i' e1 r1 hA hB=>?_,λ k' => ?_,λ k' a' i' r1 hA hB hC=>?_,λ k=>by rw[hk];exact h.nm k,λ i' r1 w k' hA hB hC=>?_,λ k' a' hA=>?_⟩
 .rw [zbM] at hA hB
  by_cases hi':j=i'
  .subst hi'
   rw[if_pos rfl] at hA hB;rw[he] at hA;rw[hr] at hB
   cases hA;cases hB
   exact⟨hd.ln,hd.pl,hd.pp,hd.dl,hd.sp,by show max e.from_ q=max r.ground q;rw[hd.fr],hd.cl,hd.ow,hd.rg⟩
  .rw [if_neg hi'] at hA hB
   exact h.ed i' e1 r1 hA hB
 .rw [zey,hst]
  by_cases hkk:k=k'
  .rw [if_pos hkk,if_pos hkk];rfl
  .rw [if_neg hkk,if_neg hkk,h.st]
   cases stO S k' with
   | none=>rfl
   | some a=>simp only[zg hk]
 .rw [hst] at hA
  by_cases hkk:k=k'
  .rw [if_pos hkk] at hA;cases hA;cases hB
  .rw [if_neg hkk] at hA
   rw[zbM] at hC;by_cases hi':j=i'
   .subst hi'
    rw[if_pos rfl,hr] at hC
    cases hC
    exact h.on k' a' j r hA hB hr
   .rw [if_neg hi'] at hC
    exact h.on k' a' i' r1 hA hB hC
 .have old:∀ r2,getF R i'=some r2->r2.ground<=(w:Int)->(i'=j->q<=(w:Int))->r2.stones[w]? = some k'->∃ a',stO (modF S i λ a=>⟨a.thick-1,none,0⟩) k'=some a'/\a'.of=some i'/\a'.place=w:=by
   intro r2 g1 g2 g4 g3;obtain⟨a',h1,h2,h3⟩:=h.bk i' r2 w k' g1 g2 g3;refine⟨a', ?_,h2,h3⟩;rw[hst,if_neg]
   .exact h1
   .intro e;subst e
    rw[hak] at h1;cases h1;rw[hof] at h2;cases h2;have:=g4 rfl;omega
  rw[zbM] at hA;by_cases hi':j=i'
  .subst hi'
   rw[if_pos rfl,hr] at hA
   cases hA
   have hB:max r.ground q<=(w:Int):=hB;exact old r hr (by omega) (λ _=>by omega) hC
  .rw [if_neg hi'] at hA
   exact old r1 hA hB (λ e=>absurd e.symm hi') hC
 .rw [hst] at hA
  by_cases hkk:k=k'
  .subst hkk;exact h.sk k a hak
  .rw [if_neg hkk] at hA;exact h.sk k' a' hA
end
end Go.Vc
namespace Go.Vc
open Go.Proofs
section
variable {α β ρ:Type}
theorem zcG {p:Prop}[Decidable p]{a b c:α}(h:p)(h2:a=c):(bif decide p then a else b)=c:=by rw[decide_eq_true h];exact h2
theorem za2 {p:Prop}[Decidable p]{a b c:α}(h:¬ p)(h2:b=c):(bif decide p then a else b)=c:=by rw[decide_eq_false h];exact h2
theorem zac {o:Option α}{x:α}{f:α->Option β}{c:Option β}(h:o=some x)(h2:f x=c):o.bind f=c:=by rw[h];exact h2
theorem zlW {o:Option Nat}{i:Nat}{a c:Option β}{b:Nat->Option β}(h:o=some i)(h2:b i=c):onO o a b=c:=by rw[h];exact h2
end
theorem pcsN {N:Nat}(hN:N=400){l:Ln}(h:l.ok):f31 N (txt nm0 l)=some (pcs l):=by rw[hN];exact zxs h
theorem zfK {N:Nat}(hN:N=400){n:Nat}(h:n<=300):f49 N (num n)=some (n:Int):=by rw[hN];exact zrB h
theorem itoaN {N:Nat}(hN:N=400){n:Nat}(h:n<=300):f30 N (n:Int)=some (num n):=by rw[hN];exact ztr h
theorem zd2 {l:Ln}:app 16 (pcs l) [zan,zan,zan]=some (pcs l++[zan,zan,zan]):=by
 unfold app;rw[if_pos]
 have:(pcs l).length<=4:=by cases l <;> simp[pcs]
 have h2:([zan,zan,zan]:TL).length=3:=rfl;simp only[h2,maxLen];omega
theorem W1 {n:Nat}(h:n<=100000):W ((n:Int)+1)=((n+1:Nat):Int):=by rw[zaH (by omega) (by omega)];simp
theorem zhZ {κ σ:Type}{l:List (κ×σ)}{i:Nat}{x:σ}(h:getF l i=some x):setF l i x=l:=by
 obtain⟨k,hk⟩:=zaT.1 h;unfold setF;apply List.ext_getElem?;intro j;simp only[List.getElem?_modify];by_cases hj:i=j
 .subst hj;simp[hk]
 .simp [hj]
theorem zrD {κ σ:Type}{l:List (κ×σ)}{i:Nat}{x:σ}:(setF l i x).map (·.1)=l.map (·.1):=by
 unfold setF;apply List.ext_getElem?;intro j;simp only[List.getElem?_map,List.getElem?_modify];by_cases hj:i=j
 .subst hj;cases l[i]? <;> simp
 .simp [hj]
theorem app8 {l:List Int}(h:l.length<=100000):app 8 l [(0:Int)]=some (l++[0]):=by
 unfold app;rw[if_pos];have h2:([0]:List Int).length=1:=rfl;simp only[h2,maxLen];omega
theorem app16 {l:TL}{x:ByteArray}(h:l.length<=100000):app 16 l [x]=some (l++[x]):=by
 unfold app;rw[if_pos];have h2:([x]:TL).length=1:=rfl;simp only[h2,maxLen];omega
def zlX (k:ByteArray):TL->Int->Nat->Int
 | [],c,_=>c
 | s::l,c,i=>zlX k l (if s=k then (i:Int) else c) (i+1)
theorem zn8 {k:ByteArray}:∀ {l:TL} {c:Int} {i:Nat},(∀ j:Nat,l[j]? ≠ some k)->zlX k l c i=c
 | [],c,i,h=>rfl
 | s::l,c,i,h=>by
  have h0:s≠k:=λ e=>h 0 (by simp[e]);simp only[zlX,if_neg h0];exact zn8 λ j hj=>h (j+1) (by simpa using hj)
theorem zj9 {k:ByteArray}:∀ {l:TL} {c:Int} {i p:Nat},l[p]? = some k->(∀ j:Nat,p<j->l[j]? ≠ some k)->zlX k l c i=((i+p:Nat):Int)
 | [],c,i,p,h,h2=>by simp at h
 | s::l,c,i,p,h,h2=>by
  simp only[zlX]
  cases p with
  | zero =>
   simp at h;rw[if_pos h,zn8 λ j hj=>h2 (j+1) (by omega) (by simpa using hj)];simp
  | succ p =>
   rw[zj9 (p:=p) (by simpa using h) λ j hj hk=>h2 (j+1) (by omega) (by simpa using hk)];omega
def zts {ρ:Type}(k:ByteArray)(L:TL)(F:Int->Int->Option ρ)(K:Int->Option ρ)(c v:Int):Option ρ :=
 bif decide (v<(List.length L:Int)) then ((ix L v).bind λ x=>bif decide (x=k) then (F v (W (v+(1:Int)))) else (F c (W (v+(1:Int))))) else (K c)
theorem last_eq {ρ:Type}{k:ByteArray}{L:TL}{F:Nat->Int->Int->Option ρ}{K:Int->Option ρ}(hm:L.length<=100000)(hF:∀ n c v,F (n+1) c v=zts k L (F n) K c v) :
  ∀ (r d:TL) (n:Nat) (c:Int),d++r=L->r.length<n->F n c (d.length:Int)=K (zlX k r c d.length)
 | [],d,n,c,h1,h2=>by
  cases n with
  | zero=>omega
  | succ n =>
   rw[hF];refine za2 ?_ rfl;rw[<- h1];simp
 | s::r,d,n,c,h1,h2=>by
  cases n with
  | zero=>omega
  | succ n =>
   simp only[List.length_cons] at h2
   have hl:d.length+(r.length+1)=L.length:=by rw[<- h1];simp
   have hix:ix L (d.length:Int)=some s:=by
    unfold ix;rw[if_pos (by omega),<- h1];simp
   have hw:W ((d.length:Int)+1)=((d++[s]).length:Int):=by rw[zaH (by omega) (by omega)];simp
   rw[hF];refine zcG (by omega) (zac hix ?_);by_cases hk:s=k
   .refine zcG hk ?_
    rw[hw,last_eq hm hF r (d++[s]) n _ (by simpa using h1) (by omega)];simp[zlX,hk]
   .refine za2 hk ?_
    rw[hw,last_eq hm hF r (d++[s]) n _ (by simpa using h1) (by omega)];simp[zlX,hk]
section
variable {B1:TL} {B2:TS} {B3:TE} {B4:TC} {x2:TL} {k6:TR->TH->Option Bool} {v:Nat} {r4:Int->TR->TH->Option Bool}
variable {R:TR} {H:TH} {N:Nat}
theorem zfL (hv:v<=100000){R':TR}{H':TH}:zbd B1 B2 B3 B4 x2 (v:Int) r4 R' H'=r4 ((v+1:Nat):Int) R' H':=by rw[zbd,W1 hv]
theorem zrE {a n:Nat}(hN:N=400)(hl:(Ln.stone a n).ok)(hv:v<x2.length)(hv2:v<=100000)(hx:ix x2 (v:Int)=some (txt nm0 (.stone a n))) :
  zaC r4 N B1 B2 B3 B4 x2 k6 (v:Int) R H=r4 ((v+1:Nat):Int) R (setK (nm0 0 a) ⟨num n,zan⟩ H):=by
 unfold zaC;simp only[zaR];refine zcG (by omega) (zac hx (zac (pcsN hN hl) (zac zd2 (zac rfl (zac rfl (zac rfl (zcG rfl (zac rfl (zac rfl (zfL hv2))))))))))
theorem zm9 {e:Nat}(hN:N=400)(hl:(Ln.edition e).ok)(hv:v<x2.length)(hv2:v<=100000)(hx:ix x2 (v:Int)=some (txt nm0 (.edition e)))(hn:zat (nm0 1 e) R=none) :
  zaC r4 N B1 B2 B3 B4 x2 k6 (v:Int) R H=r4 ((v+1:Nat):Int) (R++[(nm0 1 e,⟨[],[],0,false,[]⟩)]) H:=by
 unfold zaC;simp only[zaR];refine zcG (by omega) (zac hx (zac (pcsN hN hl) (zac zd2 (zac rfl (zac rfl (zac rfl (za2 (by decide) (zcG rfl (zac rfl (zac ?_ (zfL hv2)))))))))));unfold insF;rw[show zat (nm0 1 e) R=none from hn]
theorem ztt {a e:Nat}{j:Nat}{r:RunM}{h:A2strN}(hN:N=400)(hl:(Ln.draw a e).ok)(hv:v<x2.length)(hv2:v<=100000)(hx:ix x2 (v:Int)=some (txt nm0 (.draw a e)))
  (hj:zat (nm0 1 e) R=some j) (hr:getF R j=some r) (hc:r.closed=false) (hh:zaA zA (nm0 0 a) H=(h,true)) (h0:h.e0≠zan) (h1:h.e1=zan) (hs:r.stones.length<=1000) :
  zaC r4 N B1 B2 B3 B4 x2 k6 (v:Int) R H=r4 ((v+1:Nat):Int) (setF R j { r with stones:=r.stones++[nm0 0 a] }) (setK (nm0 0 a) ⟨h.e0,nm0 1 e⟩ H):=by
 unfold zaC;simp only[zaR];refine zcG (by omega) (zac hx (zac (pcsN hN hl) (zac zd2 (zac rfl (zac rfl (zac rfl (za2 (by decide) (za2 (by decide) (zcG rfl (zlW hj (zac hr ?_)))))))))));rw[hc,cond_false];refine zac rfl ?_;have hh':some (zaA (A2strN.mk zan zan) (nm0 0 a) H)=some (h,true):=congrArg some hh;refine zac hh' (za2 h0 (zac hh' (za2 (λ hne=>hne h1) (zac hh' (zac rfl (zac (app16 (by omega)) (zac rfl (zfL hv2))))))))
theorem ziW {x42:TL}{key:ByteArray}{j:Nat}{m:Int}{k7:TR->TH->Option Bool}(hm:m<=100):∀ (q:Nat) (n:Nat) (i:Nat) (R:TR) (r:RunM),(i:Int)+q=m->q<n->zat key R=some j->getF R j=some r->r.sheets.length+q<=90000 ->
  zbT B1 B2 B3 B4 x2 (v:Int) H k7 x42 key m n (i:Int) R=k7 (setF R j { r with sheets:=r.sheets++List.replicate q 0 }) H
 | 0,n,i,R,r,h1,h2,h3,h4,h5=>by
  cases n with
  | zero=>omega
  | succ n =>
   unfold zbT zdp;refine za2 (by omega) ?_;have:setF R j { r with sheets:=r.sheets++List.replicate 0 0 }=R:=zhZ (by simpa using h4);rw[this]
 | q+1,n,i,R,r,h1,h2,h3,h4,h5=>by
  cases n with
  | zero=>omega
  | succ n =>
   unfold zbT zdp;refine zcG (by omega) (zlW h3 (zac h4 (zac (app8 (by omega)) (zac rfl ?_))));have hw:W ((i:Int)+1)=((i+1:Nat):Int):=W1 (by omega);rw[hw,ziW hm q n (i+1) (setF R j { r with sheets:=r.sheets++[0] }) { r with sheets:=r.sheets++[0] } (by omega) (by omega) (by rw[zex zrD];exact h3) (zc9 h4) (by simp;omega)];rw[zcF];simp[List.replicate_succ]
theorem zrF {e n:Nat}{j:Nat}{r:RunM}(hN:N=400)(hl:(Ln.paper e n).ok)(hv:v<x2.length)(hv2:v<=100000)(hx:ix x2 (v:Int)=some (txt nm0 (.paper e n)))(hj:zat (nm0 1 e) R=some j)(hr:getF R j=some r)(hs:r.sheets.length<=10000) :
  zaC r4 N B1 B2 B3 B4 x2 k6 (v:Int) R H=r4 ((v+1:Nat):Int) (setF R j { r with sheets:=r.sheets++List.replicate n 0 }) H:=by
 unfold zaC;simp only[zaR];have hn:n<=20:=hl.2.2;refine zcG (by omega) (zac hx (zac (pcsN hN hl) (zac zd2 (zac rfl (zac rfl (zac rfl (za2 (by decide) (za2 (by decide) (za2 (by decide) (zcG rfl (zac rfl (zlW hj (zac (zfK hN (by omega)) ?_)))))))))))));have h0:=λ k7=>ziW (B1:=B1) (B2:=B2) (B3:=B3) (B4:=B4) (x2:=x2) (v:=v) (H:=H) (x42:=pcs (.paper e n)++[zan,zan,zan]) (key:=nm0 1 e) (m:=(n:Int)) (k7:=k7) (by omega) n N 0 R r (by omega) (by omega) hj hr (by omega);rw[show ((0:Nat):Int)=(0:Int) from rfl] at h0;exact(h0 _).trans (zfL hv2)
theorem zrG {e:Nat}{j:Nat}{r:RunM}(hN:N=400)(hl:(Ln.close e).ok)(hv:v<x2.length)(hv2:v<=100000)(hx:ix x2 (v:Int)=some (txt nm0 (.close e)))(hj:zat (nm0 1 e) R=some j)(hr:getF R j=some r) :
  zaC r4 N B1 B2 B3 B4 x2 k6 (v:Int) R H=r4 ((v+1:Nat):Int) (setF R j { r with closed:=true }) H:=by
 unfold zaC;simp only[zaR];exact zcG (by omega) (zac hx (zac (pcsN hN hl) (zac zd2 (zac rfl (zac rfl (zac rfl (za2 (by decide) (za2 (by decide) (za2 (by decide) (za2 (by decide) (za2 (by decide) (za2 (by decide) (zcG rfl (zac rfl (zlW hj (zac hr (zac rfl (zfL hv2))))))))))))))))))
theorem zrH {c e n:Nat}{j:Nat}{r:RunM}(hN:N=400)(hl:(Ln.claim c e n).ok)(hv:v<x2.length)(hv2:v<=100000)(hx:ix x2 (v:Int)=some (txt nm0 (.claim c e n)))(hj:zat (nm0 1 e) R=some j)(hr:getF R j=some r)(hb : -10000<=(zaA 0 (nm0 2 c) r.claims).1/\(zaA 0 (nm0 2 c) r.claims).1<=10000) :
  zaC r4 N B1 B2 B3 B4 x2 k6 (v:Int) R H=r4 ((v+1:Nat):Int) (setF R j { r with claims:=setK (nm0 2 c) ((zaA 0 (nm0 2 c) r.claims).1+n) r.claims }) H:=by
 unfold zaC;simp only[zaR];have hn:n<=9:=hl.2.2.2;refine zcG (by omega) (zac hx (zac (pcsN hN hl) (zac zd2 (zac rfl (zac rfl (zac rfl (za2 (by decide) (za2 (by decide) (za2 (by decide) (za2 (by decide) ?_))))))))));refine za2 (by decide) (za2 (by decide) (za2 (by decide) (zcG rfl (zlW hj (zac rfl (zac (zfK hN (by omega)) ?_))))));refine za2 (by decide) (zac hr (zac rfl (zac rfl (zac rfl (zac rfl ?_)))));rw[show W ((zaA (0:Int) (nm0 2 c) r.claims).1+(n:Int))=(zaA 0 (nm0 2 c) r.claims).1+n from zaH (by omega) (by omega)];exact zfL hv2
end
end Go.Vc
namespace Go.Vc
open Go.Proofs
theorem zh0 {α:Type}{l m:List α}(h:m.length=l.length):zfY l m=some m:=if_pos h.symm
theorem zga {α β:Type}{x:α}{f:α->Option β}:(some x).bind f=f x:=rfl
theorem zlY {α:Type}{l:List α}{i:Nat}{x:α}(h:l[i]? = some x):ix l (i:Int)=some x:=by
 unfold ix;rw[if_pos (by omega)];simpa using h
section
variable {B1:TL} {B2:TS} {B3:TE} {B4:TC} {x2:TL} {k6:TR->TH->Option Bool} {v:Nat} {r4:Int->TR->TH->Option Bool}
variable {R:TR} {H:TH} {N:Nat} {k7:TR->TH->Option Bool} {x42:TL} {x43:ByteArray}
theorem ztu {j:Nat}{p:Int}{r:RunM}{b0:List Int}{n:Int}(hm:b0.length<=10000)(hN:b0.length<N)(hr:getF R j=some r)(hp : -10<=p/\p<=10000)(hn:0<=n/\n<=1000000) :
  zal B1 B2 B3 B4 x2 H k7 x42 j p b0 (setF R j { r with sheets:=b0 }) N n 0 b0=k7 (setF R j { r with sheets:=mv p (p+1) n b0 }) H:=by
 have hr':getF (setF R j { r with sheets:=b0 }) j=some { r with sheets:=b0 }:=zc9 hr;have hw:W (p+1)=p+1:=zaH (by omega) (by omega)
 have hF:∀ (n':Nat) k v b,b.length=b0.length->zal B1 B2 B3 B4 x2 H k7 x42 j p b0 (setF R j { r with sheets:=b0 }) (n'+1) k v b =
   zfJ p (p+1) b0.length (zal B1 B2 B3 B4 x2 H k7 x42 j p b0 (setF R j { r with sheets:=b0 }) n') (λ b=>k7 (setF R j { r with sheets:=b }) H) k v b:=by
  intro n' k v b hb;show zaN _ B1 B2 B3 B4 x2 H k7 x42 j p b0 (setF R j { r with sheets:=b0 }) k v b=_;unfold zaN zfJ;simp only[hr',zga,zh0 hb,zcF,hw]
 have:=zf8 (a:=p) (t:=p+1) (m:=b0.length) (by omega) hF b0 [] N n (by simp) hN hn.1 hn.2;simpa using this
theorem ztv {j:Nat}{p:Int}{r:RunM}{n k:Nat}(hN0:N=400)(hm:r.sheets.length<=10000)(hN:r.sheets.length<N)(hr:getF R j=some r)(hp : -10<=p/\p<=10000)(hn:n<=300)(hk:k<=300) :
  zar N B1 B2 B3 B4 x2 H k7 x42 (num n) j p r R N k 0 r.sheets=k7 (setF R j { r with sheets:=mv p (p+1) n (mv p (-1) k r.sheets) }) H:=by
 have hF:∀ (n':Nat) k v b,b.length=r.sheets.length->zar N B1 B2 B3 B4 x2 H k7 x42 (num n) j p r R (n'+1) k v b =
   zfJ p (-1) r.sheets.length (zar N B1 B2 B3 B4 x2 H k7 x42 (num n) j p r R n') (λ b=>zal B1 B2 B3 B4 x2 H k7 x42 j p b (setF R j { r with sheets:=b }) N n 0 b) k v b:=by
  intro n' k v b hb;show zaO _ N B1 B2 B3 B4 x2 H k7 x42 (num n) j p r R k v b=_;unfold zaO zfJ;simp only[hr,zga,zh0 hb,zfK hN0 hn]
 have:=zf8 (a:=p) (t := -1) (m:=r.sheets.length) (by omega) hF r.sheets [] N k (by simp) hN (by omega) (by omega);rw[show ((([]:List Int).length:Nat):Int)=0 from rfl,List.nil_append] at this;rw[this];simp only[List.nil_append];refine(ztu (r:=r) (by rw[zlS];exact hm) (by rw[zlS];exact hN) hr hp ⟨by omega,by omega⟩)
theorem ztw {j:Nat}{p:Nat}{r:RunM}{n:Nat}{c:ByteArray}(hm:r.sheets.length<=10000)(hN:r.sheets.length<N)(hr:getF R j=some r)(hn:n<=300)(hb : -10000<=(zaA 0 c r.claims).1/\(zaA 0 c r.claims).1<=10000) :
  zap B1 B2 B3 B4 x2 R H k7 x42 j n r c p N n 0 r.sheets=k7 (setF R j { r with sheets:=mv p (-2) n r.sheets,claims:=setK c ((zaA 0 c r.claims).1-n) r.claims }) H:=by
 have hw:W ((zaA (0:Int) c r.claims).1+W (0-(n:Int)))=(zaA 0 c r.claims).1-n:=by
  rw[zaH (n:=0-(n:Int)) (by omega) (by omega),zaH (by omega) (by omega)];omega
 have hF:∀ (n':Nat) k v b,b.length=r.sheets.length->zap B1 B2 B3 B4 x2 R H k7 x42 j n r c p (n'+1) k v b =
   zfJ p (-2) r.sheets.length (zap B1 B2 B3 B4 x2 R H k7 x42 j n r c p n') (λ b=>k7 (setF R j { r with sheets:=b,claims:=setK c ((zaA 0 c r.claims).1-n) r.claims }) H) k v b:=by
  intro n' k v b hb;show zaI _ B1 B2 B3 B4 x2 R H k7 x42 j n r c p k v b=_;unfold zaI zfJ;simp only[zga,zh0 hb,hw,zcF]
 have:=zf8 (a:=p) (t := -2) (m:=r.sheets.length) (by omega) hF r.sheets [] N n (by simp) hN (by omega) (by omega);simpa using this
theorem zrI {a n k:Nat}{j p:Nat}{r:RunM}{h:A2strN}(hN:N=400)(hl:(Ln.print a n k).ok)(hv:v<x2.length)(hv2:v<=100000)(hx:ix x2 (v:Int)=some (txt nm0 (.print a n k)))
  (hh:zaA zA (nm0 0 a) H=(h,true)) (hj:zat h.e1 R=some j) (hr:getF R j=some r) (hp:r.stones[p]? = some (nm0 0 a)) (hp2:∀ i,p<i->r.stones[i]? ≠ some (nm0 0 a)) (hs:r.stones.length<400) (hm:r.sheets.length<400) (hc:(n:Int)+k<=cnt p r.sheets) :
  zaC r4 N B1 B2 B3 B4 x2 k6 (v:Int) R H=r4 ((v+1:Nat):Int) (setF R j { r with sheets:=mv p ((p:Int)+1) n (mv p (-1) k r.sheets) }) H:=by
 have hpl:p<r.stones.length:=(List.getElem?_eq_some_iff.1 hp).1;have hn:n<=9:=hl.2.2.1;have hk:k<=2:=hl.2.2.2;unfold zaC;simp only[zaR];refine zcG (by omega) (zac hx (zac (pcsN hN hl) (zac zd2 (zac rfl (zac rfl (zac rfl (za2 (by decide) (za2 (by decide) (za2 (by decide) (za2 (by decide) (zcG rfl ?_)))))))))));have hh':some (zaA (A2strN.mk zan zan) (nm0 0 a) H)=some (h,true):=congrArg some hh;refine zac rfl (zac hh' (zac rfl (zlW hj (zac hr ?_))))
 have hl1:=last_eq (k:=nm0 0 a) (L:=r.stones) (F:=λ m c w=>zcs B1 B2 B3 B4 x2 (v:Int) R H (pcs (.print a n k)++[zan,zan,zan]) (nm0 0 a) j (zbv N B1 B2 B3 B4 x2 (v:Int) R H (zbd B1 B2 B3 B4 x2 (v:Int) r4) (pcs (.print a n k)++[zan,zan,zan]) (num n) (strC [112,114,105,110,116]) (nm0 0 a) j) r m c w)
  (K:=λ c=>zbv N B1 B2 B3 B4 x2 (v:Int) R H (zbd B1 B2 B3 B4 x2 (v:Int) r4) (pcs (.print a n k)++[zan,zan,zan]) (num n) (strC [112,114,105,110,116]) (nm0 0 a) j c r.stones) (by omega) (λ _ _ _=>rfl) r.stones [] N (-1) rfl (by omega)
 rw[zj9 hp hp2,show (([]:TL).length:Int)=0 from rfl] at hl1;refine Eq.trans hl1 ?_;simp only[List.length_nil,Nat.zero_add];unfold zbv;have hself:setF R j { r with stones:=r.stones }=R:=zhZ hr;refine zac hr (zac (zh0 rfl) (zac rfl (za2 (by omega) (za2 (by decide) (zac (zfK hN (by omega)) (zac rfl (zac (zfK hN (by omega)) (zac (zlU (r:=r) (by omega) (by omega)) ?_))))))));rw[show W ((n:Int)+(k:Int))=n+k from zaH (by omega) (by omega)];refine za2 (by show ¬ cnt (p:Int) r.sheets<_;omega) (zac (zfK hN (by omega)) ?_);rw[hself];exact(ztv hN (by omega) (by omega) hr (by omega) (by omega) (by omega)).trans (zfL hv2)
theorem zrJ {a t:Nat}{j p:Nat}{r:RunM}{e1:ByteArray}(hN:N=400)(hl:(Ln.grind a).ok)(hv:v<x2.length)(hv2:v<=100000)(hx:ix x2 (v:Int)=some (txt nm0 (.grind a)))
  (hh:zaA zA (nm0 0 a) H=(⟨num t,e1⟩,true)) (ht:1<=t) (ht2:t<=300) (hj:zat e1 R=some j) (hr:getF R j=some r) (hp:r.stones[p]? = some (nm0 0 a)) (hp2:∀ i,p<i->r.stones[i]? ≠ some (nm0 0 a)) (hs:r.stones.length<400) :
  zaC r4 N B1 B2 B3 B4 x2 k6 (v:Int) R H=r4 ((v+1:Nat):Int) (setF R j { r with ground:=max r.ground ((p:Int)+1) }) (setK (nm0 0 a) ⟨num (t-1),zan⟩ H):=by
 have hpl:p<r.stones.length:=(List.getElem?_eq_some_iff.1 hp).1;unfold zaC;simp only[zaR];refine zcG (by omega) (zac hx (zac (pcsN hN hl) (zac zd2 (zac rfl (zac rfl (zac rfl (za2 (by decide) (za2 (by decide) (za2 (by decide) (za2 (by decide) (za2 (by decide) (zcG rfl ?_))))))))))));have hh':some (zaA (A2strN.mk zan zan) (nm0 0 a) H)=some (⟨num t,e1⟩,true):=congrArg some hh;refine zac rfl (zac hh' (zac rfl (zlW hj (zac hr ?_))))
 have hl1:=last_eq (k:=nm0 0 a) (L:=r.stones) (F:=λ m c w=>zbW B1 B2 B3 B4 x2 (v:Int) R H (pcs (.grind a)++[zan,zan,zan]) (nm0 0 a) j (zbc N B1 B2 B3 B4 x2 (v:Int) R H (zbd B1 B2 B3 B4 x2 (v:Int) r4) (pcs (.grind a)++[zan,zan,zan]) (nm0 0 a) j) r m c w)
  (K:=λ c=>zbc N B1 B2 B3 B4 x2 (v:Int) R H (zbd B1 B2 B3 B4 x2 (v:Int) r4) (pcs (.grind a)++[zan,zan,zan]) (nm0 0 a) j c r.stones) (by omega) (λ _ _ _=>rfl) r.stones [] N (-1) rfl (by omega)
 rw[zj9 hp hp2,show (([]:TL).length:Int)=0 from rfl] at hl1;refine Eq.trans hl1 ?_;simp only[List.length_nil,Nat.zero_add];unfold zbc;have hself:setF R j { r with stones:=r.stones }=R:=zhZ hr;have hw:W ((p:Int)+1)=p+1:=zaH (by omega) (by omega)
 have hw2:W ((t:Int)-1)=((t-1:Nat):Int):=by rw[zaH (by omega) (by omega)];omega
 refine zac hr (zac (zh0 rfl) (zac rfl (za2 (by omega) (zac rfl (zac hh' (zac (zfK hN ht2) (zac (x:=num (t-1)) ?_ (zac rfl ?_))))))))
 .rw [hw2];exact itoaN hN (by omega)
 .rw [hself,hw]
  exact zfL hv2
theorem zn {c e n:Nat}{j:Nat}{r:RunM}(hN:N=400)(hl:(Ln.deliver c e n).ok)(hv:v<x2.length)(hv2:v<=100000)(hx:ix x2 (v:Int)=some (txt nm0 (.deliver c e n)))(hj:zat (nm0 1 e) R=some j)(hr:getF R j=some r)
  (hm:r.sheets.length<400) (hc:(n:Int)<=cnt r.stones.length r.sheets) (hb:(n:Int)<=(zaA 0 (nm0 2 c) r.claims).1/\(zaA 0 (nm0 2 c) r.claims).1<=10000) :
  zaC r4 N B1 B2 B3 B4 x2 k6 (v:Int) R H=r4 ((v+1:Nat):Int) (setF R j { r with sheets:=mv r.stones.length (-2) n r.sheets,claims:=setK (nm0 2 c) ((zaA 0 (nm0 2 c) r.claims).1-n) r.claims }) H:=by
 have hn:n<=9:=hl.2.2.2;unfold zaC;simp only[zaR];refine zcG (by omega) (zac hx (zac (pcsN hN hl) (zac zd2 (zac rfl (zac rfl (zac rfl (za2 (by decide) (za2 (by decide) (za2 (by decide) (za2 (by decide) ?_))))))))));refine za2 (by decide) (za2 (by decide) (za2 (by decide) (za2 (by decide) (zcG rfl (zlW hj (zac rfl (zac (zfK hN (by omega)) ?_)))))));refine zac hr (zac rfl (zac (zlU (r:=r) (by omega) (by omega)) (za2 (by omega) (zac rfl (zac rfl (zac rfl (za2 (by omega) (zac rfl ?_))))))));exact(ztw (by omega) (by omega) hr (by omega) ⟨by omega,by omega⟩).trans (zfL hv2)
end
end Go.Vc
namespace Go.Vc
open Go.Proofs
section
variable {e:EditionM} {r:RunM}
theorem EdR.at_eq (h:EdR e r){i:Nat}(hi:i<e.places.length):e.at_ (i:Int)=cnt i r.sheets:=by
 unfold EditionM.at_;rw[Int.toNat_natCast,h.pl i hi];rfl
theorem EdR.last_eq (h:EdR e r):e.last=cnt r.stones.length r.sheets:=by
 unfold EditionM.last;have:=h.ln;rw[h.pl _ (by omega),show e.places.length-1=r.stones.length by omega];rfl
theorem EdR.paper (h:EdR e r)(n:Nat):EdR { e with paper:=e.paper+n,places:=e.places.set 0 (e.at_ 0+n) } { r with sheets:=r.sheets++List.replicate n 0 }:=by
 have hl:=h.ln;have h0:e.at_ 0=cnt 0 r.sheets:=h.at_eq (i:=0) (by omega);refine⟨by simpa using hl,λ i hi=>?_,by simp[h.pp], ?_, ?_,h.fr,h.cl,h.ow,λ x hx=>?_⟩
 .simp only[List.length_set] at hi
  simp only[List.getElem?_set];by_cases hi0:0=i
  .subst hi0
   simp only[if_true,hi,zj6,zj7];rw[h0];rfl
  .rw [if_neg hi0,h.pl i hi,zj6,zj7,if_neg (by omega)];simp
 .simp only[h.dl,zj6,zj7,if_neg (show ¬ ((0:Int) = -2) by omega)];omega
 .simp only[h.sp,zj6,zj7,if_neg (show ¬ ((0:Int) = -1) by omega)];omega
 .simp only[List.mem_append,List.mem_replicate] at hx
  simp only[List.length_set]
  rcases hx with hx|⟨_,rfl⟩
  .exact h.rg x hx
  .omega
theorem EdR.print (h:EdR e r){p:Nat}(hp:p<r.stones.length){n k:Nat}(hc:(n:Int)+k<=cnt p r.sheets) :
  EdR { e with places:=(e.places.set p (e.at_ p-((n:Int)+k))).set (p+1) (e.at_ ((p:Int)+1)+n),spoilt:=e.spoilt+k } { r with sheets:=mv p ((p:Int)+1) n (mv p (-1) k r.sheets) }:=by
 have hl:=h.ln;have c1:∀ w,cnt w (mv p (-1) k r.sheets)=cnt w r.sheets+(if w = -1 then (k:Int) else 0)-(if w=(p:Int) then (k:Int) else 0):=λ w=>ziU (by omega) w r.sheets k (by omega) (by omega)
 have c2:∀ w,cnt w (mv p ((p:Int)+1) n (mv p (-1) k r.sheets))=cnt w (mv p (-1) k r.sheets)+(if w=(p:Int)+1 then (n:Int) else 0)-(if w=(p:Int) then (n:Int) else 0) :=
  λ w=>ziU (by omega) w _ n (by omega) (by rw[c1,if_neg (by omega),if_pos rfl];omega)
 have a1:=h.at_eq (i:=p) (by omega);have a2:=h.at_eq (i:=p+1) (by omega);rw[show ((p+1:Nat):Int)=(p:Int)+1 by omega] at a2;refine⟨by simpa using hl,λ i hi=>?_,by simp only[zlS,h.pp], ?_, ?_,h.fr,h.cl,h.ow,λ x hx=>?_⟩
 .simp only[List.length_set] at hi
  rw[c2,c1];simp only[List.getElem?_set,List.length_set];by_cases h1:p+1=i
  .subst h1
   rw[if_pos rfl,if_pos hi,a2,if_neg (by omega),if_neg (by omega),if_pos (by omega),if_neg (by omega)];simp
  .rw [if_neg h1]
   by_cases h2:p=i
   .subst h2
    rw[if_pos rfl,if_pos hi,a1,if_neg (by omega),if_pos rfl,if_neg (by omega),if_pos rfl];simp only[Option.some.injEq];omega
   .rw [if_neg h2,h.pl i hi,if_neg (by omega),if_neg (by omega),if_neg (by omega),if_neg (by omega)]
    simp
 .simp only[h.dl]
  rw[c2,c1,if_neg (by omega),if_neg (by omega),if_neg (by omega),if_neg (by omega)];omega
 .simp only[h.sp]
  rw[c2,c1,if_pos rfl,if_neg (by omega),if_neg (by omega),if_neg (by omega)];omega
 .simp only[List.length_set]
  rcases zlT hx with hx|rfl
  .rcases zlT hx with hx|rfl
   .exact h.rg x hx
   .omega
  .omega
theorem EdR.close (h:EdR e r):EdR { e with closed:=true } { r with closed:=true }:=⟨h.ln,h.pl,h.pp,h.dl,h.sp,h.fr,rfl,h.ow,h.rg⟩
theorem EdR.claim (h:EdR e r)(c:ByteArray)(n:Nat):EdR { e with owed:=setK c ((zaA 0 c e.owed).1+n) e.owed,open_:=e.open_+n } { r with claims:=setK c ((zaA 0 c r.claims).1+n) r.claims } :=
 ⟨h.ln,h.pl,h.pp,h.dl,h.sp,h.fr,h.cl,by show setK c ((zaA 0 c e.owed).1+n) e.owed=_;rw[h.ow],h.rg⟩
theorem EdR.deliver (h:EdR e r)(c:ByteArray){n:Nat}(hc:(n:Int)<=cnt r.stones.length r.sheets) :
  EdR { e with owed:=setK c ((zaA 0 c e.owed).1-n) e.owed,open_:=e.open_-n,delivered:=e.delivered+n,places:=e.places.set (e.places.length-1) (e.last-n) }
   { r with sheets:=mv r.stones.length (-2) n r.sheets,claims:=setK c ((zaA 0 c r.claims).1-n) r.claims }:=by
 have hl:=h.ln;have c1:∀ w,cnt w (mv r.stones.length (-2) n r.sheets)=cnt w r.sheets+(if w = -2 then (n:Int) else 0)-(if w=(r.stones.length:Int) then (n:Int) else 0):=λ w=>ziU (by omega) w r.sheets n (by omega) hc;refine⟨by simpa using hl,λ i hi=>?_,by simp only[zlS,h.pp], ?_, ?_,h.fr,h.cl, ?_,λ x hx=>?_⟩
 .simp only[List.length_set] at hi
  rw[c1];simp only[List.getElem?_set];by_cases h1:e.places.length-1=i
  .rw [if_pos h1,if_pos (by omega),h.last_eq,if_neg (by omega),if_pos (by omega),show (i:Int)=(r.stones.length:Int) by omega]
   simp
  .rw [if_neg h1,h.pl i hi,if_neg (by omega),if_neg (by omega)];simp
 .simp only[h.dl]
  rw[c1,if_pos rfl,if_neg (by omega)];omega
 .simp only[h.sp]
  rw[c1,if_neg (by omega),if_neg (by omega)];omega
 .show setK c ((zaA 0 c e.owed).1-n) e.owed=_;rw[h.ow]
 .simp only[List.length_set]
  rcases zlT hx with hx|rfl
  .exact h.rg x hx
  .omega
end
end Go.Vc
namespace Go.Vc
open Go.Proofs
theorem zn9 {c:ByteArray}:∀ {l:List (ByteArray×Int)},(∀ p,p∈l->0<=p.2)->0<=(zaA 0 c l).1/\(zaA 0 c l).1<=sumI (l.map (·.2))
 | [],_=>by simp[zaA,sumI]
 | p::l,h=>by
  have h0:=h p (List.mem_cons_self ..);have ih:=zn9 (c:=c) (l:=l) λ q hq=>h q (List.mem_cons_of_mem _ hq);simp only[zaA,List.map_cons,sumI]
  split
  .show 0<=p.2/\p.2<=_;omega
  .omega
theorem ztx:((List.range 301).all λ n=>decide (num n≠zan))=true:=by kernel_rfl
theorem zxt {n:Nat}(h:n<=300):num n≠zan:=of_decide_eq_true (List.all_eq_true.1 ztx n (List.mem_range.2 (by omega)))
theorem zxu:(decide (nm0 1 0≠zan)&&decide (nm0 1 1≠zan))=true:=by kernel_rfl
theorem zxv {e:Nat}(h:e<2):nm0 1 e≠zan:=by
 have:=zxu;rw[Bool.and_eq_true] at this
 match e,h with
 | 0,_=>exact of_decide_eq_true this.1
 | 1,_=>exact of_decide_eq_true this.2
theorem zo {κ σ:Type}{l:List (κ×σ)}{i:Nat}{x:σ}(h:getF l i=some x):∃ k,(k,x)∈l:=by
 obtain⟨k,hk⟩:=zaT.1 h;exact⟨k,List.mem_of_getElem? hk⟩
section
variable {S:TS} {E:TE} {C:TC} {n:Nat}
theorem ShOK.edOK (h:ShOK n S E C){j:Nat}{e:EditionM}(he:getF E j=some e):EdOK n e:=by
 obtain⟨k,hk⟩:=zo he;exact(h.ed _ hk).1
theorem ShOK.stOK (h:ShOK n S E C){k:ByteArray}{a:StoneM}(ha:stO S k=some a):StOK E a:=by
 obtain⟨i,_,hi⟩:=zew ha;obtain⟨k',hk⟩:=zo hi;exact h.st _ hk
theorem ShOK.onE (h:ShOK n S E C){k:ByteArray}{a:StoneM}{j:Nat}(ha:stO S k=some a)(hj:a.of=some j):∃ e,getF E j=some e/\0<=a.place/\a.place+1<e.places.length:=by
 obtain⟨q,hq,h1,h2⟩:=(h.stOK ha).pl j hj;exact⟨q.2,by simp[getF,hq],h1,h2⟩
theorem EdOK.owe {e:EditionM}(h:EdOK n e)(c:ByteArray):0<=(zaA 0 c e.owed).1/\(zaA 0 c e.owed).1<=5000:=by
 have h1:=zn9 (c:=c) h.ow;have h2:=h.os;have h3:=h.ob;omega
theorem zvA {j:Nat}{k:ByteArray}(h:zat k E=some j):onN E (some j)=k:=by
 obtain⟨⟨x,hx⟩,_⟩:=zbr.1 h;simp[onN,hx]
def Round (l:Ln)(R:TR)(H:TH)(R':TR)(H':TH):Prop :=
 ∀ (B1:TL) (B2:TS) (B3:TE) (B4:TC) (x2:TL) (k6:TR->TH->Option Bool) (v:Nat) (r4:Int->TR->TH->Option Bool) (N:Nat),N=400->v<x2.length->v<=100000->ix x2 (v:Int)=some (txt nm0 l) ->
  zaC r4 N B1 B2 B3 B4 x2 k6 (v:Int) R H=r4 ((v+1:Nat):Int) R' H'
theorem zty {R:TR}{H:TH}{l:Ln}(hl:l.ok)(hS:ShOK n S E C)(hn:n<=120)(hw:zaE S E C (ord nm0 l)=0)(h:RelR S E R H)(hp:∀ j e,getF E j=some e->e.paper<=390) :
  ∃ R' H',RelR (doM S E C (ord nm0 l)).1 (doM S E C (ord nm0 l)).2.1 R' H'/\Round l R H R' H':=by
 have hsm:∀ j e r,getF E j=some e->getF R j=some r->EdR e r/\r.stones.length<400/\r.sheets.length<400:=by
  intro j e r he hr;have h1:=h.ed j e r he hr;have h2:=(hS.edOK he).le;have h3:=h1.ln;have h4:=h1.pp;have h5:=hp j e he;exact⟨h1,by omega,by omega⟩
 cases l with
 | stone a t =>
  simp only[ord,zaE] at hw
  have hk:zat (nm0 0 a) S=none:=by
   cases hh:zat (nm0 0 a) S with
   | none=>rfl
   | some i=>rw[hh] at hw;simp at hw
  have hr:=h.addS (k:=nm0 0 a) (t:=(t:Int)) hk ⟨a,hl.1,rfl⟩;exact⟨_,_,hr,λ B1 B2 B3 B4 x2 k6 v r4 N hN hv hv2 hx=>zrE hN hl hv hv2 hx⟩
 | edition e =>
  simp only[ord,zaE] at hw
  have hk:zat (nm0 1 e) E=none:=by
   cases hh:zat (nm0 1 e) E with
   | none=>rfl
   | some i=>rw[hh] at hw;simp at hw
  refine⟨_,_,h.addE (λ k a j ha hj=>?_) (zxv hl) hk,λ B1 B2 B3 B4 x2 k6 v r4 N hN hv hv2 hx=>zm9 hN hl hv hv2 hx (by rw[h.look];exact hk)⟩;obtain⟨e,he,_⟩:=hS.onE ha hj;exact zf9 he
 | draw a e =>
  simp only[ord,zaE] at hw
  cases ha:stO S (nm0 0 a) with
  | none=>rw[ha] at hw;simp at hw
  | some s =>
   cases he:edO E (nm0 1 e) with
   | none=>rw[ha,he] at hw;simp at hw
   | some d =>
    rw[ha,he] at hw;simp only at hw;obtain⟨i,hi1,hi2⟩:=zew ha;obtain⟨j,hj1,hj2⟩:=zcA he;obtain⟨r,hr,_⟩:=h.runOf hj2;obtain⟨hd,hs1,hs2⟩:=hsm j d r hj2 hr
    have hof:s.of=none:=by
     cases hh:s.of with
     | none=>rfl
     | some q=>rw[hh] at hw;simp at hw
    have hcl:d.closed=false:=by
     cases hh:d.closed with
     | false=>rfl
     | true=>rw[hof,hh] at hw;simp at hw
    have ht:=(hS.stOK ha).t9
    have hlk:zaA zA (nm0 0 a) H=(ze5 E s,true):=by rw[h.st,ha]
    refine⟨_,_, ?_,λ B1 B2 B3 B4 x2 k6 v r4 N hN hv hv2 hx=>ztt hN hl hv hv2 hx (by rw[h.look];exact hj1) hr (by rw[<- hd.cl];exact hcl) hlk (zxt (by omega)) (by simp[ze5,hof,onN]) (by omega)⟩;have:=h.draw hof hi1 hi2 hj2 hr;rw[zvA hj1] at this;simpa only[ord,doM,hi1,hj1,hj2,Option.map_some,Option.getD_some,ze5] using this
 | paper e t =>
  simp only[ord,zaE] at hw
  cases he:edO E (nm0 1 e) with
  | none=>rw[he] at hw;simp at hw
  | some d =>
   obtain⟨j,hj1,hj2⟩:=zcA he;obtain⟨r,hr,_⟩:=h.runOf hj2;obtain⟨hd,hs1,hs2⟩:=hsm j d r hj2 hr;refine⟨_,_, ?_,λ B1 B2 B3 B4 x2 k6 v r4 N hN hv hv2 hx=>zrF hN hl hv hv2 hx (by rw[h.look];exact hj1) hr (by omega)⟩;have:=h.modE (f:=λ e=>{ e with paper:=e.paper+(t:Int),places:=e.places.set 0 (e.at_ 0+(t:Int)) }) hj2 hr (hd.paper t) rfl rfl;simpa only[ord,doM,hj1] using this
 | print a t k =>
  simp only[ord,zaE] at hw
  cases ha:stO S (nm0 0 a) with
  | none=>rw[ha] at hw;simp at hw
  | some s =>
   rw[ha] at hw;simp only at hw
   cases hof:s.of with
   | none=>rw[hof] at hw;simp at hw
   | some j =>
    rw[hof] at hw;simp only at hw;obtain⟨d,hj2,hp0,hp1⟩:=hS.onE ha hof;obtain⟨r,hr,_⟩:=h.runOf hj2;obtain⟨hd,hs1,hs2⟩:=hsm j d r hj2 hr;obtain⟨h1,h2,h3⟩:=h.on _ _ _ _ ha hof hr;have hln:=hd.ln;have htn:1<=t:=hl.2.1;rw[if_neg (by omega),hj2] at hw;simp only at hw
    have hq:s.place=(s.place.toNat:Int):=by omega
    have hat:=hd.at_eq (i:=s.place.toNat) (by omega);rw[<- hq] at hat
    have hc:(t:Int)+k<=cnt s.place.toNat r.sheets:=by
     rw[<- hq,<- hat]
     split at hw
     .cases hw
     .omega
    have hlk:zaA zA (nm0 0 a) H=(ze5 E s,true):=by rw[h.st,ha]
    refine⟨_,_, ?_,λ B1 B2 B3 B4 x2 k6 v r4 N hN hv hv2 hx=>zrI (p:=s.place.toNat) hN hl hv hv2 hx hlk (by rw[h.look];simp only[ze5,hof];exact zm8 hS.ek hj2) hr h2 h3 hs1 hs2 hc⟩
    have:=h.modE (f:=λ e=>{ e with places:=(e.places.set s.place.toNat (e.at_ s.place-((t:Int)+k))).set (s.place.toNat+1) (e.at_ (s.place+1)+t),spoilt:=e.spoilt+k }) (r':={ r with sheets:=mv s.place.toNat ((s.place.toNat:Int)+1) t (mv s.place.toNat (-1) k r.sheets) }) hj2 hr (by
     have hh:=hd.print (p:=s.place.toNat) (by omega) hc
     have e1:d.at_ (s.place.toNat:Int)=d.at_ s.place:=by rw[<- hq]
     have e2:d.at_ ((s.place.toNat:Int)+1)=d.at_ (s.place+1):=by rw[<- hq]
     rw[e1,e2] at hh
     exact hh) rfl rfl
    simpa only[ord,doM,ha,hof] using this
 | close e =>
  simp only[ord,zaE] at hw
  cases he:edO E (nm0 1 e) with
  | none=>rw[he] at hw;simp at hw
  | some d =>
   obtain⟨j,hj1,hj2⟩:=zcA he;obtain⟨r,hr,_⟩:=h.runOf hj2;obtain⟨hd,hs1,hs2⟩:=hsm j d r hj2 hr;refine⟨_,_, ?_,λ B1 B2 B3 B4 x2 k6 v r4 N hN hv hv2 hx=>zrG hN hl hv hv2 hx (by rw[h.look];exact hj1) hr⟩;have:=h.modE (f:=λ e=>{ e with closed:=true }) hj2 hr hd.close rfl rfl;simpa only[ord,doM,hj1] using this
 | claim c e t =>
  simp only[ord,zaE] at hw
  cases he:edO E (nm0 1 e) with
  | none=>rw[he] at hw;simp at hw
  | some d =>
   obtain⟨j,hj1,hj2⟩:=zcA he;obtain⟨r,hr,_⟩:=h.runOf hj2;obtain⟨hd,hs1,hs2⟩:=hsm j d r hj2 hr;have ho:=(hS.edOK hj2).owe (nm0 2 c);rw[hd.ow] at ho;refine⟨_,_, ?_,λ B1 B2 B3 B4 x2 k6 v r4 N hN hv hv2 hx=>zrH hN hl hv hv2 hx (by rw[h.look];exact hj1) hr ⟨by omega,by omega⟩⟩;have:=h.modE (f:=λ e=>{ e with owed:=setK (nm0 2 c) ((zaA 0 (nm0 2 c) e.owed).1+(t:Int)) e.owed,open_:=e.open_+(t:Int) }) hj2 hr (hd.claim _ t) rfl rfl;simpa only[ord,doM,hj1] using this
 | deliver c e t =>
  simp only[ord,zaE] at hw
  cases he:edO E (nm0 1 e) with
  | none=>rw[he] at hw;simp at hw
  | some d =>
   obtain⟨j,hj1,hj2⟩:=zcA he;obtain⟨r,hr,_⟩:=h.runOf hj2;obtain⟨hd,hs1,hs2⟩:=hsm j d r hj2 hr;have ho:=(hS.edOK hj2).owe (nm0 2 c);rw[he] at hw;simp only at hw
   have hw1:(t:Int)<=(zaA 0 (nm0 2 c) d.owed).1/\(t:Int)<=d.last:=by
    split at hw
    .cases hw
    .split at hw
     .cases hw
     .split at hw
      .cases hw
      .split at hw
       .cases hw
       .omega
   rw[hd.ow] at ho hw1;rw[hd.last_eq] at hw1;refine⟨_,_, ?_,λ B1 B2 B3 B4 x2 k6 v r4 N hN hv hv2 hx=>zn hN hl hv hv2 hx (by rw[h.look];exact hj1) hr hs2 hw1.2 ⟨hw1.1,by omega⟩⟩;have:=h.modE (f:=λ e=>{ e with owed:=setK (nm0 2 c) ((zaA 0 (nm0 2 c) e.owed).1-(t:Int)) e.owed,open_:=e.open_-(t:Int),delivered:=e.delivered+(t:Int),places:=e.places.set (e.places.length-1) (e.last-(t:Int)) }) hj2 hr (hd.deliver _ hw1.2) rfl rfl;simpa only[ord,doM,hj1] using this
 | grind a =>
  simp only[ord,zaE] at hw
  cases ha:stO S (nm0 0 a) with
  | none=>rw[ha] at hw;simp at hw
  | some s =>
   rw[ha] at hw;simp only at hw
   cases hof:s.of with
   | none=>rw[hof] at hw;simp at hw
   | some j =>
    rw[hof] at hw;obtain⟨i,hi1,hi2⟩:=zew ha;obtain⟨d,hj2,hp0,hp1⟩:=hS.onE ha hof;obtain⟨r,hr,_⟩:=h.runOf hj2;obtain⟨hd,hs1,hs2⟩:=hsm j d r hj2 hr;obtain⟨h1,h2,h3⟩:=h.on _ _ _ _ ha hof hr;have ht1:=(hS.stOK ha).t1;have ht9:=(hS.stOK ha).t9
    have hq:s.place=(s.place.toNat:Int):=by omega
    have hlk:zaA zA (nm0 0 a) H=(⟨num s.thick.toNat,onN E s.of⟩,true):=by rw[h.st,ha];rfl
    refine⟨_,_, ?_,λ B1 B2 B3 B4 x2 k6 v r4 N hN hv hv2 hx=>zrJ (p:=s.place.toNat) hN hl hv hv2 hx hlk (by omega) (by omega) (by rw[h.look,hof];exact zm8 hS.ek hj2) hr h2 h3 hs1⟩;have:=h.grind hi1 hi2 hof hj2 hr (s.place+1) rfl;rw[<- hq,show s.thick.toNat-1=(s.thick-1).toNat by omega];simpa only[ord,doM,hi1,hi2,hof,Option.bind_some,Option.map_some,Option.getD_some] using this
end
end Go.Vc
namespace Go.Vc
open Go.Proofs
def wt:Ln->Nat
 | .paper _ n=>n
 | _=>0
def wts:List Ln->Nat
 | []=>0
 | l::r=>wt l+wts r
theorem zvB (a b:List Ln):wts (a++b)=wts a+wts b:=by
 induction a with
 | nil=>simp[wts]
 | cons x a ih=>simp only[List.cons_append,wts,ih];omega
theorem zdd {E:TE}{i:Nat}{f:EditionM->EditionM}{w q:Nat}(h:∀ j e,getF E j=some e->e.paper<=w)(hf:∀ e,(f e).paper<=e.paper+q):∀ j e,getF (modF E i f) j=some e->e.paper<=((w+q:Nat):Int):=by
 intro j e he;rw[zbM] at he
 split at he
 .cases hy:getF E j with
  | none=>rw[hy] at he;cases he
  | some y=>rw[hy] at he;cases he;have:=hf y;have:=h j y hy;omega
 .have:=h j e he;omega
theorem zpg {S:TS}{E:TE}{C:TC}{l:Ln}{w:Nat}(h:∀ j e,getF E j=some e->e.paper<=w):∀ j e,getF (doM S E C (ord nm0 l)).2.1 j=some e->e.paper<=((w+wt l:Nat):Int):=by
 have h0:∀ q,∀ j e,getF E j=some e->e.paper<=((w+q:Nat):Int):=λ q j e he=>by have:=h j e he;omega
 cases l with
 | stone a n=>exact h0 0
 | edition e =>
  intro j d hd;simp only[ord,doM] at hd;by_cases hj:j<E.length
  .rw [zd1 hj] at hd;exact h0 _ j d hd
  .have h1:=zf9 hd
   have:j=E.length:=by simp at h1;omega
   subst this;rw[zez] at hd;cases hd;show (0:Int)<=_;omega
 | draw a e =>
  simp only[ord,doM]
  split
  .dsimp only[wt];refine zdd h ?_
   intro e;show e.paper<=e.paper+((0:Nat):Int);omega
  .exact h0 0
 | paper e n =>
  simp only[ord,doM]
  split
  .dsimp only[wt];refine zdd h ?_
   intro e;show e.paper+(n:Int)<=e.paper+((n:Nat):Int);omega
  .exact h0 _
 | print a n k =>
  simp only[ord,doM]
  split
  .split
   .dsimp only[wt];refine zdd h ?_
    intro e;show e.paper<=e.paper+((0:Nat):Int);omega
   .exact h0 0
  .exact h0 0
 | close e =>
  simp only[ord,doM]
  split
  .dsimp only[wt];refine zdd h ?_
   intro e;show e.paper<=e.paper+((0:Nat):Int);omega
  .exact h0 0
 | claim c e n =>
  simp only[ord,doM]
  split
  .dsimp only[wt];refine zdd h ?_
   intro e;show e.paper<=e.paper+((0:Nat):Int);omega
  .exact h0 0
 | deliver c e n =>
  simp only[ord,doM]
  split
  .dsimp only[wt];refine zdd h ?_
   intro e;show e.paper<=e.paper+((0:Nat):Int);omega
  .exact h0 0
 | grind a =>
  simp only[ord,doM]
  split
  .split
   .dsimp only[wt];refine zdd h ?_
    intro e;show e.paper<=e.paper+((0:Nat):Int);omega
   .exact h0 0
  .exact h0 0
theorem rdL {l:Ln}(h:l.ok):rd (txt nm0 l)=(ord nm0 l,0):=by
 unfold rd;rw[zru h];rfl
theorem ziX:∀ (ls:List Ln) (b:Bk) (R:TR) (H:TH) (w:Nat),(∀ l,l∈ls->l.ok)->BkOK b->Runs b (ls.map (txt nm0))->RelR b.S b.E R H->(∀ j e,getF b.E j=some e->e.paper<=w)->w+wts ls<=390 ->
  ∃ R' H',RelR (tell b (ls.map (txt nm0))).S (tell b (ls.map (txt nm0))).E R' H'/\(∀ j e,getF (tell b (ls.map (txt nm0))).E j=some e->e.paper<=((w+wts ls:Nat):Int)) /\
   ∀ (B1:TL) (B2:TS) (B3:TE) (B4:TC) (x2:TL) (k6:TR->TH->Option Bool) (v m N:Nat),N=400->x2.drop v=ls.map (txt nm0)->v<=x2.length->x2.length<=1000->ls.length<m->zb8 N B1 B2 B3 B4 x2 k6 m (v:Int) R H=k6 R' H'
 | [],b,R,H,w,hl,hb,hr,h,hp,hw=>by
  refine⟨R,H,h,λ j e he=>by have:=hp j e he;simp only[wts];omega,λ B1 B2 B3 B4 x2 k6 v m N hN hd hv hx hm=>?_⟩;obtain⟨m,rfl⟩:∃ q,m=q+1:=⟨m-1,by simp at hm;omega⟩
  have hlen:v=x2.length:=by
   have:=congrArg List.length hd;simp at this;omega
  unfold zb8 zaC;exact za2 (by omega) rfl
 | l::ls,b,R,H,w,hl,hb,hr,h,hp,hw=>by
  have hlk:=hl l (List.mem_cons_self ..);have hg:GLn (txt nm0 l):=⟨l,hlk,rfl⟩;have hrd:=rdL hlk;obtain⟨he,hr2⟩:=hr
  have he':errM b (ord nm0 l,0)=0:=by rw[<- hrd];exact he
  have hwr:zaE b.S b.E b.C (ord nm0 l)=0:=by
   unfold errM at he';dsimp only at he';rw[if_pos rfl] at he'
   split at he'
   .assumption
   .exact he'
  simp only[wts] at hw
  obtain⟨R1,H1,h1,hR⟩:=zty hlk hb.sh hb.ll hwr h λ j e hj=>by have:=hp j e hj;omega
  have hst:zdc b (txt nm0 l)=⟨b.L++[txt nm0 l],(doM b.S b.E b.C (ord nm0 l)).1,(doM b.S b.E b.C (ord nm0 l)).2.1,(doM b.S b.E b.C (ord nm0 l)).2.2⟩:=by
   unfold zdc;rw[hrd];unfold goM;rw[if_pos he']
  obtain⟨R',H',h2,h3,h4⟩:=ziX ls (zdc b (txt nm0 l)) R1 H1 (w+wt l) (λ l' hl' => hl l' (List.mem_cons_of_mem _ hl')) (hg.step hb) hr2 (by rw[hst];exact h1) (by rw[hst];exact zpg hp) (by omega);refine⟨R',H',h2,λ j e he=>by have:=h3 j e he;simp only[wts];omega,λ B1 B2 B3 B4 x2 k6 v m N hN hd hv hx hm=>?_⟩;obtain⟨m,rfl⟩:∃ q,m=q+1:=⟨m-1,by simp at hm;omega⟩
  have hvl:v<x2.length:=by
   have:=congrArg List.length hd;simp at this;omega
  have hxv:x2[v]? = some (txt nm0 l):=by
   have:(x2.drop v)[0]? = some (txt nm0 l):=by rw[hd];rfl
   simpa using this
  show zaC (zb8 N B1 B2 B3 B4 x2 k6 m) N B1 B2 B3 B4 x2 k6 (v:Int) R H=_;rw[hR B1 B2 B3 B4 x2 k6 v _ N hN hvl (by omega) (zlY hxv)];exact h4 B1 B2 B3 B4 x2 k6 (v+1) m N hN (by rw[<- List.drop_drop,hd];rfl) (by omega) hx (by simp at hm;omega)
theorem zoa:∀ (ls:List Ln) (b:Bk),∃ r:List Ln,(tell b (ls.map (txt nm0))).L=b.L++r.map (txt nm0)/\(∀ l,l∈r->l∈ls)/\wts r<=wts ls/\r.length<=ls.length
 | [],b=>⟨[],by simp[tell],by simp,by simp[wts],by simp⟩
 | l::ls,b=>by
  obtain⟨r,h1,h2,h3,h4⟩:=zoa ls (zdc b (txt nm0 l));by_cases he:errB b (txt nm0 l)=0
  .refine ⟨l::r, ?_,λ x hx=>?_,by simp only[wts];omega,by simp;omega⟩
   .show (tell (zdc b (txt nm0 l)) (ls.map (txt nm0))).L=_
    rw[h1,zuk he];simp
   .rcases List.mem_cons.1 hx with rfl|hx
    .exact List.mem_cons_self ..
    .exact List.mem_cons_of_mem _ (h2 x hx)
  .refine ⟨r, ?_,λ x hx=>List.mem_cons_of_mem _ (h2 x hx),by simp only[wts];omega,by simp;omega⟩
   show (tell (zdc b (txt nm0 l)) (ls.map (txt nm0))).L=_;rw[h1,zrw he]
theorem zvC {x:A4u8N}(h:x.ok):wt (lnOf x)<=9:=by
 obtain⟨_,_,_,h3,h3'⟩:=h;unfold lnOf;dsimp only
 split <;> simp only[wt] <;> omega
theorem zrK:∀ (s:List A4u8N),(∀ x,x∈s->x.ok)->wts (s.map lnOf)<=9*s.length
 | [],_=>by simp[wts]
 | x::s,h=>by
  have h1:=zvC (h x (List.mem_cons_self ..));have h2:=zrK s λ y hy=>h y (List.mem_cons_of_mem _ hy);simp only[List.map_cons,wts,List.length_cons];omega
theorem zrL {s:List A4u8N}(h:∀ x,x∈s->x.ok):wts (zcL s)<=290:=by
 unfold zcL;rw[zvB];have h1:wts zm7=20:=rfl;have h2:=zrK (s.take 30) λ x hx=>h x (List.mem_of_mem_take hx)
 have h3:(s.take 30).length<=30:=by simp;omega
 omega
end Go.Vc
namespace Go.Vc
open Go.Proofs
theorem ztz:f14 400=some true:=by kernel_rfl
def rdY (l:Ln):Bool:=match f79 398 (txt nm0 l) with
 | some (o,e)=>decide (o=ord nm0 l)&&decide (e=0)
 | none=>false
theorem zvD:zrs.all rdY=true:=by kernel_rfl
theorem rdA {l:Ln}(hl:l.ok):f79 398 (txt nm0 l)=some (ord nm0 l,0):=by
 have h:=List.all_eq_true.1 zvD _ (zhV hl);unfold rdY at h
 split at h
 .rename_i o e he
  rw[Bool.and_eq_true,decide_eq_true_eq,decide_eq_true_eq] at h;rw[he,h.1,h.2]
 .cases h
theorem zph (k i:Nat):f61 399 (nm0 k i)=some true:=by
 unfold nm0
 split <;> kernel_rfl
def cge (g:Int):List Int->Int
 | []=>0
 | x::l=>(if g<=x then 1 else 0)+cge g l
theorem zlZ (g:Int):∀ l,cge g l=cnt g l+cge (g+1) l
 | []=>rfl
 | x::l=>by
  have:=zlZ g l;simp only[cge,cnt]
  split <;> split <;> split <;> omega
theorem zrM {g:Int}:∀ {l:List Int},(∀ x,x∈l->x<g)->cge g l=0
 | [],_=>rfl
 | x::l,h=>by
  have h1:=h x (List.mem_cons_self ..);have:=zrM (g:=g) (l:=l) λ y hy=>h y (List.mem_cons_of_mem _ hy);simp only[cge];rw[if_neg (by omega)];omega
theorem zob {P L:List Int}(hP:∀ i:Nat,i<P.length->P[i]? = some (cnt i L))(hL:∀ x,x∈L->x<(P.length:Int)):∀ (m g:Nat),P.length-g=m->sumI (P.drop g)=cge g L
 | 0,g,h=>by
  rw[List.drop_of_length_le (by omega),zrM λ x hx=>by have:=hL x hx;omega];rfl
 | m+1,g,h=>by
  have hg:g<P.length:=by omega
  have h1:=hP g hg;rw[List.getElem?_eq_getElem hg] at h1;rw[List.drop_eq_getElem_cons hg,sumI,Option.some.inj h1,zlZ,zob hP hL m (g+1) (by omega)];rfl
theorem EdR.rest_eq {e:EditionM}{r:RunM}{n:Nat}(h:EdR e r)(ho:EdOK n e):e.rest e.from_=cge r.ground r.sheets:=by
 have h1:=zob h.pl (λ x hx=>(h.rg x hx).2) _ e.from_.toNat rfl;unfold EditionM.rest;rw[h1,<- h.fr];have:=ho.f0;rw[show ((e.from_.toNat:Nat):Int)=e.from_ by omega]
theorem zk {r:RunM}(hm:r.sheets.length<=100000):∀ (l d:List Int) (n:Nat) (k:Int),d++l=r.sheets->l.length<n->0<=k->k<=d.length->zlB r zhC n k (d.length:Int)=some (k+cge r.ground l)
 | [],d,n,k,h1,h2,h3,h4=>by
  cases n with
  | zero=>omega
  | succ n =>
   unfold zlB znX;rw[decide_eq_false (by rw[<- h1];simp),cond_false];simp[zhC,cge]
 | x::l,d,n,k,h1,h2,h3,h4=>by
  cases n with
  | zero=>omega
  | succ n =>
   simp only[List.length_cons] at h2
   have hl:d.length+(l.length+1)=r.sheets.length:=by rw[<- h1];simp
   have hix:ix r.sheets (d.length:Int)=some x:=by
    unfold ix;rw[if_pos (by omega),<- h1];simp
   have hw:W ((d.length:Int)+1)=((d++[x]).length:Int):=by rw[zaH (by omega) (by omega)];simp
   have hk:W (k+1)=k+1:=zaH (by omega) (by omega);unfold zlB znX;rw[decide_eq_true (by omega),cond_true,hix];simp only[Option.bind_some];by_cases hx:r.ground<=x
   .rw [decide_eq_true hx,cond_true,hw,hk,zk hm l (d++[x]) n (k+1) (by simpa using h1) (by omega) (by omega) (by simp;omega)]
    simp only[cge,if_pos hx,Option.some.injEq];omega
   .rw [decide_eq_false hx,cond_false,hw,zk hm l (d++[x]) n k (by simpa using h1) (by omega) h3 (by simp;omega)]
    simp only[cge,if_neg hx,Option.some.injEq];omega
theorem zxw {r:RunM}{N:Nat}(hm:r.sheets.length<=100000)(h:r.sheets.length<N):f47 N r=some (cge r.ground r.sheets):=by
 have:=zk (r:=r) hm r.sheets [] N 0 rfl h (by omega) (by simp);simpa [f47,zaR] using this
def ziY (n:Nat)(seen:List Nat):Nat:=((List.range n).filter λ i=>!(seen.contains i)).length
theorem zl0 {n i:Nat}{seen:List Nat}(hi:i<n)(hs:i ∉ seen):ziY n (i::seen)<ziY n seen:=by
 unfold ziY;refine Go.filter_lt _ _ (λ x hx=>?_) i (by simp[hs]) (by simp) _ (List.mem_range.2 hi);simp at hx ⊢;exact hx.2
theorem zl1 (n:Nat)(seen:List Nat):ziY n seen<=n:=by
 have:=List.length_filter_le (λ i=>!(seen.contains i)) (List.range n);rw[List.length_range] at this;exact this
def usum:List (ByteArray×Int)->Nat->List Nat->Int
 | [],_,_=>0
 | x::l,j,seen=>(if j∈seen then 0 else x.2)+usum l (j+1) seen
theorem zoc:∀ (l:List (ByteArray×Int)) (j:Nat) (seen:List Nat),(∀ i,i<l.length->j+i∈seen)->usum l j seen=0
 | [],_,_,_=>rfl
 | x::l,j,seen,h=>by
  have h0:=h 0 (by simp);simp only[usum];rw[if_pos (by simpa using h0),zoc l (j+1) seen λ i hi=>by have:=h (i+1) (by simp;omega);rwa [show j+(i+1)=j+1+i by omega] at this];rfl
theorem zl2:∀ (l:List (ByteArray×Int)) (j i:Nat) (seen:List Nat),i<j->usum l j (i::seen)=usum l j seen
 | [],_,_,_,_=>rfl
 | x::l,j,i,seen,h=>by
  simp only[usum,zl2 l (j+1) i seen (by omega)]
  have:(j∈i::seen) ↔ (j∈seen):=by simp;omega
  simp only[this]
theorem zl3:∀ (l:List (ByteArray×Int)) (j i:Nat) (p:ByteArray×Int) (seen:List Nat),l[i]? = some p->j+i ∉ seen->usum l j ((j+i)::seen)=usum l j seen-p.2
 | [],_,i,_,_,h,_=>by simp at h
 | x::l,j,0,p,seen,h,hs=>by
  simp at h;subst h;simp only[usum];rw[if_pos (by simp),if_neg (by simpa using hs),zl2 l (j+1) (j+0) seen (by omega)];omega
 | x::l,j,i+1,p,seen,h,hs=>by
  have h1:=zl3 l (j+1) i p seen (by simpa using h) (by rwa [show j+1+i=j+(i+1) by omega]);rw[show j+1+i=j+(i+1) by omega] at h1;simp only[usum,h1]
  have:(j∈(j+(i+1))::seen) ↔ (j∈seen):=by simp
  simp only[this];omega
theorem zod:∀ (l:List (ByteArray×Int)) (j:Nat),usum l j []=sumI (l.map (·.2))
 | [],_=>rfl
 | x::l,j=>by simp only[usum,List.map_cons,sumI,zod l (j+1)];simp
theorem zrN:∀ (l:List (ByteArray×Int)) (j:Nat) (seen:List Nat),(∀ p,p∈l->0<=p.2)->0<=usum l j seen/\usum l j seen<=sumI (l.map (·.2))
 | [],_,_,_=>by simp[usum,sumI]
 | x::l,j,seen,h=>by
  have h0:=h x (List.mem_cons_self ..);have:=zrN l (j+1) seen λ p hp=>h p (List.mem_cons_of_mem _ hp);simp only[usum,List.map_cons,sumI]
  split <;> omega
theorem zoe {r:RunM}(h0:∀ p,p∈r.claims->0<=p.2)(hs:sumI (r.claims.map (·.2))<=100000):∀ (n:Nat) (seen:List Nat) (k:Int),ziY r.claims.length seen<n->0<=k->k+usum r.claims 0 seen<=100000 ->
  zmY r zhB n k seen=some (k+usum r.claims 0 seen)
 | 0,_,_,h,_,_=>by omega
 | n+1,seen,k,h,k0,k1=>by
  unfold zmY zq3;refine znO (λ i p hp hi=>?_) λ ha=>?_
  .have hil:=(List.getElem?_eq_some_iff.1 hp).1
   have hv:=h0 p (List.mem_of_getElem? hp);have ht:=zl3 r.claims 0 i p seen hp (by simpa using hi);rw[Nat.zero_add] at ht;have hb:=zrN r.claims 0 seen h0;have hb2:=zrN r.claims 0 (i::seen) h0;have hw:W (k+p.2)=k+p.2:=zaH (by omega) (by omega);have:=zl0 hil hi;rw[hw,zoe h0 hs n (i::seen) (k+p.2) (by omega) (by omega) (by omega),ht];simp only[Option.some.injEq];omega
  .rw [zoc r.claims 0 seen λ i hi=>by rw[Nat.zero_add];exact ha i hi]
   simp[zhB]
theorem zxx {r:RunM}{N:Nat}(h0:∀ p,p∈r.claims->0<=p.2)(hs:sumI (r.claims.map (·.2))<=100000)(hN:r.claims.length<N):f46 N r=some (sumI (r.claims.map (·.2))):=by
 have h1:=zl1 r.claims.length [];have h2:=zod r.claims 0;have:=zoe h0 hs N [] 0 (by omega) (by omega) (by omega);simpa [f46,zaR,h2] using this
structure InvE (w:Nat)(E:TE):Prop where
 ow:∀ j e,getF E j=some e->e.owed.length<=w
 nm:∀ k,k∈E.map (·.1)->∃ e,e<2/\k=nm0 1 e
theorem ztA:InvE 0 []:=⟨λ j e h=>by simp[getF] at h,λ k h=>by simp at h⟩
theorem InvE.up {w:Nat}{E:TE}(h:InvE w E):InvE (w+1) E:=⟨λ j e he=>by have:=h.ow j e he;omega,h.nm⟩
theorem InvE.mod {w i:Nat}{E:TE}{f:EditionM->EditionM}(h:InvE w E)(hf:∀ e,(f e).owed.length<=e.owed.length+1):InvE (w+1) (modF E i f):=by
 refine⟨λ j e he=>?_,λ k hk=>by rw[zbG] at hk;exact h.nm k hk⟩;rw[zbM] at he
 split at he
 .cases hy:getF E j with
  | none=>rw[hy] at he;cases he
  | some y=>rw[hy] at he;cases he;have:=hf y;have:=h.ow j y hy;omega
 .have:=h.ow j e he;omega
theorem zrO {S:TS}{E:TE}{C:TC}{l:Ln}{w:Nat}(hl:l.ok)(h:InvE w E):InvE (w+1) (doM S E C (ord nm0 l)).2.1:=by
 have hk:∀ (k:ByteArray) (v:Int) (o:List (ByteArray×Int)),(setK k v o).length<=o.length+1:=λ k v o=>by
  rw[zjZ (z:=(0:Int))];split <;> omega
 cases l with
 | stone a n=>exact h.up
 | edition e =>
  refine⟨λ j d hd=>?_,λ k hk=>?_⟩
  .simp only[ord,doM] at hd
   by_cases hj:j<E.length
   .rw [zd1 hj] at hd;have:=h.ow j d hd;omega
   .have h1:=zf9 hd
    have:j=E.length:=by simp at h1;omega
    subst this;rw[zez] at hd;cases hd;simp
  .simp only[ord,doM,List.map_append,List.mem_append,List.map_cons,List.map_nil,List.mem_singleton] at hk
   rcases hk with hk|rfl
   .exact h.nm k hk
   .exact ⟨e,hl,rfl⟩
 | draw a e =>
  simp only[ord,doM]
  split
  .dsimp only;refine h.mod ?_;intro e;exact Nat.le_succ _
  .exact h.up
 | paper e n =>
  simp only[ord,doM]
  split
  .dsimp only;refine h.mod ?_;intro e;exact Nat.le_succ _
  .exact h.up
 | print a n k =>
  simp only[ord,doM]
  split
  .split
   .dsimp only;refine h.mod ?_;intro e;exact Nat.le_succ _
   .exact h.up
  .exact h.up
 | close e =>
  simp only[ord,doM]
  split
  .dsimp only;refine h.mod ?_;intro e;exact Nat.le_succ _
  .exact h.up
 | claim c e n =>
  simp only[ord,doM]
  split
  .dsimp only;refine h.mod ?_;intro e;exact hk _ _ _
  .exact h.up
 | deliver c e n =>
  simp only[ord,doM]
  split
  .dsimp only;refine h.mod ?_;intro e;exact hk _ _ _
  .exact h.up
 | grind a =>
  simp only[ord,doM]
  split
  .split
   .dsimp only;refine h.mod ?_;intro e;exact Nat.le_succ _
   .exact h.up
  .exact h.up
end Go.Vc
namespace Go.Vc
open Go.Proofs
theorem zl4:∀ (ls:List Ln) (b:Bk) (w:Nat),(∀ l,l∈ls->l.ok)->BkOK b->InvE w b.E->InvE (w+ls.length) (tell b (ls.map (txt nm0))).E
 | [],b,w,_,_,h=>h
 | l::ls,b,w,hl,hb,h=>by
  have hlk:=hl l (List.mem_cons_self ..);have hg:GLn (txt nm0 l):=⟨l,hlk,rfl⟩;rw[List.length_cons,show w+(ls.length+1)=(w+1)+ls.length by omega];refine zl4 ls (zdc b (txt nm0 l)) (w+1) (λ l' hl' => hl l' (List.mem_cons_of_mem _ hl')) (hg.step hb) ?_;unfold zdc goM;rw[rdL hlk]
  split
  .exact zrO hlk h
  .exact h.up
section
variable {b:Bk} {R:TR} {H:TH} {N:Nat} {j:Nat} {e:EditionM} {r:RunM} {k:ByteArray} {K:Int->Option Bool} {F:Option Bool}
theorem zvE {E:TE}(hj:zat k E=some j)(he:getF E j=some e):edO E k=some e:=by unfold edO;rw[hj];exact he
theorem ztB {l:List Int}{i:Nat}{x:Int}(h:l[i]? = some x):sumI (l.take (i+1))=sumI (l.take i)+x:=by
 rw[List.take_add_one,h,zgG];simp[sumI]
theorem zfM (l:List Int)(g:Nat):sumI (l.take g)=sumI l-sumI (l.drop g):=by
 have:=zgG (l.take g) (l.drop g);rw[List.take_append_drop] at this;omega
theorem zka {B1:TL}{B2:TS}{B3:TE}{B4:TC}{x9:Nat}{x10:ByteArray×RunM}{x11:List Int×Int}{x12:Tally×Int}{p501:List Nat}(hN:N=400)(hx:x10.2=r)(hy:x11.1=e.places)(hd:EdR e r){n0:Nat}(ho:EdOK n0 e)(hm:r.sheets.length<=390) :
  ∀ (m:Nat) (i n:Nat),e.places.length-i=m->i<=e.places.length->m<n->e.places.length<=1000 ->
   zfI N B1 B2 B3 B4 R H p501 x9 x10 x11 x12 K n (sumI (e.places.take (min i e.from_.toNat))) (i:Int)=K (sumI (e.places.take e.from_.toNat))
 | 0,i,n,h1,h2,h3,h4=>by
  obtain⟨n,rfl⟩:∃ q,n=q+1:=⟨n-1,by omega⟩
  have hi:i=e.places.length:=by omega
  have:=ho.fl;have:=ho.f0;unfold zfI zjX;refine za2 (by rw[hy];omega) ?_;rw[show min i e.from_.toNat=e.from_.toNat by omega]
 | m+1,i,n,h1,h2,h3,h4=>by
  obtain⟨n,rfl⟩:∃ q,n=q+1:=⟨n-1,by omega⟩
  have hil:i<e.places.length:=by omega
  have hp:=hd.pl i hil
  have h48:f48 N x10.2 (i:Int)=some (cnt i r.sheets):=by rw[hx];exact zlU (by omega) (by omega)
  have hwi:W ((i:Int)+1)=((i+1:Nat):Int):=W1 (by omega);have hs:=ztB hp;have hf0:=ho.f0;have b1:=zcl (l:=e.places.take i) λ k hk=>ho.nn k (List.mem_of_mem_take hk);have b2:=zcl (l:=e.places.take (i+1)) λ k hk=>ho.nn k (List.mem_of_mem_take hk);have b3:=zfM e.places (i+1);have b4:=(zhT ho.nn (i+1)).1;have b5:=ho.sums;have hfr:=hd.fr;unfold zfI zjX;refine zcG (by rw[hy];omega) (zac (by rw[hy];exact zlY hp) (zac h48 (za2 (by simp) ?_)));by_cases hg:(i:Int)<r.ground
  .refine zcG (by rw[hx];exact hg) ?_
   rw[hwi,show min i e.from_.toNat=i by omega,zaH (by omega) (by omega),<- hs];have:=zka (B1:=B1) (B2:=B2) (B3:=B3) (B4:=B4) (x9:=x9) (x12:=x12) (p501:=p501) hN hx hy hd ho hm m (i+1) n (by omega) (by omega) (by omega) h4;rw[show min (i+1) e.from_.toNat=i+1 by omega] at this;exact this
  .refine za2 (by rw[hx];exact hg) ?_
   rw[hwi];have:=zka (B1:=B1) (B2:=B2) (B3:=B3) (B4:=B4) (x9:=x9) (x12:=x12) (p501:=p501) hN hx hy hd ho hm m (i+1) n (by omega) (by omega) (by omega) h4;rw[show min (i+1) e.from_.toNat=e.from_.toNat by omega] at this;rw[show min i e.from_.toNat=e.from_.toNat by omega];exact this
theorem zxy (hN:N=400)(hb:BkOK b){x9:Nat}{p501:List Nat}{ed:Nat}{x10:ByteArray×RunM}(hx:x10=(nm0 1 ed,r))(he:edO b.E (nm0 1 ed)=some e)(hd:EdR e r){r6:List Nat->Option Bool} :
  zfH N b.L b.S b.E b.C R H p501 r6 x9 x10 [nm0 2 0,nm0 2 1,nm0 2 2] N 0=r6 (x9::p501):=by
 subst hx
 have step:∀ (n:Nat) (v:Nat) (c:Nat),v<3->[nm0 2 0,nm0 2 1,nm0 2 2][v]? = some (nm0 2 c)->zfH N b.L b.S b.E b.C R H p501 r6 x9 (nm0 1 ed,r) [nm0 2 0,nm0 2 1,nm0 2 2] (n+1) (v:Int) =
   zfH N b.L b.S b.E b.C R H p501 r6 x9 (nm0 1 ed,r) [nm0 2 0,nm0 2 1,nm0 2 2] n ((v+1:Nat):Int):=by
  intro n v c hv hx
  have h36:f36 N (nm0 2 c) (nm0 1 ed) b.L b.S b.E b.C=some (zhY b (nm0 2 c) (nm0 1 ed)):=by
   rw[hN];exact zxr (M:=399) hb (zph 2 c) (zph 1 ed)
  have hw:W ((v:Int)+1)=((v+1:Nat):Int):=W1 (by omega);show zf6 _ N b.L b.S b.E b.C R H p501 r6 x9 (nm0 1 ed,r) [nm0 2 0,nm0 2 1,nm0 2 2] (v:Int)=_;unfold zf6;refine zcG (by simp;omega) (zac (zlY hx) (zac rfl (zac h36 ?_)))
  have hao:zhY b (nm0 2 c) (nm0 1 ed)=if (zaA 0 (nm0 2 c) r.claims).2=true then ((zaA 0 (nm0 2 c) r.claims).1,0) else (0,5):=by
   unfold zhY;rw[he];simp only[hd.ow]
  rw[hao,hw];by_cases h2:(zaA 0 (nm0 2 c) r.claims).2=true
  .rw [if_pos h2]
   refine za2 (by simp) ?_;rw[h2];rfl
  .rw [if_neg h2]
   have h3:zaA 0 (nm0 2 c) r.claims=(0,false):=by
    rcases zhU (z:=(0:Int)) (k:=nm0 2 c) (l:=r.claims) with h|h
    .exact absurd h.1 h2
    .exact h
   rw[h3];rfl
 obtain⟨n,hn⟩:∃ n,N=n+4:=⟨N-4,by omega⟩
 have e4:∀ M,M=n+4->zfH N b.L b.S b.E b.C R H p501 r6 x9 (nm0 1 ed,r) [nm0 2 0,nm0 2 1,nm0 2 2] M 0=r6 (x9::p501):=by
  intro M hM;subst hM;have h0:=step (n+3) 0 0 (by omega) rfl;have h1:=step (n+2) 1 1 (by omega) rfl;have h2:=step (n+1) 2 2 (by omega) rfl;refine h0.trans (h1.trans (h2.trans ?_));show zf6 _ N b.L b.S b.E b.C R H p501 r6 x9 (nm0 1 ed,r) [nm0 2 0,nm0 2 1,nm0 2 2] ((2+1:Nat):Int)=_;unfold zf6;exact za2 (by simp) rfl
 exact e4 N hn
theorem ed_at (hrel:RelR b.S b.E R H)(hb:BkOK b){i:Nat}{p:ByteArray×RunM}(hp:R[i]? = some p):∃ e,getF b.E i=some e/\EdR e p.2/\edO b.E p.1=some e/\p.1∈b.E.map (·.1):=by
 have hR:getF R i=some p.2:=by simp[getF,hp]
 obtain⟨e,he⟩:=zlV hrel.ky hR;have hd:=hrel.ed i e p.2 he hR;obtain⟨k,hk⟩:=zaT.1 he
 have hkk:k=p.1:=by
  have:=congrArg (·[i]?) hrel.ky;simp only[List.getElem?_map,hp,hk,Option.map_some,Option.some.injEq] at this;exact this.symm
 subst hkk;have hl:=zm8 hb.sh.ek he
 have ho:onN b.E (some i)=p.1:=by simp[onN,hk]
 rw[ho] at hl;exact⟨e,he,hd,zvE hl he,List.mem_map.2 ⟨_,List.mem_of_getElem? hk,rfl⟩⟩
theorem zvF (hN : N = 400)(hrel : RelR b.S b.E R H)(hb : BkOK b){w : Nat}(hi : InvE w b.E)(hw : w <= 100)(hp0 : ∀ j e, getF b.E j = some e -> e.paper <= 390){i : Nat}{p : ByteArray × RunM}(hp : R[i]? = some p){p501 : List Nat}{r6 : List Nat -> Option Bool} :
    ((f33 N p.1 b.L b.S b.E b.C).bind λ x11 =>
 (f34 N p.1 b.L b.S b.E b.C).bind λ x12 =>
 (f40 N p.1 b.L b.S b.E b.C).bind λ x13 =>
 bif decide (¬ x11.2 = (0 : Int)) then (some (false))
 else (bif decide (¬ x12.2 = (0 : Int)) then (some (false))
 else (bif decide (¬ x13.2 = (0 : Int)) then (some (false))
 else (bif decide (¬ (List.length x11.1 : Int) = (W ((List.length p.2.stones : Int) + (1 : Int)))) then (some (false))
 else ((f46 N p.2).bind λ x14 =>
 (f47 N p.2).bind λ x15 =>
 bif decide (¬ x13.1 = (max (0 : Int) (W (x14 - x15)))) then (some (false))
 else (zaR (zeh N b.L b.S b.E b.C R H p501 r6 i p x12) λ k2 =>
 zfI N b.L b.S b.E b.C R H p501 i p x11 x12 k2 N (0 : Int) (0 : Int))))))) = r6 (i :: p501) := by
  obtain ⟨e, he, hd, heo, hkm⟩ := ed_at hrel hb hp;obtain ⟨ed, hed, hke⟩ := hi.nm _ hkm;have ho := hb.sh.edOK he;have hown := hi.ow i e he;have hpp := hp0 i e he;have hln := hd.ln;have hle := ho.le;have hll := hb.ll;have hbb := ho.rest_b e.from_;have hob := ho.ob;have ho0 := ho.open0;have hos := ho.os
  have hpl : (p.2.sheets.length : Int) <= 390 := by rw [<- hd.pp]; exact hpp
  have h33 : f33 N p.1 b.L b.S b.E b.C = some (e.places, 0) := by
    rw [hN, zxo (M := 399) hb (by rw [hke]; exact zph 1 ed)]; simp only [zhX, heo]
  have h34 : f34 N p.1 b.L b.S b.E b.C = some (e.tally, 0) := by
    rw [hN, zxp (M := 399) hb (by omega) (by rw [hke]; exact zph 1 ed)]; simp only [zj4, heo]
  have h40 : f40 N p.1 b.L b.S b.E b.C = some (max 0 (e.open_ - e.rest e.from_), 0) := by
    rw [hN, zxq (M := 399) hb (by omega) (by rw [hke]; exact zph 1 ed)]; simp only [zj5, heo]
  have h46 : f46 N p.2 = some e.open_ := by
    rw [hos, hd.ow];exact zxx (λ q hq => ho.ow q (by rw [hd.ow]; exact hq)) (by rw [<- hd.ow, <- hos]; omega) (by rw [<- hd.ow]; omega)
  have h47 : f47 N p.2 = some (e.rest e.from_) := by rw [hd.rest_eq ho]; exact zxw (by omega) (by omega)
  refine zac h33 (zac h34 (zac h40 (za2 (by simp) (za2 (by simp) (za2 (by simp) (za2 ?_ (zac h46 (zac h47 (za2 ?_ ?_)))))))))
  . rw [zaH (by omega) (by omega), hln]; simp
  . rw [zaH (by omega) (by omega)]; simp
  . simp only [zaR]
    have hsp := zka (r := p.2) (e := e) (K := zeh N b.L b.S b.E b.C R H p501 r6 i p (e.tally, 0)) (B1 := b.L) (B2 := b.S) (B3 := b.E) (B4 := b.C) (R := R) (H := H) (x9 := i) (x10 := p) (x11 := (e.places, 0)) (x12 := (e.tally, 0)) (p501 := p501) hN rfl rfl hd ho (by omega) e.places.length 0 N (by omega) (by omega) (by omega) (by omega);rw [show min 0 e.from_.toNat = 0 by omega] at hsp;refine hsp.trans ?_
    have h482 : f48 N p.2 (-2 : Int) = some e.delivered := by rw [hd.dl]; exact zlU (by omega) (by omega)
    have h481 : f48 N p.2 (-1 : Int) = some e.spoilt := by rw [hd.sp]; exact zlU (by omega) (by omega)
    have htd := zfM e.places e.from_.toNat;have hrd : e.rest e.from_ = sumI (e.places.drop e.from_.toNat) := rfl;have hsm := ho.sm;have hdl := ho.dl;have hspp := ho.sp;have hnn := zcl ho.nn;have hpp2 := ho.pp;unfold zeh;refine zac h482 (zac h481 (zac h47 ?_));have e1 : decide (e.tally.Paper = (p.2.sheets.length : Int)) = true := decide_eq_true hd.pp;have e2 : decide (e.tally.Delivered = e.delivered) = true := decide_eq_true rfl;have e3 : decide (e.tally.Spoilt = e.spoilt) = true := decide_eq_true rfl;have e4 : decide (e.tally.Lost = sumI (e.places.take e.from_.toNat)) = true := decide_eq_true (by show sumI e.places - e.rest e.from_ = _; omega);have e5 : decide (e.tally.Rest = e.rest e.from_) = true := decide_eq_true rfl;simp only [e1, e2, e3, e4, e5, Bool.and_self, Bool.not_true, cond_false];refine za2 ?_ (zac (zvw N) ?_)
    . show ¬ ¬ e.paper = W (W (W (e.delivered + e.spoilt) + (sumI e.places - e.rest e.from_)) + e.rest e.from_)
      rw [zaH (n := e.delivered + e.spoilt) (by omega) (by omega), zaH (n := e.delivered + e.spoilt + (sumI e.places - e.rest e.from_)) (by omega) (by omega), zaH (by omega) (by omega)];intro h; exact h (by omega)
    . exact zxy hN hb (r := p.2) (e := e) (ed := ed) (by rw [<- hke]) (by rw [<- hke]; exact heo) hd
theorem zxz (hN:N=400)(hrel:RelR b.S b.E R H)(hb:BkOK b){w:Nat}(hi:InvE w b.E)(hw:w<=100)(hp0:∀ j e,getF b.E j=some e->e.paper<=390){k1:Option Bool}(hk:k1=some true):∀ (n:Nat) (seen:List Nat),ziY R.length seen<n ->
  zm5 N b.L b.S b.E b.C R H k1 n seen=some true
 | 0,_,h=>by omega
 | n+1,seen,h=>by
  unfold zm5 zrn;refine znO (λ i p hp hs=>?_) λ _=>hk;have:=zl0 (List.getElem?_eq_some_iff.1 hp).1 hs;exact(zvF hN hrel hb hi hw hp0 hp).trans (zxz hN hrel hb hi hw hp0 hk n (i::seen) (by omega))
theorem ztC (hN:N=400)(hrel:RelR b.S b.E R H)(hb:BkOK b){k0:Option Bool}:zfG N b.L b.S b.E b.C H k0 [nm0 0 0,nm0 0 1,nm0 0 2] N 0=k0:=by
 have step:∀ (n:Nat) (v:Nat),v<3->[nm0 0 0,nm0 0 1,nm0 0 2][v]? = some (nm0 0 v)->zfG N b.L b.S b.E b.C H k0 [nm0 0 0,nm0 0 1,nm0 0 2] (n+1) (v:Int)=zfG N b.L b.S b.E b.C H k0 [nm0 0 0,nm0 0 1,nm0 0 2] n ((v+1:Nat):Int):=by
  intro n v hv hx
  have h32:f32 N (nm0 0 v) b.L b.S b.E b.C=some (zdq b (nm0 0 v)):=by rw[hN];exact zxn (M:=399) hb (zph 0 v)
  have hw:W ((v:Int)+1)=((v+1:Nat):Int):=W1 (by omega);have hst:=hrel.st (nm0 0 v);show zf5 _ N b.L b.S b.E b.C H k0 [nm0 0 0,nm0 0 1,nm0 0 2] (v:Int)=_;unfold zf5;refine zcG (by simp;omega) (zac (zlY hx) (zac h32 (zac rfl ?_)));rw[show A2strN.mk zan zan=zA from rfl,hst,hw]
  cases ha:stO b.S (nm0 0 v) with
  | none =>
   have hao:zdq b (nm0 0 v)=(0,zan,5):=by unfold zdq;rw[ha]
   rw[hao];rfl
  | some a =>
   have hok:=hb.sh.stOK ha
   have hao:zdq b (nm0 0 v)=(a.thick,onN b.E a.of,0):=by
    cases hof:a.of with
    | none=>simp only[zdq,ha,hof,onN]
    | some j =>
     obtain⟨e,he,_⟩:=hb.sh.onE ha hof;obtain⟨k,hk⟩:=zaT.1 he;have hnm:e.name=k:=(hb.sh.ed (k,e) (List.mem_of_getElem? hk)).2;simp only[zdq,ha,hof,he,onN,hk,Option.map_some,Option.getD_some,hnm]
   have t1:=hok.t1;have t9:=hok.t9
   have hc:f49 N (num a.thick.toNat)=some a.thick:=by
    rw[zfK hN (by omega),show ((a.thick.toNat:Nat):Int)=a.thick by omega]
   rw[hao];show (bif !(true == decide ((0:Int)=0)) then _ else _)=_;rw[decide_eq_true rfl];show ((f49 N (num a.thick.toNat)).bind _)=_;refine zac hc (za2 (by simp) (za2 (by simp[ze5]) (za2 (by show ¬ a.thick<1;omega) rfl)))
 obtain⟨n,hn⟩:∃ n,N=n+4:=⟨N-4,by omega⟩
 have e4:∀ M,M=n+4->zfG N b.L b.S b.E b.C H k0 [nm0 0 0,nm0 0 1,nm0 0 2] M 0=k0:=by
  intro M hM;subst hM;have h0:=step (n+3) 0 (by omega) rfl;have h1:=step (n+2) 1 (by omega) rfl;have h2:=step (n+1) 2 (by omega) rfl;refine h0.trans (h1.trans (h2.trans ?_));show zf5 _ N b.L b.S b.E b.C H k0 [nm0 0 0,nm0 0 1,nm0 0 2] ((2+1:Nat):Int)=_;unfold zf5;exact za2 (by simp) rfl
 exact e4 N hn
end
theorem ztD {N:Nat}(hN:N=400){a0:List A4u8N}(h0:∀ x,x∈a0->x.ok):f11 N a0=some true:=by
 have hx1:f26 N a0=some ((zcL a0).map (txt nm0)):=zxl (by omega) h0;have hg:=zpe h0;have hlen:=zrz a0;unfold f11;simp only[zaR];refine zac hx1 ?_
 have htell:=zry (F:=zcU N ((zcL a0).map (txt nm0)) (zbU N)) (k:=zbU N) hg (λ n i y b hi hxi hy hb=>by
  obtain⟨l,hl,rfl⟩:=hy;show zcu _ N _ _ (i:Int) b.L b.S b.E b.C=_;unfold zcu;simp only[zaR];have hq:=zui (M:=397) hb (by omega) (rdA hl) (λ _=>zuj hl);rw[show 397+3=N by omega] at hq;refine zcG (by omega) (zac (zlY hxi) ?_);unfold zct;refine zac hq ?_;rw[show W ((i:Int)+1)=((i+1:Nat):Int) from W1 (by omega)];unfold zdc outM
  rw[rdL hl]) (λ n b=>by
  show zcu _ N _ _ _ b.L b.S b.E b.C=_;unfold zcu
  exact za2 (by omega) rfl) N Bk.new zn3 (by omega)
 refine htell.trans ?_;obtain⟨ls,hL,hsub,hwt,hln⟩:=zoa (zcL a0) Bk.new;have hlok:∀ l,l∈ls->l.ok:=λ l hl=>zhW h0 l (hsub l hl);have hbo:BkOK (tell Bk.new ((zcL a0).map (txt nm0))):=zrx zn3 hg;obtain⟨hrun,hsame⟩:=zpd ((zcL a0).map (txt nm0)) Bk.new ztq;have hinv:=zl4 (zcL a0) Bk.new 0 (zhW h0) zn3 ztA
 have hll:(zcL a0).length<=35:=by simpa using hlen
 generalize hbd:tell Bk.new ((zcL a0).map (txt nm0))=b at *;rw[show Bk.new.L=[] from rfl,List.nil_append] at hL;rw[hL] at hrun hsame;have hw290:=zrL h0
 have hls:ls.length<=35:=by omega
 obtain⟨R,H,hrel,hpap,hrr⟩:=ziX ls Bk.new [] [] 0 hlok zn3 hrun zvz (λ j e h=>by simp[Bk.new,getF] at h) (by omega);rw[hsame] at hrel hpap;unfold zbU;simp only[zaR]
 have h21:f21 N b.L b.S b.E b.C=some b.L:=by rw[hN];exact zxm (M:=399) hbo
 refine zac h21 ?_;have hr0:=hrr b.L b.S b.E b.C b.L (zbS N b.L b.S b.E b.C b.L) 0 N N hN (by rw[hL];rfl) (Nat.zero_le _) (by rw[hL];simp;omega) (by omega);rw[show ((0:Nat):Int)=(0:Int) from rfl] at hr0;refine hr0.trans ?_;unfold zbS;simp only[zaR];have hel:=hbo.sh.el
 have hRl:R.length=b.E.length:=by simpa using congrArg List.length hrel.ky
 have hun:=zl1 R.length []
 have hk:zeg N b.L b.S b.E b.C H=some true:=by
  unfold zeg;simp only[zaR];refine zac (zvx N) ((ztC hN hrel hbo).trans ?_);unfold ze3;rw[hN,ztz];rfl
 exact zxz hN hrel hbo hinv (by omega) (λ j e he=>by have:=hpap j e he;omega) hk N [] (by omega)
theorem zrP {a0:List A4u8N}(h0:∀ x,x∈a0->x.ok):f11 400 a0=some true:=ztD rfl h0
end Go.Vc
namespace Go.Vc
abbrev tB:Ty := .int .u8
abbrev tA4:Ty := .comp [tB,tB,tB,tB]
abbrev tSh:Ty := .slice tA4 true 4
theorem tB_of {ds:List D}(h:tB.has ds):∃ n,ds=[u8N n]/\u8In n:=by
 simp only[tB,Ty.has] at h;obtain⟨n,rfl,h⟩:=h;exact⟨n,rfl,by simpa [IntKind.min,IntKind.max,IntKind.signed,IntKind.bits,u8In] using h⟩
theorem zof {ds:List D}(h:(Ty.int .u8).has ds):∃ n,ds=[u8N n]/\u8In n:=tB_of h
theorem zrQ {x:D}(h:tSh.hasD x):∃ l:List A4u8N,x=zdX l/\∀ y,y∈l->y.ok:=by
 obtain⟨l,h1,_,h3⟩:=zsQ (d:=A4u8N.d) (p:=A4u8N.ok) (ds:=[x]) (λ cs h=>by
  simp only[tA4,Ty.has] at h;rw[Ty.hasL] at h;obtain⟨a0,b0,rfl,h0,h⟩:=h;rw[Ty.hasL] at h;obtain⟨a1,b1,rfl,h1,h⟩:=h;rw[Ty.hasL] at h;obtain⟨a2,b2,rfl,h2,h⟩:=h;rw[Ty.hasL] at h;obtain⟨a3,b3,rfl,h3,h⟩:=h;simp only[Ty.hasL] at h;subst h;obtain⟨x0,rfl,p0⟩:=zof h0;obtain⟨x1,rfl,p1⟩:=zof h1;obtain⟨x2,rfl,p2⟩:=zof h2;obtain⟨x3,rfl,p3⟩:=zof h3
  exact⟨⟨x0,x1,x2,x3⟩,rfl,p0,p1,p2,p3⟩) h
 exact⟨l,List.singleton_inj.1 h1,h3⟩
end Go.Vc
namespace Go.Vc
open Go.Proofs
theorem lx_of {l:List (String×DataW Unit)} (h1:(l.filter λ x=>x.1 == "internal/strconv.uint64pow10")=[("internal/strconv.uint64pow10", Lib.tabData .u64 Lib.pow10Tab)]) {w:World} (h:laidMetH Tryz.prog l w.memory):LX Tryz.prog w:=by
 have h2:=laidMetH.filter (λ x=>x.1 == "internal/strconv.uint64pow10") h
 rw[h1,MakeChecks.laidMetH_plain _ _ _ (by rfl)] at h2;exact LX.heap (w:=w.memory) (Lib.tabIs_of_head (g:=0) (t:=226) (e:=182) (n:=20) (by kernel_rfl) (by kernel_rfl) (by kernel_rfl) (by kernel_rfl) (by kernel_rfl) (by kernel_rfl) h2) rfl
end Go.Vc

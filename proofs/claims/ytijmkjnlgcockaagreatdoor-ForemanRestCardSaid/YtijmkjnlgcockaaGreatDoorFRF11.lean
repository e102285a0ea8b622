/-
  A library for proofs about Go functions by symbolic evaluation,and plain Lean functions that the walked Go functions compute (written by a program of this claim).
-/
import Derived.Test.YtijmkjnlgcockaaGreatDoorFRF10
import Derived.Test.YtijmkjnlgcockaaGreatDoorFRF5
set_option linter.unusedVariables false
set_option linter.unnecessarySimpa false
set_option linter.unusedSimpArgs false
namespace Go.Vc
open Go.Proofs
abbrev TR:=List (ByteArray×RunM)
abbrev TH:=List (ByteArray×A2strN)
def zA:A2strN:=A2strN.mk zaq zaq
section
variable {κ σ τ:Type}
theorem zbY [DecidableEq κ]{k:κ}:∀ {l:List (κ×σ)} {m:List (κ×τ)},l.map (·.1)=m.map (·.1)->zan k l=zan k m
 | [],[],_=>rfl
 | [],_::_,h=>by simp at h
 | _::_,[],h=>by simp at h
 | p::l,q::m,h=>by
  simp only[List.map_cons,List.cons.injEq] at h;simp only[zan,h.1,zbY h.2]
theorem zc3 [DecidableEq κ]{z v:σ}{k k':κ}:∀ l:List (κ×σ),zal z k (setK k' v l)=if k'=k then (v,true) else zal z k l
 | []=>by simp[setK,zal]
 | p::l=>by
  simp only[setK];by_cases h:p.1=k'
  .rw [if_pos h]
   simp only[zal];by_cases h2:k'=k
   .simp [h2]
   .rw [if_neg h2,if_neg h2,if_neg (by rw[h];exact h2)]
  .rw [if_neg h]
   simp only[zal];by_cases h3:p.1=k
   .rw [if_pos h3,if_pos h3,if_neg (λ e=>h (h3.trans e.symm))]
   .rw [if_neg h3,if_neg h3,zc3 l]
theorem zbc {l:List (κ×σ)}{i j:Nat}{f:σ->σ}:getF (modF l i f) j=if i=j then (getF l j).map f else getF l j:=by
 unfold getF;rw[zgT]
 split <;> cases l[j]? <;> rfl
theorem zgi {l:List (κ×σ)}{i:Nat}{x:σ}(h:getF l i=some x):i<l.length:=by
 obtain⟨k,hk⟩:=za1.1 h;exact(List.getElem?_eq_some_iff.1 hk).1
theorem zlX {l:List (κ×σ)}{m:List (κ×τ)}(h:l.map (·.1)=m.map (·.1)){i:Nat}{x:σ}(hx:getF l i=some x):∃ y,getF m i=some y:=by
 have h1:=zgi hx
 have h2:l.length=m.length:=by simpa using congrArg List.length h
 have h3:i<m.length:=by omega
 exact⟨m[i].2,by simp[getF,List.getElem?_eq_getElem h3]⟩
theorem zef {l m:List (κ×σ)}{i:Nat}(h:i<l.length):getF (l++m) i=getF l i:=by
 simp[getF,List.getElem?_append_left h]
theorem zeR {l:List (κ×σ)}{p:κ×σ}:getF (l++[p]) l.length=some p.2:=by simp[getF]
theorem zo3 [DecidableEq κ]{l:List (κ×σ)}{i:Nat}{f:σ->σ}{k:κ}:zan k (modF l i f)=zan k l:=zbY zbl
theorem ziX [DecidableEq κ]{k k':κ}{x:σ}:∀ l:List (κ×σ),zan k (l++[(k',x)])=match zan k l with|some i=>some i|none=>if k'=k then some l.length else none
 | []=>by simp only[List.nil_append,zan];split <;> simp
 | p::l=>by
  simp only[List.cons_append,zan,ziX l];by_cases h:p.1=k
  .simp [h]
  .simp only[h,if_false]
   cases zan k l with
   | some i=>simp
   | none=>by_cases h2:k'=k <;> simp[h2]
end
theorem znY {S:TS}{i:Nat}{f:StoneM->StoneM}{k:ByteArray}:stO (modF S i f) k=if zan k S=some i then (stO S k).map f else stO S k:=by
 unfold stO;rw[zo3]
 cases h:zan k S with
 | none=>rfl
 | some j =>
  simp only[Option.bind_some,zbc,Option.some.injEq];by_cases hj:j=i
  .subst hj;simp
  .rw [if_neg (λ e=>hj e.symm),if_neg hj]
structure EdR (e:EditionM)(r:RunM):Prop where
 ln:e.places.length=r.stones.length+1
 pl:∀ i:Nat,i<e.places.length->e.places[i]? = some (cnt i r.sheets)
 pp:e.paper=r.sheets.length
 dl:e.delivered=cnt (-2) r.sheets
 sp:e.spoilt=cnt (-1) r.sheets
 fr:e.from_=r.ground
 cl:e.closed=r.closed
 ow:e.owed=r.claims
 rg:∀ x,x∈r.sheets -> -2<=x/\x<(e.places.length:Int)
def onN (E:TE):Option Nat->ByteArray
 | none=>zaq
 | some j=>((E[j]?).map (·.1)).getD zaq
def zfi (E:TE)(a:StoneM):A2strN:=⟨num a.thick.toNat,onN E a.of⟩
structure RelR (S:TS)(E:TE)(R:TR)(H:TH):Prop where
 ky:R.map (·.1)=E.map (·.1)
 ed:∀ j e r,getF E j=some e->getF R j=some r->EdR e r
 st:∀ k,zal zA k H=match stO S k with|none=>(zA,false)|some a=>(zfi E a,true)
 on:∀ k a j r,stO S k=some a->a.of=some j->getF R j=some r->0<=a.place/\r.stones[a.place.toNat]? = some k/\∀ i,a.place.toNat<i->r.stones[i]? ≠ some k
 nm:∀ k,k∈E.map (·.1)->k≠zaq
 bk:∀ j r (i:Nat) k,getF R j=some r->r.ground<=(i:Int)->r.stones[i]? = some k->∃ a,stO S k=some a/\a.of=some j/\a.place=i
 sk:∀ k a,stO S k=some a->∃ q,q<3/\k=nm0 0 q
theorem zvn:RelR [] [] [] []:=⟨rfl,λ j e r h=>by simp[getF] at h,λ k=>rfl,λ k a j r h=>by simp[stO,zan] at h,λ k h=>by simp at h,λ j r i k h=>by simp[getF] at h,λ k a h=>by simp[stO,zan] at h⟩
theorem znZ {E E':TE}(h:E'.map (·.1)=E.map (·.1))(o:Option Nat):onN E' o=onN E o:=by
 cases o with
 | none=>rfl
 | some j =>
  have:(E'[j]?).map (·.1)=(E[j]?).map (·.1):=by
   have:=congrArg (·[j]?) h;simpa using this
  simp only[onN,this]
theorem zgj {E E':TE}(h:E'.map (·.1)=E.map (·.1))(a:StoneM):zfi E' a=zfi E a:=by simp only[zfi,znZ h]
section
variable {S:TS} {E:TE} {R:TR} {H:TH} {n:Nat} {C:TC}
theorem RelR.modE (h:RelR S E R H){j:Nat}{e:EditionM}{r r':RunM}{f:EditionM->EditionM}(he:getF E j=some e)(hr:getF R j=some r)(h1:EdR (f e) r')(h2:r'.stones=r.stones)(h3:r'.ground=r.ground):RelR S (modF E j f) (setF R j r') H:=by
 have hs:setF R j r'=modF R j (λ _=>r'):=zb9 (f:=λ _=>r') hr;rw[hs];have hk:(modF E j f).map (·.1)=E.map (·.1):=zbl;refine⟨by rw[zbl,zbl];exact h.ky,λ i e1 r1 ha hb=>?_,λ k=>?_,λ k a i r1 ha hb hc=>?_,λ k=>by rw[hk];exact h.nm k,λ i r1 q k ha hb hc=>?_,h.sk⟩
 .rw [zbc] at ha hb
  by_cases hi:j=i
  .subst hi
   rw[if_pos rfl] at ha hb;rw[he] at ha;rw[hr] at hb
   cases ha;cases hb;exact h1
  .rw [if_neg hi] at ha hb
   exact h.ed i e1 r1 ha hb
 .rw [h.st k]
  cases stO S k with
  | none=>rfl
  | some a=>simp only[zgj hk]
 .rw [zbc] at hc
  by_cases hi:j=i
  .subst hi
   rw[if_pos rfl,hr] at hc
   cases hc
   rw[h2];exact h.on k a j r ha hb hr
  .rw [if_neg hi] at hc
   exact h.on k a i r1 ha hb hc
 .rw [zbc] at ha
  by_cases hi:j=i
  .subst hi
   rw[if_pos rfl,hr] at ha
   cases ha
   rw[h2] at hc;rw[h3] at hb;exact h.bk j r q k hr hb hc
  .rw [if_neg hi] at ha
   exact h.bk i r1 q k ha hb hc
theorem RelR.runOf (h:RelR S E R H){j:Nat}{e:EditionM}(he:getF E j=some e):∃ r,getF R j=some r/\EdR e r:=by
 obtain⟨r,hr⟩:=zlX h.ky.symm he;exact⟨r,hr,h.ed j e r he hr⟩
theorem RelR.look (h:RelR S E R H)(k:ByteArray):zan k R=zan k E:=zbY h.ky
theorem zrm (hE:(E.map (·.1)).Nodup){j:Nat}{e:EditionM}(he:getF E j=some e):zan (onN E (some j)) E=some j:=by
 obtain⟨k,hk⟩:=za1.1 he
 have:onN E (some j)=k:=by simp[onN,hk]
 rw[this];refine zbt.2 ⟨⟨e,hk⟩,λ i q hi hq hqk=>?_⟩;have h1:i<E.length:=(List.getElem?_eq_some_iff.1 hq).1;have h2:j<E.length:=(List.getElem?_eq_some_iff.1 hk).1
 have h4:(E.map (·.1))[i]'(by simpa using h1)=(E.map (·.1))[j]'(by simpa using h2):=by
  simp only[List.getElem_map];rw[(List.getElem?_eq_some_iff.1 hq).2,(List.getElem?_eq_some_iff.1 hk).2,hqk]
 exact List.pairwise_iff_getElem.1 hE i j (by simpa using h1) (by simpa using h2) hi h4
theorem RelR.addS (h:RelR S E R H){k:ByteArray}{t:Int}(hk:zan k S=none)(hq:∃ q,q<3/\k=nm0 0 q):RelR (S++[(k,⟨t,none,0⟩)]) E R (setK k ⟨num t.toNat,zaq⟩ H):=by
 have hst:∀ k',stO (S++[(k,⟨t,none,0⟩)]) k'=if k=k' then some ⟨t,none,0⟩ else stO S k':=by
  intro k';unfold stO;rw[ziX];by_cases hkk:k=k'
  .subst hkk;rw[hk];simp[zeR]
  .cases hl:zan k' S with
   | none=>simp[hkk]
   | some i =>
    obtain⟨⟨x,hx⟩,_⟩:=zbt.1 hl;simp only[if_neg hkk,Option.bind_some];exact zef (List.getElem?_eq_some_iff.1 hx).1
 refine⟨h.ky,h.ed,λ k' => ?_,λ k' a j r ha hb hc=>?_,h.nm,λ j r i k' ha hb hc=>?_,λ k' a ha=>?_⟩
 rotate_left 2
 .obtain ⟨a,h1,h2,h3⟩:=h.bk j r i k' ha hb hc
  refine⟨a, ?_,h2,h3⟩;rw[hst,if_neg]
  .exact h1
  .intro e;subst e
   unfold stO at h1;rw[hk] at h1;cases h1
 .rw [hst] at ha
  by_cases hkk:k=k'
  .subst hkk;exact hq
  .rw [if_neg hkk] at ha;exact h.sk k' a ha
 .rw [zc3,hst]
  by_cases hkk:k=k'
  .simp [hkk,zfi,onN]
  .rw [if_neg hkk,if_neg hkk,h.st]
 .rw [hst] at ha
  by_cases hkk:k=k'
  .rw [if_pos hkk] at ha;cases ha;cases hb
  .rw [if_neg hkk] at ha;exact h.on k' a j r ha hb hc
theorem RelR.addE (h:RelR S E R H)(hS:∀ k a j,stO S k=some a->a.of=some j->j<E.length){k:ByteArray}(hk0:k≠zaq)(hk:zan k E=none) :
  RelR S (E++[(k,⟨k,false,[0],0,0,0,0,[],0⟩)]) (R++[(k,⟨[],[],0,false,[]⟩)]) H:=by
 have hl:R.length=E.length:=by simpa using congrArg List.length h.ky
 have hon:∀ k' a,stO S k'=some a->zfi (E++[(k,⟨k,false,[0],0,0,0,0,[],0⟩)]) a=zfi E a:=by
  intro k' a ha;unfold zfi
  cases hof:a.of with
  | none=>rfl
  | some j=>simp only[onN,List.getElem?_append_left (hS k' a j ha hof)]
 refine⟨by simp[h.ky],λ j e r he hr=>?_,λ k' => ?_,λ k' a j r ha hb hc=>?_,λ k' hk' => ?_,λ j r i k' ha hb hc=>?_,h.sk⟩
 rotate_left 4
 .by_cases hj:j<R.length
  .rw [zef hj] at ha;exact h.bk j r i k' ha hb hc
  .have h1:=zgi ha
   have:j=R.length:=by simp at h1;omega
   subst this;rw[zeR] at ha;cases ha;simp at hc
 .by_cases hj:j<E.length
  .rw [zef hj] at he;rw[zef (by omega)] at hr;exact h.ed j e r he hr
  .have h1:=zgi he
   have:j=E.length:=by simp at h1;omega
   subst this;rw[zeR] at he;rw[show E.length=R.length from hl.symm,zeR] at hr
   cases he;cases hr
   refine⟨rfl,λ i hi=>?_,rfl,rfl,rfl,rfl,rfl,rfl,λ x hx=>by simp at hx⟩
   have:i=0:=by simp at hi;omega
   subst this;rfl
 .rw [h.st]
  cases ha:stO S k' with
  | none=>rfl
  | some a=>simp only[hon k' a ha]
 .have hj:=hS k' a j ha hb
  rw[zef (by omega)] at hc;exact h.on k' a j r ha hb hc
 .simp only[List.map_append,List.mem_append,List.map_cons,List.map_nil,List.mem_singleton] at hk'
  rcases hk' with hk'|rfl
  .exact h.nm k' hk'
  .exact hk0
theorem RelR.draw (h:RelR S E R H){k:ByteArray}{i j:Nat}{a:StoneM}{e:EditionM}{r:RunM}(hof:a.of=none)(hi:zan k S=some i)(ha:getF S i=some a)(he:getF E j=some e)(hr:getF R j=some r) :
  RelR (modF S i λ a=>{ a with of:=some j,place:=(e.places.length:Nat)-1 }) (modF E j λ e=>{ e with places:=e.places++[0] }) (setF R j { r with stones:=r.stones++[k] }) (setK k ⟨num a.thick.toNat,onN E (some j)⟩ H):=by
 have hd:=h.ed j e r he hr;have hs:setF R j { r with stones:=r.stones++[k] }=modF R j (λ _=>{ r with stones:=r.stones++[k] }):=zb9 (f:=λ _=>{ r with stones:=r.stones++[k] }) hr;rw[hs];have hk:(modF E j λ e=>{ e with places:=e.places++[0] }).map (·.1)=E.map (·.1):=zbl
 have hak:stO S k=some a:=by unfold stO;rw[hi];exact ha
 have hln:=hd.ln
 have hst:∀ k',stO (modF S i λ a=>{ a with of:=some j,place:=(e.places.length:Nat)-1 }) k'=if k=k' then some { a with of:=some j,place:=(e.places.length:Nat)-1 } else stO S k':=by
  intro k';rw[znY];by_cases hkk:k=k'
  .subst hkk;rw[if_pos hi,if_pos rfl,hak];rfl
  .rw [if_neg hkk,if_neg]
   intro hl;obtain⟨⟨x,hx⟩,_⟩:=zbt.1 hl;obtain⟨⟨y,hy⟩,_⟩:=zbt.1 hi;rw[hx] at hy;cases hy;exact hkk rfl
 refine⟨by rw[zbl,zbl];exact h.ky,λ i' e1 r1 hA hB=>?_,λ k' => ?_,λ k' a' i' r1 hA hB hC=>?_,λ k=>by rw[hk];exact h.nm k,λ i' r1 q k' hA hB hC=>?_,λ k' a' hA=>?_⟩
 rotate_left 3
 .have old:∀ r2,getF R i'=some r2->r2.ground<=(q:Int)->r2.stones[q]? = some k'->∃ a',stO (modF S i λ a=>{ a with of:=some j,place:=(e.places.length:Nat)-1 }) k'=some a'/\a'.of=some i'/\a'.place=q:=by
   intro r2 g1 g2 g3;obtain⟨a',h1,h2,h3⟩:=h.bk i' r2 q k' g1 g2 g3;refine⟨a', ?_,h2,h3⟩;rw[hst,if_neg]
   .exact h1
   .intro e;subst e
    rw[hak] at h1;cases h1;rw[hof] at h2;cases h2
  rw[zbc] at hA;by_cases hi':j=i'
  .subst hi'
   rw[if_pos rfl,hr] at hA
   cases hA
   have hC:(r.stones++[k])[q]? = some k':=hC;have hB:r.ground<=(q:Int):=hB;by_cases hq':q<r.stones.length
   .rw [List.getElem?_append_left hq'] at hC
    exact old r hr hB hC
   .rw [List.getElem?_append_right (by omega)] at hC
    cases hz:q-r.stones.length with
    | succ m=>rw[hz] at hC;simp at hC
    | zero =>
     rw[hz] at hC;simp at hC;subst hC;refine⟨{ a with of:=some j,place:=(e.places.length:Nat)-1 },by rw[hst,if_pos rfl],rfl, ?_⟩;show ((e.places.length:Nat):Int)-1=q;omega
  .rw [if_neg hi'] at hA
   exact old r1 hA hB hC
 .rw [hst] at hA
  by_cases hkk:k=k'
  .subst hkk;exact h.sk k a hak
  .rw [if_neg hkk] at hA;exact h.sk k' a' hA
 .rw [zbc] at hA hB
  by_cases hi':j=i'
  .subst hi'
   rw[if_pos rfl] at hA hB;rw[he] at hA;rw[hr] at hB
   cases hA;cases hB
   refine⟨by simp[hln],λ q hq=>?_,hd.pp,hd.dl,hd.sp,hd.fr,hd.cl,hd.ow,λ x hx=>?_⟩
   .simp only[List.length_append,List.length_singleton] at hq
    by_cases hq':q<e.places.length
    .rw [List.getElem?_append_left hq'];exact hd.pl q hq'
    .have:q=e.places.length:=by omega
     subst this;rw[List.getElem?_append_right (Nat.le_refl _)];simp only[Nat.sub_self,List.getElem?_cons_zero,Option.some.injEq];exact(zrk λ x hx he=>by have:=(hd.rg x hx).2;omega).symm
   .have:=hd.rg x hx
    simp only[List.length_append,List.length_singleton];omega
  .rw [if_neg hi'] at hA hB
   exact h.ed i' e1 r1 hA hB
 .rw [zc3,hst]
  by_cases hkk:k=k'
  .rw [if_pos hkk,if_pos hkk];simp only[zfi,znZ hk]
  .rw [if_neg hkk,if_neg hkk,h.st]
   cases stO S k' with
   | none=>rfl
   | some a=>simp only[zgj hk]
 .rw [hst] at hA
  rw[zbc] at hC;by_cases hkk:k=k'
  .subst hkk
   rw[if_pos rfl] at hA
   cases hA
   cases hB
   rw[if_pos rfl,hr] at hC
   cases hC
   have hp:((e.places.length:Int)-1).toNat=r.stones.length:=by omega
   refine⟨by show 0<=((e.places.length:Nat):Int)-1;omega, ?_,λ q hq=>?_⟩
   .show (r.stones++[k])[((e.places.length:Int)-1).toNat]? = some k
    rw[hp];simp
   .have hq:((e.places.length:Int)-1).toNat<q:=hq
    rw[List.getElem?_eq_none (by simp;omega)];simp
  .rw [if_neg hkk] at hA
   by_cases hi':j=i'
   .subst hi'
    rw[if_pos rfl,hr] at hC
    cases hC
    obtain⟨h1,h2,h3⟩:=h.on k' a' j r hA hB hr;refine⟨h1, ?_,λ q hq=>?_⟩
    .show (r.stones++[k])[a'.place.toNat]? = some k'
     rw[List.getElem?_append_left (List.getElem?_eq_some_iff.1 h2).1];exact h2
    .show (r.stones++[k])[q]? ≠ some k'
     by_cases hq':q<r.stones.length
     .rw [List.getElem?_append_left hq'];exact h3 q hq
     .rw [List.getElem?_append_right (by omega)]
      cases hz:q-r.stones.length with
      | zero=>simp[hkk]
      | succ m=>simp
   .rw [if_neg hi'] at hC
    exact h.on k' a' i' r1 hA hB hC
theorem RelR.grind (h:RelR S E R H){k:ByteArray}{i j:Nat}{a:StoneM}{e:EditionM}{r:RunM}(hi:zan k S=some i)(ha:getF S i=some a)(hof:a.of=some j)(he:getF E j=some e)(hr:getF R j=some r)(q:Int)(hq:q=a.place+1) :
  RelR (modF S i λ a=>⟨a.thick-1,none,0⟩) (modF E j λ e=>{ e with from_:=max e.from_ q }) (setF R j { r with ground:=max r.ground q }) (setK k ⟨num (a.thick-1).toNat,zaq⟩ H):=by
 have hd:=h.ed j e r he hr;have hs:setF R j { r with ground:=max r.ground q }=modF R j (λ _=>{ r with ground:=max r.ground q }):=zb9 (f:=λ _=>{ r with ground:=max r.ground q }) hr;rw[hs];have hk:(modF E j λ e=>{ e with from_:=max e.from_ q }).map (·.1)=E.map (·.1):=zbl
 have hak:stO S k=some a:=by unfold stO;rw[hi];exact ha
 have hst:∀ k',stO (modF S i λ a=>⟨a.thick-1,none,0⟩) k'=if k=k' then some ⟨a.thick-1,none,0⟩ else stO S k':=by
  intro k';rw[znY];by_cases hkk:k=k'
  .subst hkk;rw[if_pos hi,if_pos rfl,hak];rfl
  .rw [if_neg hkk,if_neg]
   intro hl;obtain⟨⟨x,hx⟩,_⟩:=zbt.1 hl;obtain⟨⟨y,hy⟩,_⟩:=zbt.1 hi;rw[hx] at hy;cases hy;exact hkk rfl
 refine⟨by rw[zbl,zbl];exact h.ky,λ i' e1 r1 hA hB=>?_,λ k' => ?_,λ k' a' i' r1 hA hB hC=>?_,λ k=>by rw[hk];exact h.nm k,λ i' r1 w k' hA hB hC=>?_,λ k' a' hA=>?_⟩
 .rw [zbc] at hA hB
  by_cases hi':j=i'
  .subst hi'
   rw[if_pos rfl] at hA hB;rw[he] at hA;rw[hr] at hB
   cases hA;cases hB
   exact⟨hd.ln,hd.pl,hd.pp,hd.dl,hd.sp,by show max e.from_ q=max r.ground q;rw[hd.fr],hd.cl,hd.ow,hd.rg⟩
  .rw [if_neg hi'] at hA hB
   exact h.ed i' e1 r1 hA hB
 .rw [zc3,hst]
  by_cases hkk:k=k'
  .rw [if_pos hkk,if_pos hkk];rfl
  .rw [if_neg hkk,if_neg hkk,h.st]
   cases stO S k' with
   | none=>rfl
   | some a=>simp only[zgj hk]
 .rw [hst] at hA
  by_cases hkk:k=k'
  .rw [if_pos hkk] at hA;cases hA;cases hB
  .rw [if_neg hkk] at hA
   rw[zbc] at hC;by_cases hi':j=i'
   .subst hi'
    rw[if_pos rfl,hr] at hC
    cases hC
    exact h.on k' a' j r hA hB hr
   .rw [if_neg hi'] at hC
    exact h.on k' a' i' r1 hA hB hC
 .have old:∀ r2,getF R i'=some r2->r2.ground<=(w:Int)->(i'=j->q<=(w:Int))->r2.stones[w]? = some k'->∃ a',stO (modF S i λ a=>⟨a.thick-1,none,0⟩) k'=some a'/\a'.of=some i'/\a'.place=w:=by
   intro r2 g1 g2 g4 g3;obtain⟨a',h1,h2,h3⟩:=h.bk i' r2 w k' g1 g2 g3;refine⟨a', ?_,h2,h3⟩;rw[hst,if_neg]
   .exact h1
   .intro e;subst e
    rw[hak] at h1;cases h1;rw[hof] at h2;cases h2;have:=g4 rfl;omega
  rw[zbc] at hA;by_cases hi':j=i'
  .subst hi'
   rw[if_pos rfl,hr] at hA
   cases hA
   have hB:max r.ground q<=(w:Int):=hB;exact old r hr (by omega) (λ _=>by omega) hC
  .rw [if_neg hi'] at hA
   exact old r1 hA hB (λ e=>absurd e.symm hi') hC
 .rw [hst] at hA
  by_cases hkk:k=k'
  .subst hkk;exact h.sk k a hak
  .rw [if_neg hkk] at hA;exact h.sk k' a' hA
end
end Go.Vc
namespace Go.Vc
open Go.Proofs
section
variable {α β ρ:Type}
theorem zbI {p:Prop}[Decidable p]{a b c:α}(h:p)(h2:a=c):(bif decide p then a else b)=c:=by rw[decide_eq_true h];exact h2
theorem zaR {p:Prop}[Decidable p]{a b c:α}(h:¬ p)(h2:b=c):(bif decide p then a else b)=c:=by rw[decide_eq_false h];exact h2
theorem zac {o:Option α}{x:α}{f:α->Option β}{c:Option β}(h:o=some x)(h2:f x=c):o.bind f=c:=by rw[h];exact h2
theorem zh4 {o:Option Nat}{i:Nat}{a c:Option β}{b:Nat->Option β}(h:o=some i)(h2:b i=c):onO o a b=c:=by rw[h];exact h2
end
theorem pcsN {N:Nat}(hN:N=400){l:Ln}(h:l.ok):f31 N (txt nm0 l)=some (pcs l):=by rw[hN];exact zxc h
theorem zgE {N:Nat}(hN:N=400){n:Nat}(h:n<=300):f49 N (num n)=some (n:Int):=by rw[hN];exact zrj h
theorem zvo {N:Nat}(hN:N=400){n:Nat}(h:n<=300):f30 N (n:Int)=some (num n):=by rw[hN];exact zth h
theorem zeg {l:Ln}:app 16 (pcs l) [zaq,zaq,zaq]=some (pcs l++[zaq,zaq,zaq]):=by
 unfold app;rw[if_pos]
 have:(pcs l).length<=4:=by cases l <;> simp[pcs]
 have h2:([zaq,zaq,zaq]:TL).length=3:=rfl;simp only[h2,maxLen];omega
theorem W1 {n:Nat}(h:n<=100000):W ((n:Int)+1)=((n+1:Nat):Int):=by rw[zaU (by omega) (by omega)];simp
theorem zh5 {κ σ:Type}{l:List (κ×σ)}{i:Nat}{x:σ}(h:getF l i=some x):setF l i x=l:=by
 obtain⟨k,hk⟩:=za1.1 h;unfold setF;apply List.ext_getElem?;intro j;simp only[List.getElem?_modify];by_cases hj:i=j
 .subst hj;simp[hk]
 .simp [hj]
theorem zrn {κ σ:Type}{l:List (κ×σ)}{i:Nat}{x:σ}:(setF l i x).map (·.1)=l.map (·.1):=by
 unfold setF;apply List.ext_getElem?;intro j;simp only[List.getElem?_map,List.getElem?_modify];by_cases hj:i=j
 .subst hj;cases l[i]? <;> simp
 .simp [hj]
theorem app8 {l:List Int}(h:l.length<=100000):app 8 l [(0:Int)]=some (l++[0]):=by
 unfold app;rw[if_pos];have h2:([0]:List Int).length=1:=rfl;simp only[h2,maxLen];omega
theorem app16 {l:TL}{x:ByteArray}(h:l.length<=100000):app 16 l [x]=some (l++[x]):=by
 unfold app;rw[if_pos];have h2:([x]:TL).length=1:=rfl;simp only[h2,maxLen];omega
def zlY (k:ByteArray):TL->Int->Nat->Int
 | [],c,_=>c
 | s::l,c,i=>zlY k l (if s=k then (i:Int) else c) (i+1)
theorem zn0 {k:ByteArray}:∀ {l:TL} {c:Int} {i:Nat},(∀ j:Nat,l[j]? ≠ some k)->zlY k l c i=c
 | [],c,i,h=>rfl
 | s::l,c,i,h=>by
  have h0:s≠k:=λ e=>h 0 (by simp[e]);simp only[zlY,if_neg h0];exact zn0 λ j hj=>h (j+1) (by simpa using hj)
theorem zkc {k:ByteArray}:∀ {l:TL} {c:Int} {i p:Nat},l[p]? = some k->(∀ j:Nat,p<j->l[j]? ≠ some k)->zlY k l c i=((i+p:Nat):Int)
 | [],c,i,p,h,h2=>by simp at h
 | s::l,c,i,p,h,h2=>by
  simp only[zlY]
  cases p with
  | zero =>
   simp at h;rw[if_pos h,zn0 λ j hj=>h2 (j+1) (by omega) (by simpa using hj)];simp
  | succ p =>
   rw[zkc (p:=p) (by simpa using h) λ j hj hk=>h2 (j+1) (by omega) (by simpa using hk)];omega
def zti {ρ:Type}(k:ByteArray)(L:TL)(F:Int->Int->Option ρ)(K:Int->Option ρ)(c v:Int):Option ρ :=
 bif decide (v<(List.length L:Int)) then ((ix L v).bind λ x=>bif decide (x=k) then (F v (W (v+(1:Int)))) else (F c (W (v+(1:Int))))) else (K c)
theorem last_eq {ρ:Type}{k:ByteArray}{L:TL}{F:Nat->Int->Int->Option ρ}{K:Int->Option ρ}(hm:L.length<=100000)(hF:∀ n c v,F (n+1) c v=zti k L (F n) K c v) :
  ∀ (r d:TL) (n:Nat) (c:Int),d++r=L->r.length<n->F n c (d.length:Int)=K (zlY k r c d.length)
 | [],d,n,c,h1,h2=>by
  cases n with
  | zero=>omega
  | succ n =>
   rw[hF];refine zaR ?_ rfl;rw[<- h1];simp
 | s::r,d,n,c,h1,h2=>by
  cases n with
  | zero=>omega
  | succ n =>
   simp only[List.length_cons] at h2
   have hl:d.length+(r.length+1)=L.length:=by rw[<- h1];simp
   have hix:ix L (d.length:Int)=some s:=by
    unfold ix;rw[if_pos (by omega),<- h1];simp
   have hw:W ((d.length:Int)+1)=((d++[s]).length:Int):=by rw[zaU (by omega) (by omega)];simp
   rw[hF];refine zbI (by omega) (zac hix ?_);by_cases hk:s=k
   .refine zbI hk ?_
    rw[hw,last_eq hm hF r (d++[s]) n _ (by simpa using h1) (by omega)];simp[zlY,hk]
   .refine zaR hk ?_
    rw[hw,last_eq hm hF r (d++[s]) n _ (by simpa using h1) (by omega)];simp[zlY,hk]
section
variable {B1:TL} {B2:TS} {B3:TE} {B4:TC} {x2:TL} {k6:TR->TH->Option Bool} {v:Nat} {r4:Int->TR->TH->Option Bool}
variable {R:TR} {H:TH} {N:Nat}
theorem zfY (hv:v<=100000){R':TR}{H':TH}:zbf B1 B2 B3 B4 x2 (v:Int) r4 R' H'=r4 ((v+1:Nat):Int) R' H':=by rw[zbf,W1 hv]
theorem zro {a n:Nat}(hN:N=400)(hl:(Ln.stone a n).ok)(hv:v<x2.length)(hv2:v<=100000)(hx:ix x2 (v:Int)=some (txt nm0 (.stone a n))) :
  zaD r4 N B1 B2 B3 B4 x2 k6 (v:Int) R H=r4 ((v+1:Nat):Int) R (setK (nm0 0 a) ⟨num n,zaq⟩ H):=by
 unfold zaD;simp only[zaS];refine zbI (by omega) (zac hx (zac (pcsN hN hl) (zac zeg (zac rfl (zac rfl (zac rfl (zbI rfl (zac rfl (zac rfl (zfY hv2))))))))))
theorem zm3 {e:Nat}(hN:N=400)(hl:(Ln.edition e).ok)(hv:v<x2.length)(hv2:v<=100000)(hx:ix x2 (v:Int)=some (txt nm0 (.edition e)))(hn:zan (nm0 1 e) R=none) :
  zaD r4 N B1 B2 B3 B4 x2 k6 (v:Int) R H=r4 ((v+1:Nat):Int) (R++[(nm0 1 e,⟨[],[],0,false,[]⟩)]) H:=by
 unfold zaD;simp only[zaS];refine zbI (by omega) (zac hx (zac (pcsN hN hl) (zac zeg (zac rfl (zac rfl (zac rfl (zaR (by decide) (zbI rfl (zac rfl (zac ?_ (zfY hv2)))))))))));unfold insF;rw[show zan (nm0 1 e) R=none from hn]
theorem ztj {a e:Nat}{j:Nat}{r:RunM}{h:A2strN}(hN:N=400)(hl:(Ln.draw a e).ok)(hv:v<x2.length)(hv2:v<=100000)(hx:ix x2 (v:Int)=some (txt nm0 (.draw a e)))
  (hj:zan (nm0 1 e) R=some j) (hr:getF R j=some r) (hc:r.closed=false) (hh:zal zA (nm0 0 a) H=(h,true)) (h0:h.e0≠zaq) (h1:h.e1=zaq) (hs:r.stones.length<=1000) :
  zaD r4 N B1 B2 B3 B4 x2 k6 (v:Int) R H=r4 ((v+1:Nat):Int) (setF R j { r with stones:=r.stones++[nm0 0 a] }) (setK (nm0 0 a) ⟨h.e0,nm0 1 e⟩ H):=by
 unfold zaD;simp only[zaS];refine zbI (by omega) (zac hx (zac (pcsN hN hl) (zac zeg (zac rfl (zac rfl (zac rfl (zaR (by decide) (zaR (by decide) (zbI rfl (zh4 hj (zac hr ?_)))))))))));rw[hc,cond_false];refine zac rfl ?_;have hh':some (zal (A2strN.mk zaq zaq) (nm0 0 a) H)=some (h,true):=congrArg some hh;refine zac hh' (zaR h0 (zac hh' (zaR (λ hne=>hne h1) (zac hh' (zac rfl (zac (app16 (by omega)) (zac rfl (zfY hv2))))))))
theorem ziY {x42:TL}{key:ByteArray}{j:Nat}{m:Int}{k7:TR->TH->Option Bool}(hm:m<=100):∀ (q:Nat) (n:Nat) (i:Nat) (R:TR) (r:RunM),(i:Int)+q=m->q<n->zan key R=some j->getF R j=some r->r.sheets.length+q<=90000 ->
  zbU B1 B2 B3 B4 x2 (v:Int) H k7 x42 key m n (i:Int) R=k7 (setF R j { r with sheets:=r.sheets++List.replicate q 0 }) H
 | 0,n,i,R,r,h1,h2,h3,h4,h5=>by
  cases n with
  | zero=>omega
  | succ n =>
   unfold zbU zdA;refine zaR (by omega) ?_;have:setF R j { r with sheets:=r.sheets++List.replicate 0 0 }=R:=zh5 (by simpa using h4);rw[this]
 | q+1,n,i,R,r,h1,h2,h3,h4,h5=>by
  cases n with
  | zero=>omega
  | succ n =>
   unfold zbU zdA;refine zbI (by omega) (zh4 h3 (zac h4 (zac (app8 (by omega)) (zac rfl ?_))));have hw:W ((i:Int)+1)=((i+1:Nat):Int):=W1 (by omega);rw[hw,ziY hm q n (i+1) (setF R j { r with sheets:=r.sheets++[0] }) { r with sheets:=r.sheets++[0] } (by omega) (by omega) (by rw[zbY zrn];exact h3) (zdg h4) (by simp;omega)];rw[zcS];simp[List.replicate_succ]
theorem zrp {e n:Nat}{j:Nat}{r:RunM}(hN:N=400)(hl:(Ln.paper e n).ok)(hv:v<x2.length)(hv2:v<=100000)(hx:ix x2 (v:Int)=some (txt nm0 (.paper e n)))(hj:zan (nm0 1 e) R=some j)(hr:getF R j=some r)(hs:r.sheets.length<=10000) :
  zaD r4 N B1 B2 B3 B4 x2 k6 (v:Int) R H=r4 ((v+1:Nat):Int) (setF R j { r with sheets:=r.sheets++List.replicate n 0 }) H:=by
 unfold zaD;simp only[zaS];have hn:n<=20:=hl.2.2;refine zbI (by omega) (zac hx (zac (pcsN hN hl) (zac zeg (zac rfl (zac rfl (zac rfl (zaR (by decide) (zaR (by decide) (zaR (by decide) (zbI rfl (zac rfl (zh4 hj (zac (zgE hN (by omega)) ?_)))))))))))));have h0:=λ k7=>ziY (B1:=B1) (B2:=B2) (B3:=B3) (B4:=B4) (x2:=x2) (v:=v) (H:=H) (x42:=pcs (.paper e n)++[zaq,zaq,zaq]) (key:=nm0 1 e) (m:=(n:Int)) (k7:=k7) (by omega) n N 0 R r (by omega) (by omega) hj hr (by omega);rw[show ((0:Nat):Int)=(0:Int) from rfl] at h0;exact(h0 _).trans (zfY hv2)
theorem zrq {e:Nat}{j:Nat}{r:RunM}(hN:N=400)(hl:(Ln.close e).ok)(hv:v<x2.length)(hv2:v<=100000)(hx:ix x2 (v:Int)=some (txt nm0 (.close e)))(hj:zan (nm0 1 e) R=some j)(hr:getF R j=some r) :
  zaD r4 N B1 B2 B3 B4 x2 k6 (v:Int) R H=r4 ((v+1:Nat):Int) (setF R j { r with closed:=true }) H:=by
 unfold zaD;simp only[zaS];exact zbI (by omega) (zac hx (zac (pcsN hN hl) (zac zeg (zac rfl (zac rfl (zac rfl (zaR (by decide) (zaR (by decide) (zaR (by decide) (zaR (by decide) (zaR (by decide) (zaR (by decide) (zbI rfl (zac rfl (zh4 hj (zac hr (zac rfl (zfY hv2))))))))))))))))))
theorem zrr {c e n:Nat}{j:Nat}{r:RunM}(hN:N=400)(hl:(Ln.claim c e n).ok)(hv:v<x2.length)(hv2:v<=100000)(hx:ix x2 (v:Int)=some (txt nm0 (.claim c e n)))(hj:zan (nm0 1 e) R=some j)(hr:getF R j=some r)(hb : -10000<=(zal 0 (nm0 2 c) r.claims).1/\(zal 0 (nm0 2 c) r.claims).1<=10000) :
  zaD r4 N B1 B2 B3 B4 x2 k6 (v:Int) R H=r4 ((v+1:Nat):Int) (setF R j { r with claims:=setK (nm0 2 c) ((zal 0 (nm0 2 c) r.claims).1+n) r.claims }) H:=by
 unfold zaD;simp only[zaS];have hn:n<=9:=hl.2.2.2;refine zbI (by omega) (zac hx (zac (pcsN hN hl) (zac zeg (zac rfl (zac rfl (zac rfl (zaR (by decide) (zaR (by decide) (zaR (by decide) (zaR (by decide) ?_))))))))));refine zaR (by decide) (zaR (by decide) (zaR (by decide) (zbI rfl (zh4 hj (zac rfl (zac (zgE hN (by omega)) ?_))))));refine zaR (by decide) (zac hr (zac rfl (zac rfl (zac rfl (zac rfl ?_)))));rw[show W ((zal (0:Int) (nm0 2 c) r.claims).1+(n:Int))=(zal 0 (nm0 2 c) r.claims).1+n from zaU (by omega) (by omega)];exact zfY hv2
end
end Go.Vc
namespace Go.Vc
open Go.Proofs
theorem zh6 {α:Type}{l m:List α}(h:m.length=l.length):zg l m=some m:=if_pos h.symm
theorem zgk {α β:Type}{x:α}{f:α->Option β}:(some x).bind f=f x:=rfl
theorem zej {α:Type}{l:List α}{i:Nat}{x:α}(h:l[i]? = some x):ix l (i:Int)=some x:=by
 unfold ix;rw[if_pos (by omega)];simpa using h
section
variable {B1:TL} {B2:TS} {B3:TE} {B4:TC} {x2:TL} {k6:TR->TH->Option Bool} {v:Nat} {r4:Int->TR->TH->Option Bool}
variable {R:TR} {H:TH} {N:Nat} {k7:TR->TH->Option Bool} {x42:TL} {x43:ByteArray}
theorem ztk {j:Nat}{p:Int}{r:RunM}{b0:List Int}{n:Int}(hm:b0.length<=10000)(hN:b0.length<N)(hr:getF R j=some r)(hp : -10<=p/\p<=10000)(hn:0<=n/\n<=1000000) :
  zam B1 B2 B3 B4 x2 H k7 x42 j p b0 (setF R j { r with sheets:=b0 }) N n 0 b0=k7 (setF R j { r with sheets:=mv p (p+1) n b0 }) H:=by
 have hr':getF (setF R j { r with sheets:=b0 }) j=some { r with sheets:=b0 }:=zdg hr;have hw:W (p+1)=p+1:=zaU (by omega) (by omega)
 have hF:∀ (n':Nat) k v b,b.length=b0.length->zam B1 B2 B3 B4 x2 H k7 x42 j p b0 (setF R j { r with sheets:=b0 }) (n'+1) k v b =
   zfX p (p+1) b0.length (zam B1 B2 B3 B4 x2 H k7 x42 j p b0 (setF R j { r with sheets:=b0 }) n') (λ b=>k7 (setF R j { r with sheets:=b }) H) k v b:=by
  intro n' k v b hb;show zaN _ B1 B2 B3 B4 x2 H k7 x42 j p b0 (setF R j { r with sheets:=b0 }) k v b=_;unfold zaN zfX;simp only[hr',zgk,zh6 hb,zcS,hw]
 have:=zgh (a:=p) (t:=p+1) (m:=b0.length) (by omega) hF b0 [] N n (by simp) hN hn.1 hn.2;simpa using this
theorem ztl {j:Nat}{p:Int}{r:RunM}{n k:Nat}(hN0:N=400)(hm:r.sheets.length<=10000)(hN:r.sheets.length<N)(hr:getF R j=some r)(hp : -10<=p/\p<=10000)(hn:n<=300)(hk:k<=300) :
  zas N B1 B2 B3 B4 x2 H k7 x42 (num n) j p r R N k 0 r.sheets=k7 (setF R j { r with sheets:=mv p (p+1) n (mv p (-1) k r.sheets) }) H:=by
 have hF:∀ (n':Nat) k v b,b.length=r.sheets.length->zas N B1 B2 B3 B4 x2 H k7 x42 (num n) j p r R (n'+1) k v b =
   zfX p (-1) r.sheets.length (zas N B1 B2 B3 B4 x2 H k7 x42 (num n) j p r R n') (λ b=>zam B1 B2 B3 B4 x2 H k7 x42 j p b (setF R j { r with sheets:=b }) N n 0 b) k v b:=by
  intro n' k v b hb;show zaO _ N B1 B2 B3 B4 x2 H k7 x42 (num n) j p r R k v b=_;unfold zaO zfX;simp only[hr,zgk,zh6 hb,zgE hN0 hn]
 have:=zgh (a:=p) (t := -1) (m:=r.sheets.length) (by omega) hF r.sheets [] N k (by simp) hN (by omega) (by omega);rw[show ((([]:List Int).length:Nat):Int)=0 from rfl,List.nil_append] at this;rw[this];simp only[List.nil_append];refine(ztk (r:=r) (by rw[zlV];exact hm) (by rw[zlV];exact hN) hr hp ⟨by omega,by omega⟩)
theorem ztm {j:Nat}{p:Nat}{r:RunM}{n:Nat}{c:ByteArray}(hm:r.sheets.length<=10000)(hN:r.sheets.length<N)(hr:getF R j=some r)(hn:n<=300)(hb : -10000<=(zal 0 c r.claims).1/\(zal 0 c r.claims).1<=10000) :
  zar B1 B2 B3 B4 x2 R H k7 x42 j n r c p N n 0 r.sheets=k7 (setF R j { r with sheets:=mv p (-2) n r.sheets,claims:=setK c ((zal 0 c r.claims).1-n) r.claims }) H:=by
 have hw:W ((zal (0:Int) c r.claims).1+W (0-(n:Int)))=(zal 0 c r.claims).1-n:=by
  rw[zaU (n:=0-(n:Int)) (by omega) (by omega),zaU (by omega) (by omega)];omega
 have hF:∀ (n':Nat) k v b,b.length=r.sheets.length->zar B1 B2 B3 B4 x2 R H k7 x42 j n r c p (n'+1) k v b =
   zfX p (-2) r.sheets.length (zar B1 B2 B3 B4 x2 R H k7 x42 j n r c p n') (λ b=>k7 (setF R j { r with sheets:=b,claims:=setK c ((zal 0 c r.claims).1-n) r.claims }) H) k v b:=by
  intro n' k v b hb;show zaH _ B1 B2 B3 B4 x2 R H k7 x42 j n r c p k v b=_;unfold zaH zfX;simp only[zgk,zh6 hb,hw,zcS]
 have:=zgh (a:=p) (t := -2) (m:=r.sheets.length) (by omega) hF r.sheets [] N n (by simp) hN (by omega) (by omega);simpa using this
theorem zrs {a n k:Nat}{j p:Nat}{r:RunM}{h:A2strN}(hN:N=400)(hl:(Ln.print a n k).ok)(hv:v<x2.length)(hv2:v<=100000)(hx:ix x2 (v:Int)=some (txt nm0 (.print a n k)))
  (hh:zal zA (nm0 0 a) H=(h,true)) (hj:zan h.e1 R=some j) (hr:getF R j=some r) (hp:r.stones[p]? = some (nm0 0 a)) (hp2:∀ i,p<i->r.stones[i]? ≠ some (nm0 0 a)) (hs:r.stones.length<400) (hm:r.sheets.length<400) (hc:(n:Int)+k<=cnt p r.sheets) :
  zaD r4 N B1 B2 B3 B4 x2 k6 (v:Int) R H=r4 ((v+1:Nat):Int) (setF R j { r with sheets:=mv p ((p:Int)+1) n (mv p (-1) k r.sheets) }) H:=by
 have hpl:p<r.stones.length:=(List.getElem?_eq_some_iff.1 hp).1;have hn:n<=9:=hl.2.2.1;have hk:k<=2:=hl.2.2.2;unfold zaD;simp only[zaS];refine zbI (by omega) (zac hx (zac (pcsN hN hl) (zac zeg (zac rfl (zac rfl (zac rfl (zaR (by decide) (zaR (by decide) (zaR (by decide) (zaR (by decide) (zbI rfl ?_)))))))))));have hh':some (zal (A2strN.mk zaq zaq) (nm0 0 a) H)=some (h,true):=congrArg some hh;refine zac rfl (zac hh' (zac rfl (zh4 hj (zac hr ?_))))
 have hl1:=last_eq (k:=nm0 0 a) (L:=r.stones) (F:=λ m c w=>zcE B1 B2 B3 B4 x2 (v:Int) R H (pcs (.print a n k)++[zaq,zaq,zaq]) (nm0 0 a) j (zby N B1 B2 B3 B4 x2 (v:Int) R H (zbf B1 B2 B3 B4 x2 (v:Int) r4) (pcs (.print a n k)++[zaq,zaq,zaq]) (num n) (strC [112,114,105,110,116]) (nm0 0 a) j) r m c w)
  (K:=λ c=>zby N B1 B2 B3 B4 x2 (v:Int) R H (zbf B1 B2 B3 B4 x2 (v:Int) r4) (pcs (.print a n k)++[zaq,zaq,zaq]) (num n) (strC [112,114,105,110,116]) (nm0 0 a) j c r.stones) (by omega) (λ _ _ _=>rfl) r.stones [] N (-1) rfl (by omega)
 rw[zkc hp hp2,show (([]:TL).length:Int)=0 from rfl] at hl1;refine Eq.trans hl1 ?_;simp only[List.length_nil,Nat.zero_add];unfold zby;have hself:setF R j { r with stones:=r.stones }=R:=zh5 hr;refine zac hr (zac (zh6 rfl) (zac rfl (zaR (by omega) (zaR (by decide) (zac (zgE hN (by omega)) (zac rfl (zac (zgE hN (by omega)) (zac (zrl (r:=r) (by omega) (by omega)) ?_))))))));rw[show W ((n:Int)+(k:Int))=n+k from zaU (by omega) (by omega)];refine zaR (by show ¬ cnt (p:Int) r.sheets<_;omega) (zac (zgE hN (by omega)) ?_);rw[hself];exact(ztl hN (by omega) (by omega) hr (by omega) (by omega) (by omega)).trans (zfY hv2)
theorem zrt {a t:Nat}{j p:Nat}{r:RunM}{e1:ByteArray}(hN:N=400)(hl:(Ln.grind a).ok)(hv:v<x2.length)(hv2:v<=100000)(hx:ix x2 (v:Int)=some (txt nm0 (.grind a)))
  (hh:zal zA (nm0 0 a) H=(⟨num t,e1⟩,true)) (ht:1<=t) (ht2:t<=300) (hj:zan e1 R=some j) (hr:getF R j=some r) (hp:r.stones[p]? = some (nm0 0 a)) (hp2:∀ i,p<i->r.stones[i]? ≠ some (nm0 0 a)) (hs:r.stones.length<400) :
  zaD r4 N B1 B2 B3 B4 x2 k6 (v:Int) R H=r4 ((v+1:Nat):Int) (setF R j { r with ground:=max r.ground ((p:Int)+1) }) (setK (nm0 0 a) ⟨num (t-1),zaq⟩ H):=by
 have hpl:p<r.stones.length:=(List.getElem?_eq_some_iff.1 hp).1;unfold zaD;simp only[zaS];refine zbI (by omega) (zac hx (zac (pcsN hN hl) (zac zeg (zac rfl (zac rfl (zac rfl (zaR (by decide) (zaR (by decide) (zaR (by decide) (zaR (by decide) (zaR (by decide) (zbI rfl ?_))))))))))));have hh':some (zal (A2strN.mk zaq zaq) (nm0 0 a) H)=some (⟨num t,e1⟩,true):=congrArg some hh;refine zac rfl (zac hh' (zac rfl (zh4 hj (zac hr ?_))))
 have hl1:=last_eq (k:=nm0 0 a) (L:=r.stones) (F:=λ m c w=>zbX B1 B2 B3 B4 x2 (v:Int) R H (pcs (.grind a)++[zaq,zaq,zaq]) (nm0 0 a) j (zbe N B1 B2 B3 B4 x2 (v:Int) R H (zbf B1 B2 B3 B4 x2 (v:Int) r4) (pcs (.grind a)++[zaq,zaq,zaq]) (nm0 0 a) j) r m c w)
  (K:=λ c=>zbe N B1 B2 B3 B4 x2 (v:Int) R H (zbf B1 B2 B3 B4 x2 (v:Int) r4) (pcs (.grind a)++[zaq,zaq,zaq]) (nm0 0 a) j c r.stones) (by omega) (λ _ _ _=>rfl) r.stones [] N (-1) rfl (by omega)
 rw[zkc hp hp2,show (([]:TL).length:Int)=0 from rfl] at hl1;refine Eq.trans hl1 ?_;simp only[List.length_nil,Nat.zero_add];unfold zbe;have hself:setF R j { r with stones:=r.stones }=R:=zh5 hr;have hw:W ((p:Int)+1)=p+1:=zaU (by omega) (by omega)
 have hw2:W ((t:Int)-1)=((t-1:Nat):Int):=by rw[zaU (by omega) (by omega)];omega
 refine zac hr (zac (zh6 rfl) (zac rfl (zaR (by omega) (zac rfl (zac hh' (zac (zgE hN ht2) (zac (x:=num (t-1)) ?_ (zac rfl ?_))))))))
 .rw [hw2];exact zvo hN (by omega)
 .rw [hself,hw]
  exact zfY hv2
theorem zm4 {c e n:Nat}{j:Nat}{r:RunM}(hN:N=400)(hl:(Ln.deliver c e n).ok)(hv:v<x2.length)(hv2:v<=100000)(hx:ix x2 (v:Int)=some (txt nm0 (.deliver c e n)))(hj:zan (nm0 1 e) R=some j)(hr:getF R j=some r)
  (hm:r.sheets.length<400) (hc:(n:Int)<=cnt r.stones.length r.sheets) (hb:(n:Int)<=(zal 0 (nm0 2 c) r.claims).1/\(zal 0 (nm0 2 c) r.claims).1<=10000) :
  zaD r4 N B1 B2 B3 B4 x2 k6 (v:Int) R H=r4 ((v+1:Nat):Int) (setF R j { r with sheets:=mv r.stones.length (-2) n r.sheets,claims:=setK (nm0 2 c) ((zal 0 (nm0 2 c) r.claims).1-n) r.claims }) H:=by
 have hn:n<=9:=hl.2.2.2;unfold zaD;simp only[zaS];refine zbI (by omega) (zac hx (zac (pcsN hN hl) (zac zeg (zac rfl (zac rfl (zac rfl (zaR (by decide) (zaR (by decide) (zaR (by decide) (zaR (by decide) ?_))))))))));refine zaR (by decide) (zaR (by decide) (zaR (by decide) (zaR (by decide) (zbI rfl (zh4 hj (zac rfl (zac (zgE hN (by omega)) ?_)))))));refine zac hr (zac rfl (zac (zrl (r:=r) (by omega) (by omega)) (zaR (by omega) (zac rfl (zac rfl (zac rfl (zaR (by omega) (zac rfl ?_))))))));exact(ztm (by omega) (by omega) hr (by omega) ⟨by omega,by omega⟩).trans (zfY hv2)
end
end Go.Vc
namespace Go.Vc
open Go.Proofs
section
variable {e:EditionM} {r:RunM}
theorem EdR.at_eq (h:EdR e r){i:Nat}(hi:i<e.places.length):e.at_ (i:Int)=cnt i r.sheets:=by
 unfold EditionM.at_;rw[Int.toNat_natCast,h.pl i hi];rfl
theorem EdR.last_eq (h:EdR e r):e.last=cnt r.stones.length r.sheets:=by
 unfold EditionM.last;have:=h.ln;rw[h.pl _ (by omega),show e.places.length-1=r.stones.length by omega];rfl
theorem EdR.paper (h:EdR e r)(n:Nat):EdR { e with paper:=e.paper+n,places:=e.places.set 0 (e.at_ 0+n) } { r with sheets:=r.sheets++List.replicate n 0 }:=by
 have hl:=h.ln;have h0:e.at_ 0=cnt 0 r.sheets:=h.at_eq (i:=0) (by omega);refine⟨by simpa using hl,λ i hi=>?_,by simp[h.pp], ?_, ?_,h.fr,h.cl,h.ow,λ x hx=>?_⟩
 .simp only[List.length_set] at hi
  simp only[List.getElem?_set];by_cases hi0:0=i
  .subst hi0
   simp only[if_true,hi,zk,zka];rw[h0];rfl
  .rw [if_neg hi0,h.pl i hi,zk,zka,if_neg (by omega)];simp
 .simp only[h.dl,zk,zka,if_neg (show ¬ ((0:Int) = -2) by omega)];omega
 .simp only[h.sp,zk,zka,if_neg (show ¬ ((0:Int) = -1) by omega)];omega
 .simp only[List.mem_append,List.mem_replicate] at hx
  simp only[List.length_set]
  rcases hx with hx|⟨_,rfl⟩
  .exact h.rg x hx
  .omega
theorem EdR.print (h:EdR e r){p:Nat}(hp:p<r.stones.length){n k:Nat}(hc:(n:Int)+k<=cnt p r.sheets) :
  EdR { e with places:=(e.places.set p (e.at_ p-((n:Int)+k))).set (p+1) (e.at_ ((p:Int)+1)+n),spoilt:=e.spoilt+k } { r with sheets:=mv p ((p:Int)+1) n (mv p (-1) k r.sheets) }:=by
 have hl:=h.ln;have c1:∀ w,cnt w (mv p (-1) k r.sheets)=cnt w r.sheets+(if w = -1 then (k:Int) else 0)-(if w=(p:Int) then (k:Int) else 0):=λ w=>ziW (by omega) w r.sheets k (by omega) (by omega)
 have c2:∀ w,cnt w (mv p ((p:Int)+1) n (mv p (-1) k r.sheets))=cnt w (mv p (-1) k r.sheets)+(if w=(p:Int)+1 then (n:Int) else 0)-(if w=(p:Int) then (n:Int) else 0) :=
  λ w=>ziW (by omega) w _ n (by omega) (by rw[c1,if_neg (by omega),if_pos rfl];omega)
 have a1:=h.at_eq (i:=p) (by omega);have a2:=h.at_eq (i:=p+1) (by omega);rw[show ((p+1:Nat):Int)=(p:Int)+1 by omega] at a2;refine⟨by simpa using hl,λ i hi=>?_,by simp only[zlV,h.pp], ?_, ?_,h.fr,h.cl,h.ow,λ x hx=>?_⟩
 .simp only[List.length_set] at hi
  rw[c2,c1];simp only[List.getElem?_set,List.length_set];by_cases h1:p+1=i
  .subst h1
   rw[if_pos rfl,if_pos hi,a2,if_neg (by omega),if_neg (by omega),if_pos (by omega),if_neg (by omega)];simp
  .rw [if_neg h1]
   by_cases h2:p=i
   .subst h2
    rw[if_pos rfl,if_pos hi,a1,if_neg (by omega),if_pos rfl,if_neg (by omega),if_pos rfl];simp only[Option.some.injEq];omega
   .rw [if_neg h2,h.pl i hi,if_neg (by omega),if_neg (by omega),if_neg (by omega),if_neg (by omega)]
    simp
 .simp only[h.dl]
  rw[c2,c1,if_neg (by omega),if_neg (by omega),if_neg (by omega),if_neg (by omega)];omega
 .simp only[h.sp]
  rw[c2,c1,if_pos rfl,if_neg (by omega),if_neg (by omega),if_neg (by omega)];omega
 .simp only[List.length_set]
  rcases zlW hx with hx|rfl
  .rcases zlW hx with hx|rfl
   .exact h.rg x hx
   .omega
  .omega
theorem EdR.close (h:EdR e r):EdR { e with closed:=true } { r with closed:=true }:=⟨h.ln,h.pl,h.pp,h.dl,h.sp,h.fr,rfl,h.ow,h.rg⟩
theorem EdR.claim (h:EdR e r)(c:ByteArray)(n:Nat):EdR { e with owed:=setK c ((zal 0 c e.owed).1+n) e.owed,open_:=e.open_+n } { r with claims:=setK c ((zal 0 c r.claims).1+n) r.claims } :=
 ⟨h.ln,h.pl,h.pp,h.dl,h.sp,h.fr,h.cl,by show setK c ((zal 0 c e.owed).1+n) e.owed=_;rw[h.ow],h.rg⟩
theorem EdR.deliver (h:EdR e r)(c:ByteArray){n:Nat}(hc:(n:Int)<=cnt r.stones.length r.sheets) :
  EdR { e with owed:=setK c ((zal 0 c e.owed).1-n) e.owed,open_:=e.open_-n,delivered:=e.delivered+n,places:=e.places.set (e.places.length-1) (e.last-n) }
   { r with sheets:=mv r.stones.length (-2) n r.sheets,claims:=setK c ((zal 0 c r.claims).1-n) r.claims }:=by
 have hl:=h.ln;have c1:∀ w,cnt w (mv r.stones.length (-2) n r.sheets)=cnt w r.sheets+(if w = -2 then (n:Int) else 0)-(if w=(r.stones.length:Int) then (n:Int) else 0):=λ w=>ziW (by omega) w r.sheets n (by omega) hc;refine⟨by simpa using hl,λ i hi=>?_,by simp only[zlV,h.pp], ?_, ?_,h.fr,h.cl, ?_,λ x hx=>?_⟩
 .simp only[List.length_set] at hi
  rw[c1];simp only[List.getElem?_set];by_cases h1:e.places.length-1=i
  .rw [if_pos h1,if_pos (by omega),h.last_eq,if_neg (by omega),if_pos (by omega),show (i:Int)=(r.stones.length:Int) by omega]
   simp
  .rw [if_neg h1,h.pl i hi,if_neg (by omega),if_neg (by omega)];simp
 .simp only[h.dl]
  rw[c1,if_pos rfl,if_neg (by omega)];omega
 .simp only[h.sp]
  rw[c1,if_neg (by omega),if_neg (by omega)];omega
 .show setK c ((zal 0 c e.owed).1-n) e.owed=_;rw[h.ow]
 .simp only[List.length_set]
  rcases zlW hx with hx|rfl
  .exact h.rg x hx
  .omega
end
end Go.Vc
namespace Go.Vc
open Go.Proofs
theorem zfZ {c:ByteArray}:∀ {l:List (ByteArray×Int)},(∀ p,p∈l->0<=p.2)->0<=(zal 0 c l).1/\(zal 0 c l).1<=sumI (l.map (·.2))
 | [],_=>by simp[zal,sumI]
 | p::l,h=>by
  have h0:=h p (List.mem_cons_self ..);have ih:=zfZ (c:=c) (l:=l) λ q hq=>h q (List.mem_cons_of_mem _ hq);simp only[zal,List.map_cons,sumI]
  split
  .show 0<=p.2/\p.2<=_;omega
  .omega
theorem ztn:((List.range 301).all λ n=>decide (num n≠zaq))=true:=by kernel_rfl
theorem zxd {n:Nat}(h:n<=300):num n≠zaq:=of_decide_eq_true (List.all_eq_true.1 ztn n (List.mem_range.2 (by omega)))
theorem zxe:(decide (nm0 1 0≠zaq)&&decide (nm0 1 1≠zaq))=true:=by kernel_rfl
theorem zxf {e:Nat}(h:e<2):nm0 1 e≠zaq:=by
 have:=zxe;rw[Bool.and_eq_true] at this
 match e,h with
 | 0,_=>exact of_decide_eq_true this.1
 | 1,_=>exact of_decide_eq_true this.2
theorem zn1 {κ σ:Type}{l:List (κ×σ)}{i:Nat}{x:σ}(h:getF l i=some x):∃ k,(k,x)∈l:=by
 obtain⟨k,hk⟩:=za1.1 h;exact⟨k,List.mem_of_getElem? hk⟩
section
variable {S:TS} {E:TE} {C:TC} {n:Nat}
theorem ShOK.edOK (h:ShOK n S E C){j:Nat}{e:EditionM}(he:getF E j=some e):EdOK n e:=by
 obtain⟨k,hk⟩:=zn1 he;exact(h.ed _ hk).1
theorem ShOK.stOK (h:ShOK n S E C){k:ByteArray}{a:StoneM}(ha:stO S k=some a):StOK E a:=by
 obtain⟨i,_,hi⟩:=zdB ha;obtain⟨k',hk⟩:=zn1 hi;exact h.st _ hk
theorem ShOK.onE (h:ShOK n S E C){k:ByteArray}{a:StoneM}{j:Nat}(ha:stO S k=some a)(hj:a.of=some j):∃ e,getF E j=some e/\0<=a.place/\a.place+1<e.places.length:=by
 obtain⟨q,hq,h1,h2⟩:=(h.stOK ha).pl j hj;exact⟨q.2,by simp[getF,hq],h1,h2⟩
theorem EdOK.owe {e:EditionM}(h:EdOK n e)(c:ByteArray):0<=(zal 0 c e.owed).1/\(zal 0 c e.owed).1<=5000:=by
 have h1:=zfZ (c:=c) h.ow;have h2:=h.os;have h3:=h.ob;omega
theorem zkd {j:Nat}{k:ByteArray}(h:zan k E=some j):onN E (some j)=k:=by
 obtain⟨⟨x,hx⟩,_⟩:=zbt.1 h;simp[onN,hx]
def Round (l:Ln)(R:TR)(H:TH)(R':TR)(H':TH):Prop :=
 ∀ (B1:TL) (B2:TS) (B3:TE) (B4:TC) (x2:TL) (k6:TR->TH->Option Bool) (v:Nat) (r4:Int->TR->TH->Option Bool) (N:Nat),N=400->v<x2.length->v<=100000->ix x2 (v:Int)=some (txt nm0 l) ->
  zaD r4 N B1 B2 B3 B4 x2 k6 (v:Int) R H=r4 ((v+1:Nat):Int) R' H'
theorem zto {R:TR}{H:TH}{l:Ln}(hl:l.ok)(hS:ShOK n S E C)(hn:n<=120)(hw:zay S E C (ord nm0 l)=0)(h:RelR S E R H)(hp:∀ j e,getF E j=some e->e.paper<=390) :
  ∃ R' H',RelR (doM S E C (ord nm0 l)).1 (doM S E C (ord nm0 l)).2.1 R' H'/\Round l R H R' H':=by
 have hsm:∀ j e r,getF E j=some e->getF R j=some r->EdR e r/\r.stones.length<400/\r.sheets.length<400:=by
  intro j e r he hr;have h1:=h.ed j e r he hr;have h2:=(hS.edOK he).le;have h3:=h1.ln;have h4:=h1.pp;have h5:=hp j e he;exact⟨h1,by omega,by omega⟩
 cases l with
 | stone a t =>
  simp only[ord,zay] at hw
  have hk:zan (nm0 0 a) S=none:=by
   cases hh:zan (nm0 0 a) S with
   | none=>rfl
   | some i=>rw[hh] at hw;simp at hw
  have hr:=h.addS (k:=nm0 0 a) (t:=(t:Int)) hk ⟨a,hl.1,rfl⟩;exact⟨_,_,hr,λ B1 B2 B3 B4 x2 k6 v r4 N hN hv hv2 hx=>zro hN hl hv hv2 hx⟩
 | edition e =>
  simp only[ord,zay] at hw
  have hk:zan (nm0 1 e) E=none:=by
   cases hh:zan (nm0 1 e) E with
   | none=>rfl
   | some i=>rw[hh] at hw;simp at hw
  refine⟨_,_,h.addE (λ k a j ha hj=>?_) (zxf hl) hk,λ B1 B2 B3 B4 x2 k6 v r4 N hN hv hv2 hx=>zm3 hN hl hv hv2 hx (by rw[h.look];exact hk)⟩;obtain⟨e,he,_⟩:=hS.onE ha hj;exact zgi he
 | draw a e =>
  simp only[ord,zay] at hw
  cases ha:stO S (nm0 0 a) with
  | none=>rw[ha] at hw;simp at hw
  | some s =>
   cases he:edO E (nm0 1 e) with
   | none=>rw[ha,he] at hw;simp at hw
   | some d =>
    rw[ha,he] at hw;simp only at hw;obtain⟨i,hi1,hi2⟩:=zdB ha;obtain⟨j,hj1,hj2⟩:=zbO he;obtain⟨r,hr,_⟩:=h.runOf hj2;obtain⟨hd,hs1,hs2⟩:=hsm j d r hj2 hr
    have hof:s.of=none:=by
     cases hh:s.of with
     | none=>rfl
     | some q=>rw[hh] at hw;simp at hw
    have hcl:d.closed=false:=by
     cases hh:d.closed with
     | false=>rfl
     | true=>rw[hof,hh] at hw;simp at hw
    have ht:=(hS.stOK ha).t9
    have hlk:zal zA (nm0 0 a) H=(zfi E s,true):=by rw[h.st,ha]
    refine⟨_,_, ?_,λ B1 B2 B3 B4 x2 k6 v r4 N hN hv hv2 hx=>ztj hN hl hv hv2 hx (by rw[h.look];exact hj1) hr (by rw[<- hd.cl];exact hcl) hlk (zxd (by omega)) (by simp[zfi,hof,onN]) (by omega)⟩;have:=h.draw hof hi1 hi2 hj2 hr;rw[zkd hj1] at this;simpa only[ord,doM,hi1,hj1,hj2,Option.map_some,Option.getD_some,zfi] using this
 | paper e t =>
  simp only[ord,zay] at hw
  cases he:edO E (nm0 1 e) with
  | none=>rw[he] at hw;simp at hw
  | some d =>
   obtain⟨j,hj1,hj2⟩:=zbO he;obtain⟨r,hr,_⟩:=h.runOf hj2;obtain⟨hd,hs1,hs2⟩:=hsm j d r hj2 hr;refine⟨_,_, ?_,λ B1 B2 B3 B4 x2 k6 v r4 N hN hv hv2 hx=>zrp hN hl hv hv2 hx (by rw[h.look];exact hj1) hr (by omega)⟩;have:=h.modE (f:=λ e=>{ e with paper:=e.paper+(t:Int),places:=e.places.set 0 (e.at_ 0+(t:Int)) }) hj2 hr (hd.paper t) rfl rfl;simpa only[ord,doM,hj1] using this
 | print a t k =>
  simp only[ord,zay] at hw
  cases ha:stO S (nm0 0 a) with
  | none=>rw[ha] at hw;simp at hw
  | some s =>
   rw[ha] at hw;simp only at hw
   cases hof:s.of with
   | none=>rw[hof] at hw;simp at hw
   | some j =>
    rw[hof] at hw;simp only at hw;obtain⟨d,hj2,hp0,hp1⟩:=hS.onE ha hof;obtain⟨r,hr,_⟩:=h.runOf hj2;obtain⟨hd,hs1,hs2⟩:=hsm j d r hj2 hr;obtain⟨h1,h2,h3⟩:=h.on _ _ _ _ ha hof hr;have hln:=hd.ln;have htn:1<=t:=hl.2.1;rw[if_neg (by omega),hj2] at hw;simp only at hw
    have hq:s.place=(s.place.toNat:Int):=by omega
    have hat:=hd.at_eq (i:=s.place.toNat) (by omega);rw[<- hq] at hat
    have hc:(t:Int)+k<=cnt s.place.toNat r.sheets:=by
     rw[<- hq,<- hat]
     split at hw
     .cases hw
     .omega
    have hlk:zal zA (nm0 0 a) H=(zfi E s,true):=by rw[h.st,ha]
    refine⟨_,_, ?_,λ B1 B2 B3 B4 x2 k6 v r4 N hN hv hv2 hx=>zrs (p:=s.place.toNat) hN hl hv hv2 hx hlk (by rw[h.look];simp only[zfi,hof];exact zrm hS.ek hj2) hr h2 h3 hs1 hs2 hc⟩
    have:=h.modE (f:=λ e=>{ e with places:=(e.places.set s.place.toNat (e.at_ s.place-((t:Int)+k))).set (s.place.toNat+1) (e.at_ (s.place+1)+t),spoilt:=e.spoilt+k }) (r':={ r with sheets:=mv s.place.toNat ((s.place.toNat:Int)+1) t (mv s.place.toNat (-1) k r.sheets) }) hj2 hr (by
     have hh:=hd.print (p:=s.place.toNat) (by omega) hc
     have e1:d.at_ (s.place.toNat:Int)=d.at_ s.place:=by rw[<- hq]
     have e2:d.at_ ((s.place.toNat:Int)+1)=d.at_ (s.place+1):=by rw[<- hq]
     rw[e1,e2] at hh
     exact hh) rfl rfl
    simpa only[ord,doM,ha,hof] using this
 | close e =>
  simp only[ord,zay] at hw
  cases he:edO E (nm0 1 e) with
  | none=>rw[he] at hw;simp at hw
  | some d =>
   obtain⟨j,hj1,hj2⟩:=zbO he;obtain⟨r,hr,_⟩:=h.runOf hj2;obtain⟨hd,hs1,hs2⟩:=hsm j d r hj2 hr;refine⟨_,_, ?_,λ B1 B2 B3 B4 x2 k6 v r4 N hN hv hv2 hx=>zrq hN hl hv hv2 hx (by rw[h.look];exact hj1) hr⟩;have:=h.modE (f:=λ e=>{ e with closed:=true }) hj2 hr hd.close rfl rfl;simpa only[ord,doM,hj1] using this
 | claim c e t =>
  simp only[ord,zay] at hw
  cases he:edO E (nm0 1 e) with
  | none=>rw[he] at hw;simp at hw
  | some d =>
   obtain⟨j,hj1,hj2⟩:=zbO he;obtain⟨r,hr,_⟩:=h.runOf hj2;obtain⟨hd,hs1,hs2⟩:=hsm j d r hj2 hr;have ho:=(hS.edOK hj2).owe (nm0 2 c);rw[hd.ow] at ho;refine⟨_,_, ?_,λ B1 B2 B3 B4 x2 k6 v r4 N hN hv hv2 hx=>zrr hN hl hv hv2 hx (by rw[h.look];exact hj1) hr ⟨by omega,by omega⟩⟩;have:=h.modE (f:=λ e=>{ e with owed:=setK (nm0 2 c) ((zal 0 (nm0 2 c) e.owed).1+(t:Int)) e.owed,open_:=e.open_+(t:Int) }) hj2 hr (hd.claim _ t) rfl rfl;simpa only[ord,doM,hj1] using this
 | deliver c e t =>
  simp only[ord,zay] at hw
  cases he:edO E (nm0 1 e) with
  | none=>rw[he] at hw;simp at hw
  | some d =>
   obtain⟨j,hj1,hj2⟩:=zbO he;obtain⟨r,hr,_⟩:=h.runOf hj2;obtain⟨hd,hs1,hs2⟩:=hsm j d r hj2 hr;have ho:=(hS.edOK hj2).owe (nm0 2 c);rw[he] at hw;simp only at hw
   have hw1:(t:Int)<=(zal 0 (nm0 2 c) d.owed).1/\(t:Int)<=d.last:=by
    split at hw
    .cases hw
    .split at hw
     .cases hw
     .split at hw
      .cases hw
      .split at hw
       .cases hw
       .omega
   rw[hd.ow] at ho hw1;rw[hd.last_eq] at hw1;refine⟨_,_, ?_,λ B1 B2 B3 B4 x2 k6 v r4 N hN hv hv2 hx=>zm4 hN hl hv hv2 hx (by rw[h.look];exact hj1) hr hs2 hw1.2 ⟨hw1.1,by omega⟩⟩;have:=h.modE (f:=λ e=>{ e with owed:=setK (nm0 2 c) ((zal 0 (nm0 2 c) e.owed).1-(t:Int)) e.owed,open_:=e.open_-(t:Int),delivered:=e.delivered+(t:Int),places:=e.places.set (e.places.length-1) (e.last-(t:Int)) }) hj2 hr (hd.deliver _ hw1.2) rfl rfl;simpa only[ord,doM,hj1] using this
 | grind a =>
  simp only[ord,zay] at hw
  cases ha:stO S (nm0 0 a) with
  | none=>rw[ha] at hw;simp at hw
  | some s =>
   rw[ha] at hw;simp only at hw
   cases hof:s.of with
   | none=>rw[hof] at hw;simp at hw
   | some j =>
    rw[hof] at hw;obtain⟨i,hi1,hi2⟩:=zdB ha;obtain⟨d,hj2,hp0,hp1⟩:=hS.onE ha hof;obtain⟨r,hr,_⟩:=h.runOf hj2;obtain⟨hd,hs1,hs2⟩:=hsm j d r hj2 hr;obtain⟨h1,h2,h3⟩:=h.on _ _ _ _ ha hof hr;have ht1:=(hS.stOK ha).t1;have ht9:=(hS.stOK ha).t9
    have hq:s.place=(s.place.toNat:Int):=by omega
    have hlk:zal zA (nm0 0 a) H=(⟨num s.thick.toNat,onN E s.of⟩,true):=by rw[h.st,ha];rfl
    refine⟨_,_, ?_,λ B1 B2 B3 B4 x2 k6 v r4 N hN hv hv2 hx=>zrt (p:=s.place.toNat) hN hl hv hv2 hx hlk (by omega) (by omega) (by rw[h.look,hof];exact zrm hS.ek hj2) hr h2 h3 hs1⟩;have:=h.grind hi1 hi2 hof hj2 hr (s.place+1) rfl;rw[<- hq,show s.thick.toNat-1=(s.thick-1).toNat by omega];simpa only[ord,doM,hi1,hi2,hof,Option.bind_some,Option.map_some,Option.getD_some] using this
end
end Go.Vc
namespace Go.Vc
open Go.Proofs
def wt:Ln->Nat
 | .paper _ n=>n
 | _=>0
def wts:List Ln->Nat
 | []=>0
 | l::r=>wt l+wts r
theorem zvp (a b:List Ln):wts (a++b)=wts a+wts b:=by
 induction a with
 | nil=>simp[wts]
 | cons x a ih=>simp only[List.cons_append,wts,ih];omega
theorem zdm {E:TE}{i:Nat}{f:EditionM->EditionM}{w q:Nat}(h:∀ j e,getF E j=some e->e.paper<=w)(hf:∀ e,(f e).paper<=e.paper+q):∀ j e,getF (modF E i f) j=some e->e.paper<=((w+q:Nat):Int):=by
 intro j e he;rw[zbc] at he
 split at he
 .cases hy:getF E j with
  | none=>rw[hy] at he;cases he
  | some y=>rw[hy] at he;cases he;have:=hf y;have:=h j y hy;omega
 .have:=h j e he;omega
theorem zo4 {S:TS}{E:TE}{C:TC}{l:Ln}{w:Nat}(h:∀ j e,getF E j=some e->e.paper<=w):∀ j e,getF (doM S E C (ord nm0 l)).2.1 j=some e->e.paper<=((w+wt l:Nat):Int):=by
 have h0:∀ q,∀ j e,getF E j=some e->e.paper<=((w+q:Nat):Int):=λ q j e he=>by have:=h j e he;omega
 cases l with
 | stone a n=>exact h0 0
 | edition e =>
  intro j d hd;simp only[ord,doM] at hd;by_cases hj:j<E.length
  .rw [zef hj] at hd;exact h0 _ j d hd
  .have h1:=zgi hd
   have:j=E.length:=by simp at h1;omega
   subst this;rw[zeR] at hd;cases hd;show (0:Int)<=_;omega
 | draw a e =>
  simp only[ord,doM]
  split
  .dsimp only[wt];refine zdm h ?_
   intro e;show e.paper<=e.paper+((0:Nat):Int);omega
  .exact h0 0
 | paper e n =>
  simp only[ord,doM]
  split
  .dsimp only[wt];refine zdm h ?_
   intro e;show e.paper+(n:Int)<=e.paper+((n:Nat):Int);omega
  .exact h0 _
 | print a n k =>
  simp only[ord,doM]
  split
  .split
   .dsimp only[wt];refine zdm h ?_
    intro e;show e.paper<=e.paper+((0:Nat):Int);omega
   .exact h0 0
  .exact h0 0
 | close e =>
  simp only[ord,doM]
  split
  .dsimp only[wt];refine zdm h ?_
   intro e;show e.paper<=e.paper+((0:Nat):Int);omega
  .exact h0 0
 | claim c e n =>
  simp only[ord,doM]
  split
  .dsimp only[wt];refine zdm h ?_
   intro e;show e.paper<=e.paper+((0:Nat):Int);omega
  .exact h0 0
 | deliver c e n =>
  simp only[ord,doM]
  split
  .dsimp only[wt];refine zdm h ?_
   intro e;show e.paper<=e.paper+((0:Nat):Int);omega
  .exact h0 0
 | grind a =>
  simp only[ord,doM]
  split
  .split
   .dsimp only[wt];refine zdm h ?_
    intro e;show e.paper<=e.paper+((0:Nat):Int);omega
   .exact h0 0
  .exact h0 0
theorem rdL {l:Ln}(h:l.ok):rd (txt nm0 l)=(ord nm0 l,0):=by
 unfold rd;rw[zrb h];rfl
theorem ziZ:∀ (ls:List Ln) (b:Bk) (R:TR) (H:TH) (w:Nat),(∀ l,l∈ls->l.ok)->BkOK b->Runs b (ls.map (txt nm0))->RelR b.S b.E R H->(∀ j e,getF b.E j=some e->e.paper<=w)->w+wts ls<=390 ->
  ∃ R' H',RelR (tell b (ls.map (txt nm0))).S (tell b (ls.map (txt nm0))).E R' H'/\(∀ j e,getF (tell b (ls.map (txt nm0))).E j=some e->e.paper<=((w+wts ls:Nat):Int)) /\
   ∀ (B1:TL) (B2:TS) (B3:TE) (B4:TC) (x2:TL) (k6:TR->TH->Option Bool) (v m N:Nat),N=400->x2.drop v=ls.map (txt nm0)->v<=x2.length->x2.length<=1000->ls.length<m->zcf N B1 B2 B3 B4 x2 k6 m (v:Int) R H=k6 R' H'
 | [],b,R,H,w,hl,hb,hr,h,hp,hw=>by
  refine⟨R,H,h,λ j e he=>by have:=hp j e he;simp only[wts];omega,λ B1 B2 B3 B4 x2 k6 v m N hN hd hv hx hm=>?_⟩;obtain⟨m,rfl⟩:∃ q,m=q+1:=⟨m-1,by simp at hm;omega⟩
  have hlen:v=x2.length:=by
   have:=congrArg List.length hd;simp at this;omega
  unfold zcf zaD;exact zaR (by omega) rfl
 | l::ls,b,R,H,w,hl,hb,hr,h,hp,hw=>by
  have hlk:=hl l (List.mem_cons_self ..);have hg:GLn (txt nm0 l):=⟨l,hlk,rfl⟩;have hrd:=rdL hlk;obtain⟨he,hr2⟩:=hr
  have he':errM b (ord nm0 l,0)=0:=by rw[<- hrd];exact he
  have hwr:zay b.S b.E b.C (ord nm0 l)=0:=by
   unfold errM at he';dsimp only at he';rw[if_pos rfl] at he'
   split at he'
   .assumption
   .exact he'
  simp only[wts] at hw
  obtain⟨R1,H1,h1,hR⟩:=zto hlk hb.sh hb.ll hwr h λ j e hj=>by have:=hp j e hj;omega
  have hst:zdl b (txt nm0 l)=⟨b.L++[txt nm0 l],(doM b.S b.E b.C (ord nm0 l)).1,(doM b.S b.E b.C (ord nm0 l)).2.1,(doM b.S b.E b.C (ord nm0 l)).2.2⟩:=by
   unfold zdl;rw[hrd];unfold goM;rw[if_pos he']
  obtain⟨R',H',h2,h3,h4⟩:=ziZ ls (zdl b (txt nm0 l)) R1 H1 (w+wt l) (λ l' hl' => hl l' (List.mem_cons_of_mem _ hl')) (hg.step hb) hr2 (by rw[hst];exact h1) (by rw[hst];exact zo4 hp) (by omega);refine⟨R',H',h2,λ j e he=>by have:=h3 j e he;simp only[wts];omega,λ B1 B2 B3 B4 x2 k6 v m N hN hd hv hx hm=>?_⟩;obtain⟨m,rfl⟩:∃ q,m=q+1:=⟨m-1,by simp at hm;omega⟩
  have hvl:v<x2.length:=by
   have:=congrArg List.length hd;simp at this;omega
  have hxv:x2[v]? = some (txt nm0 l):=by
   have:(x2.drop v)[0]? = some (txt nm0 l):=by rw[hd];rfl
   simpa using this
  show zaD (zcf N B1 B2 B3 B4 x2 k6 m) N B1 B2 B3 B4 x2 k6 (v:Int) R H=_;rw[hR B1 B2 B3 B4 x2 k6 v _ N hN hvl (by omega) (zej hxv)];exact h4 B1 B2 B3 B4 x2 k6 (v+1) m N hN (by rw[<- List.drop_drop,hd];rfl) (by omega) hx (by simp at hm;omega)
theorem zn2:∀ (ls:List Ln) (b:Bk),∃ r:List Ln,(tell b (ls.map (txt nm0))).L=b.L++r.map (txt nm0)/\(∀ l,l∈r->l∈ls)/\wts r<=wts ls/\r.length<=ls.length
 | [],b=>⟨[],by simp[tell],by simp,by simp[wts],by simp⟩
 | l::ls,b=>by
  obtain⟨r,h1,h2,h3,h4⟩:=zn2 ls (zdl b (txt nm0 l));by_cases he:errB b (txt nm0 l)=0
  .refine ⟨l::r, ?_,λ x hx=>?_,by simp only[wts];omega,by simp;omega⟩
   .show (tell (zdl b (txt nm0 l)) (ls.map (txt nm0))).L=_
    rw[h1,zt9 he];simp
   .rcases List.mem_cons.1 hx with rfl|hx
    .exact List.mem_cons_self ..
    .exact List.mem_cons_of_mem _ (h2 x hx)
  .refine ⟨r, ?_,λ x hx=>List.mem_cons_of_mem _ (h2 x hx),by simp only[wts];omega,by simp;omega⟩
   show (tell (zdl b (txt nm0 l)) (ls.map (txt nm0))).L=_;rw[h1,zrd he]
theorem zvq {x:A4u8N}(h:x.ok):wt (lnOf x)<=9:=by
 obtain⟨_,_,_,h3,h3'⟩:=h;unfold lnOf;dsimp only
 split <;> simp only[wt] <;> omega
theorem zru:∀ (s:List A4u8N),(∀ x,x∈s->x.ok)->wts (s.map lnOf)<=9*s.length
 | [],_=>by simp[wts]
 | x::s,h=>by
  have h1:=zvq (h x (List.mem_cons_self ..));have h2:=zru s λ y hy=>h y (List.mem_cons_of_mem _ hy);simp only[List.map_cons,wts,List.length_cons];omega
theorem zrv {s:List A4u8N}(h:∀ x,x∈s->x.ok):wts (zcV s)<=290:=by
 unfold zcV;rw[zvp];have h1:wts zm2=20:=rfl;have h2:=zru (s.take 30) λ x hx=>h x (List.mem_of_mem_take hx)
 have h3:(s.take 30).length<=30:=by simp;omega
 omega
end Go.Vc
namespace Go.Vc
open Go.Proofs
theorem zbW:∀ {l:List Int} {i f:Nat} {x y:Int},l[i]? = some x->sumI ((l.set i y).drop f)=sumI (l.drop f)+(if f<=i then y-x else 0)
 | [],i,f,x,y,h=>by simp at h
 | z::l,i,0,x,y,h=>by
  simp only[List.drop_zero,Nat.zero_le,if_true];rw[zee h];omega
 | z::l,0,f+1,x,y,h=>by simp
 | z::l,i+1,f+1,x,y,h=>by
  simp only[List.set_cons_succ,List.drop_succ_cons];rw[zbW (l:=l) (i:=i) (f:=f) (by simpa using h)];by_cases hf:f<=i
  .rw [if_pos hf,if_pos (by omega)]
  .rw [if_neg hf,if_neg (by omega)]
def InvO (E:TE):Prop:=∀ j e,getF E j=some e->e.open_<=e.rest e.from_+e.spoilt
theorem zdn {E:TE}{i:Nat}{f:EditionM->EditionM}{d:EditionM}(h:InvO E)(hd:getF E i=some d)(hf:(f d).open_<=(f d).rest (f d).from_+(f d).spoilt):InvO (modF E i f):=by
 intro j e he;rw[zbc] at he
 split at he
 .rename_i hij
  subst hij;rw[hd] at he;cases he;exact hf
 .exact h j e he
theorem zrw {S:TS}{E:TE}{C:TC}{n:Nat}{l:Ln}(hl:l.ok)(hS:ShOK n S E C)(hw:zay S E C (ord nm0 l)=0)(h:InvO E):InvO (doM S E C (ord nm0 l)).2.1:=by
 cases l with
 | stone a t=>exact h
 | edition e =>
  intro j d hd;simp only[ord,doM] at hd;by_cases hj:j<E.length
  .rw [zef hj] at hd;exact h j d hd
  .have h1:=zgi hd
   have:j=E.length:=by simp at h1;omega
   subst this;rw[zeR] at hd;cases hd;simp[EditionM.rest,sumI]
 | draw a e =>
  simp only[ord,zay] at hw
  cases ha:stO S (nm0 0 a) with
  | none=>rw[ha] at hw;simp at hw
  | some s =>
   cases he:edO E (nm0 1 e) with
   | none=>rw[ha,he] at hw;simp at hw
   | some d =>
    obtain⟨i,hi1,hi2⟩:=zdB ha;obtain⟨j,hj1,hj2⟩:=zbO he;have hfl:=(hS.edOK hj2).fl;have hf0:=(hS.edOK hj2).f0;simp only[ord,doM,hi1,hj1];refine zdn h hj2 ?_;show d.open_<=sumI ((d.places++[0]).drop d.from_.toNat)+d.spoilt;have:=h j d hj2;unfold EditionM.rest at this;rw[List.drop_append_of_le_length (by omega),zj4];simp only[sumI];omega
 | paper e t =>
  simp only[ord,zay] at hw
  cases he:edO E (nm0 1 e) with
  | none=>rw[he] at hw;simp at hw
  | some d =>
   obtain⟨j,hj1,hj2⟩:=zbO he;have hne:=(hS.edOK hj2).ne;simp only[ord,doM,hj1];refine zdn h hj2 ?_;show d.open_<=sumI ((d.places.set 0 (d.at_ 0+(t:Int))).drop d.from_.toNat)+d.spoilt;have:=h j d hj2;unfold EditionM.rest at this;have h0:d.places[0]? = some (d.at_ 0):=zgD (k:=0) (by omega);rw[zbW h0]
   split <;> omega
 | print a t k =>
  simp only[ord,zay] at hw
  cases ha:stO S (nm0 0 a) with
  | none=>rw[ha] at hw;simp at hw
  | some s =>
   rw[ha] at hw;simp only at hw
   cases hof:s.of with
   | none=>rw[hof] at hw;simp at hw
   | some j =>
    obtain⟨d,hj2,hp0,hp1⟩:=hS.onE ha hof
    have hq:s.place=(s.place.toNat:Int):=by omega
    simp only[ord,doM,ha,hof];refine zdn h hj2 ?_;show d.open_<=sumI (((d.places.set s.place.toNat (d.at_ s.place-((t:Int)+k))).set (s.place.toNat+1) (d.at_ (s.place+1)+t)).drop d.from_.toNat)+(d.spoilt+k);have:=h j d hj2;unfold EditionM.rest at this
    have g1:d.places[s.place.toNat]? = some (d.at_ s.place):=by
     have:=zgD (e:=d) (k:=s.place.toNat) (by omega);rw[<- hq] at this;exact this
    have g2:(d.places.set s.place.toNat (d.at_ s.place-((t:Int)+k)))[s.place.toNat+1]? = some (d.at_ (s.place+1)):=by
     have g3:=zgD (e:=d) (k:=s.place.toNat+1) (by omega);rw[show ((s.place.toNat+1:Nat):Int)=s.place+1 by omega] at g3;rw[List.getElem?_set,if_neg (by omega)];exact g3
    rw[zbW g2,zbW g1]
    split <;> split <;> omega
 | close e =>
  simp only[ord,zay] at hw
  cases he:edO E (nm0 1 e) with
  | none=>rw[he] at hw;simp at hw
  | some d =>
   obtain⟨j,hj1,hj2⟩:=zbO he;simp only[ord,doM,hj1];exact zdn h hj2 (h j d hj2)
 | claim c e t =>
  simp only[ord,zay] at hw
  cases he:edO E (nm0 1 e) with
  | none=>rw[he] at hw;simp at hw
  | some d =>
   obtain⟨j,hj1,hj2⟩:=zbO he;have hsp:=(hS.edOK hj2).sp;rw[he] at hw;simp only at hw;simp only[ord,doM,hj1];refine zdn h hj2 ?_;show d.open_+(t:Int)<=d.rest d.from_+d.spoilt
   split at hw
   .cases hw
   .split at hw
    .cases hw
    .omega
 | deliver c e t =>
  simp only[ord,zay] at hw
  cases he:edO E (nm0 1 e) with
  | none=>rw[he] at hw;simp at hw
  | some d =>
   obtain⟨j,hj1,hj2⟩:=zbO he;have hne:=(hS.edOK hj2).ne;have hfl:=(hS.edOK hj2).fl;have hf0:=(hS.edOK hj2).f0;simp only[ord,doM,hj1];refine zdn h hj2 ?_;show d.open_-(t:Int)<=sumI ((d.places.set (d.places.length-1) (d.last-(t:Int))).drop d.from_.toNat)+d.spoilt;have:=h j d hj2;unfold EditionM.rest at this
   have h0:d.places[d.places.length-1]? = some d.last:=by
    unfold EditionM.last;rw[List.getElem?_eq_getElem (by omega)];rfl
   rw[zbW h0,if_pos (by omega)];omega
 | grind a =>
  simp only[ord,zay] at hw
  cases ha:stO S (nm0 0 a) with
  | none=>rw[ha] at hw;simp at hw
  | some s =>
   rw[ha] at hw;simp only at hw
   cases hof:s.of with
   | none=>rw[hof] at hw;simp at hw
   | some j =>
    rw[hof] at hw;simp only at hw;obtain⟨i,hi1,hi2⟩:=zdB ha;obtain⟨d,hj2,hp0,hp1⟩:=hS.onE ha hof;have hsp:=(hS.edOK hj2).sp;rw[hj2] at hw;simp only at hw;simp only[ord,doM,hi1,hi2,hof,Option.bind_some,Option.map_some,Option.getD_some];refine zdn h hj2 ?_;show d.open_<=d.rest (max d.from_ (s.place+1))+d.spoilt;have:=h j d hj2
    split at hw
    .cases hw
    .split at hw
     .cases hw
     .rename_i hh
      by_cases h1:d.rest (max d.from_ (s.place+1))<d.rest d.from_
      .have:¬ d.rest (max d.from_ (s.place+1))<d.open_:=λ h2=>hh ⟨h1,h2⟩
       omega
      .omega
theorem zlZ:∀ (ls:List Ln) (b:Bk),(∀ l,l∈ls->l.ok)->BkOK b->InvO b.E->InvO (tell b (ls.map (txt nm0))).E
 | [],b,_,_,h=>h
 | l::ls,b,hl,hb,h=>by
  have hlk:=hl l (List.mem_cons_self ..);have hg:GLn (txt nm0 l):=⟨l,hlk,rfl⟩;refine zlZ ls (zdl b (txt nm0 l)) (λ l' hl' => hl l' (List.mem_cons_of_mem _ hl')) (hg.step hb) ?_;unfold zdl goM;rw[rdL hlk]
  split
  .rename_i he
   unfold errM at he;dsimp only at he;rw[if_pos rfl] at he
   split at he
   .exact zrw hlk hb.sh (by assumption) h
   .rename_i hw;exact absurd he hw
  .exact h
end Go.Vc

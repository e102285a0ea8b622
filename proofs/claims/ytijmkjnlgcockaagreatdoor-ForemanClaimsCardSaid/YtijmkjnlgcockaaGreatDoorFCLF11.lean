/-
  A library for proofs about Go functions by symbolic evaluation,and plain Lean functions that the walked Go functions compute (written by a program of this claim).
-/
import Derived.Test.YtijmkjnlgcockaaGreatDoorFCLF10
import Derived.Test.YtijmkjnlgcockaaGreatDoorFCLF5
import Derived.Test.YtijmkjnlgcockaaGreatDoorVc4
import Derived.Test.YtijmkjnlgcockaaGreatDoorFCLF1
import Derived.Test.YtijmkjnlgcockaaGreatDoorFCLF7
import Derived.Test.YtijmkjnlgcockaaGreatDoorVc3
import Derived.Test.YtijmkjnlgcockaaGreatDoorProg
import Derived.LaidSub
import Derived.MakeChecks
set_option linter.unusedVariables false
set_option linter.unnecessarySimpa false
set_option linter.unusedSimpArgs false
namespace Go.Vc
open Go.Proofs
abbrev TR:=List (ByteArray×RunM)
abbrev TH:=List (ByteArray×A2strN)
def zA:A2strN:=A2strN.mk zak zak
section
variable {κ σ τ:Type}
theorem zeA [DecidableEq κ]{k:κ}:∀ {l:List (κ×σ)} {m:List (κ×τ)},l.map (·.1)=m.map (·.1)->zaq k l=zaq k m
 | [],[],_=>rfl
 | [],_::_,h=>by simp at h
 | _::_,[],h=>by simp at h
 | p::l,q::m,h=>by
  simp only[List.map_cons,List.cons.injEq] at h;simp only[zaq,h.1,zeA h.2]
theorem zeB [DecidableEq κ]{z v:σ}{k k':κ}:∀ l:List (κ×σ),zaE z k (setK k' v l)=if k'=k then (v,true) else zaE z k l
 | []=>by simp[setK,zaE]
 | p::l=>by
  simp only[setK];by_cases h:p.1=k'
  .rw [if_pos h]
   simp only[zaE];by_cases h2:k'=k
   .simp [h2]
   .rw [if_neg h2,if_neg h2,if_neg (by rw[h];exact h2)]
  .rw [if_neg h]
   simp only[zaE];by_cases h3:p.1=k
   .rw [if_pos h3,if_pos h3,if_neg (λ e=>h (h3.trans e.symm))]
   .rw [if_neg h3,if_neg h3,zeB l]
theorem zbF {l:List (κ×σ)}{i j:Nat}{f:σ->σ}:getF (modF l i f) j=if i=j then (getF l j).map f else getF l j:=by
 unfold getF;rw[zgE]
 split <;> cases l[j]? <;> rfl
theorem zen {l:List (κ×σ)}{i:Nat}{x:σ}(h:getF l i=some x):i<l.length:=by
 obtain⟨k,hk⟩:=zaX.1 h;exact(List.getElem?_eq_some_iff.1 hk).1
theorem zrz {l:List (κ×σ)}{m:List (κ×τ)}(h:l.map (·.1)=m.map (·.1)){i:Nat}{x:σ}(hx:getF l i=some x):∃ y,getF m i=some y:=by
 have h1:=zen hx
 have h2:l.length=m.length:=by simpa using congrArg List.length h
 have h3:i<m.length:=by omega
 exact⟨m[i].2,by simp[getF,List.getElem?_eq_getElem h3]⟩
theorem zdq {l m:List (κ×σ)}{i:Nat}(h:i<l.length):getF (l++m) i=getF l i:=by
 simp[getF,List.getElem?_append_left h]
theorem zd2 {l:List (κ×σ)}{p:κ×σ}:getF (l++[p]) l.length=some p.2:=by simp[getF]
theorem zpa [DecidableEq κ]{l:List (κ×σ)}{i:Nat}{f:σ->σ}{k:κ}:zaq k (modF l i f)=zaq k l:=zeA zbt
theorem ziS [DecidableEq κ]{k k':κ}{x:σ}:∀ l:List (κ×σ),zaq k (l++[(k',x)])=match zaq k l with|some i=>some i|none=>if k'=k then some l.length else none
 | []=>by simp only[List.nil_append,zaq];split <;> simp
 | p::l=>by
  simp only[List.cons_append,zaq,ziS l];by_cases h:p.1=k
  .simp [h]
  .simp only[h,if_false]
   cases zaq k l with
   | some i=>simp
   | none=>by_cases h2:k'=k <;> simp[h2]
end
theorem zn2 {S:TS}{i:Nat}{f:StoneM->StoneM}{k:ByteArray}:stO (modF S i f) k=if zaq k S=some i then (stO S k).map f else stO S k:=by
 unfold stO;rw[zpa]
 cases h:zaq k S with
 | none=>rfl
 | some j =>
  simp only[Option.bind_some,zbF,Option.some.injEq];by_cases hj:j=i
  .subst hj;simp
  .rw [if_neg (λ e=>hj e.symm),if_neg hj]
structure EdR (e:EditionM)(r:RunM):Prop where
 ln:e.places.length=r.stones.length+1
 pl:∀ i:Nat,i<e.places.length->e.places[i]? = some (cnt i r.sheets)
 pp:e.paper=r.sheets.length
 dl:e.delivered=cnt (-2) r.sheets
 sp:e.spoilt=cnt (-1) r.sheets
 fr:e.from_=r.ground
 cl:e.closed=r.closed
 ow:e.owed=r.claims
 rg:∀ x,x∈r.sheets -> -2<=x/\x<(e.places.length:Int)
def onN (E:TE):Option Nat->ByteArray
 | none=>zak
 | some j=>((E[j]?).map (·.1)).getD zak
def zdf (E:TE)(a:StoneM):A2strN:=⟨num a.thick.toNat,onN E a.of⟩
structure RelR (S:TS)(E:TE)(R:TR)(H:TH):Prop where
 ky:R.map (·.1)=E.map (·.1)
 ed:∀ j e r,getF E j=some e->getF R j=some r->EdR e r
 st:∀ k,zaE zA k H=match stO S k with|none=>(zA,false)|some a=>(zdf E a,true)
 on:∀ k a j r,stO S k=some a->a.of=some j->getF R j=some r->0<=a.place/\r.stones[a.place.toNat]? = some k/\∀ i,a.place.toNat<i->r.stones[i]? ≠ some k
 nm:∀ k,k∈E.map (·.1)->k≠zak
 bk:∀ j r (i:Nat) k,getF R j=some r->r.ground<=(i:Int)->r.stones[i]? = some k->∃ a,stO S k=some a/\a.of=some j/\a.place=i
 sk:∀ k a,stO S k=some a->∃ q,q<3/\k=nm0 0 q
theorem zvz:RelR [] [] [] []:=⟨rfl,λ j e r h=>by simp[getF] at h,λ k=>rfl,λ k a j r h=>by simp[stO,zaq] at h,λ k h=>by simp at h,λ j r i k h=>by simp[getF] at h,λ k a h=>by simp[stO,zaq] at h⟩
theorem zn3 {E E':TE}(h:E'.map (·.1)=E.map (·.1))(o:Option Nat):onN E' o=onN E o:=by
 cases o with
 | none=>rfl
 | some j =>
  have:(E'[j]?).map (·.1)=(E[j]?).map (·.1):=by
   have:=congrArg (·[j]?) h;simpa using this
  simp only[onN,this]
theorem zf5 {E E':TE}(h:E'.map (·.1)=E.map (·.1))(a:StoneM):zdf E' a=zdf E a:=by simp only[zdf,zn3 h]
section
variable {S:TS} {E:TE} {R:TR} {H:TH} {n:Nat} {C:TC}
theorem RelR.modE (h:RelR S E R H){j:Nat}{e:EditionM}{r r':RunM}{f:EditionM->EditionM}(he:getF E j=some e)(hr:getF R j=some r)(h1:EdR (f e) r')(h2:r'.stones=r.stones)(h3:r'.ground=r.ground):RelR S (modF E j f) (setF R j r') H:=by
 have hs:setF R j r'=modF R j (λ _=>r'):=zb2 (f:=λ _=>r') hr;rw[hs];have hk:(modF E j f).map (·.1)=E.map (·.1):=zbt;refine⟨by rw[zbt,zbt];exact h.ky,λ i e1 r1 ha hb=>?_,λ k=>?_,λ k a i r1 ha hb hc=>?_,λ k=>by rw[hk];exact h.nm k,λ i r1 q k ha hb hc=>?_,h.sk⟩
 .rw [zbF] at ha hb
  by_cases hi:j=i
  .subst hi
   rw[if_pos rfl] at ha hb;rw[he] at ha;rw[hr] at hb
   cases ha;cases hb;exact h1
  .rw [if_neg hi] at ha hb
   exact h.ed i e1 r1 ha hb
 .rw [h.st k]
  cases stO S k with
  | none=>rfl
  | some a=>simp only[zf5 hk]
 .rw [zbF] at hc
  by_cases hi:j=i
  .subst hi
   rw[if_pos rfl,hr] at hc
   cases hc
   rw[h2];exact h.on k a j r ha hb hr
  .rw [if_neg hi] at hc
   exact h.on k a i r1 ha hb hc
 .rw [zbF] at ha
  by_cases hi:j=i
  .subst hi
   rw[if_pos rfl,hr] at ha
   cases ha
   rw[h2] at hc;rw[h3] at hb;exact h.bk j r q k hr hb hc
  .rw [if_neg hi] at ha
   exact h.bk i r1 q k ha hb hc
theorem RelR.runOf (h:RelR S E R H){j:Nat}{e:EditionM}(he:getF E j=some e):∃ r,getF R j=some r/\EdR e r:=by
 obtain⟨r,hr⟩:=zrz h.ky.symm he;exact⟨r,hr,h.ed j e r he hr⟩
theorem RelR.look (h:RelR S E R H)(k:ByteArray):zaq k R=zaq k E:=zeA h.ky
theorem zm6 (hE:(E.map (·.1)).Nodup){j:Nat}{e:EditionM}(he:getF E j=some e):zaq (onN E (some j)) E=some j:=by
 obtain⟨k,hk⟩:=zaX.1 he
 have:onN E (some j)=k:=by simp[onN,hk]
 rw[this];refine zbd.2 ⟨⟨e,hk⟩,λ i q hi hq hqk=>?_⟩;have h1:i<E.length:=(List.getElem?_eq_some_iff.1 hq).1;have h2:j<E.length:=(List.getElem?_eq_some_iff.1 hk).1
 have h4:(E.map (·.1))[i]'(by simpa using h1)=(E.map (·.1))[j]'(by simpa using h2):=by
  simp only[List.getElem_map];rw[(List.getElem?_eq_some_iff.1 hq).2,(List.getElem?_eq_some_iff.1 hk).2,hqk]
 exact List.pairwise_iff_getElem.1 hE i j (by simpa using h1) (by simpa using h2) hi h4
theorem RelR.addS (h:RelR S E R H){k:ByteArray}{t:Int}(hk:zaq k S=none)(hq:∃ q,q<3/\k=nm0 0 q):RelR (S++[(k,⟨t,none,0⟩)]) E R (setK k ⟨num t.toNat,zak⟩ H):=by
 have hst:∀ k',stO (S++[(k,⟨t,none,0⟩)]) k'=if k=k' then some ⟨t,none,0⟩ else stO S k':=by
  intro k';unfold stO;rw[ziS];by_cases hkk:k=k'
  .subst hkk;rw[hk];simp[zd2]
  .cases hl:zaq k' S with
   | none=>simp[hkk]
   | some i =>
    obtain⟨⟨x,hx⟩,_⟩:=zbd.1 hl;simp only[if_neg hkk,Option.bind_some];exact zdq (List.getElem?_eq_some_iff.1 hx).1
 refine⟨h.ky,h.ed,λ k' => ?_,λ k' a j r ha hb hc=>?_,h.nm,λ j r i k' ha hb hc=>?_,λ k' a ha=>?_⟩
 rotate_left 2
 .obtain ⟨a,h1,h2,h3⟩:=h.bk j r i k' ha hb hc
  refine⟨a, ?_,h2,h3⟩;rw[hst,if_neg]
  .exact h1
  .intro e;subst e
   unfold stO at h1;rw[hk] at h1;cases h1
 .rw [hst] at ha
  by_cases hkk:k=k'
  .subst hkk;exact hq
  .rw [if_neg hkk] at ha;exact h.sk k' a ha
 .rw [zeB,hst]
  by_cases hkk:k=k'
  .simp [hkk,zdf,onN]
  .rw [if_neg hkk,if_neg hkk,h.st]
 .rw [hst] at ha
  by_cases hkk:k=k'
  .rw [if_pos hkk] at ha;cases ha;cases hb
  .rw [if_neg hkk] at ha;exact h.on k' a j r ha hb hc
theorem RelR.addE (h:RelR S E R H)(hS:∀ k a j,stO S k=some a->a.of=some j->j<E.length){k:ByteArray}(hk0:k≠zak)(hk:zaq k E=none) :
  RelR S (E++[(k,⟨k,false,[0],0,0,0,0,[],0⟩)]) (R++[(k,⟨[],[],0,false,[]⟩)]) H:=by
 have hl:R.length=E.length:=by simpa using congrArg List.length h.ky
 have hon:∀ k' a,stO S k'=some a->zdf (E++[(k,⟨k,false,[0],0,0,0,0,[],0⟩)]) a=zdf E a:=by
  intro k' a ha;unfold zdf
  cases hof:a.of with
  | none=>rfl
  | some j=>simp only[onN,List.getElem?_append_left (hS k' a j ha hof)]
 refine⟨by simp[h.ky],λ j e r he hr=>?_,λ k' => ?_,λ k' a j r ha hb hc=>?_,λ k' hk' => ?_,λ j r i k' ha hb hc=>?_,h.sk⟩
 rotate_left 4
 .by_cases hj:j<R.length
  .rw [zdq hj] at ha;exact h.bk j r i k' ha hb hc
  .have h1:=zen ha
   have:j=R.length:=by simp at h1;omega
   subst this;rw[zd2] at ha;cases ha;simp at hc
 .by_cases hj:j<E.length
  .rw [zdq hj] at he;rw[zdq (by omega)] at hr;exact h.ed j e r he hr
  .have h1:=zen he
   have:j=E.length:=by simp at h1;omega
   subst this;rw[zd2] at he;rw[show E.length=R.length from hl.symm,zd2] at hr
   cases he;cases hr
   refine⟨rfl,λ i hi=>?_,rfl,rfl,rfl,rfl,rfl,rfl,λ x hx=>by simp at hx⟩
   have:i=0:=by simp at hi;omega
   subst this;rfl
 .rw [h.st]
  cases ha:stO S k' with
  | none=>rfl
  | some a=>simp only[hon k' a ha]
 .have hj:=hS k' a j ha hb
  rw[zdq (by omega)] at hc;exact h.on k' a j r ha hb hc
 .simp only[List.map_append,List.mem_append,List.map_cons,List.map_nil,List.mem_singleton] at hk'
  rcases hk' with hk'|rfl
  .exact h.nm k' hk'
  .exact hk0
theorem RelR.draw (h:RelR S E R H){k:ByteArray}{i j:Nat}{a:StoneM}{e:EditionM}{r:RunM}(hof:a.of=none)(hi:zaq k S=some i)(ha:getF S i=some a)(he:getF E j=some e)(hr:getF R j=some r) :
  RelR (modF S i λ a=>{ a with of:=some j,place:=(e.places.length:Nat)-1 }) (modF E j λ e=>{ e with places:=e.places++[0] }) (setF R j { r with stones:=r.stones++[k] }) (setK k ⟨num a.thick.toNat,onN E (some j)⟩ H):=by
 have hd:=h.ed j e r he hr;have hs:setF R j { r with stones:=r.stones++[k] }=modF R j (λ _=>{ r with stones:=r.stones++[k] }):=zb2 (f:=λ _=>{ r with stones:=r.stones++[k] }) hr;rw[hs];have hk:(modF E j λ e=>{ e with places:=e.places++[0] }).map (·.1)=E.map (·.1):=zbt
 have hak:stO S k=some a:=by unfold stO;rw[hi];exact ha
 have hln:=hd.ln
 have hst:∀ k',stO (modF S i λ a=>{ a with of:=some j,place:=(e.places.length:Nat)-1 }) k'=if k=k' then some { a with of:=some j,place:=(e.places.length:Nat)-1 } else stO S k':=by
  intro k';rw[zn2];by_cases hkk:k=k'
  .subst hkk;rw[if_pos hi,if_pos rfl,hak];rfl
  .rw [if_neg hkk,if_neg]
   intro hl;obtain⟨⟨x,hx⟩,_⟩:=zbd.1 hl;obtain⟨⟨y,hy⟩,_⟩:=zbd.1 hi;rw[hx] at hy;cases hy;exact hkk rfl
 refine⟨by rw[zbt,zbt];exact h.ky,λ i' e1 r1 hA hB=>?_,λ k' => ?_,λ k' a' i' r1 hA hB hC=>?_,λ k=>by rw[hk];exact h.nm k,λ i' r1 q k' hA hB hC=>?_,λ k' a' hA=>?_⟩
 rotate_left 3
 .have old:∀ r2,getF R i'=some r2->r2.ground<=(q:Int)->r2.stones[q]? = some k'->∃ a',stO (modF S i λ a=>{ a with of:=some j,place:=(e.places.length:Nat)-1 }) k'=some a'/\a'.of=some i'/\a'.place=q:=by
   intro r2 g1 g2 g3;obtain⟨a',h1,h2,h3⟩:=h.bk i' r2 q k' g1 g2 g3;refine⟨a', ?_,h2,h3⟩;rw[hst,if_neg]
   .exact h1
   .intro e;subst e
    rw[hak] at h1;cases h1;rw[hof] at h2;cases h2
  rw[zbF] at hA;by_cases hi':j=i'
  .subst hi'
   rw[if_pos rfl,hr] at hA
   cases hA
   have hC:(r.stones++[k])[q]? = some k':=hC;have hB:r.ground<=(q:Int):=hB;by_cases hq':q<r.stones.length
   .rw [List.getElem?_append_left hq'] at hC
    exact old r hr hB hC
   .rw [List.getElem?_append_right (by omega)] at hC
    cases hz:q-r.stones.length with
    | succ m=>rw[hz] at hC;simp at hC
    | zero =>
     rw[hz] at hC;simp at hC;subst hC;refine⟨{ a with of:=some j,place:=(e.places.length:Nat)-1 },by rw[hst,if_pos rfl],rfl, ?_⟩;show ((e.places.length:Nat):Int)-1=q;omega
  .rw [if_neg hi'] at hA
   exact old r1 hA hB hC
 .rw [hst] at hA
  by_cases hkk:k=k'
  .subst hkk;exact h.sk k a hak
  .rw [if_neg hkk] at hA;exact h.sk k' a' hA
 .rw [zbF] at hA hB
  by_cases hi':j=i'
  .subst hi'
   rw[if_pos rfl] at hA hB;rw[he] at hA;rw[hr] at hB
   cases hA;cases hB
   refine⟨by simp[hln],λ q hq=>?_,hd.pp,hd.dl,hd.sp,hd.fr,hd.cl,hd.ow,λ x hx=>?_⟩
   .simp only[List.length_append,List.length_singleton] at hq
    by_cases hq':q<e.places.length
    .rw [List.getElem?_append_left hq'];exact hd.pl q hq'
    .have:q=e.places.length:=by omega
     subst this;rw[List.getElem?_append_right (Nat.le_refl _)];simp only[Nat.sub_self,List.getElem?_cons_zero,Option.some.injEq];exact(zry λ x hx he=>by have:=(hd.rg x hx).2;omega).symm
   .have:=hd.rg x hx
    simp only[List.length_append,List.length_singleton];omega
  .rw [if_neg hi'] at hA hB
   exact h.ed i' e1 r1 hA hB
 .rw [zeB,hst]
  by_cases hkk:k=k'
  .rw [if_pos hkk,if_pos hkk];simp only[zdf,zn3 hk]
  .rw [if_neg hkk,if_neg hkk,h.st]
   cases stO S k' with
   | none=>rfl
   | some a=>simp only[zf5 hk]
 .rw [hst] at hA
  rw[zbF] at hC;by_cases hkk:k=k'
  .subst hkk
   rw[if_pos rfl] at hA
   cases hA
   cases hB
   rw[if_pos rfl,hr] at hC
   cases hC
   have hp:((e.places.length:Int)-1).toNat=r.stones.length:=by omega
   refine⟨by show 0<=((e.places.length:Nat):Int)-1;omega, ?_,λ q hq=>?_⟩
   .show (r.stones++[k])[((e.places.length:Int)-1).toNat]? = some k
    rw[hp];simp
   .have hq:((e.places.length:Int)-1).toNat<q:=hq
    rw[List.getElem?_eq_none (by simp;omega)];simp
  .rw [if_neg hkk] at hA
   by_cases hi':j=i'
   .subst hi'
    rw[if_pos rfl,hr] at hC
    cases hC
    obtain⟨h1,h2,h3⟩:=h.on k' a' j r hA hB hr;refine⟨h1, ?_,λ q hq=>?_⟩
    .show (r.stones++[k])[a'.place.toNat]? = some k'
     rw[List.getElem?_append_left (List.getElem?_eq_some_iff.1 h2).1];exact h2
    .show (r.stones++[k])[q]? ≠ some k'
     by_cases hq':q<r.stones.length
     .rw [List.getElem?_append_left hq'];exact h3 q hq
     .rw [List.getElem?_append_right (by omega)]
      cases hz:q-r.stones.length with
      | zero=>simp[hkk]
      | succ m=>simp
   .rw [if_neg hi'] at hC
    exact h.on k' a' i' r1 hA hB hC
theorem RelR.grind (h:RelR S E R H){k:ByteArray}{i j:Nat}{a:StoneM}{e:EditionM}{r:RunM}(hi:zaq k S=some i)(ha:getF S i=some a)(hof:a.of=some j)(he:getF E j=some e)(hr:getF R j=some r)(q:Int)(hq:q=a.place+1) :
  RelR (modF S i λ a=>⟨a.thick-1,none,0⟩) (modF E j λ e=>{ e with from_:=max e.from_ q }) (setF R j { r with ground:=max r.ground q }) (setK k ⟨num (a.thick-1).toNat,zak⟩ H):=by
 have hd:=h.ed j e r he hr;have hs:setF R j { r with ground:=max r.ground q }=modF R j (λ _=>{ r with ground:=max r.ground q }):=zb2 (f:=λ _=>{ r with ground:=max r.ground q }) hr;rw[hs];have hk:(modF E j λ e=>{ e with from_:=max e.from_ q }).map (·.1)=E.map (·.1):=zbt
 have hak:stO S k=some a:=by unfold stO;rw[hi];exact ha
 have hst:∀ k',stO (modF S i λ a=>⟨a.thick-1,none,0⟩) k'=if k=k' then some ⟨a.thick-1,none,0⟩ else stO S k':=by
  intro k';rw[zn2];by_cases hkk:k=k'
  .subst hkk;rw[if_pos hi,if_pos rfl,hak];rfl
  .rw [if_neg hkk,if_neg]
   intro hl;obtain⟨⟨x,hx⟩,_⟩:=zbd.1 hl;obtain⟨⟨y,hy⟩,_⟩:=zbd.1 hi;rw[hx] at hy;cases hy;exact hkk rfl
 refine⟨by rw[zbt,zbt];exact h.ky,λ i' e1 r1 hA hB=>?_,λ k' => ?_,λ k' a' i' r1 hA hB hC=>?_,λ k=>by rw[hk];exact h.nm k,λ i' r1 w k' hA hB hC=>?_,λ k' a' hA=>?_⟩
 .rw [zbF] at hA hB
  by_cases hi':j=i'
  .subst hi'
   rw[if_pos rfl] at hA hB;rw[he] at hA;rw[hr] at hB
   cases hA;cases hB
   exact⟨hd.ln,hd.pl,hd.pp,hd.dl,hd.sp,by show max e.from_ q=max r.ground q;rw[hd.fr],hd.cl,hd.ow,hd.rg⟩
  .rw [if_neg hi'] at hA hB
   exact h.ed i' e1 r1 hA hB
 .rw [zeB,hst]
  by_cases hkk:k=k'
  .rw [if_pos hkk,if_pos hkk];rfl
  .rw [if_neg hkk,if_neg hkk,h.st]
   cases stO S k' with
   | none=>rfl
   | some a=>simp only[zf5 hk]
 .rw [hst] at hA
  by_cases hkk:k=k'
  .rw [if_pos hkk] at hA;cases hA;cases hB
  .rw [if_neg hkk] at hA
   rw[zbF] at hC;by_cases hi':j=i'
   .subst hi'
    rw[if_pos rfl,hr] at hC
    cases hC
    exact h.on k' a' j r hA hB hr
   .rw [if_neg hi'] at hC
    exact h.on k' a' i' r1 hA hB hC
 .have old:∀ r2,getF R i'=some r2->r2.ground<=(w:Int)->(i'=j->q<=(w:Int))->r2.stones[w]? = some k'->∃ a',stO (modF S i λ a=>⟨a.thick-1,none,0⟩) k'=some a'/\a'.of=some i'/\a'.place=w:=by
   intro r2 g1 g2 g4 g3;obtain⟨a',h1,h2,h3⟩:=h.bk i' r2 w k' g1 g2 g3;refine⟨a', ?_,h2,h3⟩;rw[hst,if_neg]
   .exact h1
   .intro e;subst e
    rw[hak] at h1;cases h1;rw[hof] at h2;cases h2;have:=g4 rfl;omega
  rw[zbF] at hA;by_cases hi':j=i'
  .subst hi'
   rw[if_pos rfl,hr] at hA
   cases hA
   have hB:max r.ground q<=(w:Int):=hB;exact old r hr (by omega) (λ _=>by omega) hC
  .rw [if_neg hi'] at hA
   exact old r1 hA hB (λ e=>absurd e.symm hi') hC
 .rw [hst] at hA
  by_cases hkk:k=k'
  .subst hkk;exact h.sk k a hak
  .rw [if_neg hkk] at hA;exact h.sk k' a' hA
end
end Go.Vc
namespace Go.Vc
open Go.Proofs
section
variable {α β ρ:Type}
theorem zb0 {p:Prop}[Decidable p]{a b c:α}(h:p)(h2:a=c):(bif decide p then a else b)=c:=by rw[decide_eq_true h];exact h2
theorem za1 {p:Prop}[Decidable p]{a b c:α}(h:¬ p)(h2:b=c):(bif decide p then a else b)=c:=by rw[decide_eq_false h];exact h2
theorem zac {o:Option α}{x:α}{f:α->Option β}{c:Option β}(h:o=some x)(h2:f x=c):o.bind f=c:=by rw[h];exact h2
theorem zlQ {o:Option Nat}{i:Nat}{a c:Option β}{b:Nat->Option β}(h:o=some i)(h2:b i=c):onO o a b=c:=by rw[h];exact h2
end
theorem pcsN {N:Nat}(hN:N=400){l:Ln}(h:l.ok):f31 N (txt nm0 l)=some (pcs l):=by rw[hN];exact zxp h
theorem zfG {N:Nat}(hN:N=400){n:Nat}(h:n<=300):f49 N (num n)=some (n:Int):=by rw[hN];exact zrx h
theorem itoaN {N:Nat}(hN:N=400){n:Nat}(h:n<=300):f30 N (n:Int)=some (num n):=by rw[hN];exact zty h
theorem zdy {l:Ln}:app 16 (pcs l) [zak,zak,zak]=some (pcs l++[zak,zak,zak]):=by
 unfold app;rw[if_pos]
 have:(pcs l).length<=4:=by cases l <;> simp[pcs]
 have h2:([zak,zak,zak]:TL).length=3:=rfl;simp only[h2,maxLen];omega
theorem W1 {n:Nat}(h:n<=100000):W ((n:Int)+1)=((n+1:Nat):Int):=by rw[zaO (by omega) (by omega)];simp
theorem zfH {κ σ:Type}{l:List (κ×σ)}{i:Nat}{x:σ}(h:getF l i=some x):setF l i x=l:=by
 obtain⟨k,hk⟩:=zaX.1 h;unfold setF;apply List.ext_getElem?;intro j;simp only[List.getElem?_modify];by_cases hj:i=j
 .subst hj;simp[hk]
 .simp [hj]
theorem zrA {κ σ:Type}{l:List (κ×σ)}{i:Nat}{x:σ}:(setF l i x).map (·.1)=l.map (·.1):=by
 unfold setF;apply List.ext_getElem?;intro j;simp only[List.getElem?_map,List.getElem?_modify];by_cases hj:i=j
 .subst hj;cases l[i]? <;> simp
 .simp [hj]
theorem app8 {l:List Int}(h:l.length<=100000):app 8 l [(0:Int)]=some (l++[0]):=by
 unfold app;rw[if_pos];have h2:([0]:List Int).length=1:=rfl;simp only[h2,maxLen];omega
theorem app16 {l:TL}{x:ByteArray}(h:l.length<=100000):app 16 l [x]=some (l++[x]):=by
 unfold app;rw[if_pos];have h2:([x]:TL).length=1:=rfl;simp only[h2,maxLen];omega
def zlR (k:ByteArray):TL->Int->Nat->Int
 | [],c,_=>c
 | s::l,c,i=>zlR k l (if s=k then (i:Int) else c) (i+1)
theorem zn4 {k:ByteArray}:∀ {l:TL} {c:Int} {i:Nat},(∀ j:Nat,l[j]? ≠ some k)->zlR k l c i=c
 | [],c,i,h=>rfl
 | s::l,c,i,h=>by
  have h0:s≠k:=λ e=>h 0 (by simp[e]);simp only[zlR,if_neg h0];exact zn4 λ j hj=>h (j+1) (by simpa using hj)
theorem zj8 {k:ByteArray}:∀ {l:TL} {c:Int} {i p:Nat},l[p]? = some k->(∀ j:Nat,p<j->l[j]? ≠ some k)->zlR k l c i=((i+p:Nat):Int)
 | [],c,i,p,h,h2=>by simp at h
 | s::l,c,i,p,h,h2=>by
  simp only[zlR]
  cases p with
  | zero =>
   simp at h;rw[if_pos h,zn4 λ j hj=>h2 (j+1) (by omega) (by simpa using hj)];simp
  | succ p =>
   rw[zj8 (p:=p) (by simpa using h) λ j hj hk=>h2 (j+1) (by omega) (by simpa using hk)];omega
def ztz {ρ:Type}(k:ByteArray)(L:TL)(F:Int->Int->Option ρ)(K:Int->Option ρ)(c v:Int):Option ρ :=
 bif decide (v<(List.length L:Int)) then ((ix L v).bind λ x=>bif decide (x=k) then (F v (W (v+(1:Int)))) else (F c (W (v+(1:Int))))) else (K c)
theorem last_eq {ρ:Type}{k:ByteArray}{L:TL}{F:Nat->Int->Int->Option ρ}{K:Int->Option ρ}(hm:L.length<=100000)(hF:∀ n c v,F (n+1) c v=ztz k L (F n) K c v) :
  ∀ (r d:TL) (n:Nat) (c:Int),d++r=L->r.length<n->F n c (d.length:Int)=K (zlR k r c d.length)
 | [],d,n,c,h1,h2=>by
  cases n with
  | zero=>omega
  | succ n =>
   rw[hF];refine za1 ?_ rfl;rw[<- h1];simp
 | s::r,d,n,c,h1,h2=>by
  cases n with
  | zero=>omega
  | succ n =>
   simp only[List.length_cons] at h2
   have hl:d.length+(r.length+1)=L.length:=by rw[<- h1];simp
   have hix:ix L (d.length:Int)=some s:=by
    unfold ix;rw[if_pos (by omega),<- h1];simp
   have hw:W ((d.length:Int)+1)=((d++[s]).length:Int):=by rw[zaO (by omega) (by omega)];simp
   rw[hF];refine zb0 (by omega) (zac hix ?_);by_cases hk:s=k
   .refine zb0 hk ?_
    rw[hw,last_eq hm hF r (d++[s]) n _ (by simpa using h1) (by omega)];simp[zlR,hk]
   .refine za1 hk ?_
    rw[hw,last_eq hm hF r (d++[s]) n _ (by simpa using h1) (by omega)];simp[zlR,hk]
section
variable {B1:TL} {B2:TS} {B3:TE} {B4:TC} {x2:TL} {k6:TR->TH->Option Bool} {v:Nat} {r4:Int->TR->TH->Option Bool}
variable {R:TR} {H:TH} {N:Nat}
theorem zfI (hv:v<=100000){R':TR}{H':TH}:za3 B1 B2 B3 B4 x2 (v:Int) r4 R' H'=r4 ((v+1:Nat):Int) R' H':=by rw[za3,W1 hv]
theorem zrB {a n:Nat}(hN:N=400)(hl:(Ln.stone a n).ok)(hv:v<x2.length)(hv2:v<=100000)(hx:ix x2 (v:Int)=some (txt nm0 (.stone a n))) :
  zax r4 N B1 B2 B3 B4 x2 k6 (v:Int) R H=r4 ((v+1:Nat):Int) R (setK (nm0 0 a) ⟨num n,zak⟩ H):=by
 unfold zax;simp only[zaN];refine zb0 (by omega) (zac hx (zac (pcsN hN hl) (zac zdy (zac rfl (zac rfl (zac rfl (zb0 rfl (zac rfl (zac rfl (zfI hv2))))))))))
theorem zm7 {e:Nat}(hN:N=400)(hl:(Ln.edition e).ok)(hv:v<x2.length)(hv2:v<=100000)(hx:ix x2 (v:Int)=some (txt nm0 (.edition e)))(hn:zaq (nm0 1 e) R=none) :
  zax r4 N B1 B2 B3 B4 x2 k6 (v:Int) R H=r4 ((v+1:Nat):Int) (R++[(nm0 1 e,⟨[],[],0,false,[]⟩)]) H:=by
 unfold zax;simp only[zaN];refine zb0 (by omega) (zac hx (zac (pcsN hN hl) (zac zdy (zac rfl (zac rfl (zac rfl (za1 (by decide) (zb0 rfl (zac rfl (zac ?_ (zfI hv2)))))))))));unfold insF;rw[show zaq (nm0 1 e) R=none from hn]
theorem ztA {a e:Nat}{j:Nat}{r:RunM}{h:A2strN}(hN:N=400)(hl:(Ln.draw a e).ok)(hv:v<x2.length)(hv2:v<=100000)(hx:ix x2 (v:Int)=some (txt nm0 (.draw a e)))
  (hj:zaq (nm0 1 e) R=some j) (hr:getF R j=some r) (hc:r.closed=false) (hh:zaE zA (nm0 0 a) H=(h,true)) (h0:h.e0≠zak) (h1:h.e1=zak) (hs:r.stones.length<=1000) :
  zax r4 N B1 B2 B3 B4 x2 k6 (v:Int) R H=r4 ((v+1:Nat):Int) (setF R j { r with stones:=r.stones++[nm0 0 a] }) (setK (nm0 0 a) ⟨h.e0,nm0 1 e⟩ H):=by
 unfold zax;simp only[zaN];refine zb0 (by omega) (zac hx (zac (pcsN hN hl) (zac zdy (zac rfl (zac rfl (zac rfl (za1 (by decide) (za1 (by decide) (zb0 rfl (zlQ hj (zac hr ?_)))))))))));rw[hc,cond_false];refine zac rfl ?_;have hh':some (zaE (A2strN.mk zak zak) (nm0 0 a) H)=some (h,true):=congrArg some hh;refine zac hh' (za1 h0 (zac hh' (za1 (λ hne=>hne h1) (zac hh' (zac rfl (zac (app16 (by omega)) (zac rfl (zfI hv2))))))))
theorem ziT {x42:TL}{key:ByteArray}{j:Nat}{m:Int}{k7:TR->TH->Option Bool}(hm:m<=100):∀ (q:Nat) (n:Nat) (i:Nat) (R:TR) (r:RunM),(i:Int)+q=m->q<n->zaq key R=some j->getF R j=some r->r.sheets.length+q<=90000 ->
  zbG B1 B2 B3 B4 x2 (v:Int) H k7 x42 key m n (i:Int) R=k7 (setF R j { r with sheets:=r.sheets++List.replicate q 0 }) H
 | 0,n,i,R,r,h1,h2,h3,h4,h5=>by
  cases n with
  | zero=>omega
  | succ n =>
   unfold zbG zcT;refine za1 (by omega) ?_;have:setF R j { r with sheets:=r.sheets++List.replicate 0 0 }=R:=zfH (by simpa using h4);rw[this]
 | q+1,n,i,R,r,h1,h2,h3,h4,h5=>by
  cases n with
  | zero=>omega
  | succ n =>
   unfold zbG zcT;refine zb0 (by omega) (zlQ h3 (zac h4 (zac (app8 (by omega)) (zac rfl ?_))));have hw:W ((i:Int)+1)=((i+1:Nat):Int):=W1 (by omega);rw[hw,ziT hm q n (i+1) (setF R j { r with sheets:=r.sheets++[0] }) { r with sheets:=r.sheets++[0] } (by omega) (by omega) (by rw[zeA zrA];exact h3) (zcj h4) (by simp;omega)];rw[zcq];simp[List.replicate_succ]
theorem zrC {e n:Nat}{j:Nat}{r:RunM}(hN:N=400)(hl:(Ln.paper e n).ok)(hv:v<x2.length)(hv2:v<=100000)(hx:ix x2 (v:Int)=some (txt nm0 (.paper e n)))(hj:zaq (nm0 1 e) R=some j)(hr:getF R j=some r)(hs:r.sheets.length<=10000) :
  zax r4 N B1 B2 B3 B4 x2 k6 (v:Int) R H=r4 ((v+1:Nat):Int) (setF R j { r with sheets:=r.sheets++List.replicate n 0 }) H:=by
 unfold zax;simp only[zaN];have hn:n<=20:=hl.2.2;refine zb0 (by omega) (zac hx (zac (pcsN hN hl) (zac zdy (zac rfl (zac rfl (zac rfl (za1 (by decide) (za1 (by decide) (za1 (by decide) (zb0 rfl (zac rfl (zlQ hj (zac (zfG hN (by omega)) ?_)))))))))))));have h0:=λ k7=>ziT (B1:=B1) (B2:=B2) (B3:=B3) (B4:=B4) (x2:=x2) (v:=v) (H:=H) (x42:=pcs (.paper e n)++[zak,zak,zak]) (key:=nm0 1 e) (m:=(n:Int)) (k7:=k7) (by omega) n N 0 R r (by omega) (by omega) hj hr (by omega);rw[show ((0:Nat):Int)=(0:Int) from rfl] at h0;exact(h0 _).trans (zfI hv2)
theorem zrD {e:Nat}{j:Nat}{r:RunM}(hN:N=400)(hl:(Ln.close e).ok)(hv:v<x2.length)(hv2:v<=100000)(hx:ix x2 (v:Int)=some (txt nm0 (.close e)))(hj:zaq (nm0 1 e) R=some j)(hr:getF R j=some r) :
  zax r4 N B1 B2 B3 B4 x2 k6 (v:Int) R H=r4 ((v+1:Nat):Int) (setF R j { r with closed:=true }) H:=by
 unfold zax;simp only[zaN];exact zb0 (by omega) (zac hx (zac (pcsN hN hl) (zac zdy (zac rfl (zac rfl (zac rfl (za1 (by decide) (za1 (by decide) (za1 (by decide) (za1 (by decide) (za1 (by decide) (za1 (by decide) (zb0 rfl (zac rfl (zlQ hj (zac hr (zac rfl (zfI hv2))))))))))))))))))
theorem zrE {c e n:Nat}{j:Nat}{r:RunM}(hN:N=400)(hl:(Ln.claim c e n).ok)(hv:v<x2.length)(hv2:v<=100000)(hx:ix x2 (v:Int)=some (txt nm0 (.claim c e n)))(hj:zaq (nm0 1 e) R=some j)(hr:getF R j=some r)(hb : -10000<=(zaE 0 (nm0 2 c) r.claims).1/\(zaE 0 (nm0 2 c) r.claims).1<=10000) :
  zax r4 N B1 B2 B3 B4 x2 k6 (v:Int) R H=r4 ((v+1:Nat):Int) (setF R j { r with claims:=setK (nm0 2 c) ((zaE 0 (nm0 2 c) r.claims).1+n) r.claims }) H:=by
 unfold zax;simp only[zaN];have hn:n<=9:=hl.2.2.2;refine zb0 (by omega) (zac hx (zac (pcsN hN hl) (zac zdy (zac rfl (zac rfl (zac rfl (za1 (by decide) (za1 (by decide) (za1 (by decide) (za1 (by decide) ?_))))))))));refine za1 (by decide) (za1 (by decide) (za1 (by decide) (zb0 rfl (zlQ hj (zac rfl (zac (zfG hN (by omega)) ?_))))));refine za1 (by decide) (zac hr (zac rfl (zac rfl (zac rfl (zac rfl ?_)))));rw[show W ((zaE (0:Int) (nm0 2 c) r.claims).1+(n:Int))=(zaE 0 (nm0 2 c) r.claims).1+n from zaO (by omega) (by omega)];exact zfI hv2
end
end Go.Vc
namespace Go.Vc
open Go.Proofs
theorem zhU {α:Type}{l m:List α}(h:m.length=l.length):zfp l m=some m:=if_pos h.symm
theorem zf6 {α β:Type}{x:α}{f:α->Option β}:(some x).bind f=f x:=rfl
theorem zlS {α:Type}{l:List α}{i:Nat}{x:α}(h:l[i]? = some x):ix l (i:Int)=some x:=by
 unfold ix;rw[if_pos (by omega)];simpa using h
section
variable {B1:TL} {B2:TS} {B3:TE} {B4:TC} {x2:TL} {k6:TR->TH->Option Bool} {v:Nat} {r4:Int->TR->TH->Option Bool}
variable {R:TR} {H:TH} {N:Nat} {k7:TR->TH->Option Bool} {x42:TL} {x43:ByteArray}
theorem ztB {j:Nat}{p:Int}{r:RunM}{b0:List Int}{n:Int}(hm:b0.length<=10000)(hN:b0.length<N)(hr:getF R j=some r)(hp : -10<=p/\p<=10000)(hn:0<=n/\n<=1000000) :
  zaz B1 B2 B3 B4 x2 H k7 x42 j p b0 (setF R j { r with sheets:=b0 }) N n 0 b0=k7 (setF R j { r with sheets:=mv p (p+1) n b0 }) H:=by
 have hr':getF (setF R j { r with sheets:=b0 }) j=some { r with sheets:=b0 }:=zcj hr;have hw:W (p+1)=p+1:=zaO (by omega) (by omega)
 have hF:∀ (n':Nat) k v b,b.length=b0.length->zaz B1 B2 B3 B4 x2 H k7 x42 j p b0 (setF R j { r with sheets:=b0 }) (n'+1) k v b =
   zfF p (p+1) b0.length (zaz B1 B2 B3 B4 x2 H k7 x42 j p b0 (setF R j { r with sheets:=b0 }) n') (λ b=>k7 (setF R j { r with sheets:=b }) H) k v b:=by
  intro n' k v b hb;show zbf _ B1 B2 B3 B4 x2 H k7 x42 j p b0 (setF R j { r with sheets:=b0 }) k v b=_;unfold zbf zfF;simp only[hr',zf6,zhU hb,zcq,hw]
 have:=zf4 (a:=p) (t:=p+1) (m:=b0.length) (by omega) hF b0 [] N n (by simp) hN hn.1 hn.2;simpa using this
theorem ztC {j:Nat}{p:Int}{r:RunM}{n k:Nat}(hN0:N=400)(hm:r.sheets.length<=10000)(hN:r.sheets.length<N)(hr:getF R j=some r)(hp : -10<=p/\p<=10000)(hn:n<=300)(hk:k<=300) :
  zaF N B1 B2 B3 B4 x2 H k7 x42 (num n) j p r R N k 0 r.sheets=k7 (setF R j { r with sheets:=mv p (p+1) n (mv p (-1) k r.sheets) }) H:=by
 have hF:∀ (n':Nat) k v b,b.length=r.sheets.length->zaF N B1 B2 B3 B4 x2 H k7 x42 (num n) j p r R (n'+1) k v b =
   zfF p (-1) r.sheets.length (zaF N B1 B2 B3 B4 x2 H k7 x42 (num n) j p r R n') (λ b=>zaz B1 B2 B3 B4 x2 H k7 x42 j p b (setF R j { r with sheets:=b }) N n 0 b) k v b:=by
  intro n' k v b hb;show zbg _ N B1 B2 B3 B4 x2 H k7 x42 (num n) j p r R k v b=_;unfold zbg zfF;simp only[hr,zf6,zhU hb,zfG hN0 hn]
 have:=zf4 (a:=p) (t := -1) (m:=r.sheets.length) (by omega) hF r.sheets [] N k (by simp) hN (by omega) (by omega);rw[show ((([]:List Int).length:Nat):Int)=0 from rfl,List.nil_append] at this;rw[this];simp only[List.nil_append];refine(ztB (r:=r) (by rw[zlO];exact hm) (by rw[zlO];exact hN) hr hp ⟨by omega,by omega⟩)
theorem ztD {j:Nat}{p:Nat}{r:RunM}{n:Nat}{c:ByteArray}(hm:r.sheets.length<=10000)(hN:r.sheets.length<N)(hr:getF R j=some r)(hn:n<=300)(hb : -10000<=(zaE 0 c r.claims).1/\(zaE 0 c r.claims).1<=10000) :
  zaA B1 B2 B3 B4 x2 R H k7 x42 j n r c p N n 0 r.sheets=k7 (setF R j { r with sheets:=mv p (-2) n r.sheets,claims:=setK c ((zaE 0 c r.claims).1-n) r.claims }) H:=by
 have hw:W ((zaE (0:Int) c r.claims).1+W (0-(n:Int)))=(zaE 0 c r.claims).1-n:=by
  rw[zaO (n:=0-(n:Int)) (by omega) (by omega),zaO (by omega) (by omega)];omega
 have hF:∀ (n':Nat) k v b,b.length=r.sheets.length->zaA B1 B2 B3 B4 x2 R H k7 x42 j n r c p (n'+1) k v b =
   zfF p (-2) r.sheets.length (zaA B1 B2 B3 B4 x2 R H k7 x42 j n r c p n') (λ b=>k7 (setF R j { r with sheets:=b,claims:=setK c ((zaE 0 c r.claims).1-n) r.claims }) H) k v b:=by
  intro n' k v b hb;show za7 _ B1 B2 B3 B4 x2 R H k7 x42 j n r c p k v b=_;unfold za7 zfF;simp only[zf6,zhU hb,hw,zcq]
 have:=zf4 (a:=p) (t := -2) (m:=r.sheets.length) (by omega) hF r.sheets [] N n (by simp) hN (by omega) (by omega);simpa using this
theorem zrF {a n k:Nat}{j p:Nat}{r:RunM}{h:A2strN}(hN:N=400)(hl:(Ln.print a n k).ok)(hv:v<x2.length)(hv2:v<=100000)(hx:ix x2 (v:Int)=some (txt nm0 (.print a n k)))
  (hh:zaE zA (nm0 0 a) H=(h,true)) (hj:zaq h.e1 R=some j) (hr:getF R j=some r) (hp:r.stones[p]? = some (nm0 0 a)) (hp2:∀ i,p<i->r.stones[i]? ≠ some (nm0 0 a)) (hs:r.stones.length<400) (hm:r.sheets.length<400) (hc:(n:Int)+k<=cnt p r.sheets) :
  zax r4 N B1 B2 B3 B4 x2 k6 (v:Int) R H=r4 ((v+1:Nat):Int) (setF R j { r with sheets:=mv p ((p:Int)+1) n (mv p (-1) k r.sheets) }) H:=by
 have hpl:p<r.stones.length:=(List.getElem?_eq_some_iff.1 hp).1;have hn:n<=9:=hl.2.2.1;have hk:k<=2:=hl.2.2.2;unfold zax;simp only[zaN];refine zb0 (by omega) (zac hx (zac (pcsN hN hl) (zac zdy (zac rfl (zac rfl (zac rfl (za1 (by decide) (za1 (by decide) (za1 (by decide) (za1 (by decide) (zb0 rfl ?_)))))))))));have hh':some (zaE (A2strN.mk zak zak) (nm0 0 a) H)=some (h,true):=congrArg some hh;refine zac rfl (zac hh' (zac rfl (zlQ hj (zac hr ?_))))
 have hl1:=last_eq (k:=nm0 0 a) (L:=r.stones) (F:=λ m c w=>zc B1 B2 B3 B4 x2 (v:Int) R H (pcs (.print a n k)++[zak,zak,zak]) (nm0 0 a) j (zbi N B1 B2 B3 B4 x2 (v:Int) R H (za3 B1 B2 B3 B4 x2 (v:Int) r4) (pcs (.print a n k)++[zak,zak,zak]) (num n) (strC [112,114,105,110,116]) (nm0 0 a) j) r m c w)
  (K:=λ c=>zbi N B1 B2 B3 B4 x2 (v:Int) R H (za3 B1 B2 B3 B4 x2 (v:Int) r4) (pcs (.print a n k)++[zak,zak,zak]) (num n) (strC [112,114,105,110,116]) (nm0 0 a) j c r.stones) (by omega) (λ _ _ _=>rfl) r.stones [] N (-1) rfl (by omega)
 rw[zj8 hp hp2,show (([]:TL).length:Int)=0 from rfl] at hl1;refine Eq.trans hl1 ?_;simp only[List.length_nil,Nat.zero_add];unfold zbi;have hself:setF R j { r with stones:=r.stones }=R:=zfH hr;refine zac hr (zac (zhU rfl) (zac rfl (za1 (by omega) (za1 (by decide) (zac (zfG hN (by omega)) (zac rfl (zac (zfG hN (by omega)) (zac (zup (r:=r) (by omega) (by omega)) ?_))))))));rw[show W ((n:Int)+(k:Int))=n+k from zaO (by omega) (by omega)];refine za1 (by show ¬ cnt (p:Int) r.sheets<_;omega) (zac (zfG hN (by omega)) ?_);rw[hself];exact(ztC hN (by omega) (by omega) hr (by omega) (by omega) (by omega)).trans (zfI hv2)
theorem zrG {a t:Nat}{j p:Nat}{r:RunM}{e1:ByteArray}(hN:N=400)(hl:(Ln.grind a).ok)(hv:v<x2.length)(hv2:v<=100000)(hx:ix x2 (v:Int)=some (txt nm0 (.grind a)))
  (hh:zaE zA (nm0 0 a) H=(⟨num t,e1⟩,true)) (ht:1<=t) (ht2:t<=300) (hj:zaq e1 R=some j) (hr:getF R j=some r) (hp:r.stones[p]? = some (nm0 0 a)) (hp2:∀ i,p<i->r.stones[i]? ≠ some (nm0 0 a)) (hs:r.stones.length<400) :
  zax r4 N B1 B2 B3 B4 x2 k6 (v:Int) R H=r4 ((v+1:Nat):Int) (setF R j { r with ground:=max r.ground ((p:Int)+1) }) (setK (nm0 0 a) ⟨num (t-1),zak⟩ H):=by
 have hpl:p<r.stones.length:=(List.getElem?_eq_some_iff.1 hp).1;unfold zax;simp only[zaN];refine zb0 (by omega) (zac hx (zac (pcsN hN hl) (zac zdy (zac rfl (zac rfl (zac rfl (za1 (by decide) (za1 (by decide) (za1 (by decide) (za1 (by decide) (za1 (by decide) (zb0 rfl ?_))))))))))));have hh':some (zaE (A2strN.mk zak zak) (nm0 0 a) H)=some (⟨num t,e1⟩,true):=congrArg some hh;refine zac rfl (zac hh' (zac rfl (zlQ hj (zac hr ?_))))
 have hl1:=last_eq (k:=nm0 0 a) (L:=r.stones) (F:=λ m c w=>zbN B1 B2 B3 B4 x2 (v:Int) R H (pcs (.grind a)++[zak,zak,zak]) (nm0 0 a) j (za4 N B1 B2 B3 B4 x2 (v:Int) R H (za3 B1 B2 B3 B4 x2 (v:Int) r4) (pcs (.grind a)++[zak,zak,zak]) (nm0 0 a) j) r m c w)
  (K:=λ c=>za4 N B1 B2 B3 B4 x2 (v:Int) R H (za3 B1 B2 B3 B4 x2 (v:Int) r4) (pcs (.grind a)++[zak,zak,zak]) (nm0 0 a) j c r.stones) (by omega) (λ _ _ _=>rfl) r.stones [] N (-1) rfl (by omega)
 rw[zj8 hp hp2,show (([]:TL).length:Int)=0 from rfl] at hl1;refine Eq.trans hl1 ?_;simp only[List.length_nil,Nat.zero_add];unfold za4;have hself:setF R j { r with stones:=r.stones }=R:=zfH hr;have hw:W ((p:Int)+1)=p+1:=zaO (by omega) (by omega)
 have hw2:W ((t:Int)-1)=((t-1:Nat):Int):=by rw[zaO (by omega) (by omega)];omega
 refine zac hr (zac (zhU rfl) (zac rfl (za1 (by omega) (zac rfl (zac hh' (zac (zfG hN ht2) (zac (x:=num (t-1)) ?_ (zac rfl ?_))))))))
 .rw [hw2];exact itoaN hN (by omega)
 .rw [hself,hw]
  exact zfI hv2
theorem zm8 {c e n:Nat}{j:Nat}{r:RunM}(hN:N=400)(hl:(Ln.deliver c e n).ok)(hv:v<x2.length)(hv2:v<=100000)(hx:ix x2 (v:Int)=some (txt nm0 (.deliver c e n)))(hj:zaq (nm0 1 e) R=some j)(hr:getF R j=some r)
  (hm:r.sheets.length<400) (hc:(n:Int)<=cnt r.stones.length r.sheets) (hb:(n:Int)<=(zaE 0 (nm0 2 c) r.claims).1/\(zaE 0 (nm0 2 c) r.claims).1<=10000) :
  zax r4 N B1 B2 B3 B4 x2 k6 (v:Int) R H=r4 ((v+1:Nat):Int) (setF R j { r with sheets:=mv r.stones.length (-2) n r.sheets,claims:=setK (nm0 2 c) ((zaE 0 (nm0 2 c) r.claims).1-n) r.claims }) H:=by
 have hn:n<=9:=hl.2.2.2;unfold zax;simp only[zaN];refine zb0 (by omega) (zac hx (zac (pcsN hN hl) (zac zdy (zac rfl (zac rfl (zac rfl (za1 (by decide) (za1 (by decide) (za1 (by decide) (za1 (by decide) ?_))))))))));refine za1 (by decide) (za1 (by decide) (za1 (by decide) (za1 (by decide) (zb0 rfl (zlQ hj (zac rfl (zac (zfG hN (by omega)) ?_)))))));refine zac hr (zac rfl (zac (zup (r:=r) (by omega) (by omega)) (za1 (by omega) (zac rfl (zac rfl (zac rfl (za1 (by omega) (zac rfl ?_))))))));exact(ztD (by omega) (by omega) hr (by omega) ⟨by omega,by omega⟩).trans (zfI hv2)
end
end Go.Vc
namespace Go.Vc
open Go.Proofs
section
variable {e:EditionM} {r:RunM}
theorem EdR.at_eq (h:EdR e r){i:Nat}(hi:i<e.places.length):e.at_ (i:Int)=cnt i r.sheets:=by
 unfold EditionM.at_;rw[Int.toNat_natCast,h.pl i hi];rfl
theorem EdR.last_eq (h:EdR e r):e.last=cnt r.stones.length r.sheets:=by
 unfold EditionM.last;have:=h.ln;rw[h.pl _ (by omega),show e.places.length-1=r.stones.length by omega];rfl
theorem EdR.paper (h:EdR e r)(n:Nat):EdR { e with paper:=e.paper+n,places:=e.places.set 0 (e.at_ 0+n) } { r with sheets:=r.sheets++List.replicate n 0 }:=by
 have hl:=h.ln;have h0:e.at_ 0=cnt 0 r.sheets:=h.at_eq (i:=0) (by omega);refine⟨by simpa using hl,λ i hi=>?_,by simp[h.pp], ?_, ?_,h.fr,h.cl,h.ow,λ x hx=>?_⟩
 .simp only[List.length_set] at hi
  simp only[List.getElem?_set];by_cases hi0:0=i
  .subst hi0
   simp only[if_true,hi,zj5,zj6];rw[h0];rfl
  .rw [if_neg hi0,h.pl i hi,zj5,zj6,if_neg (by omega)];simp
 .simp only[h.dl,zj5,zj6,if_neg (show ¬ ((0:Int) = -2) by omega)];omega
 .simp only[h.sp,zj5,zj6,if_neg (show ¬ ((0:Int) = -1) by omega)];omega
 .simp only[List.mem_append,List.mem_replicate] at hx
  simp only[List.length_set]
  rcases hx with hx|⟨_,rfl⟩
  .exact h.rg x hx
  .omega
theorem EdR.print (h:EdR e r){p:Nat}(hp:p<r.stones.length){n k:Nat}(hc:(n:Int)+k<=cnt p r.sheets) :
  EdR { e with places:=(e.places.set p (e.at_ p-((n:Int)+k))).set (p+1) (e.at_ ((p:Int)+1)+n),spoilt:=e.spoilt+k } { r with sheets:=mv p ((p:Int)+1) n (mv p (-1) k r.sheets) }:=by
 have hl:=h.ln;have c1:∀ w,cnt w (mv p (-1) k r.sheets)=cnt w r.sheets+(if w = -1 then (k:Int) else 0)-(if w=(p:Int) then (k:Int) else 0):=λ w=>ziR (by omega) w r.sheets k (by omega) (by omega)
 have c2:∀ w,cnt w (mv p ((p:Int)+1) n (mv p (-1) k r.sheets))=cnt w (mv p (-1) k r.sheets)+(if w=(p:Int)+1 then (n:Int) else 0)-(if w=(p:Int) then (n:Int) else 0) :=
  λ w=>ziR (by omega) w _ n (by omega) (by rw[c1,if_neg (by omega),if_pos rfl];omega)
 have a1:=h.at_eq (i:=p) (by omega);have a2:=h.at_eq (i:=p+1) (by omega);rw[show ((p+1:Nat):Int)=(p:Int)+1 by omega] at a2;refine⟨by simpa using hl,λ i hi=>?_,by simp only[zlO,h.pp], ?_, ?_,h.fr,h.cl,h.ow,λ x hx=>?_⟩
 .simp only[List.length_set] at hi
  rw[c2,c1];simp only[List.getElem?_set,List.length_set];by_cases h1:p+1=i
  .subst h1
   rw[if_pos rfl,if_pos hi,a2,if_neg (by omega),if_neg (by omega),if_pos (by omega),if_neg (by omega)];simp
  .rw [if_neg h1]
   by_cases h2:p=i
   .subst h2
    rw[if_pos rfl,if_pos hi,a1,if_neg (by omega),if_pos rfl,if_neg (by omega),if_pos rfl];simp only[Option.some.injEq];omega
   .rw [if_neg h2,h.pl i hi,if_neg (by omega),if_neg (by omega),if_neg (by omega),if_neg (by omega)]
    simp
 .simp only[h.dl]
  rw[c2,c1,if_neg (by omega),if_neg (by omega),if_neg (by omega),if_neg (by omega)];omega
 .simp only[h.sp]
  rw[c2,c1,if_pos rfl,if_neg (by omega),if_neg (by omega),if_neg (by omega)];omega
 .simp only[List.length_set]
  rcases zlP hx with hx|rfl
  .rcases zlP hx with hx|rfl
   .exact h.rg x hx
   .omega
  .omega
theorem EdR.close (h:EdR e r):EdR { e with closed:=true } { r with closed:=true }:=⟨h.ln,h.pl,h.pp,h.dl,h.sp,h.fr,rfl,h.ow,h.rg⟩
theorem EdR.claim (h:EdR e r)(c:ByteArray)(n:Nat):EdR { e with owed:=setK c ((zaE 0 c e.owed).1+n) e.owed,open_:=e.open_+n } { r with claims:=setK c ((zaE 0 c r.claims).1+n) r.claims } :=
 ⟨h.ln,h.pl,h.pp,h.dl,h.sp,h.fr,h.cl,by show setK c ((zaE 0 c e.owed).1+n) e.owed=_;rw[h.ow],h.rg⟩
theorem EdR.deliver (h:EdR e r)(c:ByteArray){n:Nat}(hc:(n:Int)<=cnt r.stones.length r.sheets) :
  EdR { e with owed:=setK c ((zaE 0 c e.owed).1-n) e.owed,open_:=e.open_-n,delivered:=e.delivered+n,places:=e.places.set (e.places.length-1) (e.last-n) }
   { r with sheets:=mv r.stones.length (-2) n r.sheets,claims:=setK c ((zaE 0 c r.claims).1-n) r.claims }:=by
 have hl:=h.ln;have c1:∀ w,cnt w (mv r.stones.length (-2) n r.sheets)=cnt w r.sheets+(if w = -2 then (n:Int) else 0)-(if w=(r.stones.length:Int) then (n:Int) else 0):=λ w=>ziR (by omega) w r.sheets n (by omega) hc;refine⟨by simpa using hl,λ i hi=>?_,by simp only[zlO,h.pp], ?_, ?_,h.fr,h.cl, ?_,λ x hx=>?_⟩
 .simp only[List.length_set] at hi
  rw[c1];simp only[List.getElem?_set];by_cases h1:e.places.length-1=i
  .rw [if_pos h1,if_pos (by omega),h.last_eq,if_neg (by omega),if_pos (by omega),show (i:Int)=(r.stones.length:Int) by omega]
   simp
  .rw [if_neg h1,h.pl i hi,if_neg (by omega),if_neg (by omega)];simp
 .simp only[h.dl]
  rw[c1,if_pos rfl,if_neg (by omega)];omega
 .simp only[h.sp]
  rw[c1,if_neg (by omega),if_neg (by omega)];omega
 .show setK c ((zaE 0 c e.owed).1-n) e.owed=_;rw[h.ow]
 .simp only[List.length_set]
  rcases zlP hx with hx|rfl
  .exact h.rg x hx
  .omega
end
end Go.Vc
namespace Go.Vc
open Go.Proofs
theorem zn5 {c:ByteArray}:∀ {l:List (ByteArray×Int)},(∀ p,p∈l->0<=p.2)->0<=(zaE 0 c l).1/\(zaE 0 c l).1<=sumI (l.map (·.2))
 | [],_=>by simp[zaE,sumI]
 | p::l,h=>by
  have h0:=h p (List.mem_cons_self ..);have ih:=zn5 (c:=c) (l:=l) λ q hq=>h q (List.mem_cons_of_mem _ hq);simp only[zaE,List.map_cons,sumI]
  split
  .show 0<=p.2/\p.2<=_;omega
  .omega
theorem ztE:((List.range 301).all λ n=>decide (num n≠zak))=true:=by kernel_rfl
theorem zxq {n:Nat}(h:n<=300):num n≠zak:=of_decide_eq_true (List.all_eq_true.1 ztE n (List.mem_range.2 (by omega)))
theorem zxr:(decide (nm0 1 0≠zak)&&decide (nm0 1 1≠zak))=true:=by kernel_rfl
theorem zxs {e:Nat}(h:e<2):nm0 1 e≠zak:=by
 have:=zxr;rw[Bool.and_eq_true] at this
 match e,h with
 | 0,_=>exact of_decide_eq_true this.1
 | 1,_=>exact of_decide_eq_true this.2
theorem zn6 {κ σ:Type}{l:List (κ×σ)}{i:Nat}{x:σ}(h:getF l i=some x):∃ k,(k,x)∈l:=by
 obtain⟨k,hk⟩:=zaX.1 h;exact⟨k,List.mem_of_getElem? hk⟩
section
variable {S:TS} {E:TE} {C:TC} {n:Nat}
theorem ShOK.edOK (h:ShOK n S E C){j:Nat}{e:EditionM}(he:getF E j=some e):EdOK n e:=by
 obtain⟨k,hk⟩:=zn6 he;exact(h.ed _ hk).1
theorem ShOK.stOK (h:ShOK n S E C){k:ByteArray}{a:StoneM}(ha:stO S k=some a):StOK E a:=by
 obtain⟨i,_,hi⟩:=zdp ha;obtain⟨k',hk⟩:=zn6 hi;exact h.st _ hk
theorem ShOK.onE (h:ShOK n S E C){k:ByteArray}{a:StoneM}{j:Nat}(ha:stO S k=some a)(hj:a.of=some j):∃ e,getF E j=some e/\0<=a.place/\a.place+1<e.places.length:=by
 obtain⟨q,hq,h1,h2⟩:=(h.stOK ha).pl j hj;exact⟨q.2,by simp[getF,hq],h1,h2⟩
theorem EdOK.owe {e:EditionM}(h:EdOK n e)(c:ByteArray):0<=(zaE 0 c e.owed).1/\(zaE 0 c e.owed).1<=5000:=by
 have h1:=zn5 (c:=c) h.ow;have h2:=h.os;have h3:=h.ob;omega
theorem zvA {j:Nat}{k:ByteArray}(h:zaq k E=some j):onN E (some j)=k:=by
 obtain⟨⟨x,hx⟩,_⟩:=zbd.1 h;simp[onN,hx]
def Round (l:Ln)(R:TR)(H:TH)(R':TR)(H':TH):Prop :=
 ∀ (B1:TL) (B2:TS) (B3:TE) (B4:TC) (x2:TL) (k6:TR->TH->Option Bool) (v:Nat) (r4:Int->TR->TH->Option Bool) (N:Nat),N=400->v<x2.length->v<=100000->ix x2 (v:Int)=some (txt nm0 l) ->
  zax r4 N B1 B2 B3 B4 x2 k6 (v:Int) R H=r4 ((v+1:Nat):Int) R' H'
theorem ztF {R:TR}{H:TH}{l:Ln}(hl:l.ok)(hS:ShOK n S E C)(hn:n<=120)(hw:zau S E C (ord nm0 l)=0)(h:RelR S E R H)(hp:∀ j e,getF E j=some e->e.paper<=390) :
  ∃ R' H',RelR (doM S E C (ord nm0 l)).1 (doM S E C (ord nm0 l)).2.1 R' H'/\Round l R H R' H':=by
 have hsm:∀ j e r,getF E j=some e->getF R j=some r->EdR e r/\r.stones.length<400/\r.sheets.length<400:=by
  intro j e r he hr;have h1:=h.ed j e r he hr;have h2:=(hS.edOK he).le;have h3:=h1.ln;have h4:=h1.pp;have h5:=hp j e he;exact⟨h1,by omega,by omega⟩
 cases l with
 | stone a t =>
  simp only[ord,zau] at hw
  have hk:zaq (nm0 0 a) S=none:=by
   cases hh:zaq (nm0 0 a) S with
   | none=>rfl
   | some i=>rw[hh] at hw;simp at hw
  have hr:=h.addS (k:=nm0 0 a) (t:=(t:Int)) hk ⟨a,hl.1,rfl⟩;exact⟨_,_,hr,λ B1 B2 B3 B4 x2 k6 v r4 N hN hv hv2 hx=>zrB hN hl hv hv2 hx⟩
 | edition e =>
  simp only[ord,zau] at hw
  have hk:zaq (nm0 1 e) E=none:=by
   cases hh:zaq (nm0 1 e) E with
   | none=>rfl
   | some i=>rw[hh] at hw;simp at hw
  refine⟨_,_,h.addE (λ k a j ha hj=>?_) (zxs hl) hk,λ B1 B2 B3 B4 x2 k6 v r4 N hN hv hv2 hx=>zm7 hN hl hv hv2 hx (by rw[h.look];exact hk)⟩;obtain⟨e,he,_⟩:=hS.onE ha hj;exact zen he
 | draw a e =>
  simp only[ord,zau] at hw
  cases ha:stO S (nm0 0 a) with
  | none=>rw[ha] at hw;simp at hw
  | some s =>
   cases he:edO E (nm0 1 e) with
   | none=>rw[ha,he] at hw;simp at hw
   | some d =>
    rw[ha,he] at hw;simp only at hw;obtain⟨i,hi1,hi2⟩:=zdp ha;obtain⟨j,hj1,hj2⟩:=zbu he;obtain⟨r,hr,_⟩:=h.runOf hj2;obtain⟨hd,hs1,hs2⟩:=hsm j d r hj2 hr
    have hof:s.of=none:=by
     cases hh:s.of with
     | none=>rfl
     | some q=>rw[hh] at hw;simp at hw
    have hcl:d.closed=false:=by
     cases hh:d.closed with
     | false=>rfl
     | true=>rw[hof,hh] at hw;simp at hw
    have ht:=(hS.stOK ha).t9
    have hlk:zaE zA (nm0 0 a) H=(zdf E s,true):=by rw[h.st,ha]
    refine⟨_,_, ?_,λ B1 B2 B3 B4 x2 k6 v r4 N hN hv hv2 hx=>ztA hN hl hv hv2 hx (by rw[h.look];exact hj1) hr (by rw[<- hd.cl];exact hcl) hlk (zxq (by omega)) (by simp[zdf,hof,onN]) (by omega)⟩;have:=h.draw hof hi1 hi2 hj2 hr;rw[zvA hj1] at this;simpa only[ord,doM,hi1,hj1,hj2,Option.map_some,Option.getD_some,zdf] using this
 | paper e t =>
  simp only[ord,zau] at hw
  cases he:edO E (nm0 1 e) with
  | none=>rw[he] at hw;simp at hw
  | some d =>
   obtain⟨j,hj1,hj2⟩:=zbu he;obtain⟨r,hr,_⟩:=h.runOf hj2;obtain⟨hd,hs1,hs2⟩:=hsm j d r hj2 hr;refine⟨_,_, ?_,λ B1 B2 B3 B4 x2 k6 v r4 N hN hv hv2 hx=>zrC hN hl hv hv2 hx (by rw[h.look];exact hj1) hr (by omega)⟩;have:=h.modE (f:=λ e=>{ e with paper:=e.paper+(t:Int),places:=e.places.set 0 (e.at_ 0+(t:Int)) }) hj2 hr (hd.paper t) rfl rfl;simpa only[ord,doM,hj1] using this
 | print a t k =>
  simp only[ord,zau] at hw
  cases ha:stO S (nm0 0 a) with
  | none=>rw[ha] at hw;simp at hw
  | some s =>
   rw[ha] at hw;simp only at hw
   cases hof:s.of with
   | none=>rw[hof] at hw;simp at hw
   | some j =>
    rw[hof] at hw;simp only at hw;obtain⟨d,hj2,hp0,hp1⟩:=hS.onE ha hof;obtain⟨r,hr,_⟩:=h.runOf hj2;obtain⟨hd,hs1,hs2⟩:=hsm j d r hj2 hr;obtain⟨h1,h2,h3⟩:=h.on _ _ _ _ ha hof hr;have hln:=hd.ln;have htn:1<=t:=hl.2.1;rw[if_neg (by omega),hj2] at hw;simp only at hw
    have hq:s.place=(s.place.toNat:Int):=by omega
    have hat:=hd.at_eq (i:=s.place.toNat) (by omega);rw[<- hq] at hat
    have hc:(t:Int)+k<=cnt s.place.toNat r.sheets:=by
     rw[<- hq,<- hat]
     split at hw
     .cases hw
     .omega
    have hlk:zaE zA (nm0 0 a) H=(zdf E s,true):=by rw[h.st,ha]
    refine⟨_,_, ?_,λ B1 B2 B3 B4 x2 k6 v r4 N hN hv hv2 hx=>zrF (p:=s.place.toNat) hN hl hv hv2 hx hlk (by rw[h.look];simp only[zdf,hof];exact zm6 hS.ek hj2) hr h2 h3 hs1 hs2 hc⟩
    have:=h.modE (f:=λ e=>{ e with places:=(e.places.set s.place.toNat (e.at_ s.place-((t:Int)+k))).set (s.place.toNat+1) (e.at_ (s.place+1)+t),spoilt:=e.spoilt+k }) (r':={ r with sheets:=mv s.place.toNat ((s.place.toNat:Int)+1) t (mv s.place.toNat (-1) k r.sheets) }) hj2 hr (by
     have hh:=hd.print (p:=s.place.toNat) (by omega) hc
     have e1:d.at_ (s.place.toNat:Int)=d.at_ s.place:=by rw[<- hq]
     have e2:d.at_ ((s.place.toNat:Int)+1)=d.at_ (s.place+1):=by rw[<- hq]
     rw[e1,e2] at hh
     exact hh) rfl rfl
    simpa only[ord,doM,ha,hof] using this
 | close e =>
  simp only[ord,zau] at hw
  cases he:edO E (nm0 1 e) with
  | none=>rw[he] at hw;simp at hw
  | some d =>
   obtain⟨j,hj1,hj2⟩:=zbu he;obtain⟨r,hr,_⟩:=h.runOf hj2;obtain⟨hd,hs1,hs2⟩:=hsm j d r hj2 hr;refine⟨_,_, ?_,λ B1 B2 B3 B4 x2 k6 v r4 N hN hv hv2 hx=>zrD hN hl hv hv2 hx (by rw[h.look];exact hj1) hr⟩;have:=h.modE (f:=λ e=>{ e with closed:=true }) hj2 hr hd.close rfl rfl;simpa only[ord,doM,hj1] using this
 | claim c e t =>
  simp only[ord,zau] at hw
  cases he:edO E (nm0 1 e) with
  | none=>rw[he] at hw;simp at hw
  | some d =>
   obtain⟨j,hj1,hj2⟩:=zbu he;obtain⟨r,hr,_⟩:=h.runOf hj2;obtain⟨hd,hs1,hs2⟩:=hsm j d r hj2 hr;have ho:=(hS.edOK hj2).owe (nm0 2 c);rw[hd.ow] at ho;refine⟨_,_, ?_,λ B1 B2 B3 B4 x2 k6 v r4 N hN hv hv2 hx=>zrE hN hl hv hv2 hx (by rw[h.look];exact hj1) hr ⟨by omega,by omega⟩⟩;have:=h.modE (f:=λ e=>{ e with owed:=setK (nm0 2 c) ((zaE 0 (nm0 2 c) e.owed).1+(t:Int)) e.owed,open_:=e.open_+(t:Int) }) hj2 hr (hd.claim _ t) rfl rfl;simpa only[ord,doM,hj1] using this
 | deliver c e t =>
  simp only[ord,zau] at hw
  cases he:edO E (nm0 1 e) with
  | none=>rw[he] at hw;simp at hw
  | some d =>
   obtain⟨j,hj1,hj2⟩:=zbu he;obtain⟨r,hr,_⟩:=h.runOf hj2;obtain⟨hd,hs1,hs2⟩:=hsm j d r hj2 hr;have ho:=(hS.edOK hj2).owe (nm0 2 c);rw[he] at hw;simp only at hw
   have hw1:(t:Int)<=(zaE 0 (nm0 2 c) d.owed).1/\(t:Int)<=d.last:=by
    split at hw
    .cases hw
    .split at hw
     .cases hw
     .split at hw
      .cases hw
      .split at hw
       .cases hw
       .omega
   rw[hd.ow] at ho hw1;rw[hd.last_eq] at hw1;refine⟨_,_, ?_,λ B1 B2 B3 B4 x2 k6 v r4 N hN hv hv2 hx=>zm8 hN hl hv hv2 hx (by rw[h.look];exact hj1) hr hs2 hw1.2 ⟨hw1.1,by omega⟩⟩;have:=h.modE (f:=λ e=>{ e with owed:=setK (nm0 2 c) ((zaE 0 (nm0 2 c) e.owed).1-(t:Int)) e.owed,open_:=e.open_-(t:Int),delivered:=e.delivered+(t:Int),places:=e.places.set (e.places.length-1) (e.last-(t:Int)) }) hj2 hr (hd.deliver _ hw1.2) rfl rfl;simpa only[ord,doM,hj1] using this
 | grind a =>
  simp only[ord,zau] at hw
  cases ha:stO S (nm0 0 a) with
  | none=>rw[ha] at hw;simp at hw
  | some s =>
   rw[ha] at hw;simp only at hw
   cases hof:s.of with
   | none=>rw[hof] at hw;simp at hw
   | some j =>
    rw[hof] at hw;obtain⟨i,hi1,hi2⟩:=zdp ha;obtain⟨d,hj2,hp0,hp1⟩:=hS.onE ha hof;obtain⟨r,hr,_⟩:=h.runOf hj2;obtain⟨hd,hs1,hs2⟩:=hsm j d r hj2 hr;obtain⟨h1,h2,h3⟩:=h.on _ _ _ _ ha hof hr;have ht1:=(hS.stOK ha).t1;have ht9:=(hS.stOK ha).t9
    have hq:s.place=(s.place.toNat:Int):=by omega
    have hlk:zaE zA (nm0 0 a) H=(⟨num s.thick.toNat,onN E s.of⟩,true):=by rw[h.st,ha];rfl
    refine⟨_,_, ?_,λ B1 B2 B3 B4 x2 k6 v r4 N hN hv hv2 hx=>zrG (p:=s.place.toNat) hN hl hv hv2 hx hlk (by omega) (by omega) (by rw[h.look,hof];exact zm6 hS.ek hj2) hr h2 h3 hs1⟩;have:=h.grind hi1 hi2 hof hj2 hr (s.place+1) rfl;rw[<- hq,show s.thick.toNat-1=(s.thick-1).toNat by omega];simpa only[ord,doM,hi1,hi2,hof,Option.bind_some,Option.map_some,Option.getD_some] using this
end
end Go.Vc
namespace Go.Vc
open Go.Proofs
def wt:Ln->Nat
 | .paper _ n=>n
 | _=>0
def wts:List Ln->Nat
 | []=>0
 | l::r=>wt l+wts r
theorem zvB (a b:List Ln):wts (a++b)=wts a+wts b:=by
 induction a with
 | nil=>simp[wts]
 | cons x a ih=>simp only[List.cons_append,wts,ih];omega
theorem zdd {E:TE}{i:Nat}{f:EditionM->EditionM}{w q:Nat}(h:∀ j e,getF E j=some e->e.paper<=w)(hf:∀ e,(f e).paper<=e.paper+q):∀ j e,getF (modF E i f) j=some e->e.paper<=((w+q:Nat):Int):=by
 intro j e he;rw[zbF] at he
 split at he
 .cases hy:getF E j with
  | none=>rw[hy] at he;cases he
  | some y=>rw[hy] at he;cases he;have:=hf y;have:=h j y hy;omega
 .have:=h j e he;omega
theorem zpb {S:TS}{E:TE}{C:TC}{l:Ln}{w:Nat}(h:∀ j e,getF E j=some e->e.paper<=w):∀ j e,getF (doM S E C (ord nm0 l)).2.1 j=some e->e.paper<=((w+wt l:Nat):Int):=by
 have h0:∀ q,∀ j e,getF E j=some e->e.paper<=((w+q:Nat):Int):=λ q j e he=>by have:=h j e he;omega
 cases l with
 | stone a n=>exact h0 0
 | edition e =>
  intro j d hd;simp only[ord,doM] at hd;by_cases hj:j<E.length
  .rw [zdq hj] at hd;exact h0 _ j d hd
  .have h1:=zen hd
   have:j=E.length:=by simp at h1;omega
   subst this;rw[zd2] at hd;cases hd;show (0:Int)<=_;omega
 | draw a e =>
  simp only[ord,doM]
  split
  .dsimp only[wt];refine zdd h ?_
   intro e;show e.paper<=e.paper+((0:Nat):Int);omega
  .exact h0 0
 | paper e n =>
  simp only[ord,doM]
  split
  .dsimp only[wt];refine zdd h ?_
   intro e;show e.paper+(n:Int)<=e.paper+((n:Nat):Int);omega
  .exact h0 _
 | print a n k =>
  simp only[ord,doM]
  split
  .split
   .dsimp only[wt];refine zdd h ?_
    intro e;show e.paper<=e.paper+((0:Nat):Int);omega
   .exact h0 0
  .exact h0 0
 | close e =>
  simp only[ord,doM]
  split
  .dsimp only[wt];refine zdd h ?_
   intro e;show e.paper<=e.paper+((0:Nat):Int);omega
  .exact h0 0
 | claim c e n =>
  simp only[ord,doM]
  split
  .dsimp only[wt];refine zdd h ?_
   intro e;show e.paper<=e.paper+((0:Nat):Int);omega
  .exact h0 0
 | deliver c e n =>
  simp only[ord,doM]
  split
  .dsimp only[wt];refine zdd h ?_
   intro e;show e.paper<=e.paper+((0:Nat):Int);omega
  .exact h0 0
 | grind a =>
  simp only[ord,doM]
  split
  .split
   .dsimp only[wt];refine zdd h ?_
    intro e;show e.paper<=e.paper+((0:Nat):Int);omega
   .exact h0 0
  .exact h0 0
theorem rdL {l:Ln}(h:l.ok):rd (txt nm0 l)=(ord nm0 l,0):=by
 unfold rd;rw[zrm h];rfl
theorem ziU:∀ (ls:List Ln) (b:Bk) (R:TR) (H:TH) (w:Nat),(∀ l,l∈ls->l.ok)->BkOK b->Runs b (ls.map (txt nm0))->RelR b.S b.E R H->(∀ j e,getF b.E j=some e->e.paper<=w)->w+wts ls<=390 ->
  ∃ R' H',RelR (tell b (ls.map (txt nm0))).S (tell b (ls.map (txt nm0))).E R' H'/\(∀ j e,getF (tell b (ls.map (txt nm0))).E j=some e->e.paper<=((w+wts ls:Nat):Int)) /\
   ∀ (B1:TL) (B2:TS) (B3:TE) (B4:TC) (x2:TL) (k6:TR->TH->Option Bool) (v m N:Nat),N=400->x2.drop v=ls.map (txt nm0)->v<=x2.length->x2.length<=1000->ls.length<m->zbR N B1 B2 B3 B4 x2 k6 m (v:Int) R H=k6 R' H'
 | [],b,R,H,w,hl,hb,hr,h,hp,hw=>by
  refine⟨R,H,h,λ j e he=>by have:=hp j e he;simp only[wts];omega,λ B1 B2 B3 B4 x2 k6 v m N hN hd hv hx hm=>?_⟩;obtain⟨m,rfl⟩:∃ q,m=q+1:=⟨m-1,by simp at hm;omega⟩
  have hlen:v=x2.length:=by
   have:=congrArg List.length hd;simp at this;omega
  unfold zbR zax;exact za1 (by omega) rfl
 | l::ls,b,R,H,w,hl,hb,hr,h,hp,hw=>by
  have hlk:=hl l (List.mem_cons_self ..);have hg:GLn (txt nm0 l):=⟨l,hlk,rfl⟩;have hrd:=rdL hlk;obtain⟨he,hr2⟩:=hr
  have he':errM b (ord nm0 l,0)=0:=by rw[<- hrd];exact he
  have hwr:zau b.S b.E b.C (ord nm0 l)=0:=by
   unfold errM at he';dsimp only at he';rw[if_pos rfl] at he'
   split at he'
   .assumption
   .exact he'
  simp only[wts] at hw
  obtain⟨R1,H1,h1,hR⟩:=ztF hlk hb.sh hb.ll hwr h λ j e hj=>by have:=hp j e hj;omega
  have hst:zcc b (txt nm0 l)=⟨b.L++[txt nm0 l],(doM b.S b.E b.C (ord nm0 l)).1,(doM b.S b.E b.C (ord nm0 l)).2.1,(doM b.S b.E b.C (ord nm0 l)).2.2⟩:=by
   unfold zcc;rw[hrd];unfold goM;rw[if_pos he']
  obtain⟨R',H',h2,h3,h4⟩:=ziU ls (zcc b (txt nm0 l)) R1 H1 (w+wt l) (λ l' hl' => hl l' (List.mem_cons_of_mem _ hl')) (hg.step hb) hr2 (by rw[hst];exact h1) (by rw[hst];exact zpb hp) (by omega);refine⟨R',H',h2,λ j e he=>by have:=h3 j e he;simp only[wts];omega,λ B1 B2 B3 B4 x2 k6 v m N hN hd hv hx hm=>?_⟩;obtain⟨m,rfl⟩:∃ q,m=q+1:=⟨m-1,by simp at hm;omega⟩
  have hvl:v<x2.length:=by
   have:=congrArg List.length hd;simp at this;omega
  have hxv:x2[v]? = some (txt nm0 l):=by
   have:(x2.drop v)[0]? = some (txt nm0 l):=by rw[hd];rfl
   simpa using this
  show zax (zbR N B1 B2 B3 B4 x2 k6 m) N B1 B2 B3 B4 x2 k6 (v:Int) R H=_;rw[hR B1 B2 B3 B4 x2 k6 v _ N hN hvl (by omega) (zlS hxv)];exact h4 B1 B2 B3 B4 x2 k6 (v+1) m N hN (by rw[<- List.drop_drop,hd];rfl) (by omega) hx (by simp at hm;omega)
theorem zn7:∀ (ls:List Ln) (b:Bk),∃ r:List Ln,(tell b (ls.map (txt nm0))).L=b.L++r.map (txt nm0)/\(∀ l,l∈r->l∈ls)/\wts r<=wts ls/\r.length<=ls.length
 | [],b=>⟨[],by simp[tell],by simp,by simp[wts],by simp⟩
 | l::ls,b=>by
  obtain⟨r,h1,h2,h3,h4⟩:=zn7 ls (zcc b (txt nm0 l));by_cases he:errB b (txt nm0 l)=0
  .refine ⟨l::r, ?_,λ x hx=>?_,by simp only[wts];omega,by simp;omega⟩
   .show (tell (zcc b (txt nm0 l)) (ls.map (txt nm0))).L=_
    rw[h1,zun he];simp
   .rcases List.mem_cons.1 hx with rfl|hx
    .exact List.mem_cons_self ..
    .exact List.mem_cons_of_mem _ (h2 x hx)
  .refine ⟨r, ?_,λ x hx=>List.mem_cons_of_mem _ (h2 x hx),by simp only[wts];omega,by simp;omega⟩
   show (tell (zcc b (txt nm0 l)) (ls.map (txt nm0))).L=_;rw[h1,zrr he]
theorem zvC {x:A4u8N}(h:x.ok):wt (lnOf x)<=9:=by
 obtain⟨_,_,_,h3,h3'⟩:=h;unfold lnOf;dsimp only
 split <;> simp only[wt] <;> omega
theorem zrH:∀ (s:List A4u8N),(∀ x,x∈s->x.ok)->wts (s.map lnOf)<=9*s.length
 | [],_=>by simp[wts]
 | x::s,h=>by
  have h1:=zvC (h x (List.mem_cons_self ..));have h2:=zrH s λ y hy=>h y (List.mem_cons_of_mem _ hy);simp only[List.map_cons,wts,List.length_cons];omega
theorem zrI {s:List A4u8N}(h:∀ x,x∈s->x.ok):wts (zcM s)<=290:=by
 unfold zcM;rw[zvB];have h1:wts zm5=20:=rfl;have h2:=zrH (s.take 30) λ x hx=>h x (List.mem_of_mem_take hx)
 have h3:(s.take 30).length<=30:=by simp;omega
 omega
end Go.Vc
namespace Go.Vc
open Go.Proofs
theorem ztG:f14 400=some true:=by kernel_rfl
def rdY (l:Ln):Bool:=match f79 398 (txt nm0 l) with
 | some (o,e)=>decide (o=ord nm0 l)&&decide (e=0)
 | none=>false
theorem zvD:zrk.all rdY=true:=by kernel_rfl
theorem rdA {l:Ln}(hl:l.ok):f79 398 (txt nm0 l)=some (ord nm0 l,0):=by
 have h:=List.all_eq_true.1 zvD _ (zhR hl);unfold rdY at h
 split at h
 .rename_i o e he
  rw[Bool.and_eq_true,decide_eq_true_eq,decide_eq_true_eq] at h;rw[he,h.1,h.2]
 .cases h
theorem nameN (k i:Nat):f61 399 (nm0 k i)=some true:=by
 unfold nm0
 split <;> kernel_rfl
def cge (g:Int):List Int->Int
 | []=>0
 | x::l=>(if g<=x then 1 else 0)+cge g l
theorem zlT (g:Int):∀ l,cge g l=cnt g l+cge (g+1) l
 | []=>rfl
 | x::l=>by
  have:=zlT g l;simp only[cge,cnt]
  split <;> split <;> split <;> omega
theorem zrJ {g:Int}:∀ {l:List Int},(∀ x,x∈l->x<g)->cge g l=0
 | [],_=>rfl
 | x::l,h=>by
  have h1:=h x (List.mem_cons_self ..);have:=zrJ (g:=g) (l:=l) λ y hy=>h y (List.mem_cons_of_mem _ hy);simp only[cge];rw[if_neg (by omega)];omega
theorem zj9 {P L:List Int}(hP:∀ i:Nat,i<P.length->P[i]? = some (cnt i L))(hL:∀ x,x∈L->x<(P.length:Int)):∀ (m g:Nat),P.length-g=m->sumI (P.drop g)=cge g L
 | 0,g,h=>by
  rw[List.drop_of_length_le (by omega),zrJ λ x hx=>by have:=hL x hx;omega];rfl
 | m+1,g,h=>by
  have hg:g<P.length:=by omega
  have h1:=hP g hg;rw[List.getElem?_eq_getElem hg] at h1;rw[List.drop_eq_getElem_cons hg,sumI,Option.some.inj h1,zlT,zj9 hP hL m (g+1) (by omega)];rfl
theorem EdR.rest_eq {e:EditionM}{r:RunM}{n:Nat}(h:EdR e r)(ho:EdOK n e):e.rest e.from_=cge r.ground r.sheets:=by
 have h1:=zj9 h.pl (λ x hx=>(h.rg x hx).2) _ e.from_.toNat rfl;unfold EditionM.rest;rw[h1,<- h.fr];have:=ho.f0;rw[show ((e.from_.toNat:Nat):Int)=e.from_ by omega]
theorem zk {r:RunM}(hm:r.sheets.length<=100000):∀ (l d:List Int) (n:Nat) (k:Int),d++l=r.sheets->l.length<n->0<=k->k<=d.length->zlw r zhB n k (d.length:Int)=some (k+cge r.ground l)
 | [],d,n,k,h1,h2,h3,h4=>by
  cases n with
  | zero=>omega
  | succ n =>
   unfold zlw znS;rw[decide_eq_false (by rw[<- h1];simp),cond_false];simp[zhB,cge]
 | x::l,d,n,k,h1,h2,h3,h4=>by
  cases n with
  | zero=>omega
  | succ n =>
   simp only[List.length_cons] at h2
   have hl:d.length+(l.length+1)=r.sheets.length:=by rw[<- h1];simp
   have hix:ix r.sheets (d.length:Int)=some x:=by
    unfold ix;rw[if_pos (by omega),<- h1];simp
   have hw:W ((d.length:Int)+1)=((d++[x]).length:Int):=by rw[zaO (by omega) (by omega)];simp
   have hk:W (k+1)=k+1:=zaO (by omega) (by omega);unfold zlw znS;rw[decide_eq_true (by omega),cond_true,hix];simp only[Option.bind_some];by_cases hx:r.ground<=x
   .rw [decide_eq_true hx,cond_true,hw,hk,zk hm l (d++[x]) n (k+1) (by simpa using h1) (by omega) (by omega) (by simp;omega)]
    simp only[cge,if_pos hx,Option.some.injEq];omega
   .rw [decide_eq_false hx,cond_false,hw,zk hm l (d++[x]) n k (by simpa using h1) (by omega) h3 (by simp;omega)]
    simp only[cge,if_neg hx,Option.some.injEq];omega
theorem zuq {r:RunM}{N:Nat}(hm:r.sheets.length<=100000)(h:r.sheets.length<N):f47 N r=some (cge r.ground r.sheets):=by
 have:=zk (r:=r) hm r.sheets [] N 0 rfl h (by omega) (by simp);simpa [f47,zaN] using this
def zlU (n:Nat)(seen:List Nat):Nat:=((List.range n).filter λ i=>!(seen.contains i)).length
theorem zrK {n i:Nat}{seen:List Nat}(hi:i<n)(hs:i ∉ seen):zlU n (i::seen)<zlU n seen:=by
 unfold zlU;refine Go.filter_lt _ _ (λ x hx=>?_) i (by simp[hs]) (by simp) _ (List.mem_range.2 hi);simp at hx ⊢;exact hx.2
theorem zrL (n:Nat)(seen:List Nat):zlU n seen<=n:=by
 have:=List.length_filter_le (λ i=>!(seen.contains i)) (List.range n);rw[List.length_range] at this;exact this
def usum:List (ByteArray×Int)->Nat->List Nat->Int
 | [],_,_=>0
 | x::l,j,seen=>(if j∈seen then 0 else x.2)+usum l (j+1) seen
theorem zn8:∀ (l:List (ByteArray×Int)) (j:Nat) (seen:List Nat),(∀ i,i<l.length->j+i∈seen)->usum l j seen=0
 | [],_,_,_=>rfl
 | x::l,j,seen,h=>by
  have h0:=h 0 (by simp);simp only[usum];rw[if_pos (by simpa using h0),zn8 l (j+1) seen λ i hi=>by have:=h (i+1) (by simp;omega);rwa [show j+(i+1)=j+1+i by omega] at this];rfl
theorem zlV:∀ (l:List (ByteArray×Int)) (j i:Nat) (seen:List Nat),i<j->usum l j (i::seen)=usum l j seen
 | [],_,_,_,_=>rfl
 | x::l,j,i,seen,h=>by
  simp only[usum,zlV l (j+1) i seen (by omega)]
  have:(j∈i::seen) ↔ (j∈seen):=by simp;omega
  simp only[this]
theorem zlW:∀ (l:List (ByteArray×Int)) (j i:Nat) (p:ByteArray×Int) (seen:List Nat),l[i]? = some p->j+i ∉ seen->usum l j ((j+i)::seen)=usum l j seen-p.2
 | [],_,i,_,_,h,_=>by simp at h
 | x::l,j,0,p,seen,h,hs=>by
  simp at h;subst h;simp only[usum];rw[if_pos (by simp),if_neg (by simpa using hs),zlV l (j+1) (j+0) seen (by omega)];omega
 | x::l,j,i+1,p,seen,h,hs=>by
  have h1:=zlW l (j+1) i p seen (by simpa using h) (by rwa [show j+1+i=j+(i+1) by omega]);rw[show j+1+i=j+(i+1) by omega] at h1;simp only[usum,h1]
  have:(j∈(j+(i+1))::seen) ↔ (j∈seen):=by simp
  simp only[this];omega
theorem zn9:∀ (l:List (ByteArray×Int)) (j:Nat),usum l j []=sumI (l.map (·.2))
 | [],_=>rfl
 | x::l,j=>by simp only[usum,List.map_cons,sumI,zn9 l (j+1)];simp
theorem zrM:∀ (l:List (ByteArray×Int)) (j:Nat) (seen:List Nat),(∀ p,p∈l->0<=p.2)->0<=usum l j seen/\usum l j seen<=sumI (l.map (·.2))
 | [],_,_,_=>by simp[usum,sumI]
 | x::l,j,seen,h=>by
  have h0:=h x (List.mem_cons_self ..);have:=zrM l (j+1) seen λ p hp=>h p (List.mem_cons_of_mem _ hp);simp only[usum,List.map_cons,sumI]
  split <;> omega
theorem zo {r:RunM}(h0:∀ p,p∈r.claims->0<=p.2)(hs:sumI (r.claims.map (·.2))<=100000):∀ (n:Nat) (seen:List Nat) (k:Int),zlU r.claims.length seen<n->0<=k->k+usum r.claims 0 seen<=100000 ->
  zmV r zhA n k seen=some (k+usum r.claims 0 seen)
 | 0,_,_,h,_,_=>by omega
 | n+1,seen,k,h,k0,k1=>by
  unfold zmV zqW;refine zsW (λ i p hp hi=>?_) λ ha=>?_
  .have hil:=(List.getElem?_eq_some_iff.1 hp).1
   have hv:=h0 p (List.mem_of_getElem? hp);have ht:=zlW r.claims 0 i p seen hp (by simpa using hi);rw[Nat.zero_add] at ht;have hb:=zrM r.claims 0 seen h0;have hb2:=zrM r.claims 0 (i::seen) h0;have hw:W (k+p.2)=k+p.2:=zaO (by omega) (by omega);have:=zrK hil hi;rw[hw,zo h0 hs n (i::seen) (k+p.2) (by omega) (by omega) (by omega),ht];simp only[Option.some.injEq];omega
  .rw [zn8 r.claims 0 seen λ i hi=>by rw[Nat.zero_add];exact ha i hi]
   simp[zhA]
theorem zxt {r:RunM}{N:Nat}(h0:∀ p,p∈r.claims->0<=p.2)(hs:sumI (r.claims.map (·.2))<=100000)(hN:r.claims.length<N):f46 N r=some (sumI (r.claims.map (·.2))):=by
 have h1:=zrL r.claims.length [];have h2:=zn9 r.claims 0;have:=zo h0 hs N [] 0 (by omega) (by omega) (by omega);simpa [f46,zaN,h2] using this
structure InvE (w:Nat)(E:TE):Prop where
 ow:∀ j e,getF E j=some e->e.owed.length<=w
 nm:∀ k,k∈E.map (·.1)->∃ e,e<2/\k=nm0 1 e
theorem ztH:InvE 0 []:=⟨λ j e h=>by simp[getF] at h,λ k h=>by simp at h⟩
theorem InvE.up {w:Nat}{E:TE}(h:InvE w E):InvE (w+1) E:=⟨λ j e he=>by have:=h.ow j e he;omega,h.nm⟩
theorem InvE.mod {w i:Nat}{E:TE}{f:EditionM->EditionM}(h:InvE w E)(hf:∀ e,(f e).owed.length<=e.owed.length+1):InvE (w+1) (modF E i f):=by
 refine⟨λ j e he=>?_,λ k hk=>by rw[zbt] at hk;exact h.nm k hk⟩;rw[zbF] at he
 split at he
 .cases hy:getF E j with
  | none=>rw[hy] at he;cases he
  | some y=>rw[hy] at he;cases he;have:=hf y;have:=h.ow j y hy;omega
 .have:=h.ow j e he;omega
theorem zrN {S:TS}{E:TE}{C:TC}{l:Ln}{w:Nat}(hl:l.ok)(h:InvE w E):InvE (w+1) (doM S E C (ord nm0 l)).2.1:=by
 have hk:∀ (k:ByteArray) (v:Int) (o:List (ByteArray×Int)),(setK k v o).length<=o.length+1:=λ k v o=>by
  rw[zj1 (z:=(0:Int))];split <;> omega
 cases l with
 | stone a n=>exact h.up
 | edition e =>
  refine⟨λ j d hd=>?_,λ k hk=>?_⟩
  .simp only[ord,doM] at hd
   by_cases hj:j<E.length
   .rw [zdq hj] at hd;have:=h.ow j d hd;omega
   .have h1:=zen hd
    have:j=E.length:=by simp at h1;omega
    subst this;rw[zd2] at hd;cases hd;simp
  .simp only[ord,doM,List.map_append,List.mem_append,List.map_cons,List.map_nil,List.mem_singleton] at hk
   rcases hk with hk|rfl
   .exact h.nm k hk
   .exact ⟨e,hl,rfl⟩
 | draw a e =>
  simp only[ord,doM]
  split
  .dsimp only;refine h.mod ?_;intro e;exact Nat.le_succ _
  .exact h.up
 | paper e n =>
  simp only[ord,doM]
  split
  .dsimp only;refine h.mod ?_;intro e;exact Nat.le_succ _
  .exact h.up
 | print a n k =>
  simp only[ord,doM]
  split
  .split
   .dsimp only;refine h.mod ?_;intro e;exact Nat.le_succ _
   .exact h.up
  .exact h.up
 | close e =>
  simp only[ord,doM]
  split
  .dsimp only;refine h.mod ?_;intro e;exact Nat.le_succ _
  .exact h.up
 | claim c e n =>
  simp only[ord,doM]
  split
  .dsimp only;refine h.mod ?_;intro e;exact hk _ _ _
  .exact h.up
 | deliver c e n =>
  simp only[ord,doM]
  split
  .dsimp only;refine h.mod ?_;intro e;exact hk _ _ _
  .exact h.up
 | grind a =>
  simp only[ord,doM]
  split
  .split
   .dsimp only;refine h.mod ?_;intro e;exact Nat.le_succ _
   .exact h.up
  .exact h.up
end Go.Vc
namespace Go.Vc
open Go.Proofs
theorem zcH:∀ {l:List Int} {i f:Nat} {x y:Int},l[i]? = some x->sumI ((l.set i y).drop f)=sumI (l.drop f)+(if f<=i then y-x else 0)
 | [],i,f,x,y,h=>by simp at h
 | z::l,i,0,x,y,h=>by
  simp only[List.drop_zero,Nat.zero_le,if_true];rw[zfE h];omega
 | z::l,0,f+1,x,y,h=>by simp
 | z::l,i+1,f+1,x,y,h=>by
  simp only[List.set_cons_succ,List.drop_succ_cons];rw[zcH (l:=l) (i:=i) (f:=f) (by simpa using h)];by_cases hf:f<=i
  .rw [if_pos hf,if_pos (by omega)]
  .rw [if_neg hf,if_neg (by omega)]
def EditionM.gap (e:EditionM):Int:=e.open_-e.rest e.from_
def spl:Ln->Nat
 | .print _ _ k=>k
 | _=>0
def zvE (E E':TE)(s:Int):Prop:=∀ j e',getF E' j=some e'->(∃ e,getF E j=some e/\e'.gap<=max 0 e.gap+s)∨(getF E j=none/\e'.gap<=0)
theorem zpc {E:TE}{s:Int}(h:0<=s):zvE E E s:=λ j e he=>.inl ⟨e,he,by omega⟩
theorem zd3 {E:TE}{i:Nat}{f:EditionM->EditionM}{d:EditionM}{s:Int}(h:0<=s)(hd:getF E i=some d)(hf:(f d).gap<=max 0 d.gap+s):zvE E (modF E i f) s:=by
 intro j e he;rw[zbF] at he
 split at he
 .rename_i hij
  subst hij;rw[hd] at he;cases he;exact .inl ⟨d,hd,hf⟩
 .exact .inl ⟨e,he,by omega⟩
theorem ztI {S:TS}{E:TE}{C:TC}{n:Nat}{l:Ln}(hl:l.ok)(hS:ShOK n S E C)(hw:zau S E C (ord nm0 l)=0):zvE E (doM S E C (ord nm0 l)).2.1 (spl l:Int):=by
 cases l with
 | stone a t=>exact zpc (by omega)
 | edition e =>
  intro j d hd;simp only[ord,doM] at hd;by_cases hj:j<E.length
  .rw [zdq hj] at hd;exact .inl ⟨d,hd,by omega⟩
  .have h1:=zen hd
   have:j=E.length:=by simp at h1;omega
   subst this;rw[zd2] at hd;cases hd;exact .inr ⟨by simp[getF],by simp[EditionM.gap,EditionM.rest,sumI]⟩
 | draw a e =>
  simp only[ord,zau] at hw
  cases ha:stO S (nm0 0 a) with
  | none=>rw[ha] at hw;simp at hw
  | some s =>
   cases he:edO E (nm0 1 e) with
   | none=>rw[ha,he] at hw;simp at hw
   | some d =>
    obtain⟨i,hi1,hi2⟩:=zdp ha;obtain⟨j,hj1,hj2⟩:=zbu he;have hfl:=(hS.edOK hj2).fl;have hf0:=(hS.edOK hj2).f0;simp only[ord,doM,hi1,hj1];refine zd3 (by omega) hj2 ?_;show d.open_-sumI ((d.places++[0]).drop d.from_.toNat)<=max 0 d.gap+((0:Nat):Int);have:d.gap=d.open_-sumI (d.places.drop d.from_.toNat):=rfl;rw[List.drop_append_of_le_length (by omega),zjZ];simp only[sumI];omega
 | paper e t =>
  simp only[ord,zau] at hw
  cases he:edO E (nm0 1 e) with
  | none=>rw[he] at hw;simp at hw
  | some d =>
   obtain⟨j,hj1,hj2⟩:=zbu he;have hne:=(hS.edOK hj2).ne;simp only[ord,doM,hj1];refine zd3 (by omega) hj2 ?_;show d.open_-sumI ((d.places.set 0 (d.at_ 0+(t:Int))).drop d.from_.toNat)<=max 0 d.gap+((0:Nat):Int);have:d.gap=d.open_-sumI (d.places.drop d.from_.toNat):=rfl;have h0:d.places[0]? = some (d.at_ 0):=ziQ (k:=0) (by omega);rw[zcH h0]
   split <;> omega
 | print a t k =>
  simp only[ord,zau] at hw
  cases ha:stO S (nm0 0 a) with
  | none=>rw[ha] at hw;simp at hw
  | some s =>
   rw[ha] at hw;simp only at hw
   cases hof:s.of with
   | none=>rw[hof] at hw;simp at hw
   | some j =>
    obtain⟨d,hj2,hp0,hp1⟩:=hS.onE ha hof
    have hq:s.place=(s.place.toNat:Int):=by omega
    simp only[ord,doM,ha,hof];refine zd3 (by omega) hj2 ?_;show d.open_-sumI (((d.places.set s.place.toNat (d.at_ s.place-((t:Int)+k))).set (s.place.toNat+1) (d.at_ (s.place+1)+t)).drop d.from_.toNat)<=max 0 d.gap+((k:Nat):Int);have:d.gap=d.open_-sumI (d.places.drop d.from_.toNat):=rfl
    have g1:d.places[s.place.toNat]? = some (d.at_ s.place):=by
     have:=ziQ (e:=d) (k:=s.place.toNat) (by omega);rw[<- hq] at this;exact this
    have g2:(d.places.set s.place.toNat (d.at_ s.place-((t:Int)+k)))[s.place.toNat+1]? = some (d.at_ (s.place+1)):=by
     have g3:=ziQ (e:=d) (k:=s.place.toNat+1) (by omega);rw[show ((s.place.toNat+1:Nat):Int)=s.place+1 by omega] at g3;rw[List.getElem?_set,if_neg (by omega)];exact g3
    rw[zcH g2,zcH g1]
    split <;> split <;> omega
 | close e =>
  simp only[ord,zau] at hw
  cases he:edO E (nm0 1 e) with
  | none=>rw[he] at hw;simp at hw
  | some d =>
   obtain⟨j,hj1,hj2⟩:=zbu he;simp only[ord,doM,hj1];exact zd3 (by omega) hj2 (by show d.gap<=_;omega)
 | claim c e t =>
  simp only[ord,zau] at hw
  cases he:edO E (nm0 1 e) with
  | none=>rw[he] at hw;simp at hw
  | some d =>
   obtain⟨j,hj1,hj2⟩:=zbu he;have hsp:=(hS.edOK hj2).sp;rw[he] at hw;simp only at hw;simp only[ord,doM,hj1];refine zd3 (by omega) hj2 ?_;show d.open_+(t:Int)-d.rest d.from_<=max 0 d.gap+((0:Nat):Int)
   split at hw
   .cases hw
   .split at hw
    .cases hw
    .omega
 | deliver c e t =>
  simp only[ord,zau] at hw
  cases he:edO E (nm0 1 e) with
  | none=>rw[he] at hw;simp at hw
  | some d =>
   obtain⟨j,hj1,hj2⟩:=zbu he;have hne:=(hS.edOK hj2).ne;have hfl:=(hS.edOK hj2).fl;have hf0:=(hS.edOK hj2).f0;simp only[ord,doM,hj1];refine zd3 (by omega) hj2 ?_;show d.open_-(t:Int)-sumI ((d.places.set (d.places.length-1) (d.last-(t:Int))).drop d.from_.toNat)<=max 0 d.gap+((0:Nat):Int);have:d.gap=d.open_-sumI (d.places.drop d.from_.toNat):=rfl
   have h0:d.places[d.places.length-1]? = some d.last:=by
    unfold EditionM.last;rw[List.getElem?_eq_getElem (by omega)];rfl
   rw[zcH h0,if_pos (by omega)];omega
 | grind a =>
  simp only[ord,zau] at hw
  cases ha:stO S (nm0 0 a) with
  | none=>rw[ha] at hw;simp at hw
  | some s =>
   rw[ha] at hw;simp only at hw
   cases hof:s.of with
   | none=>rw[hof] at hw;simp at hw
   | some j =>
    rw[hof] at hw;simp only at hw;obtain⟨i,hi1,hi2⟩:=zdp ha;obtain⟨d,hj2,hp0,hp1⟩:=hS.onE ha hof;have hsp:=(hS.edOK hj2).sp;rw[hj2] at hw;simp only at hw;simp only[ord,doM,hi1,hi2,hof,Option.bind_some,Option.map_some,Option.getD_some];refine zd3 (by omega) hj2 ?_;show d.open_-d.rest (max d.from_ (s.place+1))<=max 0 d.gap+((0:Nat):Int);have:d.gap=d.open_-d.rest d.from_:=rfl
    split at hw
    .cases hw
    .split at hw
     .cases hw
     .rename_i hh
      by_cases h1:d.rest (max d.from_ (s.place+1))<d.rest d.from_
      .have:¬ d.rest (max d.from_ (s.place+1))<d.open_:=λ h2=>hh ⟨h1,h2⟩
       omega
      .omega
end Go.Vc
namespace Go.Vc
open Go.Proofs
theorem ztJ {E E':TE}{t:List ByteArray}(h:E'.map (·.1)=E.map (·.1)++t){k:ByteArray}{j:Nat}(hj:zaq k E'=some j)(hl:j<E.length):zaq k E=some j:=by
 obtain⟨⟨x,hx⟩,hm⟩:=zbd.1 hj
 have key:∀ i,i<E.length->(E'[i]?).map (·.1)=(E[i]?).map (·.1):=λ i hi=>by
  have:=congrArg (·[i]?) h;simp only[List.getElem?_map] at this;rw[this,List.getElem?_append_left (by simpa using hi),List.getElem?_map]
 have h1:=key j hl;rw[hx,List.getElem?_eq_getElem hl] at h1;simp only[Option.map_some,Option.some.injEq] at h1;refine zbd.2 ⟨⟨E[j].2,by rw[List.getElem?_eq_getElem hl,h1]⟩,λ i q hi hq=>?_⟩;have h2:=key i (by omega);rw[hq] at h2
 cases hE:E'[i]? with
 | none=>rw[hE] at h2;cases h2
 | some p =>
  rw[hE] at h2;simp only[Option.map_some,Option.some.injEq] at h2;have:=hm i p hi hE;rw[h2] at this;exact this
theorem zrO {S:TS}{E:TE}{C:TC}{l:Ln}:∃ t,(doM S E C (ord nm0 l)).2.1.map (·.1)=E.map (·.1)++t:=by
 have h0:∃ t,E.map (·.1)=E.map (·.1)++t:=⟨[],by simp⟩;have hm:∀ (i:Nat) (f:EditionM->EditionM),∃ t,(modF E i f).map (·.1)=E.map (·.1)++t:=λ i f=>⟨[],by rw[zbt];simp⟩
 cases l with
 | stone a n=>exact h0
 | edition e=>exact⟨[nm0 1 e],by simp[ord,doM]⟩
 | draw a e=>simp only[ord,doM];split <;> first|exact h0|(dsimp only;exact hm _ _)
 | paper e n=>simp only[ord,doM];split <;> first|exact h0|(dsimp only;exact hm _ _)
 | print a n k=>simp only[ord,doM];split <;> first|exact h0|(split <;> first|exact h0|(dsimp only;exact hm _ _))
 | close e=>simp only[ord,doM];split <;> first|exact h0|(dsimp only;exact hm _ _)
 | claim c e n=>simp only[ord,doM];split <;> first|exact h0|(dsimp only;exact hm _ _)
 | deliver c e n=>simp only[ord,doM];split <;> first|exact h0|(dsimp only;exact hm _ _)
 | grind a=>simp only[ord,doM];split <;> first|exact h0|(split <;> first|exact h0|(dsimp only;exact hm _ _))
theorem zrP {b:Bk}{l:Ln}(hl:l.ok)(he:errB b (txt nm0 l)=0):zau b.S b.E b.C (ord nm0 l)=0:=by
 unfold errB at he;rw[rdL hl] at he;unfold errM at he;dsimp only at he;rw[if_pos rfl] at he
 split at he
 .assumption
 .exact he
theorem ztK {b:Bk}{l:Ln}(hl:l.ok)(he:errB b (txt nm0 l)=0):zcc b (txt nm0 l)=⟨b.L++[txt nm0 l],(doM b.S b.E b.C (ord nm0 l)).1,(doM b.S b.E b.C (ord nm0 l)).2.1,(doM b.S b.E b.C (ord nm0 l)).2.2⟩:=by
 unfold errB at he;unfold zcc goM;rw[rdL hl] at he ⊢;rw[if_pos he]
theorem zf7 {b:Bk}(hb:BkOK b)(k:ByteArray):0<=(zaG b k).1/\(zaG b k).1<=5000:=by
 unfold zaG
 cases h:edO b.E k with
 | none=>simp
 | some e =>
  obtain⟨j,_,hj⟩:=zbu h;have h1:=(hb.sh.edOK hj).rest_b e.from_;have h2:=(hb.sh.edOK hj).ob;dsimp only;omega
theorem zpd {b:Bk}(hb:BkOK b){l:Ln}(hl:l.ok)(he:errB b (txt nm0 l)=0)(k:ByteArray):(zaG (zcc b (txt nm0 l)) k).1<=(zaG b k).1+spl l:=by
 have hw:=zrP hl he;have hg:=ztI hl hb.sh hw;obtain⟨t,ht⟩:=zrO (S:=b.S) (E:=b.E) (C:=b.C) (l:=l);have h0:=(zf7 hb k).1;rw[ztK hl he];unfold zaG;dsimp only
 cases h:edO (doM b.S b.E b.C (ord nm0 l)).2.1 k with
 | none=>dsimp only;unfold zaG at h0;omega
 | some e' =>
  obtain⟨j,hj1,hj2⟩:=zbu h;dsimp only
  rcases hg j e' hj2 with ⟨e,h1,h2⟩|⟨h1,h2⟩
  .have hlk:=ztJ ht hj1 (zen h1)
   have:edO b.E k=some e:=by unfold edO;rw[hlk];exact h1
   rw[this];unfold EditionM.gap at h2;dsimp only;omega
  .unfold EditionM.gap at h2
   unfold zaG at h0;omega
section
variable {b:Bk} {N:Nat} {x:TL} {a1:Int}
theorem f40N (hN:N=400)(hb:BkOK b)(e:Nat):f40 N (nm0 1 e) b.L b.S b.E b.C=some (zaG b (nm0 1 e)):=by rw[hN];exact zxo (M:=399) hb (by omega) (nameN 1 e)
theorem zvF (hN:N=400)(hb:BkOK b){v:Int}{y:ByteArray}{k8:List Int->Option Bool} :
  zm3 a1 N x v b.L b.S b.E b.C y k8 [nm0 1 0,nm0 1 1] N 0 (List.replicate 2 (0:Int))=k8 [(zaG b (nm0 1 0)).1,(zaG b (nm0 1 1)).1]:=by
 have h0:=f40N hN hb 0;have h1:=f40N hN hb 1;obtain⟨n,hn⟩:∃ n,N=n+3:=⟨N-3,by omega⟩
 have e3:∀ M,M=n+3->zm3 a1 N x v b.L b.S b.E b.C y k8 [nm0 1 0,nm0 1 1] M 0 (List.replicate 2 (0:Int))=k8 [(zaG b (nm0 1 0)).1,(zaG b (nm0 1 1)).1]:=by
  intro M hM;subst hM;show zgo _ a1 N x v b.L b.S b.E b.C y k8 [nm0 1 0,nm0 1 1] 0 _=_;unfold zgo;simp only[zaN];refine zb0 (by simp) (zac (x:=nm0 1 0) rfl ?_);unfold zhQ;refine zac h0 (zac (x:=()) rfl (zac (x:=[(zaG b (nm0 1 0)).1,0]) rfl ?_));rw[show W ((0:Int)+1)=((1:Nat):Int) from W1 (n:=0) (by omega)];show zgo _ a1 N x v b.L b.S b.E b.C y k8 [nm0 1 0,nm0 1 1] ((1:Nat):Int) _=_;unfold zgo;simp only[zaN];refine zb0 (by simp) (zac (x:=nm0 1 1) rfl ?_);unfold zhQ;refine zac h1 (zac (x:=()) rfl (zac (x:=[(zaG b (nm0 1 0)).1,(zaG b (nm0 1 1)).1]) rfl ?_));rw[show W (((1:Nat):Int)+1)=((2:Nat):Int) from W1 (n:=1) (by omega)];show zgo _ a1 N x v b.L b.S b.E b.C y k8 [nm0 1 0,nm0 1 1] ((2:Nat):Int) _=_;unfold zgo;exact za1 (by simp) rfl
 exact e3 N hn
theorem zvG (hN:N=400){c:Bk}(hb:BkOK b)(hc:BkOK c){s:Nat}(hs:s<=2)(h:∀ e,(zaG c (nm0 1 e)).1<=(zaG b (nm0 1 e)).1+s){er:Int}{v:Int}{k6:TL->TS->TE->TC->Option Bool} :
  ze2 a1 N x v k6 [(zaG b (nm0 1 0)).1,(zaG b (nm0 1 1)).1] (er,c.S,c.E,c.C,c.L) (s:Int)=k6 c.L c.S c.E c.C:=by
 unfold ze2;refine zac (zrt N) ?_
 have step:∀ (n q:Nat),q<2->[nm0 1 0,nm0 1 1][q]? = some (nm0 1 q)->[(zaG b (nm0 1 0)).1,(zaG b (nm0 1 1)).1][q]? = some (zaG b (nm0 1 q)).1 ->
   zgn a1 N x v k6 [(zaG b (nm0 1 0)).1,(zaG b (nm0 1 1)).1] (er,c.S,c.E,c.C,c.L) (s:Int) [nm0 1 0,nm0 1 1] (n+1) (q:Int)=zgn a1 N x v k6 [(zaG b (nm0 1 0)).1,(zaG b (nm0 1 1)).1] (er,c.S,c.E,c.C,c.L) (s:Int) [nm0 1 0,nm0 1 1] n ((q+1:Nat):Int):=by
  intro n q hq hx hy;have h1:=zf7 hb (nm0 1 q);have h2:=zf7 hc (nm0 1 q);have h3:=h q;show zf1 _ a1 N x v k6 _ (er,c.S,c.E,c.C,c.L) (s:Int) [nm0 1 0,nm0 1 1] (q:Int)=_;unfold zf1;refine zb0 (by simp;omega) (zac (zlS hx) (zac (f40N hN hc q) (zac (x:=()) ?_ (zac (x:=(zaG b (nm0 1 q)).1) ?_ (za1 ?_ (za1 ?_ ?_))))))
  .unfold chkI;rw[if_pos (by omega)]
  .unfold ixN;rw[Int.toNat_natCast];exact hy
  .rw [zaO (by omega) (by omega)];omega
  .omega
  .rw [W1 (by omega)]
 obtain⟨n,hn⟩:∃ n,N=n+3:=⟨N-3,by omega⟩
 have e3:∀ M,M=n+3->zgn a1 N x v k6 [(zaG b (nm0 1 0)).1,(zaG b (nm0 1 1)).1] (er,c.S,c.E,c.C,c.L) (s:Int) [nm0 1 0,nm0 1 1] M 0=k6 c.L c.S c.E c.C:=by
  intro M hM;subst hM;refine(step (n+2) 0 (by omega) rfl rfl).trans ((step (n+1) 1 (by omega) rfl rfl).trans ?_);show zf1 _ a1 N x v k6 _ (er,c.S,c.E,c.C,c.L) (s:Int) [nm0 1 0,nm0 1 1] ((1+1:Nat):Int)=_;unfold zf1;exact za1 (by simp) rfl
 exact e3 N hn
theorem zrQ:∀ l:Ln,∃ h t,pcs l++[zak,zak,zak]=h::t/\((∃ a n k,l = .print a n k/\h=strC [112,114,105,110,116]/\t[2]? = some (num k))∨(spl l=0/\decide (h=strC [112,114,105,110,116])=false))
 | .stone a n=>⟨_,_,rfl, .inr ⟨rfl,by kernel_rfl⟩⟩
 | .edition e=>⟨_,_,rfl, .inr ⟨rfl,by kernel_rfl⟩⟩
 | .draw a e=>⟨_,_,rfl, .inr ⟨rfl,by kernel_rfl⟩⟩
 | .paper e n=>⟨_,_,rfl, .inr ⟨rfl,by kernel_rfl⟩⟩
 | .print a n k=>⟨_,_,rfl, .inl ⟨a,n,k,rfl,rfl,rfl⟩⟩
 | .close e=>⟨_,_,rfl, .inr ⟨rfl,by kernel_rfl⟩⟩
 | .claim c e n=>⟨_,_,rfl, .inr ⟨rfl,by kernel_rfl⟩⟩
 | .deliver c e n=>⟨_,_,rfl, .inr ⟨rfl,by kernel_rfl⟩⟩
 | .grind a=>⟨_,_,rfl, .inr ⟨rfl,by kernel_rfl⟩⟩
theorem zxu (hN:N=400)(hb:BkOK b){l:Ln}(hl:l.ok){i:Nat}(hx:x[i]? = some (txt nm0 l))(hi:x.length<=1000){r3:Int->TL->TS->TE->TC->Option Bool}{k5:TL->TS->TE->TC->Option Bool} :
  ziP r3 a1 N k5 x (i:Int) b.L b.S b.E b.C=r3 ((i+1:Nat):Int) (zcc b (txt nm0 l)).L (zcc b (txt nm0 l)).S (zcc b (txt nm0 l)).E (zcc b (txt nm0 l)).C:=by
 have hil:=(List.getElem?_eq_some_iff.1 hx).1;have hg:GLn (txt nm0 l):=⟨l,hl,rfl⟩;have hq:=zum (M:=397) hb (by omega) (rdA hl) (λ _=>zrq hl);rw[show 397+3=N by omega,<- rdL hl] at hq;have hq:f18 N (txt nm0 l) b.L b.S b.E b.C=some (outM (errB b (txt nm0 l)) (zcc b (txt nm0 l))):=hq;have hc:=hg.step hb;unfold ziP;simp only[zaN];refine zb0 (by omega) (zac (zlS hx) (zac (zrt N) ((zvF hN hb).trans ?_)))
 have hnext:∀ c:Bk,zem a1 x (i:Int) r3 c.L c.S c.E c.C=r3 ((i+1:Nat):Int) c.L c.S c.E c.C:=λ c=>by unfold zem;rw[W1 (by omega)]
 unfold zf2;refine zac hq ?_;unfold outM;by_cases he:errB b (txt nm0 l)=0
 .refine za1 (by simp[he]) (zac (pcsN hN hl) (zac zdy ?_))
  simp only[zaN];obtain⟨h,t,h1,h2⟩:=zrQ l;have hchk:=λ s hs hh=>(zvG (a1:=a1) (x:=x) hN hb hc (s:=s) hs hh (er:=errB b (txt nm0 l)) (v:=(i:Int)) (k6:=zem a1 x (i:Int) r3)).trans (hnext _);have hss:=zpd hb hl he;rw[h1];refine zac (x:=h) rfl ?_
  rcases h2 with ⟨a,n,k,rfl,rfl,h3⟩|⟨h2,h3⟩
  .have hk2:k<=2:=hl.2.2.2
   refine zb0 rfl (zac (x:=num k) (zlS (i:=3) (by simpa using h3)) (zac (zfG hN (by omega)) ?_));exact hchk k hk2 λ e=>hss (nm0 1 e)
  .rw [h3]
   exact hchk 0 (by omega) λ e=>by have:=hss (nm0 1 e);rw[h2] at this;exact this
 .exact zb0 he (hnext _)
def gmax (k:ByteArray):TL->Int->Nat->Int
 | [],g,_=>g
 | s::l,g,i=>gmax k l (if s=k then max g ((i:Int)+1) else g) (i+1)
theorem zrR {k:ByteArray}:∀ {l:TL} {g:Int} {i:Nat},(∀ q:Nat,l[q]? ≠ some k)->gmax k l g i=g
 | [],_,_,_=>rfl
 | s::l,g,i,h=>by
  have h0:s≠k:=λ e=>h 0 (by simp[e]);simp only[gmax,if_neg h0]
  exact zrR λ q=>by have:=h (q+1);simpa using this
theorem zrS {k:ByteArray}:∀ {l:TL} {g:Int} {i p:Nat},l[p]? = some k->(∀ q:Nat,p<q->l[q]? ≠ some k)->gmax k l g i=max g (((i+p:Nat):Int)+1)
 | [],_,_,_,h,_=>by simp at h
 | s::l,g,i,0,h,h2=>by
  simp at h;subst h;simp only[gmax,if_true];rw[zrR λ q=>by have:=h2 (q+1) (by omega);simpa using this];simp
 | s::l,g,i,p+1,h,h2=>by
  simp only[gmax];rw[zrS (p:=p) (by simpa using h) λ q hq=>by have:=h2 (q+1) (by omega);simpa using this]
  split <;> omega
theorem zka {x2:ByteArray}{x5:Int}{x6:A2strN×Bool}{j:Nat}{r:RunM}{x13:Int}{k0:TR->Option Bool}{R:TR}(hr:getF R j=some r)(hs:r.stones.length<=1000):∀ (m i n:Nat) (g:Int),r.stones.length-i=m->i<=r.stones.length->m<n ->
  zgl x2 x5 x6 j r x13 k0 n (i:Int) (setF R j { r with ground:=g })=k0 (setF R j { r with ground:=gmax x2 (r.stones.drop i) g i })
 | 0,i,n,g,h1,h2,h3=>by
  obtain⟨n,rfl⟩:∃ q,n=q+1:=⟨n-1,by omega⟩;unfold zgl zjU;refine za1 (by omega) ?_;rw[List.drop_of_length_le (by omega)];rfl
 | m+1,i,n,g,h1,h2,h3=>by
  obtain⟨n,rfl⟩:∃ q,n=q+1:=⟨n-1,by omega⟩
  have hil:i<r.stones.length:=by omega
  have hd:r.stones.drop i=r.stones[i]::r.stones.drop (i+1):=List.drop_eq_getElem_cons hil;have hw:W ((i:Int)+1)=((i+1:Nat):Int):=W1 (by omega);unfold zgl zjU;refine zb0 (by omega) (zac (zlS (List.getElem?_eq_getElem hil)) ?_);rw[hd,gmax];by_cases hx:r.stones[i]=x2
  .refine zb0 hx (zac (zcj hr) (zac rfl ?_))
   rw[hw,zcq,if_pos hx];have:=zka (x2:=x2) (x5:=x5) (x6:=x6) (x13:=x13) (k0:=k0) hr hs m (i+1) n (max g ((i:Int)+1)) (by omega) (by omega) (by omega);rw[show (((i+1:Nat):Int))=(i:Int)+1 by simp] at *;exact this
  .refine za1 hx ?_
   rw[hw,if_neg hx];exact zka (x2:=x2) (x5:=x5) (x6:=x6) (x13:=x13) (k0:=k0) hr hs m (i+1) n g (by omega) (by omega) (by omega)
theorem zm9:((List.range 100).all λ n=>decide (num n=strC [49]) == decide (n=1))=true:=by kernel_rfl
theorem zvH {t:Int}(h1:1<=t)(h2:t<=99):(num t.toNat=strC [49]) ↔ t=1:=by
 have:=List.all_eq_true.1 zm9 t.toNat (List.mem_range.2 (by omega));simp only[beq_iff_eq,decide_eq_decide] at this;rw[this];omega
theorem EdR.rest_k {e:EditionM}{r:RunM}(h:EdR e r){k:Int}(hk:0<=k):e.rest k=cge k r.sheets:=by
 have h1:=zj9 h.pl (λ x hx=>(h.rg x hx).2) _ k.toNat rfl;unfold EditionM.rest;rw[h1,show ((k.toNat:Nat):Int)=k by omega]
theorem zxv {o:I97}(hL:b.L.length≠120):errM b (o,0)=zau b.S b.E b.C o:=by
 unfold errM;rw[if_pos rfl];by_cases h0:zau b.S b.E b.C o=0
 .rw [if_pos h0,if_neg hL];exact h0.symm
 .rw [if_neg h0]
theorem zrT (a:Nat):strC [103,114,105,110,100,32]++nm0 0 a=txt nm0 (.grind a):=rfl
theorem zxw (hN:N=400)(hb:BkOK b){w:Nat}(hi:InvE w b.E)(hw:w<=100)(hp0:∀ j e,getF b.E j=some e->e.paper<=390)(hll:b.L.length<=40){R:TR}{H:TH}(hrel:RelR b.S b.E R H){a:Nat}(ha:a<3){x3:TL} :
  zbs N b.L b.S b.E b.C (nm0 0 a) x3 R H=some true:=by
 have hok:(Ln.grind a).ok:=ha
 have h14:(f14 N).bind (λ x=>some x)=some true:=by rw[hN,ztG];rfl
 have h17:f17 N (txt nm0 (.grind a)) b.L b.S b.E b.C=some (zau b.S b.E b.C (.c215 ⟨nm0 0 a⟩)):=by
  have h:=zul (M:=397) hb (by omega) (rdA hok) (λ _=>zrq hok);rw[show 397+3=N by omega] at h;rw[h,zxv (by omega)];rfl
 have hsz:(strC [103,114,105,110,100,32]).size+(nm0 0 a).size<=1000000:=by
  have:=zgF 0 a;rw[zhT];simp;omega
 have hst:=hrel.st (nm0 0 a);unfold zbs;refine zac (zrn hsz) ?_;rw[zrT];refine zac h17 (zac rfl ?_);rw[show A2strN.mk zak zak=zA from rfl,hst]
 have hem:zaq zak R=none:=by
  cases h:zaq zak R with
  | none=>rfl
  | some j =>
   obtain⟨⟨x,hx⟩,_⟩:=zbd.1 h;exact absurd rfl (hrel.nm zak (by rw[<- hrel.ky];exact List.mem_map.2 ⟨_,List.mem_of_getElem? hx,rfl⟩))
 cases hs:stO b.S (nm0 0 a) with
 | none =>
  dsimp only;rw[show (zA,false).1.e1=zak from rfl,hem];simp only[zau,hs];exact h14
 | some s =>
  dsimp only
  cases hof:s.of with
  | none =>
   rw[show (zdf b.E s).e1=zak by simp[zdf,onN,hof],hem];simp only[zau,hs,hof];exact h14
  | some j =>
   obtain⟨e,he,hp1,hp2⟩:=hb.sh.onE hs hof;obtain⟨r,hr,hd⟩:=hrel.runOf he;have ho:=hb.sh.edOK he;have hso:=hb.sh.stOK hs
   have hl:zaq (zdf b.E s).e1 R=some j:=by
    rw[show (zdf b.E s).e1=onN b.E (some j) by simp[zdf,hof],hrel.look];exact zm6 hb.sh.ek he
   rw[hl];simp only[onO,Bool.not_true,cond_false];refine zac hr ?_;simp only[zau,hs,hof,he]
   cases hcl:r.closed with
   | false =>
    have:e.closed=false:=by rw[hd.cl];exact hcl
    rw[if_pos this];exact h14
   | true =>
    have hec:e.closed=true:=by rw[hd.cl];exact hcl
    rw[if_neg (by rw[hec];simp)];have hown:=hi.ow j e he;have hpp:=hp0 j e he;have hln:=hd.ln;have hle:=ho.le;have hf0:=ho.f0;have hos:=ho.os;have hob:=ho.ob
    have hpl:(r.sheets.length:Int)<=390:=by rw[<- hd.pp];exact hpp
    have h47:f47 N r=some (e.rest e.from_):=by rw[hd.rest_eq ho];exact zuq (by omega) (by omega)
    obtain⟨hq0,hq1,hq2⟩:=hrel.on (nm0 0 a) s j r hs hof hr
    have hgm:gmax (nm0 0 a) (r.stones.drop 0) r.ground 0=max e.from_ (s.place+1):=by
     rw[List.drop_zero,zrS (p:=s.place.toNat) hq1 hq2,hd.fr]
     congr 1
     omega
    refine zac h47 ?_;simp only[zaN]
    have hgr:=zka (x2:=nm0 0 a) (x5:=if e.rest (max e.from_ (s.place+1))<e.rest e.from_/\e.rest (max e.from_ (s.place+1))<e.open_ then 12 else if s.thick=1 then 13 else 0) (x6:=(zdf b.E s,true)) (x13:=e.rest e.from_)
     (k0:=zei N (if e.rest (max e.from_ (s.place+1))<e.rest e.from_/\e.rest (max e.from_ (s.place+1))<e.open_ then 12 else if s.thick=1 then 13 else 0) (zdf b.E s,true) j r (e.rest e.from_)) hr (by omega) r.stones.length 0 N r.ground (by omega) (by omega) (by omega)
    rw[hgm,show ({ r with ground:=r.ground }:RunM)=r from rfl,zfH hr] at hgr;refine hgr.trans ?_;unfold zei
    have h47':f47 N { r with ground:=max e.from_ (s.place+1) }=some (e.rest (max e.from_ (s.place+1))):=by
     rw[hd.rest_k (by omega)];exact zuq (r:={ r with ground:=max e.from_ (s.place+1) }) (by show r.sheets.length<=_;omega) (by show r.sheets.length<_;omega)
    have h46:f46 N { r with ground:=max e.from_ (s.place+1) }=some e.open_:=by
     rw[hos,hd.ow];exact zxt (r:={ r with ground:=max e.from_ (s.place+1) }) (λ q hq=>ho.ow q (by rw[hd.ow];exact hq)) (by show sumI (r.claims.map (·.2))<=_;rw[<- hd.ow,<- hos];omega) (by show r.claims.length<_;rw[<- hd.ow];omega)
    refine zac (zcj hr) (zac (x:=r.stones) (if_pos rfl) (zac rfl (zac h47' ?_)));have t1:=hso.t1;have t9:=hso.t9;have hone:=zvH t1 t9
    have hthick:(bif decide ((zdf b.E s).e0=strC [49]) then (bif decide ((if s.thick=1 then (13:Int) else 0)=(13:Int)) then ((f14 N).bind λ x=>some x) else (some false)) else (bif decide ((if s.thick=1 then (13:Int) else 0)=(0:Int)) then ((f14 N).bind λ x=>some x) else (some false)))=some true:=by
     by_cases ht:s.thick=1
     .refine zb0 (hone.2 ht) ?_
      rw[if_pos ht];exact h14
     .refine za1 (λ h=>ht (hone.1 h)) ?_
      rw[if_neg ht];exact h14
    by_cases c1:e.rest (max e.from_ (s.place+1))<e.rest e.from_
    .refine zb0 c1 (zac h47' (zac h46 ?_))
     by_cases c2:e.rest (max e.from_ (s.place+1))<e.open_
     .refine zb0 c2 ?_
      rw[if_pos ⟨c1,c2⟩];exact h14
     .refine za1 c2 ?_
      rw[if_neg (λ h=>c2 h.2)];exact hthick
    .refine za1 c1 ?_
     rw[if_neg (λ h=>c1 h.1)];exact hthick
end
theorem zlX:∀ (ls:List Ln) (b:Bk) (w:Nat),(∀ l,l∈ls->l.ok)->BkOK b->InvE w b.E->InvE (w+ls.length) (tell b (ls.map (txt nm0))).E
 | [],b,w,_,_,h=>h
 | l::ls,b,w,hl,hb,h=>by
  have hlk:=hl l (List.mem_cons_self ..);have hg:GLn (txt nm0 l):=⟨l,hlk,rfl⟩;rw[List.length_cons,show w+(ls.length+1)=(w+1)+ls.length by omega];refine zlX ls (zcc b (txt nm0 l)) (w+1) (λ l' hl' => hl l' (List.mem_cons_of_mem _ hl')) (hg.step hb) ?_;unfold zcc goM;rw[rdL hlk]
  split
  .exact zrN hlk h
  .exact h.up
theorem ztL {N:Nat}(hN:N=400){a0:List A4u8N}{a1:Int}(h0:∀ x,x∈a0->x.ok)(h1:u8In a1):f12 N a0 a1=some true:=by
 have hx1:f26 N a0=some ((zcM a0).map (txt nm0)):=zxm (by omega) h0;have hg:=zp h0;have hlen:=zrv a0;unfold f12;simp only[zaN];refine zac hx1 ?_
 have htell:=zru (F:=zo8 a1 N (zel a1 N) ((zcM a0).map (txt nm0))) (k:=zel a1 N) hg (λ n i y b hi hxi hy hb=>by
  obtain⟨l,hl,rfl⟩:=hy
  exact zxu hN hb hl hxi (by omega)) (λ n b=>by
  show ziP _ a1 N _ _ _ b.L b.S b.E b.C=_;unfold ziP
  exact za1 (by omega) rfl) N Bk.new znZ (by omega)
 refine htell.trans ?_;obtain⟨ls,hL,hsub,hwt,hln⟩:=zn7 (zcM a0) Bk.new;have hlok:∀ l,l∈ls->l.ok:=λ l hl=>zhS h0 l (hsub l hl);have hbo:BkOK (tell Bk.new ((zcM a0).map (txt nm0))):=zrs znZ hg;obtain⟨hrun,hsame⟩:=zo9 ((zcM a0).map (txt nm0)) Bk.new ztx;have hinv:=zlX (zcM a0) Bk.new 0 (zhS h0) znZ ztH
 have hll:(zcM a0).length<=35:=by simpa using hlen
 generalize hbd:tell Bk.new ((zcM a0).map (txt nm0))=b at *;rw[show Bk.new.L=[] from rfl,List.nil_append] at hL;rw[hL] at hrun hsame;have hw290:=zrI h0
 have hls:ls.length<=35:=by omega
 obtain⟨R,H,hrel,hpap,hrr⟩:=ziU ls Bk.new [] [] 0 hlok znZ hrun zvz (λ j e h=>by simp[Bk.new,getF] at h) (by omega);rw[hsame] at hrel hpap;unfold zel;simp only[zaN];have hname:=zrp (N:=N) (M:=N) h1;obtain⟨x1,hx1',hx2⟩:=bind_some hname
 have h21:f21 N b.L b.S b.E b.C=some b.L:=by rw[hN];exact zxn (M:=399) hbo
 refine zac hx1' (zac hx2 (zac h21 ?_));have hr0:=hrr b.L b.S b.E b.C b.L (zbs N b.L b.S b.E b.C (nm0 0 (a1 % 3).toNat) b.L) 0 N N hN (by rw[hL];rfl) (Nat.zero_le _) (by rw[hL];simp;omega) (by omega);rw[show ((0:Nat):Int)=(0:Int) from rfl] at hr0;refine hr0.trans ?_
 have hbl:b.L.length<=40:=by rw[hL];simp;omega
 exact zxw hN hbo hinv (by omega) (λ j e he=>by have:=hpap j e he;omega) hbl hrel (by have:=h1.1;omega)
theorem zrU {a0:List A4u8N}{a1:Int}(h0:∀ x,x∈a0->x.ok)(h1:u8In a1):f12 400 a0 a1=some true:=ztL rfl h0 h1
end Go.Vc
namespace Go.Vc
abbrev tB:Ty := .int .u8
abbrev tA4:Ty := .comp [tB,tB,tB,tB]
abbrev tSh:Ty := .slice tA4 true 4
theorem zxx {ds:List D}(h:tB.has ds):∃ n,ds=[u8N n]/\u8In n:=by
 simp only[tB,Ty.has] at h;obtain⟨n,rfl,h⟩:=h;exact⟨n,rfl,by simpa [IntKind.min,IntKind.max,IntKind.signed,IntKind.bits,u8In] using h⟩
theorem zoa {ds:List D}(h:(Ty.int .u8).has ds):∃ n,ds=[u8N n]/\u8In n:=zxx h
theorem zxy {x:D}(h:tB.hasD x):∃ n,x=u8N n/\u8In n:=by
 obtain⟨n,h1,h2⟩:=zxx (ds:=[x]) h;exact⟨n,List.singleton_inj.1 h1,h2⟩
theorem zrV {x:D}(h:tSh.hasD x):∃ l:List A4u8N,x=zd0 l/\∀ y,y∈l->y.ok:=by
 obtain⟨l,h1,_,h3⟩:=zs1 (d:=A4u8N.d) (p:=A4u8N.ok) (ds:=[x]) (λ cs h=>by
  simp only[tA4,Ty.has] at h;rw[Ty.hasL] at h;obtain⟨a0,b0,rfl,h0,h⟩:=h;rw[Ty.hasL] at h;obtain⟨a1,b1,rfl,h1,h⟩:=h;rw[Ty.hasL] at h;obtain⟨a2,b2,rfl,h2,h⟩:=h;rw[Ty.hasL] at h;obtain⟨a3,b3,rfl,h3,h⟩:=h;simp only[Ty.hasL] at h;subst h;obtain⟨x0,rfl,p0⟩:=zoa h0;obtain⟨x1,rfl,p1⟩:=zoa h1;obtain⟨x2,rfl,p2⟩:=zoa h2;obtain⟨x3,rfl,p3⟩:=zoa h3
  exact⟨⟨x0,x1,x2,x3⟩,rfl,p0,p1,p2,p3⟩) h
 exact⟨l,List.singleton_inj.1 h1,h3⟩
end Go.Vc
namespace Go.Vc
open Go.Proofs
theorem lx_of {l:List (String×DataW Unit)} (h1:(l.filter λ x=>x.1 == "internal/strconv.uint64pow10")=[("internal/strconv.uint64pow10", Lib.tabData .u64 Lib.pow10Tab)]) {w:World} (h:laidMetH Tryz.prog l w.memory):LX Tryz.prog w:=by
 have h2:=laidMetH.filter (λ x=>x.1 == "internal/strconv.uint64pow10") h
 rw[h1,MakeChecks.laidMetH_plain _ _ _ (by rfl)] at h2;exact LX.heap (w:=w.memory) (Lib.tabIs_of_head (g:=0) (t:=226) (e:=182) (n:=20) (by kernel_rfl) (by kernel_rfl) (by kernel_rfl) (by kernel_rfl) (by kernel_rfl) (by kernel_rfl) h2) rfl
end Go.Vc

/-
  A library for proofs about Go functions by symbolic evaluation,and plain Lean functions that the walked Go functions compute (written by a program of this claim).
-/
import Derived.Test.YtlngljdmmlbhgaaGreatDoorVc2
import Derived.Lib.AppendZeros
import Derived.Lib.AppendStr
import Derived.Lib.UnsafeStr
set_option linter.unusedVariables false
set_option linter.unnecessarySimpa false
set_option linter.unusedSimpArgs false
namespace Go.Vc
open Go.RowKit
section
variable {P:Program} {fr:Fr} {nt:Nat} {g:Gh} {e:Nat->SV} {m:Nat->Blk} {a:Act} {w:World} {c:Ctx} {o:Oper} {K:Dl->List Loc->Prop} {Q:Exit->Act->World->Prop} {l:List Loc}
def OwnS (g:Gh)(m:Nat->Blk)(k b:Nat):Prop:=zac g m k/\(g.β k=b∨g.X k b)
theorem SR.ownS (h:SR fr nt g e m a w){k b:Nat}(ho:OwnS g m k b):b<w.heap.size/\¬ g.F b/\(¬ fr.Kp b/\(fr.Y b∨fr.w0.heap.size<=b)):=by
 obtain⟨ha,rfl|hx⟩:=ho
 .exact ⟨zaT h.mem ha,h.mem.hot k ha,h.safe k ha⟩
 .exact ⟨(h.mem.own k b ha hx).1,(h.mem.own k b ha hx).2.1,h.safeX k b ha hx⟩
theorem SR.ownU (h:SR fr nt g e m a w){k k' b:Nat}(ho:OwnS g m k b)(ho':OwnS g m k' b):k=k':=by
 obtain⟨ha,rfl|hx⟩:=ho
 .obtain ⟨ha',h1|hx'⟩:=ho'
  .exact h.mem.inj _ _ ha ha' h1.symm
  .exact absurd rfl ((h.mem.own k' _ ha' hx').2.2.1 k ha)
 .obtain ⟨ha',rfl|hx'⟩:=ho'
  .exact absurd rfl ((h.mem.own k _ ha hx).2.2.1 k' ha')
  .exact ((h.mem.own k b ha hx).2.2.2 k' ha' hx').symm
theorem SR.ownX (h:SR fr nt g e m a w){k:Nat}(ha:zac g m k):¬ g.X k (g.β k):=λ hx=>(h.mem.own k _ ha hx).2.2.1 k ha rfl
theorem SR.regh {g' : Gh}{m' : Nat → Blk}(h : SR fr nt g e m a w)(hF : ∀ b, g.F b → g'.F b)(hFn : ∀ b, g'.F b → g.F b ∨ ∃ k, OwnS g m k b)
    (hag : ∀ k, m k ≠ .unborn → g'.β k = g.β k ∧ g'.C k = g.C k ∧ g'.N k = g.N k ∧ g.M k <+: g'.M k) (hpin : ∀ k, k < fr.p → g'.β k = g.β k ∧ g'.C k = g.C k ∧ g'.N k = g.N k ∧ g.M k <+: g'.M k) (hborn : ∀ k, m k ≠ .unborn → m' k ≠ .unborn)
    (hblk : ∀ k, BlkRel g' w k (m' k)) (hids : ∀ b k, k ∈ (m' b).ids → m' k ≠ .unborn) (hown : ∀ k b, OwnS g' m' k b → ∃ k0, OwnS g m k0 b) (hhot : ∀ k b, OwnS g' m' k b → ¬ g'.F b)
    (huniq : ∀ k k' b, OwnS g' m' k b → OwnS g' m' k' b → k = k') (hsep : ∀ k, zac g' m' k → ¬ g'.X k (g'.β k)) : SR fr nt g' e m' a w := by
  refine { h with mem := ⟨hblk, fun i j hi hj hij => huniq i j _ ⟨hi, .inl rfl⟩ ⟨hj, .inl hij.symm⟩, fun i hi => hhot i _ ⟨hi, .inl rfl⟩, fun b hb => ?_, fun k b hk hx => ?_⟩, env := fun t => ?_, bornE := fun t k hk => hborn k (h.bornE t k hk), bornM := hids,
                  safe := fun k hk => ?_, safeX := fun k b hk hx => ?_, given := fun b hb => hF b (h.given b hb), frz := fun b hb => ?_, pin := fun k hk => ?_ }
  · rcases hFn b hb with hb | ⟨k, hk⟩
    · exact h.mem.lt b hb
    · exact (h.ownS hk).1
  · obtain ⟨k0, hk0⟩ := hown k b ⟨hk, .inr hx⟩
    refine ⟨(h.ownS hk0).1, hhot k b ⟨hk, .inr hx⟩, fun k' hk' he => ?_, fun k' hk' hx' => huniq k' k b ⟨hk', .inr hx'⟩ ⟨hk, .inr hx⟩⟩;have := huniq k' k b ⟨hk', .inl he⟩ ⟨hk, .inr hx⟩;subst this;subst he;exact hsep k' hk hx
  · rcases h.env t with h' | ⟨v, h1, h2⟩
    · exact .inl h'
    · exact .inr ⟨v, h1, h2.mono hF (fun _ _ => rfl) fun k hk => hag k (h.bornE t k hk)⟩
  · obtain ⟨k0, hk0⟩ := hown k _ ⟨hk, .inl rfl⟩
    exact (h.ownS hk0).2.2
  · obtain ⟨k0, hk0⟩ := hown k b ⟨hk, .inr hx⟩
    exact (h.ownS hk0).2.2
  · rcases hFn b hb with hb | ⟨k, hk⟩
    · exact h.frz b hb
    · exact (h.ownS hk).2.2.2
  · rw [(hpin k hk).1, (hpin k hk).2.1, (hpin k hk).2.2.1]; exact ⟨(h.pin k hk).1, (h.pin k hk).2.1, (h.pin k hk).2.2.1, (h.pin k hk).2.2.2.trans (hpin k hk).2.2.2⟩
theorem SR.renew {g' : Gh}{m' : Nat → Blk}{w' : World}(h : SR fr nt g e m a w)(hos : w'.os = w.os)(ht : w'.tape = w.tape)(hout : w'.output = w.output)(hsz : w.heap.size ≤ w'.heap.size)(hFe : g'.F = g.F)
    (hold : ∀ b, b < w.heap.size → w'.heap[b]? = w.heap[b]? ∨ ∃ k, OwnS g m k b)
    (hag : ∀ k, m k ≠ .unborn → g'.β k = g.β k ∧ g'.C k = g.C k ∧ g'.N k = g.N k ∧ g.M k <+: g'.M k) (hpin : ∀ k, k < fr.p → g'.β k = g.β k ∧ g'.C k = g.C k ∧ g'.N k = g.N k ∧ g.M k <+: g'.M k) (hborn : ∀ k, m k ≠ .unborn → m' k ≠ .unborn)
    (hblk : ∀ k, BlkRel g' w' k (m' k)) (hids : ∀ b k, k ∈ (m' b).ids → m' k ≠ .unborn) (hown : ∀ k b, OwnS g' m' k b → (∃ k0, OwnS g m k0 b) ∨ (w.heap.size ≤ b ∧ b < w'.heap.size))
    (huniq : ∀ k k' b, OwnS g' m' k b → OwnS g' m' k' b → k = k') (hsep : ∀ k, zac g' m' k → ¬ g'.X k (g'.β k)) : SR fr nt g' e m' a w' := by
  have hF : ∀ b, g.F b → g'.F b := fun b hb => by rw [hFe]; exact hb
  have hw : ∀ b, g.F b → w'.heap[b]? = w.heap[b]? := fun b hb => by
    rcases hold b (h.mem.lt b hb) with h1 | ⟨k, hk⟩
    · exact h1
    · exact absurd hb (h.ownS hk).2.1
  have own3 : ∀ k b, OwnS g' m' k b → b < w'.heap.size ∧ ¬ g'.F b ∧ (¬ fr.Kp b ∧ (fr.Y b ∨ fr.w0.heap.size ≤ b)) := by
    intro k b hk
    rcases hown k b hk with ⟨k0, h0⟩ | ⟨h1, h2⟩
    · exact ⟨Nat.lt_of_lt_of_le (h.ownS h0).1 hsz, by rw [hFe]; exact (h.ownS h0).2.1, (h.ownS h0).2.2⟩
    · refine ⟨h2, fun hf => ?_, fun hk => ?_, .inr (Nat.le_trans h.size h1)⟩
      · rw [hFe] at hf; have := h.mem.lt b hf; omega
      · have := (h.keep b hk).1; have := h.size; omega
  refine { h with mem := ⟨hblk, fun i j hi hj hij => huniq i j _ ⟨hi, .inl rfl⟩ ⟨hj, .inl hij.symm⟩, fun i hi => (own3 i _ ⟨hi, .inl rfl⟩).2.1, fun b hb => ?_, fun k b hk hx => ?_⟩, env := fun t => ?_, bornE := fun t k hk => hborn k (h.bornE t k hk), bornM := hids,
                  os := hos.trans h.os, tape := ht.trans h.tape, output := hout.trans h.output, size := Nat.le_trans h.size hsz, keep := fun b hb => ?_,
                  safe := fun k hk => (own3 k _ ⟨hk, .inl rfl⟩).2.2, safeX := fun k b hk hx => (own3 k b ⟨hk, .inr hx⟩).2.2, given := fun b hb => hF b (h.given b hb), frz := fun b hb => ?_, pin := fun k hk => ?_ }
  · rw [hFe] at hb; exact Nat.lt_of_lt_of_le (h.mem.lt b hb) hsz
  · refine ⟨(own3 k b ⟨hk, .inr hx⟩).1, (own3 k b ⟨hk, .inr hx⟩).2.1, fun k' hk' he => ?_, fun k' hk' hx' => huniq k' k b ⟨hk', .inr hx'⟩ ⟨hk, .inr hx⟩⟩
    have := huniq k' k b ⟨hk', .inl he⟩ ⟨hk, .inr hx⟩;subst this;subst he;exact hsep k' hk hx
  · rcases h.env t with h' | ⟨v, h1, h2⟩
    · exact .inl h'
    · exact .inr ⟨v, h1, h2.mono hF hw fun k hk => hag k (h.bornE t k hk)⟩
  · obtain ⟨h3, h4⟩ := h.keep b hb
    refine ⟨h3, ?_⟩
    rcases hold b (Nat.lt_of_lt_of_le h3 h.size) with h1 | ⟨k, hk⟩
    · exact h1.trans h4
    · exact absurd hb (h.ownS hk).2.2.1
  · rw [hFe] at hb; exact h.frz b hb
  · rw [(hpin k hk).1, (hpin k hk).2.1, (hpin k hk).2.2.1]; exact ⟨(h.pin k hk).1, (h.pin k hk).2.1, (h.pin k hk).2.2.1, (h.pin k hk).2.2.2.trans (hpin k hk).2.2.2⟩
theorem zcd {es:List (List MC)}{i o:Nat}{x:MC}(h:snAt es i o=some x):∃ l,es[i]? = some l/\l[o]? = some x:=by
 unfold snAt at h
 split at h
 .rename_i l hl;exact⟨l,hl,h⟩
 .cases h
theorem SR.take {k id i o s s':Nat}{e1 e':TypeId}{ea:Bool}{es:List (List MC)}{l1:List D}(hs:SR fr nt g e m a w)(hm:m k = .sn e1 s ea none es)(hi:snAt es i o=some (.r e' s' l1))(hid:fr.p<=id/\m id = .unborn) :
  ∃ g' v,w.cell? ⟨g.β k,co (g.C k)+(i*s+o),none⟩=some v/\SR fr nt g' e (mApp [(id, .row e' s' l1),(k, .sn e1 s ea (some (i,o,id)) es)] m) a w/\DenO g' w v (.rs id l1.length):=by
 have hb:=hs.mem.blk k;rw[hm] at hb;obtain⟨li,hli,hlo⟩:=zcd hi
 obtain⟨cur,I,hS⟩:∃ cur I,SnAt g w k e1 s none es cur I:=by
  rcases hb with ⟨_,h,_⟩|h
  .rw [h] at hli;simp at hli
  .exact h
 obtain⟨v,hv,hv1,hv2⟩:=hS.mem i o li _ hli hlo
 rcases hv2 with ⟨z,hz,_⟩|⟨_,hin⟩
 .cases hz
 have hkid:k≠id:=λ e=>by rw[e,hid.2] at hm;cases hm
 have hcell:w.cell? ⟨g.β k,co (g.C k)+(i*s+o),none⟩=some v:=by obtain⟨_,hp,_⟩:=hS.hp;rw[cell_of_row w _ _ _ _ _ hp];exact hv
 have hak:zac g m k:=by simp[zac,hm,hS.nn]
 -- the ghosts
 obtain⟨b,cp,nl,hbc,hnl⟩:∃ b cp nl,(nl=true->l1=[]/\v = .slice none 0 0)/\(nl=false->I i o=some (b,cp)/\v = .slice (some ⟨b,co cp,none⟩) l1.length (cc cp)/\g.X k b/\RowAt g.F w b e' s' cp l1):=by
  unfold InRow at hin
  cases hI:I i o with
  | none=>rw[hI] at hin;exact⟨0,0,true,λ _=>hin,by simp⟩
  | some bc=>obtain⟨b,cp⟩:=bc;rw[hI] at hin;exact⟨b,cp,false,by simp,λ _=>⟨rfl,hin⟩⟩
 let g':Gh:={ β:=λ q=>if q=id then b else g.β q,C:=λ q=>if q=id then cp else g.C q,N:=λ q=>if q=id then nl else g.N q,M:=g.M,F:=g.F,X:=λ q d=>q≠id/\g.X q d/\(nl=false->¬ (q=k/\d=b)) }
 have agree:∀ q,q≠id->g'.β q=g.β q/\g'.C q=g.C q/\g'.N q=g.N q/\g.M q <+: g'.M q:=λ q hq=>by simp[g',hq]
 have ne:∀ q,m q ≠ .unborn->q≠id:=λ q hq e=>hq (e ▸ hid.2)
 have mid:mApp [(id, .row e' s' l1),(k, .sn e1 s ea (some (i,o,id)) es)] m id = .row e' s' l1:=by rw[za,if_pos rfl]
 have mk:mApp [(id, .row e' s' l1),(k, .sn e1 s ea (some (i,o,id)) es)] m k = .sn e1 s ea (some (i,o,id)) es:=by rw[za,if_neg (Ne.symm hkid),za,if_pos rfl]
 have mo:∀ q,q≠id->q≠k->mApp [(id, .row e' s' l1),(k, .sn e1 s ea (some (i,o,id)) es)] m q=m q:=λ q h1 h2=>by rw[za,if_neg (Ne.symm h1),za,if_neg (Ne.symm h2)];rfl
 have born:∀ q,m q ≠ .unborn->mApp [(id, .row e' s' l1),(k, .sn e1 s ea (some (i,o,id)) es)] m q ≠ .unborn:=by
  intro q hq;by_cases hqk:q=k
  .subst hqk;rw[mk];simp
  .rw [mo q (ne q hq) hqk];exact hq
 have alv:∀ q,q≠id->(zac g' (mApp [(id, .row e' s' l1),(k, .sn e1 s ea (some (i,o,id)) es)] m) q ↔ zac g m q):=by
  intro q hq;by_cases hqk:q=k
  .subst hqk;unfold zac;rw[mk,hm,(agree q hq).2.2.1]
  .unfold zac;rw[mo q hq hqk,(agree q hq).2.2.1]
 have alvid:zac g' (mApp [(id, .row e' s' l1),(k, .sn e1 s ea (some (i,o,id)) es)] m) id->nl=false:=by
  intro h;unfold zac at h;rw[mid] at h;simpa [g'] using h
 have old:∀ q d,OwnS g' (mApp [(id, .row e' s' l1),(k, .sn e1 s ea (some (i,o,id)) es)] m) q d->(q=id/\d=b/\nl=false)∨(q≠id/\OwnS g m q d/\(nl=false->¬ (q=k/\d=b))):=by
  rintro q d ⟨ha,hx⟩;by_cases hq:q=id
  .subst hq
   rcases hx with hx|hx
   .exact .inl ⟨rfl,by rw[<- hx];simp[g'],alvid ha⟩
   .exact absurd rfl hx.1
  .refine .inr ⟨hq, ?_⟩
   have ha':=(alv q hq).1 ha
   rcases hx with hx|hx
   .rw [(agree q hq).1] at hx
    refine⟨⟨ha', .inl hx⟩, ?_⟩;rintro hn ⟨rfl,rfl⟩;exact(hs.mem.own q d ha' (hnl hn).2.2.1).2.2.1 q ha' hx
   .exact ⟨⟨ha', .inr hx.2.1⟩,hx.2.2⟩
 have kb:nl=false->OwnS g m k b:=λ hn=>⟨hak, .inr (hnl hn).2.2.1⟩;refine⟨g',v,hcell, ?_, .inr ?_⟩
 .refine hs.regh (λ _ h=>h) (λ _ h=>.inl h) (λ q hq=>agree q (ne q hq)) (λ q hq=>agree q (by have:=hid.1;omega)) born (λ q=>?_) (λ q j hj=>?_) (λ q d h=>?_) (λ q d h=>?_) (λ q q' d h h' => ?_) λ q hq hx=>?_
  .by_cases hq:q=id
   .subst hq
    rw[mid]
    cases hn:nl with
    | true=>exact .inl ⟨by simp[g',hn],(hbc hn).1⟩
    | false =>
     refine .inr ⟨by simp[g',hn], ?_⟩
     have:g'.β q=b/\g'.C q=cp:=by simp[g']
     rw[this.1,this.2];exact(hnl hn).2.2.2
   .by_cases hqk:q=k
    .subst hqk
     rw[mk]
     have hne:∀ {j c:Nat} {bc:Nat×Nat},(if j=i/\c=o then none else I j c)=some bc->¬ (j=i/\c=o)/\I j c=some bc:=λ {j c bc} h=>by
      split at h
      .cases h
      .rename_i hn;exact⟨hn,h⟩
     refine .inr ⟨cur,λ j c=>if j=i/\c=o then none else I j c,⟨by rw[(agree q hq).2.2.1];exact hS.nn,by rw[(agree q hq).1];exact hS.hp,by rw[(agree q hq).2.1];exact hS.size,by rw[(agree q hq).2.1];exact hS.le,hS.len,
      λ j c lj x hj hx=>?_,λ j c b1 c1 hI=>⟨(hS.dom j c b1 c1 (hne hI).2).1,λ z hz=>(hne hI).1 (by cases hz;exact⟨rfl,rfl⟩)⟩,λ j c j' c' b1 c1 c2 q1 q2=>hS.inj j c j' c' b1 c1 c2 (hne q1).2 (hne q2).2⟩⟩
     obtain⟨vj,w1,w0,w2⟩:=hS.mem j c lj x hj hx;refine⟨vj,by rw[(agree q hq).2.1];exact w1,w0, ?_⟩
     cases x with
     | d x=>exact w2
     | p c t=>exact w2
     | m l=>exact w2
     | r e2 s2 l2 =>
      by_cases hji:j=i/\c=o
      .obtain ⟨rfl,rfl⟩:=hji
       rw[hli] at hj;cases hj;rw[hlo] at hx;cases hx;rw[hv] at w1;cases w1;refine .inl ⟨id,rfl, ?_⟩
       cases hn:nl with
       | true=>simp[Gh.base,g',hn,hbc hn]
       | false=>simp[Gh.base,g',hn,(hnl hn).2.1]
      .refine .inr ⟨λ z hz=>hji (by cases hz;exact⟨rfl,rfl⟩), ?_⟩
       rcases w2 with ⟨z,hz,_⟩|⟨_,w2⟩
       .cases hz
       .unfold InRow at w2 ⊢
        dsimp only;rw[if_neg hji]
        cases hI:I j c with
        | none=>rw[hI] at w2;exact w2
        | some bc =>
         obtain⟨b2,c2⟩:=bc;rw[hI] at w2;refine⟨w2.1,⟨hq,w2.2.1, ?_⟩,w2.2.2⟩;rintro hn ⟨_,rfl⟩;exact hji (hS.inj j c i o b2 c2 cp hI (hnl hn).1)
    .rw [mo q hq hqk]
     exact hs.mem.blkMono (λ _ h=>h) (λ _ _=>rfl) (agree q hq) rfl (λ j hj=>agree j (ne j (hs.bornM q j hj))) λ _ d hx=>⟨⟨hq,hx,λ _ ⟨e,_⟩=>hqk e⟩,rfl⟩
  .by_cases hq:q=id
   .subst hq;rw[mid] at hj;simp[Blk.ids] at hj
   .by_cases hqk:q=k
    .subst hqk;rw[mk] at hj;simp[Blk.ids] at hj;subst hj;rw[mid];simp
    .rw [mo q hq hqk] at hj;exact born j (hs.bornM q j hj)
  .rcases old q d h with ⟨_,rfl,hn⟩|⟨_,h,_⟩
   .exact ⟨k,kb hn⟩
   .exact ⟨q,h⟩
  .rcases old q d h with ⟨_,rfl,hn⟩|⟨_,h,_⟩
   .exact (hs.ownS (kb hn)).2.1
   .exact (hs.ownS h).2.1
  .rcases old q d h with ⟨e1,e2,hn⟩|⟨hq,p1,hx⟩ <;> rcases old q' d h' with ⟨e3,e4,hn'⟩|⟨hq',p2,hx'⟩
   .rw [e1,e3]
   .subst e2;exact absurd ⟨hs.ownU p2 (kb hn),rfl⟩ (hx' hn)
   .subst e4;exact absurd ⟨hs.ownU p1 (kb hn'),rfl⟩ (hx hn')
   .exact hs.ownU p1 p2
  .have hq':q≠id:=hx.1
   rw[(agree q hq').1] at hx;exact hs.ownX ((alv q hq').1 hq) hx.2.1
 .have hlen:l1.length<=maxLen/\(nl=false->l1.length<=cc cp):=by
   cases hn:nl with
   | true=>rw[(hbc hn).1];simp[maxLen]
   | false =>
    obtain⟨_,_,_,cv,r1,r2,r3,r4,_⟩:=hnl hn;exact⟨by omega,λ _=>r3⟩
  have hbase:g'.base id l1.length=v:=by
   cases hn:nl with
   | true=>simp[Gh.base,g',hn,hbc hn]
   | false=>simp[Gh.base,g',hn,(hnl hn).2.1]
  rw[<- hbase];refine .rs (λ hn=>?_) (λ hn=>?_) hlen.1
  .have hn:nl=true:=by simpa [g'] using hn
   rw[(hbc hn).1];rfl
  .have hn:nl=false:=by simpa [g'] using hn
   have:g'.C id=cp:=by simp[g']
   rw[this];exact hlen.2 hn
theorem zdY {es:List (List MC)}{i o j c:Nat}{y:MC}:snAt (zbb es i o y) j c=if j=i/\c=o then (snAt es i o).map λ _=>y else snAt es j c:=by
 have e:(zbb es i o y)[j]? = (es[j]?).map λ l=>if i=j then l.set o y else l:=by
  unfold zbb;rw[List.getElem?_modify]
  cases es[j]? with
  | none=>rfl
  | some l=>by_cases h:i=j <;> simp[h]
 unfold snAt;rw[e];by_cases hj:i=j
 .subst hj
  cases hl:es[i]? with
  | none=>simp
  | some l =>
   simp only[Option.map_some,if_true,true_and];rw[List.getElem?_set];by_cases hc:o=c
   .subst hc
    by_cases ho:o<l.length
    .simp [ho]
    .simp [ho,Nat.le_of_not_lt ho]
   .rw [if_neg hc,if_neg (Ne.symm hc)]
 .rw [if_neg (λ h=>hj h.1.symm)]
  cases es[j]? <;> simp[hj]
theorem SR.settle {k z:Nat}{q:List (List MC)}{e1:TypeId}{s:Nat}{ea:Bool}(hs:SR fr nt g e m a w)(h:zjZ k z m q e1 s ea) :
  ∃ g',SR fr nt g' e (mApp [(z, .dead),(k, .sn e1 s ea none q)] m) a w:=by
 obtain⟨i,o,es,e',s',l1,l0,hm,hz,hi,hl,rfl⟩:=h;have hb:=hs.mem.blk k;rw[hm] at hb;obtain⟨li,hli,hlo⟩:=zcd hi
 obtain⟨cur,I,hS⟩:∃ cur I,SnAt g w k e1 s (some (i,o,z)) es cur I:=by
  rcases hb with ⟨_,h,_⟩|h
  .rw [h] at hli;simp at hli
  .exact h
 have hbz:=hs.mem.blk z;rw[hz] at hbz;obtain⟨v,hv,hv1,hv2⟩:=hS.mem i o li _ hli hlo
 have hkz:k≠z:=λ e=>by rw[e,hz] at hm;cases hm
 have hak:zac g m k:=by simp[zac,hm,hS.nn]
 have haz:g.N z=false->zac g m z:=λ hn=>by simp[zac,hz,hn]
 have hvb:v=g.base z l0.length:=by
  rcases hv2 with ⟨z',hz',he⟩|⟨hn,_⟩
  .cases hz';exact he
  .exact absurd rfl (hn z)
 let g':Gh:={ g with X:=λ q d=>g.X q d∨(q=k/\g.N z=false/\d=g.β z) }
 have mz:mApp [(z, .dead),(k, .sn e1 s ea none (zbb es i o (.r e' s' l1)))] m z = .dead:=by rw[za,if_pos rfl]
 have mk:mApp [(z, .dead),(k, .sn e1 s ea none (zbb es i o (.r e' s' l1)))] m k = .sn e1 s ea none (zbb es i o (.r e' s' l1)):=by rw[za,if_neg (Ne.symm hkz),za,if_pos rfl]
 have mo:∀ q,q≠z->q≠k->mApp [(z, .dead),(k, .sn e1 s ea none (zbb es i o (.r e' s' l1)))] m q=m q:=λ q h1 h2=>by rw[za,if_neg (Ne.symm h1),za,if_neg (Ne.symm h2)];rfl
 have born:∀ q,m q ≠ .unborn->mApp [(z, .dead),(k, .sn e1 s ea none (zbb es i o (.r e' s' l1)))] m q ≠ .unborn:=by
  intro q hq;by_cases hqk:q=k
  .subst hqk;rw[mk];simp
  .by_cases hqz:q=z
   .subst hqz;rw[mz];simp
   .rw [mo q hqz hqk];exact hq
 have alv:∀ q,zac g' (mApp [(z, .dead),(k, .sn e1 s ea none (zbb es i o (.r e' s' l1)))] m) q->zac g m q/\q≠z:=by
  intro q hq;by_cases hqz:q=z
  .subst hqz;unfold zac at hq;rw[mz] at hq;exact hq.elim
  .refine ⟨?_,hqz⟩
   by_cases hqk:q=k
   .subst hqk;exact hak
   .unfold zac at hq ⊢;rw[mo q hqz hqk] at hq;exact hq
 have old:∀ q d,OwnS g' (mApp [(z, .dead),(k, .sn e1 s ea none (zbb es i o (.r e' s' l1)))] m) q d->(OwnS g m q d/\q≠z)∨(q=k/\d=g.β z/\g.N z=false):=by
  rintro q d ⟨ha,hx⟩;obtain⟨ha,hqz⟩:=alv q ha
  rcases hx with hx|hx|⟨rfl,hn,rfl⟩
  .exact .inl ⟨⟨ha, .inl hx⟩,hqz⟩
  .exact .inl ⟨⟨ha, .inr hx⟩,hqz⟩
  .exact .inr ⟨rfl,rfl,hn⟩
 have zb:g.N z=false->OwnS g m z (g.β z):=λ hn=>⟨haz hn, .inl rfl⟩;refine⟨g',hs.regh (λ _ h=>h) (λ _ h=>.inl h) (λ _ _=>⟨rfl,rfl,rfl,List.prefix_rfl⟩) (λ _ _=>⟨rfl,rfl,rfl,List.prefix_rfl⟩) born (λ q=>?_) (λ q j hj=>?_) (λ q d h=>?_) (λ q d h=>?_) (λ q q' d h h' => ?_) λ q hq hx=>?_⟩
 .by_cases hqk:q=k
  .subst hqk
   rw[mk]
   have hI':∀ {j c b1 c1:Nat},(if j=i/\c=o then (if g.N z=true then none else some (g.β z,g.C z)) else I j c)=some (b1,c1)->(j=i/\c=o/\g.N z=false/\b1=g.β z)∨(¬ (j=i/\c=o)/\I j c=some (b1,c1)):=λ {j c b1 c1} h=>by
    split at h
    .rename_i hji
     split at h
     .cases h
     .rename_i hn;cases h;exact .inl ⟨hji.1,hji.2,by simpa using hn,rfl⟩
    .rename_i hji;exact .inr ⟨hji,h⟩
   have far:∀ {j c b1 c1:Nat},I j c=some (b1,c1)->g.X q b1:=λ {j c b1 c1} h=>by
    obtain⟨⟨e2,s2,l2,d1⟩,d2⟩:=hS.dom j c b1 c1 h;obtain⟨lj,hj,hc⟩:=zcd d1;obtain⟨u,_,_,u3⟩:=hS.mem j c lj _ hj hc
    rcases u3 with ⟨z',hz',_⟩|⟨_,u3⟩
    .exact absurd hz' (d2 z')
    .unfold InRow at u3;rw[h] at u3;exact u3.2.1
   refine .inr ⟨cur,λ j c=>if j=i/\c=o then (if g.N z=true then none else some (g.β z,g.C z)) else I j c,⟨hS.nn,hS.hp,hS.size,by simpa [zbb] using hS.le,λ lj hj=>?_,λ j c lj x hj hx=>?_,λ j c b1 c1 h=>⟨?_,by simp⟩,λ j c j' c' b1 c1 c2 q3 q4=>?_⟩⟩
   .obtain ⟨j,hjl,hj⟩:=List.getElem_of_mem hj
    have hj2:(zbb es i o (.r e' s' l1))[j]? = some lj:=by rw[zrg hjl,hj]
    unfold zbb at hj2;rw[List.getElem?_modify] at hj2
    cases hq0:es[j]? with
    | none=>rw[hq0] at hj2;simp at hj2
    | some l0 =>
     rw[hq0] at hj2;have h0:=hS.len l0 (zri hq0);by_cases hij:i=j
     .simp [hij] at hj2;rw[<- hj2];simpa using h0
     .simp [hij] at hj2;rw[<- hj2];exact h0
   .have hat:snAt (zbb es i o (.r e' s' l1)) j c=some x:=by unfold snAt;rw[hj];exact hx
    rw[zdY] at hat;by_cases hji:j=i/\c=o
    .rw [if_pos hji,hi] at hat
     obtain⟨rfl,rfl⟩:=hji
     cases hat
     refine⟨v,hv,hv1, .inr ⟨by simp, ?_⟩⟩;unfold InRow;dsimp only;rw[if_pos ⟨rfl,rfl⟩]
     rcases hbz with ⟨z1,z2⟩|⟨z1,z2⟩
     .rw [if_pos z1]
      refine⟨z2, ?_⟩;subst z2;rw[hvb];simp[Gh.base,z1]
     .rw [if_neg (by rw[z1];simp)]
      refine⟨?_, .inr ⟨rfl,z1,rfl⟩,z2⟩;rw[hvb,hl];simp[Gh.base,z1]
    .rw [if_neg hji] at hat
     obtain⟨lj',hj',hx'⟩:=zcd hat;obtain⟨vj,w1,w0,w2⟩:=hS.mem j c lj' x hj' hx';refine⟨vj,w1,w0, ?_⟩
     cases x with
     | d x=>exact w2
     | p c t=>exact w2
     | m l=>exact w2
     | r e2 s2 l2 =>
      refine .inr ⟨by simp, ?_⟩
      rcases w2 with ⟨z',hz',_⟩|⟨_,w2⟩
      .cases hz';exact absurd ⟨rfl,rfl⟩ hji
      .unfold InRow at w2 ⊢
       dsimp only;rw[if_neg hji]
       cases hI:I j c with
       | none=>rw[hI] at w2;exact w2
       | some bc =>
        obtain⟨b2,c2⟩:=bc;rw[hI] at w2;exact⟨w2.1, .inl w2.2.1,w2.2.2⟩
   .rw [zdY]
    rcases hI' h with ⟨h1,h2,_⟩|⟨h1,h2⟩
    .rw [if_pos ⟨h1,h2⟩,hi];exact⟨e',s',l1,rfl⟩
    .rw [if_neg h1];exact(hS.dom j c b1 c1 h2).1
   .rcases hI' q3 with ⟨a1,a2,a3,a4⟩|⟨a1,a2⟩ <;> rcases hI' q4 with ⟨d1,d2,d3,d4⟩|⟨d1,d2⟩
    .exact ⟨by rw[a1,d1],by rw[a2,d2]⟩
    .exact absurd a4.symm ((hs.mem.own q _ hak (far d2)).2.2.1 z (haz a3))
    .exact absurd d4.symm ((hs.mem.own q _ hak (far a2)).2.2.1 z (haz d3))
    .exact hS.inj j c j' c' b1 c1 c2 a2 d2
  .by_cases hqz:q=z
   .subst hqz;rw[mz];trivial
   .rw [mo q hqz hqk]
    exact hs.mem.blkMono (λ _ h=>h) (λ _ _=>rfl) ⟨rfl,rfl,rfl,List.prefix_rfl⟩ rfl (λ _ _=>⟨rfl,rfl,rfl,List.prefix_rfl⟩) λ _ d hx=>⟨.inl hx,rfl⟩
 .by_cases hqk:q=k
  .subst hqk;rw[mk] at hj;simp[Blk.ids] at hj
  .by_cases hqz:q=z
   .subst hqz;rw[mz] at hj;simp[Blk.ids] at hj
   .rw [mo q hqz hqk] at hj;exact born j (hs.bornM q j hj)
 .rcases old q d h with ⟨h,_⟩|⟨_,rfl,hn⟩
  .exact ⟨q,h⟩
  .exact ⟨z,zb hn⟩
 .rcases old q d h with ⟨h,_⟩|⟨_,rfl,hn⟩
  .exact (hs.ownS h).2.1
  .exact (hs.ownS (zb hn)).2.1
 .rcases old q d h with ⟨p1,hq⟩|⟨e1,e2,hn⟩ <;> rcases old q' d h' with ⟨p2,hq'⟩|⟨e3,e4,hn'⟩
  .exact hs.ownU p1 p2
  .subst e4;exact absurd (hs.ownU p1 (zb hn')) hq
  .subst e2;exact absurd (hs.ownU p2 (zb hn)) hq'
  .rw [e1,e3]
 .obtain ⟨ha,hqz⟩:=alv q hq
  rcases hx with hx|⟨rfl,hn,hx⟩
  .exact hs.ownX ha hx
  .exact hqz (hs.mem.inj q z ha (haz hn) hx)
theorem zkb {F:Nat->Prop}{b s cap:Nat}{t:TypeId}{es:List D}(hF:F b)(hrow:RowAt F w b t s cap es):Rd F w (.slice (some ⟨b,co cap,none⟩) es.length (cc cap)) (.sl s es):=by
 obtain⟨cur,⟨_,r1,_⟩,r2,r3,r4,r5,r6⟩:=hrow
 let f:Nat->Nat->Value:=λ i j=>(cur[co cap+(i*s+j)]?).getD undef
 have hf:∀ (i j:Nat) el d,es[i]? = some el->el.cells[j]? = some d->cur[co cap+(i*s+j)]? = some (f i j)/\(f i j).oneCell'=true/\Rd F w (f i j) d:=by
  intro i j el d hel hd;obtain⟨u,u1,u2,u3⟩:=r6 i j el d hel hd
  have:f i j=u:=by simp[f,u1]
  rw[this];exact⟨u1,u2,u3⟩
 exact .sl f rfl r3 r4 hF r5 (λ i j el d hel hd=>by rw[cell_of_row w _ _ _ _ _ r1,Nat.add_assoc];exact(hf i j el d hel hd).1)
  (λ i j el d hel hd=>(hf i j el d hel hd).2.1) λ i j el d hel hd=>(hf i j el d hel hd).2.2
def Zall (g:Gh)(m:Nat->Blk):Nat->Prop:=λ b=>g.F b ∨ ∃ k,OwnS g m k b
theorem zh9 {s:Nat}{ea:Bool}{es:List (List MC)}{l:List MC}(h:snOK s ea es)(hl:l∈es):(snD ea l).cells=l.map MC.toD:=by
 rcases h with rfl|⟨_,h⟩
 .rfl
 .have h1:=h l hl
  unfold isR1 at h1
  split at h1
  .cases ea <;> rfl
  .cases h1
theorem zqB {F:Nat->Prop}{k s:Nat}{e1:TypeId}{ea:Bool}{es:List (List MC)}{cur:Array Value}{I:Nat->Nat->Option (Nat×Nat)}(h:SnAt g w k e1 s none es cur I)(hok:snOK s ea es)(hX:∀ b,g.X k b->F b)(hF:∀ b,g.F b->F b):RowAt F w (g.β k) e1 s (g.C k) (es.map (snD ea)):=by
 refine⟨cur,h.hp,h.size,by simpa using h.le,zl6 _,λ el hel=>?_,λ j j' el d hel hd=>?_⟩
 .obtain ⟨lj,hlj,rfl⟩:=List.mem_map.1 hel
  rw[zh9 hok hlj,List.length_map];exact h.len lj hlj
 .rw [List.getElem?_map] at hel
  cases hlj:es[j]? with
  | none=>rw[hlj] at hel;cases hel
  | some lj =>
   rw[hlj] at hel;cases hel;rw[zh9 hok (zri hlj),List.getElem?_map] at hd
   cases hx:lj[j']? with
   | none=>rw[hx] at hd;cases hd
   | some x =>
    rw[hx] at hd;cases hd;obtain⟨u,hu,hu1,hu2⟩:=h.mem j j' lj x hlj hx;refine⟨u,hu,hu1, ?_⟩
    cases x with
    | d x=>exact Rd.mono hu2 hF (λ _ _=>rfl)
    | p c t=>exact hu2.elim
    | m l=>exact hu2.elim
    | r e2 s2 l2 =>
     rcases hu2 with ⟨z,hz,_⟩|⟨_,hin⟩
     .cases hz
     unfold InRow at hin
     cases hI:I j j' with
     | none =>
      rw[hI] at hin;obtain⟨rfl,rfl⟩:=hin;exact .nil (by simp[maxLen])
     | some bc =>
      obtain⟨b,cp⟩:=bc;rw[hI] at hin;obtain⟨rfl,hx',hr⟩:=hin;exact zkb (hX b hx') (hr.mono hF (λ _ _=>rfl) rfl)
theorem zk4:∀ {l:List MC} {j:Nat} {d:D},(zbr l)[j]? = some d->∃ y,l[j]? = some y/\(y = .d d∨(∃ e s q,y = .r e s q/\d = .sl s q) ∨ ∃ q,y = .m q/\d = .mp q):=by
 intro l
 induction l with
 | nil=>intro j d h;simp[zbr] at h
 | cons y r ih =>
  intro j d h
  cases y with
  | d x =>
   cases j with
   | zero=>simp[zbr] at h;subst h;exact⟨_,rfl, .inl rfl⟩
   | succ j=>obtain⟨y,h1,h2⟩:=ih (by simpa [zbr] using h);exact⟨y,by simpa using h1,h2⟩
  | r e s q =>
   cases j with
   | zero=>simp[zbr] at h;subst h;exact⟨_,rfl, .inr (.inl ⟨e,s,q,rfl,rfl⟩)⟩
   | succ j=>obtain⟨y,h1,h2⟩:=ih (by simpa [zbr] using h);exact⟨y,by simpa using h1,h2⟩
  | m q =>
   cases j with
   | zero=>simp[zbr] at h;subst h;exact⟨_,rfl, .inr (.inr ⟨q,rfl,rfl⟩)⟩
   | succ j=>obtain⟨y,h1,h2⟩:=ih (by simpa [zbr] using h);exact⟨y,by simpa using h1,h2⟩
  | _=>simp[zbr] at h
theorem zi {k i:Nat}{ks:List Nat}{es:List (D×List MC)}{arr:Array MapEntry}{cl:Nat}{M:List Nat}{I:Nat->Nat->Option (Nat×Nat)}{p:D×List MC}{F:Nat->Prop}(hfm:FamAt g w k ks es [] arr cl M I)(hp:es[i]? = some p)
  (hF:∀ q,g.F q->F q) (hX:∀ q,g.X k q->F q):Rd F w (.pointer (some ⟨M.getD i 0,0,none⟩)) (.pt (zbr p.2)):=by
 obtain⟨vs,t',g4,g5,g6⟩:=hfm.mem i p hp
 have him:i<M.length:=by rw[hfm.len];exact(zrf.1 hp).1
 have hpM:M.getD i 0∈M:=by simp[him]
 have key:∀ (j:Nat) d,(zbr p.2)[j]? = some d->∃ u,vs[j]? = some u/\u.oneCell'=true/\Rd F w u d:=by
  intro j d hd;obtain⟨y,hy,hyd⟩:=zk4 hd
  have hj:j<vs.length:=by rw[g5];exact(zrf.1 hy).1
  obtain⟨c1,c2⟩:=g6 j _ y (zrg hj) hy;refine⟨_,zrg hj,c1, ?_⟩
  rcases hyd with rfl|⟨e0,s0,l0,rfl,rfl⟩|⟨l0,rfl,rfl⟩
  .exact Rd.mono c2 hF λ _ _=>rfl
  .have c2:InRow g w k e0 s0 (I i) j l0 vs[j]:=c2
   unfold InRow at c2
   cases hI:I i j with
   | none =>
    rw[hI] at c2;obtain⟨rfl,h2⟩:=c2;rw[h2];exact .nil (by simp[maxLen])
   | some bc =>
    obtain⟨b0,cp⟩:=bc;rw[hI] at c2;obtain⟨h2,hx,hr⟩:=c2;rw[h2];exact zkb (hX b0 hx) (hr.mono hF (λ _ _=>rfl) rfl)
  .obtain ⟨b0,h1,h2,h3,ar,cl0,h4,h5,h6,h7⟩:∃ b,I i j=some (b,0)/\vs[j] = .map (some b)/\g.X k b/\MapAt g.F w b l0:=c2
   rw[h2];exact .mp (hX b0 h3) h4 h6 h5 (λ i x p hx hp=>(h7 i x p hx hp).1.mono hF λ _ _=>rfl) (λ i x p hx hp=>(h7 i x p hx hp).2.mono hF λ _ _=>rfl)
 let f:Nat->Value:=λ j=>(vs[j]?).getD undef
 have hf:∀ (j:Nat) d,(zbr p.2)[j]? = some d->vs[j]? = some (f j)/\(f j).oneCell'=true/\Rd F w (f j) d:=by
  intro j d hd;obtain⟨u,u1,u2,u3⟩:=key j d hd
  have:f j=u:=by simp[f,u1]
  rw[this];exact⟨u1,u2,u3⟩
 exact .pt f (hX _ (hfm.own _ hpM)) (λ j d hd=>by rw[cell_of_row w _ _ _ _ _ g4];simpa using (hf j d hd).1) (λ j d hd=>(hf j d hd).2.1) λ j d hd=>(hf j d hd).2.2
theorem zfa {z:Nat}{x:SV}{v:Value}{k:D->Pg}(hs:SR fr nt g e m a w)(hx:DenO g w v x)(h:Pg.lend1 z x k e m l K):∃ d l',Rd (Zall g m) w v d/\k d e m l' K:=by
 have simple:∀ (x:SV) (hx:DenO g w v x) (h:(match x.toD1 z with|some d=>k d|none=>Pg.fail) e m l K),∃ d l',Rd (Zall g m) w v d/\k d e m l' K:=by
  intro x hx h
  cases hd:x.toD1 z with
  | none=>simp only[hd] at h;exact h.elim
  | some d =>
   simp only[hd] at h
   rcases hx with hx|hx
   .subst hx;simp[SV.toD1] at hd
   .exact ⟨d,l,(zaL hx hd).mono (λ _ h=>.inl h) λ _ _=>rfl,h⟩
 cases x with
 | rs b n =>
  rcases hx with hx|hx
  .cases hx
  cases hx with
  | rs h1 h2 h3 =>
   simp only[Pg.lend1,Pg.getB,zam] at h;have hb:=hs.mem.blk b
   let g':Gh:={ g with F:=Zall g m }
   have conv:∀ {t:TypeId} {s cap:Nat} {es:List D},g.N b=false->Zall g m (g.β b)->RowAt (Zall g m) w (g.β b) t s (g.C b) es->n<=es.length->Rd (Zall g m) w (g.base b n) (.sl s (es.take n)):=by
    intro t s cap es hN hz hr hn;exact zg (g:=g') hN hz hr hn
   cases hm:m b with
   | row t s es =>
    rw[hm] at h hb;obtain⟨hn,q,rfl,h⟩:=h;refine⟨_,_, ?_,h⟩
    rcases hb with ⟨hN,hes⟩|⟨hN,hr⟩
    .subst hes
     have:n=0:=by simpa using hn
     subst this;simp[Gh.base,hN];exact .nil (by simp[maxLen])
    .exact conv (cap:=0) hN (.inr ⟨b,by simp[zac,hm,hN], .inl rfl⟩) (hr.mono (λ _ h=>.inl h) (λ _ _=>rfl) rfl) hn
   | fz t s es =>
    rw[hm] at h hb;obtain⟨hn,q,rfl,h⟩:=h;refine⟨_,_, ?_,h⟩
    rcases hb with ⟨hN,hes⟩|⟨hN,hF,hr⟩
    .subst hes
     have:n=0:=by simpa using hn
     subst this;simp[Gh.base,hN];exact .nil (by simp[maxLen])
    .exact conv (cap:=0) hN (.inl hF) (hr.mono (λ _ h=>.inl h) (λ _ _=>rfl) rfl) hn
   | sn t s ea out es =>
    rw[hm] at h hb
    cases out with
    | some p=>exact h.elim
    | none =>
     obtain⟨⟨hn,hok⟩,q,rfl,h⟩:=h;refine⟨_,_, ?_,h⟩
     rcases hb with ⟨hN,hes,_⟩|⟨cur,I,hb⟩
     .subst hes
      have:n=0:=by simpa using hn
      subst this;simp[Gh.base,hN];exact .nil (by simp[maxLen])
     .have hal:zac g m b:=by simp[zac,hm,hb.nn]
      have:=conv (cap:=0) hb.nn (.inr ⟨b,hal, .inl rfl⟩) (zqB hb hok (λ q hq=>.inr ⟨b,hal, .inr hq⟩) λ q hq=>.inl hq) (by simp[hn]);rw[List.take_of_length_le (by simp[hn])] at this;exact this
   | _=>rw[hm] at h;exact h.elim
 | po b i o =>
  unfold Pg.lend1 at h;dsimp only at h;replace h:=zaj h;obtain⟨ho,h⟩:=h;obtain rfl:=zrh ho;unfold Pg.getB at h;rw[zam] at h
  cases hm:m b with
  | fam ks es outs =>
   rw[hm] at h
   cases outs with
   | cons=>exact h.elim
   | nil =>
    obtain⟨p,hp,h⟩:=h;refine⟨_,_, ?_,h⟩
    rcases hx with hx|hx
    .cases hx
    cases hx with
    | @po _ _ _ pb hpb =>
    have hb:=hs.mem.blk b;rw[hm] at hb;obtain⟨arr,cl,M,I,hfm⟩:=hb;rw[hfm.Mk] at hpb
    have hMb:M.getD i 0=pb:=by simp[List.getD_eq_getElem?_getD,hpb]
    have hal:zac g m b:=by simp[zac,hm]
    rw[<- hMb];exact zi hfm hp (λ _ h=>.inl h) λ q hq=>.inr ⟨b,hal, .inr hq⟩
  | _=>rw[hm] at h;exact h.elim
 | _=>exact simple _ hx h
theorem zez {xs:List SV}:∀ {vs:List Value} {k:List D->Pg} {l:List Loc} {zs:List Nat},SR fr nt g e m a w->xs.length=vs.length->(∀ (i:Nat) v x,vs[i]? = some v->xs[i]? = some x->DenO g w v x)->Pg.lends1 zs xs k e m l K ->
  ∃ ds l',vs.length=ds.length/\(∀ (i:Nat) v d,vs[i]? = some v->ds[i]? = some d->Rd (Zall g m) w v d)/\k ds e m l' K:=by
 induction xs with
 | nil =>
  intro vs k l zs hs hl hx h
  cases vs with
  | nil=>exact⟨[],l,rfl,by simp,h⟩
  | cons=>simp at hl
 | cons x xs ih =>
  intro vs k l zs hs hl hx h
  cases vs with
  | nil=>simp at hl
  | cons v vs =>
   obtain⟨d,l1,hr,h1⟩:=zfa hs (hx 0 v x rfl rfl) h;obtain⟨ds,l2,hl2,hr2,h2⟩:=ih (vs:=vs) hs (by simpa using hl) (λ i v x hv hx' => hx (i+1) v x (by simpa using hv) (by simpa using hx')) h1;refine⟨d::ds,l2,by simp[hl2],λ i v' d' hv hd=>?_,h2⟩
   cases i with
   | zero=>simp at hv hd;subst hv hd;exact hr
   | succ i=>exact hr2 i v' d' (by simpa using hv) (by simpa using hd)
theorem zk5 {csz:List Nat}{x:SV}{v:Value}{k:D->Pg}(hs:SR fr nt g e m a w)(hx:DenO g w v x)(h:Pg.lend csz x k e m l K):∃ d l',Rd (Zall g m) w v d/\k d e m l' K:=by
 cases x with
 | agg lc =>
  rcases hx with hx|hx
  .cases hx
  cases hx with
  | @agg vs _ hl ho hc =>
   obtain⟨ds,l',h4,h5,h6⟩:=zez (vs:=vs) (k:=λ ds=>k (.agg ds)) hs hl.symm (λ i v x hv hx=>.inr (hc i v x hv hx)) h;refine⟨_,l', .agg h4 (λ i u d hu hd=>?_) h5,h6⟩
   have hi':i<lc.length:=by rw[<- hl];exact(zrf.1 hu).1
   exact ho i u _ hu (zrg hi')
 | ptr b o =>
  unfold Pg.lend at h;dsimp only at h;replace h:=zaj h;obtain⟨ho,h⟩:=h;obtain rfl:=zrh ho;unfold Pg.getB at h;rw[zam] at h
  cases hm:m b with
  | box lb =>
   rw[hm] at h
   rcases hx with hx|hx
   .cases hx
   cases hx
   have hb:=hs.mem.blk b;rw[hm] at hb;obtain⟨vs,t,b1,b2,b3,b4⟩:=hb
   have hal:zac g m b:=by simp[zac,hm]
   obtain⟨ds,l',h4,h5,h6⟩:=zez (vs:=vs) (k:=λ ds=>k (.pt ds)) hs b2.symm (λ i v x hv hx=>.inr (b3 i v x hv hx).2) h;refine⟨_,l', .pt (λ j=>(vs[j]?).getD undef) (.inr ⟨b,hal, .inl rfl⟩) (λ j d hd=>?_) (λ j d hd=>?_) λ j d hd=>?_,h6⟩
   all_goals
    have hj:j<vs.length:=by rw[h4];exact(zrf.1 hd).1
    have hv:vs[j]? = some vs[j]:=zrg hj;have hl:lb[j]? = some lb[j]:=zrg (b2 ▸ hj)
    have hv':vs.toArray[0+j]? = some vs[j]:=by simpa using hv
   .rw [cell_of_row w _ _ _ _ _ b1,hv',hv];rfl
   .rw [hv];exact(b3 j _ _ hv hl).1
   .rw [hv];exact h5 j _ d hv hd
  | _=>rw[hm] at h;exact h.elim
 | _=>exact zfa (l:=l) (z:=csz.headD 0) hs hx h
theorem zj {xs:List SV}:∀ {vs:List Value} {k:List D->Pg} {l:List Loc} {zs:List (List Nat)},SR fr nt g e m a w->xs.length=vs.length->(∀ (i:Nat) v x,vs[i]? = some v->xs[i]? = some x->DenO g w v x)->Pg.lends zs xs k e m l K ->
  ∃ ds l',vs.length=ds.length/\(∀ (i:Nat) v d,vs[i]? = some v->ds[i]? = some d->Rd (Zall g m) w v d)/\k ds e m l' K:=by
 induction xs with
 | nil =>
  intro vs k l zs hs hl hx h
  cases vs with
  | nil=>exact⟨[],l,rfl,by simp,h⟩
  | cons=>simp at hl
 | cons x xs ih =>
  intro vs k l zs hs hl hx h
  cases vs with
  | nil=>simp at hl
  | cons v vs =>
   obtain⟨d,l1,hr,h1⟩:=zk5 hs (hx 0 v x rfl rfl) h;obtain⟨ds,l2,hl2,hr2,h2⟩:=ih (vs:=vs) hs (by simpa using hl) (λ i v x hv hx' => hx (i+1) v x (by simpa using hv) (by simpa using hx')) h1;refine⟨d::ds,l2,by simp[hl2],λ i v' d' hv hd=>?_,h2⟩
   cases i with
   | zero=>simp at hv hd;subst hv hd;exact hr
   | succ i=>exact hr2 i v' d' (by simpa using hv) (by simpa using hd)
theorem znX {F F':Nat->Prop}{v:Value}{d:D}(hd:d.plain=true)(h:Rd F w v d):Rd F' w v d:=by
 cases h with
 | v hp=>exact .v hp
 | _=>simp[D.plain] at hd
theorem zkc {F F':Nat->Prop}{v:Value}{d:D}(hd:d.flat1=true)(h:Rd F w v d):Rd F' w v d:=by
 cases h with
 | v hp=>exact .v hp
 | agg h1 h2 h3=>exact .agg h1 h2 λ i u d hu hd' => znX (List.all_eq_true.1 hd d (zri hd')) (h3 i u d hu hd')
 | _=>simp[D.flat1] at hd
theorem zpt {F F':Nat->Prop}{v:Value}{d:D}(hd:d.flatB=true)(h:Rd F w v d):Rd F' w v d:=by
 cases h with
 | tup h1 h2=>exact .tup h1 λ i u d hu hd' => zkc (List.all_eq_true.1 hd d (zri hd')) (h2 i u d hu hd')
 | v hp=>exact .v hp
 | agg h1 h2 h3=>exact zkc (F:=F) hd (.agg h1 h2 h3)
 | _=>simp[D.flatB,D.flat1] at hd
theorem SR.freezeN {k s:Nat}{e1:TypeId}{ea:Bool}{es:List (List MC)}(hs:SR fr nt g e m a w)(hm:m k = .sn e1 s ea none es)(hok:snOK s ea es) :
  ∃ g',SR fr nt g' e (mApp [(k, .fz e1 s (es.map (snD ea)))] m) a w/\(∀ b,g.F b->g'.F b)/\g'.β=g.β/\g'.C=g.C/\g'.N=g.N/\g'.M=g.M:=by
 have hb:=hs.mem.blk k;rw[hm] at hb
 let g':Gh:={ g with F:=λ b=>g.F b∨OwnS g m k b }
 have hFF:∀ b,g.F b->g'.F b:=λ b hb=>.inl hb
 have mk:mApp [(k, .fz e1 s (es.map (snD ea)))] m k = .fz e1 s (es.map (snD ea)):=by rw[za,if_pos rfl]
 have mo:∀ q,q≠k->mApp [(k, .fz e1 s (es.map (snD ea)))] m q=m q:=λ q h1=>by rw[za,if_neg (Ne.symm h1)];rfl
 have born:∀ q,m q ≠ .unborn->mApp [(k, .fz e1 s (es.map (snD ea)))] m q ≠ .unborn:=by
  intro q hq;by_cases hqk:q=k
  .subst hqk;rw[mk];simp
  .rw [mo q hqk];exact hq
 have alv:∀ q,zac g' (mApp [(k, .fz e1 s (es.map (snD ea)))] m) q->zac g m q/\q≠k:=by
  intro q hq;by_cases hqk:q=k
  .subst hqk;unfold zac at hq;rw[mk] at hq;exact hq.elim
  .unfold zac at hq;rw[mo q hqk] at hq;exact⟨hq,hqk⟩
 have old:∀ q d,OwnS g' (mApp [(k, .fz e1 s (es.map (snD ea)))] m) q d->OwnS g m q d/\q≠k:=by
  rintro q d ⟨ha,hx⟩;exact⟨⟨(alv q ha).1,hx⟩,(alv q ha).2⟩
 refine⟨g',hs.regh hFF (λ b hb=>?_) (λ _ _=>⟨rfl,rfl,rfl,List.prefix_rfl⟩) (λ _ _=>⟨rfl,rfl,rfl,List.prefix_rfl⟩) born (λ q=>?_) (λ q j hj=>?_) (λ q d h=>⟨q,(old q d h).1⟩) (λ q d h hf=>?_) (λ q q' d h h' => hs.ownU (old q d h).1 (old q' d h').1) (λ q hq=>hs.ownX (alv q hq).1),hFF,rfl,rfl,rfl,rfl⟩
 .rcases hb with hb|hb
  .exact .inl hb
  .exact .inr ⟨k,hb⟩
 .by_cases hqk:q=k
  .subst hqk
   rw[mk]
   rcases hb with ⟨hN,hes,_⟩|⟨cur,I,hb⟩
   .exact .inl ⟨hN,by rw[hes];rfl⟩
   .have hal:zac g m q:=by simp[zac,hm,hb.nn]
    have hr:=zqB (F:=g'.F) hb hok (λ b hx=>.inr ⟨hal, .inr hx⟩) hFF;exact .inr ⟨hb.nn, .inr ⟨hal, .inl rfl⟩,hr⟩
  .rw [mo q hqk]
   exact hs.mem.blkMono hFF (λ _ _=>rfl) ⟨rfl,rfl,rfl,List.prefix_rfl⟩ rfl (λ _ _=>⟨rfl,rfl,rfl,List.prefix_rfl⟩) λ _ d hx=>⟨hx,rfl⟩
 .by_cases hqk:q=k
  .subst hqk;rw[mk] at hj;simp[Blk.ids] at hj
  .rw [mo q hqk] at hj;exact born j (hs.bornM q j hj)
 .obtain ⟨ho,hqk⟩:=old q d h
  rcases hf with hf|hf
  .exact (hs.ownS ho).2.1 hf
  .exact hqk (hs.ownU ho hf)
theorem SR.freezeF {k t:Nat}{ks:List Nat}{es:List (D×List MC)}(hs:SR fr nt g e m a w)(hm:m k = .fam ks es [])(ht:e t = .mp k) :
  ∃ g',SR fr nt g' (eApp (some t) (.dat (.mp (famD es))) e) (mApp [(k, .dead)] m) a w:=by
 have hb:=hs.mem.blk k;rw[hm] at hb;obtain⟨arr,cl,M,I,hfm⟩:=hb
 have hak:zac g m k:=by simp[zac,hm]
 let g':Gh:={ g with F:=λ b=>g.F b∨b=g.β k∨g.X k b }
 have hFF:∀ b,g.F b->g'.F b:=λ b hb=>.inl hb
 have mk:mApp [(k, .dead)] m k = .dead:=by rw[za,if_pos rfl]
 have mo:∀ q,q≠k->mApp [(k, .dead)] m q=m q:=λ q h1=>by rw[za,if_neg (Ne.symm h1)];rfl
 have born:∀ q,m q ≠ .unborn->mApp [(k, .dead)] m q ≠ .unborn:=by
  intro q hq;by_cases hqk:q=k
  .subst hqk;rw[mk];simp
  .rw [mo q hqk];exact hq
 have alv:∀ q,zac g' (mApp [(k, .dead)] m) q->zac g m q/\q≠k:=by
  intro q hq;by_cases hqk:q=k
  .subst hqk;unfold zac at hq;rw[mk] at hq;exact hq.elim
  .unfold zac at hq;rw[mo q hqk] at hq;exact⟨hq,hqk⟩
 have old:∀ q d,OwnS g' (mApp [(k, .dead)] m) q d->OwnS g m q d/\q≠k:=by
  rintro q d ⟨ha,hx⟩;exact⟨⟨(alv q ha).1,hx⟩,(alv q ha).2⟩
 have h1:SR fr nt g' e (mApp [(k, .dead)] m) a w:=by
  refine hs.regh hFF (λ b hb=>?_) (λ _ _=>⟨rfl,rfl,rfl,List.prefix_rfl⟩) (λ _ _=>⟨rfl,rfl,rfl,List.prefix_rfl⟩) born (λ q=>?_) (λ q j hj=>?_) (λ q d h=>⟨q,(old q d h).1⟩) (λ q d h hf=>?_) (λ q q' d h h' => hs.ownU (old q d h).1 (old q' d h').1) (λ q hq=>hs.ownX (alv q hq).1)
  .rcases hb with hb|hb|hb
   .exact .inl hb
   .exact .inr ⟨k,hak, .inl hb.symm⟩
   .exact .inr ⟨k,hak, .inr hb⟩
  .by_cases hqk:q=k
   .subst hqk;rw[mk];trivial
   .rw [mo q hqk]
    exact hs.mem.blkMono hFF (λ _ _=>rfl) ⟨rfl,rfl,rfl,List.prefix_rfl⟩ rfl (λ _ _=>⟨rfl,rfl,rfl,List.prefix_rfl⟩) λ _ d hx=>⟨hx,rfl⟩
  .by_cases hqk:q=k
   .subst hqk;rw[mk] at hj;simp[Blk.ids] at hj
   .rw [mo q hqk] at hj;exact born j (hs.bornM q j hj)
  .obtain ⟨ho,hqk⟩:=old q d h
   rcases hf with hf|rfl|hf
   .exact (hs.ownS ho).2.1 hf
   .exact hqk (hs.ownU ho ⟨hak, .inl rfl⟩)
   .exact hqk (hs.ownU ho ⟨hak, .inr hf⟩)
 refine⟨g',{ h1 with env:=λ q=>?_,bornE:=λ q j hj=>?_ }⟩
 .by_cases hq:q=t
  .subst hq
   rcases hs.env q with h|⟨v,v1,v2⟩
   .rw [ht] at h;cases h
   .rw [ht] at v2
    refine .inr ⟨v,v1, ?_⟩
    have:eApp (some q) (.dat (.mp (famD es))) e q = .dat (.mp (famD es)):=by simp[eApp]
    rw[this]
    cases v2 with
    | mp =>
     have fget:∀ (i:Nat) p,(famD es)[i]? = some p->∃ p',es[i]? = some p'/\p=(p'.1, .pt (zbr p'.2)):=λ i p hp=>by
      unfold famD at hp;rw[List.getElem?_map] at hp
      cases he:es[i]? with
      | none=>rw[he] at hp;cases hp
      | some p' => rw[he] at hp;exact⟨p',rfl,(Option.some.inj hp).symm⟩
     refine .dat (.mp (.inr (.inl rfl)) hfm.hp hfm.keys (by rw[hfm.size];simp[famD]) (λ i x p hx hp=>?_) λ i x p hx hp=>?_)
     .obtain ⟨p',h3,rfl⟩:=fget i p hp
      exact(hfm.ent i x p' hx h3).1.mono hFF λ _ _=>rfl
     .obtain ⟨p',h3,rfl⟩:=fget i p hp
      rw[(hfm.ent i x p' hx h3).2];exact zi hfm h3 hFF λ q hq=>.inr (.inr hq)
  .have:eApp (some t) (.dat (.mp (famD es))) e q=e q:=by simp[eApp,beqF (Ne.symm hq)]
   rw[this];exact h1.env q
 .by_cases hq:q=t
  .subst hq
   have:eApp (some q) (.dat (.mp (famD es))) e q = .dat (.mp (famD es)):=by simp[eApp]
   rw[this] at hj;simp[SV.ids] at hj
  .have:eApp (some t) (.dat (.mp (famD es))) e q=e q:=by simp[eApp,beqF (Ne.symm hq)]
   rw[this] at hj;exact h1.bornE q j hj
end
end Go.Vc
namespace Go.Vc
open Go.RowKit
section
variable {P:Program} {fr:Fr} {nt:Nat} {g:Gh} {e:Nat->SV} {m:Nat->Blk} {a:Act} {w:World}
theorem SR.takeR {k id i o:Nat}{ks:List Nat}{es:List (D×List MC)}{outs:List (Nat×Nat×Nat)}{e':TypeId}{s':Nat}{l1:List D}(hs:SR fr nt g e m a w)(hm:m k = .fam ks es outs)(hx:mcAt es i o=some (.r e' s' l1))(hno:¬ zeH outs i o)(hid:fr.p<=id/\m id = .unborn) :
  ∃ g' b0 v,(g.M k)[i]? = some b0/\w.cell? ⟨b0,o,none⟩=some v/\SR fr nt g' e (mApp [(id, .row e' s' l1),(k, .fam ks es ((i,o,id)::outs))] m) a w/\DenO g' w v (.rs id l1.length)/\g'.F=g.F/\∀ q,m q ≠ .unborn->g'.β q=g.β q/\g'.C q=g.C q/\g'.N q=g.N q/\g.M q <+: g'.M q:=by
 have hb:=hs.mem.blk k;rw[hm] at hb;obtain⟨arr,cl,M,I,hfm⟩:=hb;obtain⟨q0,vs,t,v,a1,a2,a3,a4,a5,a6,a7,hin,hMi,hcell⟩:=hfm.at' hx
 have hoo:zaD outs i o=none:=by
  cases hz:zaD outs i o with
  | none=>rfl
  | some z =>
   obtain⟨⟨x1,x2,x3⟩,hx1,hx2,hx3,hx4⟩:=zbK hz;dsimp only at hx2 hx3 hx4;subst hx2 hx3 hx4;exact absurd ⟨_,hx1⟩ hno
 simp only[CellAt,hoo] at hin
 have hkid:k≠id:=λ e=>by rw[e,hid.2] at hm;cases hm
 have hak:zac g m k:=by simp[zac,hm]
 have hil:i<es.length:=(zrf.1 a1).1
 obtain⟨b,cp,nl,hbc,hnl⟩:∃ b cp nl,(nl=true->l1=[]/\v = .slice none 0 0)/\(nl=false->I i o=some (b,cp)/\v = .slice (some ⟨b,co cp,none⟩) l1.length (cc cp)/\g.X k b/\RowAt g.F w b e' s' cp l1):=by
  unfold InRow at hin
  cases hI:I i o with
  | none=>rw[hI] at hin;exact⟨0,0,true,λ _=>hin,by simp⟩
  | some bc=>obtain⟨b,cp⟩:=bc;rw[hI] at hin;exact⟨b,cp,false,by simp,λ _=>⟨rfl,hin⟩⟩
 let g':Gh:={ β:=λ q=>if q=id then b else g.β q,C:=λ q=>if q=id then cp else g.C q,N:=λ q=>if q=id then nl else g.N q,M:=λ q=>if q=id then [] else g.M q,F:=g.F,X:=λ q d=>q≠id/\g.X q d/\(nl=false->¬ (q=k/\d=b)) }
 have agree:∀ q,q≠id->g'.β q=g.β q/\g'.C q=g.C q/\g'.N q=g.N q/\g.M q <+: g'.M q:=λ q hq=>by simp[g',hq]
 have agM:∀ q,q≠id->g'.M q=g.M q:=λ q hq=>if_neg hq;have ne:∀ q,m q ≠ .unborn->q≠id:=λ q hq e=>hq (e ▸ hid.2)
 have mid:(mApp [(id, .row e' s' l1),(k, .fam ks es ((i,o,id)::outs))] m) id = .row e' s' l1:=by rw[za,if_pos rfl]
 have mk:(mApp [(id, .row e' s' l1),(k, .fam ks es ((i,o,id)::outs))] m) k = .fam ks es ((i,o,id)::outs):=by rw[za,if_neg (Ne.symm hkid),za,if_pos rfl]
 have mo:∀ q,q≠id->q≠k->(mApp [(id, .row e' s' l1),(k, .fam ks es ((i,o,id)::outs))] m) q=m q:=λ q h1 h2=>by rw[za,if_neg (Ne.symm h1),za,if_neg (Ne.symm h2)];rfl
 have born:∀ q,m q ≠ .unborn->(mApp [(id, .row e' s' l1),(k, .fam ks es ((i,o,id)::outs))] m) q ≠ .unborn:=by
  intro q hq;by_cases hqk:q=k
  .subst hqk;rw[mk];simp
  .rw [mo q (ne q hq) hqk];exact hq
 have alv:∀ q,q≠id->(zac g' (mApp [(id, .row e' s' l1),(k, .fam ks es ((i,o,id)::outs))] m) q ↔ zac g m q):=by
  intro q hq;by_cases hqk:q=k
  .subst hqk;unfold zac;rw[mk,hm]
  .unfold zac;rw[mo q hq hqk,(agree q hq).2.2.1]
 have alvid:zac g' (mApp [(id, .row e' s' l1),(k, .fam ks es ((i,o,id)::outs))] m) id->nl=false:=by
  intro h;unfold zac at h;rw[mid] at h;simpa [g'] using h
 have old:∀ q d,OwnS g' (mApp [(id, .row e' s' l1),(k, .fam ks es ((i,o,id)::outs))] m) q d->(q=id/\d=b/\nl=false)∨(q≠id/\OwnS g m q d/\(nl=false->¬ (q=k/\d=b))):=by
  rintro q d ⟨ha,hx⟩;by_cases hq:q=id
  .subst hq
   rcases hx with hx|hx
   .exact .inl ⟨rfl,by rw[<- hx];simp[g'],alvid ha⟩
   .exact absurd rfl hx.1
  .refine .inr ⟨hq, ?_⟩
   have ha':=(alv q hq).1 ha
   rcases hx with hx|hx
   .rw [(agree q hq).1] at hx
    refine⟨⟨ha', .inl hx⟩, ?_⟩;rintro hn ⟨rfl,rfl⟩;exact(hs.mem.own q d ha' (hnl hn).2.2.1).2.2.1 q ha' hx
   .exact ⟨⟨ha', .inr hx.2.1⟩,hx.2.2⟩
 have kb:nl=false->OwnS g m k b:=λ hn=>⟨hak, .inr (hnl hn).2.2.1⟩
 have far:∀ i' o' b2 c2,I i' o'=some (b2,c2)->¬ (i'=i/\o'=o)->nl=false->b2≠b:=by
  rintro i' o' b2 c2 h1 h2 hn rfl;exact h2 (hfm.inj i' o' i o b2 c2 cp h1 (hnl hn).1)
 let I':Nat->Nat->Option (Nat×Nat):=λ i' o' => if i'=i/\o'=o then none else I i' o'
 have I'e:∀ i' o' x,I' i' o'=some x->¬ (i'=i/\o'=o)/\I i' o'=some x:=by
  intro i' o' x h;simp only[I'] at h
  split at h
  .cases h
  .rename_i hh;exact⟨hh,h⟩
 have hfam:FamAt g' w k ks es ((i,o,id)::outs) arr cl M I':=by
  refine⟨by rw[(agree k hkid).1];exact hfm.hp,by rw[agM k hkid];exact hfm.Mk,hfm.len,hfm.size,hfm.keys,hfm.nodup,λ b2 hb2=>⟨hkid,hfm.own b2 hb2, ?_⟩,hfm.ent,λ j p hp=>?_,λ i' o' b2 c2 h=>hfm.sep i' o' b2 c2 (I'e i' o' _ h).2,λ i1 o1 i2 o2 b2 c1 c2 h1 h2=>hfm.inj i1 o1 i2 o2 b2 c1 c2 (I'e i1 o1 _ h1).2 (I'e i2 o2 _ h2).2,λ i' o' b2 c2 h=>⟨hkid,hfm.iown i' o' b2 c2 (I'e i' o' _ h).2, ?_⟩,λ x hx=>?_⟩
  .rintro hn ⟨_,rfl⟩
   exact hfm.sep i o b2 cp (hnl hn).1 hb2
  .obtain ⟨vs',t',h1,h2,h3⟩:=hfm.mem j p hp
   refine⟨vs',t',h1,h2,λ c u x hu hx=>⟨(h3 c u x hu hx).1, ?_⟩⟩;by_cases he:j=i/\c=o
   .obtain ⟨rfl,rfl⟩:=he
    have hxx:x = .r e' s' l1:=by
     rw[a1] at hp;cases hp;rw[a2] at hx;cases hx;rfl
    subst hxx
    have huv:u=v:=by
     rw[a4] at h1
     have:vs=vs':=by
      have:=h1;simp only[Option.some.injEq,Obj.cells.injEq,List.toArray_inj] at this;simpa using this.1
     subst this;rw[a6] at hu;cases hu;rfl
    subst huv
    have ho':zaD ((j,c,id)::outs) j c=some id:=by simp[zaD]
    simp only[CellAt,ho'];show u=g'.base id l1.length
    cases hn:nl with
    | true=>simp[Gh.base,g',hn,hbc hn]
    | false=>simp[Gh.base,g',hn,(hnl hn).2.1]
   .have ho':zaD ((i,o,id)::outs) j c=zaD outs j c:=by
     unfold zaD;rw[List.find?_cons_of_neg];simp only[zrk,beq_iff_eq];rintro⟨h1,h2⟩;exact he ⟨h1.symm,h2.symm⟩
    have hI':I' j c=I j c:=if_neg he;have hc:=(h3 c u x hu hx).2.mono (g':=g') (w':=w) (λ _ h=>h) (λ _ _=>rfl) (λ z hz=>agree z (ne z (hs.bornM k z (by rw[hm];simpa [Blk.ids] using hz)))) λ b2 c2 hI hX=>⟨⟨hkid,hX,λ hn ⟨_,e⟩=>far j c b2 c2 hI he hn e⟩,rfl⟩
    cases x with
    | d _=>exact hc
    | p k' tt=>cases tt <;> exact hc
    | r e2 s2 l2 =>
     simp only[CellAt,ho'] at hc ⊢
     cases hz:zaD outs j c <;> rw[hz] at hc
     .show InRow g' w k e2 s2 (I' j) c l2 u
      have hc:InRow g' w k e2 s2 (I j) c l2 u:=hc;unfold InRow at hc ⊢;rw[hI'];exact hc
     .exact hc
    | m l2 =>
     simp only[CellAt,ho'] at hc ⊢
     cases hz:zaD outs j c <;> rw[hz] at hc
     .rw [hI'];exact hc
     .exact hc
  .rintro hn ⟨_,rfl⟩
   exact far i' o' b2 c2 (I'e i' o' _ h).2 (I'e i' o' _ h).1 hn rfl
  .rcases List.mem_cons.1 hx with rfl|hx
   .exact hil
   .exact hfm.olt x hx
 refine⟨g',M.getD i 0,v,hMi,hcell, ?_, .inr ?_,rfl,λ q hq=>agree q (ne q hq)⟩
 .refine hs.regh (λ _ h=>h) (λ _ h=>.inl h) (λ q hq=>agree q (ne q hq)) (λ q hq=>agree q (by have:=hid.1;omega)) born (λ q=>?_) (λ q j hj=>?_) (λ q d h=>?_) (λ q d h=>?_) (λ q q' d h h' => ?_) λ q hq hx=>?_
  .by_cases hq:q=id
   .subst hq
    rw[mid]
    cases hn:nl with
    | true=>exact .inl ⟨by simp[g',hn],(hbc hn).1⟩
    | false =>
     refine .inr ⟨by simp[g',hn], ?_⟩
     have:g'.β q=b/\g'.C q=cp:=by simp[g']
     rw[this.1,this.2];exact(hnl hn).2.2.2
   .by_cases hqk:q=k
    .subst hqk
     rw[mk];exact⟨_,_,_,_,hfam⟩
    .rw [mo q hq hqk]
     exact hs.mem.blkMono (λ _ h=>h) (λ _ _=>rfl) (agree q hq) rfl (λ j hj=>agree j (ne j (hs.bornM q j hj))) (λ _ d hx=>⟨⟨hq,hx,λ _ ⟨e,_⟩=>hqk e⟩,rfl⟩) (agM q hq)
  .by_cases hq:q=id
   .subst hq;rw[mid] at hj;simp[Blk.ids] at hj
   .by_cases hqk:q=k
    .subst hqk
     rw[mk] at hj;simp only[Blk.ids,List.map_cons,List.cons_append,List.mem_cons] at hj
     rcases hj with rfl|hj
     .rw [mid];simp
     .exact born j (hs.bornM q j (by rw[hm];simpa [Blk.ids] using hj))
    .rw [mo q hq hqk] at hj;exact born j (hs.bornM q j hj)
  .rcases old q d h with ⟨_,rfl,hn⟩|⟨_,h,_⟩
   .exact ⟨k,kb hn⟩
   .exact ⟨q,h⟩
  .rcases old q d h with ⟨_,rfl,hn⟩|⟨_,h,_⟩
   .exact (hs.ownS (kb hn)).2.1
   .exact (hs.ownS h).2.1
  .rcases old q d h with ⟨e1,e2,hn⟩|⟨hq,p1,hx⟩ <;> rcases old q' d h' with ⟨e3,e4,hn'⟩|⟨hq',p2,hx'⟩
   .rw [e1,e3]
   .subst e2;exact absurd ⟨hs.ownU p2 (kb hn),rfl⟩ (hx' hn)
   .subst e4;exact absurd ⟨hs.ownU p1 (kb hn'),rfl⟩ (hx hn')
   .exact hs.ownU p1 p2
  .have hq':q≠id:=hx.1
   rw[(agree q hq').1] at hx;exact hs.ownX ((alv q hq').1 hq) hx.2.1
 .have hlen:l1.length<=maxLen/\(nl=false->l1.length<=cc cp):=by
   cases hn:nl with
   | true=>rw[(hbc hn).1];simp[maxLen]
   | false =>
    obtain⟨_,_,_,cv,r1,r2,r3,r4,_⟩:=hnl hn;exact⟨by omega,λ _=>r3⟩
  have hbase:g'.base id l1.length=v:=by
   cases hn:nl with
   | true=>simp[Gh.base,g',hn,hbc hn]
   | false=>simp[Gh.base,g',hn,(hnl hn).2.1]
  rw[<- hbase];refine .rs (λ hn=>?_) (λ hn=>?_) hlen.1
  .have hn:nl=true:=by simpa [g'] using hn
   rw[(hbc hn).1];rfl
  .have hn:nl=false:=by simpa [g'] using hn
   have:g'.C id=cp:=by simp[g']
   rw[this];exact hlen.2 hn
theorem SR.takeM {k id i o:Nat}{ks:List Nat}{es:List (D×List MC)}{outs:List (Nat×Nat×Nat)}{l1:List (D×D)}(hs:SR fr nt g e m a w)(hm:m k = .fam ks es outs)(hx:mcAt es i o=some (.m l1))(hno:¬ zeH outs i o)(hid:fr.p<=id/\m id = .unborn) :
  ∃ g' b0 v,(g.M k)[i]? = some b0/\w.cell? ⟨b0,o,none⟩=some v/\SR fr nt g' e (mApp [(id, .mp l1),(k, .fam ks es ((i,o,id)::outs))] m) a w/\DenO g' w v (.mp id):=by
 have hb:=hs.mem.blk k;rw[hm] at hb;obtain⟨arr,cl,M,I,hfm⟩:=hb;obtain⟨q0,vs,t,v,a1,a2,a3,a4,a5,a6,a7,hin,hMi,hcell⟩:=hfm.at' hx
 have hoo:zaD outs i o=none:=by
  cases hz:zaD outs i o with
  | none=>rfl
  | some z =>
   obtain⟨⟨x1,x2,x3⟩,hx1,hx2,hx3,hx4⟩:=zbK hz;dsimp only at hx2 hx3 hx4;subst hx2 hx3 hx4;exact absurd ⟨_,hx1⟩ hno
 simp only[CellAt,hoo] at hin
 have hkid:k≠id:=λ e=>by rw[e,hid.2] at hm;cases hm
 have hak:zac g m k:=by simp[zac,hm]
 have hil:i<es.length:=(zrf.1 a1).1
 obtain⟨b,cp,nl,hnf,hnl⟩:∃ (b cp:Nat) (nl:Bool),nl=false/\(nl=false->I i o=some (b,cp)/\v = .map (some b)/\g.X k b/\MapAt g.F w b l1):=by
  obtain⟨b,h1,h2,h3,h4⟩:=hin;exact⟨b,0,false,rfl,λ _=>⟨h1,h2,h3,h4⟩⟩
 let g':Gh:={ β:=λ q=>if q=id then b else g.β q,C:=λ q=>if q=id then cp else g.C q,N:=λ q=>if q=id then nl else g.N q,M:=λ q=>if q=id then [] else g.M q,F:=g.F,X:=λ q d=>q≠id/\g.X q d/\(nl=false->¬ (q=k/\d=b)) }
 have agree:∀ q,q≠id->g'.β q=g.β q/\g'.C q=g.C q/\g'.N q=g.N q/\g.M q <+: g'.M q:=λ q hq=>by simp[g',hq]
 have agM:∀ q,q≠id->g'.M q=g.M q:=λ q hq=>if_neg hq;have ne:∀ q,m q ≠ .unborn->q≠id:=λ q hq e=>hq (e ▸ hid.2)
 have mid:(mApp [(id, .mp l1),(k, .fam ks es ((i,o,id)::outs))] m) id = .mp l1:=by rw[za,if_pos rfl]
 have mk:(mApp [(id, .mp l1),(k, .fam ks es ((i,o,id)::outs))] m) k = .fam ks es ((i,o,id)::outs):=by rw[za,if_neg (Ne.symm hkid),za,if_pos rfl]
 have mo:∀ q,q≠id->q≠k->(mApp [(id, .mp l1),(k, .fam ks es ((i,o,id)::outs))] m) q=m q:=λ q h1 h2=>by rw[za,if_neg (Ne.symm h1),za,if_neg (Ne.symm h2)];rfl
 have born:∀ q,m q ≠ .unborn->(mApp [(id, .mp l1),(k, .fam ks es ((i,o,id)::outs))] m) q ≠ .unborn:=by
  intro q hq;by_cases hqk:q=k
  .subst hqk;rw[mk];simp
  .rw [mo q (ne q hq) hqk];exact hq
 have alv:∀ q,q≠id->(zac g' (mApp [(id, .mp l1),(k, .fam ks es ((i,o,id)::outs))] m) q ↔ zac g m q):=by
  intro q hq;by_cases hqk:q=k
  .subst hqk;unfold zac;rw[mk,hm]
  .unfold zac;rw[mo q hq hqk,(agree q hq).2.2.1]
 have alvid:zac g' (mApp [(id, .mp l1),(k, .fam ks es ((i,o,id)::outs))] m) id->nl=false:=λ _=>hnf
 have old:∀ q d,OwnS g' (mApp [(id, .mp l1),(k, .fam ks es ((i,o,id)::outs))] m) q d->(q=id/\d=b/\nl=false)∨(q≠id/\OwnS g m q d/\(nl=false->¬ (q=k/\d=b))):=by
  rintro q d ⟨ha,hx⟩;by_cases hq:q=id
  .subst hq
   rcases hx with hx|hx
   .exact .inl ⟨rfl,by rw[<- hx];simp[g'],alvid ha⟩
   .exact absurd rfl hx.1
  .refine .inr ⟨hq, ?_⟩
   have ha':=(alv q hq).1 ha
   rcases hx with hx|hx
   .rw [(agree q hq).1] at hx
    refine⟨⟨ha', .inl hx⟩, ?_⟩;rintro hn ⟨rfl,rfl⟩;exact(hs.mem.own q d ha' (hnl hn).2.2.1).2.2.1 q ha' hx
   .exact ⟨⟨ha', .inr hx.2.1⟩,hx.2.2⟩
 have kb:nl=false->OwnS g m k b:=λ hn=>⟨hak, .inr (hnl hn).2.2.1⟩
 have far:∀ i' o' b2 c2,I i' o'=some (b2,c2)->¬ (i'=i/\o'=o)->nl=false->b2≠b:=by
  rintro i' o' b2 c2 h1 h2 hn rfl;exact h2 (hfm.inj i' o' i o b2 c2 cp h1 (hnl hn).1)
 let I':Nat->Nat->Option (Nat×Nat):=λ i' o' => if i'=i/\o'=o then none else I i' o'
 have I'e:∀ i' o' x,I' i' o'=some x->¬ (i'=i/\o'=o)/\I i' o'=some x:=by
  intro i' o' x h;simp only[I'] at h
  split at h
  .cases h
  .rename_i hh;exact⟨hh,h⟩
 have hfam:FamAt g' w k ks es ((i,o,id)::outs) arr cl M I':=by
  refine⟨by rw[(agree k hkid).1];exact hfm.hp,by rw[agM k hkid];exact hfm.Mk,hfm.len,hfm.size,hfm.keys,hfm.nodup,λ b2 hb2=>⟨hkid,hfm.own b2 hb2, ?_⟩,hfm.ent,λ j p hp=>?_,λ i' o' b2 c2 h=>hfm.sep i' o' b2 c2 (I'e i' o' _ h).2,λ i1 o1 i2 o2 b2 c1 c2 h1 h2=>hfm.inj i1 o1 i2 o2 b2 c1 c2 (I'e i1 o1 _ h1).2 (I'e i2 o2 _ h2).2,λ i' o' b2 c2 h=>⟨hkid,hfm.iown i' o' b2 c2 (I'e i' o' _ h).2, ?_⟩,λ x hx=>?_⟩
  .rintro hn ⟨_,rfl⟩
   exact hfm.sep i o b2 cp (hnl hn).1 hb2
  .obtain ⟨vs',t',h1,h2,h3⟩:=hfm.mem j p hp
   refine⟨vs',t',h1,h2,λ c u x hu hx=>⟨(h3 c u x hu hx).1, ?_⟩⟩;by_cases he:j=i/\c=o
   .obtain ⟨rfl,rfl⟩:=he
    have hxx:x = .m l1:=by
     rw[a1] at hp;cases hp;rw[a2] at hx;cases hx;rfl
    subst hxx
    have huv:u=v:=by
     rw[a4] at h1
     have:vs=vs':=by
      have:=h1;simp only[Option.some.injEq,Obj.cells.injEq,List.toArray_inj] at this;simpa using this.1
     subst this;rw[a6] at hu;cases hu;rfl
    subst huv
    have ho':zaD ((j,c,id)::outs) j c=some id:=by simp[zaD]
    simp only[CellAt,ho'];show u = .map (some (g'.β id));rw[(hnl hnf).2.1];simp[g']
   .have ho':zaD ((i,o,id)::outs) j c=zaD outs j c:=by
     unfold zaD;rw[List.find?_cons_of_neg];simp only[zrk,beq_iff_eq];rintro⟨h1,h2⟩;exact he ⟨h1.symm,h2.symm⟩
    have hI':I' j c=I j c:=if_neg he;have hc:=(h3 c u x hu hx).2.mono (g':=g') (w':=w) (λ _ h=>h) (λ _ _=>rfl) (λ z hz=>agree z (ne z (hs.bornM k z (by rw[hm];simpa [Blk.ids] using hz)))) λ b2 c2 hI hX=>⟨⟨hkid,hX,λ hn ⟨_,e⟩=>far j c b2 c2 hI he hn e⟩,rfl⟩
    cases x with
    | d _=>exact hc
    | p k' tt=>cases tt <;> exact hc
    | r e2 s2 l2 =>
     simp only[CellAt,ho'] at hc ⊢
     cases hz:zaD outs j c <;> rw[hz] at hc
     .show InRow g' w k e2 s2 (I' j) c l2 u
      have hc:InRow g' w k e2 s2 (I j) c l2 u:=hc;unfold InRow at hc ⊢;rw[hI'];exact hc
     .exact hc
    | m l2 =>
     simp only[CellAt,ho'] at hc ⊢
     cases hz:zaD outs j c <;> rw[hz] at hc
     .rw [hI'];exact hc
     .exact hc
  .rintro hn ⟨_,rfl⟩
   exact far i' o' b2 c2 (I'e i' o' _ h).2 (I'e i' o' _ h).1 hn rfl
  .rcases List.mem_cons.1 hx with rfl|hx
   .exact hil
   .exact hfm.olt x hx
 refine⟨g',M.getD i 0,v,hMi,hcell, ?_, .inr ?_⟩
 .refine hs.regh (λ _ h=>h) (λ _ h=>.inl h) (λ q hq=>agree q (ne q hq)) (λ q hq=>agree q (by have:=hid.1;omega)) born (λ q=>?_) (λ q j hj=>?_) (λ q d h=>?_) (λ q d h=>?_) (λ q q' d h h' => ?_) λ q hq hx=>?_
  .by_cases hq:q=id
   .subst hq
    rw[mid]
    have:g'.β q=b:=by simp[g']
    show MapAt g.F w (g'.β q) l1;rw[this];exact(hnl hnf).2.2.2
   .by_cases hqk:q=k
    .subst hqk
     rw[mk];exact⟨_,_,_,_,hfam⟩
    .rw [mo q hq hqk]
     exact hs.mem.blkMono (λ _ h=>h) (λ _ _=>rfl) (agree q hq) rfl (λ j hj=>agree j (ne j (hs.bornM q j hj))) (λ _ d hx=>⟨⟨hq,hx,λ _ ⟨e,_⟩=>hqk e⟩,rfl⟩) (agM q hq)
  .by_cases hq:q=id
   .subst hq;rw[mid] at hj;simp[Blk.ids] at hj
   .by_cases hqk:q=k
    .subst hqk
     rw[mk] at hj;simp only[Blk.ids,List.map_cons,List.cons_append,List.mem_cons] at hj
     rcases hj with rfl|hj
     .rw [mid];simp
     .exact born j (hs.bornM q j (by rw[hm];simpa [Blk.ids] using hj))
    .rw [mo q hq hqk] at hj;exact born j (hs.bornM q j hj)
  .rcases old q d h with ⟨_,rfl,hn⟩|⟨_,h,_⟩
   .exact ⟨k,kb hn⟩
   .exact ⟨q,h⟩
  .rcases old q d h with ⟨_,rfl,hn⟩|⟨_,h,_⟩
   .exact (hs.ownS (kb hn)).2.1
   .exact (hs.ownS h).2.1
  .rcases old q d h with ⟨e1,e2,hn⟩|⟨hq,p1,hx⟩ <;> rcases old q' d h' with ⟨e3,e4,hn'⟩|⟨hq',p2,hx'⟩
   .rw [e1,e3]
   .subst e2;exact absurd ⟨hs.ownU p2 (kb hn),rfl⟩ (hx' hn)
   .subst e4;exact absurd ⟨hs.ownU p1 (kb hn'),rfl⟩ (hx hn')
   .exact hs.ownU p1 p2
  .have hq':q≠id:=hx.1
   rw[(agree q hq').1] at hx;exact hs.ownX ((alv q hq').1 hq) hx.2.1
 .rw [(hnl hnf).2.1]
  have:=Den.mp (g:=g') (w:=w) (k:=id)
  rwa [show g'.β id=b by simp[g']] at this
theorem SR.settleR {k z i o:Nat}{ks:List Nat}{es:List (D×List MC)}{outs:List (Nat×Nat×Nat)}{e':TypeId}{s':Nat}{l1 l0:List D}(hs:SR fr nt g e m a w)(hm:m k = .fam ks es ((i,o,z)::outs))(hz:m z = .row e' s' l1)(hx:mcAt es i o=some (.r e' s' l0))(hno:¬ zeH outs i o)(hzk:z≠k)(hl:l1.length=l0.length) :
  ∃ g',SR fr nt g' e (mApp [(z, .dead),(k, .fam ks (zaJ es i o (.r e' s' l1)) outs)] m) a w:=by
 have hb:=hs.mem.blk k;rw[hm] at hb;obtain⟨arr,cl,M,I,hfm⟩:=hb;have hbz:=hs.mem.blk z;rw[hz] at hbz;obtain⟨q0,vs,t,v,a1,a2,a3,a4,a5,a6,a7,hin,hMi,hcell⟩:=hfm.at' hx
 have hoo:zaD ((i,o,z)::outs) i o=some z:=by simp[zaD]
 have hon:zaD outs i o=none:=by
  cases hz':zaD outs i o with
  | none=>rfl
  | some z' =>
   obtain⟨⟨x1,x2,x3⟩,hx1,hx2,hx3,hx4⟩:=zbK hz';dsimp only at hx2 hx3 hx4;subst hx2 hx3 hx4;exact absurd ⟨_,hx1⟩ hno
 simp only[CellAt,hoo] at hin
 have hak:zac g m k:=by simp[zac,hm]
 have hil:i<es.length:=(zrf.1 a1).1
 have haz:g.N z=false->zac g m z:=λ hn=>by simp[zac,hz,hn]
 let J:Option (Nat×Nat):=(if g.N z=true then none else some (g.β z,g.C z))
 have hJ:∀ b c,J=some (b,c)->g.N z=false/\b=g.β z:=by
  intro b c h;simp only[J] at h
  split at h
  .cases h
  .rename_i hn;cases h;exact⟨by simpa using hn,rfl⟩
 let g':Gh:={ g with X:=λ q d=>g.X q d∨(q=k/\g.N z=false/\d=g.β z) }
 have sim:∀ q,g'.β q=g.β q/\g'.C q=g.C q/\g'.N q=g.N q/\g.M q <+: g'.M q:=λ _=>⟨rfl,rfl,rfl,List.prefix_rfl⟩
 have mz:(mApp [(z, .dead),(k, .fam ks (zaJ es i o (.r e' s' l1)) outs)] m) z = .dead:=by rw[za,if_pos rfl]
 have mk:(mApp [(z, .dead),(k, .fam ks (zaJ es i o (.r e' s' l1)) outs)] m) k = .fam ks (zaJ es i o (.r e' s' l1)) outs:=by rw[za,if_neg hzk,za,if_pos rfl]
 have mo:∀ q,q≠z->q≠k->(mApp [(z, .dead),(k, .fam ks (zaJ es i o (.r e' s' l1)) outs)] m) q=m q:=λ q h1 h2=>by rw[za,if_neg (Ne.symm h1),za,if_neg (Ne.symm h2)];rfl
 have born:∀ q,m q ≠ .unborn->(mApp [(z, .dead),(k, .fam ks (zaJ es i o (.r e' s' l1)) outs)] m) q ≠ .unborn:=by
  intro q hq;by_cases hqk:q=k
  .subst hqk;rw[mk];simp
  .by_cases hqz:q=z
   .subst hqz;rw[mz];simp
   .rw [mo q hqz hqk];exact hq
 have alv:∀ q,zac g' (mApp [(z, .dead),(k, .fam ks (zaJ es i o (.r e' s' l1)) outs)] m) q->zac g m q/\q≠z:=by
  intro q hq;by_cases hqz:q=z
  .subst hqz;unfold zac at hq;rw[mz] at hq;exact hq.elim
  .refine ⟨?_,hqz⟩
   by_cases hqk:q=k
   .subst hqk;exact hak
   .unfold zac at hq ⊢;rw[mo q hqz hqk] at hq;exact hq
 have old:∀ q d,OwnS g' (mApp [(z, .dead),(k, .fam ks (zaJ es i o (.r e' s' l1)) outs)] m) q d->(OwnS g m q d/\q≠z)∨(q=k/\d=g.β z/\g.N z=false):=by
  rintro q d ⟨ha,hx⟩;obtain⟨ha,hqz⟩:=alv q ha
  rcases hx with hx|hx|⟨rfl,hn,rfl⟩
  .exact .inl ⟨⟨ha, .inl hx⟩,hqz⟩
  .exact .inl ⟨⟨ha, .inr hx⟩,hqz⟩
  .exact .inr ⟨rfl,rfl,hn⟩
 have zb:g.N z=false->OwnS g m z (g.β z):=λ hn=>⟨haz hn, .inl rfl⟩
 let I':Nat->Nat->Option (Nat×Nat):=λ i' o' => if i'=i/\o'=o then J else I i' o'
 have I'e:∀ i' o' b c,I' i' o'=some (b,c)->(i'=i/\o'=o/\g.N z=false/\b=g.β z)∨(¬ (i'=i/\o'=o)/\I i' o'=some (b,c)):=by
  intro i' o' b c h;simp only[I'] at h
  split at h
  .rename_i hh;obtain⟨h1,h2⟩:=hJ b c h;exact .inl ⟨hh.1,hh.2,h1,h2⟩
  .rename_i hh;exact .inr ⟨hh,h⟩
 have notX:g.N z=false->¬ g.X k (g.β z):=λ hn hX=>(hs.mem.own k _ hak hX).2.2.1 z (haz hn) rfl
 have get:∀ j,(zaJ es i o (.r e' s' l1))[j]? = if i=j then some (q0.1,q0.2.set o (.r e' s' l1)) else es[j]? := by
  intro j;unfold zaJ;rw[List.getElem?_modify];by_cases e:i=j
  .subst e;simp[a1]
  .simp [e]
 have cellm:∀ j c u x,¬ (j=i/\c=o)->CellAt g w k ks I ((i,o,z)::outs) j c u x->CellAt g' w k ks I' outs j c u x:=by
  intro j c u x he hc
  have ho':zaD ((i,o,z)::outs) j c=zaD outs j c:=by
   unfold zaD;rw[List.find?_cons_of_neg];simp only[zrk,beq_iff_eq];rintro⟨h1,h2⟩;exact he ⟨h1.symm,h2.symm⟩
  have hI':I' j c=I j c:=if_neg he;have hc:=hc.mono (g':=g') (w':=w) (λ _ h=>h) (λ _ _=>rfl) (λ q _=>sim q) λ b2 c2 hI hX=>⟨.inl hX,rfl⟩
  cases x with
  | d _=>exact hc
  | p k' tt=>cases tt <;> exact hc
  | r e2 s2 l2 =>
   simp only[CellAt,ho'] at hc ⊢
   cases hz':zaD outs j c <;> rw[hz'] at hc
   .show InRow g' w k e2 s2 (I' j) c l2 u
    have hc:InRow g' w k e2 s2 (I j) c l2 u:=hc;unfold InRow at hc ⊢;rw[hI'];exact hc
   .exact hc
  | m l2 =>
   simp only[CellAt,ho'] at hc ⊢
   cases hz':zaD outs j c <;> rw[hz'] at hc
   .rw [hI'];exact hc
   .exact hc
 have hnew:CellAt g' w k ks I' outs i o v (.r e' s' l1):=by
  simp only[CellAt,hon];have hIJ:I' i o=J:=if_pos ⟨rfl,rfl⟩;show InRow g' w k e' s' (I' i) o l1 v;have hin:v=g.base z l0.length:=hin;unfold InRow;rw[hIJ];simp only[J]
  rcases hbz with ⟨z1,z2⟩|⟨z1,z2⟩
  .rw [if_pos z1]
   refine⟨z2, ?_⟩;rw[hin];simp[Gh.base,z1]
  .rw [if_neg (by rw[z1];simp)]
   refine⟨?_, .inr ⟨rfl,z1,rfl⟩,z2⟩;rw[hin,hl];simp[Gh.base,z1]
 have hfam:FamAt g' w k ks (zaJ es i o (.r e' s' l1)) outs arr cl M I':=by
  refine⟨hfm.hp,hfm.Mk,by rw[hfm.len];simp[zaJ],by rw[hfm.size];simp[zaJ],hfm.keys,hfm.nodup,λ b2 hb2=>.inl (hfm.own b2 hb2),λ j x p hx hp=>?_,λ j p hp=>?_,λ i' o' b2 c2 h=>?_,λ i1 o1 i2 o2 b2 c1 c2 h1 h2=>?_,λ i' o' b2 c2 h=>?_,λ x hx=>by have:=hfm.olt x (by simp[hx]);simpa [zaJ] using this⟩
  .rw [get] at hp
   by_cases e:i=j
   .subst e
    rw[if_pos rfl] at hp
    cases hp
    exact hfm.ent i x q0 hx a1
   .rw [if_neg e] at hp
    exact hfm.ent j x p hx hp
  .rw [get] at hp
   by_cases e:i=j
   .subst e
    rw[if_pos rfl] at hp
    cases hp
    obtain⟨vs',t',h1,h2,h3⟩:=hfm.mem i q0 a1;refine⟨vs',t',h1,by simp[h2],λ c u x hu hx=>?_⟩
    have huo:c=o->u=v:=by
     rintro rfl;rw[a4] at h1
     have:vs=vs':=by
      have:=h1;simp only[Option.some.injEq,Obj.cells.injEq,List.toArray_inj] at this;simpa using this.1
     subst this;rw[a6] at hu;cases hu;rfl
    rw[List.getElem?_set] at hx;by_cases ec:o=c
    .subst ec
     rw[if_pos rfl,if_pos (zrf.1 a2).1] at hx
     cases hx
     rw[huo rfl];exact⟨a7,hnew⟩
    .rw [if_neg ec] at hx
     exact⟨(h3 c u x hu hx).1,cellm i c u x (λ h=>ec h.2.symm) (h3 c u x hu hx).2⟩
   .rw [if_neg e] at hp
    obtain⟨vs',t',h1,h2,h3⟩:=hfm.mem j p hp;exact⟨vs',t',h1,h2,λ c u x hu hx=>⟨(h3 c u x hu hx).1,cellm j c u x (λ h=>e h.1.symm) (h3 c u x hu hx).2⟩⟩
  .rcases I'e i' o' b2 c2 h with ⟨_,_,hn,rfl⟩|⟨_,h⟩
   .exact λ hM=>notX hn (hfm.own _ hM)
   .exact hfm.sep i' o' b2 c2 h
  .rcases I'e i1 o1 b2 c1 h1 with ⟨e1,e2,hn,rfl⟩|⟨_,h1⟩ <;> rcases I'e i2 o2 _ c2 h2 with ⟨e3,e4,hn',h5⟩|⟨_,h2⟩
   .exact ⟨by rw[e1,e3],by rw[e2,e4]⟩
   .exact absurd (hfm.iown _ _ _ _ h2) (notX hn)
   .subst h5;exact absurd (hfm.iown _ _ _ _ h1) (notX hn')
   .exact hfm.inj i1 o1 i2 o2 b2 c1 c2 h1 h2
  .rcases I'e i' o' b2 c2 h with ⟨_,_,hn,rfl⟩|⟨_,h⟩
   .exact .inr ⟨rfl,hn,rfl⟩
   .exact .inl (hfm.iown i' o' b2 c2 h)
 refine⟨g',hs.regh (λ _ h=>h) (λ _ h=>.inl h) (λ q _=>sim q) (λ q _=>sim q) born (λ q=>?_) (λ q j hj=>?_) (λ q d h=>?_) (λ q d h=>?_) (λ q q' d h h' => ?_) λ q hq hx=>?_⟩
 .by_cases hqk:q=k
  .subst hqk
   rw[mk];exact⟨_,_,_,_,hfam⟩
  .by_cases hqz:q=z
   .subst hqz;rw[mz];trivial
   .rw [mo q hqz hqk]
    exact hs.mem.blkMono (λ _ h=>h) (λ _ _=>rfl) (sim q) rfl (λ j _=>sim j) λ _ d hx=>⟨.inl hx,rfl⟩
 .by_cases hqk:q=k
  .subst hqk
   rw[mk] at hj;exact born j (hs.bornM q j (by rw[hm];simp only[Blk.ids,List.map_cons,List.cons_append,List.mem_cons];exact .inr hj))
  .by_cases hqz:q=z
   .subst hqz;rw[mz] at hj;simp[Blk.ids] at hj
   .rw [mo q hqz hqk] at hj;exact born j (hs.bornM q j hj)
 .rcases old q d h with ⟨h,_⟩|⟨_,rfl,hn⟩
  .exact ⟨q,h⟩
  .exact ⟨z,zb hn⟩
 .rcases old q d h with ⟨h,_⟩|⟨_,rfl,hn⟩
  .exact (hs.ownS h).2.1
  .exact (hs.ownS (zb hn)).2.1
 .rcases old q d h with ⟨p1,hq⟩|⟨e1,e2,hn⟩ <;> rcases old q' d h' with ⟨p2,hq'⟩|⟨e3,e4,hn'⟩
  .exact hs.ownU p1 p2
  .subst e4;exact absurd (hs.ownU p1 (zb hn')) hq
  .subst e2;exact absurd (hs.ownU p2 (zb hn)) hq'
  .rw [e1,e3]
 .obtain ⟨ha,hqz⟩:=alv q hq
  rcases hx with hx|⟨rfl,hn,hx⟩
  .exact hs.ownX ha hx
  .exact hqz (hs.mem.inj q z ha (haz hn) hx)
theorem SR.settleM {k z i o:Nat}{ks:List Nat}{es:List (D×List MC)}{outs:List (Nat×Nat×Nat)}{l1 l0:List (D×D)}(hs:SR fr nt g e m a w)(hm:m k = .fam ks es ((i,o,z)::outs))(hz:m z = .mp l1)(hx:mcAt es i o=some (.m l0))(hno:¬ zeH outs i o)(hzk:z≠k) :
  ∃ g',SR fr nt g' e (mApp [(z, .dead),(k, .fam ks (zaJ es i o (.m l1)) outs)] m) a w:=by
 have hb:=hs.mem.blk k;rw[hm] at hb;obtain⟨arr,cl,M,I,hfm⟩:=hb;have hbz:=hs.mem.blk z;rw[hz] at hbz;obtain⟨q0,vs,t,v,a1,a2,a3,a4,a5,a6,a7,hin,hMi,hcell⟩:=hfm.at' hx
 have hoo:zaD ((i,o,z)::outs) i o=some z:=by simp[zaD]
 have hon:zaD outs i o=none:=by
  cases hz':zaD outs i o with
  | none=>rfl
  | some z' =>
   obtain⟨⟨x1,x2,x3⟩,hx1,hx2,hx3,hx4⟩:=zbK hz';dsimp only at hx2 hx3 hx4;subst hx2 hx3 hx4;exact absurd ⟨_,hx1⟩ hno
 simp only[CellAt,hoo] at hin
 have hak:zac g m k:=by simp[zac,hm]
 have hil:i<es.length:=(zrf.1 a1).1
 have haz:(true=true)->zac g m z:=λ _=>by simp[zac,hz]
 let J:Option (Nat×Nat):=(some (g.β z,0))
 have hJ:∀ b c,J=some (b,c)->true=true/\b=g.β z:=by
  intro b c h;simp only[J] at h
  cases h;exact⟨rfl,rfl⟩
 let g':Gh:={ g with X:=λ q d=>g.X q d∨(q=k/\true=true/\d=g.β z) }
 have sim:∀ q,g'.β q=g.β q/\g'.C q=g.C q/\g'.N q=g.N q/\g.M q <+: g'.M q:=λ _=>⟨rfl,rfl,rfl,List.prefix_rfl⟩
 have mz:(mApp [(z, .dead),(k, .fam ks (zaJ es i o (.m l1)) outs)] m) z = .dead:=by rw[za,if_pos rfl]
 have mk:(mApp [(z, .dead),(k, .fam ks (zaJ es i o (.m l1)) outs)] m) k = .fam ks (zaJ es i o (.m l1)) outs:=by rw[za,if_neg hzk,za,if_pos rfl]
 have mo:∀ q,q≠z->q≠k->(mApp [(z, .dead),(k, .fam ks (zaJ es i o (.m l1)) outs)] m) q=m q:=λ q h1 h2=>by rw[za,if_neg (Ne.symm h1),za,if_neg (Ne.symm h2)];rfl
 have born:∀ q,m q ≠ .unborn->(mApp [(z, .dead),(k, .fam ks (zaJ es i o (.m l1)) outs)] m) q ≠ .unborn:=by
  intro q hq;by_cases hqk:q=k
  .subst hqk;rw[mk];simp
  .by_cases hqz:q=z
   .subst hqz;rw[mz];simp
   .rw [mo q hqz hqk];exact hq
 have alv:∀ q,zac g' (mApp [(z, .dead),(k, .fam ks (zaJ es i o (.m l1)) outs)] m) q->zac g m q/\q≠z:=by
  intro q hq;by_cases hqz:q=z
  .subst hqz;unfold zac at hq;rw[mz] at hq;exact hq.elim
  .refine ⟨?_,hqz⟩
   by_cases hqk:q=k
   .subst hqk;exact hak
   .unfold zac at hq ⊢;rw[mo q hqz hqk] at hq;exact hq
 have old:∀ q d,OwnS g' (mApp [(z, .dead),(k, .fam ks (zaJ es i o (.m l1)) outs)] m) q d->(OwnS g m q d/\q≠z)∨(q=k/\d=g.β z/\true=true):=by
  rintro q d ⟨ha,hx⟩;obtain⟨ha,hqz⟩:=alv q ha
  rcases hx with hx|hx|⟨rfl,hn,rfl⟩
  .exact .inl ⟨⟨ha, .inl hx⟩,hqz⟩
  .exact .inl ⟨⟨ha, .inr hx⟩,hqz⟩
  .exact .inr ⟨rfl,rfl,hn⟩
 have zb:true=true->OwnS g m z (g.β z):=λ hn=>⟨haz hn, .inl rfl⟩
 let I':Nat->Nat->Option (Nat×Nat):=λ i' o' => if i'=i/\o'=o then J else I i' o'
 have I'e:∀ i' o' b c,I' i' o'=some (b,c)->(i'=i/\o'=o/\true=true/\b=g.β z)∨(¬ (i'=i/\o'=o)/\I i' o'=some (b,c)):=by
  intro i' o' b c h;simp only[I'] at h
  split at h
  .rename_i hh;obtain⟨h1,h2⟩:=hJ b c h;exact .inl ⟨hh.1,hh.2,h1,h2⟩
  .rename_i hh;exact .inr ⟨hh,h⟩
 have notX:true=true->¬ g.X k (g.β z):=λ hn hX=>(hs.mem.own k _ hak hX).2.2.1 z (haz hn) rfl
 have get:∀ j,(zaJ es i o (.m l1))[j]? = if i=j then some (q0.1,q0.2.set o (.m l1)) else es[j]? := by
  intro j;unfold zaJ;rw[List.getElem?_modify];by_cases e:i=j
  .subst e;simp[a1]
  .simp [e]
 have cellm:∀ j c u x,¬ (j=i/\c=o)->CellAt g w k ks I ((i,o,z)::outs) j c u x->CellAt g' w k ks I' outs j c u x:=by
  intro j c u x he hc
  have ho':zaD ((i,o,z)::outs) j c=zaD outs j c:=by
   unfold zaD;rw[List.find?_cons_of_neg];simp only[zrk,beq_iff_eq];rintro⟨h1,h2⟩;exact he ⟨h1.symm,h2.symm⟩
  have hI':I' j c=I j c:=if_neg he;have hc:=hc.mono (g':=g') (w':=w) (λ _ h=>h) (λ _ _=>rfl) (λ q _=>sim q) λ b2 c2 hI hX=>⟨.inl hX,rfl⟩
  cases x with
  | d _=>exact hc
  | p k' tt=>cases tt <;> exact hc
  | r e2 s2 l2 =>
   simp only[CellAt,ho'] at hc ⊢
   cases hz':zaD outs j c <;> rw[hz'] at hc
   .show InRow g' w k e2 s2 (I' j) c l2 u
    have hc:InRow g' w k e2 s2 (I j) c l2 u:=hc;unfold InRow at hc ⊢;rw[hI'];exact hc
   .exact hc
  | m l2 =>
   simp only[CellAt,ho'] at hc ⊢
   cases hz':zaD outs j c <;> rw[hz'] at hc
   .rw [hI'];exact hc
   .exact hc
 have hnew:CellAt g' w k ks I' outs i o v (.m l1):=by
  simp only[CellAt,hon];have hIJ:I' i o=J:=if_pos ⟨rfl,rfl⟩;have hin:v = .map (some (g.β z)):=hin;exact⟨g.β z,hIJ,hin, .inr ⟨rfl,rfl,rfl⟩,hbz⟩
 have hfam:FamAt g' w k ks (zaJ es i o (.m l1)) outs arr cl M I':=by
  refine⟨hfm.hp,hfm.Mk,by rw[hfm.len];simp[zaJ],by rw[hfm.size];simp[zaJ],hfm.keys,hfm.nodup,λ b2 hb2=>.inl (hfm.own b2 hb2),λ j x p hx hp=>?_,λ j p hp=>?_,λ i' o' b2 c2 h=>?_,λ i1 o1 i2 o2 b2 c1 c2 h1 h2=>?_,λ i' o' b2 c2 h=>?_,λ x hx=>by have:=hfm.olt x (by simp[hx]);simpa [zaJ] using this⟩
  .rw [get] at hp
   by_cases e:i=j
   .subst e
    rw[if_pos rfl] at hp
    cases hp
    exact hfm.ent i x q0 hx a1
   .rw [if_neg e] at hp
    exact hfm.ent j x p hx hp
  .rw [get] at hp
   by_cases e:i=j
   .subst e
    rw[if_pos rfl] at hp
    cases hp
    obtain⟨vs',t',h1,h2,h3⟩:=hfm.mem i q0 a1;refine⟨vs',t',h1,by simp[h2],λ c u x hu hx=>?_⟩
    have huo:c=o->u=v:=by
     rintro rfl;rw[a4] at h1
     have:vs=vs':=by
      have:=h1;simp only[Option.some.injEq,Obj.cells.injEq,List.toArray_inj] at this;simpa using this.1
     subst this;rw[a6] at hu;cases hu;rfl
    rw[List.getElem?_set] at hx;by_cases ec:o=c
    .subst ec
     rw[if_pos rfl,if_pos (zrf.1 a2).1] at hx
     cases hx
     rw[huo rfl];exact⟨a7,hnew⟩
    .rw [if_neg ec] at hx
     exact⟨(h3 c u x hu hx).1,cellm i c u x (λ h=>ec h.2.symm) (h3 c u x hu hx).2⟩
   .rw [if_neg e] at hp
    obtain⟨vs',t',h1,h2,h3⟩:=hfm.mem j p hp;exact⟨vs',t',h1,h2,λ c u x hu hx=>⟨(h3 c u x hu hx).1,cellm j c u x (λ h=>e h.1.symm) (h3 c u x hu hx).2⟩⟩
  .rcases I'e i' o' b2 c2 h with ⟨_,_,hn,rfl⟩|⟨_,h⟩
   .exact λ hM=>notX hn (hfm.own _ hM)
   .exact hfm.sep i' o' b2 c2 h
  .rcases I'e i1 o1 b2 c1 h1 with ⟨e1,e2,hn,rfl⟩|⟨_,h1⟩ <;> rcases I'e i2 o2 _ c2 h2 with ⟨e3,e4,hn',h5⟩|⟨_,h2⟩
   .exact ⟨by rw[e1,e3],by rw[e2,e4]⟩
   .exact absurd (hfm.iown _ _ _ _ h2) (notX hn)
   .subst h5;exact absurd (hfm.iown _ _ _ _ h1) (notX hn')
   .exact hfm.inj i1 o1 i2 o2 b2 c1 c2 h1 h2
  .rcases I'e i' o' b2 c2 h with ⟨_,_,hn,rfl⟩|⟨_,h⟩
   .exact .inr ⟨rfl,hn,rfl⟩
   .exact .inl (hfm.iown i' o' b2 c2 h)
 refine⟨g',hs.regh (λ _ h=>h) (λ _ h=>.inl h) (λ q _=>sim q) (λ q _=>sim q) born (λ q=>?_) (λ q j hj=>?_) (λ q d h=>?_) (λ q d h=>?_) (λ q q' d h h' => ?_) λ q hq hx=>?_⟩
 .by_cases hqk:q=k
  .subst hqk
   rw[mk];exact⟨_,_,_,_,hfam⟩
  .by_cases hqz:q=z
   .subst hqz;rw[mz];trivial
   .rw [mo q hqz hqk]
    exact hs.mem.blkMono (λ _ h=>h) (λ _ _=>rfl) (sim q) rfl (λ j _=>sim j) λ _ d hx=>⟨.inl hx,rfl⟩
 .by_cases hqk:q=k
  .subst hqk
   rw[mk] at hj;exact born j (hs.bornM q j (by rw[hm];simp only[Blk.ids,List.map_cons,List.cons_append,List.mem_cons];exact .inr hj))
  .by_cases hqz:q=z
   .subst hqz;rw[mz] at hj;simp[Blk.ids] at hj
   .rw [mo q hqz hqk] at hj;exact born j (hs.bornM q j hj)
 .rcases old q d h with ⟨h,_⟩|⟨_,rfl,hn⟩
  .exact ⟨q,h⟩
  .exact ⟨z,zb hn⟩
 .rcases old q d h with ⟨h,_⟩|⟨_,rfl,hn⟩
  .exact (hs.ownS h).2.1
  .exact (hs.ownS (zb hn)).2.1
 .rcases old q d h with ⟨p1,hq⟩|⟨e1,e2,hn⟩ <;> rcases old q' d h' with ⟨p2,hq'⟩|⟨e3,e4,hn'⟩
  .exact hs.ownU p1 p2
  .subst e4;exact absurd (hs.ownU p1 (zb hn')) hq
  .subst e2;exact absurd (hs.ownU p2 (zb hn)) hq'
  .rw [e1,e3]
 .obtain ⟨ha,hqz⟩:=alv q hq
  rcases hx with hx|⟨rfl,hn,hx⟩
  .exact hs.ownX ha hx
  .exact hqz (hs.mem.inj q z ha (haz hn) hx)
theorem SR.settleF {k z:Nat}{ks:List Nat}{r:List (D×List MC)}{t:List (Nat×Nat×Nat)}(hs:SR fr nt g e m a w)(h:zc k z m ks r t):∃ g',SR fr nt g' e (mApp [(z, .dead),(k, .fam ks r t)] m) a w:=by
 obtain⟨es,outs,i,o,hm,rfl,hno,hzk,⟨e',s',l1,l0,h1,h2,h3,rfl⟩|⟨l1,l0,h1,h2,rfl⟩⟩:=h
 .exact hs.settleR hm h1 h2 hno hzk h3
 .exact hs.settleM hm h1 h2 hno hzk
end
end Go.Vc
namespace Go.Vc
open Go.RowKit
section
variable {P:Program} {fr:Fr} {nt:Nat} {g:Gh} {e:Nat->SV} {m:Nat->Blk} {a:Act} {w:World} {c:Ctx} {o:Oper} {K:Dl->List Loc->Prop} {Q:Exit->Act->World->Prop} {l:List Loc}
theorem zoP {A:Nat->Nat->Pg}{x:SV}(h:(match x with | .rs q n=>A q n|_=>Pg.fail) e m l K):∃ q n,x = .rs q n/\A q n e m l K:=by
 split at h
 .exact ⟨_,_,rfl,h⟩
 .exact h.elim
theorem znY {A:Int->Int->Pg}{x y:SV}(h:(match x,y with | .dat (.v (.int _ n)), .dat (.v (.int _ n'))=>A n n'|_,_=>Pg.fail) e m l K):∃ k n k' n',x = .dat (.v (.int k n))/\y = .dat (.v (.int k' n'))/\A n n' e m l K:=by
 split at h
 .exact ⟨_,_,_,_,rfl,rfl,h⟩
 .exact h.elim
theorem zpu {s i j c o:Nat}(hc:c<s)(ho:o<s)(h:j*s+c=i*s+o):j=i/\c=o:=by
 have e1:(j*s+c) % s=c:=by rw[Nat.mul_comm,Nat.mul_add_mod,Nat.mod_eq_of_lt hc]
 have e2:(i*s+o) % s=o:=by rw[Nat.mul_comm,Nat.mul_add_mod,Nat.mod_eq_of_lt ho]
 have hco:c=o:=by rw[<- e1,h,e2]
 subst hco;exact⟨Nat.eq_of_mul_eq_mul_right (by omega) (Nat.add_right_cancel h),rfl⟩
theorem SnAt.put {w':World}{k i o s:Nat}{e:TypeId}{out out':Option (Nat×Nat×Nat)}{es:List (List MC)}{cur cur':Array Value}{I:Nat->Nat->Option (Nat×Nat)}{u:Value}{x y:MC}(h:SnAt g w k e s out es cur I)(hx:snAt es i o=some x)
  (hp:∃ z,w'.heap[g.β k]? = some (.cells cur' e z)/\Free z cur'.size) (hsz:cur'.size=cur.size) (hget:∀ p:Nat,cur'[p]? = if p=co (g.C k)+(i*s+o) then some u else cur[p]?)
  (hF:∀ b,g.F b->w'.heap[b]? = w.heap[b]?) (hX:∀ b,g.X k b->w'.heap[b]? = w.heap[b]?) (ho:∀ j c z,¬ (j=i/\c=o)->(out'=some (j,c,z) ↔ out=some (j,c,z)))
  (hu:u.oneCell'=true) (hy:SCell g w' k (λ j c=>if j=i/\c=o then none else I j c) out' i o u y):SnAt g w' k e s out' (zbb es i o y) cur' (λ j c=>if j=i/\c=o then none else I j c):=by
 obtain⟨li,hli,hlo⟩:=zcd hx
 have ho':o<s:=by rw[<- h.len li (zri hli)];exact(zrf.1 hlo).1
 have hne:∀ {j c:Nat} {bc:Nat×Nat},(if j=i/\c=o then none else I j c)=some bc->¬ (j=i/\c=o)/\I j c=some bc:=λ {j c bc} h=>by
  split at h
  .cases h
  .rename_i hn;exact⟨hn,h⟩
 have hget':∀ (j c:Nat) (lj:List MC) (x':MC),(zbb es i o y)[j]? = some lj->lj[c]? = some x'->snAt (zbb es i o y) j c=some x':=λ j c lj x' h1 h2=>by unfold snAt;rw[h1];exact h2
 refine⟨h.nn,hp,by rw[hsz];exact h.size,by simpa [zbb] using h.le,λ lj hj=>?_,λ j c lj x' hj hx' => ?_,λ j c b1 c1 hI=>⟨?_,λ z hz=>(h.dom j c b1 c1 (hne hI).2).2 z ((ho j c z (hne hI).1).1 hz)⟩,λ j c j' c' b1 c1 c2 q1 q2=>h.inj j c j' c' b1 c1 c2 (hne q1).2 (hne q2).2⟩
 .obtain ⟨j,hjl,hj⟩:=List.getElem_of_mem hj
  have hj2:(zbb es i o y)[j]? = some lj:=by rw[zrg hjl,hj]
  unfold zbb at hj2;rw[List.getElem?_modify] at hj2
  cases hq0:es[j]? with
  | none=>rw[hq0] at hj2;simp at hj2
  | some l0 =>
   rw[hq0] at hj2;have h0:=h.len l0 (zri hq0);by_cases hij:i=j
   .simp [hij] at hj2;rw[<- hj2];simpa using h0
   .simp [hij] at hj2;rw[<- hj2];exact h0
 .have hat:=hget' j c lj x' hj hx'
  rw[zdY] at hat;by_cases hji:j=i/\c=o
  .rw [if_pos hji,hx] at hat
   cases hat
   obtain⟨rfl,rfl⟩:=hji;exact⟨u,by rw[hget,if_pos rfl],hu,hy⟩
  .rw [if_neg hji] at hat
   obtain⟨lj',hj',hx''⟩:=zcd hat
   have hc:c<s:=by rw[<- h.len lj' (zri hj')];exact(zrf.1 hx'').1
   obtain⟨v,v1,v2,v3⟩:=h.mem j c lj' x' hj' hx'';refine⟨v,by rw[hget,if_neg (λ e=>hji (zpu hc ho' (Nat.add_left_cancel e)))];exact v1,v2, ?_⟩
   cases x' with
   | d x=>exact Rd.mono v3 (λ _ h=>h) hF
   | p c t=>exact v3
   | m l=>exact v3
   | r e2 s2 l2 =>
    rcases v3 with ⟨z,hz,hv⟩|⟨hz,v3⟩
    .exact .inl ⟨z,(ho j c z hji).2 hz,hv⟩
    .refine .inr ⟨λ z h' => hz z ((ho j c z hji).1 h'), ?_⟩
     unfold InRow at v3 ⊢;dsimp only;rw[if_neg hji]
     cases hI:I j c with
     | none=>rw[hI] at v3;exact v3
     | some bc =>
      obtain⟨b2,c2⟩:=bc;rw[hI] at v3;exact⟨v3.1,v3.2.1,v3.2.2.mono (λ _ h=>h) hF (hX b2 v3.2.1)⟩
 .rw [zdY,if_neg (hne hI).1];exact(h.dom j c b1 c1 (hne hI).2).1
theorem zja {t:TypeId}{ti:TI}{x:Operand}{sv:SV}{id:Nat}(hT:TIok P t ti)(hs:SR fr nt g e m a w)(ho:∀ d,o.dst=some d->d<nt)(hp:fr.p<=id)(hop:o.op = .load t x)
  (hx:DenO g w (a.eval x) sv) (hb:∀ k,k∈sv.ids->m k ≠ .unborn) (h:zf5 ti sv id e m l K):Good P fr nt e m a w o K Q:=by
 unfold zf5 at h
 split at h
 .rename_i k i o'
  unfold Pg.getB at h;rw[zam] at h
  cases hm:m k with
  | fam ks es outs =>
   rw[hm] at h;obtain⟨y,hy,h⟩:=h
   have hvx:∀ b0,(g.M k)[i]? = some b0->a.eval x = .pointer (some ⟨b0,o',none⟩):=by
    intro b0 hb0
    rcases hx with hx|hx
    .cases hx
    .generalize a.eval x=v at hx
     cases hx with
     | po h1=>rw[hb0] at h1;cases h1;rfl
   have back:zcg ti (.po k i o') e m (Loc.b k::l) K->Good P fr nt e m a w o K Q:=λ h=>zds hT hs ho hop hx hb h
   cases y with
   | r e' s' l1 =>
    obtain⟨hw,h⟩:=zaj h;simp only[zrk,Bool.not_eq_true'] at hw
    rcases h with (h|h)|h
    rotate_left
    .obtain ⟨hno,n,rfl,h⟩:=h
     rw[zal] at h;have hb0:=hs.mem.blk k;rw[hm] at hb0;obtain⟨arr,cl,M,I,hfm⟩:=hb0;obtain⟨q0,vs,t',u0,g1,g2,g3,g4,g5,g6,g7,g8,hMi,g9⟩:=hfm.at' hy
     have hz:zaD outs i o'=none:=by
      cases hz:zaD outs i o' with
      | none=>rfl
      | some z =>
       obtain⟨x,x1,x2,x3,x4⟩:=zbK hz;obtain⟨a1,a2,a3⟩:=x;dsimp only at x2 x3;subst x2;subst x3;exact(hno ⟨a3,x1⟩).elim
     simp only[CellAt,hz] at g8
     have hrun:(execOp a.eval o).run P w = .ok (.value u0) w:=by
      have hv2:=hvx _ hMi;have:=zaE (P:=P) hT hw.2 g9;rw[List.getD_eq_getElem?_getD] at hv2 this;simp[execOp,hop,hv2,this]
     have hd:Den g w u0 (.ln l1.length):=by
      unfold InRow at g8
      split at g8
      .rw [g8.1,g8.2];exact .ln (by simp[maxLen])
      .obtain ⟨q1,_,cur,_,_,q4,q5,_⟩:=g8
       rw[q1];exact .ln (by omega)
     exact zah hs ho hrun (.inr hd) (by simp[SV.ids]) h
    rotate_right
    .obtain ⟨z,hz,h⟩:=h
     rw[zam] at h
     cases hmz:m z with
     | row e2 s2 l2 =>
      rw[hmz] at h;obtain⟨hw2,h⟩:=zaj h;obtain⟨hll,n,rfl,h⟩:=h;rw[zal] at h;have hb0:=hs.mem.blk k;rw[hm] at hb0;obtain⟨arr,cl,M,I,hfm⟩:=hb0;obtain⟨q0,vs,t',u0,g1,g2,g3,g4,g5,g6,g7,g8,hMi,g9⟩:=hfm.at' hy;simp only[CellAt,hz] at g8
      have hrun:(execOp a.eval o).run P w = .ok (.value u0) w:=by
       have hv2:=hvx _ hMi;have:=zaE (P:=P) hT hw.2 g9;rw[List.getD_eq_getElem?_getD] at hv2 this;simp[execOp,hop,hv2,this]
      have hbz:=hs.mem.blk z;rw[hmz] at hbz;refine zah hs ho hrun (.inr ?_) (by simp[SV.ids,hmz]) h;rw[g8]
      rcases hbz with ⟨b1,b2⟩|⟨b1,cur,r1,r2,r3,r4,r5,r6⟩
      .have h0:l1.length=0:=by rw[<- hll,b2];rfl
       exact .rs (λ _=>h0) (λ h=>by rw[b1] at h;cases h) (by rw[h0];exact Nat.zero_le _)
      .exact .rs (λ h=>by rw[b1] at h;cases h) (λ _=>by omega) (by omega)
     | _=>rw[hmz] at h;exact h.elim
    rw[zam] at h
    cases hid:m id with
    | unborn =>
     rw[hid] at h;obtain⟨hno,n,rfl,h⟩:=h;obtain⟨g',b0,v,hM,hc,hs',hd,_,_⟩:=hs.takeR hm hy hno ⟨hp,hid⟩
     have hrun:(execOp a.eval o).run P w = .ok (.value v) w:=by
      have:=zaE (P:=P) hT hw.2 hc;simp[execOp,hop,hvx b0 hM,this]
     exact zeg hs' ho hrun hd (by
      intro q hq;simp[SV.ids] at hq;subst hq
      rw[za,if_pos rfl];simp) h
    | _=>rw[hid] at h;exact h.elim
   | m l1 =>
    obtain⟨hw,h⟩:=zaj h;simp only[zrk,Bool.not_eq_true'] at hw;rw[zam] at h
    cases hid:m id with
    | unborn =>
     rw[hid] at h;obtain⟨hno,h⟩:=h;obtain⟨g',b0,v,hM,hc,hs',hd⟩:=hs.takeM hm hy hno ⟨hp,hid⟩
     have hrun:(execOp a.eval o).run P w = .ok (.value v) w:=by
      have:=zaE (P:=P) hT hw.2 hc;simp[execOp,hop,hvx b0 hM,this]
     exact zeg hs' ho hrun hd (by
      intro q hq;simp[SV.ids] at hq;subst hq
      rw[za,if_pos rfl];simp) h
    | _=>rw[hid] at h;exact h.elim
   | d _=>exact back h
   | p _ _=>exact back h
  | _=>rw[hm] at h;exact h.elim
 .rename_i k s i j
  unfold Pg.getB at h;rw[zam] at h
  cases hm:m k with
  | sn e1 s1 ea out es =>
   rw[hm] at h;replace h:=zaj h;obtain⟨hw,h⟩:=h;simp only[zrk,Bool.not_eq_true'] at hw;obtain⟨⟨hss,hsz⟩,hag⟩:=hw;obtain rfl:=zrh hss;obtain⟨y,hy,h⟩:=h;have hb0:=hs.mem.blk k;rw[hm] at hb0;obtain⟨li,hli,hlo⟩:=zcd hy
   obtain⟨cur,I,hS⟩:∃ cur I,SnAt g w k e1 s out es cur I:=by
    rcases hb0 with ⟨_,h,_⟩|h
    .rw [h] at hli;simp at hli
    .exact h
   have hv:a.eval x = .pointer (some ⟨g.β k,co (g.C k)+(i*s+j),none⟩):=by
    rcases hx with hx|hx
    .cases hx
    .generalize a.eval x=v at hx
     cases hx with
     | rp hN=>simp[Nat.add_assoc]
   obtain⟨u,hu,hu1,hu2⟩:=hS.mem i j li y hli hlo
   have hc:w.cell? ⟨g.β k,co (g.C k)+(i*s+j),none⟩=some u:=by obtain⟨_,hpp,_⟩:=hS.hp;rw[cell_of_row w _ _ _ _ _ hpp];exact hu
   have hrun:(execOp a.eval o).run P w = .ok (.value u) w:=by
    have:=zaE (P:=P) hT hag hc;simp[execOp,hop,hv,this]
   cases y with
   | d x' =>
    dsimp only at h;rw[zal] at h;exact zah hs ho hrun (zaQ hu2) (by rw[zaX];simp) h
   | p c t=>exact h.elim
   | m l=>exact h.elim
   | r e' s' l1 =>
    cases out with
    | none =>
     dsimp only[Pg.getB] at h;rw[zam] at h
     cases hid:m id with
     | unborn =>
      rw[hid] at h;obtain⟨n,rfl,h⟩:=h;obtain⟨g',v,hc',hs',hd⟩:=hs.take hm hy ⟨hp,hid⟩;rw[hc] at hc';cases hc'
      exact zeg hs' ho hrun hd (by
       intro q hq;simp[SV.ids] at hq;subst hq
       rw[za,if_pos rfl];simp) h
     | _=>rw[hid] at h;exact h.elim
    | some p =>
     obtain⟨i',j',z⟩:=p;obtain⟨⟨rfl,rfl⟩,h⟩:=h;dsimp only[Pg.getB] at h;rw[zam] at h
     cases hz:m z with
     | row e2 s2 l' =>
      rw[hz] at h;replace h:=zaj h;obtain⟨_,hll,n,rfl,h⟩:=h;rw[zal] at h;have hbz:=hs.mem.blk z;rw[hz] at hbz
      rcases hu2 with ⟨z',hz',hv'⟩|⟨hn,_⟩
      .cases hz'
       refine zah hs ho hrun (.inr ?_) (by simp[SV.ids,hz]) h;rw[hv']
       have hle:l'.length<=maxLen:=by
        rcases hbz with ⟨_,h2⟩|⟨_,_,_,_,r2,r3,_⟩
        .rw [h2];simp[maxLen]
        .omega
       refine .rs (λ hn=>?_) (λ hn=>?_) (by omega)
       .rcases hbz with ⟨_,h2⟩|⟨h1,_⟩
        .rw [<- hll,h2];rfl
        .rw [hn] at h1;cases h1
       .rcases hbz with ⟨h1,_⟩|⟨_,_,_,_,r2,_⟩
        .rw [hn] at h1;cases h1
        .rw [<- hll];exact r2
      .exact absurd rfl (hn z)
     | _=>rw[hz] at h;exact h.elim
  | _=>rw[hm] at h;exact zds hT hs ho hop hx hb h
 .exact zds hT hs ho hop hx hb h
theorem zgX {t:TypeId}{ti:TI}{x y:Operand}{sa sx:SV}(hT:TIok P t ti)(hs:SR fr nt g e m a w)(ho:∀ d,o.dst=some d->d<nt)(hop:o.op = .store t x y)
  (hx:DenO g w (a.eval x) sa) (hy:DenO g w (a.eval y) sx) (hby:∀ k,k∈sx.ids->m k ≠ .unborn) (h:zc7 ti sa sx e m l K):Good P fr nt e m a w o K Q:=by
 unfold zc7 at h
 split at h
 .rename_i k i o'
  unfold Pg.getB at h;rw[zam] at h
  cases hm:m k with
  | fam ks es outs =>
   rw[hm] at h;obtain⟨y0,hy0,h⟩:=h;have back:zb9 ti (.po k i o') sx e m (Loc.b k::l) K->Good P fr nt e m a w o K Q:=λ h=>zcT hT hs ho hop hx hy hby h
   cases y0 with
   | r e' s' l0 =>
    obtain⟨hw,h⟩:=zaj h;simp only[zrk,Bool.not_eq_true'] at hw;have hsz:=zrh hw.1;obtain⟨q,n,rfl,h⟩:=zoP h;obtain⟨hqk,h⟩:=zaj h
    have hqk:q≠k:=by
     rintro rfl;simp at hqk
    rw[zam] at h
    cases hq:m q with
    | row e2 s2 l1 =>
     rw[hq] at h;obtain⟨hw2,h⟩:=zaj h;simp only[zrk] at hw2;obtain rfl:=zrh hw2.1;obtain rfl:=zrh hw2.2;obtain⟨hn,r,rfl,t0,rfl,hK⟩:=h;have hb:=hs.mem.blk k;rw[hm] at hb;obtain⟨arr,cl,M,I,hfm⟩:=hb;obtain⟨q0,vs,t',u0,g1,g2,g3,g4,g5,g6,g7,g8,hMi,g9⟩:=hfm.at' hy0
     have hak:zac g m k:=by simp[zac,hm]
     have hX:=hfm.own _ g3;obtain⟨x1,x2,x3,x4⟩:=hs.mem.own k _ hak hX;have hlt:o'<vs.length:=(zrf.1 g6).1;have hil:i<es.length:=(zrf.1 g1).1
     have hvx:a.eval x = .pointer (some ⟨M.getD i 0,o',none⟩):=by
      rcases hx with hx|hx
      .cases hx
      .generalize a.eval x=v at hx
       cases hx with
       | po h1=>rw[hMi] at h1;cases h1;rfl
     have hvy:a.eval y=g.base q n:=by
      rcases hy with hy|hy
      .cases hy
      .generalize a.eval y=v at hy
       cases hy with
       | rs _ _ _=>rfl
     have hone:(g.base q n).cells.toList=[g.base q n]:=by unfold Gh.base;split <;> rfl
     have hcell:(g.base q n).oneCell'=true:=by unfold Gh.base;split <;> rfl
     have hr:=zaW (P:=P) (v:=g.base q n) (off:=o') hT g4 (by rw[hone,hsz];rfl) (by rw[hone];simp;omega) (λ p u hu=>by
      rw[hone] at hu;have:=zri hu
      simp at this;subst this;exact hcell)
     have hnew:vs.toArray.toList.take o'++(g.base q n).cells.toList++vs.toArray.toList.drop (o'+(g.base q n).cells.toList.length)=vs.set o' (g.base q n):=by
      rw[hone];simp only[List.length_singleton];rw[List.set_eq_take_append_cons_drop,if_pos hlt];simp
     rw[hnew] at hr
     have hrun:(execOp a.eval o).run P w = .ok .skip (w.setRow (M.getD i 0) (vs.set o' (g.base q n)).toArray):=by
      rw[List.getD_eq_getElem?_getD] at hvx hr ⊢;simp[execOp,hop,hvx,hvy,hr]
     have hnoT:¬ zeH (outs.filter λ x=>!(Nat.beq x.1 i&&Nat.beq x.2.1 o')) i o':=by
      rintro⟨z,hz⟩;have:=(List.mem_filter.1 hz).2;simp at this
     have hot:∀ j c,¬ (j=i/\c=o')->zaD ((i,o',q)::outs.filter λ x=>!(Nat.beq x.1 i&&Nat.beq x.2.1 o')) j c=zaD outs j c:=by
      intro j c hne;unfold zaD
      rw[List.find?_cons_of_neg (by
       simp only[zrk,beq_iff_eq];rintro⟨h1,h2⟩
       exact hne ⟨h1.symm,h2.symm⟩),List.find?_filter]
      congr 2
      funext x;by_cases h1:x.1=j
      .by_cases h2:x.2.1=c
       .have:(Nat.beq x.1 i&&Nat.beq x.2.1 o')=false:=by
         rw[Bool.and_eq_false_iff];by_cases h3:x.1=i
         .exact .inr (beqF λ h4=>hne ⟨by omega,by omega⟩)
         .exact .inl (beqF h3)
        simp[this,Bool.beq_eq_decide_eq]
       .simp [h2]
      .simp [h1]
     have hsX:=hs.setX (b := .fam ks (zaJ es i o' (.r e2 s2 l1)) ((i,o',q)::outs.filter λ x=>!(Nat.beq x.1 i&&Nat.beq x.2.1 o'))) hak hX (λ b hb=>setRow_other w _ b _ hb) (size_setRow _ _ _) rfl rfl rfl ⟨arr,cl,M,I,hfm.upd hot (λ x hx=>by
       rcases List.mem_cons.1 hx with rfl|hx
       .exact hil
       .exact hfm.olt x (List.mem_filter.1 hx).1) (λ x hx=>by
       rcases List.mem_cons.1 hx with rfl|hx
       .exact .inr ⟨rfl,rfl⟩
       .exact .inl (List.mem_filter.1 hx).1) g1 g4 g5 (λ c v x hv hx=>by
       obtain⟨vs2,t2,e1,e2,e3⟩:=hfm.mem i q0 g1;rw[g4] at e1
       have:vs.toArray=vs2.toArray:=by cases e1;rfl
       have:vs=vs2:=by simpa using this
       subst this
       exact e3 c v x hv hx) hlt hcell (setRow_heap w _ _ _ _ _ g4) (λ b hb=>setRow_other w _ b _ hb) x2 (x3 k hak) (by
       have:zaD ((i,o',q)::outs.filter λ x=>!(Nat.beq x.1 i&&Nat.beq x.2.1 o')) i o'=some q:=by simp[zaD]
       simp only[CellAt,this]
       rw[hn])⟩ (by simp) (λ z hz=>by
       simp only[Blk.ids,List.map_cons,List.cons_append,List.mem_cons,List.mem_append,List.mem_map] at hz
       rcases hz with rfl|⟨x,hx,rfl⟩|hz
       .rw [hq];simp
       .exact hs.bornM k _ (by rw[hm];simp only[Blk.ids,List.mem_append,List.mem_map];exact .inl ⟨x,(List.mem_filter.1 hx).1,rfl⟩)
       .exact hs.bornM k _ (by rw[hm];simp only[Blk.ids,List.mem_append];exact .inr hz))
     have hmc:mcAt (zaJ es i o' (.r e2 s2 l1)) i o'=some (.r e2 s2 l1):=by
      unfold mcAt zaJ;rw[List.getElem?_modify];simp[g1,(zrf.1 g2).1]
     obtain⟨g',hsS⟩:=hsX.settleR (k:=k) (z:=q) (l0:=l1) (by rw[za,if_pos rfl]) (by rw[za,if_neg (Ne.symm hqk)];exact hq) hmc hnoT hqk rfl;unfold Good Oper.wp;rw[hrun];refine⟨_,_,hK,g', ?_⟩
     have hss:zaJ (zaJ es i o' (.r e2 s2 l1)) i o' (.r e2 s2 l1)=zaJ es i o' (.r e2 s2 l1):=by
      unfold zaJ;refine List.ext_getElem? λ j=>?_;rw[List.getElem?_modify,List.getElem?_modify];by_cases e:i=j
      .subst e;simp[g1]
      .simp [e]
     rw[hss] at hsS
     have hmm:mApp [(q, .dead),(k, .fam ks (zaJ es i o' (.r e2 s2 l1)) (outs.filter λ x=>!(Nat.beq x.1 i&&Nat.beq x.2.1 o')))] (mApp [(k, .fam ks (zaJ es i o' (.r e2 s2 l1)) ((i,o',q)::outs.filter λ x=>!(Nat.beq x.1 i&&Nat.beq x.2.1 o')))] m)=mApp [(q, .dead),(k, .fam ks (zaJ es i o' (.r e2 s2 l1)) (outs.filter λ x=>!(Nat.beq x.1 i&&Nat.beq x.2.1 o')))] m:=by
      funext p;simp only[za];by_cases hp1:q=p
      .simp [hp1]
      .by_cases hp2:k=p
       .simp [hp2]
       .simp [hp1,hp2,mApp,beqF hp2]
     rw[hmm] at hsS;exact hsS.put ho (.inl rfl) (by simp[SV.ids])
    | _=>rw[hq] at h;exact h.elim
   | d _=>exact back h
   | p _ _=>exact back h
   | m _=>exact back h
  | _=>rw[hm] at h;exact h.elim
 .rename_i k s i j
  unfold Pg.getB at h;rw[zam] at h
  cases hm:m k with
  | sn e1 s1 ea out es =>
   rw[hm] at h;replace h:=zaj h;obtain⟨hw,h⟩:=h;simp only[zrk,Bool.not_eq_true'] at hw;obtain⟨⟨hss,hsz⟩,hag⟩:=hw;obtain rfl:=zrh hss;have hsz:=zrh hsz;obtain⟨y0,hy0,h⟩:=h;have hb:=hs.mem.blk k;rw[hm] at hb;obtain⟨li,hli,hlo⟩:=zcd hy0
   obtain⟨cur,I,hS⟩:∃ cur I,SnAt g w k e1 s out es cur I:=by
    rcases hb with ⟨_,h,_⟩|h
    .rw [h] at hli;simp at hli
    .exact h
   have hak:zac g m k:=by simp[zac,hm,hS.nn]
   have hvx:a.eval x = .pointer (some ⟨g.β k,co (g.C k)+(i*s+j),none⟩):=by
    rcases hx with hx|hx
    .cases hx
    .generalize a.eval x=v at hx
     cases hx with
     | rp hN=>simp[Nat.add_assoc]
   obtain⟨u0,hu0,_,_⟩:=hS.mem i j li y0 hli hlo;obtain⟨zz,hpp,hzf⟩:=hS.hp;have hic:co (g.C k)+(i*s+j)<cur.size:=(Array.getElem?_eq_some_iff.1 hu0).1
   -- the write of one value
   have key:∀ v:Value,v.oneCell'=true->(a.eval y).cells.toList=[v]->∃ new:Array Value,(execOp a.eval o).run P w = .ok .skip (w.setRow (g.β k) new)/\new.size=cur.size/\∀ p:Nat,new[p]? = if p=co (g.C k)+(i*s+j) then some v else cur[p]? := by
    intro v hcell hone;refine⟨(cur.toList.take (co (g.C k)+(i*s+j))++[v]++cur.toList.drop (co (g.C k)+(i*s+j)+[v].length)).toArray, ?_, ?_,λ p=>?_⟩
    .have:=zbO (P:=P) (v:=a.eval y) (off:=co (g.C k)+(i*s+j)) hT hpp hzf (by rw[hone,hsz];rfl) (by rw[hone];simp;omega) (λ p u hu=>by
      rw[hone] at hu;have:=zri hu
      simp at this;subst this;exact hcell)
     rw[hone] at this;simp[execOp,hop,hvx,this]
    .have:=zbu cur.toList [v] (co (g.C k)+(i*s+j)) (by simp;omega)
     rw[List.size_toArray];simpa using this
    .rw [List.getElem?_toArray,zbT _ _ _ _ (by simp;omega)]
     by_cases hp:p=co (g.C k)+(i*s+j)
     .subst hp;simp
     .rw [if_neg (by simp;omega),if_neg hp];simp
   cases y0 with
   | p c t=>exact h.elim
   | m l=>exact h.elim
   | d x0 =>
    dsimp only at h
    cases hcs:sx.cells with
    | none=>simp only[hcs] at h;exact h.elim
    | some cs =>
     match cs,hcs with
     | [],hcs=>simp only[hcs] at h;exact h.elim
     | c1::c2::r,hcs=>simp only[hcs] at h;exact h.elim
     | [c1],hcs =>
      simp only[hcs] at h
      cases hd:c1.toD1 0 with
      | none=>simp only[hd] at h;exact h.elim
      | some d =>
       simp only[hd] at h
       cases h1:c1.one with
       | false=>simp only[h1,cond_false] at h;exact h.elim
       | true =>
        simp only[h1,cond_true] at h;obtain⟨r,rfl,hK⟩:=h
        rcases hy with hy|hy
        .subst hy;simp[SV.cells] at hcs
        obtain⟨hcd,_⟩:=zaR hy hcs (by simp[h1]);obtain⟨u1,hu1⟩:∃ u1,(a.eval y).cells.toList=[u1]:=List.length_eq_one_iff.1 hcd.1;obtain⟨o1,d1⟩:=hcd.2 0 u1 c1 (by rw[hu1];rfl) rfl;obtain⟨new,hrun,hnsz,hget⟩:=key u1 o1 hu1;have hF:∀ b,g.F b->(w.setRow (g.β k) new).heap[b]? = w.heap[b]? := λ b hb=>setRow_other w _ b _ λ e=>hs.mem.hot k hak (e ▸ hb);have hX:∀ b,g.X k b->(w.setRow (g.β k) new).heap[b]? = w.heap[b]? := λ b hb=>setRow_other w _ b _ λ e=>hs.ownX hak (e ▸ hb)
        have hB:BlkRel g (w.setRow (g.β k) new) k (.sn e1 s ea out (zbb es i j (.d d))) :=
         .inr ⟨new,_,hS.put hy0 ⟨_,setRow_heap w _ _ _ _ _ hpp,by rw[hnsz];exact hzf⟩ hnsz hget hF hX (λ _ _ _ _=>Iff.rfl) o1 (Rd.mono (zaL d1 hd) (λ _ h=>h) hF)⟩
        unfold Good Oper.wp;rw[hrun];refine⟨_,_,hK,g, ?_⟩
        exact(hs.setB (k:=k) hak (λ b hb=>setRow_other w _ b _ hb) (size_setRow _ _ _) rfl rfl rfl hB (by simp) (λ z hz=>hs.bornM k z (by rw[hm];rcases out with _|⟨_,_,_⟩ <;> exact hz))).put ho (.inl rfl) (by simp[SV.ids])
   | r e' s' l0 =>
    replace h:=zoP h;obtain⟨q,n,rfl,h⟩:=h;replace h:=zaj h;obtain⟨hqk,h⟩:=h
    have hqk:q≠k:=by
     rintro rfl;simp at hqk
    dsimp only[Pg.getB] at h;rw[zam] at h
    cases hq:m q with
    | row e2 s2 l1 =>
     rw[hq] at h;replace h:=zaj h;obtain⟨hw,h⟩:=h;simp only[zrk] at hw;obtain rfl:=zrh hw.1;obtain rfl:=zrh hw.2;obtain⟨⟨hn,hout⟩,r,rfl,hK⟩:=h
     have hvy:a.eval y=g.base q n:=by
      rcases hy with hy|hy
      .cases hy
      .generalize a.eval y=v at hy
       cases hy with
       | rs _ _ _=>rfl
     have hone:(g.base q n).cells.toList=[g.base q n]:=by unfold Gh.base;split <;> rfl
     have hcell:(g.base q n).oneCell'=true:=by unfold Gh.base;split <;> rfl
     obtain⟨new,hrun,hnsz,hget⟩:=key (g.base q n) hcell (by rw[hvy];exact hone);have hF:∀ b,g.F b->(w.setRow (g.β k) new).heap[b]? = w.heap[b]? := λ b hb=>setRow_other w _ b _ λ e=>hs.mem.hot k hak (e ▸ hb);have hX:∀ b,g.X k b->(w.setRow (g.β k) new).heap[b]? = w.heap[b]? := λ b hb=>setRow_other w _ b _ λ e=>hs.ownX hak (e ▸ hb)
     have hB:BlkRel g (w.setRow (g.β k) new) k (.sn e1 s ea (some (i,j,q)) (zbb es i j (.r e2 s2 l1))) :=
      .inr ⟨new,_,hS.put hy0 ⟨_,setRow_heap w _ _ _ _ _ hpp,by rw[hnsz];exact hzf⟩ hnsz hget hF hX (λ j' c' z hne=>⟨λ h=>absurd (by cases h;exact⟨rfl,rfl⟩) hne,λ h=>absurd (hout _ h) hne⟩) hcell (.inl ⟨q,rfl,by rw[hn]⟩)⟩
     have hsB:=hs.setB (k:=k) (b := .sn e1 s ea (some (i,j,q)) (zbb es i j (.r e2 s2 l1))) hak (λ b hb=>setRow_other w _ b _ hb) (size_setRow _ _ _) rfl rfl rfl hB (by simp) (by
      intro z hz;simp[Blk.ids] at hz;subst hz;rw[hq];simp)
     obtain⟨g',hsS⟩:=hsB.settle (k:=k) (z:=q) (q:=zbb es i j (.r e2 s2 l1)) (e1:=e1) (s:=s) (ea:=ea) ⟨i,j,zbb es i j (.r e2 s2 l1),e2,s2,l1,l1,by rw[za,if_pos rfl],by
      rw[za,if_neg (Ne.symm hqk)];exact hq,by rw[zdY,if_pos ⟨rfl,rfl⟩,hy0];rfl,rfl,by
      unfold zbb;rw[List.modify_modify_eq];congr 1;funext l;simp⟩
     unfold Good Oper.wp;rw[hrun];refine⟨_,_,hK,g', ?_⟩
     have hmm:mApp [(q, .dead),(k, .sn e1 s ea none (zbb es i j (.r e2 s2 l1)))] (mApp [(k, .sn e1 s ea (some (i,j,q)) (zbb es i j (.r e2 s2 l1)))] m)=mApp [(q, .dead),(k, .sn e1 s ea none (zbb es i j (.r e2 s2 l1)))] m:=by
      funext p;simp only[za];by_cases hp1:q=p
      .simp [hp1]
      .by_cases hp2:k=p
       .simp [hp2]
       .simp [hp1,hp2,mApp,beqF hp2]
     rw[hmm] at hsS;exact hsS.put ho (.inl rfl) (by simp[SV.ids])
    | _=>rw[hq] at h;exact h.elim
  | _=>rw[hm] at h;exact zcT hT hs ho hop hx hy hby h
 .exact zcT hT hs ho hop hx hy hby h
theorem zk6 {t:TypeId}{x:Operand}{id:Nat}(hT:TyOK P c.ty)(hs:SR fr nt g e m a w)(ho:∀ d,o.dst=some d->d<nt)(hp:fr.p<=id)(hop:o.op = .load t x)
  (h:Pg.opd x (λ sv=>match c.ty.at t with|some ti=>zf5 ti sv id|none=>Pg.fail) e m l K):Good P fr nt e m a w o K Q:=by
 obtain⟨y,l',hy,hb,h1⟩:=zaa hs h
 cases ht:c.ty.at t with
 | none=>simp only[ht] at h1;exact h1.elim
 | some ti=>simp only[ht] at h1;exact zja (hT t ti ht) hs ho hp hop hy hb h1
theorem zjb {t:TypeId}{x y:Operand}(hT:TyOK P c.ty)(hs:SR fr nt g e m a w)(ho:∀ d,o.dst=some d->d<nt)(hop:o.op = .store t x y)
  (h:Pg.opd x (λ sa=>Pg.opd y λ sx=>match c.ty.at t with|some ti=>zc7 ti sa sx|none=>Pg.fail) e m l K):Good P fr nt e m a w o K Q:=by
 obtain⟨sa,l',hx,_,h1⟩:=zaa hs h;obtain⟨sx,l2,hy,hb,h2⟩:=zaa hs h1
 cases ht:c.ty.at t with
 | none=>simp only[ht] at h2;exact h2.elim
 | some ti=>simp only[ht] at h2;exact zgX (hT t ti ht) hs ho hop hx hy hb h2
theorem zmm {F:Nat->Prop}{v:Value}{d:D}(hnt:d.noTup=true)(h:Rd F w v d){j:Nat}{dj:D}(hj:d.cells[j]? = some dj):∃ u,v.cells[j]? = some u/\u.oneCell'=true/\Rd F w u dj:=by
 cases h with
 | @agg vs cs h1 h2 h3 =>
  have hj':cs[j]? = some dj:=hj
  have hlt:j<vs.length:=by rw[h1];exact(zrf.1 hj').1
  exact⟨vs[j],by simp[Value.cells,hlt],h2 j _ _ (zrg hlt) hj',h3 j _ _ (zrg hlt) hj'⟩
 | @v x hp =>
  have:j=0:=by have:=(zrf.1 hj).1;simp[D.cells] at this;omega
  subst this;simp[D.cells] at hj;subst hj;have h1:=zl8 hp;refine⟨v, ?_,h1, .v hp⟩
  cases v <;> first|rfl|simp[Value.oneCell'] at h1
 | tup=>simp[D.noTup] at hnt
 | nil hc => 
  have:j=0:=by have:=(zrf.1 hj).1;simp[D.cells] at this;omega
  subst this;simp[D.cells] at hj;subst hj;exact⟨_,rfl,rfl, .nil hc⟩
 | sl f h4 h5 h6 h7 h8 h9 h10 h11 =>
  have:j=0:=by have:=(zrf.1 hj).1;simp[D.cells] at this;omega
  subst this;simp[D.cells] at hj;subst hj;exact⟨_,rfl,rfl, .sl f h4 h5 h6 h7 h8 h9 h10 h11⟩
 | ifc h1 =>
  have:j=0:=by have:=(zrf.1 hj).1;simp[D.cells] at this;omega
  subst this;simp[D.cells] at hj;subst hj;exact⟨_,rfl,rfl, .ifc h1⟩
 | pt f h1 h2 h3 h4 =>
  have:j=0:=by have:=(zrf.1 hj).1;simp[D.cells] at this;omega
  subst this;simp[D.cells] at hj;subst hj;exact⟨_,rfl,rfl, .pt f h1 h2 h3 h4⟩
 | mp h1 h2 h3 h4 h5 h6 =>
  have:j=0:=by have:=(zrf.1 hj).1;simp[D.cells] at this;omega
  subst this;simp[D.cells] at hj;subst hj;exact⟨_,rfl,rfl, .mp h1 h2 h3 h4 h5 h6⟩
theorem zkd {F:Nat->Prop}{v:Value}{d:D}(hnt:d.noTup=true)(h:Rd F w v d):v.cells.size=d.cells.length:=by
 cases h with
 | @agg vs cs h1 h2 h3=>simpa [Value.cells,D.cells] using h1
 | @v x hp=>have h1:=zl8 hp;cases v <;> first|rfl|simp[Value.oneCell'] at h1
 | tup=>simp[D.noTup] at hnt
 | nil hc=>rfl
 | sl f h4 h5 h6 h7 h8 h9 h10 h11=>rfl
 | ifc h1=>rfl
 | pt=>rfl
 | mp=>rfl
theorem zke {z:Array Value}{n s i j:Nat}(hz:z.size=s)(hj:j<s)(hi:i<n):(madeCells z (n*s))[i*s+j]? = z[j]? := by
 have h1:i*s+j<n*s:=by
  have:(i+1)*s<=n*s:=Nat.mul_le_mul_right _ hi;rw[Nat.add_mul] at this;omega
 unfold madeCells
 have h2:(i*s+j) % z.size=j:=by rw[hz,Nat.mul_comm,Nat.mul_add_mod];exact Nat.mod_eq_of_lt hj
 have h3:j<z.size:=by omega
 simp[h1,h2,h3]
theorem zmn {id n cap:Nat}{cur:Array Value}{t e':TypeId}{s':Nat}(hs:SR fr nt g e m a w)(ho:∀ d,o.dst=some d->d<nt)(hid:fr.p<=id/\m id = .unborn)
  (hrun:(execOp a.eval o).run P w = .ok (.value (.slice (some ⟨w.heap.size,0,none⟩) n cap)) (w.alloc (.cells cur t)))
  (hn:n<=cap) (hcap:cap<=maxLen) (hsz:cur.size=cap) (hcell:∀ i,i<n->cur[i]? = some (.slice none 0 0))
  (hK:K ⟨.rs id n,[(id, .sn t 1 false none (List.replicate n [.r e' s' []]))]⟩ l):Good P fr nt e m a w o K Q:=by
 unfold Good Oper.wp;rw[hrun];refine⟨_,_,hK,g.set id w.heap.size cap false, ?_⟩
 have hN:(g.set id w.heap.size cap false).N id=false:=by simp[Gh.set]
 have hB:(g.set id w.heap.size cap false).β id=w.heap.size:=by simp[Gh.set]
 have hC:(g.set id w.heap.size cap false).C id=cap:=by simp[Gh.set]
 have h1:=(hs.ext (Ext.alloc w (.cells cur t))).born (id:=id) (b:=w.heap.size) (cap:=cap) (nl:=false) (bl := .sn t 1 false none (List.replicate n [.r e' s' []])) hid.1 hid.2 (by simp)
  (.inr ⟨cur,λ _ _=>none,⟨hN,⟨_,by rw[hB];exact za7 w _, .inl rfl⟩,by rw[hC,zd hcap,zb1 hcap,hsz];omega,by rw[hC,zb1 hcap];simpa using hn,λ l hl=>by rw[(List.mem_replicate.1 hl).2];rfl,λ i c lx x hi hx=>by
   have hlt:i<n:=by simpa using (zrf.1 hi).1
   have hle:lx=[.r e' s' []]:=(List.mem_replicate.1 (zri hi)).2;subst hle
   cases c with
   | succ c=>simp at hx
   | zero =>
    cases hx
    exact⟨_,by rw[hC,zd hcap,Nat.zero_add,Nat.mul_one,Nat.add_zero];exact hcell i hlt,rfl, .inr ⟨by simp,rfl,rfl⟩⟩,λ _ _ _ _ h=>(by cases h),λ _ _ _ _ _ _ _ h=>(by cases h)⟩⟩) (by simp[Blk.ids])
  (λ _=>⟨λ k hk h=>by have:=zaT hs.mem hk;omega,λ h=>by have:=hs.mem.lt _ h;omega,λ h=>by have:=(hs.keep _ h).1;have:=hs.size;omega, .inr hs.size⟩) (λ _ k hk hx=>by have:=(hs.mem.own k _ hk hx).1;omega)
 refine h1.put ho (.inr ?_) ?_
 .have:=Den.rs (g:=g.set id w.heap.size cap false) (w:=w.alloc (.cells cur t)) (k:=id) (n:=n) (by simp[hN]) (by rw[hC,zb1 hcap];exact λ _=>hn) (by omega)
  simpa [Gh.base,hN,hB,hC,zd hcap,zb1 hcap] using this
 .intro k hk
  simp[SV.ids] at hk;subst hk;rw[za,if_pos rfl];simp
theorem zfV {t:TypeId}{x y:Operand}{id:Nat}(hT:TyOK P c.ty)(hs:SR fr nt g e m a w)(ho:∀ d,o.dst=some d->d<nt)(hid:fr.p<=id/\m id = .unborn)(hop:o.op = .makeSlice t x y)
  (h:Pg.opd x (λ sn=>Pg.opd y λ sc=>zbV c t sn sc id) e m l K):Good P fr nt e m a w o K Q:=by
 obtain⟨sn,l1,hx,_,h⟩:=zaa hs h;obtain⟨sc,l2,hy,_,h⟩:=zaa hs h;unfold zbV at h;obtain⟨k1,n,k2,n',rfl,rfl,h⟩:=znY h
 .obtain ⟨hvx,_⟩:=Den.int hx
  obtain⟨hvy,hry⟩:=Den.int hy
  cases ht:c.ty.at t with
  | none=>simp only[ht] at h;exact h.elim
  | some ti =>
  obtain⟨kk,sz,by_,ag,cz,zz⟩:=ti
  cases kk with
  | slice el es ea =>
   simp only[ht] at h;obtain⟨d,hd,_,hk⟩:=(hT t _ ht).desc;dsimp only at hk;obtain⟨rfl,ie,hie,hies⟩:=hk
   cases hte:c.ty.at el with
   | none=>simp only[hte] at h;exact h.elim
   | some te =>
   obtain⟨i,zv,hi,his,hib,hz,hzc,hzl⟩:=(hT el te hte).info
   have hts:te.size=es:=by rw[hie] at hi;cases hi;rw[<- his,hies]
   have run:∀ (h0:0<=n) (h1:n<=n') (h2:n'*te.bytes<=140737488355328) (hb:1<=te.bytes),(execOp a.eval o).run P w = .ok (.value (.slice (some ⟨w.heap.size,0,none⟩) n.toNat n'.toNat)) (w.alloc (.cells (madeCells zv.cells (n'.toNat*te.size)) el))/\n'.toNat<=maxLen:=by
    intro h0 h1 h2 hb
    have hn':n'<=n'*te.bytes:=by
     have:=Int.mul_le_mul_of_nonneg_left (show (1:Int)<=te.bytes by omega) (show 0<=n' by omega);omega
    have:=run_make (P:=P) w t el i zv hd hi hz k1 k2 n n' h0 h1 (by rw[hib,Int.mul_comm];omega) (by omega);rw[his] at this;exact⟨by simp[execOp,hop,hvx,hvy,this],by simp only[maxLen];omega⟩
   have gen:(match zb0 te with
    | some z=>when_ (Nat.ble 1 es&&Nat.ble 1 te.bytes&&Nat.beq z.cells.length es&&D.noTup z) (cond (0<=n/\n<=n'/\n'*te.bytes<=140737488355328) (Pg.ex (λ q:Nat×List D=>q.1=n.toNat/\q.2=List.replicate n.toNat z) λ q=>Pg.ret ⟨.rs id q.1,[(id, .row el es q.2)]⟩))
    | none=>Pg.fail) e m l2 K->Good P fr nt e m a w o K Q:=by
    intro h
    cases hzd:zb0 te with
    | none=>rw[hzd] at h;exact h.elim
    | some z =>
     rw[hzd] at h;dsimp only at h;obtain⟨hw,⟨h0,h1,h2⟩,⟨q1,q2⟩,⟨e1,e2⟩,hK⟩:=zaj h;dsimp only at e1 e2;subst e1 e2;simp only[zrk] at hw;obtain⟨⟨⟨w1,w2⟩,w3⟩,w4⟩:=hw;have w1:=zrj w1;have w2:=zrj w2;have w3:=zrh w3;obtain⟨hr,hmx⟩:=run h0 h1 h2 w2;obtain⟨v,hv1,hv2⟩:=zb3 (g:=g) (w:=w) (hT el te hte) hzd _ rfl
     have hvz:v=zv:=by
      simp[zeroValue,typeInfo,hi,hz] at hv1;exact hv1.symm
     subst hvz
     have hcz:v.cells.size=es:=by rw[zkd w4 hv2,w3]
     have hmm:(n.toNat)<=n'.toNat:=by omega
     refine zeN hs ho hid (Ext.refl w) hr hmm hmx (by simpa using hmm) (by rw[size_madeCells,hts]) (λ el' hel=>?_) (λ p j el' dj hel hdj=>?_) hK
     .rw [(List.mem_replicate.1 hel).2,w3]
     .have hp:p<n.toNat:=by simpa using (zrf.1 hel).1
      have he:el'=z:=(List.mem_replicate.1 (zri hel)).2;subst he;obtain⟨u,u1,u2,u3⟩:=zmm w4 hv2 hdj
      have hj:j<es:=by rw[<- w3];exact(zrf.1 hdj).1
      exact⟨u,by rw[hts,zke hcz hj (by omega)];exact u1,u2,u3⟩
   simp only[hte] at h
   cases hne:zpf te with
   | none=>rw[hne] at h;exact gen h
   | some ee =>
    obtain⟨e',es'⟩:=ee;rw[hne] at h
    have hf:Nat.beq te.size 1=true/\Nat.ble 1 te.bytes=true/\nilZ te.zero=true:=by
     unfold zpf at hne
     split at hne
     .cases hc:(Nat.beq te.size 1&&Nat.ble 1 te.bytes && !te.agg&&nilZ te.zero) with
      | false=>rw[hc] at hne;cases hne
      | true=>simp only[zrk] at hc;exact⟨hc.1.1.1,hc.1.1.2,hc.2⟩
     .cases hne
    obtain⟨f1,f2,f3⟩:=hf;have f1:=zrh f1;have f2:=zrj f2
    have f3:te.zero=[.slice none 0 0]:=by
     unfold nilZ at f3
     split at f3
     .assumption
     .cases f3
    replace h:=zaj h;obtain⟨hw,⟨h0,h1,h2⟩,⟨q1,q2⟩,⟨e1,e2⟩,hK⟩:=h;dsimp only at e1 e2;subst e1 e2;obtain⟨hr,hmx⟩:=run h0 h1 h2 f2
    have hmm:(n.toNat)<=n'.toNat:=by omega
    have hzc':zv.cells = #[.slice none 0 0]:=by
     apply Array.ext';rw[hzc,f3]
    rw[f1] at hr;refine zmn hs ho hid hr hmm hmx (by rw[size_madeCells,Nat.mul_one]) (λ p hp=>?_) hK;have:=zke (z:=zv.cells) (n:=n'.toNat) (s:=1) (i:=p) (j:=0) (by rw[hzc'];rfl) (by omega) (by omega);rw[show p*1+0=p by omega] at this;rw[this,hzc'];rfl
  | _=>simp only[ht] at h;exact h.elim
theorem zk7 {A:Int->Pg}{x y:SV}(h:(match x,y with | .nil, .dat (.v (.int _ n))=>A n|_,_=>Pg.fail) e m l K):∃ k n,x = .nil/\y = .dat (.v (.int k n))/\A n e m l K:=by
 split at h
 .exact ⟨_,_,rfl,rfl,h⟩
 .exact h.elim
theorem znZ {z:Array Value}{n s i j:Nat}(hz:z.size=s)(hj:j<s)(hi:i<n):(Builtin.zeroCells z n)[i*s+j]? = z[j]? := by
 have h1:i*s+j<n*s:=by
  have:(i+1)*s<=n*s:=Nat.mul_le_mul_right _ hi;rw[Nat.add_mul] at this;omega
 unfold Builtin.zeroCells
 have h2:(i*s+j) % z.size=j:=by rw[hz,Nat.mul_comm,Nat.mul_add_mod];exact Nat.mod_eq_of_lt hj
 have h3:j<z.size:=by omega
 have h4:i*s+j<n*z.size:=by rw[hz];exact h1
 simp[h4,h2,h3]
theorem zia {t t':TypeId}{x y:Operand}{id:Nat}(hT:TyOK P c.ty)(hs:SR fr nt g e m a w)(ho:∀ d,o.dst=some d->d<nt)(hid:fr.p<=id/\m id = .unborn)
  (hop:o.op = .call { callee := .builtin .append,args := #[x,y],argTypes := #[t,t'] }) (hi':zj2 c t'=true) (h:zdH c x y t id e m l K):Good P fr nt e m a w o K Q:=by
 obtain⟨sn,l1,hx,_,h⟩:=zaa hs h;obtain⟨sc,l2,hy,_,h⟩:=zaa hs h;obtain⟨k2,n,rfl,rfl,h⟩:=zk7 h
 have hvx:a.eval x = .slice none 0 0:=by
  rcases hx with hx|hx
  .cases hx
  .generalize a.eval x=v at hx
   cases hx;rfl
 obtain⟨hvy,hry⟩:=Den.int hy
 have htn:∃ kn,P.underlying t'=some (.int kn):=by
  unfold zj2 at hi'
  cases ht':c.ty.at t' with
  | none=>rw[ht'] at hi';cases hi'
  | some ti =>
   obtain⟨kk,sz,by_,ag,cz,zz⟩:=ti;rw[ht'] at hi'
   cases kk <;> first|(cases hi';done)|skip
   obtain⟨d,hd,_,hk⟩:=(hT t' _ ht').desc;dsimp only at hk;exact⟨_,by rw[hd,hk]⟩
 obtain⟨kn,htn⟩:=htn
 cases ht:c.ty.at t with
 | none=>simp only[ht] at h;exact h.elim
 | some ti =>
 obtain⟨kk,sz,by_,ag,cz,zz⟩:=ti
 cases kk with
 | slice el es ea =>
  simp only[ht] at h;obtain⟨d,hd,_,hk⟩:=(hT t _ ht).desc;dsimp only at hk;obtain⟨rfl,ie,hie,hies⟩:=hk
  cases hte:c.ty.at el with
  | none=>simp only[hte] at h;exact h.elim
  | some te =>
  simp only[hte] at h;obtain⟨i,zv,hi,his,hib,hz,hzc,hzl⟩:=(hT el te hte).info
  have hts:te.size=es:=by rw[hie] at hi;cases hi;rw[<- his,hies]
  cases hzd:zb0 te with
  | none=>rw[hzd] at h;exact h.elim
  | some z =>
   rw[hzd] at h;dsimp only at h;replace h:=zaj h;obtain⟨hw,⟨h0,h2⟩,⟨q1,q2⟩,⟨e1,e2⟩,hK⟩:=h;dsimp only at e1 e2;subst e1 e2;simp only[zrk] at hw;obtain⟨⟨⟨w1,w2⟩,w3⟩,w4⟩:=hw;have w1:=zrj w1;have w2:=zrj w2;have w3:=zrh w3
   have hn':n<=n*te.bytes:=by
    have:=Int.mul_le_mul_of_nonneg_left (show (1:Int)<=te.bytes by omega) (show 0<=n by omega);omega
   obtain⟨n,rfl⟩:∃ m:Nat,n=m:=⟨n.toNat,by omega⟩
   have h2':n*te.bytes<=140737488355328:=by
    have:((n*te.bytes:Nat):Int)=(n:Int)*te.bytes:=by simp
    omega
   have hrun:=Lib.run_append_nil_zeros (P:=P) w t t' o.type el i zv k2 kn hd htn hi hz n (by omega) (by rw[his];omega) (by omega) (by rw[hib];omega);generalize hcap:grownCap w n 0 el=cap at hrun
   have hc1:n<=cap:=by rw[<- hcap];exact grownCap_ge w n 0 el
   have hc2:cap<=maxLen:=by rw[<- hcap];exact grownCap_le_maxLen w n 0 el (by simp only[maxLen];omega)
   obtain⟨v,hv1,hv2⟩:=zb3 (g:=g) (w:=w) (hT el te hte) hzd _ rfl
   have hvz:v=zv:=by
    simp[zeroValue,typeInfo,hi,hz] at hv1;exact hv1.symm
   subst hvz
   have hcz:v.cells.size=es:=by rw[zkd w4 hv2,w3]
   have hrun':(execOp a.eval o).run P w = .ok (.value (.slice (some ⟨w.drew.heap.size,0,none⟩) n cap)) (w.drew.alloc (.cells (Builtin.zeroCells v.cells n++Builtin.zeroCells v.cells (cap-n)) el)):=by
    simp[execOp,hop,resolve,invoke,builtin,hvx,hvy,hrun]
   rw[Int.toNat_natCast] at hK;refine zeN hs ho hid (Ext.drew w) hrun' hc1 hc2 (by simpa using hc1) ?_ (λ el' hel=>?_) (λ p j el' dj hel hdj=>?_) hK
   .rw [Array.size_append,size_zeroCells,size_zeroCells,hcz,<- Nat.add_mul];congr 1;omega
   .rw [(List.mem_replicate.1 hel).2,w3]
   .have hp:p<n:=by simpa using (zrf.1 hel).1
    have he:el'=z:=(List.mem_replicate.1 (zri hel)).2;subst he;obtain⟨u,u1,u2,u3⟩:=zmm w4 hv2 hdj
    have hj:j<es:=by rw[<- w3];exact(zrf.1 hdj).1
    refine⟨u, ?_,u2,u3⟩
    have hlt:p*es+j<(Builtin.zeroCells v.cells n).size:=by
     rw[size_zeroCells,hcz];have:(p+1)*es<=n*es:=Nat.mul_le_mul_right _ hp;rw[Nat.add_mul] at this;omega
    rw[Array.getElem?_append_left hlt,znZ hcz hj hp];exact u1
 | _=>simp only[ht] at h;exact h.elim
end
end Go.Vc
namespace Go.Vc
open Go.RowKit
section
variable {P:Program} {fr:Fr} {nt:Nat} {g:Gh} {e:Nat->SV} {m:Nat->Blk} {a:Act} {w:World} {c:Ctx} {o:Oper} {K:Dl->List Loc->Prop} {Q:Exit->Act->World->Prop} {l:List Loc}
def zfW (F:Nat->Prop)(w:World)(X:Nat->Prop)(I:Option (Nat×Nat))(u:Value):MC->Prop
 | .d x=>Rd F w u x
 | .r e s l=>match I with
  | none=>l=[]/\u = .slice none 0 0
  | some (b,c)=>u = .slice (some ⟨b,co c,none⟩) l.length (cc c)/\X b/\RowAt F w b e s c l
 | _=>False
structure SnSide (F:Nat->Prop)(w:World)(X:Nat->Prop)(s:Nat)(es:List (List MC))(xs:List Value)(I:Nat->Nat->Option (Nat×Nat)):Prop where
 len:∀ l,l∈es->l.length=s
 xl:xs.length=es.length*s
 mem:∀ (i o:Nat) l x,es[i]? = some l->l[o]? = some x->∃ u,xs[i*s+o]? = some u/\u.oneCell'=true/\zfW F w X (I i o) u x
 dom:∀ i o b c,I i o=some (b,c)->∃ e' s' l,snAt es i o=some (.r e' s' l)
 inj:∀ i o i' o' b c c',I i o=some (b,c)->I i' o'=some (b,c')->i=i'/\o=o'
theorem SnSide.nil {F:Nat->Prop}{X:Nat->Prop}{s:Nat}:SnSide F w X s [] [] λ _ _=>none :=
 ⟨λ _ h=>(by cases h),by simp,λ _ _ _ _ h=>(by simp at h),λ _ _ _ _ h=>(by cases h),λ _ _ _ _ _ _ _ h=>(by cases h)⟩
theorem SnAt.side {k s:Nat}{e:TypeId}{es:List (List MC)}{cur:Array Value}{I:Nat->Nat->Option (Nat×Nat)}(h:SnAt g w k e s none es cur I):SnSide g.F w (g.X k) s es ((cur.toList.drop (co (g.C k))).take (es.length*s)) I:=by
 have hle:es.length*s<=cc (g.C k)*s:=Nat.mul_le_mul_right _ h.le;have hsz:=h.size;refine⟨h.len,by simp;omega,λ i o l x hl hx=>?_,λ i o b c hI=>(h.dom i o b c hI).1,h.inj⟩;obtain⟨u,u1,u2,u3⟩:=h.mem i o l x hl hx;have hi:i<es.length:=(zrf.1 hl).1
 have ho:o<s:=by rw[<- h.len l (zri hl)];exact(zrf.1 hx).1
 have hlt:i*s+o<es.length*s:=by
  have:(i+1)*s<=es.length*s:=Nat.mul_le_mul_right _ hi;rw[Nat.add_mul] at this;omega
 refine⟨u,by rw[List.getElem?_take,if_pos hlt,List.getElem?_drop,Array.getElem?_toList];exact u1,u2, ?_⟩
 cases x with
 | d x=>exact u3
 | p c t=>exact u3
 | m l=>exact u3
 | r e2 s2 l2 =>
  rcases u3 with ⟨z,hz,_⟩|⟨_,u3⟩
  .cases hz
  .unfold InRow at u3
   unfold zfW;exact u3
theorem SnSide.app {w':World}{F X Y:Nat->Prop}{s:Nat}{es fs:List (List MC)}{xs ys:List Value}{I J:Nat->Nat->Option (Nat×Nat)}(h:SnSide F w X s es xs I)(h':SnSide F w Y s fs ys J)
  (hF:∀ b,F b->w'.heap[b]? = w.heap[b]?) (hX:∀ b,X b->w'.heap[b]? = w.heap[b]?) (hY:∀ b,Y b->w'.heap[b]? = w.heap[b]?) (hXY:∀ b,X b->Y b->False) :
  SnSide F w' (λ b=>X b∨Y b) s (es++fs) (xs++ys) λ i o=>if i<es.length then I i o else J (i-es.length) o:=by
 have ownI:∀ {i o b c},I i o=some (b,c)->X b:=λ {i o b c} hI=>by
  obtain⟨e',s',l,hs⟩:=h.dom i o b c hI;obtain⟨li,h1,h2⟩:=zcd hs;obtain⟨u,_,_,u3⟩:=h.mem i o li _ h1 h2;unfold zfW at u3;rw[hI] at u3;exact u3.2.1
 have ownJ:∀ {i o b c},J i o=some (b,c)->Y b:=λ {i o b c} hI=>by
  obtain⟨e',s',l,hs⟩:=h'.dom i o b c hI;obtain⟨li,h1,h2⟩:=zcd hs;obtain⟨u,_,_,u3⟩:=h'.mem i o li _ h1 h2;unfold zfW at u3;rw[hI] at u3;exact u3.2.1
 have mono:∀ {Z:Nat->Prop} {I0:Option (Nat×Nat)} {u:Value} {x:MC},(∀ b,Z b->w'.heap[b]? = w.heap[b]?)->(∀ b,Z b->X b∨Y b)->zfW F w Z I0 u x->zfW F w' (λ b=>X b∨Y b) I0 u x:=by
  intro Z I0 u x hZ hZ2 hc
  cases x with
  | d x=>exact Rd.mono hc (λ _ h=>h) hF
  | p c t=>exact hc
  | m l=>exact hc
  | r e2 s2 l2 =>
   unfold zfW at hc ⊢
   cases I0 with
   | none=>exact hc
   | some bc=>obtain⟨b,c⟩:=bc;exact⟨hc.1,hZ2 b hc.2.1,hc.2.2.mono (λ _ h=>h) hF (hZ b hc.2.1)⟩
 refine⟨λ l hl=>(List.mem_append.1 hl).elim (h.len l) (h'.len l),by rw[List.length_append,List.length_append,h.xl,h'.xl,Nat.add_mul],λ i o l x hl hx=>?_,λ i o b c hI=>?_,λ i o i' o' b c c' h1 h2=>?_⟩
 .by_cases hi:i<es.length
  .rw [List.getElem?_append_left hi] at hl
   obtain⟨u,u1,u2,u3⟩:=h.mem i o l x hl hx;refine⟨u, ?_,u2, ?_⟩
   .rw [List.getElem?_append_left (zrf.1 u1).1];exact u1
   .rw [if_pos hi];exact mono hX (λ b hb=>.inl hb) u3
  .rw [List.getElem?_append_right (by omega)] at hl
   obtain⟨u,u1,u2,u3⟩:=h'.mem (i-es.length) o l x hl hx;have hge:es.length*s<=i*s:=Nat.mul_le_mul_right _ (by omega);refine⟨u, ?_,u2, ?_⟩
   .rw [List.getElem?_append_right (by rw[h.xl];omega),h.xl,<- u1]
    congr 1
    rw[Nat.sub_mul];omega
   .rw [if_neg hi];exact mono hY (λ b hb=>.inr hb) u3
 .unfold snAt
  by_cases hi:i<es.length
  .rw [if_pos hi] at hI
   rw[List.getElem?_append_left hi];exact h.dom i o b c hI
  .rw [if_neg hi] at hI
   rw[List.getElem?_append_right (by omega)];exact h'.dom _ o b c hI
 .by_cases hi:i<es.length <;> by_cases hi':i'<es.length
  .rw [if_pos hi] at h1;rw[if_pos hi'] at h2;exact h.inj _ _ _ _ _ _ _ h1 h2
  .rw [if_pos hi] at h1;rw[if_neg hi'] at h2;exact(hXY b (ownI h1) (ownJ h2)).elim
  .rw [if_neg hi] at h1;rw[if_pos hi'] at h2;exact(hXY b (ownI h2) (ownJ h1)).elim
  .rw [if_neg hi] at h1;rw[if_neg hi'] at h2
   have:=h'.inj _ _ _ _ _ _ _ h1 h2;exact⟨by omega,this.2⟩
theorem SnSide.at {F:Nat->Prop}{X:Nat->Prop}{s k gb off cap n:Nat}{e:TypeId}{es:List (List MC)}{xs:List Value}{I:Nat->Nat->Option (Nat×Nat)}{cur:Array Value}(h:SnSide F w X s es xs I)(hF:g.F=F)(hX:∀ b,X b->g.X k b)(hN:g.N k=false)(hB:g.β k=gb)(hC:g.C k=occ off cap)
  (hmx:cap<=maxLen) (hp:∃ z,w.heap[gb]? = some (.cells cur e z)/\Free z cur.size) (hn:es.length=n) (hle:n<=cap) (hsz:off+cap*s<=cur.size) (htk:(cur.toList.drop off).take (n*s)=xs):SnAt g w k e s none es cur I:=by
 refine⟨hN,by rw[hB];exact hp,by rw[hC,zdT hmx,zcN hmx];exact hsz,by rw[hC,zcN hmx,hn];exact hle,h.len,λ i o l x hl hx=>?_,λ i o b c hI=>⟨h.dom i o b c hI,by simp⟩,h.inj⟩;obtain⟨u,u1,u2,u3⟩:=h.mem i o l x hl hx;refine⟨u, ?_,u2, ?_⟩
 .rw [<- htk,List.getElem?_take] at u1
  split at u1
  .rw [List.getElem?_drop,Array.getElem?_toList] at u1
   rw[hC,zdT hmx];exact u1
  .cases u1
 .subst hF
  cases x with
  | d x=>exact u3
  | p c t=>exact u3
  | m l=>exact u3
  | r e2 s2 l2 =>
   refine .inr ⟨by simp, ?_⟩;unfold zfW at u3;unfold InRow
   cases hI:I i o with
   | none=>rw[hI] at u3;exact u3
   | some bc=>obtain⟨b,c⟩:=bc;rw[hI] at u3;exact⟨u3.1,hX b u3.2.1,u3.2.2⟩
theorem SR.growSn {id s n n':Nat}{el:TypeId}{ea:Bool}{es1 es2:List (List MC)}{v v':Value}{w':World}{xs ys:List Value}{I1 I2:Nat->Nat->Option (Nat×Nat)}{X1 X2 D:Nat->Prop}{m1 m':Nat->Blk}(hs:SR fr nt g e m a w)(hid:fr.p<=id/\m id = .unborn)
  (h1:SnSide g.F w X1 s es1 xs I1) (h2:SnSide g.F w X2 s es2 ys I2) (hn:es1.length=n) (hn':es2.length=n') (x1:∀ b,X1 b->∃ d,D d/\OwnS g m d b) (x2:∀ b,X2 b->∃ d,D d/\OwnS g m d b) (x12:∀ b,X1 b->X2 b->False)
  (xv:∀ b,v.ownBlock=some b->(∃ d,D d/\OwnS g m d b)/\¬ X1 b/\¬ X2 b) (r2:zbv w' el s v' (n+n') (xs++ys)) (r3:w.grownBy w' v.ownBlock) (r5:v'.ownBlock=v.ownBlock∨v'.ownBlock=some w.heap.size) (hmx:n+n'<=maxLen)
  (hk:SR fr nt g e m1 a w) (m1D:∀ d,D d->m1 d = .dead) (m1o:∀ p,¬ D p->m1 p=m p) (hD:∀ d,D d->m d ≠ .unborn)
  (mid:m' id = .sn el s ea none (es1++es2)) (mD:∀ d,D d->m' d = .dead) (mo:∀ p,p≠id->¬ D p->m' p=m p) :
  ∃ g',SR fr nt g' e m' a w'/\DenO g' w' v' (.rs id (n+n')):=by
 have idD:¬ D id:=λ h=>hD id h hid.2
 have alm1:∀ p,zac g m1 p->¬ D p/\zac g m p:=by
  intro p hp
  have:¬ D p:=λ hd=>by unfold zac at hp;rw[m1D p hd] at hp;exact hp
  refine⟨this, ?_⟩;unfold zac at hp ⊢;rw[m1o p this] at hp;exact hp
 have xlt:∀ b,X1 b∨X2 b->b<w.heap.size:=by
  rintro b (hb|hb)
  .obtain ⟨d,_,h⟩:=x1 b hb;exact(hs.ownS h).1
  .obtain ⟨d,_,h⟩:=x2 b hb;exact(hs.ownS h).1
 have hs2:SR fr nt g e m1 a w':=hk.extH (hole:=λ b=>v.ownBlock=some b) r3.os r3.tape r3.output r3.size (λ b hb hh=>r3.block b hb (λ e=>hh e.symm))
  (λ p hp=>by
   obtain⟨h3,h4⟩:=alm1 p hp;refine⟨λ hh=>?_,λ b hx hh=>?_⟩
   .obtain ⟨⟨d,d1,d2⟩,_⟩:=xv _ hh
    have:p=d:=hs.ownU ⟨h4, .inl rfl⟩ d2;subst this;exact h3 d1
   .obtain ⟨⟨d,d1,d2⟩,_⟩:=xv _ hh
    have:p=d:=hs.ownU ⟨h4, .inr hx⟩ d2
    subst this;exact h3 d1) λ b hh=>by
   obtain⟨⟨d,d1,d2⟩,_⟩:=xv b hh;exact⟨(hs.ownS d2).2.1,(hs.ownS d2).2.2.1⟩
 have hF:∀ b,g.F b->w'.heap[b]? = w.heap[b]? := λ b hb=>r3.block b (hs.mem.lt b hb) λ e=>by
  obtain⟨⟨d,d1,d2⟩,_⟩:=xv b e.symm;exact(hs.ownS d2).2.1 hb
 have side:=h1.app (w':=w') h2 hF (λ b hb=>r3.block b (xlt b (.inl hb)) λ e=>(xv b e.symm).2.1 hb) (λ b hb=>r3.block b (xlt b (.inr hb)) λ e=>(xv b e.symm).2.2 hb) x12
 have hlen:(es1++es2).length=n+n':=by rw[List.length_append,hn,hn']
 obtain⟨gb,off,cap,nl,cur,hnl,hnn⟩:∃ gb off cap nl cur,(nl=true->v' = .slice none 0 0/\n+n'=0)/\(nl=false->v' = .slice (some ⟨gb,off,none⟩) (n+n') cap/\(∃ z,w'.heap[gb]? = some (.cells cur el z)/\Free z cur.size)/\n+n'<=cap/\cap<=maxLen/\off+cap*s<=cur.size/\(cur.toList.drop off).take ((n+n')*s)=xs++ys):=by
  rcases r2.2 with ⟨q1,q2⟩|⟨gb,off,cap,cur,q1,q2,q3,q4,q5,q6⟩
  .exact ⟨0,0,0,true,#[],λ _=>⟨q1,q2⟩,by simp⟩
  .exact ⟨gb,off,cap,false,cur,by simp,λ _=>⟨q1,q2,q3,q4,q5,q6⟩⟩
 let g':Gh:={ β:=λ p=>if p=id then gb else g.β p,C:=λ p=>if p=id then occ off cap else g.C p,N:=λ p=>if p=id then nl else g.N p,M:=λ p=>if p=id then [] else g.M p,F:=g.F,X:=λ p b=>if p=id then X1 b∨X2 b else g.X p b }
 have agree:∀ p,p≠id->g'.β p=g.β p/\g'.C p=g.C p/\g'.N p=g.N p/\g.M p <+: g'.M p:=λ p hp=>by simp[g',hp]
 have ne:∀ p,m p ≠ .unborn->p≠id:=λ p hp e=>hp (e ▸ hid.2);have ne1:∀ p,m1 p ≠ .unborn->p≠id:=λ p hp e=>hp (by rw[e,m1o id idD];exact hid.2)
 have gbo:nl=false->(v.ownBlock=some gb∨(gb=w.heap.size/\gb<w'.heap.size)):=λ h=>by
  obtain⟨q1,⟨z,q2,_⟩,_⟩:=hnn h
  have hob:v'.ownBlock=some gb:=by rw[q1];rfl
  rcases r5 with r5|r5
  .exact .inl (by rw[<- r5];exact hob)
  .refine .inr ⟨?_,(Array.getElem?_eq_some_iff.1 q2).1⟩
   rw[hob] at r5;exact Option.some.inj r5
 have alv:∀ p,p≠id->zac g' m' p->zac g m p/\¬ D p:=by
  intro p hp h
  have hnd:¬ D p:=λ hd=>by unfold zac at h;rw[mD p hd] at h;exact h
  refine⟨?_,hnd⟩;unfold zac at h ⊢;rw[mo p hp hnd,(agree p hp).2.2.1] at h;exact h
 have alid:zac g' m' id->nl=false:=λ h=>by unfold zac at h;rw[mid] at h;simpa [g'] using h
 have old:∀ p b,OwnS g' m' p b->(p≠id/\OwnS g m p b/\¬ D p)∨(p=id/\((∃ d,D d/\OwnS g m d b)∨(w.heap.size<=b/\b<w'.heap.size))):=by
  rintro p b ⟨ha,hx⟩;by_cases hp:p=id
  .subst hp
   refine .inr ⟨rfl, ?_⟩
   rcases hx with hx|hx
   .have hb:gb=b:=by simpa [g'] using hx
    subst hb
    rcases gbo (alid ha) with h|⟨h,h'⟩
    .exact .inl (xv gb h).1
    .exact .inr ⟨by omega,h'⟩
   .have hx':X1 b∨X2 b:=by simpa [g'] using hx
    rcases hx' with hx'|hx'
    .exact .inl (x1 b hx')
    .exact .inl (x2 b hx')
  .obtain ⟨h3,h4⟩:=alv p hp ha
   refine .inl ⟨hp,⟨h3, ?_⟩,h4⟩
   rcases hx with hx|hx
   .exact .inl (by rw[<- hx,(agree p hp).1])
   .exact .inr (by simpa [g',hp] using hx)
 refine⟨g',hs.renew r3.os r3.tape r3.output r3.size rfl (λ b hb=>?_) (λ p hp=>agree p (ne p hp)) (λ p hp=>agree p (by have:=hid.1;omega)) (λ p hp=>?_) (λ p=>?_) (λ b p hp=>?_) (λ p b h=>?_) (λ p p' b h h' => ?_) λ p hp hx=>?_, .inr ?_⟩
 .by_cases hh:v.ownBlock=some b
  .obtain ⟨⟨d,_,hd⟩,_⟩:=xv b hh;exact .inr ⟨d,hd⟩
  .exact .inl (r3.block b hb λ e=>hh e.symm)
 .by_cases hd:D p
  .rw [mD p hd];simp
  .rw [mo p (ne p hp) hd];exact hp
 .by_cases hp:p=id
  .subst hp
   rw[mid]
   cases hnl':nl with
   | true =>
    obtain⟨_,h0⟩:=hnl hnl';exact .inl ⟨by simp[g',hnl'],List.eq_nil_of_length_eq_zero (by omega),rfl⟩
   | false =>
    obtain⟨q1,q2,q3,q4,q5,q6⟩:=hnn hnl';exact .inr ⟨cur,_,side.at (g:=g') rfl (λ b hb=>by simpa [g'] using hb) (by simp[g',hnl']) (by simp[g']) (by simp[g']) q4 q2 hlen q3 q5 q6⟩
  .by_cases hd:D p
   .rw [mD p hd];trivial
   .rw [mo p hp hd,<- m1o p hd]
    exact hs2.mem.blkMono (λ _ h=>h) (λ _ _=>rfl) (agree p hp) rfl (λ j hj=>agree j (ne1 j (hs2.bornM p j hj))) (λ _ b hx=>⟨by simpa [g',hp] using hx,rfl⟩) (by simp[g',hp])
 .by_cases hb:b=id
  .subst hb;rw[mid] at hp;simp[Blk.ids] at hp
  .by_cases hd:D b
   .rw [mD b hd] at hp;simp[Blk.ids] at hp
   .rw [mo b hb hd] at hp
    have:=hs.bornM b p hp;by_cases hd':D p
    .rw [mD p hd'];simp
    .rw [mo p (ne p this) hd'];exact this
 .rcases old p b h with ⟨_,h,_⟩|⟨_,⟨d,_,h⟩|h⟩
  .exact .inl ⟨p,h⟩
  .exact .inl ⟨d,h⟩
  .exact .inr h
 .rcases old p b h with ⟨a1,a2,a3⟩|⟨a1,a2⟩ <;> rcases old p' b h' with ⟨b1,b2,b3⟩|⟨b1,b2⟩
  .exact hs.ownU a2 b2
  .rcases b2 with ⟨d,d1,d2⟩|b2
   .exact absurd d1 (hs.ownU a2 d2 ▸ a3)
   .have:=(hs.ownS a2).1;omega
  .rcases a2 with ⟨d,d1,d2⟩|a2
   .exact absurd d1 (hs.ownU b2 d2 ▸ b3)
   .have:=(hs.ownS b2).1;omega
  .rw [a1,b1]
 .by_cases hp':p=id
  .subst hp'
   have hgb:X1 gb∨X2 gb:=by simpa [g'] using hx
   rcases gbo (alid hp) with h|⟨h,_⟩
   .rcases hgb with hgb|hgb
    .exact (xv gb h).2.1 hgb
    .exact (xv gb h).2.2 hgb
   .have:=xlt gb hgb;omega
  .rw [(agree p hp').1] at hx
   exact hs.ownX (alv p hp' hp).1 (by simpa [g',hp'] using hx)
 .cases hnl':nl with
  | true =>
   obtain⟨q1,h0⟩:=hnl hnl';have:=Den.rs (g:=g') (w:=w') (k:=id) (n:=n+n') (λ _=>h0) (by simp[g',hnl']) (by omega);rw[q1];simpa [Gh.base,g',hnl',h0] using this
  | false =>
   obtain⟨q1,q2,q3,q4,_⟩:=hnn hnl';have:=Den.rs (g:=g') (w:=w') (k:=id) (n:=n+n') (by simp[g',hnl']) (by simpa [g',zcN q4] using λ _=>q3) (by omega);rw[q1];simpa [Gh.base,g',hnl',zdT q4,zcN q4] using this
theorem SnSide.one {F X:Nat->Prop}{s:Nat}{es:List (List MC)}{xs:List Value}{I:Nat->Nat->Option (Nat×Nat)}(h:SnSide F w X s es xs I)(hs:1<=s):∀ u,u∈xs->u.oneCell'=true:=by
 intro u hu;obtain⟨q,hq⟩:=List.mem_iff_getElem?.1 hu
 have hql:q<es.length*s:=by rw[<- h.xl];exact(zrf.1 hq).1
 have hi:q / s<es.length:=Nat.div_lt_of_lt_mul (by rw[Nat.mul_comm];exact hql);have ho:q % s<s:=Nat.mod_lt _ hs;have hl:=h.len _ (List.getElem_mem hi);obtain⟨v,h1,h2,_⟩:=h.mem (q / s) (q % s) es[q / s] _ (zrg hi) (zrg (show q % s<(es[q / s]).length by omega));rw[Nat.mul_comm,Nat.div_add_mod,hq] at h1
 cases h1;exact h2
theorem SR.kill1 {k:Nat}(h:SR fr nt g e m a w):SR fr nt g e (mApp [(k, .dead)] m) a w:=h.kill (k:=k)
theorem zmo {k s n:Nat}{e1:TypeId}{ea:Bool}{es:List (List MC)}(hs:SR fr nt g e m a w)(hm:m k = .sn e1 s ea none es)(hn:n=es.length):∃ X I xs,SnSide g.F w X s es xs I/\zbv w e1 s (g.base k n) n xs/\(∀ b,X b->OwnS g m k b/\g.X k b) /\
  (∀ b,(g.base k n).ownBlock=some b->OwnS g m k b/\b=g.β k)/\(∀ b,X b->b≠g.β k)/\((xs=[]/\n=0/\g.base k n = .slice none 0 0)∨(∃ c,g.base k n = .slice (some ⟨g.β k,co (g.C k),none⟩) n c/\∀ j u,xs[j]? = some u->w.cell? ((⟨g.β k,co (g.C k),none⟩:Addr).add j)=some u)):=by
 have hb:=hs.mem.blk k;rw[hm] at hb;subst hn
 rcases hb with ⟨hN,hes,_⟩|⟨cur,I,hS⟩
 .subst hes
  have hbase:g.base k ([]:List (List MC)).length = .slice none 0 0:=by simp[Gh.base,hN]
  refine⟨λ _=>False,λ _ _=>none,[],SnSide.nil,by rw[hbase];exact zbm w e1 s,λ _ h=>h.elim,λ b h=>?_,λ _ h=>h.elim, .inl ⟨rfl,rfl,hbase⟩⟩;rw[hbase] at h;cases h
 .have hal:zac g m k:=by simp[zac,hm,hS.nn]
  have hbase:g.base k es.length = .slice (some ⟨g.β k,co (g.C k),none⟩) es.length (cc (g.C k)):=by simp[Gh.base,hS.nn]
  obtain⟨zz,hp,hz⟩:=hS.hp;have hside:=hS.side;refine⟨g.X k,I,_,hside,⟨hside.xl, .inr ⟨g.β k,co (g.C k),cc (g.C k),cur,hbase,⟨zz,hp,hz⟩,hS.le,zl6 _,hS.size,rfl⟩⟩,λ b hb=>⟨⟨hal, .inr hb⟩,hb⟩,λ b h=>?_,λ b hb he=>hs.ownX hal (he ▸ hb), .inr ⟨_,hbase,λ j u hu=>?_⟩⟩
  .rw [hbase] at h
   have:g.β k=b:=by simpa [Value.ownBlock] using h
   exact⟨⟨hal, .inl this⟩,this.symm⟩
  .rw [List.getElem?_take] at hu
   split at hu
   .rw [List.getElem?_drop,Array.getElem?_toList] at hu
    rw[zaC,cell_of_row w _ _ _ _ _ hp];exact hu
   .cases hu
theorem zgc {id q s n n':Nat}{sx xx:Operand}{t el:TypeId}{te:TI}{ea:Bool}{es1 es2:List (List MC)}{v:Value}{xs:List Value}{I1:Nat->Nat->Option (Nat×Nat)}{X1 D:Nat->Prop}{wr:List (Nat×Blk)}{m1:Nat->Blk}(hs:SR fr nt g e m a w)(ho:∀ d,o.dst=some d->d<nt)
  (hid:fr.p<=id/\m id = .unborn) (hop:o.op = .call { callee := .builtin .append,args := #[sx,xx],argTypes := #[t,t] }) (hd:P.underlying t=some (.slice el)) (hte:TIok P el te) (hes:te.size=s) (h1s:1<=s) (hv:a.eval sx=v) (hx:a.eval xx=g.base q n') (hmq:m q = .sn el s ea none es2) (hn':n'=es2.length)
  (hown:zbv w el s v n xs) (h1:SnSide g.F w X1 s es1 xs I1) (hn:es1.length=n) (x1:∀ b,X1 b->∃ d,D d/\d≠q/\OwnS g m d b) (xv:∀ b,v.ownBlock=some b->(∃ d,D d/\d≠q/\OwnS g m d b)/\¬ X1 b)
  (hb1:(n+n')*te.bytes<=140737488355328) (hb2:n+n'<=maxLen)
  (hk:SR fr nt g e m1 a w) (m1D:∀ d,D d->m1 d = .dead) (m1o:∀ p,¬ D p->m1 p=m p) (hD:∀ d,D d->m d ≠ .unborn) (hDq:D q)
  (mid:mApp wr m id = .sn el s ea none (es1++es2)) (mD:∀ d,D d->mApp wr m d = .dead) (mo:∀ p,p≠id->¬ D p->mApp wr m p=m p) (hK:K ⟨.rs id (n+n'),wr⟩ l):Good P fr nt e m a w o K Q:=by
 obtain⟨X2,I2,ys,side2,_,o1,o2,o3,o4⟩:=zmo hs hmq hn';obtain⟨i,z,hi,his,hib,hz,hzc,hzl⟩:=hte.info
 have hzs:z.cells.size=s:=by have:=congrArg List.length hzc;simp at this;omega
 have run:∃ v' w',(Builtin.append_ #[t,t] o.type #[v,g.base q n']).run P w = .ok v' w'/\zbv w' el s v' (n+n') (xs++ys)/\w.grownBy w' v.ownBlock/\(v'.ownBlock=v.ownBlock∨v'.ownBlock=some w.heap.size):=by
  rcases o4 with ⟨rfl,h0,hb⟩|⟨c0,hb,hc⟩
  .rw [hb,h0]
   exact⟨v,w,zcn t o.type el i s hd hi v n xs hown 0,by simpa using hown,World.grownBy.refl w _, .inl rfl⟩
  .rw [hb]
   exact zdo (P:=P) (w:=w) t o.type el i z s te.bytes hd hi hz (by omega) hib hzs (by omega) v n xs hown _ n' c0 ys (by rw[side2.xl,hn']) hc (side2.one h1s) hb2 hb1
 obtain⟨v',w',r1,r2,r3,r5⟩:=run
 obtain⟨g',hs',hden⟩:=hs.growSn (ea:=ea) hid h1 side2 hn hn'.symm (λ b hb=>by obtain⟨d,d1,_,d2⟩:=x1 b hb;exact⟨d,d1,d2⟩) (λ b hb=>⟨q,hDq,(o1 b hb).1⟩)
  (λ b hb hb' => by obtain⟨d,_,d1,d2⟩:=x1 b hb;exact d1 (hs.ownU d2 (o1 b hb').1)) (λ b hb=>by
   obtain⟨⟨d,d1,d2,d3⟩,hx1⟩:=xv b hb
   exact⟨⟨d,d1,d3⟩,hx1,λ hx2=>d2 (hs.ownU d3 (o1 b hx2).1)⟩) r2 r3 r5 hb2 hk m1D m1o hD mid mD mo
 unfold Good Oper.wp
 have hrun:(execOp a.eval o).run P w = .ok (.value v') w':=by simp[execOp,hop,resolve,invoke,builtin,hv,hx,r1]
 rw[hrun];exact⟨_,_,hK,g',hs'.put ho hden (λ k hk=>by simp[SV.ids] at hk;subst hk;rw[mid];simp)⟩
theorem zk8 {id:Nat}{s x:Operand}{t t':TypeId}(hT:TyOK P c.ty)(hs:SR fr nt g e m a w)(ho:∀ d,o.dst=some d->d<nt)(hid:fr.p<=id/\m id = .unborn)
  (hop:o.op = .call { callee := .builtin .append,args := #[s,x],argTypes := #[t,t'] }) (h:zgB c s x t t' id e m l K):Good P fr nt e m a w o K Q:=by
 obtain⟨ss,l1,hss,_,h1⟩:=zaa hs h;obtain⟨sx,l2,hsx,_,h2⟩:=zaa hs h1
 cases ht:c.ty.at t with
 | none=>simp only[ht] at h2;exact h2.elim
 | some ti =>
  obtain⟨k,sz,by_,ag,csz,z⟩:=ti;simp only[ht] at h2;obtain⟨d,hd,_,hk⟩:=(hT t _ ht).desc
  cases k with
  | slice el es ea =>
   dsimp only at h2 hk;obtain⟨rfl,ie,hie,hies⟩:=hk
   cases hte:c.ty.at el with
   | none=>simp only[hte] at h2;exact h2.elim
   | some te =>
    simp only[hte] at h2;obtain⟨hcond,h3⟩:=zaj h2;simp only[zrk] at hcond;obtain rfl:=zrh hcond.1;have h1s:=zrj hcond.2
    have hes:te.size=es:=by
     obtain⟨i,z,hi,his,_⟩:=(hT el te hte).info;rw[hie] at hi;rw[<- his,<- Option.some.inj hi,hies]
    cases sx with
    | rs q n' =>
     dsimp only[Pg.getB] at h3;rw[zam] at h3
     have hx:a.eval x=g.base q n':=by
      rcases hsx with hsx|hsx
      .cases hsx
      .generalize a.eval x=v at hsx
       cases hsx with
       | rs _ _ _=>rfl
     cases hmq:m q with
     | sn e2 s2 ea2 out ns =>
      rw[hmq] at h3
      cases out with
      | some p=>exact h3.elim
      | none =>
       obtain⟨hw,hn',h4⟩:=zaj h3;simp only[zrk] at hw;obtain rfl:=zrh hw.1;obtain rfl:=zrh hw.2
       have hqid:q≠id:=λ e=>by rw[e,hid.2] at hmq;cases hmq
       rcases hss with hss|hss
       .subst hss;exact h4.elim
       generalize hv:a.eval s=v at hss
       cases hss with
       | nil =>
        obtain⟨⟨hb1,hb2⟩,⟨r1,r2⟩,⟨e1,e2⟩,hK⟩:=h4;dsimp only at e1 e2;subst e1 e2;rw[<- hn'] at hb1 hb2
        refine zgc (l:=Loc.b q::l2) (es1:=[]) (n:=0) (xs:=[]) (I1:=λ _ _=>none) (X1:=λ _=>False) (D:=λ d=>d=q) (m1:=mApp [(q, .dead)] m) hs ho hid hop hd (hT e2 te hte) hes h1s hv hx hmq hn' (zbm w e2 s2) SnSide.nil rfl (λ _ h=>h.elim) (λ b h=>(by cases h)) (by simpa using hb1) (by simpa using hb2)
         hs.kill1 (λ d hd=>by subst hd;rw[za,if_pos rfl]) (λ p hp=>by rw[za,if_neg (λ e=>hp e.symm)];rfl) (λ d hd=>by subst hd;rw[hmq];simp) rfl
         (wr:=[(q, .dead),(id, .sn e2 s2 ea2 none r2)]) (by rw[za,if_neg hqid,za,if_pos rfl];rfl) (λ d hd=>by subst hd;rw[za,if_pos rfl]) (λ p hp hq=>by rw[za,if_neg (λ e=>hq e.symm),za,if_neg (λ e=>hp e.symm)];rfl) ?_
        have:(0:Nat)+n'=r2.length:=by omega
        rw[this];exact hK
       | @rs k n g1 g2 g3 =>
        obtain⟨hkq,h5⟩:=zaj h4
        have hkq:k≠q:=by rintro rfl;simp at hkq
        dsimp only[Pg.getB] at h5;rw[zam] at h5
        cases hmk:m k with
        | sn e1 s1 ea1 out1 old =>
         rw[hmk] at h5
         cases out1 with
         | some p=>exact h5.elim
         | none =>
          obtain⟨hw1,⟨hn,hb1,hb2⟩,⟨r1,r2⟩,⟨q1,q2⟩,hK⟩:=zaj h5;simp only[zrk] at hw1;obtain rfl:=zrh hw1.1.1;obtain rfl:=zrh hw1.1.2
          have hea:ea1=ea2:=by simpa using hw1.2
          subst hea;dsimp only at q1 q2;subst q1 q2
          have hkid:k≠id:=λ e=>by rw[e,hid.2] at hmk;cases hmk
          obtain⟨X1,I1,xs,side1,hown,o1,o2,o3,_⟩:=zmo hs hmk hn;rw[<- hn'] at hb1 hb2;have hkk:SR fr nt g e (mApp [(k, .dead)] (mApp [(q, .dead)] m)) a w:=hs.kill1.kill1
          refine zgc (l:=Loc.b k::Loc.b q::l2) (es1:=old) (n:=n) (D:=λ d=>d=q∨d=k) (m1:=mApp [(k, .dead)] (mApp [(q, .dead)] m)) hs ho hid hop hd (hT e1 te hte) hes h1s hv hx hmq hn' hown side1 hn.symm
           (λ b hb=>⟨k, .inr rfl,hkq,(o1 b hb).1⟩) (λ b hb=>⟨⟨k, .inr rfl,hkq,(o2 b hb).1⟩,λ h=>o3 b h (o2 b hb).2⟩) hb1 hb2 hkk (λ d hd=>?_) (λ p hp=>?_) (λ d hd=>?_) (.inl rfl)
           (wr:=[(q, .dead),(k, .dead),(id, .sn e1 s1 ea1 none (old++ns))]) ?_ (λ d hd=>?_) (λ p hp hq=>?_) ?_
          .rcases hd with rfl|rfl
           .rw [za,if_neg hkq]
            show mApp [(d, .dead)] m d=_;rw[za,if_pos rfl]
           .rw [za,if_pos rfl]
          .have h1:k≠p:=λ e=>hp (.inr e.symm)
           have h2:q≠p:=λ e=>hp (.inl e.symm);rw[za,if_neg h1];show mApp [(q, .dead)] m p=_;rw[za,if_neg h2];rfl
          .rcases hd with rfl|rfl
           .rw [hmq];simp
           .rw [hmk];simp
          .rw [za,if_neg hqid,za,if_neg hkid,za,if_pos rfl]
          .rcases hd with rfl|rfl
           .rw [za,if_pos rfl]
           .rw [za,if_neg (Ne.symm hkq),za,if_pos rfl]
          .have h1:k≠p:=λ e=>hq (.inr e.symm)
           have h2:q≠p:=λ e=>hq (.inl e.symm);rw[za,if_neg h2,za,if_neg h1,za,if_neg (λ e=>hp e.symm)];rfl
          .rw [hn'];exact hK
        | _=>rw[hmk] at h5;exact h5.elim
       | _=>exact h4.elim
     | _=>rw[hmq] at h3;exact h3.elim
    | _=>exact h3.elim
  | _=>exact h2.elim
theorem zn0 {sh:List MC}{xs:List SV}{cs:List MC}{ds:List Nat}{vs:List Value}(hs:SR fr nt g e m a w)(hvl:vs.length=xs.length)(hvd:∀ (i:Nat) u x,vs[i]? = some u->xs[i]? = some x->u.oneCell'=true/\Den g w u x)(heat:zaw [] m sh xs=some (cs,ds))(hnd:ds.Nodup)(hdr:(cs.all MC.dr)=true) :
  ∃ X I,SnSide g.F w X xs.length [cs] vs I/\(∀ b,X b->∃ d,d∈ds/\OwnS g m d b)/\∀ d,d∈ds->m d ≠ .unborn:=by
 obtain⟨hcl,hds,hcell⟩:=zgT heat
 have eaten:∀ (o:Nat) x z,xs[o]? = some x->zgS x=some z->z∈ds:=λ o x z hx hz=>by rw[hds];exact List.mem_filterMap.2 ⟨x,zri hx,hz⟩
 have cellX:∀ (o:Nat) x,xs[o]? = some x->∃ c y,cs[o]? = some c/\Eats [] m y x c:=λ o x hx=>by
  have ho:o<cs.length:=by rw[hcl];exact(zrf.1 hx).1
  obtain⟨y,hy⟩:=hcell o x _ hx (zrg ho);exact⟨_,y,zrg ho,hy⟩
 let J:Nat->Nat->Option (Nat×Nat):=λ i o=>if i=0 then (match xs[o]? with
  | some (.rs z _)=>if g.N z=true then none else some (g.β z,g.C z)
  | _=>none) else none
 have Jspec:∀ {i o b c'},J i o=some (b,c')->i=0/\∃ z n e' s' l',xs[o]? = some (.rs z n)/\g.N z=false/\z∈ds/\b=g.β z/\m z = .row e' s' l'/\cs[o]? = some (.r e' s' l'):=by
  intro i o b c' h;simp only[J] at h
  split at h
  .rename_i hi
   split at h
   .rename_i z n hx
    split at h
    .cases h
    .rename_i hN
     cases h
     obtain⟨c,y,hc,hE⟩:=cellX o _ hx
     rcases hE with ⟨e',s',z',l',h1,h2,h3⟩|⟨_,_,h1,_⟩|⟨_,_,h1,_⟩|h1
     .cases h1;subst h3
      exact⟨hi,z,_,e',s',l',hx,by simpa using hN,eaten o _ z hx rfl,rfl,h2,hc⟩
     .cases h1
     .cases h1
     .have:=zcV h1;cases this
   .cases h
  .cases h
 refine⟨λ b=>∃ o c',J 0 o=some (b,c'),J,⟨λ l hl=>by rw[List.mem_singleton.1 hl,hcl],by rw[hvl];simp,λ i o l x hl hx=>?_,λ i o b c hI=>?_,λ i o i' o' b c c' h1 h2=>?_⟩,λ b hb=>?_,λ d hd=>?_⟩
 .cases i with
  | succ i=>simp at hl
  | zero =>
   simp at hl;subst hl
   have ho:o<xs.length:=by rw[<- hcl];exact(zrf.1 hx).1
   obtain⟨u,hu⟩:∃ u,vs[o]? = some u:=⟨_,zrg (by omega)⟩;have hxo:=zrg ho;obtain⟨o1,o2⟩:=hvd o u _ hu hxo;refine⟨u,by rw[Nat.zero_mul,Nat.zero_add];exact hu,o1, ?_⟩;obtain⟨y,hE⟩:=hcell o _ x hxo hx
   rcases hE with ⟨e',s',z,l',h1,h2,rfl⟩|⟨e',s',h1,rfl⟩|⟨z,l',h1,h2,rfl⟩|h1
   .have hJ:J 0 o=if g.N z=true then none else some (g.β z,g.C z):=by simp only[J,if_true,hxo,h1]
    unfold zfW;rw[h1] at o2;have hbz:=hs.mem.blk z;rw[h2] at hbz
    cases o2 with
    | rs q1 q2 q3 =>
     rcases hbz with ⟨b1,b2⟩|⟨b1,b2⟩
     .rw [hJ,if_pos b1]
      subst b2;exact⟨rfl,by simp[Gh.base,b1]⟩
     .rw [hJ,if_neg (by rw[b1];simp)]
      exact⟨by simp[Gh.base,b1],⟨o,_,by rw[hJ,if_neg (by rw[b1];simp)]⟩,b2⟩
   .have hJ:J 0 o=none:=by simp only[J,if_true,hxo,h1]
    unfold zfW;rw[hJ];rw[h1] at o2
    cases o2 with
    | nil=>exact⟨rfl,rfl⟩
   .have:=List.all_eq_true.1 hdr _ (zri hx)
    cases this
   .have hq:=h1
    unfold MC.put at h1
    split at h1
    .obtain ⟨d,hd,rfl⟩:=Option.map_eq_some_iff.1 h1
     exact zaL o2 hd
    .cases h1
     have:=List.all_eq_true.1 hdr _ (zri hx)
     cases this
    .simp [hasK] at h1
    .cases h1
 .obtain ⟨rfl,z,n,e',s',l',h1,h2,h3,h4,h5,h6⟩:=Jspec hI
  exact⟨e',s',l',by unfold snAt;simpa using h6⟩
 .obtain ⟨r1,z,n,e',s',l',h3,h4,h5,h6,h7,h8⟩:=Jspec h1
  obtain⟨r2,z',n',e2,s2,l2,q3,q4,q5,q6,q7,q8⟩:=Jspec h2;have hz:z=z':=hs.mem.inj z z' (by simp[zac,h7,h4]) (by simp[zac,q7,q4]) (by rw[<- h6,<- q6]);subst hz;exact⟨by rw[r1,r2],zi7 (f:=zgS) (by rw[<- hds];exact hnd) o o' _ _ z h3 q3 rfl rfl⟩
 .obtain ⟨o,c',hJ⟩:=hb
  obtain⟨_,z,n,e',s',l',h1,h2,h3,h4,h5,h6⟩:=Jspec hJ;exact⟨z,h3,by simp[zac,h5,h2], .inl h4.symm⟩
 .rw [hds] at hd
  obtain⟨x,hx,hz⟩:=List.mem_filterMap.1 hd;obtain⟨o,ho⟩:=List.mem_iff_getElem?.1 hx;obtain⟨c,y,hc,hE⟩:=cellX o x ho
  rcases hE with ⟨e',s',z',l',h1,h2,_⟩|⟨_,_,h1,_⟩|⟨z',l',h1,h2,_⟩|h1
  .subst h1;cases hz;rw[h2];simp
  .subst h1;cases hz
  .subst h1;cases hz;rw[h2];simp
  .rw [zcV h1] at hz;cases hz
theorem zpv {t el:TypeId}{te:TI}{es:Nat}{p:Nat×Operand}{vs:List Value}(hT:TyOK P c.ty)(hop:o.op = .buildSlice t 1 #[p])(hp:p.1=0)(hd:P.underlying t=some (.slice el))(hes:∃ i,P.info? el=some i/\i.size=es)(hte:c.ty.at el=some te)
  (hvs:(a.eval p.2).cells.toList=vs) (hl:vs.length=es) (h1:1<=es) (h2:es<=16777216):(execOp a.eval o).run P w = .ok (.value (.slice (some ⟨w.heap.size,0,none⟩) 1 1)) (w.alloc (.cells vs.toArray el)):=by
 obtain⟨ie,hie,hies⟩:=hes;obtain⟨i,z,hi,his,_,hz,hzc,hzl⟩:=(hT el te hte).info;have hi':=hi;rw[hie] at hi';obtain rfl:=Option.some.inj hi';obtain⟨p0,px⟩:=p;dsimp only at hp hvs;subst hp
 let cells0:Array Value:=(Array.range (1*es)).map (z.cells[· % z.cells.size]!)
 have hc0:cells0.size=es:=by simp[cells0]
 have hsz:(a.eval px).cells.size=es:=by rw[<- Array.length_toList,hvs,hl]
 have hfill:Instr.fill (λ i=>some (i*es,es)) cells0 [(0,a.eval px)]=some vs.toArray:=by
  unfold Instr.fill;dsimp only;rw[if_neg (by rw[hsz,hc0];simp)];unfold Instr.fill
  congr 1
  apply Array.ext';have:=zdV cells0 (a.eval px).cells (0*es);refine Eq.trans this ?_;rw[hvs];apply List.ext_getElem?;intro q
  have hcl:cells0.toList.length=es:=by rw[Array.length_toList,hc0]
  rw[zaH _ _ _ _ (by rw[hcl];simp;omega)];by_cases hq:q<es
  .rw [if_pos ⟨by omega,by omega⟩];simp
  .rw [if_neg (by omega),Array.getElem?_toList,Array.getElem?_eq_none (by omega)];simp;omega
 simp only[execOp,hop]
 have hle':¬ 16777216<1*es:=by omega
 have h0':¬ (1=0∨es=0):=by omega
 have h0:¬ 1*es=0:=by omega
 have e0:cells0=(Array.range (1*es)).map (z.cells[· % z.cells.size]!):=rfl
 rw[e0] at hfill;simp[Instr.buildSlice,run_underlying hd,sizeOf,typeInfo,zeroValue,hie,hies,hz,newRow];simp at hfill;simp[hfill];rw[if_neg (by omega),if_neg (by omega)]
theorem SR.killL:∀ {ds:List Nat},SR fr nt g e m a w->SR fr nt g e (mApp (dieL ds) m) a w
 | [],h=>h
 | z::ds,h=>by
  have h1:=(SR.killL (ds:=ds) h).kill1 (k:=z)
  have:mApp [(z, .dead)] (mApp (dieL ds) m)=mApp (dieL (z::ds)) m:=by
   funext j;show mApp [(z, .dead)] (mApp (dieL ds) m) j=mApp ((z, .dead)::dieL ds) m j;rw[za,za];rfl
  rw[this] at h1;exact h1
theorem zdZ {ds:List Nat}{k:Nat}{b:Blk}(j:Nat):mApp (dieL ds++[(k,b)]) m j=if j∈ds then .dead else if k=j then b else m j:=by
 induction ds with
 | nil=>show mApp [(k,b)] m j=_;rw[za];simp[mApp,get]
 | cons z ds ih =>
  show mApp ((z, .dead)::(dieL ds++[(k,b)])) m j=_;rw[za,ih];by_cases h:z=j
  .subst h;simp
  .rw [if_neg h]
   by_cases h2:j∈ds
   .simp [h2]
   .simp [h2,Ne.symm h]
theorem zib {t el:TypeId}{te:TI}{n id es:Nat}{ea:Bool}{ps:Array (Nat×Operand)}{xs:List (Nat×SV)}(hT:TyOK P c.ty)(hs:SR fr nt g e m a w)(ho:∀ d,o.dst=some d->d<nt)(hid:fr.p<=id/\m id = .unborn)(hop:o.op = .buildSlice t n ps)
  (hd:P.underlying t=some (.slice el)) (hes:∃ i,P.info? el=some i/\i.size=es) (hte:c.ty.at el=some te) (hl:xs.length=ps.toList.length) (hx:∀ (i:Nat) p x,ps.toList[i]? = some p->xs[i]? = some x->x.1=p.1/\DenO g w (a.eval p.2) x.2)
  (h:zcj el es ea n id xs e m l K):Good P fr nt e m a w o K Q:=by
 unfold zcj at h
 split at h
 .rename_i x
  obtain⟨p,hp⟩:∃ p,ps = #[p]:=by
   have:ps.size=1:=by rw[<- Array.length_toList,<- hl];rfl
   exact⟨ps[0],by apply Array.ext' ; apply List.ext_getElem? ; intro i ; cases i with
    | zero=>simp[this]
    | succ i=>simp[this]⟩
  subst hp;obtain⟨hp0,hden⟩:=hx 0 p _ rfl rfl;dsimp only at hp0 hden
  cases hcs:x.cells with
  | none=>rw[hcs] at h;exact h.elim
  | some cs =>
   rw[hcs] at h;dsimp only at h
   cases hc:(Nat.beq n 1&&Nat.beq cs.length es&&Nat.ble 1 es&&Nat.ble es 16777216&&cs.all SV.one) with
   | false=>rw[hc] at h;exact h.elim
   | true =>
    rw[hc] at h;simp only[zrk] at hc;obtain⟨⟨⟨⟨c1,c2⟩,c3⟩,c4⟩,c5⟩:=hc;obtain rfl:=zrh c1;have c2:=zrh c2;have c3:=zrj c3;have c4:=zrj c4;obtain⟨sh,_,h⟩:=h
    cases he:zaw [] m sh cs with
    | none=>rw[he] at h;exact h.elim
    | some yd =>
     obtain⟨ys,ds⟩:=yd;rw[he] at h;obtain⟨⟨hnd,hdr⟩,hK⟩:=h
     rcases hden with hden|hden
     .subst hden;simp[SV.cells] at hcs
     obtain⟨hcd,_⟩:=zaR hden hcs c5;generalize hvs:(a.eval p.2).cells.toList=vs at hcd
     have hvl:vs.length=es:=by rw[hcd.1,c2]
     obtain⟨X,I,side,own,hun⟩:=zn0 hs hcd.1 (λ i u x hu hx=>hcd.2 i u x hu hx) he hnd hdr;rw[c2] at side;have hrun:=zpv (P:=P) (w:=w) (a:=a) hT hop hp0.symm hd hes hte hvs hvl c3 c4;have hidd:id ∉ ds:=λ hm=>hun id hm hid.2
     obtain⟨g',hs',hd'⟩:=hs.growSn (id:=id) (n:=0) (n':=1) (ea:=ea) (D:=λ d=>d∈ds) (v := .slice none 0 0) (v' := .slice (some ⟨w.heap.size,0,none⟩) 1 1) (w':=w.alloc (.cells vs.toArray el)) (el:=el) (m1:=mApp (dieL ds) m) (m':=mApp (dieL ds++[(id, .sn el es ea none [ys])]) m) hid
      (SnSide.nil (s:=es) (X:=λ _=>False)) side rfl rfl (λ _ h=>h.elim) own (λ _ h=>h.elim) (λ b h=>by cases h)
      ⟨by simp[hvl], .inr ⟨w.heap.size,0,1,vs.toArray,rfl,⟨_,za7 w _, .inl rfl⟩,Nat.le_refl _,by simp[maxLen],by simp[hvl],by simp only[List.drop_zero,Nat.zero_add,Nat.one_mul,List.nil_append];exact List.take_of_length_le (by simp[hvl])⟩⟩
      ⟨(Ext.alloc w _).os,(Ext.alloc w _).tape,(Ext.alloc w _).output,(Ext.alloc w _).size,λ b hb _=>(Ext.alloc w _).old b hb⟩ (.inr rfl) (by simp[maxLen]) hs.killL (λ d hd=>by rw[zgU,if_pos hd]) (λ p hp=>by rw[zgU,if_neg hp]) hun
      (by rw[zdZ,if_neg hidd,if_pos rfl];rfl) (λ d hd=>by rw[zdZ,if_pos hd]) (λ p hp hq=>by rw[zdZ,if_neg hq,if_neg (Ne.symm hp)])
     unfold Good Oper.wp;rw[hrun]
     exact⟨_,_,hK,g',hs'.put ho hd' (λ k hk=>by
      simp[SV.ids] at hk;subst hk;show mApp (dieL ds++[(k, .sn el es ea none [ys])]) m k≠_
      rw[zdZ,if_neg hidd,if_pos rfl];simp)⟩
 .exact h.elim
end
end Go.Vc
namespace Go.Vc
open Go.RowKit
section
variable {P:Program} {fr:Fr} {nt:Nat} {g:Gh} {e:Nat->SV} {m:Nat->Blk} {a:Act} {w:World} {c:Ctx} {o:Oper} {K:Dl->List Loc->Prop} {Q:Exit->Act->World->Prop} {l:List Loc}
theorem zdv (t u ty e:TypeId)(i:TypeInfo)(ht:P.underlying t=some (.slice e))(hu:P.underlying u=some .string)(hi:P.info? e=some i)(hs1:i.size=1)
  (g off sLen sCap:Nat) (cur:Array Value) {z:Nat×Nat} (hg:w.heap[g]? = some (.cells cur e z)) (hz:Free z cur.size) (s:ByteArray) (hroom:sLen+s.size<=sCap) (hfit:off+sLen+s.size<=cur.size) :
  (Builtin.append_ #[t,u] ty #[.slice (some ⟨g,off,none⟩) sLen sCap, .string s]).run P w =
   .ok (.slice (some ⟨g,off,none⟩) (sLen+s.size) sCap) (w.setRow g (cur.toList.take (off+sLen)++Lib.strCells s++cur.toList.drop (off+sLen+s.size)).toArray):=by
 have hf:=Lib.run_firstCells_string (P:=P) w 1 s;have hst:=zbh P g (off+sLen) e z (Lib.strCells s) 0 cur w hg hz (by simpa [Lib.strCells_length] using hfit) (Lib.strCells_oneCell s);simp only[Nat.add_zero,Lib.strCells_length] at hst;simp[Builtin.append_,run_underlying ht,run_underlying hu,sizeOf,typeInfo,hi,hs1,Builtin.lenOf,hroom,hf,Addr.add_lit,hst]
theorem zd0 (t u ty e:TypeId)(i:TypeInfo)(z:Value)(ht:P.underlying t=some (.slice e))(hu:P.underlying u=some .string)(hi:P.info? e=some i)(hz:i.zero=some z)
  (hsize:i.size=1) (hby:i.bytes=1) (hzs:z.cells.size=1)
  (v:Value) (n:Nat) (xs:List Value) (hown:zbv w e 1 v n xs) (s:ByteArray) (h63:n+s.size<=maxLen) (hbytes:n+s.size<=140737488355328) :
  ∃ v' w',(Builtin.append_ #[t,u] ty #[v, .string s]).run P w = .ok v' w'/\zbv w' e 1 v' (n+s.size) (xs++Lib.strCells s)/\w.grownBy w' v.ownBlock /\
   (v'.ownBlock=v.ownBlock∨v'.ownBlock=some w.heap.size):=by
 have hsmall:n+s.size<=9223372036854775807:=by simp only[maxLen] at h63;omega
 have hxl:xs.length=n:=by simpa using hown.1
 have hlen:(xs++Lib.strCells s).length=(n+s.size)*1:=by rw[List.length_append,hxl,Lib.strCells_length,Nat.mul_one]
 have grown:∀ (old:Nat),old<n+s.size->∀ (row:Option Nat),
   zbv (w.drew.alloc (.cells (xs.toArray++(Lib.strCells s).toArray++Builtin.zeroCells z.cells (grownCap w (n+s.size) old e-(n+s.size))) e)) e 1
    (.slice (some ⟨w.heap.size,0,none⟩) (n+s.size) (grownCap w (n+s.size) old e)) (n+s.size) (xs++Lib.strCells s) /\
   w.grownBy (w.drew.alloc (.cells (xs.toArray++(Lib.strCells s).toArray++Builtin.zeroCells z.cells (grownCap w (n+s.size) old e-(n+s.size))) e)) row:=by
  intro old ho row;have hge:=grownCap_ge w (n+s.size) old e;have hcm:grownCap w (n+s.size) old e<=maxLen:=grownCap_le_maxLen w (n+s.size) old e h63;refine⟨⟨hlen, .inr ⟨w.heap.size,0,_,_,rfl,⟨_,heap_alloc_new w.drew _, .inl rfl⟩,hge,hcm, ?_, ?_⟩⟩,⟨rfl,rfl,rfl,by simp,λ k hk _=>by have:=(Ext.alloc w.drew (.cells (xs.toArray++(Lib.strCells s).toArray++Builtin.zeroCells z.cells (grownCap w (n+s.size) old e-(n+s.size))) e)).old k hk;exact this⟩⟩
  .simp only[Array.size_append,List.size_toArray,size_zeroCells,hzs,hxl,Lib.strCells_length]
   omega
  .simp only[Array.toList_append,List.append_assoc,List.drop_zero]
   rw[<- List.append_assoc,<- hlen];exact List.take_left
 rcases hown.2 with ⟨rfl,rfl⟩|⟨gb,off,cap,cur,rfl,⟨zz,hg,hzz⟩,hnc,hcm,hcs,htake⟩
 .have hx:xs=[]:=List.eq_nil_of_length_eq_zero hxl
  subst hx;by_cases hm:s.size=0
  .have hn:Lib.strCells s=[]:=List.eq_nil_of_length_eq_zero (by rw[Lib.strCells_length];exact hm)
   refine⟨.slice none 0 0,w, ?_,by rw[hm,hn];exact zbm w e 1,⟨rfl,rfl,rfl,Nat.le_refl _,λ _ _ _=>rfl⟩, .inl rfl⟩;have hf:=Lib.run_firstCells_string (P:=P) w 1 s;rw[hm] at hf;simp[Builtin.append_,run_underlying ht,run_underlying hu,sizeOf,typeInfo,hi,hsize,Builtin.lenOf,hm,hf]
  .have hr:=run_append_nil_string (P:=P) w t u ty e i z ht hu hi hz s (by omega) (by omega) (by rw[hby];omega)
   have hgr:=grown 0 (by omega) (Value.ownBlock (.slice none 0 0));simp only[Nat.zero_add,List.nil_append,Array.empty_append] at hgr ⊢
   have e1:(s.data.map λ b=>Value.int .u8 b.toNat)=(Lib.strCells s).toArray:=by
    apply Array.ext';simp[Lib.strCells]
   rw[e1] at hr;exact⟨_,_,hr,hgr.1,hgr.2, .inr rfl⟩
 .by_cases hroom:n+s.size<=cap
  .have hfit:off+n+s.size<=cur.size:=by omega
   have hr:=zdv (P:=P) (w:=w) t u ty e i ht hu hi hsize gb off n cap cur hg hzz s hroom hfit;refine⟨_,_,hr,⟨hlen, .inr ⟨gb,off,cap,_,rfl,⟨zz,setRow_heap w gb cur _ e _ hg,by have hsz:(cur.toList.take (off+n)++Lib.strCells s++cur.toList.drop (off+n+s.size)).length=cur.size:=by { simp only[List.length_append,List.length_take,List.length_drop,Array.length_toList,Lib.strCells_length];omega };rw[List.size_toArray,hsz];exact hzz⟩,hroom,hcm, ?_, ?_⟩⟩,⟨rfl,rfl,rfl,by simp,λ k _ hk=>setRow_other w gb k _ (λ e=>hk (by simp[Value.ownBlock,e]))⟩, .inl rfl⟩
   .simp only[List.size_toArray,List.length_append,List.length_take,List.length_drop,Array.length_toList,Lib.strCells_length]
    omega
   .have hd:(cur.toList.take (off+n)).drop off=xs:=by rw[<- htake,List.drop_take,Nat.add_sub_cancel_left,Nat.mul_one]
    have h2:(cur.toList.take (off+n)++Lib.strCells s++cur.toList.drop (off+n+s.size)).drop off=xs++Lib.strCells s++cur.toList.drop (off+n+s.size):=by
     rw[List.append_assoc,List.drop_append_of_le_length (by simp;omega),hd,List.append_assoc]
    simp only[h2];rw[<- hlen];exact List.take_left
  .have holds:∀ j u,xs[j]? = some u->w.cell? ((⟨gb,off,none⟩:Addr).add j)=some u:=by
    intro j u hj;rw[<- htake,List.getElem?_take] at hj
    split at hj
    .rw [List.getElem?_drop] at hj
     rw[zaC,cell_of_row w _ _ _ _ _ hg];simpa using hj
    .cases hj
   have hr:=Lib.run_append_grow_string (P:=P) w t u ty e i z ht hu hi hz ⟨gb,off,none⟩ n cap xs (by rw[hsize];simpa using hxl) holds s (by omega) (by omega) (by rw[hby];exact growslice_fits (by omega) (by omega));have hgr:=grown cap (by omega) (Value.ownBlock (.slice (some ⟨gb,off,none⟩) n cap));exact⟨_,_,hr,hgr.1,hgr.2, .inr rfl⟩
def zb4 (s:ByteArray):List D:=s.data.toList.map λ b=>.v (.int .u8 b.toNat)
theorem zgY (s:ByteArray):(zb4 s).length=s.size:=by
 rw[zb4,List.length_map,Array.length_toList];rfl
theorem zfb (s:ByteArray){i j:Nat}{el d:D}(h:(zb4 s)[i]? = some el)(hd:el.cells[j]? = some d):∃ u,(Lib.strCells s)[i*1+j]? = some u/\Rd g.F w u d:=by
 unfold zb4 at h;rw[List.getElem?_map] at h
 cases hb:s.data.toList[i]? with
 | none=>rw[hb] at h;cases h
 | some b =>
  rw[hb] at h;simp only[Option.map_some,Option.some.injEq] at h;subst h
  have hj:j=0:=by
   have:=(zrf.1 hd).1;simp[D.cells] at this;exact this
  subst hj;simp[D.cells] at hd;subst hd;refine⟨.int .u8 b.toNat,by unfold Lib.strCells;rw[List.getElem?_map,Nat.mul_one,Nat.add_zero,hb];rfl, .v ?_⟩;have:=b.toNat_lt;simp only[pl,IntKind.min,IntKind.max,IntKind.signed,IntKind.bits];simp;omega
theorem zei (s:ByteArray){el:D}(h:el∈zb4 s):el.cells.length=1:=by
 unfold zb4 at h;obtain⟨b,_,rfl⟩:=List.mem_map.1 h;rfl
theorem zjc {id:Nat}{s x:Operand}{t t':TypeId}(hT:TyOK P c.ty)(hs:SR fr nt g e m a w)(ho:∀ d,o.dst=some d->d<nt)(hid:fr.p<=id/\m id = .unborn)
  (hop:o.op = .call { callee := .builtin .append,args := #[s,x],argTypes := #[t,t'] }) (hstr:zj3 c t'=true)
  (h:zdJ c s x t id e m l K):Good P fr nt e m a w o K Q:=by
 unfold zdJ at h;obtain⟨ss,l1,hss,_,h1⟩:=zaa hs h;obtain⟨sx,l2,hsx,_,h2⟩:=zaa hs h1
 have hu:P.underlying t'=some .string:=by
  unfold zj3 at hstr
  cases ht':c.ty.at t' with
  | none=>rw[ht'] at hstr;cases hstr
  | some ti =>
   obtain⟨kk,sz,by_,ag,cz,zz⟩:=ti;rw[ht'] at hstr
   cases kk <;> first|(cases hstr;done)|skip
   obtain⟨d,hd,_,hk⟩:=(hT t' _ ht').desc;dsimp only at hk;rw[hd,hk]
 cases ht:c.ty.at t with
 | none=>simp only[ht] at h2;exact h2.elim
 | some ti =>
  obtain⟨k,sz,by_,ag,csz,z⟩:=ti;simp only[ht] at h2;obtain⟨d,hd,_,hk⟩:=(hT t _ ht).desc
  cases k with
  | slice el es ea =>
   dsimp only at h2 hk;obtain⟨rfl,ie,hie,hies⟩:=hk
   cases hte:c.ty.at el with
   | none=>simp only[hte] at h2;exact h2.elim
   | some te =>
    simp only[hte] at h2;obtain⟨hcond,h3⟩:=zaj h2;simp only[zrk] at hcond;obtain⟨hu8,hes1⟩:=hcond;obtain rfl:=zrh hes1
    have hts:te.size=1/\te.bytes=1:=by
     unfold isU8 at hu8
     split at hu8
     .simp only[zrk] at hu8
      exact⟨zrh hu8.1,zrh hu8.2⟩
     .cases hu8
    obtain⟨i,z,hi,his,hib,hz,hzc,hzl⟩:=(hT el te hte).info
    have hzs:z.cells.size=1:=by have:=congrArg List.length hzc;simp at this;omega
    cases hso:ziY sx with
    | none=>rw[hso] at h3;exact h3.elim
    | some str =>
    rw[hso] at h3
    have hsx':sx = .dat (.v (.string str)):=by
     unfold ziY at hso
     split at hso
     .cases hso;rfl
     .cases hso
    subst hsx';have h4:=h3;obtain⟨hxv,_⟩:=Den.str hsx;clear h3;replace h4:=(show ∃ ns,ns=zb4 str/\zdI el 1 te.bytes id ss ns e m l2 K from h4);obtain⟨ns,rfl,h4⟩:=h4;have hbl:=zgY str;unfold zdI at h4
    rcases hss with hss|hss
    .subst hss;exact h4.elim
    generalize hv:a.eval s=v at hss
    have hrun:∀ (n:Nat) (xs:List Value),zbv w el 1 v n xs->n+(zb4 str).length<=maxLen->(n+(zb4 str).length)*te.bytes<=140737488355328 ->
      ∃ v' w',(execOp a.eval o).run P w = .ok (.value v') w'/\zbv w' el 1 v' (n+(zb4 str).length) (xs++Lib.strCells str)/\w.grownBy w' v.ownBlock/\(v'.ownBlock=v.ownBlock∨v'.ownBlock=some w.heap.size):=by
     intro n xs hown h1 h2;rw[hbl] at h1 h2 ⊢;rw[hts.2,Nat.mul_one] at h2;obtain⟨v',w',r1,r2,r3,r5⟩:=zd0 (P:=P) (w:=w) t t' o.type el i z hd hu hi hz (by omega) (by omega) hzs v n xs hown str h1 h2;exact⟨v',w',by simp[execOp,hop,resolve,invoke,builtin,hv,hxv,r1],r2,r3,r5⟩
    cases hss with
    | nil =>
     dsimp only at h4;obtain⟨⟨hb1,hb2⟩,⟨q1,q2⟩,⟨e1,e2⟩,hK⟩:=h4;dsimp only at e1 e2;subst e1;have e2:=e2.symm;subst e2
     exact zdW (t:=t) (old:=[]) (n:=0) (xs:=[]) (news:=Lib.strCells str) (wr:=[(id, .row el 1 (zb4 str))]) hs ho hid (zbm w el 1) (by simp) (by simp) (by simp) (by rw[Lib.strCells_length,hbl,Nat.mul_one]) (λ u hu=>Lib.strCells_oneCell str u hu)
      (λ i j el d hel hd=>zfb str hel hd) (λ el hel=>zei str hel) (by simpa using hb2) (hrun 0 [] (zbm w el 1) (by simpa using hb2) (by simpa using hb1))
      (by simp[Value.ownBlock]) m hs hid.2 (by simp[Value.ownBlock]) (by simp) (by simpa [Pg.ret] using hK)
    | @rs k n n0 n1 n2 =>
     simp only[Pg.getB,zam] at h4;have hblk:=hs.mem.blk k
     cases hm:m k with
     | row e' s' old =>
      rw[hm] at hblk h4;dsimp only at h4;replace h4:=zaj h4;obtain⟨hcond2,h4⟩:=h4;simp only[zrk] at hcond2;obtain rfl:=zrh hcond2.1;obtain rfl:=zrh hcond2.2;obtain⟨⟨hn,hb1,hb2⟩,⟨q1,q2⟩,⟨rfl,rfl⟩,hK⟩:=h4
      have hne:k≠id:=λ e=>by rw[e,hid.2] at hm;cases hm
      have hmm:mApp [(id,Blk.row e' 1 (old.take n++zb4 str))] (mApp [(k, .dead)] m)=mApp [(k, .dead),(id, .row e' 1 (old.take n++zb4 str))] m:=by
       funext q;simp only[za];by_cases h1:id=q
       .subst h1;simp[hne]
       .simp [h1,mApp]
      have hid2:mApp [(k, .dead)] m id = .unborn:=by rw[za,if_neg hne];exact hid.2
      have hdead:∀ q,zac g (mApp [(k, .dead)] m) q->zac g m q/\q≠k:=by
       intro q hq;unfold zac at hq;rw[za] at hq;by_cases hkq:k=q
       .rw [if_pos hkq] at hq;exact hq.elim
       .rw [if_neg hkq] at hq;exact⟨hq,Ne.symm hkq⟩
      have hsl:(Lib.strCells str).length=(zb4 str).length*1:=by rw[Lib.strCells_length,hbl,Nat.mul_one]
      rcases hblk with ⟨hN,hes0⟩|⟨hN,cur,r1,r2,r3,r4,r5,r6⟩
      .have hn0:=n0 hN
       subst hn0
       have hbase:g.base k 0 = .slice none 0 0:=by simp[Gh.base,hN]
       have hown:zbv w e' 1 (g.base k 0) 0 []:=by rw[hbase];exact zbm w _ _
       exact zdW (t:=t) (old:=old) (n:=0) (xs:=[]) (news:=Lib.strCells str) hs ho hid hown (by simp) (by omega) (by rw[hes0];simp) hsl (λ u hu=>Lib.strCells_oneCell str u hu)
        (λ i j el d hel hd=>zfb str hel hd) (λ el hel=>zei str hel) hb2 (hrun 0 [] hown hb2 hb1)
        (by rw[hbase];simp[Value.ownBlock]) _ hs.kill hid2 (by rw[hbase];simp[Value.ownBlock]) hmm hK
      .have hbase:g.base k n = .slice (some ⟨g.β k,co (g.C k),none⟩) n (cc (g.C k)):=by simp[Gh.base,hN]
       have hns:n*1<=cc (g.C k)*1:=Nat.mul_le_mul_right _ (n1 hN)
       have hal:zac g m k:=by simp[zac,hm,hN]
       have hown:zbv w e' 1 (g.base k n) n ((cur.toList.drop (co (g.C k))).take (n*1)):=by rw[hbase];exact⟨by simp only[List.length_take,List.length_drop,Array.length_toList];omega, .inr ⟨_,_,_,cur,rfl,r1,n1 hN,r4,r2,rfl⟩⟩
       refine zdW (t:=t) (old:=old) (n:=n) (xs:=(cur.toList.drop (co (g.C k))).take (n*1)) (news:=Lib.strCells str) hs ho hid hown ?_ hn r5 hsl (λ u hu=>Lib.strCells_oneCell str u hu)
        (λ i j el d hel hd=>zfb str hel hd) (λ el hel=>zei str hel) hb2 (hrun n _ hown hb2 hb1)
        (by rw[hbase];intro b hb;simp[Value.ownBlock] at hb;subst hb;exact⟨hs.mem.hot k hal,(hs.safe k hal).1,(hs.safe k hal).2⟩) _ hs.kill hid2 (by
         rw[hbase];intro q b hq hb;simp[Value.ownBlock] at hb;subst hb;obtain⟨q1,q2⟩:=hdead q hq
         exact⟨λ h=>q2 (hs.mem.inj q k q1 hal h),λ hx=>(hs.mem.own q _ q1 hx).2.2.1 k hal rfl⟩) hmm hK
       intro i j dl dd hdl hdd;rw[List.getElem?_take] at hdl
       split at hdl
       .rename_i hi
        obtain⟨u,u1,u2,u3⟩:=r6 i j dl dd hdl hdd;refine⟨u, ?_,u2,u3⟩
        have hj:j<1:=by rw[<- r5 dl (zri hdl)];exact(zrf.1 hdd).1
        rw[List.getElem?_take,if_pos (by omega),List.getElem?_drop];simpa using u1
       .cases hdl
     | _=>rw[hm] at h4;exact h4.elim
    | _=>exact h4.elim
  | _=>exact h2.elim
theorem zk9 {x:Operand}{t:TypeId}(hs:SR fr nt g e m a w)(ho:∀ d,o.dst=some d->d<nt)(hop:o.op = .call { callee := .builtin .unsafeSliceData,args := #[x],argTypes := #[t] })
  (h:zeW x e m l K):Good P fr nt e m a w o K Q:=by
 unfold zeW at h;obtain⟨sx,l1,hx,hb,h⟩:=zaa hs h
 rcases hx with hx|hx
 .subst hx;exact h.elim
 generalize hv:a.eval x=v at hx
 cases hx with
 | @rs k n n0 n1 n2 =>
  simp only[Pg.getB,zam] at h
  cases hm:m k with
  | row e' s es =>
   rw[hm] at h;obtain⟨hn,h⟩:=h;rw[zal] at h
   have hN:g.N k=false:=by
    cases hN:g.N k with
    | false=>rfl
    | true=>exact absurd (n0 hN) hn
   have hbase:g.base k n = .slice (some ⟨g.β k,co (g.C k),none⟩) n (cc (g.C k)):=by simp[Gh.base,hN]
   have hc:=n1 hN;have hr:=Lib.run_unsafeSliceData_row (P:=P) w #[t] o.type ⟨g.β k,co (g.C k),none⟩ n (cc (g.C k)) (by omega);refine zah hs ho (v := .pointer (some ⟨g.β k,co (g.C k),none⟩)) (by simp[execOp,hop,resolve,invoke,builtin,hv,hbase,hr]) (.inr ?_) (by simpa [SV.ids] using hb) h;have:=Den.rp (g:=g) (w:=w) (k:=k) (s:=s) (i:=0) (j:=0) hN;simpa using this
  | _=>rw[hm] at h;exact h.elim
 | _=>exact h.elim
theorem zmp {P:Program}{e:TypeId}(hc:P.cellsOf e=1)(count off n:Nat)(hn:off+n<=count):liesAt P P.depth e count off e n=true:=by
 have hd:P.depth=(2*(P.types.size+Made.depth)+1)+1:=rfl;rw[hd];simp only[liesAt,Bool.or_eq_true];left;rw[hd];simp[rowAt,hc,hn,sameLayout,Nat.mod_one]
theorem zn1 (pt it ty e:TypeId)(hp:P.underlying pt=some (.pointer e))(hc:P.cellsOf e=1)(gb off cells:Nat)(hsh:w.shape? gb=some (e,cells))(l:List UInt8)(h0:l≠[])(hn:off+l.length<=cells)(h63:l.length<=9223372036854775807)
  (hcell:∀ j x,l[j]? = some x->w.cell? ((⟨gb,off,none⟩:Addr).add j)=some (.int .u8 x.toNat)) :
  (Builtin.unsafeString_ #[pt,it] ty #[.pointer (some ⟨gb,off,none⟩), .int .i64 l.length]).run P w = .ok (.string ⟨l.toArray⟩) (w.freeze ⟨gb,off,none⟩ l.length):=by
 have hl:l.length≠0:=by simpa using h0
 have hlb:=Lib.run_loadBytes (P:=P) w l ⟨gb,off,none⟩ .empty hcell;have hlies:=zmp (P:=P) hc (cells / P.cellsOf e) off l.length (by rw[hc];simpa using hn)
 have h63':¬ (9223372036854775807:Int)<(l.length:Int):=by omega
 have hdef:Builtin.unsafeString_ #[pt,it] ty #[.pointer (some ⟨gb,off,none⟩), .int .i64 l.length] =
   (do
    let n <- asInt (.int .i64 l.length)
    if n<0 then runtimePanic (.error "unsafe.String: len out of range")
    if n > IntKind.i64.max then unsupported (.unsafePointer "String: a length above the largest int")
    if n=0 then pure (.string .empty)
    else if <- variablesAt ⟨gb,off,none⟩ (<- elemOf pt) n.toNat then do
     let s <- loadBytes ⟨gb,off,none⟩ .empty n.toNat
     freeze ⟨gb,off,none⟩ n.toNat
     pure (.string s)
    else unsupported (.unsafePointer "String: not so many bytes at ptr")):=rfl
 rw[hdef];have hmax:IntKind.i64.max=9223372036854775807:=rfl
 have hneg:¬ (l.length:Int)<0:=by omega
 simp[asInt,asIntOf,hmax,h63',hneg,hl,variablesAt,hsh,elemOf,run_underlying hp,hlies,hlb]
theorem zic (w:World)(p:Addr)(n b:Nat)(hb:b≠p.block):(w.freeze p n).heap[b]? = w.heap[b]? := by
 unfold World.freeze
 split
 .rfl
 .show (w.heap.modify _ _)[b]? = _
  rw[Array.getElem?_modify,if_neg (Ne.symm hb)]
theorem zjd (w:World)(p:Addr)(n:Nat):(w.freeze p n).heap.size=w.heap.size:=by
 unfold World.freeze
 split
 .rfl
 .simp
theorem zdw (w:World)(p:Addr)(n:Nat):(w.freeze p n).os=w.os/\(w.freeze p n).tape=w.tape/\(w.freeze p n).output=w.output:=by
 unfold World.freeze
 split <;> exact⟨rfl,rfl,rfl⟩
theorem zfX {b:Nat}{cur:Array Value}{e:TypeId}{fz:Nat×Nat}(h:w.heap[b]? = some (.cells cur e fz)):w.shape? b=some (e,cur.size):=by
 simp[World.shape?,h]
theorem zmq {x y:Operand}{pt it:TypeId}(hT:TyOK P c.ty)(hs:SR fr nt g e m a w)(ho:∀ d,o.dst=some d->d<nt)(hop:o.op = .call { callee := .builtin .unsafeString,args := #[x,y],argTypes := #[pt,it] })
  (h:zhL c x y pt e m l K):Good P fr nt e m a w o K Q:=by
 unfold zhL at h;replace h:=zaa hs h;obtain⟨sx,l1,hx,hb,h⟩:=h;replace h:=zaa hs h;obtain⟨sy,l2,hy,_,h⟩:=h
 cases ht:c.ty.at pt with
 | none=>rw[ht] at h;exact h.elim
 | some tp =>
 rw[ht] at h;dsimp only at h
 rcases hx with hx|hx
 .subst hx;exact h.elim
 cases hrp:zlW sx with
 | none=>rw[hrp] at h;exact h.elim
 | some q4 =>
 obtain⟨k,s,i,j⟩:=q4
 have hsx':sx = .rp k s i j:=by
  unfold zlW at hrp
  split at hrp
  .cases hrp;rfl
  .cases hrp
 subst hsx';rw[hrp] at h;dsimp only at h
 cases hin:ziZ sy with
 | none=>rw[hin] at h;exact h.elim
 | some n =>
 have hsy':sy = .dat (.v (.int .i64 n)):=by
  unfold ziZ at hin
  split at hin
  .cases hin;rfl
  .cases hin
 subst hsy';rw[hin] at h;dsimp only at h;have hij:=(zaj h).1;replace h:=(zaj h).2;simp only[zrk] at hij;obtain rfl:=zrh hij.1;obtain rfl:=zrh hij.2;simp only[Pg.getB,zam] at h;obtain⟨hyv,_⟩:=Den.int hy;generalize hv:a.eval x=v at hx
 cases hx with
 | rp hN =>
 have hblk:=hs.mem.blk k
 cases hm:m k with
 | row el s' es =>
  rw[hm] at hblk h;dsimp only at h;replace h:=zaj h;obtain⟨hc1,h⟩:=h;simp only[zrk,Bool.not_eq_true'] at hc1;obtain⟨⟨⟨h1,h1'⟩,h2⟩,h3⟩:=hc1;obtain rfl:=zrh h1;obtain rfl:=zrh h1';have hpe:=zrh h2
  have hel0:el≠0:=by rintro rfl;simp at h3
  cases hte:c.ty.at el with
  | none=>rw[hte] at h;exact h.elim
  | some te =>
  rw[hte] at h;dsimp only at h;replace h:=zaj h;obtain⟨hu8,⟨hn,hne⟩,q,hq,hK⟩:=h
  have hts:te.size=1:=by
   unfold isU8 at hu8
   split at hu8
   .simp only[zrk] at hu8
    exact zrh hu8.1
   .cases hu8
  have hcel:P.cellsOf el=1:=by
   obtain⟨i,z,hi,his,_⟩:=(hT el te hte).info;simp[Program.cellsOf,hi,his,hts]
  have hpu:P.underlying pt=some (.pointer el):=by
   have:=(hT pt tp ht).pe (by rw[hpe];exact hel0);rw[hpe] at this;exact this
  rcases hblk with ⟨hN',_⟩|⟨_,cur,⟨_,r1,_⟩,r2,r3,r4,r5,r6⟩
  .rw [hN] at hN';cases hN'
  obtain⟨hql,hqg⟩:=zdu hq
  have hq0:q≠[]:=by
   intro h0;rw[h0] at hql;exact hne (List.eq_nil_of_length_eq_zero hql.symm)
  have hcell:∀ j x,q[j]? = some x->w.cell? ((⟨g.β k,co (g.C k),none⟩:Addr).add j)=some (.int .u8 x.toNat):=by
   intro j x hj
   have hj':j<es.length:=by rw[<- hql];exact(zrf.1 hj).1
   have hdj:=zrg hj';obtain⟨n,hn,hqn⟩:=hqg j _ hdj;obtain⟨u,u1,u2,u3⟩:=r6 j 0 es[j] (.v (.int .u8 n)) hdj (by rw[hn];rfl);rw[Nat.mul_one,Nat.add_zero] at u1;rw[zaC,cell_of_row w _ _ _ _ _ r1,u1]
   cases u3 with
   | v hp =>
    rw[hj] at hqn;have hqj:=Option.some.inj hqn
    have:n.toNat<256:=by simp[pl,IntKind.min,IntKind.max,IntKind.signed,IntKind.bits] at hp;omega
    have h0:0<=n:=by simp[pl,IntKind.min,IntKind.max,IntKind.signed,IntKind.bits] at hp;omega
    rw[hqj];simp[UInt8.toNat_ofNat',Nat.mod_eq_of_lt this,Int.toNat_of_nonneg h0]
  have hr:=zn1 (P:=P) (w:=w) pt it o.type el hpu hcel (g.β k) (co (g.C k)) cur.size (zfX r1) q hq0 (by rw[hql];omega) (by rw[hql];have:=r4;simp only[maxLen] at this;omega) hcell
  have hal:zac g m k:=by simp[zac,hm,hN]
  have hdead:∀ q,zac g (mApp [(k, .dead)] m) q->zac g m q/\q≠k:=by
   intro q hq;unfold zac at hq;rw[za] at hq;by_cases hkq:k=q
   .rw [if_pos hkq] at hq;exact hq.elim
   .rw [if_neg hkq] at hq;exact⟨hq,Ne.symm hkq⟩
  have hw2:=(hs.kill (k:=k)).extH (w':=w.freeze ⟨g.β k,co (g.C k),none⟩ q.length) (hole:=λ b=>b=g.β k) (zdw _ _ _).1 (zdw _ _ _).2.1 (zdw _ _ _).2.2 (by rw[zjd];exact Nat.le_refl _)
   (λ b _ hb=>zic _ _ _ _ hb) (λ q hq=>by
    obtain⟨q1,q2⟩:=hdead q hq
    exact⟨λ h=>q2 (hs.mem.inj q k q1 hal h),λ b hx hb=>(hs.mem.own q _ q1 hx).2.2.1 k hal hb.symm⟩) (λ b hb=>by subst hb;exact⟨hs.mem.hot k hal,(hs.safe k hal).1⟩)
  unfold Good Oper.wp
  have hrun:(execOp a.eval o).run P w = .ok (.value (.string ⟨q.toArray⟩)) (w.freeze ⟨g.β k,co (g.C k),none⟩ q.length):=by
   have hn':n=(q.length:Int):=by rw[hn,hql]
   simp[execOp,hop,resolve,invoke,builtin,hv,hyv,hn',hr]
  rw[hrun];refine⟨_,_,hK,g,hw2.put ho (.inr (.dat (.v ?_))) (by simp[SV.ids])⟩;show ByteArray.size _<=maxLen;simp[ByteArray.size,hql];omega
 | _=>rw[hm] at h;exact h.elim
end
end Go.Vc
namespace Go.Vc
open Go.RowKit
section
variable {P:Program} {fr:Fr} {nt:Nat} {g:Gh} {e:Nat->SV} {m:Nat->Blk} {a:Act} {w:World} {T:Tree (Option TI)} {c:Ctx}
variable {o:Oper} {K:Dl->List Loc->Prop} {Q:Exit->Act->World->Prop} {l:List Loc}
theorem zgd {t:TypeId}{ti:TI}(h:TIok P t ti)(hc:zdK ti.k=true):∃ d,P.underlying t=some d/\∀ s,d ≠ .interface s:=by
 obtain⟨d,hd,_,hk⟩:=h.desc;refine⟨d,hd,λ s hs=>?_⟩;subst hs;revert hk hc
 cases ti.k <;> simp[zdK]
theorem zpw {v:Value}{d:D}{b:Bool}(h:Rd g.F w v d):DenO g w (.tuple #[v, .bool b]) (.tup [SV.ofD d, .kb b]):=by
 rcases zaQ (g:=g) h with h1|h1
 .unfold SV.ofD at h1;split at h1 <;> cases h1
 .exact .inr (.tup (vs:=[v, .bool b]) rfl λ i u x hu hx=>by
   match i,hu,hx with
   | 0,hu,hx=>simp at hu hx;subst hu hx;exact h1
   | 1,hu,hx=>simp at hu hx;subst hu hx;exact .kb
   | i+2,hu,hx=>simp at hu)
theorem zla {t:TypeId}{x:Operand}(hT:TyOK P c.ty)(hs:SR fr nt g e m a w)(ho:∀ d,o.dst=some d->d<nt)(hop:o.op = .makeInterface t x)
  (h:Pg.opd x (λ sv=>ze0 c t sv) e m l K):Good P fr nt e m a w o K Q:=by
 obtain⟨sv,l',hx,hb,h1⟩:=zaa hs h;unfold ze0 at h1
 cases ht:c.ty.at t with
 | none=>simp only[ht] at h1;exact h1.elim
 | some ti =>
  simp only[ht] at h1
  cases hc:zdK ti.k with
  | false=>simp only[hc,when_,cond_false] at h1;exact h1.elim
  | true =>
   simp only[hc,when_,cond_true] at h1;obtain⟨d,hd,hn⟩:=zgd (hT t ti ht) hc
   have hrun:(execOp a.eval o).run P w = .ok (.value (.iface t (a.eval x))) w:=by
    cases d <;> first|(simp[execOp,hop,Instr.makeInterface,run_underlying hd];done)|exact absurd rfl (hn _)
   split at h1
   .rename_i d'
    simp only[zal] at h1;exact zah hs ho hrun (.inr (.dat (.ifc (Den.dat' hx)))) (by simp[SV.ids]) h1
   .rename_i b
    simp only[zal] at h1;have hv:=Den.bool hx;rw[hv] at hrun;exact zah hs ho hrun (.inr (.dat (.ifc (.v trivial)))) (by simp[SV.ids]) h1
   .exact h1.elim
theorem zlb {x:Operand}{xt t:TypeId}{d:TypeDesc}(hop:o.op = .typeAssert x xt t true)(hd:P.underlying t=some d)(hn:∀ s,d ≠ .interface s) :
  (∀ v,a.eval x = .iface t v->(execOp a.eval o).run P w = .ok (.value (.tuple #[v, .bool true])) w) /\
  (∀ z,(zeroValue t).run P w = .ok z w->(a.eval x = .nilIface ∨ ∃ t' v,a.eval x = .iface t' v/\t'≠t)->(execOp a.eval o).run P w = .ok (.value (.tuple #[z, .bool false])) w):=by
 refine⟨λ v hv=>?_,λ z hz hv=>?_⟩
 .cases d <;> first|(simp[execOp,hop,Instr.typeAssert,run_underlying hd,hv];done)|exact absurd rfl (hn _)
 .rcases hv with hv|⟨t',v,hv,hne⟩
  .cases d <;> first|(simp[execOp,hop,Instr.typeAssert,run_underlying hd,hv,hz];done)|exact absurd rfl (hn _)
  .cases d <;> first|(simp[execOp,hop,Instr.typeAssert,run_underlying hd,hv,hz,hne];done)|exact absurd rfl (hn _)
theorem zfc {z u:Value}(h:z.cells.toList=[u])(hz:∀ cs,z ≠ .agg cs):z=u:=by
 cases z <;> simp[Value.cells] at h <;> first|exact h|exact absurd rfl (hz _)
theorem zje {x:Operand}{xt t:TypeId}{ok:Bool}(hT:TyOK P c.ty)(hs:SR fr nt g e m a w)(ho:∀ d,o.dst=some d->d<nt)(hop:o.op = .typeAssert x xt t ok)
  (h:Pg.opd x (λ sv=>zdP c t ok sv) e m l K):Good P fr nt e m a w o K Q:=by
 obtain⟨sv,l',hx,hb,h1⟩:=zaa hs h;unfold zdP at h1
 cases ok with
 | false=>simp only[when_,cond_false] at h1;exact h1.elim
 | true =>
  simp only[when_,cond_true] at h1
  cases ht:c.ty.at t with
  | none=>simp only[ht] at h1;exact h1.elim
  | some ti =>
   simp only[ht] at h1
   cases hc:zdK ti.k with
   | false=>simp only[hc,cond_false] at h1;exact h1.elim
   | true =>
    simp only[hc,cond_true] at h1;obtain⟨d,hd,hn⟩:=zgd (hT t ti ht) hc;obtain⟨r1,r2⟩:=zlb (a:=a) (w:=w) hop hd hn
    have fails:(a.eval x = .nilIface ∨ ∃ t' v,a.eval x = .iface t' v/\t'≠t)->zf6 ti e m l' K->Good P fr nt e m a w o K Q:=by
     intro hv hk;unfold zf6 at hk
     cases hu:ti.zero with
     | nil=>simp only[hu] at hk;exact hk.elim
     | cons u r =>
      cases r with
      | cons _ _=>simp only[hu] at hk;exact hk.elim
      | nil =>
       simp only[hu] at hk
       cases hq:(!ti.agg&&(SV.ofV1 u).one) with
       | false=>simp only[hq,when_,cond_false] at hk;exact hk.elim
       | true =>
        simp only[hq,when_,cond_true,zal] at hk;simp only[zrk,Bool.not_eq_true'] at hq;obtain⟨z,hz,hzc⟩:=zgN (w:=w) (hT t ti ht);obtain⟨i,z',hi,_,_,hz',hzc',_⟩:=(hT t ti ht).info
        have hzz:z=z':=by
         have:(zeroValue t).run P w = .ok z' w:=by simp[zeroValue,typeInfo,hi,hz']
         rw[hz] at this
         cases this;rfl
        subst hzz;have hag:=(hT t ti ht).zag i z hi hz'
        have hzu:z=u:=zfc (by rw[hzc,hu]) λ cs hcs=>by
         subst hcs;simp[hq.1] at hag
        subst hzu;refine zah hs ho (r2 z hz hv) (.inr (.tup (vs:=[z, .bool false]) rfl λ i u x hu hx=>?_)) (λ k hk=>?_) hk
        .match i,hu,hx with
         | 0,hu,hx =>
          simp at hu hx;subst hu hx
          rcases zcx (g:=g) (w:=w) z with h|h
          .have:=hq.2;rw[h] at this;simp[SV.one] at this
          .exact h
         | 1,hu,hx=>simp at hu hx;subst hu hx;exact .kb
         | i+2,hu,hx=>simp at hu
        .simp only[SV.ids,zau] at hk
         obtain⟨y,hy,hk⟩:=hk;simp at hy
         rcases hy with rfl|rfl
         .rw [zcy] at hk;cases hk
         .simp [SV.ids] at hk
    split at h1
    .rename_i t' d'
     have hr:=Den.dat' hx;generalize hv:a.eval x=v at hr
     cases hr with
     | @ifc _ u _ hu =>
      cases hbt:Nat.beq t' t with
      | true =>
       simp only[hbt,cond_true,zal] at h1;have:t'=t:=zrh hbt;subst this;refine zah hs ho (r1 u hv) (zpw hu) (λ k hk=>?_) h1;simp only[SV.ids,zau] at hk;obtain⟨y,hy,hk⟩:=hk;simp at hy
       rcases hy with rfl|rfl
       .rw [zaX] at hk;cases hk
       .simp [SV.ids] at hk
      | false =>
       simp only[hbt,cond_false] at h1;exact fails (.inr ⟨t',u,hv,λ hh=>by subst hh;rw[Nat.beq_refl] at hbt;cases hbt⟩) h1
    .have hr:=Den.dat' hx
     generalize hv:a.eval x=v at hr
     cases hr with
     | v _=>exact fails (.inl hv) h1
    .exact h1.elim
end
end Go.Vc
namespace Go.Cv
def RowG (W:World)(g:Nat)(k:IntKind)(zs:List Int):Prop :=
 ∃ b off cap,W.cell? ⟨g,0,none⟩=some (.slice (some ⟨b,off,none⟩) zs.length cap)/\zs.length<=cap/\cap<=maxLen /\
  ∀ i z,zs[i]? = some z->W.cell? ⟨b,off+i,none⟩=some (.int k z)
end Go.Cv
namespace Go.Vc
def zkf:List Int:=[0,1,1,2,1,2,2,3,1,2,2,3,2,3,3,4]
def LX (P:Program)(w:World):Prop:=Cv.RowG w 0 .i64 zkf
def LB (P:Program)(w:World)(b:Nat):Prop:=b=0 ∨ ∃ off len cap,w.cell? ⟨0,0,none⟩=some (.slice (some ⟨b,off,none⟩) len cap)
theorem zfd {w w':World}{b off:Nat}(h:w'.heap[b]? = w.heap[b]?):w'.cell? ⟨b,off,none⟩=w.cell? ⟨b,off,none⟩:=by
 simp only[World.cell?,h]
theorem LX.same {P:Program}{w w':World}(h:LX P w)(hb:∀ b,LB P w b->w'.heap[b]? = w.heap[b]?):LX P w':=by
 obtain⟨b,off,cap,h1,h2,h3,h4⟩:=h;have e0:=hb 0 (Or.inl rfl);have e1:=hb b (Or.inr ⟨_,_,_,h1⟩);exact⟨b,off,cap,by rw[zfd e0];exact h1,h2,h3,λ i z hi=>by rw[zfd e1];exact h4 i z hi⟩
theorem LX.lt {P:Program}{w:World}(h:LX P w){b:Nat}(hb:LB P w b):b<w.heap.size:=by
 have key:∀ b off v,w.cell? ⟨b,off,none⟩=some v->b<w.heap.size:=by
  intro b off v h;unfold World.cell? at h
  split at h
  .rename_i hh
   exact(Array.getElem?_eq_some_iff.1 hh).1
  .cases h
 obtain⟨b0,off,cap,h1,h2,h3,h4⟩:=h
 rcases hb with rfl|⟨o,l,c,hb⟩
 .exact key _ _ _ h1
 .rw [h1] at hb
  cases hb
  exact key _ _ _ (h4 0 0 rfl)
theorem LB.back {P:Program}{w w':World}{b:Nat}(h:LB P w' b)(h0:w'.heap[0]? = w.heap[0]?):LB P w b:=by
 rcases h with rfl|⟨o,l,c,h⟩
 .exact Or.inl rfl
 .rw [zfd h0] at h;exact Or.inr ⟨o,l,c,h⟩
theorem LX.heap {P:Program}{w w':World}(h:LX P w)(hw:w'.heap=w.heap):LX P w':=h.same λ b _=>by rw[hw]
end Go.Vc
namespace Go.Vc
open Go.RowKit
def zb5 (P:Program) (f:FuncId):Prop:=∃ fn,P.funcs[f]? = some fn/\fn.body.isNone=false/\(fn.name == "runtime.NumGoroutine")=false
def zn2 (l:List Loc)(e:Nat->SV)(m:Nat->Blk)(e':Nat->SV)(m':Nat->Blk):Prop:=(∀ t,Loc.t t∈l->e' t=e t)/\∀ b,Loc.b b∈l∨Loc.all∈l->m' b=m b
def Local (p:Pg):Prop:=∀ (e:Nat->SV) (m:Nat->Blk) (l:List Loc) (K:Dl->List Loc->Prop),p e m l K ->
 ∃ δ l',K δ l'/\(∀ x,x∈l->x∈l')/\∀ (e':Nat->SV) (m':Nat->Blk) (K':Dl->List Loc->Prop),zn2 l' e m e' m'->K' δ l'->p e' m' l K'
def zqC (P:Program)(fr:Fr)(f:FuncId)(pg:List SV->Nat->Pg):Prop :=
 ∀ (nt:Nat) (g:Gh) (e:Nat->SV) (m:Nat->Blk) (a:Act) (w:World) (xs:List SV) (vs:List Value) (id:Nat) (l:List Loc) (K:Dl->List Loc->Prop),
  SR fr nt g e m a w->fr.p<=id->xs.length=vs.length->(∀ (i:Nat) v x,vs[i]? = some v->xs[i]? = some x->DenO g w v x)->(∀ x,x∈xs->∀ k,k∈x.ids->m k ≠ .unborn)->pg xs id e m l K ->
  Calls P f vs.toArray w λ en w' => ∃ v δ l' g',en = .returned v/\K δ l'/\SR fr nt g' e (mApp δ.wr m) a w'/\DenO g' w' v δ.val/\∀ k,k∈δ.val.ids->mApp δ.wr m k ≠ .unborn
def GB (P:Program)(b:Nat):Prop:=∀ w:World,w.ShapedOpen P->LX P w->∃ o,w.heap[b]? = some o
def Glb (P:Program)(w:World):Prop:=LX P w/\∀ (b:Nat) (Φ:Obj->Prop),(∀ w':World,w'.ShapedOpen P->LX P w'->∃ o,w'.heap[b]? = some o/\Φ o)->∃ o,w.heap[b]? = some o/\Φ o
theorem Glb.of_shaped {P:Program}{w:World}(h:w.ShapedOpen P)(hx:LX P w):Glb P w:=⟨hx,λ b Φ hΦ=>hΦ w h hx⟩
def KB (P:Program)(w:World)(b:Nat):Prop:=GB P b∨LB P w b
theorem Glb.same {P:Program}{w w':World}(h:Glb P w)(hb:∀ b,KB P w b->w'.heap[b]? = w.heap[b]?):Glb P w':=⟨h.1.same λ b h=>hb b (Or.inr h),λ b Φ hΦ=>by
 rw[hb b (Or.inl λ w hw hx=>(hΦ w hw hx).imp λ o ho=>ho.1)];exact h.2 b Φ hΦ⟩
theorem Glb.lt {P:Program}{w:World}(h:Glb P w){b:Nat}(hb:KB P w b):b<w.heap.size:=by
 rcases hb with hb|hb
 .obtain ⟨o,ho,_⟩:=h.2 b (λ _=>True) (λ w hw hx=>(hb w hw hx).imp λ o ho=>⟨ho,trivial⟩)
  exact(Array.getElem?_eq_some_iff.1 ho).1
 .exact h.1.lt hb
theorem KB.back {P:Program}{w w':World}{b:Nat}(h:KB P w' b)(hb:∀ b,KB P w b->w'.heap[b]? = w.heap[b]?):KB P w b:=h.imp id λ h=>h.back (hb 0 (Or.inr (Or.inl rfl)))
def FrOK (P:Program)(fr:Fr):Prop:=Glb P fr.w0/\∀ b,KB P fr.w0 b->fr.Kp b
theorem SR.glb {P:Program}{fr:Fr}{nt:Nat}{g:Gh}{e:Nat->SV}{m:Nat->Blk}{a:Act}{w:World}(h:SR fr nt g e m a w)(hf:FrOK P fr):Glb P w:=hf.1.same λ b hb=>(h.keep b (hf.2 b hb)).2
theorem SR.kb {P:Program}{fr:Fr}{nt:Nat}{g:Gh}{e:Nat->SV}{m:Nat->Blk}{a:Act}{w:World}(h:SR fr nt g e m a w)(hf:FrOK P fr){b:Nat}(hb:KB P w b):KB P fr.w0 b:=hb.back λ b hb=>(h.keep b (hf.2 b hb)).2
def CallOK (P:Program)(f:FuncId)(pg:List SV->Nat->Pg):Prop:=∀ fr,FrOK P fr->zqC P fr f pg
def CtxF (P:Program)(fr:Fr)(c:Ctx):Prop:=∀ f pg,c.fn f=some pg->zb5 P f/\zqC P fr f pg/\(c.pr f=true->∀ xs id,Local (pg xs id))
def CtxOK (P:Program)(c:Ctx):Prop:=∀ f pg,c.fn f=some pg->zb5 P f/\CallOK P f pg/\(c.pr f=true->∀ xs id,Local (pg xs id))
theorem CtxOK.at {P:Program}{c:Ctx}{fr:Fr}(h:CtxOK P c)(hf:FrOK P fr):CtxF P fr c:=λ f pg hc=>⟨(h f pg hc).1,(h f pg hc).2.1 fr hf,(h f pg hc).2.2⟩
def zbM (c:Ctx):Prop:=c.dem=false/\∀ f pg,c.fn f=some pg->∀ xs id,Local (pg xs id)
theorem CtxF.loc {P:Program}{fr:Fr}{c:Ctx}(h:CtxF P fr c):CtxF P fr c.loc/\zbM c.loc:=by
 have key:∀ f pg,c.loc.fn f=some pg->c.pr f=true/\c.fn f=some pg:=by
  intro f pg hf;simp only[Ctx.loc] at hf
  cases hp:c.pr f <;> rw[hp] at hf
  .cases hf
  .exact ⟨rfl,hf⟩
 exact⟨λ f pg hf=>h f pg (key f pg hf).2,rfl,λ f pg hf=>(h f pg (key f pg hf).2).2.2 (key f pg hf).1⟩
def PureOK (P:Program)(f:FuncId)(G:List D->D->Prop):Prop :=
 ∀ (w:World) (Z:Nat->Prop) (vs:List Value) (ds:List D) (d:D),(∀ b,Z b->b<w.heap.size)->vs.length=ds.length->(∀ (i:Nat) v x,vs[i]? = some v->ds[i]? = some x->Rd Z w v x)->Glb P w->G ds d ->
  Calls P f vs.toArray w λ en w' => ∃ v,en = .returned v/\Ext w w'/\Rd (λ b=>Z b∨(w.heap.size<=b/\b<w'.heap.size)) w' v d
section
variable {P:Program} {fr:Fr} {nt:Nat} {g:Gh} {e:Nat->SV} {m:Nat->Blk} {a:Act} {w:World} {T:Tree (Option TI)} {c:Ctx}
variable {o:Oper} {K:Dl->List Loc->Prop} {Q:Exit->Act->World->Prop} {l:List Loc}
def fzOf:Blk->Blk
 | .row t s es=>.fz t s es
 | .sn e s ea none es=>.fz e s (es.map (snD ea))
 | b=>b
def WsOK (m:Nat->Blk)(ws:List (Nat×Blk)):Prop:=∀ p,p∈ws->p.2=fzOf (m p.1)/\((∃ t s es,m p.1 = .row t s es) ∨ ∃ t s ea es,m p.1 = .sn t s ea none es)
theorem zba {ws:List (Nat×Blk)}{m1:Nat->Blk}(h:WsOK m ws)(k:Nat):(((∃ p,p∈ws/\p.1=k)->mApp ws m1 k=fzOf (m k))/\((¬ ∃ p,p∈ws/\p.1=k)->mApp ws m1 k=m1 k)):=by
 induction ws with
 | nil=>exact⟨(by rintro⟨p,hp,_⟩;cases hp),λ _=>rfl⟩
 | cons p r ih =>
  obtain⟨q,b⟩:=p;have ih:=ih λ x hx=>h x (by simp[hx]);rw[za];by_cases hq:q=k
  .rw [if_pos hq]
   refine⟨λ _=>?_,λ hn=>absurd ⟨(q,b),by simp,hq⟩ hn⟩;have:=(h (q,b) (by simp)).1;rw[<- hq];exact this
  .rw [if_neg hq]
   refine⟨?_,λ hn=>ih.2 λ ⟨x,hx,hk⟩=>hn ⟨x,by simp[hx],hk⟩⟩;rintro⟨x,hx,hk⟩
   rcases List.mem_cons.1 hx with rfl|hx
   .exact absurd hk hq
   .exact ih.1 ⟨x,hx,hk⟩
theorem zce {w1 w2:List (Nat×Blk)}{m1:Nat->Blk}(h1:WsOK m w1)(h2:WsOK m w2):mApp (w1++w2) m1=mApp w2 (mApp w1 m1):=by
 have h12:WsOK m (w1++w2):=λ p hp=>(List.mem_append.1 hp).elim (h1 p) (h2 p);funext k;by_cases e2:∃ p,p∈w2/\p.1=k
 .obtain ⟨p,hp,hk⟩:=e2
  rw[(zba (m1:=m1) h12 k).1 ⟨p,by simp[hp],hk⟩,(zba (m1:=mApp w1 m1) h2 k).1 ⟨p,hp,hk⟩]
 .rw [(zba (m1:=mApp w1 m1) h2 k).2 e2]
  by_cases e1:∃ p,p∈w1/\p.1=k
  .obtain ⟨p,hp,hk⟩:=e1
   rw[(zba (m1:=m1) h12 k).1 ⟨p,by simp[hp],hk⟩,(zba (m1:=m1) h1 k).1 ⟨p,hp,hk⟩]
  .rw [(zba (m1:=m1) h1 k).2 e1,(zba (m1:=m1) h12 k).2]
   rintro⟨p,hp,hk⟩
   rcases List.mem_append.1 hp with hp|hp
   .exact e1 ⟨p,hp,hk⟩
   .exact e2 ⟨p,hp,hk⟩
def Inv (m m1:Nat->Blk):Prop:=∀ k,m1 k=m k∨m1 k=fzOf (m k)
def Same (g g':Gh):Prop:=(∀ b,g.F b->g'.F b)/\g'.β=g.β/\g'.C=g.C/\g'.N=g.N/\g'.M=g.M
theorem Same.refl (g:Gh):Same g g:=⟨λ _ h=>h,rfl,rfl,rfl,rfl⟩
theorem Same.trans {g g' g'':Gh}(h:Same g g')(h':Same g' g''):Same g g'':=⟨λ b hb=>h'.1 b (h.1 b hb),h'.2.1.trans h.2.1,h'.2.2.1.trans h.2.2.1,h'.2.2.2.1.trans h.2.2.2.1,h'.2.2.2.2.trans h.2.2.2.2⟩
theorem Same.den {g':Gh}{v:Value}{x:SV}(h:Same g g')(hx:DenO g w v x):DenO g' w v x:=by
 rcases hx with hx|hx
 .exact .inl hx
 .exact .inr (hx.mono h.1 (λ _ _=>rfl) λ k _=>⟨by rw[h.2.1],by rw[h.2.2.1],by rw[h.2.2.2.1],by rw[h.2.2.2.2];exact List.prefix_rfl⟩)
theorem zdx {m1:Nat->Blk}{z:Nat}{x:SV}{v:Value}{k:D->List (Nat×Blk)->Pg}(hs:SR fr nt g e m1 a w)(hi:Inv m m1)(hx:DenO g w v x)(h:Pg.data1 z x k e m l K) :
  ∃ d ws l' g',SR fr nt g' e (mApp ws m1) a w/\WsOK m ws/\Same g g'/\Rd g'.F w v d/\k d ws e m l' K:=by
 have simple:∀ (x:SV) (hx:DenO g w v x) (h:(match x.toD1 (z) with|some d=>k d []|none=>Pg.fail) e m l K),∃ d ws l' g',SR fr nt g' e (mApp ws m1) a w/\WsOK m ws/\Same g g'/\Rd g'.F w v d/\k d ws e m l' K:=by
  intro x hx h
  cases hd:x.toD1 (z) with
  | none=>simp only[hd] at h;exact h.elim
  | some d =>
   simp only[hd] at h
   rcases hx with hx|hx
   .subst hx;simp[SV.toD1] at hd
   .exact ⟨d,[],l,g,hs,(by intro p hp;cases hp),Same.refl g,zaL hx hd,h⟩
 cases x with
 | rs b n =>
  rcases hx with hx|hx
  .cases hx
  cases hx with
  | rs h1 h2 h3 =>
   simp only[Pg.data1,Pg.getB,zam] at h
   cases hm:m b with
   | row t s es =>
    rw[hm] at h;obtain⟨hn,q0,rfl,h⟩:=h
    have fin:∀ {g':Gh},SR fr nt g' e (mApp [(b, .fz t s es)] m1) a w->Same g g'->∃ d ws l' g',SR fr nt g' e (mApp ws m1) a w/\WsOK m ws/\Same g g'/\Rd g'.F w (g.base b n) d/\k d ws e m l' K:=by
     intro g' hs' hsame;have hblk:=hs'.mem.blk b;rw[za,if_pos rfl] at hblk
     have hbase:g.base b n=g'.base b n:=by simp[Gh.base,hsame.2.1,hsame.2.2.1,hsame.2.2.2.1]
     refine⟨_,[(b, .fz t s es)],_,g',hs',(by intro p hp;simp at hp;subst hp;exact⟨by simp[fzOf,hm], .inl ⟨t,s,es,hm⟩⟩),hsame, ?_,h⟩;rw[hbase]
     rcases hblk with ⟨hN,hes⟩|⟨hN,hF,hrow⟩
     .subst hes
      have:n=0:=by simpa using hn
      subst this;simp[Gh.base,hN];exact .nil (by simp[maxLen])
     .exact zg hN hF hrow hn
    rcases hi b with hb|hb
    .obtain ⟨g',hs',f1,f2,f3,f4,f5⟩:=hs.freeze (by rw[hb,hm])
     exact fin hs' ⟨f1,f2,f3,f4,f5⟩
    .have hfz:m1 b = .fz t s es:=by rw[hb,hm];rfl
     have:mApp [(b, .fz t s es)] m1=m1:=by
      funext q;rw[za];split
      .rename_i hq;rw[<- hq,hfz]
      .rfl
     exact fin (g':=g) (by rw[this];exact hs) (Same.refl g)
   | fz t s es =>
    rw[hm] at h;obtain⟨hn,q0,rfl,h⟩:=h
    have hb:m1 b = .fz t s es:=by rcases hi b with hb|hb <;> rw[hb,hm] <;> rfl
    have hblk:=hs.mem.blk b;rw[hb] at hblk;refine⟨_,[],_,g,hs,(by intro p hp;cases hp),Same.refl g, ?_,h⟩
    rcases hblk with ⟨hN,hes⟩|⟨hN,hF,hrow⟩
    .subst hes
     have:n=0:=by simpa using hn
     subst this;simp[Gh.base,hN];exact .nil (by simp[maxLen])
    .exact zg hN hF hrow hn
   | sn e1 s' ea out ls =>
    rw[hm] at h
    cases out with
    | some p=>exact h.elim
    | none =>
    obtain⟨⟨hn,hok⟩,q0,rfl,h⟩:=h
    have fin:∀ {g':Gh},SR fr nt g' e (mApp [(b, .fz e1 s' (ls.map (snD ea)))] m1) a w->Same g g'->∃ d ws l' g',SR fr nt g' e (mApp ws m1) a w/\WsOK m ws/\Same g g'/\Rd g'.F w (g.base b n) d/\k d ws e m l' K:=by
     intro g' hs' hsame;have hblk:=hs'.mem.blk b;rw[za,if_pos rfl] at hblk
     have hbase:g.base b n=g'.base b n:=by simp[Gh.base,hsame.2.1,hsame.2.2.1,hsame.2.2.2.1]
     refine⟨_,[(b, .fz e1 s' (ls.map (snD ea)))],_,g',hs',(by intro p hp;simp at hp;subst hp;exact⟨by simp[fzOf,hm], .inr ⟨e1,s',ea,ls,hm⟩⟩),hsame, ?_,h⟩;rw[hbase]
     rcases hblk with ⟨hN,hes⟩|⟨hN,hF,hrow⟩
     .rw [hes]
      have:n=0:=by rw[hn];simpa using hes
      subst this;simp[Gh.base,hN];exact .nil (by simp[maxLen])
     .have:=zg (n:=n) hN hF hrow (by simp[hn])
      rw[List.take_of_length_le (by simp[hn])] at this;exact this
    rcases hi b with hb|hb
    .obtain ⟨g',hs',f1,f2,f3,f4,f5⟩:=hs.freezeN (k:=b) (s:=s') (e1:=e1) (ea:=ea) (es:=ls) (by rw[hb,hm]) hok
     exact fin hs' ⟨f1,f2,f3,f4,f5⟩
    .have hfz:m1 b = .fz e1 s' (ls.map (snD ea)):=by rw[hb,hm];rfl
     have:mApp [(b, .fz e1 s' (ls.map (snD ea)))] m1=m1:=by
      funext q;rw[za];split
      .rename_i hq;rw[<- hq,hfz]
      .rfl
     exact fin (g':=g) (by rw[this];exact hs) (Same.refl g)
   | _=>rw[hm] at h;exact h.elim
 | _=>exact simple _ hx h
theorem zeA {xs:List SV}:∀ {g:Gh} {m1:Nat->Blk} {vs:List Value} {k:List D->List (Nat×Blk)->Pg} {l:List Loc} {zs:List Nat},SR fr nt g e m1 a w->Inv m m1->xs.length=vs.length ->
  (∀ (i:Nat) v x,vs[i]? = some v->xs[i]? = some x->DenO g w v x)->Pg.datas1 zs xs k e m l K ->
  ∃ ds ws l' g',SR fr nt g' e (mApp ws m1) a w/\WsOK m ws/\Same g g'/\vs.length=ds.length/\(∀ (i:Nat) v d,vs[i]? = some v->ds[i]? = some d->Rd g'.F w v d)/\k ds ws e m l' K:=by
 induction xs with
 | nil =>
  intro g m1 vs k l zs hs hi hl hx h
  cases vs with
  | nil=>exact⟨[],[],l,g,hs,(by intro p hp;cases hp),Same.refl g,rfl,by simp,h⟩
  | cons=>simp at hl
 | cons x xs ih =>
  intro g m1 vs k l zs hs hi hl hx h
  cases vs with
  | nil=>simp at hl
  | cons v vs =>
   obtain⟨d,w1,l1,g1,hs1,hw1,hsame,hr,h1⟩:=zdx hs hi (hx 0 v x rfl rfl) h
   have hi1:Inv m (mApp w1 m1):=by
    intro q;by_cases hq:∃ p,p∈w1/\p.1=q
    .exact .inr ((zba hw1 q).1 hq)
    .rw [(zba hw1 q).2 hq];exact hi q
   obtain⟨ds,w2,l2,g2,hs2,hw2,hsame2,hl2,hr2,h2⟩:=ih (vs:=vs) hs1 hi1 (by simpa using hl) (λ i v x hv hx' => hsame.den (hx (i+1) v x (by simpa using hv) (by simpa using hx'))) h1;refine⟨d::ds,w1++w2,l2,g2,by rw[zce hw1 hw2];exact hs2,λ p hp=>(List.mem_append.1 hp).elim (hw1 p) (hw2 p),hsame.trans hsame2,by simp[hl2],λ i v' d' hv hd=>?_,h2⟩
   cases i with
   | zero=>simp at hv hd;subst hv hd;exact hr.mono hsame2.1 λ _ _=>rfl
   | succ i=>exact hr2 i v' d' (by simpa using hv) (by simpa using hd)
theorem zlc {m1:Nat->Blk}{csz:List Nat}{x:SV}{v:Value}{k:D->List (Nat×Blk)->Pg}(hs:SR fr nt g e m1 a w)(hi:Inv m m1)(hx:DenO g w v x)(h:Pg.data csz x k e m l K) :
  ∃ d ws l' g',SR fr nt g' e (mApp ws m1) a w/\WsOK m ws/\Same g g'/\Rd g'.F w v d/\k d ws e m l' K:=by
 cases x with
 | agg lc =>
  rcases hx with hx|hx
  .cases hx
  cases hx with
  | @agg vs _ hl ho hc =>
   obtain⟨ds,ws,l',g',h1,h2,h3,h4,h5,h6⟩:=zeA (vs:=vs) (k:=λ ds ws=>k (.agg ds) ws) hs hi hl.symm (λ i v x hv hx=>.inr (hc i v x hv hx)) h;refine⟨_,ws,l',g',h1,h2,h3, .agg h4 (λ i u d hu hd=>?_) h5,h6⟩
   have hi':i<lc.length:=by rw[<- hl];exact(zrf.1 hu).1
   exact ho i u _ hu (zrg hi')
 | _=>exact zdx (z:=csz.headD 0) (l:=l) hs hi hx h
theorem zfe {xs:List SV}:∀ {g:Gh} {m1:Nat->Blk} {vs:List Value} {k:List D->List (Nat×Blk)->Pg} {l:List Loc} {zs:List (List Nat)},SR fr nt g e m1 a w->Inv m m1->xs.length=vs.length ->
  (∀ (i:Nat) v x,vs[i]? = some v->xs[i]? = some x->DenO g w v x)->Pg.datas zs xs k e m l K ->
  ∃ ds ws l' g',SR fr nt g' e (mApp ws m1) a w/\WsOK m ws/\Same g g'/\vs.length=ds.length/\(∀ (i:Nat) v d,vs[i]? = some v->ds[i]? = some d->Rd g'.F w v d)/\k ds ws e m l' K:=by
 induction xs with
 | nil =>
  intro g m1 vs k l zs hs hi hl hx h
  cases vs with
  | nil=>exact⟨[],[],l,g,hs,(by intro p hp;cases hp),Same.refl g,rfl,by simp,h⟩
  | cons=>simp at hl
 | cons x xs ih =>
  intro g m1 vs k l zs hs hi hl hx h
  cases vs with
  | nil=>simp at hl
  | cons v vs =>
   obtain⟨d,w1,l1,g1,hs1,hw1,hsame,hr,h1⟩:=zlc hs hi (hx 0 v x rfl rfl) h
   have hi1:Inv m (mApp w1 m1):=by
    intro q;by_cases hq:∃ p,p∈w1/\p.1=q
    .exact .inr ((zba hw1 q).1 hq)
    .rw [(zba hw1 q).2 hq];exact hi q
   obtain⟨ds,w2,l2,g2,hs2,hw2,hsame2,hl2,hr2,h2⟩:=ih (vs:=vs) hs1 hi1 (by simpa using hl) (λ i v x hv hx' => hsame.den (hx (i+1) v x (by simpa using hv) (by simpa using hx'))) h1;refine⟨d::ds,w1++w2,l2,g2,by rw[zce hw1 hw2];exact hs2,λ p hp=>(List.mem_append.1 hp).elim (hw1 p) (hw2 p),hsame.trans hsame2,by simp[hl2],λ i v' d' hv hd=>?_,h2⟩
   cases i with
   | zero=>simp at hv hd;subst hv hd;exact hr.mono hsame2.1 λ _ _=>rfl
   | succ i=>exact hr2 i v' d' (by simpa using hv) (by simpa using hd)
theorem CallOK.of_pure {f:FuncId}{zs:List (List Nat)}{G:List D->D->Prop}(h:PureOK P f G):CallOK P f (zj6 zs G):=by
 intro fr hfr nt g e m a w xs vs id l K hs hp hl hx hb hpg;obtain⟨ds,ws,l',g',hs',hws,hsame,hld,hrd,d,hG,hK⟩:=zfe hs (λ k=>.inl rfl) hl hx hpg;refine(h w g'.F vs ds d (λ b hb=>hs'.mem.lt b hb) hld hrd (hs.glb hfr) hG).mono λ en w' ⟨v,he,hw,hr⟩=>?_;exact⟨v,⟨SV.ofD d,ws⟩,l',_,he,hK,hs'.grow hw,zaQ hr,by rw[zaX];simp⟩
theorem zff {t : TypeId}{n id : Nat}{ps : Array (Nat × Operand)}(hT : TyOK P c.ty)(hs : SR fr nt g e m a w)(ho : ∀ d, o.dst = some d -> d < nt)(hid : fr.p <= id /\ m id = .unborn)(hop : o.op = .buildSlice t n ps)
    (h : (match c.ty.at t with
    | some { k := .slice e es eagg, .. } => (match c.ty.at e with
      | some te => Pg.parts ps.toList λ l => bif zpg te.k then zdO te.csz e es n id l else bif znH te then zcj e es eagg n id l else match zbE te.csz eagg es 0 l with
        | some ds => bif Nat.beq ds.length n && Nat.ble (n * es) 16777216 && Nat.ble 1 es then Pg.ret ⟨.rs id n, [(id, .row e es ds)]⟩ else Pg.fail
        | none => Pg.fail
      | none => Pg.fail)
    | _ => Pg.fail) e m l K) : Good P fr nt e m a w o K Q := by
  cases ht : c.ty.at t with
  | none => simp only [ht] at h; exact h.elim
  | some ti =>
    obtain ⟨k, sz, by_, ag, csz, z⟩ := ti;simp only [ht] at h;obtain ⟨d, hd, _, hk⟩ := (hT t _ ht).desc
    cases k with
    | slice el es ea =>
      dsimp only at h hk;obtain ⟨rfl, hes⟩ := hk
      cases hte : c.ty.at el with
      | none => simp only [hte] at h; exact h.elim
      | some te =>
        simp only [hte] at h;obtain ⟨xs, l', hl, hx, hb, h1⟩ := ze9 hs h
        cases hsk : zpg te.k with
        | false =>
         rw [hsk, cond_false] at h1
         cases hsn : znH te with
         | true => rw [hsn, cond_true] at h1; exact zib hT hs ho hid hop hd hes hte hl hx h1
         | false =>
          rw [hsn, cond_false] at h1
          cases he : zbE te.csz ea es 0 xs with
          | none => simp only [he] at h1; exact h1.elim
          | some ds =>
            simp only [he] at h1
            cases hcond : (Nat.beq ds.length n && Nat.ble (n * es) 16777216 && Nat.ble 1 es) with
            | false => simp only [hcond, cond_false] at h1; exact h1.elim
            | true =>
              simp only [hcond, cond_true, Pg.ret] at h1;exact zmb (ea' := ea) hT hs ho hid hop hd hes hte hl hx he hcond h1
        | true =>
          rw [hsk, cond_true] at h1
          have hxl : (xs.map (·.2)).length = (ps.toList.map λ p => a.eval p.2).length := by simp [hl]
          obtain ⟨ds, ws, l2, g', hs', hws, hsame, hdl, hrd, h2⟩ := zeA (vs := ps.toList.map λ p => a.eval p.2) hs (λ k => .inl rfl) hxl (λ i v x hv hx' => by
            rw [List.getElem?_map] at hv hx'
            cases hp : ps.toList[i]? with
            | none => rw [hp] at hv; cases hv
            | some p =>
              rw [hp] at hv; cases hv
              cases hxi : xs[i]? with
              | none => rw [hxi] at hx'; cases hx'
              | some x' => rw [hxi] at hx'; cases hx'; exact (hx i p x' hp hxi).2) h1
          cases he : zbE te.csz false es 0 (zl1 xs ds) with
          | none => simp only [he] at h2; exact h2.elim
          | some ds' =>
            simp only [he] at h2
            cases hcond : (Nat.beq ds'.length n && Nat.ble (n * es) 16777216 && Nat.ble 1 es) with
            | false => simp only [hcond, cond_false] at h2; exact h2.elim
            | true =>
              simp only [hcond, cond_true, Pg.ret] at h2
              have hnid : ∀ p, p ∈ ws -> p.1 ≠ id := by
                intro p hp he
                rcases (hws p hp).2 with ⟨t1, s1, e1, h⟩ | ⟨t1, t2, s1, l1, h⟩ <;> rw [he, hid.2] at h <;> cases h
              have hmid : mApp ws m id = .unborn := by
                rw [(zba (m1 := m) hws id).2 (by rintro ⟨p, hp, he⟩; exact hnid p hp he), hid.2]
              have hG : Good P fr nt e (mApp ws m) a w o (λ δ l => δ.wr = [(id, .row el es ds')] /\ K ⟨δ.val, ws ++ δ.wr⟩ l) Q :=
                zmb (ea := false) (ea' := false) (xs := zl1 xs ds) (l := l2) hT hs' ho ⟨hid.1, hmid⟩ hop hd hes hte (by simp only [zl1, List.length_map, List.length_zip]; simp only [List.length_map] at hdl; omega) (λ i p x hp hx' => by
                  simp only [zl1, List.getElem?_map] at hx'
                  cases hz : (xs.zip ds)[i]? with
                  | none => rw [hz] at hx'; cases hx'
                  | some y =>
                    rw [hz] at hx'; cases hx';obtain ⟨y1, y2⟩ := List.getElem?_zip_eq_some.1 hz
                    exact ⟨(hx i p y.1 hp y1).1, .inr (.dat (hrd i _ _ (by rw [List.getElem?_map, hp]; rfl) y2))⟩) he hcond ⟨rfl, h2⟩
              unfold Good at hG ⊢;refine Oper.wp_mono ?_ hG;rintro a' w' ⟨δ, l3, ⟨hwr, hK⟩, hS⟩;refine ⟨_, _, hK, ?_⟩
              have : mApp (ws ++ δ.wr) m = mApp δ.wr (mApp ws m) := by
                rw [hwr];funext q
                have key : ∀ (ws : List (Nat × Blk)), (∀ p, p ∈ ws -> p.1 ≠ id) -> mApp (ws ++ [(id, Blk.row el es ds')]) m q = if id = q then .row el es ds' else mApp ws m q := by
                  intro ws hne
                  induction ws with
                  | nil => simp only [List.nil_append, za]
                  | cons p r ih =>
                    obtain ⟨k0, b0⟩ := p;simp only [List.cons_append, za];have hk0 : k0 ≠ id := hne (k0, b0) (by simp);by_cases hq : k0 = q
                    . rw [if_pos hq, if_neg (by rw [<- hq]; exact Ne.symm hk0), if_pos hq]
                    . rw [if_neg hq, if_neg hq]
                      exact ih λ p hp => hne p (by simp [hp])
                rw [key ws hnid, za];rfl
              rw [this];exact hS
    | _ => exact h.elim
theorem CallOK.of_lend {f:FuncId}{zs:List (List Nat)}{G:List D->D->Prop}(h:PureOK P f G):CallOK P f (lendPg zs G):=by
 intro fr hfr nt g e m a w xs vs id l K hs hp hl hx hb hpg;obtain⟨ds,l',hld,hrd,d,⟨hG,hfl⟩,hK⟩:=zj hs hl hx hpg;refine(h w (Zall g m) vs ds d (λ b hb=>?_) hld hrd (hs.glb hfr) hG).mono λ en w' ⟨v,he,hw,hr⟩=>?_
 .rcases hb with hb|⟨k,hk⟩
  .exact hs.mem.lt b hb
  .exact (hs.ownS hk).1
 .exact ⟨v,⟨SV.ofD d,[]⟩,l',_,he,hK,hs.grow hw,zaQ (zpt hfl hr),by rw[zaX];simp⟩
theorem zmr {id:Nat}{f:Operand}{args:Array Operand}{ts:Array TypeId}(hC:CtxF P fr c)(hs:SR fr nt g e m a w)(ho:∀ d,o.dst=some d->d<nt)(hp:fr.p<=id)
  (hop:o.op = .call { callee := .value f,args:=args,argTypes:=ts })
  (h:Pg.opd f (λ sf=>Pg.opds args.toList λ l=>match sf with
  | .dat (.v (.func (.func fid) _ _))=>match c.fn fid with
   | some g=>g l id
   | none=>Pg.fail
  | .fn fid first caps=>match c.fn fid with
   | some g=>g (first++l++caps) id
   | none=>Pg.fail
  | _=>Pg.fail) e m l K):Good P fr nt e m a w o K Q:=by
 obtain⟨sf,l1,hf,hfb,h1⟩:=zaa hs h;obtain⟨xs,l2,hl,hx,hb,h2⟩:=zaU hs h1
 have fin:∀ (fid:FuncId) (fs cs:List Value) (yf yc:List SV),a.eval f = .func (.func fid) fs.toArray cs.toArray->fs.length=yf.length->cs.length=yc.length ->
   (∀ (i:Nat) v x,fs[i]? = some v->yf[i]? = some x->DenO g w v x)->(∀ (i:Nat) v x,cs[i]? = some v->yc[i]? = some x->DenO g w v x)->(∀ x,x∈yf++yc->∀ k,k∈x.ids->m k ≠ .unborn) ->
   (match c.fn fid with|some g=>g (yf++xs++yc) id|none=>Pg.fail) e m l2 K->Good P fr nt e m a w o K Q:=by
  intro fid fs cs yf yc hv hlf hlc hdf hdc hbo h3
  cases hc:c.fn fid with
  | none=>simp only[hc] at h3;exact h3.elim
  | some pg =>
   simp only[hc] at h3;obtain⟨⟨fn,hfn,hbody,hname⟩,hok,_⟩:=hC fid pg hc;have hargs:=hok nt g e m a w (yf++xs++yc) (fs++args.toList.map a.eval++cs) id l2 K hs hp (by simp[hl,hlf,hlc]) (λ i v x hv hx' => ?_) (λ x hx' => ?_) h3
   .unfold Good Oper.wp
    have hb1:¬ fn.body=none:=by intro hn;rw[hn] at hbody;simp at hbody
    have hn1:¬ fn.name = "runtime.NumGoroutine" := by simpa using hname
    have hrun:(execOp a.eval o).run P w = .ok (.enter fid (fs++args.toList.map a.eval++cs).toArray) w:=by
     simp[execOp,hop,resolve,hv,Deferred.ofValue,invoke,callFunc,hfn,hb1,hn1]
    rw[hrun];rw[Oper.upon_enter];refine hargs.mono λ en w' hh=>?_;obtain⟨v,δ,l',g',rfl,hK,hs',hd,hbb⟩:=hh;exact⟨δ,l',hK,g',hs'.put ho hd hbb⟩
   .rw [List.append_assoc] at hv hx'
    by_cases h1:i<fs.length
    .rw [List.getElem?_append_left h1] at hv
     rw[List.getElem?_append_left (by omega)] at hx';exact hdf i v x hv hx'
    .rw [List.getElem?_append_right (by omega)] at hv
     rw[List.getElem?_append_right (by omega),<- hlf] at hx';by_cases h2:i-fs.length<(args.toList.map a.eval).length
     .rw [List.getElem?_append_left h2] at hv
      rw[List.getElem?_append_left (by simp[hl] at h2 ⊢;exact h2)] at hx';rw[List.getElem?_map] at hv
      cases ha:args.toList[i-fs.length]? with
      | none=>simp[ha] at hv
      | some oa =>
       simp only[ha,Option.map_some,Option.some.injEq] at hv;subst hv;exact hx _ oa x ha hx'
     .rw [List.getElem?_append_right (by omega)] at hv
      rw[List.getElem?_append_right (by simp[hl] at h2 ⊢;exact h2)] at hx'
      have:xs.length=(args.toList.map a.eval).length:=by simp[hl]
      rw[this] at hx';exact hdc _ v x hv hx'
   .rw [List.append_assoc] at hx'
    rcases List.mem_append.1 hx' with h|h
    .exact hbo x (by simp[h])
    .rcases List.mem_append.1 h with h|h
     .exact hb x h
     .exact hbo x (by simp[h])
 split at h2
 .rename_i fid fs0 cs0
  have hr:=Den.dat' hf;generalize hv:a.eval f=v at hr
  cases hr with
  | v hp =>
   obtain⟨rfl,rfl⟩:=hp;exact fin fid [] [] [] [] (by simpa using hv) rfl rfl (by simp) (by simp) (by simp) (by simpa using h2)
 .rename_i fid first caps
  rcases hf with hf|hf
  .cases hf
  generalize hv:a.eval f=v at hf
  cases hf with
  | @fn _ fs cs _ _ g1 g2 g3 g4 =>
   exact fin fid fs cs first caps hv g1 g2 (λ i v x hv hx=>.inr (g3 i v x hv hx)) (λ i v x hv hx=>.inr (g4 i v x hv hx)) (λ x hx k hk=>hfb k (by
    simp only[SV.ids,List.mem_append,zau]
    rcases List.mem_append.1 hx with h|h
    .exact .inl ⟨x,h,hk⟩
    .exact .inr ⟨x,h,hk⟩)) h2
 .exact h2.elim
theorem zge {r:Operand}{n:String}{args:Array Operand}{ts:Array TypeId}{t:TypeId}{v:Value}{f:FuncId}{fn:Func}{d:TypeDesc}{i:TypeInfo}{mt:Method}(hop:o.op = .call { callee := .invoke r n,args:=args,argTypes:=ts })
  (hv:a.eval r = .iface t v) (hi:P.info? t=some i) (hm:i.methods.find? (λ y=>y.name == n)=some mt) (hp:mt.path = #[]) (hf:mt.func=some (f,false)) (hd:P.underlying t=some d) (hnp:∀ x,d ≠ .pointer x)
  (hfn:P.funcs[f]? = some fn) (hb:¬ fn.body=none) (hname:¬ fn.name = "runtime.NumGoroutine"):(execOp a.eval o).run P w = .ok (.enter f (v::args.toList.map a.eval).toArray) w:=by
 obtain⟨K,hK⟩:∃ K,P.types.size+Made.depth=K+1:=⟨P.types.size+99,rfl⟩
 have hrec:∀ wr,(receiverAt t (.val v) false wr).run P w = .ok v w:=by
  intro wr;unfold receiverAt
  cases d <;> first|exact absurd rfl (hnp _)|simp[run_underlying hd,Go.Place.get]
 have hmeth:(method (P.types.size+Made.depth) t v n).run P w = .ok (f,v) w:=by
  rw[hK];unfold method;simp[typeInfo,hi,hm,hp,hf,follow,hrec]
 have h0:(#[Value.iface t v]++Array.map a.eval args)[0]? = some (.iface t v):=by
  rw[Array.getElem?_append_left (by simp)];rfl
 have h1 : #[v]++(#[Value.iface t v]++Array.map a.eval args).extract 1 (#[Value.iface t v]++Array.map a.eval args).size=(v::args.toList.map a.eval).toArray:=by
  apply Array.ext';simp[List.take_of_length_le]
 simp only[execOp,hop,resolve,hv,invoke,callMethod,callFunc,h0,h1];simp[hmeth,hfn,hb,hname,h0,h1,callMethod,callFunc];exact List.take_of_length_le (by simp)
theorem zjf {id:Nat}{r:Operand}{n:String}{args:Array Operand}{ts:Array TypeId}(hT:TyOK P c.ty)(hC:CtxF P fr c)(hs:SR fr nt g e m a w)(ho:∀ d,o.dst=some d->d<nt)(hp:fr.p<=id)
  (hop:o.op = .call { callee := .invoke r n,args:=args,argTypes:=ts }) (h:zdL c r n args.toList id e m l K):Good P fr nt e m a w o K Q:=by
 unfold zdL at h;obtain⟨sr,l1,hr,hrb,h1⟩:=zaa hs h;obtain⟨xs,l2,hl,hx,hb,h2⟩:=zaU hs h1
 split at h2
 .rename_i t d'
  have hrd:=Den.dat' hr;generalize hv:a.eval r=v at hrd
  cases hrd with
  | @ifc _ u _ hu =>
   unfold zj4 at h2
   cases ht:c.ty.at t with
   | none=>simp only[ht] at h2;exact h2.elim
   | some ti =>
    simp only[ht] at h2
    cases hconc:zdK ti.k with
    | false=>simp only[hconc,cond_false] at h2;exact h2.elim
    | true =>
    simp only[hconc,cond_true] at h2
    cases hf:ti.meth.find? λ x=>x.1 == n with
    | none=>simp only[hf,Option.map_none] at h2;exact h2.elim
    | some q =>
     simp only[hf,Option.map_some] at h2
     cases hc:c.fn q.2 with
     | none=>simp only[hc] at h2;exact h2.elim
     | some pg =>
      simp only[hc] at h2;have hmem:=List.mem_of_find?_eq_some hf
      have hqn:q.1=n:=by have:=List.find?_some hf;simpa using this
      obtain⟨i,mt,hi,hm,hpa,hfu⟩:=(hT t ti ht).meth q hmem;rw[hqn] at hm;obtain⟨⟨fn,hfn,hbody,hname⟩,hok,_⟩:=hC q.2 pg hc;obtain⟨d,hd,_,hk⟩:=(hT t ti ht).desc
      have hnp:∀ x,d ≠ .pointer x:=by
       intro x hx;subst hx;revert hk hconc
       cases ti.k <;> simp[zdK]
      have hb1:¬ fn.body=none:=by intro hn;rw[hn] at hbody;simp at hbody
      have hn1:¬ fn.name = "runtime.NumGoroutine" := by simpa using hname
      have hrun:=zge (w:=w) hop hv hi hm hpa hfu hd hnp hfn hb1 hn1;have hargs:=hok nt g e m a w (SV.ofD d'::xs) (u::args.toList.map a.eval) id l2 K hs hp (by simp[hl]) (λ i v x hv hx' => ?_) (λ x hx' k hk=>?_) h2
      .unfold Good Oper.wp
       rw[hrun,Oper.upon_enter];refine hargs.mono λ en w' hh=>?_;obtain⟨v,δ,l',g',rfl,hK,hs',hd,hbb⟩:=hh;exact⟨δ,l',hK,g',hs'.put ho hd hbb⟩
      .cases i with
       | zero=>simp at hv hx';subst hv hx';exact zaQ hu
       | succ i =>
        simp only[List.getElem?_cons_succ] at hv hx';rw[List.getElem?_map] at hv
        cases ha:args.toList[i]? with
        | none=>simp[ha] at hv
        | some oa =>
         simp only[ha,Option.map_some,Option.some.injEq] at hv;subst hv;exact hx _ oa x ha hx'
      .rcases List.mem_cons.1 hx' with rfl|h
       .rw [zaX] at hk;cases hk
       .exact hb x h k hk
 .exact h2.elim
theorem zbj {id:Nat}{k:Pg}(h:fresh id k e m l K):m id = .unborn/\∃ l',k e m l' K:=by
 simp only[fresh,Pg.getB,zam] at h
 cases hm:m id with
 | unborn=>rw[hm] at h;exact⟨rfl,_,h⟩
 | _=>rw[hm] at h;exact h.elim
theorem zgZ {f:Fn}{first caps:Array Operand}(hs:SR fr nt g e m a w)(ho:∀ d,o.dst=some d->d<nt)(hop:o.op = .makeFunc f first caps)(h:zci f first.toList caps.toList e m l K):Good P fr nt e m a w o K Q:=by
 cases f with
 | method n =>
  simp only[zci] at h
  cases hcap:caps.toList with
  | cons=>rw[hcap] at h;exact h.elim
  | nil =>
   rw[hcap] at h;obtain⟨ys,l1,hl1,hy,hyb,h⟩:=zaU hs h
   match ys,hl1,hy,hyb,h with
   | [x],hl1,hy,hyb,h =>
    dsimp only at h
    split at h
    .rename_i t d
     obtain⟨o1,ho1⟩:∃ o1,first.toList=[o1]:=List.length_eq_one_iff.1 (by simpa using hl1.symm)
     have hfi:first = #[o1]:=by
      apply Array.toList_inj.1;rw[ho1]
     have hrd:=Den.dat' (hy 0 o1 _ (by rw[ho1];rfl) rfl);simp only[zal] at h;generalize hv:a.eval o1=v at hrd
     cases hrd with
     | @ifc _ u _ hu =>
      have hca:caps = #[]:=by apply Array.toList_inj.1;rw[hcap]
      have hrun:(execOp a.eval o).run P w = .ok (.value (.func (.method n) #[.iface t u] #[])) w:=by
       simp[execOp,hop,Instr.makeFunc,hfi,hca,hv]
      exact zah hs ho hrun (.inr .fm) (by simp[SV.ids]) h
    .exact h.elim
   | [],_,_,_,h=>exact h.elim
   | _::_::_,_,_,_,h=>exact h.elim
 | func fid =>
  obtain⟨ys,l1,hl1,hy,hyb,h⟩:=zaU hs h;obtain⟨zs,l2,hl2,hz,hzb,h⟩:=zaU hs h;replace h:=zaj h;obtain⟨hall,h⟩:=h
  have hno:∀ x,x∈ys++zs->x ≠ .no:=by
   rintro x hx rfl;have:=List.all_eq_true.1 hall _ hx;simp[SV.notNo] at this
  have hrun:(execOp a.eval o).run P w = .ok (.value (.func (.func fid) (first.map a.eval) (caps.map a.eval))) w:=by
   simp[execOp,hop,Instr.makeFunc]
  have den:∀ (os:List Operand) (xs:List SV),xs.length=os.length->(∀ x,x∈xs->x ≠ .no)->(∀ (i:Nat) o x,os[i]? = some o->xs[i]? = some x->DenO g w (a.eval o) x)->∀ (i:Nat) u x,(os.map a.eval)[i]? = some u->xs[i]? = some x->Den g w u x:=by
   intro os xs hl hn hd i u x hu hx;rw[List.getElem?_map] at hu
   cases ho:os[i]? with
   | none=>rw[ho] at hu;cases hu
   | some o' =>
    rw[ho] at hu;cases hu
    rcases hd i o' x ho hx with h|h
    .exact absurd h (hn x (zri hx))
    .exact h
  have arr:∀ os:Array Operand,os.map a.eval=(os.toList.map a.eval).toArray:=λ os=>by rw[<- Array.toList_map]
  split at h
  .rw [zal] at h
   have h1:first.map a.eval = #[]:=by rw[arr];cases hf:first.toList with
    | nil=>rfl
    | cons=>rw[hf] at hl1;simp at hl1
   have h2:caps.map a.eval = #[]:=by rw[arr];cases hf:caps.toList with
    | nil=>rfl
    | cons=>rw[hf] at hl2;simp at hl2
   rw[h1,h2] at hrun;exact zah hs ho hrun (.inr (.dat (.v ⟨rfl,rfl⟩))) (by simp[SV.ids]) h
  .rw [zal] at h
   rw[arr,arr] at hrun;refine zah hs ho hrun (.inr (.fn (by simp[hl1]) (by simp[hl2]) (den _ _ hl1 (λ x hx=>hno x (by simp[hx])) hy) (den _ _ hl2 (λ x hx=>hno x (by simp[hx])) hz))) (λ k hk=>?_) h;simp only[SV.ids,List.mem_append,zau] at hk
   rcases hk with ⟨x,hx,hk⟩|⟨x,hx,hk⟩
   .exact hyb x hx k hk
   .exact hzb x hx k hk
 | _=>exact h.elim
theorem zn3 (s u:ByteArray):(Builtin.min2 (.string s) (.string u)).run P w = .ok (.string (minS s u)) w:=by
 have h:=zbS s.data.toList u.data.toList;simp only[Builtin.min2,Op.stringOp,asBool,minS,zhK,ByteArray.toList_eq];simp only[h]
 by_cases hb:Op.bytesLess u.data.toList s.data.toList=true <;> simp[hb]
theorem zms {b:Builtin}{mx:Bool}{x y:Operand}{ts:Array TypeId}(hs:SR fr nt g e m a w)(ho:∀ d,o.dst=some d->d<nt)(hop:o.op = .call { callee := .builtin b,args := #[x,y],argTypes:=ts })
  (hb:(b = .max/\mx=true)∨(b = .min/\mx=false)) (h:mmPg mx x y e m l K):Good P fr nt e m a w o K Q:=by
 obtain⟨x',l',hx,_,h1⟩:=zaa hs h;obtain⟨y',l2,hy,_,h2⟩:=zaa hs h1
 split at h2
 .obtain ⟨hk,h3⟩:=zaj h2
  obtain rfl:=zbg hk;obtain⟨ex,hxr⟩:=Den.int hx;obtain⟨ey,hyr⟩:=Den.int hy;simp only[int?,Pg.ex,zal] at h3;obtain⟨c,rfl,hK⟩:=h3
  rcases hb with ⟨rfl,rfl⟩|⟨rfl,rfl⟩
  .refine zah hs ho ?_ (za2 (k:=_) (n:=max _ _) ?_) (by simp[SV.ids]) hK
   .simp [execOp,hop,resolve,invoke,builtin,Builtin.max_,ex,ey,Builtin.max2]
    split <;> omega
   .omega
  .refine zah hs ho ?_ (za2 (k:=_) (n:=min _ _) ?_) (by simp[SV.ids]) hK
   .simp [execOp,hop,resolve,invoke,builtin,Builtin.min_,ex,ey,Builtin.min2]
    split <;> omega
   .omega
 .obtain ⟨hk,h3⟩:=zaj h2
  obtain⟨ex,hxr⟩:=Den.str hx;obtain⟨ey,hyr⟩:=Den.str hy;simp only[Pg.ex,zal] at h3;obtain⟨c,rfl,hK⟩:=h3
  rcases hb with ⟨rfl,rfl⟩|⟨rfl,rfl⟩
  .cases hk
  .refine zah hs ho (v := .string (minS _ _)) ?_ (.inr (.dat (.v ?_))) (by simp[SV.ids]) hK
   .simp [execOp,hop,resolve,invoke,builtin,Builtin.min_,ex,ey,zn3]
   .show (minS _ _).size<=maxLen
    unfold minS;split <;> assumption
 .exact h2.elim
theorem zn4 {A:ByteArray->Pg}{x:SV}(h:(match (none:Option Operand),x with|none, .dat (.v (.string s))=>A s|_,_=>Pg.fail) e m l K):∃ s,x = .dat (.v (.string s))/\A s e m l K:=by
 cases x with
 | dat d =>
  cases d with
  | v y =>
   cases y <;> first|exact⟨_,rfl,h⟩|exact h.elim
  | _=>exact h.elim
 | _=>exact h.elim
theorem zid {t:TypeId}{x:Operand}{lo hi mx:Option Operand}{id:Nat}(hp:fr.p<=id)(hT:TyOK P c.ty)(hs:SR fr nt g e m a w)(ho:∀ d,o.dst=some d->d<nt)(hop:o.op = .slice t x lo hi mx)
  (h:zdG c t x lo hi mx id e m l K):Good P fr nt e m a w o K Q:=by
 cases ht:c.ty.at t with
 | none =>
  obtain⟨sv,l',hx,hb,h1⟩:=zaa hs h;simp only[ht] at h1;exact h1.elim
 | some ti =>
  obtain⟨k,sz,by_,ag,csz,z⟩:=ti
  cases k with
  | slice e1 es ea =>
   refine zkT (l:=l) hp hT hs ho hop ?_;unfold zdG at h;rw[ht] at h ⊢;exact h
  | arr n es ea =>
   obtain⟨sv,l',hx,hb,h1⟩:=zaa hs h;simp only[ht] at h1;obtain⟨d,hd,_,hk⟩:=(hT t _ ht).desc;dsimp only at hk;obtain⟨el,rfl,⟨ie,hie,hies⟩,_⟩:=hk
   have hel:P.elem t=el:=by simp[Program.elem,hd]
   have hlen:P.arrayLen t=n:=by simp[Program.arrayLen,hd]
   split at h1
   .rename_i k
    obtain⟨b,l2,hb1,⟨c1,c2,c3⟩,h1⟩:=zaY hs h1;rw[zal] at h1;have hhi:=hb1 c1
    rcases hx with hx|hx
    .cases hx
    generalize hax:a.eval x=v at hx
    cases hx with
    | ptr =>
     refine zah hs ho (v := .slice (some ⟨g.β k,0,none⟩) b.toNat n) ?_ (.inr (.as (by omega) c3)) (by simpa [SV.ids] using hb) h1
     have hu:P.underlying t=some (.array (P.arrayLen t) (P.elem t)):=by rw[hel,hlen];exact hd
     have hsz:(sizeOf (P.elem t)).run P w = .ok es w:=by rw[hel];simp[sizeOf,typeInfo,hie,hies]
     have hj:b.toNat<=n:=by omega
     clear h1 hb1;generalize b.toNat=j at hhi hj ⊢
     cases hi with
     | none =>
      obtain rfl:j=n:=hhi;simp[execOp,hop,hax,run_sliceAt_array_all (P:=P) w t _ hu,hlen,hsz,Result.andThen,slicedAt,Addr.add]
     | some hi =>
      obtain⟨kh,hh⟩:=hhi;have:=run_sliceAt_array_h (P:=P) w t (⟨g.β k,0,none⟩:Addr) hu kh (j:Int) (by omega) (by rw[hlen];omega);simp[execOp,hop,hax,hh,this,hlen,hsz,Result.andThen,slicedAt,Addr.add]
   .exact h1.elim
  | str =>
   obtain⟨sv,l',hx,hb,h1⟩:=zaa hs h;simp only[ht] at h1;obtain⟨d,hd,_,hk⟩:=(hT t _ ht).desc;dsimp only at hk;subst hk
   cases mx with
   | some _=>exact h1.elim
   | none =>
    replace h1:=zn4 (A:=λ s=>zhJ s lo hi) h1;obtain⟨s,rfl,h1⟩:=h1;obtain⟨hv,hr⟩:=Den.str hx;exact zi9 (sz:=0) (by_:=0) hs ho hop hd hv hr h1
  | _ =>
   obtain⟨sv,l',hx,hb,h1⟩:=zaa hs h;simp only[ht] at h1;exact h1.elim
theorem zg0 {id:Nat}(hT:TyOK P c.ty)(hC:CtxF P fr c)(hs:SR fr nt g e m a w)(ho:∀ d,o.dst=some d->d<nt)(hp:fr.p<=id)(h:opPg c o id e m l K):Good P fr nt e m a w o K Q:=by
 unfold opPg at h
 cases hop:o.op with
 | move x=>rw[hop] at h;exact zhR hs ho (.inl hop) h
 | assign x=>rw[hop] at h;exact zhR hs ho (.inr hop) h
 | pick x y z=>rw[hop] at h;exact zl9 hs ho hop h
 | box t x=>rw[hop] at h;obtain⟨hid,_,h⟩:=zbj h;exact znO hs ho ⟨hp,hid⟩ hop h
 | alloc t=>rw[hop] at h;obtain⟨hid,_,h⟩:=zbj h;exact zkR hT hs ho ⟨hp,hid⟩ hop h
 | load t x=>rw[hop] at h;exact zk6 hT hs ho hp hop h
 | store t x y=>rw[hop] at h;exact zjb hT hs ho hop h
 | index t x i=>rw[hop] at h;exact zkZ hT hs ho hop h
 | range t x=>rw[hop] at h;obtain⟨hid,_,h⟩:=zbj h;exact zk0 hT hs ho ⟨hp,hid⟩ hop h
 | next x b =>
  rw[hop] at h
  cases b with
  | true=>exact zmi hs ho hop rfl h
  | false =>
   cases hd:c.dem with
   | true =>
    exact zk1 (l:=l) hs ho hop rfl (by simpa [opPg,hd] using h)
   | false =>
    obtain⟨sx,l1,_,_,h⟩:=zaa hs (l:=l) (k:=λ _=>Pg.fail) (by simpa [opPg,hd] using h);exact h.elim
 | entry x=>rw[hop] at h;exact zk2 hs ho hop h
 | makeSlice t x y=>rw[hop] at h;obtain⟨hid,_,h⟩:=zbj h;exact zfV hT hs ho ⟨hp,hid⟩ hop h
 | nilCheck x=>rw[hop] at h;exact zgP hT hs ho hop h
 | build t ps=>rw[hop] at h;exact zkV hT hs ho hop h
 | buildSlice t n ps=>rw[hop] at h;obtain⟨hid,_,h⟩:=zbj h;exact zff hT hs ho ⟨hp,hid⟩ hop h
 | fieldAddr t x f=>rw[hop] at h;exact zfR hT hs ho hop h
 | indexAddr t x i=>rw[hop] at h;exact zfS hT hs ho hop h
 | unOp u t x =>
  rw[hop] at h
  cases u with
  | not=>exact znM hs ho hop h
  | neg=>exact znN hs ho hop h
  | _=>exact h.elim
 | makeFunc f first caps=>rw[hop] at h;exact zgZ hs ho hop h
 | binOp b t x y t' => rw[hop] at h;exact zkX hT hs ho hop h
 | convert s d x=>rw[hop] at h;exact zml hp hT hs ho hop h
 | field t x f=>rw[hop] at h;exact zkS hT hs ho hop h
 | extract x i=>rw[hop] at h;exact zhS hs ho hop h
 | makeInterface t x=>rw[hop] at h;exact zla hT hs ho hop h
 | typeAssert x t t' ok=>rw[hop] at h;exact zje hT hs ho hop h
 | makeMap t r=>rw[hop] at h;obtain⟨hid,_,h⟩:=zbj h;exact zh6 hT hs ho ⟨hp,hid⟩ hop h
 | lookup t x i ok=>rw[hop] at h;exact zmg hT hs ho hop h
 | insert t x i v=>rw[hop] at h;exact zka hT hs ho (.inr hop) h
 | mapUpdate t x i v=>rw[hop] at h;exact zka hT hs ho (.inl hop) h
 | slice t x lo hi mx =>
  rw[hop] at h;exact zid hp hT hs ho hop h
 | call ci =>
  rw[hop] at h;obtain⟨callee,⟨args⟩,⟨ts⟩⟩:=ci
  cases callee with
  | value f=>exact zmr hC hs ho hp hop h
  | invoke r n=>exact zjf hT hC hs ho hp hop h
  | builtin b =>
   cases b with
   | len =>
    match args,ts,hop,h with
    | [x],[t],hop,h=>exact znQ hT hs ho hop h
    | [],_,_,h=>exact h.elim
    | _::_::_,_,_,h=>exact h.elim
    | [_],[],_,h=>exact h.elim
    | [_],_::_::_,_,h=>exact h.elim
   | cap =>
    match args,ts,hop,h with
    | [x],[t],hop,h=>exact znR hT hs ho hop h
    | [],_,_,h=>exact h.elim
    | _::_::_,_,_,h=>exact h.elim
    | [_],[],_,h=>exact h.elim
    | [_],_::_::_,_,h=>exact h.elim
   | unsafeSliceData =>
    match args,ts,hop,h with
    | [x],[t],hop,h=>exact zk9 hs ho hop h
    | [],_,_,h=>exact h.elim
    | _::_::_,_,_,h=>exact h.elim
    | [_],[],_,h=>exact h.elim
    | [_],_::_::_,_,h=>exact h.elim
   | unsafeString =>
    match args,ts,hop,h with
    | [x,y],[pt,it],hop,h=>exact zmq hT hs ho hop h
    | [],_,_,h=>exact h.elim
    | [_],_,_,h=>exact h.elim
    | _::_::_::_,_,_,h=>exact h.elim
    | [_,_],[],_,h=>exact h.elim
    | [_,_],[_],_,h=>exact h.elim
    | [_,_],_::_::_::_,_,h=>exact h.elim
   | append =>
    match args,ts,hop,h with
    | [s,x],[t,t'],hop,h =>
     obtain⟨hid,_,h⟩:=zbj h
     cases hi:zj2 c t' with
     | true=>rw[hi] at h;exact zia hT hs ho ⟨hp,hid⟩ hop hi h
     | false =>
      rw[hi] at h
      cases hi2:zj3 c t' with
      | true=>rw[hi2] at h;exact zjc hT hs ho ⟨hp,hid⟩ hop hi2 h
      | false =>
       rw[hi2] at h
       cases hi3:zqt c t with
       | true=>rw[hi3] at h;exact zk8 hT hs ho ⟨hp,hid⟩ hop h
       | false=>rw[hi3] at h;exact zi5 hT hs ho ⟨hp,hid⟩ hop h
    | [],_,_,h=>exact h.elim
    | [_],_,_,h=>exact h.elim
    | _::_::_::_,_,_,h=>exact h.elim
    | [_,_],[],_,h=>exact h.elim
    | [_,_],[_],_,h=>exact h.elim
    | [_,_],_::_::_::_,_,h=>exact h.elim
   | max =>
    match args,hop,h with
    | [x,y],hop,h=>exact zms hs ho hop (.inl ⟨rfl,rfl⟩) h
    | [],_,h=>exact h.elim
    | [_],_,h=>exact h.elim
    | _::_::_::_,_,h=>exact h.elim
   | min =>
    match args,hop,h with
    | [x,y],hop,h=>exact zms hs ho hop (.inr ⟨rfl,rfl⟩) h
    | [],_,h=>exact h.elim
    | [_],_,h=>exact h.elim
    | _::_::_::_,_,h=>exact h.elim
   | _=>exact h.elim
 | _=>rw[hop] at h;exact h.elim
end
end Go.Vc

/-
  A library for proofs about Go functions by symbolic evaluation,and plain Lean functions that the walked Go functions compute (written by a program of this claim).
-/
import Derived.Test.YtlngljdmmlbhgaaGreatDoorVc1
import Derived.Laws.Tables
import Derived.Laws.Strings
import Derived.Laws.Concat
import Derived.WalkSpells
import Derived.DeepKeys
import Derived.Laws.IdiomStrings
import Derived.Laws.RangeAny
import Derived.Laws.BytesArg
import Derived.Laws.MakeOwn
import Derived.Maps.RangeRun
set_option linter.unusedVariables false
set_option linter.unnecessarySimpa false
set_option linter.unusedSimpArgs false
namespace Go.Vc
open Go.RowKit
section
variable {P:Program} {fr:Fr} {nt:Nat} {g:Gh} {e:Nat->SV} {m:Nat->Blk} {a:Act} {w:World} {T:Tree (Option TI)} {c:Ctx}
variable {o:Oper} {K:Dl->List Loc->Prop} {Q:Exit->Act->World->Prop} {l:List Loc}
theorem zhX {n:String}{t:TypeId}{v:Value}{f:FuncId}{d:TypeDesc}{i:TypeInfo}{mt:Method}(hi:P.info? t=some i)(hm:i.methods.find? (λ y=>y.name == n)=some mt)(hp:mt.path = #[])(hf:mt.func=some (f,false))(hd:P.underlying t=some d)(hnp:∀ x,d ≠ .pointer x) :
  (nilAhead (P.types.size+Made.depth) t v n).run P w = .ok (some false) w:=by
 obtain⟨K,hK⟩:∃ K,P.types.size+Made.depth=K+1:=⟨P.types.size+99,rfl⟩;rw[hK];unfold nilAhead
 cases d <;> first|exact absurd rfl (hnp _)|simp[typeInfo,hi,hm,hp,hf,followBlind,run_underlying hd]
theorem zgP {x:Operand}(hT:TyOK P c.ty)(hs:SR fr nt g e m a w)(ho:∀ d,o.dst=some d->d<nt)(hop:o.op = .nilCheck x)
  (h:Pg.opd x (λ sv=>zdQ c sv) e m l K):Good P fr nt e m a w o K Q:=by
 obtain⟨y,l',hy,hb,h1⟩:=zaa hs h
 have key:∀ ad,a.eval x = .pointer (some ad)->(execOp a.eval o).run P w = .ok (.value (a.eval x)) w:=by
  intro ad had;simp[execOp,hop,had]
 have den:=hy
 rcases hy with hy|hy
 .subst hy;exact h1.elim
 generalize hv:a.eval x=v at hy den key
 cases hy with
 | ptr=>simp only[zdQ,zal] at h1;exact zah hs ho (key _ rfl) den hb h1
 | ep=>simp only[zdQ,zal] at h1;exact zah hs ho (key _ rfl) den hb h1
 | rp=>simp only[zdQ,zal] at h1;exact zah hs ho (key _ rfl) den hb h1
 | po=>simp only[zdQ,zal] at h1;exact zah hs ho (key _ rfl) den hb h1
 | @fm n t u =>
  simp only[zdQ] at h1;unfold zj4 at h1
  cases ht:c.ty.at t with
  | none=>simp only[ht] at h1;exact h1.elim
  | some ti =>
   simp only[ht] at h1
   cases hconc:zdK ti.k with
   | false=>simp only[hconc,cond_false] at h1;exact h1.elim
   | true =>
    simp only[hconc,cond_true] at h1
    cases hf:ti.meth.find? λ x=>x.1 == n with
    | none=>simp only[hf,Option.map_none] at h1;exact h1.elim
    | some q =>
     simp only[hf,Option.map_some,zal] at h1;have hmem:=List.mem_of_find?_eq_some hf
     have hqn:q.1=n:=by have:=List.find?_some hf;simpa using this
     obtain⟨i,mt,hi,hm,hpa,hfu⟩:=(hT t ti ht).meth q hmem;rw[hqn] at hm;obtain⟨d,hd,_,hk⟩:=(hT t ti ht).desc
     have hnp:∀ x,d ≠ .pointer x:=by
      intro x hx;subst hx;revert hk hconc
      cases ti.k <;> simp[zdK]
     have hrun:(execOp a.eval o).run P w = .ok (.value (.func (.method n) #[.iface t u] #[])) w:=by
      simp[execOp,hop,hv,zhX (v:=u) (w:=w) hi hm hpa hfu hd hnp]
     exact zah hs ho hrun den hb h1
 | _=>exact h1.elim
theorem zfR {t:TypeId}{x:Operand}{f:Nat}(hT:TyOK P c.ty)(hs:SR fr nt g e m a w)(ho:∀ d,o.dst=some d->d<nt)(hop:o.op = .fieldAddr t x f)
  (h:Pg.opd x (λ sv=>match c.ty.at t with
  | some { k := .struct fs, .. } => match fs[f]? with
   | some (off,size,_)=>bif Nat.beq size 0 then Pg.fail else match sv with
    | .ptr k o=>one (.ptr k (o+off))
    | .po k i o=>one (.po k i (o+off))
    | .ep cs=>one (.ep (cs.drop off))
    | .rp k s i j=>one (.rp k s i (j+off))
    | _=>Pg.fail
   | none=>Pg.fail
  | _=>Pg.fail) e m l K):Good P fr nt e m a w o K Q:=by
 obtain⟨y,l',hy,hb,h1⟩:=zaa hs h
 cases ht:c.ty.at t with
 | none=>simp only[ht] at h1;exact h1.elim
 | some ti =>
  obtain⟨k,sz,by_,ag,csz,z⟩:=ti;simp only[ht] at h1;have hti:=hT t _ ht
  cases k with
  | struct fs =>
   dsimp only at h1;obtain⟨d,hd,_,hk⟩:=hti.desc;obtain⟨fields,rfl,hsz,hf⟩:=hk
   cases hfi:fs[f]? with
   | none=>simp only[hfi] at h1;exact h1.elim
   | some fx =>
    obtain⟨off,size,ag'⟩:=fx;simp only[hfi] at h1
    cases h0:Nat.beq size 0 with
    | true=>simp only[h0,cond_true] at h1;exact h1.elim
    | false =>
     simp only[h0,cond_false] at h1
     have hlt:f<fields.size:=by rw[hsz];exact(zrf.1 hfi).1
     obtain⟨hoff,j,hj,hjs,_⟩:=hf f fields[f] _ (by simp[hlt]) hfi;dsimp only at hoff hjs
     have hne:size≠0:=by rintro rfl;simp at h0
     have key:∀ ad:Addr,a.eval x = .pointer (some ad)->(execOp a.eval o).run P w = .ok (.value (.pointer (some (ad.add off)))) w:=by
      intro ad had;simp[execOp,hop,had,Instr.fieldAt,run_underlying hd,hlt,Instr.sureAddr,fieldPlace,sizeOf,typeInfo,hj,hjs,hne,hoff]
     rcases hy with hy|hy
     .subst hy;exact h1.elim
     generalize hv:a.eval x=v at hy key
     cases hy with
     | @ptr k o' =>
      simp only[zal] at h1;refine zah hs ho (key _ rfl) ?_ (by simpa [SV.ids] using hb) h1;rw[zaC];exact .inr .ptr
     | @po k i o' pb hpb =>
      simp only[zal] at h1;refine zah hs ho (key _ rfl) ?_ (by simpa [SV.ids] using hb) h1;rw[zaC];exact .inr (.po hpb)
     | @ep b o' cs f' hF hc hr =>
      simp only[zal] at h1;refine zah hs ho (key _ rfl) ?_ (by simp[SV.ids]) h1;rw[zaC];refine .inr (.ep (λ j=>f' (off+j)) hF (λ j d hd=>?_) λ j d hd=>?_)
      .rw [List.getElem?_drop] at hd;rw[Nat.add_assoc];exact hc _ d hd
      .rw [List.getElem?_drop] at hd;exact hr _ d hd
     | @rp k s i j hN =>
      simp only[zal] at h1;refine zah hs ho (key _ rfl) ?_ (by simpa [SV.ids] using hb) h1;rw[zaC,Nat.add_assoc];exact .inr (.rp hN)
     | _=>exact h1.elim
  | _=>exact h1.elim
theorem zkS {t:TypeId}{x:Operand}{f:Nat}(hT:TyOK P c.ty)(hs:SR fr nt g e m a w)(ho:∀ d,o.dst=some d->d<nt)(hop:o.op = .field t x f)
  (h:Pg.opd x (λ sv=>match c.ty.at t with
  | some { k := .struct fs, .. } => match fs[f]? with
   | some (off,size,agg)=>bif Nat.beq size 1 && !agg then (match sv with
     | .dat (.agg cs)=>match cs[off]? with
      | some d=>one (SV.ofD d)
      | none=>Pg.fail
     | .agg cs=>match cs[off]? with
      | some s=>one s
      | none=>Pg.fail
     | _=>Pg.fail)
    else Pg.fail
   | none=>Pg.fail
  | _=>Pg.fail) e m l K):Good P fr nt e m a w o K Q:=by
 obtain⟨y,l',hy,hb,h1⟩:=zaa hs h
 cases ht:c.ty.at t with
 | none=>simp only[ht] at h1;exact h1.elim
 | some ti =>
  obtain⟨k,sz,by_,ag,csz,z⟩:=ti;simp only[ht] at h1;have hti:=hT t _ ht
  cases k with
  | struct fs =>
   dsimp only at h1;obtain⟨d,hd,_,hk⟩:=hti.desc;obtain⟨fields,rfl,hsz,hf⟩:=hk
   cases hfi:fs[f]? with
   | none=>simp only[hfi] at h1;exact h1.elim
   | some fx =>
    obtain⟨off,size,ag'⟩:=fx;simp only[hfi] at h1
    cases h0:(Nat.beq size 1 && !ag') with
    | false=>simp only[h0,cond_false] at h1;exact h1.elim
    | true =>
     simp only[h0,cond_true] at h1;simp only[zrk,Bool.not_eq_true'] at h0
     have hlt:f<fields.size:=by rw[hsz];exact(zrf.1 hfi).1
     obtain⟨hoff,j,hj,hjs,hag⟩:=hf f fields[f] _ (by simp[hlt]) hfi;dsimp only at hoff hjs hag;rw[h0.2] at hag
     have hagg:(isAgg (fields[f]).type).run P w = .ok false w:=by
      unfold zcS at hag
      cases hu:P.underlying (fields[f]).type with
      | none=>rw[hu] at hag;cases hag
      | some dd =>
       rw[hu] at hag
       cases dd <;> first|(simp[isAgg,run_underlying hu];done)|(simp at hag)
     have fin:∀ (vs:List Value) (u:Value) (s:SV),a.eval x = .agg vs.toArray->vs[off]? = some u->DenO g w u s->(∀ i,i∈s.ids->m i ≠ .unborn)->K ⟨s,[]⟩ l'->Good P fr nt e m a w o K Q:=by
      intro vs u s hax hu hd' hbb h1;refine zah hs ho (v:=u) ?_ hd' hbb h1
      have hp:(part (fields[f]).type vs.toArray off).run P w = .ok u w:=by
       simp[part,hagg,hu]
      simp[execOp,hop,hax,Instr.field,run_underlying hd,hlt,asAgg,hoff,hp]
     rcases hy with hy|hy
     .subst hy;exact h1.elim
     generalize hv:a.eval x=v at hy fin
     cases hy with
     | dat hr =>
      cases hr with
      | @agg vs ds p1 p0 p2 =>
       dsimp only at h1
       cases hdi:ds[off]? with
       | none=>rw[hdi] at h1;exact h1.elim
       | some dd =>
        rw[hdi] at h1;simp only[zal] at h1
        have hl:off<vs.length:=by rw[p1];exact(zrf.1 hdi).1
        exact fin vs vs[off] _ rfl (zrg hl) (zaQ (p2 off _ dd (zrg hl) hdi)) (by rw[zaX];simp) h1
      | _=>exact h1.elim
     | @agg vs l p1 p0 p2 =>
      dsimp only at h1
      cases hci:l[off]? with
      | none=>rw[hci] at h1;exact h1.elim
      | some s =>
       rw[hci] at h1;simp only[zal] at h1
       have hl:off<vs.length:=by rw[p1];exact(zrf.1 hci).1
       refine fin vs vs[off] s rfl (zrg hl) (.inr (p2 off _ s (zrg hl) hci)) (λ i hi=>hb i ?_) h1;simp only[SV.ids,zau];exact⟨s,zri hci,hi⟩
     | _=>exact h1.elim
  | _=>exact h1.elim
theorem zaS {n:Nat}{x:SV}{k:Nat->Pg}(h:zbU n x k e m l K):∃ kd i c,x = .dat (.v (.int kd i))/\((c:Nat):Int)=i/\c<n/\k c e m l K:=by
 unfold zbU at h
 split at h
 .obtain ⟨⟨h1,h2⟩,h3⟩:=h
  exact⟨_,_,_,rfl,by omega,by omega,h3⟩
 .exact h.elim
theorem zfS {t:TypeId}{x y:Operand}(hT:TyOK P c.ty)(hs:SR fr nt g e m a w)(ho:∀ d,o.dst=some d->d<nt)(hop:o.op = .indexAddr t x y)
  (h:Pg.opd x (λ sv=>Pg.opd y λ si=>match c.ty.at t with
  | some { k := .slice _ es _, .. } => match sv with
   | .dat (.sl s l) | .csl s l=>when_ (Nat.beq s es) (zbU l.length si λ n=>Pg.ex (λ e:D=>l[n]? = some e) λ e=>one (.ep e.cells))
   | .rs k n=>Pg.getB k fun
    | .row _ s l=>when_ (Nat.beq s es) (cond (n<=l.length) (zbU n si λ m=>one (.rp k s m 0)))
    | .fz _ s l=>when_ (Nat.beq s es) (cond (n<=l.length) (zbU n si λ m=>Pg.ex (λ e:D=>l[m]? = some e) λ e=>one (.ep e.cells)))
    | .sn _ s _ _ _=>when_ (Nat.beq s es) (zbU n si λ m=>one (.rp k s m 0))
    | _=>Pg.fail
   | .as k n=>zbU n si λ m=>one (.ptr k (m*es))
   | _=>Pg.fail
  | some { k := .arr n es _, .. } => match sv with
   | .ptr k o=>zbU n si λ m=>one (.ptr k (o+m*es))
   | .ep cs=>zbU n si λ m=>Pg.ex (λ q:List D=>q=cs.drop (m*es)) λ q=>one (.ep q)
   | .rp k s i j=>zbU n si λ m=>one (.rp k s i (j+m*es))
   | _=>Pg.fail
  | _=>Pg.fail) e m l K):Good P fr nt e m a w o K Q:=by
 obtain⟨sv,l',hx,hb,h1⟩:=zaa hs h;obtain⟨si,l2,hy,hbi,h2⟩:=zaa hs h1
 cases ht:c.ty.at t with
 | none=>simp only[ht] at h2;exact h2.elim
 | some ti =>
  obtain⟨k,sz,by_,ag,csz,z⟩:=ti;simp only[ht] at h2;have hti:=hT t _ ht;obtain⟨d,hd,_,hk⟩:=hti.desc
  cases k with
  | slice el es ea =>
   dsimp only at h2 hk;obtain⟨rfl,ie,hie,hies⟩:=hk
   have hel:P.elem t=el:=by simp[Program.elem,hd]
   have key:∀ (ad:Addr) (len cap:Nat) kd (i:Nat),a.eval x = .slice (some ad) len cap->a.eval y = .int kd (i:Int)->i<len->(execOp a.eval o).run P w = .ok (.value (.pointer (some (ad.add (i*es))))) w:=by
    intro ad len cap kd i hax hay hlt;have:=run_indexAt_slice (P:=P) w t ad len cap kd (i:Int) (by rw[hel];exact hd);rw[if_pos ⟨by omega,by omega⟩,hel] at this;simp[sizeOf,typeInfo,hie,hies] at this;simp[execOp,hop,hax,hay,this]
   have datSl:∀ (A:Option Addr) (n cap s:Nat) (ls:List D) (hr:Rd g.F w (.slice A n cap) (.sl s ls)) (hax:a.eval x = .slice A n cap)
     (h3:when_ (Nat.beq s es) (zbU ls.length si λ n=>Pg.ex (λ e:D=>ls[n]? = some e) λ e=>one (.ep e.cells)) e m l2 K),Good P fr nt e m a w o K Q:=by
    intro A n cap s ls hr hax h3;replace h3:=zaj h3;obtain⟨hse,h3⟩:=h3;obtain rfl:=zrh hse;obtain⟨kd,i,q,rfl,rfl,hq,h3⟩:=zaS h3;obtain⟨hay,_⟩:=Den.int hy;simp only[Pg.ex,zal] at h3;obtain⟨el',hel',h3⟩:=h3
    cases hr with
    | nil=>simp at hq
    | @sl b off _ _ _ _ f h4 h5 h6 h7 h8 h9 h10 h11 =>
     refine zah hs ho (key _ _ _ _ q hax hay (by omega)) (.inr ?_) (by simp[SV.ids]) h3;rw[zaC];exact .ep (λ j=>f q j) h7 (λ j d hd=>⟨h9 q j el' d hel' hd,h10 q j el' d hel' hd⟩) λ j d hd=>h11 q j el' d hel' hd
   rcases hx with hx|hx
   .subst hx;exact h2.elim
   generalize hax:a.eval x=v at hx
   cases hx with
   | dat hr =>
    cases hr with
    | @nil A' cap' s' hc=>exact datSl A' 0 cap' s' [] (.nil hc) hax h2
    | sl f h4 h5 h6 h7 h8 h9 h10 h11=>exact datSl _ _ _ _ _ (.sl f h4 h5 h6 h7 h8 h9 h10 h11) hax h2
    | _=>exact h2.elim
   | csl hr=>exact datSl _ _ _ _ _ hr hax h2
   | @rs k n hn0 hn1 hn2 =>
    simp only[Pg.getB,zam] at h2;have hblk:=hs.mem.blk k
    cases hm:m k with
    | row t' s ls =>
     rw[hm] at hblk h2;obtain⟨hse,hnl,h3⟩:=zaj h2;obtain rfl:=zrh hse;obtain⟨kd,i,q,rfl,rfl,hq,h3⟩:=zaS h3;obtain⟨hay,_⟩:=Den.int hy;simp only[zal] at h3
     have hN:g.N k=false:=by
      cases hN:g.N k with
      | false=>rfl
      | true=>have:=hn0 hN;omega
     simp[Gh.base,hN] at hax;refine zah hs ho (key _ _ _ _ q hax hay hq) (.inr ?_) (by simpa [SV.ids] using hb) h3;rw[zaC];exact .rp (i:=q) (j:=0) hN
    | fz t' s ls =>
     rw[hm] at hblk h2;obtain⟨hse,hnl,h3⟩:=zaj h2;obtain rfl:=zrh hse;obtain⟨kd,i,q,rfl,rfl,hq,h3⟩:=zaS h3;obtain⟨hay,_⟩:=Den.int hy;simp only[Pg.ex,zal] at h3;obtain⟨el',hel',h3⟩:=h3
     have hN:g.N k=false:=by
      cases hN:g.N k with
      | false=>rfl
      | true=>have:=hn0 hN;omega
     simp[Gh.base,hN] at hax
     rcases hblk with hblk|⟨_,hF,cur,⟨_,hh,_⟩,hsz,hle,hmx,hlen,hcell⟩
     .rw [hblk.1] at hN;cases hN
     refine zah hs ho (key _ _ _ _ q hax hay hq) (.inr ?_) (by simp[SV.ids]) h3;rw[zaC]
     have hf:∀ (j:Nat) d,el'.cells[j]? = some d->w.cell? ⟨g.β k,co (g.C k)+q*s+j,none⟩=some ((w.cell? ⟨g.β k,co (g.C k)+q*s+j,none⟩).getD undef)/\((w.cell? ⟨g.β k,co (g.C k)+q*s+j,none⟩).getD undef).oneCell'=true/\Rd g.F w ((w.cell? ⟨g.β k,co (g.C k)+q*s+j,none⟩).getD undef) d:=by
      intro j d hd;obtain⟨u,hu,h5,h6⟩:=hcell q j el' d hel' hd;rw[cell_of_row w _ _ _ _ _ hh,Nat.add_assoc,hu];exact⟨rfl,h5,h6⟩
     exact .ep (λ j=>(w.cell? ⟨g.β k,co (g.C k)+q*s+j,none⟩).getD undef) hF (λ j d hd=>⟨(hf j d hd).1,(hf j d hd).2.1⟩) λ j d hd=>(hf j d hd).2.2
    | sn t' s' ea' out ls =>
     rw[hm] at h2;obtain⟨hse,h3⟩:=zaj h2;obtain rfl:=zrh hse;obtain⟨kd,i,q,rfl,rfl,hq,h3⟩:=zaS h3;obtain⟨hay,_⟩:=Den.int hy;simp only[zal] at h3
     have hN:g.N k=false:=by
      cases hN:g.N k with
      | false=>rfl
      | true=>have:=hn0 hN;omega
     simp[Gh.base,hN] at hax;refine zah hs ho (key _ _ _ _ q hax hay hq) (.inr ?_) (by simpa [SV.ids] using hb) h3;rw[zaC];exact .rp (i:=q) (j:=0) hN
    | _=>rw[hm] at h2;exact h2.elim
   | @as k n cap hn hc =>
    obtain⟨kd,i,q,rfl,rfl,hq,h3⟩:=zaS h2;obtain⟨hay,_⟩:=Den.int hy;simp only[zal] at h3;refine zah hs ho (key _ _ _ _ q hax hay hq) (.inr ?_) (by simpa [SV.ids] using hb) h3;rw[zaC,Nat.zero_add];exact .ptr
   | _=>exact h2.elim
  | arr n es ea =>
   dsimp only at h2 hk;obtain⟨el,rfl,⟨ie,hie,hies⟩,_⟩:=hk
   have hel:P.elem t=el:=by simp[Program.elem,hd]
   have hlen:P.arrayLen t=n:=by simp[Program.arrayLen,hd]
   have key:∀ (ad:Addr) kd (i:Nat),a.eval x = .pointer (some ad)->a.eval y = .int kd (i:Int)->i<n->(execOp a.eval o).run P w = .ok (.value (.pointer (some (ad.add (i*es))))) w:=by
    intro ad kd i hax hay hlt;have:=run_indexAt_array (P:=P) w t ad kd (i:Int) (by rw[hel,hlen];exact hd);rw[hlen,if_pos ⟨by omega,by omega⟩,hel] at this;simp[sizeOf,typeInfo,hie,hies] at this;simp[execOp,hop,hax,hay,this]
   rcases hx with hx|hx
   .subst hx;exact h2.elim
   generalize hax:a.eval x=v at hx
   cases hx with
   | @ptr k o' =>
    obtain⟨kd,i,q,rfl,rfl,hq,h3⟩:=zaS h2;obtain⟨hay,_⟩:=Den.int hy;simp only[zal] at h3;refine zah hs ho (key _ _ q hax hay hq) ?_ (by simpa [SV.ids] using hb) h3;rw[zaC];exact .inr .ptr
   | @ep b o' cs f' hF hc hr =>
    obtain⟨kd,i,q,rfl,rfl,hq,h3⟩:=zaS h2;obtain⟨hay,_⟩:=Den.int hy;simp only[Pg.ex,zal] at h3;obtain⟨_,rfl,h3⟩:=h3;refine zah hs ho (key _ _ q hax hay hq) ?_ (by simp[SV.ids]) h3;rw[zaC];refine .inr (.ep (λ j=>f' (q*es+j)) hF (λ j d hd=>?_) λ j d hd=>?_)
    .rw [List.getElem?_drop] at hd;rw[Nat.add_assoc];exact hc _ d hd
    .rw [List.getElem?_drop] at hd;exact hr _ d hd
   | @rp k s i' j hN =>
    obtain⟨kd,i,q,rfl,rfl,hq,h3⟩:=zaS h2;obtain⟨hay,_⟩:=Den.int hy;simp only[zal] at h3;refine zah hs ho (key _ _ q hax hay hq) ?_ (by simpa [SV.ids] using hb) h3;rw[zaC,Nat.add_assoc];exact .inr (.rp hN)
   | _=>exact h2.elim
  | _=>exact h2.elim
theorem Den.str {v:Value}{s:ByteArray}(h:DenO g w v (.dat (.v (.string s)))):v = .string s/\s.size<=maxLen:=by
 have h:=Den.dat' h
 cases h with
 | v hp=>exact⟨rfl,hp⟩
theorem zdn {n:Nat}(h:n<=maxLen):IntKind.i64.min<=(n:Int)/\(n:Int)<=IntKind.i64.max:=by
 simp only[maxLen] at h;simp[IntKind.min,IntKind.max,IntKind.signed,IntKind.bits];omega
theorem Rd.len {F:Nat->Prop}{A:Option Addr}{n cap s:Nat}{es:List D}(h:Rd F w (.slice A n cap) (.sl s es)):n=es.length/\n<=cap/\cap<=maxLen:=by
 cases h with
 | nil h=>exact⟨rfl,by omega,h⟩
 | sl f h1 h2 h3=>exact⟨h1.symm,h2,h3⟩
theorem znQ {t:TypeId}{x:Operand}(hT:TyOK P c.ty)(hs:SR fr nt g e m a w)(ho:∀ d,o.dst=some d->d<nt)(hop:o.op = .call { callee := .builtin .len,args := #[x],argTypes := #[t] })
  (h:Pg.opd x (λ sx=>match c.ty.at t with
  | some { k := .slice .., .. } => match sx with
   | .dat (.sl _ l) | .csl _ l=>Pg.ex (λ n:Nat=>n=l.length) λ n=>one (.dat (.v (.int .i64 n)))
   | .rs _ n=>one (.dat (.v (.int .i64 n)))
   | .as _ n=>one (.dat (.v (.int .i64 n)))
   | .ln n=>one (.dat (.v (.int .i64 n)))
   | .nil=>one (.dat (.v (.int .i64 0)))
   | _=>Pg.fail
  | some { k := .str, .. } => match sx with
   | .dat (.v (.string s))=>Pg.ex (λ n:Nat=>n=s.size) λ n=>one (.dat (.v (.int .i64 n)))
   | _=>Pg.fail
  | some { k := .mp _ _, .. } => match sx with
   | .mp b=>Pg.getB b fun
    | .mp es=>cond (es.length<=maxLen) (Pg.ex (λ n:Nat=>n=es.length) λ n=>one (.dat (.v (.int .i64 n))))
    | .fam _ es _=>cond (es.length<=maxLen) (Pg.ex (λ n:Nat=>n=es.length) λ n=>one (.dat (.v (.int .i64 n))))
    | _=>Pg.fail
   | _=>Pg.fail
  | _=>Pg.fail) e m l K):Good P fr nt e m a w o K Q:=by
 obtain⟨sv,l',hx,hb,h1⟩:=zaa hs h
 cases ht:c.ty.at t with
 | none=>simp only[ht] at h1;exact h1.elim
 | some ti =>
  obtain⟨k,sz,by_,ag,csz,z⟩:=ti;simp only[ht] at h1;obtain⟨d,hd,_,hk⟩:=(hT t _ ht).desc
  cases k with
  | slice el es ea =>
   dsimp only at h1 hk;obtain⟨rfl,ie,hie,hies⟩:=hk
   have hel:P.elem t=el:=by simp[Program.elem,hd]
   have key:∀ A (n cap:Nat),a.eval x = .slice A n cap->(execOp a.eval o).run P w = .ok (.value (.int .i64 (n:Int))) w:=by
    intro A n cap hax;have:=run_len_slice (P:=P) w t o.type A n cap (by rw[hel];exact hd);simp[execOp,hop,resolve,invoke,builtin,hax,this,goInt]
   have fin:∀ A (n cap s:Nat) (ls:List D) (hr:Rd g.F w (.slice A n cap) (.sl s ls)) (hax:a.eval x = .slice A n cap) (h3:Pg.ex (λ n:Nat=>n=ls.length) (λ n=>one (.dat (.v (.int .i64 n)))) e m l' K),Good P fr nt e m a w o K Q:=by
    intro A n cap s ls hr hax h3;simp only[Pg.ex,zal] at h3;obtain⟨q,rfl,h3⟩:=h3;obtain⟨hl,hc,hm⟩:=hr.len;subst hl;exact zah hs ho (key _ _ _ hax) (za2 (zdn (by omega))) (by simp[SV.ids]) h3
   rcases hx with hx|hx
   .subst hx;exact h1.elim
   generalize hax:a.eval x=v at hx
   cases hx with
   | dat hr =>
    cases hr with
    | @nil A' cap' s' hc=>exact fin A' 0 cap' s' [] (.nil hc) hax h1
    | sl f h4 h5 h6 h7 h8 h9 h10 h11=>exact fin _ _ _ _ _ (.sl f h4 h5 h6 h7 h8 h9 h10 h11) hax h1
    | _=>exact h1.elim
   | csl hr=>exact fin _ _ _ _ _ hr hax h1
   | @rs k n hn0 hn1 hn2 =>
    simp only[zal] at h1;refine zah hs ho (v := .int .i64 n) ?_ (za2 (zdn hn2)) (by simp[SV.ids]) h1;unfold Gh.base at hax
    split at hax
    .rename_i hN
     rw[hn0 hN];exact key _ _ _ hax
    .exact key _ _ _ hax
   | @as k n cap hn hc=>simp only[zal] at h1;exact zah hs ho (key _ _ _ hax) (za2 (zdn (by omega))) (by simp[SV.ids]) h1
   | ln hn=>simp only[zal] at h1;exact zah hs ho (key _ _ _ hax) (za2 (zdn hn)) (by simp[SV.ids]) h1
   | nil=>simp only[zal] at h1;exact zah hs ho (key _ _ _ hax) (za2 (zdn (by simp[maxLen]))) (by simp[SV.ids]) h1
   | _=>exact h1.elim
  | str =>
   dsimp only at h1 hk;subst hk
   split at h1
   .rename_i s
    obtain⟨hv,hr⟩:=Den.str hx;simp only[Pg.ex,zal] at h1;obtain⟨q,rfl,h3⟩:=h1;exact zah hs ho (v := .int .i64 (s.size:Int)) (by simp[execOp,hop,resolve,invoke,builtin,hv,Builtin.len_,run_underlying hd,goInt]) (za2 (zdn hr)) (by simp[SV.ids]) h3
   .exact h1.elim
  | mp kt et =>
   dsimp only at h1 hk;subst hk
   cases sv with
   | mp b =>
    simp only[Pg.getB,zam] at h1
    cases hm:m b with
    | mp es =>
     rw[hm] at h1;obtain⟨hle,q,rfl,h3⟩:=h1;simp only[zal] at h3;have hblk:=hs.mem.blk b;rw[hm] at hblk;obtain⟨arr,cl,r1,r2,_,_⟩:=hblk
     have hax:a.eval x = .map (some (g.β b)):=by
      rcases hx with hx|hx
      .cases hx
      .generalize a.eval x=v at hx
       cases hx;rfl
     exact zah hs ho (v := .int .i64 (es.length:Int)) (by
      have hl:(Builtin.len_ #[t] o.type #[.map (some (g.β b))]).run P w = .ok (.int .i64 (es.length:Int)) w:=by
       have h0:(getObj (g.β b)).run P w = .ok (.map arr cl) w:=by simp[getObj,Sem.run,r1]
       simp[Builtin.len_,run_underlying hd,h0,goInt,r2]
      simp[execOp,hop,resolve,invoke,builtin,hax,hl]) (za2 (zdn hle)) (by simp[SV.ids]) h3
    | fam ks es outs =>
     rw[hm] at h1;obtain⟨hle,q,rfl,h3⟩:=h1;simp only[zal] at h3;have hblk:=hs.mem.blk b;rw[hm] at hblk;obtain⟨arr,cl,M,I,hfm⟩:=hblk;have r1:=hfm.hp;have r2:=hfm.size
     have hax:a.eval x = .map (some (g.β b)):=by
      rcases hx with hx|hx
      .cases hx
      .generalize a.eval x=v at hx
       cases hx;rfl
     exact zah hs ho (v := .int .i64 (es.length:Int)) (by
      have hl:(Builtin.len_ #[t] o.type #[.map (some (g.β b))]).run P w = .ok (.int .i64 (es.length:Int)) w:=by
       have h0:(getObj (g.β b)).run P w = .ok (.map arr cl) w:=by simp[getObj,Sem.run,r1]
       simp[Builtin.len_,run_underlying hd,h0,goInt,r2]
      simp[execOp,hop,resolve,invoke,builtin,hax,hl]) (za2 (zdn hle)) (by simp[SV.ids]) h3
    | _=>rw[hm] at h1;exact h1.elim
   | _=>exact h1.elim
  | _=>exact h1.elim
theorem znR {t:TypeId}{x:Operand}(hT:TyOK P c.ty)(hs:SR fr nt g e m a w)(ho:∀ d,o.dst=some d->d<nt)(hop:o.op = .call { callee := .builtin .cap,args := #[x],argTypes := #[t] })
  (h:znG c x t e m l K):Good P fr nt e m a w o K Q:=by
 obtain⟨sv,l',hx,hb,h1⟩:=zaa hs h
 cases ht:c.ty.at t with
 | none=>simp only[ht] at h1;exact h1.elim
 | some ti =>
  obtain⟨k,sz,by_,ag,csz,z⟩:=ti;simp only[ht] at h1;obtain⟨d,hd,_,hk⟩:=(hT t _ ht).desc
  cases k with
  | slice el es ea =>
   dsimp only at h1 hk;obtain⟨rfl,ie,hie,hies⟩:=hk
   rcases hx with hx|hx
   .subst hx;exact h1.elim
   generalize hax:a.eval x=v at hx
   cases hx with
   | nil =>
    simp only[zal] at h1;exact zah hs ho (v := .int .i64 0) (by simp[execOp,hop,resolve,invoke,builtin,hax,Builtin.cap_,run_underlying hd,goInt]) (za2 (zdn (n:=0) (by simp[maxLen]))) (by simp[SV.ids]) h1
   | _=>exact h1.elim
  | _=>exact h1.elim
theorem zg {n:Nat}{b s:Nat}{t:TypeId}{es:List D}(hN:g.N b=false)(hF:g.F (g.β b))(hrow:RowAt g.F w (g.β b) t s (g.C b) es)(hn:n<=es.length):Rd g.F w (g.base b n) (.sl s (es.take n)):=by
 obtain⟨cur,⟨_,r1,_⟩,r2,r3,r4,r5,r6⟩:=hrow
 have hb:g.base b n = .slice (some ⟨g.β b,co (g.C b),none⟩) n (cc (g.C b)):=by simp[Gh.base,hN]
 rw[hb]
 let f:Nat->Nat->Value:=λ i j=>(cur[co (g.C b)+(i*s+j)]?).getD undef
 have hf:∀ (i j:Nat) el d,(es.take n)[i]? = some el->el.cells[j]? = some d->cur[co (g.C b)+(i*s+j)]? = some (f i j)/\(f i j).oneCell'=true/\Rd g.F w (f i j) d:=by
  intro i j el d hel hd;rw[List.getElem?_take] at hel
  split at hel
  .obtain ⟨u,u1,u2,u3⟩:=r6 i j el d hel hd
   have:f i j=u:=by simp[f,u1]
   rw[this];exact⟨u1,u2,u3⟩
  .cases hel
 exact .sl f (by simp;omega) (by omega) r4 hF (λ el hel=>r5 el (List.mem_of_mem_take hel)) (λ i j el d hel hd=>by rw[cell_of_row w _ _ _ _ _ r1,Nat.add_assoc];exact(hf i j el d hel hd).1)
  (λ i j el d hel hd=>(hf i j el d hel hd).2.1) λ i j el d hel hd=>(hf i j el d hel hd).2.2
theorem SR.trunc {k s n : Nat}{t : TypeId}{es : List D}(hs : SR fr nt g e m a w)(hk : m k = .row t s es) : SR fr nt g e (mApp [(k, .row t s (es.take n))] m) a w := by
  have hb := hs.mem.blk k;rw [hk] at hb
  have hal : ∀ i, zac g (mApp [(k, .row t s (es.take n))] m) i → zac g m i := by
    intro i hi;unfold zac at hi ⊢;rw [za] at hi;by_cases hki : k = i
    · subst hki; rw [hk]; simpa using hi
    · rw [if_neg hki] at hi; exact hi
  have hborn : ∀ i, m i ≠ .unborn → mApp [(k, .row t s (es.take n))] m i ≠ .unborn := by
    intro i hi; rw [za]; split
    · simp
    · exact hi
  refine { hs with mem := ⟨fun i => ?_, fun i j hi hj => hs.mem.inj i j (hal i hi) (hal j hj), fun i hi => hs.mem.hot i (hal i hi), hs.mem.lt, fun i b hi hx => by
    obtain ⟨x1, x2, x3, x4⟩ := hs.mem.own i b (hal i hi) hx
    exact ⟨x1, x2, fun j hj => x3 j (hal j hj), fun j hj => x4 j (hal j hj)⟩⟩, safeX := fun i b hi => hs.safeX i b (hal i hi), bornE := fun t i hi => hborn i (hs.bornE t i hi), bornM := fun i j hj => ?_, safe := fun i hi => hs.safe i (hal i hi) }
  · rw [za]; split
    · rename_i h; subst h
      rcases hb with h | ⟨h, cur, r1, r2, r3, r4, r5, r6⟩
      · exact .inl ⟨h.1, by simp [h.2]⟩
      · refine .inr ⟨h, cur, r1, r2, by simp; omega, r4, fun el hel => r5 el (List.mem_of_mem_take hel), fun i j el d hel hd => ?_⟩
        rw [List.getElem?_take] at hel
        split at hel
        · exact r6 i j el d hel hd
        · cases hel
    · exact hs.mem.blk i
  · rw [za] at hj
    by_cases hki : k = i
    · rw [if_pos hki] at hj; simp [Blk.ids] at hj
    · rw [if_neg hki] at hj; exact hborn j (hs.bornM i j hj)
theorem zeg {o:Oper}{K:Dl->List Loc->Prop}{Q:Exit->Act->World->Prop}{g':Gh}{wr:List (Nat×Blk)}(h:SR fr nt g' e (mApp wr m) a w)(ho:∀ d,o.dst=some d->d<nt){v:Value}{x:SV}{l:List Loc}
  (hrun:(execOp a.eval o).run P w = .ok (.value v) w) (hx:DenO g' w v x) (hb:∀ k,k∈x.ids->mApp wr m k ≠ .unborn) (hK:K ⟨x,wr⟩ l):Good P fr nt e m a w o K Q:=by
 unfold Good Oper.wp;rw[hrun];exact⟨_,_,hK,g',h.put ho hx hb⟩
theorem Rd.cut {F:Nat->Prop}{A:Option Addr}{n cap s i j M:Nat}{ls:List D}(hr:Rd F w (.slice A n cap) (.sl s ls))(h1:i<=j)(h2:j<=ls.length)(h3:j<=M)(h4:M<=cap) :
  Rd F w (sliced A i j M s) (.sl s ((ls.take j).drop i)):=by
 obtain⟨hl,hc,hm⟩:=hr.len;unfold sliced;by_cases hij:i=j
 .have:(ls.take j).drop i=[]:=List.drop_eq_nil_of_le (by simp;omega)
  rw[this,show j-i=0 by omega];exact .nil (by omega)
 .cases hr with
  | nil=>simp at h2;omega
  | @sl b off _ _ _ _ f h4' h5 h6 h7 h8 h9 h10 h11 =>
   rw[if_neg (by omega)];simp only[Option.map_some,zaC]
   have hget:∀ (p:Nat) el,((ls.take j).drop i)[p]? = some el->ls[i+p]? = some el:=by
    intro p el hp;rw[List.getElem?_drop,List.getElem?_take] at hp
    split at hp
    .exact hp
    .cases hp
   refine .sl (λ p q=>f (i+p) q) (by simp;omega) (by omega) (by omega) h7 (λ e he=>h8 e (List.mem_of_mem_take (List.mem_of_mem_drop he))) (λ p q el d hp hd=>?_) (λ p q el d hp hd=>h10 _ q el d (hget p el hp) hd) λ p q el d hp hd=>h11 _ q el d (hget p el hp) hd;have:=h9 _ q el d (hget p el hp) hd;rw[<- this];congr 2;rw[Nat.add_mul];omega
def OpV (a:Act)(o:Option Operand)(i d:Nat):Prop:=match o with
 | none=>i=d
 | some o=>∃ k,a.eval o = .int k (i:Int)
theorem zbF {t:TypeId}{A:Option Addr}{n cap es i j M:Nat}{lo hi mx:Option Operand}(hu:P.underlying t=some (.slice (P.elem t)))(hsz:(sizeOf (P.elem t)).run P w = .ok es w)
  (hlo:OpV a lo i 0) (hhi:OpV a hi j n) (hmx:OpV a mx M cap) (hmh:mx≠none->hi≠none) (h1:i<=j) (h2:j<=M) (h3:M<=cap) (hx:(mx=none->hi=none->n<=cap)) :
  (Instr.slice t (.slice A n cap) (lo.map a.eval) (hi.map a.eval) (mx.map a.eval)).run P w = .ok (sliced A i j M es) w:=by
 cases lo with
 | none =>
  obtain rfl:i=0:=hlo
  cases hi with
  | none =>
   obtain rfl:j=n:=hhi
   cases mx with
   | none=>obtain rfl:M=cap:=hmx;simp[run_slice_all (P:=P) w t A j M hu,hsz,Result.andThen]
   | some mx=>exact absurd rfl (hmh (by simp))
  | some hi =>
   obtain⟨kh,hh⟩:=hhi
   cases mx with
   | none=>obtain rfl:M=cap:=hmx;simp[hh,run_slice_h (P:=P) w t A n M hu kh (j:Int) (by omega) (by omega),hsz,Result.andThen]
   | some mx=>obtain⟨km,hm⟩:=hmx;simp[hh,hm,run_slice_hm (P:=P) w t A n cap hu kh km (j:Int) (M:Int) (by omega) (by omega) (by omega),hsz,Result.andThen]
 | some lo =>
  obtain⟨kl,hl⟩:=hlo
  cases hi with
  | none =>
   obtain rfl:j=n:=hhi
   cases mx with
   | none=>obtain rfl:M=cap:=hmx;simp[hl,run_slice_l (P:=P) w t A j M hu kl (i:Int) (by omega) (by omega),hsz,Result.andThen]
   | some mx=>exact absurd rfl (hmh (by simp))
  | some hi =>
   obtain⟨kh,hh⟩:=hhi
   cases mx with
   | none=>obtain rfl:M=cap:=hmx;simp[hl,hh,run_slice_lh (P:=P) w t A n M hu kl kh (i:Int) (j:Int) (by omega) (by omega) (by omega),hsz,Result.andThen]
   | some mx=>obtain⟨km,hm⟩:=hmx;simp[hl,hh,hm,run_slice_lhm (P:=P) w t A n cap hu kl kh km (i:Int) (j:Int) (M:Int) (by omega) (by omega) (by omega) (by omega),hsz,Result.andThen]
theorem zcm {o:Option Operand}{k:Int->Pg}(hs:SR fr nt g e m a w)(h:lowI o k e m l K):∃ (i:Int) (l':List Loc),(0<=i->OpV a o i.toNat 0)/\k i e m l' K:=by
 cases o with
 | none=>exact⟨0,l,λ _=>rfl,h⟩
 | some o =>
  obtain⟨x,l',hx,hxb,h1⟩:=zaa hs h
  split at h1
  .rename_i kd i
   obtain⟨hv,_⟩:=Den.int hx;exact⟨i,l',λ h0=>⟨kd,by rw[Int.toNat_of_nonneg h0];exact hv⟩,h1⟩
  .exact h1.elim
theorem zaY {o:Option Operand}{n:Nat}{k:Int->Pg}(hs:SR fr nt g e m a w)(h:zeT o n k e m l K):∃ (i:Int) (l':List Loc),(0<=i->OpV a o i.toNat n)/\k i e m l' K:=by
 cases o with
 | none =>
  obtain⟨q,rfl,h⟩:=h;exact⟨q,l,λ _=>by simp[OpV],h⟩
 | some o =>
  obtain⟨x,l',hx,hxb,h1⟩:=zaa hs h
  split at h1
  .rename_i kd i
   obtain⟨hv,_⟩:=Den.int hx;exact⟨i,l',λ h0=>⟨kd,by rw[Int.toNat_of_nonneg h0];exact hv⟩,h1⟩
  .exact h1.elim
theorem zdb {hi o:Option Operand}{b:Int}{k:Int->Pg}(hs:SR fr nt g e m a w)(h:maxI hi o b k e m l K):∃ (i:Int) (l':List Loc),(o=none->i=b)/\(o≠none->hi≠none/\(0<=i->OpV a o i.toNat 0))/\k i e m l' K:=by
 cases o with
 | none=>exact⟨b,l,λ _=>rfl,λ h=>absurd rfl h,h⟩
 | some o =>
  cases hi with
  | none=>exact h.elim
  | some hi =>
   obtain⟨x,l',hx,hxb,h1⟩:=zaa hs h
   split at h1
   .rename_i kd i
    obtain⟨hv,_⟩:=Den.int hx;exact⟨i,l',by simp,λ _=>⟨by simp,λ h0=>⟨kd,by rw[Int.toNat_of_nonneg h0];exact hv⟩⟩,h1⟩
   .exact h1.elim
theorem zdt {t:TypeId}{A:Option Addr}{n cap s:Nat}{F:Nat->Prop}{ls:List D}{lo hi mx:Option Operand}{k:List D->Pg}(hs:SR fr nt g e m a w)(hu:P.underlying t=some (.slice (P.elem t)))
  (hsz:(sizeOf (P.elem t)).run P w = .ok s w) (hr:Rd F w (.slice A n cap) (.sl s ls)) (h:zfO ls lo hi mx k e m l K) :
  ∃ v q l',(Instr.slice t (.slice A n cap) (lo.map a.eval) (hi.map a.eval) (mx.map a.eval)).run P w = .ok v w/\Rd F w v (.sl s q)/\k q e m l' K:=by
 obtain⟨hl,hc,hm⟩:=hr.len;unfold zfO at h;obtain⟨i,l1,hi1,h⟩:=zcm hs h;obtain⟨j,l2,hj1,h⟩:=zaY hs h;obtain⟨M,l3,hM1,hM2,h⟩:=zdb hs h;obtain⟨⟨c1,c2,c3,c4⟩,q,rfl,h⟩:=h
 have hj:OpV a hi j.toNat n:=by rw[hl];exact hj1 (by omega)
 by_cases hmx:mx=none
 .have hMj:=hM1 hmx
  refine⟨_,_,_,zbF (i:=i.toNat) (j:=j.toNat) (M:=cap) hu hsz (hi1 c1) hj (by rw[hmx];rfl) (λ h=>absurd hmx h) (by omega) (by omega) (Nat.le_refl _) (λ _ _=>hc),hr.cut (by omega) (by omega) (by omega) (Nat.le_refl _),h⟩
 .obtain ⟨g1,g2⟩:=hM2 hmx
  have g3:OpV a mx M.toNat cap:=by
   have:=g2 (by omega)
   cases mx with
   | none=>exact absurd rfl hmx
   | some _=>exact this
  exact⟨_,_,_,zbF (i:=i.toNat) (j:=j.toNat) (M:=M.toNat) hu hsz (hi1 c1) hj g3 (λ _=>g1) (by omega) (by omega) (by omega) (λ h=>absurd h hmx),hr.cut (by omega) (by omega) (by omega) (by omega),h⟩
theorem zhY {t:TypeId}{A:Option Addr}{n cap s:Nat}{F:Nat->Prop}{ls:List D}{lo hi mx:Option Operand}{k:List D->Pg}(hs:SR fr nt g e m a w)(hu:P.underlying t=some (.slice (P.elem t)))
  (hsz:(sizeOf (P.elem t)).run P w = .ok s w) (hr:Rd F w (.slice A n cap) (.sl s ls)) (hmx:mx≠none) (h:zj0 ls lo hi mx k e m l K) :
  ∃ A' n' q l',(Instr.slice t (.slice A n cap) (lo.map a.eval) (hi.map a.eval) (mx.map a.eval)).run P w = .ok (.slice A' n' n') w/\Rd F w (.slice A' n' n') (.sl s q)/\k q e m l' K:=by
 obtain⟨hl,hc,hm⟩:=hr.len;unfold zj0 at h;obtain⟨i,l1,hi1,h⟩:=zcm hs h;obtain⟨j,l2,hj1,h⟩:=zaY hs h;obtain⟨M,l3,hM1,hM2,h⟩:=zdb hs h;obtain⟨⟨c1,c2,rfl,c4⟩,q,rfl,h⟩:=h
 have hj:OpV a hi j.toNat n:=by rw[hl];exact hj1 (by omega)
 obtain⟨g1,g2⟩:=hM2 hmx
 have g3:OpV a mx j.toNat cap:=by
  have:=g2 (by omega)
  cases mx with
  | none=>exact absurd rfl hmx
  | some _=>exact this
 have h1:=zbF (P:=P) (w:=w) (A:=A) (n:=n) (i:=i.toNat) (j:=j.toNat) (M:=j.toNat) hu hsz (hi1 c1) hj g3 (λ _=>g1) (by omega) (by omega) (by omega) (λ h=>absurd h hmx);have h2:=hr.cut (i:=i.toNat) (j:=j.toNat) (M:=j.toNat) (by omega) (by omega) (by omega) (by omega);exact⟨_,_,_,_,h1,h2,h⟩
theorem SR.slide {k id s i j:Nat}{t:TypeId}{es:List D}(hs:SR fr nt g e m a w)(hid:fr.p<=id/\m id = .unborn)(hk:m k = .row t s es)(h1:i<=j)(h2:j<=es.length)(h3:es.length<=maxLen∨True) :
  ∃ g',SR fr nt g' e (mApp [(k, .dead),(id, .row t s ((es.take j).drop i))] m) a w/\Den g' w (if g.N k=true then .slice none 0 0 else sliced (some ⟨g.β k,co (g.C k),none⟩) i j (cc (g.C k)) s) (.rs id (j-i)):=by
 have hblk:=hs.mem.blk k;rw[hk] at hblk
 have hne:k≠id:=λ e=>by rw[e,hid.2] at hk;cases hk
 have hmm:mApp [(id,Blk.row t s ((es.take j).drop i))] (mApp [(k, .dead)] m)=mApp [(k, .dead),(id, .row t s ((es.take j).drop i))] m:=by
  funext q;simp only[za];by_cases h1:id=q
  .subst h1;simp[hne]
  .simp [h1,mApp]
 have hid2:mApp [(k, .dead)] m id = .unborn:=by rw[za,if_neg hne];exact hid.2
 have hdead:∀ q,zac g (mApp [(k, .dead)] m) q->zac g m q/\q≠k:=by
  intro q hq;unfold zac at hq;rw[za] at hq;by_cases hkq:k=q
  .rw [if_pos hkq] at hq;exact hq.elim
  .rw [if_neg hkq] at hq;exact⟨hq,Ne.symm hkq⟩
 rcases hblk with ⟨hN,hes0⟩|⟨hN,cur,r1,r2,r3,r4,r5,r6⟩
 .subst hes0
  obtain rfl:j=0:=by simpa using h2
  obtain rfl:i=0:=by omega
  have hN':(g.set id 0 0 true).N id=true:=by simp[Gh.set]
  have h4:=hs.kill (k:=k) |>.born (id:=id) (b:=0) (cap:=0) (nl:=true) (bl := .row t s (([]:List D).take 0 |>.drop 0)) hid.1 hid2 (by simp) (.inl ⟨hN',rfl⟩) (by simp[Blk.ids]) (λ hal=>by
   unfold zac at hal;rw[za,if_pos rfl] at hal;simp[hN'] at hal) (λ hal=>by
   unfold zac at hal;rw[za,if_pos rfl] at hal;simp[hN'] at hal)
  rw[hmm] at h4;refine⟨_,h4, ?_⟩;have:=Den.rs (g:=g.set id 0 0 true) (w:=w) (k:=id) (n:=0) (λ _=>rfl) (by simp[hN']) (by omega);simpa [Gh.base,hN',hN] using this
 .have hal:zac g m k:=by simp[zac,hk,hN]
  obtain⟨o',ho'⟩:∃ o',o'=if cc (g.C k)=i then co (g.C k) else co (g.C k)+i*s:=⟨_,rfl⟩
  have hmx:cc (g.C k)-i<=maxLen:=by omega
  have hN':(g.set id (g.β k) (occ o' (cc (g.C k)-i)) false).N id=false:=by simp[Gh.set]
  have hB:(g.set id (g.β k) (occ o' (cc (g.C k)-i)) false).β id=g.β k:=by simp[Gh.set]
  have hC:(g.set id (g.β k) (occ o' (cc (g.C k)-i)) false).C id=occ o' (cc (g.C k)-i):=by simp[Gh.set]
  have hlen:((es.take j).drop i).length=j-i:=by simp;omega
  have h4:=hs.kill (k:=k) |>.born (id:=id) (b:=g.β k) (cap:=occ o' (cc (g.C k)-i)) (nl:=false) (bl := .row t s ((es.take j).drop i)) hid.1 hid2 (by simp)
   (.inr ⟨hN',cur,by rw[hB];exact r1,by
    rw[hC,zdT hmx,zcN hmx,ho',Nat.sub_mul];have:i*s<=cc (g.C k)*s:=Nat.mul_le_mul_right _ (by omega)
    split <;> omega,by rw[hC,zcN hmx,hlen];omega,zl6 _,λ el hel=>r5 el (List.mem_of_mem_take (List.mem_of_mem_drop hel)),λ p q el d hel hd=>by
    rw[List.getElem?_drop,List.getElem?_take] at hel
    split at hel
    .rename_i hlt
     obtain⟨u,u1,u2,u3⟩:=r6 (i+p) q el d hel hd;refine⟨u, ?_,u2,u3⟩;rw[hC,zdT hmx,ho',if_neg (by omega),<- u1]
     congr 1
     rw[Nat.add_mul];omega
    .cases hel⟩) (by simp[Blk.ids])
   (λ _=>⟨λ q hq h=>(hdead q hq).2 (hs.mem.inj q k (hdead q hq).1 hal h),hs.mem.hot k hal,(hs.safe k hal).1,(hs.safe k hal).2⟩)
   (λ _ q hq hx=>(hs.mem.own q _ (hdead q hq).1 hx).2.2.1 k hal rfl)
  rw[hmm] at h4;refine⟨_,h4, ?_⟩;have:=Den.rs (g:=g.set id (g.β k) (occ o' (cc (g.C k)-i)) false) (w:=w) (k:=id) (n:=j-i) (by simp[hN']) (by rw[hC,zcN hmx];exact λ _=>by omega) (by omega);simp only[Gh.base,hN',hB,hC,zdT hmx,zcN hmx,Bool.false_eq_true,if_false] at this;simp only[hN,Bool.false_eq_true,if_false,sliced]
  have hA:(if cc (g.C k)=i then some (⟨g.β k,co (g.C k),none⟩:Addr) else (some (⟨g.β k,co (g.C k),none⟩:Addr)).map (·.add (i*s)))=some ⟨g.β k,o',none⟩:=by
   rw[ho']
   split
   .rfl
   .simp [zaC]
  rw[hA];exact this
theorem zkT {t:TypeId}{x:Operand}{lo hi mx:Option Operand}{id:Nat}(hp:fr.p<=id)(hT:TyOK P c.ty)(hs:SR fr nt g e m a w)(ho:∀ d,o.dst=some d->d<nt)(hop:o.op = .slice t x lo hi mx)
  (h:Pg.opd x (λ sv=>match c.ty.at t with
  | some { k := .slice _ es _, .. } => zeU es sv lo hi mx id
  | _=>Pg.fail) e m l K):Good P fr nt e m a w o K Q:=by
 obtain⟨sv,l',hx,hb,h1⟩:=zaa hs h
 cases ht:c.ty.at t with
 | none=>simp only[ht] at h1;exact h1.elim
 | some ti =>
  obtain⟨k,sz,by_,ag,csz,z⟩:=ti;simp only[ht] at h1;obtain⟨d,hd,_,hk⟩:=(hT t _ ht).desc
  cases k with
  | slice el es ea =>
   dsimp only at h1 hk;obtain⟨rfl,ie,hie,hies⟩:=hk
   have hel:P.elem t=el:=by simp[Program.elem,hd]
   have hu:P.underlying t=some (.slice (P.elem t)):=by rw[hel];exact hd
   have hsz:(sizeOf (P.elem t)).run P w = .ok es w:=by rw[hel];simp[sizeOf,typeInfo,hie,hies]
   have run:∀ {A n cap v},a.eval x = .slice A n cap->(Instr.slice t (.slice A n cap) (lo.map a.eval) (hi.map a.eval) (mx.map a.eval)).run P w = .ok v w->(execOp a.eval o).run P w = .ok (.value v) w:=by
    intro A n cap v hax hr;simp[execOp,hop,hax,run_sliceAt_slice w t _ _ _ _ hu,hr]
   have fin:∀ A (n cap s:Nat) (ls:List D) (hr:Rd g.F w (.slice A n cap) (.sl s ls)) (hax:a.eval x = .slice A n cap)
     (h3:when_ (Nat.beq s es) (sdPg s ls lo hi mx) e m l' K),Good P fr nt e m a w o K Q:=by
    intro A n cap s ls hr hax h3;replace h3:=zaj h3;obtain⟨hse,h3⟩:=h3;obtain rfl:=zrh hse
    cases mx with
    | some mx =>
     obtain⟨A',n',q,l3,hv,hq,h4⟩:=zhY hs hu hsz hr (by simp) h3;rw[zal] at h4;exact zah hs ho (run hax hv) (.inr (.csl hq)) (by simp[SV.ids]) h4
    | none =>
    obtain⟨v,q,l3,hv,hq,h4⟩:=zdt hs hu hsz hr h3;rw[zal] at h4;exact zah hs ho (run hax hv) (.inr (.dat hq)) (by simp[SV.ids]) h4
   rcases hx with hx|hx
   .subst hx;exact h1.elim
   generalize hax:a.eval x=v at hx
   cases hx with
   | dat hr =>
    cases hr with
    | @nil A' cap' s' hc=>exact fin A' 0 cap' s' [] (.nil hc) hax h1
    | sl f h4 h5 h6 h7 h8 h9 h10 h11=>exact fin _ _ _ _ _ (.sl f h4 h5 h6 h7 h8 h9 h10 h11) hax h1
    | _=>exact h1.elim
   | csl hr=>exact fin _ _ _ _ _ hr hax h1
   | nil =>
    replace h1:zfO [] lo hi mx (λ _=>one .nil) e m l' K:=h1;obtain⟨v,q,l3,hv,hq,h4⟩:=zdt hs hu hsz (Rd.nil (F:=g.F) (A:=none) (cap:=0) (s:=es) (by simp[maxLen])) h1;rw[zal] at h4
    have hv0:v = .slice none 0 0:=by
     unfold zfO at h1;obtain⟨i,l4,hi1,h1⟩:=zcm hs h1;obtain⟨j,l5,hj1,h1⟩:=zaY hs h1;obtain⟨M,l6,hM1,hM2,h1⟩:=zdb hs h1;obtain⟨⟨c1,c2,c3,c4⟩,_⟩:=h1;simp at c4
     have hj0:j=0:=by omega
     have hi0:i=0:=by omega
     have hM0:M=0:=by omega
     subst hj0 hi0 hM0;have h5:=hi1 (by omega);have h6:=hj1 (by omega)
     have h7:OpV a mx 0 0:=by
      by_cases hmx:mx=none
      .rw [hmx];rfl
      .exact (hM2 hmx).2 (by omega)
     have:=zbF (P:=P) (w:=w) (A:=none) (n:=0) (cap:=0) (i:=0) (j:=0) (M:=0) hu hsz h5 h6 h7 (λ h=>(hM2 h).1) (by omega) (by omega) (by omega) (λ _ _=>by omega);rw[this] at hv
     injection hv with hv
     rw[<- hv];rfl
    subst hv0;exact zah hs ho (run hax hv) (.inr .nil) (by simp[SV.ids]) h4
   | @rs k n hn0 hn1 hn2 =>
    have hbase:∀ {g':Gh},g'.β=g.β->g'.C=g.C->g'.N=g.N->∃ A cap,g.base k n = .slice A n cap/\g'.base k n = .slice A n cap:=by
     intro g' e1 e2 e3;unfold Gh.base;rw[e1,e2,e3]
     split
     .rename_i hN
      have:=hn0 hN;subst this;exact⟨_,_,rfl,rfl⟩
     .exact ⟨_,_,rfl,rfl⟩
    have fzc:∀ {g':Gh} {t':TypeId} {s:Nat} {ls:List D} {wr:List (Nat×Blk)},SR fr nt g' e (mApp wr m) a w->mApp wr m k = .fz t' s ls->g'.β=g.β->g'.C=g.C->g'.N=g.N ->
      (when_ (Nat.beq s es) (cond (n<=ls.length) (Pg.ex (λ q:List D=>q=ls.take n) λ l' => zfO l' lo hi mx λ q=>Pg.ret ⟨.dat (.sl s q),wr⟩)) e m (.b k::l') K)->Good P fr nt e m a w o K Q:=by
     intro g' t' s ls wr hs' hfz e1 e2 e3 h3;replace h3:=zaj h3;obtain⟨hse,hn,q,rfl,h3⟩:=h3;obtain rfl:=zrh hse;obtain⟨A,cap,hA,hA'⟩:=hbase e1 e2 e3;have hblk:=hs'.mem.blk k;rw[hfz] at hblk
     have hrd:Rd g'.F w (g'.base k n) (.sl s (ls.take n)):=by
      rcases hblk with ⟨hN,hes⟩|⟨hN,hF,hrow⟩
      .subst hes
       have:n=0:=by simpa using hn
       subst this;simp[Gh.base,hN];exact .nil (by simp[maxLen])
      .exact zg hN hF hrow hn
     rw[hA'] at hrd;obtain⟨v,q,l3,hv,hq,h4⟩:=zdt hs hu hsz hrd h3;exact zeg hs' ho (run (hax.trans hA) hv) (.inr (.dat hq)) (by simp[SV.ids]) h4
    have other:zev es k n lo hi mx e m l' K->Good P fr nt e m a w o K Q:=by
     intro h1;unfold zev at h1;simp only[Pg.getB,zam] at h1
     cases hm:m k with
     | row t' s ls =>
      rw[hm] at h1;obtain⟨g',hs',_,e1,e2,e3,_⟩:=hs.freeze hm;exact fzc hs' (by rw[za,if_pos rfl]) e1 e2 e3 h1
     | fz t' s ls =>
      rw[hm] at h1;refine fzc (g':=g) (wr:=[]) hs hm rfl rfl rfl ?_
      have:∀ q,one (.dat (.sl s q))=Pg.ret ⟨.dat (.sl s q),[]⟩:=λ q=>by funext e m l K;simp[zal,Pg.ret]
      simp only[this] at h1;exact h1
     | _=>rw[hm] at h1;exact h1.elim
    dsimp only[zeU] at h1
    split at h1
    .rcases h1 with h1|h1
     rotate_left
     .exact other h1
     have pre:∀ (i:Int) (c2:0<=i) (c3:i<=(n:Int)) (hi1:0<=i->OpV a hi i.toNat n),Den g w (g.base k i.toNat) (.rs k i.toNat)/\(execOp a.eval o).run P w = .ok (.value (g.base k i.toNat)) w:=by
      intro i c2 c3 hi1;have hden:Den g w (g.base k i.toNat) (.rs k i.toNat) := .rs (λ hN=>by have:=hn0 hN;omega) (λ hN=>by have:=hn1 hN;omega) (by omega)
      have hrun:(Instr.slice t (g.base k n) (Option.map a.eval none) (hi.map a.eval) (Option.map a.eval none)).run P w = .ok (g.base k i.toNat) w:=by
       unfold Gh.base
       split
       .rename_i hN
        have h0:=hn0 hN;subst h0
        have:i.toNat=0:=by omega
        rw[this] at hi1;rw[zbF (a:=a) (i:=0) (j:=0) (M:=0) (lo:=none) (mx:=none) hu hsz rfl (hi1 c2) rfl (λ h=>absurd rfl h) (Nat.le_refl _) (Nat.le_refl _) (Nat.le_refl _) (λ _ _=>Nat.le_refl _)];simp[sliced]
       .rename_i hN
        have:=hn1 (by simpa using hN);rw[zbF (a:=a) (i:=0) (j:=i.toNat) (M:=cc (g.C k)) (lo:=none) (mx:=none) hu hsz rfl (hi1 c2) rfl (λ h=>absurd rfl h) (by omega) (by omega) (Nat.le_refl _) (λ _ _=>by omega)];simp[sliced,Addr.add]
      refine⟨hden, ?_⟩;obtain⟨A,cap,hA,_⟩:=hbase (g':=g) rfl rfl rfl;rw[hA] at hrun hax;exact run hax hrun
     rcases h1 with h1|h1
     rotate_left
     .obtain ⟨i,l3,hi1,⟨c2,c3⟩,q,rfl,h4⟩:=zaY hs h1
      obtain⟨hden,hrun2⟩:=pre i c2 c3 hi1;rw[zal] at h4;exact zah hs ho hrun2 (.inr hden) (λ j hj=>hb j (by simpa [SV.ids] using hj)) h4
     obtain⟨i,l3,hi1,h4⟩:=zaY hs h1;simp only[Pg.getB,zam] at h4
     cases hm:m k with
     | row t' s ls =>
      rw[hm] at h4;obtain⟨⟨c1,c2,c3⟩,⟨q1,q2⟩,⟨rfl,rfl⟩,h4⟩:=h4;have hden:Den g w (g.base k i.toNat) (.rs k i.toNat) := .rs (λ hN=>by have:=hn0 hN;omega) (λ hN=>by have:=hn1 hN;omega) (by omega)
      have hrun:(Instr.slice t (g.base k n) (Option.map a.eval none) (hi.map a.eval) (Option.map a.eval none)).run P w = .ok (g.base k i.toNat) w:=by
       unfold Gh.base
       split
       .rename_i hN
        have h0:=hn0 hN;subst h0
        have:i.toNat=0:=by omega
        rw[this] at hi1;rw[zbF (a:=a) (i:=0) (j:=0) (M:=0) (lo:=none) (mx:=none) hu hsz rfl (hi1 c2) rfl (λ h=>absurd rfl h) (Nat.le_refl _) (Nat.le_refl _) (Nat.le_refl _) (λ _ _=>Nat.le_refl _)];simp[sliced]
       .rename_i hN
        have:=hn1 (by simpa using hN);rw[zbF (a:=a) (i:=0) (j:=i.toNat) (M:=cc (g.C k)) (lo:=none) (mx:=none) hu hsz rfl (hi1 c2) rfl (λ h=>absurd rfl h) (by omega) (by omega) (Nat.le_refl _) (λ _ _=>by omega)];simp[sliced,Addr.add]
      have hrun2:(execOp a.eval o).run P w = .ok (.value (g.base k i.toNat)) w:=by
       obtain⟨A,cap,hA,_⟩:=hbase (g':=g) rfl rfl rfl;rw[hA] at hrun hax;exact run hax hrun
      refine zeg (hs.trunc (n:=i.toNat) hm) ho hrun2 (.inr hden) (λ j hj=>?_) h4;simp[SV.ids] at hj;subst hj;rw[za,if_pos rfl];simp
     | _=>rw[hm] at h4;exact h4.elim
    .rcases h1 with h1|h1
     rotate_left
     .exact other h1
     unfold zgy at h1;simp only[Pg.getB,zam] at h1
     cases hm:m k with
     | row t' s ls =>
      rw[hm] at h1;replace h1:=zaj h1;obtain⟨hse,h1⟩:=h1;obtain rfl:=zrh hse;obtain⟨i,l3,hi1,h1⟩:=zcm hs h1;obtain⟨j,l4,hj1,h1⟩:=zaY hs h1;simp only[fresh,Pg.getB,zam] at h1
      cases hid:m id with
      | unborn =>
       rw[hid] at h1;obtain⟨⟨c0,c1,c2,c3⟩,⟨q1,q2⟩,⟨e1,e2⟩,hK⟩:=h1;dsimp only at e1 e2;subst e1 e2;obtain⟨g',hs',hden⟩:=hs.slide (i:=i.toNat) (j:=j.toNat) ⟨hp,hid⟩ hm (by omega) (by omega) (.inr trivial);refine zeg hs' ho ?_ (.inr hden) (λ q hq=>?_) hK
       .unfold Gh.base at hax
        split
        .rename_i hN
         rw[if_pos hN] at hax;have h0:=hn0 hN;subst h0
         have hj0:j.toNat=0:=by omega
         have hi0:i.toNat=0:=by omega
         refine run hax ?_;have:=zbF (P:=P) (w:=w) (a:=a) (A:=none) (n:=0) (cap:=0) (i:=0) (j:=0) (M:=0) (mx:=none) hu hsz (by have:=hi1 c1;rwa [hi0] at this) (by have:=hj1 (by omega);rwa [hj0] at this) rfl (λ h=>absurd rfl h) (by omega) (by omega) (by omega) (λ _ _=>by omega);rw[this];rfl
        .rename_i hN
         rw[if_neg hN] at hax;have:=hn1 (by simpa using hN);exact run hax (zbF (a:=a) (i:=i.toNat) (j:=j.toNat) (M:=cc (g.C k)) (mx:=none) hu hsz (hi1 c1) (hj1 (by omega)) rfl (λ h=>absurd rfl h) (by omega) (by omega) (Nat.le_refl _) (λ _ _=>by omega))
       .simp [SV.ids] at hq;subst hq
        have hne:k≠q:=λ e=>by rw[e,hid] at hm;cases hm
        rw[za,if_neg hne,za,if_pos rfl];simp
      | _=>rw[hid] at h1;exact h1.elim
     | _=>rw[hm] at h1;exact h1.elim
    .rename_i mx
     rcases h1 with h1|h1
     rotate_left
     .exact other h1
     unfold zgz at h1;obtain⟨i,l3,hi1,h1⟩:=zaY hs h1;obtain⟨M,l4,_,hM,h1⟩:=zdb hs h1;obtain⟨⟨rfl,rfl⟩,hK⟩:=h1;rw[zal] at hK;obtain⟨hhi,hM⟩:=hM (by simp)
     have hi2:OpV a hi 0 n:=by
      have:=hi1 (Int.le_refl _)
      cases hi with
      | none=>exact absurd rfl hhi
      | some _=>exact this
     obtain⟨A,cap,hA,_⟩:=hbase (g':=g) rfl rfl rfl;have hM2:OpV a (some mx) 0 cap:=hM (Int.le_refl _);have hr:=zbF (P:=P) (w:=w) (A:=A) (n:=n) (cap:=cap) (i:=0) (j:=0) (M:=0) (lo:=none) hu hsz rfl hi2 hM2 (λ _=>hhi) (Nat.le_refl _) (Nat.le_refl _) (Nat.zero_le _) (λ h=>absurd h (by simp));exact zah hs ho (run (hax.trans hA) hr) (.inr (.csl (.nil (Nat.zero_le _)))) (by simp[SV.ids]) hK
    .exact other h1
   | _=>exact h1.elim
  | _=>exact h1.elim
end
end Go.Vc
namespace Go.Vc
open Go.RowKit
section
variable {P:Program} {fr:Fr} {nt:Nat} {g:Gh} {e:Nat->SV} {m:Nat->Blk} {a:Act} {w:World} {T:Tree (Option TI)} {c:Ctx}
variable {o:Oper} {K:Dl->List Loc->Prop} {Q:Exit->Act->World->Prop} {l:List Loc}
theorem ze9 {ps:List (Nat×Operand)}{k:List (Nat×SV)->Pg}(hs:SR fr nt g e m a w)(h:Pg.parts ps k e m l K) :
  ∃ xs l',xs.length=ps.length/\(∀ (i:Nat) p x,ps[i]? = some p->xs[i]? = some x->x.1=p.1/\DenO g w (a.eval p.2) x.2)/\(∀ x,x∈xs->∀ i,i∈x.2.ids->m i ≠ .unborn)/\k xs e m l' K:=by
 induction ps generalizing k l with
 | nil=>exact⟨[],l,rfl,by simp,by simp,h⟩
 | cons p r ih =>
  obtain⟨i,op⟩:=p;obtain⟨x,l1,hx,hb,h1⟩:=zaa hs h;obtain⟨xs,l2,hl,hxs,hbs,h2⟩:=ih h1;refine⟨(i,x)::xs,l2,by simp[hl], ?_, ?_,h2⟩
  .intro j p' x' hp hx'
   cases j with
   | zero=>simp at hp hx';subst hp hx';exact⟨rfl,hx⟩
   | succ j=>exact hxs j p' x' (by simpa using hp) (by simpa using hx')
  .intro y hy
   rcases List.mem_cons.1 hy with rfl|hy
   .exact hb
   .exact hbs y hy
theorem zm (cs:List Value):∀ (off k:Nat) (l:Array Value),((cs.zipIdx k).foldl (λ acc (x:Value×Nat)=>acc.setIfInBounds (off+x.2) x.1) l).toList=zaF l.toList (off+k) cs:=by
 induction cs with
 | nil=>intro off k l;rfl
 | cons x r ih =>
  intro off k l;simp only[List.zipIdx_cons,List.foldl_cons,zaF];rw[ih];simp[Nat.add_assoc]
theorem zdV (cells cs:Array Value)(off:Nat):(cs.zipIdx.foldl (λ acc (x:Value×Nat)=>acc.setIfInBounds (off+x.2) x.1) cells).toList=zaF cells.toList off cs.toList:=by
 have:=zm cs.toList off 0 cells;simp only[Nat.add_zero] at this;rw[<- this,<- Array.foldl_toList];simp
theorem zhZ {vs us:List Value}{cs zs:List SV}{off:Nat}(h1:CellsDen g w vs cs)(h2:CellsDen g w us zs)(hl:off+us.length<=vs.length):CellsDen g w (zaF vs off us) (zaF cs off zs):=by
 refine⟨by rw[zaI,zaI,h1.1],λ i u y hu hy=>?_⟩;rw[zaH _ _ _ _ hl] at hu;rw[zaH _ _ _ _ (by rw[<- h1.1,<- h2.1];exact hl)] at hy;rw[<- h2.1] at hy
 split at hu
 .rename_i hin
  rw[if_pos hin] at hy;exact h2.2 _ u y hu hy
 .rename_i hin
  rw[if_neg hin] at hy;exact h1.2 _ u y hu hy
theorem zkU {pv:Nat->Option (Nat×Nat)}{ps:List (Nat×Operand)}{xs:List (Nat×SV)}{cells:Array Value}{cs r:List SV}(hl:xs.length=ps.length)
  (hx:∀ (i:Nat) p x,ps[i]? = some p->xs[i]? = some x->x.1=p.1/\DenO g w (a.eval p.2) x.2) (hc:CellsDen g w cells.toList cs) (hb:∀ x,x∈xs->∀ i,i∈x.2.ids->m i ≠ .unborn)
  (hcb:∀ k,k∈SV.idsL cs->m k ≠ .unborn) (h:zdk pv cs xs=some r) :
  ∃ out,Instr.fill pv cells (ps.map λ p=>(p.1,a.eval p.2))=some out/\CellsDen g w out.toList r/\∀ k,k∈SV.idsL r->m k ≠ .unborn:=by
 induction xs generalizing ps cells cs with
 | nil =>
  cases ps with
  | nil=>simp[zdk] at h;subst h;exact⟨cells,rfl,hc,hcb⟩
  | cons p ps=>simp at hl
 | cons x xs ih =>
  cases ps with
  | nil=>simp at hl
  | cons p ps =>
   obtain⟨ix,sx⟩:=x;obtain⟨hxi,hxd⟩:=hx 0 p (ix,sx) rfl rfl;dsimp only at hxi hxd;subst hxi;simp only[zdk] at h
   cases hp:pv p.1 with
   | none=>simp[hp] at h
   | some os =>
    obtain⟨off,size⟩:=os
    cases hcs:sx.cells with
    | none=>simp[hp,hcs] at h
    | some zs =>
     simp only[hp,hcs] at h
     cases hcond:(Nat.beq zs.length size&&Nat.ble (off+zs.length) cs.length&&zs.all SV.one) with
     | false=>simp[hcond] at h
     | true =>
      simp only[hcond,cond_true] at h;simp only[zrk] at hcond;obtain⟨⟨h1,h2⟩,h3⟩:=hcond;have h1:=zrh h1;have h2:=zrj h2
      rcases hxd with hxd|hxd
      .subst hxd;simp[SV.cells] at hcs
      obtain⟨hcd,hi⟩:=zaR hxd hcs h3
      have hle:off+(a.eval p.2).cells.toList.length<=cells.toList.length:=by rw[hcd.1,hc.1];exact h2
      have hnew:=zhZ (off:=off) hc hcd hle;have hbz:∀ k,k∈SV.idsL zs->m k ≠ .unborn:=zgM (hb (p.1,sx) (by simp)) hi
      have hnb:∀ k,k∈SV.idsL (zaF cs off zs)->m k ≠ .unborn:=by
       intro k hk;obtain⟨y,hy,hk⟩:=zau.1 hk;obtain⟨j,hj⟩:=List.mem_iff_getElem?.1 hy;rw[zaH _ _ _ _ h2] at hj
       split at hj
       .exact hbz k (zau.2 ⟨y,zri hj,hk⟩)
       .exact hcb k (zau.2 ⟨y,zri hj,hk⟩)
      obtain⟨out,ho1,ho2,ho3⟩:=ih (ps:=ps) (cells:=(a.eval p.2).cells.zipIdx.foldl (λ acc (x:Value×Nat)=>acc.setIfInBounds (off+x.2) x.1) cells) (by simpa using hl)
       (λ i q y hq hy=>hx (i+1) q y (by simpa using hq) (by simpa using hy)) (by rw[zdV];exact hnew) (λ y hy=>hb y (by simp[hy])) hnb h
      refine⟨out, ?_,ho2,ho3⟩
      have hsz1:(a.eval p.2).cells.size=size:=by have:=hcd.1;simp at this;omega
      have hsz2:¬ off+(a.eval p.2).cells.size > cells.size:=by simp at hle;omega
      simp only[List.map_cons,Instr.fill,hp];rw[if_neg (by simp[hsz1];simp at hsz2;omega)];exact ho1
theorem zf {fields:List Field}{fs:List (Nat×Nat×Bool)}(hl:fields.length=fs.length)(h:∀ (i:Nat) f x,fields[i]? = some f->fs[i]? = some x->f.offset=x.1/\∃ j,P.info? f.type=some j/\j.size=x.2.1) :
  fields.mapM (λ f=>(P.info? f.type).map λ i=>(f.offset,i.size))=some (fs.map λ x=>(x.1,x.2.1)):=by
 induction fields generalizing fs with
 | nil=>cases fs with
  | nil=>rfl
  | cons=>simp at hl
 | cons f r ih =>
  cases fs with
  | nil=>simp at hl
  | cons x fs =>
   obtain⟨h1,j,hj,hs⟩:=h 0 f x rfl rfl;have:=ih (fs:=fs) (by simpa using hl) λ i f' x' hf hx=>h (i+1) f' x' (by simpa using hf) (by simpa using hx);simp[List.mapM_cons,hj,this,h1,hs]
theorem znS (z:List Value):∀ k,k∈SV.idsL (z.map SV.ofV1)->m k ≠ .unborn:=by
 intro k hk;rw[zdU (by intro x hx;obtain⟨u,_,rfl⟩:=List.mem_map.1 hx;exact zcy u)] at hk
 cases hk
theorem zh0 {t:TypeId}{ti:TI}{ps:Array (Nat×Operand)}{pl:Nat->Option (Nat×Nat)}(hT:TIok P t ti)(hs:SR fr nt g e m a w)(ho:∀ d,o.dst=some d->d<nt)(hop:o.op = .build t ps)
  (hbuilt:∀ z cells,(∃ i,P.info? t=some i/\i.zero=some z)->Instr.fill pl z.cells (ps.toList.map λ p=>(p.1,a.eval p.2))=some cells->P.built t (ps.map λ x=>(x.1,a.eval x.2)).toList=some cells)
  (hz1:(ti.zero.map SV.ofV1).all SV.one=true)
  (h:Pg.parts ps.toList (λ l=>match zdk pl (ti.zero.map SV.ofV1) l with
    | some cs=>bif cs.all SV.one then one (SV.mkAgg ti.csz cs) else Pg.fail
    | none=>Pg.fail) e m l K):Good P fr nt e m a w o K Q:=by
 obtain⟨xs,l',hl,hx,hb,h1⟩:=ze9 hs h
 cases hf:zdk pl (ti.zero.map SV.ofV1) xs with
 | none=>simp only[hf] at h1;exact h1.elim
 | some cs =>
  simp only[hf] at h1
  cases hall:cs.all SV.one with
  | false=>simp only[hall,cond_false] at h1;exact h1.elim
  | true =>
   simp only[hall,cond_true,zal] at h1;obtain⟨i,z,hi,_,_,hz,hzc,hzl⟩:=hT.info;obtain⟨out,ho1,ho2,ho3⟩:=zkU (cells:=z.cells) hl hx (by rw[hzc];exact zda hz1) hb (znS _) hf;have hbu:=hbuilt z out ⟨i,hi,hz⟩ ho1;have hrun:=run_build (P:=P) w t _ out hbu;refine zah hs ho (v := .agg out) ?_ (.inr ?_) (λ k hk=>ho3 k (zhU hk)) h1
   .simp only[execOp,hop]
    simp[hrun]
   .have:=ze6 (z:=ti.csz) ho2
    simpa using this
theorem zkV {t:TypeId}{ps:Array (Nat×Operand)}(hT:TyOK P c.ty)(hs:SR fr nt g e m a w)(ho:∀ d,o.dst=some d->d<nt)(hop:o.op = .build t ps)
  (h:(match c.ty.at t with
  | some ti=>bif zlY ti then (match ps.toList with
    | []=>Pg.ex (zqv ti) λ q=>one (.dat (.agg q))
    | _=>Pg.fail)
   else bif ti.k.comp&&(ti.zero.map SV.ofV1).all SV.one then Pg.parts ps.toList λ l=>match zdk ti.k.place (ti.zero.map SV.ofV1) l with
    | some cs=>bif cs.all SV.one then one (SV.mkAgg ti.csz cs) else Pg.fail
    | none=>Pg.fail
   else Pg.fail
  | none=>Pg.fail) e m l K):Good P fr nt e m a w o K Q:=by
 cases ht:c.ty.at t with
 | none=>simp only[ht] at h;exact h.elim
 | some ti =>
  simp only[ht] at h
  replace h:(bif ti.k.comp&&(ti.zero.map SV.ofV1).all SV.one then Pg.parts ps.toList λ l=>match zdk ti.k.place (ti.zero.map SV.ofV1) l with
    | some cs=>bif cs.all SV.one then one (SV.mkAgg ti.csz cs) else Pg.fail
    | none=>Pg.fail
   else Pg.fail) e m l K:=by
   cases hbig:zlY ti with
   | false=>simpa only[hbig,cond_false] using h
   | true =>
    simp only[hbig,cond_true] at h
    cases hps:ps.toList with
    | nil =>
     rw[hps] at h;obtain⟨q,⟨hz,hq⟩,h⟩:=h
     have hc:ti.k.comp=true:=by
      unfold zlY at hbig
      cases hk:ti.k <;> simp[hk] at hbig ⊢ <;> rfl
     simpa only[hc,hz,Bool.and_self,cond_true,Pg.parts,zdk,hq] using h
    | cons x r=>rw[hps] at h;exact h.elim
  cases hz':(ti.k.comp&&(ti.zero.map SV.ofV1).all SV.one) with
  | false=>simp only[hz',cond_false] at h;exact h.elim
  | true =>
   simp only[hz',cond_true] at h;simp only[zrk] at hz';obtain⟨hcomp,hz⟩:=hz';refine zh0 (hT t ti ht) hs ho hop (λ z cells hi hf=>?_) hz h;obtain⟨i,hi,hzz⟩:=hi;obtain⟨d,hd,_,hk⟩:=(hT t ti ht).desc
   have hps:(ps.map λ x=>(x.1,a.eval x.2)).toList=ps.toList.map λ p=>(p.1,a.eval p.2):=by simp
   rw[hps];unfold Program.built;rw[hi,hd]
   cases hkk:ti.k with
   | struct fs =>
    rw[hkk] at hk hf;obtain⟨fields,rfl,hsz,hff⟩:=hk;have:=zf (P:=P) (fields:=fields.toList) (fs:=fs) (by simpa using hsz) λ i f x hf' hx=>(λ h=>⟨h.1,h.2.imp λ _ q=>⟨q.1,q.2.1⟩⟩) (hff i f x (by simpa using hf') hx);simp only[hzz,this];rw[<- hf]
    congr 1
    funext i;simp[TK.place]
   | arr n es ea =>
    rw[hkk] at hk hf;obtain⟨el,rfl,⟨ie,hie,hies⟩,_⟩:=hk;simp only[hzz,hie,hies];exact hf
   | _=>rw[hkk] at hcomp;simp[TK.comp] at hcomp
theorem zh1 {csz:List Nat}{ag:Bool}{size n i:Nat}{x:SV}{r:List (Nat×SV)}{ds:List D}(h:zbE csz ag size n ((i,x)::r)=some ds) :
  ∃ cs dc rest el,x.cells=some cs/\i=n/\cs.length=size/\cs.all SV.one=true/\zaM csz cs=some dc/\zbE csz ag size (n+1) r=some rest/\ds=el::rest/\el.cells=dc:=by
 simp only[zbE] at h
 cases hc:x.cells with
 | none=>simp[hc] at h
 | some cs =>
  simp only[hc] at h
  cases hcond:(Nat.beq i n&&Nat.beq cs.length size&&cs.all SV.one) with
  | false=>simp[hcond] at h
  | true =>
   simp only[hcond,cond_true] at h;simp only[zrk] at hcond;obtain⟨⟨h1,h2⟩,h3⟩:=hcond
   cases hd:zaM csz cs with
   | none=>simp[hd] at h
   | some dc =>
    cases hr:zbE csz ag size (n+1) r with
    | none=>simp[hd,hr] at h
    | some rest =>
     simp only[hd,hr] at h
     cases ag with
     | true =>
      simp at h;exact⟨cs,dc,rest, .agg dc,rfl,zrh h1,zrh h2,h3,hd,rfl,h.symm,rfl⟩
     | false =>
      simp only[cond_false] at h
      split at h
      .rename_i d
       simp at h;refine⟨cs,_,rest,d,rfl,zrh h1,zrh h2,h3,hd,rfl,h.symm, ?_⟩;have hl:=zaV hd
       match cs,hl with
       | [y],_ =>
        obtain⟨s',hs'⟩:=zb2 (i:=0) hd rfl rfl;exact zf9 (by simpa using h3) hs'
      .cases h
theorem zma {csz:List Nat}{ag:Bool}{es:Nat}{xs:List (Nat×SV)}:∀ {ps:List (Nat×Operand)} {i:Nat} {cells:Array Value} {ds:List D},xs.length=ps.length ->
  (∀ (i:Nat) p x,ps[i]? = some p->xs[i]? = some x->x.1=p.1/\DenO g w (a.eval p.2) x.2)->zbE csz ag es i xs=some ds->(i+xs.length)*es<=cells.size ->
  ∃ out,Instr.fill (λ i=>some (i*es,es)) cells (ps.map λ p=>(p.1,a.eval p.2))=some out/\out.size=cells.size/\(∀ q,q<i*es->out[q]? = cells[q]?)/\ds.length=xs.length/\(∀ el,el∈ds->el.cells.length=es) /\
   ∀ (r j:Nat) el d,ds[r]? = some el->el.cells[j]? = some d->∃ u,out[(i+r)*es+j]? = some u/\u.oneCell'=true/\Rd g.F w u d:=by
 induction xs with
 | nil =>
  intro ps i cells ds hl hx h hsz
  cases ps with
  | nil=>simp[zbE] at h;subst h;exact⟨cells,rfl,rfl,λ _ _=>rfl,rfl,by simp,by simp⟩
  | cons=>simp at hl
 | cons x xs ih =>
  intro ps i cells ds hl hx h hsz
  cases ps with
  | nil=>simp at hl
  | cons p ps =>
   obtain⟨ix,sx⟩:=x;obtain⟨hxi,hxd⟩:=hx 0 p (ix,sx) rfl rfl;dsimp only at hxi hxd;obtain⟨cs,dc,rest,el,hcs,hin,hlen,hall,hdc,hrest,rfl,helc⟩:=zh1 h
   rcases hxd with hxd|hxd
   .subst hxd;simp[SV.cells] at hcs
   obtain⟨hcd,_⟩:=zaR hxd hcs hall;have hdl:=zaV hdc
   have hvl:(a.eval p.2).cells.toList.length=es:=by rw[hcd.1,hlen]
   have hmul:(i+1)*es<=cells.size:=Nat.le_trans (Nat.mul_le_mul_right _ (by simp)) hsz;rw[Nat.add_mul] at hmul
   have hpi:p.1=i:=by rw[<- hxi];exact hin
   let cells':=(a.eval p.2).cells.zipIdx.foldl (λ acc (x:Value×Nat)=>acc.setIfInBounds (i*es+x.2) x.1) cells
   have hc':cells'.toList=zaF cells.toList (i*es) (a.eval p.2).cells.toList:=zdV _ _ _
   have hsz':cells'.size=cells.size:=by
    have:=congrArg List.length hc';rw[zaI] at this;simpa using this
   obtain⟨out,ho1,ho2,ho3,ho4,ho5,ho6⟩:=ih (ps:=ps) (i:=i+1) (cells:=cells') (ds:=rest) (by simpa using hl) (λ q p' y hq hy=>hx (q+1) p' y (by simpa using hq) (by simpa using hy)) hrest
    (by rw[hsz'];refine Nat.le_trans (Nat.mul_le_mul_right _ ?_) hsz;simp;omega)
   have get':∀ q,cells'[q]? = if i*es<=q/\q<i*es+es then (a.eval p.2).cells.toList[q-i*es]? else cells[q]? := by
    intro q
    have h1:cells'[q]? = cells'.toList[q]? := by simp
    rw[h1,hc',zaH _ _ _ _ (by rw[hvl];simp;omega),hvl];simp
   refine⟨out, ?_,by rw[ho2,hsz'],λ q hq=>?_,by simp[ho4],λ el' hel=>?_,λ r j el' d hel hd=>?_⟩
   .simp only[List.map_cons,Instr.fill,hpi]
    have hs1:(a.eval p.2).cells.size=es:=by simpa using hvl
    rw[if_neg (by simp[hs1];omega)];exact ho1
   .rw [ho3 q (by rw[Nat.add_mul];omega),get',if_neg (by omega)]
   .rcases List.mem_cons.1 hel with rfl|hel
    .rw [helc,hdl,hlen]
    .exact ho5 el' hel
   .cases r with
    | zero =>
     simp at hel;subst hel;rw[helc] at hd
     have hj:j<es:=by rw[<- hlen,<- hdl];exact(zrf.1 hd).1
     have hjv:j<(a.eval p.2).cells.toList.length:=by omega
     have hjc:j<cs.length:=by omega
     refine⟨(a.eval p.2).cells.toList[j], ?_,(hcd.2 j _ _ (zrg hjv) (zrg hjc)).1,zbe (λ i u y hu hy=>.inr (hcd.2 i u y hu hy).2) hcd.1 hdc j _ d (zrg hjv) hd⟩;rw[Nat.add_zero,ho3 _ (by rw[Nat.add_mul];omega),get',if_pos (by omega),<- zrg hjv]
     congr 1;omega
    | succ r =>
     have:=ho6 r j el' d (by simpa using hel) hd;rw[show i+(r+1)=i+1+r from by omega];exact this
theorem zh2 {z:Nat×Nat}{id n s cap:Nat}{cur:Array Value}{t:TypeId}{es:List D}{w':World}(hs:SR fr nt g e m a w)(ho:∀ d,o.dst=some d->d<nt)(hid:fr.p<=id/\m id = .unborn)(hw:Ext w w')
  (hrun:(execOp a.eval o).run P w = .ok (.value (.slice (some ⟨w'.heap.size,0,none⟩) n cap)) (w'.alloc (.cells cur t z)))
  (hz:Free z cur.size) (hn:n<=cap) (hcap:cap<=maxLen) (hes:es.length<=cap) (hsz:cur.size=cap*s) (hlen:∀ el,el∈es->el.cells.length=s)
  (hcell:∀ (i j:Nat) el d,es[i]? = some el->el.cells[j]? = some d->∃ u,cur[i*s+j]? = some u/\u.oneCell'=true/\Rd g.F w u d)
  (hK:K ⟨.rs id n,[(id, .row t s es)]⟩ l):Good P fr nt e m a w o K Q:=by
 unfold Good Oper.wp;rw[hrun];have hs':=hs.ext hw;refine⟨_,_,hK,g.set id w'.heap.size cap false, ?_⟩
 have hN:(g.set id w'.heap.size cap false).N id=false:=by simp[Gh.set]
 have hB:(g.set id w'.heap.size cap false).β id=w'.heap.size:=by simp[Gh.set]
 have hC:(g.set id w'.heap.size cap false).C id=cap:=by simp[Gh.set]
 have h1:=(hs'.ext (Ext.alloc w' (.cells cur t z))).born (id:=id) (b:=w'.heap.size) (cap:=cap) (nl:=false) (bl := .row t s es) hid.1 hid.2 (by simp)
  (.inr ⟨hN,cur,⟨_,by rw[hB];exact za7 w' _,hz⟩,by rw[hC,zd hcap,zb1 hcap,hsz,Nat.zero_add];exact Nat.le_refl _,by rw[hC,zb1 hcap];exact hes,zl6 _,hlen,λ i j el d hel hd=>by
   obtain⟨u,hu,h1,h2⟩:=hcell i j el d hel hd
   exact⟨u,by rw[hC,zd hcap,Nat.zero_add];exact hu,h1,h2.mono (λ _ h=>h) λ b hb=>by
    have hb':=hs.mem.lt b hb
    rw[(Ext.alloc w' _).old b (Nat.lt_of_lt_of_le hb' hw.size),hw.old b hb']⟩⟩) (by simp[Blk.ids])
  (λ _=>⟨λ k hk h=>by have:=zaT hs'.mem hk;omega,λ h=>by have:=hs'.mem.lt _ h;omega,λ h=>by have:=(hs'.keep _ h).1;have:=hs'.size;omega, .inr hs'.size⟩) (λ _ k hk hx=>by have:=(hs'.mem.own k _ hk hx).1;omega)
 refine h1.put ho (.inr ?_) ?_
 .have:=Den.rs (g:=g.set id w'.heap.size cap false) (w:=w'.alloc (.cells cur t z)) (k:=id) (n:=n) (by simp[hN]) (by rw[hC,zb1 hcap];exact λ _=>hn) (by omega)
  simpa [Gh.base,hN,hB,hC,zd hcap,zb1 hcap] using this
 .intro k hk
  simp[SV.ids] at hk;subst hk;rw[za,if_pos rfl];simp
theorem zeN {id n s cap:Nat}{cur:Array Value}{t:TypeId}{es:List D}{w':World}(hs:SR fr nt g e m a w)(ho:∀ d,o.dst=some d->d<nt)(hid:fr.p<=id/\m id = .unborn)(hw:Ext w w')
  (hrun:(execOp a.eval o).run P w = .ok (.value (.slice (some ⟨w'.heap.size,0,none⟩) n cap)) (w'.alloc (.cells cur t)))
  (hn:n<=cap) (hcap:cap<=maxLen) (hes:es.length<=cap) (hsz:cur.size=cap*s) (hlen:∀ el,el∈es->el.cells.length=s)
  (hcell:∀ (i j:Nat) el d,es[i]? = some el->el.cells[j]? = some d->∃ u,cur[i*s+j]? = some u/\u.oneCell'=true/\Rd g.F w u d)
  (hK:K ⟨.rs id n,[(id, .row t s es)]⟩ l):Good P fr nt e m a w o K Q:=zh2 hs ho hid hw hrun (.inl rfl) hn hcap hes hsz hlen hcell hK
theorem zmb {t el:TypeId}{te:TI}{n id es:Nat}{ea ea':Bool}{ps:Array (Nat×Operand)}{xs:List (Nat×SV)}{ds:List D}(hT:TyOK P c.ty)(hs:SR fr nt g e m a w)(ho:∀ d,o.dst=some d->d<nt)(hid:fr.p<=id/\m id = .unborn)(hop:o.op = .buildSlice t n ps)
  (hd:P.underlying t=some (.slice el)) (hes:∃ i,P.info? el=some i/\i.size=es) (hte:c.ty.at el=some te) (hl:xs.length=ps.toList.length)
  (hx:∀ (i:Nat) p x,ps.toList[i]? = some p->xs[i]? = some x->x.1=p.1/\DenO g w (a.eval p.2) x.2) (he:zbE te.csz ea es 0 xs=some ds)
  (hcond:(Nat.beq ds.length n&&Nat.ble (n*es) 16777216&&Nat.ble 1 es)=true) (hK:K ⟨.rs id n,[(id, .row el es ds)]⟩ l):Good P fr nt e m a w o K Q:=by
 obtain⟨ie,hie,hies⟩:=hes;simp only[zrk] at hcond;obtain⟨⟨h2,h3⟩,h4⟩:=hcond;have h2:=zrh h2;have h3:=zrj h3;have h4:=zrj h4;obtain⟨i,z,hi,his,_,hz,hzc,hzl⟩:=(hT el te hte).info
 have hies':te.size=es:=by rw[<- hies,<- his];rw[hie] at hi;rw[Option.some.inj hi]
 have hxn:xs.length=n:=by
  obtain⟨_,_,_,_,h5,_⟩:=zma (g:=g) (w:=w) (a:=a) (ps:=ps.toList) (cells:=Array.replicate ((0+xs.length)*es) undef) hl hx he (by simp);omega
 let cells0:Array Value:=if n*es=0 then #[] else (Array.range (n*es)).map (z.cells[· % z.cells.size]!)
 have hc0:cells0.size=n*es:=by
  simp only[cells0]
  split
  .rename_i h0;simp[h0]
  .simp
 obtain⟨out,ho1,ho2,ho3,ho4,ho5,ho6⟩:=zma (g:=g) (w:=w) (a:=a) (ps:=ps.toList) (cells:=cells0) hl hx he (by rw[hc0,hxn];simp);refine zeN hs ho hid (Ext.refl w) (cap:=n) (cur:=out) ?_ (Nat.le_refl _) (by simp only[maxLen];have:n<=n*es:=Nat.le_mul_of_pos_right n h4;omega) (by omega) (by rw[ho2,hc0]) ho5 (λ i j el' d hel hd=>by have:=ho6 i j el' d hel hd;simpa using this) hK
 have hps:(ps.map λ x=>(x.1,a.eval x.2)).toList=ps.toList.map λ p=>(p.1,a.eval p.2):=by simp
 have hle:¬ n*es > 2 ^ 24:=by omega
 by_cases h0:n*es=0
 .have hcz:cells0 = #[]:=by simp[cells0,h0]
  rw[hcz] at ho1
  have hz0:Array.map (λ _:Nat=>(default:Value)) (Array.range 0) = #[]:=by simp[Array.range]
  simp[execOp,hop,Instr.buildSlice,run_underlying hd,sizeOf,typeInfo,hie,hies,h0,hz0,ho1,newRow]
 .have hcz:cells0=(Array.range (n*es)).map (z.cells[· % z.cells.size]!):=by simp[cells0,h0]
  rw[hcz] at ho1;rw[hie] at hi;obtain rfl:=Option.some.inj hi;simp only[execOp,hop]
  have hle':¬ 16777216<n*es:=by omega
  have h0':¬ (n=0∨es=0):=by
   rintro(h|h) <;> simp[h] at h0
  simp[Instr.buildSlice,run_underlying hd,sizeOf,typeInfo,zeroValue,hie,hies,h0,h0',hle',hz,newRow,ho1]
  done
end
end Go.Vc
namespace Go.Vc
open Go.RowKit
section
variable {P:Program} {fr:Fr} {nt:Nat} {g:Gh} {e:Nat->SV} {m:Nat->Blk} {a:Act} {w:World} {T:Tree (Option TI)} {c:Ctx}
variable {o:Oper} {K:Dl->List Loc->Prop} {Q:Exit->Act->World->Prop} {l:List Loc}
theorem SR.extH {w':World}{hole:Nat->Prop}(h:SR fr nt g e m a w)(hos:w'.os=w.os)(ht:w'.tape=w.tape)(hout:w'.output=w.output)(hsz:w.heap.size<=w'.heap.size)
  (hold:∀ b,b<w.heap.size->¬ hole b->w'.heap[b]? = w.heap[b]?) (h1:∀ k,zac g m k->¬ hole (g.β k)/\∀ b,g.X k b->¬ hole b) (h2:∀ b,hole b->¬ g.F b/\¬ fr.Kp b):SR fr nt g e m a w':=by
 have hF:∀ b,g.F b->w'.heap[b]? = w.heap[b]? := λ b hb=>hold b (h.mem.lt b hb) λ hh=>(h2 b hh).1 hb
 have hm:MRel g m w':=by
  refine⟨λ k=>?_,h.mem.inj,h.mem.hot,λ b hb=>Nat.lt_of_lt_of_le (h.mem.lt b hb) hsz,λ k b hk hx=>?_⟩
  rotate_left
  .obtain ⟨x1,x2,x3,x4⟩:=h.mem.own k b hk hx
   exact⟨Nat.lt_of_lt_of_le x1 hsz,x2,x3,x4⟩
  have hb:=h.mem.blk k
  have al:zac g m k->BlkRel g w' k (m k):=λ hk =>
   hb.mono (λ _ h=>h) hF ⟨rfl,rfl,rfl,List.prefix_rfl⟩ (hold _ (zaT h.mem hk) (h1 k hk).1) (λ _ _=>⟨rfl,rfl,rfl,List.prefix_rfl⟩) λ b hx=>⟨hx,hold b (h.mem.own k b hk hx).1 ((h1 k hk).2 b hx)⟩
  cases hmk:m k with
  | unborn=>trivial
  | dead=>trivial
  | box lc=>rw[<- hmk];exact al (by simp[zac,hmk])
  | arr lc=>rw[<- hmk];exact al (by simp[zac,hmk])
  | mp es=>rw[<- hmk];exact al (by simp[zac,hmk])
  | sit s p=>rw[<- hmk];exact al (by simp[zac,hmk])
  | mit es z=>rw[<- hmk];exact al (by simp[zac,hmk])
  | sn t s ea o es =>
   rw[hmk] at hb
   rcases hb with hb|⟨cur,I,hb⟩
   .exact .inl hb
   .rw [<- hmk];exact al (by simp[zac,hmk,hb.nn])
  | fam ks es o=>rw[<- hmk];exact al (by simp[zac,hmk])
  | row t s es =>
   rw[hmk] at hb
   rcases hb with hb|hb
   .exact .inl hb
   .rw [<- hmk];exact al (by simp[zac,hmk,hb.1])
  | fz t s es =>
   rw[hmk] at hb
   rcases hb with hb|⟨b1,b2,b3⟩
   .exact .inl hb
   .exact .inr ⟨b1,b2,b3.mono (λ _ h=>h) hF (hF _ b2)⟩
 refine { h with mem:=hm,env:=λ t=>?_,os:=hos.trans h.os,tape:=ht.trans h.tape,output:=hout.trans h.output,size:=Nat.le_trans h.size hsz,keep:=λ b hb=>?_ }
 .rcases h.env t with h'|⟨v,h1,h2⟩
  .exact .inl h'
  .exact .inr ⟨v,h1,h2.mono (λ _ h=>h) hF λ _ _=>⟨rfl,rfl,rfl,List.prefix_rfl⟩⟩
 .obtain ⟨h3,h4⟩:=h.keep b hb
  exact⟨h3,(hold b (Nat.lt_of_lt_of_le h3 h.size) λ hh=>(h2 b hh).2 hb).trans h4⟩
def zbv (w:World)(e:TypeId)(size:Nat)(v:Value)(n:Nat)(xs:List Value):Prop :=
  xs.length=n*size /\
  ((v = .slice none 0 0/\n=0) ∨
   ∃ g off cap cur,v = .slice (some ⟨g,off,none⟩) n cap/\(∃ z,w.heap[g]? = some (.cells cur e z)/\Free z cur.size)/\n<=cap/\cap<=maxLen/\off+cap*size<=cur.size/\(cur.toList.drop off).take (n*size)=xs)
theorem zbm (w:World)(e:TypeId)(size:Nat):zbv w e size (.slice none 0 0) 0 []:=⟨by simp, .inl ⟨rfl,rfl⟩⟩
theorem zcO (t ty e:TypeId)(i:TypeInfo)(ht:P.underlying t=some (.slice e))(hi:P.info? e=some i)
  (g off sLen sCap:Nat) (cur:Array Value) {z:Nat×Nat} (hg:w.heap[g]? = some (.cells cur e z)) (hz:Free z cur.size)
  (a:Addr) (m c:Nat) (news:List Value) (hl:news.length=m*i.size) (hnews:∀ j u,news[j]? = some u->w.cell? (a.add j)=some u) (h1:∀ u∈news,u.oneCell'=true)
  (hroom:sLen+m<=sCap) (hfit:off+sLen*i.size+news.length<=cur.size) :
  (Builtin.append_ #[t,t] ty #[.slice (some ⟨g,off,none⟩) sLen sCap, .slice (some a) m c]).run P w =
   .ok (.slice (some ⟨g,off,none⟩) (sLen+m) sCap) (w.setRow g (cur.toList.take (off+sLen*i.size)++news++cur.toList.drop (off+sLen*i.size+news.length)).toArray):=by
 have hf:=run_firstCells_some (P:=P) w i.size m a m c news hl hnews;have hst:=zbh P g (off+sLen*i.size) e z news 0 cur w hg hz (by simpa using hfit) h1;simp only[Nat.add_zero] at hst;simp[Builtin.append_,run_underlying ht,sizeOf,typeInfo,hi,Builtin.lenOf,hroom,hf,Addr.add_lit,hst]
theorem zdo (t ty e:TypeId)(i:TypeInfo)(z:Value)(size bytes:Nat)(ht:P.underlying t=some (.slice e))(hi:P.info? e=some i)(hz:i.zero=some z)
  (hsize:i.size=size) (hby:i.bytes=bytes) (hzs:z.cells.size=size) (hsz:0<size)
  (v:Value) (n:Nat) (xs:List Value) (hown:zbv w e size v n xs)
  (a:Addr) (m c:Nat) (news:List Value) (hl:news.length=m*size) (hnews:∀ j u,news[j]? = some u->w.cell? (a.add j)=some u) (h1:∀ u∈news,u.oneCell'=true)
  (h63:n+m<=maxLen) (hbytes:(n+m)*bytes<=140737488355328) :
  ∃ v' w',(Builtin.append_ #[t,t] ty #[v, .slice (some a) m c]).run P w = .ok v' w'/\zbv w' e size v' (n+m) (xs++news)/\w.grownBy w' v.ownBlock /\
   (v'.ownBlock=v.ownBlock∨v'.ownBlock=some w.heap.size):=by
 rcases hown.2 with ⟨rfl,rfl⟩|⟨g,off,cap,cur,rfl,⟨zz,hg,hzz⟩,hnc,hcm,hcs,htake⟩
 .obtain rfl:xs=[]:=List.eq_nil_of_length_eq_zero (by simpa using hown.1)
  obtain⟨v',w',r1,r2,r3,_,r5⟩:=run_append_own_at (P:=P) w 0 t ty e i z size bytes ht hi hz hsize hby hzs hsz _ 0 [] (World.ownsRow_nil w 0 e size) a m c news hl hnews h1 h63 hbytes (Nat.zero_le _);refine⟨v',w',r1,⟨r2.1, ?_⟩,r3,r5⟩
  rcases r2.2 with h|⟨g,cap,cur,h1,_,h2,h3,h4,h5,h6⟩
  .exact .inl h
  .exact .inr ⟨g,0,cap,cur,h1,⟨_,h2, .inl rfl⟩,h3,h4,by omega,by simpa using h6⟩
 .subst hsize
  subst hby
  have hsmall:n+m<=9223372036854775807:=by simp only[maxLen] at h63;omega
  have hlen:(xs++news).length=(n+m)*i.size:=by rw[List.length_append,hown.1,hl,Nat.add_mul]
  by_cases hroom:n+m<=cap
  .have hle:(n+m)*i.size<=cap*i.size:=Nat.mul_le_mul_right _ hroom
   have hfit:off+n*i.size+news.length<=cur.size:=by rw[hl,Nat.add_assoc,<- Nat.add_mul];omega
   have hr:=zcO (P:=P) (w:=w) t ty e i ht hi g off n cap cur hg hzz a m c news hl hnews h1 hroom hfit;refine⟨_,_,hr,⟨hlen, .inr ⟨g,off,cap,_,rfl,⟨zz,setRow_heap w g cur _ e _ hg,by have hsz:(cur.toList.take (off+n*i.size)++news++cur.toList.drop (off+n*i.size+news.length)).length=cur.size:=by { simp only[List.length_append,List.length_take,List.length_drop,Array.length_toList];omega };rw[List.size_toArray,hsz];exact hzz⟩,hroom,hcm, ?_, ?_⟩⟩,⟨rfl,rfl,rfl,by simp,λ k _ hk=>setRow_other w g k _ (λ e=>hk (by simp[Value.ownBlock,e]))⟩,Or.inl rfl⟩
   .simp only[List.size_toArray,List.length_append,List.length_take,List.length_drop,Array.length_toList]
    omega
   .have hd:(cur.toList.take (off+n*i.size)).drop off=xs:=by rw[<- htake,List.drop_take,Nat.add_sub_cancel_left]
    have h2:(cur.toList.take (off+n*i.size)++news++cur.toList.drop (off+n*i.size+news.length)).drop off=xs++news++cur.toList.drop (off+n*i.size+news.length):=by
     rw[List.append_assoc,List.drop_append_of_le_length (by simp;omega),hd,List.append_assoc]
    simp only[h2];rw[<- hlen];exact List.take_left
  .have holds:∀ j u,xs[j]? = some u->w.cell? ((⟨g,off,none⟩:Addr).add j)=some u:=by
    intro j u hj;rw[<- htake,List.getElem?_take] at hj
    split at hj
    .rw [List.getElem?_drop] at hj
     rw[zaC,cell_of_row w _ _ _ _ _ hg];simpa using hj
    .cases hj
   have hr:=run_append_grow (P:=P) w t ty e i z ht hi hz ⟨g,off,none⟩ n cap xs hown.1 holds a m c news hl hnews (by omega) (by omega) (growslice_fits (by omega) hbytes);have hge:=grownCap_ge w (n+m) cap e;have hcm':grownCap w (n+m) cap e<=maxLen:=grownCap_le_maxLen w (n+m) cap e h63;refine⟨_,_,hr,⟨hlen, .inr ⟨w.heap.size,0,_,_,rfl,⟨_,heap_alloc_new w.drew _, .inl rfl⟩,hge,hcm', ?_, ?_⟩⟩,⟨rfl,rfl,rfl,by simp,λ k hk _=>by have:=(Ext.alloc w.drew (.cells (xs.toArray++news.toArray++Builtin.zeroCells z.cells (grownCap w (n+m) cap e-(n+m))) e)).old k hk;exact this⟩,Or.inr rfl⟩
   .simp only[Array.size_append,List.size_toArray,size_zeroCells,hzs,hown.1,hl,<- Nat.add_mul,Nat.zero_add]
    refine Nat.le_of_eq ?_
    congr 1
    omega
   .simp only[Array.toList_append,List.append_assoc,List.drop_zero]
    rw[<- List.append_assoc,<- hlen];exact List.take_left
theorem zcn (t ty el:TypeId)(i:TypeInfo)(size:Nat)(ht:P.underlying t=some (.slice el))(hi:P.info? el=some i)
  (v:Value) (n:Nat) (xs:List Value) (hown:zbv w el size v n xs) (c:Nat):(Builtin.append_ #[t,t] ty #[v, .slice none 0 c]).run P w = .ok v w:=by
 rcases hown.2 with ⟨rfl,rfl⟩|⟨g,off,cap,cur,rfl,_,hnc,_⟩
 .simp [Builtin.append_,run_underlying ht,sizeOf,typeInfo,hi,Builtin.lenOf,Builtin.firstCells]
 .simp [Builtin.append_,run_underlying ht,sizeOf,typeInfo,hi,Builtin.lenOf,Builtin.firstCells,hnc,storeCells]
structure Src (g:Gh)(w:World)(v:Value)(s:Nat)(ns:List D):Prop where
 ex:∃ (A:Option Addr) (c:Nat) (news:List Value),v = .slice A ns.length c/\(A=none->ns.length=0)/\news.length=ns.length*s/\(∀ ad,A=some ad->∀ (j:Nat) u,news[j]? = some u->w.cell? (ad.add j)=some u) /\
  (∀ u,u∈news->u.oneCell'=true)/\∀ (i j:Nat) el d,ns[i]? = some el->el.cells[j]? = some d->∃ u,news[i*s+j]? = some u/\Rd g.F w u d
 len:∀ el,el∈ns->el.cells.length=s
theorem zex {b off cap s:Nat}{ns:List D}(hs:1<=s)(hlen:∀ el,el∈ns->el.cells.length=s)
  (h:∀ (i j:Nat) el d,ns[i]? = some el->el.cells[j]? = some d->∃ u,w.cell? ⟨b,off+(i*s+j),none⟩=some u/\u.oneCell'=true/\Rd g.F w u d) :
  Src g w (.slice (some ⟨b,off,none⟩) ns.length cap) s ns:=by
 have at_:∀ q,q<ns.length*s->∃ u,w.cell? ⟨b,off+q,none⟩=some u/\u.oneCell'=true:=by
  intro q hq;have hi:q / s<ns.length:=Nat.div_lt_of_lt_mul (by rw[Nat.mul_comm];exact hq);have hj:q % s<s:=Nat.mod_lt _ hs;have hel:=zrg hi;have hl:=hlen _ (List.getElem_mem hi);have hd:=zrg (show q % s<(ns[q / s]).cells.length by omega);obtain⟨u,h1,h2,h3⟩:=h _ _ _ _ hel hd;rw[Nat.mul_comm,Nat.div_add_mod] at h1;exact⟨u,h1,h2⟩
 let f:Nat->Value:=λ q=>(w.cell? ⟨b,off+q,none⟩).getD undef
 have hf:∀ q,q<ns.length*s->w.cell? ⟨b,off+q,none⟩=some (f q)/\(f q).oneCell'=true:=by
  intro q hq;obtain⟨u,h1,h2⟩:=at_ q hq
  have:f q=u:=by simp[f,h1]
  rw[this];exact⟨h1,h2⟩
 have get_:∀ (q:Nat) u,((List.range (ns.length*s)).map f)[q]? = some u->q<ns.length*s/\u=f q:=by
  intro q u hu;rw[List.getElem?_map] at hu;by_cases hq:q<ns.length*s
  .rw [List.getElem?_range hq] at hu;simp at hu;exact⟨hq,hu.symm⟩
  .rw [List.getElem?_eq_none (by simpa using hq)] at hu;simp at hu
 refine⟨⟨_,cap,(List.range (ns.length*s)).map f,rfl,by simp,by simp,λ ad had j u hu=>?_,λ u hu=>?_,λ i j el d hel hd=>?_⟩,hlen⟩
 .cases had
  obtain⟨hj,rfl⟩:=get_ j u hu;rw[zaC];exact(hf j hj).1
 .obtain ⟨q,hq⟩:=List.mem_iff_getElem?.1 hu
  obtain⟨hj,rfl⟩:=get_ q u hq;exact(hf q hj).2
 .obtain ⟨u,h1,h2,h3⟩:=h i j el d hel hd
  have hi:i<ns.length:=(zrf.1 hel).1
  have hj:j<s:=by rw[<- hlen el (zri hel)];exact(zrf.1 hd).1
  have hlt:i*s+j<ns.length*s:=by
   have:(i+1)*s<=ns.length*s:=Nat.mul_le_mul_right _ hi;rw[Nat.add_mul] at this;omega
  refine⟨u, ?_,h3⟩;rw[List.getElem?_map,List.getElem?_range hlt];simp[f,h1]
theorem zgQ {A:Option Addr}{cap s:Nat}:Src g w (.slice A 0 cap) s [] :=
 ⟨⟨A,cap,[],rfl,λ _=>rfl,by simp,by simp,by simp,by simp⟩,by simp⟩
theorem zj8 {A:Option Addr}{n cap s:Nat}{ns:List D}(hs:1<=s)(h:Rd g.F w (.slice A n cap) (.sl s ns)):Src g w (.slice A n cap) s ns:=by
 cases h with
 | nil h=>exact zgQ
 | @sl b off _ _ _ _ f h4 h5 h6 h7 h8 h9 h10 h11 =>
  subst h4;exact zex hs h8 λ i j el d hel hd=>⟨f i j,by rw[<- Nat.add_assoc];exact h9 i j el d hel hd,h10 i j el d hel hd,h11 i j el d hel hd⟩
theorem zcz {v:Value}{x:SV}{s:Nat}{k:List D->Pg}(hs1:1<=s)(hs:SR fr nt g e m a w)(hx:DenO g w v x)(h:Pg.elems s x k e m l K):∃ ns l',Src g w v s ns/\k ns e m l' K:=by
 rcases hx with hx|hx
 .subst hx;exact h.elim
 cases hx with
 | dat hr =>
  cases hr with
  | @nil A' cap' s' hc=>replace h:=zaj h;obtain⟨_,h⟩:=h;exact⟨[],_,zgQ,h⟩
  | sl f h4 h5 h6 h7 h8 h9 h10 h11 =>
   replace h:=zaj h;obtain⟨he,h⟩:=h;obtain rfl:=zrh he;exact⟨_,_,zj8 hs1 (.sl f h4 h5 h6 h7 h8 h9 h10 h11),h⟩
  | _=>exact h.elim
 | csl hr =>
  replace h:=zaj h;obtain⟨he,h⟩:=h;obtain rfl:=zrh he;exact⟨_,_,zj8 hs1 hr,h⟩
 | nil=>exact⟨[],_,zgQ,h⟩
 | @rs b n h1 h2 h3 =>
  simp only[Pg.elems,Pg.getB,zam] at h;have hblk:=hs.mem.blk b
  have row:∀ {t:TypeId} {es:List D},g.N b=false->RowAt g.F w (g.β b) t s (g.C b) es->n<=es.length->Src g w (g.base b n) s (es.take n):=by
   intro t es hN hrow hn;obtain⟨cur,⟨_,r1,_⟩,r2,r3,r4,r5,r6⟩:=hrow
   have hl:(es.take n).length=n:=by simp;omega
   have:=zex (g:=g) (w:=w) (b:=g.β b) (off:=co (g.C b)) (cap:=cc (g.C b)) (ns:=es.take n) hs1 (λ el hel=>r5 el (List.mem_of_mem_take hel)) λ i j el d hel hd=>by
    rw[List.getElem?_take] at hel
    split at hel
    .obtain ⟨u,u1,u2,u3⟩:=r6 i j el d hel hd
     exact⟨u,by rw[cell_of_row w _ _ _ _ _ r1];exact u1,u2,u3⟩
    .cases hel
   rw[hl] at this;simpa [Gh.base,hN] using this
  have nl:∀ {es:List D},g.N b=true->es=[]->Src g w (g.base b n) s (es.take n):=by
   intro es hN hes;subst hes;have:n=0:=h1 hN;subst this;simp[Gh.base,hN];exact zgQ
  cases hm:m b with
  | row t s' es =>
   rw[hm] at hblk h;replace h:=zaj h;obtain⟨he,hn,q,rfl,h⟩:=h;obtain rfl:=zrh he
   rcases hblk with ⟨hN,hes⟩|⟨hN,hrow⟩
   .exact ⟨_,_,nl hN hes,h⟩
   .exact ⟨_,_,row hN hrow hn,h⟩
  | fz t s' es =>
   rw[hm] at hblk h;replace h:=zaj h;obtain⟨he,hn,q,rfl,h⟩:=h;obtain rfl:=zrh he
   rcases hblk with ⟨hN,hes⟩|⟨hN,_,hrow⟩
   .exact ⟨_,_,nl hN hes,h⟩
   .exact ⟨_,_,row hN hrow hn,h⟩
  | _=>rw[hm] at h;exact h.elim
 | _=>exact h.elim
theorem zdW {id n es:Nat}{t:TypeId}{el:TypeId}{old ns:List D}{xs news:List Value}{v:Value}{wr:List (Nat×Blk)}(hs:SR fr nt g e m a w)(ho:∀ d,o.dst=some d->d<nt)
  (hid:fr.p<=id/\m id = .unborn) (hown:zbv w el es v n xs)
  (hold:∀ (i j:Nat) d dd,(old.take n)[i]? = some d->d.cells[j]? = some dd->∃ u,xs[i*es+j]? = some u/\u.oneCell'=true/\Rd g.F w u dd) (hnold:n<=old.length) (hlold:∀ d,d∈old->d.cells.length=es)
  (hnl:news.length=ns.length*es) (hn1:∀ u,u∈news->u.oneCell'=true) (hnr:∀ (i j:Nat) el d,ns[i]? = some el->el.cells[j]? = some d->∃ u,news[i*es+j]? = some u/\Rd g.F w u d) (hsl:∀ el,el∈ns->el.cells.length=es)
  (hb2:n+ns.length<=maxLen)
  (run:∃ v' w',(execOp a.eval o).run P w = .ok (.value v') w'/\zbv w' el es v' (n+ns.length) (xs++news)/\w.grownBy w' v.ownBlock /\
   (v'.ownBlock=v.ownBlock∨v'.ownBlock=some w.heap.size))
  (hole:∀ b,v.ownBlock=some b->¬ g.F b/\¬ fr.Kp b/\(fr.Y b∨fr.w0.heap.size<=b)) (m':Nat->Blk) (hm':SR fr nt g e m' a w) (hid':m' id = .unborn) (hal:∀ k b,zac g m' k->v.ownBlock=some b->g.β k≠b/\¬ g.X k b)
  (hmm:mApp [(id, .row el es (old.take n++ns))] m'=mApp wr m)
  (hK:K ⟨.rs id (n+ns.length),wr⟩ l):Good P fr nt e m a w o K Q:=by
 obtain⟨v',w',hrun,r2,r3,r5⟩:=run;unfold Good Oper.wp;rw[hrun];have hs2:SR fr nt g e m' a w':=hm'.extH (hole:=λ b=>v.ownBlock=some b) r3.os r3.tape r3.output r3.size (λ b hb hh=>r3.block b hb (λ e=>hh e.symm)) (λ k hk=>⟨λ hh=>(hal k _ hk hh).1 rfl,λ b hx hh=>(hal k b hk hh).2 hx⟩) λ b hh=>⟨(hole b hh).1,(hole b hh).2.1⟩;have hF:∀ b,g.F b->w'.heap[b]? = w.heap[b]? := λ b hb=>r3.block b (hs.mem.lt b hb) λ e=>(hole b e.symm).1 hb
 have hlen:(old.take n++ns).length=n+ns.length:=by simp;omega
 have hlens:∀ d,d∈old.take n++ns->d.cells.length=es:=by
  intro d hd
  rcases List.mem_append.1 hd with hd|hd
  .exact hlold d (List.mem_of_mem_take hd)
  .exact hsl d hd
 have hxl:=hown.1
 have hcells:∀ (i j:Nat) d dd,(old.take n++ns)[i]? = some d->d.cells[j]? = some dd->∃ u,(xs++news)[i*es+j]? = some u/\u.oneCell'=true/\Rd g.F w' u dd:=by
  intro i j d dd hd hdd
  have hj:j<es:=by rw[<- hlens d (zri hd)];exact(zrf.1 hdd).1
  by_cases hin:i<n
  .rw [List.getElem?_append_left (by simp;omega)] at hd
   obtain⟨u,u1,u2,u3⟩:=hold i j d dd hd hdd;refine⟨u, ?_,u2,u3.mono (λ _ h=>h) hF⟩;rw[List.getElem?_append_left]
   .exact u1
   .rw [hxl]
    have:(i+1)*es<=n*es:=Nat.mul_le_mul_right _ hin;rw[Nat.add_mul] at this;omega
  .rw [List.getElem?_append_right (by simp;omega)] at hd
   have hl:(old.take n).length=n:=by simp;omega
   rw[hl] at hd;obtain⟨u,u1,u3⟩:=hnr (i-n) j d dd hd hdd;refine⟨u, ?_,hn1 u (zri u1),u3.mono (λ _ h=>h) hF⟩;have hge:n*es<=i*es:=Nat.mul_le_mul_right _ (by omega);rw[List.getElem?_append_right (by rw[hxl];omega),hxl,<- u1]
   congr 1
   rw[Nat.sub_mul];omega
 rcases r2.2 with ⟨rfl,h0⟩|⟨gb,off,cap,cur,rfl,hh,hnc',hmx,hcs,htk⟩
 .-- nothing yet
  have hnil:old.take n++ns=[]:=List.eq_nil_of_length_eq_zero (by omega);refine⟨_,_,hK,g.set id 0 0 true, ?_⟩
  have hN:(g.set id 0 0 true).N id=true:=by simp[Gh.set]
  have h2:=hs2.born (id:=id) (b:=0) (cap:=0) (nl:=true) (bl := .row el es (old.take n++ns)) hid.1 hid' (by simp) (.inl ⟨hN,hnil⟩) (by simp[Blk.ids]) (λ hal=>by
   unfold zac at hal;rw[za,if_pos rfl] at hal;simp[hN] at hal) (λ hal=>by
   unfold zac at hal;rw[za,if_pos rfl] at hal;simp[hN] at hal)
  rw[hmm] at h2;refine h2.put ho (.inr ?_) ?_
  .have:=Den.rs (g:=g.set id 0 0 true) (w:=w') (k:=id) (n:=n+ns.length) (λ _=>h0) (by simp[hN]) (by omega)
   simpa [Gh.base,hN] using this
  .intro k hk
   simp[SV.ids] at hk;subst hk;rw[<- hmm,za,if_pos rfl];simp
 .refine ⟨_,_,hK,g.set id gb (occ off cap) false, ?_⟩
  have hN:(g.set id gb (occ off cap) false).N id=false:=by simp[Gh.set]
  have hB:(g.set id gb (occ off cap) false).β id=gb:=by simp[Gh.set]
  have hC:(g.set id gb (occ off cap) false).C id=occ off cap:=by simp[Gh.set]
  have hgb:(∀ k,zac g m' k->g.β k≠gb)/\¬ g.F gb/\¬ fr.Kp gb/\(fr.Y gb∨fr.w0.heap.size<=gb):=by
   have:Value.ownBlock (.slice (some ⟨gb,off,none⟩) (n+ns.length) cap)=some gb:=rfl;rw[this] at r5
   rcases r5 with r5|r5
   .exact ⟨λ k hk=>(hal k gb hk r5.symm).1,hole gb r5.symm⟩
   .simp at r5
    subst r5;exact⟨λ k hk h=>by have:=zaT hm'.mem hk;omega,λ h=>by have:=hs.mem.lt _ h;omega,λ h=>by have:=(hs.keep _ h).1;have:=hs.size;omega, .inr hs.size⟩
  have hgx:∀ k,zac g m' k->¬ g.X k gb:=by
   have:Value.ownBlock (.slice (some ⟨gb,off,none⟩) (n+ns.length) cap)=some gb:=rfl;rw[this] at r5
   rcases r5 with r5|r5
   .exact λ k hk=>(hal k gb hk r5.symm).2
   .simp at r5
    subst r5
    exact λ k hk hx=>by have:=(hm'.mem.own k _ hk hx).1;omega
  have h2:=hs2.born (id:=id) (b:=gb) (cap:=occ off cap) (nl:=false) (bl := .row el es (old.take n++ns)) hid.1 hid' (by simp)
   (.inr ⟨hN,cur,by rw[hB];exact hh,by rw[hC,zdT hmx,zcN hmx];exact hcs,by rw[hC,zcN hmx,hlen];exact hnc',zl6 _,hlens,λ i j d dd hd hdd=>by
    obtain⟨u,u1,u2,u3⟩:=hcells i j d dd hd hdd;refine⟨u, ?_,u2,u3⟩;rw[<- htk,List.getElem?_take] at u1
    split at u1
    .rw [List.getElem?_drop] at u1
     rw[hC,zdT hmx];simpa using u1
    .cases u1⟩) (by simp[Blk.ids]) (λ _=>hgb) (λ _=>hgx)
  rw[hmm] at h2;refine h2.put ho (.inr ?_) ?_
  .have:=Den.rs (g:=g.set id gb (occ off cap) false) (w:=w') (k:=id) (n:=n+ns.length) (by simp[hN]) (by rw[hC,zcN hmx];exact λ _=>hnc') (by omega)
   simpa [Gh.base,hN,hB,hC,zdT hmx,zcN hmx] using this
  .intro k hk
   simp[SV.ids] at hk;subst hk;rw[<- hmm,za,if_pos rfl];simp
theorem zgR {id n es:Nat}{s x:Operand}{t el:TypeId}{te:TI}{old ns:List D}{xs:List Value}{v:Value}{wr:List (Nat×Blk)}(hT:TyOK P c.ty)(hs:SR fr nt g e m a w)(ho:∀ d,o.dst=some d->d<nt)
  (hid:fr.p<=id/\m id = .unborn) (hop:o.op = .call { callee := .builtin .append,args := #[s,x],argTypes := #[t,t] })
  (hd:P.underlying t=some (.slice el)) (hte:TIok P el te) (hes:te.size=es) (h1:1<=es) (hv:a.eval s=v) (hown:zbv w el es v n xs)
  (hold:∀ (i j:Nat) d dd,(old.take n)[i]? = some d->d.cells[j]? = some dd->∃ u,xs[i*es+j]? = some u/\u.oneCell'=true/\Rd g.F w u dd) (hnold:n<=old.length) (hlold:∀ d,d∈old->d.cells.length=es)
  (hsrc:Src g w (a.eval x) es ns) (hb1:(n+ns.length)*te.bytes<=140737488355328) (hb2:n+ns.length<=maxLen)
  (hole:∀ b,v.ownBlock=some b->¬ g.F b/\¬ fr.Kp b/\(fr.Y b∨fr.w0.heap.size<=b)) (m':Nat->Blk) (hm':SR fr nt g e m' a w) (hid':m' id = .unborn) (hal:∀ k b,zac g m' k->v.ownBlock=some b->g.β k≠b/\¬ g.X k b)
  (hmm:mApp [(id, .row el es (old.take n++ns))] m'=mApp wr m)
  (hK:K ⟨.rs id (n+ns.length),wr⟩ l):Good P fr nt e m a w o K Q:=by
 obtain⟨i,z,hi,his,hib,hz,hzc,hzl⟩:=hte.info;obtain⟨A,c0,news,hxv,hA,hnl,hnc,hn1,hnr⟩:=hsrc.ex
 have hzs:z.cells.size=es:=by have:=congrArg List.length hzc;simp at this;omega
 have run:∃ v' w',(Builtin.append_ #[t,t] o.type #[v, .slice A ns.length c0]).run P w = .ok v' w'/\zbv w' el es v' (n+ns.length) (xs++news)/\w.grownBy w' v.ownBlock /\
   (v'.ownBlock=v.ownBlock∨v'.ownBlock=some w.heap.size):=by
  cases A with
  | none =>
   have h0:=hA rfl;have hns:ns=[]:=List.eq_nil_of_length_eq_zero h0;subst hns;have:news=[]:=List.eq_nil_of_length_eq_zero (by simpa using hnl);subst this;exact⟨v,w,zcn t o.type el i es hd hi v n xs hown c0,by simpa using hown,World.grownBy.refl w _, .inl rfl⟩
  | some ad =>
   obtain⟨v',w',r1,r2,r3,r5⟩:=zdo (P:=P) (w:=w) t o.type el i z es te.bytes hd hi hz (by omega) hib hzs (by omega) v n xs hown ad ns.length c0 news hnl (hnc ad rfl) hn1 hb2 hb1;exact⟨v',w',r1,r2,r3,r5⟩
 obtain⟨v',w',r1,r2,r3,r5⟩:=run;exact zdW (t:=t) hs ho hid hown hold hnold hlold hnl hn1 hnr hsrc.len hb2 ⟨v',w',by simp[execOp,hop,resolve,invoke,builtin,hv,hxv,r1],r2,r3,r5⟩ hole m' hm' hid' hal hmm hK
theorem zmc {id n es:Nat}{s x:Operand}{t el:TypeId}{te:TI}{A:Option Addr}{old ns:List D}(hT:TyOK P c.ty)(hs:SR fr nt g e m a w)(ho:∀ d,o.dst=some d->d<nt)
  (hid:fr.p<=id/\m id = .unborn) (hop:o.op = .call { callee := .builtin .append,args := #[s,x],argTypes := #[t,t] })
  (hd:P.underlying t=some (.slice el)) (hte:TIok P el te) (hes:te.size=es) (h1:1<=es) (hv:a.eval s = .slice A n n) (hr:Rd g.F w (.slice A n n) (.sl es old))
  (hsrc:Src g w (a.eval x) es ns) (hne:ns≠[]) (hb1:(old.length+ns.length)*te.bytes<=140737488355328) (hb2:old.length+ns.length<=maxLen)
  (hK:K ⟨.rs id (old.length+ns.length),[(id, .row el es (old++ns))]⟩ l):Good P fr nt e m a w o K Q:=by
 obtain⟨i,z,hi,his,hib,hz,hzc,hzl⟩:=hte.info;obtain⟨A2,c2,olds,hov,hoA,hol,hoc,ho1,hor⟩:=(zj8 h1 hr).ex;obtain⟨A',c0,news,hxv,hA,hnl,hnc,hn1,hnr⟩:=hsrc.ex;have hol':=(zj8 h1 hr).len
 have hzs:z.cells.size=es:=by have:=congrArg List.length hzc;simp at this;omega
 injection hov with e1 e2 e3
 subst e1 e2 e3;have hpos:0<ns.length:=List.length_pos_iff.2 hne
 have hA':∃ ad,A'=some ad:=by
  cases A' with
  | none=>have:=hA rfl;omega
  | some ad=>exact⟨ad,rfl⟩
 obtain⟨ad,rfl⟩:=hA'
 have hsmall:old.length+ns.length<=9223372036854775807:=by simp only[maxLen] at hb2;omega
 have hlen:(olds++news).length=(old.length+ns.length)*es:=by rw[List.length_append,hol,hnl,Nat.add_mul]
 obtain⟨cap,hcapge,hcapm,hrunA⟩:∃ cap,old.length+ns.length<=cap/\cap<=maxLen/\(Builtin.append_ #[t,t] o.type #[.slice A old.length old.length, .slice (some ad) ns.length c0]).run P w =
   .ok (.slice (some ⟨w.drew.heap.size,0,none⟩) (old.length+ns.length) cap) (w.drew.alloc (.cells (olds.toArray++news.toArray++Builtin.zeroCells z.cells (cap-(old.length+ns.length))) el)):=by
  cases A with
  | none =>
   have h0:=hoA rfl;have hold:old=[]:=List.eq_nil_of_length_eq_zero h0;subst hold;have:olds=[]:=List.eq_nil_of_length_eq_zero (by simpa using hol);subst this;refine⟨_,grownCap_ge w ([].length+ns.length) 0 el,grownCap_le_maxLen w _ 0 el hb2, ?_⟩;have hr:=run_append_nil (P:=P) w t o.type el i z hd hi hz ad ns.length c0 news (by rw[hnl,his,hes]) (hnc ad rfl) (by omega) (by simp at hsmall;omega) (by rw[hib];simp only[List.length_nil,Nat.zero_add] at hb1;omega);simpa using hr
  | some oa =>
   refine⟨_,grownCap_ge w (old.length+ns.length) old.length el,grownCap_le_maxLen w _ old.length el hb2, ?_⟩;exact run_append_grow (P:=P) w t o.type el i z hd hi hz oa old.length old.length olds (by rw[hol,his,hes]) (hoc oa rfl) ad ns.length c0 news (by rw[hnl,his,hes]) (hnc ad rfl) (by omega) (by omega) (growslice_fits (by omega) (by rw[hib];exact hb1))
 refine zeN (w':=w.drew) (cap:=cap) (cur:=olds.toArray++news.toArray++Builtin.zeroCells z.cells (cap-(old.length+ns.length))) hs ho hid (Ext.drew w) ?_ hcapge hcapm (by simpa using hcapge) ?_ (λ d hd=>?_) (λ p q d dd hd hdd=>?_) hK
 .simp [execOp,hop,resolve,invoke,builtin,hv,hxv,hrunA]
 .simp only[Array.size_append,List.size_toArray,size_zeroCells,hzs,hol,hnl,<- Nat.add_mul]
  congr 1
  omega
 .rcases List.mem_append.1 hd with hd|hd
  .exact hol' d hd
  .exact hsrc.len d hd
 .have hlens:d.cells.length=es:=by
   rcases List.mem_append.1 (zri hd) with hd|hd
   .exact hol' d hd
   .exact hsrc.len d hd
  have hq:q<es:=by rw[<- hlens];exact(zrf.1 hdd).1
  have hp:p<old.length+ns.length:=by have:=(zrf.1 hd).1;simpa using this
  have hlt:p*es+q<(old.length+ns.length)*es:=by
   have:(p+1)*es<=(old.length+ns.length)*es:=Nat.mul_le_mul_right _ hp;rw[Nat.add_mul] at this;omega
  have hcur:(olds.toArray++news.toArray++Builtin.zeroCells z.cells (cap-(old.length+ns.length)))[p*es+q]? = (olds++news)[p*es+q]? := by
   rw[Array.getElem?_append_left (by simp only[Array.size_append,List.size_toArray];rw[List.length_append] at hlen;omega)];simp
  rw[hcur];by_cases hin:p<old.length
  .rw [List.getElem?_append_left hin] at hd
   obtain⟨u,u1,u3⟩:=hor p q d dd hd hdd;refine⟨u, ?_,ho1 u (zri u1),u3⟩;rw[List.getElem?_append_left (zrf.1 u1).1];exact u1
  .rw [List.getElem?_append_right (by omega)] at hd
   obtain⟨u,u1,u3⟩:=hnr (p-old.length) q d dd hd hdd;refine⟨u, ?_,hn1 u (zri u1),u3⟩;have hge:old.length*es<=p*es:=Nat.mul_le_mul_right _ (by omega);rw[List.getElem?_append_right (by rw[hol];omega),hol,<- u1]
   congr 1
   rw[Nat.sub_mul];omega
theorem SR.toDat {id:Nat}{el:TypeId}{es:Nat}{L:List D}{d:Option Nat}(hs:SR fr nt g (eApp d (.rs id L.length) e) (mApp [(id, .row el es L)] m) a w)(hid:m id = .unborn)
  (hbE:∀ t k,k∈(e t).ids->m k ≠ .unborn) (hbM:∀ b k,k∈(m b).ids->m k ≠ .unborn):SRel fr nt (eApp d (.dat (.sl es L)) e) m a w:=by
 obtain⟨g2,hs2,hF,hβ,hC,hN,hM⟩:=hs.freeze (k:=id) (t:=el) (s:=es) (es:=L) (by rw[za,if_pos rfl])
 have hm2:∀ k,k≠id->mApp [(id, .fz el es L)] (mApp [(id, .row el es L)] m) k=m k:=λ k hk=>by rw[za,if_neg (Ne.symm hk)];show mApp [(id,_)] m k=_;rw[za,if_neg (Ne.symm hk)];rfl
 have hal:∀ k,zac g2 m k->zac g2 (mApp [(id, .fz el es L)] (mApp [(id, .row el es L)] m)) k:=by
  intro k hk
  have hne:k≠id:=by rintro rfl;unfold zac at hk;rw[hid] at hk;exact hk
  unfold zac at hk ⊢;rw[hm2 k hne];exact hk
 refine⟨g2,{ mem:=⟨λ k=>?_,λ i j hi hj=>hs2.mem.inj i j (hal i hi) (hal j hj),λ i hi=>hs2.mem.hot i (hal i hi),hs2.mem.lt,λ i b hi hx=>?_⟩,env:=λ t=>?_,bornE:=λ t k hk=>?_,bornM:=hbM,os:=hs2.os,tape:=hs2.tape,output:=hs2.output,size:=hs2.size,keep:=hs2.keep,safe:=λ i hi=>hs2.safe i (hal i hi),safeX:=λ i b hi=>hs2.safeX i b (hal i hi),given:=hs2.given,frz:=hs2.frz,defers:=hs2.defers,tmps:=hs2.tmps,pin:=hs2.pin }⟩
 .by_cases hk:k=id
  .rw [hk,hid];trivial
  .have:=hs2.mem.blk k
   rw[hm2 k hk] at this;exact this
 .obtain ⟨x1,x2,x3,x4⟩:=hs2.mem.own i b (hal i hi) hx
  exact⟨x1,x2,λ j hj=>x3 j (hal j hj),λ j hj=>x4 j (hal j hj)⟩
 .have hE:=hs2.env t
  cases d with
  | none=>exact hE
  | some d =>
   simp only[eApp] at hE ⊢
   cases hdt:Nat.beq d t with
   | false=>rw[hdt] at hE;exact hE
   | true =>
    rw[hdt] at hE;simp only[cond_true] at hE ⊢
    rcases hE with hE|⟨v,h1,h2⟩
    .cases hE
    .refine .inr ⟨v,h1, .dat ?_⟩
     have hb:=hs2.mem.blk id;rw[za,if_pos rfl] at hb
     cases h2 with
     | rs n0 n1 n2 =>
     rcases hb with ⟨b1,b2⟩|⟨b1,b2,b3⟩
     .subst b2
      simp[Gh.base,b1];exact .nil (Nat.zero_le _)
     .have:=zg (n:=L.length) b1 b2 b3 (Nat.le_refl _)
      rw[List.take_length] at this;exact this
 .cases d with
  | none=>exact hbE t k hk
  | some d =>
   simp only[eApp] at hk
   cases hdt:Nat.beq d t with
   | false=>rw[hdt] at hk;exact hbE t k hk
   | true=>rw[hdt] at hk;simp[SV.ids] at hk
theorem zcU {t el ty:TypeId}{i:TypeInfo}{A A':Option Addr}{n cap c:Nat}(hd:P.underlying t=some (.slice el))(hi:P.info? el=some i)(hle:n<=cap) :
  (Builtin.append_ #[t,t] ty #[.slice A n cap, .slice A' 0 c]).run P w = .ok (.slice A n cap) w:=by
 have hu:=run_underlying (w:=w) hd
 cases A <;> cases A' <;> simp[Builtin.append_,hu,sizeOf,typeInfo,hi,hle,storeCells,Builtin.lenOf,Builtin.firstCells,loadCells,loadCellsFrom]
theorem zpr {id n es:Nat}{s x:Operand}{t el:TypeId}{te:TI}{A:Option Addr}{old ns:List D}(hT:TyOK P c.ty)(hs:SR fr nt g e m a w)(ho:∀ d,o.dst=some d->d<nt)
  (hid:fr.p<=id/\m id = .unborn) (hop:o.op = .call { callee := .builtin .append,args := #[s,x],argTypes := #[t,t] })
  (hd:P.underlying t=some (.slice el)) (hte:TIok P el te) (hes:te.size=es) (h1:1<=es) (hv:a.eval s = .slice A n n) (hr:Rd g.F w (.slice A n n) (.sl es old))
  (hsrc:Src g w (a.eval x) es ns) (hb1:(old.length+ns.length)*te.bytes<=140737488355328) (hb2:old.length+ns.length<=maxLen)
  (hK:K ⟨.dat (.sl es (old++ns)),[]⟩ l):Good P fr nt e m a w o K Q:=by
 by_cases hne:ns=[]
 .subst hne
  obtain⟨i,z,hi,his,hib,hz,hzc,hzl⟩:=hte.info;obtain⟨A',c0,news,hxv,hA,hnl,hnc,hn1,hnr⟩:=hsrc.ex;refine zah hs ho (v := .slice A n n) ?_ (.inr (.dat (by simpa using hr))) (by simp[SV.ids]) hK;have:=zcU (P:=P) (w:=w) (ty:=o.type) (A:=A) (A':=A') (n:=n) (cap:=n) (c:=c0) hd hi (Nat.le_refl _);simp[execOp,hop,resolve,invoke,builtin,hv,hxv,this]
 .have hG:=zmc (K:=λ δ _=>δ=⟨.rs id (old.length+ns.length),[(id, .row el es (old++ns))]⟩) (l:=l) (Q:=Q) hT hs ho hid hop hd hte hes h1 hv hr hsrc hne hb1 hb2 rfl
  unfold Good at hG ⊢;refine Oper.wp_mono ?_ hG;rintro a' w' ⟨δ,l',rfl,g',hs'⟩;refine⟨_,_,hK, ?_⟩
  have hlen:old.length+ns.length=(old++ns).length:=by simp
  rw[hlen] at hs';exact hs'.toDat hid.2 hs.bornE hs.bornM
theorem zi5 {id:Nat}{s x:Operand}{t t':TypeId}(hT:TyOK P c.ty)(hs:SR fr nt g e m a w)(ho:∀ d,o.dst=some d->d<nt)(hid:fr.p<=id/\m id = .unborn)
  (hop:o.op = .call { callee := .builtin .append,args := #[s,x],argTypes := #[t,t'] })
  (h:Pg.opd s (λ ss=>Pg.opd x λ sx=>match c.ty.at t with
  | some { k := .slice e es _, .. } => match c.ty.at e with
   | some te=>when_ (Nat.beq t t'&&Nat.ble 1 es) (match ss with
    | .nil=>Pg.elems es sx λ ns=>cond (ns.length*te.bytes<=140737488355328/\ns.length<=maxLen) (Pg.ex (λ q:Nat×List D=>q.1=ns.length/\q.2=ns) λ q=>Pg.ret ⟨.rs id q.1,[(id, .row e es q.2)]⟩)
    | .csl s' old=>when_ (Nat.beq s' es) (Pg.elems es sx λ ns=>Pg.or (cond (ns≠[]/\(old.length+ns.length)*te.bytes<=140737488355328/\old.length+ns.length<=maxLen)
      (Pg.ex (λ q:Nat×List D=>q.1=old.length+ns.length/\q.2=old++ns) λ q=>Pg.ret ⟨.rs id q.1,[(id, .row e es q.2)]⟩))
      (cond ((old.length+ns.length)*te.bytes<=140737488355328/\old.length+ns.length<=maxLen) (Pg.ex (λ q:List D=>q=old++ns) λ q=>one (.dat (.sl es q)))))
    | .rs k n=>Pg.getB k fun
     | .row e' s' old=>when_ (Nat.beq e' e&&Nat.beq s' es) (Pg.elems es sx λ ns=>cond (n<=old.length/\(n+ns.length)*te.bytes<=140737488355328/\n+ns.length<=maxLen)
      (Pg.ex (λ q:Nat×List D=>q.1=n+ns.length/\q.2=old.take n++ns) λ q=>Pg.ret ⟨.rs id q.1,[(k, .dead),(id, .row e es q.2)]⟩))
     | _=>Pg.fail
    | _=>Pg.fail)
   | none=>Pg.fail
  | _=>Pg.fail) e m l K):Good P fr nt e m a w o K Q:=by
 obtain⟨ss,l1,hss,_,h1⟩:=zaa hs h;obtain⟨sx,l2,hsx,_,h2⟩:=zaa hs h1
 cases ht:c.ty.at t with
 | none=>simp only[ht] at h2;exact h2.elim
 | some ti =>
  obtain⟨k,sz,by_,ag,csz,z⟩:=ti;simp only[ht] at h2;obtain⟨d,hd,_,hk⟩:=(hT t _ ht).desc
  cases k with
  | slice el es ea =>
   dsimp only at h2 hk;obtain⟨rfl,ie,hie,hies⟩:=hk
   cases hte:c.ty.at el with
   | none=>simp only[hte] at h2;exact h2.elim
   | some te =>
    simp only[hte] at h2;obtain⟨hcond,h3⟩:=zaj h2;simp only[zrk] at hcond;obtain rfl:=zrh hcond.1;have h1s:=zrj hcond.2
    have hes:te.size=es:=by
     obtain⟨i,z,hi,his,_⟩:=(hT el te hte).info;rw[hie] at hi;rw[<- his,<- Option.some.inj hi,hies]
    rcases hss with hss|hss
    .subst hss;exact h3.elim
    generalize hv:a.eval s=v at hss
    cases hss with
    | nil =>
     dsimp only at h3;obtain⟨ns,l3,hsrc,⟨hb1,hb2⟩,⟨q1,q2⟩,⟨e1,e2⟩,hK⟩:=zcz h1s hs hsx h3;dsimp only at e1 e2;subst e1;have e2:=e2.symm;subst e2
     exact zgR (old:=[]) (n:=0) (xs:=[]) (wr:=[(id, .row el es ns)]) hT hs ho hid hop hd (hT el te hte) hes h1s hv (zbm w el es) (by simp) (by simp) (by simp) hsrc (by simpa using hb1) (by simpa using hb2)
      (by simp[Value.ownBlock]) m hs hid.2 (by simp[Value.ownBlock]) (by simp) (by simpa [Pg.ret] using hK)
    | @csl A nA sA old hr =>
     replace h3:=zaj h3;obtain⟨hse,h3⟩:=h3;obtain rfl:=zrh hse;obtain⟨ns,l3,hsrc,h3⟩:=zcz h1s hs hsx h3
     rcases h3 with h3|h3
     rotate_left
     .obtain ⟨⟨hb1,hb2⟩,q,rfl,hK⟩:=h3
      rw[zal] at hK;exact zpr hT hs ho hid hop hd (hT el te hte) hes h1s hv hr hsrc hb1 hb2 hK
     obtain⟨⟨hne,hb1,hb2⟩,⟨q1,q2⟩,⟨e1,e2⟩,hK⟩:=h3;dsimp only at e1 e2;subst e1 e2;exact zmc hT hs ho hid hop hd (hT el te hte) hes h1s hv hr hsrc hne hb1 hb2 (by simpa [Pg.ret] using hK)
    | @rs k n n0 n1 n2 =>
     simp only[Pg.getB,zam] at h3;have hblk:=hs.mem.blk k
     cases hm:m k with
     | row e' s' old =>
      rw[hm] at hblk h3;dsimp only at h3;replace h3:=zaj h3;obtain⟨hcond2,h3⟩:=h3;simp only[zrk] at hcond2;obtain rfl:=zrh hcond2.1;obtain rfl:=zrh hcond2.2;obtain⟨ns,l3,hsrc,⟨hn,hb1,hb2⟩,⟨q1,q2⟩,⟨rfl,rfl⟩,hK⟩:=zcz h1s hs hsx h3
      have hne:k≠id:=λ e=>by rw[e,hid.2] at hm;cases hm
      have hmm:mApp [(id,Blk.row e' s' (old.take n++ns))] (mApp [(k, .dead)] m)=mApp [(k, .dead),(id, .row e' s' (old.take n++ns))] m:=by
       funext q;simp only[za];by_cases h1:id=q
       .subst h1;simp[hne]
       .simp [h1,mApp]
      have hid2:mApp [(k, .dead)] m id = .unborn:=by rw[za,if_neg hne];exact hid.2
      have hdead:∀ q,zac g (mApp [(k, .dead)] m) q->zac g m q/\q≠k:=by
       intro q hq;unfold zac at hq;rw[za] at hq;by_cases hkq:k=q
       .rw [if_pos hkq] at hq;exact hq.elim
       .rw [if_neg hkq] at hq;exact⟨hq,Ne.symm hkq⟩
      rcases hblk with ⟨hN,hes0⟩|⟨hN,cur,r1,r2,r3,r4,r5,r6⟩
      .have hn0:=n0 hN
       subst hn0
       have hbase:g.base k 0 = .slice none 0 0:=by simp[Gh.base,hN]
       exact zgR (old:=old) (n:=0) (xs:=[]) hT hs ho hid hop hd (hT _ te hte) hes h1s hv (by rw[hbase];exact zbm w _ _) (by simp) (by omega) (by rw[hes0];simp) hsrc hb1 hb2
        (by rw[hbase];simp[Value.ownBlock]) _ hs.kill hid2 (by rw[hbase];simp[Value.ownBlock]) hmm hK
      .have hbase:g.base k n = .slice (some ⟨g.β k,co (g.C k),none⟩) n (cc (g.C k)):=by simp[Gh.base,hN]
       have hns:n*s'<=cc (g.C k)*s':=Nat.mul_le_mul_right _ (n1 hN)
       have hal:zac g m k:=by simp[zac,hm,hN]
       refine zgR (old:=old) (n:=n) (xs:=(cur.toList.drop (co (g.C k))).take (n*s')) hT hs ho hid hop hd (hT _ te hte) hes h1s hv (by rw[hbase];exact⟨by simp only[List.length_take,List.length_drop,Array.length_toList];omega, .inr ⟨_,_,_,cur,rfl,r1,n1 hN,r4,r2,rfl⟩⟩) ?_ hn r5 hsrc hb1 hb2
        (by rw[hbase];intro b hb;simp[Value.ownBlock] at hb;subst hb;exact⟨hs.mem.hot k hal,(hs.safe k hal).1,(hs.safe k hal).2⟩) _ hs.kill hid2 (by
         rw[hbase];intro q b hq hb;simp[Value.ownBlock] at hb;subst hb;obtain⟨q1,q2⟩:=hdead q hq
         exact⟨λ h=>q2 (hs.mem.inj q k q1 hal h),λ hx=>(hs.mem.own q _ q1 hx).2.2.1 k hal rfl⟩) hmm hK
       intro i j dl dd hdl hdd;rw[List.getElem?_take] at hdl
       split at hdl
       .rename_i hi
        obtain⟨u,u1,u2,u3⟩:=r6 i j dl dd hdl hdd;refine⟨u, ?_,u2,u3⟩
        have hj:j<s':=by rw[<- r5 dl (zri hdl)];exact(zrf.1 hdd).1
        have:(i+1)*s'<=n*s':=Nat.mul_le_mul_right _ hi;rw[Nat.add_mul] at this;rw[List.getElem?_take,if_pos (by omega),List.getElem?_drop];simpa using u1
       .cases hdl
     | _=>rw[hm] at h3;exact h3.elim
    | _=>exact h3.elim
  | _=>exact h2.elim
end
end Go.Vc
namespace Go.Vc
open Go.RowKit
theorem zbS:∀ a b:List UInt8,(Op.bytesLess a b || a == b) = !Op.bytesLess b a
 | [],[]=>by simp[Op.bytesLess]
 | [],y::b=>by simp[Op.bytesLess]
 | x::a,[]=>by simp[Op.bytesLess]
 | x::a,y::b=>by
  have ih:=zbS a b;simp only[Op.bytesLess]
  rcases Nat.lt_trichotomy x.toNat y.toNat with h|h|h
  .have h1:x<y:=h
   have h2:¬ y<x:=λ h' => by have:y.toNat<x.toNat:=h';omega
   have h3:x≠y:=by rintro rfl;omega
   simp[h1,h2,h3,Ne.symm h3]
  .have h3:x=y:=UInt8.toNat_inj.1 h
   subst h3
   have h1:¬ x<x:=λ h' => by have:x.toNat<x.toNat:=h';omega
   simp only[h1,decide_false,Bool.false_or,beq_self_eq_true,Bool.true_and,List.cons_beq_cons];exact ih
  .have h1:y<x:=h
   have h2:¬ x<y:=λ h' => by have:x.toNat<y.toNat:=h';omega
   have h3:x≠y:=by rintro rfl;omega
   simp[h1,h2,h3,Ne.symm h3]
theorem zmd (a b:ByteArray):(a.toList == b.toList)=decide (a=b):=by
 rw[ByteArray.toList_eq,ByteArray.toList_eq];by_cases h:a=b
 .subst h;simp
 .have:a.data≠b.data:=λ h' => h (by apply ByteArray.ext;exact h')
  simp[h,this]
section
variable {P:Program} {fr:Fr} {nt:Nat} {g:Gh} {e:Nat->SV} {m:Nat->Blk} {a:Act} {w:World} {c:Ctx} {o:Oper} {K:Dl->List Loc->Prop} {Q:Exit->Act->World->Prop} {l:List Loc}
theorem zkW {bo:BinOp}{t t':TypeId}{x y:Operand}{s u:ByteArray}(hs:SR fr nt g e m a w)(ho:∀ d,o.dst=some d->d<nt)(hop:o.op = .binOp bo t x y t')(hx:a.eval x = .string s)(hy:a.eval y = .string u)
  (h:zlU bo s u e m l K):Good P fr nt e m a w o K Q:=by
 have hg:eqGuard bo t x y (.string s) (.string u)=pure ():=by cases bo <;> simp[eqGuard]
 have hrun:∀ v:Value,(binOp bo t (.string s) (.string u)).run P w = .ok v w->(execOp a.eval o).run P w = .ok (.value v) w:=by
  intro v hv;simp[execOp,hop,hx,hy,hg,hv]
 have bb:∀ (b:Bool) (hb:(binOp bo t (.string s) (.string u)).run P w = .ok (.bool b) w) (hK:K ⟨.kb b,[]⟩ l),Good P fr nt e m a w o K Q:=λ b hb hK =>
  zah hs ho (hrun _ hb) (.inr .kb) (by simp[SV.ids]) hK
 cases bo <;> simp only[zlU,bool?,cond,Pg.ex,zal,Pg.fail] at h
 case add =>
  obtain⟨h1,q,rfl,hK⟩:=h
  have h1':s.size+u.size<=9223372036854775807:=by simpa [maxLen] using h1
  refine zah hs ho (hrun (.string (s++u)) ?_) (.inr (.dat (.v ?_))) (by simp[SV.ids]) hK
  .have:=run_string_add_sum (P:=P) w s u h1'
   simpa [binOp] using this
  .show (s++u).size<=maxLen
   rw[ByteArray.size_append];exact h1
 case eql=>exact bb _ (by simp only[binOp,Op.stringOp,zmd];rfl) h
 case neq=>exact bb _ (by simp only[binOp,Op.stringOp,zmd];rw[decide_not];rfl) h
 case lss=>exact bb _ (by simp only[binOp,Op.stringOp,ByteArray.toList_eq];rfl) h
 case leq=>exact bb _ (by simp only[binOp,Op.stringOp,ByteArray.toList_eq,zbS];rfl) h
 case gtr=>exact bb _ (by simp only[binOp,Op.stringOp,ByteArray.toList_eq,zbS,Bool.not_not];rfl) h
 case geq=>exact bb _ (by simp only[binOp,Op.stringOp,ByteArray.toList_eq];rfl) h
end
end Go.Vc
namespace Go.Vc
open Go.RowKit
theorem znT {x y z:Value}(hx:zch z x=true)(hy:zch z y=true)(h:litV x=litV y):x=y:=by
 cases z <;> cases x <;> simp[zch] at hx <;> cases y <;> simp[zch] at hy <;> simp[litV] at h
 all_goals first
  | (obtain⟨h1,h2⟩:=h;subst h1 h2;rfl)
  | (subst h;rfl)
  | (rename_i a b;obtain⟨⟨a⟩⟩:=a;obtain⟨⟨b⟩⟩:=b;simp at h;subst h;rfl)
section
variable {P:Program}
theorem zey {dp:Nat}{t:TypeId}{z v:Value}(h:zcw P t z)(hl:zch z v=true)(hp:pl v):P.keyLits (dp+1) t [v]=some [litV v]:=by
 cases z <;> cases v <;> simp[zch] at hl <;> simp only[zcw] at h <;> simp only[pl] at hp
 .simp [Program.keyLits,h,litV]
 .rename_i k n k' n'
  have:=zbg (k:=k) (k':=k') (by simpa using hl);subst this;simp[Program.keyLits,h,litV,Lit.wf,hp.1,hp.2]
 .simp [Program.keyLits,h,litV,hp]
theorem zfT {dp:Nat}{vs zs:List Value}:∀ (fl:List Field) (n:Nat),n+fl.length=vs.length->(∀ (i:Nat) f z,fl[i]? = some f->zs[n+i]? = some z->f.offset=n+i/\P.cellsOf f.type=1/\zcw P f.type z)->vs.length=zs.length ->
  (∀ (i:Nat) v z,vs[i]? = some v->zs[i]? = some z->zch z v=true/\pl v) ->
  fl.mapM (λ f=>P.keyLits (dp+1) f.type ((vs.drop f.offset).take (P.cellsOf f.type)))=some ((vs.drop n).map λ v=>[litV v]):=by
 intro fl
 induction fl with
 | nil=>intro n hn _ _ _;rw[List.drop_eq_nil_of_le (by simp at hn;omega)];rfl
 | cons f fl ih =>
  intro n hn hf hl hv;simp only[List.length_cons] at hn
  have hlt:n<vs.length:=by omega
  have hz:zs[n]? = some zs[n]:=zrg (by omega);obtain⟨h1,h2,h3⟩:=hf 0 f zs[n] rfl (by simpa using hz);obtain⟨h4,h5⟩:=hv n vs[n] zs[n] (zrg hlt) hz
  have ht:(vs.drop f.offset).take (P.cellsOf f.type)=[vs[n]]:=by
   rw[h1,h2,Nat.add_zero,List.drop_eq_getElem_cons hlt];rfl
  have ih':=ih (n+1) (by omega) (λ i f' z' hf' hz' => by have:=hf (i+1) f' z' (by simpa using hf') (by rw[show n+(i+1)=n+1+i by omega];exact hz');rw[show n+1+i=n+(i+1) by omega];exact this) hl hv;rw[List.mapM_cons,ht,zey h3 h4 h5,ih',List.drop_eq_getElem_cons hlt];rfl
theorem zcc {α β:Type}(f:α->β)(l:List α):(l.map λ v=>[f v]).flatten=l.map f:=by
 induction l with
 | nil=>rfl
 | cons x l ih=>simp[ih]
theorem zh3 {dp:Nat} {t:TypeId} {zs vs:List Value} (hsz:P.cellsOf t=zs.length) (h:∃ fs,P.underlying t=some (.struct fs)/\fs.size=zs.length/\(fs.all λ f=>f.name != "_")=true/\∀ (i:Nat) f z,fs[i]? = some f->zs[i]? = some z->f.offset=i/\P.cellsOf f.type=1/\zcw P f.type z) (hl:vs.length=zs.length) (hv:∀ (i:Nat) v z,vs[i]? = some v->zs[i]? = some z->zch z v=true/\pl v):P.keyLits (dp+2) t vs=some (vs.map litV):=by
 obtain⟨fs,h1,h2,h3,h4⟩:=h;unfold Program.keyLits;rw[h1];have hm:=zfT (P:=P) (dp:=dp) (vs:=vs) (zs:=zs) fs.toList 0 (by simp;omega) (λ i f z hf hz=>by simpa using h4 i f z (by simpa using hf) (by simpa using hz)) hl hv;rw[List.drop_zero] at hm
 have hc:vs.length=P.cellsOf t/\(fs.all λ f=>f.name != "_")=true:=⟨by rw[hsz,hl],h3⟩
 simp only[hm]
 split
 all_goals first
  | (rw[if_pos hc,Option.map_some,zcc];done)
  | simp_all [zcc]
theorem zfU {t:TypeId}{zs vs ws:List Value}(w:World)(h:FlatOK P t zs)(hl:vs.length=zs.length)(hv:∀ (i:Nat) v z,vs[i]? = some v->zs[i]? = some z->zch z v=true/\pl v)
  (hl':ws.length=zs.length) (hv':∀ (i:Nat) v z,ws[i]? = some v->zs[i]? = some z->zch z v=true/\pl v):∃ r:Bool,(Op.equal t (.agg vs.toArray) (.agg ws.toArray)).run P w = .ok r w/\(r=true ↔ vs=ws):=by
 have formed:∀ us:List Value,us.length=zs.length->(Value.agg us.toArray).formed P t=true:=λ us hu=>by rcases h.comp with ⟨fs,h1⟩|⟨n,el,h1⟩ <;> simp[Value.formed,h1,h.size,hu]
 obtain⟨r,hr,hiff⟩:=run_equalIn_deep (P:=P) 9998 2 t h.key w 2 2 (.agg vs.toArray) (.agg ws.toArray) (vs.map litV) (ws.map litV) (formed vs hl) (formed ws hl') (by simpa [Value.cells] using h.lits 0 _ hl hv) (by simpa [Value.cells] using h.lits 0 _ hl' hv');refine⟨r,hr,hiff.trans ⟨λ he=>?_,λ he=>by rw[he]⟩⟩;refine List.ext_getElem? λ i=>?_;by_cases hi:i<vs.length
 .have hi':i<ws.length:=by omega
  have hz:zs[i]? = some zs[i]:=zrg (by omega)
  have he':=congrArg (·[i]?) he
  simp only[List.getElem?_map,zrg hi,zrg hi',Option.map_some,Option.some.injEq] at he';rw[zrg hi,zrg hi']
  congr 1
  exact znT (hv i _ _ (zrg hi) hz).1 (hv' i _ _ (zrg hi') hz).1 he'
 .rw [List.getElem?_eq_none (by omega),List.getElem?_eq_none (by omega)]
theorem zj9:∀ {zs:List Value} {cs:List D},zcQ zs cs=true->cs.length=zs.length/\∀ (i:Nat) z d,zs[i]? = some z->cs[i]? = some d->∃ x,d = .v x/\zch z x=true
 | [],[],_=>⟨rfl,by simp⟩
 | z::zs,d::cs,h=>by
  cases d with
  | v x =>
   simp only[zcQ,zrk] at h;obtain⟨h1,h2⟩:=zj9 h.2;refine⟨by simp[h1],λ i z' d' hz hd=>?_⟩
   cases i with
   | zero=>simp at hz hd;subst hz hd;exact⟨x,rfl,h.1⟩
   | succ i=>exact h2 i z' d' (by simpa using hz) (by simpa using hd)
  | _=>cases h
 | [],_::_,h=>by cases h
 | _::_,[],h=>by cases h
theorem zk:∀ {l r:List Value},l.map D.v=r.map D.v->l=r
 | [],[],_=>rfl
 | x::l,y::r,h=>by
  simp only[List.map_cons,List.cons.injEq,D.v.injEq] at h;rw[h.1,zk h.2]
 | [],_::_,h=>by simp at h
 | _::_,[],h=>by simp at h
theorem zdc {F:Nat->Prop}{w:World}{zs vs:List Value}{cs:List D}(h:zcQ zs cs=true)(hl:vs.length=cs.length)(hr:∀ (i:Nat) u d,vs[i]? = some u->cs[i]? = some d->Rd F w u d) :
  vs.length=zs.length/\cs=vs.map D.v/\∀ (i:Nat) v z,vs[i]? = some v->zs[i]? = some z->zch z v=true/\pl v:=by
 obtain⟨h1,h2⟩:=zj9 h
 have at_:∀ (i:Nat) v z d,vs[i]? = some v->zs[i]? = some z->cs[i]? = some d->d = .v v/\zch z v=true/\pl v:=by
  intro i v z d hv hz hd;obtain⟨x,rfl,hx⟩:=h2 i z d hz hd;have:=hr i v _ hv hd
  cases this with
  | v hp=>exact⟨rfl,hx,hp⟩
 refine⟨by omega,List.ext_getElem? λ i=>?_,λ i v z hv hz=>?_⟩
 .rw [List.getElem?_map]
  by_cases hi:i<vs.length
  .have:=at_ i vs[i] (zs[i]'(by omega)) (cs[i]'(by omega)) (zrg hi) (zrg (by omega)) (zrg (by omega))
   rw[zrg hi,zrg (by omega:i<cs.length),this.1];rfl
  .rw [List.getElem?_eq_none (by omega),List.getElem?_eq_none (by omega)];rfl
 .have hi:i<vs.length:=(zrf.1 hv).1
  exact(at_ i v z (cs[i]'(by omega)) hv hz (zrg (by omega))).2
variable {fr:Fr} {nt:Nat} {g:Gh} {e:Nat->SV} {m:Nat->Blk} {a:Act} {w:World} {c:Ctx} {o:Oper} {K:Dl->List Loc->Prop} {Q:Exit->Act->World->Prop} {l:List Loc}
theorem znU {zs:List Value}:∀ {cs cs':List D},zcQ zs cs=true->zcQ zs cs'=true->(eqDs cs cs'=true ↔ cs=cs'):=by
 induction zs with
 | nil =>
  intro cs cs' h h'
  cases cs with
  | nil=>cases cs' with
   | nil=>simp[eqDs]
   | cons=>simp[zcQ] at h'
  | cons=>simp[zcQ] at h
 | cons z zs ih =>
  intro cs cs' h h'
  cases cs with
  | nil=>simp[zcQ] at h
  | cons x r=>cases cs' with
   | nil=>simp[zcQ] at h'
   | cons x' r' =>
    cases x <;> simp only[zcQ,Bool.false_eq_true,zrk] at h
    cases x' <;> simp only[zcQ,Bool.false_eq_true,zrk] at h'
    rename_i u v;obtain⟨h1,h2⟩:=h;obtain⟨h1',h2'⟩:=h';have ih:=ih h2 h2'
    cases z <;> simp only[zch,Bool.false_eq_true] at h1 h1'
    all_goals (cases u <;> simp only[zch,Bool.false_eq_true] at h1)
    all_goals (cases v <;> simp only[zch,Bool.false_eq_true] at h1')
    .simp only[eqDs,zrk,beq_iff_eq,ih,List.cons.injEq,D.v.injEq,Value.bool.injEq]
    .have e1:=zbg h1
     have e2:=zbg h1';subst e1;subst e2;simp only[eqDs,zrk,decide_eq_true_eq,ih,List.cons.injEq,D.v.injEq,Value.int.injEq,true_and]
    .simp only[eqDs,zrk,decide_eq_true_eq,ih,List.cons.injEq,D.v.injEq,Value.string.injEq]
theorem zi6 {bo:BinOp}{t t':TypeId}{x y:Operand}{b b':Bool}(hs:SR fr nt g e m a w)(ho:∀ d,o.dst=some d->d<nt)(hop:o.op = .binOp bo t x y t')(hu:P.underlying t=some .bool)
  (hx:a.eval x = .bool b) (hy:a.eval y = .bool b') (h:zj1 bo b b' e m l K):Good P fr nt e m a w o K Q:=by
 have hrun:∀ v:Value,bo = .eql∨bo = .neq->(binOp bo t (.bool b) (.bool b')).run P w = .ok v w->(execOp a.eval o).run P w = .ok (.value v) w:=by
  intro v hb hv
  have hg:eqGuard bo t x y (.bool b) (.bool b')=pure ():=by rcases hb with rfl|rfl <;> simp[eqGuard]
  simp[execOp,hop,hx,hy,hg,hv]
 have he:(Op.equal t (.bool b) (.bool b')).run P w = .ok (b == b') w:=by
  have key:∀ d,(Op.equalIn (d+1) t (.bool b) (.bool b')).run P w = .ok (b == b') w:=λ d=>by simp[Op.equalIn,run_underlying hu]
  exact key 9999
 cases bo <;> simp only[zj1,zal,Pg.fail] at h
 case eql =>
  refine zah hs ho (hrun (.bool (b == b')) (.inl rfl) ?_) (.inr .kb) (by simp[SV.ids]) h;show (do pure (Value.bool (<- Op.equal t (.bool b) (.bool b'))):Sem Value).run P w=_;generalize Op.equal t (.bool b) (.bool b')=q at he ⊢;simp[he]
 case neq =>
  refine zah hs ho (hrun (.bool (!(b == b'))) (.inr rfl) ?_) (.inr .kb) (by simp[SV.ids]) h;show (do pure (Value.bool (!(<- Op.equal t (.bool b) (.bool b')))):Sem Value).run P w=_;generalize Op.equal t (.bool b) (.bool b')=q at he ⊢;simp[he]
theorem zdX {bo:BinOp}{t t' el:TypeId}{x y:Operand}{sx:SV}{b:Bool}(hs:SR fr nt g e m a w)(ho:∀ d,o.dst=some d->d<nt)(hop:o.op = .binOp bo t x y t')(hu:P.underlying t=some (.slice el))
  (hx:DenO g w (a.eval x) sx) (hy:a.eval y = .slice none 0 0) (hbo:(bo = .eql/\b=true)∨(bo = .neq/\b=false)) (h:zbQ c b sx e m l K):Good P fr nt e m a w o K Q:=by
 have hrun:∀ (A:Option Addr) (n cap:Nat) (r:Bool),a.eval x = .slice A n cap->r=(if A.isNone then b else !b)->(execOp a.eval o).run P w = .ok (.value (.bool r)) w:=by
  intro A n cap r hax hr
  have hg:eqGuard bo t x y (.slice A n cap) (.slice none 0 0)=pure ():=by rcases hbo with ⟨rfl,_⟩|⟨rfl,_⟩ <;> simp[eqGuard]
  have hv:(binOp bo t (.slice A n cap) (.slice none 0 0)).run P w = .ok (.bool r) w:=by
   rcases hbo with ⟨rfl,rfl⟩|⟨rfl,rfl⟩
   .rw [Lib.run_eql_slice_nil (P:=P) w t el A n cap 0 0 hu,hr]
    cases A <;> rfl
   .rw [run_neq_slice_nil_any (P:=P) w t el A n cap 0 0 hu,hr]
    cases A <;> rfl
  simp[execOp,hop,hax,hy,hg,hv]
 have fin:∀ (A:Option Addr) (n cap:Nat) (r:Bool),a.eval x = .slice A n cap->r=(if A.isNone then b else !b)->K ⟨.kb r,[]⟩ l->Good P fr nt e m a w o K Q:=λ A n cap r h1 h2 h3 =>
  zah hs ho (hrun A n cap r h1 h2) (.inr .kb) (by simp[SV.ids]) h3
 rcases hx with hx|hx
 .subst hx;exact h.elim
 generalize hax:a.eval x=v at hx
 cases hx with
 | nil=>simp only[zbQ,zal] at h;exact fin none 0 0 b hax (by simp) h
 | @rs k n n0 n1 n2 =>
  simp only[zbQ,nilN] at h
  cases hd:c.dem with
  | false =>
   rw[hd] at h;obtain⟨hn,h⟩:=h;rw[zal] at h
   have hN:g.N k=false:=by
    cases hN:g.N k with
    | false=>rfl
    | true=>exact absurd (n0 hN) hn
   simp[Gh.base,hN] at hax;exact fin _ _ _ _ hax (by simp) h
  | true =>
   rw[hd] at h;simp only[cond_true,zal] at h
   cases hN:g.N k with
   | false =>
    simp[Gh.base,hN] at hax;exact fin _ _ _ _ hax (by simp) h.2
   | true =>
    simp[Gh.base,hN] at hax;exact fin _ _ _ _ hax (by simp) (h.1 (n0 hN))
 | dat hr =>
  cases hr with
  | @nil A' cap' s' hc =>
   simp only[zbQ,zlT] at h
   cases hd:c.dem with
   | false =>
    rw[hd] at h;exact absurd rfl h.1
   | true =>
    rw[hd] at h;simp only[cond_true,zal] at h
    cases A' with
    | none=>exact fin _ _ _ _ hax (by simp) (h.1 trivial)
    | some _=>exact fin _ _ _ _ hax (by simp) h.2
  | @sl bb off n' cap' s' es' f h4 h5 h6 h7 h8 h9 h10 h11 =>
   simp only[zbQ,zlT] at h
   cases hd:c.dem with
   | false =>
    rw[hd] at h;have h:=h.2;rw[zal] at h;exact fin _ _ _ _ hax (by simp) h
   | true =>
    rw[hd] at h;simp only[cond_true,zal] at h;exact fin _ _ _ _ hax (by simp) h.2
  | _=>exact h.elim
 | _=>exact h.elim
theorem Den.nilp {v:Value}(h:DenO g w v (.dat (.v (.pointer none)))):v = .pointer none:=by
 rcases h with h|h
 .cases h
 .cases h with
  | dat h=>cases h with
   | v _=>rfl
theorem zbG {bo:BinOp}{t t':TypeId}{d:TypeDesc}{x y:Operand}{b:Bool}(hs:SR fr nt g e m a w)(ho:∀ d,o.dst=some d->d<nt)(hop:o.op = .binOp bo t x y t')(hd:P.underlying t=some d)(hk:∃ e,d = .pointer e)
  (hx:∃ p:Option Addr,a.eval x = .pointer p/\p.isNone=b) (hy:a.eval y = .pointer none) (h:(match bo with | .eql=>one (.kb b) | .neq=>one (.kb (!b))|_=>Pg.fail) e m l K):Good P fr nt e m a w o K Q:=by
 obtain⟨te,rfl⟩:=hk;obtain⟨p,hax,rfl⟩:=hx
 have hu:P.underlying t=some (.pointer (P.pointee t)):=by rw[hd];simp[Program.pointee,hd]
 cases bo with
 | eql =>
  simp only[zal] at h;exact zah hs ho (v := .bool p.isNone) (by simp[execOp,hop,hax,hy,eqGuard,run_eql_pointer_nil w t p hu]) (.inr .kb) (by simp[SV.ids]) h
 | neq =>
  simp only[zal] at h;exact zah hs ho (v := .bool (!p.isNone)) (by simp[execOp,hop,hax,hy,eqGuard,run_neq_pointer_nil w t p hu]) (.inr .kb) (by simp[SV.ids]) h
 | _=>exact h.elim
theorem zkX {bo:BinOp}{t t':TypeId}{x y:Operand}(hT:TyOK P c.ty)(hs:SR fr nt g e m a w)(ho:∀ d,o.dst=some d->d<nt)(hop:o.op = .binOp bo t x y t')
  (h:Pg.opd x (λ sx=>Pg.opd y λ sy=>zlV c bo t sx sy) e m l K):Good P fr nt e m a w o K Q:=by
 obtain⟨x',l',hx,hxb,h1⟩:=zaa hs h;obtain⟨y',l2,hy,hyb,h2⟩:=zaa hs h1;unfold zlV at h2
 split at h2
 .rename_i sa sb
  obtain⟨ex,hxr⟩:=Den.str hx;obtain⟨ey,hyr⟩:=Den.str hy
  cases ht:c.ty.at t with
  | none=>rw[ht] at h2;exact h2.elim
  | some ti =>
   obtain⟨k,sz,by_,ag,csz,z⟩:=ti;rw[ht] at h2
   cases k <;> first|exact h2.elim|exact zkW hs ho hop ex ey h2
 .obtain ⟨ex,hxr⟩:=Den.int hx
  obtain⟨ey,hyr⟩:=Den.int hy
  cases hsh:zlR bo with
  | true=>rw[hsh,cond_true] at h2;exact zkQ hs ho hop ex ey hxr h2
  | false =>
   rw[hsh,cond_false] at h2;obtain⟨hk,h3⟩:=zaj h2;obtain rfl:=zbg hk;exact zkP hs ho hop ex ey hxr h3
 .rename_i cs cs'
  cases ht:c.ty.at t with
  | none=>rw[ht] at h2;exact h2.elim
  | some ti =>
   rw[ht] at h2;dsimp only at h2;obtain⟨hk,h3⟩:=zaj h2;simp only[zrk] at hk;obtain⟨⟨hk1,hk2⟩,hk3⟩:=hk;have hfl:=(hT t ti ht).flat hk1;have hx':Rd g.F w (a.eval x) (.agg cs):=Den.dat' hx;have hy':Rd g.F w (a.eval y) (.agg cs'):=Den.dat' hy;generalize hv:a.eval x=v at hx';generalize hu:a.eval y=u at hy'
   cases hx' with
   | @agg vs _ p1 p0 p2 =>
    cases hy' with
    | @agg us _ q1 q0 q2 =>
     obtain⟨c1,c2,c3⟩:=zdc hk2 p1 p2;obtain⟨d1,d2,d3⟩:=zdc hk3 q1 q2;obtain⟨r,hr,hiff⟩:=zfU (P:=P) w hfl c1 c3 d1 d3
     have hiff':r=true ↔ cs=cs':=by
      rw[hiff,c2,d2];exact⟨λ h=>by rw[h],zk⟩
     have hgd:(eqGuard bo t x y (.agg vs.toArray) (.agg us.toArray)).run P w = .ok () w:=by
      cases bo <;> simp[eqGuard,hfl.guard]
     have hrun:∀ b,(binOp bo t (.agg vs.toArray) (.agg us.toArray)).run P w = .ok (.bool b) w->(execOp a.eval o).run P w = .ok (.value (.bool b)) w:=by
      intro b hb;simp[execOp,hop,hv,hu,hgd,hb]
     have hb1:(binOp .eql t (.agg vs.toArray) (.agg us.toArray)).run P w = .ok (.bool r) w:=by
      show (do pure (Value.bool (<- Op.equal t (.agg vs.toArray) (.agg us.toArray))):Sem Value).run P w=_;generalize Op.equal t (.agg vs.toArray) (.agg us.toArray)=q at hr ⊢;simp[hr]
     have hb2:(binOp .neq t (.agg vs.toArray) (.agg us.toArray)).run P w = .ok (.bool (!r)) w:=by
      show (do pure (Value.bool (!(<- Op.equal t (.agg vs.toArray) (.agg us.toArray)))):Sem Value).run P w=_;generalize Op.equal t (.agg vs.toArray) (.agg us.toArray)=q at hr ⊢;simp[hr]
     have hre:eqDs cs cs'=r:=Bool.eq_iff_iff.2 ((znU hk2 hk3).trans hiff'.symm)
     cases bo with
     | eql =>
      simp only[eqPg,ziX,zal] at h3;rw[hre] at h3;exact zah hs ho (v := .bool r) (hrun _ hb1) (.inr .kb) (by simp[SV.ids]) h3
     | neq =>
      simp only[eqPg,ziX,zal] at h3;rw[hre] at h3;exact zah hs ho (v := .bool (!r)) (hrun _ hb2) (.inr .kb) (by simp[SV.ids]) h3
     | _=>exact h3.elim
 .cases ht:c.ty.at t with
  | none=>rw[ht] at h2;exact h2.elim
  | some ti =>
   obtain⟨k,sz,by_,ag,csz,z⟩:=ti;rw[ht] at h2;obtain⟨d,hd,_,hk⟩:=(hT t _ ht).desc
   cases k with
   | bool =>
    dsimp only at h2 hk;subst hk;exact zi6 hs ho hop hd (Den.bool hx) (Den.bool hy) h2
   | _=>exact h2.elim
 .cases ht:c.ty.at t with
  | none=>rw[ht] at h2;exact h2.elim
  | some ti =>
   obtain⟨k,sz,by_,ag,csz,z⟩:=ti;rw[ht] at h2;obtain⟨d,hd,_,hk⟩:=(hT t _ ht).desc
   cases k with
   | ptr=>exact zbG hs ho hop hd hk (by
    rcases hx with hx|hx
    .cases hx
    .generalize a.eval x=v at hx;cases hx;exact⟨some _,rfl,rfl⟩) (Den.nilp hy) h2
   | _=>exact h2.elim
 .cases ht:c.ty.at t with
  | none=>rw[ht] at h2;exact h2.elim
  | some ti =>
   obtain⟨k,sz,by_,ag,csz,z⟩:=ti;rw[ht] at h2;obtain⟨d,hd,_,hk⟩:=(hT t _ ht).desc
   cases k with
   | ptr=>exact zbG hs ho hop hd hk (by
    rcases hx with hx|hx
    .cases hx
    .generalize a.eval x=v at hx;cases hx;exact⟨some _,rfl,rfl⟩) (Den.nilp hy) h2
   | _=>exact h2.elim
 .cases ht:c.ty.at t with
  | none=>rw[ht] at h2;exact h2.elim
  | some ti =>
   obtain⟨k,sz,by_,ag,csz,z⟩:=ti;rw[ht] at h2;obtain⟨d,hd,_,hk⟩:=(hT t _ ht).desc
   cases k with
   | ptr=>exact zbG hs ho hop hd hk (by
    rcases hx with hx|hx
    .cases hx
    .generalize a.eval x=v at hx;cases hx;exact⟨some _,rfl,rfl⟩) (Den.nilp hy) h2
   | _=>exact h2.elim
 .rename_i q
  cases ht:c.ty.at t with
  | none=>rw[ht] at h2;exact h2.elim
  | some ti =>
   obtain⟨k,sz,by_,ag,csz,z⟩:=ti;rw[ht] at h2;obtain⟨d,hd,_,hk⟩:=(hT t _ ht).desc
   cases k with
   | ptr =>
    have hv:(a.eval x = .pointer none/\q=none) ∨ ∃ b i,a.eval x = .pointer (some b)/\q=some i:=by
     rcases hx with hx|hx
     .cases hx
     .generalize a.eval x=v at hx
      cases hx with
      | pnN=>exact .inl ⟨rfl,rfl⟩
      | pnS=>exact .inr ⟨_,_,rfl,rfl⟩
    rcases hv with ⟨hv,rfl⟩|⟨b,i,hv,rfl⟩
    .refine zbG (l:=l2) hs ho hop hd hk (⟨none,hv,rfl⟩) (Den.nilp hy) ?_
     cases bo with
     | eql=>exact h2.1 rfl
     | neq=>exact h2.1 rfl
     | _=>exact h2.elim
    .refine zbG (l:=l2) hs ho hop hd hk (⟨some b,hv,rfl⟩) (Den.nilp hy) ?_
     cases bo with
     | eql=>exact h2.2 i rfl
     | neq=>exact h2.2 i rfl
     | _=>exact h2.elim
   | _=>exact h2.elim
 .cases ht:c.ty.at t with
  | none=>rw[ht] at h2;exact h2.elim
  | some ti =>
   obtain⟨k,sz,by_,ag,csz,z⟩:=ti;rw[ht] at h2;obtain⟨d,hd,_,hk⟩:=(hT t _ ht).desc
   cases k with
   | ptr=>exact zbG hs ho hop hd hk (⟨none,Den.nilp hx,rfl⟩) (Den.nilp hy) h2
   | _=>exact h2.elim
 .cases ht:c.ty.at t with
  | none=>rw[ht] at h2;exact h2.elim
  | some ti =>
   obtain⟨k,sz,by_,ag,csz,z⟩:=ti;rw[ht] at h2;obtain⟨d,hd,_,hk⟩:=(hT t _ ht).desc
   cases k with
   | slice el es ea =>
    dsimp only at h2 hk;obtain⟨rfl,_⟩:=hk
    have hy':a.eval y = .slice none 0 0:=by
     rcases hy with hy|hy
     .cases hy
     .generalize a.eval y=v at hy;cases hy;rfl
    cases bo with
    | eql=>exact zdX hs ho hop hd hx hy' (.inl ⟨rfl,rfl⟩) h2
    | neq=>exact zdX hs ho hop hd hx hy' (.inr ⟨rfl,rfl⟩) h2
    | _=>exact h2.elim
   | _=>exact h2.elim
 .exact h2.elim
end
end Go.Vc
namespace Go.Vc
open Go.RowKit
def zgS:SV->Option Nat
 | .rs z _=>some z
 | .mp z=>some z
 | _=>none
theorem zcV {y y':MC}{x:SV}{ks:List Nat}(h:y.put ks x=some y'):zgS x=none:=by
 unfold MC.put at h
 split at h
 .obtain ⟨d,hd,_⟩:=Option.map_eq_some_iff.1 h
  cases x <;> simp[SV.toD1] at hd <;> rfl
 .rfl
 .rfl
 .cases h
def Eats (ks:List Nat)(m:Nat->Blk)(y:MC)(x:SV)(c:MC):Prop :=
 (∃ e s z l,x = .rs z l.length/\m z = .row e s l/\c = .r e s l)∨(∃ e s,x = .nil/\c = .r e s [])∨(∃ z l,x = .mp z/\m z = .mp l/\c = .m l)∨y.put ks x=some c
theorem zgT {ks:List Nat}{m:Nat->Blk}:∀ {ys:List MC} {xs:List SV} {cs:List MC} {ds:List Nat},zaw ks m ys xs=some (cs,ds) ->
  cs.length=xs.length/\ds=xs.filterMap zgS/\∀ (o:Nat) x c,xs[o]? = some x->cs[o]? = some c->∃ y,Eats ks m y x c
 | [],[],cs,ds,h=>by
  simp only[zaw,Option.some.injEq,Prod.mk.injEq] at h;obtain⟨rfl,rfl⟩:=h;exact⟨rfl,rfl,by simp⟩
 | [],_::_,cs,ds,h=>by simp[zaw] at h
 | _::_,[],cs,ds,h=>by simp[zaw] at h
 | y::ys,x::xs,cs,ds,h=>by
  simp only[zaw] at h
  cases hr:zaw ks m ys xs with
  | none=>rw[hr] at h;cases h
  | some rd =>
   obtain⟨r,ds'⟩:=rd;rw[hr] at h;obtain⟨h1,h2,h3⟩:=zgT hr
   have fin:∀ c e,Eats ks m y x c->zgS x=e->cs=c::r->ds=(match e with|some z=>z::ds'|none=>ds') ->
     cs.length=(x::xs).length/\ds=(x::xs).filterMap zgS/\∀ (o:Nat) x' c',(x::xs)[o]? = some x'->cs[o]? = some c'->∃ y,Eats ks m y x' c':=by
    rintro c e he rfl rfl rfl;refine⟨by simp[h1], ?_,λ o x' c' hx hc=>?_⟩
    .rw [List.filterMap_cons]
     cases hz:zgS x <;> simp[h2]
    .cases o with
     | zero=>simp at hx hc;subst hx hc;exact⟨y,he⟩
     | succ o=>exact h3 o x' c' (by simpa using hx) (by simpa using hc)
   dsimp only at h
   split at h
   .rename_i e s _ z n
    split at h
    .rename_i e' s' l hm
     cases hc:(Nat.beq e e'&&Nat.beq s s'&&Nat.beq n l.length) with
     | false=>rw[hc] at h;cases h
     | true =>
      rw[hc] at h;simp only[cond_true,Option.some.injEq,Prod.mk.injEq] at h;simp only[zrk] at hc;obtain⟨⟨c1,c2⟩,c3⟩:=hc;have c1:=zrh c1;have c2:=zrh c2;have c3:=zrh c3;subst c1 c2 c3;exact fin _ _ (.inl ⟨_,_,_,_,rfl,hm,rfl⟩) rfl h.1.symm h.2.symm
    .cases h
   .simp only[Option.some.injEq,Prod.mk.injEq] at h
    exact fin _ _ (.inr (.inl ⟨_,_,rfl,rfl⟩)) rfl h.1.symm h.2.symm
   .rename_i z
    split at h
    .rename_i l hm
     simp only[Option.some.injEq,Prod.mk.injEq] at h;exact fin _ _ (.inr (.inr (.inl ⟨_,_,rfl,hm,rfl⟩))) rfl h.1.symm h.2.symm
    .cases h
   .cases hp:y.put ks x with
    | none=>rw[hp] at h;cases h
    | some y' =>
     rw[hp] at h;simp only[Option.some.injEq,Prod.mk.injEq] at h;exact fin _ _ (.inr (.inr (.inr hp))) (zcV hp) h.1.symm h.2.symm
theorem zi7 {f:SV->Option Nat}:∀ {l:List SV},(l.filterMap f).Nodup->∀ (i j:Nat) x y z,l[i]? = some x->l[j]? = some y->f x=some z->f y=some z->i=j
 | [],_,i,j,x,y,z,hx,_,_,_=>by simp at hx
 | a::l,hn,i,j,x,y,z,hx,hy,h1,h2=>by
  rw[List.filterMap_cons] at hn;have mem:∀ (i:Nat) x,l[i]? = some x->f x=some z->z∈l.filterMap f:=λ i x hx h1=>List.mem_filterMap.2 ⟨x,zri hx,h1⟩
  have tl:(l.filterMap f).Nodup:=by
   cases hf:f a <;> rw[hf] at hn
   .exact hn
   .exact (List.nodup_cons.1 hn).2
  cases i with
  | zero =>
   simp at hx;subst hx
   cases j with
   | zero=>rfl
   | succ j =>
    rw[h1] at hn;exact absurd (mem j y (by simpa using hy) h2) (List.nodup_cons.1 hn).1
  | succ i =>
   cases j with
   | zero =>
    simp at hy;subst hy;rw[h2] at hn;exact absurd (mem i x (by simpa using hx) h1) (List.nodup_cons.1 hn).1
   | succ j=>rw[zi7 tl i j x y z (by simpa using hx) (by simpa using hy) h1 h2]
section
variable {P:Program} {fr:Fr} {nt:Nat} {g:Gh} {e:Nat->SV} {m:Nat->Blk} {a:Act} {w:World} {c:Ctx}
variable {o:Oper} {K:Dl->List Loc->Prop} {Q:Exit->Act->World->Prop} {l:List Loc}
theorem zkY {outs:List (Nat×Nat×Nat)}{n i o:Nat}(h:∀ x,x∈outs->x.1<n)(hi:n<=i):zaD outs i o=none:=by
 cases hz:zaD outs i o with
 | none=>rfl
 | some z =>
  obtain⟨x,hx,h1,_,_⟩:=zbK hz;have:=h x hx;omega
def dieL (ds:List Nat):List (Nat×Blk):=ds.map λ z=>(z,Blk.dead)
theorem zgU {ds:List Nat}{m:Nat->Blk}(j:Nat):mApp (dieL ds) m j=if j∈ds then .dead else m j:=by
 induction ds with
 | nil=>simp[dieL,mApp]
 | cons z ds ih =>
  show mApp ((z, .dead)::dieL ds) m j=_;rw[za,ih];by_cases h:z=j
  .subst h;simp
  .rw [if_neg h]
   by_cases h2:j∈ds
   .simp [h2]
   .simp [h2,Ne.symm h]
theorem zme {ds:List Nat}{q k:Nat}{b:Blk}(j:Nat):mApp (dieL ds++[(q, .dead),(k,b)]) m j=if j∈ds then .dead else if q=j then .dead else if k=j then b else m j:=by
 have app:∀ (l r:List (Nat×Blk)) (m:Nat->Blk) (j:Nat),mApp (l++r) m j=mApp l (mApp r m) j:=by
  intro l
  induction l with
  | nil=>intro r m j;rfl
  | cons x l ih=>obtain⟨z,b'⟩:=x;intro r m j;rw[List.cons_append,za,za,ih]
 rw[app,zgU]
 split
 .rfl
 .rw [za,za];rfl
theorem SR.growF {k q : Nat}{ks : List Nat}{es : List (D × List MC)}{outs : List (Nat × Nat × Nat)}{arr : Array MapEntry}{cl : Nat}{M : List Nat}{I : Nat → Nat → Option (Nat × Nat)}{sh : List MC}{xs : List SV}{cs : List MC}{ds : List Nat}{vs : List Value}{t : TypeId}{d : D}{kv : Value}{w' : World}
    (hs : SR fr nt g e m a w) (hmk : m k = .fam ks es outs) (hmq : m q = .box xs) (hfm : FamAt g w k ks es outs arr cl M I) (hvs : w.heap[g.β q]? = some (.cells vs.toArray t (0, 0))) (hvl : vs.length = xs.length)
    (hvd : ∀ (i : Nat) u x, vs[i]? = some u → xs[i]? = some x → u.oneCell' = true ∧ Den g w u x) (heat : zaw ks m sh xs = some (cs, ds)) (hdk : ∀ z, z ∈ ds → z ≠ k ∧ z ≠ q) (hqk : q ≠ k) (hnd : ds.Nodup)
    (hw : ∀ i, i ≠ g.β k → w'.heap[i]? = w.heap[i]?) (hw0 : w'.heap[g.β k]? = some (.map (arr.push ⟨kv, .pointer (some ⟨g.β q, 0, none⟩), cl⟩) (cl + 1))) (hsz : w'.heap.size = w.heap.size) (hos : w'.os = w.os) (ht : w'.tape = w.tape) (hout : w'.output = w.output)
    (hkv : Rd g.F w kv d) (hnew : ∀ x, x ∈ arr.toList → x.key ≠ kv) :
    ∃ g', SR fr nt g' e (mApp (dieL ds ++ [(q, .dead), (k, .fam ks (es ++ [(d, cs)]) outs)]) m) a w' := by
  obtain ⟨hcl, hds, hcell⟩ := zgT heat
  have alk : zac g m k := by simp [zac, hmk]
  have alq : zac g m q := by simp [zac, hmq]
  have eaten : ∀ (o : Nat) x z, xs[o]? = some x → zgS x = some z → z ∈ ds := fun o x z hx hz => by rw [hds]; exact List.mem_filterMap.2 ⟨x, zri hx, hz⟩
  -- the new place of each cell
  let J : Nat → Option (Nat × Nat) := fun o => match xs[o]? with
    | some (.rs z _) => if g.N z = true then none else some (g.β z, g.C z)
    | some (.mp z) => some (g.β z, 0)
    | _ => none
  have cellX : ∀ (o : Nat) x, xs[o]? = some x → ∃ c y, cs[o]? = some c ∧ Eats ks m y x c := fun o x hx => by
    have ho : o < cs.length := by rw [hcl]; exact (zrf.1 hx).1
    obtain ⟨y, hy⟩ := hcell o x _ hx (zrg ho);exact ⟨_, y, zrg ho, hy⟩
  have eatsRow : ∀ (o : Nat) z n, xs[o]? = some (.rs z n) → ∃ e s l, m z = .row e s l ∧ n = l.length := fun o z n hx => by
    obtain ⟨c, y, _, h⟩ := cellX o _ hx
    rcases h with ⟨e, s, z', l, h1, h2, _⟩ | ⟨_, _, h1, _⟩ | ⟨_, _, h1, _⟩ | h1
    · cases h1; exact ⟨e, s, l, h2, rfl⟩
    · cases h1
    · cases h1
    · have := zcV h1; cases this
  have eatsMap : ∀ (o : Nat) z, xs[o]? = some (.mp z) → ∃ l, m z = .mp l := fun o z hx => by
    obtain ⟨c, y, _, h⟩ := cellX o _ hx
    rcases h with ⟨_, _, _, _, h1, _⟩ | ⟨_, _, h1, _⟩ | ⟨z', l, h1, h2, _⟩ | h1
    · cases h1
    · cases h1
    · cases h1; exact ⟨l, h2⟩
    · have := zcV h1; cases this
  have Jspec : ∀ o b c', J o = some (b, c') → ∃ z x, xs[o]? = some x ∧ zgS x = some z ∧ z ∈ ds ∧ b = g.β z ∧ zac g m z := by
    intro o b c' h;simp only [J] at h
    split at h
    · rename_i z n hx
      split at h
      · cases h
      · rename_i hN
        cases h
        obtain ⟨e', s', l', hm, _⟩ := eatsRow o z n hx;exact ⟨z, _, hx, rfl, eaten o _ z hx rfl, rfl, by simp [zac, hm]; simpa using hN⟩
    · rename_i z hx
      cases h
      obtain ⟨l', hm⟩ := eatsMap o z hx;exact ⟨z, _, hx, rfl, eaten o _ z hx rfl, rfl, by simp [zac, hm]⟩
    · cases h
  let g' : Gh := { g with M := fun j => if j = k then M ++ [g.β q] else g.M j, X := fun j b => g.X j b ∨ (j = k ∧ (b = g.β q ∨ ∃ o c', J o = some (b, c'))) }
  have hpre : ∀ j, g.M j <+: g'.M j := fun j => by
    by_cases h : j = k
    · subst h
      show g.M j <+: if j = j then M ++ [g.β q] else g.M j;rw [if_pos rfl, hfm.Mk]; exact List.prefix_append _ _
    · show g.M j <+: if j = k then M ++ [g.β q] else g.M j
      rw [if_neg h]; exact List.prefix_rfl
  have sim : ∀ j, g'.β j = g.β j ∧ g'.C j = g.C j ∧ g'.N j = g.N j ∧ g.M j <+: g'.M j := fun j => ⟨rfl, rfl, rfl, hpre j⟩;have hMne : ∀ j, j ≠ k → g'.M j = g.M j := fun j h => if_neg h;have hF : ∀ b, g.F b → w'.heap[b]? = w.heap[b]? := fun b hb => hw b fun e => hs.mem.hot k alk (e ▸ hb);have new : ∀ j, mApp (dieL ds ++ [(q, .dead), (k, .fam ks (es ++ [(d, cs)]) outs)]) m j = if j ∈ ds then .dead else if q = j then .dead else if k = j then .fam ks (es ++ [(d, cs)]) outs else m j := fun j => zme j;have kds : k ∉ ds := fun h => (hdk k h).1 rfl
  have newk : mApp (dieL ds ++ [(q, .dead), (k, .fam ks (es ++ [(d, cs)]) outs)]) m k = .fam ks (es ++ [(d, cs)]) outs := by rw [new, if_neg kds, if_neg hqk, if_pos rfl]
  have alv : ∀ j, zac g' (mApp (dieL ds ++ [(q, .dead), (k, .fam ks (es ++ [(d, cs)]) outs)]) m) j → zac g m j ∧ j ≠ q ∧ j ∉ ds := by
    intro j hj;unfold zac at hj;rw [new] at hj;by_cases h1 : j ∈ ds
    · rw [if_pos h1] at hj; exact hj.elim
    · rw [if_neg h1] at hj
      by_cases h2 : q = j
      · rw [if_pos h2] at hj; exact hj.elim
      · rw [if_neg h2] at hj
        refine ⟨?_, Ne.symm h2, h1⟩;by_cases h3 : k = j
        · subst h3; exact alk
        · rw [if_neg h3] at hj; exact hj
  have born : ∀ j, m j ≠ .unborn → mApp (dieL ds ++ [(q, .dead), (k, .fam ks (es ++ [(d, cs)]) outs)]) m j ≠ .unborn := by
    intro j hj;rw [new]
    split
    · simp
    · split
      · simp
      · split
        · simp
        · exact hj
  have bqM : g.β q ∉ M := fun h => (hs.mem.own k _ alk (hfm.own _ h)).2.2.1 q alq rfl
  have nk : (es ++ [(d, cs)])[es.length]? = some (d, cs) := by simp
  let I' : Nat → Nat → Option (Nat × Nat) := fun i => if i = es.length then J else I i
  have hfam : FamAt g' w' k ks (es ++ [(d, cs)]) outs (arr.push ⟨kv, .pointer (some ⟨g.β q, 0, none⟩), cl⟩) (cl + 1) (M ++ [g.β q]) I' := by
    have hlen := hfm.len;have hsize := hfm.size
    have Mget : ∀ i, i < es.length → (M ++ [g.β q]).getD i 0 = M.getD i 0 := fun i hi => by
      rw [List.getD_eq_getElem?_getD, List.getD_eq_getElem?_getD, List.getElem?_append_left (by omega)]
    have Mlast : (M ++ [g.β q]).getD es.length 0 = g.β q := by rw [← hlen]; simp
    refine ⟨hw0, ?_, by simp [hlen], by simp [hsize], ?_, ?_, fun b hb => ?_, fun i x p hx hp => ?_, fun i p hp => ?_, fun i o b c' h => ?_, fun i o i' o' b c1 c2 h1 h2 => ?_, fun i o b c' h => ?_, fun x hx => by have := hfm.olt x hx; simp; omega⟩
    · show (if k = k then M ++ [g.β q] else g.M k) = _
      rw [if_pos rfl]
    · exact MapKept.stamped_push hfm.keys hnew
    · rw [List.nodup_append]
      exact ⟨hfm.nodup, by simp, fun u hu v hv h => by simp at hv; subst hv; subst h; exact bqM hu⟩
    · rcases List.mem_append.1 hb with hb | hb
      · exact .inl (hfm.own b hb)
      · simp at hb; exact .inr ⟨rfl, .inl hb⟩
    · by_cases hi : i < es.length
      · rw [Array.getElem?_push_lt (by omega)] at hx
        rw [List.getElem?_append_left hi] at hp;obtain ⟨h1, h2⟩ := hfm.ent i x p (by rw [Array.getElem?_eq_getElem (by omega)]; exact hx) hp;exact ⟨h1.mono (fun _ h => h) hF, by rw [Mget i hi]; exact h2⟩
      · have : i = es.length := by
          have := (zrf.1 hp).1;simp at this; omega
        subst this;rw [nk] at hp;rw [← hsize] at hx;simp at hx
        cases hp
        subst hx;exact ⟨hkv.mono (fun _ h => h) hF, by rw [Mlast]⟩
    · by_cases hi : i < es.length
      · rw [List.getElem?_append_left hi] at hp
        obtain ⟨vs', t', h1, h2, h3⟩ := hfm.mem i p hp
        have hin : M.getD i 0 ∈ M := by simp [show i < M.length by omega]
        refine ⟨vs', t', ?_, h2, fun o u x hu hx => ⟨(h3 o u x hu hx).1, ?_⟩⟩
        · rw [Mget i hi, hw _ fun e => (hs.mem.own k _ alk (hfm.own _ hin)).2.2.1 k alk e.symm]; exact h1
        · have hI : I' i = I i := if_neg (by omega)
          have := (h3 o u x hu hx).2.mono (g' := g') (w' := w') (fun _ h => h) hF (fun z _ => sim z) fun b c' hI hX => ⟨.inl hX, hw b fun e => (hs.mem.own k b alk hX).2.2.1 k alk e.symm⟩
          cases x with
          | d _ => exact this
          | p k' tt => cases tt <;> exact this
          | r e' s' l' =>
            simp only [CellAt] at this ⊢
            cases hz : zaD outs i o <;> rw [hz] at this
            · rw [hI]; exact this
            · exact this
          | m l' =>
            simp only [CellAt] at this ⊢
            cases hz : zaD outs i o <;> rw [hz] at this
            · rw [hI]; exact this
            · exact this
      · have : i = es.length := by
          have := (zrf.1 hp).1;simp at this; omega
        subst this;rw [nk] at hp
        cases hp
        refine ⟨vs, t, by rw [Mlast, hw _ fun e => hqk (hs.mem.inj q k alq alk e)]; exact hvs, by rw [hvl, hcl], fun o u c0 hu hc0 => ?_⟩
        have ho : o < xs.length := by rw [← hvl]; exact (zrf.1 hu).1
        obtain ⟨x, hx⟩ : ∃ x, xs[o]? = some x := ⟨xs[o], zrg ho⟩;obtain ⟨h1, h2⟩ := hvd o u x hu hx;refine ⟨h1, ?_⟩;have hI : I' es.length = J := if_pos rfl;have hno : zaD outs es.length o = none := zkY hfm.olt (Nat.le_refl _);obtain ⟨c1, y, hc1, he⟩ := cellX o x hx;rw [hc0] at hc1
        cases hc1
        rcases he with ⟨e', s', z, l', rfl, hmz, rfl⟩ | ⟨e', s', rfl, rfl⟩ | ⟨z, l', rfl, hmz, rfl⟩ | hp
        · simp only [CellAt]
          rw [hno, hI]
          have hJ : J o = if g.N z = true then none else some (g.β z, g.C z) := by simp only [J, hx]
          have hbz := hs.mem.blk z;rw [hmz] at hbz;show InRow g' w' k e' s' J o l' u;unfold InRow;rw [hJ]
          cases h2 with
          | rs n1 n2 n3 =>
            rcases hbz with ⟨hN, hl⟩ | ⟨hN, hr⟩
            · rw [if_pos hN]
              refine ⟨hl, ?_⟩;simp [Gh.base, hN]
            · have hN' : ¬ g.N z = true := by simp [hN]
              rw [if_neg hN'];refine ⟨by simp [Gh.base, hN], .inr ⟨rfl, .inr ⟨o, g.C z, by rw [hJ, if_neg hN']⟩⟩, ?_⟩;refine hr.mono (fun _ h => h) hF (hw _ fun e => ?_);exact (hdk z (eaten o _ z hx rfl)).1 (hs.mem.inj z k (by simp [zac, hmz, hN]) alk e)
        · simp only [CellAt]
          rw [hno, hI]
          have hJ : J o = none := by simp only [J, hx]
          show InRow g' w' k e' s' J o [] u;unfold InRow;rw [hJ]
          cases h2
          exact ⟨rfl, rfl⟩
        · simp only [CellAt]
          rw [hno, hI]
          have hJ : J o = some (g.β z, 0) := by simp only [J, hx]
          have hbz := hs.mem.blk z;rw [hmz] at hbz
          cases h2
          refine ⟨g.β z, hJ, rfl, .inr ⟨rfl, .inr ⟨o, 0, hJ⟩⟩, MapAt.mono hbz (fun _ h => h) hF (hw _ fun e => ?_)⟩;exact (hdk z (eaten o _ z hx rfl)).1 (hs.mem.inj z k (by simp [zac, hmz]) alk e)
        · exact zgO hp (h2.mono (fun _ h => h) hF fun z _ => sim z)
    · intro hb
      by_cases hi : i = es.length
      · have h : J o = some (b, c') := by simpa only [I', hi, if_true] using h
        obtain ⟨z, x, hx, hz, hzd, rfl, hza⟩ := Jspec o b c' h
        rcases List.mem_append.1 hb with hb | hb
        · exact (hs.mem.own k _ alk (hfm.own _ hb)).2.2.1 z hza rfl
        · simp at hb; exact (hdk z hzd).2 (hs.mem.inj z q hza alq hb)
      · have h : I i o = some (b, c') := by simpa only [I', hi, if_false] using h
        rcases List.mem_append.1 hb with hb | hb
        · exact hfm.sep i o b c' h hb
        · simp at hb; exact (hs.mem.own k _ alk (hfm.iown i o b c' h)).2.2.1 q alq hb.symm
    · by_cases hi : i = es.length
      · have h1 : J o = some (b, c1) := by simpa only [I', hi, if_true] using h1
        obtain ⟨z, x, hx, hz, hzd, rfl, hza⟩ := Jspec o b c1 h1;by_cases hi' : i' = es.length
        · have h2 : J o' = some (g.β z, c2) := by simpa only [I', hi', if_true] using h2
          obtain ⟨z', x', hx', hz', hzd', hbb, hza'⟩ := Jspec o' _ c2 h2;have : z = z' := hs.mem.inj z z' hza hza' hbb;subst this;exact ⟨by rw [hi, hi'], zi7 (by rw [← hds]; exact hnd) o o' x x' z hx hx' hz hz'⟩
        · have h2 : I i' o' = some (g.β z, c2) := by simpa only [I', hi', if_false] using h2
          exact absurd rfl ((hs.mem.own k _ alk (hfm.iown i' o' _ c2 h2)).2.2.1 z hza)
      · have h1 : I i o = some (b, c1) := by simpa only [I', hi, if_false] using h1
        by_cases hi' : i' = es.length
        · have h2 : J o' = some (b, c2) := by simpa only [I', hi', if_true] using h2
          obtain ⟨z', x', hx', hz', hzd', rfl, hza'⟩ := Jspec o' _ c2 h2;exact absurd rfl ((hs.mem.own k _ alk (hfm.iown i o _ c1 h1)).2.2.1 z' hza')
        · have h2 : I i' o' = some (b, c2) := by simpa only [I', hi', if_false] using h2
          exact hfm.inj i o i' o' b c1 c2 h1 h2
    · by_cases hi : i = es.length
      · have h : J o = some (b, c') := by simpa only [I', hi, if_true] using h
        exact .inr ⟨rfl, .inr ⟨o, c', h⟩⟩
      · have h : I i o = some (b, c') := by simpa only [I', hi, if_false] using h
        exact .inl (hfm.iown i o b c' h)
  -- what is owned
  have own' : ∀ j b, zac g' (mApp (dieL ds ++ [(q, .dead), (k, .fam ks (es ++ [(d, cs)]) outs)]) m) j → g'.X j b → (g.X j b ∧ zac g m j) ∨ (j = k ∧ ∃ z, b = g.β z ∧ zac g m z ∧ (z = q ∨ z ∈ ds)) := by
    intro j b hj hx
    rcases hx with hx | ⟨rfl, hb | ⟨o, c', h⟩⟩
    · exact .inl ⟨hx, (alv j hj).1⟩
    · exact .inr ⟨rfl, q, hb, alq, .inl rfl⟩
    · obtain ⟨z, x, _, _, hzd, hb, hza⟩ := Jspec o b c' h
      exact .inr ⟨rfl, z, hb, hza, .inr hzd⟩
  refine ⟨g', { mem := ⟨fun j => ?_, fun i j hi hj => hs.mem.inj i j (alv i hi).1 (alv j hj).1, fun i hi => hs.mem.hot i (alv i hi).1, fun b hb => by rw [hsz]; exact hs.mem.lt b hb, fun j b hj hx => ?_⟩
                env := fun t => ?_
                bornE := fun t i hi => born i (hs.bornE t i hi)
                bornM := fun b i hi => ?_
                os := hos.trans hs.os
                tape := ht.trans hs.tape
                output := hout.trans hs.output
                size := by rw [hsz]; exact hs.size
                keep := fun b hb => ⟨(hs.keep b hb).1, (hw b fun e => (hs.safe k alk).1 (e ▸ hb)).trans (hs.keep b hb).2⟩
                safe := fun j hj => hs.safe j (alv j hj).1
                safeX := fun j b hj hx => ?_
                given := hs.given
                frz := hs.frz
                defers := hs.defers
                tmps := hs.tmps
                pin := fun j hj => ?_ }⟩
  · rw [new]
    split
    · trivial
    · split
      · trivial
      · split
        · rename_i h; subst h; exact ⟨_, _, _, _, hfam⟩
        · rename_i h1 h2 h3
          have hb := hs.mem.blk j;by_cases hbe : g.β j = g.β k
          · cases hm : m j with
            | unborn => trivial
            | dead => trivial
            | row e' s' es' =>
              rw [hm] at hb
              rcases hb with hb | ⟨hb, _⟩
              · exact .inl hb
              · exact absurd (hs.mem.inj k j alk (by simp [zac, hm, hb]) hbe.symm) h3
            | sn e' s' ea' o' es' =>
              rw [hm] at hb
              rcases hb with hb | ⟨cur', I', hb⟩
              · exact .inl hb
              · exact absurd (hs.mem.inj k j alk (by simp [zac, hm, hb.nn]) hbe.symm) h3
            | fz e' s' es' =>
              rw [hm] at hb
              rcases hb with hb | ⟨_, hb, _⟩
              · exact .inl hb
              · exact absurd (hbe ▸ hb) (hs.mem.hot k alk)
            | _ => exact absurd (hs.mem.inj k j alk (by simp [zac, hm]) hbe.symm) h3
          · by_cases ha : zac g m j
            · exact hb.mono (fun _ h => h) hF (sim j) (hw _ hbe) (fun i _ => sim i) (fun b hx => ⟨.inl hx, hw b fun e => (hs.mem.own j b ha hx).2.2.1 k alk e.symm⟩) (hMne j (Ne.symm h3))
            · exact hb.mono0 ha (fun _ h => h) hF (sim j) (hw _ hbe) fun i _ => sim i
  · rcases own' j b hj hx with ⟨hx, hja⟩ | ⟨rfl, z, rfl, hza, hz⟩
    · obtain ⟨x1, x2, x3, x4⟩ := hs.mem.own j b hja hx
      refine ⟨by rw [hsz]; exact x1, x2, fun i hi => x3 i (alv i hi).1, fun i hi hxi => ?_⟩
      rcases own' i b hi hxi with ⟨hxi, hia⟩ | ⟨rfl, z, rfl, hza, _⟩
      · exact x4 i hia hxi
      · exact absurd rfl (x3 z hza)
    · refine ⟨by rw [hsz]; exact zaT hs.mem hza, hs.mem.hot z hza, fun i hi he => ?_, fun i hi hxi => ?_⟩
      · have := hs.mem.inj i z (alv i hi).1 hza he
        subst this
        rcases hz with hz | hz
        · exact (alv i hi).2.1 hz
        · exact (alv i hi).2.2 hz
      · rcases own' i _ hi hxi with ⟨hxi, hia⟩ | ⟨rfl, _⟩
        · exact absurd rfl ((hs.mem.own i _ hia hxi).2.2.1 z hza)
        · rfl
  · rcases hs.env t with h | ⟨v, h1, h2⟩
    · exact .inl h
    · exact .inr ⟨v, h1, h2.mono (fun _ h => h) hF fun z _ => sim z⟩
  · refine born i ?_
    rw [new] at hi
    split at hi
    · simp [Blk.ids] at hi
    · split at hi
      · simp [Blk.ids] at hi
      · split at hi
        · exact hs.bornM k i (by rw [hmk]; simpa [Blk.ids] using hi)
        · exact hs.bornM b i hi
  · rcases own' j b hj hx with ⟨hx, hja⟩ | ⟨rfl, z, rfl, hza, _⟩
    · exact hs.safeX j b hja hx
    · exact hs.safe z hza
  · obtain ⟨p1, p2, p3, p4⟩ := hs.pin j hj
    exact ⟨p1, p2, p3, p4.trans (hpre j)⟩
end
end Go.Vc
namespace Go.Vc
open Go.RowKit
section
variable {P:Program} {fr:Fr} {nt:Nat} {g:Gh} {e:Nat->SV} {m:Nat->Blk} {a:Act} {w:World} {c:Ctx} {o:Oper} {K:Dl->List Loc->Prop} {Q:Exit->Act->World->Prop} {l:List Loc}
theorem zeh {t:TypeId}{ti:TI}(hT:TIok P t ti)(hk:KeyT P t){d:D}(hd:keyD ti d=true){F:Nat->Prop}{v:Value}(hr:Rd F w v d):∃ l,keyOf P t v=some l:=by
 obtain⟨dd,hu,hag,hdesc⟩:=hT.desc
 have comp:∀ cs:List D,zcQ ti.zero cs=true->d = .agg cs->zcS P t=some true->(∃ fs,P.underlying t=some (.struct fs))∨(∃ n el,P.underlying t=some (.array n el))->∃ l,keyOf P t v=some l:=by
  intro cs hl he hA hsa;subst he;obtain⟨zs,hz⟩:=hk.2 hA;obtain⟨i,z,q1,q2,q3⟩:=hz.zero;obtain⟨i',z',r1,_,_,r4,r5,_⟩:=hT.info;rw[q1] at r1;cases r1;rw[q2] at r4;cases r4
  have e0:ti.zero=zs:=by rw[<- r5,q3]
  rw[e0] at hl
  cases hr with
  | @agg vs _ p1 p0 p2 =>
   obtain⟨c1,c2,c3⟩:=zdc hl p1 p2;have hlits:=hz.lits (P.types.size-1) vs c1 c3;rw[show P.types.size-1+2=P.types.size+1 by have:=hz.big;omega] at hlits
   have hf:(Value.agg vs.toArray).formed P t=true:=by
    rcases hsa with ⟨fs,h⟩|⟨n,el,h⟩ <;> simp[Value.formed,h,hz.size,c1]
   refine⟨.string (keyBytes (vs.map litV)), ?_⟩;unfold keyOf
   rcases hsa with ⟨fs,h⟩|⟨n,el,h⟩ <;> rw[h] <;> simp[hz.key,hf,Value.cells,hlits]
 unfold keyD at hd
 cases hkk:ti.k with
 | int kd =>
  rw[hkk] at hd hdesc;simp only at hdesc;subst hdesc
  match d,hd with
  | .v (.int k' n),hd =>
   have:=zbg hd;subst this
   cases hr with
   | v hp=>exact⟨_,Maps.keyOf_int_mk hu (by simp[Lit.wf,hp.1,hp.2])⟩
 | bool =>
  rw[hkk] at hd hdesc;simp only at hdesc;subst hdesc
  match d,hd with
  | .v (.bool b),hd =>
   cases hr with
   | v hp=>exact⟨_,Maps.keyOf_bool_mk hu b⟩
 | str =>
  rw[hkk] at hd hdesc;simp only at hdesc;subst hdesc
  match d,hd with
  | .v (.string s),hd =>
   cases hr with
   | v hp=>exact⟨.string s.data.toList,by simp[keyOf,hu,mapKey,show s.size<=maxLen from hp]⟩
 | struct fs =>
  rw[hkk] at hd hdesc;simp only at hdesc;obtain⟨fields,h1,_⟩:=hdesc
  match d,hd with
  | .agg cs,hd=>exact comp cs hd rfl (by simp[zcS,hu,h1]) (.inl ⟨fields,by rw[hu,h1]⟩)
 | arr n es ag =>
  rw[hkk] at hd hdesc;simp only at hdesc;obtain⟨el,h1,_⟩:=hdesc
  match d,hd with
  | .agg cs,hd=>exact comp cs hd rfl (by simp[zcS,hu,h1]) (.inr ⟨n,el,by rw[hu,h1]⟩)
 | _=>rw[hkk] at hd;cases hd
def keyV:D->Value
 | .v x=>x
 | .agg cs=>.agg (cs.map λ d=>match d with | .v x=>x|_=>undef).toArray
 | _=>undef
theorem zmf {ti:TI}{d:D}(hd:keyD ti d=true){F:Nat->Prop}{v:Value}(hr:Rd F w v d):v=keyV d/\((∃ x,d = .v x) ∨ ∃ vs:List Value,d = .agg (vs.map D.v)):=by
 have comp:∀ cs:List D,zcQ ti.zero cs=true->d = .agg cs->v=keyV d/\((∃ x,d = .v x) ∨ ∃ vs:List Value,d = .agg (vs.map D.v)):=by
  intro cs hl he;subst he
  cases hr with
  | @agg vs _ p1 p0 p2 =>
   obtain⟨c1,c2,c3⟩:=zdc hl p1 p2;subst c2;refine⟨?_, .inr ⟨vs,rfl⟩⟩;simp[keyV,Function.comp_def]
 unfold keyD at hd
 split at hd
 .split at hd
  .cases hr with|v hp=>exact⟨rfl, .inl ⟨_,rfl⟩⟩
  .cases hd
 .split at hd
  .cases hr with|v hp=>exact⟨rfl, .inl ⟨_,rfl⟩⟩
  .cases hd
 .split at hd
  .cases hr with|v hp=>exact⟨rfl, .inl ⟨_,rfl⟩⟩
  .cases hd
 .split at hd
  .exact comp _ hd rfl
  .cases hd
 .split at hd
  .exact comp _ hd rfl
  .cases hd
 .cases hd
theorem zgV {ti:TI}{d d':D}(hd:keyD ti d=true)(hd':keyD ti d'=true){F:Nat->Prop}{v v':Value}(hr:Rd F w v d)(hr':Rd F w v' d'):v=v' ↔ d=d':=by
 obtain⟨h1,h2⟩:=zmf hd hr;obtain⟨h3,h4⟩:=zmf hd' hr';refine⟨λ h=>?_,λ h=>by rw[h1,h3,h]⟩;rw[h1,h3] at h
 have sep:∀ (x:Value) (vs:List Value),keyD ti (.v x)=true->keyD ti (.agg (vs.map D.v))=true->False:=by
  intro x vs a b;unfold keyD at a b
  cases hk:ti.k <;> rw[hk] at a b <;> simp at a b
 rcases h2 with ⟨x,rfl⟩|⟨vs,rfl⟩ <;> rcases h4 with ⟨y,rfl⟩|⟨us,rfl⟩
 .simp only[keyV] at h;rw[h]
 .exact (sep _ _ hd hd').elim
 .exact (sep _ _ hd' hd).elim
 .simp only[keyV,List.map_map,Function.comp_def,List.map_id',Value.agg.injEq] at h
  have:=congrArg Array.toList h;simp at this;rw[this]
theorem zga {z d:D}:∀ {es:List (D×D)},(∀ p,p∈es->p.1≠d)->zgC z d es=(z,false)
 | [],_=>rfl
 | p::r,h=>by
  unfold zgC;rw[if_neg (h p (by simp)),zga λ q hq=>h q (by simp[hq])]
theorem zgb {z d:D}:∀ {es:List (D×D)} {j:Nat} {p:D×D},es[j]? = some p->p.1=d->(∀ (i:Nat) q,i<j->es[i]? = some q->q.1≠d)->zgC z d es=(p.2,true)
 | [],j,p,h,_,_=>by simp at h
 | x::r,0,p,h,he,_=>by
  simp at h;subst h;unfold zgC;rw[if_pos he]
 | x::r,j+1,p,h,he,hb=>by
  unfold zgC;rw[if_neg (hb 0 x (by omega) rfl)];exact zgb (by simpa using h) he λ i q hi hq=>hb (i+1) q (by omega) (by simpa using hq)
theorem zh4 {d v:D}:∀ {es:List (D×D)},(∀ p,p∈es->p.1≠d)->setD d v es=es++[(d,v)]
 | [],_=>rfl
 | p::r,h=>by
  unfold setD;rw[if_neg (h p (by simp)),zh4 λ q hq=>h q (by simp[hq])];rfl
theorem zh5 {d v:D}:∀ {es:List (D×D)} {j:Nat} {p:D×D},es[j]? = some p->p.1=d->(∀ (i:Nat) q,i<j->es[i]? = some q->q.1≠d)->setD d v es=es.set j (d,v)
 | [],j,p,h,_,_=>by simp at h
 | x::r,0,p,h,he,_=>by
  simp at h;subst h;unfold setD;rw[if_pos he];rfl
 | x::r,j+1,p,h,he,hb=>by
  unfold setD;rw[if_neg (hb 0 x (by omega) rfl),zh5 (j:=j) (by simpa using h) he λ i q hi hq=>hb (i+1) q (by omega) (by simpa using hq)];rfl
theorem zbX {t:TypeId}{tk te:TI}(hT:TyOK P c.ty)(h:zhM c t=some (tk,te)):∃ kt et,P.underlying t=some (.map kt et)/\KeyT P kt/\TIok P kt tk/\TIok P et te:=by
 unfold zhM at h
 split at h
 .rename_i kt et s b ag cz zs ms sf pe ht
  split at h
  .rename_i tk' te' h1 h2
   cases h
   obtain⟨dd,hu,_,hd⟩:=(hT t _ ht).desc;simp only at hd;subst hd;exact⟨kt,et,hu,(hT t _ ht).keyt kt et rfl,hT _ _ h1,hT _ _ h2⟩
  .cases h
 .cases h
theorem Den.mp' {v:Value}{k:Nat}(h:DenO g w v (.mp k)):v = .map (some (g.β k)):=by
 rcases h with h|h
 .cases h
 .cases h;rfl
theorem zeO {α:Type}{kt:TypeId}{tk:TI}(hk:KeyT P kt)(hT:TIok P kt tk){arr:Array MapEntry}{es:List (D×α)}(hl:arr.size=es.length)(hpw:arr.toList.Pairwise λ x y=>x.key≠y.key)
  {F:Nat->Prop} (hr:∀ (i:Nat) x p,arr[i]? = some x->es[i]? = some p->Rd F w x.key p.1) (hes:∀ p,p∈es->keyD tk p.1=true) {d:D} (hd:keyD tk d=true) {v:Value} (hv:Rd F w v d) :
  ((Instr.findKey kt v arr.toList).run P w = .ok none w/\(∀ x,x∈arr.toList->x.key≠v)/\∀ p,p∈es->p.1≠d) ∨
   ∃ j x p,(Instr.findKey kt v arr.toList).run P w = .ok (some (j,x.val)) w/\arr[j]? = some x/\x.key=v/\es[j]? = some p/\p.1=d/\∀ (i:Nat) q,i≠j->es[i]? = some q->q.1≠d:=by
 obtain⟨lv,hlv⟩:=zeh hT hk hd hv
 have at_:∀ (i:Nat) x,arr[i]? = some x->∃ p,es[i]? = some p/\Rd F w x.key p.1/\keyD tk p.1=true:=by
  intro i x hx
  have hi:i<es.length:=by rw[<- hl];exact(Array.getElem?_eq_some_iff.1 hx).1
  exact⟨es[i],zrg hi,hr i x _ hx (zrg hi),hes _ (List.getElem_mem hi)⟩
 have to_:∀ (i:Nat) p,es[i]? = some p->∃ x,arr[i]? = some x:=by
  intro i p hp
  have hi:i<arr.size:=by rw[hl];exact(zrf.1 hp).1
  exact⟨arr[i],Array.getElem?_eq_getElem hi⟩
 have hall:∀ x,x∈arr.toList->∃ l,keyOf P kt x.key=some l:=by
  intro x hx;obtain⟨i,hi⟩:=List.mem_iff_getElem?.1 hx;obtain⟨p,_,h2,h3⟩:=at_ i x (by simpa using hi);exact zeh hT hk h3 h2
 rcases hk.1.find w hlv arr.toList hall with ⟨h1,h2⟩|⟨j,x,h1,h2,h3⟩
 .refine .inl ⟨h1,h2,λ p hp he=>?_⟩
  obtain⟨i,hi⟩:=List.mem_iff_getElem?.1 hp;obtain⟨x,hx⟩:=to_ i p hi;have:=(zgV (hes p hp) hd (hr i x p hx hi) hv).2 he;exact h2 x (List.mem_iff_getElem?.2 ⟨i,by simpa using hx⟩) this
 .have hxj:arr[j]? = some x:=by simpa using h2
  obtain⟨p,p1,p2,p3⟩:=at_ j x hxj;refine .inr ⟨j,x,p,h1,hxj,h3,p1,(zgV p3 hd p2 hv).1 h3,λ i q hij hq he=>?_⟩;obtain⟨y,hy⟩:=to_ i q hq;have hyv:=(zgV (hes q (zri hq)) hd (hr i y q hy hq) hv).2 he
  have hi':i<arr.toList.length:=by simpa using (Array.getElem?_eq_some_iff.1 hy).1
  have hj':j<arr.toList.length:=by simpa using (Array.getElem?_eq_some_iff.1 hxj).1
  have ey:arr.toList[i]=y:=by
   have:=(Array.getElem?_eq_some_iff.1 hy).2;simpa using this
  have ex:arr.toList[j]=x:=by
   have:=(Array.getElem?_eq_some_iff.1 hxj).2;simpa using this
  rcases Nat.lt_or_gt_of_ne hij with hlt|hlt
  .exact (List.pairwise_iff_getElem.1 hpw i j hi' hj' hlt) (by rw[ey,ex,hyv,h3])
  .exact (List.pairwise_iff_getElem.1 hpw j i hj' hi' hlt) (by rw[ey,ex,hyv,h3])
theorem zb3 {t:TypeId}{ti:TI}{z:D}(hT:TIok P t ti)(h:zb0 ti=some z)(F:Nat->Prop)(hF:g.F=F):∃ v,(zeroValue t).run P w = .ok v w/\Rd F w v z:=by
 subst hF;obtain⟨i,v,hi,_,_,hz,hc,_⟩:=hT.info;have hza:=hT.zag i v hi hz;refine⟨v,by simp[zeroValue,typeInfo,hi,hz], ?_⟩;unfold zb0 at h
 cases hag:ti.agg with
 | true =>
  rw[hag,cond_true] at h;rw[hag] at hza
  match v,hza with
  | .agg cs,_ =>
   have he:cs.toList=ti.zero:=hc
   split at h
   .rename_i d hd
    cases hall:(ti.zero.map SV.ofV1).all SV.one with
    | false=>rw[hall] at h;cases h
    | true =>
     rw[hall] at h
     cases h
     have:=ze6 (z:=ti.csz) (zda (g:=g) (w:=w) hall);rw[hd] at this;have hr:=Den.dat' (.inr this);rw[<- he,Array.toArray_toList] at hr;exact hr
   .cases h
 | false =>
  rw[hag,cond_false] at h;rw[hag] at hza
  have one:ti.zero=[v]:=by
   rw[<- hc]
   cases v <;> first|rfl|(simp at hza)
  rw[one] at h;simp only at h
  rcases zcx (g:=g) (w:=w) v with hv|hv
  .rw [hv] at h;cases h
  .exact zaL hv h
theorem zh6 {t:TypeId}{r:Option Operand}{id:Nat}(hT:TyOK P c.ty)(hs:SR fr nt g e m a w)(ho:∀ d,o.dst=some d->d<nt)(hid:fr.p<=id/\m id = .unborn)(hop:o.op = .makeMap t r)
  (h:zcR c t r id e m l K):Good P fr nt e m a w o K Q:=by
 unfold zcR at h
 cases r with
 | some _=>exact h.elim
 | none =>
  simp only at h
  have hrun:(execOp a.eval o).run P w = .ok (.value (.map (some w.heap.size))) (w.alloc (.map #[] 0)):=by
   simp[execOp,hop,Instr.makeMap]
  have fin:∀ bl:Blk,bl ≠ .unborn->bl.ids=[]->BlkRel (g.set id w.heap.size 0 false) (w.alloc (.map #[] 0)) id bl->K ⟨.mp id,[(id,bl)]⟩ l->Good P fr nt e m a w o K Q:=by
   intro bl hbl hids hrel h;unfold Good Oper.wp;rw[hrun];refine⟨_,_,h,g.set id w.heap.size 0 false, ?_⟩
   have hp:(g.set id w.heap.size 0 false).β id=w.heap.size:=by simp[Gh.set]
   have h1:=(hs.ext (Ext.alloc w (.map #[] 0))).born (id:=id) (b:=w.heap.size) (cap:=0) (nl:=false) (bl:=bl) hid.1 hid.2 hbl hrel (by rw[hids];simp)
    (λ _=>⟨λ k hk h=>by have:=zaT hs.mem hk;omega,λ h=>by have:=hs.mem.lt _ h;omega,λ h=>by have:=(hs.keep _ h).1;have:=hs.size;omega, .inr hs.size⟩) (λ _ k hk hx=>by have:=(hs.mem.own k _ hk hx).1;omega)
   refine h1.put ho (.inr ?_) ?_
   .have:=Den.mp (g:=g.set id w.heap.size 0 false) (w:=w.alloc (.map #[] 0)) (k:=id)
    rw[hp] at this;exact this
   .intro k hk
    simp[SV.ids] at hk;subst hk;rw[za,if_pos rfl];exact hbl
  have hp:(g.set id w.heap.size 0 false).β id=w.heap.size:=by simp[Gh.set]
  have hmp:K ⟨.mp id,[(id, .mp [])]⟩ l->Good P fr nt e m a w o K Q:=fin (.mp []) (by simp) rfl ⟨#[],0,by rw[hp];exact za7 w _,rfl,MapKept.stamped_empty 0,by simp⟩
  cases hmt:zhM c t with
  | some tt =>
   obtain⟨tk,te⟩:=tt;rw[hmt] at h;dsimp only at h
   cases hpk:zl0 te.k with
   | true =>
    rw[hpk] at h;exact fin (.fam [] [] []) (by simp) rfl ⟨#[],0,[],λ _ _=>none,⟨by rw[hp];exact za7 w _,by simp[Gh.set],rfl,rfl,MapKept.stamped_empty 0,by simp,by simp,by simp,by simp,by simp,by simp,by simp,by simp⟩⟩ h
   | false=>rw[hpk] at h;exact hmp h
  | none =>
   rw[hmt] at h;dsimp only at h
   cases ht:c.ty.at t with
   | none=>rw[ht] at h;exact h.elim
   | some ti =>
    obtain⟨k,size,bytes,agg,csz,zero⟩:=ti
    cases k <;> simp only[ht] at h <;> first|exact h.elim|exact hmp h
theorem zh7 {t kt et:TypeId}{tk te:TI}{x y:Operand}{ok:Bool}{b cl:Nat}{arr:Array MapEntry}{es:List (D×D)}{d z:D}{q:D×Bool}(hs:SR fr nt g e m a w)(ho:∀ d,o.dst=some d->d<nt)(hop:o.op = .lookup t x y ok)
  (hu:P.underlying t=some (.map kt et)) (hkt:KeyT P kt) (hTk:TIok P kt tk) (hTe:TIok P et te) (hmv:a.eval x = .map (some b)) (b1:w.heap[b]? = some (.map arr cl)) (b2:arr.size=es.length) (b3:MapKept.Stamped arr cl)
  (b4:∀ (i:Nat) x p,arr[i]? = some x->es[i]? = some p->Rd g.F w x.key p.1/\Rd g.F w x.val p.2) (hz:zb0 te=some z) (hkd:keyD tk d=true) (hrd:Rd g.F w (a.eval y) d) (hes:∀ p,p∈es->keyD tk p.1=true) (hq:q=zgC z d es)
  (h:(bif ok then one (.tup [SV.ofD q.1, .kb q.2]) else one (SV.ofD q.1)) e m l K):Good P fr nt e m a w o K Q:=by
 obtain⟨zv,z1,z2⟩:=zb3 (g:=g) (w:=w) hTe hz _ rfl;obtain⟨lv,hlv⟩:=zeh hTk hkt hkd hrd;have hck:=hkt.1.check w arr.isEmpty hlv
 have fin:∀ (v:Value) (r:D×Bool),(Instr.lookup t (a.eval x) (a.eval y) ok).run P w = .ok (if ok then .tuple #[v, .bool r.2] else v) w->Rd g.F w v r.1->r=q->Good P fr nt e m a w o K Q:=by
  intro v r hrun hv hr;subst hr
  cases ok with
  | true =>
   rw[cond_true,zal] at h;refine zah hs ho (v := .tuple #[v, .bool r.2]) (by simp[execOp,hop] at hrun ⊢;simp[hrun]) (.inr ?_) (by simp[SV.ids,SV.idsL,zaX]) h;refine .tup (vs:=[v, .bool r.2]) rfl λ i u y hu hy=>?_
   match i with
   | 0 =>
    simp at hu hy;subst hu hy
    rcases zaQ hv with h'|h'
    .exfalso;revert h';unfold SV.ofD;split <;> simp
    .exact h'
   | 1=>simp at hu hy;subst hu hy;exact .kb
   | i+2=>simp at hu
  | false =>
   rw[cond_false,zal] at h;exact zah hs ho (v:=v) (by simp[execOp,hop] at hrun ⊢;simp[hrun]) (zaQ hv) (by simp[zaX]) h
 rcases zeO (P:=P) (w:=w) hkt hTk b2 (MapKept.stamped_iff _ _ |>.1 b3).2.2 (λ i x p hx hp=>(b4 i x p hx hp).1) hes hkd hrd with ⟨f1,_,f3⟩|⟨j,x',p,f1,f2,f3,f4,f5,f6⟩
 .refine fin zv (z,false) ?_ z2 (by rw[hq,zga f3])
  rw[hmv]
  cases ok <;> simp[Instr.lookup,run_underlying hu,getObj,Sem.run,b1,hck,f1,z1]
 .refine fin x'.val (p.2,true) ?_ (b4 j x' p f2 f4).2 (by rw[hq,zgb f4 f5 λ i q hi hq=>f6 i q (by omega) hq])
  rw[hmv]
  cases ok <;> simp[Instr.lookup,run_underlying hu,getObj,Sem.run,b1,hck,f1]
theorem zmg {t:TypeId}{x y:Operand}{ok:Bool}(hT:TyOK P c.ty)(hs:SR fr nt g e m a w)(ho:∀ d,o.dst=some d->d<nt)(hop:o.op = .lookup t x y ok)
  (h:Pg.opd x (λ sx=>Pg.opd y λ si=>zhN c t sx si ok) e m l K):Good P fr nt e m a w o K Q:=by
 obtain⟨sx,l1,hx,hbx,h⟩:=zaa hs h;obtain⟨si,l2,hy,hby,h⟩:=zaa hs h;unfold zhN at h
 cases hm:zhM c t with
 | none=>rw[hm] at h;exact h.elim
 | some tt =>
  obtain⟨tk,te⟩:=tt;rw[hm] at h;simp only at h
  cases sx with
  | mp k =>
   simp only[Pg.getB,zam] at h
   cases hmk:m k with
   | mp es =>
    rw[hmk] at h;simp only at h
    cases hd:si.toD1 0 with
    | none=>rw[hd] at h;exact h.elim
    | some d =>
     rw[hd] at h;simp only at h
     cases hz:zb0 te with
     | none=>rw[hz] at h;exact h.elim
     | some z =>
      rw[hz] at h;obtain⟨hkd,h⟩:=zaj h;obtain⟨hes,q,hq,h⟩:=h;obtain⟨kt,et,hu,hkt,hTk,hTe⟩:=zbX hT hm
      have hyd:Den g w (a.eval y) si:=by
       rcases hy with hy|hy
       .subst hy;cases hd
       .exact hy
      have hbl:=hs.mem.blk k;rw[hmk] at hbl;obtain⟨arr,cl,b1,b2,b3,b4⟩:=hbl;exact zh7 hs ho hop hu hkt hTk hTe (Den.mp' hx) b1 b2 b3 b4 hz hkd (zaL hyd hd) hes hq h
   | fam ks es outs =>
    rw[hmk] at h;simp only at h
    cases hd:si.toD1 0 with
    | none=>rw[hd] at h;exact h.elim
    | some d =>
     rw[hd] at h;simp only at h;obtain⟨hkd,h3⟩:=zaj h;clear h;simp only[zrk] at hkd;obtain⟨⟨hkd,hok⟩,hnz⟩:=hkd;obtain⟨hes,h4⟩:=h3;simp only[zal] at h4;obtain⟨kt,et,hu,hkt,hTk,hTe⟩:=zbX hT hm
     have hyd:Den g w (a.eval y) si:=by
      rcases hy with hy|hy
      .subst hy;cases hd
      .exact hy
     have hrd:=zaL hyd hd;have hbl:=hs.mem.blk k;rw[hmk] at hbl;obtain⟨arr,cl,M,I,hfm⟩:=hbl
     have hok:ok=false:=by cases ok <;> simp_all
     subst hok
     have hz:zb0 te=some (.v (.pointer none)):=by
      unfold zqw at hnz
      split at hnz
      .assumption
      .cases hnz
     obtain⟨zv,z1,z2⟩:=zb3 (g:=g) (w:=w) hTe hz _ rfl
     have hzv:zv = .pointer none:=by cases z2 with|v _=>rfl
     subst hzv;obtain⟨lv,hlv⟩:=zeh hTk hkt hkd hrd;have hck:=hkt.1.check w arr.isEmpty hlv;have hmv:=Den.mp' hx
     have fin:∀ (v:Value) (y':SV) (l9:List Loc),(Instr.lookup t (a.eval x) (a.eval y) false).run P w = .ok v w->DenO g w v y'->(∀ q,q∈y'.ids->m q ≠ .unborn)->K ⟨y',[]⟩ l9->Good P fr nt e m a w o K Q:=by
      intro v y' l9 hrun hv hid hK;exact zah hs ho (v:=v) (by simp[execOp,hop] at hrun ⊢;simp[hrun]) hv hid hK
     have b1:=hfm.hp
     rcases zeO (P:=P) (w:=w) hkt hTk hfm.size (MapKept.stamped_iff _ _ |>.1 hfm.keys).2.2 (λ i x p hx hp=>(hfm.ent i x p hx hp).1) hes hkd hrd with ⟨f1,_,f3⟩|⟨j,x',p,f1,f2,f3,f4,f5,f6⟩
     .have hrun:(Instr.lookup t (a.eval x) (a.eval y) false).run P w = .ok (.pointer none) w:=by
       rw[hmv];simp[Instr.lookup,run_underlying hu,getObj,Sem.run,b1,hck,f1,z1]
      rcases h4 with h4|⟨q,hq,h4⟩
      .exact fin (.pointer none) nilP _ hrun (.inr (.dat (.v trivial))) (by simp[nilP,SV.ids]) (h4.1 f3)
      .cases q with
       | none=>exact fin (.pointer none) _ _ hrun (.inr .pnN) (by simp[SV.ids,hmk]) h4
       | some i =>
        obtain⟨⟨x9,hx9⟩,_⟩:=hq.2 i rfl;exact absurd rfl (f3 _ (zri hx9))
     .have hrun:(Instr.lookup t (a.eval x) (a.eval y) false).run P w = .ok x'.val w:=by
       rw[hmv];simp[Instr.lookup,run_underlying hu,getObj,Sem.run,b1,hck,f1]
      have hj:j<M.length:=by rw[hfm.len];exact(zrf.1 f4).1
      rcases h4 with h4|⟨q,hq,h4⟩
      .refine fin x'.val (.po k j 0) _ hrun ?_ (by simp[SV.ids,hmk]) (h4.2 j p.2 (by rw[f4,<- f5]) λ i q hi hq=>f6 i q (by omega) hq)
       rw[(hfm.ent j x' p f2 f4).2];exact .inr (.po (by rw[hfm.Mk];simp[hj]))
      .cases q with
       | none=>exact absurd f5 (hq.1 rfl p (zri f4))
       | some i =>
        obtain⟨⟨x9,hx9⟩,hmin⟩:=hq.2 i rfl
        have hij:i=j:=by
         rcases Nat.lt_trichotomy i j with h|h|h
         .exact absurd rfl (f6 i _ (by omega) hx9)
         .exact h
         .exact absurd f5 (hmin j p h f4)
        subst hij;refine fin x'.val _ _ hrun ?_ (by simp[SV.ids,hmk]) h4;rw[(hfm.ent i x' p f2 f4).2];exact .inr (.pnS (by rw[hfm.Mk];simp[hj]))
   | _=>rw[hmk] at h;exact h.elim
  | dat xd =>
   cases xd with
   | mp es =>
    simp only at h
    cases hd:si.toD1 0 with
    | none=>rw[hd] at h;exact h.elim
    | some d =>
     rw[hd] at h;simp only at h
     cases hz:zb0 te with
     | none=>rw[hz] at h;exact h.elim
     | some z =>
      rw[hz] at h;obtain⟨hkd,h⟩:=zaj h;obtain⟨hes,q,hq,h⟩:=h;obtain⟨kt,et,hu,hkt,hTk,hTe⟩:=zbX hT hm
      have hyd:Den g w (a.eval y) si:=by
       rcases hy with hy|hy
       .subst hy;cases hd
       .exact hy
      rcases hx with hx|hx
      .cases hx
      obtain⟨b,cl,arr,hbv,b1,b2,b3,b4,b5⟩:∃ b cl arr,a.eval x = .map (some b)/\w.heap[b]? = some (.map arr cl)/\arr.size=es.length/\MapKept.Stamped arr cl/\(∀ (i:Nat) x p,arr[i]? = some x->es[i]? = some p->Rd g.F w x.key p.1) /\
        ∀ (i:Nat) x p,arr[i]? = some x->es[i]? = some p->Rd g.F w x.val p.2:=by
       generalize a.eval x=u at hx
       cases hx with
       | dat hr=>cases hr with|mp h1 h2 h3 h4 h5 h6=>exact⟨_,_,_,rfl,h2,h4,h3,h5,h6⟩
      exact zh7 hs ho hop hu hkt hTk hTe hbv b1 b2 b3 (λ i x p h1 h2=>⟨b4 i x p h1 h2,b5 i x p h1 h2⟩) hz hkd (zaL hyd hd) hes hq h
   | _=>exact h.elim
  | _=>exact h.elim
theorem zka {t:TypeId}{x y z:Operand}(hT:TyOK P c.ty)(hs:SR fr nt g e m a w)(ho:∀ d,o.dst=some d->d<nt)(hop:o.op = .mapUpdate t x y z∨o.op = .insert t x y z)
  (h:Pg.opd x (λ sx=>Pg.opd y λ si=>Pg.opd z λ sv=>zkN c t sx si sv) e m l K):Good P fr nt e m a w o K Q:=by
 obtain⟨sx,l1,hx,hbx,h⟩:=zaa hs h;obtain⟨si,l2,hy,hby,h⟩:=zaa hs h;obtain⟨sv,l3,hz,hbz,h⟩:=zaa hs h;unfold zkN at h
 cases hm:zhM c t with
 | none=>rw[hm] at h;exact h.elim
 | some tt =>
  obtain⟨tk,te⟩:=tt;rw[hm] at h;simp only at h
  cases sx with
  | mp k =>
   simp only[Pg.getB,zam] at h
   cases hmk:m k with
   | mp es =>
    rw[hmk] at h;simp only at h
    cases hd:si.toD1 0 with
    | none=>rw[hd] at h;exact h.elim
    | some d =>
     rw[hd] at h;simp only at h
     cases hv:sv.toD1 (te.csz.headD 0) with
     | none=>rw[hv] at h;exact h.elim
     | some dv =>
      rw[hv] at h;obtain⟨hkd,h⟩:=zaj h;obtain⟨hes,q,hq,h⟩:=h;obtain⟨kt,et,hu,hkt,hTk,hTe⟩:=zbX hT hm
      have hyd:Den g w (a.eval y) si:=by
       rcases hy with hy|hy
       .subst hy;cases hd
       .exact hy
      have hzd:Den g w (a.eval z) sv:=by
       rcases hz with hz|hz
       .subst hz;cases hv
       .exact hz
      have hrd:=zaL hyd hd;have hrv:=zaL hzd hv;have hbl:=hs.mem.blk k;rw[hmk] at hbl;obtain⟨arr,cl,b1,b2,b3,b4⟩:=hbl;obtain⟨lv,hlv⟩:=zeh hTk hkt hkd hrd;have hck:=hkt.1.check w false hlv;have hst:=hkt.1.stays w hlv;have hmv:=Den.mp' hx
      have hal:zac g m k:=by simp[zac,hmk]
      have fin:∀ (arr':Array MapEntry) (cl':Nat),(Instr.mapUpdate t (a.eval x) (a.eval y) (a.eval z)).run P w = .ok () (ChangeMaps.setBlock w (g.β k) (.map arr' cl'))->arr'.size=q.length->MapKept.Stamped arr' cl' ->
        (∀ (i:Nat) x p,arr'[i]? = some x->q[i]? = some p->Rd g.F w x.key p.1/\Rd g.F w x.val p.2)->Good P fr nt e m a w o K Q:=by
       intro arr' cl' hrun h1 h2 h3;unfold Good Oper.wp
       have hrun':(execOp a.eval o).run P w = .ok .skip (ChangeMaps.setBlock w (g.β k) (.map arr' cl')):=by
        rcases hop with hop|hop <;> (simp[execOp,hop] at hrun ⊢;simp[hrun])
       rw[hrun'];refine⟨_,_,h,g, ?_⟩;have hlt:g.β k<w.heap.size:=zaT hs.mem hal
       have hother:∀ i,i≠g.β k->(ChangeMaps.setBlock w (g.β k) (.map arr' cl')).heap[i]? = w.heap[i]? := λ i hi=>by
        simp only[ChangeMaps.setBlock];rw[Array.getElem?_setIfInBounds_ne (λ h=>hi h.symm)]
       have hrel:BlkRel g (ChangeMaps.setBlock w (g.β k) (.map arr' cl')) k (.mp q):=by
        refine⟨arr',cl',by simp[ChangeMaps.setBlock,hlt],h1,h2,λ i x p hx hp=>?_⟩;have hF:∀ b,g.F b->(ChangeMaps.setBlock w (g.β k) (.map arr' cl')).heap[b]? = w.heap[b]? := λ b hb=>hother b λ he=>hs.mem.hot k hal (he ▸ hb);exact⟨(h3 i x p hx hp).1.mono (λ _ h=>h) hF,(h3 i x p hx hp).2.mono (λ _ h=>h) hF⟩
       exact(hs.setB hal hother (by simp[ChangeMaps.setBlock]) rfl rfl rfl hrel (by simp) (by simp[Blk.ids])).put ho (.inl rfl) (by simp[SV.ids])
      rcases zeO (P:=P) (w:=w) hkt hTk b2 (MapKept.stamped_iff _ _ |>.1 b3).2.2 (λ i x p hx hp=>(b4 i x p hx hp).1) hes hkd hrd with ⟨f1,f2,f3⟩|⟨j,x',p,f1,f2,f3,f4,f5,f6⟩
      .rw [zh4 f3] at hq
       subst hq;refine fin (arr.push ⟨a.eval y,a.eval z,cl⟩) (cl+1) ?_ (by simp[b2]) ?_ λ i u p hu hp=>?_
       .rw [hmv]
        simp[Instr.mapUpdate,run_underlying hu,getObj,setObj,Sem.run,b1,hck,f1,ChangeMaps.setBlock]
       .exact MapKept.stamped_push b3 f2
       .by_cases hi:i<arr.size
        .rw [Array.getElem?_push_lt hi] at hu
         rw[List.getElem?_append_left (by omega)] at hp;exact b4 i u p (by rw[Array.getElem?_eq_getElem hi];exact hu) hp
        .have:i=arr.size:=by
          have:=(zrf.1 hp).1;simp at this;omega
         subst this;simp at hu;rw[b2] at hp;simp at hp;subst hu hp;exact⟨hrd,hrv⟩
      .rw [zh5 f4 f5 λ i q hi hq=>f6 i q (by omega) hq] at hq
       subst hq;have hj:j<arr.size:=(Array.getElem?_eq_some_iff.1 f2).1;have hgj:arr[j]=x':=(Array.getElem?_eq_some_iff.1 f2).2
       have hget:∀ (i:Nat) u,(arr.modify j λ en=>{ en with key:=a.eval y,val:=a.eval z })[i]? = some u->(i≠j/\arr[i]? = some u)∨(i=j/\u.key=a.eval y/\u.val=a.eval z):=by
        intro i u hu;rw[Array.getElem?_modify] at hu;by_cases hij:j=i
        .subst hij
         rw[if_pos rfl,f2] at hu;simp at hu;subst hu;exact .inr ⟨rfl,rfl,rfl⟩
        .rw [if_neg hij] at hu
         exact .inl ⟨λ h=>hij h.symm,hu⟩
       refine fin (arr.modify j λ en=>{ en with key:=a.eval y,val:=a.eval z }) cl ?_ (by simp[b2]) ?_ λ i u p hu hp=>?_
       .rw [hmv]
        simp[Instr.mapUpdate,run_underlying hu,getObj,setObj,Sem.run,b1,hck,f1,ChangeMaps.setBlock,f2,f3,hst]
       .exact MapKept.stamped_modify b3 j _ (λ _ _=>rfl) λ x hx hxj=>by rw[f2] at hxj;cases hxj;exact f3.symm
       .rcases hget i u hu with ⟨n1,g1⟩|⟨n1,g1,g2⟩
        .rw [List.getElem?_set_ne (λ h=>n1 h.symm)] at hp
         exact b4 i u p g1 hp
        .subst n1
         have hlt:i<es.length:=by omega
         rw[List.getElem?_set_self hlt] at hp;simp at hp;subst hp;rw[g1,g2];exact⟨hrd,hrv⟩
   | fam ks es outs =>
    rw[hmk] at h;simp only at h
    cases hd:si.toD1 0 with
    | none=>rw[hd] at h;exact h.elim
    | some d =>
     rw[hd] at h;dsimp only at h
     split at h
     .rename_i q
      obtain⟨hkd,h3⟩:=zaj h;clear h;simp only[zrk,Bool.not_eq_true'] at hkd;obtain⟨⟨hkd,hpk⟩,hqk⟩:=hkd;obtain⟨⟨hes,hnd⟩,h4⟩:=h3;simp only[Pg.getB,zam] at h4
      cases hmq:m q with
      | box xs =>
       rw[hmq] at h4;obtain⟨sh,hsh,h5⟩:=h4
       cases heat:zaw ks m sh xs with
       | none=>rw[heat] at h5;exact h5.elim
       | some cd =>
        obtain⟨cs,ds⟩:=cd;rw[heat] at h5;obtain⟨⟨e2,e3,e4⟩,r,rfl,h6⟩:=h5;obtain⟨kt,et,hu,hkt,hTk,hTe⟩:=zbX hT hm
        have hyd:Den g w (a.eval y) si:=by
         rcases hy with hy|hy
         .subst hy;cases hd
         .exact hy
        have hzv:a.eval z = .pointer (some ⟨g.β q,0,none⟩):=by
         rcases hz with hz|hz
         .cases hz
         .generalize a.eval z=v at hz
          cases hz;rfl
        have hrd:=zaL hyd hd;have hbl:=hs.mem.blk k;rw[hmk] at hbl;obtain⟨arr,cl,M,I,hfm⟩:=hbl;have hbq:=hs.mem.blk q;rw[hmq] at hbq;obtain⟨vs,t',v1,v2,v3,_⟩:=hbq;obtain⟨lv,hlv⟩:=zeh hTk hkt hkd hrd;have hck:=hkt.1.check w false hlv;have hst:=hkt.1.stays w hlv;have hmv:=Den.mp' hx
        have hal:zac g m k:=by simp[zac,hmk]
        have hlt:g.β k<w.heap.size:=zaT hs.mem hal
        rcases zeO (P:=P) (w:=w) hkt hTk hfm.size (MapKept.stamped_iff _ _ |>.1 hfm.keys).2.2 (λ i x p hx hp=>(hfm.ent i x p hx hp).1) hes hkd hrd with ⟨f1,f2,f3⟩|⟨j,x',p,f1,f2,f3,f4,f5,f6⟩
        .have hrun:(Instr.mapUpdate t (a.eval x) (a.eval y) (a.eval z)).run P w = .ok () (ChangeMaps.setBlock w (g.β k) (.map (arr.push ⟨a.eval y,a.eval z,cl⟩) (cl+1))):=by
          rw[hmv];simp[Instr.mapUpdate,run_underlying hu,getObj,setObj,Sem.run,hfm.hp,hck,f1,ChangeMaps.setBlock]
         have hrun':(execOp a.eval o).run P w = .ok .skip (ChangeMaps.setBlock w (g.β k) (.map (arr.push ⟨a.eval y,a.eval z,cl⟩) (cl+1))):=by
          rcases hop with hop|hop <;> (simp[execOp,hop] at hrun ⊢;simp[hrun])
         have hother:∀ i,i≠g.β k->(ChangeMaps.setBlock w (g.β k) (.map (arr.push ⟨a.eval y,a.eval z,cl⟩) (cl+1))).heap[i]? = w.heap[i]? := λ i hi=>by
          simp only[ChangeMaps.setBlock];rw[Array.getElem?_setIfInBounds_ne (λ h=>hi h.symm)]
         obtain⟨g',hs'⟩:=hs.growF (sh:=sh) (w':=ChangeMaps.setBlock w (g.β k) (.map (arr.push ⟨a.eval y,a.eval z,cl⟩) (cl+1))) hmk hmq hfm v1 v2 v3 heat (λ z hz=>by
           have:=List.all_eq_true.1 e3 z hz;simp only[zrk,Bool.not_eq_true'] at this
           exact⟨(λ e=>by rw[e,Nat.beq_refl] at this;cases this.1),(λ e=>by rw[e,Nat.beq_refl] at this;cases this.2)⟩) (λ e=>by rw[e,Nat.beq_refl] at hqk;cases hqk) e4 hother (by rw[hzv];simp[ChangeMaps.setBlock,hlt]) (by simp[ChangeMaps.setBlock]) rfl rfl rfl hrd f2
         unfold Good Oper.wp;rw[hrun'];exact⟨_,_,h6,g',hs'.put ho (.inl rfl) (by simp[SV.ids])⟩
        .exact absurd f5 (hnd p (zri f4))
      | _=>rw[hmq] at h4;exact h4.elim
     .exact h.elim
   | _=>rw[hmk] at h;exact h.elim
  | _=>exact h.elim
end
end Go.Vc
namespace Go.Vc
open Go.RowKit
section
variable {P:Program} {fr:Fr} {nt:Nat} {g:Gh} {e:Nat->SV} {m:Nat->Blk} {a:Act} {w:World} {c:Ctx} {o:Oper} {K:Dl->List Loc->Prop} {Q:Exit->Act->World->Prop} {l:List Loc}
theorem zgW {A:ByteArray->Pg}{x:SV}(h:(match x with | .dat (.v (.string s))=>A s|_=>Pg.fail) e m l K):∃ s,x = .dat (.v (.string s))/\A s e m l K:=by
 split at h
 .exact ⟨_,rfl,h⟩
 .exact h.elim
theorem zi8 (s:ByteArray)(i:Nat)(h:i<s.size):s[i]? = some s[i]/\((s[i]).toNat:Int)=zcP s i:=by
 have h':i<s.data.toList.length:=by simpa using h
 refine⟨getElem?_pos s i h, ?_⟩;unfold zcP;rw[List.getD_eq_getElem?_getD,zrg h'];rfl
theorem zmh (s:ByteArray)(i:Nat):IntKind.u8.min<=zcP s i/\zcP s i<=IntKind.u8.max:=by
 unfold zcP;generalize s.data.toList.getD i 0=b;have:=b.toNat_lt;simp[IntKind.min,IntKind.max,IntKind.signed,IntKind.bits];omega
theorem zkZ {t:TypeId}{x y:Operand}(hT:TyOK P c.ty)(hs:SR fr nt g e m a w)(ho:∀ d,o.dst=some d->d<nt)(hop:o.op = .index t x y)
  (h:Pg.opd x (λ sx=>Pg.opd y λ si=>zeV c t sx si) e m l K):Good P fr nt e m a w o K Q:=by
 obtain⟨sx,l1,hx,_,h⟩:=zaa hs h;obtain⟨si,l2,hy,_,h⟩:=zaa hs h;unfold zeV at h
 cases ht:c.ty.at t with
 | none=>rw[ht] at h;exact h.elim
 | some ti =>
 obtain⟨kk,sz,by_,ag,cz,zz⟩:=ti;rw[ht] at h
 cases kk with
 | str =>
  obtain⟨d,hd,_,hk⟩:=(hT t _ ht).desc;dsimp only at hk;subst hk;dsimp only at h;obtain⟨s,rfl,h⟩:=zgW h
  .obtain ⟨hv,hr⟩:=Den.str hx
   obtain⟨kd,i,q,rfl,rfl,hq,h3⟩:=zaS h;obtain⟨hay,_⟩:=Den.int hy;simp only[Pg.ex,zal] at h3;obtain⟨b,rfl,h3⟩:=h3;obtain⟨g1,g2⟩:=zi8 s q hq;refine zah hs ho (v := .int .u8 (zcP s q)) ?_ (za2 (zmh s q)) (by simp[SV.ids]) h3;rw[<- g2];simp[execOp,hop,hv,hay,Instr.index,asIntOf,run_underlying hd,g1]
 | arr n es ag' =>
  obtain⟨d,hd,_,hk⟩:=(hT t _ ht).desc;dsimp only at hk h;obtain⟨el,rfl,⟨i0,hi0,hsz⟩,hag⟩:=hk
  cases h0:(Nat.beq es 1 && !ag') with
  | false=>simp only[h0,cond_false] at h;exact h.elim
  | true =>
   simp only[h0,cond_true] at h;simp only[zrk,Bool.not_eq_true'] at h0;rw[h0.2] at hag;have hes:=zrh h0.1
   have hagg:(isAgg el).run P w = .ok false w:=by
    unfold zcS at hag
    cases hu:P.underlying el with
    | none=>rw[hu] at hag;cases hag
    | some dd =>
     rw[hu] at hag
     cases dd <;> first|(simp[isAgg,run_underlying hu];done)|(simp at hag)
   rcases hx with hx|hx
   .subst hx;exact h.elim
   generalize hv:a.eval x=v at hx
   cases hx with
   | dat hr =>
    cases hr with
    | @agg vs ds p1 p0 p2 =>
     dsimp only at h;obtain⟨kd,i,q,rfl,rfl,hq,h3⟩:=zaS h;obtain⟨hay,_⟩:=Den.int hy
     cases hdi:ds[q]? with
     | none=>rw[hdi] at h3;exact h3.elim
     | some dd =>
      rw[hdi] at h3;simp only[zal] at h3
      have hl:q<vs.length:=by rw[p1];exact(zrf.1 hdi).1
      refine zah hs ho (v:=vs[q]) ?_ (zaQ (p2 q _ dd (zrg hl) hdi)) (by rw[zaX];simp) h3
      have hp:(part el vs.toArray q).run P w = .ok vs[q] w:=by
       simp[part,hagg,zrg hl]
      have hso:(sizeOf el).run P w = .ok 1 w:=by
       simp[sizeOf,typeInfo,hi0,hsz,hes]
      simp[execOp,hop,hv,hay,Instr.index,asIntOf,run_underlying hd,hq,hso,hp]
    | _=>exact h.elim
   | _=>exact h.elim
 | _=>exact h.elim
theorem zi9 {t:TypeId}{x:Operand}{lo hi:Option Operand}{s:ByteArray}{sz by_:Nat}(hs:SR fr nt g e m a w)(ho:∀ d,o.dst=some d->d<nt)(hop:o.op = .slice t x lo hi none)(hd:P.underlying t=some .string)
  (hv:a.eval x = .string s) (hr:s.size<=maxLen) (h:zhJ s lo hi e m l K):Good P fr nt e m a w o K Q:=by
 unfold zhJ at h;obtain⟨i,l1,hi1,h⟩:=zcm hs h;obtain⟨j,l2,hj1,h⟩:=zaY hs h;obtain⟨⟨c1,c2,c3⟩,q,rfl,h⟩:=h;rw[zal] at h;have hlo:=hi1 c1;have hhi:=hj1 (by omega)
 have hij:i.toNat<=j.toNat:=by omega
 have hjs:j.toNat<=s.size:=by omega
 refine zah hs ho (v := .string (zew s i.toNat j.toNat)) ?_ (.inr (.dat (.v ?_))) (by simp[SV.ids]) h
 .have key:(Instr.slice t (.string s) (lo.map a.eval) (hi.map a.eval) none).run P w = .ok (.string (s.extract i.toNat j.toNat)) w:=by
   generalize i.toNat=i' at *;generalize j.toNat=j' at *
   cases lo with
   | none =>
    obtain rfl:i'=0:=hlo
    cases hi with
    | none =>
     obtain rfl:j'=s.size:=hhi;simp[Instr.slice,run_underlying hd,Instr.sliceBounds]
    | some hi =>
     obtain⟨kh,hh⟩:=hhi;simp[Instr.slice,run_underlying hd,Instr.sliceBounds,Instr.sliceBound,hh,asIntOf,hjs]
   | some lo =>
    obtain⟨kl,hl⟩:=hlo
    cases hi with
    | none =>
     obtain rfl:j'=s.size:=hhi;simp[Instr.slice,run_underlying hd,Instr.sliceBounds,Instr.sliceBound,hl,asIntOf,hij]
    | some hi =>
     obtain⟨kh,hh⟩:=hhi;simp[Instr.slice,run_underlying hd,Instr.sliceBounds,Instr.sliceBound,hl,hh,asIntOf,hij,hjs]
  simp[execOp,hop,hv,zew,run_sliceAt_string (P:=P) (w:=w) t _ _ _ _ hd,key]
 .show (zew s i.toNat j.toNat).size<=maxLen
  unfold zew;rw[ByteArray.size_extract];omega
theorem zk0 {t:TypeId}{x:Operand}{id:Nat}(hT:TyOK P c.ty)(hs:SR fr nt g e m a w)(ho:∀ d,o.dst=some d->d<nt)(hid:fr.p<=id/\m id = .unborn)(hop:o.op = .range t x)
  (h:Pg.opd x (λ sx=>zeY c t sx id) e m l K):Good P fr nt e m a w o K Q:=by
 obtain⟨sx,l1,hx,_,h⟩:=zaa hs h;unfold zeY at h
 cases ht:c.ty.at t with
 | none=>rw[ht] at h;exact h.elim
 | some ti =>
 obtain⟨kk,sz,by_,ag,cz,zz⟩:=ti;rw[ht] at h
 cases kk with
 | str =>
  obtain⟨d,hd,_,hk⟩:=(hT t _ ht).desc;dsimp only at hk;subst hk;dsimp only at h;obtain⟨s,rfl,h⟩:=zgW h
  .obtain ⟨hv,hr⟩:=Den.str hx
   have hrun:(execOp a.eval o).run P w = .ok (.value (.pointer (some ⟨w.heap.size,0,none⟩))) (w.alloc (.stringIter s 0)):=by
    have:=run_range_string (P:=P) w t s hd;simp[execOp,hop,hv,this,World.iter]
   unfold Good Oper.wp;rw[hrun];refine⟨_,_,h,g.set id w.heap.size 0 false, ?_⟩
   have hp:(g.set id w.heap.size 0 false).β id=w.heap.size:=by simp[Gh.set]
   have h1:=(hs.ext (Ext.alloc w (.stringIter s 0))).born (id:=id) (b:=w.heap.size) (cap:=0) (nl:=false) (bl := .sit s 0) hid.1 hid.2 (by simp) ⟨by rw[hp];exact za7 w _,hr⟩ (by simp[Blk.ids])
    (λ _=>⟨λ k hk h=>by have:=zaT hs.mem hk;omega,λ h=>by have:=hs.mem.lt _ h;omega,λ h=>by have:=(hs.keep _ h).1;have:=hs.size;omega, .inr hs.size⟩) (λ _ k hk hx=>by have:=(hs.mem.own k _ hk hx).1;omega)
   refine h1.put ho (.inr ?_) ?_
   .have:=Den.ptr (g:=g.set id w.heap.size 0 false) (w:=w.alloc (.stringIter s 0)) (k:=id) (o:=0)
    rw[hp] at this;exact this
   .intro k hk
    simp[SV.ids] at hk;subst hk;rw[za,if_pos rfl];simp
 | mp kt et =>
  obtain⟨dd,hu,_,hk⟩:=(hT t _ ht).desc;dsimp only at hk h;subst hk
  have h:∃ es,sx = .dat (.mp es)/\Pg.ret ⟨.ptr id 0,[(id, .mit es [])]⟩ e m l1 K:=by
   split at h
   .exact ⟨_,rfl,h⟩
   .exact h.elim
  obtain⟨es,rfl,h⟩:=h
  rcases hx with hx|hx
  .cases hx
  obtain⟨b,cl,arr,hbv,hF,b1,b2,b3,b4,b5⟩:∃ b cl arr,a.eval x = .map (some b)/\g.F b/\w.heap[b]? = some (.map arr cl)/\arr.size=es.length/\MapKept.Stamped arr cl/\(∀ (i:Nat) x p,arr[i]? = some x->es[i]? = some p->Rd g.F w x.key p.1) /\
    ∀ (i:Nat) x p,arr[i]? = some x->es[i]? = some p->Rd g.F w x.val p.2:=by
   generalize a.eval x=u at hx
   cases hx with
   | dat hr=>cases hr with|mp h1 h2 h3 h4 h5 h6=>exact⟨_,_,_,rfl,h1,h2,h4,h3,h5,h6⟩
  have hrun:(execOp a.eval o).run P w = .ok (.value (.pointer (some ⟨w.heap.size,0,none⟩))) (w.alloc (.mapIter (some b) cl #[] cl)):=by
   have:=run_range_map (P:=P) w t kt et b arr cl hu b1;simp[execOp,hop,hbv,this]
  unfold Good Oper.wp;rw[hrun];refine⟨_,_,h,g.set id w.heap.size 0 false, ?_⟩
  have hp:(g.set id w.heap.size 0 false).β id=w.heap.size:=by simp[Gh.set]
  have old:∀ q,g.F q->(w.alloc (.mapIter (some b) cl #[] cl)).heap[q]? = w.heap[q]? := λ q hq=>heap_alloc_old w _ (hs.mem.lt q hq)
  have hrel:ze2 g.F (w.alloc (.mapIter (some b) cl #[] cl)) w.heap.size es [] :=
   ⟨b,cl,arr,#[],za7 w _,hF,(old b hF).trans b1,b3,b2,λ i x p h1 h2=>⟨(b4 i x p h1 h2).mono (λ _ h=>h) old,(b5 i x p h1 h2).mono (λ _ h=>h) old⟩,rfl,by simp⟩
  have h1:=(hs.ext (Ext.alloc w (.mapIter (some b) cl #[] cl))).born (id:=id) (b:=w.heap.size) (cap:=0) (nl:=false) (bl := .mit es []) hid.1 hid.2 (by simp) (by show ze2 _ _ ((g.set id w.heap.size 0 false).β id) _ _;rw[hp];exact hrel) (by simp[Blk.ids])
   (λ _=>⟨λ k hk h=>by have:=zaT hs.mem hk;omega,λ h=>by have:=hs.mem.lt _ h;omega,λ h=>by have:=(hs.keep _ h).1;have:=hs.size;omega, .inr hs.size⟩) (λ _ k hk hx=>by have:=(hs.mem.own k _ hk hx).1;omega)
  refine h1.put ho (.inr ?_) ?_
  .have:=Den.ptr (g:=g.set id w.heap.size 0 false) (w:=w.alloc (.mapIter (some b) cl #[] cl)) (k:=id) (o:=0)
   rw[hp] at this;exact this
  .intro k hk
   simp[SV.ids] at hk;subst hk;rw[za,if_pos rfl];simp
 | _=>exact h.elim
theorem znV {w:World}{b:Nat}{o1 o2:Obj}(h:w.heap[b]? = some o1):(({ w with heap:=w.heap.setIfInBounds b o2 }:World).heap[b]? = some o2)/\∀ i,i≠b->({ w with heap:=w.heap.setIfInBounds b o2 }:World).heap[i]? = w.heap[i]? := by
 have hb:b<w.heap.size:=(Array.getElem?_eq_some_iff.1 h).1;refine⟨?_,λ i hi=>?_⟩
 .show (w.heap.setIfInBounds b o2)[b]? = _
  simp[hb]
 .show (w.heap.setIfInBounds b o2)[i]? = _
  rw[Array.getElem?_setIfInBounds_ne (Ne.symm hi)]
theorem zmi {x:Operand}{is:Bool}(hs:SR fr nt g e m a w)(ho:∀ d,o.dst=some d->d<nt)(hop:o.op = .next x is)(his:is=true)
  (h:Pg.opd x zhO e m l K):Good P fr nt e m a w o K Q:=by
 obtain⟨sx,l1,hx,_,h⟩:=zaa hs h;subst his
 have h:∃ k,sx = .ptr k 0/\(Pg.getB k fun | .sit s p=>Pg.both (decide (p<s.size)) (Pg.ex (λ q:Int×Nat=>q=zdM s p) λ q=>Pg.ret ⟨.tup [.kb true, .dat (.v (.int .i64 p)), .dat (.v (.int .i32 q.1))],[(k, .sit s q.2)]⟩) (one (.tup [.kb false]))|_=>Pg.fail) e m l1 K:=by
  unfold zhO at h
  split at h
  .exact ⟨_,rfl,h⟩
  .exact h.elim
 obtain⟨k,rfl,hN⟩:=h
 .unfold Pg.getB at hN
  rw[zam] at hN
  cases hm:m k with
  | sit s p =>
   rw[hm] at hN;have hb:=hs.mem.blk k;rw[hm] at hb;obtain⟨b1,b2⟩:=hb
   have hv:a.eval x = .pointer (some ⟨g.β k,0,none⟩):=by
    rcases hx with hx|hx
    .cases hx
    .generalize a.eval x=v at hx
     cases hx;rfl
   by_cases hp:p<s.size
   .have h2:=hN.1 (by simpa using hp)
    obtain⟨q,rfl,hK⟩:=h2
    let w':World:={ w with heap:=w.heap.setIfInBounds (g.β k) (.stringIter s (p+(Utf8.decode s p).2)) }
    have hrun:(execOp a.eval o).run P w = .ok (.value (.tuple #[.bool true, .int .i64 p, .int .i32 (Utf8.decode s p).1])) w':=by
     simp[execOp,hop,hv,Instr.next,getObj,setObj,Sem.run,b1,Result.andThen,hp,goInt,w']
    unfold Good Oper.wp;rw[hrun];refine⟨_,_,hK,g, ?_⟩;obtain⟨hs1,hs2⟩:=znV (o2 := .stringIter s (p+(Utf8.decode s p).2)) b1
    have hk:zac g m k:=by simp[zac,hm]
    have h3:SR fr nt g e (mApp [(k, .sit s (p+(Utf8.decode s p).2))] m) a w':=hs.setB hk hs2 (by simp[w']) rfl rfl rfl ⟨hs1,b2⟩ (by simp) (by simp[Blk.ids]);refine h3.put ho (.inr ?_) (by simp[SV.ids,SV.idsL]);refine .tup (vs:=[.bool true, .int .i64 p, .int .i32 (Utf8.decode s p).1]) rfl λ i u y hu hy=>?_
    match i,hu,hy with
    | 0,hu,hy=>cases hu;cases hy;exact .kb
    | 1,hu,hy=>cases hu;cases hy;exact .dat (.v (zdn (by omega)))
    | 2,hu,hy =>
     cases hu;cases hy
     have:=decode_le s p;exact .dat (.v (by simp[pl,zdM,IntKind.min,IntKind.max,IntKind.signed,IntKind.bits];omega))
   .have h2:=hN.2 (by simpa using hp)
    rw[zal] at h2;refine zah hs ho (v := .tuple #[.bool false]) ?_ (.inr (.tup (vs:=[.bool false]) rfl λ i u y hu hy=>?_)) (by simp[SV.ids,SV.idsL]) h2
    .simp [execOp,hop,hv,Instr.next,getObj,Sem.run,b1,hp]
    .match i,hu,hy with
     | 0,hu,hy=>cases hu;cases hy;exact .kb
  | _=>rw[hm] at hN;exact hN.elim
theorem zmj {x:Operand}{k:Nat}{es:List (D×D)}{seen:List Nat}(hs:SR fr nt g e m a w)(hx:DenO g w (a.eval x) (.ptr k 0))(hm:m k = .mit es seen):a.eval x = .pointer (some ⟨g.β k,0,none⟩)/\ze2 g.F w (g.β k) es seen:=by
 have hb:=hs.mem.blk k;rw[hm] at hb;refine⟨?_,hb⟩
 rcases hx with hx|hx
 .cases hx
 .generalize a.eval x=v at hx
  cases hx;rfl
theorem zps {u v:Value}{p q:D}(h1:Rd g.F w u p)(h2:Rd g.F w v q):Den g w (.tuple #[u,v]) (.tup [SV.ofD p,SV.ofD q]):=by
 have no:∀ d:D,SV.ofD d ≠ .no:=λ d=>by unfold SV.ofD;split <;> simp
 refine .tup (vs:=[u,v]) rfl λ i z y hz hy=>?_
 match i,hz,hy with
 | 0,hz,hy=>cases hz;cases hy;exact(zaQ h1).resolve_left (no _)
 | 1,hz,hy=>cases hz;cases hy;exact(zaQ h2).resolve_left (no _)
theorem znW {u v:Value}{p q:D}(h1:Rd g.F w u p)(h2:Rd g.F w v q):Den g w (.tuple #[.bool true,u,v]) (.tup [.kb true,SV.ofD p,SV.ofD q]):=by
 have no:∀ d:D,SV.ofD d ≠ .no:=λ d=>by unfold SV.ofD;split <;> simp
 refine .tup (vs:=[.bool true,u,v]) rfl λ i z y hz hy=>?_
 match i,hz,hy with
 | 0,hz,hy=>cases hz;cases hy;exact .kb
 | 1,hz,hy=>cases hz;cases hy;exact(zaQ h1).resolve_left (no _)
 | 2,hz,hy=>cases hz;cases hy;exact(zaQ h2).resolve_left (no _)
theorem zmk {arr:Array MapEntry}{cl i j:Nat}{x y:MapEntry}(h:MapKept.Stamped arr cl)(hi:arr[i]? = some x)(hj:arr[j]? = some y)(hb:x.born=y.born):i=j:=by
 have hn:=(MapKept.stamped_iff _ _ |>.1 h).2.1;have li:i<arr.size:=(Array.getElem?_eq_some_iff.1 hi).1;have lj:j<arr.size:=(Array.getElem?_eq_some_iff.1 hj).1
 have e1:(arr.toList.map (·.born))[i]? = some x.born:=by simp[hi]
 have e2:(arr.toList.map (·.born))[j]? = some x.born:=by simp[hj,hb]
 have l1:i<(arr.toList.map (·.born)).length:=by simpa using li
 have l2:j<(arr.toList.map (·.born)).length:=by simpa using lj
 rw[zrg l1] at e1;rw[zrg l2] at e2;have he:=(Option.some.inj e1).trans (Option.some.inj e2).symm
 rcases Nat.lt_trichotomy i j with hlt|h|hlt
 .exact absurd he (List.pairwise_iff_getElem.1 hn i j l1 l2 hlt)
 .exact h
 .exact absurd he.symm (List.pairwise_iff_getElem.1 hn j i l2 l1 hlt)
theorem zk1 {x:Operand}{is:Bool}(hs:SR fr nt g e m a w)(ho:∀ d,o.dst=some d->d<nt)(hop:o.op = .next x is)(his:is=false)
  (h:Pg.opd x zgD e m l K):Good P fr nt e m a w o K Q:=by
 obtain⟨sx,l1,hx,hbx,h⟩:=zaa hs h;subst his
 have h:∃ k,sx = .ptr k 0/\∃ es seen,m k = .mit es seen/\(∀ i p,es[i]? = some p->i ∉ seen->K ⟨.tup [.kb true,SV.ofD p.1,SV.ofD p.2],[(k, .mit es (i::seen))]⟩ (.b k::l1))/\((∀ i,i<es.length->i∈seen)->K ⟨.tup [.kb false],[]⟩ (.b k::l1)):=by
  unfold zgD at h
  split at h
  .rename_i k
   unfold Pg.getB at h;rw[zam] at h
   cases hm:m k with
   | mit es seen=>rw[hm] at h;exact⟨_,rfl,es,seen,hm,h.1,λ hh=>by have:=h.2 hh;rwa [zal] at this⟩
   | _=>rw[hm] at h;exact h.elim
  .exact h.elim
 obtain⟨k,rfl,es,seen,hm,hK1,hK2⟩:=h;obtain⟨hv,bm,cl,arr,sa,h1,h2,h3,h4,h5,h6,h7,h8⟩:=zmj hs hx hm;have hold:=(MapKept.stamped_iff _ _ |>.1 h4).1
 have seen_iff:∀ i x,arr[i]? = some x->(x.born∈sa.toList ↔ i∈seen):=by
  intro i x hx;rw[h7,List.mem_map];constructor
  .rintro ⟨j,hj,he⟩
   have hj:=List.mem_reverse.1 hj;have hlt:=h8 j hj;rw[Array.getElem?_eq_getElem hlt] at he;rw[zmk h4 hx (Array.getElem?_eq_getElem hlt) he.symm];exact hj
  .intro hi
   exact⟨i,List.mem_reverse.2 hi,by rw[hx];rfl⟩
 rcases run_next_at (P:=P) w o.type (g.β k) bm cl cl sa arr cl h1 h3 hold (Nat.le_refl _) with ⟨n1,n2⟩|⟨x',n1,w1,n2,n3⟩
 .have hrun:(execOp a.eval o).run P w = .ok (.value (.tuple #[.bool false])) w:=by simp[execOp,hop,hv,n2]
  refine zah hs ho (v := .tuple #[.bool false]) hrun (.inr (.tup (vs:=[.bool false]) rfl λ i u y hu hy=>?_)) (by simp[SV.ids,SV.idsL]) (hK2 λ i hi=>?_)
  .match i,hu,hy with
   | 0,hu,hy=>cases hu;cases hy;exact .kb
  .have hi':i<arr.size:=by omega
   refine(seen_iff i arr[i] (Array.getElem?_eq_getElem hi')).1 ?_;have:leftOf arr sa = #[]:=Array.eq_empty_of_size_eq_zero n1;unfold leftOf at this;rw[Array.filter_eq_empty_iff] at this;have:=this arr[i] (Array.getElem_mem hi');simpa using this
 .obtain ⟨i,hi⟩:=List.mem_iff_getElem?.1 (show x'∈arr.toList by unfold leftOf at n1;simp at n1;simpa using n1.1)
  have hi:arr[i]? = some x':=by simpa using hi
  have hil:i<arr.size:=(Array.getElem?_eq_some_iff.1 hi).1
  have hns:i ∉ seen:=by
   intro hin;have:=(seen_iff i x' hi).2 hin;unfold leftOf at n1;simp at n1;exact n1.2 (by simpa using this)
  have hp:es[i]? = some es[i]:=zrg (by omega);have hK:=hK1 i _ hp hns
  let w':World:=ChangeMaps.setBlock w1 (g.β k) (.mapIter (some bm) cl (sa.push x'.born) cl)
  have hrun:(execOp a.eval o).run P w = .ok (.value (.tuple #[.bool true,x'.key,x'.val])) w':=by simp[execOp,hop,hv,n3,w']
  have hheap:w1.heap=w.heap:=by rcases n2 with rfl|rfl <;> rfl
  unfold Good Oper.wp;rw[hrun];refine⟨_,_,hK,g, ?_⟩
  have hal:zac g m k:=by simp[zac,hm]
  have hlt:=zaT hs.mem hal
  have hother:∀ i,i≠g.β k->w'.heap[i]? = w.heap[i]? := λ i hi=>by
   simp only[w',ChangeMaps.setBlock];rw[Array.getElem?_setIfInBounds_ne (λ h=>hi h.symm),hheap]
  have hF:∀ b,g.F b->w'.heap[b]? = w.heap[b]? := λ b hb=>hother b λ e=>hs.mem.hot k hal (e ▸ hb)
  have hrel:ze2 g.F w' (g.β k) es (i::seen):=by
   refine⟨bm,cl,arr,sa.push x'.born,by simp[w',ChangeMaps.setBlock,hheap,hlt],h2,(hF _ h2).trans h3,h4,h5,λ i x p h1 h2=>⟨(h6 i x p h1 h2).1.mono (λ _ h=>h) hF,(h6 i x p h1 h2).2.mono (λ _ h=>h) hF⟩, ?_,λ j hj=>?_⟩
   .rw [Array.toList_push,h7,List.reverse_cons,List.map_append];simp[hi]
   .rcases List.mem_cons.1 hj with rfl|hj
    .exact hil
    .exact h8 j hj
  have hset:=hs.setB (w':=w') hal hother (by simp[w',ChangeMaps.setBlock,hheap]) (by rcases n2 with rfl|rfl <;> rfl) (by rcases n2 with rfl|rfl <;> rfl) (by rcases n2 with rfl|rfl <;> rfl) (b := .mit es (i::seen)) hrel (by simp) (by simp[Blk.ids])
  obtain⟨r1,r2⟩:=h6 i x' _ hi hp;exact hset.put ho (.inr (znW (r1.mono (λ _ h=>h) hF) (r2.mono (λ _ h=>h) hF))) (by simp[SV.ids,SV.idsL,zaX])
theorem zk2 {x:Operand}(hs:SR fr nt g e m a w)(ho:∀ d,o.dst=some d->d<nt)(hop:o.op = .entry x)
  (h:Pg.opd x zeZ e m l K):Good P fr nt e m a w o K Q:=by
 obtain⟨sx,l1,hx,hbx,h⟩:=zaa hs h
 have h:∃ k,sx = .ptr k 0/\∃ es seen,m k = .mit es seen/\∃ i r p,seen=i::r/\es[i]? = some p/\K ⟨.tup [SV.ofD p.1,SV.ofD p.2],[]⟩ (.b k::l1):=by
  unfold zeZ at h
  split at h
  .rename_i k
   unfold Pg.getB at h;rw[zam] at h
   cases hm:m k with
   | mit es seen =>
    rw[hm] at h;obtain⟨p,⟨i,r,hp1,hp2⟩,h⟩:=h;rw[zal] at h;exact⟨_,rfl,es,seen,hm,i,r,p,hp1,hp2,h⟩
   | _=>rw[hm] at h;exact h.elim
  .exact h.elim
 obtain⟨k,rfl,es,seen,hm,i,r,p,rfl,hp,hK⟩:=h;obtain⟨hv,bm,cl,arr,sa,h1,h2,h3,h4,h5,h6,h7,h8⟩:=zmj hs hx hm;have hil:=h8 i (by simp);have hi:arr[i]? = some arr[i]:=Array.getElem?_eq_getElem hil
 obtain⟨s1,hs1⟩:∃ s1:Array Nat,sa=s1.push arr[i].born:=by
  refine⟨(r.reverse.map (λ i=>((arr[i]?).map (·.born)).getD 0)).toArray,Array.toList_inj.1 ?_⟩
  rw[h7,Array.toList_push,List.reverse_cons,List.map_append];simp[hi]
 rw[hs1] at h1
 have hrun:(execOp a.eval o).run P w = .ok (.value (.tuple #[arr[i].key,arr[i].val])) w:=by
  have:=run_entry_at (P:=P) w (g.β k) bm cl s1 arr cl arr[i] h1 h3 (by simp) (MapKept.stamped_iff _ _ |>.1 h4).2.1;simp[execOp,hop,hv,this]
 obtain⟨r1,r2⟩:=h6 i _ p hi hp;exact zah hs ho hrun (.inr (zps r1 r2)) (by simp[SV.ids,SV.idsL,zaX]) hK
theorem SR.grow {w':World}(h:SR fr nt g e m a w)(hw:Ext w w'):SR fr nt { g with F:=λ b=>g.F b∨(w.heap.size<=b/\b<w'.heap.size) } e m a w':=by
 have h':=h.ext hw;have hF:∀ b,g.F b->g.F b∨(w.heap.size<=b/\b<w'.heap.size):=λ b hb=>.inl hb;refine { h' with mem:=⟨λ k=>h'.mem.blkMono hF (λ _ _=>rfl) ⟨rfl,rfl,rfl,List.prefix_rfl⟩ rfl (λ _ _=>⟨rfl,rfl,rfl,List.prefix_rfl⟩) λ _ b hx=>⟨hx,rfl⟩,h'.mem.inj,λ k hk hb=>?_,λ b hb=>?_,λ k b hk hx=>?_⟩,env:=λ t=>?_,given:=λ b hb=>.inl (h'.given b hb),frz:=λ b hb=>?_ }
 .rcases hb with hb|hb
  .exact h'.mem.hot k hk hb
  .have:=zaT h.mem hk
   have hb1:w.heap.size<=g.β k:=hb.1;omega
 .rcases hb with hb|hb
  .exact h'.mem.lt b hb
  .exact hb.2
 .obtain ⟨x1,x2,x3,x4⟩:=h'.mem.own k b hk hx
  refine⟨x1, ?_,x3,x4⟩;rintro(hb|hb)
  .exact x2 hb
  .have:=(h.mem.own k b hk hx).1
   omega
 .rcases h'.env t with hh|⟨v,h1,h2⟩
  .exact .inl hh
  .exact .inr ⟨v,h1,h2.mono hF (λ _ _=>rfl) λ _ _=>⟨rfl,rfl,rfl,List.prefix_rfl⟩⟩
 .rcases hb with hb|hb
  .exact h'.frz b hb
  .exact .inr (Nat.le_trans h.size hb.1)
theorem zdu:∀ {ds:List D} {q:List UInt8},zdr ds=some q->q.length=ds.length/\∀ (i:Nat) d,ds[i]? = some d->∃ n,d = .v (.int .u8 n)/\q[i]? = some (UInt8.ofNat n.toNat)
 | [],q,h=>by simp[zdr] at h;subst h;simp
 | d::r,q,h=>by
  unfold zdr at h
  split at h
  .rename_i hd;cases hd
  .rename_i n r' hd
   cases hd
   cases hb:zdr r with
   | none=>rw[hb] at h;cases h
   | some l =>
    rw[hb] at h
    cases h
    obtain⟨h1,h2⟩:=zdu hb;refine⟨by simp[h1],λ i d hd=>?_⟩
    cases i with
    | zero=>simp at hd;subst hd;exact⟨n,rfl,rfl⟩
    | succ i=>exact h2 i d (by simpa using hd)
  .cases h
theorem zk3 {src dst el : TypeId}{x : Operand}{sx : SV}{l' : List Loc}(hT : TyOK P c.ty)(hs : SR fr nt g e m a w)(ho : ∀ d, o.dst = some d -> d < nt)(hop : o.op = .convert src dst x)
    (hsrc : P.underlying src = some (.slice el)) (hdst : P.underlying dst = some .string) (hx : DenO g w (a.eval x) sx) (h : zgE c el sx e m l' K) : Good P fr nt e m a w o K Q := by
  unfold zgE at h
  cases ht : c.ty.at el with
  | none => rw [ht] at h; exact h.elim
  | some ti =>
  obtain ⟨kk, sz, by_, ag, cz, zz⟩ := ti;rw [ht] at h
  cases kk with
  | int k8 =>
   cases k8 with
   | u8 =>
    match sz, ht, h with
    | 0, ht, h => exact h.elim
    | n + 2, ht, h => exact h.elim
    | 1, ht, h =>
    obtain ⟨d, hd, _, hk⟩ := (hT el _ ht).desc;dsimp only at hk h;subst hk;obtain ⟨ns, l2, hsr, q, ⟨hq, hmx⟩, h⟩ := zcz (Nat.le_refl 1) hs hx h;rw [zal] at h;obtain ⟨A, cc, news, hxv, hA, hnl, hnc, hn1, hnr⟩ := hsr.ex;obtain ⟨hql, hqg⟩ := zdu hq
    have hnl : news.length = ns.length := by simpa using hnl
    have hsz : (⟨q.toArray⟩ : ByteArray).size <= maxLen := by
      show q.toArray.size <= maxLen;simp [hql]; exact hmx
    have hcell : ∀ j (hj : j < q.length), news[j]? = some (.int .u8 (q[j].toNat : Int)) := by
      intro j hj
      have hj' : j < ns.length := by omega
      have hdj := zrg hj';obtain ⟨n, hn, hqn⟩ := hqg j _ hdj;have hcl := hsr.len ns[j] (List.getElem_mem hj');obtain ⟨u, u1, u3⟩ := hnr j 0 ns[j] (.v (.int .u8 n)) hdj (by rw [hn]; rfl);rw [Nat.mul_one, Nat.add_zero] at u1;rw [u1]
      cases u3 with
      | v hp =>
        have hqj : q[j] = UInt8.ofNat n.toNat := by
          rw [zrg hj] at hqn;exact Option.some.inj hqn
        have : n.toNat < 256 := by simp [pl, IntKind.min, IntKind.max, IntKind.signed, IntKind.bits] at hp; omega
        have h0 : 0 <= n := by simp [pl, IntKind.min, IntKind.max, IntKind.signed, IntKind.bits] at hp; omega
        rw [hqj];simp [UInt8.toNat_ofNat', Nat.mod_eq_of_lt this, Int.toNat_of_nonneg h0]
    refine zah hs ho (v := .string ⟨q.toArray⟩) ?_ (.inr (.dat (.v hsz))) (by simp [SV.ids]) h
    cases A with
    | none =>
      have h0 : ns.length = 0 := hA rfl;have hq0 : q = [] := List.eq_nil_of_length_eq_zero (by omega);subst hq0;have hc := run_convert_bytes_string (P := P) w src dst el none ns.length cc hsrc hd hdst;simp [execOp, hop, hxv, hc, Conv.bytesToString];rfl
    | some ad =>
      have hc := run_convert_bytes_back (P := P) w src dst el ad cc q hsrc hd hdst λ j hj => by
        have h1 := hcell j hj;exact hnc ad rfl j _ h1
      rw [hql] at hc;simp [execOp, hop, hxv, hc]
   | _ => exact h.elim
  | _ => exact h.elim
theorem zh8 {src dst el : TypeId}{x : Operand}{sx : SV}{id : Nat}{l' : List Loc}(hT : TyOK P c.ty)(hs : SR fr nt g e m a w)(ho : ∀ d, o.dst = some d -> d < nt)(hop : o.op = .convert src dst x)
    (hsrc : P.underlying src = some .string) (hdst : P.underlying dst = some (.slice el)) (hx : DenO g w (a.eval x) sx) (hp : fr.p <= id) (h : zdN c el sx id e m l' K) : Good P fr nt e m a w o K Q := by
  unfold zdN at h
  cases ht : c.ty.at el with
  | none => rw [ht] at h; exact h.elim
  | some ti =>
  obtain ⟨kk, sz, by_, ag, cz, zz⟩ := ti;rw [ht] at h
  cases kk with
  | int k8 =>
   cases k8 with
   | u8 =>
    match sz, ht, h with
    | 0, ht, h => exact h.elim
    | n + 2, ht, h => exact h.elim
    | 1, ht, h =>
    obtain ⟨d, hd, _, hk⟩ := (hT el _ ht).desc;dsimp only at hk h;subst hk;obtain ⟨s, rfl, h⟩ := zgW h
    . obtain ⟨hv, hr⟩ := Den.str hx
      obtain ⟨q, rfl, h⟩ := h;have hcv := run_bytes_of_string (P := P) w src dst el s hsrc hdst hd;generalize hcap : grownCap w s.size 0 el = cap at hcv
      have hc1 : s.size <= cap := by rw [<- hcap]; exact grownCap_ge w s.size 0 el
      have hc2 : cap <= maxLen := by rw [<- hcap]; exact grownCap_le_maxLen w s.size 0 el hr
      generalize hC : bytesRow s cap = C at hcv
      have hcell : ∀ (j : Nat) (b : UInt8), s.data.toList[j]? = some b -> C[j]? = some (Value.int .u8 b.toNat) := by
        intro j b hb;rw [<- hC];unfold bytesRow
        have hj : j < s.data.size := by simpa using (zrf.1 hb).1
        rw [Array.getElem?_append_left (by simpa using hj)]
        have : s.data[j]? = some b := by simpa using hb
        simp [this]
      have hrun : (execOp a.eval o).run P w = .ok (.value (.slice (some ⟨w.heap.size, 0, none⟩) s.size cap)) (w.drew.alloc (.cells C el (C.size, C.size + 1))) := by
        simp [execOp, hop, hv, hcv]
      have hext : Ext w (w.drew.alloc (.cells C el (C.size, C.size + 1))) := by
        have h1 := Ext.drew w;have h2 := Ext.alloc w.drew (.cells C el (C.size, C.size + 1));exact ⟨h2.os.trans h1.os, h2.tape.trans h1.tape, h2.output.trans h1.output, Nat.le_trans h1.size h2.size, λ b hb => (h2.old b (Nat.lt_of_lt_of_le hb h1.size)).trans (h1.old b hb)⟩
      have hgr := hs.grow hext;have hnew : (w.drew.alloc (.cells C el (C.size, C.size + 1))).heap[w.heap.size]? = some (.cells C el (C.size, C.size + 1)) := za7 w.drew _
      have hsz : (w.drew.alloc (.cells C el (C.size, C.size + 1))).heap.size = w.heap.size + 1 := by
        show (w.heap.push _).size = _; simp
      rcases h with h | h
      . rw [zal] at h
        unfold Good Oper.wp;rw [hrun];refine ⟨_, _, h, _, hgr.put ho (.inr (.dat ?_)) (by simp [SV.ids])⟩;refine .sl (s := 1) (λ i j => Value.int .u8 ((s.data.toList.getD i 0).toNat)) (by simp) hc1 hc2 (.inr ⟨Nat.le_refl _, by rw [hsz]; omega⟩) (λ el hel => ?_) (λ i j el' d hel hdd => ?_) (λ _ _ _ _ _ _ => rfl) λ i j el' d hel hdd => ?_
        . obtain ⟨b, _, rfl⟩ := List.mem_map.1 hel; rfl
        . rw [List.getElem?_map] at hel
          cases hb : s.data.toList[i]? with
          | none => rw [hb] at hel; cases hel
          | some b =>
            rw [hb] at hel; cases hel
            have hj : j = 0 := by
              have := (zrf.1 hdd).1;simp [D.cells] at this; omega
            subst hj;have h1 := hcell i b hb;have h2 := cell_of_row _ w.heap.size i C el _ hnew;rw [show 0 + i * 1 + 0 = i by omega, h2, h1, List.getD_eq_getElem?_getD, hb]; rfl
        . rw [List.getElem?_map] at hel
          cases hb : s.data.toList[i]? with
          | none => rw [hb] at hel; cases hel
          | some b =>
            rw [hb] at hel; cases hel
            have hj : j = 0 := by
              have := (zrf.1 hdd).1;simp [D.cells] at this; omega
            subst hj;simp [D.cells] at hdd;subst hdd;simp only [List.getD_eq_getElem?_getD, hb, Option.getD_some];have := b.toNat_lt;exact .v (by simp [pl, IntKind.min, IntKind.max, IntKind.signed, IntKind.bits]; omega)
      . obtain ⟨hid, l2, h⟩ : m id = .unborn /\ ∃ l2, Pg.ex (λ n : Nat => n = (s.data.toList.map λ b => D.v (.int .u8 b.toNat)).length) (λ n => Pg.ret ⟨.rs id n, [(id, .row el 1 (s.data.toList.map λ b => D.v (.int .u8 b.toNat)))]⟩) e m l2 K := by
          simp only [fresh, Pg.getB, zam] at h
          cases hm : m id with
          | unborn => rw [hm] at h; exact ⟨rfl, _, h⟩
          | _ => rw [hm] at h; exact h.elim
        obtain ⟨n, hn, h⟩ := h
        have hn' : n = s.size := by rw [hn]; simp
        rw [hn'] at h;refine zh2 (w' := w.drew) (z := (C.size, C.size + 1)) (cap := cap) (s := 1) hs ho ⟨hp, hid⟩ (Ext.drew w) hrun (.inr (Nat.le_refl _)) hc1 hc2 (by simpa using hc1) ?_ (λ el' hel => ?_) (λ i j el' d hel hdd => ?_) h
        . rw [<- hC]; unfold bytesRow; simp; omega
        . obtain ⟨b, _, rfl⟩ := List.mem_map.1 hel; rfl
        . rw [List.getElem?_map] at hel
          cases hb : s.data.toList[i]? with
          | none => rw [hb] at hel; cases hel
          | some b =>
            rw [hb] at hel; cases hel
            have hj : j = 0 := by
              have := (zrf.1 hdd).1;simp [D.cells] at this; omega
            subst hj;simp [D.cells] at hdd;subst hdd;have := b.toNat_lt;exact ⟨_, by rw [Nat.mul_one, Nat.add_zero]; exact hcell i b hb, rfl, .v (by simp [pl, IntKind.min, IntKind.max, IntKind.signed, IntKind.bits]; omega)⟩
   | _ => exact h.elim
  | _ => exact h.elim
theorem zml {src dst:TypeId}{x:Operand}{id:Nat}(hp:fr.p<=id)(hT:TyOK P c.ty)(hs:SR fr nt g e m a w)(ho:∀ d,o.dst=some d->d<nt)(hop:o.op = .convert src dst x)
  (h:Pg.opd x (λ sx=>zhP c src dst sx id) e m l K):Good P fr nt e m a w o K Q:=by
 obtain⟨sv,l',hx,hb,h1⟩:=zaa hs h;unfold zhP at h1
 cases hts:c.ty.at src with
 | none=>simp only[hts] at h1;exact h1.elim
 | some tsrc =>
 cases ht:c.ty.at dst with
 | none=>simp only[hts,ht] at h1;exact h1.elim
 | some ti =>
 obtain⟨k1,sz1,by1,ag1,cz1,z1⟩:=tsrc;obtain⟨k2,sz2,by2,ag2,cz2,z2⟩:=ti;simp only[hts,ht] at h1;obtain⟨d1,hd1,_,hk1⟩:=(hT src _ hts).desc;obtain⟨d,hd,_,hk⟩:=(hT dst _ ht).desc
 cases k2 with
 | int k =>
  dsimp only at h1 hk
  have hsrc:(P.underlying src).isSome=true:=by rw[hd1];rfl
  subst hk
  have h1:∃ k' n,sv = .dat (.v (.int k' n))/\(bif zj5 k' k then one (.dat (.v (.int k n))) else int? (k.wrap n) λ c=>one (.dat (.v (.int k c)))) e m l' K:=by
   split at h1
   .exact ⟨_,_,rfl,h1⟩
   .exact h1.elim
  obtain⟨k',n,rfl,h1⟩:=h1
  .obtain ⟨hv,hr⟩:=Den.int hx
   have hik:P.intKind dst=k:=by simp[Program.intKind,hd]
   have this:∀ k' n,(convert src dst (.int k' n)).run P w = .ok (.int k (k.wrap n)) w:=by
    intro k' n;have:=run_convert_int (P:=P) w src dst k' n hsrc (by rw[hik];exact hd);rw[hik] at this;exact this
   cases hw:zj5 k' k with
   | true =>
    simp only[hw,cond_true,zal] at h1
    have hk:k.min<=n/\n<=k.max:=by
     clear this hv hx hb h1 hik hd ht hts hsrc hd1 hk1
     cases k' <;> cases k <;> simp only[zj5,Bool.false_eq_true,reduceCtorEq] at hw <;> simp[IntKind.min,IntKind.max,IntKind.signed,IntKind.bits] at hr ⊢ <;> omega
    have h2:=this k' n;rw[zi3 hk] at h2;exact zah hs ho (by simp[execOp,hop,hv,h2]) (za2 hk) (by simp[SV.ids]) h1
   | false =>
    simp only[hw,cond_false] at h1;simp only[int?,Pg.ex,zal] at h1;obtain⟨cc,rfl,hK⟩:=h1;exact zah hs ho (by simp[execOp,hop,hv,this]) (za2 (zbW _ _)) (by simp[SV.ids]) hK
 | str =>
  dsimp only at hk;subst hk
  cases k1 with
  | slice e1 es1 ea1 =>
   dsimp only at hk1;obtain⟨rfl,_⟩:=hk1;exact zk3 hT hs ho hop hd1 hd hx h1
  | str =>
   dsimp only at hk1 h1;subst hk1;obtain⟨s,rfl,h1⟩:=zgW (A:=λ s=>one (.dat (.v (.string s)))) h1
   .obtain ⟨hv,hr⟩:=Den.str hx
    simp only[zal] at h1;refine zah hs ho (v := .string s) ?_ (.inr (.dat (.v hr))) (by simp[SV.ids]) h1;simp[execOp,hop,hv,convert,run_underlying hd,run_underlying hd1]
  | _=>exact h1.elim
 | slice e1 es1 ea1 =>
  dsimp only at hk;obtain⟨rfl,_⟩:=hk
  cases k1 with
  | str =>
   dsimp only at hk1;subst hk1;exact zh8 hT hs ho hop hd1 hd hx hp h1
  | _=>exact h1.elim
 | _=>cases k1 <;> exact h1.elim
end
end Go.Vc

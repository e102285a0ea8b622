/-
  A library for proofs about Go functions by symbolic evaluation,and plain Lean functions that the walked Go functions compute (written by a program of this claim).
-/
import Derived.Test.YtijmkjnlgcockaaGreatDoorVc3
import Derived.Scope
import Derived.DeepKeys3
import Derived.ProofKit
import Derived.JoinedTies
import Derived.HandedShaped
import GoSem.ClaimJoined
import Derived.LaidMore
import Derived.Stop.Joined
set_option linter.unusedVariables false
set_option linter.unnecessarySimpa false
set_option linter.unusedSimpArgs false
namespace Go.Vc
open Go.RowKit
def zcS (nt:Nat):Code->Bool
 | .region _ ops draw=>zus nt ops.toList&&(!draw || zk3 ops.toList 0)
 | .seq a b=>zcS nt a&&zcS nt b
 | .cond _ a b=>zcS nt a&&zcS nt b
 | .block _ a=>zcS nt a
 | .loop a=>zcS nt a
 | .scope a=>zcS nt a
 | _=>true
def exOf:Ex->Exit
 | .normal=>.normal
 | .exit i=>.exit i
 | .ret=>.ret
theorem zqH {s:Ann}{p q:Nat}(h:s.ok p=true)(hq:q<=p):∀ r,r∈s.re->q<=r.2.1:=λ r hr=>Nat.le_trans hq (zyV (List.all_eq_true.1 h r hr))
section
variable {P:Program} {fr:Fr} {nt:Nat} {c:Ctx} {p nid:Nat}
theorem zjy (hm:P.follows .mixedOrders=true)(hT:TyOK P c.ty)(hC:CtxF P fr c)(hnid:fr.p<=nid)(hp:fr.p<=p):∀ (code:Code) (st:St) (K:Ex->St->Prop) (Q:Exit->Act->World->Prop) (a:Act) (w:World),
  zcS nt code=true->vc c p nid code st K->SRel fr nt st.e st.m a w->(∀ ex st' a' w',K ex st'->SRel fr nt st'.e st'.m a' w'->Q (exOf ex) a' w')->code.wp P Q a w:=by
 intro code
 induction code with
 | skip=>intro st K Q a w _ h hs hq;exact wp_skip (hq .normal st a w h hs)
 | label l=>intro st K Q a w _ h hs hq;exact wp_label (hq .normal st a w h hs)
 | region id ops draw =>
  intro st K Q a w hok h hs hq;simp only[zcS,zyW] at hok;have hd:∀ o,o∈ops.toList->∀ d,o.dst=some d->d<nt:=λ o ho=>zvp hok.1 ho
  cases draw with
  | false =>
   refine wp_region_list (zqE hT hC (K:=K .normal) (λ st' a' w' h1 h2=>hq .normal st' a' w' h1 h2) _ (nid+100*id) st a w (by omega) hd hs ?_);simpa [vc] using h
  | true =>
   have hs':SRel fr nt st.e st.m a { w with drawn:=w.drawn+1 }:=by
    obtain⟨g,hs⟩:=hs;exact⟨g,hs.ext (Ext.drew w)⟩
   have hC':=hC.loc
   have hb:zk3 ops.toList 0=true:=by simpa using hok.2
   refine wp_region_any hm ?_;simp only[vc,cond_true] at h
   cases ht:zoO ops.toList with
   | true =>
    rw[ht] at h;exact zqG (c:=c.loc) (c':=c) rfl hT hC'.1 hC'.2 hC (K:=K .normal) (id:=nid+100*id) (st:=st) (λ st' a' w' h1 h2=>hq .normal st' a' w' h1 h2) hd (by omega) hb hs' ht h
   | false =>
    rw[ht] at h
    rcases h with h|⟨k,z,i,o,e,s,l,ks,es,outs,hT',h⟩
    .exact znK (c:=c.loc) hT hC'.1 hC'.2 (K:=K .normal) (id:=nid+100*id) (st:=st) (λ st' a' w' h1 h2=>hq .normal st' a' w' h1 h2) hd (by omega) hb hs' h
    .have hs2:SRel fr nt (st.takenR k z i o e s l ks es outs).e (st.takenR k z i o e s l ks es outs).m a { w with drawn:=w.drawn+1 }:=by
      obtain⟨g,hs'⟩:=hs';obtain⟨g',_,_,_,_,h2,_⟩:=hs'.takeR hT'.1 hT'.2.1 hT'.2.2.1 ⟨Nat.le_trans hp (zyV hT'.2.2.2.1),hT'.2.2.2.2⟩;refine⟨g', ?_⟩
      have hm2:(st.takenR k z i o e s l ks es outs).m=mApp [(z, .row e s l),(k, .fam ks es ((i,o,z)::outs))] st.m:=by
       funext q;simp only[St.takenR,St.m,get,mApp]
      rw[hm2];exact h2
     exact znK (c:=c.loc) hT hC'.1 hC'.2 (K:=K .normal) (id:=nid+100*id) (st:=st.takenR k z i o e s l ks es outs) (λ st' a' w' h1 h2=>hq .normal st' a' w' h1 h2) hd (by omega) hb hs2 h
 | seq x y ihx ihy =>
  intro st K Q a w hok h hs hq;simp only[zcS,zyW] at hok
  rcases h with h|⟨α,s,V,B,I,hz,h,h'⟩
  .refine wp_seq (ihx st _ _ a w hok.1 h hs λ ex st' a' w' h1 h2=>?_)
   cases ex with
   | normal=>exact ihy st' K Q a' w' hok.2 h1 h2 hq
   | exit i=>exact hq (.exit i) st' a' w' h1 h2
   | ret=>exact hq .ret st' a' w' h1 h2
  .refine wp_seq (ihx st _ _ a w hok.1 h hs λ ex st' a' w' h1 h2=>?_)
   cases ex with
   | normal =>
    have h1:st'.head s (λ v bl=>∃ x,I x/\v=V x/\bl=B x):=h1;obtain⟨vs,bl,⟨x,hI,rfl,rfl⟩,hs'⟩:=zdv (zqH hz hp) h2 h1;exact ihy _ K Q a' w' hok.2 (h' x hI) hs' hq
   | exit i=>exact hq (.exit i) st' a' w' h1 h2
   | ret=>exact hq .ret st' a' w' h1 h2
 | cond x y z ihy ihz =>
  intro st K Q a w hok h hs hq;simp only[zcS,zyW] at hok
  cases x with
  | tmp t =>
   simp only[vc] at h;obtain⟨g,hs⟩:=hs
   have hv:∀ b,st.e t = .kb b->a.eval (.tmp t) = .bool b:=by
    intro b hb
    rcases hs.env t with h'|⟨u,h1,h2⟩
    .rw [h'] at hb;cases hb
    .rw [hb] at h2;cases h2;simp[Act.eval,Array.getD_eq_getD_getElem?,h1]
   split at h
   .rename_i b hb
    cases b with
    | true=>exact wp_cond_true (hv _ hb) (ihy st K Q a w hok.1 (h.1 rfl) ⟨g,hs⟩ hq)
    | false=>exact wp_cond_false (hv _ hb) (ihz st K Q a w hok.2 (h.2 rfl) ⟨g,hs⟩ hq)
   .exact h.elim
  | const v =>
   simp only[vc] at h
   cases v with
   | bool b =>
    cases b with
    | true=>exact wp_cond_true rfl (ihy st K Q a w hok.1 (h.1 rfl) hs hq)
    | false=>exact wp_cond_false rfl (ihz st K Q a w hok.2 (h.2 rfl) hs hq)
   | _=>exact h.elim
  | _=>exact h.elim
 | scope x ih =>
  intro st K Q a w hok h hs hq;refine wp_scope_straight (ih st K _ a w hok h hs λ ex st' a' w' h1 h2=>?_)
  cases ex with
  | normal=>exact hq .normal st' a' w' h1 h2
  | exit i=>exact hq (.exit i) st' a' w' h1 h2
  | ret=>exact hq .ret st' a' w' h1 h2
 | block id x ih =>
  intro st K Q a w hok h hs hq;refine wp_block (ih st _ _ a w hok h hs λ ex st' a' w' h1 h2=>?_)
  cases ex with
  | normal=>exact hq .normal st' a' w' h1 h2
  | ret=>exact hq .ret st' a' w' h1 h2
  | exit i =>
   simp only[Kblk] at h1;show Exit.inBlock id Q (.exit i) a' w';simp only[Exit.inBlock];by_cases hi:i=id
   .subst hi
    rw[if_pos rfl];simp only[Nat.beq_refl,cond_true] at h1;exact hq .normal st' a' w' h1 h2
   .rw [if_neg hi]
    rw[beqF hi] at h1;exact hq (.exit i) st' a' w' h1 h2
 | loop x ih =>
  intro st K Q a w hok h hs hq;obtain⟨α,s,V,B,I,μ,hz,h0,h1⟩:=h;refine zpp (α:=α) (λ x a w=>I x/\SRel fr nt (St.mk' s (V x) (B x)).e (St.mk' s (V x) (B x)).m a w) μ ?_ ?_
  .obtain ⟨vs,bl,⟨x,hI,rfl,rfl⟩,hs'⟩:=zdv (zqH hz hp) hs h0
   exact⟨x,hI,hs'⟩
  .rintro x a w ⟨hI,hs'⟩
   refine ih _ _ _ a w hok (h1 x hI) hs' λ ex st' a' w' h2 h3=>?_
   cases ex with
   | normal =>
    have h2:st'.head s (λ v b=>∃ y,I y/\v=V y/\b=B y/\μ y<μ x):=h2;obtain⟨vs',bl',⟨y,hI',rfl,rfl,hlt⟩,hs''⟩:=zdv (zqH hz hp) h3 h2;exact⟨y,⟨hI',hs''⟩,hlt⟩
   | exit i=>exact hq (.exit i) st' a' w' h2 h3
   | ret=>exact hq .ret st' a' w' h2 h3
 | exit i=>intro st K Q a w _ h hs hq;exact wp_exit (hq (.exit i) st a w h hs)
 | ret=>intro st K Q a w _ h hs hq;exact wp_ret (hq .ret st a w h hs)
 | _=>intro st K Q a w _ h;exact h.elim
end
mutual
def D.ok:D->Prop
 | .v x=>pl x
 | .agg cs=>D.okL cs
 | .tup cs=>D.okL cs
 | .sl s es=>es.length<=maxLen/\D.okL es/\∀ e,e∈es->e.cells.length=s
 | .ifc _ d=>d.ok
 | .pt cs=>D.okL cs
def D.okL:List D->Prop
 | []=>True
 | d::l=>d.ok/\D.okL l
end
theorem zf2 {l:List D}:D.okL l ↔ ∀ d,d∈l->d.ok:=by
 induction l with
 | nil=>simp[D.okL]
 | cons x r ih=>simp[D.okL,ih]
theorem Rd.ok {F:Nat->Prop}{w:World}{v:Value}{d:D}(h:Rd F w v d):d.ok:=by
 induction h with
 | v h=>simpa only[D.ok] using h
 | @agg vs cs h1 _ _ ih =>
  simp only[D.ok,zf2];intro d hd;obtain⟨i,hi,rfl⟩:=List.getElem_of_mem hd;exact ih i _ _ (zyS (by omega)) (zyS hi)
 | @tup vs cs h1 _ ih =>
  simp only[D.ok,zf2];intro d hd;obtain⟨i,hi,rfl⟩:=List.getElem_of_mem hd;exact ih i _ _ (zyS (by omega)) (zyS hi)
 | nil h=>simp[D.ok,D.okL]
 | @sl b off n cap s es f h1 h2 h3 h4 h5 h6 h7 h8 ih =>
  simp only[D.ok,zf2];refine⟨by omega,λ e he=>?_,h5⟩;obtain⟨i,hi,rfl⟩:=List.getElem_of_mem he;have key:∀ (j:Nat) (d:D),(es[i]).cells[j]? = some d->d.ok:=λ j d hd=>ih i j _ _ (zyS hi) hd
  cases hel:es[i] with
  | agg cs =>
   rw[hel] at key;simp only[D.ok,zf2];intro d hd;obtain⟨j,hj,rfl⟩:=List.getElem_of_mem hd;exact key j _ (by simp[D.cells,hj])
  | _=>rw[hel] at key;exact key 0 _ (by simp[D.cells])
 | ifc h ih=>simpa only[D.ok] using ih
 | @pt b off cs f h1 h2 h3 h4 ih =>
  simp only[D.ok,zf2];intro d hd;obtain⟨i,hi,rfl⟩:=List.getElem_of_mem hd;exact ih i _ (zyS hi)
def pack:List D->D
 | [d]=>d
 | l=>.tup l
def Pg.result (c:Ctx)(r:ResultVar)(k:SV->Pg):Pg :=
 match r with
 | .tmp t=>Pg.getT t k
 | .cell t ty=>Pg.getT t λ sv=>match c.ty.at ty with
  | some ti=>λ e m l K=>zdm ti sv e m l λ δ l' => k δ.val e m l' K
  | none=>Pg.fail
def Pg.results (c:Ctx):List ResultVar->(List SV->Pg)->Pg
 | [],k=>k []
 | r::rs,k=>Pg.result c r λ x=>Pg.results c rs λ l=>k (x::l)
def retD (c:Ctx)(zs:List (List Nat))(rs:List ResultVar)(d:D):Ex->St->Prop
 | .ret,st | .normal,st=>Pg.results c rs (λ xs=>Pg.datas zs xs λ ds ws=>cond (pack ds=d) (Pg.ret ⟨.no,ws⟩)) st.e st.m [] λ _ _=>True
 | _,_=>False
def zhm (ds:List D):St:={ env:=(List.range ds.length).zip (ds.map SV.ofD),mem:=[] }
theorem znM (ds:List D)(t:Nat):(zhm ds).e t=(match ds[t]? with|some d=>SV.ofD d|none=>.no):=by
 show get SV.no _ t=_
 have key:∀ (l:List D) (k:Nat),get SV.no ((List.range' k l.length).zip (l.map SV.ofD)) t=(if k<=t then (match l[t-k]? with|some d=>SV.ofD d|none=>.no) else .no):=by
  intro l
  induction l with
  | nil=>intro k;simp[get]
  | cons x r ih =>
   intro k;simp only[List.length_cons,List.range'_succ,List.map_cons,List.zip_cons_cons,get];by_cases h:k=t
   .subst h;simp
   .rw [beqF h,cond_false,ih (k+1)]
    by_cases h2:k<=t
    .rw [if_pos h2,if_pos (by omega)]
     rw[show t-k=(t-(k+1))+1 by omega,List.getElem?_cons_succ]
    .rw [if_neg h2,if_neg (by omega)]
 have:=key ds 0;simpa [zhm,List.range_eq_range'] using this
def resF (tmps:Array Value):ResultVar->Sem Value
 | .tmp t=>pure (tmps.getD t undef)
 | .cell a t=>do loadVar t (<- asAddr (tmps.getD a undef))
theorem zsU {P:Program}{w:World}{F:ResultVar->Sem Value}:∀ (rs:List ResultVar) (vs:List Value),vs.length=rs.length->(∀ (i:Nat) r v,rs[i]? = some r->vs[i]? = some v->(F r).run P w = .ok v w)->(rs.mapM F).run P w = .ok vs w:=by
 intro rs
 induction rs with
 | nil=>intro vs hl h;cases vs with
  | nil=>rfl
  | cons=>simp at hl
 | cons r rs ih =>
  intro vs hl h
  cases vs with
  | nil=>simp at hl
  | cons v vs =>
   have h0:=h 0 r v rfl rfl;have h1:=ih vs (by simpa using hl) λ i r v hr hv=>h (i+1) r v (by simpa using hr) (by simpa using hv);rw[List.mapM_cons];simp[h0,h1]
def zpq:List Value->Value
 | [v]=>v
 | vs=>.tuple vs.toArray
theorem ze4 {P:Program}{w:World}{fn:Func}{tmps:Array Value}{rs:List ResultVar}{vs:List Value}(hr:fn.results=rs.toArray)(hl:vs.length=rs.length)
  (h:∀ (i:Nat) r v,rs[i]? = some r->vs[i]? = some v->(resF tmps r).run P w = .ok v w):(results fn tmps).run P w = .ok (zpq vs) w:=by
 have hm:=zsU rs vs hl h;have he:results fn tmps=(do let vs <- fn.results.mapM (resF tmps);pure (if h:vs.size=1 then vs[0] else .tuple vs)):=rfl;rw[he,hr,List.mapM_toArray]
 have key:((Functor.map List.toArray (rs.mapM (resF tmps))) >>= λ vs=>(pure (if h:vs.size=1 then vs[0] else .tuple vs):Sem Value)).run P w = .ok (if h:vs.toArray.size=1 then vs.toArray[0] else .tuple vs.toArray) w:=by simp[hm]
 rw[key];clear key hm h hl
 cases vs with
 | nil=>rfl
 | cons t r=>cases r with
  | nil=>rfl
  | cons t' r=>simp[zpq]
section
variable {P:Program} {fr:Fr} {nt:Nat} {g:Gh} {e:Nat->SV} {m:Nat->Blk} {a:Act} {w:World} {c:Ctx} {l:List Loc} {K:Dl->List Loc->Prop}
theorem zk5 (hT:TyOK P c.ty)(hs:SR fr nt g e m a w){r:ResultVar}{k:SV->Pg}(h:Pg.result c r k e m l K) :
  ∃ (v:Value) (x:SV) (l':List Loc),(resF a.tmps r).run P w = .ok v w/\DenO g w v x/\(∀ i,i∈x.ids->m i ≠ .unborn)/\k x e m l' K:=by
 cases r with
 | tmp t =>
  simp only[Pg.result,Pg.getT,zb6] at h;refine⟨a.tmps.getD t undef,e t,_,rfl, ?_,hs.bornE t,h⟩
  rcases hs.env t with h'|⟨v,h1,h2⟩
  .exact .inl h'
  .right;simpa [Array.getD_eq_getD_getElem?,h1] using h2
 | cell t ty =>
  simp only[Pg.result,Pg.getT,zb6] at h
  cases hty:c.ty.at ty with
  | none=>rw[hty] at h;exact h.elim
  | some ti =>
   rw[hty] at h
   have hx:DenO g w (a.tmps.getD t undef) (e t):=by
    rcases hs.env t with h'|⟨v,h1,h2⟩
    .exact .inl h'
    .right;simpa [Array.getD_eq_getD_getElem?,h1] using h2
   obtain⟨ad,u,y,l',h0,h1,h2,h3,h4⟩:=zkC (hT ty ti hty) hs hx (hs.bornE t) h;refine⟨u,y,l', ?_,h2,h3,h4⟩;rw[h0] at h1;simp only[resF,h0,asAddr,pure_bind];simpa [Instr.loadAt,Instr.sureAddr] using h1
theorem zdK (hT:TyOK P c.ty)(hs:SR fr nt g e m a w):∀ {rs:List ResultVar} {k:List SV->Pg} {l:List Loc},Pg.results c rs k e m l K ->
  ∃ (vs:List Value) (xs:List SV) (l':List Loc),vs.length=rs.length/\xs.length=rs.length/\(∀ (i:Nat) r v,rs[i]? = some r->vs[i]? = some v->(resF a.tmps r).run P w = .ok v w)/\(∀ (i:Nat) v x,vs[i]? = some v->xs[i]? = some x->DenO g w v x) /\
   (∀ x,x∈xs->∀ i,i∈x.ids->m i ≠ .unborn)/\k xs e m l' K:=by
 intro rs
 induction rs with
 | nil=>intro k l h;exact⟨[],[],l,rfl,rfl,by simp,by simp,by simp,h⟩
 | cons r rs ih =>
  intro k l h;obtain⟨v,x,l1,h1,h2,h3,h4⟩:=zk5 hT hs h;obtain⟨vs,xs,l2,g1,g2,g3,g4,g5,g6⟩:=ih h4;refine⟨v::vs,x::xs,l2,by simp[g1],by simp[g2],λ i r' v' hr hv=>?_,λ i v' x' hv hx=>?_,λ y hy=>?_,g6⟩
  .cases i with
   | zero=>simp at hr hv;subst hr hv;exact h1
   | succ i=>exact g3 i r' v' (by simpa using hr) (by simpa using hv)
  .cases i with
   | zero=>simp at hx hv;subst hx hv;exact h2
   | succ i=>exact g4 i v' x' (by simpa using hv) (by simpa using hx)
  .rcases List.mem_cons.1 hy with rfl|hy
   .exact h3
   .exact g5 y hy
end
section
variable {P:Program} {c:Ctx}
theorem zan (hm : P.follows .mixedOrders = true)(hT : TyOK P c.ty)(hC : CtxOK P c){f : FuncId}{fn : Func}{code : Code}{rs : List ResultVar}(zs : List (List Nat))(n : Nat){G : List D → D → Prop}
    (hf : P.funcs[f]? = some fn) (hb : fn.body = some code) (hr : fn.results = rs.toArray) (hn : n ≤ fn.ntmps) (hok : zcS fn.ntmps code = true)
    (h : ∀ ds d, G ds d → D.okL ds → ds.length = n ∧ vc c 0 0 code (zhm ds) (retD c zs rs d)) : PureOK P f G := by
  intro w Z vs ds d hZ hl hrd hglb hG
  have hdok : D.okL ds := by
    rw [zf2];intro x hx;obtain ⟨i, hi, rfl⟩ := List.getElem_of_mem hx;exact (hrd i _ _ (zyS (by omega)) (zyS hi)).ok
  obtain ⟨hlen, hvc⟩ := h ds d hG hdok
  let fr : Fr := { w0 := w, Kp := fun b => b < w.heap.size, Z := Z, Y := Z, p := 0, g0 := { β := fun _ => 0, C := fun _ => 0, N := fun _ => false, M := fun _ => [], F := Z, X := fun _ _ => False } }
  let g : Gh := { β := fun _ => 0, C := fun _ => 0, N := fun _ => false, M := fun _ => [], F := Z, X := fun _ _ => False }
  have hal : ∀ k, ¬ zab g (zhm ds).m k := fun k hk => hk
  have hs : SR fr fn.ntmps g (zhm ds).e (zhm ds).m { tmps := vs.toArray ++ Array.replicate (fn.ntmps - vs.toArray.size) undef, defers := [] } w := by
    refine { mem := ⟨fun k => trivial, fun k k' hk => (hal k hk).elim, fun k hk => (hal k hk).elim, hZ, fun k _ hk => (hal k hk).elim⟩, env := fun t => ?_, bornE := fun t k hk => ?_, bornM := fun b k hk => ?_, os := rfl, tape := rfl, output := rfl, size := Nat.le_refl _,
             keep := fun b hb => ⟨hb, rfl⟩, safe := fun k hk => (hal k hk).elim, safeX := fun k _ hk => (hal k hk).elim, given := fun b hb => hb, frz := fun b hb => .inl hb, defers := rfl, tmps := ?_, pin := fun k hk => absurd hk (Nat.not_lt_zero k) }
    · rw [znM]
      cases hd : ds[t]? with
      | none => exact .inl rfl
      | some x =>
        have ht : t < vs.length := by rw [hl]; exact (zyR.1 hd).1
        have hv : vs[t]? = some vs[t] := zyS ht
        rcases zbJ (g := g) (hrd t _ _ hv hd) with h | h
        · exact .inl h
        · refine .inr ⟨vs[t], ?_, h⟩
          simp [Array.getElem?_append, ht]
    · rw [znM] at hk
      split at hk
      · rw [zbK] at hk; cases hk
      · simp [SV.ids] at hk
    · have : (zhm ds).m b = .unborn := rfl
      rw [this] at hk; simp [Blk.ids] at hk
    · simp; omega
  refine calls_of_wp hf hb (zjy (fr := fr) hm hT (hC.at ⟨hglb, fun b hb => hglb.lt hb⟩) (Nat.zero_le _) (Nat.zero_le _) code _ _ _ _ w hok hvc ⟨g, hs⟩ fun ex st' a' w' hK hs' => ?_)
  have fin : Pg.results c rs (fun xs => Pg.datas zs xs fun ds ws => cond (pack ds = d) (Pg.ret ⟨.no, ws⟩)) st'.e st'.m [] (fun _ _ => True) →
      a'.defers = [] ∧ ∃ v, (results fn a'.tmps).run P w' = .ok v w' ∧ ∃ v', Ending.returned v = .returned v' ∧ Ext w w' ∧ Rd (fun b => Z b ∨ (w.heap.size ≤ b ∧ b < w'.heap.size)) w' v' d := by
    intro hp;obtain ⟨g', hs'⟩ := hs';obtain ⟨vs', xs, l1, hvl, hxl, hrun, hx, hxb, hp⟩ := zdK hT hs' hp;obtain ⟨ds', ws, l2, g2, hs2, _, hsame, hdl, hdr, hpk, _⟩ := zhd (vs := vs') hs' (fun k => .inl rfl) (by rw [hxl, hvl]) hx hp;refine ⟨hs'.defers, ?_⟩;have hext : Ext w w' := ⟨hs2.os, hs2.tape, hs2.output, hs2.size, fun b hb => (hs2.keep b hb).2⟩;have hmono : ∀ {v x}, Rd g2.F w' v x → Rd (fun b => Z b ∨ (w.heap.size ≤ b ∧ b < w'.heap.size)) w' v x := fun hr => hr.mono (fun b hb => (hs2.frz b hb).imp id fun h => ⟨h, hs2.mem.lt b hb⟩) fun _ _ => rfl;have hres := ze4 hr hvl hrun
    match vs', ds', hdl, hdr, hpk, hres with
    | [t], [x], _, hdr, hpk, hres =>
      refine ⟨_, hres, _, rfl, hext, ?_⟩;have := hmono (hdr 0 _ _ rfl rfl);have hxd : x = d := hpk;rw [← hxd]; exact this
    | [], [], _, hdr, hpk, hres =>
      refine ⟨_, hres, _, rfl, hext, ?_⟩;have hxd : D.tup [] = d := hpk;rw [← hxd];exact .tup (vs := []) rfl (by simp)
    | t :: t' :: ts, x :: x' :: ds', hdl, hdr, hpk, hres =>
      have hxd : D.tup (x :: x' :: ds') = d := hpk;refine ⟨_, hres, _, rfl, hext, ?_⟩;rw [← hxd];exact .tup (by simpa using hdl) fun i u y hu hy => hmono (hdr i u y hu hy)
  cases ex with
  | normal => exact fin hK
  | ret => exact fin hK
  | exit i => exact hK.elim
end
end Go.Vc
namespace Go.Vc
open Go.RowKit
def Tree.allB {α:Type}(f:Nat->α->Bool):Nat->Tree α->Bool
 | _, .leaf=>true
 | i, .node l x r=>f i x&&Tree.allB f (2*i) l&&Tree.allB f (2*i+1) r
def zqI (i:Nat)(p:List Bool):Nat:=p.foldl (λ i b=>2*i+bif b then 1 else 0) i
theorem zsV {α:Type}{f:Nat->α->Bool}{x:α}:∀ (p:List Bool) (t:Tree α) (i:Nat),Tree.allB f i t=true->t.get p=some x->f (zqI i p) x=true:=by
 intro p
 induction p with
 | nil =>
  intro t i h hx
  cases t with
  | leaf=>cases hx
  | node l y r =>
   simp only[Tree.allB,zyW] at h;simp only[Tree.get,Option.some.injEq] at hx;subst hx;exact h.1.1
 | cons b p ih =>
  intro t i h hx
  cases t with
  | leaf=>cases hx
  | node l y r =>
   simp only[Tree.allB,zyW] at h
   cases b with
   | true=>exact ih r (2*i+1) h.2 (by simpa only[Tree.get,cond_true] using hx)
   | false=>exact ih l (2*i) h.1.2 (by simpa only[Tree.get,cond_false] using hx)
theorem zsW : ∀ (f n : Nat) (acc : List Bool), 1 ≤ n → n < 2 ^ (f + 1) → zqI 1 (bits f n acc) = zqI n acc := by
  intro f
  induction f with
  | zero => intro n acc h1 h2; have : n = 1 := by omega
            subst this; rfl
  | succ f ih =>
    intro n acc h1 h2;simp only [bits];by_cases hn : n ≤ 1
    · have : n = 1 := by omega
      subst this; rfl
    · have hb : Nat.ble n 1 = false := by
        cases hb : Nat.ble n 1
        · rfl
        · exact absurd (zyV hb) hn
      rw [hb, cond_false, ih _ _ (by omega) (by have := h2; rw [Nat.pow_succ] at this; omega)];show zqI (2 * (n / 2) + bif Nat.beq (n % 2) 1 then 1 else 0) acc = _
      congr 1
      rcases Nat.mod_two_eq_zero_or_one n with h | h
      · rw [h]; show 2 * (n / 2) + 0 = n; omega
      · rw [h]; show 2 * (n / 2) + 1 = n; omega
def zvs:Value->Value->Bool
 | .bool false, .bool false=>true
 | .int k 0, .int k' 0=>Nat.beq (kidx k) (kidx k')
 | .string s, .string s' => (match s.data.toList,s'.data.toList with|[],[]=>true|_,_=>false)
 | .pointer none, .pointer none=>true
 | .slice none 0 0, .slice none 0 0=>true
 | .map none, .map none=>true
 | .nilFunc, .nilFunc=>true
 | .nilIface, .nilIface=>true
 | _,_=>false
theorem zsX {x y:Value}(h:zvs x y=true):x=y:=by
 unfold zvs at h
 split at h
 .rfl
 .rw [zct h]
 .rename_i s s'
  split at h
  .rename_i h1 h2
   obtain⟨⟨d⟩⟩:=s;obtain⟨⟨d'⟩⟩:=s';simp at h1 h2;rw[h1,h2]
  .cases h
 .rfl
 .rfl
 .rfl
 .rfl
 .rfl
 .cases h
def zsY:List Value->List Value->Bool
 | [],[]=>true
 | x::l,y::r=>zvs x y&&zsY l r
 | _,_=>false
theorem znN:∀ {l r:List Value},zsY l r=true->l=r
 | [],[],_=>rfl
 | x::l,y::r,h=>by
  simp only[zsY,zyW] at h;rw[zsX h.1,znN h.2]
 | [],_::_,h=>by cases h
 | _::_,[],h=>by cases h
def zqJ (P:Program)(t n:Nat):Bool:=match P.info? t with|some i=>Nat.beq i.size n|none=>false
def aggB:Option Bool->Bool->Bool
 | some a,b=>a == b
 | none,_=>false
theorem zqK {a:Option Bool}{b:Bool}(h:aggB a b=true):a=some b:=by
 cases a <;> simp[aggB] at h ⊢;exact h
def zjz (P:Program):List Field->List (Nat×Nat×Bool)->Bool
 | [],[]=>true
 | f::l,x::r=>Nat.beq f.offset x.1&&(zqJ P f.type x.2.1&&aggB (zfx P f.type) x.2.2)&&zjz P l r
 | _,_=>false
def tkB (P:Program)(d:TypeDesc):TK->Bool
 | .int k=>match d with | .int k' => Nat.beq (kidx k') (kidx k)|_=>false
 | .bool=>match d with | .bool=>true|_=>false
 | .str=>match d with | .string=>true|_=>false
 | .slice e es _=>match d with | .slice e' => Nat.beq e' e&&zqJ P e es|_=>false
 | .arr n es ag=>match d with | .array n' e=>Nat.beq n' n&&zqJ P e es&&aggB (zfx P e) ag|_=>false
 | .struct fs=>match d with | .struct fields=>zjz P fields.toList fs|_=>false
 | .mp k e=>match d with | .map k' e' => Nat.beq k' k&&Nat.beq e' e|_=>false
 | .ptr=>match d with | .pointer _=>true|_=>false
 | _=>true
def zjA (P:Program)(t:TypeId):Value->Bool
 | .int k _=>(match P.underlying t with|some (.int k')=>Nat.beq (kidx k') (kidx k)|_=>false)
 | .bool _=>(match P.underlying t with|some .bool=>true|_=>false)
 | .string _=>(match P.underlying t with|some .string=>true|_=>false)
 | _=>false
def zdL (P:Program):List Field->List Value->Nat->Bool
 | [],[],_=>true
 | f::l,z::r,n=>Nat.beq f.offset n&&Nat.beq (P.cellsOf f.type) 1&&zjA P f.type z&&zdL P l r (n+1)
 | _,_,_=>false
def flatB (P:Program)(t:TypeId)(zs:List Value):Bool :=
 P.keyTypeAt 2 t && !P.eqGuardType P.depth t&&Nat.beq (P.cellsOf t) zs.length &&
  (match P.underlying t with|some (.struct fs)=>(fs.all λ f=>f.name != "_")&&zdL P fs.toList zs 0|_=>false)
theorem zk6 {P:Program}{t:TypeId}{z:Value}(h:zjA P t z=true):zdE P t z:=by
 unfold zjA at h;unfold zdE
 split at h
 .split at h
  .rename_i k' hk;rw[hk,zct h]
  .cases h
 .split at h
  .assumption
  .cases h
 .split at h
  .assumption
  .cases h
 .cases h
theorem zfE {P:Program}:∀ {l:List Field} {r:List Value} {n:Nat},zdL P l r n=true->l.length=r.length/\∀ (i:Nat) f z,l[i]? = some f->r[i]? = some z->f.offset=n+i/\P.cellsOf f.type=1/\zdE P f.type z
 | [],[],_,_=>⟨rfl,by simp⟩
 | f::l,z::r,n,h=>by
  simp only[zdL,zyW] at h;obtain⟨h1,h2⟩:=zfE h.2;refine⟨by simp[h1],λ i f' z' hf hz=>?_⟩
  cases i with
  | zero=>simp at hf hz;subst hf hz;exact⟨zyT h.1.1.1,zyT h.1.1.2,zk6 h.1.2⟩
  | succ i=>have:=h2 i f' z' (by simpa using hf) (by simpa using hz);rw[show n+(i+1)=n+1+i by omega];exact this
 | [],_::_,_,h=>by cases h
 | _::_,[],_,h=>by cases h
theorem zmJ {P:Program}{t:TypeId}{zs:List Value}(h:flatB P t zs=true):FlatOK P t zs:=by
 simp only[flatB,zyW,Bool.not_eq_true'] at h;obtain⟨⟨⟨h1,h2⟩,h3⟩,h4⟩:=h;refine⟨h1,h2,zyT h3, ?_⟩
 split at h4
 .rename_i fs hfs
  simp only[zyW] at h4;obtain⟨g1,g2⟩:=zfE h4.2;exact⟨fs,hfs,by simpa using g1,h4.1,λ i f z hf hz=>by have:=g2 i f z (by simpa using hf) hz;rw[Nat.zero_add] at this;exact this⟩
 .cases h4
def arrB (P:Program)(t n el:Nat)(zs:List Value):Bool:=Nat.beq (P.cellsOf t) zs.length&&Nat.beq zs.length n&&Nat.beq (P.cellsOf el) 1&&zs.all λ z=>zjA P el z
theorem zk7 {α β:Type}{f:α->Option β}{h:α->β}:∀ (l:List α),(∀ x,x∈l->f x=some (h x))->l.mapM f=some (l.map h)
 | [],_=>rfl
 | x::l,hx=>by
  rw[List.mapM_cons,hx x (by simp),zk7 l λ y hy=>hx y (by simp[hy])];rfl
theorem zmK {P:Program}{t n el:Nat}{zs:List Value}(hu:P.underlying t=some (.array n el))(h:arrB P t n el zs=true)(dp:Nat)(vs:List Value)(hl:vs.length=zs.length)
  (hv:∀ (i:Nat) v z,vs[i]? = some v->zs[i]? = some z->zdz z v=true/\pl v):P.keyLits (dp+2) t vs=some (vs.map litV):=by
 simp only[arrB,zyW] at h;obtain⟨⟨⟨h1,h2⟩,h3⟩,h4⟩:=h;have h1:=zyT h1;have h2:=zyT h2;have h3:=zyT h3;unfold Program.keyLits;rw[hu]
 have hm:(List.range n).mapM (λ i=>P.keyLits (dp+1) el ((vs.drop (i*P.cellsOf el)).take (P.cellsOf el)))=some ((List.range n).map λ i=>[litV (vs.getD i undef)]):=by
  refine zk7 _ λ i hi=>?_
  have hi:i<vs.length:=by rw[List.mem_range] at hi;omega
  have hz:zs[i]? = some zs[i]:=zyS (by omega);obtain⟨g1,g2⟩:=hv i vs[i] zs[i] (zyS hi) hz;have hsc:=zk6 (List.all_eq_true.1 h4 zs[i] (List.getElem_mem _));rw[h3,Nat.mul_one,List.drop_eq_getElem_cons hi];show P.keyLits (dp+1) el [vs[i]]=_;rw[zgh hsc g1 g2];simp[List.getD,hi]
 have hf:((List.range n).map λ i=>[litV (vs.getD i undef)]).flatten=vs.map litV:=by
  rw[show ((List.range n).map λ i=>[litV (vs.getD i undef)])=((List.range n).map λ i=>litV (vs.getD i undef)).map λ v=>[v] by simp[Function.comp_def],zdk,List.map_id'];refine List.ext_getElem? λ i=>?_;rw[List.getElem?_map,List.getElem?_map];by_cases hi:i<n
  .have hi':i<vs.length:=by omega
   rw[List.getElem?_range hi,zyS hi'];simp[List.getD,hi']
  .rw [List.getElem?_eq_none (by simpa using hi),List.getElem?_eq_none (by omega)];rfl
 simp only[hm]
 split
 all_goals first
  | (rw[if_pos (by omega),Option.map_some,hf];done)
  | simp_all
def keyB (P:Program)(k:TypeId):Bool:=match P.underlying k with
 | some (.int _)=>true
 | some .bool=>true
 | some .string=>true
 | some (.struct _)=>P.keyTypeAt 2 k&&P.tiled 2 k&&P.keyType k&&Nat.ble 1 P.types.size&&(match P.info? k with|some i=>(match i.zero with|some z=>flatB P k z.cells.toList|none=>false)|none=>false)
 | some (.array n el)=>P.keyTypeAt 2 k&&P.tiled 2 k&&P.keyType k&&Nat.ble 1 P.types.size&&(match P.info? k with|some i=>(match i.zero with|some z=>arrB P k n el z.cells.toList|none=>false)|none=>false)
 | _=>false
theorem zwI {P:Program}{k:TypeId}(h:keyB P k=true):KeyT P k:=by
 unfold keyB at h
 split at h
 .rename_i q hu;exact⟨Maps.int_keyed hu,by simp[zfx,hu]⟩
 .rename_i hu;exact⟨Maps.bool_keyed hu,by simp[zfx,hu]⟩
 .rename_i hu;exact⟨Maps.string_keyed hu,by simp[zfx,hu]⟩
 .rename_i fs hu
  simp only[zyW] at h;obtain⟨⟨⟨⟨h1,h2⟩,h3⟩,h4⟩,h5⟩:=h
  split at h5
  .rename_i i hi
   split at h5
   .rename_i z hz
    exact⟨.of_law (deep_law (m:=2) (by omega) h1 h2 (by rw[hu])),λ _=>⟨_,⟨i,z,hi,hz,rfl⟩,h3,zyV h4,(zmJ h5).size,λ dp vs hl hv=>zeb (zmJ h5) hl hv⟩⟩
   .cases h5
  .cases h5
 .rename_i n el hu
  simp only[zyW] at h;obtain⟨⟨⟨⟨h1,h2⟩,h3⟩,h4⟩,h5⟩:=h
  split at h5
  .rename_i i hi
   split at h5
   .rename_i z hz
    refine⟨.of_law (deep_law (m:=2) (by omega) h1 h2 (by rw[hu])),λ _=>⟨_,⟨i,z,hi,hz,rfl⟩,h3,zyV h4, ?_,λ dp vs hl hv=>zmK hu h5 dp vs hl hv⟩⟩;simp only[arrB,zyW] at h5;exact zyT h5.1.1.1
   .cases h5
  .cases h5
 .cases h
def mpB (P:Program):TK->Bool
 | .mp k _=>keyB P k
 | _=>true
def zagB (P:Program)(t:Nat)(ag:Bool):Bool:=match P.info? t with
 | some i=>(match i.zero with|some z=>(match z with | .agg _=>ag|_=>!ag)|none=>true)
 | none=>true
def zwJ (i:TypeInfo)(l:List (String×FuncId)):Bool:=l.all λ x=>match i.methods.find? (λ y=>y.name == x.1) with
 | some m=>Nat.beq m.path.size 0&&(match m.func with
  | some (f,b)=>Nat.beq f x.2 && !b
  | none=>false)
 | none=>false
def peB (P:Program)(t:TypeId):Nat->Bool
 | 0=>true
 | e+1=>match P.underlying t with
  | some (.pointer q)=>Nat.beq q (e+1)
  | _=>false
theorem pe_ok {P:Program}{t:TypeId}{n:Nat}(h:peB P t n=true)(hn:n≠0):P.underlying t=some (.pointer n):=by
 cases n with
 | zero=>exact absurd rfl hn
 | succ e =>
  simp only[peB] at h
  cases hu:P.underlying t with
  | none=>rw[hu] at h;cases h
  | some d =>
   rw[hu] at h
   cases d with
   | pointer q=>rw[zyT h]
   | _=>cases h
def tiB (P:Program)(t:Nat)(ti:TI):Bool :=
 match P.info? t with
 | some i=>Nat.beq i.size ti.size&&Nat.beq i.bytes ti.bytes&&(match i.zero with|some z=>zsY z.cells.toList ti.zero|none=>false)&&Nat.beq ti.zero.length ti.size &&
  (match P.underlying t with
  | some d=>(match d with | .struct _=>ti.agg | .array _ _=>ti.agg|_=>!ti.agg)&&tkB P d ti.k
  | none=>false)&&(!zpY ti || flatB P t ti.zero)&&mpB P ti.k&&zagB P t ti.agg&&peB P t ti.pe&&zwJ i ti.meth
 | none=>false
def tyB (P:Program)(T:Tree (Option TI)):Bool:=Tree.allB (λ i x=>match x with|some ti=>tiB P (i-1) ti|none=>true) 1 T
theorem zvt {P:Program}{t:Nat}{i:TypeInfo}{l:List (String×FuncId)}(hi:P.info? t=some i)(h:zwJ i l=true)(x:String×FuncId)(hx:x∈l) :
  ∃ i m,P.info? t=some i/\i.methods.find? (λ y=>y.name == x.1)=some m/\m.path = #[]/\m.func=some (x.2,false):=by
 have h:=List.all_eq_true.1 h x hx
 split at h
 .rename_i m hm
  simp only[zyW] at h;refine⟨i,m,hi,hm,Array.eq_empty_of_size_eq_zero (zyT h.1), ?_⟩;have h2:=h.2
  split at h2
  .rename_i f b hf
   simp only[zyW,Bool.not_eq_true'] at h2;rw[hf,zyT h2.1,h2.2]
  .cases h2
 .cases h
theorem zmL {P:Program}{t n:Nat}(h:zqJ P t n=true):∃ i,P.info? t=some i/\i.size=n:=by
 unfold zqJ at h
 split at h
 .rename_i i hi;exact⟨i,hi,zyT h⟩
 .cases h
theorem zk8 {P:Program}:∀ {l:List Field} {r:List (Nat×Nat×Bool)},zjz P l r=true->l.length=r.length/\∀ (i:Nat) f x,l[i]? = some f->r[i]? = some x->f.offset=x.1/\∃ j,P.info? f.type=some j/\j.size=x.2.1/\zfx P f.type=some x.2.2
 | [],[],_=>⟨rfl,by simp⟩
 | f::l,x::r,h=>by
  simp only[zjz,zyW] at h;obtain⟨h1,h2⟩:=zk8 h.2;refine⟨by simp[h1],λ i f' x' hf hx=>?_⟩
  cases i with
  | zero=>simp at hf hx;subst hf hx;obtain⟨j,j1,j2⟩:=zmL h.1.2.1;exact⟨zyT h.1.1,j,j1,j2,zqK h.1.2.2⟩
  | succ i=>exact h2 i f' x' (by simpa using hf) (by simpa using hx)
 | [],_::_,h=>by cases h
 | _::_,[],h=>by cases h
theorem ti_ok {P:Program}{t:Nat}{ti:TI}(h:tiB P t ti=true):TIok P t ti:=by
 unfold tiB at h
 split at h
 .rename_i i hi
  simp only[zyW] at h;obtain⟨⟨⟨⟨⟨⟨⟨⟨⟨h1,h2⟩,h3⟩,h4⟩,h5⟩,h6⟩,h7⟩,h8⟩,h10⟩,h9⟩:=h;refine⟨?_, ?_,λ hfl=>zmJ (by simpa [hfl] using h6),λ k e hk=>zwI (by rw[hk] at h7;exact h7),λ i' z hi' hz=>?_,pe_ok h10,λ x hx=>zvt hi h9 x hx⟩
  rotate_left 2
  .unfold zagB at h8;rw[hi'] at h8;simp only[hz] at h8;exact h8
  .split at h3
   .rename_i z hz
    exact⟨i,z,hi,zyT h1,zyT h2,hz,znN h3,zyT h4⟩
   .cases h3
  .split at h5
   .rename_i d hd
    simp only[zyW] at h5;refine⟨d,hd, ?_, ?_⟩
    .have:=h5.1
     revert this
     cases d <;> simp
    .have h6:=h5.2
     cases hk:ti.k with
     | int k =>
      rw[hk] at h6;simp only[tkB] at h6
      cases d <;> simp only[reduceCtorEq,Bool.false_eq_true] at h6
      rw[zct h6]
     | bool=>rw[hk] at h6;simp only[tkB] at h6;cases d <;> simp_all
     | str=>rw[hk] at h6;simp only[tkB] at h6;cases d <;> simp_all
     | slice e es ag =>
      rw[hk] at h6;simp only[tkB] at h6
      cases d <;> simp only[reduceCtorEq,Bool.false_eq_true,zyW] at h6
      exact⟨by rw[zyT h6.1],zmL h6.2⟩
     | arr n es ag =>
      rw[hk] at h6;simp only[tkB] at h6
      cases d <;> simp only[reduceCtorEq,Bool.false_eq_true,zyW] at h6
      exact⟨_,by rw[zyT h6.1.1],zmL h6.1.2,zqK h6.2⟩
     | struct fs =>
      rw[hk] at h6;simp only[tkB] at h6
      cases d <;> simp only[reduceCtorEq,Bool.false_eq_true] at h6
      rename_i fields;obtain⟨g1,g2⟩:=zk8 h6;exact⟨fields,rfl,by simpa using g1,λ i f x hf hx=>g2 i f x (by simpa using hf) hx⟩
     | mp k e =>
      rw[hk] at h6;simp only[tkB] at h6
      cases d <;> simp only[reduceCtorEq,Bool.false_eq_true,zyW] at h6
      rw[zyT h6.1,zyT h6.2]
     | ptr =>
      rw[hk] at h6;simp only[tkB] at h6
      cases d <;> simp only[reduceCtorEq,Bool.false_eq_true] at h6
      exact⟨_,rfl⟩
     | _=>trivial
   .cases h5
 .cases h
theorem ty_ok {P:Program}{T:Tree (Option TI)}(h:tyB P T=true):TyOK P T:=by
 intro t ti ht;unfold Tree.at at ht
 cases hb:Nat.ble 4095 t with
 | true=>rw[hb] at ht;cases ht
 | false =>
  rw[hb,cond_false] at ht
  have hlt:t<4095:=Nat.lt_of_not_le λ hle=>by rw[Nat.ble_eq_true_of_le hle] at hb;cases hb
  split at ht
  .rename_i x hx
   have:=zsV _ T 1 h hx;rw[zsW 12 (t+1) [] (by omega) (by omega)] at this;subst ht;exact ti_ok (by simpa [zqI] using this)
  .cases ht
abbrev Ent:=Nat×Bool×(List SV->Nat->Pg)
def fnOf:List Ent->Nat->Option (List SV->Nat->Pg)
 | [],_=>none
 | (k,_,p)::r,t=>bif Nat.beq k t then some p else fnOf r t
def prOf:List Ent->Nat->Bool
 | [],_=>false
 | (k,b,_)::r,t=>bif Nat.beq k t then b else prOf r t
abbrev zaq (T:Tree (Option TI))(l:List Ent):Ctx:=⟨T,fnOf l,prOf l,true⟩
section
variable {P:Program} {T:Tree (Option TI)}
theorem zac:CtxOK P (zaq T []):=λ f pg h=>by cases h
theorem zf3 {l:List Ent}{f:Nat}{b:Bool}{p:List SV->Nat->Pg}(hc:zcu P f)(hp:CallOK P f p)(hl:b=true->∀ xs id,Local (p xs id))(h:CtxOK P (zaq T l)):CtxOK P (zaq T ((f,b,p)::l)):=by
 intro f' pg hpg;simp only[fnOf] at hpg;by_cases hf:f=f'
 .subst hf
  simp only[Nat.beq_refl,cond_true,Option.some.injEq] at hpg;subst hpg;exact⟨hc,hp,λ hb=>hl (by simpa [prOf] using hb)⟩
 .rw [beqF hf] at hpg
  obtain⟨h1,h2,h3⟩:=h f' pg hpg;exact⟨h1,h2,λ hb=>h3 (by simpa [prOf,beqF hf] using hb)⟩
theorem zba {l:List Ent}{f:Nat}{zs:List (List Nat)}{G:List D->D->Prop}(hc:zcu P f)(hp:PureOK P f G)(h:CtxOK P (zaq T l)):CtxOK P (zaq T ((f,true,zbM zs G)::l)) :=
 zf3 hc (CallOK.of_pure hp) (λ _ xs id=>Local.pure xs id) h
theorem zap {l:List Ent}{f:Nat}{zs:List (List Nat)}{G:List D->D->Prop}(hc:zcu P f)(hp:PureOK P f G)(h:CtxOK P (zaq T l)):CtxOK P (zaq T ((f,true,lendPg zs G)::l)) :=
 zf3 hc (CallOK.of_lend hp) (λ _ xs id=>Local.lendPg xs id) h
theorem za {f:Nat} {fn:Func} {c:Code} (h:P.funcs[f]? = some fn) (hb:fn.body=some c) (hn:(fn.name == "runtime.NumGoroutine")=false):zcu P f:=⟨fn,h,by rw[hb];rfl,hn⟩
end
end Go.Vc
namespace Go.Vc
open Go.RowKit
def zgE:List SV->SV
 | [x]=>x
 | l=>.tup l
theorem zcT {α:Type}(z:α)(l:List α)(t:Nat):get z ((List.range l.length).zip l) t=(l[t]?).getD z:=by
 have key:∀ (l:List α) (k:Nat),get z ((List.range' k l.length).zip l) t=(if k<=t then (l[t-k]?).getD z else z):=by
  intro l
  induction l with
  | nil=>intro k;simp[get]
  | cons x r ih =>
   intro k;simp only[List.length_cons,List.range'_succ,List.zip_cons_cons,get];by_cases h:k=t
   .subst h;simp
   .rw [beqF h,cond_false,ih (k+1)]
    by_cases h2:k<=t
    .rw [if_pos h2,if_pos (by omega),show t-k=(t-(k+1))+1 by omega,List.getElem?_cons_succ]
    .rw [if_neg h2,if_neg (by omega)]
 have:=key l 0;simpa [List.range_eq_range'] using this
def zpr (S m:List (Nat×Blk)):Bool:=S.all λ x=>zge (get .unborn m x.1)
def Kinl (c:Ctx)(rs:List ResultVar)(S:List (Nat×Blk))(K:Dl->List Loc->Prop)(l:List Loc):Ex->St->Prop
 | .ret,st | .normal,st=>Pg.results c rs (λ ys _ _ _ _=>zpr S st.mem=true/\ys.all SV.notNo=true/\K ⟨zgE ys,st.mem⟩ l) st.e st.m [] λ _ _=>True
 | _,_=>False
def zby (c:Ctx)(fn:Func):List SV->Nat->Pg:=λ xs id e m l K =>
 ∃ (S:List (Nat×Blk)) (q nid:Nat),(∀ k,get .unborn S k=m k)/\(S.all λ x=>Nat.blt x.1 q)=true/\id<=q/\q<=nid/\xs.length<=fn.ntmps /\
  match fn.body with
  | some code=>vc c q nid code ⟨(List.range xs.length).zip xs,S⟩ (Kinl c fn.results.toList S K l)
  | none=>False
section
variable {P:Program} {fr:Fr} {nt:Nat} {g:Gh} {e:Nat->SV} {m:Nat->Blk} {a:Act} {w:World} {c:Ctx}
def zk9 (g:Gh)(m:Nat->Blk)(w:World)(q:Nat):Fr :=
 { w0:=w,Kp:=λ b=>b<w.heap.size/\∀ k,¬ OwnS g m k b,Z:=g.F,Y:=λ b=>g.F b ∨ ∃ k,OwnS g m k b,p:=q,g0:=g }
theorem SR.enterAll {q nt1 : Nat}{e1 : Nat → SV}{a1 : Act}(hs : SR fr nt g e m a w)(henv : ∀ t, e1 t = .no ∨ ∃ v, a1.tmps[t]? = some v ∧ Den g w v (e1 t))(he : ∀ t k, k ∈ (e1 t).ids → m k ≠ .unborn)
    (hd : a1.defers = []) (ht : a1.tmps.size = nt1) : SR (zk9 g m w q) nt1 g e1 m a1 w :=
  { mem := hs.mem, env := henv, bornE := he, bornM := hs.bornM, os := rfl, tape := rfl, output := rfl, size := Nat.le_refl _, keep := fun b hb => ⟨hb.1, rfl⟩,
    safe := fun k hk => ⟨fun hb => hb.2 k ⟨hk, .inl rfl⟩, .inl (.inr ⟨k, hk, .inl rfl⟩)⟩, safeX := fun k b hk hx => ⟨fun hb => hb.2 k ⟨hk, .inr hx⟩, .inl (.inr ⟨k, hk, .inr hx⟩)⟩, given := fun b hb => hb, frz := fun b hb => .inl (.inl hb), defers := hd, tmps := ht, pin := fun k _ => ⟨rfl, rfl, rfl, List.prefix_rfl⟩ }
theorem zsZ {q:Nat}(hs:SR fr nt g e m a w)(hf:FrOK P fr):FrOK P (zk9 g m w q) :=
 ⟨hs.glb hf,λ b hb=>⟨Nat.lt_of_lt_of_le (hs.keep b (hf.2 b hb)).1 hs.size,λ k hk=>(hs.ownS hk).2.2.1 (hf.2 b hb)⟩⟩
theorem SR.leaveAll {q nt1 : Nat}{g' : Gh}{e1 : Nat → SV}{m1 : Nat → Blk}{a1 : Act}{w' : World}(hs : SR fr nt g e m a w)(hq : ∀ k, q ≤ k → m k = .unborn)(hp : fr.p ≤ q)(hb : ∀ k, m k ≠ .unborn → m1 k ≠ .unborn)
    (h1 : SR (zk9 g m w q) nt1 g' e1 m1 a1 w') : SR fr nt g' e m1 a w' := by
  have lt : ∀ k, m k ≠ .unborn → k < q := fun k hk => Nat.lt_of_not_le fun h => hk (hq k h);have hF : ∀ b, g.F b → g'.F b := fun b h => h1.given b h;have hwF : ∀ b, g.F b → w'.heap[b]? = w.heap[b]? := fun b h => (h1.keep b ⟨hs.mem.lt b h, fun k hk => (hs.ownS hk).2.1 h⟩).2;have kpK : ∀ b, fr.Kp b → b < w.heap.size ∧ ∀ k, ¬ OwnS g m k b := fun b hb => ⟨Nat.lt_of_lt_of_le (hs.keep b hb).1 hs.size, fun k hk => (hs.ownS hk).2.2.1 hb⟩
  have safe' : ∀ b, ¬ g'.F b → (¬ (zk9 g m w q).Kp b ∧ ((zk9 g m w q).Y b ∨ (zk9 g m w q).w0.heap.size ≤ b)) → ¬ fr.Kp b ∧ (fr.Y b ∨ fr.w0.heap.size ≤ b) := by
    rintro b hot ⟨s1, s2⟩;refine ⟨fun hb => s1 (kpK _ hb), ?_⟩
    rcases s2 with (h | ⟨j, hj⟩) | h
    · exact absurd (hF _ h) hot
    · exact (hs.ownS hj).2.2.2
    · exact .inr (Nat.le_trans hs.size h)
  refine { mem := h1.mem, env := fun t => ?_, bornE := fun t k hk => hb k (hs.bornE t k hk), bornM := h1.bornM, os := h1.os.trans hs.os, tape := h1.tape.trans hs.tape, output := h1.output.trans hs.output,
           size := Nat.le_trans hs.size h1.size, keep := fun b hb => ⟨(hs.keep b hb).1, ((h1.keep b (kpK b hb)).2).trans (hs.keep b hb).2⟩, safe := fun k hk => safe' _ (h1.mem.hot k hk) (h1.safe k hk), safeX := fun k b hk hx => safe' b (h1.mem.own k b hk hx).2.1 (h1.safeX k b hk hx), given := fun b hb => hF b (hs.given b hb), frz := fun b hb => ?_, defers := hs.defers, tmps := hs.tmps, pin := fun k hk => ?_ }
  · rcases hs.env t with h | ⟨v, v1, v2⟩
    · exact .inl h
    · exact .inr ⟨v, v1, v2.mono hF hwF fun k hk => h1.pin k (lt k (hs.bornE t k hk))⟩
  · rcases h1.frz b hb with (h | ⟨j, hj⟩) | h
    · exact hs.frz b h
    · exact (hs.ownS hj).2.2.2
    · exact .inr (Nat.le_trans hs.size h)
  · obtain ⟨p1, p2, p3, p4⟩ := h1.pin k (Nat.lt_of_lt_of_le hk hp)
    obtain ⟨q1, q2, q3, q4⟩ := hs.pin k hk;exact ⟨p1.trans q1, p2.trans q2, p3.trans q3, q4.trans p4⟩
theorem zvu {S:List (Nat×Blk)}{q:Nat}(h:(S.all λ x=>Nat.blt x.1 q)=true){k:Nat}(hk:q<=k):get .unborn S k = .unborn:=by
 induction S with
 | nil=>rfl
 | cons x r ih =>
  obtain⟨i,b⟩:=x;simp only[List.all_cons,zyW] at h;have hi:i<q:=zyV h.1;simp only[get];rw[beqF (by omega),cond_false];exact ih h.2
theorem zvv {S:List (Nat×Blk)}{k:Nat}(h:get .unborn S k ≠ .unborn):∃ x,x∈S/\x.1=k:=by
 induction S with
 | nil=>exact absurd rfl h
 | cons x r ih =>
  obtain⟨i,b⟩:=x;by_cases hi:i=k
  .exact ⟨(i,b),by simp,hi⟩
  .simp only[get] at h
   rw[beqF hi,cond_false] at h;obtain⟨y,hy,hk⟩:=ih h;exact⟨y,by simp[hy],hk⟩
def zuw (fn:Func):Bool:=match fn.body with
 | some code=>zcS fn.ntmps code
 | none=>true
theorem CallOK.inl (hm:P.follows .mixedOrders=true)(hT:TyOK P c.ty)(hC:CtxOK P c){f:FuncId}{fn:Func}(hf:P.funcs[f]? = some fn)(hok:zuw fn=true):CallOK P f (zby c fn):=by
 intro fr hfr nt g e m a w xs vs id l K hs hid hlx hx hbx hpg;obtain⟨S,q,nid,hS,hSq,hq1,hq2,hnt,hpg⟩:=hpg
 cases hb:fn.body with
 | none=>rw[hb] at hpg;exact hpg.elim
 | some code =>
  rw[hb] at hpg
  have hqm:∀ k,q<=k->m k = .unborn:=λ k hk=>by rw[<- hS k];exact zvu hSq hk
  let st0:St:=⟨(List.range xs.length).zip xs,S⟩
  have e0:∀ t,st0.e t=(xs[t]?).getD .no:=λ t=>zcT _ _ _;have m0:st0.m=m:=funext hS
  have hin:SR (zk9 g m w q) fn.ntmps g st0.e st0.m { tmps:=vs.toArray++Array.replicate (fn.ntmps-vs.toArray.size) undef,defers:=[] } w:=by
   rw[m0];refine hs.enterAll (λ t=>?_) (λ t k hk=>?_) rfl ?_
   .rw [e0]
    cases hx':xs[t]? with
    | none=>exact .inl rfl
    | some x =>
     have ht:t<vs.length:=by rw[<- hlx];exact(zyR.1 hx').1
     rcases hx t _ x (zyS ht) hx' with h|h
     .exact .inl h
     .exact .inr ⟨vs[t],by simp[Array.getElem?_append,ht],h⟩
   .rw [e0] at hk
    cases hx':xs[t]? with
    | none=>rw[hx'] at hk;simp[SV.ids] at hk
    | some x=>rw[hx'] at hk;exact hbx x (zyU hx') k hk
   .simp;omega
  refine calls_of_wp hf hb (zjy (fr:=zk9 g m w q) hm hT (hC.at (zsZ hs hfr)) hq2 (Nat.le_refl _) code st0 _ _ _ w (by simpa [zuw,hb] using hok) hpg ⟨_,hin⟩ λ ex st' a' w' hK hs' => ?_)
  have fin:Pg.results c fn.results.toList (λ ys _ _ _ _=>zpr S st'.mem=true/\ys.all SV.notNo=true/\K ⟨zgE ys,st'.mem⟩ l) st'.e st'.m [] (λ _ _=>True) ->
    a'.defers=[]/\∃ v,(results fn a'.tmps).run P w' = .ok v w'/\∃ v' δ l' g',Ending.returned v = .returned v'/\K δ l'/\SR fr nt g' e (mApp δ.wr m) a w'/\DenO g' w' v' δ.val/\∀ k,k∈δ.val.ids->mApp δ.wr m k ≠ .unborn:=by
   intro hp;obtain⟨g1,hs1⟩:=hs';obtain⟨vs',ys,l1,hvl,hyl,hrun,hy,hyb,hborn,hno,hKK⟩:=zdK hT hs1 hp
   have bornK:∀ k,m k ≠ .unborn->st'.m k ≠ .unborn:=by
    intro k hk;rw[<- hS k] at hk;obtain⟨x,hx,rfl⟩:=zvv hk;have:=List.all_eq_true.1 hborn x hx;intro hu;have hu:get .unborn st'.mem x.1 = .unborn:=hu;rw[hu] at this;cases this
   have hmm:mApp st'.mem m=st'.m:=by
    funext k
    have:∀ (l:List (Nat×Blk)),(get .unborn l k ≠ .unborn->mApp l m k=get .unborn l k)/\(get .unborn l k = .unborn->mApp l m k=m k∨mApp l m k = .unborn):=by
     intro l
     induction l with
     | nil=>exact⟨λ h=>absurd rfl h,λ _=>.inl rfl⟩
     | cons x r ih =>
      obtain⟨i,b⟩:=x;rw[zaa];simp only[get];by_cases hi:i=k
      .subst hi
       simp only[Nat.beq_refl,cond_true,if_true];exact⟨λ _=>trivial,λ h=>.inr h⟩
      .rw [beqF hi,cond_false,if_neg hi];exact ih
    have h1:=this st'.mem;by_cases hu:get .unborn st'.mem k = .unborn
    .rcases h1.2 hu with h|h
     .rw [h]
      by_cases hmk:m k = .unborn
      .rw [hmk];exact hu.symm
      .exact absurd hu (bornK k hmk)
     .rw [h];exact hu.symm
    .exact h1.1 hu
   have hout:=hs.leaveAll hqm (Nat.le_trans hid hq1) bornK hs1;refine⟨hs1.defers,zpq vs',ze4 (rs:=fn.results.toList) (by simp) hvl hrun,zpq vs',⟨zgE ys,st'.mem⟩,l,g1,rfl,hKK,by rw[hmm];exact hout, ?_, ?_⟩
   .have hl2:vs'.length=ys.length:=by omega
    have each:∀ (i:Nat) v y,vs'[i]? = some v->ys[i]? = some y->Den g1 w' v y:=by
     intro i v y hv hy'
     rcases hy i v y hv hy' with h|h
     .subst h
      have:=List.all_eq_true.1 hno _ (zyU hy')
      cases this
     .exact h
    match vs',ys,hl2,each with
    | [v],[y],_,each=>exact .inr (each 0 v y rfl rfl)
    | [],[],_,_=>exact .inr (.tup rfl (by simp))
    | _::_::_,_::_::_,hl2,each=>exact .inr (.tup hl2 each)
   .intro k hk
    dsimp only at hk;rw[hmm]
    have:k∈SV.idsL ys:=by
     match ys with
     | [y]=>simpa [zgE,SV.idsL] using hk
     | []=>simpa [zgE,SV.ids] using hk
     | _::_::_=>simpa [zgE,SV.ids] using hk
    obtain⟨y,hy',hiy⟩:=zaw.1 this;exact hyb y hy' k hiy
  cases ex with
  | normal=>exact fin hK
  | ret=>exact fin hK
  | exit i=>exact hK.elim
theorem zaF {P:Program}{T:Tree (Option TI)}{l:List Ent}{f:Nat}{p:List SV->Nat->Pg}(hc:zcu P f)(hp:CallOK P f p)(h:CtxOK P (zaq T l)):CtxOK P (zaq T ((f,false,p)::l)):=zf3 hc hp (λ h=>(by cases h)) h
theorem CallOK.mono {f:FuncId}{p q:List SV->Nat->Pg}(h:CallOK P f q)(hpq:∀ xs id e m l K,p xs id e m l K->q xs id e m l K):CallOK P f p :=
 λ fr hfr nt g e m a w xs vs id l K h1 h2 h3 h4 h5 h6=>h fr hfr nt g e m a w xs vs id l K h1 h2 h3 h4 h5 (hpq _ _ _ _ _ _ h6)
end
end Go.Vc
namespace Go.Vc
open Go.RowKit
mutual
def SV.ren (ρ:Nat->Nat):SV->SV
 | .ptr k o=>.ptr (ρ k) o
 | .mp k=>.mp (ρ k)
 | .rp k s i j=>.rp (ρ k) s i j
 | .po k i o=>.po (ρ k) i o
 | .fm n t=>.fm n t
 | .as k n=>.as (ρ k) n
 | .slf k t=>.slf (ρ k) t
 | .ln n=>.ln n
 | .pn k t=>.pn (ρ k) t
 | .rs k n=>.rs (ρ k) n
 | .agg l=>.agg (SV.renL ρ l)
 | .tup l=>.tup (SV.renL ρ l)
 | .fn f a l=>.fn f (SV.renL ρ a) (SV.renL ρ l)
 | .ifc t x=>.ifc t (x.ren ρ)
 | .no=>.no
 | .dat x=>.dat x
 | .kb b=>.kb b
 | .ep cs=>.ep cs
 | .csl s es=>.csl s es
 | .nil=>.nil
def SV.renL (ρ:Nat->Nat):List SV->List SV
 | []=>[]
 | x::l=>x.ren ρ::SV.renL ρ l
end
theorem zcv (ρ:Nat->Nat)(l:List SV):SV.renL ρ l=l.map (SV.ren ρ):=by
 induction l with
 | nil=>rfl
 | cons x l ih=>simp[SV.renL,ih]
def Blk.ren (ρ:Nat->Nat):Blk->Blk
 | .box l=>.box (SV.renL ρ l)
 | .nest e e' s' o ls=>.nest e e' s' (match o with|some (i,z)=>some (i,ρ z)|none=>none) ls
 | .fam ks es outs=>.fam (ks.map ρ) es (outs.map λ x=>(x.1,x.2.1,ρ x.2.2))
 | b=>b
mutual
theorem zmM (ρ:Nat->Nat):∀ x:SV,(x.ren ρ).ids=x.ids.map ρ
 | .no=>rfl
 | .dat _=>rfl
 | .kb _=>rfl
 | .ptr _ _=>rfl
 | .mp _=>rfl
 | .po _ _ _=>rfl
 | .fm _ _=>rfl
 | .as _ _=>rfl
 | .slf _ _=>rfl
 | .ln _=>rfl
 | .pn _ _=>rfl
 | .ep _=>rfl
 | .rp _ _ _ _=>rfl
 | .rs _ _=>rfl
 | .csl _ _=>rfl
 | .nil=>rfl
 | .agg l=>by simp only[SV.ren,SV.ids,zeD ρ l]
 | .tup l=>by simp only[SV.ren,SV.ids,zeD ρ l]
 | .fn _ a l=>by simp only[SV.ren,SV.ids,zeD ρ a,zeD ρ l,List.map_append]
 | .ifc _ x=>by simp only[SV.ren,SV.ids,zmM ρ x]
theorem zeD (ρ:Nat->Nat):∀ l:List SV,SV.idsL (SV.renL ρ l)=(SV.idsL l).map ρ
 | []=>rfl
 | x::l=>by simp only[SV.renL,SV.idsL,zmM ρ x,zeD ρ l,List.map_append]
end
theorem zmN (ρ:Nat->Nat)(b:Blk):(b.ren ρ).ids=b.ids.map ρ:=by
 cases b with
 | box l=>exact zeD ρ l
 | nest e e' s' o ls=>rcases o with _|⟨i,z⟩ <;> rfl
 | fam ks es outs=>simp[Blk.ren,Blk.ids,Function.comp_def]
 | _=>rfl
section
variable {P:Program} {fr:Fr} {nt:Nat} {g:Gh} {e:Nat->SV} {m:Nat->Blk} {a:Act} {w:World} {c:Ctx}
def Agr (g g0:Gh)(k k0:Nat):Prop:=g.β k=g0.β k0/\g.C k=g0.C k0/\g.N k=g0.N k0/\g0.M k0 <+: g.M k
theorem Agr.base {g g0:Gh}{k k0 n:Nat}(h:Agr g g0 k k0):g.base k n=g0.base k0 n:=by simp[Gh.base,h.1,h.2.1,h.2.2.1]
theorem zux {g g1:Gh}{ρ:Nat->Nat}{w:World}(hF:g1.F=g.F):∀ {v:Value} {x y:SV},Den g w v y->y=x.ren ρ->(∀ k,k∈x.ids->Agr g1 g k (ρ k))->Den g1 w v x:=by
 intro v x y h
 induction h generalizing x with
 | @dat v d h=>intro hx hk;cases x <;> simp[SV.ren] at hx;subst hx;exact .dat (hF ▸ h)
 | @kb b=>intro hx hk;cases x <;> simp[SV.ren] at hx;subst hx;exact .kb
 | @ptr k o =>
  intro hx hk;cases x <;> simp[SV.ren] at hx
  obtain⟨rfl,rfl⟩:=hx;rw[<- (hk _ (by simp[SV.ids])).1];exact .ptr
 | ep f h1 h2 h3=>intro hx hk;cases x <;> simp[SV.ren] at hx;subst hx;exact .ep f (hF ▸ h1) h2 (hF ▸ h3)
 | @rp k s i j h =>
  intro hx hk;cases x <;> simp[SV.ren] at hx
  obtain⟨rfl,rfl,rfl,rfl⟩:=hx;have hk:=hk _ (List.mem_singleton.2 rfl);rw[<- hk.1,<- hk.2.1];exact .rp (by rw[hk.2.2.1];exact h)
 | @rs k n h1 h2 h3 =>
  intro hx hk;cases x <;> simp[SV.ren] at hx
  obtain⟨rfl,rfl⟩:=hx;rename_i k';have hk:=hk k' (by simp[SV.ids]);rw[<- hk.base];exact .rs (by rw[hk.2.2.1];exact h1) (by rw[hk.2.2.1,hk.2.1];exact h2) h3
 | csl h=>intro hx hk;cases x <;> simp[SV.ren] at hx;obtain⟨rfl,rfl⟩:=hx;exact .csl (hF ▸ h)
 | nil=>intro hx hk;cases x <;> simp[SV.ren] at hx;exact .nil
 | ln h=>intro hx hk;cases x <;> simp[SV.ren] at hx;subst hx;exact .ln h
 | @agg vs l h1 h0 h2 ih =>
  intro hx hk;cases x <;> simp[SV.ren] at hx
  rename_i l';rw[zcv] at hx;subst hx;refine .agg (by simpa using h1) (λ i u x hu hx=>h0 i u _ hu (by rw[List.getElem?_map,hx];rfl)) λ i u x hu hx=>ih i u _ hu (by rw[List.getElem?_map,hx];rfl) rfl λ k hkx=>hk k ?_;simp only[SV.ids,zaw];exact⟨x,zyU hx,hkx⟩
 | @tup vs l h1 h2 ih =>
  intro hx hk;cases x <;> simp[SV.ren] at hx
  rename_i l';rw[zcv] at hx;subst hx;refine .tup (by simpa using h1) λ i u x hu hx=>ih i u _ hu (by rw[List.getElem?_map,hx];rfl) rfl λ k hkx=>hk k ?_;simp only[SV.ids,zaw];exact⟨x,zyU hx,hkx⟩
 | @fn f fs cs a l h1 h2 h3 h4 ih3 ih4 =>
  intro hx hk;cases x <;> simp[SV.ren] at hx
  rename_i f' a' l';rw[zcv,zcv] at hx;obtain⟨rfl,rfl,rfl⟩:=hx;refine .fn (by simpa using h1) (by simpa using h2) (λ i u x hu hx=>ih3 i u _ hu (by rw[List.getElem?_map,hx];rfl) rfl λ k hkx=>hk k ?_) λ i u x hu hx=>ih4 i u _ hu (by rw[List.getElem?_map,hx];rfl) rfl λ k hkx=>hk k ?_
  .simp only[SV.ids,List.mem_append,zaw];exact .inl ⟨x,zyU hx,hkx⟩
  .simp only[SV.ids,List.mem_append,zaw];exact .inr ⟨x,zyU hx,hkx⟩
 | ifc h ih =>
  intro hx hk;cases x <;> simp[SV.ren] at hx
  obtain⟨rfl,rfl⟩:=hx;exact .ifc (ih rfl λ k hkx=>hk k (by simpa [SV.ids] using hkx))
 | mp =>
  intro hx hk;cases x <;> simp[SV.ren] at hx
  subst hx;rw[<- (hk _ (List.mem_singleton.2 rfl)).1];exact .mp
 | @po k i o b h =>
  intro hx hk;cases x <;> simp[SV.ren] at hx
  obtain⟨rfl,rfl,rfl⟩:=hx;exact .po (zdD (hk _ (List.mem_singleton.2 rfl)).2.2.2 h)
 | pnN =>
  intro hx hk;cases x <;> simp[SV.ren] at hx
  obtain⟨rfl,rfl⟩:=hx;exact .pnN
 | @pnS k i b h =>
  intro hx hk;cases x <;> simp[SV.ren] at hx
  obtain⟨rfl,rfl⟩:=hx;exact .pnS (zdD (hk _ (List.mem_singleton.2 rfl)).2.2.2 h)
 | fm =>
  intro hx hk;cases x <;> simp[SV.ren] at hx
  obtain⟨rfl,rfl⟩:=hx;exact .fm
 | @as k n cap h1 h2 =>
  intro hx hk;cases x <;> simp[SV.ren] at hx
  obtain⟨rfl,rfl⟩:=hx;rw[<- (hk _ (List.mem_singleton.2 rfl)).1];exact .as h1 h2
 | slfN =>
  intro hx hk;cases x <;> simp[SV.ren] at hx
  exact .slfN
 | slfP =>
  intro hx hk;cases x <;> simp[SV.ren] at hx
  obtain⟨rfl,rfl⟩:=hx;rw[<- (hk _ (List.mem_singleton.2 rfl)).1];exact .slfP
theorem zqL {g' g2:Gh}{ρ:Nat->Nat}{w:World}(hF:g2.F=g'.F){v:Value}{x:SV}(h:Den g' w v x)(hk:∀ k,k∈x.ids->Agr g2 g' (ρ k) k):Den g2 w v (x.ren ρ):=by
 induction h with
 | dat h=>exact .dat (hF ▸ h)
 | kb=>exact .kb
 | ptr=>rw[<- (hk _ (by simp[SV.ids])).1];exact .ptr
 | ep f h1 h2 h3=>exact .ep f (hF ▸ h1) h2 (hF ▸ h3)
 | @rp k s i j h =>
  have hk:=hk k (by simp[SV.ids]);rw[<- hk.1,<- hk.2.1];exact .rp (by rw[hk.2.2.1];exact h)
 | @rs k n h1 h2 h3 =>
  have hk:=hk k (by simp[SV.ids]);rw[<- hk.base];exact .rs (by rw[hk.2.2.1];exact h1) (by rw[hk.2.2.1,hk.2.1];exact h2) h3
 | csl h=>exact .csl (hF ▸ h)
 | nil=>exact .nil
 | ln h=>exact .ln h
 | @agg vs l h1 h0 h2 ih =>
  simp only[SV.ren,zcv];refine .agg (by simpa using h1) (λ i u x hu hx=>?_) λ i u x hu hx=>?_
  all_goals
   rw[List.getElem?_map] at hx
   cases hl:l[i]? with
   | none=>rw[hl] at hx;cases hx
   | some y =>
    rw[hl] at hx;cases hx
    first
    | exact h0 i u y hu hl
    | exact ih i u y hu hl λ k hkx=>hk k (by simp only[SV.ids,zaw];exact⟨y,zyU hl,hkx⟩)
 | @tup vs l h1 h2 ih =>
  simp only[SV.ren,zcv];refine .tup (by simpa using h1) λ i u x hu hx=>?_;rw[List.getElem?_map] at hx
  cases hl:l[i]? with
  | none=>rw[hl] at hx;cases hx
  | some y =>
   rw[hl] at hx;cases hx;exact ih i u y hu hl λ k hkx=>hk k (by simp only[SV.ids,zaw];exact⟨y,zyU hl,hkx⟩)
 | @fn f fs cs a l h1 h2 h3 h4 ih3 ih4 =>
  simp only[SV.ren,zcv];refine .fn (by simpa using h1) (by simpa using h2) (λ i u x hu hx=>?_) λ i u x hu hx=>?_
  .rw [List.getElem?_map] at hx
   cases hl:a[i]? with
   | none=>rw[hl] at hx;cases hx
   | some y =>
    rw[hl] at hx;cases hx;exact ih3 i u y hu hl λ k hkx=>hk k (by simp only[SV.ids,List.mem_append,zaw];exact .inl ⟨y,zyU hl,hkx⟩)
  .rw [List.getElem?_map] at hx
   cases hl:l[i]? with
   | none=>rw[hl] at hx;cases hx
   | some y =>
    rw[hl] at hx;cases hx;exact ih4 i u y hu hl λ k hkx=>hk k (by simp only[SV.ids,List.mem_append,zaw];exact .inr ⟨y,zyU hl,hkx⟩)
 | ifc h ih=>exact .ifc (ih λ k hkx=>hk k (by simpa [SV.ids] using hkx))
 | mp=>rw[<- (hk _ (by simp[SV.ids])).1];exact .mp
 | @po k i o b h=>exact .po (zdD (hk k (by simp[SV.ids])).2.2.2 h)
 | pnN=>exact .pnN
 | @pnS k i b h=>exact .pnS (zdD (hk k (by simp[SV.ids])).2.2.2 h)
 | fm=>exact .fm
 | as h1 h2=>rw[<- (hk _ (by simp[SV.ids])).1];exact .as h1 h2
 | slfN=>exact .slfN
 | slfP=>rw[<- (hk _ (by simp[SV.ids])).1];exact .slfP
theorem zfF {outs:List (Nat×Nat×Nat)}{ρ:Nat->Nat}{i o:Nat}:zaL (outs.map λ x=>(x.1,x.2.1,ρ x.2.2)) i o=(zaL outs i o).map ρ:=by
 unfold zaL;rw[List.find?_map]
 cases h:List.find? ((λ x=>x.1 == i&&x.2.1 == o) ∘ λ x:Nat×Nat×Nat=>(x.1,x.2.1,ρ x.2.2)) outs with
 | none =>
  have:List.find? (λ x=>x.1 == i&&x.2.1 == o) outs=none:=h;rw[this];rfl
 | some y =>
  have:List.find? (λ x=>x.1 == i&&x.2.1 == o) outs=some y:=h;rw[this];rfl
theorem znO {g g1:Gh}{w:World}{k k1:Nat}(hF:g1.F=g.F)(hX:∀ b,g.X k b->g1.X k1 b){e':TypeId}{s':Nat}{I:Nat->Option (Nat×Nat)}{i:Nat}{l:List D}{v:Value}(h:InRow g w k e' s' I i l v):InRow g1 w k1 e' s' I i l v:=by
 unfold InRow at h ⊢
 cases hI:I i with
 | none=>rw[hI] at h;exact h
 | some bc =>
  obtain⟨b,c⟩:=bc;rw[hI] at h;exact⟨h.1,hX _ h.2.1,hF ▸ h.2.2⟩
theorem zvw {g g1:Gh}{w:World}{k k1:Nat}{ρ:Nat->Nat}(hF:g1.F=g.F)(hX:∀ b,g.X k b->g1.X k1 b){ks:List Nat}{I:Nat->Nat->Option (Nat×Nat)}{outs:List (Nat×Nat×Nat)}{i o:Nat}{u:Value}{x:MC}
  (h:CellAt g w k (ks.map ρ) I (outs.map λ x=>(x.1,x.2.1,ρ x.2.2)) i o u x) (hk:∀ z,z∈outs.map (λ x=>x.2.2)++ks->Agr g1 g z (ρ z)):CellAt g1 w k1 ks I outs i o u x:=by
 have outz:∀ z,zaL outs i o=some z->Agr g1 g z (ρ z):=λ z hz=>by
  obtain⟨y,hy,_,_,rfl⟩:=zb8 hz;exact hk _ (by simp only[List.mem_append,List.mem_map];exact .inl ⟨y,hy,rfl⟩)
 cases x with
 | d x=>have h:Rd g.F w u x:=h;exact Rd.mono h (λ _ hb=>hF ▸ hb) λ _ _=>rfl
 | p c t =>
  cases t with
  | none=>exact h
  | some j =>
   obtain⟨k2,h1,b,h2,h3⟩:=h;rw[List.getElem?_map] at h1
   cases hc:ks[c]? with
   | none=>rw[hc] at h1;cases h1
   | some k0 =>
    rw[hc] at h1;cases h1;exact⟨k0,hc,b,zdD (hk k0 (by simp[zyU hc])).2.2.2 h2,h3⟩
 | r e s l =>
  simp only[CellAt,zfF] at h ⊢
  cases hz:zaL outs i o with
  | some z =>
   rw[hz] at h;have h:u=g.base (ρ z) l.length:=h;show u=g1.base z l.length;rw[h,(outz z hz).base]
  | none=>rw[hz] at h;exact znO hF hX h
 | m l =>
  simp only[CellAt,zfF] at h ⊢
  cases hz:zaL outs i o with
  | some z =>
   rw[hz] at h;have h:u = .map (some (g.β (ρ z))):=h;show u = .map (some (g1.β z));rw[h,(outz z hz).1]
  | none =>
   rw[hz] at h;obtain⟨b,h1,h2,h3,h4⟩:=h;exact⟨b,h1,h2,hX _ h3,hF ▸ h4⟩
theorem zs0 {g' g2:Gh}{w:World}{k k2:Nat}{ρ:Nat->Nat}(hF:g2.F=g'.F)(hX:∀ b,g'.X k b->g2.X k2 b){ks:List Nat}{I:Nat->Nat->Option (Nat×Nat)}{outs:List (Nat×Nat×Nat)}{i o:Nat}{u:Value}{x:MC}
  (h:CellAt g' w k ks I outs i o u x) (hk:∀ z,z∈outs.map (λ x=>x.2.2)++ks->Agr g2 g' (ρ z) z):CellAt g2 w k2 (ks.map ρ) I (outs.map λ x=>(x.1,x.2.1,ρ x.2.2)) i o u x:=by
 have outz:∀ z,zaL outs i o=some z->Agr g2 g' (ρ z) z:=λ z hz=>by
  obtain⟨y,hy,_,_,rfl⟩:=zb8 hz;exact hk _ (by simp only[List.mem_append,List.mem_map];exact .inl ⟨y,hy,rfl⟩)
 cases x with
 | d x=>have h:Rd g'.F w u x:=h;exact Rd.mono h (λ _ hb=>hF ▸ hb) λ _ _=>rfl
 | p c t =>
  cases t with
  | none=>exact h
  | some j =>
   obtain⟨k0,h1,b,h2,h3⟩:=h;exact⟨ρ k0,by rw[List.getElem?_map,h1];rfl,b,zdD (hk k0 (by simp[zyU h1])).2.2.2 h2,h3⟩
 | r e s l =>
  simp only[CellAt,zfF] at h ⊢
  cases hz:zaL outs i o with
  | some z =>
   rw[hz] at h;have h:u=g'.base z l.length:=h;show u=g2.base (ρ z) l.length;rw[h,(outz z hz).base]
  | none=>rw[hz] at h;exact znO hF hX h
 | m l =>
  simp only[CellAt,zfF] at h ⊢
  cases hz:zaL outs i o with
  | some z =>
   rw[hz] at h;have h:u = .map (some (g'.β z)):=h;show u = .map (some (g2.β (ρ z)));rw[h,(outz z hz).1]
  | none =>
   rw[hz] at h;obtain⟨b,h1,h2,h3,h4⟩:=h;exact⟨b,h1,h2,hX _ h3,hF ▸ h4⟩
theorem zuy {g g1:Gh}{w:World}{k k1:Nat}{ks ks1:List Nat}{es:List (D×List MC)}{outs outs1:List (Nat×Nat×Nat)}{arr:Array MapEntry}{cl:Nat}{M:List Nat}{I:Nat->Nat->Option (Nat×Nat)}(h:FamAt g w k ks es outs arr cl M I)
  (hF:g1.F=g.F) (h0:g1.β k1=g.β k) (hM:g1.M k1=g.M k) (hX:∀ b,g.X k b->g1.X k1 b) (ho:∀ x,x∈outs1->x.1<es.length) (hc:∀ i o u x,CellAt g w k ks I outs i o u x->CellAt g1 w k1 ks1 I outs1 i o u x):FamAt g1 w k1 ks1 es outs1 arr cl M I :=
 ⟨by rw[h0];exact h.hp,by rw[hM];exact h.Mk,h.len,h.size,h.keys,h.nodup,λ b hb=>hX b (h.own b hb),λ i x p hx hp=>⟨hF ▸ (h.ent i x p hx hp).1,(h.ent i x p hx hp).2⟩,λ i p hp=>by
  obtain⟨vs,t,h1,h2,h3⟩:=h.mem i p hp
  exact⟨vs,t,h1,h2,λ o u x hu hx=>⟨(h3 o u x hu hx).1,hc i o u x (h3 o u x hu hx).2⟩⟩,h.sep,h.inj,λ i o b c hI=>hX b (h.iown i o b c hI),ho⟩
theorem zwK {g g1:Gh}{ρ:Nat->Nat}{w:World}(hF:g1.F=g.F){k:Nat}{b:Blk}(h:BlkRel g w (ρ k) (b.ren ρ))(h0:Agr g1 g k (ρ k))(hM:g1.M k=g.M (ρ k))(hX:∀ b,g.X (ρ k) b->g1.X k b)
  (hk:∀ i,i∈b.ids->Agr g1 g i (ρ i)):BlkRel g1 w k b:=by
 cases b with
 | unborn=>trivial
 | dead=>trivial
 | box l =>
  obtain⟨vs,t,h1,h2,h3,h4⟩:=h;rw[zcv] at h2 h3 h4;refine⟨vs,t,by rw[h0.1];exact h1,by simpa using h2,λ i u x hu hx=>?_,λ k' t' h0=>h4 (ρ k') t' (by rw[List.getElem?_map,h0];rfl)⟩;have:=h3 i u (x.ren ρ) hu (by rw[List.getElem?_map,hx];rfl);exact⟨this.1,zux hF this.2 rfl λ j hj=>hk j (by simp only[Blk.ids,zaw];exact⟨x,zyU hx,hj⟩)⟩
 | arr l =>
  obtain⟨vs,t,h1,h2,h3⟩:=h;exact⟨vs,t,by rw[h0.1];exact h1,h2,hF ▸ h3⟩
 | mp es =>
  obtain⟨arr,cl,h1,h2,h3,h4⟩:=h;exact⟨arr,cl,by rw[h0.1];exact h1,h2,h3,hF ▸ h4⟩
 | sit s p=>exact⟨by rw[h0.1];exact h.1,h.2⟩
 | fam ks es outs =>
  obtain⟨arr,cl,M,I,h⟩:=h;exact⟨arr,cl,M,I,zuy h hF h0.1 hM hX (λ x hx=>h.olt (x.1,x.2.1,ρ x.2.2) (List.mem_map.2 ⟨x,hx,rfl⟩)) λ i o u x hc=>zvw hF hX hc hk⟩
 | nest e e' s' o ls =>
  obtain⟨h1,cur,I,h2,h3,h4,h5,h6,h7⟩:=h
  have hne:∀ i,(∀ z,(match o with|some (i,z)=>some (i,ρ z)|none=>none:Option (Nat×Nat))≠some (i,z)) ↔ ∀ z,o≠some (i,z):=by
   intro i
   rcases o with _|⟨i0,z0⟩
   .simp
   .constructor
    .rintro h z ⟨⟩;exact h _ rfl
    .rintro h z e;cases e;exact h _ rfl
  refine⟨by rw[h0.2.2.1];exact h1,cur,I,by rw[h0.1];exact h2,by rw[h0.2.1];exact h3,by rw[h0.2.1];exact h4,by rw[h0.2.1];exact h5,λ i l hl=>?_,λ i i' b c c' hi hi' g1 g2=>h7 i i' b c c' hi hi' ((hne i).2 g1) ((hne i').2 g2)⟩;obtain⟨v,hv,hv2⟩:=h6 i l hl;refine⟨v,hv, ?_⟩
  rcases hv2 with ⟨z,e1,e2⟩|⟨e1,e2⟩
  .rcases o with _|⟨i0,z0⟩
   .cases e1
   .cases e1
    exact .inl ⟨z0,rfl,by rw[e2,(hk z0 (by simp[Blk.ids])).base]⟩
  .exact .inr ⟨(hne i).1 e1,znO hF hX e2⟩
 | row t s es =>
  rcases h with ⟨h1,h2⟩|⟨h1,h2⟩
  .exact .inl ⟨by rw[h0.2.2.1];exact h1,h2⟩
  .exact .inr ⟨by rw[h0.2.2.1];exact h1,by rw[h0.1,h0.2.1,hF];exact h2⟩
 | fz t s es =>
  rcases h with ⟨h1,h2⟩|⟨h1,h2,h3⟩
  .exact .inl ⟨by rw[h0.2.2.1];exact h1,h2⟩
  .exact .inr ⟨by rw[h0.2.2.1];exact h1,by rw[h0.1,hF];exact h2,by rw[h0.1,h0.2.1,hF];exact h3⟩
theorem zvx {g' g2:Gh}{ρ:Nat->Nat}{w:World}(hF:g2.F=g'.F){k:Nat}{b:Blk}(h:BlkRel g' w k b)(h0:Agr g2 g' (ρ k) k)(hM:g2.M (ρ k)=g'.M k)(hX:∀ b,g'.X k b->g2.X (ρ k) b)
  (hk:∀ i,i∈b.ids->Agr g2 g' (ρ i) i):BlkRel g2 w (ρ k) (b.ren ρ):=by
 cases b with
 | unborn=>trivial
 | dead=>trivial
 | box l =>
  obtain⟨vs,t,h1,h2,h3,h4⟩:=h;simp only[Blk.ren,zcv];refine⟨vs,t,by rw[h0.1];exact h1,by simpa using h2,λ i u x hu hx=>?_,λ k' t' hy=>?_⟩
  rotate_left
  .rw [List.getElem?_map] at hy
   cases hl:l[0]? with
   | none=>rw[hl] at hy;cases hy
   | some y =>
    rw[hl] at hy
    cases y <;> simp[SV.ren] at hy
    obtain⟨_,rfl⟩:=hy;exact h4 _ _ hl
  rw[List.getElem?_map] at hx
  cases hl:l[i]? with
  | none=>rw[hl] at hx;cases hx
  | some y =>
   rw[hl] at hx;cases hx;have:=h3 i u y hu hl;exact⟨this.1,zqL hF this.2 λ j hj=>hk j (by simp only[Blk.ids,zaw];exact⟨y,zyU hl,hj⟩)⟩
 | arr l =>
  obtain⟨vs,t,h1,h2,h3⟩:=h;exact⟨vs,t,by rw[h0.1];exact h1,h2,hF ▸ h3⟩
 | mp es =>
  obtain⟨arr,cl,h1,h2,h3,h4⟩:=h;exact⟨arr,cl,by rw[h0.1];exact h1,h2,h3,hF ▸ h4⟩
 | sit s p=>exact⟨by rw[h0.1];exact h.1,h.2⟩
 | fam ks es outs =>
  obtain⟨arr,cl,M,I,h⟩:=h;exact⟨arr,cl,M,I,zuy h hF h0.1 hM hX (λ x hx=>by obtain⟨y,hy,rfl⟩:=List.mem_map.1 hx;exact h.olt y hy) λ i o u x hc=>zs0 hF hX hc hk⟩
 | nest e e' s' o ls =>
  obtain⟨h1,cur,I,h2,h3,h4,h5,h6,h7⟩:=h
  have hne:∀ i,(∀ z,(match o with|some (i,z)=>some (i,ρ z)|none=>none:Option (Nat×Nat))≠some (i,z)) ↔ ∀ z,o≠some (i,z):=by
   intro i
   rcases o with _|⟨i0,z0⟩
   .simp
   .constructor
    .rintro h z ⟨⟩;exact h _ rfl
    .rintro h z e;cases e;exact h _ rfl
  refine⟨by rw[h0.2.2.1];exact h1,cur,I,by rw[h0.1];exact h2,by rw[h0.2.1];exact h3,by rw[h0.2.1];exact h4,by rw[h0.2.1];exact h5,λ i l hl=>?_,λ i i' b c c' hi hi' g1 g2=>h7 i i' b c c' hi hi' ((hne i).1 g1) ((hne i').1 g2)⟩;obtain⟨v,hv,hv2⟩:=h6 i l hl;refine⟨v,hv, ?_⟩
  rcases hv2 with ⟨z,rfl,e2⟩|⟨e1,e2⟩
  .exact .inl ⟨ρ z,rfl,by rw[e2,(hk z (by simp[Blk.ids])).base]⟩
  .exact .inr ⟨(hne i).2 e1,znO hF hX e2⟩
 | row t s es =>
  rcases h with ⟨h1,h2⟩|⟨h1,h2⟩
  .exact .inl ⟨by rw[h0.2.2.1];exact h1,h2⟩
  .exact .inr ⟨by rw[h0.2.2.1];exact h1,by rw[h0.1,h0.2.1,hF];exact h2⟩
 | fz t s es =>
  rcases h with ⟨h1,h2⟩|⟨h1,h2,h3⟩
  .exact .inl ⟨by rw[h0.2.2.1];exact h1,h2⟩
  .exact .inr ⟨by rw[h0.2.2.1];exact h1,by rw[h0.1,hF];exact h2,by rw[h0.1,h0.2.1,hF];exact h3⟩
end
section
variable {P:Program} {fr:Fr} {nt:Nat} {g:Gh} {e:Nat->SV} {m:Nat->Blk} {a:Act} {w:World} {c:Ctx}
def Gh.via (g:Gh)(p:Nat)(ρ:Nat->Nat):Gh:={ β:=λ k=>g.β (ρ k),C:=λ k=>g.C (ρ k),N:=λ k=>g.N (ρ k),M:=λ k=>g.M (ρ k),F:=g.F,X:=λ k b=>k<p/\g.X (ρ k) b }
def Has (g:Gh)(k b:Nat):Prop:=g.β k=b∨g.X k b
def frIn (g:Gh)(m:Nat->Blk)(w:World)(p:Nat)(ρ:Nat->Nat):Fr :=
 { w0:=w,Kp:=λ b=>b<w.heap.size/\∀ j,j<p->zab g m (ρ j)->¬ Has g (ρ j) b,Z:=g.F,Y:=λ b=>g.F b ∨ ∃ j,j<p/\zab g m (ρ j)/\Has g (ρ j) b,p:=p,g0:=g.via p ρ }
theorem zl {ρ:Nat->Nat}{b:Blk}(h:b ≠ .unborn):b.ren ρ ≠ .unborn:=by
 cases b with
 | unborn=>exact absurd rfl h
 | _=>simp[Blk.ren]
theorem zqM {p:Nat}{ρ:Nat->Nat}{m1:Nat->Blk}{k:Nat}(h:m (ρ k)=(m1 k).ren ρ):zab (g.via p ρ) m1 k ↔ zab g m (ρ k):=by
 unfold zab;rw[h]
 cases m1 k <;> exact Iff.rfl
theorem SR.enter {p : Nat}{ρ : Nat → Nat}{e1 : Nat → SV}{m1 : Nat → Blk}{a1 : Act}{nt1 : Nat}(hs : SR fr nt g e m a w)(hm : ∀ j, j < p → m (ρ j) = (m1 j).ren ρ)(hm0 : ∀ j, p ≤ j → m1 j = .unborn)
    (hu : ∀ j, j < p → m1 j ≠ .unborn) (hinj : ∀ i j, i < p → j < p → ρ i = ρ j → i = j) (hids : ∀ j k, k ∈ (m1 j).ids → k < p) (he : ∀ t k, k ∈ (e1 t).ids → k < p)
    (henv : ∀ t, e1 t = .no ∨ ∃ v, a1.tmps[t]? = some v ∧ DenO g w v ((e1 t).ren ρ)) (hd : a1.defers = []) (ht : a1.tmps.size = nt1) : SR (frIn g m w p ρ) nt1 (g.via p ρ) e1 m1 a1 w := by
  have lt : ∀ k, zab (g.via p ρ) m1 k → k < p := by
    intro k hk;refine Classical.byContradiction fun hn => ?_;unfold zab at hk; rw [hm0 k (by omega)] at hk; exact hk
  have al : ∀ k, zab (g.via p ρ) m1 k → zab g m (ρ k) := fun k hk => (zqM (hm k (lt k hk))).1 hk;have agr : ∀ k, Agr (g.via p ρ) g k (ρ k) := fun k => ⟨rfl, rfl, rfl, List.prefix_rfl⟩
  refine { mem := ⟨fun k => ?_, fun i j hi hj hij => ?_, fun k hk => hs.mem.hot _ (al k hk), hs.mem.lt, fun k b hk hx => ?_⟩, env := fun t => ?_, bornE := fun t k hk => hu k (he t k hk), bornM := fun b k hk => hu k (hids b k hk), os := rfl, tape := rfl, output := rfl,
           size := Nat.le_refl _, keep := fun b hb => ⟨hb.1, rfl⟩, safe := fun k hk => ⟨fun hb => hb.2 k (lt k hk) (al k hk) (.inl rfl), .inl (.inr ⟨k, lt k hk, al k hk, .inl rfl⟩)⟩,
           safeX := fun k b hk hx => ⟨fun hb => hb.2 k (lt k hk) (al k hk) (.inr hx.2), .inl (.inr ⟨k, lt k hk, al k hk, .inr hx.2⟩)⟩, given := fun b hb => hb, frz := fun b hb => .inl (.inl hb), defers := hd, tmps := ht,
           pin := fun k _ => ⟨rfl, rfl, rfl, List.prefix_rfl⟩ }
  · by_cases hk : k < p
    · have := hs.mem.blk (ρ k)
      rw [hm k hk] at this;exact zwK (g := g) (g1 := g.via p ρ) (ρ := ρ) rfl this (agr k) rfl (fun b hb => ⟨hk, hb⟩) fun i _ => agr i
    · rw [hm0 k (by omega)]; trivial
  · exact hinj i j (lt i hi) (lt j hj) (hs.mem.inj _ _ (al i hi) (al j hj) hij)
  · obtain ⟨x1, x2, x3, x4⟩ := hs.mem.own (ρ k) b (al k hk) hx.2
    exact ⟨x1, x2, fun k' hk' => x3 _ (al k' hk'), fun k' hk' hx' => hinj k' k (lt k' hk') (lt k hk) (x4 _ (al k' hk') hx'.2)⟩
  · rcases henv t with h | ⟨v, h1, h2⟩
    · exact .inl h
    · rcases h2 with h2 | h2
      · left
        cases hx : e1 t <;> rw [hx] at h2 <;> first | rfl | (simp [SV.ren] at h2)
      · exact .inr ⟨v, h1, zux (g := g) (g1 := g.via p ρ) (ρ := ρ) rfl h2 rfl fun k hk => agr k⟩
open Classical in
noncomputable def invS (D:Nat->Prop)(σ:Nat->Nat)(q:Nat):Option Nat:=if h:∃ j,D j/\σ j=q then some h.choose else none
theorem zqN {D:Nat->Prop}{σ:Nat->Nat}{q:Nat}(h:∀ j,D j->σ j≠q):invS D σ q=none:=by
 unfold invS;rw[dif_neg λ ⟨j,hj,e⟩=>h j hj e]
theorem zqO {D:Nat->Prop}{σ:Nat->Nat}{j:Nat}(hinj:∀ i j,D i->D j->σ i=σ j->i=j)(hj:D j):invS D σ (σ j)=some j:=by
 unfold invS;have h:∃ i,D i/\σ i=σ j:=⟨j,hj,rfl⟩;rw[dif_pos h,hinj _ _ h.choose_spec.1 hj h.choose_spec.2]
noncomputable def Gh.back (g g' : Gh)(D : Nat → Prop)(σ : Nat → Nat) : Gh :=
  { β := fun k => match invS D σ k with | some j => g'.β j | none => g.β k
    C := fun k => match invS D σ k with | some j => g'.C j | none => g.C k
    N := fun k => match invS D σ k with | some j => g'.N j | none => g.N k
    M := fun k => match invS D σ k with | some j => g'.M j | none => g.M k
    F := g'.F
    X := fun k b => match invS D σ k with | some j => g'.X j b | none => g.X k b }
theorem ze5 {g g':Gh}{D:Nat->Prop}{σ:Nat->Nat}(hinj:∀ i j,D i->D j->σ i=σ j->i=j){j:Nat}(hj:D j) :
  (g.back g' D σ).β (σ j)=g'.β j/\(g.back g' D σ).C (σ j)=g'.C j/\(g.back g' D σ).N (σ j)=g'.N j/\(g.back g' D σ).M (σ j)=g'.M j/\(g.back g' D σ).X (σ j)=g'.X j:=by
 simp[Gh.back,zqO hinj hj]
theorem zeE {g g':Gh}{D:Nat->Prop}{σ:Nat->Nat}{k:Nat}(h:∀ j,D j->σ j≠k) :
  (g.back g' D σ).β k=g.β k/\(g.back g' D σ).C k=g.C k/\(g.back g' D σ).N k=g.N k/\(g.back g' D σ).M k=g.M k/\(g.back g' D σ).X k=g.X k:=by
 simp[Gh.back,zqN h]
theorem SR.leave {p nt1:Nat}{ρ σ:Nat->Nat}{D:Nat->Prop}{g':Gh}{e1:Nat->SV}{m1 m2:Nat->Blk}{a1:Act}{w':World}(hs:SR fr nt g e m a w)
  (hσ:∀ j,j<p->D j/\σ j=ρ j) (hnew:∀ j,D j->p<=j->m (σ j) = .unborn/\fr.p<=σ j) (hinj:∀ i j,D i->D j->σ i=σ j->i=j) (hρ:∀ j,j<p->m (ρ j) ≠ .unborn)
  (h1:SR (frIn g m w p ρ) nt1 g' e1 m1 a1 w') (hm1:∀ j,j<p->m1 j ≠ .unborn) (hout:∀ j,¬ D j->m1 j = .unborn)
  (hin:∀ j,D j->m2 (σ j)=(m1 j).ren σ) (hrest:∀ k,(∀ j,D j->σ j≠k)->m2 k=m k) :
  SR fr nt (g.back g' D σ) e m2 a w'/\∀ k,m1 k ≠ .unborn->Agr (g.back g' D σ) g' (σ k) k:=by
 have known:∀ k,m1 k ≠ .unborn->D k:=λ k hk=>Classical.byContradiction λ hn=>hk (hout k hn)
 have off:∀ k,(∀ j,D j->σ j≠k)->Agr (g.back g' D σ) g k k:=λ k hk=>by
  obtain⟨e1,e2,e3,e4,_⟩:=zeE (g:=g) (g':=g') hk;exact⟨e1,e2,e3,by rw[e4];exact List.prefix_rfl⟩
 have at':∀ j,D j->Agr (g.back g' D σ) g' (σ j) j:=λ j hj=>by
  obtain⟨e1,e2,e3,e4,_⟩:=ze5 (g:=g) (g':=g') hinj hj;exact⟨e1,e2,e3,by rw[e4];exact List.prefix_rfl⟩
 have pin:∀ j,j<p->Agr g' g j (ρ j):=λ j hj=>h1.pin j hj
 -- each number is one of the callee's, or one of the caller's that was not given
 have cases2:∀ k,(∃ j,D j/\σ j=k) ∨ ∀ j,D j->σ j≠k:=λ k=>by
  by_cases h:∃ j,D j/\σ j=k
  .exact .inl h
  .exact .inr λ j hj he=>h ⟨j,hj,he⟩
 have agree:∀ k,(m k ≠ .unborn∨k<fr.p)->Agr (g.back g' D σ) g k k:=λ k hk=>by
  rcases cases2 k with ⟨j,hj,rfl⟩|h
  .have hjp:j<p:=Classical.byContradiction λ hn=>by
    obtain⟨n1,n2⟩:=hnew j hj (by omega)
    rcases hk with hk|hk
    .exact hk n1
    .omega
   obtain⟨e1,e2,e3,e4,_⟩:=ze5 (g:=g) (g':=g') hinj hj;obtain⟨p1,p2,p3,p4⟩:=pin j hjp;rw[<- (hσ j hjp).2] at p1 p2 p3 p4;exact⟨e1.trans p1,e2.trans p2,e3.trans p3,by rw[e4];exact p4⟩
  .exact off k h
 have hF:∀ b,g.F b->g'.F b:=λ b hb=>h1.given b hb;have kp:∀ b,b<w.heap.size->(∀ j,j<p->zab g m (ρ j)->¬ Has g (ρ j) b)->w'.heap[b]? = w.heap[b]? := λ b hb hn=>(h1.keep b ⟨hb,hn⟩).2
 have hwF:∀ b,g.F b->w'.heap[b]? = w.heap[b]? := λ b hb=>kp b (hs.mem.lt b hb) λ j hj hal he=>by
  rcases he with he|he
  .exact hs.mem.hot _ hal (he ▸ hb)
  .exact (hs.mem.own _ _ hal he).2.1 hb
 have kpK:∀ b,fr.Kp b->b<w.heap.size/\∀ j,j<p->zab g m (ρ j)->¬ Has g (ρ j) b:=λ b hb=>⟨Nat.lt_of_lt_of_le (hs.keep b hb).1 hs.size,λ j hj hal he=>by
  rcases he with he|he
  .exact (hs.safe _ hal).1 (he ▸ hb)
  .exact (hs.safeX _ _ hal he).1 hb⟩
 -- which number is alive behind
 have split:∀ q,zab (g.back g' D σ) m2 q->(∃ j,D j/\zab g' m1 j/\q=σ j)∨((∀ j,D j->σ j≠q)/\zab g m q):=by
  intro q hq
  rcases cases2 q with ⟨j,hj,rfl⟩|h
  .refine .inl ⟨j,hj, ?_,rfl⟩
   have:=(at' j hj).2.2.1;unfold zab at hq ⊢;rw[hin j hj] at hq
   cases hm:m1 j <;> rw[hm] at hq <;> first|trivial|exact hq|skip
   exact this ▸ hq
  .refine .inr ⟨h, ?_⟩
   have:=(off q h).2.2.1;unfold zab at hq ⊢;rw[hrest q h,this] at hq;exact hq
 -- what an outside number has, the callee could not touch
 have outβ:∀ q,(∀ j,D j->σ j≠q)->zab g m q->g.β q<w.heap.size/\∀ j,j<p->zab g m (ρ j)->¬ Has g (ρ j) (g.β q):=λ q hn hal=>⟨zbw hs.mem hal,λ j hj hj' he=>by
  rcases he with he|he
  .exact hn j (hσ j hj).1 ((hσ j hj).2.trans (hs.mem.inj _ _ hj' hal he))
  .exact (hs.mem.own _ _ hj' he).2.2.1 q hal rfl⟩
 have outX:∀ q b,(∀ j,D j->σ j≠q)->zab g m q->g.X q b->b<w.heap.size/\∀ j,j<p->zab g m (ρ j)->¬ Has g (ρ j) b:=λ q b hn hal hx=>⟨(hs.mem.own q b hal hx).1,λ j hj hj' he=>by
  rcases he with he|he
  .exact (hs.mem.own q b hal hx).2.2.1 _ hj' he
  .exact hn j (hσ j hj).1 ((hσ j hj).2.trans ((hs.mem.own q b hal hx).2.2.2 _ hj' he))⟩
 have notF:∀ b,¬ g.F b->b<w.heap.size->(∀ j,j<p->zab g m (ρ j)->¬ Has g (ρ j) b)->¬ g'.F b:=λ b h1' h2 h3 hb=>by
  rcases h1.frz b hb with (hb|⟨j,hj,hj',he⟩)|hb
  .exact h1' hb
  .exact h3 j hj hj' he
  .have hb:w.heap.size<=b:=hb
   omega
 have born:∀ k,m k ≠ .unborn->m2 k ≠ .unborn:=by
  intro k hk
  rcases cases2 k with ⟨j,hj,rfl⟩|h
  .have hjp:j<p:=Classical.byContradiction λ hn=>hk (hnew j hj (by omega)).1
   rw[hin j hj];exact zl (hm1 j hjp)
  .rw [hrest k h];exact hk
 have zpr:∀ k,m1 k ≠ .unborn->m2 (σ k) ≠ .unborn:=by
  intro k hk;rw[hin k (known k hk)];exact zl hk
 refine⟨{ mem:=⟨λ q=>?_,λ q q' hq hq' hqq=>?_,λ q hq=>?_,h1.mem.lt,λ q b hq hx=>?_⟩,env:=λ t=>?_,bornE:=λ t k hk=>born k (hs.bornE t k hk),bornM:=λ b k hk=>?_,os:=h1.os.trans hs.os,tape:=h1.tape.trans hs.tape,output:=h1.output.trans hs.output,size:=Nat.le_trans hs.size h1.size,keep:=λ b hb=>⟨(hs.keep b hb).1,(kp b (kpK b hb).1 (kpK b hb).2).trans (hs.keep b hb).2⟩,safe:=λ q hq=>?_,safeX:=λ q b hq hx=>?_,given:=λ b hb=>hF b (hs.given b hb),frz:=λ b hb=>?_,defers:=hs.defers,tmps:=hs.tmps,pin:=λ k hk=>?_ },λ k hk=>at' k (known k hk)⟩
 .rcases cases2 q with ⟨j,hj,rfl⟩|h
  .rw [hin j hj]
   obtain⟨_,_,_,e4,e5⟩:=ze5 (g:=g) (g':=g') hinj hj;exact zvx (g':=g') (g2:=g.back g' D σ) (ρ:=σ) rfl (h1.mem.blk j) (at' j hj) e4 (λ b hb=>by rw[e5];exact hb) λ i hi=>at' i (known i (h1.bornM j i hi))
  .rw [hrest q h]
   have hbq:=hs.mem.blk q;obtain⟨_,_,_,e4,e5⟩:=zeE (g:=g) (g':=g') h;have idok:∀ i,i∈(m q).ids->Agr (g.back g' D σ) g i i:=λ i hi=>agree i (.inl (hs.bornM q i hi));by_cases hal:zab g m q
   .exact hbq.mono hF hwF (off q h) (kp _ (outβ q h hal).1 (outβ q h hal).2) idok (λ b hx=>⟨by rw[e5];exact hx,kp b (outX q b h hal hx).1 (outX q b h hal hx).2⟩) e4
   .unfold zab at hal
    cases hm:m q with
    | unborn=>trivial
    | dead=>trivial
    | row t s es =>
     rw[hm] at hal hbq
     rcases hbq with hb|hb
     .exact .inl ⟨by rw[(off q h).2.2.1];exact hb.1,hb.2⟩
     .exact absurd hb.1 hal
    | fz t s es =>
     rw[hm] at hbq
     rcases hbq with hb|⟨b1,b2,b3⟩
     .exact .inl ⟨by rw[(off q h).2.2.1];exact hb.1,hb.2⟩
     .exact .inr ⟨by rw[(off q h).2.2.1];exact b1,by rw[(off q h).1];exact hF _ b2,by rw[(off q h).1,(off q h).2.1];exact b3.mono hF hwF (hwF _ b2)⟩
    | _=>rw[hm] at hal;exact absurd trivial hal
 .rcases split q hq with ⟨j,hj,ha,rfl⟩|⟨h,ha⟩
  .rcases split q' hq' with ⟨j',hj',ha',rfl⟩|⟨h',ha'⟩
   .rw [(at' j hj).1,(at' j' hj').1] at hqq
    rw[h1.mem.inj j j' ha ha' hqq]
   .exfalso
    rw[(at' j hj).1,(off q' h').1] at hqq;exact(h1.safe j ha).1 (hqq ▸ outβ q' h' ha')
  .rcases split q' hq' with ⟨j',hj',ha',rfl⟩|⟨h',ha'⟩
   .exfalso
    rw[(at' j' hj').1,(off q h).1] at hqq;exact(h1.safe j' ha').1 (hqq ▸ outβ q h ha)
   .rw [(off q h).1,(off q' h').1] at hqq
    exact hs.mem.inj q q' ha ha' hqq
 .rcases split q hq with ⟨j,hj,ha,rfl⟩|⟨h,ha⟩
  .rw [(at' j hj).1];exact h1.mem.hot j ha
  .rw [(off q h).1]
   exact notF _ (hs.mem.hot q ha) (outβ q h ha).1 (outβ q h ha).2
 .rcases split q hq with ⟨j,hj,ha,rfl⟩|⟨h,ha⟩
  .rw [(ze5 (g:=g) (g':=g') hinj hj).2.2.2.2] at hx
   obtain⟨x1,x2,x3,x4⟩:=h1.mem.own j b ha hx;refine⟨x1,x2,λ q' hq' he=>?_,λ q' hq' hx' => ?_⟩
   .rcases split q' hq' with ⟨j',hj',ha',rfl⟩|⟨h',ha'⟩
    .rw [(at' j' hj').1] at he;exact x3 j' ha' he
    .rw [(off q' h').1] at he
     exact(h1.safeX j b ha hx).1 (he ▸ outβ q' h' ha')
   .rcases split q' hq' with ⟨j',hj',ha',rfl⟩|⟨h',ha'⟩
    .rw [(ze5 (g:=g) (g':=g') hinj hj').2.2.2.2] at hx'
     rw[x4 j' ha' hx']
    .rw [(zeE (g:=g) (g':=g') h').2.2.2.2] at hx'
     exact absurd (outX q' b h' ha' hx') (h1.safeX j b ha hx).1
  .rw [(zeE (g:=g) (g':=g') h).2.2.2.2] at hx
   obtain⟨x1,x2,x3,x4⟩:=hs.mem.own q b ha hx;have ho:=outX q b h ha hx;refine⟨Nat.lt_of_lt_of_le x1 h1.size,notF b x2 ho.1 ho.2,λ q' hq' he=>?_,λ q' hq' hx' => ?_⟩
   .rcases split q' hq' with ⟨j',hj',ha',rfl⟩|⟨h',ha'⟩
    .rw [(at' j' hj').1] at he
     exact(h1.safe j' ha').1 (he ▸ ho)
    .rw [(off q' h').1] at he;exact x3 q' ha' he
   .rcases split q' hq' with ⟨j',hj',ha',rfl⟩|⟨h',ha'⟩
    .rw [(ze5 (g:=g) (g':=g') hinj hj').2.2.2.2] at hx'
     exact absurd ho (h1.safeX j' b ha' hx').1
    .rw [(zeE (g:=g) (g':=g') h').2.2.2.2] at hx'
     exact x4 q' ha' hx'
 .rcases hs.env t with h|⟨v,v1,v2⟩
  .exact .inl h
  .exact .inr ⟨v,v1,v2.mono hF hwF λ k hk=>agree k (.inl (hs.bornE t k hk))⟩
 .rcases cases2 b with ⟨j,hj,rfl⟩|h
  .rw [hin j hj,zmN] at hk
   obtain⟨i,hi,rfl⟩:=List.mem_map.1 hk;exact zpr i (h1.bornM j i hi)
  .rw [hrest b h] at hk
   exact born k (hs.bornM b k hk)
 .rcases split q hq with ⟨j,hj,ha,rfl⟩|⟨h,ha⟩
  .rw [(at' j hj).1]
   obtain⟨s1,s2⟩:=h1.safe j ha;refine⟨λ hb=>s1 (kpK _ hb), ?_⟩
   rcases s2 with (hb|⟨j',hj',hj'',he⟩)|hb
   .exact absurd (hF _ hb) (h1.mem.hot j ha)
   .rcases he with he|he
    .rw [<- he];exact(hs.safe _ hj'').2
    .exact (hs.safeX _ _ hj'' he).2
   .exact .inr (Nat.le_trans hs.size hb)
  .rw [(off q h).1];exact hs.safe q ha
 .rcases split q hq with ⟨j,hj,ha,rfl⟩|⟨h,ha⟩
  .rw [(ze5 (g:=g) (g':=g') hinj hj).2.2.2.2] at hx
   obtain⟨s1,s2⟩:=h1.safeX j b ha hx;refine⟨λ hb=>s1 (kpK _ hb), ?_⟩
   rcases s2 with (hb|⟨j',hj',hj'',he⟩)|hb
   .exact hs.frz b hb
   .rcases he with he|he
    .rw [<- he];exact(hs.safe _ hj'').2
    .exact (hs.safeX _ _ hj'' he).2
   .exact .inr (Nat.le_trans hs.size hb)
  .rw [(zeE (g:=g) (g':=g') h).2.2.2.2] at hx
   exact hs.safeX q b ha hx
 .rcases h1.frz b hb with (hb|⟨j,hj,hj',he⟩)|hb
  .exact hs.frz b hb
  .rcases he with he|he
   .rw [<- he];exact(hs.safe _ hj').2
   .exact (hs.safeX _ _ hj' he).2
  .exact .inr (Nat.le_trans hs.size hb)
 .obtain ⟨a1,a2,a3,a4⟩:=agree k (.inr hk)
  obtain⟨p1,p2,p3,p4⟩:=hs.pin k hk;exact⟨a1.trans p1,a2.trans p2,a3.trans p3,p4.trans a4⟩
end
end Go.Vc
namespace Go.Vc
open Go.RowKit
def retE (c:Ctx)(rs:List ResultVar)(s s0:Ann)(n:Nat)(R:List SV->List Blk->Prop):Ex->St->Prop
 | .ret,st | .normal,st=>Pg.results c rs (λ ys _ _ _ _=>St.head s { env:=(List.range ys.length).zip ys,mem:=st.mem } R∨St.head s0 { env:=(List.range ys.length).zip ys,mem:=st.mem } λ v bl=>R v (bl++List.replicate n .unborn)) st.e st.m [] λ _ _=>True
 | _,_=>False
theorem zqP {α:Type}(z:α)(l r:List (Nat×α))(t:Nat):get z (l++r) t=get (get z r t) l t:=by
 induction l with
 | nil=>rfl
 | cons x l ih=>obtain⟨k,v⟩:=x;simp only[List.cons_append,get,ih]
theorem zs1 {α:Type}(z:α)(n:Nat):∀ (l:List Nat) (t:Nat),get z (l.zip (List.replicate n z)) t=z:=by
 induction n with
 | zero=>intro l t;simp[get]
 | succ n ih =>
  intro l t
  cases l with
  | nil=>rfl
  | cons k l =>
   simp only[List.replicate_succ,List.zip_cons_cons,get,ih]
   cases Nat.beq k t <;> rfl
def idxN:List Nat->Nat->Nat
 | [],_=>0
 | x::l,j=>bif Nat.beq x j then 0 else idxN l j+1
theorem zf4 {α:Type}(z:α):∀ {l:List Nat} {bs:List α} {j:Nat},j∈l->l.length=bs.length->idxN l j<l.length/\l[idxN l j]? = some j/\bs[idxN l j]? = some (get z (l.zip bs) j)
 | [],_,j,h,_=>by cases h
 | x::l,[],j,_,h=>by simp at h
 | x::l,b::bs,j,h,hl=>by
  simp only[idxN,List.zip_cons_cons,get]
  cases hx:Nat.beq x j with
  | true=>simp[zyT hx]
  | false =>
   have hj:j∈l:=by
    rcases List.mem_cons.1 h with h|h
    .subst h;rw[Nat.beq_refl] at hx;cases hx
    .exact h
   obtain⟨h1,h2,h3⟩:=zf4 z (bs:=bs) hj (by simpa using hl);simp only[cond_false];exact⟨by simpa using h1,by simpa using h2,by simpa using h3⟩
theorem zmO {α:Type}(z:α):∀ {l:List Nat} {bs:List α} {j:Nat},j ∉ l->get z (l.zip bs) j=z
 | [],_,j,_=>by simp[get]
 | x::l,[],j,_=>by simp[get]
 | x::l,b::bs,j,h=>by
  have hx:Nat.beq x j=false:=beqF λ e=>h (by rw[e];exact List.mem_cons_self);simp only[List.zip_cons_cons,get,hx,cond_false];exact zmO z λ hj=>h (List.mem_cons_of_mem _ hj)
def BIG:Nat:=1000000000000
def back (p:Nat)(ρ:Nat->Nat)(zs:List Nat)(id:Nat)(j:Nat):Nat:=if j<p then ρ j else id+BIG*idxN zs j
section
variable {P:Program} {fr:Fr} {nt:Nat} {g:Gh} {e:Nat->SV} {m:Nat->Blk} {a:Act} {w:World} {c:Ctx}
theorem zs2 (hm:P.follows .mixedOrders=true)(hT:TyOK P c.ty)(hC:CtxOK P c){f:FuncId}{fn:Func}{code:Code}{rs:List ResultVar}{nid p id:Nat}{zs:List Nat}{ρ:Nat->Nat}{bl:List Blk}{xs:List SV}{vs:List Value}
  {s s0:Ann} {R:List SV->List Blk->Prop} {K:Dl->List Loc->Prop}
  (hf:P.funcs[f]? = some fn) (hb:fn.body=some code) (hr:fn.results=rs.toArray) (hn:xs.length<=fn.ntmps) (hok:zcS fn.ntmps code=true) (hnid:p<=nid) (hre:∀ r,r∈s.re->p<=r.2.1) (hre0:∀ r,r∈s0.re->p<=r.2.1)
  (hkeep:s.keep=List.range rs.length) (hbs:s.bs=List.range p++zs) (hkeep0:s0.keep=List.range rs.length) (hbs0:s0.bs=List.range p)
  (hfr:FrOK P fr) (hs:SR fr nt g e m a w) (hid:∀ i,i<zs.length->m (id+BIG*i) = .unborn) (hidp:fr.p<=id)
  (hlx:xs.length=vs.length) (hx:∀ (i:Nat) v x,vs[i]? = some v->xs[i]? = some x->DenO g w v (x.ren ρ))
  (hbl:bl.length=p) (hmm:∀ (j:Nat) b,bl[j]? = some b->m (ρ j)=b.ren ρ) (hinj:∀ i j,i<p->j<p->ρ i=ρ j->i=j)
  (hxi:∀ x,x∈xs->∀ k,k∈x.ids->k<p) (hbi:∀ b,b∈bl->b ≠ .unborn/\∀ k,k∈b.ids->k<p)
  (hvc:vc c p nid code ⟨(List.range xs.length).zip xs,(List.range bl.length).zip bl⟩ (retE c rs s s0 zs.length R))
  (hR:∀ ys bl',R ys bl'->∃ bl1 bz,bl'=bl1++bz/\bl1.length=p/\bz.length=zs.length/\(∀ b,b∈bl1->b ≠ .unborn)/\ys.length=rs.length/\(∀ y,y∈ys->y ≠ .no)/\∃ δ l',K δ l'/\δ.val=(zgE ys).ren (back p ρ zs id) /\
   (∀ (j:Nat) b,bl1[j]? = some b->mApp δ.wr m (ρ j)=b.ren (back p ρ zs id))/\(∀ (i:Nat) b,bz[i]? = some b->mApp δ.wr m (id+BIG*i)=b.ren (back p ρ zs id))/\∀ k,(∀ j,(j<p∨j∈zs)->back p ρ zs id j≠k)->mApp δ.wr m k=m k) :
  Calls P f vs.toArray w λ en w' => ∃ v δ l' g',en = .returned v/\K δ l'/\SR fr nt g' e (mApp δ.wr m) a w'/\DenO g' w' v δ.val/\∀ k,k∈δ.val.ids->mApp δ.wr m k ≠ .unborn:=by
 let st0:St:=⟨(List.range xs.length).zip xs,(List.range bl.length).zip bl⟩
 have e0:∀ t,st0.e t=(xs[t]?).getD .no:=λ t=>zcT _ _ _;have m0:∀ j,st0.m j=(bl[j]?).getD .unborn:=λ t=>zcT _ _ _;have bAt:∀ j,j<p->∃ b,bl[j]? = some b:=λ j hj=>⟨bl[j]'(by omega),zyS (by omega)⟩
 have hρ:∀ j,j<p->m (ρ j) ≠ .unborn:=by
  intro j hj;obtain⟨b,hb'⟩:=bAt j hj;rw[hmm j b hb'];exact zl (hbi b (zyU hb')).1
 have hin:SR (frIn g m w p ρ) fn.ntmps (g.via p ρ) st0.e st0.m { tmps:=vs.toArray++Array.replicate (fn.ntmps-vs.toArray.size) undef,defers:=[] } w:=by
  refine hs.enter (λ j hj=>?_) (λ j hj=>?_) (λ j hj=>?_) hinj (λ j k hk=>?_) (λ t k hk=>?_) (λ t=>?_) rfl ?_
  .obtain ⟨b,hb'⟩:=bAt j hj
   rw[m0,hb',hmm j b hb'];rfl
  .rw [m0,List.getElem?_eq_none (by omega)];rfl
  .obtain ⟨b,hb'⟩:=bAt j hj
   rw[m0,hb'];exact(hbi b (zyU hb')).1
  .rw [m0] at hk
   cases hb':bl[j]? with
   | none=>rw[hb'] at hk;simp[Blk.ids] at hk
   | some b=>rw[hb'] at hk;exact(hbi b (zyU hb')).2 k hk
  .rw [e0] at hk
   cases hx':xs[t]? with
   | none=>rw[hx'] at hk;simp[SV.ids] at hk
   | some x=>rw[hx'] at hk;exact hxi x (zyU hx') k hk
  .rw [e0]
   cases hx':xs[t]? with
   | none=>exact .inl rfl
   | some x =>
    have ht:t<vs.length:=by rw[<- hlx];exact(zyR.1 hx').1
    exact .inr ⟨vs[t],by simp[Array.getElem?_append,ht],hx t _ x (zyS ht) hx'⟩
  .simp;omega
 refine calls_of_wp hf hb (zjy (fr:=frIn g m w p ρ) hm hT (hC.at ⟨hs.glb hfr,λ b hb=>⟨Nat.lt_of_lt_of_le (hs.keep b (hfr.2 b hb)).1 hs.size,λ j _ hj e=>by
   rcases e with e|e
   .exact (hs.safe _ hj).1 (by rw[e];exact hfr.2 b hb)
   .exact (hs.safeX _ _ hj e).1 (hfr.2 b hb)⟩⟩) hnid (Nat.le_refl _) code st0 _ _ _ w hok hvc ⟨_,hin⟩ λ ex st' a' w' hK hs' => ?_)
 have fin:Pg.results c rs (λ ys _ _ _ _=>St.head s { env:=(List.range ys.length).zip ys,mem:=st'.mem } R∨St.head s0 { env:=(List.range ys.length).zip ys,mem:=st'.mem } λ v bl=>R v (bl++List.replicate zs.length .unborn)) st'.e st'.m [] (λ _ _=>True) ->
   a'.defers=[]/\∃ v,(results fn a'.tmps).run P w' = .ok v w'/\∃ v' δ l' g',Ending.returned v = .returned v'/\K δ l'/\SR fr nt g' e (mApp δ.wr m) a w'/\DenO g' w' v' δ.val/\∀ k,k∈δ.val.ids->mApp δ.wr m k ≠ .unborn:=by
  intro hp;obtain⟨g1,hs1⟩:=hs';obtain⟨vs',ys,l1,hvl,hyl,hrun,hy,hyb,hhead⟩:=zdK hT hs1 hp;refine⟨hs1.defers,zpq vs',ze4 hr hvl hrun, ?_⟩
  have hs2:SR (frIn g m w p ρ) vs'.length g1 (St.e { env:=(List.range ys.length).zip ys,mem:=st'.mem }) (St.m { env:=(List.range ys.length).zip ys,mem:=st'.mem }) { tmps:=vs'.toArray,defers:=[] } w':=by
   refine { hs1 with env:=λ t=>?_,bornE:=λ t k hk=>?_,defers:=rfl,tmps:=by simp }
   .have:St.e { env:=(List.range ys.length).zip ys,mem:=st'.mem } t=(ys[t]?).getD .no:=zcT _ _ _
    rw[this]
    cases hyt:ys[t]? with
    | none=>exact .inl rfl
    | some y =>
     have ht:t<vs'.length:=by rw[hvl,<- hyl];exact(zyR.1 hyt).1
     rcases hy t _ y (zyS ht) hyt with h|h
     .exact .inl h
     .exact .inr ⟨vs'[t],by simp[ht],h⟩
   .have:St.e { env:=(List.range ys.length).zip ys,mem:=st'.mem } t=(ys[t]?).getD .no:=zcT _ _ _
    rw[this] at hk
    cases hyt:ys[t]? with
    | none=>rw[hyt] at hk;simp[SV.ids] at hk
    | some y=>rw[hyt] at hk;exact hyb y (zyU hyt) k hk
  have hall:∃ ys' bl',R ys' bl'/\SRel (frIn g m w p ρ) vs'.length (St.mk' s ys' bl').e (St.mk' s ys' bl').m { tmps:=vs'.toArray,defers:=[] } w':=by
   rcases hhead with hhead|hhead
   .exact zdv hre ⟨g1,hs2⟩ hhead
   .obtain ⟨ys',bl',hRR,hs3⟩:=zdv hre0 ⟨g1,hs2⟩ hhead
    refine⟨ys',_,hRR, ?_⟩
    have he:(St.mk' s0 ys' bl').e=(St.mk' s ys' (bl'++List.replicate zs.length .unborn)).e:=by
     funext t;show get .no (s0.keep.zip ys') t=get .no (s.keep.zip ys') t;rw[hkeep,hkeep0]
    have hl1:bl'.length=p:=by
     obtain⟨bl1,bz,h1,h2,h3,_⟩:=hR _ _ hRR;have:=congrArg List.length h1;simp at this;omega
    have hm':(St.mk' s0 ys' bl').m=(St.mk' s ys' (bl'++List.replicate zs.length .unborn)).m:=by
     funext t;show get .unborn (s0.bs.zip bl') t=get .unborn (s.bs.zip (bl'++List.replicate zs.length .unborn)) t;rw[hbs,hbs0,List.zip_append (by simp[hl1]),zqP,zs1]
    rw[he,hm'] at hs3;exact hs3
  obtain⟨ys',bl',hRR,g2,hs3⟩:=hall;obtain⟨bl1,bz,rfl,hl1,hlz,hbu,hyl',hyn,δ,l',hKK,hval,hw1,hw2,hw3⟩:=hR _ _ hRR
  have e3:∀ t,(St.mk' s ys' (bl1++bz)).e t=(ys'[t]?).getD .no:=by
   intro t;show get .no (s.keep.zip ys') t=_;rw[hkeep,<- hyl'];exact zcT _ _ _
  have m3:∀ t,(St.mk' s ys' (bl1++bz)).m t=(bl1[t]?).getD (get .unborn (zs.zip bz) t):=by
   intro t;show get .unborn (s.bs.zip (bl1++bz)) t=_;rw[hbs,List.zip_append (by simp[hl1]),zqP,<- hl1,zcT]
  have m3p:∀ j,j<p->∃ b,bl1[j]? = some b/\(St.mk' s ys' (bl1++bz)).m j=b:=by
   intro j hj
   have hj':j<bl1.length:=by omega
   exact⟨bl1[j],zyS hj',by rw[m3,zyS hj'];rfl⟩
  have bkp:∀ j,j<p->back p ρ zs id j=ρ j:=λ j hj=>by simp[back,hj]
  have bkz:∀ j,p<=j->back p ρ zs id j=id+BIG*idxN zs j:=λ j hj=>by simp[back];omega
  have hin':∀ j,(j<p∨j∈zs)->mApp δ.wr m (back p ρ zs id j)=((St.mk' s ys' (bl1++bz)).m j).ren (back p ρ zs id):=by
   intro j hj;by_cases hjp:j<p
   .obtain ⟨b,hb1,hb2⟩:=m3p j hjp
    rw[hb2,bkp j hjp];exact hw1 j b hb1
   .have hjz:=hj.resolve_left hjp
    obtain⟨_,_,h3⟩:=zf4 (.unborn:Blk) hjz hlz.symm;rw[bkz j (by omega),hw2 _ _ h3,m3,List.getElem?_eq_none (by omega)];rfl
  have hinj':∀ i j,(i<p∨i∈zs)->(j<p∨j∈zs)->back p ρ zs id i=back p ρ zs id j->i=j:=by
   intro i j hi hj he;by_cases hip:i<p
   .by_cases hjp:j<p
    .rw [bkp i hip,bkp j hjp] at he;exact hinj i j hip hjp he
    .exfalso
     obtain⟨h1,_,_⟩:=zf4 (.unborn:Blk) (hj.resolve_left hjp) hlz.symm;rw[bkp i hip,bkz j (by omega)] at he;exact hρ i hip (by rw[he];exact hid _ h1)
   .obtain ⟨h1,h1',_⟩:=zf4 (.unborn:Blk) (hi.resolve_left hip) hlz.symm
    by_cases hjp:j<p
    .exfalso
     rw[bkp j hjp,bkz i (by omega)] at he;exact hρ j hjp (by rw[<- he];exact hid _ h1)
    .obtain ⟨h2,h2',_⟩:=zf4 (.unborn:Blk) (hj.resolve_left hjp) hlz.symm
     rw[bkz i (by omega),bkz j (by omega)] at he
     have:idxN zs i=idxN zs j:=by
      have h5:BIG*idxN zs i=BIG*idxN zs j:=by omega
      exact Nat.eq_of_mul_eq_mul_left (by decide) h5
     rw[this,h2'] at h1';exact(Option.some.inj h1').symm
  have hle:=hs.leave (m2:=mApp δ.wr m) (σ:=back p ρ zs id) (D:=λ j=>j<p∨j∈zs) (λ j hj=>⟨.inl hj,bkp j hj⟩) (λ j hj hjp=>?_) hinj' hρ hs3 (λ j hj=>?_) (λ j hj=>?_) hin' (λ k hk=>?_)
  .obtain ⟨hout,hagr⟩:=hle
   refine⟨zpq vs',δ,l',_,rfl,hKK,hout, ?_, ?_⟩
   .-- the result
    rw[hval]
    have each:∀ (i:Nat) v y,vs'[i]? = some v->ys'[i]? = some y->DenO (g.back g2 (λ j=>j<p∨j∈zs) (back p ρ zs id)) w' v (y.ren (back p ρ zs id))/\(y ≠ .no->Den (g.back g2 (λ j=>j<p∨j∈zs) (back p ρ zs id)) w' v (y.ren (back p ρ zs id))):=by
     intro i v y hv hy';have henv:=hs3.env i;rw[e3,hy'] at henv;have hyb':=hs3.bornE i;rw[e3,hy'] at hyb'
     rcases henv with h|⟨v',h1,h2⟩
     .have h:y = .no:=h
      subst h;exact⟨.inl rfl,λ h=>absurd rfl h⟩
     .have:v'=v:=by
       have:vs'[i]? = some v':=by simpa using h1
       rw[hv] at this;exact(Option.some.inj this).symm
      subst this;have:=zqL (g':=g2) (g2:=g.back g2 (λ j=>j<p∨j∈zs) (back p ρ zs id)) (ρ:=back p ρ zs id) rfl h2 λ k hk=>hagr k (hyb' k hk);exact⟨.inr this,λ _=>this⟩
    have hvl':vs'.length=ys'.length:=by rw[hvl,hyl']
    have tupc:DenO (g.back g2 (λ j=>j<p∨j∈zs) (back p ρ zs id)) w' (.tuple vs'.toArray) (SV.ren (back p ρ zs id) (.tup ys')):=by
     refine .inr ?_;simp only[SV.ren,zcv];refine .tup (by simpa using hvl') λ i u x hu hx' => ?_;rw[List.getElem?_map] at hx'
     cases hy':ys'[i]? with
     | none=>rw[hy'] at hx';cases hx'
     | some y =>
      rw[hy'] at hx';cases hx';exact(each i u y hu hy').2 (hyn y (zyU hy'))
    match vs',ys',hvl',each,tupc with
    | [v],[y],_,each,_=>exact(each 0 v y rfl rfl).1
    | [],[],_,_,tupc=>exact tupc
    | _::_::_,_::_::_,_,_,tupc=>exact tupc
   .intro k hk
    rw[hval,zmM] at hk;obtain⟨i,hi,rfl⟩:=List.mem_map.1 hk
    have hbi:(St.mk' s ys' (bl1++bz)).m i ≠ .unborn:=by
     have:i∈SV.idsL ys':=by
      match ys' with
      | [y]=>simpa [zgE,SV.idsL] using hi
      | []=>simpa [zgE,SV.ids] using hi
      | _::_::_=>simpa [zgE,SV.ids] using hi
     obtain⟨y,hy',hiy⟩:=zaw.1 this;obtain⟨t,ht,rfl⟩:=List.getElem_of_mem hy';refine hs3.bornE t i ?_;rw[e3,zyS ht];exact hiy
    have hD:i<p∨i∈zs:=by
     by_cases hip:i<p
     .exact .inl hip
     .refine .inr (Classical.byContradiction λ hn=>hbi ?_)
      rw[m3,List.getElem?_eq_none (by omega),zmO _ hn];rfl
    rw[hin' i hD];exact zl hbi
  .obtain ⟨h1,_,_⟩:=zf4 (.unborn:Blk) (hj.resolve_left (by omega)) hlz.symm
   rw[bkz j hjp];exact⟨hid _ h1,by omega⟩
  .obtain ⟨b,hb1,hb2⟩:=m3p j hj
   rw[hb2];exact hbu b (zyU hb1)
  .have h1:¬ j<p:=λ h=>hj (.inl h)
   have h2:j ∉ zs:=λ h=>hj (.inr h);rw[m3,List.getElem?_eq_none (by omega),zmO _ h2];rfl
  .exact hw3 k hk
 cases ex with
 | normal=>exact fin hK
 | ret=>exact fin hK
 | exit i=>exact hK.elim
end
end Go.Vc
namespace Go.Vc
open Go.RowKit
def nth (ρ:List Nat)(j:Nat):Nat:=(ρ[j]?).getD 0
def zmP (p:Nat)(ρ zs:List Nat)(id:Nat)(j:Nat):Nat:=bif Nat.blt j p then nth ρ j else id+BIG*idxN zs j
def zaU:List Nat->Bool
 | []=>true
 | x::l=>!memB l x&&zaU l
def zcg (id:Nat):Nat->List Nat
 | 0=>[]
 | n+1=>id::zcg (id+BIG) n
structure Spec (α β:Type) where
 p:Nat
 zs:List Nat
 A:α->List SV
 B:α->List Blk
 R:α->β->List SV
 B1:α->β->List Blk
 BZ:α->β->List Blk
section
variable {α β:Type}
def Spec.wr (S:Spec α β)(x:α)(y:β)(ρ:List Nat)(id:Nat):List (Nat×Blk) :=
 ρ.zip ((S.B1 x y).map (Blk.ren (zmP S.p ρ S.zs id)))++(zcg id S.zs.length).zip ((S.BZ x y).map (Blk.ren (zmP S.p ρ S.zs id)))
def effPg (S:Spec α β)(G:α->β->Prop)(xs:List SV)(id:Nat):Pg:=λ e m l K =>
 ∃ (x:α) (y:β) (ρ:List Nat),G x y/\Nat.beq ρ.length S.p=true/\zaU ρ=true/\xs=(S.A x).map (SV.ren (nth ρ))/\ρ.map m=(S.B x).map (Blk.ren (nth ρ))/\(zcg id S.zs.length).map m=List.replicate S.zs.length .unborn /\
  K ⟨(zgE (S.R x y)).ren (zmP S.p ρ S.zs id),S.wr x y ρ id⟩ ((ρ++zcg id S.zs.length).map Loc.b++l)
theorem Local.effPg {S:Spec α β}{G:α->β->Prop}(xs:List SV)(id:Nat):Local (effPg S G xs id):=by
 intro e m l K ⟨x,y,ρ,h1,h2,h3,h4,h5,h6,hK⟩;refine⟨_,_,hK,λ z hz=>List.mem_append_right _ hz,λ e' m' K' ha hk=>⟨x,y,ρ,h1,h2,h3,h4, ?_, ?_,hk⟩⟩
 .rw [<- h5]
  exact List.map_congr_left λ k hk=>ha.2 k (List.mem_append_left _ (List.mem_map.2 ⟨k,List.mem_append_left _ hk,rfl⟩))
 .rw [<- h6]
  exact List.map_congr_left λ k hk=>ha.2 k (List.mem_append_left _ (List.mem_map.2 ⟨k,List.mem_append_right _ hk,rfl⟩))
def ltB (p:Nat)(l:List Nat):Bool:=l.all λ k=>Nat.blt k p
def Spec.inB (S:Spec α β)(x:α):Bool:=Nat.beq (S.B x).length S.p&&ltB S.p (SV.idsL (S.A x))&&(S.B x).all λ b=>zge b&&ltB S.p b.ids
def Spec.outB (S:Spec α β)(x:α)(y:β):Bool:=Nat.beq (S.B1 x y).length S.p&&Nat.beq (S.BZ x y).length S.zs.length&&(S.B1 x y).all zge&&(S.R x y).all SV.notNo
def Spec.zsB (S:Spec α β):Bool:=zaU S.zs&&S.zs.all λ z=>Nat.ble S.p z
theorem zhn:∀ (n id i:Nat),i<n->(zcg id n)[i]? = some (id+BIG*i)
 | 0,_,_,h=>absurd h (Nat.not_lt_zero _)
 | n+1,id,0,_=>by simp[zcg]
 | n+1,id,i+1,h=>by
  simp only[zcg,List.getElem?_cons_succ];rw[zhn n _ i (by omega),Nat.mul_add]
  congr 1;omega
theorem ziH:∀ (n id:Nat),(zcg id n).length=n
 | 0,_=>rfl
 | n+1,id=>by simp[zcg,ziH n]
theorem zs3 (l:List (Nat×Blk))(m:Nat->Blk)(k:Nat)(h:∀ b,(k,b) ∉ l):mApp l m k=m k:=by
 induction l with
 | nil=>rfl
 | cons x l ih =>
  obtain⟨i,b⟩:=x;rw[zaa,if_neg λ e=>h b (by rw[e];exact List.mem_cons_self)];exact ih λ b' hb=>h b' (List.mem_cons_of_mem _ hb)
theorem znP {m:Nat->Blk}:∀ {bs:List Blk} {id i:Nat} {b:Blk},bs[i]? = some b->mApp ((zcg id bs.length).zip bs) m (id+BIG*i)=b
 | [],_,i,_,h=>by simp at h
 | c::bs,id,0,b,h=>by
  simp at h;subst h;simp only[List.length_cons,zcg,List.zip_cons_cons,zaa];rw[if_pos (by simp)]
 | c::bs,id,i+1,b,h=>by
  simp only[List.length_cons,zcg,List.zip_cons_cons,zaa]
  have hB:0<BIG:=by decide
  rw[if_neg (by rw[Nat.mul_add];omega)];have:=znP (m:=m) (bs:=bs) (id:=id+BIG) (i:=i) (b:=b) (by simpa using h);rw[show id+BIG*(i+1)=id+BIG+BIG*i by rw[Nat.mul_add];omega];exact this
theorem ziI {ρ:List Nat}(h:zaU ρ=true):∀ i j,i<ρ.length->j<ρ.length->nth ρ i=nth ρ j->i=j:=by
 induction ρ with
 | nil=>intro i j hi;simp at hi
 | cons x l ih =>
  simp only[zaU,zyW,Bool.not_eq_true'] at h
  have hx:∀ j,j<l.length->x≠nth l j:=by
   intro j hj he
   have:x∈l:=by rw[he];simp[nth,hj]
   rw[zgM.2 this] at h;cases h.1
  intro i j hi hj hij
  cases i with
  | zero=>cases j with
   | zero=>rfl
   | succ j=>exact absurd (by simpa [nth] using hij) (hx j (by simpa using hj))
  | succ i=>cases j with
   | zero=>exact absurd (by simpa [nth] using hij.symm) (hx i (by simpa using hi))
   | succ j=>rw[ih h.2 i j (by simpa using hi) (by simpa using hj) (by simpa [nth] using hij)]
theorem ziJ:∀ {zs:List Nat} {i z:Nat},zaU zs=true->zs[i]? = some z->idxN zs z=i
 | [],_,_,_,h=>by simp at h
 | x::l,0,z,_,h=>by simp at h;subst h;simp[idxN]
 | x::l,i+1,z,hn,h=>by
  have h:l[i]? = some z:=by simpa using h
  simp only[zaU,zyW,Bool.not_eq_true'] at hn
  have hx:x≠z:=λ e=>by
   rw[e,zgM.2 (zyU h)] at hn;cases hn.1
  simp only[idxN,beqF hx,cond_false,ziJ hn.2 h]
theorem zjB {p:Nat}{ρ zs:List Nat}{id:Nat}:zmP p ρ zs id=back p (nth ρ) zs id:=by
 funext j;unfold zmP back;by_cases h:j<p
 .have:Nat.blt j p=true:=Nat.ble_eq_true_of_le h
  rw[this,if_pos h];rfl
 .have:Nat.blt j p=false:=by
   cases hb:Nat.blt j p with
   | false=>rfl
   | true=>exact absurd (zyV hb) h
  rw[this,if_neg h];rfl
theorem zmQ {m:Nat->Blk}{bs:List Blk}{r:List (Nat×Blk)}:∀ {ρ:List Nat} {j:Nat} {b:Blk},zaU ρ=true->ρ.length=bs.length->bs[j]? = some b->mApp (ρ.zip bs++r) m (nth ρ j)=b:=by
 induction bs with
 | nil=>intro ρ j b _ _ h;simp at h
 | cons c bs ih =>
  intro ρ j b hn hl hb
  cases ρ with
  | nil=>simp at hl
  | cons k ρ =>
   simp only[List.zip_cons_cons,List.cons_append,zaa]
   cases j with
   | zero=>simp at hb;subst hb;simp[nth]
   | succ j =>
    have hj:j<ρ.length:=by have:=(zyR.1 hb).1;simp at this hl;omega
    have e:nth (k::ρ) (j+1)=nth ρ j:=by simp[nth]
    rw[e]
    have hne:k≠nth ρ j:=by
     intro he;have:=ziI hn 0 (j+1) (by simp) (by simpa using hj) (by simpa [nth] using he);omega
    rw[if_neg hne];simp only[zaU,zyW] at hn;exact ih hn.2 (by simpa using hl) (by simpa using hb)
theorem zgk {m:Nat->Blk}{bs:List Blk}{r:List (Nat×Blk)}{k:Nat}:∀ {ρ:List Nat},(∀ j,j<ρ.length->nth ρ j≠k)->mApp (ρ.zip bs++r) m k=mApp r m k:=by
 induction bs with
 | nil=>intro ρ h;simp
 | cons c bs ih =>
  intro ρ h
  cases ρ with
  | nil=>simp
  | cons i ρ =>
   simp only[List.zip_cons_cons,List.cons_append,zaa];rw[if_neg (by simpa [nth] using h 0 (by simp))]
   exact ih λ j hj=>by simpa [nth] using h (j+1) (by simpa using hj)
theorem zqQ {p:Nat}{l:List Nat}(h:ltB p l=true){k:Nat}(hk:k∈l):k<p:=zyV (List.all_eq_true.1 h k hk)
theorem zmR {b:Blk}(h:zge b=true):b ≠ .unborn:=by rintro rfl;cases h
variable {P:Program} {c:Ctx}
theorem zax {S:Spec α β}{G:α->β->Prop}(hm:P.follows .mixedOrders=true)(hT:TyOK P c.ty)(hC:CtxOK P c){f:FuncId}{fn:Func}{code:Code}{rs:List ResultVar}(nid:Nat)(s s0:Ann)
  (hf:P.funcs[f]? = some fn) (hb:fn.body=some code) (hr:fn.results=rs.toArray) (hok:zcS fn.ntmps code=true) (hs:s.ok S.p=true) (hkeep:s.keep=List.range rs.length) (hbs:s.bs=List.range S.p++S.zs)
  (hs0:s0.ok S.p=true) (hkeep0:s0.keep=List.range rs.length) (hbs0:s0.bs=List.range S.p)
  (hz:S.zsB=true) (hnid:Nat.ble S.p nid=true) (hin:∀ x,S.inB x=true) (hn:∀ x,Nat.ble (S.A x).length fn.ntmps=true) (hout:∀ x y,S.outB x y=true/\Nat.beq (S.R x y).length rs.length=true)
  (h:∀ x y,G x y->vc c S.p nid code ⟨(List.range (S.A x).length).zip (S.A x),(List.range (S.B x).length).zip (S.B x)⟩ (retE c rs s s0 S.zs.length λ v bl=>v=S.R x y/\bl=S.B1 x y++S.BZ x y)):CallOK P f (effPg S G):=by
 intro fr hfr nt g e m a w xs vs id l K hsr hid hlx hx hbx ⟨x,y,ρ,hG,hρl,hnd,hxs,hblk,hunb,hK⟩;have hρl:ρ.length=S.p:=zyT hρl;have hi:=hin x;simp only[Spec.inB,zyW] at hi;obtain⟨⟨hi1,hi2⟩,hi3⟩:=hi;have hi1:(S.B x).length=S.p:=zyT hi1;obtain⟨ho,hRl⟩:=hout x y;simp only[Spec.outB,zyW] at ho;obtain⟨⟨⟨ho1,hoz⟩,ho2⟩,ho3⟩:=ho;have ho1:(S.B1 x y).length=S.p:=zyT ho1;have hoz:(S.BZ x y).length=S.zs.length:=zyT hoz;simp only[Spec.zsB,zyW] at hz;obtain⟨hzn,hzp⟩:=hz
 have hunb':∀ i,i<S.zs.length->m (id+BIG*i) = .unborn:=by
  intro i hi
  have h1:((zcg id S.zs.length).map m)[i]? = some (m (id+BIG*i)):=by rw[List.getElem?_map,zhn _ _ _ hi];rfl
  rw[hunb,List.getElem?_replicate,if_pos hi] at h1;exact(Option.some.inj h1).symm
 have hmm:∀ (j:Nat) b,(S.B x)[j]? = some b->m (nth ρ j)=b.ren (nth ρ):=by
  intro j b hb
  have hj:j<ρ.length:=by rw[hρl,<- hi1];exact(zyR.1 hb).1
  have h1:(ρ.map m)[j]? = some (m (nth ρ j)):=by simp[nth,hj]
  rw[hblk,List.getElem?_map,hb] at h1;exact(Option.some.inj h1).symm
 refine zs2 hm hT hC (ρ:=nth ρ) (bl:=S.B x) (xs:=S.A x) (zs:=S.zs) (s:=s) (s0:=s0) hf hb hr (zyV (hn x)) hok (zyV hnid) ?_ ?_ hkeep hbs hkeep0 hbs0 hfr hsr hunb' hid (by rw[<- hlx,hxs];simp) ?_ hi1 hmm
  (λ i j hi hj=>ziI hnd i j (by omega) (by omega)) ?_ ?_ (h x y hG) ?_
 .intro r hr'
  exact zyV (List.all_eq_true.1 hs r hr')
 .intro r hr'
  exact zyV (List.all_eq_true.1 hs0 r hr')
 .intro i v x' hv hx'
  exact hx i v _ hv (by rw[hxs,List.getElem?_map,hx'];rfl)
 .intro x' hx' k hk
  exact zqQ hi2 (zaw.2 ⟨x',hx',hk⟩)
 .intro b hb
  have:=List.all_eq_true.1 hi3 b hb;rw[zyW] at this;exact⟨zmR this.1,λ k hk=>zqQ this.2 hk⟩
 .rintro ys bl' ⟨rfl,rfl⟩
  have hne:∀ j,j<S.p->m (nth ρ j) ≠ .unborn:=by
   intro j hj;obtain⟨b,hb'⟩:∃ b,(S.B x)[j]? = some b:=⟨_,zyS (by omega)⟩;rw[hmm j b hb'];have hbb:=List.all_eq_true.1 hi3 b (zyU hb');rw[zyW] at hbb;exact zl (zmR hbb.1)
  refine⟨S.B1 x y,S.BZ x y,rfl,ho1,hoz,λ b hb=>zmR (List.all_eq_true.1 ho2 b hb),zyT hRl,λ y' hy' he=>?_,_,_,hK,by rw[zjB],λ j b hb=>?_,λ i b hb=>?_,λ k hk=>?_⟩
  .have:=List.all_eq_true.1 ho3 y' hy'
   rw[he] at this;cases this
  .rw [<- zjB]
   exact zmQ hnd (by simp;omega) (by rw[List.getElem?_map,hb];rfl)
  .rw [<- zjB]
   have hi:i<S.zs.length:=by rw[<- hoz];exact(zyR.1 hb).1
   show mApp (ρ.zip _++_) m _=_;rw[zgk λ j hj he=>hne j (by omega) (by rw[he];exact hunb' i hi)]
   have hl:S.zs.length=((S.BZ x y).map (Blk.ren (zmP S.p ρ S.zs id))).length:=by simp[hoz]
   rw[hl];exact znP (by rw[List.getElem?_map,hb];rfl)
  .show mApp (ρ.zip _++_) m k=_
   rw[zgk λ j hj he=>hk j (.inl (by omega)) (by simp only[back];rw[if_pos (by omega)];exact he)];refine zs3 _ _ _ λ b hb=>?_;obtain⟨i,hi⟩:=List.mem_iff_getElem?.1 hb;rw[List.getElem?_zip_eq_some] at hi
   have hil:i<S.zs.length:=by have:=(zyR.1 hi.1).1;rwa [ziH] at this
   have h1:=hi.1;rw[zhn _ _ _ hil] at h1;have hzi:S.zs[i]? = some S.zs[i]:=zyS hil;have hge:S.p<=S.zs[i]:=zyV (List.all_eq_true.1 hzp _ (zyU hzi));refine hk S.zs[i] (.inr (zyU hzi)) ?_;simp only[back];rw[if_neg (by omega),ziJ hzn hzi];exact Option.some.inj h1
theorem zae {T:Tree (Option TI)}{l:List Ent}{f:Nat}{S:Spec α β}{G:α->β->Prop}(hc:zcu P f)(hp:CallOK P f (effPg S G))(h:CtxOK P (zaq T l)):CtxOK P (zaq T ((f,true,effPg S G)::l)):=zf3 hc hp (λ _ xs id=>Local.effPg xs id) h
theorem zbf {f:FuncId}{S:Spec α β}{G:Nat->α->β->Prop}(h:∀ N,CallOK P f (effPg S (G N))):CallOK P f (effPg S λ x y=>∃ N,G N x y):=by
 intro fr hfr nt g e m a w xs vs id l K h1 h2 h3 h4 h5 ⟨x,y,ρ,⟨N,hG⟩,hrest⟩;exact h N fr hfr nt g e m a w xs vs id l K h1 h2 h3 h4 h5 ⟨x,y,ρ,hG,hrest⟩
theorem zaJ {f:FuncId}{S:Spec α β}{G:α->β->Prop}(h:∀ x y,¬ G x y):CallOK P f (effPg S G):=by
 intro fr hfr nt g e m a w xs vs id l K h1 h2 h3 h4 h5 ⟨x,y,ρ,hG,hrest⟩;exact absurd hG (h x y)
theorem zaH {S:Spec α β}{G:α->β->Prop}{xs:List SV}{id:Nat}{e:Nat->SV}{m:Nat->Blk}{l:List Loc}{K:Dl->List Loc->Prop}{v:SV}(ρ:List Nat)(x:α)(y:β)(w:List (Nat×Blk))(hG:G x y)(h1:Nat.beq ρ.length S.p=true)
  (h2:zaU ρ=true) (h3:xs=(S.A x).map (SV.ren (nth ρ))) (h4:ρ.map m=(S.B x).map (Blk.ren (nth ρ))) (h5:(zcg id S.zs.length).map m=List.replicate S.zs.length .unborn) (h6:(zgE (S.R x y)).ren (zmP S.p ρ S.zs id)=v) (h7:S.wr x y ρ id=w) (h:K ⟨v,w⟩ ((ρ++zcg id S.zs.length).map Loc.b++l)):effPg S G xs id e m l K :=
 ⟨x,y,ρ,hG,h1,h2,h3,h4,h5,by rw[h6,h7];exact h⟩
end
end Go.Vc
namespace Go.Vc
abbrev iN (n:Int):D := .v (.int .i64 n)
abbrev u8N (n:Int):D := .v (.int .u8 n)
abbrev u16N (n:Int):D := .v (.int .u16 n)
abbrev i32N (n:Int):D := .v (.int .i32 n)
abbrev strN (s:ByteArray):D := .v (.string s)
abbrev bN (b:Bool):D := .v (.bool b)
section
variable {α β γ:Type}
def ix (l:List α)(i:Int):Option α:=if 0<=i then l[i.toNat]? else none
def sub (l:List α)(a b:Int):Option (List α):=if 0<=a/\a<=b/\b<=l.length then some ((l.take b.toNat).drop a.toNat) else none
def app (s:Nat)(l xs:List α):Option (List α):=if (l.length+xs.length)*s<=140737488355328/\l.length+xs.length<=maxLen then some (l++xs) else none
def setx (l:List α)(i:Int)(x:α):Option (List α):=if 0<=i/\i<l.length then some (l.set i.toNat x) else none
def subR (l:List α)(a b:Int):Option (List α):=sub l a b
def ixN (l:List α)(m:Nat):Option α:=l[m]?
def setN (l:List α)(m:Nat)(x:α):Option (List α):=if m<l.length then some (l.set m x) else none
def chkI (n:Nat)(i:Int):Option Unit:=if 0<=i/\i<n then some () else none
def zd6 (d:α->D):List α->List D
 | []=>[]
 | x::l=>(d x).cells++zd6 d l
def encM {κ ν:Type}(eK:κ->D)(eV:ν->D)(l:List (κ×ν)):List (D×D):=l.map λ p=>(eK p.1,eV p.2)
def zbB {κ ν:Type}[DecidableEq κ](z:ν)(k:κ):List (κ×ν)->ν×Bool
 | []=>(z,false)
 | p::r=>if p.1=k then (p.2,true) else zbB z k r
def setK {κ ν:Type}[DecidableEq κ](k:κ)(v:ν):List (κ×ν)->List (κ×ν)
 | []=>[(k,v)]
 | p::r=>if p.1=k then (k,v)::r else p::setK k v r
def zau (k:β)(g:β->γ):γ:=g k
def strC (l:List UInt8):ByteArray:=⟨l.toArray⟩
def zbO:ByteArray:=⟨#[]⟩
def idxS (s:ByteArray)(i:Int):Option Int:=if 0<=i/\i<s.size then some (zdn s i.toNat) else none
def subS (s:ByteArray)(a b:Int):Option ByteArray:=if 0<=a/\a<=b/\b<=s.size then some (zd2 s a.toNat b.toNat) else none
def addS (s t:ByteArray):Option ByteArray:=if s.size+t.size<=maxLen then some (s++t) else none
def lenM {α:Type}(l:List α):Option Nat:=if l.length<=maxLen then some l.length else none
def zjC (l:List Int):Option ByteArray:=if l.length<=maxLen then some ⟨(l.map λ n=>UInt8.ofNat n.toNat).toArray⟩ else none
def zd4 (s:ByteArray):List Int:=s.data.toList.map λ b=>(b.toNat:Int)
def mkS (bytes:Nat)(z:α)(n n':Int):Option (List α):=if 0<=n/\n<=n'/\n'*bytes<=140737488355328 then some (List.replicate n.toNat z) else none
def mkA (bytes:Nat)(z:α)(n:Int):Option (List α):=if 1<=n/\n*bytes<=140737488355328 then some (List.replicate n.toNat z) else none
def chk (b:Bool):Option Unit:=bif b then some () else none
def inB (k:IntKind)(n:Int):Bool:=match n with
 | .ofNat m=>Nat.ble m (match k with
  | .i8=>127 | .i16=>32767 | .i32=>2147483647 | .i64=>9223372036854775807
  | .u8=>255 | .u16=>65535 | .u32=>4294967295 | .u64=>18446744073709551615)
 | .negSucc m=>match k with
  | .i8=>Nat.ble m 127 | .i16=>Nat.ble m 32767 | .i32=>Nat.ble m 2147483647 | .i64=>Nat.ble m 9223372036854775807
  | _=>false
def Wk (k:IntKind)(n:Int):Int:=bif inB k n then n else k.wrap n
abbrev W (n:Int):Int:=Wk .i64 n
def demB [DecidableEq γ](l:List α)(a b:Option γ):Option γ:=if l.isEmpty=true then (if a=b then b else none) else b
theorem zqR {k:IntKind}{n:Int}(h:inB k n=true):k.min<=n/\n<=k.max:=by
 cases n <;> cases k <;> simp only[inB,Bool.false_eq_true] at h <;> (try have h:=zyV h) <;> simp[IntKind.min,IntKind.max,IntKind.signed,IntKind.bits] <;> omega
theorem zwL (k:IntKind)(n:Int):Wk k n=k.wrap n:=by
 unfold Wk
 cases h:inB k n with
 | false=>rfl
 | true=>exact(zjd (zqR h)).symm
theorem zs4 {k:IntKind}{n:Int}(h:k.min<=n/\n<=k.max):Wk k n=n:=by rw[zwL,zjd h]
theorem W_of {n:Int}(h : -9223372036854775808<=n)(h':n<=9223372036854775807):W n=n:=zs4 (by simp[IntKind.min,IntKind.max,IntKind.signed,IntKind.bits];omega)
end
section
variable {α β γ ρ:Type} {r:ρ}
theorem zbU {k:IntKind}{e:Int}{K:Int->Prop}(h:K (Wk k e)):∃ c,c=k.wrap e/\K c:=⟨_,zwL k e,h⟩
theorem ze6 {α:Type}{e:α}{K:α->Prop}(h:K e):∃ c,c=e/\K c:=⟨_,rfl,h⟩
theorem zbV {d:α->D}{l:List α}{K:Nat->Prop}(h:K l.length):∃ n:Nat,n=(l.map d).length/\K n:=⟨_,(List.length_map _).symm,h⟩
theorem bind_some {E:Option α}{A:α->Option ρ}(hF:E.bind A=some r):∃ x,E=some x/\A x=some r:=Option.bind_eq_some_iff.1 hF
theorem idx1 {l:List α}{i:Int}{n:Nat}{A:α->Option ρ}{Q:Prop}(hn:n=l.length)(h:∀ x,l[i.toNat]? = some x->A x=some r->Q)(hF:(ix l i).bind A=some r):(0<=i/\i<(n:Int))/\Q:=by
 obtain⟨x,hx,hF⟩:=bind_some hF;unfold ix at hx
 split at hx
 .have:=(zyR.1 hx).1
  exact⟨by omega,h x hx hF⟩
 .cases hx
theorem idx2 {d:α->D}{l:List α}{j:Nat}{x:α}{K:D->Prop}(hx:l[j]? = some x)(h:K (d x)):∃ e,(l.map d)[j]? = some e/\K e:=⟨d x,by simp[hx],h⟩
theorem idx3 {d:α->D}{l:List α}{j s:Nat}{x:α}{K:D->Prop}(hx:l[j]? = some x)(h:K (d x)):∃ e,(s=s/\(l.map d)[j]? = some e)/\K e:=⟨d x,⟨rfl,by simp[hx]⟩,h⟩
structure SubF (l:List α)(a b:Int)(A:List α->Option ρ)(r:ρ):Prop where
 rng:0<=a/\a<=b/\b<=l.length
 go:A ((l.take b.toNat).drop a.toNat)=some r
theorem zgN {l:List α}{a b:Int}{A:List α->Option ρ}(hF:(sub l a b).bind A=some r):SubF l a b A r:=by
 obtain⟨x,hx,hF⟩:=bind_some hF;unfold sub at hx
 split at hx
 .cases hx;exact⟨by assumption,hF⟩
 .cases hx
theorem zqS {l:List α}{a b:Int}{A:List α->Option ρ}(hF:(subR l a b).bind A=some r):SubF l a b A r:=zgN hF
theorem zjD {d:α->D}{l:List α}{a b:Int}{A:List α->Option ρ}{K:List D->Prop}(hF:SubF l a b A r)(h:∀ q,A q=some r->K (q.map d)) :
  (0<=a/\a<=b/\b<=b/\b<=((l.map d).length:Int))/\∃ q,q=((l.map d).take b.toNat).drop a.toNat/\K q:=by
 obtain⟨hc,hF⟩:=hF;refine⟨by simp;omega,_,rfl, ?_⟩;rw[<- List.map_take,<- List.map_drop];exact h _ hF
theorem zmS {d:α->D}{l:List α}{b:Int}{n:Nat}{A:List α->Option ρ}{K:Nat×List D->Prop}(hF:SubF l 0 b A r)(hn:n=l.length)(h:∀ q,A q=some r->K (q.length,q.map d)) :
  (n<=(l.map d).length/\0<=b/\b<=(n:Int))/\∃ q:Nat×List D,(q.1=b.toNat/\q.2=(l.map d).take b.toNat)/\K q:=by
 obtain⟨hc,hF⟩:=hF;refine⟨by simp;omega,(_,_),⟨?_, ?_⟩,h _ hF⟩
 .simp;omega
 .simp
structure AppF (s:Nat)(l xs:List α)(A:List α->Option ρ)(r:ρ):Prop where
 rng:(l.length+xs.length)*s<=140737488355328/\l.length+xs.length<=maxLen
 go:A (l++xs)=some r
theorem zeF {s:Nat}{l xs:List α}{A:List α->Option ρ}(hF:(app s l xs).bind A=some r):AppF s l xs A r:=by
 obtain⟨x,hx,hF⟩:=bind_some hF;unfold app at hx
 split at hx
 .cases hx;exact⟨by assumption,hF⟩
 .cases hx
theorem zf5 {d:α->D}{s:Nat}{xs:List α}{ns:List D}{A:List α->Option ρ}{K:Nat×List D->Prop}(hF:AppF s [] xs A r)(hns:ns=xs.map d)(h:∀ q,A q=some r->K (q.length,q.map d)) :
  (ns.length*s<=140737488355328/\ns.length<=maxLen)/\∃ q:Nat×List D,(q.1=ns.length/\q.2=ns)/\K q:=by
 obtain⟨hc,hF⟩:=hF;subst hns;simp only[List.length_nil,Nat.zero_add] at hc;exact⟨by simpa using hc,(_,_),⟨by simp,by simp⟩,h _ hF⟩
theorem ze7 {d:α->D}{s n:Nat}{l xs:List α}{ns:List D}{A:List α->Option ρ}{K:Nat×List D->Prop}(hF:AppF s l xs A r)(hn:n=l.length)(hns:ns=xs.map d)(h:∀ q,A q=some r->K (q.length,q.map d)) :
  (n<=(l.map d).length/\(n+ns.length)*s<=140737488355328/\n+ns.length<=maxLen)/\∃ q:Nat×List D,(q.1=n+ns.length/\q.2=(l.map d).take n++ns)/\K q:=by
 obtain⟨hc,hF⟩:=hF;subst hns;subst hn;refine⟨by simpa using hc,(_,_),⟨by simp, ?_⟩,h _ hF⟩;rw[List.take_of_length_le (by simp)];simp
theorem zf6 {d:α->D}{s n:Nat}{l xs:List α}{old ns:List D}{A:List α->Option ρ}{K:Nat×List D->Prop}(hF:AppF s l xs A r)(hold:old=l.map d)(hn:n=l.length)(hns:ns=xs.map d)(h:∀ q,A q=some r->K (q.length,q.map d)) :
  (n<=old.length/\(n+ns.length)*s<=140737488355328/\n+ns.length<=maxLen)/\∃ q:Nat×List D,(q.1=n+ns.length/\q.2=old.take n++ns)/\K q:=by
 subst hold;exact ze7 hF hn hns h
structure SetF (l:List α)(i:Int)(x:α)(A:List α->Option ρ)(r:ρ):Prop where
 rng:0<=i/\i<l.length
 go:A (l.set i.toNat x)=some r
theorem zec {l:List α}{i:Int}{x:α}{A:List α->Option ρ}(hF:(setx l i x).bind A=some r):SetF l i x A r:=by
 obtain⟨q,hx,hF⟩:=bind_some hF;unfold setx at hx
 split at hx
 .cases hx;exact⟨by assumption,hF⟩
 .cases hx
theorem zfG {d:α->D}{l:List α}{i:Int}{x:α}{X:D}{A:List α->Option ρ}{K:List D->Prop}(hF:SetF l i x A r)(hs:X=d x)(h:∀ q,l.length=q.length->A q=some r->K (q.map d)) :
  ∃ q,q=(l.map d).set i.toNat X/\K q:=by
 refine⟨_,rfl, ?_⟩;rw[hs,<- List.map_set];exact h _ (by simp) hF.go
theorem zqT {κ ν:Type}[DecidableEq κ]{eK:κ->D}{eV:ν->D}(hi:∀ a b,eK a=eK b->a=b){z:ν}{k:κ}:∀ m:List (κ×ν),zic (eV z) (eK k) (encM eK eV m)=(eV (zbB z k m).1,(zbB z k m).2)
 | []=>rfl
 | p::r=>by
  simp only[encM,List.map_cons,zic,zbB];by_cases h:p.1=k
  .rw [if_pos (by rw[h]),if_pos h]
  .rw [if_neg λ he=>h (hi _ _ he),if_neg h]
   exact zqT hi r
theorem zuz {κ ν:Type}[DecidableEq κ]{eK:κ->D}{eV:ν->D}(hi:∀ a b,eK a=eK b->a=b){v:ν}{k:κ}:∀ m:List (κ×ν),setD (eK k) (eV v) (encM eK eV m)=encM eK eV (setK k v m)
 | []=>rfl
 | p::r=>by
  simp only[encM,List.map_cons,setD,setK];by_cases h:p.1=k
  .rw [if_pos (by rw[h]),if_pos h];rfl
  .rw [if_neg λ he=>h (hi _ _ he),if_neg h]
   have:=zuz (eV:=eV) hi (k:=k) (v:=v) r;simp only[encM] at this;rw[this];rfl
theorem zqU {κ ν:Type}{eK:κ->D}{eV:ν->D}{tk:TI}(hk:∀ a,keyD tk (eK a)=true)(m:List (κ×ν)):∀ p,p∈encM eK eV m->keyD tk p.1=true:=by
 intro p hp;obtain⟨q,_,rfl⟩:=List.mem_map.1 hp;exact hk q.1
theorem zho {κ ν:Type}[DecidableEq κ]{eK:κ->D}{eV:ν->D}(hi:∀ a b,eK a=eK b->a=b){tk:TI}{zd d:D}{es:List (D×D)}{z:ν}{k:κ}{m:List (κ×ν)}{B:D×Bool->Prop}{A:ν×Bool->Option ρ}
  (hk:∀ a,keyD tk (eK a)=true) (hz:zd=eV z) (hd:d=eK k) (he:es=encM eK eV m) (h:∀ x,A x=some r->B (eV x.1,x.2)) (hF:(some (zbB z k m)).bind A=some r) :
  (∀ p,p∈es->keyD tk p.1=true)/\∃ q,q=zic zd d es/\B q:=by
 subst hz hd he;exact⟨zqU hk m,_,rfl,by rw[zqT hi];exact h _ hF⟩
theorem znQ {κ ν:Type}[DecidableEq κ]{eK:κ->D}{eV:ν->D}(hi:∀ a b,eK a=eK b->a=b){tk:TI}{vd d:D}{es:List (D×D)}{v:ν}{k:κ}{m:List (κ×ν)}{B:List (D×D)->Prop}{A:List (κ×ν)->Option ρ}
  (hk:∀ a,keyD tk (eK a)=true) (hv:vd=eV v) (hd:d=eK k) (he:es=encM eK eV m) (h:∀ x,A x=some r->B (encM eK eV x)) (hF:(some (setK k v m)).bind A=some r) :
  (∀ p,p∈es->keyD tk p.1=true)/\∃ q,q=setD d vd es/\B q:=by
 subst hv hd he;exact⟨zqU hk m,_,rfl,by rw[zuz hi];exact h _ hF⟩
theorem zca:∀ a b:ByteArray,strN a=strN b->a=b:=by intro a b h;cases h;rfl
structure IxN (l:List α)(m:Nat)(A:α->Option ρ)(r:ρ):Prop where
 ex:∃ x,l[m]? = some x/\A x=some r
theorem znR {l:List α}{m:Nat}{A:α->Option ρ}(hF:(ixN l m).bind A=some r):IxN l m A r:=⟨bind_some hF⟩
theorem zqV {e:α}{A:α->Option ρ}{K:α->Prop}(h:∀ x,A x=some r->K x)(hF:(some e).bind A=some r):∃ c,c=e/\K c:=⟨_,rfl,h _ hF⟩
theorem zhp {s:ByteArray}{i:Int}{A:Int->Option ρ}{K:Int->Prop}(h:∀ x,A x=some r->K x)(hF:(idxS s i).bind A=some r):(0<=i/\i<(s.size:Int))/\∃ c,c=zdn s i.toNat/\K c:=by
 obtain⟨x,hx,hA⟩:=bind_some hF;unfold idxS at hx
 split at hx
 .cases hx;exact⟨by assumption,_,rfl,h _ hA⟩
 .cases hx
theorem zla {s:ByteArray}{a b:Int}{A:ByteArray->Option ρ}{K:ByteArray->Prop}(h:∀ x,A x=some r->K x)(hF:(subS s a b).bind A=some r):(0<=a/\a<=b/\b<=(s.size:Int))/\∃ c,c=zd2 s a.toNat b.toNat/\K c:=by
 obtain⟨x,hx,hA⟩:=bind_some hF;unfold subS at hx
 split at hx
 .cases hx;exact⟨by assumption,_,rfl,h _ hA⟩
 .cases hx
theorem zqW {β γ:Type}{dk:β->D}{dv:γ->D}{l:List (β×γ)}{A:Nat->Option ρ}{K:Nat->Prop}(h:∀ x,A x=some r->K x)(hF:(lenM l).bind A=some r):(encM dk dv l).length<=maxLen/\∃ n:Nat,n=(encM dk dv l).length/\K n:=by
 obtain⟨x,hx,hA⟩:=bind_some hF
 have e:(encM dk dv l).length=l.length:=by simp[encM]
 unfold lenM at hx
 split at hx
 .cases hx;exact⟨by rw[e];assumption,_,e.symm,h _ hA⟩
 .cases hx
theorem zhq {s t:ByteArray}{A:ByteArray->Option ρ}{K:ByteArray->Prop}(h:∀ x,A x=some r->K x)(hF:(addS s t).bind A=some r):s.size+t.size<=maxLen/\∃ c,c=s++t/\K c:=by
 obtain⟨x,hx,hA⟩:=bind_some hF;unfold addS at hx
 split at hx
 .cases hx;exact⟨by assumption,_,rfl,h _ hA⟩
 .cases hx
theorem zcU:∀ l:List Int,zci (l.map u8N)=some (l.map λ n=>UInt8.ofNat n.toNat)
 | []=>rfl
 | n::l=>by simp[zci,zcU l]
theorem zps {l:List Int}{A:ByteArray->Option ρ}{K:List UInt8->Prop}{K':ByteArray->Prop}(hK:∀ q,K' ⟨q.toArray⟩->K q)(h:∀ x,A x=some r->K' x)(hF:(zjC l).bind A=some r):∃ q,(zci (l.map u8N)=some q/\(l.map u8N).length<=maxLen)/\K q:=by
 obtain⟨x,hx,hA⟩:=bind_some hF;unfold zjC at hx
 split at hx
 .cases hx;exact⟨_,⟨zcU l,by simpa using by assumption⟩,hK _ (h _ hA)⟩
 .cases hx
theorem zmT {l:List Int}{A:ByteArray->Option ρ}{K:List UInt8->Prop}(h:∀ x:ByteArray,A x=some r->K x.data.toList)(hF:(zjC l).bind A=some r):∃ q,(zci (l.map u8N)=some q/\(l.map u8N).length<=maxLen)/\K q:=by
 obtain⟨x,hx,hA⟩:=bind_some hF;unfold zjC at hx
 split at hx
 .cases hx;exact⟨_,⟨zcU l,by simpa using by assumption⟩,h _ hA⟩
 .cases hx
theorem zhr {s:ByteArray}{A:List Int->Option ρ}{K:List D->Prop}(h:∀ x,A x=some r->K (x.map u8N))(hF:(some (zd4 s)).bind A=some r):∃ q,q=s.data.toList.map (λ b=>D.v (.int .u8 b.toNat))/\K q:=by
 refine⟨_,rfl, ?_⟩;have:=h _ hF;simpa [zd4,Function.comp_def] using this
theorem zvy {d:α->D}{b:Nat}{z:α}{Z:D}{n n':Int}{A:List α->Option ρ}{K:Nat×List D->Prop}(hz:Z=d z)(h:∀ x,A x=some r->K (x.length,x.map d))(hF:(mkS b z n n').bind A=some r) :
  (0<=n/\n<=n'/\n'*(b:Int)<=140737488355328)/\∃ q:Nat×List D,(q.1=n.toNat/\q.2=List.replicate n.toNat Z)/\K q:=by
 obtain⟨x,hx,hA⟩:=bind_some hF;unfold mkS at hx
 split at hx
 .cases hx;exact⟨by assumption,_,⟨by simp,by simp[hz]⟩,h _ hA⟩
 .cases hx
theorem zvz {d:α->D}{b:Nat}{z:α}{Z:D}{n:Int}{A:List α->Option ρ}{K:Nat×List D->Prop}(hz:Z=d z)(h:∀ x,A x=some r->K (x.length,x.map d))(hF:(mkA b z n).bind A=some r) :
  (1<=n/\n*(b:Int)<=140737488355328)/\∃ q:Nat×List D,(q.1=n.toNat/\q.2=List.replicate n.toNat Z)/\K q:=by
 obtain⟨x,hx,hA⟩:=bind_some hF;unfold mkA at hx
 split at hx
 .cases hx;exact⟨by assumption,_,⟨by simp,by simp[hz]⟩,h _ hA⟩
 .cases hx
theorem zs5 {d:α->D}{b:Nat}{n n':Int}{A:List (List α)->Option ρ}{K:Nat×List (List D)->Prop}(h:∀ x,A x=some r->K (x.length,x.map (List.map d)))(hF:(mkS b [] n n').bind A=some r) :
  (0<=n/\n<=n'/\n'*(b:Int)<=140737488355328)/\∃ q:Nat×List (List D),(q.1=n.toNat/\q.2=List.replicate n.toNat [])/\K q:=by
 obtain⟨x,hx,hA⟩:=bind_some hF;unfold mkS at hx
 split at hx
 .cases hx;exact⟨by assumption,_,⟨by simp,by simp⟩,h _ hA⟩
 .cases hx
theorem zqX {d:α->D}{L:List (List α)}{j:Nat}{x:List α}{K:List D->Nat->Prop}(hx:L[j]? = some x)(h:K (x.map d) x.length):∃ l,(L.map (List.map d))[j]? = some l/\∃ n:Nat,n=l.length/\K l n :=
 ⟨x.map d,by simp[hx],x.length,by simp,h⟩
theorem zvA {d:α->D}{L:List (List α)}{i:Int}{y:List α}{n:Nat}{O:Prop}{A:List (List α)->Option ρ}{K:List (List D)->Prop}(hF:SetF L i y A r)(hn:n=y.length)(ho:O)(h:∀ q,L.length=q.length->A q=some r->K (q.map (List.map d))) :
  (i.toNat<(L.map (List.map d)).length/\n=(y.map d).length/\O)/\∃ q,q=(L.map (List.map d)).set i.toNat (y.map d)/\K q:=by
 have hr:=hF.rng;refine⟨⟨by simp;omega,by simp[hn],ho⟩,_,rfl, ?_⟩;rw[<- List.map_set];exact h _ (by simp) hF.go
theorem zs6 {e:List α->D}{d:α->D}{s n:Nat}{L:List (List α)}{K:List D->Prop}(he:∀ x,e x = .sl s (x.map d))(hn:n=L.length)(h:K (L.map e)):n=(L.map (List.map d)).length/\∃ q,q=(L.map (List.map d)).map (.sl s)/\K q:=by
 refine⟨by simp[hn],_,rfl, ?_⟩
 have:L.map e=(L.map (List.map d)).map (.sl s):=by simp[Function.comp_def,he]
 rw[<- this];exact h
theorem zqY {n:Nat}{i:Int}{A:Unit->Option ρ}{Q:Prop}(h:A ()=some r->Q)(hF:(chkI n i).bind A=some r):(0<=i/\i<(n:Int))/\Q:=by
 obtain⟨x,hx,hF⟩:=bind_some hF;unfold chkI at hx
 split at hx
 .exact ⟨by assumption,h hF⟩
 .cases hx
theorem zqZ {n:Nat}{i:Int}{A:Unit->Option ρ}{Q:Prop}(hF:(chkI n i).bind A=some r)(h:A ()=some r->Q):(0<=i/\i<(n:Int))/\Q:=zqY h hF
theorem ziK {ti:TI}{K:List D->Prop}(q:List D)(hx:zoM ti q)(h:K q):∃ q,zoM ti q/\K q:=⟨q,hx,h⟩
theorem zq0 {d:α->D}{l:List α}{m o:Nat}{A:α->Option ρ}{K:D->Prop}(hF:IxN l m A r)(ho:o=m)(h:∀ x,A x=some r->K (d x)):∃ c,(l.map d)[o]? = some c/\K c:=by
 obtain⟨x,hx,hA⟩:=hF.ex;subst ho;exact⟨d x,by simp[hx],h x hA⟩
theorem zgl {d:α->D}{s:Nat}(hd:∀ x,(d x).cells.length=s):∀ l:List α,(zd6 d l).length=l.length*s
 | []=>by simp[zd6]
 | x::l=>by simp[zd6,hd,zgl hd l,Nat.add_mul];omega
theorem ziL {d:α->D}{s:Nat}(hd:∀ x,(d x).cells.length=s):∀ (l:List α) (m:Nat) x,l[m]? = some x->∃ t,(zd6 d l).drop (m*s)=(d x).cells++t
 | [],m,x,h=>by simp at h
 | y::l,0,x,h=>by simp at h;subst h;exact⟨zd6 d l,by simp[zd6]⟩
 | y::l,m+1,x,h=>by
  obtain⟨t,ht⟩:=ziL hd l m x (by simpa using h);refine⟨t, ?_⟩
  have:(m+1)*s=s+m*s:=by rw[Nat.add_mul];omega
  rw[this,<- List.drop_drop];simp only[zd6];rw[List.drop_append_of_le_length (by rw[hd];omega),List.drop_of_length_le (l:=(d y).cells) (by rw[hd];omega),List.nil_append,ht]
theorem zlb {α:Type}:∀ (a b:List α),zd7 a.length (a++b)=some a
 | [],b=>rfl
 | x::a,b=>by simp[zd7,zlb a b]
theorem zq1 {d:α->D}{l:List α}{m o s:Nat}{A:α->Option ρ}{K:List D->Prop}(hF:IxN l m A r)(hd:∀ x,(d x).cells.length=s)(ho:o=m*s)(h:∀ x,A x=some r->K (d x).cells):∃ cs,zd7 s ((zd6 d l).drop o)=some cs/\K cs:=by
 obtain⟨x,hx,hA⟩:=hF.ex;subst ho;obtain⟨t,ht⟩:=ziL hd l m x hx;refine⟨_, ?_,h x hA⟩;have:=zlb (d x).cells t;rw[hd] at this;rw[ht];exact this
structure SetN (l:List α)(m:Nat)(x:α)(A:List α->Option ρ)(r:ρ):Prop where
 rng:m<l.length
 go:A (l.set m x)=some r
theorem zlc {l:List α}{m:Nat}{x:α}{A:List α->Option ρ}(hF:(setN l m x).bind A=some r):SetN l m x A r:=by
 obtain⟨q,hx,hF⟩:=bind_some hF;unfold setN at hx
 split at hx
 .cases hx;exact⟨by assumption,hF⟩
 .cases hx
theorem znS {d:α->D}{l:List α}{m o:Nat}{x:α}{A:List α->Option ρ}{X:D}{b:Bool}{K:List D->Prop}(hF:SetN l m x A r)(ho:o=m)(hX:X=d x)(hb:b=true)(h:∀ q,A q=some r->K (q.map d)) :
  ([X].length=1/\o+[X].length<=(l.map d).length/\b=true)/\∃ q,q=zaG (l.map d) o [X]/\K q:=by
 obtain⟨h1,h2⟩:=hF;subst ho hX hb;refine⟨⟨rfl,by simp;omega,rfl⟩,_,rfl, ?_⟩;simp only[zaG,<- List.map_set];exact h _ h2
theorem zhs {α:Type}:∀ (cs a b t:List α),b.length=cs.length->zaG (a++b++t) a.length cs=a++cs++t
 | [],a,b,t,h=>by simp[zaG,List.length_eq_zero_iff.1 h]
 | c::r,a,b,t,h=>by
  cases b with
  | nil=>simp at h
  | cons x b =>
   simp only[zaG]
   have:(a++x::b++t).set a.length c=(a++[c])++b++t:=by simp
   rw[this];have:=zhs r (a++[c]) b t (by simpa using h);simp only[List.length_append,List.length_cons,List.length_nil,Nat.zero_add] at this;rw[this];simp
theorem zjE {d:α->D}{s:Nat}(hd:∀ x,(d x).cells.length=s)(x:α):∀ (l:List α) (m:Nat),m<l.length->zaG (zd6 d l) (m*s) (d x).cells=zd6 d (l.set m x):=by
 have key:∀ (l:List α) (m:Nat) (p:List D),m<l.length->zaG (p++zd6 d l) (p.length+m*s) (d x).cells=p++zd6 d (l.set m x):=by
  intro l
  induction l with
  | nil=>intro m p h;simp at h
  | cons y l ih =>
   intro m p h
   cases m with
   | zero =>
    simp only[zd6,List.set_cons_zero,Nat.zero_mul,Nat.add_zero];rw[<- List.append_assoc,zhs _ _ _ _ (by rw[hd,hd]),List.append_assoc]
   | succ m =>
    simp only[zd6,List.set_cons_succ];have:=ih m (p++(d y).cells) (by simpa using h);simp only[List.length_append,hd] at this;rw[show p.length+(m+1)*s=p.length+s+m*s by rw[Nat.add_mul];omega,<- List.append_assoc,this,List.append_assoc]
 intro l m h;simpa using key l m [] h
theorem znT {d:α->D}{l:List α}{m o s:Nat}{x:α}{ds:List D}{A:List α->Option ρ}{b:Bool}{K:List D->Prop}(hF:SetN l m x A r)(hd:∀ x,(d x).cells.length=s)(ho:o=m*s)(hX:ds=(d x).cells)(hb:b=true)(h:∀ q,A q=some r->K (zd6 d q)) :
  (ds.length=s/\o+ds.length<=(zd6 d l).length/\b=true)/\∃ q,q=zaG (zd6 d l) o ds/\K q:=by
 obtain⟨h1,h2⟩:=hF;subst ho hX hb;refine⟨⟨hd x, ?_,rfl⟩,_,rfl, ?_⟩
 .rw [hd,zgl hd]
  have:=Nat.mul_le_mul_right s (show m+1<=l.length from h1);rw[Nat.add_mul] at this;omega
 .rw [zjE hd x l m h1];exact h _ h2
theorem zjF {b:Bool}{A:Unit->Option ρ}(hF:(chk b).bind A=some r):b=true/\A ()=some r:=by
 obtain⟨x,hx,hF⟩:=bind_some hF;unfold chk at hx
 cases b with
 | true=>exact⟨rfl,hF⟩
 | false=>cases hx
theorem zjG {d:α->D}{l:List α}{n:Nat}{Q:Prop}(hn:n=l.length)(h:Q):n<=(l.map d).length/\Q:=⟨by simp[hn],h⟩
theorem zed {es:List D}{n:Nat}{K:List D->Prop}(hn:n=es.length)(h:K es):n<=es.length/\∃ q,q=es.take n/\K q :=
 ⟨by omega,_,rfl,by rw[List.take_of_length_le (by omega)];exact h⟩
theorem za3 {b:Bool}{A B:Option ρ}{P Q:Prop}(h1:b=true->A=some r->P)(h2:b=false->B=some r->Q)(hF:(bif b then A else B)=some r):(b=true->P)/\(b=false->Q):=by
 cases b
 .exact ⟨λ h=>(by cases h),λ h=>h2 h hF⟩
 .exact ⟨λ h=>h1 h hF,λ h=>(by cases h)⟩
theorem zgm {b:Bool}{P Q:Prop}(hb:b=true)(h:P):(b=true->P)/\(b=false->Q):=⟨λ _=>h,λ h' => by rw[hb] at h';cases h'⟩
theorem zgn {b:Bool}{P Q:Prop}(hb:b=false)(h:Q):(b=true->P)/\(b=false->Q):=⟨λ h' => (by rw[hb] at h';cases h'),λ _=>h⟩
end
theorem PureOK.ex {P:Program}{f:FuncId}{H:Nat->List D->D->Prop}(h:∀ N,PureOK P f (H N)):PureOK P f (λ ds d=>∃ N,H N ds d) :=
 λ w Z vs ds d h1 h2 h3 h5 ⟨N,h4⟩=>h N w Z vs ds d h1 h2 h3 h5 h4
section
variable {c:Ctx} {p nid:Nat} {st:St} {K:Ex->St->Prop} {ρ:Type} {r:ρ}
theorem zht {t:Nat}{a b:Code}{x:Bool}{A B:Option ρ}(hb:st.e t = .kb x)(h1:x=true->A=some r->vc c p nid a st K)(h2:x=false->B=some r->vc c p nid b st K)(hF:(bif x then A else B)=some r) :
  vc c p nid (.cond (.tmp t) a b) st K:=zja hb (za3 h1 h2 hF).1 (za3 h1 h2 hF).2
theorem zee {t:Nat}{a b:Code}{x:Bool}(hb:st.e t = .kb x)(hx:x=true)(h:vc c p nid a st K):vc c p nid (.cond (.tmp t) a b) st K:=zja hb (λ _=>h) λ h' => by rw[hx] at h';cases h'
theorem zef {t:Nat}{a b:Code}{x:Bool}(hb:st.e t = .kb x)(hx:x=false)(h:vc c p nid b st K):vc c p nid (.cond (.tmp t) a b) st K:=zja hb (λ h' => by rw[hx] at h';cases h') λ _=>h
theorem zco (cs:List Nat){a b:Code}(hn:memB cs (nid*1000+zbW b)=false)(h:vc c p nid a st (Kseq (λ st' => vc c p nid b st' K) K)):vc c p nid (.seq a b) st K := .inl h
theorem zvB {α:Type}{s:Ann}{V:α->List SV}{B:α->List Blk}{I:α->Prop}{st':St}{x:α}(hI:I x)(h1:st.norm s=some st')(h2:st'.cutOk s.keep s.bs (memB s.bs)=true)(h3:vals s.keep st'.e=V x)(h4:blks s.bs st'.m=B x) :
  st.head s λ v bl=>∃ x,I x/\v=V x/\bl=B x:=zp8 h1 h2 h3 h4 ⟨x,hI,rfl,rfl⟩
theorem zq2 {α:Type}{s:Ann}{V:α->List SV}{B:α->List Blk}{I:α->Prop}{μ:α->Nat}{st':St}{x y:α}(hI:I y)(hμ:μ y<μ x)(h1:st.norm s=some st')(h2:st'.cutOk s.keep s.bs (memB s.bs)=true)(h3:vals s.keep st'.e=V y)(h4:blks s.bs st'.m=B y) :
  zfV s V B I μ x K .normal st:=zwB (zp8 h1 h2 h3 h4 ⟨y,hI,rfl,rfl,hμ⟩)
def AtH (s:Ann)(st:St)(v:List SV)(b:List Blk):Prop:=∃ st',st.norm s=some st'/\st'.cutOk s.keep s.bs (memB s.bs)=true/\vals s.keep st'.e=v/\blks s.bs st'.m=b
abbrev zq3 {α:Type}(s:Ann)(V:α->List SV)(B:α->List Blk)(I:α->Prop)(K:Ex->St->Prop):Ex->St->Prop:=Kseq (λ st' => st'.head s λ v bl=>∃ x,I x/\v=V x/\bl=B x) K
theorem zuA {α:Type}{s:Ann}{V:α->List SV}{B:α->List Blk}{I:α->Prop}{x:α}(hI:I x)(h:AtH s st (V x) (B x)):st.head s λ v bl=>∃ x,I x/\v=V x/\bl=B x:=by
 obtain⟨st',h1,h2,h3,h4⟩:=h;exact zvB hI h1 h2 h3 h4
theorem zwM {α:Type}{s:Ann}{V:α->List SV}{B:α->List Blk}{I:α->Prop}{x:α}(hI:I x)(h:AtH s st (V x) (B x)):zq3 s V B I K .normal st:=zeU (zuA hI h)
theorem kback {α:Type}{s:Ann}{V:α->List SV}{B:α->List Blk}{I:α->Prop}{μ:α->Nat}{x y:α}(hI:I y)(hμ:μ y<μ x)(h:AtH s st (V y) (B y)):zfV s V B I μ x K .normal st:=by
 obtain⟨st',h1,h2,h3,h4⟩:=h;exact zq2 hI hμ h1 h2 h3 h4
structure Lp (α τ ρ:Type) where
 S:Ann
 V:α->List SV
 B:α->List Blk
 E:α->Option ρ
 V2:α->τ->List SV
 B2:α->τ->List Blk
 le:α->τ
 h1:∀ x,V x=V2 x (le x)
 h2:∀ x,B x=B2 x (le x)
abbrev lpm {α τ ρ:Type}(S:Ann)(E:α->Option ρ)(V:α->τ->List SV)(B:α->τ->List Blk)(le:α->τ):Lp α τ ρ:=⟨S,λ x=>V x (le x),λ x=>B x (le x),E,V,B,le,λ _=>rfl,λ _=>rfl⟩
abbrev lp0 {α ρ:Type}(S:Ann)(V:α->List SV)(B:α->List Blk)(E:α->Option ρ):Lp α Unit ρ:=⟨S,V,B,E,λ x _=>V x,λ x _=>B x,λ _=>(),λ _=>rfl,λ _=>rfl⟩
section
variable {α β τ γ ρ:Type} {r:ρ} {a b:Code}
theorem pr2 {α β:Type}{a b:α}{c d:β}(h:a=b)(h2:c=d):(a,c)=(b,d):=by rw[h,h2]
def Lp.I (L:Lp α τ ρ)(r:ρ)(x:α):Prop:=L.E x=some r
theorem Lp.loop {L:Lp (Nat×β) τ ρ}{x:Nat×β}{e:Option ρ}(he:L.E x=e)(m:τ)(hz:L.S.ok p=true)(h0:AtH L.S st (L.V2 x m) (L.B2 x m))(em:m=L.le x)(hn:∀ y,L.E (0,y)=none)
  (h:∀ n y,L.E (n+1,y)=some r->vc c p nid a (St.mk' L.S (L.V (n+1,y)) (L.B (n+1,y))) (zfV L.S L.V L.B (L.I r) Prod.fst (n+1,y) K)) (hF:e=some r):vc c p nid (.loop a) st K:=by
 subst em;rw[<- L.h1,<- L.h2] at h0;refine zvc L.S L.V L.B (L.I r) Prod.fst hz (zuA (x:=x) (he.trans hF) h0) ?_;rintro⟨_|n,y⟩ hI
 .have hI:L.E (0,y)=some r:=hI
  rw[hn] at hI;cases hI
 .exact h n y hI
theorem Lp.back {L:Lp (Nat×β) τ ρ}{n:Nat}{w y:β}{e:Option ρ}(he:L.E (n,y)=e)(hF:e=some r)(m:τ)(h0:AtH L.S st (L.V2 (n,y) m) (L.B2 (n,y) m))(em:m=L.le (n,y)):zfV L.S L.V L.B (L.I r) Prod.fst (n+1,w) K .normal st:=by
 subst em;rw[<- L.h1,<- L.h2] at h0;exact kback (y:=(n,y)) (he.trans hF) (Nat.lt_succ_self n) h0
theorem Lp.cut (L:Lp α τ ρ){f:γ}{g:γ->Option ρ}(k:Nat)(hn:Nat.beq (nid*1000+zbW b) k=true)(hz:L.S.ok p=true)(h:g f=some r->vc c p nid a st (zq3 L.S L.V L.B (L.I r) K))
  (h2:∀ x,L.E x=some r->vc c p nid b (St.mk' L.S (L.V x) (L.B x)) K) (hF:zau f g=some r):vc c p nid (.seq a b) st K :=
 zwA L.S L.V L.B (L.I r) hz (h hF) λ y hy=>h2 y hy
variable {A1 A2 A3 A4 A5 A6 A7 A8 A9 A10 A11 A12 A13 A14 A15 A16:Type} {g:γ->Option ρ}
class IsLp (nl np:Nat) {ρ:Type} (e:Option ρ) {α τ:outParam Type} (L:outParam (Lp α τ ρ)) (x:outParam α):Prop where
 eq:L.E x=e
class IsCut (np:Nat) {γ:Type} (f:γ) {ρ:outParam Type} {α τ:outParam Type} (L:outParam (Lp α τ ρ)) (k:outParam Nat):Prop where
structure CutF (f:γ)(g:γ->Option ρ)(L:Lp α τ ρ)(k:Nat)(r:ρ):Prop where
 h:zau f g=some r
theorem toLp (nl np:Nat){e:Option ρ}{L:Lp α τ ρ}{x:α}[h:IsLp nl np e L x](hF:e=some r):L.E x=some r:=h.eq.trans hF
theorem zeg (np:Nat){f:γ}{g:γ->Option ρ}{L:Lp α τ ρ}{k:Nat}[IsCut np f L k](hF:zau f g=some r):CutF f g L k r:=⟨hF⟩
theorem isB {α:Type}{e:Option α}{A:α->Option ρ}(h:e.bind A=some r):e.bind A=some r:=h
theorem isE {L:Lp α τ ρ}{x:α}(h:L.E x=some r):L.E x=some r:=h
theorem Lp.cutI {L:Lp α τ ρ}{f:γ}{g:γ->Option ρ}{k:Nat}(hF:CutF f g L k r)(hn:Nat.beq (nid*1000+zbW b) k=true)(hz:L.S.ok p=true)(h:g f=some r->vc c p nid a st (zq3 L.S L.V L.B (L.I r) K))
  (h2:∀ x,L.E x=some r->vc c p nid b (St.mk' L.S (L.V x) (L.B x)) K):vc c p nid (.seq a b) st K:=Lp.cut L k hn hz h h2 hF.h
theorem Lp.headI {L:Lp α τ ρ}{x:α}(hF:L.E x=some r)(m:τ)(h0:AtH L.S st (L.V2 x m) (L.B2 x m))(em:m=L.le x):zq3 L.S L.V L.B (L.I r) K .normal st:=by
 subst em;rw[<- L.h1,<- L.h2] at h0;exact zwM (I:=L.I r) (x:=x) hF h0
theorem Lp.backI {L:Lp (Nat×β) τ ρ}{n:Nat}{w y:β}(hF:L.E (n,y)=some r)(m:τ)(h0:AtH L.S st (L.V2 (n,y) m) (L.B2 (n,y) m))(em:m=L.le (n,y)):zfV L.S L.V L.B (L.I r) Prod.fst (n+1,w) K .normal st:=Lp.back rfl hF m h0 em
theorem Lp.loopI {L:Lp (Nat×β) τ ρ}{x:Nat×β}(hF:L.E x=some r)(m:τ)(hz:L.S.ok p=true)(h0:AtH L.S st (L.V2 x m) (L.B2 x m))(em:m=L.le x)(hn:∀ y,L.E (0,y)=none)
  (h:∀ n y,L.E (n+1,y)=some r->vc c p nid a (St.mk' L.S (L.V (n+1,y)) (L.B (n+1,y))) (zfV L.S L.V L.B (L.I r) Prod.fst (n+1,y) K)):vc c p nid (.loop a) st K:=Lp.loop rfl m hz h0 em hn h hF
theorem Lp.head {L:Lp α τ ρ}{x:α}{e:Option ρ}(he:L.E x=e)(hF:e=some r)(m:τ)(h0:AtH L.S st (L.V2 x m) (L.B2 x m))(em:m=L.le x):zq3 L.S L.V L.B (L.I r) K .normal st:=by
 subst em;rw[<- L.h1,<- L.h2] at h0;exact zwM (I:=L.I r) (x:=x) (he.trans hF) h0
end
theorem chkE {ρ:Type}{e:Option ρ}{r:ρ}(h:e=some r):e=some r:=h
section
variable {c:Ctx} {p nid:Nat} {a b:Code} {st:St} {K:Ex->St->Prop}
theorem zcp (h:vc c p nid (.loop a) st K):vc c p nid (.loop a) st K:=h
theorem zb0 (h:vc c p nid (.seq a b) st K):vc c p nid (.seq a b) st K:=h
theorem zcq {α:Type}{s:Ann}{V:α->List SV}{B:α->List Blk}{I:α->Prop}{μ:α->Nat}{x:α}(h:zfV s V B I μ x K .normal st):zfV s V B I μ x K .normal st:=h
theorem zbb {s:Ann}{H:List SV->List Blk->Prop}(h:Kseq (λ st' => st'.head s H) K .normal st):Kseq (λ st' => st'.head s H) K .normal st:=h
end
theorem zcV {S m:List (Nat×Blk)}{ys:List SV}{Q:Prop}(h1:zpr S m=true)(h2:ys.all SV.notNo=true)(h:Q):zpr S m=true/\ys.all SV.notNo=true/\Q:=⟨h1,h2,h⟩
theorem zda {c:Ctx}{ops r':List Oper}{K':St->Prop}{id:Nat}{st:St}(h:zam c ops K' r' id st):zam c ops K' r' id st:=h
theorem zq4 {c:Ctx}{ops r':List Oper}{D':List Tr->St->Prop}{tr:List Tr}{id:Nat}{st:St}(h:zak c ops D' r' id tr st):zak c ops D' r' id tr st:=h
theorem zcW {t:Nat}{a b:Code}(h:vc c p nid (.cond (.tmp t) a b) st K):vc c p nid (.cond (.tmp t) a b) st K:=h
theorem notT {b:Bool}(h:b=false):(!b)=true:=by rw[h];rfl
theorem notF {b:Bool}(h:b=true):(!b)=false:=by rw[h];rfl
variable {ops r':List Oper} {K':St->Prop} {id d:Nat} {op:Op} {ty:TypeId} {pos:String} {af:Array Edge} {g:Option (Nat×Bool)} {env:List (Nat×SV)} {mem:List (Nat×Blk)} {D':List Tr->St->Prop} {tr:List Tr} {x:Bool} {A B:Option ρ}
theorem zeh (hg:zaD (St.e ⟨env,mem⟩) ops g=some x)(hx:x=true)(h:∀ Q:Dl->List Loc->Prop,(∀ v l,zam c ops K' r' (id+1) ⟨(d,v)::env,mem⟩->Q ⟨v,[]⟩ l)->(∀ v l k b,zam c ops K' r' (id+1) ⟨(d,v)::env,(k,b)::mem⟩->Q ⟨v,[(k,b)]⟩ l)->(∀ v l w,zam c ops K' r' (id+1) ⟨(d,v)::env,w++mem⟩->Q ⟨v,w⟩ l)->opPg c ⟨some d,op,ty,pos,af,g⟩ id (St.e ⟨env,mem⟩) (St.m ⟨env,mem⟩) [] Q):zam c ops K' (⟨some d,op,ty,pos,af,g⟩::r') id ⟨env,mem⟩ :=
 zfW hg (λ _=>h) λ h' => by rw[hx] at h';cases h'
theorem zdb (hg:zaD (St.e ⟨env,mem⟩) ops g=some x)(hx:x=false)(h:zam c ops K' r' (id+1) ⟨(d, .tup [])::env,mem⟩):zam c ops K' (⟨some d,op,ty,pos,af,g⟩::r') id ⟨env,mem⟩ :=
 zfW hg (λ h' => by rw[hx] at h';cases h') λ _=>h
theorem zei (hg:zaD (St.e ⟨env,mem⟩) ops g=some x)(h:x=true->A=some r->∀ Q:Dl->List Loc->Prop,(∀ v l,zam c ops K' r' (id+1) ⟨(d,v)::env,mem⟩->Q ⟨v,[]⟩ l)->(∀ v l k b,zam c ops K' r' (id+1) ⟨(d,v)::env,(k,b)::mem⟩->Q ⟨v,[(k,b)]⟩ l)->(∀ v l w,zam c ops K' r' (id+1) ⟨(d,v)::env,w++mem⟩->Q ⟨v,w⟩ l)->opPg c ⟨some d,op,ty,pos,af,g⟩ id (St.e ⟨env,mem⟩) (St.m ⟨env,mem⟩) [] Q)(h2:x=false->B=some r->zam c ops K' r' (id+1) ⟨(d, .tup [])::env,mem⟩)(hF:(bif x then A else B)=some r):zam c ops K' (⟨some d,op,ty,pos,af,g⟩::r') id ⟨env,mem⟩ :=
 zfW hg (za3 h h2 hF).1 (za3 h h2 hF).2
theorem zej (hg:zaD (St.e ⟨env,mem⟩) ops g=some (!x))(h2:x=true->A=some r->zam c ops K' r' (id+1) ⟨(d, .tup [])::env,mem⟩)(h:x=false->B=some r->∀ Q:Dl->List Loc->Prop,(∀ v l,zam c ops K' r' (id+1) ⟨(d,v)::env,mem⟩->Q ⟨v,[]⟩ l)->(∀ v l k b,zam c ops K' r' (id+1) ⟨(d,v)::env,(k,b)::mem⟩->Q ⟨v,[(k,b)]⟩ l)->(∀ v l w,zam c ops K' r' (id+1) ⟨(d,v)::env,w++mem⟩->Q ⟨v,w⟩ l)->opPg c ⟨some d,op,ty,pos,af,g⟩ id (St.e ⟨env,mem⟩) (St.m ⟨env,mem⟩) [] Q)(hF:(bif x then A else B)=some r):zam c ops K' (⟨some d,op,ty,pos,af,g⟩::r') id ⟨env,mem⟩ :=
 zfW hg (λ h' => (za3 h2 h hF).2 (by cases x <;> simp_all)) λ h' => (za3 h2 h hF).1 (by cases x <;> simp_all)
theorem zdc (hg:zaD (St.e ⟨env,mem⟩) ops g=some x)(hx:x=true)(h:∀ Q:Dl->List Loc->Prop,(∀ v l,zam c ops K' r' (id+1) ⟨env,mem⟩->Q ⟨v,[]⟩ l)->(∀ v l k b,zam c ops K' r' (id+1) ⟨env,(k,b)::mem⟩->Q ⟨v,[(k,b)]⟩ l)->(∀ v l w,zam c ops K' r' (id+1) ⟨env,w++mem⟩->Q ⟨v,w⟩ l)->opPg c ⟨none,op,ty,pos,af,g⟩ id (St.e ⟨env,mem⟩) (St.m ⟨env,mem⟩) [] Q):zam c ops K' (⟨none,op,ty,pos,af,g⟩::r') id ⟨env,mem⟩ :=
 zev hg (λ _=>h) λ h' => by rw[hx] at h';cases h'
theorem zcx (hg:zaD (St.e ⟨env,mem⟩) ops g=some x)(hx:x=false)(h:zam c ops K' r' (id+1) ⟨env,mem⟩):zam c ops K' (⟨none,op,ty,pos,af,g⟩::r') id ⟨env,mem⟩ :=
 zev hg (λ h' => by rw[hx] at h';cases h') λ _=>h
theorem zdd (hg:zaD (St.e ⟨env,mem⟩) ops g=some x)(h:x=true->A=some r->∀ Q:Dl->List Loc->Prop,(∀ v l,zam c ops K' r' (id+1) ⟨env,mem⟩->Q ⟨v,[]⟩ l)->(∀ v l k b,zam c ops K' r' (id+1) ⟨env,(k,b)::mem⟩->Q ⟨v,[(k,b)]⟩ l)->(∀ v l w,zam c ops K' r' (id+1) ⟨env,w++mem⟩->Q ⟨v,w⟩ l)->opPg c ⟨none,op,ty,pos,af,g⟩ id (St.e ⟨env,mem⟩) (St.m ⟨env,mem⟩) [] Q)(h2:x=false->B=some r->zam c ops K' r' (id+1) ⟨env,mem⟩)(hF:(bif x then A else B)=some r):zam c ops K' (⟨none,op,ty,pos,af,g⟩::r') id ⟨env,mem⟩ :=
 zev hg (za3 h h2 hF).1 (za3 h h2 hF).2
theorem zde (hg:zaD (St.e ⟨env,mem⟩) ops g=some (!x))(h2:x=true->A=some r->zam c ops K' r' (id+1) ⟨env,mem⟩)(h:x=false->B=some r->∀ Q:Dl->List Loc->Prop,(∀ v l,zam c ops K' r' (id+1) ⟨env,mem⟩->Q ⟨v,[]⟩ l)->(∀ v l k b,zam c ops K' r' (id+1) ⟨env,(k,b)::mem⟩->Q ⟨v,[(k,b)]⟩ l)->(∀ v l w,zam c ops K' r' (id+1) ⟨env,w++mem⟩->Q ⟨v,w⟩ l)->opPg c ⟨none,op,ty,pos,af,g⟩ id (St.e ⟨env,mem⟩) (St.m ⟨env,mem⟩) [] Q)(hF:(bif x then A else B)=some r):zam c ops K' (⟨none,op,ty,pos,af,g⟩::r') id ⟨env,mem⟩ :=
 zev hg (λ h' => (za3 h2 h hF).2 (by cases x <;> simp_all)) λ h' => (za3 h2 h hF).1 (by cases x <;> simp_all)
theorem znU (hg:zaD (St.e ⟨env,mem⟩) ops g=some x)(hx:x=true)(h:∀ Q:Dl->List Loc->Prop,(∀ v l,zak c ops D' r' (id+1) (⟨zar ops g++l,[.t d]⟩::tr) ⟨(d,v)::env,mem⟩->Q ⟨v,[]⟩ l)->(∀ v l k b,zak c ops D' r' (id+1) (⟨zar ops g++l,[.t d, .b k]⟩::tr) ⟨(d,v)::env,(k,b)::mem⟩->Q ⟨v,[(k,b)]⟩ l)->(∀ v l w,zak c ops D' r' (id+1) (⟨zar ops g++l, .t d::w.map λ x=>.b x.1⟩::tr) ⟨(d,v)::env,w++mem⟩->Q ⟨v,w⟩ l)->opPg c ⟨some d,op,ty,pos,af,g⟩ id (St.e ⟨env,mem⟩) (St.m ⟨env,mem⟩) [] Q):zak c ops D' (⟨some d,op,ty,pos,af,g⟩::r') id tr ⟨env,mem⟩ :=
 zew hg (λ _=>h) λ h' => by rw[hx] at h';cases h'
theorem zld (hg:zaD (St.e ⟨env,mem⟩) ops g=some x)(hx:x=false)(h:zak c ops D' r' (id+1) (⟨zar ops g,[.t d]⟩::tr) ⟨(d, .tup [])::env,mem⟩):zak c ops D' (⟨some d,op,ty,pos,af,g⟩::r') id tr ⟨env,mem⟩ :=
 zew hg (λ h' => by rw[hx] at h';cases h') λ _=>h
theorem znV (hg:zaD (St.e ⟨env,mem⟩) ops g=some x)(h:x=true->A=some r->∀ Q:Dl->List Loc->Prop,(∀ v l,zak c ops D' r' (id+1) (⟨zar ops g++l,[.t d]⟩::tr) ⟨(d,v)::env,mem⟩->Q ⟨v,[]⟩ l)->(∀ v l k b,zak c ops D' r' (id+1) (⟨zar ops g++l,[.t d, .b k]⟩::tr) ⟨(d,v)::env,(k,b)::mem⟩->Q ⟨v,[(k,b)]⟩ l)->(∀ v l w,zak c ops D' r' (id+1) (⟨zar ops g++l, .t d::w.map λ x=>.b x.1⟩::tr) ⟨(d,v)::env,w++mem⟩->Q ⟨v,w⟩ l)->opPg c ⟨some d,op,ty,pos,af,g⟩ id (St.e ⟨env,mem⟩) (St.m ⟨env,mem⟩) [] Q)(h2:x=false->B=some r->zak c ops D' r' (id+1) (⟨zar ops g,[.t d]⟩::tr) ⟨(d, .tup [])::env,mem⟩)(hF:(bif x then A else B)=some r):zak c ops D' (⟨some d,op,ty,pos,af,g⟩::r') id tr ⟨env,mem⟩ :=
 zew hg (za3 h h2 hF).1 (za3 h h2 hF).2
theorem znW (hg:zaD (St.e ⟨env,mem⟩) ops g=some (!x))(h2:x=true->A=some r->zak c ops D' r' (id+1) (⟨zar ops g,[.t d]⟩::tr) ⟨(d, .tup [])::env,mem⟩)(h:x=false->B=some r->∀ Q:Dl->List Loc->Prop,(∀ v l,zak c ops D' r' (id+1) (⟨zar ops g++l,[.t d]⟩::tr) ⟨(d,v)::env,mem⟩->Q ⟨v,[]⟩ l)->(∀ v l k b,zak c ops D' r' (id+1) (⟨zar ops g++l,[.t d, .b k]⟩::tr) ⟨(d,v)::env,(k,b)::mem⟩->Q ⟨v,[(k,b)]⟩ l)->(∀ v l w,zak c ops D' r' (id+1) (⟨zar ops g++l, .t d::w.map λ x=>.b x.1⟩::tr) ⟨(d,v)::env,w++mem⟩->Q ⟨v,w⟩ l)->opPg c ⟨some d,op,ty,pos,af,g⟩ id (St.e ⟨env,mem⟩) (St.m ⟨env,mem⟩) [] Q)(hF:(bif x then A else B)=some r):zak c ops D' (⟨some d,op,ty,pos,af,g⟩::r') id tr ⟨env,mem⟩ :=
 zew hg (λ h' => (za3 h2 h hF).2 (by cases x <;> simp_all)) λ h' => (za3 h2 h hF).1 (by cases x <;> simp_all)
theorem zle (hg:zaD (St.e ⟨env,mem⟩) ops g=some x)(hx:x=true)(h:∀ Q:Dl->List Loc->Prop,(∀ v l,zak c ops D' r' (id+1) (⟨zar ops g++l,[]⟩::tr) ⟨env,mem⟩->Q ⟨v,[]⟩ l)->(∀ v l k b,zak c ops D' r' (id+1) (⟨zar ops g++l,[.b k]⟩::tr) ⟨env,(k,b)::mem⟩->Q ⟨v,[(k,b)]⟩ l)->(∀ v l w,zak c ops D' r' (id+1) (⟨zar ops g++l,w.map λ x=>.b x.1⟩::tr) ⟨env,w++mem⟩->Q ⟨v,w⟩ l)->opPg c ⟨none,op,ty,pos,af,g⟩ id (St.e ⟨env,mem⟩) (St.m ⟨env,mem⟩) [] Q):zak c ops D' (⟨none,op,ty,pos,af,g⟩::r') id tr ⟨env,mem⟩ :=
 zdr hg (λ _=>h) λ h' => by rw[hx] at h';cases h'
theorem ziM (hg:zaD (St.e ⟨env,mem⟩) ops g=some x)(hx:x=false)(h:zak c ops D' r' (id+1) (⟨zar ops g,[]⟩::tr) ⟨env,mem⟩):zak c ops D' (⟨none,op,ty,pos,af,g⟩::r') id tr ⟨env,mem⟩ :=
 zdr hg (λ h' => by rw[hx] at h';cases h') λ _=>h
theorem zlf (hg:zaD (St.e ⟨env,mem⟩) ops g=some x)(h:x=true->A=some r->∀ Q:Dl->List Loc->Prop,(∀ v l,zak c ops D' r' (id+1) (⟨zar ops g++l,[]⟩::tr) ⟨env,mem⟩->Q ⟨v,[]⟩ l)->(∀ v l k b,zak c ops D' r' (id+1) (⟨zar ops g++l,[.b k]⟩::tr) ⟨env,(k,b)::mem⟩->Q ⟨v,[(k,b)]⟩ l)->(∀ v l w,zak c ops D' r' (id+1) (⟨zar ops g++l,w.map λ x=>.b x.1⟩::tr) ⟨env,w++mem⟩->Q ⟨v,w⟩ l)->opPg c ⟨none,op,ty,pos,af,g⟩ id (St.e ⟨env,mem⟩) (St.m ⟨env,mem⟩) [] Q)(h2:x=false->B=some r->zak c ops D' r' (id+1) (⟨zar ops g,[]⟩::tr) ⟨env,mem⟩)(hF:(bif x then A else B)=some r):zak c ops D' (⟨none,op,ty,pos,af,g⟩::r') id tr ⟨env,mem⟩ :=
 zdr hg (za3 h h2 hF).1 (za3 h h2 hF).2
theorem zlg (hg:zaD (St.e ⟨env,mem⟩) ops g=some (!x))(h2:x=true->A=some r->zak c ops D' r' (id+1) (⟨zar ops g,[]⟩::tr) ⟨env,mem⟩)(h:x=false->B=some r->∀ Q:Dl->List Loc->Prop,(∀ v l,zak c ops D' r' (id+1) (⟨zar ops g++l,[]⟩::tr) ⟨env,mem⟩->Q ⟨v,[]⟩ l)->(∀ v l k b,zak c ops D' r' (id+1) (⟨zar ops g++l,[.b k]⟩::tr) ⟨env,(k,b)::mem⟩->Q ⟨v,[(k,b)]⟩ l)->(∀ v l w,zak c ops D' r' (id+1) (⟨zar ops g++l,w.map λ x=>.b x.1⟩::tr) ⟨env,w++mem⟩->Q ⟨v,w⟩ l)->opPg c ⟨none,op,ty,pos,af,g⟩ id (St.e ⟨env,mem⟩) (St.m ⟨env,mem⟩) [] Q)(hF:(bif x then A else B)=some r):zak c ops D' (⟨none,op,ty,pos,af,g⟩::r') id tr ⟨env,mem⟩ :=
 zdr hg (λ h' => (za3 h2 h hF).2 (by cases x <;> simp_all)) λ h' => (za3 h2 h hF).1 (by cases x <;> simp_all)
end
end Go.Vc
namespace Go.Vc
open Go.RowKit
section
variable {P:Program} {fr:Fr} {nt:Nat} {g:Gh} {e:Nat->SV} {m:Nat->Blk} {a:Act} {w:World} {c:Ctx}
def boxPg (fid:Nat)(G:ByteArray->D->Prop)(args:List SV)(id:Nat):Pg:=match args with
 | [.fn f [] [.ptr k 0]]=>when_ (Nat.beq f fid) (Pg.getB k fun
  | .box [.dat (.v (.string s))]=>Pg.ex (λ d:D=>G s d) λ d=>Pg.ret ⟨SV.ofD d,[]⟩
  | _=>Pg.fail)
 | _=>Pg.fail
theorem Local.boxPg {fid:Nat}{G:ByteArray->D->Prop}(xs:List SV)(id:Nat):Local (boxPg fid G xs id):=by
 unfold Vc.boxPg
 split
 .refine Local.when_ (Local.getB λ x=>?_)
  split
  .exact Local.ex λ _=>Local.ret _
  .exact Local.fail
 .exact Local.fail
theorem CallOK.box {f fid:FuncId}{G:ByteArray->D->Prop}(h:∀ (b:Nat) (s:ByteArray) (d:D) (w:World),G s d->Glb P w->s.size<=maxLen->b<w.heap.size->w.cell? ⟨b,0,none⟩=some (.string s) ->
  Calls P f #[.func (.func fid) #[] #[.pointer (some ⟨b,0,none⟩)]] w λ en w' => ∃ v,en = .returned v/\Ext w w'/\Rd (λ b=>w.heap.size<=b/\b<w'.heap.size) w' v d):CallOK P f (boxPg fid G):=by
 intro fr hfr nt g e m a w xs vs id l K hs hp hl hx hb hpg;unfold boxPg at hpg
 split at hpg
 .rename_i f' k
  obtain⟨hf,h1⟩:=zah hpg;have hf:=zyT hf;subst hf;simp only[Pg.getB,zal] at h1
  cases hm:m k with
  | box cs =>
   rw[hm] at h1
   have key:∃ s,cs=[.dat (.v (.string s))]/\∃ d,G s d/\K ⟨SV.ofD d,[]⟩ (.b k::l):=by
    match cs,h1 with
    | [.dat (.v (.string s))],h1=>obtain⟨d,hd,hK⟩:=h1;exact⟨s,rfl,d,hd,hK⟩
   obtain⟨s,rfl,d,hG,hK⟩:=key
   match vs,hl with
   | [v],_ =>
   have hv:=hx 0 v _ rfl rfl
   have hv':v = .func (.func f') #[] #[.pointer (some ⟨g.β k,0,none⟩)]:=by
    rcases hv with hv|hv
    .cases hv
    cases hv with
    | @fn _ fs cs _ _ q1 q2 q3 q4 =>
     match fs,q1,cs,q2 with
     | [],_,[u],_ =>
      have:=q4 0 u _ rfl rfl
      cases this;rfl
   subst hv';have hblk:=hs.mem.blk k;rw[hm] at hblk;obtain⟨us,t,r1,r2,r3,_⟩:=hblk
   match us,r2 with
   | [u],_ =>
   obtain⟨r4,r5⟩:=r3 0 u _ rfl rfl
   have hu:u = .string s/\s.size<=maxLen:=by
    cases r5 with
    | dat h=>cases h with|v hp=>exact⟨rfl,hp⟩
   obtain⟨rfl,hsz⟩:=hu;have hlt:g.β k<w.heap.size:=(Array.getElem?_eq_some_iff.1 r1).1;refine(h (g.β k) s d w hG (hs.glb hfr) hsz hlt (by simp[World.cell?,r1])).mono λ en w' ⟨v,he,hw,hr⟩=>?_;exact⟨v,⟨SV.ofD d,[]⟩,_,_,he,hK,hs.grow hw,zbJ (hr.mono (λ b hb=>.inr hb) λ _ _=>rfl),by rw[zbK];simp⟩
  | _=>rw[hm] at h1;exact h1.elim
 .exact hpg.elim
def Pg.frzs:List SV->(List SV->List (Nat×Blk)->Pg)->Pg
 | [],k=>k [] []
 | x::l,k=>match x with
  | .rs b n=>Pg.data1 0 (.rs b n) λ d ws=>Pg.frzs l λ xs ws' => k (.dat d::xs) (ws++ws')
  | x=>Pg.frzs l λ xs ws=>k (x::xs) ws
def frzK (ws:List (Nat×Blk))(K:Dl->List Loc->Prop):Dl->List Loc->Prop:=λ δ l' => K ⟨δ.val,δ.wr++ws⟩ l'
def frzPg (pg:List SV->Nat->Pg)(args:List SV)(id:Nat):Pg :=
 Pg.frzs args λ xs ws=>λ e m l K=>pg xs id e (mApp ws m) l (frzK ws K)
theorem zhu {r s:List (Nat×Blk)}{m:Nat->Blk}:mApp (r++s) m=mApp r (mApp s m):=by
 induction r with
 | nil=>rfl
 | cons p r ih=>obtain⟨k,b⟩:=p;funext t;simp only[List.cons_append,zaa,ih]
theorem zpt {l0:List Loc}{K:Dl->List Loc->Prop}{xs:List SV}:∀ {g:Gh} {m1:Nat->Blk} {vs:List Value} {k:List SV->List (Nat×Blk)->Pg} {l:List Loc},SR fr nt g e m1 a w->Inv m m1->xs.length=vs.length ->
  (∀ (i:Nat) v x,vs[i]? = some v->xs[i]? = some x->DenO g w v x)->(∀ x,x∈xs->∀ k,k∈x.ids->m k ≠ .unborn)->Pg.frzs xs k e m l K ->
  ∃ ys ws l' g',SR fr nt g' e (mApp ws m1) a w/\WsOK m ws/\Same g g'/\ys.length=vs.length/\(∀ (i:Nat) v y,vs[i]? = some v->ys[i]? = some y->DenO g' w v y)/\(∀ y,y∈ys->∀ k,k∈y.ids->m k ≠ .unborn)/\k ys ws e m l' K:=by
 induction xs with
 | nil =>
  intro g m1 vs k l hs hi hl hx hb h
  cases vs with
  | nil=>exact⟨[],[],l,g,hs,(by intro p hp;cases hp),Same.refl g,rfl,by simp,by simp,h⟩
  | cons=>simp at hl
 | cons x xs ih =>
  intro g m1 vs k l hs hi hl hx hb h
  cases vs with
  | nil=>simp at hl
  | cons v vs =>
   have other:Pg.frzs xs (λ xs ws=>k (x::xs) ws) e m l K->∃ ys ws l' g',SR fr nt g' e (mApp ws m1) a w/\WsOK m ws/\Same g g'/\ys.length=(v::vs).length/\(∀ (i:Nat) v' y,(v::vs)[i]? = some v'->ys[i]? = some y->DenO g' w v' y)/\(∀ y,y∈ys->∀ k,k∈y.ids->m k ≠ .unborn)/\k ys ws e m l' K:=λ h=>by
    obtain⟨ys,ws,l',g',hs',hw,hsame,hl',hd,hb',h'⟩:=ih (vs:=vs) hs hi (by simpa using hl) (λ i v x hv hx' => hx (i+1) v x (by simpa using hv) (by simpa using hx')) (λ x hx=>hb x (by simp[hx])) h;refine⟨x::ys,ws,l',g',hs',hw,hsame,by simp[hl'],λ i v' y hv hy=>?_,λ y hy=>?_,h'⟩
    .cases i with
     | zero=>simp at hv hy;subst hv hy;exact hsame.den (hx 0 v x rfl rfl)
     | succ i=>exact hd i v' y (by simpa using hv) (by simpa using hy)
    .rcases List.mem_cons.1 hy with rfl|hy
     .exact hb _ (by simp)
     .exact hb' y hy
   cases x with
   | rs b n =>
    simp only[Pg.frzs] at h;obtain⟨d,w1,l1,g1,hs1,hw1,hsame,hr,h1⟩:=ze1 hs hi (hx 0 v _ rfl rfl) h
    have hi1:Inv m (mApp w1 m1):=by
     intro q;by_cases hq:∃ p,p∈w1/\p.1=q
     .exact .inr ((zbL hw1 q).1 hq)
     .rw [(zbL hw1 q).2 hq];exact hi q
    obtain⟨ys,w2,l2,g2,hs2,hw2,hsame2,hl2,hd,hb',h2⟩:=ih (vs:=vs) hs1 hi1 (by simpa using hl) (λ i v x hv hx' => hsame.den (hx (i+1) v x (by simpa using hv) (by simpa using hx'))) (λ x hx=>hb x (by simp[hx])) h1;refine⟨.dat d::ys,w1++w2,l2,g2,by rw[zdl hw1 hw2];exact hs2,λ p hp=>(List.mem_append.1 hp).elim (hw1 p) (hw2 p),hsame.trans hsame2,by simp[hl2],λ i v' y hv hy=>?_,λ y hy=>?_,h2⟩
    .cases i with
     | zero=>simp at hv hy;subst hv hy;exact .inr (.dat (hr.mono hsame2.1 λ _ _=>rfl))
     | succ i=>exact hd i v' y (by simpa using hv) (by simpa using hy)
    .rcases List.mem_cons.1 hy with rfl|hy
     .simp [SV.ids]
     .exact hb' y hy
   | _=>exact other h
theorem CallOK.frz {f:FuncId}{pg:List SV->Nat->Pg}(h:CallOK P f pg):CallOK P f (frzPg pg):=by
 intro fr hfr nt g e m a w xs vs id l K hs hp hl hx hb hpg;obtain⟨ys,ws,l',g',hs',hw,hsame,hl',hd,hb',h'⟩:=zpt (l0:=l) hs (λ k=>.inl rfl) hl hx hb hpg
 have hbn:∀ k,m k ≠ .unborn->mApp ws m k ≠ .unborn:=by
  intro k hk;by_cases hq:∃ p,p∈ws/\p.1=k
  .rw [(zbL hw k).1 hq]
   obtain⟨p,hp,rfl⟩:=hq
   rcases(hw p hp).2 with ⟨t,s,es,hm⟩|⟨t,t',s,ls,hm⟩ <;> rw[hm] <;> simp[fzOf]
  .rw [(zbL hw k).2 hq];exact hk
 refine(h fr hfr nt g' e (mApp ws m) a w ys vs id l' _ hs' hp hl' hd (λ y hy k hk=>hbn k (hb' y hy k hk)) h').mono λ en w' hh=>?_;obtain⟨v,δ,l2,g2,he,hK,hs2,hd2,hb2⟩:=hh;exact⟨v,⟨δ.val,δ.wr++ws⟩,l2,g2,he,hK,by rw[zhu];exact hs2,hd2,λ k hk=>by rw[zhu];exact hb2 k hk⟩
theorem zlh {F:Nat->Prop}{v:Value}{s:ByteArray}(h:Rd F w v (strN s)):v = .string s/\s.size<=maxLen:=by
 cases h with|v hp=>exact⟨rfl,hp⟩
theorem zwN {F:Nat->Prop}{vs:List Value}{x:D}(hl:vs.length=[x].length)(h:∀ (i:Nat) v d,vs[i]? = some v->[x][i]? = some d->Rd F w v d):∃ v,vs=[v]/\Rd F w v x:=by
 match vs,hl with
 | [v],_=>exact⟨v,rfl,h 0 v x rfl rfl⟩
theorem zq5 {F:Nat->Prop}{vs:List Value}{x y:D}(hl:vs.length=[x,y].length)(h:∀ (i:Nat) v d,vs[i]? = some v->[x,y][i]? = some d->Rd F w v d):∃ v u,vs=[v,u]/\Rd F w v x/\Rd F w u y:=by
 match vs,hl with
 | [v,u],_=>exact⟨v,u,rfl,h 0 v x rfl rfl,h 1 u y rfl rfl⟩
theorem zli {f:FuncId}{G:List D->D->Prop}(R:ByteArray->ByteArray->Value)(H:ByteArray->ByteArray->Prop)(hG:∀ ds d,G ds d->∃ a b,ds=[strN a,strN b]/\d = .v (R a b)/\H a b)
  (h:∀ a b w,Glb P w->a.size<=maxLen->b.size<=maxLen->H a b->pl (R a b)/\Calls P f #[.string a, .string b] w λ e w' => e = .returned (R a b)/\w'=w):PureOK P f G:=by
 intro w Z vs ds d hZ hl hr hg hGd;obtain⟨a,b,rfl,rfl,hH⟩:=hG ds d hGd;obtain⟨v,u,rfl,h1,h2⟩:=zq5 hl hr;obtain⟨rfl,l1⟩:=zlh h1;obtain⟨rfl,l2⟩:=zlh h2;obtain⟨hp,hc⟩:=h a b w hg l1 l2 hH;refine hc.mono ?_;rintro e w' ⟨rfl,rfl⟩;exact⟨_,rfl,Ext.refl w', .v hp⟩
theorem zvC (hg:Glb P w){b:Nat}(hs:∀ w:World,w.ShapedOpen P->∃ n,w.cell? ⟨b,0,none⟩=some (.int .i64 n)):∃ n,w.cell? ⟨b,0,none⟩=some (.int .i64 n):=by
 obtain⟨o,ho,n,hn⟩:=hg b (λ o=>∃ n,∀ w:World,w.heap[b]? = some o->w.cell? ⟨b,0,none⟩=some (.int .i64 n)) (λ w' hw' _=>by
  obtain⟨n,hn⟩:=hs w' hw'
  cases ho:w'.heap[b]? with
  | none=>simp[World.cell?,ho] at hn
  | some o=>exact⟨o,rfl,n,λ w hw=>by rw[World.cell?,hw];rw[World.cell?,ho] at hn;exact hn⟩)
 exact⟨n,hn w ho⟩
theorem zwO {t:TypeId}{v:Value}{n:Nat}{xs:List Value}{b0:Nat}(h:w.ownsRow b0 t 1 v n xs)(hp:∀ x,x∈xs->pl x/\x.oneCell'=true):Rd (λ b=>b0<=b/\b<w.heap.size) w v (.sl 1 (xs.map D.v)):=by
 obtain⟨hl,h|⟨gg,cap,cur,rfl,h1,h2,h3,h4,h5,h6⟩⟩:=h
 .obtain ⟨rfl,rfl⟩:=h
  have:xs=[]:=List.eq_nil_of_length_eq_zero (by simpa using hl);subst this;exact .nil (by simp[maxLen])
 .have hlt:gg<w.heap.size:=(Array.getElem?_eq_some_iff.1 h2).1
  have at_:∀ (i:Nat) (x:Value),xs[i]? = some x->cur[i]? = some x:=by
   intro i x hx;rw[<- h6] at hx;rw[List.getElem?_take] at hx
   split at hx
   .simpa using hx
   .cases hx
  refine .sl (λ i _=>(xs[i]?).getD undef) (by simp at hl ⊢;exact hl) h3 h4 ⟨h1,hlt⟩ ?_ ?_ ?_ ?_
  .intro e he
   obtain⟨x,hx,rfl⟩:=List.mem_map.1 he;rfl
  all_goals
   intro i j e d he hd;rw[List.getElem?_map] at he
   cases hx:xs[i]? with
   | none=>rw[hx] at he;cases he
   | some x =>
    rw[hx] at he;cases he
    have hj:j=0/\d = .v x:=by
     have hd:[D.v x][j]? = some d:=hd
     cases j with
     | zero=>simp at hd;exact⟨rfl,hd.symm⟩
     | succ j=>simp at hd
    obtain⟨rfl,rfl⟩:=hj;have hm:=hp x (zyU hx)
    first
    | exact .v hm.1
    | exact hm.2
    | (have:=at_ i x hx;simp[World.cell?,h2,this])
end
end Go.Vc
namespace Go.Vc
open Go.RowKit
inductive Ty where
 | int (k:IntKind)
 | bool
 | str
 | slice (e:Ty) (agg:Bool) (n:Nat)
 | comp (l:List Ty)
mutual
def Ty.okB (P:Program):Ty->TypeId->Bool
 | .int k,t=>match P.underlying t with
  | some (.int k')=>Nat.beq (kidx k') (kidx k)
  | _=>false
 | .bool,t=>match P.underlying t with
  | some .bool=>true
  | _=>false
 | .str,t=>match P.underlying t with
  | some .string=>true
  | _=>false
 | .slice e agg n,t=>match P.underlying t with
  | some (.slice e')=>Nat.beq (P.cellsOf e') n&&Nat.ble 1 n&&(bif agg then true else Nat.beq n 1)&&e.okB P e'
  | _=>false
 | .comp l,t=>match P.underlying t with
  | some (.struct fs)=>Ty.okF P l fs.toList 0 (P.cellsOf t)
  | some (.array n e)=>Nat.beq l.length n&&Nat.beq (P.cellsOf t) (n*P.cellsOf e)&&Ty.okA P l e
  | _=>false
def Ty.okF (P:Program):List Ty->List Field->Nat->Nat->Bool
 | [],fs,n,tot=>match fs with
  | []=>Nat.beq n tot
  | _=>false
 | τ::l,fs,n,tot=>match fs with
  | f::fs=>Nat.beq f.offset n&&τ.okB P f.type&&Nat.ble (n+P.cellsOf f.type) tot&&Ty.okF P l fs (n+P.cellsOf f.type) tot
  | []=>false
def Ty.okA (P:Program):List Ty->TypeId->Bool
 | [],_=>true
 | τ::l,e=>τ.okB P e&&Ty.okA P l e
end
mutual
def Ty.has:Ty->List D->Prop
 | .int k,ds=>∃ n,ds=[.v (.int k n)]/\k.min<=n/\n<=k.max
 | .bool,ds=>∃ b,ds=[.v (.bool b)]
 | .str,ds=>∃ s,ds=[.v (.string s)]/\s.size<=maxLen
 | .slice e agg n,ds=>∃ es:List (List D),ds=[.sl n (es.map λ cs=>bif agg then .agg cs else cs.headD (.tup []))]/\es.length<=maxLen/\∀ cs,cs∈es->e.has cs
 | .comp l,ds=>Ty.hasL l ds
def Ty.hasL:List Ty->List D->Prop
 | [],ds=>ds=[]
 | t::l,ds=>∃ a b,ds=a++b/\t.has a/\Ty.hasL l b
end
def Ty.hasD:Ty->D->Prop
 | .comp l,x=>∃ cs,x = .agg cs/\Ty.hasL l cs
 | τ,x=>τ.has [x]
def Ty.hasAll:List Ty->List D->Prop
 | [],xs=>xs=[]
 | τ::l,xs=>∃ x r,xs=x::r/\τ.hasD x/\Ty.hasAll l r
section
variable {H:Type} {enc:TypeId×Value->H} {P:Program} {w:World} {base:Nat} {sp:Nat->Bool} {hd:Bool}
abbrev Zof (w:World):Nat->Prop:=λ b=>b<w.heap.size
def Cells (w:World)(cs:List Value)(ds:List D):Prop :=
 cs.length=ds.length/\∀ (i:Nat) v x,cs[i]? = some v->ds[i]? = some x->v.oneCell'=true/\Rd (Zof w) w v x
theorem Cells.one {v:Value}{x:D}(h1:v.oneCell'=true)(h2:Rd (Zof w) w v x):Cells w [v] [x]:=⟨rfl,λ i u y hu hy=>by
 cases i with
 | zero=>simp at hu hy;subst hu hy;exact⟨h1,h2⟩
 | succ i=>simp at hu⟩
theorem Cells.append {a b:List Value}{x y:List D}(h1:Cells w a x)(h2:Cells w b y):Cells w (a++b) (x++y):=by
 refine⟨by simp[h1.1,h2.1],λ i u z hu hz=>?_⟩;by_cases h:i<a.length
 .rw [List.getElem?_append_left h] at hu
  rw[List.getElem?_append_left (by rw[<- h1.1];exact h)] at hz;exact h1.2 i u z hu hz
 .rw [List.getElem?_append_right (by omega)] at hu
  rw[List.getElem?_append_right (by rw[<- h1.1];omega),<- h1.1] at hz;exact h2.2 _ u z hu hz
theorem zs7 {α β:Type}{f:α->Option β}:∀ {l:List α} {r:List β},l.mapM f=some r->r.length=l.length/\∀ (i:Nat) a,l[i]? = some a->∃ b,r[i]? = some b/\f a=some b:=by
 intro l
 induction l with
 | nil=>intro r h;simp at h;subst h;simp
 | cons a l ih =>
  intro r h;rw[List.mapM_cons] at h
  cases ha:f a with
  | none=>rw[ha] at h;cases h
  | some b =>
   rw[ha] at h
   cases hl:l.mapM f with
   | none=>rw[hl] at h;cases h
   | some r' =>
    rw[hl] at h
    cases h
    obtain⟨h1,h2⟩:=ih hl;refine⟨by simp[h1],λ i x hx=>?_⟩
    cases i with
    | zero=>simp at hx;subst hx;exact⟨b,rfl,ha⟩
    | succ i=>simpa using h2 i x (by simpa using hx)
theorem zfH {a:Addr}{n:Nat}{vs:List Value}(h:w.cells? base a n=some vs):vs.length=n/\∀ i,i<n->∃ v,vs[i]? = some v/\w.cell? (a.add i)=some v:=by
 unfold World.cells? at h
 split at h
 .obtain ⟨h1,h2⟩:=zs7 h
  refine⟨by simpa using h1,λ i hi=>?_⟩;obtain⟨b,hb1,hb2⟩:=h2 i i (by simp[hi]);exact⟨b,hb1,hb2⟩
 .cases h
theorem zq6 {a:Addr}{v:Value}(h:w.cell? a=some v):a.spot=none/\a.block<w.heap.size:=by
 unfold World.cell? at h
 split at h
 .rename_i c t f hh
  split at h
  .cases h
  .rename_i hs
   refine⟨by cases hsp:a.spot <;> simp_all, ?_⟩;exact(Array.getElem?_eq_some_iff.1 hh).1
 .cases h
theorem zvD {b o i j:Nat}:((⟨b,o,none⟩:Addr).add i).add j=⟨b,o+i+j,none⟩:=by
 rw[zbh,zbh]
mutual
theorem zjH (τ:Ty):∀ (t:TypeId) (fuel:Nat) (cs:List Value) (d:DataW H) (ps:List MemPlace),τ.okB P t=true->DataW.trod enc P w base sp hd fuel t cs=some (d,ps)->∃ ds,τ.has ds/\Cells w cs ds:=by
 intro t fuel cs d ps hok h
 cases fuel with
 | zero=>cases h
 | succ fuel =>
 cases τ with
 | int k =>
  simp only[Ty.okB] at hok
  split at hok
  .rename_i k' hu
   have:=zct hok;subst this;obtain⟨n,rfl,_,h2⟩:=DataW.trod_int hu h;simp only[Lit.wf,zyW,decide_eq_true_eq] at h2;exact⟨[.v (.int _ n)],by simp only[Ty.has];exact⟨n,rfl,h2⟩,Cells.one rfl (.v h2)⟩
  .cases hok
 | bool =>
  simp only[Ty.okB] at hok
  split at hok
  .rename_i hu
   obtain⟨b,rfl,_⟩:=DataW.trod_bool hu h;exact⟨[.v (.bool b)],by simp only[Ty.has];exact⟨b,rfl⟩,Cells.one rfl (.v trivial)⟩
  .cases hok
 | str =>
  simp only[Ty.okB] at hok
  split at hok
  .rename_i hu
   obtain⟨s,rfl,_,h2⟩:=DataW.trod_string hu h;exact⟨[.v (.string s)],by simp only[Ty.has];exact⟨s,rfl,h2⟩,Cells.one rfl (.v h2)⟩
  .cases hok
 | slice e agg n =>
  simp only[Ty.okB] at hok
  split at hok
  .rename_i e' hu
   simp only[zyW] at hok;obtain⟨⟨⟨hn,hn1⟩,hag⟩,hok⟩:=hok;have hn:=zyT hn;have hn1:=zyV hn1
   rcases DataW.trod_slice hu h with ⟨rfl,_⟩|⟨a,len,cap,elems,rest,m,hf,rfl,_,hb1,hb2,hb3,g1,g2,_⟩
   .exact ⟨[.sl n []],by simp only[Ty.has];exact⟨[],rfl,by simp,by simp⟩,Cells.one rfl (.nil (by simp[maxLen]))⟩
   .have hf:fuel=m:=Nat.succ.inj hf
    subst hf;rw[hn] at g2
    -- each element
    have each:∀ i,i<len->∃ vs ds,w.cells? base (a.add (i*n)) n=some vs/\e.has ds/\Cells w vs ds:=by
     intro i hi;have hb:=g2 i hi;rw[zyS (by omega)] at hb
     cases hc:w.cells? base (a.add (i*n)) n with
     | none=>rw[hc] at hb;cases hb
     | some vs =>
      rw[hc] at hb;obtain⟨ds,hds⟩:=zjH e e' fuel vs elems[i].1 elems[i].2 hok hb;exact⟨vs,ds,rfl,hds⟩
    by_cases hlen:len=0
    .subst hlen
     exact⟨[.sl n []],by simp only[Ty.has];exact⟨[],rfl,by simp,by simp⟩,Cells.one rfl (.nil hb3)⟩
    .obtain ⟨vs0,ds0,hvs0,_⟩:=each 0 (by omega)
     obtain⟨v0,_,hv0⟩:=(zfH hvs0).2 0 (by omega);have hsp0:=zq6 hv0
     have hadd0:((a.add (0*n)).add 0)=a:=by simp[Addr.add]
     rw[hadd0] at hsp0;obtain⟨bl,off,spot⟩:=a;obtain⟨hs1,hs2⟩:=hsp0;simp only at hs1 hs2;subst hs1
     let E:Nat->List D:=λ i=>if h:i<len then (each i h).choose_spec.choose else []
     have hE:∀ i,i<len->∃ vs,w.cells? base ((⟨bl,off,none⟩:Addr).add (i*n)) n=some vs/\e.has (E i)/\Cells w vs (E i):=by
      intro i hi;refine⟨(each i hi).choose, ?_⟩;have:=(each i hi).choose_spec.choose_spec;simp only[E,hi,dif_pos];exact this
     have hEl:∀ i,i<len->(E i).length=n:=by
      intro i hi;obtain⟨vs,h1,_,h3⟩:=hE i hi;rw[<- h3.1,(zfH h1).1]
     let mk:List D->D:=λ cs=>bif agg then .agg cs else cs.headD (.tup [])
     have hmk:∀ i,i<len->(mk (E i)).cells=E i:=by
      intro i hi
      cases agg with
      | true=>rfl
      | false =>
       simp only[cond_false] at hag;have h1:n=1:=zyT hag;have:=hEl i hi;rw[h1] at this;obtain⟨vs,k1,_,k3⟩:=hE i hi
       obtain⟨x,hx⟩:∃ x,E i=[x]:=by
        match hh:E i with
        | [x]=>exact⟨x,rfl⟩
        | []=>rw[hh] at this;cases this
        | _::_::_=>rw[hh] at this;simp at this
       rw[hx] at k3 ⊢;show (D.cells x)=[x];obtain⟨v,hv1,hv2⟩:=(zfH k1).2 0 (by omega);have:=k3.2 0 v x hv1 rfl;have h1c:=this.1;have hr:=this.2
       cases hr with
       | agg=>cases h1c
       | tup=>cases h1c
       | _=>rfl
     have hcell:∀ (i j:Nat) el d,((List.range len).map λ i=>mk (E i))[i]? = some el->el.cells[j]? = some d->i<len/\j<n/\E i=el.cells/\∃ v,w.cell? ⟨bl,off+i*n+j,none⟩=some v/\v.oneCell'=true/\Rd (Zof w) w v d:=by
      intro i j el d he hd
      have hi:i<len:=by
       have:=(zyR.1 he).1;simpa using this
      rw[List.getElem?_map,List.getElem?_range hi] at he;simp only[Option.map_some,Option.some.injEq] at he;subst he;rw[hmk i hi] at hd
      have hj:j<n:=by rw[<- hEl i hi];exact(zyR.1 hd).1
      obtain⟨vs,k1,_,k3⟩:=hE i hi;obtain⟨v,hv1,hv2⟩:=(zfH k1).2 j hj;rw[zvD] at hv2;exact⟨hi,hj,(hmk i hi).symm,v,hv2,(k3.2 j v d hv1 hd).1,(k3.2 j v d hv1 hd).2⟩
     refine⟨[.sl n ((List.range len).map λ i=>mk (E i))], ?_,Cells.one rfl ?_⟩
     .simp only[Ty.has]
      refine⟨(List.range len).map E,by simp[mk],by simp;omega, ?_⟩;intro cs hcs;obtain⟨i,hi,rfl⟩:=List.mem_map.1 hcs;obtain⟨_,_,h2,_⟩:=hE i (by simpa using hi);exact h2
     .refine .sl (λ i j=>(w.cell? ⟨bl,off+i*n+j,none⟩).getD (.bool false)) (by simp) hb2 hb3 hs2 ?_ ?_ ?_ ?_
      .intro el hel'
       obtain⟨i,hi,rfl⟩:=List.mem_map.1 hel'
       have hi:i<len:=by simpa using hi
       rw[hmk i hi,hEl i hi]
      .intro i j el d he hd
       obtain⟨_,_,_,v,hv,_⟩:=hcell i j el d he hd;rw[hv];rfl
      .intro i j el d he hd
       obtain⟨_,_,_,v,hv,h1,_⟩:=hcell i j el d he hd;rw[hv];exact h1
      .intro i j el d he hd
       obtain⟨_,_,_,v,hv,_,h2⟩:=hcell i j el d he hd;rw[hv];exact h2
  .cases hok
 | comp l =>
  simp only[Ty.okB] at hok
  split at hok
  .rename_i fs hu
   unfold DataW.trod at h;rw[hu] at h;simp only at h
   split at h
   .rename_i hlen
    cases hm:fs.toList.mapM λ f=>DataW.trod enc P w base sp hd fuel f.type ((cs.drop f.offset).take (P.cellsOf f.type)) with
    | none=>rw[hm] at h;cases h
    | some xs =>
     obtain⟨ds,h1,h2⟩:=znX l fs.toList 0 (P.cellsOf t) fuel cs xs hok hlen (Nat.zero_le _) hm;exact⟨ds,by simp only[Ty.has];exact h1,by simpa using h2⟩
   .cases h
  .rename_i n e hu
   simp only[zyW] at hok;obtain⟨⟨hl,hsz⟩,hok⟩:=hok;have hl:=zyT hl;have hsz:=zyT hsz;unfold DataW.trod at h;rw[hu] at h;simp only at h
   split at h
   .rename_i hlen
    cases hm:(List.range n).mapM λ i=>DataW.trod enc P w base sp hd fuel e ((cs.drop (i*P.cellsOf e)).take (P.cellsOf e)) with
    | none=>rw[hm] at h;cases h
    | some xs =>
     obtain⟨ds,h1,h2⟩:=znY l e 0 fuel cs xs hok (by rw[hlen,hsz,hl];simp) (by rw[hl,<- List.range_eq_range'];exact hm);exact⟨ds,by simp only[Ty.has];exact h1,by simpa using h2⟩
   .cases h
  .cases hok
theorem znX (l:List Ty):∀ (fs:List Field) (n tot fuel:Nat) (cs:List Value) (xs:List (DataW H×List MemPlace)),Ty.okF P l fs n tot=true->cs.length=tot->n<=tot ->
  fs.mapM (λ f=>DataW.trod enc P w base sp hd fuel f.type ((cs.drop f.offset).take (P.cellsOf f.type)))=some xs->∃ ds,Ty.hasL l ds/\Cells w (cs.drop n) ds:=by
 intro fs n tot fuel cs xs hok hlen hn hm
 cases l with
 | nil =>
  simp only[Ty.okF] at hok
  cases fs with
  | nil =>
   have:=zyT hok;exact⟨[],by simp only[Ty.hasL],by rw[List.drop_of_length_le (by omega)];exact⟨rfl,by simp⟩⟩
  | cons=>cases hok
 | cons τ l =>
  simp only[Ty.okF] at hok
  cases fs with
  | nil=>cases hok
  | cons f fs =>
   simp only[zyW] at hok;obtain⟨⟨⟨h1,h2⟩,h3⟩,h4⟩:=hok;have h1:=zyT h1;have h3:=zyV h3;rw[List.mapM_cons] at hm
   cases ha:DataW.trod enc P w base sp hd fuel f.type ((cs.drop f.offset).take (P.cellsOf f.type)) with
   | none=>rw[ha] at hm;cases hm
   | some b =>
    rw[ha] at hm
    cases hm2:fs.mapM λ f=>DataW.trod enc P w base sp hd fuel f.type ((cs.drop f.offset).take (P.cellsOf f.type)) with
    | none=>rw[hm2] at hm;cases hm
    | some r =>
     obtain⟨ds1,a1,a2⟩:=zjH τ f.type fuel _ b.1 b.2 h2 ha;obtain⟨ds2,b1,b2⟩:=znX l fs _ tot fuel cs r h4 hlen h3 hm2;refine⟨ds1++ds2,by simp only[Ty.hasL];exact⟨ds1,ds2,rfl,a1,b1⟩, ?_⟩;have:=a2.append b2;rw[h1,<- List.drop_drop,List.take_append_drop] at this;exact this
theorem znY (l:List Ty):∀ (e:TypeId) (i fuel:Nat) (cs:List Value) (xs:List (DataW H×List MemPlace)),Ty.okA P l e=true->cs.length=(i+l.length)*P.cellsOf e ->
  (List.range' i l.length).mapM (λ i=>DataW.trod enc P w base sp hd fuel e ((cs.drop (i*P.cellsOf e)).take (P.cellsOf e)))=some xs->∃ ds,Ty.hasL l ds/\Cells w (cs.drop (i*P.cellsOf e)) ds:=by
 intro e i fuel cs xs hok hlen hm
 cases l with
 | nil =>
  refine⟨[],by simp only[Ty.hasL], ?_⟩;rw[List.drop_of_length_le (by simp at hlen;omega)];exact⟨rfl,by simp⟩
 | cons τ l =>
  simp only[Ty.okA,zyW] at hok;obtain⟨h2,h4⟩:=hok;simp only[List.length_cons,List.range'_succ] at hm hlen;rw[List.mapM_cons] at hm
  cases ha:DataW.trod enc P w base sp hd fuel e ((cs.drop (i*P.cellsOf e)).take (P.cellsOf e)) with
  | none=>rw[ha] at hm;cases hm
  | some b =>
   rw[ha] at hm
   cases hm2:(List.range' (i+1) l.length).mapM λ i=>DataW.trod enc P w base sp hd fuel e ((cs.drop (i*P.cellsOf e)).take (P.cellsOf e)) with
   | none=>rw[hm2] at hm;cases hm
   | some r =>
    obtain⟨ds1,a1,a2⟩:=zjH τ e fuel _ b.1 b.2 h2 ha;obtain⟨ds2,b1,b2⟩:=znY l e (i+1) fuel cs r h4 (by rw[hlen];congr 1;omega) hm2;refine⟨ds1++ds2,by simp only[Ty.hasL];exact⟨ds1,ds2,rfl,a1,b1⟩, ?_⟩;have:=a2.append b2;rw[Nat.add_mul,Nat.one_mul,<- List.drop_drop,List.take_append_drop] at this;exact this
end
end
end Go.Vc
namespace Go.Vc
open Go.ChangeShapes Go.WideShapes Go.ChangeAt Go.RowKit
section
variable {H:Type} {enc:TypeId×Value->H} {P:Program} {w:World} {base b2:Nat} {sp:Nat->Bool} {hd:Bool}
theorem zs8 {τ:Ty}{t:TypeId}{v:Value}{d:DataW H}{p:List MemPlace}(hok:τ.okB P t=true)(hv:Value.okWide P w .any b2 t v)(h:DataW.Trod enc P w base sp hd t v d p):∃ x,τ.hasD x/\Rd (Zof w) w v x:=by
 obtain⟨fuel,h⟩:=h;obtain⟨ds,h1,h2⟩:=zjH τ t fuel _ d p hok h
 have scal:v.cells.toList=[v]->τ.hasD=(λ x=>τ.has [x])->(∃ x,ds=[x])->∃ x,τ.hasD x/\Rd (Zof w) w v x:=by
  rintro hc ht ⟨x,rfl⟩;rw[hc] at h2;exact⟨x,by rw[ht];exact h1,(h2.2 0 v x rfl rfl).2⟩
 cases τ with
 | int k =>
  simp only[Ty.okB] at hok
  split at hok
  .rename_i k' hu
   obtain⟨n,rfl⟩:=okWide_int hu hv;exact scal rfl (by funext x;rfl) (by simp only[Ty.has] at h1;obtain⟨n,rfl,_⟩:=h1;exact⟨_,rfl⟩)
  .cases hok
 | bool =>
  simp only[Ty.okB] at hok
  split at hok
  .rename_i hu
   have:∃ b,v = .bool b:=by
    simp only[Value.okWide,hu,Cell.okWide] at hv
    cases v <;> simp_all [Cell.ok]
   obtain⟨b,rfl⟩:=this;exact scal rfl (by funext x;rfl) (by simp only[Ty.has] at h1;obtain⟨n,rfl⟩:=h1;exact⟨_,rfl⟩)
  .cases hok
 | str =>
  simp only[Ty.okB] at hok
  split at hok
  .rename_i hu
   obtain⟨s,rfl⟩:=okWide_string hu hv;exact scal rfl (by funext x;rfl) (by simp only[Ty.has] at h1;obtain⟨n,rfl,_⟩:=h1;exact⟨_,rfl⟩)
  .cases hok
 | slice e agg n =>
  simp only[Ty.okB] at hok
  split at hok
  .rename_i e' hu
   obtain⟨a,len,cap,rfl⟩:=okWide_slice hu hv;exact scal rfl (by funext x;rfl) (by simp only[Ty.has] at h1;obtain⟨n,rfl,_⟩:=h1;exact⟨_,rfl⟩)
  .cases hok
 | comp l =>
  have hv':∃ cs,v = .agg cs:=by
   simp only[Ty.okB] at hok
   split at hok
   .rename_i fs hu
    simp only[Value.okWide,hu] at hv;obtain⟨cs,hv,_⟩:=hv;exact⟨cs,hv⟩
   .rename_i n e hu
    simp only[Value.okWide,hu] at hv;obtain⟨cs,hv,_⟩:=hv;exact⟨cs,hv⟩
   .cases hok
  obtain⟨cs,rfl⟩:=hv';refine⟨.agg ds,⟨ds,rfl,by simpa only[Ty.has] using h1⟩, ?_⟩;have hc:(Value.cells (.agg cs)).toList=cs.toList:=rfl;rw[hc] at h2;have:=Rd.agg h2.1 (λ i u d hu hd=>(h2.2 i u d hu hd).1) λ i u d hu hd=>(h2.2 i u d hu hd).2;rw[Array.toArray_toList] at this;exact this
def zpu (P:Program):List Ty->List TypeId->Bool
 | [],[]=>true
 | τ::l,t::ts=>τ.okB P t&&(P.readableRec t&&Nat.ble (t+1) P.types.size)&&zpu P l ts
 | _,_=>false
theorem zq7:∀ {τs:List Ty} {ts:List TypeId} {vs:List Value} {ds:List (DataW H)} {p:List MemPlace},zpu P τs ts=true->(∀ (j:Nat) t v,ts[j]? = some t->vs[j]? = some v->Value.okWide P w .any b2 t v) ->
  DataW.TrodAll enc P w base sp hd ts vs ds p->∃ xs,Ty.hasAll τs xs/\vs.length=xs.length/\∀ (i:Nat) v x,vs[i]? = some v->xs[i]? = some x->Rd (Zof w) w v x:=by
 intro τs
 induction τs with
 | nil =>
  intro ts vs ds p hok hv h
  cases ts with
  | nil=>cases vs with
   | nil=>exact⟨[],rfl,rfl,by simp⟩
   | cons=>cases ds <;> exact h.elim
  | cons=>cases hok
 | cons τ l ih =>
  intro ts vs ds p hok hv h
  cases ts with
  | nil=>cases hok
  | cons t ts =>
   cases vs with
   | nil=>cases ds <;> exact h.elim
   | cons v vs =>
    cases ds with
    | nil=>exact h.elim
    | cons d ds =>
     obtain⟨p1,q1,h1,h2,_⟩:=h;simp only[zpu,zyW] at hok;obtain⟨x,x1,x2⟩:=zs8 hok.1.1 (hv 0 t v rfl rfl) h1;obtain⟨xs,y1,y2,y3⟩:=ih hok.2 (λ j t' v' ht hv' => hv (j+1) t' v' (by simpa using ht) (by simpa using hv')) h2;refine⟨x::xs,⟨x,xs,rfl,x1,y1⟩,by simp[y2],λ i u z hu hz=>?_⟩
     cases i with
     | zero=>simp at hu hz;subst hu hz;exact x2
     | succ i=>exact y3 i u z (by simpa using hu) (by simpa using hz)
theorem zpv (hl:laidOutB P=true){W':World}(hb:Below w.heap.size w W'):∀ {τs:List Ty} {ts:List TypeId} {vs:List Value} {ds:List (DataW H)} {p:List MemPlace},zpu P τs ts=true ->
  DataW.TrodAll enc P w 0 (λ _=>true) true ts vs ds p->(∀ x∈p,x.block<w.heap.size)->DataW.TrodAll enc P W' 0 (λ b=>decide (b<w.heap.size)) true ts vs ds p:=by
 intro τs
 induction τs with
 | nil =>
  intro ts vs ds p hok h hp
  cases ts with
  | nil=>cases vs <;> cases ds <;> first|exact h|exact h.elim
  | cons=>cases hok
 | cons τ l ih =>
  intro ts vs ds p hok h hp
  cases ts with
  | nil=>cases hok
  | cons t ts =>
   cases vs with
   | nil=>cases ds <;> exact h.elim
   | cons v vs =>
    cases ds with
    | nil=>exact h.elim
    | cons d ds =>
     obtain⟨p1,q1,h1,h2,rfl⟩:=h;simp only[zpu,zyW] at hok;exact⟨p1,q1,Below.trod hl hok.1.2.1 (zyV hok.1.2.2) h1 hb λ x hx=>hp x (by simp[hx]),ih hok.2 h2 λ x hx=>hp x (by simp[hx]),rfl⟩
theorem ziq:∀ {ts:List TypeId} {vs:List Value} {ds:List (DataW H)} {p:List MemPlace},DataW.TrodAll enc P w base sp hd ts vs ds p->ds.length=ts.length:=by
 intro ts
 induction ts with
 | nil=>intro vs ds p h;cases vs <;> cases ds <;> first|rfl|exact h.elim
 | cons t ts ih =>
  intro vs ds p h
  cases vs with
  | nil=>cases ds <;> exact h.elim
  | cons v vs=>cases ds with
   | nil=>exact h.elim
   | cons d ds=>obtain⟨_,_,_,h2,_⟩:=h;simp[ih h2]
end
end Go.Vc
namespace Go.Vc
open Go.ChangeShapes Go.WideShapes Go.ChangeAt Go.RowKit
section
variable {H:Type} {enc:TypeId×Value->H}
theorem zs9 {C:Checked}{os:Os}{f:FuncId}{fn:Func}{s:ChangeSpec}{conds:List PathCond}{tb:TypeId}{lst:List (String×DataW Unit)}
  (own:ownKnob C.prog.godebug=none) (started:os.Started) (noInit:C.prog.inits.idxOf? f=none) (hfn:C.prog.funcs[f]? = some fn)
  (witness:∃ (w:World) (tape:Tape) (i:Input),w.os=os/\(w.forCall tape i).Shaped C.prog/\i.vars=[]/\Input.okWide C.prog (w.forCall tape i) .any w.heap.size f i /\
   ((s.pre enc C.prog fn conds false (w.forCall tape i).memory i.args/\laidMetH C.prog lst (w.forCall tape i).memory)/\sizedMet enc C.prog fn (OpenSpec.ofChange s) false (w.forCall tape i).memory i.args)/\Assume.holds {} C.prog (lone (Frame.enter C.prog f i.args .normal) [] (w.forCall tape i)))
  (τs:List Ty) {G:List D->D->Prop} (hP:PureOK C.prog f G) (hl:laidOutB C.prog=true) (hty:zpu C.prog τs fn.params.toList=true) (hvars:s.vars=[]) (hres:fn.resultTypes = #[tb]) (hb:C.prog.underlying tb=some .bool)
  (hfun:∀ ds:List (DataW H),ds.length=fn.params.toList.length->s.fn H ds={ results:=[.lit (.bool true)],args:=ds })
  (hG:∀ xs,Ty.hasAll τs xs->G xs (.v (.bool true))) (hLX:∀ w:World,laidMetH C.prog lst w.memory->LX C.prog w) :
  ReturnsInHanded {} C os f .any (λ w args=>(s.pre enc C.prog fn conds false w args/\laidMetH C.prog lst w)/\sizedMet enc C.prog fn (OpenSpec.ofChange s) false w args) (s.post enc C.prog fn false true false false):=by
 refine returnsInHanded_of_calls own started noInit witness ?_;intro w tape i _ hsh _ hok hpre hholds;obtain⟨_,_,_,fn',hfn',_,_,_,_,hval⟩:=hok;have e:fn'=fn:=Option.some.inj (hfn'.symm.trans hfn);subst e;obtain⟨⟨⟨ds,gs,before,hw,hc⟩,hlm⟩,hz⟩:=hpre;have hlx:=hLX _ hlm;have hW:=DataW.Whole.of_heap (w':=w.forCall tape i) (by rfl) hw
 have key:Calls C.prog f i.args (w.forCall tape i) λ e W' => ∃ v,e = .returned v/\s.post enc C.prog fn' false true false false (w.forCall tape i) i.args v W':=by
  generalize w.forCall tape i=W at *;have hW':=hW;obtain⟨p,q,hA,hV,rfl,hfz,hnd⟩:=hW
  have hgq:gs=[]/\q=[]:=by
   rw[hvars] at hV
   cases gs with
   | nil=>exact⟨rfl,hV⟩
   | cons=>exact hV.elim
  obtain⟨rfl,rfl⟩:=hgq;obtain⟨xs,x1,x2,x3⟩:=zq7 (w:=W) hty (λ j t v ht hv=>hval j t v (by simpa using ht) (by simpa using hv)) hA;have hc:=hP W (Zof W) i.args.toList xs (.v (.bool true)) (λ b h=>h) x2 x3 (Glb.of_shaped hsh hlx) (hG xs x1);rw[Array.toArray_toList] at hc;refine hc.mono λ e W' ⟨v,he,hext,hr⟩=>?_
  have hv:v = .bool true:=by cases hr with|v _=>rfl
  subst hv;have hbel:Below W.heap.size W W':=⟨hext.os,hext.tape,hext.output,hext.size,hext.old⟩;have hlt:=hW'.lt
  have hfn2:s.fn H (ds++[])={ results:=[.lit (.bool true)],args:=ds }:=by
   rw[List.append_nil];exact hfun ds (ziq hA)
  refine⟨_,he,ds,[],p++[],[],p,[],hW', ?_, ?_, ?_,Below.frame hbel _,λ h=>by cases h⟩
  .rw [hfn2,hres]
   exact trodAll_mk1 (shut_bool hb true)
  .rw [hfn2]
   exact zpv hl hbel hty hA λ x hx=>by simpa using hlt x (by simp[hx])
  .rw [hvars,hfn2];rfl
 refine key.mono λ e W' ⟨v,he,hp⟩=>?_;subst he;exact ChangeSpec.post_blind hp
end
end Go.Vc
namespace Go.Vc
open Go.RowKit
section
variable {κ σ ρ α β:Type}
def zaA [DecidableEq κ](k:κ):List (κ×σ)->Option Nat
 | []=>none
 | p::r=>if p.1=k then some 0 else (zaA k r).map (· + 1)
def getF (l:List (κ×σ))(i:Nat):Option σ:=(l[i]?).map (·.2)
def setF (l:List (κ×σ))(i:Nat)(x:σ):List (κ×σ):=l.modify i λ p=>(p.1,x)
def insF [DecidableEq κ](k:κ)(x:σ)(l:List (κ×σ)):Option (List (κ×σ)):=match zaA k l with
 | none=>some (l++[(k,x)])
 | some _=>none
def encF (eK:κ->D)(eM:σ->List MC)(l:List (κ×σ)):List (D×List MC):=l.map λ p=>(eK p.1,eM p.2)
def onO (o:Option α)(a:Option β)(b:α->Option β):Option β:=match o with
 | none=>a
 | some x=>b x
variable {eK:κ->D} {eM:σ->List MC} {l:List (κ×σ)} {r:ρ} {i o:Nat} {x:σ} {es:List (D×List MC)}
theorem ziN [DecidableEq κ]{k:κ}:zaA k l=none ↔ ∀ p,p∈l->p.1≠k:=by
 induction l with
 | nil=>simp[zaA]
 | cons p r ih =>
  simp only[zaA,List.mem_cons,forall_eq_or_imp];by_cases h:p.1=k
  .simp [h]
  .simp only[h,if_false,Option.map_eq_none_iff,ih,ne_eq,not_false_eq_true,true_and]
theorem zeG [DecidableEq κ]{k:κ}{i:Nat}:zaA k l=some i ↔ (∃ x,l[i]? = some (k,x))/\∀ j q,j<i->l[j]? = some q->q.1≠k:=by
 induction l generalizing i with
 | nil=>simp[zaA]
 | cons p r ih =>
  simp only[zaA];by_cases h:p.1=k
  .subst h
   simp only[if_true,Option.some.injEq];constructor
   .rintro rfl;exact⟨⟨p.2,rfl⟩,λ j q hj=>absurd hj (Nat.not_lt_zero _)⟩
   .rintro ⟨_,h2⟩
    cases i with
    | zero=>rfl
    | succ i=>exact absurd rfl (h2 0 p (Nat.succ_pos _) rfl)
  .simp only[h,if_false,Option.map_eq_some_iff]
   constructor
   .rintro ⟨j,hj,rfl⟩
    obtain⟨h1,h2⟩:=ih.1 hj;refine⟨by simpa using h1,λ j' q hj' hq=>?_⟩
    cases j' with
    | zero=>cases hq;exact h
    | succ j' => exact h2 j' q (by omega) (by simpa using hq)
   .rintro ⟨⟨x,hx⟩,h2⟩
    cases i with
    | zero=>cases hx;exact absurd rfl h
    | succ i=>exact⟨i,ih.2 ⟨⟨x,by simpa using hx⟩,λ j q hj hq=>h2 (j+1) q (by omega) (by simpa using hq)⟩,rfl⟩
theorem zbI:(encF eK eM l)[i]? = (l[i]?).map λ p=>(eK p.1,eM p.2):=by simp[encF]
theorem za2:getF l i=some x ↔ ∃ k,l[i]? = some (k,x):=by
 unfold getF
 cases h:l[i]? with
 | none=>simp
 | some p=>obtain⟨k,y⟩:=p;simp
theorem zek {y:σ}(h:getF l i=some x):getF (setF l i y) i=some y:=by
 obtain⟨k,hk⟩:=za2.1 h;exact za2.2 ⟨k,by simp[setF,hk]⟩
theorem zjI {tk:TI}(hk:∀ a,keyD tk (eK a)=true):∀ p,p∈encF eK eM l->keyD tk p.1=true:=by
 intro p hp;obtain⟨q,_,rfl⟩:=List.mem_map.1 hp;exact hk _
theorem zq8 [DecidableEq κ](hi:∀ a b,eK a=eK b->a=b){k:κ}(h:zaA k l=none):∀ p,p∈encF eK eM l->p.1≠eK k:=by
 intro p hp;obtain⟨q,hq,rfl⟩:=List.mem_map.1 hp;exact λ e=>ziN.1 h q hq (hi _ _ e)
theorem zgo [DecidableEq κ](hi:∀ a b,eK a=eK b->a=b){k:κ}{i:Nat}{y:List MC}(h1:(encF eK eM l)[i]? = some (eK k,y))(h2:∀ j q,j<i->(encF eK eM l)[j]? = some q->q.1≠eK k):zaA k l=some i:=by
 rw[zbI] at h1
 cases hl:l[i]? with
 | none=>rw[hl] at h1;cases h1
 | some p =>
  rw[hl] at h1;obtain⟨k',x⟩:=p;have h1:(eK k',eM x)=(eK k,y):=Option.some.inj h1;refine zeG.2 ⟨⟨x,by rw[hl,hi k' k (congrArg Prod.fst h1)]⟩,λ j q hj hq e=>h2 j (eK q.1,eM q.2) hj (by rw[zbI,hq];rfl) (by rw[e])⟩
section
variable {P:Program}
def preTake (o:Nat)(pg:List SV->Nat->Pg)(xs:List SV)(id:Nat):Pg:=λ e m lg K=>∃ k i off rest ks es outs e' s' l,xs = .po k i off::rest/\m k = .fam ks es outs/\mcAt es i o=some (.r e' s' l)/\m id = .unborn/\¬ zcD outs i o /\
 pg xs (id+BIG) e (mApp [(id, .row e' s' l),(k, .fam ks es ((i,o,id)::outs))] m) (.b id :: .b k::lg) λ δ l' => K ⟨δ.val,δ.wr++[(id, .row e' s' l),(k, .fam ks es ((i,o,id)::outs))]⟩ l'
theorem znZ (w v:List (Nat×Blk))(m:Nat->Blk):mApp (w++v) m=mApp w (mApp v m):=by
 induction w with
 | nil=>rfl
 | cons x w ih=>obtain⟨k,b⟩:=x;funext q;rw[List.cons_append,zaa,zaa,ih]
theorem Local.preTake {o:Nat}{pg:List SV->Nat->Pg}(h:∀ xs id,Local (pg xs id))(xs:List SV)(id:Nat):Local (preTake o pg xs id):=by
 rintro e m l K ⟨k,i,off,rest,ks,es,outs,e',s',l1,rfl,hm,hx,hid,hno,hh⟩;obtain⟨δ,l',h1,h2,h3⟩:=h _ _ _ _ _ _ hh;refine⟨_,_,h1,λ x hx=>h2 x (by simp[hx]),λ e2 m2 K2 ha hk=>⟨k,i,off,rest,ks,es,outs,e',s',l1,rfl,by rw[ha.2 k (h2 _ (by simp)),hm],hx,by rw[ha.2 id (h2 _ (by simp)),hid],hno, ?_⟩⟩
 exact h3 e2 (mApp [(id, .row e' s' l1),(k, .fam ks es ((i,o,id)::outs))] m2) (λ δ l' => K2 ⟨δ.val,δ.wr++[(id, .row e' s' l1),(k, .fam ks es ((i,o,id)::outs))]⟩ l') ⟨ha.1,λ b hb=>by
  rw[zaa,zaa,zaa,zaa]
  split
  .rfl
  .split
   .rfl
   .exact ha.2 b hb⟩ hk
theorem CallOK.preTake {o:Nat}{f:FuncId}{pg:List SV->Nat->Pg}(h:CallOK P f pg):CallOK P f (preTake o pg):=by
 rintro fr hfr nt g e m a w xs vs id l K hs hid hlx hx hbx ⟨k,i,off,rest,ks,es,outs,e',s',l1,rfl,hm,hxx,hmid,hno,hpg⟩;obtain⟨g',b0,v,_,_,hs',_,hFF,hag⟩:=hs.takeR hm hxx hno ⟨hid,hmid⟩
 have born:∀ q,m q ≠ .unborn->mApp [(id, .row e' s' l1),(k, .fam ks es ((i,o,id)::outs))] m q ≠ .unborn:=by
  intro q hq;rw[zaa,zaa]
  split
  .simp
  .split
   .simp
   .exact hq
 refine(h fr hfr nt g' e _ a w _ vs (id+BIG) _ _ hs' (by omega) hlx (λ j v x hv hxj=>?_) (λ x hxm q hq=>born q (hbx x hxm q hq)) hpg).mono λ en w' hh=>?_
 .rcases hx j v x hv hxj with h1|h1
  .exact .inl h1
  .exact .inr (h1.mono (λ b hb=>by rw[hFF];exact hb) (λ _ _=>rfl) λ q hq=>hag q (hbx x (zyU hxj) q hq))
 .obtain ⟨v',δ,l',g2,h1,h2,h3,h4,h5⟩:=hh
  refine⟨v',_,l',g2,h1,h2, ?_,h4, ?_⟩
  .rw [znZ];exact h3
  .intro q hq;rw[znZ];exact h5 q hq
theorem zn0 {T:Tree (Option TI)}{l:List Ent}{f o:Nat}{pg:List SV->Nat->Pg}(hc:zcu P f)(hp:CallOK P f pg)(hl:∀ xs id,Local (pg xs id))(h:CtxOK P (zaq T l)):CtxOK P (zaq T ((f,true,preTake o pg)::l)):=zf3 hc (CallOK.preTake hp) (λ _ xs id=>Local.preTake hl xs id) h
end
theorem isO {o:Option Nat}{A:Option ρ}{B:Nat->Option ρ}(h:onO o A B=some r):onO o A B=some r:=h
theorem zjJ {A:List (κ×σ)->Option ρ}(h:(some (setF l i x)).bind A=some r):(some (setF l i x)).bind A=some r:=h
theorem zvE {L:List α}{A:Nat->Option ρ}(h:(lenM L).bind A=some r):(lenM L).bind A=some r:=h
theorem isSm {τ:Type}{e:τ}{A:τ->Option ρ}(h:(some e).bind A=some r):(some e).bind A=some r:=h
theorem isTk {A B:Prop}(h:¬ A/\B):¬ A/\B:=h
theorem isMc {es:List (D×List MC)}{i o:Nat}{K:MC->Prop}(h:∃ y,mcAt es i o=some y/\K y):∃ y,mcAt es i o=some y/\K y:=h
theorem zlj {p:Prop}{d:Decidable p}{e:Decidable (¬ p)}(h : @decide p d=false) : @decide (¬ p) e=true:=decide_eq_true (of_decide_eq_false h)
theorem zlk {p:Prop}{d:Decidable p}{e:Decidable (¬ p)}(h : @decide (¬ p) e=false) : @decide p d=true:=decide_eq_true (Decidable.byContradiction (of_decide_eq_false h))
theorem zll {p:Prop}{d:Decidable p}{e:Decidable (¬ p)}(h : @decide p d=true) : @decide (¬ p) e=false:=decide_eq_false (λ q=>q (of_decide_eq_true h))
theorem zlm {p:Prop}{d:Decidable p}{e:Decidable (¬ p)}(h : @decide (¬ p) e=true) : @decide p d=false:=decide_eq_false (of_decide_eq_true h)
theorem orL {A C:Pg}{e:Nat->SV}{m:Nat->Blk}{l:List Loc}{K:Dl->List Loc->Prop}(h:A e m l K):Pg.or A C e m l K := .inl h
theorem orR {A C:Pg}{e:Nat->SV}{m:Nat->Blk}{l:List Loc}{K:Dl->List Loc->Prop}(h:C e m l K):Pg.or A C e m l K := .inr h
theorem isLF {es:List (D×List MC)}{tk:TI}{Q:Prop}(h:(∀ p,p∈es->keyD tk p.1=true)/\Q):(∀ p,p∈es->keyD tk p.1=true)/\Q:=h
theorem isOP {t:Option Nat}{X:Prop}{Y:Nat->Prop}(h:(t=none->X)/\∀ j,t=some j->Y j):(t=none->X)/\∀ j,t=some j->Y j:=h
theorem isSF {es:List (D×List MC)}{i o:Nat}{y:MC}{K:List (D×List MC)->Prop}(h:∃ q,q=za0 es i o y/\K q):∃ q,q=za0 es i o y/\K q:=h
theorem isPF {n m:Nat}{B:Prop}(h:n=m/\B):n=m/\B:=h
theorem isLd {es:List (D×List MC)}{i:Nat}{K:D×List MC->Prop}(h:∃ p,es[i]? = some p/\K p):∃ p,es[i]? = some p/\K p:=h
theorem exg3 {p:Nat->Nat->Nat->Prop}(h:∃ k i o,p k i o):∃ k i o,p k i o:=h
theorem zaQ {c:Ctx}{ops:List Oper}{K':St->Prop}{id:Nat}{st:St}(h:zam c ops K' [] id st):zam c ops K' [] id st:=h
theorem zhv {c:Ctx}{p nid:Nat}{b:Code}{st:St}{K K':Ex->St->Prop}(h:vc c p nid b st K'):Kseq (λ st' => vc c p nid b st' K') K .normal st:=zeU h
theorem zf7 {Z:Prop}[DecidableEq κ](hi:∀ a b,eK a=eK b->a=b){tk:TI}{d:D}{key:κ}{X:Prop}{Y:Nat->Prop}{A:Option ρ}{B:Nat->Option ρ}(hk:∀ a,keyD tk (eK a)=true)(hd:d=eK key)(he:es=encF eK eM l)
  (h1:zaA key l=none->A=some r->X) (h2:∀ i,zaA key l=some i->B i=some r->Y i) (hF:onO (zaA key l) A B=some r) :
  (∀ p,p∈es->keyD tk p.1=true)/\((((∀ p,p∈es->p.1≠d)->X)/\∀ i x,es[i]? = some (d,x)->(∀ j q,j<i->es[j]? = some q->q.1≠d)->Y i)∨Z):=by
 subst hd he;refine⟨zjI hk, .inl ⟨λ h=>?_,λ i x hx hj=>?_⟩⟩
 .cases hl:zaA key l with
  | none=>rw[hl] at hF;exact h1 hl hF
  | some i =>
   obtain⟨⟨x,hx⟩,_⟩:=zeG.1 hl;exact absurd rfl (h (eK key,eM x) (zyU (i:=i) (by rw[zbI,hx];rfl)))
 .have hl:=zgo hi hx hj
  rw[hl] at hF;exact h2 i hl hF
theorem zq9 {Z:Prop}[DecidableEq κ](hi:∀ a b,eK a=eK b->a=b){tk:TI}{d:D}{key:κ}{X:Prop}{Y:Nat->Prop}(hk:∀ a,keyD tk (eK a)=true)(hd:d=eK key)(he:es=encF eK eM l)(h0:zaA key l=some i)(h:Y i) :
  (∀ p,p∈es->keyD tk p.1=true)/\((((∀ p,p∈es->p.1≠d)->X)/\∀ i x,es[i]? = some (d,x)->(∀ j q,j<i->es[j]? = some q->q.1≠d)->Y i)∨Z):=by
 subst hd he;refine⟨zjI hk, .inl ⟨λ h' => ?_,λ i' x hx hj=>?_⟩⟩
 .obtain ⟨⟨x,hx⟩,_⟩:=zeG.1 h0
  exact absurd rfl (h' (eK key,eM x) (zyU (i:=i) (by rw[zbI,hx];rfl)))
 .have hl:=zgo hi hx hj
  rw[h0] at hl;cases hl;exact h
structure GetF (l:List (κ×σ))(i:Nat)(A:σ->Option ρ)(r:ρ):Prop where
 ex:∃ x,getF l i=some x/\A x=some r
theorem zln {A:σ->Option ρ}(hF:(getF l i).bind A=some r):GetF l i A r:=⟨bind_some hF⟩
theorem zhw {y:MC}{K:MC->Prop}(he:es=encF eK eM l)(hx:getF l i=some x)(hf:(eM x)[o]? = some y)(h:K y):∃ y,mcAt es i o=some y/\K y:=by
 subst he;obtain⟨k,hk⟩:=za2.1 hx;refine⟨y, ?_,h⟩;unfold mcAt;rw[zbI,hk];exact hf
theorem zr {t:Option Nat}{X:Prop}{Y:Nat->Prop}{A:Option ρ}{B:Nat->Option ρ}(h1:t=none->A=some r->X)(h2:∀ j,t=some j->B j=some r->Y j)(hF:onO t A B=some r):(t=none->X)/\∀ j,t=some j->Y j:=by
 refine⟨λ h=>h1 h (by rw[h] at hF;exact hF),λ j h=>h2 j h (by rw[h] at hF;exact hF)⟩
theorem zt {t:Option Nat}{j:Nat}{X:Prop}{Y:Nat->Prop}(h0:t=some j)(h:Y j):(t=none->X)/\∀ j,t=some j->Y j:=by
 subst h0;exact⟨λ h=>(by cases h),λ j h' => (by cases h';exact h)⟩
theorem zra {t:Option Nat}{X:Prop}{Y:Nat->Prop}(h0:t=none)(h:X):(t=none->X)/\∀ j,t=some j->Y j:=by
 subst h0;exact⟨λ _=>h,λ j h' => (by cases h')⟩
theorem zeH {y:MC}{x':σ}(hx:getF l i=some x)(hm:eM x'=(eM x).set o y):za0 (encF eK eM l) i o y=encF eK eM (setF l i x'):=by
 obtain⟨k,hk⟩:=za2.1 hx;apply List.ext_getElem?;intro j;simp only[za0,setF,encF,List.getElem?_map,List.getElem?_modify];by_cases h:i=j
 .subst h;simp[hk,hm]
 .simp only[h,if_false];cases l[j]? <;> rfl
theorem zta {ys:List MC}{x':σ}{p:D×List MC}(hp:(encF eK eM l)[i]? = some p)(hm:eM x'=ys):(encF eK eM l).set i (p.1,ys)=encF eK eM (setF l i x'):=by
 rw[zbI] at hp
 cases hk:l[i]? with
 | none=>rw[hk] at hp;cases hp
 | some q =>
  rw[hk] at hp
  cases hp
  apply List.ext_getElem?;intro j;simp only[setF,encF,List.getElem?_map,List.getElem?_modify,List.getElem?_set];by_cases h:i=j
  .subst h
   have hi:i<l.length:=(zyR.1 hk).1;simp[hi,<- hm];rw[zyS hi] at hk;have:=Option.some.inj hk;simp[this]
  .simp only[h,if_false];cases l[j]? <;> rfl
theorem zlo {y:MC}{x':σ}{K:List (D×List MC)->Prop}{A:List (κ×σ)->Option ρ}(hF:(some (setF l i x')).bind A=some r)(hx:getF l i=some x)(he:es=encF eK eM l)(hm:eM x'=(eM x).set o y)
  (h:∀ q,getF q i=some x'->A q=some r->K (encF eK eM q)):∃ q,q=za0 es i o y/\K q:=by
 subst he;exact⟨_,rfl,by rw[zeH hx hm];exact h _ (zek hx) hF⟩
theorem zmU {K:D×List MC->Prop}(he:es=encF eK eM l)(hx:getF l i=some x)(h:∀ d,(encF eK eM l)[i]? = some (d,eM x)->K (d,eM x)):∃ p,es[i]? = some p/\K p:=by
 subst he;obtain⟨k,hk⟩:=za2.1 hx
 have hp:(encF eK eM l)[i]? = some (eK k,eM x):=by rw[zbI,hk];rfl
 exact⟨_,hp,h _ hp⟩
theorem zrb {d:D}{ys:List MC}{x':σ}{K:List (D×List MC)->Prop}{A:List (κ×σ)->Option ρ}(hF:(some (setF l i x')).bind A=some r)(hp:(encF eK eM l)[i]? = some (d,eM x))(hx:getF l i=some x)(he:es=encF eK eM l)(hm:eM x'=ys)
  (h:∀ q,getF q i=some x'->A q=some r->K (encF eK eM q)):∃ q,q=es.set i (d,ys)/\K q:=by
 subst he;exact⟨_,rfl,by rw[zta hp hm];exact h _ (zek hx) hF⟩
theorem zpw {K:D×List MC->Prop}(he:es=encF eK eM l)(hx:getF l i=some x)(h:∀ k,K (k,eM x)):∃ p,es[i]? = some p/\K p:=by
 subst he;obtain⟨k,hk⟩:=za2.1 hx;exact⟨_,by rw[zbI,hk];rfl,h _⟩
theorem zlp {A:Nat->Option ρ}{K:Nat->Prop}(he:es=encF eK eM l)(h:∀ x,A x=some r->K x)(hF:(lenM l).bind A=some r):es.length<=maxLen/\∃ n:Nat,n=es.length/\K n:=by
 subst he;obtain⟨x,hx,hA⟩:=bind_some hF
 have e:(encF eK eM l).length=l.length:=by simp[encF]
 unfold lenM at hx
 split at hx
 .cases hx;exact⟨by rw[e];assumption,_,e.symm,h _ hA⟩
 .cases hx
structure InsF [DecidableEq κ](k:κ)(x:σ)(l:List (κ×σ))(A:List (κ×σ)->Option ρ)(r:ρ):Prop where
 no:zaA k l=none
 go:A (l++[(k,x)])=some r
theorem zlq [DecidableEq κ]{k:κ}{A:List (κ×σ)->Option ρ}(hF:(insF k x l).bind A=some r):InsF k x l A r:=by
 obtain⟨q,hq,hA⟩:=bind_some hF;unfold insF at hq
 split at hq
 .cases hq;exact⟨by assumption,hA⟩
 .cases hq
theorem zlr [DecidableEq κ]{k:κ}{tk:TI}{d:D}{n:Nat}{A:List (κ×σ)->Option ρ}{K:List MC->Prop}(hF:InsF k x l A r)(hi:∀ a b,eK a=eK b->a=b)(hk:∀ a,keyD tk (eK a)=true)(hd:d=eK k)(he:es=encF eK eM l)(sh:List MC)(hs:sh.length=n)(h:K sh) :
  ((∀ p,p∈es->keyD tk p.1=true)/\∀ p,p∈es->p.1≠d)/\∃ y:List MC,y.length=n/\K y:=by
 subst hd he;exact⟨⟨zjI hk,zq8 hi hF.no⟩,sh,hs,h⟩
theorem zrc [DecidableEq κ]{k:κ}{d:D}{cs:List MC}{A:List (κ×σ)->Option ρ}{K:List (D×List MC)->Prop}(hF:InsF k x l A r)(hd:d=eK k)(he:es=encF eK eM l)(hc:cs=eM x)(h:∀ q,getF q l.length=some x->A q=some r->K (encF eK eM q)):∃ q,q=es++[(d,cs)]/\K q:=by
 subst hd he hc;refine⟨_,rfl, ?_⟩
 have:encF eK eM l++[(eK k,eM x)]=encF eK eM (l++[(k,x)]):=by simp[encF]
 rw[this];exact h _ (za2.2 ⟨k,by simp⟩) hF.go
theorem zcX {A:Unit->Option ρ}(hF:(some ()).bind A=some r):A ()=some r:=hF
theorem zpx {z:Nat}{t:List (Nat×Nat×Nat)}:zaL ((i,o,z)::t) i o=some z:=by simp[zaL]
theorem zav:¬ zcD [] i o:=by rintro⟨z,h⟩;cases h
theorem zbl {i' o' z:Nat}{t:List (Nat×Nat×Nat)}(h:o'≠o)(ht:¬ zcD t i o):¬ zcD ((i',o',z)::t) i o:=by
 rintro⟨z',h'⟩
 rcases List.mem_cons.1 h' with h'|h'
 .cases h';exact h rfl
 .exact ht ⟨z',h'⟩
theorem ztb {δ:α->D}{L:List α}{outs:List (Nat×Nat×Nat)}{K:Nat->Prop}(ho:¬ zcD outs i o)(h:K L.length):¬ zcD outs i o/\∃ n:Nat,n=(L.map δ).length/\K n:=⟨ho,L.length,by simp,h⟩
theorem zrd {z:Nat}{t:List (Nat×Nat×Nat)}:(((i,o,z)::t).filter λ x=>!(Nat.beq x.1 i&&Nat.beq x.2.1 o))=t.filter λ x=>!(Nat.beq x.1 i&&Nat.beq x.2.1 o):=by simp
theorem zn1:(([]:List (Nat×Nat×Nat)).filter λ x=>!(Nat.beq x.1 i&&Nat.beq x.2.1 o))=[]:=rfl
theorem zre {δ:α->D}{L:List α}{n:Nat}{y:MC}{x':σ}{outs t:List (Nat×Nat×Nat)}{K:List (D×List MC)->List (Nat×Nat×Nat)->Prop}{A:List (κ×σ)->Option ρ}(hF:(some (setF l i x')).bind A=some r)(hx:getF l i=some x)(he:es=encF eK eM l)
  (hn:n=L.length) (hm:eM x'=(eM x).set o y) (ht:(outs.filter λ x=>!(Nat.beq x.1 i&&Nat.beq x.2.1 o))=t) (h:∀ q,getF q i=some x'->A q=some r->K (encF eK eM q) t) :
  n=(L.map δ).length/\∃ q,q=za0 es i o y/\∃ t,t=(outs.filter λ x=>!(Nat.beq x.1 i&&Nat.beq x.2.1 o))/\K q t:=by
 subst he;exact⟨by simpa using hn,_,rfl,t,ht.symm,by rw[zeH hx hm];exact h _ (zek hx) hF⟩
variable {m:Nat->Blk} {k z:Nat} {ks:List Nat} {t:List (Nat×Nat×Nat)}
theorem ztc {δ:α->D}{L:List α}{e:TypeId}{s:Nat}(hm:m k = .fam ks (encF eK eM l) ((i,o,z)::t))(hz:m z = .row e s (L.map δ))(hzk:Nat.beq z k=false)(hno:¬ zcD t i o)(hx:getF l i=some x)(hf:(eM x)[o]? = some (.r e s (L.map δ))):zcj k z m ks (encF eK eM l) t:=by
 obtain⟨key,hk⟩:=za2.1 hx
 have hat:mcAt (encF eK eM l) i o=some (.r e s (L.map δ)):=by unfold mcAt;rw[zbI,hk];exact hf
 refine⟨_,_,i,o,hm,rfl,hno,(λ e=>by rw[e,Nat.beq_refl] at hzk;cases hzk), .inl ⟨e,s,_,_,hz,hat,rfl, ?_⟩⟩;rw[zeH hx (x':=x)]
 .apply List.ext_getElem?
  intro j;simp only[encF,setF,List.getElem?_map,List.getElem?_modify];by_cases h:i=j
  .subst h;simp[hk]
  .simp only[h,if_false];cases l[j]? <;> rfl
 .apply List.ext_getElem?
  intro j;rw[List.getElem?_set];by_cases h:o=j
  .subst h;rw[if_pos rfl,if_pos (zyR.1 hf).1,hf]
  .rw [if_neg h]
theorem settleR {δ:α->D}{L L':List α}{x':σ}{e:TypeId}{s:Nat}(hm:m k = .fam ks (encF eK eM l) ((i,o,z)::t))(hz:m z = .row e s (L'.map δ))(hzk:Nat.beq z k=false)(hno:¬ zcD t i o)(hx:getF l i=some x)(hf:(eM x)[o]? = some (.r e s (L.map δ)))(hl:L'.length=L.length)(hm':eM x'=(eM x).set o (.r e s (L'.map δ))) :
  zcj k z m ks (encF eK eM (setF l i x')) t:=by
 obtain⟨key,hk⟩:=za2.1 hx
 have hat:mcAt (encF eK eM l) i o=some (.r e s (L.map δ)):=by unfold mcAt;rw[zbI,hk];exact hf
 exact⟨_,_,i,o,hm,rfl,hno,(λ e=>by rw[e,Nat.beq_refl] at hzk;cases hzk), .inl ⟨e,s,_,_,hz,hat,by simpa using hl,by rw[zeH hx hm']⟩⟩
theorem ztd {es:List (D×D)}(hm:m k = .fam ks (encF eK eM l) ((i,o,z)::t))(hz:m z = .mp es)(hzk:Nat.beq z k=false)(hno:¬ zcD t i o)(hx:getF l i=some x)(hf:(eM x)[o]? = some (.m es)):zcj k z m ks (encF eK eM l) t:=by
 obtain⟨key,hk⟩:=za2.1 hx
 have hat:mcAt (encF eK eM l) i o=some (.m es):=by unfold mcAt;rw[zbI,hk];exact hf
 refine⟨_,_,i,o,hm,rfl,hno,(λ e=>by rw[e,Nat.beq_refl] at hzk;cases hzk), .inr ⟨es,es,hz,hat, ?_⟩⟩;rw[zeH hx (x':=x)]
 .apply List.ext_getElem?
  intro j;simp only[encF,setF,List.getElem?_map,List.getElem?_modify];by_cases h:i=j
  .subst h;simp[hk]
  .simp only[h,if_false];cases l[j]? <;> rfl
 .apply List.ext_getElem?
  intro j;rw[List.getElem?_set];by_cases h:o=j
  .subst h;rw[if_pos rfl,if_pos (zyR.1 hf).1,hf]
  .rw [if_neg h]
theorem settleM {es es':List (D×D)}{x':σ}(hm:m k = .fam ks (encF eK eM l) ((i,o,z)::t))(hz:m z = .mp es')(hzk:Nat.beq z k=false)(hno:¬ zcD t i o)(hx:getF l i=some x)(hf:(eM x)[o]? = some (.m es))(hm':eM x'=(eM x).set o (.m es')) :
  zcj k z m ks (encF eK eM (setF l i x')) t:=by
 obtain⟨key,hk⟩:=za2.1 hx
 have hat:mcAt (encF eK eM l) i o=some (.m es):=by unfold mcAt;rw[zbI,hk];exact hf
 exact⟨_,_,i,o,hm,rfl,hno,(λ e=>by rw[e,Nat.beq_refl] at hzk;cases hzk), .inr ⟨_,_,hz,hat,by rw[zeH hx hm']⟩⟩
theorem gZ {c:Ctx}{ops:List Oper}{K':St->Prop}{id:Nat}{st:St}(k z:Nat)(hm:st.m k = .fam ks es ((i,o,z)::t))(h:zam c ops K' [] id st):zam c ops K' [] id st:=h
theorem zgO {δ:α->D}{L L':List α}{x':σ}{e:TypeId}{s:Nat}{c:Ctx}{ops:List Oper}{K':St->Prop}{id:Nat}{st:St}{A:List (κ×σ)->Option ρ}(k z:Nat)(hF:(some (setF l i x')).bind A=some r)(hm:st.m k = .fam ks (encF eK eM l) ((i,o,z)::t))(hz:st.m z = .row e s (L'.map δ))(hzk:Nat.beq z k=false)(hno:¬ zcD t i o)
  (hx:getF l i=some x) (hf:(eM x)[o]? = some (.r e s (L.map δ))) (hl:L'.length=L.length) (hm':eM x'=(eM x).set o (.r e s (L'.map δ))) (h:∀ q,getF q i=some x'->A q=some r->K' (st.settledF k z ks (encF eK eM q) t)):zam c ops K' [] id st :=
 zgG k z (settleR hm hz hzk hno hx hf hl hm') (h _ (zek hx) hF)
theorem zel {δ:α->D}{L:List α}{e:TypeId}{s:Nat}{c:Ctx}{ops:List Oper}{K':St->Prop}{id:Nat}{st:St}(k z:Nat)(hm:st.m k = .fam ks (encF eK eM l) ((i,o,z)::t))(hz:st.m z = .row e s (L.map δ))(hzk:Nat.beq z k=false)(hno:¬ zcD t i o)
  (hx:getF l i=some x) (hf:(eM x)[o]? = some (.r e s (L.map δ))) (h:K' (st.settledF k z ks (encF eK eM l) t)):zam c ops K' [] id st :=
 zgG k z (ztc hm hz hzk hno hx hf) h
theorem zn2 {es es':List (D×D)}{x':σ}{c:Ctx}{ops:List Oper}{K':St->Prop}{id:Nat}{st:St}{A:List (κ×σ)->Option ρ}(k z:Nat)(hF:(some (setF l i x')).bind A=some r)(hm:st.m k = .fam ks (encF eK eM l) ((i,o,z)::t))(hz:st.m z = .mp es')(hzk:Nat.beq z k=false)(hno:¬ zcD t i o)
  (hx:getF l i=some x) (hf:(eM x)[o]? = some (.m es)) (hm':eM x'=(eM x).set o (.m es')) (h:∀ q,getF q i=some x'->A q=some r->K' (st.settledF k z ks (encF eK eM q) t)):zam c ops K' [] id st :=
 zgG k z (settleM hm hz hzk hno hx hf hm') (h _ (zek hx) hF)
theorem zls {es:List (D×D)}{c:Ctx}{ops:List Oper}{K':St->Prop}{id:Nat}{st:St}(k z:Nat)(hm:st.m k = .fam ks (encF eK eM l) ((i,o,z)::t))(hz:st.m z = .mp es)(hzk:Nat.beq z k=false)(hno:¬ zcD t i o)
  (hx:getF l i=some x) (hf:(eM x)[o]? = some (.m es)) (h:K' (st.settledF k z ks (encF eK eM l) t)):zam c ops K' [] id st :=
 zgG k z (ztd hm hz hzk hno hx hf) h
end
def neN {α:Type}(l:List α):Option Unit:=if l.length=0 then none else some ()
def strB (l:List Int):ByteArray:=⟨(l.map λ n=>UInt8.ofNat n.toNat).toArray⟩
section
variable {ρ α:Type} {r:ρ}
theorem zte {l:List α}{n:Nat}{A:Unit->Option ρ}{Q:Prop}(hn:n=l.length)(h:A ()=some r->Q)(hF:(neN l).bind A=some r):n≠0/\Q:=by
 obtain⟨x,hx,hA⟩:=bind_some hF;unfold neN at hx
 split at hx
 .cases hx
 .cases hx;exact⟨by rw[hn];assumption,h hA⟩
theorem ztf {l:List Int}{n:Int}{A:Unit->Option ρ}{Q:Prop}(hn:n=(l.length:Int))(h:A ()=some r->Q)(hF:(neN l).bind A=some r):(n=((l.map u8N).length:Int)/\l.map u8N≠[])/\Q:=by
 obtain⟨x,hx,hA⟩:=bind_some hF;unfold neN at hx
 split at hx
 .cases hx
 .rename_i hl
  cases hx
  refine⟨⟨by simpa using hn,λ h0=>hl ?_⟩,h hA⟩;have h1:=congrArg List.length h0;simpa using h1
theorem zrf {l:List Int}{A:ByteArray->Option ρ}{K:List UInt8->Prop}{K':ByteArray->Prop}(hK:∀ q,K' ⟨q.toArray⟩->K q)(h:∀ x,A x=some r->K' x)(hF:(some (strB l)).bind A=some r):∃ q,zci (l.map u8N)=some q/\K q :=
 ⟨_,zcU l,hK _ (h _ hF)⟩
theorem zpy {l:List Int}{A:ByteArray->Option ρ}{K:List UInt8->Prop}(h:∀ x:ByteArray,A x=some r->K x.data.toList)(hF:(some (strB l)).bind A=some r):∃ q,zci (l.map u8N)=some q/\K q :=
 ⟨_,zcU l,h _ hF⟩
theorem ztg {ti:TI}{id:Nat}{B:Prop}{e:Nat->SV}{m:Nat->Blk}{l:List Loc}{K:Dl->List Loc->Prop}(hs:Nat.ble ti.size 8=true)
  (h:(bif (ti.zero.map SV.ofV1).all SV.one then boxed (.ptr id 0) id (ti.zero.map SV.ofV1) else Pg.fail) e m l K):((bif Nat.ble ti.size 8 then (bif (ti.zero.map SV.ofV1).all SV.one then boxed (.ptr id 0) id (ti.zero.map SV.ofV1) else Pg.fail) else Pg.fail) e m l K)∨B:=by
 rw[hs];exact .inl h
theorem zrg [DecidableEq ρ]{l:List α}{n:Nat}{a b:Option ρ}{P Q:Prop}(hn:n=l.length)(h1:l=[]->a=some r->P)(h2:b=some r->Q)(hF:demB l a b=some r):(n=0->P)/\Q:=by
 unfold demB at hF
 split at hF
 .rename_i hl
  split at hF
  .rename_i hab
   exact⟨λ _=>h1 (by simpa using hl) (hab.trans hF),h2 hF⟩
  .cases hF
 .rename_i hl
  exact⟨λ h=>absurd (List.eq_nil_of_length_eq_zero (hn ▸ h)) (by simpa using hl),h2 hF⟩
theorem zmV {a b:ByteArray}{A:ByteArray->Option ρ}(hF:(addS a b).bind A=some r):True:=trivial
theorem zlt {a:ByteArray}{A:List Int->Option ρ}(hF:(some (zd4 a)).bind A=some r):True:=trivial
theorem zvF {a:List Int}{A:ByteArray->Option ρ}(hF:(some (strB a)).bind A=some r):True:=trivial
theorem zth {a:List Int}{A:ByteArray->Option ρ}(hF:(zjC a).bind A=some r):True:=trivial
theorem zuB {a:List α}{A:Unit->Option ρ}(hF:(neN a).bind A=some r):True:=trivial
theorem zmW {a:ByteArray}{i:Int}{A:Int->Option ρ}(hF:(idxS a i).bind A=some r):True:=trivial
theorem zrh {a:ByteArray}{i j:Int}{A:ByteArray->Option ρ}(hF:(subS a i j).bind A=some r):True:=trivial
def arS (n:Nat)(b:Int):Option Unit:=if 0<=b/\b<=n then some () else none
theorem zwP {n:Nat}{i:Int}{A:Unit->Option ρ}(hF:(arS n i).bind A=some r):True:=trivial
theorem zti {n:Nat}{b:Int}{A:Unit->Option ρ}{Q:Prop}(hm:n<=maxLen)(h:A ()=some r->Q)(hF:(arS n b).bind A=some r):(0<=b/\b<=n/\n<=maxLen)/\Q:=by
 obtain⟨x,hx,hA⟩:=bind_some hF;unfold arS at hx
 split at hx
 .rename_i h1;cases hx;exact⟨⟨h1.1,h1.2,hm⟩,h hA⟩
 .cases hx
end
def memK (i:Nat):List (Nat×Blk)->Bool
 | []=>false
 | x::r=>bif Nat.beq x.1 i then true else memK i r
def nubK:List (Nat×Blk)->List (Nat×Blk)->(List (Nat×Blk)->Prop)->Prop
 | [],acc,k=>k acc
 | x::r,acc,k=>bif memK x.1 acc then nubK r acc k else nubK r (x::acc) k
theorem zn3 {j:Nat}:∀ {l:List (Nat×Blk)},memK j l=false->get Blk.unborn l j = .unborn
 | [],_=>rfl
 | (i,b)::r,h=>by
  simp only[memK] at h;simp only[get]
  cases hb:Nat.beq i j with
  | true=>rw[hb] at h;cases h
  | false=>rw[hb] at h;exact zn3 h
theorem zmX:∀ (r acc:List (Nat×Blk)) (k:List (Nat×Blk)->Prop),nubK r acc k->∃ S,k S/\∀ j,get Blk.unborn S j=bif memK j acc then get Blk.unborn acc j else get Blk.unborn r j
 | [],acc,k,h=>⟨acc,h,λ j=>by
  cases hm:memK j acc with
  | true=>rfl
  | false=>rw[zn3 hm];rfl⟩
 | (i,b)::r,acc,k,h=>by
  simp only[nubK] at h
  cases hm:memK i acc with
  | true =>
   rw[hm,cond_true] at h;obtain⟨S,h1,h2⟩:=zmX r acc k h;refine⟨S,h1,λ j=>?_⟩;rw[h2]
   cases hj:memK j acc with
   | true=>rfl
   | false =>
    simp only[cond_false,get]
    cases hb:Nat.beq i j with
    | false=>rfl
    | true=>rw[zyT hb,hj] at hm;cases hm
  | false =>
   rw[hm,cond_false] at h;obtain⟨S,h1,h2⟩:=zmX r ((i,b)::acc) k h;refine⟨S,h1,λ j=>?_⟩;rw[h2];simp only[memK,get]
   cases hb:Nat.beq i j with
   | true =>
    rw[<- zyT hb,hm];rfl
   | false=>rfl
theorem zas {c:Ctx}{fn:Func}{xs:List SV}{id:Nat}{env:List (Nat×SV)}{mem:List (Nat×Blk)}{l:List Loc}{K:Dl->List Loc->Prop}{code:Code}(id0 nid:Nat)(hi:id=id0)(hb:Nat.ble id0 nid=true)(h3:xs.length<=fn.ntmps)
  (hc:fn.body=some code) (h:∀ R:List (Nat×Blk)->Prop,(∀ S,(S.all λ x=>Nat.blt x.1 nid)=true->vc c nid nid code ⟨(List.range xs.length).zip xs,S⟩ (Kinl c fn.results.toList S K l)->R S)->nubK mem [] R) :
  ∃ (S:List (Nat×Blk)) (q nid:Nat),(∀ k,get .unborn S k=St.m ⟨env,mem⟩ k)/\(S.all λ x=>Nat.blt x.1 q)=true/\id<=q/\q<=nid/\xs.length<=fn.ntmps /\
   match fn.body with
   | some code=>vc c q nid code ⟨(List.range xs.length).zip xs,S⟩ (Kinl c fn.results.toList S K l)
   | none=>False:=by
 obtain⟨S,⟨h1,h2⟩,h4⟩:=zmX mem [] (λ S=>(S.all λ x=>Nat.blt x.1 nid)=true/\vc c nid nid code ⟨(List.range xs.length).zip xs,S⟩ (Kinl c fn.results.toList S K l)) (h _ λ S a b=>⟨a,b⟩);subst hi;exact⟨S,nid,nid,h4,h1,zyV hb,Nat.le_refl _,h3,by rw[hc];exact h2⟩
section
variable {α τ ρ γ:Type} {c:Ctx} {p nid:Nat} {a b:Code} {st:St} {K:Ex->St->Prop} {r:ρ} {g:γ->Option ρ}
variable {A1 A2 A3 A4 A5 A6 A7 A8 A9 A10 A11 A12 A13 A14 A15 A16 A17 A18 A19 A20 A21 A22 A23 A24 A25 A26 A27 A28 A29 A30 A31 A32 A33 A34 A35 A36 A37 A38 A39 A40:Type}
end
end Go.Vc
namespace Go.Vc
section
variable {α β γ ρ σ:Type}
theorem zbk {l:List α}{i:Nat}:ix l (i:Int)=l[i]? := by simp[ix]
theorem zri {l:List α}{i:Nat}(h:i<l.length):ix l (i:Int)=some l[i]:=by simp[zbk,h]
theorem zcC {i:Nat}(h:i<9223372036854775807):W ((i:Int)+(1:Int))=((i+1:Nat):Int):=by
 rw[W_of (by omega) (by omega)];rfl
theorem zjK {l:List α}{a b:Nat}(h:a<=b)(h':b<=l.length):sub l (a:Int) (b:Int)=some ((l.take b).drop a):=by
 unfold sub;rw[if_pos ⟨by omega,by omega,by omega⟩];simp
theorem zeQ {s:Nat}{l xs:List α}(h:(l.length+xs.length)*s<=140737488355328)(h':l.length+xs.length<=1000000):app s l xs=some (l++xs):=by
 unfold app;rw[if_pos ⟨h,by simp[maxLen];omega⟩]
theorem zlu [DecidableEq γ]{l:List α}{a b:Option γ}(h:l=[]->a=b):demB l a b=b:=by
 unfold demB
 split
 .rename_i hl
  rw[if_pos (h (by simpa using hl))]
 .rfl
theorem zaR {b:Bool}{x y:α}:(bif b then x else y)=if b=true then x else y:=by cases b <;> rfl
theorem loopI {F:Nat->σ->Int->Option ρ}(len:Nat)(Inv:Nat->σ->Prop)(Post:ρ->Prop)
  (step:∀ n s (i:Nat),Inv i s->i<len->(∃ r,F (n+1) s (i:Int)=some r/\Post r) ∨ ∃ s',Inv (i+1) s'/\F (n+1) s (i:Int)=F n s' ((i+1:Nat):Int))
  (fin:∀ n s,Inv len s->∃ r,F (n+1) s (len:Int)=some r/\Post r):∀ (n:Nat) (s:σ) (i:Nat),Inv i s->i<=len->len-i<n->∃ r,F n s (i:Int)=some r/\Post r:=by
 intro n
 induction n with
 | zero=>intro s i _ _ h;omega
 | succ n ih =>
  intro s i hi hl hn;by_cases he:i=len
  .subst he;exact fin n s hi
  .rcases step n s i hi (by omega) with h|⟨s',h1,h2⟩
   .exact h
   .rw [h2];exact ih s' (i+1) h1 (by omega) (by omega)
end
end Go.Vc
namespace Go.Vc
section
variable {α:Type}
theorem ztj {e:Ty}{agg:Bool}{n:Nat}{d:α->D}{p:α->Prop}(hE:∀ cs,e.has cs->∃ x:α,(bif agg then D.agg cs else cs.headD (.tup []))=d x/\p x){ds:List D}(h:(Ty.slice e agg n).has ds) :
  ∃ l:List α,ds=[.sl n (l.map d)]/\l.length<=maxLen/\∀ x,x∈l->p x:=by
 simp only[Ty.has] at h;obtain⟨es,rfl,hl,h⟩:=h
 have:∃ l:List α,(es.map λ cs=>bif agg then D.agg cs else cs.headD (.tup []))=l.map d/\l.length=es.length/\∀ x,x∈l->p x:=by
  clear hl
  induction es with
  | nil=>exact⟨[],rfl,rfl,λ x hx=>by cases hx⟩
  | cons cs r ih =>
   obtain⟨x,hx,px⟩:=hE cs (h cs (by simp));obtain⟨l,h1,h2,h3⟩:=ih λ cs hcs=>h cs (by simp[hcs]);refine⟨x::l,by simp only[List.map_cons,hx,h1],by simp[h2],λ y hy=>?_⟩
   rcases List.mem_cons.1 hy with rfl|hy
   .exact px
   .exact h3 y hy
 obtain⟨l,h1,h2,h3⟩:=this;exact⟨l,by rw[h1],by omega,h3⟩
end
end Go.Vc

/-
  A library for proofs about Go functions by symbolic evaluation,and plain Lean functions that the walked Go functions compute (written by a program of this claim).
-/
import Derived.Test.YtijmkjnlgcockaaGreatDoorVc1
import Derived.Laws.Strings
import Derived.Laws.Concat
import Derived.WalkSpells
import Derived.DeepKeys
import Derived.Laws.IdiomStrings
import Derived.Laws.RangeAny
import Derived.Laws.BytesArg
import Derived.Laws.MakeOwn
import Derived.Maps.RangeRun
import Derived.Lib.AppendZeros
set_option linter.unusedVariables false
set_option linter.unnecessarySimpa false
set_option linter.unusedSimpArgs false
namespace Go.Vc
open Go.RowKit
section
variable {P:Program} {fr:Fr} {nt:Nat} {g:Gh} {e:Nat->SV} {m:Nat->Blk} {a:Act} {w:World} {T:Tree (Option TI)} {c:Ctx}
variable {o:Oper} {K:Dl->List Loc->Prop} {Q:Exit->Act->World->Prop} {l:List Loc}
theorem SR.extH {w':World}{hole:Nat->Prop}(h:SR fr nt g e m a w)(hos:w'.os=w.os)(ht:w'.tape=w.tape)(hout:w'.output=w.output)(hsz:w.heap.size<=w'.heap.size)
  (hold:∀ b,b<w.heap.size->¬ hole b->w'.heap[b]? = w.heap[b]?) (h1:∀ k,zab g m k->¬ hole (g.β k)/\∀ b,g.X k b->¬ hole b) (h2:∀ b,hole b->¬ g.F b/\¬ fr.Kp b):SR fr nt g e m a w':=by
 have hF:∀ b,g.F b->w'.heap[b]? = w.heap[b]? := λ b hb=>hold b (h.mem.lt b hb) λ hh=>(h2 b hh).1 hb
 have hm:MRel g m w':=by
  refine⟨λ k=>?_,h.mem.inj,h.mem.hot,λ b hb=>Nat.lt_of_lt_of_le (h.mem.lt b hb) hsz,λ k b hk hx=>?_⟩
  rotate_left
  .obtain ⟨x1,x2,x3,x4⟩:=h.mem.own k b hk hx
   grind
  have hb:=h.mem.blk k
  have al:zab g m k->BlkRel g w' k (m k):=λ hk =>
   hb.mono (λ _ h=>h) hF ⟨rfl,rfl,rfl,List.prefix_rfl⟩ (hold _ (zbH h.mem hk) (h1 k hk).1) (λ _ _=>⟨rfl,rfl,rfl,List.prefix_rfl⟩) λ b hx=>⟨hx,hold b (h.mem.own k b hk hx).1 ((h1 k hk).2 b hx)⟩
  cases hmk:m k with
  | unborn=>trivial
  | dead=>trivial
  | box lc=>grind [zab]
  | arr lc=>grind [zab]
  | mp es=>grind [zab]
  | sit s p=>grind [zab]
  | sn t s ea o es =>
   rw[hmk] at hb
   rcases hb with hb|⟨cur,I,hb⟩
   .exact .inl hb
   grind [SnAt.nn,zab]
  | fam ks es o=>grind [zab]
  | row t s es =>
   rw[hmk] at hb
   rcases hb with hb|hb
   .exact .inl hb
   grind [zab]
  | fz t s es =>
   rw[hmk] at hb
   rcases hb with hb|⟨b1,b2,b3⟩
   .exact .inl hb
   .exact .inr ⟨b1,b2,b3.mono (λ _ h=>h) hF (hF _ b2)⟩
 refine { h with mem:=hm,env:=λ t=>?_,os:=hos.trans h.os,tape:=ht.trans h.tape,output:=hout.trans h.output,size:=Nat.le_trans h.size hsz,keep:=λ b hb=>?_ }
 .rcases h.env t with h'|⟨v,h1,h2⟩
  .exact .inl h'
  .exact .inr ⟨v,h1,h2.mono (λ _ h=>h) hF λ _ _=>⟨rfl,rfl,rfl,List.prefix_rfl⟩⟩
 .obtain ⟨h3,h4⟩:=h.keep b hb
  grind
def zcv (w:World)(e:TypeId)(size:Nat)(v:Value)(n:Nat)(xs:List Value):Prop :=
  xs.length=n*size /\
  ((v = .slice none 0 0/\n=0) ∨
   ∃ g off cap cur,v = .slice (some ⟨g,off,none⟩) n cap/\(∃ z,w.heap[g]? = some (.cells cur e z)/\Free z cur.size)/\n<=cap/\cap<=maxLen/\off+cap*size<=cur.size/\(cur.toList.drop off).take (n*size)=xs)
theorem zcL (w:World)(e:TypeId)(size:Nat):zcv w e size (.slice none 0 0) 0 []:=⟨by simp, .inl ⟨rfl,rfl⟩⟩
theorem zhz (t ty e:TypeId)(i:TypeInfo)(ht:P.underlying t=some (.slice e))(hi:P.info? e=some i)
  (g off sLen sCap:Nat) (cur:Array Value) {z:Nat×Nat} (hg:w.heap[g]? = some (.cells cur e z)) (hz:Free z cur.size)
  (a:Addr) (m c:Nat) (news:List Value) (hl:news.length=m*i.size) (hnews:∀ j u,news[j]? = some u->w.cell? (a.add j)=some u) (h1:∀ u∈news,u.oneCell'=true)
  (hroom:sLen+m<=sCap) (hfit:off+sLen*i.size+news.length<=cur.size) :
  (Builtin.append_ #[t,t] ty #[.slice (some ⟨g,off,none⟩) sLen sCap, .slice (some a) m c]).run P w =
   .ok (.slice (some ⟨g,off,none⟩) (sLen+m) sCap) (w.setRow g (cur.toList.take (off+sLen*i.size)++news++cur.toList.drop (off+sLen*i.size+news.length)).toArray):=by
 have hf:=run_firstCells_some (P:=P) w i.size m a m c news hl hnews;have hst:=zcd P g (off+sLen*i.size) e z news 0 cur w hg hz (by simpa using hfit) h1;simp only[Nat.add_zero] at hst;simp[Builtin.append_,run_underlying ht,sizeOf,typeInfo,hi,Builtin.lenOf,hroom,hf,Addr.add_lit,hst]
theorem zfx (t ty e:TypeId)(i:TypeInfo)(z:Value)(size bytes:Nat)(ht:P.underlying t=some (.slice e))(hi:P.info? e=some i)(hz:i.zero=some z)
  (hsize:i.size=size) (hby:i.bytes=bytes) (hzs:z.cells.size=size) (hsz:0<size)
  (v:Value) (n:Nat) (xs:List Value) (hown:zcv w e size v n xs)
  (a:Addr) (m c:Nat) (news:List Value) (hl:news.length=m*size) (hnews:∀ j u,news[j]? = some u->w.cell? (a.add j)=some u) (h1:∀ u∈news,u.oneCell'=true)
  (h63:n+m<=maxLen) (hbytes:(n+m)*bytes<=140737488355328) :
  ∃ v' w',(Builtin.append_ #[t,t] ty #[v, .slice (some a) m c]).run P w = .ok v' w'/\zcv w' e size v' (n+m) (xs++news)/\w.grownBy w' v.ownBlock /\
   (v'.ownBlock=v.ownBlock∨v'.ownBlock=some w.heap.size):=by
 rcases hown.2 with ⟨rfl,rfl⟩|⟨g,off,cap,cur,rfl,⟨zz,hg,hzz⟩,hnc,hcm,hcs,htake⟩
 .obtain rfl:xs=[]:=List.eq_nil_of_length_eq_zero (by simpa using hown.1)
  obtain⟨v',w',r1,r2,r3,_,r5⟩:=run_append_own_at (P:=P) w 0 t ty e i z size bytes ht hi hz hsize hby hzs hsz _ 0 [] (World.ownsRow_nil w 0 e size) a m c news hl hnews h1 h63 hbytes (Nat.zero_le _);refine⟨v',w',r1,⟨r2.1, ?_⟩,r3,r5⟩
  rcases r2.2 with h|⟨g,cap,cur,h1,_,h2,h3,h4,h5,h6⟩
  .exact .inl h
  .exact .inr ⟨g,0,cap,cur,h1,⟨_,h2, .inl rfl⟩,h3,h4,by omega,by simpa using h6⟩
 .subst hsize
  subst hby
  have hsmall:n+m<=9223372036854775807:=by grind [Go.maxLen]
  have hlen:(xs++news).length=(n+m)*i.size:=by rw[List.length_append,hown.1,hl,Nat.add_mul]
  by_cases hroom:n+m<=cap
  .have hle:(n+m)*i.size<=cap*i.size:=Nat.mul_le_mul_right _ hroom
   have hfit:off+n*i.size+news.length<=cur.size:=by grind
   have hr:=zhz (P:=P) (w:=w) t ty e i ht hi g off n cap cur hg hzz a m c news hl hnews h1 hroom hfit;refine⟨_,_,hr,⟨hlen, .inr ⟨g,off,cap,_,rfl,⟨zz,setRow_heap w g cur _ e _ hg,by have hsz:(cur.toList.take (off+n*i.size)++news++cur.toList.drop (off+n*i.size+news.length)).length=cur.size:=by { simp only[List.length_append,List.length_take,List.length_drop,Array.length_toList];omega };grind⟩,hroom,hcm, ?_, ?_⟩⟩,⟨rfl,rfl,rfl,by simp,λ k _ hk=>setRow_other w g k _ (λ e=>hk (by simp[Value.ownBlock,e]))⟩,Or.inl rfl⟩
   .grind
   grind
  .have holds:∀ j u,xs[j]? = some u->w.cell? ((⟨g,off,none⟩:Addr).add j)=some u:=by grind [zbq,Go.cell_of_row]
   have hr:=run_append_grow (P:=P) w t ty e i z ht hi hz ⟨g,off,none⟩ n cap xs hown.1 holds a m c news hl hnews (by omega) (by omega) (growslice_fits (by omega) hbytes);have hge:=grownCap_ge w (n+m) cap e;have hcm':grownCap w (n+m) cap e<=maxLen:=grownCap_le_maxLen w (n+m) cap e h63;refine⟨_,_,hr,⟨hlen, .inr ⟨w.heap.size,0,_,_,rfl,⟨_,heap_alloc_new w.drew _, .inl rfl⟩,hge,hcm', ?_, ?_⟩⟩,⟨rfl,rfl,rfl,by simp,λ k hk _=>by have:=(Ext.alloc w.drew (.cells (xs.toArray++news.toArray++Builtin.zeroCells z.cells (grownCap w (n+m) cap e-(n+m))) e)).old k hk;exact this⟩,Or.inr rfl⟩
   .simp only[Array.size_append,List.size_toArray,size_zeroCells,hzs,hown.1,hl,<- Nat.add_mul,Nat.zero_add]
    grind
   grind
theorem zd5 (t ty el:TypeId)(i:TypeInfo)(size:Nat)(ht:P.underlying t=some (.slice el))(hi:P.info? el=some i)
  (v:Value) (n:Nat) (xs:List Value) (hown:zcv w el size v n xs) (c:Nat):(Builtin.append_ #[t,t] ty #[v, .slice none 0 c]).run P w = .ok v w:=by
 rcases hown.2 with ⟨rfl,rfl⟩|⟨g,off,cap,cur,rfl,_,hnc,_⟩
 .simp [Builtin.append_,run_underlying ht,sizeOf,typeInfo,hi,Builtin.lenOf,Builtin.firstCells]
 .simp [Builtin.append_,run_underlying ht,sizeOf,typeInfo,hi,Builtin.lenOf,Builtin.firstCells,hnc,storeCells]
structure Src (g:Gh)(w:World)(v:Value)(s:Nat)(ns:List D):Prop where
 ex:∃ (A:Option Addr) (c:Nat) (news:List Value),v = .slice A ns.length c/\(A=none->ns.length=0)/\news.length=ns.length*s/\(∀ ad,A=some ad->∀ (j:Nat) u,news[j]? = some u->w.cell? (ad.add j)=some u) /\
  (∀ u,u∈news->u.oneCell'=true)/\∀ (i j:Nat) el d,ns[i]? = some el->el.cells[j]? = some d->∃ u,news[i*s+j]? = some u/\Rd g.F w u d
 len:∀ el,el∈ns->el.cells.length=s
theorem zhe {b off cap s:Nat}{ns:List D}(hs:1<=s)(hlen:∀ el,el∈ns->el.cells.length=s)
  (h:∀ (i j:Nat) el d,ns[i]? = some el->el.cells[j]? = some d->∃ u,w.cell? ⟨b,off+(i*s+j),none⟩=some u/\u.oneCell'=true/\Rd g.F w u d) :
  Src g w (.slice (some ⟨b,off,none⟩) ns.length cap) s ns:=by
 have at_:∀ q,q<ns.length*s->∃ u,w.cell? ⟨b,off+q,none⟩=some u/\u.oneCell'=true:=by
  intro q hq;have hi:q / s<ns.length:=Nat.div_lt_of_lt_mul (by grind);have hj:q % s<s:=Nat.mod_lt _ hs;have hel:=zAn hi;have hl:=hlen _ (List.getElem_mem hi);have hd:=zAn (show q % s<(ns[q / s]).cells.length by omega);obtain⟨u,h1,h2,h3⟩:=h _ _ _ _ hel hd;rw[Nat.mul_comm,Nat.div_add_mod] at h1;exact⟨u,h1,h2⟩
 let f:Nat->Value:=λ q=>(w.cell? ⟨b,off+q,none⟩).getD undef
 have hf:∀ q,q<ns.length*s->w.cell? ⟨b,off+q,none⟩=some (f q)/\(f q).oneCell'=true:=by grind
 have get_:∀ (q:Nat) u,((List.range (ns.length*s)).map f)[q]? = some u->q<ns.length*s/\u=f q:=by grind
 refine⟨⟨_,cap,(List.range (ns.length*s)).map f,rfl,by simp,by simp,λ ad had j u hu=>?_,λ u hu=>?_,λ i j el d hel hd=>?_⟩,hlen⟩
 .grind [zbq]
 .grind
 .obtain ⟨u,h1,h2,h3⟩:=h i j el d hel hd
  have hi:i<ns.length:=(zAm.1 hel).1
  have hj:j<s:=by grind
  have hlt:i*s+j<ns.length*s:=by
   have:(i+1)*s<=ns.length*s:=Nat.mul_le_mul_right _ hi;rw[Nat.add_mul] at this;omega
  grind
theorem zkd {A:Option Addr}{cap s:Nat}:Src g w (.slice A 0 cap) s [] :=
 ⟨⟨A,cap,[],rfl,λ _=>rfl,by simp,by simp,by simp,by simp⟩,by simp⟩
theorem zxP {A:Option Addr}{n cap s:Nat}{ns:List D}(hs:1<=s)(h:Rd g.F w (.slice A n cap) (.sl s ns)):Src g w (.slice A n cap) s ns:=by
 cases h with
 | nil h=>exact zkd
 | @sl b off _ _ _ _ f h4 h5 h6 h7 h8 h9 h10 h11 =>
  grind [zhe,Nat.add_assoc]
theorem zh8 {v:Value}{x:SV}{s:Nat}{k:List D->Pg}(hs1:1<=s)(hs:SR fr nt g e m a w)(hx:DenO g w v x)(h:Pg.elems s x k e m l K):∃ ns l',Src g w v s ns/\k ns e m l' K:=by
 rcases hx with hx|hx
 .subst hx;exact h.elim
 cases hx with
 | dat hr =>
  cases hr with
  | @nil A' cap' s' hc=>replace h:=zaj h;grind [zkd]
  | sl f h4 h5 h6 h7 h8 h9 h10 h11 =>
   replace h:=zaj h;obtain⟨he,h⟩:=h;obtain rfl:=zAo he;exact⟨_,_,zxP hs1 (.sl f h4 h5 h6 h7 h8 h9 h10 h11),h⟩
  | _=>exact h.elim
 | nil=>exact⟨[],_,zkd,h⟩
 | @rs b n h1 h2 h3 =>
  simp only[Pg.elems,Pg.getB,zaq] at h;have hblk:=hs.mem.blk b
  have row:∀ {t:TypeId} {es:List D},g.N b=false->RowAt g.F w (g.β b) t s (g.C b) es->n<=es.length->Src g w (g.base b n) s (es.take n):=by
   intro t es hN hrow hn;obtain⟨cur,⟨_,r1,_⟩,r2,r3,r4,r5,r6⟩:=hrow
   have hl:(es.take n).length=n:=by simp;omega
   have:=zhe (g:=g) (w:=w) (b:=g.β b) (off:=co (g.C b)) (cap:=cc (g.C b)) (ns:=es.take n) hs1 (λ el hel=>r5 el (List.mem_of_mem_take hel)) λ i j el d hel hd=>by
    grind [Go.cell_of_row]
   rw[hl] at this;simpa [Gh.base,hN] using this
  have nl:∀ {es:List D},g.N b=true->es=[]->Src g w (g.base b n) s (es.take n):=by grind [zkd,Gh.base]
  cases hm:m b with
  | row t s' es =>
   rw[hm] at hblk h;replace h:=zaj h;obtain⟨he,hn,q,rfl,h⟩:=h;obtain rfl:=zAo he
   rcases hblk with ⟨hN,hes⟩|⟨hN,hrow⟩
   .grind
   grind
  | fz t s' es =>
   rw[hm] at hblk h;replace h:=zaj h;obtain⟨he,hn,q,rfl,h⟩:=h;obtain rfl:=zAo he
   rcases hblk with ⟨hN,hes⟩|⟨hN,_,hrow⟩
   .grind
   grind
  | _=>rw[hm] at h;exact h.elim
 | _=>exact h.elim
theorem zgo {id n es:Nat}{t:TypeId}{el:TypeId}{old ns:List D}{xs news:List Value}{v:Value}{wr:List (Nat×Blk)}(hs:SR fr nt g e m a w)(ho:∀ d,o.dst=some d->d<nt)
  (hid:fr.p<=id/\m id = .unborn) (hown:zcv w el es v n xs)
  (hold:∀ (i j:Nat) d dd,(old.take n)[i]? = some d->d.cells[j]? = some dd->∃ u,xs[i*es+j]? = some u/\u.oneCell'=true/\Rd g.F w u dd) (hnold:n<=old.length) (hlold:∀ d,d∈old->d.cells.length=es)
  (hnl:news.length=ns.length*es) (hn1:∀ u,u∈news->u.oneCell'=true) (hnr:∀ (i j:Nat) el d,ns[i]? = some el->el.cells[j]? = some d->∃ u,news[i*es+j]? = some u/\Rd g.F w u d) (hsl:∀ el,el∈ns->el.cells.length=es)
  (hb2:n+ns.length<=maxLen)
  (run:∃ v' w',(execOp a.eval o).run P w = .ok (.value v') w'/\zcv w' el es v' (n+ns.length) (xs++news)/\w.grownBy w' v.ownBlock /\
   (v'.ownBlock=v.ownBlock∨v'.ownBlock=some w.heap.size))
  (hole:∀ b,v.ownBlock=some b->¬ g.F b/\¬ fr.Kp b/\(fr.Y b∨fr.w0.heap.size<=b)) (m':Nat->Blk) (hm':SR fr nt g e m' a w) (hid':m' id = .unborn) (hal:∀ k b,zab g m' k->v.ownBlock=some b->g.β k≠b/\¬ g.X k b)
  (hmm:mApp [(id, .row el es (old.take n++ns))] m'=mApp wr m)
  (hK:K ⟨.rs id (n+ns.length),wr⟩ l):Good P fr nt e m a w o K Q:=by
 obtain⟨v',w',hrun,r2,r3,r5⟩:=run;unfold Good Oper.wp;rw[hrun];have hs2:SR fr nt g e m' a w':=hm'.extH (hole:=λ b=>v.ownBlock=some b) r3.os r3.tape r3.output r3.size (λ b hb hh=>r3.block b hb (λ e=>hh e.symm)) (λ k hk=>⟨λ hh=>(hal k _ hk hh).1 rfl,λ b hx hh=>(hal k b hk hh).2 hx⟩) λ b hh=>⟨(hole b hh).1,(hole b hh).2.1⟩;have hF:∀ b,g.F b->w'.heap[b]? = w.heap[b]? := λ b hb=>r3.block b (hs.mem.lt b hb) λ e=>(hole b e.symm).1 hb
 have hlen:(old.take n++ns).length=n+ns.length:=by simp;omega
 have hlens:∀ d,d∈old.take n++ns->d.cells.length=es:=by grind
 have hxl:=hown.1
 have hcells:∀ (i j:Nat) d dd,(old.take n++ns)[i]? = some d->d.cells[j]? = some dd->∃ u,(xs++news)[i*es+j]? = some u/\u.oneCell'=true/\Rd g.F w' u dd:=by
  intro i j d dd hd hdd
  have hj:j<es:=by grind
  by_cases hin:i<n
  .rw [List.getElem?_append_left (by simp;omega)] at hd
   obtain⟨u,u1,u2,u3⟩:=hold i j d dd hd hdd;refine⟨u, ?_,u2,u3.mono (λ _ h=>h) hF⟩
   grind
  .rw [List.getElem?_append_right (by simp;omega)] at hd
   have hl:(old.take n).length=n:=by simp;omega
   rw[hl] at hd;obtain⟨u,u1,u3⟩:=hnr (i-n) j d dd hd hdd;refine⟨u, ?_,hn1 u (zAp u1),u3.mono (λ _ h=>h) hF⟩;have hge:n*es<=i*es:=Nat.mul_le_mul_right _ (by omega)
   grind [List.getElem?_append_right,Nat.sub_mul]
 rcases r2.2 with ⟨rfl,h0⟩|⟨gb,off,cap,cur,rfl,hh,hnc',hmx,hcs,htk⟩
 .-- nothing yet
  have hnil:old.take n++ns=[]:=List.eq_nil_of_length_eq_zero (by omega);refine⟨_,_,hK,g.set id 0 0 true, ?_⟩
  have hN:(g.set id 0 0 true).N id=true:=by simp[Gh.set]
  have h2:=hs2.born (id:=id) (b:=0) (cap:=0) (nl:=true) (bl := .row el es (old.take n++ns)) hid.1 hid' (by simp) (.inl ⟨hN,hnil⟩) (by simp[Blk.ids]) (λ hal=>by
   unfold zab at hal;rw[zaa,if_pos rfl] at hal;simp[hN] at hal) (λ hal=>by
   unfold zab at hal;rw[zaa,if_pos rfl] at hal;simp[hN] at hal)
  rw[hmm] at h2;refine h2.put ho (.inr ?_) ?_
  .have:=Den.rs (g:=g.set id 0 0 true) (w:=w') (k:=id) (n:=n+ns.length) (λ _=>h0) (by simp[hN]) (by omega)
   grind [Gh.base]
  .intro k hk
   simp[SV.ids] at hk;subst hk;rw[<- hmm,zaa,if_pos rfl];simp
 .refine ⟨_,_,hK,g.set id gb (occ off cap) false, ?_⟩
  have hN:(g.set id gb (occ off cap) false).N id=false:=by simp[Gh.set]
  have hB:(g.set id gb (occ off cap) false).β id=gb:=by simp[Gh.set]
  have hC:(g.set id gb (occ off cap) false).C id=occ off cap:=by simp[Gh.set]
  have hgb:(∀ k,zab g m' k->g.β k≠gb)/\¬ g.F gb/\¬ fr.Kp gb/\(fr.Y gb∨fr.w0.heap.size<=gb):=by
   have:Value.ownBlock (.slice (some ⟨gb,off,none⟩) (n+ns.length) cap)=some gb:=rfl;rw[this] at r5
   rcases r5 with r5|r5
   .grind
   .simp at r5
    subst r5;exact⟨λ k hk h=>by have:=zbH hm'.mem hk;omega,λ h=>by grind,λ h=>by have:=(hs.keep _ h).1;have:=hs.size;omega, .inr hs.size⟩
  have hgx:∀ k,zab g m' k->¬ g.X k gb:=by
   have:Value.ownBlock (.slice (some ⟨gb,off,none⟩) (n+ns.length) cap)=some gb:=rfl;rw[this] at r5
   rcases r5 with r5|r5
   .grind
   .simp at r5
    subst r5
    exact λ k hk hx=>by have:=(hm'.mem.own k _ hk hx).1;omega
  have h2:=hs2.born (id:=id) (b:=gb) (cap:=occ off cap) (nl:=false) (bl := .row el es (old.take n++ns)) hid.1 hid' (by simp)
   (.inr ⟨hN,cur,by grind,by grind [zjr,zhd],by grind [zhd],ztz _,hlens,λ i j d dd hd hdd=>by
    obtain⟨u,u1,u2,u3⟩:=hcells i j d dd hd hdd;refine⟨u, ?_,u2,u3⟩;rw[<- htk,List.getElem?_take] at u1
    split at u1
    .rw [List.getElem?_drop] at u1
     rw[hC,zjr hmx];simpa using u1
    .cases u1⟩) (by simp[Blk.ids]) (λ _=>hgb) (λ _=>hgx)
  rw[hmm] at h2;refine h2.put ho (.inr ?_) ?_
  .have:=Den.rs (g:=g.set id gb (occ off cap) false) (w:=w') (k:=id) (n:=n+ns.length) (by simp[hN]) (by grind [zhd]) (by omega)
   grind [zjr,zhd,Gh.base]
  .intro k hk
   simp[SV.ids] at hk;subst hk;rw[<- hmm,zaa,if_pos rfl];simp
theorem zke {id n es:Nat}{s x:Operand}{t el:TypeId}{te:TI}{old ns:List D}{xs:List Value}{v:Value}{wr:List (Nat×Blk)}(hT:TyOK P c.ty)(hs:SR fr nt g e m a w)(ho:∀ d,o.dst=some d->d<nt)
  (hid:fr.p<=id/\m id = .unborn) (hop:o.op = .call { callee := .builtin .append,args := #[s,x],argTypes := #[t,t] })
  (hd:P.underlying t=some (.slice el)) (hte:TIok P el te) (hes:te.size=es) (h1:1<=es) (hv:a.eval s=v) (hown:zcv w el es v n xs)
  (hold:∀ (i j:Nat) d dd,(old.take n)[i]? = some d->d.cells[j]? = some dd->∃ u,xs[i*es+j]? = some u/\u.oneCell'=true/\Rd g.F w u dd) (hnold:n<=old.length) (hlold:∀ d,d∈old->d.cells.length=es)
  (hsrc:Src g w (a.eval x) es ns) (hb1:(n+ns.length)*te.bytes<=140737488355328) (hb2:n+ns.length<=maxLen)
  (hole:∀ b,v.ownBlock=some b->¬ g.F b/\¬ fr.Kp b/\(fr.Y b∨fr.w0.heap.size<=b)) (m':Nat->Blk) (hm':SR fr nt g e m' a w) (hid':m' id = .unborn) (hal:∀ k b,zab g m' k->v.ownBlock=some b->g.β k≠b/\¬ g.X k b)
  (hmm:mApp [(id, .row el es (old.take n++ns))] m'=mApp wr m)
  (hK:K ⟨.rs id (n+ns.length),wr⟩ l):Good P fr nt e m a w o K Q:=by
 obtain⟨i,z,hi,his,hib,hz,hzc,hzl⟩:=hte.info;obtain⟨A,c0,news,hxv,hA,hnl,hnc,hn1,hnr⟩:=hsrc.ex
 have hzs:z.cells.size=es:=by grind
 have run:∃ v' w',(Builtin.append_ #[t,t] o.type #[v, .slice A ns.length c0]).run P w = .ok v' w'/\zcv w' el es v' (n+ns.length) (xs++news)/\w.grownBy w' v.ownBlock /\
   (v'.ownBlock=v.ownBlock∨v'.ownBlock=some w.heap.size):=by
  cases A with
  | none =>
   have h0:=hA rfl;have hns:ns=[]:=List.eq_nil_of_length_eq_zero h0;subst hns;have:news=[]:=List.eq_nil_of_length_eq_zero (by simpa using hnl)
   grind [zd5,Go.World.grownBy.refl]
  | some ad =>
   obtain⟨v',w',r1,r2,r3,r5⟩:=zfx (P:=P) (w:=w) t o.type el i z es te.bytes hd hi hz (by omega) hib hzs (by omega) v n xs hown ad ns.length c0 news hnl (hnc ad rfl) hn1 hb2 hb1
   grind
 obtain⟨v',w',r1,r2,r3,r5⟩:=run;exact zgo (t:=t) hs ho hid hown hold hnold hlold hnl hn1 hnr hsrc.len hb2 ⟨v',w',by simp[execOp,hop,resolve,invoke,builtin,hv,hxv,r1],r2,r3,r5⟩ hole m' hm' hid' hal hmm hK
theorem zno {id:Nat}{s x:Operand}{t t':TypeId}(hT:TyOK P c.ty)(hs:SR fr nt g e m a w)(ho:∀ d,o.dst=some d->d<nt)(hid:fr.p<=id/\m id = .unborn)
  (hop:o.op = .call { callee := .builtin .append,args := #[s,x],argTypes := #[t,t'] })
  (h:Pg.opd s (λ ss=>Pg.opd x λ sx=>match c.ty.at t with
  | some { k := .slice e es _, .. } => match c.ty.at e with
   | some te=>when_ (Nat.beq t t'&&Nat.ble 1 es) (match ss with
    | .nil=>Pg.elems es sx λ ns=>cond (ns.length*te.bytes<=140737488355328/\ns.length<=maxLen) (Pg.ex (λ q:Nat×List D=>q.1=ns.length/\q.2=ns) λ q=>Pg.ret ⟨.rs id q.1,[(id, .row e es q.2)]⟩)
    | .rs k n=>Pg.getB k fun
     | .row e' s' old=>when_ (Nat.beq e' e&&Nat.beq s' es) (Pg.elems es sx λ ns=>cond (n<=old.length/\(n+ns.length)*te.bytes<=140737488355328/\n+ns.length<=maxLen)
      (Pg.ex (λ q:Nat×List D=>q.1=n+ns.length/\q.2=old.take n++ns) λ q=>Pg.ret ⟨.rs id q.1,[(k, .dead),(id, .row e es q.2)]⟩))
     | _=>Pg.fail
    | _=>Pg.fail)
   | none=>Pg.fail
  | _=>Pg.fail) e m l K):Good P fr nt e m a w o K Q:=by
 obtain⟨ss,l1,hss,_,h1⟩:=zah hs h;obtain⟨sx,l2,hsx,_,h2⟩:=zah hs h1
 cases ht:c.ty.at t with
 | none=>simp only[ht] at h2;exact h2.elim
 | some ti =>
  obtain⟨k,sz,by_,ag,csz,z⟩:=ti;simp only[ht] at h2;obtain⟨d,hd,_,hk⟩:=(hT t _ ht).desc
  cases k with
  | slice el es ea =>
   dsimp only at h2 hk;obtain⟨rfl,ie,hie,hies⟩:=hk
   cases hte:c.ty.at el with
   | none=>simp only[hte] at h2;exact h2.elim
   | some te =>
    simp only[hte] at h2;obtain⟨hcond,h3⟩:=zaj h2;simp only[zAr] at hcond;obtain rfl:=zAo hcond.1;have h1s:=zAq hcond.2
    have hes:te.size=es:=by
     obtain⟨i,z,hi,his,_⟩:=(hT el te hte).info;rw[hie] at hi;grind
    rcases hss with hss|hss
    .subst hss;exact h3.elim
    generalize hv:a.eval s=v at hss
    cases hss with
    | nil =>
     dsimp only at h3;obtain⟨ns,l3,hsrc,⟨hb1,hb2⟩,⟨q1,q2⟩,⟨e1,e2⟩,hK⟩:=zh8 h1s hs hsx h3;dsimp only at e1 e2;subst e1;have e2:=e2.symm;subst e2
     exact zke (old:=[]) (n:=0) (xs:=[]) (wr:=[(id, .row el es ns)]) hT hs ho hid hop hd (hT el te hte) hes h1s hv (zcL w el es) (by simp) (by simp) (by simp) hsrc (by simpa using hb1) (by simpa using hb2)
      (by simp[Value.ownBlock]) m hs hid.2 (by simp[Value.ownBlock]) (by simp) (by simpa [Pg.ret] using hK)
    | @rs k n n0 n1 n2 =>
     simp only[Pg.getB,zaq] at h3;have hblk:=hs.mem.blk k
     cases hm:m k with
     | row e' s' old =>
      rw[hm] at hblk h3;dsimp only at h3;replace h3:=zaj h3;obtain⟨hcond2,h3⟩:=h3;simp only[zAr] at hcond2;obtain rfl:=zAo hcond2.1;obtain rfl:=zAo hcond2.2;obtain⟨ns,l3,hsrc,⟨hn,hb1,hb2⟩,⟨q1,q2⟩,⟨rfl,rfl⟩,hK⟩:=zh8 h1s hs hsx h3
      have hne:k≠id:=λ e=>by grind
      have hmm:mApp [(id,Blk.row e' s' (old.take n++ns))] (mApp [(k, .dead)] m)=mApp [(k, .dead),(id, .row e' s' (old.take n++ns))] m:=by
       funext q;simp only[zaa];by_cases h1:id=q
       .grind
       .simp [h1,mApp]
      have hid2:mApp [(k, .dead)] m id = .unborn:=by rw[zaa,if_neg hne];exact hid.2
      have hdead:∀ q,zab g (mApp [(k, .dead)] m) q->zab g m q/\q≠k:=by
       intro q hq;unfold zab at hq;rw[zaa] at hq;by_cases hkq:k=q
       .grind
       .rw [if_neg hkq] at hq;exact⟨hq,Ne.symm hkq⟩
      rcases hblk with ⟨hN,hes0⟩|⟨hN,cur,r1,r2,r3,r4,r5,r6⟩
      .have hn0:=n0 hN
       subst hn0
       have hbase:g.base k 0 = .slice none 0 0:=by simp[Gh.base,hN]
       exact zke (old:=old) (n:=0) (xs:=[]) hT hs ho hid hop hd (hT _ te hte) hes h1s hv (by grind [zcL]) (by simp) (by omega) (by rw[hes0];simp) hsrc hb1 hb2
        (by rw[hbase];simp[Value.ownBlock]) _ hs.kill hid2 (by rw[hbase];simp[Value.ownBlock]) hmm hK
      .have hbase:g.base k n = .slice (some ⟨g.β k,co (g.C k),none⟩) n (cc (g.C k)):=by simp[Gh.base,hN]
       have hns:n*s'<=cc (g.C k)*s':=Nat.mul_le_mul_right _ (n1 hN)
       have hal:zab g m k:=by simp[zab,hm,hN]
       refine zke (old:=old) (n:=n) (xs:=(cur.toList.drop (co (g.C k))).take (n*s')) hT hs ho hid hop hd (hT _ te hte) hes h1s hv (by rw[hbase];exact⟨by grind, .inr ⟨_,_,_,cur,rfl,r1,n1 hN,r4,r2,rfl⟩⟩) ?_ hn r5 hsrc hb1 hb2
        (by rw[hbase];intro b hb;simp[Value.ownBlock] at hb;subst hb;exact⟨hs.mem.hot k hal,(hs.safe k hal).1,(hs.safe k hal).2⟩) _ hs.kill hid2 (by
         rw[hbase];intro q b hq hb;simp[Value.ownBlock] at hb;subst hb;obtain⟨q1,q2⟩:=hdead q hq
         exact⟨λ h=>q2 (hs.mem.inj q k q1 hal h),λ hx=>(hs.mem.own q _ q1 hx).2.2.1 k hal rfl⟩) hmm hK
       intro i j dl dd hdl hdd;rw[List.getElem?_take] at hdl
       split at hdl
       .rename_i hi
        obtain⟨u,u1,u2,u3⟩:=r6 i j dl dd hdl hdd;refine⟨u, ?_,u2,u3⟩
        have hj:j<s':=by grind
        have:(i+1)*s'<=n*s':=Nat.mul_le_mul_right _ hi
        grind
       .cases hdl
     | _=>rw[hm] at h3;exact h3.elim
    | _=>exact h3.elim
  | _=>exact h2.elim
end
end Go.Vc
namespace Go.Vc
open Go.RowKit
theorem zqI (a b:ByteArray):(a.toList == b.toList)=decide (a=b):=by
 rw[ByteArray.toList_eq,ByteArray.toList_eq];by_cases h:a=b
 .subst h;simp
 .have:a.data≠b.data:=λ h' => h (by apply ByteArray.ext;exact h')
  simp[h,this]
section
variable {P:Program} {fr:Fr} {nt:Nat} {g:Gh} {e:Nat->SV} {m:Nat->Blk} {a:Act} {w:World} {c:Ctx} {o:Oper} {K:Dl->List Loc->Prop} {Q:Exit->Act->World->Prop} {l:List Loc}
theorem zpF {bo:BinOp}{t t':TypeId}{x y:Operand}{s u:ByteArray}(hs:SR fr nt g e m a w)(ho:∀ d,o.dst=some d->d<nt)(hop:o.op = .binOp bo t x y t')(hx:a.eval x = .string s)(hy:a.eval y = .string u)
  (h:zqv bo s u e m l K):Good P fr nt e m a w o K Q:=by
 have hg:eqGuard bo t x y (.string s) (.string u)=pure ():=by cases bo <;> simp[eqGuard]
 have hrun:∀ v:Value,(binOp bo t (.string s) (.string u)).run P w = .ok v w->(execOp a.eval o).run P w = .ok (.value v) w:=by simp_all [Go.execOp]
 have bb:∀ (b:Bool) (hb:(binOp bo t (.string s) (.string u)).run P w = .ok (.bool b) w) (hK:K ⟨.kb b,[]⟩ l),Good P fr nt e m a w o K Q:=λ b hb hK =>
  zai hs ho (hrun _ hb) (.inr .kb) (by simp[SV.ids]) hK
 cases bo <;> simp only[zqv,bool?,cond,Pg.ex,zat,Pg.fail] at h
 case add =>
  obtain⟨h1,q,rfl,hK⟩:=h
  have h1':s.size+u.size<=9223372036854775807:=by simpa [maxLen] using h1
  refine zai hs ho (hrun (.string (s++u)) ?_) (.inr (.dat (.v ?_))) (by simp[SV.ids]) hK
  .grind [Go.run_string_add_sum,Go.binOp]
  .show (s++u).size<=maxLen
   grind
 case eql=>simp_all [zqI,Go.binOp,Go.Op.stringOp]
 case neq=>exact bb _ (by simp only[binOp,Op.stringOp,zqI];simp_all) h
end
end Go.Vc
namespace Go.Vc
open Go.RowKit
theorem ztK {x y z:Value}(hx:ze z x=true)(hy:ze z y=true)(h:litV x=litV y):x=y:=by
 cases z <;> cases x <;> simp[ze] at hx <;> cases y <;> simp[ze] at hy <;> simp[litV] at h
 all_goals first
  | (obtain⟨h1,h2⟩:=h;subst h1 h2;rfl)
  | (subst h;rfl)
  | (rename_i a b;obtain⟨⟨a⟩⟩:=a;obtain⟨⟨b⟩⟩:=b;simp at h;subst h;rfl)
section
variable {P:Program}
theorem zhf {dp:Nat}{t:TypeId}{z v:Value}(h:zee P t z)(hl:ze z v=true)(hp:pl v):P.keyLits (dp+1) t [v]=some [litV v]:=by
 cases z <;> cases v <;> simp[ze] at hl <;> simp only[zee] at h <;> simp only[pl] at hp
 .simp [Program.keyLits,h,litV]
 .rename_i k n k' n'
  have:=zcO (k:=k) (k':=k') (by simpa using hl)
  simp_all [Go.Program.keyLits,litV,Go.Lit.wf]
 .simp [Program.keyLits,h,litV,hp]
theorem zj {dp:Nat}{vs zs:List Value}:∀ (fl:List Field) (n:Nat),n+fl.length=vs.length->(∀ (i:Nat) f z,fl[i]? = some f->zs[n+i]? = some z->f.offset=n+i/\P.cellsOf f.type=1/\zee P f.type z)->vs.length=zs.length ->
  (∀ (i:Nat) v z,vs[i]? = some v->zs[i]? = some z->ze z v=true/\pl v) ->
  fl.mapM (λ f=>P.keyLits (dp+1) f.type ((vs.drop f.offset).take (P.cellsOf f.type)))=some ((vs.drop n).map λ v=>[litV v]):=by
 intro fl
 induction fl with
 | nil=>simp_all
 | cons f fl ih =>
  intro n hn hf hl hv;simp only[List.length_cons] at hn
  have hlt:n<vs.length:=by omega
  have hz:zs[n]? = some zs[n]:=zAn (by omega);obtain⟨h1,h2,h3⟩:=hf 0 f zs[n] rfl (by simpa using hz);obtain⟨h4,h5⟩:=hv n vs[n] zs[n] (zAn hlt) hz
  have ht:(vs.drop f.offset).take (P.cellsOf f.type)=[vs[n]]:=by
   rw[h1,h2,Nat.add_zero,List.drop_eq_getElem_cons hlt];rfl
  have ih':=ih (n+1) (by omega) (λ i f' z' hf' hz' => by have:=hf (i+1) f' z' (by simpa using hf') (by grind);grind) hl hv
  grind [zhf,List.drop_eq_getElem_cons]
theorem zdH {α β:Type}(f:α->β)(l:List α):(l.map λ v=>[f v]).flatten=l.map f:=by
 induction l with
 | nil=>rfl
 | cons x l ih=>simp[ih]
theorem zeJ {dp:Nat}{t:TypeId}{zs vs:List Value}(h:FlatOK P t zs)(hl:vs.length=zs.length)(hv:∀ (i:Nat) v z,vs[i]? = some v->zs[i]? = some z->ze z v=true/\pl v):P.keyLits (dp+2) t vs=some (vs.map litV):=by
 obtain⟨fs,h1,h2,h3,h4⟩:=h.fields;unfold Program.keyLits;rw[h1];have hm:=zj (P:=P) (dp:=dp) (vs:=vs) (zs:=zs) fs.toList 0 (by simp;omega) (λ i f z hf hz=>by grind) hl hv;rw[List.drop_zero] at hm
 have hc:vs.length=P.cellsOf t/\(fs.all λ f=>f.name != "_")=true:=⟨by rw[h.size,hl],h3⟩
 simp only[hm]
 split
 all_goals first
  | (rw[if_pos hc,Option.map_some,zdH];done)
  | simp_all [zdH]
theorem zja {t:TypeId}{zs vs ws:List Value}(w:World)(h:FlatOK P t zs)(hl:vs.length=zs.length)(hv:∀ (i:Nat) v z,vs[i]? = some v->zs[i]? = some z->ze z v=true/\pl v)
  (hl':ws.length=zs.length) (hv':∀ (i:Nat) v z,ws[i]? = some v->zs[i]? = some z->ze z v=true/\pl v):∃ r:Bool,(Op.equal t (.agg vs.toArray) (.agg ws.toArray)).run P w = .ok r w/\(r=true ↔ vs=ws):=by
 obtain⟨fs,h1,h2,h3,h4⟩:=h.fields
 have formed:∀ us:List Value,us.length=zs.length->(Value.agg us.toArray).formed P t=true:=λ us hu=>by simp[Value.formed,h1,h.size,hu]
 obtain⟨r,hr,hiff⟩:=run_equalIn_deep (P:=P) 9998 2 t h.key w 2 2 (.agg vs.toArray) (.agg ws.toArray) (vs.map litV) (ws.map litV) (formed vs hl) (formed ws hl') (by grind [zeJ,Go.Value.cells]) (by grind [zeJ,Go.Value.cells]);refine⟨r,hr,hiff.trans ⟨λ he=>?_,λ he=>by rw[he]⟩⟩;refine List.ext_getElem? λ i=>?_;by_cases hi:i<vs.length
 .have hi':i<ws.length:=by omega
  have hz:zs[i]? = some zs[i]:=zAn (by omega)
  have he':=congrArg (·[i]?) he
  grind [zAn,Option.some.injEq,ztK]
 grind
theorem zoB:∀ {zs:List Value} {cs:List D},zfv zs cs=true->cs.length=zs.length/\∀ (i:Nat) z d,zs[i]? = some z->cs[i]? = some d->∃ x,d = .v x/\ze z x=true
 | [],[],_=>⟨rfl,by simp⟩
 | z::zs,d::cs,h=>by
  cases d with
  | v x =>
   simp only[zfv,zAr] at h;obtain⟨h1,h2⟩:=zoB h.2
   grind
  | _=>cases h
 | [],_::_,h=>by cases h
 | _::_,[],h=>by cases h
theorem zoC:∀ {l r:List Value},l.map D.v=r.map D.v->l=r
 | [],[],_=>rfl
 | x::l,y::r,h=>by
  simp only[List.map_cons,List.cons.injEq,D.v.injEq] at h;rw[h.1,zoC h.2]
 | [],_::_,h=>by simp at h
 | _::_,[],h=>by simp at h
theorem zfi {F:Nat->Prop}{w:World}{zs vs:List Value}{cs:List D}(h:zfv zs cs=true)(hl:vs.length=cs.length)(hr:∀ (i:Nat) u d,vs[i]? = some u->cs[i]? = some d->Rd F w u d) :
  vs.length=zs.length/\cs=vs.map D.v/\∀ (i:Nat) v z,vs[i]? = some v->zs[i]? = some z->ze z v=true/\pl v:=by
 obtain⟨h1,h2⟩:=zoB h
 have at_:∀ (i:Nat) v z d,vs[i]? = some v->zs[i]? = some z->cs[i]? = some d->d = .v v/\ze z v=true/\pl v:=by
  intro i v z d hv hz hd;obtain⟨x,rfl,hx⟩:=h2 i z d hz hd;have:=hr i v _ hv hd
  cases this with
  | v hp=>grind
 refine⟨by omega,List.ext_getElem? λ i=>?_,λ i v z hv hz=>?_⟩
 .grind
 .have hi:i<vs.length:=(zAm.1 hv).1
  exact(at_ i v z (cs[i]'(by omega)) hv hz (zAn (by omega))).2
variable {fr:Fr} {nt:Nat} {g:Gh} {e:Nat->SV} {m:Nat->Blk} {a:Act} {w:World} {c:Ctx} {o:Oper} {K:Dl->List Loc->Prop} {Q:Exit->Act->World->Prop} {l:List Loc}
theorem ztL {zs:List Value}:∀ {cs cs':List D},zfv zs cs=true->zfv zs cs'=true->(eqDs cs cs'=true ↔ cs=cs'):=by
 induction zs with
 | nil =>
  grind [eqDs,zfv]
 | cons z zs ih =>
  intro cs cs' h h'
  cases cs with
  | nil=>simp[zfv] at h
  | cons x r=>cases cs' with
   | nil=>simp[zfv] at h'
   | cons x' r' =>
    cases x <;> simp only[zfv,Bool.false_eq_true,zAr] at h
    cases x' <;> simp only[zfv,Bool.false_eq_true,zAr] at h'
    rename_i u v;obtain⟨h1,h2⟩:=h;obtain⟨h1',h2'⟩:=h';have ih:=ih h2 h2'
    cases z <;> simp only[ze,Bool.false_eq_true] at h1 h1'
    all_goals (cases u <;> simp only[ze,Bool.false_eq_true] at h1)
    all_goals (cases v <;> simp only[ze,Bool.false_eq_true] at h1')
    .simp only[eqDs,zAr,beq_iff_eq,ih,List.cons.injEq,D.v.injEq,Value.bool.injEq]
    .have e1:=zcO h1
     have e2:=zcO h1'
     simp_all [zAr,decide_eq_true_eq,List.cons.injEq,D.v.injEq,Go.Value.int.injEq,true_and,eqDs]
    .simp only[eqDs,zAr,decide_eq_true_eq,ih,List.cons.injEq,D.v.injEq,Value.string.injEq]
theorem znp {bo:BinOp}{t t':TypeId}{x y:Operand}{b b':Bool}(hs:SR fr nt g e m a w)(ho:∀ d,o.dst=some d->d<nt)(hop:o.op = .binOp bo t x y t')(hu:P.underlying t=some .bool)
  (hx:a.eval x = .bool b) (hy:a.eval y = .bool b') (h:zou bo b b' e m l K):Good P fr nt e m a w o K Q:=by
 have hrun:∀ v:Value,bo = .eql∨bo = .neq->(binOp bo t (.bool b) (.bool b')).run P w = .ok v w->(execOp a.eval o).run P w = .ok (.value v) w:=by simp_all [Go.eqGuard,Pure.pure,Go.execOp]
 have he:(Op.equal t (.bool b) (.bool b')).run P w = .ok (b == b') w:=by
  have key:∀ d,(Op.equalIn (d+1) t (.bool b) (.bool b')).run P w = .ok (b == b') w:=λ d=>by simp[Op.equalIn,run_underlying hu]
  exact key 9999
 cases bo <;> simp only[zou,zat,Pg.fail] at h
 case eql =>
  refine zai hs ho (hrun (.bool (b == b')) (.inl rfl) ?_) (.inr .kb) (by simp[SV.ids]) h;show (do pure (Value.bool (<- Op.equal t (.bool b) (.bool b'))):Sem Value).run P w=_
  simp_all
 case neq =>
  refine zai hs ho (hrun (.bool (!(b == b'))) (.inr rfl) ?_) (.inr .kb) (by simp[SV.ids]) h;show (do pure (Value.bool (!(<- Op.equal t (.bool b) (.bool b')))):Sem Value).run P w=_
  simp_all
theorem zgp {bo:BinOp}{t t' el:TypeId}{x y:Operand}{sx:SV}{b:Bool}(hs:SR fr nt g e m a w)(ho:∀ d,o.dst=some d->d<nt)(hop:o.op = .binOp bo t x y t')(hu:P.underlying t=some (.slice el))
  (hx:DenO g w (a.eval x) sx) (hy:a.eval y = .slice none 0 0) (hbo:(bo = .eql/\b=true)∨(bo = .neq/\b=false)) (h:zc4 c b sx e m l K):Good P fr nt e m a w o K Q:=by
 have hrun:∀ (A:Option Addr) (n cap:Nat) (r:Bool),a.eval x = .slice A n cap->r=(if A.isNone then b else !b)->(execOp a.eval o).run P w = .ok (.value (.bool r)) w:=by
  intro A n cap r hax hr
  have hg:eqGuard bo t x y (.slice A n cap) (.slice none 0 0)=pure ():=by grind [Go.eqGuard]
  have hv:(binOp bo t (.slice A n cap) (.slice none 0 0)).run P w = .ok (.bool r) w:=by grind [Go.Lib.run_eql_slice_nil,Go.run_neq_slice_nil_any]
  simp[execOp,hop,hax,hy,hg,hv]
 have fin:∀ (A:Option Addr) (n cap:Nat) (r:Bool),a.eval x = .slice A n cap->r=(if A.isNone then b else !b)->K ⟨.kb r,[]⟩ l->Good P fr nt e m a w o K Q:=λ A n cap r h1 h2 h3 =>
  zai hs ho (hrun A n cap r h1 h2) (.inr .kb) (by simp[SV.ids]) h3
 rcases hx with hx|hx
 .subst hx;exact h.elim
 generalize hax:a.eval x=v at hx
 cases hx with
 | nil=>simp only[zc4,zat] at h;grind
 | @rs k n n0 n1 n2 =>
  simp only[zc4,nilN] at h
  cases hd:c.dem with
  | false =>
   rw[hd] at h;obtain⟨hn,h⟩:=h
   grind [zat,absurd,Gh.base]
  | true =>
   rw[hd] at h;simp only[cond_true,zat] at h
   grind [Gh.base]
 | dat hr =>
  cases hr with
  | @nil A' cap' s' hc =>
   simp only[zc4,zqu] at h
   cases hd:c.dem with
   | false =>
    rw[hd] at h;exact absurd rfl h.1
   | true =>
    rw[hd] at h;simp only[cond_true,zat] at h
    grind
  | @sl bb off n' cap' s' es' f h4 h5 h6 h7 h8 h9 h10 h11 =>
   simp only[zc4,zqu] at h
   cases hd:c.dem with
   | false =>
    rw[hd] at h;have h:=h.2
    grind [zat]
   | true =>
    rw[hd] at h;simp only[cond_true,zat] at h
    grind
  | _=>exact h.elim
 | _=>exact h.elim
theorem Den.nilp {v:Value}(h:DenO g w v (.dat (.v (.pointer none)))):v = .pointer none:=by
 rcases h with h|h
 .cases h
 .cases h with
  | dat h=>cases h with
   | v _=>rfl
theorem zef {bo:BinOp}{t t':TypeId}{d:TypeDesc}{x y:Operand}{b:Bool}(hs:SR fr nt g e m a w)(ho:∀ d,o.dst=some d->d<nt)(hop:o.op = .binOp bo t x y t')(hd:P.underlying t=some d)(hk:∃ e,d = .pointer e)
  (hx:∃ p:Option Addr,a.eval x = .pointer p/\p.isNone=b) (hy:a.eval y = .pointer none) (h:(match bo with | .eql=>one (.kb b) | .neq=>one (.kb (!b))|_=>Pg.fail) e m l K):Good P fr nt e m a w o K Q:=by
 obtain⟨te,rfl⟩:=hk;obtain⟨p,hax,rfl⟩:=hx
 have hu:P.underlying t=some (.pointer (P.pointee t)):=by rw[hd];simp[Program.pointee,hd]
 cases bo with
 | eql =>
  simp only[zat] at h;exact zai hs ho (v := .bool p.isNone) (by simp[execOp,hop,hax,hy,eqGuard,run_eql_pointer_nil w t p hu]) (.inr .kb) (by simp[SV.ids]) h
 | neq =>
  simp only[zat] at h;exact zai hs ho (v := .bool (!p.isNone)) (by simp[execOp,hop,hax,hy,eqGuard,run_neq_pointer_nil w t p hu]) (.inr .kb) (by simp[SV.ids]) h
 | _=>exact h.elim
theorem zpG {bo:BinOp}{t t':TypeId}{x y:Operand}(hT:TyOK P c.ty)(hs:SR fr nt g e m a w)(ho:∀ d,o.dst=some d->d<nt)(hop:o.op = .binOp bo t x y t')
  (h:Pg.opd x (λ sx=>Pg.opd y λ sy=>zqw c bo t sx sy) e m l K):Good P fr nt e m a w o K Q:=by
 obtain⟨x',l',hx,hxb,h1⟩:=zah hs h;obtain⟨y',l2,hy,hyb,h2⟩:=zah hs h1;unfold zqw at h2
 split at h2
 .rename_i sa sb
  obtain⟨ex,hxr⟩:=Den.str hx;obtain⟨ey,hyr⟩:=Den.str hy
  cases ht:c.ty.at t with
  | none=>rw[ht] at h2;exact h2.elim
  | some ti =>
   obtain⟨k,sz,by_,ag,csz,z⟩:=ti;rw[ht] at h2
   cases k <;> first|exact h2.elim|grind [zpF]
 .obtain ⟨ex,hxr⟩:=Den.int hx
  obtain⟨ey,hyr⟩:=Den.int hy;obtain⟨hk,h3⟩:=zaj h2;obtain rfl:=zcO hk;exact zpA hs ho hop ex ey hxr h3
 .rename_i cs cs'
  cases ht:c.ty.at t with
  | none=>rw[ht] at h2;exact h2.elim
  | some ti =>
   rw[ht] at h2;dsimp only at h2;obtain⟨hk,h3⟩:=zaj h2;simp only[zAr] at hk;obtain⟨⟨hk1,hk2⟩,hk3⟩:=hk;have hfl:=(hT t ti ht).flat hk1;have hx':Rd g.F w (a.eval x) (.agg cs):=Den.dat' hx;have hy':Rd g.F w (a.eval y) (.agg cs'):=Den.dat' hy;generalize hv:a.eval x=v at hx';generalize hu:a.eval y=u at hy'
   cases hx' with
   | @agg vs _ p1 p0 p2 =>
    cases hy' with
    | @agg us _ q1 q0 q2 =>
     obtain⟨c1,c2,c3⟩:=zfi hk2 p1 p2;obtain⟨d1,d2,d3⟩:=zfi hk3 q1 q2;obtain⟨r,hr,hiff⟩:=zja (P:=P) w hfl c1 c3 d1 d3
     have hiff':r=true ↔ cs=cs':=by grind [zoC]
     have hgd:(eqGuard bo t x y (.agg vs.toArray) (.agg us.toArray)).run P w = .ok () w:=by
      cases bo <;> simp[eqGuard,hfl.guard]
     have hrun:∀ b,(binOp bo t (.agg vs.toArray) (.agg us.toArray)).run P w = .ok (.bool b) w->(execOp a.eval o).run P w = .ok (.value (.bool b)) w:=by
      intro b hb;simp[execOp,hop,hv,hu,hgd,hb]
     have hb1:(binOp .eql t (.agg vs.toArray) (.agg us.toArray)).run P w = .ok (.bool r) w:=by
      show (do pure (Value.bool (<- Op.equal t (.agg vs.toArray) (.agg us.toArray))):Sem Value).run P w=_;generalize Op.equal t (.agg vs.toArray) (.agg us.toArray)=q at hr ⊢;simp[hr]
     have hb2:(binOp .neq t (.agg vs.toArray) (.agg us.toArray)).run P w = .ok (.bool (!r)) w:=by
      show (do pure (Value.bool (!(<- Op.equal t (.agg vs.toArray) (.agg us.toArray)))):Sem Value).run P w=_;generalize Op.equal t (.agg vs.toArray) (.agg us.toArray)=q at hr ⊢;simp[hr]
     have hre:eqDs cs cs'=r:=Bool.eq_iff_iff.2 ((ztL hk2 hk3).trans hiff'.symm)
     cases bo with
     | eql =>
      simp only[eqPg,zni,zat] at h3;rw[hre] at h3;exact zai hs ho (v := .bool r) (hrun _ hb1) (.inr .kb) (by simp[SV.ids]) h3
     | neq =>
      simp only[eqPg,zni,zat] at h3;rw[hre] at h3;exact zai hs ho (v := .bool (!r)) (hrun _ hb2) (.inr .kb) (by simp[SV.ids]) h3
     | _=>exact h3.elim
 .cases ht:c.ty.at t with
  | none=>rw[ht] at h2;exact h2.elim
  | some ti =>
   obtain⟨k,sz,by_,ag,csz,z⟩:=ti;rw[ht] at h2;obtain⟨d,hd,_,hk⟩:=(hT t _ ht).desc
   cases k with
   | bool =>
    dsimp only at h2 hk;subst hk;exact znp hs ho hop hd (Den.bool hx) (Den.bool hy) h2
   | _=>exact h2.elim
 .cases ht:c.ty.at t with
  | none=>rw[ht] at h2;exact h2.elim
  | some ti =>
   obtain⟨k,sz,by_,ag,csz,z⟩:=ti;rw[ht] at h2;obtain⟨d,hd,_,hk⟩:=(hT t _ ht).desc
   cases k with
   | ptr=>exact zef hs ho hop hd hk (by
    rcases hx with hx|hx
    .cases hx
    .generalize a.eval x=v at hx;cases hx;grind) (Den.nilp hy) h2
   | _=>exact h2.elim
 .cases ht:c.ty.at t with
  | none=>rw[ht] at h2;exact h2.elim
  | some ti =>
   obtain⟨k,sz,by_,ag,csz,z⟩:=ti;rw[ht] at h2;obtain⟨d,hd,_,hk⟩:=(hT t _ ht).desc
   cases k with
   | ptr=>exact zef hs ho hop hd hk (by
    rcases hx with hx|hx
    .cases hx
    .generalize a.eval x=v at hx;cases hx;grind) (Den.nilp hy) h2
   | _=>exact h2.elim
 .cases ht:c.ty.at t with
  | none=>rw[ht] at h2;exact h2.elim
  | some ti =>
   obtain⟨k,sz,by_,ag,csz,z⟩:=ti;rw[ht] at h2;obtain⟨d,hd,_,hk⟩:=(hT t _ ht).desc
   cases k with
   | ptr=>exact zef hs ho hop hd hk (by
    rcases hx with hx|hx
    .cases hx
    .generalize a.eval x=v at hx;cases hx;grind) (Den.nilp hy) h2
   | _=>exact h2.elim
 .cases ht:c.ty.at t with
  | none=>rw[ht] at h2;exact h2.elim
  | some ti =>
   obtain⟨k,sz,by_,ag,csz,z⟩:=ti;rw[ht] at h2;obtain⟨d,hd,_,hk⟩:=(hT t _ ht).desc
   cases k with
   | ptr=>exact zef hs ho hop hd hk (⟨none,Den.nilp hx,rfl⟩) (Den.nilp hy) h2
   | _=>exact h2.elim
 .cases ht:c.ty.at t with
  | none=>rw[ht] at h2;exact h2.elim
  | some ti =>
   obtain⟨k,sz,by_,ag,csz,z⟩:=ti;rw[ht] at h2;obtain⟨d,hd,_,hk⟩:=(hT t _ ht).desc
   cases k with
   | slice el es ea =>
    dsimp only at h2 hk;obtain⟨rfl,_⟩:=hk
    have hy':a.eval y = .slice none 0 0:=by
     rcases hy with hy|hy
     .cases hy
     .generalize a.eval y=v at hy;cases hy;rfl
    cases bo with
    | eql=>grind [zgp]
    | neq=>grind [zgp]
    | _=>exact h2.elim
   | _=>exact h2.elim
 .exact h2.elim
end
end Go.Vc
namespace Go.Vc
open Go.RowKit
def zlL:SV->Option Nat
 | .rs z _=>some z
 | .mp z=>some z
 | _=>none
theorem zeK {y y':MC}{x:SV}{ks:List Nat}(h:y.put ks x=some y'):zlL x=none:=by
 unfold MC.put at h
 split at h
 .obtain ⟨d,hd,_⟩:=Option.map_eq_some_iff.1 h
  cases x <;> simp[SV.toD1] at hd <;> rfl
 .rfl
 .rfl
 .cases h
def Eats (ks:List Nat)(m:Nat->Blk)(y:MC)(x:SV)(c:MC):Prop :=
 (∃ e s z l,x = .rs z l.length/\m z = .row e s l/\c = .r e s l)∨(∃ e s,x = .nil/\c = .r e s [])∨(∃ z l,x = .mp z/\m z = .mp l/\c = .m l)∨y.put ks x=some c
theorem zkf {ks:List Nat}{m:Nat->Blk}:∀ {ys:List MC} {xs:List SV} {cs:List MC} {ds:List Nat},zaM ks m ys xs=some (cs,ds) ->
  cs.length=xs.length/\ds=xs.filterMap zlL/\∀ (o:Nat) x c,xs[o]? = some x->cs[o]? = some c->∃ y,Eats ks m y x c
 | [],[],cs,ds,h=>by
  simp only[zaM,Option.some.injEq,Prod.mk.injEq] at h;obtain⟨rfl,rfl⟩:=h;exact⟨rfl,rfl,by simp⟩
 | [],_::_,cs,ds,h=>by simp[zaM] at h
 | _::_,[],cs,ds,h=>by simp[zaM] at h
 | y::ys,x::xs,cs,ds,h=>by
  simp only[zaM] at h
  cases hr:zaM ks m ys xs with
  | none=>grind
  | some rd =>
   obtain⟨r,ds'⟩:=rd;rw[hr] at h;obtain⟨h1,h2,h3⟩:=zkf hr
   have fin:∀ c e,Eats ks m y x c->zlL x=e->cs=c::r->ds=(match e with|some z=>z::ds'|none=>ds') ->
     cs.length=(x::xs).length/\ds=(x::xs).filterMap zlL/\∀ (o:Nat) x' c',(x::xs)[o]? = some x'->cs[o]? = some c'->∃ y,Eats ks m y x' c':=by grind
   dsimp only at h
   split at h
   .rename_i e s _ z n
    split at h
    .rename_i e' s' l hm
     cases hc:(Nat.beq e e'&&Nat.beq s s'&&Nat.beq n l.length) with
     | false=>grind
     | true =>
      rw[hc] at h;simp only[cond_true,Option.some.injEq,Prod.mk.injEq] at h;simp only[zAr] at hc;obtain⟨⟨c1,c2⟩,c3⟩:=hc;have c1:=zAo c1;have c2:=zAo c2;have c3:=zAo c3;subst c1 c2 c3;exact fin _ _ (.inl ⟨_,_,_,_,rfl,hm,rfl⟩) rfl h.1.symm h.2.symm
    .cases h
   .simp only[Option.some.injEq,Prod.mk.injEq] at h
    exact fin _ _ (.inr (.inl ⟨_,_,rfl,rfl⟩)) rfl h.1.symm h.2.symm
   .rename_i z
    split at h
    .rename_i l hm
     simp only[Option.some.injEq,Prod.mk.injEq] at h;exact fin _ _ (.inr (.inr (.inl ⟨_,_,rfl,hm,rfl⟩))) rfl h.1.symm h.2.symm
    .cases h
   .cases hp:y.put ks x with
    | none=>grind
    | some y' =>
     rw[hp] at h;simp only[Option.some.injEq,Prod.mk.injEq] at h;exact fin _ _ (.inr (.inr (.inr hp))) (zeK hp) h.1.symm h.2.symm
theorem znq {f:SV->Option Nat}:∀ {l:List SV},(l.filterMap f).Nodup->∀ (i j:Nat) x y z,l[i]? = some x->l[j]? = some y->f x=some z->f y=some z->i=j
 | [],_,i,j,x,y,z,hx,_,_,_=>by simp at hx
 | a::l,hn,i,j,x,y,z,hx,hy,h1,h2=>by
  rw[List.filterMap_cons] at hn;have mem:∀ (i:Nat) x,l[i]? = some x->f x=some z->z∈l.filterMap f:=λ i x hx h1=>List.mem_filterMap.2 ⟨x,zAp hx,h1⟩
  have tl:(l.filterMap f).Nodup:=by grind
  cases i with
  | zero =>
   grind
  | succ i =>
   cases j with
   | zero =>
    grind
   | succ j=>rw[znq tl i j x y z (by simpa using hx) (by simpa using hy) h1 h2]
section
variable {P:Program} {fr:Fr} {nt:Nat} {g:Gh} {e:Nat->SV} {m:Nat->Blk} {a:Act} {w:World} {c:Ctx}
variable {o:Oper} {K:Dl->List Loc->Prop} {Q:Exit->Act->World->Prop} {l:List Loc}
theorem zpH {outs:List (Nat×Nat×Nat)}{n i o:Nat}(h:∀ x,x∈outs->x.1<n)(hi:n<=i):zaV outs i o=none:=by
 grind [zcW,zaV]
def dieL (ds:List Nat):List (Nat×Blk):=ds.map λ z=>(z,Blk.dead)
theorem zkg {ds:List Nat}{m:Nat->Blk}(j:Nat):mApp (dieL ds) m j=if j∈ds then .dead else m j:=by
 induction ds with
 | nil=>simp[dieL,mApp]
 | cons z ds ih =>
  show mApp ((z, .dead)::dieL ds) m j=_;rw[zaa,ih]
  grind
theorem zqJ {ds:List Nat}{q k:Nat}{b:Blk}(j:Nat):mApp (dieL ds++[(q, .dead),(k,b)]) m j=if j∈ds then .dead else if q=j then .dead else if k=j then b else m j:=by
 have app:∀ (l r:List (Nat×Blk)) (m:Nat->Blk) (j:Nat),mApp (l++r) m j=mApp l (mApp r m) j:=by
  intro l
  induction l with
  | nil=>intro r m j;rfl
  | cons x l ih=>grind [zaa]
 rw[app,zkg]
 split
 .rfl
 .rw [zaa,zaa];rfl
theorem SR.growF {k q : Nat}{ks : List Nat}{es : List (D × List MC)}{outs : List (Nat × Nat × Nat)}{arr : Array MapEntry}{cl : Nat}{M : List Nat}{I : Nat → Nat → Option (Nat × Nat)}{sh : List MC}{xs : List SV}{cs : List MC}{ds : List Nat}{vs : List Value}{t : TypeId}{d : D}{kv : Value}{w' : World}
    (hs : SR fr nt g e m a w) (hmk : m k = .fam ks es outs) (hmq : m q = .box xs) (hfm : FamAt g w k ks es outs arr cl M I) (hvs : w.heap[g.β q]? = some (.cells vs.toArray t (0, 0))) (hvl : vs.length = xs.length)
    (hvd : ∀ (i : Nat) u x, vs[i]? = some u → xs[i]? = some x → u.oneCell' = true ∧ Den g w u x) (heat : zaM ks m sh xs = some (cs, ds)) (hdk : ∀ z, z ∈ ds → z ≠ k ∧ z ≠ q) (hqk : q ≠ k) (hnd : ds.Nodup)
    (hw : ∀ i, i ≠ g.β k → w'.heap[i]? = w.heap[i]?) (hw0 : w'.heap[g.β k]? = some (.map (arr.push ⟨kv, .pointer (some ⟨g.β q, 0, none⟩), cl⟩) (cl + 1))) (hsz : w'.heap.size = w.heap.size) (hos : w'.os = w.os) (ht : w'.tape = w.tape) (hout : w'.output = w.output)
    (hkv : Rd g.F w kv d) (hnew : ∀ x, x ∈ arr.toList → x.key ≠ kv) :
    ∃ g', SR fr nt g' e (mApp (dieL ds ++ [(q, .dead), (k, .fam ks (es ++ [(d, cs)]) outs)]) m) a w' := by
  obtain ⟨hcl, hds, hcell⟩ := zkf heat
  have alk : zab g m k := by simp [zab, hmk]
  have alq : zab g m q := by simp [zab, hmq]
  have eaten : ∀ (o : Nat) x z, xs[o]? = some x → zlL x = some z → z ∈ ds := fun o x z hx hz => by grind
  -- the new place of each cell
  let J : Nat → Option (Nat × Nat) := fun o => match xs[o]? with
    | some (.rs z _) => if g.N z = true then none else some (g.β z, g.C z)
    | some (.mp z) => some (g.β z, 0)
    | _ => none
  have cellX : ∀ (o : Nat) x, xs[o]? = some x → ∃ c y, cs[o]? = some c ∧ Eats ks m y x c := fun o x hx => by
    have ho : o < cs.length := by grind
    obtain ⟨y, hy⟩ := hcell o x _ hx (zAn ho)
    grind
  have eatsRow : ∀ (o : Nat) z n, xs[o]? = some (.rs z n) → ∃ e s l, m z = .row e s l ∧ n = l.length := fun o z n hx => by
    obtain ⟨c, y, _, h⟩ := cellX o _ hx
    rcases h with ⟨e, s, z', l, h1, h2, _⟩ | ⟨_, _, h1, _⟩ | ⟨_, _, h1, _⟩ | h1
    · grind
    · cases h1
    · cases h1
    · have := zeK h1; cases this
  have eatsMap : ∀ (o : Nat) z, xs[o]? = some (.mp z) → ∃ l, m z = .mp l := fun o z hx => by
    obtain ⟨c, y, _, h⟩ := cellX o _ hx
    rcases h with ⟨_, _, _, _, h1, _⟩ | ⟨_, _, h1, _⟩ | ⟨z', l, h1, h2, _⟩ | h1
    · cases h1
    · cases h1
    · grind
    · have := zeK h1; cases this
  have Jspec : ∀ o b c', J o = some (b, c') → ∃ z x, xs[o]? = some x ∧ zlL x = some z ∧ z ∈ ds ∧ b = g.β z ∧ zab g m z := by
    intro o b c' h;simp only [J] at h
    split at h
    · rename_i z n hx
      split at h
      · cases h
      · rename_i hN
        cases h
        obtain ⟨e', s', l', hm, _⟩ := eatsRow o z n hx;exact ⟨z, _, hx, rfl, eaten o _ z hx rfl, rfl, by grind [zab]⟩
    · rename_i z hx
      cases h
      obtain ⟨l', hm⟩ := eatsMap o z hx;exact ⟨z, _, hx, rfl, eaten o _ z hx rfl, rfl, by simp [zab, hm]⟩
    · cases h
  let g' : Gh := { g with M := fun j => if j = k then M ++ [g.β q] else g.M j, X := fun j b => g.X j b ∨ (j = k ∧ (b = g.β q ∨ ∃ o c', J o = some (b, c'))) }
  have hpre : ∀ j, g.M j <+: g'.M j := fun j => by
    by_cases h : j = k
    · subst h
      show g.M j <+: if j = j then M ++ [g.β q] else g.M j;rw [if_pos rfl, hfm.Mk]; grind
    grind
  have sim : ∀ j, g'.β j = g.β j ∧ g'.C j = g.C j ∧ g'.N j = g.N j ∧ g.M j <+: g'.M j := fun j => ⟨rfl, rfl, rfl, hpre j⟩;have hMne : ∀ j, j ≠ k → g'.M j = g.M j := fun j h => if_neg h;have hF : ∀ b, g.F b → w'.heap[b]? = w.heap[b]? := fun b hb => hw b fun e => hs.mem.hot k alk (e ▸ hb);have new : ∀ j, mApp (dieL ds ++ [(q, .dead), (k, .fam ks (es ++ [(d, cs)]) outs)]) m j = if j ∈ ds then .dead else if q = j then .dead else if k = j then .fam ks (es ++ [(d, cs)]) outs else m j := fun j => zqJ j;have kds : k ∉ ds := fun h => (hdk k h).1 rfl
  have newk : mApp (dieL ds ++ [(q, .dead), (k, .fam ks (es ++ [(d, cs)]) outs)]) m k = .fam ks (es ++ [(d, cs)]) outs := by grind
  have alv : ∀ j, zab g' (mApp (dieL ds ++ [(q, .dead), (k, .fam ks (es ++ [(d, cs)]) outs)]) m) j → zab g m j ∧ j ≠ q ∧ j ∉ ds := by
    intro j hj;unfold zab at hj;rw [new] at hj;by_cases h1 : j ∈ ds
    · grind
    · rw [if_neg h1] at hj
      by_cases h2 : q = j
      · grind
      · rw [if_neg h2] at hj
        refine ⟨?_, Ne.symm h2, h1⟩;by_cases h3 : k = j
        · grind
        · rw [if_neg h3] at hj; exact hj
  have born : ∀ j, m j ≠ .unborn → mApp (dieL ds ++ [(q, .dead), (k, .fam ks (es ++ [(d, cs)]) outs)]) m j ≠ .unborn := by grind
  have bqM : g.β q ∉ M := fun h => (hs.mem.own k _ alk (hfm.own _ h)).2.2.1 q alq rfl
  have nk : (es ++ [(d, cs)])[es.length]? = some (d, cs) := by simp
  let I' : Nat → Nat → Option (Nat × Nat) := fun i => if i = es.length then J else I i
  have hfam : FamAt g' w' k ks (es ++ [(d, cs)]) outs (arr.push ⟨kv, .pointer (some ⟨g.β q, 0, none⟩), cl⟩) (cl + 1) (M ++ [g.β q]) I' := by
    have hlen := hfm.len;have hsize := hfm.size
    have Mget : ∀ i, i < es.length → (M ++ [g.β q]).getD i 0 = M.getD i 0 := fun i hi => by
      grind
    have Mlast : (M ++ [g.β q]).getD es.length 0 = g.β q := by grind
    refine ⟨hw0, ?_, by simp [hlen], by simp [hsize], ?_, ?_, fun b hb => ?_, fun i x p hx hp => ?_, fun i p hp => ?_, fun i o b c' h => ?_, fun i o i' o' b c1 c2 h1 h2 => ?_, fun i o b c' h => ?_, fun x hx => by have := hfm.olt x hx; simp; omega⟩
    · grind
    · exact MapKept.stamped_push hfm.keys hnew
    · grind [List.nodup_append, FamAt.nodup]
    · rcases List.mem_append.1 hb with hb | hb
      · exact .inl (hfm.own b hb)
      grind
    · by_cases hi : i < es.length
      · rw [Array.getElem?_push_lt (by omega)] at hx
        rw [List.getElem?_append_left hi] at hp;obtain ⟨h1, h2⟩ := hfm.ent i x p (by grind) hp;exact ⟨h1.mono (fun _ h => h) hF, by grind⟩
      · have : i = es.length := by grind
        subst this;rw [nk] at hp;rw [← hsize] at hx;simp at hx
        cases hp
        subst hx;exact ⟨hkv.mono (fun _ h => h) hF, by rw [Mlast]⟩
    · by_cases hi : i < es.length
      · rw [List.getElem?_append_left hi] at hp
        obtain ⟨vs', t', h1, h2, h3⟩ := hfm.mem i p hp
        have hin : M.getD i 0 ∈ M := by grind
        refine ⟨vs', t', ?_, h2, fun o u x hu hx => ⟨(h3 o u x hu hx).1, ?_⟩⟩
        · rw [Mget i hi, hw _ fun e => (hs.mem.own k _ alk (hfm.own _ hin)).2.2.1 k alk e.symm]; exact h1
        · have hI : I' i = I i := if_neg (by omega)
          have := (h3 o u x hu hx).2.mono (g' := g') (w' := w') (fun _ h => h) hF (fun z _ => sim z) fun b c' hI hX => ⟨.inl hX, hw b fun e => (hs.mem.own k b alk hX).2.2.1 k alk e.symm⟩
          simp_all [CellAt, zaV]
      · have : i = es.length := by grind
        subst this;rw [nk] at hp
        cases hp
        refine ⟨vs, t, by rw [Mlast, hw _ fun e => hqk (hs.mem.inj q k alq alk e)]; exact hvs, by rw [hvl, hcl], fun o u c0 hu hc0 => ?_⟩
        have ho : o < xs.length := by grind
        obtain ⟨x, hx⟩ : ∃ x, xs[o]? = some x := ⟨xs[o], zAn ho⟩;obtain ⟨h1, h2⟩ := hvd o u x hu hx;refine ⟨h1, ?_⟩;have hI : I' es.length = J := if_pos rfl;have hno : zaV outs es.length o = none := zpH hfm.olt (Nat.le_refl _);obtain ⟨c1, y, hc1, he⟩ := cellX o x hx;rw [hc0] at hc1
        cases hc1
        rcases he with ⟨e', s', z, l', rfl, hmz, rfl⟩ | ⟨e', s', rfl, rfl⟩ | ⟨z, l', rfl, hmz, rfl⟩ | hp
        · simp only [CellAt]
          rw [hno, hI]
          have hJ : J o = if g.N z = true then none else some (g.β z, g.C z) := by grind
          have hbz := hs.mem.blk z;rw [hmz] at hbz;show InRow g' w' k e' s' J o l' u;unfold InRow;rw [hJ]
          cases h2 with
          | rs n1 n2 n3 =>
            rcases hbz with ⟨hN, hl⟩ | ⟨hN, hr⟩
            · simp_all [if_pos, Gh.base]
            · have hN' : ¬ g.N z = true := by simp [hN]
              rw [if_neg hN'];refine ⟨by simp [Gh.base, hN], .inr ⟨rfl, .inr ⟨o, g.C z, by grind⟩⟩, ?_⟩;refine hr.mono (fun _ h => h) hF (hw _ fun e => ?_);exact (hdk z (eaten o _ z hx rfl)).1 (hs.mem.inj z k (by simp [zab, hmz, hN]) alk e)
        · simp only [CellAt]
          rw [hno, hI]
          have hJ : J o = none := by grind
          show InRow g' w' k e' s' J o [] u;unfold InRow;rw [hJ]
          cases h2
          grind
        · simp only [CellAt]
          rw [hno, hI]
          have hJ : J o = some (g.β z, 0) := by grind
          have hbz := hs.mem.blk z;rw [hmz] at hbz
          cases h2
          refine ⟨g.β z, hJ, rfl, .inr ⟨rfl, .inr ⟨o, 0, hJ⟩⟩, MapAt.mono hbz (fun _ h => h) hF (hw _ fun e => ?_)⟩;exact (hdk z (eaten o _ z hx rfl)).1 (hs.mem.inj z k (by simp [zab, hmz]) alk e)
        · exact zk hp (h2.mono (fun _ h => h) hF fun z _ => sim z)
    · intro hb
      by_cases hi : i = es.length
      · have h : J o = some (b, c') := by simpa only [I', hi, if_true] using h
        obtain ⟨z, x, hx, hz, hzd, rfl, hza⟩ := Jspec o b c' h
        rcases List.mem_append.1 hb with hb | hb
        · exact (hs.mem.own k _ alk (hfm.own _ hb)).2.2.1 z hza rfl
        · simp at hb; exact (hdk z hzd).2 (hs.mem.inj z q hza alq hb)
      · have h : I i o = some (b, c') := by grind
        rcases List.mem_append.1 hb with hb | hb
        · exact hfm.sep i o b c' h hb
        · simp at hb; exact (hs.mem.own k _ alk (hfm.iown i o b c' h)).2.2.1 q alq hb.symm
    · by_cases hi : i = es.length
      · have h1 : J o = some (b, c1) := by simpa only [I', hi, if_true] using h1
        obtain ⟨z, x, hx, hz, hzd, rfl, hza⟩ := Jspec o b c1 h1;by_cases hi' : i' = es.length
        · have h2 : J o' = some (g.β z, c2) := by simpa only [I', hi', if_true] using h2
          obtain ⟨z', x', hx', hz', hzd', hbb, hza'⟩ := Jspec o' _ c2 h2;have : z = z' := hs.mem.inj z z' hza hza' hbb
          grind [znq]
        · have h2 : I i' o' = some (g.β z, c2) := by grind
          exact absurd rfl ((hs.mem.own k _ alk (hfm.iown i' o' _ c2 h2)).2.2.1 z hza)
      · have h1 : I i o = some (b, c1) := by grind
        by_cases hi' : i' = es.length
        · have h2 : J o' = some (b, c2) := by simpa only [I', hi', if_true] using h2
          obtain ⟨z', x', hx', hz', hzd', rfl, hza'⟩ := Jspec o' _ c2 h2;exact absurd rfl ((hs.mem.own k _ alk (hfm.iown i o _ c1 h1)).2.2.1 z' hza')
        · have h2 : I i' o' = some (b, c2) := by grind
          exact hfm.inj i o i' o' b c1 c2 h1 h2
    · by_cases hi : i = es.length
      · have h : J o = some (b, c') := by simpa only [I', hi, if_true] using h
        grind
      · have h : I i o = some (b, c') := by grind
        exact .inl (hfm.iown i o b c' h)
  -- what is owned
  have own' : ∀ j b, zab g' (mApp (dieL ds ++ [(q, .dead), (k, .fam ks (es ++ [(d, cs)]) outs)]) m) j → g'.X j b → (g.X j b ∧ zab g m j) ∨ (j = k ∧ ∃ z, b = g.β z ∧ zab g m z ∧ (z = q ∨ z ∈ ds)) := by grind
  refine ⟨g', { mem := ⟨fun j => ?_, fun i j hi hj => hs.mem.inj i j (alv i hi).1 (alv j hj).1, fun i hi => hs.mem.hot i (alv i hi).1, fun b hb => by rw [hsz]; exact hs.mem.lt b hb, fun j b hj hx => ?_⟩
                env := fun t => ?_
                bornE := fun t i hi => born i (hs.bornE t i hi)
                bornM := fun b i hi => ?_
                os := hos.trans hs.os
                tape := ht.trans hs.tape
                output := hout.trans hs.output
                size := by rw [hsz]; exact hs.size
                keep := fun b hb => ⟨(hs.keep b hb).1, (hw b fun e => (hs.safe k alk).1 (e ▸ hb)).trans (hs.keep b hb).2⟩
                safe := fun j hj => hs.safe j (alv j hj).1
                safeX := fun j b hj hx => ?_
                given := hs.given
                frz := hs.frz
                defers := hs.defers
                tmps := hs.tmps
                pin := fun j hj => ?_ }⟩
  · rw [new]
    split
    · trivial
    · split
      · trivial
      · split
        · rename_i h; subst h; exact ⟨_, _, _, _, hfam⟩
        · rename_i h1 h2 h3
          have hb := hs.mem.blk j;by_cases hbe : g.β j = g.β k
          · cases hm : m j with
            | unborn => trivial
            | dead => trivial
            | row e' s' es' =>
              rw [hm] at hb
              rcases hb with hb | ⟨hb, _⟩
              · exact .inl hb
              · exact absurd (hs.mem.inj k j alk (by simp [zab, hm, hb]) hbe.symm) h3
            | sn e' s' ea' o' es' =>
              rw [hm] at hb
              rcases hb with hb | ⟨cur', I', hb⟩
              · exact .inl hb
              · exact absurd (hs.mem.inj k j alk (by simp [zab, hm, hb.nn]) hbe.symm) h3
            | fz e' s' es' =>
              rw [hm] at hb
              rcases hb with hb | ⟨_, hb, _⟩
              · exact .inl hb
              · exact absurd (hbe ▸ hb) (hs.mem.hot k alk)
            | _ => exact absurd (hs.mem.inj k j alk (by simp [zab, hm]) hbe.symm) h3
          · by_cases ha : zab g m j
            · exact hb.mono (fun _ h => h) hF (sim j) (hw _ hbe) (fun i _ => sim i) (fun b hx => ⟨.inl hx, hw b fun e => (hs.mem.own j b ha hx).2.2.1 k alk e.symm⟩) (hMne j (Ne.symm h3))
            · exact hb.mono0 ha (fun _ h => h) hF (sim j) (hw _ hbe) fun i _ => sim i
  · rcases own' j b hj hx with ⟨hx, hja⟩ | ⟨rfl, z, rfl, hza, hz⟩
    · obtain ⟨x1, x2, x3, x4⟩ := hs.mem.own j b hja hx
      grind
    · refine ⟨by rw [hsz]; exact zbH hs.mem hza, hs.mem.hot z hza, fun i hi he => ?_, fun i hi hxi => ?_⟩
      · have := hs.mem.inj i z (alv i hi).1 hza he
        grind
      · rcases own' i _ hi hxi with ⟨hxi, hia⟩ | ⟨rfl, _⟩
        · exact absurd rfl ((hs.mem.own i _ hia hxi).2.2.1 z hza)
        · rfl
  · rcases hs.env t with h | ⟨v, h1, h2⟩
    · exact .inl h
    · exact .inr ⟨v, h1, h2.mono (fun _ h => h) hF fun z _ => sim z⟩
  · refine born i ?_
    rw [new] at hi
    split at hi
    · simp [Blk.ids] at hi
    · split at hi
      · simp [Blk.ids] at hi
      · split at hi
        · exact hs.bornM k i (by grind [Blk.ids])
        · exact hs.bornM b i hi
  · rcases own' j b hj hx with ⟨hx, hja⟩ | ⟨rfl, z, rfl, hza, _⟩
    · exact hs.safeX j b hja hx
    · exact hs.safe z hza
  · obtain ⟨p1, p2, p3, p4⟩ := hs.pin j hj
    grind
end
end Go.Vc
namespace Go.Vc
open Go.RowKit
section
variable {P:Program} {fr:Fr} {nt:Nat} {g:Gh} {e:Nat->SV} {m:Nat->Blk} {a:Act} {w:World} {c:Ctx} {o:Oper} {K:Dl->List Loc->Prop} {Q:Exit->Act->World->Prop} {l:List Loc}
theorem zg1 {t:TypeId}{ti:TI}(hT:TIok P t ti)(hk:KeyT P t){d:D}(hd:keyD ti d=true){F:Nat->Prop}{v:Value}(hr:Rd F w v d):∃ l,keyOf P t v=some l:=by
 obtain⟨dd,hu,hag,hdesc⟩:=hT.desc
 have comp:∀ cs:List D,zfv ti.zero cs=true->d = .agg cs->zgY P t=some true->(∃ fs,P.underlying t=some (.struct fs))∨(∃ n el,P.underlying t=some (.array n el))->∃ l,keyOf P t v=some l:=by
  intro cs hl he hA hsa;subst he;obtain⟨zs,hz⟩:=hk.2 hA;obtain⟨i,z,q1,q2,q3⟩:=hz.zero;obtain⟨i',z',r1,_,_,r4,r5,_⟩:=hT.info;rw[q1] at r1;cases r1;rw[q2] at r4;cases r4
  have e0:ti.zero=zs:=by grind
  rw[e0] at hl
  cases hr with
  | @agg vs _ p1 p0 p2 =>
   obtain⟨c1,c2,c3⟩:=zfi hl p1 p2;have hlits:=hz.lits (P.types.size-1) vs c1 c3;rw[show P.types.size-1+2=P.types.size+1 by have:=hz.big;omega] at hlits
   have hf:(Value.agg vs.toArray).formed P t=true:=by grind [FlatK.size,Go.Value.formed]
   refine⟨.string (keyBytes (vs.map litV)), ?_⟩
   grind [FlatK.key,Go.keyOf,Go.Value.cells]
 unfold keyD at hd
 cases hkk:ti.k with
 | int kd =>
  rw[hkk] at hd hdesc;simp only at hdesc;subst hdesc
  match d,hd with
  | .v (.int k' n),hd =>
   have:=zcO hd;subst this
   cases hr with
   | v hp=>exact⟨_,Maps.keyOf_int_mk hu (by simp[Lit.wf,hp.1,hp.2])⟩
 | bool =>
  rw[hkk] at hd hdesc;simp only at hdesc;subst hdesc
  match d,hd with
  | .v (.bool b),hd =>
   cases hr with
   | v hp=>exact⟨_,Maps.keyOf_bool_mk hu b⟩
 | str =>
  rw[hkk] at hd hdesc;simp only at hdesc;subst hdesc
  match d,hd with
  | .v (.string s),hd =>
   cases hr with
   | v hp=>exact⟨.string s.data.toList,by simp[keyOf,hu,mapKey,show s.size<=maxLen from hp]⟩
 | struct fs =>
  rw[hkk] at hd hdesc;simp only at hdesc;obtain⟨fields,h1,_⟩:=hdesc
  match d,hd with
  | .agg cs,hd=>exact comp cs hd rfl (by simp[zgY,hu,h1]) (.inl ⟨fields,by rw[hu,h1]⟩)
 | arr n es ag =>
  rw[hkk] at hd hdesc;simp only at hdesc;obtain⟨el,h1,_⟩:=hdesc
  match d,hd with
  | .agg cs,hd=>exact comp cs hd rfl (by simp[zgY,hu,h1]) (.inr ⟨n,el,by rw[hu,h1]⟩)
 | _=>grind
def keyV:D->Value
 | .v x=>x
 | .agg cs=>.agg (cs.map λ d=>match d with | .v x=>x|_=>undef).toArray
 | _=>undef
theorem zqK {ti:TI}{d:D}(hd:keyD ti d=true){F:Nat->Prop}{v:Value}(hr:Rd F w v d):v=keyV d/\((∃ x,d = .v x) ∨ ∃ vs:List Value,d = .agg (vs.map D.v)):=by
 have comp:∀ cs:List D,zfv ti.zero cs=true->d = .agg cs->v=keyV d/\((∃ x,d = .v x) ∨ ∃ vs:List Value,d = .agg (vs.map D.v)):=by
  intro cs hl he;subst he
  cases hr with
  | @agg vs _ p1 p0 p2 =>
   obtain⟨c1,c2,c3⟩:=zfi hl p1 p2;subst c2;refine⟨?_, .inr ⟨vs,rfl⟩⟩;simp[keyV,Function.comp_def]
 unfold keyD at hd
 split at hd
 .split at hd
  .cases hr with|v hp=>exact⟨rfl, .inl ⟨_,rfl⟩⟩
  .cases hd
 .split at hd
  .cases hr with|v hp=>exact⟨rfl, .inl ⟨_,rfl⟩⟩
  .cases hd
 .split at hd
  .cases hr with|v hp=>exact⟨rfl, .inl ⟨_,rfl⟩⟩
  .cases hd
 .grind
 .grind
 .cases hd
theorem zoD {ti:TI}{d d':D}(hd:keyD ti d=true)(hd':keyD ti d'=true){F:Nat->Prop}{v v':Value}(hr:Rd F w v d)(hr':Rd F w v' d'):v=v' ↔ d=d':=by
 obtain⟨h1,h2⟩:=zqK hd hr;obtain⟨h3,h4⟩:=zqK hd' hr';refine⟨λ h=>?_,λ h=>by rw[h1,h3,h]⟩;rw[h1,h3] at h
 have sep:∀ (x:Value) (vs:List Value),keyD ti (.v x)=true->keyD ti (.agg (vs.map D.v))=true->False:=by
  intro x vs a b;unfold keyD at a b
  cases hk:ti.k <;> rw[hk] at a b <;> simp at a b
 rcases h2 with ⟨x,rfl⟩|⟨vs,rfl⟩ <;> rcases h4 with ⟨y,rfl⟩|⟨us,rfl⟩
 .grind [keyV]
 .grind
 .grind
 simp_all [List.map_map,Function.comp_def,List.map_id',Go.Value.agg.injEq,congrArg,keyV]
theorem zju {z d:D}:∀ {es:List (D×D)},(∀ p,p∈es->p.1≠d)->zhW z d es=(z,false)
 | [],_=>rfl
 | p::r,h=>by
  unfold zhW;rw[if_neg (h p (by simp)),zju λ q hq=>h q (by simp[hq])]
theorem zjv {z d:D}:∀ {es:List (D×D)} {j:Nat} {p:D×D},es[j]? = some p->p.1=d->(∀ (i:Nat) q,i<j->es[i]? = some q->q.1≠d)->zhW z d es=(p.2,true)
 | [],j,p,h,_,_=>by simp at h
 | x::r,0,p,h,he,_=>by
  simp_all [if_pos,zhW]
 | x::r,j+1,p,h,he,hb=>by
  unfold zhW;rw[if_neg (hb 0 x (by omega) rfl)];exact zjv (by simpa using h) he λ i q hi hq=>hb (i+1) q (by omega) (by simpa using hq)
theorem zlM {d v:D}:∀ {es:List (D×D)},(∀ p,p∈es->p.1≠d)->setD d v es=es++[(d,v)]
 | [],_=>rfl
 | p::r,h=>by
  unfold setD;rw[if_neg (h p (by simp)),zlM λ q hq=>h q (by simp[hq])];rfl
theorem zlN {d v:D}:∀ {es:List (D×D)} {j:Nat} {p:D×D},es[j]? = some p->p.1=d->(∀ (i:Nat) q,i<j->es[i]? = some q->q.1≠d)->setD d v es=es.set j (d,v)
 | [],j,p,h,_,_=>by simp at h
 | x::r,0,p,h,he,_=>by
  simp_all [if_pos,setD]
 | x::r,j+1,p,h,he,hb=>by
  unfold setD;rw[if_neg (hb 0 x (by omega) rfl),zlN (j:=j) (by simpa using h) he λ i q hi hq=>hb (i+1) q (by omega) (by simpa using hq)];rfl
theorem zeg {t:TypeId}{tk te:TI}(hT:TyOK P c.ty)(h:zlv c t=some (tk,te)):∃ kt et,P.underlying t=some (.map kt et)/\KeyT P kt/\TIok P kt tk/\TIok P et te:=by
 unfold zlv at h
 split at h
 .rename_i kt et s b ag cz zs ms sf pe ht
  split at h
  .rename_i tk' te' h1 h2
   cases h
   obtain⟨dd,hu,_,hd⟩:=(hT t _ ht).desc;simp only at hd;subst hd;exact⟨kt,et,hu,(hT t _ ht).keyt kt et rfl,hT _ _ h1,hT _ _ h2⟩
  .cases h
 .cases h
theorem Den.mp' {v:Value}{k:Nat}(h:DenO g w v (.mp k)):v = .map (some (g.β k)):=by
 rcases h with h|h
 .cases h
 .cases h;rfl
theorem zhH {α:Type}{kt:TypeId}{tk:TI}(hk:KeyT P kt)(hT:TIok P kt tk){arr:Array MapEntry}{es:List (D×α)}(hl:arr.size=es.length)(hpw:arr.toList.Pairwise λ x y=>x.key≠y.key)
  {F:Nat->Prop} (hr:∀ (i:Nat) x p,arr[i]? = some x->es[i]? = some p->Rd F w x.key p.1) (hes:∀ p,p∈es->keyD tk p.1=true) {d:D} (hd:keyD tk d=true) {v:Value} (hv:Rd F w v d) :
  ((Instr.findKey kt v arr.toList).run P w = .ok none w/\(∀ x,x∈arr.toList->x.key≠v)/\∀ p,p∈es->p.1≠d) ∨
   ∃ j x p,(Instr.findKey kt v arr.toList).run P w = .ok (some (j,x.val)) w/\arr[j]? = some x/\x.key=v/\es[j]? = some p/\p.1=d/\∀ (i:Nat) q,i≠j->es[i]? = some q->q.1≠d:=by
 obtain⟨lv,hlv⟩:=zg1 hT hk hd hv
 have at_:∀ (i:Nat) x,arr[i]? = some x->∃ p,es[i]? = some p/\Rd F w x.key p.1/\keyD tk p.1=true:=by
  intro i x hx
  have hi:i<es.length:=by grind
  exact⟨es[i],zAn hi,hr i x _ hx (zAn hi),hes _ (List.getElem_mem hi)⟩
 have to_:∀ (i:Nat) p,es[i]? = some p->∃ x,arr[i]? = some x:=by
  intro i p hp
  have hi:i<arr.size:=by grind
  exact⟨arr[i],Array.getElem?_eq_getElem hi⟩
 have hall:∀ x,x∈arr.toList->∃ l,keyOf P kt x.key=some l:=by grind [List.mem_iff_getElem?,zg1]
 rcases hk.1.find w hlv arr.toList hall with ⟨h1,h2⟩|⟨j,x,h1,h2,h3⟩
 .grind [List.mem_iff_getElem?,zoD]
 grind [zoD,zAp,Array.getElem?_eq_some_iff,Nat.lt_or_gt_of_ne,List.pairwise_iff_getElem]
theorem zdx {t:TypeId}{ti:TI}{z:D}(hT:TIok P t ti)(h:zeD ti=some z)(F:Nat->Prop)(hF:g.F=F):∃ v,(zeroValue t).run P w = .ok v w/\Rd F w v z:=by
 subst hF;obtain⟨i,v,hi,_,_,hz,hc,_⟩:=hT.info;have hza:=hT.zag i v hi hz;refine⟨v,by simp[zeroValue,typeInfo,hi,hz], ?_⟩;unfold zeD at h
 cases hag:ti.agg with
 | true =>
  rw[hag,cond_true] at h;rw[hag] at hza
  match v,hza with
  | .agg cs,_ =>
   have he:cs.toList=ti.zero:=hc
   split at h
   .rename_i d hd
    cases hall:(ti.zero.map SV.ofV1).all SV.one with
    | false=>grind
    | true =>
     rw[hall] at h
     cases h
     have:=zh2 (z:=ti.csz) (zff (g:=g) (w:=w) hall);rw[hd] at this;have hr:=Den.dat' (.inr this);rw[<- he,Array.toArray_toList] at hr;exact hr
   .cases h
 | false =>
  rw[hag,cond_false] at h;rw[hag] at hza
  have one:ti.zero=[v]:=by
   rw[<- hc]
   cases v <;> first|rfl|(simp at hza)
  rw[one] at h;simp only at h
  rcases zfd (g:=g) (w:=w) v with hv|hv
  .rw [hv] at h;cases h
  .exact zbm hv h
theorem zlO {t:TypeId}{r:Option Operand}{id:Nat}(hT:TyOK P c.ty)(hs:SR fr nt g e m a w)(ho:∀ d,o.dst=some d->d<nt)(hid:fr.p<=id/\m id = .unborn)(hop:o.op = .makeMap t r)
  (h:zeG c t r id e m l K):Good P fr nt e m a w o K Q:=by
 unfold zeG at h
 cases r with
 | some _=>exact h.elim
 | none =>
  simp only at h
  have hrun:(execOp a.eval o).run P w = .ok (.value (.map (some w.heap.size))) (w.alloc (.map #[] 0)):=by
   simp[execOp,hop,Instr.makeMap]
  have fin:∀ bl:Blk,bl ≠ .unborn->bl.ids=[]->BlkRel (g.set id w.heap.size 0 false) (w.alloc (.map #[] 0)) id bl->K ⟨.mp id,[(id,bl)]⟩ l->Good P fr nt e m a w o K Q:=by
   intro bl hbl hids hrel h;unfold Good Oper.wp;rw[hrun];refine⟨_,_,h,g.set id w.heap.size 0 false, ?_⟩
   have hp:(g.set id w.heap.size 0 false).β id=w.heap.size:=by simp[Gh.set]
   have h1:=(hs.ext (Ext.alloc w (.map #[] 0))).born (id:=id) (b:=w.heap.size) (cap:=0) (nl:=false) (bl:=bl) hid.1 hid.2 hbl hrel (by rw[hids];simp)
    (λ _=>⟨λ k hk h=>by have:=zbH hs.mem hk;omega,λ h=>by have:=hs.mem.lt _ h;omega,λ h=>by have:=(hs.keep _ h).1;have:=hs.size;omega, .inr hs.size⟩) (λ _ k hk hx=>by have:=(hs.mem.own k _ hk hx).1;omega)
   refine h1.put ho (.inr ?_) ?_
   .have:=Den.mp (g:=g.set id w.heap.size 0 false) (w:=w.alloc (.map #[] 0)) (k:=id)
    grind
   .intro k hk
    simp[SV.ids] at hk;subst hk;rw[zaa,if_pos rfl];exact hbl
  have hp:(g.set id w.heap.size 0 false).β id=w.heap.size:=by simp[Gh.set]
  have hmp:K ⟨.mp id,[(id, .mp [])]⟩ l->Good P fr nt e m a w o K Q:=fin (.mp []) (by simp) rfl ⟨#[],0,by rw[hp];exact zb0 w _,rfl,MapKept.stamped_empty 0,by simp⟩
  cases hmt:zlv c t with
  | some tt =>
   obtain⟨tk,te⟩:=tt;rw[hmt] at h;dsimp only at h
   cases hpk:zqB te.k with
   | true =>
    rw[hpk] at h;exact fin (.fam [] [] []) (by simp) rfl ⟨#[],0,[],λ _ _=>none,⟨by rw[hp];exact zb0 w _,by simp[Gh.set],rfl,rfl,MapKept.stamped_empty 0,by simp,by simp,by simp,by simp,by simp,by simp,by simp,by simp⟩⟩ h
   | false=>rw[hpk] at h;exact hmp h
  | none =>
   rw[hmt] at h;dsimp only at h
   cases ht:c.ty.at t with
   | none=>rw[ht] at h;exact h.elim
   | some ti =>
    obtain⟨k,size,bytes,agg,csz,zero⟩:=ti
    cases k <;> simp only[ht] at h <;> first|exact h.elim|exact hmp h
theorem zqL {t kt et:TypeId}{tk te:TI}{x y:Operand}{ok:Bool}{b cl:Nat}{arr:Array MapEntry}{es:List (D×D)}{d z:D}{q:D×Bool}(hs:SR fr nt g e m a w)(ho:∀ d,o.dst=some d->d<nt)(hop:o.op = .lookup t x y ok)
  (hu:P.underlying t=some (.map kt et)) (hkt:KeyT P kt) (hTk:TIok P kt tk) (hTe:TIok P et te) (hmv:a.eval x = .map (some b)) (b1:w.heap[b]? = some (.map arr cl)) (b2:arr.size=es.length) (b3:MapKept.Stamped arr cl)
  (b4:∀ (i:Nat) x p,arr[i]? = some x->es[i]? = some p->Rd g.F w x.key p.1/\Rd g.F w x.val p.2) (hz:zeD te=some z) (hkd:keyD tk d=true) (hrd:Rd g.F w (a.eval y) d) (hes:∀ p,p∈es->keyD tk p.1=true) (hq:q=zhW z d es)
  (h:(bif ok then one (.tup [SV.ofD q.1, .kb q.2]) else one (SV.ofD q.1)) e m l K):Good P fr nt e m a w o K Q:=by
 obtain⟨zv,z1,z2⟩:=zdx (g:=g) (w:=w) hTe hz _ rfl;obtain⟨lv,hlv⟩:=zg1 hTk hkt hkd hrd;have hck:=hkt.1.check w arr.isEmpty hlv
 have fin:∀ (v:Value) (r:D×Bool),(Instr.lookup t (a.eval x) (a.eval y) ok).run P w = .ok (if ok then .tuple #[v, .bool r.2] else v) w->Rd g.F w v r.1->r=q->Good P fr nt e m a w o K Q:=by
  intro v r hrun hv hr;subst hr
  cases ok with
  | true =>
   rw[cond_true,zat] at h;refine zai hs ho (v := .tuple #[v, .bool r.2]) (by simp_all [Go.execOp]) (.inr ?_) (by simp[SV.ids,SV.idsL,zch]) h;refine .tup (vs:=[v, .bool r.2]) rfl λ i u y hu hy=>?_
   match i with
   | 0 =>
    simp at hu hy;subst hu hy
    rcases zcg hv with h'|h'
    .exfalso;revert h';unfold SV.ofD;split <;> simp
    .exact h'
   | 1=>simp at hu hy;subst hu hy;exact .kb
   | i+2=>simp at hu
  | false =>
   rw[cond_false,zat] at h;exact zai hs ho (v:=v) (by simp_all [Go.execOp]) (zcg hv) (by simp[zch]) h
 rcases zhH (P:=P) (w:=w) hkt hTk b2 (MapKept.stamped_iff _ _ |>.1 b3).2.2 (λ i x p hx hp=>(b4 i x p hx hp).1) hes hkd hrd with ⟨f1,_,f3⟩|⟨j,x',p,f1,f2,f3,f4,f5,f6⟩
 .refine fin zv (z,false) ?_ z2 (by rw[hq,zju f3])
  simp_all [Go.run_underlying,Go.Instr.lookup,Go.getObj,Go.Sem.run]
 .refine fin x'.val (p.2,true) ?_ (b4 j x' p f2 f4).2 (by grind [zjv])
  simp_all [Go.run_underlying,Go.Instr.lookup,Go.getObj,Go.Sem.run]
theorem zqM {t:TypeId}{x y:Operand}{ok:Bool}(hT:TyOK P c.ty)(hs:SR fr nt g e m a w)(ho:∀ d,o.dst=some d->d<nt)(hop:o.op = .lookup t x y ok)
  (h:Pg.opd x (λ sx=>Pg.opd y λ si=>zlw c t sx si ok) e m l K):Good P fr nt e m a w o K Q:=by
 obtain⟨sx,l1,hx,hbx,h⟩:=zah hs h;obtain⟨si,l2,hy,hby,h⟩:=zah hs h;unfold zlw at h
 cases hm:zlv c t with
 | none=>rw[hm] at h;exact h.elim
 | some tt =>
  obtain⟨tk,te⟩:=tt;rw[hm] at h;simp only at h
  cases sx with
  | mp k =>
   simp only[Pg.getB,zaq] at h
   cases hmk:m k with
   | mp es =>
    rw[hmk] at h;simp only at h
    cases hd:si.toD1 0 with
    | none=>rw[hd] at h;exact h.elim
    | some d =>
     rw[hd] at h;simp only at h
     cases hz:zeD te with
     | none=>rw[hz] at h;exact h.elim
     | some z =>
      rw[hz] at h;obtain⟨hkd,h⟩:=zaj h;obtain⟨hes,q,hq,h⟩:=h;obtain⟨kt,et,hu,hkt,hTk,hTe⟩:=zeg hT hm
      have hyd:Den g w (a.eval y) si:=by
       rcases hy with hy|hy
       .subst hy;cases hd
       .exact hy
      have hbl:=hs.mem.blk k;rw[hmk] at hbl;obtain⟨arr,cl,b1,b2,b3,b4⟩:=hbl;exact zqL hs ho hop hu hkt hTk hTe (Den.mp' hx) b1 b2 b3 b4 hz hkd (zbm hyd hd) hes hq h
   | fam ks es outs =>
    rw[hmk] at h;simp only at h
    cases hd:si.toD1 0 with
    | none=>rw[hd] at h;exact h.elim
    | some d =>
     rw[hd] at h;simp only at h;obtain⟨hkd,h3⟩:=zaj h;clear h;simp only[zAr] at hkd;obtain⟨⟨hkd,hok⟩,hnz⟩:=hkd;obtain⟨hes,h4⟩:=h3;simp only[zat] at h4;obtain⟨kt,et,hu,hkt,hTk,hTe⟩:=zeg hT hm
     have hyd:Den g w (a.eval y) si:=by
      rcases hy with hy|hy
      .subst hy;cases hd
      .exact hy
     have hrd:=zbm hyd hd;have hbl:=hs.mem.blk k;rw[hmk] at hbl;obtain⟨arr,cl,M,I,hfm⟩:=hbl
     have hok:ok=false:=by grind
     subst hok
     have hz:zeD te=some (.v (.pointer none)):=by grind [zxJ]
     obtain⟨zv,z1,z2⟩:=zdx (g:=g) (w:=w) hTe hz _ rfl
     have hzv:zv = .pointer none:=by cases z2 with|v _=>rfl
     subst hzv;obtain⟨lv,hlv⟩:=zg1 hTk hkt hkd hrd;have hck:=hkt.1.check w arr.isEmpty hlv;have hmv:=Den.mp' hx
     have fin:∀ (v:Value) (y':SV) (l9:List Loc),(Instr.lookup t (a.eval x) (a.eval y) false).run P w = .ok v w->DenO g w v y'->(∀ q,q∈y'.ids->m q ≠ .unborn)->K ⟨y',[]⟩ l9->Good P fr nt e m a w o K Q:=by
      intro v y' l9 hrun hv hid hK;exact zai hs ho (v:=v) (by simp_all [Go.execOp]) hv hid hK
     have b1:=hfm.hp
     rcases zhH (P:=P) (w:=w) hkt hTk hfm.size (MapKept.stamped_iff _ _ |>.1 hfm.keys).2.2 (λ i x p hx hp=>(hfm.ent i x p hx hp).1) hes hkd hrd with ⟨f1,_,f3⟩|⟨j,x',p,f1,f2,f3,f4,f5,f6⟩
     .have hrun:(Instr.lookup t (a.eval x) (a.eval y) false).run P w = .ok (.pointer none) w:=by simp_all [Go.run_underlying,Go.Instr.lookup,Go.getObj,Go.Sem.run]
      exact fin (.pointer none) nilP _ hrun (.inr (.dat (.v trivial))) (by simp[nilP,SV.ids]) (h4.1 f3)
     .have hrun:(Instr.lookup t (a.eval x) (a.eval y) false).run P w = .ok x'.val w:=by simp_all [Go.run_underlying,Go.Instr.lookup,Go.getObj,Go.Sem.run]
      have hj:j<M.length:=by grind [FamAt.len,zAm]
      refine fin x'.val (.po k j 0) _ hrun ?_ (by simp[SV.ids,hmk]) (h4.2 j p.2 (by rw[f4,<- f5]) λ i q hi hq=>f6 i q (by omega) hq);rw[(hfm.ent j x' p f2 f4).2];exact .inr (.po (by rw[hfm.Mk];simp[hj]))
   | _=>rw[hmk] at h;exact h.elim
  | _=>exact h.elim
theorem zoE {t:TypeId}{x y z:Operand}(hT:TyOK P c.ty)(hs:SR fr nt g e m a w)(ho:∀ d,o.dst=some d->d<nt)(hop:o.op = .mapUpdate t x y z∨o.op = .insert t x y z)
  (h:Pg.opd x (λ sx=>Pg.opd y λ si=>Pg.opd z λ sv=>zpy c t sx si sv) e m l K):Good P fr nt e m a w o K Q:=by
 obtain⟨sx,l1,hx,hbx,h⟩:=zah hs h;obtain⟨si,l2,hy,hby,h⟩:=zah hs h;obtain⟨sv,l3,hz,hbz,h⟩:=zah hs h;unfold zpy at h
 cases hm:zlv c t with
 | none=>rw[hm] at h;exact h.elim
 | some tt =>
  obtain⟨tk,te⟩:=tt;rw[hm] at h;simp only at h
  cases sx with
  | mp k =>
   simp only[Pg.getB,zaq] at h
   cases hmk:m k with
   | mp es =>
    rw[hmk] at h;simp only at h
    cases hd:si.toD1 0 with
    | none=>rw[hd] at h;exact h.elim
    | some d =>
     rw[hd] at h;simp only at h
     cases hv:sv.toD1 (te.csz.headD 0) with
     | none=>rw[hv] at h;exact h.elim
     | some dv =>
      rw[hv] at h;obtain⟨hkd,h⟩:=zaj h;obtain⟨hes,q,hq,h⟩:=h;obtain⟨kt,et,hu,hkt,hTk,hTe⟩:=zeg hT hm
      have hyd:Den g w (a.eval y) si:=by
       rcases hy with hy|hy
       .subst hy;cases hd
       .exact hy
      have hzd:Den g w (a.eval z) sv:=by
       rcases hz with hz|hz
       .subst hz;cases hv
       .exact hz
      have hrd:=zbm hyd hd;have hrv:=zbm hzd hv;have hbl:=hs.mem.blk k;rw[hmk] at hbl;obtain⟨arr,cl,b1,b2,b3,b4⟩:=hbl;obtain⟨lv,hlv⟩:=zg1 hTk hkt hkd hrd;have hck:=hkt.1.check w false hlv;have hst:=hkt.1.stays w hlv;have hmv:=Den.mp' hx
      have hal:zab g m k:=by simp[zab,hmk]
      have fin:∀ (arr':Array MapEntry) (cl':Nat),(Instr.mapUpdate t (a.eval x) (a.eval y) (a.eval z)).run P w = .ok () (ChangeMaps.setBlock w (g.β k) (.map arr' cl'))->arr'.size=q.length->MapKept.Stamped arr' cl' ->
        (∀ (i:Nat) x p,arr'[i]? = some x->q[i]? = some p->Rd g.F w x.key p.1/\Rd g.F w x.val p.2)->Good P fr nt e m a w o K Q:=by
       intro arr' cl' hrun h1 h2 h3;unfold Good Oper.wp
       have hrun':(execOp a.eval o).run P w = .ok .skip (ChangeMaps.setBlock w (g.β k) (.map arr' cl')):=by
        rcases hop with hop|hop <;> (simp_all [Go.execOp])
       rw[hrun'];refine⟨_,_,h,g, ?_⟩;have hlt:g.β k<w.heap.size:=zbH hs.mem hal
       have hother:∀ i,i≠g.β k->(ChangeMaps.setBlock w (g.β k) (.map arr' cl')).heap[i]? = w.heap[i]? := λ i hi=>by
        simp only[ChangeMaps.setBlock]
        grind
       have hrel:BlkRel g (ChangeMaps.setBlock w (g.β k) (.map arr' cl')) k (.mp q):=by
        refine⟨arr',cl',by simp[ChangeMaps.setBlock,hlt],h1,h2,λ i x p hx hp=>?_⟩;have hF:∀ b,g.F b->(ChangeMaps.setBlock w (g.β k) (.map arr' cl')).heap[b]? = w.heap[b]? := λ b hb=>hother b λ he=>hs.mem.hot k hal (he ▸ hb);exact⟨(h3 i x p hx hp).1.mono (λ _ h=>h) hF,(h3 i x p hx hp).2.mono (λ _ h=>h) hF⟩
       exact(hs.setB hal hother (by simp[ChangeMaps.setBlock]) rfl rfl rfl hrel (by simp) (by simp[Blk.ids])).put ho (.inl rfl) (by simp[SV.ids])
      rcases zhH (P:=P) (w:=w) hkt hTk b2 (MapKept.stamped_iff _ _ |>.1 b3).2.2 (λ i x p hx hp=>(b4 i x p hx hp).1) hes hkd hrd with ⟨f1,f2,f3⟩|⟨j,x',p,f1,f2,f3,f4,f5,f6⟩
      .rw [zlM f3] at hq
       subst hq;refine fin (arr.push ⟨a.eval y,a.eval z,cl⟩) (cl+1) ?_ (by simp[b2]) ?_ λ i u p hu hp=>?_
       .simp_all [Go.run_underlying,Go.Instr.mapUpdate,Go.getObj,Go.setObj,Go.Sem.run,Go.ChangeMaps.setBlock]
       .exact MapKept.stamped_push b3 f2
       grind
      .rw [zlN f4 f5 λ i q hi hq=>f6 i q (by omega) hq] at hq
       subst hq;have hj:j<arr.size:=(Array.getElem?_eq_some_iff.1 f2).1;have hgj:arr[j]=x':=(Array.getElem?_eq_some_iff.1 f2).2
       have hget:∀ (i:Nat) u,(arr.modify j λ en=>{ en with key:=a.eval y,val:=a.eval z })[i]? = some u->(i≠j/\arr[i]? = some u)∨(i=j/\u.key=a.eval y/\u.val=a.eval z):=by grind
       refine fin (arr.modify j λ en=>{ en with key:=a.eval y,val:=a.eval z }) cl ?_ (by simp[b2]) ?_ λ i u p hu hp=>?_
       .simp_all [Go.run_underlying,Go.Instr.mapUpdate,Go.getObj,Go.setObj,Go.Sem.run,Go.ChangeMaps.setBlock]
       .exact MapKept.stamped_modify b3 j _ (λ _ _=>rfl) λ x hx hxj=>by grind
       grind
   | fam ks es outs =>
    rw[hmk] at h;simp only at h
    cases hd:si.toD1 0 with
    | none=>rw[hd] at h;exact h.elim
    | some d =>
     rw[hd] at h;dsimp only at h
     split at h
     .rename_i q
      obtain⟨hkd,h3⟩:=zaj h;clear h;simp only[zAr,Bool.not_eq_true'] at hkd;obtain⟨⟨hkd,hpk⟩,hqk⟩:=hkd;obtain⟨⟨hes,hnd⟩,h4⟩:=h3;simp only[Pg.getB,zaq] at h4
      cases hmq:m q with
      | box xs =>
       rw[hmq] at h4;obtain⟨sh,hsh,h5⟩:=h4
       cases heat:zaM ks m sh xs with
       | none=>grind
       | some cd =>
        obtain⟨cs,ds⟩:=cd;rw[heat] at h5;obtain⟨⟨e2,e3,e4⟩,r,rfl,h6⟩:=h5;obtain⟨kt,et,hu,hkt,hTk,hTe⟩:=zeg hT hm
        have hyd:Den g w (a.eval y) si:=by
         rcases hy with hy|hy
         .subst hy;cases hd
         .exact hy
        have hzv:a.eval z = .pointer (some ⟨g.β q,0,none⟩):=by
         rcases hz with hz|hz
         .cases hz
         .generalize a.eval z=v at hz
          cases hz;rfl
        have hrd:=zbm hyd hd;have hbl:=hs.mem.blk k;rw[hmk] at hbl;obtain⟨arr,cl,M,I,hfm⟩:=hbl;have hbq:=hs.mem.blk q;rw[hmq] at hbq;obtain⟨vs,t',v1,v2,v3,_⟩:=hbq;obtain⟨lv,hlv⟩:=zg1 hTk hkt hkd hrd;have hck:=hkt.1.check w false hlv;have hst:=hkt.1.stays w hlv;have hmv:=Den.mp' hx
        have hal:zab g m k:=by simp[zab,hmk]
        have hlt:g.β k<w.heap.size:=zbH hs.mem hal
        rcases zhH (P:=P) (w:=w) hkt hTk hfm.size (MapKept.stamped_iff _ _ |>.1 hfm.keys).2.2 (λ i x p hx hp=>(hfm.ent i x p hx hp).1) hes hkd hrd with ⟨f1,f2,f3⟩|⟨j,x',p,f1,f2,f3,f4,f5,f6⟩
        .have hrun:(Instr.mapUpdate t (a.eval x) (a.eval y) (a.eval z)).run P w = .ok () (ChangeMaps.setBlock w (g.β k) (.map (arr.push ⟨a.eval y,a.eval z,cl⟩) (cl+1))):=by
          rw[hmv];simp[Instr.mapUpdate,run_underlying hu,getObj,setObj,Sem.run,hfm.hp,hck,f1,ChangeMaps.setBlock]
         have hrun':(execOp a.eval o).run P w = .ok .skip (ChangeMaps.setBlock w (g.β k) (.map (arr.push ⟨a.eval y,a.eval z,cl⟩) (cl+1))):=by
          rcases hop with hop|hop <;> (simp_all [Go.execOp])
         have hother:∀ i,i≠g.β k->(ChangeMaps.setBlock w (g.β k) (.map (arr.push ⟨a.eval y,a.eval z,cl⟩) (cl+1))).heap[i]? = w.heap[i]? := λ i hi=>by
          simp only[ChangeMaps.setBlock]
          grind
         obtain⟨g',hs'⟩:=hs.growF (sh:=sh) (w':=ChangeMaps.setBlock w (g.β k) (.map (arr.push ⟨a.eval y,a.eval z,cl⟩) (cl+1))) hmk hmq hfm v1 v2 v3 heat (λ z hz=>by
           have:=List.all_eq_true.1 e3 z hz;simp only[zAr,Bool.not_eq_true'] at this
           grind [Nat.beq_refl]) (λ e=>by grind) e4 hother (by rw[hzv];simp[ChangeMaps.setBlock,hlt]) (by simp[ChangeMaps.setBlock]) rfl rfl rfl hrd f2
         unfold Good Oper.wp;rw[hrun'];exact⟨_,_,h6,g',hs'.put ho (.inl rfl) (by simp[SV.ids])⟩
        grind
      | _=>rw[hmq] at h4;exact h4.elim
     .exact h.elim
   | _=>rw[hmk] at h;exact h.elim
  | _=>exact h.elim
end
end Go.Vc
namespace Go.Vc
open Go.RowKit
section
variable {P:Program} {fr:Fr} {nt:Nat} {g:Gh} {e:Nat->SV} {m:Nat->Blk} {a:Act} {w:World} {c:Ctx} {o:Oper} {K:Dl->List Loc->Prop} {Q:Exit->Act->World->Prop} {l:List Loc}
theorem znr {A:ByteArray->Pg}{x:SV}(h:(match x with | .dat (.v (.string s))=>A s|_=>Pg.fail) e m l K):∃ s,x = .dat (.v (.string s))/\A s e m l K:=by
 split at h
 .grind
 .exact h.elim
theorem zwo (s:ByteArray)(i:Nat)(h:i<s.size):s[i]? = some s[i]/\((s[i]).toNat:Int)=zdc s i:=by
 have h':i<s.data.toList.length:=by simpa using h
 refine⟨getElem?_pos s i h, ?_⟩;unfold zdc;rw[List.getD_eq_getElem?_getD,zAn h'];rfl
theorem zqN (s:ByteArray)(i:Nat):IntKind.u8.min<=zdc s i/\zdc s i<=IntKind.u8.max:=by
 grind [UInt8.toNat_lt,zdc,Go.IntKind.min,Go.IntKind.max,Go.IntKind.signed,Go.IntKind.bits]
theorem zpI {t:TypeId}{x y:Operand}(hT:TyOK P c.ty)(hs:SR fr nt g e m a w)(ho:∀ d,o.dst=some d->d<nt)(hop:o.op = .index t x y)
  (h:Pg.opd x (λ sx=>Pg.opd y λ si=>zhT c t sx si) e m l K):Good P fr nt e m a w o K Q:=by
 obtain⟨sx,l1,hx,_,h⟩:=zah hs h;obtain⟨si,l2,hy,_,h⟩:=zah hs h;unfold zhT at h
 cases ht:c.ty.at t with
 | none=>rw[ht] at h;exact h.elim
 | some ti =>
 obtain⟨kk,sz,by_,ag,cz,zz⟩:=ti;rw[ht] at h
 cases kk with
 | str =>
  obtain⟨d,hd,_,hk⟩:=(hT t _ ht).desc;dsimp only at hk;subst hk;dsimp only at h;obtain⟨s,rfl,h⟩:=znr h
  .obtain ⟨hv,hr⟩:=Den.str hx
   obtain⟨kd,i,q,rfl,rfl,hq,h3⟩:=zbr h;obtain⟨hay,_⟩:=Den.int hy;simp only[Pg.ex,zat] at h3;obtain⟨b,rfl,h3⟩:=h3;obtain⟨g1,g2⟩:=zwo s q hq;refine zai hs ho (v := .int .u8 (zdc s q)) ?_ (zci (zqN s q)) (by simp[SV.ids]) h3
   simp_all [Go.run_underlying,Go.execOp,Go.Instr.index,Go.asIntOf]
 | arr n es ag' =>
  obtain⟨d,hd,_,hk⟩:=(hT t _ ht).desc;dsimp only at hk h;obtain⟨el,rfl,⟨i0,hi0,hsz⟩,hag⟩:=hk
  cases h0:(Nat.beq es 1 && !ag') with
  | false=>simp only[h0,cond_false] at h;exact h.elim
  | true =>
   simp only[h0,cond_true] at h;simp only[zAr,Bool.not_eq_true'] at h0;rw[h0.2] at hag;have hes:=zAo h0.1
   have hagg:(isAgg el).run P w = .ok false w:=by
    unfold zgY at hag
    cases hu:P.underlying el with
    | none=>grind
    | some dd =>
     rw[hu] at hag
     cases dd <;> first|(simp[isAgg,run_underlying hu];done)|(simp at hag)
   rcases hx with hx|hx
   .subst hx;exact h.elim
   generalize hv:a.eval x=v at hx
   cases hx with
   | dat hr =>
    cases hr with
    | @agg vs ds p1 p0 p2 =>
     dsimp only at h;obtain⟨kd,i,q,rfl,rfl,hq,h3⟩:=zbr h;obtain⟨hay,_⟩:=Den.int hy
     cases hdi:ds[q]? with
     | none=>rw[hdi] at h3;exact h3.elim
     | some dd =>
      rw[hdi] at h3;simp only[zat] at h3
      have hl:q<vs.length:=by grind
      refine zai hs ho (v:=vs[q]) ?_ (zcg (p2 q _ dd (zAn hl) hdi)) (by rw[zch];simp) h3
      have hp:(part el vs.toArray q).run P w = .ok vs[q] w:=by
       simp[part,hagg,zAn hl]
      simp_all [Go.run_underlying,Go.sizeOf,Go.typeInfo,Go.execOp,Go.Instr.index,Go.asIntOf]
    | _=>exact h.elim
   | _=>exact h.elim
 | _=>exact h.elim
theorem zns {t:TypeId}{x:Operand}{lo hi:Option Operand}{s:ByteArray}{sz by_:Nat}(hs:SR fr nt g e m a w)(ho:∀ d,o.dst=some d->d<nt)(hop:o.op = .slice t x lo hi none)(hd:P.underlying t=some .string)
  (hv:a.eval x = .string s) (hr:s.size<=maxLen) (h:zls s lo hi e m l K):Good P fr nt e m a w o K Q:=by
 unfold zls at h;obtain⟨i,l1,hi1,h⟩:=zg0 hs h;obtain⟨j,l2,hj1,h⟩:=zcK hs h;obtain⟨⟨c1,c2,c3⟩,q,rfl,h⟩:=h;rw[zat] at h;have hlo:=hi1 c1;have hhi:=hj1 (by omega)
 have hij:i.toNat<=j.toNat:=by omega
 have hjs:j.toNat<=s.size:=by omega
 refine zai hs ho (v := .string (zeC s i.toNat j.toNat)) ?_ (.inr (.dat (.v ?_))) (by simp[SV.ids]) h
 .have key:(Instr.slice t (.string s) (lo.map a.eval) (hi.map a.eval) none).run P w = .ok (.string (s.extract i.toNat j.toNat)) w:=by
   generalize i.toNat=i' at *;generalize j.toNat=j' at *
   cases lo with
   | none =>
    obtain rfl:i'=0:=hlo
    cases hi with
    | none =>
     obtain rfl:j'=s.size:=hhi;simp[Instr.slice,run_underlying hd,Instr.sliceBounds]
    | some hi =>
     obtain⟨kh,hh⟩:=hhi;simp[Instr.slice,run_underlying hd,Instr.sliceBounds,Instr.sliceBound,hh,asIntOf,hjs]
   | some lo =>
    obtain⟨kl,hl⟩:=hlo
    cases hi with
    | none =>
     obtain rfl:j'=s.size:=hhi;simp[Instr.slice,run_underlying hd,Instr.sliceBounds,Instr.sliceBound,hl,asIntOf,hij]
    | some hi =>
     obtain⟨kh,hh⟩:=hhi;simp[Instr.slice,run_underlying hd,Instr.sliceBounds,Instr.sliceBound,hl,hh,asIntOf,hij,hjs]
  simp_all [Go.run_sliceAt_string,Go.execOp,zeC]
 .show (zeC s i.toNat j.toNat).size<=maxLen
  grind [ByteArray.size_extract,zeC]
theorem zpJ {t:TypeId}{x:Operand}{id:Nat}(hT:TyOK P c.ty)(hs:SR fr nt g e m a w)(ho:∀ d,o.dst=some d->d<nt)(hid:fr.p<=id/\m id = .unborn)(hop:o.op = .range t x)
  (h:Pg.opd x (λ sx=>zhX c t sx id) e m l K):Good P fr nt e m a w o K Q:=by
 obtain⟨sx,l1,hx,_,h⟩:=zah hs h;unfold zhX at h
 cases ht:c.ty.at t with
 | none=>rw[ht] at h;exact h.elim
 | some ti =>
 obtain⟨kk,sz,by_,ag,cz,zz⟩:=ti;rw[ht] at h
 cases kk with
 | str =>
  obtain⟨d,hd,_,hk⟩:=(hT t _ ht).desc;dsimp only at hk;subst hk;dsimp only at h;obtain⟨s,rfl,h⟩:=znr h
  .obtain ⟨hv,hr⟩:=Den.str hx
   have hrun:(execOp a.eval o).run P w = .ok (.value (.pointer (some ⟨w.heap.size,0,none⟩))) (w.alloc (.stringIter s 0)):=by simp_all [Go.run_range_string,Go.execOp,Go.World.iter]
   unfold Good Oper.wp;rw[hrun];refine⟨_,_,h,g.set id w.heap.size 0 false, ?_⟩
   have hp:(g.set id w.heap.size 0 false).β id=w.heap.size:=by simp[Gh.set]
   have h1:=(hs.ext (Ext.alloc w (.stringIter s 0))).born (id:=id) (b:=w.heap.size) (cap:=0) (nl:=false) (bl := .sit s 0) hid.1 hid.2 (by simp) ⟨by rw[hp];exact zb0 w _,hr⟩ (by simp[Blk.ids])
    (λ _=>⟨λ k hk h=>by have:=zbH hs.mem hk;omega,λ h=>by have:=hs.mem.lt _ h;omega,λ h=>by have:=(hs.keep _ h).1;have:=hs.size;omega, .inr hs.size⟩) (λ _ k hk hx=>by have:=(hs.mem.own k _ hk hx).1;omega)
   refine h1.put ho (.inr ?_) ?_
   .have:=Den.ptr (g:=g.set id w.heap.size 0 false) (w:=w.alloc (.stringIter s 0)) (k:=id) (o:=0)
    grind
   .intro k hk
    simp[SV.ids] at hk;subst hk;rw[zaa,if_pos rfl];simp
 | _=>exact h.elim
theorem ztM {w:World}{b:Nat}{o1 o2:Obj}(h:w.heap[b]? = some o1):(({ w with heap:=w.heap.setIfInBounds b o2 }:World).heap[b]? = some o2)/\∀ i,i≠b->({ w with heap:=w.heap.setIfInBounds b o2 }:World).heap[i]? = w.heap[i]? := by
 grind
theorem zqO {x:Operand}{is:Bool}(hs:SR fr nt g e m a w)(ho:∀ d,o.dst=some d->d<nt)(hop:o.op = .next x is)(his:is=true)
  (h:Pg.opd x zlx e m l K):Good P fr nt e m a w o K Q:=by
 obtain⟨sx,l1,hx,_,h⟩:=zah hs h;subst his
 have h:∃ k,sx = .ptr k 0/\(Pg.getB k fun | .sit s p=>Pg.both (decide (p<s.size)) (Pg.ex (λ q:Int×Nat=>q=zd0 s p) λ q=>Pg.ret ⟨.tup [.kb true, .dat (.v (.int .i64 p)), .dat (.v (.int .i32 q.1))],[(k, .sit s q.2)]⟩) (one (.tup [.kb false]))|_=>Pg.fail) e m l1 K:=by
  unfold zlx at h
  split at h
  .grind
  .exact h.elim
 obtain⟨k,rfl,hN⟩:=h
 .unfold Pg.getB at hN
  rw[zaq] at hN
  cases hm:m k with
  | sit s p =>
   rw[hm] at hN;have hb:=hs.mem.blk k;rw[hm] at hb;obtain⟨b1,b2⟩:=hb
   have hv:a.eval x = .pointer (some ⟨g.β k,0,none⟩):=by
    rcases hx with hx|hx
    .cases hx
    .generalize a.eval x=v at hx
     cases hx;rfl
   by_cases hp:p<s.size
   .have h2:=hN.1 (by simpa using hp)
    obtain⟨q,rfl,hK⟩:=h2
    let w':World:={ w with heap:=w.heap.setIfInBounds (g.β k) (.stringIter s (p+(Utf8.decode s p).2)) }
    have hrun:(execOp a.eval o).run P w = .ok (.value (.tuple #[.bool true, .int .i64 p, .int .i32 (Utf8.decode s p).1])) w':=by
     simp[execOp,hop,hv,Instr.next,getObj,setObj,Sem.run,b1,Result.andThen,hp,goInt,w']
    unfold Good Oper.wp;rw[hrun];refine⟨_,_,hK,g, ?_⟩;obtain⟨hs1,hs2⟩:=ztM (o2 := .stringIter s (p+(Utf8.decode s p).2)) b1
    have hk:zab g m k:=by simp[zab,hm]
    have h3:SR fr nt g e (mApp [(k, .sit s (p+(Utf8.decode s p).2))] m) a w':=hs.setB hk hs2 (by simp[w']) rfl rfl rfl ⟨hs1,b2⟩ (by simp) (by simp[Blk.ids]);refine h3.put ho (.inr ?_) (by simp[SV.ids,SV.idsL]);refine .tup (vs:=[.bool true, .int .i64 p, .int .i32 (Utf8.decode s p).1]) rfl λ i u y hu hy=>?_
    match i,hu,hy with
    | 0,hu,hy=>cases hu;cases hy;exact .kb
    | 1,hu,hy=>cases hu;cases hy;exact .dat (.v (zgn (by omega)))
    | 2,hu,hy =>
     cases hu;cases hy
     have:=decode_le s p;exact .dat (.v (by simp[pl,zd0,IntKind.min,IntKind.max,IntKind.signed,IntKind.bits];omega))
   .have h2:=hN.2 (by simpa using hp)
    rw[zat] at h2;refine zai hs ho (v := .tuple #[.bool false]) ?_ (.inr (.tup (vs:=[.bool false]) rfl λ i u y hu hy=>?_)) (by simp[SV.ids,SV.idsL]) h2
    .simp [execOp,hop,hv,Instr.next,getObj,Sem.run,b1,hp]
    .match i,hu,hy with
     | 0,hu,hy=>cases hu;cases hy;exact .kb
  | _=>rw[hm] at hN;exact hN.elim
theorem SR.grow {w':World}(h:SR fr nt g e m a w)(hw:Ext w w'):SR fr nt { g with F:=λ b=>g.F b∨(w.heap.size<=b/\b<w'.heap.size) } e m a w':=by
 have h':=h.ext hw;have hF:∀ b,g.F b->g.F b∨(w.heap.size<=b/\b<w'.heap.size):=λ b hb=>.inl hb;refine { h' with mem:=⟨λ k=>h'.mem.blkMono hF (λ _ _=>rfl) ⟨rfl,rfl,rfl,List.prefix_rfl⟩ rfl (λ _ _=>⟨rfl,rfl,rfl,List.prefix_rfl⟩) λ _ b hx=>⟨hx,rfl⟩,h'.mem.inj,λ k hk hb=>?_,λ b hb=>?_,λ k b hk hx=>?_⟩,env:=λ t=>?_,given:=λ b hb=>.inl (h'.given b hb),frz:=λ b hb=>?_ }
 .rcases hb with hb|hb
  .exact h'.mem.hot k hk hb
  .have:=zbH h.mem hk
   grind
 .rcases hb with hb|hb
  .exact h'.mem.lt b hb
  .exact hb.2
 .obtain ⟨x1,x2,x3,x4⟩:=h'.mem.own k b hk hx
  refine⟨x1, ?_,x3,x4⟩;rintro(hb|hb)
  .exact x2 hb
  .have:=(h.mem.own k b hk hx).1
   omega
 .rcases h'.env t with hh|⟨v,h1,h2⟩
  .exact .inl hh
  .exact .inr ⟨v,h1,h2.mono hF (λ _ _=>rfl) λ _ _=>⟨rfl,rfl,rfl,List.prefix_rfl⟩⟩
 .rcases hb with hb|hb
  .exact h'.frz b hb
  .exact .inr (Nat.le_trans h.size hb.1)
theorem zh9:∀ {ds:List D} {q:List UInt8},zdG ds=some q->q.length=ds.length/\∀ (i:Nat) d,ds[i]? = some d->∃ n,d = .v (.int .u8 n)/\q[i]? = some (UInt8.ofNat n.toNat)
 | [],q,h=>by grind [zdG]
 | d::r,q,h=>by
  unfold zdG at h
  split at h
  .grind
  .rename_i n r' hd
   cases hd
   cases hb:zdG r with
   | none=>grind
   | some l =>
    rw[hb] at h
    cases h
    obtain⟨h1,h2⟩:=zh9 hb
    grind
  .cases h
theorem zlP {src dst el : TypeId}{x : Operand}{sx : SV}{l' : List Loc}(hT : TyOK P c.ty)(hs : SR fr nt g e m a w)(ho : ∀ d, o.dst = some d -> d < nt)(hop : o.op = .convert src dst x)
    (hsrc : P.underlying src = some .string) (hdst : P.underlying dst = some (.slice el)) (hx : DenO g w (a.eval x) sx) (h : zgg c el sx e m l' K) : Good P fr nt e m a w o K Q := by
  unfold zgg at h
  cases ht : c.ty.at el with
  | none => rw [ht] at h; exact h.elim
  | some ti =>
  obtain ⟨kk, sz, by_, ag, cz, zz⟩ := ti;rw [ht] at h
  cases kk with
  | int k8 =>
   cases k8 with
   | u8 =>
    match sz, ht, h with
    | 0, ht, h => exact h.elim
    | n + 2, ht, h => exact h.elim
    | 1, ht, h =>
    obtain ⟨d, hd, _, hk⟩ := (hT el _ ht).desc;dsimp only at hk h;subst hk;obtain ⟨s, rfl, h⟩ := znr h
    . obtain ⟨hv, hr⟩ := Den.str hx
      obtain ⟨q, rfl, h⟩ := h;have hcv := run_bytes_of_string (P := P) w src dst el s hsrc hdst hd;generalize hcap : grownCap w s.size 0 el = cap at hcv
      have hc1 : s.size <= cap := by grind [Go.grownCap_ge]
      have hc2 : cap <= maxLen := by grind [Go.grownCap_le_maxLen]
      generalize hC : bytesRow s cap = C at hcv
      have hcell : ∀ (j : Nat) (b : UInt8), s.data.toList[j]? = some b -> C[j]? = some (Value.int .u8 b.toNat) := by grind [zAm, Array.getElem?_append_left, Go.bytesRow, Array.size, GetElem?.getElem?]
      have hrun : (execOp a.eval o).run P w = .ok (.value (.slice (some ⟨w.heap.size, 0, none⟩) s.size cap)) (w.drew.alloc (.cells C el (C.size, C.size + 1))) := by simp_all [Go.execOp]
      have hext : Ext w (w.drew.alloc (.cells C el (C.size, C.size + 1))) := by
        have h1 := Ext.drew w;have h2 := Ext.alloc w.drew (.cells C el (C.size, C.size + 1));exact ⟨h2.os.trans h1.os, h2.tape.trans h1.tape, h2.output.trans h1.output, Nat.le_trans h1.size h2.size, λ b hb => (h2.old b (Nat.lt_of_lt_of_le hb h1.size)).trans (h1.old b hb)⟩
      have hgr := hs.grow hext;have hnew : (w.drew.alloc (.cells C el (C.size, C.size + 1))).heap[w.heap.size]? = some (.cells C el (C.size, C.size + 1)) := zb0 w.drew _
      have hsz : (w.drew.alloc (.cells C el (C.size, C.size + 1))).heap.size = w.heap.size + 1 := by simp_all
      rw [zat] at h;unfold Good Oper.wp;rw [hrun];refine ⟨_, _, h, _, hgr.put ho (.inr (.dat ?_)) (by simp [SV.ids])⟩;refine .sl (s := 1) (λ i j => Value.int .u8 ((s.data.toList.getD i 0).toNat)) (by simp) hc1 hc2 (.inr ⟨Nat.le_refl _, by rw [hsz]; omega⟩) (λ el hel => ?_) (λ i j el' d hel hdd => ?_) (λ _ _ _ _ _ _ => rfl) λ i j el' d hel hdd => ?_
      . obtain ⟨b, _, rfl⟩ := List.mem_map.1 hel; rfl
      . rw [List.getElem?_map] at hel
        cases hb : s.data.toList[i]? with
        | none => rw [hb] at hel; cases hel
        | some b =>
          rw [hb] at hel; cases hel
          have hj : j = 0 := by
            have := (zAm.1 hdd).1;simp [D.cells] at this; omega
          subst hj;have h1 := hcell i b hb;have h2 := cell_of_row _ w.heap.size i C el _ hnew;rw [show 0 + i * 1 + 0 = i by omega, h2, h1, List.getD_eq_getElem?_getD, hb]; rfl
      . rw [List.getElem?_map] at hel
        cases hb : s.data.toList[i]? with
        | none => rw [hb] at hel; cases hel
        | some b =>
          rw [hb] at hel; cases hel
          have hj : j = 0 := by
            have := (zAm.1 hdd).1;simp [D.cells] at this; omega
          subst hj;simp [D.cells] at hdd;subst hdd;simp only [List.getD_eq_getElem?_getD, hb, Option.getD_some];have := b.toNat_lt;exact .v (by simp [pl, IntKind.min, IntKind.max, IntKind.signed, IntKind.bits]; omega)
   | _ => exact h.elim
  | _ => exact h.elim
theorem zqP {src dst:TypeId}{x:Operand}(hT:TyOK P c.ty)(hs:SR fr nt g e m a w)(ho:∀ d,o.dst=some d->d<nt)(hop:o.op = .convert src dst x)
  (h:Pg.opd x (λ sx=>zly c src dst sx) e m l K):Good P fr nt e m a w o K Q:=by
 obtain⟨sv,l',hx,hb,h1⟩:=zah hs h;unfold zly at h1
 cases hts:c.ty.at src with
 | none=>simp only[hts] at h1;exact h1.elim
 | some tsrc =>
 cases ht:c.ty.at dst with
 | none=>simp only[hts,ht] at h1;exact h1.elim
 | some ti =>
 obtain⟨k1,sz1,by1,ag1,cz1,z1⟩:=tsrc;obtain⟨k2,sz2,by2,ag2,cz2,z2⟩:=ti;simp only[hts,ht] at h1;obtain⟨d1,hd1,_,hk1⟩:=(hT src _ hts).desc;obtain⟨d,hd,_,hk⟩:=(hT dst _ ht).desc
 cases k2 with
 | int k =>
  dsimp only at h1 hk
  have hsrc:(P.underlying src).isSome=true:=by rw[hd1];rfl
  subst hk
  have h1:∃ k' n,sv = .dat (.v (.int k' n))/\(bif zoy k' k then one (.dat (.v (.int k n))) else int? (k.wrap n) λ c=>one (.dat (.v (.int k c)))) e m l' K:=by
   split at h1
   .grind
   .exact h1.elim
  obtain⟨k',n,rfl,h1⟩:=h1
  .obtain ⟨hv,hr⟩:=Den.int hx
   have hik:P.intKind dst=k:=by simp[Program.intKind,hd]
   have this:∀ k' n,(convert src dst (.int k' n)).run P w = .ok (.int k (k.wrap n)) w:=by grind [Go.run_convert_int]
   cases hw:zoy k' k with
   | true =>
    simp only[hw,cond_true,zat] at h1
    have hk:k.min<=n/\n<=k.max:=by
     clear this hv hx hb h1 hik hd ht hts hsrc hd1 hk1
     cases k' <;> cases k <;> simp only[zoy,Bool.false_eq_true,reduceCtorEq] at hw <;> simp[IntKind.min,IntKind.max,IntKind.signed,IntKind.bits] at hr ⊢ <;> omega
    have h2:=this k' n;rw[znl hk] at h2;exact zai hs ho (by simp[execOp,hop,hv,h2]) (zci hk) (by simp[SV.ids]) h1
   | false =>
    simp only[hw,cond_false] at h1;simp only[int?,Pg.ex,zat] at h1;obtain⟨cc,rfl,hK⟩:=h1;exact zai hs ho (by simp[execOp,hop,hv,this]) (zci (zgZ _ _)) (by simp[SV.ids]) hK
 | str =>
  dsimp only at hk;subst hk
  cases k1 with
  | _=>exact h1.elim
 | slice e1 es1 ea1 =>
  dsimp only at hk;obtain⟨rfl,_⟩:=hk
  cases k1 with
  | str =>
   dsimp only at hk1;subst hk1;exact zlP hT hs ho hop hd1 hd hx h1
  | _=>exact h1.elim
 | _=>cases k1 <;> exact h1.elim
end
end Go.Vc
namespace Go.Vc
open Go.RowKit
section
variable {P:Program} {fr:Fr} {nt:Nat} {g:Gh} {e:Nat->SV} {m:Nat->Blk} {a:Act} {w:World} {c:Ctx} {o:Oper} {K:Dl->List Loc->Prop} {Q:Exit->Act->World->Prop} {l:List Loc}
def OwnS (g:Gh)(m:Nat->Blk)(k b:Nat):Prop:=zab g m k/\(g.β k=b∨g.X k b)
theorem SR.ownS (h:SR fr nt g e m a w){k b:Nat}(ho:OwnS g m k b):b<w.heap.size/\¬ g.F b/\(¬ fr.Kp b/\(fr.Y b∨fr.w0.heap.size<=b)):=by
 obtain⟨ha,rfl|hx⟩:=ho
 .exact ⟨zbH h.mem ha,h.mem.hot k ha,h.safe k ha⟩
 .exact ⟨(h.mem.own k b ha hx).1,(h.mem.own k b ha hx).2.1,h.safeX k b ha hx⟩
theorem SR.ownU (h:SR fr nt g e m a w){k k' b:Nat}(ho:OwnS g m k b)(ho':OwnS g m k' b):k=k':=by
 obtain⟨ha,rfl|hx⟩:=ho
 .obtain ⟨ha',h1|hx'⟩:=ho'
  .exact h.mem.inj _ _ ha ha' h1.symm
  .exact absurd rfl ((h.mem.own k' _ ha' hx').2.2.1 k ha)
 .obtain ⟨ha',rfl|hx'⟩:=ho'
  .exact absurd rfl ((h.mem.own k _ ha hx).2.2.1 k' ha')
  .exact ((h.mem.own k b ha hx).2.2.2 k' ha' hx').symm
theorem SR.ownX (h:SR fr nt g e m a w){k:Nat}(ha:zab g m k):¬ g.X k (g.β k):=λ hx=>(h.mem.own k _ ha hx).2.2.1 k ha rfl
theorem SR.regh {g' : Gh}{m' : Nat → Blk}(h : SR fr nt g e m a w)(hF : ∀ b, g.F b → g'.F b)(hFn : ∀ b, g'.F b → g.F b ∨ ∃ k, OwnS g m k b)
    (hag : ∀ k, m k ≠ .unborn → g'.β k = g.β k ∧ g'.C k = g.C k ∧ g'.N k = g.N k ∧ g.M k <+: g'.M k) (hpin : ∀ k, k < fr.p → g'.β k = g.β k ∧ g'.C k = g.C k ∧ g'.N k = g.N k ∧ g.M k <+: g'.M k) (hborn : ∀ k, m k ≠ .unborn → m' k ≠ .unborn)
    (hblk : ∀ k, BlkRel g' w k (m' k)) (hids : ∀ b k, k ∈ (m' b).ids → m' k ≠ .unborn) (hown : ∀ k b, OwnS g' m' k b → ∃ k0, OwnS g m k0 b) (hhot : ∀ k b, OwnS g' m' k b → ¬ g'.F b)
    (huniq : ∀ k k' b, OwnS g' m' k b → OwnS g' m' k' b → k = k') (hsep : ∀ k, zab g' m' k → ¬ g'.X k (g'.β k)) : SR fr nt g' e m' a w := by
  refine { h with mem := ⟨hblk, fun i j hi hj hij => huniq i j _ ⟨hi, .inl rfl⟩ ⟨hj, .inl hij.symm⟩, fun i hi => hhot i _ ⟨hi, .inl rfl⟩, fun b hb => ?_, fun k b hk hx => ?_⟩, env := fun t => ?_, bornE := fun t k hk => hborn k (h.bornE t k hk), bornM := hids,
                  safe := fun k hk => ?_, safeX := fun k b hk hx => ?_, given := fun b hb => hF b (h.given b hb), frz := fun b hb => ?_, pin := fun k hk => ?_ }
  · rcases hFn b hb with hb | ⟨k, hk⟩
    · exact h.mem.lt b hb
    · exact (h.ownS hk).1
  · obtain ⟨k0, hk0⟩ := hown k b ⟨hk, .inr hx⟩
    refine ⟨(h.ownS hk0).1, hhot k b ⟨hk, .inr hx⟩, fun k' hk' he => ?_, fun k' hk' hx' => huniq k' k b ⟨hk', .inr hx'⟩ ⟨hk, .inr hx⟩⟩;have := huniq k' k b ⟨hk', .inl he⟩ ⟨hk, .inr hx⟩
    grind
  · rcases h.env t with h' | ⟨v, h1, h2⟩
    · exact .inl h'
    · exact .inr ⟨v, h1, h2.mono hF (fun _ _ => rfl) fun k hk => hag k (h.bornE t k hk)⟩
  · obtain ⟨k0, hk0⟩ := hown k _ ⟨hk, .inl rfl⟩
    exact (h.ownS hk0).2.2
  · obtain ⟨k0, hk0⟩ := hown k b ⟨hk, .inr hx⟩
    exact (h.ownS hk0).2.2
  · rcases hFn b hb with hb | ⟨k, hk⟩
    · exact h.frz b hb
    · exact (h.ownS hk).2.2.2
  · rw [(hpin k hk).1, (hpin k hk).2.1, (hpin k hk).2.2.1]; exact ⟨(h.pin k hk).1, (h.pin k hk).2.1, (h.pin k hk).2.2.1, (h.pin k hk).2.2.2.trans (hpin k hk).2.2.2⟩
theorem SR.renew {g' : Gh}{m' : Nat → Blk}{w' : World}(h : SR fr nt g e m a w)(hos : w'.os = w.os)(ht : w'.tape = w.tape)(hout : w'.output = w.output)(hsz : w.heap.size ≤ w'.heap.size)(hFe : g'.F = g.F)
    (hold : ∀ b, b < w.heap.size → w'.heap[b]? = w.heap[b]? ∨ ∃ k, OwnS g m k b)
    (hag : ∀ k, m k ≠ .unborn → g'.β k = g.β k ∧ g'.C k = g.C k ∧ g'.N k = g.N k ∧ g.M k <+: g'.M k) (hpin : ∀ k, k < fr.p → g'.β k = g.β k ∧ g'.C k = g.C k ∧ g'.N k = g.N k ∧ g.M k <+: g'.M k) (hborn : ∀ k, m k ≠ .unborn → m' k ≠ .unborn)
    (hblk : ∀ k, BlkRel g' w' k (m' k)) (hids : ∀ b k, k ∈ (m' b).ids → m' k ≠ .unborn) (hown : ∀ k b, OwnS g' m' k b → (∃ k0, OwnS g m k0 b) ∨ (w.heap.size ≤ b ∧ b < w'.heap.size))
    (huniq : ∀ k k' b, OwnS g' m' k b → OwnS g' m' k' b → k = k') (hsep : ∀ k, zab g' m' k → ¬ g'.X k (g'.β k)) : SR fr nt g' e m' a w' := by
  have hF : ∀ b, g.F b → g'.F b := fun b hb => by grind
  have hw : ∀ b, g.F b → w'.heap[b]? = w.heap[b]? := fun b hb => by
    rcases hold b (h.mem.lt b hb) with h1 | ⟨k, hk⟩
    · exact h1
    · exact absurd hb (h.ownS hk).2.1
  have own3 : ∀ k b, OwnS g' m' k b → b < w'.heap.size ∧ ¬ g'.F b ∧ (¬ fr.Kp b ∧ (fr.Y b ∨ fr.w0.heap.size ≤ b)) := by
    intro k b hk
    rcases hown k b hk with ⟨k0, h0⟩ | ⟨h1, h2⟩
    · exact ⟨Nat.lt_of_lt_of_le (h.ownS h0).1 hsz, by rw [hFe]; exact (h.ownS h0).2.1, (h.ownS h0).2.2⟩
    · refine ⟨h2, fun hf => ?_, fun hk => ?_, .inr (Nat.le_trans h.size h1)⟩
      · rw [hFe] at hf; grind
      · have := (h.keep b hk).1; have := h.size; omega
  refine { h with mem := ⟨hblk, fun i j hi hj hij => huniq i j _ ⟨hi, .inl rfl⟩ ⟨hj, .inl hij.symm⟩, fun i hi => (own3 i _ ⟨hi, .inl rfl⟩).2.1, fun b hb => ?_, fun k b hk hx => ?_⟩, env := fun t => ?_, bornE := fun t k hk => hborn k (h.bornE t k hk), bornM := hids,
                  os := hos.trans h.os, tape := ht.trans h.tape, output := hout.trans h.output, size := Nat.le_trans h.size hsz, keep := fun b hb => ?_,
                  safe := fun k hk => (own3 k _ ⟨hk, .inl rfl⟩).2.2, safeX := fun k b hk hx => (own3 k b ⟨hk, .inr hx⟩).2.2, given := fun b hb => hF b (h.given b hb), frz := fun b hb => ?_, pin := fun k hk => ?_ }
  · rw [hFe] at hb; exact Nat.lt_of_lt_of_le (h.mem.lt b hb) hsz
  · refine ⟨(own3 k b ⟨hk, .inr hx⟩).1, (own3 k b ⟨hk, .inr hx⟩).2.1, fun k' hk' he => ?_, fun k' hk' hx' => huniq k' k b ⟨hk', .inr hx'⟩ ⟨hk, .inr hx⟩⟩
    have := huniq k' k b ⟨hk', .inl he⟩ ⟨hk, .inr hx⟩
    grind
  · rcases h.env t with h' | ⟨v, h1, h2⟩
    · exact .inl h'
    · exact .inr ⟨v, h1, h2.mono hF hw fun k hk => hag k (h.bornE t k hk)⟩
  · obtain ⟨h3, h4⟩ := h.keep b hb
    refine ⟨h3, ?_⟩
    rcases hold b (Nat.lt_of_lt_of_le h3 h.size) with h1 | ⟨k, hk⟩
    · grind
    · exact absurd hb (h.ownS hk).2.2.1
  · rw [hFe] at hb; exact h.frz b hb
  · rw [(hpin k hk).1, (hpin k hk).2.1, (hpin k hk).2.2.1]; exact ⟨(h.pin k hk).1, (h.pin k hk).2.1, (h.pin k hk).2.2.1, (h.pin k hk).2.2.2.trans (hpin k hk).2.2.2⟩
theorem zdI {es:List (List MC)}{i o:Nat}{x:MC}(h:snAt es i o=some x):∃ l,es[i]? = some l/\l[o]? = some x:=by
 grind [snAt]
theorem SR.take {k id i o s s':Nat}{e1 e':TypeId}{ea:Bool}{es:List (List MC)}{l1:List D}(hs:SR fr nt g e m a w)(hm:m k = .sn e1 s ea none es)(hi:snAt es i o=some (.r e' s' l1))(hid:fr.p<=id/\m id = .unborn) :
  ∃ g' v,w.cell? ⟨g.β k,co (g.C k)+(i*s+o),none⟩=some v/\SR fr nt g' e (mApp [(id, .row e' s' l1),(k, .sn e1 s ea (some (i,o,id)) es)] m) a w/\DenO g' w v (.rs id l1.length):=by
 have hb:=hs.mem.blk k;rw[hm] at hb;obtain⟨li,hli,hlo⟩:=zdI hi
 obtain⟨cur,I,hS⟩:∃ cur I,SnAt g w k e1 s none es cur I:=by
  rcases hb with ⟨_,h,_⟩|h
  .grind
  .exact h
 obtain⟨v,hv,hv1,hv2⟩:=hS.mem i o li _ hli hlo
 rcases hv2 with ⟨z,hz,_⟩|⟨_,hin⟩
 .cases hz
 have hkid:k≠id:=λ e=>by grind
 have hcell:w.cell? ⟨g.β k,co (g.C k)+(i*s+o),none⟩=some v:=by grind [SnAt.hp,Go.cell_of_row]
 have hak:zab g m k:=by simp[zab,hm,hS.nn]
 -- the ghosts
 obtain⟨b,cp,nl,hbc,hnl⟩:∃ b cp nl,(nl=true->l1=[]/\v = .slice none 0 0)/\(nl=false->I i o=some (b,cp)/\v = .slice (some ⟨b,co cp,none⟩) l1.length (cc cp)/\g.X k b/\RowAt g.F w b e' s' cp l1):=by
  unfold InRow at hin
  cases hI:I i o with
  | none=>simp_all
  | some bc=>obtain⟨b,cp⟩:=bc;rw[hI] at hin;exact⟨b,cp,false,by simp,λ _=>⟨rfl,hin⟩⟩
 let g':Gh:={ β:=λ q=>if q=id then b else g.β q,C:=λ q=>if q=id then cp else g.C q,N:=λ q=>if q=id then nl else g.N q,M:=g.M,F:=g.F,X:=λ q d=>q≠id/\g.X q d/\(nl=false->¬ (q=k/\d=b)) }
 have agree:∀ q,q≠id->g'.β q=g.β q/\g'.C q=g.C q/\g'.N q=g.N q/\g.M q <+: g'.M q:=λ q hq=>by simp[g',hq]
 have ne:∀ q,m q ≠ .unborn->q≠id:=λ q hq e=>hq (e ▸ hid.2)
 have mid:mApp [(id, .row e' s' l1),(k, .sn e1 s ea (some (i,o,id)) es)] m id = .row e' s' l1:=by rw[zaa,if_pos rfl]
 have mk:mApp [(id, .row e' s' l1),(k, .sn e1 s ea (some (i,o,id)) es)] m k = .sn e1 s ea (some (i,o,id)) es:=by rw[zaa,if_neg (Ne.symm hkid),zaa,if_pos rfl]
 have mo:∀ q,q≠id->q≠k->mApp [(id, .row e' s' l1),(k, .sn e1 s ea (some (i,o,id)) es)] m q=m q:=λ q h1 h2=>by rw[zaa,if_neg (Ne.symm h1),zaa,if_neg (Ne.symm h2)];rfl
 have born:∀ q,m q ≠ .unborn->mApp [(id, .row e' s' l1),(k, .sn e1 s ea (some (i,o,id)) es)] m q ≠ .unborn:=by grind
 have alv:∀ q,q≠id->(zab g' (mApp [(id, .row e' s' l1),(k, .sn e1 s ea (some (i,o,id)) es)] m) q ↔ zab g m q):=by
  intro q hq;by_cases hqk:q=k
  .subst hqk;unfold zab;rw[mk,hm,(agree q hq).2.2.1]
  .unfold zab;rw[mo q hq hqk,(agree q hq).2.2.1]
 have alvid:zab g' (mApp [(id, .row e' s' l1),(k, .sn e1 s ea (some (i,o,id)) es)] m) id->nl=false:=by grind [zab]
 have old:∀ q d,OwnS g' (mApp [(id, .row e' s' l1),(k, .sn e1 s ea (some (i,o,id)) es)] m) q d->(q=id/\d=b/\nl=false)∨(q≠id/\OwnS g m q d/\(nl=false->¬ (q=k/\d=b))):=by
  rintro q d ⟨ha,hx⟩;by_cases hq:q=id
  .grind
  .refine .inr ⟨hq, ?_⟩
   have ha':=(alv q hq).1 ha
   rcases hx with hx|hx
   .rw [(agree q hq).1] at hx
    refine⟨⟨ha', .inl hx⟩, ?_⟩;rintro hn ⟨rfl,rfl⟩;exact(hs.mem.own q d ha' (hnl hn).2.2.1).2.2.1 q ha' hx
   .exact ⟨⟨ha', .inr hx.2.1⟩,hx.2.2⟩
 have kb:nl=false->OwnS g m k b:=λ hn=>⟨hak, .inr (hnl hn).2.2.1⟩;refine⟨g',v,hcell, ?_, .inr ?_⟩
 .refine hs.regh (λ _ h=>h) (λ _ h=>.inl h) (λ q hq=>agree q (ne q hq)) (λ q hq=>agree q (by omega)) born (λ q=>?_) (λ q j hj=>?_) (λ q d h=>?_) (λ q d h=>?_) (λ q q' d h h' => ?_) λ q hq hx=>?_
  .by_cases hq:q=id
   .subst hq
    rw[mid]
    cases hn:nl with
    | true=>exact .inl ⟨by simp[g',hn],(hbc hn).1⟩
    | false =>
     refine .inr ⟨by simp[g',hn], ?_⟩
     grind
   .by_cases hqk:q=k
    .subst hqk
     rw[mk]
     have hne:∀ {j c:Nat} {bc:Nat×Nat},(if j=i/\c=o then none else I j c)=some bc->¬ (j=i/\c=o)/\I j c=some bc:=λ {j c bc} h=>by
      grind
     refine .inr ⟨cur,λ j c=>if j=i/\c=o then none else I j c,⟨by grind [SnAt.nn],by grind [SnAt.hp],by rw[(agree q hq).2.1];exact hS.size,by rw[(agree q hq).2.1];exact hS.le,hS.len,
      λ j c lj x hj hx=>?_,λ j c b1 c1 hI=>⟨(hS.dom j c b1 c1 (hne hI).2).1,λ z hz=>(hne hI).1 (by grind)⟩,λ j c j' c' b1 c1 c2 q1 q2=>hS.inj j c j' c' b1 c1 c2 (hne q1).2 (hne q2).2⟩⟩
     obtain⟨vj,w1,w0,w2⟩:=hS.mem j c lj x hj hx;refine⟨vj,by grind,w0, ?_⟩
     cases x with
     | d x=>exact w2
     | p c t=>exact w2
     | m l=>exact w2
     | r e2 s2 l2 =>
      by_cases hji:j=i/\c=o
      .obtain ⟨rfl,rfl⟩:=hji
       rw[hli] at hj;cases hj;rw[hlo] at hx;cases hx;rw[hv] at w1;cases w1;refine .inl ⟨id,rfl, ?_⟩
       grind [Gh.base]
      .refine .inr ⟨λ z hz=>hji (by grind), ?_⟩
       rcases w2 with ⟨z,hz,_⟩|⟨_,w2⟩
       .cases hz
       .unfold InRow at w2 ⊢
        dsimp only;rw[if_neg hji]
        cases hI:I j c with
        | none=>grind
        | some bc =>
         obtain⟨b2,c2⟩:=bc;rw[hI] at w2;refine⟨w2.1,⟨hq,w2.2.1, ?_⟩,w2.2.2⟩;rintro hn ⟨_,rfl⟩;exact hji (hS.inj j c i o b2 c2 cp hI (hnl hn).1)
    .rw [mo q hq hqk]
     exact hs.mem.blkMono (λ _ h=>h) (λ _ _=>rfl) (agree q hq) rfl (λ j hj=>agree j (ne j (hs.bornM q j hj))) λ _ d hx=>⟨⟨hq,hx,λ _ ⟨e,_⟩=>hqk e⟩,rfl⟩
  .by_cases hq:q=id
   .grind [Blk.ids]
   .by_cases hqk:q=k
    .grind [Blk.ids]
    .rw [mo q hq hqk] at hj;exact born j (hs.bornM q j hj)
  .grind
  .rcases old q d h with ⟨_,rfl,hn⟩|⟨_,h,_⟩
   .exact (hs.ownS (kb hn)).2.1
   .exact (hs.ownS h).2.1
  .rcases old q d h with ⟨e1,e2,hn⟩|⟨hq,p1,hx⟩ <;> rcases old q' d h' with ⟨e3,e4,hn'⟩|⟨hq',p2,hx'⟩
   .rw [e1,e3]
   .subst e2;exact absurd ⟨hs.ownU p2 (kb hn),rfl⟩ (hx' hn)
   .subst e4;exact absurd ⟨hs.ownU p1 (kb hn'),rfl⟩ (hx hn')
   .exact hs.ownU p1 p2
  .have hq':q≠id:=hx.1
   rw[(agree q hq').1] at hx;exact hs.ownX ((alv q hq').1 hq) hx.2.1
 .have hlen:l1.length<=maxLen/\(nl=false->l1.length<=cc cp):=by
   cases hn:nl with
   | true=>grind
   | false =>
    obtain⟨_,_,_,cv,r1,r2,r3,r4,_⟩:=hnl hn;omega
  have hbase:g'.base id l1.length=v:=by grind [Gh.base]
  rw[<- hbase];refine .rs (λ hn=>?_) (λ hn=>?_) hlen.1
  .have hn:nl=true:=by simpa [g'] using hn
   rw[(hbc hn).1];rfl
  .have hn:nl=false:=by simpa [g'] using hn
   have:g'.C id=cp:=by simp[g']
   rw[this];exact hlen.2 hn
theorem zgq {es:List (List MC)}{i o j c:Nat}{y:MC}:snAt (zbG es i o y) j c=if j=i/\c=o then (snAt es i o).map λ _=>y else snAt es j c:=by
 have e:(zbG es i o y)[j]? = (es[j]?).map λ l=>if i=j then l.set o y else l:=by
  unfold zbG;rw[List.getElem?_modify]
  cases es[j]? with
  | none=>rfl
  | some l=>by_cases h:i=j <;> simp[h]
 unfold snAt;rw[e];by_cases hj:i=j
 .subst hj
  cases hl:es[i]? with
  | none=>simp
  | some l =>
   simp only[Option.map_some,if_true,true_and];rw[List.getElem?_set];by_cases hc:o=c
   .subst hc
    by_cases ho:o<l.length
    .simp [ho]
    .simp [ho,Nat.le_of_not_lt ho]
   .rw [if_neg hc,if_neg (Ne.symm hc)]
 .rw [if_neg (λ h=>hj h.1.symm)]
  cases es[j]? <;> simp[hj]
theorem SR.settle {k z:Nat}{q:List (List MC)}{e1:TypeId}{s:Nat}{ea:Bool}(hs:SR fr nt g e m a w)(h:zot k z m q e1 s ea) :
  ∃ g',SR fr nt g' e (mApp [(z, .dead),(k, .sn e1 s ea none q)] m) a w:=by
 obtain⟨i,o,es,e',s',l1,l0,hm,hz,hi,hl,rfl⟩:=h;have hb:=hs.mem.blk k;rw[hm] at hb;obtain⟨li,hli,hlo⟩:=zdI hi
 obtain⟨cur,I,hS⟩:∃ cur I,SnAt g w k e1 s (some (i,o,z)) es cur I:=by
  rcases hb with ⟨_,h,_⟩|h
  .grind
  .exact h
 have hbz:=hs.mem.blk z;rw[hz] at hbz;obtain⟨v,hv,hv1,hv2⟩:=hS.mem i o li _ hli hlo
 have hkz:k≠z:=λ e=>by grind
 have hak:zab g m k:=by simp[zab,hm,hS.nn]
 have haz:g.N z=false->zab g m z:=λ hn=>by simp[zab,hz,hn]
 have hvb:v=g.base z l0.length:=by
  rcases hv2 with ⟨z',hz',he⟩|⟨hn,_⟩
  .grind
  .grind
 let g':Gh:={ g with X:=λ q d=>g.X q d∨(q=k/\g.N z=false/\d=g.β z) }
 have mz:mApp [(z, .dead),(k, .sn e1 s ea none (zbG es i o (.r e' s' l1)))] m z = .dead:=by rw[zaa,if_pos rfl]
 have mk:mApp [(z, .dead),(k, .sn e1 s ea none (zbG es i o (.r e' s' l1)))] m k = .sn e1 s ea none (zbG es i o (.r e' s' l1)):=by rw[zaa,if_neg (Ne.symm hkz),zaa,if_pos rfl]
 have mo:∀ q,q≠z->q≠k->mApp [(z, .dead),(k, .sn e1 s ea none (zbG es i o (.r e' s' l1)))] m q=m q:=λ q h1 h2=>by rw[zaa,if_neg (Ne.symm h1),zaa,if_neg (Ne.symm h2)];rfl
 have born:∀ q,m q ≠ .unborn->mApp [(z, .dead),(k, .sn e1 s ea none (zbG es i o (.r e' s' l1)))] m q ≠ .unborn:=by grind
 have alv:∀ q,zab g' (mApp [(z, .dead),(k, .sn e1 s ea none (zbG es i o (.r e' s' l1)))] m) q->zab g m q/\q≠z:=by
  intro q hq;by_cases hqz:q=z
  .grind [zab,False.elim]
  .refine ⟨?_,hqz⟩
   by_cases hqk:q=k
   .grind
   grind [zab]
 have old:∀ q d,OwnS g' (mApp [(z, .dead),(k, .sn e1 s ea none (zbG es i o (.r e' s' l1)))] m) q d->(OwnS g m q d/\q≠z)∨(q=k/\d=g.β z/\g.N z=false):=by
  rintro q d ⟨ha,hx⟩;obtain⟨ha,hqz⟩:=alv q ha
  rcases hx with hx|hx|⟨rfl,hn,rfl⟩
  .exact .inl ⟨⟨ha, .inl hx⟩,hqz⟩
  .exact .inl ⟨⟨ha, .inr hx⟩,hqz⟩
  .grind
 have zb:g.N z=false->OwnS g m z (g.β z):=λ hn=>⟨haz hn, .inl rfl⟩;refine⟨g',hs.regh (λ _ h=>h) (λ _ h=>.inl h) (λ _ _=>⟨rfl,rfl,rfl,List.prefix_rfl⟩) (λ _ _=>⟨rfl,rfl,rfl,List.prefix_rfl⟩) born (λ q=>?_) (λ q j hj=>?_) (λ q d h=>?_) (λ q d h=>?_) (λ q q' d h h' => ?_) λ q hq hx=>?_⟩
 .by_cases hqk:q=k
  .subst hqk
   rw[mk]
   have hI':∀ {j c b1 c1:Nat},(if j=i/\c=o then (if g.N z=true then none else some (g.β z,g.C z)) else I j c)=some (b1,c1)->(j=i/\c=o/\g.N z=false/\b1=g.β z)∨(¬ (j=i/\c=o)/\I j c=some (b1,c1)):=λ {j c b1 c1} h=>by
    grind
   have far:∀ {j c b1 c1:Nat},I j c=some (b1,c1)->g.X q b1:=λ {j c b1 c1} h=>by
    obtain⟨⟨e2,s2,l2,d1⟩,d2⟩:=hS.dom j c b1 c1 h;obtain⟨lj,hj,hc⟩:=zdI d1;obtain⟨u,_,_,u3⟩:=hS.mem j c lj _ hj hc
    rcases u3 with ⟨z',hz',_⟩|⟨_,u3⟩
    .grind
    grind [InRow]
   refine .inr ⟨cur,λ j c=>if j=i/\c=o then (if g.N z=true then none else some (g.β z,g.C z)) else I j c,⟨hS.nn,hS.hp,hS.size,by simpa [zbG] using hS.le,λ lj hj=>?_,λ j c lj x hj hx=>?_,λ j c b1 c1 h=>⟨?_,by simp⟩,λ j c j' c' b1 c1 c2 q3 q4=>?_⟩⟩
   .obtain ⟨j,hjl,hj⟩:=List.getElem_of_mem hj
    have hj2:(zbG es i o (.r e' s' l1))[j]? = some lj:=by grind
    unfold zbG at hj2;rw[List.getElem?_modify] at hj2
    cases hq0:es[j]? with
    | none=>grind
    | some l0 =>
     rw[hq0] at hj2;have h0:=hS.len l0 (zAp hq0)
     grind
   .have hat:snAt (zbG es i o (.r e' s' l1)) j c=some x:=by grind [snAt]
    rw[zgq] at hat;by_cases hji:j=i/\c=o
    .rw [if_pos hji,hi] at hat
     obtain⟨rfl,rfl⟩:=hji
     cases hat
     refine⟨v,hv,hv1, .inr ⟨by simp, ?_⟩⟩;unfold InRow;dsimp only;rw[if_pos ⟨rfl,rfl⟩]
     rcases hbz with ⟨z1,z2⟩|⟨z1,z2⟩
     .simp_all [if_pos,Gh.base]
     .rw [if_neg (by rw[z1];simp)]
      refine⟨?_, .inr ⟨rfl,z1,rfl⟩,z2⟩
      grind [Gh.base]
    .rw [if_neg hji] at hat
     obtain⟨lj',hj',hx'⟩:=zdI hat;obtain⟨vj,w1,w0,w2⟩:=hS.mem j c lj' x hj' hx';refine⟨vj,w1,w0, ?_⟩
     cases x with
     | d x=>exact w2
     | p c t=>exact w2
     | m l=>exact w2
     | r e2 s2 l2 =>
      refine .inr ⟨by simp, ?_⟩
      rcases w2 with ⟨z',hz',_⟩|⟨_,w2⟩
      .grind
      .unfold InRow at w2 ⊢
       grind
   .rw [zgq]
    rcases hI' h with ⟨h1,h2,_⟩|⟨h1,h2⟩
    .grind
    .rw [if_neg h1];exact(hS.dom j c b1 c1 h2).1
   .rcases hI' q3 with ⟨a1,a2,a3,a4⟩|⟨a1,a2⟩ <;> rcases hI' q4 with ⟨d1,d2,d3,d4⟩|⟨d1,d2⟩
    .omega
    .exact absurd a4.symm ((hs.mem.own q _ hak (far d2)).2.2.1 z (haz a3))
    .exact absurd d4.symm ((hs.mem.own q _ hak (far a2)).2.2.1 z (haz d3))
    .exact hS.inj j c j' c' b1 c1 c2 a2 d2
  .by_cases hqz:q=z
   .subst hqz;rw[mz];trivial
   .rw [mo q hqz hqk]
    exact hs.mem.blkMono (λ _ h=>h) (λ _ _=>rfl) ⟨rfl,rfl,rfl,List.prefix_rfl⟩ rfl (λ _ _=>⟨rfl,rfl,rfl,List.prefix_rfl⟩) λ _ d hx=>⟨.inl hx,rfl⟩
 .by_cases hqk:q=k
  .grind [Blk.ids]
  .by_cases hqz:q=z
   .grind [Blk.ids]
   .rw [mo q hqz hqk] at hj;exact born j (hs.bornM q j hj)
 .grind
 .rcases old q d h with ⟨h,_⟩|⟨_,rfl,hn⟩
  .exact (hs.ownS h).2.1
  .exact (hs.ownS (zb hn)).2.1
 .rcases old q d h with ⟨p1,hq⟩|⟨e1,e2,hn⟩ <;> rcases old q' d h' with ⟨p2,hq'⟩|⟨e3,e4,hn'⟩
  .exact hs.ownU p1 p2
  .subst e4;exact absurd (hs.ownU p1 (zb hn')) hq
  .subst e2;exact absurd (hs.ownU p2 (zb hn)) hq'
  .rw [e1,e3]
 .obtain ⟨ha,hqz⟩:=alv q hq
  rcases hx with hx|⟨rfl,hn,hx⟩
  .exact hs.ownX ha hx
  .exact hqz (hs.mem.inj q z ha (haz hn) hx)
theorem zoF {F:Nat->Prop}{b s cap:Nat}{t:TypeId}{es:List D}(hF:F b)(hrow:RowAt F w b t s cap es):Rd F w (.slice (some ⟨b,co cap,none⟩) es.length (cc cap)) (.sl s es):=by
 obtain⟨cur,⟨_,r1,_⟩,r2,r3,r4,r5,r6⟩:=hrow
 let f:Nat->Nat->Value:=λ i j=>(cur[co cap+(i*s+j)]?).getD undef
 have hf:∀ (i j:Nat) el d,es[i]? = some el->el.cells[j]? = some d->cur[co cap+(i*s+j)]? = some (f i j)/\(f i j).oneCell'=true/\Rd F w (f i j) d:=by grind
 exact .sl f rfl r3 r4 hF r5 (λ i j el d hel hd=>by grind [Go.cell_of_row,Nat.add_assoc])
  (λ i j el d hel hd=>(hf i j el d hel hd).2.1) λ i j el d hel hd=>(hf i j el d hel hd).2.2
def Zall (g:Gh)(m:Nat->Blk):Nat->Prop:=λ b=>g.F b ∨ ∃ k,OwnS g m k b
theorem zlQ {s:Nat}{ea:Bool}{es:List (List MC)}{l:List MC}(h:snOK s ea es)(hl:l∈es):(snD ea l).cells=l.map MC.toD:=by
 rcases h with rfl|⟨_,h⟩
 .rfl
 .have h1:=h l hl
  unfold isR1 at h1
  split at h1
  .cases ea <;> rfl
  .cases h1
theorem zxQ {F:Nat->Prop}{k s:Nat}{e1:TypeId}{ea:Bool}{es:List (List MC)}{cur:Array Value}{I:Nat->Nat->Option (Nat×Nat)}(h:SnAt g w k e1 s none es cur I)(hok:snOK s ea es)(hX:∀ b,g.X k b->F b)(hF:∀ b,g.F b->F b):RowAt F w (g.β k) e1 s (g.C k) (es.map (snD ea)):=by
 refine⟨cur,h.hp,h.size,by simpa using h.le,ztz _,λ el hel=>?_,λ j j' el d hel hd=>?_⟩
 .obtain ⟨lj,hlj,rfl⟩:=List.mem_map.1 hel
  rw[zlQ hok hlj,List.length_map];exact h.len lj hlj
 .rw [List.getElem?_map] at hel
  cases hlj:es[j]? with
  | none=>grind
  | some lj =>
   rw[hlj] at hel;cases hel;rw[zlQ hok (zAp hlj),List.getElem?_map] at hd
   cases hx:lj[j']? with
   | none=>grind
   | some x =>
    rw[hx] at hd;cases hd;obtain⟨u,hu,hu1,hu2⟩:=h.mem j j' lj x hlj hx;refine⟨u,hu,hu1, ?_⟩
    cases x with
    | d x=>exact Rd.mono hu2 hF (λ _ _=>rfl)
    | p c t=>exact hu2.elim
    | m l=>exact hu2.elim
    | r e2 s2 l2 =>
     rcases hu2 with ⟨z,hz,_⟩|⟨_,hin⟩
     .cases hz
     unfold InRow at hin
     cases hI:I j j' with
     | none =>
      rw[hI] at hin;obtain⟨rfl,rfl⟩:=hin;exact .nil (by simp[maxLen])
     | some bc =>
      obtain⟨b,cp⟩:=bc;rw[hI] at hin;obtain⟨rfl,hx',hr⟩:=hin;exact zoF (hX b hx') (hr.mono hF (λ _ _=>rfl) rfl)
theorem zpK:∀ {l:List MC} {j:Nat} {d:D},(zc1 l)[j]? = some d->∃ y,l[j]? = some y/\(y = .d d ∨ ∃ e s q,y = .r e s q/\d = .sl s q):=by
 intro l
 induction l with
 | nil=>grind [zc1]
 | cons y r ih =>
  intro j d h
  cases y with
  | d x =>
   cases j with
   | zero=>simp[zc1] at h;subst h;exact⟨_,rfl, .inl rfl⟩
   | succ j=>grind [zc1]
  | r e s q =>
   cases j with
   | zero=>simp[zc1] at h;subst h;exact⟨_,rfl, .inr ⟨e,s,q,rfl,rfl⟩⟩
   | succ j=>obtain⟨y,h1,h2⟩:=ih (by simpa [zc1] using h);exact⟨y,by simpa using h1,h2⟩
  | _=>simp[zc1] at h
theorem zqQ {k i:Nat}{ks:List Nat}{es:List (D×List MC)}{arr:Array MapEntry}{cl:Nat}{M:List Nat}{I:Nat->Nat->Option (Nat×Nat)}{p:D×List MC}{F:Nat->Prop}(hfm:FamAt g w k ks es [] arr cl M I)(hp:es[i]? = some p)
  (hF:∀ q,g.F q->F q) (hX:∀ q,g.X k q->F q):Rd F w (.pointer (some ⟨M.getD i 0,0,none⟩)) (.pt (zc1 p.2)):=by
 obtain⟨vs,t',g4,g5,g6⟩:=hfm.mem i p hp
 have him:i<M.length:=by grind [FamAt.len,zAm]
 have hpM:M.getD i 0∈M:=by simp[him]
 have key:∀ (j:Nat) d,(zc1 p.2)[j]? = some d->∃ u,vs[j]? = some u/\u.oneCell'=true/\Rd F w u d:=by
  intro j d hd;obtain⟨y,hy,hyd⟩:=zpK hd
  have hj:j<vs.length:=by grind
  obtain⟨c1,c2⟩:=g6 j _ y (zAn hj) hy;refine⟨_,zAn hj,c1, ?_⟩
  rcases hyd with rfl|⟨e0,s0,l0,rfl,rfl⟩
  .exact Rd.mono c2 hF λ _ _=>rfl
  .have c2:InRow g w k e0 s0 (I i) j l0 vs[j]:=c2
   unfold InRow at c2
   cases hI:I i j with
   | none =>
    rw[hI] at c2;obtain⟨rfl,h2⟩:=c2;rw[h2];exact .nil (by simp[maxLen])
   | some bc =>
    obtain⟨b0,cp⟩:=bc;rw[hI] at c2;obtain⟨h2,hx,hr⟩:=c2;rw[h2];exact zoF (hX b0 hx) (hr.mono hF (λ _ _=>rfl) rfl)
 let f:Nat->Value:=λ j=>(vs[j]?).getD undef
 have hf:∀ (j:Nat) d,(zc1 p.2)[j]? = some d->vs[j]? = some (f j)/\(f j).oneCell'=true/\Rd F w (f j) d:=by grind
 exact .pt f (hX _ (hfm.own _ hpM)) (λ j d hd=>by rw[cell_of_row w _ _ _ _ _ g4];grind) (λ j d hd=>(hf j d hd).2.1) λ j d hd=>(hf j d hd).2.2
theorem zi {z:Nat}{x:SV}{v:Value}{k:D->Pg}(hs:SR fr nt g e m a w)(hx:DenO g w v x)(h:Pg.lend1 z x k e m l K):∃ d l',Rd (Zall g m) w v d/\k d e m l' K:=by
 have simple:∀ (x:SV) (hx:DenO g w v x) (h:(match x.toD1 z with|some d=>k d|none=>Pg.fail) e m l K),∃ d l',Rd (Zall g m) w v d/\k d e m l' K:=by
  intro x hx h
  cases hd:x.toD1 z with
  | none=>simp only[hd] at h;exact h.elim
  | some d =>
   simp only[hd] at h
   rcases hx with hx|hx
   .grind [SV.toD1]
   .exact ⟨d,l,(zbm hx hd).mono (λ _ h=>.inl h) λ _ _=>rfl,h⟩
 cases x with
 | rs b n =>
  rcases hx with hx|hx
  .cases hx
  cases hx with
  | rs h1 h2 h3 =>
   simp only[Pg.lend1,Pg.getB,zaq] at h;have hb:=hs.mem.blk b
   let g':Gh:={ g with F:=Zall g m }
   have conv:∀ {t:TypeId} {s cap:Nat} {es:List D},g.N b=false->Zall g m (g.β b)->RowAt (Zall g m) w (g.β b) t s (g.C b) es->n<=es.length->Rd (Zall g m) w (g.base b n) (.sl s (es.take n)):=by
    intro t s cap es hN hz hr hn;exact zoA (g:=g') hN hz hr hn
   cases hm:m b with
   | row t s es =>
    rw[hm] at h hb;obtain⟨hn,q,rfl,h⟩:=h;refine⟨_,_, ?_,h⟩
    rcases hb with ⟨hN,hes⟩|⟨hN,hr⟩
    .subst hes
     have:n=0:=by grind
     subst this;simp[Gh.base,hN];exact .nil (by simp[maxLen])
    .exact conv (cap:=0) hN (.inr ⟨b,by simp[zab,hm,hN], .inl rfl⟩) (hr.mono (λ _ h=>.inl h) (λ _ _=>rfl) rfl) hn
   | fz t s es =>
    rw[hm] at h hb;obtain⟨hn,q,rfl,h⟩:=h;refine⟨_,_, ?_,h⟩
    rcases hb with ⟨hN,hes⟩|⟨hN,hF,hr⟩
    .subst hes
     have:n=0:=by grind
     subst this;simp[Gh.base,hN];exact .nil (by simp[maxLen])
    .exact conv (cap:=0) hN (.inl hF) (hr.mono (λ _ h=>.inl h) (λ _ _=>rfl) rfl) hn
   | sn t s ea out es =>
    rw[hm] at h hb
    cases out with
    | some p=>exact h.elim
    | none =>
     obtain⟨⟨hn,hok⟩,q,rfl,h⟩:=h;refine⟨_,_, ?_,h⟩
     rcases hb with ⟨hN,hes,_⟩|⟨cur,I,hb⟩
     .subst hes
      have:n=0:=by omega
      subst this;simp[Gh.base,hN];exact .nil (by simp[maxLen])
     .have hal:zab g m b:=by simp[zab,hm,hb.nn]
      have:=conv (cap:=0) hb.nn (.inr ⟨b,hal, .inl rfl⟩) (zxQ hb hok (λ q hq=>.inr ⟨b,hal, .inr hq⟩) λ q hq=>.inl hq) (by simp[hn])
      grind [List.take_of_length_le]
   | _=>rw[hm] at h;exact h.elim
 | po b i o =>
  unfold Pg.lend1 at h;dsimp only at h;replace h:=zaj h;obtain⟨ho,h⟩:=h;obtain rfl:=zAo ho;unfold Pg.getB at h;rw[zaq] at h
  cases hm:m b with
  | fam ks es outs =>
   rw[hm] at h
   cases outs with
   | cons=>exact h.elim
   | nil =>
    obtain⟨p,hp,h⟩:=h;refine⟨_,_, ?_,h⟩
    rcases hx with hx|hx
    .cases hx
    cases hx with
    | @po _ _ _ pb hpb =>
    have hb:=hs.mem.blk b;rw[hm] at hb;obtain⟨arr,cl,M,I,hfm⟩:=hb;rw[hfm.Mk] at hpb
    have hMb:M.getD i 0=pb:=by grind
    have hal:zab g m b:=by simp[zab,hm]
    rw[<- hMb];exact zqQ hfm hp (λ _ h=>.inl h) λ q hq=>.inr ⟨b,hal, .inr hq⟩
  | _=>rw[hm] at h;exact h.elim
 | _=>exact simple _ hx h
theorem zhg {xs:List SV}:∀ {vs:List Value} {k:List D->Pg} {l:List Loc} {zs:List Nat},SR fr nt g e m a w->xs.length=vs.length->(∀ (i:Nat) v x,vs[i]? = some v->xs[i]? = some x->DenO g w v x)->Pg.lends1 zs xs k e m l K ->
  ∃ ds l',vs.length=ds.length/\(∀ (i:Nat) v d,vs[i]? = some v->ds[i]? = some d->Rd (Zall g m) w v d)/\k ds e m l' K:=by
 induction xs with
 | nil =>
  intro vs k l zs hs hl hx h
  cases vs with
  | nil=>exact⟨[],l,rfl,by simp,h⟩
  | cons=>simp at hl
 | cons x xs ih =>
  intro vs k l zs hs hl hx h
  cases vs with
  | nil=>simp at hl
  | cons v vs =>
   obtain⟨d,l1,hr,h1⟩:=zi hs (hx 0 v x rfl rfl) h;obtain⟨ds,l2,hl2,hr2,h2⟩:=ih (vs:=vs) hs (by simpa using hl) (λ i v x hv hx' => hx (i+1) v x (by simpa using hv) (by simpa using hx')) h1
   grind
theorem zpL {csz:List Nat}{x:SV}{v:Value}{k:D->Pg}(hs:SR fr nt g e m a w)(hx:DenO g w v x)(h:Pg.lend csz x k e m l K):∃ d l',Rd (Zall g m) w v d/\k d e m l' K:=by
 cases x with
 | agg lc =>
  rcases hx with hx|hx
  .cases hx
  cases hx with
  | @agg vs _ hl ho hc =>
   obtain⟨ds,l',h4,h5,h6⟩:=zhg (vs:=vs) (k:=λ ds=>k (.agg ds)) hs hl.symm (λ i v x hv hx=>.inr (hc i v x hv hx)) h;refine⟨_,l', .agg h4 (λ i u d hu hd=>?_) h5,h6⟩
   have hi':i<lc.length:=by grind
   exact ho i u _ hu (zAn hi')
 | ptr b o =>
  unfold Pg.lend at h;dsimp only at h;replace h:=zaj h;obtain⟨ho,h⟩:=h;obtain rfl:=zAo ho;unfold Pg.getB at h;rw[zaq] at h
  cases hm:m b with
  | box lb =>
   rw[hm] at h
   rcases hx with hx|hx
   .cases hx
   cases hx
   have hb:=hs.mem.blk b;rw[hm] at hb;obtain⟨vs,t,b1,b2,b3,b4⟩:=hb
   have hal:zab g m b:=by simp[zab,hm]
   obtain⟨ds,l',h4,h5,h6⟩:=zhg (vs:=vs) (k:=λ ds=>k (.pt ds)) hs b2.symm (λ i v x hv hx=>.inr (b3 i v x hv hx).2) h;refine⟨_,l', .pt (λ j=>(vs[j]?).getD undef) (.inr ⟨b,hal, .inl rfl⟩) (λ j d hd=>?_) (λ j d hd=>?_) λ j d hd=>?_,h6⟩
   all_goals
    have hj:j<vs.length:=by grind
    have hv:vs[j]? = some vs[j]:=zAn hj;have hl:lb[j]? = some lb[j]:=zAn (b2 ▸ hj)
    have hv':vs.toArray[0+j]? = some vs[j]:=by grind
   .grind [Go.cell_of_row]
   .grind
   grind
  | _=>rw[hm] at h;exact h.elim
 | _=>exact zi (l:=l) (z:=csz.headD 0) hs hx h
theorem znt {xs:List SV}:∀ {vs:List Value} {k:List D->Pg} {l:List Loc} {zs:List (List Nat)},SR fr nt g e m a w->xs.length=vs.length->(∀ (i:Nat) v x,vs[i]? = some v->xs[i]? = some x->DenO g w v x)->Pg.lends zs xs k e m l K ->
  ∃ ds l',vs.length=ds.length/\(∀ (i:Nat) v d,vs[i]? = some v->ds[i]? = some d->Rd (Zall g m) w v d)/\k ds e m l' K:=by
 induction xs with
 | nil =>
  intro vs k l zs hs hl hx h
  cases vs with
  | nil=>exact⟨[],l,rfl,by simp,h⟩
  | cons=>simp at hl
 | cons x xs ih =>
  intro vs k l zs hs hl hx h
  cases vs with
  | nil=>simp at hl
  | cons v vs =>
   obtain⟨d,l1,hr,h1⟩:=zpL hs (hx 0 v x rfl rfl) h;obtain⟨ds,l2,hl2,hr2,h2⟩:=ih (vs:=vs) hs (by simpa using hl) (λ i v x hv hx' => hx (i+1) v x (by simpa using hv) (by simpa using hx')) h1
   grind
theorem ztN {F F':Nat->Prop}{v:Value}{d:D}(hd:d.plain=true)(h:Rd F w v d):Rd F' w v d:=by
 cases h with
 | v hp=>exact .v hp
 | _=>simp[D.plain] at hd
theorem zoG {F F':Nat->Prop}{v:Value}{d:D}(hd:d.flat1=true)(h:Rd F w v d):Rd F' w v d:=by
 cases h with
 | v hp=>exact .v hp
 | agg h1 h2 h3=>exact .agg h1 h2 λ i u d hu hd' => ztN (List.all_eq_true.1 hd d (zAp hd')) (h3 i u d hu hd')
 | _=>simp[D.flat1] at hd
theorem zwp {F F':Nat->Prop}{v:Value}{d:D}(hd:d.flatB=true)(h:Rd F w v d):Rd F' w v d:=by
 cases h with
 | tup h1 h2=>exact .tup h1 λ i u d hu hd' => zoG (List.all_eq_true.1 hd d (zAp hd')) (h2 i u d hu hd')
 | v hp=>exact .v hp
 | agg h1 h2 h3=>exact zoG (F:=F) hd (.agg h1 h2 h3)
 | _=>simp[D.flatB,D.flat1] at hd
theorem SR.freezeN {k s:Nat}{e1:TypeId}{ea:Bool}{es:List (List MC)}(hs:SR fr nt g e m a w)(hm:m k = .sn e1 s ea none es)(hok:snOK s ea es) :
  ∃ g',SR fr nt g' e (mApp [(k, .fz e1 s (es.map (snD ea)))] m) a w/\(∀ b,g.F b->g'.F b)/\g'.β=g.β/\g'.C=g.C/\g'.N=g.N/\g'.M=g.M:=by
 have hb:=hs.mem.blk k;rw[hm] at hb
 let g':Gh:={ g with F:=λ b=>g.F b∨OwnS g m k b }
 have hFF:∀ b,g.F b->g'.F b:=λ b hb=>.inl hb
 have mk:mApp [(k, .fz e1 s (es.map (snD ea)))] m k = .fz e1 s (es.map (snD ea)):=by rw[zaa,if_pos rfl]
 have mo:∀ q,q≠k->mApp [(k, .fz e1 s (es.map (snD ea)))] m q=m q:=λ q h1=>by rw[zaa,if_neg (Ne.symm h1)];rfl
 have born:∀ q,m q ≠ .unborn->mApp [(k, .fz e1 s (es.map (snD ea)))] m q ≠ .unborn:=by grind
 have alv:∀ q,zab g' (mApp [(k, .fz e1 s (es.map (snD ea)))] m) q->zab g m q/\q≠k:=by
  intro q hq;by_cases hqk:q=k
  .grind [zab,False.elim]
  .grind [zab]
 have old:∀ q d,OwnS g' (mApp [(k, .fz e1 s (es.map (snD ea)))] m) q d->OwnS g m q d/\q≠k:=by
  rintro q d ⟨ha,hx⟩;exact⟨⟨(alv q ha).1,hx⟩,(alv q ha).2⟩
 refine⟨g',hs.regh hFF (λ b hb=>?_) (λ _ _=>⟨rfl,rfl,rfl,List.prefix_rfl⟩) (λ _ _=>⟨rfl,rfl,rfl,List.prefix_rfl⟩) born (λ q=>?_) (λ q j hj=>?_) (λ q d h=>⟨q,(old q d h).1⟩) (λ q d h hf=>?_) (λ q q' d h h' => hs.ownU (old q d h).1 (old q' d h').1) (λ q hq=>hs.ownX (alv q hq).1),hFF,rfl,rfl,rfl,rfl⟩
 .grind
 .by_cases hqk:q=k
  .subst hqk
   rw[mk]
   rcases hb with ⟨hN,hes,_⟩|⟨cur,I,hb⟩
   .exact .inl ⟨hN,by rw[hes];rfl⟩
   .have hal:zab g m q:=by simp[zab,hm,hb.nn]
    have hr:=zxQ (F:=g'.F) hb hok (λ b hx=>.inr ⟨hal, .inr hx⟩) hFF;exact .inr ⟨hb.nn, .inr ⟨hal, .inl rfl⟩,hr⟩
  .rw [mo q hqk]
   exact hs.mem.blkMono hFF (λ _ _=>rfl) ⟨rfl,rfl,rfl,List.prefix_rfl⟩ rfl (λ _ _=>⟨rfl,rfl,rfl,List.prefix_rfl⟩) λ _ d hx=>⟨hx,rfl⟩
 .by_cases hqk:q=k
  .grind [Blk.ids]
  .rw [mo q hqk] at hj;exact born j (hs.bornM q j hj)
 .obtain ⟨ho,hqk⟩:=old q d h
  rcases hf with hf|hf
  .exact (hs.ownS ho).2.1 hf
  .exact hqk (hs.ownU ho hf)
end
end Go.Vc
namespace Go.Vc
open Go.RowKit
section
variable {P:Program} {fr:Fr} {nt:Nat} {g:Gh} {e:Nat->SV} {m:Nat->Blk} {a:Act} {w:World}
theorem SR.takeR {k id i o:Nat}{ks:List Nat}{es:List (D×List MC)}{outs:List (Nat×Nat×Nat)}{e':TypeId}{s':Nat}{l1:List D}(hs:SR fr nt g e m a w)(hm:m k = .fam ks es outs)(hx:mcAt es i o=some (.r e' s' l1))(hno:¬ zdr outs i o)(hid:fr.p<=id/\m id = .unborn) :
  ∃ g' b0 v,(g.M k)[i]? = some b0/\w.cell? ⟨b0,o,none⟩=some v/\SR fr nt g' e (mApp [(id, .row e' s' l1),(k, .fam ks es ((i,o,id)::outs))] m) a w/\DenO g' w v (.rs id l1.length)/\g'.F=g.F/\∀ q,m q ≠ .unborn->g'.β q=g.β q/\g'.C q=g.C q/\g'.N q=g.N q/\g.M q <+: g'.M q:=by
 have hb:=hs.mem.blk k;rw[hm] at hb;obtain⟨arr,cl,M,I,hfm⟩:=hb;obtain⟨q0,vs,t,v,a1,a2,a3,a4,a5,a6,a7,hin,hMi,hcell⟩:=hfm.at' hx
 have hoo:zaV outs i o=none:=by
  cases hz:zaV outs i o with
  | none=>rfl
  | some z =>
   obtain⟨⟨x1,x2,x3⟩,hx1,hx2,hx3,hx4⟩:=zcW hz;dsimp only at hx2 hx3 hx4;subst hx2 hx3 hx4;exact absurd ⟨_,hx1⟩ hno
 simp only[CellAt,hoo] at hin
 have hkid:k≠id:=λ e=>by grind
 have hak:zab g m k:=by simp[zab,hm]
 have hil:i<es.length:=(zAm.1 a1).1
 obtain⟨b,cp,nl,hbc,hnl⟩:∃ b cp nl,(nl=true->l1=[]/\v = .slice none 0 0)/\(nl=false->I i o=some (b,cp)/\v = .slice (some ⟨b,co cp,none⟩) l1.length (cc cp)/\g.X k b/\RowAt g.F w b e' s' cp l1):=by
  unfold InRow at hin
  cases hI:I i o with
  | none=>simp_all
  | some bc=>obtain⟨b,cp⟩:=bc;rw[hI] at hin;exact⟨b,cp,false,by simp,λ _=>⟨rfl,hin⟩⟩
 let g':Gh:={ β:=λ q=>if q=id then b else g.β q,C:=λ q=>if q=id then cp else g.C q,N:=λ q=>if q=id then nl else g.N q,M:=λ q=>if q=id then [] else g.M q,F:=g.F,X:=λ q d=>q≠id/\g.X q d/\(nl=false->¬ (q=k/\d=b)) }
 have agree:∀ q,q≠id->g'.β q=g.β q/\g'.C q=g.C q/\g'.N q=g.N q/\g.M q <+: g'.M q:=λ q hq=>by simp[g',hq]
 have agM:∀ q,q≠id->g'.M q=g.M q:=λ q hq=>if_neg hq;have ne:∀ q,m q ≠ .unborn->q≠id:=λ q hq e=>hq (e ▸ hid.2)
 have mid:(mApp [(id, .row e' s' l1),(k, .fam ks es ((i,o,id)::outs))] m) id = .row e' s' l1:=by rw[zaa,if_pos rfl]
 have mk:(mApp [(id, .row e' s' l1),(k, .fam ks es ((i,o,id)::outs))] m) k = .fam ks es ((i,o,id)::outs):=by rw[zaa,if_neg (Ne.symm hkid),zaa,if_pos rfl]
 have mo:∀ q,q≠id->q≠k->(mApp [(id, .row e' s' l1),(k, .fam ks es ((i,o,id)::outs))] m) q=m q:=λ q h1 h2=>by rw[zaa,if_neg (Ne.symm h1),zaa,if_neg (Ne.symm h2)];rfl
 have born:∀ q,m q ≠ .unborn->(mApp [(id, .row e' s' l1),(k, .fam ks es ((i,o,id)::outs))] m) q ≠ .unborn:=by grind
 have alv:∀ q,q≠id->(zab g' (mApp [(id, .row e' s' l1),(k, .fam ks es ((i,o,id)::outs))] m) q ↔ zab g m q):=by
  intro q hq;by_cases hqk:q=k
  .subst hqk;unfold zab;rw[mk,hm]
  .unfold zab;rw[mo q hq hqk,(agree q hq).2.2.1]
 have alvid:zab g' (mApp [(id, .row e' s' l1),(k, .fam ks es ((i,o,id)::outs))] m) id->nl=false:=by grind [zab]
 have old:∀ q d,OwnS g' (mApp [(id, .row e' s' l1),(k, .fam ks es ((i,o,id)::outs))] m) q d->(q=id/\d=b/\nl=false)∨(q≠id/\OwnS g m q d/\(nl=false->¬ (q=k/\d=b))):=by
  rintro q d ⟨ha,hx⟩;by_cases hq:q=id
  .grind
  .refine .inr ⟨hq, ?_⟩
   have ha':=(alv q hq).1 ha
   rcases hx with hx|hx
   .rw [(agree q hq).1] at hx
    refine⟨⟨ha', .inl hx⟩, ?_⟩;rintro hn ⟨rfl,rfl⟩;exact(hs.mem.own q d ha' (hnl hn).2.2.1).2.2.1 q ha' hx
   .exact ⟨⟨ha', .inr hx.2.1⟩,hx.2.2⟩
 have kb:nl=false->OwnS g m k b:=λ hn=>⟨hak, .inr (hnl hn).2.2.1⟩
 have far:∀ i' o' b2 c2,I i' o'=some (b2,c2)->¬ (i'=i/\o'=o)->nl=false->b2≠b:=by
  rintro i' o' b2 c2 h1 h2 hn rfl;exact h2 (hfm.inj i' o' i o b2 c2 cp h1 (hnl hn).1)
 let I':Nat->Nat->Option (Nat×Nat):=λ i' o' => if i'=i/\o'=o then none else I i' o'
 have I'e:∀ i' o' x,I' i' o'=some x->¬ (i'=i/\o'=o)/\I i' o'=some x:=by grind
 have hfam:FamAt g' w k ks es ((i,o,id)::outs) arr cl M I':=by
  refine⟨by rw[(agree k hkid).1];exact hfm.hp,by rw[agM k hkid];exact hfm.Mk,hfm.len,hfm.size,hfm.keys,hfm.nodup,λ b2 hb2=>⟨hkid,hfm.own b2 hb2, ?_⟩,hfm.ent,λ j p hp=>?_,λ i' o' b2 c2 h=>hfm.sep i' o' b2 c2 (I'e i' o' _ h).2,λ i1 o1 i2 o2 b2 c1 c2 h1 h2=>hfm.inj i1 o1 i2 o2 b2 c1 c2 (I'e i1 o1 _ h1).2 (I'e i2 o2 _ h2).2,λ i' o' b2 c2 h=>⟨hkid,hfm.iown i' o' b2 c2 (I'e i' o' _ h).2, ?_⟩,λ x hx=>?_⟩
  .rintro hn ⟨_,rfl⟩
   exact hfm.sep i o b2 cp (hnl hn).1 hb2
  .obtain ⟨vs',t',h1,h2,h3⟩:=hfm.mem j p hp
   refine⟨vs',t',h1,h2,λ c u x hu hx=>⟨(h3 c u x hu hx).1, ?_⟩⟩;by_cases he:j=i/\c=o
   .obtain ⟨rfl,rfl⟩:=he
    have hxx:x = .r e' s' l1:=by
     rw[a1] at hp;cases hp;rw[a2] at hx;cases hx;rfl
    subst hxx
    have huv:u=v:=by
     rw[a4] at h1
     have:vs=vs':=by
      have:=h1;simp only[Option.some.injEq,Obj.cells.injEq,List.toArray_inj] at this;simpa using this.1
     subst this;rw[a6] at hu;cases hu;rfl
    subst huv
    have ho':zaV ((j,c,id)::outs) j c=some id:=by simp[zaV]
    simp only[CellAt,ho'];show u=g'.base id l1.length
    cases hn:nl with
    | true=>simp[Gh.base,g',hn,hbc hn]
    | false=>simp[Gh.base,g',hn,(hnl hn).2.1]
   .have ho':zaV ((i,o,id)::outs) j c=zaV outs j c:=by
     unfold zaV;rw[List.find?_cons_of_neg];simp only[zAr,beq_iff_eq];rintro⟨h1,h2⟩;exact he ⟨h1.symm,h2.symm⟩
    have hI':I' j c=I j c:=if_neg he;have hc:=(h3 c u x hu hx).2.mono (g':=g') (w':=w) (λ _ h=>h) (λ _ _=>rfl) (λ z hz=>agree z (ne z (hs.bornM k z (by rw[hm];simpa [Blk.ids] using hz)))) λ b2 c2 hI hX=>⟨⟨hkid,hX,λ hn ⟨_,e⟩=>far j c b2 c2 hI he hn e⟩,rfl⟩
    cases x with
    | d _=>exact hc
    | p k' tt=>cases tt <;> exact hc
    | r e2 s2 l2 =>
     simp only[CellAt,ho'] at hc ⊢
     cases hz:zaV outs j c <;> rw[hz] at hc
     .show InRow g' w k e2 s2 (I' j) c l2 u
      have hc:InRow g' w k e2 s2 (I j) c l2 u:=hc;unfold InRow at hc ⊢;rw[hI'];exact hc
     .exact hc
    | m l2 =>
     simp only[CellAt,ho'] at hc ⊢
     cases hz:zaV outs j c <;> rw[hz] at hc
     .rw [hI'];exact hc
     .exact hc
  .grind
  .rcases List.mem_cons.1 hx with rfl|hx
   .exact hil
   .exact hfm.olt x hx
 refine⟨g',M.getD i 0,v,hMi,hcell, ?_, .inr ?_,rfl,λ q hq=>agree q (ne q hq)⟩
 .refine hs.regh (λ _ h=>h) (λ _ h=>.inl h) (λ q hq=>agree q (ne q hq)) (λ q hq=>agree q (by omega)) born (λ q=>?_) (λ q j hj=>?_) (λ q d h=>?_) (λ q d h=>?_) (λ q q' d h h' => ?_) λ q hq hx=>?_
  .by_cases hq:q=id
   .subst hq
    rw[mid]
    cases hn:nl with
    | true=>exact .inl ⟨by simp[g',hn],(hbc hn).1⟩
    | false =>
     refine .inr ⟨by simp[g',hn], ?_⟩
     grind
   .by_cases hqk:q=k
    .subst hqk
     rw[mk];exact⟨_,_,_,_,hfam⟩
    .rw [mo q hq hqk]
     exact hs.mem.blkMono (λ _ h=>h) (λ _ _=>rfl) (agree q hq) rfl (λ j hj=>agree j (ne j (hs.bornM q j hj))) (λ _ d hx=>⟨⟨hq,hx,λ _ ⟨e,_⟩=>hqk e⟩,rfl⟩) (agM q hq)
  .by_cases hq:q=id
   .grind [Blk.ids]
   .by_cases hqk:q=k
    .subst hqk
     rw[mk] at hj;simp only[Blk.ids,List.map_cons,List.cons_append,List.mem_cons] at hj
     rcases hj with rfl|hj
     .rw [mid];simp
     .exact born j (hs.bornM q j (by grind [Blk.ids]))
    .rw [mo q hq hqk] at hj;exact born j (hs.bornM q j hj)
  .grind
  .rcases old q d h with ⟨_,rfl,hn⟩|⟨_,h,_⟩
   .exact (hs.ownS (kb hn)).2.1
   .exact (hs.ownS h).2.1
  .rcases old q d h with ⟨e1,e2,hn⟩|⟨hq,p1,hx⟩ <;> rcases old q' d h' with ⟨e3,e4,hn'⟩|⟨hq',p2,hx'⟩
   .rw [e1,e3]
   .subst e2;exact absurd ⟨hs.ownU p2 (kb hn),rfl⟩ (hx' hn)
   .subst e4;exact absurd ⟨hs.ownU p1 (kb hn'),rfl⟩ (hx hn')
   .exact hs.ownU p1 p2
  .have hq':q≠id:=hx.1
   rw[(agree q hq').1] at hx;exact hs.ownX ((alv q hq').1 hq) hx.2.1
 .have hlen:l1.length<=maxLen/\(nl=false->l1.length<=cc cp):=by
   cases hn:nl with
   | true=>grind
   | false =>
    obtain⟨_,_,_,cv,r1,r2,r3,r4,_⟩:=hnl hn;omega
  have hbase:g'.base id l1.length=v:=by grind [Gh.base]
  rw[<- hbase];refine .rs (λ hn=>?_) (λ hn=>?_) hlen.1
  .grind
  grind
theorem SR.takeM {k id i o:Nat}{ks:List Nat}{es:List (D×List MC)}{outs:List (Nat×Nat×Nat)}{l1:List (D×D)}(hs:SR fr nt g e m a w)(hm:m k = .fam ks es outs)(hx:mcAt es i o=some (.m l1))(hno:¬ zdr outs i o)(hid:fr.p<=id/\m id = .unborn) :
  ∃ g' b0 v,(g.M k)[i]? = some b0/\w.cell? ⟨b0,o,none⟩=some v/\SR fr nt g' e (mApp [(id, .mp l1),(k, .fam ks es ((i,o,id)::outs))] m) a w/\DenO g' w v (.mp id):=by
 have hb:=hs.mem.blk k;rw[hm] at hb;obtain⟨arr,cl,M,I,hfm⟩:=hb;obtain⟨q0,vs,t,v,a1,a2,a3,a4,a5,a6,a7,hin,hMi,hcell⟩:=hfm.at' hx
 have hoo:zaV outs i o=none:=by
  cases hz:zaV outs i o with
  | none=>rfl
  | some z =>
   obtain⟨⟨x1,x2,x3⟩,hx1,hx2,hx3,hx4⟩:=zcW hz;dsimp only at hx2 hx3 hx4;subst hx2 hx3 hx4;exact absurd ⟨_,hx1⟩ hno
 simp only[CellAt,hoo] at hin
 have hkid:k≠id:=λ e=>by grind
 have hak:zab g m k:=by simp[zab,hm]
 have hil:i<es.length:=(zAm.1 a1).1
 obtain⟨b,cp,nl,hnf,hnl⟩:∃ (b cp:Nat) (nl:Bool),nl=false/\(nl=false->I i o=some (b,cp)/\v = .map (some b)/\g.X k b/\MapAt g.F w b l1):=by
  obtain⟨b,h1,h2,h3,h4⟩:=hin
  simp_all
 let g':Gh:={ β:=λ q=>if q=id then b else g.β q,C:=λ q=>if q=id then cp else g.C q,N:=λ q=>if q=id then nl else g.N q,M:=λ q=>if q=id then [] else g.M q,F:=g.F,X:=λ q d=>q≠id/\g.X q d/\(nl=false->¬ (q=k/\d=b)) }
 have agree:∀ q,q≠id->g'.β q=g.β q/\g'.C q=g.C q/\g'.N q=g.N q/\g.M q <+: g'.M q:=λ q hq=>by simp[g',hq]
 have agM:∀ q,q≠id->g'.M q=g.M q:=λ q hq=>if_neg hq;have ne:∀ q,m q ≠ .unborn->q≠id:=λ q hq e=>hq (e ▸ hid.2)
 have mid:(mApp [(id, .mp l1),(k, .fam ks es ((i,o,id)::outs))] m) id = .mp l1:=by rw[zaa,if_pos rfl]
 have mk:(mApp [(id, .mp l1),(k, .fam ks es ((i,o,id)::outs))] m) k = .fam ks es ((i,o,id)::outs):=by rw[zaa,if_neg (Ne.symm hkid),zaa,if_pos rfl]
 have mo:∀ q,q≠id->q≠k->(mApp [(id, .mp l1),(k, .fam ks es ((i,o,id)::outs))] m) q=m q:=λ q h1 h2=>by rw[zaa,if_neg (Ne.symm h1),zaa,if_neg (Ne.symm h2)];rfl
 have born:∀ q,m q ≠ .unborn->(mApp [(id, .mp l1),(k, .fam ks es ((i,o,id)::outs))] m) q ≠ .unborn:=by grind
 have alv:∀ q,q≠id->(zab g' (mApp [(id, .mp l1),(k, .fam ks es ((i,o,id)::outs))] m) q ↔ zab g m q):=by
  intro q hq;by_cases hqk:q=k
  .subst hqk;unfold zab;rw[mk,hm]
  .unfold zab;rw[mo q hq hqk,(agree q hq).2.2.1]
 have alvid:zab g' (mApp [(id, .mp l1),(k, .fam ks es ((i,o,id)::outs))] m) id->nl=false:=λ _=>hnf
 have old:∀ q d,OwnS g' (mApp [(id, .mp l1),(k, .fam ks es ((i,o,id)::outs))] m) q d->(q=id/\d=b/\nl=false)∨(q≠id/\OwnS g m q d/\(nl=false->¬ (q=k/\d=b))):=by
  rintro q d ⟨ha,hx⟩;by_cases hq:q=id
  .grind
  .refine .inr ⟨hq, ?_⟩
   have ha':=(alv q hq).1 ha
   rcases hx with hx|hx
   .rw [(agree q hq).1] at hx
    refine⟨⟨ha', .inl hx⟩, ?_⟩;rintro hn ⟨rfl,rfl⟩;exact(hs.mem.own q d ha' (hnl hn).2.2.1).2.2.1 q ha' hx
   .exact ⟨⟨ha', .inr hx.2.1⟩,hx.2.2⟩
 have kb:nl=false->OwnS g m k b:=λ hn=>⟨hak, .inr (hnl hn).2.2.1⟩
 have far:∀ i' o' b2 c2,I i' o'=some (b2,c2)->¬ (i'=i/\o'=o)->nl=false->b2≠b:=by
  rintro i' o' b2 c2 h1 h2 hn rfl;exact h2 (hfm.inj i' o' i o b2 c2 cp h1 (hnl hn).1)
 let I':Nat->Nat->Option (Nat×Nat):=λ i' o' => if i'=i/\o'=o then none else I i' o'
 have I'e:∀ i' o' x,I' i' o'=some x->¬ (i'=i/\o'=o)/\I i' o'=some x:=by grind
 have hfam:FamAt g' w k ks es ((i,o,id)::outs) arr cl M I':=by
  refine⟨by rw[(agree k hkid).1];exact hfm.hp,by rw[agM k hkid];exact hfm.Mk,hfm.len,hfm.size,hfm.keys,hfm.nodup,λ b2 hb2=>⟨hkid,hfm.own b2 hb2, ?_⟩,hfm.ent,λ j p hp=>?_,λ i' o' b2 c2 h=>hfm.sep i' o' b2 c2 (I'e i' o' _ h).2,λ i1 o1 i2 o2 b2 c1 c2 h1 h2=>hfm.inj i1 o1 i2 o2 b2 c1 c2 (I'e i1 o1 _ h1).2 (I'e i2 o2 _ h2).2,λ i' o' b2 c2 h=>⟨hkid,hfm.iown i' o' b2 c2 (I'e i' o' _ h).2, ?_⟩,λ x hx=>?_⟩
  .rintro hn ⟨_,rfl⟩
   exact hfm.sep i o b2 cp (hnl hn).1 hb2
  .obtain ⟨vs',t',h1,h2,h3⟩:=hfm.mem j p hp
   refine⟨vs',t',h1,h2,λ c u x hu hx=>⟨(h3 c u x hu hx).1, ?_⟩⟩;by_cases he:j=i/\c=o
   .obtain ⟨rfl,rfl⟩:=he
    have hxx:x = .m l1:=by
     rw[a1] at hp;cases hp;rw[a2] at hx;cases hx;rfl
    subst hxx
    have huv:u=v:=by
     rw[a4] at h1
     have:vs=vs':=by
      have:=h1;simp only[Option.some.injEq,Obj.cells.injEq,List.toArray_inj] at this;simpa using this.1
     subst this;rw[a6] at hu;cases hu;rfl
    subst huv
    have ho':zaV ((j,c,id)::outs) j c=some id:=by simp[zaV]
    simp only[CellAt,ho'];show u = .map (some (g'.β id));rw[(hnl hnf).2.1];simp[g']
   .have ho':zaV ((i,o,id)::outs) j c=zaV outs j c:=by
     unfold zaV;rw[List.find?_cons_of_neg];simp only[zAr,beq_iff_eq];rintro⟨h1,h2⟩;exact he ⟨h1.symm,h2.symm⟩
    have hI':I' j c=I j c:=if_neg he;have hc:=(h3 c u x hu hx).2.mono (g':=g') (w':=w) (λ _ h=>h) (λ _ _=>rfl) (λ z hz=>agree z (ne z (hs.bornM k z (by rw[hm];simpa [Blk.ids] using hz)))) λ b2 c2 hI hX=>⟨⟨hkid,hX,λ hn ⟨_,e⟩=>far j c b2 c2 hI he hn e⟩,rfl⟩
    cases x with
    | d _=>exact hc
    | p k' tt=>cases tt <;> exact hc
    | r e2 s2 l2 =>
     simp only[CellAt,ho'] at hc ⊢
     cases hz:zaV outs j c <;> rw[hz] at hc
     .show InRow g' w k e2 s2 (I' j) c l2 u
      have hc:InRow g' w k e2 s2 (I j) c l2 u:=hc;unfold InRow at hc ⊢;rw[hI'];exact hc
     .exact hc
    | m l2 =>
     simp only[CellAt,ho'] at hc ⊢
     cases hz:zaV outs j c <;> rw[hz] at hc
     .rw [hI'];exact hc
     .exact hc
  .grind
  .rcases List.mem_cons.1 hx with rfl|hx
   .exact hil
   .exact hfm.olt x hx
 refine⟨g',M.getD i 0,v,hMi,hcell, ?_, .inr ?_⟩
 .refine hs.regh (λ _ h=>h) (λ _ h=>.inl h) (λ q hq=>agree q (ne q hq)) (λ q hq=>agree q (by omega)) born (λ q=>?_) (λ q j hj=>?_) (λ q d h=>?_) (λ q d h=>?_) (λ q q' d h h' => ?_) λ q hq hx=>?_
  .by_cases hq:q=id
   .subst hq
    rw[mid]
    have:g'.β q=b:=by simp[g']
    show MapAt g.F w (g'.β q) l1
    grind
   .by_cases hqk:q=k
    .subst hqk
     rw[mk];exact⟨_,_,_,_,hfam⟩
    .rw [mo q hq hqk]
     exact hs.mem.blkMono (λ _ h=>h) (λ _ _=>rfl) (agree q hq) rfl (λ j hj=>agree j (ne j (hs.bornM q j hj))) (λ _ d hx=>⟨⟨hq,hx,λ _ ⟨e,_⟩=>hqk e⟩,rfl⟩) (agM q hq)
  .by_cases hq:q=id
   .grind [Blk.ids]
   .by_cases hqk:q=k
    .subst hqk
     rw[mk] at hj;simp only[Blk.ids,List.map_cons,List.cons_append,List.mem_cons] at hj
     rcases hj with rfl|hj
     .rw [mid];simp
     .exact born j (hs.bornM q j (by grind [Blk.ids]))
    .rw [mo q hq hqk] at hj;exact born j (hs.bornM q j hj)
  .grind
  .rcases old q d h with ⟨_,rfl,hn⟩|⟨_,h,_⟩
   .exact (hs.ownS (kb hn)).2.1
   .exact (hs.ownS h).2.1
  .rcases old q d h with ⟨e1,e2,hn⟩|⟨hq,p1,hx⟩ <;> rcases old q' d h' with ⟨e3,e4,hn'⟩|⟨hq',p2,hx'⟩
   .rw [e1,e3]
   .subst e2;exact absurd ⟨hs.ownU p2 (kb hn),rfl⟩ (hx' hn)
   .subst e4;exact absurd ⟨hs.ownU p1 (kb hn'),rfl⟩ (hx hn')
   .exact hs.ownU p1 p2
  .have hq':q≠id:=hx.1
   rw[(agree q hq').1] at hx;exact hs.ownX ((alv q hq').1 hq) hx.2.1
 .rw [(hnl hnf).2.1]
  have:=Den.mp (g:=g') (w:=w) (k:=id)
  grind
theorem SR.settleR {k z i o:Nat}{ks:List Nat}{es:List (D×List MC)}{outs:List (Nat×Nat×Nat)}{e':TypeId}{s':Nat}{l1 l0:List D}(hs:SR fr nt g e m a w)(hm:m k = .fam ks es ((i,o,z)::outs))(hz:m z = .row e' s' l1)(hx:mcAt es i o=some (.r e' s' l0))(hno:¬ zdr outs i o)(hzk:z≠k)(hl:l1.length=l0.length) :
  ∃ g',SR fr nt g' e (mApp [(z, .dead),(k, .fam ks (za8 es i o (.r e' s' l1)) outs)] m) a w:=by
 have hb:=hs.mem.blk k;rw[hm] at hb;obtain⟨arr,cl,M,I,hfm⟩:=hb;have hbz:=hs.mem.blk z;rw[hz] at hbz;obtain⟨q0,vs,t,v,a1,a2,a3,a4,a5,a6,a7,hin,hMi,hcell⟩:=hfm.at' hx
 have hoo:zaV ((i,o,z)::outs) i o=some z:=by simp[zaV]
 have hon:zaV outs i o=none:=by
  cases hz':zaV outs i o with
  | none=>rfl
  | some z' =>
   obtain⟨⟨x1,x2,x3⟩,hx1,hx2,hx3,hx4⟩:=zcW hz';dsimp only at hx2 hx3 hx4;subst hx2 hx3 hx4;exact absurd ⟨_,hx1⟩ hno
 simp only[CellAt,hoo] at hin
 have hak:zab g m k:=by simp[zab,hm]
 have hil:i<es.length:=(zAm.1 a1).1
 have haz:g.N z=false->zab g m z:=λ hn=>by simp[zab,hz,hn]
 let J:Option (Nat×Nat):=(if g.N z=true then none else some (g.β z,g.C z))
 have hJ:∀ b c,J=some (b,c)->g.N z=false/\b=g.β z:=by grind
 let g':Gh:={ g with X:=λ q d=>g.X q d∨(q=k/\g.N z=false/\d=g.β z) }
 have sim:∀ q,g'.β q=g.β q/\g'.C q=g.C q/\g'.N q=g.N q/\g.M q <+: g'.M q:=λ _=>⟨rfl,rfl,rfl,List.prefix_rfl⟩
 have mz:(mApp [(z, .dead),(k, .fam ks (za8 es i o (.r e' s' l1)) outs)] m) z = .dead:=by rw[zaa,if_pos rfl]
 have mk:(mApp [(z, .dead),(k, .fam ks (za8 es i o (.r e' s' l1)) outs)] m) k = .fam ks (za8 es i o (.r e' s' l1)) outs:=by rw[zaa,if_neg hzk,zaa,if_pos rfl]
 have mo:∀ q,q≠z->q≠k->(mApp [(z, .dead),(k, .fam ks (za8 es i o (.r e' s' l1)) outs)] m) q=m q:=λ q h1 h2=>by rw[zaa,if_neg (Ne.symm h1),zaa,if_neg (Ne.symm h2)];rfl
 have born:∀ q,m q ≠ .unborn->(mApp [(z, .dead),(k, .fam ks (za8 es i o (.r e' s' l1)) outs)] m) q ≠ .unborn:=by grind
 have alv:∀ q,zab g' (mApp [(z, .dead),(k, .fam ks (za8 es i o (.r e' s' l1)) outs)] m) q->zab g m q/\q≠z:=by
  intro q hq;by_cases hqz:q=z
  .grind [zab,False.elim]
  .refine ⟨?_,hqz⟩
   by_cases hqk:q=k
   .grind
   grind [zab]
 have old:∀ q d,OwnS g' (mApp [(z, .dead),(k, .fam ks (za8 es i o (.r e' s' l1)) outs)] m) q d->(OwnS g m q d/\q≠z)∨(q=k/\d=g.β z/\g.N z=false):=by
  rintro q d ⟨ha,hx⟩;obtain⟨ha,hqz⟩:=alv q ha
  rcases hx with hx|hx|⟨rfl,hn,rfl⟩
  .exact .inl ⟨⟨ha, .inl hx⟩,hqz⟩
  .exact .inl ⟨⟨ha, .inr hx⟩,hqz⟩
  .grind
 have zb:g.N z=false->OwnS g m z (g.β z):=λ hn=>⟨haz hn, .inl rfl⟩
 let I':Nat->Nat->Option (Nat×Nat):=λ i' o' => if i'=i/\o'=o then J else I i' o'
 have I'e:∀ i' o' b c,I' i' o'=some (b,c)->(i'=i/\o'=o/\g.N z=false/\b=g.β z)∨(¬ (i'=i/\o'=o)/\I i' o'=some (b,c)):=by grind
 have notX:g.N z=false->¬ g.X k (g.β z):=λ hn hX=>(hs.mem.own k _ hak hX).2.2.1 z (haz hn) rfl
 have get:∀ j,(za8 es i o (.r e' s' l1))[j]? = if i=j then some (q0.1,q0.2.set o (.r e' s' l1)) else es[j]? := by
  intro j;unfold za8;rw[List.getElem?_modify];by_cases e:i=j
  .subst e;simp[a1]
  .simp [e]
 have cellm:∀ j c u x,¬ (j=i/\c=o)->CellAt g w k ks I ((i,o,z)::outs) j c u x->CellAt g' w k ks I' outs j c u x:=by
  intro j c u x he hc
  have ho':zaV ((i,o,z)::outs) j c=zaV outs j c:=by
   unfold zaV;rw[List.find?_cons_of_neg];simp only[zAr,beq_iff_eq];rintro⟨h1,h2⟩;exact he ⟨h1.symm,h2.symm⟩
  have hI':I' j c=I j c:=if_neg he;have hc:=hc.mono (g':=g') (w':=w) (λ _ h=>h) (λ _ _=>rfl) (λ q _=>sim q) λ b2 c2 hI hX=>⟨.inl hX,rfl⟩
  cases x with
  | d _=>exact hc
  | p k' tt=>cases tt <;> exact hc
  | r e2 s2 l2 =>
   simp only[CellAt,ho'] at hc ⊢
   cases hz':zaV outs j c <;> rw[hz'] at hc
   .show InRow g' w k e2 s2 (I' j) c l2 u
    have hc:InRow g' w k e2 s2 (I j) c l2 u:=hc;unfold InRow at hc ⊢;rw[hI'];exact hc
   .exact hc
  | m l2 =>
   simp only[CellAt,ho'] at hc ⊢
   cases hz':zaV outs j c <;> rw[hz'] at hc
   .rw [hI'];exact hc
   .exact hc
 have hnew:CellAt g' w k ks I' outs i o v (.r e' s' l1):=by
  simp only[CellAt,hon];have hIJ:I' i o=J:=if_pos ⟨rfl,rfl⟩;show InRow g' w k e' s' (I' i) o l1 v;have hin:v=g.base z l0.length:=hin;unfold InRow;rw[hIJ];simp only[J]
  rcases hbz with ⟨z1,z2⟩|⟨z1,z2⟩
  .simp_all [if_pos,Gh.base]
  .rw [if_neg (by rw[z1];simp)]
   refine⟨?_, .inr ⟨rfl,z1,rfl⟩,z2⟩
   grind [Gh.base]
 have hfam:FamAt g' w k ks (za8 es i o (.r e' s' l1)) outs arr cl M I':=by
  refine⟨hfm.hp,hfm.Mk,by rw[hfm.len];simp[za8],by rw[hfm.size];simp[za8],hfm.keys,hfm.nodup,λ b2 hb2=>.inl (hfm.own b2 hb2),λ j x p hx hp=>?_,λ j p hp=>?_,λ i' o' b2 c2 h=>?_,λ i1 o1 i2 o2 b2 c1 c2 h1 h2=>?_,λ i' o' b2 c2 h=>?_,λ x hx=>by have:=hfm.olt x (by simp[hx]);simpa [za8] using this⟩
  .rw [get] at hp
   by_cases e:i=j
   .subst e
    rw[if_pos rfl] at hp
    cases hp
    exact hfm.ent i x q0 hx a1
   .rw [if_neg e] at hp
    exact hfm.ent j x p hx hp
  .rw [get] at hp
   by_cases e:i=j
   .subst e
    rw[if_pos rfl] at hp
    cases hp
    obtain⟨vs',t',h1,h2,h3⟩:=hfm.mem i q0 a1
    grind
   .rw [if_neg e] at hp
    obtain⟨vs',t',h1,h2,h3⟩:=hfm.mem j p hp;exact⟨vs',t',h1,h2,λ c u x hu hx=>⟨(h3 c u x hu hx).1,cellm j c u x (λ h=>e h.1.symm) (h3 c u x hu hx).2⟩⟩
  .rcases I'e i' o' b2 c2 h with ⟨_,_,hn,rfl⟩|⟨_,h⟩
   .exact λ hM=>notX hn (hfm.own _ hM)
   .exact hfm.sep i' o' b2 c2 h
  .rcases I'e i1 o1 b2 c1 h1 with ⟨e1,e2,hn,rfl⟩|⟨_,h1⟩ <;> rcases I'e i2 o2 _ c2 h2 with ⟨e3,e4,hn',h5⟩|⟨_,h2⟩
   .exact ⟨by rw[e1,e3],by rw[e2,e4]⟩
   .exact absurd (hfm.iown _ _ _ _ h2) (notX hn)
   .subst h5;exact absurd (hfm.iown _ _ _ _ h1) (notX hn')
   .exact hfm.inj i1 o1 i2 o2 b2 c1 c2 h1 h2
  .rcases I'e i' o' b2 c2 h with ⟨_,_,hn,rfl⟩|⟨_,h⟩
   .exact .inr ⟨rfl,hn,rfl⟩
   .exact .inl (hfm.iown i' o' b2 c2 h)
 refine⟨g',hs.regh (λ _ h=>h) (λ _ h=>.inl h) (λ q _=>sim q) (λ q _=>sim q) born (λ q=>?_) (λ q j hj=>?_) (λ q d h=>?_) (λ q d h=>?_) (λ q q' d h h' => ?_) λ q hq hx=>?_⟩
 .by_cases hqk:q=k
  .subst hqk
   rw[mk];exact⟨_,_,_,_,hfam⟩
  .by_cases hqz:q=z
   .subst hqz;rw[mz];trivial
   .rw [mo q hqz hqk]
    exact hs.mem.blkMono (λ _ h=>h) (λ _ _=>rfl) (sim q) rfl (λ j _=>sim j) λ _ d hx=>⟨.inl hx,rfl⟩
 .by_cases hqk:q=k
  .subst hqk
   rw[mk] at hj;exact born j (hs.bornM q j (by rw[hm];simp only[Blk.ids,List.map_cons,List.cons_append,List.mem_cons];exact .inr hj))
  .by_cases hqz:q=z
   .subst hqz;rw[mz] at hj;simp[Blk.ids] at hj
   .rw [mo q hqz hqk] at hj;exact born j (hs.bornM q j hj)
 .rcases old q d h with ⟨h,_⟩|⟨_,rfl,hn⟩
  .exact ⟨q,h⟩
  .exact ⟨z,zb hn⟩
 .rcases old q d h with ⟨h,_⟩|⟨_,rfl,hn⟩
  .exact (hs.ownS h).2.1
  .exact (hs.ownS (zb hn)).2.1
 .rcases old q d h with ⟨p1,hq⟩|⟨e1,e2,hn⟩ <;> rcases old q' d h' with ⟨p2,hq'⟩|⟨e3,e4,hn'⟩
  .exact hs.ownU p1 p2
  .subst e4;exact absurd (hs.ownU p1 (zb hn')) hq
  .subst e2;exact absurd (hs.ownU p2 (zb hn)) hq'
  .rw [e1,e3]
 .obtain ⟨ha,hqz⟩:=alv q hq
  rcases hx with hx|⟨rfl,hn,hx⟩
  .exact hs.ownX ha hx
  .exact hqz (hs.mem.inj q z ha (haz hn) hx)
theorem SR.settleM {k z i o:Nat}{ks:List Nat}{es:List (D×List MC)}{outs:List (Nat×Nat×Nat)}{l1 l0:List (D×D)}(hs:SR fr nt g e m a w)(hm:m k = .fam ks es ((i,o,z)::outs))(hz:m z = .mp l1)(hx:mcAt es i o=some (.m l0))(hno:¬ zdr outs i o)(hzk:z≠k) :
  ∃ g',SR fr nt g' e (mApp [(z, .dead),(k, .fam ks (za8 es i o (.m l1)) outs)] m) a w:=by
 have hb:=hs.mem.blk k;rw[hm] at hb;obtain⟨arr,cl,M,I,hfm⟩:=hb;have hbz:=hs.mem.blk z;rw[hz] at hbz;obtain⟨q0,vs,t,v,a1,a2,a3,a4,a5,a6,a7,hin,hMi,hcell⟩:=hfm.at' hx
 have hoo:zaV ((i,o,z)::outs) i o=some z:=by simp[zaV]
 have hon:zaV outs i o=none:=by
  cases hz':zaV outs i o with
  | none=>rfl
  | some z' =>
   obtain⟨⟨x1,x2,x3⟩,hx1,hx2,hx3,hx4⟩:=zcW hz';dsimp only at hx2 hx3 hx4;subst hx2 hx3 hx4;exact absurd ⟨_,hx1⟩ hno
 simp only[CellAt,hoo] at hin
 have hak:zab g m k:=by simp[zab,hm]
 have hil:i<es.length:=(zAm.1 a1).1
 have haz:(true=true)->zab g m z:=λ _=>by simp[zab,hz]
 let J:Option (Nat×Nat):=(some (g.β z,0))
 have hJ:∀ b c,J=some (b,c)->true=true/\b=g.β z:=by grind
 let g':Gh:={ g with X:=λ q d=>g.X q d∨(q=k/\true=true/\d=g.β z) }
 have sim:∀ q,g'.β q=g.β q/\g'.C q=g.C q/\g'.N q=g.N q/\g.M q <+: g'.M q:=λ _=>⟨rfl,rfl,rfl,List.prefix_rfl⟩
 have mz:(mApp [(z, .dead),(k, .fam ks (za8 es i o (.m l1)) outs)] m) z = .dead:=by rw[zaa,if_pos rfl]
 have mk:(mApp [(z, .dead),(k, .fam ks (za8 es i o (.m l1)) outs)] m) k = .fam ks (za8 es i o (.m l1)) outs:=by rw[zaa,if_neg hzk,zaa,if_pos rfl]
 have mo:∀ q,q≠z->q≠k->(mApp [(z, .dead),(k, .fam ks (za8 es i o (.m l1)) outs)] m) q=m q:=λ q h1 h2=>by rw[zaa,if_neg (Ne.symm h1),zaa,if_neg (Ne.symm h2)];rfl
 have born:∀ q,m q ≠ .unborn->(mApp [(z, .dead),(k, .fam ks (za8 es i o (.m l1)) outs)] m) q ≠ .unborn:=by grind
 have alv:∀ q,zab g' (mApp [(z, .dead),(k, .fam ks (za8 es i o (.m l1)) outs)] m) q->zab g m q/\q≠z:=by
  intro q hq;by_cases hqz:q=z
  .grind [zab,False.elim]
  .refine ⟨?_,hqz⟩
   by_cases hqk:q=k
   .grind
   grind [zab]
 have old:∀ q d,OwnS g' (mApp [(z, .dead),(k, .fam ks (za8 es i o (.m l1)) outs)] m) q d->(OwnS g m q d/\q≠z)∨(q=k/\d=g.β z/\true=true):=by
  rintro q d ⟨ha,hx⟩;obtain⟨ha,hqz⟩:=alv q ha
  rcases hx with hx|hx|⟨rfl,hn,rfl⟩
  .exact .inl ⟨⟨ha, .inl hx⟩,hqz⟩
  .exact .inl ⟨⟨ha, .inr hx⟩,hqz⟩
  .grind
 have zb:true=true->OwnS g m z (g.β z):=λ hn=>⟨haz hn, .inl rfl⟩
 let I':Nat->Nat->Option (Nat×Nat):=λ i' o' => if i'=i/\o'=o then J else I i' o'
 have I'e:∀ i' o' b c,I' i' o'=some (b,c)->(i'=i/\o'=o/\true=true/\b=g.β z)∨(¬ (i'=i/\o'=o)/\I i' o'=some (b,c)):=by grind
 have notX:true=true->¬ g.X k (g.β z):=λ hn hX=>(hs.mem.own k _ hak hX).2.2.1 z (haz hn) rfl
 have get:∀ j,(za8 es i o (.m l1))[j]? = if i=j then some (q0.1,q0.2.set o (.m l1)) else es[j]? := by
  intro j;unfold za8;rw[List.getElem?_modify];by_cases e:i=j
  .subst e;simp[a1]
  .simp [e]
 have cellm:∀ j c u x,¬ (j=i/\c=o)->CellAt g w k ks I ((i,o,z)::outs) j c u x->CellAt g' w k ks I' outs j c u x:=by
  intro j c u x he hc
  have ho':zaV ((i,o,z)::outs) j c=zaV outs j c:=by
   unfold zaV;rw[List.find?_cons_of_neg];simp only[zAr,beq_iff_eq];rintro⟨h1,h2⟩;exact he ⟨h1.symm,h2.symm⟩
  have hI':I' j c=I j c:=if_neg he;have hc:=hc.mono (g':=g') (w':=w) (λ _ h=>h) (λ _ _=>rfl) (λ q _=>sim q) λ b2 c2 hI hX=>⟨.inl hX,rfl⟩
  cases x with
  | d _=>exact hc
  | p k' tt=>cases tt <;> exact hc
  | r e2 s2 l2 =>
   simp only[CellAt,ho'] at hc ⊢
   cases hz':zaV outs j c <;> rw[hz'] at hc
   .show InRow g' w k e2 s2 (I' j) c l2 u
    have hc:InRow g' w k e2 s2 (I j) c l2 u:=hc;unfold InRow at hc ⊢;rw[hI'];exact hc
   .exact hc
  | m l2 =>
   simp only[CellAt,ho'] at hc ⊢
   cases hz':zaV outs j c <;> rw[hz'] at hc
   .rw [hI'];exact hc
   .exact hc
 have hnew:CellAt g' w k ks I' outs i o v (.m l1):=by
  simp only[CellAt,hon];have hIJ:I' i o=J:=if_pos ⟨rfl,rfl⟩;have hin:v = .map (some (g.β z)):=hin;exact⟨g.β z,hIJ,hin, .inr ⟨rfl,rfl,rfl⟩,hbz⟩
 have hfam:FamAt g' w k ks (za8 es i o (.m l1)) outs arr cl M I':=by
  refine⟨hfm.hp,hfm.Mk,by rw[hfm.len];simp[za8],by rw[hfm.size];simp[za8],hfm.keys,hfm.nodup,λ b2 hb2=>.inl (hfm.own b2 hb2),λ j x p hx hp=>?_,λ j p hp=>?_,λ i' o' b2 c2 h=>?_,λ i1 o1 i2 o2 b2 c1 c2 h1 h2=>?_,λ i' o' b2 c2 h=>?_,λ x hx=>by have:=hfm.olt x (by simp[hx]);simpa [za8] using this⟩
  .rw [get] at hp
   by_cases e:i=j
   .subst e
    rw[if_pos rfl] at hp
    cases hp
    exact hfm.ent i x q0 hx a1
   .rw [if_neg e] at hp
    exact hfm.ent j x p hx hp
  .rw [get] at hp
   by_cases e:i=j
   .subst e
    rw[if_pos rfl] at hp
    cases hp
    obtain⟨vs',t',h1,h2,h3⟩:=hfm.mem i q0 a1
    grind
   .rw [if_neg e] at hp
    obtain⟨vs',t',h1,h2,h3⟩:=hfm.mem j p hp;exact⟨vs',t',h1,h2,λ c u x hu hx=>⟨(h3 c u x hu hx).1,cellm j c u x (λ h=>e h.1.symm) (h3 c u x hu hx).2⟩⟩
  .rcases I'e i' o' b2 c2 h with ⟨_,_,hn,rfl⟩|⟨_,h⟩
   .exact λ hM=>notX hn (hfm.own _ hM)
   .exact hfm.sep i' o' b2 c2 h
  .rcases I'e i1 o1 b2 c1 h1 with ⟨e1,e2,hn,rfl⟩|⟨_,h1⟩ <;> rcases I'e i2 o2 _ c2 h2 with ⟨e3,e4,hn',h5⟩|⟨_,h2⟩
   .exact ⟨by rw[e1,e3],by rw[e2,e4]⟩
   .exact absurd (hfm.iown _ _ _ _ h2) (notX hn)
   .subst h5;exact absurd (hfm.iown _ _ _ _ h1) (notX hn')
   .exact hfm.inj i1 o1 i2 o2 b2 c1 c2 h1 h2
  .rcases I'e i' o' b2 c2 h with ⟨_,_,hn,rfl⟩|⟨_,h⟩
   .exact .inr ⟨rfl,hn,rfl⟩
   .exact .inl (hfm.iown i' o' b2 c2 h)
 refine⟨g',hs.regh (λ _ h=>h) (λ _ h=>.inl h) (λ q _=>sim q) (λ q _=>sim q) born (λ q=>?_) (λ q j hj=>?_) (λ q d h=>?_) (λ q d h=>?_) (λ q q' d h h' => ?_) λ q hq hx=>?_⟩
 .by_cases hqk:q=k
  .subst hqk
   rw[mk];exact⟨_,_,_,_,hfam⟩
  .by_cases hqz:q=z
   .subst hqz;rw[mz];trivial
   .rw [mo q hqz hqk]
    exact hs.mem.blkMono (λ _ h=>h) (λ _ _=>rfl) (sim q) rfl (λ j _=>sim j) λ _ d hx=>⟨.inl hx,rfl⟩
 .by_cases hqk:q=k
  .subst hqk
   rw[mk] at hj;exact born j (hs.bornM q j (by rw[hm];simp only[Blk.ids,List.map_cons,List.cons_append,List.mem_cons];exact .inr hj))
  .by_cases hqz:q=z
   .subst hqz;rw[mz] at hj;simp[Blk.ids] at hj
   .rw [mo q hqz hqk] at hj;exact born j (hs.bornM q j hj)
 .rcases old q d h with ⟨h,_⟩|⟨_,rfl,hn⟩
  .exact ⟨q,h⟩
  .exact ⟨z,zb hn⟩
 .rcases old q d h with ⟨h,_⟩|⟨_,rfl,hn⟩
  .exact (hs.ownS h).2.1
  .exact (hs.ownS (zb hn)).2.1
 .rcases old q d h with ⟨p1,hq⟩|⟨e1,e2,hn⟩ <;> rcases old q' d h' with ⟨p2,hq'⟩|⟨e3,e4,hn'⟩
  .exact hs.ownU p1 p2
  .subst e4;exact absurd (hs.ownU p1 (zb hn')) hq
  .subst e2;exact absurd (hs.ownU p2 (zb hn)) hq'
  .rw [e1,e3]
 .obtain ⟨ha,hqz⟩:=alv q hq
  rcases hx with hx|⟨rfl,hn,hx⟩
  .exact hs.ownX ha hx
  .exact hqz (hs.mem.inj q z ha (haz hn) hx)
theorem SR.settleF {k z:Nat}{ks:List Nat}{r:List (D×List MC)}{t:List (Nat×Nat×Nat)}(hs:SR fr nt g e m a w)(h:zea k z m ks r t):∃ g',SR fr nt g' e (mApp [(z, .dead),(k, .fam ks r t)] m) a w:=by
 obtain⟨es,outs,i,o,hm,rfl,hno,hzk,⟨e',s',l1,l0,h1,h2,h3,rfl⟩|⟨l1,l0,h1,h2,rfl⟩⟩:=h
 .exact hs.settleR hm h1 h2 hno hzk h3
 .exact hs.settleM hm h1 h2 hno hzk
end
end Go.Vc
namespace Go.Vc
open Go.RowKit
section
variable {P:Program} {fr:Fr} {nt:Nat} {g:Gh} {e:Nat->SV} {m:Nat->Blk} {a:Act} {w:World} {c:Ctx} {o:Oper} {K:Dl->List Loc->Prop} {Q:Exit->Act->World->Prop} {l:List Loc}
theorem zvg {A:Nat->Nat->Pg}{x:SV}(h:(match x with | .rs q n=>A q n|_=>Pg.fail) e m l K):∃ q n,x = .rs q n/\A q n e m l K:=by
 split at h
 .grind
 .exact h.elim
theorem ztO {A:Int->Int->Pg}{x y:SV}(h:(match x,y with | .dat (.v (.int _ n)), .dat (.v (.int _ n'))=>A n n'|_,_=>Pg.fail) e m l K):∃ k n k' n',x = .dat (.v (.int k n))/\y = .dat (.v (.int k' n'))/\A n n' e m l K:=by
 split at h
 .grind
 .exact h.elim
theorem zwq {s i j c o:Nat}(hc:c<s)(ho:o<s)(h:j*s+c=i*s+o):j=i/\c=o:=by
 have e1:(j*s+c) % s=c:=by rw[Nat.mul_comm,Nat.mul_add_mod,Nat.mod_eq_of_lt hc]
 have e2:(i*s+o) % s=o:=by rw[Nat.mul_comm,Nat.mul_add_mod,Nat.mod_eq_of_lt ho]
 have hco:c=o:=by grind
 subst hco;exact⟨Nat.eq_of_mul_eq_mul_right (by omega) (Nat.add_right_cancel h),rfl⟩
theorem SnAt.put {w':World}{k i o s:Nat}{e:TypeId}{out out':Option (Nat×Nat×Nat)}{es:List (List MC)}{cur cur':Array Value}{I:Nat->Nat->Option (Nat×Nat)}{u:Value}{x y:MC}(h:SnAt g w k e s out es cur I)(hx:snAt es i o=some x)
  (hp:∃ z,w'.heap[g.β k]? = some (.cells cur' e z)/\Free z cur'.size) (hsz:cur'.size=cur.size) (hget:∀ p:Nat,cur'[p]? = if p=co (g.C k)+(i*s+o) then some u else cur[p]?)
  (hF:∀ b,g.F b->w'.heap[b]? = w.heap[b]?) (hX:∀ b,g.X k b->w'.heap[b]? = w.heap[b]?) (ho:∀ j c z,¬ (j=i/\c=o)->(out'=some (j,c,z) ↔ out=some (j,c,z)))
  (hu:u.oneCell'=true) (hy:SCell g w' k (λ j c=>if j=i/\c=o then none else I j c) out' i o u y):SnAt g w' k e s out' (zbG es i o y) cur' (λ j c=>if j=i/\c=o then none else I j c):=by
 obtain⟨li,hli,hlo⟩:=zdI hx
 have ho':o<s:=by rw[<- h.len li (zAp hli)];exact(zAm.1 hlo).1
 have hne:∀ {j c:Nat} {bc:Nat×Nat},(if j=i/\c=o then none else I j c)=some bc->¬ (j=i/\c=o)/\I j c=some bc:=λ {j c bc} h=>by
  grind
 have hget':∀ (j c:Nat) (lj:List MC) (x':MC),(zbG es i o y)[j]? = some lj->lj[c]? = some x'->snAt (zbG es i o y) j c=some x':=λ j c lj x' h1 h2=>by grind [snAt]
 refine⟨h.nn,hp,by rw[hsz];exact h.size,by simpa [zbG] using h.le,λ lj hj=>?_,λ j c lj x' hj hx' => ?_,λ j c b1 c1 hI=>⟨?_,λ z hz=>(h.dom j c b1 c1 (hne hI).2).2 z ((ho j c z (hne hI).1).1 hz)⟩,λ j c j' c' b1 c1 c2 q1 q2=>h.inj j c j' c' b1 c1 c2 (hne q1).2 (hne q2).2⟩
 .obtain ⟨j,hjl,hj⟩:=List.getElem_of_mem hj
  have hj2:(zbG es i o y)[j]? = some lj:=by grind
  unfold zbG at hj2;rw[List.getElem?_modify] at hj2
  cases hq0:es[j]? with
  | none=>grind
  | some l0 =>
   rw[hq0] at hj2;have h0:=h.len l0 (zAp hq0)
   grind
 .have hat:=hget' j c lj x' hj hx'
  rw[zgq] at hat;by_cases hji:j=i/\c=o
  .grind
  .rw [if_neg hji] at hat
   obtain⟨lj',hj',hx''⟩:=zdI hat
   have hc:c<s:=by rw[<- h.len lj' (zAp hj')];exact(zAm.1 hx'').1
   obtain⟨v,v1,v2,v3⟩:=h.mem j c lj' x' hj' hx'';refine⟨v,by rw[hget,if_neg (λ e=>hji (zwq hc ho' (Nat.add_left_cancel e)))];exact v1,v2, ?_⟩
   cases x' with
   | d x=>exact Rd.mono v3 (λ _ h=>h) hF
   | p c t=>exact v3
   | m l=>exact v3
   | r e2 s2 l2 =>
    rcases v3 with ⟨z,hz,hv⟩|⟨hz,v3⟩
    .exact .inl ⟨z,(ho j c z hji).2 hz,hv⟩
    .refine .inr ⟨λ z h' => hz z ((ho j c z hji).1 h'), ?_⟩
     unfold InRow at v3 ⊢;dsimp only;rw[if_neg hji]
     cases hI:I j c with
     | none=>grind
     | some bc =>
      obtain⟨b2,c2⟩:=bc;rw[hI] at v3;exact⟨v3.1,v3.2.1,v3.2.2.mono (λ _ h=>h) hF (hX b2 v3.2.1)⟩
 .rw [zgq,if_neg (hne hI).1];exact(h.dom j c b1 c1 (hne hI).2).1
theorem znu {t:TypeId}{ti:TI}{x:Operand}{sv:SV}{id:Nat}(hT:TIok P t ti)(hs:SR fr nt g e m a w)(ho:∀ d,o.dst=some d->d<nt)(hp:fr.p<=id)(hop:o.op = .load t x)
  (hx:DenO g w (a.eval x) sv) (hb:∀ k,k∈sv.ids->m k ≠ .unborn) (h:zjo ti sv id e m l K):Good P fr nt e m a w o K Q:=by
 unfold zjo at h
 split at h
 .rename_i k i o'
  unfold Pg.getB at h;rw[zaq] at h
  cases hm:m k with
  | fam ks es outs =>
   rw[hm] at h;obtain⟨y,hy,h⟩:=h
   have hvx:∀ b0,(g.M k)[i]? = some b0->a.eval x = .pointer (some ⟨b0,o',none⟩):=by
    intro b0 hb0
    rcases hx with hx|hx
    .cases hx
    .generalize a.eval x=v at hx
     cases hx with
     | po h1=>grind
   have back:zdX ti (.po k i o') e m (Loc.b k::l) K->Good P fr nt e m a w o K Q:=λ h=>zfJ hT hs ho hop hx hb h
   cases y with
   | r e' s' l1 =>
    obtain⟨hw,h⟩:=zaj h;simp only[zAr,Bool.not_eq_true'] at hw
    rcases h with h|h
    .obtain ⟨z,hz,h⟩:=h
     rw[zaq] at h
     cases hmz:m z with
     | row e2 s2 l2 =>
      rw[hmz] at h;obtain⟨hw2,h⟩:=zaj h;obtain⟨hll,n,rfl,h⟩:=h;rw[zat] at h;have hb0:=hs.mem.blk k;rw[hm] at hb0;obtain⟨arr,cl,M,I,hfm⟩:=hb0;obtain⟨q0,vs,t',u0,g1,g2,g3,g4,g5,g6,g7,g8,hMi,g9⟩:=hfm.at' hy;simp only[CellAt,hz] at g8
      have hrun:(execOp a.eval o).run P w = .ok (.value u0) w:=by
       have hv2:=hvx _ hMi;have:=za9 (P:=P) hT hw.2 g9;rw[List.getD_eq_getElem?_getD] at hv2 this;simp[execOp,hop,hv2,this]
      have hbz:=hs.mem.blk z;rw[hmz] at hbz;refine zai hs ho hrun (.inr ?_) (by simp[SV.ids,hmz]) h;rw[g8]
      rcases hbz with ⟨b1,b2⟩|⟨b1,cur,r1,r2,r3,r4,r5,r6⟩
      .have h0:l1.length=0:=by grind
       exact .rs (λ _=>h0) (λ h=>by omega) (by omega)
      .exact .rs (λ h=>by grind) (λ _=>by omega) (by omega)
     | _=>rw[hmz] at h;exact h.elim
    rw[zaq] at h
    cases hid:m id with
    | unborn =>
     rw[hid] at h;obtain⟨hno,n,rfl,h⟩:=h;obtain⟨g',b0,v,hM,hc,hs',hd,_,_⟩:=hs.takeR hm hy hno ⟨hp,hid⟩
     have hrun:(execOp a.eval o).run P w = .ok (.value v) w:=by
      have:=za9 (P:=P) hT hw.2 hc;simp[execOp,hop,hvx b0 hM,this]
     exact zkb hs' ho hrun hd (by
      intro q hq;simp[SV.ids] at hq;subst hq
      rw[zaa,if_pos rfl];simp) h
    | _=>rw[hid] at h;exact h.elim
   | m l1 =>
    obtain⟨hw,h⟩:=zaj h;simp only[zAr,Bool.not_eq_true'] at hw;rw[zaq] at h
    cases hid:m id with
    | unborn =>
     rw[hid] at h;obtain⟨hno,h⟩:=h;obtain⟨g',b0,v,hM,hc,hs',hd⟩:=hs.takeM hm hy hno ⟨hp,hid⟩
     have hrun:(execOp a.eval o).run P w = .ok (.value v) w:=by
      have:=za9 (P:=P) hT hw.2 hc;simp[execOp,hop,hvx b0 hM,this]
     exact zkb hs' ho hrun hd (by
      intro q hq;simp[SV.ids] at hq;subst hq
      rw[zaa,if_pos rfl];simp) h
    | _=>rw[hid] at h;exact h.elim
   | d _=>exact back h
   | p _ _=>exact back h
  | _=>rw[hm] at h;exact h.elim
 .rename_i k s i j
  unfold Pg.getB at h;rw[zaq] at h
  cases hm:m k with
  | sn e1 s1 ea out es =>
   rw[hm] at h;replace h:=zaj h;obtain⟨hw,h⟩:=h;simp only[zAr,Bool.not_eq_true'] at hw;obtain⟨⟨hss,hsz⟩,hag⟩:=hw;obtain rfl:=zAo hss;obtain⟨y,hy,h⟩:=h;have hb0:=hs.mem.blk k;rw[hm] at hb0;obtain⟨li,hli,hlo⟩:=zdI hy
   obtain⟨cur,I,hS⟩:∃ cur I,SnAt g w k e1 s out es cur I:=by
    rcases hb0 with ⟨_,h,_⟩|h
    .grind
    .exact h
   have hv:a.eval x = .pointer (some ⟨g.β k,co (g.C k)+(i*s+j),none⟩):=by
    rcases hx with hx|hx
    .cases hx
    .generalize a.eval x=v at hx
     cases hx with
     | rp hN=>grind
   obtain⟨u,hu,hu1,hu2⟩:=hS.mem i j li y hli hlo
   have hc:w.cell? ⟨g.β k,co (g.C k)+(i*s+j),none⟩=some u:=by grind [SnAt.hp,Go.cell_of_row]
   have hrun:(execOp a.eval o).run P w = .ok (.value u) w:=by
    have:=za9 (P:=P) hT hag hc;simp[execOp,hop,hv,this]
   cases y with
   | d x' =>
    dsimp only at h;rw[zat] at h;exact zai hs ho hrun (zcg hu2) (by rw[zch];simp) h
   | p c t=>exact h.elim
   | m l=>exact h.elim
   | r e' s' l1 =>
    cases out with
    | none =>
     dsimp only[Pg.getB] at h;rw[zaq] at h
     cases hid:m id with
     | unborn =>
      rw[hid] at h;obtain⟨n,rfl,h⟩:=h;obtain⟨g',v,hc',hs',hd⟩:=hs.take hm hy ⟨hp,hid⟩;rw[hc] at hc';cases hc'
      exact zkb hs' ho hrun hd (by
       intro q hq;simp[SV.ids] at hq;subst hq
       rw[zaa,if_pos rfl];simp) h
     | _=>rw[hid] at h;exact h.elim
    | some p =>
     obtain⟨i',j',z⟩:=p;obtain⟨⟨rfl,rfl⟩,h⟩:=h;dsimp only[Pg.getB] at h;rw[zaq] at h
     cases hz:m z with
     | row e2 s2 l' =>
      rw[hz] at h;replace h:=zaj h;obtain⟨_,hll,n,rfl,h⟩:=h;rw[zat] at h;have hbz:=hs.mem.blk z;rw[hz] at hbz
      rcases hu2 with ⟨z',hz',hv'⟩|⟨hn,_⟩
      .cases hz'
       refine zai hs ho hrun (.inr ?_) (by simp[SV.ids,hz]) h;rw[hv']
       have hle:l'.length<=maxLen:=by
        rcases hbz with ⟨_,h2⟩|⟨_,_,_,_,r2,r3,_⟩
        .grind
        .omega
       refine .rs (λ hn=>?_) (λ hn=>?_) (by omega)
       .rcases hbz with ⟨_,h2⟩|⟨h1,_⟩
        .grind
        grind
       .rcases hbz with ⟨h1,_⟩|⟨_,_,_,_,r2,_⟩
        .grind
        omega
      grind
     | _=>rw[hz] at h;exact h.elim
  | _=>rw[hm] at h;grind [zfJ]
 grind [zfJ]
theorem zkh {t:TypeId}{ti:TI}{x y:Operand}{sa sx:SV}(hT:TIok P t ti)(hs:SR fr nt g e m a w)(ho:∀ d,o.dst=some d->d<nt)(hop:o.op = .store t x y)
  (hx:DenO g w (a.eval x) sa) (hy:DenO g w (a.eval y) sx) (hby:∀ k,k∈sx.ids->m k ≠ .unborn) (h:zf ti sa sx e m l K):Good P fr nt e m a w o K Q:=by
 unfold zf at h
 split at h
 .rename_i k i o'
  unfold Pg.getB at h;rw[zaq] at h
  cases hm:m k with
  | fam ks es outs =>
   rw[hm] at h;obtain⟨y0,hy0,h⟩:=h;have back:zdF ti (.po k i o') sx e m (Loc.b k::l) K->Good P fr nt e m a w o K Q:=λ h=>zeI hT hs ho hop hx hy hby h
   cases y0 with
   | r e' s' l0 =>
    obtain⟨hw,h⟩:=zaj h;simp only[zAr,Bool.not_eq_true'] at hw;have hsz:=zAo hw.1;obtain⟨q,n,rfl,h⟩:=zvg h;obtain⟨hqk,h⟩:=zaj h
    have hqk:q≠k:=by
     rintro rfl;simp at hqk
    rw[zaq] at h
    cases hq:m q with
    | row e2 s2 l1 =>
     rw[hq] at h;obtain⟨hw2,h⟩:=zaj h;simp only[zAr] at hw2;obtain rfl:=zAo hw2.1;obtain rfl:=zAo hw2.2;obtain⟨hn,r,rfl,t0,rfl,hK⟩:=h;have hb:=hs.mem.blk k;rw[hm] at hb;obtain⟨arr,cl,M,I,hfm⟩:=hb;obtain⟨q0,vs,t',u0,g1,g2,g3,g4,g5,g6,g7,g8,hMi,g9⟩:=hfm.at' hy0
     have hak:zab g m k:=by simp[zab,hm]
     have hX:=hfm.own _ g3;obtain⟨x1,x2,x3,x4⟩:=hs.mem.own k _ hak hX;have hlt:o'<vs.length:=(zAm.1 g6).1;have hil:i<es.length:=(zAm.1 g1).1
     have hvx:a.eval x = .pointer (some ⟨M.getD i 0,o',none⟩):=by
      rcases hx with hx|hx
      .cases hx
      .generalize a.eval x=v at hx
       cases hx with
       | po h1=>grind
     have hvy:a.eval y=g.base q n:=by
      rcases hy with hy|hy
      .cases hy
      .generalize a.eval y=v at hy
       cases hy with
       | rs _ _ _=>rfl
     have hone:(g.base q n).cells.toList=[g.base q n]:=by unfold Gh.base;split <;> rfl
     have hcell:(g.base q n).oneCell'=true:=by unfold Gh.base;split <;> rfl
     have hr:=zbR (P:=P) (v:=g.base q n) (off:=o') hT g4 (by grind) (by grind) (λ p u hu=>by
      grind)
     have hnew:vs.toArray.toList.take o'++(g.base q n).cells.toList++vs.toArray.toList.drop (o'+(g.base q n).cells.toList.length)=vs.set o' (g.base q n):=by
      rw[hone];simp only[List.length_singleton];rw[List.set_eq_take_append_cons_drop,if_pos hlt];simp
     rw[hnew] at hr
     have hrun:(execOp a.eval o).run P w = .ok .skip (w.setRow (M.getD i 0) (vs.set o' (g.base q n)).toArray):=by
      rw[List.getD_eq_getElem?_getD] at hvx hr ⊢;simp[execOp,hop,hvx,hvy,hr]
     have hnoT:¬ zdr (outs.filter λ x=>!(Nat.beq x.1 i&&Nat.beq x.2.1 o')) i o':=by
      rintro⟨z,hz⟩;have:=(List.mem_filter.1 hz).2;simp at this
     have hot:∀ j c,¬ (j=i/\c=o')->zaV ((i,o',q)::outs.filter λ x=>!(Nat.beq x.1 i&&Nat.beq x.2.1 o')) j c=zaV outs j c:=by
      intro j c hne;unfold zaV
      rw[List.find?_cons_of_neg (by
       simp only[zAr,beq_iff_eq];rintro⟨h1,h2⟩
       exact hne ⟨h1.symm,h2.symm⟩),List.find?_filter]
      congr 2
      funext x;by_cases h1:x.1=j
      .by_cases h2:x.2.1=c
       .have:(Nat.beq x.1 i&&Nat.beq x.2.1 o')=false:=by grind [Bool.and_eq_false_iff,beqF]
        grind
       .simp [h2]
      .simp [h1]
     have hsX:=hs.setX (b := .fam ks (za8 es i o' (.r e2 s2 l1)) ((i,o',q)::outs.filter λ x=>!(Nat.beq x.1 i&&Nat.beq x.2.1 o'))) hak hX (λ b hb=>setRow_other w _ b _ hb) (size_setRow _ _ _) rfl rfl rfl ⟨arr,cl,M,I,hfm.upd hot (λ x hx=>by
       rcases List.mem_cons.1 hx with rfl|hx
       .exact hil
       .exact hfm.olt x (List.mem_filter.1 hx).1) (λ x hx=>by
       grind) g1 g4 g5 (λ c v x hv hx=>by
       obtain⟨vs2,t2,e1,e2,e3⟩:=hfm.mem i q0 g1
       grind) hlt hcell (setRow_heap w _ _ _ _ _ g4) (λ b hb=>setRow_other w _ b _ hb) x2 (x3 k hak) (by
       have:zaV ((i,o',q)::outs.filter λ x=>!(Nat.beq x.1 i&&Nat.beq x.2.1 o')) i o'=some q:=by simp[zaV]
       grind [CellAt])⟩ (by simp) (λ z hz=>by
       simp only[Blk.ids,List.map_cons,List.cons_append,List.mem_cons,List.mem_append,List.mem_map] at hz
       rcases hz with rfl|⟨x,hx,rfl⟩|hz
       .rw [hq];simp
       .exact hs.bornM k _ (by rw[hm];simp only[Blk.ids,List.mem_append,List.mem_map];grind)
       .exact hs.bornM k _ (by grind [Blk.ids]))
     have hmc:mcAt (za8 es i o' (.r e2 s2 l1)) i o'=some (.r e2 s2 l1):=by grind [zAm,mcAt,za8]
     obtain⟨g',hsS⟩:=hsX.settleR (k:=k) (z:=q) (l0:=l1) (by rw[zaa,if_pos rfl]) (by rw[zaa,if_neg (Ne.symm hqk)];exact hq) hmc hnoT hqk rfl;unfold Good Oper.wp;rw[hrun];refine⟨_,_,hK,g', ?_⟩
     have hss:za8 (za8 es i o' (.r e2 s2 l1)) i o' (.r e2 s2 l1)=za8 es i o' (.r e2 s2 l1):=by
      unfold za8;refine List.ext_getElem? λ j=>?_;rw[List.getElem?_modify,List.getElem?_modify];by_cases e:i=j
      .simp_all
      .simp [e]
     rw[hss] at hsS
     have hmm:mApp [(q, .dead),(k, .fam ks (za8 es i o' (.r e2 s2 l1)) (outs.filter λ x=>!(Nat.beq x.1 i&&Nat.beq x.2.1 o')))] (mApp [(k, .fam ks (za8 es i o' (.r e2 s2 l1)) ((i,o',q)::outs.filter λ x=>!(Nat.beq x.1 i&&Nat.beq x.2.1 o')))] m)=mApp [(q, .dead),(k, .fam ks (za8 es i o' (.r e2 s2 l1)) (outs.filter λ x=>!(Nat.beq x.1 i&&Nat.beq x.2.1 o')))] m:=by
      funext p;simp only[zaa];by_cases hp1:q=p
      .simp [hp1]
      .by_cases hp2:k=p
       .simp [hp2]
       grind [beqF,mApp]
     rw[hmm] at hsS;exact hsS.put ho (.inl rfl) (by simp[SV.ids])
    | _=>rw[hq] at h;exact h.elim
   | d _=>exact back h
   | p _ _=>exact back h
   | m _=>exact back h
  | _=>rw[hm] at h;exact h.elim
 .rename_i k s i j
  unfold Pg.getB at h;rw[zaq] at h
  cases hm:m k with
  | sn e1 s1 ea out es =>
   rw[hm] at h;replace h:=zaj h;obtain⟨hw,h⟩:=h;simp only[zAr,Bool.not_eq_true'] at hw;obtain⟨⟨hss,hsz⟩,hag⟩:=hw;obtain rfl:=zAo hss;have hsz:=zAo hsz;obtain⟨y0,hy0,h⟩:=h;have hb:=hs.mem.blk k;rw[hm] at hb;obtain⟨li,hli,hlo⟩:=zdI hy0
   obtain⟨cur,I,hS⟩:∃ cur I,SnAt g w k e1 s out es cur I:=by
    rcases hb with ⟨_,h,_⟩|h
    .grind
    .exact h
   have hak:zab g m k:=by simp[zab,hm,hS.nn]
   have hvx:a.eval x = .pointer (some ⟨g.β k,co (g.C k)+(i*s+j),none⟩):=by
    rcases hx with hx|hx
    .cases hx
    .generalize a.eval x=v at hx
     cases hx with
     | rp hN=>grind
   obtain⟨u0,hu0,_,_⟩:=hS.mem i j li y0 hli hlo;obtain⟨zz,hpp,hzf⟩:=hS.hp;have hic:co (g.C k)+(i*s+j)<cur.size:=(Array.getElem?_eq_some_iff.1 hu0).1
   -- the write of one value
   have key:∀ v:Value,v.oneCell'=true->(a.eval y).cells.toList=[v]->∃ new:Array Value,(execOp a.eval o).run P w = .ok .skip (w.setRow (g.β k) new)/\new.size=cur.size/\∀ p:Nat,new[p]? = if p=co (g.C k)+(i*s+j) then some v else cur[p]? := by
    intro v hcell hone;refine⟨(cur.toList.take (co (g.C k)+(i*s+j))++[v]++cur.toList.drop (co (g.C k)+(i*s+j)+[v].length)).toArray, ?_, ?_,λ p=>?_⟩
    .have:=zcZ (P:=P) (v:=a.eval y) (off:=co (g.C k)+(i*s+j)) hT hpp hzf (by grind) (by grind) (λ p u hu=>by
      grind)
     simp_all [Go.execOp]
    .grind
    .rw [List.getElem?_toArray,zfh _ _ _ _ (by simp;omega)]
     grind
   cases y0 with
   | p c t=>exact h.elim
   | m l=>exact h.elim
   | d x0 =>
    dsimp only at h
    cases hcs:sx.cells with
    | none=>simp only[hcs] at h;exact h.elim
    | some cs =>
     match cs,hcs with
     | [],hcs=>simp only[hcs] at h;exact h.elim
     | c1::c2::r,hcs=>simp only[hcs] at h;exact h.elim
     | [c1],hcs =>
      simp only[hcs] at h
      cases hd:c1.toD1 0 with
      | none=>simp only[hd] at h;exact h.elim
      | some d =>
       simp only[hd] at h
       cases h1:c1.one with
       | false=>simp only[h1,cond_false] at h;exact h.elim
       | true =>
        simp only[h1,cond_true] at h;obtain⟨r,rfl,hK⟩:=h
        rcases hy with hy|hy
        .grind [SV.cells]
        obtain⟨hcd,_⟩:=zbp hy hcs (by simp[h1]);obtain⟨u1,hu1⟩:∃ u1,(a.eval y).cells.toList=[u1]:=List.length_eq_one_iff.1 hcd.1;obtain⟨o1,d1⟩:=hcd.2 0 u1 c1 (by rw[hu1];rfl) rfl;obtain⟨new,hrun,hnsz,hget⟩:=key u1 o1 hu1;have hF:∀ b,g.F b->(w.setRow (g.β k) new).heap[b]? = w.heap[b]? := λ b hb=>setRow_other w _ b _ λ e=>hs.mem.hot k hak (e ▸ hb);have hX:∀ b,g.X k b->(w.setRow (g.β k) new).heap[b]? = w.heap[b]? := λ b hb=>setRow_other w _ b _ λ e=>hs.ownX hak (e ▸ hb)
        have hB:BlkRel g (w.setRow (g.β k) new) k (.sn e1 s ea out (zbG es i j (.d d))) :=
         .inr ⟨new,_,hS.put hy0 ⟨_,setRow_heap w _ _ _ _ _ hpp,by grind⟩ hnsz hget hF hX (λ _ _ _ _=>Iff.rfl) o1 (Rd.mono (zbm d1 hd) (λ _ h=>h) hF)⟩
        unfold Good Oper.wp;rw[hrun];refine⟨_,_,hK,g, ?_⟩
        exact(hs.setB (k:=k) hak (λ b hb=>setRow_other w _ b _ hb) (size_setRow _ _ _) rfl rfl rfl hB (by simp) (λ z hz=>hs.bornM k z (by rw[hm];rcases out with _|⟨_,_,_⟩ <;> exact hz))).put ho (.inl rfl) (by simp[SV.ids])
   | r e' s' l0 =>
    replace h:=zvg h;obtain⟨q,n,rfl,h⟩:=h;replace h:=zaj h;obtain⟨hqk,h⟩:=h
    have hqk:q≠k:=by
     rintro rfl;simp at hqk
    dsimp only[Pg.getB] at h;rw[zaq] at h
    cases hq:m q with
    | row e2 s2 l1 =>
     rw[hq] at h;replace h:=zaj h;obtain⟨hw,h⟩:=h;simp only[zAr] at hw;obtain rfl:=zAo hw.1;obtain rfl:=zAo hw.2;obtain⟨⟨hn,hout⟩,r,rfl,hK⟩:=h
     have hvy:a.eval y=g.base q n:=by
      rcases hy with hy|hy
      .cases hy
      .generalize a.eval y=v at hy
       cases hy with
       | rs _ _ _=>rfl
     have hone:(g.base q n).cells.toList=[g.base q n]:=by unfold Gh.base;split <;> rfl
     have hcell:(g.base q n).oneCell'=true:=by unfold Gh.base;split <;> rfl
     obtain⟨new,hrun,hnsz,hget⟩:=key (g.base q n) hcell (by grind);have hF:∀ b,g.F b->(w.setRow (g.β k) new).heap[b]? = w.heap[b]? := λ b hb=>setRow_other w _ b _ λ e=>hs.mem.hot k hak (e ▸ hb);have hX:∀ b,g.X k b->(w.setRow (g.β k) new).heap[b]? = w.heap[b]? := λ b hb=>setRow_other w _ b _ λ e=>hs.ownX hak (e ▸ hb)
     have hB:BlkRel g (w.setRow (g.β k) new) k (.sn e1 s ea (some (i,j,q)) (zbG es i j (.r e2 s2 l1))) :=
      .inr ⟨new,_,hS.put hy0 ⟨_,setRow_heap w _ _ _ _ _ hpp,by grind⟩ hnsz hget hF hX (λ j' c' z hne=>⟨λ h=>absurd (by grind) hne,λ h=>absurd (hout _ h) hne⟩) hcell (.inl ⟨q,rfl,by rw[hn]⟩)⟩
     have hsB:=hs.setB (k:=k) (b := .sn e1 s ea (some (i,j,q)) (zbG es i j (.r e2 s2 l1))) hak (λ b hb=>setRow_other w _ b _ hb) (size_setRow _ _ _) rfl rfl rfl hB (by simp) (by
      grind [Blk.ids])
     obtain⟨g',hsS⟩:=hsB.settle (k:=k) (z:=q) (q:=zbG es i j (.r e2 s2 l1)) (e1:=e1) (s:=s) (ea:=ea) ⟨i,j,zbG es i j (.r e2 s2 l1),e2,s2,l1,l1,by rw[zaa,if_pos rfl],by
      rw[zaa,if_neg (Ne.symm hqk)];exact hq,by rw[zgq,if_pos ⟨rfl,rfl⟩,hy0];rfl,rfl,by
      unfold zbG;rw[List.modify_modify_eq];congr 1;funext l;simp⟩
     unfold Good Oper.wp;rw[hrun];refine⟨_,_,hK,g', ?_⟩
     have hmm:mApp [(q, .dead),(k, .sn e1 s ea none (zbG es i j (.r e2 s2 l1)))] (mApp [(k, .sn e1 s ea (some (i,j,q)) (zbG es i j (.r e2 s2 l1)))] m)=mApp [(q, .dead),(k, .sn e1 s ea none (zbG es i j (.r e2 s2 l1)))] m:=by
      funext p;simp only[zaa];by_cases hp1:q=p
      .simp [hp1]
      .by_cases hp2:k=p
       .simp [hp2]
       grind [beqF,mApp]
     rw[hmm] at hsS;exact hsS.put ho (.inl rfl) (by simp[SV.ids])
    | _=>rw[hq] at h;exact h.elim
  | _=>rw[hm] at h;grind [zeI]
 grind [zeI]
theorem zpM {t:TypeId}{x:Operand}{id:Nat}(hT:TyOK P c.ty)(hs:SR fr nt g e m a w)(ho:∀ d,o.dst=some d->d<nt)(hp:fr.p<=id)(hop:o.op = .load t x)
  (h:Pg.opd x (λ sv=>match c.ty.at t with|some ti=>zjo ti sv id|none=>Pg.fail) e m l K):Good P fr nt e m a w o K Q:=by
 obtain⟨y,l',hy,hb,h1⟩:=zah hs h
 cases ht:c.ty.at t with
 | none=>simp only[ht] at h1;exact h1.elim
 | some ti=>simp only[ht] at h1;exact znu (hT t ti ht) hs ho hp hop hy hb h1
theorem znv {t:TypeId}{x y:Operand}(hT:TyOK P c.ty)(hs:SR fr nt g e m a w)(ho:∀ d,o.dst=some d->d<nt)(hop:o.op = .store t x y)
  (h:Pg.opd x (λ sa=>Pg.opd y λ sx=>match c.ty.at t with|some ti=>zf ti sa sx|none=>Pg.fail) e m l K):Good P fr nt e m a w o K Q:=by
 obtain⟨sa,l',hx,_,h1⟩:=zah hs h;obtain⟨sx,l2,hy,hb,h2⟩:=zah hs h1
 cases ht:c.ty.at t with
 | none=>simp only[ht] at h2;exact h2.elim
 | some ti=>simp only[ht] at h2;exact zkh (hT t ti ht) hs ho hop hx hy hb h2
theorem zqR {F:Nat->Prop}{v:Value}{d:D}(hnt:d.noTup=true)(h:Rd F w v d){j:Nat}{dj:D}(hj:d.cells[j]? = some dj):∃ u,v.cells[j]? = some u/\u.oneCell'=true/\Rd F w u dj:=by
 cases h with
 | @agg vs cs h1 h2 h3 =>
  have hj':cs[j]? = some dj:=hj
  have hlt:j<vs.length:=by grind
  exact⟨vs[j],by simp[Value.cells,hlt],h2 j _ _ (zAn hlt) hj',h3 j _ _ (zAn hlt) hj'⟩
 | @v x hp =>
  have:j=0:=by grind [zAm,D.cells]
  subst this;simp[D.cells] at hj;subst hj;have h1:=zvf hp;refine⟨v, ?_,h1, .v hp⟩
  cases v <;> first|rfl|simp[Value.oneCell'] at h1
 | tup=>simp[D.noTup] at hnt
 | nil hc => 
  have:j=0:=by grind [zAm,D.cells]
  subst this;simp[D.cells] at hj;subst hj;exact⟨_,rfl,rfl, .nil hc⟩
 | sl f h4 h5 h6 h7 h8 h9 h10 h11 =>
  have:j=0:=by grind [zAm,D.cells]
  subst this;simp[D.cells] at hj;subst hj;exact⟨_,rfl,rfl, .sl f h4 h5 h6 h7 h8 h9 h10 h11⟩
 | ifc h1 =>
  have:j=0:=by grind [zAm,D.cells]
  subst this;simp[D.cells] at hj;subst hj;exact⟨_,rfl,rfl, .ifc h1⟩
 | pt f h1 h2 h3 h4 =>
  have:j=0:=by grind [zAm,D.cells]
  subst this;simp[D.cells] at hj;subst hj;exact⟨_,rfl,rfl, .pt f h1 h2 h3 h4⟩
theorem zoH {z:Array Value}{n s i j:Nat}(hz:z.size=s)(hj:j<s)(hi:i<n):(madeCells z (n*s))[i*s+j]? = z[j]? := by
 have h1:i*s+j<n*s:=by
  have:(i+1)*s<=n*s:=Nat.mul_le_mul_right _ hi;rw[Nat.add_mul] at this;omega
 grind [Nat.mul_comm,Nat.mul_add_mod,Nat.mod_eq_of_lt,Go.madeCells,Array.size]
theorem zqS {id n cap:Nat}{cur:Array Value}{t e':TypeId}{s':Nat}(hs:SR fr nt g e m a w)(ho:∀ d,o.dst=some d->d<nt)(hid:fr.p<=id/\m id = .unborn)
  (hrun:(execOp a.eval o).run P w = .ok (.value (.slice (some ⟨w.heap.size,0,none⟩) n cap)) (w.alloc (.cells cur t)))
  (hn:n<=cap) (hcap:cap<=maxLen) (hsz:cur.size=cap) (hcell:∀ i,i<n->cur[i]? = some (.slice none 0 0))
  (hK:K ⟨.rs id n,[(id, .sn t 1 false none (List.replicate n [.r e' s' []]))]⟩ l):Good P fr nt e m a w o K Q:=by
 unfold Good Oper.wp;rw[hrun];refine⟨_,_,hK,g.set id w.heap.size cap false, ?_⟩
 have hN:(g.set id w.heap.size cap false).N id=false:=by simp[Gh.set]
 have hB:(g.set id w.heap.size cap false).β id=w.heap.size:=by simp[Gh.set]
 have hC:(g.set id w.heap.size cap false).C id=cap:=by simp[Gh.set]
 have h1:=(hs.ext (Ext.alloc w (.cells cur t))).born (id:=id) (b:=w.heap.size) (cap:=cap) (nl:=false) (bl := .sn t 1 false none (List.replicate n [.r e' s' []])) hid.1 hid.2 (by simp)
  (.inr ⟨cur,λ _ _=>none,⟨hN,⟨_,by rw[hB];exact zb0 w _, .inl rfl⟩,by grind [zfc,zdu],by grind [zdu],λ l hl=>by grind,λ i c lx x hi hx=>by
   have hlt:i<n:=by grind
   have hle:lx=[.r e' s' []]:=(List.mem_replicate.1 (zAp hi)).2;subst hle
   cases c with
   | succ c=>simp at hx
   | zero =>
    cases hx
    exact⟨_,by rw[hC,zfc hcap,Nat.zero_add,Nat.mul_one,Nat.add_zero];grind,rfl, .inr ⟨by simp,rfl,rfl⟩⟩,λ _ _ _ _ h=>(by cases h),λ _ _ _ _ _ _ _ h=>(by cases h)⟩⟩) (by simp[Blk.ids])
  (λ _=>⟨λ k hk h=>by have:=zbH hs.mem hk;omega,λ h=>by have:=hs.mem.lt _ h;omega,λ h=>by have:=(hs.keep _ h).1;have:=hs.size;omega, .inr hs.size⟩) (λ _ k hk hx=>by have:=(hs.mem.own k _ hk hx).1;omega)
 refine h1.put ho (.inr ?_) ?_
 .have:=Den.rs (g:=g.set id w.heap.size cap false) (w:=w.alloc (.cells cur t)) (k:=id) (n:=n) (by simp[hN]) (by grind [zdu]) (by omega)
  grind [zfc,zdu,Gh.base]
 .intro k hk
  simp[SV.ids] at hk;subst hk;rw[zaa,if_pos rfl];simp
theorem zjb {t:TypeId}{x y:Operand}{id:Nat}(hT:TyOK P c.ty)(hs:SR fr nt g e m a w)(ho:∀ d,o.dst=some d->d<nt)(hid:fr.p<=id/\m id = .unborn)(hop:o.op = .makeSlice t x y)
  (h:Pg.opd x (λ sn=>Pg.opd y λ sc=>zdd c t sn sc id) e m l K):Good P fr nt e m a w o K Q:=by
 obtain⟨sn,l1,hx,_,h⟩:=zah hs h;obtain⟨sc,l2,hy,_,h⟩:=zah hs h;unfold zdd at h;obtain⟨k1,n,k2,n',rfl,rfl,h⟩:=ztO h
 .obtain ⟨hvx,_⟩:=Den.int hx
  obtain⟨hvy,hry⟩:=Den.int hy
  cases ht:c.ty.at t with
  | none=>simp only[ht] at h;exact h.elim
  | some ti =>
  obtain⟨kk,sz,by_,ag,cz,zz⟩:=ti
  cases kk with
  | slice el es ea =>
   simp only[ht] at h;obtain⟨d,hd,_,hk⟩:=(hT t _ ht).desc;dsimp only at hk;obtain⟨rfl,ie,hie,hies⟩:=hk
   cases hte:c.ty.at el with
   | none=>simp only[hte] at h;exact h.elim
   | some te =>
   obtain⟨i,zv,hi,his,hib,hz,hzc,hzl⟩:=(hT el te hte).info
   have hts:te.size=es:=by grind
   have run:∀ (h0:0<=n) (h1:n<=n') (h2:n'*te.bytes<=140737488355328) (hb:1<=te.bytes),(execOp a.eval o).run P w = .ok (.value (.slice (some ⟨w.heap.size,0,none⟩) n.toNat n'.toNat)) (w.alloc (.cells (madeCells zv.cells (n'.toNat*te.size)) el))/\n'.toNat<=maxLen:=by
    intro h0 h1 h2 hb
    have hn':n'<=n'*te.bytes:=by
     have:=Int.mul_le_mul_of_nonneg_left (show (1:Int)<=te.bytes by omega) (show 0<=n' by omega);omega
    have:=run_make (P:=P) w t el i zv hd hi hz k1 k2 n n' h0 h1 (by grind) (by omega);rw[his] at this;exact⟨by simp_all [Go.execOp],by simp only[maxLen];omega⟩
   have gen:(match zeD te with
    | some z=>when_ (Nat.ble 1 es&&Nat.ble 1 te.bytes&&Nat.beq z.cells.length es&&D.noTup z) (cond (0<=n/\n<=n'/\n'*te.bytes<=140737488355328) (Pg.ex (λ q:Nat×List D=>q.1=n.toNat/\q.2=List.replicate n.toNat z) λ q=>Pg.ret ⟨.rs id q.1,[(id, .row el es q.2)]⟩))
    | none=>Pg.fail) e m l2 K->Good P fr nt e m a w o K Q:=by
    intro h
    cases hzd:zeD te with
    | none=>rw[hzd] at h;exact h.elim
    | some z =>
     rw[hzd] at h;dsimp only at h;obtain⟨hw,⟨h0,h1,h2⟩,⟨q1,q2⟩,⟨e1,e2⟩,hK⟩:=zaj h;dsimp only at e1 e2;subst e1 e2;simp only[zAr] at hw;obtain⟨⟨⟨w1,w2⟩,w3⟩,w4⟩:=hw;have w1:=zAq w1;have w2:=zAq w2;have w3:=zAo w3;obtain⟨hr,hmx⟩:=run h0 h1 h2 w2;obtain⟨v,hv1,hv2⟩:=zdx (g:=g) (w:=w) (hT el te hte) hzd _ rfl
     have hvz:v=zv:=by
      simp[zeroValue,typeInfo,hi,hz] at hv1;exact hv1.symm
     subst hvz
     have hcz:v.cells.size=es:=by grind
     have hmm:(n.toNat)<=n'.toNat:=by omega
     refine zkc hs ho hid (Ext.refl w) hr hmm hmx (by simpa using hmm) (by rw[size_madeCells,hts]) (λ el' hel=>?_) (λ p j el' dj hel hdj=>?_) hK
     .grind
     grind [zAm,zAp,zqR,zoH]
   simp only[hte] at h
   cases hne:zwe te with
   | none=>rw[hne] at h;exact gen h
   | some ee =>
    obtain⟨e',es'⟩:=ee;rw[hne] at h
    have hf:Nat.beq te.size 1=true/\Nat.ble 1 te.bytes=true/\nilZ te.zero=true:=by
     unfold zwe at hne
     split at hne
     .grind
     .cases hne
    obtain⟨f1,f2,f3⟩:=hf;have f1:=zAo f1;have f2:=zAq f2
    have f3:te.zero=[.slice none 0 0]:=by grind [nilZ]
    replace h:=zaj h;obtain⟨hw,⟨h0,h1,h2⟩,⟨q1,q2⟩,⟨e1,e2⟩,hK⟩:=h;dsimp only at e1 e2;subst e1 e2;obtain⟨hr,hmx⟩:=run h0 h1 h2 f2
    have hmm:(n.toNat)<=n'.toNat:=by omega
    have hzc':zv.cells = #[.slice none 0 0]:=by grind
    rw[f1] at hr;refine zqS hs ho hid hr hmm hmx (by rw[size_madeCells,Nat.mul_one]) (λ p hp=>?_) hK;have:=zoH (z:=zv.cells) (n:=n'.toNat) (s:=1) (i:=p) (j:=0) (by rw[hzc'];rfl) (by omega) (by omega)
    grind
  | _=>simp only[ht] at h;exact h.elim
theorem zpN {A:Int->Pg}{x y:SV}(h:(match x,y with | .nil, .dat (.v (.int _ n))=>A n|_,_=>Pg.fail) e m l K):∃ k n,x = .nil/\y = .dat (.v (.int k n))/\A n e m l K:=by
 split at h
 .grind
 .exact h.elim
theorem ztP {z:Array Value}{n s i j:Nat}(hz:z.size=s)(hj:j<s)(hi:i<n):(Builtin.zeroCells z n)[i*s+j]? = z[j]? := by
 have h1:i*s+j<n*s:=by
  have:(i+1)*s<=n*s:=Nat.mul_le_mul_right _ hi;rw[Nat.add_mul] at this;omega
 grind [Nat.mul_comm,Nat.mul_add_mod,Nat.mod_eq_of_lt,Go.Builtin.zeroCells,Array.size]
theorem zlR {t t':TypeId}{x y:Operand}{id:Nat}(hT:TyOK P c.ty)(hs:SR fr nt g e m a w)(ho:∀ d,o.dst=some d->d<nt)(hid:fr.p<=id/\m id = .unborn)
  (hop:o.op = .call { callee := .builtin .append,args := #[x,y],argTypes := #[t,t'] }) (hi':zov c t'=true) (h:zgc c x y t id e m l K):Good P fr nt e m a w o K Q:=by
 obtain⟨sn,l1,hx,_,h⟩:=zah hs h;obtain⟨sc,l2,hy,_,h⟩:=zah hs h;obtain⟨k2,n,rfl,rfl,h⟩:=zpN h
 have hvx:a.eval x = .slice none 0 0:=by
  rcases hx with hx|hx
  .cases hx
  .generalize a.eval x=v at hx
   cases hx;rfl
 obtain⟨hvy,hry⟩:=Den.int hy
 have htn:∃ kn,P.underlying t'=some (.int kn):=by
  unfold zov at hi'
  cases ht':c.ty.at t' with
  | none=>grind
  | some ti =>
   obtain⟨kk,sz,by_,ag,cz,zz⟩:=ti;rw[ht'] at hi'
   cases kk <;> first|grind|skip
   obtain⟨d,hd,_,hk⟩:=(hT t' _ ht').desc
   grind
 obtain⟨kn,htn⟩:=htn
 cases ht:c.ty.at t with
 | none=>simp only[ht] at h;exact h.elim
 | some ti =>
 obtain⟨kk,sz,by_,ag,cz,zz⟩:=ti
 cases kk with
 | slice el es ea =>
  simp only[ht] at h;obtain⟨d,hd,_,hk⟩:=(hT t _ ht).desc;dsimp only at hk;obtain⟨rfl,ie,hie,hies⟩:=hk
  cases hte:c.ty.at el with
  | none=>simp only[hte] at h;exact h.elim
  | some te =>
  simp only[hte] at h;obtain⟨i,zv,hi,his,hib,hz,hzc,hzl⟩:=(hT el te hte).info
  have hts:te.size=es:=by grind
  cases hzd:zeD te with
  | none=>rw[hzd] at h;exact h.elim
  | some z =>
   rw[hzd] at h;dsimp only at h;replace h:=zaj h;obtain⟨hw,⟨h0,h2⟩,⟨q1,q2⟩,⟨e1,e2⟩,hK⟩:=h;dsimp only at e1 e2;subst e1 e2;simp only[zAr] at hw;obtain⟨⟨⟨w1,w2⟩,w3⟩,w4⟩:=hw;have w1:=zAq w1;have w2:=zAq w2;have w3:=zAo w3
   have hn':n<=n*te.bytes:=by
    have:=Int.mul_le_mul_of_nonneg_left (show (1:Int)<=te.bytes by omega) (show 0<=n by omega);omega
   obtain⟨n,rfl⟩:∃ m:Nat,n=m:=⟨n.toNat,by omega⟩
   have h2':n*te.bytes<=140737488355328:=by omega
   have hrun:=Lib.run_append_nil_zeros (P:=P) w t t' o.type el i zv k2 kn hd htn hi hz n (by omega) (by rw[his];omega) (by omega) (by rw[hib];omega);generalize hcap:grownCap w n 0 el=cap at hrun
   have hc1:n<=cap:=by grind [Go.grownCap_ge]
   have hc2:cap<=maxLen:=by grind [Go.grownCap_le_maxLen,Go.maxLen]
   obtain⟨v,hv1,hv2⟩:=zdx (g:=g) (w:=w) (hT el te hte) hzd _ rfl
   have hvz:v=zv:=by
    simp[zeroValue,typeInfo,hi,hz] at hv1;exact hv1.symm
   subst hvz
   have hcz:v.cells.size=es:=by grind
   have hrun':(execOp a.eval o).run P w = .ok (.value (.slice (some ⟨w.drew.heap.size,0,none⟩) n cap)) (w.drew.alloc (.cells (Builtin.zeroCells v.cells n++Builtin.zeroCells v.cells (cap-n)) el)):=by simp_all [Go.execOp,Go.resolve,Go.invoke,Go.builtin]
   rw[Int.toNat_natCast] at hK;refine zkc hs ho hid (Ext.drew w) hrun' hc1 hc2 (by simpa using hc1) ?_ (λ el' hel=>?_) (λ p j el' dj hel hdj=>?_) hK
   .rw [Array.size_append,size_zeroCells,size_zeroCells,hcz,<- Nat.add_mul];congr 1;omega
   .grind
   .have hp:p<n:=by grind
    have he:el'=z:=(List.mem_replicate.1 (zAp hel)).2;subst he;obtain⟨u,u1,u2,u3⟩:=zqR w4 hv2 hdj
    grind [zAm,Go.size_zeroCells,Nat.mul_le_mul_right,Nat.add_mul,Array.getElem?_append_left,ztP]
 | _=>simp only[ht] at h;exact h.elim
end
end Go.Vc
namespace Go.Vc
open Go.RowKit
section
variable {P:Program} {fr:Fr} {nt:Nat} {g:Gh} {e:Nat->SV} {m:Nat->Blk} {a:Act} {w:World} {c:Ctx} {o:Oper} {K:Dl->List Loc->Prop} {Q:Exit->Act->World->Prop} {l:List Loc}
def zjc (F:Nat->Prop)(w:World)(X:Nat->Prop)(I:Option (Nat×Nat))(u:Value):MC->Prop
 | .d x=>Rd F w u x
 | .r e s l=>match I with
  | none=>l=[]/\u = .slice none 0 0
  | some (b,c)=>u = .slice (some ⟨b,co c,none⟩) l.length (cc c)/\X b/\RowAt F w b e s c l
 | _=>False
structure SnSide (F:Nat->Prop)(w:World)(X:Nat->Prop)(s:Nat)(es:List (List MC))(xs:List Value)(I:Nat->Nat->Option (Nat×Nat)):Prop where
 len:∀ l,l∈es->l.length=s
 xl:xs.length=es.length*s
 mem:∀ (i o:Nat) l x,es[i]? = some l->l[o]? = some x->∃ u,xs[i*s+o]? = some u/\u.oneCell'=true/\zjc F w X (I i o) u x
 dom:∀ i o b c,I i o=some (b,c)->∃ e' s' l,snAt es i o=some (.r e' s' l)
 inj:∀ i o i' o' b c c',I i o=some (b,c)->I i' o'=some (b,c')->i=i'/\o=o'
theorem SnSide.nil {F:Nat->Prop}{X:Nat->Prop}{s:Nat}:SnSide F w X s [] [] λ _ _=>none :=
 ⟨λ _ h=>(by cases h),by simp,λ _ _ _ _ h=>(by simp at h),λ _ _ _ _ h=>(by cases h),λ _ _ _ _ _ _ _ h=>(by cases h)⟩
theorem SnAt.side {k s:Nat}{e:TypeId}{es:List (List MC)}{cur:Array Value}{I:Nat->Nat->Option (Nat×Nat)}(h:SnAt g w k e s none es cur I):SnSide g.F w (g.X k) s es ((cur.toList.drop (co (g.C k))).take (es.length*s)) I:=by
 have hle:es.length*s<=cc (g.C k)*s:=Nat.mul_le_mul_right _ h.le;have hsz:=h.size;refine⟨h.len,by simp;omega,λ i o l x hl hx=>?_,λ i o b c hI=>(h.dom i o b c hI).1,h.inj⟩;obtain⟨u,u1,u2,u3⟩:=h.mem i o l x hl hx;have hi:i<es.length:=(zAm.1 hl).1
 have ho:o<s:=by rw[<- h.len l (zAp hl)];exact(zAm.1 hx).1
 have hlt:i*s+o<es.length*s:=by
  have:(i+1)*s<=es.length*s:=Nat.mul_le_mul_right _ hi;rw[Nat.add_mul] at this;omega
 refine⟨u,by grind,u2, ?_⟩
 cases x with
 | d x=>exact u3
 | p c t=>exact u3
 | m l=>exact u3
 | r e2 s2 l2 =>
  rcases u3 with ⟨z,hz,_⟩|⟨_,u3⟩
  .cases hz
  grind [InRow,zjc]
theorem SnSide.app {w':World}{F X Y:Nat->Prop}{s:Nat}{es fs:List (List MC)}{xs ys:List Value}{I J:Nat->Nat->Option (Nat×Nat)}(h:SnSide F w X s es xs I)(h':SnSide F w Y s fs ys J)
  (hF:∀ b,F b->w'.heap[b]? = w.heap[b]?) (hX:∀ b,X b->w'.heap[b]? = w.heap[b]?) (hY:∀ b,Y b->w'.heap[b]? = w.heap[b]?) (hXY:∀ b,X b->Y b->False) :
  SnSide F w' (λ b=>X b∨Y b) s (es++fs) (xs++ys) λ i o=>if i<es.length then I i o else J (i-es.length) o:=by
 have ownI:∀ {i o b c},I i o=some (b,c)->X b:=λ {i o b c} hI=>by
  obtain⟨e',s',l,hs⟩:=h.dom i o b c hI;obtain⟨li,h1,h2⟩:=zdI hs;obtain⟨u,_,_,u3⟩:=h.mem i o li _ h1 h2
  grind [zjc]
 have ownJ:∀ {i o b c},J i o=some (b,c)->Y b:=λ {i o b c} hI=>by
  obtain⟨e',s',l,hs⟩:=h'.dom i o b c hI;obtain⟨li,h1,h2⟩:=zdI hs;obtain⟨u,_,_,u3⟩:=h'.mem i o li _ h1 h2
  grind [zjc]
 have mono:∀ {Z:Nat->Prop} {I0:Option (Nat×Nat)} {u:Value} {x:MC},(∀ b,Z b->w'.heap[b]? = w.heap[b]?)->(∀ b,Z b->X b∨Y b)->zjc F w Z I0 u x->zjc F w' (λ b=>X b∨Y b) I0 u x:=by
  intro Z I0 u x hZ hZ2 hc
  cases x with
  | d x=>exact Rd.mono hc (λ _ h=>h) hF
  | p c t=>exact hc
  | m l=>exact hc
  | r e2 s2 l2 =>
   unfold zjc at hc ⊢
   cases I0 with
   | none=>exact hc
   | some bc=>obtain⟨b,c⟩:=bc;exact⟨hc.1,hZ2 b hc.2.1,hc.2.2.mono (λ _ h=>h) hF (hZ b hc.2.1)⟩
 refine⟨λ l hl=>(List.mem_append.1 hl).elim (h.len l) (h'.len l),by grind [List.length_append,SnSide.xl,Nat.add_mul],λ i o l x hl hx=>?_,λ i o b c hI=>?_,λ i o i' o' b c c' h1 h2=>?_⟩
 .by_cases hi:i<es.length
  .rw [List.getElem?_append_left hi] at hl
   obtain⟨u,u1,u2,u3⟩:=h.mem i o l x hl hx
   grind
  .rw [List.getElem?_append_right (by omega)] at hl
   obtain⟨u,u1,u2,u3⟩:=h'.mem (i-es.length) o l x hl hx;have hge:es.length*s<=i*s:=Nat.mul_le_mul_right _ (by omega);refine⟨u, ?_,u2, ?_⟩
   .grind [List.getElem?_append_right,SnSide.xl,Nat.sub_mul]
   grind
 .unfold snAt
  by_cases hi:i<es.length
  .rw [if_pos hi] at hI
   rw[List.getElem?_append_left hi];exact h.dom i o b c hI
  .rw [if_neg hi] at hI
   rw[List.getElem?_append_right (by omega)];exact h'.dom _ o b c hI
 .by_cases hi:i<es.length <;> by_cases hi':i'<es.length
  .rw [if_pos hi] at h1;rw[if_pos hi'] at h2;exact h.inj _ _ _ _ _ _ _ h1 h2
  .grind
  .grind
  .rw [if_neg hi] at h1;rw[if_neg hi'] at h2
   have:=h'.inj _ _ _ _ _ _ _ h1 h2;omega
theorem SnSide.at {F:Nat->Prop}{X:Nat->Prop}{s k gb off cap n:Nat}{e:TypeId}{es:List (List MC)}{xs:List Value}{I:Nat->Nat->Option (Nat×Nat)}{cur:Array Value}(h:SnSide F w X s es xs I)(hF:g.F=F)(hX:∀ b,X b->g.X k b)(hN:g.N k=false)(hB:g.β k=gb)(hC:g.C k=occ off cap)
  (hmx:cap<=maxLen) (hp:∃ z,w.heap[gb]? = some (.cells cur e z)/\Free z cur.size) (hn:es.length=n) (hle:n<=cap) (hsz:off+cap*s<=cur.size) (htk:(cur.toList.drop off).take (n*s)=xs):SnAt g w k e s none es cur I:=by
 refine⟨hN,by grind,by grind [zjr,zhd],by grind [zhd],h.len,λ i o l x hl hx=>?_,λ i o b c hI=>⟨h.dom i o b c hI,by simp⟩,h.inj⟩;obtain⟨u,u1,u2,u3⟩:=h.mem i o l x hl hx;refine⟨u, ?_,u2, ?_⟩
 .grind [zjr]
 .subst hF
  cases x with
  | d x=>exact u3
  | p c t=>exact u3
  | m l=>exact u3
  | r e2 s2 l2 =>
   refine .inr ⟨by simp, ?_⟩
   grind [zjc,InRow]
theorem SR.growSn {id s n n':Nat}{el:TypeId}{ea:Bool}{es1 es2:List (List MC)}{v v':Value}{w':World}{xs ys:List Value}{I1 I2:Nat->Nat->Option (Nat×Nat)}{X1 X2 D:Nat->Prop}{m1 m':Nat->Blk}(hs:SR fr nt g e m a w)(hid:fr.p<=id/\m id = .unborn)
  (h1:SnSide g.F w X1 s es1 xs I1) (h2:SnSide g.F w X2 s es2 ys I2) (hn:es1.length=n) (hn':es2.length=n') (x1:∀ b,X1 b->∃ d,D d/\OwnS g m d b) (x2:∀ b,X2 b->∃ d,D d/\OwnS g m d b) (x12:∀ b,X1 b->X2 b->False)
  (xv:∀ b,v.ownBlock=some b->(∃ d,D d/\OwnS g m d b)/\¬ X1 b/\¬ X2 b) (r2:zcv w' el s v' (n+n') (xs++ys)) (r3:w.grownBy w' v.ownBlock) (r5:v'.ownBlock=v.ownBlock∨v'.ownBlock=some w.heap.size) (hmx:n+n'<=maxLen)
  (hk:SR fr nt g e m1 a w) (m1D:∀ d,D d->m1 d = .dead) (m1o:∀ p,¬ D p->m1 p=m p) (hD:∀ d,D d->m d ≠ .unborn)
  (mid:m' id = .sn el s ea none (es1++es2)) (mD:∀ d,D d->m' d = .dead) (mo:∀ p,p≠id->¬ D p->m' p=m p) :
  ∃ g',SR fr nt g' e m' a w'/\DenO g' w' v' (.rs id (n+n')):=by
 have idD:¬ D id:=λ h=>hD id h hid.2
 have alm1:∀ p,zab g m1 p->¬ D p/\zab g m p:=by
  intro p hp
  have:¬ D p:=λ hd=>by grind [zab]
  refine⟨this, ?_⟩;unfold zab at hp ⊢;rw[m1o p this] at hp;exact hp
 have xlt:∀ b,X1 b∨X2 b->b<w.heap.size:=by
  rintro b (hb|hb)
  .obtain ⟨d,_,h⟩:=x1 b hb;exact(hs.ownS h).1
  .obtain ⟨d,_,h⟩:=x2 b hb;exact(hs.ownS h).1
 have hs2:SR fr nt g e m1 a w':=hk.extH (hole:=λ b=>v.ownBlock=some b) r3.os r3.tape r3.output r3.size (λ b hb hh=>r3.block b hb (λ e=>hh e.symm))
  (λ p hp=>by
   obtain⟨h3,h4⟩:=alm1 p hp;refine⟨λ hh=>?_,λ b hx hh=>?_⟩
   .obtain ⟨⟨d,d1,d2⟩,_⟩:=xv _ hh
    have:p=d:=hs.ownU ⟨h4, .inl rfl⟩ d2
    grind
   .obtain ⟨⟨d,d1,d2⟩,_⟩:=xv _ hh
    have:p=d:=hs.ownU ⟨h4, .inr hx⟩ d2
    grind) λ b hh=>by
   obtain⟨⟨d,d1,d2⟩,_⟩:=xv b hh;exact⟨(hs.ownS d2).2.1,(hs.ownS d2).2.2.1⟩
 have hF:∀ b,g.F b->w'.heap[b]? = w.heap[b]? := λ b hb=>r3.block b (hs.mem.lt b hb) λ e=>by
  obtain⟨⟨d,d1,d2⟩,_⟩:=xv b e.symm;exact(hs.ownS d2).2.1 hb
 have side:=h1.app (w':=w') h2 hF (λ b hb=>r3.block b (xlt b (.inl hb)) λ e=>(xv b e.symm).2.1 hb) (λ b hb=>r3.block b (xlt b (.inr hb)) λ e=>(xv b e.symm).2.2 hb) x12
 have hlen:(es1++es2).length=n+n':=by grind
 obtain⟨gb,off,cap,nl,cur,hnl,hnn⟩:∃ gb off cap nl cur,(nl=true->v' = .slice none 0 0/\n+n'=0)/\(nl=false->v' = .slice (some ⟨gb,off,none⟩) (n+n') cap/\(∃ z,w'.heap[gb]? = some (.cells cur el z)/\Free z cur.size)/\n+n'<=cap/\cap<=maxLen/\off+cap*s<=cur.size/\(cur.toList.drop off).take ((n+n')*s)=xs++ys):=by
  rcases r2.2 with ⟨q1,q2⟩|⟨gb,off,cap,cur,q1,q2,q3,q4,q5,q6⟩
  .simp_all
  .exact ⟨gb,off,cap,false,cur,by simp,λ _=>⟨q1,q2,q3,q4,q5,q6⟩⟩
 let g':Gh:={ β:=λ p=>if p=id then gb else g.β p,C:=λ p=>if p=id then occ off cap else g.C p,N:=λ p=>if p=id then nl else g.N p,M:=λ p=>if p=id then [] else g.M p,F:=g.F,X:=λ p b=>if p=id then X1 b∨X2 b else g.X p b }
 have agree:∀ p,p≠id->g'.β p=g.β p/\g'.C p=g.C p/\g'.N p=g.N p/\g.M p <+: g'.M p:=λ p hp=>by simp[g',hp]
 have ne:∀ p,m p ≠ .unborn->p≠id:=λ p hp e=>hp (e ▸ hid.2);have ne1:∀ p,m1 p ≠ .unborn->p≠id:=λ p hp e=>hp (by grind)
 have gbo:nl=false->(v.ownBlock=some gb∨(gb=w.heap.size/\gb<w'.heap.size)):=λ h=>by
  grind [Array.getElem?_eq_some_iff,Option.some.inj,Go.Value.ownBlock]
 have alv:∀ p,p≠id->zab g' m' p->zab g m p/\¬ D p:=by
  intro p hp h
  have hnd:¬ D p:=λ hd=>by grind [zab]
  refine⟨?_,hnd⟩;unfold zab at h ⊢;rw[mo p hp hnd,(agree p hp).2.2.1] at h;exact h
 have alid:zab g' m' id->nl=false:=λ h=>by grind [zab]
 have old:∀ p b,OwnS g' m' p b->(p≠id/\OwnS g m p b/\¬ D p)∨(p=id/\((∃ d,D d/\OwnS g m d b)∨(w.heap.size<=b/\b<w'.heap.size))):=by
  rintro p b ⟨ha,hx⟩;by_cases hp:p=id
  .grind
  .obtain ⟨h3,h4⟩:=alv p hp ha
   refine .inl ⟨hp,⟨h3, ?_⟩,h4⟩
   grind
 refine⟨g',hs.renew r3.os r3.tape r3.output r3.size rfl (λ b hb=>?_) (λ p hp=>agree p (ne p hp)) (λ p hp=>agree p (by omega)) (λ p hp=>?_) (λ p=>?_) (λ b p hp=>?_) (λ p b h=>?_) (λ p p' b h h' => ?_) λ p hp hx=>?_, .inr ?_⟩
 .by_cases hh:v.ownBlock=some b
  .grind
  .exact .inl (r3.block b hb λ e=>hh e.symm)
 .grind
 .by_cases hp:p=id
  .subst hp
   rw[mid]
   cases hnl':nl with
   | true =>
    obtain⟨_,h0⟩:=hnl hnl';exact .inl ⟨by simp[g',hnl'],List.eq_nil_of_length_eq_zero (by omega),rfl⟩
   | false =>
    obtain⟨q1,q2,q3,q4,q5,q6⟩:=hnn hnl';exact .inr ⟨cur,_,side.at (g:=g') rfl (λ b hb=>by grind) (by simp[g',hnl']) (by simp[g']) (by simp[g']) q4 q2 hlen q3 q5 q6⟩
  .by_cases hd:D p
   .rw [mD p hd];trivial
   .rw [mo p hp hd,<- m1o p hd]
    exact hs2.mem.blkMono (λ _ h=>h) (λ _ _=>rfl) (agree p hp) rfl (λ j hj=>agree j (ne1 j (hs2.bornM p j hj))) (λ _ b hx=>⟨by grind,rfl⟩) (by simp[g',hp])
 .by_cases hb:b=id
  .grind [Blk.ids]
  .by_cases hd:D b
   .grind [Blk.ids]
   .rw [mo b hb hd] at hp
    have:=hs.bornM b p hp
    grind
 .grind
 .rcases old p b h with ⟨a1,a2,a3⟩|⟨a1,a2⟩ <;> rcases old p' b h' with ⟨b1,b2,b3⟩|⟨b1,b2⟩
  .exact hs.ownU a2 b2
  .rcases b2 with ⟨d,d1,d2⟩|b2
   .exact absurd d1 (hs.ownU a2 d2 ▸ a3)
   .have:=(hs.ownS a2).1;omega
  .rcases a2 with ⟨d,d1,d2⟩|a2
   .exact absurd d1 (hs.ownU b2 d2 ▸ b3)
   .have:=(hs.ownS b2).1;omega
  .rw [a1,b1]
 .by_cases hp':p=id
  .grind
  .rw [(agree p hp').1] at hx
   exact hs.ownX (alv p hp' hp).1 (by grind)
 .cases hnl':nl with
  | true =>
   obtain⟨q1,h0⟩:=hnl hnl';have:=Den.rs (g:=g') (w:=w') (k:=id) (n:=n+n') (λ _=>h0) (by simp[g',hnl']) (by omega)
   grind [Gh.base]
  | false =>
   obtain⟨q1,q2,q3,q4,_⟩:=hnn hnl';have:=Den.rs (g:=g') (w:=w') (k:=id) (n:=n+n') (by simp[g',hnl']) (by grind [zhd]) (by omega)
   grind [zjr,zhd,Gh.base]
theorem SnSide.one {F X:Nat->Prop}{s:Nat}{es:List (List MC)}{xs:List Value}{I:Nat->Nat->Option (Nat×Nat)}(h:SnSide F w X s es xs I)(hs:1<=s):∀ u,u∈xs->u.oneCell'=true:=by
 intro u hu;obtain⟨q,hq⟩:=List.mem_iff_getElem?.1 hu
 have hql:q<es.length*s:=by grind [SnSide.xl,zAm]
 have hi:q / s<es.length:=Nat.div_lt_of_lt_mul (by grind);have ho:q % s<s:=Nat.mod_lt _ hs;have hl:=h.len _ (List.getElem_mem hi);obtain⟨v,h1,h2,_⟩:=h.mem (q / s) (q % s) es[q / s] _ (zAn hi) (zAn (show q % s<(es[q / s]).length by omega))
 grind [Nat.mul_comm,Nat.div_add_mod]
theorem SR.kill1 {k:Nat}(h:SR fr nt g e m a w):SR fr nt g e (mApp [(k, .dead)] m) a w:=h.kill (k:=k)
theorem zqT {k s n:Nat}{e1:TypeId}{ea:Bool}{es:List (List MC)}(hs:SR fr nt g e m a w)(hm:m k = .sn e1 s ea none es)(hn:n=es.length):∃ X I xs,SnSide g.F w X s es xs I/\zcv w e1 s (g.base k n) n xs/\(∀ b,X b->OwnS g m k b/\g.X k b) /\
  (∀ b,(g.base k n).ownBlock=some b->OwnS g m k b/\b=g.β k)/\(∀ b,X b->b≠g.β k)/\((xs=[]/\n=0/\g.base k n = .slice none 0 0)∨(∃ c,g.base k n = .slice (some ⟨g.β k,co (g.C k),none⟩) n c/\∀ j u,xs[j]? = some u->w.cell? ((⟨g.β k,co (g.C k),none⟩:Addr).add j)=some u)):=by
 have hb:=hs.mem.blk k;rw[hm] at hb;subst hn
 rcases hb with ⟨hN,hes,_⟩|⟨cur,I,hS⟩
 .subst hes
  have hbase:g.base k ([]:List (List MC)).length = .slice none 0 0:=by simp[Gh.base,hN]
  refine⟨λ _=>False,λ _ _=>none,[],SnSide.nil,by grind [zcL],λ _ h=>h.elim,λ b h=>?_,λ _ h=>h.elim, .inl ⟨rfl,rfl,hbase⟩⟩;rw[hbase] at h;cases h
 .have hal:zab g m k:=by simp[zab,hm,hS.nn]
  have hbase:g.base k es.length = .slice (some ⟨g.β k,co (g.C k),none⟩) es.length (cc (g.C k)):=by simp[Gh.base,hS.nn]
  obtain⟨zz,hp,hz⟩:=hS.hp;have hside:=hS.side;refine⟨g.X k,I,_,hside,⟨hside.xl, .inr ⟨g.β k,co (g.C k),cc (g.C k),cur,hbase,⟨zz,hp,hz⟩,hS.le,ztz _,hS.size,rfl⟩⟩,λ b hb=>⟨⟨hal, .inr hb⟩,hb⟩,λ b h=>?_,λ b hb he=>hs.ownX hal (he ▸ hb), .inr ⟨_,hbase,λ j u hu=>?_⟩⟩
  .rw [hbase] at h
   have:g.β k=b:=by simpa [Value.ownBlock] using h
   exact⟨⟨hal, .inl this⟩,this.symm⟩
  grind [zbq,Go.cell_of_row]
theorem zjw {id q s n n':Nat}{sx xx:Operand}{t el:TypeId}{te:TI}{ea:Bool}{es1 es2:List (List MC)}{v:Value}{xs:List Value}{I1:Nat->Nat->Option (Nat×Nat)}{X1 D:Nat->Prop}{wr:List (Nat×Blk)}{m1:Nat->Blk}(hs:SR fr nt g e m a w)(ho:∀ d,o.dst=some d->d<nt)
  (hid:fr.p<=id/\m id = .unborn) (hop:o.op = .call { callee := .builtin .append,args := #[sx,xx],argTypes := #[t,t] }) (hd:P.underlying t=some (.slice el)) (hte:TIok P el te) (hes:te.size=s) (h1s:1<=s) (hv:a.eval sx=v) (hx:a.eval xx=g.base q n') (hmq:m q = .sn el s ea none es2) (hn':n'=es2.length)
  (hown:zcv w el s v n xs) (h1:SnSide g.F w X1 s es1 xs I1) (hn:es1.length=n) (x1:∀ b,X1 b->∃ d,D d/\d≠q/\OwnS g m d b) (xv:∀ b,v.ownBlock=some b->(∃ d,D d/\d≠q/\OwnS g m d b)/\¬ X1 b)
  (hb1:(n+n')*te.bytes<=140737488355328) (hb2:n+n'<=maxLen)
  (hk:SR fr nt g e m1 a w) (m1D:∀ d,D d->m1 d = .dead) (m1o:∀ p,¬ D p->m1 p=m p) (hD:∀ d,D d->m d ≠ .unborn) (hDq:D q)
  (mid:mApp wr m id = .sn el s ea none (es1++es2)) (mD:∀ d,D d->mApp wr m d = .dead) (mo:∀ p,p≠id->¬ D p->mApp wr m p=m p) (hK:K ⟨.rs id (n+n'),wr⟩ l):Good P fr nt e m a w o K Q:=by
 obtain⟨X2,I2,ys,side2,_,o1,o2,o3,o4⟩:=zqT hs hmq hn';obtain⟨i,z,hi,his,hib,hz,hzc,hzl⟩:=hte.info
 have hzs:z.cells.size=s:=by grind
 have run:∃ v' w',(Builtin.append_ #[t,t] o.type #[v,g.base q n']).run P w = .ok v' w'/\zcv w' el s v' (n+n') (xs++ys)/\w.grownBy w' v.ownBlock/\(v'.ownBlock=v.ownBlock∨v'.ownBlock=some w.heap.size):=by
  rcases o4 with ⟨rfl,h0,hb⟩|⟨c0,hb,hc⟩
  .grind [zd5,Go.World.grownBy.refl]
  .rw [hb]
   exact zfx (P:=P) (w:=w) t o.type el i z s te.bytes hd hi hz (by omega) hib hzs (by omega) v n xs hown _ n' c0 ys (by rw[side2.xl,hn']) hc (side2.one h1s) hb2 hb1
 obtain⟨v',w',r1,r2,r3,r5⟩:=run
 obtain⟨g',hs',hden⟩:=hs.growSn (ea:=ea) hid h1 side2 hn hn'.symm (λ b hb=>by grind) (λ b hb=>⟨q,hDq,(o1 b hb).1⟩)
  (λ b hb hb' => by obtain⟨d,_,d1,d2⟩:=x1 b hb;exact d1 (hs.ownU d2 (o1 b hb').1)) (λ b hb=>by
   obtain⟨⟨d,d1,d2,d3⟩,hx1⟩:=xv b hb
   exact⟨⟨d,d1,d3⟩,hx1,λ hx2=>d2 (hs.ownU d3 (o1 b hx2).1)⟩) r2 r3 r5 hb2 hk m1D m1o hD mid mD mo
 unfold Good Oper.wp
 have hrun:(execOp a.eval o).run P w = .ok (.value v') w':=by simp[execOp,hop,resolve,invoke,builtin,hv,hx,r1]
 rw[hrun];exact⟨_,_,hK,g',hs'.put ho hden (λ k hk=>by grind [SV.ids])⟩
theorem zpO {id:Nat}{s x:Operand}{t t':TypeId}(hT:TyOK P c.ty)(hs:SR fr nt g e m a w)(ho:∀ d,o.dst=some d->d<nt)(hid:fr.p<=id/\m id = .unborn)
  (hop:o.op = .call { callee := .builtin .append,args := #[s,x],argTypes := #[t,t'] }) (h:zj3 c s x t t' id e m l K):Good P fr nt e m a w o K Q:=by
 obtain⟨ss,l1,hss,_,h1⟩:=zah hs h;obtain⟨sx,l2,hsx,_,h2⟩:=zah hs h1
 cases ht:c.ty.at t with
 | none=>simp only[ht] at h2;exact h2.elim
 | some ti =>
  obtain⟨k,sz,by_,ag,csz,z⟩:=ti;simp only[ht] at h2;obtain⟨d,hd,_,hk⟩:=(hT t _ ht).desc
  cases k with
  | slice el es ea =>
   dsimp only at h2 hk;obtain⟨rfl,ie,hie,hies⟩:=hk
   cases hte:c.ty.at el with
   | none=>simp only[hte] at h2;exact h2.elim
   | some te =>
    simp only[hte] at h2;obtain⟨hcond,h3⟩:=zaj h2;simp only[zAr] at hcond;obtain rfl:=zAo hcond.1;have h1s:=zAq hcond.2
    have hes:te.size=es:=by
     obtain⟨i,z,hi,his,_⟩:=(hT el te hte).info;rw[hie] at hi;grind
    cases sx with
    | rs q n' =>
     dsimp only[Pg.getB] at h3;rw[zaq] at h3
     have hx:a.eval x=g.base q n':=by
      rcases hsx with hsx|hsx
      .cases hsx
      .generalize a.eval x=v at hsx
       cases hsx with
       | rs _ _ _=>rfl
     cases hmq:m q with
     | sn e2 s2 ea2 out ns =>
      rw[hmq] at h3
      cases out with
      | some p=>exact h3.elim
      | none =>
       obtain⟨hw,hn',h4⟩:=zaj h3;simp only[zAr] at hw;obtain rfl:=zAo hw.1;obtain rfl:=zAo hw.2
       have hqid:q≠id:=λ e=>by grind
       rcases hss with hss|hss
       .subst hss;exact h4.elim
       generalize hv:a.eval s=v at hss
       cases hss with
       | nil =>
        obtain⟨⟨hb1,hb2⟩,⟨r1,r2⟩,⟨e1,e2⟩,hK⟩:=h4;dsimp only at e1 e2;subst e1 e2;rw[<- hn'] at hb1 hb2
        refine zjw (l:=Loc.b q::l2) (es1:=[]) (n:=0) (xs:=[]) (I1:=λ _ _=>none) (X1:=λ _=>False) (D:=λ d=>d=q) (m1:=mApp [(q, .dead)] m) hs ho hid hop hd (hT e2 te hte) hes h1s hv hx hmq hn' (zcL w e2 s2) SnSide.nil rfl (λ _ h=>h.elim) (λ b h=>(by cases h)) (by simpa using hb1) (by simpa using hb2)
         hs.kill1 (λ d hd=>by subst hd;rw[zaa,if_pos rfl]) (λ p hp=>by rw[zaa,if_neg (λ e=>hp e.symm)];rfl) (λ d hd=>by grind) rfl
         (wr:=[(q, .dead),(id, .sn e2 s2 ea2 none r2)]) (by rw[zaa,if_neg hqid,zaa,if_pos rfl];rfl) (λ d hd=>by subst hd;rw[zaa,if_pos rfl]) (λ p hp hq=>by rw[zaa,if_neg (λ e=>hq e.symm),zaa,if_neg (λ e=>hp e.symm)];rfl) ?_
        have:(0:Nat)+n'=r2.length:=by omega
        rw[this];exact hK
       | @rs k n g1 g2 g3 =>
        obtain⟨hkq,h5⟩:=zaj h4
        have hkq:k≠q:=by rintro rfl;simp at hkq
        dsimp only[Pg.getB] at h5;rw[zaq] at h5
        cases hmk:m k with
        | sn e1 s1 ea1 out1 old =>
         rw[hmk] at h5
         cases out1 with
         | some p=>exact h5.elim
         | none =>
          obtain⟨hw1,⟨hn,hb1,hb2⟩,⟨r1,r2⟩,⟨q1,q2⟩,hK⟩:=zaj h5;simp only[zAr] at hw1;obtain rfl:=zAo hw1.1.1;obtain rfl:=zAo hw1.1.2
          have hea:ea1=ea2:=by grind
          subst hea;dsimp only at q1 q2;subst q1 q2
          have hkid:k≠id:=λ e=>by grind
          obtain⟨X1,I1,xs,side1,hown,o1,o2,o3,_⟩:=zqT hs hmk hn;rw[<- hn'] at hb1 hb2;have hkk:SR fr nt g e (mApp [(k, .dead)] (mApp [(q, .dead)] m)) a w:=hs.kill1.kill1
          refine zjw (l:=Loc.b k::Loc.b q::l2) (es1:=old) (n:=n) (D:=λ d=>d=q∨d=k) (m1:=mApp [(k, .dead)] (mApp [(q, .dead)] m)) hs ho hid hop hd (hT e1 te hte) hes h1s hv hx hmq hn' hown side1 hn.symm
           (λ b hb=>⟨k, .inr rfl,hkq,(o1 b hb).1⟩) (λ b hb=>⟨⟨k, .inr rfl,hkq,(o2 b hb).1⟩,λ h=>o3 b h (o2 b hb).2⟩) hb1 hb2 hkk (λ d hd=>?_) (λ p hp=>?_) (λ d hd=>?_) (.inl rfl)
           (wr:=[(q, .dead),(k, .dead),(id, .sn e1 s1 ea1 none (old++ns))]) ?_ (λ d hd=>?_) (λ p hp hq=>?_) ?_
          .rcases hd with rfl|rfl
           .rw [zaa,if_neg hkq]
            show mApp [(d, .dead)] m d=_;rw[zaa,if_pos rfl]
           .rw [zaa,if_pos rfl]
          .have h1:k≠p:=λ e=>hp (.inr e.symm)
           have h2:q≠p:=λ e=>hp (.inl e.symm);rw[zaa,if_neg h1];show mApp [(q, .dead)] m p=_;rw[zaa,if_neg h2];rfl
          .grind
          .rw [zaa,if_neg hqid,zaa,if_neg hkid,zaa,if_pos rfl]
          .rcases hd with rfl|rfl
           .rw [zaa,if_pos rfl]
           .rw [zaa,if_neg (Ne.symm hkq),zaa,if_pos rfl]
          .have h1:k≠p:=λ e=>hq (.inr e.symm)
           have h2:q≠p:=λ e=>hq (.inl e.symm);rw[zaa,if_neg h2,zaa,if_neg h1,zaa,if_neg (λ e=>hp e.symm)];rfl
          .rw [hn'];exact hK
        | _=>rw[hmk] at h5;exact h5.elim
       | _=>exact h4.elim
     | _=>rw[hmq] at h3;exact h3.elim
    | _=>exact h3.elim
  | _=>exact h2.elim
theorem ztQ {sh:List MC}{xs:List SV}{cs:List MC}{ds:List Nat}{vs:List Value}(hs:SR fr nt g e m a w)(hvl:vs.length=xs.length)(hvd:∀ (i:Nat) u x,vs[i]? = some u->xs[i]? = some x->u.oneCell'=true/\Den g w u x)(heat:zaM [] m sh xs=some (cs,ds))(hnd:ds.Nodup)(hdr:(cs.all MC.dr)=true) :
  ∃ X I,SnSide g.F w X xs.length [cs] vs I/\(∀ b,X b->∃ d,d∈ds/\OwnS g m d b)/\∀ d,d∈ds->m d ≠ .unborn:=by
 obtain⟨hcl,hds,hcell⟩:=zkf heat
 have eaten:∀ (o:Nat) x z,xs[o]? = some x->zlL x=some z->z∈ds:=λ o x z hx hz=>by grind
 have cellX:∀ (o:Nat) x,xs[o]? = some x->∃ c y,cs[o]? = some c/\Eats [] m y x c:=λ o x hx=>by
  have ho:o<cs.length:=by grind
  obtain⟨y,hy⟩:=hcell o x _ hx (zAn ho)
  grind
 let J:Nat->Nat->Option (Nat×Nat):=λ i o=>if i=0 then (match xs[o]? with
  | some (.rs z _)=>if g.N z=true then none else some (g.β z,g.C z)
  | _=>none) else none
 have Jspec:∀ {i o b c'},J i o=some (b,c')->i=0/\∃ z n e' s' l',xs[o]? = some (.rs z n)/\g.N z=false/\z∈ds/\b=g.β z/\m z = .row e' s' l'/\cs[o]? = some (.r e' s' l'):=by
  intro i o b c' h;simp only[J] at h
  split at h
  .rename_i hi
   split at h
   .rename_i z n hx
    split at h
    .cases h
    .rename_i hN
     cases h
     obtain⟨c,y,hc,hE⟩:=cellX o _ hx
     rcases hE with ⟨e',s',z',l',h1,h2,h3⟩|⟨_,_,h1,_⟩|⟨_,_,h1,_⟩|h1
     .cases h1;subst h3
      exact⟨hi,z,_,e',s',l',hx,by simpa using hN,eaten o _ z hx rfl,rfl,h2,hc⟩
     .cases h1
     .cases h1
     .have:=zeK h1;cases this
   .cases h
  .cases h
 refine⟨λ b=>∃ o c',J 0 o=some (b,c'),J,⟨λ l hl=>by grind,by rw[hvl];simp,λ i o l x hl hx=>?_,λ i o b c hI=>?_,λ i o i' o' b c c' h1 h2=>?_⟩,λ b hb=>?_,λ d hd=>?_⟩
 .cases i with
  | succ i=>simp at hl
  | zero =>
   simp at hl;subst hl
   have ho:o<xs.length:=by grind
   obtain⟨u,hu⟩:∃ u,vs[o]? = some u:=⟨_,zAn (by omega)⟩;have hxo:=zAn ho;obtain⟨o1,o2⟩:=hvd o u _ hu hxo;refine⟨u,by grind,o1, ?_⟩;obtain⟨y,hE⟩:=hcell o _ x hxo hx
   rcases hE with ⟨e',s',z,l',h1,h2,rfl⟩|⟨e',s',h1,rfl⟩|⟨z,l',h1,h2,rfl⟩|h1
   .have hJ:J 0 o=if g.N z=true then none else some (g.β z,g.C z):=by grind
    unfold zjc;rw[h1] at o2;have hbz:=hs.mem.blk z;rw[h2] at hbz
    cases o2 with
    | rs q1 q2 q3 =>
     rcases hbz with ⟨b1,b2⟩|⟨b1,b2⟩
     .rw [hJ,if_pos b1]
      subst b2;exact⟨rfl,by simp[Gh.base,b1]⟩
     .rw [hJ,if_neg (by rw[b1];simp)]
      exact⟨by simp[Gh.base,b1],⟨o,_,by rw[hJ,if_neg (by rw[b1];simp)]⟩,b2⟩
   .have hJ:J 0 o=none:=by grind
    unfold zjc;rw[hJ];rw[h1] at o2
    cases o2 with
    | nil=>grind
   .have:=List.all_eq_true.1 hdr _ (zAp hx)
    cases this
   .have hq:=h1
    unfold MC.put at h1
    split at h1
    .obtain ⟨d,hd,rfl⟩:=Option.map_eq_some_iff.1 h1
     exact zbm o2 hd
    .cases h1
     have:=List.all_eq_true.1 hdr _ (zAp hx)
     cases this
    .simp [hasK] at h1
    .cases h1
 .obtain ⟨rfl,z,n,e',s',l',h1,h2,h3,h4,h5,h6⟩:=Jspec hI
  grind [snAt]
 .obtain ⟨r1,z,n,e',s',l',h3,h4,h5,h6,h7,h8⟩:=Jspec h1
  obtain⟨r2,z',n',e2,s2,l2,q3,q4,q5,q6,q7,q8⟩:=Jspec h2;have hz:z=z':=hs.mem.inj z z' (by simp[zab,h7,h4]) (by simp[zab,q7,q4]) (by omega);subst hz;exact⟨by rw[r1,r2],znq (f:=zlL) (by grind) o o' _ _ z h3 q3 rfl rfl⟩
 .obtain ⟨o,c',hJ⟩:=hb
  obtain⟨_,z,n,e',s',l',h1,h2,h3,h4,h5,h6⟩:=Jspec hJ;exact⟨z,h3,by simp[zab,h5,h2], .inl h4.symm⟩
 .rw [hds] at hd
  obtain⟨x,hx,hz⟩:=List.mem_filterMap.1 hd;obtain⟨o,ho⟩:=List.mem_iff_getElem?.1 hx;obtain⟨c,y,hc,hE⟩:=cellX o x ho
  rcases hE with ⟨e',s',z',l',h1,h2,_⟩|⟨_,_,h1,_⟩|⟨z',l',h1,h2,_⟩|h1
  .subst h1;cases hz;rw[h2];simp
  .subst h1;cases hz
  .subst h1;cases hz;rw[h2];simp
  grind [zeK]
theorem zwr {t el:TypeId}{te:TI}{es:Nat}{p:Nat×Operand}{vs:List Value}(hT:TyOK P c.ty)(hop:o.op = .buildSlice t 1 #[p])(hp:p.1=0)(hd:P.underlying t=some (.slice el))(hes:∃ i,P.info? el=some i/\i.size=es)(hte:c.ty.at el=some te)
  (hvs:(a.eval p.2).cells.toList=vs) (hl:vs.length=es) (h1:1<=es) (h2:es<=16777216):(execOp a.eval o).run P w = .ok (.value (.slice (some ⟨w.heap.size,0,none⟩) 1 1)) (w.alloc (.cells vs.toArray el)):=by
 obtain⟨ie,hie,hies⟩:=hes;obtain⟨i,z,hi,his,_,hz,hzc,hzl⟩:=(hT el te hte).info;have hi':=hi;rw[hie] at hi';obtain rfl:=Option.some.inj hi';obtain⟨p0,px⟩:=p;dsimp only at hp hvs;subst hp
 let cells0:Array Value:=(Array.range (1*es)).map (z.cells[· % z.cells.size]!)
 have hc0:cells0.size=es:=by simp[cells0]
 have hsz:(a.eval px).cells.size=es:=by grind
 have hfill:Instr.fill (λ i=>some (i*es,es)) cells0 [(0,a.eval px)]=some vs.toArray:=by
  unfold Instr.fill;dsimp only;rw[if_neg (by rw[hsz,hc0];simp)];unfold Instr.fill
  congr 1
  apply Array.ext';have:=zh7 cells0 (a.eval px).cells (0*es);refine Eq.trans this ?_;rw[hvs];apply List.ext_getElem?;intro q
  have hcl:cells0.toList.length=es:=by rw[Array.length_toList,hc0]
  rw[zba _ _ _ _ (by rw[hcl];simp;omega)];by_cases hq:q<es
  .rw [if_pos ⟨by omega,by omega⟩];simp
  .rw [if_neg (by omega),Array.getElem?_toList,Array.getElem?_eq_none (by omega)];simp;omega
 simp only[execOp,hop]
 have hle':¬ 16777216<1*es:=by omega
 have h0':¬ (1=0∨es=0):=by omega
 have h0:¬ 1*es=0:=by omega
 have e0:cells0=(Array.range (1*es)).map (z.cells[· % z.cells.size]!):=rfl
 rw[e0] at hfill;simp[Instr.buildSlice,run_underlying hd,sizeOf,typeInfo,zeroValue,hie,hies,hz,newRow];simp at hfill;simp[hfill];rw[if_neg (by omega),if_neg (by omega)]
theorem SR.killL:∀ {ds:List Nat},SR fr nt g e m a w->SR fr nt g e (mApp (dieL ds) m) a w
 | [],h=>h
 | z::ds,h=>by
  have h1:=(SR.killL (ds:=ds) h).kill1 (k:=z)
  have:mApp [(z, .dead)] (mApp (dieL ds) m)=mApp (dieL (z::ds)) m:=by
   funext j;show mApp [(z, .dead)] (mApp (dieL ds) m) j=mApp ((z, .dead)::dieL ds) m j;rw[zaa,zaa];rfl
  grind
theorem zgr {ds:List Nat}{k:Nat}{b:Blk}(j:Nat):mApp (dieL ds++[(k,b)]) m j=if j∈ds then .dead else if k=j then b else m j:=by
 induction ds with
 | nil=>show mApp [(k,b)] m j=_;rw[zaa];simp[mApp,get]
 | cons z ds ih =>
  show mApp ((z, .dead)::(dieL ds++[(k,b)])) m j=_;rw[zaa,ih]
  grind
theorem zlS {t el:TypeId}{te:TI}{n id es:Nat}{ea:Bool}{ps:Array (Nat×Operand)}{xs:List (Nat×SV)}(hT:TyOK P c.ty)(hs:SR fr nt g e m a w)(ho:∀ d,o.dst=some d->d<nt)(hid:fr.p<=id/\m id = .unborn)(hop:o.op = .buildSlice t n ps)
  (hd:P.underlying t=some (.slice el)) (hes:∃ i,P.info? el=some i/\i.size=es) (hte:c.ty.at el=some te) (hl:xs.length=ps.toList.length) (hx:∀ (i:Nat) p x,ps.toList[i]? = some p->xs[i]? = some x->x.1=p.1/\DenO g w (a.eval p.2) x.2)
  (h:zdZ el es ea n id xs e m l K):Good P fr nt e m a w o K Q:=by
 unfold zdZ at h
 split at h
 .rename_i x
  obtain⟨p,hp⟩:∃ p,ps = #[p]:=by
   have:ps.size=1:=by grind
   exact⟨ps[0],by grind⟩
  subst hp;obtain⟨hp0,hden⟩:=hx 0 p _ rfl rfl;dsimp only at hp0 hden
  cases hcs:x.cells with
  | none=>rw[hcs] at h;exact h.elim
  | some cs =>
   rw[hcs] at h;dsimp only at h
   cases hc:(Nat.beq n 1&&Nat.beq cs.length es&&Nat.ble 1 es&&Nat.ble es 16777216&&cs.all SV.one) with
   | false=>rw[hc] at h;exact h.elim
   | true =>
    rw[hc] at h;simp only[zAr] at hc;obtain⟨⟨⟨⟨c1,c2⟩,c3⟩,c4⟩,c5⟩:=hc;obtain rfl:=zAo c1;have c2:=zAo c2;have c3:=zAq c3;have c4:=zAq c4;obtain⟨sh,_,h⟩:=h
    cases he:zaM [] m sh cs with
    | none=>grind
    | some yd =>
     obtain⟨ys,ds⟩:=yd;rw[he] at h;obtain⟨⟨hnd,hdr⟩,hK⟩:=h
     rcases hden with hden|hden
     .grind [SV.cells]
     obtain⟨hcd,_⟩:=zbp hden hcs c5;generalize hvs:(a.eval p.2).cells.toList=vs at hcd
     have hvl:vs.length=es:=by rw[hcd.1,c2]
     obtain⟨X,I,side,own,hun⟩:=ztQ hs hcd.1 (λ i u x hu hx=>hcd.2 i u x hu hx) he hnd hdr;rw[c2] at side;have hrun:=zwr (P:=P) (w:=w) (a:=a) hT hop hp0.symm hd hes hte hvs hvl c3 c4;have hidd:id ∉ ds:=λ hm=>hun id hm hid.2
     obtain⟨g',hs',hd'⟩:=hs.growSn (id:=id) (n:=0) (n':=1) (ea:=ea) (D:=λ d=>d∈ds) (v := .slice none 0 0) (v' := .slice (some ⟨w.heap.size,0,none⟩) 1 1) (w':=w.alloc (.cells vs.toArray el)) (el:=el) (m1:=mApp (dieL ds) m) (m':=mApp (dieL ds++[(id, .sn el es ea none [ys])]) m) hid
      (SnSide.nil (s:=es) (X:=λ _=>False)) side rfl rfl (λ _ h=>h.elim) own (λ _ h=>h.elim) (λ b h=>by cases h)
      ⟨by simp[hvl], .inr ⟨w.heap.size,0,1,vs.toArray,rfl,⟨_,zb0 w _, .inl rfl⟩,Nat.le_refl _,by simp[maxLen],by simp[hvl],by grind⟩⟩
      ⟨(Ext.alloc w _).os,(Ext.alloc w _).tape,(Ext.alloc w _).output,(Ext.alloc w _).size,λ b hb _=>(Ext.alloc w _).old b hb⟩ (.inr rfl) (by simp[maxLen]) hs.killL (λ d hd=>by rw[zkg,if_pos hd]) (λ p hp=>by rw[zkg,if_neg hp]) hun
      (by rw[zgr,if_neg hidd,if_pos rfl];rfl) (λ d hd=>by rw[zgr,if_pos hd]) (λ p hp hq=>by rw[zgr,if_neg hq,if_neg (Ne.symm hp)])
     unfold Good Oper.wp;rw[hrun]
     exact⟨_,_,hK,g',hs'.put ho hd' (λ k hk=>by
      simp[SV.ids] at hk;subst hk;show mApp (dieL ds++[(k, .sn el es ea none [ys])]) m k≠_
      rw[zgr,if_neg hidd,if_pos rfl];simp)⟩
 .exact h.elim
end
end Go.Vc

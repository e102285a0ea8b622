/-
  A library for proofs about Go functions by symbolic evaluation,and plain Lean functions that the walked Go functions compute (written by a program of this claim).
-/
import Derived.Test.YtijmkjnlgcockaaGreatDoorFRDF11
import Derived.Test.YtijmkjnlgcockaaGreatDoorFRDF5
import Derived.Test.YtijmkjnlgcockaaGreatDoorVc4
import Derived.Test.YtijmkjnlgcockaaGreatDoorFRDF1
import Derived.Test.YtijmkjnlgcockaaGreatDoorFRDF7
import Derived.Test.YtijmkjnlgcockaaGreatDoorVc3
import Derived.Test.YtijmkjnlgcockaaGreatDoorProg
import Derived.LaidSub
import Derived.MakeChecks
set_option linter.unusedVariables false
set_option linter.unnecessarySimpa false
set_option linter.unusedSimpArgs false
namespace Go.Vc
open Go.Proofs
theorem zwq {M:Nat}(hM:130<=M){b:Bk}(hb:BkOK b)(y:ByteArray):∃ r:I97×Int,(r.2=0->zc3 r.1)/\f18 (M+3) y b.L b.S b.E b.C=some (outM (errM b r) (goM b y r)):=by
 obtain⟨r,hr,ho⟩:=zyC (N:=M+1) (y:=y) (by omega);exact⟨r,ho,zrL hb hM hr ho⟩
abbrev LpT:=Nat->Int->TL->TS->TE->TC->Option Bool
structure RdLp (N:Nat)(X:TL)(F:LpT)(k:TL->TS->TE->TC->Option Bool)(V:Option Bool):Prop where
 z:∀ n (b:Bk),F (n+1) (X.length:Int) b.L b.S b.E b.C=k b.L b.S b.E b.C
 f1:∀ n (i:Nat) (b:Bk) y u,X[i]? = some y->f75 N y=some u->u.2≠0->F (n+1) (i:Int) b.L b.S b.E b.C=V
 f2:∀ n (i:Nat) (b:Bk) y u x,X[i]? = some y->f75 N y=some u->u.2=0->f18 N u.1 b.L b.S b.E b.C=some x->x.1≠0->F (n+1) (i:Int) b.L b.S b.E b.C=V
 f3:∀ n (i:Nat) (b:Bk) y u x,i<100000->X[i]? = some y->f75 N y=some u->u.2=0->f18 N u.1 b.L b.S b.E b.C=some x->x.1=0->F (n+1) (i:Int) b.L b.S b.E b.C=F n ((i+1:Nat):Int) x.2.2.2.2 x.2.1 x.2.2.1 x.2.2.2.1
section
variable {N:Nat} {X:TL} {F:LpT} {k:TL->TS->TE->TC->Option Bool} {V:Option Bool}
theorem zwr {A:(Int×TS×TE×TC×TL)->Option Bool}{B:ByteArray×Int->Option Bool}
  (h:∀ n i L S E C,F (n+1) i L S E C=bif decide (i<(X.length:Int)) then ((ix X i).bind λ y=>(f75 N y).bind λ u=>bif decide (u.2=0) then ((f18 N u.1 L S E C).bind λ x=>bif decide (¬ x.1=0) then A x else F n (W (i+1)) x.2.2.2.2 x.2.1 x.2.2.1 x.2.2.2.1) else B u) else k L S E C)
  (hA:∀ x,x.1≠0->A x=V) (hB:∀ u,u.2≠0->B u=V):RdLp N X F k V:=by
 refine⟨λ n b=>?_,λ n i b y u hy hu he=>?_,λ n i b y u x hy hu he hx hx0=>?_,λ n i b y u x hi hy hu he hx hx0=>?_⟩
 .rw [h,ltF (Nat.le_refl _),cond_false]
 all_goals
  have hil:=(zyR.1 hy).1;rw[h,ltT hil,cond_true,zbk,hy,zyQ,hu,zyQ]
 .rw [decide_eq_false he,cond_false,hB u he]
 .rw [decide_eq_true he,cond_true,hx,zyQ,decide_eq_true hx0,cond_true,hA x hx0]
 .rw [decide_eq_true he,cond_true,hx,zyQ,decide_eq_false (λ h=>h hx0),cond_false,zcC (by omega)]
theorem zoF (hN0:140<=N)(fu:FuM N)(lp:RdLp N X F k V)(hl:X.length<=100000)(hX:∀ x,x∈X->x.size<=20000/\x.size<N):∀ (r p:TL) (n:Nat) (b:Bk),p++r=X->r.length<n->BkOK b ->
  F n (p.length:Int) b.L b.S b.E b.C=V ∨ ∃ b':Bk,BkOK b'/\F n (p.length:Int) b.L b.S b.E b.C=k b'.L b'.S b'.E b'.C/\∃ ls:TL,b'.L=b.L++ls/\dL r=(dL ls).map mkd
 | [],p,n,b,h,h1,hb=>by
  obtain⟨n,rfl⟩:∃ q,n=q+1:=⟨n-1,by omega⟩;simp only[List.append_nil] at h;subst h;exact .inr ⟨b,hb,lp.z n b,[],by simp,rfl⟩
 | y::r,p,n,b,h,h1,hb=>by
  have hN:=fu.big;obtain⟨n,rfl⟩:∃ q,n=q+1:=⟨n-1,by omega⟩
  have eN:N-3+3=N:=by omega
  have hy:X[p.length]? = some y:=by rw[<- h];simp
  have hm:y∈X:=by rw[<- h];simp
  have hpl:p.length<100000:=by rw[<- h] at hl;simp at hl;omega
  obtain⟨u,hu,hu0⟩:=zyG fu (hX y hm).1 (hX y hm).2;by_cases he:u.2=0
  .have hu1:=hu0 he
   -- fuel: f18 needs 130
   by_cases hM:130<=N-3
   .obtain ⟨w,ho,hw⟩:=zwq hM hb u.1
    rw[eN] at hw;by_cases hz:errM b w=0
    .have hstep:=lp.f3 n p.length b y u _ hpl hy hu he hw hz
     have hb':=zyt hb (y:=u.1) ho;have ih:=zoF hN0 fu lp hl hX r (p++[y]) n (goM b u.1 w) (by simpa using h) (by simpa using h1) hb';rw[show (((p++[y]).length:Nat):Int)=((p.length+1:Nat):Int) by simp] at ih;have hstep':F (n+1) (p.length:Int) b.L b.S b.E b.C=F n ((p.length+1:Nat):Int) (goM b u.1 w).L (goM b u.1 w).S (goM b u.1 w).E (goM b u.1 w).C:=hstep;rw[hstep']
     rcases ih with ih|⟨b',h1',h2',ls,h3',h4'⟩
     .exact .inl ih
     .refine .inr ⟨b',h1',h2',u.1::ls, ?_, ?_⟩
      .rw [h3']
       unfold goM;rw[if_pos hz];simp
      .show y.data.toList::dL r=mkd u.1.data.toList::(dL ls).map mkd
       rw[h4',hu1];rfl
    .exact .inl (lp.f2 n p.length b y u _ hy hu he hw hz)
   .omega
  .exact .inl (lp.f1 n p.length b y u hy hu he)
end
section
variable {X:TL} {F:LpT} {k:TL->TS->TE->TC->Option Bool} {V:Option Bool}
theorem zoG (lp:RdLp 5000 X F k V)(hl:X.length<=100000):∀ (r p:TL) (n:Nat) (b:Bk),p++r.map (λ y=>strC (mkd y.data.toList))=X->r.length<n->BkOK b->GLns r->Runs b r ->
  F n (p.length:Int) b.L b.S b.E b.C=k (tell b r).L (tell b r).S (tell b r).E (tell b r).C
 | [],p,n,b,h,h1,hb,hg,hr=>by
  obtain⟨n,rfl⟩:∃ q,n=q+1:=⟨n-1,by omega⟩;simp only[List.map_nil,List.append_nil] at h;subst h;exact lp.z n b
 | y::r,p,n,b,h,h1,hb,hg,hr=>by
  obtain⟨n,rfl⟩:∃ q,n=q+1:=⟨n-1,by omega⟩
  have hy:X[p.length]? = some (strC (mkd y.data.toList)):=by rw[<- h];simp
  have hpl:p.length<100000:=by rw[<- h] at hl;simp at hl;omega
  have gy:=hg y (List.mem_cons_self ..);have hs:=gy.mark.1
  have hs2:(strC (mkd y.data.toList)).size<=106:=by
   rw[za8,zes];have:=zbu (y:=y) rfl;omega
  have hu:=zyH fu5 (y:=strC (mkd y.data.toList)) (l:=y.data.toList) rfl (by omega) (by omega);have hw:=gy.q18 hb;have hstep:=lp.f3 n p.length b _ _ _ hpl hy hu rfl hw hr.1;have ih:=zoG lp hl r (p++[strC (mkd y.data.toList)]) n (zdx b y) (by simpa using h) (by simpa using h1) (gy.step hb) (λ z hz=>hg z (List.mem_cons_of_mem _ hz)) hr.2;rw[show (((p++[strC (mkd y.data.toList)]).length:Nat):Int)=((p.length+1:Nat):Int) by simp] at ih;exact hstep.trans ih
end
theorem zno (l:Bs):Lib.hasSuffix l [10]=true ↔ ∃ t,l=t++[10]:=by
 unfold Lib.hasSuffix;rw[List.isSuffixOf_iff_suffix];exact⟨λ ⟨t,h⟩=>⟨t,h.symm⟩,λ ⟨t,h⟩=>⟨t,h.symm⟩⟩
def zfU (N:Nat)(G:ByteArray)(V:Option Bool)(F:TL->LpT):Option Bool :=
 bif decide ((17000:Int)<(ByteArray.size G:Int)) then V
 else ((f72 N G (strC [10])).bind λ x25 =>
 bif !x25 then V
 else ((f74 N G (strC [10])).bind λ x31 =>
 (f73 N x31 (strC [10])).bind λ x32 =>
 (ix x32 (0:Int)).bind λ x33 =>
 (f30 N (W ((List.length x32:Int)-(1:Int)))).bind λ x34 =>
 (addS (strC [116,117,115,99,104,101,32]) x34).bind λ x35 =>
 bif decide (¬ x33=x35) then V
 else ((sub x32 (1:Int) (List.length x32:Int)).bind λ x47 =>
 F x47 N (0:Int) [] [] [] [])))
section
variable {N:Nat} {G:ByteArray} {F:TL->LpT} {k:TL->TS->TE->TC->Option Bool} {V:Option Bool}
theorem zh9 {t p0:Bs}{ps:List Bs}(h:G.data.toList=t++[10])(hs:za7 10 t=p0::ps)(hl:G.size<=17000):zfU (N+1) G V F=if p0=hdL ps.length then F (ps.map strC) (N+1) 0 [] [] [] [] else V:=by
 have hsz:=zbu h;simp only[List.length_append,List.length_singleton] at hsz
 have hps:ps.length<=t.length:=by
  have:=(zeI 10 t).1;rw[hs] at this;simpa using this
 have h72:f72 (N+1) G (strC [10])=some true:=by
  unfold f72;dsimp only;rw[zbH,(zno _).2 ⟨t,h⟩]
 have h74:f74 (N+1) G (strC [10])=some (strC t):=by
  unfold f74;dsimp only;rw[zbH,Lib.trimSuffix,if_pos ((zno _).2 ⟨t,h⟩),h];simp only[List.length_append,List.length_singleton,List.length_cons,List.length_nil,Nat.zero_add,Nat.add_sub_cancel,List.take_left'];rw[if_pos (by omega)];rfl
 have h73:f73 (N+1) (strC t) (strC [10])=some ((p0::ps).map strC):=by
  unfold f73;dsimp only;rw[if_pos ⟨by rw[za8];omega,by rw[za8];rfl⟩,<- hs];rfl
 unfold zfU;rw[decide_eq_false (by omega),cond_false,h72,zyQ,Bool.not_true,cond_false,h74,zyQ,h73,zyQ,List.map_cons,ix_h,zyQ];rw[show W (((strC p0::ps.map strC).length:Int)-1)=((ps.length:Nat):Int) by rw[zaE (by simp only[List.length_cons,List.length_map];omega) (by simp only[List.length_cons,List.length_map];omega)];simp only[List.length_cons,List.length_map];omega];rw[zh4 (by omega),zyQ,show addS (strC [116,117,115,99,104,101,32]) (num ps.length)=some (strC (hdL ps.length)) from zdy (b:=digs 7 ps.length) (by have:=zfI 7 ps.length;simp;omega),zyQ];by_cases hp:p0=hdL ps.length
 .rw [if_pos hp,hp,zi0,cond_false,show (1:Int)=((1:Nat):Int) from rfl,zjK (by simp) (Nat.le_refl _),zyQ,List.take_length]
  rfl
 .rw [if_neg hp,decide_eq_true (by rw[zoz];exact hp),cond_true]
theorem zse (hN0:140<=N+1)(fu:FuM (N+1))(lp:∀ X,RdLp (N+1) X (F X) k V)(hl:G.size<=17000)(hN:G.size<N):zfU (N+1) G V F=V ∨ ∃ b:Bk,BkOK b/\zfU (N+1) G V F=k b.L b.S b.E b.C/\G.data.toList=zaT (dL b.L)/\NoC 10 (dL b.L):=by
 by_cases h:∃ t,G.data.toList=t++[10]
 .obtain ⟨t,h⟩:=h
  have hsz:=zbu h;simp only[List.length_append,List.length_singleton] at hsz
  obtain⟨p0,ps,hs⟩:∃ p0 ps,za7 10 t=p0::ps:=by
   cases hs:za7 10 t with
   | nil=>exact absurd hs (zfJ _ _)
   | cons p0 ps=>exact⟨_,_,rfl⟩
  rw[zh9 h hs hl];by_cases hp:p0=hdL ps.length
  .rw [if_pos hp]
   have hlen:=zeI 10 t;rw[hs] at hlen
   have hps:ps.length<=t.length:=by simpa using hlen.1
   have hX:∀ x,x∈ps.map strC->x.size<=20000/\x.size<N+1:=by
    intro x hx;obtain⟨q,hq,rfl⟩:=List.mem_map.1 hx;have:=hlen.2 q (List.mem_cons_of_mem _ hq);rw[za8];omega
   rcases zoF hN0 fu (lp (ps.map strC)) (by simp;omega) hX (ps.map strC) [] (N+1) Bk.new rfl (by simp;omega) zot with h1|⟨b,hb,h1,ls,h2,h3⟩
   .exact .inl h1
   .have h2':b.L=ls:=by rw[h2];rfl
    have hd:dL (ps.map strC)=ps:=by simp[zbH,Function.comp_def]
    rw[hd,<- h2'] at h3;refine .inr ⟨b,hb,h1, ?_, ?_⟩
    .rw [h,<- zh7,hs,hp,h3,List.length_map];rfl
    .intro x hx
     refine zwp (zkm 10 t (mkd x) ?_);rw[hs,h3];exact List.mem_cons_of_mem _ (List.mem_map.2 ⟨x,hx,rfl⟩)
  .rw [if_neg hp];exact .inl rfl
 .left
  have h72:f72 (N+1) G (strC [10])=some false:=by
   unfold f72;dsimp only;rw[zbH]
   cases hq:Lib.hasSuffix G.data.toList [10] with
   | false=>rfl
   | true=>exact absurd ((zno _).1 hq) h
  unfold zfU;rw[decide_eq_false (by omega),cond_false,h72,zyQ,Bool.not_false,cond_true]
end
section
variable {F:TL->LpT} {k:TL->TS->TE->TC->Option Bool} {V:Option Bool}
theorem zsf (lp:∀ X,RdLp 5000 X (F X) k V){L:TL}(hg:GLns L)(hl:L.length<=120)(hs:(zaT (dL L)).length<=17000)(hr:Runs Bk.new L):zfU 5000 (strC (zaT (dL L))) V F=k (tell Bk.new L).L (tell Bk.new L).S (tell Bk.new L).E (tell Bk.new L).C:=by
 have hno:NoC 10 (dL L):=by
  intro x hx;obtain⟨y,hy,rfl⟩:=List.mem_map.1 hx;exact(hg y hy).rd5.2
 have hp:=zh8 hno (by simpa using hl)
 obtain⟨t,ht⟩:∃ t,zaT (dL L)=t++[10]:=by
  unfold zaT
  have:∀ (P:List Bs) (x:Bs),∃ t,cat 10 (x::P)=t++[10]:=by
   intro P
   induction P with
   | nil=>intro x;exact⟨x,by simp[cat]⟩
   | cons y P ih=>intro x;obtain⟨t,ht⟩:=ih y;exact⟨x++10::t,by rw[zaS,ht];simp⟩
  exact this _ _
 have hsp:za7 10 t=hdL (dL L).length::(dL L).map mkd:=zud hp ht.symm;rw[zh9 (N:=4999) (G:=strC (zaT (dL L))) (t:=t) ht hsp (by rw[za8];exact hs)]
 have hlen:((dL L).map mkd).length=(dL L).length:=by simp
 rw[hlen,if_pos rfl]
 have hX:((dL L).map mkd).map strC=L.map λ y=>strC (mkd y.data.toList):=by simp[Function.comp_def]
 rw[hX];exact zoG (lp _) (by simp;omega) L [] 5000 Bk.new rfl (by omega) zot hg hr
end
end Go.Vc
namespace Go.Vc
open Go.Proofs
structure FuF (N:Nat):Prop where
 big:4950<=N
 m:FuM N
 q23:∀ {L:TL},L.length<=120->(zaT (dL L)).length<=4900->∀ S E C,f23 N L S E C=some (strC (zaT (dL L)))
 q18:∀ {y:ByteArray} {b:Bk},GLn y->BkOK b->f18 N y b.L b.S b.E b.C=some (outM (errB b y) (zdx b y))
 q21:∀ {b:Bk},BkOK b->f21 N b.L b.S b.E b.C=some b.L
 q41:∀ {b:Bk},BkOK b->(zaT (dL b.L)).length<=4900->f41 N b.L b.L b.S b.E b.C b.S b.E b.C=some true
 qw:f14 N=some true
 q30:∀ {n:Nat},n<1000000->f30 N (n:Int)=some (num n)
 ry:∀ {F:TL->LpT} {k:TL->TS->TE->TC->Option Bool} {V:Option Bool},(∀ X,RdLp N X (F X) k V)->∀ {L:TL},GLns L->L.length<=120->(zaT (dL L)).length<=17000->Runs Bk.new L ->
  zfU N (strC (zaT (dL L))) V F=k (tell Bk.new L).L (tell Bk.new L).S (tell Bk.new L).E (tell Bk.new L).C
 ra:∀ {G:ByteArray} {F:TL->LpT} {k:TL->TS->TE->TC->Option Bool} {V:Option Bool},(∀ X,RdLp N X (F X) k V)->G.size<=4900 ->
  zfU N G V F=V ∨ ∃ b:Bk,BkOK b/\zfU N G V F=k b.L b.S b.E b.C/\G.data.toList=zaT (dL b.L)/\NoC 10 (dL b.L)
theorem zoH {L:TL}{y:ByteArray}(h:y∈L):y.size<=(zaT (dL L)).length:=by
 have h1:mkd y.data.toList∈pcsF (dL L):=List.mem_cons_of_mem _ (List.mem_map.2 ⟨_,List.mem_map.2 ⟨y,h,rfl⟩,rfl⟩);have:=zpT (c:=10) h1;rw[zes] at this;have:=zbu (y:=y) rfl;unfold zaT;omega
theorem zws {M:Nat}(hM:130<=M)(fu:FuM (M+3))(hn:∀ k i,f61 (M+3) (nm0 k i)=some true){b:Bk}(h:BkOK b)(hs:(zaT (dL b.L)).length<=4900)(hN:4900<M):f41 (M+5) b.L b.L b.S b.E b.C b.S b.E b.C=some true:=by
 have hl:=h.ll;have ht:=zu3 fu (L:=b.L) hl (by omega) (λ y hy=>by have:=zoH hy;omega) b.S b.E b.C;simp only[f41,f41b,ht,zyQ,not_true_eq_false,decide_false,cond_false,zuV (M:=M+3) h,zt4 (N:=M+4) (l:=b.L) (by omega) (by omega),Bool.not_true,zau,zwe,zwd,zuj hM hn h,zfg,zui hM hn h,zfe]
theorem fuF : FuF 5000 := {
  big := by omega
  m := fu5
  q23 := fun hl hs S E C => zu3 fu4 hl (by omega) (fun y hy => by have := zoH hy; omega) S E C
  q18 := fun h hb => h.q18 hb
  q21 := fun h => zuV (M := 4999) h
  q41 := fun h hs => zws (M := 4995) (by omega) fu3 zuh h hs (by omega)
  qw := zyK
  q30 := fun h => zh4 (N := 4999) h
  ry := fun {_ _ _} lp {_} hg hl hs hr => zsf lp hg hl hs hr
  ra := fun {_ _ _ _} lp hs => zse (N := 4999) (by omega) fu5 lp (by omega) (by omega) }
theorem zuk:((List.range 10).all λ d=>decide (digs 7 d=[UInt8.ofNat (48+d)]))=true:=by kernel_rfl
theorem zu4 {d:Nat}(h:d<10):num d=strC [UInt8.ofNat (48+d)]:=by
 have:=of_decide_eq_true (List.all_eq_true.1 zuk d (List.mem_range.2 h));unfold num;rw[this];rfl
section
variable {N:Nat} {a1 a2:Int} {a3:Bool} {L:TL} {S:TS} {E:TE} {C:TC}
theorem zu5 {v11:ByteArray}{v43:Int}{x2:TL}{y:ByteArray}{k1:Int->Option Bool}(hy:y.size<=20000):∀ (r p:Bs) (n s:Nat),y.data.toList=p++r->r.length<n->s<=p.length*5200000 ->
  f9_9 a1 a2 a3 L S E C x2 v11 v43 y k1 n (s:Int) (p.length:Int)=k1 ((s+smN p.length r:Nat):Int)
 | [],p,n,s,h,h1,h2=>by
  obtain⟨n,rfl⟩:∃ q,n=q+1:=⟨n-1,by omega⟩;have hl:=zbu h;simp only[List.append_nil] at hl;simp only[f9_9,ztU];rw[ltF (by omega),cond_false];rfl
 | b::r,p,n,s,h,h1,h2=>by
  obtain⟨n,rfl⟩:∃ q,n=q+1:=⟨n-1,by omega⟩;have hl:=zbu h;simp only[List.length_append,List.length_cons] at hl;have hb:b.toNat<256:=b.toNat_lt;have h3:(p.length+1)*b.toNat<=20000*255:=Nat.mul_le_mul (by omega) (by omega);have h4:p.length*5200000<=20000*5200000:=Nat.mul_le_mul_right _ (by omega);simp only[f9_9,ztU];rw[ltT (by omega),cond_true,idxS,if_pos ⟨by omega,by omega⟩,zyQ,Int.toNat_natCast,zmc h,zcC (by omega)]
  have e1:W (((p.length+1:Nat):Int)*(b.toNat:Int))=(((p.length+1)*b.toNat:Nat):Int):=by
   rw[<- Int.natCast_mul,W_of (by omega) (by omega)]
  rw[e1,<- Int.natCast_add,W_of (by omega) (by omega)];have:=zu5 (v11:=v11) (v43:=v43) (x2:=x2) (k1:=k1) hy r (p++[b]) n (s+(p.length+1)*b.toNat) (by simpa using h) (by simpa using h1) (by simp only[List.length_append,List.length_singleton];omega);rw[show ((p.length+1:Nat):Int)=(((p++[b]).length:Nat):Int) by simp,this];simp[smN,Nat.add_assoc]
theorem zgR (fu:FuF N){v43:Int}{x2:TL}{s t j x:Nat}{acc:Bs}{k22:ByteArray->Int->Option Bool}{r16:ByteArray->Int->Int->Option Bool}(hj:([1000,100,10,1]:List Nat)[j]? = some x)(hx:1<=x)(ht:t<10)(ha:acc.length<=5000){i:Int}(hi:i=(j:Int)) :
  zl2 r16 a1 a2 a3 N L S E C x2 v43 (s:Int) k22 (strC acc) (t:Int) i=r16 (strC (acc++[UInt8.ofNat (48+s % 10000 / x % 10)])) (((3*t+s % 10000 / x % 10) % 10:Nat):Int) ((j+1:Nat):Int):=by
 subst hi;have hj4:j<4:=(zyR.1 hj).1
 have hix:ix [(1000:Int),(100:Int),(10:Int),(1:Int)] (j:Int)=some (x:Int):=by
  rw[zbk,show ([(1000:Int),100,10,1]:List Int)=([1000,100,10,1]:List Nat).map (λ (n:Nat)=>(n:Int)) from rfl,List.getElem?_map,hj];rfl
 have e1:Int.tmod (s:Int) 10000=((s % 10000:Nat):Int):=rfl;have e2:Int.tdiv ((s % 10000:Nat):Int) (x:Int)=((s % 10000 / x:Nat):Int):=rfl;have hd:s % 10000 / x<=s % 10000:=Nat.div_le_self _ _;have e3:∀ m:Nat,Int.tmod (m:Int) 10=((m % 10:Nat):Int):=λ m=>rfl;have hd10:s % 10000 / x % 10<10:=Nat.mod_lt _ (by omega);have hW:∀ q:Nat,q<=10000->W (q:Int)=(q:Int):=λ q hq=>zaE (by omega) (by omega);unfold zl2;rw[show ((([(1000:Int),(100:Int),(10:Int),(1:Int)]:List Int).length:Nat):Int)=((4:Nat):Int) from rfl,ltT hj4,cond_true,hix,zyQ,chk,decide_eq_true (by omega),cond_true,zyQ,e1,e2,hW _ (Nat.le_trans hd (by omega)),e3,fu.q30 (by omega),zyQ,zu4 hd10,zdy (by simp;omega),zyQ,zcC (by omega)]
 congr 1
 rw[zaE (n:=(3:Int)*(t:Int)) (by omega) (by omega),zaE (by omega) (by omega)];rw[show (3:Int)*(t:Int)+((s % 10000 / x % 10:Nat):Int)=((3*t+s % 10000 / x % 10:Nat):Int) by omega,e3]
theorem zwt (fu:FuF N){v43:Int}{x2:TL}{s:Nat}{acc:Bs}{k21:ByteArray->Option Bool}(ha:acc.length<=4900) :
  znk a1 a2 a3 N L S E C x2 v43 (s:Int) (zh1 a1 a2 a3 N L S E C x2 v43 k21) N (strC acc) 0 0=k21 (strC (acc++(dg5 (s % 10000)).map (λ d=>UInt8.ofNat (48+d))++[10])):=by
 have hN:=fu.big;obtain⟨M,rfl⟩:∃ M,N=M+5:=⟨N-5,by omega⟩;simp only[znk];rw[show (0:Int)=((0:Nat):Int) from rfl,zgR fu (j:=0) (x:=1000) rfl (by omega) (by omega) (by omega) rfl];rw[zgR fu (j:=1) (x:=100) rfl (by omega) (Nat.mod_lt _ (by omega)) (by simp;omega) rfl];rw[zgR fu (j:=2) (x:=10) rfl (by omega) (Nat.mod_lt _ (by omega)) (by simp;omega) rfl];rw[zgR fu (j:=3) (x:=1) rfl (by omega) (Nat.mod_lt _ (by omega)) (by simp;omega) rfl];unfold zl2;rw[show decide (((3+1:Nat):Int)<((([(1000:Int),(100:Int),(10:Int),(1:Int)]:List Int).length:Nat):Int))=false from rfl,cond_false]
 have hst:(3*((3*((3*((3*0+s % 10000 / 1000 % 10) % 10)+s % 10000 / 100 % 10) % 10)+s % 10000 / 10 % 10) % 10)+s % 10000 / 1 % 10) % 10=stN 0 (dg4 (s % 10000)):=by
  simp only[dg4,stN,Nat.div_one]
 rw[hst];have hlt:=zoB (dg4 (s % 10000)) (s:=0) (by omega);have hck:ckN (stN 0 (dg4 (s % 10000)))<10:=Nat.mod_lt _ (by omega);unfold zh1
 rw[zaE (n:=(3:Int)*_) (by omega) (by omega),zaE (by omega) (by omega),show (100:Int)-3*((stN 0 (dg4 (s % 10000)):Nat):Int)=((100-3*stN 0 (dg4 (s % 10000)):Nat):Int) by omega,
  show Int.tmod ((100-3*stN 0 (dg4 (s % 10000)):Nat):Int) 10=((ckN (stN 0 (dg4 (s % 10000))):Nat):Int) from rfl,fu.q30 (by omega),zyQ,zu4 hck,zdy (by simp),zyQ,zdy (by simp;omega),zyQ]
 congr 2
 simp[dg5,dg4]
theorem zsg (fu:FuF N){x2:TL}{k20:ByteArray->Option Bool}(hl:x2.length<=120):∀ (r p:TL) (n:Nat) (acc:Bs),p++r=x2->r.length<n->acc.length+(cat 10 ((dL r).map mkd)).length<=4800 ->
  f9_5 a1 a2 a3 N L S E C x2 k20 n (strC acc) (p.length:Int)=k20 (strC (acc++cat 10 ((dL r).map mkd)))
 | [],p,n,acc,h,h1,h2=>by
  obtain⟨n,rfl⟩:∃ q,n=q+1:=⟨n-1,by omega⟩
  have:x2.length=p.length:=by rw[<- h];simp
  simp only[f9_5,ztV];rw[ltF (by omega),cond_false];simp[zc1]
 | y::r,p,n,acc,h,h1,h2=>by
  have hN:=fu.big;obtain⟨n,rfl⟩:∃ q,n=q+1:=⟨n-1,by omega⟩
  have hlen:x2.length=p.length+(r.length+1):=by rw[<- h];simp
  have hy:x2[p.length]? = some y:=by rw[<- h];simp
  have hys:=zbu (y:=y) rfl;rw[show (dL (y::r)).map mkd=mkd y.data.toList::(dL r).map mkd from rfl,zaS,List.length_append,List.length_cons,zes] at h2;simp only[f9_5,ztV,zau];rw[ltT (by omega),cond_true,zbk,hy,zyQ];have hsum:=zu5 (a1:=a1) (a2:=a2) (a3:=a3) (L:=L) (S:=S) (E:=E) (C:=C) (x2:=x2) (v11:=strC acc) (v43:=(p.length:Int)) (k1:=zh2 a1 a2 a3 N L S E C x2 (strC acc) (p.length:Int) (zh0 a1 a2 a3 L S E C x2 (p.length:Int) (f9_5 a1 a2 a3 N L S E C x2 k20 n)) y) (y:=y) (by omega) y.data.toList [] N 0 rfl (by omega) (by simp);refine Eq.trans hsum ?_;unfold zh2 zau;dsimp only;rw[show addS y (strC [32])=some (strC (y.data.toList++[32])) from zdy (a:=y.data.toList) (by simp only[List.length_append,List.length_cons,List.length_nil];omega),zyQ,zdy (by simp only[List.length_append,List.length_cons,List.length_nil];omega),zyQ,zwt fu (by simp only[List.length_append,List.length_cons,List.length_nil];omega)];unfold zh0;rw[zcC (by omega)];have ih:=zsg fu (k20:=k20) hl r (p++[y]) n (acc++(mkd y.data.toList++[10])) (by simpa using h) (by simpa using h1) (by simp only[List.length_append,List.length_cons,List.length_nil,zes];omega);rw[show ((p.length+1:Nat):Int)=(((p++[y]).length:Nat):Int) by simp]
  have e:acc++(y.data.toList++[32])++(dg5 ((0+smN ([]:Bs).length y.data.toList) % 10000)).map (λ d=>UInt8.ofNat (48+d))++[10]=acc++(mkd y.data.toList++[10]):=by
   simp[mkd,mkL]
  rw[e,ih,show (dL (y::r)).map mkd=mkd y.data.toList::(dL r).map mkd from rfl,zaS];simp
end
end Go.Vc
namespace Go.Vc
open Go.Proofs
def zul (x6:ByteArray)(F:Int->Option Bool)(K:Int->Option Bool)(v:Int):Option Bool :=
 bif decide (v<(W ((ByteArray.size x6:Int)-(1:Int)))) then ((idxS x6 v).bind λ x24 =>
 bif decide (¬ x24=(10:Int)) then (F (W (v+(1:Int))))
 else (K v))
 else (K v)
def zum (f:Bs)(k e:Nat):Prop:=k<=e/\e<f.length/\(e=f.length-1∨f[e]? = some 10)/\∀ j,k<=j->j<e->f[j]? ≠ some 10
theorem zpU {y:ByteArray}{i:Nat}(h:i<y.data.toList.length):∃ c:UInt8,y.data.toList[i]? = some c/\zdn y i=(c.toNat:Int):=by
 refine⟨y.data.toList[i],zyS h, ?_⟩;unfold zdn;rw[List.getD_eq_getElem?_getD,zyS h];rfl
theorem zun {x6:ByteArray}{F:Nat->Int->Option Bool}{K:Int->Option Bool}(hF:∀ n v,F (n+1) v=zul x6 (F n) K v)(hs:x6.size<=100000){k:Nat}:∀ (m n i:Nat),x6.size-1-i=m->m<n->i<x6.size->k<=i->(∀ j,k<=j->j<i->x6.data.toList[j]? ≠ some 10) ->
  ∃ e:Nat,F n (i:Int)=K (e:Int)/\zum x6.data.toList k e:=by
 have hsz:=zbu (y:=x6) rfl
 have hW:0<x6.size->W ((x6.size:Int)-1)=((x6.size-1:Nat):Int):=λ h=>by rw[zaE (by omega) (by omega)];omega
 intro m
 induction m with
 | zero =>
  intro n i h1 h2 h3 h4 h5;obtain⟨n,rfl⟩:∃ q,n=q+1:=⟨n-1,by omega⟩;refine⟨i, ?_,h4,by omega, .inl (by omega),h5⟩;rw[hF,zul,hW (by omega),ltF (by omega),cond_false]
 | succ m ih =>
  intro n i h1 h2 h3 h4 h5;obtain⟨n,rfl⟩:∃ q,n=q+1:=⟨n-1,by omega⟩;obtain⟨c,hc,hb⟩:=zpU (y:=x6) (i:=i) (by omega);rw[hF,zul,hW (by omega),ltT (by omega),cond_true,idxS,if_pos ⟨by omega,by omega⟩,zyQ,Int.toNat_natCast,hb];by_cases h10:(c.toNat:Int)=10
  .refine ⟨i, ?_,h4,by omega, .inr ?_,h5⟩
   .rw [decide_eq_false (λ h=>h h10),cond_false]
   .rw [hc,UInt8.toNat_inj.1 (show c.toNat=(10:UInt8).toNat by show c.toNat=10;omega)]
  .rw [decide_eq_true h10,cond_true,zcC (by omega)]
   refine ih n (i+1) (by omega) (by omega) (by omega) (by omega) λ j h6 h7=>?_;by_cases hj:j=i
   .subst hj
    rw[hc];intro he
    cases he
    exact h10 rfl
   .exact h5 j h6 (by omega)
section
variable {N:Nat} {a1:Int} {x6:ByteArray} {x15:Int}
theorem f9_e0 (fu:FuF N)(v:Int):zhP a1 N x6 x15 v=some true:=by
 have h47:∀ b,zhO N x15 b=some true:=λ b=>by unfold zhO;rw[fu.qw];cases b <;> simp[zaR]
 unfold zhP zau;simp[h47]
theorem f9_e1 (fu:FuF N)(v:Int):zdP a1 N x6 x15 v=some true:=by
 have h47:∀ b,zdO N x15 b=some true:=λ b=>by unfold zdO;rw[fu.qw];cases b <;> simp[zaR]
 unfold zdP zau;simp[h47]
theorem f9_e2 (fu:FuF N)(v:Int):zdR a1 N x6 x15 v=some true:=by
 have h47:∀ b,zdQ N x15 b=some true:=λ b=>by unfold zdQ;rw[fu.qw];cases b <;> simp[zaR]
 unfold zdR zau;simp[h47]
theorem f9_e4 (fu:FuF N)(x49)(v:Int):zdU a1 N x6 x15 x49 v=some true:=by
 have h47:∀ b,zdT N x15 x49 b=some true:=λ b=>by unfold zdT;rw[fu.qw];cases b <;> simp[zaR]
 unfold zdU zau;simp[h47]
theorem f9_e5 (fu:FuF N)(e9:Int)(v:Int):zdW a1 N x6 x15 e9 v=some true:=by
 have h47:∀ b,zdV N x15 e9 b=some true:=λ b=>by unfold zdV;rw[fu.qw];cases b <;> simp[zaR]
 unfold zdW zau;simp[h47]
def zoI (f:Bs)(k:Nat)(x15:Int):Prop:=∀ e,zum f k e->1<=e-k->e-k<=5->10<k->48<=x15->x15<=57->False
theorem f9_e3 (fu:FuF N){k e:Nat}(hk:Int.tmod a1 (x6.size:Int)=(k:Int))(he:zum x6.data.toList k e)(hs:x6.size<=100000)(hn:zoI x6.data.toList k x15):zdh a1 N x6 x15 (e:Int)=some true:=by
 have hsz:=zbu (y:=x6) rfl
 have h47:zdg N x15 false=some true:=by unfold zdg;rw[fu.qw];rfl
 have hw:W ((e:Int)-(k:Int))=((e-k:Nat):Int):=by
  have:=he.1;have:=he.2.1;rw[zaE (by omega) (by omega)];omega
 unfold zdh zau;rw[hk,hw];dsimp only;by_cases h1:1<=e-k
 .rw [decide_eq_true (by omega),cond_true]
  by_cases h5:e-k<=5
  .rw [decide_eq_true (by omega),cond_true]
   by_cases h10:10<k
   .rw [decide_eq_true (by omega)]
    unfold zdg;rw[Bool.not_true,cond_false,fu.qw];by_cases hlo:x15<48
    .rw [decide_eq_true hlo,cond_true];rfl
    .rw [decide_eq_false hlo,cond_false]
     by_cases hhi:57<x15
     .rw [decide_eq_true hhi,cond_true];rfl
     .exact (hn e he h1 h5 h10 (by omega) (by omega)).elim
   .rw [decide_eq_false (by omega)];exact h47
  .rw [decide_eq_false (by omega),cond_false];exact h47
 .rw [decide_eq_false (by omega),cond_false];exact h47
theorem zi3 {F:Nat->Int->Option Bool}{K:Int->Option Bool}(fu:FuF N)(hF:∀ n v,F (n+1) v=zul x6 (F n) K v){k:Nat}(hk:Int.tmod a1 (x6.size:Int)=(k:Int))(hks:k<x6.size)(hs:x6.size<=4900)(hK:∀ e:Nat,zum x6.data.toList k e->K (e:Int)=some true):F N (Int.tmod a1 (x6.size:Int))=some true:=by
 have hN:=fu.big;rw[hk]
 obtain⟨e,h1,h2⟩:=zun hF (by omega) (x6.size-1-k) N k rfl (by omega) hks (Nat.le_refl _) λ j h1 h2=>by omega
 rw[h1,hK e h2]
theorem zsh (g:Bs)(h:g.length<=1000000):zjC (bI g)=some (strC g):=by
 unfold zjC;rw[if_pos (by simp[maxLen];omega)];have:=zi2 g;unfold strB at this;rw[this]
theorem zyL (fu:FuF N){g:Bs}{k:Nat}(hk:Int.tmod a1 (x6.size:Int)=(k:Int))(hks:k<x6.size)(hs:x6.size<=4900)(hg:g.length=x6.size)
  (hn:∀ b:Bk,BkOK b->g=zaT (dL b.L)->NoC 10 (dL b.L)->zoI x6.data.toList k x15):zeT a1 N x6 x15 (bI g)=some true:=by
 have hN:=fu.big;have e0:∀ K:Int->Option Bool,(∀ v,K v=some true)->zne a1 x6 x15 K N (Int.tmod a1 (x6.size:Int))=some true:=λ K hK=>zi3 fu (F:=zne a1 x6 x15 K) (λ n v=>rfl) hk hks hs λ e _=>hK _;have e1:∀ K:Int->Option Bool,(∀ v,K v=some true)->zfh a1 x6 x15 K N (Int.tmod a1 (x6.size:Int))=some true:=λ K hK=>zi3 fu (F:=zfh a1 x6 x15 K) (λ n v=>rfl) hk hks hs λ e _=>hK _;have e2:∀ K:Int->Option Bool,(∀ v,K v=some true)->zfi a1 x6 x15 K N (Int.tmod a1 (x6.size:Int))=some true:=λ K hK=>zi3 fu (F:=zfi a1 x6 x15 K) (λ n v=>rfl) hk hks hs λ e _=>hK _;have e4:∀ x49,∀ K:Int->Option Bool,(∀ v,K v=some true)->zfj a1 x6 x15 x49 K N (Int.tmod a1 (x6.size:Int))=some true:=λ x49 K hK=>zi3 fu (F:=zfj a1 x6 x15 x49 K) (λ n v=>rfl) hk hks hs λ e _=>hK _;have e5:∀ e9,∀ K:Int->Option Bool,(∀ v,K v=some true)->zfk a1 x6 x15 e9 K N (Int.tmod a1 (x6.size:Int))=some true:=λ e9 K hK=>zi3 fu (F:=zfk a1 x6 x15 e9 K) (λ n v=>rfl) hk hks hs λ e _=>hK _
 have hX:zeT a1 N x6 x15 (bI g)=zfU N (strC g) (some true) (λ X n v L S E C=>zb1 a1 N x6 x15 (bI g) (zbg a1 N x6 x15 (bI g)) X n v L S E C):=by
  unfold zeT zfU;rw[zsh g (by omega),zyQ];simp only[zau,e0 _ (f9_e0 fu),e1 _ (f9_e1 fu),e2 _ (f9_e2 fu)]
 rw[hX]
 have lp:∀ X:TL,RdLp N X (λ n v L S E C=>zb1 a1 N x6 x15 (bI g) (zbg a1 N x6 x15 (bI g)) X n v L S E C) (zbg a1 N x6 x15 (bI g)) (some true):=by
  intro X;refine zwr (λ n i L S E C=>rfl) (λ x hx=>?_) λ u hu=>?_
  .show (bif !(true == decide (¬ x.1=0)) then some false else _)=_
   rw[decide_eq_true hx];exact e4 _ _ (f9_e4 fu _)
  .show (bif !(true == decide (¬ u.2=0)) then some false else _)=_
   rw[decide_eq_true hu];exact e5 _ _ (f9_e5 fu _)
 rcases fu.ra (G:=strC g) lp (by rw[za8];omega) with h|⟨b,hb,h,hf,hno⟩
 .exact h
 .rw [h]
  rw[zbH] at hf;unfold zbg;rw[fu.q23 hb.ll (by rw[<- hf];omega),zyQ,zsh g (by omega),zyQ,<- hf,zi0,cond_false];have hnm:=hn b hb hf hno;exact zi3 fu (F:=zgb a1 x6 x15 (zdh a1 N x6 x15)) (λ n v=>rfl) hk hks hs λ e he=>f9_e3 fu hk he (by omega) hnm
end
end Go.Vc
namespace Go.Vc
open Go.Proofs
theorem zsi {c:UInt8}:∀ (P:List Bs) (k:Nat),k<(cat c P).length->∃ P1 x P2 j,P=P1++x::P2/\k=(cat c P1).length+j/\j<=x.length
 | [],k,h=>by simp[zc1] at h
 | x::P,k,h=>by
  by_cases hk:k<=x.length
  .exact ⟨[],x,P,k,rfl,by simp[zc1],hk⟩
  .rw [zaS,List.length_append,List.length_cons] at h
   have h':k-(x.length+1)<(cat c P).length:=by omega
   obtain⟨P1,y,P2,j,h1,h2,h3⟩:=zsi P (k-(x.length+1)) h';refine⟨x::P1,y,P2,j,by rw[h1];rfl, ?_,h3⟩;rw[zaS,List.length_append,List.length_cons];omega
theorem zsj {L L':TL}{k:Nat}{f g:Bs}{x15:Int}(hf:f=zaT (dL L))(hno:NoC 10 (dL L))(hl:L.length<=120)(hg:g=zaT (dL L'))(hno':NoC 10 (dL L'))(hl':L'.length<=120)
  (hk:k<f.length) (hgk:g[k]? ≠ f[k]?) (hsame:∀ i,i<k->g[i]? = f[i]?)
  (h10:∀ e,f[e]? = some 10->k<e->∃ e',k<=e'/\e'<=e/\g[e']? = some 10):zoI f k x15:=by
 intro e he h1 h5 hk10 _ _;have hP:=zh8 hno (by simpa using hl);have hf':f=cat 10 (pcsF (dL L)):=hf;obtain⟨P1,x,P2,j,hp,hkj,hj⟩:=zsi (c:=10) (pcsF (dL L)) k (by rw[<- hf'];exact hk);have hx:(10:UInt8) ∉ x:=hP x (by rw[hp];simp)
 have hfe:f=cat 10 P1++(x++10::cat 10 P2):=by rw[hf',hp,zr6,zaS]
 have hE:f[(cat 10 P1).length+x.length]? = some 10:=by
  rw[hfe,List.getElem?_append_right (by omega),Nat.add_sub_cancel_left,List.getElem?_append_right (Nat.le_refl _),Nat.sub_self];rfl
 have hin:∀ i,k<=i->i<(cat 10 P1).length+x.length->f[i]? ≠ some 10:=by
  intro i h1 h2 h3;rw[hfe,List.getElem?_append_right (by omega),List.getElem?_append_left (by omega)] at h3;exact hx (zyU h3)
 have hlen:f.length=(cat 10 P1).length+(x.length+((cat 10 P2).length+1)):=by rw[hfe];simp
 obtain⟨e1,e2,e3,e4⟩:=he
 have hee:e=(cat 10 P1).length+x.length:=by
  rcases Nat.lt_trichotomy e ((cat 10 P1).length+x.length) with h|h|h
  .rcases e3 with e3|e3
   .omega
   .exact absurd e3 (hin e e1 h)
  .exact h
  .exact absurd hE (e4 _ (by omega) h)
 have hP1:P1≠[]:=by
  intro h0;subst h0
  have:x=hdL (dL L).length:=by
   have:=hp;simp only[pcsF,List.nil_append,List.cons.injEq] at this;exact this.1.symm
  have h2:=(zpQ (n:=(dL L).length) (by simpa using hl)).2.1;rw[<- this] at h2;simp[zc1] at hkj;omega
 obtain⟨p,P1',rfl⟩:∃ p P,P1=p::P:=by cases P1 with|nil=>exact absurd rfl hP1|cons p P=>exact⟨_,_,rfl⟩
 have hxm:x∈(dL L).map mkd:=by
  have:=hp;simp only[pcsF,List.cons_append,List.cons.injEq] at this;rw[this.2];simp
 obtain⟨l,hlm,rfl⟩:=List.mem_map.1 hxm;rw[zes] at hee hj hlen
 -- the text up to the mark
 obtain⟨A,hAd⟩:∃ A:Bs,A=cat 10 (p::P1')++(l++[32]):=⟨_,rfl⟩
 have hA:f=A++(mkL l++10::cat 10 P2):=by rw[hfe,hAd];simp[mkd]
 have hAl:A.length=(cat 10 (p::P1')).length+l.length+1:=by rw[hAd];simp only[List.length_append,List.length_singleton];omega
 have hq:A.length<=k:=by omega
 have htake:g.take A.length=A:=by
  have:g.take A.length=f.take A.length:=by
   apply List.ext_getElem?;intro i;rw[List.getElem?_take,List.getElem?_take]
   split
   .exact hsame i (by omega)
   .rfl
  rw[this,hA,List.take_left]
 have hgA:g=A++g.drop A.length:=by
  conv=>lhs;rw[<- List.take_append_drop A.length g,htake]
 generalize hT:g.drop A.length=T at hgA
 have hTi:∀ i,T[i]? = g[A.length+i]? := λ i=>by rw[<- hT,List.getElem?_drop]
 have hNoP:NoC 10 (p::P1'):=λ z hz=>hP z (by rw[hp];exact List.mem_append_left _ hz)
 have hm:=zr8 (L':=dL L') (P1:=p::P1') (l:=l) (T:=T) hP1 hNoP (hno l hlm) hno' (by simpa using hl') (by rw[<- hg,hgA,hAd];simp) (by
  obtain⟨e',q1,q2,q3⟩:=h10 e (by rw[hee,<- zes];exact hE) (by omega)
  have:T[e'-A.length]? = some 10:=by
   rw[hTi,show A.length+(e'-A.length)=e' by omega,q3]
  have h6:(T.take 6)[e'-A.length]? = some 10:=by
   rw[List.getElem?_take,if_pos (by omega),this]
  exact zyU h6)
 have h6:(T.take 6)[k-A.length]? = g[k]? := by
  rw[List.getElem?_take,if_pos (by omega),hTi,show A.length+(k-A.length)=k by omega]
 have h7:f[k]? = (mkL l++[10])[k-A.length]? := by
  rw[hA,List.getElem?_append_right hq,show mkL l++10::cat 10 P2=(mkL l++[10])++cat 10 P2 by simp,List.getElem?_append_left (by simp[zc0] at hAl ⊢;omega)]
 rw[hm] at h6;exact hgk (by rw[<- h6,h7])
theorem xor8 {m n:Nat}(hm:m<256)(hn:n<256):zi4 .xor .u8 (m:Int) (n:Int)=((m ^^^ n:Nat):Int):=by
 have e:(BitVec.ofInt 8 (m:Int) ^^^ BitVec.ofInt 8 (n:Int)).toNat=m ^^^ n:=by
  rw[BitVec.toNat_xor,BitVec.ofInt_natCast,BitVec.ofInt_natCast,BitVec.toNat_ofNat,BitVec.toNat_ofNat,Nat.mod_eq_of_lt (show m<2 ^ 8 by omega),Nat.mod_eq_of_lt (show n<2 ^ 8 by omega)]
 have e2:zi4 .xor .u8 (m:Int) (n:Int)=IntKind.u8.wrap ((m ^^^ n:Nat):Int):=congrArg (λ k:Nat=>IntKind.u8.wrap (k:Int)) e;rw[e2];have:=Nat.xor_lt_two_pow (n:=8) hm hn;exact zjd (by simp[IntKind.min,IntKind.max,IntKind.signed,IntKind.bits];omega)
theorem zsk {o:UInt8}{a2:Int}(h:u8In a2):∃ c:UInt8,zi4 .xor .u8 (o.toNat:Int) (Wk .u8 ((1:Int)+(Int.tmod a2 (127:Int))))=(c.toNat:Int)/\c≠o:=by
 obtain⟨h0,h1⟩:=h;obtain⟨n,rfl⟩:=Int.eq_ofNat_of_zero_le h0;have ht:Int.tmod (n:Int) 127=((n % 127:Nat):Int):=rfl
 have hw:Wk .u8 ((1:Int)+((n % 127:Nat):Int))=((1+n % 127:Nat):Int):=by
  rw[zs4 (by simp[IntKind.min,IntKind.max,IntKind.signed,IntKind.bits];omega)];omega
 have hlt:o.toNat<256:=o.toNat_lt;have hx:=Nat.xor_lt_two_pow (n:=8) hlt (show 1+n % 127<2 ^ 8 by omega);refine⟨UInt8.ofNat (o.toNat ^^^ (1+n % 127)), ?_,λ he=>?_⟩
 .rw [ht,hw,xor8 hlt (by omega),UInt8.toNat_ofNat',Nat.mod_eq_of_lt hx]
 .have h2:=congrArg UInt8.toNat he
  rw[UInt8.toNat_ofNat',Nat.mod_eq_of_lt hx] at h2
  have h3:o.toNat ^^^ (o.toNat ^^^ (1+n % 127))=o.toNat ^^^ o.toNat:=by rw[h2]
  rw[<- Nat.xor_assoc,Nat.xor_self,Nat.zero_xor] at h3;omega
theorem zsl {f:Bs}{k:Nat}{c:UInt8}:(bI f).set k (c.toNat:Int)=bI (f.set k c):=by simp[List.map_set]
section
variable {N:Nat} {a1 a2:Int} {a3:Bool}
theorem zpV (fu:FuF N){L:TL}{k:Nat}(hno:NoC 10 (dL L))(hl:L.length<=120)(h2:u8In a2)(hs:(zaT (dL L)).length<=4900)(hk:Int.tmod a1 ((strC (zaT (dL L))).size:Int)=(k:Int))(hks:k<(zaT (dL L)).length):zfS a1 a2 a3 N (strC (zaT (dL L)))=some true:=by
 have hsz:(strC (zaT (dL L))).size=(zaT (dL L)).length:=za8 _;unfold zfS;rw[hk];generalize hf:zaT (dL L)=f at *;obtain⟨o,ho⟩:∃ o,f[k]? = some o:=⟨_,zyS hks⟩;obtain⟨c,hc,hco⟩:=zsk (o:=o) h2;have hb:zd4 (strC f)=bI f:=rfl
 have hix:ix (bI f) (k:Int)=some (o.toNat:Int):=by rw[zbk,List.getElem?_map,ho];rfl
 have hset:∀ {q:List Int} {i:Nat} {v:Int},q.length=f.length->i<f.length->setx q (i:Int) v=some (q.set i v):=λ hq hi=>by rw[setx,if_pos ⟨by omega,by omega⟩,Int.toNat_natCast]
 rw[zyQ,hb,hix,zyQ,zyQ,zyQ,hc,hset (by simp) hks,zyQ,zsl]
 have hch:∀ g:Bs,g.length=f.length->(∀ b:Bk,BkOK b->g=zaT (dL b.L)->NoC 10 (dL b.L)->zoI f k (o.toNat:Int))->zeT a1 N (strC f) (o.toNat:Int) (bI g)=some true:=λ g hg hn =>
  zyL fu (x6:=strC f) hk (by rw[hsz];exact hks) (by rw[hsz];exact hs) (by rw[hsz];exact hg) hn
 have h1:zeT a1 N (strC f) (o.toNat:Int) (bI (f.set k c))=some true:=by
  refine hch _ (by simp) λ b hb hg hn=>zsj hf.symm hno hl hg hn hb.ll hks ?_ ?_ ?_
  .rw [List.getElem?_set_self hks,ho];intro h;cases h;exact hco rfl
  .intro i hi;rw[List.getElem?_set_ne (by omega)]
  .intro e he hke;exact⟨e,by omega,Nat.le_refl _,by rw[List.getElem?_set_ne (by omega)];exact he⟩
 simp only[zau]
 cases a3 with
 | false=>exact h1
 | true =>
  rw[cond_true,zcC (by omega),hsz];by_cases hk1:k+1<f.length
  .obtain ⟨o2,ho2⟩:∃ o,f[k+1]? = some o:=⟨_,zyS hk1⟩
   have hix2:ix (bI f) ((k+1:Nat):Int)=some (o2.toNat:Int):=by rw[zbk,List.getElem?_map,ho2];rfl
   have i3:ix (bI (f.set k o2)) ((k+1:Nat):Int)=some (o2.toNat:Int):=by rw[zbk,List.getElem?_map,List.getElem?_set_ne (by omega),ho2];rfl
   have i4:ix (bI ((f.set k o2).set (k+1) o)) (k:Int)=some (o2.toNat:Int):=by rw[zbk,List.getElem?_map,List.getElem?_set_ne (by omega),List.getElem?_set_self hks];rfl
   have i5:ix (bI ((f.set k o2).set (k+1) o)) ((k+1:Nat):Int)=some (o.toNat:Int):=by rw[zbk,List.getElem?_map,List.getElem?_set_self (by simpa using hk1)];rfl
   rw[ltT hk1,cond_true,zyQ,hix2,zyQ,hix,zyQ,zyQ,hset (by simp) hks,zyQ,zsl,i3,zyQ,hset (by simp) hk1,zyQ,zsl,i4,zyQ,i5,zyQ];by_cases he:o2=o
   .rw [he,zuW,cond_true,fu.qw];rfl
   .rw [decide_eq_false (λ h=>he (UInt8.toNat_inj.1 (by omega))),cond_false]
    refine hch _ (by simp) λ b hb hg hn=>zsj hf.symm hno hl hg hn hb.ll hks ?_ ?_ ?_
    .rw [List.getElem?_set_ne (by omega),List.getElem?_set_self hks,ho];intro h;cases h;exact he rfl
    .intro i hi;rw[List.getElem?_set_ne (by omega),List.getElem?_set_ne (by omega)]
    .intro e he' hke
     by_cases hek:e=k+1
     .subst hek
      rw[ho2] at he';cases he';exact⟨k,Nat.le_refl _,by omega,by rw[List.getElem?_set_ne (by omega),List.getElem?_set_self hks]⟩
     .exact ⟨e,by omega,Nat.le_refl _,by rw[List.getElem?_set_ne (by omega),List.getElem?_set_ne (by omega)];exact he'⟩
  .rw [ltF (by omega),cond_false];exact h1
end
end Go.Vc
namespace Go.Vc
open Go.Proofs
theorem zoJ:∀ (l:TL) (b:Bk),(tell b l).L.length<=b.L.length+l.length
 | [],b=>by simp[tell]
 | y::l,b=>by
  have:=zoJ l (zdx b y);show (tell (zdx b y) l).L.length<=_;by_cases he:errB b y=0
  .rw [zrT he] at this;simp at this ⊢;omega
  .rw [znn he] at this ⊢;simp;omega
theorem gl_no {L:TL}(hg:GLns L):NoC 10 (dL L):=by
 intro x hx;obtain⟨y,hy,rfl⟩:=List.mem_map.1 hx;exact(hg y hy).rd5.2
theorem zu6:∀ {L:TL},GLns L->(cat 10 ((dL L).map mkd)).length<=L.length*107
 | [],_=>by simp[zc1]
 | y::L,hg=>by
  have ih:=zu6 (L:=L) λ z hz=>hg z (List.mem_cons_of_mem _ hz);have h1:=(hg y (List.mem_cons_self ..)).mark.1;have h2:=zbu (y:=y) rfl;rw[show (dL (y::L)).map mkd=mkd y.data.toList::(dL L).map mkd from rfl,zaS,List.length_append,List.length_cons,zes,List.length_cons];omega
theorem zko {b:Bool}{α:Type}{x:α}:(bif b then x else x)=x:=by cases b <;> rfl
section
variable {N:Nat} {a1 a2:Int} {a3:Bool}
theorem lp1 {L:TL}{S:TS}{E:TE}{C:TC}{G:ByteArray}{k:TL->TS->TE->TC->Option Bool}(X:TL):RdLp N X (λ n v L' S' E' C' => zb2 N L S E C G G k X n v L' S' E' C') k (some false) :=
 zwr (λ n i L S E C=>rfl) (λ x hx=>zko) λ u hu=>zko
theorem lp2 {L L':TL}{S S':TS}{E E':TE}{C C':TC}{V:Option Bool}{k:TL->TS->TE->TC->Option Bool}(X:TL):RdLp N X (λ n v L'' S'' E'' C'' => zbG N L S E C L' S' E' C' V k X n v L'' S'' E'' C'') k V :=
 zwr (λ n i L S E C=>rfl) (λ x hx=>rfl) λ u hu=>rfl
theorem zwu (fu:FuF N)(h1:0<=a1)(h2:u8In a2){b:Bk}(hb:BkOK b)(hbt:Runs Bk.new b.L/\tell Bk.new b.L=b)(hg:GLns b.L)(hl:b.L.length<=35):zb5 a1 a2 a3 N b.L b.S b.E b.C=some true:=by
 have hN:=fu.big;have hno:=gl_no hg;have hcat:=zu6 hg;have hh:=zpQ (n:=b.L.length) (by omega)
 have hfl:(zaT (dL b.L)).length=(hdL b.L.length).length+1+(cat 10 ((dL b.L).map mkd)).length:=by
  simp[zaT,pcsF,zaS];omega
 have hfe:hdL b.L.length++[10]++cat 10 ((dL b.L).map mkd)=zaT (dL b.L):=by simp[zaT,pcsF,zaS]
 have hs:(zaT (dL b.L)).length<=4800:=by omega
 unfold zb5 zau;rw[fu.q21 hb,zyQ,fu.q30 (by omega),zyQ,show addS (strC [116,117,115,99,104,101,32]) (num b.L.length)=some (strC (hdL b.L.length)) from zdy (b:=digs 7 b.L.length) (by have:=zfI 7 b.L.length;simp;omega),zyQ,zdy (by simp;omega),zyQ];have ht:=zsg fu (a1:=a1) (a2:=a2) (a3:=a3) (L:=b.L) (S:=b.S) (E:=b.E) (C:=b.C) (k20:=zgB a1 a2 a3 N b.L b.S b.E b.C) (x2:=b.L) (by omega) b.L [] N (hdL b.L.length++[10]) rfl (by omega) (by simp only[List.length_append,List.length_singleton];omega);refine Eq.trans ht ?_;rw[hfe]
 -- the file is read
 have hc24:zgB a1 a2 a3 N b.L b.S b.E b.C (strC (zaT (dL b.L)))=zfU N (strC (zaT (dL b.L))) (some false) (λ X n v L' S' E' C' => zb2 N b.L b.S b.E b.C (strC (zaT (dL b.L))) (strC (zaT (dL b.L))) (zbv a1 a2 a3 N b.L b.S b.E b.C (strC (zaT (dL b.L))) (strC (zaT (dL b.L)))) X n v L' S' E' C'):=by
  unfold zgB zfU;rw[fu.q23 (by omega) (by omega),zyQ];simp only[zko,zau]
 rw[hc24,fu.ry (k:=zbv a1 a2 a3 N b.L b.S b.E b.C (strC (zaT (dL b.L))) (strC (zaT (dL b.L)))) (λ X=>lp1 X) hg (by omega) (by omega) hbt.1,hbt.2];unfold zbv;have hsz:(strC (zaT (dL b.L))).size=(zaT (dL b.L)).length:=za8 _;rw[zi0,cond_false,fu.q41 hb (by omega),zyQ,Bool.not_true,cond_false,chk,decide_eq_true (by omega),cond_true,zyQ,zau]
 have hpos:(0:Int)<((strC (zaT (dL b.L))).size:Int):=by omega
 obtain⟨k,hk,hks⟩:∃ k:Nat,Int.tmod a1 ((strC (zaT (dL b.L))).size:Int)=(k:Int)/\k<(zaT (dL b.L)).length:=by
  rw[Int.tmod_eq_emod_of_nonneg h1];have q1:=Int.emod_nonneg a1 (b:=((strC (zaT (dL b.L))).size:Int)) (by omega);have q2:=Int.emod_lt_of_pos a1 hpos;exact⟨(a1 % ((strC (zaT (dL b.L))).size:Int)).toNat,by omega,by omega⟩
 have hchg:=zpV (a1:=a1) (a2:=a2) (a3:=a3) fu (L:=b.L) (k:=k) hno (by omega) h2 (by omega) hk hks
 have hsub:subS (strC (zaT (dL b.L))) 0 (k:Int)=some (strC ((zaT (dL b.L)).take k)):=by
  rw[subS,if_pos ⟨by omega,by omega,by omega⟩,Int.toNat_natCast]
  congr 1
  rw[<- zkk (zd2 _ _ _),zkl,zbH];simp
 rw[hk,hsub,zyQ]
 have hX:∀ (V:Option Bool) (k16:TL->TS->TE->TC->Option Bool),(bif decide ((17000:Int)<(ByteArray.size (strC ((zaT (dL b.L)).take k)):Int)) then V
   else ((f72 N (strC ((zaT (dL b.L)).take k)) (strC [10])).bind λ x72 =>
   bif !x72 then V
   else ((f74 N (strC ((zaT (dL b.L)).take k)) (strC [10])).bind λ x73 =>
   (f73 N x73 (strC [10])).bind λ x74 =>
   (ix x74 (0:Int)).bind λ x75 =>
   (f30 N (W ((List.length x74:Int)-(1:Int)))).bind λ x76 =>
   (addS (strC [116,117,115,99,104,101,32]) x76).bind λ x77 =>
   bif decide (¬ x75=x77) then V
   else ((sub x74 (1:Int) (List.length x74:Int)).bind λ x78 =>
   zbG N b.L b.S b.E b.C b.L b.S b.E b.C V k16 x78 N (0:Int) [] [] [] []))))
   = zfU N (strC ((zaT (dL b.L)).take k)) V (λ X n v L'' S'' E'' C'' => zbG N b.L b.S b.E b.C b.L b.S b.E b.C V k16 X n v L'' S'' E'' C''):=λ V k16=>rfl
 refine Eq.trans (hX _ _) ?_
 rcases fu.ra (G:=strC ((zaT (dL b.L)).take k)) (V:=zfS a1 a2 a3 N (strC (zaT (dL b.L)))) (k:=zb4 b.L b.S b.E b.C b.L b.S b.E b.C) (λ X=>lp2 X) (by rw[za8,List.length_take];omega) with h|⟨b',hb',_,hf,hno'⟩
 .exact h.trans hchg
 .exfalso
  rw[zbH] at hf;have hR:=zue (L:=dL b.L) (L':=dL b'.L) (R:=(zaT (dL b.L)).drop k) hno (by simp;omega) hno' (by have:=hb'.ll;simpa using this) (by rw[<- hf,List.take_append_drop]);have:=congrArg List.length hR;simp at this;omega
theorem zyM (fu:FuF N){a0:List A4u8N}(h0:∀ x,x∈a0->x.ok)(h1:0<=a1)(h2:u8In a2):f9 N a0 a1 a2 a3=some true:=by
 have hN:=fu.big;unfold f9;rw[zyv (by omega) h0];simp only[zyQ];have hl0:=zsa a0;generalize hq:(zh3 a0).map (txt nm0)=x1 at hl0;have hg0:GLns x1:=hq ▸ zpR h0;unfold zau;dsimp only;refine(zr9 (k:=zb5 a1 a2 a3 N) hg0 ?_ ?_ N Bk.new zot (by omega)).trans ?_
 .intro n i y b hi hx hy hb
  simp only[zcY,zeJ,lt_t hi,cond_true,zau,zbk,hx,zyQ,zcK,fu.q18 hy hb,outM];rw[zcC (by omega)]
 .intro n b
  simp only[zcY,zeJ,lt_f,cond_false]
 have hb:BkOK (tell Bk.new x1):=zrU zot hg0;have hbg:GLns (tell Bk.new x1).L:=zl7 (λ y hy=>by simp[Bk.new] at hy) hg0;have hbt:=zpK x1 Bk.new zuf;have hbl:=zoJ x1 Bk.new
 have h35:(tell Bk.new x1).L.length<=35:=by
  have:Bk.new.L.length=0:=rfl;omega
 exact zwu fu h1 h2 hb hbt hbg h35
end
theorem zwv {a0:List A4u8N}{a1 a2:Int}{a3:Bool}(h0:∀ x,x∈a0->x.ok)(h1:0<=a1)(h2:u8In a2):f9 5000 a0 a1 a2 a3=some true:=zyM fuF h0 h1 h2
end Go.Vc
namespace Go.Vc
abbrev tB:Ty := .int .u8
abbrev tA4:Ty := .comp [tB,tB,tB,tB]
abbrev tSh:Ty := .slice tA4 true 4
abbrev zyN:Ty := .bool
abbrev tU16:Ty := .int .u16
theorem zyO {ds:List D}(h:tB.has ds):∃ n,ds=[u8N n]/\u8In n:=by
 simp only[tB,Ty.has] at h;obtain⟨n,rfl,h⟩:=h;exact⟨n,rfl,by simpa [IntKind.min,IntKind.max,IntKind.signed,IntKind.bits,u8In] using h⟩
theorem zoK {ds:List D}(h:(Ty.int .u8).has ds):∃ n,ds=[u8N n]/\u8In n:=zyO h
theorem zyP {x:D}(h:tB.hasD x):∃ n,x=u8N n/\u8In n:=by
 obtain⟨n,h1,h2⟩:=zyO (ds:=[x]) h;exact⟨n,List.singleton_inj.1 h1,h2⟩
theorem zsm {x:D}(h:tSh.hasD x):∃ l:List A4u8N,x=zdM l/\∀ y,y∈l->y.ok:=by
 obtain⟨l,h1,_,h3⟩:=ztj (d:=A4u8N.d) (p:=A4u8N.ok) (ds:=[x]) (λ cs h=>by
  simp only[tA4,Ty.has] at h;rw[Ty.hasL] at h;obtain⟨a0,b0,rfl,h0,h⟩:=h;rw[Ty.hasL] at h;obtain⟨a1,b1,rfl,h1,h⟩:=h;rw[Ty.hasL] at h;obtain⟨a2,b2,rfl,h2,h⟩:=h;rw[Ty.hasL] at h;obtain⟨a3,b3,rfl,h3,h⟩:=h;simp only[Ty.hasL] at h;subst h;obtain⟨x0,rfl,p0⟩:=zoK h0;obtain⟨x1,rfl,p1⟩:=zoK h1;obtain⟨x2,rfl,p2⟩:=zoK h2;obtain⟨x3,rfl,p3⟩:=zoK h3
  exact⟨⟨x0,x1,x2,x3⟩,rfl,p0,p1,p2,p3⟩) h
 exact⟨l,List.singleton_inj.1 h1,h3⟩
end Go.Vc
namespace Go.Vc
theorem zww {x:D}(h:tU16.hasD x):∃ n,x=u16N n/\0<=n:=by
 have h':(Ty.int .u16).has [x]:=h;simp only[Ty.has] at h';obtain⟨n,h1,h⟩:=h';refine⟨n,List.singleton_inj.1 h1, ?_⟩;have:IntKind.u16.min=0:=rfl;omega
theorem zuo {x:D}(h:zyN.hasD x):∃ b,x=bN b/\True:=by
 have h':Ty.bool.has [x]:=h;simp only[Ty.has] at h';obtain⟨b,h1⟩:=h';exact⟨b,List.singleton_inj.1 h1,trivial⟩
end Go.Vc
namespace Go.Vc
open Go.Proofs
theorem lx_of {l:List (String×DataW Unit)} (h1:(l.filter λ x=>x.1 == "internal/strconv.uint64pow10")=[("internal/strconv.uint64pow10", Lib.tabData .u64 Lib.pow10Tab)]) {w:World} (h:laidMetH Tryz.prog l w.memory):LX Tryz.prog w:=by
 have h2:=laidMetH.filter (λ x=>x.1 == "internal/strconv.uint64pow10") h
 rw[h1,MakeChecks.laidMetH_plain _ _ _ (by rfl)] at h2;exact LX.heap (w:=w.memory) (Lib.tabIs_of_head (g:=0) (t:=226) (e:=182) (n:=20) (by kernel_rfl) (by kernel_rfl) (by kernel_rfl) (by kernel_rfl) (by kernel_rfl) (by kernel_rfl) h2) rfl
end Go.Vc

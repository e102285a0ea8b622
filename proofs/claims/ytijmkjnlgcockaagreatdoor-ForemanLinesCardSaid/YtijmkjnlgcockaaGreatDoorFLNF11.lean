/-
  A library for proofs about Go functions by symbolic evaluation,and plain Lean functions that the walked Go functions compute (written by a program of this claim).
-/
import Derived.Test.YtijmkjnlgcockaaGreatDoorFLNF9
import Derived.Test.YtijmkjnlgcockaaGreatDoorFLNF10
import Derived.Test.YtijmkjnlgcockaaGreatDoorFLNF5
import Derived.Test.YtijmkjnlgcockaaGreatDoorFLNF7
import Derived.Test.YtijmkjnlgcockaaGreatDoorVc4
import Derived.Test.YtijmkjnlgcockaaGreatDoorFLNF1
import Derived.Test.YtijmkjnlgcockaaGreatDoorVc3
import Derived.Test.YtijmkjnlgcockaaGreatDoorProg
import Derived.LaidSub
import Derived.MakeChecks
set_option linter.unusedVariables false
set_option linter.unnecessarySimpa false
set_option linter.unusedSimpArgs false
namespace Go.Vc
open Go.Proofs
def fum (N:Nat):Bool:=match f84 N,f116 N dT with
 | some t,some z=>decide (t=dT)&&decide (z=0)
 | _,_=>false
theorem zyj {N:Nat}(h:fum N=true)(hN:130<=N):FuM N:=by
 unfold fum at h
 split at h
 .rename_i t z h1 h2
  rw[zyu,decide_eq_true_eq,decide_eq_true_eq] at h;exact⟨hN,by rw[h1,h.1],by rw[h2,h.2]⟩
 .cases h
section
variable {M:Nat}
end
abbrev dL (L:TL):List Bs:=L.map λ y=>y.data.toList
theorem zpg (l:Bs):strB (l.map λ b=>(b.toNat:Int))=strC l:=by
 simp_all [List.map_map,List.map_id,List.map_congr_left,strB,strC]
abbrev bI (l:Bs):List Int:=l.map λ b=>(b.toNat:Int)
theorem zdZ {a b:Bs}(h:a.length+b.length<=1000000):addS (strC a) (strC b)=some (strC (a++b)):=by
 rw[addS,if_pos]
 .rw [<- znd (strC a++strC b)]
  congr 2
 grind [zf0,strC,Go.maxLen]
theorem zrP (l:Bs):(mkd l).length=l.length+6:=by simp[mkd,zdr]
theorem zrQ {N:Nat}(fu:FuM N){L:TL}(hl:L.length<=120)(hs:(zgE (dL L)).length<=20000)(hN:∀ y,y∈L->y.size<N):∀ (S:TS) (E:TE) (C:TC) (r p:TL) (n:Nat) (b:Bs),p++r=L->r.length<n->b≠[]->b.length+(cat 10 ((dL r).map mkd)).length<=20000 ->
  zlU L S E C N (zfn L S E C) n (p.length:Int) (bI b)=some (strC (b++cat 10 ((dL r).map mkd)))
 | S,E,C,[],p,n,b,h,h1,h2,h3=>by
  obtain⟨n,rfl⟩:∃ q,n=q+1:=⟨n-1,by omega⟩
  have:L.length=p.length:=by grind
  have hb:bI b≠[]:=by simpa using h2
  have hb2:¬ (bI b).length=0:=λ h=>hb (List.eq_nil_of_length_eq_zero h);simp only[zlU,zn9];rw[ltF (by omega),cond_false,zfn,neN,if_neg hb2,zyo,zyo,zyo,zpg];simp[znj]
 | S,E,C,y::r,p,n,b,h,h1,h2,h3=>by
  obtain⟨n,rfl⟩:∃ q,n=q+1:=⟨n-1,by omega⟩
  have hlen:L.length=p.length+(r.length+1):=by grind
  have hy:L[p.length]? = some y:=by grind
  have hm:y∈L:=by grind
  rw[show (dL (y::r)).map mkd=mkd y.data.toList::(dL r).map mkd from rfl,zdg,List.length_append,List.length_cons,zrP] at h3;have hys:=zbf (y:=y) rfl;simp only[zlU,zn9];rw[ltT (by omega),cond_true,zaW,hy,zyo];have hN':=hN y hm
  rw[show addS y (strC [32])=some (strC (y.data.toList++[32])) from zdZ (a:=y.data.toList) (by grind),zyo,zxS fu (by omega) hN',zyo,
   zdZ (by simp only[List.length_append,List.length_cons,List.length_nil,List.length_map,zdr];omega),zyo,zdZ (by simp only[List.length_append,List.length_cons,List.length_nil,List.length_map,zdr];omega),zyo,zyo,
   show zhl (strC (y.data.toList++[32]++mkL y.data.toList++[10]))=bI (y.data.toList++[32]++mkL y.data.toList++[10]) from rfl,
   zcz (by simp only[List.length_append,List.length_cons,List.length_nil,List.length_map,zdr];omega) (by simp only[List.length_append,List.length_cons,List.length_nil,List.length_map,zdr];omega),zyo,zb4 (by omega)]
  have:=zrQ fu hl hs hN S E C r (p++[y]) n (b++(y.data.toList++[32]++mkL y.data.toList++[10])) (by simpa using h) (by simpa using h1) (by simp) (by simp only[List.length_append,List.length_cons,List.length_nil,zdr];omega)
  grind [zdg,mkL,List.length,mkd]
theorem zyk {N:Nat}(fu:FuM N){L:TL}(hl:L.length<=120)(hs:(zgE (dL L)).length<=20000)(hN:∀ y,y∈L->y.size<N)(S:TS)(E:TE)(C:TC):f23 (N+1) L S E C=some (strC (zgE (dL L))):=by
 have hb:=fu.big;obtain⟨M,rfl⟩:∃ M,N=M+1:=⟨N-1,by omega⟩
 have hsz:(zgE (dL L)).length=(hdL L.length).length+1+(cat 10 ((dL L).map mkd)).length:=by grind [zdg,zgE,pcsF]
 have hh:=(zvM hl).2.1;simp only[f23,f23b,zax]
 rw[zkk (by omega),zyo,show addS (strC [116,117,115,99,104,101,32]) (num L.length)=some (strC (hdL L.length)) from zdZ (b:=digs 7 L.length) (by have:=zjz 7 L.length;simp;omega),zyo,
  zdZ (by simp;omega),zyo,zyo,show zhl (strC (hdL L.length++[10]))=bI (hdL L.length++[10]) from rfl,zcz (by simp;omega) (by simp;omega),zyo,List.nil_append]
 have:=zrQ fu hl hs hN S E C L [] (M+1) (hdL L.length++[10]) rfl (by omega) (by simp) (by grind);refine Eq.trans this ?_;simp[zgE,pcsF,zdg]
end Go.Vc
namespace Go.Vc
open Go.Proofs
theorem zrR {y:ByteArray}{k:Int->Option ByteArray}:∀ (n:Nat) (s i:Int),zm3 y k n s i=zgD y k n s i
 | 0,_,_=>rfl
 | n+1,s,i=>by simp only[zm3,zq8,zgD,zlT,zrR n]
theorem zul {y:ByteArray}{k0:Int->Option Int}(hy:y.size<=1000):∀ (L:List Nat) (p:Bs) (n s:Nat),y.data.toList=p++L.map (λ d=>UInt8.ofNat (48+d))->L.length<n->s<10->(∀ d,d∈L->d<10)->zlK y k0 n (s:Int) (p.length:Int)=k0 (stN s L:Nat)
 | [],p,n,s,h,h1,h2,h3=>by
  obtain⟨n,rfl⟩:∃ q,n=q+1:=⟨n-1,by omega⟩
  have hs:y.size=p.length:=by rw[zbf h];simp
  simp only[zlK,zn2];rw[ltF (by omega),cond_false];rfl
 | d::L,p,n,s,h,h1,h2,h3=>by
  obtain⟨n,rfl⟩:∃ q,n=q+1:=⟨n-1,by omega⟩
  have hs:y.size=p.length+(L.length+1):=by rw[zbf h];simp
  have hd:=h3 d (by simp);have hb:=zdC (p:=p) (r:=L.map λ d=>UInt8.ofNat (48+d)) (b:=UInt8.ofNat (48+d)) (y:=y) (by simpa using h);rw[zry hd] at hb;have ih:=zul (k0:=k0) hy L (p++[UInt8.ofNat (48+d)]) n ((3*s+d) % 10) (by simpa using h) (by simpa using h1) (Nat.mod_lt _ (by omega)) (λ d hd=>h3 d (by simp[hd]))
  have e:Int.tmod (W ((W ((3:Int)*(s:Int)))+(Wk .u8 (((48+d:Nat):Int)-(48:Int))))) (10:Int)=(((3*s+d) % 10:Nat):Int):=by grind [W_of,zqd,Go.IntKind.min,Go.IntKind.max,Go.IntKind.signed,Go.IntKind.bits]
  simp only[zlK,zn2];rw[ltT (by omega),cond_true,idxS,if_pos ⟨by omega,by omega⟩,zyo,Int.toNat_natCast,hb,zb4 (by omega),e];simpa [stN] using ih
theorem ck_eq:∀ s:Nat,s<10->ckN s=(10-3*s % 10) % 10:=by decide
theorem ztz {m:Nat}(h:m<10000):digs 7 (m+10000)=49::(dg4 m).map λ d=>UInt8.ofNat (48+d):=by
 have e1:(m+10000) / 10 / 10 / 10 / 10=1:=by omega
 simp only[digs];rw[if_neg (by omega),if_neg (by omega),if_neg (by omega),if_neg (by omega),if_pos (by omega),e1];simp only[dg4,List.map_cons,List.map_nil,List.cons_append,List.nil_append,List.append_assoc];rw[show (m+10000) / 10 / 10 / 10 % 10=m / 1000 % 10 by omega,show (m+10000) / 10 / 10 % 10=m / 100 % 10 by omega,show (m+10000) / 10 % 10=m / 10 % 10 by omega,show (m+10000) % 10=m % 10 by omega];rfl
theorem zyl {N:Nat}(hN0:20<=N){y:ByteArray}(hy:y.size<=20000)(hN:y.size<N):f59 N y=some (strC (mkL y.data.toList)):=by
 have:=zne (k1:=zfU N) hy y.data.toList [] N 0 rfl (by simp_all) (by simp);unfold f59;rw[zax,zrR,show (0:Int)=((0:Nat):Int) from rfl,show ((0:Nat):Int)=((([]:Bs).length:Nat):Int) from rfl];rw[show zgD y (zfU N) N ((([]:Bs).length:Nat):Int) ((([]:Bs).length:Nat):Int)=zfU N ((0+smN 0 y.data.toList:Nat):Int) from this,Nat.zero_add];generalize hs:smN 0 y.data.toList=s;obtain⟨M,rfl⟩:∃ M,N=M+1:=⟨N-1,by omega⟩;have hm:s % 10000<10000:=Nat.mod_lt _ (by omega)
 have ht:W (Int.tmod (s:Int) 10000+10000)=((s % 10000+10000:Nat):Int):=by grind [W_of]
 let D:=(dg4 (s % 10000)).map λ d=>UInt8.ofNat (48+d)
 have hD:D.length=4:=by simp[D,dg4]
 have hn:num (s % 10000+10000)=strC ([49]++(D++[])):=by
  unfold num;rw[ztz hm];simp[D];rfl
 have hsz:(strC ([49]++(D++[]))).size=5:=by rw[zf0];simp[hD]
 have hsub:=zng (s:=strC ([49]++(D++[]))) (p:=[49]) (c:=D) (r:=[]) rfl
 have h86:f86 (M+1) (strC D)=some ((stN 0 (dg4 (s % 10000)):Nat):Int):=by
  have:=zul (y:=strC D) (k0:=ziI) (by rw[zf0,hD];omega) (dg4 (s % 10000)) [] (M+1) 0 rfl (by grind) (by omega) (λ d hd=>zrx hd);exact this
 have hst:stN 0 (dg4 (s % 10000))<10:=zrw _ (by omega);generalize hq:stN 0 (dg4 (s % 10000))=q at h86 hst
 have hck:Int.tmod (W ((10:Int)-(Int.tmod (W ((3:Int)*(q:Int))) (10:Int)))) (10:Int)=((ckN q:Nat):Int):=by grind [W_of,ck_eq]
 have hc9:ckN q<10:=by grind
 have hnum:num (ckN q)=strC [UInt8.ofNat (48+ckN q)]:=by
  unfold num;simp only[digs];rw[if_pos hc9];rfl
 unfold zfU;rw[ht];have hi:f30 (M+1) ((s % 10000+10000:Nat):Int)=some (num (s % 10000+10000)):=zkk (by omega);rw[hi,zyo,hn,hsz];rw[show ((5:Nat):Int)=((([49]:Bs)++D).length:Int) by simp[hD],show (1:Int)=((([49]:Bs).length:Nat):Int) from rfl,hsub,zyo,h86,zyo];have hi2:f30 (M+1) ((ckN q:Nat):Int)=some (num (ckN q)):=zkk (by omega);rw[hck];rw[hi2];rw[zyo,hnum];rw[zdZ (by simp[hD]),zyo]
 grind [mkL,UInt8.ofNat,ckN,dg5]
theorem zol {N:Nat}{L:TL}(hN0:20<=N)(hl:L.length<=120)(hs:∀ y,y∈L->y.size<=100/\y.size<N):∀ (r p:TL) (n:Nat) (b:Bs),p++r=L->r.length<n->b.length+120*r.length<=100000 ->
  zlS (zbi L) N zhQ n (strC b) (p.length:Int)=some (strC (b++cat 10 ((dL r).map mkd)))
 | [],p,n,b,h,h1,h2=>by
  obtain⟨n,rfl⟩:∃ q,n=q+1:=⟨n-1,by omega⟩
  have:L.length=p.length:=by grind
  simp only[zlS,zn8];rw[show (zbi L).lines=L from rfl,ltF (by omega),cond_false];simp[znj,zhQ]
 | y::r,p,n,b,h,h1,h2=>by
  obtain⟨n,rfl⟩:∃ q,n=q+1:=⟨n-1,by omega⟩
  have hlen:L.length=p.length+(r.length+1):=by grind
  have hy:L[p.length]? = some y:=by grind
  obtain⟨s1,s2⟩:=hs y (by rw[<- h];simp);have hys:=zbf (y:=y) rfl;simp only[List.length_cons] at h2;have ih:=zol hN0 hl hs r (p++[y]) n (b++(y.data.toList++[32]++mkL y.data.toList++[10])) (by simpa using h) (by simpa using h1) (by simp only[List.length_append,List.length_cons,List.length_nil,zdr];omega);simp only[zlS,zn8];rw[show (zbi L).lines=L from rfl,ltT (by omega),cond_true,zaW,hy,zyo];rw[show addS y (strC [32])=some (strC (y.data.toList++[32])) from zdZ (a:=y.data.toList) (by simp;omega),zyo,zyo,zyl hN0 (by omega) s2,zyo,zdZ (by simp[zdr];omega),zyo,zdZ (by simp[zdr];omega),zyo,zdZ (by simp[zdr];omega),zyo,zb4 (by omega)]
  grind [zdg,List.length,mkd]
theorem zym {N:Nat}(hN0:200<=N){L:TL}(hl:L.length<=120)(hs:∀ y,y∈L->y.size<=100/\y.size<N):f24 N (zbi L)=some (strC (zgE (dL L))):=by
 obtain⟨M,rfl⟩:∃ M,N=M+1:=⟨N-1,by omega⟩;have hh:=(zvM hl).2.1;have:=zol (by omega) hl hs L [] (M+1) (hdL L.length++[10]) rfl (by omega) (by simp;omega);unfold f24 f55;rw[zyo,show (!(zbi L).made)=false from rfl,cond_false,show (zbi L).lines=L from rfl,zkk (by omega),zyo,show addS (strC [116,117,115,99,104,101,32]) (num L.length)=some (strC (hdL L.length)) from zdZ (b:=digs 7 L.length) (by have:=zjz 7 L.length;simp;omega),zyo,zdZ (by simp;omega),zyo,zax];refine Eq.trans this ?_;simp[zgE,pcsF,zdg]
theorem zom:∀ {L:TL},(∀ y,y∈L->y.size<=100)->(cat 10 ((dL L).map mkd)).length<=107*L.length
 | [],_=>by simp[znj]
 | y::L,h=>by
  have ih:=zom λ z hz=>h z (List.mem_cons_of_mem _ hz);have h1:=h y (by simp)
  grind [zbf,zdg,List.length_append,List.length_cons,zrP]
theorem ztA {N:Nat}(fu:FuM N){L:TL}(hl:L.length<=120)(hs:∀ y,y∈L->y.size<=100)(S:TS)(E:TE)(C:TC)(h2:200<=N+1):f23 (N+1) L S E C=some (strC (zgE (dL L)))/\f24 (N+1) (zbi L)=some (strC (zgE (dL L))):=by
 have hh:=(zvM hl).2.1;have hf:=zom hs;have hb:=fu.big
 have hsz:(zgE (dL L)).length=(hdL L.length).length+1+(cat 10 ((dL L).map mkd)).length:=by grind [zdg,zgE,pcsF]
 grind [zyk,zym]
end Go.Vc
namespace Go.Vc
open Go.Proofs
theorem ztB {N:Nat}{L:TL}(h:L.length<N)(h2:L.length<=1000):f20 N L L=some true:=by
 have lp:∀ (m i n:Nat),L.length-i=m->i<=L.length->m<n->zlJ L L zhF n (i:Int)=some true:=by
  intro m
  induction m with
  | zero =>
   intro i n h1 h2 h3;obtain⟨n,rfl⟩:∃ q,n=q+1:=⟨n-1,by omega⟩;simp only[zlJ,zn1];rw[ltF (by omega),cond_false];rfl
  | succ m ih =>
   intro i n h1 h2 h3;obtain⟨n,rfl⟩:∃ q,n=q+1:=⟨n-1,by omega⟩
   have hi:i<L.length:=by omega
   simp only[zlJ,zn1];rw[ltT hi,cond_true,zeU hi,zyo,zyo,zoa,cond_false,zb4 (by omega)]
   grind
 unfold f20;rw[zoa,cond_false,zax];exact lp L.length 0 N rfl (by omega) h
theorem Made.small {M:Nat}(hM:60<=M){b:Bk}(h:Made M b):∀ y,y∈b.L->y.size<=40:=by
 induction h with
 | new=>grind [Bk.new]
 | @step b y r h1 h2 ih =>
  unfold goM
  split
  .rename_i he
   intro z hz
   rcases List.mem_append.1 hz with hz|hz
   .exact ih z hz
   .simp at hz;subst hz
    have h0:r.2=0:=by grind [errM]
    unfold f79 at h2
    grind
  .exact ih
theorem fu299:FuM 299:=zyj (by kernel_rfl) (by omega)
theorem zkm:f14 300=some true:=by kernel_rfl
end Go.Vc
namespace Go.Vc
open Go.Proofs
theorem zyn {b:Bk}(h:Made 298 b):zeZ 300 b.L b.L b.S b.E b.C=some true:=by
 have hb:=h.ok (by omega);have hl:=hb.ll;obtain⟨e1,e2⟩:=ztA fu299 hl (λ y hy=>by have:=h.small (by omega) y hy;omega) b.S b.E b.C (by omega);have h21:f21 300 b.L b.S b.E b.C=some b.L:=zxL (M:=299) hb;unfold zeZ f55;rw[h21,zyo,zyo,show (!(BookM.mk true b.L).made)=false from rfl,cond_false,zcz (by simp;omega) (by simp;omega),zyo,List.nil_append,ztB (by omega) (by omega),zyo,cond_true,e1,zyo,show f24 300 (BookM.mk true b.L)=_ from e2,zyo,decide_eq_true rfl,cond_true,zkm];rfl
theorem zvN {a0:TL}(hl:a0.length<=160):∀ (m i n:Nat) (b:Bk),a0.length-i=m->i<=a0.length->m<n->Made 298 b->f3_5 a0 300 (zeZ 300) n (i:Int) b.L b.L b.S b.E b.C=some true:=by
 intro m
 induction m with
 | zero =>
  intro i n b h1 h2 h3 h4;obtain⟨n,rfl⟩:∃ q,n=q+1:=⟨n-1,by omega⟩;simp only[f3_5,zte];rw[ltF (by omega),cond_false];exact zyn h4
 | succ m ih =>
  intro i n b h1 h2 h3 h4;obtain⟨n,rfl⟩:∃ q,n=q+1:=⟨n-1,by omega⟩
  have hi:i<a0.length:=by omega
  have hb:=h4.ok (by omega);have hll:=hb.ll;simp only[f3_5,zte,zax];rw[ltT hi,cond_true,zeU hi,zyo];by_cases h100:(100:Int)<(a0[i].size:Int)
  .rw [decide_eq_true h100,cond_true,zkm];rfl
  .rw [decide_eq_false h100,cond_false]
   obtain⟨r,h79,ho⟩:=zxO (N:=298) (y:=a0[i]) (by omega);have hw:=h4.would (N:=300) (by omega) (by omega) h79;have h17:f17 300 a0[i] b.L b.S b.E b.C=some (errM b r):=zug (M:=297) hb (by omega) h79 ho;have h18:f18 300 a0[i] b.L b.S b.E b.C=some (outM (errM b r) (goM b a0[i] r)):=zuh (M:=297) hb (by omega) h79 ho;have ih':=ih (i+1) n (goM b a0[i] r) (by omega) (by omega) (by omega) (.step h4 h79);unfold znb;rw[zeU hi,zyo,h17,zyo,zyo,h18,zyo,zyo,show f52 300 (BookM.mk true b.L) a0[i]=_ from hw,zyo,zb4 (by omega)];show (bif decide (¬ errM b r=errM b r) then _ else _)=_;rw[zoa,cond_false];by_cases he:errM b r=0
   .have hL:(goM b a0[i] r).L=b.L++[a0[i]]:=by unfold goM;rw[if_pos he]
    rw[decide_eq_true he,cond_true,zcz (by simp;omega) (by simp;omega),zyo];show (bif decide (¬ errM b r=errM b r) then _ else f3_5 a0 300 (zeZ 300) n _ (goM b a0[i] r).L (b.L++[a0[i]]) (goM b a0[i] r).S (goM b a0[i] r).E (goM b a0[i] r).C)=_
    grind
   .have hL:goM b a0[i] r=b:=by unfold goM;rw[if_neg he]
    rw[decide_eq_false he,cond_false];show (bif decide (¬ errM b r=errM b r) then _ else f3_5 a0 300 (zeZ 300) n _ (goM b a0[i] r).L b.L (goM b a0[i] r).S (goM b a0[i] r).E (goM b a0[i] r).C)=_
    grind
theorem ztC (a0:TL):f3 300 a0=some true:=by
 unfold f3;by_cases h:(160:Int)<(a0.length:Int)
 .rw [decide_eq_true h,cond_true,zkm];rfl
 .rw [decide_eq_false h,cond_false,zax]
  exact zvN (by omega) a0.length 0 300 Bk.new rfl (by omega) (by omega) .new
end Go.Vc
namespace Go.Vc
abbrev tLs:Ty := .slice .str false 1
theorem zrS {x:D}(h:tLs.hasD x):∃ l:List ByteArray,x=zaq l/\True:=by
 obtain⟨l,h1,_,_⟩:=zsP (d:=strN) (p:=λ _=>True) (ds:=[x]) (λ cs h=>by
  simp only[Ty.has] at h;obtain⟨s,rfl,_⟩:=h
  exact⟨s,rfl,trivial⟩) h
 exact⟨l,List.singleton_inj.1 h1,trivial⟩
end Go.Vc
namespace Go.Vc
open Go.Proofs
theorem lx_of {l:List (String×DataW Unit)} (h1:(l.filter λ x=>x.1 == "internal/strconv.uint64pow10")=[("internal/strconv.uint64pow10", Lib.tabData .u64 Lib.pow10Tab)]) {w:World} (h:laidMetH Tryz.prog l w.memory):LX Tryz.prog w:=by
 have h2:=laidMetH.filter (λ x=>x.1 == "internal/strconv.uint64pow10") h
 rw[h1,MakeChecks.laidMetH_plain _ _ _ (by rfl)] at h2;exact LX.heap (w:=w.memory) (Lib.tabIs_of_head (g:=0) (t:=226) (e:=182) (n:=20) (by kernel_rfl) (by kernel_rfl) (by kernel_rfl) (by kernel_rfl) (by kernel_rfl) (by kernel_rfl) h2) rfl
end Go.Vc

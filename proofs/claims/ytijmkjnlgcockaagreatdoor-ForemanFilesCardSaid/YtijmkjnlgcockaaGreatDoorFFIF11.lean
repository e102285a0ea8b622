/-
  A library for proofs about Go functions by symbolic evaluation,and plain Lean functions that the walked Go functions compute (written by a program of this claim).
-/
import Derived.Test.YtijmkjnlgcockaaGreatDoorFFIF9
import Derived.Test.YtijmkjnlgcockaaGreatDoorFFIF10
import Derived.Test.YtijmkjnlgcockaaGreatDoorFFIF5
import Derived.Test.YtijmkjnlgcockaaGreatDoorFFIF7
import Derived.Test.YtijmkjnlgcockaaGreatDoorVc4
import Derived.Test.YtijmkjnlgcockaaGreatDoorFFIF1
import Derived.Test.YtijmkjnlgcockaaGreatDoorVc3
import Derived.Test.YtijmkjnlgcockaaGreatDoorProg
import Derived.LaidSub
import Derived.MakeChecks
set_option linter.unusedVariables false
set_option linter.unnecessarySimpa false
set_option linter.unusedSimpArgs false
namespace Go.Vc
open Go.Proofs
theorem zs7:f14 5000=some true:=by kernel_rfl
def fum (N:Nat):Bool:=match f84 N,f116 N dT with
 | some t,some z=>decide (t=dT)&&decide (z=0)
 | _,_=>false
theorem zw {N:Nat}(h:fum N=true)(hN:130<=N):FuM N:=by
 unfold fum at h
 split at h
 .rename_i t z h1 h2
  rw[zAr,decide_eq_true_eq,decide_eq_true_eq] at h;exact⟨hN,by rw[h1,h.1],by rw[h2,h.2]⟩
 .cases h
theorem fu5:FuM 5000:=zw (by kernel_rfl) (by omega)
theorem fu4:FuM 4999:=zw (by kernel_rfl) (by omega)
abbrev dL (L:TL):List Bs:=L.map λ y=>y.data.toList
theorem zqr (l:Bs):strB (l.map λ b=>(b.toNat:Int))=strC l:=by
 simp_all [List.map_map,List.map_id,List.map_congr_left,strB,strC]
abbrev bI (l:Bs):List Int:=l.map λ b=>(b.toNat:Int)
theorem zdE {a b:Bs}(h:a.length+b.length<=1000000):addS (strC a) (strC b)=some (strC (a++b)):=by
 rw[addS,if_pos]
 .rw [<- zi1 (strC a++strC b)]
  congr 2
 grind [zcc,strC,Go.maxLen]
theorem zs8 (l:Bs):(mkd l).length=l.length+6:=by simp[mkd,zdW]
theorem zs9 {N:Nat}(fu:FuM N){L:TL}(hl:L.length<=120)(hs:(zhC (dL L)).length<=20000)(hN:∀ y,y∈L->y.size<N):∀ (S:TS) (E:TE) (C:TC) (r p:TL) (n:Nat) (b:Bs),p++r=L->r.length<n->b≠[]->b.length+(cat 10 ((dL r).map mkd)).length<=20000 ->
  zm0 L S E C N (zf9 L S E C) n (p.length:Int) (bI b)=some (strC (b++cat 10 ((dL r).map mkd)))
 | S,E,C,[],p,n,b,h,h1,h2,h3=>by
  obtain⟨n,rfl⟩:∃ q,n=q+1:=⟨n-1,by omega⟩
  have:L.length=p.length:=by grind
  have hb:bI b≠[]:=by simpa using h2
  have hb2:¬ (bI b).length=0:=λ h=>hb (List.eq_nil_of_length_eq_zero h);simp only[zm0,zpg];rw[ltF (by omega),cond_false,zf9,neN,if_neg hb2,zAl,zAl,zAl,zqr];simp[zoo]
 | S,E,C,y::r,p,n,b,h,h1,h2,h3=>by
  obtain⟨n,rfl⟩:∃ q,n=q+1:=⟨n-1,by omega⟩
  have hlen:L.length=p.length+(r.length+1):=by grind
  have hy:L[p.length]? = some y:=by grind
  have hm:y∈L:=by grind
  rw[show (dL (y::r)).map mkd=mkd y.data.toList::(dL r).map mkd from rfl,zdD,List.length_append,List.length_cons,zs8] at h3;have hys:=zaE (y:=y) rfl;simp only[zm0,zpg];rw[ltT (by omega),cond_true,zaU,hy,zAl];have hN':=hN y hm
  rw[show addS y (strC [32])=some (strC (y.data.toList++[32])) from zdE (a:=y.data.toList) (by grind),zAl,zv5 fu (by omega) hN',zAl,
   zdE (by simp only[List.length_append,List.length_cons,List.length_nil,List.length_map,zdW];omega),zAl,zdE (by simp only[List.length_append,List.length_cons,List.length_nil,List.length_map,zdW];omega),zAl,zAl,
   show zgw (strC (y.data.toList++[32]++mkL y.data.toList++[10]))=bI (y.data.toList++[32]++mkL y.data.toList++[10]) from rfl,
   zcp (by simp only[List.length_append,List.length_cons,List.length_nil,List.length_map,zdW];omega) (by simp only[List.length_append,List.length_cons,List.length_nil,List.length_map,zdW];omega),zAl,zbE (by omega)]
  have:=zs9 fu hl hs hN S E C r (p++[y]) n (b++(y.data.toList++[32]++mkL y.data.toList++[10])) (by simpa using h) (by simpa using h1) (by simp) (by simp only[List.length_append,List.length_cons,List.length_nil,zdW];omega)
  grind [zdD,mkL,List.length,mkd]
theorem zAe {N:Nat}(fu:FuM N){L:TL}(hl:L.length<=120)(hs:(zhC (dL L)).length<=20000)(hN:∀ y,y∈L->y.size<N)(S:TS)(E:TE)(C:TC):f23 (N+1) L S E C=some (strC (zhC (dL L))):=by
 have hb:=fu.big;obtain⟨M,rfl⟩:∃ M,N=M+1:=⟨N-1,by omega⟩
 have hsz:(zhC (dL L)).length=(hdL L.length).length+1+(cat 10 ((dL L).map mkd)).length:=by grind [zdD,zhC,pcsF]
 have hh:=(zxE hl).2.1;simp only[f23,f23b,zap]
 rw[zhb (by omega),zAl,show addS (strC [116,117,115,99,104,101,32]) (num L.length)=some (strC (hdL L.length)) from zdE (b:=digs 7 L.length) (by have:=zgz 7 L.length;simp;omega),zAl,
  zdE (by simp;omega),zAl,zAl,show zgw (strC (hdL L.length++[10]))=bI (hdL L.length++[10]) from rfl,zcp (by simp;omega) (by simp;omega),zAl,List.nil_append]
 have:=zs9 fu hl hs hN S E C L [] (M+1) (hdL L.length++[10]) rfl (by omega) (by simp) (by grind);refine Eq.trans this ?_;simp[zhC,pcsF,zdD]
end Go.Vc
namespace Go.Vc
open Go.Proofs
theorem zt {y:ByteArray}{k:Int->Option ByteArray}:∀ (n:Nat) (s i:Int),zoa y k n s i=zhB y k n s i
 | 0,_,_=>rfl
 | n+1,s,i=>by simp only[zoa,zsk,zhB,zmZ,zt n]
theorem zta {y:ByteArray}{k0:Int->Option Int}(hy:y.size<=1000):∀ (L:List Nat) (p:Bs) (n s:Nat),y.data.toList=p++L.map (λ d=>UInt8.ofNat (48+d))->L.length<n->s<10->(∀ d,d∈L->d<10)->zmP y k0 n (s:Int) (p.length:Int)=k0 (stN s L:Nat)
 | [],p,n,s,h,h1,h2,h3=>by
  obtain⟨n,rfl⟩:∃ q,n=q+1:=⟨n-1,by omega⟩
  have hs:y.size=p.length:=by rw[zaE h];simp
  simp only[zmP,zo9];rw[ltF (by omega),cond_false];rfl
 | d::L,p,n,s,h,h1,h2,h3=>by
  obtain⟨n,rfl⟩:∃ q,n=q+1:=⟨n-1,by omega⟩
  have hs:y.size=p.length+(L.length+1):=by rw[zaE h];simp
  have hd:=h3 d (by simp);have hb:=zbo (p:=p) (r:=L.map λ d=>UInt8.ofNat (48+d)) (b:=UInt8.ofNat (48+d)) (y:=y) (by simpa using h);rw[zna hd] at hb;have ih:=zta (k0:=k0) hy L (p++[UInt8.ofNat (48+d)]) n ((3*s+d) % 10) (by simpa using h) (by simpa using h1) (Nat.mod_lt _ (by omega)) (λ d hd=>h3 d (by simp[hd]))
  have e:Int.tmod (W ((W ((3:Int)*(s:Int)))+(Wk .u8 (((48+d:Nat):Int)-(48:Int))))) (10:Int)=(((3*s+d) % 10:Nat):Int):=by grind [W_of,zq,Go.IntKind.min,Go.IntKind.max,Go.IntKind.signed,Go.IntKind.bits]
  simp only[zmP,zo9];rw[ltT (by omega),cond_true,idxS,if_pos ⟨by omega,by omega⟩,zAl,Int.toNat_natCast,hb,zbE (by omega),e];simpa [stN] using ih
theorem ck_eq:∀ s:Nat,s<10->ckN s=(10-3*s % 10) % 10:=by decide
theorem zu9 {m:Nat}(h:m<10000):digs 7 (m+10000)=49::(dg4 m).map λ d=>UInt8.ofNat (48+d):=by
 have e1:(m+10000) / 10 / 10 / 10 / 10=1:=by omega
 simp only[digs];rw[if_neg (by omega),if_neg (by omega),if_neg (by omega),if_neg (by omega),if_pos (by omega),e1];simp only[dg4,List.map_cons,List.map_nil,List.cons_append,List.nil_append,List.append_assoc];rw[show (m+10000) / 10 / 10 / 10 % 10=m / 1000 % 10 by omega,show (m+10000) / 10 / 10 % 10=m / 100 % 10 by omega,show (m+10000) / 10 % 10=m / 10 % 10 by omega,show (m+10000) % 10=m % 10 by omega];rfl
theorem zwa {N:Nat}(hN0:20<=N){y:ByteArray}(hy:y.size<=20000)(hN:y.size<N):f59 N y=some (strC (mkL y.data.toList)):=by
 have:=zok (k1:=zgH N) hy y.data.toList [] N 0 rfl (by simp_all) (by simp);unfold f59;rw[zap,zt,show (0:Int)=((0:Nat):Int) from rfl,show ((0:Nat):Int)=((([]:Bs).length:Nat):Int) from rfl];rw[show zhB y (zgH N) N ((([]:Bs).length:Nat):Int) ((([]:Bs).length:Nat):Int)=zgH N ((0+smN 0 y.data.toList:Nat):Int) from this,Nat.zero_add];generalize hs:smN 0 y.data.toList=s;obtain⟨M,rfl⟩:∃ M,N=M+1:=⟨N-1,by omega⟩;have hm:s % 10000<10000:=Nat.mod_lt _ (by omega)
 have ht:W (Int.tmod (s:Int) 10000+10000)=((s % 10000+10000:Nat):Int):=by grind [W_of]
 let D:=(dg4 (s % 10000)).map λ d=>UInt8.ofNat (48+d)
 have hD:D.length=4:=by simp[D,dg4]
 have hn:num (s % 10000+10000)=strC ([49]++(D++[])):=by
  unfold num;rw[zu9 hm];simp[D];rfl
 have hsz:(strC ([49]++(D++[]))).size=5:=by rw[zcc];simp[hD]
 have hsub:=zga (s:=strC ([49]++(D++[]))) (p:=[49]) (c:=D) (r:=[]) rfl
 have h86:f86 (M+1) (strC D)=some ((stN 0 (dg4 (s % 10000)):Nat):Int):=by
  have:=zta (y:=strC D) (k0:=ziD) (by rw[zcc,hD];omega) (dg4 (s % 10000)) [] (M+1) 0 rfl (by grind) (by omega) (λ d hd=>zsO hd);exact this
 have hst:stN 0 (dg4 (s % 10000))<10:=zsL _ (by omega);generalize hq:stN 0 (dg4 (s % 10000))=q at h86 hst
 have hck:Int.tmod (W ((10:Int)-(Int.tmod (W ((3:Int)*(q:Int))) (10:Int)))) (10:Int)=((ckN q:Nat):Int):=by grind [W_of,ck_eq]
 have hc9:ckN q<10:=by grind
 have hnum:num (ckN q)=strC [UInt8.ofNat (48+ckN q)]:=by
  unfold num;simp only[digs];rw[if_pos hc9];rfl
 unfold zgH;rw[ht];have hi:f30 (M+1) ((s % 10000+10000:Nat):Int)=some (num (s % 10000+10000)):=zhb (by omega);rw[hi,zAl,hn,hsz];rw[show ((5:Nat):Int)=((([49]:Bs)++D).length:Int) by simp[hD],show (1:Int)=((([49]:Bs).length:Nat):Int) from rfl,hsub,zAl,h86,zAl];have hi2:f30 (M+1) ((ckN q:Nat):Int)=some (num (ckN q)):=zhb (by omega);rw[hck];rw[hi2];rw[zAl,hnum];rw[zdE (by simp[hD]),zAl]
 grind [mkL,UInt8.ofNat,ckN,dg5]
theorem zpu {N:Nat}{L:TL}(hN0:20<=N)(hl:L.length<=120)(hs:∀ y,y∈L->y.size<=100/\y.size<N):∀ (r p:TL) (n:Nat) (b:Bs),p++r=L->r.length<n->b.length+120*r.length<=100000 ->
  zmX (zbk L) N ziO n (strC b) (p.length:Int)=some (strC (b++cat 10 ((dL r).map mkd)))
 | [],p,n,b,h,h1,h2=>by
  obtain⟨n,rfl⟩:∃ q,n=q+1:=⟨n-1,by omega⟩
  have:L.length=p.length:=by grind
  simp only[zmX,zpe];rw[show (zbk L).lines=L from rfl,ltF (by omega),cond_false];simp[zoo,ziO]
 | y::r,p,n,b,h,h1,h2=>by
  obtain⟨n,rfl⟩:∃ q,n=q+1:=⟨n-1,by omega⟩
  have hlen:L.length=p.length+(r.length+1):=by grind
  have hy:L[p.length]? = some y:=by grind
  obtain⟨s1,s2⟩:=hs y (by rw[<- h];simp);have hys:=zaE (y:=y) rfl;simp only[List.length_cons] at h2;have ih:=zpu hN0 hl hs r (p++[y]) n (b++(y.data.toList++[32]++mkL y.data.toList++[10])) (by simpa using h) (by simpa using h1) (by simp only[List.length_append,List.length_cons,List.length_nil,zdW];omega);simp only[zmX,zpe];rw[show (zbk L).lines=L from rfl,ltT (by omega),cond_true,zaU,hy,zAl];rw[show addS y (strC [32])=some (strC (y.data.toList++[32])) from zdE (a:=y.data.toList) (by simp;omega),zAl,zAl,zwa hN0 (by omega) s2,zAl,zdE (by simp[zdW];omega),zAl,zdE (by simp[zdW];omega),zAl,zdE (by simp[zdW];omega),zAl,zbE (by omega)]
  grind [zdD,List.length,mkd]
theorem zAf {N:Nat}(hN0:200<=N){L:TL}(hl:L.length<=120)(hs:∀ y,y∈L->y.size<=100/\y.size<N):f24 N (zbk L)=some (strC (zhC (dL L))):=by
 obtain⟨M,rfl⟩:∃ M,N=M+1:=⟨N-1,by omega⟩;have hh:=(zxE hl).2.1;have:=zpu (by omega) hl hs L [] (M+1) (hdL L.length++[10]) rfl (by omega) (by simp;omega);unfold f24 f55;rw[zAl,show (!(zbk L).made)=false from rfl,cond_false,show (zbk L).lines=L from rfl,zhb (by omega),zAl,show addS (strC [116,117,115,99,104,101,32]) (num L.length)=some (strC (hdL L.length)) from zdE (b:=digs 7 L.length) (by have:=zgz 7 L.length;simp;omega),zAl,zdE (by simp;omega),zAl,zap];refine Eq.trans this ?_;simp[zhC,pcsF,zdD]
theorem zpv:∀ {L:TL},(∀ y,y∈L->y.size<=100)->(cat 10 ((dL L).map mkd)).length<=107*L.length
 | [],_=>by simp[zoo]
 | y::L,h=>by
  have ih:=zpv λ z hz=>h z (List.mem_cons_of_mem _ hz);have h1:=h y (by simp)
  grind [zaE,zdD,List.length_append,List.length_cons,zs8]
theorem zva {N:Nat}(fu:FuM N){L:TL}(hl:L.length<=120)(hs:∀ y,y∈L->y.size<=100)(S:TS)(E:TE)(C:TC)(h2:200<=N+1):f23 (N+1) L S E C=some (strC (zhC (dL L)))/\f24 (N+1) (zbk L)=some (strC (zhC (dL L))):=by
 have hh:=(zxE hl).2.1;have hf:=zpv hs;have hb:=fu.big
 have hsz:(zhC (dL L)).length=(hdL L.length).length+1+(cat 10 ((dL L).map mkd)).length:=by grind [zdD,zhC,pcsF]
 grind [zAe,zAf]
end Go.Vc
namespace Go.Vc
open Go.Proofs
theorem zvb {N:Nat}{L:TL}(h:L.length<N)(h2:L.length<=1000):f20 N L L=some true:=by
 have lp:∀ (m i n:Nat),L.length-i=m->i<=L.length->m<n->zmO L L ziC n (i:Int)=some true:=by
  intro m
  induction m with
  | zero =>
   intro i n h1 h2 h3;obtain⟨n,rfl⟩:∃ q,n=q+1:=⟨n-1,by omega⟩;simp only[zmO,zo8];rw[ltF (by omega),cond_false];rfl
  | succ m ih =>
   intro i n h1 h2 h3;obtain⟨n,rfl⟩:∃ q,n=q+1:=⟨n-1,by omega⟩
   have hi:i<L.length:=by omega
   simp only[zmO,zo8];rw[ltT hi,cond_true,zhm hi,zAl,zAl,zdp,cond_false,zbE (by omega)]
   grind
 unfold f20;rw[zdp,cond_false,zap];exact lp L.length 0 N rfl (by omega) h
theorem Made.small {M:Nat}(hM:60<=M){b:Bk}(h:Made M b):∀ y,y∈b.L->y.size<=40:=by
 induction h with
 | new=>grind [Bk.new]
 | @step b y r h1 h2 ih =>
  unfold goM
  split
  .rename_i he
   intro z hz
   rcases List.mem_append.1 hz with hz|hz
   .exact ih z hz
   .simp at hz;subst hz
    have h0:r.2=0:=by grind [errM]
    unfold f79 at h2
    grind
  .exact ih
end Go.Vc
namespace Go.Vc
open Go.Proofs
theorem zop (l:Bs):Lib.hasSuffix l [10]=true ↔ ∃ t,l=t++[10]:=by
 unfold Lib.hasSuffix;rw[List.isSuffixOf_iff_suffix];exact⟨λ ⟨t,h⟩=>⟨t,h.symm⟩,λ ⟨t,h⟩=>⟨t,h.symm⟩⟩
end Go.Vc
namespace Go.Vc
open Go.Proofs
theorem zpw {y:ByteArray}{k0:Option (ByteArray×Int)}(hy:y.size<=20000):∀ (r p:Bs) (n:Nat),y.data.toList=p++r->r.length<n->zmY y k0 n (p.length:Int)=if r.all dgB then k0 else some (zaz,9)
 | [],p,n,h,h1=>by
  obtain⟨n,rfl⟩:∃ q,n=q+1:=⟨n-1,by omega⟩
  have hs:y.size=p.length:=by rw[zaE h];simp
  simp_all [ltF,cond_false,zmY,zpf]
 | b::r,p,n,h,h1=>by
  obtain⟨n,rfl⟩:∃ q,n=q+1:=⟨n-1,by omega⟩
  have hs:y.size=p.length+(r.length+1):=by rw[zaE h];simp
  have hb:=zbo h;have ih:=zpw (k0:=k0) hy r (p++[b]) n (by simpa using h) (by simpa using h1);simp only[zmY,zpf];rw[ltT (by omega),cond_true,idxS,if_pos ⟨by omega,by omega⟩,zAl,Int.toNat_natCast,hb,zAl,zbE (by omega),List.all_cons];rw[List.length_append] at ih;by_cases hd:dgB b=true
  .have hd':=hd
   simp only[dgB,zAr,decide_eq_true_eq] at hd'
   grind
  .rw [Bool.eq_false_iff.2 hd,Bool.false_and,if_neg (by simp)]
   simp only[dgB,zAr,decide_eq_true_eq] at hd
   grind
theorem zwb:∀ {t:Bs},t.all dgB=true->(t.map dgV).map (λ d=>UInt8.ofNat (48+d))=t
 | [],_=>rfl
 | b::t,h=>by
  rw[List.all_cons,zAr] at h;have h1:=h.1;simp only[dgB,zAr,decide_eq_true_eq] at h1;rw[List.map_cons,List.map_cons,zwb h.2]
  grind [UInt8.toNat_inj,zna,zsR,dgV]
theorem zAg {N:Nat}{t:Bs}(h:t.all dgB=true)(hl:t.length<=100)(hN:t.length<N):f86 N (strC t)=some ((stN 0 (t.map dgV):Nat):Int):=by
 have:=zta (y:=strC t) (k0:=ziD) (by rw[zcc];omega) (t.map dgV) [] N 0 (by rw[zcD,zwb h];rfl) (by simpa using hN) (by omega) (λ d hd=>by
  grind [zsR,List.all_eq_true])
 exact this
theorem zAh {N:Nat}(hN0:20<=N){y:ByteArray}{l t:Bs}(h:y.data.toList=l++32::t)(h5:t.length=5)(hy:y.size<=20000)(hN:y.size<N):f76 N y=some (umV l t):=by
 have hsz:=zaE h;simp only[List.length_append,List.length_cons] at hsz;have hb:=zbo h
 have hw:W ((y.size:Int)-6)=(l.length:Int):=by grind [zaK]
 have hs8:subS y ((l.length+1:Nat):Int) (y.size:Int)=some (strC t):=by
  have:=zga (s:=y) (p:=l++[32]) (c:=t) (r:=[]) (by simpa using h);simp only[List.length_append,List.length_singleton] at this
  grind
 have hs4:subS y 0 (l.length:Int)=some (strC l):=by
  have:=zga (s:=y) (p:=[]) (c:=l) (r:=32::t) (by simpa using h);simpa using this
 unfold f76;rw[hw,decide_eq_false (by omega),cond_false,idxS,if_pos ⟨by omega,by omega⟩,zAl,Int.toNat_natCast,hb,show ((32:UInt8).toNat:Int)=32 from rfl,zdp,cond_false,zap,zbE (by omega)];have hl:=zpw (k0:=zht y N) hy t (l++[32]) N (by simpa using h) (by omega);rw[List.length_append] at hl;refine Eq.trans hl ?_;unfold umV;by_cases hd:t.all dgB=true
 .rw [if_pos hd,if_pos hd]
  unfold zht;rw[hw,zbE (by omega),hs8,zAl,zAg hd (by omega) (by omega),zAl];by_cases h0:stN 0 (t.map dgV)=0
  .rw [if_pos h0,h0,show ((0:Nat):Int)=0 from rfl,zdp,cond_false,hs4,zAl,zwa hN0 (by rw[zcc];omega) (by rw[zcc];omega),zAl,zAl,zcD]
   by_cases hm:mkL l=t
   .grind
   .rw [decide_eq_true (by rw[zhP];exact hm),cond_true,if_neg hm]
  grind
 grind
theorem zoq {N:Nat}(fu:FuM N){y:ByteArray}(hy:y.size<=20000)(hN:y.size<N)(hn:∀ l t,y.data.toList=l++32::t->(32:UInt8) ∉ t->t.length≠5):f75 N y=some (zaz,9):=by
 have hb:=fu.big;obtain⟨M,rfl⟩:∃ M,N=M+1:=⟨N-1,by omega⟩
 rcases zjY y with ⟨_,h⟩|⟨l,t,h,ht,hx⟩
 .have h100:f100 (M+1) y 32=some (-1):=by
   unfold f100;dsimp only
   grind
  grind [f75]
 .have h5:=hn l t h ht
  have hsz:=zaE h;simp only[List.length_append,List.length_cons] at hsz
  have h100:f100 (M+1) y 32=some (l.length:Int):=by
   unfold f100;dsimp only
   grind
  have hw1:W (W ((y.size:Int)-(l.length:Int))-1)=(t.length:Int):=by grind [zaK]
  unfold f75
  grind
theorem zAi {N:Nat}(fu:FuM N){y:ByteArray}(hy:y.size<=20000)(hN:y.size<N):f76 N y=f75 N y:=by
 have hb:=fu.big;by_cases h6:y.size<6
 .rw [zoq fu hy hN (λ l t h _ h5=>by have:=zaE h;grind)]
  unfold f76;rw[zaK (by omega) (by omega),decide_eq_true (by omega),cond_true]
 .obtain ⟨l,b,t,h,h5⟩:∃ l b t,y.data.toList=l++b::t/\t.length=5:=by
   have hl:y.data.toList.length=y.size:=(zaE rfl).symm;refine⟨y.data.toList.take (y.size-6),y.data.toList[y.size-6],y.data.toList.drop (y.size-5), ?_,by grind⟩;have := @List.getElem_cons_drop _ y.data.toList (y.size-6) (by omega);rw[show y.size-6+1=y.size-5 by omega] at this;rw[this,List.take_append_drop]
  by_cases hb32:b=32
  .subst hb32
   rw[zAh (by omega) h h5 hy hN];by_cases ht:(32:UInt8)∈t
   .rw [zoq fu hy hN (λ l' t' h' ht' h5' => ?_)]
    .unfold umV
     rw[if_neg];intro ha;have:=List.all_eq_true.1 ha _ ht;simp[dgB] at this
    .have:=h.symm.trans h'
     have e:=List.append_inj' this (by simp;omega);simp only[List.cons.injEq,true_and] at e;rw[<- e.2] at ht';exact ht' ht
   .exact (zv6 fu h ht h5 hy hN).symm
  .rw [zoq fu hy hN (λ l' t' h' ht' h5' => ?_)]
   .have hsz:=zaE h
    simp only[List.length_append,List.length_cons] at hsz;have hq:=zbo h
    have hw:W ((y.size:Int)-6)=(l.length:Int):=by rw[zaK (by omega) (by omega)];omega
    unfold f76;rw[hw,decide_eq_false (by omega),cond_false,idxS,if_pos ⟨by omega,by omega⟩,zAl,Int.toNat_natCast,hq,decide_eq_true (p:=¬ ((b.toNat:Int)=32)) (λ hc=>hb32 (UInt8.toNat_inj.1 (by grind))),cond_true]
   grind [List.append_inj',List.cons.injEq]
end Go.Vc
namespace Go.Vc
open Go.Proofs
def rfV (N:Nat)(e0 e:Int):Option Bool:=bif decide (¬ e0=e) then some false else (f14 N).bind λ x=>some x
def rfB (N:Nat)(V:Int->Option Bool)(l:TL)(k:TL->Option Bool)(r:Int->TL->Option Bool)(i:Int)(L:TL):Option Bool :=
 bif decide (i<(List.length l:Int)) then ((ix l i).bind λ y=>(f76 N y).bind λ u =>
  bif decide (u.2=(0:Int)) then ((f52 N (BookM.mk true L) u.1).bind λ e =>
   bif decide (e=(0:Int)) then ((app 16 L [u.1]).bind λ q=>bif decide (¬ e=(0:Int)) then V e else r (W (i+(1:Int))) q)
   else (bif decide (¬ e=(0:Int)) then V e else r (W (i+(1:Int))) L))
  else (bif decide (¬ u.2=(0:Int)) then V u.2 else r (W (i+(1:Int))) L))
 else k L
def rfL (N:Nat)(V:Int->Option Bool)(l:TL)(k:TL->Option Bool):Nat->Int->TL->Option Bool
 | 0,_,_=>none
 | n+1,i,L=>rfB N V l k (rfL N V l k n) i L
def rfC (N:Nat)(V:Int->Option Bool)(k:TL->Option Bool)(l:TL):Option Bool :=
 (ix l (0:Int)).bind λ x=>(f30 N (W ((List.length l:Int)-(1:Int)))).bind λ y=>(addS (strC [116,117,115,99,104,101,32]) y).bind λ z =>
  bif decide (¬ x=z) then V 9 else rfL N V l k N (1:Int) []
section
variable {N:Nat} {a0:ByteArray} {b1:TL} {S:TS} {E:TE} {C:TC} {l:TL} {k:TL->Option Bool} {e9:Int} {x63:Int×TS×TE×TC×TL}
theorem l1:∀ n i L,zbV N l k n i L=rfL N (rfV N 9) l k n i L
 | 0,_,_=>rfl
 | n+1,i,L=>by simp only[zbV,zev,rfL,rfB,l1 n,rfV]
def rfV0 (e:Int):Option Bool:=bif decide (¬ (0:Int)=e) then some false else some false
theorem l2:∀ n i L,zbW N b1 S E C l k n i L=rfL N rfV0 l k n i L
 | 0,_,_=>rfl
 | n+1,i,L=>by simp only[zbW,zew,rfL,rfB,l2 n,rfV0]
theorem l3:∀ n i L,zbY N x63 l k n i L=rfL N (rfV N x63.1) l k n i L
 | 0,_,_=>rfl
 | n+1,i,L=>by simp only[zbY,zex,rfL,rfB,l3 n,rfV]
theorem l4:∀ n i L,zbZ N b1 S E C e9 l k n i L=rfL N (rfV N e9) l k n i L
 | 0,_,_=>rfl
 | n+1,i,L=>by simp only[zbZ,zey,rfL,rfB,l4 n,rfV]
theorem s1:∀ n v i j,zcl a0 k n v i j=zaW a0 k n v i j
 | 0,_,_,_=>rfl
 | n+1,v,i,j=>by simp only[zcl,ze3,zaW,zb3,s1 n]
theorem s2:∀ n v i j,zcm a0 b1 S E C k n v i j=zaW a0 k n v i j
 | 0,_,_,_=>rfl
 | n+1,v,i,j=>by simp only[zcm,ze4,zaW,zb3,s2 n]
theorem s3:∀ n v i j,zcn a0 x63 k n v i j=zaW a0 k n v i j
 | 0,_,_,_=>rfl
 | n+1,v,i,j=>by simp only[zcn,ze6,zaW,zb3,s3 n]
theorem s4:∀ n v i j,zco a0 b1 S E C k n v i j=zaW a0 k n v i j
 | 0,_,_,_=>rfl
 | n+1,v,i,j=>by simp only[zco,ze7,zaW,zb3,s4 n]
theorem ztb (hy:a0.size<=20000):∀ (r p c:Bs) (n:Nat) (v:TL),a0.data.toList=p++(c++(r++[10]))->r.length+1<n->v.length+r.length<=20000->(10:UInt8) ∉ c ->
  zaW a0 k n v (p.length:Int) ((p++c).length:Int)=k (v++(match zaX 10 r with|[]=>[]|x::q=>(c++x)::q).map strC)
 | [],p,c,n,v,h,h1,h2,h3=>by
  obtain⟨n,rfl⟩:∃ q,n=q+2:=⟨n-2,by simp at h1;omega⟩
  have hs:a0.size=(p++c).length+1:=by rw[zaE h];simp;omega
  have hb:=zbo (y:=a0) (p:=p++c) (r:=[]) (b:=10) (by simpa using h);have hsub:=zga (s:=a0) (p:=p) (c:=c) (r:=[10]) (by simpa using h)
  have e1:zaW a0 k (n+2) v (p.length:Int) ((p++c).length:Int)=zaW a0 k (n+1) (v++[strC c]) ((((p++c).length+1:Nat)):Int) ((((p++c).length+1:Nat)):Int):=by
   rw[zaW,zb3,ltT (by omega),cond_true,idxS,if_pos ⟨by omega,by omega⟩,zAl,Int.toNat_natCast,hb,show ((10:UInt8).toNat:Int)=10 from rfl,decide_eq_true rfl,cond_true,hsub,zAl,zcp (by simp;omega) (by simp;omega),zAl,zbE (by omega)]
  rw[e1,zaW,zb3,ltF (by omega),cond_false];simp[zaX]
 | b::r,p,c,n,v,h,h1,h2,h3=>by
  obtain⟨n,rfl⟩:∃ q,n=q+1:=⟨n-1,by omega⟩
  have hs:a0.size=(p++c).length+(r.length+2):=by rw[zaE h];simp;omega
  have hb:=zbo (y:=a0) (p:=p++c) (r:=r++[10]) (b:=b) (by simpa using h);have hsub:=zga (s:=a0) (p:=p) (c:=c) (r:=b::r++[10]) (by simpa using h);simp only[List.length_cons] at h1 h2
  have hsp:zaX 10 (b::r)=if b=10 then []::zaX 10 r else (match zaX 10 r with|[]=>[[b]]|x::t=>(b::x)::t):=by
   simp only[zaX,zaC];by_cases hb10:b=10
   .simp [hb10]
   .have hq:(b == 10)=false:=by simpa using hb10
    rw[hq,if_neg hb10];cases zaX 10 r <;> rfl
  rw[zaW,zb3,ltT (by omega),cond_true,idxS,if_pos ⟨by omega,by omega⟩,zAl,Int.toNat_natCast,hb,hsp];by_cases hb10:b=10
  .subst hb10
   rw[show ((10:UInt8).toNat:Int)=10 from rfl,decide_eq_true rfl,cond_true,hsub,zAl,zcp (by simp;omega) (by simp;omega),zAl,zbE (by omega),if_pos rfl];have ih:=ztb hy r (p++c++[10]) [] n (v++[strC c]) (by simpa using h) (by omega) (by simp;omega) (by simp);simp only[List.append_nil,List.length_append,List.length_singleton] at ih ⊢;refine ih.trans ?_
   cases hq:zaX 10 r with
   | nil=>exact absurd hq (zdl _ _)
   | cons x t=>simp
  .rw [decide_eq_false (λ hc=>hb10 (UInt8.toNat_inj.1 (by show b.toNat=10;omega))),cond_false,zbE (by omega),if_neg hb10]
   have ih:=ztb hy r p (c++[b]) n v (by simpa using h) (by omega) (by omega) (by simp;exact⟨h3,λ h=>hb10 h.symm⟩)
   have e:((p++c).length+1:Nat)=(p++(c++[b])).length:=by simp;omega
   rw[e];refine ih.trans ?_
   cases hq:zaX 10 r with
   | nil=>exact absurd hq (zdl _ _)
   | cons x t=>simp
theorem zpx {t p0:Bs}{ps:List Bs}(h:a0.data.toList=t++[10])(hs:zaX 10 t=p0::ps)(hy:a0.size<=20000)(hN:a0.size<N):zaW a0 k N [] 0 0=k ((p0::ps).map strC):=by
 have hsz:=zaE h;simp only[List.length_append,List.length_singleton] at hsz;have:=ztb (k:=k) hy t [] [] N [] (by simpa using h) (by omega) (by simp;omega) (by simp);rw[hs] at this;exact this
theorem zwc {V:Int->Option Bool}{p0:Bs}{ps:List Bs}(hl:ps.length<=20000):rfC (N+1) V k ((p0::ps).map strC)=if p0=hdL ps.length then rfL (N+1) V ((p0::ps).map strC) k (N+1) 1 [] else V 9:=by
 unfold rfC;rw[List.map_cons,ix_h,zAl];rw[show W (((strC p0::ps.map strC).length:Int)-1)=((ps.length:Nat):Int) by rw[zaK (by simp only[List.length_cons,List.length_map];omega) (by simp only[List.length_cons,List.length_map];omega)];simp only[List.length_cons,List.length_map];omega];rw[zhb (by omega),zAl,show addS (strC [116,117,115,99,104,101,32]) (num ps.length)=some (strC (hdL ps.length)) from zdE (b:=digs 7 ps.length) (by have:=zgz 7 ps.length;simp;omega),zAl];by_cases hp:p0=hdL ps.length
 .rw [if_pos hp,hp,zdp,cond_false]
 .rw [if_neg hp,decide_eq_true (by rw[zhP];exact hp),cond_true]
end
theorem zlo (e:Int):rfV 5000 e e=some true:=by unfold rfV;rw[zdp,cond_false,zs7];rfl
theorem zAj {b:Bk}(h:Made 4998 b):zbn 5000 b.L b.S b.E b.C b.L=some true:=by
 have hb:=h.ok (by omega);have hl:=hb.ll;obtain⟨e1,e2⟩:=zva fu4 hl (λ y hy=>by have:=h.small (by omega) y hy;omega) b.S b.E b.C (by omega);have h21:f21 5000 b.L b.S b.E b.C=some b.L:=zzF (M:=4999) hb;unfold zbn f55;rw[h21,zAl,zAl,show (!(BookM.mk true b.L).made)=false from rfl,cond_false,zcp (by simp;omega) (by simp;omega),zAl,List.nil_append,zvb (by omega) (by omega),zAl,cond_true,e1,zAl,show f24 5000 (BookM.mk true b.L)=_ from e2,zAl,decide_eq_true rfl,cond_true,zs7];rfl
section
variable {N:Nat} {a0:ByteArray} {b1:TL} {S:TS} {E:TE} {C:TC} {l:TL} {e9:Int} {x63:Int×TS×TE×TC×TL}
theorem c1:zbJ N=rfC N (rfV N 9) zb4:=by
 funext l;unfold zbJ rfC zap;simp only[l1];rfl
theorem c2:zbK N b1 S E C=rfC N rfV0 (zbn N b1 S E C):=by
 funext l;unfold zbK rfC zap;simp only[l2];rfl
theorem c3:zbL N x63=rfC N (rfV N x63.1) (zb5 x63):=by
 funext l;unfold zbL rfC zap;simp only[l3];rfl
theorem c4:zbM N b1 S E C e9=rfC N (rfV N e9) (zb6 b1 S E C):=by
 funext l;unfold zbM rfC zap;simp only[l4];rfl
end
section
variable {a0:ByteArray} {t p0:Bs} {ps:List Bs}
theorem zxF (h:a0.data.toList=t++[10])(hs:zaX 10 t=p0::ps)(hz:a0.size<=4000)(hp:p0=hdL ps.length):∀ (r p:TL) (n:Nat) (b:Bk),p++r=ps.map strC->r.length<n->Made 4998 b ->
  (∀ V k,rfL 5000 V ((p0::ps).map strC) k 5000 1 []=rfL 5000 V ((p0::ps).map strC) k (5000-p.length) ((p.length+1:Nat):Int) b.L) ->
  zb7 a0 5000 (zbX a0 5000) (ps.map strC) n (p.length:Int) b.L b.S b.E b.C=some true:=by
 have hsz:=zaE h;simp only[List.length_append,List.length_singleton] at hsz;have hlen:=zfp 10 t;rw[hs] at hlen
 have hpl:ps.length<=t.length:=by simpa using hlen.1
 have hlast:idxS a0 (W ((a0.size:Int)-1))=some 10:=by
  have hb:=zbo (y:=a0) (p:=t) (r:=[]) (b:=10) h;rw[show W ((a0.size:Int)-1)=(t.length:Int) by rw[zaK (by omega) (by omega)];omega,idxS,if_pos ⟨by omega,by omega⟩,Int.toNat_natCast,hb];rfl
 have hv4:((p0::ps).map strC).length=ps.length+1:=by simp
 have rd:∀ (k:TL->Option Bool),zaW a0 k 5000 [] 0 0=k ((p0::ps).map strC):=λ k=>zpx h hs (by omega) (by omega)
 have rc:∀ V k,rfC 5000 V k ((p0::ps).map strC)=rfL 5000 V ((p0::ps).map strC) k 5000 1 []:=λ V k=>by
  have:=zwc (N:=4999) (k:=k) (V:=V) (p0:=p0) (ps:=ps) (by omega);rw[if_pos hp] at this;exact this
 intro r
 induction r with
 | nil =>
  intro p n b h1 h2 hb hi;obtain⟨n,rfl⟩:∃ q,n=q+1:=⟨n-1,by omega⟩
  have hpp:p.length=(ps.map strC).length:=by rw[<- h1];simp
  have hpp':p.length=ps.length:=by simpa using hpp
  simp only[zb7,zez];rw[ltF (by omega),cond_false];unfold zbX;rw[decide_eq_false (by omega),cond_false,hlast,zAl,zdp,cond_false,zap,s2,rd,c2,rc,hi];obtain⟨m,hm⟩:∃ m,5000-p.length=m+1:=⟨4999-p.length,by omega⟩;rw[hm,rfL,rfB,ltF (by omega),cond_false];exact zAj hb
 | cons y r ih =>
  intro p n b h1 h2 hb hi;obtain⟨n,rfl⟩:∃ q,n=q+1:=⟨n-1,by omega⟩
  have hpp:(ps.map strC).length=p.length+(r.length+1):=by rw[<- h1];simp
  have hpp':ps.length=p.length+(r.length+1):=by simpa using hpp
  have hxp:(ps.map strC)[p.length]? = some y:=by rw[<- h1];simp
  have hxq:((p0::ps).map strC)[p.length+1]? = some y:=by rw[List.map_cons];simpa using hxp
  have hy:y.size<=4000:=by
   have hm:y∈ps.map strC:=by rw[<- h1];simp
   obtain⟨q,hq,rfl⟩:=List.mem_map.1 hm;have:=hlen.2 q (List.mem_cons_of_mem _ hq);rw[zcc];omega
  obtain⟨u,h75, -⟩:=zzN fu5 (y:=y) (by omega) (by omega)
  have h76:f76 5000 y=some u:=by rw[zAi fu5 (by omega) (by omega)];exact h75
  have hbk:=hb.ok (by omega);have hll:=hbk.ll;obtain⟨m,hm⟩:∃ m,5000-p.length=m+1:=⟨4999-p.length,by omega⟩;obtain⟨q,h79,ho⟩:=zzJ (N:=4998) (y:=u.1) (by omega);have h18:f18 5000 u.1 b.L b.S b.E b.C=some (outM (errM b q) (goM b u.1 q)):=zv4 (M:=4997) hbk (by omega) h79 ho;have hw:f52 5000 (BookM.mk true b.L) u.1=some (errM b q):=hb.would (N:=5000) (by omega) (by omega) h79
  have hA:u.2≠0->∀ V k,rfL 5000 V ((p0::ps).map strC) k 5000 1 []=V u.2:=λ hu V k=>by
   rw[hi,hm,rfL,rfB,ltT (by omega),cond_true,zaU,hxq,zAl,h76,zAl,decide_eq_false hu,cond_false,decide_eq_true hu,cond_true]
  have hB:u.2=0->errM b q≠0->∀ V k,rfL 5000 V ((p0::ps).map strC) k 5000 1 []=V (errM b q):=λ hu he V k=>by
   rw[hi,hm,rfL,rfB,ltT (by omega),cond_true,zaU,hxq,zAl,h76,zAl,decide_eq_true hu,cond_true,hw,zAl,decide_eq_false he,cond_false,decide_eq_true he,cond_true]
  have hC:u.2=0->errM b q=0->∀ V k,rfL 5000 V ((p0::ps).map strC) k 5000 1 []=rfL 5000 V ((p0::ps).map strC) k m ((p.length+2:Nat):Int) (b.L++[u.1]):=λ hu he V k=>by
   rw[hi,hm,rfL,rfB,ltT (by omega),cond_true,zaU,hxq,zAl,h76,zAl,decide_eq_true hu,cond_true,hw,zAl,he,decide_eq_true rfl,cond_true,zcp (by simp;omega) (by simp;omega),zAl,zdp,cond_false,zbE (by omega)]
  simp only[zb7,zez];rw[ltT (by omega),cond_true,zaU,hxp,zAl,zap,h75,zAl];unfold zcN;by_cases hu:u.2=0
  .rw [decide_eq_true hu,cond_true,h18,zAl]
   by_cases he:errM b q=0
   .have hL:(goM b u.1 q).L=b.L++[u.1]:=by unfold goM;rw[if_pos he]
    have ih':=ih (p++[y]) n (goM b u.1 q) (by simpa using h1) (by simp at h2;omega) (.step hb h79) (λ V k=>by
     rw[hC hu he,hL,List.length_append,List.length_singleton,show 5000-(p.length+1)=m by omega])
    rw[List.length_append,List.length_singleton] at ih';show (bif decide (¬ errM b q=0) then _ else zb7 a0 5000 (zbX a0 5000) (ps.map strC) n (W ((p.length:Int)+1)) (goM b u.1 q).L (goM b u.1 q).S (goM b u.1 q).E (goM b u.1 q).C)=_;rw[decide_eq_false (λ h=>h he),cond_false,zbE (by omega)];exact ih'
   .show (bif decide (¬ errM b q=0) then _ else _)=_
    rw[decide_eq_true he,cond_true,decide_eq_false (by omega),cond_false,hlast,zAl,zdp,cond_false,zap,s3,rd,c3,rc,hB hu he];exact zlo _
  .rw [decide_eq_false hu,cond_false,decide_eq_true hu,cond_true,decide_eq_false (by omega),cond_false,hlast,zAl,zdp,cond_false,zap,s4,rd,c4,rc,hA hu]
   exact zlo _
end
theorem zvc (a0:ByteArray):f8 5000 a0=some true:=by
 have hw:((f14 5000).bind λ x=>some x)=some true:=by rw[zs7];rfl
 unfold f8 zap;dsimp only;by_cases h4:(4000:Int)<(a0.size:Int)
 .rw [decide_eq_true h4,cond_true]
  by_cases h17:(a0.size:Int)<=17000
  .rw [decide_eq_true h17,cond_true];exact hw
  .rw [decide_eq_false h17,cond_false]
   by_cases h20:(20000:Int)<(a0.size:Int)
   .rw [decide_eq_true h20,cond_true];exact hw
   .rw [decide_eq_false h20,cond_false]
    unfold zm3;rw[decide_eq_true (by omega),cond_true];exact hw
 .rw [decide_eq_false h4,cond_false,decide_eq_false (by omega),cond_false]
  unfold zm3;rw[decide_eq_false (by omega),cond_false];by_cases h:∃ t,a0.data.toList=t++[10]
  .obtain ⟨t,h⟩:=h
   have hsz:=zaE h;simp only[List.length_append,List.length_singleton] at hsz
   obtain⟨p0,ps,hs⟩:∃ p0 ps,zaX 10 t=p0::ps:=by
    cases hs:zaX 10 t with
    | nil=>exact absurd hs (zdl _ _)
    | cons p0 ps=>exact⟨_,_,rfl⟩
   have hlen:=zfp 10 t;rw[hs] at hlen
   have hps:ps.length<=t.length:=by simpa using hlen.1
   have h72:f72 5000 a0 (strC [10])=some true:=by
    unfold f72;dsimp only;rw[zcD,(zop _).2 ⟨t,h⟩]
   have h74:f74 5000 a0 (strC [10])=some (strC t):=by
    unfold f74;dsimp only;rw[zcD,Lib.trimSuffix,if_pos ((zop _).2 ⟨t,h⟩),h];simp only[List.length_append,List.length_singleton,List.length_cons,List.length_nil,Nat.zero_add,Nat.add_sub_cancel,List.take_left'];rw[if_pos (by omega)];rfl
   have h73:f73 5000 (strC t) (strC [10])=some ((p0::ps).map strC):=by
    unfold f73;dsimp only;rw[if_pos ⟨by rw[zcc];omega,by rw[zcc];rfl⟩,<- hs];rfl
   have hlast:idxS a0 (W ((a0.size:Int)-1))=some 10:=by
    have hb:=zbo (y:=a0) (p:=t) (r:=[]) (b:=10) h;rw[show W ((a0.size:Int)-1)=(t.length:Int) by rw[zaK (by omega) (by omega)];omega,idxS,if_pos ⟨by omega,by omega⟩,Int.toNat_natCast,hb];rfl
   rw[h72,zAl,Bool.not_true,cond_false,h74,zAl,h73,zAl,List.map_cons,ix_h,zAl];rw[show W (((strC p0::ps.map strC).length:Int)-1)=((ps.length:Nat):Int) by rw[zaK (by simp only[List.length_cons,List.length_map];omega) (by simp only[List.length_cons,List.length_map];omega)];simp only[List.length_cons,List.length_map];omega];rw[zhb (N:=4999) (by omega),zAl,show addS (strC [116,117,115,99,104,101,32]) (num ps.length)=some (strC (hdL ps.length)) from zdE (b:=digs 7 ps.length) (by have:=zgz 7 ps.length;simp;omega),zAl];by_cases hp:p0=hdL ps.length
   .rw [decide_eq_false (λ hc=>hc (by rw[hp])),cond_false,zap,show (1:Int)=((1:Nat):Int) from rfl,zeP (by simp) (Nat.le_refl _),zAl,List.take_length]
    have:=zxF h hs (by omega) hp (ps.map strC) [] 5000 Bk.new rfl (by simp;omega) .new (λ V k=>rfl);exact this
   .rw [decide_eq_true (by rw[zhP];exact hp),cond_true,decide_eq_false (by omega),cond_false,hlast,zAl,zdp,cond_false,zap,s1,zpx h hs (by omega) (by omega),c1,zwc (N:=4999) (by omega),if_neg hp]
    exact zlo _
  .have h72:f72 5000 a0 (strC [10])=some false:=by
    unfold f72;dsimp only;rw[zcD]
    cases hq:Lib.hasSuffix a0.data.toList [10] with
    | false=>rfl
    | true=>exact absurd ((zop _).1 hq) h
   rw[h72,zAl,Bool.not_false,cond_true];by_cases h0:(a0.size:Int)=0
   .rw [decide_eq_true h0,cond_true];exact hw
   .rw [decide_eq_false h0,cond_false]
    have hl0:a0.data.toList.length=a0.size:=(zaE rfl).symm
    obtain⟨t,c,ht⟩:∃ t c,a0.data.toList=t++[c]:=by
     rcases List.eq_nil_or_concat a0.data.toList with h|⟨t,c,h⟩
     .rw [h] at hl0;simp at hl0;omega
     .exact ⟨t,c,by rw[h,List.concat_eq_append]⟩
    have hsz:=zaE ht;simp only[List.length_append,List.length_singleton] at hsz;have hb:=zbo (y:=a0) (p:=t) (r:=[]) (b:=c) ht;have hc:c≠10:=λ hc=>h ⟨t,by rw[ht,hc]⟩
    have hlast:idxS a0 (W ((a0.size:Int)-1))=some (c.toNat:Int):=by
     rw[show W ((a0.size:Int)-1)=(t.length:Int) by rw[zaK (by omega) (by omega)];omega,idxS,if_pos ⟨by omega,by omega⟩,Int.toNat_natCast,hb]
    rw[hlast,zAl,decide_eq_true (p:=¬ ((c.toNat:Int)=10)) (λ hq=>hc (UInt8.toNat_inj.1 (by show c.toNat=10;omega))),cond_true];exact hw
end Go.Vc
namespace Go.Vc
abbrev tS:Ty := .str
theorem zAk {x:D}(h:tS.hasD x):∃ s,x=strN s:=by
 have h:tS.has [x]:=h;simp only[tS,Ty.has] at h;obtain⟨s,h1,_⟩:=h;exact⟨s,List.singleton_inj.1 h1⟩
end Go.Vc
namespace Go.Vc
open Go.Proofs
theorem lx_of {l:List (String×DataW Unit)} (h1:(l.filter λ x=>x.1 == "internal/strconv.uint64pow10")=[("internal/strconv.uint64pow10", Lib.tabData .u64 Lib.pow10Tab)]) {w:World} (h:laidMetH Tryz.prog l w.memory):LX Tryz.prog w:=by
 have h2:=laidMetH.filter (λ x=>x.1 == "internal/strconv.uint64pow10") h
 rw[h1,MakeChecks.laidMetH_plain _ _ _ (by rfl)] at h2;exact LX.heap (w:=w.memory) (Lib.tabIs_of_head (g:=0) (t:=226) (e:=182) (n:=20) (by kernel_rfl) (by kernel_rfl) (by kernel_rfl) (by kernel_rfl) (by kernel_rfl) (by kernel_rfl) h2) rfl
end Go.Vc

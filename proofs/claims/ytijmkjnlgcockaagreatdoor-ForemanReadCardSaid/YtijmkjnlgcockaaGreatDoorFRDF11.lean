/-
  A library for proofs about Go functions by symbolic evaluation,and plain Lean functions that the walked Go functions compute (written by a program of this claim).
-/
import Derived.Test.YtijmkjnlgcockaaGreatDoorFRDF9
import Derived.Test.YtijmkjnlgcockaaGreatDoorFRDF10
set_option linter.unusedVariables false
set_option linter.unnecessarySimpa false
set_option linter.unusedSimpArgs false
namespace Go.Vc
open Go.Proofs
def zu2 (l:Ln):Bool:=match f79 4998 (txt nm0 l) with
 | some (o,e)=>decide (o=ord nm0 l)&&decide (e=0) && !(txt nm0 l).data.toList.contains 10
 | none=>false
theorem zpS:zpI.all zu2=true:=by kernel_rfl
theorem zug {l:Ln}(h:l.ok):f79 4998 (txt nm0 l)=some (ord nm0 l,0)/\(10:UInt8) ∉ (txt nm0 l).data.toList:=by
 have h:=List.all_eq_true.1 zpS l (zfT h);unfold zu2 at h
 split at h
 .rename_i o e he
  rw[zyW,zyW,decide_eq_true_eq,decide_eq_true_eq] at h;refine⟨by rw[he,h.1.1,h.1.2],λ hm=>?_⟩;have h2:=h.2;rw[List.contains_iff_mem.2 hm] at h2;cases h2
 .cases h
theorem GLn.rd5 {y:ByteArray}(h:GLn y):f79 4998 y=some (Go.Vc.rd y)/\(10:UInt8) ∉ y.data.toList:=by
 obtain⟨l,hl,rfl⟩:=h;have h1:=zrN hl;have h2:=zug hl;unfold Go.Vc.rd;rw[h1];exact h2
theorem GLn.q18 {y:ByteArray}(h:GLn y){b:Bk}(hb:BkOK b):Go.Vc.f18 5000 y b.L b.S b.E b.C=some (outM (errB b y) (zdx b y)):=zrL (M:=4997) hb (by omega) h.rd5.1 λ _=>h.rd.2.2
theorem zyK:f14 5000=some true:=by kernel_rfl
def fum (N:Nat):Bool:=match f84 N,f116 N dT with
 | some t,some z=>decide (t=dT)&&decide (z=0)
 | _,_=>false
theorem zsb {N:Nat}(h:fum N=true)(hN:130<=N):FuM N:=by
 unfold fum at h
 split at h
 .rename_i t z h1 h2
  rw[zyW,decide_eq_true_eq,decide_eq_true_eq] at h;exact⟨hN,by rw[h1,h.1],by rw[h2,h.2]⟩
 .cases h
theorem fu5:FuM 5000:=zsb (by kernel_rfl) (by omega)
theorem fu4:FuM 4999:=zsb (by kernel_rfl) (by omega)
theorem fu3:FuM 4998:=zsb (by kernel_rfl) (by omega)
theorem zuh (k i:Nat):f61 4998 (nm0 k i)=some true:=by
 unfold nm0
 split <;> kernel_rfl
section
variable {M:Nat}
theorem zsc {b:Bk}(hM:130<=M)(hn:∀ k i,f61 (M+3) (nm0 k i)=some true)(h:BkOK b)(x6:TL)(v:Int)(k1:Option Bool)(e:Nat):zd5 b.L b.L b.S b.E b.C b.S b.E b.C (M+4) x6 v k1 (nm0 1 e) [nm0 2 0,nm0 2 1,nm0 2 2] (M+4) 0=k1:=by
 have q:=λ c=>zyA (M:=(M+3)) h (hn 2 c) (hn 1 e)
 have step:∀ (a n:Nat) (r:Int->Option Bool),([nm0 2 0,nm0 2 1,nm0 2 2]:TL)[a]? = some (nm0 2 a)->a<3->zka r b.L b.L b.S b.E b.C b.S b.E b.C (M+4) x6 v k1 (nm0 1 e) [nm0 2 0,nm0 2 1,nm0 2 2] (a:Int)=r ((a+1:Nat):Int):=by
  intro a n r he h2;simp only[zka,zbk,he,zyQ,q,not_true_eq_false,decide_false,cond_false];rw[show decide ((a:Int)<((List.length [nm0 2 0,nm0 2 1,nm0 2 2]:Nat):Int))=true from decide_eq_true (by simp;omega),cond_true,zcC (by omega)]
 have e0:zd5 b.L b.L b.S b.E b.C b.S b.E b.C (M+4) x6 v k1 (nm0 1 e) [nm0 2 0,nm0 2 1,nm0 2 2] (M+4) 0=zd5 b.L b.L b.S b.E b.C b.S b.E b.C (M+4) x6 v k1 (nm0 1 e) [nm0 2 0,nm0 2 1,nm0 2 2] (M+3) 1:=step 0 (M+3) _ rfl (by omega);have e1:zd5 b.L b.L b.S b.E b.C b.S b.E b.C (M+4) x6 v k1 (nm0 1 e) [nm0 2 0,nm0 2 1,nm0 2 2] (M+3) 1=zd5 b.L b.L b.S b.E b.C b.S b.E b.C (M+4) x6 v k1 (nm0 1 e) [nm0 2 0,nm0 2 1,nm0 2 2] (M+2) 2:=step 1 (M+2) _ rfl (by omega);have e2:zd5 b.L b.L b.S b.E b.C b.S b.E b.C (M+4) x6 v k1 (nm0 1 e) [nm0 2 0,nm0 2 1,nm0 2 2] (M+2) 2=zd5 b.L b.L b.S b.E b.C b.S b.E b.C (M+4) x6 v k1 (nm0 1 e) [nm0 2 0,nm0 2 1,nm0 2 2] (M+1) 3:=step 2 M _ rfl (by omega);rw[e0,e1,e2];rfl
theorem zui {b:Bk}(hM:130<=M)(hn:∀ k i,f61 (M+3) (nm0 k i)=some true)(h:BkOK b)(k0:Option Bool):zeS b.L b.L b.S b.E b.C b.S b.E b.C (M+4) k0 [nm0 1 0,nm0 1 1] (M+4) 0=k0:=by
 have q:=λ e=>zyx (M:=(M+3)) h (hn 1 e);have q2:=λ e=>zyy (M:=(M+3)) h (by omega) (hn 1 e);have q3:=λ e=>zyz (M:=(M+3)) h (by omega) (hn 1 e);have q4:=λ e=>zpL (N:=(M+4)) (l:=(zer b (nm0 1 e)).1) (by have:=ziZ h (nm0 1 e);omega) (by have:=ziZ h (nm0 1 e);omega)
 have step:∀ (e n:Nat) (r:Int->Option Bool),([nm0 1 0,nm0 1 1]:TL)[e]? = some (nm0 1 e)->e<2->zkb r b.L b.L b.S b.E b.C b.S b.E b.C (M+4) k0 [nm0 1 0,nm0 1 1] (e:Int)=r ((e+1:Nat):Int):=by
  intro e n r he h2;simp only[zkb,zau,zbk,he,zyQ,q,q2,q3,q4,not_true_eq_false,decide_false,decide_true,Bool.not_true,cond_false,Bool.and_true,Bool.and_self,zwc,zsc hM hn h,zff];rw[show decide ((e:Int)<((List.length [nm0 1 0,nm0 1 1]:Nat):Int))=true from decide_eq_true (by simp;omega),cond_true,zcC (by omega)]
 have e0:zeS b.L b.L b.S b.E b.C b.S b.E b.C (M+4) k0 [nm0 1 0,nm0 1 1] (M+4) 0=zeS b.L b.L b.S b.E b.C b.S b.E b.C (M+4) k0 [nm0 1 0,nm0 1 1] (M+3) 1:=step 0 (M+3) _ rfl (by omega);have e1:zeS b.L b.L b.S b.E b.C b.S b.E b.C (M+4) k0 [nm0 1 0,nm0 1 1] (M+3) 1=zeS b.L b.L b.S b.E b.C b.S b.E b.C (M+4) k0 [nm0 1 0,nm0 1 1] (M+2) 2:=step 1 (M+2) _ rfl (by omega);rw[e0,e1];rfl
theorem zuj {b:Bk}(hM:130<=M)(hn:∀ k i,f61 (M+3) (nm0 k i)=some true)(h:BkOK b)(k2:Option Bool):zgF b.L b.L b.S b.E b.C b.S b.E b.C (M+4) k2 [nm0 0 0,nm0 0 1,nm0 0 2] (M+4) 0=k2:=by
 have q:=λ a=>zyw (M:=(M+3)) h (hn 0 a)
 have step:∀ (a n:Nat) (r:Int->Option Bool),([nm0 0 0,nm0 0 1,nm0 0 2]:TL)[a]? = some (nm0 0 a)->a<3->zoe r b.L b.L b.S b.E b.C b.S b.E b.C (M+4) k2 [nm0 0 0,nm0 0 1,nm0 0 2] (a:Int)=r ((a+1:Nat):Int):=by
  intro e n r he h2;simp only[zoe,zbk,he,zyQ,q,not_true_eq_false,decide_false,cond_false];rw[show decide ((e:Int)<((List.length [nm0 0 0,nm0 0 1,nm0 0 2]:Nat):Int))=true from decide_eq_true (by simp;omega),cond_true,zcC (by omega)]
 have e0:zgF b.L b.L b.S b.E b.C b.S b.E b.C (M+4) k2 [nm0 0 0,nm0 0 1,nm0 0 2] (M+4) 0=zgF b.L b.L b.S b.E b.C b.S b.E b.C (M+4) k2 [nm0 0 0,nm0 0 1,nm0 0 2] (M+3) 1:=step 0 (M+3) _ rfl (by omega);have e1:zgF b.L b.L b.S b.E b.C b.S b.E b.C (M+4) k2 [nm0 0 0,nm0 0 1,nm0 0 2] (M+3) 1=zgF b.L b.L b.S b.E b.C b.S b.E b.C (M+4) k2 [nm0 0 0,nm0 0 1,nm0 0 2] (M+2) 2:=step 1 (M+2) _ rfl (by omega);have e2:zgF b.L b.L b.S b.E b.C b.S b.E b.C (M+4) k2 [nm0 0 0,nm0 0 1,nm0 0 2] (M+2) 2=zgF b.L b.L b.S b.E b.C b.S b.E b.C (M+4) k2 [nm0 0 0,nm0 0 1,nm0 0 2] (M+1) 3:=step 2 M _ rfl (by omega);rw[e0,e1,e2];rfl
end
abbrev dL (L:TL):List Bs:=L.map λ y=>y.data.toList
theorem zpT {c:UInt8}{P:List Bs}{x:Bs}(h:x∈P):x.length<=(cat c P).length:=by
 obtain⟨a,b,rfl⟩:=List.append_of_mem h;rw[zr6,zaS];simp;omega
theorem zi2 (l:Bs):strB (l.map λ b=>(b.toNat:Int))=strC l:=by
 simp only[strB,strC,List.map_map]
 congr 2
 conv=>rhs;rw[<- List.map_id l]
 exact List.map_congr_left λ b _=>by simp
abbrev bI (l:Bs):List Int:=l.map λ b=>(b.toNat:Int)
theorem zdy {a b:Bs}(h:a.length+b.length<=1000000):addS (strC a) (strC b)=some (strC (a++b)):=by
 rw[addS,if_pos]
 .rw [<- zkk (strC a++strC b)]
  congr 2
 .show (strC a).size+(strC b).size<=maxLen
  rw[za8,za8];simp only[maxLen];omega
theorem zes (l:Bs):(mkd l).length=l.length+6:=by simp[mkd,zc0]
theorem zsd {N:Nat}(fu:FuM N){L:TL}(hl:L.length<=120)(hs:(zaT (dL L)).length<=20000)(hN:∀ y,y∈L->y.size<N):∀ (S:TS) (E:TE) (C:TC) (r p:TL) (n:Nat) (b:Bs),p++r=L->r.length<n->b≠[]->b.length+(cat 10 ((dL r).map mkd)).length<=20000 ->
  zlZ L S E C N (zfc L S E C) n (p.length:Int) (bI b)=some (strC (b++cat 10 ((dL r).map mkd)))
 | S,E,C,[],p,n,b,h,h1,h2,h3=>by
  obtain⟨n,rfl⟩:∃ q,n=q+1:=⟨n-1,by omega⟩
  have:L.length=p.length:=by rw[<- h];simp
  have hb:bI b≠[]:=by simpa using h2
  have hb2:¬ (bI b).length=0:=λ h=>hb (List.eq_nil_of_length_eq_zero h);simp only[zlZ,zoc];rw[ltF (by omega),cond_false,zfc,neN,if_neg hb2,zyQ,zyQ,zyQ,zi2];simp[zc1]
 | S,E,C,y::r,p,n,b,h,h1,h2,h3=>by
  obtain⟨n,rfl⟩:∃ q,n=q+1:=⟨n-1,by omega⟩
  have hlen:L.length=p.length+(r.length+1):=by rw[<- h];simp
  have hy:L[p.length]? = some y:=by rw[<- h];simp
  have hm:y∈L:=by rw[<- h];simp
  rw[show (dL (y::r)).map mkd=mkd y.data.toList::(dL r).map mkd from rfl,zaS,List.length_append,List.length_cons,zes] at h3;have hys:=zbu (y:=y) rfl;simp only[zlZ,zoc];rw[ltT (by omega),cond_true,zbk,hy,zyQ];have hN':=hN y hm
  rw[show addS y (strC [32])=some (strC (y.data.toList++[32])) from zdy (a:=y.data.toList) (by simp only[List.length_append,List.length_cons,List.length_nil,List.length_map,zc0];omega),zyQ,zuY fu (by omega) hN',zyQ,
   zdy (by simp only[List.length_append,List.length_cons,List.length_nil,List.length_map,zc0];omega),zyQ,zdy (by simp only[List.length_append,List.length_cons,List.length_nil,List.length_map,zc0];omega),zyQ,zyQ,
   show zd4 (strC (y.data.toList++[32]++mkL y.data.toList++[10]))=bI (y.data.toList++[32]++mkL y.data.toList++[10]) from rfl,
   zeQ (by simp only[List.length_append,List.length_cons,List.length_nil,List.length_map,zc0];omega) (by simp only[List.length_append,List.length_cons,List.length_nil,List.length_map,zc0];omega),zyQ,zcC (by omega)]
  have:=zsd fu hl hs hN S E C r (p++[y]) n (b++(y.data.toList++[32]++mkL y.data.toList++[10])) (by simpa using h) (by simpa using h1) (by simp) (by simp only[List.length_append,List.length_cons,List.length_nil,zc0];omega);rw[show bI b++bI (y.data.toList++[32]++mkL y.data.toList++[10])=bI (b++(y.data.toList++[32]++mkL y.data.toList++[10])) by simp,show ((p.length+1:Nat):Int)=(((p++[y]).length:Nat):Int) by simp,this];simp[zaS,mkd]
theorem zu3 {N:Nat}(fu:FuM N){L:TL}(hl:L.length<=120)(hs:(zaT (dL L)).length<=20000)(hN:∀ y,y∈L->y.size<N)(S:TS)(E:TE)(C:TC):f23 (N+1) L S E C=some (strC (zaT (dL L))):=by
 have hb:=fu.big;obtain⟨M,rfl⟩:∃ M,N=M+1:=⟨N-1,by omega⟩
 have hsz:(zaT (dL L)).length=(hdL L.length).length+1+(cat 10 ((dL L).map mkd)).length:=by
  simp[zaT,pcsF,zaS];omega
 have hh:=(zpQ hl).2.1;simp only[f23,f23b,zau]
 rw[zh4 (by omega),zyQ,show addS (strC [116,117,115,99,104,101,32]) (num L.length)=some (strC (hdL L.length)) from zdy (b:=digs 7 L.length) (by have:=zfI 7 L.length;simp;omega),zyQ,
  zdy (by simp;omega),zyQ,zyQ,show zd4 (strC (hdL L.length++[10]))=bI (hdL L.length++[10]) from rfl,zeQ (by simp;omega) (by simp;omega),zyQ,List.nil_append]
 have:=zsd fu hl hs hN S E C L [] (M+1) (hdL L.length++[10]) rfl (by omega) (by simp) (by simp only[List.length_append,List.length_singleton];omega);refine Eq.trans this ?_;simp[zaT,pcsF,zaS]
end Go.Vc

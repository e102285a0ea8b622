/-
  A library for proofs about Go functions by symbolic evaluation,and plain Lean functions that the walked Go functions compute (written by a program of this claim).
-/
import Derived.Test.YtlngljdmmlbhgaaGreatDoorTTF6
set_option linter.unusedVariables false
set_option linter.unnecessarySimpa false
set_option linter.unusedSimpArgs false
namespace Go.Vc
open Go.Proofs
section
variable {l m:List UInt8}
@[simp] theorem zbf:(strC l).size=l.length:=by simp[strC,ByteArray.size]
@[simp] theorem zbJ:(strC l).data.toList=l:=by simp[strC]
theorem zoC:strC l=strC m ↔ l=m:=by
 constructor
 .intro h
  have:=congrArg (λ s:ByteArray=>s.data.toList) h;simpa using this
 .rintro rfl;rfl
theorem zfK:zft=strC []:=rfl
theorem zfL {a b:Nat}:(strC l).extract a b=strC ((l.take b).drop a):=by
 have h:∀ s:ByteArray,s=strC s.data.toList:=λ s=>by cases s;simp[strC]
 rw[h ((strC l).extract a b)];simp[ByteArray.data_extract,List.drop_take,strC]
theorem zo8 {a b:Nat}(h:a<=b)(h':b<=l.length):subS (strC l) (a:Int) (b:Int)=some (strC ((l.take b).drop a)):=by
 unfold subS;rw[if_pos ⟨by omega,by omega,by simp;omega⟩];simp only[Int.toNat_natCast,zew,zfL]
theorem zoD:strC l++strC m=strC (l++m):=by
 have h:∀ s:ByteArray,s=strC s.data.toList:=λ s=>by cases s;simp[strC]
 rw[h (strC l++strC m)];simp[strC]
theorem znp (h:l.length+m.length<=1000000):addS (strC l) (strC m)=some (strC (l++m)):=by
 unfold addS;rw[if_pos (by simp[maxLen];omega),zoD]
theorem zkJ {i:Nat}(h:i<l.length):zcP (strC l) i=(l[i].toNat:Int):=by
 unfold zcP;simp[h]
theorem toNat_inj {a b:UInt8}:(a.toNat:Int)=(b.toNat:Int) ↔ a=b:=by
 constructor
 .intro h;exact UInt8.toNat_inj.1 (by omega)
 .rintro rfl;rfl
theorem zqf {p:Nat}(h:p<l.length)(hb:l[p].toNat<128):zdM (strC l) p=((l[p].toNat:Int),p+1):=by
 have hs:p<(strC l).size:=by simpa using h
 have he:(strC l)[p]=l[p]:=by
  have h1:zcP (strC l) p=_:=(zi8 (strC l) p hs).2.symm;have h2:=zkJ h;exact toNat_inj.1 (h1.symm.trans h2)
 unfold zdM;rw[decode_ascii (strC l) p hs (by rw[he];omega)];simp only[he];rfl
theorem zqg {p:Nat}(h:p<l.length)(hb:128<=l[p].toNat):128<=(zdM (strC l) p).1:=by
 have hs:p<(strC l).size:=by simpa using h
 have he:(strC l)[p]=l[p]:=by
  have h1:zcP (strC l) p=_:=(zi8 (strC l) p hs).2.symm;have h2:=zkJ h;exact toNat_inj.1 (h1.symm.trans h2)
 have:=(decode_high (strC l) p hs (by rw[he];omega)).1;show (128:Int)<=((Utf8.decode (strC l) p).1:Int);omega
def okb (b:UInt8):Bool:=decide (97<=b.toNat)&&decide (b.toNat<=122)
def chk8 (l:List UInt8):Int:=if l=[] then 1 else if 24<l.length then 19 else if l.all okb then 0 else 9
theorem zoE {l:List UInt8}{p:Nat}(h:p<l.length):(l.drop p).all okb=(okb l[p]&&(l.drop (p+1)).all okb):=by
 rw[List.drop_eq_getElem_cons h];rfl
theorem zq2 {b:UInt8}(h:(b.toNat:Int)<97):okb b=false:=by simp[okb];omega
theorem zo9 {b:UInt8}(h:(122:Int)<(b.toNat:Int)):okb b=false:=by simp[okb];omega
theorem zq3 {b:UInt8}(h:¬ (b.toNat:Int)<97)(h':¬ (122:Int)<(b.toNat:Int)):okb b=true:=by simp[okb];omega
theorem zoF {l:List UInt8}{k0:Option Int}:∀ (n p:Nat),l.length-p<n->p<=l.length->zjQ (strC l) k0 n p=if (l.drop p).all okb then k0 else some 9:=by
 intro n
 induction n with
 | zero=>intro p h;omega
 | succ n ih =>
  intro p hn hp;unfold zjQ znn;by_cases h:p<l.length
  .simp only[zbf,h,decide_true,cond_true,zre]
   rw[zoE h];by_cases hb:l[p].toNat<128
   .rw [zqf h hb]
    by_cases h1:(l[p].toNat:Int)<97
    .simp [h1,zq2 h1]
    .by_cases h2:(122:Int)<l[p].toNat
     .simp [h1,h2,zo9 h2]
     .simp only[h1,h2,decide_false,cond_false,zq3 h1 h2,Bool.true_and]
      rw[ih (p+1) (by omega) (by omega)]
   .have:=zqg h (by omega)
    simp only[show ¬ (zdM (strC l) p).1<97 by omega,show (122:Int)<(zdM (strC l) p).1 by omega,decide_false,decide_true,cond_false,cond_true];rw[zo9 (by omega)];simp
  .have:p=l.length:=by omega
   subst this;simp
theorem zkK {l:List UInt8}{N:Nat}(hN:30<=N):f60 N (strC l)=some (chk8 l):=by
 unfold f60 chk8;by_cases h:l=[]
 .subst h;simp[zfK]
 .simp only[zfK,zoC,h,decide_false,cond_false,zbf,if_false]
  by_cases h2:24<l.length
  .simp [h2,show (24:Int)<(l.length:Int) by omega]
  .simp only[show ¬ (24:Int)<(l.length:Int) by omega,decide_false,cond_false,zbI]
   rw[zoF N 0 (by omega) (by omega)];simp[h2,zdE]
   split <;> rfl
theorem zfM {l:List UInt8}:chk8 l=0 ↔ l≠[]/\l.length<=24/\l.all okb=true:=by
 unfold chk8
 by_cases h:l=[] <;> by_cases h2:24<l.length <;> by_cases h3:l.all okb=true <;> simp[h,h2,h3] <;> omega
def isP (l:List UInt8)(p:Nat):Bool:=(l.drop p).isPrefixOf l
theorem zqh {l:List UInt8}{p:Nat}:isP l p=true ↔ ∀ i,(h:i+p<l.length)->l[i]=l[i+p]:=by
 unfold isP;rw[List.isPrefixOf_iff_prefix,List.prefix_iff_getElem?];constructor
 .intro h i hi
  have:=h i (by simp;omega);rw[List.getElem_drop] at this;rw[zrg (by omega)] at this;have:=Option.some.inj this;rw[this]
  congr 1
  omega
 .intro h i hi
  simp at hi;rw[zrg (by omega),h i (by omega),List.getElem_drop]
  congr 2
  omega
end
def perN (l:List UInt8):List Nat:=(List.range' 1 l.length).filter (isP l)
def toI (l:List Nat):List Int:=l.map λ (i:Nat)=>(i:Int)
theorem zqi {l:List UInt8}{p:Nat}:zhv (strC l) p=isP l p:=by
 unfold zhv isP Lib.hasPrefix;rw[zbf,zfL,zbJ,zbJ,List.take_length]
theorem zp {l:List UInt8}:perL (strC l)=toI (perN l):=by
 unfold perL zc1 perN toI;rw[zbf,Nat.add_sub_cancel]
 congr 1
 exact List.filter_congr λ x _=>zqi
theorem zhD {l:List UInt8}(h:chk8 l=0):l.length<=24:=(zfM.1 h).2.1
def zcK (l:List UInt8):Nat:=((List.range' 1 l.length).find? λ p=>decide (l.length % p=0)&&isP l p).getD l.length
theorem znq {l:List UInt8}:isP l l.length=true:=by simp[isP]
theorem zgu {l:List UInt8}(h:l≠[]):1<=zcK l/\zcK l<=l.length/\l.length % zcK l=0/\isP l (zcK l)=true/\∀ q,1<=q->q<zcK l->¬ (l.length % q=0/\isP l q=true):=by
 have hl:0<l.length:=List.length_pos_iff.2 h;unfold zcK
 cases hf:(List.range' 1 l.length).find? λ p=>decide (l.length % p=0)&&isP l p with
 | none =>
  rw[List.find?_eq_none] at hf;exact absurd (hf l.length (by rw[List.mem_range'_1];omega)) (by simp[znq])
 | some p =>
  obtain⟨hp,pre,suf,hab,hno⟩:=List.find?_eq_some_iff_append.1 hf
  have hm:p∈List.range' 1 l.length:=by rw[hab];simp
  rw[List.mem_range'_1] at hm;simp at hp;refine⟨hm.1,by simp;omega,hp.1,hp.2,λ q h1 h2=>?_⟩;simp at h2
  have hq:q∈List.range' 1 l.length:=by rw[List.mem_range'_1];omega
  rw[hab] at hq
  rcases List.mem_append.1 hq with hq|hq
  .have:=hno q hq
   simp at this;rintro⟨a,b⟩
   rcases this with h|h
   .exact h a
   .rw [h] at b;cases b
  .-- behind p are greater ones
   have hs:(List.range' 1 l.length).Pairwise (· < ·):=List.pairwise_lt_range'
   rw[hab,List.pairwise_append] at hs
   rcases List.mem_cons.1 hq with rfl|hq
   .omega
   .have:=(List.pairwise_cons.1 hs.2.1).1 q hq
    omega
theorem zlM {l:List UInt8}(L:List Nat)(hL:∀ p∈L,1<=p):zbq (strC l) (toI (L.filter (isP l)))=match L.find? (λ p=>decide (l.length % p=0)&&isP l p) with
  | some p=>(strC (l.take p),((l.length / p:Nat):Int))
  | none=>(strC l,1):=by
 induction L with
 | nil=>rfl
 | cons p L ih =>
  have ih:=ih λ q hq=>hL q (by simp[hq]);have h1:=hL p (by simp);by_cases hp:isP l p=true
  .simp only[List.filter_cons,hp,if_true,toI,List.map_cons,zbq,zbf,List.find?_cons]
   by_cases hd:l.length % p=0
   .have:((l.length:Int) % (p:Int))=0:=by omega
    simp only[this,if_true,hd,decide_true,Bool.and_self];rw[Int.toNat_natCast,zfL];simp
   .have:¬ ((l.length:Int) % (p:Int))=0:=by omega
    simp only[this,if_false,hd,decide_false,Bool.false_and];exact ih
  .simp only[Bool.not_eq_true] at hp
   simp only[List.filter_cons,hp,List.find?_cons,Bool.and_false];exact ih
theorem znr {l:List UInt8}(h:l≠[]):zbq (strC l) (perL (strC l))=(strC (l.take (zcK l)),((l.length / zcK l:Nat):Int)):=by
 rw[zp];unfold perN;rw[zlM _ (by intro p hp;rw[List.mem_range'_1] at hp;exact hp.1)];have hl:0<l.length:=List.length_pos_iff.2 h;unfold zcK
 cases hf:(List.range' 1 l.length).find? λ p=>decide (l.length % p=0)&&isP l p with
 | none =>
  rw[List.find?_eq_none] at hf;exact absurd (hf l.length (by rw[List.mem_range'_1];omega)) (by simp[znq])
 | some p=>rfl
theorem zoG (l:List UInt8):0<=chk8 l/\chk8 l<=1000:=by
 unfold chk8
 split
 .omega
 .split
  .omega
  .split <;> omega
theorem zq4 {l:List UInt8}{N:Nat}(hN:30<=N)(hl:l.length<=100) :
  f18 N (strC l)=some (if chk8 l=0 then (strC (l.take (zcK l)),((l.length / zcK l:Nat):Int),0) else (zft,0,chk8 l)):=by
 unfold f18;rw[if_pos (by simp;omega),zkK hN,zre];have hc:=zoG l
 have hr:0<=(zbq (strC l) (perL (strC l))).2/\(zbq (strC l) (perL (strC l))).2<=1000/\(zbq (strC l) (perL (strC l))).1.size<=1000:=by
  by_cases h:l=[]
  .subst h
   rw[zp];simp[perN,toI,zbq]
  .rw [znr h]
   have:=Nat.div_le_self l.length (zcK l);generalize l.length / zcK l=q at *;refine⟨by simp only[];omega,by simp only[];omega, ?_⟩;simp;omega
 rw[if_pos ⟨hc.1,hc.2,hr.1,hr.2.1,hr.2.2⟩];by_cases h:chk8 l=0
 .rw [if_pos h,if_pos h,znr (zfM.1 h).1]
 .rw [if_neg h,if_neg h]
theorem zeE:∀ (x y:List UInt8),Op.bytesLess x y=decide (x<y)
 | [],[]=>by simp[Op.bytesLess]
 | _::_,[]=>by simp[Op.bytesLess]
 | [],_::_=>by simp[Op.bytesLess]
 | a::x,b::y=>by
  rw[Op.bytesLess,zeE x y];simp only[List.cons_lt_cons_iff]
  by_cases h1:a<b <;> by_cases h2:a=b <;> by_cases h3:x<y <;> simp[h1,h2,h3]
theorem zqj {l m:List UInt8}:zhK (strC l) (strC m)=decide (l<m):=by
 unfold zhK;rw[zbJ,zbJ,zeE]
theorem zlN (l:List UInt8):¬ l<l:=List.lt_irrefl l
theorem zns {l m:List UInt8}(h1:¬ l<m)(h2:¬ m<l):l=m:=List.le_antisymm (List.not_lt.1 h2) (List.not_lt.1 h1)
theorem znt {l m:List UInt8}(h:l<m):¬ m<l:=λ h' => List.lt_irrefl l (List.lt_trans h h')
theorem zeF {a b c:List UInt8}(h1:¬ b<a)(h2:¬ c<b):¬ c<a:=by
 intro h;by_cases h3:a=b
 .subst h3;exact h2 h
 .have:a<b:=by
   by_cases h4:a<b
   .exact h4
   .exact absurd (zns h4 h1) h3
  exact h2 (List.lt_trans h this)
def zc5 (L:List (List UInt8))(o:List UInt8):List UInt8:=L.foldl (λ o x=>if x<o then x else o) o
theorem zeG:∀ (L:List (List UInt8)) (o:List UInt8),(zc5 L o=o∨zc5 L o∈L)/\(∀ x∈L,¬ x<zc5 L o)/\¬ o<zc5 L o:=by
 intro L
 induction L with
 | nil=>intro o;exact⟨.inl rfl,by simp,zlN o⟩
 | cons x L ih =>
  intro o;simp only[zc5,List.foldl_cons];by_cases h:x<o
  .rw [if_pos h]
   obtain⟨h1,h2,h3⟩:=ih x;refine⟨.inr ?_,λ y hy=>?_, ?_⟩
   .rcases h1 with h1|h1
    .rw [show List.foldl (λ o x=>if x<o then x else o) x L=x from h1];simp
    .exact List.mem_cons_of_mem _ h1
   .rcases List.mem_cons.1 hy with rfl|hy
    .exact h3
    .exact h2 y hy
   .exact zeF h3 (znt h)
  .rw [if_neg h]
   obtain⟨h1,h2,h3⟩:=ih o;refine⟨?_,λ y hy=>?_,h3⟩
   .rcases h1 with h1|h1
    .exact .inl h1
    .exact .inr (List.mem_cons_of_mem _ h1)
   .rcases List.mem_cons.1 hy with rfl|hy
    .exact zeF h3 h
    .exact h2 y hy
def rot (l:List UInt8)(i:Nat):List UInt8:=l.drop i++l.take i
theorem zbZ {l:List UInt8}{i:Nat}:(rot l i).length=l.length:=by simp[rot];omega
theorem zkL {l:List UInt8}:rot l 0=l:=by simp[rot]
theorem zoH {l:List UInt8}:rot l l.length=l:=by simp[rot]
theorem zhE {l:List UInt8}{i x:Nat}(hi:i<=l.length)(hx:x<l.length):(rot l i)[x]? = l[(x+i) % l.length]? := by
 unfold rot;by_cases h:x<l.length-i
 .rw [List.getElem?_append_left (by simp;omega),List.getElem?_drop,Nat.mod_eq_of_lt (by omega),Nat.add_comm]
 .rw [List.getElem?_append_right (by simp;omega),List.length_drop,List.getElem?_take_of_lt (by omega)]
  congr 1
  rw[Nat.mod_eq_sub_mod (by omega),Nat.mod_eq_of_lt (by omega)];omega
theorem znu {l:List UInt8}{i j:Nat}(h:l≠[])(hi:i<=l.length)(hj:j<=l.length):rot (rot l i) j=rot l ((i+j) % l.length):=by
 have hl:0<l.length:=List.length_pos_iff.2 h;refine List.ext_getElem? λ x=>?_;by_cases hx:x<l.length
 .rw [zhE (by rw[zbZ];exact hj) (by rw[zbZ];exact hx),zbZ,zhE hi (Nat.mod_lt _ hl),zhE (Nat.le_of_lt (Nat.mod_lt _ hl)) hx]
  congr 1
  rw[Nat.mod_add_mod,Nat.add_mod_mod]
  congr 1;omega
 .rw [List.getElem?_eq_none (by rw[zbZ,zbZ];omega),List.getElem?_eq_none (by rw[zbZ];omega)]
def Turned (l m:List UInt8):Prop:=∃ i,i<=l.length/\m=rot l i
theorem Turned.symm {l m:List UInt8}(h:Turned l m):Turned m l:=by
 obtain⟨i,hi,rfl⟩:=h;by_cases h:l=[]
 .subst h;exact⟨0,by simp,by simp[rot]⟩
 .refine ⟨l.length-i,by rw[zbZ];omega, ?_⟩
  rw[znu h hi (by omega),show i+(l.length-i)=l.length by omega,Nat.mod_self,zkL]
theorem Turned.trans {l m k:List UInt8}(h1:Turned l m)(h2:Turned m k):Turned l k:=by
 obtain⟨i,hi,rfl⟩:=h1;obtain⟨j,hj,rfl⟩:=h2;rw[zbZ] at hj;by_cases h:l=[]
 .subst h;exact⟨0,by simp,by simp[rot]⟩
 .have hl:0<l.length:=List.length_pos_iff.2 h
  exact⟨(i+j) % l.length,Nat.le_of_lt (Nat.mod_lt _ hl),znu h hi hj⟩
theorem Turned.refl {l:List UInt8}:Turned l l:=⟨0,Nat.zero_le _,zkL.symm⟩
def fstN (l:List UInt8):List UInt8:=zc5 ((List.range l.length).map (rot l)) l
theorem zcL {l:List UInt8}:Turned l (fstN l):=by
 rcases(zeG ((List.range l.length).map (rot l)) l).1 with h|h
 .unfold fstN;rw[h];exact Turned.refl
 .obtain ⟨i,hi,e⟩:=List.mem_map.1 h
  exact⟨i,by simp at hi;omega,e.symm⟩
theorem zgv {l m:List UInt8}(h:Turned l m):¬ m<fstN l:=by
 obtain⟨hs1,hs2,hs3⟩:=zeG ((List.range l.length).map (rot l)) l;obtain⟨i,hi,rfl⟩:=h;by_cases he:i=l.length
 .subst he;rw[zoH];exact hs3
 .exact hs2 _ (List.mem_map.2 ⟨i,by simp;omega,rfl⟩)
theorem zqk {l m:List UInt8}:fstN l=fstN m ↔ Turned l m:=by
 constructor
 .intro h
  exact(h ▸ zcL (l:=l)).trans (zcL (l:=m)).symm
 .intro h
  exact zns (zgv (h.symm.trans zcL)) (zgv (h.trans zcL))
theorem zoI {l:List UInt8}{i:Nat}(hl:l.length<=1000):addS (strC (l.drop i)) (strC (l.take i))=some (strC (rot l i)):=znp (by simp;omega)
theorem zql {l:List UInt8}{i:Nat}(hi:i<=l.length):subS (strC l) (i:Int) (l.length:Int)=some (strC (l.drop i)):=by
 rw[zo8 hi (Nat.le_refl _),List.take_length]
theorem znv {l:List UInt8}{i:Nat}(hi:i<=l.length):subS (strC l) 0 (i:Int)=some (strC (l.take i)):=by
 have:=zo8 (l:=l) (a:=0) (b:=i) (by omega) hi;simpa using this
theorem zjV {l:List UInt8}(L:List Nat)(o:List UInt8):L.foldl (λ o i=>if rot l i<o then rot l i else o) o=zc5 (L.map (rot l)) o:=by
 unfold zc5;rw[List.foldl_map]
theorem zpa {l:List UInt8}{N:Nat}(hN:30<=N):f17 N (strC l)=some (if chk8 l=0 then (strC (fstN l),0) else (zft,chk8 l)):=by
 unfold f17;rw[zkK hN];by_cases h:chk8 l=0
 .have:=zhD h
  simp only[zre,h,not_true,decide_false,cond_false,if_true,zbI]
  have:=(zc4 (F:=λ n (o:List UInt8) i=>ziR (strC l) zdF n (strC o) i) (k:=λ o=>zdF (strC o)) (λ o i=>if rot l i<o then rot l i else o) (λ _ _=>True) l.length
   (λ n s i hi _=>by
    conv=>lhs;unfold ziR zkI
    simp only[zbf,show (i:Int)<(l.length:Int) by omega,decide_true,cond_true];rw[zql (by omega),znv (by omega)];simp only[zre];rw[zoI (by omega)];simp only[zre,minS,zqj,decide_eq_true_eq];rw[zeK (by omega)]
    by_cases hh:rot l i<s <;> simp only[hh,if_true,if_false])
   (λ _ _ _ _=>trivial)
   (λ n s=>by
    conv=>lhs;unfold ziR zkI
    simp only[zbf,Int.lt_irrefl,decide_false,cond_false]) (n:=N) (s:=l) (by omega) trivial).1
  rw[this,zjV];rfl
 .simp [h]
theorem ziS {s t:List UInt8}:Lib.contains s t=true ↔ ∃ i,i<=s.length/\Lib.occAt s t i=true:=by
 unfold Lib.contains;rw[decide_eq_true_eq];constructor
 .intro h
  rcases Lib.index_spec s t with ⟨h1,_⟩|⟨i,h1,h2,h3,_⟩
  .omega
  .exact ⟨i,by assumption,by assumption⟩
 .rintro ⟨i,hi,ho⟩
  rcases Lib.index_spec s t with ⟨h1,h2⟩|⟨i,h1,h2,h3,_⟩
  .have:=h2 i hi
   rw[this] at ho;cases ho
  .omega
theorem zc6 {l m:List UInt8}(h:l.length=m.length):Lib.contains (l++l) m=true ↔ Turned l m:=by
 rw[ziS]
 have key:∀ i,i<=l.length->((l++l).drop i).take l.length=rot l i:=by
  intro i hi;unfold rot;rw[List.drop_append_of_le_length hi,List.take_append]
  congr 1
  .rw [List.take_of_length_le (by simp)]
  .congr 1
   simp;omega
 constructor
 .rintro ⟨i,hi,ho⟩
  unfold Lib.occAt at ho;rw[List.isPrefixOf_iff_prefix] at ho;by_cases hil:i<=l.length
  .refine ⟨i,hil, ?_⟩
   rw[List.prefix_iff_eq_take] at ho;rw[ho,<- h,key i hil]
  .have:=ho.length_le
   simp at this hi;omega
 .rintro ⟨i,hi,rfl⟩
  refine⟨i,by simp;omega, ?_⟩;unfold Lib.occAt;rw[List.isPrefixOf_iff_prefix,List.prefix_iff_eq_take,zbZ,key i hi]
theorem zq5 {a b:List UInt8}{N:Nat}(ha:a.length<=1000):f61 N (strC a) (strC b)=some (Lib.contains a b):=by
 unfold f61;rw[zbJ,zbJ,if_pos (by simpa using ha)]
open Classical in
noncomputable def zoJ (l m:List UInt8):Bool×Int:=if chk8 l≠0 then (false,chk8 l) else if chk8 m≠0 then (false,chk8 m) else (decide (Turned l m),0)
open Classical in
theorem zq6 {l m:List UInt8}{N:Nat}(hN:30<=N):f16 N (strC l) (strC m)=some (zoJ l m):=by
 unfold f16;obtain⟨k,rfl⟩:∃ k,N=k+3:=⟨N-3,by omega⟩;simp only[zbI];unfold ziQ ziP;have i0:ix [strC l,strC m] 0=some (strC l):=rfl;have i1:ix [strC l,strC m] 1=some (strC m):=rfl
 have w0:W ((0:Int)+1)=1:=by decide
 have w1:W ((1:Int)+1)=2:=by decide
 simp only[List.length_cons,List.length_nil,i0,zre,zkK hN,w0];unfold zoJ;by_cases h1:chk8 l=0
 .simp only[h1,ne_eq,not_true,if_false,decide_false,cond_false]
  unfold ziQ ziP;simp only[List.length_cons,List.length_nil,i1,zre,zkK hN,w1];by_cases h2:chk8 m=0
  .simp only[h2,ne_eq,not_true,if_false,decide_false,cond_false]
   unfold ziQ ziP;simp only[List.length_cons,List.length_nil];unfold zfI;have l1:=zhD h1;have l2:=zhD h2;by_cases hl:l.length=m.length
   .simp only[zbf,hl,decide_true,cond_true]
    rw[znp (by omega),zre,zq5 (by simp;omega),zre];by_cases ht:Turned l m
    .rw [(zc6 hl).2 ht,decide_eq_true ht];rfl
    .rw [decide_eq_false ht]
     have:Lib.contains (l++l) m=false:=by
      rw[Bool.eq_false_iff];exact λ h=>ht ((zc6 hl).1 h)
     rw[this];rfl
   .simp only[zbf,show ¬ (l.length:Int)=(m.length:Int) by omega,decide_false,cond_false]
    have ht:¬ Turned l m:=by
     rintro⟨i,_,rfl⟩;exact hl zbZ.symm
    rw[decide_eq_false ht];rfl
  .simp [h2]
 .simp [h1]
end Go.Vc

/-
  A library for proofs about Go functions by symbolic evaluation,and plain Lean functions that the walked Go functions compute (written by a program of this claim).
-/
import Derived.Test.YtijmkjnlgcockaaGreatDoorFRDF6
import Derived.Test.YtijmkjnlgcockaaGreatDoorFRDF5
set_option linter.unusedVariables false
set_option linter.unnecessarySimpa false
set_option linter.unusedSimpArgs false
namespace Go.Vc
open Go.Proofs
def u8In (n:Int):Prop:=0<=n/\n<=255
def A4u8N.ok (x:A4u8N):Prop:=u8In x.e0/\u8In x.e1/\u8In x.e2/\u8In x.e3
def lnOf (x:A4u8N):Ln :=
 let a:=(x.e1 % 3).toNat;let e:=(x.e2 % 2).toNat;let n:=(1+x.e3 % 9).toNat;let k:=(x.e2 % 3).toNat
 match (x.e0 % 16).toNat with
 | 0=>.stone a n
 | 1=>.edition e
 | 2|3=>.draw a e
 | 4=>.paper e n
 | 5|6|7|8=>.print a n k
 | 9=>.close e
 | 10|11=>.claim a e n
 | 12|13=>.deliver a e n
 | _=>.grind a
def zpJ:List Ln:=[.stone 0 3, .stone 1 2, .edition 0, .paper 0 20, .draw 0 0]
def zh3 (s:List A4u8N):List Ln:=zpJ++(s.take 30).map lnOf
theorem zv8 {x:A4u8N}(h:x.ok):(lnOf x).ok:=by
 obtain⟨⟨h0,h0'⟩,⟨h1,h1'⟩,⟨h2,h2'⟩,h3,h3'⟩:=h
 have a3:(x.e1 % 3).toNat<3:=by omega
 have e2:(x.e2 % 2).toNat<2:=by omega
 have n1:1<=(1+x.e3 % 9).toNat:=by omega
 have n9:(1+x.e3 % 9).toNat<=9:=by omega
 have k2:(x.e2 % 3).toNat<=2:=by omega
 unfold lnOf;dsimp only
 split <;> simp only[Ln.ok] <;> omega
theorem zrO {s:List A4u8N}(h:∀ x,x∈s->x.ok):∀ l,l∈zh3 s->l.ok:=by
 intro l hl
 rcases List.mem_append.1 hl with hl|hl
 .simp only[zpJ,List.mem_cons,List.not_mem_nil,or_false] at hl
  rcases hl with rfl|rfl|rfl|rfl|rfl <;> simp[Ln.ok]
 .obtain ⟨x,hx,rfl⟩:=List.mem_map.1 hl
  exact zv8 (h x (List.mem_of_mem_take hx))
theorem zv9 {s t:ByteArray}(h:s.size+t.size<=1000000):addS s t=some (s++t):=by
 unfold addS;rw[if_pos (by simp only[maxLen];omega)]
theorem zkj (n:Nat):(num n).size<=7:=zfI 7 n
theorem za8 (l:List UInt8):(strC l).size=l.length:=by simp[strC,ByteArray.size]
theorem zgQ (k i:Nat):(nm0 k i).size<=3:=by
 unfold nm0;rw[za8]
 split <;> simp
theorem zrP:sp.size=1:=rfl
theorem zh4 {N n:Nat}(hn:n<1000000):f30 (N+1) (n:Int)=some (num n):=by
 unfold f30;dsimp only;rw[if_pos (by omega)];rfl
theorem zw {N M:Nat}{i:Int}(h:u8In i):(f27 N).bind (λ x=>f50 M x i)=some (nm0 0 (i % 3).toNat):=by
 obtain⟨h1,h2⟩:=h
 have h3:Int.tmod i 3=(((i % 3).toNat:Nat):Int):=by rw[Int.tmod_eq_emod_of_nonneg h1];omega
 have h4:(i % 3).toNat<3:=by omega
 unfold f27 f50;simp only[zyQ,List.length_cons,List.length_nil];generalize (i % 3).toNat=j at h3 h4;show (ix [strC [97],strC [98],strC [99]] (Int.tmod i 3)).bind (λ x1=>some x1)=_;rw[h3]
 match j,h4 with
 | 0,_=>rfl
 | 1,_=>rfl
 | 2,_=>rfl
theorem zwa {N M:Nat}{i:Int}(h:u8In i):(f28 N).bind (λ x=>f50 M x i)=some (nm0 1 (i % 2).toNat):=by
 obtain⟨h1,h2⟩:=h
 have h3:Int.tmod i 2=(((i % 2).toNat:Nat):Int):=by rw[Int.tmod_eq_emod_of_nonneg h1];omega
 have h4:(i % 2).toNat<2:=by omega
 unfold f28 f50;simp only[zyQ,List.length_cons,List.length_nil];generalize (i % 2).toNat=j at h3 h4;show (ix [strC [109,97,112],strC [111,100,101]] (Int.tmod i 2)).bind (λ x1=>some x1)=_;rw[h3]
 match j,h4 with
 | 0,_=>rfl
 | 1,_=>rfl
theorem zwb {N M:Nat}{i:Int}(h:u8In i):(f29 N).bind (λ x=>f50 M x i)=some (nm0 2 (i % 3).toNat):=by
 obtain⟨h1,h2⟩:=h
 have h3:Int.tmod i 3=(((i % 3).toNat:Nat):Int):=by rw[Int.tmod_eq_emod_of_nonneg h1];omega
 have h4:(i % 3).toNat<3:=by omega
 unfold f29 f50;simp only[zyQ,List.length_cons,List.length_nil];generalize (i % 3).toNat=j at h3 h4;show (ix [strC [97,110,110],strC [98,111,98],strC [99,121]] (Int.tmod i 3)).bind (λ x1=>some x1)=_;rw[h3]
 match j,h4 with
 | 0,_=>rfl
 | 1,_=>rfl
 | 2,_=>rfl
theorem zdw {α β γ:Type}(o:Option α)(f:α->Option β)(g:β->Option γ):(o.bind λ x=>(f x).bind g)=(o.bind f).bind g:=by cases o <;> rfl
theorem ztY {a0:List A4u8N}{N n:Nat}{k0:List ByteArray->Option (List ByteArray)}{v:List ByteArray}{i:Nat}{x:A4u8N}(hx:a0[i]? = some x)(hok:x.ok)(hi:i<30)(hv:v.length<=1000) :
  zhK a0 (N+1) k0 (n+1) v (i:Int)=zhK a0 (N+1) k0 n (v++[txt nm0 (lnOf x)]) ((i+1:Nat):Int):=by
 have hil:i<a0.length:=(zyR.1 hx).1;obtain⟨o0,o1,o2,o3⟩:=hok;simp only[zhK,zlY];rw[show decide ((i:Int)<(a0.length:Int))=true from by simpa using hil,show decide ((30:Int)<=(i:Int))=false from decide_eq_false (by omega)];simp only[cond_true,cond_false,zbk,hx,zyQ];rw[zdw,zw o1];simp only[zyQ];rw[zdw,zwa o2];simp only[zyQ];rw[zdw,zwb o1];simp only[zyQ];obtain⟨h0,h0'⟩:=o0;obtain⟨h1,h1'⟩:=o1;obtain⟨h2,h2'⟩:=o2;obtain⟨h3,h3'⟩:=o3
 have e9:W ((1:Int)+Int.tmod x.e3 9)=(((1+x.e3 % 9).toNat:Nat):Int):=by
  rw[Int.tmod_eq_emod_of_nonneg h3,W_of (by omega) (by omega)];omega
 have e3:Int.tmod x.e2 3=(((x.e2 % 3).toNat:Nat):Int):=by rw[Int.tmod_eq_emod_of_nonneg h2];omega
 rw[e9,e3,zh4 (by omega),zh4 (by omega)];simp only[zyQ];have e16:Int.tmod x.e0 16=x.e0 % 16:=Int.tmod_eq_emod_of_nonneg h0;rw[e16,zcC (by omega)]
 have hj:0<=x.e0 % 16/\x.e0 % 16<16:=by omega
 have ap:∀ y:ByteArray,app 16 v [y]=some (v++[y]):=λ y=>zeQ (by simp;omega) (by simp;omega);have s1:=zkj (1+x.e3 % 9).toNat;have s2:=zkj (x.e2 % 3).toNat;have s3:=zgQ 0 (x.e1 % 3).toNat;have s4:=zgQ 1 (x.e2 % 2).toNat;have s5:=zgQ 2 (x.e1 % 3).toNat;have ad:∀ {s t:ByteArray},s.size+t.size<=1000000->addS s t=some (s++t):=zv9;unfold lnOf;dsimp only;generalize x.e0 % 16=j at hj
 have:j=0∨j=1∨j=2∨j=3∨j=4∨j=5∨j=6∨j=7∨j=8∨j=9∨j=10∨j=11∨j=12∨j=13∨j=14∨j=15:=by omega
 rcases this with rfl|rfl|rfl|rfl|rfl|rfl|rfl|rfl|rfl|rfl|rfl|rfl|rfl|rfl|rfl|rfl <;> simp(config:={decide:=true}) only[cond_true,cond_false,decide_true,decide_false] <;>
 (repeat' (first|(rw[ad];simp only[zyQ])|(rw[ap];simp only[zyQ])))
 all_goals first|rfl|(simp only[ByteArray.size_append,za8,List.length_cons,List.length_nil,zrP,txt];omega)
theorem ztZ {a0:List A4u8N}{N:Nat}(hok:∀ x,x∈a0->x.ok):∀ (m n i:Nat) (v:List ByteArray),30-i=m->m<n->v.length+m<=1000->i<=30 ->
  zhK a0 (N+1) zen n v (i:Int)=some (v++((a0.take 30).drop i).map λ x=>txt nm0 (lnOf x)):=by
 intro m
 induction m with
 | zero =>
  intro n i v hi hn hv h30;obtain⟨n,rfl⟩:∃ q,n=q+1:=⟨n-1,by omega⟩
  have:i=30:=by omega
  subst this;rw[List.drop_of_length_le (by simp;omega)];simp only[zhK,zlY,zen,List.map_nil,List.append_nil];by_cases h:30<a0.length
  .obtain ⟨x,hx⟩:∃ x,a0[30]? = some x:=⟨a0[30],by simp[h]⟩
   rw[show decide (((30:Nat):Int)<(a0.length:Int))=true from decide_eq_true (by omega),cond_true,zbk,hx];rfl
  .rw [show decide (((30:Nat):Int)<(a0.length:Int))=false from decide_eq_false (by omega),cond_false]
 | succ m ih =>
  intro n i v hi hn hv h30;obtain⟨n,rfl⟩:∃ q,n=q+1:=⟨n-1,by omega⟩;by_cases h:i<a0.length
  .obtain ⟨x,hx⟩:∃ x,a0[i]? = some x:=⟨a0[i],by simp[h]⟩
   rw[ztY hx (hok x (zyU hx)) (by omega) (by omega),ih n (i+1) _ (by omega) (by omega) (by simp;omega) (by omega)]
   have hd:(a0.take 30).drop i=x::(a0.take 30).drop (i+1):=by
    have hl:i<(a0.take 30).length:=by simp;omega
    rw[List.drop_eq_getElem_cons hl]
    congr 1
    have:=zyR.1 hx;simp[this.2]
   rw[hd];simp
  .rw [List.drop_of_length_le (by simp;omega)]
   simp only[zhK,zlY,zen,List.map_nil,List.append_nil];rw[show decide ((i:Int)<(a0.length:Int))=false from decide_eq_false (by omega),cond_false]
theorem zt0:[(strC [115,116,111,110,101,32,97,32,51]),(strC [115,116,111,110,101,32,98,32,50]),(strC [101,100,105,116,105,111,110,32,109,97,112]),(strC [112,97,112,101,114,32,109,97,112,32,50,48]),(strC [100,114,97,119,32,97,32,109,97,112])]=zpJ.map (txt nm0):=by kernel_rfl
theorem zyv {a0:List A4u8N}{N:Nat}(hN:40<=N)(hok:∀ x,x∈a0->x.ok):f26 N a0=some ((zh3 a0).map (txt nm0)):=by
 obtain⟨N,rfl⟩:∃ q,N=q+1:=⟨N-1,by omega⟩;unfold f26 zau;rw[zt0];have:=ztZ (N:=N) hok 30 (N+1) 0 (zpJ.map (txt nm0)) rfl (by omega) (by simp[zpJ]) (by omega);exact this.trans (by simp[zh3,Function.comp_def])
end Go.Vc
namespace Go.Vc
open Go.Proofs
def zou (b:Bk)(k:ByteArray):Int×ByteArray×Int:=match stO b.S k with
 | none=>(0,zbO,5)
 | some a=>match a.of with
  | none=>(a.thick,zbO,0)
  | some j=>(a.thick,((getF b.E j).map (·.name)).getD zbO,0)
def zer (b:Bk)(k:ByteArray):List Int×Int:=match edO b.E k with
 | none=>([],5)
 | some e=>(e.places,0)
def EditionM.tally (e:EditionM):Tally:=⟨e.paper,e.delivered,e.spoilt,sumI e.places-e.rest e.from_,e.rest e.from_⟩
def zov (b:Bk)(k:ByteArray):Tally×Int:=match edO b.E k with
 | none=>(⟨0,0,0,0,0⟩,5)
 | some e=>(e.tally,0)
def zow (b:Bk)(k:ByteArray):Int×Int:=match edO b.E k with
 | none=>(0,5)
 | some e=>(max 0 (e.open_-e.rest e.from_),0)
def zrQ (b:Bk)(c k:ByteArray):Int×Int:=match edO b.E k with
 | none=>(0,5)
 | some e=>if (zbB 0 c e.owed).2=true then ((zbB 0 c e.owed).1,0) else (0,5)
section
variable {b:Bk} {k c:ByteArray} {M:Nat}
theorem zuV (h:BkOK b):f21 (M+1) b.L b.S b.E b.C=some b.L:=by
 have:=h.ll;simp only[f21,f21b];rw[zeQ (by simp;omega) (by simp;omega)];simp only[zyQ,List.nil_append]
 exact zlu λ h=>by rw[h]
theorem zyw (h:BkOK b)(hk:f61 M k=some true):f32 (M+1) k b.L b.S b.E b.C=some (zou b k):=by
 simp only[f32,f32b,hk,zyQ,Bool.not_true,cond_false,zou,stO]
 cases hl:zaA k b.S with
 | none=>simp[onO]
 | some i =>
  obtain⟨a,ha⟩:=zaP hl;simp only[onO,ha,zyQ]
  cases hof:a.of with
  | none=>rfl
  | some j =>
   obtain⟨e,he,_⟩:=(h.sh.gS ha).getE hof;simp[he]
theorem zyx (h:BkOK b)(hk:f61 M k=some true):f33 (M+1) k b.L b.S b.E b.C=some (zer b k):=by
 have hl:=h.ll;simp only[f33,f33b,hk,zyQ,Bool.not_true,cond_false,zer,edO]
 cases hE:zaA k b.E with
 | none=>simp[onO]
 | some j =>
  obtain⟨e,he⟩:=zaP hE;have hK:=h.sh.gE he;have h1:=hK.le;simp only[onO,he,zyQ];rw[zeQ (by simp;omega) (by simp;omega)];simp only[zyQ,List.nil_append]
  exact zlu λ h=>by rw[h]
theorem zyy (h:BkOK b)(hM:130<=M)(hk:f61 M k=some true):f34 (M+1) k b.L b.S b.E b.C=some (zov b k):=by
 have hl:=h.ll;simp only[f34,f34b,hk,zyQ,Bool.not_true,cond_false,zov,edO]
 cases hE:zaA k b.E with
 | none=>simp[onO]
 | some j =>
  obtain⟨e,he⟩:=zaP hE;have hK:=h.sh.gE he;have h1:=hK.le;have h2:=hK.f0;have h3:=hK.fl;have h4:=hK.rest_b e.from_;have h5:=hK.sums;have h6:=zcZ hK.nn
  have hr:e.rest 0=sumI e.places:=by simp[EditionM.rest]
  simp only[onO,he,zyQ];rw[ziY hK (by omega) (by omega) (by omega) (by omega),ziY hK (by omega) (by omega) (by omega) (by omega)];simp only[zyQ,hr];rw[zaE (by omega) (by omega)];rfl
theorem zyz (h:BkOK b)(hM:130<=M)(hk:f61 M k=some true):f40 (M+1) k b.L b.S b.E b.C=some (zow b k):=by
 have hl:=h.ll;simp only[f40,f40b,hk,zyQ,Bool.not_true,cond_false,zow,edO]
 cases hE:zaA k b.E with
 | none=>simp[onO]
 | some j =>
  obtain⟨e,he⟩:=zaP hE;have hK:=h.sh.gE he;have h1:=hK.le;have h2:=hK.f0;have h3:=hK.fl;have h4:=hK.rest_b e.from_;have h5:=hK.open0;have h6:=hK.ob;simp only[onO,he,zyQ];rw[ziY hK (by omega) (by omega) (by omega) (by omega)];simp only[zyQ];rw[zaE (by omega) (by omega)]
theorem zyA (h:BkOK b)(hc:f61 M c=some true)(hk:f61 M k=some true):f36 (M+1) c k b.L b.S b.E b.C=some (zrQ b c k):=by
 simp only[f36,f36b,hc,hk,zyQ,Bool.not_true,cond_false,zrQ,edO]
 cases hE:zaA k b.E with
 | none=>simp[onO]
 | some j =>
  obtain⟨e,he⟩:=zaP hE;simp only[onO,he,zyQ]
  cases (zbB 0 c e.owed).2 <;> simp
end
end Go.Vc

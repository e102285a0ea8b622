/-
  A library for proofs about Go functions by symbolic evaluation,and plain Lean functions that the walked Go functions compute (written by a program of this claim).
-/
import Derived.Test.YtijmkjnlgcockaaGreatDoorFFIF1
import Derived.Test.YtijmkjnlgcockaaGreatDoorFFIF2
import Derived.Test.YtijmkjnlgcockaaGreatDoorFFIF3
import Derived.Test.YtijmkjnlgcockaaGreatDoorFFIF4
import Derived.Test.YtijmkjnlgcockaaGreatDoorVc4
set_option linter.unusedVariables false
set_option linter.unnecessarySimpa false
set_option linter.unusedSimpArgs false
namespace Go.Vc
open Go.Proofs
set_option maxRecDepth 20000 in
set_option maxHeartbeats 4000000 in
theorem P8:PureOK Tryz.prog 8 G8:=by
 refine zae (c:=zam zaf [(43,false,zbv (zam zaf [(19,false,zbv (zam zaf [(52,true,lendPg [[0,1],[0]] G52)]) Tryz.f19),(16,false,zbv (zam zaf []) Tryz.f16),(76,true,lendPg [[0]] G76),(30,true,lendPg [[0]] G30)]) Tryz.f43),(42,false,zbv (zam zaf [(15,false,zbv (zam zaf []) Tryz.f15),(18,true,effPg zqj G18),(75,true,lendPg [[0]] G75),(74,true,lendPg [[0],[0]] G74),(73,true,zcF [[0],[0]] G73),(72,true,lendPg [[0],[0]] G72),(30,true,lendPg [[0]] G30)]) Tryz.f42),(22,false,zbv (zam zaf [(55,true,lendPg [[0,1]] G55)]) Tryz.f22),(23,true,effPg zqk G23),(21,true,effPg zsa G21),(24,true,lendPg [[0,1]] G24),(20,true,lendPg [[1],[1]] G20),(14,true,lendPg [] G14)]) rfl tyOK (zaH (za Tryz.func43 rfl rfl) (CallOK.inl rfl tyOK (zaH (za Tryz.func19 rfl rfl) (CallOK.inl rfl tyOK (zad (za Tryz.func52 rfl rfl) P52 (zac)) Tryz.func19 (by kernel_rfl)) (zaH (za Tryz.func16 rfl rfl) (CallOK.inl rfl tyOK (zac) Tryz.func16 (by kernel_rfl)) (zad (za Tryz.func76 rfl rfl) P76 (zad (za Tryz.func30 rfl rfl) P30 (zac))))) Tryz.func43 (by kernel_rfl)) (zaH (za Tryz.func42 rfl rfl) (CallOK.inl rfl tyOK (zaH (za Tryz.func15 rfl rfl) (CallOK.inl rfl tyOK (zac) Tryz.func15 (by kernel_rfl)) (zak (za Tryz.func18 rfl rfl) P18 (zad (za Tryz.func75 rfl rfl) P75 (zad (za Tryz.func74 rfl rfl) P74 (zbI (za Tryz.func73 rfl rfl) P73 (zad (za Tryz.func72 rfl rfl) P72 (zad (za Tryz.func30 rfl rfl) P30 (zac)))))))) Tryz.func42 (by kernel_rfl)) (zaH (za Tryz.func22 rfl rfl) (CallOK.inl rfl tyOK (zad (za Tryz.func55 rfl rfl) P55 (zac)) Tryz.func22 (by kernel_rfl)) (zak (za Tryz.func23 rfl rfl) P23 (zak (za Tryz.func21 rfl rfl) P21 (zad (za Tryz.func24 rfl rfl) P24 (zad (za Tryz.func20 rfl rfl) P20 (zad (za Tryz.func14 rfl rfl) P14 (zac))))))))) [[0]] 1 Tryz.func8 rfl rfl (by decide) (by kernel_rfl) ?_;rintro ds d ⟨N,a0,r,rfl,hF,rfl⟩ hok;clear hok;refine⟨rfl, ?_⟩;show vc _ _ _ _ ⟨[(0, .dat (strN a0))],[]⟩ _;unfold f8 at hF;exact wk1


end Go.Vc
namespace Go.Vc
end Go.Vc
namespace Go.Vc
open Go.Proofs
def sumI:List Int->Int
 | []=>0
 | x::l=>x+sumI l
theorem zpi (a b:List Int):sumI (a++b)=sumI a+sumI b:=by
 induction a with
 | nil=>simp[sumI]
 | cons x a ih=>grind [sumI]
theorem zb8 {l:List Int}(h:∀ k,k∈l->0<=k):0<=sumI l:=by
 induction l with
 | nil=>simp[sumI]
 | cons x l ih =>
  simp only[List.mem_cons,forall_eq_or_imp] at h
  grind [sumI]
theorem zhM {l:List Int}{i:Nat}{x y:Int}(h:l[i]? = some x):sumI (l.set i y)=sumI l-x+y:=by
 induction l generalizing i with
 | nil=>simp at h
 | cons z l ih =>
  cases i with
  | zero=>grind [sumI]
  | succ i=>grind [sumI]
theorem zsC {l:List Int}(h:∀ k,k∈l->0<=k){i:Nat}{x:Int}(hx:l[i]? = some x):x<=sumI l:=by
 induction l generalizing i with
 | nil=>simp at hx
 | cons z l ih =>
  simp only[List.mem_cons,forall_eq_or_imp] at h;have:=zb8 h.2
  grind [sumI]
theorem ziZ {l:List Int}(h:∀ k,k∈l->0<=k)(n:Nat):0<=sumI (l.drop n)/\sumI (l.drop n)<=sumI l:=by
 have h1:0<=sumI (l.drop n):=zb8 λ k hk=>h k (List.mem_of_mem_drop hk);have h2:0<=sumI (l.take n):=zb8 λ k hk=>h k (List.mem_of_mem_take hk)
 grind [zpi,List.take_append_drop]
abbrev TS:=List (ByteArray×StoneM)
abbrev TE:=List (ByteArray×EditionM)
abbrev TC:=List (ByteArray×Bool)
section
variable {κ σ:Type}
def modF (l:List (κ×σ))(i:Nat)(f:σ->σ):List (κ×σ):=l.modify i λ p=>(p.1,f p.2)
theorem zeA {l:List (κ×σ)}{i:Nat}{x:σ}{f:σ->σ}(h:getF l i=some x):setF l i (f x)=modF l i f:=by
 obtain⟨k,hk⟩:=za4.1 h;unfold setF modF;apply List.ext_getElem?
 grind
theorem ze9 {l:List (κ×σ)}{i:Nat}{x y:σ}:setF (setF l i x) i y=setF l i y:=by
 unfold setF;apply List.ext_getElem?
 grind
theorem zlg {l:List (κ×σ)}{i:Nat}{f:σ->σ}:(modF l i f).length=l.length:=by simp[modF]
theorem zm4 {l:List (κ×σ)}{i:Nat}{f:σ->σ}:(modF l i f).map (·.1)=l.map (·.1):=by
 unfold modF;apply List.ext_getElem?
 grind
theorem zdC {l:List (κ×σ)}{i j:Nat}{f:σ->σ}:(modF l i f)[j]? = if i=j then (l[j]?).map (λ p=>(p.1,f p.2)) else l[j]? := by
 grind [modF,GetElem?.getElem?]
theorem zhN {l:List (κ×σ)}{i:Nat}{f:σ->σ}{p:κ×σ}(h:p∈modF l i f):p∈l ∨ ∃ q,l[i]? = some q/\p=(q.1,f q.2):=by
 grind [List.getElem?_of_mem,zdC,zAp]
theorem zcS {l:List (κ×σ)}{i:Nat}{x:σ}(h:getF l i=some x):∃ q,l[i]? = some q/\q.2=x:=by
 grind [za4]
theorem zbb [DecidableEq κ]{k:κ}{l:List (κ×σ)}{i:Nat}(h:zas k l=some i):∃ x,getF l i=some x:=by
 obtain⟨⟨x,hx⟩,_⟩:=zbP.1 h;exact⟨x,za4.2 ⟨k,hx⟩⟩
end
def stO (S:TS)(k:ByteArray):Option StoneM:=(zas k S).bind (getF S)
def edO (E:TE)(k:ByteArray):Option EditionM:=(zas k E).bind (getF E)
def EditionM.rest (e:EditionM)(k:Int):Int:=sumI (e.places.drop k.toNat)
def EditionM.at_ (e:EditionM)(k:Int):Int:=(e.places[k.toNat]?).getD 0
def EditionM.last (e:EditionM):Int:=(e.places[e.places.length-1]?).getD 0
def zao (S:TS)(E:TE)(C:TC):I97->Int
 | .nil=>0
 | .c199 x=>if (zas x.name S).isSome then 6 else if S.length=8 then 2 else 0
 | .c201 x=>if (zas x.name E).isSome then 6 else if E.length=5 then 2 else 0
 | .c203 x=>match stO S x.stone,edO E x.edition with
  | some a,some e=>if a.of.isSome then 20 else if e.closed then 21 else 0
  | _,_=>5
 | .c205 x=>match edO E x.edition with
  | none=>5
  | some e=>if 0<e.from_ then 21 else if 5000<e.paper+x.n then 16 else 0
 | .c207 x=>match stO S x.stone with
  | none=>5
  | some a=>match a.of with
   | none=>1
   | some j=>if x.good+x.spoilt=0 then 1 else match getF E j with
    | none=>0
    | some e=>if e.at_ a.place<x.good+x.spoilt then 16 else 0
 | .c209 x=>match edO E x.edition with
  | none=>5
  | some e=>if e.closed then 21 else if e.places.length=1 then 1 else 0
 | .c211 x=>match edO E x.edition with
  | none=>5
  | some e=>if (za2 false x.customer C).1=false/\C.length=6 then 2 else if e.rest e.from_<e.open_+x.n then 16 else 0
 | .c213 x=>match edO E x.claiming.edition with
  | none=>5
  | some e=>if (za2 0 x.claiming.customer e.owed).2=false then 5 else if e.closed=false then 22 else if (za2 0 x.claiming.customer e.owed).1<x.claiming.n then 14 else if e.last<x.claiming.n then 16 else 0
 | .c215 x=>match stO S x.stone with
  | none=>5
  | some a=>match a.of with
   | none=>1
   | some j=>match getF E j with
    | none=>0
    | some e=>if e.closed=false then 22 else if e.rest (max e.from_ (a.place+1))<e.rest e.from_/\e.rest (max e.from_ (a.place+1))<e.open_ then 12 else if a.thick=1 then 13 else 0
def doM (S:TS)(E:TE)(C:TC):I97->TS×TE×TC
 | .nil=>(S,E,C)
 | .c199 x=>(S++[(x.name,⟨x.thick,none,0⟩)],E,C)
 | .c201 x=>(S,E++[(x.name,⟨x.name,false,[0],0,0,0,0,[],0⟩)],C)
 | .c203 x=>match zas x.stone S,zas x.edition E with
  | some i,some j=>(modF S i λ a=>{ a with of:=some j,place:=(((getF E j).map (·.places.length)).getD 0:Nat)-1 },modF E j λ e=>{ e with places:=e.places++[0] },C)
  | _,_=>(S,E,C)
 | .c205 x=>match zas x.edition E with
  | some j=>(S,modF E j λ e=>{ e with paper:=e.paper+x.n,places:=e.places.set 0 (e.at_ 0+x.n) },C)
  | none=>(S,E,C)
 | .c207 x=>match stO S x.stone with
  | some a=>match a.of with
   | some j=>(S,modF E j λ e=>{ e with places:=(e.places.set a.place.toNat (e.at_ a.place-(x.good+x.spoilt))).set (a.place.toNat+1) (e.at_ (a.place+1)+x.good),spoilt:=e.spoilt+x.spoilt },C)
   | none=>(S,E,C)
  | none=>(S,E,C)
 | .c209 x=>match zas x.edition E with
  | some j=>(S,modF E j λ e=>{ e with closed:=true },C)
  | none=>(S,E,C)
 | .c211 x=>match zas x.edition E with
  | some j=>(S,modF E j λ e=>{ e with owed:=setK x.customer ((za2 0 x.customer e.owed).1+x.n) e.owed,open_:=e.open_+x.n },setK x.customer true C)
  | none=>(S,E,C)
 | .c213 x=>match zas x.claiming.edition E with
  | some j=>(S,modF E j λ e=>{ e with owed:=setK x.claiming.customer ((za2 0 x.claiming.customer e.owed).1-x.claiming.n) e.owed,open_:=e.open_-x.claiming.n,delivered:=e.delivered+x.claiming.n,places:=e.places.set (e.places.length-1) (e.last-x.claiming.n) },C)
  | none=>(S,E,C)
 | .c215 x=>match zas x.stone S with
  | some i=>match (getF S i).bind (·.of) with
   | some j=>(modF S i λ a=>⟨a.thick-1,none,0⟩,modF E j λ e=>{ e with from_:=max e.from_ (((getF S i).map (·.place)).getD 0+1) },C)
   | none=>(S,E,C)
  | none=>(S,E,C)
structure EdOK (n:Nat)(e:EditionM):Prop where
 ne:1<=e.places.length
 le:e.places.length<=n+1
 nn:∀ k,k∈e.places->0<=k
 sm:sumI e.places+e.delivered+e.spoilt=e.paper
 pp:e.paper<=5000
 dl:0<=e.delivered
 sp:0<=e.spoilt
 f0:0<=e.from_
 fl:e.from_<e.places.length
 ow:∀ p,p∈e.owed->0<=p.2
 os:e.open_=sumI (e.owed.map (·.2))
 ob:e.open_<=5000
structure StOK (E:TE)(a:StoneM):Prop where
 t1:1<=a.thick
 t9:a.thick<=99
 pl:∀ j,a.of=some j->∃ q,E[j]? = some q/\0<=a.place/\a.place+1<q.2.places.length
structure ShOK (n:Nat)(S:TS)(E:TE)(C:TC):Prop where
 sl:S.length<=8
 el:E.length<=5
 cl:C.length<=6
 sk:(S.map (·.1)).Nodup
 ek:(E.map (·.1)).Nodup
 st:∀ p,p∈S->StOK E p.2
 ed:∀ p,p∈E->EdOK n p.2/\p.2.name=p.1
def zbt:I97->Prop
 | .nil=>False
 | .c199 x=>1<=x.thick/\x.thick<=99
 | .c205 x=>1<=x.n/\x.n<=5000
 | .c207 x=>0<=x.good/\x.good<=5000/\0<=x.spoilt/\x.spoilt<=5000
 | .c211 x=>1<=x.n/\x.n<=5000
 | .c213 x=>1<=x.claiming.n/\x.claiming.n<=5000
 | _=>True
theorem EdOK.sums {n:Nat}{e:EditionM}(h:EdOK n e):sumI e.places<=5000:=by have:=h.sm;have:=h.pp;have:=h.dl;have:=h.sp;omega
theorem EdOK.rest_b {n:Nat}{e:EditionM}(h:EdOK n e)(k:Int):0<=e.rest k/\e.rest k<=5000:=by
 have h1:=ziZ h.nn k.toNat;have h2:=h.sums
 grind [EditionM.rest]
end Go.Vc
namespace Go.Vc
open Go.Proofs
theorem zuP {k0:Int->Option Int}{x1:List Int}:∀ (r:List Int) (i n:Nat) (acc:Int),x1.drop i=r->i<=x1.length->r.length<n->(∀ k,k∈r->0<=k)->0<=acc->acc+sumI r<=1000000->x1.length<=1000000 ->
  zmz k0 x1 n acc (i:Int)=k0 (acc+sumI r):=by
 intro r
 induction r with
 | nil =>
  intro i n acc hd hi hn hnn ha hs hl;obtain⟨n,rfl⟩:∃ q,n=q+1:=⟨n-1,by omega⟩
  have:i=x1.length:=by grind
  subst this;simp only[zmz,zo5,sumI,Int.add_zero]
  grind
 | cons y r ih =>
  intro i n acc hd hi hn hnn ha hs hl;obtain⟨n,rfl⟩:∃ q,n=q+1:=⟨n-1,by omega⟩
  have hx:x1[i]? = some y:=by
   have:(x1.drop i)[0]? = some y:=by rw[hd];rfl
   simpa using this
  have hil:=(zAm.1 hx).1;simp only[List.mem_cons,forall_eq_or_imp] at hnn;simp only[sumI] at hs;have hr:=zb8 hnn.2;simp only[zmz,zo5,zaU,hx,zAl];rw[show decide ((i:Int)<(x1.length:Int))=true from decide_eq_true (by omega),cond_true,zbE (by omega),W_of (by omega) (by omega),ih (i+1) n (acc+y) (by rw[<- List.drop_drop,hd];rfl) (by omega) (by grind) hnn.2 (by omega) (by omega) hl];simp only[sumI,Int.add_assoc]
theorem zsD {m M:Nat}{e:EditionM}(h:EdOK m e){k:Int}(h0:0<=k)(hk:k<=e.places.length)(hM:m+2<=M)(hm:m<=1000):f64 M e k=some (e.rest k):=by
 have hle:=h.le;have hs:=ziZ h.nn k.toNat;have h5:=h.sums;unfold f64 zap;obtain⟨j,rfl⟩:∃ j:Nat,k=j:=⟨k.toNat,by omega⟩;rw[zeP (by omega) (by omega)];simp only[zAl,List.take_length];have:=zuP (k0:=ziu) (x1:=e.places.drop j) (e.places.drop j) 0 M 0 rfl (by omega) (by simp;omega) (λ k hk=>h.nn k (List.mem_of_mem_drop hk)) (by omega) (by grind) (by simp;omega)
 grind [ziu,EditionM.rest]
theorem zoj {α:Type}{l:List α}(h:l.length<=1000):lenM l=some l.length:=by
 unfold lenM;rw[if_pos (by simp only[maxLen];omega)]
section
variable {n m:Nat} {S:TS} {E:TE} {C:TC}
theorem ShOK.gS (h:ShOK n S E C){i:Nat}{a:StoneM}(ha:getF S i=some a):StOK E a:=by
 obtain⟨q,hq,rfl⟩:=zcS ha;exact h.st q (zAp hq)
theorem ShOK.gE (h:ShOK n S E C){j:Nat}{e:EditionM}(he:getF E j=some e):EdOK n e:=by
 obtain⟨q,hq,rfl⟩:=zcS he;exact(h.ed q (zAp hq)).1
theorem StOK.getE {a:StoneM}(h:StOK E a){j:Nat}(hj:a.of=some j):∃ e,getF E j=some e/\0<=a.place/\a.place+1<e.places.length:=by
 obtain⟨q,h1,h2,h3⟩:=h.pl j hj
 grind [za4]
theorem w198 (h:ShOK n S E C)(x:NewStone):f198 (m+1) x S E C=some (zao S E C (.c199 x)):=by
 have:=h.sl;simp only[f198,zup,zao]
 cases hl:zas x.name S with
 | some i=>simp[onO]
 | none =>
  simp only[onO,zoj (l:=S) (by omega),zAl,zaC,decide_eq_true_eq]
  grind
theorem w200 (h:ShOK n S E C)(x:NewEdition):f200 (m+1) x S E C=some (zao S E C (.c201 x)):=by
 have:=h.el;simp only[f200,zuq,zao]
 cases hl:zas x.name E with
 | some i=>simp[onO]
 | none =>
  simp only[onO,zoj (l:=E) (by omega),zAl,zaC,decide_eq_true_eq]
  grind
theorem w202 (h:ShOK n S E C)(x:Drawing):f202 (m+1) x S E C=some (zao S E C (.c203 x)):=by
 simp only[f202,zur,zao,stO,edO]
 cases hl:zas x.stone S with
 | none=>cases hE:zas x.edition E <;> simp[onO]
 | some i =>
  obtain⟨a,ha⟩:=zbb hl
  cases hE:zas x.edition E with
  | none=>simp[onO,ha]
  | some j =>
   obtain⟨e,he⟩:=zbb hE;simp only[onO,ha,he,zAl]
   grind
theorem w204 (h:ShOK n S E C)(x:Paper)(ho:zbt (.c205 x)):f204 (m+1) x S E C=some (zao S E C (.c205 x)):=by
 simp only[f204,zus,zao,edO]
 cases hE:zas x.edition E with
 | none=>simp[onO]
 | some j =>
  obtain⟨e,he⟩:=zbb hE;have hK:=h.gE he;have h1:=hK.pp;have h2:=hK.sm;have h3:=zb8 hK.nn;have h4:=hK.dl;have h5:=hK.sp;obtain⟨o1,o2⟩:=ho;simp only[onO,he,zAl,zaC,decide_eq_true_eq]
  grind [W_of]
theorem EdOK.at_ {e:EditionM}(h:EdOK n e){k:Int}(h0:0<=k)(hk:k<e.places.length):ix e.places k=some (e.at_ k)/\0<=e.at_ k/\e.at_ k<=5000:=by
 obtain⟨j,rfl⟩:∃ j:Nat,k=j:=⟨k.toNat,by omega⟩
 have hj:j<e.places.length:=by omega
 have hx:e.places[j]? = some e.places[j]:=by simp[hj]
 have h1:=zsC h.nn hx;have h2:=h.nn _ (zAp hx);have h3:=h.sums
 have he:e.at_ j=e.places[j]:=by simp only[EditionM.at_,Int.toNat_natCast,hx,Option.getD_some]
 grind [zaU]
theorem EdOK.last_ {e:EditionM}(h:EdOK n e)(hn:n<=1000):ix e.places (W ((e.places.length:Int)-1))=some e.last/\0<=e.last/\e.last<=5000:=by
 have h1:=h.ne;have h2:=h.le;rw[W_of (by omega) (by omega)];have:=h.at_ (k:=(e.places.length:Int)-1) (by omega) (by omega)
 simp_all [EditionM.last,List.length,EditionM.at_]
theorem w206 (h:ShOK n S E C)(x:Printing)(ho:zbt (.c207 x))(hn:n<=1000):f206 (m+1) x S E C=some (zao S E C (.c207 x)):=by
 obtain⟨o1,o2,o3,o4⟩:=ho;simp only[f206,zut,zao,stO]
 cases hl:zas x.stone S with
 | none=>simp[onO]
 | some i =>
  obtain⟨a,ha⟩:=zbb hl;simp only[onO,ha,zAl]
  cases hof:a.of with
  | none=>rfl
  | some j =>
   obtain⟨e,he,h0,h1⟩:=(h.gS ha).getE hof;have hK:=h.gE he;obtain⟨hi,_,_⟩:=hK.at_ h0 (by omega);simp only[he,hi,zAl,zaC,decide_eq_true_eq]
   grind [W_of]
theorem w208 (h:ShOK n S E C)(x:Closing):f208 (m+1) x S E C=some (zao S E C (.c209 x)):=by
 simp only[f208,zuu,zao,edO]
 cases hE:zas x.edition E with
 | none=>simp[onO]
 | some j =>
  obtain⟨e,he⟩:=zbb hE;simp only[onO,he,zAl,zaC,decide_eq_true_eq]
  grind
theorem w210 (h:ShOK n S E C)(x:Claiming)(ho:zbt (.c211 x))(hn:n<=1000)(hm:n+2<=m):f210 (m+1) x S E C=some (zao S E C (.c211 x)):=by
 obtain⟨o1,o2⟩:=ho;have hcl:=h.cl;simp only[f210,zuF,zao,edO]
 cases hE:zas x.edition E with
 | none=>simp[onO]
 | some j =>
  obtain⟨e,he⟩:=zbb hE;have hK:=h.gE he;have h1:=hK.f0;have h2:=hK.fl;have h3:=hK.ob;have h4:=hK.os
  have h5:0<=e.open_:=by
   rw[h4];exact zb8 λ k hk=>by obtain⟨p,hp,rfl⟩:=List.mem_map.1 hk;exact hK.ow p hp
  simp only[onO,he,zAl,zaC,decide_eq_true_eq,zoj (l:=C) (by omega),zsD hK h1 (by omega) hm hn];rw[W_of (by omega) (by omega)]
  cases hc:(za2 false x.customer C).1
  .simp only[Bool.not_false,if_true,true_and]
   by_cases h6:C.length=6
   .rw [if_pos (by omega),if_pos h6]
   .rw [if_neg (by omega),if_neg h6];split <;> rfl
  .simp only[Bool.not_true,Bool.false_eq_true,if_false,reduceCtorEq,false_and];split <;> rfl
theorem w212 (h:ShOK n S E C)(x:Delivery)(hn:n<=1000):f212 (m+1) x S E C=some (zao S E C (.c213 x)):=by
 simp only[f212,zuG,zao,edO]
 cases hE:zas x.claiming.edition E with
 | none=>simp[onO]
 | some j =>
  obtain⟨e,he⟩:=zbb hE;have hK:=h.gE he;simp only[onO,he,zAl,zaC,decide_eq_true_eq,(hK.last_ hn).1]
  grind
theorem w215 (h:ShOK n S E C)(x:Grinding)(hn:n<=1000)(hm:n+2<=m):f215 (m+1) x S E C=some (zao S E C (.c215 x)):=by
 simp only[f215,zuH,zao,stO]
 cases hl:zas x.stone S with
 | none=>simp[onO]
 | some i =>
  obtain⟨a,ha⟩:=zbb hl;simp only[onO,ha,zAl]
  cases hof:a.of with
  | none=>rfl
  | some j =>
   obtain⟨e,he,h0,h1⟩:=(h.gS ha).getE hof;have hK:=h.gE he;have h2:=hK.f0;have h3:=hK.fl;have h4:=hK.le;rw[W_of (by omega) (by omega)];simp only[he,zAl,zaC,decide_eq_true_eq,zsD hK h2 (by omega) hm hn,zsD hK (k:=max e.from_ (a.place+1)) (by omega) (by omega) hm hn]
   grind
end
end Go.Vc
namespace Go.Vc
open Go.Proofs
theorem zaK {n:Int}(h : -1000000<=n)(h':n<=1000000):W n=n:=W_of (by omega) (by omega)
theorem zlh {l:List Int}{i:Nat}{x:Int}(h:i<l.length):setx l (i:Int) x=some (l.set i x):=by
 simp_all [if_pos,setx]
section
variable {n m:Nat} {S:TS} {E:TE} {C:TC}
theorem d197 {x:NewStone}(hw:zao S E C (.c199 x)=0):f197 (m+1) x S E C=some (doM S E C (.c199 x)).1:=by
 grind [zao,f197,zuv,insF,doM,zas]
theorem d199 {x:NewEdition}(hw:zao S E C (.c201 x)=0):f199 (m+1) x S E C=some (doM S E C (.c201 x)).2.1:=by
 grind [zao,f199,zuw,insF,doM,zas]
theorem d201 (h:ShOK n S E C)(hn:n<=1000){x:Drawing}(hw:zao S E C (.c203 x)=0):f201 (m+1) x S E C=some ((doM S E C (.c203 x)).1,(doM S E C (.c203 x)).2.1):=by
 simp only[zao,stO,edO] at hw;simp only[f201,zux,doM]
 cases hl:zas x.stone S with
 | none=>grind
 | some i =>
  cases hE:zas x.edition E with
  | none=>grind
  | some j =>
   obtain⟨a,ha⟩:=zbb hl;obtain⟨e,he⟩:=zbb hE;have hK:=h.gE he;have h1:=hK.ne;have h2:=hK.le;simp only[onO,ha,he,zAl,Option.map_some,Option.getD_some]
   grind [zcp,zaK,ze9,zeA]
theorem d203 (h:ShOK n S E C){x:Paper}(ho:zbt (.c205 x))(hw:zao S E C (.c205 x)=0):f203 (m+1) x S E C=some (doM S E C (.c205 x)).2.1:=by
 obtain⟨o1,o2⟩:=ho;simp only[zao,edO] at hw;simp only[f203,zuy,doM]
 cases hE:zas x.edition E with
 | none=>grind
 | some j =>
  obtain⟨e,he⟩:=zbb hE;have hK:=h.gE he;have h1:=hK.ne;obtain⟨a1,a2,a3⟩:=hK.at_ (k:=0) (by omega) (by omega);have h3:=hK.pp;have h4:=hK.sm;have h5:=zb8 hK.nn;have h6:=hK.dl;have h7:=hK.sp;simp only[onO,he,zAl,a1]
  grind [zaK,zlh,ze9,zeA]
theorem d205 (h:ShOK n S E C)(hn:n<=1000){x:Printing}(ho:zbt (.c207 x))(hw:zao S E C (.c207 x)=0):f205 (m+1) x S E C=some (doM S E C (.c207 x)).2.1:=by
 obtain⟨o1,o2,o3,o4⟩:=ho;simp only[zao,stO] at hw;simp only[f205,zuz,doM,stO]
 cases hl:zas x.stone S with
 | none=>grind
 | some i =>
  obtain⟨a,ha⟩:=zbb hl;rw[hl] at hw;simp only[onO,ha,zAl] at hw ⊢
  cases hof:a.of with
  | none=>grind
  | some j =>
   obtain⟨e,he,h0,h1⟩:=(h.gS ha).getE hof;have hK:=h.gE he;have h2:=hK.le;obtain⟨a1,a2,a3⟩:=hK.at_ h0 (by omega);obtain⟨b1,b2,b3⟩:=hK.at_ (k:=a.place+1) (by omega) (by omega);have hs:=hK.sm;have hp:=hK.pp;have hd:=hK.dl;have hsp:=hK.sp;have hss:=zb8 hK.nn;simp only[he,zAl,a1];obtain⟨p,hp⟩:∃ p:Nat,a.place=p:=⟨a.place.toNat,by omega⟩;rw[hp] at h0 h1 a2 a3 b1 b2 b3 ⊢;rw[zaK (n:=x.good+x.spoilt) (by omega) (by omega),zaK (n:=e.at_ p-(x.good+x.spoilt)) (by omega) (by omega),zlh (by omega),zaK (n:=(p:Int)+1) (by omega) (by omega)];simp only[zAl]
   have hq:ix (e.places.set p (e.at_ p-(x.good+x.spoilt))) ((p:Int)+1)=some (e.at_ ((p:Int)+1)):=by
    rw[show (p:Int)+1=((p+1:Nat):Int) from rfl,zaU,List.getElem?_set_ne (by omega),<- zaU];exact b1
   rw[hq];simp only[zAl];rw[zaK (n:=e.at_ ((p:Int)+1)+x.good) (by omega) (by omega),zaK (n:=e.spoilt+x.spoilt) (by omega) (by omega),show (p:Int)+1=((p+1:Nat):Int) from rfl,zlh (by simp;omega)]
   grind [ze9,zeA]
theorem d207 {x:Closing}(hw:zao S E C (.c209 x)=0):f207 (m+1) x S E C=some (doM S E C (.c209 x)).2.1:=by
 simp only[zao,edO] at hw;simp only[f207,zuA,doM]
 grind [zbb,zeA,zas,onO]
theorem zm5 {κ ν:Type}[DecidableEq κ]{z:ν}{k:κ}{l:List (κ×ν)}:((za2 z k l).2=true/\∃ p,p∈l/\p.1=k/\p.2=(za2 z k l).1)∨za2 z k l=(z,false):=by
 induction l with
 | nil=>exact .inr rfl
 | cons p r ih =>
  simp only[za2]
  grind
theorem EdOK.owed_b {e:EditionM}(h:EdOK n e)(k:ByteArray):0<=(za2 0 k e.owed).1/\(za2 0 k e.owed).1<=5000:=by
 have hs:∀ l:List (ByteArray×Int),(∀ p,p∈l->0<=p.2)->∀ p,p∈l->p.2<=sumI (l.map (·.2)):=by
  intro l hl p hp;obtain⟨i,hi⟩:=List.getElem?_of_mem hp;exact zsC (i:=i) (λ k hk=>by grind) (by simp[hi])
 rcases zm5 (z:=0) (k:=k) (l:=e.owed) with ⟨_,p,hp,_,h2⟩|h2
 .have:=hs _ h.ow p hp
  have:=h.ow p hp;have:=h.os;have:=h.ob;omega
 .rw [h2];simp
theorem EdOK.open0 {e:EditionM}(h:EdOK n e):0<=e.open_:=by
 rw[h.os];exact zb8 λ k hk=>by obtain⟨p,hp,rfl⟩:=List.mem_map.1 hk;exact h.ow p hp
theorem d209 (h:ShOK n S E C){x:Claiming}(ho:zbt (.c211 x))(hw:zao S E C (.c211 x)=0):f209 (m+1) x S E C=some ((doM S E C (.c211 x)).2.1,(doM S E C (.c211 x)).2.2):=by
 obtain⟨o1,o2⟩:=ho;simp only[zao,edO] at hw;simp only[f209,zuB,doM]
 cases hE:zas x.edition E with
 | none=>grind
 | some j =>
  obtain⟨e,he⟩:=zbb hE;have hK:=h.gE he;have h1:=hK.owed_b x.customer;have h2:=hK.open0;have h3:=hK.ob
  grind [zaK,ze9,zeA,onO,za2]
theorem d211 (h:ShOK n S E C)(hn:n<=1000){x:Delivery}(ho:zbt (.c213 x))(hw:zao S E C (.c213 x)=0):f211 (m+1) x S E C=some (doM S E C (.c213 x)).2.1:=by
 obtain⟨o1,o2⟩:=ho;simp only[zao,edO] at hw;simp only[f211,zuI,doM]
 cases hE:zas x.claiming.edition E with
 | none=>grind
 | some j =>
  obtain⟨e,he⟩:=zbb hE;have hK:=h.gE he;have h1:=hK.owed_b x.claiming.customer;have h2:=hK.open0;have h3:=hK.ob;have hs:=hK.sm;have hp:=hK.pp;have hd:=hK.dl;have hsp:=hK.sp;have hss:=zb8 hK.nn;obtain⟨a1,a2,a3⟩:=hK.last_ hn;have hne:=hK.ne;have hle:=hK.le;simp only[onO,he,zAl,a1];rw[zaK (n:=(za2 0 x.claiming.customer e.owed).1-x.claiming.n) (by omega) (by omega),zaK (n:=e.open_-x.claiming.n) (by omega) (by omega),zaK (n:=e.delivered+x.claiming.n) (by omega) (by omega),zaK (n:=e.last-x.claiming.n) (by omega) (by omega),zaK (n:=(e.places.length:Int)-1) (by omega) (by omega),show (e.places.length:Int)-1=((e.places.length-1:Nat):Int) by omega,zlh (by omega)]
  grind [ze9,zeA]
theorem d214 (h:ShOK n S E C)(hn:n<=1000){x:Grinding}(hw:zao S E C (.c215 x)=0):f214 (m+1) x S E C=some ((doM S E C (.c215 x)).1,(doM S E C (.c215 x)).2.1):=by
 simp only[zao,stO] at hw;simp only[f214,zuC,doM]
 cases hl:zas x.stone S with
 | none=>grind
 | some i =>
  obtain⟨a,ha⟩:=zbb hl;rw[hl] at hw;simp only[onO,ha,zAl] at hw ⊢
  cases hof:a.of with
  | none=>grind
  | some j =>
   obtain⟨e,he,h0,h1⟩:=(h.gS ha).getE hof;have hK:=h.gE he;have h2:=hK.le;have h3:=(h.gS ha).t1;have h4:=(h.gS ha).t9
   grind [zaK,zeA]
end
end Go.Vc
namespace Go.Vc
open Go.Proofs
section
variable {n m:Nat} {S:TS} {E:TE} {C:TC}
theorem EdOK.up {e:EditionM}(h:EdOK n e):EdOK (n+1) e:=⟨h.ne,by have:=h.le;omega,h.nn,h.sm,h.pp,h.dl,h.sp,h.f0,h.fl,h.ow,h.os,h.ob⟩
theorem zli {k:ByteArray}{a:StoneM}(h:stO S k=some a):∃ i,zas k S=some i/\getF S i=some a:=by
 grind [Option.bind_eq_some_iff,stO]
theorem zgQ {k:ByteArray}{e:EditionM}(h:edO E k=some e):∃ i,zas k E=some i/\getF E i=some e:=by
 grind [Option.bind_eq_some_iff,edO]
theorem ShOK.modE (h:ShOK n S E C){j:Nat}{e:EditionM}(he:getF E j=some e)(f:EditionM->EditionM)(hf:EdOK (n+1) (f e))(hn:(f e).name=e.name)(hl:e.places.length<=(f e).places.length):ShOK (n+1) S (modF E j f) C where
 sl:=h.sl
 el:=by rw[zlg];exact h.el
 cl:=h.cl
 sk:=h.sk
 ek:=by rw[zm4];exact h.ek
 st:=λ p hp=>⟨(h.st p hp).t1,(h.st p hp).t9,λ j' hj' => by
  obtain⟨q,h1,h2,h3⟩:=(h.st p hp).pl j' hj';rw[zdC]
  split
  .rename_i hjj
   subst hjj;obtain⟨q',hq',hqe⟩:=zcS he
   grind
  grind⟩
 ed:=λ p hp=>by
  rcases zhN hp with hp|⟨q,h1,rfl⟩
  .exact ⟨(h.ed p hp).1.up,(h.ed p hp).2⟩
  .obtain ⟨q',hq',hqe⟩:=zcS he
   rw[h1] at hq';cases hq';have:=(h.ed q (zAp h1)).2
   grind
theorem ShOK.up (h:ShOK n S E C):ShOK (n+1) S E C:=⟨h.sl,h.el,h.cl,h.sk,h.ek,h.st,λ p hp=>⟨(h.ed p hp).1.up,(h.ed p hp).2⟩⟩
theorem ShOK.modS (h:ShOK n S E C){i:Nat}{a:StoneM}(ha:getF S i=some a)(f:StoneM->StoneM)(hf:StOK E (f a)):ShOK n (modF S i f) E C where
 sl:=by rw[zlg];exact h.sl
 el:=h.el
 cl:=h.cl
 sk:=by rw[zm4];exact h.sk
 ek:=h.ek
 st:=λ p hp=>by
  rcases zhN hp with hp|⟨q,h1,rfl⟩
  .exact h.st p hp
  .obtain ⟨q',hq',hqe⟩:=zcS ha
   grind
 ed:=h.ed
theorem zm6 {α κ:Type}[DecidableEq κ]{l:List (κ×α)}{k:κ}{x:α}(h:(l.map (·.1)).Nodup)(hk:zas k l=none):((l++[(k,x)]).map (·.1)).Nodup:=by
 rw[List.map_append,List.nodup_append];refine⟨h,by simp, ?_⟩;intro a ha b hb;simp only[List.map_cons,List.map_nil,List.mem_cons,List.not_mem_nil,or_false] at hb
 grind [zfn]
theorem zhO {κ ν:Type}[DecidableEq κ]{z:ν}{k:κ}{v:ν}:∀ l:List (κ×ν),(setK k v l).length=if (za2 z k l).2=true then l.length else l.length+1
 | []=>rfl
 | p::r=>by
  simp only[setK,za2]
  split
  .simp
  .simp only[List.length_cons,zhO (z:=z) r];split <;> omega
theorem zlj {k:ByteArray}{v:Int}:∀ l:List (ByteArray×Int),sumI ((setK k v l).map (·.2))=sumI (l.map (·.2))-(za2 0 k l).1+v
 | []=>by simp[setK,za2,sumI]
 | p::r=>by
  simp only[setK,za2]
  split
  .simp only[List.map_cons,sumI];omega
  .have:=zlj (k:=k) (v:=v) r
   grind [sumI]
theorem zlk {κ ν:Type}[DecidableEq κ]{k:κ}{v:ν}:∀ {l:List (κ×ν)} {p:κ×ν},p∈setK k v l->p∈l∨p=(k,v)
 | [],p,h=>by grind [setK]
 | q::r,p,h=>by
  simp only[setK] at h
  split at h
  .grind
  .rcases List.mem_cons.1 h with rfl|h
   .grind
   .rcases zlk h with h|h
    .grind
    .exact .inr h
theorem zll {l:List Int}{i:Nat}{x y:Int}(h:y∈l.set i x):y∈l∨y=x:=by
 grind
theorem zsE {e:EditionM}{k:Nat}(h:k<e.places.length):e.places[k]? = some (e.at_ k):=by
 simp[EditionM.at_,h]
theorem zw9 (h:ShOK n S E C){o:I97}(ho:zbt o)(hw:zao S E C o=0):ShOK (n+1) (doM S E C o).1 (doM S E C o).2.1 (doM S E C o).2.2:=by
 cases o with
 | nil=>exact ho.elim
 | c199 x =>
  simp only[zao] at hw
  have hl:zas x.name S=none:=by
   cases hl:zas x.name S with
   | some i=>grind
   | none=>rfl
  rw[hl] at hw
  have h8:S.length≠8:=by omega
  have hs:=h.sl;refine⟨by simp[doM];omega,h.el,h.cl,zm6 h.sk hl,h.ek,λ p hp=>?_,h.up.ed⟩;simp only[doM,List.mem_append,List.mem_singleton] at hp
  rcases hp with hp|rfl
  .exact h.st p hp
  .exact ⟨ho.1,ho.2,λ j hj=>by cases hj⟩
 | c201 x =>
  simp only[zao] at hw
  have hl:zas x.name E=none:=by
   cases hl:zas x.name E with
   | some i=>grind
   | none=>rfl
  rw[hl] at hw
  have h8:E.length≠5:=by omega
  have hs:=h.el;refine⟨h.sl,by simp[doM];omega,h.cl,h.sk,zm6 h.ek hl,λ p hp=>⟨(h.st p hp).t1,(h.st p hp).t9,λ j hj=>?_⟩,λ p hp=>?_⟩
  .obtain ⟨q,h1,h2⟩:=(h.st p hp).pl j hj
   grind [List.getElem?_append_left,zAm,doM]
  .simp only[doM,List.mem_append,List.mem_singleton] at hp
   rcases hp with hp|rfl
   .exact h.up.ed p hp
   .exact ⟨⟨by simp,by simp,by simp,by simp[sumI],by simp,by simp,by simp,by simp,by simp,by simp,by simp[sumI],by simp⟩,rfl⟩
 | c203 x =>
  simp only[zao] at hw
  cases hS:stO S x.stone with
  | none=>grind
  | some a =>
   cases hE:edO E x.edition with
   | none=>grind
   | some e =>
    obtain⟨i,hi,ha⟩:=zli hS;obtain⟨j,hj,he⟩:=zgQ hE;have hK:=h.gE he;have h1:=hK.ne;have h2:=hK.le;have h3:=hK.fl;simp only[doM,hi,hj,he,Option.map_some,Option.getD_some]
    have hA:=h.modE (C:=C) he (λ e=>{ e with places:=e.places++[0] }) ⟨by simp,by simp;omega,by
     intro k hk
     rcases List.mem_append.1 hk with hk|hk
     .exact hK.nn k hk
     grind,by simp only[zpi,sumI];have:=hK.sm;omega,hK.pp,hK.dl,hK.sp,hK.f0,by simp;omega,hK.ow,hK.os,hK.ob⟩ rfl (by simp)
    refine hA.modS ha _ ⟨(h.gS ha).t1,(h.gS ha).t9,λ j' hj' => ?_⟩;obtain rfl:j=j':=Option.some.inj hj';obtain⟨q,hq,hqe⟩:=zcS he;refine⟨(q.1,{ q.2 with places:=q.2.places++[0] }),by rw[zdC,if_pos rfl,hq];rfl, ?_⟩
    grind
 | c205 x =>
  obtain⟨o1,o2⟩:=ho;simp only[zao] at hw
  cases hE:edO E x.edition with
  | none=>grind
  | some e =>
   rw[hE] at hw;obtain⟨j,hj,he⟩:=zgQ hE;have hK:=h.gE he;have h1:=hK.ne;have hg:=zsE (e:=e) (k:=0) h1;have hnn:=hK.nn _ (zAp hg);dsimp only at hw
   split at hw
   .cases hw
   .split at hw
    .cases hw
    .simp only[doM,hj]
     refine h.modE he _ ⟨by simpa using h1,by simpa using hK.up.le,λ k hk=>?_, ?_,by grind,hK.dl,hK.sp,hK.f0,by grind,hK.ow,hK.os,hK.ob⟩ rfl (by simp)
     .rcases zll hk with hk|rfl
      .exact hK.nn k hk
      grind
     grind [EdOK.sm,zhM]
 | c207 x =>
  obtain⟨o1,o2,o3,o4⟩:=ho;simp only[zao] at hw
  cases hS:stO S x.stone with
  | none=>grind
  | some a =>
   rw[hS] at hw;obtain⟨i,hi,ha⟩:=zli hS
   cases hof:a.of with
   | none=>simp[hof] at hw
   | some j =>
    obtain⟨e,he,h0,h1⟩:=(h.gS ha).getE hof;have hK:=h.gE he;simp only[hof,he] at hw
    split at hw
    .cases hw
    .split at hw
     .cases hw
     .rename_i hz hlt
      simp only[doM,hS,hof];obtain⟨p,hp⟩:∃ p:Nat,a.place=p:=⟨a.place.toNat,by omega⟩;rw[hp] at h0 h1 hlt ⊢;have g0:=zsE (e:=e) (k:=p) (by omega);have g1:=zsE (e:=e) (k:=p+1) (by omega);have n1:=hK.nn _ (zAp g1);have hs:=zhM (y:=e.at_ p-(x.good+x.spoilt)) g0
      have g2:(e.places.set p (e.at_ p-(x.good+x.spoilt)))[p+1]? = some (e.at_ ((p+1:Nat):Int)):=by grind
      have hs2:=zhM (y:=e.at_ ((p+1:Nat):Int)+x.good) g2;have hsm:=hK.sm;have hsp:=hK.sp;refine h.modE he _ ⟨by grind,by simpa using hK.up.le,λ k hk=>?_, ?_,hK.pp,hK.dl,by grind,hK.f0,by simpa using hK.fl,hK.ow,hK.os,hK.ob⟩ rfl (by simp)
      .rcases zll hk with hk|rfl
       .rcases zll hk with hk|rfl
        .exact hK.nn k hk
        .omega
       grind
      grind
 | c209 x =>
  simp only[zao] at hw
  cases hE:edO E x.edition with
  | none=>grind
  | some e =>
   obtain⟨j,hj,he⟩:=zgQ hE;have hK:=h.gE he;simp only[doM,hj];exact h.modE he _ ⟨hK.ne,hK.up.le,hK.nn,hK.sm,hK.pp,hK.dl,hK.sp,hK.f0,hK.fl,hK.ow,hK.os,hK.ob⟩ rfl (Nat.le_refl _)
 | c211 x =>
  obtain⟨o1,o2⟩:=ho;simp only[zao] at hw
  cases hE:edO E x.edition with
  | none=>grind
  | some e =>
   rw[hE] at hw;obtain⟨j,hj,he⟩:=zgQ hE;have hK:=h.gE he;have hr:=hK.rest_b e.from_;have hb:=hK.owed_b x.customer;dsimp only at hw
   split at hw
   .cases hw
   .split at hw
    .cases hw
    .rename_i hc hlt
     simp only[doM,hj]
     have hM:=h.modE (C:=C) he (λ e=>{ e with owed:=setK x.customer ((za2 0 x.customer e.owed).1+x.n) e.owed,open_:=e.open_+x.n }) ⟨hK.ne,hK.up.le,hK.nn,hK.sm,hK.pp,hK.dl,hK.sp,hK.f0,hK.fl,λ p hp=>by
       rcases zlk hp with hp|rfl
       .exact hK.ow p hp
       omega,by
       grind [EdOK.os,zlj],by grind⟩ rfl (Nat.le_refl _)
     refine⟨hM.sl,hM.el, ?_,hM.sk,hM.ek,hM.st,hM.ed⟩
     grind [zhO,ShOK.cl,zm5]
 | c213 x =>
  obtain⟨o1,o2⟩:=ho;simp only[zao] at hw
  cases hE:edO E x.claiming.edition with
  | none=>grind
  | some e =>
   rw[hE] at hw;obtain⟨j,hj,he⟩:=zgQ hE;have hK:=h.gE he;dsimp only at hw
   split at hw
   .cases hw
   .split at hw
    .cases hw
    .split at hw
     .cases hw
     .split at hw
      .cases hw
      .rename_i h1 h2 h3 h4
       simp only[doM,hj];have hne:=hK.ne
       have hg:e.places[e.places.length-1]? = some e.last:=by grind [zAn,EditionM.last]
       have hs:=zhM (y:=e.last-x.claiming.n) hg;have hsm:=hK.sm;have hdl:=hK.dl;have hos:=hK.os;have hob:=hK.ob;refine h.modE he _ ⟨by grind,by simpa using hK.up.le,λ k hk=>?_, ?_,hK.pp,by grind,hK.sp,hK.f0,by simpa using hK.fl,λ p hp=>?_, ?_,by grind⟩ rfl (by simp)
       .rcases zll hk with hk|rfl
        .exact hK.nn k hk
        .omega
       .grind
       .rcases zlk hp with hp|rfl
        .exact hK.ow p hp
        omega
       grind [zlj]
 | c215 x =>
  simp only[zao] at hw
  cases hS:stO S x.stone with
  | none=>grind
  | some a =>
   rw[hS] at hw;obtain⟨i,hi,ha⟩:=zli hS
   cases hof:a.of with
   | none=>simp[hof] at hw
   | some j =>
    obtain⟨e,he,h0,h1⟩:=(h.gS ha).getE hof;have hK:=h.gE he;simp only[hof,he] at hw
    split at hw
    .cases hw
    .split at hw
     .cases hw
     .split at hw
      .cases hw
      .rename_i ht
       have t1:=(h.gS ha).t1;have t9:=(h.gS ha).t9;have f0:=hK.f0;have fl:=hK.fl;simp only[doM,hi,ha,zAl,hof,Option.map_some,Option.getD_some];have hM:=h.modE (C:=C) he (λ e=>{ e with from_:=max e.from_ (a.place+1) }) ⟨hK.ne,hK.up.le,hK.nn,hK.sm,hK.pp,hK.dl,hK.sp,by grind,by grind,hK.ow,hK.os,hK.ob⟩ rfl (Nat.le_refl _);exact hM.modS ha _ ⟨by grind,by grind,λ j hj=>by cases hj⟩
end
end Go.Vc
namespace Go.Vc
open Go.Proofs
abbrev TL:=List ByteArray
structure Bk where
 L:TL
 S:TS
 E:TE
 C:TC
def Bk.new:Bk:=⟨[],[],[],[]⟩
structure BkOK (b:Bk):Prop where
 ll:b.L.length<=120
 sh:ShOK b.L.length b.S b.E b.C
theorem zzC:BkOK Bk.new:=⟨by simp[Bk.new],by simp[Bk.new],by simp[Bk.new],by simp[Bk.new],by simp[Bk.new],by simp[Bk.new],λ p hp=>by simp[Bk.new] at hp,λ p hp=>by simp[Bk.new] at hp⟩
def errM (b:Bk)(r:I97×Int):Int:=if r.2=0 then (if zao b.S b.E b.C r.1=0 then (if b.L.length=120 then 15 else 0) else zao b.S b.E b.C r.1) else r.2
def goM (b:Bk)(y:ByteArray)(r:I97×Int):Bk:=if errM b r=0 then ⟨b.L++[y],(doM b.S b.E b.C r.1).1,(doM b.S b.E b.C r.1).2.1,(doM b.S b.E b.C r.1).2.2⟩ else b
theorem zzD {b:Bk}(h:BkOK b){y:ByteArray}{r:I97×Int}(hr:r.2=0->zbt r.1):BkOK (goM b y r):=by
 unfold goM
 split
 .rename_i he
  unfold errM at he
  split at he
  .rename_i h0
   split at he
   .rename_i hw
    split at he
    .cases he
    .rename_i hl
     have:=h.ll;exact⟨by simp;omega,by simpa using zw9 h.sh (hr h0) hw⟩
   omega
  omega
 .exact h
section
variable {b:Bk} {y:ByteArray} {M:Nat} {r:I97×Int}
theorem zjm (e:Int):ziT b.L b.S b.E b.C r.1 e=some (r.1,if e=0 then (if b.L.length=120 then 15 else 0) else e):=by
 simp only[ziT,zaC,decide_eq_true_eq]
 grind
theorem zv3 (h:BkOK b)(hM:130<=M)(hr:f79 (M+1) y=some r)(ho:r.2=0->zbt r.1):f51 (M+2) y b.L b.S b.E b.C=some (r.1,errM b r):=by
 have hl:=h.ll;have hs:=h.sh;simp only[f51,f51b,zap,hr,zAl,errM,zaC,decide_eq_true_eq];obtain⟨o,e⟩:=r;dsimp only at ho hr ⊢;by_cases he:e=0
 .rw [if_pos he,if_pos he]
  have ho:=ho he
  cases o with
  | nil=>exact ho.elim
  | c199 x=>simp only[I97.on,w198 hs,zAl];exact zjm (r:=(_,0)) _
  | c201 x=>simp only[I97.on,w200 hs,zAl];exact zjm (r:=(_,0)) _
  | c203 x=>simp only[I97.on,w202 hs,zAl];exact zjm (r:=(_,0)) _
  | c205 x=>simp only[I97.on,w204 hs x ho,zAl];exact zjm (r:=(_,0)) _
  | c207 x=>simp only[I97.on,w206 hs x ho (by omega),zAl];exact zjm (r:=(_,0)) _
  | c209 x=>simp only[I97.on,w208 hs,zAl];exact zjm (r:=(_,0)) _
  | c211 x=>simp only[I97.on,w210 (m:=M) hs x ho (by omega) (by omega),zAl];exact zjm (r:=(_,0)) _
  | c213 x=>simp only[I97.on,w212 hs x (by omega),zAl];exact zjm (r:=(_,0)) _
  | c215 x=>simp only[I97.on,w215 (m:=M) hs x (by omega) (by omega),zAl];exact zjm (r:=(_,0)) _
 .rw [if_neg he,if_neg he,zjm (r:=(o,e)),if_neg he]
theorem zzE (h:BkOK b)(hM:130<=M)(hr:f79 (M+1) y=some r)(ho:r.2=0->zbt r.1):f17 (M+3) y b.L b.S b.E b.C=some (errM b r):=by
 grind [zv3,f17,f17b]
def outM (e:Int)(b:Bk):Int×TS×TE×TC×TL:=(e,b.S,b.E,b.C,b.L)
theorem zv4 (h:BkOK b)(hM:130<=M)(hr:f79 (M+1) y=some r)(ho:r.2=0->zbt r.1):f18 (M+3) y b.L b.S b.E b.C=some (outM (errM b r) (goM b y r)):=by
 have hl:=h.ll;have hs:=h.sh;simp only[f18,f18b,zv3 h hM hr ho,zAl,goM,zaC,decide_eq_true_eq];by_cases he:errM b r=0
 .rw [if_neg (by omega),if_pos he]
  have h2:r.2=0/\zao b.S b.E b.C r.1=0:=by grind [errM,absurd]
  obtain⟨h0,hw⟩:=h2;have ho:=ho h0;have ha:app 16 b.L [y]=some (b.L++[y]):=zcp (by simp;omega) (by simp;omega);rw[he];obtain⟨o,e⟩:=r;dsimp only at ho hw ⊢
  cases o with
  | nil=>exact ho.elim
  | c199 x=>simp only[I97.on,d197 hw,ha,zAl];rfl
  | c201 x=>simp only[I97.on,d199 hw,ha,zAl];rfl
  | c203 x =>
   grind [d201,I97.on,outM,doM]
  | c205 x =>
   grind [d203,I97.on,outM,doM]
  | c207 x =>
   grind [d205,I97.on,outM,doM]
  | c209 x =>
   grind [d207,I97.on,outM,doM]
  | c211 x =>
   grind [d209,I97.on,outM,doM]
  | c213 x =>
   grind [d211,I97.on,outM,doM]
  | c215 x =>
   grind [d214,I97.on,outM,doM]
 .rw [if_pos he,if_neg he];rfl
end
end Go.Vc

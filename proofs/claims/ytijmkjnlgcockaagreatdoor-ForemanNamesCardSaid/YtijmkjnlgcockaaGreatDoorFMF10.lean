/-
  A library for proofs about Go functions by symbolic evaluation,and plain Lean functions that the walked Go functions compute (written by a program of this claim).
-/
import Derived.Test.YtijmkjnlgcockaaGreatDoorFMF8
set_option linter.unusedVariables false
set_option linter.unnecessarySimpa false
set_option linter.unusedSimpArgs false
namespace Go.Vc
open Go.Proofs
section
variable {κ σ τ : Type} {P : κ -> Prop} {ρ : κ -> κ}
def zrS (P : κ -> Prop) (ρ : κ -> κ) : Prop := ∀ x y,P x -> P y -> ρ x = ρ y -> x = y
def mapF (ρ : κ -> κ) (f : σ -> τ) (l : List (κ × σ)) : List (κ × τ) := l.map λ p=>(ρ p.1,f p.2)
theorem zg4 [DecidableEq κ] (h : zrS P ρ) {f : σ -> τ} {k : κ} (hk : P k) : ∀ {l : List (κ × σ)},(∀ p,p ∈ l -> P p.1) -> zas (ρ k) (mapF ρ f l) = zas k l
 | [],_=>rfl
 | p :: l,hl=>by
  simp only [mapF,List.map_cons,zas];have ih := zg4 h (f := f) hk (l := l) λ q hq=>hl q (List.mem_cons_of_mem _ hq);unfold mapF at ih;rw [ih];by_cases he : p.1 = k
  .rw [if_pos he,if_pos (by rw [he])]
  .rw [if_neg he,if_neg λ e=>he (h _ _ (hl p List.mem_cons_self) hk e)]
theorem zmS {f : σ -> τ} {l : List (κ × σ)} {i : Nat} : getF (mapF ρ f l) i = (getF l i).map f := by
 simp only [getF,mapF,List.getElem?_map]
 cases l[i]? <;> rfl
theorem zcV {f : σ -> τ} {g : σ -> σ} {g' : τ -> τ} {l : List (κ × σ)} {i : Nat} (h : ∀ x,getF l i = some x -> f (g x) = g' (f x)) : modF (mapF ρ f l) i g' = mapF ρ f (modF l i g) := by
 apply List.ext_getElem?;intro j;simp only [mapF,List.getElem?_map,zfU]
 split
 .rename_i e;subst e
  cases hl : l[i]? with
  | none=>rfl
  | some p=>simp [h p.2 (zaZ.2 ⟨p.1,hl⟩)]
 .rfl
theorem zc8 [DecidableEq κ] (h : zrS P ρ) {z : σ} {k : κ} (hk : P k) : ∀ {l : List (κ × σ)},(∀ p,p ∈ l -> P p.1) -> zaG z (ρ k) (mapF ρ id l) = zaG z k l
 | [],_=>rfl
 | p :: l,hl=>by
  simp only [mapF,List.map_cons,zaG,id_eq];have ih := zc8 h (z := z) hk (l := l) λ q hq=>hl q (List.mem_cons_of_mem _ hq);unfold mapF at ih;simp only [id_eq] at ih;rw [ih];by_cases he : p.1 = k
  .rw [if_pos he,if_pos (by rw [he])]
  .rw [if_neg he,if_neg λ e=>he (h _ _ (hl p List.mem_cons_self) hk e)]
theorem zfZ [DecidableEq κ] (h : zrS P ρ) {v : σ} {k : κ} (hk : P k) : ∀ {l : List (κ × σ)},(∀ p,p ∈ l -> P p.1) -> setK (ρ k) v (mapF ρ id l) = mapF ρ id (setK k v l)
 | [],_=>rfl
 | p :: l,hl=>by
  have ih := zfZ h (v := v) hk (l := l) λ q hq=>hl q (List.mem_cons_of_mem _ hq);by_cases he : p.1 = k
  .simp only [mapF,List.map_cons,setK,id_eq]
   rw [if_pos he,if_pos (by rw [he])];rfl
  .have he' : ¬ ρ p.1 = ρ k := λ e=>he (h _ _ (hl p List.mem_cons_self) hk e)
   show (if ρ p.1 = ρ k then _ else _) = mapF ρ id (if p.1 = k then _ else _);rw [if_neg he,if_neg he'];show _ :: setK (ρ k) v (mapF ρ id l) = _ :: mapF ρ id (setK k v l);rw [ih]
theorem zqb [DecidableEq κ] {v : σ} {k : κ} (hk : P k) {l : List (κ × σ)} (hl : ∀ p,p ∈ l -> P p.1) : ∀ p,p ∈ setK k v l -> P p.1 := by
 intro p hp
 rcases zfX hp with hp | rfl
 .exact hl p hp
 .exact hk
end
structure Rn where
 P : Nat -> ByteArray -> Prop
 r : Nat -> ByteArray -> ByteArray
 inj : ∀ k,zrS (P k) (r k)
def Rn.ed (ρ : Rn) (e : EditionM) : EditionM := { e with name := ρ.r 1 e.name,owed := mapF (ρ.r 2) id e.owed }
def Rn.ord (ρ : Rn) : I97 -> I97
 | .nil=>.nil
 | .c199 x=>.c199 ⟨ρ.r 0 x.name,x.thick⟩
 | .c201 x=>.c201 ⟨ρ.r 1 x.name⟩
 | .c203 x=>.c203 ⟨ρ.r 0 x.stone,ρ.r 1 x.edition⟩
 | .c205 x=>.c205 ⟨ρ.r 1 x.edition,x.n⟩
 | .c207 x=>.c207 ⟨ρ.r 0 x.stone,x.good,x.spoilt⟩
 | .c209 x=>.c209 ⟨ρ.r 1 x.edition⟩
 | .c211 x=>.c211 ⟨ρ.r 2 x.customer,ρ.r 1 x.edition,x.n⟩
 | .c213 x=>.c213 ⟨⟨ρ.r 2 x.claiming.customer,ρ.r 1 x.claiming.edition,x.claiming.n⟩⟩
 | .c215 x=>.c215 ⟨ρ.r 0 x.stone⟩
def Rn.has (ρ : Rn) : I97 -> Prop
 | .nil=>True
 | .c199 x=>ρ.P 0 x.name
 | .c201 x=>ρ.P 1 x.name
 | .c203 x=>ρ.P 0 x.stone /\ ρ.P 1 x.edition
 | .c205 x=>ρ.P 1 x.edition
 | .c207 x=>ρ.P 0 x.stone
 | .c209 x=>ρ.P 1 x.edition
 | .c211 x=>ρ.P 2 x.customer /\ ρ.P 1 x.edition
 | .c213 x=>ρ.P 2 x.claiming.customer /\ ρ.P 1 x.claiming.edition
 | .c215 x=>ρ.P 0 x.stone
structure Rn.on (ρ : Rn) (S : TS) (E : TE) (C : TC) : Prop where
 s : ∀ p,p ∈ S -> ρ.P 0 p.1
 e : ∀ p,p ∈ E -> ρ.P 1 p.1
 n : ∀ p,p ∈ E -> ρ.P 1 p.2.name
 o : ∀ p,p ∈ E -> ∀ q,q ∈ p.2.owed -> ρ.P 2 q.1
 c : ∀ p,p ∈ C -> ρ.P 2 p.1
section
variable {ρ : Rn} {S : TS} {E : TE} {C : TC}
abbrev Rn.mS (ρ : Rn) (S : TS) : TS := mapF (ρ.r 0) id S
abbrev Rn.mE (ρ : Rn) (E : TE) : TE := mapF (ρ.r 1) ρ.ed E
abbrev Rn.mC (ρ : Rn) (C : TC) : TC := mapF (ρ.r 2) id C
theorem Rn.lS (h : ρ.on S E C) {k : ByteArray} (hk : ρ.P 0 k) : zas (ρ.r 0 k) (ρ.mS S) = zas k S := zg4 (ρ.inj 0) hk h.s
theorem Rn.lE (h : ρ.on S E C) {k : ByteArray} (hk : ρ.P 1 k) : zas (ρ.r 1 k) (ρ.mE E) = zas k E := zg4 (ρ.inj 1) hk h.e
theorem Rn.gS {i : Nat} : getF (ρ.mS S) i = getF S i := by rw [zmS];simp
theorem Rn.gE {i : Nat} : getF (ρ.mE E) i = (getF E i).map ρ.ed := zmS
theorem Rn.st (h : ρ.on S E C) {k : ByteArray} (hk : ρ.P 0 k) : stO (ρ.mS S) (ρ.r 0 k) = stO S k := by
 unfold stO;rw [Rn.lS h hk]
 congr 1
 funext i;exact Rn.gS
theorem Rn.eo (h : ρ.on S E C) {k : ByteArray} (hk : ρ.P 1 k) : edO (ρ.mE E) (ρ.r 1 k) = (edO E k).map ρ.ed := by
 unfold edO;rw [Rn.lE h hk]
 cases zas k E with
 | none=>rfl
 | some i=>exact Rn.gE
theorem zmT {i : Nat} {g : StoneM -> StoneM} : modF (ρ.mS S) i g = ρ.mS (modF S i g) := zcV (f := id) (g := g) (g' := g) λ _ _=>rfl
theorem zfn (h : ρ.on S E C) {j : Nat} {e : EditionM} (he : getF E j = some e) : ∀ q,q ∈ e.owed -> ρ.P 2 q.1 := by
 obtain ⟨p,hp,rfl⟩ := zcT he;exact h.o p (List.mem_of_getElem? hp)
theorem Rn.wrong (h : ρ.on S E C) {o : I97} (ho : ρ.has o) : zav (ρ.mS S) (ρ.mE E) (ρ.mC C) (ρ.ord o) = zav S E C o := by
 cases o with
 | nil=>rfl
 | c199 x=>simp only [Rn.ord,zav,Rn.lS h ho];simp [mapF]
 | c201 x=>simp only [Rn.ord,zav,Rn.lE h ho];simp [mapF]
 | c203 x =>
  simp only [Rn.ord,zav,Rn.st h ho.1,Rn.eo h ho.2]
  cases stO S x.stone <;> cases edO E x.edition <;> rfl
 | c205 x =>
  simp only [Rn.ord,zav,Rn.eo h ho]
  cases edO E x.edition <;> rfl
 | c207 x =>
  simp only [Rn.ord,zav,Rn.st h ho,Rn.gE]
  cases stO S x.stone with
  | none=>rfl
  | some a =>
   dsimp only
   cases a.of with
   | none=>rfl
   | some j=>dsimp only;cases getF E j <;> rfl
 | c209 x =>
  simp only [Rn.ord,zav,Rn.eo h ho]
  cases edO E x.edition <;> rfl
 | c211 x =>
  simp only [Rn.ord,zav,Rn.eo h ho.2,zc8 (ρ.inj 2) ho.1 h.c]
  cases edO E x.edition with
  | none=>rfl
  | some e=>simp [mapF];rfl
 | c213 x =>
  simp only [Rn.ord,zav,Rn.eo h ho.2]
  cases he : edO E x.claiming.edition with
  | none=>rfl
  | some e =>
   obtain ⟨j,_,hj⟩ := zcU he;have : zaG 0 (ρ.r 2 x.claiming.customer) (ρ.ed e).owed = zaG 0 x.claiming.customer e.owed := zc8 (ρ.inj 2) ho.1 (zfn h hj);simp only [Option.map_some,this];rfl
 | c215 x =>
  simp only [Rn.ord,zav,Rn.st h ho,Rn.gE]
  cases stO S x.stone with
  | none=>rfl
  | some a =>
   dsimp only
   cases a.of with
   | none=>rfl
   | some j=>dsimp only;cases getF E j <;> rfl
theorem Rn.does (h : ρ.on S E C) {o : I97} (ho : ρ.has o) : doM (ρ.mS S) (ρ.mE E) (ρ.mC C) (ρ.ord o) = (ρ.mS (doM S E C o).1,ρ.mE (doM S E C o).2.1,ρ.mC (doM S E C o).2.2) := by
 cases o with
 | nil=>rfl
 | c199 x=>simp [Rn.ord,doM,mapF]
 | c201 x=>simp [Rn.ord,doM,mapF,Rn.ed]
 | c203 x =>
  simp only [Rn.ord,doM,Rn.lS h ho.1,Rn.lE h ho.2]
  cases hs : zas x.stone S with
  | none=>rfl
  | some i =>
   cases he : zas x.edition E with
   | none=>rfl
   | some j =>
    obtain ⟨e,hj⟩ := zaH he;simp only [Rn.gE,hj,Option.map_some,Option.getD_some];rw [zmT,zcV (f := ρ.ed) (g := λ e=>{ e with places := e.places ++ [0] }) (λ x _=>rfl)];rfl
 | c205 x =>
  simp only [Rn.ord,doM,Rn.lE h ho]
  cases he : zas x.edition E with
  | none=>rfl
  | some j=>dsimp only;rw [zcV (f := ρ.ed) (g := λ e=>{ e with paper := e.paper + x.n,places := e.places.set 0 (e.at_ 0 + x.n) }) (λ x _=>rfl)]
 | c207 x =>
  simp only [Rn.ord,doM,Rn.st h ho]
  cases stO S x.stone with
  | none=>rfl
  | some a =>
   dsimp only
   cases a.of with
   | none=>rfl
   | some j=>dsimp only;rw [zcV (f := ρ.ed) (g := λ e=>{ e with places := (e.places.set a.place.toNat (e.at_ a.place - (x.good + x.spoilt))).set (a.place.toNat + 1) (e.at_ (a.place + 1) + x.good),spoilt := e.spoilt + x.spoilt }) (λ x _=>rfl)]
 | c209 x =>
  simp only [Rn.ord,doM,Rn.lE h ho]
  cases he : zas x.edition E with
  | none=>rfl
  | some j=>dsimp only;rw [zcV (f := ρ.ed) (g := λ e=>{ e with closed := true }) (λ x _=>rfl)]
 | c211 x =>
  simp only [Rn.ord,doM,Rn.lE h ho.2]
  cases he : zas x.edition E with
  | none=>rfl
  | some j =>
   dsimp only
   rw [zfZ (ρ.inj 2) ho.1 h.c,zcV (f := ρ.ed) (g := λ e=>{ e with owed := setK x.customer ((zaG 0 x.customer e.owed).1 + x.n) e.owed,open_ := e.open_ + x.n }) (λ e hj=>by
    have h1 : zaG 0 (ρ.r 2 x.customer) (ρ.ed e).owed = zaG 0 x.customer e.owed := zc8 (ρ.inj 2) ho.1 (zfn h hj);have h2 : setK (ρ.r 2 x.customer) ((zaG 0 x.customer e.owed).1 + x.n) (ρ.ed e).owed = mapF (ρ.r 2) id (setK x.customer ((zaG 0 x.customer e.owed).1 + x.n) e.owed) := zfZ (ρ.inj 2) ho.1 (zfn h hj)
    rw [h1,h2];rfl)]
 | c213 x =>
  simp only [Rn.ord,doM,Rn.lE h ho.2]
  cases he : zas x.claiming.edition E with
  | none=>rfl
  | some j =>
   dsimp only
   rw [zcV (f := ρ.ed) (g := λ e=>{ e with owed := setK x.claiming.customer ((zaG 0 x.claiming.customer e.owed).1 - x.claiming.n) e.owed,open_ := e.open_ - x.claiming.n,delivered := e.delivered + x.claiming.n,places := e.places.set (e.places.length - 1) (e.last - x.claiming.n) }) (λ e hj=>by
    have h1 : zaG 0 (ρ.r 2 x.claiming.customer) (ρ.ed e).owed = zaG 0 x.claiming.customer e.owed := zc8 (ρ.inj 2) ho.1 (zfn h hj);have h2 : setK (ρ.r 2 x.claiming.customer) ((zaG 0 x.claiming.customer e.owed).1 - x.claiming.n) (ρ.ed e).owed = mapF (ρ.r 2) id (setK x.claiming.customer ((zaG 0 x.claiming.customer e.owed).1 - x.claiming.n) e.owed) := zfZ (ρ.inj 2) ho.1 (zfn h hj)
    rw [h1,h2];rfl)]
 | c215 x =>
  simp only [Rn.ord,doM,Rn.lS h ho,Rn.gS]
  cases hs : zas x.stone S with
  | none=>rfl
  | some i =>
   dsimp only
   cases (getF S i).bind (·.of) with
   | none=>rfl
   | some j =>
    dsimp only;rw [zmT,zcV (f := ρ.ed) (g := λ e=>{ e with from_ := max e.from_ (((getF S i).map (·.place)).getD 0 + 1) }) (λ x _=>rfl)]
theorem Rn.keep (h : ρ.on S E C) {o : I97} (ho : ρ.has o) : ρ.on (doM S E C o).1 (doM S E C o).2.1 (doM S E C o).2.2 := by
 have mS : ∀ {i : Nat} {f : StoneM -> StoneM},∀ p,p ∈ modF S i f -> ρ.P 0 p.1 := by
  intro i f p hp
  rcases zfV hp with hp | ⟨q,hq,rfl⟩
  .exact h.s p hp
  .exact h.s q (List.mem_of_getElem? hq)
 have mE : ∀ {i : Nat} {f : EditionM -> EditionM},(∀ e,(f e).name = e.name) -> (∀ e,(∀ q,q ∈ e.owed -> ρ.P 2 q.1) -> ∀ q,q ∈ (f e).owed -> ρ.P 2 q.1) -> (∀ p,p ∈ modF E i f -> ρ.P 1 p.1) /\ (∀ p,p ∈ modF E i f -> ρ.P 1 p.2.name) /\ ∀ p,p ∈ modF E i f -> ∀ q,q ∈ p.2.owed -> ρ.P 2 q.1 := by
  intro i f hn hf
  refine ⟨λ p hp=>?_,λ p hp=>?_,λ p hp=>?_⟩ <;> rcases zfV hp with hp | ⟨q,hq,rfl⟩
  .exact h.e p hp
  .exact h.e q (List.mem_of_getElem? hq)
  .exact h.n p hp
  .show ρ.P 1 (f q.2).name
   rw [hn];exact h.n q (List.mem_of_getElem? hq)
  .exact h.o p hp
  .exact hf q.2 (h.o q (List.mem_of_getElem? hq))
 have same : ∀ {i : Nat} {f : EditionM -> EditionM},(∀ e,(f e).name = e.name) -> (∀ e,(f e).owed = e.owed) -> ρ.on S (modF E i f) C := λ hn ho =>
  have q := mE hn λ e he=>by rw [ho e];exact he
  ⟨h.s,q.1,q.2.1,q.2.2,h.c⟩
 cases o with
 | nil=>exact h
 | c199 x =>
  refine ⟨λ p hp=>?_,h.e,h.n,h.o,h.c⟩;simp only [doM,List.mem_append,List.mem_singleton] at hp
  rcases hp with hp | rfl
  .exact h.s p hp
  .exact ho
 | c201 x =>
  refine ⟨h.s,λ p hp=>?_,λ p hp=>?_,λ p hp=>?_,h.c⟩ <;> simp only [doM,List.mem_append,List.mem_singleton] at hp <;> rcases hp with hp | rfl
  .exact h.e p hp
  .exact ho
  .exact h.n p hp
  .exact ho
  .exact h.o p hp
  .intro q hq;cases hq
 | c203 x =>
  simp only [doM]
  split
  .rename_i i j _ _
   dsimp only;have q := same (i := j) (f := λ e=>{ e with places := e.places ++ [0] }) (λ _=>rfl) (λ _=>rfl);exact ⟨λ p hp=>mS p hp,q.e,q.n,q.o,h.c⟩
  .exact h
 | c205 x =>
  simp only [doM]
  split
  .dsimp only
   refine same ?_ ?_ <;> intro _ <;> rfl
  .exact h
 | c207 x =>
  simp only [doM]
  split
  .split
   .dsimp only
    refine same ?_ ?_ <;> intro _ <;> rfl
   .exact h
  .exact h
 | c209 x =>
  simp only [doM]
  split
  .dsimp only
   refine same ?_ ?_ <;> intro _ <;> rfl
  .exact h
 | c211 x =>
  simp only [doM]
  split
  .have q := mE (i := ‹_›) (f := λ e=>{ e with owed := setK x.customer ((zaG 0 x.customer e.owed).1 + x.n) e.owed,open_ := e.open_ + x.n }) (λ _=>rfl) λ e he=>zqb (P := ρ.P 2) ho.1 he
   exact ⟨h.s,q.1,q.2.1,q.2.2,zqb (P := ρ.P 2) ho.1 h.c⟩
  .exact h
 | c213 x =>
  simp only [doM]
  split
  .have q := mE (i := ‹_›) (f := λ e=>{ e with owed := setK x.claiming.customer ((zaG 0 x.claiming.customer e.owed).1 - x.claiming.n) e.owed,open_ := e.open_ - x.claiming.n,delivered := e.delivered + x.claiming.n,places := e.places.set (e.places.length - 1) (e.last - x.claiming.n) }) (λ _=>rfl) λ e he=>zqb (P := ρ.P 2) ho.1 he
   exact ⟨h.s,q.1,q.2.1,q.2.2,h.c⟩
  .exact h
 | c215 x =>
  simp only [doM]
  split
  .split
   .rename_i i _ _ j _
    dsimp only;have q := same (i := j) (f := λ e=>{ e with from_ := max e.from_ (((getF S i).map (·.place)).getD 0 + 1) }) (λ _=>rfl) (λ _=>rfl);exact ⟨λ p hp=>mS p hp,q.e,q.n,q.o,h.c⟩
   .exact h
  .exact h
end
end Go.Vc

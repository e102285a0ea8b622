/-
  A library for proofs about Go functions by symbolic evaluation,and plain Lean functions that the walked Go functions compute (written by a program of this claim).
-/
import Derived.Test.YtijmkjnlgcockaaGreatDoorFAF7
set_option linter.unusedVariables false
set_option linter.unnecessarySimpa false
set_option linter.unusedSimpArgs false
namespace Go.Vc
open Go.Proofs
def GLn (y : ByteArray) : Prop := ∃ l : Ln,l.ok /\ y = txt nm0 l
def zrM (N : Nat) (l : Ln) : Bool := match f57 N (txt nm0 l) with
 | some m=>Nat.ble m.size 10
 | none=>false
theorem zqg : zqb.all (zrM 198) = true := by kernel_rfl
theorem zqh : zqb.all (zrM 199) = true := by kernel_rfl
theorem zm9 {N : Nat} {l : Ln} (h : zrM N l = true) : ∃ m,f57 N (txt nm0 l) = some m /\ m.size <= 10 := by
 unfold zrM at h
 split at h
 .rename_i m hm;exact ⟨m,hm,Nat.le_of_ble_eq_true h⟩
 .cases h
theorem zrN (l : Ln) (h : l.ok) : (txt nm0 l).size <= 100 := by
 have s := zgn;have q := zfw
 cases l <;> simp only [txt,ByteArray.size_append,zch,List.length_cons,List.length_nil,zfP]
 case stone a n=>have := s 0 a;have := q n;omega
 case edition e=>have := s 1 e;omega
 case draw a e=>have := s 0 a;have := s 1 e;omega
 case paper e n=>have := s 1 e;have := q n;omega
 case print a n k=>have := s 0 a;have := q n;have := q k;omega
 case close e=>have := s 1 e;omega
 case claim c e n=>have := s 2 c;have := s 1 e;have := q n;omega
 case deliver c e n=>have := s 2 c;have := s 1 e;have := q n;omega
 case grind a=>have := s 0 a;omega
theorem GLn.mark {y : ByteArray} (h : GLn y) : y.size <= 100 /\ (∃ m,f57 198 y = some m /\ m.size <= 10) /\ ∃ m,f57 199 y = some m /\ m.size <= 10 := by
 obtain ⟨l,hl,rfl⟩ := h;exact ⟨zrN l hl,zm9 (List.all_eq_true.1 zqg l (zhs hl)),zm9 (List.all_eq_true.1 zqh l (zhs hl))⟩
def GLns (L : TL) : Prop := ∀ y,y ∈ L -> GLn y
theorem GLns.file8 {L : TL} (h : GLns L) (hl : L.length <= 120) : FileOK 198 L := ⟨hl,λ y hy=>⟨(h y hy).mark.1,(h y hy).mark.2.1⟩⟩
theorem GLns.file9 {L : TL} (h : GLns L) (hl : L.length <= 120) : FileOK 199 L := ⟨hl,λ y hy=>⟨(h y hy).mark.1,(h y hy).mark.2.2⟩⟩
noncomputable def rd (y : ByteArray) : I97 × Int := (f79 198 y).getD (.nil,9)
theorem zvD {l : Ln} (h : l.ok) : zeZ (ord nm0 l) := by
 cases l <;> simp only [Ln.ok] at h <;> simp only [ord,zeZ] <;> first | trivial | omega
theorem GLn.rd {y : ByteArray} (h : GLn y) : f79 198 y = some (rd y) /\ (rd y).2 = 0 /\ zeZ (rd y).1 := by
 obtain ⟨l,hl,rfl⟩ := h;have := ztG hl;unfold Go.Vc.rd;rw [this];exact ⟨rfl,rfl,zvD hl⟩
noncomputable def zcM (b : Bk) (y : ByteArray) : Bk := goM b y (rd y)
noncomputable def errB (b : Bk) (y : ByteArray) : Int := errM b (rd y)
theorem GLn.f18 {y : ByteArray} (h : GLn y) {b : Bk} (hb : BkOK b) : f18 200 y b.L b.S b.E b.C = some (outM (errB b y) (zcM b y)) := zvx (M := 197) hb (by omega) h.rd.1 λ _=>h.rd.2.2
theorem GLn.f17 {y : ByteArray} (h : GLn y) {b : Bk} (hb : BkOK b) : f17 200 y b.L b.S b.E b.C = some (errB b y) := zvw (M := 197) hb (by omega) h.rd.1 λ _=>h.rd.2.2
theorem GLn.step {y : ByteArray} (h : GLn y) {b : Bk} (hb : BkOK b) : BkOK (zcM b y) := go_ok hb λ _=>h.rd.2.2
theorem zjr {b : Bk} {y : ByteArray} (h : errB b y ≠ 0) : zcM b y = b := by
 unfold zcM goM;rw [if_neg (show ¬ errM b (rd y) = 0 from h)]
theorem zsy {b : Bk} {y : ByteArray} (h : errB b y = 0) : (zcM b y).L = b.L ++ [y] := by
 unfold zcM goM;rw [if_pos (show errM b (rd y) = 0 from h)]
noncomputable def tell (b : Bk) (l : TL) : Bk := l.foldl zcM b
theorem zjs : ∀ {l : TL} {b : Bk},BkOK b -> GLns l -> BkOK (tell b l)
 | [],b,h,_=>h
 | y :: l,b,h,hg=>zjs (l := l) ((hg y List.mem_cons_self).step h) λ z hz=>hg z (List.mem_cons_of_mem _ hz)
theorem zeg : ∀ {l : TL} {b : Bk},GLns b.L -> GLns l -> GLns (tell b l).L
 | [],b,h,_=>h
 | y :: l,b,h,hg=>by
  refine zeg (l := l) (b := zcM b y) ?_ λ z hz=>hg z (List.mem_cons_of_mem _ hz);by_cases he : errB b y = 0
  .rw [zsy he]
   intro z hz
   rcases List.mem_append.1 hz with hz | hz
   .exact h z hz
   .simp at hz;subst hz;exact hg z List.mem_cons_self
  .rw [zjr he];exact h
def Runs : Bk -> TL -> Prop
 | _,[]=>True
 | b,y :: l=>errB b y = 0 /\ Runs (zcM b y) l
theorem zjt : ∀ {l r : TL} {b : Bk},Runs b (l ++ r) ↔ Runs b l /\ Runs (tell b l) r
 | [],r,b=>by simp [Runs,tell]
 | y :: l,r,b=>by
  simp only [List.cons_append,Runs,zjt (l := l) (r := r),and_assoc];rfl
theorem zrO (b : Bk) (l r : TL) : tell b (l ++ r) = tell (tell b l) r := by simp [tell]
theorem zo : ∀ (l : TL) (b : Bk),(Runs Bk.new b.L /\ tell Bk.new b.L = b) -> Runs Bk.new (tell b l).L /\ tell Bk.new (tell b l).L = tell b l := by
 intro l
 induction l with
 | nil=>intro b h;exact h
 | cons y l ih =>
  intro b h;refine ih (zcM b y) ?_;by_cases he : errB b y = 0
  .rw [zsy he,zjt,zrO,h.2]
   exact ⟨⟨h.1,he,trivial⟩,rfl⟩
  .rw [zjr he];exact h
theorem zfR (k i : Nat) : f61 198 (nm0 k i) = some true := by
 unfold nm0
 split <;> kernel_rfl
theorem zrP {N : Nat} {l : TL} (h : l.length < N) (hl : l.length <= 1000) : f20 N l l = some true := by
 unfold f20;rw [show decide (¬ (l.length : Int) = (l.length : Int)) = false from decide_eq_false (by simp),cond_false];unfold zaH
 have key : ∀ (m i n : Nat),l.length - i = m -> i <= l.length -> m < n -> zkQ l l zf8 n (i : Int) = some true := by
  intro m
  induction m with
  | zero =>
   intro i n h1 h2 h3;obtain ⟨n,rfl⟩ : ∃ q,n = q + 1 := ⟨n - 1,by omega⟩;simp only [zkQ,zmV,zf8];rw [show decide ((i : Int) < (l.length : Int)) = false from decide_eq_false (by omega),cond_false]
  | succ m ih =>
   intro i n h1 h2 h3;obtain ⟨n,rfl⟩ : ∃ q,n = q + 1 := ⟨n - 1,by omega⟩;have hx : l[i]? = some l[i] := List.getElem?_eq_getElem (by omega);simp only [zkQ,zmV,zcj,hx,Option.bind_some];rw [show decide ((i : Int) < (l.length : Int)) = true from decide_eq_true (by omega),cond_true];simp only [not_true_eq_false,decide_false,cond_false];rw [zd8 (by omega)];exact ih (i + 1) n (by omega) (by omega) (by omega)
 exact key l.length 0 N rfl (Nat.zero_le _) h
theorem zoa {N : Nat} {l : List Int} (h : l.length < N) (hl : l.length <= 1000) : f35 N l l = some true := by
 unfold f35;rw [show decide (¬ (l.length : Int) = (l.length : Int)) = false from decide_eq_false (by simp),cond_false];unfold zaH
 have key : ∀ (m i n : Nat),l.length - i = m -> i <= l.length -> m < n -> zkP l l zf7 n (i : Int) = some true := by
  intro m
  induction m with
  | zero =>
   intro i n h1 h2 h3;obtain ⟨n,rfl⟩ : ∃ q,n = q + 1 := ⟨n - 1,by omega⟩;simp only [zkP,zmU,zf7];rw [show decide ((i : Int) < (l.length : Int)) = false from decide_eq_false (by omega),cond_false]
  | succ m ih =>
   intro i n h1 h2 h3;obtain ⟨n,rfl⟩ : ∃ q,n = q + 1 := ⟨n - 1,by omega⟩;have hx : l[i]? = some l[i] := List.getElem?_eq_getElem (by omega);simp only [zkP,zmU,zcj,hx,Option.bind_some];rw [show decide ((i : Int) < (l.length : Int)) = true from decide_eq_true (by omega),cond_true];simp only [not_true_eq_false,decide_false,cond_false];rw [zd8 (by omega)];exact ih (i + 1) n (by omega) (by omega) (by omega)
 exact key l.length 0 N rfl (Nat.zero_le _) h
theorem zij {b : Bk} (h : BkOK b) (k : ByteArray) : (zef b k).1.length <= 121 := by
 unfold zef;have hl := h.ll
 split
 .simp
 .rename_i e he
  obtain ⟨j,_,hj⟩ := zew he;have := (h.sh.gE hj).le;show e.places.length <= 121;omega
theorem ztL (N : Nat) : f29 N = some [nm0 2 0,nm0 2 1,nm0 2 2] := rfl
theorem ztM (N : Nat) : f28 N = some [nm0 1 0,nm0 1 1] := rfl
theorem ztN (N : Nat) : f27 N = some [nm0 0 0,nm0 0 1,nm0 0 2] := rfl
theorem zrQ {b : Bk} (h : BkOK b) (x6 : TL) (v : Int) (k1 : Option Bool) (e : Nat) : zdL b.L b.L b.S b.E b.C b.S b.E b.C 199 x6 v k1 (nm0 1 e) [nm0 2 0,nm0 2 1,nm0 2 2] 199 0 = k1 := by
 have q := λ c=>zvC (M := 198) h (zfR 2 c) (zfR 1 e)
 have step : ∀ (a n : Nat) (r : Int -> Option Bool),([nm0 2 0,nm0 2 1,nm0 2 2] : TL)[a]? = some (nm0 2 a) -> a < 3 -> zji r b.L b.L b.S b.E b.C b.S b.E b.C 199 x6 v k1 (nm0 1 e) [nm0 2 0,nm0 2 1,nm0 2 2] (a : Int) = r ((a + 1 : Nat) : Int) := by
  intro a n r he h2;simp only [zji,zcj,he,Option.bind_some,q,not_true_eq_false,decide_false,cond_false];rw [show decide ((a : Int) < ((List.length [nm0 2 0,nm0 2 1,nm0 2 2] : Nat) : Int)) = true from decide_eq_true (by simp;omega),cond_true,zd8 (by omega)]
 have e0 : zdL b.L b.L b.S b.E b.C b.S b.E b.C 199 x6 v k1 (nm0 1 e) [nm0 2 0,nm0 2 1,nm0 2 2] 199 0 = zdL b.L b.L b.S b.E b.C b.S b.E b.C 199 x6 v k1 (nm0 1 e) [nm0 2 0,nm0 2 1,nm0 2 2] 198 1 := step 0 198 _ rfl (by omega);have e1 : zdL b.L b.L b.S b.E b.C b.S b.E b.C 199 x6 v k1 (nm0 1 e) [nm0 2 0,nm0 2 1,nm0 2 2] 198 1 = zdL b.L b.L b.S b.E b.C b.S b.E b.C 199 x6 v k1 (nm0 1 e) [nm0 2 0,nm0 2 1,nm0 2 2] 197 2 := step 1 197 _ rfl (by omega);have e2 : zdL b.L b.L b.S b.E b.C b.S b.E b.C 199 x6 v k1 (nm0 1 e) [nm0 2 0,nm0 2 1,nm0 2 2] 197 2 = zdL b.L b.L b.S b.E b.C b.S b.E b.C 199 x6 v k1 (nm0 1 e) [nm0 2 0,nm0 2 1,nm0 2 2] 196 3 := step 2 196 _ rfl (by omega);rw [e0,e1,e2];rfl
theorem ztO {b : Bk} (h : BkOK b) (k0 : Option Bool) : zeA b.L b.L b.S b.E b.C b.S b.E b.C 199 k0 [nm0 1 0,nm0 1 1] 199 0 = k0 := by
 have q := λ e=>zvz (M := 198) h (zfR 1 e);have q2 := λ e=>zvA (M := 198) h (by omega) (zfR 1 e);have q3 := λ e=>zvB (M := 198) h (by omega) (zfR 1 e);have q4 := λ e=>zoa (N := 199) (l := (zef b (nm0 1 e)).1) (by have := zij h (nm0 1 e);omega) (by have := zij h (nm0 1 e);omega)
 have step : ∀ (e n : Nat) (r : Int -> Option Bool),([nm0 1 0,nm0 1 1] : TL)[e]? = some (nm0 1 e) -> e < 2 -> zjj r b.L b.L b.S b.E b.C b.S b.E b.C 199 k0 [nm0 1 0,nm0 1 1] (e : Int) = r ((e + 1 : Nat) : Int) := by
  intro e n r he h2;simp only [zjj,zaH,zcj,he,Option.bind_some,q,q2,q3,q4,not_true_eq_false,decide_false,decide_true,Bool.not_true,cond_false,Bool.and_true,Bool.and_self,ztL,zrQ h,zeR];rw [show decide ((e : Int) < ((List.length [nm0 1 0,nm0 1 1] : Nat) : Int)) = true from decide_eq_true (by simp;omega),cond_true,zd8 (by omega)]
 have e0 : zeA b.L b.L b.S b.E b.C b.S b.E b.C 199 k0 [nm0 1 0,nm0 1 1] 199 0 = zeA b.L b.L b.S b.E b.C b.S b.E b.C 199 k0 [nm0 1 0,nm0 1 1] 198 1 := step 0 198 _ rfl (by omega);have e1 : zeA b.L b.L b.S b.E b.C b.S b.E b.C 199 k0 [nm0 1 0,nm0 1 1] 198 1 = zeA b.L b.L b.S b.E b.C b.S b.E b.C 199 k0 [nm0 1 0,nm0 1 1] 197 2 := step 1 197 _ rfl (by omega);rw [e0,e1];rfl
theorem ztP {b : Bk} (h : BkOK b) (k2 : Option Bool) : zgc b.L b.L b.S b.E b.C b.S b.E b.C 199 k2 [nm0 0 0,nm0 0 1,nm0 0 2] 199 0 = k2 := by
 have q := λ a=>zvy (M := 198) h (zfR 0 a)
 have step : ∀ (a n : Nat) (r : Int -> Option Bool),([nm0 0 0,nm0 0 1,nm0 0 2] : TL)[a]? = some (nm0 0 a) -> a < 3 -> zmZ r b.L b.L b.S b.E b.C b.S b.E b.C 199 k2 [nm0 0 0,nm0 0 1,nm0 0 2] (a : Int) = r ((a + 1 : Nat) : Int) := by
  intro e n r he h2;simp only [zmZ,zcj,he,Option.bind_some,q,not_true_eq_false,decide_false,cond_false];rw [show decide ((e : Int) < ((List.length [nm0 0 0,nm0 0 1,nm0 0 2] : Nat) : Int)) = true from decide_eq_true (by simp;omega),cond_true,zd8 (by omega)]
 have e0 : zgc b.L b.L b.S b.E b.C b.S b.E b.C 199 k2 [nm0 0 0,nm0 0 1,nm0 0 2] 199 0 = zgc b.L b.L b.S b.E b.C b.S b.E b.C 199 k2 [nm0 0 0,nm0 0 1,nm0 0 2] 198 1 := step 0 198 _ rfl (by omega);have e1 : zgc b.L b.L b.S b.E b.C b.S b.E b.C 199 k2 [nm0 0 0,nm0 0 1,nm0 0 2] 198 1 = zgc b.L b.L b.S b.E b.C b.S b.E b.C 199 k2 [nm0 0 0,nm0 0 1,nm0 0 2] 197 2 := step 1 197 _ rfl (by omega);have e2 : zgc b.L b.L b.S b.E b.C b.S b.E b.C 199 k2 [nm0 0 0,nm0 0 1,nm0 0 2] 197 2 = zgc b.L b.L b.S b.E b.C b.S b.E b.C 199 k2 [nm0 0 0,nm0 0 1,nm0 0 2] 196 3 := step 2 196 _ rfl (by omega);rw [e0,e1,e2];rfl
theorem zvE {b : Bk} (h : BkOK b) (hg : GLns b.L) : f41 200 b.L b.L b.S b.E b.C b.S b.E b.C = some true := by
 have hl := h.ll;obtain ⟨t,ht⟩ := zsx (N := 198) (by omega) (hg.file8 hl);simp only [f41,f41b,ht,Option.bind_some,not_true_eq_false,decide_false,cond_false,zsw (M := 198) h,zrP (N := 199) (l := b.L) (by omega) (by omega),Bool.not_true,zaH,ztN,ztM,ztP h,zeS,ztO h,zeQ]
end Go.Vc

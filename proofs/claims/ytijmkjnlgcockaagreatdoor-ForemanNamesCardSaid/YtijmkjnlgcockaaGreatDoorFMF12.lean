/-
  A library for proofs about Go functions by symbolic evaluation,and plain Lean functions that the walked Go functions compute (written by a program of this claim).
-/
import Derived.Test.YtijmkjnlgcockaaGreatDoorFMF9
import Derived.Test.YtijmkjnlgcockaaGreatDoorFMF10
import Derived.Test.YtijmkjnlgcockaaGreatDoorFMF11
set_option linter.unusedVariables false
set_option linter.unnecessarySimpa false
set_option linter.unusedSimpArgs false
namespace Go.Vc
open Go.Proofs
def isNm (k : Nat) (x : ByteArray) : Prop := x = nm0 k 0 ∨ x = nm0 k 1 ∨ x = nm0 k 2
def toNm (t k : Nat) (x : ByteArray) : ByteArray := if x = nm0 k 0 then nmT t k 0 else if x = nm0 k 1 then nmT t k 1 else nmT t k 2
theorem zkG : (decide (nm0 0 0 ≠ nm0 0 1) && decide (nm0 0 0 ≠ nm0 0 2) && decide (nm0 0 1 ≠ nm0 0 2) && decide (nm0 1 0 ≠ nm0 1 1) && decide (nm0 1 1 = nm0 1 2) && decide (nm0 2 0 ≠ nm0 2 1) && decide (nm0 2 0 ≠ nm0 2 2) && decide (nm0 2 1 ≠ nm0 2 2)) = true := by kernel_rfl
theorem zqe : ((List.range 3).all λ t=>decide (nmT t 0 0 ≠ nmT t 0 1) && decide (nmT t 0 0 ≠ nmT t 0 2) && decide (nmT t 0 1 ≠ nmT t 0 2) && decide (nmT t 0 0 ≠ zaS) && decide (nmT t 0 1 ≠ zaS) && decide (nmT t 0 2 ≠ zaS)) = true := by kernel_rfl
theorem zbq {t k i : Nat} (hk : k < 3) (hi : i < 3) (h1 : k = 1 -> i < 2) : toNm t k (nm0 k i) = nmT t k i := by
 have h := zkG;simp only [Bool.and_eq_true,decide_eq_true_eq] at h;obtain ⟨⟨⟨⟨⟨⟨⟨a1,a2⟩,a3⟩,a4⟩,a5⟩,a6⟩,a7⟩,a8⟩ := h;unfold toNm
 match k,hk,i,hi,h1 with
 | 0,_,0,_,_=>rw [if_pos rfl]
 | 0,_,1,_,_=>rw [if_neg (Ne.symm a1),if_pos rfl]
 | 0,_,2,_,_=>rw [if_neg (Ne.symm a2),if_neg (Ne.symm a3)]
 | 1,_,0,_,_=>rw [if_pos rfl]
 | 1,_,1,_,_=>rw [if_neg (Ne.symm a4),if_pos rfl]
 | 1,_,2,_,h=>exact absurd (h rfl) (by omega)
 | 2,_,0,_,_=>rw [if_pos rfl]
 | 2,_,1,_,_=>rw [if_neg (Ne.symm a6),if_pos rfl]
 | 2,_,2,_,_=>rw [if_neg (Ne.symm a7),if_neg (Ne.symm a8)]
theorem zmU (t k i : Nat) : nmT t k i = nmT t 0 i := rfl
theorem zvF {t i j : Nat} (ht : t < 3) (hi : i < 3) (hj : j < 3) (h : nmT t 0 i = nmT t 0 j) : i = j := by
 have q := List.all_eq_true.1 zqe t (by simpa using ht);simp only [Bool.and_eq_true,decide_eq_true_eq] at q;obtain ⟨⟨⟨⟨⟨a1,a2⟩,a3⟩,_⟩,_⟩,_⟩ := q
 match i,hi,j,hj with
 | 0,_,0,_=>rfl
 | 0,_,1,_=>exact absurd h a1
 | 0,_,2,_=>exact absurd h a2
 | 1,_,0,_=>exact absurd h (Ne.symm a1)
 | 1,_,1,_=>rfl
 | 1,_,2,_=>exact absurd h a3
 | 2,_,0,_=>exact absurd h (Ne.symm a2)
 | 2,_,1,_=>exact absurd h (Ne.symm a3)
 | 2,_,2,_=>rfl
theorem zi0 {k : Nat} (hk : k < 3) {x : ByteArray} (h : isNm k x) : ∃ i,i < 3 /\ (k = 1 -> i < 2) /\ x = nm0 k i := by
 have q := zkG;simp only [Bool.and_eq_true,decide_eq_true_eq] at q;obtain ⟨⟨⟨⟨_,a5⟩,_⟩,_⟩,_⟩ := q
 rcases h with rfl | rfl | rfl
 .exact ⟨0,by omega,by omega,rfl⟩
 .exact ⟨1,by omega,by omega,rfl⟩
 .by_cases h1 : k = 1
  .subst h1;exact ⟨1,by omega,by omega,a5.symm⟩
  .exact ⟨2,by omega,λ h=>absurd h h1,rfl⟩
def rnT (t : Nat) (ht : t < 3) : Rn where
 P := λ k x=>k < 3 /\ isNm k x
 r := toNm t
 inj := λ k x y ⟨hk,hx⟩ ⟨_,hy⟩ h=>by
  obtain ⟨i,hi,h1,rfl⟩ := zi0 hk hx;obtain ⟨j,hj,h2,rfl⟩ := zi0 hk hy;rw [zbq hk hi h1,zbq hk hj h2,zmU,zmU t k j] at h;rw [zvF ht hi hj h]
theorem zbJ {k i : Nat} (hi : i < 3) : isNm k (nm0 k i) := by
 match i,hi with
 | 0,_=>exact .inl rfl
 | 1,_=>exact .inr (.inl rfl)
 | 2,_=>exact .inr (.inr rfl)
theorem zlT {t : Nat} {ht : t < 3} {l : Ln} (h : l.ok) : (rnT t ht).has (ord nm0 l) := by
 cases l <;> simp only [Ln.ok] at h <;> simp only [ord,Rn.has,rnT]
 case stone a n=>exact ⟨by omega,zbJ (by omega)⟩
 case edition e=>exact ⟨by omega,zbJ (by omega)⟩
 case draw a e=>exact ⟨⟨by omega,zbJ (by omega)⟩,by omega,zbJ (by omega)⟩
 case paper e n=>exact ⟨by omega,zbJ (by omega)⟩
 case print a n k=>exact ⟨by omega,zbJ (by omega)⟩
 case close e=>exact ⟨by omega,zbJ (by omega)⟩
 case claim c e n=>exact ⟨⟨by omega,zbJ (by omega)⟩,by omega,zbJ (by omega)⟩
 case deliver c e n=>exact ⟨⟨by omega,zbJ (by omega)⟩,by omega,zbJ (by omega)⟩
 case grind a=>exact ⟨by omega,zbJ (by omega)⟩
theorem zqf {t : Nat} {ht : t < 3} {l : Ln} (h : l.ok) : (rnT t ht).ord (ord nm0 l) = ord (nmT t) l := by
 cases l <;> simp only [Ln.ok] at h <;> simp only [ord,Rn.ord,rnT]
 case stone a n=>rw [zbq (by omega) (by omega) (by omega)]
 case edition e=>rw [zbq (by omega) (by omega) (by omega)]
 case draw a e=>rw [zbq (by omega) (by omega) (by omega),zbq (by omega) (by omega) (by omega)]
 case paper e n=>rw [zbq (by omega) (by omega) (by omega)]
 case print a n k=>rw [zbq (by omega) (by omega) (by omega)]
 case close e=>rw [zbq (by omega) (by omega) (by omega)]
 case claim c e n=>rw [zbq (by omega) (by omega) (by omega),zbq (by omega) (by omega) (by omega)]
 case deliver c e n=>rw [zbq (by omega) (by omega) (by omega),zbq (by omega) (by omega) (by omega)]
 case grind a=>rw [zbq (by omega) (by omega) (by omega)]
structure SameN (t : Nat) (ht : t < 3) (b o : Bk) : Prop where
 l : o.L.length = b.L.length
 s : o.S = (rnT t ht).mS b.S
 e : o.E = (rnT t ht).mE b.E
 c : o.C = (rnT t ht).mC b.C
 k : (rnT t ht).on b.S b.E b.C
section
variable {t : Nat} {ht : t < 3} {b o : Bk}
theorem zrV : SameN t ht Bk.new Bk.new := ⟨rfl,rfl,rfl,rfl,⟨λ p hp=>by simp [Bk.new] at hp,λ p hp=>by simp [Bk.new] at hp,λ p hp=>by simp [Bk.new] at hp,λ p hp=>by simp [Bk.new] at hp,λ p hp=>by simp [Bk.new] at hp⟩⟩
theorem zvG {l : Ln} (h : l.ok) : rd (txt nm0 l) = (ord nm0 l,0) := by
 unfold rd;rw [zp4 h];rfl
theorem SameN.step (h : SameN t ht b o) {l : Ln} (hl : l.ok) : errM o (ord (nmT t) l,0) = errB b (txt nm0 l) /\ SameN t ht (zdt b (txt nm0 l)) (goM o (txt (nmT t) l) (ord (nmT t) l,0)) := by
 have hw : zav o.S o.E o.C (ord (nmT t) l) = zav b.S b.E b.C (ord nm0 l) := by
  rw [h.s,h.e,h.c,<- zqf (ht := ht) hl];exact Rn.wrong h.k (zlT hl)
 have he : errM o (ord (nmT t) l,0) = errM b (ord nm0 l,0) := by
  unfold errM;rw [hw,h.l]
 refine ⟨by unfold errB;rw [zvG hl,he], ?_⟩;unfold zdt goM;rw [zvG hl,he]
 split
 .have hd : doM o.S o.E o.C (ord (nmT t) l) = ((rnT t ht).mS (doM b.S b.E b.C (ord nm0 l)).1,(rnT t ht).mE (doM b.S b.E b.C (ord nm0 l)).2.1,(rnT t ht).mC (doM b.S b.E b.C (ord nm0 l)).2.2) := by
   rw [h.s,h.e,h.c,<- zqf (ht := ht) hl];exact Rn.does h.k (zlT hl)
  refine ⟨by simp [h.l], ?_, ?_, ?_,Rn.keep h.k (zlT hl)⟩ <;> simp only [hd]
 .exact h
theorem ztQ {b : Bk} (hb : BkOK b) (h : SameN t ht b o) {j : Nat} {e : EditionM} (he : getF b.E j = some e) : isNm 1 e.name := by
 obtain ⟨p,hp,rfl⟩ := zcT he;exact (h.k.n p (List.mem_of_getElem? hp)).2
theorem zqg (hb : BkOK b) (h : SameN t ht b o) {a : Nat} (ha : a < 3) : (zbs o (nmT t 0 a)).1 = (zbs b (nm0 0 a)).1 /\ (zbs o (nmT t 0 a)).2.2 = (zbs b (nm0 0 a)).2.2 /\
  (((zbs b (nm0 0 a)).2.1 = zaS /\ (zbs o (nmT t 0 a)).2.1 = zaS) ∨ (∃ i,i < 2 /\ (zbs b (nm0 0 a)).2.1 = nm0 1 i /\ (zbs o (nmT t 0 a)).2.1 = nmT t 1 i)) := by
 have hq : stO o.S (nmT t 0 a) = stO b.S (nm0 0 a) := by
  rw [h.s,<- zbq (t := t) (k := 0) (by omega) ha (by omega)];exact Rn.st h.k ⟨by omega,zbJ ha⟩
 unfold zbs;rw [hq]
 cases hs : stO b.S (nm0 0 a) with
 | none=>exact ⟨rfl,rfl, .inl ⟨rfl,rfl⟩⟩
 | some x =>
  dsimp only
  cases hof : x.of with
  | none=>exact ⟨rfl,rfl, .inl ⟨rfl,rfl⟩⟩
  | some j =>
   obtain ⟨i,_,hi⟩ := zfW hs;obtain ⟨e,he,_⟩ := (hb.sh.gS hi).getE hof
   have h2 : getF o.E j = some ((rnT t ht).ed e) := by rw [h.e,Rn.gE,he];rfl
   dsimp only;rw [he,h2];refine ⟨rfl,rfl, .inr ?_⟩;obtain ⟨i,hi,h1,hn⟩ := zi0 (by omega) (ztQ hb h he);refine ⟨i,h1 rfl,hn, ?_⟩;show toNm t 1 e.name = _;rw [hn,zbq (by omega) hi h1]
theorem zlU (h : SameN t ht b o) {e : Nat} (he : e < 2) : edO o.E (nmT t 1 e) = (edO b.E (nm0 1 e)).map (rnT t ht).ed := by
 rw [h.e,<- zbq (t := t) (k := 1) (by omega) (show e < 3 by omega) (by omega)];exact Rn.eo h.k ⟨by omega,zbJ (by omega)⟩
theorem znU (h : SameN t ht b o) {e : Nat} (he : e < 2) : zbC o (nmT t 1 e) = zbC b (nm0 1 e) := by
 unfold zbC;rw [zlU h he]
 cases edO b.E (nm0 1 e) <;> rfl
theorem zqh (h : SameN t ht b o) {e : Nat} (he : e < 2) : zd3 o (nmT t 1 e) = zd3 b (nm0 1 e) := by
 unfold zd3;rw [zlU h he]
 cases edO b.E (nm0 1 e) <;> rfl
theorem zrW (h : SameN t ht b o) {e c : Nat} (he : e < 2) (hc : c < 3) : zfk o (nmT t 2 c) (nmT t 1 e) = zfk b (nm0 2 c) (nm0 1 e) := by
 unfold zfk;rw [zlU h he]
 cases hq : edO b.E (nm0 1 e) with
 | none=>rfl
 | some x =>
  obtain ⟨j,_,hj⟩ := zcU hq
  have : zaG 0 (nmT t 2 c) ((rnT t ht).ed x).owed = zaG 0 (nm0 2 c) x.owed := by
   rw [<- zbq (t := t) (k := 2) (by omega) hc (by omega)];exact zc8 ((rnT t ht).inj 2) ⟨by omega,zbJ hc⟩ (zfn h.k hj)
  simp only [Option.map_some,this]
end
theorem f18_T {t : Nat} (ht : t < 3) {l : Ln} (hl : l.ok) {o : Bk} (ho : BkOK o) : f18 200 (txt (nmT t) l) o.L o.S o.E o.C = some (outM (errM o (ord (nmT t) l,0)) (goM o (txt (nmT t) l) (ord (nmT t) l,0))) :=
 zsv (M := 197) ho (by omega) (zrR ht hl) λ _=>by
  have := zp8 hl
  cases l <;> exact this
theorem go_T {t : Nat} {l : Ln} (hl : l.ok) {o : Bk} (ho : BkOK o) : BkOK (goM o (txt (nmT t) l) (ord (nmT t) l,0)) := zvw ho λ _=>by
 have := zp8 hl
 cases l <;> exact this
structure FuT (N t : Nat) : Prop where
 q18 : ∀ {l : Ln} {o : Bk},l.ok -> BkOK o -> f18 N (txt (nmT t) l) o.L o.S o.E o.C = some (outM (errM o (ord (nmT t) l,0)) (goM o (txt (nmT t) l) (ord (nmT t) l,0)))
 qr : ∀ {l : Ln},l.ok -> reM (toM t) N (txt nm0 l) = some (txt (nmT t) l)
 q32 : ∀ {b : Bk} {k : ByteArray},BkOK b -> f61 199 k = some true -> f32 N k b.L b.S b.E b.C = some (zbs b k)
 q33 : ∀ {b : Bk} {k : ByteArray},BkOK b -> f61 199 k = some true -> f33 N k b.L b.S b.E b.C = some (zbC b k)
 q34 : ∀ {b : Bk} {k : ByteArray},BkOK b -> f61 199 k = some true -> f34 N k b.L b.S b.E b.C = some (zd3 b k)
 q36 : ∀ {b : Bk} {c k : ByteArray},BkOK b -> f61 199 c = some true -> f61 199 k = some true -> f36 N c k b.L b.S b.E b.C = some (zfk b c k)
end Go.Vc

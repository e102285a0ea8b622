/-
  A library for proofs about Go functions by symbolic evaluation,and plain Lean functions that the walked Go functions compute (written by a program of this claim).
-/
import Derived.Test.YtijmkjnlgcockaaGreatDoorFAF8
import Derived.Test.YtijmkjnlgcockaaGreatDoorFAF5
set_option linter.unusedVariables false
set_option linter.unnecessarySimpa false
set_option linter.unusedSimpArgs false
namespace Go.Vc
open Go.Proofs
theorem zrR : f14 200 = some true := by kernel_rfl
theorem lt_t {i n : Nat} (h : i < n) : decide ((i : Int) < (n : Int)) = true := decide_eq_true (by omega)
theorem lt_f {n : Nat} : decide ((n : Int) < (n : Int)) = false := decide_eq_false (by omega)
theorem zfx {F : Nat -> Int -> TL -> TS -> TE -> TC -> Option Bool} {k : TL -> TS -> TE -> TC -> Option Bool} {x : TL} (hg : GLns x)
  (hs : ∀ (n i : Nat) (y : ByteArray) (b : Bk),i < x.length -> x[i]? = some y -> GLn y -> BkOK b -> F (n + 1) (i : Int) b.L b.S b.E b.C = F n ((i + 1 : Nat) : Int) (zcM b y).L (zcM b y).S (zcM b y).E (zcM b y).C)
  (hk : ∀ (n : Nat) (b : Bk),F (n + 1) (x.length : Int) b.L b.S b.E b.C = k b.L b.S b.E b.C) :
  ∀ (n : Nat) (b : Bk),BkOK b -> x.length < n -> F n 0 b.L b.S b.E b.C = k (tell b x).L (tell b x).S (tell b x).E (tell b x).C := by
 have key : ∀ (r : TL) (i n : Nat) (b : Bk),x.drop i = r -> i <= x.length -> BkOK b -> r.length < n -> F n (i : Int) b.L b.S b.E b.C = k (tell b r).L (tell b r).S (tell b r).E (tell b r).C := by
  intro r
  induction r with
  | nil =>
   intro i n b hd hi hb hn;obtain ⟨n,rfl⟩ : ∃ q,n = q + 1 := ⟨n - 1,by simp at hn;omega⟩
   have : i = x.length := by
    have := congrArg List.length hd;simp at this;omega
   subst this;exact hk n b
  | cons y r ih =>
   intro i n b hd hi hb hn;obtain ⟨n,rfl⟩ : ∃ q,n = q + 1 := ⟨n - 1,by simp at hn;omega⟩
   have hx : x[i]? = some y := by
    have : (x.drop i)[0]? = some y := by rw [hd];rfl
    simpa using this
   have hil := (List.getElem?_eq_some_iff.1 hx).1;have hy := hg y (List.mem_of_getElem? hx);rw [hs n i y b hil hx hy hb];exact ih (i + 1) n (zcM b y) (by rw [<- List.drop_drop,hd];rfl) (by omega) (hy.step hb) (by simp at hn;omega)
 intro n b hb hn;exact key x 0 n b rfl (Nat.zero_le _) hb hn
theorem zlb {F : Nat -> Int -> TL -> TS -> TE -> TC -> Option Bool} {k : TL -> TS -> TE -> TC -> Option Bool} {x : TL} (hg : GLns x)
  (hs : ∀ (n i : Nat) (y : ByteArray) (b : Bk),i < x.length -> x[i]? = some y -> GLn y -> BkOK b -> errB b y = 0 -> F (n + 1) (i : Int) b.L b.S b.E b.C = F n ((i + 1 : Nat) : Int) (zcM b y).L (zcM b y).S (zcM b y).E (zcM b y).C)
  (hk : ∀ (n : Nat) (b : Bk),F (n + 1) (x.length : Int) b.L b.S b.E b.C = k b.L b.S b.E b.C) :
  ∀ (n : Nat) (b : Bk),BkOK b -> Runs b x -> x.length < n -> F n 0 b.L b.S b.E b.C = k (tell b x).L (tell b x).S (tell b x).E (tell b x).C := by
 have key : ∀ (r : TL) (i n : Nat) (b : Bk),x.drop i = r -> i <= x.length -> BkOK b -> Runs b r -> r.length < n -> F n (i : Int) b.L b.S b.E b.C = k (tell b r).L (tell b r).S (tell b r).E (tell b r).C := by
  intro r
  induction r with
  | nil =>
   intro i n b hd hi hb hr hn;obtain ⟨n,rfl⟩ : ∃ q,n = q + 1 := ⟨n - 1,by simp at hn;omega⟩
   have : i = x.length := by
    have := congrArg List.length hd;simp at this;omega
   subst this;exact hk n b
  | cons y r ih =>
   intro i n b hd hi hb hr hn;obtain ⟨n,rfl⟩ : ∃ q,n = q + 1 := ⟨n - 1,by simp at hn;omega⟩
   have hx : x[i]? = some y := by
    have : (x.drop i)[0]? = some y := by rw [hd];rfl
    simpa using this
   have hil := (List.getElem?_eq_some_iff.1 hx).1;have hy := hg y (List.mem_of_getElem? hx);rw [hs n i y b hil hx hy hb hr.1];exact ih (i + 1) n (zcM b y) (by rw [<- List.drop_drop,hd];rfl) (by omega) (hy.step hb) hr.2 (by simp at hn;omega)
 intro n b hb hr hn;exact key x 0 n b rfl (Nat.zero_le _) hb hr hn
theorem zfS {s : List A4u8N} (h : ∀ x,x ∈ s -> x.ok) : GLns ((zfv s).map (txt nm0)) := by
 intro y hy;obtain ⟨l,hl,rfl⟩ := List.mem_map.1 hy;exact ⟨l,zqd h l hl,rfl⟩
theorem zht (s : List A4u8N) : ((zfv s).map (txt nm0)).length <= 35 := by simp [zfv,zn9];omega
theorem ztQ {L : TL} (hg : GLns L) (hl : L.length <= 120) : ∃ t,∀ S E C,f23 200 L S E C = some t := zsx (N := 199) (by omega) (hg.file9 hl)
structure Fu (N : Nat) : Prop where
 big : 130 <= N
 q18 : ∀ {y : ByteArray} {b : Bk},GLn y -> BkOK b -> f18 N y b.L b.S b.E b.C = some (outM (errB b y) (zcM b y))
 q17 : ∀ {y : ByteArray} {b : Bk},GLn y -> BkOK b -> f17 N y b.L b.S b.E b.C = some (errB b y)
 q21 : ∀ {b : Bk},BkOK b -> f21 N b.L b.S b.E b.C = some b.L
 q41 : ∀ {b : Bk},BkOK b -> GLns b.L -> f41 N b.L b.L b.S b.E b.C b.S b.E b.C = some true
 qf : ∀ {L : TL},GLns L -> L.length <= 120 -> ∃ t,∀ S E C,f23 N L S E C = some t
 qw : f14 N = some true
theorem fu200 : Fu 200 := ⟨by omega,λ h hb=>h.f18 hb,λ h hb=>h.f17 hb,λ h=>zsw (M := 199) h,zvE,ztQ,zrR⟩
theorem zrS : Runs Bk.new Bk.new.L /\ tell Bk.new Bk.new.L = Bk.new := ⟨trivial,rfl⟩
theorem zqi {L : TL} {n : Nat} {b : Bk} (h : Runs b L) : Runs b (L.take n) := by
 rw [<- List.take_append_drop n L,zjt] at h;exact h.1
end Go.Vc

/-
  A library for proofs about Go functions by symbolic evaluation,and plain Lean functions that the walked Go functions compute (written by a program of this claim).
-/
import Derived.Test.YtijmkjnlgcockaaGreatDoorFMF12
set_option linter.unusedVariables false
set_option linter.unnecessarySimpa false
set_option linter.unusedSimpArgs false
namespace Go.Vc
open Go.Proofs
theorem ze1 (k i : Nat) : f61 199 (nm0 k i) = some true := by
 unfold nm0
 split <;> kernel_rfl
theorem zdN (t k i : Nat) : f61 199 (nmT t k i) = some true := by
 unfold nmT
 split <;> kernel_rfl
theorem fuT {t : Nat} (ht : t < 3) : FuT 200 t where
 q18 := λ hl ho=>f18_T ht hl ho
 qr := λ hl=>re_ln ht hl
 q32 := λ hb hk=>zsx (M := 199) hb hk
 q33 := λ hb hk=>zsy (M := 199) hb hk
 q34 := λ hb hk=>zsz (M := 199) hb (Nat.le_of_ble_eq_true rfl) hk
 q36 := λ hb hc hk=>zsA (M := 199) hb hc hk
theorem lk0 {t i : Nat} (hi : i < 3) : addS (strC [48]) (nm0 0 i) = some (strC [48] ++ nm0 0 i) /\ zaG zaS (strC [48] ++ nm0 0 i) (toM t) = (nmT t 0 i,true) := by
 obtain rfl | rfl | rfl : i = 0 ∨ i = 1 ∨ i = 2 := by omega
 all_goals exact ⟨by kernel_rfl,by kernel_rfl⟩
theorem lk1 {t i : Nat} (hi : i < 2) : addS (strC [49]) (nm0 1 i) = some (strC [49] ++ nm0 1 i) /\ zaG zaS (strC [49] ++ nm0 1 i) (toM t) = (nmT t 1 i,true) := by
 obtain rfl | rfl : i = 0 ∨ i = 1 := by omega
 all_goals exact ⟨by kernel_rfl,by kernel_rfl⟩
theorem lk2 {t i : Nat} (hi : i < 3) : addS (strC [50]) (nm0 2 i) = some (strC [50] ++ nm0 2 i) /\ zaG zaS (strC [50] ++ nm0 2 i) (toM t) = (nmT t 2 i,true) := by
 obtain rfl | rfl | rfl : i = 0 ∨ i = 1 ∨ i = 2 := by omega
 all_goals exact ⟨by kernel_rfl,by kernel_rfl⟩
section
variable {N t : Nat} {ht : t < 3} {b o : Bk}
theorem zmV {i : Nat} (hi : i < 2) : nm0 1 i ≠ zaS := by
 match i,hi with
 | 0,_=>intro h;exact absurd (congrArg ByteArray.size h) (by decide)
 | 1,_=>intro h;exact absurd (congrArg ByteArray.size h) (by decide)
theorem ztR (fu : Fu N) (ft : FuT N t) (hb : BkOK b) (ho : BkOK o) (h : SameN t ht b o) (x3 : TL) (v : Int) (k1 : Option Bool) {e : Nat} (he : e < 2) :
  zfI N b.L b.S b.E b.C (toM t) o.L o.S o.E o.C x3 v k1 (nm0 1 e) [nm0 2 0,nm0 2 1,nm0 2 2] N 0 = k1 := by
 have step : ∀ (c n : Nat) (r : Int -> Option Bool),([nm0 2 0,nm0 2 1,nm0 2 2] : TL)[c]? = some (nm0 2 c) -> c < 3 ->
   zmG r N b.L b.S b.E b.C (toM t) o.L o.S o.E o.C x3 v k1 (nm0 1 e) [nm0 2 0,nm0 2 1,nm0 2 2] (c : Int) = r ((c + 1 : Nat) : Int) := by
  intro c n r hx hc;simp only [zmG,zcb,hx,Option.bind_some];rw [show decide ((c : Int) < ((List.length [nm0 2 0,nm0 2 1,nm0 2 2] : Nat) : Int)) = true from decide_eq_true (by simp;omega),cond_true,ft.q36 hb (ze1 2 c) (ze1 1 e)];simp only [Option.bind_some];rw [(lk2 (t := t) hc).1];simp only [Option.bind_some,(lk2 (t := t) hc).2];rw [(lk1 (t := t) he).1];simp only [Option.bind_some,(lk1 (t := t) he).2];rw [ft.q36 ho (zdN t 2 c) (zdN t 1 e),zrW h he hc];simp only [Option.bind_some,not_true_eq_false,decide_false,cond_false];rw [zeQ (by omega)]
 have hN := fu.big;obtain ⟨M,rfl⟩ : ∃ M,N = M + 4 := ⟨N - 4,by omega⟩;have e0 : zfI (M + 4) b.L b.S b.E b.C (toM t) o.L o.S o.E o.C x3 v k1 (nm0 1 e) [nm0 2 0,nm0 2 1,nm0 2 2] (M + 4) 0 = zfI (M + 4) b.L b.S b.E b.C (toM t) o.L o.S o.E o.C x3 v k1 (nm0 1 e) [nm0 2 0,nm0 2 1,nm0 2 2] (M + 3) 1 := step 0 0 _ rfl (by omega);have e1 : zfI (M + 4) b.L b.S b.E b.C (toM t) o.L o.S o.E o.C x3 v k1 (nm0 1 e) [nm0 2 0,nm0 2 1,nm0 2 2] (M + 3) 1 = zfI (M + 4) b.L b.S b.E b.C (toM t) o.L o.S o.E o.C x3 v k1 (nm0 1 e) [nm0 2 0,nm0 2 1,nm0 2 2] (M + 2) 2 := step 1 0 _ rfl (by omega);have e2 : zfI (M + 4) b.L b.S b.E b.C (toM t) o.L o.S o.E o.C x3 v k1 (nm0 1 e) [nm0 2 0,nm0 2 1,nm0 2 2] (M + 2) 2 = zfI (M + 4) b.L b.S b.E b.C (toM t) o.L o.S o.E o.C x3 v k1 (nm0 1 e) [nm0 2 0,nm0 2 1,nm0 2 2] (M + 1) 3 := step 2 0 _ rfl (by omega);rw [e0,e1,e2];rfl
theorem zvH (fu : Fu N) (ft : FuT N t) (hb : BkOK b) (ho : BkOK o) (h : SameN t ht b o) : zfE N b.L b.S b.E b.C (toM t) o.L o.S o.E o.C = some true := by
 have h54 : zfD N = some true := by unfold zfD;rw [fu.qw];rfl
 have hN := fu.big
 have step : ∀ (e n : Nat) (r : Int -> Option Bool),([nm0 1 0,nm0 1 1] : TL)[e]? = some (nm0 1 e) -> e < 2 ->
   zmH r N b.L b.S b.E b.C (toM t) o.L o.S o.E o.C (some true) [nm0 1 0,nm0 1 1] (e : Int) = r ((e + 1 : Nat) : Int) := by
  intro e n r hx he;have hsl := zfm hb (nm0 1 e);simp only [zmH,zaJ,zcb,hx,Option.bind_some];rw [show decide ((e : Int) < ((List.length [nm0 1 0,nm0 1 1] : Nat) : Int)) = true from decide_eq_true (by simp;omega),cond_true,ft.q33 hb (ze1 1 e)];simp only [Option.bind_some];rw [(lk1 (t := t) he).1];simp only [Option.bind_some,(lk1 (t := t) he).2];rw [ft.q33 ho (zdN t 1 e),znU h he];simp only [Option.bind_some];rw [ft.q34 hb (ze1 1 e)];simp only [Option.bind_some];rw [ft.q34 ho (zdN t 1 e),zqh h he];simp only [Option.bind_some,zhZ (N := N) (l := (zbC b (nm0 1 e)).1) (by omega) (by omega),Bool.not_true,not_true_eq_false,decide_false,decide_true,cond_false,Bool.and_true,Bool.and_self,zlQ,ztR fu ft hb ho h _ _ _ he,zg0];rw [zeQ (by omega)]
 obtain ⟨M,rfl⟩ : ∃ M,N = M + 4 := ⟨N - 4,by omega⟩;unfold zfE zaJ;dsimp only;rw [h54,zlR];simp only [Option.bind_some];have e0 : ziW (M + 4) b.L b.S b.E b.C (toM t) o.L o.S o.E o.C (some true) [nm0 1 0,nm0 1 1] (M + 4) 0 = ziW (M + 4) b.L b.S b.E b.C (toM t) o.L o.S o.E o.C (some true) [nm0 1 0,nm0 1 1] (M + 3) 1 := step 0 0 _ rfl (by omega);have e1 : ziW (M + 4) b.L b.S b.E b.C (toM t) o.L o.S o.E o.C (some true) [nm0 1 0,nm0 1 1] (M + 3) 1 = ziW (M + 4) b.L b.S b.E b.C (toM t) o.L o.S o.E o.C (some true) [nm0 1 0,nm0 1 1] (M + 2) 2 := step 1 0 _ rfl (by omega);rw [e0,e1];rfl
theorem zqi (fu : Fu N) (ft : FuT N t) (hb : BkOK b) (ho : BkOK o) (h : SameN t ht b o) : zfF N b.L b.S b.E b.C (toM t) o.L o.S o.E o.C = some true := by
 have hN := fu.big
 have step : ∀ (a n : Nat) (r : Int -> Option Bool),([nm0 0 0,nm0 0 1,nm0 0 2] : TL)[a]? = some (nm0 0 a) -> a < 3 ->
   zmI r N b.L b.S b.E b.C (toM t) o.L o.S o.E o.C (some true) [nm0 0 0,nm0 0 1,nm0 0 2] (a : Int) = r ((a + 1 : Nat) : Int) := by
  intro a n r hx ha;obtain ⟨q1,q2,q3⟩ := zqg hb h ha;simp only [zmI,zcb,hx,Option.bind_some];rw [show decide ((a : Int) < ((List.length [nm0 0 0,nm0 0 1,nm0 0 2] : Nat) : Int)) = true from decide_eq_true (by simp;omega),cond_true,ft.q32 hb (ze1 0 a)];simp only [Option.bind_some];rw [(lk0 (t := t) ha).1];simp only [Option.bind_some,(lk0 (t := t) ha).2];rw [ft.q32 ho (zdN t 0 a)];simp only [Option.bind_some];rw [show zbs o (nmT t 0 a,true).1 = zbs o (nmT t 0 a) from rfl,q1,q2];simp only [not_true_eq_false,decide_false,cond_false]
  rcases q3 with ⟨p1,p2⟩ | ⟨i,hi,p1,p2⟩
  .rw [p1,p2]
   simp only [decide_true,cond_true,not_true_eq_false,decide_false,cond_false];rw [zeQ (by omega)]
  .rw [p1,p2,show decide (nm0 1 i = zaS) = false from decide_eq_false (zmV hi),show decide (¬ nm0 1 i = zaS) = true from decide_eq_true (zmV hi)]
   simp only [cond_true,cond_false];rw [(lk1 (t := t) hi).1];simp only [Option.bind_some,(lk1 (t := t) hi).2];simp only [not_true_eq_false,decide_false,cond_false];rw [zeQ (by omega)]
 unfold zfF zaJ;dsimp only;rw [zvH fu ft hb ho h,zlS];simp only [Option.bind_some];obtain ⟨M,rfl⟩ : ∃ M,N = M + 4 := ⟨N - 4,by omega⟩;have e0 : zg1 (M + 4) b.L b.S b.E b.C (toM t) o.L o.S o.E o.C (some true) [nm0 0 0,nm0 0 1,nm0 0 2] (M + 4) 0 = zg1 (M + 4) b.L b.S b.E b.C (toM t) o.L o.S o.E o.C (some true) [nm0 0 0,nm0 0 1,nm0 0 2] (M + 3) 1 := step 0 0 _ rfl (by omega);have e1 : zg1 (M + 4) b.L b.S b.E b.C (toM t) o.L o.S o.E o.C (some true) [nm0 0 0,nm0 0 1,nm0 0 2] (M + 3) 1 = zg1 (M + 4) b.L b.S b.E b.C (toM t) o.L o.S o.E o.C (some true) [nm0 0 0,nm0 0 1,nm0 0 2] (M + 2) 2 := step 1 0 _ rfl (by omega);have e2 : zg1 (M + 4) b.L b.S b.E b.C (toM t) o.L o.S o.E o.C (some true) [nm0 0 0,nm0 0 1,nm0 0 2] (M + 2) 2 = zg1 (M + 4) b.L b.S b.E b.C (toM t) o.L o.S o.E o.C (some true) [nm0 0 0,nm0 0 1,nm0 0 2] (M + 1) 3 := step 2 0 _ rfl (by omega);rw [e0,e1,e2];rfl
theorem zvI (fu : Fu N) (ft : FuT N t) {L : TL} {b0 : Bk} {k3 : TL -> TS -> TE -> TC -> Option Bool} (hg : GLns L) (hl : L.length <= 1000) : ∀ (r : TL) (i n : Nat) (b o : Bk),L.drop i = r -> i <= L.length -> r.length < n -> BkOK b -> BkOK o -> SameN t ht b o -> Runs b r ->
  ∃ o',BkOK o' /\ SameN t ht (tell b r) o' /\ zkA N b0.L b0.S b0.E b0.C (toM t) k3 L n (i : Int) o.L o.S o.E o.C = k3 o'.L o'.S o'.E o'.C := by
 intro r
 induction r with
 | nil =>
  intro i n b o hd hi hn hb ho h hr;obtain ⟨n,rfl⟩ : ∃ q,n = q + 1 := ⟨n - 1,by simp at hn;omega⟩
  have : i = L.length := by
   have := congrArg List.length hd;simp at this;omega
  subst this;refine ⟨o,ho,h, ?_⟩;simp only [zkA,zmJ,lt_f,cond_false]
 | cons y r ih =>
  intro i n b o hd hi hn hb ho h hr;obtain ⟨n,rfl⟩ : ∃ q,n = q + 1 := ⟨n - 1,by simp at hn;omega⟩
  have hx : L[i]? = some y := by
   have : (L.drop i)[0]? = some y := by rw [hd];rfl
   simpa using this
  have hil := (List.getElem?_eq_some_iff.1 hx).1;have hyg := hg y (List.mem_of_getElem? hx);obtain ⟨l,hlk,rfl⟩ := hyg;obtain ⟨s1,s2⟩ := h.step (o := o) hlk;obtain ⟨o',h1,h2,h3⟩ := ih (i + 1) n (zdt b (txt nm0 l)) (goM o (txt (nmT t) l) (ord (nmT t) l,0)) (by rw [<- List.drop_drop,hd];rfl) (by omega) (by simp at hn;omega) (GLn.step ⟨l,hlk,rfl⟩ hb) (go_T hlk ho) s2 hr.2;refine ⟨o',h1,h2, ?_⟩;have hre := ft.qr (l := l) hlk;unfold reM at hre;obtain ⟨p,hp,hre⟩ := bind_some hre;obtain ⟨w,hw,hre⟩ := bind_some hre;simp only [zkA,zmJ,lt_t hil,cond_true,zaJ,zcb,hx,Option.bind_some,hp,hw,zvC];have hre : reF (toM t) (zaG zaS w (setK (strC [103,114,105,110,100]) (strC [48]) (setK (strC [100,101,108,105,118,101,114]) (strC [50,49]) (setK (strC [99,108,97,105,109]) (strC [50,49]) (setK (strC [99,108,111,115,101]) (strC [49]) (setK (strC [112,114,105,110,116]) (strC [48]) (setK (strC [112,97,112,101,114]) (strC [49]) (setK (strC [100,114,97,119]) (strC [48,49]) (setK (strC [101,100,105,116,105,111,110]) (strC [49]) (setK (strC [115,116,111,110,101]) (strC [48]) [])))))))))).1 N p w 1 = some (txt (nmT t) l) := hre;rw [hre];simp only [Option.bind_some,zhV,zhU,ft.q18 hlk ho,outM,s1,hr.1,not_true_eq_false,decide_false,cond_false];rw [zeQ (by omega)];exact h3
end
theorem zqj {a c : Int} (h : Int.tmod a 3 = Int.tmod c 3) {N : Nat} {b1 : TL} {b2 : TS} {b3 : TE} {b4 : TC} {x60 x61 x62 : TL} {v : Int} {k : List (ByteArray × ByteArray) -> Option Bool} {x63 : TL} : ∀ n i m,f4_7 a N b1 b2 b3 b4 x60 x61 x62 v k x63 n i m = f4_7 c N b1 b2 b3 b4 x60 x61 x62 v k x63 n i m := by
 intro n
 induction n with
 | zero=>intro i m;rfl
 | succ n ih=>intro i m;simp only [f4_7,ztC,ih,h]
theorem zqk {a c : Int} (h : Int.tmod a 3 = Int.tmod c 3) {N : Nat} {b1 : TL} {b2 : TS} {b3 : TE} {b4 : TC} {x60 x61 x62 : TL} {k : List (ByteArray × ByteArray) -> Option Bool} : ∀ n i m,f4_4 a N b1 b2 b3 b4 k x60 x61 x62 n i m = f4_4 c N b1 b2 b3 b4 k x60 x61 x62 n i m := by
 intro n
 induction n with
 | zero=>intro i m;rfl
 | succ n ih =>
  intro i m
  have hr : f4_4 a N b1 b2 b3 b4 k x60 x61 x62 n = f4_4 c N b1 b2 b3 b4 k x60 x61 x62 n := by funext i m;exact ih i m
  have hc : ∀ v r,zg2 a b1 b2 b3 b4 x60 x61 x62 v r = zg2 c b1 b2 b3 b4 x60 x61 x62 v r := by intro v r;rfl
  simp only [f4_4,ztD,hr,hc,zqj h]
theorem to_eq {t : Nat} (ht : t < 3) {b1 : TL} {b2 : TS} {b3 : TE} {b4 : TC} {k : List (ByteArray × ByteArray) -> Option Bool} : f4_4 (t : Int) 200 b1 b2 b3 b4 k [nm0 0 0,nm0 0 1,nm0 0 2] [nm0 1 0,nm0 1 1] [nm0 2 0,nm0 2 1,nm0 2 2] 200 0 [] = k (toM t) := by
 obtain rfl | rfl | rfl : t = 0 ∨ t = 1 ∨ t = 2 := by omega
 .kernel_rfl
 .kernel_rfl
 .kernel_rfl
theorem ztS {N t : Nat} (fu : Fu N) (ht : t < 3) (ft : FuT N t) (hto : ∀ {b1 : TL} {b2 : TS} {b3 : TE} {b4 : TC} {k : List (ByteArray × ByteArray) -> Option Bool},f4_4 (t : Int) N b1 b2 b3 b4 k [nm0 0 0,nm0 0 1,nm0 0 2] [nm0 1 0,nm0 1 1] [nm0 2 0,nm0 2 1,nm0 2 2] N 0 [] = k (toM t))
  {a0 : List A4u8N} {a1 : Int} (h0 : ∀ x,x ∈ a0 -> x.ok) (h1 : Int.tmod a1 3 = (t : Int)) : f4 N a0 a1 = some true := by
 have hN := fu.big;unfold f4;rw [zvy (by omega) h0];simp only [Option.bind_some];have hl0 := zqd a0;generalize hq : (zg3 a0).map (txt nm0) = x1 at hl0;have hg0 : GLns x1 := hq ▸ znT h0;unfold zaJ;dsimp only;refine (zqc (k := zb4 a1 N) hg0 ?_ ?_ N Bk.new zmN (by omega)).trans ?_
 .intro n i y b hi hx hy hb
  simp only [zcG,zd2,lt_t hi,cond_true,zaJ,zcb,hx,Option.bind_some,zcq,fu.q18 hy hb,outM];rw [zeQ (by omega)]
 .intro n b
  simp only [zcG,zd2,lt_f,cond_false]
 have hb : BkOK (tell Bk.new x1) := zq zmN hg0;have hbg : GLns (tell Bk.new x1).L := zkF (λ y hy=>by simp [Bk.new] at hy) hg0;have hbt := znS x1 Bk.new zrU;generalize tell Bk.new x1 = b at hb hbg hbt;have hbl := hb.ll;unfold zb4 zaJ;dsimp only;rw [zlS,zlR,zlQ];simp only [Option.bind_some];rw [zqk (c := (t : Int)) (by rw [h1,Int.tmod_eq_emod_of_nonneg (by omega)];omega),hto];unfold zhW zaJ;dsimp only;rw [fu.q21 hb];simp only [Option.bind_some];obtain ⟨o,ho,hs,he⟩ := zvI (ht := ht) (b0 := b) (k3 := zfF N b.L b.S b.E b.C (toM t)) fu ft hbg (by omega) b.L 0 N Bk.new Bk.new rfl (Nat.zero_le _) (by omega) zmN zmN zrV hbt.1;refine he.trans ?_;rw [hbt.2] at hs;exact zqi fu ft hb ho hs
theorem zrX {a0 : List A4u8N} {a1 : Int} (h0 : ∀ x,x ∈ a0 -> x.ok) (h1 : u8In a1) : f4 200 a0 a1 = some true := by
 obtain ⟨p0,p1⟩ := h1;obtain ⟨t,ht⟩ : ∃ t : Nat,Int.tmod a1 3 = (t : Int) := ⟨(a1 % 3).toNat,by rw [Int.tmod_eq_emod_of_nonneg p0];omega⟩
 have h3 : t < 3 := by rw [Int.tmod_eq_emod_of_nonneg p0] at ht;omega
 exact ztS fu200 h3 (fuT h3) (to_eq h3) h0 ht
end Go.Vc

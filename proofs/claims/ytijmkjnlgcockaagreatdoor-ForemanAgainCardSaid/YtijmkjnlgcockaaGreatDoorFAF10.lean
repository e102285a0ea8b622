/-
  A library for proofs about Go functions by symbolic evaluation,and plain Lean functions that the walked Go functions compute (written by a program of this claim).
-/
import Derived.Test.YtijmkjnlgcockaaGreatDoorFAF9
import Derived.Test.YtijmkjnlgcockaaGreatDoorFAF5
import Derived.Test.YtijmkjnlgcockaaGreatDoorVc4
import Derived.Test.YtijmkjnlgcockaaGreatDoorFAF1
import Derived.Test.YtijmkjnlgcockaaGreatDoorFAF7
import Derived.Test.YtijmkjnlgcockaaGreatDoorVc3
import Derived.Test.YtijmkjnlgcockaaGreatDoorProg
import Derived.LaidSub
import Derived.MakeChecks
set_option linter.unusedVariables false
set_option linter.unnecessarySimpa false
set_option linter.unusedSimpArgs false
namespace Go.Vc
open Go.Proofs
theorem ztR {N : Nat} (fu : Fu N) {d c : Bk} (a1 : List A4u8N) (h1 : ∀ x,x ∈ a1 -> x.ok) (hd : BkOK d) (hdg : GLns d.L) (hc : BkOK c) (t : ByteArray) (ht : ∀ S E C,f23 N d.L S E C = some t) :
  (zaH (zfu N d.L d.S d.E d.C t) λ k3=>(f26 N a1).bind λ x17=>zk6 N d.L d.S d.E d.C t k3 x17 N (0 : Int) c.L c.S c.E c.C) = some true := by
 have hdl := hd.ll;have hN := fu.big
 have h30 : zfu N d.L d.S d.E d.C t = some true := by
  have hk : ∀ v : Int,zhm N d.L d.S d.E d.C t v = if v = 4 then some true else some false := by
   intro v;simp only [zhm,ht,Option.bind_some,decide_true,cond_true,fu.qw,zcG,decide_eq_true_eq,if_true]
  unfold zfu zaH;dsimp only;rw [fu.q21 hd];simp only [Option.bind_some];rw [zd8 (by omega),show decide (((d.L.length + 1 : Nat) : Int) < (0 : Int)) = false from decide_eq_false (by omega),cond_false,show decide ((d.L.length : Int) < ((d.L.length + 1 : Nat) : Int)) = true from decide_eq_true (by omega),cond_true,hk,if_pos rfl]
 unfold zaH;dsimp only;rw [h30,zqe (by omega) h1];simp only [Option.bind_some];have hl := zht a1;generalize hq : (zfv a1).map (txt nm0) = x17 at hl;have hg : GLns x17 := hq ▸ zfS h1;refine (zfx (k := λ _ _ _ _=>some true) hg ?_ ?_ N c hc (by omega))
 .intro n i y b hi hx hy hb
  simp only [zk6,zm0,lt_t hi,cond_true,zcj,hx,Option.bind_some,fu.q18 hy hb,outM];rw [zd8 (by omega)]
 .intro n b
  simp only [zk6,zm0,lt_f,cond_false]
theorem zqj {N : Nat} (fu : Fu N) {a1 : List A4u8N} {a2 : Int} {x2 : TL} {c : Bk} {k6 : TL -> TL -> TS -> TE -> TC -> TS -> TE -> TC -> Option Bool} {x : TL} (hg : GLns x) (hl : x.length <= 1000) : ∀ (r : TL) (i n : Nat) (b : Bk),x.drop i = r -> i <= x.length -> BkOK b -> GLns b.L -> r.length < n ->
  zk7 a1 a2 N x2 c.L c.S c.E c.C k6 x n (i : Int) b.L b.L b.S b.E b.C b.S b.E b.C = k6 (tell b r).L (tell b r).L (tell b r).S (tell b r).E (tell b r).C (tell b r).S (tell b r).E (tell b r).C := by
 intro r
 induction r with
 | nil =>
  intro i n b hd hi hb hbg hn;obtain ⟨n,rfl⟩ : ∃ q,n = q + 1 := ⟨n - 1,by simp at hn;omega⟩
  have : i = x.length := by
   have := congrArg List.length hd;simp at this;omega
  subst this;simp only [zk7,zm1,lt_f,cond_false];rfl
 | cons y r ih =>
  intro i n b hd hi hb hbg hn;obtain ⟨n,rfl⟩ : ∃ q,n = q + 1 := ⟨n - 1,by simp at hn;omega⟩
  have hx : x[i]? = some y := by
   have : (x.drop i)[0]? = some y := by rw [hd];rfl
   simpa using this
  have hil := (List.getElem?_eq_some_iff.1 hx).1;have hy := hg y (List.mem_of_getElem? hx);obtain ⟨t,ht⟩ := fu.qf hbg hb.ll;have hsg : GLns (zcM b y).L := zeg (l := [y]) hbg (λ z hz=>by simp at hz;subst hz;exact hy);have hi2 := ih (i + 1) n (zcM b y) (by rw [<- List.drop_drop,hd];rfl) (by omega) (hy.step hb) hsg (by simp at hn;omega);simp only [zk7,zm1,lt_t hil,cond_true,zcj,hx,Option.bind_some,ht,fu.q17 hy hb,fu.q18 hy hb,outM,not_true_eq_false,decide_false,cond_false];rw [zd8 (by omega),hi2];by_cases he : errB b y = 0
  .rw [show decide (¬ errB b y = 0) = false from decide_eq_false (by simp [he]),cond_false];rfl
  .rw [show decide (¬ errB b y = 0) = true from decide_eq_true he,cond_true]
   rw [zjr he,ht];simp only [Option.bind_some,not_true_eq_false,decide_false,cond_false]
   have hT : tell b (y :: r) = tell b r := by
    show tell (zcM b y) r = _;rw [zjr he]
   rw [hT]
theorem ztS {N : Nat} (fu : Fu N) {a0 a1 : List A4u8N} {a2 : Int} (h0 : ∀ x,x ∈ a0 -> x.ok) (h1 : ∀ x,x ∈ a1 -> x.ok) (h2 : u8In a2) : f7 N a0 a1 a2 = some true := by
 obtain ⟨p0,p1⟩ := h2;have hN := fu.big;unfold f7;rw [zqe (by omega) h0];simp only [Option.bind_some];have hl0 := zht a0;generalize hq : (zfv a0).map (txt nm0) = x1 at hl0;have hg0 : GLns x1 := hq ▸ zfS h0;unfold zaH;dsimp only;refine (zfx (k := zcu a1 a2 N) hg0 ?_ ?_ N Bk.new zhr (by omega)).trans ?_
 .intro n i y b hi hx hy hb
  simp only [zcZ,zeu,lt_t hi,cond_true,zaH,zcj,hx,Option.bind_some,zcO,fu.q18 hy hb,outM];rw [zd8 (by omega)]
 .intro n b
  simp only [zcZ,zeu,lt_f,cond_false]
 have hb : BkOK (tell Bk.new x1) := zjs zhr hg0;have hbg : GLns (tell Bk.new x1).L := zeg (λ y hy=>by simp [Bk.new] at hy) hg0;have hbt := zo x1 Bk.new zrS;generalize tell Bk.new x1 = b at hb hbg hbt;have hbl := hb.ll;unfold zcu zaH;rw [fu.q21 hb];simp only [Option.bind_some];refine (zlb (k := zhq a1 a2 N b.L b.S b.E b.C b.L) hbg ?_ ?_ N Bk.new zhr hbt.1 (by omega)).trans ?_
 .intro n i y o hi hx hy ho he
  simp only [f7_5,zrF,lt_t hi,cond_true,zaH,zcj,hx,Option.bind_some,zn8,fu.q18 hy ho,outM,he,not_true_eq_false,decide_false,cond_false];rw [zd8 (by omega)]
 .intro n o
  simp only [f7_5,zrF,lt_f,cond_false]
 rw [hbt.2]
 -- the first lines
 have hw : W ((b.L.length : Int) + 1) = ((b.L.length + 1 : Nat) : Int) := zd8 (by omega);unfold zhq;rw [hw,show decide (((b.L.length + 1 : Nat) : Int) ≠ 0) = true from decide_eq_true (by omega)];simp only [chk,cond_true,Option.bind_some]
 have ht : Int.tmod a2 ((b.L.length + 1 : Nat) : Int) = (((a2 % ((b.L.length + 1 : Nat) : Int)).toNat : Nat) : Int) := by
  rw [Int.tmod_eq_emod_of_nonneg p0];have := Int.emod_nonneg a2 (b := ((b.L.length + 1 : Nat) : Int)) (by omega);omega
 have hk : (a2 % ((b.L.length + 1 : Nat) : Int)).toNat <= b.L.length := by
  have := Int.emod_lt_of_pos a2 (b := ((b.L.length + 1 : Nat) : Int)) (by omega);have := Int.emod_nonneg a2 (b := ((b.L.length + 1 : Nat) : Int)) (by omega);omega
 generalize (a2 % ((b.L.length + 1 : Nat) : Int)).toNat = k at ht hk;rw [ht,show decide ((k : Int) < (0 : Int)) = false from decide_eq_false (by omega),cond_false,show decide ((b.L.length : Int) < (k : Int)) = false from decide_eq_false (by omega),cond_false]
 have hv : vw b.L (k : Int) = some k := by
  unfold vw;rw [if_pos ⟨by omega,by omega⟩];simp
 rw [hv];simp only [Option.bind_some,zaH]
 have htl : (b.L.take k).length = k := by simp;omega
 have htg : GLns (b.L.take k) := λ y hy=>hbg y (List.mem_of_mem_take hy);have hrk : Runs Bk.new (b.L.take k) := zqi hbt.1;have hwK : W (((b.L.length : Nat) : Int) + (1 : Int)) = ((b.L.length + 1 : Nat) : Int) := hw
 have hsub : sub b.L 0 (k : Int) = some (b.L.take k) := by
  have := zpC (l := b.L) (a := 0) (b := k) (by omega) hk;exact this.trans (by simp)
 have hx : ∀ i,i < k -> b.L[i]? = (b.L.take k)[i]? := λ i hi=>by rw [List.getElem?_take];simp [hi]
 refine (zlb (x := b.L.take k) (k := zaj a1 a2 N b.L b.S b.E b.C b.L b.L b.S b.E b.C) htg ?_ ?_ N Bk.new zhr hrk (by omega)).trans ?_
 .intro n i y o hi hxx hy ho he
  rw [htl] at hi
  have hxv : ixV b.L k (i : Int) = some y := by
   unfold ixV;rw [if_pos ⟨by omega,by omega,by omega⟩,Int.toNat_natCast,hx i hi];exact hxx
  simp only [zak,zaC,lt_t hi,cond_true,zaH,hxv,Option.bind_some,zao,fu.q18 hy ho,outM,he,not_true_eq_false,decide_false,cond_false];rw [zd8 (by omega)]
 .intro n o
  rw [htl];simp only [zak,zaC,lt_f,cond_false]
 have hc : BkOK (tell Bk.new (b.L.take k)) := zjs zhr htg;have hcg : GLns (tell Bk.new (b.L.take k)).L := zeg (λ y hy=>by simp [Bk.new] at hy) htg;generalize hcq : tell Bk.new (b.L.take k) = c at hc hcg;unfold zaj;rw [fu.q41 hb hbg];simp only [Option.bind_some,Bool.not_true,cond_false];rw [hwK,ht,hsub];simp only [Option.bind_some,zaH];refine (zfx (x := b.L.take k) (k := zbY a1 a2 N b.L b.S b.E b.C b.L b.L b.S b.E b.C c.L c.S c.E c.C) htg ?_ ?_ N Bk.new zhr (by omega)).trans ?_
 .intro n i y o hi hxx hy ho
  simp only [zct,zdH,lt_t hi,cond_true,zaH,zcj,hxx,Option.bind_some,zcs,fu.q18 hy ho,outM];rw [zd8 (by omega)]
 .intro n o
  simp only [zct,zdH,lt_f,cond_false]
 rw [hcq];unfold zbY;rw [fu.q41 hc hcg];simp only [Option.bind_some,Bool.not_true,cond_false,zaH];rw [zqe (by omega) h1];simp only [Option.bind_some];have hl1 := zht a1;generalize hq1 : (zfv a1).map (txt nm0) = x22 at hl1;have hg1 : GLns x22 := hq1 ▸ zfS h1;refine (zqj fu (a1 := a1) (a2 := a2) (x2 := b.L) (c := c) (k6 := zho a1 a2 N b.L c.L c.S c.E c.C) hg1 (by omega) x22 0 N b rfl (Nat.zero_le _) hb hbg (by omega)).trans ?_;have hd : BkOK (tell b x22) := zjs hb hg1;have hdg : GLns (tell b x22).L := zeg hbg hg1;generalize tell b x22 = d at hd hdg;unfold zho;rw [fu.q41 hd hdg];simp only [Option.bind_some,Bool.not_true,cond_false,zaH];rw [hwK,ht,hsub];simp only [Option.bind_some];refine (zfx (x := b.L.take k) (k := zbX a1 N b.L c.L c.S c.E c.C d.L d.L d.S d.E d.C d.S d.E d.C) htg ?_ ?_ N Bk.new zhr (by omega)).trans ?_
 .intro n i y o hi hxx hy ho
  simp only [zcr,zdG,lt_t hi,cond_true,zaH,zcj,hxx,Option.bind_some,zcq,fu.q18 hy ho,outM];rw [zd8 (by omega)]
 .intro n o
  simp only [zcr,zdG,lt_f,cond_false]
 rw [hcq];unfold zbX;rw [fu.q41 hc hcg];simp only [Option.bind_some,Bool.not_true,cond_false];obtain ⟨t,ht⟩ := fu.qf hdg hd.ll;rw [ht];simp only [Option.bind_some];exact ztR fu a1 h1 hd hdg hc t ht
theorem zrT {a0 a1 : List A4u8N} {a2 : Int} (h0 : ∀ x,x ∈ a0 -> x.ok) (h1 : ∀ x,x ∈ a1 -> x.ok) (h2 : u8In a2) : f7 200 a0 a1 a2 = some true := ztS fu200 h0 h1 h2
end Go.Vc
namespace Go.Vc
abbrev tB : Ty := .int .u8
abbrev tA4 : Ty := .comp [tB,tB,tB,tB]
abbrev tSh : Ty := .slice tA4 true 4
theorem zvF {ds : List D} (h : tB.has ds) : ∃ n,ds = [u8N n] /\ u8In n := by
 simp only [tB,Ty.has] at h;obtain ⟨n,rfl,h⟩ := h;exact ⟨n,rfl,by simpa [IntKind.min,IntKind.max,IntKind.signed,IntKind.bits,u8In] using h⟩
theorem zn {ds : List D} (h : (Ty.int .u8).has ds) : ∃ n,ds = [u8N n] /\ u8In n := zvF h
theorem zvG {x : D} (h : tB.hasD x) : ∃ n,x = u8N n /\ u8In n := by
 obtain ⟨n,h1,h2⟩ := zvF (ds := [x]) h;exact ⟨n,List.singleton_inj.1 h1,h2⟩
theorem zlc {x : D} (h : tSh.hasD x) : ∃ l : List A4u8N,x = zbE l /\ ∀ y,y ∈ l -> y.ok := by
 obtain ⟨l,h1,_,h3⟩ := zrg (d := A4u8N.d) (p := A4u8N.ok) (ds := [x]) (λ cs h=>by
  simp only [tA4,Ty.has] at h;rw [Ty.hasL] at h;obtain ⟨a0,b0,rfl,h0,h⟩ := h;rw [Ty.hasL] at h;obtain ⟨a1,b1,rfl,h1,h⟩ := h;rw [Ty.hasL] at h;obtain ⟨a2,b2,rfl,h2,h⟩ := h;rw [Ty.hasL] at h;obtain ⟨a3,b3,rfl,h3,h⟩ := h;simp only [Ty.hasL] at h;subst h;obtain ⟨x0,rfl,p0⟩ := zn h0;obtain ⟨x1,rfl,p1⟩ := zn h1;obtain ⟨x2,rfl,p2⟩ := zn h2;obtain ⟨x3,rfl,p3⟩ := zn h3
  exact ⟨⟨x0,x1,x2,x3⟩,rfl,p0,p1,p2,p3⟩) h
 exact ⟨l,List.singleton_inj.1 h1,h3⟩
end Go.Vc
namespace Go.Vc
open Go.Proofs
theorem lx_of {l : List (String × DataW Unit)} (h1 : (l.filter λ x=>x.1 == "internal/strconv.uint64pow10") = [("internal/strconv.uint64pow10", Lib.tabData .u64 Lib.pow10Tab)]) {w : World} (h : laidMetH Tryz.prog l w.memory) : LX Tryz.prog w := by
 have h2 := laidMetH.filter (λ x=>x.1 == "internal/strconv.uint64pow10") h
 rw [h1,MakeChecks.laidMetH_plain _ _ _ (by rfl)] at h2;exact LX.heap (w := w.memory) (Lib.tabIs_of_head (g := 0) (t := 226) (e := 182) (n := 20) (by kernel_rfl) (by kernel_rfl) (by kernel_rfl) (by kernel_rfl) (by kernel_rfl) (by kernel_rfl) h2) rfl
end Go.Vc

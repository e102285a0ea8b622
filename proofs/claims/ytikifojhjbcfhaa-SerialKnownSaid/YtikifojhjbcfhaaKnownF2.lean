/-
  A library for proofs about Go functions by symbolic evaluation, and plain Lean functions that the walked Go functions compute (written by a program of this claim).
-/
import Derived.Test.YtikifojhjbcfhaaKnownF1
namespace Go.Vc
open Go.Proofs
set_option linter.unusedVariables false
set_option linter.unnecessarySimpa false
set_option linter.unusedSimpArgs false
section
variable {c : Ctx} {p nid : Nat} {a b : Code} {st : St} {K : Ex → St → Prop}
/- f92: slices.Compare[[]int,int] -/
def f92_c11 (a0 : List Int) (a1 : List Int) : Option (Int) :=
 bif decide ((List.length a0 : Int) < (List.length a1 : Int)) then (some ((-1 : Int)))
 else (some ((0 : Int)))
def Sf92_c11 : Ann := ⟨[0, 1], [], [], []⟩
def Vf92_c11 (a0 : List Int) (a1 : List Int) : List SV := [.dat (sl_iN a0), .dat (sl_iN a1)]
def Bf92_c11 (a0 : List Int) (a1 : List Int) : List Blk := []
def Yf92_c11 (a0 : List Int) (a1 : List Int) (y : Unit) : List SV := Vf92_c11 a0 a1
def Xf92_c11 (a0 : List Int) (a1 : List Int) (y : Unit) : List Blk := Bf92_c11 a0 a1
def Jf92_c11 (a0 : List Int) (a1 : List Int) (r : Int) (y : Unit) : Prop := f92_c11 a0 a1 = some r
theorem Cf92_c11 {r : Int} {a0 : List Int} {a1 : List Int} {g : _ → Option (Int)} (hn : Nat.beq (nid * 1000 + firstRegion b) 11 = true) (hz : Sf92_c11.ok p = true) (h : g (f92_c11 a0 a1) = some r → vc c p nid a st (KHead Sf92_c11 (Yf92_c11 a0 a1) (Xf92_c11 a0 a1) (Jf92_c11 a0 a1 r) K)) (h2 : ∀ (_ : Unit), f92_c11 a0 a1 = some r → vc c p nid b (St.mk' Sf92_c11 (Vf92_c11 a0 a1) (Bf92_c11 a0 a1)) K) (hF : joinK (f92_c11 a0 a1) g = some r) : vc c p nid (.seq a b) st K :=
  vc_cut Sf92_c11 (Yf92_c11 a0 a1) (Xf92_c11 a0 a1) (Jf92_c11 a0 a1 r) hz (h hF) fun y hy => h2 () hy
theorem Zf92_c11 {r : Int} {a0 : List Int} {a1 : List Int} (hF : f92_c11 a0 a1 = some r) (h0 : AtH Sf92_c11 st (Vf92_c11 a0 a1) (Bf92_c11 a0 a1)) : KHead Sf92_c11 (Yf92_c11 a0 a1) (Xf92_c11 a0 a1) (Jf92_c11 a0 a1 r) K .normal st := by
  exact khead (I := (Jf92_c11 a0 a1 r)) (x := ()) hF h0
def f92_2b (r2 : Int → Option (Int)) (a0 : List Int) (a1 : List Int) (N : Nat) (k0 : Option (Int)) (v11 : Int) : Option (Int) :=
 bif decide (v11 < (List.length a0 : Int)) then ((ix a0 v11).bind fun x1 =>
 bif decide ((List.length a1 : Int) ≤ v11) then (some ((1 : Int)))
 else ((ix a1 v11).bind fun x2 =>
 (f97 N x1 x2).bind fun x3 =>
 bif decide (¬ x3 = (0 : Int)) then (some (x3))
 else (r2 (W (v11 + (1 : Int))))))
 else k0
def f92_2 (a0 : List Int) (a1 : List Int) (N : Nat) (k0 : Option (Int)) : Nat → Int → Option (Int)
  | 0, _ => none
  | n + 1, v11 => f92_2b (f92_2 a0 a1 N k0 n) a0 a1 N k0 v11
def Sf92_2 : Ann := ⟨[0, 1, 9, 10, 11], [], [], []⟩
def Vf92_2 (a0 : List Int) (a1 : List Int) (v11 : Int) : List SV := [.dat (sl_iN a0), .dat (sl_iN a1), .dat (sl_iN a0), .dat (iN (List.length a0 : Int)), .dat (iN v11)]
def Bf92_2 (a0 : List Int) (a1 : List Int) (v11 : Int) : List Blk := []
def Yf92_2 (a0 : List Int) (a1 : List Int) (y : Nat × Int) : List SV := Vf92_2 a0 a1 y.2
def Xf92_2 (a0 : List Int) (a1 : List Int) (y : Nat × Int) : List Blk := Bf92_2 a0 a1 y.2
def Jf92_2 (a0 : List Int) (a1 : List Int) (N : Nat) (k0 : Option (Int)) (r : Int) (y : Nat × Int) : Prop := f92_2 a0 a1 N k0 y.1 y.2 = some r
theorem Lf92_2 {r : Int} {a0 : List Int} {a1 : List Int} {N : Nat} {k0 : Option (Int)} {fu : Nat} {v11 : Int} (hz : Sf92_2.ok p = true) (h0 : AtH Sf92_2 st (Vf92_2 a0 a1 v11) (Bf92_2 a0 a1 v11)) (h : ∀ (n : Nat) (v11 : Int), f92_2b (f92_2 a0 a1 N k0 n) a0 a1 N k0 v11 = some r → vc c p nid a (St.mk' Sf92_2 (Vf92_2 a0 a1 v11) (Bf92_2 a0 a1 v11)) (Kloop Sf92_2 (Yf92_2 a0 a1) (Xf92_2 a0 a1) (Jf92_2 a0 a1 N k0 r) Prod.fst (n + 1, v11) K)) (hF : f92_2 a0 a1 N k0 fu v11 = some r) : vc c p nid (.loop a) st K := by
  refine vc_loop Sf92_2 (Yf92_2 a0 a1) (Xf92_2 a0 a1) (Jf92_2 a0 a1 N k0 r) Prod.fst hz (kheadL (x := (fu, v11)) hF h0) ?_
  rintro ⟨_ | n, v11⟩ hI
  · cases hI
  · exact h n v11 hI
theorem Mf92_2 {r : Int} {a0 : List Int} {a1 : List Int} {N : Nat} {k0 : Option (Int)} {n : Nat} {v11 : Int} {v11_ : Int} (hF : f92_2 a0 a1 N k0 n v11 = some r) (h0 : AtH Sf92_2 st (Vf92_2 a0 a1 v11) (Bf92_2 a0 a1 v11)) : Kloop Sf92_2 (Yf92_2 a0 a1) (Xf92_2 a0 a1) (Jf92_2 a0 a1 N k0 r) Prod.fst (n + 1, v11_) K .normal st := by
  exact kback (y := (n, v11)) hF (Nat.lt_succ_self n) h0
def f92 (N : Nat) (a0 : List Int) (a1 : List Int) : Option (Int) :=
 joinK (f92_c11 a0 a1) fun k0 =>
 f92_2 a0 a1 N k0 N (0 : Int)
def G92 (ds : List D) (d : D) : Prop := ∃ (N : Nat) (a0 : List Int) (a1 : List Int) (r : Int), ds = [sl_iN a0, sl_iN a1] ∧ f92 N a0 a1 = some r ∧ d = iN r
theorem G92.lend {N : Nat} {a0 : List Int} {a1 : List Int} {ρ : Type} {A : Int → Option ρ} {q : ρ} {ds : List D} {K : D → Prop} (hd : ds = [sl_iN a0, sl_iN a1]) (h : ∀ r, A r = some q → K (iN r)) (hF : (f92 N a0 a1).bind A = some q) : ∃ d, (G92 ds d ∧ d.flatB = true) ∧ K d := by
  obtain ⟨r, hr, hA⟩ := bind_some hF
  exact ⟨_, ⟨⟨N, a0, a1, r, hd, hr, rfl⟩, rfl⟩, h r hA⟩
theorem G92.step {N : Nat} {a0 : List Int} {a1 : List Int} {ρ : Type} {A : Int → Option ρ} {q : ρ} {ds : List D} {K : D → Prop} (hd : ds = [sl_iN a0, sl_iN a1]) (h : ∀ r, A r = some q → K (iN r)) (hF : (f92 N a0 a1).bind A = some q) : ∃ d, G92 ds d ∧ K d := by
  obtain ⟨r, hr, hA⟩ := bind_some hF
  exact ⟨_, ⟨N, a0, a1, r, hd, hr, rfl⟩, h r hA⟩
set_option maxRecDepth 20000 in
set_option maxHeartbeats 4000000 in
theorem P92 : PureOK Try.prog 92 G92 := by
  refine pure_of_vc (c := mkCtx tyTree [(97, true, lendPg [[0], [0]] G97)]) rfl tyOK (ctx_lend (callable Try.func97 rfl rfl) P97 (ctx_nil)) [[0]] 2 Try.func92 rfl rfl (by decide) (by kernel_rfl) ?_
  rintro ds d ⟨N, a0, a1, r, rfl, hF, rfl⟩ hok
  clear hok
  refine ⟨rfl, ?_⟩
  show vc _ _ _ _ ⟨[(0, .dat (sl_iN a0)), (1, .dat (sl_iN a1))], []⟩ _
  unfold f92 at hF
  repeat' (first
    | ((with_reducible refine q0 _ _ ?_); clear Q q0 q1 q2)
    | ((with_reducible refine q1 _ _ _ _ ?_); clear Q q0 q1 q2)
    | ((with_reducible refine q2 _ _ _ ?_); clear Q q0 q1 q2)
    | ((with_reducible refine seq_op ?hx (fun Q q0 q1 q2 => ?_)); (case hx => exact rfl); conv => whnf)
    | ((with_reducible refine cond_id ?_); (first | ((refine condKT rfl ?hy ?_); (case hy => first | assumption | exact notT (by assumption) | exact rfl)) | ((refine condKF rfl ?hy ?_); (case hy => first | assumption | exact notF (by assumption) | exact rfl)) | (revert hF; (with_reducible refine condF ?hx ?_ ?_); (case hx => exact rfl); all_goals (intro hc hF))))
    | ((with_reducible refine seq_nil ?_); (first | ((with_reducible refine hR _ ?_); clear R hR) | ((with_reducible refine hL _ ?_); clear L hL)))
    | ((with_reducible refine int_step ?_); conv => whnf)
    | ((with_reducible refine len_step ?_); conv => whnf)
    | ((with_reducible refine idx2 (by assumption) ?_); conv => whnf)
    | ((with_reducible refine idx3 (by assumption) ?_); conv => whnf)
    | with_reducible refine vc_block ?_
    | with_reducible refine vc_skip ?_
    | with_reducible refine vc_ret ?_
    | with_reducible refine vc_exit ?_
    | ((with_reducible refine vc_seqN [11] ?hx ?_); (case hx => exact rfl))
    | (with_reducible refine vc_region (fun R hR => ?_))
    | fail
    | (revert hF; (refine Cf92_c11 rfl rfl ?_ ?_); (intro hF); rotate_left; (intro _ hF; unfold f92_c11 at hF); rotate_right)
    | exact Zf92_c11 hF ⟨_, rfl, rfl, rfl, rfl⟩
    | (revert hF; (refine Lf92_2 rfl ⟨_, rfl, rfl, rfl, rfl⟩ ?_); intro n v11 hF; unfold f92_2b at hF)
    | exact Mf92_2 hF ⟨_, rfl, rfl, rfl, rfl⟩
    | (revert hF; (with_reducible refine G97.lend ?hx ?_); (case hx => exact rfl); intro v hF; conv => whnf)
    | with_reducible refine k_seq_ret ?_
    | with_reducible refine k_seq_exit ?_
    | with_reducible refine k_blk ?_
    | with_reducible refine k_blk_ret ?_
    | with_reducible refine k_blk_here ?_
    | ((with_reducible refine k_blk_out ?hx ?_); (case hx => exact rfl))
    | with_reducible refine k_loop_ret ?_
    | with_reducible refine k_loop_exit ?_
    | (revert hF; (with_reducible refine idx1 ?hn ?_); (case hn => first | exact rfl | exact (List.length_map _) | assumption | omega | simp); intro x hx hF; conv => whnf)
    | ((refine row_all ?hn ?_); (case hn => first | exact rfl | (simp; done) | (simp; omega)); conv => whnf)
    | ((with_reducible refine le_step ?hn ?_); (case hn => first | exact rfl | assumption | omega); conv => whnf)
    | ((refine ⟨?hx, ?_⟩); (case hx => exact ⟨rfl, Nat.le_of_ble_eq_true rfl, rfl⟩); conv => whnf)
    | ((with_reducible refine ex_step ?_); conv => whnf)
    | ((with_reducible refine both_T ?hx ?_); (case hx => first | exact rfl | assumption | exact notT (by assumption)); conv => whnf)
    | ((with_reducible refine both_F ?hx ?_); (case hx => first | exact rfl | assumption | exact notF (by assumption)); conv => whnf)
    | (revert hF; (with_reducible refine ite_step ?_ ?_) <;> (intro hc hF; conv => whnf))
    | ((with_reducible refine vc_condT ?hx ?_); (case hx => exact rfl))
    | ((with_reducible refine vc_condF ?hx ?_); (case hx => exact rfl))
    | (show retD _ _ _ _ _ _; conv => whnf)
    | ((refine ⟨?hx, trivial⟩); (case hx => (cases hF; exact rfl)))
    | ((refine ⟨?hx, ?_⟩); (case hx => decide); conv => whnf)
    | ((with_reducible refine k_seq ?_))
    | (have hF : (none : Option _) = some _ := hF; cases hF))
end
end Go.Vc
namespace Go.Vc
open Go.Proofs
set_option linter.unusedVariables false
set_option linter.unnecessarySimpa false
set_option linter.unusedSimpArgs false
section
variable {c : Ctx} {p nid : Nat} {a b : Code} {st : St} {K : Ex → St → Prop}
/- f91: tusche/serial.spots$1 -/
def f91 (N : Nat) (a0 : Spot) (a1 : Spot) : Option (Int) :=
 (f92 N [a0.State, a0.A, a0.B] [a1.State, a1.A, a1.B]).bind fun x1 =>
 some (x1)
def G91 (ds : List D) (d : D) : Prop := ∃ (N : Nat) (a0 : Spot) (a1 : Spot) (r : Int), ds = [Spot.d a0, Spot.d a1] ∧ f91 N a0 a1 = some r ∧ d = iN r
theorem G91.lend {N : Nat} {a0 : Spot} {a1 : Spot} {ρ : Type} {A : Int → Option ρ} {q : ρ} {ds : List D} {K : D → Prop} (hd : ds = [Spot.d a0, Spot.d a1]) (h : ∀ r, A r = some q → K (iN r)) (hF : (f91 N a0 a1).bind A = some q) : ∃ d, (G91 ds d ∧ d.flatB = true) ∧ K d := by
  obtain ⟨r, hr, hA⟩ := bind_some hF
  exact ⟨_, ⟨⟨N, a0, a1, r, hd, hr, rfl⟩, rfl⟩, h r hA⟩
theorem G91.step {N : Nat} {a0 : Spot} {a1 : Spot} {ρ : Type} {A : Int → Option ρ} {q : ρ} {ds : List D} {K : D → Prop} (hd : ds = [Spot.d a0, Spot.d a1]) (h : ∀ r, A r = some q → K (iN r)) (hF : (f91 N a0 a1).bind A = some q) : ∃ d, G91 ds d ∧ K d := by
  obtain ⟨r, hr, hA⟩ := bind_some hF
  exact ⟨_, ⟨N, a0, a1, r, hd, hr, rfl⟩, h r hA⟩
set_option maxRecDepth 20000 in
set_option maxHeartbeats 4000000 in
theorem P91 : PureOK Try.prog 91 G91 := by
  refine pure_of_vc (c := mkCtx tyTree [(92, true, lendPg [[1], [1]] G92)]) rfl tyOK (ctx_lend (callable Try.func92 rfl rfl) P92 (ctx_nil)) [[0]] 2 Try.func91 rfl rfl (by decide) (by kernel_rfl) ?_
  rintro ds d ⟨N, a0, a1, r, rfl, hF, rfl⟩ hok
  clear hok
  refine ⟨rfl, ?_⟩
  show vc _ _ _ _ ⟨[(0, .dat (Spot.d a0)), (1, .dat (Spot.d a1))], []⟩ _
  unfold f91 at hF
  repeat' (first
    | ((with_reducible refine q0 _ _ ?_); clear Q q0 q1 q2)
    | ((with_reducible refine q1 _ _ _ _ ?_); clear Q q0 q1 q2)
    | ((with_reducible refine q2 _ _ _ ?_); clear Q q0 q1 q2)
    | ((with_reducible refine seq_op ?hx (fun Q q0 q1 q2 => ?_)); (case hx => exact rfl); conv => whnf)
    | ((with_reducible refine seq_nil ?_); (first | ((with_reducible refine hR _ ?_); clear R hR) | ((with_reducible refine hL _ ?_); clear L hL)))
    | ((with_reducible refine int_step ?_); conv => whnf)
    | with_reducible refine vc_skip ?_
    | with_reducible refine vc_ret ?_
    | ((with_reducible refine vc_seqN [] ?hx ?_); (case hx => exact rfl))
    | (with_reducible refine vc_region (fun R hR => ?_))
    | fail
    | (revert hF; (with_reducible refine G92.lend ?hx ?_); (case hx => exact rfl); intro v hF; conv => whnf)
    | with_reducible refine k_seq_ret ?_
    | ((refine row_all ?hn ?_); (case hn => first | exact rfl | (simp; done) | (simp; omega)); conv => whnf)
    | ((with_reducible refine le_step ?hn ?_); (case hn => first | exact rfl | assumption | omega); conv => whnf)
    | ((refine ⟨?hx, ?_⟩); (case hx => exact ⟨rfl, Nat.le_of_ble_eq_true rfl, rfl⟩); conv => whnf)
    | ((with_reducible refine ex_step ?_); conv => whnf)
    | ((with_reducible refine both_T ?hx ?_); (case hx => first | exact rfl | assumption | exact notT (by assumption)); conv => whnf)
    | ((with_reducible refine both_F ?hx ?_); (case hx => first | exact rfl | assumption | exact notF (by assumption)); conv => whnf)
    | (revert hF; (with_reducible refine ite_step ?_ ?_) <;> (intro hc hF; conv => whnf))
    | (show retD _ _ _ _ _ _; conv => whnf)
    | ((refine ⟨?hx, trivial⟩); (case hx => (cases hF; exact rfl)))
    | ((refine ⟨?hx, ?_⟩); (case hx => decide); conv => whnf)
    | ((with_reducible refine k_seq ?_))
    | (have hF : (none : Option _) = some _ := hF; cases hF))
end
end Go.Vc
namespace Go.Vc
open Go.Proofs
set_option linter.unusedVariables false
set_option linter.unnecessarySimpa false
set_option linter.unusedSimpArgs false
section
variable {c : Ctx} {p nid : Nat} {a b : Code} {st : St} {K : Ex → St → Prop}
/- f98: slices.insertionSortCmpFunc[tusche/serial.Spot] -/
def f98_c2 (s0 : Int) (s1 : Int) (i8 : Int) (r1 : Int → (List Spot) → Option ((List Spot))) (b0' : List Spot) : Option ((List Spot)) :=
 r1 (W (i8 + (1 : Int))) (b0')
def Sf98_c2 : Ann := ⟨[0, 1, 2, 3, 8], [0], [], []⟩
def Vf98_c2 (s0 : Int) (s1 : Int) (i8 : Int) (b0' : List Spot) : List SV := [.rs 0 (List.length (b0')), .dat (iN s0), .dat (iN s1), .dat (.v (.func (.func 91) #[] #[])), .dat (iN i8)]
def Bf98_c2 (s0 : Int) (s1 : Int) (i8 : Int) (b0' : List Spot) : List Blk := [.row 73 3 (List.map Spot.d (b0'))]
def Yf98_c2 (s0 : Int) (s1 : Int) (i8 : Int) (y : (List Spot)) : List SV := Vf98_c2 s0 s1 i8 y
def Xf98_c2 (s0 : Int) (s1 : Int) (i8 : Int) (y : (List Spot)) : List Blk := Bf98_c2 s0 s1 i8 y
def Jf98_c2 (s0 : Int) (s1 : Int) (i8 : Int) (r1 : Int → (List Spot) → Option ((List Spot))) (r : (List Spot)) (y : (List Spot)) : Prop := f98_c2 s0 s1 i8 r1 y = some r
def V2f98_c2 (s0 : Int) (s1 : Int) (i8 : Int) (b0' : List Spot) (m0 : Nat) : List SV := [.rs 0 m0, .dat (iN s0), .dat (iN s1), .dat (.v (.func (.func 91) #[] #[])), .dat (iN i8)]
def B2f98_c2 (s0 : Int) (s1 : Int) (i8 : Int) (b0' : List Spot) (m0 : Nat) : List Blk := [.row 73 3 (List.map Spot.d (b0'))]
theorem Cf98_c2 {r : (List Spot)} {s0 : Int} {s1 : Int} {i8 : Int} {r1 : Int → (List Spot) → Option ((List Spot))} {g : _ → Option ((List Spot))} (hn : Nat.beq (nid * 1000 + firstRegion b) 1000002 = true) (hz : Sf98_c2.ok p = true) (h : g (f98_c2 s0 s1 i8 r1) = some r → vc c p nid a st (KHead Sf98_c2 (Yf98_c2 s0 s1 i8) (Xf98_c2 s0 s1 i8) (Jf98_c2 s0 s1 i8 r1 r) K)) (h2 : ∀ (b0' : List Spot), f98_c2 s0 s1 i8 r1 b0' = some r → vc c p nid b (St.mk' Sf98_c2 (Vf98_c2 s0 s1 i8 b0') (Bf98_c2 s0 s1 i8 b0')) K) (hF : joinK (f98_c2 s0 s1 i8 r1) g = some r) : vc c p nid (.seq a b) st K :=
  vc_cut Sf98_c2 (Yf98_c2 s0 s1 i8) (Xf98_c2 s0 s1 i8) (Jf98_c2 s0 s1 i8 r1 r) hz (h hF) fun y hy => h2 y hy
theorem Zf98_c2 {r : (List Spot)} {s0 : Int} {s1 : Int} {i8 : Int} {r1 : Int → (List Spot) → Option ((List Spot))} {b0' : List Spot} {m0 : Nat} (hF : f98_c2 s0 s1 i8 r1 b0' = some r) (h0 : AtH Sf98_c2 st (V2f98_c2 s0 s1 i8 b0' m0) (B2f98_c2 s0 s1 i8 b0' m0)) (em0 : m0 = List.length (b0')) : KHead Sf98_c2 (Yf98_c2 s0 s1 i8) (Xf98_c2 s0 s1 i8) (Jf98_c2 s0 s1 i8 r1 r) K .normal st := by
  subst em0; exact khead (I := (Jf98_c2 s0 s1 i8 r1 r)) (x := (b0')) hF h0
def f98_4b (r4 : Int → (List Spot) → Option ((List Spot))) (s0 : Int) (s1 : Int) (N : Nat) (i8 : Int) (k0 : (List Spot) → Option ((List Spot))) (j9 : Int) (b0' : List Spot) : Option ((List Spot)) :=
 bif decide (s0 < j9) then ((ix (b0') j9).bind fun x1 =>
 (ix (b0') (W (j9 - (1 : Int)))).bind fun x2 =>
 (f91 N x1 x2).bind fun x3 =>
 bif decide (x3 < (0 : Int)) then ((ix (b0') (W (j9 - (1 : Int)))).bind fun x4 =>
 (ix (b0') j9).bind fun x5 =>
 (ix (b0') j9).bind fun x6 =>
 (setx (b0') j9 x4).bind fun x7 =>
 (ix x7 (W (j9 - (1 : Int)))).bind fun x8 =>
 (setx x7 (W (j9 - (1 : Int))) x5).bind fun x9 =>
 r4 (W (j9 - (1 : Int))) x9)
 else (k0 (b0')))
 else (k0 (b0'))
def f98_4 (s0 : Int) (s1 : Int) (N : Nat) (i8 : Int) (k0 : (List Spot) → Option ((List Spot))) : Nat → Int → (List Spot) → Option ((List Spot))
  | 0, _, _ => none
  | n + 1, j9, b0' => f98_4b (f98_4 s0 s1 N i8 k0 n) s0 s1 N i8 k0 j9 b0'
def Sf98_4 : Ann := ⟨[0, 1, 2, 3, 8, 9], [0], [], []⟩
def Vf98_4 (s0 : Int) (s1 : Int) (i8 : Int) (j9 : Int) (b0' : List Spot) : List SV := [.rs 0 (List.length (b0')), .dat (iN s0), .dat (iN s1), .dat (.v (.func (.func 91) #[] #[])), .dat (iN i8), .dat (iN j9)]
def Bf98_4 (s0 : Int) (s1 : Int) (i8 : Int) (j9 : Int) (b0' : List Spot) : List Blk := [.row 73 3 (List.map Spot.d (b0'))]
def Yf98_4 (s0 : Int) (s1 : Int) (i8 : Int) (y : Nat × Int × (List Spot)) : List SV := Vf98_4 s0 s1 i8 y.2.1 y.2.2
def Xf98_4 (s0 : Int) (s1 : Int) (i8 : Int) (y : Nat × Int × (List Spot)) : List Blk := Bf98_4 s0 s1 i8 y.2.1 y.2.2
def Jf98_4 (s0 : Int) (s1 : Int) (N : Nat) (i8 : Int) (k0 : (List Spot) → Option ((List Spot))) (r : (List Spot)) (y : Nat × Int × (List Spot)) : Prop := f98_4 s0 s1 N i8 k0 y.1 y.2.1 y.2.2 = some r
def V2f98_4 (s0 : Int) (s1 : Int) (i8 : Int) (j9 : Int) (b0' : List Spot) (m0 : Nat) : List SV := [.rs 0 m0, .dat (iN s0), .dat (iN s1), .dat (.v (.func (.func 91) #[] #[])), .dat (iN i8), .dat (iN j9)]
def B2f98_4 (s0 : Int) (s1 : Int) (i8 : Int) (j9 : Int) (b0' : List Spot) (m0 : Nat) : List Blk := [.row 73 3 (List.map Spot.d (b0'))]
theorem Lf98_4 {r : (List Spot)} {s0 : Int} {s1 : Int} {N : Nat} {i8 : Int} {k0 : (List Spot) → Option ((List Spot))} {fu : Nat} {j9 : Int} {b0' : List Spot} {m0 : Nat} (hz : Sf98_4.ok p = true) (h0 : AtH Sf98_4 st (V2f98_4 s0 s1 i8 j9 b0' m0) (B2f98_4 s0 s1 i8 j9 b0' m0)) (em0 : m0 = List.length (b0')) (h : ∀ (n : Nat) (j9 : Int) (b0' : List Spot), f98_4b (f98_4 s0 s1 N i8 k0 n) s0 s1 N i8 k0 j9 b0' = some r → vc c p nid a (St.mk' Sf98_4 (Vf98_4 s0 s1 i8 j9 b0') (Bf98_4 s0 s1 i8 j9 b0')) (Kloop Sf98_4 (Yf98_4 s0 s1 i8) (Xf98_4 s0 s1 i8) (Jf98_4 s0 s1 N i8 k0 r) Prod.fst (n + 1, j9, b0') K)) (hF : f98_4 s0 s1 N i8 k0 fu j9 b0' = some r) : vc c p nid (.loop a) st K := by
  subst em0; refine vc_loop Sf98_4 (Yf98_4 s0 s1 i8) (Xf98_4 s0 s1 i8) (Jf98_4 s0 s1 N i8 k0 r) Prod.fst hz (kheadL (x := (fu, j9, b0')) hF h0) ?_
  rintro ⟨_ | n, j9, b0'⟩ hI
  · cases hI
  · exact h n j9 b0' hI
theorem Mf98_4 {r : (List Spot)} {s0 : Int} {s1 : Int} {N : Nat} {i8 : Int} {k0 : (List Spot) → Option ((List Spot))} {n : Nat} {j9 : Int} {b0' : List Spot} {j9_ : Int} {b0'_ : List Spot} {m0 : Nat} (hF : f98_4 s0 s1 N i8 k0 n j9 b0' = some r) (h0 : AtH Sf98_4 st (V2f98_4 s0 s1 i8 j9 b0' m0) (B2f98_4 s0 s1 i8 j9 b0' m0)) (em0 : m0 = List.length (b0')) : Kloop Sf98_4 (Yf98_4 s0 s1 i8) (Xf98_4 s0 s1 i8) (Jf98_4 s0 s1 N i8 k0 r) Prod.fst (n + 1, j9_, b0'_) K .normal st := by
  subst em0; exact kback (y := (n, j9, b0')) hF (Nat.lt_succ_self n) h0
def f98_1b (r1 : Int → (List Spot) → Option ((List Spot))) (s0 : Int) (s1 : Int) (N : Nat) (i8 : Int) (b0 : List Spot) : Option ((List Spot)) :=
 bif decide (i8 < s1) then (joinK (f98_c2 s0 s1 i8 r1) fun k0 =>
 f98_4 s0 s1 N i8 k0 N i8 b0)
 else (some (b0))
def f98_1 (s0 : Int) (s1 : Int) (N : Nat) : Nat → Int → (List Spot) → Option ((List Spot))
  | 0, _, _ => none
  | n + 1, i8, b0 => f98_1b (f98_1 s0 s1 N n) s0 s1 N i8 b0
def Sf98_1 : Ann := ⟨[0, 1, 2, 3, 8], [0], [], []⟩
def Vf98_1 (s0 : Int) (s1 : Int) (i8 : Int) (b0 : List Spot) : List SV := [.rs 0 (List.length b0), .dat (iN s0), .dat (iN s1), .dat (.v (.func (.func 91) #[] #[])), .dat (iN i8)]
def Bf98_1 (s0 : Int) (s1 : Int) (i8 : Int) (b0 : List Spot) : List Blk := [.row 73 3 (List.map Spot.d b0)]
def Yf98_1 (s0 : Int) (s1 : Int) (y : Nat × Int × (List Spot)) : List SV := Vf98_1 s0 s1 y.2.1 y.2.2
def Xf98_1 (s0 : Int) (s1 : Int) (y : Nat × Int × (List Spot)) : List Blk := Bf98_1 s0 s1 y.2.1 y.2.2
def Jf98_1 (s0 : Int) (s1 : Int) (N : Nat) (r : (List Spot)) (y : Nat × Int × (List Spot)) : Prop := f98_1 s0 s1 N y.1 y.2.1 y.2.2 = some r
def V2f98_1 (s0 : Int) (s1 : Int) (i8 : Int) (b0 : List Spot) (m0 : Nat) : List SV := [.rs 0 m0, .dat (iN s0), .dat (iN s1), .dat (.v (.func (.func 91) #[] #[])), .dat (iN i8)]
def B2f98_1 (s0 : Int) (s1 : Int) (i8 : Int) (b0 : List Spot) (m0 : Nat) : List Blk := [.row 73 3 (List.map Spot.d b0)]
theorem Lf98_1 {r : (List Spot)} {s0 : Int} {s1 : Int} {N : Nat} {fu : Nat} {i8 : Int} {b0 : List Spot} {m0 : Nat} (hz : Sf98_1.ok p = true) (h0 : AtH Sf98_1 st (V2f98_1 s0 s1 i8 b0 m0) (B2f98_1 s0 s1 i8 b0 m0)) (em0 : m0 = List.length b0) (h : ∀ (n : Nat) (i8 : Int) (b0 : List Spot), f98_1b (f98_1 s0 s1 N n) s0 s1 N i8 b0 = some r → vc c p nid a (St.mk' Sf98_1 (Vf98_1 s0 s1 i8 b0) (Bf98_1 s0 s1 i8 b0)) (Kloop Sf98_1 (Yf98_1 s0 s1) (Xf98_1 s0 s1) (Jf98_1 s0 s1 N r) Prod.fst (n + 1, i8, b0) K)) (hF : f98_1 s0 s1 N fu i8 b0 = some r) : vc c p nid (.loop a) st K := by
  subst em0; refine vc_loop Sf98_1 (Yf98_1 s0 s1) (Xf98_1 s0 s1) (Jf98_1 s0 s1 N r) Prod.fst hz (kheadL (x := (fu, i8, b0)) hF h0) ?_
  rintro ⟨_ | n, i8, b0⟩ hI
  · cases hI
  · exact h n i8 b0 hI
theorem Mf98_1 {r : (List Spot)} {s0 : Int} {s1 : Int} {N : Nat} {n : Nat} {i8 : Int} {b0 : List Spot} {i8_ : Int} {b0_ : List Spot} {m0 : Nat} (hF : f98_1 s0 s1 N n i8 b0 = some r) (h0 : AtH Sf98_1 st (V2f98_1 s0 s1 i8 b0 m0) (B2f98_1 s0 s1 i8 b0 m0)) (em0 : m0 = List.length b0) : Kloop Sf98_1 (Yf98_1 s0 s1) (Xf98_1 s0 s1) (Jf98_1 s0 s1 N r) Prod.fst (n + 1, i8_, b0_) K .normal st := by
  subst em0; exact kback (y := (n, i8, b0)) hF (Nat.lt_succ_self n) h0
def f98b (self : Int → Int → (List Spot) → Option ((List Spot))) (N : Nat) (s0 : Int) (s1 : Int) (s2 : List Spot) : Option ((List Spot)) :=
 f98_1 s0 s1 N N (W (s0 + (1 : Int))) s2
def f98 : Nat → Int → Int → (List Spot) → Option ((List Spot))
  | 0, _, _, _ => none
  | N + 1, s0, s1, s2 => f98b (f98 N) N s0 s1 s2
def Af98 (s0 : Int) (s1 : Int) (s2 : List Spot) : List SV := [.rs 0 (List.length s2), .dat (iN s0), .dat (iN s1), .dat (.v (.func (.func 91) #[] #[]))]
def Bf98 (s0 : Int) (s1 : Int) (s2 : List Spot) : List Blk := [.row 73 3 (List.map Spot.d s2)]
def Rf98 (y : (List Spot)) : List SV := []
def B1f98 (s0 : Int) (s1 : Int) (s2 : List Spot) (y : (List Spot)) : List Blk := [.row 73 3 (List.map Spot.d y)]
def BZf98 (y : (List Spot)) : Blk := .unborn
def Spf98 : Spec (Int × Int × (List Spot)) ((List Spot)) := ⟨1, fun x => Af98 x.1 x.2.1 x.2.2, fun x => Bf98 x.1 x.2.1 x.2.2, fun _ y => Rf98 y, fun x y => B1f98 x.1 x.2.1 x.2.2 y, fun _ y => BZf98 y⟩
def H98 (N : Nat) (x : Int × Int × (List Spot)) (y : (List Spot)) : Prop := f98 N x.1 x.2.1 x.2.2 = some y
def G98 (x : Int × Int × (List Spot)) (y : (List Spot)) : Prop := ∃ N, H98 N x y
theorem H98.step {N : Nat} {s0 : Int} {s1 : Int} {s2 : List Spot} {m0 : Nat} {ρ : Type} {A : (List Spot) → Option ρ} {q : ρ} {xs : List SV} {id : Nat} {m : Nat → Blk} {l : List Loc} {K : Dl → List Loc → Prop} {k0 : Nat} (ha : xs = [.rs k0 m0, .dat (iN s0), .dat (iN s1), .dat (.v (.func (.func 91) #[] #[]))]) (b0 : m k0 = .row 73 3 (List.map Spot.d s2)) (em0 : m0 = List.length s2) (hu : m id = .unborn) (hn : nodupB [k0] = true) (h : ∀ y, A y = some q → K ⟨.tup [], [(k0, .row 73 3 (List.map Spot.d y)), (id, .unborn)]⟩ l) (hF : (f98 N s0 s1 s2).bind A = some q) : effPg Spf98 (H98 N) xs id (fun _ => SV.no) m l K := by
  subst em0; obtain ⟨y, hy, hA⟩ := bind_some hF
  exact eff_step [k0] (s0, s1, s2) y _ hy rfl hn ha (by simp only [List.map_cons, List.map_nil, b0]; rfl) hu rfl rfl (h y hA)
theorem G98.step {N : Nat} {s0 : Int} {s1 : Int} {s2 : List Spot} {m0 : Nat} {ρ : Type} {A : (List Spot) → Option ρ} {q : ρ} {xs : List SV} {id : Nat} {m : Nat → Blk} {l : List Loc} {K : Dl → List Loc → Prop} {k0 : Nat} (ha : xs = [.rs k0 m0, .dat (iN s0), .dat (iN s1), .dat (.v (.func (.func 91) #[] #[]))]) (b0 : m k0 = .row 73 3 (List.map Spot.d s2)) (em0 : m0 = List.length s2) (hu : m id = .unborn) (hn : nodupB [k0] = true) (h : ∀ y, A y = some q → K ⟨.tup [], [(k0, .row 73 3 (List.map Spot.d y)), (id, .unborn)]⟩ l) (hF : (f98 N s0 s1 s2).bind A = some q) : effPg Spf98 (G98) xs id (fun _ => SV.no) m l K := by
  subst em0; obtain ⟨y, hy, hA⟩ := bind_some hF
  exact eff_step [k0] (s0, s1, s2) y _ ⟨N, hy⟩ rfl hn ha (by simp only [List.map_cons, List.map_nil, b0]; rfl) hu rfl rfl (h y hA)
def Srf98 : Ann := ⟨[], [0, 500], [], []⟩
set_option maxRecDepth 20000 in
set_option maxHeartbeats 4000000 in
theorem Q98 (N : Nat) : CallOK Try.prog 98 (effPg Spf98 (H98 N)) := by
  induction N with
  | zero => exact eff_none fun x y h => (by cases (show (none : Option ((List Spot))) = some y from h))
  | succ N ih =>
    refine eff_of_vc (c := mkCtx tyTree [(98, false, effPg Spf98 (H98 N)), (91, true, lendPg [[0, 0, 0], [0, 0, 0]] G91)]) rfl tyOK (ctx_eff (callable Try.func98 rfl rfl) ih (ctx_lend (callable Try.func91 rfl rfl) P91 (ctx_nil))) 1000 500 Srf98 Try.func98 rfl rfl (by kernel_rfl) rfl rfl rfl rfl rfl (fun _ => rfl) (fun _ => rfl) (fun _ _ => ⟨rfl, rfl⟩) ?_
    rintro ⟨s0, s1, s2⟩ y hF
    have hF : f98b (f98 N) N s0 s1 s2 = some y := hF
    show vc _ _ _ _ ⟨[(0, .rs 0 (List.length s2)), (1, .dat (iN s0)), (2, .dat (iN s1)), (3, .dat (.v (.func (.func 91) #[] #[])))], [(0, .row 73 3 (List.map Spot.d s2))]⟩ _
    unfold f98b at hF
    repeat' (first
      | ((with_reducible refine q0 _ _ ?_); clear Q q0 q1 q2)
      | ((with_reducible refine q1 _ _ _ _ ?_); clear Q q0 q1 q2)
      | ((with_reducible refine q2 _ _ _ ?_); clear Q q0 q1 q2)
      | ((with_reducible refine seq_op ?hx (fun Q q0 q1 q2 => ?_)); (case hx => exact rfl); conv => whnf)
      | ((with_reducible refine draw_op ?hx (fun Q q0 q1 q2 => ?_)); (case hx => exact rfl); conv => whnf)
      | ((with_reducible refine seq_op0 ?hx (fun Q q0 q1 q2 => ?_)); (case hx => exact rfl); conv => whnf)
      | ((with_reducible refine draw_op0 ?hx (fun Q q0 q1 q2 => ?_)); (case hx => exact rfl); conv => whnf)
      | ((with_reducible refine seq_off ?hx ?_); (case hx => exact rfl))
      | ((with_reducible refine seq_off0 ?hx ?_); (case hx => exact rfl))
      | ((with_reducible refine draw_off ?hx ?_); (case hx => exact rfl))
      | ((with_reducible refine draw_off0 ?hx ?_); (case hx => exact rfl))
      | ((with_reducible refine draw_id ?_); (first | ((refine draw_opK rfl ?hy (fun Q q0 q1 q2 => ?_)); (case hy => first | assumption | exact notT (by assumption) | exact rfl); conv => whnf) | ((refine draw_offK rfl ?hy ?_); (case hy => first | assumption | exact notF (by assumption) | exact rfl)) | ((refine draw_opK0 rfl ?hy (fun Q q0 q1 q2 => ?_)); (case hy => first | assumption | exact notT (by assumption) | exact rfl); conv => whnf) | ((refine draw_offK0 rfl ?hy ?_); (case hy => first | assumption | exact notF (by assumption) | exact rfl)) | (revert hF; (with_reducible refine draw_opF ?hx ?_ ?_); (case hx => exact rfl); (intro hc hF Q q0 q1 q2; conv => whnf); rotate_left; (intro hc hF); rotate_right) | (revert hF; (with_reducible refine draw_opN ?hx ?_ ?_); (case hx => exact rfl); (intro hc hF); rotate_left; (intro hc hF Q q0 q1 q2; conv => whnf); rotate_right) | (revert hF; (with_reducible refine draw_opF0 ?hx ?_ ?_); (case hx => exact rfl); (intro hc hF Q q0 q1 q2; conv => whnf); rotate_left; (intro hc hF); rotate_right) | (revert hF; (with_reducible refine draw_opN0 ?hx ?_ ?_); (case hx => exact rfl); (intro hc hF); rotate_left; (intro hc hF Q q0 q1 q2; conv => whnf); rotate_right)))
      | ((with_reducible refine cond_id ?_); (first | ((refine condKT rfl ?hy ?_); (case hy => first | assumption | exact notT (by assumption) | exact rfl)) | ((refine condKF rfl ?hy ?_); (case hy => first | assumption | exact notF (by assumption) | exact rfl)) | (revert hF; (with_reducible refine condF ?hx ?_ ?_); (case hx => exact rfl); all_goals (intro hc hF))))
      | ((with_reducible refine seq_nil ?_); (first | ((with_reducible refine hR _ ?_); clear R hR) | ((with_reducible refine hL _ ?_); clear L hL)))
      | ((with_reducible refine draw_nil ?_); (with_reducible refine hR _ _ ?hx ?_); (case hx => kernel_rfl); (first | clear R hR | clear hR))
      | ((with_reducible refine int_step ?_); conv => whnf)
      | ((with_reducible refine len_step ?_); conv => whnf)
      | ((with_reducible refine idx2 (by assumption) ?_); conv => whnf)
      | ((with_reducible refine idx3 (by assumption) ?_); conv => whnf)
      | with_reducible refine vc_block ?_
      | with_reducible refine vc_skip ?_
      | with_reducible refine vc_ret ?_
      | with_reducible refine vc_exit ?_
      | ((with_reducible refine vc_seqN [1000002] ?hx ?_); (case hx => exact rfl))
      | (with_reducible refine vc_region (fun R hR => ?_))
      | ((with_reducible refine vc_draw ?hx (fun R hR => ?_)); (case hx => exact rfl))
      | fail
      | (revert hF; (refine Cf98_c2 rfl rfl ?_ ?_); (intro hF); rotate_left; (intro b0' hF; unfold f98_c2 at hF); rotate_right)
      | exact Zf98_c2 hF ⟨_, rfl, rfl, rfl, rfl⟩ (by first | exact rfl | assumption | omega)
      | (revert hF; (refine Lf98_4 rfl ⟨_, rfl, rfl, rfl, rfl⟩ (by first | exact rfl | assumption | omega) ?_); intro n j9 b0' hF; unfold f98_4b at hF)
      | exact Mf98_4 hF ⟨_, rfl, rfl, rfl, rfl⟩ (by first | exact rfl | assumption | omega)
      | (revert hF; (refine Lf98_1 rfl ⟨_, rfl, rfl, rfl, rfl⟩ (by first | exact rfl | assumption | omega) ?_); intro n i8 b0 hF; unfold f98_1b at hF)
      | exact Mf98_1 hF ⟨_, rfl, rfl, rfl, rfl⟩ (by first | exact rfl | assumption | omega)
      | (revert hF; (with_reducible refine G91.lend ?hx ?_); (case hx => exact rfl); intro v hF; conv => whnf)
      | (revert hF; (refine H98.step rfl rfl (by first | exact rfl | assumption | omega) rfl ?hn ?_); (case hn => exact rfl); intro v hF; conv => whnf)
      | (show retE _ _ _ _ _ _; conv => whnf)
      | (cases hF; exact ⟨rfl, rfl, rfl⟩)
      | with_reducible refine k_seq_ret ?_
      | with_reducible refine k_seq_exit ?_
      | with_reducible refine k_blk ?_
      | with_reducible refine k_blk_ret ?_
      | with_reducible refine k_blk_here ?_
      | ((with_reducible refine k_blk_out ?hx ?_); (case hx => exact rfl))
      | with_reducible refine k_loop_ret ?_
      | with_reducible refine k_loop_exit ?_
      | (revert hF; (with_reducible refine idx1 ?hn ?_); (case hn => first | exact rfl | exact (List.length_map _) | assumption | omega | simp); intro x hx hF; conv => whnf)
      | ((refine row_all ?hn ?_); (case hn => first | exact rfl | (simp; done) | (simp; omega)); conv => whnf)
      | ((with_reducible refine le_step ?hn ?_); (case hn => first | exact rfl | assumption | omega); conv => whnf)
      | ((with_reducible have hG := setx_fact hF); clear hF; (refine setx_step hG ?hs (fun q hl hF => ?_)); (case hs => exact rfl); clear hG; conv => whnf)
      | ((refine ⟨?hx, ?_⟩); (case hx => exact ⟨rfl, Nat.le_of_ble_eq_true rfl, rfl⟩); conv => whnf)
      | ((with_reducible refine ex_step ?_); conv => whnf)
      | ((with_reducible refine both_T ?hx ?_); (case hx => first | exact rfl | assumption | exact notT (by assumption)); conv => whnf)
      | ((with_reducible refine both_F ?hx ?_); (case hx => first | exact rfl | assumption | exact notF (by assumption)); conv => whnf)
      | (revert hF; (with_reducible refine ite_step ?_ ?_) <;> (intro hc hF; conv => whnf))
      | ((with_reducible refine vc_condT ?hx ?_); (case hx => exact rfl))
      | ((with_reducible refine vc_condF ?hx ?_); (case hx => exact rfl))
      | (show retD _ _ _ _ _ _; conv => whnf)
      | ((refine ⟨?hx, trivial⟩); (case hx => (cases hF; exact rfl)))
      | ((refine ⟨?hx, ?_⟩); (case hx => decide); conv => whnf)
      | ((with_reducible refine k_seq ?_))
      | (have hF : (none : Option _) = some _ := hF; cases hF))
theorem P98 : CallOK Try.prog 98 (effPg Spf98 G98) := eff_ex Q98
end
end Go.Vc
namespace Go.Vc
open Go.Proofs
set_option linter.unusedVariables false
set_option linter.unnecessarySimpa false
set_option linter.unusedSimpArgs false
section
variable {c : Ctx} {p nid : Nat} {a b : Code} {st : St} {K : Ex → St → Prop}
/- f109: slices.siftDownCmpFunc[tusche/serial.Spot] -/
def f109_c5 (s1 : Int) (s2 : Int) (N : Nat) (v10 : Int) (b0 : List Spot) (r1 : Int → (List Spot) → Option ((List Spot))) (v11 : Int) : Option ((List Spot)) :=
 (ix b0 (W (s2 + v10))).bind fun x1 =>
 (ix b0 (W (s2 + v11))).bind fun x2 =>
 (f91 N x1 x2).bind fun x3 =>
 bif !(decide (x3 < (0 : Int))) then (some (b0))
 else ((ix b0 (W (s2 + v11))).bind fun x4 =>
 (ix b0 (W (s2 + v10))).bind fun x5 =>
 (ix b0 (W (s2 + v10))).bind fun x6 =>
 (setx b0 (W (s2 + v10)) x4).bind fun x7 =>
 (ix x7 (W (s2 + v11))).bind fun x8 =>
 (setx x7 (W (s2 + v11)) x5).bind fun x9 =>
 r1 v11 x9)
def Sf109_c5 : Ann := ⟨[0, 2, 3, 4, 10, 11], [0], [], []⟩
def Vf109_c5 (s1 : Int) (s2 : Int) (v10 : Int) (b0 : List Spot) (v11 : Int) : List SV := [.rs 0 (List.length b0), .dat (iN s1), .dat (iN s2), .dat (.v (.func (.func 91) #[] #[])), .dat (iN v10), .dat (iN v11)]
def Bf109_c5 (s1 : Int) (s2 : Int) (v10 : Int) (b0 : List Spot) (v11 : Int) : List Blk := [.row 73 3 (List.map Spot.d b0)]
def Yf109_c5 (s1 : Int) (s2 : Int) (v10 : Int) (b0 : List Spot) (y : Int) : List SV := Vf109_c5 s1 s2 v10 b0 y
def Xf109_c5 (s1 : Int) (s2 : Int) (v10 : Int) (b0 : List Spot) (y : Int) : List Blk := Bf109_c5 s1 s2 v10 b0 y
def Jf109_c5 (s1 : Int) (s2 : Int) (N : Nat) (v10 : Int) (b0 : List Spot) (r1 : Int → (List Spot) → Option ((List Spot))) (r : (List Spot)) (y : Int) : Prop := f109_c5 s1 s2 N v10 b0 r1 y = some r
def V2f109_c5 (s1 : Int) (s2 : Int) (v10 : Int) (b0 : List Spot) (v11 : Int) (m0 : Nat) : List SV := [.rs 0 m0, .dat (iN s1), .dat (iN s2), .dat (.v (.func (.func 91) #[] #[])), .dat (iN v10), .dat (iN v11)]
def B2f109_c5 (s1 : Int) (s2 : Int) (v10 : Int) (b0 : List Spot) (v11 : Int) (m0 : Nat) : List Blk := [.row 73 3 (List.map Spot.d b0)]
theorem Cf109_c5 {r : (List Spot)} {s1 : Int} {s2 : Int} {N : Nat} {v10 : Int} {b0 : List Spot} {r1 : Int → (List Spot) → Option ((List Spot))} {g : _ → Option ((List Spot))} (hn : Nat.beq (nid * 1000 + firstRegion b) 1000005 = true) (hz : Sf109_c5.ok p = true) (h : g (f109_c5 s1 s2 N v10 b0 r1) = some r → vc c p nid a st (KHead Sf109_c5 (Yf109_c5 s1 s2 v10 b0) (Xf109_c5 s1 s2 v10 b0) (Jf109_c5 s1 s2 N v10 b0 r1 r) K)) (h2 : ∀ (v11 : Int), f109_c5 s1 s2 N v10 b0 r1 v11 = some r → vc c p nid b (St.mk' Sf109_c5 (Vf109_c5 s1 s2 v10 b0 v11) (Bf109_c5 s1 s2 v10 b0 v11)) K) (hF : joinK (f109_c5 s1 s2 N v10 b0 r1) g = some r) : vc c p nid (.seq a b) st K :=
  vc_cut Sf109_c5 (Yf109_c5 s1 s2 v10 b0) (Xf109_c5 s1 s2 v10 b0) (Jf109_c5 s1 s2 N v10 b0 r1 r) hz (h hF) fun y hy => h2 y hy
theorem Zf109_c5 {r : (List Spot)} {s1 : Int} {s2 : Int} {N : Nat} {v10 : Int} {b0 : List Spot} {r1 : Int → (List Spot) → Option ((List Spot))} {v11 : Int} {m0 : Nat} (hF : f109_c5 s1 s2 N v10 b0 r1 v11 = some r) (h0 : AtH Sf109_c5 st (V2f109_c5 s1 s2 v10 b0 v11 m0) (B2f109_c5 s1 s2 v10 b0 v11 m0)) (em0 : m0 = List.length b0) : KHead Sf109_c5 (Yf109_c5 s1 s2 v10 b0) (Xf109_c5 s1 s2 v10 b0) (Jf109_c5 s1 s2 N v10 b0 r1 r) K .normal st := by
  subst em0; exact khead (I := (Jf109_c5 s1 s2 N v10 b0 r1 r)) (x := (v11)) hF h0
def f109_1b (r1 : Int → (List Spot) → Option ((List Spot))) (s1 : Int) (s2 : Int) (N : Nat) (v10 : Int) (b0 : List Spot) : Option ((List Spot)) :=
 bif decide (s1 ≤ (W ((W ((2 : Int) * v10)) + (1 : Int)))) then (some (b0))
 else (joinK (f109_c5 s1 s2 N v10 b0 r1) fun k0 =>
 bif decide ((W ((W ((W ((2 : Int) * v10)) + (1 : Int))) + (1 : Int))) < s1) then ((ix b0 (W (s2 + (W ((W ((2 : Int) * v10)) + (1 : Int)))))).bind fun x10 =>
 (ix b0 (W ((W (s2 + (W ((W ((2 : Int) * v10)) + (1 : Int))))) + (1 : Int)))).bind fun x11 =>
 (f91 N x10 x11).bind fun x12 =>
 bif decide (x12 < (0 : Int)) then (k0 (W ((W ((W ((2 : Int) * v10)) + (1 : Int))) + (1 : Int))))
 else (k0 (W ((W ((2 : Int) * v10)) + (1 : Int)))))
 else (k0 (W ((W ((2 : Int) * v10)) + (1 : Int)))))
def f109_1 (s1 : Int) (s2 : Int) (N : Nat) : Nat → Int → (List Spot) → Option ((List Spot))
  | 0, _, _ => none
  | n + 1, v10, b0 => f109_1b (f109_1 s1 s2 N n) s1 s2 N v10 b0
def Sf109_1 : Ann := ⟨[0, 2, 3, 4, 10], [0], [], []⟩
def Vf109_1 (s1 : Int) (s2 : Int) (v10 : Int) (b0 : List Spot) : List SV := [.rs 0 (List.length b0), .dat (iN s1), .dat (iN s2), .dat (.v (.func (.func 91) #[] #[])), .dat (iN v10)]
def Bf109_1 (s1 : Int) (s2 : Int) (v10 : Int) (b0 : List Spot) : List Blk := [.row 73 3 (List.map Spot.d b0)]
def Yf109_1 (s1 : Int) (s2 : Int) (y : Nat × Int × (List Spot)) : List SV := Vf109_1 s1 s2 y.2.1 y.2.2
def Xf109_1 (s1 : Int) (s2 : Int) (y : Nat × Int × (List Spot)) : List Blk := Bf109_1 s1 s2 y.2.1 y.2.2
def Jf109_1 (s1 : Int) (s2 : Int) (N : Nat) (r : (List Spot)) (y : Nat × Int × (List Spot)) : Prop := f109_1 s1 s2 N y.1 y.2.1 y.2.2 = some r
def V2f109_1 (s1 : Int) (s2 : Int) (v10 : Int) (b0 : List Spot) (m0 : Nat) : List SV := [.rs 0 m0, .dat (iN s1), .dat (iN s2), .dat (.v (.func (.func 91) #[] #[])), .dat (iN v10)]
def B2f109_1 (s1 : Int) (s2 : Int) (v10 : Int) (b0 : List Spot) (m0 : Nat) : List Blk := [.row 73 3 (List.map Spot.d b0)]
theorem Lf109_1 {r : (List Spot)} {s1 : Int} {s2 : Int} {N : Nat} {fu : Nat} {v10 : Int} {b0 : List Spot} {m0 : Nat} (hz : Sf109_1.ok p = true) (h0 : AtH Sf109_1 st (V2f109_1 s1 s2 v10 b0 m0) (B2f109_1 s1 s2 v10 b0 m0)) (em0 : m0 = List.length b0) (h : ∀ (n : Nat) (v10 : Int) (b0 : List Spot), f109_1b (f109_1 s1 s2 N n) s1 s2 N v10 b0 = some r → vc c p nid a (St.mk' Sf109_1 (Vf109_1 s1 s2 v10 b0) (Bf109_1 s1 s2 v10 b0)) (Kloop Sf109_1 (Yf109_1 s1 s2) (Xf109_1 s1 s2) (Jf109_1 s1 s2 N r) Prod.fst (n + 1, v10, b0) K)) (hF : f109_1 s1 s2 N fu v10 b0 = some r) : vc c p nid (.loop a) st K := by
  subst em0; refine vc_loop Sf109_1 (Yf109_1 s1 s2) (Xf109_1 s1 s2) (Jf109_1 s1 s2 N r) Prod.fst hz (kheadL (x := (fu, v10, b0)) hF h0) ?_
  rintro ⟨_ | n, v10, b0⟩ hI
  · cases hI
  · exact h n v10 b0 hI
theorem Mf109_1 {r : (List Spot)} {s1 : Int} {s2 : Int} {N : Nat} {n : Nat} {v10 : Int} {b0 : List Spot} {v10_ : Int} {b0_ : List Spot} {m0 : Nat} (hF : f109_1 s1 s2 N n v10 b0 = some r) (h0 : AtH Sf109_1 st (V2f109_1 s1 s2 v10 b0 m0) (B2f109_1 s1 s2 v10 b0 m0)) (em0 : m0 = List.length b0) : Kloop Sf109_1 (Yf109_1 s1 s2) (Xf109_1 s1 s2) (Jf109_1 s1 s2 N r) Prod.fst (n + 1, v10_, b0_) K .normal st := by
  subst em0; exact kback (y := (n, v10, b0)) hF (Nat.lt_succ_self n) h0
def f109b (self : Int → Int → Int → (List Spot) → Option ((List Spot))) (N : Nat) (s0 : Int) (s1 : Int) (s2 : Int) (s3 : List Spot) : Option ((List Spot)) :=
 f109_1 s1 s2 N N s0 s3
def f109 : Nat → Int → Int → Int → (List Spot) → Option ((List Spot))
  | 0, _, _, _, _ => none
  | N + 1, s0, s1, s2, s3 => f109b (f109 N) N s0 s1 s2 s3
def Af109 (s0 : Int) (s1 : Int) (s2 : Int) (s3 : List Spot) : List SV := [.rs 0 (List.length s3), .dat (iN s0), .dat (iN s1), .dat (iN s2), .dat (.v (.func (.func 91) #[] #[]))]
def Bf109 (s0 : Int) (s1 : Int) (s2 : Int) (s3 : List Spot) : List Blk := [.row 73 3 (List.map Spot.d s3)]
def Rf109 (y : (List Spot)) : List SV := []
def B1f109 (s0 : Int) (s1 : Int) (s2 : Int) (s3 : List Spot) (y : (List Spot)) : List Blk := [.row 73 3 (List.map Spot.d y)]
def BZf109 (y : (List Spot)) : Blk := .unborn
def Spf109 : Spec (Int × Int × Int × (List Spot)) ((List Spot)) := ⟨1, fun x => Af109 x.1 x.2.1 x.2.2.1 x.2.2.2, fun x => Bf109 x.1 x.2.1 x.2.2.1 x.2.2.2, fun _ y => Rf109 y, fun x y => B1f109 x.1 x.2.1 x.2.2.1 x.2.2.2 y, fun _ y => BZf109 y⟩
def H109 (N : Nat) (x : Int × Int × Int × (List Spot)) (y : (List Spot)) : Prop := f109 N x.1 x.2.1 x.2.2.1 x.2.2.2 = some y
def G109 (x : Int × Int × Int × (List Spot)) (y : (List Spot)) : Prop := ∃ N, H109 N x y
theorem H109.step {N : Nat} {s0 : Int} {s1 : Int} {s2 : Int} {s3 : List Spot} {m0 : Nat} {ρ : Type} {A : (List Spot) → Option ρ} {q : ρ} {xs : List SV} {id : Nat} {m : Nat → Blk} {l : List Loc} {K : Dl → List Loc → Prop} {k0 : Nat} (ha : xs = [.rs k0 m0, .dat (iN s0), .dat (iN s1), .dat (iN s2), .dat (.v (.func (.func 91) #[] #[]))]) (b0 : m k0 = .row 73 3 (List.map Spot.d s3)) (em0 : m0 = List.length s3) (hu : m id = .unborn) (hn : nodupB [k0] = true) (h : ∀ y, A y = some q → K ⟨.tup [], [(k0, .row 73 3 (List.map Spot.d y)), (id, .unborn)]⟩ l) (hF : (f109 N s0 s1 s2 s3).bind A = some q) : effPg Spf109 (H109 N) xs id (fun _ => SV.no) m l K := by
  subst em0; obtain ⟨y, hy, hA⟩ := bind_some hF
  exact eff_step [k0] (s0, s1, s2, s3) y _ hy rfl hn ha (by simp only [List.map_cons, List.map_nil, b0]; rfl) hu rfl rfl (h y hA)
theorem G109.step {N : Nat} {s0 : Int} {s1 : Int} {s2 : Int} {s3 : List Spot} {m0 : Nat} {ρ : Type} {A : (List Spot) → Option ρ} {q : ρ} {xs : List SV} {id : Nat} {m : Nat → Blk} {l : List Loc} {K : Dl → List Loc → Prop} {k0 : Nat} (ha : xs = [.rs k0 m0, .dat (iN s0), .dat (iN s1), .dat (iN s2), .dat (.v (.func (.func 91) #[] #[]))]) (b0 : m k0 = .row 73 3 (List.map Spot.d s3)) (em0 : m0 = List.length s3) (hu : m id = .unborn) (hn : nodupB [k0] = true) (h : ∀ y, A y = some q → K ⟨.tup [], [(k0, .row 73 3 (List.map Spot.d y)), (id, .unborn)]⟩ l) (hF : (f109 N s0 s1 s2 s3).bind A = some q) : effPg Spf109 (G109) xs id (fun _ => SV.no) m l K := by
  subst em0; obtain ⟨y, hy, hA⟩ := bind_some hF
  exact eff_step [k0] (s0, s1, s2, s3) y _ ⟨N, hy⟩ rfl hn ha (by simp only [List.map_cons, List.map_nil, b0]; rfl) hu rfl rfl (h y hA)
def Srf109 : Ann := ⟨[], [0, 500], [], []⟩
set_option maxRecDepth 20000 in
set_option maxHeartbeats 4000000 in
theorem Q109 (N : Nat) : CallOK Try.prog 109 (effPg Spf109 (H109 N)) := by
  induction N with
  | zero => exact eff_none fun x y h => (by cases (show (none : Option ((List Spot))) = some y from h))
  | succ N ih =>
    refine eff_of_vc (c := mkCtx tyTree [(109, false, effPg Spf109 (H109 N)), (91, true, lendPg [[0, 0, 0], [0, 0, 0]] G91)]) rfl tyOK (ctx_eff (callable Try.func109 rfl rfl) ih (ctx_lend (callable Try.func91 rfl rfl) P91 (ctx_nil))) 1000 500 Srf109 Try.func109 rfl rfl (by kernel_rfl) rfl rfl rfl rfl rfl (fun _ => rfl) (fun _ => rfl) (fun _ _ => ⟨rfl, rfl⟩) ?_
    rintro ⟨s0, s1, s2, s3⟩ y hF
    have hF : f109b (f109 N) N s0 s1 s2 s3 = some y := hF
    show vc _ _ _ _ ⟨[(0, .rs 0 (List.length s3)), (1, .dat (iN s0)), (2, .dat (iN s1)), (3, .dat (iN s2)), (4, .dat (.v (.func (.func 91) #[] #[])))], [(0, .row 73 3 (List.map Spot.d s3))]⟩ _
    unfold f109b at hF
    repeat' (first
      | ((with_reducible refine q0 _ _ ?_); clear Q q0 q1 q2)
      | ((with_reducible refine q1 _ _ _ _ ?_); clear Q q0 q1 q2)
      | ((with_reducible refine q2 _ _ _ ?_); clear Q q0 q1 q2)
      | ((with_reducible refine seq_op ?hx (fun Q q0 q1 q2 => ?_)); (case hx => exact rfl); conv => whnf)
      | ((with_reducible refine draw_op ?hx (fun Q q0 q1 q2 => ?_)); (case hx => exact rfl); conv => whnf)
      | ((with_reducible refine seq_op0 ?hx (fun Q q0 q1 q2 => ?_)); (case hx => exact rfl); conv => whnf)
      | ((with_reducible refine draw_op0 ?hx (fun Q q0 q1 q2 => ?_)); (case hx => exact rfl); conv => whnf)
      | ((with_reducible refine seq_off ?hx ?_); (case hx => exact rfl))
      | ((with_reducible refine seq_off0 ?hx ?_); (case hx => exact rfl))
      | ((with_reducible refine draw_off ?hx ?_); (case hx => exact rfl))
      | ((with_reducible refine draw_off0 ?hx ?_); (case hx => exact rfl))
      | ((with_reducible refine draw_id ?_); (first | ((refine draw_opK rfl ?hy (fun Q q0 q1 q2 => ?_)); (case hy => first | assumption | exact notT (by assumption) | exact rfl); conv => whnf) | ((refine draw_offK rfl ?hy ?_); (case hy => first | assumption | exact notF (by assumption) | exact rfl)) | ((refine draw_opK0 rfl ?hy (fun Q q0 q1 q2 => ?_)); (case hy => first | assumption | exact notT (by assumption) | exact rfl); conv => whnf) | ((refine draw_offK0 rfl ?hy ?_); (case hy => first | assumption | exact notF (by assumption) | exact rfl)) | (revert hF; (with_reducible refine draw_opF ?hx ?_ ?_); (case hx => exact rfl); (intro hc hF Q q0 q1 q2; conv => whnf); rotate_left; (intro hc hF); rotate_right) | (revert hF; (with_reducible refine draw_opN ?hx ?_ ?_); (case hx => exact rfl); (intro hc hF); rotate_left; (intro hc hF Q q0 q1 q2; conv => whnf); rotate_right) | (revert hF; (with_reducible refine draw_opF0 ?hx ?_ ?_); (case hx => exact rfl); (intro hc hF Q q0 q1 q2; conv => whnf); rotate_left; (intro hc hF); rotate_right) | (revert hF; (with_reducible refine draw_opN0 ?hx ?_ ?_); (case hx => exact rfl); (intro hc hF); rotate_left; (intro hc hF Q q0 q1 q2; conv => whnf); rotate_right)))
      | ((with_reducible refine cond_id ?_); (first | ((refine condKT rfl ?hy ?_); (case hy => first | assumption | exact notT (by assumption) | exact rfl)) | ((refine condKF rfl ?hy ?_); (case hy => first | assumption | exact notF (by assumption) | exact rfl)) | (revert hF; (with_reducible refine condF ?hx ?_ ?_); (case hx => exact rfl); all_goals (intro hc hF))))
      | ((with_reducible refine seq_nil ?_); (first | ((with_reducible refine hR _ ?_); clear R hR) | ((with_reducible refine hL _ ?_); clear L hL)))
      | ((with_reducible refine draw_nil ?_); (with_reducible refine hR _ _ ?hx ?_); (case hx => kernel_rfl); (first | clear R hR | clear hR))
      | ((with_reducible refine int_step ?_); conv => whnf)
      | ((with_reducible refine len_step ?_); conv => whnf)
      | ((with_reducible refine idx2 (by assumption) ?_); conv => whnf)
      | ((with_reducible refine idx3 (by assumption) ?_); conv => whnf)
      | with_reducible refine vc_block ?_
      | with_reducible refine vc_skip ?_
      | with_reducible refine vc_ret ?_
      | with_reducible refine vc_exit ?_
      | ((with_reducible refine vc_seqN [1000005] ?hx ?_); (case hx => exact rfl))
      | (with_reducible refine vc_region (fun R hR => ?_))
      | ((with_reducible refine vc_draw ?hx (fun R hR => ?_)); (case hx => exact rfl))
      | fail
      | (revert hF; (refine Cf109_c5 rfl rfl ?_ ?_); (intro hF); rotate_left; (intro v11 hF; unfold f109_c5 at hF); rotate_right)
      | exact Zf109_c5 hF ⟨_, rfl, rfl, rfl, rfl⟩ (by first | exact rfl | assumption | omega)
      | (revert hF; (refine Lf109_1 rfl ⟨_, rfl, rfl, rfl, rfl⟩ (by first | exact rfl | assumption | omega) ?_); intro n v10 b0 hF; unfold f109_1b at hF)
      | exact Mf109_1 hF ⟨_, rfl, rfl, rfl, rfl⟩ (by first | exact rfl | assumption | omega)
      | (revert hF; (with_reducible refine G91.lend ?hx ?_); (case hx => exact rfl); intro v hF; conv => whnf)
      | (revert hF; (refine H109.step rfl rfl (by first | exact rfl | assumption | omega) rfl ?hn ?_); (case hn => exact rfl); intro v hF; conv => whnf)
      | (show retE _ _ _ _ _ _; conv => whnf)
      | (cases hF; exact ⟨rfl, rfl, rfl⟩)
      | with_reducible refine k_seq_ret ?_
      | with_reducible refine k_seq_exit ?_
      | with_reducible refine k_blk ?_
      | with_reducible refine k_blk_ret ?_
      | with_reducible refine k_blk_here ?_
      | ((with_reducible refine k_blk_out ?hx ?_); (case hx => exact rfl))
      | with_reducible refine k_loop_ret ?_
      | with_reducible refine k_loop_exit ?_
      | (revert hF; (with_reducible refine idx1 ?hn ?_); (case hn => first | exact rfl | exact (List.length_map _) | assumption | omega | simp); intro x hx hF; conv => whnf)
      | ((refine row_all ?hn ?_); (case hn => first | exact rfl | (simp; done) | (simp; omega)); conv => whnf)
      | ((with_reducible refine le_step ?hn ?_); (case hn => first | exact rfl | assumption | omega); conv => whnf)
      | ((with_reducible have hG := setx_fact hF); clear hF; (refine setx_step hG ?hs (fun q hl hF => ?_)); (case hs => exact rfl); clear hG; conv => whnf)
      | ((refine ⟨?hx, ?_⟩); (case hx => exact ⟨rfl, Nat.le_of_ble_eq_true rfl, rfl⟩); conv => whnf)
      | ((with_reducible refine ex_step ?_); conv => whnf)
      | ((with_reducible refine both_T ?hx ?_); (case hx => first | exact rfl | assumption | exact notT (by assumption)); conv => whnf)
      | ((with_reducible refine both_F ?hx ?_); (case hx => first | exact rfl | assumption | exact notF (by assumption)); conv => whnf)
      | (revert hF; (with_reducible refine ite_step ?_ ?_) <;> (intro hc hF; conv => whnf))
      | ((with_reducible refine vc_condT ?hx ?_); (case hx => exact rfl))
      | ((with_reducible refine vc_condF ?hx ?_); (case hx => exact rfl))
      | (show retD _ _ _ _ _ _; conv => whnf)
      | ((refine ⟨?hx, trivial⟩); (case hx => (cases hF; exact rfl)))
      | ((refine ⟨?hx, ?_⟩); (case hx => decide); conv => whnf)
      | ((with_reducible refine k_seq ?_))
      | (have hF : (none : Option _) = some _ := hF; cases hF))
theorem P109 : CallOK Try.prog 109 (effPg Spf109 G109) := eff_ex Q109
end
end Go.Vc
namespace Go.Vc
open Go.Proofs
set_option linter.unusedVariables false
set_option linter.unnecessarySimpa false
set_option linter.unusedSimpArgs false
section
variable {c : Ctx} {p nid : Nat} {a b : Code} {st : St} {K : Ex → St → Prop}
/- f99: slices.heapSortCmpFunc[tusche/serial.Spot] -/
def f99_8b (r8 : Int → (List Spot) → Option ((List Spot))) (s0 : Int) (N : Nat) (i12 : Int) (b0' : List Spot) : Option ((List Spot)) :=
 bif decide ((0 : Int) ≤ i12) then ((ix (b0') (W (s0 + i12))).bind fun x1 =>
 (ix (b0') s0).bind fun x2 =>
 (ix (b0') s0).bind fun x3 =>
 (setx (b0') s0 x1).bind fun x4 =>
 (ix x4 (W (s0 + i12))).bind fun x5 =>
 (setx x4 (W (s0 + i12)) x2).bind fun x6 =>
 (f109 N (0 : Int) i12 s0 x6).bind fun x7 =>
 (keepL x6 x7).bind fun x8 =>
 r8 (W (i12 - (1 : Int))) x8)
 else (some (b0'))
def f99_8 (s0 : Int) (N : Nat) : Nat → Int → (List Spot) → Option ((List Spot))
  | 0, _, _ => none
  | n + 1, i12, b0' => f99_8b (f99_8 s0 N n) s0 N i12 b0'
def Sf99_8 : Ann := ⟨[0, 3, 8, 9, 12], [0], [], []⟩
def Vf99_8 (s0 : Int) (i12 : Int) (b0' : List Spot) : List SV := [.rs 0 (List.length (b0')), .dat (.v (.func (.func 91) #[] #[])), .dat (iN s0), .dat (iN (0 : Int)), .dat (iN i12)]
def Bf99_8 (s0 : Int) (i12 : Int) (b0' : List Spot) : List Blk := [.row 73 3 (List.map Spot.d (b0'))]
def Yf99_8 (s0 : Int) (y : Nat × Int × (List Spot)) : List SV := Vf99_8 s0 y.2.1 y.2.2
def Xf99_8 (s0 : Int) (y : Nat × Int × (List Spot)) : List Blk := Bf99_8 s0 y.2.1 y.2.2
def Jf99_8 (s0 : Int) (N : Nat) (r : (List Spot)) (y : Nat × Int × (List Spot)) : Prop := f99_8 s0 N y.1 y.2.1 y.2.2 = some r
def V2f99_8 (s0 : Int) (i12 : Int) (b0' : List Spot) (m0 : Nat) : List SV := [.rs 0 m0, .dat (.v (.func (.func 91) #[] #[])), .dat (iN s0), .dat (iN (0 : Int)), .dat (iN i12)]
def B2f99_8 (s0 : Int) (i12 : Int) (b0' : List Spot) (m0 : Nat) : List Blk := [.row 73 3 (List.map Spot.d (b0'))]
theorem Lf99_8 {r : (List Spot)} {s0 : Int} {N : Nat} {fu : Nat} {i12 : Int} {b0' : List Spot} {m0 : Nat} (hz : Sf99_8.ok p = true) (h0 : AtH Sf99_8 st (V2f99_8 s0 i12 b0' m0) (B2f99_8 s0 i12 b0' m0)) (em0 : m0 = List.length (b0')) (h : ∀ (n : Nat) (i12 : Int) (b0' : List Spot), f99_8b (f99_8 s0 N n) s0 N i12 b0' = some r → vc c p nid a (St.mk' Sf99_8 (Vf99_8 s0 i12 b0') (Bf99_8 s0 i12 b0')) (Kloop Sf99_8 (Yf99_8 s0) (Xf99_8 s0) (Jf99_8 s0 N r) Prod.fst (n + 1, i12, b0') K)) (hF : f99_8 s0 N fu i12 b0' = some r) : vc c p nid (.loop a) st K := by
  subst em0; refine vc_loop Sf99_8 (Yf99_8 s0) (Xf99_8 s0) (Jf99_8 s0 N r) Prod.fst hz (kheadL (x := (fu, i12, b0')) hF h0) ?_
  rintro ⟨_ | n, i12, b0'⟩ hI
  · cases hI
  · exact h n i12 b0' hI
theorem Mf99_8 {r : (List Spot)} {s0 : Int} {N : Nat} {n : Nat} {i12 : Int} {b0' : List Spot} {i12_ : Int} {b0'_ : List Spot} {m0 : Nat} (hF : f99_8 s0 N n i12 b0' = some r) (h0 : AtH Sf99_8 st (V2f99_8 s0 i12 b0' m0) (B2f99_8 s0 i12 b0' m0)) (em0 : m0 = List.length (b0')) : Kloop Sf99_8 (Yf99_8 s0) (Xf99_8 s0) (Jf99_8 s0 N r) Prod.fst (n + 1, i12_, b0'_) K .normal st := by
  subst em0; exact kback (y := (n, i12, b0')) hF (Nat.lt_succ_self n) h0
def f99_c7 (s0 : Int) (s1 : Int) (N : Nat) (b0 : List Spot) : Option ((List Spot)) :=
 f99_8 s0 N N (W ((W (s1 - s0)) - (1 : Int))) b0
def Sf99_c7 : Ann := ⟨[0, 3, 8, 9, 10], [0], [], []⟩
def Vf99_c7 (s0 : Int) (s1 : Int) (b0 : List Spot) : List SV := [.rs 0 (List.length b0), .dat (.v (.func (.func 91) #[] #[])), .dat (iN s0), .dat (iN (0 : Int)), .dat (iN (W (s1 - s0)))]
def Bf99_c7 (s0 : Int) (s1 : Int) (b0 : List Spot) : List Blk := [.row 73 3 (List.map Spot.d b0)]
def Yf99_c7 (s0 : Int) (s1 : Int) (y : (List Spot)) : List SV := Vf99_c7 s0 s1 y
def Xf99_c7 (s0 : Int) (s1 : Int) (y : (List Spot)) : List Blk := Bf99_c7 s0 s1 y
def Jf99_c7 (s0 : Int) (s1 : Int) (N : Nat) (r : (List Spot)) (y : (List Spot)) : Prop := f99_c7 s0 s1 N y = some r
def V2f99_c7 (s0 : Int) (s1 : Int) (b0 : List Spot) (m0 : Nat) : List SV := [.rs 0 m0, .dat (.v (.func (.func 91) #[] #[])), .dat (iN s0), .dat (iN (0 : Int)), .dat (iN (W (s1 - s0)))]
def B2f99_c7 (s0 : Int) (s1 : Int) (b0 : List Spot) (m0 : Nat) : List Blk := [.row 73 3 (List.map Spot.d b0)]
theorem Cf99_c7 {r : (List Spot)} {s0 : Int} {s1 : Int} {N : Nat} {g : _ → Option ((List Spot))} (hn : Nat.beq (nid * 1000 + firstRegion b) 1000007 = true) (hz : Sf99_c7.ok p = true) (h : g (f99_c7 s0 s1 N) = some r → vc c p nid a st (KHead Sf99_c7 (Yf99_c7 s0 s1) (Xf99_c7 s0 s1) (Jf99_c7 s0 s1 N r) K)) (h2 : ∀ (b0 : List Spot), f99_c7 s0 s1 N b0 = some r → vc c p nid b (St.mk' Sf99_c7 (Vf99_c7 s0 s1 b0) (Bf99_c7 s0 s1 b0)) K) (hF : joinK (f99_c7 s0 s1 N) g = some r) : vc c p nid (.seq a b) st K :=
  vc_cut Sf99_c7 (Yf99_c7 s0 s1) (Xf99_c7 s0 s1) (Jf99_c7 s0 s1 N r) hz (h hF) fun y hy => h2 y hy
theorem Zf99_c7 {r : (List Spot)} {s0 : Int} {s1 : Int} {N : Nat} {b0 : List Spot} {m0 : Nat} (hF : f99_c7 s0 s1 N b0 = some r) (h0 : AtH Sf99_c7 st (V2f99_c7 s0 s1 b0 m0) (B2f99_c7 s0 s1 b0 m0)) (em0 : m0 = List.length b0) : KHead Sf99_c7 (Yf99_c7 s0 s1) (Xf99_c7 s0 s1) (Jf99_c7 s0 s1 N r) K .normal st := by
  subst em0; exact khead (I := (Jf99_c7 s0 s1 N r)) (x := (b0)) hF h0
def f99_4b (r4 : Int → (List Spot) → Option ((List Spot))) (s0 : Int) (s1 : Int) (N : Nat) (k0 : (List Spot) → Option ((List Spot))) (i11 : Int) (b0 : List Spot) : Option ((List Spot)) :=
 bif decide ((0 : Int) ≤ i11) then ((f109 N i11 (W (s1 - s0)) s0 b0).bind fun x9 =>
 (keepL b0 x9).bind fun x10 =>
 r4 (W (i11 - (1 : Int))) x10)
 else (k0 b0)
def f99_4 (s0 : Int) (s1 : Int) (N : Nat) (k0 : (List Spot) → Option ((List Spot))) : Nat → Int → (List Spot) → Option ((List Spot))
  | 0, _, _ => none
  | n + 1, i11, b0 => f99_4b (f99_4 s0 s1 N k0 n) s0 s1 N k0 i11 b0
def Sf99_4 : Ann := ⟨[0, 3, 8, 9, 10, 11], [0], [], []⟩
def Vf99_4 (s0 : Int) (s1 : Int) (i11 : Int) (b0 : List Spot) : List SV := [.rs 0 (List.length b0), .dat (.v (.func (.func 91) #[] #[])), .dat (iN s0), .dat (iN (0 : Int)), .dat (iN (W (s1 - s0))), .dat (iN i11)]
def Bf99_4 (s0 : Int) (s1 : Int) (i11 : Int) (b0 : List Spot) : List Blk := [.row 73 3 (List.map Spot.d b0)]
def Yf99_4 (s0 : Int) (s1 : Int) (y : Nat × Int × (List Spot)) : List SV := Vf99_4 s0 s1 y.2.1 y.2.2
def Xf99_4 (s0 : Int) (s1 : Int) (y : Nat × Int × (List Spot)) : List Blk := Bf99_4 s0 s1 y.2.1 y.2.2
def Jf99_4 (s0 : Int) (s1 : Int) (N : Nat) (k0 : (List Spot) → Option ((List Spot))) (r : (List Spot)) (y : Nat × Int × (List Spot)) : Prop := f99_4 s0 s1 N k0 y.1 y.2.1 y.2.2 = some r
def V2f99_4 (s0 : Int) (s1 : Int) (i11 : Int) (b0 : List Spot) (m0 : Nat) : List SV := [.rs 0 m0, .dat (.v (.func (.func 91) #[] #[])), .dat (iN s0), .dat (iN (0 : Int)), .dat (iN (W (s1 - s0))), .dat (iN i11)]
def B2f99_4 (s0 : Int) (s1 : Int) (i11 : Int) (b0 : List Spot) (m0 : Nat) : List Blk := [.row 73 3 (List.map Spot.d b0)]
theorem Lf99_4 {r : (List Spot)} {s0 : Int} {s1 : Int} {N : Nat} {k0 : (List Spot) → Option ((List Spot))} {fu : Nat} {i11 : Int} {b0 : List Spot} {m0 : Nat} (hz : Sf99_4.ok p = true) (h0 : AtH Sf99_4 st (V2f99_4 s0 s1 i11 b0 m0) (B2f99_4 s0 s1 i11 b0 m0)) (em0 : m0 = List.length b0) (h : ∀ (n : Nat) (i11 : Int) (b0 : List Spot), f99_4b (f99_4 s0 s1 N k0 n) s0 s1 N k0 i11 b0 = some r → vc c p nid a (St.mk' Sf99_4 (Vf99_4 s0 s1 i11 b0) (Bf99_4 s0 s1 i11 b0)) (Kloop Sf99_4 (Yf99_4 s0 s1) (Xf99_4 s0 s1) (Jf99_4 s0 s1 N k0 r) Prod.fst (n + 1, i11, b0) K)) (hF : f99_4 s0 s1 N k0 fu i11 b0 = some r) : vc c p nid (.loop a) st K := by
  subst em0; refine vc_loop Sf99_4 (Yf99_4 s0 s1) (Xf99_4 s0 s1) (Jf99_4 s0 s1 N k0 r) Prod.fst hz (kheadL (x := (fu, i11, b0)) hF h0) ?_
  rintro ⟨_ | n, i11, b0⟩ hI
  · cases hI
  · exact h n i11 b0 hI
theorem Mf99_4 {r : (List Spot)} {s0 : Int} {s1 : Int} {N : Nat} {k0 : (List Spot) → Option ((List Spot))} {n : Nat} {i11 : Int} {b0 : List Spot} {i11_ : Int} {b0_ : List Spot} {m0 : Nat} (hF : f99_4 s0 s1 N k0 n i11 b0 = some r) (h0 : AtH Sf99_4 st (V2f99_4 s0 s1 i11 b0 m0) (B2f99_4 s0 s1 i11 b0 m0)) (em0 : m0 = List.length b0) : Kloop Sf99_4 (Yf99_4 s0 s1) (Xf99_4 s0 s1) (Jf99_4 s0 s1 N k0 r) Prod.fst (n + 1, i11_, b0_) K .normal st := by
  subst em0; exact kback (y := (n, i11, b0)) hF (Nat.lt_succ_self n) h0
def f99b (self : Int → Int → (List Spot) → Option ((List Spot))) (N : Nat) (s0 : Int) (s1 : Int) (s2 : List Spot) : Option ((List Spot)) :=
 joinK (f99_c7 s0 s1 N) fun k0 =>
 f99_4 s0 s1 N k0 N (W (Int.tdiv (W ((W (s1 - s0)) - (1 : Int))) (2 : Int))) s2
def f99 : Nat → Int → Int → (List Spot) → Option ((List Spot))
  | 0, _, _, _ => none
  | N + 1, s0, s1, s2 => f99b (f99 N) N s0 s1 s2
def Af99 (s0 : Int) (s1 : Int) (s2 : List Spot) : List SV := [.rs 0 (List.length s2), .dat (iN s0), .dat (iN s1), .dat (.v (.func (.func 91) #[] #[]))]
def Bf99 (s0 : Int) (s1 : Int) (s2 : List Spot) : List Blk := [.row 73 3 (List.map Spot.d s2)]
def Rf99 (y : (List Spot)) : List SV := []
def B1f99 (s0 : Int) (s1 : Int) (s2 : List Spot) (y : (List Spot)) : List Blk := [.row 73 3 (List.map Spot.d y)]
def BZf99 (y : (List Spot)) : Blk := .unborn
def Spf99 : Spec (Int × Int × (List Spot)) ((List Spot)) := ⟨1, fun x => Af99 x.1 x.2.1 x.2.2, fun x => Bf99 x.1 x.2.1 x.2.2, fun _ y => Rf99 y, fun x y => B1f99 x.1 x.2.1 x.2.2 y, fun _ y => BZf99 y⟩
def H99 (N : Nat) (x : Int × Int × (List Spot)) (y : (List Spot)) : Prop := f99 N x.1 x.2.1 x.2.2 = some y
def G99 (x : Int × Int × (List Spot)) (y : (List Spot)) : Prop := ∃ N, H99 N x y
theorem H99.step {N : Nat} {s0 : Int} {s1 : Int} {s2 : List Spot} {m0 : Nat} {ρ : Type} {A : (List Spot) → Option ρ} {q : ρ} {xs : List SV} {id : Nat} {m : Nat → Blk} {l : List Loc} {K : Dl → List Loc → Prop} {k0 : Nat} (ha : xs = [.rs k0 m0, .dat (iN s0), .dat (iN s1), .dat (.v (.func (.func 91) #[] #[]))]) (b0 : m k0 = .row 73 3 (List.map Spot.d s2)) (em0 : m0 = List.length s2) (hu : m id = .unborn) (hn : nodupB [k0] = true) (h : ∀ y, A y = some q → K ⟨.tup [], [(k0, .row 73 3 (List.map Spot.d y)), (id, .unborn)]⟩ l) (hF : (f99 N s0 s1 s2).bind A = some q) : effPg Spf99 (H99 N) xs id (fun _ => SV.no) m l K := by
  subst em0; obtain ⟨y, hy, hA⟩ := bind_some hF
  exact eff_step [k0] (s0, s1, s2) y _ hy rfl hn ha (by simp only [List.map_cons, List.map_nil, b0]; rfl) hu rfl rfl (h y hA)
theorem G99.step {N : Nat} {s0 : Int} {s1 : Int} {s2 : List Spot} {m0 : Nat} {ρ : Type} {A : (List Spot) → Option ρ} {q : ρ} {xs : List SV} {id : Nat} {m : Nat → Blk} {l : List Loc} {K : Dl → List Loc → Prop} {k0 : Nat} (ha : xs = [.rs k0 m0, .dat (iN s0), .dat (iN s1), .dat (.v (.func (.func 91) #[] #[]))]) (b0 : m k0 = .row 73 3 (List.map Spot.d s2)) (em0 : m0 = List.length s2) (hu : m id = .unborn) (hn : nodupB [k0] = true) (h : ∀ y, A y = some q → K ⟨.tup [], [(k0, .row 73 3 (List.map Spot.d y)), (id, .unborn)]⟩ l) (hF : (f99 N s0 s1 s2).bind A = some q) : effPg Spf99 (G99) xs id (fun _ => SV.no) m l K := by
  subst em0; obtain ⟨y, hy, hA⟩ := bind_some hF
  exact eff_step [k0] (s0, s1, s2) y _ ⟨N, hy⟩ rfl hn ha (by simp only [List.map_cons, List.map_nil, b0]; rfl) hu rfl rfl (h y hA)
def Srf99 : Ann := ⟨[], [0, 500], [], []⟩
set_option maxRecDepth 20000 in
set_option maxHeartbeats 4000000 in
theorem Q99 (N : Nat) : CallOK Try.prog 99 (effPg Spf99 (H99 N)) := by
  induction N with
  | zero => exact eff_none fun x y h => (by cases (show (none : Option ((List Spot))) = some y from h))
  | succ N ih =>
    refine eff_of_vc (c := mkCtx tyTree [(99, false, effPg Spf99 (H99 N)), (109, false, effPg Spf109 G109)]) rfl tyOK (ctx_eff (callable Try.func99 rfl rfl) ih (ctx_eff (callable Try.func109 rfl rfl) P109 (ctx_nil))) 1000 500 Srf99 Try.func99 rfl rfl (by kernel_rfl) rfl rfl rfl rfl rfl (fun _ => rfl) (fun _ => rfl) (fun _ _ => ⟨rfl, rfl⟩) ?_
    rintro ⟨s0, s1, s2⟩ y hF
    have hF : f99b (f99 N) N s0 s1 s2 = some y := hF
    show vc _ _ _ _ ⟨[(0, .rs 0 (List.length s2)), (1, .dat (iN s0)), (2, .dat (iN s1)), (3, .dat (.v (.func (.func 91) #[] #[])))], [(0, .row 73 3 (List.map Spot.d s2))]⟩ _
    unfold f99b at hF
    repeat' (first
      | ((with_reducible refine q0 _ _ ?_); clear Q q0 q1 q2)
      | ((with_reducible refine q1 _ _ _ _ ?_); clear Q q0 q1 q2)
      | ((with_reducible refine q2 _ _ _ ?_); clear Q q0 q1 q2)
      | ((with_reducible refine seq_op ?hx (fun Q q0 q1 q2 => ?_)); (case hx => exact rfl); conv => whnf)
      | ((with_reducible refine draw_op ?hx (fun Q q0 q1 q2 => ?_)); (case hx => exact rfl); conv => whnf)
      | ((with_reducible refine seq_op0 ?hx (fun Q q0 q1 q2 => ?_)); (case hx => exact rfl); conv => whnf)
      | ((with_reducible refine draw_op0 ?hx (fun Q q0 q1 q2 => ?_)); (case hx => exact rfl); conv => whnf)
      | ((with_reducible refine cond_id ?_); (first | ((refine condKT rfl ?hy ?_); (case hy => first | assumption | exact notT (by assumption) | exact rfl)) | ((refine condKF rfl ?hy ?_); (case hy => first | assumption | exact notF (by assumption) | exact rfl)) | (revert hF; (with_reducible refine condF ?hx ?_ ?_); (case hx => exact rfl); all_goals (intro hc hF))))
      | ((with_reducible refine seq_nil ?_); (first | ((with_reducible refine hR _ ?_); clear R hR) | ((with_reducible refine hL _ ?_); clear L hL)))
      | ((with_reducible refine draw_nil ?_); (with_reducible refine hR _ _ ?hx ?_); (case hx => kernel_rfl); (first | clear R hR | clear hR))
      | ((with_reducible refine int_step ?_); conv => whnf)
      | ((with_reducible refine len_step ?_); conv => whnf)
      | ((with_reducible refine idx2 (by assumption) ?_); conv => whnf)
      | ((with_reducible refine idx3 (by assumption) ?_); conv => whnf)
      | with_reducible refine vc_block ?_
      | with_reducible refine vc_skip ?_
      | with_reducible refine vc_ret ?_
      | with_reducible refine vc_exit ?_
      | ((with_reducible refine vc_seqN [1000007] ?hx ?_); (case hx => exact rfl))
      | (with_reducible refine vc_region (fun R hR => ?_))
      | ((with_reducible refine vc_draw ?hx (fun R hR => ?_)); (case hx => exact rfl))
      | fail
      | (revert hF; (refine Lf99_8 rfl ⟨_, rfl, rfl, rfl, rfl⟩ (by first | exact rfl | assumption | omega) ?_); intro n i12 b0' hF; unfold f99_8b at hF)
      | exact Mf99_8 hF ⟨_, rfl, rfl, rfl, rfl⟩ (by first | exact rfl | assumption | omega)
      | (revert hF; (refine Cf99_c7 rfl rfl ?_ ?_); (intro hF); rotate_left; (intro b0 hF; unfold f99_c7 at hF); rotate_right)
      | exact Zf99_c7 hF ⟨_, rfl, rfl, rfl, rfl⟩ (by first | exact rfl | assumption | omega)
      | (revert hF; (refine Lf99_4 rfl ⟨_, rfl, rfl, rfl, rfl⟩ (by first | exact rfl | assumption | omega) ?_); intro n i11 b0 hF; unfold f99_4b at hF)
      | exact Mf99_4 hF ⟨_, rfl, rfl, rfl, rfl⟩ (by first | exact rfl | assumption | omega)
      | (revert hF; (refine G109.step rfl rfl (by first | exact rfl | assumption | omega) rfl ?hn ?_); (case hn => exact rfl); intro v hF; conv => whnf)
      | (revert hF; (refine H99.step rfl rfl (by first | exact rfl | assumption | omega) rfl ?hn ?_); (case hn => exact rfl); intro v hF; conv => whnf)
      | (show retE _ _ _ _ _ _; conv => whnf)
      | (cases hF; exact ⟨rfl, rfl, rfl⟩)
      | ((with_reducible have hG := keep_fact hF); have hk := hG.1; have hF := hG.2; clear hG)
      | with_reducible refine k_seq_ret ?_
      | with_reducible refine k_seq_exit ?_
      | with_reducible refine k_blk ?_
      | with_reducible refine k_blk_ret ?_
      | with_reducible refine k_blk_here ?_
      | ((with_reducible refine k_blk_out ?hx ?_); (case hx => exact rfl))
      | with_reducible refine k_loop_ret ?_
      | with_reducible refine k_loop_exit ?_
      | (revert hF; (with_reducible refine idx1 ?hn ?_); (case hn => first | exact rfl | exact (List.length_map _) | assumption | omega | simp); intro x hx hF; conv => whnf)
      | ((refine row_all ?hn ?_); (case hn => first | exact rfl | (simp; done) | (simp; omega)); conv => whnf)
      | ((with_reducible refine le_step ?hn ?_); (case hn => first | exact rfl | assumption | omega); conv => whnf)
      | ((with_reducible have hG := setx_fact hF); clear hF; (refine setx_step hG ?hs (fun q hl hF => ?_)); (case hs => exact rfl); clear hG; conv => whnf)
      | ((refine ⟨?hx, ?_⟩); (case hx => exact ⟨rfl, Nat.le_of_ble_eq_true rfl, rfl⟩); conv => whnf)
      | ((with_reducible refine ex_step ?_); conv => whnf)
      | ((with_reducible refine both_T ?hx ?_); (case hx => first | exact rfl | assumption | exact notT (by assumption)); conv => whnf)
      | ((with_reducible refine both_F ?hx ?_); (case hx => first | exact rfl | assumption | exact notF (by assumption)); conv => whnf)
      | (revert hF; (with_reducible refine ite_step ?_ ?_) <;> (intro hc hF; conv => whnf))
      | ((with_reducible refine vc_condT ?hx ?_); (case hx => exact rfl))
      | ((with_reducible refine vc_condF ?hx ?_); (case hx => exact rfl))
      | (show retD _ _ _ _ _ _; conv => whnf)
      | ((refine ⟨?hx, trivial⟩); (case hx => (cases hF; exact rfl)))
      | ((refine ⟨?hx, ?_⟩); (case hx => decide); conv => whnf)
      | ((with_reducible refine k_seq ?_))
      | (have hF : (none : Option _) = some _ := hF; cases hF))
theorem P99 : CallOK Try.prog 99 (effPg Spf99 G99) := eff_ex Q99
end
end Go.Vc
namespace Go.Vc
open Go.Proofs
set_option linter.unusedVariables false
set_option linter.unnecessarySimpa false
set_option linter.unusedSimpArgs false
section
variable {c : Ctx} {p nid : Nat} {a b : Code} {st : St} {K : Ex → St → Prop}
/- f107: math/bits.Len64 -/
def f107_c7 (x0' : Int) (n2' : Int) : Option (Int) :=
 bif decide ((256 : Int) ≤ (x0')) then ((idxS (strC (List.append (List.append [0, 1, 2, 2, 3, 3, 3, 3, 4, 4, 4, 4, 4, 4, 4, 4, 5, 5, 5, 5, 5, 5, 5, 5, 5, 5, 5, 5, 5, 5, 5, 5, 6, 6, 6, 6, 6, 6, 6, 6, 6, 6, 6, 6, 6, 6, 6, 6, 6, 6, 6, 6, 6, 6, 6, 6, 6, 6, 6, 6, 6, 6, 6, 6] [7, 7, 7, 7, 7, 7, 7, 7, 7, 7, 7, 7, 7, 7, 7, 7, 7, 7, 7, 7, 7, 7, 7, 7, 7, 7, 7, 7, 7, 7, 7, 7, 7, 7, 7, 7, 7, 7, 7, 7, 7, 7, 7, 7, 7, 7, 7, 7, 7, 7, 7, 7, 7, 7, 7, 7, 7, 7, 7, 7, 7, 7, 7, 7]) (List.append [8, 8, 8, 8, 8, 8, 8, 8, 8, 8, 8, 8, 8, 8, 8, 8, 8, 8, 8, 8, 8, 8, 8, 8, 8, 8, 8, 8, 8, 8, 8, 8, 8, 8, 8, 8, 8, 8, 8, 8, 8, 8, 8, 8, 8, 8, 8, 8, 8, 8, 8, 8, 8, 8, 8, 8, 8, 8, 8, 8, 8, 8, 8, 8] [8, 8, 8, 8, 8, 8, 8, 8, 8, 8, 8, 8, 8, 8, 8, 8, 8, 8, 8, 8, 8, 8, 8, 8, 8, 8, 8, 8, 8, 8, 8, 8, 8, 8, 8, 8, 8, 8, 8, 8, 8, 8, 8, 8, 8, 8, 8, 8, 8, 8, 8, 8, 8, 8, 8, 8, 8, 8, 8, 8, 8, 8, 8, 8]))) (Wk .u8 (Int.fdiv (x0') (2 ^ (min (Int.toNat (8 : Int)) 64))))).bind fun x1 =>
 some (W ((W ((n2') + (8 : Int))) + x1)))
 else ((idxS (strC (List.append (List.append [0, 1, 2, 2, 3, 3, 3, 3, 4, 4, 4, 4, 4, 4, 4, 4, 5, 5, 5, 5, 5, 5, 5, 5, 5, 5, 5, 5, 5, 5, 5, 5, 6, 6, 6, 6, 6, 6, 6, 6, 6, 6, 6, 6, 6, 6, 6, 6, 6, 6, 6, 6, 6, 6, 6, 6, 6, 6, 6, 6, 6, 6, 6, 6] [7, 7, 7, 7, 7, 7, 7, 7, 7, 7, 7, 7, 7, 7, 7, 7, 7, 7, 7, 7, 7, 7, 7, 7, 7, 7, 7, 7, 7, 7, 7, 7, 7, 7, 7, 7, 7, 7, 7, 7, 7, 7, 7, 7, 7, 7, 7, 7, 7, 7, 7, 7, 7, 7, 7, 7, 7, 7, 7, 7, 7, 7, 7, 7]) (List.append [8, 8, 8, 8, 8, 8, 8, 8, 8, 8, 8, 8, 8, 8, 8, 8, 8, 8, 8, 8, 8, 8, 8, 8, 8, 8, 8, 8, 8, 8, 8, 8, 8, 8, 8, 8, 8, 8, 8, 8, 8, 8, 8, 8, 8, 8, 8, 8, 8, 8, 8, 8, 8, 8, 8, 8, 8, 8, 8, 8, 8, 8, 8, 8] [8, 8, 8, 8, 8, 8, 8, 8, 8, 8, 8, 8, 8, 8, 8, 8, 8, 8, 8, 8, 8, 8, 8, 8, 8, 8, 8, 8, 8, 8, 8, 8, 8, 8, 8, 8, 8, 8, 8, 8, 8, 8, 8, 8, 8, 8, 8, 8, 8, 8, 8, 8, 8, 8, 8, 8, 8, 8, 8, 8, 8, 8, 8, 8]))) (Wk .u8 (x0'))).bind fun x2 =>
 some (W ((n2') + x2)))
def Sf107_c7 : Ann := ⟨[0, 2], [], [], []⟩
def Vf107_c7 (x0' : Int) (n2' : Int) : List SV := [.dat (u64N (x0')), .dat (iN (n2'))]
def Bf107_c7 (x0' : Int) (n2' : Int) : List Blk := []
def Yf107_c7 (y : Int × Int) : List SV := Vf107_c7 y.1 y.2
def Xf107_c7 (y : Int × Int) : List Blk := Bf107_c7 y.1 y.2
def Jf107_c7 (r : Int) (y : Int × Int) : Prop := f107_c7 y.1 y.2 = some r
theorem Cf107_c7 {r : Int} {g : _ → Option (Int)} (hn : Nat.beq (nid * 1000 + firstRegion b) 7 = true) (hz : Sf107_c7.ok p = true) (h : g f107_c7 = some r → vc c p nid a st (KHead Sf107_c7 Yf107_c7 Xf107_c7 (Jf107_c7 r) K)) (h2 : ∀ (x0' : Int) (n2' : Int), f107_c7 x0' n2' = some r → vc c p nid b (St.mk' Sf107_c7 (Vf107_c7 x0' n2') (Bf107_c7 x0' n2')) K) (hF : joinK f107_c7 g = some r) : vc c p nid (.seq a b) st K :=
  vc_cut Sf107_c7 Yf107_c7 Xf107_c7 (Jf107_c7 r) hz (h hF) fun y hy => h2 y.1 y.2 hy
theorem Zf107_c7 {r : Int} {x0' : Int} {n2' : Int} (hF : f107_c7 x0' n2' = some r) (h0 : AtH Sf107_c7 st (Vf107_c7 x0' n2') (Bf107_c7 x0' n2')) : KHead Sf107_c7 Yf107_c7 Xf107_c7 (Jf107_c7 r) K .normal st := by
  exact khead (I := (Jf107_c7 r)) (x := (x0', n2')) hF h0
def f107_c4 (x0 : Int) (n2 : Int) : Option (Int) :=
 joinK f107_c7 fun k0 =>
 bif decide ((65536 : Int) ≤ x0) then (k0 (Int.fdiv x0 (2 ^ (min (Int.toNat (16 : Int)) 64))) (W (n2 + (16 : Int))))
 else (k0 x0 n2)
def Sf107_c4 : Ann := ⟨[0, 2], [], [], []⟩
def Vf107_c4 (x0 : Int) (n2 : Int) : List SV := [.dat (u64N x0), .dat (iN n2)]
def Bf107_c4 (x0 : Int) (n2 : Int) : List Blk := []
def Yf107_c4 (y : Int × Int) : List SV := Vf107_c4 y.1 y.2
def Xf107_c4 (y : Int × Int) : List Blk := Bf107_c4 y.1 y.2
def Jf107_c4 (r : Int) (y : Int × Int) : Prop := f107_c4 y.1 y.2 = some r
theorem Cf107_c4 {r : Int} {g : _ → Option (Int)} (hn : Nat.beq (nid * 1000 + firstRegion b) 4 = true) (hz : Sf107_c4.ok p = true) (h : g f107_c4 = some r → vc c p nid a st (KHead Sf107_c4 Yf107_c4 Xf107_c4 (Jf107_c4 r) K)) (h2 : ∀ (x0 : Int) (n2 : Int), f107_c4 x0 n2 = some r → vc c p nid b (St.mk' Sf107_c4 (Vf107_c4 x0 n2) (Bf107_c4 x0 n2)) K) (hF : joinK f107_c4 g = some r) : vc c p nid (.seq a b) st K :=
  vc_cut Sf107_c4 Yf107_c4 Xf107_c4 (Jf107_c4 r) hz (h hF) fun y hy => h2 y.1 y.2 hy
theorem Zf107_c4 {r : Int} {x0 : Int} {n2 : Int} (hF : f107_c4 x0 n2 = some r) (h0 : AtH Sf107_c4 st (Vf107_c4 x0 n2) (Bf107_c4 x0 n2)) : KHead Sf107_c4 Yf107_c4 Xf107_c4 (Jf107_c4 r) K .normal st := by
  exact khead (I := (Jf107_c4 r)) (x := (x0, n2)) hF h0
def f107 (N : Nat) (a0 : Int) : Option (Int) :=
 joinK f107_c4 fun k1 =>
 bif decide ((4294967296 : Int) ≤ a0) then (k1 (Int.fdiv a0 (2 ^ (min (Int.toNat (32 : Int)) 64))) (32 : Int))
 else (k1 a0 (0 : Int))
def G107 (ds : List D) (d : D) : Prop := ∃ (N : Nat) (a0 : Int) (r : Int), ds = [u64N a0] ∧ f107 N a0 = some r ∧ d = iN r
theorem G107.lend {N : Nat} {a0 : Int} {ρ : Type} {A : Int → Option ρ} {q : ρ} {ds : List D} {K : D → Prop} (hd : ds = [u64N a0]) (h : ∀ r, A r = some q → K (iN r)) (hF : (f107 N a0).bind A = some q) : ∃ d, (G107 ds d ∧ d.flatB = true) ∧ K d := by
  obtain ⟨r, hr, hA⟩ := bind_some hF
  exact ⟨_, ⟨⟨N, a0, r, hd, hr, rfl⟩, rfl⟩, h r hA⟩
theorem G107.step {N : Nat} {a0 : Int} {ρ : Type} {A : Int → Option ρ} {q : ρ} {ds : List D} {K : D → Prop} (hd : ds = [u64N a0]) (h : ∀ r, A r = some q → K (iN r)) (hF : (f107 N a0).bind A = some q) : ∃ d, G107 ds d ∧ K d := by
  obtain ⟨r, hr, hA⟩ := bind_some hF
  exact ⟨_, ⟨N, a0, r, hd, hr, rfl⟩, h r hA⟩
set_option maxRecDepth 20000 in
set_option maxHeartbeats 4000000 in
theorem P107 : PureOK Try.prog 107 G107 := by
  refine pure_of_vc (c := mkCtx tyTree []) rfl tyOK (ctx_nil) [[0]] 1 Try.func107 rfl rfl (by decide) (by kernel_rfl) ?_
  rintro ds d ⟨N, a0, r, rfl, hF, rfl⟩ hok
  clear hok
  refine ⟨rfl, ?_⟩
  show vc _ _ _ _ ⟨[(0, .dat (u64N a0))], []⟩ _
  unfold f107 at hF
  repeat' (first
    | ((with_reducible refine q0 _ _ ?_); clear Q q0 q1 q2)
    | ((with_reducible refine q1 _ _ _ _ ?_); clear Q q0 q1 q2)
    | ((with_reducible refine q2 _ _ _ ?_); clear Q q0 q1 q2)
    | ((with_reducible refine seq_op ?hx (fun Q q0 q1 q2 => ?_)); (case hx => exact rfl); conv => whnf)
    | ((with_reducible refine cond_id ?_); (first | ((refine condKT rfl ?hy ?_); (case hy => first | assumption | exact notT (by assumption) | exact rfl)) | ((refine condKF rfl ?hy ?_); (case hy => first | assumption | exact notF (by assumption) | exact rfl)) | (revert hF; (with_reducible refine condF ?hx ?_ ?_); (case hx => exact rfl); all_goals (intro hc hF))))
    | ((with_reducible refine seq_nil ?_); (first | ((with_reducible refine hR _ ?_); clear R hR) | ((with_reducible refine hL _ ?_); clear L hL)))
    | ((with_reducible refine int_step ?_); conv => whnf)
    | with_reducible refine vc_block ?_
    | with_reducible refine vc_skip ?_
    | with_reducible refine vc_ret ?_
    | with_reducible refine vc_exit ?_
    | ((with_reducible refine vc_seqN [7, 4] ?hx ?_); (case hx => exact rfl))
    | (with_reducible refine vc_region (fun R hR => ?_))
    | fail
    | (revert hF; (refine Cf107_c7 rfl rfl ?_ ?_); (intro hF); rotate_left; (intro x0' n2' hF; unfold f107_c7 at hF); rotate_right)
    | exact Zf107_c7 hF ⟨_, rfl, rfl, rfl, rfl⟩
    | (revert hF; (refine Cf107_c4 rfl rfl ?_ ?_); (intro hF); rotate_left; (intro x0 n2 hF; unfold f107_c4 at hF); rotate_right)
    | exact Zf107_c4 hF ⟨_, rfl, rfl, rfl, rfl⟩
    | (revert hF; (refine idxS_step ?_); intro x hF; conv => whnf)
    | with_reducible refine k_seq_ret ?_
    | with_reducible refine k_seq_exit ?_
    | with_reducible refine k_blk ?_
    | with_reducible refine k_blk_ret ?_
    | with_reducible refine k_blk_here ?_
    | ((with_reducible refine k_blk_out ?hx ?_); (case hx => exact rfl))
    | ((refine row_all ?hn ?_); (case hn => first | exact rfl | (simp; done) | (simp; omega)); conv => whnf)
    | ((with_reducible refine le_step ?hn ?_); (case hn => first | exact rfl | assumption | omega); conv => whnf)
    | ((refine ⟨?hx, ?_⟩); (case hx => exact ⟨rfl, Nat.le_of_ble_eq_true rfl, rfl⟩); conv => whnf)
    | ((with_reducible refine ex_step ?_); conv => whnf)
    | ((with_reducible refine both_T ?hx ?_); (case hx => first | exact rfl | assumption | exact notT (by assumption)); conv => whnf)
    | ((with_reducible refine both_F ?hx ?_); (case hx => first | exact rfl | assumption | exact notF (by assumption)); conv => whnf)
    | (revert hF; (with_reducible refine ite_step ?_ ?_) <;> (intro hc hF; conv => whnf))
    | ((with_reducible refine vc_condT ?hx ?_); (case hx => exact rfl))
    | ((with_reducible refine vc_condF ?hx ?_); (case hx => exact rfl))
    | (show retD _ _ _ _ _ _; conv => whnf)
    | ((refine ⟨?hx, trivial⟩); (case hx => (cases hF; exact rfl)))
    | ((refine ⟨?hx, ?_⟩); (case hx => decide); conv => whnf)
    | ((with_reducible refine k_seq ?_))
    | (have hF : (none : Option _) = some _ := hF; cases hF))
end
end Go.Vc
namespace Go.Vc
open Go.Proofs
set_option linter.unusedVariables false
set_option linter.unnecessarySimpa false
set_option linter.unusedSimpArgs false
section
variable {c : Ctx} {p nid : Nat} {a b : Code} {st : St} {K : Ex → St → Prop}
/- f96: math/bits.Len -/
def f96 (N : Nat) (a0 : Int) : Option (Int) :=
 (f107 N a0).bind fun x1 =>
 some (x1)
def G96 (ds : List D) (d : D) : Prop := ∃ (N : Nat) (a0 : Int) (r : Int), ds = [u64N a0] ∧ f96 N a0 = some r ∧ d = iN r
theorem G96.lend {N : Nat} {a0 : Int} {ρ : Type} {A : Int → Option ρ} {q : ρ} {ds : List D} {K : D → Prop} (hd : ds = [u64N a0]) (h : ∀ r, A r = some q → K (iN r)) (hF : (f96 N a0).bind A = some q) : ∃ d, (G96 ds d ∧ d.flatB = true) ∧ K d := by
  obtain ⟨r, hr, hA⟩ := bind_some hF
  exact ⟨_, ⟨⟨N, a0, r, hd, hr, rfl⟩, rfl⟩, h r hA⟩
theorem G96.step {N : Nat} {a0 : Int} {ρ : Type} {A : Int → Option ρ} {q : ρ} {ds : List D} {K : D → Prop} (hd : ds = [u64N a0]) (h : ∀ r, A r = some q → K (iN r)) (hF : (f96 N a0).bind A = some q) : ∃ d, G96 ds d ∧ K d := by
  obtain ⟨r, hr, hA⟩ := bind_some hF
  exact ⟨_, ⟨N, a0, r, hd, hr, rfl⟩, h r hA⟩
set_option maxRecDepth 20000 in
set_option maxHeartbeats 4000000 in
theorem P96 : PureOK Try.prog 96 G96 := by
  refine pure_of_vc (c := mkCtx tyTree [(107, true, lendPg [[0]] G107)]) rfl tyOK (ctx_lend (callable Try.func107 rfl rfl) P107 (ctx_nil)) [[0]] 1 Try.func96 rfl rfl (by decide) (by kernel_rfl) ?_
  rintro ds d ⟨N, a0, r, rfl, hF, rfl⟩ hok
  clear hok
  refine ⟨rfl, ?_⟩
  show vc _ _ _ _ ⟨[(0, .dat (u64N a0))], []⟩ _
  unfold f96 at hF
  repeat' (first
    | ((with_reducible refine q0 _ _ ?_); clear Q q0 q1 q2)
    | ((with_reducible refine q1 _ _ _ _ ?_); clear Q q0 q1 q2)
    | ((with_reducible refine q2 _ _ _ ?_); clear Q q0 q1 q2)
    | ((with_reducible refine seq_op ?hx (fun Q q0 q1 q2 => ?_)); (case hx => exact rfl); conv => whnf)
    | ((with_reducible refine seq_nil ?_); (first | ((with_reducible refine hR _ ?_); clear R hR) | ((with_reducible refine hL _ ?_); clear L hL)))
    | ((with_reducible refine int_step ?_); conv => whnf)
    | with_reducible refine vc_skip ?_
    | with_reducible refine vc_constT ?_
    | with_reducible refine vc_constF ?_
    | with_reducible refine vc_ret ?_
    | ((with_reducible refine vc_seqN [] ?hx ?_); (case hx => exact rfl))
    | (with_reducible refine vc_region (fun R hR => ?_))
    | fail
    | (revert hF; (with_reducible refine G107.lend ?hx ?_); (case hx => exact rfl); intro v hF; conv => whnf)
    | with_reducible refine k_seq_ret ?_
    | ((refine row_all ?hn ?_); (case hn => first | exact rfl | (simp; done) | (simp; omega)); conv => whnf)
    | ((with_reducible refine le_step ?hn ?_); (case hn => first | exact rfl | assumption | omega); conv => whnf)
    | ((refine ⟨?hx, ?_⟩); (case hx => exact ⟨rfl, Nat.le_of_ble_eq_true rfl, rfl⟩); conv => whnf)
    | ((with_reducible refine ex_step ?_); conv => whnf)
    | ((with_reducible refine both_T ?hx ?_); (case hx => first | exact rfl | assumption | exact notT (by assumption)); conv => whnf)
    | ((with_reducible refine both_F ?hx ?_); (case hx => first | exact rfl | assumption | exact notF (by assumption)); conv => whnf)
    | (revert hF; (with_reducible refine ite_step ?_ ?_) <;> (intro hc hF; conv => whnf))
    | (show retD _ _ _ _ _ _; conv => whnf)
    | ((refine ⟨?hx, trivial⟩); (case hx => (cases hF; exact rfl)))
    | ((refine ⟨?hx, ?_⟩); (case hx => decide); conv => whnf)
    | ((with_reducible refine k_seq ?_))
    | (have hF : (none : Option _) = some _ := hF; cases hF))
end
end Go.Vc
namespace Go.Vc
open Go.Proofs
set_option linter.unusedVariables false
set_option linter.unnecessarySimpa false
set_option linter.unusedSimpArgs false
section
variable {c : Ctx} {p nid : Nat} {a b : Code} {st : St} {K : Ex → St → Prop}
/- f110: slices.nextPowerOfTwo -/
def f110 (N : Nat) (a0 : Int) : Option (Int) :=
 (f96 N (Wk .u64 (a0))).bind fun x1 =>
 (chk (decide (0 ≤ x1))).bind fun _ =>
 some (Wk .u64 ((1 : Int) * 2 ^ (min (Int.toNat x1) 64)))
def G110 (ds : List D) (d : D) : Prop := ∃ (N : Nat) (a0 : Int) (r : Int), ds = [iN a0] ∧ f110 N a0 = some r ∧ d = u64N r
theorem G110.lend {N : Nat} {a0 : Int} {ρ : Type} {A : Int → Option ρ} {q : ρ} {ds : List D} {K : D → Prop} (hd : ds = [iN a0]) (h : ∀ r, A r = some q → K (u64N r)) (hF : (f110 N a0).bind A = some q) : ∃ d, (G110 ds d ∧ d.flatB = true) ∧ K d := by
  obtain ⟨r, hr, hA⟩ := bind_some hF
  exact ⟨_, ⟨⟨N, a0, r, hd, hr, rfl⟩, rfl⟩, h r hA⟩
theorem G110.step {N : Nat} {a0 : Int} {ρ : Type} {A : Int → Option ρ} {q : ρ} {ds : List D} {K : D → Prop} (hd : ds = [iN a0]) (h : ∀ r, A r = some q → K (u64N r)) (hF : (f110 N a0).bind A = some q) : ∃ d, G110 ds d ∧ K d := by
  obtain ⟨r, hr, hA⟩ := bind_some hF
  exact ⟨_, ⟨N, a0, r, hd, hr, rfl⟩, h r hA⟩
set_option maxRecDepth 20000 in
set_option maxHeartbeats 4000000 in
theorem P110 : PureOK Try.prog 110 G110 := by
  refine pure_of_vc (c := mkCtx tyTree [(96, true, lendPg [[0]] G96)]) rfl tyOK (ctx_lend (callable Try.func96 rfl rfl) P96 (ctx_nil)) [[0]] 1 Try.func110 rfl rfl (by decide) (by kernel_rfl) ?_
  rintro ds d ⟨N, a0, r, rfl, hF, rfl⟩ hok
  clear hok
  refine ⟨rfl, ?_⟩
  show vc _ _ _ _ ⟨[(0, .dat (iN a0))], []⟩ _
  unfold f110 at hF
  repeat' (first
    | ((with_reducible refine q0 _ _ ?_); clear Q q0 q1 q2)
    | ((with_reducible refine q1 _ _ _ _ ?_); clear Q q0 q1 q2)
    | ((with_reducible refine q2 _ _ _ ?_); clear Q q0 q1 q2)
    | ((with_reducible refine seq_op ?hx (fun Q q0 q1 q2 => ?_)); (case hx => exact rfl); conv => whnf)
    | ((with_reducible refine seq_nil ?_); (first | ((with_reducible refine hR _ ?_); clear R hR) | ((with_reducible refine hL _ ?_); clear L hL)))
    | ((with_reducible refine int_step ?_); conv => whnf)
    | with_reducible refine vc_skip ?_
    | with_reducible refine vc_ret ?_
    | ((with_reducible refine vc_seqN [] ?hx ?_); (case hx => exact rfl))
    | (with_reducible refine vc_region (fun R hR => ?_))
    | fail
    | (revert hF; (with_reducible refine G96.lend ?hx ?_); (case hx => exact rfl); intro v hF; conv => whnf)
    | with_reducible refine k_seq_ret ?_
    | ((refine row_all ?hn ?_); (case hn => first | exact rfl | (simp; done) | (simp; omega)); conv => whnf)
    | ((with_reducible refine le_step ?hn ?_); (case hn => first | exact rfl | assumption | omega); conv => whnf)
    | ((refine ⟨?hx, ?_⟩); (case hx => exact ⟨rfl, Nat.le_of_ble_eq_true rfl, rfl⟩); conv => whnf)
    | ((with_reducible refine ex_step ?_); conv => whnf)
    | ((with_reducible have hG := chk_fact hF); clear hF; (refine ⟨?hx, ?_⟩); (case hx => (first | exact of_decide_eq_true hG.1 | exact hG.1)); have hF := hG.2; clear hG; conv => whnf)
    | ((with_reducible refine both_T ?hx ?_); (case hx => first | exact rfl | assumption | exact notT (by assumption)); conv => whnf)
    | ((with_reducible refine both_F ?hx ?_); (case hx => first | exact rfl | assumption | exact notF (by assumption)); conv => whnf)
    | (revert hF; (with_reducible refine ite_step ?_ ?_) <;> (intro hc hF; conv => whnf))
    | (show retD _ _ _ _ _ _; conv => whnf)
    | ((refine ⟨?hx, trivial⟩); (case hx => (cases hF; exact rfl)))
    | ((refine ⟨?hx, ?_⟩); (case hx => decide); conv => whnf)
    | ((with_reducible refine k_seq ?_))
    | (have hF : (none : Option _) = some _ := hF; cases hF))
end
end Go.Vc
namespace Go.Vc
open Go.Proofs
set_option linter.unusedVariables false
set_option linter.unnecessarySimpa false
set_option linter.unusedSimpArgs false
section
variable {c : Ctx} {p nid : Nat} {a b : Code} {st : St} {K : Ex → St → Prop}
/- f100: slices.breakPatternsCmpFunc[tusche/serial.Spot] -/
def f100_c10 (s0 : Int) (s1 : Int) (x1 : Int) (v11 : Int) (b0 : List Spot) (b1202_0 : Int) (r5 : Int → (List Spot) → Int → Option ((List Spot))) (v12 : Int) : Option ((List Spot)) :=
 (ix b0 (W (s0 + v12))).bind fun x2 =>
 (ix b0 v11).bind fun x3 =>
 (ix b0 v11).bind fun x4 =>
 (setx b0 v11 x2).bind fun x5 =>
 (ix x5 (W (s0 + v12))).bind fun x6 =>
 (setx x5 (W (s0 + v12)) x3).bind fun x7 =>
 r5 (W (v11 + (1 : Int))) x7 (bitsI .xor .u64 (bitsI .xor .u64 (bitsI .xor .u64 b1202_0 (Wk .u64 (b1202_0 * 2 ^ (min (Int.toNat (13 : Int)) 64)))) (Int.fdiv (bitsI .xor .u64 b1202_0 (Wk .u64 (b1202_0 * 2 ^ (min (Int.toNat (13 : Int)) 64)))) (2 ^ (min (Int.toNat (7 : Int)) 64)))) (Wk .u64 ((bitsI .xor .u64 (bitsI .xor .u64 b1202_0 (Wk .u64 (b1202_0 * 2 ^ (min (Int.toNat (13 : Int)) 64)))) (Int.fdiv (bitsI .xor .u64 b1202_0 (Wk .u64 (b1202_0 * 2 ^ (min (Int.toNat (13 : Int)) 64)))) (2 ^ (min (Int.toNat (7 : Int)) 64)))) * 2 ^ (min (Int.toNat (17 : Int)) 64))))
def Sf100_c10 : Ann := ⟨[0, 1, 8, 9, 10, 11, 12], [0, 1202], [], []⟩
def Vf100_c10 (s0 : Int) (s1 : Int) (x1 : Int) (v11 : Int) (b0 : List Spot) (b1202_0 : Int) (v12 : Int) : List SV := [.rs 0 (List.length b0), .dat (iN s0), .dat (iN (W (s1 - s0))), .ptr 1202 0, .dat (u64N x1), .dat (iN v11), .dat (iN v12)]
def Bf100_c10 (s0 : Int) (s1 : Int) (x1 : Int) (v11 : Int) (b0 : List Spot) (b1202_0 : Int) (v12 : Int) : List Blk := [.row 73 3 (List.map Spot.d b0), .box [.dat (u64N (bitsI .xor .u64 (bitsI .xor .u64 (bitsI .xor .u64 b1202_0 (Wk .u64 (b1202_0 * 2 ^ (min (Int.toNat (13 : Int)) 64)))) (Int.fdiv (bitsI .xor .u64 b1202_0 (Wk .u64 (b1202_0 * 2 ^ (min (Int.toNat (13 : Int)) 64)))) (2 ^ (min (Int.toNat (7 : Int)) 64)))) (Wk .u64 ((bitsI .xor .u64 (bitsI .xor .u64 b1202_0 (Wk .u64 (b1202_0 * 2 ^ (min (Int.toNat (13 : Int)) 64)))) (Int.fdiv (bitsI .xor .u64 b1202_0 (Wk .u64 (b1202_0 * 2 ^ (min (Int.toNat (13 : Int)) 64)))) (2 ^ (min (Int.toNat (7 : Int)) 64)))) * 2 ^ (min (Int.toNat (17 : Int)) 64)))))]]
def Yf100_c10 (s0 : Int) (s1 : Int) (x1 : Int) (v11 : Int) (b0 : List Spot) (b1202_0 : Int) (y : Int) : List SV := Vf100_c10 s0 s1 x1 v11 b0 b1202_0 y
def Xf100_c10 (s0 : Int) (s1 : Int) (x1 : Int) (v11 : Int) (b0 : List Spot) (b1202_0 : Int) (y : Int) : List Blk := Bf100_c10 s0 s1 x1 v11 b0 b1202_0 y
def Jf100_c10 (s0 : Int) (s1 : Int) (x1 : Int) (v11 : Int) (b0 : List Spot) (b1202_0 : Int) (r5 : Int → (List Spot) → Int → Option ((List Spot))) (r : (List Spot)) (y : Int) : Prop := f100_c10 s0 s1 x1 v11 b0 b1202_0 r5 y = some r
def V2f100_c10 (s0 : Int) (s1 : Int) (x1 : Int) (v11 : Int) (b0 : List Spot) (b1202_0 : Int) (v12 : Int) (m0 : Nat) : List SV := [.rs 0 m0, .dat (iN s0), .dat (iN (W (s1 - s0))), .ptr 1202 0, .dat (u64N x1), .dat (iN v11), .dat (iN v12)]
def B2f100_c10 (s0 : Int) (s1 : Int) (x1 : Int) (v11 : Int) (b0 : List Spot) (b1202_0 : Int) (v12 : Int) (m0 : Nat) : List Blk := [.row 73 3 (List.map Spot.d b0), .box [.dat (u64N (bitsI .xor .u64 (bitsI .xor .u64 (bitsI .xor .u64 b1202_0 (Wk .u64 (b1202_0 * 2 ^ (min (Int.toNat (13 : Int)) 64)))) (Int.fdiv (bitsI .xor .u64 b1202_0 (Wk .u64 (b1202_0 * 2 ^ (min (Int.toNat (13 : Int)) 64)))) (2 ^ (min (Int.toNat (7 : Int)) 64)))) (Wk .u64 ((bitsI .xor .u64 (bitsI .xor .u64 b1202_0 (Wk .u64 (b1202_0 * 2 ^ (min (Int.toNat (13 : Int)) 64)))) (Int.fdiv (bitsI .xor .u64 b1202_0 (Wk .u64 (b1202_0 * 2 ^ (min (Int.toNat (13 : Int)) 64)))) (2 ^ (min (Int.toNat (7 : Int)) 64)))) * 2 ^ (min (Int.toNat (17 : Int)) 64)))))]]
theorem Cf100_c10 {r : (List Spot)} {s0 : Int} {s1 : Int} {x1 : Int} {v11 : Int} {b0 : List Spot} {b1202_0 : Int} {r5 : Int → (List Spot) → Int → Option ((List Spot))} {g : _ → Option ((List Spot))} (hn : Nat.beq (nid * 1000 + firstRegion b) 1000010 = true) (hz : Sf100_c10.ok p = true) (h : g (f100_c10 s0 s1 x1 v11 b0 b1202_0 r5) = some r → vc c p nid a st (KHead Sf100_c10 (Yf100_c10 s0 s1 x1 v11 b0 b1202_0) (Xf100_c10 s0 s1 x1 v11 b0 b1202_0) (Jf100_c10 s0 s1 x1 v11 b0 b1202_0 r5 r) K)) (h2 : ∀ (v12 : Int), f100_c10 s0 s1 x1 v11 b0 b1202_0 r5 v12 = some r → vc c p nid b (St.mk' Sf100_c10 (Vf100_c10 s0 s1 x1 v11 b0 b1202_0 v12) (Bf100_c10 s0 s1 x1 v11 b0 b1202_0 v12)) K) (hF : joinK (f100_c10 s0 s1 x1 v11 b0 b1202_0 r5) g = some r) : vc c p nid (.seq a b) st K :=
  vc_cut Sf100_c10 (Yf100_c10 s0 s1 x1 v11 b0 b1202_0) (Xf100_c10 s0 s1 x1 v11 b0 b1202_0) (Jf100_c10 s0 s1 x1 v11 b0 b1202_0 r5 r) hz (h hF) fun y hy => h2 y hy
theorem Zf100_c10 {r : (List Spot)} {s0 : Int} {s1 : Int} {x1 : Int} {v11 : Int} {b0 : List Spot} {b1202_0 : Int} {r5 : Int → (List Spot) → Int → Option ((List Spot))} {v12 : Int} {m0 : Nat} (hF : f100_c10 s0 s1 x1 v11 b0 b1202_0 r5 v12 = some r) (h0 : AtH Sf100_c10 st (V2f100_c10 s0 s1 x1 v11 b0 b1202_0 v12 m0) (B2f100_c10 s0 s1 x1 v11 b0 b1202_0 v12 m0)) (em0 : m0 = List.length b0) : KHead Sf100_c10 (Yf100_c10 s0 s1 x1 v11 b0 b1202_0) (Xf100_c10 s0 s1 x1 v11 b0 b1202_0) (Jf100_c10 s0 s1 x1 v11 b0 b1202_0 r5 r) K .normal st := by
  subst em0; exact khead (I := (Jf100_c10 s0 s1 x1 v11 b0 b1202_0 r5 r)) (x := (v12)) hF h0
def f100_5b (r5 : Int → (List Spot) → Int → Option ((List Spot))) (s0 : Int) (s1 : Int) (x1 : Int) (v11 : Int) (b0 : List Spot) (b1202_0 : Int) : Option ((List Spot)) :=
 bif decide (v11 ≤ (W ((W (s0 + (W ((W (Int.tdiv (W (s1 - s0)) (4 : Int))) * (2 : Int))))) + (1 : Int)))) then (joinK (f100_c10 s0 s1 x1 v11 b0 b1202_0 r5) fun k0 =>
 bif decide ((W (s1 - s0)) ≤ (W (bitsI .and .u64 (bitsI .xor .u64 (bitsI .xor .u64 (bitsI .xor .u64 b1202_0 (Wk .u64 (b1202_0 * 2 ^ (min (Int.toNat (13 : Int)) 64)))) (Int.fdiv (bitsI .xor .u64 b1202_0 (Wk .u64 (b1202_0 * 2 ^ (min (Int.toNat (13 : Int)) 64)))) (2 ^ (min (Int.toNat (7 : Int)) 64)))) (Wk .u64 ((bitsI .xor .u64 (bitsI .xor .u64 b1202_0 (Wk .u64 (b1202_0 * 2 ^ (min (Int.toNat (13 : Int)) 64)))) (Int.fdiv (bitsI .xor .u64 b1202_0 (Wk .u64 (b1202_0 * 2 ^ (min (Int.toNat (13 : Int)) 64)))) (2 ^ (min (Int.toNat (7 : Int)) 64)))) * 2 ^ (min (Int.toNat (17 : Int)) 64)))) (Wk .u64 (x1 - (1 : Int)))))) then (k0 (W ((W (bitsI .and .u64 (bitsI .xor .u64 (bitsI .xor .u64 (bitsI .xor .u64 b1202_0 (Wk .u64 (b1202_0 * 2 ^ (min (Int.toNat (13 : Int)) 64)))) (Int.fdiv (bitsI .xor .u64 b1202_0 (Wk .u64 (b1202_0 * 2 ^ (min (Int.toNat (13 : Int)) 64)))) (2 ^ (min (Int.toNat (7 : Int)) 64)))) (Wk .u64 ((bitsI .xor .u64 (bitsI .xor .u64 b1202_0 (Wk .u64 (b1202_0 * 2 ^ (min (Int.toNat (13 : Int)) 64)))) (Int.fdiv (bitsI .xor .u64 b1202_0 (Wk .u64 (b1202_0 * 2 ^ (min (Int.toNat (13 : Int)) 64)))) (2 ^ (min (Int.toNat (7 : Int)) 64)))) * 2 ^ (min (Int.toNat (17 : Int)) 64)))) (Wk .u64 (x1 - (1 : Int))))) - (W (s1 - s0)))))
 else (k0 (W (bitsI .and .u64 (bitsI .xor .u64 (bitsI .xor .u64 (bitsI .xor .u64 b1202_0 (Wk .u64 (b1202_0 * 2 ^ (min (Int.toNat (13 : Int)) 64)))) (Int.fdiv (bitsI .xor .u64 b1202_0 (Wk .u64 (b1202_0 * 2 ^ (min (Int.toNat (13 : Int)) 64)))) (2 ^ (min (Int.toNat (7 : Int)) 64)))) (Wk .u64 ((bitsI .xor .u64 (bitsI .xor .u64 b1202_0 (Wk .u64 (b1202_0 * 2 ^ (min (Int.toNat (13 : Int)) 64)))) (Int.fdiv (bitsI .xor .u64 b1202_0 (Wk .u64 (b1202_0 * 2 ^ (min (Int.toNat (13 : Int)) 64)))) (2 ^ (min (Int.toNat (7 : Int)) 64)))) * 2 ^ (min (Int.toNat (17 : Int)) 64)))) (Wk .u64 (x1 - (1 : Int)))))))
 else (some (b0))
def f100_5 (s0 : Int) (s1 : Int) (x1 : Int) : Nat → Int → (List Spot) → Int → Option ((List Spot))
  | 0, _, _, _ => none
  | n + 1, v11, b0, b1202_0 => f100_5b (f100_5 s0 s1 x1 n) s0 s1 x1 v11 b0 b1202_0
def Sf100_5 : Ann := ⟨[0, 1, 8, 9, 10, 11], [0, 1202], [], []⟩
def Vf100_5 (s0 : Int) (s1 : Int) (x1 : Int) (v11 : Int) (b0 : List Spot) (b1202_0 : Int) : List SV := [.rs 0 (List.length b0), .dat (iN s0), .dat (iN (W (s1 - s0))), .ptr 1202 0, .dat (u64N x1), .dat (iN v11)]
def Bf100_5 (s0 : Int) (s1 : Int) (x1 : Int) (v11 : Int) (b0 : List Spot) (b1202_0 : Int) : List Blk := [.row 73 3 (List.map Spot.d b0), .box [.dat (u64N b1202_0)]]
def Yf100_5 (s0 : Int) (s1 : Int) (x1 : Int) (y : Nat × Int × (List Spot) × Int) : List SV := Vf100_5 s0 s1 x1 y.2.1 y.2.2.1 y.2.2.2
def Xf100_5 (s0 : Int) (s1 : Int) (x1 : Int) (y : Nat × Int × (List Spot) × Int) : List Blk := Bf100_5 s0 s1 x1 y.2.1 y.2.2.1 y.2.2.2
def Jf100_5 (s0 : Int) (s1 : Int) (x1 : Int) (r : (List Spot)) (y : Nat × Int × (List Spot) × Int) : Prop := f100_5 s0 s1 x1 y.1 y.2.1 y.2.2.1 y.2.2.2 = some r
def V2f100_5 (s0 : Int) (s1 : Int) (x1 : Int) (v11 : Int) (b0 : List Spot) (b1202_0 : Int) (m0 : Nat) : List SV := [.rs 0 m0, .dat (iN s0), .dat (iN (W (s1 - s0))), .ptr 1202 0, .dat (u64N x1), .dat (iN v11)]
def B2f100_5 (s0 : Int) (s1 : Int) (x1 : Int) (v11 : Int) (b0 : List Spot) (b1202_0 : Int) (m0 : Nat) : List Blk := [.row 73 3 (List.map Spot.d b0), .box [.dat (u64N b1202_0)]]
theorem Lf100_5 {r : (List Spot)} {s0 : Int} {s1 : Int} {x1 : Int} {fu : Nat} {v11 : Int} {b0 : List Spot} {b1202_0 : Int} {m0 : Nat} (hz : Sf100_5.ok p = true) (h0 : AtH Sf100_5 st (V2f100_5 s0 s1 x1 v11 b0 b1202_0 m0) (B2f100_5 s0 s1 x1 v11 b0 b1202_0 m0)) (em0 : m0 = List.length b0) (h : ∀ (n : Nat) (v11 : Int) (b0 : List Spot) (b1202_0 : Int), f100_5b (f100_5 s0 s1 x1 n) s0 s1 x1 v11 b0 b1202_0 = some r → vc c p nid a (St.mk' Sf100_5 (Vf100_5 s0 s1 x1 v11 b0 b1202_0) (Bf100_5 s0 s1 x1 v11 b0 b1202_0)) (Kloop Sf100_5 (Yf100_5 s0 s1 x1) (Xf100_5 s0 s1 x1) (Jf100_5 s0 s1 x1 r) Prod.fst (n + 1, v11, b0, b1202_0) K)) (hF : f100_5 s0 s1 x1 fu v11 b0 b1202_0 = some r) : vc c p nid (.loop a) st K := by
  subst em0; refine vc_loop Sf100_5 (Yf100_5 s0 s1 x1) (Xf100_5 s0 s1 x1) (Jf100_5 s0 s1 x1 r) Prod.fst hz (kheadL (x := (fu, v11, b0, b1202_0)) hF h0) ?_
  rintro ⟨_ | n, v11, b0, b1202_0⟩ hI
  · cases hI
  · exact h n v11 b0 b1202_0 hI
theorem Mf100_5 {r : (List Spot)} {s0 : Int} {s1 : Int} {x1 : Int} {n : Nat} {v11 : Int} {b0 : List Spot} {b1202_0 : Int} {v11_ : Int} {b0_ : List Spot} {b1202_0_ : Int} {m0 : Nat} (hF : f100_5 s0 s1 x1 n v11 b0 b1202_0 = some r) (h0 : AtH Sf100_5 st (V2f100_5 s0 s1 x1 v11 b0 b1202_0 m0) (B2f100_5 s0 s1 x1 v11 b0 b1202_0 m0)) (em0 : m0 = List.length b0) : Kloop Sf100_5 (Yf100_5 s0 s1 x1) (Xf100_5 s0 s1 x1) (Jf100_5 s0 s1 x1 r) Prod.fst (n + 1, v11_, b0_, b1202_0_) K .normal st := by
  subst em0; exact kback (y := (n, v11, b0, b1202_0)) hF (Nat.lt_succ_self n) h0
def f100b (self : Int → Int → (List Spot) → Option ((List Spot))) (N : Nat) (s0 : Int) (s1 : Int) (s2 : List Spot) : Option ((List Spot)) :=
 bif decide ((8 : Int) ≤ (W (s1 - s0))) then ((f110 N (W (s1 - s0))).bind fun x1 =>
 f100_5 s0 s1 x1 N (W ((W (s0 + (W ((W (Int.tdiv (W (s1 - s0)) (4 : Int))) * (2 : Int))))) - (1 : Int))) s2 (Wk .u64 (W (s1 - s0))))
 else (some (s2))
def f100 : Nat → Int → Int → (List Spot) → Option ((List Spot))
  | 0, _, _, _ => none
  | N + 1, s0, s1, s2 => f100b (f100 N) N s0 s1 s2
def Af100 (s0 : Int) (s1 : Int) (s2 : List Spot) : List SV := [.rs 0 (List.length s2), .dat (iN s0), .dat (iN s1), .dat (.v (.func (.func 91) #[] #[]))]
def Bf100 (s0 : Int) (s1 : Int) (s2 : List Spot) : List Blk := [.row 73 3 (List.map Spot.d s2)]
def Rf100 (y : (List Spot)) : List SV := []
def B1f100 (s0 : Int) (s1 : Int) (s2 : List Spot) (y : (List Spot)) : List Blk := [.row 73 3 (List.map Spot.d y)]
def BZf100 (y : (List Spot)) : Blk := .unborn
def Spf100 : Spec (Int × Int × (List Spot)) ((List Spot)) := ⟨1, fun x => Af100 x.1 x.2.1 x.2.2, fun x => Bf100 x.1 x.2.1 x.2.2, fun _ y => Rf100 y, fun x y => B1f100 x.1 x.2.1 x.2.2 y, fun _ y => BZf100 y⟩
def H100 (N : Nat) (x : Int × Int × (List Spot)) (y : (List Spot)) : Prop := f100 N x.1 x.2.1 x.2.2 = some y
def G100 (x : Int × Int × (List Spot)) (y : (List Spot)) : Prop := ∃ N, H100 N x y
theorem H100.step {N : Nat} {s0 : Int} {s1 : Int} {s2 : List Spot} {m0 : Nat} {ρ : Type} {A : (List Spot) → Option ρ} {q : ρ} {xs : List SV} {id : Nat} {m : Nat → Blk} {l : List Loc} {K : Dl → List Loc → Prop} {k0 : Nat} (ha : xs = [.rs k0 m0, .dat (iN s0), .dat (iN s1), .dat (.v (.func (.func 91) #[] #[]))]) (b0 : m k0 = .row 73 3 (List.map Spot.d s2)) (em0 : m0 = List.length s2) (hu : m id = .unborn) (hn : nodupB [k0] = true) (h : ∀ y, A y = some q → K ⟨.tup [], [(k0, .row 73 3 (List.map Spot.d y)), (id, .unborn)]⟩ l) (hF : (f100 N s0 s1 s2).bind A = some q) : effPg Spf100 (H100 N) xs id (fun _ => SV.no) m l K := by
  subst em0; obtain ⟨y, hy, hA⟩ := bind_some hF
  exact eff_step [k0] (s0, s1, s2) y _ hy rfl hn ha (by simp only [List.map_cons, List.map_nil, b0]; rfl) hu rfl rfl (h y hA)
theorem G100.step {N : Nat} {s0 : Int} {s1 : Int} {s2 : List Spot} {m0 : Nat} {ρ : Type} {A : (List Spot) → Option ρ} {q : ρ} {xs : List SV} {id : Nat} {m : Nat → Blk} {l : List Loc} {K : Dl → List Loc → Prop} {k0 : Nat} (ha : xs = [.rs k0 m0, .dat (iN s0), .dat (iN s1), .dat (.v (.func (.func 91) #[] #[]))]) (b0 : m k0 = .row 73 3 (List.map Spot.d s2)) (em0 : m0 = List.length s2) (hu : m id = .unborn) (hn : nodupB [k0] = true) (h : ∀ y, A y = some q → K ⟨.tup [], [(k0, .row 73 3 (List.map Spot.d y)), (id, .unborn)]⟩ l) (hF : (f100 N s0 s1 s2).bind A = some q) : effPg Spf100 (G100) xs id (fun _ => SV.no) m l K := by
  subst em0; obtain ⟨y, hy, hA⟩ := bind_some hF
  exact eff_step [k0] (s0, s1, s2) y _ ⟨N, hy⟩ rfl hn ha (by simp only [List.map_cons, List.map_nil, b0]; rfl) hu rfl rfl (h y hA)
def Srf100 : Ann := ⟨[], [0, 500], [], []⟩
set_option maxRecDepth 20000 in
set_option maxHeartbeats 4000000 in
theorem Q100 (N : Nat) : CallOK Try.prog 100 (effPg Spf100 (H100 N)) := by
  induction N with
  | zero => exact eff_none fun x y h => (by cases (show (none : Option ((List Spot))) = some y from h))
  | succ N ih =>
    refine eff_of_vc (c := mkCtx tyTree [(100, false, effPg Spf100 (H100 N)), (111, false, inlPg (mkCtx tyTree []) Try.f111), (110, true, lendPg [[0]] G110)]) rfl tyOK (ctx_eff (callable Try.func100 rfl rfl) ih (ctx_eff (callable Try.func111 rfl rfl) (CallOK.inl rfl tyOK (ctx_nil) Try.func111 (by kernel_rfl)) (ctx_lend (callable Try.func110 rfl rfl) P110 (ctx_nil)))) 1000 500 Srf100 Try.func100 rfl rfl (by kernel_rfl) rfl rfl rfl rfl rfl (fun _ => rfl) (fun _ => rfl) (fun _ _ => ⟨rfl, rfl⟩) ?_
    rintro ⟨s0, s1, s2⟩ y hF
    have hF : f100b (f100 N) N s0 s1 s2 = some y := hF
    show vc _ _ _ _ ⟨[(0, .rs 0 (List.length s2)), (1, .dat (iN s0)), (2, .dat (iN s1)), (3, .dat (.v (.func (.func 91) #[] #[])))], [(0, .row 73 3 (List.map Spot.d s2))]⟩ _
    unfold f100b at hF
    repeat' (first
      | ((with_reducible refine q0 _ _ ?_); clear Q q0 q1 q2)
      | ((with_reducible refine q1 _ _ _ _ ?_); clear Q q0 q1 q2)
      | ((with_reducible refine q2 _ _ _ ?_); clear Q q0 q1 q2)
      | ((with_reducible refine seq_op ?hx (fun Q q0 q1 q2 => ?_)); (case hx => exact rfl); conv => whnf)
      | ((with_reducible refine draw_op ?hx (fun Q q0 q1 q2 => ?_)); (case hx => exact rfl); conv => whnf)
      | ((with_reducible refine seq_op0 ?hx (fun Q q0 q1 q2 => ?_)); (case hx => exact rfl); conv => whnf)
      | ((with_reducible refine draw_op0 ?hx (fun Q q0 q1 q2 => ?_)); (case hx => exact rfl); conv => whnf)
      | ((with_reducible refine cond_id ?_); (first | ((refine condKT rfl ?hy ?_); (case hy => first | assumption | exact notT (by assumption) | exact rfl)) | ((refine condKF rfl ?hy ?_); (case hy => first | assumption | exact notF (by assumption) | exact rfl)) | (revert hF; (with_reducible refine condF ?hx ?_ ?_); (case hx => exact rfl); all_goals (intro hc hF))))
      | ((with_reducible refine seq_nil ?_); (first | ((with_reducible refine hR _ ?_); clear R hR) | ((with_reducible refine hL _ ?_); clear L hL)))
      | ((with_reducible refine draw_nil ?_); (with_reducible refine hR _ _ ?hx ?_); (case hx => kernel_rfl); (first | clear R hR | clear hR))
      | ((with_reducible refine int_step ?_); conv => whnf)
      | ((with_reducible refine len_step ?_); conv => whnf)
      | ((with_reducible refine idx2 (by assumption) ?_); conv => whnf)
      | ((with_reducible refine idx3 (by assumption) ?_); conv => whnf)
      | with_reducible refine vc_block ?_
      | with_reducible refine vc_skip ?_
      | with_reducible refine vc_ret ?_
      | with_reducible refine vc_exit ?_
      | ((with_reducible refine vc_seqN [1000010] ?hx ?_); (case hx => exact rfl))
      | (with_reducible refine vc_region (fun R hR => ?_))
      | ((with_reducible refine vc_draw ?hx (fun R hR => ?_)); (case hx => exact rfl))
      | fail
      | (revert hF; (refine Cf100_c10 rfl rfl ?_ ?_); (intro hF); rotate_left; (intro v12 hF; unfold f100_c10 at hF); rotate_right)
      | exact Zf100_c10 hF ⟨_, rfl, rfl, rfl, rfl⟩ (by first | exact rfl | assumption | omega)
      | (revert hF; (refine Lf100_5 rfl ⟨_, rfl, rfl, rfl, rfl⟩ (by first | exact rfl | assumption | omega) ?_); intro n v11 b0 b1202_0 hF; unfold f100_5b at hF)
      | exact Mf100_5 hF ⟨_, rfl, rfl, rfl, rfl⟩ (by first | exact rfl | assumption | omega)
      | (revert hF; (with_reducible refine G110.lend ?hx ?_); (case hx => exact rfl); intro v hF; conv => whnf)
      | (revert hF; (refine H100.step rfl rfl (by first | exact rfl | assumption | omega) rfl ?hn ?_); (case hn => exact rfl); intro v hF; conv => whnf)
      | (show retE _ _ _ _ _ _; conv => whnf)
      | (cases hF; exact ⟨rfl, rfl, rfl⟩)
      | with_reducible refine k_seq_ret ?_
      | with_reducible refine k_seq_exit ?_
      | with_reducible refine k_blk ?_
      | with_reducible refine k_blk_ret ?_
      | with_reducible refine k_blk_here ?_
      | ((with_reducible refine k_blk_out ?hx ?_); (case hx => exact rfl))
      | with_reducible refine k_loop_ret ?_
      | with_reducible refine k_loop_exit ?_
      | (revert hF; (with_reducible refine idx1 ?hn ?_); (case hn => first | exact rfl | exact (List.length_map _) | assumption | omega | simp); intro x hx hF; conv => whnf)
      | ((refine row_all ?hn ?_); (case hn => first | exact rfl | (simp; done) | (simp; omega)); conv => whnf)
      | ((with_reducible refine le_step ?hn ?_); (case hn => first | exact rfl | assumption | omega); conv => whnf)
      | ((with_reducible have hG := setx_fact hF); clear hF; (refine setx_step hG ?hs (fun q hl hF => ?_)); (case hs => exact rfl); clear hG; conv => whnf)
      | ((refine ⟨?hx, ?_⟩); (case hx => exact ⟨rfl, Nat.le_of_ble_eq_true rfl, rfl⟩); conv => whnf)
      | ((with_reducible refine ex_step ?_); conv => whnf)
      | ((with_reducible refine both_T ?hx ?_); (case hx => first | exact rfl | assumption | exact notT (by assumption)); conv => whnf)
      | ((with_reducible refine both_F ?hx ?_); (case hx => first | exact rfl | assumption | exact notF (by assumption)); conv => whnf)
      | (revert hF; (with_reducible refine ite_step ?_ ?_) <;> (intro hc hF; conv => whnf))
      | ((with_reducible refine vc_condT ?hx ?_); (case hx => exact rfl))
      | ((with_reducible refine vc_condF ?hx ?_); (case hx => exact rfl))
      | (show retD _ _ _ _ _ _; conv => whnf)
      | ((refine inl_step ?ha ?hb ?hc rfl ?_); (case ha => exact rfl); (case hb => omega); (case hc => exact Nat.le_of_ble_eq_true rfl))
      | (show Kinl _ _ _ _ _ _ _; conv => whnf)
      | ((with_reducible refine kinl_step ?ha ?hb ?_); (case ha => exact rfl); (case hb => exact rfl); conv => whnf)
      | ((refine ⟨?hx, trivial⟩); (case hx => (cases hF; exact rfl)))
      | ((refine ⟨?hx, ?_⟩); (case hx => decide); conv => whnf)
      | ((with_reducible refine k_seq ?_))
      | (have hF : (none : Option _) = some _ := hF; cases hF))
theorem P100 : CallOK Try.prog 100 (effPg Spf100 G100) := eff_ex Q100
end
end Go.Vc
namespace Go.Vc
open Go.Proofs
set_option linter.unusedVariables false
set_option linter.unnecessarySimpa false
set_option linter.unusedSimpArgs false
section
variable {c : Ctx} {p nid : Nat} {a b : Code} {st : St} {K : Ex → St → Prop}
/- f114: slices.order2CmpFunc[tusche/serial.Spot] -/
def f114b (self : Int → Int → (List Spot) → Int → Option (Int × Int × Int)) (N : Nat) (s0 : Int) (s1 : Int) (s2 : List Spot) (s3 : Int) : Option (Int × Int × Int) :=
 (ix s2 s1).bind fun x1 =>
 (ix s2 s0).bind fun x2 =>
 (f91 N x1 x2).bind fun x3 =>
 bif decide (x3 < (0 : Int)) then (some (s1, s0, W (s3 + (1 : Int))))
 else (some (s0, s1, s3))
def f114 : Nat → Int → Int → (List Spot) → Int → Option (Int × Int × Int)
  | 0, _, _, _, _ => none
  | N + 1, s0, s1, s2, s3 => f114b (f114 N) N s0 s1 s2 s3
def Af114 (s0 : Int) (s1 : Int) (s2 : List Spot) (s3 : Int) : List SV := [.rs 0 (List.length s2), .dat (iN s0), .dat (iN s1), .ptr 1 0, .dat (.v (.func (.func 91) #[] #[]))]
def Bf114 (s0 : Int) (s1 : Int) (s2 : List Spot) (s3 : Int) : List Blk := [.row 73 3 (List.map Spot.d s2), .box [.dat (iN s3)]]
def Rf114 (y : Int × Int × Int) : List SV := [.dat (iN y.1), .dat (iN y.2.1)]
def B1f114 (s0 : Int) (s1 : Int) (s2 : List Spot) (s3 : Int) (y : Int × Int × Int) : List Blk := [.row 73 3 (List.map Spot.d s2), .box [.dat (iN y.2.2)]]
def BZf114 (y : Int × Int × Int) : Blk := .unborn
def Spf114 : Spec (Int × Int × (List Spot) × Int) (Int × Int × Int) := ⟨2, fun x => Af114 x.1 x.2.1 x.2.2.1 x.2.2.2, fun x => Bf114 x.1 x.2.1 x.2.2.1 x.2.2.2, fun _ y => Rf114 y, fun x y => B1f114 x.1 x.2.1 x.2.2.1 x.2.2.2 y, fun _ y => BZf114 y⟩
def H114 (N : Nat) (x : Int × Int × (List Spot) × Int) (y : Int × Int × Int) : Prop := f114 N x.1 x.2.1 x.2.2.1 x.2.2.2 = some y
def G114 (x : Int × Int × (List Spot) × Int) (y : Int × Int × Int) : Prop := ∃ N, H114 N x y
theorem H114.step {N : Nat} {s0 : Int} {s1 : Int} {s2 : List Spot} {s3 : Int} {m0 : Nat} {ρ : Type} {A : (Int × Int × Int) → Option ρ} {q : ρ} {xs : List SV} {id : Nat} {m : Nat → Blk} {l : List Loc} {K : Dl → List Loc → Prop} {k0 k1 : Nat} (ha : xs = [.rs k0 m0, .dat (iN s0), .dat (iN s1), .ptr k1 0, .dat (.v (.func (.func 91) #[] #[]))]) (b0 : m k0 = .row 73 3 (List.map Spot.d s2)) (b1 : m k1 = .box [.dat (iN s3)]) (em0 : m0 = List.length s2) (hu : m id = .unborn) (hn : nodupB [k0, k1] = true) (h : ∀ y, A y = some q → K ⟨.tup [.dat (iN y.1), .dat (iN y.2.1)], [(k0, .row 73 3 (List.map Spot.d s2)), (k1, .box [.dat (iN y.2.2)]), (id, .unborn)]⟩ l) (hF : (f114 N s0 s1 s2 s3).bind A = some q) : effPg Spf114 (H114 N) xs id (fun _ => SV.no) m l K := by
  subst em0; obtain ⟨y, hy, hA⟩ := bind_some hF
  exact eff_step [k0, k1] (s0, s1, s2, s3) y _ hy rfl hn ha (by simp only [List.map_cons, List.map_nil, b0, b1]; rfl) hu rfl rfl (h y hA)
theorem G114.step {N : Nat} {s0 : Int} {s1 : Int} {s2 : List Spot} {s3 : Int} {m0 : Nat} {ρ : Type} {A : (Int × Int × Int) → Option ρ} {q : ρ} {xs : List SV} {id : Nat} {m : Nat → Blk} {l : List Loc} {K : Dl → List Loc → Prop} {k0 k1 : Nat} (ha : xs = [.rs k0 m0, .dat (iN s0), .dat (iN s1), .ptr k1 0, .dat (.v (.func (.func 91) #[] #[]))]) (b0 : m k0 = .row 73 3 (List.map Spot.d s2)) (b1 : m k1 = .box [.dat (iN s3)]) (em0 : m0 = List.length s2) (hu : m id = .unborn) (hn : nodupB [k0, k1] = true) (h : ∀ y, A y = some q → K ⟨.tup [.dat (iN y.1), .dat (iN y.2.1)], [(k0, .row 73 3 (List.map Spot.d s2)), (k1, .box [.dat (iN y.2.2)]), (id, .unborn)]⟩ l) (hF : (f114 N s0 s1 s2 s3).bind A = some q) : effPg Spf114 (G114) xs id (fun _ => SV.no) m l K := by
  subst em0; obtain ⟨y, hy, hA⟩ := bind_some hF
  exact eff_step [k0, k1] (s0, s1, s2, s3) y _ ⟨N, hy⟩ rfl hn ha (by simp only [List.map_cons, List.map_nil, b0, b1]; rfl) hu rfl rfl (h y hA)
def Srf114 : Ann := ⟨[0, 1], [0, 1, 500], [], []⟩
set_option maxRecDepth 20000 in
set_option maxHeartbeats 4000000 in
theorem Q114 (N : Nat) : CallOK Try.prog 114 (effPg Spf114 (H114 N)) := by
  induction N with
  | zero => exact eff_none fun x y h => (by cases (show (none : Option (Int × Int × Int)) = some y from h))
  | succ N ih =>
    refine eff_of_vc (c := mkCtx tyTree [(114, false, effPg Spf114 (H114 N)), (91, true, lendPg [[0, 0, 0], [0, 0, 0]] G91)]) rfl tyOK (ctx_eff (callable Try.func114 rfl rfl) ih (ctx_lend (callable Try.func91 rfl rfl) P91 (ctx_nil))) 1000 500 Srf114 Try.func114 rfl rfl (by kernel_rfl) rfl rfl rfl rfl rfl (fun _ => rfl) (fun _ => rfl) (fun _ _ => ⟨rfl, rfl⟩) ?_
    rintro ⟨s0, s1, s2, s3⟩ y hF
    have hF : f114b (f114 N) N s0 s1 s2 s3 = some y := hF
    show vc _ _ _ _ ⟨[(0, .rs 0 (List.length s2)), (1, .dat (iN s0)), (2, .dat (iN s1)), (3, .ptr 1 0), (4, .dat (.v (.func (.func 91) #[] #[])))], [(0, .row 73 3 (List.map Spot.d s2)), (1, .box [.dat (iN s3)])]⟩ _
    unfold f114b at hF
    repeat' (first
      | ((with_reducible refine q0 _ _ ?_); clear Q q0 q1 q2)
      | ((with_reducible refine q1 _ _ _ _ ?_); clear Q q0 q1 q2)
      | ((with_reducible refine q2 _ _ _ ?_); clear Q q0 q1 q2)
      | ((with_reducible refine seq_op ?hx (fun Q q0 q1 q2 => ?_)); (case hx => exact rfl); conv => whnf)
      | ((with_reducible refine draw_op ?hx (fun Q q0 q1 q2 => ?_)); (case hx => exact rfl); conv => whnf)
      | ((with_reducible refine seq_op0 ?hx (fun Q q0 q1 q2 => ?_)); (case hx => exact rfl); conv => whnf)
      | ((with_reducible refine draw_op0 ?hx (fun Q q0 q1 q2 => ?_)); (case hx => exact rfl); conv => whnf)
      | ((with_reducible refine cond_id ?_); (first | ((refine condKT rfl ?hy ?_); (case hy => first | assumption | exact notT (by assumption) | exact rfl)) | ((refine condKF rfl ?hy ?_); (case hy => first | assumption | exact notF (by assumption) | exact rfl)) | (revert hF; (with_reducible refine condF ?hx ?_ ?_); (case hx => exact rfl); all_goals (intro hc hF))))
      | ((with_reducible refine seq_nil ?_); (first | ((with_reducible refine hR _ ?_); clear R hR) | ((with_reducible refine hL _ ?_); clear L hL)))
      | ((with_reducible refine draw_nil ?_); (with_reducible refine hR _ _ ?hx ?_); (case hx => kernel_rfl); (first | clear R hR | clear hR))
      | ((with_reducible refine int_step ?_); conv => whnf)
      | ((with_reducible refine len_step ?_); conv => whnf)
      | ((with_reducible refine idx2 (by assumption) ?_); conv => whnf)
      | ((with_reducible refine idx3 (by assumption) ?_); conv => whnf)
      | with_reducible refine vc_block ?_
      | with_reducible refine vc_skip ?_
      | with_reducible refine vc_ret ?_
      | with_reducible refine vc_exit ?_
      | ((with_reducible refine vc_seqN [] ?hx ?_); (case hx => exact rfl))
      | (with_reducible refine vc_region (fun R hR => ?_))
      | ((with_reducible refine vc_draw ?hx (fun R hR => ?_)); (case hx => exact rfl))
      | fail
      | (revert hF; (with_reducible refine G91.lend ?hx ?_); (case hx => exact rfl); intro v hF; conv => whnf)
      | (revert hF; (refine H114.step rfl rfl rfl (by first | exact rfl | assumption | omega) rfl ?hn ?_); (case hn => exact rfl); intro v hF; conv => whnf)
      | (show retE _ _ _ _ _ _; conv => whnf)
      | (cases hF; exact ⟨rfl, rfl, rfl⟩)
      | with_reducible refine k_seq_ret ?_
      | with_reducible refine k_seq_exit ?_
      | with_reducible refine k_blk ?_
      | with_reducible refine k_blk_ret ?_
      | with_reducible refine k_blk_here ?_
      | ((with_reducible refine k_blk_out ?hx ?_); (case hx => exact rfl))
      | (revert hF; (with_reducible refine idx1 ?hn ?_); (case hn => first | exact rfl | exact (List.length_map _) | assumption | omega | simp); intro x hx hF; conv => whnf)
      | ((refine row_all ?hn ?_); (case hn => first | exact rfl | (simp; done) | (simp; omega)); conv => whnf)
      | ((with_reducible refine le_step ?hn ?_); (case hn => first | exact rfl | assumption | omega); conv => whnf)
      | ((refine ⟨?hx, ?_⟩); (case hx => exact ⟨rfl, Nat.le_of_ble_eq_true rfl, rfl⟩); conv => whnf)
      | ((with_reducible refine ex_step ?_); conv => whnf)
      | ((with_reducible refine both_T ?hx ?_); (case hx => first | exact rfl | assumption | exact notT (by assumption)); conv => whnf)
      | ((with_reducible refine both_F ?hx ?_); (case hx => first | exact rfl | assumption | exact notF (by assumption)); conv => whnf)
      | (revert hF; (with_reducible refine ite_step ?_ ?_) <;> (intro hc hF; conv => whnf))
      | ((with_reducible refine vc_condT ?hx ?_); (case hx => exact rfl))
      | ((with_reducible refine vc_condF ?hx ?_); (case hx => exact rfl))
      | (show retD _ _ _ _ _ _; conv => whnf)
      | ((refine ⟨?hx, trivial⟩); (case hx => (cases hF; exact rfl)))
      | ((refine ⟨?hx, ?_⟩); (case hx => decide); conv => whnf)
      | ((with_reducible refine k_seq ?_))
      | (have hF : (none : Option _) = some _ := hF; cases hF))
theorem P114 : CallOK Try.prog 114 (effPg Spf114 G114) := eff_ex Q114
end
end Go.Vc
namespace Go.Vc
open Go.Proofs
set_option linter.unusedVariables false
set_option linter.unnecessarySimpa false
set_option linter.unusedSimpArgs false
section
variable {c : Ctx} {p nid : Nat} {a b : Code} {st : St} {K : Ex → St → Prop}
/- f113: slices.medianCmpFunc[tusche/serial.Spot] -/
def f113b (self : Int → Int → Int → (List Spot) → Int → Option (Int × Int)) (N : Nat) (s0 : Int) (s1 : Int) (s2 : Int) (s3 : List Spot) (s4 : Int) : Option (Int × Int) :=
 (f114 N s0 s1 s3 s4).bind fun x1 =>
 (f114 N x1.2.1 s2 s3 x1.2.2).bind fun x2 =>
 (f114 N x1.1 x2.1 s3 x2.2.2).bind fun x3 =>
 some (x3.2.1, x3.2.2)
def f113 : Nat → Int → Int → Int → (List Spot) → Int → Option (Int × Int)
  | 0, _, _, _, _, _ => none
  | N + 1, s0, s1, s2, s3, s4 => f113b (f113 N) N s0 s1 s2 s3 s4
def Af113 (s0 : Int) (s1 : Int) (s2 : Int) (s3 : List Spot) (s4 : Int) : List SV := [.rs 0 (List.length s3), .dat (iN s0), .dat (iN s1), .dat (iN s2), .ptr 1 0, .dat (.v (.func (.func 91) #[] #[]))]
def Bf113 (s0 : Int) (s1 : Int) (s2 : Int) (s3 : List Spot) (s4 : Int) : List Blk := [.row 73 3 (List.map Spot.d s3), .box [.dat (iN s4)]]
def Rf113 (y : Int × Int) : List SV := [.dat (iN y.1)]
def B1f113 (s0 : Int) (s1 : Int) (s2 : Int) (s3 : List Spot) (s4 : Int) (y : Int × Int) : List Blk := [.row 73 3 (List.map Spot.d s3), .box [.dat (iN y.2)]]
def BZf113 (y : Int × Int) : Blk := .unborn
def Spf113 : Spec (Int × Int × Int × (List Spot) × Int) (Int × Int) := ⟨2, fun x => Af113 x.1 x.2.1 x.2.2.1 x.2.2.2.1 x.2.2.2.2, fun x => Bf113 x.1 x.2.1 x.2.2.1 x.2.2.2.1 x.2.2.2.2, fun _ y => Rf113 y, fun x y => B1f113 x.1 x.2.1 x.2.2.1 x.2.2.2.1 x.2.2.2.2 y, fun _ y => BZf113 y⟩
def H113 (N : Nat) (x : Int × Int × Int × (List Spot) × Int) (y : Int × Int) : Prop := f113 N x.1 x.2.1 x.2.2.1 x.2.2.2.1 x.2.2.2.2 = some y
def G113 (x : Int × Int × Int × (List Spot) × Int) (y : Int × Int) : Prop := ∃ N, H113 N x y
theorem H113.step {N : Nat} {s0 : Int} {s1 : Int} {s2 : Int} {s3 : List Spot} {s4 : Int} {m0 : Nat} {ρ : Type} {A : (Int × Int) → Option ρ} {q : ρ} {xs : List SV} {id : Nat} {m : Nat → Blk} {l : List Loc} {K : Dl → List Loc → Prop} {k0 k1 : Nat} (ha : xs = [.rs k0 m0, .dat (iN s0), .dat (iN s1), .dat (iN s2), .ptr k1 0, .dat (.v (.func (.func 91) #[] #[]))]) (b0 : m k0 = .row 73 3 (List.map Spot.d s3)) (b1 : m k1 = .box [.dat (iN s4)]) (em0 : m0 = List.length s3) (hu : m id = .unborn) (hn : nodupB [k0, k1] = true) (h : ∀ y, A y = some q → K ⟨.dat (iN y.1), [(k0, .row 73 3 (List.map Spot.d s3)), (k1, .box [.dat (iN y.2)]), (id, .unborn)]⟩ l) (hF : (f113 N s0 s1 s2 s3 s4).bind A = some q) : effPg Spf113 (H113 N) xs id (fun _ => SV.no) m l K := by
  subst em0; obtain ⟨y, hy, hA⟩ := bind_some hF
  exact eff_step [k0, k1] (s0, s1, s2, s3, s4) y _ hy rfl hn ha (by simp only [List.map_cons, List.map_nil, b0, b1]; rfl) hu rfl rfl (h y hA)
theorem G113.step {N : Nat} {s0 : Int} {s1 : Int} {s2 : Int} {s3 : List Spot} {s4 : Int} {m0 : Nat} {ρ : Type} {A : (Int × Int) → Option ρ} {q : ρ} {xs : List SV} {id : Nat} {m : Nat → Blk} {l : List Loc} {K : Dl → List Loc → Prop} {k0 k1 : Nat} (ha : xs = [.rs k0 m0, .dat (iN s0), .dat (iN s1), .dat (iN s2), .ptr k1 0, .dat (.v (.func (.func 91) #[] #[]))]) (b0 : m k0 = .row 73 3 (List.map Spot.d s3)) (b1 : m k1 = .box [.dat (iN s4)]) (em0 : m0 = List.length s3) (hu : m id = .unborn) (hn : nodupB [k0, k1] = true) (h : ∀ y, A y = some q → K ⟨.dat (iN y.1), [(k0, .row 73 3 (List.map Spot.d s3)), (k1, .box [.dat (iN y.2)]), (id, .unborn)]⟩ l) (hF : (f113 N s0 s1 s2 s3 s4).bind A = some q) : effPg Spf113 (G113) xs id (fun _ => SV.no) m l K := by
  subst em0; obtain ⟨y, hy, hA⟩ := bind_some hF
  exact eff_step [k0, k1] (s0, s1, s2, s3, s4) y _ ⟨N, hy⟩ rfl hn ha (by simp only [List.map_cons, List.map_nil, b0, b1]; rfl) hu rfl rfl (h y hA)
def Srf113 : Ann := ⟨[0], [0, 1, 500], [], []⟩
set_option maxRecDepth 20000 in
set_option maxHeartbeats 4000000 in
theorem Q113 (N : Nat) : CallOK Try.prog 113 (effPg Spf113 (H113 N)) := by
  induction N with
  | zero => exact eff_none fun x y h => (by cases (show (none : Option (Int × Int)) = some y from h))
  | succ N ih =>
    refine eff_of_vc (c := mkCtx tyTree [(113, false, effPg Spf113 (H113 N)), (114, false, effPg Spf114 G114)]) rfl tyOK (ctx_eff (callable Try.func113 rfl rfl) ih (ctx_eff (callable Try.func114 rfl rfl) P114 (ctx_nil))) 1000 500 Srf113 Try.func113 rfl rfl (by kernel_rfl) rfl rfl rfl rfl rfl (fun _ => rfl) (fun _ => rfl) (fun _ _ => ⟨rfl, rfl⟩) ?_
    rintro ⟨s0, s1, s2, s3, s4⟩ y hF
    have hF : f113b (f113 N) N s0 s1 s2 s3 s4 = some y := hF
    show vc _ _ _ _ ⟨[(0, .rs 0 (List.length s3)), (1, .dat (iN s0)), (2, .dat (iN s1)), (3, .dat (iN s2)), (4, .ptr 1 0), (5, .dat (.v (.func (.func 91) #[] #[])))], [(0, .row 73 3 (List.map Spot.d s3)), (1, .box [.dat (iN s4)])]⟩ _
    unfold f113b at hF
    repeat' (first
      | ((with_reducible refine q0 _ _ ?_); clear Q q0 q1 q2)
      | ((with_reducible refine q1 _ _ _ _ ?_); clear Q q0 q1 q2)
      | ((with_reducible refine q2 _ _ _ ?_); clear Q q0 q1 q2)
      | ((with_reducible refine seq_op ?hx (fun Q q0 q1 q2 => ?_)); (case hx => exact rfl); conv => whnf)
      | ((with_reducible refine seq_nil ?_); (first | ((with_reducible refine hR _ ?_); clear R hR) | ((with_reducible refine hL _ ?_); clear L hL)))
      | ((with_reducible refine int_step ?_); conv => whnf)
      | ((with_reducible refine len_step ?_); conv => whnf)
      | with_reducible refine vc_skip ?_
      | with_reducible refine vc_ret ?_
      | ((with_reducible refine vc_seqN [] ?hx ?_); (case hx => exact rfl))
      | (with_reducible refine vc_region (fun R hR => ?_))
      | fail
      | (revert hF; (refine G114.step rfl rfl rfl (by first | exact rfl | assumption | omega) rfl ?hn ?_); (case hn => exact rfl); intro v hF; conv => whnf)
      | (revert hF; (refine H113.step rfl rfl rfl (by first | exact rfl | assumption | omega) rfl ?hn ?_); (case hn => exact rfl); intro v hF; conv => whnf)
      | (show retE _ _ _ _ _ _; conv => whnf)
      | (cases hF; exact ⟨rfl, rfl, rfl⟩)
      | with_reducible refine k_seq_ret ?_
      | ((refine row_all ?hn ?_); (case hn => first | exact rfl | (simp; done) | (simp; omega)); conv => whnf)
      | ((with_reducible refine le_step ?hn ?_); (case hn => first | exact rfl | assumption | omega); conv => whnf)
      | ((refine ⟨?hx, ?_⟩); (case hx => exact ⟨rfl, Nat.le_of_ble_eq_true rfl, rfl⟩); conv => whnf)
      | ((with_reducible refine ex_step ?_); conv => whnf)
      | ((with_reducible refine both_T ?hx ?_); (case hx => first | exact rfl | assumption | exact notT (by assumption)); conv => whnf)
      | ((with_reducible refine both_F ?hx ?_); (case hx => first | exact rfl | assumption | exact notF (by assumption)); conv => whnf)
      | (revert hF; (with_reducible refine ite_step ?_ ?_) <;> (intro hc hF; conv => whnf))
      | (show retD _ _ _ _ _ _; conv => whnf)
      | ((refine ⟨?hx, trivial⟩); (case hx => (cases hF; exact rfl)))
      | ((refine ⟨?hx, ?_⟩); (case hx => decide); conv => whnf)
      | ((with_reducible refine k_seq ?_))
      | (have hF : (none : Option _) = some _ := hF; cases hF))
theorem P113 : CallOK Try.prog 113 (effPg Spf113 G113) := eff_ex Q113
end
end Go.Vc
namespace Go.Vc
open Go.Proofs
set_option linter.unusedVariables false
set_option linter.unnecessarySimpa false
set_option linter.unusedSimpArgs false
section
variable {c : Ctx} {p nid : Nat} {a b : Code} {st : St} {K : Ex → St → Prop}
/- f112: slices.medianAdjacentCmpFunc[tusche/serial.Spot] -/
def f112b (self : Int → (List Spot) → Int → Option (Int × Int)) (N : Nat) (s0 : Int) (s1 : List Spot) (s2 : Int) : Option (Int × Int) :=
 (f113 N (W (s0 - (1 : Int))) s0 (W (s0 + (1 : Int))) s1 s2).bind fun x1 =>
 some (x1.1, x1.2)
def f112 : Nat → Int → (List Spot) → Int → Option (Int × Int)
  | 0, _, _, _ => none
  | N + 1, s0, s1, s2 => f112b (f112 N) N s0 s1 s2
def Af112 (s0 : Int) (s1 : List Spot) (s2 : Int) : List SV := [.rs 0 (List.length s1), .dat (iN s0), .ptr 1 0, .dat (.v (.func (.func 91) #[] #[]))]
def Bf112 (s0 : Int) (s1 : List Spot) (s2 : Int) : List Blk := [.row 73 3 (List.map Spot.d s1), .box [.dat (iN s2)]]
def Rf112 (y : Int × Int) : List SV := [.dat (iN y.1)]
def B1f112 (s0 : Int) (s1 : List Spot) (s2 : Int) (y : Int × Int) : List Blk := [.row 73 3 (List.map Spot.d s1), .box [.dat (iN y.2)]]
def BZf112 (y : Int × Int) : Blk := .unborn
def Spf112 : Spec (Int × (List Spot) × Int) (Int × Int) := ⟨2, fun x => Af112 x.1 x.2.1 x.2.2, fun x => Bf112 x.1 x.2.1 x.2.2, fun _ y => Rf112 y, fun x y => B1f112 x.1 x.2.1 x.2.2 y, fun _ y => BZf112 y⟩
def H112 (N : Nat) (x : Int × (List Spot) × Int) (y : Int × Int) : Prop := f112 N x.1 x.2.1 x.2.2 = some y
def G112 (x : Int × (List Spot) × Int) (y : Int × Int) : Prop := ∃ N, H112 N x y
theorem H112.step {N : Nat} {s0 : Int} {s1 : List Spot} {s2 : Int} {m0 : Nat} {ρ : Type} {A : (Int × Int) → Option ρ} {q : ρ} {xs : List SV} {id : Nat} {m : Nat → Blk} {l : List Loc} {K : Dl → List Loc → Prop} {k0 k1 : Nat} (ha : xs = [.rs k0 m0, .dat (iN s0), .ptr k1 0, .dat (.v (.func (.func 91) #[] #[]))]) (b0 : m k0 = .row 73 3 (List.map Spot.d s1)) (b1 : m k1 = .box [.dat (iN s2)]) (em0 : m0 = List.length s1) (hu : m id = .unborn) (hn : nodupB [k0, k1] = true) (h : ∀ y, A y = some q → K ⟨.dat (iN y.1), [(k0, .row 73 3 (List.map Spot.d s1)), (k1, .box [.dat (iN y.2)]), (id, .unborn)]⟩ l) (hF : (f112 N s0 s1 s2).bind A = some q) : effPg Spf112 (H112 N) xs id (fun _ => SV.no) m l K := by
  subst em0; obtain ⟨y, hy, hA⟩ := bind_some hF
  exact eff_step [k0, k1] (s0, s1, s2) y _ hy rfl hn ha (by simp only [List.map_cons, List.map_nil, b0, b1]; rfl) hu rfl rfl (h y hA)
theorem G112.step {N : Nat} {s0 : Int} {s1 : List Spot} {s2 : Int} {m0 : Nat} {ρ : Type} {A : (Int × Int) → Option ρ} {q : ρ} {xs : List SV} {id : Nat} {m : Nat → Blk} {l : List Loc} {K : Dl → List Loc → Prop} {k0 k1 : Nat} (ha : xs = [.rs k0 m0, .dat (iN s0), .ptr k1 0, .dat (.v (.func (.func 91) #[] #[]))]) (b0 : m k0 = .row 73 3 (List.map Spot.d s1)) (b1 : m k1 = .box [.dat (iN s2)]) (em0 : m0 = List.length s1) (hu : m id = .unborn) (hn : nodupB [k0, k1] = true) (h : ∀ y, A y = some q → K ⟨.dat (iN y.1), [(k0, .row 73 3 (List.map Spot.d s1)), (k1, .box [.dat (iN y.2)]), (id, .unborn)]⟩ l) (hF : (f112 N s0 s1 s2).bind A = some q) : effPg Spf112 (G112) xs id (fun _ => SV.no) m l K := by
  subst em0; obtain ⟨y, hy, hA⟩ := bind_some hF
  exact eff_step [k0, k1] (s0, s1, s2) y _ ⟨N, hy⟩ rfl hn ha (by simp only [List.map_cons, List.map_nil, b0, b1]; rfl) hu rfl rfl (h y hA)
def Srf112 : Ann := ⟨[0], [0, 1, 500], [], []⟩
set_option maxRecDepth 20000 in
set_option maxHeartbeats 4000000 in
theorem Q112 (N : Nat) : CallOK Try.prog 112 (effPg Spf112 (H112 N)) := by
  induction N with
  | zero => exact eff_none fun x y h => (by cases (show (none : Option (Int × Int)) = some y from h))
  | succ N ih =>
    refine eff_of_vc (c := mkCtx tyTree [(112, false, effPg Spf112 (H112 N)), (113, false, effPg Spf113 G113)]) rfl tyOK (ctx_eff (callable Try.func112 rfl rfl) ih (ctx_eff (callable Try.func113 rfl rfl) P113 (ctx_nil))) 1000 500 Srf112 Try.func112 rfl rfl (by kernel_rfl) rfl rfl rfl rfl rfl (fun _ => rfl) (fun _ => rfl) (fun _ _ => ⟨rfl, rfl⟩) ?_
    rintro ⟨s0, s1, s2⟩ y hF
    have hF : f112b (f112 N) N s0 s1 s2 = some y := hF
    show vc _ _ _ _ ⟨[(0, .rs 0 (List.length s1)), (1, .dat (iN s0)), (2, .ptr 1 0), (3, .dat (.v (.func (.func 91) #[] #[])))], [(0, .row 73 3 (List.map Spot.d s1)), (1, .box [.dat (iN s2)])]⟩ _
    unfold f112b at hF
    repeat' (first
      | ((with_reducible refine q0 _ _ ?_); clear Q q0 q1 q2)
      | ((with_reducible refine q1 _ _ _ _ ?_); clear Q q0 q1 q2)
      | ((with_reducible refine q2 _ _ _ ?_); clear Q q0 q1 q2)
      | ((with_reducible refine seq_op ?hx (fun Q q0 q1 q2 => ?_)); (case hx => exact rfl); conv => whnf)
      | ((with_reducible refine seq_nil ?_); (first | ((with_reducible refine hR _ ?_); clear R hR) | ((with_reducible refine hL _ ?_); clear L hL)))
      | ((with_reducible refine int_step ?_); conv => whnf)
      | ((with_reducible refine len_step ?_); conv => whnf)
      | with_reducible refine vc_skip ?_
      | with_reducible refine vc_ret ?_
      | ((with_reducible refine vc_seqN [] ?hx ?_); (case hx => exact rfl))
      | (with_reducible refine vc_region (fun R hR => ?_))
      | fail
      | (revert hF; (refine G113.step rfl rfl rfl (by first | exact rfl | assumption | omega) rfl ?hn ?_); (case hn => exact rfl); intro v hF; conv => whnf)
      | (revert hF; (refine H112.step rfl rfl rfl (by first | exact rfl | assumption | omega) rfl ?hn ?_); (case hn => exact rfl); intro v hF; conv => whnf)
      | (show retE _ _ _ _ _ _; conv => whnf)
      | (cases hF; exact ⟨rfl, rfl, rfl⟩)
      | with_reducible refine k_seq_ret ?_
      | ((refine row_all ?hn ?_); (case hn => first | exact rfl | (simp; done) | (simp; omega)); conv => whnf)
      | ((with_reducible refine le_step ?hn ?_); (case hn => first | exact rfl | assumption | omega); conv => whnf)
      | ((refine ⟨?hx, ?_⟩); (case hx => exact ⟨rfl, Nat.le_of_ble_eq_true rfl, rfl⟩); conv => whnf)
      | ((with_reducible refine ex_step ?_); conv => whnf)
      | ((with_reducible refine both_T ?hx ?_); (case hx => first | exact rfl | assumption | exact notT (by assumption)); conv => whnf)
      | ((with_reducible refine both_F ?hx ?_); (case hx => first | exact rfl | assumption | exact notF (by assumption)); conv => whnf)
      | (revert hF; (with_reducible refine ite_step ?_ ?_) <;> (intro hc hF; conv => whnf))
      | (show retD _ _ _ _ _ _; conv => whnf)
      | ((refine ⟨?hx, trivial⟩); (case hx => (cases hF; exact rfl)))
      | ((refine ⟨?hx, ?_⟩); (case hx => decide); conv => whnf)
      | ((with_reducible refine k_seq ?_))
      | (have hF : (none : Option _) = some _ := hF; cases hF))
theorem P112 : CallOK Try.prog 112 (effPg Spf112 G112) := eff_ex Q112
end
end Go.Vc
namespace Go.Vc
open Go.Proofs
set_option linter.unusedVariables false
set_option linter.unnecessarySimpa false
set_option linter.unusedSimpArgs false
section
variable {c : Ctx} {p nid : Nat} {a b : Code} {st : St} {K : Ex → St → Prop}
/- f101: slices.choosePivotCmpFunc[tusche/serial.Spot] -/
def f101_c12 (s2 : List Spot) (j13 : Int) (b1200_0 : Int) : Option (Int × Int) :=
 bif decide (b1200_0 = (0 : Int)) then (some (j13, (1 : Int)))
 else (bif decide (b1200_0 = (12 : Int)) then (some (j13, (2 : Int)))
 else (some (j13, (0 : Int))))
def Sf101_c12 : Ann := ⟨[11, 13], [0, 1200], [], []⟩
def Vf101_c12 (s2 : List Spot) (j13 : Int) (b1200_0 : Int) : List SV := [.ptr 1200 0, .dat (iN j13)]
def Bf101_c12 (s2 : List Spot) (j13 : Int) (b1200_0 : Int) : List Blk := [.row 73 3 (List.map Spot.d s2), .box [.dat (iN b1200_0)]]
def Yf101_c12 (s2 : List Spot) (y : Int × Int) : List SV := Vf101_c12 s2 y.1 y.2
def Xf101_c12 (s2 : List Spot) (y : Int × Int) : List Blk := Bf101_c12 s2 y.1 y.2
def Jf101_c12 (s2 : List Spot) (r : Int × Int) (y : Int × Int) : Prop := f101_c12 s2 y.1 y.2 = some r
theorem Cf101_c12 {r : Int × Int} {s2 : List Spot} {g : _ → Option (Int × Int)} (hn : Nat.beq (nid * 1000 + firstRegion b) 1000012 = true) (hz : Sf101_c12.ok p = true) (h : g (f101_c12 s2) = some r → vc c p nid a st (KHead Sf101_c12 (Yf101_c12 s2) (Xf101_c12 s2) (Jf101_c12 s2 r) K)) (h2 : ∀ (j13 : Int) (b1200_0 : Int), f101_c12 s2 j13 b1200_0 = some r → vc c p nid b (St.mk' Sf101_c12 (Vf101_c12 s2 j13 b1200_0) (Bf101_c12 s2 j13 b1200_0)) K) (hF : joinK (f101_c12 s2) g = some r) : vc c p nid (.seq a b) st K :=
  vc_cut Sf101_c12 (Yf101_c12 s2) (Xf101_c12 s2) (Jf101_c12 s2 r) hz (h hF) fun y hy => h2 y.1 y.2 hy
theorem Zf101_c12 {r : Int × Int} {s2 : List Spot} {j13 : Int} {b1200_0 : Int} (hF : f101_c12 s2 j13 b1200_0 = some r) (h0 : AtH Sf101_c12 st (Vf101_c12 s2 j13 b1200_0) (Bf101_c12 s2 j13 b1200_0)) : KHead Sf101_c12 (Yf101_c12 s2) (Xf101_c12 s2) (Jf101_c12 s2 r) K .normal st := by
  exact khead (I := (Jf101_c12 s2 r)) (x := (j13, b1200_0)) hF h0
def f101b (self : Int → Int → (List Spot) → Option (Int × Int)) (N : Nat) (s0 : Int) (s1 : Int) (s2 : List Spot) : Option (Int × Int) :=
 joinK (f101_c12 s2) fun k0 =>
 bif decide ((8 : Int) ≤ (W (s1 - s0))) then (bif decide ((50 : Int) ≤ (W (s1 - s0))) then ((f112 N (W (s0 + (W ((W (Int.tdiv (W (s1 - s0)) (4 : Int))) * (1 : Int))))) s2 (0 : Int)).bind fun x1 =>
 (f112 N (W (s0 + (W ((W (Int.tdiv (W (s1 - s0)) (4 : Int))) * (2 : Int))))) s2 x1.2).bind fun x2 =>
 (f112 N (W (s0 + (W ((W (Int.tdiv (W (s1 - s0)) (4 : Int))) * (3 : Int))))) s2 x2.2).bind fun x3 =>
 (f113 N x1.1 x2.1 x3.1 s2 x3.2).bind fun x4 =>
 k0 x4.1 x4.2)
 else ((f113 N (W (s0 + (W ((W (Int.tdiv (W (s1 - s0)) (4 : Int))) * (1 : Int))))) (W (s0 + (W ((W (Int.tdiv (W (s1 - s0)) (4 : Int))) * (2 : Int))))) (W (s0 + (W ((W (Int.tdiv (W (s1 - s0)) (4 : Int))) * (3 : Int))))) s2 (0 : Int)).bind fun x5 =>
 k0 x5.1 x5.2))
 else (k0 (W (s0 + (W ((W (Int.tdiv (W (s1 - s0)) (4 : Int))) * (2 : Int))))) (0 : Int))
def f101 : Nat → Int → Int → (List Spot) → Option (Int × Int)
  | 0, _, _, _ => none
  | N + 1, s0, s1, s2 => f101b (f101 N) N s0 s1 s2
def Af101 (s0 : Int) (s1 : Int) (s2 : List Spot) : List SV := [.rs 0 (List.length s2), .dat (iN s0), .dat (iN s1), .dat (.v (.func (.func 91) #[] #[]))]
def Bf101 (s0 : Int) (s1 : Int) (s2 : List Spot) : List Blk := [.row 73 3 (List.map Spot.d s2)]
def Rf101 (y : Int × Int) : List SV := [.dat (iN y.1), .dat (iN y.2)]
def B1f101 (s0 : Int) (s1 : Int) (s2 : List Spot) (y : Int × Int) : List Blk := [.row 73 3 (List.map Spot.d s2)]
def BZf101 (y : Int × Int) : Blk := .unborn
def Spf101 : Spec (Int × Int × (List Spot)) (Int × Int) := ⟨1, fun x => Af101 x.1 x.2.1 x.2.2, fun x => Bf101 x.1 x.2.1 x.2.2, fun _ y => Rf101 y, fun x y => B1f101 x.1 x.2.1 x.2.2 y, fun _ y => BZf101 y⟩
def H101 (N : Nat) (x : Int × Int × (List Spot)) (y : Int × Int) : Prop := f101 N x.1 x.2.1 x.2.2 = some y
def G101 (x : Int × Int × (List Spot)) (y : Int × Int) : Prop := ∃ N, H101 N x y
theorem H101.step {N : Nat} {s0 : Int} {s1 : Int} {s2 : List Spot} {m0 : Nat} {ρ : Type} {A : (Int × Int) → Option ρ} {q : ρ} {xs : List SV} {id : Nat} {m : Nat → Blk} {l : List Loc} {K : Dl → List Loc → Prop} {k0 : Nat} (ha : xs = [.rs k0 m0, .dat (iN s0), .dat (iN s1), .dat (.v (.func (.func 91) #[] #[]))]) (b0 : m k0 = .row 73 3 (List.map Spot.d s2)) (em0 : m0 = List.length s2) (hu : m id = .unborn) (hn : nodupB [k0] = true) (h : ∀ y, A y = some q → K ⟨.tup [.dat (iN y.1), .dat (iN y.2)], [(k0, .row 73 3 (List.map Spot.d s2)), (id, .unborn)]⟩ l) (hF : (f101 N s0 s1 s2).bind A = some q) : effPg Spf101 (H101 N) xs id (fun _ => SV.no) m l K := by
  subst em0; obtain ⟨y, hy, hA⟩ := bind_some hF
  exact eff_step [k0] (s0, s1, s2) y _ hy rfl hn ha (by simp only [List.map_cons, List.map_nil, b0]; rfl) hu rfl rfl (h y hA)
theorem G101.step {N : Nat} {s0 : Int} {s1 : Int} {s2 : List Spot} {m0 : Nat} {ρ : Type} {A : (Int × Int) → Option ρ} {q : ρ} {xs : List SV} {id : Nat} {m : Nat → Blk} {l : List Loc} {K : Dl → List Loc → Prop} {k0 : Nat} (ha : xs = [.rs k0 m0, .dat (iN s0), .dat (iN s1), .dat (.v (.func (.func 91) #[] #[]))]) (b0 : m k0 = .row 73 3 (List.map Spot.d s2)) (em0 : m0 = List.length s2) (hu : m id = .unborn) (hn : nodupB [k0] = true) (h : ∀ y, A y = some q → K ⟨.tup [.dat (iN y.1), .dat (iN y.2)], [(k0, .row 73 3 (List.map Spot.d s2)), (id, .unborn)]⟩ l) (hF : (f101 N s0 s1 s2).bind A = some q) : effPg Spf101 (G101) xs id (fun _ => SV.no) m l K := by
  subst em0; obtain ⟨y, hy, hA⟩ := bind_some hF
  exact eff_step [k0] (s0, s1, s2) y _ ⟨N, hy⟩ rfl hn ha (by simp only [List.map_cons, List.map_nil, b0]; rfl) hu rfl rfl (h y hA)
def Srf101 : Ann := ⟨[0, 1], [0, 500], [], []⟩
set_option maxRecDepth 20000 in
set_option maxHeartbeats 4000000 in
theorem Q101 (N : Nat) : CallOK Try.prog 101 (effPg Spf101 (H101 N)) := by
  induction N with
  | zero => exact eff_none fun x y h => (by cases (show (none : Option (Int × Int)) = some y from h))
  | succ N ih =>
    refine eff_of_vc (c := mkCtx tyTree [(101, false, effPg Spf101 (H101 N)), (113, false, effPg Spf113 G113), (112, false, effPg Spf112 G112)]) rfl tyOK (ctx_eff (callable Try.func101 rfl rfl) ih (ctx_eff (callable Try.func113 rfl rfl) P113 (ctx_eff (callable Try.func112 rfl rfl) P112 (ctx_nil)))) 1000 500 Srf101 Try.func101 rfl rfl (by kernel_rfl) rfl rfl rfl rfl rfl (fun _ => rfl) (fun _ => rfl) (fun _ _ => ⟨rfl, rfl⟩) ?_
    rintro ⟨s0, s1, s2⟩ y hF
    have hF : f101b (f101 N) N s0 s1 s2 = some y := hF
    show vc _ _ _ _ ⟨[(0, .rs 0 (List.length s2)), (1, .dat (iN s0)), (2, .dat (iN s1)), (3, .dat (.v (.func (.func 91) #[] #[])))], [(0, .row 73 3 (List.map Spot.d s2))]⟩ _
    unfold f101b at hF
    repeat' (first
      | ((with_reducible refine q0 _ _ ?_); clear Q q0 q1 q2)
      | ((with_reducible refine q1 _ _ _ _ ?_); clear Q q0 q1 q2)
      | ((with_reducible refine q2 _ _ _ ?_); clear Q q0 q1 q2)
      | ((with_reducible refine seq_op ?hx (fun Q q0 q1 q2 => ?_)); (case hx => exact rfl); conv => whnf)
      | ((with_reducible refine cond_id ?_); (first | ((refine condKT rfl ?hy ?_); (case hy => first | assumption | exact notT (by assumption) | exact rfl)) | ((refine condKF rfl ?hy ?_); (case hy => first | assumption | exact notF (by assumption) | exact rfl)) | (revert hF; (with_reducible refine condF ?hx ?_ ?_); (case hx => exact rfl); all_goals (intro hc hF))))
      | ((with_reducible refine seq_nil ?_); (first | ((with_reducible refine hR _ ?_); clear R hR) | ((with_reducible refine hL _ ?_); clear L hL)))
      | ((with_reducible refine int_step ?_); conv => whnf)
      | ((with_reducible refine len_step ?_); conv => whnf)
      | with_reducible refine vc_block ?_
      | with_reducible refine vc_skip ?_
      | with_reducible refine vc_ret ?_
      | with_reducible refine vc_exit ?_
      | ((with_reducible refine vc_seqN [1000012] ?hx ?_); (case hx => exact rfl))
      | (with_reducible refine vc_region (fun R hR => ?_))
      | fail
      | (revert hF; (refine Cf101_c12 rfl rfl ?_ ?_); (intro hF); rotate_left; (intro j13 b1200_0 hF; unfold f101_c12 at hF); rotate_right)
      | exact Zf101_c12 hF ⟨_, rfl, rfl, rfl, rfl⟩
      | (revert hF; (refine G112.step rfl rfl rfl (by first | exact rfl | assumption | omega) rfl ?hn ?_); (case hn => exact rfl); intro v hF; conv => whnf)
      | (revert hF; (refine G113.step rfl rfl rfl (by first | exact rfl | assumption | omega) rfl ?hn ?_); (case hn => exact rfl); intro v hF; conv => whnf)
      | (revert hF; (refine H101.step rfl rfl (by first | exact rfl | assumption | omega) rfl ?hn ?_); (case hn => exact rfl); intro v hF; conv => whnf)
      | (show retE _ _ _ _ _ _; conv => whnf)
      | (cases hF; exact ⟨rfl, rfl, rfl⟩)
      | with_reducible refine k_seq_ret ?_
      | with_reducible refine k_seq_exit ?_
      | with_reducible refine k_blk ?_
      | with_reducible refine k_blk_ret ?_
      | with_reducible refine k_blk_here ?_
      | ((with_reducible refine k_blk_out ?hx ?_); (case hx => exact rfl))
      | ((refine row_all ?hn ?_); (case hn => first | exact rfl | (simp; done) | (simp; omega)); conv => whnf)
      | ((with_reducible refine le_step ?hn ?_); (case hn => first | exact rfl | assumption | omega); conv => whnf)
      | ((refine ⟨?hx, ?_⟩); (case hx => exact ⟨rfl, Nat.le_of_ble_eq_true rfl, rfl⟩); conv => whnf)
      | ((with_reducible refine ex_step ?_); conv => whnf)
      | ((with_reducible refine both_T ?hx ?_); (case hx => first | exact rfl | assumption | exact notT (by assumption)); conv => whnf)
      | ((with_reducible refine both_F ?hx ?_); (case hx => first | exact rfl | assumption | exact notF (by assumption)); conv => whnf)
      | (revert hF; (with_reducible refine ite_step ?_ ?_) <;> (intro hc hF; conv => whnf))
      | ((with_reducible refine vc_condT ?hx ?_); (case hx => exact rfl))
      | ((with_reducible refine vc_condF ?hx ?_); (case hx => exact rfl))
      | (show retD _ _ _ _ _ _; conv => whnf)
      | ((refine ⟨?hx, trivial⟩); (case hx => (cases hF; exact rfl)))
      | ((refine ⟨?hx, ?_⟩); (case hx => decide); conv => whnf)
      | ((with_reducible refine k_seq ?_))
      | (have hF : (none : Option _) = some _ := hF; cases hF))
theorem P101 : CallOK Try.prog 101 (effPg Spf101 G101) := eff_ex Q101
end
end Go.Vc
namespace Go.Vc
open Go.Proofs
set_option linter.unusedVariables false
set_option linter.unnecessarySimpa false
set_option linter.unusedSimpArgs false
section
variable {c : Ctx} {p nid : Nat} {a b : Code} {st : St} {K : Ex → St → Prop}
/- f102: slices.reverseRangeCmpFunc[tusche/serial.Spot] -/
def f102_2b (r2 : Int → Int → (List Spot) → Option ((List Spot))) (i8 : Int) (j9 : Int) (b0 : List Spot) : Option ((List Spot)) :=
 bif decide (i8 < j9) then ((ix b0 j9).bind fun x1 =>
 (ix b0 i8).bind fun x2 =>
 (ix b0 i8).bind fun x3 =>
 (setx b0 i8 x1).bind fun x4 =>
 (ix x4 j9).bind fun x5 =>
 (setx x4 j9 x2).bind fun x6 =>
 r2 (W (i8 + (1 : Int))) (W (j9 - (1 : Int))) x6)
 else (some (b0))
def f102_2 : Nat → Int → Int → (List Spot) → Option ((List Spot))
  | 0, _, _, _ => none
  | n + 1, i8, j9, b0 => f102_2b (f102_2 n) i8 j9 b0
def Sf102_2 : Ann := ⟨[0, 8, 9], [0], [], []⟩
def Vf102_2 (i8 : Int) (j9 : Int) (b0 : List Spot) : List SV := [.rs 0 (List.length b0), .dat (iN i8), .dat (iN j9)]
def Bf102_2 (i8 : Int) (j9 : Int) (b0 : List Spot) : List Blk := [.row 73 3 (List.map Spot.d b0)]
def Yf102_2 (y : Nat × Int × Int × (List Spot)) : List SV := Vf102_2 y.2.1 y.2.2.1 y.2.2.2
def Xf102_2 (y : Nat × Int × Int × (List Spot)) : List Blk := Bf102_2 y.2.1 y.2.2.1 y.2.2.2
def Jf102_2 (r : (List Spot)) (y : Nat × Int × Int × (List Spot)) : Prop := f102_2 y.1 y.2.1 y.2.2.1 y.2.2.2 = some r
def V2f102_2 (i8 : Int) (j9 : Int) (b0 : List Spot) (m0 : Nat) : List SV := [.rs 0 m0, .dat (iN i8), .dat (iN j9)]
def B2f102_2 (i8 : Int) (j9 : Int) (b0 : List Spot) (m0 : Nat) : List Blk := [.row 73 3 (List.map Spot.d b0)]
theorem Lf102_2 {r : (List Spot)} {fu : Nat} {i8 : Int} {j9 : Int} {b0 : List Spot} {m0 : Nat} (hz : Sf102_2.ok p = true) (h0 : AtH Sf102_2 st (V2f102_2 i8 j9 b0 m0) (B2f102_2 i8 j9 b0 m0)) (em0 : m0 = List.length b0) (h : ∀ (n : Nat) (i8 : Int) (j9 : Int) (b0 : List Spot), f102_2b (f102_2 n) i8 j9 b0 = some r → vc c p nid a (St.mk' Sf102_2 (Vf102_2 i8 j9 b0) (Bf102_2 i8 j9 b0)) (Kloop Sf102_2 Yf102_2 Xf102_2 (Jf102_2 r) Prod.fst (n + 1, i8, j9, b0) K)) (hF : f102_2 fu i8 j9 b0 = some r) : vc c p nid (.loop a) st K := by
  subst em0; refine vc_loop Sf102_2 Yf102_2 Xf102_2 (Jf102_2 r) Prod.fst hz (kheadL (x := (fu, i8, j9, b0)) hF h0) ?_
  rintro ⟨_ | n, i8, j9, b0⟩ hI
  · cases hI
  · exact h n i8 j9 b0 hI
theorem Mf102_2 {r : (List Spot)} {n : Nat} {i8 : Int} {j9 : Int} {b0 : List Spot} {i8_ : Int} {j9_ : Int} {b0_ : List Spot} {m0 : Nat} (hF : f102_2 n i8 j9 b0 = some r) (h0 : AtH Sf102_2 st (V2f102_2 i8 j9 b0 m0) (B2f102_2 i8 j9 b0 m0)) (em0 : m0 = List.length b0) : Kloop Sf102_2 Yf102_2 Xf102_2 (Jf102_2 r) Prod.fst (n + 1, i8_, j9_, b0_) K .normal st := by
  subst em0; exact kback (y := (n, i8, j9, b0)) hF (Nat.lt_succ_self n) h0
def f102b (self : Int → Int → (List Spot) → Option ((List Spot))) (N : Nat) (s0 : Int) (s1 : Int) (s2 : List Spot) : Option ((List Spot)) :=
 f102_2 N s0 (W (s1 - (1 : Int))) s2
def f102 : Nat → Int → Int → (List Spot) → Option ((List Spot))
  | 0, _, _, _ => none
  | N + 1, s0, s1, s2 => f102b (f102 N) N s0 s1 s2
def Af102 (s0 : Int) (s1 : Int) (s2 : List Spot) : List SV := [.rs 0 (List.length s2), .dat (iN s0), .dat (iN s1), .dat (.v (.func (.func 91) #[] #[]))]
def Bf102 (s0 : Int) (s1 : Int) (s2 : List Spot) : List Blk := [.row 73 3 (List.map Spot.d s2)]
def Rf102 (y : (List Spot)) : List SV := []
def B1f102 (s0 : Int) (s1 : Int) (s2 : List Spot) (y : (List Spot)) : List Blk := [.row 73 3 (List.map Spot.d y)]
def BZf102 (y : (List Spot)) : Blk := .unborn
def Spf102 : Spec (Int × Int × (List Spot)) ((List Spot)) := ⟨1, fun x => Af102 x.1 x.2.1 x.2.2, fun x => Bf102 x.1 x.2.1 x.2.2, fun _ y => Rf102 y, fun x y => B1f102 x.1 x.2.1 x.2.2 y, fun _ y => BZf102 y⟩
def H102 (N : Nat) (x : Int × Int × (List Spot)) (y : (List Spot)) : Prop := f102 N x.1 x.2.1 x.2.2 = some y
def G102 (x : Int × Int × (List Spot)) (y : (List Spot)) : Prop := ∃ N, H102 N x y
theorem H102.step {N : Nat} {s0 : Int} {s1 : Int} {s2 : List Spot} {m0 : Nat} {ρ : Type} {A : (List Spot) → Option ρ} {q : ρ} {xs : List SV} {id : Nat} {m : Nat → Blk} {l : List Loc} {K : Dl → List Loc → Prop} {k0 : Nat} (ha : xs = [.rs k0 m0, .dat (iN s0), .dat (iN s1), .dat (.v (.func (.func 91) #[] #[]))]) (b0 : m k0 = .row 73 3 (List.map Spot.d s2)) (em0 : m0 = List.length s2) (hu : m id = .unborn) (hn : nodupB [k0] = true) (h : ∀ y, A y = some q → K ⟨.tup [], [(k0, .row 73 3 (List.map Spot.d y)), (id, .unborn)]⟩ l) (hF : (f102 N s0 s1 s2).bind A = some q) : effPg Spf102 (H102 N) xs id (fun _ => SV.no) m l K := by
  subst em0; obtain ⟨y, hy, hA⟩ := bind_some hF
  exact eff_step [k0] (s0, s1, s2) y _ hy rfl hn ha (by simp only [List.map_cons, List.map_nil, b0]; rfl) hu rfl rfl (h y hA)
theorem G102.step {N : Nat} {s0 : Int} {s1 : Int} {s2 : List Spot} {m0 : Nat} {ρ : Type} {A : (List Spot) → Option ρ} {q : ρ} {xs : List SV} {id : Nat} {m : Nat → Blk} {l : List Loc} {K : Dl → List Loc → Prop} {k0 : Nat} (ha : xs = [.rs k0 m0, .dat (iN s0), .dat (iN s1), .dat (.v (.func (.func 91) #[] #[]))]) (b0 : m k0 = .row 73 3 (List.map Spot.d s2)) (em0 : m0 = List.length s2) (hu : m id = .unborn) (hn : nodupB [k0] = true) (h : ∀ y, A y = some q → K ⟨.tup [], [(k0, .row 73 3 (List.map Spot.d y)), (id, .unborn)]⟩ l) (hF : (f102 N s0 s1 s2).bind A = some q) : effPg Spf102 (G102) xs id (fun _ => SV.no) m l K := by
  subst em0; obtain ⟨y, hy, hA⟩ := bind_some hF
  exact eff_step [k0] (s0, s1, s2) y _ ⟨N, hy⟩ rfl hn ha (by simp only [List.map_cons, List.map_nil, b0]; rfl) hu rfl rfl (h y hA)
def Srf102 : Ann := ⟨[], [0, 500], [], []⟩
set_option maxRecDepth 20000 in
set_option maxHeartbeats 4000000 in
theorem Q102 (N : Nat) : CallOK Try.prog 102 (effPg Spf102 (H102 N)) := by
  induction N with
  | zero => exact eff_none fun x y h => (by cases (show (none : Option ((List Spot))) = some y from h))
  | succ N ih =>
    refine eff_of_vc (c := mkCtx tyTree [(102, false, effPg Spf102 (H102 N))]) rfl tyOK (ctx_eff (callable Try.func102 rfl rfl) ih (ctx_nil)) 1000 500 Srf102 Try.func102 rfl rfl (by kernel_rfl) rfl rfl rfl rfl rfl (fun _ => rfl) (fun _ => rfl) (fun _ _ => ⟨rfl, rfl⟩) ?_
    rintro ⟨s0, s1, s2⟩ y hF
    have hF : f102b (f102 N) N s0 s1 s2 = some y := hF
    show vc _ _ _ _ ⟨[(0, .rs 0 (List.length s2)), (1, .dat (iN s0)), (2, .dat (iN s1)), (3, .dat (.v (.func (.func 91) #[] #[])))], [(0, .row 73 3 (List.map Spot.d s2))]⟩ _
    unfold f102b at hF
    repeat' (first
      | ((with_reducible refine q0 _ _ ?_); clear Q q0 q1 q2)
      | ((with_reducible refine q1 _ _ _ _ ?_); clear Q q0 q1 q2)
      | ((with_reducible refine q2 _ _ _ ?_); clear Q q0 q1 q2)
      | ((with_reducible refine seq_op ?hx (fun Q q0 q1 q2 => ?_)); (case hx => exact rfl); conv => whnf)
      | ((with_reducible refine draw_op ?hx (fun Q q0 q1 q2 => ?_)); (case hx => exact rfl); conv => whnf)
      | ((with_reducible refine seq_op0 ?hx (fun Q q0 q1 q2 => ?_)); (case hx => exact rfl); conv => whnf)
      | ((with_reducible refine draw_op0 ?hx (fun Q q0 q1 q2 => ?_)); (case hx => exact rfl); conv => whnf)
      | ((with_reducible refine cond_id ?_); (first | ((refine condKT rfl ?hy ?_); (case hy => first | assumption | exact notT (by assumption) | exact rfl)) | ((refine condKF rfl ?hy ?_); (case hy => first | assumption | exact notF (by assumption) | exact rfl)) | (revert hF; (with_reducible refine condF ?hx ?_ ?_); (case hx => exact rfl); all_goals (intro hc hF))))
      | ((with_reducible refine seq_nil ?_); (first | ((with_reducible refine hR _ ?_); clear R hR) | ((with_reducible refine hL _ ?_); clear L hL)))
      | ((with_reducible refine draw_nil ?_); (with_reducible refine hR _ _ ?hx ?_); (case hx => kernel_rfl); (first | clear R hR | clear hR))
      | ((with_reducible refine int_step ?_); conv => whnf)
      | ((with_reducible refine len_step ?_); conv => whnf)
      | ((with_reducible refine idx2 (by assumption) ?_); conv => whnf)
      | ((with_reducible refine idx3 (by assumption) ?_); conv => whnf)
      | with_reducible refine vc_block ?_
      | with_reducible refine vc_skip ?_
      | with_reducible refine vc_ret ?_
      | with_reducible refine vc_exit ?_
      | ((with_reducible refine vc_seqN [] ?hx ?_); (case hx => exact rfl))
      | (with_reducible refine vc_region (fun R hR => ?_))
      | ((with_reducible refine vc_draw ?hx (fun R hR => ?_)); (case hx => exact rfl))
      | fail
      | (revert hF; (refine Lf102_2 rfl ⟨_, rfl, rfl, rfl, rfl⟩ (by first | exact rfl | assumption | omega) ?_); intro n i8 j9 b0 hF; unfold f102_2b at hF)
      | exact Mf102_2 hF ⟨_, rfl, rfl, rfl, rfl⟩ (by first | exact rfl | assumption | omega)
      | (revert hF; (refine H102.step rfl rfl (by first | exact rfl | assumption | omega) rfl ?hn ?_); (case hn => exact rfl); intro v hF; conv => whnf)
      | (show retE _ _ _ _ _ _; conv => whnf)
      | (cases hF; exact ⟨rfl, rfl, rfl⟩)
      | with_reducible refine k_seq_ret ?_
      | with_reducible refine k_seq_exit ?_
      | with_reducible refine k_blk ?_
      | with_reducible refine k_blk_ret ?_
      | with_reducible refine k_blk_here ?_
      | ((with_reducible refine k_blk_out ?hx ?_); (case hx => exact rfl))
      | with_reducible refine k_loop_ret ?_
      | with_reducible refine k_loop_exit ?_
      | (revert hF; (with_reducible refine idx1 ?hn ?_); (case hn => first | exact rfl | exact (List.length_map _) | assumption | omega | simp); intro x hx hF; conv => whnf)
      | ((refine row_all ?hn ?_); (case hn => first | exact rfl | (simp; done) | (simp; omega)); conv => whnf)
      | ((with_reducible refine le_step ?hn ?_); (case hn => first | exact rfl | assumption | omega); conv => whnf)
      | ((with_reducible have hG := setx_fact hF); clear hF; (refine setx_step hG ?hs (fun q hl hF => ?_)); (case hs => exact rfl); clear hG; conv => whnf)
      | ((refine ⟨?hx, ?_⟩); (case hx => exact ⟨rfl, Nat.le_of_ble_eq_true rfl, rfl⟩); conv => whnf)
      | ((with_reducible refine ex_step ?_); conv => whnf)
      | ((with_reducible refine both_T ?hx ?_); (case hx => first | exact rfl | assumption | exact notT (by assumption)); conv => whnf)
      | ((with_reducible refine both_F ?hx ?_); (case hx => first | exact rfl | assumption | exact notF (by assumption)); conv => whnf)
      | (revert hF; (with_reducible refine ite_step ?_ ?_) <;> (intro hc hF; conv => whnf))
      | ((with_reducible refine vc_condT ?hx ?_); (case hx => exact rfl))
      | ((with_reducible refine vc_condF ?hx ?_); (case hx => exact rfl))
      | (show retD _ _ _ _ _ _; conv => whnf)
      | ((refine ⟨?hx, trivial⟩); (case hx => (cases hF; exact rfl)))
      | ((refine ⟨?hx, ?_⟩); (case hx => decide); conv => whnf)
      | ((with_reducible refine k_seq ?_))
      | (have hF : (none : Option _) = some _ := hF; cases hF))
theorem P102 : CallOK Try.prog 102 (effPg Spf102 G102) := eff_ex Q102
end
end Go.Vc
namespace Go.Vc
open Go.Proofs
set_option linter.unusedVariables false
set_option linter.unnecessarySimpa false
set_option linter.unusedSimpArgs false
section
variable {c : Ctx} {p nid : Nat} {a b : Code} {st : St} {K : Ex → St → Prop}
/- f103: slices.partialInsertionSortCmpFunc[tusche/serial.Spot] -/
def f103_c24 (b0 : List Spot) : Option (Bool × (List Spot)) :=
 some (false, b0)
def Sf103_c24 : Ann := ⟨[], [0], [], []⟩
def Vf103_c24 (b0 : List Spot) : List SV := []
def Bf103_c24 (b0 : List Spot) : List Blk := [.row 73 3 (List.map Spot.d b0)]
def Yf103_c24 (y : (List Spot)) : List SV := Vf103_c24 y
def Xf103_c24 (y : (List Spot)) : List Blk := Bf103_c24 y
def Jf103_c24 (r : Bool × (List Spot)) (y : (List Spot)) : Prop := f103_c24 y = some r
theorem Cf103_c24 {r : Bool × (List Spot)} {g : _ → Option (Bool × (List Spot))} (hn : Nat.beq (nid * 1000 + firstRegion b) 1000024 = true) (hz : Sf103_c24.ok p = true) (h : g f103_c24 = some r → vc c p nid a st (KHead Sf103_c24 Yf103_c24 Xf103_c24 (Jf103_c24 r) K)) (h2 : ∀ (b0 : List Spot), f103_c24 b0 = some r → vc c p nid b (St.mk' Sf103_c24 (Vf103_c24 b0) (Bf103_c24 b0)) K) (hF : joinK f103_c24 g = some r) : vc c p nid (.seq a b) st K :=
  vc_cut Sf103_c24 Yf103_c24 Xf103_c24 (Jf103_c24 r) hz (h hF) fun y hy => h2 y hy
theorem Zf103_c24 {r : Bool × (List Spot)} {b0 : List Spot} (hF : f103_c24 b0 = some r) (h0 : AtH Sf103_c24 st (Vf103_c24 b0) (Bf103_c24 b0)) : KHead Sf103_c24 Yf103_c24 Xf103_c24 (Jf103_c24 r) K .normal st := by
  exact khead (I := (Jf103_c24 r)) (x := (b0)) hF h0
def f103_c4 (s0 : Int) (s1 : Int) (v10 : Int) (r3 : Int → Int → (List Spot) → Option (Bool × (List Spot))) (v9' : Int) (b0' : List Spot) : Option (Bool × (List Spot)) :=
 r3 (v9') (W (v10 + (1 : Int))) (b0')
def Sf103_c4 : Ann := ⟨[0, 1, 2, 3, 9, 10], [0], [], []⟩
def Vf103_c4 (s0 : Int) (s1 : Int) (v10 : Int) (v9' : Int) (b0' : List Spot) : List SV := [.rs 0 (List.length (b0')), .dat (iN s0), .dat (iN s1), .dat (.v (.func (.func 91) #[] #[])), .dat (iN (v9')), .dat (iN v10)]
def Bf103_c4 (s0 : Int) (s1 : Int) (v10 : Int) (v9' : Int) (b0' : List Spot) : List Blk := [.row 73 3 (List.map Spot.d (b0'))]
def Yf103_c4 (s0 : Int) (s1 : Int) (v10 : Int) (y : Int × (List Spot)) : List SV := Vf103_c4 s0 s1 v10 y.1 y.2
def Xf103_c4 (s0 : Int) (s1 : Int) (v10 : Int) (y : Int × (List Spot)) : List Blk := Bf103_c4 s0 s1 v10 y.1 y.2
def Jf103_c4 (s0 : Int) (s1 : Int) (v10 : Int) (r3 : Int → Int → (List Spot) → Option (Bool × (List Spot))) (r : Bool × (List Spot)) (y : Int × (List Spot)) : Prop := f103_c4 s0 s1 v10 r3 y.1 y.2 = some r
def V2f103_c4 (s0 : Int) (s1 : Int) (v10 : Int) (v9' : Int) (b0' : List Spot) (m0 : Nat) : List SV := [.rs 0 m0, .dat (iN s0), .dat (iN s1), .dat (.v (.func (.func 91) #[] #[])), .dat (iN (v9')), .dat (iN v10)]
def B2f103_c4 (s0 : Int) (s1 : Int) (v10 : Int) (v9' : Int) (b0' : List Spot) (m0 : Nat) : List Blk := [.row 73 3 (List.map Spot.d (b0'))]
theorem Cf103_c4 {r : Bool × (List Spot)} {s0 : Int} {s1 : Int} {v10 : Int} {r3 : Int → Int → (List Spot) → Option (Bool × (List Spot))} {g : _ → Option (Bool × (List Spot))} (hn : Nat.beq (nid * 1000 + firstRegion b) 1000004 = true) (hz : Sf103_c4.ok p = true) (h : g (f103_c4 s0 s1 v10 r3) = some r → vc c p nid a st (KHead Sf103_c4 (Yf103_c4 s0 s1 v10) (Xf103_c4 s0 s1 v10) (Jf103_c4 s0 s1 v10 r3 r) K)) (h2 : ∀ (v9' : Int) (b0' : List Spot), f103_c4 s0 s1 v10 r3 v9' b0' = some r → vc c p nid b (St.mk' Sf103_c4 (Vf103_c4 s0 s1 v10 v9' b0') (Bf103_c4 s0 s1 v10 v9' b0')) K) (hF : joinK (f103_c4 s0 s1 v10 r3) g = some r) : vc c p nid (.seq a b) st K :=
  vc_cut Sf103_c4 (Yf103_c4 s0 s1 v10) (Xf103_c4 s0 s1 v10) (Jf103_c4 s0 s1 v10 r3 r) hz (h hF) fun y hy => h2 y.1 y.2 hy
theorem Zf103_c4 {r : Bool × (List Spot)} {s0 : Int} {s1 : Int} {v10 : Int} {r3 : Int → Int → (List Spot) → Option (Bool × (List Spot))} {v9' : Int} {b0' : List Spot} {m0 : Nat} (hF : f103_c4 s0 s1 v10 r3 v9' b0' = some r) (h0 : AtH Sf103_c4 st (V2f103_c4 s0 s1 v10 v9' b0' m0) (B2f103_c4 s0 s1 v10 v9' b0' m0)) (em0 : m0 = List.length (b0')) : KHead Sf103_c4 (Yf103_c4 s0 s1 v10) (Xf103_c4 s0 s1 v10) (Jf103_c4 s0 s1 v10 r3 r) K .normal st := by
  subst em0; exact khead (I := (Jf103_c4 s0 s1 v10 r3 r)) (x := (v9', b0')) hF h0
def f103_20b (r20 : Int → (List Spot) → Option (Bool × (List Spot))) (s0 : Int) (s1 : Int) (N : Nat) (v10 : Int) (k1 : Int → (List Spot) → Option (Bool × (List Spot))) (v9' : Int) (v12 : Int) (b0'' : List Spot) : Option (Bool × (List Spot)) :=
 bif decide (v12 < s1) then ((ix (b0'') v12).bind fun x7 =>
 (ix (b0'') (W (v12 - (1 : Int)))).bind fun x8 =>
 (f91 N x7 x8).bind fun x9 =>
 bif !(decide (x9 < (0 : Int))) then (k1 (v9') (b0''))
 else ((ix (b0'') (W (v12 - (1 : Int)))).bind fun x10 =>
 (ix (b0'') v12).bind fun x11 =>
 (ix (b0'') v12).bind fun x12 =>
 (setx (b0'') v12 x10).bind fun x13 =>
 (ix x13 (W (v12 - (1 : Int)))).bind fun x14 =>
 (setx x13 (W (v12 - (1 : Int))) x11).bind fun x15 =>
 r20 (W (v12 + (1 : Int))) x15))
 else (k1 (v9') (b0''))
def f103_20 (s0 : Int) (s1 : Int) (N : Nat) (v10 : Int) (k1 : Int → (List Spot) → Option (Bool × (List Spot))) (v9' : Int) : Nat → Int → (List Spot) → Option (Bool × (List Spot))
  | 0, _, _ => none
  | n + 1, v12, b0'' => f103_20b (f103_20 s0 s1 N v10 k1 v9' n) s0 s1 N v10 k1 v9' v12 b0''
def Sf103_20 : Ann := ⟨[0, 1, 2, 3, 9, 10, 12], [0], [], []⟩
def Vf103_20 (s0 : Int) (s1 : Int) (v10 : Int) (v9' : Int) (v12 : Int) (b0'' : List Spot) : List SV := [.rs 0 (List.length (b0'')), .dat (iN s0), .dat (iN s1), .dat (.v (.func (.func 91) #[] #[])), .dat (iN (v9')), .dat (iN v10), .dat (iN v12)]
def Bf103_20 (s0 : Int) (s1 : Int) (v10 : Int) (v9' : Int) (v12 : Int) (b0'' : List Spot) : List Blk := [.row 73 3 (List.map Spot.d (b0''))]
def Yf103_20 (s0 : Int) (s1 : Int) (v10 : Int) (v9' : Int) (y : Nat × Int × (List Spot)) : List SV := Vf103_20 s0 s1 v10 v9' y.2.1 y.2.2
def Xf103_20 (s0 : Int) (s1 : Int) (v10 : Int) (v9' : Int) (y : Nat × Int × (List Spot)) : List Blk := Bf103_20 s0 s1 v10 v9' y.2.1 y.2.2
def Jf103_20 (s0 : Int) (s1 : Int) (N : Nat) (v10 : Int) (k1 : Int → (List Spot) → Option (Bool × (List Spot))) (v9' : Int) (r : Bool × (List Spot)) (y : Nat × Int × (List Spot)) : Prop := f103_20 s0 s1 N v10 k1 v9' y.1 y.2.1 y.2.2 = some r
def V2f103_20 (s0 : Int) (s1 : Int) (v10 : Int) (v9' : Int) (v12 : Int) (b0'' : List Spot) (m0 : Nat) : List SV := [.rs 0 m0, .dat (iN s0), .dat (iN s1), .dat (.v (.func (.func 91) #[] #[])), .dat (iN (v9')), .dat (iN v10), .dat (iN v12)]
def B2f103_20 (s0 : Int) (s1 : Int) (v10 : Int) (v9' : Int) (v12 : Int) (b0'' : List Spot) (m0 : Nat) : List Blk := [.row 73 3 (List.map Spot.d (b0''))]
theorem Lf103_20 {r : Bool × (List Spot)} {s0 : Int} {s1 : Int} {N : Nat} {v10 : Int} {k1 : Int → (List Spot) → Option (Bool × (List Spot))} {v9' : Int} {fu : Nat} {v12 : Int} {b0'' : List Spot} {m0 : Nat} (hz : Sf103_20.ok p = true) (h0 : AtH Sf103_20 st (V2f103_20 s0 s1 v10 v9' v12 b0'' m0) (B2f103_20 s0 s1 v10 v9' v12 b0'' m0)) (em0 : m0 = List.length (b0'')) (h : ∀ (n : Nat) (v12 : Int) (b0'' : List Spot), f103_20b (f103_20 s0 s1 N v10 k1 v9' n) s0 s1 N v10 k1 v9' v12 b0'' = some r → vc c p nid a (St.mk' Sf103_20 (Vf103_20 s0 s1 v10 v9' v12 b0'') (Bf103_20 s0 s1 v10 v9' v12 b0'')) (Kloop Sf103_20 (Yf103_20 s0 s1 v10 v9') (Xf103_20 s0 s1 v10 v9') (Jf103_20 s0 s1 N v10 k1 v9' r) Prod.fst (n + 1, v12, b0'') K)) (hF : f103_20 s0 s1 N v10 k1 v9' fu v12 b0'' = some r) : vc c p nid (.loop a) st K := by
  subst em0; refine vc_loop Sf103_20 (Yf103_20 s0 s1 v10 v9') (Xf103_20 s0 s1 v10 v9') (Jf103_20 s0 s1 N v10 k1 v9' r) Prod.fst hz (kheadL (x := (fu, v12, b0'')) hF h0) ?_
  rintro ⟨_ | n, v12, b0''⟩ hI
  · cases hI
  · exact h n v12 b0'' hI
theorem Mf103_20 {r : Bool × (List Spot)} {s0 : Int} {s1 : Int} {N : Nat} {v10 : Int} {k1 : Int → (List Spot) → Option (Bool × (List Spot))} {v9' : Int} {n : Nat} {v12 : Int} {b0'' : List Spot} {v12_ : Int} {b0''_ : List Spot} {m0 : Nat} (hF : f103_20 s0 s1 N v10 k1 v9' n v12 b0'' = some r) (h0 : AtH Sf103_20 st (V2f103_20 s0 s1 v10 v9' v12 b0'' m0) (B2f103_20 s0 s1 v10 v9' v12 b0'' m0)) (em0 : m0 = List.length (b0'')) : Kloop Sf103_20 (Yf103_20 s0 s1 v10 v9') (Xf103_20 s0 s1 v10 v9') (Jf103_20 s0 s1 N v10 k1 v9' r) Prod.fst (n + 1, v12_, b0''_) K .normal st := by
  subst em0; exact kback (y := (n, v12, b0'')) hF (Nat.lt_succ_self n) h0
def f103_c18 (s0 : Int) (s1 : Int) (N : Nat) (v10 : Int) (k1 : Int → (List Spot) → Option (Bool × (List Spot))) (v9' : Int) (b0' : List Spot) : Option (Bool × (List Spot)) :=
 bif decide ((2 : Int) ≤ (W (s1 - (v9')))) then (f103_20 s0 s1 N v10 k1 v9' N (W ((v9') + (1 : Int))) (b0'))
 else (k1 (v9') (b0'))
def Sf103_c18 : Ann := ⟨[0, 1, 2, 3, 9, 10], [0], [], []⟩
def Vf103_c18 (s0 : Int) (s1 : Int) (v10 : Int) (v9' : Int) (b0' : List Spot) : List SV := [.rs 0 (List.length (b0')), .dat (iN s0), .dat (iN s1), .dat (.v (.func (.func 91) #[] #[])), .dat (iN (v9')), .dat (iN v10)]
def Bf103_c18 (s0 : Int) (s1 : Int) (v10 : Int) (v9' : Int) (b0' : List Spot) : List Blk := [.row 73 3 (List.map Spot.d (b0'))]
def Yf103_c18 (s0 : Int) (s1 : Int) (v10 : Int) (v9' : Int) (y : (List Spot)) : List SV := Vf103_c18 s0 s1 v10 v9' y
def Xf103_c18 (s0 : Int) (s1 : Int) (v10 : Int) (v9' : Int) (y : (List Spot)) : List Blk := Bf103_c18 s0 s1 v10 v9' y
def Jf103_c18 (s0 : Int) (s1 : Int) (N : Nat) (v10 : Int) (k1 : Int → (List Spot) → Option (Bool × (List Spot))) (v9' : Int) (r : Bool × (List Spot)) (y : (List Spot)) : Prop := f103_c18 s0 s1 N v10 k1 v9' y = some r
def V2f103_c18 (s0 : Int) (s1 : Int) (v10 : Int) (v9' : Int) (b0' : List Spot) (m0 : Nat) : List SV := [.rs 0 m0, .dat (iN s0), .dat (iN s1), .dat (.v (.func (.func 91) #[] #[])), .dat (iN (v9')), .dat (iN v10)]
def B2f103_c18 (s0 : Int) (s1 : Int) (v10 : Int) (v9' : Int) (b0' : List Spot) (m0 : Nat) : List Blk := [.row 73 3 (List.map Spot.d (b0'))]
theorem Cf103_c18 {r : Bool × (List Spot)} {s0 : Int} {s1 : Int} {N : Nat} {v10 : Int} {k1 : Int → (List Spot) → Option (Bool × (List Spot))} {v9' : Int} {g : _ → Option (Bool × (List Spot))} (hn : Nat.beq (nid * 1000 + firstRegion b) 1000018 = true) (hz : Sf103_c18.ok p = true) (h : g (f103_c18 s0 s1 N v10 k1 v9') = some r → vc c p nid a st (KHead Sf103_c18 (Yf103_c18 s0 s1 v10 v9') (Xf103_c18 s0 s1 v10 v9') (Jf103_c18 s0 s1 N v10 k1 v9' r) K)) (h2 : ∀ (b0' : List Spot), f103_c18 s0 s1 N v10 k1 v9' b0' = some r → vc c p nid b (St.mk' Sf103_c18 (Vf103_c18 s0 s1 v10 v9' b0') (Bf103_c18 s0 s1 v10 v9' b0')) K) (hF : joinK (f103_c18 s0 s1 N v10 k1 v9') g = some r) : vc c p nid (.seq a b) st K :=
  vc_cut Sf103_c18 (Yf103_c18 s0 s1 v10 v9') (Xf103_c18 s0 s1 v10 v9') (Jf103_c18 s0 s1 N v10 k1 v9' r) hz (h hF) fun y hy => h2 y hy
theorem Zf103_c18 {r : Bool × (List Spot)} {s0 : Int} {s1 : Int} {N : Nat} {v10 : Int} {k1 : Int → (List Spot) → Option (Bool × (List Spot))} {v9' : Int} {b0' : List Spot} {m0 : Nat} (hF : f103_c18 s0 s1 N v10 k1 v9' b0' = some r) (h0 : AtH Sf103_c18 st (V2f103_c18 s0 s1 v10 v9' b0' m0) (B2f103_c18 s0 s1 v10 v9' b0' m0)) (em0 : m0 = List.length (b0')) : KHead Sf103_c18 (Yf103_c18 s0 s1 v10 v9') (Xf103_c18 s0 s1 v10 v9') (Jf103_c18 s0 s1 N v10 k1 v9' r) K .normal st := by
  subst em0; exact khead (I := (Jf103_c18 s0 s1 N v10 k1 v9' r)) (x := (b0')) hF h0
def f103_14b (r14 : Int → (List Spot) → Option (Bool × (List Spot))) (s0 : Int) (s1 : Int) (N : Nat) (v10 : Int) (v9' : Int) (k2 : (List Spot) → Option (Bool × (List Spot))) (v11 : Int) (b0' : List Spot) : Option (Bool × (List Spot)) :=
 bif decide ((1 : Int) ≤ v11) then ((ix (b0') v11).bind fun x16 =>
 (ix (b0') (W (v11 - (1 : Int)))).bind fun x17 =>
 (f91 N x16 x17).bind fun x18 =>
 bif !(decide (x18 < (0 : Int))) then (k2 (b0'))
 else ((ix (b0') (W (v11 - (1 : Int)))).bind fun x19 =>
 (ix (b0') v11).bind fun x20 =>
 (ix (b0') v11).bind fun x21 =>
 (setx (b0') v11 x19).bind fun x22 =>
 (ix x22 (W (v11 - (1 : Int)))).bind fun x23 =>
 (setx x22 (W (v11 - (1 : Int))) x20).bind fun x24 =>
 r14 (W (v11 - (1 : Int))) x24))
 else (k2 (b0'))
def f103_14 (s0 : Int) (s1 : Int) (N : Nat) (v10 : Int) (v9' : Int) (k2 : (List Spot) → Option (Bool × (List Spot))) : Nat → Int → (List Spot) → Option (Bool × (List Spot))
  | 0, _, _ => none
  | n + 1, v11, b0' => f103_14b (f103_14 s0 s1 N v10 v9' k2 n) s0 s1 N v10 v9' k2 v11 b0'
def Sf103_14 : Ann := ⟨[0, 1, 2, 3, 9, 10, 11], [0], [], []⟩
def Vf103_14 (s0 : Int) (s1 : Int) (v10 : Int) (v9' : Int) (v11 : Int) (b0' : List Spot) : List SV := [.rs 0 (List.length (b0')), .dat (iN s0), .dat (iN s1), .dat (.v (.func (.func 91) #[] #[])), .dat (iN (v9')), .dat (iN v10), .dat (iN v11)]
def Bf103_14 (s0 : Int) (s1 : Int) (v10 : Int) (v9' : Int) (v11 : Int) (b0' : List Spot) : List Blk := [.row 73 3 (List.map Spot.d (b0'))]
def Yf103_14 (s0 : Int) (s1 : Int) (v10 : Int) (v9' : Int) (y : Nat × Int × (List Spot)) : List SV := Vf103_14 s0 s1 v10 v9' y.2.1 y.2.2
def Xf103_14 (s0 : Int) (s1 : Int) (v10 : Int) (v9' : Int) (y : Nat × Int × (List Spot)) : List Blk := Bf103_14 s0 s1 v10 v9' y.2.1 y.2.2
def Jf103_14 (s0 : Int) (s1 : Int) (N : Nat) (v10 : Int) (v9' : Int) (k2 : (List Spot) → Option (Bool × (List Spot))) (r : Bool × (List Spot)) (y : Nat × Int × (List Spot)) : Prop := f103_14 s0 s1 N v10 v9' k2 y.1 y.2.1 y.2.2 = some r
def V2f103_14 (s0 : Int) (s1 : Int) (v10 : Int) (v9' : Int) (v11 : Int) (b0' : List Spot) (m0 : Nat) : List SV := [.rs 0 m0, .dat (iN s0), .dat (iN s1), .dat (.v (.func (.func 91) #[] #[])), .dat (iN (v9')), .dat (iN v10), .dat (iN v11)]
def B2f103_14 (s0 : Int) (s1 : Int) (v10 : Int) (v9' : Int) (v11 : Int) (b0' : List Spot) (m0 : Nat) : List Blk := [.row 73 3 (List.map Spot.d (b0'))]
theorem Lf103_14 {r : Bool × (List Spot)} {s0 : Int} {s1 : Int} {N : Nat} {v10 : Int} {v9' : Int} {k2 : (List Spot) → Option (Bool × (List Spot))} {fu : Nat} {v11 : Int} {b0' : List Spot} {m0 : Nat} (hz : Sf103_14.ok p = true) (h0 : AtH Sf103_14 st (V2f103_14 s0 s1 v10 v9' v11 b0' m0) (B2f103_14 s0 s1 v10 v9' v11 b0' m0)) (em0 : m0 = List.length (b0')) (h : ∀ (n : Nat) (v11 : Int) (b0' : List Spot), f103_14b (f103_14 s0 s1 N v10 v9' k2 n) s0 s1 N v10 v9' k2 v11 b0' = some r → vc c p nid a (St.mk' Sf103_14 (Vf103_14 s0 s1 v10 v9' v11 b0') (Bf103_14 s0 s1 v10 v9' v11 b0')) (Kloop Sf103_14 (Yf103_14 s0 s1 v10 v9') (Xf103_14 s0 s1 v10 v9') (Jf103_14 s0 s1 N v10 v9' k2 r) Prod.fst (n + 1, v11, b0') K)) (hF : f103_14 s0 s1 N v10 v9' k2 fu v11 b0' = some r) : vc c p nid (.loop a) st K := by
  subst em0; refine vc_loop Sf103_14 (Yf103_14 s0 s1 v10 v9') (Xf103_14 s0 s1 v10 v9') (Jf103_14 s0 s1 N v10 v9' k2 r) Prod.fst hz (kheadL (x := (fu, v11, b0')) hF h0) ?_
  rintro ⟨_ | n, v11, b0'⟩ hI
  · cases hI
  · exact h n v11 b0' hI
theorem Mf103_14 {r : Bool × (List Spot)} {s0 : Int} {s1 : Int} {N : Nat} {v10 : Int} {v9' : Int} {k2 : (List Spot) → Option (Bool × (List Spot))} {n : Nat} {v11 : Int} {b0' : List Spot} {v11_ : Int} {b0'_ : List Spot} {m0 : Nat} (hF : f103_14 s0 s1 N v10 v9' k2 n v11 b0' = some r) (h0 : AtH Sf103_14 st (V2f103_14 s0 s1 v10 v9' v11 b0' m0) (B2f103_14 s0 s1 v10 v9' v11 b0' m0)) (em0 : m0 = List.length (b0')) : Kloop Sf103_14 (Yf103_14 s0 s1 v10 v9') (Xf103_14 s0 s1 v10 v9') (Jf103_14 s0 s1 N v10 v9' k2 r) Prod.fst (n + 1, v11_, b0'_) K .normal st := by
  subst em0; exact kback (y := (n, v11, b0')) hF (Nat.lt_succ_self n) h0
def f103_c7 (s0 : Int) (s1 : Int) (N : Nat) (v10 : Int) (b0 : List Spot) (k1 : Int → (List Spot) → Option (Bool × (List Spot))) (v9' : Int) : Option (Bool × (List Spot)) :=
 bif decide ((v9') = s1) then (some (true, b0))
 else (bif decide ((W (s1 - s0)) < (50 : Int)) then (some (false, b0))
 else ((ix b0 (W ((v9') - (1 : Int)))).bind fun x1 =>
 (ix b0 (v9')).bind fun x2 =>
 (ix b0 (v9')).bind fun x3 =>
 (setx b0 (v9') x1).bind fun x4 =>
 (ix x4 (W ((v9') - (1 : Int)))).bind fun x5 =>
 (setx x4 (W ((v9') - (1 : Int))) x2).bind fun x6 =>
 joinK (f103_c18 s0 s1 N v10 k1 v9') fun k2 =>
 bif decide ((2 : Int) ≤ (W ((v9') - s0))) then (f103_14 s0 s1 N v10 v9' k2 N (W ((v9') - (1 : Int))) x6)
 else (k2 x6)))
def Sf103_c7 : Ann := ⟨[0, 1, 2, 3, 9, 10], [0], [], []⟩
def Vf103_c7 (s0 : Int) (s1 : Int) (v10 : Int) (b0 : List Spot) (v9' : Int) : List SV := [.rs 0 (List.length b0), .dat (iN s0), .dat (iN s1), .dat (.v (.func (.func 91) #[] #[])), .dat (iN (v9')), .dat (iN v10)]
def Bf103_c7 (s0 : Int) (s1 : Int) (v10 : Int) (b0 : List Spot) (v9' : Int) : List Blk := [.row 73 3 (List.map Spot.d b0)]
def Yf103_c7 (s0 : Int) (s1 : Int) (v10 : Int) (b0 : List Spot) (y : Int) : List SV := Vf103_c7 s0 s1 v10 b0 y
def Xf103_c7 (s0 : Int) (s1 : Int) (v10 : Int) (b0 : List Spot) (y : Int) : List Blk := Bf103_c7 s0 s1 v10 b0 y
def Jf103_c7 (s0 : Int) (s1 : Int) (N : Nat) (v10 : Int) (b0 : List Spot) (k1 : Int → (List Spot) → Option (Bool × (List Spot))) (r : Bool × (List Spot)) (y : Int) : Prop := f103_c7 s0 s1 N v10 b0 k1 y = some r
def V2f103_c7 (s0 : Int) (s1 : Int) (v10 : Int) (b0 : List Spot) (v9' : Int) (m0 : Nat) : List SV := [.rs 0 m0, .dat (iN s0), .dat (iN s1), .dat (.v (.func (.func 91) #[] #[])), .dat (iN (v9')), .dat (iN v10)]
def B2f103_c7 (s0 : Int) (s1 : Int) (v10 : Int) (b0 : List Spot) (v9' : Int) (m0 : Nat) : List Blk := [.row 73 3 (List.map Spot.d b0)]
theorem Cf103_c7 {r : Bool × (List Spot)} {s0 : Int} {s1 : Int} {N : Nat} {v10 : Int} {b0 : List Spot} {k1 : Int → (List Spot) → Option (Bool × (List Spot))} {g : _ → Option (Bool × (List Spot))} (hn : Nat.beq (nid * 1000 + firstRegion b) 1000007 = true) (hz : Sf103_c7.ok p = true) (h : g (f103_c7 s0 s1 N v10 b0 k1) = some r → vc c p nid a st (KHead Sf103_c7 (Yf103_c7 s0 s1 v10 b0) (Xf103_c7 s0 s1 v10 b0) (Jf103_c7 s0 s1 N v10 b0 k1 r) K)) (h2 : ∀ (v9' : Int), f103_c7 s0 s1 N v10 b0 k1 v9' = some r → vc c p nid b (St.mk' Sf103_c7 (Vf103_c7 s0 s1 v10 b0 v9') (Bf103_c7 s0 s1 v10 b0 v9')) K) (hF : joinK (f103_c7 s0 s1 N v10 b0 k1) g = some r) : vc c p nid (.seq a b) st K :=
  vc_cut Sf103_c7 (Yf103_c7 s0 s1 v10 b0) (Xf103_c7 s0 s1 v10 b0) (Jf103_c7 s0 s1 N v10 b0 k1 r) hz (h hF) fun y hy => h2 y hy
theorem Zf103_c7 {r : Bool × (List Spot)} {s0 : Int} {s1 : Int} {N : Nat} {v10 : Int} {b0 : List Spot} {k1 : Int → (List Spot) → Option (Bool × (List Spot))} {v9' : Int} {m0 : Nat} (hF : f103_c7 s0 s1 N v10 b0 k1 v9' = some r) (h0 : AtH Sf103_c7 st (V2f103_c7 s0 s1 v10 b0 v9' m0) (B2f103_c7 s0 s1 v10 b0 v9' m0)) (em0 : m0 = List.length b0) : KHead Sf103_c7 (Yf103_c7 s0 s1 v10 b0) (Xf103_c7 s0 s1 v10 b0) (Jf103_c7 s0 s1 N v10 b0 k1 r) K .normal st := by
  subst em0; exact khead (I := (Jf103_c7 s0 s1 N v10 b0 k1 r)) (x := (v9')) hF h0
def f103_5b (r5 : Int → Option (Bool × (List Spot))) (s0 : Int) (s1 : Int) (N : Nat) (v10 : Int) (b0 : List Spot) (k3 : Int → Option (Bool × (List Spot))) (v9' : Int) : Option (Bool × (List Spot)) :=
 bif decide ((v9') < s1) then ((ix b0 (v9')).bind fun x25 =>
 (ix b0 (W ((v9') - (1 : Int)))).bind fun x26 =>
 (f91 N x25 x26).bind fun x27 =>
 bif !(decide (x27 < (0 : Int))) then (r5 (W ((v9') + (1 : Int))))
 else (k3 (v9')))
 else (k3 (v9'))
def f103_5 (s0 : Int) (s1 : Int) (N : Nat) (v10 : Int) (b0 : List Spot) (k3 : Int → Option (Bool × (List Spot))) : Nat → Int → Option (Bool × (List Spot))
  | 0, _ => none
  | n + 1, v9' => f103_5b (f103_5 s0 s1 N v10 b0 k3 n) s0 s1 N v10 b0 k3 v9'
def Sf103_5 : Ann := ⟨[0, 1, 2, 3, 9, 10], [0], [], []⟩
def Vf103_5 (s0 : Int) (s1 : Int) (v10 : Int) (b0 : List Spot) (v9' : Int) : List SV := [.rs 0 (List.length b0), .dat (iN s0), .dat (iN s1), .dat (.v (.func (.func 91) #[] #[])), .dat (iN (v9')), .dat (iN v10)]
def Bf103_5 (s0 : Int) (s1 : Int) (v10 : Int) (b0 : List Spot) (v9' : Int) : List Blk := [.row 73 3 (List.map Spot.d b0)]
def Yf103_5 (s0 : Int) (s1 : Int) (v10 : Int) (b0 : List Spot) (y : Nat × Int) : List SV := Vf103_5 s0 s1 v10 b0 y.2
def Xf103_5 (s0 : Int) (s1 : Int) (v10 : Int) (b0 : List Spot) (y : Nat × Int) : List Blk := Bf103_5 s0 s1 v10 b0 y.2
def Jf103_5 (s0 : Int) (s1 : Int) (N : Nat) (v10 : Int) (b0 : List Spot) (k3 : Int → Option (Bool × (List Spot))) (r : Bool × (List Spot)) (y : Nat × Int) : Prop := f103_5 s0 s1 N v10 b0 k3 y.1 y.2 = some r
def V2f103_5 (s0 : Int) (s1 : Int) (v10 : Int) (b0 : List Spot) (v9' : Int) (m0 : Nat) : List SV := [.rs 0 m0, .dat (iN s0), .dat (iN s1), .dat (.v (.func (.func 91) #[] #[])), .dat (iN (v9')), .dat (iN v10)]
def B2f103_5 (s0 : Int) (s1 : Int) (v10 : Int) (b0 : List Spot) (v9' : Int) (m0 : Nat) : List Blk := [.row 73 3 (List.map Spot.d b0)]
theorem Lf103_5 {r : Bool × (List Spot)} {s0 : Int} {s1 : Int} {N : Nat} {v10 : Int} {b0 : List Spot} {k3 : Int → Option (Bool × (List Spot))} {fu : Nat} {v9' : Int} {m0 : Nat} (hz : Sf103_5.ok p = true) (h0 : AtH Sf103_5 st (V2f103_5 s0 s1 v10 b0 v9' m0) (B2f103_5 s0 s1 v10 b0 v9' m0)) (em0 : m0 = List.length b0) (h : ∀ (n : Nat) (v9' : Int), f103_5b (f103_5 s0 s1 N v10 b0 k3 n) s0 s1 N v10 b0 k3 v9' = some r → vc c p nid a (St.mk' Sf103_5 (Vf103_5 s0 s1 v10 b0 v9') (Bf103_5 s0 s1 v10 b0 v9')) (Kloop Sf103_5 (Yf103_5 s0 s1 v10 b0) (Xf103_5 s0 s1 v10 b0) (Jf103_5 s0 s1 N v10 b0 k3 r) Prod.fst (n + 1, v9') K)) (hF : f103_5 s0 s1 N v10 b0 k3 fu v9' = some r) : vc c p nid (.loop a) st K := by
  subst em0; refine vc_loop Sf103_5 (Yf103_5 s0 s1 v10 b0) (Xf103_5 s0 s1 v10 b0) (Jf103_5 s0 s1 N v10 b0 k3 r) Prod.fst hz (kheadL (x := (fu, v9')) hF h0) ?_
  rintro ⟨_ | n, v9'⟩ hI
  · cases hI
  · exact h n v9' hI
theorem Mf103_5 {r : Bool × (List Spot)} {s0 : Int} {s1 : Int} {N : Nat} {v10 : Int} {b0 : List Spot} {k3 : Int → Option (Bool × (List Spot))} {n : Nat} {v9' : Int} {v9'_ : Int} {m0 : Nat} (hF : f103_5 s0 s1 N v10 b0 k3 n v9' = some r) (h0 : AtH Sf103_5 st (V2f103_5 s0 s1 v10 b0 v9' m0) (B2f103_5 s0 s1 v10 b0 v9' m0)) (em0 : m0 = List.length b0) : Kloop Sf103_5 (Yf103_5 s0 s1 v10 b0) (Xf103_5 s0 s1 v10 b0) (Jf103_5 s0 s1 N v10 b0 k3 r) Prod.fst (n + 1, v9'_) K .normal st := by
  subst em0; exact kback (y := (n, v9')) hF (Nat.lt_succ_self n) h0
def f103_3b (r3 : Int → Int → (List Spot) → Option (Bool × (List Spot))) (s0 : Int) (s1 : Int) (N : Nat) (k0 : (List Spot) → Option (Bool × (List Spot))) (v9 : Int) (v10 : Int) (b0 : List Spot) : Option (Bool × (List Spot)) :=
 bif decide (v10 < (5 : Int)) then (joinK (f103_c4 s0 s1 v10 r3) fun k1 =>
 joinK (f103_c7 s0 s1 N v10 b0 k1) fun k3 =>
 f103_5 s0 s1 N v10 b0 k3 N v9)
 else (k0 b0)
def f103_3 (s0 : Int) (s1 : Int) (N : Nat) (k0 : (List Spot) → Option (Bool × (List Spot))) : Nat → Int → Int → (List Spot) → Option (Bool × (List Spot))
  | 0, _, _, _ => none
  | n + 1, v9, v10, b0 => f103_3b (f103_3 s0 s1 N k0 n) s0 s1 N k0 v9 v10 b0
def Sf103_3 : Ann := ⟨[0, 1, 2, 3, 9, 10], [0], [], []⟩
def Vf103_3 (s0 : Int) (s1 : Int) (v9 : Int) (v10 : Int) (b0 : List Spot) : List SV := [.rs 0 (List.length b0), .dat (iN s0), .dat (iN s1), .dat (.v (.func (.func 91) #[] #[])), .dat (iN v9), .dat (iN v10)]
def Bf103_3 (s0 : Int) (s1 : Int) (v9 : Int) (v10 : Int) (b0 : List Spot) : List Blk := [.row 73 3 (List.map Spot.d b0)]
def Yf103_3 (s0 : Int) (s1 : Int) (y : Nat × Int × Int × (List Spot)) : List SV := Vf103_3 s0 s1 y.2.1 y.2.2.1 y.2.2.2
def Xf103_3 (s0 : Int) (s1 : Int) (y : Nat × Int × Int × (List Spot)) : List Blk := Bf103_3 s0 s1 y.2.1 y.2.2.1 y.2.2.2
def Jf103_3 (s0 : Int) (s1 : Int) (N : Nat) (k0 : (List Spot) → Option (Bool × (List Spot))) (r : Bool × (List Spot)) (y : Nat × Int × Int × (List Spot)) : Prop := f103_3 s0 s1 N k0 y.1 y.2.1 y.2.2.1 y.2.2.2 = some r
def V2f103_3 (s0 : Int) (s1 : Int) (v9 : Int) (v10 : Int) (b0 : List Spot) (m0 : Nat) : List SV := [.rs 0 m0, .dat (iN s0), .dat (iN s1), .dat (.v (.func (.func 91) #[] #[])), .dat (iN v9), .dat (iN v10)]
def B2f103_3 (s0 : Int) (s1 : Int) (v9 : Int) (v10 : Int) (b0 : List Spot) (m0 : Nat) : List Blk := [.row 73 3 (List.map Spot.d b0)]
theorem Lf103_3 {r : Bool × (List Spot)} {s0 : Int} {s1 : Int} {N : Nat} {k0 : (List Spot) → Option (Bool × (List Spot))} {fu : Nat} {v9 : Int} {v10 : Int} {b0 : List Spot} {m0 : Nat} (hz : Sf103_3.ok p = true) (h0 : AtH Sf103_3 st (V2f103_3 s0 s1 v9 v10 b0 m0) (B2f103_3 s0 s1 v9 v10 b0 m0)) (em0 : m0 = List.length b0) (h : ∀ (n : Nat) (v9 : Int) (v10 : Int) (b0 : List Spot), f103_3b (f103_3 s0 s1 N k0 n) s0 s1 N k0 v9 v10 b0 = some r → vc c p nid a (St.mk' Sf103_3 (Vf103_3 s0 s1 v9 v10 b0) (Bf103_3 s0 s1 v9 v10 b0)) (Kloop Sf103_3 (Yf103_3 s0 s1) (Xf103_3 s0 s1) (Jf103_3 s0 s1 N k0 r) Prod.fst (n + 1, v9, v10, b0) K)) (hF : f103_3 s0 s1 N k0 fu v9 v10 b0 = some r) : vc c p nid (.loop a) st K := by
  subst em0; refine vc_loop Sf103_3 (Yf103_3 s0 s1) (Xf103_3 s0 s1) (Jf103_3 s0 s1 N k0 r) Prod.fst hz (kheadL (x := (fu, v9, v10, b0)) hF h0) ?_
  rintro ⟨_ | n, v9, v10, b0⟩ hI
  · cases hI
  · exact h n v9 v10 b0 hI
theorem Mf103_3 {r : Bool × (List Spot)} {s0 : Int} {s1 : Int} {N : Nat} {k0 : (List Spot) → Option (Bool × (List Spot))} {n : Nat} {v9 : Int} {v10 : Int} {b0 : List Spot} {v9_ : Int} {v10_ : Int} {b0_ : List Spot} {m0 : Nat} (hF : f103_3 s0 s1 N k0 n v9 v10 b0 = some r) (h0 : AtH Sf103_3 st (V2f103_3 s0 s1 v9 v10 b0 m0) (B2f103_3 s0 s1 v9 v10 b0 m0)) (em0 : m0 = List.length b0) : Kloop Sf103_3 (Yf103_3 s0 s1) (Xf103_3 s0 s1) (Jf103_3 s0 s1 N k0 r) Prod.fst (n + 1, v9_, v10_, b0_) K .normal st := by
  subst em0; exact kback (y := (n, v9, v10, b0)) hF (Nat.lt_succ_self n) h0
def f103b (self : Int → Int → (List Spot) → Option (Bool × (List Spot))) (N : Nat) (s0 : Int) (s1 : Int) (s2 : List Spot) : Option (Bool × (List Spot)) :=
 joinK f103_c24 fun k0 =>
 f103_3 s0 s1 N k0 N (W (s0 + (1 : Int))) (0 : Int) s2
def f103 : Nat → Int → Int → (List Spot) → Option (Bool × (List Spot))
  | 0, _, _, _ => none
  | N + 1, s0, s1, s2 => f103b (f103 N) N s0 s1 s2
def Af103 (s0 : Int) (s1 : Int) (s2 : List Spot) : List SV := [.rs 0 (List.length s2), .dat (iN s0), .dat (iN s1), .dat (.v (.func (.func 91) #[] #[]))]
def Bf103 (s0 : Int) (s1 : Int) (s2 : List Spot) : List Blk := [.row 73 3 (List.map Spot.d s2)]
def Rf103 (y : Bool × (List Spot)) : List SV := [.kb y.1]
def B1f103 (s0 : Int) (s1 : Int) (s2 : List Spot) (y : Bool × (List Spot)) : List Blk := [.row 73 3 (List.map Spot.d y.2)]
def BZf103 (y : Bool × (List Spot)) : Blk := .unborn
def Spf103 : Spec (Int × Int × (List Spot)) (Bool × (List Spot)) := ⟨1, fun x => Af103 x.1 x.2.1 x.2.2, fun x => Bf103 x.1 x.2.1 x.2.2, fun _ y => Rf103 y, fun x y => B1f103 x.1 x.2.1 x.2.2 y, fun _ y => BZf103 y⟩
def H103 (N : Nat) (x : Int × Int × (List Spot)) (y : Bool × (List Spot)) : Prop := f103 N x.1 x.2.1 x.2.2 = some y
def G103 (x : Int × Int × (List Spot)) (y : Bool × (List Spot)) : Prop := ∃ N, H103 N x y
theorem H103.step {N : Nat} {s0 : Int} {s1 : Int} {s2 : List Spot} {m0 : Nat} {ρ : Type} {A : (Bool × (List Spot)) → Option ρ} {q : ρ} {xs : List SV} {id : Nat} {m : Nat → Blk} {l : List Loc} {K : Dl → List Loc → Prop} {k0 : Nat} (ha : xs = [.rs k0 m0, .dat (iN s0), .dat (iN s1), .dat (.v (.func (.func 91) #[] #[]))]) (b0 : m k0 = .row 73 3 (List.map Spot.d s2)) (em0 : m0 = List.length s2) (hu : m id = .unborn) (hn : nodupB [k0] = true) (h : ∀ y, A y = some q → K ⟨.kb y.1, [(k0, .row 73 3 (List.map Spot.d y.2)), (id, .unborn)]⟩ l) (hF : (f103 N s0 s1 s2).bind A = some q) : effPg Spf103 (H103 N) xs id (fun _ => SV.no) m l K := by
  subst em0; obtain ⟨y, hy, hA⟩ := bind_some hF
  exact eff_step [k0] (s0, s1, s2) y _ hy rfl hn ha (by simp only [List.map_cons, List.map_nil, b0]; rfl) hu rfl rfl (h y hA)
theorem G103.step {N : Nat} {s0 : Int} {s1 : Int} {s2 : List Spot} {m0 : Nat} {ρ : Type} {A : (Bool × (List Spot)) → Option ρ} {q : ρ} {xs : List SV} {id : Nat} {m : Nat → Blk} {l : List Loc} {K : Dl → List Loc → Prop} {k0 : Nat} (ha : xs = [.rs k0 m0, .dat (iN s0), .dat (iN s1), .dat (.v (.func (.func 91) #[] #[]))]) (b0 : m k0 = .row 73 3 (List.map Spot.d s2)) (em0 : m0 = List.length s2) (hu : m id = .unborn) (hn : nodupB [k0] = true) (h : ∀ y, A y = some q → K ⟨.kb y.1, [(k0, .row 73 3 (List.map Spot.d y.2)), (id, .unborn)]⟩ l) (hF : (f103 N s0 s1 s2).bind A = some q) : effPg Spf103 (G103) xs id (fun _ => SV.no) m l K := by
  subst em0; obtain ⟨y, hy, hA⟩ := bind_some hF
  exact eff_step [k0] (s0, s1, s2) y _ ⟨N, hy⟩ rfl hn ha (by simp only [List.map_cons, List.map_nil, b0]; rfl) hu rfl rfl (h y hA)
def Srf103 : Ann := ⟨[0], [0, 500], [], []⟩
set_option maxRecDepth 20000 in
set_option maxHeartbeats 4000000 in
theorem Q103 (N : Nat) : CallOK Try.prog 103 (effPg Spf103 (H103 N)) := by
  induction N with
  | zero => exact eff_none fun x y h => (by cases (show (none : Option (Bool × (List Spot))) = some y from h))
  | succ N ih =>
    refine eff_of_vc (c := mkCtx tyTree [(103, false, effPg Spf103 (H103 N)), (91, true, lendPg [[0, 0, 0], [0, 0, 0]] G91)]) rfl tyOK (ctx_eff (callable Try.func103 rfl rfl) ih (ctx_lend (callable Try.func91 rfl rfl) P91 (ctx_nil))) 1000 500 Srf103 Try.func103 rfl rfl (by kernel_rfl) rfl rfl rfl rfl rfl (fun _ => rfl) (fun _ => rfl) (fun _ _ => ⟨rfl, rfl⟩) ?_
    rintro ⟨s0, s1, s2⟩ y hF
    have hF : f103b (f103 N) N s0 s1 s2 = some y := hF
    show vc _ _ _ _ ⟨[(0, .rs 0 (List.length s2)), (1, .dat (iN s0)), (2, .dat (iN s1)), (3, .dat (.v (.func (.func 91) #[] #[])))], [(0, .row 73 3 (List.map Spot.d s2))]⟩ _
    unfold f103b at hF
    repeat' (first
      | ((with_reducible refine q0 _ _ ?_); clear Q q0 q1 q2)
      | ((with_reducible refine q1 _ _ _ _ ?_); clear Q q0 q1 q2)
      | ((with_reducible refine q2 _ _ _ ?_); clear Q q0 q1 q2)
      | ((with_reducible refine seq_op ?hx (fun Q q0 q1 q2 => ?_)); (case hx => exact rfl); conv => whnf)
      | ((with_reducible refine draw_op ?hx (fun Q q0 q1 q2 => ?_)); (case hx => exact rfl); conv => whnf)
      | ((with_reducible refine seq_op0 ?hx (fun Q q0 q1 q2 => ?_)); (case hx => exact rfl); conv => whnf)
      | ((with_reducible refine draw_op0 ?hx (fun Q q0 q1 q2 => ?_)); (case hx => exact rfl); conv => whnf)
      | ((with_reducible refine seq_off ?hx ?_); (case hx => exact rfl))
      | ((with_reducible refine seq_off0 ?hx ?_); (case hx => exact rfl))
      | ((with_reducible refine draw_off ?hx ?_); (case hx => exact rfl))
      | ((with_reducible refine draw_off0 ?hx ?_); (case hx => exact rfl))
      | ((with_reducible refine draw_id ?_); (first | ((refine draw_opK rfl ?hy (fun Q q0 q1 q2 => ?_)); (case hy => first | assumption | exact notT (by assumption) | exact rfl); conv => whnf) | ((refine draw_offK rfl ?hy ?_); (case hy => first | assumption | exact notF (by assumption) | exact rfl)) | ((refine draw_opK0 rfl ?hy (fun Q q0 q1 q2 => ?_)); (case hy => first | assumption | exact notT (by assumption) | exact rfl); conv => whnf) | ((refine draw_offK0 rfl ?hy ?_); (case hy => first | assumption | exact notF (by assumption) | exact rfl)) | (revert hF; (with_reducible refine draw_opF ?hx ?_ ?_); (case hx => exact rfl); (intro hc hF Q q0 q1 q2; conv => whnf); rotate_left; (intro hc hF); rotate_right) | (revert hF; (with_reducible refine draw_opN ?hx ?_ ?_); (case hx => exact rfl); (intro hc hF); rotate_left; (intro hc hF Q q0 q1 q2; conv => whnf); rotate_right) | (revert hF; (with_reducible refine draw_opF0 ?hx ?_ ?_); (case hx => exact rfl); (intro hc hF Q q0 q1 q2; conv => whnf); rotate_left; (intro hc hF); rotate_right) | (revert hF; (with_reducible refine draw_opN0 ?hx ?_ ?_); (case hx => exact rfl); (intro hc hF); rotate_left; (intro hc hF Q q0 q1 q2; conv => whnf); rotate_right)))
      | ((with_reducible refine cond_id ?_); (first | ((refine condKT rfl ?hy ?_); (case hy => first | assumption | exact notT (by assumption) | exact rfl)) | ((refine condKF rfl ?hy ?_); (case hy => first | assumption | exact notF (by assumption) | exact rfl)) | (revert hF; (with_reducible refine condF ?hx ?_ ?_); (case hx => exact rfl); all_goals (intro hc hF))))
      | ((with_reducible refine seq_nil ?_); (first | ((with_reducible refine hR _ ?_); clear R hR) | ((with_reducible refine hL _ ?_); clear L hL)))
      | ((with_reducible refine draw_nil ?_); (with_reducible refine hR _ _ ?hx ?_); (case hx => kernel_rfl); (first | clear R hR | clear hR))
      | ((with_reducible refine int_step ?_); conv => whnf)
      | ((with_reducible refine len_step ?_); conv => whnf)
      | ((with_reducible refine idx2 (by assumption) ?_); conv => whnf)
      | ((with_reducible refine idx3 (by assumption) ?_); conv => whnf)
      | with_reducible refine vc_block ?_
      | with_reducible refine vc_skip ?_
      | with_reducible refine vc_ret ?_
      | with_reducible refine vc_exit ?_
      | ((with_reducible refine vc_seqN [1000024, 1000004, 1000018, 1000007] ?hx ?_); (case hx => exact rfl))
      | (with_reducible refine vc_region (fun R hR => ?_))
      | ((with_reducible refine vc_draw ?hx (fun R hR => ?_)); (case hx => exact rfl))
      | fail
      | (revert hF; (refine Cf103_c24 rfl rfl ?_ ?_); (intro hF); rotate_left; (intro b0 hF; unfold f103_c24 at hF); rotate_right)
      | exact Zf103_c24 hF ⟨_, rfl, rfl, rfl, rfl⟩
      | (revert hF; (refine Cf103_c4 rfl rfl ?_ ?_); (intro hF); rotate_left; (intro v9' b0' hF; unfold f103_c4 at hF); rotate_right)
      | exact Zf103_c4 hF ⟨_, rfl, rfl, rfl, rfl⟩ (by first | exact rfl | assumption | omega)
      | (revert hF; (refine Lf103_20 rfl ⟨_, rfl, rfl, rfl, rfl⟩ (by first | exact rfl | assumption | omega) ?_); intro n v12 b0'' hF; unfold f103_20b at hF)
      | exact Mf103_20 hF ⟨_, rfl, rfl, rfl, rfl⟩ (by first | exact rfl | assumption | omega)
      | (revert hF; (refine Cf103_c18 rfl rfl ?_ ?_); (intro hF); rotate_left; (intro b0' hF; unfold f103_c18 at hF); rotate_right)
      | exact Zf103_c18 hF ⟨_, rfl, rfl, rfl, rfl⟩ (by first | exact rfl | assumption | omega)
      | (revert hF; (refine Lf103_14 rfl ⟨_, rfl, rfl, rfl, rfl⟩ (by first | exact rfl | assumption | omega) ?_); intro n v11 b0' hF; unfold f103_14b at hF)
      | exact Mf103_14 hF ⟨_, rfl, rfl, rfl, rfl⟩ (by first | exact rfl | assumption | omega)
      | (revert hF; (refine Cf103_c7 rfl rfl ?_ ?_); (intro hF); rotate_left; (intro v9' hF; unfold f103_c7 at hF); rotate_right)
      | exact Zf103_c7 hF ⟨_, rfl, rfl, rfl, rfl⟩ (by first | exact rfl | assumption | omega)
      | (revert hF; (refine Lf103_5 rfl ⟨_, rfl, rfl, rfl, rfl⟩ (by first | exact rfl | assumption | omega) ?_); intro n v9' hF; unfold f103_5b at hF)
      | exact Mf103_5 hF ⟨_, rfl, rfl, rfl, rfl⟩ (by first | exact rfl | assumption | omega)
      | (revert hF; (refine Lf103_3 rfl ⟨_, rfl, rfl, rfl, rfl⟩ (by first | exact rfl | assumption | omega) ?_); intro n v9 v10 b0 hF; unfold f103_3b at hF)
      | exact Mf103_3 hF ⟨_, rfl, rfl, rfl, rfl⟩ (by first | exact rfl | assumption | omega)
      | (revert hF; (with_reducible refine G91.lend ?hx ?_); (case hx => exact rfl); intro v hF; conv => whnf)
      | (revert hF; (refine H103.step rfl rfl (by first | exact rfl | assumption | omega) rfl ?hn ?_); (case hn => exact rfl); intro v hF; conv => whnf)
      | (show retE _ _ _ _ _ _; conv => whnf)
      | (cases hF; exact ⟨rfl, rfl, rfl⟩)
      | with_reducible refine k_seq_ret ?_
      | with_reducible refine k_seq_exit ?_
      | with_reducible refine k_blk ?_
      | with_reducible refine k_blk_ret ?_
      | with_reducible refine k_blk_here ?_
      | ((with_reducible refine k_blk_out ?hx ?_); (case hx => exact rfl))
      | with_reducible refine k_loop_ret ?_
      | with_reducible refine k_loop_exit ?_
      | (revert hF; (with_reducible refine idx1 ?hn ?_); (case hn => first | exact rfl | exact (List.length_map _) | assumption | omega | simp); intro x hx hF; conv => whnf)
      | ((refine row_all ?hn ?_); (case hn => first | exact rfl | (simp; done) | (simp; omega)); conv => whnf)
      | ((with_reducible refine le_step ?hn ?_); (case hn => first | exact rfl | assumption | omega); conv => whnf)
      | ((with_reducible have hG := setx_fact hF); clear hF; (refine setx_step hG ?hs (fun q hl hF => ?_)); (case hs => exact rfl); clear hG; conv => whnf)
      | ((refine ⟨?hx, ?_⟩); (case hx => exact ⟨rfl, Nat.le_of_ble_eq_true rfl, rfl⟩); conv => whnf)
      | ((with_reducible refine ex_step ?_); conv => whnf)
      | ((with_reducible refine both_T ?hx ?_); (case hx => first | exact rfl | assumption | exact notT (by assumption)); conv => whnf)
      | ((with_reducible refine both_F ?hx ?_); (case hx => first | exact rfl | assumption | exact notF (by assumption)); conv => whnf)
      | (revert hF; (with_reducible refine ite_step ?_ ?_) <;> (intro hc hF; conv => whnf))
      | ((with_reducible refine vc_condT ?hx ?_); (case hx => exact rfl))
      | ((with_reducible refine vc_condF ?hx ?_); (case hx => exact rfl))
      | (show retD _ _ _ _ _ _; conv => whnf)
      | ((refine ⟨?hx, trivial⟩); (case hx => (cases hF; exact rfl)))
      | ((refine ⟨?hx, ?_⟩); (case hx => decide); conv => whnf)
      | ((with_reducible refine k_seq ?_))
      | (have hF : (none : Option _) = some _ := hF; cases hF))
theorem P103 : CallOK Try.prog 103 (effPg Spf103 G103) := eff_ex Q103
end
end Go.Vc
namespace Go.Vc
open Go.Proofs
set_option linter.unusedVariables false
set_option linter.unnecessarySimpa false
set_option linter.unusedSimpArgs false
section
variable {c : Ctx} {p nid : Nat} {a b : Code} {st : St} {K : Ex → St → Prop}
/- f104: slices.partitionEqualCmpFunc[tusche/serial.Spot] -/
def f104_c11 (v11 : Int) (b0 : List Spot) : Option (Int × (List Spot)) :=
 some (v11, b0)
def Sf104_c11 : Ann := ⟨[11], [0], [], []⟩
def Vf104_c11 (v11 : Int) (b0 : List Spot) : List SV := [.dat (iN v11)]
def Bf104_c11 (v11 : Int) (b0 : List Spot) : List Blk := [.row 73 3 (List.map Spot.d b0)]
def Yf104_c11 (y : Int × (List Spot)) : List SV := Vf104_c11 y.1 y.2
def Xf104_c11 (y : Int × (List Spot)) : List Blk := Bf104_c11 y.1 y.2
def Jf104_c11 (r : Int × (List Spot)) (y : Int × (List Spot)) : Prop := f104_c11 y.1 y.2 = some r
theorem Cf104_c11 {r : Int × (List Spot)} {g : _ → Option (Int × (List Spot))} (hn : Nat.beq (nid * 1000 + firstRegion b) 1000011 = true) (hz : Sf104_c11.ok p = true) (h : g f104_c11 = some r → vc c p nid a st (KHead Sf104_c11 Yf104_c11 Xf104_c11 (Jf104_c11 r) K)) (h2 : ∀ (v11 : Int) (b0 : List Spot), f104_c11 v11 b0 = some r → vc c p nid b (St.mk' Sf104_c11 (Vf104_c11 v11 b0) (Bf104_c11 v11 b0)) K) (hF : joinK f104_c11 g = some r) : vc c p nid (.seq a b) st K :=
  vc_cut Sf104_c11 Yf104_c11 Xf104_c11 (Jf104_c11 r) hz (h hF) fun y hy => h2 y.1 y.2 hy
theorem Zf104_c11 {r : Int × (List Spot)} {v11 : Int} {b0 : List Spot} (hF : f104_c11 v11 b0 = some r) (h0 : AtH Sf104_c11 st (Vf104_c11 v11 b0) (Bf104_c11 v11 b0)) : KHead Sf104_c11 Yf104_c11 Xf104_c11 (Jf104_c11 r) K .normal st := by
  exact khead (I := (Jf104_c11 r)) (x := (v11, b0)) hF h0
def f104_c7 (s0 : Int) (k0 : Int → (List Spot) → Option (Int × (List Spot))) (b0 : List Spot) (r3 : Int → Int → (List Spot) → Option (Int × (List Spot))) (v11' : Int) (v12' : Int) : Option (Int × (List Spot)) :=
 bif decide ((v12') < (v11')) then (k0 (v11') b0)
 else ((ix b0 (v12')).bind fun x7 =>
 (ix b0 (v11')).bind fun x8 =>
 (ix b0 (v11')).bind fun x9 =>
 (setx b0 (v11') x7).bind fun x10 =>
 (ix x10 (v12')).bind fun x11 =>
 (setx x10 (v12') x8).bind fun x12 =>
 r3 (W ((v11') + (1 : Int))) (W ((v12') - (1 : Int))) x12)
def Sf104_c7 : Ann := ⟨[0, 1, 4, 11, 12], [0], [], []⟩
def Vf104_c7 (s0 : Int) (b0 : List Spot) (v11' : Int) (v12' : Int) : List SV := [.rs 0 (List.length b0), .dat (iN s0), .dat (.v (.func (.func 91) #[] #[])), .dat (iN (v11')), .dat (iN (v12'))]
def Bf104_c7 (s0 : Int) (b0 : List Spot) (v11' : Int) (v12' : Int) : List Blk := [.row 73 3 (List.map Spot.d b0)]
def Yf104_c7 (s0 : Int) (b0 : List Spot) (v11' : Int) (y : Int) : List SV := Vf104_c7 s0 b0 v11' y
def Xf104_c7 (s0 : Int) (b0 : List Spot) (v11' : Int) (y : Int) : List Blk := Bf104_c7 s0 b0 v11' y
def Jf104_c7 (s0 : Int) (k0 : Int → (List Spot) → Option (Int × (List Spot))) (b0 : List Spot) (r3 : Int → Int → (List Spot) → Option (Int × (List Spot))) (v11' : Int) (r : Int × (List Spot)) (y : Int) : Prop := f104_c7 s0 k0 b0 r3 v11' y = some r
def V2f104_c7 (s0 : Int) (b0 : List Spot) (v11' : Int) (v12' : Int) (m0 : Nat) : List SV := [.rs 0 m0, .dat (iN s0), .dat (.v (.func (.func 91) #[] #[])), .dat (iN (v11')), .dat (iN (v12'))]
def B2f104_c7 (s0 : Int) (b0 : List Spot) (v11' : Int) (v12' : Int) (m0 : Nat) : List Blk := [.row 73 3 (List.map Spot.d b0)]
theorem Cf104_c7 {r : Int × (List Spot)} {s0 : Int} {k0 : Int → (List Spot) → Option (Int × (List Spot))} {b0 : List Spot} {r3 : Int → Int → (List Spot) → Option (Int × (List Spot))} {v11' : Int} {g : _ → Option (Int × (List Spot))} (hn : Nat.beq (nid * 1000 + firstRegion b) 1000007 = true) (hz : Sf104_c7.ok p = true) (h : g (f104_c7 s0 k0 b0 r3 v11') = some r → vc c p nid a st (KHead Sf104_c7 (Yf104_c7 s0 b0 v11') (Xf104_c7 s0 b0 v11') (Jf104_c7 s0 k0 b0 r3 v11' r) K)) (h2 : ∀ (v12' : Int), f104_c7 s0 k0 b0 r3 v11' v12' = some r → vc c p nid b (St.mk' Sf104_c7 (Vf104_c7 s0 b0 v11' v12') (Bf104_c7 s0 b0 v11' v12')) K) (hF : joinK (f104_c7 s0 k0 b0 r3 v11') g = some r) : vc c p nid (.seq a b) st K :=
  vc_cut Sf104_c7 (Yf104_c7 s0 b0 v11') (Xf104_c7 s0 b0 v11') (Jf104_c7 s0 k0 b0 r3 v11' r) hz (h hF) fun y hy => h2 y hy
theorem Zf104_c7 {r : Int × (List Spot)} {s0 : Int} {k0 : Int → (List Spot) → Option (Int × (List Spot))} {b0 : List Spot} {r3 : Int → Int → (List Spot) → Option (Int × (List Spot))} {v11' : Int} {v12' : Int} {m0 : Nat} (hF : f104_c7 s0 k0 b0 r3 v11' v12' = some r) (h0 : AtH Sf104_c7 st (V2f104_c7 s0 b0 v11' v12' m0) (B2f104_c7 s0 b0 v11' v12' m0)) (em0 : m0 = List.length b0) : KHead Sf104_c7 (Yf104_c7 s0 b0 v11') (Xf104_c7 s0 b0 v11') (Jf104_c7 s0 k0 b0 r3 v11' r) K .normal st := by
  subst em0; exact khead (I := (Jf104_c7 s0 k0 b0 r3 v11' r)) (x := (v12')) hF h0
def f104_5b (r5 : Int → Option (Int × (List Spot))) (s0 : Int) (N : Nat) (b0 : List Spot) (v11' : Int) (k1 : Int → Option (Int × (List Spot))) (v12' : Int) : Option (Int × (List Spot)) :=
 bif decide ((v11') ≤ (v12')) then ((ix b0 s0).bind fun x13 =>
 (ix b0 (v12')).bind fun x14 =>
 (f91 N x13 x14).bind fun x15 =>
 bif decide (x15 < (0 : Int)) then (r5 (W ((v12') - (1 : Int))))
 else (k1 (v12')))
 else (k1 (v12'))
def f104_5 (s0 : Int) (N : Nat) (b0 : List Spot) (v11' : Int) (k1 : Int → Option (Int × (List Spot))) : Nat → Int → Option (Int × (List Spot))
  | 0, _ => none
  | n + 1, v12' => f104_5b (f104_5 s0 N b0 v11' k1 n) s0 N b0 v11' k1 v12'
def Sf104_5 : Ann := ⟨[0, 1, 4, 11, 12], [0], [], []⟩
def Vf104_5 (s0 : Int) (b0 : List Spot) (v11' : Int) (v12' : Int) : List SV := [.rs 0 (List.length b0), .dat (iN s0), .dat (.v (.func (.func 91) #[] #[])), .dat (iN (v11')), .dat (iN (v12'))]
def Bf104_5 (s0 : Int) (b0 : List Spot) (v11' : Int) (v12' : Int) : List Blk := [.row 73 3 (List.map Spot.d b0)]
def Yf104_5 (s0 : Int) (b0 : List Spot) (v11' : Int) (y : Nat × Int) : List SV := Vf104_5 s0 b0 v11' y.2
def Xf104_5 (s0 : Int) (b0 : List Spot) (v11' : Int) (y : Nat × Int) : List Blk := Bf104_5 s0 b0 v11' y.2
def Jf104_5 (s0 : Int) (N : Nat) (b0 : List Spot) (v11' : Int) (k1 : Int → Option (Int × (List Spot))) (r : Int × (List Spot)) (y : Nat × Int) : Prop := f104_5 s0 N b0 v11' k1 y.1 y.2 = some r
def V2f104_5 (s0 : Int) (b0 : List Spot) (v11' : Int) (v12' : Int) (m0 : Nat) : List SV := [.rs 0 m0, .dat (iN s0), .dat (.v (.func (.func 91) #[] #[])), .dat (iN (v11')), .dat (iN (v12'))]
def B2f104_5 (s0 : Int) (b0 : List Spot) (v11' : Int) (v12' : Int) (m0 : Nat) : List Blk := [.row 73 3 (List.map Spot.d b0)]
theorem Lf104_5 {r : Int × (List Spot)} {s0 : Int} {N : Nat} {b0 : List Spot} {v11' : Int} {k1 : Int → Option (Int × (List Spot))} {fu : Nat} {v12' : Int} {m0 : Nat} (hz : Sf104_5.ok p = true) (h0 : AtH Sf104_5 st (V2f104_5 s0 b0 v11' v12' m0) (B2f104_5 s0 b0 v11' v12' m0)) (em0 : m0 = List.length b0) (h : ∀ (n : Nat) (v12' : Int), f104_5b (f104_5 s0 N b0 v11' k1 n) s0 N b0 v11' k1 v12' = some r → vc c p nid a (St.mk' Sf104_5 (Vf104_5 s0 b0 v11' v12') (Bf104_5 s0 b0 v11' v12')) (Kloop Sf104_5 (Yf104_5 s0 b0 v11') (Xf104_5 s0 b0 v11') (Jf104_5 s0 N b0 v11' k1 r) Prod.fst (n + 1, v12') K)) (hF : f104_5 s0 N b0 v11' k1 fu v12' = some r) : vc c p nid (.loop a) st K := by
  subst em0; refine vc_loop Sf104_5 (Yf104_5 s0 b0 v11') (Xf104_5 s0 b0 v11') (Jf104_5 s0 N b0 v11' k1 r) Prod.fst hz (kheadL (x := (fu, v12')) hF h0) ?_
  rintro ⟨_ | n, v12'⟩ hI
  · cases hI
  · exact h n v12' hI
theorem Mf104_5 {r : Int × (List Spot)} {s0 : Int} {N : Nat} {b0 : List Spot} {v11' : Int} {k1 : Int → Option (Int × (List Spot))} {n : Nat} {v12' : Int} {v12'_ : Int} {m0 : Nat} (hF : f104_5 s0 N b0 v11' k1 n v12' = some r) (h0 : AtH Sf104_5 st (V2f104_5 s0 b0 v11' v12' m0) (B2f104_5 s0 b0 v11' v12' m0)) (em0 : m0 = List.length b0) : Kloop Sf104_5 (Yf104_5 s0 b0 v11') (Xf104_5 s0 b0 v11') (Jf104_5 s0 N b0 v11' k1 r) Prod.fst (n + 1, v12'_) K .normal st := by
  subst em0; exact kback (y := (n, v12')) hF (Nat.lt_succ_self n) h0
def f104_c5 (s0 : Int) (N : Nat) (k0 : Int → (List Spot) → Option (Int × (List Spot))) (v12 : Int) (b0 : List Spot) (r3 : Int → Int → (List Spot) → Option (Int × (List Spot))) (v11' : Int) : Option (Int × (List Spot)) :=
 joinK (f104_c7 s0 k0 b0 r3 v11') fun k1 =>
 f104_5 s0 N b0 v11' k1 N v12
def Sf104_c5 : Ann := ⟨[0, 1, 4, 11, 12], [0], [], []⟩
def Vf104_c5 (s0 : Int) (v12 : Int) (b0 : List Spot) (v11' : Int) : List SV := [.rs 0 (List.length b0), .dat (iN s0), .dat (.v (.func (.func 91) #[] #[])), .dat (iN (v11')), .dat (iN v12)]
def Bf104_c5 (s0 : Int) (v12 : Int) (b0 : List Spot) (v11' : Int) : List Blk := [.row 73 3 (List.map Spot.d b0)]
def Yf104_c5 (s0 : Int) (v12 : Int) (b0 : List Spot) (y : Int) : List SV := Vf104_c5 s0 v12 b0 y
def Xf104_c5 (s0 : Int) (v12 : Int) (b0 : List Spot) (y : Int) : List Blk := Bf104_c5 s0 v12 b0 y
def Jf104_c5 (s0 : Int) (N : Nat) (k0 : Int → (List Spot) → Option (Int × (List Spot))) (v12 : Int) (b0 : List Spot) (r3 : Int → Int → (List Spot) → Option (Int × (List Spot))) (r : Int × (List Spot)) (y : Int) : Prop := f104_c5 s0 N k0 v12 b0 r3 y = some r
def V2f104_c5 (s0 : Int) (v12 : Int) (b0 : List Spot) (v11' : Int) (m0 : Nat) : List SV := [.rs 0 m0, .dat (iN s0), .dat (.v (.func (.func 91) #[] #[])), .dat (iN (v11')), .dat (iN v12)]
def B2f104_c5 (s0 : Int) (v12 : Int) (b0 : List Spot) (v11' : Int) (m0 : Nat) : List Blk := [.row 73 3 (List.map Spot.d b0)]
theorem Cf104_c5 {r : Int × (List Spot)} {s0 : Int} {N : Nat} {k0 : Int → (List Spot) → Option (Int × (List Spot))} {v12 : Int} {b0 : List Spot} {r3 : Int → Int → (List Spot) → Option (Int × (List Spot))} {g : _ → Option (Int × (List Spot))} (hn : Nat.beq (nid * 1000 + firstRegion b) 1000005 = true) (hz : Sf104_c5.ok p = true) (h : g (f104_c5 s0 N k0 v12 b0 r3) = some r → vc c p nid a st (KHead Sf104_c5 (Yf104_c5 s0 v12 b0) (Xf104_c5 s0 v12 b0) (Jf104_c5 s0 N k0 v12 b0 r3 r) K)) (h2 : ∀ (v11' : Int), f104_c5 s0 N k0 v12 b0 r3 v11' = some r → vc c p nid b (St.mk' Sf104_c5 (Vf104_c5 s0 v12 b0 v11') (Bf104_c5 s0 v12 b0 v11')) K) (hF : joinK (f104_c5 s0 N k0 v12 b0 r3) g = some r) : vc c p nid (.seq a b) st K :=
  vc_cut Sf104_c5 (Yf104_c5 s0 v12 b0) (Xf104_c5 s0 v12 b0) (Jf104_c5 s0 N k0 v12 b0 r3 r) hz (h hF) fun y hy => h2 y hy
theorem Zf104_c5 {r : Int × (List Spot)} {s0 : Int} {N : Nat} {k0 : Int → (List Spot) → Option (Int × (List Spot))} {v12 : Int} {b0 : List Spot} {r3 : Int → Int → (List Spot) → Option (Int × (List Spot))} {v11' : Int} {m0 : Nat} (hF : f104_c5 s0 N k0 v12 b0 r3 v11' = some r) (h0 : AtH Sf104_c5 st (V2f104_c5 s0 v12 b0 v11' m0) (B2f104_c5 s0 v12 b0 v11' m0)) (em0 : m0 = List.length b0) : KHead Sf104_c5 (Yf104_c5 s0 v12 b0) (Xf104_c5 s0 v12 b0) (Jf104_c5 s0 N k0 v12 b0 r3 r) K .normal st := by
  subst em0; exact khead (I := (Jf104_c5 s0 N k0 v12 b0 r3 r)) (x := (v11')) hF h0
def f104_3_1b (r3x : Int → Option (Int × (List Spot))) (s0 : Int) (N : Nat) (v12 : Int) (b0 : List Spot) (k2 : Int → Option (Int × (List Spot))) (v11' : Int) : Option (Int × (List Spot)) :=
 bif decide ((v11') ≤ v12) then ((ix b0 s0).bind fun x16 =>
 (ix b0 (v11')).bind fun x17 =>
 (f91 N x16 x17).bind fun x18 =>
 bif !(decide (x18 < (0 : Int))) then (r3x (W ((v11') + (1 : Int))))
 else (k2 (v11')))
 else (k2 (v11'))
def f104_3_1 (s0 : Int) (N : Nat) (v12 : Int) (b0 : List Spot) (k2 : Int → Option (Int × (List Spot))) : Nat → Int → Option (Int × (List Spot))
  | 0, _ => none
  | n + 1, v11' => f104_3_1b (f104_3_1 s0 N v12 b0 k2 n) s0 N v12 b0 k2 v11'
def Sf104_3_1 : Ann := ⟨[0, 1, 4, 11, 12], [0], [], []⟩
def Vf104_3_1 (s0 : Int) (v12 : Int) (b0 : List Spot) (v11' : Int) : List SV := [.rs 0 (List.length b0), .dat (iN s0), .dat (.v (.func (.func 91) #[] #[])), .dat (iN (v11')), .dat (iN v12)]
def Bf104_3_1 (s0 : Int) (v12 : Int) (b0 : List Spot) (v11' : Int) : List Blk := [.row 73 3 (List.map Spot.d b0)]
def Yf104_3_1 (s0 : Int) (v12 : Int) (b0 : List Spot) (y : Nat × Int) : List SV := Vf104_3_1 s0 v12 b0 y.2
def Xf104_3_1 (s0 : Int) (v12 : Int) (b0 : List Spot) (y : Nat × Int) : List Blk := Bf104_3_1 s0 v12 b0 y.2
def Jf104_3_1 (s0 : Int) (N : Nat) (v12 : Int) (b0 : List Spot) (k2 : Int → Option (Int × (List Spot))) (r : Int × (List Spot)) (y : Nat × Int) : Prop := f104_3_1 s0 N v12 b0 k2 y.1 y.2 = some r
def V2f104_3_1 (s0 : Int) (v12 : Int) (b0 : List Spot) (v11' : Int) (m0 : Nat) : List SV := [.rs 0 m0, .dat (iN s0), .dat (.v (.func (.func 91) #[] #[])), .dat (iN (v11')), .dat (iN v12)]
def B2f104_3_1 (s0 : Int) (v12 : Int) (b0 : List Spot) (v11' : Int) (m0 : Nat) : List Blk := [.row 73 3 (List.map Spot.d b0)]
theorem Lf104_3_1 {r : Int × (List Spot)} {s0 : Int} {N : Nat} {v12 : Int} {b0 : List Spot} {k2 : Int → Option (Int × (List Spot))} {fu : Nat} {v11' : Int} {m0 : Nat} (hz : Sf104_3_1.ok p = true) (h0 : AtH Sf104_3_1 st (V2f104_3_1 s0 v12 b0 v11' m0) (B2f104_3_1 s0 v12 b0 v11' m0)) (em0 : m0 = List.length b0) (h : ∀ (n : Nat) (v11' : Int), f104_3_1b (f104_3_1 s0 N v12 b0 k2 n) s0 N v12 b0 k2 v11' = some r → vc c p nid a (St.mk' Sf104_3_1 (Vf104_3_1 s0 v12 b0 v11') (Bf104_3_1 s0 v12 b0 v11')) (Kloop Sf104_3_1 (Yf104_3_1 s0 v12 b0) (Xf104_3_1 s0 v12 b0) (Jf104_3_1 s0 N v12 b0 k2 r) Prod.fst (n + 1, v11') K)) (hF : f104_3_1 s0 N v12 b0 k2 fu v11' = some r) : vc c p nid (.loop a) st K := by
  subst em0; refine vc_loop Sf104_3_1 (Yf104_3_1 s0 v12 b0) (Xf104_3_1 s0 v12 b0) (Jf104_3_1 s0 N v12 b0 k2 r) Prod.fst hz (kheadL (x := (fu, v11')) hF h0) ?_
  rintro ⟨_ | n, v11'⟩ hI
  · cases hI
  · exact h n v11' hI
theorem Mf104_3_1 {r : Int × (List Spot)} {s0 : Int} {N : Nat} {v12 : Int} {b0 : List Spot} {k2 : Int → Option (Int × (List Spot))} {n : Nat} {v11' : Int} {v11'_ : Int} {m0 : Nat} (hF : f104_3_1 s0 N v12 b0 k2 n v11' = some r) (h0 : AtH Sf104_3_1 st (V2f104_3_1 s0 v12 b0 v11' m0) (B2f104_3_1 s0 v12 b0 v11' m0)) (em0 : m0 = List.length b0) : Kloop Sf104_3_1 (Yf104_3_1 s0 v12 b0) (Xf104_3_1 s0 v12 b0) (Jf104_3_1 s0 N v12 b0 k2 r) Prod.fst (n + 1, v11'_) K .normal st := by
  subst em0; exact kback (y := (n, v11')) hF (Nat.lt_succ_self n) h0
def f104_3b (r3 : Int → Int → (List Spot) → Option (Int × (List Spot))) (s0 : Int) (N : Nat) (k0 : Int → (List Spot) → Option (Int × (List Spot))) (v11 : Int) (v12 : Int) (b0 : List Spot) : Option (Int × (List Spot)) :=
 joinK (f104_c5 s0 N k0 v12 b0 r3) fun k2 =>
 f104_3_1 s0 N v12 b0 k2 N v11
def f104_3 (s0 : Int) (N : Nat) (k0 : Int → (List Spot) → Option (Int × (List Spot))) : Nat → Int → Int → (List Spot) → Option (Int × (List Spot))
  | 0, _, _, _ => none
  | n + 1, v11, v12, b0 => f104_3b (f104_3 s0 N k0 n) s0 N k0 v11 v12 b0
def Sf104_3 : Ann := ⟨[0, 1, 4, 11, 12], [0], [], []⟩
def Vf104_3 (s0 : Int) (v11 : Int) (v12 : Int) (b0 : List Spot) : List SV := [.rs 0 (List.length b0), .dat (iN s0), .dat (.v (.func (.func 91) #[] #[])), .dat (iN v11), .dat (iN v12)]
def Bf104_3 (s0 : Int) (v11 : Int) (v12 : Int) (b0 : List Spot) : List Blk := [.row 73 3 (List.map Spot.d b0)]
def Yf104_3 (s0 : Int) (y : Nat × Int × Int × (List Spot)) : List SV := Vf104_3 s0 y.2.1 y.2.2.1 y.2.2.2
def Xf104_3 (s0 : Int) (y : Nat × Int × Int × (List Spot)) : List Blk := Bf104_3 s0 y.2.1 y.2.2.1 y.2.2.2
def Jf104_3 (s0 : Int) (N : Nat) (k0 : Int → (List Spot) → Option (Int × (List Spot))) (r : Int × (List Spot)) (y : Nat × Int × Int × (List Spot)) : Prop := f104_3 s0 N k0 y.1 y.2.1 y.2.2.1 y.2.2.2 = some r
def V2f104_3 (s0 : Int) (v11 : Int) (v12 : Int) (b0 : List Spot) (m0 : Nat) : List SV := [.rs 0 m0, .dat (iN s0), .dat (.v (.func (.func 91) #[] #[])), .dat (iN v11), .dat (iN v12)]
def B2f104_3 (s0 : Int) (v11 : Int) (v12 : Int) (b0 : List Spot) (m0 : Nat) : List Blk := [.row 73 3 (List.map Spot.d b0)]
theorem Lf104_3 {r : Int × (List Spot)} {s0 : Int} {N : Nat} {k0 : Int → (List Spot) → Option (Int × (List Spot))} {fu : Nat} {v11 : Int} {v12 : Int} {b0 : List Spot} {m0 : Nat} (hz : Sf104_3.ok p = true) (h0 : AtH Sf104_3 st (V2f104_3 s0 v11 v12 b0 m0) (B2f104_3 s0 v11 v12 b0 m0)) (em0 : m0 = List.length b0) (h : ∀ (n : Nat) (v11 : Int) (v12 : Int) (b0 : List Spot), f104_3b (f104_3 s0 N k0 n) s0 N k0 v11 v12 b0 = some r → vc c p nid a (St.mk' Sf104_3 (Vf104_3 s0 v11 v12 b0) (Bf104_3 s0 v11 v12 b0)) (Kloop Sf104_3 (Yf104_3 s0) (Xf104_3 s0) (Jf104_3 s0 N k0 r) Prod.fst (n + 1, v11, v12, b0) K)) (hF : f104_3 s0 N k0 fu v11 v12 b0 = some r) : vc c p nid (.loop a) st K := by
  subst em0; refine vc_loop Sf104_3 (Yf104_3 s0) (Xf104_3 s0) (Jf104_3 s0 N k0 r) Prod.fst hz (kheadL (x := (fu, v11, v12, b0)) hF h0) ?_
  rintro ⟨_ | n, v11, v12, b0⟩ hI
  · cases hI
  · exact h n v11 v12 b0 hI
theorem Mf104_3 {r : Int × (List Spot)} {s0 : Int} {N : Nat} {k0 : Int → (List Spot) → Option (Int × (List Spot))} {n : Nat} {v11 : Int} {v12 : Int} {b0 : List Spot} {v11_ : Int} {v12_ : Int} {b0_ : List Spot} {m0 : Nat} (hF : f104_3 s0 N k0 n v11 v12 b0 = some r) (h0 : AtH Sf104_3 st (V2f104_3 s0 v11 v12 b0 m0) (B2f104_3 s0 v11 v12 b0 m0)) (em0 : m0 = List.length b0) : Kloop Sf104_3 (Yf104_3 s0) (Xf104_3 s0) (Jf104_3 s0 N k0 r) Prod.fst (n + 1, v11_, v12_, b0_) K .normal st := by
  subst em0; exact kback (y := (n, v11, v12, b0)) hF (Nat.lt_succ_self n) h0
def f104b (self : Int → Int → Int → (List Spot) → Option (Int × (List Spot))) (N : Nat) (s0 : Int) (s1 : Int) (s2 : Int) (s3 : List Spot) : Option (Int × (List Spot)) :=
 (ix s3 s2).bind fun x1 =>
 (ix s3 s0).bind fun x2 =>
 (ix s3 s0).bind fun x3 =>
 (setx s3 s0 x1).bind fun x4 =>
 (ix x4 s2).bind fun x5 =>
 (setx x4 s2 x2).bind fun x6 =>
 joinK f104_c11 fun k0 =>
 f104_3 s0 N k0 N (W (s0 + (1 : Int))) (W (s1 - (1 : Int))) x6
def f104 : Nat → Int → Int → Int → (List Spot) → Option (Int × (List Spot))
  | 0, _, _, _, _ => none
  | N + 1, s0, s1, s2, s3 => f104b (f104 N) N s0 s1 s2 s3
def Af104 (s0 : Int) (s1 : Int) (s2 : Int) (s3 : List Spot) : List SV := [.rs 0 (List.length s3), .dat (iN s0), .dat (iN s1), .dat (iN s2), .dat (.v (.func (.func 91) #[] #[]))]
def Bf104 (s0 : Int) (s1 : Int) (s2 : Int) (s3 : List Spot) : List Blk := [.row 73 3 (List.map Spot.d s3)]
def Rf104 (y : Int × (List Spot)) : List SV := [.dat (iN y.1)]
def B1f104 (s0 : Int) (s1 : Int) (s2 : Int) (s3 : List Spot) (y : Int × (List Spot)) : List Blk := [.row 73 3 (List.map Spot.d y.2)]
def BZf104 (y : Int × (List Spot)) : Blk := .unborn
def Spf104 : Spec (Int × Int × Int × (List Spot)) (Int × (List Spot)) := ⟨1, fun x => Af104 x.1 x.2.1 x.2.2.1 x.2.2.2, fun x => Bf104 x.1 x.2.1 x.2.2.1 x.2.2.2, fun _ y => Rf104 y, fun x y => B1f104 x.1 x.2.1 x.2.2.1 x.2.2.2 y, fun _ y => BZf104 y⟩
def H104 (N : Nat) (x : Int × Int × Int × (List Spot)) (y : Int × (List Spot)) : Prop := f104 N x.1 x.2.1 x.2.2.1 x.2.2.2 = some y
def G104 (x : Int × Int × Int × (List Spot)) (y : Int × (List Spot)) : Prop := ∃ N, H104 N x y
theorem H104.step {N : Nat} {s0 : Int} {s1 : Int} {s2 : Int} {s3 : List Spot} {m0 : Nat} {ρ : Type} {A : (Int × (List Spot)) → Option ρ} {q : ρ} {xs : List SV} {id : Nat} {m : Nat → Blk} {l : List Loc} {K : Dl → List Loc → Prop} {k0 : Nat} (ha : xs = [.rs k0 m0, .dat (iN s0), .dat (iN s1), .dat (iN s2), .dat (.v (.func (.func 91) #[] #[]))]) (b0 : m k0 = .row 73 3 (List.map Spot.d s3)) (em0 : m0 = List.length s3) (hu : m id = .unborn) (hn : nodupB [k0] = true) (h : ∀ y, A y = some q → K ⟨.dat (iN y.1), [(k0, .row 73 3 (List.map Spot.d y.2)), (id, .unborn)]⟩ l) (hF : (f104 N s0 s1 s2 s3).bind A = some q) : effPg Spf104 (H104 N) xs id (fun _ => SV.no) m l K := by
  subst em0; obtain ⟨y, hy, hA⟩ := bind_some hF
  exact eff_step [k0] (s0, s1, s2, s3) y _ hy rfl hn ha (by simp only [List.map_cons, List.map_nil, b0]; rfl) hu rfl rfl (h y hA)
theorem G104.step {N : Nat} {s0 : Int} {s1 : Int} {s2 : Int} {s3 : List Spot} {m0 : Nat} {ρ : Type} {A : (Int × (List Spot)) → Option ρ} {q : ρ} {xs : List SV} {id : Nat} {m : Nat → Blk} {l : List Loc} {K : Dl → List Loc → Prop} {k0 : Nat} (ha : xs = [.rs k0 m0, .dat (iN s0), .dat (iN s1), .dat (iN s2), .dat (.v (.func (.func 91) #[] #[]))]) (b0 : m k0 = .row 73 3 (List.map Spot.d s3)) (em0 : m0 = List.length s3) (hu : m id = .unborn) (hn : nodupB [k0] = true) (h : ∀ y, A y = some q → K ⟨.dat (iN y.1), [(k0, .row 73 3 (List.map Spot.d y.2)), (id, .unborn)]⟩ l) (hF : (f104 N s0 s1 s2 s3).bind A = some q) : effPg Spf104 (G104) xs id (fun _ => SV.no) m l K := by
  subst em0; obtain ⟨y, hy, hA⟩ := bind_some hF
  exact eff_step [k0] (s0, s1, s2, s3) y _ ⟨N, hy⟩ rfl hn ha (by simp only [List.map_cons, List.map_nil, b0]; rfl) hu rfl rfl (h y hA)
def Srf104 : Ann := ⟨[0], [0, 500], [], []⟩
set_option maxRecDepth 20000 in
set_option maxHeartbeats 4000000 in
theorem Q104 (N : Nat) : CallOK Try.prog 104 (effPg Spf104 (H104 N)) := by
  induction N with
  | zero => exact eff_none fun x y h => (by cases (show (none : Option (Int × (List Spot))) = some y from h))
  | succ N ih =>
    refine eff_of_vc (c := mkCtx tyTree [(104, false, effPg Spf104 (H104 N)), (91, true, lendPg [[0, 0, 0], [0, 0, 0]] G91)]) rfl tyOK (ctx_eff (callable Try.func104 rfl rfl) ih (ctx_lend (callable Try.func91 rfl rfl) P91 (ctx_nil))) 1000 500 Srf104 Try.func104 rfl rfl (by kernel_rfl) rfl rfl rfl rfl rfl (fun _ => rfl) (fun _ => rfl) (fun _ _ => ⟨rfl, rfl⟩) ?_
    rintro ⟨s0, s1, s2, s3⟩ y hF
    have hF : f104b (f104 N) N s0 s1 s2 s3 = some y := hF
    show vc _ _ _ _ ⟨[(0, .rs 0 (List.length s3)), (1, .dat (iN s0)), (2, .dat (iN s1)), (3, .dat (iN s2)), (4, .dat (.v (.func (.func 91) #[] #[])))], [(0, .row 73 3 (List.map Spot.d s3))]⟩ _
    unfold f104b at hF
    repeat' (first
      | ((with_reducible refine q0 _ _ ?_); clear Q q0 q1 q2)
      | ((with_reducible refine q1 _ _ _ _ ?_); clear Q q0 q1 q2)
      | ((with_reducible refine q2 _ _ _ ?_); clear Q q0 q1 q2)
      | ((with_reducible refine seq_op ?hx (fun Q q0 q1 q2 => ?_)); (case hx => exact rfl); conv => whnf)
      | ((with_reducible refine draw_op ?hx (fun Q q0 q1 q2 => ?_)); (case hx => exact rfl); conv => whnf)
      | ((with_reducible refine seq_op0 ?hx (fun Q q0 q1 q2 => ?_)); (case hx => exact rfl); conv => whnf)
      | ((with_reducible refine draw_op0 ?hx (fun Q q0 q1 q2 => ?_)); (case hx => exact rfl); conv => whnf)
      | ((with_reducible refine seq_off ?hx ?_); (case hx => exact rfl))
      | ((with_reducible refine seq_off0 ?hx ?_); (case hx => exact rfl))
      | ((with_reducible refine draw_off ?hx ?_); (case hx => exact rfl))
      | ((with_reducible refine draw_off0 ?hx ?_); (case hx => exact rfl))
      | ((with_reducible refine draw_id ?_); (first | ((refine draw_opK rfl ?hy (fun Q q0 q1 q2 => ?_)); (case hy => first | assumption | exact notT (by assumption) | exact rfl); conv => whnf) | ((refine draw_offK rfl ?hy ?_); (case hy => first | assumption | exact notF (by assumption) | exact rfl)) | ((refine draw_opK0 rfl ?hy (fun Q q0 q1 q2 => ?_)); (case hy => first | assumption | exact notT (by assumption) | exact rfl); conv => whnf) | ((refine draw_offK0 rfl ?hy ?_); (case hy => first | assumption | exact notF (by assumption) | exact rfl)) | (revert hF; (with_reducible refine draw_opF ?hx ?_ ?_); (case hx => exact rfl); (intro hc hF Q q0 q1 q2; conv => whnf); rotate_left; (intro hc hF); rotate_right) | (revert hF; (with_reducible refine draw_opN ?hx ?_ ?_); (case hx => exact rfl); (intro hc hF); rotate_left; (intro hc hF Q q0 q1 q2; conv => whnf); rotate_right) | (revert hF; (with_reducible refine draw_opF0 ?hx ?_ ?_); (case hx => exact rfl); (intro hc hF Q q0 q1 q2; conv => whnf); rotate_left; (intro hc hF); rotate_right) | (revert hF; (with_reducible refine draw_opN0 ?hx ?_ ?_); (case hx => exact rfl); (intro hc hF); rotate_left; (intro hc hF Q q0 q1 q2; conv => whnf); rotate_right)))
      | ((with_reducible refine cond_id ?_); (first | ((refine condKT rfl ?hy ?_); (case hy => first | assumption | exact notT (by assumption) | exact rfl)) | ((refine condKF rfl ?hy ?_); (case hy => first | assumption | exact notF (by assumption) | exact rfl)) | (revert hF; (with_reducible refine condF ?hx ?_ ?_); (case hx => exact rfl); all_goals (intro hc hF))))
      | ((with_reducible refine seq_nil ?_); (first | ((with_reducible refine hR _ ?_); clear R hR) | ((with_reducible refine hL _ ?_); clear L hL)))
      | ((with_reducible refine draw_nil ?_); (with_reducible refine hR _ _ ?hx ?_); (case hx => kernel_rfl); (first | clear R hR | clear hR))
      | ((with_reducible refine int_step ?_); conv => whnf)
      | ((with_reducible refine len_step ?_); conv => whnf)
      | ((with_reducible refine idx2 (by assumption) ?_); conv => whnf)
      | ((with_reducible refine idx3 (by assumption) ?_); conv => whnf)
      | with_reducible refine vc_block ?_
      | with_reducible refine vc_skip ?_
      | with_reducible refine vc_ret ?_
      | with_reducible refine vc_exit ?_
      | ((with_reducible refine vc_seqN [1000011, 1000007, 1000005] ?hx ?_); (case hx => exact rfl))
      | (with_reducible refine vc_region (fun R hR => ?_))
      | ((with_reducible refine vc_draw ?hx (fun R hR => ?_)); (case hx => exact rfl))
      | fail
      | (revert hF; (refine Cf104_c11 rfl rfl ?_ ?_); (intro hF); rotate_left; (intro v11 b0 hF; unfold f104_c11 at hF); rotate_right)
      | exact Zf104_c11 hF ⟨_, rfl, rfl, rfl, rfl⟩
      | (revert hF; (refine Cf104_c7 rfl rfl ?_ ?_); (intro hF); rotate_left; (intro v12' hF; unfold f104_c7 at hF); rotate_right)
      | exact Zf104_c7 hF ⟨_, rfl, rfl, rfl, rfl⟩ (by first | exact rfl | assumption | omega)
      | (revert hF; (refine Lf104_5 rfl ⟨_, rfl, rfl, rfl, rfl⟩ (by first | exact rfl | assumption | omega) ?_); intro n v12' hF; unfold f104_5b at hF)
      | exact Mf104_5 hF ⟨_, rfl, rfl, rfl, rfl⟩ (by first | exact rfl | assumption | omega)
      | (revert hF; (refine Cf104_c5 rfl rfl ?_ ?_); (intro hF); rotate_left; (intro v11' hF; unfold f104_c5 at hF); rotate_right)
      | exact Zf104_c5 hF ⟨_, rfl, rfl, rfl, rfl⟩ (by first | exact rfl | assumption | omega)
      | (revert hF; (refine Lf104_3_1 rfl ⟨_, rfl, rfl, rfl, rfl⟩ (by first | exact rfl | assumption | omega) ?_); intro n v11' hF; unfold f104_3_1b at hF)
      | exact Mf104_3_1 hF ⟨_, rfl, rfl, rfl, rfl⟩ (by first | exact rfl | assumption | omega)
      | (revert hF; (refine Lf104_3 rfl ⟨_, rfl, rfl, rfl, rfl⟩ (by first | exact rfl | assumption | omega) ?_); intro n v11 v12 b0 hF; unfold f104_3b at hF)
      | exact Mf104_3 hF ⟨_, rfl, rfl, rfl, rfl⟩ (by first | exact rfl | assumption | omega)
      | (revert hF; (with_reducible refine G91.lend ?hx ?_); (case hx => exact rfl); intro v hF; conv => whnf)
      | (revert hF; (refine H104.step rfl rfl (by first | exact rfl | assumption | omega) rfl ?hn ?_); (case hn => exact rfl); intro v hF; conv => whnf)
      | (show retE _ _ _ _ _ _; conv => whnf)
      | (cases hF; exact ⟨rfl, rfl, rfl⟩)
      | with_reducible refine k_seq_ret ?_
      | with_reducible refine k_seq_exit ?_
      | with_reducible refine k_blk ?_
      | with_reducible refine k_blk_ret ?_
      | with_reducible refine k_blk_here ?_
      | ((with_reducible refine k_blk_out ?hx ?_); (case hx => exact rfl))
      | with_reducible refine k_loop_ret ?_
      | with_reducible refine k_loop_exit ?_
      | (revert hF; (with_reducible refine idx1 ?hn ?_); (case hn => first | exact rfl | exact (List.length_map _) | assumption | omega | simp); intro x hx hF; conv => whnf)
      | ((refine row_all ?hn ?_); (case hn => first | exact rfl | (simp; done) | (simp; omega)); conv => whnf)
      | ((with_reducible refine le_step ?hn ?_); (case hn => first | exact rfl | assumption | omega); conv => whnf)
      | ((with_reducible have hG := setx_fact hF); clear hF; (refine setx_step hG ?hs (fun q hl hF => ?_)); (case hs => exact rfl); clear hG; conv => whnf)
      | ((refine ⟨?hx, ?_⟩); (case hx => exact ⟨rfl, Nat.le_of_ble_eq_true rfl, rfl⟩); conv => whnf)
      | ((with_reducible refine ex_step ?_); conv => whnf)
      | ((with_reducible refine both_T ?hx ?_); (case hx => first | exact rfl | assumption | exact notT (by assumption)); conv => whnf)
      | ((with_reducible refine both_F ?hx ?_); (case hx => first | exact rfl | assumption | exact notF (by assumption)); conv => whnf)
      | (revert hF; (with_reducible refine ite_step ?_ ?_) <;> (intro hc hF; conv => whnf))
      | ((with_reducible refine vc_condT ?hx ?_); (case hx => exact rfl))
      | ((with_reducible refine vc_condF ?hx ?_); (case hx => exact rfl))
      | (show retD _ _ _ _ _ _; conv => whnf)
      | ((refine ⟨?hx, trivial⟩); (case hx => (cases hF; exact rfl)))
      | ((refine ⟨?hx, ?_⟩); (case hx => decide); conv => whnf)
      | ((with_reducible refine k_seq ?_))
      | (have hF : (none : Option _) = some _ := hF; cases hF))
theorem P104 : CallOK Try.prog 104 (effPg Spf104 G104) := eff_ex Q104
end
end Go.Vc
namespace Go.Vc
open Go.Proofs
set_option linter.unusedVariables false
set_option linter.unnecessarySimpa false
set_option linter.unusedSimpArgs false
section
variable {c : Ctx} {p nid : Nat} {a b : Code} {st : St} {K : Ex → St → Prop}
/- f105: slices.partitionCmpFunc[tusche/serial.Spot] -/
def f105_c21 (s0 : Int) (v13' : Int) (b0 : List Spot) : Option (Int × Bool × (List Spot)) :=
 (ix b0 s0).bind fun x19 =>
 (ix b0 (v13')).bind fun x20 =>
 (ix b0 (v13')).bind fun x21 =>
 (setx b0 (v13') x19).bind fun x22 =>
 (ix x22 s0).bind fun x23 =>
 (setx x22 s0 x20).bind fun x24 =>
 some (v13', false, x24)
def Sf105_c21 : Ann := ⟨[0, 1, 13], [0], [], []⟩
def Vf105_c21 (s0 : Int) (v13' : Int) (b0 : List Spot) : List SV := [.rs 0 (List.length b0), .dat (iN s0), .dat (iN (v13'))]
def Bf105_c21 (s0 : Int) (v13' : Int) (b0 : List Spot) : List Blk := [.row 73 3 (List.map Spot.d b0)]
def Yf105_c21 (s0 : Int) (y : Int × (List Spot)) : List SV := Vf105_c21 s0 y.1 y.2
def Xf105_c21 (s0 : Int) (y : Int × (List Spot)) : List Blk := Bf105_c21 s0 y.1 y.2
def Jf105_c21 (s0 : Int) (r : Int × Bool × (List Spot)) (y : Int × (List Spot)) : Prop := f105_c21 s0 y.1 y.2 = some r
def V2f105_c21 (s0 : Int) (v13' : Int) (b0 : List Spot) (m0 : Nat) : List SV := [.rs 0 m0, .dat (iN s0), .dat (iN (v13'))]
def B2f105_c21 (s0 : Int) (v13' : Int) (b0 : List Spot) (m0 : Nat) : List Blk := [.row 73 3 (List.map Spot.d b0)]
theorem Cf105_c21 {r : Int × Bool × (List Spot)} {s0 : Int} {g : _ → Option (Int × Bool × (List Spot))} (hn : Nat.beq (nid * 1000 + firstRegion b) 1000021 = true) (hz : Sf105_c21.ok p = true) (h : g (f105_c21 s0) = some r → vc c p nid a st (KHead Sf105_c21 (Yf105_c21 s0) (Xf105_c21 s0) (Jf105_c21 s0 r) K)) (h2 : ∀ (v13' : Int) (b0 : List Spot), f105_c21 s0 v13' b0 = some r → vc c p nid b (St.mk' Sf105_c21 (Vf105_c21 s0 v13' b0) (Bf105_c21 s0 v13' b0)) K) (hF : joinK (f105_c21 s0) g = some r) : vc c p nid (.seq a b) st K :=
  vc_cut Sf105_c21 (Yf105_c21 s0) (Xf105_c21 s0) (Jf105_c21 s0 r) hz (h hF) fun y hy => h2 y.1 y.2 hy
theorem Zf105_c21 {r : Int × Bool × (List Spot)} {s0 : Int} {v13' : Int} {b0 : List Spot} {m0 : Nat} (hF : f105_c21 s0 v13' b0 = some r) (h0 : AtH Sf105_c21 st (V2f105_c21 s0 v13' b0 m0) (B2f105_c21 s0 v13' b0 m0)) (em0 : m0 = List.length b0) : KHead Sf105_c21 (Yf105_c21 s0) (Xf105_c21 s0) (Jf105_c21 s0 r) K .normal st := by
  subst em0; exact khead (I := (Jf105_c21 s0 r)) (x := (v13', b0)) hF h0
def f105_c17 (s0 : Int) (k0 : Int → (List Spot) → Option (Int × Bool × (List Spot))) (b0 : List Spot) (r13 : Int → Int → (List Spot) → Option (Int × Bool × (List Spot))) (v12'' : Int) (v13'' : Int) : Option (Int × Bool × (List Spot)) :=
 bif decide ((v13'') < (v12'')) then (k0 (v13'') b0)
 else ((ix b0 (v13'')).bind fun x25 =>
 (ix b0 (v12'')).bind fun x26 =>
 (ix b0 (v12'')).bind fun x27 =>
 (setx b0 (v12'') x25).bind fun x28 =>
 (ix x28 (v13'')).bind fun x29 =>
 (setx x28 (v13'') x26).bind fun x30 =>
 r13 (W ((v12'') + (1 : Int))) (W ((v13'') - (1 : Int))) x30)
def Sf105_c17 : Ann := ⟨[0, 1, 4, 12, 13], [0], [], []⟩
def Vf105_c17 (s0 : Int) (b0 : List Spot) (v12'' : Int) (v13'' : Int) : List SV := [.rs 0 (List.length b0), .dat (iN s0), .dat (.v (.func (.func 91) #[] #[])), .dat (iN (v12'')), .dat (iN (v13''))]
def Bf105_c17 (s0 : Int) (b0 : List Spot) (v12'' : Int) (v13'' : Int) : List Blk := [.row 73 3 (List.map Spot.d b0)]
def Yf105_c17 (s0 : Int) (b0 : List Spot) (v12'' : Int) (y : Int) : List SV := Vf105_c17 s0 b0 v12'' y
def Xf105_c17 (s0 : Int) (b0 : List Spot) (v12'' : Int) (y : Int) : List Blk := Bf105_c17 s0 b0 v12'' y
def Jf105_c17 (s0 : Int) (k0 : Int → (List Spot) → Option (Int × Bool × (List Spot))) (b0 : List Spot) (r13 : Int → Int → (List Spot) → Option (Int × Bool × (List Spot))) (v12'' : Int) (r : Int × Bool × (List Spot)) (y : Int) : Prop := f105_c17 s0 k0 b0 r13 v12'' y = some r
def V2f105_c17 (s0 : Int) (b0 : List Spot) (v12'' : Int) (v13'' : Int) (m0 : Nat) : List SV := [.rs 0 m0, .dat (iN s0), .dat (.v (.func (.func 91) #[] #[])), .dat (iN (v12'')), .dat (iN (v13''))]
def B2f105_c17 (s0 : Int) (b0 : List Spot) (v12'' : Int) (v13'' : Int) (m0 : Nat) : List Blk := [.row 73 3 (List.map Spot.d b0)]
theorem Cf105_c17 {r : Int × Bool × (List Spot)} {s0 : Int} {k0 : Int → (List Spot) → Option (Int × Bool × (List Spot))} {b0 : List Spot} {r13 : Int → Int → (List Spot) → Option (Int × Bool × (List Spot))} {v12'' : Int} {g : _ → Option (Int × Bool × (List Spot))} (hn : Nat.beq (nid * 1000 + firstRegion b) 1000017 = true) (hz : Sf105_c17.ok p = true) (h : g (f105_c17 s0 k0 b0 r13 v12'') = some r → vc c p nid a st (KHead Sf105_c17 (Yf105_c17 s0 b0 v12'') (Xf105_c17 s0 b0 v12'') (Jf105_c17 s0 k0 b0 r13 v12'' r) K)) (h2 : ∀ (v13'' : Int), f105_c17 s0 k0 b0 r13 v12'' v13'' = some r → vc c p nid b (St.mk' Sf105_c17 (Vf105_c17 s0 b0 v12'' v13'') (Bf105_c17 s0 b0 v12'' v13'')) K) (hF : joinK (f105_c17 s0 k0 b0 r13 v12'') g = some r) : vc c p nid (.seq a b) st K :=
  vc_cut Sf105_c17 (Yf105_c17 s0 b0 v12'') (Xf105_c17 s0 b0 v12'') (Jf105_c17 s0 k0 b0 r13 v12'' r) hz (h hF) fun y hy => h2 y hy
theorem Zf105_c17 {r : Int × Bool × (List Spot)} {s0 : Int} {k0 : Int → (List Spot) → Option (Int × Bool × (List Spot))} {b0 : List Spot} {r13 : Int → Int → (List Spot) → Option (Int × Bool × (List Spot))} {v12'' : Int} {v13'' : Int} {m0 : Nat} (hF : f105_c17 s0 k0 b0 r13 v12'' v13'' = some r) (h0 : AtH Sf105_c17 st (V2f105_c17 s0 b0 v12'' v13'' m0) (B2f105_c17 s0 b0 v12'' v13'' m0)) (em0 : m0 = List.length b0) : KHead Sf105_c17 (Yf105_c17 s0 b0 v12'') (Xf105_c17 s0 b0 v12'') (Jf105_c17 s0 k0 b0 r13 v12'' r) K .normal st := by
  subst em0; exact khead (I := (Jf105_c17 s0 k0 b0 r13 v12'' r)) (x := (v13'')) hF h0
def f105_15b (r15 : Int → Option (Int × Bool × (List Spot))) (s0 : Int) (N : Nat) (b0 : List Spot) (v12'' : Int) (k1 : Int → Option (Int × Bool × (List Spot))) (v13'' : Int) : Option (Int × Bool × (List Spot)) :=
 bif decide ((v12'') ≤ (v13'')) then ((ix b0 (v13'')).bind fun x31 =>
 (ix b0 s0).bind fun x32 =>
 (f91 N x31 x32).bind fun x33 =>
 bif !(decide (x33 < (0 : Int))) then (r15 (W ((v13'') - (1 : Int))))
 else (k1 (v13'')))
 else (k1 (v13''))
def f105_15 (s0 : Int) (N : Nat) (b0 : List Spot) (v12'' : Int) (k1 : Int → Option (Int × Bool × (List Spot))) : Nat → Int → Option (Int × Bool × (List Spot))
  | 0, _ => none
  | n + 1, v13'' => f105_15b (f105_15 s0 N b0 v12'' k1 n) s0 N b0 v12'' k1 v13''
def Sf105_15 : Ann := ⟨[0, 1, 4, 12, 13], [0], [], []⟩
def Vf105_15 (s0 : Int) (b0 : List Spot) (v12'' : Int) (v13'' : Int) : List SV := [.rs 0 (List.length b0), .dat (iN s0), .dat (.v (.func (.func 91) #[] #[])), .dat (iN (v12'')), .dat (iN (v13''))]
def Bf105_15 (s0 : Int) (b0 : List Spot) (v12'' : Int) (v13'' : Int) : List Blk := [.row 73 3 (List.map Spot.d b0)]
def Yf105_15 (s0 : Int) (b0 : List Spot) (v12'' : Int) (y : Nat × Int) : List SV := Vf105_15 s0 b0 v12'' y.2
def Xf105_15 (s0 : Int) (b0 : List Spot) (v12'' : Int) (y : Nat × Int) : List Blk := Bf105_15 s0 b0 v12'' y.2
def Jf105_15 (s0 : Int) (N : Nat) (b0 : List Spot) (v12'' : Int) (k1 : Int → Option (Int × Bool × (List Spot))) (r : Int × Bool × (List Spot)) (y : Nat × Int) : Prop := f105_15 s0 N b0 v12'' k1 y.1 y.2 = some r
def V2f105_15 (s0 : Int) (b0 : List Spot) (v12'' : Int) (v13'' : Int) (m0 : Nat) : List SV := [.rs 0 m0, .dat (iN s0), .dat (.v (.func (.func 91) #[] #[])), .dat (iN (v12'')), .dat (iN (v13''))]
def B2f105_15 (s0 : Int) (b0 : List Spot) (v12'' : Int) (v13'' : Int) (m0 : Nat) : List Blk := [.row 73 3 (List.map Spot.d b0)]
theorem Lf105_15 {r : Int × Bool × (List Spot)} {s0 : Int} {N : Nat} {b0 : List Spot} {v12'' : Int} {k1 : Int → Option (Int × Bool × (List Spot))} {fu : Nat} {v13'' : Int} {m0 : Nat} (hz : Sf105_15.ok p = true) (h0 : AtH Sf105_15 st (V2f105_15 s0 b0 v12'' v13'' m0) (B2f105_15 s0 b0 v12'' v13'' m0)) (em0 : m0 = List.length b0) (h : ∀ (n : Nat) (v13'' : Int), f105_15b (f105_15 s0 N b0 v12'' k1 n) s0 N b0 v12'' k1 v13'' = some r → vc c p nid a (St.mk' Sf105_15 (Vf105_15 s0 b0 v12'' v13'') (Bf105_15 s0 b0 v12'' v13'')) (Kloop Sf105_15 (Yf105_15 s0 b0 v12'') (Xf105_15 s0 b0 v12'') (Jf105_15 s0 N b0 v12'' k1 r) Prod.fst (n + 1, v13'') K)) (hF : f105_15 s0 N b0 v12'' k1 fu v13'' = some r) : vc c p nid (.loop a) st K := by
  subst em0; refine vc_loop Sf105_15 (Yf105_15 s0 b0 v12'') (Xf105_15 s0 b0 v12'') (Jf105_15 s0 N b0 v12'' k1 r) Prod.fst hz (kheadL (x := (fu, v13'')) hF h0) ?_
  rintro ⟨_ | n, v13''⟩ hI
  · cases hI
  · exact h n v13'' hI
theorem Mf105_15 {r : Int × Bool × (List Spot)} {s0 : Int} {N : Nat} {b0 : List Spot} {v12'' : Int} {k1 : Int → Option (Int × Bool × (List Spot))} {n : Nat} {v13'' : Int} {v13''_ : Int} {m0 : Nat} (hF : f105_15 s0 N b0 v12'' k1 n v13'' = some r) (h0 : AtH Sf105_15 st (V2f105_15 s0 b0 v12'' v13'' m0) (B2f105_15 s0 b0 v12'' v13'' m0)) (em0 : m0 = List.length b0) : Kloop Sf105_15 (Yf105_15 s0 b0 v12'') (Xf105_15 s0 b0 v12'') (Jf105_15 s0 N b0 v12'' k1 r) Prod.fst (n + 1, v13''_) K .normal st := by
  subst em0; exact kback (y := (n, v13'')) hF (Nat.lt_succ_self n) h0
def f105_c15 (s0 : Int) (N : Nat) (k0 : Int → (List Spot) → Option (Int × Bool × (List Spot))) (v13' : Int) (b0 : List Spot) (r13 : Int → Int → (List Spot) → Option (Int × Bool × (List Spot))) (v12'' : Int) : Option (Int × Bool × (List Spot)) :=
 joinK (f105_c17 s0 k0 b0 r13 v12'') fun k1 =>
 f105_15 s0 N b0 v12'' k1 N (v13')
def Sf105_c15 : Ann := ⟨[0, 1, 4, 12, 13], [0], [], []⟩
def Vf105_c15 (s0 : Int) (v13' : Int) (b0 : List Spot) (v12'' : Int) : List SV := [.rs 0 (List.length b0), .dat (iN s0), .dat (.v (.func (.func 91) #[] #[])), .dat (iN (v12'')), .dat (iN (v13'))]
def Bf105_c15 (s0 : Int) (v13' : Int) (b0 : List Spot) (v12'' : Int) : List Blk := [.row 73 3 (List.map Spot.d b0)]
def Yf105_c15 (s0 : Int) (v13' : Int) (b0 : List Spot) (y : Int) : List SV := Vf105_c15 s0 v13' b0 y
def Xf105_c15 (s0 : Int) (v13' : Int) (b0 : List Spot) (y : Int) : List Blk := Bf105_c15 s0 v13' b0 y
def Jf105_c15 (s0 : Int) (N : Nat) (k0 : Int → (List Spot) → Option (Int × Bool × (List Spot))) (v13' : Int) (b0 : List Spot) (r13 : Int → Int → (List Spot) → Option (Int × Bool × (List Spot))) (r : Int × Bool × (List Spot)) (y : Int) : Prop := f105_c15 s0 N k0 v13' b0 r13 y = some r
def V2f105_c15 (s0 : Int) (v13' : Int) (b0 : List Spot) (v12'' : Int) (m0 : Nat) : List SV := [.rs 0 m0, .dat (iN s0), .dat (.v (.func (.func 91) #[] #[])), .dat (iN (v12'')), .dat (iN (v13'))]
def B2f105_c15 (s0 : Int) (v13' : Int) (b0 : List Spot) (v12'' : Int) (m0 : Nat) : List Blk := [.row 73 3 (List.map Spot.d b0)]
theorem Cf105_c15 {r : Int × Bool × (List Spot)} {s0 : Int} {N : Nat} {k0 : Int → (List Spot) → Option (Int × Bool × (List Spot))} {v13' : Int} {b0 : List Spot} {r13 : Int → Int → (List Spot) → Option (Int × Bool × (List Spot))} {g : _ → Option (Int × Bool × (List Spot))} (hn : Nat.beq (nid * 1000 + firstRegion b) 1000015 = true) (hz : Sf105_c15.ok p = true) (h : g (f105_c15 s0 N k0 v13' b0 r13) = some r → vc c p nid a st (KHead Sf105_c15 (Yf105_c15 s0 v13' b0) (Xf105_c15 s0 v13' b0) (Jf105_c15 s0 N k0 v13' b0 r13 r) K)) (h2 : ∀ (v12'' : Int), f105_c15 s0 N k0 v13' b0 r13 v12'' = some r → vc c p nid b (St.mk' Sf105_c15 (Vf105_c15 s0 v13' b0 v12'') (Bf105_c15 s0 v13' b0 v12'')) K) (hF : joinK (f105_c15 s0 N k0 v13' b0 r13) g = some r) : vc c p nid (.seq a b) st K :=
  vc_cut Sf105_c15 (Yf105_c15 s0 v13' b0) (Xf105_c15 s0 v13' b0) (Jf105_c15 s0 N k0 v13' b0 r13 r) hz (h hF) fun y hy => h2 y hy
theorem Zf105_c15 {r : Int × Bool × (List Spot)} {s0 : Int} {N : Nat} {k0 : Int → (List Spot) → Option (Int × Bool × (List Spot))} {v13' : Int} {b0 : List Spot} {r13 : Int → Int → (List Spot) → Option (Int × Bool × (List Spot))} {v12'' : Int} {m0 : Nat} (hF : f105_c15 s0 N k0 v13' b0 r13 v12'' = some r) (h0 : AtH Sf105_c15 st (V2f105_c15 s0 v13' b0 v12'' m0) (B2f105_c15 s0 v13' b0 v12'' m0)) (em0 : m0 = List.length b0) : KHead Sf105_c15 (Yf105_c15 s0 v13' b0) (Xf105_c15 s0 v13' b0) (Jf105_c15 s0 N k0 v13' b0 r13 r) K .normal st := by
  subst em0; exact khead (I := (Jf105_c15 s0 N k0 v13' b0 r13 r)) (x := (v12'')) hF h0
def f105_13_1b (r13x : Int → Option (Int × Bool × (List Spot))) (s0 : Int) (N : Nat) (v13' : Int) (b0 : List Spot) (k2 : Int → Option (Int × Bool × (List Spot))) (v12'' : Int) : Option (Int × Bool × (List Spot)) :=
 bif decide ((v12'') ≤ (v13')) then ((ix b0 (v12'')).bind fun x34 =>
 (ix b0 s0).bind fun x35 =>
 (f91 N x34 x35).bind fun x36 =>
 bif decide (x36 < (0 : Int)) then (r13x (W ((v12'') + (1 : Int))))
 else (k2 (v12'')))
 else (k2 (v12''))
def f105_13_1 (s0 : Int) (N : Nat) (v13' : Int) (b0 : List Spot) (k2 : Int → Option (Int × Bool × (List Spot))) : Nat → Int → Option (Int × Bool × (List Spot))
  | 0, _ => none
  | n + 1, v12'' => f105_13_1b (f105_13_1 s0 N v13' b0 k2 n) s0 N v13' b0 k2 v12''
def Sf105_13_1 : Ann := ⟨[0, 1, 4, 12, 13], [0], [], []⟩
def Vf105_13_1 (s0 : Int) (v13' : Int) (b0 : List Spot) (v12'' : Int) : List SV := [.rs 0 (List.length b0), .dat (iN s0), .dat (.v (.func (.func 91) #[] #[])), .dat (iN (v12'')), .dat (iN (v13'))]
def Bf105_13_1 (s0 : Int) (v13' : Int) (b0 : List Spot) (v12'' : Int) : List Blk := [.row 73 3 (List.map Spot.d b0)]
def Yf105_13_1 (s0 : Int) (v13' : Int) (b0 : List Spot) (y : Nat × Int) : List SV := Vf105_13_1 s0 v13' b0 y.2
def Xf105_13_1 (s0 : Int) (v13' : Int) (b0 : List Spot) (y : Nat × Int) : List Blk := Bf105_13_1 s0 v13' b0 y.2
def Jf105_13_1 (s0 : Int) (N : Nat) (v13' : Int) (b0 : List Spot) (k2 : Int → Option (Int × Bool × (List Spot))) (r : Int × Bool × (List Spot)) (y : Nat × Int) : Prop := f105_13_1 s0 N v13' b0 k2 y.1 y.2 = some r
def V2f105_13_1 (s0 : Int) (v13' : Int) (b0 : List Spot) (v12'' : Int) (m0 : Nat) : List SV := [.rs 0 m0, .dat (iN s0), .dat (.v (.func (.func 91) #[] #[])), .dat (iN (v12'')), .dat (iN (v13'))]
def B2f105_13_1 (s0 : Int) (v13' : Int) (b0 : List Spot) (v12'' : Int) (m0 : Nat) : List Blk := [.row 73 3 (List.map Spot.d b0)]
theorem Lf105_13_1 {r : Int × Bool × (List Spot)} {s0 : Int} {N : Nat} {v13' : Int} {b0 : List Spot} {k2 : Int → Option (Int × Bool × (List Spot))} {fu : Nat} {v12'' : Int} {m0 : Nat} (hz : Sf105_13_1.ok p = true) (h0 : AtH Sf105_13_1 st (V2f105_13_1 s0 v13' b0 v12'' m0) (B2f105_13_1 s0 v13' b0 v12'' m0)) (em0 : m0 = List.length b0) (h : ∀ (n : Nat) (v12'' : Int), f105_13_1b (f105_13_1 s0 N v13' b0 k2 n) s0 N v13' b0 k2 v12'' = some r → vc c p nid a (St.mk' Sf105_13_1 (Vf105_13_1 s0 v13' b0 v12'') (Bf105_13_1 s0 v13' b0 v12'')) (Kloop Sf105_13_1 (Yf105_13_1 s0 v13' b0) (Xf105_13_1 s0 v13' b0) (Jf105_13_1 s0 N v13' b0 k2 r) Prod.fst (n + 1, v12'') K)) (hF : f105_13_1 s0 N v13' b0 k2 fu v12'' = some r) : vc c p nid (.loop a) st K := by
  subst em0; refine vc_loop Sf105_13_1 (Yf105_13_1 s0 v13' b0) (Xf105_13_1 s0 v13' b0) (Jf105_13_1 s0 N v13' b0 k2 r) Prod.fst hz (kheadL (x := (fu, v12'')) hF h0) ?_
  rintro ⟨_ | n, v12''⟩ hI
  · cases hI
  · exact h n v12'' hI
theorem Mf105_13_1 {r : Int × Bool × (List Spot)} {s0 : Int} {N : Nat} {v13' : Int} {b0 : List Spot} {k2 : Int → Option (Int × Bool × (List Spot))} {n : Nat} {v12'' : Int} {v12''_ : Int} {m0 : Nat} (hF : f105_13_1 s0 N v13' b0 k2 n v12'' = some r) (h0 : AtH Sf105_13_1 st (V2f105_13_1 s0 v13' b0 v12'' m0) (B2f105_13_1 s0 v13' b0 v12'' m0)) (em0 : m0 = List.length b0) : Kloop Sf105_13_1 (Yf105_13_1 s0 v13' b0) (Xf105_13_1 s0 v13' b0) (Jf105_13_1 s0 N v13' b0 k2 r) Prod.fst (n + 1, v12''_) K .normal st := by
  subst em0; exact kback (y := (n, v12'')) hF (Nat.lt_succ_self n) h0
def f105_13b (r13 : Int → Int → (List Spot) → Option (Int × Bool × (List Spot))) (s0 : Int) (N : Nat) (k0 : Int → (List Spot) → Option (Int × Bool × (List Spot))) (v12' : Int) (v13' : Int) (b0 : List Spot) : Option (Int × Bool × (List Spot)) :=
 joinK (f105_c15 s0 N k0 v13' b0 r13) fun k2 =>
 f105_13_1 s0 N v13' b0 k2 N (v12')
def f105_13 (s0 : Int) (N : Nat) (k0 : Int → (List Spot) → Option (Int × Bool × (List Spot))) : Nat → Int → Int → (List Spot) → Option (Int × Bool × (List Spot))
  | 0, _, _, _ => none
  | n + 1, v12', v13', b0 => f105_13b (f105_13 s0 N k0 n) s0 N k0 v12' v13' b0
def Sf105_13 : Ann := ⟨[0, 1, 4, 12, 13], [0], [], []⟩
def Vf105_13 (s0 : Int) (v12' : Int) (v13' : Int) (b0 : List Spot) : List SV := [.rs 0 (List.length b0), .dat (iN s0), .dat (.v (.func (.func 91) #[] #[])), .dat (iN (v12')), .dat (iN (v13'))]
def Bf105_13 (s0 : Int) (v12' : Int) (v13' : Int) (b0 : List Spot) : List Blk := [.row 73 3 (List.map Spot.d b0)]
def Yf105_13 (s0 : Int) (y : Nat × Int × Int × (List Spot)) : List SV := Vf105_13 s0 y.2.1 y.2.2.1 y.2.2.2
def Xf105_13 (s0 : Int) (y : Nat × Int × Int × (List Spot)) : List Blk := Bf105_13 s0 y.2.1 y.2.2.1 y.2.2.2
def Jf105_13 (s0 : Int) (N : Nat) (k0 : Int → (List Spot) → Option (Int × Bool × (List Spot))) (r : Int × Bool × (List Spot)) (y : Nat × Int × Int × (List Spot)) : Prop := f105_13 s0 N k0 y.1 y.2.1 y.2.2.1 y.2.2.2 = some r
def V2f105_13 (s0 : Int) (v12' : Int) (v13' : Int) (b0 : List Spot) (m0 : Nat) : List SV := [.rs 0 m0, .dat (iN s0), .dat (.v (.func (.func 91) #[] #[])), .dat (iN (v12')), .dat (iN (v13'))]
def B2f105_13 (s0 : Int) (v12' : Int) (v13' : Int) (b0 : List Spot) (m0 : Nat) : List Blk := [.row 73 3 (List.map Spot.d b0)]
theorem Lf105_13 {r : Int × Bool × (List Spot)} {s0 : Int} {N : Nat} {k0 : Int → (List Spot) → Option (Int × Bool × (List Spot))} {fu : Nat} {v12' : Int} {v13' : Int} {b0 : List Spot} {m0 : Nat} (hz : Sf105_13.ok p = true) (h0 : AtH Sf105_13 st (V2f105_13 s0 v12' v13' b0 m0) (B2f105_13 s0 v12' v13' b0 m0)) (em0 : m0 = List.length b0) (h : ∀ (n : Nat) (v12' : Int) (v13' : Int) (b0 : List Spot), f105_13b (f105_13 s0 N k0 n) s0 N k0 v12' v13' b0 = some r → vc c p nid a (St.mk' Sf105_13 (Vf105_13 s0 v12' v13' b0) (Bf105_13 s0 v12' v13' b0)) (Kloop Sf105_13 (Yf105_13 s0) (Xf105_13 s0) (Jf105_13 s0 N k0 r) Prod.fst (n + 1, v12', v13', b0) K)) (hF : f105_13 s0 N k0 fu v12' v13' b0 = some r) : vc c p nid (.loop a) st K := by
  subst em0; refine vc_loop Sf105_13 (Yf105_13 s0) (Xf105_13 s0) (Jf105_13 s0 N k0 r) Prod.fst hz (kheadL (x := (fu, v12', v13', b0)) hF h0) ?_
  rintro ⟨_ | n, v12', v13', b0⟩ hI
  · cases hI
  · exact h n v12' v13' b0 hI
theorem Mf105_13 {r : Int × Bool × (List Spot)} {s0 : Int} {N : Nat} {k0 : Int → (List Spot) → Option (Int × Bool × (List Spot))} {n : Nat} {v12' : Int} {v13' : Int} {b0 : List Spot} {v12'_ : Int} {v13'_ : Int} {b0_ : List Spot} {m0 : Nat} (hF : f105_13 s0 N k0 n v12' v13' b0 = some r) (h0 : AtH Sf105_13 st (V2f105_13 s0 v12' v13' b0 m0) (B2f105_13 s0 v12' v13' b0 m0)) (em0 : m0 = List.length b0) : Kloop Sf105_13 (Yf105_13 s0) (Xf105_13 s0) (Jf105_13 s0 N k0 r) Prod.fst (n + 1, v12'_, v13'_, b0_) K .normal st := by
  subst em0; exact kback (y := (n, v12', v13', b0)) hF (Nat.lt_succ_self n) h0
def f105_c7 (s0 : Int) (N : Nat) (x6 : List Spot) (v12 : Int) (v13 : Int) : Option (Int × Bool × (List Spot)) :=
 bif decide (v13 < v12) then ((ix x6 s0).bind fun x7 =>
 (ix x6 v13).bind fun x8 =>
 (ix x6 v13).bind fun x9 =>
 (setx x6 v13 x7).bind fun x10 =>
 (ix x10 s0).bind fun x11 =>
 (setx x10 s0 x8).bind fun x12 =>
 some (v13, true, x12))
 else ((ix x6 v13).bind fun x13 =>
 (ix x6 v12).bind fun x14 =>
 (ix x6 v12).bind fun x15 =>
 (setx x6 v12 x13).bind fun x16 =>
 (ix x16 v13).bind fun x17 =>
 (setx x16 v13 x14).bind fun x18 =>
 joinK (f105_c21 s0) fun k0 =>
 f105_13 s0 N k0 N (W (v12 + (1 : Int))) (W (v13 - (1 : Int))) x18)
def Sf105_c7 : Ann := ⟨[0, 1, 4, 12, 13], [0], [], []⟩
def Vf105_c7 (s0 : Int) (x6 : List Spot) (v12 : Int) (v13 : Int) : List SV := [.rs 0 (List.length x6), .dat (iN s0), .dat (.v (.func (.func 91) #[] #[])), .dat (iN v12), .dat (iN v13)]
def Bf105_c7 (s0 : Int) (x6 : List Spot) (v12 : Int) (v13 : Int) : List Blk := [.row 73 3 (List.map Spot.d x6)]
def Yf105_c7 (s0 : Int) (x6 : List Spot) (v12 : Int) (y : Int) : List SV := Vf105_c7 s0 x6 v12 y
def Xf105_c7 (s0 : Int) (x6 : List Spot) (v12 : Int) (y : Int) : List Blk := Bf105_c7 s0 x6 v12 y
def Jf105_c7 (s0 : Int) (N : Nat) (x6 : List Spot) (v12 : Int) (r : Int × Bool × (List Spot)) (y : Int) : Prop := f105_c7 s0 N x6 v12 y = some r
def V2f105_c7 (s0 : Int) (x6 : List Spot) (v12 : Int) (v13 : Int) (m0 : Nat) : List SV := [.rs 0 m0, .dat (iN s0), .dat (.v (.func (.func 91) #[] #[])), .dat (iN v12), .dat (iN v13)]
def B2f105_c7 (s0 : Int) (x6 : List Spot) (v12 : Int) (v13 : Int) (m0 : Nat) : List Blk := [.row 73 3 (List.map Spot.d x6)]
theorem Cf105_c7 {r : Int × Bool × (List Spot)} {s0 : Int} {N : Nat} {x6 : List Spot} {v12 : Int} {g : _ → Option (Int × Bool × (List Spot))} (hn : Nat.beq (nid * 1000 + firstRegion b) 1000007 = true) (hz : Sf105_c7.ok p = true) (h : g (f105_c7 s0 N x6 v12) = some r → vc c p nid a st (KHead Sf105_c7 (Yf105_c7 s0 x6 v12) (Xf105_c7 s0 x6 v12) (Jf105_c7 s0 N x6 v12 r) K)) (h2 : ∀ (v13 : Int), f105_c7 s0 N x6 v12 v13 = some r → vc c p nid b (St.mk' Sf105_c7 (Vf105_c7 s0 x6 v12 v13) (Bf105_c7 s0 x6 v12 v13)) K) (hF : joinK (f105_c7 s0 N x6 v12) g = some r) : vc c p nid (.seq a b) st K :=
  vc_cut Sf105_c7 (Yf105_c7 s0 x6 v12) (Xf105_c7 s0 x6 v12) (Jf105_c7 s0 N x6 v12 r) hz (h hF) fun y hy => h2 y hy
theorem Zf105_c7 {r : Int × Bool × (List Spot)} {s0 : Int} {N : Nat} {x6 : List Spot} {v12 : Int} {v13 : Int} {m0 : Nat} (hF : f105_c7 s0 N x6 v12 v13 = some r) (h0 : AtH Sf105_c7 st (V2f105_c7 s0 x6 v12 v13 m0) (B2f105_c7 s0 x6 v12 v13 m0)) (em0 : m0 = List.length x6) : KHead Sf105_c7 (Yf105_c7 s0 x6 v12) (Xf105_c7 s0 x6 v12) (Jf105_c7 s0 N x6 v12 r) K .normal st := by
  subst em0; exact khead (I := (Jf105_c7 s0 N x6 v12 r)) (x := (v13)) hF h0
def f105_5b (r5 : Int → Option (Int × Bool × (List Spot))) (s0 : Int) (N : Nat) (x6 : List Spot) (v12 : Int) (k3 : Int → Option (Int × Bool × (List Spot))) (v13 : Int) : Option (Int × Bool × (List Spot)) :=
 bif decide (v12 ≤ v13) then ((ix x6 v13).bind fun x37 =>
 (ix x6 s0).bind fun x38 =>
 (f91 N x37 x38).bind fun x39 =>
 bif !(decide (x39 < (0 : Int))) then (r5 (W (v13 - (1 : Int))))
 else (k3 v13))
 else (k3 v13)
def f105_5 (s0 : Int) (N : Nat) (x6 : List Spot) (v12 : Int) (k3 : Int → Option (Int × Bool × (List Spot))) : Nat → Int → Option (Int × Bool × (List Spot))
  | 0, _ => none
  | n + 1, v13 => f105_5b (f105_5 s0 N x6 v12 k3 n) s0 N x6 v12 k3 v13
def Sf105_5 : Ann := ⟨[0, 1, 4, 12, 13], [0], [], []⟩
def Vf105_5 (s0 : Int) (x6 : List Spot) (v12 : Int) (v13 : Int) : List SV := [.rs 0 (List.length x6), .dat (iN s0), .dat (.v (.func (.func 91) #[] #[])), .dat (iN v12), .dat (iN v13)]
def Bf105_5 (s0 : Int) (x6 : List Spot) (v12 : Int) (v13 : Int) : List Blk := [.row 73 3 (List.map Spot.d x6)]
def Yf105_5 (s0 : Int) (x6 : List Spot) (v12 : Int) (y : Nat × Int) : List SV := Vf105_5 s0 x6 v12 y.2
def Xf105_5 (s0 : Int) (x6 : List Spot) (v12 : Int) (y : Nat × Int) : List Blk := Bf105_5 s0 x6 v12 y.2
def Jf105_5 (s0 : Int) (N : Nat) (x6 : List Spot) (v12 : Int) (k3 : Int → Option (Int × Bool × (List Spot))) (r : Int × Bool × (List Spot)) (y : Nat × Int) : Prop := f105_5 s0 N x6 v12 k3 y.1 y.2 = some r
def V2f105_5 (s0 : Int) (x6 : List Spot) (v12 : Int) (v13 : Int) (m0 : Nat) : List SV := [.rs 0 m0, .dat (iN s0), .dat (.v (.func (.func 91) #[] #[])), .dat (iN v12), .dat (iN v13)]
def B2f105_5 (s0 : Int) (x6 : List Spot) (v12 : Int) (v13 : Int) (m0 : Nat) : List Blk := [.row 73 3 (List.map Spot.d x6)]
theorem Lf105_5 {r : Int × Bool × (List Spot)} {s0 : Int} {N : Nat} {x6 : List Spot} {v12 : Int} {k3 : Int → Option (Int × Bool × (List Spot))} {fu : Nat} {v13 : Int} {m0 : Nat} (hz : Sf105_5.ok p = true) (h0 : AtH Sf105_5 st (V2f105_5 s0 x6 v12 v13 m0) (B2f105_5 s0 x6 v12 v13 m0)) (em0 : m0 = List.length x6) (h : ∀ (n : Nat) (v13 : Int), f105_5b (f105_5 s0 N x6 v12 k3 n) s0 N x6 v12 k3 v13 = some r → vc c p nid a (St.mk' Sf105_5 (Vf105_5 s0 x6 v12 v13) (Bf105_5 s0 x6 v12 v13)) (Kloop Sf105_5 (Yf105_5 s0 x6 v12) (Xf105_5 s0 x6 v12) (Jf105_5 s0 N x6 v12 k3 r) Prod.fst (n + 1, v13) K)) (hF : f105_5 s0 N x6 v12 k3 fu v13 = some r) : vc c p nid (.loop a) st K := by
  subst em0; refine vc_loop Sf105_5 (Yf105_5 s0 x6 v12) (Xf105_5 s0 x6 v12) (Jf105_5 s0 N x6 v12 k3 r) Prod.fst hz (kheadL (x := (fu, v13)) hF h0) ?_
  rintro ⟨_ | n, v13⟩ hI
  · cases hI
  · exact h n v13 hI
theorem Mf105_5 {r : Int × Bool × (List Spot)} {s0 : Int} {N : Nat} {x6 : List Spot} {v12 : Int} {k3 : Int → Option (Int × Bool × (List Spot))} {n : Nat} {v13 : Int} {v13_ : Int} {m0 : Nat} (hF : f105_5 s0 N x6 v12 k3 n v13 = some r) (h0 : AtH Sf105_5 st (V2f105_5 s0 x6 v12 v13 m0) (B2f105_5 s0 x6 v12 v13 m0)) (em0 : m0 = List.length x6) : Kloop Sf105_5 (Yf105_5 s0 x6 v12) (Xf105_5 s0 x6 v12) (Jf105_5 s0 N x6 v12 k3 r) Prod.fst (n + 1, v13_) K .normal st := by
  subst em0; exact kback (y := (n, v13)) hF (Nat.lt_succ_self n) h0
def f105_c5 (s0 : Int) (s1 : Int) (N : Nat) (x6 : List Spot) (v12 : Int) : Option (Int × Bool × (List Spot)) :=
 joinK (f105_c7 s0 N x6 v12) fun k3 =>
 f105_5 s0 N x6 v12 k3 N (W (s1 - (1 : Int)))
def Sf105_c5 : Ann := ⟨[0, 1, 4, 12, 13], [0], [], []⟩
def Vf105_c5 (s0 : Int) (s1 : Int) (x6 : List Spot) (v12 : Int) : List SV := [.rs 0 (List.length x6), .dat (iN s0), .dat (.v (.func (.func 91) #[] #[])), .dat (iN v12), .dat (iN (W (s1 - (1 : Int))))]
def Bf105_c5 (s0 : Int) (s1 : Int) (x6 : List Spot) (v12 : Int) : List Blk := [.row 73 3 (List.map Spot.d x6)]
def Yf105_c5 (s0 : Int) (s1 : Int) (x6 : List Spot) (y : Int) : List SV := Vf105_c5 s0 s1 x6 y
def Xf105_c5 (s0 : Int) (s1 : Int) (x6 : List Spot) (y : Int) : List Blk := Bf105_c5 s0 s1 x6 y
def Jf105_c5 (s0 : Int) (s1 : Int) (N : Nat) (x6 : List Spot) (r : Int × Bool × (List Spot)) (y : Int) : Prop := f105_c5 s0 s1 N x6 y = some r
def V2f105_c5 (s0 : Int) (s1 : Int) (x6 : List Spot) (v12 : Int) (m0 : Nat) : List SV := [.rs 0 m0, .dat (iN s0), .dat (.v (.func (.func 91) #[] #[])), .dat (iN v12), .dat (iN (W (s1 - (1 : Int))))]
def B2f105_c5 (s0 : Int) (s1 : Int) (x6 : List Spot) (v12 : Int) (m0 : Nat) : List Blk := [.row 73 3 (List.map Spot.d x6)]
theorem Cf105_c5 {r : Int × Bool × (List Spot)} {s0 : Int} {s1 : Int} {N : Nat} {x6 : List Spot} {g : _ → Option (Int × Bool × (List Spot))} (hn : Nat.beq (nid * 1000 + firstRegion b) 1000005 = true) (hz : Sf105_c5.ok p = true) (h : g (f105_c5 s0 s1 N x6) = some r → vc c p nid a st (KHead Sf105_c5 (Yf105_c5 s0 s1 x6) (Xf105_c5 s0 s1 x6) (Jf105_c5 s0 s1 N x6 r) K)) (h2 : ∀ (v12 : Int), f105_c5 s0 s1 N x6 v12 = some r → vc c p nid b (St.mk' Sf105_c5 (Vf105_c5 s0 s1 x6 v12) (Bf105_c5 s0 s1 x6 v12)) K) (hF : joinK (f105_c5 s0 s1 N x6) g = some r) : vc c p nid (.seq a b) st K :=
  vc_cut Sf105_c5 (Yf105_c5 s0 s1 x6) (Xf105_c5 s0 s1 x6) (Jf105_c5 s0 s1 N x6 r) hz (h hF) fun y hy => h2 y hy
theorem Zf105_c5 {r : Int × Bool × (List Spot)} {s0 : Int} {s1 : Int} {N : Nat} {x6 : List Spot} {v12 : Int} {m0 : Nat} (hF : f105_c5 s0 s1 N x6 v12 = some r) (h0 : AtH Sf105_c5 st (V2f105_c5 s0 s1 x6 v12 m0) (B2f105_c5 s0 s1 x6 v12 m0)) (em0 : m0 = List.length x6) : KHead Sf105_c5 (Yf105_c5 s0 s1 x6) (Xf105_c5 s0 s1 x6) (Jf105_c5 s0 s1 N x6 r) K .normal st := by
  subst em0; exact khead (I := (Jf105_c5 s0 s1 N x6 r)) (x := (v12)) hF h0
def f105_3b (r3 : Int → Option (Int × Bool × (List Spot))) (s0 : Int) (s1 : Int) (N : Nat) (x6 : List Spot) (k4 : Int → Option (Int × Bool × (List Spot))) (v12 : Int) : Option (Int × Bool × (List Spot)) :=
 bif decide (v12 ≤ (W (s1 - (1 : Int)))) then ((ix x6 v12).bind fun x40 =>
 (ix x6 s0).bind fun x41 =>
 (f91 N x40 x41).bind fun x42 =>
 bif decide (x42 < (0 : Int)) then (r3 (W (v12 + (1 : Int))))
 else (k4 v12))
 else (k4 v12)
def f105_3 (s0 : Int) (s1 : Int) (N : Nat) (x6 : List Spot) (k4 : Int → Option (Int × Bool × (List Spot))) : Nat → Int → Option (Int × Bool × (List Spot))
  | 0, _ => none
  | n + 1, v12 => f105_3b (f105_3 s0 s1 N x6 k4 n) s0 s1 N x6 k4 v12
def Sf105_3 : Ann := ⟨[0, 1, 4, 12, 13], [0], [], []⟩
def Vf105_3 (s0 : Int) (s1 : Int) (x6 : List Spot) (v12 : Int) : List SV := [.rs 0 (List.length x6), .dat (iN s0), .dat (.v (.func (.func 91) #[] #[])), .dat (iN v12), .dat (iN (W (s1 - (1 : Int))))]
def Bf105_3 (s0 : Int) (s1 : Int) (x6 : List Spot) (v12 : Int) : List Blk := [.row 73 3 (List.map Spot.d x6)]
def Yf105_3 (s0 : Int) (s1 : Int) (x6 : List Spot) (y : Nat × Int) : List SV := Vf105_3 s0 s1 x6 y.2
def Xf105_3 (s0 : Int) (s1 : Int) (x6 : List Spot) (y : Nat × Int) : List Blk := Bf105_3 s0 s1 x6 y.2
def Jf105_3 (s0 : Int) (s1 : Int) (N : Nat) (x6 : List Spot) (k4 : Int → Option (Int × Bool × (List Spot))) (r : Int × Bool × (List Spot)) (y : Nat × Int) : Prop := f105_3 s0 s1 N x6 k4 y.1 y.2 = some r
def V2f105_3 (s0 : Int) (s1 : Int) (x6 : List Spot) (v12 : Int) (m0 : Nat) : List SV := [.rs 0 m0, .dat (iN s0), .dat (.v (.func (.func 91) #[] #[])), .dat (iN v12), .dat (iN (W (s1 - (1 : Int))))]
def B2f105_3 (s0 : Int) (s1 : Int) (x6 : List Spot) (v12 : Int) (m0 : Nat) : List Blk := [.row 73 3 (List.map Spot.d x6)]
theorem Lf105_3 {r : Int × Bool × (List Spot)} {s0 : Int} {s1 : Int} {N : Nat} {x6 : List Spot} {k4 : Int → Option (Int × Bool × (List Spot))} {fu : Nat} {v12 : Int} {m0 : Nat} (hz : Sf105_3.ok p = true) (h0 : AtH Sf105_3 st (V2f105_3 s0 s1 x6 v12 m0) (B2f105_3 s0 s1 x6 v12 m0)) (em0 : m0 = List.length x6) (h : ∀ (n : Nat) (v12 : Int), f105_3b (f105_3 s0 s1 N x6 k4 n) s0 s1 N x6 k4 v12 = some r → vc c p nid a (St.mk' Sf105_3 (Vf105_3 s0 s1 x6 v12) (Bf105_3 s0 s1 x6 v12)) (Kloop Sf105_3 (Yf105_3 s0 s1 x6) (Xf105_3 s0 s1 x6) (Jf105_3 s0 s1 N x6 k4 r) Prod.fst (n + 1, v12) K)) (hF : f105_3 s0 s1 N x6 k4 fu v12 = some r) : vc c p nid (.loop a) st K := by
  subst em0; refine vc_loop Sf105_3 (Yf105_3 s0 s1 x6) (Xf105_3 s0 s1 x6) (Jf105_3 s0 s1 N x6 k4 r) Prod.fst hz (kheadL (x := (fu, v12)) hF h0) ?_
  rintro ⟨_ | n, v12⟩ hI
  · cases hI
  · exact h n v12 hI
theorem Mf105_3 {r : Int × Bool × (List Spot)} {s0 : Int} {s1 : Int} {N : Nat} {x6 : List Spot} {k4 : Int → Option (Int × Bool × (List Spot))} {n : Nat} {v12 : Int} {v12_ : Int} {m0 : Nat} (hF : f105_3 s0 s1 N x6 k4 n v12 = some r) (h0 : AtH Sf105_3 st (V2f105_3 s0 s1 x6 v12 m0) (B2f105_3 s0 s1 x6 v12 m0)) (em0 : m0 = List.length x6) : Kloop Sf105_3 (Yf105_3 s0 s1 x6) (Xf105_3 s0 s1 x6) (Jf105_3 s0 s1 N x6 k4 r) Prod.fst (n + 1, v12_) K .normal st := by
  subst em0; exact kback (y := (n, v12)) hF (Nat.lt_succ_self n) h0
def f105b (self : Int → Int → Int → (List Spot) → Option (Int × Bool × (List Spot))) (N : Nat) (s0 : Int) (s1 : Int) (s2 : Int) (s3 : List Spot) : Option (Int × Bool × (List Spot)) :=
 (ix s3 s2).bind fun x1 =>
 (ix s3 s0).bind fun x2 =>
 (ix s3 s0).bind fun x3 =>
 (setx s3 s0 x1).bind fun x4 =>
 (ix x4 s2).bind fun x5 =>
 (setx x4 s2 x2).bind fun x6 =>
 joinK (f105_c5 s0 s1 N x6) fun k4 =>
 f105_3 s0 s1 N x6 k4 N (W (s0 + (1 : Int)))
def f105 : Nat → Int → Int → Int → (List Spot) → Option (Int × Bool × (List Spot))
  | 0, _, _, _, _ => none
  | N + 1, s0, s1, s2, s3 => f105b (f105 N) N s0 s1 s2 s3
def Af105 (s0 : Int) (s1 : Int) (s2 : Int) (s3 : List Spot) : List SV := [.rs 0 (List.length s3), .dat (iN s0), .dat (iN s1), .dat (iN s2), .dat (.v (.func (.func 91) #[] #[]))]
def Bf105 (s0 : Int) (s1 : Int) (s2 : Int) (s3 : List Spot) : List Blk := [.row 73 3 (List.map Spot.d s3)]
def Rf105 (y : Int × Bool × (List Spot)) : List SV := [.dat (iN y.1), .kb y.2.1]
def B1f105 (s0 : Int) (s1 : Int) (s2 : Int) (s3 : List Spot) (y : Int × Bool × (List Spot)) : List Blk := [.row 73 3 (List.map Spot.d y.2.2)]
def BZf105 (y : Int × Bool × (List Spot)) : Blk := .unborn
def Spf105 : Spec (Int × Int × Int × (List Spot)) (Int × Bool × (List Spot)) := ⟨1, fun x => Af105 x.1 x.2.1 x.2.2.1 x.2.2.2, fun x => Bf105 x.1 x.2.1 x.2.2.1 x.2.2.2, fun _ y => Rf105 y, fun x y => B1f105 x.1 x.2.1 x.2.2.1 x.2.2.2 y, fun _ y => BZf105 y⟩
def H105 (N : Nat) (x : Int × Int × Int × (List Spot)) (y : Int × Bool × (List Spot)) : Prop := f105 N x.1 x.2.1 x.2.2.1 x.2.2.2 = some y
def G105 (x : Int × Int × Int × (List Spot)) (y : Int × Bool × (List Spot)) : Prop := ∃ N, H105 N x y
theorem H105.step {N : Nat} {s0 : Int} {s1 : Int} {s2 : Int} {s3 : List Spot} {m0 : Nat} {ρ : Type} {A : (Int × Bool × (List Spot)) → Option ρ} {q : ρ} {xs : List SV} {id : Nat} {m : Nat → Blk} {l : List Loc} {K : Dl → List Loc → Prop} {k0 : Nat} (ha : xs = [.rs k0 m0, .dat (iN s0), .dat (iN s1), .dat (iN s2), .dat (.v (.func (.func 91) #[] #[]))]) (b0 : m k0 = .row 73 3 (List.map Spot.d s3)) (em0 : m0 = List.length s3) (hu : m id = .unborn) (hn : nodupB [k0] = true) (h : ∀ y, A y = some q → K ⟨.tup [.dat (iN y.1), .kb y.2.1], [(k0, .row 73 3 (List.map Spot.d y.2.2)), (id, .unborn)]⟩ l) (hF : (f105 N s0 s1 s2 s3).bind A = some q) : effPg Spf105 (H105 N) xs id (fun _ => SV.no) m l K := by
  subst em0; obtain ⟨y, hy, hA⟩ := bind_some hF
  exact eff_step [k0] (s0, s1, s2, s3) y _ hy rfl hn ha (by simp only [List.map_cons, List.map_nil, b0]; rfl) hu rfl rfl (h y hA)
theorem G105.step {N : Nat} {s0 : Int} {s1 : Int} {s2 : Int} {s3 : List Spot} {m0 : Nat} {ρ : Type} {A : (Int × Bool × (List Spot)) → Option ρ} {q : ρ} {xs : List SV} {id : Nat} {m : Nat → Blk} {l : List Loc} {K : Dl → List Loc → Prop} {k0 : Nat} (ha : xs = [.rs k0 m0, .dat (iN s0), .dat (iN s1), .dat (iN s2), .dat (.v (.func (.func 91) #[] #[]))]) (b0 : m k0 = .row 73 3 (List.map Spot.d s3)) (em0 : m0 = List.length s3) (hu : m id = .unborn) (hn : nodupB [k0] = true) (h : ∀ y, A y = some q → K ⟨.tup [.dat (iN y.1), .kb y.2.1], [(k0, .row 73 3 (List.map Spot.d y.2.2)), (id, .unborn)]⟩ l) (hF : (f105 N s0 s1 s2 s3).bind A = some q) : effPg Spf105 (G105) xs id (fun _ => SV.no) m l K := by
  subst em0; obtain ⟨y, hy, hA⟩ := bind_some hF
  exact eff_step [k0] (s0, s1, s2, s3) y _ ⟨N, hy⟩ rfl hn ha (by simp only [List.map_cons, List.map_nil, b0]; rfl) hu rfl rfl (h y hA)
def Srf105 : Ann := ⟨[0, 1], [0, 500], [], []⟩
set_option maxRecDepth 20000 in
set_option maxHeartbeats 4000000 in
theorem Q105 (N : Nat) : CallOK Try.prog 105 (effPg Spf105 (H105 N)) := by
  induction N with
  | zero => exact eff_none fun x y h => (by cases (show (none : Option (Int × Bool × (List Spot))) = some y from h))
  | succ N ih =>
    refine eff_of_vc (c := mkCtx tyTree [(105, false, effPg Spf105 (H105 N)), (91, true, lendPg [[0, 0, 0], [0, 0, 0]] G91)]) rfl tyOK (ctx_eff (callable Try.func105 rfl rfl) ih (ctx_lend (callable Try.func91 rfl rfl) P91 (ctx_nil))) 1000 500 Srf105 Try.func105 rfl rfl (by kernel_rfl) rfl rfl rfl rfl rfl (fun _ => rfl) (fun _ => rfl) (fun _ _ => ⟨rfl, rfl⟩) ?_
    rintro ⟨s0, s1, s2, s3⟩ y hF
    have hF : f105b (f105 N) N s0 s1 s2 s3 = some y := hF
    show vc _ _ _ _ ⟨[(0, .rs 0 (List.length s3)), (1, .dat (iN s0)), (2, .dat (iN s1)), (3, .dat (iN s2)), (4, .dat (.v (.func (.func 91) #[] #[])))], [(0, .row 73 3 (List.map Spot.d s3))]⟩ _
    unfold f105b at hF
    repeat' (first
      | ((with_reducible refine q0 _ _ ?_); clear Q q0 q1 q2)
      | ((with_reducible refine q1 _ _ _ _ ?_); clear Q q0 q1 q2)
      | ((with_reducible refine q2 _ _ _ ?_); clear Q q0 q1 q2)
      | ((with_reducible refine seq_op ?hx (fun Q q0 q1 q2 => ?_)); (case hx => exact rfl); conv => whnf)
      | ((with_reducible refine draw_op ?hx (fun Q q0 q1 q2 => ?_)); (case hx => exact rfl); conv => whnf)
      | ((with_reducible refine seq_op0 ?hx (fun Q q0 q1 q2 => ?_)); (case hx => exact rfl); conv => whnf)
      | ((with_reducible refine draw_op0 ?hx (fun Q q0 q1 q2 => ?_)); (case hx => exact rfl); conv => whnf)
      | ((with_reducible refine seq_off ?hx ?_); (case hx => exact rfl))
      | ((with_reducible refine seq_off0 ?hx ?_); (case hx => exact rfl))
      | ((with_reducible refine draw_off ?hx ?_); (case hx => exact rfl))
      | ((with_reducible refine draw_off0 ?hx ?_); (case hx => exact rfl))
      | ((with_reducible refine draw_id ?_); (first | ((refine draw_opK rfl ?hy (fun Q q0 q1 q2 => ?_)); (case hy => first | assumption | exact notT (by assumption) | exact rfl); conv => whnf) | ((refine draw_offK rfl ?hy ?_); (case hy => first | assumption | exact notF (by assumption) | exact rfl)) | ((refine draw_opK0 rfl ?hy (fun Q q0 q1 q2 => ?_)); (case hy => first | assumption | exact notT (by assumption) | exact rfl); conv => whnf) | ((refine draw_offK0 rfl ?hy ?_); (case hy => first | assumption | exact notF (by assumption) | exact rfl)) | (revert hF; (with_reducible refine draw_opF ?hx ?_ ?_); (case hx => exact rfl); (intro hc hF Q q0 q1 q2; conv => whnf); rotate_left; (intro hc hF); rotate_right) | (revert hF; (with_reducible refine draw_opN ?hx ?_ ?_); (case hx => exact rfl); (intro hc hF); rotate_left; (intro hc hF Q q0 q1 q2; conv => whnf); rotate_right) | (revert hF; (with_reducible refine draw_opF0 ?hx ?_ ?_); (case hx => exact rfl); (intro hc hF Q q0 q1 q2; conv => whnf); rotate_left; (intro hc hF); rotate_right) | (revert hF; (with_reducible refine draw_opN0 ?hx ?_ ?_); (case hx => exact rfl); (intro hc hF); rotate_left; (intro hc hF Q q0 q1 q2; conv => whnf); rotate_right)))
      | ((with_reducible refine cond_id ?_); (first | ((refine condKT rfl ?hy ?_); (case hy => first | assumption | exact notT (by assumption) | exact rfl)) | ((refine condKF rfl ?hy ?_); (case hy => first | assumption | exact notF (by assumption) | exact rfl)) | (revert hF; (with_reducible refine condF ?hx ?_ ?_); (case hx => exact rfl); all_goals (intro hc hF))))
      | ((with_reducible refine seq_nil ?_); (first | ((with_reducible refine hR _ ?_); clear R hR) | ((with_reducible refine hL _ ?_); clear L hL)))
      | ((with_reducible refine draw_nil ?_); (with_reducible refine hR _ _ ?hx ?_); (case hx => kernel_rfl); (first | clear R hR | clear hR))
      | ((with_reducible refine int_step ?_); conv => whnf)
      | ((with_reducible refine len_step ?_); conv => whnf)
      | ((with_reducible refine idx2 (by assumption) ?_); conv => whnf)
      | ((with_reducible refine idx3 (by assumption) ?_); conv => whnf)
      | with_reducible refine vc_block ?_
      | with_reducible refine vc_skip ?_
      | with_reducible refine vc_ret ?_
      | with_reducible refine vc_exit ?_
      | ((with_reducible refine vc_seqN [1000021, 1000017, 1000015, 1000007, 1000005] ?hx ?_); (case hx => exact rfl))
      | (with_reducible refine vc_region (fun R hR => ?_))
      | ((with_reducible refine vc_draw ?hx (fun R hR => ?_)); (case hx => exact rfl))
      | fail
      | (revert hF; (refine Cf105_c21 rfl rfl ?_ ?_); (intro hF); rotate_left; (intro v13' b0 hF; unfold f105_c21 at hF); rotate_right)
      | exact Zf105_c21 hF ⟨_, rfl, rfl, rfl, rfl⟩ (by first | exact rfl | assumption | omega)
      | (revert hF; (refine Cf105_c17 rfl rfl ?_ ?_); (intro hF); rotate_left; (intro v13'' hF; unfold f105_c17 at hF); rotate_right)
      | exact Zf105_c17 hF ⟨_, rfl, rfl, rfl, rfl⟩ (by first | exact rfl | assumption | omega)
      | (revert hF; (refine Lf105_15 rfl ⟨_, rfl, rfl, rfl, rfl⟩ (by first | exact rfl | assumption | omega) ?_); intro n v13'' hF; unfold f105_15b at hF)
      | exact Mf105_15 hF ⟨_, rfl, rfl, rfl, rfl⟩ (by first | exact rfl | assumption | omega)
      | (revert hF; (refine Cf105_c15 rfl rfl ?_ ?_); (intro hF); rotate_left; (intro v12'' hF; unfold f105_c15 at hF); rotate_right)
      | exact Zf105_c15 hF ⟨_, rfl, rfl, rfl, rfl⟩ (by first | exact rfl | assumption | omega)
      | (revert hF; (refine Lf105_13_1 rfl ⟨_, rfl, rfl, rfl, rfl⟩ (by first | exact rfl | assumption | omega) ?_); intro n v12'' hF; unfold f105_13_1b at hF)
      | exact Mf105_13_1 hF ⟨_, rfl, rfl, rfl, rfl⟩ (by first | exact rfl | assumption | omega)
      | (revert hF; (refine Lf105_13 rfl ⟨_, rfl, rfl, rfl, rfl⟩ (by first | exact rfl | assumption | omega) ?_); intro n v12' v13' b0 hF; unfold f105_13b at hF)
      | exact Mf105_13 hF ⟨_, rfl, rfl, rfl, rfl⟩ (by first | exact rfl | assumption | omega)
      | (revert hF; (refine Cf105_c7 rfl rfl ?_ ?_); (intro hF); rotate_left; (intro v13 hF; unfold f105_c7 at hF); rotate_right)
      | exact Zf105_c7 hF ⟨_, rfl, rfl, rfl, rfl⟩ (by first | exact rfl | assumption | omega)
      | (revert hF; (refine Lf105_5 rfl ⟨_, rfl, rfl, rfl, rfl⟩ (by first | exact rfl | assumption | omega) ?_); intro n v13 hF; unfold f105_5b at hF)
      | exact Mf105_5 hF ⟨_, rfl, rfl, rfl, rfl⟩ (by first | exact rfl | assumption | omega)
      | (revert hF; (refine Cf105_c5 rfl rfl ?_ ?_); (intro hF); rotate_left; (intro v12 hF; unfold f105_c5 at hF); rotate_right)
      | exact Zf105_c5 hF ⟨_, rfl, rfl, rfl, rfl⟩ (by first | exact rfl | assumption | omega)
      | (revert hF; (refine Lf105_3 rfl ⟨_, rfl, rfl, rfl, rfl⟩ (by first | exact rfl | assumption | omega) ?_); intro n v12 hF; unfold f105_3b at hF)
      | exact Mf105_3 hF ⟨_, rfl, rfl, rfl, rfl⟩ (by first | exact rfl | assumption | omega)
      | (revert hF; (with_reducible refine G91.lend ?hx ?_); (case hx => exact rfl); intro v hF; conv => whnf)
      | (revert hF; (refine H105.step rfl rfl (by first | exact rfl | assumption | omega) rfl ?hn ?_); (case hn => exact rfl); intro v hF; conv => whnf)
      | (show retE _ _ _ _ _ _; conv => whnf)
      | (cases hF; exact ⟨rfl, rfl, rfl⟩)
      | with_reducible refine k_seq_ret ?_
      | with_reducible refine k_seq_exit ?_
      | with_reducible refine k_blk ?_
      | with_reducible refine k_blk_ret ?_
      | with_reducible refine k_blk_here ?_
      | ((with_reducible refine k_blk_out ?hx ?_); (case hx => exact rfl))
      | with_reducible refine k_loop_ret ?_
      | with_reducible refine k_loop_exit ?_
      | (revert hF; (with_reducible refine idx1 ?hn ?_); (case hn => first | exact rfl | exact (List.length_map _) | assumption | omega | simp); intro x hx hF; conv => whnf)
      | ((refine row_all ?hn ?_); (case hn => first | exact rfl | (simp; done) | (simp; omega)); conv => whnf)
      | ((with_reducible refine le_step ?hn ?_); (case hn => first | exact rfl | assumption | omega); conv => whnf)
      | ((with_reducible have hG := setx_fact hF); clear hF; (refine setx_step hG ?hs (fun q hl hF => ?_)); (case hs => exact rfl); clear hG; conv => whnf)
      | ((refine ⟨?hx, ?_⟩); (case hx => exact ⟨rfl, Nat.le_of_ble_eq_true rfl, rfl⟩); conv => whnf)
      | ((with_reducible refine ex_step ?_); conv => whnf)
      | ((with_reducible refine both_T ?hx ?_); (case hx => first | exact rfl | assumption | exact notT (by assumption)); conv => whnf)
      | ((with_reducible refine both_F ?hx ?_); (case hx => first | exact rfl | assumption | exact notF (by assumption)); conv => whnf)
      | (revert hF; (with_reducible refine ite_step ?_ ?_) <;> (intro hc hF; conv => whnf))
      | ((with_reducible refine vc_condT ?hx ?_); (case hx => exact rfl))
      | ((with_reducible refine vc_condF ?hx ?_); (case hx => exact rfl))
      | (show retD _ _ _ _ _ _; conv => whnf)
      | ((refine ⟨?hx, trivial⟩); (case hx => (cases hF; exact rfl)))
      | ((refine ⟨?hx, ?_⟩); (case hx => decide); conv => whnf)
      | ((with_reducible refine k_seq ?_))
      | (have hF : (none : Option _) = some _ := hF; cases hF))
theorem P105 : CallOK Try.prog 105 (effPg Spf105 G105) := eff_ex Q105
end
end Go.Vc

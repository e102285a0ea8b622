/-
  A library for proofs about Go functions by symbolic evaluation, and plain Lean functions that the walked Go functions compute (written by a program of this claim).
-/
import Derived.Test.YtikifojhjbcfhaaCodesF1
import Derived.Test.YtikifojhjbcfhaaVc3
namespace Go.Vc
open Go.Proofs
set_option linter.unusedVariables false
set_option linter.unnecessarySimpa false
set_option linter.unusedSimpArgs false
section
variable {c : Ctx} {p nid : Nat} {a b : Code} {st : St} {K : Ex → St → Prop}
/- f100: slices.breakPatternsCmpFunc[tusche/serial.Spot] -/
def f100_c10 (s0 : Int) (s1 : Int) (x1 : Int) (v11 : Int) (b0 : List Spot) (b1202_0 : Int) (r5 : Int → (List Spot) → Int → Option ((List Spot))) (v12 : Int) : Option ((List Spot)) :=
 (ix b0 (W (s0 + v12))).bind fun x2 =>
 (ix b0 v11).bind fun x3 =>
 (ix b0 v11).bind fun x4 =>
 (setx b0 v11 x2).bind fun x5 =>
 (ix x5 (W (s0 + v12))).bind fun x6 =>
 (setx x5 (W (s0 + v12)) x3).bind fun x7 =>
 r5 (W (v11 + (1 : Int))) x7 (bitsI .xor .u64 (bitsI .xor .u64 (bitsI .xor .u64 b1202_0 (Wk .u64 (b1202_0 * 2 ^ (min (Int.toNat (13 : Int)) 64)))) (Int.fdiv (bitsI .xor .u64 b1202_0 (Wk .u64 (b1202_0 * 2 ^ (min (Int.toNat (13 : Int)) 64)))) (2 ^ (min (Int.toNat (7 : Int)) 64)))) (Wk .u64 ((bitsI .xor .u64 (bitsI .xor .u64 b1202_0 (Wk .u64 (b1202_0 * 2 ^ (min (Int.toNat (13 : Int)) 64)))) (Int.fdiv (bitsI .xor .u64 b1202_0 (Wk .u64 (b1202_0 * 2 ^ (min (Int.toNat (13 : Int)) 64)))) (2 ^ (min (Int.toNat (7 : Int)) 64)))) * 2 ^ (min (Int.toNat (17 : Int)) 64))))
def Lf100_c10 (s0 : Int) (s1 : Int) (x1 : Int) (v11 : Int) (b0 : List Spot) (b1202_0 : Int) (r5 : Int → (List Spot) → Int → Option ((List Spot))) : Lp (Int) (Nat) ((List Spot)) := ⟨⟨[0, 1, 8, 9, 10, 11, 12], [0, 1202], [], []⟩, fun v12 => [.rs 0 (List.length b0), .dat (iN s0), .dat (iN (W (s1 - s0))), .ptr 1202 0, .dat (u64N x1), .dat (iN v11), .dat (iN v12)], fun _ => [.row 73 3 (List.map Spot.d b0), .box [.dat (u64N (bitsI .xor .u64 (bitsI .xor .u64 (bitsI .xor .u64 b1202_0 (Wk .u64 (b1202_0 * 2 ^ (min (Int.toNat (13 : Int)) 64)))) (Int.fdiv (bitsI .xor .u64 b1202_0 (Wk .u64 (b1202_0 * 2 ^ (min (Int.toNat (13 : Int)) 64)))) (2 ^ (min (Int.toNat (7 : Int)) 64)))) (Wk .u64 ((bitsI .xor .u64 (bitsI .xor .u64 b1202_0 (Wk .u64 (b1202_0 * 2 ^ (min (Int.toNat (13 : Int)) 64)))) (Int.fdiv (bitsI .xor .u64 b1202_0 (Wk .u64 (b1202_0 * 2 ^ (min (Int.toNat (13 : Int)) 64)))) (2 ^ (min (Int.toNat (7 : Int)) 64)))) * 2 ^ (min (Int.toNat (17 : Int)) 64)))))]], fun v12 => f100_c10 s0 s1 x1 v11 b0 b1202_0 r5 v12, fun v12 m0 => [.rs 0 m0, .dat (iN s0), .dat (iN (W (s1 - s0))), .ptr 1202 0, .dat (u64N x1), .dat (iN v11), .dat (iN v12)], fun _ _ => [.row 73 3 (List.map Spot.d b0), .box [.dat (u64N (bitsI .xor .u64 (bitsI .xor .u64 (bitsI .xor .u64 b1202_0 (Wk .u64 (b1202_0 * 2 ^ (min (Int.toNat (13 : Int)) 64)))) (Int.fdiv (bitsI .xor .u64 b1202_0 (Wk .u64 (b1202_0 * 2 ^ (min (Int.toNat (13 : Int)) 64)))) (2 ^ (min (Int.toNat (7 : Int)) 64)))) (Wk .u64 ((bitsI .xor .u64 (bitsI .xor .u64 b1202_0 (Wk .u64 (b1202_0 * 2 ^ (min (Int.toNat (13 : Int)) 64)))) (Int.fdiv (bitsI .xor .u64 b1202_0 (Wk .u64 (b1202_0 * 2 ^ (min (Int.toNat (13 : Int)) 64)))) (2 ^ (min (Int.toNat (7 : Int)) 64)))) * 2 ^ (min (Int.toNat (17 : Int)) 64)))))]], fun _ => List.length b0, fun _ => rfl, fun _ => rfl⟩
theorem Ef100_c10 {s0 s1 x1 v11 b0 b1202_0 r5 v12} : (Lf100_c10 s0 s1 x1 v11 b0 b1202_0 r5).E v12 = f100_c10 s0 s1 x1 v11 b0 b1202_0 r5 v12 := rfl
def f100_5b (r5 : Int → (List Spot) → Int → Option ((List Spot))) (s0 : Int) (s1 : Int) (x1 : Int) (v11 : Int) (b0 : List Spot) (b1202_0 : Int) : Option ((List Spot)) :=
 bif decide (v11 ≤ (W ((W (s0 + (W ((W (Int.tdiv (W (s1 - s0)) (4 : Int))) * (2 : Int))))) + (1 : Int)))) then (joinK (f100_c10 s0 s1 x1 v11 b0 b1202_0 r5) fun k0 =>
 bif decide ((W (s1 - s0)) ≤ (W (bitsI .and .u64 (bitsI .xor .u64 (bitsI .xor .u64 (bitsI .xor .u64 b1202_0 (Wk .u64 (b1202_0 * 2 ^ (min (Int.toNat (13 : Int)) 64)))) (Int.fdiv (bitsI .xor .u64 b1202_0 (Wk .u64 (b1202_0 * 2 ^ (min (Int.toNat (13 : Int)) 64)))) (2 ^ (min (Int.toNat (7 : Int)) 64)))) (Wk .u64 ((bitsI .xor .u64 (bitsI .xor .u64 b1202_0 (Wk .u64 (b1202_0 * 2 ^ (min (Int.toNat (13 : Int)) 64)))) (Int.fdiv (bitsI .xor .u64 b1202_0 (Wk .u64 (b1202_0 * 2 ^ (min (Int.toNat (13 : Int)) 64)))) (2 ^ (min (Int.toNat (7 : Int)) 64)))) * 2 ^ (min (Int.toNat (17 : Int)) 64)))) (Wk .u64 (x1 - (1 : Int)))))) then (k0 (W ((W (bitsI .and .u64 (bitsI .xor .u64 (bitsI .xor .u64 (bitsI .xor .u64 b1202_0 (Wk .u64 (b1202_0 * 2 ^ (min (Int.toNat (13 : Int)) 64)))) (Int.fdiv (bitsI .xor .u64 b1202_0 (Wk .u64 (b1202_0 * 2 ^ (min (Int.toNat (13 : Int)) 64)))) (2 ^ (min (Int.toNat (7 : Int)) 64)))) (Wk .u64 ((bitsI .xor .u64 (bitsI .xor .u64 b1202_0 (Wk .u64 (b1202_0 * 2 ^ (min (Int.toNat (13 : Int)) 64)))) (Int.fdiv (bitsI .xor .u64 b1202_0 (Wk .u64 (b1202_0 * 2 ^ (min (Int.toNat (13 : Int)) 64)))) (2 ^ (min (Int.toNat (7 : Int)) 64)))) * 2 ^ (min (Int.toNat (17 : Int)) 64)))) (Wk .u64 (x1 - (1 : Int))))) - (W (s1 - s0)))))
 else (k0 (W (bitsI .and .u64 (bitsI .xor .u64 (bitsI .xor .u64 (bitsI .xor .u64 b1202_0 (Wk .u64 (b1202_0 * 2 ^ (min (Int.toNat (13 : Int)) 64)))) (Int.fdiv (bitsI .xor .u64 b1202_0 (Wk .u64 (b1202_0 * 2 ^ (min (Int.toNat (13 : Int)) 64)))) (2 ^ (min (Int.toNat (7 : Int)) 64)))) (Wk .u64 ((bitsI .xor .u64 (bitsI .xor .u64 b1202_0 (Wk .u64 (b1202_0 * 2 ^ (min (Int.toNat (13 : Int)) 64)))) (Int.fdiv (bitsI .xor .u64 b1202_0 (Wk .u64 (b1202_0 * 2 ^ (min (Int.toNat (13 : Int)) 64)))) (2 ^ (min (Int.toNat (7 : Int)) 64)))) * 2 ^ (min (Int.toNat (17 : Int)) 64)))) (Wk .u64 (x1 - (1 : Int)))))))
 else (some (b0))
def f100_5 (s0 : Int) (s1 : Int) (x1 : Int) : Nat → Int → (List Spot) → Int → Option ((List Spot))
  | 0, _, _, _ => none
  | n + 1, v11, b0, b1202_0 => f100_5b (f100_5 s0 s1 x1 n) s0 s1 x1 v11 b0 b1202_0
def Lf100_5 (s0 : Int) (s1 : Int) (x1 : Int) : Lp (Nat × Int × (List Spot) × Int) (Nat) ((List Spot)) := ⟨⟨[0, 1, 8, 9, 10, 11], [0, 1202], [], []⟩, fun (_, v11, b0, _) => [.rs 0 (List.length b0), .dat (iN s0), .dat (iN (W (s1 - s0))), .ptr 1202 0, .dat (u64N x1), .dat (iN v11)], fun (_, _, b0, b1202_0) => [.row 73 3 (List.map Spot.d b0), .box [.dat (u64N b1202_0)]], fun (n, v11, b0, b1202_0) => f100_5 s0 s1 x1 n v11 b0 b1202_0, fun (_, v11, _, _) m0 => [.rs 0 m0, .dat (iN s0), .dat (iN (W (s1 - s0))), .ptr 1202 0, .dat (u64N x1), .dat (iN v11)], fun (_, _, b0, b1202_0) _ => [.row 73 3 (List.map Spot.d b0), .box [.dat (u64N b1202_0)]], fun (_, _, b0, _) => List.length b0, fun _ => rfl, fun _ => rfl⟩
theorem Ef100_5 {s0 s1 x1 n v11 b0 b1202_0} : (Lf100_5 s0 s1 x1).E (n, v11, b0, b1202_0) = f100_5 s0 s1 x1 n v11 b0 b1202_0 := rfl
def f100b (self : Int → Int → (List Spot) → Option ((List Spot))) (N : Nat) (s0 : Int) (s1 : Int) (s2 : List Spot) : Option ((List Spot)) :=
 bif decide ((8 : Int) ≤ (W (s1 - s0))) then ((f110 N (W (s1 - s0))).bind fun x1 =>
 f100_5 s0 s1 x1 N (W ((W (s0 + (W ((W (Int.tdiv (W (s1 - s0)) (4 : Int))) * (2 : Int))))) - (1 : Int))) s2 (Wk .u64 (W (s1 - s0))))
 else (some (s2))
def f100 : Nat → Int → Int → (List Spot) → Option ((List Spot))
  | 0, _, _, _ => none
  | N + 1, s0, s1, s2 => f100b (f100 N) N s0 s1 s2
def Af100 (s0 : Int) (s1 : Int) (s2 : List Spot) : List SV := [.rs 0 (List.length s2), .dat (iN s0), .dat (iN s1), .dat (.v (.func (.func 91) #[] #[]))]
def Bf100 (s0 : Int) (s1 : Int) (s2 : List Spot) : List Blk := [.row 73 3 (List.map Spot.d s2)]
def Rf100 (y : (List Spot)) : List SV := []
def B1f100 (s0 : Int) (s1 : Int) (s2 : List Spot) (y : (List Spot)) : List Blk := [.row 73 3 (List.map Spot.d y)]
def BZf100 (y : (List Spot)) : Blk := .unborn
def Spf100 : Spec (Int × Int × (List Spot)) ((List Spot)) := ⟨1, fun x => Af100 x.1 x.2.1 x.2.2, fun x => Bf100 x.1 x.2.1 x.2.2, fun _ y => Rf100 y, fun x y => B1f100 x.1 x.2.1 x.2.2 y, fun _ y => BZf100 y⟩
def H100 (N : Nat) (x : Int × Int × (List Spot)) (y : (List Spot)) : Prop := f100 N x.1 x.2.1 x.2.2 = some y
def G100 (x : Int × Int × (List Spot)) (y : (List Spot)) : Prop := ∃ N, H100 N x y
theorem H100.step {N : Nat} {s0 : Int} {s1 : Int} {s2 : List Spot} {m0 : Nat} {ρ : Type} {A : (List Spot) → Option ρ} {q : ρ} {xs : List SV} {id : Nat} {m : Nat → Blk} {l : List Loc} {K : Dl → List Loc → Prop} {k0 : Nat} (ha : xs = [.rs k0 m0, .dat (iN s0), .dat (iN s1), .dat (.v (.func (.func 91) #[] #[]))]) (b0 : m k0 = .row 73 3 (List.map Spot.d s2)) (em0 : m0 = List.length s2) (hu : m id = .unborn) (hn : nodupB [k0] = true) (h : ∀ y, A y = some q → K ⟨.tup [], [(k0, .row 73 3 (List.map Spot.d y)), (id, .unborn)]⟩ l) (hF : (f100 N s0 s1 s2).bind A = some q) : effPg Spf100 (H100 N) xs id (fun _ => SV.no) m l K := by
  subst em0; obtain ⟨y, hy, hA⟩ := bind_some hF
  exact eff_step [k0] (s0, s1, s2) y _ hy rfl hn ha (by simp only [List.map_cons, List.map_nil, b0]; rfl) hu rfl rfl (h y hA)
theorem G100.step {N : Nat} {s0 : Int} {s1 : Int} {s2 : List Spot} {m0 : Nat} {ρ : Type} {A : (List Spot) → Option ρ} {q : ρ} {xs : List SV} {id : Nat} {m : Nat → Blk} {l : List Loc} {K : Dl → List Loc → Prop} {k0 : Nat} (ha : xs = [.rs k0 m0, .dat (iN s0), .dat (iN s1), .dat (.v (.func (.func 91) #[] #[]))]) (b0 : m k0 = .row 73 3 (List.map Spot.d s2)) (em0 : m0 = List.length s2) (hu : m id = .unborn) (hn : nodupB [k0] = true) (h : ∀ y, A y = some q → K ⟨.tup [], [(k0, .row 73 3 (List.map Spot.d y)), (id, .unborn)]⟩ l) (hF : (f100 N s0 s1 s2).bind A = some q) : effPg Spf100 (G100) xs id (fun _ => SV.no) m l K := by
  subst em0; obtain ⟨y, hy, hA⟩ := bind_some hF
  exact eff_step [k0] (s0, s1, s2) y _ ⟨N, hy⟩ rfl hn ha (by simp only [List.map_cons, List.map_nil, b0]; rfl) hu rfl rfl (h y hA)
def Srf100 : Ann := ⟨[], [0, 500], [], []⟩
set_option maxRecDepth 20000 in
set_option maxHeartbeats 4000000 in
theorem Q100 (N : Nat) : CallOK Try.prog 100 (effPg Spf100 (H100 N)) := by
  induction N with
  | zero => exact eff_none fun x y h => (by cases (show (none : Option ((List Spot))) = some y from h))
  | succ N ih =>
    refine eff_of_vc (c := mkCtx tyTree [(100, false, effPg Spf100 (H100 N)), (111, false, inlPg (mkCtx tyTree []) Try.f111), (110, true, lendPg [[0]] G110)]) rfl tyOK (ctx_eff (callable Try.func100 rfl rfl) ih (ctx_eff (callable Try.func111 rfl rfl) (CallOK.inl rfl tyOK (ctx_nil) Try.func111 (by kernel_rfl)) (ctx_lend (callable Try.func110 rfl rfl) P110 (ctx_nil)))) 1000 500 Srf100 Try.func100 rfl rfl (by kernel_rfl) rfl rfl rfl rfl rfl (fun _ => rfl) (fun _ => rfl) (fun _ _ => ⟨rfl, rfl⟩) ?_
    rintro ⟨s0, s1, s2⟩ y hF
    have hF : f100b (f100 N) N s0 s1 s2 = some y := hF
    show vc _ _ _ _ ⟨[(0, .rs 0 (List.length s2)), (1, .dat (iN s0)), (2, .dat (iN s1)), (3, .dat (.v (.func (.func 91) #[] #[])))], [(0, .row 73 3 (List.map Spot.d s2))]⟩ _
    unfold f100b at hF
    repeat' (first
      | ((with_reducible first | refine q0 _ _ ?_ | refine q1 _ _ _ _ ?_ | refine q2 _ _ _ ?_); clear Q q0 q1 q2)
      | ((with_reducible first | refine seq_op ?hx (fun Q q0 q1 q2 => ?_) | refine draw_op ?hx (fun Q q0 q1 q2 => ?_) | refine seq_op0 ?hx (fun Q q0 q1 q2 => ?_) | refine draw_op0 ?hx (fun Q q0 q1 q2 => ?_)); (case hx => exact rfl); conv => whnf)
      | ((with_reducible refine cond_id ?_); (first | ((refine condKT rfl ?hy ?_); (case hy => first | assumption | exact notT (by assumption) | exact rfl)) | ((refine condKF rfl ?hy ?_); (case hy => first | assumption | exact notF (by assumption) | exact rfl)) | (revert hF; (with_reducible refine condF ?hx ?_ ?_); (case hx => exact rfl); all_goals (intro hc hF))))
      | ((with_reducible refine seq_nil ?_); (first | ((with_reducible refine hR _ ?_); clear R hR) | ((with_reducible refine hL _ ?_); clear L hL)))
      | ((with_reducible refine draw_nil ?_); (with_reducible refine hR _ _ ?hx ?_); (case hx => kernel_rfl); (first | clear R hR | clear hR))
      | ((with_reducible first | refine int_step ?_ | refine len_step ?_ | refine idx2 (by assumption) ?_ | refine idx3 (by assumption) ?_); conv => whnf)
      | (with_reducible first | refine vc_block ?_ | refine vc_skip ?_ | refine vc_ret ?_ | refine vc_exit ?_ | refine vc_region (fun R hR => ?_) | refine k_seq_ret ?_ | refine k_seq_exit ?_ | refine k_blk ?_ | refine k_blk_ret ?_ | refine k_blk_here ?_ | refine k_loop_ret ?_ | refine k_loop_exit ?_)
      | ((with_reducible refine vc_seqN [1000010] ?hx ?_); (case hx => exact rfl))
      | ((with_reducible refine vc_draw ?hx (fun R hR => ?_)); (case hx => exact rfl))
      | (revert hF; (refine Lp.cut7 Lf100_c10 f100_c10 1000010 rfl rfl ?_ ?_); (intro hF); rotate_left; (rintro v12 hF; dsimp only [Lf100_c10] at hF; unfold f100_c10 at hF); rotate_right)
      | exact Lp.head Ef100_c10 hF _ ⟨_, rfl, rfl, rfl, rfl⟩ (by first | exact rfl | ((try dsimp only [Lf100_c10]); first | assumption | omega | (simp only [List.length_set]; done)))
      | (revert hF; (refine Lp.loop Ef100_5 _ rfl ⟨_, rfl, rfl, rfl, rfl⟩ (by first | exact rfl | ((try dsimp only [Lf100_5]); first | assumption | omega | (simp only [List.length_set]; done))) (fun _ => rfl) ?_); rintro n ⟨v11, b0, b1202_0⟩ hF; dsimp only [Lf100_5, f100_5] at hF; unfold f100_5b at hF)
      | exact Lp.back Ef100_5 hF _ ⟨_, rfl, rfl, rfl, rfl⟩ (by first | exact rfl | ((try dsimp only [Lf100_5]); first | assumption | omega | (simp only [List.length_set]; done)))
      | (revert hF; (with_reducible refine G110.lend ?hx ?_); (case hx => exact rfl); intro v hF; conv => whnf)
      | (revert hF; (refine H100.step rfl rfl (by first | exact rfl | assumption | omega | (simp only [List.length_set]; done)) rfl ?hn ?_); (case hn => exact rfl); intro v hF; conv => whnf)
      | (show retE _ _ _ _ _ _; conv => whnf)
      | (cases hF; exact ⟨rfl, rfl, rfl⟩)
      | ((with_reducible first | refine k_blk_out ?hx ?_ | refine vc_condT ?hx ?_); (case hx => exact rfl))
      | (revert hF; (with_reducible refine idx1 ?hn ?_); (case hn => first | exact rfl | exact (List.length_map _) | assumption | omega | simp); intro x hx hF; conv => whnf)
      | ((refine row_all ?hn ?_); (case hn => first | exact rfl | (simp; done) | (simp; omega)); conv => whnf)
      | ((with_reducible refine le_step ?hn ?_); (case hn => first | exact rfl | assumption | omega); conv => whnf)
      | ((with_reducible have hG := setx_fact hF); clear hF; (refine setx_step hG ?hs (fun q hl hF => ?_)); (case hs => exact rfl); clear hG; conv => whnf)
      | ((refine ⟨?hx, ?_⟩); (case hx => exact ⟨rfl, Nat.le_of_ble_eq_true rfl, rfl⟩); conv => whnf)
      | ((with_reducible refine ex_step ?_); conv => whnf)
      | ((with_reducible refine both_T ?hx ?_); (case hx => first | exact rfl | assumption | exact notT (by assumption)); conv => whnf)
      | ((with_reducible refine both_F ?hx ?_); (case hx => first | exact rfl | assumption | exact notF (by assumption)); conv => whnf)
      | (revert hF; (with_reducible refine ite_step ?_ ?_) <;> (intro hc hF; conv => whnf))
      | ((with_reducible refine vc_condF ?hx ?_); (case hx => exact rfl))
      | (show retD _ _ _ _ _ _; conv => whnf)
      | ((refine inl_step ?ha ?hb ?hc rfl ?_); (case ha => exact rfl); (case hb => omega); (case hc => exact Nat.le_of_ble_eq_true rfl))
      | (show Kinl _ _ _ _ _ _ _; conv => whnf)
      | ((with_reducible refine kinl_step ?ha ?hb ?_); (case ha => exact rfl); (case hb => exact rfl); conv => whnf)
      | ((refine ⟨?hx, trivial⟩); (case hx => (cases hF; exact rfl)))
      | ((refine ⟨?hx, ?_⟩); (case hx => decide); conv => whnf)
      | with_reducible refine k_seq ?_
      | (have hF : (none : Option _) = some _ := hF; cases hF))
theorem P100 : CallOK Try.prog 100 (effPg Spf100 G100) := eff_ex Q100
end
end Go.Vc
namespace Go.Vc
open Go.Proofs
set_option linter.unusedVariables false
set_option linter.unnecessarySimpa false
set_option linter.unusedSimpArgs false
section
variable {c : Ctx} {p nid : Nat} {a b : Code} {st : St} {K : Ex → St → Prop}
/- f114: slices.order2CmpFunc[tusche/serial.Spot] -/
def f114b (self : Int → Int → (List Spot) → Int → Option (Int × Int × Int)) (N : Nat) (s0 : Int) (s1 : Int) (s2 : List Spot) (s3 : Int) : Option (Int × Int × Int) :=
 (ix s2 s1).bind fun x1 =>
 (ix s2 s0).bind fun x2 =>
 (f91 N x1 x2).bind fun x3 =>
 bif decide (x3 < (0 : Int)) then (some (s1, s0, W (s3 + (1 : Int))))
 else (some (s0, s1, s3))
def f114 : Nat → Int → Int → (List Spot) → Int → Option (Int × Int × Int)
  | 0, _, _, _, _ => none
  | N + 1, s0, s1, s2, s3 => f114b (f114 N) N s0 s1 s2 s3
def Af114 (s0 : Int) (s1 : Int) (s2 : List Spot) (s3 : Int) : List SV := [.rs 0 (List.length s2), .dat (iN s0), .dat (iN s1), .ptr 1 0, .dat (.v (.func (.func 91) #[] #[]))]
def Bf114 (s0 : Int) (s1 : Int) (s2 : List Spot) (s3 : Int) : List Blk := [.row 73 3 (List.map Spot.d s2), .box [.dat (iN s3)]]
def Rf114 (y : Int × Int × Int) : List SV := [.dat (iN y.1), .dat (iN y.2.1)]
def B1f114 (s0 : Int) (s1 : Int) (s2 : List Spot) (s3 : Int) (y : Int × Int × Int) : List Blk := [.row 73 3 (List.map Spot.d s2), .box [.dat (iN y.2.2)]]
def BZf114 (y : Int × Int × Int) : Blk := .unborn
def Spf114 : Spec (Int × Int × (List Spot) × Int) (Int × Int × Int) := ⟨2, fun x => Af114 x.1 x.2.1 x.2.2.1 x.2.2.2, fun x => Bf114 x.1 x.2.1 x.2.2.1 x.2.2.2, fun _ y => Rf114 y, fun x y => B1f114 x.1 x.2.1 x.2.2.1 x.2.2.2 y, fun _ y => BZf114 y⟩
def H114 (N : Nat) (x : Int × Int × (List Spot) × Int) (y : Int × Int × Int) : Prop := f114 N x.1 x.2.1 x.2.2.1 x.2.2.2 = some y
def G114 (x : Int × Int × (List Spot) × Int) (y : Int × Int × Int) : Prop := ∃ N, H114 N x y
theorem H114.step {N : Nat} {s0 : Int} {s1 : Int} {s2 : List Spot} {s3 : Int} {m0 : Nat} {ρ : Type} {A : (Int × Int × Int) → Option ρ} {q : ρ} {xs : List SV} {id : Nat} {m : Nat → Blk} {l : List Loc} {K : Dl → List Loc → Prop} {k0 k1 : Nat} (ha : xs = [.rs k0 m0, .dat (iN s0), .dat (iN s1), .ptr k1 0, .dat (.v (.func (.func 91) #[] #[]))]) (b0 : m k0 = .row 73 3 (List.map Spot.d s2)) (b1 : m k1 = .box [.dat (iN s3)]) (em0 : m0 = List.length s2) (hu : m id = .unborn) (hn : nodupB [k0, k1] = true) (h : ∀ y, A y = some q → K ⟨.tup [.dat (iN y.1), .dat (iN y.2.1)], [(k0, .row 73 3 (List.map Spot.d s2)), (k1, .box [.dat (iN y.2.2)]), (id, .unborn)]⟩ l) (hF : (f114 N s0 s1 s2 s3).bind A = some q) : effPg Spf114 (H114 N) xs id (fun _ => SV.no) m l K := by
  subst em0; obtain ⟨y, hy, hA⟩ := bind_some hF
  exact eff_step [k0, k1] (s0, s1, s2, s3) y _ hy rfl hn ha (by simp only [List.map_cons, List.map_nil, b0, b1]; rfl) hu rfl rfl (h y hA)
theorem G114.step {N : Nat} {s0 : Int} {s1 : Int} {s2 : List Spot} {s3 : Int} {m0 : Nat} {ρ : Type} {A : (Int × Int × Int) → Option ρ} {q : ρ} {xs : List SV} {id : Nat} {m : Nat → Blk} {l : List Loc} {K : Dl → List Loc → Prop} {k0 k1 : Nat} (ha : xs = [.rs k0 m0, .dat (iN s0), .dat (iN s1), .ptr k1 0, .dat (.v (.func (.func 91) #[] #[]))]) (b0 : m k0 = .row 73 3 (List.map Spot.d s2)) (b1 : m k1 = .box [.dat (iN s3)]) (em0 : m0 = List.length s2) (hu : m id = .unborn) (hn : nodupB [k0, k1] = true) (h : ∀ y, A y = some q → K ⟨.tup [.dat (iN y.1), .dat (iN y.2.1)], [(k0, .row 73 3 (List.map Spot.d s2)), (k1, .box [.dat (iN y.2.2)]), (id, .unborn)]⟩ l) (hF : (f114 N s0 s1 s2 s3).bind A = some q) : effPg Spf114 (G114) xs id (fun _ => SV.no) m l K := by
  subst em0; obtain ⟨y, hy, hA⟩ := bind_some hF
  exact eff_step [k0, k1] (s0, s1, s2, s3) y _ ⟨N, hy⟩ rfl hn ha (by simp only [List.map_cons, List.map_nil, b0, b1]; rfl) hu rfl rfl (h y hA)
def Srf114 : Ann := ⟨[0, 1], [0, 1, 500], [], []⟩
set_option maxRecDepth 20000 in
set_option maxHeartbeats 4000000 in
theorem Q114 (N : Nat) : CallOK Try.prog 114 (effPg Spf114 (H114 N)) := by
  induction N with
  | zero => exact eff_none fun x y h => (by cases (show (none : Option (Int × Int × Int)) = some y from h))
  | succ N ih =>
    refine eff_of_vc (c := mkCtx tyTree [(114, false, effPg Spf114 (H114 N)), (91, true, lendPg [[0, 0, 0], [0, 0, 0]] G91)]) rfl tyOK (ctx_eff (callable Try.func114 rfl rfl) ih (ctx_lend (callable Try.func91 rfl rfl) P91 (ctx_nil))) 1000 500 Srf114 Try.func114 rfl rfl (by kernel_rfl) rfl rfl rfl rfl rfl (fun _ => rfl) (fun _ => rfl) (fun _ _ => ⟨rfl, rfl⟩) ?_
    rintro ⟨s0, s1, s2, s3⟩ y hF
    have hF : f114b (f114 N) N s0 s1 s2 s3 = some y := hF
    show vc _ _ _ _ ⟨[(0, .rs 0 (List.length s2)), (1, .dat (iN s0)), (2, .dat (iN s1)), (3, .ptr 1 0), (4, .dat (.v (.func (.func 91) #[] #[])))], [(0, .row 73 3 (List.map Spot.d s2)), (1, .box [.dat (iN s3)])]⟩ _
    unfold f114b at hF
    repeat' (first
      | ((with_reducible first | refine q0 _ _ ?_ | refine q1 _ _ _ _ ?_ | refine q2 _ _ _ ?_); clear Q q0 q1 q2)
      | ((with_reducible first | refine seq_op ?hx (fun Q q0 q1 q2 => ?_) | refine draw_op ?hx (fun Q q0 q1 q2 => ?_) | refine seq_op0 ?hx (fun Q q0 q1 q2 => ?_) | refine draw_op0 ?hx (fun Q q0 q1 q2 => ?_)); (case hx => exact rfl); conv => whnf)
      | ((with_reducible refine cond_id ?_); (first | ((refine condKT rfl ?hy ?_); (case hy => first | assumption | exact notT (by assumption) | exact rfl)) | ((refine condKF rfl ?hy ?_); (case hy => first | assumption | exact notF (by assumption) | exact rfl)) | (revert hF; (with_reducible refine condF ?hx ?_ ?_); (case hx => exact rfl); all_goals (intro hc hF))))
      | ((with_reducible refine seq_nil ?_); (first | ((with_reducible refine hR _ ?_); clear R hR) | ((with_reducible refine hL _ ?_); clear L hL)))
      | ((with_reducible refine draw_nil ?_); (with_reducible refine hR _ _ ?hx ?_); (case hx => kernel_rfl); (first | clear R hR | clear hR))
      | ((with_reducible first | refine int_step ?_ | refine len_step ?_ | refine idx2 (by assumption) ?_ | refine idx3 (by assumption) ?_); conv => whnf)
      | (with_reducible first | refine vc_block ?_ | refine vc_skip ?_ | refine vc_ret ?_ | refine vc_exit ?_ | refine vc_region (fun R hR => ?_) | refine k_seq_ret ?_ | refine k_seq_exit ?_ | refine k_blk ?_ | refine k_blk_ret ?_ | refine k_blk_here ?_)
      | ((with_reducible refine vc_seqN [] ?hx ?_); (case hx => exact rfl))
      | ((with_reducible refine vc_draw ?hx (fun R hR => ?_)); (case hx => exact rfl))
      | (revert hF; (with_reducible refine G91.lend ?hx ?_); (case hx => exact rfl); intro v hF; conv => whnf)
      | (revert hF; (refine H114.step rfl rfl rfl (by first | exact rfl | assumption | omega | (simp only [List.length_set]; done)) rfl ?hn ?_); (case hn => exact rfl); intro v hF; conv => whnf)
      | (show retE _ _ _ _ _ _; conv => whnf)
      | (cases hF; exact ⟨rfl, rfl, rfl⟩)
      | ((with_reducible first | refine k_blk_out ?hx ?_ | refine vc_condT ?hx ?_); (case hx => exact rfl))
      | (revert hF; (with_reducible refine idx1 ?hn ?_); (case hn => first | exact rfl | exact (List.length_map _) | assumption | omega | simp); intro x hx hF; conv => whnf)
      | ((refine row_all ?hn ?_); (case hn => first | exact rfl | (simp; done) | (simp; omega)); conv => whnf)
      | ((with_reducible refine le_step ?hn ?_); (case hn => first | exact rfl | assumption | omega); conv => whnf)
      | ((refine ⟨?hx, ?_⟩); (case hx => exact ⟨rfl, Nat.le_of_ble_eq_true rfl, rfl⟩); conv => whnf)
      | ((with_reducible refine ex_step ?_); conv => whnf)
      | ((with_reducible refine both_T ?hx ?_); (case hx => first | exact rfl | assumption | exact notT (by assumption)); conv => whnf)
      | ((with_reducible refine both_F ?hx ?_); (case hx => first | exact rfl | assumption | exact notF (by assumption)); conv => whnf)
      | (revert hF; (with_reducible refine ite_step ?_ ?_) <;> (intro hc hF; conv => whnf))
      | ((with_reducible refine vc_condF ?hx ?_); (case hx => exact rfl))
      | (show retD _ _ _ _ _ _; conv => whnf)
      | ((refine ⟨?hx, trivial⟩); (case hx => (cases hF; exact rfl)))
      | ((refine ⟨?hx, ?_⟩); (case hx => decide); conv => whnf)
      | with_reducible refine k_seq ?_
      | (have hF : (none : Option _) = some _ := hF; cases hF))
theorem P114 : CallOK Try.prog 114 (effPg Spf114 G114) := eff_ex Q114
end
end Go.Vc
namespace Go.Vc
open Go.Proofs
set_option linter.unusedVariables false
set_option linter.unnecessarySimpa false
set_option linter.unusedSimpArgs false
section
variable {c : Ctx} {p nid : Nat} {a b : Code} {st : St} {K : Ex → St → Prop}
/- f113: slices.medianCmpFunc[tusche/serial.Spot] -/
def f113b (self : Int → Int → Int → (List Spot) → Int → Option (Int × Int)) (N : Nat) (s0 : Int) (s1 : Int) (s2 : Int) (s3 : List Spot) (s4 : Int) : Option (Int × Int) :=
 (f114 N s0 s1 s3 s4).bind fun x1 =>
 (f114 N x1.2.1 s2 s3 x1.2.2).bind fun x2 =>
 (f114 N x1.1 x2.1 s3 x2.2.2).bind fun x3 =>
 some (x3.2.1, x3.2.2)
def f113 : Nat → Int → Int → Int → (List Spot) → Int → Option (Int × Int)
  | 0, _, _, _, _, _ => none
  | N + 1, s0, s1, s2, s3, s4 => f113b (f113 N) N s0 s1 s2 s3 s4
def Af113 (s0 : Int) (s1 : Int) (s2 : Int) (s3 : List Spot) (s4 : Int) : List SV := [.rs 0 (List.length s3), .dat (iN s0), .dat (iN s1), .dat (iN s2), .ptr 1 0, .dat (.v (.func (.func 91) #[] #[]))]
def Bf113 (s0 : Int) (s1 : Int) (s2 : Int) (s3 : List Spot) (s4 : Int) : List Blk := [.row 73 3 (List.map Spot.d s3), .box [.dat (iN s4)]]
def Rf113 (y : Int × Int) : List SV := [.dat (iN y.1)]
def B1f113 (s0 : Int) (s1 : Int) (s2 : Int) (s3 : List Spot) (s4 : Int) (y : Int × Int) : List Blk := [.row 73 3 (List.map Spot.d s3), .box [.dat (iN y.2)]]
def BZf113 (y : Int × Int) : Blk := .unborn
def Spf113 : Spec (Int × Int × Int × (List Spot) × Int) (Int × Int) := ⟨2, fun x => Af113 x.1 x.2.1 x.2.2.1 x.2.2.2.1 x.2.2.2.2, fun x => Bf113 x.1 x.2.1 x.2.2.1 x.2.2.2.1 x.2.2.2.2, fun _ y => Rf113 y, fun x y => B1f113 x.1 x.2.1 x.2.2.1 x.2.2.2.1 x.2.2.2.2 y, fun _ y => BZf113 y⟩
def H113 (N : Nat) (x : Int × Int × Int × (List Spot) × Int) (y : Int × Int) : Prop := f113 N x.1 x.2.1 x.2.2.1 x.2.2.2.1 x.2.2.2.2 = some y
def G113 (x : Int × Int × Int × (List Spot) × Int) (y : Int × Int) : Prop := ∃ N, H113 N x y
theorem H113.step {N : Nat} {s0 : Int} {s1 : Int} {s2 : Int} {s3 : List Spot} {s4 : Int} {m0 : Nat} {ρ : Type} {A : (Int × Int) → Option ρ} {q : ρ} {xs : List SV} {id : Nat} {m : Nat → Blk} {l : List Loc} {K : Dl → List Loc → Prop} {k0 k1 : Nat} (ha : xs = [.rs k0 m0, .dat (iN s0), .dat (iN s1), .dat (iN s2), .ptr k1 0, .dat (.v (.func (.func 91) #[] #[]))]) (b0 : m k0 = .row 73 3 (List.map Spot.d s3)) (b1 : m k1 = .box [.dat (iN s4)]) (em0 : m0 = List.length s3) (hu : m id = .unborn) (hn : nodupB [k0, k1] = true) (h : ∀ y, A y = some q → K ⟨.dat (iN y.1), [(k0, .row 73 3 (List.map Spot.d s3)), (k1, .box [.dat (iN y.2)]), (id, .unborn)]⟩ l) (hF : (f113 N s0 s1 s2 s3 s4).bind A = some q) : effPg Spf113 (H113 N) xs id (fun _ => SV.no) m l K := by
  subst em0; obtain ⟨y, hy, hA⟩ := bind_some hF
  exact eff_step [k0, k1] (s0, s1, s2, s3, s4) y _ hy rfl hn ha (by simp only [List.map_cons, List.map_nil, b0, b1]; rfl) hu rfl rfl (h y hA)
theorem G113.step {N : Nat} {s0 : Int} {s1 : Int} {s2 : Int} {s3 : List Spot} {s4 : Int} {m0 : Nat} {ρ : Type} {A : (Int × Int) → Option ρ} {q : ρ} {xs : List SV} {id : Nat} {m : Nat → Blk} {l : List Loc} {K : Dl → List Loc → Prop} {k0 k1 : Nat} (ha : xs = [.rs k0 m0, .dat (iN s0), .dat (iN s1), .dat (iN s2), .ptr k1 0, .dat (.v (.func (.func 91) #[] #[]))]) (b0 : m k0 = .row 73 3 (List.map Spot.d s3)) (b1 : m k1 = .box [.dat (iN s4)]) (em0 : m0 = List.length s3) (hu : m id = .unborn) (hn : nodupB [k0, k1] = true) (h : ∀ y, A y = some q → K ⟨.dat (iN y.1), [(k0, .row 73 3 (List.map Spot.d s3)), (k1, .box [.dat (iN y.2)]), (id, .unborn)]⟩ l) (hF : (f113 N s0 s1 s2 s3 s4).bind A = some q) : effPg Spf113 (G113) xs id (fun _ => SV.no) m l K := by
  subst em0; obtain ⟨y, hy, hA⟩ := bind_some hF
  exact eff_step [k0, k1] (s0, s1, s2, s3, s4) y _ ⟨N, hy⟩ rfl hn ha (by simp only [List.map_cons, List.map_nil, b0, b1]; rfl) hu rfl rfl (h y hA)
def Srf113 : Ann := ⟨[0], [0, 1, 500], [], []⟩
set_option maxRecDepth 20000 in
set_option maxHeartbeats 4000000 in
theorem Q113 (N : Nat) : CallOK Try.prog 113 (effPg Spf113 (H113 N)) := by
  induction N with
  | zero => exact eff_none fun x y h => (by cases (show (none : Option (Int × Int)) = some y from h))
  | succ N ih =>
    refine eff_of_vc (c := mkCtx tyTree [(113, false, effPg Spf113 (H113 N)), (114, false, effPg Spf114 G114)]) rfl tyOK (ctx_eff (callable Try.func113 rfl rfl) ih (ctx_eff (callable Try.func114 rfl rfl) P114 (ctx_nil))) 1000 500 Srf113 Try.func113 rfl rfl (by kernel_rfl) rfl rfl rfl rfl rfl (fun _ => rfl) (fun _ => rfl) (fun _ _ => ⟨rfl, rfl⟩) ?_
    rintro ⟨s0, s1, s2, s3, s4⟩ y hF
    have hF : f113b (f113 N) N s0 s1 s2 s3 s4 = some y := hF
    show vc _ _ _ _ ⟨[(0, .rs 0 (List.length s3)), (1, .dat (iN s0)), (2, .dat (iN s1)), (3, .dat (iN s2)), (4, .ptr 1 0), (5, .dat (.v (.func (.func 91) #[] #[])))], [(0, .row 73 3 (List.map Spot.d s3)), (1, .box [.dat (iN s4)])]⟩ _
    unfold f113b at hF
    repeat' (first
      | ((with_reducible first | refine q0 _ _ ?_ | refine q1 _ _ _ _ ?_ | refine q2 _ _ _ ?_); clear Q q0 q1 q2)
      | ((with_reducible first | refine seq_op ?hx (fun Q q0 q1 q2 => ?_)); (case hx => exact rfl); conv => whnf)
      | ((with_reducible refine seq_nil ?_); (first | ((with_reducible refine hR _ ?_); clear R hR) | ((with_reducible refine hL _ ?_); clear L hL)))
      | ((with_reducible first | refine int_step ?_ | refine len_step ?_); conv => whnf)
      | (with_reducible first | refine vc_skip ?_ | refine vc_ret ?_ | refine vc_region (fun R hR => ?_) | refine k_seq_ret ?_)
      | ((with_reducible refine vc_seqN [] ?hx ?_); (case hx => exact rfl))
      | (revert hF; (refine G114.step rfl rfl rfl (by first | exact rfl | assumption | omega | (simp only [List.length_set]; done)) rfl ?hn ?_); (case hn => exact rfl); intro v hF; conv => whnf)
      | (revert hF; (refine H113.step rfl rfl rfl (by first | exact rfl | assumption | omega | (simp only [List.length_set]; done)) rfl ?hn ?_); (case hn => exact rfl); intro v hF; conv => whnf)
      | (show retE _ _ _ _ _ _; conv => whnf)
      | (cases hF; exact ⟨rfl, rfl, rfl⟩)
      | ((refine row_all ?hn ?_); (case hn => first | exact rfl | (simp; done) | (simp; omega)); conv => whnf)
      | ((with_reducible refine le_step ?hn ?_); (case hn => first | exact rfl | assumption | omega); conv => whnf)
      | ((refine ⟨?hx, ?_⟩); (case hx => exact ⟨rfl, Nat.le_of_ble_eq_true rfl, rfl⟩); conv => whnf)
      | ((with_reducible refine ex_step ?_); conv => whnf)
      | ((with_reducible refine both_T ?hx ?_); (case hx => first | exact rfl | assumption | exact notT (by assumption)); conv => whnf)
      | ((with_reducible refine both_F ?hx ?_); (case hx => first | exact rfl | assumption | exact notF (by assumption)); conv => whnf)
      | (revert hF; (with_reducible refine ite_step ?_ ?_) <;> (intro hc hF; conv => whnf))
      | (show retD _ _ _ _ _ _; conv => whnf)
      | ((refine ⟨?hx, trivial⟩); (case hx => (cases hF; exact rfl)))
      | ((refine ⟨?hx, ?_⟩); (case hx => decide); conv => whnf)
      | with_reducible refine k_seq ?_
      | (have hF : (none : Option _) = some _ := hF; cases hF))
theorem P113 : CallOK Try.prog 113 (effPg Spf113 G113) := eff_ex Q113
end
end Go.Vc
namespace Go.Vc
open Go.Proofs
set_option linter.unusedVariables false
set_option linter.unnecessarySimpa false
set_option linter.unusedSimpArgs false
section
variable {c : Ctx} {p nid : Nat} {a b : Code} {st : St} {K : Ex → St → Prop}
/- f112: slices.medianAdjacentCmpFunc[tusche/serial.Spot] -/
def f112b (self : Int → (List Spot) → Int → Option (Int × Int)) (N : Nat) (s0 : Int) (s1 : List Spot) (s2 : Int) : Option (Int × Int) :=
 (f113 N (W (s0 - (1 : Int))) s0 (W (s0 + (1 : Int))) s1 s2).bind fun x1 =>
 some (x1.1, x1.2)
def f112 : Nat → Int → (List Spot) → Int → Option (Int × Int)
  | 0, _, _, _ => none
  | N + 1, s0, s1, s2 => f112b (f112 N) N s0 s1 s2
def Af112 (s0 : Int) (s1 : List Spot) (s2 : Int) : List SV := [.rs 0 (List.length s1), .dat (iN s0), .ptr 1 0, .dat (.v (.func (.func 91) #[] #[]))]
def Bf112 (s0 : Int) (s1 : List Spot) (s2 : Int) : List Blk := [.row 73 3 (List.map Spot.d s1), .box [.dat (iN s2)]]
def Rf112 (y : Int × Int) : List SV := [.dat (iN y.1)]
def B1f112 (s0 : Int) (s1 : List Spot) (s2 : Int) (y : Int × Int) : List Blk := [.row 73 3 (List.map Spot.d s1), .box [.dat (iN y.2)]]
def BZf112 (y : Int × Int) : Blk := .unborn
def Spf112 : Spec (Int × (List Spot) × Int) (Int × Int) := ⟨2, fun x => Af112 x.1 x.2.1 x.2.2, fun x => Bf112 x.1 x.2.1 x.2.2, fun _ y => Rf112 y, fun x y => B1f112 x.1 x.2.1 x.2.2 y, fun _ y => BZf112 y⟩
def H112 (N : Nat) (x : Int × (List Spot) × Int) (y : Int × Int) : Prop := f112 N x.1 x.2.1 x.2.2 = some y
def G112 (x : Int × (List Spot) × Int) (y : Int × Int) : Prop := ∃ N, H112 N x y
theorem H112.step {N : Nat} {s0 : Int} {s1 : List Spot} {s2 : Int} {m0 : Nat} {ρ : Type} {A : (Int × Int) → Option ρ} {q : ρ} {xs : List SV} {id : Nat} {m : Nat → Blk} {l : List Loc} {K : Dl → List Loc → Prop} {k0 k1 : Nat} (ha : xs = [.rs k0 m0, .dat (iN s0), .ptr k1 0, .dat (.v (.func (.func 91) #[] #[]))]) (b0 : m k0 = .row 73 3 (List.map Spot.d s1)) (b1 : m k1 = .box [.dat (iN s2)]) (em0 : m0 = List.length s1) (hu : m id = .unborn) (hn : nodupB [k0, k1] = true) (h : ∀ y, A y = some q → K ⟨.dat (iN y.1), [(k0, .row 73 3 (List.map Spot.d s1)), (k1, .box [.dat (iN y.2)]), (id, .unborn)]⟩ l) (hF : (f112 N s0 s1 s2).bind A = some q) : effPg Spf112 (H112 N) xs id (fun _ => SV.no) m l K := by
  subst em0; obtain ⟨y, hy, hA⟩ := bind_some hF
  exact eff_step [k0, k1] (s0, s1, s2) y _ hy rfl hn ha (by simp only [List.map_cons, List.map_nil, b0, b1]; rfl) hu rfl rfl (h y hA)
theorem G112.step {N : Nat} {s0 : Int} {s1 : List Spot} {s2 : Int} {m0 : Nat} {ρ : Type} {A : (Int × Int) → Option ρ} {q : ρ} {xs : List SV} {id : Nat} {m : Nat → Blk} {l : List Loc} {K : Dl → List Loc → Prop} {k0 k1 : Nat} (ha : xs = [.rs k0 m0, .dat (iN s0), .ptr k1 0, .dat (.v (.func (.func 91) #[] #[]))]) (b0 : m k0 = .row 73 3 (List.map Spot.d s1)) (b1 : m k1 = .box [.dat (iN s2)]) (em0 : m0 = List.length s1) (hu : m id = .unborn) (hn : nodupB [k0, k1] = true) (h : ∀ y, A y = some q → K ⟨.dat (iN y.1), [(k0, .row 73 3 (List.map Spot.d s1)), (k1, .box [.dat (iN y.2)]), (id, .unborn)]⟩ l) (hF : (f112 N s0 s1 s2).bind A = some q) : effPg Spf112 (G112) xs id (fun _ => SV.no) m l K := by
  subst em0; obtain ⟨y, hy, hA⟩ := bind_some hF
  exact eff_step [k0, k1] (s0, s1, s2) y _ ⟨N, hy⟩ rfl hn ha (by simp only [List.map_cons, List.map_nil, b0, b1]; rfl) hu rfl rfl (h y hA)
def Srf112 : Ann := ⟨[0], [0, 1, 500], [], []⟩
set_option maxRecDepth 20000 in
set_option maxHeartbeats 4000000 in
theorem Q112 (N : Nat) : CallOK Try.prog 112 (effPg Spf112 (H112 N)) := by
  induction N with
  | zero => exact eff_none fun x y h => (by cases (show (none : Option (Int × Int)) = some y from h))
  | succ N ih =>
    refine eff_of_vc (c := mkCtx tyTree [(112, false, effPg Spf112 (H112 N)), (113, false, effPg Spf113 G113)]) rfl tyOK (ctx_eff (callable Try.func112 rfl rfl) ih (ctx_eff (callable Try.func113 rfl rfl) P113 (ctx_nil))) 1000 500 Srf112 Try.func112 rfl rfl (by kernel_rfl) rfl rfl rfl rfl rfl (fun _ => rfl) (fun _ => rfl) (fun _ _ => ⟨rfl, rfl⟩) ?_
    rintro ⟨s0, s1, s2⟩ y hF
    have hF : f112b (f112 N) N s0 s1 s2 = some y := hF
    show vc _ _ _ _ ⟨[(0, .rs 0 (List.length s1)), (1, .dat (iN s0)), (2, .ptr 1 0), (3, .dat (.v (.func (.func 91) #[] #[])))], [(0, .row 73 3 (List.map Spot.d s1)), (1, .box [.dat (iN s2)])]⟩ _
    unfold f112b at hF
    repeat' (first
      | ((with_reducible first | refine q0 _ _ ?_ | refine q1 _ _ _ _ ?_ | refine q2 _ _ _ ?_); clear Q q0 q1 q2)
      | ((with_reducible first | refine seq_op ?hx (fun Q q0 q1 q2 => ?_)); (case hx => exact rfl); conv => whnf)
      | ((with_reducible refine seq_nil ?_); (first | ((with_reducible refine hR _ ?_); clear R hR) | ((with_reducible refine hL _ ?_); clear L hL)))
      | ((with_reducible first | refine int_step ?_ | refine len_step ?_); conv => whnf)
      | (with_reducible first | refine vc_skip ?_ | refine vc_ret ?_ | refine vc_region (fun R hR => ?_) | refine k_seq_ret ?_)
      | ((with_reducible refine vc_seqN [] ?hx ?_); (case hx => exact rfl))
      | (revert hF; (refine G113.step rfl rfl rfl (by first | exact rfl | assumption | omega | (simp only [List.length_set]; done)) rfl ?hn ?_); (case hn => exact rfl); intro v hF; conv => whnf)
      | (revert hF; (refine H112.step rfl rfl rfl (by first | exact rfl | assumption | omega | (simp only [List.length_set]; done)) rfl ?hn ?_); (case hn => exact rfl); intro v hF; conv => whnf)
      | (show retE _ _ _ _ _ _; conv => whnf)
      | (cases hF; exact ⟨rfl, rfl, rfl⟩)
      | ((refine row_all ?hn ?_); (case hn => first | exact rfl | (simp; done) | (simp; omega)); conv => whnf)
      | ((with_reducible refine le_step ?hn ?_); (case hn => first | exact rfl | assumption | omega); conv => whnf)
      | ((refine ⟨?hx, ?_⟩); (case hx => exact ⟨rfl, Nat.le_of_ble_eq_true rfl, rfl⟩); conv => whnf)
      | ((with_reducible refine ex_step ?_); conv => whnf)
      | ((with_reducible refine both_T ?hx ?_); (case hx => first | exact rfl | assumption | exact notT (by assumption)); conv => whnf)
      | ((with_reducible refine both_F ?hx ?_); (case hx => first | exact rfl | assumption | exact notF (by assumption)); conv => whnf)
      | (revert hF; (with_reducible refine ite_step ?_ ?_) <;> (intro hc hF; conv => whnf))
      | (show retD _ _ _ _ _ _; conv => whnf)
      | ((refine ⟨?hx, trivial⟩); (case hx => (cases hF; exact rfl)))
      | ((refine ⟨?hx, ?_⟩); (case hx => decide); conv => whnf)
      | with_reducible refine k_seq ?_
      | (have hF : (none : Option _) = some _ := hF; cases hF))
theorem P112 : CallOK Try.prog 112 (effPg Spf112 G112) := eff_ex Q112
end
end Go.Vc
namespace Go.Vc
open Go.Proofs
set_option linter.unusedVariables false
set_option linter.unnecessarySimpa false
set_option linter.unusedSimpArgs false
section
variable {c : Ctx} {p nid : Nat} {a b : Code} {st : St} {K : Ex → St → Prop}
/- f101: slices.choosePivotCmpFunc[tusche/serial.Spot] -/
def f101_c12 (s2 : List Spot) (j13 : Int) (b1200_0 : Int) : Option (Int × Int) :=
 bif decide (b1200_0 = (0 : Int)) then (some (j13, (1 : Int)))
 else (bif decide (b1200_0 = (12 : Int)) then (some (j13, (2 : Int)))
 else (some (j13, (0 : Int))))
def Lf101_c12 (s2 : List Spot) : Lp (Int × Int) Unit (Int × Int) := lp0 ⟨[11, 13], [0, 1200], [], []⟩ (fun (j13, _) => [.ptr 1200 0, .dat (iN j13)]) (fun (_, b1200_0) => [.row 73 3 (List.map Spot.d s2), .box [.dat (iN b1200_0)]]) (fun (j13, b1200_0) => f101_c12 s2 j13 b1200_0)
theorem Ef101_c12 {s2 j13 b1200_0} : (Lf101_c12 s2).E (j13, b1200_0) = f101_c12 s2 j13 b1200_0 := rfl
def f101b (self : Int → Int → (List Spot) → Option (Int × Int)) (N : Nat) (s0 : Int) (s1 : Int) (s2 : List Spot) : Option (Int × Int) :=
 joinK (f101_c12 s2) fun k0 =>
 bif decide ((8 : Int) ≤ (W (s1 - s0))) then (bif decide ((50 : Int) ≤ (W (s1 - s0))) then ((f112 N (W (s0 + (W ((W (Int.tdiv (W (s1 - s0)) (4 : Int))) * (1 : Int))))) s2 (0 : Int)).bind fun x1 =>
 (f112 N (W (s0 + (W ((W (Int.tdiv (W (s1 - s0)) (4 : Int))) * (2 : Int))))) s2 x1.2).bind fun x2 =>
 (f112 N (W (s0 + (W ((W (Int.tdiv (W (s1 - s0)) (4 : Int))) * (3 : Int))))) s2 x2.2).bind fun x3 =>
 (f113 N x1.1 x2.1 x3.1 s2 x3.2).bind fun x4 =>
 k0 x4.1 x4.2)
 else ((f113 N (W (s0 + (W ((W (Int.tdiv (W (s1 - s0)) (4 : Int))) * (1 : Int))))) (W (s0 + (W ((W (Int.tdiv (W (s1 - s0)) (4 : Int))) * (2 : Int))))) (W (s0 + (W ((W (Int.tdiv (W (s1 - s0)) (4 : Int))) * (3 : Int))))) s2 (0 : Int)).bind fun x5 =>
 k0 x5.1 x5.2))
 else (k0 (W (s0 + (W ((W (Int.tdiv (W (s1 - s0)) (4 : Int))) * (2 : Int))))) (0 : Int))
def f101 : Nat → Int → Int → (List Spot) → Option (Int × Int)
  | 0, _, _, _ => none
  | N + 1, s0, s1, s2 => f101b (f101 N) N s0 s1 s2
def Af101 (s0 : Int) (s1 : Int) (s2 : List Spot) : List SV := [.rs 0 (List.length s2), .dat (iN s0), .dat (iN s1), .dat (.v (.func (.func 91) #[] #[]))]
def Bf101 (s0 : Int) (s1 : Int) (s2 : List Spot) : List Blk := [.row 73 3 (List.map Spot.d s2)]
def Rf101 (y : Int × Int) : List SV := [.dat (iN y.1), .dat (iN y.2)]
def B1f101 (s0 : Int) (s1 : Int) (s2 : List Spot) (y : Int × Int) : List Blk := [.row 73 3 (List.map Spot.d s2)]
def BZf101 (y : Int × Int) : Blk := .unborn
def Spf101 : Spec (Int × Int × (List Spot)) (Int × Int) := ⟨1, fun x => Af101 x.1 x.2.1 x.2.2, fun x => Bf101 x.1 x.2.1 x.2.2, fun _ y => Rf101 y, fun x y => B1f101 x.1 x.2.1 x.2.2 y, fun _ y => BZf101 y⟩
def H101 (N : Nat) (x : Int × Int × (List Spot)) (y : Int × Int) : Prop := f101 N x.1 x.2.1 x.2.2 = some y
def G101 (x : Int × Int × (List Spot)) (y : Int × Int) : Prop := ∃ N, H101 N x y
theorem H101.step {N : Nat} {s0 : Int} {s1 : Int} {s2 : List Spot} {m0 : Nat} {ρ : Type} {A : (Int × Int) → Option ρ} {q : ρ} {xs : List SV} {id : Nat} {m : Nat → Blk} {l : List Loc} {K : Dl → List Loc → Prop} {k0 : Nat} (ha : xs = [.rs k0 m0, .dat (iN s0), .dat (iN s1), .dat (.v (.func (.func 91) #[] #[]))]) (b0 : m k0 = .row 73 3 (List.map Spot.d s2)) (em0 : m0 = List.length s2) (hu : m id = .unborn) (hn : nodupB [k0] = true) (h : ∀ y, A y = some q → K ⟨.tup [.dat (iN y.1), .dat (iN y.2)], [(k0, .row 73 3 (List.map Spot.d s2)), (id, .unborn)]⟩ l) (hF : (f101 N s0 s1 s2).bind A = some q) : effPg Spf101 (H101 N) xs id (fun _ => SV.no) m l K := by
  subst em0; obtain ⟨y, hy, hA⟩ := bind_some hF
  exact eff_step [k0] (s0, s1, s2) y _ hy rfl hn ha (by simp only [List.map_cons, List.map_nil, b0]; rfl) hu rfl rfl (h y hA)
theorem G101.step {N : Nat} {s0 : Int} {s1 : Int} {s2 : List Spot} {m0 : Nat} {ρ : Type} {A : (Int × Int) → Option ρ} {q : ρ} {xs : List SV} {id : Nat} {m : Nat → Blk} {l : List Loc} {K : Dl → List Loc → Prop} {k0 : Nat} (ha : xs = [.rs k0 m0, .dat (iN s0), .dat (iN s1), .dat (.v (.func (.func 91) #[] #[]))]) (b0 : m k0 = .row 73 3 (List.map Spot.d s2)) (em0 : m0 = List.length s2) (hu : m id = .unborn) (hn : nodupB [k0] = true) (h : ∀ y, A y = some q → K ⟨.tup [.dat (iN y.1), .dat (iN y.2)], [(k0, .row 73 3 (List.map Spot.d s2)), (id, .unborn)]⟩ l) (hF : (f101 N s0 s1 s2).bind A = some q) : effPg Spf101 (G101) xs id (fun _ => SV.no) m l K := by
  subst em0; obtain ⟨y, hy, hA⟩ := bind_some hF
  exact eff_step [k0] (s0, s1, s2) y _ ⟨N, hy⟩ rfl hn ha (by simp only [List.map_cons, List.map_nil, b0]; rfl) hu rfl rfl (h y hA)
def Srf101 : Ann := ⟨[0, 1], [0, 500], [], []⟩
set_option maxRecDepth 20000 in
set_option maxHeartbeats 4000000 in
theorem Q101 (N : Nat) : CallOK Try.prog 101 (effPg Spf101 (H101 N)) := by
  induction N with
  | zero => exact eff_none fun x y h => (by cases (show (none : Option (Int × Int)) = some y from h))
  | succ N ih =>
    refine eff_of_vc (c := mkCtx tyTree [(101, false, effPg Spf101 (H101 N)), (113, false, effPg Spf113 G113), (112, false, effPg Spf112 G112)]) rfl tyOK (ctx_eff (callable Try.func101 rfl rfl) ih (ctx_eff (callable Try.func113 rfl rfl) P113 (ctx_eff (callable Try.func112 rfl rfl) P112 (ctx_nil)))) 1000 500 Srf101 Try.func101 rfl rfl (by kernel_rfl) rfl rfl rfl rfl rfl (fun _ => rfl) (fun _ => rfl) (fun _ _ => ⟨rfl, rfl⟩) ?_
    rintro ⟨s0, s1, s2⟩ y hF
    have hF : f101b (f101 N) N s0 s1 s2 = some y := hF
    show vc _ _ _ _ ⟨[(0, .rs 0 (List.length s2)), (1, .dat (iN s0)), (2, .dat (iN s1)), (3, .dat (.v (.func (.func 91) #[] #[])))], [(0, .row 73 3 (List.map Spot.d s2))]⟩ _
    unfold f101b at hF
    repeat' (first
      | ((with_reducible first | refine q0 _ _ ?_ | refine q1 _ _ _ _ ?_ | refine q2 _ _ _ ?_); clear Q q0 q1 q2)
      | ((with_reducible first | refine seq_op ?hx (fun Q q0 q1 q2 => ?_)); (case hx => exact rfl); conv => whnf)
      | ((with_reducible refine cond_id ?_); (first | ((refine condKT rfl ?hy ?_); (case hy => first | assumption | exact notT (by assumption) | exact rfl)) | ((refine condKF rfl ?hy ?_); (case hy => first | assumption | exact notF (by assumption) | exact rfl)) | (revert hF; (with_reducible refine condF ?hx ?_ ?_); (case hx => exact rfl); all_goals (intro hc hF))))
      | ((with_reducible refine seq_nil ?_); (first | ((with_reducible refine hR _ ?_); clear R hR) | ((with_reducible refine hL _ ?_); clear L hL)))
      | ((with_reducible first | refine int_step ?_ | refine len_step ?_); conv => whnf)
      | (with_reducible first | refine vc_block ?_ | refine vc_skip ?_ | refine vc_ret ?_ | refine vc_exit ?_ | refine vc_region (fun R hR => ?_) | refine k_seq_ret ?_ | refine k_seq_exit ?_ | refine k_blk ?_ | refine k_blk_ret ?_ | refine k_blk_here ?_)
      | ((with_reducible refine vc_seqN [1000012] ?hx ?_); (case hx => exact rfl))
      | (revert hF; (refine Lp.cut1 Lf101_c12 f101_c12 1000012 rfl rfl ?_ ?_); (intro hF); rotate_left; (rintro ⟨j13, b1200_0⟩ hF; dsimp only [Lf101_c12] at hF; unfold f101_c12 at hF); rotate_right)
      | exact Lp.head Ef101_c12 hF () ⟨_, rfl, rfl, rfl, rfl⟩ rfl
      | (revert hF; (refine G112.step rfl rfl rfl (by first | exact rfl | assumption | omega | (simp only [List.length_set]; done)) rfl ?hn ?_); (case hn => exact rfl); intro v hF; conv => whnf)
      | (revert hF; (refine G113.step rfl rfl rfl (by first | exact rfl | assumption | omega | (simp only [List.length_set]; done)) rfl ?hn ?_); (case hn => exact rfl); intro v hF; conv => whnf)
      | (revert hF; (refine H101.step rfl rfl (by first | exact rfl | assumption | omega | (simp only [List.length_set]; done)) rfl ?hn ?_); (case hn => exact rfl); intro v hF; conv => whnf)
      | (show retE _ _ _ _ _ _; conv => whnf)
      | (cases hF; exact ⟨rfl, rfl, rfl⟩)
      | ((with_reducible first | refine k_blk_out ?hx ?_ | refine vc_condT ?hx ?_); (case hx => exact rfl))
      | ((refine row_all ?hn ?_); (case hn => first | exact rfl | (simp; done) | (simp; omega)); conv => whnf)
      | ((with_reducible refine le_step ?hn ?_); (case hn => first | exact rfl | assumption | omega); conv => whnf)
      | ((refine ⟨?hx, ?_⟩); (case hx => exact ⟨rfl, Nat.le_of_ble_eq_true rfl, rfl⟩); conv => whnf)
      | ((with_reducible refine ex_step ?_); conv => whnf)
      | ((with_reducible refine both_T ?hx ?_); (case hx => first | exact rfl | assumption | exact notT (by assumption)); conv => whnf)
      | ((with_reducible refine both_F ?hx ?_); (case hx => first | exact rfl | assumption | exact notF (by assumption)); conv => whnf)
      | (revert hF; (with_reducible refine ite_step ?_ ?_) <;> (intro hc hF; conv => whnf))
      | ((with_reducible refine vc_condF ?hx ?_); (case hx => exact rfl))
      | (show retD _ _ _ _ _ _; conv => whnf)
      | ((refine ⟨?hx, trivial⟩); (case hx => (cases hF; exact rfl)))
      | ((refine ⟨?hx, ?_⟩); (case hx => decide); conv => whnf)
      | with_reducible refine k_seq ?_
      | (have hF : (none : Option _) = some _ := hF; cases hF))
theorem P101 : CallOK Try.prog 101 (effPg Spf101 G101) := eff_ex Q101
end
end Go.Vc
namespace Go.Vc
open Go.Proofs
set_option linter.unusedVariables false
set_option linter.unnecessarySimpa false
set_option linter.unusedSimpArgs false
section
variable {c : Ctx} {p nid : Nat} {a b : Code} {st : St} {K : Ex → St → Prop}
/- f102: slices.reverseRangeCmpFunc[tusche/serial.Spot] -/
def f102_2b (r2 : Int → Int → (List Spot) → Option ((List Spot))) (i8 : Int) (j9 : Int) (b0 : List Spot) : Option ((List Spot)) :=
 bif decide (i8 < j9) then ((ix b0 j9).bind fun x1 =>
 (ix b0 i8).bind fun x2 =>
 (ix b0 i8).bind fun x3 =>
 (setx b0 i8 x1).bind fun x4 =>
 (ix x4 j9).bind fun x5 =>
 (setx x4 j9 x2).bind fun x6 =>
 r2 (W (i8 + (1 : Int))) (W (j9 - (1 : Int))) x6)
 else (some (b0))
def f102_2 : Nat → Int → Int → (List Spot) → Option ((List Spot))
  | 0, _, _, _ => none
  | n + 1, i8, j9, b0 => f102_2b (f102_2 n) i8 j9 b0
def Lf102_2 : Lp (Nat × Int × Int × (List Spot)) (Nat) ((List Spot)) := ⟨⟨[0, 8, 9], [0], [], []⟩, fun (_, i8, j9, b0) => [.rs 0 (List.length b0), .dat (iN i8), .dat (iN j9)], fun (_, _, _, b0) => [.row 73 3 (List.map Spot.d b0)], fun (n, i8, j9, b0) => f102_2 n i8 j9 b0, fun (_, i8, j9, _) m0 => [.rs 0 m0, .dat (iN i8), .dat (iN j9)], fun (_, _, _, b0) _ => [.row 73 3 (List.map Spot.d b0)], fun (_, _, _, b0) => List.length b0, fun _ => rfl, fun _ => rfl⟩
theorem Ef102_2 {n i8 j9 b0} : (Lf102_2).E (n, i8, j9, b0) = f102_2 n i8 j9 b0 := rfl
def f102b (self : Int → Int → (List Spot) → Option ((List Spot))) (N : Nat) (s0 : Int) (s1 : Int) (s2 : List Spot) : Option ((List Spot)) :=
 f102_2 N s0 (W (s1 - (1 : Int))) s2
def f102 : Nat → Int → Int → (List Spot) → Option ((List Spot))
  | 0, _, _, _ => none
  | N + 1, s0, s1, s2 => f102b (f102 N) N s0 s1 s2
def Af102 (s0 : Int) (s1 : Int) (s2 : List Spot) : List SV := [.rs 0 (List.length s2), .dat (iN s0), .dat (iN s1), .dat (.v (.func (.func 91) #[] #[]))]
def Bf102 (s0 : Int) (s1 : Int) (s2 : List Spot) : List Blk := [.row 73 3 (List.map Spot.d s2)]
def Rf102 (y : (List Spot)) : List SV := []
def B1f102 (s0 : Int) (s1 : Int) (s2 : List Spot) (y : (List Spot)) : List Blk := [.row 73 3 (List.map Spot.d y)]
def BZf102 (y : (List Spot)) : Blk := .unborn
def Spf102 : Spec (Int × Int × (List Spot)) ((List Spot)) := ⟨1, fun x => Af102 x.1 x.2.1 x.2.2, fun x => Bf102 x.1 x.2.1 x.2.2, fun _ y => Rf102 y, fun x y => B1f102 x.1 x.2.1 x.2.2 y, fun _ y => BZf102 y⟩
def H102 (N : Nat) (x : Int × Int × (List Spot)) (y : (List Spot)) : Prop := f102 N x.1 x.2.1 x.2.2 = some y
def G102 (x : Int × Int × (List Spot)) (y : (List Spot)) : Prop := ∃ N, H102 N x y
theorem H102.step {N : Nat} {s0 : Int} {s1 : Int} {s2 : List Spot} {m0 : Nat} {ρ : Type} {A : (List Spot) → Option ρ} {q : ρ} {xs : List SV} {id : Nat} {m : Nat → Blk} {l : List Loc} {K : Dl → List Loc → Prop} {k0 : Nat} (ha : xs = [.rs k0 m0, .dat (iN s0), .dat (iN s1), .dat (.v (.func (.func 91) #[] #[]))]) (b0 : m k0 = .row 73 3 (List.map Spot.d s2)) (em0 : m0 = List.length s2) (hu : m id = .unborn) (hn : nodupB [k0] = true) (h : ∀ y, A y = some q → K ⟨.tup [], [(k0, .row 73 3 (List.map Spot.d y)), (id, .unborn)]⟩ l) (hF : (f102 N s0 s1 s2).bind A = some q) : effPg Spf102 (H102 N) xs id (fun _ => SV.no) m l K := by
  subst em0; obtain ⟨y, hy, hA⟩ := bind_some hF
  exact eff_step [k0] (s0, s1, s2) y _ hy rfl hn ha (by simp only [List.map_cons, List.map_nil, b0]; rfl) hu rfl rfl (h y hA)
theorem G102.step {N : Nat} {s0 : Int} {s1 : Int} {s2 : List Spot} {m0 : Nat} {ρ : Type} {A : (List Spot) → Option ρ} {q : ρ} {xs : List SV} {id : Nat} {m : Nat → Blk} {l : List Loc} {K : Dl → List Loc → Prop} {k0 : Nat} (ha : xs = [.rs k0 m0, .dat (iN s0), .dat (iN s1), .dat (.v (.func (.func 91) #[] #[]))]) (b0 : m k0 = .row 73 3 (List.map Spot.d s2)) (em0 : m0 = List.length s2) (hu : m id = .unborn) (hn : nodupB [k0] = true) (h : ∀ y, A y = some q → K ⟨.tup [], [(k0, .row 73 3 (List.map Spot.d y)), (id, .unborn)]⟩ l) (hF : (f102 N s0 s1 s2).bind A = some q) : effPg Spf102 (G102) xs id (fun _ => SV.no) m l K := by
  subst em0; obtain ⟨y, hy, hA⟩ := bind_some hF
  exact eff_step [k0] (s0, s1, s2) y _ ⟨N, hy⟩ rfl hn ha (by simp only [List.map_cons, List.map_nil, b0]; rfl) hu rfl rfl (h y hA)
def Srf102 : Ann := ⟨[], [0, 500], [], []⟩
set_option maxRecDepth 20000 in
set_option maxHeartbeats 4000000 in
theorem Q102 (N : Nat) : CallOK Try.prog 102 (effPg Spf102 (H102 N)) := by
  induction N with
  | zero => exact eff_none fun x y h => (by cases (show (none : Option ((List Spot))) = some y from h))
  | succ N ih =>
    refine eff_of_vc (c := mkCtx tyTree [(102, false, effPg Spf102 (H102 N))]) rfl tyOK (ctx_eff (callable Try.func102 rfl rfl) ih (ctx_nil)) 1000 500 Srf102 Try.func102 rfl rfl (by kernel_rfl) rfl rfl rfl rfl rfl (fun _ => rfl) (fun _ => rfl) (fun _ _ => ⟨rfl, rfl⟩) ?_
    rintro ⟨s0, s1, s2⟩ y hF
    have hF : f102b (f102 N) N s0 s1 s2 = some y := hF
    show vc _ _ _ _ ⟨[(0, .rs 0 (List.length s2)), (1, .dat (iN s0)), (2, .dat (iN s1)), (3, .dat (.v (.func (.func 91) #[] #[])))], [(0, .row 73 3 (List.map Spot.d s2))]⟩ _
    unfold f102b at hF
    repeat' (first
      | ((with_reducible first | refine q0 _ _ ?_ | refine q1 _ _ _ _ ?_ | refine q2 _ _ _ ?_); clear Q q0 q1 q2)
      | ((with_reducible first | refine seq_op ?hx (fun Q q0 q1 q2 => ?_) | refine draw_op ?hx (fun Q q0 q1 q2 => ?_) | refine seq_op0 ?hx (fun Q q0 q1 q2 => ?_) | refine draw_op0 ?hx (fun Q q0 q1 q2 => ?_)); (case hx => exact rfl); conv => whnf)
      | ((with_reducible refine cond_id ?_); (first | ((refine condKT rfl ?hy ?_); (case hy => first | assumption | exact notT (by assumption) | exact rfl)) | ((refine condKF rfl ?hy ?_); (case hy => first | assumption | exact notF (by assumption) | exact rfl)) | (revert hF; (with_reducible refine condF ?hx ?_ ?_); (case hx => exact rfl); all_goals (intro hc hF))))
      | ((with_reducible refine seq_nil ?_); (first | ((with_reducible refine hR _ ?_); clear R hR) | ((with_reducible refine hL _ ?_); clear L hL)))
      | ((with_reducible refine draw_nil ?_); (with_reducible refine hR _ _ ?hx ?_); (case hx => kernel_rfl); (first | clear R hR | clear hR))
      | ((with_reducible first | refine int_step ?_ | refine len_step ?_ | refine idx2 (by assumption) ?_ | refine idx3 (by assumption) ?_); conv => whnf)
      | (with_reducible first | refine vc_block ?_ | refine vc_skip ?_ | refine vc_ret ?_ | refine vc_exit ?_ | refine vc_region (fun R hR => ?_) | refine k_seq_ret ?_ | refine k_seq_exit ?_ | refine k_blk ?_ | refine k_blk_ret ?_ | refine k_blk_here ?_ | refine k_loop_ret ?_ | refine k_loop_exit ?_)
      | ((with_reducible refine vc_seqN [] ?hx ?_); (case hx => exact rfl))
      | ((with_reducible refine vc_draw ?hx (fun R hR => ?_)); (case hx => exact rfl))
      | (revert hF; (refine Lp.loop Ef102_2 _ rfl ⟨_, rfl, rfl, rfl, rfl⟩ (by first | exact rfl | ((try dsimp only [Lf102_2]); first | assumption | omega | (simp only [List.length_set]; done))) (fun _ => rfl) ?_); rintro n ⟨i8, j9, b0⟩ hF; dsimp only [Lf102_2, f102_2] at hF; unfold f102_2b at hF)
      | exact Lp.back Ef102_2 hF _ ⟨_, rfl, rfl, rfl, rfl⟩ (by first | exact rfl | ((try dsimp only [Lf102_2]); first | assumption | omega | (simp only [List.length_set]; done)))
      | (revert hF; (refine H102.step rfl rfl (by first | exact rfl | assumption | omega | (simp only [List.length_set]; done)) rfl ?hn ?_); (case hn => exact rfl); intro v hF; conv => whnf)
      | (show retE _ _ _ _ _ _; conv => whnf)
      | (cases hF; exact ⟨rfl, rfl, rfl⟩)
      | ((with_reducible first | refine k_blk_out ?hx ?_ | refine vc_condT ?hx ?_); (case hx => exact rfl))
      | (revert hF; (with_reducible refine idx1 ?hn ?_); (case hn => first | exact rfl | exact (List.length_map _) | assumption | omega | simp); intro x hx hF; conv => whnf)
      | ((refine row_all ?hn ?_); (case hn => first | exact rfl | (simp; done) | (simp; omega)); conv => whnf)
      | ((with_reducible refine le_step ?hn ?_); (case hn => first | exact rfl | assumption | omega); conv => whnf)
      | ((with_reducible have hG := setx_fact hF); clear hF; (refine setx_step hG ?hs (fun q hl hF => ?_)); (case hs => exact rfl); clear hG; conv => whnf)
      | ((refine ⟨?hx, ?_⟩); (case hx => exact ⟨rfl, Nat.le_of_ble_eq_true rfl, rfl⟩); conv => whnf)
      | ((with_reducible refine ex_step ?_); conv => whnf)
      | ((with_reducible refine both_T ?hx ?_); (case hx => first | exact rfl | assumption | exact notT (by assumption)); conv => whnf)
      | ((with_reducible refine both_F ?hx ?_); (case hx => first | exact rfl | assumption | exact notF (by assumption)); conv => whnf)
      | (revert hF; (with_reducible refine ite_step ?_ ?_) <;> (intro hc hF; conv => whnf))
      | ((with_reducible refine vc_condF ?hx ?_); (case hx => exact rfl))
      | (show retD _ _ _ _ _ _; conv => whnf)
      | ((refine ⟨?hx, trivial⟩); (case hx => (cases hF; exact rfl)))
      | ((refine ⟨?hx, ?_⟩); (case hx => decide); conv => whnf)
      | with_reducible refine k_seq ?_
      | (have hF : (none : Option _) = some _ := hF; cases hF))
theorem P102 : CallOK Try.prog 102 (effPg Spf102 G102) := eff_ex Q102
end
end Go.Vc
namespace Go.Vc
open Go.Proofs
set_option linter.unusedVariables false
set_option linter.unnecessarySimpa false
set_option linter.unusedSimpArgs false
section
variable {c : Ctx} {p nid : Nat} {a b : Code} {st : St} {K : Ex → St → Prop}
/- f103: slices.partialInsertionSortCmpFunc[tusche/serial.Spot] -/
def f103_c24 (b0 : List Spot) : Option (Bool × (List Spot)) :=
 some (false, b0)
def Lf103_c24 : Lp ((List Spot)) Unit (Bool × (List Spot)) := lp0 ⟨[], [0], [], []⟩ (fun _ => []) (fun b0 => [.row 73 3 (List.map Spot.d b0)]) (fun b0 => f103_c24 b0)
theorem Ef103_c24 {b0} : (Lf103_c24).E b0 = f103_c24 b0 := rfl
def f103_c4 (s0 : Int) (s1 : Int) (v10 : Int) (r3 : Int → Int → (List Spot) → Option (Bool × (List Spot))) (v9' : Int) (b0' : List Spot) : Option (Bool × (List Spot)) :=
 r3 (v9') (W (v10 + (1 : Int))) (b0')
def Lf103_c4 (s0 : Int) (s1 : Int) (v10 : Int) (r3 : Int → Int → (List Spot) → Option (Bool × (List Spot))) : Lp (Int × (List Spot)) (Nat) (Bool × (List Spot)) := ⟨⟨[0, 1, 2, 3, 9, 10], [0], [], []⟩, fun (v9', b0') => [.rs 0 (List.length (b0')), .dat (iN s0), .dat (iN s1), .dat (.v (.func (.func 91) #[] #[])), .dat (iN (v9')), .dat (iN v10)], fun (_, b0') => [.row 73 3 (List.map Spot.d (b0'))], fun (v9', b0') => f103_c4 s0 s1 v10 r3 v9' b0', fun (v9', _) m0 => [.rs 0 m0, .dat (iN s0), .dat (iN s1), .dat (.v (.func (.func 91) #[] #[])), .dat (iN (v9')), .dat (iN v10)], fun (_, b0') _ => [.row 73 3 (List.map Spot.d (b0'))], fun (_, b0') => List.length (b0'), fun _ => rfl, fun _ => rfl⟩
theorem Ef103_c4 {s0 s1 v10 r3 v9' b0'} : (Lf103_c4 s0 s1 v10 r3).E (v9', b0') = f103_c4 s0 s1 v10 r3 v9' b0' := rfl
def f103_20b (r20 : Int → (List Spot) → Option (Bool × (List Spot))) (s0 : Int) (s1 : Int) (N : Nat) (v10 : Int) (k1 : Int → (List Spot) → Option (Bool × (List Spot))) (v9' : Int) (v12 : Int) (b0'' : List Spot) : Option (Bool × (List Spot)) :=
 bif decide (v12 < s1) then ((ix (b0'') v12).bind fun x7 =>
 (ix (b0'') (W (v12 - (1 : Int)))).bind fun x8 =>
 (f91 N x7 x8).bind fun x9 =>
 bif !(decide (x9 < (0 : Int))) then (k1 (v9') (b0''))
 else ((ix (b0'') (W (v12 - (1 : Int)))).bind fun x10 =>
 (ix (b0'') v12).bind fun x11 =>
 (ix (b0'') v12).bind fun x12 =>
 (setx (b0'') v12 x10).bind fun x13 =>
 (ix x13 (W (v12 - (1 : Int)))).bind fun x14 =>
 (setx x13 (W (v12 - (1 : Int))) x11).bind fun x15 =>
 r20 (W (v12 + (1 : Int))) x15))
 else (k1 (v9') (b0''))
def f103_20 (s0 : Int) (s1 : Int) (N : Nat) (v10 : Int) (k1 : Int → (List Spot) → Option (Bool × (List Spot))) (v9' : Int) : Nat → Int → (List Spot) → Option (Bool × (List Spot))
  | 0, _, _ => none
  | n + 1, v12, b0'' => f103_20b (f103_20 s0 s1 N v10 k1 v9' n) s0 s1 N v10 k1 v9' v12 b0''
def Lf103_20 (s0 : Int) (s1 : Int) (N : Nat) (v10 : Int) (k1 : Int → (List Spot) → Option (Bool × (List Spot))) (v9' : Int) : Lp (Nat × Int × (List Spot)) (Nat) (Bool × (List Spot)) := ⟨⟨[0, 1, 2, 3, 9, 10, 12], [0], [], []⟩, fun (_, v12, b0'') => [.rs 0 (List.length (b0'')), .dat (iN s0), .dat (iN s1), .dat (.v (.func (.func 91) #[] #[])), .dat (iN (v9')), .dat (iN v10), .dat (iN v12)], fun (_, _, b0'') => [.row 73 3 (List.map Spot.d (b0''))], fun (n, v12, b0'') => f103_20 s0 s1 N v10 k1 v9' n v12 b0'', fun (_, v12, _) m0 => [.rs 0 m0, .dat (iN s0), .dat (iN s1), .dat (.v (.func (.func 91) #[] #[])), .dat (iN (v9')), .dat (iN v10), .dat (iN v12)], fun (_, _, b0'') _ => [.row 73 3 (List.map Spot.d (b0''))], fun (_, _, b0'') => List.length (b0''), fun _ => rfl, fun _ => rfl⟩
theorem Ef103_20 {s0 s1 N v10 k1 v9' n v12 b0''} : (Lf103_20 s0 s1 N v10 k1 v9').E (n, v12, b0'') = f103_20 s0 s1 N v10 k1 v9' n v12 b0'' := rfl
def f103_c18 (s0 : Int) (s1 : Int) (N : Nat) (v10 : Int) (k1 : Int → (List Spot) → Option (Bool × (List Spot))) (v9' : Int) (b0' : List Spot) : Option (Bool × (List Spot)) :=
 bif decide ((2 : Int) ≤ (W (s1 - (v9')))) then (f103_20 s0 s1 N v10 k1 v9' N (W ((v9') + (1 : Int))) (b0'))
 else (k1 (v9') (b0'))
def Lf103_c18 (s0 : Int) (s1 : Int) (N : Nat) (v10 : Int) (k1 : Int → (List Spot) → Option (Bool × (List Spot))) (v9' : Int) : Lp ((List Spot)) (Nat) (Bool × (List Spot)) := ⟨⟨[0, 1, 2, 3, 9, 10], [0], [], []⟩, fun b0' => [.rs 0 (List.length (b0')), .dat (iN s0), .dat (iN s1), .dat (.v (.func (.func 91) #[] #[])), .dat (iN (v9')), .dat (iN v10)], fun b0' => [.row 73 3 (List.map Spot.d (b0'))], fun b0' => f103_c18 s0 s1 N v10 k1 v9' b0', fun _ m0 => [.rs 0 m0, .dat (iN s0), .dat (iN s1), .dat (.v (.func (.func 91) #[] #[])), .dat (iN (v9')), .dat (iN v10)], fun b0' _ => [.row 73 3 (List.map Spot.d (b0'))], fun b0' => List.length (b0'), fun _ => rfl, fun _ => rfl⟩
theorem Ef103_c18 {s0 s1 N v10 k1 v9' b0'} : (Lf103_c18 s0 s1 N v10 k1 v9').E b0' = f103_c18 s0 s1 N v10 k1 v9' b0' := rfl
def f103_14b (r14 : Int → (List Spot) → Option (Bool × (List Spot))) (s0 : Int) (s1 : Int) (N : Nat) (v10 : Int) (v9' : Int) (k2 : (List Spot) → Option (Bool × (List Spot))) (v11 : Int) (b0' : List Spot) : Option (Bool × (List Spot)) :=
 bif decide ((1 : Int) ≤ v11) then ((ix (b0') v11).bind fun x16 =>
 (ix (b0') (W (v11 - (1 : Int)))).bind fun x17 =>
 (f91 N x16 x17).bind fun x18 =>
 bif !(decide (x18 < (0 : Int))) then (k2 (b0'))
 else ((ix (b0') (W (v11 - (1 : Int)))).bind fun x19 =>
 (ix (b0') v11).bind fun x20 =>
 (ix (b0') v11).bind fun x21 =>
 (setx (b0') v11 x19).bind fun x22 =>
 (ix x22 (W (v11 - (1 : Int)))).bind fun x23 =>
 (setx x22 (W (v11 - (1 : Int))) x20).bind fun x24 =>
 r14 (W (v11 - (1 : Int))) x24))
 else (k2 (b0'))
def f103_14 (s0 : Int) (s1 : Int) (N : Nat) (v10 : Int) (v9' : Int) (k2 : (List Spot) → Option (Bool × (List Spot))) : Nat → Int → (List Spot) → Option (Bool × (List Spot))
  | 0, _, _ => none
  | n + 1, v11, b0' => f103_14b (f103_14 s0 s1 N v10 v9' k2 n) s0 s1 N v10 v9' k2 v11 b0'
def Lf103_14 (s0 : Int) (s1 : Int) (N : Nat) (v10 : Int) (v9' : Int) (k2 : (List Spot) → Option (Bool × (List Spot))) : Lp (Nat × Int × (List Spot)) (Nat) (Bool × (List Spot)) := ⟨⟨[0, 1, 2, 3, 9, 10, 11], [0], [], []⟩, fun (_, v11, b0') => [.rs 0 (List.length (b0')), .dat (iN s0), .dat (iN s1), .dat (.v (.func (.func 91) #[] #[])), .dat (iN (v9')), .dat (iN v10), .dat (iN v11)], fun (_, _, b0') => [.row 73 3 (List.map Spot.d (b0'))], fun (n, v11, b0') => f103_14 s0 s1 N v10 v9' k2 n v11 b0', fun (_, v11, _) m0 => [.rs 0 m0, .dat (iN s0), .dat (iN s1), .dat (.v (.func (.func 91) #[] #[])), .dat (iN (v9')), .dat (iN v10), .dat (iN v11)], fun (_, _, b0') _ => [.row 73 3 (List.map Spot.d (b0'))], fun (_, _, b0') => List.length (b0'), fun _ => rfl, fun _ => rfl⟩
theorem Ef103_14 {s0 s1 N v10 v9' k2 n v11 b0'} : (Lf103_14 s0 s1 N v10 v9' k2).E (n, v11, b0') = f103_14 s0 s1 N v10 v9' k2 n v11 b0' := rfl
def f103_c7 (s0 : Int) (s1 : Int) (N : Nat) (v10 : Int) (b0 : List Spot) (k1 : Int → (List Spot) → Option (Bool × (List Spot))) (v9' : Int) : Option (Bool × (List Spot)) :=
 bif decide ((v9') = s1) then (some (true, b0))
 else (bif decide ((W (s1 - s0)) < (50 : Int)) then (some (false, b0))
 else ((ix b0 (W ((v9') - (1 : Int)))).bind fun x1 =>
 (ix b0 (v9')).bind fun x2 =>
 (ix b0 (v9')).bind fun x3 =>
 (setx b0 (v9') x1).bind fun x4 =>
 (ix x4 (W ((v9') - (1 : Int)))).bind fun x5 =>
 (setx x4 (W ((v9') - (1 : Int))) x2).bind fun x6 =>
 joinK (f103_c18 s0 s1 N v10 k1 v9') fun k2 =>
 bif decide ((2 : Int) ≤ (W ((v9') - s0))) then (f103_14 s0 s1 N v10 v9' k2 N (W ((v9') - (1 : Int))) x6)
 else (k2 x6)))
def Lf103_c7 (s0 : Int) (s1 : Int) (N : Nat) (v10 : Int) (b0 : List Spot) (k1 : Int → (List Spot) → Option (Bool × (List Spot))) : Lp (Int) (Nat) (Bool × (List Spot)) := ⟨⟨[0, 1, 2, 3, 9, 10], [0], [], []⟩, fun v9' => [.rs 0 (List.length b0), .dat (iN s0), .dat (iN s1), .dat (.v (.func (.func 91) #[] #[])), .dat (iN (v9')), .dat (iN v10)], fun _ => [.row 73 3 (List.map Spot.d b0)], fun v9' => f103_c7 s0 s1 N v10 b0 k1 v9', fun v9' m0 => [.rs 0 m0, .dat (iN s0), .dat (iN s1), .dat (.v (.func (.func 91) #[] #[])), .dat (iN (v9')), .dat (iN v10)], fun _ _ => [.row 73 3 (List.map Spot.d b0)], fun _ => List.length b0, fun _ => rfl, fun _ => rfl⟩
theorem Ef103_c7 {s0 s1 N v10 b0 k1 v9'} : (Lf103_c7 s0 s1 N v10 b0 k1).E v9' = f103_c7 s0 s1 N v10 b0 k1 v9' := rfl
def f103_5b (r5 : Int → Option (Bool × (List Spot))) (s0 : Int) (s1 : Int) (N : Nat) (v10 : Int) (b0 : List Spot) (k3 : Int → Option (Bool × (List Spot))) (v9' : Int) : Option (Bool × (List Spot)) :=
 bif decide ((v9') < s1) then ((ix b0 (v9')).bind fun x25 =>
 (ix b0 (W ((v9') - (1 : Int)))).bind fun x26 =>
 (f91 N x25 x26).bind fun x27 =>
 bif !(decide (x27 < (0 : Int))) then (r5 (W ((v9') + (1 : Int))))
 else (k3 (v9')))
 else (k3 (v9'))
def f103_5 (s0 : Int) (s1 : Int) (N : Nat) (v10 : Int) (b0 : List Spot) (k3 : Int → Option (Bool × (List Spot))) : Nat → Int → Option (Bool × (List Spot))
  | 0, _ => none
  | n + 1, v9' => f103_5b (f103_5 s0 s1 N v10 b0 k3 n) s0 s1 N v10 b0 k3 v9'
def Lf103_5 (s0 : Int) (s1 : Int) (N : Nat) (v10 : Int) (b0 : List Spot) (k3 : Int → Option (Bool × (List Spot))) : Lp (Nat × Int) (Nat) (Bool × (List Spot)) := ⟨⟨[0, 1, 2, 3, 9, 10], [0], [], []⟩, fun (_, v9') => [.rs 0 (List.length b0), .dat (iN s0), .dat (iN s1), .dat (.v (.func (.func 91) #[] #[])), .dat (iN (v9')), .dat (iN v10)], fun (_, _) => [.row 73 3 (List.map Spot.d b0)], fun (n, v9') => f103_5 s0 s1 N v10 b0 k3 n v9', fun (_, v9') m0 => [.rs 0 m0, .dat (iN s0), .dat (iN s1), .dat (.v (.func (.func 91) #[] #[])), .dat (iN (v9')), .dat (iN v10)], fun (_, _) _ => [.row 73 3 (List.map Spot.d b0)], fun (_, _) => List.length b0, fun _ => rfl, fun _ => rfl⟩
theorem Ef103_5 {s0 s1 N v10 b0 k3 n v9'} : (Lf103_5 s0 s1 N v10 b0 k3).E (n, v9') = f103_5 s0 s1 N v10 b0 k3 n v9' := rfl
def f103_3b (r3 : Int → Int → (List Spot) → Option (Bool × (List Spot))) (s0 : Int) (s1 : Int) (N : Nat) (k0 : (List Spot) → Option (Bool × (List Spot))) (v9 : Int) (v10 : Int) (b0 : List Spot) : Option (Bool × (List Spot)) :=
 bif decide (v10 < (5 : Int)) then (joinK (f103_c4 s0 s1 v10 r3) fun k1 =>
 joinK (f103_c7 s0 s1 N v10 b0 k1) fun k3 =>
 f103_5 s0 s1 N v10 b0 k3 N v9)
 else (k0 b0)
def f103_3 (s0 : Int) (s1 : Int) (N : Nat) (k0 : (List Spot) → Option (Bool × (List Spot))) : Nat → Int → Int → (List Spot) → Option (Bool × (List Spot))
  | 0, _, _, _ => none
  | n + 1, v9, v10, b0 => f103_3b (f103_3 s0 s1 N k0 n) s0 s1 N k0 v9 v10 b0
def Lf103_3 (s0 : Int) (s1 : Int) (N : Nat) (k0 : (List Spot) → Option (Bool × (List Spot))) : Lp (Nat × Int × Int × (List Spot)) (Nat) (Bool × (List Spot)) := ⟨⟨[0, 1, 2, 3, 9, 10], [0], [], []⟩, fun (_, v9, v10, b0) => [.rs 0 (List.length b0), .dat (iN s0), .dat (iN s1), .dat (.v (.func (.func 91) #[] #[])), .dat (iN v9), .dat (iN v10)], fun (_, _, _, b0) => [.row 73 3 (List.map Spot.d b0)], fun (n, v9, v10, b0) => f103_3 s0 s1 N k0 n v9 v10 b0, fun (_, v9, v10, _) m0 => [.rs 0 m0, .dat (iN s0), .dat (iN s1), .dat (.v (.func (.func 91) #[] #[])), .dat (iN v9), .dat (iN v10)], fun (_, _, _, b0) _ => [.row 73 3 (List.map Spot.d b0)], fun (_, _, _, b0) => List.length b0, fun _ => rfl, fun _ => rfl⟩
theorem Ef103_3 {s0 s1 N k0 n v9 v10 b0} : (Lf103_3 s0 s1 N k0).E (n, v9, v10, b0) = f103_3 s0 s1 N k0 n v9 v10 b0 := rfl
def f103b (self : Int → Int → (List Spot) → Option (Bool × (List Spot))) (N : Nat) (s0 : Int) (s1 : Int) (s2 : List Spot) : Option (Bool × (List Spot)) :=
 joinK f103_c24 fun k0 =>
 f103_3 s0 s1 N k0 N (W (s0 + (1 : Int))) (0 : Int) s2
def f103 : Nat → Int → Int → (List Spot) → Option (Bool × (List Spot))
  | 0, _, _, _ => none
  | N + 1, s0, s1, s2 => f103b (f103 N) N s0 s1 s2
def Af103 (s0 : Int) (s1 : Int) (s2 : List Spot) : List SV := [.rs 0 (List.length s2), .dat (iN s0), .dat (iN s1), .dat (.v (.func (.func 91) #[] #[]))]
def Bf103 (s0 : Int) (s1 : Int) (s2 : List Spot) : List Blk := [.row 73 3 (List.map Spot.d s2)]
def Rf103 (y : Bool × (List Spot)) : List SV := [.kb y.1]
def B1f103 (s0 : Int) (s1 : Int) (s2 : List Spot) (y : Bool × (List Spot)) : List Blk := [.row 73 3 (List.map Spot.d y.2)]
def BZf103 (y : Bool × (List Spot)) : Blk := .unborn
def Spf103 : Spec (Int × Int × (List Spot)) (Bool × (List Spot)) := ⟨1, fun x => Af103 x.1 x.2.1 x.2.2, fun x => Bf103 x.1 x.2.1 x.2.2, fun _ y => Rf103 y, fun x y => B1f103 x.1 x.2.1 x.2.2 y, fun _ y => BZf103 y⟩
def H103 (N : Nat) (x : Int × Int × (List Spot)) (y : Bool × (List Spot)) : Prop := f103 N x.1 x.2.1 x.2.2 = some y
def G103 (x : Int × Int × (List Spot)) (y : Bool × (List Spot)) : Prop := ∃ N, H103 N x y
theorem H103.step {N : Nat} {s0 : Int} {s1 : Int} {s2 : List Spot} {m0 : Nat} {ρ : Type} {A : (Bool × (List Spot)) → Option ρ} {q : ρ} {xs : List SV} {id : Nat} {m : Nat → Blk} {l : List Loc} {K : Dl → List Loc → Prop} {k0 : Nat} (ha : xs = [.rs k0 m0, .dat (iN s0), .dat (iN s1), .dat (.v (.func (.func 91) #[] #[]))]) (b0 : m k0 = .row 73 3 (List.map Spot.d s2)) (em0 : m0 = List.length s2) (hu : m id = .unborn) (hn : nodupB [k0] = true) (h : ∀ y, A y = some q → K ⟨.kb y.1, [(k0, .row 73 3 (List.map Spot.d y.2)), (id, .unborn)]⟩ l) (hF : (f103 N s0 s1 s2).bind A = some q) : effPg Spf103 (H103 N) xs id (fun _ => SV.no) m l K := by
  subst em0; obtain ⟨y, hy, hA⟩ := bind_some hF
  exact eff_step [k0] (s0, s1, s2) y _ hy rfl hn ha (by simp only [List.map_cons, List.map_nil, b0]; rfl) hu rfl rfl (h y hA)
theorem G103.step {N : Nat} {s0 : Int} {s1 : Int} {s2 : List Spot} {m0 : Nat} {ρ : Type} {A : (Bool × (List Spot)) → Option ρ} {q : ρ} {xs : List SV} {id : Nat} {m : Nat → Blk} {l : List Loc} {K : Dl → List Loc → Prop} {k0 : Nat} (ha : xs = [.rs k0 m0, .dat (iN s0), .dat (iN s1), .dat (.v (.func (.func 91) #[] #[]))]) (b0 : m k0 = .row 73 3 (List.map Spot.d s2)) (em0 : m0 = List.length s2) (hu : m id = .unborn) (hn : nodupB [k0] = true) (h : ∀ y, A y = some q → K ⟨.kb y.1, [(k0, .row 73 3 (List.map Spot.d y.2)), (id, .unborn)]⟩ l) (hF : (f103 N s0 s1 s2).bind A = some q) : effPg Spf103 (G103) xs id (fun _ => SV.no) m l K := by
  subst em0; obtain ⟨y, hy, hA⟩ := bind_some hF
  exact eff_step [k0] (s0, s1, s2) y _ ⟨N, hy⟩ rfl hn ha (by simp only [List.map_cons, List.map_nil, b0]; rfl) hu rfl rfl (h y hA)
def Srf103 : Ann := ⟨[0], [0, 500], [], []⟩
set_option maxRecDepth 20000 in
set_option maxHeartbeats 4000000 in
theorem Q103 (N : Nat) : CallOK Try.prog 103 (effPg Spf103 (H103 N)) := by
  induction N with
  | zero => exact eff_none fun x y h => (by cases (show (none : Option (Bool × (List Spot))) = some y from h))
  | succ N ih =>
    refine eff_of_vc (c := mkCtx tyTree [(103, false, effPg Spf103 (H103 N)), (91, true, lendPg [[0, 0, 0], [0, 0, 0]] G91)]) rfl tyOK (ctx_eff (callable Try.func103 rfl rfl) ih (ctx_lend (callable Try.func91 rfl rfl) P91 (ctx_nil))) 1000 500 Srf103 Try.func103 rfl rfl (by kernel_rfl) rfl rfl rfl rfl rfl (fun _ => rfl) (fun _ => rfl) (fun _ _ => ⟨rfl, rfl⟩) ?_
    rintro ⟨s0, s1, s2⟩ y hF
    have hF : f103b (f103 N) N s0 s1 s2 = some y := hF
    show vc _ _ _ _ ⟨[(0, .rs 0 (List.length s2)), (1, .dat (iN s0)), (2, .dat (iN s1)), (3, .dat (.v (.func (.func 91) #[] #[])))], [(0, .row 73 3 (List.map Spot.d s2))]⟩ _
    unfold f103b at hF
    repeat' (first
      | ((with_reducible first | refine q0 _ _ ?_ | refine q1 _ _ _ _ ?_ | refine q2 _ _ _ ?_); clear Q q0 q1 q2)
      | ((with_reducible first | refine seq_op ?hx (fun Q q0 q1 q2 => ?_) | refine draw_op ?hx (fun Q q0 q1 q2 => ?_) | refine seq_op0 ?hx (fun Q q0 q1 q2 => ?_) | refine draw_op0 ?hx (fun Q q0 q1 q2 => ?_)); (case hx => exact rfl); conv => whnf)
      | ((with_reducible first | refine seq_off ?hx ?_ | refine seq_off0 ?hx ?_ | refine draw_off ?hx ?_ | refine draw_off0 ?hx ?_ | refine k_blk_out ?hx ?_ | refine vc_condT ?hx ?_); (case hx => exact rfl))
      | ((with_reducible refine draw_id ?_); (first | ((first | refine draw_opK rfl ?hy (fun Q q0 q1 q2 => ?_) | refine draw_opK0 rfl ?hy (fun Q q0 q1 q2 => ?_)); (case hy => first | assumption | exact notT (by assumption) | exact rfl); conv => whnf) | ((first | refine draw_offK rfl ?hy ?_ | refine draw_offK0 rfl ?hy ?_); (case hy => first | assumption | exact notF (by assumption) | exact rfl)) | (revert hF; (with_reducible first | refine draw_opF ?hx ?_ ?_ | refine draw_opF0 ?hx ?_ ?_); (case hx => exact rfl); (intro hc hF Q q0 q1 q2; conv => whnf); rotate_left; (intro hc hF); rotate_right) | (revert hF; (with_reducible first | refine draw_opN ?hx ?_ ?_ | refine draw_opN0 ?hx ?_ ?_); (case hx => exact rfl); (intro hc hF); rotate_left; (intro hc hF Q q0 q1 q2; conv => whnf); rotate_right)))
      | ((with_reducible refine cond_id ?_); (first | ((refine condKT rfl ?hy ?_); (case hy => first | assumption | exact notT (by assumption) | exact rfl)) | ((refine condKF rfl ?hy ?_); (case hy => first | assumption | exact notF (by assumption) | exact rfl)) | (revert hF; (with_reducible refine condF ?hx ?_ ?_); (case hx => exact rfl); all_goals (intro hc hF))))
      | ((with_reducible refine seq_nil ?_); (first | ((with_reducible refine hR _ ?_); clear R hR) | ((with_reducible refine hL _ ?_); clear L hL)))
      | ((with_reducible refine draw_nil ?_); (with_reducible refine hR _ _ ?hx ?_); (case hx => kernel_rfl); (first | clear R hR | clear hR))
      | ((with_reducible first | refine int_step ?_ | refine len_step ?_ | refine idx2 (by assumption) ?_ | refine idx3 (by assumption) ?_); conv => whnf)
      | (with_reducible first | refine vc_block ?_ | refine vc_skip ?_ | refine vc_ret ?_ | refine vc_exit ?_ | refine vc_region (fun R hR => ?_) | refine k_seq_ret ?_ | refine k_seq_exit ?_ | refine k_blk ?_ | refine k_blk_ret ?_ | refine k_blk_here ?_ | refine k_loop_ret ?_ | refine k_loop_exit ?_)
      | ((with_reducible refine vc_seqN [1000024, 1000004, 1000018, 1000007] ?hx ?_); (case hx => exact rfl))
      | ((with_reducible refine vc_draw ?hx (fun R hR => ?_)); (case hx => exact rfl))
      | (revert hF; (refine Lp.cut0 Lf103_c24 f103_c24 1000024 rfl rfl ?_ ?_); (intro hF); rotate_left; (rintro b0 hF; dsimp only [Lf103_c24] at hF; unfold f103_c24 at hF); rotate_right)
      | exact Lp.head Ef103_c24 hF () ⟨_, rfl, rfl, rfl, rfl⟩ rfl
      | (revert hF; (refine Lp.cut4 Lf103_c4 f103_c4 1000004 rfl rfl ?_ ?_); (intro hF); rotate_left; (rintro ⟨v9', b0'⟩ hF; dsimp only [Lf103_c4] at hF; unfold f103_c4 at hF); rotate_right)
      | exact Lp.head Ef103_c4 hF _ ⟨_, rfl, rfl, rfl, rfl⟩ (by first | exact rfl | ((try dsimp only [Lf103_c4]); first | assumption | omega | (simp only [List.length_set]; done)))
      | (revert hF; (refine Lp.loop Ef103_20 _ rfl ⟨_, rfl, rfl, rfl, rfl⟩ (by first | exact rfl | ((try dsimp only [Lf103_20]); first | assumption | omega | (simp only [List.length_set]; done))) (fun _ => rfl) ?_); rintro n ⟨v12, b0''⟩ hF; dsimp only [Lf103_20, f103_20] at hF; unfold f103_20b at hF)
      | exact Lp.back Ef103_20 hF _ ⟨_, rfl, rfl, rfl, rfl⟩ (by first | exact rfl | ((try dsimp only [Lf103_20]); first | assumption | omega | (simp only [List.length_set]; done)))
      | (revert hF; (refine Lp.cut6 Lf103_c18 f103_c18 1000018 rfl rfl ?_ ?_); (intro hF); rotate_left; (rintro b0' hF; dsimp only [Lf103_c18] at hF; unfold f103_c18 at hF); rotate_right)
      | exact Lp.head Ef103_c18 hF _ ⟨_, rfl, rfl, rfl, rfl⟩ (by first | exact rfl | ((try dsimp only [Lf103_c18]); first | assumption | omega | (simp only [List.length_set]; done)))
      | (revert hF; (refine Lp.loop Ef103_14 _ rfl ⟨_, rfl, rfl, rfl, rfl⟩ (by first | exact rfl | ((try dsimp only [Lf103_14]); first | assumption | omega | (simp only [List.length_set]; done))) (fun _ => rfl) ?_); rintro n ⟨v11, b0'⟩ hF; dsimp only [Lf103_14, f103_14] at hF; unfold f103_14b at hF)
      | exact Lp.back Ef103_14 hF _ ⟨_, rfl, rfl, rfl, rfl⟩ (by first | exact rfl | ((try dsimp only [Lf103_14]); first | assumption | omega | (simp only [List.length_set]; done)))
      | (revert hF; (refine Lp.cut6 Lf103_c7 f103_c7 1000007 rfl rfl ?_ ?_); (intro hF); rotate_left; (rintro v9' hF; dsimp only [Lf103_c7] at hF; unfold f103_c7 at hF); rotate_right)
      | exact Lp.head Ef103_c7 hF _ ⟨_, rfl, rfl, rfl, rfl⟩ (by first | exact rfl | ((try dsimp only [Lf103_c7]); first | assumption | omega | (simp only [List.length_set]; done)))
      | (revert hF; (refine Lp.loop Ef103_5 _ rfl ⟨_, rfl, rfl, rfl, rfl⟩ (by first | exact rfl | ((try dsimp only [Lf103_5]); first | assumption | omega | (simp only [List.length_set]; done))) (fun _ => rfl) ?_); rintro n v9' hF; dsimp only [Lf103_5, f103_5] at hF; unfold f103_5b at hF)
      | exact Lp.back Ef103_5 hF _ ⟨_, rfl, rfl, rfl, rfl⟩ (by first | exact rfl | ((try dsimp only [Lf103_5]); first | assumption | omega | (simp only [List.length_set]; done)))
      | (revert hF; (refine Lp.loop Ef103_3 _ rfl ⟨_, rfl, rfl, rfl, rfl⟩ (by first | exact rfl | ((try dsimp only [Lf103_3]); first | assumption | omega | (simp only [List.length_set]; done))) (fun _ => rfl) ?_); rintro n ⟨v9, v10, b0⟩ hF; dsimp only [Lf103_3, f103_3] at hF; unfold f103_3b at hF)
      | exact Lp.back Ef103_3 hF _ ⟨_, rfl, rfl, rfl, rfl⟩ (by first | exact rfl | ((try dsimp only [Lf103_3]); first | assumption | omega | (simp only [List.length_set]; done)))
      | (revert hF; (with_reducible refine G91.lend ?hx ?_); (case hx => exact rfl); intro v hF; conv => whnf)
      | (revert hF; (refine H103.step rfl rfl (by first | exact rfl | assumption | omega | (simp only [List.length_set]; done)) rfl ?hn ?_); (case hn => exact rfl); intro v hF; conv => whnf)
      | (show retE _ _ _ _ _ _; conv => whnf)
      | (cases hF; exact ⟨rfl, rfl, rfl⟩)
      | (revert hF; (with_reducible refine idx1 ?hn ?_); (case hn => first | exact rfl | exact (List.length_map _) | assumption | omega | simp); intro x hx hF; conv => whnf)
      | ((refine row_all ?hn ?_); (case hn => first | exact rfl | (simp; done) | (simp; omega)); conv => whnf)
      | ((with_reducible refine le_step ?hn ?_); (case hn => first | exact rfl | assumption | omega); conv => whnf)
      | ((with_reducible have hG := setx_fact hF); clear hF; (refine setx_step hG ?hs (fun q hl hF => ?_)); (case hs => exact rfl); clear hG; conv => whnf)
      | ((refine ⟨?hx, ?_⟩); (case hx => exact ⟨rfl, Nat.le_of_ble_eq_true rfl, rfl⟩); conv => whnf)
      | ((with_reducible refine ex_step ?_); conv => whnf)
      | ((with_reducible refine both_T ?hx ?_); (case hx => first | exact rfl | assumption | exact notT (by assumption)); conv => whnf)
      | ((with_reducible refine both_F ?hx ?_); (case hx => first | exact rfl | assumption | exact notF (by assumption)); conv => whnf)
      | (revert hF; (with_reducible refine ite_step ?_ ?_) <;> (intro hc hF; conv => whnf))
      | ((with_reducible refine vc_condF ?hx ?_); (case hx => exact rfl))
      | (show retD _ _ _ _ _ _; conv => whnf)
      | ((refine ⟨?hx, trivial⟩); (case hx => (cases hF; exact rfl)))
      | ((refine ⟨?hx, ?_⟩); (case hx => decide); conv => whnf)
      | with_reducible refine k_seq ?_
      | (have hF : (none : Option _) = some _ := hF; cases hF))
theorem P103 : CallOK Try.prog 103 (effPg Spf103 G103) := eff_ex Q103
end
end Go.Vc
namespace Go.Vc
open Go.Proofs
set_option linter.unusedVariables false
set_option linter.unnecessarySimpa false
set_option linter.unusedSimpArgs false
section
variable {c : Ctx} {p nid : Nat} {a b : Code} {st : St} {K : Ex → St → Prop}
/- f104: slices.partitionEqualCmpFunc[tusche/serial.Spot] -/
def f104_c11 (v11 : Int) (b0 : List Spot) : Option (Int × (List Spot)) :=
 some (v11, b0)
def Lf104_c11 : Lp (Int × (List Spot)) Unit (Int × (List Spot)) := lp0 ⟨[11], [0], [], []⟩ (fun (v11, _) => [.dat (iN v11)]) (fun (_, b0) => [.row 73 3 (List.map Spot.d b0)]) (fun (v11, b0) => f104_c11 v11 b0)
theorem Ef104_c11 {v11 b0} : (Lf104_c11).E (v11, b0) = f104_c11 v11 b0 := rfl
def f104_c7 (s0 : Int) (k0 : Int → (List Spot) → Option (Int × (List Spot))) (b0 : List Spot) (r3 : Int → Int → (List Spot) → Option (Int × (List Spot))) (v11' : Int) (v12' : Int) : Option (Int × (List Spot)) :=
 bif decide ((v12') < (v11')) then (k0 (v11') b0)
 else ((ix b0 (v12')).bind fun x7 =>
 (ix b0 (v11')).bind fun x8 =>
 (ix b0 (v11')).bind fun x9 =>
 (setx b0 (v11') x7).bind fun x10 =>
 (ix x10 (v12')).bind fun x11 =>
 (setx x10 (v12') x8).bind fun x12 =>
 r3 (W ((v11') + (1 : Int))) (W ((v12') - (1 : Int))) x12)
def Lf104_c7 (s0 : Int) (k0 : Int → (List Spot) → Option (Int × (List Spot))) (b0 : List Spot) (r3 : Int → Int → (List Spot) → Option (Int × (List Spot))) (v11' : Int) : Lp (Int) (Nat) (Int × (List Spot)) := ⟨⟨[0, 1, 4, 11, 12], [0], [], []⟩, fun v12' => [.rs 0 (List.length b0), .dat (iN s0), .dat (.v (.func (.func 91) #[] #[])), .dat (iN (v11')), .dat (iN (v12'))], fun _ => [.row 73 3 (List.map Spot.d b0)], fun v12' => f104_c7 s0 k0 b0 r3 v11' v12', fun v12' m0 => [.rs 0 m0, .dat (iN s0), .dat (.v (.func (.func 91) #[] #[])), .dat (iN (v11')), .dat (iN (v12'))], fun _ _ => [.row 73 3 (List.map Spot.d b0)], fun _ => List.length b0, fun _ => rfl, fun _ => rfl⟩
theorem Ef104_c7 {s0 k0 b0 r3 v11' v12'} : (Lf104_c7 s0 k0 b0 r3 v11').E v12' = f104_c7 s0 k0 b0 r3 v11' v12' := rfl
def f104_5b (r5 : Int → Option (Int × (List Spot))) (s0 : Int) (N : Nat) (b0 : List Spot) (v11' : Int) (k1 : Int → Option (Int × (List Spot))) (v12' : Int) : Option (Int × (List Spot)) :=
 bif decide ((v11') ≤ (v12')) then ((ix b0 s0).bind fun x13 =>
 (ix b0 (v12')).bind fun x14 =>
 (f91 N x13 x14).bind fun x15 =>
 bif decide (x15 < (0 : Int)) then (r5 (W ((v12') - (1 : Int))))
 else (k1 (v12')))
 else (k1 (v12'))
def f104_5 (s0 : Int) (N : Nat) (b0 : List Spot) (v11' : Int) (k1 : Int → Option (Int × (List Spot))) : Nat → Int → Option (Int × (List Spot))
  | 0, _ => none
  | n + 1, v12' => f104_5b (f104_5 s0 N b0 v11' k1 n) s0 N b0 v11' k1 v12'
def Lf104_5 (s0 : Int) (N : Nat) (b0 : List Spot) (v11' : Int) (k1 : Int → Option (Int × (List Spot))) : Lp (Nat × Int) (Nat) (Int × (List Spot)) := ⟨⟨[0, 1, 4, 11, 12], [0], [], []⟩, fun (_, v12') => [.rs 0 (List.length b0), .dat (iN s0), .dat (.v (.func (.func 91) #[] #[])), .dat (iN (v11')), .dat (iN (v12'))], fun (_, _) => [.row 73 3 (List.map Spot.d b0)], fun (n, v12') => f104_5 s0 N b0 v11' k1 n v12', fun (_, v12') m0 => [.rs 0 m0, .dat (iN s0), .dat (.v (.func (.func 91) #[] #[])), .dat (iN (v11')), .dat (iN (v12'))], fun (_, _) _ => [.row 73 3 (List.map Spot.d b0)], fun (_, _) => List.length b0, fun _ => rfl, fun _ => rfl⟩
theorem Ef104_5 {s0 N b0 v11' k1 n v12'} : (Lf104_5 s0 N b0 v11' k1).E (n, v12') = f104_5 s0 N b0 v11' k1 n v12' := rfl
def f104_c5 (s0 : Int) (N : Nat) (k0 : Int → (List Spot) → Option (Int × (List Spot))) (v12 : Int) (b0 : List Spot) (r3 : Int → Int → (List Spot) → Option (Int × (List Spot))) (v11' : Int) : Option (Int × (List Spot)) :=
 joinK (f104_c7 s0 k0 b0 r3 v11') fun k1 =>
 f104_5 s0 N b0 v11' k1 N v12
def Lf104_c5 (s0 : Int) (N : Nat) (k0 : Int → (List Spot) → Option (Int × (List Spot))) (v12 : Int) (b0 : List Spot) (r3 : Int → Int → (List Spot) → Option (Int × (List Spot))) : Lp (Int) (Nat) (Int × (List Spot)) := ⟨⟨[0, 1, 4, 11, 12], [0], [], []⟩, fun v11' => [.rs 0 (List.length b0), .dat (iN s0), .dat (.v (.func (.func 91) #[] #[])), .dat (iN (v11')), .dat (iN v12)], fun _ => [.row 73 3 (List.map Spot.d b0)], fun v11' => f104_c5 s0 N k0 v12 b0 r3 v11', fun v11' m0 => [.rs 0 m0, .dat (iN s0), .dat (.v (.func (.func 91) #[] #[])), .dat (iN (v11')), .dat (iN v12)], fun _ _ => [.row 73 3 (List.map Spot.d b0)], fun _ => List.length b0, fun _ => rfl, fun _ => rfl⟩
theorem Ef104_c5 {s0 N k0 v12 b0 r3 v11'} : (Lf104_c5 s0 N k0 v12 b0 r3).E v11' = f104_c5 s0 N k0 v12 b0 r3 v11' := rfl
def f104_3_1b (r3x : Int → Option (Int × (List Spot))) (s0 : Int) (N : Nat) (v12 : Int) (b0 : List Spot) (k2 : Int → Option (Int × (List Spot))) (v11' : Int) : Option (Int × (List Spot)) :=
 bif decide ((v11') ≤ v12) then ((ix b0 s0).bind fun x16 =>
 (ix b0 (v11')).bind fun x17 =>
 (f91 N x16 x17).bind fun x18 =>
 bif !(decide (x18 < (0 : Int))) then (r3x (W ((v11') + (1 : Int))))
 else (k2 (v11')))
 else (k2 (v11'))
def f104_3_1 (s0 : Int) (N : Nat) (v12 : Int) (b0 : List Spot) (k2 : Int → Option (Int × (List Spot))) : Nat → Int → Option (Int × (List Spot))
  | 0, _ => none
  | n + 1, v11' => f104_3_1b (f104_3_1 s0 N v12 b0 k2 n) s0 N v12 b0 k2 v11'
def Lf104_3_1 (s0 : Int) (N : Nat) (v12 : Int) (b0 : List Spot) (k2 : Int → Option (Int × (List Spot))) : Lp (Nat × Int) (Nat) (Int × (List Spot)) := ⟨⟨[0, 1, 4, 11, 12], [0], [], []⟩, fun (_, v11') => [.rs 0 (List.length b0), .dat (iN s0), .dat (.v (.func (.func 91) #[] #[])), .dat (iN (v11')), .dat (iN v12)], fun (_, _) => [.row 73 3 (List.map Spot.d b0)], fun (n, v11') => f104_3_1 s0 N v12 b0 k2 n v11', fun (_, v11') m0 => [.rs 0 m0, .dat (iN s0), .dat (.v (.func (.func 91) #[] #[])), .dat (iN (v11')), .dat (iN v12)], fun (_, _) _ => [.row 73 3 (List.map Spot.d b0)], fun (_, _) => List.length b0, fun _ => rfl, fun _ => rfl⟩
theorem Ef104_3_1 {s0 N v12 b0 k2 n v11'} : (Lf104_3_1 s0 N v12 b0 k2).E (n, v11') = f104_3_1 s0 N v12 b0 k2 n v11' := rfl
def f104_3b (r3 : Int → Int → (List Spot) → Option (Int × (List Spot))) (s0 : Int) (N : Nat) (k0 : Int → (List Spot) → Option (Int × (List Spot))) (v11 : Int) (v12 : Int) (b0 : List Spot) : Option (Int × (List Spot)) :=
 joinK (f104_c5 s0 N k0 v12 b0 r3) fun k2 =>
 f104_3_1 s0 N v12 b0 k2 N v11
def f104_3 (s0 : Int) (N : Nat) (k0 : Int → (List Spot) → Option (Int × (List Spot))) : Nat → Int → Int → (List Spot) → Option (Int × (List Spot))
  | 0, _, _, _ => none
  | n + 1, v11, v12, b0 => f104_3b (f104_3 s0 N k0 n) s0 N k0 v11 v12 b0
def Lf104_3 (s0 : Int) (N : Nat) (k0 : Int → (List Spot) → Option (Int × (List Spot))) : Lp (Nat × Int × Int × (List Spot)) (Nat) (Int × (List Spot)) := ⟨⟨[0, 1, 4, 11, 12], [0], [], []⟩, fun (_, v11, v12, b0) => [.rs 0 (List.length b0), .dat (iN s0), .dat (.v (.func (.func 91) #[] #[])), .dat (iN v11), .dat (iN v12)], fun (_, _, _, b0) => [.row 73 3 (List.map Spot.d b0)], fun (n, v11, v12, b0) => f104_3 s0 N k0 n v11 v12 b0, fun (_, v11, v12, _) m0 => [.rs 0 m0, .dat (iN s0), .dat (.v (.func (.func 91) #[] #[])), .dat (iN v11), .dat (iN v12)], fun (_, _, _, b0) _ => [.row 73 3 (List.map Spot.d b0)], fun (_, _, _, b0) => List.length b0, fun _ => rfl, fun _ => rfl⟩
theorem Ef104_3 {s0 N k0 n v11 v12 b0} : (Lf104_3 s0 N k0).E (n, v11, v12, b0) = f104_3 s0 N k0 n v11 v12 b0 := rfl
def f104b (self : Int → Int → Int → (List Spot) → Option (Int × (List Spot))) (N : Nat) (s0 : Int) (s1 : Int) (s2 : Int) (s3 : List Spot) : Option (Int × (List Spot)) :=
 (ix s3 s2).bind fun x1 =>
 (ix s3 s0).bind fun x2 =>
 (ix s3 s0).bind fun x3 =>
 (setx s3 s0 x1).bind fun x4 =>
 (ix x4 s2).bind fun x5 =>
 (setx x4 s2 x2).bind fun x6 =>
 joinK f104_c11 fun k0 =>
 f104_3 s0 N k0 N (W (s0 + (1 : Int))) (W (s1 - (1 : Int))) x6
def f104 : Nat → Int → Int → Int → (List Spot) → Option (Int × (List Spot))
  | 0, _, _, _, _ => none
  | N + 1, s0, s1, s2, s3 => f104b (f104 N) N s0 s1 s2 s3
def Af104 (s0 : Int) (s1 : Int) (s2 : Int) (s3 : List Spot) : List SV := [.rs 0 (List.length s3), .dat (iN s0), .dat (iN s1), .dat (iN s2), .dat (.v (.func (.func 91) #[] #[]))]
def Bf104 (s0 : Int) (s1 : Int) (s2 : Int) (s3 : List Spot) : List Blk := [.row 73 3 (List.map Spot.d s3)]
def Rf104 (y : Int × (List Spot)) : List SV := [.dat (iN y.1)]
def B1f104 (s0 : Int) (s1 : Int) (s2 : Int) (s3 : List Spot) (y : Int × (List Spot)) : List Blk := [.row 73 3 (List.map Spot.d y.2)]
def BZf104 (y : Int × (List Spot)) : Blk := .unborn
def Spf104 : Spec (Int × Int × Int × (List Spot)) (Int × (List Spot)) := ⟨1, fun x => Af104 x.1 x.2.1 x.2.2.1 x.2.2.2, fun x => Bf104 x.1 x.2.1 x.2.2.1 x.2.2.2, fun _ y => Rf104 y, fun x y => B1f104 x.1 x.2.1 x.2.2.1 x.2.2.2 y, fun _ y => BZf104 y⟩
def H104 (N : Nat) (x : Int × Int × Int × (List Spot)) (y : Int × (List Spot)) : Prop := f104 N x.1 x.2.1 x.2.2.1 x.2.2.2 = some y
def G104 (x : Int × Int × Int × (List Spot)) (y : Int × (List Spot)) : Prop := ∃ N, H104 N x y
theorem H104.step {N : Nat} {s0 : Int} {s1 : Int} {s2 : Int} {s3 : List Spot} {m0 : Nat} {ρ : Type} {A : (Int × (List Spot)) → Option ρ} {q : ρ} {xs : List SV} {id : Nat} {m : Nat → Blk} {l : List Loc} {K : Dl → List Loc → Prop} {k0 : Nat} (ha : xs = [.rs k0 m0, .dat (iN s0), .dat (iN s1), .dat (iN s2), .dat (.v (.func (.func 91) #[] #[]))]) (b0 : m k0 = .row 73 3 (List.map Spot.d s3)) (em0 : m0 = List.length s3) (hu : m id = .unborn) (hn : nodupB [k0] = true) (h : ∀ y, A y = some q → K ⟨.dat (iN y.1), [(k0, .row 73 3 (List.map Spot.d y.2)), (id, .unborn)]⟩ l) (hF : (f104 N s0 s1 s2 s3).bind A = some q) : effPg Spf104 (H104 N) xs id (fun _ => SV.no) m l K := by
  subst em0; obtain ⟨y, hy, hA⟩ := bind_some hF
  exact eff_step [k0] (s0, s1, s2, s3) y _ hy rfl hn ha (by simp only [List.map_cons, List.map_nil, b0]; rfl) hu rfl rfl (h y hA)
theorem G104.step {N : Nat} {s0 : Int} {s1 : Int} {s2 : Int} {s3 : List Spot} {m0 : Nat} {ρ : Type} {A : (Int × (List Spot)) → Option ρ} {q : ρ} {xs : List SV} {id : Nat} {m : Nat → Blk} {l : List Loc} {K : Dl → List Loc → Prop} {k0 : Nat} (ha : xs = [.rs k0 m0, .dat (iN s0), .dat (iN s1), .dat (iN s2), .dat (.v (.func (.func 91) #[] #[]))]) (b0 : m k0 = .row 73 3 (List.map Spot.d s3)) (em0 : m0 = List.length s3) (hu : m id = .unborn) (hn : nodupB [k0] = true) (h : ∀ y, A y = some q → K ⟨.dat (iN y.1), [(k0, .row 73 3 (List.map Spot.d y.2)), (id, .unborn)]⟩ l) (hF : (f104 N s0 s1 s2 s3).bind A = some q) : effPg Spf104 (G104) xs id (fun _ => SV.no) m l K := by
  subst em0; obtain ⟨y, hy, hA⟩ := bind_some hF
  exact eff_step [k0] (s0, s1, s2, s3) y _ ⟨N, hy⟩ rfl hn ha (by simp only [List.map_cons, List.map_nil, b0]; rfl) hu rfl rfl (h y hA)
def Srf104 : Ann := ⟨[0], [0, 500], [], []⟩
set_option maxRecDepth 20000 in
set_option maxHeartbeats 4000000 in
theorem Q104 (N : Nat) : CallOK Try.prog 104 (effPg Spf104 (H104 N)) := by
  induction N with
  | zero => exact eff_none fun x y h => (by cases (show (none : Option (Int × (List Spot))) = some y from h))
  | succ N ih =>
    refine eff_of_vc (c := mkCtx tyTree [(104, false, effPg Spf104 (H104 N)), (91, true, lendPg [[0, 0, 0], [0, 0, 0]] G91)]) rfl tyOK (ctx_eff (callable Try.func104 rfl rfl) ih (ctx_lend (callable Try.func91 rfl rfl) P91 (ctx_nil))) 1000 500 Srf104 Try.func104 rfl rfl (by kernel_rfl) rfl rfl rfl rfl rfl (fun _ => rfl) (fun _ => rfl) (fun _ _ => ⟨rfl, rfl⟩) ?_
    rintro ⟨s0, s1, s2, s3⟩ y hF
    have hF : f104b (f104 N) N s0 s1 s2 s3 = some y := hF
    show vc _ _ _ _ ⟨[(0, .rs 0 (List.length s3)), (1, .dat (iN s0)), (2, .dat (iN s1)), (3, .dat (iN s2)), (4, .dat (.v (.func (.func 91) #[] #[])))], [(0, .row 73 3 (List.map Spot.d s3))]⟩ _
    unfold f104b at hF
    repeat' (first
      | ((with_reducible first | refine q0 _ _ ?_ | refine q1 _ _ _ _ ?_ | refine q2 _ _ _ ?_); clear Q q0 q1 q2)
      | ((with_reducible first | refine seq_op ?hx (fun Q q0 q1 q2 => ?_) | refine draw_op ?hx (fun Q q0 q1 q2 => ?_) | refine seq_op0 ?hx (fun Q q0 q1 q2 => ?_) | refine draw_op0 ?hx (fun Q q0 q1 q2 => ?_)); (case hx => exact rfl); conv => whnf)
      | ((with_reducible first | refine seq_off ?hx ?_ | refine seq_off0 ?hx ?_ | refine draw_off ?hx ?_ | refine draw_off0 ?hx ?_ | refine k_blk_out ?hx ?_ | refine vc_condT ?hx ?_); (case hx => exact rfl))
      | ((with_reducible refine draw_id ?_); (first | ((first | refine draw_opK rfl ?hy (fun Q q0 q1 q2 => ?_) | refine draw_opK0 rfl ?hy (fun Q q0 q1 q2 => ?_)); (case hy => first | assumption | exact notT (by assumption) | exact rfl); conv => whnf) | ((first | refine draw_offK rfl ?hy ?_ | refine draw_offK0 rfl ?hy ?_); (case hy => first | assumption | exact notF (by assumption) | exact rfl)) | (revert hF; (with_reducible first | refine draw_opF ?hx ?_ ?_ | refine draw_opF0 ?hx ?_ ?_); (case hx => exact rfl); (intro hc hF Q q0 q1 q2; conv => whnf); rotate_left; (intro hc hF); rotate_right) | (revert hF; (with_reducible first | refine draw_opN ?hx ?_ ?_ | refine draw_opN0 ?hx ?_ ?_); (case hx => exact rfl); (intro hc hF); rotate_left; (intro hc hF Q q0 q1 q2; conv => whnf); rotate_right)))
      | ((with_reducible refine cond_id ?_); (first | ((refine condKT rfl ?hy ?_); (case hy => first | assumption | exact notT (by assumption) | exact rfl)) | ((refine condKF rfl ?hy ?_); (case hy => first | assumption | exact notF (by assumption) | exact rfl)) | (revert hF; (with_reducible refine condF ?hx ?_ ?_); (case hx => exact rfl); all_goals (intro hc hF))))
      | ((with_reducible refine seq_nil ?_); (first | ((with_reducible refine hR _ ?_); clear R hR) | ((with_reducible refine hL _ ?_); clear L hL)))
      | ((with_reducible refine draw_nil ?_); (with_reducible refine hR _ _ ?hx ?_); (case hx => kernel_rfl); (first | clear R hR | clear hR))
      | ((with_reducible first | refine int_step ?_ | refine len_step ?_ | refine idx2 (by assumption) ?_ | refine idx3 (by assumption) ?_); conv => whnf)
      | (with_reducible first | refine vc_block ?_ | refine vc_skip ?_ | refine vc_ret ?_ | refine vc_exit ?_ | refine vc_region (fun R hR => ?_) | refine k_seq_ret ?_ | refine k_seq_exit ?_ | refine k_blk ?_ | refine k_blk_ret ?_ | refine k_blk_here ?_ | refine k_loop_ret ?_ | refine k_loop_exit ?_)
      | ((with_reducible refine vc_seqN [1000011, 1000007, 1000005] ?hx ?_); (case hx => exact rfl))
      | ((with_reducible refine vc_draw ?hx (fun R hR => ?_)); (case hx => exact rfl))
      | (revert hF; (refine Lp.cut0 Lf104_c11 f104_c11 1000011 rfl rfl ?_ ?_); (intro hF); rotate_left; (rintro ⟨v11, b0⟩ hF; dsimp only [Lf104_c11] at hF; unfold f104_c11 at hF); rotate_right)
      | exact Lp.head Ef104_c11 hF () ⟨_, rfl, rfl, rfl, rfl⟩ rfl
      | (revert hF; (refine Lp.cut5 Lf104_c7 f104_c7 1000007 rfl rfl ?_ ?_); (intro hF); rotate_left; (rintro v12' hF; dsimp only [Lf104_c7] at hF; unfold f104_c7 at hF); rotate_right)
      | exact Lp.head Ef104_c7 hF _ ⟨_, rfl, rfl, rfl, rfl⟩ (by first | exact rfl | ((try dsimp only [Lf104_c7]); first | assumption | omega | (simp only [List.length_set]; done)))
      | (revert hF; (refine Lp.loop Ef104_5 _ rfl ⟨_, rfl, rfl, rfl, rfl⟩ (by first | exact rfl | ((try dsimp only [Lf104_5]); first | assumption | omega | (simp only [List.length_set]; done))) (fun _ => rfl) ?_); rintro n v12' hF; dsimp only [Lf104_5, f104_5] at hF; unfold f104_5b at hF)
      | exact Lp.back Ef104_5 hF _ ⟨_, rfl, rfl, rfl, rfl⟩ (by first | exact rfl | ((try dsimp only [Lf104_5]); first | assumption | omega | (simp only [List.length_set]; done)))
      | (revert hF; (refine Lp.cut6 Lf104_c5 f104_c5 1000005 rfl rfl ?_ ?_); (intro hF); rotate_left; (rintro v11' hF; dsimp only [Lf104_c5] at hF; unfold f104_c5 at hF); rotate_right)
      | exact Lp.head Ef104_c5 hF _ ⟨_, rfl, rfl, rfl, rfl⟩ (by first | exact rfl | ((try dsimp only [Lf104_c5]); first | assumption | omega | (simp only [List.length_set]; done)))
      | (revert hF; (refine Lp.loop Ef104_3_1 _ rfl ⟨_, rfl, rfl, rfl, rfl⟩ (by first | exact rfl | ((try dsimp only [Lf104_3_1]); first | assumption | omega | (simp only [List.length_set]; done))) (fun _ => rfl) ?_); rintro n v11' hF; dsimp only [Lf104_3_1, f104_3_1] at hF; unfold f104_3_1b at hF)
      | exact Lp.back Ef104_3_1 hF _ ⟨_, rfl, rfl, rfl, rfl⟩ (by first | exact rfl | ((try dsimp only [Lf104_3_1]); first | assumption | omega | (simp only [List.length_set]; done)))
      | (revert hF; (refine Lp.loop Ef104_3 _ rfl ⟨_, rfl, rfl, rfl, rfl⟩ (by first | exact rfl | ((try dsimp only [Lf104_3]); first | assumption | omega | (simp only [List.length_set]; done))) (fun _ => rfl) ?_); rintro n ⟨v11, v12, b0⟩ hF; dsimp only [Lf104_3, f104_3] at hF; unfold f104_3b at hF)
      | exact Lp.back Ef104_3 hF _ ⟨_, rfl, rfl, rfl, rfl⟩ (by first | exact rfl | ((try dsimp only [Lf104_3]); first | assumption | omega | (simp only [List.length_set]; done)))
      | (revert hF; (with_reducible refine G91.lend ?hx ?_); (case hx => exact rfl); intro v hF; conv => whnf)
      | (revert hF; (refine H104.step rfl rfl (by first | exact rfl | assumption | omega | (simp only [List.length_set]; done)) rfl ?hn ?_); (case hn => exact rfl); intro v hF; conv => whnf)
      | (show retE _ _ _ _ _ _; conv => whnf)
      | (cases hF; exact ⟨rfl, rfl, rfl⟩)
      | (revert hF; (with_reducible refine idx1 ?hn ?_); (case hn => first | exact rfl | exact (List.length_map _) | assumption | omega | simp); intro x hx hF; conv => whnf)
      | ((refine row_all ?hn ?_); (case hn => first | exact rfl | (simp; done) | (simp; omega)); conv => whnf)
      | ((with_reducible refine le_step ?hn ?_); (case hn => first | exact rfl | assumption | omega); conv => whnf)
      | ((with_reducible have hG := setx_fact hF); clear hF; (refine setx_step hG ?hs (fun q hl hF => ?_)); (case hs => exact rfl); clear hG; conv => whnf)
      | ((refine ⟨?hx, ?_⟩); (case hx => exact ⟨rfl, Nat.le_of_ble_eq_true rfl, rfl⟩); conv => whnf)
      | ((with_reducible refine ex_step ?_); conv => whnf)
      | ((with_reducible refine both_T ?hx ?_); (case hx => first | exact rfl | assumption | exact notT (by assumption)); conv => whnf)
      | ((with_reducible refine both_F ?hx ?_); (case hx => first | exact rfl | assumption | exact notF (by assumption)); conv => whnf)
      | (revert hF; (with_reducible refine ite_step ?_ ?_) <;> (intro hc hF; conv => whnf))
      | ((with_reducible refine vc_condF ?hx ?_); (case hx => exact rfl))
      | (show retD _ _ _ _ _ _; conv => whnf)
      | ((refine ⟨?hx, trivial⟩); (case hx => (cases hF; exact rfl)))
      | ((refine ⟨?hx, ?_⟩); (case hx => decide); conv => whnf)
      | with_reducible refine k_seq ?_
      | (have hF : (none : Option _) = some _ := hF; cases hF))
theorem P104 : CallOK Try.prog 104 (effPg Spf104 G104) := eff_ex Q104
end
end Go.Vc
namespace Go.Vc
open Go.Proofs
set_option linter.unusedVariables false
set_option linter.unnecessarySimpa false
set_option linter.unusedSimpArgs false
section
variable {c : Ctx} {p nid : Nat} {a b : Code} {st : St} {K : Ex → St → Prop}
/- f105: slices.partitionCmpFunc[tusche/serial.Spot] -/
def f105_c21 (s0 : Int) (v13' : Int) (b0 : List Spot) : Option (Int × Bool × (List Spot)) :=
 (ix b0 s0).bind fun x19 =>
 (ix b0 (v13')).bind fun x20 =>
 (ix b0 (v13')).bind fun x21 =>
 (setx b0 (v13') x19).bind fun x22 =>
 (ix x22 s0).bind fun x23 =>
 (setx x22 s0 x20).bind fun x24 =>
 some (v13', false, x24)
def Lf105_c21 (s0 : Int) : Lp (Int × (List Spot)) (Nat) (Int × Bool × (List Spot)) := ⟨⟨[0, 1, 13], [0], [], []⟩, fun (v13', b0) => [.rs 0 (List.length b0), .dat (iN s0), .dat (iN (v13'))], fun (_, b0) => [.row 73 3 (List.map Spot.d b0)], fun (v13', b0) => f105_c21 s0 v13' b0, fun (v13', _) m0 => [.rs 0 m0, .dat (iN s0), .dat (iN (v13'))], fun (_, b0) _ => [.row 73 3 (List.map Spot.d b0)], fun (_, b0) => List.length b0, fun _ => rfl, fun _ => rfl⟩
theorem Ef105_c21 {s0 v13' b0} : (Lf105_c21 s0).E (v13', b0) = f105_c21 s0 v13' b0 := rfl
def f105_c17 (s0 : Int) (k0 : Int → (List Spot) → Option (Int × Bool × (List Spot))) (b0 : List Spot) (r13 : Int → Int → (List Spot) → Option (Int × Bool × (List Spot))) (v12'' : Int) (v13'' : Int) : Option (Int × Bool × (List Spot)) :=
 bif decide ((v13'') < (v12'')) then (k0 (v13'') b0)
 else ((ix b0 (v13'')).bind fun x25 =>
 (ix b0 (v12'')).bind fun x26 =>
 (ix b0 (v12'')).bind fun x27 =>
 (setx b0 (v12'') x25).bind fun x28 =>
 (ix x28 (v13'')).bind fun x29 =>
 (setx x28 (v13'') x26).bind fun x30 =>
 r13 (W ((v12'') + (1 : Int))) (W ((v13'') - (1 : Int))) x30)
def Lf105_c17 (s0 : Int) (k0 : Int → (List Spot) → Option (Int × Bool × (List Spot))) (b0 : List Spot) (r13 : Int → Int → (List Spot) → Option (Int × Bool × (List Spot))) (v12'' : Int) : Lp (Int) (Nat) (Int × Bool × (List Spot)) := ⟨⟨[0, 1, 4, 12, 13], [0], [], []⟩, fun v13'' => [.rs 0 (List.length b0), .dat (iN s0), .dat (.v (.func (.func 91) #[] #[])), .dat (iN (v12'')), .dat (iN (v13''))], fun _ => [.row 73 3 (List.map Spot.d b0)], fun v13'' => f105_c17 s0 k0 b0 r13 v12'' v13'', fun v13'' m0 => [.rs 0 m0, .dat (iN s0), .dat (.v (.func (.func 91) #[] #[])), .dat (iN (v12'')), .dat (iN (v13''))], fun _ _ => [.row 73 3 (List.map Spot.d b0)], fun _ => List.length b0, fun _ => rfl, fun _ => rfl⟩
theorem Ef105_c17 {s0 k0 b0 r13 v12'' v13''} : (Lf105_c17 s0 k0 b0 r13 v12'').E v13'' = f105_c17 s0 k0 b0 r13 v12'' v13'' := rfl
def f105_15b (r15 : Int → Option (Int × Bool × (List Spot))) (s0 : Int) (N : Nat) (b0 : List Spot) (v12'' : Int) (k1 : Int → Option (Int × Bool × (List Spot))) (v13'' : Int) : Option (Int × Bool × (List Spot)) :=
 bif decide ((v12'') ≤ (v13'')) then ((ix b0 (v13'')).bind fun x31 =>
 (ix b0 s0).bind fun x32 =>
 (f91 N x31 x32).bind fun x33 =>
 bif !(decide (x33 < (0 : Int))) then (r15 (W ((v13'') - (1 : Int))))
 else (k1 (v13'')))
 else (k1 (v13''))
def f105_15 (s0 : Int) (N : Nat) (b0 : List Spot) (v12'' : Int) (k1 : Int → Option (Int × Bool × (List Spot))) : Nat → Int → Option (Int × Bool × (List Spot))
  | 0, _ => none
  | n + 1, v13'' => f105_15b (f105_15 s0 N b0 v12'' k1 n) s0 N b0 v12'' k1 v13''
def Lf105_15 (s0 : Int) (N : Nat) (b0 : List Spot) (v12'' : Int) (k1 : Int → Option (Int × Bool × (List Spot))) : Lp (Nat × Int) (Nat) (Int × Bool × (List Spot)) := ⟨⟨[0, 1, 4, 12, 13], [0], [], []⟩, fun (_, v13'') => [.rs 0 (List.length b0), .dat (iN s0), .dat (.v (.func (.func 91) #[] #[])), .dat (iN (v12'')), .dat (iN (v13''))], fun (_, _) => [.row 73 3 (List.map Spot.d b0)], fun (n, v13'') => f105_15 s0 N b0 v12'' k1 n v13'', fun (_, v13'') m0 => [.rs 0 m0, .dat (iN s0), .dat (.v (.func (.func 91) #[] #[])), .dat (iN (v12'')), .dat (iN (v13''))], fun (_, _) _ => [.row 73 3 (List.map Spot.d b0)], fun (_, _) => List.length b0, fun _ => rfl, fun _ => rfl⟩
theorem Ef105_15 {s0 N b0 v12'' k1 n v13''} : (Lf105_15 s0 N b0 v12'' k1).E (n, v13'') = f105_15 s0 N b0 v12'' k1 n v13'' := rfl
def f105_c15 (s0 : Int) (N : Nat) (k0 : Int → (List Spot) → Option (Int × Bool × (List Spot))) (v13' : Int) (b0 : List Spot) (r13 : Int → Int → (List Spot) → Option (Int × Bool × (List Spot))) (v12'' : Int) : Option (Int × Bool × (List Spot)) :=
 joinK (f105_c17 s0 k0 b0 r13 v12'') fun k1 =>
 f105_15 s0 N b0 v12'' k1 N (v13')
def Lf105_c15 (s0 : Int) (N : Nat) (k0 : Int → (List Spot) → Option (Int × Bool × (List Spot))) (v13' : Int) (b0 : List Spot) (r13 : Int → Int → (List Spot) → Option (Int × Bool × (List Spot))) : Lp (Int) (Nat) (Int × Bool × (List Spot)) := ⟨⟨[0, 1, 4, 12, 13], [0], [], []⟩, fun v12'' => [.rs 0 (List.length b0), .dat (iN s0), .dat (.v (.func (.func 91) #[] #[])), .dat (iN (v12'')), .dat (iN (v13'))], fun _ => [.row 73 3 (List.map Spot.d b0)], fun v12'' => f105_c15 s0 N k0 v13' b0 r13 v12'', fun v12'' m0 => [.rs 0 m0, .dat (iN s0), .dat (.v (.func (.func 91) #[] #[])), .dat (iN (v12'')), .dat (iN (v13'))], fun _ _ => [.row 73 3 (List.map Spot.d b0)], fun _ => List.length b0, fun _ => rfl, fun _ => rfl⟩
theorem Ef105_c15 {s0 N k0 v13' b0 r13 v12''} : (Lf105_c15 s0 N k0 v13' b0 r13).E v12'' = f105_c15 s0 N k0 v13' b0 r13 v12'' := rfl
def f105_13_1b (r13x : Int → Option (Int × Bool × (List Spot))) (s0 : Int) (N : Nat) (v13' : Int) (b0 : List Spot) (k2 : Int → Option (Int × Bool × (List Spot))) (v12'' : Int) : Option (Int × Bool × (List Spot)) :=
 bif decide ((v12'') ≤ (v13')) then ((ix b0 (v12'')).bind fun x34 =>
 (ix b0 s0).bind fun x35 =>
 (f91 N x34 x35).bind fun x36 =>
 bif decide (x36 < (0 : Int)) then (r13x (W ((v12'') + (1 : Int))))
 else (k2 (v12'')))
 else (k2 (v12''))
def f105_13_1 (s0 : Int) (N : Nat) (v13' : Int) (b0 : List Spot) (k2 : Int → Option (Int × Bool × (List Spot))) : Nat → Int → Option (Int × Bool × (List Spot))
  | 0, _ => none
  | n + 1, v12'' => f105_13_1b (f105_13_1 s0 N v13' b0 k2 n) s0 N v13' b0 k2 v12''
def Lf105_13_1 (s0 : Int) (N : Nat) (v13' : Int) (b0 : List Spot) (k2 : Int → Option (Int × Bool × (List Spot))) : Lp (Nat × Int) (Nat) (Int × Bool × (List Spot)) := ⟨⟨[0, 1, 4, 12, 13], [0], [], []⟩, fun (_, v12'') => [.rs 0 (List.length b0), .dat (iN s0), .dat (.v (.func (.func 91) #[] #[])), .dat (iN (v12'')), .dat (iN (v13'))], fun (_, _) => [.row 73 3 (List.map Spot.d b0)], fun (n, v12'') => f105_13_1 s0 N v13' b0 k2 n v12'', fun (_, v12'') m0 => [.rs 0 m0, .dat (iN s0), .dat (.v (.func (.func 91) #[] #[])), .dat (iN (v12'')), .dat (iN (v13'))], fun (_, _) _ => [.row 73 3 (List.map Spot.d b0)], fun (_, _) => List.length b0, fun _ => rfl, fun _ => rfl⟩
theorem Ef105_13_1 {s0 N v13' b0 k2 n v12''} : (Lf105_13_1 s0 N v13' b0 k2).E (n, v12'') = f105_13_1 s0 N v13' b0 k2 n v12'' := rfl
def f105_13b (r13 : Int → Int → (List Spot) → Option (Int × Bool × (List Spot))) (s0 : Int) (N : Nat) (k0 : Int → (List Spot) → Option (Int × Bool × (List Spot))) (v12' : Int) (v13' : Int) (b0 : List Spot) : Option (Int × Bool × (List Spot)) :=
 joinK (f105_c15 s0 N k0 v13' b0 r13) fun k2 =>
 f105_13_1 s0 N v13' b0 k2 N (v12')
def f105_13 (s0 : Int) (N : Nat) (k0 : Int → (List Spot) → Option (Int × Bool × (List Spot))) : Nat → Int → Int → (List Spot) → Option (Int × Bool × (List Spot))
  | 0, _, _, _ => none
  | n + 1, v12', v13', b0 => f105_13b (f105_13 s0 N k0 n) s0 N k0 v12' v13' b0
def Lf105_13 (s0 : Int) (N : Nat) (k0 : Int → (List Spot) → Option (Int × Bool × (List Spot))) : Lp (Nat × Int × Int × (List Spot)) (Nat) (Int × Bool × (List Spot)) := ⟨⟨[0, 1, 4, 12, 13], [0], [], []⟩, fun (_, v12', v13', b0) => [.rs 0 (List.length b0), .dat (iN s0), .dat (.v (.func (.func 91) #[] #[])), .dat (iN (v12')), .dat (iN (v13'))], fun (_, _, _, b0) => [.row 73 3 (List.map Spot.d b0)], fun (n, v12', v13', b0) => f105_13 s0 N k0 n v12' v13' b0, fun (_, v12', v13', _) m0 => [.rs 0 m0, .dat (iN s0), .dat (.v (.func (.func 91) #[] #[])), .dat (iN (v12')), .dat (iN (v13'))], fun (_, _, _, b0) _ => [.row 73 3 (List.map Spot.d b0)], fun (_, _, _, b0) => List.length b0, fun _ => rfl, fun _ => rfl⟩
theorem Ef105_13 {s0 N k0 n v12' v13' b0} : (Lf105_13 s0 N k0).E (n, v12', v13', b0) = f105_13 s0 N k0 n v12' v13' b0 := rfl
def f105_c7 (s0 : Int) (N : Nat) (x6 : List Spot) (v12 : Int) (v13 : Int) : Option (Int × Bool × (List Spot)) :=
 bif decide (v13 < v12) then ((ix x6 s0).bind fun x7 =>
 (ix x6 v13).bind fun x8 =>
 (ix x6 v13).bind fun x9 =>
 (setx x6 v13 x7).bind fun x10 =>
 (ix x10 s0).bind fun x11 =>
 (setx x10 s0 x8).bind fun x12 =>
 some (v13, true, x12))
 else ((ix x6 v13).bind fun x13 =>
 (ix x6 v12).bind fun x14 =>
 (ix x6 v12).bind fun x15 =>
 (setx x6 v12 x13).bind fun x16 =>
 (ix x16 v13).bind fun x17 =>
 (setx x16 v13 x14).bind fun x18 =>
 joinK (f105_c21 s0) fun k0 =>
 f105_13 s0 N k0 N (W (v12 + (1 : Int))) (W (v13 - (1 : Int))) x18)
def Lf105_c7 (s0 : Int) (N : Nat) (x6 : List Spot) (v12 : Int) : Lp (Int) (Nat) (Int × Bool × (List Spot)) := ⟨⟨[0, 1, 4, 12, 13], [0], [], []⟩, fun v13 => [.rs 0 (List.length x6), .dat (iN s0), .dat (.v (.func (.func 91) #[] #[])), .dat (iN v12), .dat (iN v13)], fun _ => [.row 73 3 (List.map Spot.d x6)], fun v13 => f105_c7 s0 N x6 v12 v13, fun v13 m0 => [.rs 0 m0, .dat (iN s0), .dat (.v (.func (.func 91) #[] #[])), .dat (iN v12), .dat (iN v13)], fun _ _ => [.row 73 3 (List.map Spot.d x6)], fun _ => List.length x6, fun _ => rfl, fun _ => rfl⟩
theorem Ef105_c7 {s0 N x6 v12 v13} : (Lf105_c7 s0 N x6 v12).E v13 = f105_c7 s0 N x6 v12 v13 := rfl
def f105_5b (r5 : Int → Option (Int × Bool × (List Spot))) (s0 : Int) (N : Nat) (x6 : List Spot) (v12 : Int) (k3 : Int → Option (Int × Bool × (List Spot))) (v13 : Int) : Option (Int × Bool × (List Spot)) :=
 bif decide (v12 ≤ v13) then ((ix x6 v13).bind fun x37 =>
 (ix x6 s0).bind fun x38 =>
 (f91 N x37 x38).bind fun x39 =>
 bif !(decide (x39 < (0 : Int))) then (r5 (W (v13 - (1 : Int))))
 else (k3 v13))
 else (k3 v13)
def f105_5 (s0 : Int) (N : Nat) (x6 : List Spot) (v12 : Int) (k3 : Int → Option (Int × Bool × (List Spot))) : Nat → Int → Option (Int × Bool × (List Spot))
  | 0, _ => none
  | n + 1, v13 => f105_5b (f105_5 s0 N x6 v12 k3 n) s0 N x6 v12 k3 v13
def Lf105_5 (s0 : Int) (N : Nat) (x6 : List Spot) (v12 : Int) (k3 : Int → Option (Int × Bool × (List Spot))) : Lp (Nat × Int) (Nat) (Int × Bool × (List Spot)) := ⟨⟨[0, 1, 4, 12, 13], [0], [], []⟩, fun (_, v13) => [.rs 0 (List.length x6), .dat (iN s0), .dat (.v (.func (.func 91) #[] #[])), .dat (iN v12), .dat (iN v13)], fun (_, _) => [.row 73 3 (List.map Spot.d x6)], fun (n, v13) => f105_5 s0 N x6 v12 k3 n v13, fun (_, v13) m0 => [.rs 0 m0, .dat (iN s0), .dat (.v (.func (.func 91) #[] #[])), .dat (iN v12), .dat (iN v13)], fun (_, _) _ => [.row 73 3 (List.map Spot.d x6)], fun (_, _) => List.length x6, fun _ => rfl, fun _ => rfl⟩
theorem Ef105_5 {s0 N x6 v12 k3 n v13} : (Lf105_5 s0 N x6 v12 k3).E (n, v13) = f105_5 s0 N x6 v12 k3 n v13 := rfl
def f105_c5 (s0 : Int) (s1 : Int) (N : Nat) (x6 : List Spot) (v12 : Int) : Option (Int × Bool × (List Spot)) :=
 joinK (f105_c7 s0 N x6 v12) fun k3 =>
 f105_5 s0 N x6 v12 k3 N (W (s1 - (1 : Int)))
def Lf105_c5 (s0 : Int) (s1 : Int) (N : Nat) (x6 : List Spot) : Lp (Int) (Nat) (Int × Bool × (List Spot)) := ⟨⟨[0, 1, 4, 12, 13], [0], [], []⟩, fun v12 => [.rs 0 (List.length x6), .dat (iN s0), .dat (.v (.func (.func 91) #[] #[])), .dat (iN v12), .dat (iN (W (s1 - (1 : Int))))], fun _ => [.row 73 3 (List.map Spot.d x6)], fun v12 => f105_c5 s0 s1 N x6 v12, fun v12 m0 => [.rs 0 m0, .dat (iN s0), .dat (.v (.func (.func 91) #[] #[])), .dat (iN v12), .dat (iN (W (s1 - (1 : Int))))], fun _ _ => [.row 73 3 (List.map Spot.d x6)], fun _ => List.length x6, fun _ => rfl, fun _ => rfl⟩
theorem Ef105_c5 {s0 s1 N x6 v12} : (Lf105_c5 s0 s1 N x6).E v12 = f105_c5 s0 s1 N x6 v12 := rfl
def f105_3b (r3 : Int → Option (Int × Bool × (List Spot))) (s0 : Int) (s1 : Int) (N : Nat) (x6 : List Spot) (k4 : Int → Option (Int × Bool × (List Spot))) (v12 : Int) : Option (Int × Bool × (List Spot)) :=
 bif decide (v12 ≤ (W (s1 - (1 : Int)))) then ((ix x6 v12).bind fun x40 =>
 (ix x6 s0).bind fun x41 =>
 (f91 N x40 x41).bind fun x42 =>
 bif decide (x42 < (0 : Int)) then (r3 (W (v12 + (1 : Int))))
 else (k4 v12))
 else (k4 v12)
def f105_3 (s0 : Int) (s1 : Int) (N : Nat) (x6 : List Spot) (k4 : Int → Option (Int × Bool × (List Spot))) : Nat → Int → Option (Int × Bool × (List Spot))
  | 0, _ => none
  | n + 1, v12 => f105_3b (f105_3 s0 s1 N x6 k4 n) s0 s1 N x6 k4 v12
def Lf105_3 (s0 : Int) (s1 : Int) (N : Nat) (x6 : List Spot) (k4 : Int → Option (Int × Bool × (List Spot))) : Lp (Nat × Int) (Nat) (Int × Bool × (List Spot)) := ⟨⟨[0, 1, 4, 12, 13], [0], [], []⟩, fun (_, v12) => [.rs 0 (List.length x6), .dat (iN s0), .dat (.v (.func (.func 91) #[] #[])), .dat (iN v12), .dat (iN (W (s1 - (1 : Int))))], fun (_, _) => [.row 73 3 (List.map Spot.d x6)], fun (n, v12) => f105_3 s0 s1 N x6 k4 n v12, fun (_, v12) m0 => [.rs 0 m0, .dat (iN s0), .dat (.v (.func (.func 91) #[] #[])), .dat (iN v12), .dat (iN (W (s1 - (1 : Int))))], fun (_, _) _ => [.row 73 3 (List.map Spot.d x6)], fun (_, _) => List.length x6, fun _ => rfl, fun _ => rfl⟩
theorem Ef105_3 {s0 s1 N x6 k4 n v12} : (Lf105_3 s0 s1 N x6 k4).E (n, v12) = f105_3 s0 s1 N x6 k4 n v12 := rfl
def f105b (self : Int → Int → Int → (List Spot) → Option (Int × Bool × (List Spot))) (N : Nat) (s0 : Int) (s1 : Int) (s2 : Int) (s3 : List Spot) : Option (Int × Bool × (List Spot)) :=
 (ix s3 s2).bind fun x1 =>
 (ix s3 s0).bind fun x2 =>
 (ix s3 s0).bind fun x3 =>
 (setx s3 s0 x1).bind fun x4 =>
 (ix x4 s2).bind fun x5 =>
 (setx x4 s2 x2).bind fun x6 =>
 joinK (f105_c5 s0 s1 N x6) fun k4 =>
 f105_3 s0 s1 N x6 k4 N (W (s0 + (1 : Int)))
def f105 : Nat → Int → Int → Int → (List Spot) → Option (Int × Bool × (List Spot))
  | 0, _, _, _, _ => none
  | N + 1, s0, s1, s2, s3 => f105b (f105 N) N s0 s1 s2 s3
def Af105 (s0 : Int) (s1 : Int) (s2 : Int) (s3 : List Spot) : List SV := [.rs 0 (List.length s3), .dat (iN s0), .dat (iN s1), .dat (iN s2), .dat (.v (.func (.func 91) #[] #[]))]
def Bf105 (s0 : Int) (s1 : Int) (s2 : Int) (s3 : List Spot) : List Blk := [.row 73 3 (List.map Spot.d s3)]
def Rf105 (y : Int × Bool × (List Spot)) : List SV := [.dat (iN y.1), .kb y.2.1]
def B1f105 (s0 : Int) (s1 : Int) (s2 : Int) (s3 : List Spot) (y : Int × Bool × (List Spot)) : List Blk := [.row 73 3 (List.map Spot.d y.2.2)]
def BZf105 (y : Int × Bool × (List Spot)) : Blk := .unborn
def Spf105 : Spec (Int × Int × Int × (List Spot)) (Int × Bool × (List Spot)) := ⟨1, fun x => Af105 x.1 x.2.1 x.2.2.1 x.2.2.2, fun x => Bf105 x.1 x.2.1 x.2.2.1 x.2.2.2, fun _ y => Rf105 y, fun x y => B1f105 x.1 x.2.1 x.2.2.1 x.2.2.2 y, fun _ y => BZf105 y⟩
def H105 (N : Nat) (x : Int × Int × Int × (List Spot)) (y : Int × Bool × (List Spot)) : Prop := f105 N x.1 x.2.1 x.2.2.1 x.2.2.2 = some y
def G105 (x : Int × Int × Int × (List Spot)) (y : Int × Bool × (List Spot)) : Prop := ∃ N, H105 N x y
theorem H105.step {N : Nat} {s0 : Int} {s1 : Int} {s2 : Int} {s3 : List Spot} {m0 : Nat} {ρ : Type} {A : (Int × Bool × (List Spot)) → Option ρ} {q : ρ} {xs : List SV} {id : Nat} {m : Nat → Blk} {l : List Loc} {K : Dl → List Loc → Prop} {k0 : Nat} (ha : xs = [.rs k0 m0, .dat (iN s0), .dat (iN s1), .dat (iN s2), .dat (.v (.func (.func 91) #[] #[]))]) (b0 : m k0 = .row 73 3 (List.map Spot.d s3)) (em0 : m0 = List.length s3) (hu : m id = .unborn) (hn : nodupB [k0] = true) (h : ∀ y, A y = some q → K ⟨.tup [.dat (iN y.1), .kb y.2.1], [(k0, .row 73 3 (List.map Spot.d y.2.2)), (id, .unborn)]⟩ l) (hF : (f105 N s0 s1 s2 s3).bind A = some q) : effPg Spf105 (H105 N) xs id (fun _ => SV.no) m l K := by
  subst em0; obtain ⟨y, hy, hA⟩ := bind_some hF
  exact eff_step [k0] (s0, s1, s2, s3) y _ hy rfl hn ha (by simp only [List.map_cons, List.map_nil, b0]; rfl) hu rfl rfl (h y hA)
theorem G105.step {N : Nat} {s0 : Int} {s1 : Int} {s2 : Int} {s3 : List Spot} {m0 : Nat} {ρ : Type} {A : (Int × Bool × (List Spot)) → Option ρ} {q : ρ} {xs : List SV} {id : Nat} {m : Nat → Blk} {l : List Loc} {K : Dl → List Loc → Prop} {k0 : Nat} (ha : xs = [.rs k0 m0, .dat (iN s0), .dat (iN s1), .dat (iN s2), .dat (.v (.func (.func 91) #[] #[]))]) (b0 : m k0 = .row 73 3 (List.map Spot.d s3)) (em0 : m0 = List.length s3) (hu : m id = .unborn) (hn : nodupB [k0] = true) (h : ∀ y, A y = some q → K ⟨.tup [.dat (iN y.1), .kb y.2.1], [(k0, .row 73 3 (List.map Spot.d y.2.2)), (id, .unborn)]⟩ l) (hF : (f105 N s0 s1 s2 s3).bind A = some q) : effPg Spf105 (G105) xs id (fun _ => SV.no) m l K := by
  subst em0; obtain ⟨y, hy, hA⟩ := bind_some hF
  exact eff_step [k0] (s0, s1, s2, s3) y _ ⟨N, hy⟩ rfl hn ha (by simp only [List.map_cons, List.map_nil, b0]; rfl) hu rfl rfl (h y hA)
def Srf105 : Ann := ⟨[0, 1], [0, 500], [], []⟩
set_option maxRecDepth 20000 in
set_option maxHeartbeats 4000000 in
theorem Q105 (N : Nat) : CallOK Try.prog 105 (effPg Spf105 (H105 N)) := by
  induction N with
  | zero => exact eff_none fun x y h => (by cases (show (none : Option (Int × Bool × (List Spot))) = some y from h))
  | succ N ih =>
    refine eff_of_vc (c := mkCtx tyTree [(105, false, effPg Spf105 (H105 N)), (91, true, lendPg [[0, 0, 0], [0, 0, 0]] G91)]) rfl tyOK (ctx_eff (callable Try.func105 rfl rfl) ih (ctx_lend (callable Try.func91 rfl rfl) P91 (ctx_nil))) 1000 500 Srf105 Try.func105 rfl rfl (by kernel_rfl) rfl rfl rfl rfl rfl (fun _ => rfl) (fun _ => rfl) (fun _ _ => ⟨rfl, rfl⟩) ?_
    rintro ⟨s0, s1, s2, s3⟩ y hF
    have hF : f105b (f105 N) N s0 s1 s2 s3 = some y := hF
    show vc _ _ _ _ ⟨[(0, .rs 0 (List.length s3)), (1, .dat (iN s0)), (2, .dat (iN s1)), (3, .dat (iN s2)), (4, .dat (.v (.func (.func 91) #[] #[])))], [(0, .row 73 3 (List.map Spot.d s3))]⟩ _
    unfold f105b at hF
    repeat' (first
      | ((with_reducible first | refine q0 _ _ ?_ | refine q1 _ _ _ _ ?_ | refine q2 _ _ _ ?_); clear Q q0 q1 q2)
      | ((with_reducible first | refine seq_op ?hx (fun Q q0 q1 q2 => ?_) | refine draw_op ?hx (fun Q q0 q1 q2 => ?_) | refine seq_op0 ?hx (fun Q q0 q1 q2 => ?_) | refine draw_op0 ?hx (fun Q q0 q1 q2 => ?_)); (case hx => exact rfl); conv => whnf)
      | ((with_reducible first | refine seq_off ?hx ?_ | refine seq_off0 ?hx ?_ | refine draw_off ?hx ?_ | refine draw_off0 ?hx ?_ | refine k_blk_out ?hx ?_ | refine vc_condT ?hx ?_); (case hx => exact rfl))
      | ((with_reducible refine draw_id ?_); (first | ((first | refine draw_opK rfl ?hy (fun Q q0 q1 q2 => ?_) | refine draw_opK0 rfl ?hy (fun Q q0 q1 q2 => ?_)); (case hy => first | assumption | exact notT (by assumption) | exact rfl); conv => whnf) | ((first | refine draw_offK rfl ?hy ?_ | refine draw_offK0 rfl ?hy ?_); (case hy => first | assumption | exact notF (by assumption) | exact rfl)) | (revert hF; (with_reducible first | refine draw_opF ?hx ?_ ?_ | refine draw_opF0 ?hx ?_ ?_); (case hx => exact rfl); (intro hc hF Q q0 q1 q2; conv => whnf); rotate_left; (intro hc hF); rotate_right) | (revert hF; (with_reducible first | refine draw_opN ?hx ?_ ?_ | refine draw_opN0 ?hx ?_ ?_); (case hx => exact rfl); (intro hc hF); rotate_left; (intro hc hF Q q0 q1 q2; conv => whnf); rotate_right)))
      | ((with_reducible refine cond_id ?_); (first | ((refine condKT rfl ?hy ?_); (case hy => first | assumption | exact notT (by assumption) | exact rfl)) | ((refine condKF rfl ?hy ?_); (case hy => first | assumption | exact notF (by assumption) | exact rfl)) | (revert hF; (with_reducible refine condF ?hx ?_ ?_); (case hx => exact rfl); all_goals (intro hc hF))))
      | ((with_reducible refine seq_nil ?_); (first | ((with_reducible refine hR _ ?_); clear R hR) | ((with_reducible refine hL _ ?_); clear L hL)))
      | ((with_reducible refine draw_nil ?_); (with_reducible refine hR _ _ ?hx ?_); (case hx => kernel_rfl); (first | clear R hR | clear hR))
      | ((with_reducible first | refine int_step ?_ | refine len_step ?_ | refine idx2 (by assumption) ?_ | refine idx3 (by assumption) ?_); conv => whnf)
      | (with_reducible first | refine vc_block ?_ | refine vc_skip ?_ | refine vc_ret ?_ | refine vc_exit ?_ | refine vc_region (fun R hR => ?_) | refine k_seq_ret ?_ | refine k_seq_exit ?_ | refine k_blk ?_ | refine k_blk_ret ?_ | refine k_blk_here ?_ | refine k_loop_ret ?_ | refine k_loop_exit ?_)
      | ((with_reducible refine vc_seqN [1000021, 1000017, 1000015, 1000007, 1000005] ?hx ?_); (case hx => exact rfl))
      | ((with_reducible refine vc_draw ?hx (fun R hR => ?_)); (case hx => exact rfl))
      | (revert hF; (refine Lp.cut1 Lf105_c21 f105_c21 1000021 rfl rfl ?_ ?_); (intro hF); rotate_left; (rintro ⟨v13', b0⟩ hF; dsimp only [Lf105_c21] at hF; unfold f105_c21 at hF); rotate_right)
      | exact Lp.head Ef105_c21 hF _ ⟨_, rfl, rfl, rfl, rfl⟩ (by first | exact rfl | ((try dsimp only [Lf105_c21]); first | assumption | omega | (simp only [List.length_set]; done)))
      | (revert hF; (refine Lp.cut5 Lf105_c17 f105_c17 1000017 rfl rfl ?_ ?_); (intro hF); rotate_left; (rintro v13'' hF; dsimp only [Lf105_c17] at hF; unfold f105_c17 at hF); rotate_right)
      | exact Lp.head Ef105_c17 hF _ ⟨_, rfl, rfl, rfl, rfl⟩ (by first | exact rfl | ((try dsimp only [Lf105_c17]); first | assumption | omega | (simp only [List.length_set]; done)))
      | (revert hF; (refine Lp.loop Ef105_15 _ rfl ⟨_, rfl, rfl, rfl, rfl⟩ (by first | exact rfl | ((try dsimp only [Lf105_15]); first | assumption | omega | (simp only [List.length_set]; done))) (fun _ => rfl) ?_); rintro n v13'' hF; dsimp only [Lf105_15, f105_15] at hF; unfold f105_15b at hF)
      | exact Lp.back Ef105_15 hF _ ⟨_, rfl, rfl, rfl, rfl⟩ (by first | exact rfl | ((try dsimp only [Lf105_15]); first | assumption | omega | (simp only [List.length_set]; done)))
      | (revert hF; (refine Lp.cut6 Lf105_c15 f105_c15 1000015 rfl rfl ?_ ?_); (intro hF); rotate_left; (rintro v12'' hF; dsimp only [Lf105_c15] at hF; unfold f105_c15 at hF); rotate_right)
      | exact Lp.head Ef105_c15 hF _ ⟨_, rfl, rfl, rfl, rfl⟩ (by first | exact rfl | ((try dsimp only [Lf105_c15]); first | assumption | omega | (simp only [List.length_set]; done)))
      | (revert hF; (refine Lp.loop Ef105_13_1 _ rfl ⟨_, rfl, rfl, rfl, rfl⟩ (by first | exact rfl | ((try dsimp only [Lf105_13_1]); first | assumption | omega | (simp only [List.length_set]; done))) (fun _ => rfl) ?_); rintro n v12'' hF; dsimp only [Lf105_13_1, f105_13_1] at hF; unfold f105_13_1b at hF)
      | exact Lp.back Ef105_13_1 hF _ ⟨_, rfl, rfl, rfl, rfl⟩ (by first | exact rfl | ((try dsimp only [Lf105_13_1]); first | assumption | omega | (simp only [List.length_set]; done)))
      | (revert hF; (refine Lp.loop Ef105_13 _ rfl ⟨_, rfl, rfl, rfl, rfl⟩ (by first | exact rfl | ((try dsimp only [Lf105_13]); first | assumption | omega | (simp only [List.length_set]; done))) (fun _ => rfl) ?_); rintro n ⟨v12', v13', b0⟩ hF; dsimp only [Lf105_13, f105_13] at hF; unfold f105_13b at hF)
      | exact Lp.back Ef105_13 hF _ ⟨_, rfl, rfl, rfl, rfl⟩ (by first | exact rfl | ((try dsimp only [Lf105_13]); first | assumption | omega | (simp only [List.length_set]; done)))
      | (revert hF; (refine Lp.cut4 Lf105_c7 f105_c7 1000007 rfl rfl ?_ ?_); (intro hF); rotate_left; (rintro v13 hF; dsimp only [Lf105_c7] at hF; unfold f105_c7 at hF); rotate_right)
      | exact Lp.head Ef105_c7 hF _ ⟨_, rfl, rfl, rfl, rfl⟩ (by first | exact rfl | ((try dsimp only [Lf105_c7]); first | assumption | omega | (simp only [List.length_set]; done)))
      | (revert hF; (refine Lp.loop Ef105_5 _ rfl ⟨_, rfl, rfl, rfl, rfl⟩ (by first | exact rfl | ((try dsimp only [Lf105_5]); first | assumption | omega | (simp only [List.length_set]; done))) (fun _ => rfl) ?_); rintro n v13 hF; dsimp only [Lf105_5, f105_5] at hF; unfold f105_5b at hF)
      | exact Lp.back Ef105_5 hF _ ⟨_, rfl, rfl, rfl, rfl⟩ (by first | exact rfl | ((try dsimp only [Lf105_5]); first | assumption | omega | (simp only [List.length_set]; done)))
      | (revert hF; (refine Lp.cut4 Lf105_c5 f105_c5 1000005 rfl rfl ?_ ?_); (intro hF); rotate_left; (rintro v12 hF; dsimp only [Lf105_c5] at hF; unfold f105_c5 at hF); rotate_right)
      | exact Lp.head Ef105_c5 hF _ ⟨_, rfl, rfl, rfl, rfl⟩ (by first | exact rfl | ((try dsimp only [Lf105_c5]); first | assumption | omega | (simp only [List.length_set]; done)))
      | (revert hF; (refine Lp.loop Ef105_3 _ rfl ⟨_, rfl, rfl, rfl, rfl⟩ (by first | exact rfl | ((try dsimp only [Lf105_3]); first | assumption | omega | (simp only [List.length_set]; done))) (fun _ => rfl) ?_); rintro n v12 hF; dsimp only [Lf105_3, f105_3] at hF; unfold f105_3b at hF)
      | exact Lp.back Ef105_3 hF _ ⟨_, rfl, rfl, rfl, rfl⟩ (by first | exact rfl | ((try dsimp only [Lf105_3]); first | assumption | omega | (simp only [List.length_set]; done)))
      | (revert hF; (with_reducible refine G91.lend ?hx ?_); (case hx => exact rfl); intro v hF; conv => whnf)
      | (revert hF; (refine H105.step rfl rfl (by first | exact rfl | assumption | omega | (simp only [List.length_set]; done)) rfl ?hn ?_); (case hn => exact rfl); intro v hF; conv => whnf)
      | (show retE _ _ _ _ _ _; conv => whnf)
      | (cases hF; exact ⟨rfl, rfl, rfl⟩)
      | (revert hF; (with_reducible refine idx1 ?hn ?_); (case hn => first | exact rfl | exact (List.length_map _) | assumption | omega | simp); intro x hx hF; conv => whnf)
      | ((refine row_all ?hn ?_); (case hn => first | exact rfl | (simp; done) | (simp; omega)); conv => whnf)
      | ((with_reducible refine le_step ?hn ?_); (case hn => first | exact rfl | assumption | omega); conv => whnf)
      | ((with_reducible have hG := setx_fact hF); clear hF; (refine setx_step hG ?hs (fun q hl hF => ?_)); (case hs => exact rfl); clear hG; conv => whnf)
      | ((refine ⟨?hx, ?_⟩); (case hx => exact ⟨rfl, Nat.le_of_ble_eq_true rfl, rfl⟩); conv => whnf)
      | ((with_reducible refine ex_step ?_); conv => whnf)
      | ((with_reducible refine both_T ?hx ?_); (case hx => first | exact rfl | assumption | exact notT (by assumption)); conv => whnf)
      | ((with_reducible refine both_F ?hx ?_); (case hx => first | exact rfl | assumption | exact notF (by assumption)); conv => whnf)
      | (revert hF; (with_reducible refine ite_step ?_ ?_) <;> (intro hc hF; conv => whnf))
      | ((with_reducible refine vc_condF ?hx ?_); (case hx => exact rfl))
      | (show retD _ _ _ _ _ _; conv => whnf)
      | ((refine ⟨?hx, trivial⟩); (case hx => (cases hF; exact rfl)))
      | ((refine ⟨?hx, ?_⟩); (case hx => decide); conv => whnf)
      | with_reducible refine k_seq ?_
      | (have hF : (none : Option _) = some _ := hF; cases hF))
theorem P105 : CallOK Try.prog 105 (effPg Spf105 G105) := eff_ex Q105
end
end Go.Vc
namespace Go.Vc
open Go.Proofs
set_option linter.unusedVariables false
set_option linter.unnecessarySimpa false
set_option linter.unusedSimpArgs false
section
variable {c : Ctx} {p nid : Nat} {a b : Code} {st : St} {K : Ex → St → Prop}
/- f95: slices.pdqsortCmpFunc[tusche/serial.Spot] -/
def f95_c20 (N : Nat) (self : Int → Int → Int → (List Spot) → Option ((List Spot))) (v1 : Int) (v2 : Int) (r2 : Int → Int → Int → Bool → Bool → (List Spot) → Option ((List Spot))) (v3' : Int) (v13 : Int) (b0''' : List Spot) : Option ((List Spot)) :=
 (f105 N v1 v2 v13 (b0''')).bind fun x6 =>
 (keepL (b0''') x6.2.2).bind fun x7 =>
 bif decide ((W (x6.1 - v1)) < (W (v2 - x6.1))) then ((self v1 x6.1 (v3') x7).bind fun x8 =>
 (keepL x7 x8).bind fun x9 =>
 r2 (W (x6.1 + (1 : Int))) v2 (v3') (decide ((W (Int.tdiv (W (v2 - v1)) (8 : Int))) ≤ (W (x6.1 - v1)))) x6.2.1 x9)
 else ((self (W (x6.1 + (1 : Int))) v2 (v3') x7).bind fun x10 =>
 (keepL x7 x10).bind fun x11 =>
 r2 v1 x6.1 (v3') (decide ((W (Int.tdiv (W (v2 - v1)) (8 : Int))) ≤ (W (v2 - x6.1)))) x6.2.1 x11)
def Lf95_c20 (N : Nat) (self : Int → Int → Int → (List Spot) → Option ((List Spot))) (v1 : Int) (v2 : Int) (r2 : Int → Int → Int → Bool → Bool → (List Spot) → Option ((List Spot))) (v3' : Int) (v13 : Int) (b0''' : List Spot) : Lp (Unit) (Nat) ((List Spot)) := ⟨⟨[0, 1, 2, 3, 4, 12, 13], [0], [], []⟩, fun _ => [.rs 0 (List.length (b0''')), .dat (iN v1), .dat (iN v2), .dat (iN (v3')), .dat (.v (.func (.func 91) #[] #[])), .dat (iN (W (v2 - v1))), .dat (iN v13)], fun _ => [.row 73 3 (List.map Spot.d (b0'''))], fun _ => f95_c20 N self v1 v2 r2 v3' v13 b0''', fun _ m0 => [.rs 0 m0, .dat (iN v1), .dat (iN v2), .dat (iN (v3')), .dat (.v (.func (.func 91) #[] #[])), .dat (iN (W (v2 - v1))), .dat (iN v13)], fun _ _ => [.row 73 3 (List.map Spot.d (b0'''))], fun _ => List.length (b0'''), fun _ => rfl, fun _ => rfl⟩
theorem Ef95_c20 {N self v1 v2 r2 v3' v13 b0'''} : (Lf95_c20 N self v1 v2 r2 v3' v13 b0''').E () = f95_c20 N self v1 v2 r2 v3' v13 b0''' := rfl
def f95_c17 (N : Nat) (self : Int → Int → Int → (List Spot) → Option ((List Spot))) (v1 : Int) (v2 : Int) (v10 : Bool) (v11 : Bool) (r2 : Int → Int → Int → Bool → Bool → (List Spot) → Option ((List Spot))) (v3' : Int) (v13 : Int) (b0''' : List Spot) : Option ((List Spot)) :=
 joinK (f95_c20 N self v1 v2 r2 v3' v13 b0''') fun k0 =>
 bif decide ((0 : Int) < v1) then ((ix (b0''') (W (v1 - (1 : Int)))).bind fun x12 =>
 (ix (b0''') v13).bind fun x13 =>
 (f91 N x12 x13).bind fun x14 =>
 bif !(decide (x14 < (0 : Int))) then ((f104 N v1 v2 v13 (b0''')).bind fun x15 =>
 (keepL (b0''') x15.2).bind fun x16 =>
 r2 x15.1 v2 (v3') v10 v11 x16)
 else k0)
 else k0
def Lf95_c17 (N : Nat) (self : Int → Int → Int → (List Spot) → Option ((List Spot))) (v1 : Int) (v2 : Int) (v10 : Bool) (v11 : Bool) (r2 : Int → Int → Int → Bool → Bool → (List Spot) → Option ((List Spot))) (v3' : Int) (v13 : Int) : Lp ((List Spot)) (Nat) ((List Spot)) := ⟨⟨[0, 1, 2, 3, 4, 10, 11, 12, 13], [0], [], []⟩, fun b0''' => [.rs 0 (List.length (b0''')), .dat (iN v1), .dat (iN v2), .dat (iN (v3')), .dat (.v (.func (.func 91) #[] #[])), .kb v10, .kb v11, .dat (iN (W (v2 - v1))), .dat (iN v13)], fun b0''' => [.row 73 3 (List.map Spot.d (b0'''))], fun b0''' => f95_c17 N self v1 v2 v10 v11 r2 v3' v13 b0''', fun _ m0 => [.rs 0 m0, .dat (iN v1), .dat (iN v2), .dat (iN (v3')), .dat (.v (.func (.func 91) #[] #[])), .kb v10, .kb v11, .dat (iN (W (v2 - v1))), .dat (iN v13)], fun b0''' _ => [.row 73 3 (List.map Spot.d (b0'''))], fun b0''' => List.length (b0'''), fun _ => rfl, fun _ => rfl⟩
theorem Ef95_c17 {N self v1 v2 v10 v11 r2 v3' v13 b0'''} : (Lf95_c17 N self v1 v2 v10 v11 r2 v3' v13).E b0''' = f95_c17 N self v1 v2 v10 v11 r2 v3' v13 b0''' := rfl
def f95_c15 (N : Nat) (self : Int → Int → Int → (List Spot) → Option ((List Spot))) (v1 : Int) (v2 : Int) (v10 : Bool) (v11 : Bool) (r2 : Int → Int → Int → Bool → Bool → (List Spot) → Option ((List Spot))) (v3' : Int) (v13 : Int) (v14 : Int) (b0'' : List Spot) : Option ((List Spot)) :=
 joinK (f95_c17 N self v1 v2 v10 v11 r2 v3' v13) fun k1 =>
 bif v10 then (bif v11 then (bif decide (v14 = (1 : Int)) then ((f103 N v1 v2 (b0'')).bind fun x17 =>
 (keepL (b0'') x17.2).bind fun x18 =>
 bif x17.1 then (some (x18))
 else (k1 x18))
 else (k1 (b0'')))
 else (k1 (b0'')))
 else (k1 (b0''))
def Lf95_c15 (N : Nat) (self : Int → Int → Int → (List Spot) → Option ((List Spot))) (v1 : Int) (v2 : Int) (v10 : Bool) (v11 : Bool) (r2 : Int → Int → Int → Bool → Bool → (List Spot) → Option ((List Spot))) (v3' : Int) : Lp (Int × Int × (List Spot)) (Nat) ((List Spot)) := ⟨⟨[0, 1, 2, 3, 4, 10, 11, 12, 13, 14], [0], [], []⟩, fun (v13, v14, b0'') => [.rs 0 (List.length (b0'')), .dat (iN v1), .dat (iN v2), .dat (iN (v3')), .dat (.v (.func (.func 91) #[] #[])), .kb v10, .kb v11, .dat (iN (W (v2 - v1))), .dat (iN v13), .dat (iN v14)], fun (_, _, b0'') => [.row 73 3 (List.map Spot.d (b0''))], fun (v13, v14, b0'') => f95_c15 N self v1 v2 v10 v11 r2 v3' v13 v14 b0'', fun (v13, v14, _) m0 => [.rs 0 m0, .dat (iN v1), .dat (iN v2), .dat (iN (v3')), .dat (.v (.func (.func 91) #[] #[])), .kb v10, .kb v11, .dat (iN (W (v2 - v1))), .dat (iN v13), .dat (iN v14)], fun (_, _, b0'') _ => [.row 73 3 (List.map Spot.d (b0''))], fun (_, _, b0'') => List.length (b0''), fun _ => rfl, fun _ => rfl⟩
theorem Ef95_c15 {N self v1 v2 v10 v11 r2 v3' v13 v14 b0''} : (Lf95_c15 N self v1 v2 v10 v11 r2 v3').E (v13, v14, b0'') = f95_c15 N self v1 v2 v10 v11 r2 v3' v13 v14 b0'' := rfl
def f95_c10 (N : Nat) (self : Int → Int → Int → (List Spot) → Option ((List Spot))) (v1 : Int) (v2 : Int) (v10 : Bool) (v11 : Bool) (r2 : Int → Int → Int → Bool → Bool → (List Spot) → Option ((List Spot))) (v3' : Int) (b0' : List Spot) : Option ((List Spot)) :=
 (f101 N v1 v2 (b0')).bind fun x5 =>
 joinK (f95_c15 N self v1 v2 v10 v11 r2 v3') fun k2 =>
 bif decide (x5.2 = (2 : Int)) then ((f102 N v1 v2 (b0')).bind fun x19 =>
 (keepL (b0') x19).bind fun x20 =>
 k2 (W ((W (v2 - (1 : Int))) - (W (x5.1 - v1)))) (1 : Int) x20)
 else (k2 x5.1 x5.2 (b0'))
def Lf95_c10 (N : Nat) (self : Int → Int → Int → (List Spot) → Option ((List Spot))) (v1 : Int) (v2 : Int) (v10 : Bool) (v11 : Bool) (r2 : Int → Int → Int → Bool → Bool → (List Spot) → Option ((List Spot))) : Lp (Int × (List Spot)) (Nat) ((List Spot)) := ⟨⟨[0, 1, 2, 3, 4, 10, 11, 12], [0], [], []⟩, fun (v3', b0') => [.rs 0 (List.length (b0')), .dat (iN v1), .dat (iN v2), .dat (iN (v3')), .dat (.v (.func (.func 91) #[] #[])), .kb v10, .kb v11, .dat (iN (W (v2 - v1)))], fun (_, b0') => [.row 73 3 (List.map Spot.d (b0'))], fun (v3', b0') => f95_c10 N self v1 v2 v10 v11 r2 v3' b0', fun (v3', _) m0 => [.rs 0 m0, .dat (iN v1), .dat (iN v2), .dat (iN (v3')), .dat (.v (.func (.func 91) #[] #[])), .kb v10, .kb v11, .dat (iN (W (v2 - v1)))], fun (_, b0') _ => [.row 73 3 (List.map Spot.d (b0'))], fun (_, b0') => List.length (b0'), fun _ => rfl, fun _ => rfl⟩
theorem Ef95_c10 {N self v1 v2 v10 v11 r2 v3' b0'} : (Lf95_c10 N self v1 v2 v10 v11 r2).E (v3', b0') = f95_c10 N self v1 v2 v10 v11 r2 v3' b0' := rfl
def f95_2b (r2 : Int → Int → Int → Bool → Bool → (List Spot) → Option ((List Spot))) (N : Nat) (self : Int → Int → Int → (List Spot) → Option ((List Spot))) (v1 : Int) (v2 : Int) (v3 : Int) (v10 : Bool) (v11 : Bool) (b0 : List Spot) : Option ((List Spot)) :=
 bif decide ((W (v2 - v1)) ≤ (12 : Int)) then ((f98 N v1 v2 b0).bind fun x1 =>
 (keepL b0 x1).bind fun x2 =>
 some (x2))
 else (bif decide (v3 = (0 : Int)) then ((f99 N v1 v2 b0).bind fun x3 =>
 (keepL b0 x3).bind fun x4 =>
 some (x4))
 else (joinK (f95_c10 N self v1 v2 v10 v11 r2) fun k3 =>
 bif !v10 then ((f100 N v1 v2 b0).bind fun x21 =>
 (keepL b0 x21).bind fun x22 =>
 k3 (W (v3 - (1 : Int))) x22)
 else (k3 v3 b0)))
def f95_2 (N : Nat) (self : Int → Int → Int → (List Spot) → Option ((List Spot))) : Nat → Int → Int → Int → Bool → Bool → (List Spot) → Option ((List Spot))
  | 0, _, _, _, _, _, _ => none
  | n + 1, v1, v2, v3, v10, v11, b0 => f95_2b (f95_2 N self n) N self v1 v2 v3 v10 v11 b0
def Lf95_2 (N : Nat) (self : Int → Int → Int → (List Spot) → Option ((List Spot))) : Lp (Nat × Int × Int × Int × Bool × Bool × (List Spot)) (Nat) ((List Spot)) := ⟨⟨[0, 1, 2, 3, 4, 10, 11], [0], [], []⟩, fun (_, v1, v2, v3, v10, v11, b0) => [.rs 0 (List.length b0), .dat (iN v1), .dat (iN v2), .dat (iN v3), .dat (.v (.func (.func 91) #[] #[])), .kb v10, .kb v11], fun (_, _, _, _, _, _, b0) => [.row 73 3 (List.map Spot.d b0)], fun (n, v1, v2, v3, v10, v11, b0) => f95_2 N self n v1 v2 v3 v10 v11 b0, fun (_, v1, v2, v3, v10, v11, _) m0 => [.rs 0 m0, .dat (iN v1), .dat (iN v2), .dat (iN v3), .dat (.v (.func (.func 91) #[] #[])), .kb v10, .kb v11], fun (_, _, _, _, _, _, b0) _ => [.row 73 3 (List.map Spot.d b0)], fun (_, _, _, _, _, _, b0) => List.length b0, fun _ => rfl, fun _ => rfl⟩
theorem Ef95_2 {N self n v1 v2 v3 v10 v11 b0} : (Lf95_2 N self).E (n, v1, v2, v3, v10, v11, b0) = f95_2 N self n v1 v2 v3 v10 v11 b0 := rfl
def f95b (self : Int → Int → Int → (List Spot) → Option ((List Spot))) (N : Nat) (s0 : Int) (s1 : Int) (s2 : Int) (s3 : List Spot) : Option ((List Spot)) :=
 f95_2 N self N s0 s1 s2 true true s3
def f95 : Nat → Int → Int → Int → (List Spot) → Option ((List Spot))
  | 0, _, _, _, _ => none
  | N + 1, s0, s1, s2, s3 => f95b (f95 N) N s0 s1 s2 s3
def Af95 (s0 : Int) (s1 : Int) (s2 : Int) (s3 : List Spot) : List SV := [.rs 0 (List.length s3), .dat (iN s0), .dat (iN s1), .dat (iN s2), .dat (.v (.func (.func 91) #[] #[]))]
def Bf95 (s0 : Int) (s1 : Int) (s2 : Int) (s3 : List Spot) : List Blk := [.row 73 3 (List.map Spot.d s3)]
def Rf95 (y : (List Spot)) : List SV := []
def B1f95 (s0 : Int) (s1 : Int) (s2 : Int) (s3 : List Spot) (y : (List Spot)) : List Blk := [.row 73 3 (List.map Spot.d y)]
def BZf95 (y : (List Spot)) : Blk := .unborn
def Spf95 : Spec (Int × Int × Int × (List Spot)) ((List Spot)) := ⟨1, fun x => Af95 x.1 x.2.1 x.2.2.1 x.2.2.2, fun x => Bf95 x.1 x.2.1 x.2.2.1 x.2.2.2, fun _ y => Rf95 y, fun x y => B1f95 x.1 x.2.1 x.2.2.1 x.2.2.2 y, fun _ y => BZf95 y⟩
def H95 (N : Nat) (x : Int × Int × Int × (List Spot)) (y : (List Spot)) : Prop := f95 N x.1 x.2.1 x.2.2.1 x.2.2.2 = some y
def G95 (x : Int × Int × Int × (List Spot)) (y : (List Spot)) : Prop := ∃ N, H95 N x y
theorem H95.step {N : Nat} {s0 : Int} {s1 : Int} {s2 : Int} {s3 : List Spot} {m0 : Nat} {ρ : Type} {A : (List Spot) → Option ρ} {q : ρ} {xs : List SV} {id : Nat} {m : Nat → Blk} {l : List Loc} {K : Dl → List Loc → Prop} {k0 : Nat} (ha : xs = [.rs k0 m0, .dat (iN s0), .dat (iN s1), .dat (iN s2), .dat (.v (.func (.func 91) #[] #[]))]) (b0 : m k0 = .row 73 3 (List.map Spot.d s3)) (em0 : m0 = List.length s3) (hu : m id = .unborn) (hn : nodupB [k0] = true) (h : ∀ y, A y = some q → K ⟨.tup [], [(k0, .row 73 3 (List.map Spot.d y)), (id, .unborn)]⟩ l) (hF : (f95 N s0 s1 s2 s3).bind A = some q) : effPg Spf95 (H95 N) xs id (fun _ => SV.no) m l K := by
  subst em0; obtain ⟨y, hy, hA⟩ := bind_some hF
  exact eff_step [k0] (s0, s1, s2, s3) y _ hy rfl hn ha (by simp only [List.map_cons, List.map_nil, b0]; rfl) hu rfl rfl (h y hA)
theorem G95.step {N : Nat} {s0 : Int} {s1 : Int} {s2 : Int} {s3 : List Spot} {m0 : Nat} {ρ : Type} {A : (List Spot) → Option ρ} {q : ρ} {xs : List SV} {id : Nat} {m : Nat → Blk} {l : List Loc} {K : Dl → List Loc → Prop} {k0 : Nat} (ha : xs = [.rs k0 m0, .dat (iN s0), .dat (iN s1), .dat (iN s2), .dat (.v (.func (.func 91) #[] #[]))]) (b0 : m k0 = .row 73 3 (List.map Spot.d s3)) (em0 : m0 = List.length s3) (hu : m id = .unborn) (hn : nodupB [k0] = true) (h : ∀ y, A y = some q → K ⟨.tup [], [(k0, .row 73 3 (List.map Spot.d y)), (id, .unborn)]⟩ l) (hF : (f95 N s0 s1 s2 s3).bind A = some q) : effPg Spf95 (G95) xs id (fun _ => SV.no) m l K := by
  subst em0; obtain ⟨y, hy, hA⟩ := bind_some hF
  exact eff_step [k0] (s0, s1, s2, s3) y _ ⟨N, hy⟩ rfl hn ha (by simp only [List.map_cons, List.map_nil, b0]; rfl) hu rfl rfl (h y hA)
def Srf95 : Ann := ⟨[], [0, 500], [], []⟩
set_option maxRecDepth 20000 in
set_option maxHeartbeats 4000000 in
theorem Q95 (N : Nat) : CallOK Try.prog 95 (effPg Spf95 (H95 N)) := by
  induction N with
  | zero => exact eff_none fun x y h => (by cases (show (none : Option ((List Spot))) = some y from h))
  | succ N ih =>
    refine eff_of_vc (c := mkCtx tyTree [(95, false, effPg Spf95 (H95 N)), (105, false, effPg Spf105 G105), (104, false, effPg Spf104 G104), (103, false, effPg Spf103 G103), (102, false, effPg Spf102 G102), (101, false, effPg Spf101 G101), (100, false, effPg Spf100 G100), (99, false, effPg Spf99 G99), (98, false, effPg Spf98 G98), (91, true, lendPg [[0, 0, 0], [0, 0, 0]] G91)]) rfl tyOK (ctx_eff (callable Try.func95 rfl rfl) ih (ctx_eff (callable Try.func105 rfl rfl) P105 (ctx_eff (callable Try.func104 rfl rfl) P104 (ctx_eff (callable Try.func103 rfl rfl) P103 (ctx_eff (callable Try.func102 rfl rfl) P102 (ctx_eff (callable Try.func101 rfl rfl) P101 (ctx_eff (callable Try.func100 rfl rfl) P100 (ctx_eff (callable Try.func99 rfl rfl) P99 (ctx_eff (callable Try.func98 rfl rfl) P98 (ctx_lend (callable Try.func91 rfl rfl) P91 (ctx_nil))))))))))) 1000 500 Srf95 Try.func95 rfl rfl (by kernel_rfl) rfl rfl rfl rfl rfl (fun _ => rfl) (fun _ => rfl) (fun _ _ => ⟨rfl, rfl⟩) ?_
    rintro ⟨s0, s1, s2, s3⟩ y hF
    have hF : f95b (f95 N) N s0 s1 s2 s3 = some y := hF
    show vc _ _ _ _ ⟨[(0, .rs 0 (List.length s3)), (1, .dat (iN s0)), (2, .dat (iN s1)), (3, .dat (iN s2)), (4, .dat (.v (.func (.func 91) #[] #[])))], [(0, .row 73 3 (List.map Spot.d s3))]⟩ _
    unfold f95b at hF
    repeat' (first
      | ((with_reducible first | refine q0 _ _ ?_ | refine q1 _ _ _ _ ?_ | refine q2 _ _ _ ?_); clear Q q0 q1 q2)
      | ((with_reducible first | refine seq_op ?hx (fun Q q0 q1 q2 => ?_) | refine draw_op ?hx (fun Q q0 q1 q2 => ?_)); (case hx => exact rfl); conv => whnf)
      | ((with_reducible first | refine seq_off ?hx ?_ | refine seq_off0 ?hx ?_ | refine draw_off ?hx ?_ | refine draw_off0 ?hx ?_ | refine k_blk_out ?hx ?_ | refine vc_condT ?hx ?_); (case hx => exact rfl))
      | ((with_reducible refine seq_id ?_); (first | ((first | refine seq_opK rfl ?hy (fun Q q0 q1 q2 => ?_) | refine seq_opK0 rfl ?hy (fun Q q0 q1 q2 => ?_)); (case hy => first | assumption | exact notT (by assumption) | exact rfl); conv => whnf) | ((first | refine seq_offK rfl ?hy ?_ | refine seq_offK0 rfl ?hy ?_); (case hy => first | assumption | exact notF (by assumption) | exact rfl)) | (revert hF; (with_reducible first | refine seq_opF ?hx ?_ ?_ | refine seq_opF0 ?hx ?_ ?_); (case hx => exact rfl); (intro hc hF Q q0 q1 q2; conv => whnf); rotate_left; (intro hc hF); rotate_right) | (revert hF; (with_reducible first | refine seq_opN ?hx ?_ ?_ | refine seq_opN0 ?hx ?_ ?_); (case hx => exact rfl); (intro hc hF); rotate_left; (intro hc hF Q q0 q1 q2; conv => whnf); rotate_right)))
      | ((with_reducible refine draw_id ?_); (first | ((first | refine draw_opK rfl ?hy (fun Q q0 q1 q2 => ?_) | refine draw_opK0 rfl ?hy (fun Q q0 q1 q2 => ?_)); (case hy => first | assumption | exact notT (by assumption) | exact rfl); conv => whnf) | ((first | refine draw_offK rfl ?hy ?_ | refine draw_offK0 rfl ?hy ?_); (case hy => first | assumption | exact notF (by assumption) | exact rfl)) | (revert hF; (with_reducible first | refine draw_opF ?hx ?_ ?_ | refine draw_opF0 ?hx ?_ ?_); (case hx => exact rfl); (intro hc hF Q q0 q1 q2; conv => whnf); rotate_left; (intro hc hF); rotate_right) | (revert hF; (with_reducible first | refine draw_opN ?hx ?_ ?_ | refine draw_opN0 ?hx ?_ ?_); (case hx => exact rfl); (intro hc hF); rotate_left; (intro hc hF Q q0 q1 q2; conv => whnf); rotate_right)))
      | ((with_reducible refine cond_id ?_); (first | ((refine condKT rfl ?hy ?_); (case hy => first | assumption | exact notT (by assumption) | exact rfl)) | ((refine condKF rfl ?hy ?_); (case hy => first | assumption | exact notF (by assumption) | exact rfl)) | (revert hF; (with_reducible refine condF ?hx ?_ ?_); (case hx => exact rfl); all_goals (intro hc hF))))
      | ((with_reducible refine seq_nil ?_); (first | ((with_reducible refine hR _ ?_); clear R hR) | ((with_reducible refine hL _ ?_); clear L hL)))
      | ((with_reducible refine draw_nil ?_); (with_reducible refine hR _ _ ?hx ?_); (case hx => kernel_rfl); (first | clear R hR | clear hR))
      | ((with_reducible first | refine int_step ?_ | refine len_step ?_ | refine idx2 (by assumption) ?_ | refine idx3 (by assumption) ?_); conv => whnf)
      | (with_reducible first | refine vc_block ?_ | refine vc_skip ?_ | refine vc_ret ?_ | refine vc_exit ?_ | refine vc_region (fun R hR => ?_) | refine k_seq_ret ?_ | refine k_seq_exit ?_ | refine k_blk ?_ | refine k_blk_ret ?_ | refine k_blk_here ?_ | refine k_loop_ret ?_ | refine k_loop_exit ?_)
      | ((with_reducible refine vc_seqN [1000020, 1000017, 1000015, 1000010] ?hx ?_); (case hx => exact rfl))
      | ((with_reducible refine vc_draw ?hx (fun R hR => ?_)); (case hx => exact rfl))
      | (revert hF; (refine Lp.cut8 Lf95_c20 f95_c20 1000020 rfl rfl ?_ ?_); (intro hF); rotate_left; (rintro _ hF; dsimp only [Lf95_c20] at hF; unfold f95_c20 at hF); rotate_right)
      | exact Lp.head Ef95_c20 hF _ ⟨_, rfl, rfl, rfl, rfl⟩ (by first | exact rfl | ((try dsimp only [Lf95_c20]); first | assumption | omega | (simp only [List.length_set]; done)))
      | (revert hF; (refine Lp.cut9 Lf95_c17 f95_c17 1000017 rfl rfl ?_ ?_); (intro hF); rotate_left; (rintro b0''' hF; dsimp only [Lf95_c17] at hF; unfold f95_c17 at hF); rotate_right)
      | exact Lp.head Ef95_c17 hF _ ⟨_, rfl, rfl, rfl, rfl⟩ (by first | exact rfl | ((try dsimp only [Lf95_c17]); first | assumption | omega | (simp only [List.length_set]; done)))
      | (revert hF; (refine Lp.cut8 Lf95_c15 f95_c15 1000015 rfl rfl ?_ ?_); (intro hF); rotate_left; (rintro ⟨v13, v14, b0''⟩ hF; dsimp only [Lf95_c15] at hF; unfold f95_c15 at hF); rotate_right)
      | exact Lp.head Ef95_c15 hF _ ⟨_, rfl, rfl, rfl, rfl⟩ (by first | exact rfl | ((try dsimp only [Lf95_c15]); first | assumption | omega | (simp only [List.length_set]; done)))
      | (revert hF; (refine Lp.cut7 Lf95_c10 f95_c10 1000010 rfl rfl ?_ ?_); (intro hF); rotate_left; (rintro ⟨v3', b0'⟩ hF; dsimp only [Lf95_c10] at hF; unfold f95_c10 at hF); rotate_right)
      | exact Lp.head Ef95_c10 hF _ ⟨_, rfl, rfl, rfl, rfl⟩ (by first | exact rfl | ((try dsimp only [Lf95_c10]); first | assumption | omega | (simp only [List.length_set]; done)))
      | (revert hF; (refine Lp.loop Ef95_2 _ rfl ⟨_, rfl, rfl, rfl, rfl⟩ (by first | exact rfl | ((try dsimp only [Lf95_2]); first | assumption | omega | (simp only [List.length_set]; done))) (fun _ => rfl) ?_); rintro n ⟨v1, v2, v3, v10, v11, b0⟩ hF; dsimp only [Lf95_2, f95_2] at hF; unfold f95_2b at hF)
      | exact Lp.back Ef95_2 hF _ ⟨_, rfl, rfl, rfl, rfl⟩ (by first | exact rfl | ((try dsimp only [Lf95_2]); first | assumption | omega | (simp only [List.length_set]; done)))
      | (revert hF; (with_reducible refine G91.lend ?hx ?_); (case hx => exact rfl); intro v hF; conv => whnf)
      | (revert hF; (refine G98.step rfl rfl (by first | exact rfl | assumption | omega | (simp only [List.length_set]; done)) rfl ?hn ?_); (case hn => exact rfl); intro v hF; conv => whnf)
      | (revert hF; (refine G99.step rfl rfl (by first | exact rfl | assumption | omega | (simp only [List.length_set]; done)) rfl ?hn ?_); (case hn => exact rfl); intro v hF; conv => whnf)
      | (revert hF; (refine G100.step rfl rfl (by first | exact rfl | assumption | omega | (simp only [List.length_set]; done)) rfl ?hn ?_); (case hn => exact rfl); intro v hF; conv => whnf)
      | (revert hF; (refine G101.step rfl rfl (by first | exact rfl | assumption | omega | (simp only [List.length_set]; done)) rfl ?hn ?_); (case hn => exact rfl); intro v hF; conv => whnf)
      | (revert hF; (refine G102.step rfl rfl (by first | exact rfl | assumption | omega | (simp only [List.length_set]; done)) rfl ?hn ?_); (case hn => exact rfl); intro v hF; conv => whnf)
      | (revert hF; (refine G103.step rfl rfl (by first | exact rfl | assumption | omega | (simp only [List.length_set]; done)) rfl ?hn ?_); (case hn => exact rfl); intro v hF; conv => whnf)
      | (revert hF; (refine G104.step rfl rfl (by first | exact rfl | assumption | omega | (simp only [List.length_set]; done)) rfl ?hn ?_); (case hn => exact rfl); intro v hF; conv => whnf)
      | (revert hF; (refine G105.step rfl rfl (by first | exact rfl | assumption | omega | (simp only [List.length_set]; done)) rfl ?hn ?_); (case hn => exact rfl); intro v hF; conv => whnf)
      | (revert hF; (refine H95.step rfl rfl (by first | exact rfl | assumption | omega | (simp only [List.length_set]; done)) rfl ?hn ?_); (case hn => exact rfl); intro v hF; conv => whnf)
      | (show retE _ _ _ _ _ _; conv => whnf)
      | (cases hF; exact ⟨rfl, rfl, rfl⟩)
      | ((with_reducible have hG := keep_fact hF); have hk := hG.1; have hF := hG.2; clear hG)
      | (revert hF; (with_reducible refine idx1 ?hn ?_); (case hn => first | exact rfl | exact (List.length_map _) | assumption | omega | simp); intro x hx hF; conv => whnf)
      | ((refine row_all ?hn ?_); (case hn => first | exact rfl | (simp; done) | (simp; omega)); conv => whnf)
      | ((with_reducible refine le_step ?hn ?_); (case hn => first | exact rfl | assumption | omega); conv => whnf)
      | ((refine ⟨?hx, ?_⟩); (case hx => exact ⟨rfl, Nat.le_of_ble_eq_true rfl, rfl⟩); conv => whnf)
      | ((with_reducible refine ex_step ?_); conv => whnf)
      | ((with_reducible refine both_T ?hx ?_); (case hx => first | exact rfl | assumption | exact notT (by assumption)); conv => whnf)
      | ((with_reducible refine both_F ?hx ?_); (case hx => first | exact rfl | assumption | exact notF (by assumption)); conv => whnf)
      | (revert hF; (with_reducible refine ite_step ?_ ?_) <;> (intro hc hF; conv => whnf))
      | ((with_reducible refine vc_condF ?hx ?_); (case hx => exact rfl))
      | (show retD _ _ _ _ _ _; conv => whnf)
      | ((refine ⟨?hx, trivial⟩); (case hx => (cases hF; exact rfl)))
      | ((refine ⟨?hx, ?_⟩); (case hx => decide); conv => whnf)
      | with_reducible refine k_seq ?_
      | (have hF : (none : Option _) = some _ := hF; cases hF))
theorem P95 : CallOK Try.prog 95 (effPg Spf95 G95) := eff_ex Q95
end
end Go.Vc
namespace Go.Vc
open Go.Proofs
set_option linter.unusedVariables false
set_option linter.unnecessarySimpa false
set_option linter.unusedSimpArgs false
section
variable {c : Ctx} {p nid : Nat} {a b : Code} {st : St} {K : Ex → St → Prop}
/- f43: tusche/serial.Blind -/
def f43_i101_c20 (N : Nat) (out7 : List Spot) : Option ((List Spot) × Int) :=
 (f96 N (Wk .u64 ((List.length out7 : Int)))).bind fun x2 =>
 (f95 N (0 : Int) (List.length out7 : Int) x2 out7).bind fun x3 =>
 (keepL out7 x3).bind fun x4 =>
 some (x4, (0 : Int))
def Lf43_i101_c20 (N : Nat) : Lp ((List Spot)) (Nat) ((List Spot) × Int) := ⟨⟨[7], [102090007], [(.slot 7, 102090007, 73, 3)], []⟩, fun out7 => [.rs 102090007 (List.length out7)], fun out7 => [.row 73 3 (List.map Spot.d out7)], fun out7 => f43_i101_c20 N out7, fun _ m0 => [.rs 102090007 m0], fun out7 _ => [.row 73 3 (List.map Spot.d out7)], fun out7 => List.length out7, fun _ => rfl, fun _ => rfl⟩
theorem Ef43_i101_c20 {N out7} : (Lf43_i101_c20 N).E out7 = f43_i101_c20 N out7 := rfl
def f43_i101_c19 (a0 : List (List Int)) (v20 : Int) (r6 : (List Spot) → Int → Option ((List Spot) × Int)) (out7' : List Spot) : Option ((List Spot) × Int) :=
 r6 (out7') (W (v20 + (1 : Int)))
def Lf43_i101_c19 (a0 : List (List Int)) (v20 : Int) (r6 : (List Spot) → Int → Option ((List Spot) × Int)) : Lp ((List Spot)) (Nat) ((List Spot) × Int) := ⟨⟨[0, 1, 7, 19, 20], [102090007], [(.slot 7, 102090007, 73, 3)], []⟩, fun out7' => [.dat (sl_sl_iN a0), .dat (.v (.func (.func 77) #[] #[])), .rs 102090007 (List.length (out7')), .dat (iN (List.length a0 : Int)), .dat (iN v20)], fun out7' => [.row 73 3 (List.map Spot.d (out7'))], fun out7' => f43_i101_c19 a0 v20 r6 out7', fun _ m0 => [.dat (sl_sl_iN a0), .dat (.v (.func (.func 77) #[] #[])), .rs 102090007 m0, .dat (iN (List.length a0 : Int)), .dat (iN v20)], fun out7' _ => [.row 73 3 (List.map Spot.d (out7'))], fun out7' => List.length (out7'), fun _ => rfl, fun _ => rfl⟩
theorem Ef43_i101_c19 {a0 v20 r6 out7'} : (Lf43_i101_c19 a0 v20 r6).E out7' = f43_i101_c19 a0 v20 r6 out7' := rfl
def f43_i101_c18 (a0 : List (List Int)) (v20 : Int) (v25 : Int) (r9 : (List Spot) → Int → Option ((List Spot) × Int)) (out7'' : List Spot) : Option ((List Spot) × Int) :=
 r9 (out7'') (W (v25 + (1 : Int)))
def Lf43_i101_c18 (a0 : List (List Int)) (v20 : Int) (v25 : Int) (r9 : (List Spot) → Int → Option ((List Spot) × Int)) : Lp ((List Spot)) (Nat) ((List Spot) × Int) := ⟨⟨[0, 1, 7, 8, 19, 20, 24, 25], [102090007], [(.slot 7, 102090007, 73, 3)], []⟩, fun out7'' => [.dat (sl_sl_iN a0), .dat (.v (.func (.func 77) #[] #[])), .rs 102090007 (List.length (out7'')), .dat (iN v20), .dat (iN (List.length a0 : Int)), .dat (iN v20), .dat (iN (List.length a0 : Int)), .dat (iN v25)], fun out7'' => [.row 73 3 (List.map Spot.d (out7''))], fun out7'' => f43_i101_c18 a0 v20 v25 r9 out7'', fun _ m0 => [.dat (sl_sl_iN a0), .dat (.v (.func (.func 77) #[] #[])), .rs 102090007 m0, .dat (iN v20), .dat (iN (List.length a0 : Int)), .dat (iN v20), .dat (iN (List.length a0 : Int)), .dat (iN v25)], fun out7'' _ => [.row 73 3 (List.map Spot.d (out7''))], fun out7'' => List.length (out7''), fun _ => rfl, fun _ => rfl⟩
theorem Ef43_i101_c18 {a0 v20 v25 r9 out7''} : (Lf43_i101_c18 a0 v20 v25 r9).E out7'' = f43_i101_c18 a0 v20 v25 r9 out7'' := rfl
def f43_i101_12b (r12 : (List Spot) → Int → Option ((List Spot) × Int)) (a0 : List (List Int)) (N : Nat) (v20 : Int) (v25 : Int) (k2 : (List Spot) → Option ((List Spot) × Int)) (out7'' : List Spot) (v29 : Int) : Option ((List Spot) × Int) :=
 bif decide (v29 < v25) then ((f77 N v29 v25).bind fun x5 =>
 (f59 N a0 v20 x5.1).bind fun x6 =>
 (f59 N a0 v20 x5.2).bind fun x7 =>
 bif decide (x6 = x7) then ((app 24 (out7'') [(Spot.mk v20 v29 v25)]).bind fun x8 =>
 r12 x8 (W (v29 + (1 : Int))))
 else (r12 (out7'') (W (v29 + (1 : Int)))))
 else (k2 (out7''))
def f43_i101_12 (a0 : List (List Int)) (N : Nat) (v20 : Int) (v25 : Int) (k2 : (List Spot) → Option ((List Spot) × Int)) : Nat → (List Spot) → Int → Option ((List Spot) × Int)
  | 0, _, _ => none
  | n + 1, out7'', v29 => f43_i101_12b (f43_i101_12 a0 N v20 v25 k2 n) a0 N v20 v25 k2 out7'' v29
def Lf43_i101_12 (a0 : List (List Int)) (N : Nat) (v20 : Int) (v25 : Int) (k2 : (List Spot) → Option ((List Spot) × Int)) : Lp (Nat × (List Spot) × Int) (Nat) ((List Spot) × Int) := ⟨⟨[0, 1, 7, 8, 9, 19, 20, 24, 25, 28, 29], [102090007], [(.slot 7, 102090007, 73, 3)], []⟩, fun (_, out7'', v29) => [.dat (sl_sl_iN a0), .dat (.v (.func (.func 77) #[] #[])), .rs 102090007 (List.length (out7'')), .dat (iN v20), .dat (iN v25), .dat (iN (List.length a0 : Int)), .dat (iN v20), .dat (iN (List.length a0 : Int)), .dat (iN v25), .dat (iN v25), .dat (iN v29)], fun (_, out7'', _) => [.row 73 3 (List.map Spot.d (out7''))], fun (n, out7'', v29) => f43_i101_12 a0 N v20 v25 k2 n out7'' v29, fun (_, _, v29) m0 => [.dat (sl_sl_iN a0), .dat (.v (.func (.func 77) #[] #[])), .rs 102090007 m0, .dat (iN v20), .dat (iN v25), .dat (iN (List.length a0 : Int)), .dat (iN v20), .dat (iN (List.length a0 : Int)), .dat (iN v25), .dat (iN v25), .dat (iN v29)], fun (_, out7'', _) _ => [.row 73 3 (List.map Spot.d (out7''))], fun (_, out7'', _) => List.length (out7''), fun _ => rfl, fun _ => rfl⟩
theorem Ef43_i101_12 {a0 N v20 v25 k2 n out7'' v29} : (Lf43_i101_12 a0 N v20 v25 k2).E (n, out7'', v29) = f43_i101_12 a0 N v20 v25 k2 n out7'' v29 := rfl
def f43_i101_9b (r9 : (List Spot) → Int → Option ((List Spot) × Int)) (a0 : List (List Int)) (N : Nat) (v20 : Int) (k1 : (List Spot) → Option ((List Spot) × Int)) (out7' : List Spot) (v25 : Int) : Option ((List Spot) × Int) :=
 bif decide (v25 < (List.length a0 : Int)) then (joinK (f43_i101_c18 a0 v20 v25 r9) fun k2 =>
 f43_i101_12 a0 N v20 v25 k2 N (out7') (0 : Int))
 else (k1 (out7'))
def f43_i101_9 (a0 : List (List Int)) (N : Nat) (v20 : Int) (k1 : (List Spot) → Option ((List Spot) × Int)) : Nat → (List Spot) → Int → Option ((List Spot) × Int)
  | 0, _, _ => none
  | n + 1, out7', v25 => f43_i101_9b (f43_i101_9 a0 N v20 k1 n) a0 N v20 k1 out7' v25
def Lf43_i101_9 (a0 : List (List Int)) (N : Nat) (v20 : Int) (k1 : (List Spot) → Option ((List Spot) × Int)) : Lp (Nat × (List Spot) × Int) (Nat) ((List Spot) × Int) := ⟨⟨[0, 1, 7, 8, 19, 20, 24, 25], [102090007], [(.slot 7, 102090007, 73, 3)], []⟩, fun (_, out7', v25) => [.dat (sl_sl_iN a0), .dat (.v (.func (.func 77) #[] #[])), .rs 102090007 (List.length (out7')), .dat (iN v20), .dat (iN (List.length a0 : Int)), .dat (iN v20), .dat (iN (List.length a0 : Int)), .dat (iN v25)], fun (_, out7', _) => [.row 73 3 (List.map Spot.d (out7'))], fun (n, out7', v25) => f43_i101_9 a0 N v20 k1 n out7' v25, fun (_, _, v25) m0 => [.dat (sl_sl_iN a0), .dat (.v (.func (.func 77) #[] #[])), .rs 102090007 m0, .dat (iN v20), .dat (iN (List.length a0 : Int)), .dat (iN v20), .dat (iN (List.length a0 : Int)), .dat (iN v25)], fun (_, out7', _) _ => [.row 73 3 (List.map Spot.d (out7'))], fun (_, out7', _) => List.length (out7'), fun _ => rfl, fun _ => rfl⟩
theorem Ef43_i101_9 {a0 N v20 k1 n out7' v25} : (Lf43_i101_9 a0 N v20 k1).E (n, out7', v25) = f43_i101_9 a0 N v20 k1 n out7' v25 := rfl
def f43_i101_6b (r6 : (List Spot) → Int → Option ((List Spot) × Int)) (a0 : List (List Int)) (N : Nat) (k0 : (List Spot) → Option ((List Spot) × Int)) (out7 : List Spot) (v20 : Int) : Option ((List Spot) × Int) :=
 bif decide (v20 < (List.length a0 : Int)) then (joinK (f43_i101_c19 a0 v20 r6) fun k1 =>
 f43_i101_9 a0 N v20 k1 N out7 (0 : Int))
 else (k0 out7)
def f43_i101_6 (a0 : List (List Int)) (N : Nat) (k0 : (List Spot) → Option ((List Spot) × Int)) : Nat → (List Spot) → Int → Option ((List Spot) × Int)
  | 0, _, _ => none
  | n + 1, out7, v20 => f43_i101_6b (f43_i101_6 a0 N k0 n) a0 N k0 out7 v20
def Lf43_i101_6 (a0 : List (List Int)) (N : Nat) (k0 : (List Spot) → Option ((List Spot) × Int)) : Lp (Nat × (List Spot) × Int) (Nat) ((List Spot) × Int) := ⟨⟨[0, 1, 7, 19, 20], [102090007], [(.slot 7, 102090007, 73, 3)], []⟩, fun (_, out7, v20) => [.dat (sl_sl_iN a0), .dat (.v (.func (.func 77) #[] #[])), .rs 102090007 (List.length out7), .dat (iN (List.length a0 : Int)), .dat (iN v20)], fun (_, out7, _) => [.row 73 3 (List.map Spot.d out7)], fun (n, out7, v20) => f43_i101_6 a0 N k0 n out7 v20, fun (_, _, v20) m0 => [.dat (sl_sl_iN a0), .dat (.v (.func (.func 77) #[] #[])), .rs 102090007 m0, .dat (iN (List.length a0 : Int)), .dat (iN v20)], fun (_, out7, _) _ => [.row 73 3 (List.map Spot.d out7)], fun (_, out7, _) => List.length out7, fun _ => rfl, fun _ => rfl⟩
theorem Ef43_i101_6 {a0 N k0 n out7 v20} : (Lf43_i101_6 a0 N k0).E (n, out7, v20) = f43_i101_6 a0 N k0 n out7 v20 := rfl
def f43 (N : Nat) (a0 : List (List Int)) : Option ((List Spot) × Int) :=
 (f49 N a0).bind fun x1 =>
 bif decide (¬ x1 = (0 : Int)) then (some ([], x1))
 else (joinK (f43_i101_c20 N) fun k0 =>
 f43_i101_6 a0 N k0 N [] (0 : Int))
def G43 (ds : List D) (d : D) : Prop := ∃ (N : Nat) (a0 : List (List Int)) (r : (List Spot) × Int), ds = [sl_sl_iN a0] ∧ f43 N a0 = some r ∧ d = .tup [sl_Spot r.1, iN r.2]
theorem G43.step {N : Nat} {a0 : List (List Int)} {ρ : Type} {A : ((List Spot) × Int) → Option ρ} {q : ρ} {ds : List D} {K : D → Prop} (hd : ds = [sl_sl_iN a0]) (h : ∀ r, A r = some q → K (.tup [sl_Spot r.1, iN r.2])) (hF : (f43 N a0).bind A = some q) : ∃ d, G43 ds d ∧ K d := by
  obtain ⟨r, hr, hA⟩ := bind_some hF
  exact ⟨_, ⟨N, a0, r, hd, hr, rfl⟩, h r hA⟩
set_option maxRecDepth 20000 in
set_option maxHeartbeats 4000000 in
theorem P43 : PureOK Try.prog 43 G43 := by
  refine pure_of_vc (c := mkCtx tyTree [(76, false, inlPg (mkCtx tyTree [(90, false, inlPg (mkCtx tyTree [(95, false, effPg Spf95 G95), (96, true, lendPg [[0]] G96)]) Try.f90), (77, true, purePg [[0], [0]] G77), (59, true, lendPg [[1], [0], [1]] G59), (49, true, lendPg [[1]] G49)]) Try.f76)]) rfl tyOK (ctx_eff (callable Try.func76 rfl rfl) (CallOK.inl rfl tyOK (ctx_eff (callable Try.func90 rfl rfl) (CallOK.inl rfl tyOK (ctx_eff (callable Try.func95 rfl rfl) P95 (ctx_lend (callable Try.func96 rfl rfl) P96 (ctx_nil))) Try.func90 (by kernel_rfl)) (ctx_cons (callable Try.func77 rfl rfl) P77 (ctx_lend (callable Try.func59 rfl rfl) P59 (ctx_lend (callable Try.func49 rfl rfl) P49 (ctx_nil))))) Try.func76 (by kernel_rfl)) (ctx_nil)) [[3], [0]] 1 Try.func43 rfl rfl (by decide) (by kernel_rfl) ?_
  rintro ds d ⟨N, a0, r, rfl, hF, rfl⟩ hok
  clear hok
  refine ⟨rfl, ?_⟩
  show vc _ _ _ _ ⟨[(0, .dat (sl_sl_iN a0))], []⟩ _
  unfold f43 at hF
  repeat' (first
    | ((with_reducible first | refine q0 _ _ ?_ | refine q1 _ _ _ _ ?_ | refine q2 _ _ _ ?_); clear Q q0 q1 q2)
    | ((with_reducible first | refine seq_op ?hx (fun Q q0 q1 q2 => ?_)); (case hx => exact rfl); conv => whnf)
    | ((with_reducible refine cond_id ?_); (first | ((refine condKT rfl ?hy ?_); (case hy => first | assumption | exact notT (by assumption) | exact rfl)) | ((refine condKF rfl ?hy ?_); (case hy => first | assumption | exact notF (by assumption) | exact rfl)) | (revert hF; (with_reducible refine condF ?hx ?_ ?_); (case hx => exact rfl); all_goals (intro hc hF))))
    | ((with_reducible refine seq_nil ?_); (first | ((with_reducible refine hR _ ?_); clear R hR) | ((with_reducible refine hL _ ?_); clear L hL)))
    | ((with_reducible first | refine int_step ?_ | refine len_step ?_); conv => whnf)
    | (with_reducible first | refine vc_block ?_ | refine vc_skip ?_ | refine vc_ret ?_ | refine vc_exit ?_ | refine vc_region (fun R hR => ?_) | refine k_seq_ret ?_ | refine k_seq_exit ?_ | refine k_blk ?_ | refine k_blk_ret ?_ | refine k_blk_here ?_ | refine k_loop_ret ?_ | refine k_loop_exit ?_)
    | ((with_reducible refine vc_seqN [102000000020, 102000000019, 102000000018] ?hx ?_); (case hx => exact rfl))
    | (revert hF; (refine Lp.cut1 Lf43_i101_c20 f43_i101_c20 102000000020 rfl rfl ?_ ?_); (intro hF); rotate_left; (rintro out7 hF; dsimp only [Lf43_i101_c20] at hF; unfold f43_i101_c20 at hF); rotate_right)
    | exact Lp.head Ef43_i101_c20 hF _ ⟨_, rfl, rfl, rfl, rfl⟩ (by first | exact rfl | ((try dsimp only [Lf43_i101_c20]); first | assumption | omega | (simp only [List.length_set]; done)))
    | (revert hF; (refine Lp.cut3 Lf43_i101_c19 f43_i101_c19 102000000019 rfl rfl ?_ ?_); (intro hF); rotate_left; (rintro out7' hF; dsimp only [Lf43_i101_c19] at hF; unfold f43_i101_c19 at hF); rotate_right)
    | exact Lp.head Ef43_i101_c19 hF _ ⟨_, rfl, rfl, rfl, rfl⟩ (by first | exact rfl | ((try dsimp only [Lf43_i101_c19]); first | assumption | omega | (simp only [List.length_set]; done)))
    | (revert hF; (refine Lp.cut4 Lf43_i101_c18 f43_i101_c18 102000000018 rfl rfl ?_ ?_); (intro hF); rotate_left; (rintro out7'' hF; dsimp only [Lf43_i101_c18] at hF; unfold f43_i101_c18 at hF); rotate_right)
    | exact Lp.head Ef43_i101_c18 hF _ ⟨_, rfl, rfl, rfl, rfl⟩ (by first | exact rfl | ((try dsimp only [Lf43_i101_c18]); first | assumption | omega | (simp only [List.length_set]; done)))
    | (revert hF; (refine Lp.loop Ef43_i101_12 _ rfl ⟨_, rfl, rfl, rfl, rfl⟩ (by first | exact rfl | ((try dsimp only [Lf43_i101_12]); first | assumption | omega | (simp only [List.length_set]; done))) (fun _ => rfl) ?_); rintro n ⟨out7'', v29⟩ hF; dsimp only [Lf43_i101_12, f43_i101_12] at hF; unfold f43_i101_12b at hF)
    | exact Lp.back Ef43_i101_12 hF _ ⟨_, rfl, rfl, rfl, rfl⟩ (by first | exact rfl | ((try dsimp only [Lf43_i101_12]); first | assumption | omega | (simp only [List.length_set]; done)))
    | (revert hF; (refine Lp.loop Ef43_i101_9 _ rfl ⟨_, rfl, rfl, rfl, rfl⟩ (by first | exact rfl | ((try dsimp only [Lf43_i101_9]); first | assumption | omega | (simp only [List.length_set]; done))) (fun _ => rfl) ?_); rintro n ⟨out7', v25⟩ hF; dsimp only [Lf43_i101_9, f43_i101_9] at hF; unfold f43_i101_9b at hF)
    | exact Lp.back Ef43_i101_9 hF _ ⟨_, rfl, rfl, rfl, rfl⟩ (by first | exact rfl | ((try dsimp only [Lf43_i101_9]); first | assumption | omega | (simp only [List.length_set]; done)))
    | (revert hF; (refine Lp.loop Ef43_i101_6 _ rfl ⟨_, rfl, rfl, rfl, rfl⟩ (by first | exact rfl | ((try dsimp only [Lf43_i101_6]); first | assumption | omega | (simp only [List.length_set]; done))) (fun _ => rfl) ?_); rintro n ⟨out7, v20⟩ hF; dsimp only [Lf43_i101_6, f43_i101_6] at hF; unfold f43_i101_6b at hF)
    | exact Lp.back Ef43_i101_6 hF _ ⟨_, rfl, rfl, rfl, rfl⟩ (by first | exact rfl | ((try dsimp only [Lf43_i101_6]); first | assumption | omega | (simp only [List.length_set]; done)))
    | (revert hF; (with_reducible refine G49.lend ?hx ?_); (case hx => exact rfl); intro v hF; conv => whnf)
    | (revert hF; (with_reducible refine G59.lend ?hx ?_); (case hx => exact rfl); intro v hF; conv => whnf)
    | (revert hF; (with_reducible refine G77.step ?hx ?_); (case hx => exact rfl); intro v hF; conv => whnf)
    | (revert hF; (with_reducible refine G96.lend ?hx ?_); (case hx => exact rfl); intro v hF; conv => whnf)
    | (revert hF; (refine G95.step rfl rfl (by first | exact rfl | assumption | omega | (simp only [List.length_set]; done)) rfl ?hn ?_); (case hn => exact rfl); intro v hF; conv => whnf)
    | ((with_reducible have hG := keep_fact hF); have hk := hG.1; have hF := hG.2; clear hG)
    | ((with_reducible first | refine k_blk_out ?hx ?_ | refine vc_condT ?hx ?_); (case hx => exact rfl))
    | ((with_reducible have hG := app_fact hF); clear hF; (first | ((refine app_row hG ?hn ?hs (fun q hF => ?_)); (case hn => first | exact rfl | assumption | omega); (case hs => exact rfl)) | ((refine app_nil (d := Spot.d) hG ?hs (fun q hF => ?_)); (case hs => exact rfl)) | ((refine app_gen (d := Spot.d) hG ?ho ?hn ?hs (fun q hF => ?_)); (case ho => exact rfl); (case hn => exact rfl); (case hs => exact rfl))); clear hG; conv => whnf)
    | ((refine row_all ?hn ?_); (case hn => first | exact rfl | (simp; done) | (simp; omega)); conv => whnf)
    | ((with_reducible refine le_step ?hn ?_); (case hn => first | exact rfl | assumption | omega); conv => whnf)
    | ((refine ⟨?hx, ?_⟩); (case hx => exact ⟨rfl, Nat.le_of_ble_eq_true rfl, rfl⟩); conv => whnf)
    | ((with_reducible refine ex_step ?_); conv => whnf)
    | ((with_reducible refine both_T ?hx ?_); (case hx => first | exact rfl | assumption | exact notT (by assumption)); conv => whnf)
    | ((with_reducible refine both_F ?hx ?_); (case hx => first | exact rfl | assumption | exact notF (by assumption)); conv => whnf)
    | (revert hF; (with_reducible refine ite_step ?_ ?_) <;> (intro hc hF; conv => whnf))
    | ((with_reducible refine vc_condF ?hx ?_); (case hx => exact rfl))
    | (show retD _ _ _ _ _ _; conv => whnf)
    | ((refine inl_step ?ha ?hb ?hc rfl ?_); (case ha => exact rfl); (case hb => omega); (case hc => exact Nat.le_of_ble_eq_true rfl))
    | (show Kinl _ _ _ _ _ _ _; conv => whnf)
    | ((with_reducible refine kinl_step ?ha ?hb ?_); (case ha => exact rfl); (case hb => exact rfl); conv => whnf)
    | ((refine ⟨?hx, trivial⟩); (case hx => (cases hF; exact rfl)))
    | ((refine ⟨?hx, ?_⟩); (case hx => decide); conv => whnf)
    | with_reducible refine k_seq ?_
    | (have hF : (none : Option _) = some _ := hF; cases hF))
end
end Go.Vc
namespace Go.Vc
open Go.Proofs
set_option linter.unusedVariables false
set_option linter.unnecessarySimpa false
set_option linter.unusedSimpArgs false
section
variable {c : Ctx} {p nid : Nat} {a b : Code} {st : St} {K : Ex → St → Prop}
/- f47: tusche/tuschelaw01.tables -/
def f47_c8 : Option (Bool) :=
 some (true)
def Lf47_c8 : Lp (Unit) Unit (Bool) := lp0 ⟨[], [], [], []⟩ (fun _ => []) (fun _ => []) (fun _ => f47_c8)
theorem Ef47_c8 : (Lf47_c8).E () = f47_c8 := rfl
def f47_4b (r4 : Int → Option (Bool)) (a0 : List (List Int)) (a1 : List (List Int)) (N : Nat) (k0 : Option (Bool)) (i5 : Int) : Option (Bool) :=
 bif decide (i5 < (List.length a0 : Int)) then ((ix a0 i5).bind fun x1 =>
 (ix a1 i5).bind fun x2 =>
 (f34 N x1 x2).bind fun x3 =>
 bif !x3 then (some (false))
 else (r4 (W (i5 + (1 : Int)))))
 else k0
def f47_4 (a0 : List (List Int)) (a1 : List (List Int)) (N : Nat) (k0 : Option (Bool)) : Nat → Int → Option (Bool)
  | 0, _ => none
  | n + 1, i5 => f47_4b (f47_4 a0 a1 N k0 n) a0 a1 N k0 i5
def Lf47_4 (a0 : List (List Int)) (a1 : List (List Int)) (N : Nat) (k0 : Option (Bool)) : Lp (Nat × Int) Unit (Bool) := lp0 ⟨[0, 1, 5], [], [], []⟩ (fun (_, i5) => [.dat (sl_sl_iN a0), .dat (sl_sl_iN a1), .dat (iN i5)]) (fun (_, _) => []) (fun (n, i5) => f47_4 a0 a1 N k0 n i5)
theorem Ef47_4 {a0 a1 N k0 n i5} : (Lf47_4 a0 a1 N k0).E (n, i5) = f47_4 a0 a1 N k0 n i5 := rfl
def f47 (N : Nat) (a0 : List (List Int)) (a1 : List (List Int)) : Option (Bool) :=
 bif decide (¬ (List.length a0 : Int) = (List.length a1 : Int)) then (some (false))
 else (joinK f47_c8 fun k0 =>
 f47_4 a0 a1 N k0 N (0 : Int))
def G47 (ds : List D) (d : D) : Prop := ∃ (N : Nat) (a0 : List (List Int)) (a1 : List (List Int)) (r : Bool), ds = [sl_sl_iN a0, sl_sl_iN a1] ∧ f47 N a0 a1 = some r ∧ d = bN r
theorem G47.lend {N : Nat} {a0 : List (List Int)} {a1 : List (List Int)} {ρ : Type} {A : Bool → Option ρ} {q : ρ} {ds : List D} {K : D → Prop} (hd : ds = [sl_sl_iN a0, sl_sl_iN a1]) (h : ∀ r, A r = some q → K (bN r)) (hF : (f47 N a0 a1).bind A = some q) : ∃ d, (G47 ds d ∧ d.flatB = true) ∧ K d := by
  obtain ⟨r, hr, hA⟩ := bind_some hF
  exact ⟨_, ⟨⟨N, a0, a1, r, hd, hr, rfl⟩, rfl⟩, h r hA⟩
theorem G47.step {N : Nat} {a0 : List (List Int)} {a1 : List (List Int)} {ρ : Type} {A : Bool → Option ρ} {q : ρ} {ds : List D} {K : D → Prop} (hd : ds = [sl_sl_iN a0, sl_sl_iN a1]) (h : ∀ r, A r = some q → K (bN r)) (hF : (f47 N a0 a1).bind A = some q) : ∃ d, G47 ds d ∧ K d := by
  obtain ⟨r, hr, hA⟩ := bind_some hF
  exact ⟨_, ⟨N, a0, a1, r, hd, hr, rfl⟩, h r hA⟩
set_option maxRecDepth 20000 in
set_option maxHeartbeats 4000000 in
theorem P47 : PureOK Try.prog 47 G47 := by
  refine pure_of_vc (c := mkCtx tyTree [(34, true, lendPg [[1], [1]] G34)]) rfl tyOK (ctx_lend (callable Try.func34 rfl rfl) P34 (ctx_nil)) [[0]] 2 Try.func47 rfl rfl (by decide) (by kernel_rfl) ?_
  rintro ds d ⟨N, a0, a1, r, rfl, hF, rfl⟩ hok
  clear hok
  refine ⟨rfl, ?_⟩
  show vc _ _ _ _ ⟨[(0, .dat (sl_sl_iN a0)), (1, .dat (sl_sl_iN a1))], []⟩ _
  unfold f47 at hF
  repeat' (first
    | ((with_reducible first | refine q0 _ _ ?_ | refine q1 _ _ _ _ ?_ | refine q2 _ _ _ ?_); clear Q q0 q1 q2)
    | ((with_reducible first | refine seq_op ?hx (fun Q q0 q1 q2 => ?_) | refine draw_op ?hx (fun Q q0 q1 q2 => ?_)); (case hx => exact rfl); conv => whnf)
    | ((with_reducible refine cond_id ?_); (first | ((refine condKT rfl ?hy ?_); (case hy => first | assumption | exact notT (by assumption) | exact rfl)) | ((refine condKF rfl ?hy ?_); (case hy => first | assumption | exact notF (by assumption) | exact rfl)) | (revert hF; (with_reducible refine condF ?hx ?_ ?_); (case hx => exact rfl); all_goals (intro hc hF))))
    | ((with_reducible refine seq_nil ?_); (first | ((with_reducible refine hR _ ?_); clear R hR) | ((with_reducible refine hL _ ?_); clear L hL)))
    | ((with_reducible refine draw_nil ?_); (with_reducible refine hR _ _ ?hx ?_); (case hx => kernel_rfl); (first | clear R hR | clear hR))
    | ((with_reducible first | refine int_step ?_ | refine len_step ?_ | refine idx2 (by assumption) ?_ | refine idx3 (by assumption) ?_); conv => whnf)
    | (with_reducible first | refine vc_block ?_ | refine vc_skip ?_ | refine vc_ret ?_ | refine vc_exit ?_ | refine vc_region (fun R hR => ?_) | refine k_seq_ret ?_ | refine k_seq_exit ?_ | refine k_blk ?_ | refine k_blk_ret ?_ | refine k_blk_here ?_ | refine k_loop_ret ?_ | refine k_loop_exit ?_)
    | ((with_reducible refine vc_seqN [8] ?hx ?_); (case hx => exact rfl))
    | ((with_reducible refine vc_draw ?hx (fun R hR => ?_)); (case hx => exact rfl))
    | (revert hF; (refine Lp.cut0 Lf47_c8 f47_c8 8 rfl rfl ?_ ?_); (intro hF); rotate_left; (rintro _ hF; dsimp only [Lf47_c8] at hF; unfold f47_c8 at hF); rotate_right)
    | exact Lp.head Ef47_c8 hF () ⟨_, rfl, rfl, rfl, rfl⟩ rfl
    | (revert hF; (refine Lp.loop Ef47_4 () rfl ⟨_, rfl, rfl, rfl, rfl⟩ rfl (fun _ => rfl) ?_); rintro n i5 hF; dsimp only [Lf47_4, f47_4] at hF; unfold f47_4b at hF)
    | exact Lp.back Ef47_4 hF () ⟨_, rfl, rfl, rfl, rfl⟩ rfl
    | (revert hF; (with_reducible refine G34.lend ?hx ?_); (case hx => exact rfl); intro v hF; conv => whnf)
    | ((with_reducible first | refine k_blk_out ?hx ?_ | refine vc_condT ?hx ?_); (case hx => exact rfl))
    | (revert hF; (with_reducible refine idx1 ?hn ?_); (case hn => first | exact rfl | exact (List.length_map _) | assumption | omega | simp); intro x hx hF; conv => whnf)
    | ((refine row_all ?hn ?_); (case hn => first | exact rfl | (simp; done) | (simp; omega)); conv => whnf)
    | ((with_reducible refine le_step ?hn ?_); (case hn => first | exact rfl | assumption | omega); conv => whnf)
    | ((refine ⟨?hx, ?_⟩); (case hx => exact ⟨rfl, Nat.le_of_ble_eq_true rfl, rfl⟩); conv => whnf)
    | ((with_reducible refine ex_step ?_); conv => whnf)
    | ((with_reducible refine both_T ?hx ?_); (case hx => first | exact rfl | assumption | exact notT (by assumption)); conv => whnf)
    | ((with_reducible refine both_F ?hx ?_); (case hx => first | exact rfl | assumption | exact notF (by assumption)); conv => whnf)
    | (revert hF; (with_reducible refine ite_step ?_ ?_) <;> (intro hc hF; conv => whnf))
    | ((with_reducible refine vc_condF ?hx ?_); (case hx => exact rfl))
    | (show retD _ _ _ _ _ _; conv => whnf)
    | ((refine ⟨?hx, trivial⟩); (case hx => (cases hF; exact rfl)))
    | ((refine ⟨?hx, ?_⟩); (case hx => decide); conv => whnf)
    | with_reducible refine k_seq ?_
    | (have hF : (none : Option _) = some _ := hF; cases hF))
end
end Go.Vc
namespace Go.Vc
open Go.Proofs
set_option linter.unusedVariables false
set_option linter.unnecessarySimpa false
set_option linter.unusedSimpArgs false
section
variable {c : Ctx} {p nid : Nat} {a b : Code} {st : St} {K : Ex → St → Prop}
/- f55: tusche/tuschelaw01.T -/
def f55 (N : Nat) : Option ((List (List Int))) :=
 some ([[(0 : Int), (1 : Int), (2 : Int), (3 : Int), (4 : Int)], [(2 : Int), (3 : Int), (4 : Int), (0 : Int), (1 : Int)], [(4 : Int), (0 : Int), (1 : Int), (2 : Int), (3 : Int)], [(1 : Int), (2 : Int), (3 : Int), (4 : Int), (0 : Int)], [(3 : Int), (4 : Int), (0 : Int), (1 : Int), (2 : Int)]])
def G55 (ds : List D) (d : D) : Prop := ∃ (N : Nat) (r : (List (List Int))), ds = [] ∧ f55 N  = some r ∧ d = sl_sl_iN r
theorem G55.step {N : Nat} {ρ : Type} {A : (List (List Int)) → Option ρ} {q : ρ} {ds : List D} {K : D → Prop} (hd : ds = []) (h : ∀ r, A r = some q → K (sl_sl_iN r)) (hF : (f55 N ).bind A = some q) : ∃ d, G55 ds d ∧ K d := by
  obtain ⟨r, hr, hA⟩ := bind_some hF
  exact ⟨_, ⟨N, r, hd, hr, rfl⟩, h r hA⟩
set_option maxRecDepth 20000 in
set_option maxHeartbeats 4000000 in
theorem P55 : PureOK Try.prog 55 G55 := by
  refine pure_of_vc (c := mkCtx tyTree []) rfl tyOK (ctx_nil) [[1]] 0 Try.func55 rfl rfl (by decide) (by kernel_rfl) ?_
  rintro ds d ⟨N, r, rfl, hF, rfl⟩ hok
  clear hok
  refine ⟨rfl, ?_⟩
  show vc _ _ _ _ ⟨[], []⟩ _
  unfold f55 at hF
  repeat' (first
    | ((with_reducible first | refine q0 _ _ ?_ | refine q1 _ _ _ _ ?_ | refine q2 _ _ _ ?_); clear Q q0 q1 q2)
    | ((with_reducible first | refine seq_op ?hx (fun Q q0 q1 q2 => ?_)); (case hx => exact rfl); conv => whnf)
    | ((with_reducible refine seq_nil ?_); (first | ((with_reducible refine hR _ ?_); clear R hR) | ((with_reducible refine hL _ ?_); clear L hL)))
    | ((with_reducible first | refine int_step ?_); conv => whnf)
    | (with_reducible first | refine vc_skip ?_ | refine vc_ret ?_ | refine vc_region (fun R hR => ?_) | refine k_seq_ret ?_)
    | ((with_reducible refine vc_seqN [] ?hx ?_); (case hx => exact rfl))
    | ((refine row_all ?hn ?_); (case hn => first | exact rfl | (simp; done) | (simp; omega)); conv => whnf)
    | ((with_reducible refine le_step ?hn ?_); (case hn => first | exact rfl | assumption | omega); conv => whnf)
    | ((refine ⟨?hx, ?_⟩); (case hx => exact ⟨rfl, Nat.le_of_ble_eq_true rfl, rfl⟩); conv => whnf)
    | ((with_reducible refine ex_step ?_); conv => whnf)
    | ((with_reducible refine both_T ?hx ?_); (case hx => first | exact rfl | assumption | exact notT (by assumption)); conv => whnf)
    | ((with_reducible refine both_F ?hx ?_); (case hx => first | exact rfl | assumption | exact notF (by assumption)); conv => whnf)
    | (revert hF; (with_reducible refine ite_step ?_ ?_) <;> (intro hc hF; conv => whnf))
    | (show retD _ _ _ _ _ _; conv => whnf)
    | ((refine ⟨?hx, trivial⟩); (case hx => (cases hF; exact rfl)))
    | ((refine ⟨?hx, ?_⟩); (case hx => decide); conv => whnf)
    | with_reducible refine k_seq ?_
    | (have hF : (none : Option _) = some _ := hF; cases hF))
end
end Go.Vc
namespace Go.Vc
open Go.Proofs
set_option linter.unusedVariables false
set_option linter.unnecessarySimpa false
set_option linter.unusedSimpArgs false
section
variable {c : Ctx} {p nid : Nat} {a b : Code} {st : St} {K : Ex → St → Prop}
/- f56: tusche/tuschelaw01.list -/
def f56 (N : Nat) (a0 : List Int) : Option ((List Int)) :=
 some (a0)
def G56 (ds : List D) (d : D) : Prop := ∃ (N : Nat) (a0 : List Int) (r : (List Int)), ds = [sl_iN a0] ∧ f56 N a0 = some r ∧ d = sl_iN r
theorem G56.step {N : Nat} {a0 : List Int} {ρ : Type} {A : (List Int) → Option ρ} {q : ρ} {ds : List D} {K : D → Prop} (hd : ds = [sl_iN a0]) (h : ∀ r, A r = some q → K (sl_iN r)) (hF : (f56 N a0).bind A = some q) : ∃ d, G56 ds d ∧ K d := by
  obtain ⟨r, hr, hA⟩ := bind_some hF
  exact ⟨_, ⟨N, a0, r, hd, hr, rfl⟩, h r hA⟩
set_option maxRecDepth 20000 in
set_option maxHeartbeats 4000000 in
theorem P56 : PureOK Try.prog 56 G56 := by
  refine pure_of_vc (c := mkCtx tyTree []) rfl tyOK (ctx_nil) [[1]] 1 Try.func56 rfl rfl (by decide) (by kernel_rfl) ?_
  rintro ds d ⟨N, a0, r, rfl, hF, rfl⟩ hok
  clear hok
  refine ⟨rfl, ?_⟩
  show vc _ _ _ _ ⟨[(0, .dat (sl_iN a0))], []⟩ _
  unfold f56 at hF
  repeat' (first
    | ((with_reducible first | refine q0 _ _ ?_ | refine q1 _ _ _ _ ?_ | refine q2 _ _ _ ?_); clear Q q0 q1 q2)
    | ((with_reducible first | refine seq_op ?hx (fun Q q0 q1 q2 => ?_)); (case hx => exact rfl); conv => whnf)
    | ((with_reducible refine seq_nil ?_); (first | ((with_reducible refine hR _ ?_); clear R hR) | ((with_reducible refine hL _ ?_); clear L hL)))
    | ((with_reducible first | refine int_step ?_); conv => whnf)
    | (with_reducible first | refine vc_skip ?_ | refine vc_ret ?_ | refine vc_region (fun R hR => ?_) | refine k_seq_ret ?_)
    | ((with_reducible refine vc_seqN [] ?hx ?_); (case hx => exact rfl))
    | ((refine row_all ?hn ?_); (case hn => first | exact rfl | (simp; done) | (simp; omega)); conv => whnf)
    | ((with_reducible refine le_step ?hn ?_); (case hn => first | exact rfl | assumption | omega); conv => whnf)
    | ((refine ⟨?hx, ?_⟩); (case hx => exact ⟨rfl, Nat.le_of_ble_eq_true rfl, rfl⟩); conv => whnf)
    | ((with_reducible refine ex_step ?_); conv => whnf)
    | ((with_reducible refine both_T ?hx ?_); (case hx => first | exact rfl | assumption | exact notT (by assumption)); conv => whnf)
    | ((with_reducible refine both_F ?hx ?_); (case hx => first | exact rfl | assumption | exact notF (by assumption)); conv => whnf)
    | (revert hF; (with_reducible refine ite_step ?_ ?_) <;> (intro hc hF; conv => whnf))
    | (show retD _ _ _ _ _ _; conv => whnf)
    | ((refine ⟨?hx, trivial⟩); (case hx => (cases hF; exact rfl)))
    | ((refine ⟨?hx, ?_⟩); (case hx => decide); conv => whnf)
    | with_reducible refine k_seq ?_
    | (have hF : (none : Option _) = some _ := hF; cases hF))
end
end Go.Vc
namespace Go.Vc
open Go.Proofs
set_option linter.unusedVariables false
set_option linter.unnecessarySimpa false
set_option linter.unusedSimpArgs false
section
variable {c : Ctx} {p nid : Nat} {a b : Code} {st : St} {K : Ex → St → Prop}
/- f15: tusche/tuschelaw01.works -/
def f15 (N : Nat) : Option (Bool) :=
 (f41 N (5 : Int) (2 : Int)).bind fun x1 =>
 (f55 N ).bind fun x2 =>
 (f56 N [(1 : Int), (2 : Int)]).bind fun x3 =>
 (f21 N x2 x3).bind fun x4 =>
 (f55 N ).bind fun x5 =>
 (f56 N [(3 : Int)]).bind fun x6 =>
 (f23 N x5 x6).bind fun x7 =>
 (f55 N ).bind fun x8 =>
 (f43 N x8).bind fun x9 =>
 (f55 N ).bind fun x10 =>
 (f56 N [(1 : Int), (2 : Int), (3 : Int)]).bind fun x11 =>
 (f29 N x10 x11).bind fun x12 =>
 (f55 N ).bind fun x13 =>
 (f56 N [(2 : Int), (1 : Int), (2 : Int)]).bind fun x14 =>
 (f31 N x13 x14).bind fun x15 =>
 (f55 N ).bind fun x16 =>
 (f56 N [(1 : Int), (2 : Int), (2 : Int)]).bind fun x17 =>
 (f25 N x16 x17 (0 : Int)).bind fun x18 =>
 (f55 N ).bind fun x19 =>
 (f35 N x19 (3 : Int) (7 : Int)).bind fun x20 =>
 (f16 N (strC [55, 48])).bind fun x21 =>
 bif decide (¬ x1.2 = (0 : Int)) then (some (false))
 else (bif decide (¬ x4.2 = (0 : Int)) then (some (false))
 else (bif decide (¬ x7.2 = (0 : Int)) then (some (false))
 else (bif decide (¬ x9.2 = (0 : Int)) then (some (false))
 else (bif decide (¬ x12.2 = (0 : Int)) then (some (false))
 else (bif decide (¬ x15.2 = (0 : Int)) then (some (false))
 else (bif decide (¬ x18.2 = (0 : Int)) then (some (false))
 else (bif decide (¬ x20.2 = (0 : Int)) then (some (false))
 else (bif !x21.2 then (some (false))
 else ((f55 N ).bind fun x22 =>
 (f56 N [(1 : Int), (2 : Int), (2 : Int)]).bind fun x23 =>
 (f37 N x22 x23).bind fun x24 =>
 bif decide (x24.2 = (0 : Int)) then ((f55 N ).bind fun x25 =>
 (f47 N x1.1 x25).bind fun x26 =>
 bif x26 then (bif decide (x4.1 = (4 : Int)) then (bif decide (x7.1 = (4 : Int)) then (bif decide ((List.length x9.1 : Int) = (0 : Int)) then ((f33 N x12.1 [(Fix.mk (0 : Int) (2 : Int)), (Fix.mk (1 : Int) (4 : Int)), (Fix.mk (2 : Int) (2 : Int))]).bind fun x27 =>
 bif x27 then ((f56 N [(0 : Int)]).bind fun x28 =>
 (f34 N x15.1 x28).bind fun x29 =>
 bif x29 then (bif decide (x18.1 = (1 : Int)) then ((f56 N [(1 : Int), (2 : Int), (2 : Int)]).bind fun x30 =>
 (f34 N x20.1 x30).bind fun x31 =>
 bif x31 then (bif decide (x24.1 = (7 : Int)) then (bif decide (x21.1 = (70 : Int)) then ((f55 N ).bind fun x32 =>
 (f56 N [(1 : Int), (2 : Int), (2 : Int)]).bind fun x33 =>
 (f27 N x32 x33).bind fun x34 =>
 bif decide (x34 = (0 : Int)) then ((f55 N ).bind fun x35 =>
 (f56 N [(1 : Int), (2 : Int), (3 : Int)]).bind fun x36 =>
 (f27 N x35 x36).bind fun x37 =>
 bif decide (x37 = (13 : Int)) then ((f18 N (strC [115, 116, 111, 110, 101])).bind fun x38 =>
 bif x38 then ((f18 N (strC [83, 116, 111, 110, 101])).bind fun x39 =>
 some (!x39))
 else (some (false)))
 else (some (false)))
 else (some (false)))
 else (some (false)))
 else (some (false)))
 else (some (false)))
 else (some (false)))
 else (some (false)))
 else (some (false)))
 else (some (false)))
 else (some (false)))
 else (some (false)))
 else (some (false)))
 else (some (false)))))))))))
def G15 (ds : List D) (d : D) : Prop := ∃ (N : Nat) (r : Bool), ds = [] ∧ f15 N  = some r ∧ d = bN r
theorem G15.lend {N : Nat} {ρ : Type} {A : Bool → Option ρ} {q : ρ} {ds : List D} {K : D → Prop} (hd : ds = []) (h : ∀ r, A r = some q → K (bN r)) (hF : (f15 N ).bind A = some q) : ∃ d, (G15 ds d ∧ d.flatB = true) ∧ K d := by
  obtain ⟨r, hr, hA⟩ := bind_some hF
  exact ⟨_, ⟨⟨N, r, hd, hr, rfl⟩, rfl⟩, h r hA⟩
theorem G15.step {N : Nat} {ρ : Type} {A : Bool → Option ρ} {q : ρ} {ds : List D} {K : D → Prop} (hd : ds = []) (h : ∀ r, A r = some q → K (bN r)) (hF : (f15 N ).bind A = some q) : ∃ d, G15 ds d ∧ K d := by
  obtain ⟨r, hr, hA⟩ := bind_some hF
  exact ⟨_, ⟨N, r, hd, hr, rfl⟩, h r hA⟩
set_option maxRecDepth 20000 in
set_option maxHeartbeats 4000000 in
theorem P15 : PureOK Try.prog 15 G15 := by
  refine pure_of_vc (c := mkCtx tyTree [(56, true, purePg [[1]] G56), (55, true, purePg [] G55), (47, true, lendPg [[1], [1]] G47), (43, true, purePg [[1]] G43), (41, true, purePg [[0], [0]] G41), (37, true, lendPg [[1], [1]] G37), (35, true, purePg [[1], [0], [0]] G35), (34, true, lendPg [[1], [1]] G34), (33, true, lendPg [[2], [2]] G33), (31, true, purePg [[1], [1]] G31), (29, true, purePg [[1], [1]] G29), (27, true, lendPg [[1], [1]] G27), (25, true, lendPg [[1], [1], [0]] G25), (23, true, lendPg [[1], [1]] G23), (21, true, lendPg [[1], [1]] G21), (18, true, lendPg [[0]] G18), (16, true, lendPg [[0]] G16)]) rfl tyOK (ctx_cons (callable Try.func56 rfl rfl) P56 (ctx_cons (callable Try.func55 rfl rfl) P55 (ctx_lend (callable Try.func47 rfl rfl) P47 (ctx_cons (callable Try.func43 rfl rfl) P43 (ctx_cons (callable Try.func41 rfl rfl) P41 (ctx_lend (callable Try.func37 rfl rfl) P37 (ctx_cons (callable Try.func35 rfl rfl) P35 (ctx_lend (callable Try.func34 rfl rfl) P34 (ctx_lend (callable Try.func33 rfl rfl) P33 (ctx_cons (callable Try.func31 rfl rfl) P31 (ctx_cons (callable Try.func29 rfl rfl) P29 (ctx_lend (callable Try.func27 rfl rfl) P27 (ctx_lend (callable Try.func25 rfl rfl) P25 (ctx_lend (callable Try.func23 rfl rfl) P23 (ctx_lend (callable Try.func21 rfl rfl) P21 (ctx_lend (callable Try.func18 rfl rfl) P18 (ctx_lend (callable Try.func16 rfl rfl) P16 (ctx_nil)))))))))))))))))) [[0]] 0 Try.func15 rfl rfl (by decide) (by kernel_rfl) ?_
  rintro ds d ⟨N, r, rfl, hF, rfl⟩ hok
  clear hok
  refine ⟨rfl, ?_⟩
  show vc _ _ _ _ ⟨[], []⟩ _
  unfold f15 at hF
  repeat' (first
    | ((with_reducible first | refine q0 _ _ ?_ | refine q1 _ _ _ _ ?_ | refine q2 _ _ _ ?_); clear Q q0 q1 q2)
    | ((with_reducible first | refine seq_op ?hx (fun Q q0 q1 q2 => ?_)); (case hx => exact rfl); conv => whnf)
    | ((with_reducible first | refine seq_off ?hx ?_ | refine seq_off0 ?hx ?_ | refine k_blk_out ?hx ?_ | refine vc_condT ?hx ?_); (case hx => exact rfl))
    | ((with_reducible refine seq_id ?_); (first | ((first | refine seq_opK rfl ?hy (fun Q q0 q1 q2 => ?_) | refine seq_opK0 rfl ?hy (fun Q q0 q1 q2 => ?_)); (case hy => first | assumption | exact notT (by assumption) | exact rfl); conv => whnf) | ((first | refine seq_offK rfl ?hy ?_ | refine seq_offK0 rfl ?hy ?_); (case hy => first | assumption | exact notF (by assumption) | exact rfl)) | (revert hF; (with_reducible first | refine seq_opF ?hx ?_ ?_ | refine seq_opF0 ?hx ?_ ?_); (case hx => exact rfl); (intro hc hF Q q0 q1 q2; conv => whnf); rotate_left; (intro hc hF); rotate_right) | (revert hF; (with_reducible first | refine seq_opN ?hx ?_ ?_ | refine seq_opN0 ?hx ?_ ?_); (case hx => exact rfl); (intro hc hF); rotate_left; (intro hc hF Q q0 q1 q2; conv => whnf); rotate_right)))
    | ((with_reducible refine cond_id ?_); (first | ((refine condKT rfl ?hy ?_); (case hy => first | assumption | exact notT (by assumption) | exact rfl)) | ((refine condKF rfl ?hy ?_); (case hy => first | assumption | exact notF (by assumption) | exact rfl)) | (revert hF; (with_reducible refine condF ?hx ?_ ?_); (case hx => exact rfl); all_goals (intro hc hF))))
    | ((with_reducible refine seq_nil ?_); (first | ((with_reducible refine hR _ ?_); clear R hR) | ((with_reducible refine hL _ ?_); clear L hL)))
    | ((with_reducible first | refine int_step ?_ | refine len_step ?_); conv => whnf)
    | (with_reducible first | refine vc_block ?_ | refine vc_skip ?_ | refine vc_ret ?_ | refine vc_exit ?_ | refine k_seq_ret ?_ | refine k_seq_exit ?_ | refine k_blk ?_ | refine k_blk_ret ?_ | refine k_blk_here ?_)
    | ((with_reducible refine vc_seqN [] ?hx ?_); (case hx => exact rfl))
    | ((with_reducible refine vc_region (fun R hR => ?_)); (try simp only [List.append_eq, List.cons_append, List.nil_append]))
    | (revert hF; (with_reducible refine G16.lend ?hx ?_); (case hx => exact rfl); intro v hF; conv => whnf)
    | (revert hF; (with_reducible refine G18.lend ?hx ?_); (case hx => exact rfl); intro v hF; conv => whnf)
    | (revert hF; (with_reducible refine G21.lend ?hx ?_); (case hx => exact rfl); intro v hF; conv => whnf)
    | (revert hF; (with_reducible refine G23.lend ?hx ?_); (case hx => exact rfl); intro v hF; conv => whnf)
    | (revert hF; (with_reducible refine G25.lend ?hx ?_); (case hx => exact rfl); intro v hF; conv => whnf)
    | (revert hF; (with_reducible refine G27.lend ?hx ?_); (case hx => exact rfl); intro v hF; conv => whnf)
    | (revert hF; (with_reducible refine G29.step ?hx ?_); (case hx => exact rfl); intro v hF; conv => whnf)
    | (revert hF; (with_reducible refine G31.step ?hx ?_); (case hx => exact rfl); intro v hF; conv => whnf)
    | (revert hF; (with_reducible refine G33.lend ?hx ?_); (case hx => exact rfl); intro v hF; conv => whnf)
    | (revert hF; (with_reducible refine G34.lend ?hx ?_); (case hx => exact rfl); intro v hF; conv => whnf)
    | (revert hF; (with_reducible refine G35.step ?hx ?_); (case hx => exact rfl); intro v hF; conv => whnf)
    | (revert hF; (with_reducible refine G37.lend ?hx ?_); (case hx => exact rfl); intro v hF; conv => whnf)
    | (revert hF; (with_reducible refine G41.step ?hx ?_); (case hx => exact rfl); intro v hF; conv => whnf)
    | (revert hF; (with_reducible refine G43.step ?hx ?_); (case hx => exact rfl); intro v hF; conv => whnf)
    | (revert hF; (with_reducible refine G47.lend ?hx ?_); (case hx => exact rfl); intro v hF; conv => whnf)
    | (revert hF; (with_reducible refine G55.step ?hx ?_); (case hx => exact rfl); intro v hF; conv => whnf)
    | (revert hF; (with_reducible refine G56.step ?hx ?_); (case hx => exact rfl); intro v hF; conv => whnf)
    | ((refine row_all ?hn ?_); (case hn => first | exact rfl | (simp; done) | (simp; omega)); conv => whnf)
    | ((with_reducible refine le_step ?hn ?_); (case hn => first | exact rfl | assumption | omega); conv => whnf)
    | ((refine ⟨?hx, ?_⟩); (case hx => exact ⟨rfl, Nat.le_of_ble_eq_true rfl, rfl⟩); conv => whnf)
    | ((with_reducible refine ex_step ?_); conv => whnf)
    | ((with_reducible refine both_T ?hx ?_); (case hx => first | exact rfl | assumption | exact notT (by assumption)); conv => whnf)
    | ((with_reducible refine both_F ?hx ?_); (case hx => first | exact rfl | assumption | exact notF (by assumption)); conv => whnf)
    | (revert hF; (with_reducible refine ite_step ?_ ?_) <;> (intro hc hF; conv => whnf))
    | ((with_reducible refine vc_condF ?hx ?_); (case hx => exact rfl))
    | (show retD _ _ _ _ _ _; conv => whnf)
    | ((refine ⟨?hx, trivial⟩); (case hx => (cases hF; exact rfl)))
    | ((refine ⟨?hx, ?_⟩); (case hx => decide); conv => whnf)
    | with_reducible refine k_seq ?_
    | (have hF : (none : Option _) = some _ := hF; cases hF))
end
end Go.Vc
namespace Go.Vc
open Go.Proofs
set_option linter.unusedVariables false
set_option linter.unnecessarySimpa false
set_option linter.unusedSimpArgs false
section
variable {c : Ctx} {p nid : Nat} {a b : Code} {st : St} {K : Ex → St → Prop}
/- f20: tusche/tuschelaw01.large -/
def f20_c8 : Option (Bool) :=
 some (false)
def Lf20_c8 : Lp (Unit) Unit (Bool) := lp0 ⟨[], [], [], []⟩ (fun _ => []) (fun _ => []) (fun _ => f20_c8)
theorem Ef20_c8 : (Lf20_c8).E () = f20_c8 := rfl
def f20_4b (r4 : Int → Option (Bool)) (a0 : List (List Int)) (k0 : Option (Bool)) (i3 : Int) : Option (Bool) :=
 bif decide (i3 < (List.length a0 : Int)) then ((ix a0 i3).bind fun x1 =>
 bif decide ((20 : Int) < (List.length x1 : Int)) then (some (true))
 else (r4 (W (i3 + (1 : Int)))))
 else k0
def f20_4 (a0 : List (List Int)) (k0 : Option (Bool)) : Nat → Int → Option (Bool)
  | 0, _ => none
  | n + 1, i3 => f20_4b (f20_4 a0 k0 n) a0 k0 i3
def Lf20_4 (a0 : List (List Int)) (k0 : Option (Bool)) : Lp (Nat × Int) Unit (Bool) := lp0 ⟨[0, 3], [], [], []⟩ (fun (_, i3) => [.dat (sl_sl_iN a0), .dat (iN i3)]) (fun (_, _) => []) (fun (n, i3) => f20_4 a0 k0 n i3)
theorem Ef20_4 {a0 k0 n i3} : (Lf20_4 a0 k0).E (n, i3) = f20_4 a0 k0 n i3 := rfl
def f20 (N : Nat) (a0 : List (List Int)) : Option (Bool) :=
 bif decide ((20 : Int) < (List.length a0 : Int)) then (some (true))
 else (joinK f20_c8 fun k0 =>
 f20_4 a0 k0 N (0 : Int))
def G20 (ds : List D) (d : D) : Prop := ∃ (N : Nat) (a0 : List (List Int)) (r : Bool), ds = [sl_sl_iN a0] ∧ f20 N a0 = some r ∧ d = bN r
theorem G20.lend {N : Nat} {a0 : List (List Int)} {ρ : Type} {A : Bool → Option ρ} {q : ρ} {ds : List D} {K : D → Prop} (hd : ds = [sl_sl_iN a0]) (h : ∀ r, A r = some q → K (bN r)) (hF : (f20 N a0).bind A = some q) : ∃ d, (G20 ds d ∧ d.flatB = true) ∧ K d := by
  obtain ⟨r, hr, hA⟩ := bind_some hF
  exact ⟨_, ⟨⟨N, a0, r, hd, hr, rfl⟩, rfl⟩, h r hA⟩
theorem G20.step {N : Nat} {a0 : List (List Int)} {ρ : Type} {A : Bool → Option ρ} {q : ρ} {ds : List D} {K : D → Prop} (hd : ds = [sl_sl_iN a0]) (h : ∀ r, A r = some q → K (bN r)) (hF : (f20 N a0).bind A = some q) : ∃ d, G20 ds d ∧ K d := by
  obtain ⟨r, hr, hA⟩ := bind_some hF
  exact ⟨_, ⟨N, a0, r, hd, hr, rfl⟩, h r hA⟩
set_option maxRecDepth 20000 in
set_option maxHeartbeats 4000000 in
theorem P20 : PureOK Try.prog 20 G20 := by
  refine pure_of_vc (c := mkCtx tyTree []) rfl tyOK (ctx_nil) [[0]] 1 Try.func20 rfl rfl (by decide) (by kernel_rfl) ?_
  rintro ds d ⟨N, a0, r, rfl, hF, rfl⟩ hok
  clear hok
  refine ⟨rfl, ?_⟩
  show vc _ _ _ _ ⟨[(0, .dat (sl_sl_iN a0))], []⟩ _
  unfold f20 at hF
  repeat' (first
    | ((with_reducible first | refine q0 _ _ ?_ | refine q1 _ _ _ _ ?_ | refine q2 _ _ _ ?_); clear Q q0 q1 q2)
    | ((with_reducible first | refine seq_op ?hx (fun Q q0 q1 q2 => ?_)); (case hx => exact rfl); conv => whnf)
    | ((with_reducible refine cond_id ?_); (first | ((refine condKT rfl ?hy ?_); (case hy => first | assumption | exact notT (by assumption) | exact rfl)) | ((refine condKF rfl ?hy ?_); (case hy => first | assumption | exact notF (by assumption) | exact rfl)) | (revert hF; (with_reducible refine condF ?hx ?_ ?_); (case hx => exact rfl); all_goals (intro hc hF))))
    | ((with_reducible refine seq_nil ?_); (first | ((with_reducible refine hR _ ?_); clear R hR) | ((with_reducible refine hL _ ?_); clear L hL)))
    | ((with_reducible first | refine int_step ?_ | refine len_step ?_ | refine idx2 (by assumption) ?_ | refine idx3 (by assumption) ?_); conv => whnf)
    | (with_reducible first | refine vc_block ?_ | refine vc_skip ?_ | refine vc_ret ?_ | refine vc_exit ?_ | refine vc_region (fun R hR => ?_) | refine k_seq_ret ?_ | refine k_seq_exit ?_ | refine k_blk ?_ | refine k_blk_ret ?_ | refine k_blk_here ?_ | refine k_loop_ret ?_ | refine k_loop_exit ?_)
    | ((with_reducible refine vc_seqN [8] ?hx ?_); (case hx => exact rfl))
    | (revert hF; (refine Lp.cut0 Lf20_c8 f20_c8 8 rfl rfl ?_ ?_); (intro hF); rotate_left; (rintro _ hF; dsimp only [Lf20_c8] at hF; unfold f20_c8 at hF); rotate_right)
    | exact Lp.head Ef20_c8 hF () ⟨_, rfl, rfl, rfl, rfl⟩ rfl
    | (revert hF; (refine Lp.loop Ef20_4 () rfl ⟨_, rfl, rfl, rfl, rfl⟩ rfl (fun _ => rfl) ?_); rintro n i3 hF; dsimp only [Lf20_4, f20_4] at hF; unfold f20_4b at hF)
    | exact Lp.back Ef20_4 hF () ⟨_, rfl, rfl, rfl, rfl⟩ rfl
    | ((with_reducible first | refine k_blk_out ?hx ?_ | refine vc_condT ?hx ?_); (case hx => exact rfl))
    | (revert hF; (with_reducible refine idx1 ?hn ?_); (case hn => first | exact rfl | exact (List.length_map _) | assumption | omega | simp); intro x hx hF; conv => whnf)
    | ((refine row_all ?hn ?_); (case hn => first | exact rfl | (simp; done) | (simp; omega)); conv => whnf)
    | ((with_reducible refine le_step ?hn ?_); (case hn => first | exact rfl | assumption | omega); conv => whnf)
    | ((refine ⟨?hx, ?_⟩); (case hx => exact ⟨rfl, Nat.le_of_ble_eq_true rfl, rfl⟩); conv => whnf)
    | ((with_reducible refine ex_step ?_); conv => whnf)
    | ((with_reducible refine both_T ?hx ?_); (case hx => first | exact rfl | assumption | exact notT (by assumption)); conv => whnf)
    | ((with_reducible refine both_F ?hx ?_); (case hx => first | exact rfl | assumption | exact notF (by assumption)); conv => whnf)
    | (revert hF; (with_reducible refine ite_step ?_ ?_) <;> (intro hc hF; conv => whnf))
    | ((with_reducible refine vc_condF ?hx ?_); (case hx => exact rfl))
    | (show retD _ _ _ _ _ _; conv => whnf)
    | ((refine ⟨?hx, trivial⟩); (case hx => (cases hF; exact rfl)))
    | ((refine ⟨?hx, ?_⟩); (case hx => decide); conv => whnf)
    | with_reducible refine k_seq ?_
    | (have hF : (none : Option _) = some _ := hF; cases hF))
end
end Go.Vc
namespace Go.Vc
open Go.Proofs
set_option linter.unusedVariables false
set_option linter.unnecessarySimpa false
set_option linter.unusedSimpArgs false
section
variable {c : Ctx} {p nid : Nat} {a b : Code} {st : St} {K : Ex → St → Prop}
/- f57: tusche/tuscheref01.Is -/
def f57 (N : Nat) (a0 : Int) (a1 : Int) (a2 : Int) : Option (Bool) :=
 bif decide (a1 ≤ a0) then (some (decide (a0 ≤ a2)))
 else (some (false))
def G57 (ds : List D) (d : D) : Prop := ∃ (N : Nat) (a0 : Int) (a1 : Int) (a2 : Int) (r : Bool), ds = [iN a0, iN a1, iN a2] ∧ f57 N a0 a1 a2 = some r ∧ d = bN r
theorem G57.lend {N : Nat} {a0 : Int} {a1 : Int} {a2 : Int} {ρ : Type} {A : Bool → Option ρ} {q : ρ} {ds : List D} {K : D → Prop} (hd : ds = [iN a0, iN a1, iN a2]) (h : ∀ r, A r = some q → K (bN r)) (hF : (f57 N a0 a1 a2).bind A = some q) : ∃ d, (G57 ds d ∧ d.flatB = true) ∧ K d := by
  obtain ⟨r, hr, hA⟩ := bind_some hF
  exact ⟨_, ⟨⟨N, a0, a1, a2, r, hd, hr, rfl⟩, rfl⟩, h r hA⟩
theorem G57.step {N : Nat} {a0 : Int} {a1 : Int} {a2 : Int} {ρ : Type} {A : Bool → Option ρ} {q : ρ} {ds : List D} {K : D → Prop} (hd : ds = [iN a0, iN a1, iN a2]) (h : ∀ r, A r = some q → K (bN r)) (hF : (f57 N a0 a1 a2).bind A = some q) : ∃ d, G57 ds d ∧ K d := by
  obtain ⟨r, hr, hA⟩ := bind_some hF
  exact ⟨_, ⟨N, a0, a1, a2, r, hd, hr, rfl⟩, h r hA⟩
set_option maxRecDepth 20000 in
set_option maxHeartbeats 4000000 in
theorem P57 : PureOK Try.prog 57 G57 := by
  refine pure_of_vc (c := mkCtx tyTree []) rfl tyOK (ctx_nil) [[0]] 3 Try.func57 rfl rfl (by decide) (by kernel_rfl) ?_
  rintro ds d ⟨N, a0, a1, a2, r, rfl, hF, rfl⟩ hok
  clear hok
  refine ⟨rfl, ?_⟩
  show vc _ _ _ _ ⟨[(0, .dat (iN a0)), (1, .dat (iN a1)), (2, .dat (iN a2))], []⟩ _
  unfold f57 at hF
  repeat' (first
    | ((with_reducible first | refine q0 _ _ ?_ | refine q1 _ _ _ _ ?_ | refine q2 _ _ _ ?_); clear Q q0 q1 q2)
    | ((with_reducible first | refine seq_op ?hx (fun Q q0 q1 q2 => ?_)); (case hx => exact rfl); conv => whnf)
    | ((with_reducible first | refine seq_off ?hx ?_ | refine seq_off0 ?hx ?_); (case hx => exact rfl))
    | ((with_reducible refine seq_id ?_); (first | ((first | refine seq_opK rfl ?hy (fun Q q0 q1 q2 => ?_) | refine seq_opK0 rfl ?hy (fun Q q0 q1 q2 => ?_)); (case hy => first | assumption | exact notT (by assumption) | exact rfl); conv => whnf) | ((first | refine seq_offK rfl ?hy ?_ | refine seq_offK0 rfl ?hy ?_); (case hy => first | assumption | exact notF (by assumption) | exact rfl)) | (revert hF; (with_reducible first | refine seq_opF ?hx ?_ ?_ | refine seq_opF0 ?hx ?_ ?_); (case hx => exact rfl); (intro hc hF Q q0 q1 q2; conv => whnf); rotate_left; (intro hc hF); rotate_right) | (revert hF; (with_reducible first | refine seq_opN ?hx ?_ ?_ | refine seq_opN0 ?hx ?_ ?_); (case hx => exact rfl); (intro hc hF); rotate_left; (intro hc hF Q q0 q1 q2; conv => whnf); rotate_right)))
    | ((with_reducible refine seq_nil ?_); (first | ((with_reducible refine hR _ ?_); clear R hR) | ((with_reducible refine hL _ ?_); clear L hL)))
    | ((with_reducible first | refine int_step ?_); conv => whnf)
    | (with_reducible first | refine vc_skip ?_ | refine vc_ret ?_ | refine vc_region (fun R hR => ?_) | refine k_seq_ret ?_)
    | ((with_reducible refine vc_seqN [] ?hx ?_); (case hx => exact rfl))
    | ((refine row_all ?hn ?_); (case hn => first | exact rfl | (simp; done) | (simp; omega)); conv => whnf)
    | ((with_reducible refine le_step ?hn ?_); (case hn => first | exact rfl | assumption | omega); conv => whnf)
    | ((refine ⟨?hx, ?_⟩); (case hx => exact ⟨rfl, Nat.le_of_ble_eq_true rfl, rfl⟩); conv => whnf)
    | ((with_reducible refine ex_step ?_); conv => whnf)
    | ((with_reducible refine both_T ?hx ?_); (case hx => first | exact rfl | assumption | exact notT (by assumption)); conv => whnf)
    | ((with_reducible refine both_F ?hx ?_); (case hx => first | exact rfl | assumption | exact notF (by assumption)); conv => whnf)
    | (revert hF; (with_reducible refine ite_step ?_ ?_) <;> (intro hc hF; conv => whnf))
    | (show retD _ _ _ _ _ _; conv => whnf)
    | ((refine ⟨?hx, trivial⟩); (case hx => (cases hF; exact rfl)))
    | ((refine ⟨?hx, ?_⟩); (case hx => decide); conv => whnf)
    | with_reducible refine k_seq ?_
    | (have hF : (none : Option _) = some _ := hF; cases hF))
end
end Go.Vc
namespace Go.Vc
open Go.Proofs
set_option linter.unusedVariables false
set_option linter.unnecessarySimpa false
set_option linter.unusedSimpArgs false
section
variable {c : Ctx} {p nid : Nat} {a b : Code} {st : St} {K : Ex → St → Prop}
/- f50: tusche/tuscheref01.Check -/
def f50_c27 : Option (Int) :=
 some ((0 : Int))
def Lf50_c27 : Lp (Unit) Unit (Int) := lp0 ⟨[], [], [], []⟩ (fun _ => []) (fun _ => []) (fun _ => f50_c27)
theorem Ef50_c27 : (Lf50_c27).E () = f50_c27 := rfl
def f50_c18 (a0 : List (List Int)) (v6 : Int) (r17 : Int → Option (Int)) : Option (Int) :=
 r17 (W (v6 + (1 : Int)))
def Lf50_c18 (a0 : List (List Int)) (v6 : Int) (r17 : Int → Option (Int)) : Lp (Unit) Unit (Int) := lp0 ⟨[0, 6], [], [], []⟩ (fun _ => [.dat (sl_sl_iN a0), .dat (iN v6)]) (fun _ => []) (fun _ => f50_c18 a0 v6 r17)
theorem Ef50_c18 {a0 v6 r17} : (Lf50_c18 a0 v6 r17).E () = f50_c18 a0 v6 r17 := rfl
def f50_c21 (a0 : List (List Int)) (v6 : Int) (v7 : Int) (r20 : Int → Option (Int)) : Option (Int) :=
 r20 (W (v7 + (1 : Int)))
def Lf50_c21 (a0 : List (List Int)) (v6 : Int) (v7 : Int) (r20 : Int → Option (Int)) : Lp (Unit) Unit (Int) := lp0 ⟨[0, 6, 7], [], [], []⟩ (fun _ => [.dat (sl_sl_iN a0), .dat (iN v6), .dat (iN v7)]) (fun _ => []) (fun _ => f50_c21 a0 v6 v7 r20)
theorem Ef50_c21 {a0 v6 v7 r20} : (Lf50_c21 a0 v6 v7 r20).E () = f50_c21 a0 v6 v7 r20 := rfl
def f50_23b (r23 : Int → Option (Int)) (a0 : List (List Int)) (v6 : Int) (v7 : Int) (k2 : Option (Int)) (v8 : Int) : Option (Int) :=
 bif decide (v8 < v7) then ((ix a0 v6).bind fun x2 =>
 (ix x2 v7).bind fun x3 =>
 (ix a0 v6).bind fun x4 =>
 (ix x4 v8).bind fun x5 =>
 bif decide (x3 = x5) then (some ((6 : Int)))
 else ((ix a0 v7).bind fun x6 =>
 (ix x6 v6).bind fun x7 =>
 (ix a0 v8).bind fun x8 =>
 (ix x8 v6).bind fun x9 =>
 bif decide (x7 = x9) then (some ((6 : Int)))
 else (r23 (W (v8 + (1 : Int))))))
 else k2
def f50_23 (a0 : List (List Int)) (v6 : Int) (v7 : Int) (k2 : Option (Int)) : Nat → Int → Option (Int)
  | 0, _ => none
  | n + 1, v8 => f50_23b (f50_23 a0 v6 v7 k2 n) a0 v6 v7 k2 v8
def Lf50_23 (a0 : List (List Int)) (v6 : Int) (v7 : Int) (k2 : Option (Int)) : Lp (Nat × Int) Unit (Int) := lp0 ⟨[0, 6, 7, 8], [], [], []⟩ (fun (_, v8) => [.dat (sl_sl_iN a0), .dat (iN v6), .dat (iN v7), .dat (iN v8)]) (fun (_, _) => []) (fun (n, v8) => f50_23 a0 v6 v7 k2 n v8)
theorem Ef50_23 {a0 v6 v7 k2 n v8} : (Lf50_23 a0 v6 v7 k2).E (n, v8) = f50_23 a0 v6 v7 k2 n v8 := rfl
def f50_20b (r20 : Int → Option (Int)) (a0 : List (List Int)) (N : Nat) (v6 : Int) (k1 : Option (Int)) (v7 : Int) : Option (Int) :=
 bif decide (v7 < (List.length a0 : Int)) then (joinK (f50_c21 a0 v6 v7 r20) fun k2 =>
 f50_23 a0 v6 v7 k2 N (0 : Int))
 else k1
def f50_20 (a0 : List (List Int)) (N : Nat) (v6 : Int) (k1 : Option (Int)) : Nat → Int → Option (Int)
  | 0, _ => none
  | n + 1, v7 => f50_20b (f50_20 a0 N v6 k1 n) a0 N v6 k1 v7
def Lf50_20 (a0 : List (List Int)) (N : Nat) (v6 : Int) (k1 : Option (Int)) : Lp (Nat × Int) Unit (Int) := lp0 ⟨[0, 6, 7], [], [], []⟩ (fun (_, v7) => [.dat (sl_sl_iN a0), .dat (iN v6), .dat (iN v7)]) (fun (_, _) => []) (fun (n, v7) => f50_20 a0 N v6 k1 n v7)
theorem Ef50_20 {a0 N v6 k1 n v7} : (Lf50_20 a0 N v6 k1).E (n, v7) = f50_20 a0 N v6 k1 n v7 := rfl
def f50_17b (r17 : Int → Option (Int)) (a0 : List (List Int)) (N : Nat) (k0 : Option (Int)) (v6 : Int) : Option (Int) :=
 bif decide (v6 < (List.length a0 : Int)) then (joinK (f50_c18 a0 v6 r17) fun k1 =>
 f50_20 a0 N v6 k1 N (0 : Int))
 else k0
def f50_17 (a0 : List (List Int)) (N : Nat) (k0 : Option (Int)) : Nat → Int → Option (Int)
  | 0, _ => none
  | n + 1, v6 => f50_17b (f50_17 a0 N k0 n) a0 N k0 v6
def Lf50_17 (a0 : List (List Int)) (N : Nat) (k0 : Option (Int)) : Lp (Nat × Int) Unit (Int) := lp0 ⟨[0, 6], [], [], []⟩ (fun (_, v6) => [.dat (sl_sl_iN a0), .dat (iN v6)]) (fun (_, _) => []) (fun (n, v6) => f50_17 a0 N k0 n v6)
theorem Ef50_17 {a0 N k0 n v6} : (Lf50_17 a0 N k0).E (n, v6) = f50_17 a0 N k0 n v6 := rfl
def f50_c16 (a0 : List (List Int)) (N : Nat) : Option (Int) :=
 joinK f50_c27 fun k0 =>
 f50_17 a0 N k0 N (0 : Int)
def Lf50_c16 (a0 : List (List Int)) (N : Nat) : Lp (Unit) Unit (Int) := lp0 ⟨[0], [], [], []⟩ (fun _ => [.dat (sl_sl_iN a0)]) (fun _ => []) (fun _ => f50_c16 a0 N)
theorem Ef50_c16 {a0 N} : (Lf50_c16 a0 N).E () = f50_c16 a0 N := rfl
def f50_c10 (a0 : List (List Int)) (v4 : Int) (r9 : Int → Option (Int)) : Option (Int) :=
 r9 (W (v4 + (1 : Int)))
def Lf50_c10 (a0 : List (List Int)) (v4 : Int) (r9 : Int → Option (Int)) : Lp (Unit) Unit (Int) := lp0 ⟨[0, 4], [], [], []⟩ (fun _ => [.dat (sl_sl_iN a0), .dat (iN v4)]) (fun _ => []) (fun _ => f50_c10 a0 v4 r9)
theorem Ef50_c10 {a0 v4 r9} : (Lf50_c10 a0 v4 r9).E () = f50_c10 a0 v4 r9 := rfl
def f50_12b (r12 : Int → Option (Int)) (a0 : List (List Int)) (N : Nat) (v4 : Int) (k4 : Option (Int)) (v5 : Int) : Option (Int) :=
 bif decide (v5 < (List.length a0 : Int)) then ((ix a0 v4).bind fun x10 =>
 (ix x10 v5).bind fun x11 =>
 (f57 N x11 (0 : Int) (W ((List.length a0 : Int) - (1 : Int)))).bind fun x12 =>
 bif !x12 then (some ((4 : Int)))
 else (r12 (W (v5 + (1 : Int)))))
 else k4
def f50_12 (a0 : List (List Int)) (N : Nat) (v4 : Int) (k4 : Option (Int)) : Nat → Int → Option (Int)
  | 0, _ => none
  | n + 1, v5 => f50_12b (f50_12 a0 N v4 k4 n) a0 N v4 k4 v5
def Lf50_12 (a0 : List (List Int)) (N : Nat) (v4 : Int) (k4 : Option (Int)) : Lp (Nat × Int) Unit (Int) := lp0 ⟨[0, 4, 5], [], [], []⟩ (fun (_, v5) => [.dat (sl_sl_iN a0), .dat (iN v4), .dat (iN v5)]) (fun (_, _) => []) (fun (n, v5) => f50_12 a0 N v4 k4 n v5)
theorem Ef50_12 {a0 N v4 k4 n v5} : (Lf50_12 a0 N v4 k4).E (n, v5) = f50_12 a0 N v4 k4 n v5 := rfl
def f50_9b (r9 : Int → Option (Int)) (a0 : List (List Int)) (N : Nat) (k3 : Option (Int)) (v4 : Int) : Option (Int) :=
 bif decide (v4 < (List.length a0 : Int)) then (joinK (f50_c10 a0 v4 r9) fun k4 =>
 f50_12 a0 N v4 k4 N (0 : Int))
 else k3
def f50_9 (a0 : List (List Int)) (N : Nat) (k3 : Option (Int)) : Nat → Int → Option (Int)
  | 0, _ => none
  | n + 1, v4 => f50_9b (f50_9 a0 N k3 n) a0 N k3 v4
def Lf50_9 (a0 : List (List Int)) (N : Nat) (k3 : Option (Int)) : Lp (Nat × Int) Unit (Int) := lp0 ⟨[0, 4], [], [], []⟩ (fun (_, v4) => [.dat (sl_sl_iN a0), .dat (iN v4)]) (fun (_, _) => []) (fun (n, v4) => f50_9 a0 N k3 n v4)
theorem Ef50_9 {a0 N k3 n v4} : (Lf50_9 a0 N k3).E (n, v4) = f50_9 a0 N k3 n v4 := rfl
def f50_c8 (a0 : List (List Int)) (N : Nat) : Option (Int) :=
 joinK (f50_c16 a0 N) fun k3 =>
 f50_9 a0 N k3 N (0 : Int)
def Lf50_c8 (a0 : List (List Int)) (N : Nat) : Lp (Unit) Unit (Int) := lp0 ⟨[0], [], [], []⟩ (fun _ => [.dat (sl_sl_iN a0)]) (fun _ => []) (fun _ => f50_c8 a0 N)
theorem Ef50_c8 {a0 N} : (Lf50_c8 a0 N).E () = f50_c8 a0 N := rfl
def f50_4b (r4 : Int → Option (Int)) (a0 : List (List Int)) (k5 : Option (Int)) (v3 : Int) : Option (Int) :=
 bif decide (v3 < (List.length a0 : Int)) then ((ix a0 v3).bind fun x13 =>
 bif decide (¬ (List.length x13 : Int) = (List.length a0 : Int)) then (some ((3 : Int)))
 else (r4 (W (v3 + (1 : Int)))))
 else k5
def f50_4 (a0 : List (List Int)) (k5 : Option (Int)) : Nat → Int → Option (Int)
  | 0, _ => none
  | n + 1, v3 => f50_4b (f50_4 a0 k5 n) a0 k5 v3
def Lf50_4 (a0 : List (List Int)) (k5 : Option (Int)) : Lp (Nat × Int) Unit (Int) := lp0 ⟨[0, 3], [], [], []⟩ (fun (_, v3) => [.dat (sl_sl_iN a0), .dat (iN v3)]) (fun (_, _) => []) (fun (n, v3) => f50_4 a0 k5 n v3)
theorem Ef50_4 {a0 k5 n v3} : (Lf50_4 a0 k5).E (n, v3) = f50_4 a0 k5 n v3 := rfl
def f50 (N : Nat) (a0 : List (List Int)) : Option (Int) :=
 (f57 N (List.length a0 : Int) (2 : Int) (10 : Int)).bind fun x1 =>
 bif !x1 then (some ((3 : Int)))
 else (joinK (f50_c8 a0 N) fun k5 =>
 f50_4 a0 k5 N (0 : Int))
def G50 (ds : List D) (d : D) : Prop := ∃ (N : Nat) (a0 : List (List Int)) (r : Int), ds = [sl_sl_iN a0] ∧ f50 N a0 = some r ∧ d = iN r
theorem G50.lend {N : Nat} {a0 : List (List Int)} {ρ : Type} {A : Int → Option ρ} {q : ρ} {ds : List D} {K : D → Prop} (hd : ds = [sl_sl_iN a0]) (h : ∀ r, A r = some q → K (iN r)) (hF : (f50 N a0).bind A = some q) : ∃ d, (G50 ds d ∧ d.flatB = true) ∧ K d := by
  obtain ⟨r, hr, hA⟩ := bind_some hF
  exact ⟨_, ⟨⟨N, a0, r, hd, hr, rfl⟩, rfl⟩, h r hA⟩
theorem G50.step {N : Nat} {a0 : List (List Int)} {ρ : Type} {A : Int → Option ρ} {q : ρ} {ds : List D} {K : D → Prop} (hd : ds = [sl_sl_iN a0]) (h : ∀ r, A r = some q → K (iN r)) (hF : (f50 N a0).bind A = some q) : ∃ d, G50 ds d ∧ K d := by
  obtain ⟨r, hr, hA⟩ := bind_some hF
  exact ⟨_, ⟨N, a0, r, hd, hr, rfl⟩, h r hA⟩
set_option maxRecDepth 20000 in
set_option maxHeartbeats 4000000 in
theorem P50 : PureOK Try.prog 50 G50 := by
  refine pure_of_vc (c := mkCtx tyTree [(57, true, lendPg [[0], [0], [0]] G57)]) rfl tyOK (ctx_lend (callable Try.func57 rfl rfl) P57 (ctx_nil)) [[0]] 1 Try.func50 rfl rfl (by decide) (by kernel_rfl) ?_
  rintro ds d ⟨N, a0, r, rfl, hF, rfl⟩ hok
  clear hok
  refine ⟨rfl, ?_⟩
  show vc _ _ _ _ ⟨[(0, .dat (sl_sl_iN a0))], []⟩ _
  unfold f50 at hF
  repeat' (first
    | ((with_reducible first | refine q0 _ _ ?_ | refine q1 _ _ _ _ ?_ | refine q2 _ _ _ ?_); clear Q q0 q1 q2)
    | ((with_reducible first | refine seq_op ?hx (fun Q q0 q1 q2 => ?_) | refine draw_op ?hx (fun Q q0 q1 q2 => ?_)); (case hx => exact rfl); conv => whnf)
    | ((with_reducible first | refine seq_off ?hx ?_ | refine seq_off0 ?hx ?_ | refine draw_off ?hx ?_ | refine draw_off0 ?hx ?_ | refine k_blk_out ?hx ?_ | refine vc_condT ?hx ?_); (case hx => exact rfl))
    | ((with_reducible refine draw_id ?_); (first | ((first | refine draw_opK rfl ?hy (fun Q q0 q1 q2 => ?_) | refine draw_opK0 rfl ?hy (fun Q q0 q1 q2 => ?_)); (case hy => first | assumption | exact notT (by assumption) | exact rfl); conv => whnf) | ((first | refine draw_offK rfl ?hy ?_ | refine draw_offK0 rfl ?hy ?_); (case hy => first | assumption | exact notF (by assumption) | exact rfl)) | (revert hF; (with_reducible first | refine draw_opF ?hx ?_ ?_ | refine draw_opF0 ?hx ?_ ?_); (case hx => exact rfl); (intro hc hF Q q0 q1 q2; conv => whnf); rotate_left; (intro hc hF); rotate_right) | (revert hF; (with_reducible first | refine draw_opN ?hx ?_ ?_ | refine draw_opN0 ?hx ?_ ?_); (case hx => exact rfl); (intro hc hF); rotate_left; (intro hc hF Q q0 q1 q2; conv => whnf); rotate_right)))
    | ((with_reducible refine cond_id ?_); (first | ((refine condKT rfl ?hy ?_); (case hy => first | assumption | exact notT (by assumption) | exact rfl)) | ((refine condKF rfl ?hy ?_); (case hy => first | assumption | exact notF (by assumption) | exact rfl)) | (revert hF; (with_reducible refine condF ?hx ?_ ?_); (case hx => exact rfl); all_goals (intro hc hF))))
    | ((with_reducible refine seq_nil ?_); (first | ((with_reducible refine hR _ ?_); clear R hR) | ((with_reducible refine hL _ ?_); clear L hL)))
    | ((with_reducible refine draw_nil ?_); (with_reducible refine hR _ _ ?hx ?_); (case hx => kernel_rfl); (first | clear R hR | clear hR))
    | ((with_reducible first | refine int_step ?_ | refine len_step ?_ | refine idx2 (by assumption) ?_ | refine idx3 (by assumption) ?_); conv => whnf)
    | (with_reducible first | refine vc_block ?_ | refine vc_skip ?_ | refine vc_ret ?_ | refine vc_exit ?_ | refine vc_region (fun R hR => ?_) | refine k_seq_ret ?_ | refine k_seq_exit ?_ | refine k_blk ?_ | refine k_blk_ret ?_ | refine k_blk_here ?_ | refine k_loop_ret ?_ | refine k_loop_exit ?_)
    | ((with_reducible refine vc_seqN [27, 18, 21, 16, 10, 8] ?hx ?_); (case hx => exact rfl))
    | ((with_reducible refine vc_draw ?hx (fun R hR => ?_)); (case hx => exact rfl))
    | (revert hF; (refine Lp.cut0 Lf50_c27 f50_c27 27 rfl rfl ?_ ?_); (intro hF); rotate_left; (rintro _ hF; dsimp only [Lf50_c27] at hF; unfold f50_c27 at hF); rotate_right)
    | exact Lp.head Ef50_c27 hF () ⟨_, rfl, rfl, rfl, rfl⟩ rfl
    | (revert hF; (refine Lp.cut3 Lf50_c18 f50_c18 18 rfl rfl ?_ ?_); (intro hF); rotate_left; (rintro _ hF; dsimp only [Lf50_c18] at hF; unfold f50_c18 at hF); rotate_right)
    | exact Lp.head Ef50_c18 hF () ⟨_, rfl, rfl, rfl, rfl⟩ rfl
    | (revert hF; (refine Lp.cut4 Lf50_c21 f50_c21 21 rfl rfl ?_ ?_); (intro hF); rotate_left; (rintro _ hF; dsimp only [Lf50_c21] at hF; unfold f50_c21 at hF); rotate_right)
    | exact Lp.head Ef50_c21 hF () ⟨_, rfl, rfl, rfl, rfl⟩ rfl
    | (revert hF; (refine Lp.loop Ef50_23 () rfl ⟨_, rfl, rfl, rfl, rfl⟩ rfl (fun _ => rfl) ?_); rintro n v8 hF; dsimp only [Lf50_23, f50_23] at hF; unfold f50_23b at hF)
    | exact Lp.back Ef50_23 hF () ⟨_, rfl, rfl, rfl, rfl⟩ rfl
    | (revert hF; (refine Lp.loop Ef50_20 () rfl ⟨_, rfl, rfl, rfl, rfl⟩ rfl (fun _ => rfl) ?_); rintro n v7 hF; dsimp only [Lf50_20, f50_20] at hF; unfold f50_20b at hF)
    | exact Lp.back Ef50_20 hF () ⟨_, rfl, rfl, rfl, rfl⟩ rfl
    | (revert hF; (refine Lp.loop Ef50_17 () rfl ⟨_, rfl, rfl, rfl, rfl⟩ rfl (fun _ => rfl) ?_); rintro n v6 hF; dsimp only [Lf50_17, f50_17] at hF; unfold f50_17b at hF)
    | exact Lp.back Ef50_17 hF () ⟨_, rfl, rfl, rfl, rfl⟩ rfl
    | (revert hF; (refine Lp.cut2 Lf50_c16 f50_c16 16 rfl rfl ?_ ?_); (intro hF); rotate_left; (rintro _ hF; dsimp only [Lf50_c16] at hF; unfold f50_c16 at hF); rotate_right)
    | exact Lp.head Ef50_c16 hF () ⟨_, rfl, rfl, rfl, rfl⟩ rfl
    | (revert hF; (refine Lp.cut3 Lf50_c10 f50_c10 10 rfl rfl ?_ ?_); (intro hF); rotate_left; (rintro _ hF; dsimp only [Lf50_c10] at hF; unfold f50_c10 at hF); rotate_right)
    | exact Lp.head Ef50_c10 hF () ⟨_, rfl, rfl, rfl, rfl⟩ rfl
    | (revert hF; (refine Lp.loop Ef50_12 () rfl ⟨_, rfl, rfl, rfl, rfl⟩ rfl (fun _ => rfl) ?_); rintro n v5 hF; dsimp only [Lf50_12, f50_12] at hF; unfold f50_12b at hF)
    | exact Lp.back Ef50_12 hF () ⟨_, rfl, rfl, rfl, rfl⟩ rfl
    | (revert hF; (refine Lp.loop Ef50_9 () rfl ⟨_, rfl, rfl, rfl, rfl⟩ rfl (fun _ => rfl) ?_); rintro n v4 hF; dsimp only [Lf50_9, f50_9] at hF; unfold f50_9b at hF)
    | exact Lp.back Ef50_9 hF () ⟨_, rfl, rfl, rfl, rfl⟩ rfl
    | (revert hF; (refine Lp.cut2 Lf50_c8 f50_c8 8 rfl rfl ?_ ?_); (intro hF); rotate_left; (rintro _ hF; dsimp only [Lf50_c8] at hF; unfold f50_c8 at hF); rotate_right)
    | exact Lp.head Ef50_c8 hF () ⟨_, rfl, rfl, rfl, rfl⟩ rfl
    | (revert hF; (refine Lp.loop Ef50_4 () rfl ⟨_, rfl, rfl, rfl, rfl⟩ rfl (fun _ => rfl) ?_); rintro n v3 hF; dsimp only [Lf50_4, f50_4] at hF; unfold f50_4b at hF)
    | exact Lp.back Ef50_4 hF () ⟨_, rfl, rfl, rfl, rfl⟩ rfl
    | (revert hF; (with_reducible refine G57.lend ?hx ?_); (case hx => exact rfl); intro v hF; conv => whnf)
    | (revert hF; (with_reducible refine idx1 ?hn ?_); (case hn => first | exact rfl | exact (List.length_map _) | assumption | omega | simp); intro x hx hF; conv => whnf)
    | ((refine row_all ?hn ?_); (case hn => first | exact rfl | (simp; done) | (simp; omega)); conv => whnf)
    | ((with_reducible refine le_step ?hn ?_); (case hn => first | exact rfl | assumption | omega); conv => whnf)
    | ((refine ⟨?hx, ?_⟩); (case hx => exact ⟨rfl, Nat.le_of_ble_eq_true rfl, rfl⟩); conv => whnf)
    | ((with_reducible refine ex_step ?_); conv => whnf)
    | ((with_reducible refine both_T ?hx ?_); (case hx => first | exact rfl | assumption | exact notT (by assumption)); conv => whnf)
    | ((with_reducible refine both_F ?hx ?_); (case hx => first | exact rfl | assumption | exact notF (by assumption)); conv => whnf)
    | (revert hF; (with_reducible refine ite_step ?_ ?_) <;> (intro hc hF; conv => whnf))
    | ((with_reducible refine vc_condF ?hx ?_); (case hx => exact rfl))
    | (show retD _ _ _ _ _ _; conv => whnf)
    | ((refine ⟨?hx, trivial⟩); (case hx => (cases hF; exact rfl)))
    | ((refine ⟨?hx, ?_⟩); (case hx => decide); conv => whnf)
    | with_reducible refine k_seq ?_
    | (have hF : (none : Option _) = some _ := hF; cases hF))
end
end Go.Vc
namespace Go.Vc
open Go.Proofs
set_option linter.unusedVariables false
set_option linter.unnecessarySimpa false
set_option linter.unusedSimpArgs false
section
variable {c : Ctx} {p nid : Nat} {a b : Code} {st : St} {K : Ex → St → Prop}
/- f60: tusche/tuscheref01.digits -/
def f60_c9 (e5' : Int) : Option (Int) :=
 some (e5')
def Lf60_c9 : Lp (Int) Unit (Int) := lp0 ⟨[5], [], [], []⟩ (fun e5' => [.dat (iN (e5'))]) (fun _ => []) (fun e5' => f60_c9 e5')
theorem Ef60_c9 {e5'} : (Lf60_c9).E e5' = f60_c9 e5' := rfl
def f60_5b (r5 : Int → Int → Option (Int)) (a0 : List (List Int)) (a1 : List Int) (N : Nat) (k0 : Int → Option (Int)) (e5' : Int) (i6 : Int) : Option (Int) :=
 bif decide (i6 < (List.length a1 : Int)) then (bif decide ((e5') = (0 : Int)) then ((ix a1 i6).bind fun x2 =>
 (f57 N x2 (0 : Int) (W ((List.length a0 : Int) - (1 : Int)))).bind fun x3 =>
 bif !x3 then (r5 (4 : Int) (W (i6 + (1 : Int))))
 else (r5 (e5') (W (i6 + (1 : Int)))))
 else (r5 (e5') (W (i6 + (1 : Int)))))
 else (k0 (e5'))
def f60_5 (a0 : List (List Int)) (a1 : List Int) (N : Nat) (k0 : Int → Option (Int)) : Nat → Int → Int → Option (Int)
  | 0, _, _ => none
  | n + 1, e5', i6 => f60_5b (f60_5 a0 a1 N k0 n) a0 a1 N k0 e5' i6
def Lf60_5 (a0 : List (List Int)) (a1 : List Int) (N : Nat) (k0 : Int → Option (Int)) : Lp (Nat × Int × Int) Unit (Int) := lp0 ⟨[0, 1, 5, 6], [], [], []⟩ (fun (_, e5', i6) => [.dat (sl_sl_iN a0), .dat (sl_iN a1), .dat (iN (e5')), .dat (iN i6)]) (fun (_, _, _) => []) (fun (n, e5', i6) => f60_5 a0 a1 N k0 n e5' i6)
theorem Ef60_5 {a0 a1 N k0 n e5' i6} : (Lf60_5 a0 a1 N k0).E (n, e5', i6) = f60_5 a0 a1 N k0 n e5' i6 := rfl
def f60_c4 (a0 : List (List Int)) (a1 : List Int) (N : Nat) (e5 : Int) : Option (Int) :=
 joinK f60_c9 fun k0 =>
 f60_5 a0 a1 N k0 N e5 (0 : Int)
def Lf60_c4 (a0 : List (List Int)) (a1 : List Int) (N : Nat) : Lp (Int) Unit (Int) := lp0 ⟨[0, 1, 5], [], [], []⟩ (fun e5 => [.dat (sl_sl_iN a0), .dat (sl_iN a1), .dat (iN e5)]) (fun _ => []) (fun e5 => f60_c4 a0 a1 N e5)
theorem Ef60_c4 {a0 a1 N e5} : (Lf60_c4 a0 a1 N).E e5 = f60_c4 a0 a1 N e5 := rfl
def f60 (N : Nat) (a0 : List (List Int)) (a1 : List Int) : Option (Int) :=
 (f50 N a0).bind fun x1 =>
 joinK (f60_c4 a0 a1 N) fun k1 =>
 bif decide (x1 = (0 : Int)) then (bif decide ((12 : Int) < (List.length a1 : Int)) then (k1 (2 : Int))
 else (k1 x1))
 else (k1 x1)
def G60 (ds : List D) (d : D) : Prop := ∃ (N : Nat) (a0 : List (List Int)) (a1 : List Int) (r : Int), ds = [sl_sl_iN a0, sl_iN a1] ∧ f60 N a0 a1 = some r ∧ d = iN r
theorem G60.lend {N : Nat} {a0 : List (List Int)} {a1 : List Int} {ρ : Type} {A : Int → Option ρ} {q : ρ} {ds : List D} {K : D → Prop} (hd : ds = [sl_sl_iN a0, sl_iN a1]) (h : ∀ r, A r = some q → K (iN r)) (hF : (f60 N a0 a1).bind A = some q) : ∃ d, (G60 ds d ∧ d.flatB = true) ∧ K d := by
  obtain ⟨r, hr, hA⟩ := bind_some hF
  exact ⟨_, ⟨⟨N, a0, a1, r, hd, hr, rfl⟩, rfl⟩, h r hA⟩
theorem G60.step {N : Nat} {a0 : List (List Int)} {a1 : List Int} {ρ : Type} {A : Int → Option ρ} {q : ρ} {ds : List D} {K : D → Prop} (hd : ds = [sl_sl_iN a0, sl_iN a1]) (h : ∀ r, A r = some q → K (iN r)) (hF : (f60 N a0 a1).bind A = some q) : ∃ d, G60 ds d ∧ K d := by
  obtain ⟨r, hr, hA⟩ := bind_some hF
  exact ⟨_, ⟨N, a0, a1, r, hd, hr, rfl⟩, h r hA⟩
set_option maxRecDepth 20000 in
set_option maxHeartbeats 4000000 in
theorem P60 : PureOK Try.prog 60 G60 := by
  refine pure_of_vc (c := mkCtx tyTree [(57, true, lendPg [[0], [0], [0]] G57), (50, true, lendPg [[1]] G50)]) rfl tyOK (ctx_lend (callable Try.func57 rfl rfl) P57 (ctx_lend (callable Try.func50 rfl rfl) P50 (ctx_nil))) [[0]] 2 Try.func60 rfl rfl (by decide) (by kernel_rfl) ?_
  rintro ds d ⟨N, a0, a1, r, rfl, hF, rfl⟩ hok
  clear hok
  refine ⟨rfl, ?_⟩
  show vc _ _ _ _ ⟨[(0, .dat (sl_sl_iN a0)), (1, .dat (sl_iN a1))], []⟩ _
  unfold f60 at hF
  repeat' (first
    | ((with_reducible first | refine q0 _ _ ?_ | refine q1 _ _ _ _ ?_ | refine q2 _ _ _ ?_); clear Q q0 q1 q2)
    | ((with_reducible first | refine seq_op ?hx (fun Q q0 q1 q2 => ?_)); (case hx => exact rfl); conv => whnf)
    | ((with_reducible first | refine seq_off ?hx ?_ | refine seq_off0 ?hx ?_ | refine k_blk_out ?hx ?_ | refine vc_condT ?hx ?_); (case hx => exact rfl))
    | ((with_reducible refine seq_id ?_); (first | ((first | refine seq_opK rfl ?hy (fun Q q0 q1 q2 => ?_) | refine seq_opK0 rfl ?hy (fun Q q0 q1 q2 => ?_)); (case hy => first | assumption | exact notT (by assumption) | exact rfl); conv => whnf) | ((first | refine seq_offK rfl ?hy ?_ | refine seq_offK0 rfl ?hy ?_); (case hy => first | assumption | exact notF (by assumption) | exact rfl)) | (revert hF; (with_reducible first | refine seq_opF ?hx ?_ ?_ | refine seq_opF0 ?hx ?_ ?_); (case hx => exact rfl); (intro hc hF Q q0 q1 q2; conv => whnf); rotate_left; (intro hc hF); rotate_right) | (revert hF; (with_reducible first | refine seq_opN ?hx ?_ ?_ | refine seq_opN0 ?hx ?_ ?_); (case hx => exact rfl); (intro hc hF); rotate_left; (intro hc hF Q q0 q1 q2; conv => whnf); rotate_right)))
    | ((with_reducible refine cond_id ?_); (first | ((refine condKT rfl ?hy ?_); (case hy => first | assumption | exact notT (by assumption) | exact rfl)) | ((refine condKF rfl ?hy ?_); (case hy => first | assumption | exact notF (by assumption) | exact rfl)) | (revert hF; (with_reducible refine condF ?hx ?_ ?_); (case hx => exact rfl); all_goals (intro hc hF))))
    | ((with_reducible refine seq_nil ?_); (first | ((with_reducible refine hR _ ?_); clear R hR) | ((with_reducible refine hL _ ?_); clear L hL)))
    | ((with_reducible first | refine int_step ?_ | refine len_step ?_ | refine idx2 (by assumption) ?_ | refine idx3 (by assumption) ?_); conv => whnf)
    | (with_reducible first | refine vc_block ?_ | refine vc_skip ?_ | refine vc_ret ?_ | refine vc_exit ?_ | refine vc_region (fun R hR => ?_) | refine k_seq_ret ?_ | refine k_seq_exit ?_ | refine k_blk ?_ | refine k_blk_ret ?_ | refine k_blk_here ?_ | refine k_loop_ret ?_ | refine k_loop_exit ?_)
    | ((with_reducible refine vc_seqN [9, 4] ?hx ?_); (case hx => exact rfl))
    | (revert hF; (refine Lp.cut0 Lf60_c9 f60_c9 9 rfl rfl ?_ ?_); (intro hF); rotate_left; (rintro e5' hF; dsimp only [Lf60_c9] at hF; unfold f60_c9 at hF); rotate_right)
    | exact Lp.head Ef60_c9 hF () ⟨_, rfl, rfl, rfl, rfl⟩ rfl
    | (revert hF; (refine Lp.loop Ef60_5 () rfl ⟨_, rfl, rfl, rfl, rfl⟩ rfl (fun _ => rfl) ?_); rintro n ⟨e5', i6⟩ hF; dsimp only [Lf60_5, f60_5] at hF; unfold f60_5b at hF)
    | exact Lp.back Ef60_5 hF () ⟨_, rfl, rfl, rfl, rfl⟩ rfl
    | (revert hF; (refine Lp.cut3 Lf60_c4 f60_c4 4 rfl rfl ?_ ?_); (intro hF); rotate_left; (rintro e5 hF; dsimp only [Lf60_c4] at hF; unfold f60_c4 at hF); rotate_right)
    | exact Lp.head Ef60_c4 hF () ⟨_, rfl, rfl, rfl, rfl⟩ rfl
    | (revert hF; (with_reducible refine G50.lend ?hx ?_); (case hx => exact rfl); intro v hF; conv => whnf)
    | (revert hF; (with_reducible refine G57.lend ?hx ?_); (case hx => exact rfl); intro v hF; conv => whnf)
    | (revert hF; (with_reducible refine idx1 ?hn ?_); (case hn => first | exact rfl | exact (List.length_map _) | assumption | omega | simp); intro x hx hF; conv => whnf)
    | ((refine row_all ?hn ?_); (case hn => first | exact rfl | (simp; done) | (simp; omega)); conv => whnf)
    | ((with_reducible refine le_step ?hn ?_); (case hn => first | exact rfl | assumption | omega); conv => whnf)
    | ((refine ⟨?hx, ?_⟩); (case hx => exact ⟨rfl, Nat.le_of_ble_eq_true rfl, rfl⟩); conv => whnf)
    | ((with_reducible refine ex_step ?_); conv => whnf)
    | ((with_reducible refine both_T ?hx ?_); (case hx => first | exact rfl | assumption | exact notT (by assumption)); conv => whnf)
    | ((with_reducible refine both_F ?hx ?_); (case hx => first | exact rfl | assumption | exact notF (by assumption)); conv => whnf)
    | (revert hF; (with_reducible refine ite_step ?_ ?_) <;> (intro hc hF; conv => whnf))
    | ((with_reducible refine vc_condF ?hx ?_); (case hx => exact rfl))
    | (show retD _ _ _ _ _ _; conv => whnf)
    | ((refine ⟨?hx, trivial⟩); (case hx => (cases hF; exact rfl)))
    | ((refine ⟨?hx, ?_⟩); (case hx => decide); conv => whnf)
    | with_reducible refine k_seq ?_
    | (have hF : (none : Option _) = some _ := hF; cases hF))
end
end Go.Vc
namespace Go.Vc
open Go.Proofs
set_option linter.unusedVariables false
set_option linter.unnecessarySimpa false
set_option linter.unusedSimpArgs false
section
variable {c : Ctx} {p nid : Nat} {a b : Code} {st : St} {K : Ex → St → Prop}
/- f61: tusche/tuscheref01.state -/
def f61_c6 (s5 : Int) : Option (Int) :=
 some (s5)
def Lf61_c6 : Lp (Int) Unit (Int) := lp0 ⟨[5], [], [], []⟩ (fun s5 => [.dat (iN s5)]) (fun _ => []) (fun s5 => f61_c6 s5)
theorem Ef61_c6 {s5} : (Lf61_c6).E s5 = f61_c6 s5 := rfl
def f61_3b (r3 : Int → Int → Option (Int)) (a0 : List (List Int)) (a1 : List Int) (k0 : Int → Option (Int)) (s5 : Int) (i6 : Int) : Option (Int) :=
 bif decide (i6 < (List.length a1 : Int)) then ((ix a0 s5).bind fun x1 =>
 (ix a1 i6).bind fun x2 =>
 (ix x1 x2).bind fun x3 =>
 r3 x3 (W (i6 + (1 : Int))))
 else (k0 s5)
def f61_3 (a0 : List (List Int)) (a1 : List Int) (k0 : Int → Option (Int)) : Nat → Int → Int → Option (Int)
  | 0, _, _ => none
  | n + 1, s5, i6 => f61_3b (f61_3 a0 a1 k0 n) a0 a1 k0 s5 i6
def Lf61_3 (a0 : List (List Int)) (a1 : List Int) (k0 : Int → Option (Int)) : Lp (Nat × Int × Int) Unit (Int) := lp0 ⟨[0, 1, 5, 6], [], [], []⟩ (fun (_, s5, i6) => [.dat (sl_sl_iN a0), .dat (sl_iN a1), .dat (iN s5), .dat (iN i6)]) (fun (_, _, _) => []) (fun (n, s5, i6) => f61_3 a0 a1 k0 n s5 i6)
theorem Ef61_3 {a0 a1 k0 n s5 i6} : (Lf61_3 a0 a1 k0).E (n, s5, i6) = f61_3 a0 a1 k0 n s5 i6 := rfl
def f61 (N : Nat) (a0 : List (List Int)) (a1 : List Int) : Option (Int) :=
 joinK f61_c6 fun k0 =>
 f61_3 a0 a1 k0 N (0 : Int) (0 : Int)
def G61 (ds : List D) (d : D) : Prop := ∃ (N : Nat) (a0 : List (List Int)) (a1 : List Int) (r : Int), ds = [sl_sl_iN a0, sl_iN a1] ∧ f61 N a0 a1 = some r ∧ d = iN r
theorem G61.lend {N : Nat} {a0 : List (List Int)} {a1 : List Int} {ρ : Type} {A : Int → Option ρ} {q : ρ} {ds : List D} {K : D → Prop} (hd : ds = [sl_sl_iN a0, sl_iN a1]) (h : ∀ r, A r = some q → K (iN r)) (hF : (f61 N a0 a1).bind A = some q) : ∃ d, (G61 ds d ∧ d.flatB = true) ∧ K d := by
  obtain ⟨r, hr, hA⟩ := bind_some hF
  exact ⟨_, ⟨⟨N, a0, a1, r, hd, hr, rfl⟩, rfl⟩, h r hA⟩
theorem G61.step {N : Nat} {a0 : List (List Int)} {a1 : List Int} {ρ : Type} {A : Int → Option ρ} {q : ρ} {ds : List D} {K : D → Prop} (hd : ds = [sl_sl_iN a0, sl_iN a1]) (h : ∀ r, A r = some q → K (iN r)) (hF : (f61 N a0 a1).bind A = some q) : ∃ d, G61 ds d ∧ K d := by
  obtain ⟨r, hr, hA⟩ := bind_some hF
  exact ⟨_, ⟨N, a0, a1, r, hd, hr, rfl⟩, h r hA⟩
set_option maxRecDepth 20000 in
set_option maxHeartbeats 4000000 in
theorem P61 : PureOK Try.prog 61 G61 := by
  refine pure_of_vc (c := mkCtx tyTree []) rfl tyOK (ctx_nil) [[0]] 2 Try.func61 rfl rfl (by decide) (by kernel_rfl) ?_
  rintro ds d ⟨N, a0, a1, r, rfl, hF, rfl⟩ hok
  clear hok
  refine ⟨rfl, ?_⟩
  show vc _ _ _ _ ⟨[(0, .dat (sl_sl_iN a0)), (1, .dat (sl_iN a1))], []⟩ _
  unfold f61 at hF
  repeat' (first
    | ((with_reducible first | refine q0 _ _ ?_ | refine q1 _ _ _ _ ?_ | refine q2 _ _ _ ?_); clear Q q0 q1 q2)
    | ((with_reducible first | refine seq_op ?hx (fun Q q0 q1 q2 => ?_) | refine draw_op ?hx (fun Q q0 q1 q2 => ?_)); (case hx => exact rfl); conv => whnf)
    | ((with_reducible refine cond_id ?_); (first | ((refine condKT rfl ?hy ?_); (case hy => first | assumption | exact notT (by assumption) | exact rfl)) | ((refine condKF rfl ?hy ?_); (case hy => first | assumption | exact notF (by assumption) | exact rfl)) | (revert hF; (with_reducible refine condF ?hx ?_ ?_); (case hx => exact rfl); all_goals (intro hc hF))))
    | ((with_reducible refine seq_nil ?_); (first | ((with_reducible refine hR _ ?_); clear R hR) | ((with_reducible refine hL _ ?_); clear L hL)))
    | ((with_reducible refine draw_nil ?_); (with_reducible refine hR _ _ ?hx ?_); (case hx => kernel_rfl); (first | clear R hR | clear hR))
    | ((with_reducible first | refine int_step ?_ | refine len_step ?_ | refine idx2 (by assumption) ?_ | refine idx3 (by assumption) ?_); conv => whnf)
    | (with_reducible first | refine vc_block ?_ | refine vc_skip ?_ | refine vc_ret ?_ | refine vc_exit ?_ | refine vc_region (fun R hR => ?_) | refine k_seq_ret ?_ | refine k_seq_exit ?_ | refine k_blk ?_ | refine k_blk_ret ?_ | refine k_blk_here ?_ | refine k_loop_ret ?_ | refine k_loop_exit ?_)
    | ((with_reducible refine vc_seqN [6] ?hx ?_); (case hx => exact rfl))
    | ((with_reducible refine vc_draw ?hx (fun R hR => ?_)); (case hx => exact rfl))
    | (revert hF; (refine Lp.cut0 Lf61_c6 f61_c6 6 rfl rfl ?_ ?_); (intro hF); rotate_left; (rintro s5 hF; dsimp only [Lf61_c6] at hF; unfold f61_c6 at hF); rotate_right)
    | exact Lp.head Ef61_c6 hF () ⟨_, rfl, rfl, rfl, rfl⟩ rfl
    | (revert hF; (refine Lp.loop Ef61_3 () rfl ⟨_, rfl, rfl, rfl, rfl⟩ rfl (fun _ => rfl) ?_); rintro n ⟨s5, i6⟩ hF; dsimp only [Lf61_3, f61_3] at hF; unfold f61_3b at hF)
    | exact Lp.back Ef61_3 hF () ⟨_, rfl, rfl, rfl, rfl⟩ rfl
    | ((with_reducible first | refine k_blk_out ?hx ?_ | refine vc_condT ?hx ?_); (case hx => exact rfl))
    | (revert hF; (with_reducible refine idx1 ?hn ?_); (case hn => first | exact rfl | exact (List.length_map _) | assumption | omega | simp); intro x hx hF; conv => whnf)
    | ((refine row_all ?hn ?_); (case hn => first | exact rfl | (simp; done) | (simp; omega)); conv => whnf)
    | ((with_reducible refine le_step ?hn ?_); (case hn => first | exact rfl | assumption | omega); conv => whnf)
    | ((refine ⟨?hx, ?_⟩); (case hx => exact ⟨rfl, Nat.le_of_ble_eq_true rfl, rfl⟩); conv => whnf)
    | ((with_reducible refine ex_step ?_); conv => whnf)
    | ((with_reducible refine both_T ?hx ?_); (case hx => first | exact rfl | assumption | exact notT (by assumption)); conv => whnf)
    | ((with_reducible refine both_F ?hx ?_); (case hx => first | exact rfl | assumption | exact notF (by assumption)); conv => whnf)
    | (revert hF; (with_reducible refine ite_step ?_ ?_) <;> (intro hc hF; conv => whnf))
    | ((with_reducible refine vc_condF ?hx ?_); (case hx => exact rfl))
    | (show retD _ _ _ _ _ _; conv => whnf)
    | ((refine ⟨?hx, trivial⟩); (case hx => (cases hF; exact rfl)))
    | ((refine ⟨?hx, ?_⟩); (case hx => decide); conv => whnf)
    | with_reducible refine k_seq ?_
    | (have hF : (none : Option _) = some _ := hF; cases hF))
end
end Go.Vc
namespace Go.Vc
open Go.Proofs
set_option linter.unusedVariables false
set_option linter.unnecessarySimpa false
set_option linter.unusedSimpArgs false
section
variable {c : Ctx} {p nid : Nat} {a b : Code} {st : St} {K : Ex → St → Prop}
/- f22: tusche/tuscheref01.State -/
def f22 (N : Nat) (a0 : List (List Int)) (a1 : List Int) : Option (Int × Int) :=
 (f60 N a0 a1).bind fun x1 =>
 bif decide (¬ x1 = (0 : Int)) then (some ((0 : Int), x1))
 else ((f61 N a0 a1).bind fun x2 =>
 some (x2, (0 : Int)))
def G22 (ds : List D) (d : D) : Prop := ∃ (N : Nat) (a0 : List (List Int)) (a1 : List Int) (r : Int × Int), ds = [sl_sl_iN a0, sl_iN a1] ∧ f22 N a0 a1 = some r ∧ d = .tup [iN r.1, iN r.2]
theorem G22.lend {N : Nat} {a0 : List (List Int)} {a1 : List Int} {ρ : Type} {A : (Int × Int) → Option ρ} {q : ρ} {ds : List D} {K : D → Prop} (hd : ds = [sl_sl_iN a0, sl_iN a1]) (h : ∀ r, A r = some q → K (.tup [iN r.1, iN r.2])) (hF : (f22 N a0 a1).bind A = some q) : ∃ d, (G22 ds d ∧ d.flatB = true) ∧ K d := by
  obtain ⟨r, hr, hA⟩ := bind_some hF
  exact ⟨_, ⟨⟨N, a0, a1, r, hd, hr, rfl⟩, rfl⟩, h r hA⟩
theorem G22.step {N : Nat} {a0 : List (List Int)} {a1 : List Int} {ρ : Type} {A : (Int × Int) → Option ρ} {q : ρ} {ds : List D} {K : D → Prop} (hd : ds = [sl_sl_iN a0, sl_iN a1]) (h : ∀ r, A r = some q → K (.tup [iN r.1, iN r.2])) (hF : (f22 N a0 a1).bind A = some q) : ∃ d, G22 ds d ∧ K d := by
  obtain ⟨r, hr, hA⟩ := bind_some hF
  exact ⟨_, ⟨N, a0, a1, r, hd, hr, rfl⟩, h r hA⟩
set_option maxRecDepth 20000 in
set_option maxHeartbeats 4000000 in
theorem P22 : PureOK Try.prog 22 G22 := by
  refine pure_of_vc (c := mkCtx tyTree [(61, true, lendPg [[1], [1]] G61), (60, true, lendPg [[1], [1]] G60)]) rfl tyOK (ctx_lend (callable Try.func61 rfl rfl) P61 (ctx_lend (callable Try.func60 rfl rfl) P60 (ctx_nil))) [[0], [0]] 2 Try.func22 rfl rfl (by decide) (by kernel_rfl) ?_
  rintro ds d ⟨N, a0, a1, r, rfl, hF, rfl⟩ hok
  clear hok
  refine ⟨rfl, ?_⟩
  show vc _ _ _ _ ⟨[(0, .dat (sl_sl_iN a0)), (1, .dat (sl_iN a1))], []⟩ _
  unfold f22 at hF
  repeat' (first
    | ((with_reducible first | refine q0 _ _ ?_ | refine q1 _ _ _ _ ?_ | refine q2 _ _ _ ?_); clear Q q0 q1 q2)
    | ((with_reducible first | refine seq_op ?hx (fun Q q0 q1 q2 => ?_)); (case hx => exact rfl); conv => whnf)
    | ((with_reducible refine cond_id ?_); (first | ((refine condKT rfl ?hy ?_); (case hy => first | assumption | exact notT (by assumption) | exact rfl)) | ((refine condKF rfl ?hy ?_); (case hy => first | assumption | exact notF (by assumption) | exact rfl)) | (revert hF; (with_reducible refine condF ?hx ?_ ?_); (case hx => exact rfl); all_goals (intro hc hF))))
    | ((with_reducible refine seq_nil ?_); (first | ((with_reducible refine hR _ ?_); clear R hR) | ((with_reducible refine hL _ ?_); clear L hL)))
    | ((with_reducible first | refine int_step ?_); conv => whnf)
    | (with_reducible first | refine vc_block ?_ | refine vc_skip ?_ | refine vc_ret ?_ | refine vc_exit ?_ | refine vc_region (fun R hR => ?_) | refine k_seq_ret ?_ | refine k_seq_exit ?_ | refine k_blk ?_ | refine k_blk_ret ?_ | refine k_blk_here ?_)
    | ((with_reducible refine vc_seqN [] ?hx ?_); (case hx => exact rfl))
    | (revert hF; (with_reducible refine G60.lend ?hx ?_); (case hx => exact rfl); intro v hF; conv => whnf)
    | (revert hF; (with_reducible refine G61.lend ?hx ?_); (case hx => exact rfl); intro v hF; conv => whnf)
    | ((with_reducible first | refine k_blk_out ?hx ?_ | refine vc_condT ?hx ?_); (case hx => exact rfl))
    | ((refine row_all ?hn ?_); (case hn => first | exact rfl | (simp; done) | (simp; omega)); conv => whnf)
    | ((with_reducible refine le_step ?hn ?_); (case hn => first | exact rfl | assumption | omega); conv => whnf)
    | ((refine ⟨?hx, ?_⟩); (case hx => exact ⟨rfl, Nat.le_of_ble_eq_true rfl, rfl⟩); conv => whnf)
    | ((with_reducible refine ex_step ?_); conv => whnf)
    | ((with_reducible refine both_T ?hx ?_); (case hx => first | exact rfl | assumption | exact notT (by assumption)); conv => whnf)
    | ((with_reducible refine both_F ?hx ?_); (case hx => first | exact rfl | assumption | exact notF (by assumption)); conv => whnf)
    | (revert hF; (with_reducible refine ite_step ?_ ?_) <;> (intro hc hF; conv => whnf))
    | ((with_reducible refine vc_condF ?hx ?_); (case hx => exact rfl))
    | (show retD _ _ _ _ _ _; conv => whnf)
    | ((refine ⟨?hx, trivial⟩); (case hx => (cases hF; exact rfl)))
    | ((refine ⟨?hx, ?_⟩); (case hx => decide); conv => whnf)
    | with_reducible refine k_seq ?_
    | (have hF : (none : Option _) = some _ := hF; cases hF))
end
end Go.Vc
namespace Go.Vc
open Go.Proofs
set_option linter.unusedVariables false
set_option linter.unnecessarySimpa false
set_option linter.unusedSimpArgs false
section
variable {c : Ctx} {p nid : Nat} {a b : Code} {st : St} {K : Ex → St → Prop}
/- f24: tusche/tuscheref01.Digit -/
def f24_c7 (d8 : Int) : Option (Int × Int) :=
 some (d8, (0 : Int))
def Lf24_c7 : Lp (Int) Unit (Int × Int) := lp0 ⟨[8], [], [], []⟩ (fun d8 => [.dat (iN d8)]) (fun _ => []) (fun d8 => f24_c7 d8)
theorem Ef24_c7 {d8} : (Lf24_c7).E d8 = f24_c7 d8 := rfl
def f24_5b (r5 : Int → Option (Int × Int)) (a0 : List (List Int)) (x1 : Int × Int) (k0 : Int → Option (Int × Int)) (d8 : Int) : Option (Int × Int) :=
 (ix a0 x1.1).bind fun x2 =>
 (ix x2 d8).bind fun x3 =>
 bif decide (¬ x3 = (0 : Int)) then (r5 (W (d8 + (1 : Int))))
 else (k0 d8)
def f24_5 (a0 : List (List Int)) (x1 : Int × Int) (k0 : Int → Option (Int × Int)) : Nat → Int → Option (Int × Int)
  | 0, _ => none
  | n + 1, d8 => f24_5b (f24_5 a0 x1 k0 n) a0 x1 k0 d8
def Lf24_5 (a0 : List (List Int)) (x1 : Int × Int) (k0 : Int → Option (Int × Int)) : Lp (Nat × Int) Unit (Int × Int) := lp0 ⟨[0, 6, 8], [], [], []⟩ (fun (_, d8) => [.dat (sl_sl_iN a0), .dat (iN x1.1), .dat (iN d8)]) (fun (_, _) => []) (fun (n, d8) => f24_5 a0 x1 k0 n d8)
theorem Ef24_5 {a0 x1 k0 n d8} : (Lf24_5 a0 x1 k0).E (n, d8) = f24_5 a0 x1 k0 n d8 := rfl
def f24 (N : Nat) (a0 : List (List Int)) (a1 : List Int) : Option (Int × Int) :=
 (f22 N a0 a1).bind fun x1 =>
 bif decide (¬ x1.2 = (0 : Int)) then (some ((0 : Int), x1.2))
 else (joinK f24_c7 fun k0 =>
 f24_5 a0 x1 k0 N (0 : Int))
def G24 (ds : List D) (d : D) : Prop := ∃ (N : Nat) (a0 : List (List Int)) (a1 : List Int) (r : Int × Int), ds = [sl_sl_iN a0, sl_iN a1] ∧ f24 N a0 a1 = some r ∧ d = .tup [iN r.1, iN r.2]
theorem G24.lend {N : Nat} {a0 : List (List Int)} {a1 : List Int} {ρ : Type} {A : (Int × Int) → Option ρ} {q : ρ} {ds : List D} {K : D → Prop} (hd : ds = [sl_sl_iN a0, sl_iN a1]) (h : ∀ r, A r = some q → K (.tup [iN r.1, iN r.2])) (hF : (f24 N a0 a1).bind A = some q) : ∃ d, (G24 ds d ∧ d.flatB = true) ∧ K d := by
  obtain ⟨r, hr, hA⟩ := bind_some hF
  exact ⟨_, ⟨⟨N, a0, a1, r, hd, hr, rfl⟩, rfl⟩, h r hA⟩
theorem G24.step {N : Nat} {a0 : List (List Int)} {a1 : List Int} {ρ : Type} {A : (Int × Int) → Option ρ} {q : ρ} {ds : List D} {K : D → Prop} (hd : ds = [sl_sl_iN a0, sl_iN a1]) (h : ∀ r, A r = some q → K (.tup [iN r.1, iN r.2])) (hF : (f24 N a0 a1).bind A = some q) : ∃ d, G24 ds d ∧ K d := by
  obtain ⟨r, hr, hA⟩ := bind_some hF
  exact ⟨_, ⟨N, a0, a1, r, hd, hr, rfl⟩, h r hA⟩
set_option maxRecDepth 20000 in
set_option maxHeartbeats 4000000 in
theorem P24 : PureOK Try.prog 24 G24 := by
  refine pure_of_vc (c := mkCtx tyTree [(22, true, lendPg [[1], [1]] G22)]) rfl tyOK (ctx_lend (callable Try.func22 rfl rfl) P22 (ctx_nil)) [[0], [0]] 2 Try.func24 rfl rfl (by decide) (by kernel_rfl) ?_
  rintro ds d ⟨N, a0, a1, r, rfl, hF, rfl⟩ hok
  clear hok
  refine ⟨rfl, ?_⟩
  show vc _ _ _ _ ⟨[(0, .dat (sl_sl_iN a0)), (1, .dat (sl_iN a1))], []⟩ _
  unfold f24 at hF
  repeat' (first
    | ((with_reducible first | refine q0 _ _ ?_ | refine q1 _ _ _ _ ?_ | refine q2 _ _ _ ?_); clear Q q0 q1 q2)
    | ((with_reducible first | refine seq_op ?hx (fun Q q0 q1 q2 => ?_)); (case hx => exact rfl); conv => whnf)
    | ((with_reducible refine cond_id ?_); (first | ((refine condKT rfl ?hy ?_); (case hy => first | assumption | exact notT (by assumption) | exact rfl)) | ((refine condKF rfl ?hy ?_); (case hy => first | assumption | exact notF (by assumption) | exact rfl)) | (revert hF; (with_reducible refine condF ?hx ?_ ?_); (case hx => exact rfl); all_goals (intro hc hF))))
    | ((with_reducible refine seq_nil ?_); (first | ((with_reducible refine hR _ ?_); clear R hR) | ((with_reducible refine hL _ ?_); clear L hL)))
    | ((with_reducible first | refine int_step ?_ | refine idx2 (by assumption) ?_ | refine idx3 (by assumption) ?_); conv => whnf)
    | (with_reducible first | refine vc_block ?_ | refine vc_skip ?_ | refine vc_ret ?_ | refine vc_exit ?_ | refine vc_region (fun R hR => ?_) | refine k_seq_ret ?_ | refine k_seq_exit ?_ | refine k_blk ?_ | refine k_blk_ret ?_ | refine k_blk_here ?_ | refine k_loop_ret ?_ | refine k_loop_exit ?_)
    | ((with_reducible refine vc_seqN [7] ?hx ?_); (case hx => exact rfl))
    | (revert hF; (refine Lp.cut0 Lf24_c7 f24_c7 7 rfl rfl ?_ ?_); (intro hF); rotate_left; (rintro d8 hF; dsimp only [Lf24_c7] at hF; unfold f24_c7 at hF); rotate_right)
    | exact Lp.head Ef24_c7 hF () ⟨_, rfl, rfl, rfl, rfl⟩ rfl
    | (revert hF; (refine Lp.loop Ef24_5 () rfl ⟨_, rfl, rfl, rfl, rfl⟩ rfl (fun _ => rfl) ?_); rintro n d8 hF; dsimp only [Lf24_5, f24_5] at hF; unfold f24_5b at hF)
    | exact Lp.back Ef24_5 hF () ⟨_, rfl, rfl, rfl, rfl⟩ rfl
    | (revert hF; (with_reducible refine G22.lend ?hx ?_); (case hx => exact rfl); intro v hF; conv => whnf)
    | ((with_reducible first | refine k_blk_out ?hx ?_ | refine vc_condT ?hx ?_); (case hx => exact rfl))
    | (revert hF; (with_reducible refine idx1 ?hn ?_); (case hn => first | exact rfl | exact (List.length_map _) | assumption | omega | simp); intro x hx hF; conv => whnf)
    | ((refine row_all ?hn ?_); (case hn => first | exact rfl | (simp; done) | (simp; omega)); conv => whnf)
    | ((with_reducible refine le_step ?hn ?_); (case hn => first | exact rfl | assumption | omega); conv => whnf)
    | ((refine ⟨?hx, ?_⟩); (case hx => exact ⟨rfl, Nat.le_of_ble_eq_true rfl, rfl⟩); conv => whnf)
    | ((with_reducible refine ex_step ?_); conv => whnf)
    | ((with_reducible refine both_T ?hx ?_); (case hx => first | exact rfl | assumption | exact notT (by assumption)); conv => whnf)
    | ((with_reducible refine both_F ?hx ?_); (case hx => first | exact rfl | assumption | exact notF (by assumption)); conv => whnf)
    | (revert hF; (with_reducible refine ite_step ?_ ?_) <;> (intro hc hF; conv => whnf))
    | ((with_reducible refine vc_condF ?hx ?_); (case hx => exact rfl))
    | (show retD _ _ _ _ _ _; conv => whnf)
    | ((refine ⟨?hx, trivial⟩); (case hx => (cases hF; exact rfl)))
    | ((refine ⟨?hx, ?_⟩); (case hx => decide); conv => whnf)
    | with_reducible refine k_seq ?_
    | (have hF : (none : Option _) = some _ := hF; cases hF))
end
end Go.Vc
namespace Go.Vc
open Go.Proofs
set_option linter.unusedVariables false
set_option linter.unnecessarySimpa false
set_option linter.unusedSimpArgs false
section
variable {c : Ctx} {p nid : Nat} {a b : Code} {st : St} {K : Ex → St → Prop}
/- f66: tusche/tuscheref01.coded -/
def f66 (N : Nat) (a0 : List (List Int)) (a1 : List Int) : Option (Int) :=
 (f50 N a0).bind fun x1 =>
 bif decide (x1 = (0 : Int)) then (bif decide ((List.length a1 : Int) < (2 : Int)) then (some ((1 : Int)))
 else ((f60 N a0 a1).bind fun x2 =>
 some (x2)))
 else (some (x1))
def G66 (ds : List D) (d : D) : Prop := ∃ (N : Nat) (a0 : List (List Int)) (a1 : List Int) (r : Int), ds = [sl_sl_iN a0, sl_iN a1] ∧ f66 N a0 a1 = some r ∧ d = iN r
theorem G66.lend {N : Nat} {a0 : List (List Int)} {a1 : List Int} {ρ : Type} {A : Int → Option ρ} {q : ρ} {ds : List D} {K : D → Prop} (hd : ds = [sl_sl_iN a0, sl_iN a1]) (h : ∀ r, A r = some q → K (iN r)) (hF : (f66 N a0 a1).bind A = some q) : ∃ d, (G66 ds d ∧ d.flatB = true) ∧ K d := by
  obtain ⟨r, hr, hA⟩ := bind_some hF
  exact ⟨_, ⟨⟨N, a0, a1, r, hd, hr, rfl⟩, rfl⟩, h r hA⟩
theorem G66.step {N : Nat} {a0 : List (List Int)} {a1 : List Int} {ρ : Type} {A : Int → Option ρ} {q : ρ} {ds : List D} {K : D → Prop} (hd : ds = [sl_sl_iN a0, sl_iN a1]) (h : ∀ r, A r = some q → K (iN r)) (hF : (f66 N a0 a1).bind A = some q) : ∃ d, G66 ds d ∧ K d := by
  obtain ⟨r, hr, hA⟩ := bind_some hF
  exact ⟨_, ⟨N, a0, a1, r, hd, hr, rfl⟩, h r hA⟩
set_option maxRecDepth 20000 in
set_option maxHeartbeats 4000000 in
theorem P66 : PureOK Try.prog 66 G66 := by
  refine pure_of_vc (c := mkCtx tyTree [(60, true, lendPg [[1], [1]] G60), (50, true, lendPg [[1]] G50)]) rfl tyOK (ctx_lend (callable Try.func60 rfl rfl) P60 (ctx_lend (callable Try.func50 rfl rfl) P50 (ctx_nil))) [[0]] 2 Try.func66 rfl rfl (by decide) (by kernel_rfl) ?_
  rintro ds d ⟨N, a0, a1, r, rfl, hF, rfl⟩ hok
  clear hok
  refine ⟨rfl, ?_⟩
  show vc _ _ _ _ ⟨[(0, .dat (sl_sl_iN a0)), (1, .dat (sl_iN a1))], []⟩ _
  unfold f66 at hF
  repeat' (first
    | ((with_reducible first | refine q0 _ _ ?_ | refine q1 _ _ _ _ ?_ | refine q2 _ _ _ ?_); clear Q q0 q1 q2)
    | ((with_reducible first | refine seq_op ?hx (fun Q q0 q1 q2 => ?_)); (case hx => exact rfl); conv => whnf)
    | ((with_reducible first | refine seq_off ?hx ?_ | refine seq_off0 ?hx ?_ | refine k_blk_out ?hx ?_ | refine vc_condT ?hx ?_); (case hx => exact rfl))
    | ((with_reducible refine seq_id ?_); (first | ((first | refine seq_opK rfl ?hy (fun Q q0 q1 q2 => ?_) | refine seq_opK0 rfl ?hy (fun Q q0 q1 q2 => ?_)); (case hy => first | assumption | exact notT (by assumption) | exact rfl); conv => whnf) | ((first | refine seq_offK rfl ?hy ?_ | refine seq_offK0 rfl ?hy ?_); (case hy => first | assumption | exact notF (by assumption) | exact rfl)) | (revert hF; (with_reducible first | refine seq_opF ?hx ?_ ?_ | refine seq_opF0 ?hx ?_ ?_); (case hx => exact rfl); (intro hc hF Q q0 q1 q2; conv => whnf); rotate_left; (intro hc hF); rotate_right) | (revert hF; (with_reducible first | refine seq_opN ?hx ?_ ?_ | refine seq_opN0 ?hx ?_ ?_); (case hx => exact rfl); (intro hc hF); rotate_left; (intro hc hF Q q0 q1 q2; conv => whnf); rotate_right)))
    | ((with_reducible refine cond_id ?_); (first | ((refine condKT rfl ?hy ?_); (case hy => first | assumption | exact notT (by assumption) | exact rfl)) | ((refine condKF rfl ?hy ?_); (case hy => first | assumption | exact notF (by assumption) | exact rfl)) | (revert hF; (with_reducible refine condF ?hx ?_ ?_); (case hx => exact rfl); all_goals (intro hc hF))))
    | ((with_reducible refine seq_nil ?_); (first | ((with_reducible refine hR _ ?_); clear R hR) | ((with_reducible refine hL _ ?_); clear L hL)))
    | ((with_reducible first | refine int_step ?_ | refine len_step ?_); conv => whnf)
    | (with_reducible first | refine vc_block ?_ | refine vc_skip ?_ | refine vc_ret ?_ | refine vc_exit ?_ | refine vc_region (fun R hR => ?_) | refine k_seq_ret ?_ | refine k_seq_exit ?_ | refine k_blk ?_ | refine k_blk_ret ?_ | refine k_blk_here ?_)
    | ((with_reducible refine vc_seqN [] ?hx ?_); (case hx => exact rfl))
    | (revert hF; (with_reducible refine G50.lend ?hx ?_); (case hx => exact rfl); intro v hF; conv => whnf)
    | (revert hF; (with_reducible refine G60.lend ?hx ?_); (case hx => exact rfl); intro v hF; conv => whnf)
    | ((refine row_all ?hn ?_); (case hn => first | exact rfl | (simp; done) | (simp; omega)); conv => whnf)
    | ((with_reducible refine le_step ?hn ?_); (case hn => first | exact rfl | assumption | omega); conv => whnf)
    | ((refine ⟨?hx, ?_⟩); (case hx => exact ⟨rfl, Nat.le_of_ble_eq_true rfl, rfl⟩); conv => whnf)
    | ((with_reducible refine ex_step ?_); conv => whnf)
    | ((with_reducible refine both_T ?hx ?_); (case hx => first | exact rfl | assumption | exact notT (by assumption)); conv => whnf)
    | ((with_reducible refine both_F ?hx ?_); (case hx => first | exact rfl | assumption | exact notF (by assumption)); conv => whnf)
    | (revert hF; (with_reducible refine ite_step ?_ ?_) <;> (intro hc hF; conv => whnf))
    | ((with_reducible refine vc_condF ?hx ?_); (case hx => exact rfl))
    | (show retD _ _ _ _ _ _; conv => whnf)
    | ((refine ⟨?hx, trivial⟩); (case hx => (cases hF; exact rfl)))
    | ((refine ⟨?hx, ?_⟩); (case hx => decide); conv => whnf)
    | with_reducible refine k_seq ?_
    | (have hF : (none : Option _) = some _ := hF; cases hF))
end
end Go.Vc
namespace Go.Vc
open Go.Proofs
set_option linter.unusedVariables false
set_option linter.unnecessarySimpa false
set_option linter.unusedSimpArgs false
section
variable {c : Ctx} {p nid : Nat} {a b : Code} {st : St} {K : Ex → St → Prop}
/- f67: tusche/tuscheref01.with -/
def f67 (N : Nat) (a0 : List Int) (a1 : Int) (a2 : Int) : Option ((List Int)) :=
 (app 8 [] a0).bind fun x1 =>
 (ix x1 a1).bind fun x2 =>
 (setx x1 a1 a2).bind fun x3 =>
 some (x3)
def G67 (ds : List D) (d : D) : Prop := ∃ (N : Nat) (a0 : List Int) (a1 : Int) (a2 : Int) (r : (List Int)), ds = [sl_iN a0, iN a1, iN a2] ∧ f67 N a0 a1 a2 = some r ∧ d = sl_iN r
theorem G67.step {N : Nat} {a0 : List Int} {a1 : Int} {a2 : Int} {ρ : Type} {A : (List Int) → Option ρ} {q : ρ} {ds : List D} {K : D → Prop} (hd : ds = [sl_iN a0, iN a1, iN a2]) (h : ∀ r, A r = some q → K (sl_iN r)) (hF : (f67 N a0 a1 a2).bind A = some q) : ∃ d, G67 ds d ∧ K d := by
  obtain ⟨r, hr, hA⟩ := bind_some hF
  exact ⟨_, ⟨N, a0, a1, a2, r, hd, hr, rfl⟩, h r hA⟩
set_option maxRecDepth 20000 in
set_option maxHeartbeats 4000000 in
theorem P67 : PureOK Try.prog 67 G67 := by
  refine pure_of_vc (c := mkCtx tyTree []) rfl tyOK (ctx_nil) [[1]] 3 Try.func67 rfl rfl (by decide) (by kernel_rfl) ?_
  rintro ds d ⟨N, a0, a1, a2, r, rfl, hF, rfl⟩ hok
  clear hok
  refine ⟨rfl, ?_⟩
  show vc _ _ _ _ ⟨[(0, .dat (sl_iN a0)), (1, .dat (iN a1)), (2, .dat (iN a2))], []⟩ _
  unfold f67 at hF
  repeat' (first
    | ((with_reducible first | refine q0 _ _ ?_ | refine q1 _ _ _ _ ?_ | refine q2 _ _ _ ?_); clear Q q0 q1 q2)
    | ((with_reducible first | refine seq_op ?hx (fun Q q0 q1 q2 => ?_) | refine seq_op0 ?hx (fun Q q0 q1 q2 => ?_)); (case hx => exact rfl); conv => whnf)
    | ((with_reducible refine seq_nil ?_); (first | ((with_reducible refine hR _ ?_); clear R hR) | ((with_reducible refine hL _ ?_); clear L hL)))
    | ((with_reducible first | refine int_step ?_ | refine idx2 (by assumption) ?_ | refine idx3 (by assumption) ?_); conv => whnf)
    | (with_reducible first | refine vc_skip ?_ | refine vc_ret ?_ | refine vc_region (fun R hR => ?_) | refine k_seq_ret ?_)
    | ((with_reducible refine vc_seqN [] ?hx ?_); (case hx => exact rfl))
    | (revert hF; (with_reducible refine idx1 ?hn ?_); (case hn => first | exact rfl | exact (List.length_map _) | assumption | omega | simp); intro x hx hF; conv => whnf)
    | ((with_reducible have hG := app_fact hF); clear hF; (first | ((refine app_row hG ?hn ?hs (fun q hF => ?_)); (case hn => first | exact rfl | assumption | omega); (case hs => exact rfl)) | ((refine app_nil (d := iN) hG ?hs (fun q hF => ?_)); (case hs => exact rfl)) | ((refine app_gen (d := iN) hG ?ho ?hn ?hs (fun q hF => ?_)); (case ho => exact rfl); (case hn => exact rfl); (case hs => exact rfl))); clear hG; conv => whnf)
    | ((refine row_all ?hn ?_); (case hn => first | exact rfl | (simp; done) | (simp; omega)); conv => whnf)
    | ((with_reducible refine le_step ?hn ?_); (case hn => first | exact rfl | assumption | omega); conv => whnf)
    | ((with_reducible have hG := setx_fact hF); clear hF; (refine setx_step hG ?hs (fun q hl hF => ?_)); (case hs => exact rfl); clear hG; conv => whnf)
    | ((refine ⟨?hx, ?_⟩); (case hx => exact ⟨rfl, Nat.le_of_ble_eq_true rfl, rfl⟩); conv => whnf)
    | ((with_reducible refine ex_step ?_); conv => whnf)
    | ((with_reducible refine both_T ?hx ?_); (case hx => first | exact rfl | assumption | exact notT (by assumption)); conv => whnf)
    | ((with_reducible refine both_F ?hx ?_); (case hx => first | exact rfl | assumption | exact notF (by assumption)); conv => whnf)
    | (revert hF; (with_reducible refine ite_step ?_ ?_) <;> (intro hc hF; conv => whnf))
    | (show retD _ _ _ _ _ _; conv => whnf)
    | ((refine ⟨?hx, trivial⟩); (case hx => (cases hF; exact rfl)))
    | ((refine ⟨?hx, ?_⟩); (case hx => decide); conv => whnf)
    | with_reducible refine k_seq ?_
    | (have hF : (none : Option _) = some _ := hF; cases hF))
end
end Go.Vc
namespace Go.Vc
open Go.Proofs
set_option linter.unusedVariables false
set_option linter.unnecessarySimpa false
set_option linter.unusedSimpArgs false
section
variable {c : Ctx} {p nid : Nat} {a b : Code} {st : St} {K : Ex → St → Prop}
/- f26: tusche/tuscheref01.Restore -/
def f26_c9 (d9 : Int) : Option (Int × Int) :=
 some (d9, (0 : Int))
def Lf26_c9 : Lp (Int) Unit (Int × Int) := lp0 ⟨[9], [], [], []⟩ (fun d9 => [.dat (iN d9)]) (fun _ => []) (fun d9 => f26_c9 d9)
theorem Ef26_c9 {d9} : (Lf26_c9).E d9 = f26_c9 d9 := rfl
def f26_7b (r7 : Int → Option (Int × Int)) (a0 : List (List Int)) (a1 : List Int) (a2 : Int) (N : Nat) (k0 : Int → Option (Int × Int)) (d9 : Int) : Option (Int × Int) :=
 (f67 N a1 a2 d9).bind fun x2 =>
 (f61 N a0 x2).bind fun x3 =>
 bif decide (¬ x3 = (0 : Int)) then (r7 (W (d9 + (1 : Int))))
 else (k0 d9)
def f26_7 (a0 : List (List Int)) (a1 : List Int) (a2 : Int) (N : Nat) (k0 : Int → Option (Int × Int)) : Nat → Int → Option (Int × Int)
  | 0, _ => none
  | n + 1, d9 => f26_7b (f26_7 a0 a1 a2 N k0 n) a0 a1 a2 N k0 d9
def Lf26_7 (a0 : List (List Int)) (a1 : List Int) (a2 : Int) (N : Nat) (k0 : Int → Option (Int × Int)) : Lp (Nat × Int) Unit (Int × Int) := lp0 ⟨[0, 1, 2, 9], [], [], []⟩ (fun (_, d9) => [.dat (sl_sl_iN a0), .dat (sl_iN a1), .dat (iN a2), .dat (iN d9)]) (fun (_, _) => []) (fun (n, d9) => f26_7 a0 a1 a2 N k0 n d9)
theorem Ef26_7 {a0 a1 a2 N k0 n d9} : (Lf26_7 a0 a1 a2 N k0).E (n, d9) = f26_7 a0 a1 a2 N k0 n d9 := rfl
def f26_c4 (a0 : List (List Int)) (a1 : List Int) (a2 : Int) (N : Nat) (e8 : Int) : Option (Int × Int) :=
 bif decide (¬ e8 = (0 : Int)) then (some ((0 : Int), e8))
 else (joinK f26_c9 fun k0 =>
 f26_7 a0 a1 a2 N k0 N (0 : Int))
def Lf26_c4 (a0 : List (List Int)) (a1 : List Int) (a2 : Int) (N : Nat) : Lp (Int) Unit (Int × Int) := lp0 ⟨[0, 1, 2, 8], [], [], []⟩ (fun e8 => [.dat (sl_sl_iN a0), .dat (sl_iN a1), .dat (iN a2), .dat (iN e8)]) (fun _ => []) (fun e8 => f26_c4 a0 a1 a2 N e8)
theorem Ef26_c4 {a0 a1 a2 N e8} : (Lf26_c4 a0 a1 a2 N).E e8 = f26_c4 a0 a1 a2 N e8 := rfl
def f26 (N : Nat) (a0 : List (List Int)) (a1 : List Int) (a2 : Int) : Option (Int × Int) :=
 (f66 N a0 a1).bind fun x1 =>
 joinK (f26_c4 a0 a1 a2 N) fun k1 =>
 bif decide (x1 = (0 : Int)) then ((f57 N a2 (0 : Int) (W ((List.length a1 : Int) - (1 : Int)))).bind fun x4 =>
 bif !x4 then (k1 (5 : Int))
 else (k1 x1))
 else (k1 x1)
def G26 (ds : List D) (d : D) : Prop := ∃ (N : Nat) (a0 : List (List Int)) (a1 : List Int) (a2 : Int) (r : Int × Int), ds = [sl_sl_iN a0, sl_iN a1, iN a2] ∧ f26 N a0 a1 a2 = some r ∧ d = .tup [iN r.1, iN r.2]
theorem G26.lend {N : Nat} {a0 : List (List Int)} {a1 : List Int} {a2 : Int} {ρ : Type} {A : (Int × Int) → Option ρ} {q : ρ} {ds : List D} {K : D → Prop} (hd : ds = [sl_sl_iN a0, sl_iN a1, iN a2]) (h : ∀ r, A r = some q → K (.tup [iN r.1, iN r.2])) (hF : (f26 N a0 a1 a2).bind A = some q) : ∃ d, (G26 ds d ∧ d.flatB = true) ∧ K d := by
  obtain ⟨r, hr, hA⟩ := bind_some hF
  exact ⟨_, ⟨⟨N, a0, a1, a2, r, hd, hr, rfl⟩, rfl⟩, h r hA⟩
theorem G26.step {N : Nat} {a0 : List (List Int)} {a1 : List Int} {a2 : Int} {ρ : Type} {A : (Int × Int) → Option ρ} {q : ρ} {ds : List D} {K : D → Prop} (hd : ds = [sl_sl_iN a0, sl_iN a1, iN a2]) (h : ∀ r, A r = some q → K (.tup [iN r.1, iN r.2])) (hF : (f26 N a0 a1 a2).bind A = some q) : ∃ d, G26 ds d ∧ K d := by
  obtain ⟨r, hr, hA⟩ := bind_some hF
  exact ⟨_, ⟨N, a0, a1, a2, r, hd, hr, rfl⟩, h r hA⟩
set_option maxRecDepth 20000 in
set_option maxHeartbeats 4000000 in
theorem P26 : PureOK Try.prog 26 G26 := by
  refine pure_of_vc (c := mkCtx tyTree [(67, true, purePg [[1], [0], [0]] G67), (66, true, lendPg [[1], [1]] G66), (61, true, lendPg [[1], [1]] G61), (57, true, lendPg [[0], [0], [0]] G57)]) rfl tyOK (ctx_cons (callable Try.func67 rfl rfl) P67 (ctx_lend (callable Try.func66 rfl rfl) P66 (ctx_lend (callable Try.func61 rfl rfl) P61 (ctx_lend (callable Try.func57 rfl rfl) P57 (ctx_nil))))) [[0], [0]] 3 Try.func26 rfl rfl (by decide) (by kernel_rfl) ?_
  rintro ds d ⟨N, a0, a1, a2, r, rfl, hF, rfl⟩ hok
  clear hok
  refine ⟨rfl, ?_⟩
  show vc _ _ _ _ ⟨[(0, .dat (sl_sl_iN a0)), (1, .dat (sl_iN a1)), (2, .dat (iN a2))], []⟩ _
  unfold f26 at hF
  repeat' (first
    | ((with_reducible first | refine q0 _ _ ?_ | refine q1 _ _ _ _ ?_ | refine q2 _ _ _ ?_); clear Q q0 q1 q2)
    | ((with_reducible first | refine seq_op ?hx (fun Q q0 q1 q2 => ?_)); (case hx => exact rfl); conv => whnf)
    | ((with_reducible first | refine seq_off ?hx ?_ | refine seq_off0 ?hx ?_ | refine k_blk_out ?hx ?_ | refine vc_condT ?hx ?_); (case hx => exact rfl))
    | ((with_reducible refine seq_id ?_); (first | ((first | refine seq_opK rfl ?hy (fun Q q0 q1 q2 => ?_) | refine seq_opK0 rfl ?hy (fun Q q0 q1 q2 => ?_)); (case hy => first | assumption | exact notT (by assumption) | exact rfl); conv => whnf) | ((first | refine seq_offK rfl ?hy ?_ | refine seq_offK0 rfl ?hy ?_); (case hy => first | assumption | exact notF (by assumption) | exact rfl)) | (revert hF; (with_reducible first | refine seq_opF ?hx ?_ ?_ | refine seq_opF0 ?hx ?_ ?_); (case hx => exact rfl); (intro hc hF Q q0 q1 q2; conv => whnf); rotate_left; (intro hc hF); rotate_right) | (revert hF; (with_reducible first | refine seq_opN ?hx ?_ ?_ | refine seq_opN0 ?hx ?_ ?_); (case hx => exact rfl); (intro hc hF); rotate_left; (intro hc hF Q q0 q1 q2; conv => whnf); rotate_right)))
    | ((with_reducible refine cond_id ?_); (first | ((refine condKT rfl ?hy ?_); (case hy => first | assumption | exact notT (by assumption) | exact rfl)) | ((refine condKF rfl ?hy ?_); (case hy => first | assumption | exact notF (by assumption) | exact rfl)) | (revert hF; (with_reducible refine condF ?hx ?_ ?_); (case hx => exact rfl); all_goals (intro hc hF))))
    | ((with_reducible refine seq_nil ?_); (first | ((with_reducible refine hR _ ?_); clear R hR) | ((with_reducible refine hL _ ?_); clear L hL)))
    | ((with_reducible first | refine int_step ?_ | refine len_step ?_); conv => whnf)
    | (with_reducible first | refine vc_block ?_ | refine vc_skip ?_ | refine vc_ret ?_ | refine vc_exit ?_ | refine vc_region (fun R hR => ?_) | refine k_seq_ret ?_ | refine k_seq_exit ?_ | refine k_blk ?_ | refine k_blk_ret ?_ | refine k_blk_here ?_ | refine k_loop_ret ?_ | refine k_loop_exit ?_)
    | ((with_reducible refine vc_seqN [9, 4] ?hx ?_); (case hx => exact rfl))
    | (revert hF; (refine Lp.cut0 Lf26_c9 f26_c9 9 rfl rfl ?_ ?_); (intro hF); rotate_left; (rintro d9 hF; dsimp only [Lf26_c9] at hF; unfold f26_c9 at hF); rotate_right)
    | exact Lp.head Ef26_c9 hF () ⟨_, rfl, rfl, rfl, rfl⟩ rfl
    | (revert hF; (refine Lp.loop Ef26_7 () rfl ⟨_, rfl, rfl, rfl, rfl⟩ rfl (fun _ => rfl) ?_); rintro n d9 hF; dsimp only [Lf26_7, f26_7] at hF; unfold f26_7b at hF)
    | exact Lp.back Ef26_7 hF () ⟨_, rfl, rfl, rfl, rfl⟩ rfl
    | (revert hF; (refine Lp.cut4 Lf26_c4 f26_c4 4 rfl rfl ?_ ?_); (intro hF); rotate_left; (rintro e8 hF; dsimp only [Lf26_c4] at hF; unfold f26_c4 at hF); rotate_right)
    | exact Lp.head Ef26_c4 hF () ⟨_, rfl, rfl, rfl, rfl⟩ rfl
    | (revert hF; (with_reducible refine G57.lend ?hx ?_); (case hx => exact rfl); intro v hF; conv => whnf)
    | (revert hF; (with_reducible refine G61.lend ?hx ?_); (case hx => exact rfl); intro v hF; conv => whnf)
    | (revert hF; (with_reducible refine G66.lend ?hx ?_); (case hx => exact rfl); intro v hF; conv => whnf)
    | (revert hF; (with_reducible refine G67.step ?hx ?_); (case hx => exact rfl); intro v hF; conv => whnf)
    | ((refine row_all ?hn ?_); (case hn => first | exact rfl | (simp; done) | (simp; omega)); conv => whnf)
    | ((with_reducible refine le_step ?hn ?_); (case hn => first | exact rfl | assumption | omega); conv => whnf)
    | ((refine ⟨?hx, ?_⟩); (case hx => exact ⟨rfl, Nat.le_of_ble_eq_true rfl, rfl⟩); conv => whnf)
    | ((with_reducible refine ex_step ?_); conv => whnf)
    | ((with_reducible refine both_T ?hx ?_); (case hx => first | exact rfl | assumption | exact notT (by assumption)); conv => whnf)
    | ((with_reducible refine both_F ?hx ?_); (case hx => first | exact rfl | assumption | exact notF (by assumption)); conv => whnf)
    | (revert hF; (with_reducible refine ite_step ?_ ?_) <;> (intro hc hF; conv => whnf))
    | ((with_reducible refine vc_condF ?hx ?_); (case hx => exact rfl))
    | (show retD _ _ _ _ _ _; conv => whnf)
    | ((refine ⟨?hx, trivial⟩); (case hx => (cases hF; exact rfl)))
    | ((refine ⟨?hx, ?_⟩); (case hx => decide); conv => whnf)
    | with_reducible refine k_seq ?_
    | (have hF : (none : Option _) = some _ := hF; cases hF))
end
end Go.Vc
namespace Go.Vc
open Go.Proofs
set_option linter.unusedVariables false
set_option linter.unnecessarySimpa false
set_option linter.unusedSimpArgs false
section
variable {c : Ctx} {p nid : Nat} {a b : Code} {st : St} {K : Ex → St → Prop}
/- f28: tusche/tuscheref01.Right -/
def f28 (N : Nat) (a0 : List (List Int)) (a1 : List Int) : Option (Int) :=
 (f66 N a0 a1).bind fun x1 =>
 bif decide (x1 = (0 : Int)) then ((f61 N a0 a1).bind fun x2 =>
 bif decide (¬ x2 = (0 : Int)) then (some ((13 : Int)))
 else (some (x1)))
 else (some (x1))
def G28 (ds : List D) (d : D) : Prop := ∃ (N : Nat) (a0 : List (List Int)) (a1 : List Int) (r : Int), ds = [sl_sl_iN a0, sl_iN a1] ∧ f28 N a0 a1 = some r ∧ d = iN r
theorem G28.lend {N : Nat} {a0 : List (List Int)} {a1 : List Int} {ρ : Type} {A : Int → Option ρ} {q : ρ} {ds : List D} {K : D → Prop} (hd : ds = [sl_sl_iN a0, sl_iN a1]) (h : ∀ r, A r = some q → K (iN r)) (hF : (f28 N a0 a1).bind A = some q) : ∃ d, (G28 ds d ∧ d.flatB = true) ∧ K d := by
  obtain ⟨r, hr, hA⟩ := bind_some hF
  exact ⟨_, ⟨⟨N, a0, a1, r, hd, hr, rfl⟩, rfl⟩, h r hA⟩
theorem G28.step {N : Nat} {a0 : List (List Int)} {a1 : List Int} {ρ : Type} {A : Int → Option ρ} {q : ρ} {ds : List D} {K : D → Prop} (hd : ds = [sl_sl_iN a0, sl_iN a1]) (h : ∀ r, A r = some q → K (iN r)) (hF : (f28 N a0 a1).bind A = some q) : ∃ d, G28 ds d ∧ K d := by
  obtain ⟨r, hr, hA⟩ := bind_some hF
  exact ⟨_, ⟨N, a0, a1, r, hd, hr, rfl⟩, h r hA⟩
set_option maxRecDepth 20000 in
set_option maxHeartbeats 4000000 in
theorem P28 : PureOK Try.prog 28 G28 := by
  refine pure_of_vc (c := mkCtx tyTree [(66, true, lendPg [[1], [1]] G66), (61, true, lendPg [[1], [1]] G61)]) rfl tyOK (ctx_lend (callable Try.func66 rfl rfl) P66 (ctx_lend (callable Try.func61 rfl rfl) P61 (ctx_nil))) [[0]] 2 Try.func28 rfl rfl (by decide) (by kernel_rfl) ?_
  rintro ds d ⟨N, a0, a1, r, rfl, hF, rfl⟩ hok
  clear hok
  refine ⟨rfl, ?_⟩
  show vc _ _ _ _ ⟨[(0, .dat (sl_sl_iN a0)), (1, .dat (sl_iN a1))], []⟩ _
  unfold f28 at hF
  repeat' (first
    | ((with_reducible first | refine q0 _ _ ?_ | refine q1 _ _ _ _ ?_ | refine q2 _ _ _ ?_); clear Q q0 q1 q2)
    | ((with_reducible first | refine seq_op ?hx (fun Q q0 q1 q2 => ?_)); (case hx => exact rfl); conv => whnf)
    | ((with_reducible first | refine seq_off ?hx ?_ | refine seq_off0 ?hx ?_ | refine k_blk_out ?hx ?_ | refine vc_condT ?hx ?_); (case hx => exact rfl))
    | ((with_reducible refine seq_id ?_); (first | ((first | refine seq_opK rfl ?hy (fun Q q0 q1 q2 => ?_) | refine seq_opK0 rfl ?hy (fun Q q0 q1 q2 => ?_)); (case hy => first | assumption | exact notT (by assumption) | exact rfl); conv => whnf) | ((first | refine seq_offK rfl ?hy ?_ | refine seq_offK0 rfl ?hy ?_); (case hy => first | assumption | exact notF (by assumption) | exact rfl)) | (revert hF; (with_reducible first | refine seq_opF ?hx ?_ ?_ | refine seq_opF0 ?hx ?_ ?_); (case hx => exact rfl); (intro hc hF Q q0 q1 q2; conv => whnf); rotate_left; (intro hc hF); rotate_right) | (revert hF; (with_reducible first | refine seq_opN ?hx ?_ ?_ | refine seq_opN0 ?hx ?_ ?_); (case hx => exact rfl); (intro hc hF); rotate_left; (intro hc hF Q q0 q1 q2; conv => whnf); rotate_right)))
    | ((with_reducible refine cond_id ?_); (first | ((refine condKT rfl ?hy ?_); (case hy => first | assumption | exact notT (by assumption) | exact rfl)) | ((refine condKF rfl ?hy ?_); (case hy => first | assumption | exact notF (by assumption) | exact rfl)) | (revert hF; (with_reducible refine condF ?hx ?_ ?_); (case hx => exact rfl); all_goals (intro hc hF))))
    | ((with_reducible refine seq_nil ?_); (first | ((with_reducible refine hR _ ?_); clear R hR) | ((with_reducible refine hL _ ?_); clear L hL)))
    | ((with_reducible first | refine int_step ?_); conv => whnf)
    | (with_reducible first | refine vc_block ?_ | refine vc_skip ?_ | refine vc_ret ?_ | refine vc_exit ?_ | refine vc_region (fun R hR => ?_) | refine k_seq_ret ?_ | refine k_seq_exit ?_ | refine k_blk ?_ | refine k_blk_ret ?_ | refine k_blk_here ?_)
    | ((with_reducible refine vc_seqN [] ?hx ?_); (case hx => exact rfl))
    | (revert hF; (with_reducible refine G61.lend ?hx ?_); (case hx => exact rfl); intro v hF; conv => whnf)
    | (revert hF; (with_reducible refine G66.lend ?hx ?_); (case hx => exact rfl); intro v hF; conv => whnf)
    | ((refine row_all ?hn ?_); (case hn => first | exact rfl | (simp; done) | (simp; omega)); conv => whnf)
    | ((with_reducible refine le_step ?hn ?_); (case hn => first | exact rfl | assumption | omega); conv => whnf)
    | ((refine ⟨?hx, ?_⟩); (case hx => exact ⟨rfl, Nat.le_of_ble_eq_true rfl, rfl⟩); conv => whnf)
    | ((with_reducible refine ex_step ?_); conv => whnf)
    | ((with_reducible refine both_T ?hx ?_); (case hx => first | exact rfl | assumption | exact notT (by assumption)); conv => whnf)
    | ((with_reducible refine both_F ?hx ?_); (case hx => first | exact rfl | assumption | exact notF (by assumption)); conv => whnf)
    | (revert hF; (with_reducible refine ite_step ?_ ?_) <;> (intro hc hF; conv => whnf))
    | ((with_reducible refine vc_condF ?hx ?_); (case hx => exact rfl))
    | (show retD _ _ _ _ _ _; conv => whnf)
    | ((refine ⟨?hx, trivial⟩); (case hx => (cases hF; exact rfl)))
    | ((refine ⟨?hx, ?_⟩); (case hx => decide); conv => whnf)
    | with_reducible refine k_seq ?_
    | (have hF : (none : Option _) = some _ := hF; cases hF))
end
end Go.Vc
namespace Go.Vc
open Go.Proofs
set_option linter.unusedVariables false
set_option linter.unnecessarySimpa false
set_option linter.unusedSimpArgs false
section
variable {c : Ctx} {p nid : Nat} {a b : Code} {st : St} {K : Ex → St → Prop}
/- f4: tusche/tuschelaw01.SerialCodes -/
def f4 (N : Nat) (a0 : List (List Int)) (a1 : List Int) (a2 : Int) : Option (Bool) :=
 (f20 N a0).bind fun x1 =>
 bif x1 then ((f15 N ).bind fun x2 =>
 some (x2))
 else (bif decide ((40 : Int) < (List.length a1 : Int)) then ((f15 N ).bind fun x3 =>
 some (x3))
 else ((f21 N a0 a1).bind fun x4 =>
 (f22 N a0 a1).bind fun x5 =>
 (f23 N a0 a1).bind fun x6 =>
 (f24 N a0 a1).bind fun x7 =>
 (f25 N a0 a1 a2).bind fun x8 =>
 (f26 N a0 a1 a2).bind fun x9 =>
 bif decide (x4.1 = x5.1) then (bif decide (x4.2 = x5.2) then (bif decide (x6.1 = x7.1) then (bif decide (x6.2 = x7.2) then (bif decide (x8.1 = x9.1) then (bif decide (x8.2 = x9.2) then ((f27 N a0 a1).bind fun x10 =>
 (f28 N a0 a1).bind fun x11 =>
 bif decide (x10 = x11) then ((f15 N ).bind fun x12 =>
 some (x12))
 else (some (false)))
 else (some (false)))
 else (some (false)))
 else (some (false)))
 else (some (false)))
 else (some (false)))
 else (some (false))))
def G4 (ds : List D) (d : D) : Prop := ∃ (N : Nat) (a0 : List (List Int)) (a1 : List Int) (a2 : Int) (r : Bool), ds = [sl_sl_iN a0, sl_iN a1, iN a2] ∧ f4 N a0 a1 a2 = some r ∧ d = bN r
theorem G4.lend {N : Nat} {a0 : List (List Int)} {a1 : List Int} {a2 : Int} {ρ : Type} {A : Bool → Option ρ} {q : ρ} {ds : List D} {K : D → Prop} (hd : ds = [sl_sl_iN a0, sl_iN a1, iN a2]) (h : ∀ r, A r = some q → K (bN r)) (hF : (f4 N a0 a1 a2).bind A = some q) : ∃ d, (G4 ds d ∧ d.flatB = true) ∧ K d := by
  obtain ⟨r, hr, hA⟩ := bind_some hF
  exact ⟨_, ⟨⟨N, a0, a1, a2, r, hd, hr, rfl⟩, rfl⟩, h r hA⟩
theorem G4.step {N : Nat} {a0 : List (List Int)} {a1 : List Int} {a2 : Int} {ρ : Type} {A : Bool → Option ρ} {q : ρ} {ds : List D} {K : D → Prop} (hd : ds = [sl_sl_iN a0, sl_iN a1, iN a2]) (h : ∀ r, A r = some q → K (bN r)) (hF : (f4 N a0 a1 a2).bind A = some q) : ∃ d, G4 ds d ∧ K d := by
  obtain ⟨r, hr, hA⟩ := bind_some hF
  exact ⟨_, ⟨N, a0, a1, a2, r, hd, hr, rfl⟩, h r hA⟩
set_option maxRecDepth 20000 in
set_option maxHeartbeats 4000000 in
theorem P4 : PureOK Try.prog 4 G4 := by
  refine pure_of_vc (c := mkCtx tyTree [(28, true, lendPg [[1], [1]] G28), (27, true, lendPg [[1], [1]] G27), (26, true, lendPg [[1], [1], [0]] G26), (25, true, lendPg [[1], [1], [0]] G25), (24, true, lendPg [[1], [1]] G24), (23, true, lendPg [[1], [1]] G23), (22, true, lendPg [[1], [1]] G22), (21, true, lendPg [[1], [1]] G21), (20, true, lendPg [[1]] G20), (15, true, lendPg [] G15)]) rfl tyOK (ctx_lend (callable Try.func28 rfl rfl) P28 (ctx_lend (callable Try.func27 rfl rfl) P27 (ctx_lend (callable Try.func26 rfl rfl) P26 (ctx_lend (callable Try.func25 rfl rfl) P25 (ctx_lend (callable Try.func24 rfl rfl) P24 (ctx_lend (callable Try.func23 rfl rfl) P23 (ctx_lend (callable Try.func22 rfl rfl) P22 (ctx_lend (callable Try.func21 rfl rfl) P21 (ctx_lend (callable Try.func20 rfl rfl) P20 (ctx_lend (callable Try.func15 rfl rfl) P15 (ctx_nil))))))))))) [[0]] 3 Try.func4 rfl rfl (by decide) (by kernel_rfl) ?_
  rintro ds d ⟨N, a0, a1, a2, r, rfl, hF, rfl⟩ hok
  clear hok
  refine ⟨rfl, ?_⟩
  show vc _ _ _ _ ⟨[(0, .dat (sl_sl_iN a0)), (1, .dat (sl_iN a1)), (2, .dat (iN a2))], []⟩ _
  unfold f4 at hF
  repeat' (first
    | ((with_reducible first | refine q0 _ _ ?_ | refine q1 _ _ _ _ ?_ | refine q2 _ _ _ ?_); clear Q q0 q1 q2)
    | ((with_reducible first | refine seq_op ?hx (fun Q q0 q1 q2 => ?_)); (case hx => exact rfl); conv => whnf)
    | ((with_reducible first | refine seq_off ?hx ?_ | refine seq_off0 ?hx ?_ | refine k_blk_out ?hx ?_ | refine vc_condT ?hx ?_); (case hx => exact rfl))
    | ((with_reducible refine seq_id ?_); (first | ((first | refine seq_opK rfl ?hy (fun Q q0 q1 q2 => ?_) | refine seq_opK0 rfl ?hy (fun Q q0 q1 q2 => ?_)); (case hy => first | assumption | exact notT (by assumption) | exact rfl); conv => whnf) | ((first | refine seq_offK rfl ?hy ?_ | refine seq_offK0 rfl ?hy ?_); (case hy => first | assumption | exact notF (by assumption) | exact rfl)) | (revert hF; (with_reducible first | refine seq_opF ?hx ?_ ?_ | refine seq_opF0 ?hx ?_ ?_); (case hx => exact rfl); (intro hc hF Q q0 q1 q2; conv => whnf); rotate_left; (intro hc hF); rotate_right) | (revert hF; (with_reducible first | refine seq_opN ?hx ?_ ?_ | refine seq_opN0 ?hx ?_ ?_); (case hx => exact rfl); (intro hc hF); rotate_left; (intro hc hF Q q0 q1 q2; conv => whnf); rotate_right)))
    | ((with_reducible refine cond_id ?_); (first | ((refine condKT rfl ?hy ?_); (case hy => first | assumption | exact notT (by assumption) | exact rfl)) | ((refine condKF rfl ?hy ?_); (case hy => first | assumption | exact notF (by assumption) | exact rfl)) | (revert hF; (with_reducible refine condF ?hx ?_ ?_); (case hx => exact rfl); all_goals (intro hc hF))))
    | ((with_reducible refine seq_nil ?_); (first | ((with_reducible refine hR _ ?_); clear R hR) | ((with_reducible refine hL _ ?_); clear L hL)))
    | ((with_reducible first | refine int_step ?_ | refine len_step ?_); conv => whnf)
    | (with_reducible first | refine vc_block ?_ | refine vc_skip ?_ | refine vc_ret ?_ | refine vc_exit ?_ | refine vc_region (fun R hR => ?_) | refine k_seq_ret ?_ | refine k_seq_exit ?_ | refine k_blk ?_ | refine k_blk_ret ?_ | refine k_blk_here ?_)
    | ((with_reducible refine vc_seqN [] ?hx ?_); (case hx => exact rfl))
    | (revert hF; (with_reducible refine G15.lend ?hx ?_); (case hx => exact rfl); intro v hF; conv => whnf)
    | (revert hF; (with_reducible refine G20.lend ?hx ?_); (case hx => exact rfl); intro v hF; conv => whnf)
    | (revert hF; (with_reducible refine G21.lend ?hx ?_); (case hx => exact rfl); intro v hF; conv => whnf)
    | (revert hF; (with_reducible refine G22.lend ?hx ?_); (case hx => exact rfl); intro v hF; conv => whnf)
    | (revert hF; (with_reducible refine G23.lend ?hx ?_); (case hx => exact rfl); intro v hF; conv => whnf)
    | (revert hF; (with_reducible refine G24.lend ?hx ?_); (case hx => exact rfl); intro v hF; conv => whnf)
    | (revert hF; (with_reducible refine G25.lend ?hx ?_); (case hx => exact rfl); intro v hF; conv => whnf)
    | (revert hF; (with_reducible refine G26.lend ?hx ?_); (case hx => exact rfl); intro v hF; conv => whnf)
    | (revert hF; (with_reducible refine G27.lend ?hx ?_); (case hx => exact rfl); intro v hF; conv => whnf)
    | (revert hF; (with_reducible refine G28.lend ?hx ?_); (case hx => exact rfl); intro v hF; conv => whnf)
    | ((refine row_all ?hn ?_); (case hn => first | exact rfl | (simp; done) | (simp; omega)); conv => whnf)
    | ((with_reducible refine le_step ?hn ?_); (case hn => first | exact rfl | assumption | omega); conv => whnf)
    | ((refine ⟨?hx, ?_⟩); (case hx => exact ⟨rfl, Nat.le_of_ble_eq_true rfl, rfl⟩); conv => whnf)
    | ((with_reducible refine ex_step ?_); conv => whnf)
    | ((with_reducible refine both_T ?hx ?_); (case hx => first | exact rfl | assumption | exact notT (by assumption)); conv => whnf)
    | ((with_reducible refine both_F ?hx ?_); (case hx => first | exact rfl | assumption | exact notF (by assumption)); conv => whnf)
    | (revert hF; (with_reducible refine ite_step ?_ ?_) <;> (intro hc hF; conv => whnf))
    | ((with_reducible refine vc_condF ?hx ?_); (case hx => exact rfl))
    | (show retD _ _ _ _ _ _; conv => whnf)
    | ((refine ⟨?hx, trivial⟩); (case hx => (cases hF; exact rfl)))
    | ((refine ⟨?hx, ?_⟩); (case hx => decide); conv => whnf)
    | with_reducible refine k_seq ?_
    | (have hF : (none : Option _) = some _ := hF; cases hF))
end
end Go.Vc
/-
  PLAIN LOOPS: loops that leave early, loops that gather.
-/
namespace Go.Vc
set_option linter.unusedVariables false
set_option linter.unnecessarySimpa false
set_option linter.unusedSimpArgs false
section
variable {α β σ : Type}
theorem iffD {α : Type} {p q : Prop} {dp : Decidable p} {dq : Decidable q} {a b : α} (h : p ↔ q) : @ite α p dp a b = @ite α q dq a b := by
  by_cases hp : p
  · rw [if_pos hp, if_pos (h.1 hp)]
  · rw [if_neg hp, if_neg fun hq => hp (h.2 hq)]
open Classical in
/-- a loop over indexes that leaves with 'e' at the first one that has a property -/
theorem loop_ex {F : Nat → Int → Option β} {k0 e : Option β} {p : Nat → Prop} (len : Nat)
    (hs : ∀ n i, i < len → F (n + 1) (i : Int) = if p i then e else F n ((i + 1 : Nat) : Int)) (he : ∀ n, F (n + 1) (len : Int) = k0) :
    ∀ n i, i ≤ len → len - i < n → F n (i : Int) = if (∃ j, i ≤ j ∧ j < len ∧ p j) then e else k0 := by
  intro n
  induction n with
  | zero => intro i _ h; omega
  | succ n ih =>
    intro i hi hn
    by_cases h : i = len
    · subst h
      rw [he, if_neg]
      rintro ⟨j, h1, h2, _⟩; omega
    · rw [hs n i (by omega)]
      by_cases hp : p i
      · rw [if_pos hp, if_pos ⟨i, Nat.le_refl _, by omega, hp⟩]
      · rw [if_neg hp, ih (i + 1) (by omega) (by omega)]
        by_cases hx : ∃ j, i + 1 ≤ j ∧ j < len ∧ p j
        · obtain ⟨j, h1, h2, h3⟩ := hx
          rw [if_pos ⟨j, h1, h2, h3⟩, if_pos ⟨j, by omega, h2, h3⟩]
        · rw [if_neg hx, if_neg]
          rintro ⟨j, h1, h2, h3⟩
          by_cases hj : j = i
          · subst hj; exact hp h3
          · exact hx ⟨j, by omega, h2, h3⟩
open Classical in
theorem loop_ex0 {F : Nat → Int → Option β} {k0 e : Option β} {p : Nat → Prop} (len : Nat)
    (hs : ∀ n i, i < len → F (n + 1) (i : Int) = if p i then e else F n ((i + 1 : Nat) : Int)) (he : ∀ n, F (n + 1) (len : Int) = k0) {n : Nat} (hn : len < n) :
    F n 0 = if (∃ j, j < len ∧ p j) then e else k0 := by
  have := loop_ex len hs he n 0 (by omega) (by omega)
  rw [show ((0 : Nat) : Int) = 0 from rfl] at this
  rw [this]
  by_cases h : ∃ j, j < len ∧ p j
  · obtain ⟨j, h1, h2⟩ := h
    rw [if_pos ⟨j, by omega, h1, h2⟩, if_pos ⟨j, h1, h2⟩]
  · rw [if_neg h, if_neg]
    rintro ⟨j, _, h1, h2⟩; exact h ⟨j, h1, h2⟩
/-- a loop over indexes that gathers, under an invariant -/
theorem loop_inv {F : Nat → σ → Int → Option β} {k : σ → Option β} (g : σ → Nat → σ) (Inv : Nat → σ → Prop) (len : Nat)
    (hs : ∀ n s i, i < len → Inv i s → F (n + 1) s (i : Int) = F n (g s i) ((i + 1 : Nat) : Int)) (hi : ∀ s i, i < len → Inv i s → Inv (i + 1) (g s i)) (he : ∀ n s, F (n + 1) s (len : Int) = k s) :
    ∀ n i s, i ≤ len → len - i < n → Inv i s → F n s (i : Int) = k ((List.range' i (len - i)).foldl g s) ∧ Inv len ((List.range' i (len - i)).foldl g s) := by
  intro n
  induction n with
  | zero => intro i s _ h; omega
  | succ n ih =>
    intro i s hl hn h0
    by_cases h : i = len
    · subst h
      rw [he, Nat.sub_self]; exact ⟨rfl, h0⟩
    · rw [hs n s i (by omega) h0]
      obtain ⟨h1, h2⟩ := ih (i + 1) (g s i) (by omega) (by omega) (hi s i (by omega) h0)
      rw [show len - i = (len - (i + 1)) + 1 by omega, List.range'_succ]
      exact ⟨h1, h2⟩
theorem loop_inv0 {F : Nat → σ → Int → Option β} {k : σ → Option β} (g : σ → Nat → σ) (Inv : Nat → σ → Prop) (len : Nat)
    (hs : ∀ n s i, i < len → Inv i s → F (n + 1) s (i : Int) = F n (g s i) ((i + 1 : Nat) : Int)) (hi : ∀ s i, i < len → Inv i s → Inv (i + 1) (g s i)) (he : ∀ n s, F (n + 1) s (len : Int) = k s)
    {n : Nat} {s : σ} (hn : len < n) (h0 : Inv 0 s) : F n s 0 = k ((List.range len).foldl g s) ∧ Inv len ((List.range len).foldl g s) := by
  have := loop_inv g Inv len hs hi he n 0 s (by omega) (by omega) h0
  rw [List.range_eq_range']
  simpa using this
/-- a loop that counts up without end till a property holds: a bound on its place is known -/
theorem loop_find {F : Nat → Int → Option β} {k : Nat → Option β} {p : Nat → Prop} (m : Nat) (hm : p m)
    (hs : ∀ n i, i ≤ m → ¬ p i → F (n + 1) (i : Int) = F n ((i + 1 : Nat) : Int)) (he : ∀ n i, i ≤ m → p i → F (n + 1) (i : Int) = k i) :
    ∀ n i, i ≤ m → m - i < n → ∃ j, i ≤ j ∧ j ≤ m ∧ p j ∧ (∀ q, i ≤ q → q < j → ¬ p q) ∧ F n (i : Int) = k j := by
  intro n
  induction n with
  | zero => intro i _ h; omega
  | succ n ih =>
    intro i hi hn
    by_cases h : p i
    · exact ⟨i, Nat.le_refl _, hi, h, fun q h1 h2 => by omega, he n i hi h⟩
    · have : i ≠ m := fun hh => h (hh ▸ hm)
      obtain ⟨j, h1, h2, h3, h4, h5⟩ := ih (i + 1) (by omega) (by omega)
      refine ⟨j, by omega, h2, h3, fun q h6 h7 => ?_, (hs n i hi h).trans h5⟩
      by_cases hq : q = i
      · subst hq; exact h
      · exact h4 q (by omega) h7
end
end Go.Vc
namespace Go.Vc
open Go.Proofs
set_option linter.unusedVariables false
set_option linter.unnecessarySimpa false
set_option linter.unusedSimpArgs false
def f17_c10 (n4 : Int) : Option (Int × Bool) :=
 some (n4, true)
def f17_5b (r5 : Int → Int → Option (Int × Bool)) (a0 : ByteArray) (k0 : Int → Option (Int × Bool)) (n4 : Int) (i5 : Int) : Option (Int × Bool) :=
 bif decide (i5 < (ByteArray.size a0 : Int)) then ((idxS a0 i5).bind fun x1 =>
 bif decide (x1 < (48 : Int)) then (some ((0 : Int), false))
 else ((idxS a0 i5).bind fun x2 =>
 bif decide ((57 : Int) < x2) then (some ((0 : Int), false))
 else ((idxS a0 i5).bind fun x3 =>
 r5 (W ((W ((10 : Int) * n4)) + (Wk .u8 (x3 - (48 : Int))))) (W (i5 + (1 : Int))))))
 else (k0 n4)
def f17_5 (a0 : ByteArray) (k0 : Int → Option (Int × Bool)) : Nat → Int → Int → Option (Int × Bool)
  | 0, _, _ => none
  | n + 1, n4, i5 => f17_5b (f17_5 a0 k0 n) a0 k0 n4 i5
def f17_c3 (a0 : ByteArray) (N : Nat) : Option (Int × Bool) :=
 joinK f17_c10 fun k0 =>
 f17_5 a0 k0 N (0 : Int) (0 : Int)
def f17 (N : Nat) (a0 : ByteArray) : Option (Int × Bool) :=
 joinK (f17_c3 a0 N) fun k1 =>
 (f57 N (ByteArray.size a0 : Int) (1 : Int) (8 : Int)).bind fun x4 =>
 bif !x4 then (some ((0 : Int), false))
 else ((idxS a0 (0 : Int)).bind fun x5 =>
 bif decide (x5 = (48 : Int)) then (bif decide ((1 : Int) < (ByteArray.size a0 : Int)) then (some ((0 : Int), false))
 else k1)
 else k1)
end Go.Vc
namespace Go.Vc
open Go.Proofs
set_option linter.unusedVariables false
set_option linter.unnecessarySimpa false
set_option linter.unusedSimpArgs false
def f19_c8 : Option (Bool) :=
 some (true)
def f19_4b (r4 : Int → Option (Bool)) (a0 : ByteArray) (k0 : Option (Bool)) (i3 : Int) : Option (Bool) :=
 bif decide (i3 < (ByteArray.size a0 : Int)) then ((idxS a0 i3).bind fun x2 =>
 bif decide (x2 < (97 : Int)) then (some (false))
 else ((idxS a0 i3).bind fun x3 =>
 bif decide ((122 : Int) < x3) then (some (false))
 else (r4 (W (i3 + (1 : Int))))))
 else k0
def f19_4 (a0 : ByteArray) (k0 : Option (Bool)) : Nat → Int → Option (Bool)
  | 0, _ => none
  | n + 1, i3 => f19_4b (f19_4 a0 k0 n) a0 k0 i3
def f19 (N : Nat) (a0 : ByteArray) : Option (Bool) :=
 (f57 N (ByteArray.size a0 : Int) (1 : Int) (9 : Int)).bind fun x1 =>
 bif !x1 then (some (false))
 else (joinK f19_c8 fun k0 =>
 f19_4 a0 k0 N (0 : Int))
end Go.Vc
namespace Go.Vc
open Go.Proofs
set_option linter.unusedVariables false
set_option linter.unnecessarySimpa false
set_option linter.unusedSimpArgs false
def f3 (N : Nat) (a0 : ByteArray) : Option (Bool) :=
 bif decide ((40 : Int) < (ByteArray.size a0 : Int)) then ((f15 N ).bind fun x1 =>
 some (x1))
 else ((f16 N a0).bind fun x2 =>
 (f17 N a0).bind fun x3 =>
 bif decide (x2.1 = x3.1) then (bif (x2.2 == x3.2) then ((f18 N a0).bind fun x4 =>
 (f19 N a0).bind fun x5 =>
 bif (x4 == x5) then ((f15 N ).bind fun x6 =>
 some (x6))
 else (some (false)))
 else (some (false)))
 else (some (false)))
end Go.Vc

/-
  A library for proofs about Go functions by symbolic evaluation, and plain Lean functions that the walked Go functions compute (written by a program of this claim).
-/
import Derived.Test.YtikifojhjbcfhaaW1
import Derived.Test.YtikifojhjbcfhaaW2
namespace Go.Vc
open Go.Proofs
set_option linter.unusedVariables false
set_option linter.unnecessarySimpa false
set_option linter.unusedSimpArgs false
section
variable {c : Ctx} {p nid : Nat} {a b : Code} {st : St} {K : Ex → St → Prop}
/- f99: slices.heapSortCmpFunc[tusche/serial.Spot] -/
def f99_8b (r8 : Int → (List Spot) → Option ((List Spot))) (s0 : Int) (N : Nat) (i12 : Int) (b0' : List Spot) : Option ((List Spot)) :=
 bif decide ((0 : Int) ≤ i12) then ((ix (b0') (W (s0 + i12))).bind fun x1 =>
 (ix (b0') s0).bind fun x2 =>
 (ix (b0') s0).bind fun x3 =>
 (setx (b0') s0 x1).bind fun x4 =>
 (ix x4 (W (s0 + i12))).bind fun x5 =>
 (setx x4 (W (s0 + i12)) x2).bind fun x6 =>
 (f109 N (0 : Int) i12 s0 x6).bind fun x7 =>
 (keepL x6 x7).bind fun x8 =>
 r8 (W (i12 - (1 : Int))) x8)
 else (some (b0'))
def f99_8 (s0 : Int) (N : Nat) : Nat → Int → (List Spot) → Option ((List Spot))
  | 0, _, _ => none
  | n + 1, i12, b0' => f99_8b (f99_8 s0 N n) s0 N i12 b0'
def Lf99_8 (s0 : Int) (N : Nat) : Lp (Nat × Int × (List Spot)) (Nat) ((List Spot)) := ⟨⟨[0, 3, 8, 9, 12], [0], [], []⟩, fun (_, i12, b0') => [.rs 0 (List.length (b0')), .dat (.v (.func (.func 91) #[] #[])), .dat (iN s0), .dat (iN (0 : Int)), .dat (iN i12)], fun (_, _, b0') => [.row 73 3 (List.map Spot.d (b0'))], fun (n, i12, b0') => f99_8 s0 N n i12 b0', fun (_, i12, _) m0 => [.rs 0 m0, .dat (.v (.func (.func 91) #[] #[])), .dat (iN s0), .dat (iN (0 : Int)), .dat (iN i12)], fun (_, _, b0') _ => [.row 73 3 (List.map Spot.d (b0'))], fun (_, _, b0') => List.length (b0'), fun _ => rfl, fun _ => rfl⟩
theorem Ef99_8 {s0 N n i12 b0'} : (Lf99_8 s0 N).E (n, i12, b0') = f99_8 s0 N n i12 b0' := rfl
def f99_c7 (s0 : Int) (s1 : Int) (N : Nat) (b0 : List Spot) : Option ((List Spot)) :=
 f99_8 s0 N N (W ((W (s1 - s0)) - (1 : Int))) b0
def Lf99_c7 (s0 : Int) (s1 : Int) (N : Nat) : Lp ((List Spot)) (Nat) ((List Spot)) := ⟨⟨[0, 3, 8, 9, 10], [0], [], []⟩, fun b0 => [.rs 0 (List.length b0), .dat (.v (.func (.func 91) #[] #[])), .dat (iN s0), .dat (iN (0 : Int)), .dat (iN (W (s1 - s0)))], fun b0 => [.row 73 3 (List.map Spot.d b0)], fun b0 => f99_c7 s0 s1 N b0, fun _ m0 => [.rs 0 m0, .dat (.v (.func (.func 91) #[] #[])), .dat (iN s0), .dat (iN (0 : Int)), .dat (iN (W (s1 - s0)))], fun b0 _ => [.row 73 3 (List.map Spot.d b0)], fun b0 => List.length b0, fun _ => rfl, fun _ => rfl⟩
theorem Ef99_c7 {s0 s1 N b0} : (Lf99_c7 s0 s1 N).E b0 = f99_c7 s0 s1 N b0 := rfl
def f99_4b (r4 : Int → (List Spot) → Option ((List Spot))) (s0 : Int) (s1 : Int) (N : Nat) (k0 : (List Spot) → Option ((List Spot))) (i11 : Int) (b0 : List Spot) : Option ((List Spot)) :=
 bif decide ((0 : Int) ≤ i11) then ((f109 N i11 (W (s1 - s0)) s0 b0).bind fun x9 =>
 (keepL b0 x9).bind fun x10 =>
 r4 (W (i11 - (1 : Int))) x10)
 else (k0 b0)
def f99_4 (s0 : Int) (s1 : Int) (N : Nat) (k0 : (List Spot) → Option ((List Spot))) : Nat → Int → (List Spot) → Option ((List Spot))
  | 0, _, _ => none
  | n + 1, i11, b0 => f99_4b (f99_4 s0 s1 N k0 n) s0 s1 N k0 i11 b0
def Lf99_4 (s0 : Int) (s1 : Int) (N : Nat) (k0 : (List Spot) → Option ((List Spot))) : Lp (Nat × Int × (List Spot)) (Nat) ((List Spot)) := ⟨⟨[0, 3, 8, 9, 10, 11], [0], [], []⟩, fun (_, i11, b0) => [.rs 0 (List.length b0), .dat (.v (.func (.func 91) #[] #[])), .dat (iN s0), .dat (iN (0 : Int)), .dat (iN (W (s1 - s0))), .dat (iN i11)], fun (_, _, b0) => [.row 73 3 (List.map Spot.d b0)], fun (n, i11, b0) => f99_4 s0 s1 N k0 n i11 b0, fun (_, i11, _) m0 => [.rs 0 m0, .dat (.v (.func (.func 91) #[] #[])), .dat (iN s0), .dat (iN (0 : Int)), .dat (iN (W (s1 - s0))), .dat (iN i11)], fun (_, _, b0) _ => [.row 73 3 (List.map Spot.d b0)], fun (_, _, b0) => List.length b0, fun _ => rfl, fun _ => rfl⟩
theorem Ef99_4 {s0 s1 N k0 n i11 b0} : (Lf99_4 s0 s1 N k0).E (n, i11, b0) = f99_4 s0 s1 N k0 n i11 b0 := rfl
def f99b (self : Int → Int → (List Spot) → Option ((List Spot))) (N : Nat) (s0 : Int) (s1 : Int) (s2 : List Spot) : Option ((List Spot)) :=
 joinK (f99_c7 s0 s1 N) fun k0 =>
 f99_4 s0 s1 N k0 N (W (Int.tdiv (W ((W (s1 - s0)) - (1 : Int))) (2 : Int))) s2
def f99 : Nat → Int → Int → (List Spot) → Option ((List Spot))
  | 0, _, _, _ => none
  | N + 1, s0, s1, s2 => f99b (f99 N) N s0 s1 s2
def Af99 (s0 : Int) (s1 : Int) (s2 : List Spot) : List SV := [.rs 0 (List.length s2), .dat (iN s0), .dat (iN s1), .dat (.v (.func (.func 91) #[] #[]))]
def Bf99 (s0 : Int) (s1 : Int) (s2 : List Spot) : List Blk := [.row 73 3 (List.map Spot.d s2)]
def Rf99 (y : (List Spot)) : List SV := []
def B1f99 (s0 : Int) (s1 : Int) (s2 : List Spot) (y : (List Spot)) : List Blk := [.row 73 3 (List.map Spot.d y)]
def BZf99 (y : (List Spot)) : Blk := .unborn
def Spf99 : Spec (Int × Int × (List Spot)) ((List Spot)) := ⟨1, fun x => Af99 x.1 x.2.1 x.2.2, fun x => Bf99 x.1 x.2.1 x.2.2, fun _ y => Rf99 y, fun x y => B1f99 x.1 x.2.1 x.2.2 y, fun _ y => BZf99 y⟩
def H99 (N : Nat) (x : Int × Int × (List Spot)) (y : (List Spot)) : Prop := f99 N x.1 x.2.1 x.2.2 = some y
def G99 (x : Int × Int × (List Spot)) (y : (List Spot)) : Prop := ∃ N, H99 N x y
theorem H99.step {N : Nat} {s0 : Int} {s1 : Int} {s2 : List Spot} {m0 : Nat} {ρ : Type} {A : (List Spot) → Option ρ} {q : ρ} {xs : List SV} {id : Nat} {m : Nat → Blk} {l : List Loc} {K : Dl → List Loc → Prop} {k0 : Nat} (ha : xs = [.rs k0 m0, .dat (iN s0), .dat (iN s1), .dat (.v (.func (.func 91) #[] #[]))]) (b0 : m k0 = .row 73 3 (List.map Spot.d s2)) (em0 : m0 = List.length s2) (hu : m id = .unborn) (hn : nodupB [k0] = true) (h : ∀ y, A y = some q → K ⟨.tup [], [(k0, .row 73 3 (List.map Spot.d y)), (id, .unborn)]⟩ l) (hF : (f99 N s0 s1 s2).bind A = some q) : effPg Spf99 (H99 N) xs id (fun _ => SV.no) m l K := by
  subst em0; obtain ⟨y, hy, hA⟩ := bind_some hF
  exact eff_step [k0] (s0, s1, s2) y _ hy rfl hn ha (by simp only [List.map_cons, List.map_nil, b0]; rfl) hu rfl rfl (h y hA)
theorem G99.step {N : Nat} {s0 : Int} {s1 : Int} {s2 : List Spot} {m0 : Nat} {ρ : Type} {A : (List Spot) → Option ρ} {q : ρ} {xs : List SV} {id : Nat} {m : Nat → Blk} {l : List Loc} {K : Dl → List Loc → Prop} {k0 : Nat} (ha : xs = [.rs k0 m0, .dat (iN s0), .dat (iN s1), .dat (.v (.func (.func 91) #[] #[]))]) (b0 : m k0 = .row 73 3 (List.map Spot.d s2)) (em0 : m0 = List.length s2) (hu : m id = .unborn) (hn : nodupB [k0] = true) (h : ∀ y, A y = some q → K ⟨.tup [], [(k0, .row 73 3 (List.map Spot.d y)), (id, .unborn)]⟩ l) (hF : (f99 N s0 s1 s2).bind A = some q) : effPg Spf99 (G99) xs id (fun _ => SV.no) m l K := by
  subst em0; obtain ⟨y, hy, hA⟩ := bind_some hF
  exact eff_step [k0] (s0, s1, s2) y _ ⟨N, hy⟩ rfl hn ha (by simp only [List.map_cons, List.map_nil, b0]; rfl) hu rfl rfl (h y hA)
def Srf99 : Ann := ⟨[], [0, 500], [], []⟩
set_option maxRecDepth 20000 in
set_option maxHeartbeats 4000000 in
theorem Q99 (N : Nat) : CallOK Try.prog 99 (effPg Spf99 (H99 N)) := by
  induction N with
  | zero => exact eff_none fun x y h => (by cases (show (none : Option ((List Spot))) = some y from h))
  | succ N ih =>
    refine eff_of_vc (c := mkCtx tyTree [(99, false, effPg Spf99 (H99 N)), (109, false, effPg Spf109 G109)]) rfl tyOK (ctx_eff (callable Try.func99 rfl rfl) ih (ctx_eff (callable Try.func109 rfl rfl) P109 (ctx_nil))) 1000 500 Srf99 Try.func99 rfl rfl (by kernel_rfl) rfl rfl rfl rfl rfl (fun _ => rfl) (fun _ => rfl) (fun _ _ => ⟨rfl, rfl⟩) ?_
    rintro ⟨s0, s1, s2⟩ y hF
    have hF : f99b (f99 N) N s0 s1 s2 = some y := hF
    show vc _ _ _ _ ⟨[(0, .rs 0 (List.length s2)), (1, .dat (iN s0)), (2, .dat (iN s1)), (3, .dat (.v (.func (.func 91) #[] #[])))], [(0, .row 73 3 (List.map Spot.d s2))]⟩ _
    unfold f99b at hF
    repeat' (first
      | ((with_reducible first | refine q0 _ _ ?_ | refine q1 _ _ _ _ ?_ | refine q2 _ _ _ ?_); clear Q q0 q1 q2)
      | ((with_reducible first | refine seq_op ?hx (fun Q q0 q1 q2 => ?_) | refine draw_op ?hx (fun Q q0 q1 q2 => ?_) | refine seq_op0 ?hx (fun Q q0 q1 q2 => ?_) | refine draw_op0 ?hx (fun Q q0 q1 q2 => ?_)); (case hx => exact rfl); conv => whnf)
      | ((with_reducible refine cond_id ?_); (first | ((refine condKT rfl ?hy ?_); (case hy => first | assumption | exact notT (by assumption) | exact rfl)) | ((refine condKF rfl ?hy ?_); (case hy => first | assumption | exact notF (by assumption) | exact rfl)) | (revert hF; (with_reducible refine condF ?hx ?_ ?_); (case hx => exact rfl); all_goals (intro hc hF))))
      | ((with_reducible refine seq_nil ?_); (first | ((with_reducible refine hR _ ?_); clear R hR) | ((with_reducible refine hL _ ?_); clear L hL)))
      | ((with_reducible refine draw_nil ?_); (with_reducible refine hR _ _ ?hx ?_); (case hx => kernel_rfl); (first | clear R hR | clear hR))
      | ((with_reducible first | refine int_step ?_ | refine len_step ?_ | refine idx2 (by assumption) ?_ | refine idx3 (by assumption) ?_); conv => whnf)
      | (with_reducible first | refine vc_block ?_ | refine vc_skip ?_ | refine vc_ret ?_ | refine vc_exit ?_ | refine vc_region (fun R hR => ?_) | refine k_seq_ret ?_ | refine k_seq_exit ?_ | refine k_blk ?_ | refine k_blk_ret ?_ | refine k_blk_here ?_ | refine k_loop_ret ?_ | refine k_loop_exit ?_)
      | ((with_reducible refine vc_seqN [1000007] ?hx ?_); (case hx => exact rfl))
      | ((with_reducible refine vc_draw ?hx (fun R hR => ?_)); (case hx => exact rfl))
      | (revert hF; (refine Lp.loop Ef99_8 _ rfl ⟨_, rfl, rfl, rfl, rfl⟩ (by first | exact rfl | ((try dsimp only [Lf99_8]); first | assumption | omega | (simp only [List.length_set]; done))) (fun _ => rfl) ?_); rintro n ⟨i12, b0'⟩ hF; dsimp only [Lf99_8, f99_8] at hF; unfold f99_8b at hF)
      | exact Lp.back Ef99_8 hF _ ⟨_, rfl, rfl, rfl, rfl⟩ (by first | exact rfl | ((try dsimp only [Lf99_8]); first | assumption | omega | (simp only [List.length_set]; done)))
      | (revert hF; (refine Lp.cut3 Lf99_c7 f99_c7 1000007 rfl rfl ?_ ?_); (intro hF); rotate_left; (rintro b0 hF; dsimp only [Lf99_c7] at hF; unfold f99_c7 at hF); rotate_right)
      | exact Lp.head Ef99_c7 hF _ ⟨_, rfl, rfl, rfl, rfl⟩ (by first | exact rfl | ((try dsimp only [Lf99_c7]); first | assumption | omega | (simp only [List.length_set]; done)))
      | (revert hF; (refine Lp.loop Ef99_4 _ rfl ⟨_, rfl, rfl, rfl, rfl⟩ (by first | exact rfl | ((try dsimp only [Lf99_4]); first | assumption | omega | (simp only [List.length_set]; done))) (fun _ => rfl) ?_); rintro n ⟨i11, b0⟩ hF; dsimp only [Lf99_4, f99_4] at hF; unfold f99_4b at hF)
      | exact Lp.back Ef99_4 hF _ ⟨_, rfl, rfl, rfl, rfl⟩ (by first | exact rfl | ((try dsimp only [Lf99_4]); first | assumption | omega | (simp only [List.length_set]; done)))
      | (revert hF; (refine G109.step rfl rfl (by first | exact rfl | assumption | omega | (simp only [List.length_set]; done)) rfl ?hn ?_); (case hn => exact rfl); intro v hF; conv => whnf)
      | (revert hF; (refine H99.step rfl rfl (by first | exact rfl | assumption | omega | (simp only [List.length_set]; done)) rfl ?hn ?_); (case hn => exact rfl); intro v hF; conv => whnf)
      | (show retE _ _ _ _ _ _; conv => whnf)
      | (cases hF; exact ⟨rfl, rfl, rfl⟩)
      | ((with_reducible have hG := keep_fact hF); have hk := hG.1; have hF := hG.2; clear hG)
      | ((with_reducible first | refine k_blk_out ?hx ?_ | refine vc_condT ?hx ?_); (case hx => exact rfl))
      | (revert hF; (with_reducible refine idx1 ?hn ?_); (case hn => first | exact rfl | exact (List.length_map _) | assumption | omega | simp); intro x hx hF; conv => whnf)
      | ((refine row_all ?hn ?_); (case hn => first | exact rfl | (simp; done) | (simp; omega)); conv => whnf)
      | ((with_reducible refine le_step ?hn ?_); (case hn => first | exact rfl | assumption | omega); conv => whnf)
      | ((with_reducible have hG := setx_fact hF); clear hF; (refine setx_step hG ?hs (fun q hl hF => ?_)); (case hs => exact rfl); clear hG; conv => whnf)
      | ((refine ⟨?hx, ?_⟩); (case hx => exact ⟨rfl, Nat.le_of_ble_eq_true rfl, rfl⟩); conv => whnf)
      | ((with_reducible refine ex_step ?_); conv => whnf)
      | ((with_reducible refine both_T ?hx ?_); (case hx => first | exact rfl | assumption | exact notT (by assumption)); conv => whnf)
      | ((with_reducible refine both_F ?hx ?_); (case hx => first | exact rfl | assumption | exact notF (by assumption)); conv => whnf)
      | (revert hF; (with_reducible refine ite_step ?_ ?_) <;> (intro hc hF; conv => whnf))
      | ((with_reducible refine vc_condF ?hx ?_); (case hx => exact rfl))
      | (show retD _ _ _ _ _ _; conv => whnf)
      | ((refine ⟨?hx, trivial⟩); (case hx => (cases hF; exact rfl)))
      | ((refine ⟨?hx, ?_⟩); (case hx => decide); conv => whnf)
      | with_reducible refine k_seq ?_
      | (have hF : (none : Option _) = some _ := hF; cases hF))
theorem P99 : CallOK Try.prog 99 (effPg Spf99 G99) := eff_ex Q99
end
end Go.Vc
namespace Go.Vc
open Go.Proofs
set_option linter.unusedVariables false
set_option linter.unnecessarySimpa false
set_option linter.unusedSimpArgs false
section
variable {c : Ctx} {p nid : Nat} {a b : Code} {st : St} {K : Ex → St → Prop}
/- f107: math/bits.Len64 -/
def f107_c7 (x0' : Int) (n2' : Int) : Option (Int) :=
 bif decide ((256 : Int) ≤ (x0')) then ((idxS (strC (List.append (List.append [0, 1, 2, 2, 3, 3, 3, 3, 4, 4, 4, 4, 4, 4, 4, 4, 5, 5, 5, 5, 5, 5, 5, 5, 5, 5, 5, 5, 5, 5, 5, 5, 6, 6, 6, 6, 6, 6, 6, 6, 6, 6, 6, 6, 6, 6, 6, 6, 6, 6, 6, 6, 6, 6, 6, 6, 6, 6, 6, 6, 6, 6, 6, 6] [7, 7, 7, 7, 7, 7, 7, 7, 7, 7, 7, 7, 7, 7, 7, 7, 7, 7, 7, 7, 7, 7, 7, 7, 7, 7, 7, 7, 7, 7, 7, 7, 7, 7, 7, 7, 7, 7, 7, 7, 7, 7, 7, 7, 7, 7, 7, 7, 7, 7, 7, 7, 7, 7, 7, 7, 7, 7, 7, 7, 7, 7, 7, 7]) (List.append [8, 8, 8, 8, 8, 8, 8, 8, 8, 8, 8, 8, 8, 8, 8, 8, 8, 8, 8, 8, 8, 8, 8, 8, 8, 8, 8, 8, 8, 8, 8, 8, 8, 8, 8, 8, 8, 8, 8, 8, 8, 8, 8, 8, 8, 8, 8, 8, 8, 8, 8, 8, 8, 8, 8, 8, 8, 8, 8, 8, 8, 8, 8, 8] [8, 8, 8, 8, 8, 8, 8, 8, 8, 8, 8, 8, 8, 8, 8, 8, 8, 8, 8, 8, 8, 8, 8, 8, 8, 8, 8, 8, 8, 8, 8, 8, 8, 8, 8, 8, 8, 8, 8, 8, 8, 8, 8, 8, 8, 8, 8, 8, 8, 8, 8, 8, 8, 8, 8, 8, 8, 8, 8, 8, 8, 8, 8, 8]))) (Wk .u8 (Int.fdiv (x0') (2 ^ (min (Int.toNat (8 : Int)) 64))))).bind fun x1 =>
 some (W ((W ((n2') + (8 : Int))) + x1)))
 else ((idxS (strC (List.append (List.append [0, 1, 2, 2, 3, 3, 3, 3, 4, 4, 4, 4, 4, 4, 4, 4, 5, 5, 5, 5, 5, 5, 5, 5, 5, 5, 5, 5, 5, 5, 5, 5, 6, 6, 6, 6, 6, 6, 6, 6, 6, 6, 6, 6, 6, 6, 6, 6, 6, 6, 6, 6, 6, 6, 6, 6, 6, 6, 6, 6, 6, 6, 6, 6] [7, 7, 7, 7, 7, 7, 7, 7, 7, 7, 7, 7, 7, 7, 7, 7, 7, 7, 7, 7, 7, 7, 7, 7, 7, 7, 7, 7, 7, 7, 7, 7, 7, 7, 7, 7, 7, 7, 7, 7, 7, 7, 7, 7, 7, 7, 7, 7, 7, 7, 7, 7, 7, 7, 7, 7, 7, 7, 7, 7, 7, 7, 7, 7]) (List.append [8, 8, 8, 8, 8, 8, 8, 8, 8, 8, 8, 8, 8, 8, 8, 8, 8, 8, 8, 8, 8, 8, 8, 8, 8, 8, 8, 8, 8, 8, 8, 8, 8, 8, 8, 8, 8, 8, 8, 8, 8, 8, 8, 8, 8, 8, 8, 8, 8, 8, 8, 8, 8, 8, 8, 8, 8, 8, 8, 8, 8, 8, 8, 8] [8, 8, 8, 8, 8, 8, 8, 8, 8, 8, 8, 8, 8, 8, 8, 8, 8, 8, 8, 8, 8, 8, 8, 8, 8, 8, 8, 8, 8, 8, 8, 8, 8, 8, 8, 8, 8, 8, 8, 8, 8, 8, 8, 8, 8, 8, 8, 8, 8, 8, 8, 8, 8, 8, 8, 8, 8, 8, 8, 8, 8, 8, 8, 8]))) (Wk .u8 (x0'))).bind fun x2 =>
 some (W ((n2') + x2)))
def Lf107_c7 : Lp (Int × Int) Unit (Int) := lp0 ⟨[0, 2], [], [], []⟩ (fun (x0', n2') => [.dat (u64N (x0')), .dat (iN (n2'))]) (fun (_, _) => []) (fun (x0', n2') => f107_c7 x0' n2')
theorem Ef107_c7 {x0' n2'} : (Lf107_c7).E (x0', n2') = f107_c7 x0' n2' := rfl
def f107_c4 (x0 : Int) (n2 : Int) : Option (Int) :=
 joinK f107_c7 fun k0 =>
 bif decide ((65536 : Int) ≤ x0) then (k0 (Int.fdiv x0 (2 ^ (min (Int.toNat (16 : Int)) 64))) (W (n2 + (16 : Int))))
 else (k0 x0 n2)
def Lf107_c4 : Lp (Int × Int) Unit (Int) := lp0 ⟨[0, 2], [], [], []⟩ (fun (x0, n2) => [.dat (u64N x0), .dat (iN n2)]) (fun (_, _) => []) (fun (x0, n2) => f107_c4 x0 n2)
theorem Ef107_c4 {x0 n2} : (Lf107_c4).E (x0, n2) = f107_c4 x0 n2 := rfl
def f107 (N : Nat) (a0 : Int) : Option (Int) :=
 joinK f107_c4 fun k1 =>
 bif decide ((4294967296 : Int) ≤ a0) then (k1 (Int.fdiv a0 (2 ^ (min (Int.toNat (32 : Int)) 64))) (32 : Int))
 else (k1 a0 (0 : Int))
def G107 (ds : List D) (d : D) : Prop := ∃ (N : Nat) (a0 : Int) (r : Int), ds = [u64N a0] ∧ f107 N a0 = some r ∧ d = iN r
theorem G107.lend {N : Nat} {a0 : Int} {ρ : Type} {A : Int → Option ρ} {q : ρ} {ds : List D} {K : D → Prop} (hd : ds = [u64N a0]) (h : ∀ r, A r = some q → K (iN r)) (hF : (f107 N a0).bind A = some q) : ∃ d, (G107 ds d ∧ d.flatB = true) ∧ K d := by
  obtain ⟨r, hr, hA⟩ := bind_some hF
  exact ⟨_, ⟨⟨N, a0, r, hd, hr, rfl⟩, rfl⟩, h r hA⟩
theorem G107.step {N : Nat} {a0 : Int} {ρ : Type} {A : Int → Option ρ} {q : ρ} {ds : List D} {K : D → Prop} (hd : ds = [u64N a0]) (h : ∀ r, A r = some q → K (iN r)) (hF : (f107 N a0).bind A = some q) : ∃ d, G107 ds d ∧ K d := by
  obtain ⟨r, hr, hA⟩ := bind_some hF
  exact ⟨_, ⟨N, a0, r, hd, hr, rfl⟩, h r hA⟩
set_option maxRecDepth 20000 in
set_option maxHeartbeats 4000000 in
theorem P107 : PureOK Try.prog 107 G107 := by
  refine pure_of_vc (c := mkCtx tyTree []) rfl tyOK (ctx_nil) [[0]] 1 Try.func107 rfl rfl (by decide) (by kernel_rfl) ?_
  rintro ds d ⟨N, a0, r, rfl, hF, rfl⟩ hok
  clear hok
  refine ⟨rfl, ?_⟩
  show vc _ _ _ _ ⟨[(0, .dat (u64N a0))], []⟩ _
  unfold f107 at hF
  repeat' (first
    | ((with_reducible first | refine q0 _ _ ?_ | refine q1 _ _ _ _ ?_ | refine q2 _ _ _ ?_); clear Q q0 q1 q2)
    | ((with_reducible first | refine seq_op ?hx (fun Q q0 q1 q2 => ?_)); (case hx => exact rfl); conv => whnf)
    | ((with_reducible refine cond_id ?_); (first | ((refine condKT rfl ?hy ?_); (case hy => first | assumption | exact notT (by assumption) | exact rfl)) | ((refine condKF rfl ?hy ?_); (case hy => first | assumption | exact notF (by assumption) | exact rfl)) | (revert hF; (with_reducible refine condF ?hx ?_ ?_); (case hx => exact rfl); all_goals (intro hc hF))))
    | ((with_reducible refine seq_nil ?_); (first | ((with_reducible refine hR _ ?_); clear R hR) | ((with_reducible refine hL _ ?_); clear L hL)))
    | ((with_reducible first | refine int_step ?_); conv => whnf)
    | (with_reducible first | refine vc_block ?_ | refine vc_skip ?_ | refine vc_ret ?_ | refine vc_exit ?_ | refine vc_region (fun R hR => ?_) | refine k_seq_ret ?_ | refine k_seq_exit ?_ | refine k_blk ?_ | refine k_blk_ret ?_ | refine k_blk_here ?_)
    | ((with_reducible refine vc_seqN [7, 4] ?hx ?_); (case hx => exact rfl))
    | (revert hF; (refine Lp.cut0 Lf107_c7 f107_c7 7 rfl rfl ?_ ?_); (intro hF); rotate_left; (rintro ⟨x0', n2'⟩ hF; dsimp only [Lf107_c7] at hF; unfold f107_c7 at hF); rotate_right)
    | exact Lp.head Ef107_c7 hF () ⟨_, rfl, rfl, rfl, rfl⟩ rfl
    | (revert hF; (refine Lp.cut0 Lf107_c4 f107_c4 4 rfl rfl ?_ ?_); (intro hF); rotate_left; (rintro ⟨x0, n2⟩ hF; dsimp only [Lf107_c4] at hF; unfold f107_c4 at hF); rotate_right)
    | exact Lp.head Ef107_c4 hF () ⟨_, rfl, rfl, rfl, rfl⟩ rfl
    | (revert hF; (refine idxS_step ?_); intro x hF; conv => whnf)
    | ((with_reducible first | refine k_blk_out ?hx ?_ | refine vc_condT ?hx ?_); (case hx => exact rfl))
    | ((refine row_all ?hn ?_); (case hn => first | exact rfl | (simp; done) | (simp; omega)); conv => whnf)
    | ((with_reducible refine le_step ?hn ?_); (case hn => first | exact rfl | assumption | omega); conv => whnf)
    | ((refine ⟨?hx, ?_⟩); (case hx => exact ⟨rfl, Nat.le_of_ble_eq_true rfl, rfl⟩); conv => whnf)
    | ((with_reducible refine ex_step ?_); conv => whnf)
    | ((with_reducible refine both_T ?hx ?_); (case hx => first | exact rfl | assumption | exact notT (by assumption)); conv => whnf)
    | ((with_reducible refine both_F ?hx ?_); (case hx => first | exact rfl | assumption | exact notF (by assumption)); conv => whnf)
    | (revert hF; (with_reducible refine ite_step ?_ ?_) <;> (intro hc hF; conv => whnf))
    | ((with_reducible refine vc_condF ?hx ?_); (case hx => exact rfl))
    | (show retD _ _ _ _ _ _; conv => whnf)
    | ((refine ⟨?hx, trivial⟩); (case hx => (cases hF; exact rfl)))
    | ((refine ⟨?hx, ?_⟩); (case hx => decide); conv => whnf)
    | with_reducible refine k_seq ?_
    | (have hF : (none : Option _) = some _ := hF; cases hF))
end
end Go.Vc
namespace Go.Vc
open Go.Proofs
set_option linter.unusedVariables false
set_option linter.unnecessarySimpa false
set_option linter.unusedSimpArgs false
section
variable {c : Ctx} {p nid : Nat} {a b : Code} {st : St} {K : Ex → St → Prop}
/- f96: math/bits.Len -/
def f96 (N : Nat) (a0 : Int) : Option (Int) :=
 (f107 N a0).bind fun x1 =>
 some (x1)
def G96 (ds : List D) (d : D) : Prop := ∃ (N : Nat) (a0 : Int) (r : Int), ds = [u64N a0] ∧ f96 N a0 = some r ∧ d = iN r
theorem G96.lend {N : Nat} {a0 : Int} {ρ : Type} {A : Int → Option ρ} {q : ρ} {ds : List D} {K : D → Prop} (hd : ds = [u64N a0]) (h : ∀ r, A r = some q → K (iN r)) (hF : (f96 N a0).bind A = some q) : ∃ d, (G96 ds d ∧ d.flatB = true) ∧ K d := by
  obtain ⟨r, hr, hA⟩ := bind_some hF
  exact ⟨_, ⟨⟨N, a0, r, hd, hr, rfl⟩, rfl⟩, h r hA⟩
theorem G96.step {N : Nat} {a0 : Int} {ρ : Type} {A : Int → Option ρ} {q : ρ} {ds : List D} {K : D → Prop} (hd : ds = [u64N a0]) (h : ∀ r, A r = some q → K (iN r)) (hF : (f96 N a0).bind A = some q) : ∃ d, G96 ds d ∧ K d := by
  obtain ⟨r, hr, hA⟩ := bind_some hF
  exact ⟨_, ⟨N, a0, r, hd, hr, rfl⟩, h r hA⟩
set_option maxRecDepth 20000 in
set_option maxHeartbeats 4000000 in
theorem P96 : PureOK Try.prog 96 G96 := by
  refine pure_of_vc (c := mkCtx tyTree [(107, true, lendPg [[0]] G107)]) rfl tyOK (ctx_lend (callable Try.func107 rfl rfl) P107 (ctx_nil)) [[0]] 1 Try.func96 rfl rfl (by decide) (by kernel_rfl) ?_
  rintro ds d ⟨N, a0, r, rfl, hF, rfl⟩ hok
  clear hok
  refine ⟨rfl, ?_⟩
  show vc _ _ _ _ ⟨[(0, .dat (u64N a0))], []⟩ _
  unfold f96 at hF
  repeat' (first
    | ((with_reducible first | refine q0 _ _ ?_ | refine q1 _ _ _ _ ?_ | refine q2 _ _ _ ?_); clear Q q0 q1 q2)
    | ((with_reducible first | refine seq_op ?hx (fun Q q0 q1 q2 => ?_)); (case hx => exact rfl); conv => whnf)
    | ((with_reducible refine seq_nil ?_); (first | ((with_reducible refine hR _ ?_); clear R hR) | ((with_reducible refine hL _ ?_); clear L hL)))
    | ((with_reducible first | refine int_step ?_); conv => whnf)
    | (with_reducible first | refine vc_skip ?_ | refine vc_constT ?_ | refine vc_constF ?_ | refine vc_ret ?_ | refine vc_region (fun R hR => ?_) | refine k_seq_ret ?_)
    | ((with_reducible refine vc_seqN [] ?hx ?_); (case hx => exact rfl))
    | (revert hF; (with_reducible refine G107.lend ?hx ?_); (case hx => exact rfl); intro v hF; conv => whnf)
    | ((refine row_all ?hn ?_); (case hn => first | exact rfl | (simp; done) | (simp; omega)); conv => whnf)
    | ((with_reducible refine le_step ?hn ?_); (case hn => first | exact rfl | assumption | omega); conv => whnf)
    | ((refine ⟨?hx, ?_⟩); (case hx => exact ⟨rfl, Nat.le_of_ble_eq_true rfl, rfl⟩); conv => whnf)
    | ((with_reducible refine ex_step ?_); conv => whnf)
    | ((with_reducible refine both_T ?hx ?_); (case hx => first | exact rfl | assumption | exact notT (by assumption)); conv => whnf)
    | ((with_reducible refine both_F ?hx ?_); (case hx => first | exact rfl | assumption | exact notF (by assumption)); conv => whnf)
    | (revert hF; (with_reducible refine ite_step ?_ ?_) <;> (intro hc hF; conv => whnf))
    | (show retD _ _ _ _ _ _; conv => whnf)
    | ((refine ⟨?hx, trivial⟩); (case hx => (cases hF; exact rfl)))
    | ((refine ⟨?hx, ?_⟩); (case hx => decide); conv => whnf)
    | with_reducible refine k_seq ?_
    | (have hF : (none : Option _) = some _ := hF; cases hF))
end
end Go.Vc
namespace Go.Vc
open Go.Proofs
set_option linter.unusedVariables false
set_option linter.unnecessarySimpa false
set_option linter.unusedSimpArgs false
section
variable {c : Ctx} {p nid : Nat} {a b : Code} {st : St} {K : Ex → St → Prop}
/- f110: slices.nextPowerOfTwo -/
def f110 (N : Nat) (a0 : Int) : Option (Int) :=
 (f96 N (Wk .u64 (a0))).bind fun x1 =>
 (chk (decide (0 ≤ x1))).bind fun _ =>
 some (Wk .u64 ((1 : Int) * 2 ^ (min (Int.toNat x1) 64)))
def G110 (ds : List D) (d : D) : Prop := ∃ (N : Nat) (a0 : Int) (r : Int), ds = [iN a0] ∧ f110 N a0 = some r ∧ d = u64N r
theorem G110.lend {N : Nat} {a0 : Int} {ρ : Type} {A : Int → Option ρ} {q : ρ} {ds : List D} {K : D → Prop} (hd : ds = [iN a0]) (h : ∀ r, A r = some q → K (u64N r)) (hF : (f110 N a0).bind A = some q) : ∃ d, (G110 ds d ∧ d.flatB = true) ∧ K d := by
  obtain ⟨r, hr, hA⟩ := bind_some hF
  exact ⟨_, ⟨⟨N, a0, r, hd, hr, rfl⟩, rfl⟩, h r hA⟩
theorem G110.step {N : Nat} {a0 : Int} {ρ : Type} {A : Int → Option ρ} {q : ρ} {ds : List D} {K : D → Prop} (hd : ds = [iN a0]) (h : ∀ r, A r = some q → K (u64N r)) (hF : (f110 N a0).bind A = some q) : ∃ d, G110 ds d ∧ K d := by
  obtain ⟨r, hr, hA⟩ := bind_some hF
  exact ⟨_, ⟨N, a0, r, hd, hr, rfl⟩, h r hA⟩
set_option maxRecDepth 20000 in
set_option maxHeartbeats 4000000 in
theorem P110 : PureOK Try.prog 110 G110 := by
  refine pure_of_vc (c := mkCtx tyTree [(96, true, lendPg [[0]] G96)]) rfl tyOK (ctx_lend (callable Try.func96 rfl rfl) P96 (ctx_nil)) [[0]] 1 Try.func110 rfl rfl (by decide) (by kernel_rfl) ?_
  rintro ds d ⟨N, a0, r, rfl, hF, rfl⟩ hok
  clear hok
  refine ⟨rfl, ?_⟩
  show vc _ _ _ _ ⟨[(0, .dat (iN a0))], []⟩ _
  unfold f110 at hF
  repeat' (first
    | ((with_reducible first | refine q0 _ _ ?_ | refine q1 _ _ _ _ ?_ | refine q2 _ _ _ ?_); clear Q q0 q1 q2)
    | ((with_reducible first | refine seq_op ?hx (fun Q q0 q1 q2 => ?_)); (case hx => exact rfl); conv => whnf)
    | ((with_reducible refine seq_nil ?_); (first | ((with_reducible refine hR _ ?_); clear R hR) | ((with_reducible refine hL _ ?_); clear L hL)))
    | ((with_reducible first | refine int_step ?_); conv => whnf)
    | (with_reducible first | refine vc_skip ?_ | refine vc_ret ?_ | refine vc_region (fun R hR => ?_) | refine k_seq_ret ?_)
    | ((with_reducible refine vc_seqN [] ?hx ?_); (case hx => exact rfl))
    | (revert hF; (with_reducible refine G96.lend ?hx ?_); (case hx => exact rfl); intro v hF; conv => whnf)
    | ((refine row_all ?hn ?_); (case hn => first | exact rfl | (simp; done) | (simp; omega)); conv => whnf)
    | ((with_reducible refine le_step ?hn ?_); (case hn => first | exact rfl | assumption | omega); conv => whnf)
    | ((refine ⟨?hx, ?_⟩); (case hx => exact ⟨rfl, Nat.le_of_ble_eq_true rfl, rfl⟩); conv => whnf)
    | ((with_reducible refine ex_step ?_); conv => whnf)
    | ((with_reducible have hG := chk_fact hF); clear hF; (refine ⟨?hx, ?_⟩); (case hx => (first | exact of_decide_eq_true hG.1 | exact hG.1)); have hF := hG.2; clear hG; conv => whnf)
    | ((with_reducible refine both_T ?hx ?_); (case hx => first | exact rfl | assumption | exact notT (by assumption)); conv => whnf)
    | ((with_reducible refine both_F ?hx ?_); (case hx => first | exact rfl | assumption | exact notF (by assumption)); conv => whnf)
    | (revert hF; (with_reducible refine ite_step ?_ ?_) <;> (intro hc hF; conv => whnf))
    | (show retD _ _ _ _ _ _; conv => whnf)
    | ((refine ⟨?hx, trivial⟩); (case hx => (cases hF; exact rfl)))
    | ((refine ⟨?hx, ?_⟩); (case hx => decide); conv => whnf)
    | with_reducible refine k_seq ?_
    | (have hF : (none : Option _) = some _ := hF; cases hF))
end
end Go.Vc
namespace Go.Vc
open Go.Proofs
set_option linter.unusedVariables false
set_option linter.unnecessarySimpa false
set_option linter.unusedSimpArgs false
section
variable {c : Ctx} {p nid : Nat} {a b : Code} {st : St} {K : Ex → St → Prop}
/- f100: slices.breakPatternsCmpFunc[tusche/serial.Spot] -/
def f100_c10 (s0 : Int) (s1 : Int) (x1 : Int) (v11 : Int) (b0 : List Spot) (b1202_0 : Int) (r5 : Int → (List Spot) → Int → Option ((List Spot))) (v12 : Int) : Option ((List Spot)) :=
 (ix b0 (W (s0 + v12))).bind fun x2 =>
 (ix b0 v11).bind fun x3 =>
 (ix b0 v11).bind fun x4 =>
 (setx b0 v11 x2).bind fun x5 =>
 (ix x5 (W (s0 + v12))).bind fun x6 =>
 (setx x5 (W (s0 + v12)) x3).bind fun x7 =>
 r5 (W (v11 + (1 : Int))) x7 (bitsI .xor .u64 (bitsI .xor .u64 (bitsI .xor .u64 b1202_0 (Wk .u64 (b1202_0 * 2 ^ (min (Int.toNat (13 : Int)) 64)))) (Int.fdiv (bitsI .xor .u64 b1202_0 (Wk .u64 (b1202_0 * 2 ^ (min (Int.toNat (13 : Int)) 64)))) (2 ^ (min (Int.toNat (7 : Int)) 64)))) (Wk .u64 ((bitsI .xor .u64 (bitsI .xor .u64 b1202_0 (Wk .u64 (b1202_0 * 2 ^ (min (Int.toNat (13 : Int)) 64)))) (Int.fdiv (bitsI .xor .u64 b1202_0 (Wk .u64 (b1202_0 * 2 ^ (min (Int.toNat (13 : Int)) 64)))) (2 ^ (min (Int.toNat (7 : Int)) 64)))) * 2 ^ (min (Int.toNat (17 : Int)) 64))))
def Lf100_c10 (s0 : Int) (s1 : Int) (x1 : Int) (v11 : Int) (b0 : List Spot) (b1202_0 : Int) (r5 : Int → (List Spot) → Int → Option ((List Spot))) : Lp (Int) (Nat) ((List Spot)) := ⟨⟨[0, 1, 8, 9, 10, 11, 12], [0, 1202], [], []⟩, fun v12 => [.rs 0 (List.length b0), .dat (iN s0), .dat (iN (W (s1 - s0))), .ptr 1202 0, .dat (u64N x1), .dat (iN v11), .dat (iN v12)], fun _ => [.row 73 3 (List.map Spot.d b0), .box [.dat (u64N (bitsI .xor .u64 (bitsI .xor .u64 (bitsI .xor .u64 b1202_0 (Wk .u64 (b1202_0 * 2 ^ (min (Int.toNat (13 : Int)) 64)))) (Int.fdiv (bitsI .xor .u64 b1202_0 (Wk .u64 (b1202_0 * 2 ^ (min (Int.toNat (13 : Int)) 64)))) (2 ^ (min (Int.toNat (7 : Int)) 64)))) (Wk .u64 ((bitsI .xor .u64 (bitsI .xor .u64 b1202_0 (Wk .u64 (b1202_0 * 2 ^ (min (Int.toNat (13 : Int)) 64)))) (Int.fdiv (bitsI .xor .u64 b1202_0 (Wk .u64 (b1202_0 * 2 ^ (min (Int.toNat (13 : Int)) 64)))) (2 ^ (min (Int.toNat (7 : Int)) 64)))) * 2 ^ (min (Int.toNat (17 : Int)) 64)))))]], fun v12 => f100_c10 s0 s1 x1 v11 b0 b1202_0 r5 v12, fun v12 m0 => [.rs 0 m0, .dat (iN s0), .dat (iN (W (s1 - s0))), .ptr 1202 0, .dat (u64N x1), .dat (iN v11), .dat (iN v12)], fun _ _ => [.row 73 3 (List.map Spot.d b0), .box [.dat (u64N (bitsI .xor .u64 (bitsI .xor .u64 (bitsI .xor .u64 b1202_0 (Wk .u64 (b1202_0 * 2 ^ (min (Int.toNat (13 : Int)) 64)))) (Int.fdiv (bitsI .xor .u64 b1202_0 (Wk .u64 (b1202_0 * 2 ^ (min (Int.toNat (13 : Int)) 64)))) (2 ^ (min (Int.toNat (7 : Int)) 64)))) (Wk .u64 ((bitsI .xor .u64 (bitsI .xor .u64 b1202_0 (Wk .u64 (b1202_0 * 2 ^ (min (Int.toNat (13 : Int)) 64)))) (Int.fdiv (bitsI .xor .u64 b1202_0 (Wk .u64 (b1202_0 * 2 ^ (min (Int.toNat (13 : Int)) 64)))) (2 ^ (min (Int.toNat (7 : Int)) 64)))) * 2 ^ (min (Int.toNat (17 : Int)) 64)))))]], fun _ => List.length b0, fun _ => rfl, fun _ => rfl⟩
theorem Ef100_c10 {s0 s1 x1 v11 b0 b1202_0 r5 v12} : (Lf100_c10 s0 s1 x1 v11 b0 b1202_0 r5).E v12 = f100_c10 s0 s1 x1 v11 b0 b1202_0 r5 v12 := rfl
def f100_5b (r5 : Int → (List Spot) → Int → Option ((List Spot))) (s0 : Int) (s1 : Int) (x1 : Int) (v11 : Int) (b0 : List Spot) (b1202_0 : Int) : Option ((List Spot)) :=
 bif decide (v11 ≤ (W ((W (s0 + (W ((W (Int.tdiv (W (s1 - s0)) (4 : Int))) * (2 : Int))))) + (1 : Int)))) then (joinK (f100_c10 s0 s1 x1 v11 b0 b1202_0 r5) fun k0 =>
 bif decide ((W (s1 - s0)) ≤ (W (bitsI .and .u64 (bitsI .xor .u64 (bitsI .xor .u64 (bitsI .xor .u64 b1202_0 (Wk .u64 (b1202_0 * 2 ^ (min (Int.toNat (13 : Int)) 64)))) (Int.fdiv (bitsI .xor .u64 b1202_0 (Wk .u64 (b1202_0 * 2 ^ (min (Int.toNat (13 : Int)) 64)))) (2 ^ (min (Int.toNat (7 : Int)) 64)))) (Wk .u64 ((bitsI .xor .u64 (bitsI .xor .u64 b1202_0 (Wk .u64 (b1202_0 * 2 ^ (min (Int.toNat (13 : Int)) 64)))) (Int.fdiv (bitsI .xor .u64 b1202_0 (Wk .u64 (b1202_0 * 2 ^ (min (Int.toNat (13 : Int)) 64)))) (2 ^ (min (Int.toNat (7 : Int)) 64)))) * 2 ^ (min (Int.toNat (17 : Int)) 64)))) (Wk .u64 (x1 - (1 : Int)))))) then (k0 (W ((W (bitsI .and .u64 (bitsI .xor .u64 (bitsI .xor .u64 (bitsI .xor .u64 b1202_0 (Wk .u64 (b1202_0 * 2 ^ (min (Int.toNat (13 : Int)) 64)))) (Int.fdiv (bitsI .xor .u64 b1202_0 (Wk .u64 (b1202_0 * 2 ^ (min (Int.toNat (13 : Int)) 64)))) (2 ^ (min (Int.toNat (7 : Int)) 64)))) (Wk .u64 ((bitsI .xor .u64 (bitsI .xor .u64 b1202_0 (Wk .u64 (b1202_0 * 2 ^ (min (Int.toNat (13 : Int)) 64)))) (Int.fdiv (bitsI .xor .u64 b1202_0 (Wk .u64 (b1202_0 * 2 ^ (min (Int.toNat (13 : Int)) 64)))) (2 ^ (min (Int.toNat (7 : Int)) 64)))) * 2 ^ (min (Int.toNat (17 : Int)) 64)))) (Wk .u64 (x1 - (1 : Int))))) - (W (s1 - s0)))))
 else (k0 (W (bitsI .and .u64 (bitsI .xor .u64 (bitsI .xor .u64 (bitsI .xor .u64 b1202_0 (Wk .u64 (b1202_0 * 2 ^ (min (Int.toNat (13 : Int)) 64)))) (Int.fdiv (bitsI .xor .u64 b1202_0 (Wk .u64 (b1202_0 * 2 ^ (min (Int.toNat (13 : Int)) 64)))) (2 ^ (min (Int.toNat (7 : Int)) 64)))) (Wk .u64 ((bitsI .xor .u64 (bitsI .xor .u64 b1202_0 (Wk .u64 (b1202_0 * 2 ^ (min (Int.toNat (13 : Int)) 64)))) (Int.fdiv (bitsI .xor .u64 b1202_0 (Wk .u64 (b1202_0 * 2 ^ (min (Int.toNat (13 : Int)) 64)))) (2 ^ (min (Int.toNat (7 : Int)) 64)))) * 2 ^ (min (Int.toNat (17 : Int)) 64)))) (Wk .u64 (x1 - (1 : Int)))))))
 else (some (b0))
def f100_5 (s0 : Int) (s1 : Int) (x1 : Int) : Nat → Int → (List Spot) → Int → Option ((List Spot))
  | 0, _, _, _ => none
  | n + 1, v11, b0, b1202_0 => f100_5b (f100_5 s0 s1 x1 n) s0 s1 x1 v11 b0 b1202_0
def Lf100_5 (s0 : Int) (s1 : Int) (x1 : Int) : Lp (Nat × Int × (List Spot) × Int) (Nat) ((List Spot)) := ⟨⟨[0, 1, 8, 9, 10, 11], [0, 1202], [], []⟩, fun (_, v11, b0, _) => [.rs 0 (List.length b0), .dat (iN s0), .dat (iN (W (s1 - s0))), .ptr 1202 0, .dat (u64N x1), .dat (iN v11)], fun (_, _, b0, b1202_0) => [.row 73 3 (List.map Spot.d b0), .box [.dat (u64N b1202_0)]], fun (n, v11, b0, b1202_0) => f100_5 s0 s1 x1 n v11 b0 b1202_0, fun (_, v11, _, _) m0 => [.rs 0 m0, .dat (iN s0), .dat (iN (W (s1 - s0))), .ptr 1202 0, .dat (u64N x1), .dat (iN v11)], fun (_, _, b0, b1202_0) _ => [.row 73 3 (List.map Spot.d b0), .box [.dat (u64N b1202_0)]], fun (_, _, b0, _) => List.length b0, fun _ => rfl, fun _ => rfl⟩
theorem Ef100_5 {s0 s1 x1 n v11 b0 b1202_0} : (Lf100_5 s0 s1 x1).E (n, v11, b0, b1202_0) = f100_5 s0 s1 x1 n v11 b0 b1202_0 := rfl
def f100b (self : Int → Int → (List Spot) → Option ((List Spot))) (N : Nat) (s0 : Int) (s1 : Int) (s2 : List Spot) : Option ((List Spot)) :=
 bif decide ((8 : Int) ≤ (W (s1 - s0))) then ((f110 N (W (s1 - s0))).bind fun x1 =>
 f100_5 s0 s1 x1 N (W ((W (s0 + (W ((W (Int.tdiv (W (s1 - s0)) (4 : Int))) * (2 : Int))))) - (1 : Int))) s2 (Wk .u64 (W (s1 - s0))))
 else (some (s2))
def f100 : Nat → Int → Int → (List Spot) → Option ((List Spot))
  | 0, _, _, _ => none
  | N + 1, s0, s1, s2 => f100b (f100 N) N s0 s1 s2
def Af100 (s0 : Int) (s1 : Int) (s2 : List Spot) : List SV := [.rs 0 (List.length s2), .dat (iN s0), .dat (iN s1), .dat (.v (.func (.func 91) #[] #[]))]
def Bf100 (s0 : Int) (s1 : Int) (s2 : List Spot) : List Blk := [.row 73 3 (List.map Spot.d s2)]
def Rf100 (y : (List Spot)) : List SV := []
def B1f100 (s0 : Int) (s1 : Int) (s2 : List Spot) (y : (List Spot)) : List Blk := [.row 73 3 (List.map Spot.d y)]
def BZf100 (y : (List Spot)) : Blk := .unborn
def Spf100 : Spec (Int × Int × (List Spot)) ((List Spot)) := ⟨1, fun x => Af100 x.1 x.2.1 x.2.2, fun x => Bf100 x.1 x.2.1 x.2.2, fun _ y => Rf100 y, fun x y => B1f100 x.1 x.2.1 x.2.2 y, fun _ y => BZf100 y⟩
def H100 (N : Nat) (x : Int × Int × (List Spot)) (y : (List Spot)) : Prop := f100 N x.1 x.2.1 x.2.2 = some y
def G100 (x : Int × Int × (List Spot)) (y : (List Spot)) : Prop := ∃ N, H100 N x y
theorem H100.step {N : Nat} {s0 : Int} {s1 : Int} {s2 : List Spot} {m0 : Nat} {ρ : Type} {A : (List Spot) → Option ρ} {q : ρ} {xs : List SV} {id : Nat} {m : Nat → Blk} {l : List Loc} {K : Dl → List Loc → Prop} {k0 : Nat} (ha : xs = [.rs k0 m0, .dat (iN s0), .dat (iN s1), .dat (.v (.func (.func 91) #[] #[]))]) (b0 : m k0 = .row 73 3 (List.map Spot.d s2)) (em0 : m0 = List.length s2) (hu : m id = .unborn) (hn : nodupB [k0] = true) (h : ∀ y, A y = some q → K ⟨.tup [], [(k0, .row 73 3 (List.map Spot.d y)), (id, .unborn)]⟩ l) (hF : (f100 N s0 s1 s2).bind A = some q) : effPg Spf100 (H100 N) xs id (fun _ => SV.no) m l K := by
  subst em0; obtain ⟨y, hy, hA⟩ := bind_some hF
  exact eff_step [k0] (s0, s1, s2) y _ hy rfl hn ha (by simp only [List.map_cons, List.map_nil, b0]; rfl) hu rfl rfl (h y hA)
theorem G100.step {N : Nat} {s0 : Int} {s1 : Int} {s2 : List Spot} {m0 : Nat} {ρ : Type} {A : (List Spot) → Option ρ} {q : ρ} {xs : List SV} {id : Nat} {m : Nat → Blk} {l : List Loc} {K : Dl → List Loc → Prop} {k0 : Nat} (ha : xs = [.rs k0 m0, .dat (iN s0), .dat (iN s1), .dat (.v (.func (.func 91) #[] #[]))]) (b0 : m k0 = .row 73 3 (List.map Spot.d s2)) (em0 : m0 = List.length s2) (hu : m id = .unborn) (hn : nodupB [k0] = true) (h : ∀ y, A y = some q → K ⟨.tup [], [(k0, .row 73 3 (List.map Spot.d y)), (id, .unborn)]⟩ l) (hF : (f100 N s0 s1 s2).bind A = some q) : effPg Spf100 (G100) xs id (fun _ => SV.no) m l K := by
  subst em0; obtain ⟨y, hy, hA⟩ := bind_some hF
  exact eff_step [k0] (s0, s1, s2) y _ ⟨N, hy⟩ rfl hn ha (by simp only [List.map_cons, List.map_nil, b0]; rfl) hu rfl rfl (h y hA)
def Srf100 : Ann := ⟨[], [0, 500], [], []⟩
set_option maxRecDepth 20000 in
set_option maxHeartbeats 4000000 in
theorem Q100 (N : Nat) : CallOK Try.prog 100 (effPg Spf100 (H100 N)) := by
  induction N with
  | zero => exact eff_none fun x y h => (by cases (show (none : Option ((List Spot))) = some y from h))
  | succ N ih =>
    refine eff_of_vc (c := mkCtx tyTree [(100, false, effPg Spf100 (H100 N)), (111, false, inlPg (mkCtx tyTree []) Try.f111), (110, true, lendPg [[0]] G110)]) rfl tyOK (ctx_eff (callable Try.func100 rfl rfl) ih (ctx_eff (callable Try.func111 rfl rfl) (CallOK.inl rfl tyOK (ctx_nil) Try.func111 (by kernel_rfl)) (ctx_lend (callable Try.func110 rfl rfl) P110 (ctx_nil)))) 1000 500 Srf100 Try.func100 rfl rfl (by kernel_rfl) rfl rfl rfl rfl rfl (fun _ => rfl) (fun _ => rfl) (fun _ _ => ⟨rfl, rfl⟩) ?_
    rintro ⟨s0, s1, s2⟩ y hF
    have hF : f100b (f100 N) N s0 s1 s2 = some y := hF
    show vc _ _ _ _ ⟨[(0, .rs 0 (List.length s2)), (1, .dat (iN s0)), (2, .dat (iN s1)), (3, .dat (.v (.func (.func 91) #[] #[])))], [(0, .row 73 3 (List.map Spot.d s2))]⟩ _
    unfold f100b at hF
    repeat' (first
      | ((with_reducible first | refine q0 _ _ ?_ | refine q1 _ _ _ _ ?_ | refine q2 _ _ _ ?_); clear Q q0 q1 q2)
      | ((with_reducible first | refine seq_op ?hx (fun Q q0 q1 q2 => ?_) | refine draw_op ?hx (fun Q q0 q1 q2 => ?_) | refine seq_op0 ?hx (fun Q q0 q1 q2 => ?_) | refine draw_op0 ?hx (fun Q q0 q1 q2 => ?_)); (case hx => exact rfl); conv => whnf)
      | ((with_reducible refine cond_id ?_); (first | ((refine condKT rfl ?hy ?_); (case hy => first | assumption | exact notT (by assumption) | exact rfl)) | ((refine condKF rfl ?hy ?_); (case hy => first | assumption | exact notF (by assumption) | exact rfl)) | (revert hF; (with_reducible refine condF ?hx ?_ ?_); (case hx => exact rfl); all_goals (intro hc hF))))
      | ((with_reducible refine seq_nil ?_); (first | ((with_reducible refine hR _ ?_); clear R hR) | ((with_reducible refine hL _ ?_); clear L hL)))
      | ((with_reducible refine draw_nil ?_); (with_reducible refine hR _ _ ?hx ?_); (case hx => kernel_rfl); (first | clear R hR | clear hR))
      | ((with_reducible first | refine int_step ?_ | refine len_step ?_ | refine idx2 (by assumption) ?_ | refine idx3 (by assumption) ?_); conv => whnf)
      | (with_reducible first | refine vc_block ?_ | refine vc_skip ?_ | refine vc_ret ?_ | refine vc_exit ?_ | refine vc_region (fun R hR => ?_) | refine k_seq_ret ?_ | refine k_seq_exit ?_ | refine k_blk ?_ | refine k_blk_ret ?_ | refine k_blk_here ?_ | refine k_loop_ret ?_ | refine k_loop_exit ?_)
      | ((with_reducible refine vc_seqN [1000010] ?hx ?_); (case hx => exact rfl))
      | ((with_reducible refine vc_draw ?hx (fun R hR => ?_)); (case hx => exact rfl))
      | (revert hF; (refine Lp.cut7 Lf100_c10 f100_c10 1000010 rfl rfl ?_ ?_); (intro hF); rotate_left; (rintro v12 hF; dsimp only [Lf100_c10] at hF; unfold f100_c10 at hF); rotate_right)
      | exact Lp.head Ef100_c10 hF _ ⟨_, rfl, rfl, rfl, rfl⟩ (by first | exact rfl | ((try dsimp only [Lf100_c10]); first | assumption | omega | (simp only [List.length_set]; done)))
      | (revert hF; (refine Lp.loop Ef100_5 _ rfl ⟨_, rfl, rfl, rfl, rfl⟩ (by first | exact rfl | ((try dsimp only [Lf100_5]); first | assumption | omega | (simp only [List.length_set]; done))) (fun _ => rfl) ?_); rintro n ⟨v11, b0, b1202_0⟩ hF; dsimp only [Lf100_5, f100_5] at hF; unfold f100_5b at hF)
      | exact Lp.back Ef100_5 hF _ ⟨_, rfl, rfl, rfl, rfl⟩ (by first | exact rfl | ((try dsimp only [Lf100_5]); first | assumption | omega | (simp only [List.length_set]; done)))
      | (revert hF; (with_reducible refine G110.lend ?hx ?_); (case hx => exact rfl); intro v hF; conv => whnf)
      | (revert hF; (refine H100.step rfl rfl (by first | exact rfl | assumption | omega | (simp only [List.length_set]; done)) rfl ?hn ?_); (case hn => exact rfl); intro v hF; conv => whnf)
      | (show retE _ _ _ _ _ _; conv => whnf)
      | (cases hF; exact ⟨rfl, rfl, rfl⟩)
      | ((with_reducible first | refine k_blk_out ?hx ?_ | refine vc_condT ?hx ?_); (case hx => exact rfl))
      | (revert hF; (with_reducible refine idx1 ?hn ?_); (case hn => first | exact rfl | exact (List.length_map _) | assumption | omega | simp); intro x hx hF; conv => whnf)
      | ((refine row_all ?hn ?_); (case hn => first | exact rfl | (simp; done) | (simp; omega)); conv => whnf)
      | ((with_reducible refine le_step ?hn ?_); (case hn => first | exact rfl | assumption | omega); conv => whnf)
      | ((with_reducible have hG := setx_fact hF); clear hF; (refine setx_step hG ?hs (fun q hl hF => ?_)); (case hs => exact rfl); clear hG; conv => whnf)
      | ((refine ⟨?hx, ?_⟩); (case hx => exact ⟨rfl, Nat.le_of_ble_eq_true rfl, rfl⟩); conv => whnf)
      | ((with_reducible refine ex_step ?_); conv => whnf)
      | ((with_reducible refine both_T ?hx ?_); (case hx => first | exact rfl | assumption | exact notT (by assumption)); conv => whnf)
      | ((with_reducible refine both_F ?hx ?_); (case hx => first | exact rfl | assumption | exact notF (by assumption)); conv => whnf)
      | (revert hF; (with_reducible refine ite_step ?_ ?_) <;> (intro hc hF; conv => whnf))
      | ((with_reducible refine vc_condF ?hx ?_); (case hx => exact rfl))
      | (show retD _ _ _ _ _ _; conv => whnf)
      | ((refine inl_step ?ha ?hb ?hc rfl ?_); (case ha => exact rfl); (case hb => omega); (case hc => exact Nat.le_of_ble_eq_true rfl))
      | (show Kinl _ _ _ _ _ _ _; conv => whnf)
      | ((with_reducible refine kinl_step ?ha ?hb ?_); (case ha => exact rfl); (case hb => exact rfl); conv => whnf)
      | ((refine ⟨?hx, trivial⟩); (case hx => (cases hF; exact rfl)))
      | ((refine ⟨?hx, ?_⟩); (case hx => decide); conv => whnf)
      | with_reducible refine k_seq ?_
      | (have hF : (none : Option _) = some _ := hF; cases hF))
theorem P100 : CallOK Try.prog 100 (effPg Spf100 G100) := eff_ex Q100
end
end Go.Vc
namespace Go.Vc
open Go.Proofs
set_option linter.unusedVariables false
set_option linter.unnecessarySimpa false
set_option linter.unusedSimpArgs false
section
variable {c : Ctx} {p nid : Nat} {a b : Code} {st : St} {K : Ex → St → Prop}
/- f114: slices.order2CmpFunc[tusche/serial.Spot] -/
def f114b (self : Int → Int → (List Spot) → Int → Option (Int × Int × Int)) (N : Nat) (s0 : Int) (s1 : Int) (s2 : List Spot) (s3 : Int) : Option (Int × Int × Int) :=
 (ix s2 s1).bind fun x1 =>
 (ix s2 s0).bind fun x2 =>
 (f91 N x1 x2).bind fun x3 =>
 bif decide (x3 < (0 : Int)) then (some (s1, s0, W (s3 + (1 : Int))))
 else (some (s0, s1, s3))
def f114 : Nat → Int → Int → (List Spot) → Int → Option (Int × Int × Int)
  | 0, _, _, _, _ => none
  | N + 1, s0, s1, s2, s3 => f114b (f114 N) N s0 s1 s2 s3
def Af114 (s0 : Int) (s1 : Int) (s2 : List Spot) (s3 : Int) : List SV := [.rs 0 (List.length s2), .dat (iN s0), .dat (iN s1), .ptr 1 0, .dat (.v (.func (.func 91) #[] #[]))]
def Bf114 (s0 : Int) (s1 : Int) (s2 : List Spot) (s3 : Int) : List Blk := [.row 73 3 (List.map Spot.d s2), .box [.dat (iN s3)]]
def Rf114 (y : Int × Int × Int) : List SV := [.dat (iN y.1), .dat (iN y.2.1)]
def B1f114 (s0 : Int) (s1 : Int) (s2 : List Spot) (s3 : Int) (y : Int × Int × Int) : List Blk := [.row 73 3 (List.map Spot.d s2), .box [.dat (iN y.2.2)]]
def BZf114 (y : Int × Int × Int) : Blk := .unborn
def Spf114 : Spec (Int × Int × (List Spot) × Int) (Int × Int × Int) := ⟨2, fun x => Af114 x.1 x.2.1 x.2.2.1 x.2.2.2, fun x => Bf114 x.1 x.2.1 x.2.2.1 x.2.2.2, fun _ y => Rf114 y, fun x y => B1f114 x.1 x.2.1 x.2.2.1 x.2.2.2 y, fun _ y => BZf114 y⟩
def H114 (N : Nat) (x : Int × Int × (List Spot) × Int) (y : Int × Int × Int) : Prop := f114 N x.1 x.2.1 x.2.2.1 x.2.2.2 = some y
def G114 (x : Int × Int × (List Spot) × Int) (y : Int × Int × Int) : Prop := ∃ N, H114 N x y
theorem H114.step {N : Nat} {s0 : Int} {s1 : Int} {s2 : List Spot} {s3 : Int} {m0 : Nat} {ρ : Type} {A : (Int × Int × Int) → Option ρ} {q : ρ} {xs : List SV} {id : Nat} {m : Nat → Blk} {l : List Loc} {K : Dl → List Loc → Prop} {k0 k1 : Nat} (ha : xs = [.rs k0 m0, .dat (iN s0), .dat (iN s1), .ptr k1 0, .dat (.v (.func (.func 91) #[] #[]))]) (b0 : m k0 = .row 73 3 (List.map Spot.d s2)) (b1 : m k1 = .box [.dat (iN s3)]) (em0 : m0 = List.length s2) (hu : m id = .unborn) (hn : nodupB [k0, k1] = true) (h : ∀ y, A y = some q → K ⟨.tup [.dat (iN y.1), .dat (iN y.2.1)], [(k0, .row 73 3 (List.map Spot.d s2)), (k1, .box [.dat (iN y.2.2)]), (id, .unborn)]⟩ l) (hF : (f114 N s0 s1 s2 s3).bind A = some q) : effPg Spf114 (H114 N) xs id (fun _ => SV.no) m l K := by
  subst em0; obtain ⟨y, hy, hA⟩ := bind_some hF
  exact eff_step [k0, k1] (s0, s1, s2, s3) y _ hy rfl hn ha (by simp only [List.map_cons, List.map_nil, b0, b1]; rfl) hu rfl rfl (h y hA)
theorem G114.step {N : Nat} {s0 : Int} {s1 : Int} {s2 : List Spot} {s3 : Int} {m0 : Nat} {ρ : Type} {A : (Int × Int × Int) → Option ρ} {q : ρ} {xs : List SV} {id : Nat} {m : Nat → Blk} {l : List Loc} {K : Dl → List Loc → Prop} {k0 k1 : Nat} (ha : xs = [.rs k0 m0, .dat (iN s0), .dat (iN s1), .ptr k1 0, .dat (.v (.func (.func 91) #[] #[]))]) (b0 : m k0 = .row 73 3 (List.map Spot.d s2)) (b1 : m k1 = .box [.dat (iN s3)]) (em0 : m0 = List.length s2) (hu : m id = .unborn) (hn : nodupB [k0, k1] = true) (h : ∀ y, A y = some q → K ⟨.tup [.dat (iN y.1), .dat (iN y.2.1)], [(k0, .row 73 3 (List.map Spot.d s2)), (k1, .box [.dat (iN y.2.2)]), (id, .unborn)]⟩ l) (hF : (f114 N s0 s1 s2 s3).bind A = some q) : effPg Spf114 (G114) xs id (fun _ => SV.no) m l K := by
  subst em0; obtain ⟨y, hy, hA⟩ := bind_some hF
  exact eff_step [k0, k1] (s0, s1, s2, s3) y _ ⟨N, hy⟩ rfl hn ha (by simp only [List.map_cons, List.map_nil, b0, b1]; rfl) hu rfl rfl (h y hA)
def Srf114 : Ann := ⟨[0, 1], [0, 1, 500], [], []⟩
set_option maxRecDepth 20000 in
set_option maxHeartbeats 4000000 in
theorem Q114 (N : Nat) : CallOK Try.prog 114 (effPg Spf114 (H114 N)) := by
  induction N with
  | zero => exact eff_none fun x y h => (by cases (show (none : Option (Int × Int × Int)) = some y from h))
  | succ N ih =>
    refine eff_of_vc (c := mkCtx tyTree [(114, false, effPg Spf114 (H114 N)), (91, true, lendPg [[0, 0, 0], [0, 0, 0]] G91)]) rfl tyOK (ctx_eff (callable Try.func114 rfl rfl) ih (ctx_lend (callable Try.func91 rfl rfl) P91 (ctx_nil))) 1000 500 Srf114 Try.func114 rfl rfl (by kernel_rfl) rfl rfl rfl rfl rfl (fun _ => rfl) (fun _ => rfl) (fun _ _ => ⟨rfl, rfl⟩) ?_
    rintro ⟨s0, s1, s2, s3⟩ y hF
    have hF : f114b (f114 N) N s0 s1 s2 s3 = some y := hF
    show vc _ _ _ _ ⟨[(0, .rs 0 (List.length s2)), (1, .dat (iN s0)), (2, .dat (iN s1)), (3, .ptr 1 0), (4, .dat (.v (.func (.func 91) #[] #[])))], [(0, .row 73 3 (List.map Spot.d s2)), (1, .box [.dat (iN s3)])]⟩ _
    unfold f114b at hF
    repeat' (first
      | ((with_reducible first | refine q0 _ _ ?_ | refine q1 _ _ _ _ ?_ | refine q2 _ _ _ ?_); clear Q q0 q1 q2)
      | ((with_reducible first | refine seq_op ?hx (fun Q q0 q1 q2 => ?_) | refine draw_op ?hx (fun Q q0 q1 q2 => ?_) | refine seq_op0 ?hx (fun Q q0 q1 q2 => ?_) | refine draw_op0 ?hx (fun Q q0 q1 q2 => ?_)); (case hx => exact rfl); conv => whnf)
      | ((with_reducible refine cond_id ?_); (first | ((refine condKT rfl ?hy ?_); (case hy => first | assumption | exact notT (by assumption) | exact rfl)) | ((refine condKF rfl ?hy ?_); (case hy => first | assumption | exact notF (by assumption) | exact rfl)) | (revert hF; (with_reducible refine condF ?hx ?_ ?_); (case hx => exact rfl); all_goals (intro hc hF))))
      | ((with_reducible refine seq_nil ?_); (first | ((with_reducible refine hR _ ?_); clear R hR) | ((with_reducible refine hL _ ?_); clear L hL)))
      | ((with_reducible refine draw_nil ?_); (with_reducible refine hR _ _ ?hx ?_); (case hx => kernel_rfl); (first | clear R hR | clear hR))
      | ((with_reducible first | refine int_step ?_ | refine len_step ?_ | refine idx2 (by assumption) ?_ | refine idx3 (by assumption) ?_); conv => whnf)
      | (with_reducible first | refine vc_block ?_ | refine vc_skip ?_ | refine vc_ret ?_ | refine vc_exit ?_ | refine vc_region (fun R hR => ?_) | refine k_seq_ret ?_ | refine k_seq_exit ?_ | refine k_blk ?_ | refine k_blk_ret ?_ | refine k_blk_here ?_)
      | ((with_reducible refine vc_seqN [] ?hx ?_); (case hx => exact rfl))
      | ((with_reducible refine vc_draw ?hx (fun R hR => ?_)); (case hx => exact rfl))
      | (revert hF; (with_reducible refine G91.lend ?hx ?_); (case hx => exact rfl); intro v hF; conv => whnf)
      | (revert hF; (refine H114.step rfl rfl rfl (by first | exact rfl | assumption | omega | (simp only [List.length_set]; done)) rfl ?hn ?_); (case hn => exact rfl); intro v hF; conv => whnf)
      | (show retE _ _ _ _ _ _; conv => whnf)
      | (cases hF; exact ⟨rfl, rfl, rfl⟩)
      | ((with_reducible first | refine k_blk_out ?hx ?_ | refine vc_condT ?hx ?_); (case hx => exact rfl))
      | (revert hF; (with_reducible refine idx1 ?hn ?_); (case hn => first | exact rfl | exact (List.length_map _) | assumption | omega | simp); intro x hx hF; conv => whnf)
      | ((refine row_all ?hn ?_); (case hn => first | exact rfl | (simp; done) | (simp; omega)); conv => whnf)
      | ((with_reducible refine le_step ?hn ?_); (case hn => first | exact rfl | assumption | omega); conv => whnf)
      | ((refine ⟨?hx, ?_⟩); (case hx => exact ⟨rfl, Nat.le_of_ble_eq_true rfl, rfl⟩); conv => whnf)
      | ((with_reducible refine ex_step ?_); conv => whnf)
      | ((with_reducible refine both_T ?hx ?_); (case hx => first | exact rfl | assumption | exact notT (by assumption)); conv => whnf)
      | ((with_reducible refine both_F ?hx ?_); (case hx => first | exact rfl | assumption | exact notF (by assumption)); conv => whnf)
      | (revert hF; (with_reducible refine ite_step ?_ ?_) <;> (intro hc hF; conv => whnf))
      | ((with_reducible refine vc_condF ?hx ?_); (case hx => exact rfl))
      | (show retD _ _ _ _ _ _; conv => whnf)
      | ((refine ⟨?hx, trivial⟩); (case hx => (cases hF; exact rfl)))
      | ((refine ⟨?hx, ?_⟩); (case hx => decide); conv => whnf)
      | with_reducible refine k_seq ?_
      | (have hF : (none : Option _) = some _ := hF; cases hF))
theorem P114 : CallOK Try.prog 114 (effPg Spf114 G114) := eff_ex Q114
end
end Go.Vc
namespace Go.Vc
open Go.Proofs
set_option linter.unusedVariables false
set_option linter.unnecessarySimpa false
set_option linter.unusedSimpArgs false
section
variable {c : Ctx} {p nid : Nat} {a b : Code} {st : St} {K : Ex → St → Prop}
/- f113: slices.medianCmpFunc[tusche/serial.Spot] -/
def f113b (self : Int → Int → Int → (List Spot) → Int → Option (Int × Int)) (N : Nat) (s0 : Int) (s1 : Int) (s2 : Int) (s3 : List Spot) (s4 : Int) : Option (Int × Int) :=
 (f114 N s0 s1 s3 s4).bind fun x1 =>
 (f114 N x1.2.1 s2 s3 x1.2.2).bind fun x2 =>
 (f114 N x1.1 x2.1 s3 x2.2.2).bind fun x3 =>
 some (x3.2.1, x3.2.2)
def f113 : Nat → Int → Int → Int → (List Spot) → Int → Option (Int × Int)
  | 0, _, _, _, _, _ => none
  | N + 1, s0, s1, s2, s3, s4 => f113b (f113 N) N s0 s1 s2 s3 s4
def Af113 (s0 : Int) (s1 : Int) (s2 : Int) (s3 : List Spot) (s4 : Int) : List SV := [.rs 0 (List.length s3), .dat (iN s0), .dat (iN s1), .dat (iN s2), .ptr 1 0, .dat (.v (.func (.func 91) #[] #[]))]
def Bf113 (s0 : Int) (s1 : Int) (s2 : Int) (s3 : List Spot) (s4 : Int) : List Blk := [.row 73 3 (List.map Spot.d s3), .box [.dat (iN s4)]]
def Rf113 (y : Int × Int) : List SV := [.dat (iN y.1)]
def B1f113 (s0 : Int) (s1 : Int) (s2 : Int) (s3 : List Spot) (s4 : Int) (y : Int × Int) : List Blk := [.row 73 3 (List.map Spot.d s3), .box [.dat (iN y.2)]]
def BZf113 (y : Int × Int) : Blk := .unborn
def Spf113 : Spec (Int × Int × Int × (List Spot) × Int) (Int × Int) := ⟨2, fun x => Af113 x.1 x.2.1 x.2.2.1 x.2.2.2.1 x.2.2.2.2, fun x => Bf113 x.1 x.2.1 x.2.2.1 x.2.2.2.1 x.2.2.2.2, fun _ y => Rf113 y, fun x y => B1f113 x.1 x.2.1 x.2.2.1 x.2.2.2.1 x.2.2.2.2 y, fun _ y => BZf113 y⟩
def H113 (N : Nat) (x : Int × Int × Int × (List Spot) × Int) (y : Int × Int) : Prop := f113 N x.1 x.2.1 x.2.2.1 x.2.2.2.1 x.2.2.2.2 = some y
def G113 (x : Int × Int × Int × (List Spot) × Int) (y : Int × Int) : Prop := ∃ N, H113 N x y
theorem H113.step {N : Nat} {s0 : Int} {s1 : Int} {s2 : Int} {s3 : List Spot} {s4 : Int} {m0 : Nat} {ρ : Type} {A : (Int × Int) → Option ρ} {q : ρ} {xs : List SV} {id : Nat} {m : Nat → Blk} {l : List Loc} {K : Dl → List Loc → Prop} {k0 k1 : Nat} (ha : xs = [.rs k0 m0, .dat (iN s0), .dat (iN s1), .dat (iN s2), .ptr k1 0, .dat (.v (.func (.func 91) #[] #[]))]) (b0 : m k0 = .row 73 3 (List.map Spot.d s3)) (b1 : m k1 = .box [.dat (iN s4)]) (em0 : m0 = List.length s3) (hu : m id = .unborn) (hn : nodupB [k0, k1] = true) (h : ∀ y, A y = some q → K ⟨.dat (iN y.1), [(k0, .row 73 3 (List.map Spot.d s3)), (k1, .box [.dat (iN y.2)]), (id, .unborn)]⟩ l) (hF : (f113 N s0 s1 s2 s3 s4).bind A = some q) : effPg Spf113 (H113 N) xs id (fun _ => SV.no) m l K := by
  subst em0; obtain ⟨y, hy, hA⟩ := bind_some hF
  exact eff_step [k0, k1] (s0, s1, s2, s3, s4) y _ hy rfl hn ha (by simp only [List.map_cons, List.map_nil, b0, b1]; rfl) hu rfl rfl (h y hA)
theorem G113.step {N : Nat} {s0 : Int} {s1 : Int} {s2 : Int} {s3 : List Spot} {s4 : Int} {m0 : Nat} {ρ : Type} {A : (Int × Int) → Option ρ} {q : ρ} {xs : List SV} {id : Nat} {m : Nat → Blk} {l : List Loc} {K : Dl → List Loc → Prop} {k0 k1 : Nat} (ha : xs = [.rs k0 m0, .dat (iN s0), .dat (iN s1), .dat (iN s2), .ptr k1 0, .dat (.v (.func (.func 91) #[] #[]))]) (b0 : m k0 = .row 73 3 (List.map Spot.d s3)) (b1 : m k1 = .box [.dat (iN s4)]) (em0 : m0 = List.length s3) (hu : m id = .unborn) (hn : nodupB [k0, k1] = true) (h : ∀ y, A y = some q → K ⟨.dat (iN y.1), [(k0, .row 73 3 (List.map Spot.d s3)), (k1, .box [.dat (iN y.2)]), (id, .unborn)]⟩ l) (hF : (f113 N s0 s1 s2 s3 s4).bind A = some q) : effPg Spf113 (G113) xs id (fun _ => SV.no) m l K := by
  subst em0; obtain ⟨y, hy, hA⟩ := bind_some hF
  exact eff_step [k0, k1] (s0, s1, s2, s3, s4) y _ ⟨N, hy⟩ rfl hn ha (by simp only [List.map_cons, List.map_nil, b0, b1]; rfl) hu rfl rfl (h y hA)
def Srf113 : Ann := ⟨[0], [0, 1, 500], [], []⟩
set_option maxRecDepth 20000 in
set_option maxHeartbeats 4000000 in
theorem Q113 (N : Nat) : CallOK Try.prog 113 (effPg Spf113 (H113 N)) := by
  induction N with
  | zero => exact eff_none fun x y h => (by cases (show (none : Option (Int × Int)) = some y from h))
  | succ N ih =>
    refine eff_of_vc (c := mkCtx tyTree [(113, false, effPg Spf113 (H113 N)), (114, false, effPg Spf114 G114)]) rfl tyOK (ctx_eff (callable Try.func113 rfl rfl) ih (ctx_eff (callable Try.func114 rfl rfl) P114 (ctx_nil))) 1000 500 Srf113 Try.func113 rfl rfl (by kernel_rfl) rfl rfl rfl rfl rfl (fun _ => rfl) (fun _ => rfl) (fun _ _ => ⟨rfl, rfl⟩) ?_
    rintro ⟨s0, s1, s2, s3, s4⟩ y hF
    have hF : f113b (f113 N) N s0 s1 s2 s3 s4 = some y := hF
    show vc _ _ _ _ ⟨[(0, .rs 0 (List.length s3)), (1, .dat (iN s0)), (2, .dat (iN s1)), (3, .dat (iN s2)), (4, .ptr 1 0), (5, .dat (.v (.func (.func 91) #[] #[])))], [(0, .row 73 3 (List.map Spot.d s3)), (1, .box [.dat (iN s4)])]⟩ _
    unfold f113b at hF
    repeat' (first
      | ((with_reducible first | refine q0 _ _ ?_ | refine q1 _ _ _ _ ?_ | refine q2 _ _ _ ?_); clear Q q0 q1 q2)
      | ((with_reducible first | refine seq_op ?hx (fun Q q0 q1 q2 => ?_)); (case hx => exact rfl); conv => whnf)
      | ((with_reducible refine seq_nil ?_); (first | ((with_reducible refine hR _ ?_); clear R hR) | ((with_reducible refine hL _ ?_); clear L hL)))
      | ((with_reducible first | refine int_step ?_ | refine len_step ?_); conv => whnf)
      | (with_reducible first | refine vc_skip ?_ | refine vc_ret ?_ | refine vc_region (fun R hR => ?_) | refine k_seq_ret ?_)
      | ((with_reducible refine vc_seqN [] ?hx ?_); (case hx => exact rfl))
      | (revert hF; (refine G114.step rfl rfl rfl (by first | exact rfl | assumption | omega | (simp only [List.length_set]; done)) rfl ?hn ?_); (case hn => exact rfl); intro v hF; conv => whnf)
      | (revert hF; (refine H113.step rfl rfl rfl (by first | exact rfl | assumption | omega | (simp only [List.length_set]; done)) rfl ?hn ?_); (case hn => exact rfl); intro v hF; conv => whnf)
      | (show retE _ _ _ _ _ _; conv => whnf)
      | (cases hF; exact ⟨rfl, rfl, rfl⟩)
      | ((refine row_all ?hn ?_); (case hn => first | exact rfl | (simp; done) | (simp; omega)); conv => whnf)
      | ((with_reducible refine le_step ?hn ?_); (case hn => first | exact rfl | assumption | omega); conv => whnf)
      | ((refine ⟨?hx, ?_⟩); (case hx => exact ⟨rfl, Nat.le_of_ble_eq_true rfl, rfl⟩); conv => whnf)
      | ((with_reducible refine ex_step ?_); conv => whnf)
      | ((with_reducible refine both_T ?hx ?_); (case hx => first | exact rfl | assumption | exact notT (by assumption)); conv => whnf)
      | ((with_reducible refine both_F ?hx ?_); (case hx => first | exact rfl | assumption | exact notF (by assumption)); conv => whnf)
      | (revert hF; (with_reducible refine ite_step ?_ ?_) <;> (intro hc hF; conv => whnf))
      | (show retD _ _ _ _ _ _; conv => whnf)
      | ((refine ⟨?hx, trivial⟩); (case hx => (cases hF; exact rfl)))
      | ((refine ⟨?hx, ?_⟩); (case hx => decide); conv => whnf)
      | with_reducible refine k_seq ?_
      | (have hF : (none : Option _) = some _ := hF; cases hF))
theorem P113 : CallOK Try.prog 113 (effPg Spf113 G113) := eff_ex Q113
end
end Go.Vc
namespace Go.Vc
open Go.Proofs
set_option linter.unusedVariables false
set_option linter.unnecessarySimpa false
set_option linter.unusedSimpArgs false
section
variable {c : Ctx} {p nid : Nat} {a b : Code} {st : St} {K : Ex → St → Prop}
/- f112: slices.medianAdjacentCmpFunc[tusche/serial.Spot] -/
def f112b (self : Int → (List Spot) → Int → Option (Int × Int)) (N : Nat) (s0 : Int) (s1 : List Spot) (s2 : Int) : Option (Int × Int) :=
 (f113 N (W (s0 - (1 : Int))) s0 (W (s0 + (1 : Int))) s1 s2).bind fun x1 =>
 some (x1.1, x1.2)
def f112 : Nat → Int → (List Spot) → Int → Option (Int × Int)
  | 0, _, _, _ => none
  | N + 1, s0, s1, s2 => f112b (f112 N) N s0 s1 s2
def Af112 (s0 : Int) (s1 : List Spot) (s2 : Int) : List SV := [.rs 0 (List.length s1), .dat (iN s0), .ptr 1 0, .dat (.v (.func (.func 91) #[] #[]))]
def Bf112 (s0 : Int) (s1 : List Spot) (s2 : Int) : List Blk := [.row 73 3 (List.map Spot.d s1), .box [.dat (iN s2)]]
def Rf112 (y : Int × Int) : List SV := [.dat (iN y.1)]
def B1f112 (s0 : Int) (s1 : List Spot) (s2 : Int) (y : Int × Int) : List Blk := [.row 73 3 (List.map Spot.d s1), .box [.dat (iN y.2)]]
def BZf112 (y : Int × Int) : Blk := .unborn
def Spf112 : Spec (Int × (List Spot) × Int) (Int × Int) := ⟨2, fun x => Af112 x.1 x.2.1 x.2.2, fun x => Bf112 x.1 x.2.1 x.2.2, fun _ y => Rf112 y, fun x y => B1f112 x.1 x.2.1 x.2.2 y, fun _ y => BZf112 y⟩
def H112 (N : Nat) (x : Int × (List Spot) × Int) (y : Int × Int) : Prop := f112 N x.1 x.2.1 x.2.2 = some y
def G112 (x : Int × (List Spot) × Int) (y : Int × Int) : Prop := ∃ N, H112 N x y
theorem H112.step {N : Nat} {s0 : Int} {s1 : List Spot} {s2 : Int} {m0 : Nat} {ρ : Type} {A : (Int × Int) → Option ρ} {q : ρ} {xs : List SV} {id : Nat} {m : Nat → Blk} {l : List Loc} {K : Dl → List Loc → Prop} {k0 k1 : Nat} (ha : xs = [.rs k0 m0, .dat (iN s0), .ptr k1 0, .dat (.v (.func (.func 91) #[] #[]))]) (b0 : m k0 = .row 73 3 (List.map Spot.d s1)) (b1 : m k1 = .box [.dat (iN s2)]) (em0 : m0 = List.length s1) (hu : m id = .unborn) (hn : nodupB [k0, k1] = true) (h : ∀ y, A y = some q → K ⟨.dat (iN y.1), [(k0, .row 73 3 (List.map Spot.d s1)), (k1, .box [.dat (iN y.2)]), (id, .unborn)]⟩ l) (hF : (f112 N s0 s1 s2).bind A = some q) : effPg Spf112 (H112 N) xs id (fun _ => SV.no) m l K := by
  subst em0; obtain ⟨y, hy, hA⟩ := bind_some hF
  exact eff_step [k0, k1] (s0, s1, s2) y _ hy rfl hn ha (by simp only [List.map_cons, List.map_nil, b0, b1]; rfl) hu rfl rfl (h y hA)
theorem G112.step {N : Nat} {s0 : Int} {s1 : List Spot} {s2 : Int} {m0 : Nat} {ρ : Type} {A : (Int × Int) → Option ρ} {q : ρ} {xs : List SV} {id : Nat} {m : Nat → Blk} {l : List Loc} {K : Dl → List Loc → Prop} {k0 k1 : Nat} (ha : xs = [.rs k0 m0, .dat (iN s0), .ptr k1 0, .dat (.v (.func (.func 91) #[] #[]))]) (b0 : m k0 = .row 73 3 (List.map Spot.d s1)) (b1 : m k1 = .box [.dat (iN s2)]) (em0 : m0 = List.length s1) (hu : m id = .unborn) (hn : nodupB [k0, k1] = true) (h : ∀ y, A y = some q → K ⟨.dat (iN y.1), [(k0, .row 73 3 (List.map Spot.d s1)), (k1, .box [.dat (iN y.2)]), (id, .unborn)]⟩ l) (hF : (f112 N s0 s1 s2).bind A = some q) : effPg Spf112 (G112) xs id (fun _ => SV.no) m l K := by
  subst em0; obtain ⟨y, hy, hA⟩ := bind_some hF
  exact eff_step [k0, k1] (s0, s1, s2) y _ ⟨N, hy⟩ rfl hn ha (by simp only [List.map_cons, List.map_nil, b0, b1]; rfl) hu rfl rfl (h y hA)
def Srf112 : Ann := ⟨[0], [0, 1, 500], [], []⟩
set_option maxRecDepth 20000 in
set_option maxHeartbeats 4000000 in
theorem Q112 (N : Nat) : CallOK Try.prog 112 (effPg Spf112 (H112 N)) := by
  induction N with
  | zero => exact eff_none fun x y h => (by cases (show (none : Option (Int × Int)) = some y from h))
  | succ N ih =>
    refine eff_of_vc (c := mkCtx tyTree [(112, false, effPg Spf112 (H112 N)), (113, false, effPg Spf113 G113)]) rfl tyOK (ctx_eff (callable Try.func112 rfl rfl) ih (ctx_eff (callable Try.func113 rfl rfl) P113 (ctx_nil))) 1000 500 Srf112 Try.func112 rfl rfl (by kernel_rfl) rfl rfl rfl rfl rfl (fun _ => rfl) (fun _ => rfl) (fun _ _ => ⟨rfl, rfl⟩) ?_
    rintro ⟨s0, s1, s2⟩ y hF
    have hF : f112b (f112 N) N s0 s1 s2 = some y := hF
    show vc _ _ _ _ ⟨[(0, .rs 0 (List.length s1)), (1, .dat (iN s0)), (2, .ptr 1 0), (3, .dat (.v (.func (.func 91) #[] #[])))], [(0, .row 73 3 (List.map Spot.d s1)), (1, .box [.dat (iN s2)])]⟩ _
    unfold f112b at hF
    repeat' (first
      | ((with_reducible first | refine q0 _ _ ?_ | refine q1 _ _ _ _ ?_ | refine q2 _ _ _ ?_); clear Q q0 q1 q2)
      | ((with_reducible first | refine seq_op ?hx (fun Q q0 q1 q2 => ?_)); (case hx => exact rfl); conv => whnf)
      | ((with_reducible refine seq_nil ?_); (first | ((with_reducible refine hR _ ?_); clear R hR) | ((with_reducible refine hL _ ?_); clear L hL)))
      | ((with_reducible first | refine int_step ?_ | refine len_step ?_); conv => whnf)
      | (with_reducible first | refine vc_skip ?_ | refine vc_ret ?_ | refine vc_region (fun R hR => ?_) | refine k_seq_ret ?_)
      | ((with_reducible refine vc_seqN [] ?hx ?_); (case hx => exact rfl))
      | (revert hF; (refine G113.step rfl rfl rfl (by first | exact rfl | assumption | omega | (simp only [List.length_set]; done)) rfl ?hn ?_); (case hn => exact rfl); intro v hF; conv => whnf)
      | (revert hF; (refine H112.step rfl rfl rfl (by first | exact rfl | assumption | omega | (simp only [List.length_set]; done)) rfl ?hn ?_); (case hn => exact rfl); intro v hF; conv => whnf)
      | (show retE _ _ _ _ _ _; conv => whnf)
      | (cases hF; exact ⟨rfl, rfl, rfl⟩)
      | ((refine row_all ?hn ?_); (case hn => first | exact rfl | (simp; done) | (simp; omega)); conv => whnf)
      | ((with_reducible refine le_step ?hn ?_); (case hn => first | exact rfl | assumption | omega); conv => whnf)
      | ((refine ⟨?hx, ?_⟩); (case hx => exact ⟨rfl, Nat.le_of_ble_eq_true rfl, rfl⟩); conv => whnf)
      | ((with_reducible refine ex_step ?_); conv => whnf)
      | ((with_reducible refine both_T ?hx ?_); (case hx => first | exact rfl | assumption | exact notT (by assumption)); conv => whnf)
      | ((with_reducible refine both_F ?hx ?_); (case hx => first | exact rfl | assumption | exact notF (by assumption)); conv => whnf)
      | (revert hF; (with_reducible refine ite_step ?_ ?_) <;> (intro hc hF; conv => whnf))
      | (show retD _ _ _ _ _ _; conv => whnf)
      | ((refine ⟨?hx, trivial⟩); (case hx => (cases hF; exact rfl)))
      | ((refine ⟨?hx, ?_⟩); (case hx => decide); conv => whnf)
      | with_reducible refine k_seq ?_
      | (have hF : (none : Option _) = some _ := hF; cases hF))
theorem P112 : CallOK Try.prog 112 (effPg Spf112 G112) := eff_ex Q112
end
end Go.Vc
namespace Go.Vc
open Go.Proofs
set_option linter.unusedVariables false
set_option linter.unnecessarySimpa false
set_option linter.unusedSimpArgs false
section
variable {c : Ctx} {p nid : Nat} {a b : Code} {st : St} {K : Ex → St → Prop}
/- f101: slices.choosePivotCmpFunc[tusche/serial.Spot] -/
def f101_c12 (s2 : List Spot) (j13 : Int) (b1200_0 : Int) : Option (Int × Int) :=
 bif decide (b1200_0 = (0 : Int)) then (some (j13, (1 : Int)))
 else (bif decide (b1200_0 = (12 : Int)) then (some (j13, (2 : Int)))
 else (some (j13, (0 : Int))))
def Lf101_c12 (s2 : List Spot) : Lp (Int × Int) Unit (Int × Int) := lp0 ⟨[11, 13], [0, 1200], [], []⟩ (fun (j13, _) => [.ptr 1200 0, .dat (iN j13)]) (fun (_, b1200_0) => [.row 73 3 (List.map Spot.d s2), .box [.dat (iN b1200_0)]]) (fun (j13, b1200_0) => f101_c12 s2 j13 b1200_0)
theorem Ef101_c12 {s2 j13 b1200_0} : (Lf101_c12 s2).E (j13, b1200_0) = f101_c12 s2 j13 b1200_0 := rfl
def f101b (self : Int → Int → (List Spot) → Option (Int × Int)) (N : Nat) (s0 : Int) (s1 : Int) (s2 : List Spot) : Option (Int × Int) :=
 joinK (f101_c12 s2) fun k0 =>
 bif decide ((8 : Int) ≤ (W (s1 - s0))) then (bif decide ((50 : Int) ≤ (W (s1 - s0))) then ((f112 N (W (s0 + (W ((W (Int.tdiv (W (s1 - s0)) (4 : Int))) * (1 : Int))))) s2 (0 : Int)).bind fun x1 =>
 (f112 N (W (s0 + (W ((W (Int.tdiv (W (s1 - s0)) (4 : Int))) * (2 : Int))))) s2 x1.2).bind fun x2 =>
 (f112 N (W (s0 + (W ((W (Int.tdiv (W (s1 - s0)) (4 : Int))) * (3 : Int))))) s2 x2.2).bind fun x3 =>
 (f113 N x1.1 x2.1 x3.1 s2 x3.2).bind fun x4 =>
 k0 x4.1 x4.2)
 else ((f113 N (W (s0 + (W ((W (Int.tdiv (W (s1 - s0)) (4 : Int))) * (1 : Int))))) (W (s0 + (W ((W (Int.tdiv (W (s1 - s0)) (4 : Int))) * (2 : Int))))) (W (s0 + (W ((W (Int.tdiv (W (s1 - s0)) (4 : Int))) * (3 : Int))))) s2 (0 : Int)).bind fun x5 =>
 k0 x5.1 x5.2))
 else (k0 (W (s0 + (W ((W (Int.tdiv (W (s1 - s0)) (4 : Int))) * (2 : Int))))) (0 : Int))
def f101 : Nat → Int → Int → (List Spot) → Option (Int × Int)
  | 0, _, _, _ => none
  | N + 1, s0, s1, s2 => f101b (f101 N) N s0 s1 s2
def Af101 (s0 : Int) (s1 : Int) (s2 : List Spot) : List SV := [.rs 0 (List.length s2), .dat (iN s0), .dat (iN s1), .dat (.v (.func (.func 91) #[] #[]))]
def Bf101 (s0 : Int) (s1 : Int) (s2 : List Spot) : List Blk := [.row 73 3 (List.map Spot.d s2)]
def Rf101 (y : Int × Int) : List SV := [.dat (iN y.1), .dat (iN y.2)]
def B1f101 (s0 : Int) (s1 : Int) (s2 : List Spot) (y : Int × Int) : List Blk := [.row 73 3 (List.map Spot.d s2)]
def BZf101 (y : Int × Int) : Blk := .unborn
def Spf101 : Spec (Int × Int × (List Spot)) (Int × Int) := ⟨1, fun x => Af101 x.1 x.2.1 x.2.2, fun x => Bf101 x.1 x.2.1 x.2.2, fun _ y => Rf101 y, fun x y => B1f101 x.1 x.2.1 x.2.2 y, fun _ y => BZf101 y⟩
def H101 (N : Nat) (x : Int × Int × (List Spot)) (y : Int × Int) : Prop := f101 N x.1 x.2.1 x.2.2 = some y
def G101 (x : Int × Int × (List Spot)) (y : Int × Int) : Prop := ∃ N, H101 N x y
theorem H101.step {N : Nat} {s0 : Int} {s1 : Int} {s2 : List Spot} {m0 : Nat} {ρ : Type} {A : (Int × Int) → Option ρ} {q : ρ} {xs : List SV} {id : Nat} {m : Nat → Blk} {l : List Loc} {K : Dl → List Loc → Prop} {k0 : Nat} (ha : xs = [.rs k0 m0, .dat (iN s0), .dat (iN s1), .dat (.v (.func (.func 91) #[] #[]))]) (b0 : m k0 = .row 73 3 (List.map Spot.d s2)) (em0 : m0 = List.length s2) (hu : m id = .unborn) (hn : nodupB [k0] = true) (h : ∀ y, A y = some q → K ⟨.tup [.dat (iN y.1), .dat (iN y.2)], [(k0, .row 73 3 (List.map Spot.d s2)), (id, .unborn)]⟩ l) (hF : (f101 N s0 s1 s2).bind A = some q) : effPg Spf101 (H101 N) xs id (fun _ => SV.no) m l K := by
  subst em0; obtain ⟨y, hy, hA⟩ := bind_some hF
  exact eff_step [k0] (s0, s1, s2) y _ hy rfl hn ha (by simp only [List.map_cons, List.map_nil, b0]; rfl) hu rfl rfl (h y hA)
theorem G101.step {N : Nat} {s0 : Int} {s1 : Int} {s2 : List Spot} {m0 : Nat} {ρ : Type} {A : (Int × Int) → Option ρ} {q : ρ} {xs : List SV} {id : Nat} {m : Nat → Blk} {l : List Loc} {K : Dl → List Loc → Prop} {k0 : Nat} (ha : xs = [.rs k0 m0, .dat (iN s0), .dat (iN s1), .dat (.v (.func (.func 91) #[] #[]))]) (b0 : m k0 = .row 73 3 (List.map Spot.d s2)) (em0 : m0 = List.length s2) (hu : m id = .unborn) (hn : nodupB [k0] = true) (h : ∀ y, A y = some q → K ⟨.tup [.dat (iN y.1), .dat (iN y.2)], [(k0, .row 73 3 (List.map Spot.d s2)), (id, .unborn)]⟩ l) (hF : (f101 N s0 s1 s2).bind A = some q) : effPg Spf101 (G101) xs id (fun _ => SV.no) m l K := by
  subst em0; obtain ⟨y, hy, hA⟩ := bind_some hF
  exact eff_step [k0] (s0, s1, s2) y _ ⟨N, hy⟩ rfl hn ha (by simp only [List.map_cons, List.map_nil, b0]; rfl) hu rfl rfl (h y hA)
def Srf101 : Ann := ⟨[0, 1], [0, 500], [], []⟩
set_option maxRecDepth 20000 in
set_option maxHeartbeats 4000000 in
theorem Q101 (N : Nat) : CallOK Try.prog 101 (effPg Spf101 (H101 N)) := by
  induction N with
  | zero => exact eff_none fun x y h => (by cases (show (none : Option (Int × Int)) = some y from h))
  | succ N ih =>
    refine eff_of_vc (c := mkCtx tyTree [(101, false, effPg Spf101 (H101 N)), (113, false, effPg Spf113 G113), (112, false, effPg Spf112 G112)]) rfl tyOK (ctx_eff (callable Try.func101 rfl rfl) ih (ctx_eff (callable Try.func113 rfl rfl) P113 (ctx_eff (callable Try.func112 rfl rfl) P112 (ctx_nil)))) 1000 500 Srf101 Try.func101 rfl rfl (by kernel_rfl) rfl rfl rfl rfl rfl (fun _ => rfl) (fun _ => rfl) (fun _ _ => ⟨rfl, rfl⟩) ?_
    rintro ⟨s0, s1, s2⟩ y hF
    have hF : f101b (f101 N) N s0 s1 s2 = some y := hF
    show vc _ _ _ _ ⟨[(0, .rs 0 (List.length s2)), (1, .dat (iN s0)), (2, .dat (iN s1)), (3, .dat (.v (.func (.func 91) #[] #[])))], [(0, .row 73 3 (List.map Spot.d s2))]⟩ _
    unfold f101b at hF
    repeat' (first
      | ((with_reducible first | refine q0 _ _ ?_ | refine q1 _ _ _ _ ?_ | refine q2 _ _ _ ?_); clear Q q0 q1 q2)
      | ((with_reducible first | refine seq_op ?hx (fun Q q0 q1 q2 => ?_)); (case hx => exact rfl); conv => whnf)
      | ((with_reducible refine cond_id ?_); (first | ((refine condKT rfl ?hy ?_); (case hy => first | assumption | exact notT (by assumption) | exact rfl)) | ((refine condKF rfl ?hy ?_); (case hy => first | assumption | exact notF (by assumption) | exact rfl)) | (revert hF; (with_reducible refine condF ?hx ?_ ?_); (case hx => exact rfl); all_goals (intro hc hF))))
      | ((with_reducible refine seq_nil ?_); (first | ((with_reducible refine hR _ ?_); clear R hR) | ((with_reducible refine hL _ ?_); clear L hL)))
      | ((with_reducible first | refine int_step ?_ | refine len_step ?_); conv => whnf)
      | (with_reducible first | refine vc_block ?_ | refine vc_skip ?_ | refine vc_ret ?_ | refine vc_exit ?_ | refine vc_region (fun R hR => ?_) | refine k_seq_ret ?_ | refine k_seq_exit ?_ | refine k_blk ?_ | refine k_blk_ret ?_ | refine k_blk_here ?_)
      | ((with_reducible refine vc_seqN [1000012] ?hx ?_); (case hx => exact rfl))
      | (revert hF; (refine Lp.cut1 Lf101_c12 f101_c12 1000012 rfl rfl ?_ ?_); (intro hF); rotate_left; (rintro ⟨j13, b1200_0⟩ hF; dsimp only [Lf101_c12] at hF; unfold f101_c12 at hF); rotate_right)
      | exact Lp.head Ef101_c12 hF () ⟨_, rfl, rfl, rfl, rfl⟩ rfl
      | (revert hF; (refine G112.step rfl rfl rfl (by first | exact rfl | assumption | omega | (simp only [List.length_set]; done)) rfl ?hn ?_); (case hn => exact rfl); intro v hF; conv => whnf)
      | (revert hF; (refine G113.step rfl rfl rfl (by first | exact rfl | assumption | omega | (simp only [List.length_set]; done)) rfl ?hn ?_); (case hn => exact rfl); intro v hF; conv => whnf)
      | (revert hF; (refine H101.step rfl rfl (by first | exact rfl | assumption | omega | (simp only [List.length_set]; done)) rfl ?hn ?_); (case hn => exact rfl); intro v hF; conv => whnf)
      | (show retE _ _ _ _ _ _; conv => whnf)
      | (cases hF; exact ⟨rfl, rfl, rfl⟩)
      | ((with_reducible first | refine k_blk_out ?hx ?_ | refine vc_condT ?hx ?_); (case hx => exact rfl))
      | ((refine row_all ?hn ?_); (case hn => first | exact rfl | (simp; done) | (simp; omega)); conv => whnf)
      | ((with_reducible refine le_step ?hn ?_); (case hn => first | exact rfl | assumption | omega); conv => whnf)
      | ((refine ⟨?hx, ?_⟩); (case hx => exact ⟨rfl, Nat.le_of_ble_eq_true rfl, rfl⟩); conv => whnf)
      | ((with_reducible refine ex_step ?_); conv => whnf)
      | ((with_reducible refine both_T ?hx ?_); (case hx => first | exact rfl | assumption | exact notT (by assumption)); conv => whnf)
      | ((with_reducible refine both_F ?hx ?_); (case hx => first | exact rfl | assumption | exact notF (by assumption)); conv => whnf)
      | (revert hF; (with_reducible refine ite_step ?_ ?_) <;> (intro hc hF; conv => whnf))
      | ((with_reducible refine vc_condF ?hx ?_); (case hx => exact rfl))
      | (show retD _ _ _ _ _ _; conv => whnf)
      | ((refine ⟨?hx, trivial⟩); (case hx => (cases hF; exact rfl)))
      | ((refine ⟨?hx, ?_⟩); (case hx => decide); conv => whnf)
      | with_reducible refine k_seq ?_
      | (have hF : (none : Option _) = some _ := hF; cases hF))
theorem P101 : CallOK Try.prog 101 (effPg Spf101 G101) := eff_ex Q101
end
end Go.Vc
namespace Go.Vc
open Go.Proofs
set_option linter.unusedVariables false
set_option linter.unnecessarySimpa false
set_option linter.unusedSimpArgs false
section
variable {c : Ctx} {p nid : Nat} {a b : Code} {st : St} {K : Ex → St → Prop}
/- f102: slices.reverseRangeCmpFunc[tusche/serial.Spot] -/
def f102_2b (r2 : Int → Int → (List Spot) → Option ((List Spot))) (i8' : Int) (j9 : Int) (b0 : List Spot) : Option ((List Spot)) :=
 bif decide ((i8') < j9) then ((ix b0 j9).bind fun x1 =>
 (ix b0 (i8')).bind fun x2 =>
 (ix b0 (i8')).bind fun x3 =>
 (setx b0 (i8') x1).bind fun x4 =>
 (ix x4 j9).bind fun x5 =>
 (setx x4 j9 x2).bind fun x6 =>
 r2 (W ((i8') + (1 : Int))) (W (j9 - (1 : Int))) x6)
 else (some (b0))
def f102_2 : Nat → Int → Int → (List Spot) → Option ((List Spot))
  | 0, _, _, _ => none
  | n + 1, i8', j9, b0 => f102_2b (f102_2 n) i8' j9 b0
def Lf102_2 : Lp (Nat × Int × Int × (List Spot)) (Nat) ((List Spot)) := ⟨⟨[0, 8, 9], [0], [], []⟩, fun (_, i8', j9, b0) => [.rs 0 (List.length b0), .dat (iN (i8')), .dat (iN j9)], fun (_, _, _, b0) => [.row 73 3 (List.map Spot.d b0)], fun (n, i8', j9, b0) => f102_2 n i8' j9 b0, fun (_, i8', j9, _) m0 => [.rs 0 m0, .dat (iN (i8')), .dat (iN j9)], fun (_, _, _, b0) _ => [.row 73 3 (List.map Spot.d b0)], fun (_, _, _, b0) => List.length b0, fun _ => rfl, fun _ => rfl⟩
theorem Ef102_2 {n i8' j9 b0} : (Lf102_2).E (n, i8', j9, b0) = f102_2 n i8' j9 b0 := rfl
def f102b (self : Int → Int → (List Spot) → Option ((List Spot))) (N : Nat) (s0 : Int) (s1 : Int) (s2 : List Spot) : Option ((List Spot)) :=
 f102_2 N s0 (W (s1 - (1 : Int))) s2
def f102 : Nat → Int → Int → (List Spot) → Option ((List Spot))
  | 0, _, _, _ => none
  | N + 1, s0, s1, s2 => f102b (f102 N) N s0 s1 s2
def Af102 (s0 : Int) (s1 : Int) (s2 : List Spot) : List SV := [.rs 0 (List.length s2), .dat (iN s0), .dat (iN s1), .dat (.v (.func (.func 91) #[] #[]))]
def Bf102 (s0 : Int) (s1 : Int) (s2 : List Spot) : List Blk := [.row 73 3 (List.map Spot.d s2)]
def Rf102 (y : (List Spot)) : List SV := []
def B1f102 (s0 : Int) (s1 : Int) (s2 : List Spot) (y : (List Spot)) : List Blk := [.row 73 3 (List.map Spot.d y)]
def BZf102 (y : (List Spot)) : Blk := .unborn
def Spf102 : Spec (Int × Int × (List Spot)) ((List Spot)) := ⟨1, fun x => Af102 x.1 x.2.1 x.2.2, fun x => Bf102 x.1 x.2.1 x.2.2, fun _ y => Rf102 y, fun x y => B1f102 x.1 x.2.1 x.2.2 y, fun _ y => BZf102 y⟩
def H102 (N : Nat) (x : Int × Int × (List Spot)) (y : (List Spot)) : Prop := f102 N x.1 x.2.1 x.2.2 = some y
def G102 (x : Int × Int × (List Spot)) (y : (List Spot)) : Prop := ∃ N, H102 N x y
theorem H102.step {N : Nat} {s0 : Int} {s1 : Int} {s2 : List Spot} {m0 : Nat} {ρ : Type} {A : (List Spot) → Option ρ} {q : ρ} {xs : List SV} {id : Nat} {m : Nat → Blk} {l : List Loc} {K : Dl → List Loc → Prop} {k0 : Nat} (ha : xs = [.rs k0 m0, .dat (iN s0), .dat (iN s1), .dat (.v (.func (.func 91) #[] #[]))]) (b0 : m k0 = .row 73 3 (List.map Spot.d s2)) (em0 : m0 = List.length s2) (hu : m id = .unborn) (hn : nodupB [k0] = true) (h : ∀ y, A y = some q → K ⟨.tup [], [(k0, .row 73 3 (List.map Spot.d y)), (id, .unborn)]⟩ l) (hF : (f102 N s0 s1 s2).bind A = some q) : effPg Spf102 (H102 N) xs id (fun _ => SV.no) m l K := by
  subst em0; obtain ⟨y, hy, hA⟩ := bind_some hF
  exact eff_step [k0] (s0, s1, s2) y _ hy rfl hn ha (by simp only [List.map_cons, List.map_nil, b0]; rfl) hu rfl rfl (h y hA)
theorem G102.step {N : Nat} {s0 : Int} {s1 : Int} {s2 : List Spot} {m0 : Nat} {ρ : Type} {A : (List Spot) → Option ρ} {q : ρ} {xs : List SV} {id : Nat} {m : Nat → Blk} {l : List Loc} {K : Dl → List Loc → Prop} {k0 : Nat} (ha : xs = [.rs k0 m0, .dat (iN s0), .dat (iN s1), .dat (.v (.func (.func 91) #[] #[]))]) (b0 : m k0 = .row 73 3 (List.map Spot.d s2)) (em0 : m0 = List.length s2) (hu : m id = .unborn) (hn : nodupB [k0] = true) (h : ∀ y, A y = some q → K ⟨.tup [], [(k0, .row 73 3 (List.map Spot.d y)), (id, .unborn)]⟩ l) (hF : (f102 N s0 s1 s2).bind A = some q) : effPg Spf102 (G102) xs id (fun _ => SV.no) m l K := by
  subst em0; obtain ⟨y, hy, hA⟩ := bind_some hF
  exact eff_step [k0] (s0, s1, s2) y _ ⟨N, hy⟩ rfl hn ha (by simp only [List.map_cons, List.map_nil, b0]; rfl) hu rfl rfl (h y hA)
def Srf102 : Ann := ⟨[], [0, 500], [], []⟩
set_option maxRecDepth 20000 in
set_option maxHeartbeats 4000000 in
theorem Q102 (N : Nat) : CallOK Try.prog 102 (effPg Spf102 (H102 N)) := by
  induction N with
  | zero => exact eff_none fun x y h => (by cases (show (none : Option ((List Spot))) = some y from h))
  | succ N ih =>
    refine eff_of_vc (c := mkCtx tyTree [(102, false, effPg Spf102 (H102 N))]) rfl tyOK (ctx_eff (callable Try.func102 rfl rfl) ih (ctx_nil)) 1000 500 Srf102 Try.func102 rfl rfl (by kernel_rfl) rfl rfl rfl rfl rfl (fun _ => rfl) (fun _ => rfl) (fun _ _ => ⟨rfl, rfl⟩) ?_
    rintro ⟨s0, s1, s2⟩ y hF
    have hF : f102b (f102 N) N s0 s1 s2 = some y := hF
    show vc _ _ _ _ ⟨[(0, .rs 0 (List.length s2)), (1, .dat (iN s0)), (2, .dat (iN s1)), (3, .dat (.v (.func (.func 91) #[] #[])))], [(0, .row 73 3 (List.map Spot.d s2))]⟩ _
    unfold f102b at hF
    repeat' (first
      | ((with_reducible first | refine q0 _ _ ?_ | refine q1 _ _ _ _ ?_ | refine q2 _ _ _ ?_); clear Q q0 q1 q2)
      | ((with_reducible first | refine seq_op ?hx (fun Q q0 q1 q2 => ?_) | refine draw_op ?hx (fun Q q0 q1 q2 => ?_) | refine seq_op0 ?hx (fun Q q0 q1 q2 => ?_) | refine draw_op0 ?hx (fun Q q0 q1 q2 => ?_)); (case hx => exact rfl); conv => whnf)
      | ((with_reducible refine cond_id ?_); (first | ((refine condKT rfl ?hy ?_); (case hy => first | assumption | exact notT (by assumption) | exact rfl)) | ((refine condKF rfl ?hy ?_); (case hy => first | assumption | exact notF (by assumption) | exact rfl)) | (revert hF; (with_reducible refine condF ?hx ?_ ?_); (case hx => exact rfl); all_goals (intro hc hF))))
      | ((with_reducible refine seq_nil ?_); (first | ((with_reducible refine hR _ ?_); clear R hR) | ((with_reducible refine hL _ ?_); clear L hL)))
      | ((with_reducible refine draw_nil ?_); (with_reducible refine hR _ _ ?hx ?_); (case hx => kernel_rfl); (first | clear R hR | clear hR))
      | ((with_reducible first | refine int_step ?_ | refine len_step ?_ | refine idx2 (by assumption) ?_ | refine idx3 (by assumption) ?_); conv => whnf)
      | (with_reducible first | refine vc_block ?_ | refine vc_skip ?_ | refine vc_ret ?_ | refine vc_exit ?_ | refine vc_region (fun R hR => ?_) | refine k_seq_ret ?_ | refine k_seq_exit ?_ | refine k_blk ?_ | refine k_blk_ret ?_ | refine k_blk_here ?_ | refine k_loop_ret ?_ | refine k_loop_exit ?_)
      | ((with_reducible refine vc_seqN [] ?hx ?_); (case hx => exact rfl))
      | ((with_reducible refine vc_draw ?hx (fun R hR => ?_)); (case hx => exact rfl))
      | (revert hF; (refine Lp.loop Ef102_2 _ rfl ⟨_, rfl, rfl, rfl, rfl⟩ (by first | exact rfl | ((try dsimp only [Lf102_2]); first | assumption | omega | (simp only [List.length_set]; done))) (fun _ => rfl) ?_); rintro n ⟨i8', j9, b0⟩ hF; dsimp only [Lf102_2, f102_2] at hF; unfold f102_2b at hF)
      | exact Lp.back Ef102_2 hF _ ⟨_, rfl, rfl, rfl, rfl⟩ (by first | exact rfl | ((try dsimp only [Lf102_2]); first | assumption | omega | (simp only [List.length_set]; done)))
      | (revert hF; (refine H102.step rfl rfl (by first | exact rfl | assumption | omega | (simp only [List.length_set]; done)) rfl ?hn ?_); (case hn => exact rfl); intro v hF; conv => whnf)
      | (show retE _ _ _ _ _ _; conv => whnf)
      | (cases hF; exact ⟨rfl, rfl, rfl⟩)
      | ((with_reducible first | refine k_blk_out ?hx ?_ | refine vc_condT ?hx ?_); (case hx => exact rfl))
      | (revert hF; (with_reducible refine idx1 ?hn ?_); (case hn => first | exact rfl | exact (List.length_map _) | assumption | omega | simp); intro x hx hF; conv => whnf)
      | ((refine row_all ?hn ?_); (case hn => first | exact rfl | (simp; done) | (simp; omega)); conv => whnf)
      | ((with_reducible refine le_step ?hn ?_); (case hn => first | exact rfl | assumption | omega); conv => whnf)
      | ((with_reducible have hG := setx_fact hF); clear hF; (refine setx_step hG ?hs (fun q hl hF => ?_)); (case hs => exact rfl); clear hG; conv => whnf)
      | ((refine ⟨?hx, ?_⟩); (case hx => exact ⟨rfl, Nat.le_of_ble_eq_true rfl, rfl⟩); conv => whnf)
      | ((with_reducible refine ex_step ?_); conv => whnf)
      | ((with_reducible refine both_T ?hx ?_); (case hx => first | exact rfl | assumption | exact notT (by assumption)); conv => whnf)
      | ((with_reducible refine both_F ?hx ?_); (case hx => first | exact rfl | assumption | exact notF (by assumption)); conv => whnf)
      | (revert hF; (with_reducible refine ite_step ?_ ?_) <;> (intro hc hF; conv => whnf))
      | ((with_reducible refine vc_condF ?hx ?_); (case hx => exact rfl))
      | (show retD _ _ _ _ _ _; conv => whnf)
      | ((refine ⟨?hx, trivial⟩); (case hx => (cases hF; exact rfl)))
      | ((refine ⟨?hx, ?_⟩); (case hx => decide); conv => whnf)
      | with_reducible refine k_seq ?_
      | (have hF : (none : Option _) = some _ := hF; cases hF))
theorem P102 : CallOK Try.prog 102 (effPg Spf102 G102) := eff_ex Q102
end
end Go.Vc
namespace Go.Vc
open Go.Proofs
set_option linter.unusedVariables false
set_option linter.unnecessarySimpa false
set_option linter.unusedSimpArgs false
section
variable {c : Ctx} {p nid : Nat} {a b : Code} {st : St} {K : Ex → St → Prop}
/- f103: slices.partialInsertionSortCmpFunc[tusche/serial.Spot] -/
def f103_c24 (b0 : List Spot) : Option (Bool × (List Spot)) :=
 some (false, b0)
def Lf103_c24 : Lp ((List Spot)) Unit (Bool × (List Spot)) := lp0 ⟨[], [0], [], []⟩ (fun _ => []) (fun b0 => [.row 73 3 (List.map Spot.d b0)]) (fun b0 => f103_c24 b0)
theorem Ef103_c24 {b0} : (Lf103_c24).E b0 = f103_c24 b0 := rfl
def f103_c4 (s0 : Int) (s1 : Int) (v10 : Int) (r3 : Int → Int → (List Spot) → Option (Bool × (List Spot))) (v9' : Int) (b0' : List Spot) : Option (Bool × (List Spot)) :=
 r3 (v9') (W (v10 + (1 : Int))) (b0')
def Lf103_c4 (s0 : Int) (s1 : Int) (v10 : Int) (r3 : Int → Int → (List Spot) → Option (Bool × (List Spot))) : Lp (Int × (List Spot)) (Nat) (Bool × (List Spot)) := ⟨⟨[0, 1, 2, 3, 9, 10], [0], [], []⟩, fun (v9', b0') => [.rs 0 (List.length (b0')), .dat (iN s0), .dat (iN s1), .dat (.v (.func (.func 91) #[] #[])), .dat (iN (v9')), .dat (iN v10)], fun (_, b0') => [.row 73 3 (List.map Spot.d (b0'))], fun (v9', b0') => f103_c4 s0 s1 v10 r3 v9' b0', fun (v9', _) m0 => [.rs 0 m0, .dat (iN s0), .dat (iN s1), .dat (.v (.func (.func 91) #[] #[])), .dat (iN (v9')), .dat (iN v10)], fun (_, b0') _ => [.row 73 3 (List.map Spot.d (b0'))], fun (_, b0') => List.length (b0'), fun _ => rfl, fun _ => rfl⟩
theorem Ef103_c4 {s0 s1 v10 r3 v9' b0'} : (Lf103_c4 s0 s1 v10 r3).E (v9', b0') = f103_c4 s0 s1 v10 r3 v9' b0' := rfl
def f103_20b (r20 : Int → (List Spot) → Option (Bool × (List Spot))) (s0 : Int) (s1 : Int) (N : Nat) (v10 : Int) (k1 : Int → (List Spot) → Option (Bool × (List Spot))) (v9' : Int) (v12 : Int) (b0'' : List Spot) : Option (Bool × (List Spot)) :=
 bif decide (v12 < s1) then ((ix (b0'') v12).bind fun x7 =>
 (ix (b0'') (W (v12 - (1 : Int)))).bind fun x8 =>
 (f91 N x7 x8).bind fun x9 =>
 bif !(decide (x9 < (0 : Int))) then (k1 (v9') (b0''))
 else ((ix (b0'') (W (v12 - (1 : Int)))).bind fun x10 =>
 (ix (b0'') v12).bind fun x11 =>
 (ix (b0'') v12).bind fun x12 =>
 (setx (b0'') v12 x10).bind fun x13 =>
 (ix x13 (W (v12 - (1 : Int)))).bind fun x14 =>
 (setx x13 (W (v12 - (1 : Int))) x11).bind fun x15 =>
 r20 (W (v12 + (1 : Int))) x15))
 else (k1 (v9') (b0''))
def f103_20 (s0 : Int) (s1 : Int) (N : Nat) (v10 : Int) (k1 : Int → (List Spot) → Option (Bool × (List Spot))) (v9' : Int) : Nat → Int → (List Spot) → Option (Bool × (List Spot))
  | 0, _, _ => none
  | n + 1, v12, b0'' => f103_20b (f103_20 s0 s1 N v10 k1 v9' n) s0 s1 N v10 k1 v9' v12 b0''
def Lf103_20 (s0 : Int) (s1 : Int) (N : Nat) (v10 : Int) (k1 : Int → (List Spot) → Option (Bool × (List Spot))) (v9' : Int) : Lp (Nat × Int × (List Spot)) (Nat) (Bool × (List Spot)) := ⟨⟨[0, 1, 2, 3, 9, 10, 12], [0], [], []⟩, fun (_, v12, b0'') => [.rs 0 (List.length (b0'')), .dat (iN s0), .dat (iN s1), .dat (.v (.func (.func 91) #[] #[])), .dat (iN (v9')), .dat (iN v10), .dat (iN v12)], fun (_, _, b0'') => [.row 73 3 (List.map Spot.d (b0''))], fun (n, v12, b0'') => f103_20 s0 s1 N v10 k1 v9' n v12 b0'', fun (_, v12, _) m0 => [.rs 0 m0, .dat (iN s0), .dat (iN s1), .dat (.v (.func (.func 91) #[] #[])), .dat (iN (v9')), .dat (iN v10), .dat (iN v12)], fun (_, _, b0'') _ => [.row 73 3 (List.map Spot.d (b0''))], fun (_, _, b0'') => List.length (b0''), fun _ => rfl, fun _ => rfl⟩
theorem Ef103_20 {s0 s1 N v10 k1 v9' n v12 b0''} : (Lf103_20 s0 s1 N v10 k1 v9').E (n, v12, b0'') = f103_20 s0 s1 N v10 k1 v9' n v12 b0'' := rfl
def f103_c18 (s0 : Int) (s1 : Int) (N : Nat) (v10 : Int) (k1 : Int → (List Spot) → Option (Bool × (List Spot))) (v9' : Int) (b0' : List Spot) : Option (Bool × (List Spot)) :=
 bif decide ((2 : Int) ≤ (W (s1 - (v9')))) then (f103_20 s0 s1 N v10 k1 v9' N (W ((v9') + (1 : Int))) (b0'))
 else (k1 (v9') (b0'))
def Lf103_c18 (s0 : Int) (s1 : Int) (N : Nat) (v10 : Int) (k1 : Int → (List Spot) → Option (Bool × (List Spot))) (v9' : Int) : Lp ((List Spot)) (Nat) (Bool × (List Spot)) := ⟨⟨[0, 1, 2, 3, 9, 10], [0], [], []⟩, fun b0' => [.rs 0 (List.length (b0')), .dat (iN s0), .dat (iN s1), .dat (.v (.func (.func 91) #[] #[])), .dat (iN (v9')), .dat (iN v10)], fun b0' => [.row 73 3 (List.map Spot.d (b0'))], fun b0' => f103_c18 s0 s1 N v10 k1 v9' b0', fun _ m0 => [.rs 0 m0, .dat (iN s0), .dat (iN s1), .dat (.v (.func (.func 91) #[] #[])), .dat (iN (v9')), .dat (iN v10)], fun b0' _ => [.row 73 3 (List.map Spot.d (b0'))], fun b0' => List.length (b0'), fun _ => rfl, fun _ => rfl⟩
theorem Ef103_c18 {s0 s1 N v10 k1 v9' b0'} : (Lf103_c18 s0 s1 N v10 k1 v9').E b0' = f103_c18 s0 s1 N v10 k1 v9' b0' := rfl
def f103_14b (r14 : Int → (List Spot) → Option (Bool × (List Spot))) (s0 : Int) (s1 : Int) (N : Nat) (v10 : Int) (v9' : Int) (k2 : (List Spot) → Option (Bool × (List Spot))) (v11 : Int) (b0' : List Spot) : Option (Bool × (List Spot)) :=
 bif decide ((1 : Int) ≤ v11) then ((ix (b0') v11).bind fun x16 =>
 (ix (b0') (W (v11 - (1 : Int)))).bind fun x17 =>
 (f91 N x16 x17).bind fun x18 =>
 bif !(decide (x18 < (0 : Int))) then (k2 (b0'))
 else ((ix (b0') (W (v11 - (1 : Int)))).bind fun x19 =>
 (ix (b0') v11).bind fun x20 =>
 (ix (b0') v11).bind fun x21 =>
 (setx (b0') v11 x19).bind fun x22 =>
 (ix x22 (W (v11 - (1 : Int)))).bind fun x23 =>
 (setx x22 (W (v11 - (1 : Int))) x20).bind fun x24 =>
 r14 (W (v11 - (1 : Int))) x24))
 else (k2 (b0'))
def f103_14 (s0 : Int) (s1 : Int) (N : Nat) (v10 : Int) (v9' : Int) (k2 : (List Spot) → Option (Bool × (List Spot))) : Nat → Int → (List Spot) → Option (Bool × (List Spot))
  | 0, _, _ => none
  | n + 1, v11, b0' => f103_14b (f103_14 s0 s1 N v10 v9' k2 n) s0 s1 N v10 v9' k2 v11 b0'
def Lf103_14 (s0 : Int) (s1 : Int) (N : Nat) (v10 : Int) (v9' : Int) (k2 : (List Spot) → Option (Bool × (List Spot))) : Lp (Nat × Int × (List Spot)) (Nat) (Bool × (List Spot)) := ⟨⟨[0, 1, 2, 3, 9, 10, 11], [0], [], []⟩, fun (_, v11, b0') => [.rs 0 (List.length (b0')), .dat (iN s0), .dat (iN s1), .dat (.v (.func (.func 91) #[] #[])), .dat (iN (v9')), .dat (iN v10), .dat (iN v11)], fun (_, _, b0') => [.row 73 3 (List.map Spot.d (b0'))], fun (n, v11, b0') => f103_14 s0 s1 N v10 v9' k2 n v11 b0', fun (_, v11, _) m0 => [.rs 0 m0, .dat (iN s0), .dat (iN s1), .dat (.v (.func (.func 91) #[] #[])), .dat (iN (v9')), .dat (iN v10), .dat (iN v11)], fun (_, _, b0') _ => [.row 73 3 (List.map Spot.d (b0'))], fun (_, _, b0') => List.length (b0'), fun _ => rfl, fun _ => rfl⟩
theorem Ef103_14 {s0 s1 N v10 v9' k2 n v11 b0'} : (Lf103_14 s0 s1 N v10 v9' k2).E (n, v11, b0') = f103_14 s0 s1 N v10 v9' k2 n v11 b0' := rfl
def f103_c7 (s0 : Int) (s1 : Int) (N : Nat) (v10 : Int) (b0 : List Spot) (k1 : Int → (List Spot) → Option (Bool × (List Spot))) (v9' : Int) : Option (Bool × (List Spot)) :=
 bif decide ((v9') = s1) then (some (true, b0))
 else (bif decide ((W (s1 - s0)) < (50 : Int)) then (some (false, b0))
 else ((ix b0 (W ((v9') - (1 : Int)))).bind fun x1 =>
 (ix b0 (v9')).bind fun x2 =>
 (ix b0 (v9')).bind fun x3 =>
 (setx b0 (v9') x1).bind fun x4 =>
 (ix x4 (W ((v9') - (1 : Int)))).bind fun x5 =>
 (setx x4 (W ((v9') - (1 : Int))) x2).bind fun x6 =>
 joinK (f103_c18 s0 s1 N v10 k1 v9') fun k2 =>
 bif decide ((2 : Int) ≤ (W ((v9') - s0))) then (f103_14 s0 s1 N v10 v9' k2 N (W ((v9') - (1 : Int))) x6)
 else (k2 x6)))
def Lf103_c7 (s0 : Int) (s1 : Int) (N : Nat) (v10 : Int) (b0 : List Spot) (k1 : Int → (List Spot) → Option (Bool × (List Spot))) : Lp (Int) (Nat) (Bool × (List Spot)) := ⟨⟨[0, 1, 2, 3, 9, 10], [0], [], []⟩, fun v9' => [.rs 0 (List.length b0), .dat (iN s0), .dat (iN s1), .dat (.v (.func (.func 91) #[] #[])), .dat (iN (v9')), .dat (iN v10)], fun _ => [.row 73 3 (List.map Spot.d b0)], fun v9' => f103_c7 s0 s1 N v10 b0 k1 v9', fun v9' m0 => [.rs 0 m0, .dat (iN s0), .dat (iN s1), .dat (.v (.func (.func 91) #[] #[])), .dat (iN (v9')), .dat (iN v10)], fun _ _ => [.row 73 3 (List.map Spot.d b0)], fun _ => List.length b0, fun _ => rfl, fun _ => rfl⟩
theorem Ef103_c7 {s0 s1 N v10 b0 k1 v9'} : (Lf103_c7 s0 s1 N v10 b0 k1).E v9' = f103_c7 s0 s1 N v10 b0 k1 v9' := rfl
def f103_5b (r5 : Int → Option (Bool × (List Spot))) (s0 : Int) (s1 : Int) (N : Nat) (v10 : Int) (b0 : List Spot) (k3 : Int → Option (Bool × (List Spot))) (v9' : Int) : Option (Bool × (List Spot)) :=
 bif decide ((v9') < s1) then ((ix b0 (v9')).bind fun x25 =>
 (ix b0 (W ((v9') - (1 : Int)))).bind fun x26 =>
 (f91 N x25 x26).bind fun x27 =>
 bif !(decide (x27 < (0 : Int))) then (r5 (W ((v9') + (1 : Int))))
 else (k3 (v9')))
 else (k3 (v9'))
def f103_5 (s0 : Int) (s1 : Int) (N : Nat) (v10 : Int) (b0 : List Spot) (k3 : Int → Option (Bool × (List Spot))) : Nat → Int → Option (Bool × (List Spot))
  | 0, _ => none
  | n + 1, v9' => f103_5b (f103_5 s0 s1 N v10 b0 k3 n) s0 s1 N v10 b0 k3 v9'
def Lf103_5 (s0 : Int) (s1 : Int) (N : Nat) (v10 : Int) (b0 : List Spot) (k3 : Int → Option (Bool × (List Spot))) : Lp (Nat × Int) (Nat) (Bool × (List Spot)) := ⟨⟨[0, 1, 2, 3, 9, 10], [0], [], []⟩, fun (_, v9') => [.rs 0 (List.length b0), .dat (iN s0), .dat (iN s1), .dat (.v (.func (.func 91) #[] #[])), .dat (iN (v9')), .dat (iN v10)], fun (_, _) => [.row 73 3 (List.map Spot.d b0)], fun (n, v9') => f103_5 s0 s1 N v10 b0 k3 n v9', fun (_, v9') m0 => [.rs 0 m0, .dat (iN s0), .dat (iN s1), .dat (.v (.func (.func 91) #[] #[])), .dat (iN (v9')), .dat (iN v10)], fun (_, _) _ => [.row 73 3 (List.map Spot.d b0)], fun (_, _) => List.length b0, fun _ => rfl, fun _ => rfl⟩
theorem Ef103_5 {s0 s1 N v10 b0 k3 n v9'} : (Lf103_5 s0 s1 N v10 b0 k3).E (n, v9') = f103_5 s0 s1 N v10 b0 k3 n v9' := rfl
def f103_3b (r3 : Int → Int → (List Spot) → Option (Bool × (List Spot))) (s0 : Int) (s1 : Int) (N : Nat) (k0 : (List Spot) → Option (Bool × (List Spot))) (v9 : Int) (v10 : Int) (b0 : List Spot) : Option (Bool × (List Spot)) :=
 bif decide (v10 < (5 : Int)) then (joinK (f103_c4 s0 s1 v10 r3) fun k1 =>
 joinK (f103_c7 s0 s1 N v10 b0 k1) fun k3 =>
 f103_5 s0 s1 N v10 b0 k3 N v9)
 else (k0 b0)
def f103_3 (s0 : Int) (s1 : Int) (N : Nat) (k0 : (List Spot) → Option (Bool × (List Spot))) : Nat → Int → Int → (List Spot) → Option (Bool × (List Spot))
  | 0, _, _, _ => none
  | n + 1, v9, v10, b0 => f103_3b (f103_3 s0 s1 N k0 n) s0 s1 N k0 v9 v10 b0
def Lf103_3 (s0 : Int) (s1 : Int) (N : Nat) (k0 : (List Spot) → Option (Bool × (List Spot))) : Lp (Nat × Int × Int × (List Spot)) (Nat) (Bool × (List Spot)) := ⟨⟨[0, 1, 2, 3, 9, 10], [0], [], []⟩, fun (_, v9, v10, b0) => [.rs 0 (List.length b0), .dat (iN s0), .dat (iN s1), .dat (.v (.func (.func 91) #[] #[])), .dat (iN v9), .dat (iN v10)], fun (_, _, _, b0) => [.row 73 3 (List.map Spot.d b0)], fun (n, v9, v10, b0) => f103_3 s0 s1 N k0 n v9 v10 b0, fun (_, v9, v10, _) m0 => [.rs 0 m0, .dat (iN s0), .dat (iN s1), .dat (.v (.func (.func 91) #[] #[])), .dat (iN v9), .dat (iN v10)], fun (_, _, _, b0) _ => [.row 73 3 (List.map Spot.d b0)], fun (_, _, _, b0) => List.length b0, fun _ => rfl, fun _ => rfl⟩
theorem Ef103_3 {s0 s1 N k0 n v9 v10 b0} : (Lf103_3 s0 s1 N k0).E (n, v9, v10, b0) = f103_3 s0 s1 N k0 n v9 v10 b0 := rfl
def f103b (self : Int → Int → (List Spot) → Option (Bool × (List Spot))) (N : Nat) (s0 : Int) (s1 : Int) (s2 : List Spot) : Option (Bool × (List Spot)) :=
 joinK f103_c24 fun k0 =>
 f103_3 s0 s1 N k0 N (W (s0 + (1 : Int))) (0 : Int) s2
def f103 : Nat → Int → Int → (List Spot) → Option (Bool × (List Spot))
  | 0, _, _, _ => none
  | N + 1, s0, s1, s2 => f103b (f103 N) N s0 s1 s2
def Af103 (s0 : Int) (s1 : Int) (s2 : List Spot) : List SV := [.rs 0 (List.length s2), .dat (iN s0), .dat (iN s1), .dat (.v (.func (.func 91) #[] #[]))]
def Bf103 (s0 : Int) (s1 : Int) (s2 : List Spot) : List Blk := [.row 73 3 (List.map Spot.d s2)]
def Rf103 (y : Bool × (List Spot)) : List SV := [.kb y.1]
def B1f103 (s0 : Int) (s1 : Int) (s2 : List Spot) (y : Bool × (List Spot)) : List Blk := [.row 73 3 (List.map Spot.d y.2)]
def BZf103 (y : Bool × (List Spot)) : Blk := .unborn
def Spf103 : Spec (Int × Int × (List Spot)) (Bool × (List Spot)) := ⟨1, fun x => Af103 x.1 x.2.1 x.2.2, fun x => Bf103 x.1 x.2.1 x.2.2, fun _ y => Rf103 y, fun x y => B1f103 x.1 x.2.1 x.2.2 y, fun _ y => BZf103 y⟩
def H103 (N : Nat) (x : Int × Int × (List Spot)) (y : Bool × (List Spot)) : Prop := f103 N x.1 x.2.1 x.2.2 = some y
def G103 (x : Int × Int × (List Spot)) (y : Bool × (List Spot)) : Prop := ∃ N, H103 N x y
theorem H103.step {N : Nat} {s0 : Int} {s1 : Int} {s2 : List Spot} {m0 : Nat} {ρ : Type} {A : (Bool × (List Spot)) → Option ρ} {q : ρ} {xs : List SV} {id : Nat} {m : Nat → Blk} {l : List Loc} {K : Dl → List Loc → Prop} {k0 : Nat} (ha : xs = [.rs k0 m0, .dat (iN s0), .dat (iN s1), .dat (.v (.func (.func 91) #[] #[]))]) (b0 : m k0 = .row 73 3 (List.map Spot.d s2)) (em0 : m0 = List.length s2) (hu : m id = .unborn) (hn : nodupB [k0] = true) (h : ∀ y, A y = some q → K ⟨.kb y.1, [(k0, .row 73 3 (List.map Spot.d y.2)), (id, .unborn)]⟩ l) (hF : (f103 N s0 s1 s2).bind A = some q) : effPg Spf103 (H103 N) xs id (fun _ => SV.no) m l K := by
  subst em0; obtain ⟨y, hy, hA⟩ := bind_some hF
  exact eff_step [k0] (s0, s1, s2) y _ hy rfl hn ha (by simp only [List.map_cons, List.map_nil, b0]; rfl) hu rfl rfl (h y hA)
theorem G103.step {N : Nat} {s0 : Int} {s1 : Int} {s2 : List Spot} {m0 : Nat} {ρ : Type} {A : (Bool × (List Spot)) → Option ρ} {q : ρ} {xs : List SV} {id : Nat} {m : Nat → Blk} {l : List Loc} {K : Dl → List Loc → Prop} {k0 : Nat} (ha : xs = [.rs k0 m0, .dat (iN s0), .dat (iN s1), .dat (.v (.func (.func 91) #[] #[]))]) (b0 : m k0 = .row 73 3 (List.map Spot.d s2)) (em0 : m0 = List.length s2) (hu : m id = .unborn) (hn : nodupB [k0] = true) (h : ∀ y, A y = some q → K ⟨.kb y.1, [(k0, .row 73 3 (List.map Spot.d y.2)), (id, .unborn)]⟩ l) (hF : (f103 N s0 s1 s2).bind A = some q) : effPg Spf103 (G103) xs id (fun _ => SV.no) m l K := by
  subst em0; obtain ⟨y, hy, hA⟩ := bind_some hF
  exact eff_step [k0] (s0, s1, s2) y _ ⟨N, hy⟩ rfl hn ha (by simp only [List.map_cons, List.map_nil, b0]; rfl) hu rfl rfl (h y hA)
def Srf103 : Ann := ⟨[0], [0, 500], [], []⟩
set_option maxRecDepth 20000 in
set_option maxHeartbeats 4000000 in
theorem Q103 (N : Nat) : CallOK Try.prog 103 (effPg Spf103 (H103 N)) := by
  induction N with
  | zero => exact eff_none fun x y h => (by cases (show (none : Option (Bool × (List Spot))) = some y from h))
  | succ N ih =>
    refine eff_of_vc (c := mkCtx tyTree [(103, false, effPg Spf103 (H103 N)), (91, true, lendPg [[0, 0, 0], [0, 0, 0]] G91)]) rfl tyOK (ctx_eff (callable Try.func103 rfl rfl) ih (ctx_lend (callable Try.func91 rfl rfl) P91 (ctx_nil))) 1000 500 Srf103 Try.func103 rfl rfl (by kernel_rfl) rfl rfl rfl rfl rfl (fun _ => rfl) (fun _ => rfl) (fun _ _ => ⟨rfl, rfl⟩) ?_
    rintro ⟨s0, s1, s2⟩ y hF
    have hF : f103b (f103 N) N s0 s1 s2 = some y := hF
    show vc _ _ _ _ ⟨[(0, .rs 0 (List.length s2)), (1, .dat (iN s0)), (2, .dat (iN s1)), (3, .dat (.v (.func (.func 91) #[] #[])))], [(0, .row 73 3 (List.map Spot.d s2))]⟩ _
    unfold f103b at hF
    repeat' (first
      | ((with_reducible first | refine q0 _ _ ?_ | refine q1 _ _ _ _ ?_ | refine q2 _ _ _ ?_); clear Q q0 q1 q2)
      | ((with_reducible first | refine seq_op ?hx (fun Q q0 q1 q2 => ?_) | refine draw_op ?hx (fun Q q0 q1 q2 => ?_) | refine seq_op0 ?hx (fun Q q0 q1 q2 => ?_) | refine draw_op0 ?hx (fun Q q0 q1 q2 => ?_)); (case hx => exact rfl); conv => whnf)
      | ((with_reducible first | refine seq_off ?hx ?_ | refine seq_off0 ?hx ?_ | refine draw_off ?hx ?_ | refine draw_off0 ?hx ?_ | refine k_blk_out ?hx ?_ | refine vc_condT ?hx ?_); (case hx => exact rfl))
      | ((with_reducible refine draw_id ?_); (first | ((first | refine draw_opK rfl ?hy (fun Q q0 q1 q2 => ?_) | refine draw_opK0 rfl ?hy (fun Q q0 q1 q2 => ?_)); (case hy => first | assumption | exact notT (by assumption) | exact rfl); conv => whnf) | ((first | refine draw_offK rfl ?hy ?_ | refine draw_offK0 rfl ?hy ?_); (case hy => first | assumption | exact notF (by assumption) | exact rfl)) | (revert hF; (with_reducible first | refine draw_opF ?hx ?_ ?_ | refine draw_opF0 ?hx ?_ ?_); (case hx => exact rfl); (intro hc hF Q q0 q1 q2; conv => whnf); rotate_left; (intro hc hF); rotate_right) | (revert hF; (with_reducible first | refine draw_opN ?hx ?_ ?_ | refine draw_opN0 ?hx ?_ ?_); (case hx => exact rfl); (intro hc hF); rotate_left; (intro hc hF Q q0 q1 q2; conv => whnf); rotate_right)))
      | ((with_reducible refine cond_id ?_); (first | ((refine condKT rfl ?hy ?_); (case hy => first | assumption | exact notT (by assumption) | exact rfl)) | ((refine condKF rfl ?hy ?_); (case hy => first | assumption | exact notF (by assumption) | exact rfl)) | (revert hF; (with_reducible refine condF ?hx ?_ ?_); (case hx => exact rfl); all_goals (intro hc hF))))
      | ((with_reducible refine seq_nil ?_); (first | ((with_reducible refine hR _ ?_); clear R hR) | ((with_reducible refine hL _ ?_); clear L hL)))
      | ((with_reducible refine draw_nil ?_); (with_reducible refine hR _ _ ?hx ?_); (case hx => kernel_rfl); (first | clear R hR | clear hR))
      | ((with_reducible first | refine int_step ?_ | refine len_step ?_ | refine idx2 (by assumption) ?_ | refine idx3 (by assumption) ?_); conv => whnf)
      | (with_reducible first | refine vc_block ?_ | refine vc_skip ?_ | refine vc_ret ?_ | refine vc_exit ?_ | refine vc_region (fun R hR => ?_) | refine k_seq_ret ?_ | refine k_seq_exit ?_ | refine k_blk ?_ | refine k_blk_ret ?_ | refine k_blk_here ?_ | refine k_loop_ret ?_ | refine k_loop_exit ?_)
      | ((with_reducible refine vc_seqN [1000024, 1000004, 1000018, 1000007] ?hx ?_); (case hx => exact rfl))
      | ((with_reducible refine vc_draw ?hx (fun R hR => ?_)); (case hx => exact rfl))
      | (revert hF; (refine Lp.cut0 Lf103_c24 f103_c24 1000024 rfl rfl ?_ ?_); (intro hF); rotate_left; (rintro b0 hF; dsimp only [Lf103_c24] at hF; unfold f103_c24 at hF); rotate_right)
      | exact Lp.head Ef103_c24 hF () ⟨_, rfl, rfl, rfl, rfl⟩ rfl
      | (revert hF; (refine Lp.cut4 Lf103_c4 f103_c4 1000004 rfl rfl ?_ ?_); (intro hF); rotate_left; (rintro ⟨v9', b0'⟩ hF; dsimp only [Lf103_c4] at hF; unfold f103_c4 at hF); rotate_right)
      | exact Lp.head Ef103_c4 hF _ ⟨_, rfl, rfl, rfl, rfl⟩ (by first | exact rfl | ((try dsimp only [Lf103_c4]); first | assumption | omega | (simp only [List.length_set]; done)))
      | (revert hF; (refine Lp.loop Ef103_20 _ rfl ⟨_, rfl, rfl, rfl, rfl⟩ (by first | exact rfl | ((try dsimp only [Lf103_20]); first | assumption | omega | (simp only [List.length_set]; done))) (fun _ => rfl) ?_); rintro n ⟨v12, b0''⟩ hF; dsimp only [Lf103_20, f103_20] at hF; unfold f103_20b at hF)
      | exact Lp.back Ef103_20 hF _ ⟨_, rfl, rfl, rfl, rfl⟩ (by first | exact rfl | ((try dsimp only [Lf103_20]); first | assumption | omega | (simp only [List.length_set]; done)))
      | (revert hF; (refine Lp.cut6 Lf103_c18 f103_c18 1000018 rfl rfl ?_ ?_); (intro hF); rotate_left; (rintro b0' hF; dsimp only [Lf103_c18] at hF; unfold f103_c18 at hF); rotate_right)
      | exact Lp.head Ef103_c18 hF _ ⟨_, rfl, rfl, rfl, rfl⟩ (by first | exact rfl | ((try dsimp only [Lf103_c18]); first | assumption | omega | (simp only [List.length_set]; done)))
      | (revert hF; (refine Lp.loop Ef103_14 _ rfl ⟨_, rfl, rfl, rfl, rfl⟩ (by first | exact rfl | ((try dsimp only [Lf103_14]); first | assumption | omega | (simp only [List.length_set]; done))) (fun _ => rfl) ?_); rintro n ⟨v11, b0'⟩ hF; dsimp only [Lf103_14, f103_14] at hF; unfold f103_14b at hF)
      | exact Lp.back Ef103_14 hF _ ⟨_, rfl, rfl, rfl, rfl⟩ (by first | exact rfl | ((try dsimp only [Lf103_14]); first | assumption | omega | (simp only [List.length_set]; done)))
      | (revert hF; (refine Lp.cut6 Lf103_c7 f103_c7 1000007 rfl rfl ?_ ?_); (intro hF); rotate_left; (rintro v9' hF; dsimp only [Lf103_c7] at hF; unfold f103_c7 at hF); rotate_right)
      | exact Lp.head Ef103_c7 hF _ ⟨_, rfl, rfl, rfl, rfl⟩ (by first | exact rfl | ((try dsimp only [Lf103_c7]); first | assumption | omega | (simp only [List.length_set]; done)))
      | (revert hF; (refine Lp.loop Ef103_5 _ rfl ⟨_, rfl, rfl, rfl, rfl⟩ (by first | exact rfl | ((try dsimp only [Lf103_5]); first | assumption | omega | (simp only [List.length_set]; done))) (fun _ => rfl) ?_); rintro n v9' hF; dsimp only [Lf103_5, f103_5] at hF; unfold f103_5b at hF)
      | exact Lp.back Ef103_5 hF _ ⟨_, rfl, rfl, rfl, rfl⟩ (by first | exact rfl | ((try dsimp only [Lf103_5]); first | assumption | omega | (simp only [List.length_set]; done)))
      | (revert hF; (refine Lp.loop Ef103_3 _ rfl ⟨_, rfl, rfl, rfl, rfl⟩ (by first | exact rfl | ((try dsimp only [Lf103_3]); first | assumption | omega | (simp only [List.length_set]; done))) (fun _ => rfl) ?_); rintro n ⟨v9, v10, b0⟩ hF; dsimp only [Lf103_3, f103_3] at hF; unfold f103_3b at hF)
      | exact Lp.back Ef103_3 hF _ ⟨_, rfl, rfl, rfl, rfl⟩ (by first | exact rfl | ((try dsimp only [Lf103_3]); first | assumption | omega | (simp only [List.length_set]; done)))
      | (revert hF; (with_reducible refine G91.lend ?hx ?_); (case hx => exact rfl); intro v hF; conv => whnf)
      | (revert hF; (refine H103.step rfl rfl (by first | exact rfl | assumption | omega | (simp only [List.length_set]; done)) rfl ?hn ?_); (case hn => exact rfl); intro v hF; conv => whnf)
      | (show retE _ _ _ _ _ _; conv => whnf)
      | (cases hF; exact ⟨rfl, rfl, rfl⟩)
      | (revert hF; (with_reducible refine idx1 ?hn ?_); (case hn => first | exact rfl | exact (List.length_map _) | assumption | omega | simp); intro x hx hF; conv => whnf)
      | ((refine row_all ?hn ?_); (case hn => first | exact rfl | (simp; done) | (simp; omega)); conv => whnf)
      | ((with_reducible refine le_step ?hn ?_); (case hn => first | exact rfl | assumption | omega); conv => whnf)
      | ((with_reducible have hG := setx_fact hF); clear hF; (refine setx_step hG ?hs (fun q hl hF => ?_)); (case hs => exact rfl); clear hG; conv => whnf)
      | ((refine ⟨?hx, ?_⟩); (case hx => exact ⟨rfl, Nat.le_of_ble_eq_true rfl, rfl⟩); conv => whnf)
      | ((with_reducible refine ex_step ?_); conv => whnf)
      | ((with_reducible refine both_T ?hx ?_); (case hx => first | exact rfl | assumption | exact notT (by assumption)); conv => whnf)
      | ((with_reducible refine both_F ?hx ?_); (case hx => first | exact rfl | assumption | exact notF (by assumption)); conv => whnf)
      | (revert hF; (with_reducible refine ite_step ?_ ?_) <;> (intro hc hF; conv => whnf))
      | ((with_reducible refine vc_condF ?hx ?_); (case hx => exact rfl))
      | (show retD _ _ _ _ _ _; conv => whnf)
      | ((refine ⟨?hx, trivial⟩); (case hx => (cases hF; exact rfl)))
      | ((refine ⟨?hx, ?_⟩); (case hx => decide); conv => whnf)
      | with_reducible refine k_seq ?_
      | (have hF : (none : Option _) = some _ := hF; cases hF))
theorem P103 : CallOK Try.prog 103 (effPg Spf103 G103) := eff_ex Q103
end
end Go.Vc
namespace Go.Vc
open Go.Proofs
set_option linter.unusedVariables false
set_option linter.unnecessarySimpa false
set_option linter.unusedSimpArgs false
section
variable {c : Ctx} {p nid : Nat} {a b : Code} {st : St} {K : Ex → St → Prop}
/- f104: slices.partitionEqualCmpFunc[tusche/serial.Spot] -/
def f104_c11 (v11 : Int) (b0 : List Spot) : Option (Int × (List Spot)) :=
 some (v11, b0)
def Lf104_c11 : Lp (Int × (List Spot)) Unit (Int × (List Spot)) := lp0 ⟨[11], [0], [], []⟩ (fun (v11, _) => [.dat (iN v11)]) (fun (_, b0) => [.row 73 3 (List.map Spot.d b0)]) (fun (v11, b0) => f104_c11 v11 b0)
theorem Ef104_c11 {v11 b0} : (Lf104_c11).E (v11, b0) = f104_c11 v11 b0 := rfl
def f104_c7 (s0 : Int) (k0 : Int → (List Spot) → Option (Int × (List Spot))) (b0 : List Spot) (r3 : Int → Int → (List Spot) → Option (Int × (List Spot))) (v11' : Int) (v12' : Int) : Option (Int × (List Spot)) :=
 bif decide ((v12') < (v11')) then (k0 (v11') b0)
 else ((ix b0 (v12')).bind fun x7 =>
 (ix b0 (v11')).bind fun x8 =>
 (ix b0 (v11')).bind fun x9 =>
 (setx b0 (v11') x7).bind fun x10 =>
 (ix x10 (v12')).bind fun x11 =>
 (setx x10 (v12') x8).bind fun x12 =>
 r3 (W ((v11') + (1 : Int))) (W ((v12') - (1 : Int))) x12)
def Lf104_c7 (s0 : Int) (k0 : Int → (List Spot) → Option (Int × (List Spot))) (b0 : List Spot) (r3 : Int → Int → (List Spot) → Option (Int × (List Spot))) (v11' : Int) : Lp (Int) (Nat) (Int × (List Spot)) := ⟨⟨[0, 1, 4, 11, 12], [0], [], []⟩, fun v12' => [.rs 0 (List.length b0), .dat (iN s0), .dat (.v (.func (.func 91) #[] #[])), .dat (iN (v11')), .dat (iN (v12'))], fun _ => [.row 73 3 (List.map Spot.d b0)], fun v12' => f104_c7 s0 k0 b0 r3 v11' v12', fun v12' m0 => [.rs 0 m0, .dat (iN s0), .dat (.v (.func (.func 91) #[] #[])), .dat (iN (v11')), .dat (iN (v12'))], fun _ _ => [.row 73 3 (List.map Spot.d b0)], fun _ => List.length b0, fun _ => rfl, fun _ => rfl⟩
theorem Ef104_c7 {s0 k0 b0 r3 v11' v12'} : (Lf104_c7 s0 k0 b0 r3 v11').E v12' = f104_c7 s0 k0 b0 r3 v11' v12' := rfl
def f104_5b (r5 : Int → Option (Int × (List Spot))) (s0 : Int) (N : Nat) (b0 : List Spot) (v11' : Int) (k1 : Int → Option (Int × (List Spot))) (v12' : Int) : Option (Int × (List Spot)) :=
 bif decide ((v11') ≤ (v12')) then ((ix b0 s0).bind fun x13 =>
 (ix b0 (v12')).bind fun x14 =>
 (f91 N x13 x14).bind fun x15 =>
 bif decide (x15 < (0 : Int)) then (r5 (W ((v12') - (1 : Int))))
 else (k1 (v12')))
 else (k1 (v12'))
def f104_5 (s0 : Int) (N : Nat) (b0 : List Spot) (v11' : Int) (k1 : Int → Option (Int × (List Spot))) : Nat → Int → Option (Int × (List Spot))
  | 0, _ => none
  | n + 1, v12' => f104_5b (f104_5 s0 N b0 v11' k1 n) s0 N b0 v11' k1 v12'
def Lf104_5 (s0 : Int) (N : Nat) (b0 : List Spot) (v11' : Int) (k1 : Int → Option (Int × (List Spot))) : Lp (Nat × Int) (Nat) (Int × (List Spot)) := ⟨⟨[0, 1, 4, 11, 12], [0], [], []⟩, fun (_, v12') => [.rs 0 (List.length b0), .dat (iN s0), .dat (.v (.func (.func 91) #[] #[])), .dat (iN (v11')), .dat (iN (v12'))], fun (_, _) => [.row 73 3 (List.map Spot.d b0)], fun (n, v12') => f104_5 s0 N b0 v11' k1 n v12', fun (_, v12') m0 => [.rs 0 m0, .dat (iN s0), .dat (.v (.func (.func 91) #[] #[])), .dat (iN (v11')), .dat (iN (v12'))], fun (_, _) _ => [.row 73 3 (List.map Spot.d b0)], fun (_, _) => List.length b0, fun _ => rfl, fun _ => rfl⟩
theorem Ef104_5 {s0 N b0 v11' k1 n v12'} : (Lf104_5 s0 N b0 v11' k1).E (n, v12') = f104_5 s0 N b0 v11' k1 n v12' := rfl
def f104_c5 (s0 : Int) (N : Nat) (k0 : Int → (List Spot) → Option (Int × (List Spot))) (v12 : Int) (b0 : List Spot) (r3 : Int → Int → (List Spot) → Option (Int × (List Spot))) (v11' : Int) : Option (Int × (List Spot)) :=
 joinK (f104_c7 s0 k0 b0 r3 v11') fun k1 =>
 f104_5 s0 N b0 v11' k1 N v12
def Lf104_c5 (s0 : Int) (N : Nat) (k0 : Int → (List Spot) → Option (Int × (List Spot))) (v12 : Int) (b0 : List Spot) (r3 : Int → Int → (List Spot) → Option (Int × (List Spot))) : Lp (Int) (Nat) (Int × (List Spot)) := ⟨⟨[0, 1, 4, 11, 12], [0], [], []⟩, fun v11' => [.rs 0 (List.length b0), .dat (iN s0), .dat (.v (.func (.func 91) #[] #[])), .dat (iN (v11')), .dat (iN v12)], fun _ => [.row 73 3 (List.map Spot.d b0)], fun v11' => f104_c5 s0 N k0 v12 b0 r3 v11', fun v11' m0 => [.rs 0 m0, .dat (iN s0), .dat (.v (.func (.func 91) #[] #[])), .dat (iN (v11')), .dat (iN v12)], fun _ _ => [.row 73 3 (List.map Spot.d b0)], fun _ => List.length b0, fun _ => rfl, fun _ => rfl⟩
theorem Ef104_c5 {s0 N k0 v12 b0 r3 v11'} : (Lf104_c5 s0 N k0 v12 b0 r3).E v11' = f104_c5 s0 N k0 v12 b0 r3 v11' := rfl
def f104_3_1b (r3x : Int → Option (Int × (List Spot))) (s0 : Int) (N : Nat) (v12 : Int) (b0 : List Spot) (k2 : Int → Option (Int × (List Spot))) (v11' : Int) : Option (Int × (List Spot)) :=
 bif decide ((v11') ≤ v12) then ((ix b0 s0).bind fun x16 =>
 (ix b0 (v11')).bind fun x17 =>
 (f91 N x16 x17).bind fun x18 =>
 bif !(decide (x18 < (0 : Int))) then (r3x (W ((v11') + (1 : Int))))
 else (k2 (v11')))
 else (k2 (v11'))
def f104_3_1 (s0 : Int) (N : Nat) (v12 : Int) (b0 : List Spot) (k2 : Int → Option (Int × (List Spot))) : Nat → Int → Option (Int × (List Spot))
  | 0, _ => none
  | n + 1, v11' => f104_3_1b (f104_3_1 s0 N v12 b0 k2 n) s0 N v12 b0 k2 v11'
def Lf104_3_1 (s0 : Int) (N : Nat) (v12 : Int) (b0 : List Spot) (k2 : Int → Option (Int × (List Spot))) : Lp (Nat × Int) (Nat) (Int × (List Spot)) := ⟨⟨[0, 1, 4, 11, 12], [0], [], []⟩, fun (_, v11') => [.rs 0 (List.length b0), .dat (iN s0), .dat (.v (.func (.func 91) #[] #[])), .dat (iN (v11')), .dat (iN v12)], fun (_, _) => [.row 73 3 (List.map Spot.d b0)], fun (n, v11') => f104_3_1 s0 N v12 b0 k2 n v11', fun (_, v11') m0 => [.rs 0 m0, .dat (iN s0), .dat (.v (.func (.func 91) #[] #[])), .dat (iN (v11')), .dat (iN v12)], fun (_, _) _ => [.row 73 3 (List.map Spot.d b0)], fun (_, _) => List.length b0, fun _ => rfl, fun _ => rfl⟩
theorem Ef104_3_1 {s0 N v12 b0 k2 n v11'} : (Lf104_3_1 s0 N v12 b0 k2).E (n, v11') = f104_3_1 s0 N v12 b0 k2 n v11' := rfl
def f104_3b (r3 : Int → Int → (List Spot) → Option (Int × (List Spot))) (s0 : Int) (N : Nat) (k0 : Int → (List Spot) → Option (Int × (List Spot))) (v11 : Int) (v12 : Int) (b0 : List Spot) : Option (Int × (List Spot)) :=
 joinK (f104_c5 s0 N k0 v12 b0 r3) fun k2 =>
 f104_3_1 s0 N v12 b0 k2 N v11
def f104_3 (s0 : Int) (N : Nat) (k0 : Int → (List Spot) → Option (Int × (List Spot))) : Nat → Int → Int → (List Spot) → Option (Int × (List Spot))
  | 0, _, _, _ => none
  | n + 1, v11, v12, b0 => f104_3b (f104_3 s0 N k0 n) s0 N k0 v11 v12 b0
def Lf104_3 (s0 : Int) (N : Nat) (k0 : Int → (List Spot) → Option (Int × (List Spot))) : Lp (Nat × Int × Int × (List Spot)) (Nat) (Int × (List Spot)) := ⟨⟨[0, 1, 4, 11, 12], [0], [], []⟩, fun (_, v11, v12, b0) => [.rs 0 (List.length b0), .dat (iN s0), .dat (.v (.func (.func 91) #[] #[])), .dat (iN v11), .dat (iN v12)], fun (_, _, _, b0) => [.row 73 3 (List.map Spot.d b0)], fun (n, v11, v12, b0) => f104_3 s0 N k0 n v11 v12 b0, fun (_, v11, v12, _) m0 => [.rs 0 m0, .dat (iN s0), .dat (.v (.func (.func 91) #[] #[])), .dat (iN v11), .dat (iN v12)], fun (_, _, _, b0) _ => [.row 73 3 (List.map Spot.d b0)], fun (_, _, _, b0) => List.length b0, fun _ => rfl, fun _ => rfl⟩
theorem Ef104_3 {s0 N k0 n v11 v12 b0} : (Lf104_3 s0 N k0).E (n, v11, v12, b0) = f104_3 s0 N k0 n v11 v12 b0 := rfl
def f104b (self : Int → Int → Int → (List Spot) → Option (Int × (List Spot))) (N : Nat) (s0 : Int) (s1 : Int) (s2 : Int) (s3 : List Spot) : Option (Int × (List Spot)) :=
 (ix s3 s2).bind fun x1 =>
 (ix s3 s0).bind fun x2 =>
 (ix s3 s0).bind fun x3 =>
 (setx s3 s0 x1).bind fun x4 =>
 (ix x4 s2).bind fun x5 =>
 (setx x4 s2 x2).bind fun x6 =>
 joinK f104_c11 fun k0 =>
 f104_3 s0 N k0 N (W (s0 + (1 : Int))) (W (s1 - (1 : Int))) x6
def f104 : Nat → Int → Int → Int → (List Spot) → Option (Int × (List Spot))
  | 0, _, _, _, _ => none
  | N + 1, s0, s1, s2, s3 => f104b (f104 N) N s0 s1 s2 s3
def Af104 (s0 : Int) (s1 : Int) (s2 : Int) (s3 : List Spot) : List SV := [.rs 0 (List.length s3), .dat (iN s0), .dat (iN s1), .dat (iN s2), .dat (.v (.func (.func 91) #[] #[]))]
def Bf104 (s0 : Int) (s1 : Int) (s2 : Int) (s3 : List Spot) : List Blk := [.row 73 3 (List.map Spot.d s3)]
def Rf104 (y : Int × (List Spot)) : List SV := [.dat (iN y.1)]
def B1f104 (s0 : Int) (s1 : Int) (s2 : Int) (s3 : List Spot) (y : Int × (List Spot)) : List Blk := [.row 73 3 (List.map Spot.d y.2)]
def BZf104 (y : Int × (List Spot)) : Blk := .unborn
def Spf104 : Spec (Int × Int × Int × (List Spot)) (Int × (List Spot)) := ⟨1, fun x => Af104 x.1 x.2.1 x.2.2.1 x.2.2.2, fun x => Bf104 x.1 x.2.1 x.2.2.1 x.2.2.2, fun _ y => Rf104 y, fun x y => B1f104 x.1 x.2.1 x.2.2.1 x.2.2.2 y, fun _ y => BZf104 y⟩
def H104 (N : Nat) (x : Int × Int × Int × (List Spot)) (y : Int × (List Spot)) : Prop := f104 N x.1 x.2.1 x.2.2.1 x.2.2.2 = some y
def G104 (x : Int × Int × Int × (List Spot)) (y : Int × (List Spot)) : Prop := ∃ N, H104 N x y
theorem H104.step {N : Nat} {s0 : Int} {s1 : Int} {s2 : Int} {s3 : List Spot} {m0 : Nat} {ρ : Type} {A : (Int × (List Spot)) → Option ρ} {q : ρ} {xs : List SV} {id : Nat} {m : Nat → Blk} {l : List Loc} {K : Dl → List Loc → Prop} {k0 : Nat} (ha : xs = [.rs k0 m0, .dat (iN s0), .dat (iN s1), .dat (iN s2), .dat (.v (.func (.func 91) #[] #[]))]) (b0 : m k0 = .row 73 3 (List.map Spot.d s3)) (em0 : m0 = List.length s3) (hu : m id = .unborn) (hn : nodupB [k0] = true) (h : ∀ y, A y = some q → K ⟨.dat (iN y.1), [(k0, .row 73 3 (List.map Spot.d y.2)), (id, .unborn)]⟩ l) (hF : (f104 N s0 s1 s2 s3).bind A = some q) : effPg Spf104 (H104 N) xs id (fun _ => SV.no) m l K := by
  subst em0; obtain ⟨y, hy, hA⟩ := bind_some hF
  exact eff_step [k0] (s0, s1, s2, s3) y _ hy rfl hn ha (by simp only [List.map_cons, List.map_nil, b0]; rfl) hu rfl rfl (h y hA)
theorem G104.step {N : Nat} {s0 : Int} {s1 : Int} {s2 : Int} {s3 : List Spot} {m0 : Nat} {ρ : Type} {A : (Int × (List Spot)) → Option ρ} {q : ρ} {xs : List SV} {id : Nat} {m : Nat → Blk} {l : List Loc} {K : Dl → List Loc → Prop} {k0 : Nat} (ha : xs = [.rs k0 m0, .dat (iN s0), .dat (iN s1), .dat (iN s2), .dat (.v (.func (.func 91) #[] #[]))]) (b0 : m k0 = .row 73 3 (List.map Spot.d s3)) (em0 : m0 = List.length s3) (hu : m id = .unborn) (hn : nodupB [k0] = true) (h : ∀ y, A y = some q → K ⟨.dat (iN y.1), [(k0, .row 73 3 (List.map Spot.d y.2)), (id, .unborn)]⟩ l) (hF : (f104 N s0 s1 s2 s3).bind A = some q) : effPg Spf104 (G104) xs id (fun _ => SV.no) m l K := by
  subst em0; obtain ⟨y, hy, hA⟩ := bind_some hF
  exact eff_step [k0] (s0, s1, s2, s3) y _ ⟨N, hy⟩ rfl hn ha (by simp only [List.map_cons, List.map_nil, b0]; rfl) hu rfl rfl (h y hA)
def Srf104 : Ann := ⟨[0], [0, 500], [], []⟩
set_option maxRecDepth 20000 in
set_option maxHeartbeats 4000000 in
theorem Q104 (N : Nat) : CallOK Try.prog 104 (effPg Spf104 (H104 N)) := by
  induction N with
  | zero => exact eff_none fun x y h => (by cases (show (none : Option (Int × (List Spot))) = some y from h))
  | succ N ih =>
    refine eff_of_vc (c := mkCtx tyTree [(104, false, effPg Spf104 (H104 N)), (91, true, lendPg [[0, 0, 0], [0, 0, 0]] G91)]) rfl tyOK (ctx_eff (callable Try.func104 rfl rfl) ih (ctx_lend (callable Try.func91 rfl rfl) P91 (ctx_nil))) 1000 500 Srf104 Try.func104 rfl rfl (by kernel_rfl) rfl rfl rfl rfl rfl (fun _ => rfl) (fun _ => rfl) (fun _ _ => ⟨rfl, rfl⟩) ?_
    rintro ⟨s0, s1, s2, s3⟩ y hF
    have hF : f104b (f104 N) N s0 s1 s2 s3 = some y := hF
    show vc _ _ _ _ ⟨[(0, .rs 0 (List.length s3)), (1, .dat (iN s0)), (2, .dat (iN s1)), (3, .dat (iN s2)), (4, .dat (.v (.func (.func 91) #[] #[])))], [(0, .row 73 3 (List.map Spot.d s3))]⟩ _
    unfold f104b at hF
    repeat' (first
      | ((with_reducible first | refine q0 _ _ ?_ | refine q1 _ _ _ _ ?_ | refine q2 _ _ _ ?_); clear Q q0 q1 q2)
      | ((with_reducible first | refine seq_op ?hx (fun Q q0 q1 q2 => ?_) | refine draw_op ?hx (fun Q q0 q1 q2 => ?_) | refine seq_op0 ?hx (fun Q q0 q1 q2 => ?_) | refine draw_op0 ?hx (fun Q q0 q1 q2 => ?_)); (case hx => exact rfl); conv => whnf)
      | ((with_reducible first | refine seq_off ?hx ?_ | refine seq_off0 ?hx ?_ | refine draw_off ?hx ?_ | refine draw_off0 ?hx ?_ | refine k_blk_out ?hx ?_ | refine vc_condT ?hx ?_); (case hx => exact rfl))
      | ((with_reducible refine draw_id ?_); (first | ((first | refine draw_opK rfl ?hy (fun Q q0 q1 q2 => ?_) | refine draw_opK0 rfl ?hy (fun Q q0 q1 q2 => ?_)); (case hy => first | assumption | exact notT (by assumption) | exact rfl); conv => whnf) | ((first | refine draw_offK rfl ?hy ?_ | refine draw_offK0 rfl ?hy ?_); (case hy => first | assumption | exact notF (by assumption) | exact rfl)) | (revert hF; (with_reducible first | refine draw_opF ?hx ?_ ?_ | refine draw_opF0 ?hx ?_ ?_); (case hx => exact rfl); (intro hc hF Q q0 q1 q2; conv => whnf); rotate_left; (intro hc hF); rotate_right) | (revert hF; (with_reducible first | refine draw_opN ?hx ?_ ?_ | refine draw_opN0 ?hx ?_ ?_); (case hx => exact rfl); (intro hc hF); rotate_left; (intro hc hF Q q0 q1 q2; conv => whnf); rotate_right)))
      | ((with_reducible refine cond_id ?_); (first | ((refine condKT rfl ?hy ?_); (case hy => first | assumption | exact notT (by assumption) | exact rfl)) | ((refine condKF rfl ?hy ?_); (case hy => first | assumption | exact notF (by assumption) | exact rfl)) | (revert hF; (with_reducible refine condF ?hx ?_ ?_); (case hx => exact rfl); all_goals (intro hc hF))))
      | ((with_reducible refine seq_nil ?_); (first | ((with_reducible refine hR _ ?_); clear R hR) | ((with_reducible refine hL _ ?_); clear L hL)))
      | ((with_reducible refine draw_nil ?_); (with_reducible refine hR _ _ ?hx ?_); (case hx => kernel_rfl); (first | clear R hR | clear hR))
      | ((with_reducible first | refine int_step ?_ | refine len_step ?_ | refine idx2 (by assumption) ?_ | refine idx3 (by assumption) ?_); conv => whnf)
      | (with_reducible first | refine vc_block ?_ | refine vc_skip ?_ | refine vc_ret ?_ | refine vc_exit ?_ | refine vc_region (fun R hR => ?_) | refine k_seq_ret ?_ | refine k_seq_exit ?_ | refine k_blk ?_ | refine k_blk_ret ?_ | refine k_blk_here ?_ | refine k_loop_ret ?_ | refine k_loop_exit ?_)
      | ((with_reducible refine vc_seqN [1000011, 1000007, 1000005] ?hx ?_); (case hx => exact rfl))
      | ((with_reducible refine vc_draw ?hx (fun R hR => ?_)); (case hx => exact rfl))
      | (revert hF; (refine Lp.cut0 Lf104_c11 f104_c11 1000011 rfl rfl ?_ ?_); (intro hF); rotate_left; (rintro ⟨v11, b0⟩ hF; dsimp only [Lf104_c11] at hF; unfold f104_c11 at hF); rotate_right)
      | exact Lp.head Ef104_c11 hF () ⟨_, rfl, rfl, rfl, rfl⟩ rfl
      | (revert hF; (refine Lp.cut5 Lf104_c7 f104_c7 1000007 rfl rfl ?_ ?_); (intro hF); rotate_left; (rintro v12' hF; dsimp only [Lf104_c7] at hF; unfold f104_c7 at hF); rotate_right)
      | exact Lp.head Ef104_c7 hF _ ⟨_, rfl, rfl, rfl, rfl⟩ (by first | exact rfl | ((try dsimp only [Lf104_c7]); first | assumption | omega | (simp only [List.length_set]; done)))
      | (revert hF; (refine Lp.loop Ef104_5 _ rfl ⟨_, rfl, rfl, rfl, rfl⟩ (by first | exact rfl | ((try dsimp only [Lf104_5]); first | assumption | omega | (simp only [List.length_set]; done))) (fun _ => rfl) ?_); rintro n v12' hF; dsimp only [Lf104_5, f104_5] at hF; unfold f104_5b at hF)
      | exact Lp.back Ef104_5 hF _ ⟨_, rfl, rfl, rfl, rfl⟩ (by first | exact rfl | ((try dsimp only [Lf104_5]); first | assumption | omega | (simp only [List.length_set]; done)))
      | (revert hF; (refine Lp.cut6 Lf104_c5 f104_c5 1000005 rfl rfl ?_ ?_); (intro hF); rotate_left; (rintro v11' hF; dsimp only [Lf104_c5] at hF; unfold f104_c5 at hF); rotate_right)
      | exact Lp.head Ef104_c5 hF _ ⟨_, rfl, rfl, rfl, rfl⟩ (by first | exact rfl | ((try dsimp only [Lf104_c5]); first | assumption | omega | (simp only [List.length_set]; done)))
      | (revert hF; (refine Lp.loop Ef104_3_1 _ rfl ⟨_, rfl, rfl, rfl, rfl⟩ (by first | exact rfl | ((try dsimp only [Lf104_3_1]); first | assumption | omega | (simp only [List.length_set]; done))) (fun _ => rfl) ?_); rintro n v11' hF; dsimp only [Lf104_3_1, f104_3_1] at hF; unfold f104_3_1b at hF)
      | exact Lp.back Ef104_3_1 hF _ ⟨_, rfl, rfl, rfl, rfl⟩ (by first | exact rfl | ((try dsimp only [Lf104_3_1]); first | assumption | omega | (simp only [List.length_set]; done)))
      | (revert hF; (refine Lp.loop Ef104_3 _ rfl ⟨_, rfl, rfl, rfl, rfl⟩ (by first | exact rfl | ((try dsimp only [Lf104_3]); first | assumption | omega | (simp only [List.length_set]; done))) (fun _ => rfl) ?_); rintro n ⟨v11, v12, b0⟩ hF; dsimp only [Lf104_3, f104_3] at hF; unfold f104_3b at hF)
      | exact Lp.back Ef104_3 hF _ ⟨_, rfl, rfl, rfl, rfl⟩ (by first | exact rfl | ((try dsimp only [Lf104_3]); first | assumption | omega | (simp only [List.length_set]; done)))
      | (revert hF; (with_reducible refine G91.lend ?hx ?_); (case hx => exact rfl); intro v hF; conv => whnf)
      | (revert hF; (refine H104.step rfl rfl (by first | exact rfl | assumption | omega | (simp only [List.length_set]; done)) rfl ?hn ?_); (case hn => exact rfl); intro v hF; conv => whnf)
      | (show retE _ _ _ _ _ _; conv => whnf)
      | (cases hF; exact ⟨rfl, rfl, rfl⟩)
      | (revert hF; (with_reducible refine idx1 ?hn ?_); (case hn => first | exact rfl | exact (List.length_map _) | assumption | omega | simp); intro x hx hF; conv => whnf)
      | ((refine row_all ?hn ?_); (case hn => first | exact rfl | (simp; done) | (simp; omega)); conv => whnf)
      | ((with_reducible refine le_step ?hn ?_); (case hn => first | exact rfl | assumption | omega); conv => whnf)
      | ((with_reducible have hG := setx_fact hF); clear hF; (refine setx_step hG ?hs (fun q hl hF => ?_)); (case hs => exact rfl); clear hG; conv => whnf)
      | ((refine ⟨?hx, ?_⟩); (case hx => exact ⟨rfl, Nat.le_of_ble_eq_true rfl, rfl⟩); conv => whnf)
      | ((with_reducible refine ex_step ?_); conv => whnf)
      | ((with_reducible refine both_T ?hx ?_); (case hx => first | exact rfl | assumption | exact notT (by assumption)); conv => whnf)
      | ((with_reducible refine both_F ?hx ?_); (case hx => first | exact rfl | assumption | exact notF (by assumption)); conv => whnf)
      | (revert hF; (with_reducible refine ite_step ?_ ?_) <;> (intro hc hF; conv => whnf))
      | ((with_reducible refine vc_condF ?hx ?_); (case hx => exact rfl))
      | (show retD _ _ _ _ _ _; conv => whnf)
      | ((refine ⟨?hx, trivial⟩); (case hx => (cases hF; exact rfl)))
      | ((refine ⟨?hx, ?_⟩); (case hx => decide); conv => whnf)
      | with_reducible refine k_seq ?_
      | (have hF : (none : Option _) = some _ := hF; cases hF))
theorem P104 : CallOK Try.prog 104 (effPg Spf104 G104) := eff_ex Q104
end
end Go.Vc

/-
  A library for proofs about Go functions by symbolic evaluation, and plain Lean functions that the walked Go functions compute (written by a program of this claim).
-/
import Derived.Test.YtnbefdolkolaiaaW1
import Derived.Test.YtnbefdolkolaiaaW3
import Derived.Test.YtnbefdolkolaiaaW2
import Derived.Test.YtnbefdolkolaiaaVc3
namespace Go.Vc
open Go.Proofs
set_option linter.unusedVariables false
set_option linter.unnecessarySimpa false
set_option linter.unusedSimpArgs false
section
variable {c : Ctx} {p nid : Nat} {a b : Code} {st : St} {K : Ex → St → Prop}
def f37_c3 (a0' : Int) : Option (Int) :=
 some (a0')
def Lf37_c3 : Lp (Int) Unit (Int) := lp0 ⟨[0], [], [], []⟩ (fun a0' => [.dat (iN (a0'))]) (fun _ => []) (fun a0' => f37_c3 a0')
theorem Ef37_c3 {a0'} : (Lf37_c3).E a0' = f37_c3 a0' := rfl
def f37_1b (r1 : Int → Int → Option (Int)) (k0 : Int → Option (Int)) (a0' : Int) (b1 : Int) : Option (Int) :=
 bif decide ((0 : Int) < b1) then ((chk (decide (b1 ≠ 0))).bind fun _ =>
 r1 b1 (Int.tmod (a0') b1))
 else (k0 (a0'))
def f37_1 (k0 : Int → Option (Int)) : Nat → Int → Int → Option (Int)
  | 0, _, _ => none
  | n + 1, a0', b1 => f37_1b (f37_1 k0 n) k0 a0' b1
def Lf37_1 (k0 : Int → Option (Int)) : Lp (Nat × Int × Int) Unit (Int) := lp0 ⟨[0, 1], [], [], []⟩ (fun (_, a0', b1) => [.dat (iN (a0')), .dat (iN b1)]) (fun (_, _, _) => []) (fun (n, a0', b1) => f37_1 k0 n a0' b1)
theorem Ef37_1 {k0 n a0' b1} : (Lf37_1 k0).E (n, a0', b1) = f37_1 k0 n a0' b1 := rfl
def f37 (N : Nat) (a0 : Int) (a1 : Int) : Option (Int) :=
 joinK f37_c3 fun k0 =>
 f37_1 k0 N a0 a1
def G37 (ds : List D) (d : D) : Prop := ∃ (N : Nat) (a0 : Int) (a1 : Int) (r : Int), ds = [iN a0, iN a1] ∧ f37 N a0 a1 = some r ∧ d = iN r
theorem G37.lend {N : Nat} {a0 : Int} {a1 : Int} {ρ : Type} {A : Int → Option ρ} {q : ρ} {ds : List D} {K : D → Prop} (hd : ds = [iN a0, iN a1]) (h : ∀ r, A r = some q → K (iN r)) (hF : (f37 N a0 a1).bind A = some q) : ∃ d, (G37 ds d ∧ d.flatB = true) ∧ K d := by
  obtain ⟨r, hr, hA⟩ := bind_some hF
  exact ⟨_, ⟨⟨N, a0, a1, r, hd, hr, rfl⟩, rfl⟩, h r hA⟩
set_option maxRecDepth 20000 in
set_option maxHeartbeats 4000000 in
theorem P37 : PureOK Try.prog 37 G37 := by
  refine pure_of_vc (c := mkCtx tyTree []) rfl tyOK (ctx_nil) [[0]] 2 Try.func37 rfl rfl (by decide) (by kernel_rfl) ?_
  rintro ds d ⟨N, a0, a1, r, rfl, hF, rfl⟩ hok
  clear hok
  refine ⟨rfl, ?_⟩
  show vc _ _ _ _ ⟨[(0, .dat (iN a0)), (1, .dat (iN a1))], []⟩ _
  unfold f37 at hF
  repeat' (first
    | ((with_reducible first | refine q0 _ _ ?_ | refine q1 _ _ _ _ ?_ | refine q2 _ _ _ ?_); clear Q q0 q1 q2)
    | ((with_reducible first | refine seq_op ?hx (fun Q q0 q1 q2 => ?_) | refine draw_op ?hx (fun Q q0 q1 q2 => ?_)); (case hx => exact rfl); conv => whnf)
    | ((with_reducible refine cond_id ?_); (first | ((refine condKT rfl ?hy ?_); (case hy => first | assumption | exact notT (by assumption) | exact rfl)) | ((refine condKF rfl ?hy ?_); (case hy => first | assumption | exact notF (by assumption) | exact rfl)) | (revert hF; (with_reducible refine condF ?hx ?_ ?_); (case hx => exact rfl); all_goals (intro hc hF))))
    | ((with_reducible refine seq_nil ?_); (first | ((with_reducible refine hR _ ?_); clear R hR) | ((with_reducible refine hL _ ?_); clear L hL)))
    | ((with_reducible refine draw_nil ?_); (with_reducible refine hR _ _ ?hx ?_); (case hx => kernel_rfl); (first | clear R hR | clear hR))
    | ((with_reducible first | refine int_step ?_); conv => whnf)
    | (with_reducible first | refine vc_block ?_ | refine vc_skip ?_ | refine vc_ret ?_ | refine vc_exit ?_ | refine vc_region (fun R hR => ?_) | refine k_seq_ret ?_ | refine k_seq_exit ?_ | refine k_blk ?_ | refine k_blk_ret ?_ | refine k_blk_here ?_ | refine k_loop_ret ?_ | refine k_loop_exit ?_)
    | ((with_reducible refine vc_seqN [3] ?hx ?_); (case hx => exact rfl))
    | ((with_reducible refine vc_draw ?hx (fun R hR => ?_)); (case hx => exact rfl))
    | (revert hF; (refine Lp.cut0 Lf37_c3 f37_c3 3 rfl rfl ?_ ?_); (intro hF); rotate_left; (rintro a0' hF; dsimp only [Lf37_c3] at hF; unfold f37_c3 at hF); rotate_right)
    | exact Lp.head Ef37_c3 hF () ⟨_, rfl, rfl, rfl, rfl⟩ rfl
    | (revert hF; (refine Lp.loop Ef37_1 () rfl ⟨_, rfl, rfl, rfl, rfl⟩ rfl (fun _ => rfl) ?_); rintro n ⟨a0', b1⟩ hF; dsimp only [Lf37_1, f37_1] at hF; unfold f37_1b at hF)
    | exact Lp.back Ef37_1 hF () ⟨_, rfl, rfl, rfl, rfl⟩ rfl
    | ((with_reducible first | refine k_blk_out ?hx ?_ | refine vc_condT ?hx ?_); (case hx => exact rfl))
    | ((refine row_all ?hn ?_); (case hn => first | exact rfl | (simp; done) | (simp; omega)); conv => whnf)
    | ((with_reducible refine le_step ?hn ?_); (case hn => first | exact rfl | assumption | omega); conv => whnf)
    | ((refine ⟨?hx, ?_⟩); (case hx => exact ⟨rfl, Nat.le_of_ble_eq_true rfl, rfl⟩); conv => whnf)
    | ((with_reducible refine ex_step ?_); conv => whnf)
    | ((with_reducible have hG := chk_fact hF); clear hF; (refine ⟨?hx, ?_⟩); (case hx => (first | exact of_decide_eq_true hG.1 | exact hG.1)); have hF := hG.2; clear hG; conv => whnf)
    | ((with_reducible refine both_T ?hx ?_); (case hx => first | exact rfl | assumption | exact notT (by assumption)); conv => whnf)
    | ((with_reducible refine both_F ?hx ?_); (case hx => first | exact rfl | assumption | exact notF (by assumption)); conv => whnf)
    | (revert hF; (with_reducible refine ite_step ?_ ?_) <;> (intro hc hF; conv => whnf))
    | ((with_reducible refine vc_condF ?hx ?_); (case hx => exact rfl))
    | (show retD _ _ _ _ _ _; conv => whnf)
    | ((refine ⟨?hx, trivial⟩); (case hx => (cases hF; exact rfl)))
    | ((refine ⟨?hx, ?_⟩); (case hx => decide); conv => whnf)
    | with_reducible refine k_seq ?_
    | (have hF : (none : Option _) = some _ := hF; cases hF))
end
end Go.Vc
namespace Go.Vc
open Go.Proofs
set_option linter.unusedVariables false
set_option linter.unnecessarySimpa false
set_option linter.unusedSimpArgs false
section
variable {c : Ctx} {p nid : Nat} {a b : Code} {st : St} {K : Ex → St → Prop}
def f38_c6 (a0 : ByteArray) (a1 : Int) : Option (Bool) :=
 bif decide ((1 : Int) ≤ a1) then (some (decide (a1 ≤ (ByteArray.size a0 : Int))))
 else (some (false))
def Lf38_c6 (a0 : ByteArray) (a1 : Int) : Lp (Unit) Unit (Bool) := lp0 ⟨[0, 1], [], [], []⟩ (fun _ => [.dat (strN a0), .dat (iN a1)]) (fun _ => []) (fun _ => f38_c6 a0 a1)
theorem Ef38_c6 {a0 a1} : (Lf38_c6 a0 a1).E () = f38_c6 a0 a1 := rfl
def f38_2b (r2 : Nat → Option (Bool)) (a0 : ByteArray) (a1 : Int) (k0 : Option (Bool)) (p101 : Nat) : Option (Bool) :=
 bif decide (p101 < ByteArray.size a0) then ((some (runeAt a0 p101)).bind fun x1 =>
 bif decide (a1 ≤ (((p101 : Nat) : Int) : Int)) then ((idxS a0 (((p101 : Nat) : Int) : Int)).bind fun x2 =>
 (idxS a0 (W ((((p101 : Nat) : Int) : Int) - a1))).bind fun x3 =>
 bif decide (¬ x2 = x3) then (some (false))
 else (r2 x1.2))
 else (r2 x1.2))
 else k0
def f38_2 (a0 : ByteArray) (a1 : Int) (k0 : Option (Bool)) : Nat → Nat → Option (Bool)
  | 0, _ => none
  | n + 1, p101 => f38_2b (f38_2 a0 a1 k0 n) a0 a1 k0 p101
def Lf38_2 (a0 : ByteArray) (a1 : Int) (k0 : Option (Bool)) : Lp (Nat × Nat) Unit (Bool) := lp0 ⟨[0, 1, 7], [101], [], []⟩ (fun (_, _) => [.dat (strN a0), .dat (iN a1), .ptr 101 0]) (fun (_, p101) => [.sit a0 p101]) (fun (n, p101) => f38_2 a0 a1 k0 n p101)
theorem Ef38_2 {a0 a1 k0 n p101} : (Lf38_2 a0 a1 k0).E (n, p101) = f38_2 a0 a1 k0 n p101 := rfl
def f38 (N : Nat) (a0 : ByteArray) (a1 : Int) : Option (Bool) :=
 joinK (f38_c6 a0 a1) fun k0 =>
 f38_2 a0 a1 k0 N 0
def G38 (ds : List D) (d : D) : Prop := ∃ (N : Nat) (a0 : ByteArray) (a1 : Int) (r : Bool), ds = [strN a0, iN a1] ∧ f38 N a0 a1 = some r ∧ d = bN r
theorem G38.lend {N : Nat} {a0 : ByteArray} {a1 : Int} {ρ : Type} {A : Bool → Option ρ} {q : ρ} {ds : List D} {K : D → Prop} (hd : ds = [strN a0, iN a1]) (h : ∀ r, A r = some q → K (bN r)) (hF : (f38 N a0 a1).bind A = some q) : ∃ d, (G38 ds d ∧ d.flatB = true) ∧ K d := by
  obtain ⟨r, hr, hA⟩ := bind_some hF
  exact ⟨_, ⟨⟨N, a0, a1, r, hd, hr, rfl⟩, rfl⟩, h r hA⟩
set_option maxRecDepth 20000 in
set_option maxHeartbeats 4000000 in
theorem P38 : PureOK Try.prog 38 G38 := by
  refine pure_of_vc (c := mkCtx tyTree []) rfl tyOK (ctx_nil) [[0]] 2 Try.func38 rfl rfl (by decide) (by kernel_rfl) ?_
  rintro ds d ⟨N, a0, a1, r, rfl, hF, rfl⟩ hok
  clear hok
  refine ⟨rfl, ?_⟩
  show vc _ _ _ _ ⟨[(0, .dat (strN a0)), (1, .dat (iN a1))], []⟩ _
  unfold f38 at hF
  repeat' (first
    | ((with_reducible first | refine q0 _ _ ?_ | refine q1 _ _ _ _ ?_ | refine q2 _ _ _ ?_); clear Q q0 q1 q2)
    | ((with_reducible first | refine seq_op ?hx (fun Q q0 q1 q2 => ?_) | refine draw_op ?hx (fun Q q0 q1 q2 => ?_)); (case hx => exact rfl); conv => whnf)
    | ((with_reducible first | refine seq_off ?hx ?_ | refine seq_off0 ?hx ?_ | refine draw_off ?hx ?_ | refine draw_off0 ?hx ?_ | refine k_blk_out ?hx ?_ | refine vc_condT ?hx ?_); (case hx => exact rfl))
    | ((with_reducible refine seq_id ?_); (first | ((first | refine seq_opK rfl ?hy (fun Q q0 q1 q2 => ?_) | refine seq_opK0 rfl ?hy (fun Q q0 q1 q2 => ?_)); (case hy => first | assumption | exact notT (by assumption) | exact rfl); conv => whnf) | ((first | refine seq_offK rfl ?hy ?_ | refine seq_offK0 rfl ?hy ?_); (case hy => first | assumption | exact notF (by assumption) | exact rfl)) | (revert hF; (with_reducible first | refine seq_opF ?hx ?_ ?_ | refine seq_opF0 ?hx ?_ ?_); (case hx => exact rfl); (intro hc hF Q q0 q1 q2; conv => whnf); rotate_left; (intro hc hF); rotate_right) | (revert hF; (with_reducible first | refine seq_opN ?hx ?_ ?_ | refine seq_opN0 ?hx ?_ ?_); (case hx => exact rfl); (intro hc hF); rotate_left; (intro hc hF Q q0 q1 q2; conv => whnf); rotate_right)))
    | ((with_reducible refine draw_id ?_); (first | ((first | refine draw_opK rfl ?hy (fun Q q0 q1 q2 => ?_) | refine draw_opK0 rfl ?hy (fun Q q0 q1 q2 => ?_)); (case hy => first | assumption | exact notT (by assumption) | exact rfl); conv => whnf) | ((first | refine draw_offK rfl ?hy ?_ | refine draw_offK0 rfl ?hy ?_); (case hy => first | assumption | exact notF (by assumption) | exact rfl)) | (revert hF; (with_reducible first | refine draw_opF ?hx ?_ ?_ | refine draw_opF0 ?hx ?_ ?_); (case hx => exact rfl); (intro hc hF Q q0 q1 q2; conv => whnf); rotate_left; (intro hc hF); rotate_right) | (revert hF; (with_reducible first | refine draw_opN ?hx ?_ ?_ | refine draw_opN0 ?hx ?_ ?_); (case hx => exact rfl); (intro hc hF); rotate_left; (intro hc hF Q q0 q1 q2; conv => whnf); rotate_right)))
    | ((with_reducible refine cond_id ?_); (first | ((refine condKT rfl ?hy ?_); (case hy => first | assumption | exact notT (by assumption) | exact rfl)) | ((refine condKF rfl ?hy ?_); (case hy => first | assumption | exact notF (by assumption) | exact rfl)) | (revert hF; (with_reducible refine condF ?hx ?_ ?_); (case hx => exact rfl); all_goals (intro hc hF))))
    | ((with_reducible refine seq_nil ?_); (first | ((with_reducible refine hR _ ?_); clear R hR) | ((with_reducible refine hL _ ?_); clear L hL)))
    | ((with_reducible refine draw_nil ?_); (with_reducible refine hR _ _ ?hx ?_); (case hx => kernel_rfl); (first | clear R hR | clear hR))
    | ((with_reducible first | refine int_step ?_); conv => whnf)
    | (with_reducible first | refine vc_block ?_ | refine vc_skip ?_ | refine vc_ret ?_ | refine vc_exit ?_ | refine vc_region (fun R hR => ?_) | refine k_seq_ret ?_ | refine k_seq_exit ?_ | refine k_blk ?_ | refine k_blk_ret ?_ | refine k_blk_here ?_ | refine k_loop_ret ?_ | refine k_loop_exit ?_)
    | ((with_reducible refine vc_seqN [6] ?hx ?_); (case hx => exact rfl))
    | ((with_reducible refine vc_draw ?hx (fun R hR => ?_)); (case hx => exact rfl))
    | (revert hF; (refine Lp.cut2 Lf38_c6 f38_c6 6 rfl rfl ?_ ?_); (intro hF); rotate_left; (rintro _ hF; dsimp only [Lf38_c6] at hF; unfold f38_c6 at hF); rotate_right)
    | exact Lp.head Ef38_c6 hF () ⟨_, rfl, rfl, rfl, rfl⟩ rfl
    | (revert hF; (refine Lp.loop Ef38_2 () rfl ⟨_, rfl, rfl, rfl, rfl⟩ rfl (fun _ => rfl) ?_); rintro n p101 hF; dsimp only [Lf38_2, f38_2] at hF; unfold f38_2b at hF)
    | exact Lp.back Ef38_2 hF () ⟨_, rfl, rfl, rfl, rfl⟩ rfl
    | (revert hF; (refine idxS_step ?_); intro x hF; conv => whnf)
    | (revert hF; (refine some_step ?_); intro x hF; conv => whnf)
    | ((refine row_all ?hn ?_); (case hn => first | exact rfl | (simp; done) | (simp; omega)); conv => whnf)
    | ((with_reducible refine le_step ?hn ?_); (case hn => first | exact rfl | assumption | omega); conv => whnf)
    | ((refine ⟨?hx, ?_⟩); (case hx => exact ⟨rfl, Nat.le_of_ble_eq_true rfl, rfl⟩); conv => whnf)
    | ((with_reducible refine ex_step ?_); conv => whnf)
    | ((with_reducible refine both_T ?hx ?_); (case hx => first | exact rfl | assumption | exact notT (by assumption)); conv => whnf)
    | ((with_reducible refine both_F ?hx ?_); (case hx => first | exact rfl | assumption | exact notF (by assumption)); conv => whnf)
    | (revert hF; (with_reducible refine ite_step ?_ ?_) <;> (intro hc hF; conv => whnf))
    | ((with_reducible refine vc_condF ?hx ?_); (case hx => exact rfl))
    | (show retD _ _ _ _ _ _; conv => whnf)
    | ((refine ⟨?hx, trivial⟩); (case hx => (cases hF; exact rfl)))
    | ((refine ⟨?hx, ?_⟩); (case hx => decide); conv => whnf)
    | with_reducible refine k_seq ?_
    | (have hF : (none : Option _) = some _ := hF; cases hF))
end
end Go.Vc
namespace Go.Vc
open Go.Proofs
set_option linter.unusedVariables false
set_option linter.unnecessarySimpa false
set_option linter.unusedSimpArgs false
section
variable {c : Ctx} {p nid : Nat} {a b : Code} {st : St} {K : Ex → St → Prop}
def f40_c6 (b100 : List (Int × Bool)) : Option (Int) :=
 (lenM b100).bind fun x1 =>
 some ((x1 : Int))
def Lf40_c6 : Lp ((List (Int × Bool))) Unit (Int) := lp0 ⟨[3], [100], [], []⟩ (fun _ => [.mp 100]) (fun b100 => [.mp (encM u8N bN b100)]) (fun b100 => f40_c6 b100)
theorem Ef40_c6 {b100} : (Lf40_c6).E b100 = f40_c6 b100 := rfl
def f40_3b (r3 : (List (Int × Bool)) → Nat → Option (Int)) (a0 : ByteArray) (k0 : (List (Int × Bool)) → Option (Int)) (b100 : List (Int × Bool)) (p201 : Nat) : Option (Int) :=
 bif decide (p201 < ByteArray.size a0) then ((some (runeAt a0 p201)).bind fun x2 =>
 (idxS a0 (((p201 : Nat) : Int) : Int)).bind fun x3 =>
 (some (setK x3 true b100)).bind fun x4 =>
 r3 x4 x2.2)
 else (k0 b100)
def f40_3 (a0 : ByteArray) (k0 : (List (Int × Bool)) → Option (Int)) : Nat → (List (Int × Bool)) → Nat → Option (Int)
  | 0, _, _ => none
  | n + 1, b100, p201 => f40_3b (f40_3 a0 k0 n) a0 k0 b100 p201
def Lf40_3 (a0 : ByteArray) (k0 : (List (Int × Bool)) → Option (Int)) : Lp (Nat × (List (Int × Bool)) × Nat) Unit (Int) := lp0 ⟨[0, 3, 7], [100, 201], [], []⟩ (fun (_, _, _) => [.dat (strN a0), .mp 100, .ptr 201 0]) (fun (_, b100, p201) => [.mp (encM u8N bN b100), .sit a0 p201]) (fun (n, b100, p201) => f40_3 a0 k0 n b100 p201)
theorem Ef40_3 {a0 k0 n b100 p201} : (Lf40_3 a0 k0).E (n, b100, p201) = f40_3 a0 k0 n b100 p201 := rfl
def f40 (N : Nat) (a0 : ByteArray) : Option (Int) :=
 joinK f40_c6 fun k0 =>
 f40_3 a0 k0 N [] 0
def G40 (ds : List D) (d : D) : Prop := ∃ (N : Nat) (a0 : ByteArray) (r : Int), ds = [strN a0] ∧ f40 N a0 = some r ∧ d = iN r
theorem G40.lend {N : Nat} {a0 : ByteArray} {ρ : Type} {A : Int → Option ρ} {q : ρ} {ds : List D} {K : D → Prop} (hd : ds = [strN a0]) (h : ∀ r, A r = some q → K (iN r)) (hF : (f40 N a0).bind A = some q) : ∃ d, (G40 ds d ∧ d.flatB = true) ∧ K d := by
  obtain ⟨r, hr, hA⟩ := bind_some hF
  exact ⟨_, ⟨⟨N, a0, r, hd, hr, rfl⟩, rfl⟩, h r hA⟩
set_option maxRecDepth 20000 in
set_option maxHeartbeats 4000000 in
theorem P40 : PureOK Try.prog 40 G40 := by
  refine pure_of_vc (c := mkCtx tyTree []) rfl tyOK (ctx_nil) [[0]] 1 Try.func40 rfl rfl (by decide) (by kernel_rfl) ?_
  rintro ds d ⟨N, a0, r, rfl, hF, rfl⟩ hok
  clear hok
  refine ⟨rfl, ?_⟩
  show vc _ _ _ _ ⟨[(0, .dat (strN a0))], []⟩ _
  unfold f40 at hF
  repeat' (first
    | ((with_reducible first | refine q0 _ _ ?_ | refine q1 _ _ _ _ ?_ | refine q2 _ _ _ ?_); clear Q q0 q1 q2)
    | ((with_reducible first | refine seq_op ?hx (fun Q q0 q1 q2 => ?_) | refine seq_op0 ?hx (fun Q q0 q1 q2 => ?_)); (case hx => exact rfl); conv => whnf)
    | ((with_reducible refine cond_id ?_); (first | ((refine condKT rfl ?hy ?_); (case hy => first | assumption | exact notT (by assumption) | exact rfl)) | ((refine condKF rfl ?hy ?_); (case hy => first | assumption | exact notF (by assumption) | exact rfl)) | (revert hF; (with_reducible refine condF ?hx ?_ ?_); (case hx => exact rfl); all_goals (intro hc hF))))
    | ((with_reducible refine seq_nil ?_); (first | ((with_reducible refine hR _ ?_); clear R hR) | ((with_reducible refine hL _ ?_); clear L hL)))
    | ((with_reducible first | refine int_step ?_); conv => whnf)
    | (with_reducible first | refine vc_block ?_ | refine vc_skip ?_ | refine vc_ret ?_ | refine vc_exit ?_ | refine vc_region (fun R hR => ?_) | refine k_seq_ret ?_ | refine k_seq_exit ?_ | refine k_blk ?_ | refine k_blk_ret ?_ | refine k_blk_here ?_ | refine k_loop_ret ?_ | refine k_loop_exit ?_)
    | ((with_reducible refine vc_seqN [6] ?hx ?_); (case hx => exact rfl))
    | (revert hF; (refine Lp.cut0 Lf40_c6 f40_c6 6 rfl rfl ?_ ?_); (intro hF); rotate_left; (rintro b100 hF; dsimp only [Lf40_c6] at hF; unfold f40_c6 at hF); rotate_right)
    | exact Lp.head Ef40_c6 hF () ⟨_, rfl, rfl, rfl, rfl⟩ rfl
    | (revert hF; (refine Lp.loop Ef40_3 () rfl ⟨_, rfl, rfl, rfl, rfl⟩ rfl (fun _ => rfl) ?_); rintro n ⟨b100, p201⟩ hF; dsimp only [Lf40_3, f40_3] at hF; unfold f40_3b at hF)
    | exact Lp.back Ef40_3 hF () ⟨_, rfl, rfl, rfl, rfl⟩ rfl
    | (revert hF; (refine idxS_step ?_); intro x hF; conv => whnf)
    | (revert hF; (refine lenM_step ?_); intro x hF; conv => whnf)
    | (revert hF; (refine some_step ?_); intro x hF; conv => whnf)
    | (revert hF; (refine look_step (eK := u8N) (eV := bN) u8N_inj ?hk ?hz ?hd ?he ?_); (case hk => exact fun _ => rfl); (case hz => exact rfl); (case hd => exact rfl); (case he => exact rfl); intro x hF; conv => whnf)
    | (revert hF; (refine put_step (eK := u8N) (eV := bN) u8N_inj ?hk ?hv ?hd ?he ?_); (case hk => exact fun _ => rfl); (case hv => exact rfl); (case hd => exact rfl); (case he => exact rfl); intro x hF; conv => whnf)
    | ((with_reducible first | refine k_blk_out ?hx ?_ | refine vc_condT ?hx ?_); (case hx => exact rfl))
    | ((refine row_all ?hn ?_); (case hn => first | exact rfl | (simp; done) | (simp; omega)); conv => whnf)
    | ((with_reducible refine le_step ?hn ?_); (case hn => first | exact rfl | assumption | omega); conv => whnf)
    | ((refine ⟨?hx, ?_⟩); (case hx => exact ⟨rfl, Nat.le_of_ble_eq_true rfl, rfl⟩); conv => whnf)
    | ((with_reducible refine ex_step ?_); conv => whnf)
    | ((with_reducible refine both_T ?hx ?_); (case hx => first | exact rfl | assumption | exact notT (by assumption)); conv => whnf)
    | ((with_reducible refine both_F ?hx ?_); (case hx => first | exact rfl | assumption | exact notF (by assumption)); conv => whnf)
    | (revert hF; (with_reducible refine ite_step ?_ ?_) <;> (intro hc hF; conv => whnf))
    | ((with_reducible refine vc_condF ?hx ?_); (case hx => exact rfl))
    | (show retD _ _ _ _ _ _; conv => whnf)
    | ((refine ⟨?hx, trivial⟩); (case hx => (cases hF; exact rfl)))
    | ((refine ⟨?hx, ?_⟩); (case hx => decide); conv => whnf)
    | with_reducible refine k_seq ?_
    | (have hF : (none : Option _) = some _ := hF; cases hF))
end
end Go.Vc
namespace Go.Vc
open Go.Proofs
set_option linter.unusedVariables false
set_option linter.unnecessarySimpa false
set_option linter.unusedSimpArgs false
section
variable {c : Ctx} {p nid : Nat} {a b : Code} {st : St} {K : Ex → St → Prop}
def f8_c24 (N : Nat) : Option (Bool) :=
 (f15 N ).bind fun x4 =>
 some (x4)
def Lf8_c24 (N : Nat) : Lp (Unit) Unit (Bool) := lp0 ⟨[], [], [], []⟩ (fun _ => []) (fun _ => []) (fun _ => f8_c24 N)
theorem Ef8_c24 {N} : (Lf8_c24 N).E () = f8_c24 N := rfl
def f8_c16 (a0 : A3u8N) (x1 : Int) (x3 : Int) (v11 : Int) (v12 : Int) (r15 : Int → Option (Bool)) : Option (Bool) :=
 r15 (W (v12 + (1 : Int)))
def Lf8_c16 (a0 : A3u8N) (x1 : Int) (x3 : Int) (v11 : Int) (v12 : Int) (r15 : Int → Option (Bool)) : Lp (Unit) Unit (Bool) := lp0 ⟨[3, 4, 5, 6, 9, 10, 11, 12], [], [], []⟩ (fun _ => [.dat (iN (W ((1 : Int) + (Int.tmod a0.e0 (8 : Int))))), .dat (iN (W ((1 : Int) + (Int.tmod a0.e1 (W ((1 : Int) + (Int.tmod a0.e0 (8 : Int)))))))), .dat (iN (W ((1 : Int) + (Int.tmod a0.e2 (W ((1 : Int) + (Int.tmod a0.e0 (8 : Int)))))))), .dat (iN x1), .dat (.v (.func (.func 40) #[] #[])), .dat (iN x3), .dat (iN v11), .dat (iN v12)]) (fun _ => []) (fun _ => f8_c16 a0 x1 x3 v11 v12 r15)
theorem Ef8_c16 {a0 x1 x3 v11 v12 r15} : (Lf8_c16 a0 x1 x3 v11 v12 r15).E () = f8_c16 a0 x1 x3 v11 v12 r15 := rfl
def f8_c22 (a0 : A3u8N) (N : Nat) (x1 : Int) (x3 : Int) (v11 : Int) (v12 : Int) (k1 : Option (Bool)) (v13 : ByteArray) : Option (Bool) :=
 (f38 N v13 (W ((1 : Int) + (Int.tmod a0.e1 (W ((1 : Int) + (Int.tmod a0.e0 (8 : Int)))))))).bind fun x5 =>
 bif x5 then ((f38 N v13 (W ((1 : Int) + (Int.tmod a0.e2 (W ((1 : Int) + (Int.tmod a0.e0 (8 : Int)))))))).bind fun x6 =>
 bif x6 then (bif decide ((W ((W ((W ((1 : Int) + (Int.tmod a0.e1 (W ((1 : Int) + (Int.tmod a0.e0 (8 : Int))))))) + (W ((1 : Int) + (Int.tmod a0.e2 (W ((1 : Int) + (Int.tmod a0.e0 (8 : Int))))))))) - x1)) ≤ (W ((1 : Int) + (Int.tmod a0.e0 (8 : Int))))) then ((f38 N v13 x1).bind fun x7 =>
 bif !x7 then (some (false))
 else ((f40 N v13).bind fun x8 =>
 bif decide (x3 < x8) then (some (false))
 else k1))
 else ((f40 N v13).bind fun x9 =>
 bif decide (x3 < x9) then (some (false))
 else k1))
 else k1)
 else k1
def Lf8_c22 (a0 : A3u8N) (N : Nat) (x1 : Int) (x3 : Int) (v11 : Int) (v12 : Int) (k1 : Option (Bool)) : Lp (ByteArray) Unit (Bool) := lp0 ⟨[3, 4, 5, 6, 9, 10, 11, 12, 13], [], [], []⟩ (fun v13 => [.dat (iN (W ((1 : Int) + (Int.tmod a0.e0 (8 : Int))))), .dat (iN (W ((1 : Int) + (Int.tmod a0.e1 (W ((1 : Int) + (Int.tmod a0.e0 (8 : Int)))))))), .dat (iN (W ((1 : Int) + (Int.tmod a0.e2 (W ((1 : Int) + (Int.tmod a0.e0 (8 : Int)))))))), .dat (iN x1), .dat (.v (.func (.func 40) #[] #[])), .dat (iN x3), .dat (iN v11), .dat (iN v12), .dat (strN v13)]) (fun _ => []) (fun v13 => f8_c22 a0 N x1 x3 v11 v12 k1 v13)
theorem Ef8_c22 {a0 N x1 x3 v11 v12 k1 v13} : (Lf8_c22 a0 N x1 x3 v11 v12 k1).E v13 = f8_c22 a0 N x1 x3 v11 v12 k1 v13 := rfl
def f8_19b (r19 : ByteArray → Int → Option (Bool)) (a0 : A3u8N) (x1 : Int) (x3 : Int) (v11 : Int) (v12 : Int) (k2 : ByteArray → Option (Bool)) (v13 : ByteArray) (v14 : Int) : Option (Bool) :=
 bif decide ((ByteArray.size v13 : Int) < (W ((1 : Int) + (Int.tmod a0.e0 (8 : Int))))) then ((subS (strC [97, 98, 99]) (Int.tmod v14 (3 : Int)) (ByteArray.size (strC [97, 98, 99]) : Int)).bind fun x10 =>
 (subS x10 0 (1 : Int)).bind fun x11 =>
 (addS v13 x11).bind fun x12 =>
 r19 x12 (W (Int.tdiv v14 (3 : Int))))
 else (k2 v13)
def f8_19 (a0 : A3u8N) (x1 : Int) (x3 : Int) (v11 : Int) (v12 : Int) (k2 : ByteArray → Option (Bool)) : Nat → ByteArray → Int → Option (Bool)
  | 0, _, _ => none
  | n + 1, v13, v14 => f8_19b (f8_19 a0 x1 x3 v11 v12 k2 n) a0 x1 x3 v11 v12 k2 v13 v14
def Lf8_19 (a0 : A3u8N) (x1 : Int) (x3 : Int) (v11 : Int) (v12 : Int) (k2 : ByteArray → Option (Bool)) : Lp (Nat × ByteArray × Int) Unit (Bool) := lp0 ⟨[3, 4, 5, 6, 9, 10, 11, 12, 13, 14], [], [], []⟩ (fun (_, v13, v14) => [.dat (iN (W ((1 : Int) + (Int.tmod a0.e0 (8 : Int))))), .dat (iN (W ((1 : Int) + (Int.tmod a0.e1 (W ((1 : Int) + (Int.tmod a0.e0 (8 : Int)))))))), .dat (iN (W ((1 : Int) + (Int.tmod a0.e2 (W ((1 : Int) + (Int.tmod a0.e0 (8 : Int)))))))), .dat (iN x1), .dat (.v (.func (.func 40) #[] #[])), .dat (iN x3), .dat (iN v11), .dat (iN v12), .dat (strN v13), .dat (iN v14)]) (fun (_, _, _) => []) (fun (n, v13, v14) => f8_19 a0 x1 x3 v11 v12 k2 n v13 v14)
theorem Ef8_19 {a0 x1 x3 v11 v12 k2 n v13 v14} : (Lf8_19 a0 x1 x3 v11 v12 k2).E (n, v13, v14) = f8_19 a0 x1 x3 v11 v12 k2 n v13 v14 := rfl
def f8_15b (r15 : Int → Option (Bool)) (a0 : A3u8N) (N : Nat) (x1 : Int) (x3 : Int) (v11 : Int) (k0 : Option (Bool)) (v12 : Int) : Option (Bool) :=
 bif decide (v12 < v11) then (joinK (f8_c16 a0 x1 x3 v11 v12 r15) fun k1 =>
 joinK (f8_c22 a0 N x1 x3 v11 v12 k1) fun k2 =>
 f8_19 a0 x1 x3 v11 v12 k2 N emptyS v12)
 else k0
def f8_15 (a0 : A3u8N) (N : Nat) (x1 : Int) (x3 : Int) (v11 : Int) (k0 : Option (Bool)) : Nat → Int → Option (Bool)
  | 0, _ => none
  | n + 1, v12 => f8_15b (f8_15 a0 N x1 x3 v11 k0 n) a0 N x1 x3 v11 k0 v12
def Lf8_15 (a0 : A3u8N) (N : Nat) (x1 : Int) (x3 : Int) (v11 : Int) (k0 : Option (Bool)) : Lp (Nat × Int) Unit (Bool) := lp0 ⟨[3, 4, 5, 6, 9, 10, 11, 12], [], [], []⟩ (fun (_, v12) => [.dat (iN (W ((1 : Int) + (Int.tmod a0.e0 (8 : Int))))), .dat (iN (W ((1 : Int) + (Int.tmod a0.e1 (W ((1 : Int) + (Int.tmod a0.e0 (8 : Int)))))))), .dat (iN (W ((1 : Int) + (Int.tmod a0.e2 (W ((1 : Int) + (Int.tmod a0.e0 (8 : Int)))))))), .dat (iN x1), .dat (.v (.func (.func 40) #[] #[])), .dat (iN x3), .dat (iN v11), .dat (iN v12)]) (fun (_, _) => []) (fun (n, v12) => f8_15 a0 N x1 x3 v11 k0 n v12)
theorem Ef8_15 {a0 N x1 x3 v11 k0 n v12} : (Lf8_15 a0 N x1 x3 v11 k0).E (n, v12) = f8_15 a0 N x1 x3 v11 k0 n v12 := rfl
def f8_c14 (a0 : A3u8N) (N : Nat) (x1 : Int) (x3 : Int) (v11 : Int) : Option (Bool) :=
 joinK (f8_c24 N) fun k0 =>
 f8_15 a0 N x1 x3 v11 k0 N (0 : Int)
def Lf8_c14 (a0 : A3u8N) (N : Nat) (x1 : Int) (x3 : Int) : Lp (Int) Unit (Bool) := lp0 ⟨[3, 4, 5, 6, 9, 10, 11], [], [], []⟩ (fun v11 => [.dat (iN (W ((1 : Int) + (Int.tmod a0.e0 (8 : Int))))), .dat (iN (W ((1 : Int) + (Int.tmod a0.e1 (W ((1 : Int) + (Int.tmod a0.e0 (8 : Int)))))))), .dat (iN (W ((1 : Int) + (Int.tmod a0.e2 (W ((1 : Int) + (Int.tmod a0.e0 (8 : Int)))))))), .dat (iN x1), .dat (.v (.func (.func 40) #[] #[])), .dat (iN x3), .dat (iN v11)]) (fun _ => []) (fun v11 => f8_c14 a0 N x1 x3 v11)
theorem Ef8_c14 {a0 N x1 x3 v11} : (Lf8_c14 a0 N x1 x3).E v11 = f8_c14 a0 N x1 x3 v11 := rfl
def f8_11b (r11 : Int → Int → Option (Bool)) (a0 : A3u8N) (x1 : Int) (x3 : Int) (k3 : Int → Option (Bool)) (v11 : Int) (v54 : Int) : Option (Bool) :=
 bif decide (v54 < (W ((1 : Int) + (Int.tmod a0.e0 (8 : Int))))) then (r11 (W (v11 * (3 : Int))) (W (v54 + (1 : Int))))
 else (k3 v11)
def f8_11 (a0 : A3u8N) (x1 : Int) (x3 : Int) (k3 : Int → Option (Bool)) : Nat → Int → Int → Option (Bool)
  | 0, _, _ => none
  | n + 1, v11, v54 => f8_11b (f8_11 a0 x1 x3 k3 n) a0 x1 x3 k3 v11 v54
def Lf8_11 (a0 : A3u8N) (x1 : Int) (x3 : Int) (k3 : Int → Option (Bool)) : Lp (Nat × Int × Int) Unit (Bool) := lp0 ⟨[3, 4, 5, 6, 9, 10, 11, 53, 54], [], [], []⟩ (fun (_, v11, v54) => [.dat (iN (W ((1 : Int) + (Int.tmod a0.e0 (8 : Int))))), .dat (iN (W ((1 : Int) + (Int.tmod a0.e1 (W ((1 : Int) + (Int.tmod a0.e0 (8 : Int)))))))), .dat (iN (W ((1 : Int) + (Int.tmod a0.e2 (W ((1 : Int) + (Int.tmod a0.e0 (8 : Int)))))))), .dat (iN x1), .dat (.v (.func (.func 40) #[] #[])), .dat (iN x3), .dat (iN v11), .dat (iN (W ((1 : Int) + (Int.tmod a0.e0 (8 : Int))))), .dat (iN v54)]) (fun (_, _, _) => []) (fun (n, v11, v54) => f8_11 a0 x1 x3 k3 n v11 v54)
theorem Ef8_11 {a0 x1 x3 k3 n v11 v54} : (Lf8_11 a0 x1 x3 k3).E (n, v11, v54) = f8_11 a0 x1 x3 k3 n v11 v54 := rfl
def f8 (N : Nat) (a0 : A3u8N) : Option (Bool) :=
 (chk (decide ((W ((1 : Int) + (Int.tmod a0.e0 (8 : Int)))) ≠ 0))).bind fun _ =>
 (chk (decide ((W ((1 : Int) + (Int.tmod a0.e0 (8 : Int)))) ≠ 0))).bind fun _ =>
 (f37 N (W ((1 : Int) + (Int.tmod a0.e1 (W ((1 : Int) + (Int.tmod a0.e0 (8 : Int))))))) (W ((1 : Int) + (Int.tmod a0.e2 (W ((1 : Int) + (Int.tmod a0.e0 (8 : Int)))))))).bind fun x1 =>
 (f25 N (W ((1 : Int) + (Int.tmod a0.e1 (W ((1 : Int) + (Int.tmod a0.e0 (8 : Int))))))) (W ((1 : Int) + (Int.tmod a0.e2 (W ((1 : Int) + (Int.tmod a0.e0 (8 : Int))))))) (W ((1 : Int) + (Int.tmod a0.e0 (8 : Int))))).bind fun x2 =>
 bif decide (¬ x2.2 = (0 : Int)) then (some (false))
 else (bif decide (¬ (ByteArray.size x2.1 : Int) = (W ((1 : Int) + (Int.tmod a0.e0 (8 : Int))))) then (some (false))
 else ((f40 N x2.1).bind fun x3 =>
 joinK (f8_c14 a0 N x1 x3) fun k3 =>
 f8_11 a0 x1 x3 k3 N (1 : Int) (0 : Int)))
def G8 (ds : List D) (d : D) : Prop := ∃ (N : Nat) (a0 : A3u8N) (r : Bool), ds = [A3u8N.d a0] ∧ f8 N a0 = some r ∧ d = bN r
set_option maxRecDepth 20000 in
set_option maxHeartbeats 4000000 in
theorem P8 : PureOK Try.prog 8 G8 := by
  refine pure_of_vc (c := mkCtx tyTree [(40, true, lendPg [[0]] G40), (38, true, lendPg [[0], [0]] G38), (37, true, lendPg [[0], [0]] G37), (25, true, lendPg [[0], [0], [0]] G25), (15, true, lendPg [] G15)]) rfl tyOK (ctx_lend (callable Try.func40 rfl rfl) P40 (ctx_lend (callable Try.func38 rfl rfl) P38 (ctx_lend (callable Try.func37 rfl rfl) P37 (ctx_lend (callable Try.func25 rfl rfl) P25 (ctx_lend (callable Try.func15 rfl rfl) P15 (ctx_nil)))))) [[0]] 1 Try.func8 rfl rfl (by decide) (by kernel_rfl) ?_
  rintro ds d ⟨N, a0, r, rfl, hF, rfl⟩ hok
  clear hok
  refine ⟨rfl, ?_⟩
  show vc _ _ _ _ ⟨[(0, .dat (A3u8N.d a0))], []⟩ _
  unfold f8 at hF
  repeat' (first
    | ((with_reducible first | refine q0 _ _ ?_ | refine q1 _ _ _ _ ?_ | refine q2 _ _ _ ?_); clear Q q0 q1 q2)
    | ((with_reducible first | refine seq_op ?hx (fun Q q0 q1 q2 => ?_) | refine draw_op ?hx (fun Q q0 q1 q2 => ?_)); (case hx => exact rfl); conv => whnf)
    | ((with_reducible first | refine seq_off ?hx ?_ | refine seq_off0 ?hx ?_ | refine draw_off ?hx ?_ | refine draw_off0 ?hx ?_ | refine k_blk_out ?hx ?_ | refine vc_condT ?hx ?_); (case hx => exact rfl))
    | ((with_reducible refine seq_id ?_); (first | ((first | refine seq_opK rfl ?hy (fun Q q0 q1 q2 => ?_) | refine seq_opK0 rfl ?hy (fun Q q0 q1 q2 => ?_)); (case hy => first | assumption | exact notT (by assumption) | exact rfl); conv => whnf) | ((first | refine seq_offK rfl ?hy ?_ | refine seq_offK0 rfl ?hy ?_); (case hy => first | assumption | exact notF (by assumption) | exact rfl)) | (revert hF; (with_reducible first | refine seq_opF ?hx ?_ ?_ | refine seq_opF0 ?hx ?_ ?_); (case hx => exact rfl); (intro hc hF Q q0 q1 q2; conv => whnf); rotate_left; (intro hc hF); rotate_right) | (revert hF; (with_reducible first | refine seq_opN ?hx ?_ ?_ | refine seq_opN0 ?hx ?_ ?_); (case hx => exact rfl); (intro hc hF); rotate_left; (intro hc hF Q q0 q1 q2; conv => whnf); rotate_right)))
    | ((with_reducible refine cond_id ?_); (first | ((refine condKT rfl ?hy ?_); (case hy => first | assumption | exact notT (by assumption) | exact rfl)) | ((refine condKF rfl ?hy ?_); (case hy => first | assumption | exact notF (by assumption) | exact rfl)) | (revert hF; (with_reducible refine condF ?hx ?_ ?_); (case hx => exact rfl); all_goals (intro hc hF))))
    | ((with_reducible refine seq_nil ?_); (first | ((with_reducible refine hR _ ?_); clear R hR) | ((with_reducible refine hL _ ?_); clear L hL)))
    | ((with_reducible refine draw_nil ?_); (with_reducible refine hR _ _ ?hx ?_); (case hx => kernel_rfl); (first | clear R hR | clear hR))
    | ((with_reducible first | refine int_step ?_); conv => whnf)
    | (with_reducible first | refine vc_block ?_ | refine vc_skip ?_ | refine vc_ret ?_ | refine vc_exit ?_ | refine vc_region (fun R hR => ?_) | refine k_seq_ret ?_ | refine k_seq_exit ?_ | refine k_blk ?_ | refine k_blk_ret ?_ | refine k_blk_here ?_ | refine k_loop_ret ?_ | refine k_loop_exit ?_)
    | ((with_reducible refine vc_seqN [24, 16, 22, 14] ?hx ?_); (case hx => exact rfl))
    | ((with_reducible refine vc_draw ?hx (fun R hR => ?_)); (case hx => exact rfl))
    | (revert hF; (refine Lp.cut1 Lf8_c24 f8_c24 24 rfl rfl ?_ ?_); (intro hF); rotate_left; (rintro _ hF; dsimp only [Lf8_c24] at hF; unfold f8_c24 at hF); rotate_right)
    | exact Lp.head Ef8_c24 hF () ⟨_, rfl, rfl, rfl, rfl⟩ rfl
    | (revert hF; (refine Lp.cut6 Lf8_c16 f8_c16 16 rfl rfl ?_ ?_); (intro hF); rotate_left; (rintro _ hF; dsimp only [Lf8_c16] at hF; unfold f8_c16 at hF); rotate_right)
    | exact Lp.head Ef8_c16 hF () ⟨_, rfl, rfl, rfl, rfl⟩ rfl
    | (revert hF; (refine Lp.cut7 Lf8_c22 f8_c22 22 rfl rfl ?_ ?_); (intro hF); rotate_left; (rintro v13 hF; dsimp only [Lf8_c22] at hF; unfold f8_c22 at hF); rotate_right)
    | exact Lp.head Ef8_c22 hF () ⟨_, rfl, rfl, rfl, rfl⟩ rfl
    | (revert hF; (refine Lp.loop Ef8_19 () rfl ⟨_, rfl, rfl, rfl, rfl⟩ rfl (fun _ => rfl) ?_); rintro n ⟨v13, v14⟩ hF; dsimp only [Lf8_19, f8_19] at hF; unfold f8_19b at hF)
    | exact Lp.back Ef8_19 hF () ⟨_, rfl, rfl, rfl, rfl⟩ rfl
    | (revert hF; (refine Lp.loop Ef8_15 () rfl ⟨_, rfl, rfl, rfl, rfl⟩ rfl (fun _ => rfl) ?_); rintro n v12 hF; dsimp only [Lf8_15, f8_15] at hF; unfold f8_15b at hF)
    | exact Lp.back Ef8_15 hF () ⟨_, rfl, rfl, rfl, rfl⟩ rfl
    | (revert hF; (refine Lp.cut4 Lf8_c14 f8_c14 14 rfl rfl ?_ ?_); (intro hF); rotate_left; (rintro v11 hF; dsimp only [Lf8_c14] at hF; unfold f8_c14 at hF); rotate_right)
    | exact Lp.head Ef8_c14 hF () ⟨_, rfl, rfl, rfl, rfl⟩ rfl
    | (revert hF; (refine Lp.loop Ef8_11 () rfl ⟨_, rfl, rfl, rfl, rfl⟩ rfl (fun _ => rfl) ?_); rintro n ⟨v11, v54⟩ hF; dsimp only [Lf8_11, f8_11] at hF; unfold f8_11b at hF)
    | exact Lp.back Ef8_11 hF () ⟨_, rfl, rfl, rfl, rfl⟩ rfl
    | (revert hF; (with_reducible refine G15.lend ?hx ?_); (case hx => exact rfl); intro v hF; conv => whnf)
    | (revert hF; (with_reducible refine G25.lend ?hx ?_); (case hx => exact rfl); intro v hF; conv => whnf)
    | (revert hF; (with_reducible refine G37.lend ?hx ?_); (case hx => exact rfl); intro v hF; conv => whnf)
    | (revert hF; (with_reducible refine G38.lend ?hx ?_); (case hx => exact rfl); intro v hF; conv => whnf)
    | (revert hF; (with_reducible refine G40.lend ?hx ?_); (case hx => exact rfl); intro v hF; conv => whnf)
    | (revert hF; (refine subS_step ?_); intro x hF; conv => whnf)
    | (revert hF; (refine addS_step ?_); intro x hF; conv => whnf)
    | ((refine row_all ?hn ?_); (case hn => first | exact rfl | (simp; done) | (simp; omega)); conv => whnf)
    | ((with_reducible refine le_step ?hn ?_); (case hn => first | exact rfl | assumption | omega); conv => whnf)
    | ((refine ⟨?hx, ?_⟩); (case hx => exact ⟨rfl, Nat.le_of_ble_eq_true rfl, rfl⟩); conv => whnf)
    | ((with_reducible refine ex_step ?_); conv => whnf)
    | ((with_reducible have hG := chk_fact hF); clear hF; (refine ⟨?hx, ?_⟩); (case hx => (first | exact of_decide_eq_true hG.1 | exact hG.1)); have hF := hG.2; clear hG; conv => whnf)
    | ((with_reducible refine both_T ?hx ?_); (case hx => first | exact rfl | assumption | exact notT (by assumption)); conv => whnf)
    | ((with_reducible refine both_F ?hx ?_); (case hx => first | exact rfl | assumption | exact notF (by assumption)); conv => whnf)
    | (revert hF; (with_reducible refine ite_step ?_ ?_) <;> (intro hc hF; conv => whnf))
    | ((with_reducible refine vc_condF ?hx ?_); (case hx => exact rfl))
    | (show retD _ _ _ _ _ _; conv => whnf)
    | ((refine ⟨?hx, trivial⟩); (case hx => (cases hF; exact rfl)))
    | ((refine ⟨?hx, ?_⟩); (case hx => decide); conv => whnf)
    | with_reducible refine k_seq ?_
    | (have hF : (none : Option _) = some _ := hF; cases hF))
end
end Go.Vc
namespace Go.Vc
set_option linter.unusedVariables false
set_option linter.unnecessarySimpa false
set_option linter.unusedSimpArgs false
section
variable {α β σ : Type}
theorem iffD {α : Type} {p q : Prop} {dp : Decidable p} {dq : Decidable q} {a b : α} (h : p ↔ q) : @ite α p dp a b = @ite α q dq a b := by
  by_cases hp : p
  · rw [if_pos hp, if_pos (h.1 hp)]
  · rw [if_neg hp, if_neg fun hq => hp (h.2 hq)]
end
end Go.Vc
namespace Go.Vc
open Go.Proofs
set_option linter.unusedVariables false
set_option linter.unnecessarySimpa false
set_option linter.unusedSimpArgs false
end Go.Vc
namespace Go.Vc
open Go.Proofs
set_option linter.unusedVariables false
set_option linter.unnecessarySimpa false
set_option linter.unusedSimpArgs false
end Go.Vc
namespace Go.Vc
set_option linter.unusedVariables false
set_option linter.unnecessarySimpa false
set_option linter.unusedSimpArgs false
set_option linter.unusedSimpArgs false
section
variable {l m : List UInt8}
@[simp] theorem strC_size : (strC l).size = l.length := by simp [strC, ByteArray.size]
@[simp] theorem strC_toList : (strC l).data.toList = l := by simp [strC]
theorem strC_inj : strC l = strC m ↔ l = m := by
  constructor
  · intro h
    have := congrArg (fun s : ByteArray => s.data.toList) h
    simpa using this
  · rintro rfl; rfl
theorem emptyS_eq : emptyS = strC [] := rfl
theorem append_L : strC l ++ strC m = strC (l ++ m) := by
  have h : ∀ s : ByteArray, s = strC s.data.toList := fun s => by cases s; simp [strC]
  rw [h (strC l ++ strC m)]
  simp [strC]
theorem addS_L (h : l.length + m.length ≤ 1000000) : addS (strC l) (strC m) = some (strC (l ++ m)) := by
  unfold addS
  rw [if_pos (by simp [maxLen]; omega), append_L]
theorem byteAt_L {i : Nat} (h : i < l.length) : byteAt (strC l) i = (l[i].toNat : Int) := by
  unfold byteAt
  simp [h]
theorem idxS_L {i : Nat} (h : i < l.length) : idxS (strC l) (i : Int) = some (l[i].toNat : Int) := by
  unfold idxS
  rw [if_pos ⟨by omega, by simp; omega⟩]
  simp only [Int.toNat_natCast, byteAt_L h]
theorem toNat_inj {a b : UInt8} : (a.toNat : Int) = (b.toNat : Int) ↔ a = b := by
  constructor
  · intro h; exact UInt8.toNat_inj.1 (by omega)
  · rintro rfl; rfl
theorem rune_lo {p : Nat} (h : p < l.length) (hb : l[p].toNat < 128) : runeAt (strC l) p = ((l[p].toNat : Int), p + 1) := by
  have hs : p < (strC l).size := by simpa using h
  have he : (strC l)[p] = l[p] := by
    have h1 : byteAt (strC l) p = _ := (str_get (strC l) p hs).2.symm
    have h2 := byteAt_L h
    exact toNat_inj.1 (h1.symm.trans h2)
  unfold runeAt
  rw [decode_ascii (strC l) p hs (by rw [he]; omega)]
  simp only [he]
  rfl
end
def okb (b : UInt8) : Bool := decide (97 ≤ b.toNat) && decide (b.toNat ≤ 122)
def chk8 (l : List UInt8) : Int := if l = [] then 1 else if 24 < l.length then 19 else if l.all okb then 0 else 9
theorem chk8_zero {l : List UInt8} : chk8 l = 0 ↔ l ≠ [] ∧ l.length ≤ 24 ∧ l.all okb = true := by
  unfold chk8
  by_cases h : l = [] <;> by_cases h2 : 24 < l.length <;> by_cases h3 : l.all okb = true <;> simp [h, h2, h3] <;> omega
def isP (l : List UInt8) (p : Nat) : Bool := (l.drop p).isPrefixOf l
theorem isP_iff {l : List UInt8} {p : Nat} : isP l p = true ↔ ∀ i, (h : i + p < l.length) → l[i] = l[i + p] := by
  unfold isP
  rw [List.isPrefixOf_iff_prefix, List.prefix_iff_getElem?]
  constructor
  · intro h i hi
    have := h i (by simp; omega)
    rw [List.getElem_drop] at this
    rw [List.getElem?_eq_getElem (by omega)] at this
    have := Option.some.inj this
    rw [this]
    congr 1
    omega
  · intro h i hi
    simp at hi
    rw [List.getElem?_eq_getElem (by omega), h i (by omega), List.getElem_drop]
    congr 2
    omega
end Go.Vc
namespace Go.Vc
open Go.Proofs
set_option linter.unusedVariables false
set_option linter.unnecessarySimpa false
set_option linter.unusedSimpArgs false
end Go.Vc
namespace Go.Vc
open Go.Proofs
set_option linter.unusedVariables false
set_option linter.unnecessarySimpa false
set_option linter.unusedSimpArgs false
end Go.Vc
namespace Go.Vc
open Go.Proofs
set_option linter.unusedVariables false
set_option linter.unnecessarySimpa false
set_option linter.unusedSimpArgs false
end Go.Vc
namespace Go.Vc
open Go.Proofs
set_option linter.unusedVariables false
set_option linter.unnecessarySimpa false
set_option linter.unusedSimpArgs false
end Go.Vc
namespace Go.Vc
open Go.Proofs
set_option linter.unusedVariables false
set_option linter.unnecessarySimpa false
set_option linter.unusedSimpArgs false
set_option linter.unusedSimpArgs false
end Go.Vc
namespace Go.Vc
open Go.Proofs
set_option linter.unusedVariables false
set_option linter.unnecessarySimpa false
set_option linter.unusedSimpArgs false
set_option linter.unusedSimpArgs false
end Go.Vc
namespace Go.Vc
open Go.Proofs
set_option linter.unusedVariables false
set_option linter.unnecessarySimpa false
set_option linter.unusedSimpArgs false
end Go.Vc
namespace Go.Vc
open Go.Proofs
set_option linter.unusedVariables false
set_option linter.unnecessarySimpa false
set_option linter.unusedSimpArgs false
end Go.Vc
namespace Go.Vc
open Go.Proofs
set_option linter.unusedVariables false
set_option linter.unnecessarySimpa false
set_option linter.unusedSimpArgs false
set_option linter.unusedSimpArgs false
def Per {α : Type} (f : Nat → α) (n p : Nat) : Prop := ∀ i, i + p < n → f i = f (i + p)
section
variable {α : Type} {f : Nat → α}
theorem Per.mul {n p : Nat} (h : Per f n p) : ∀ m, Per f n (m * p) := by
  intro m
  induction m with
  | zero => intro i hi; simp
  | succ m ih =>
    intro i hi
    rw [Nat.succ_mul] at hi ⊢
    rw [ih i (by omega), h (i + m * p) (by omega)]
    congr 1
    omega
theorem Per.dvd {n p q : Nat} (h : Per f n p) (hd : p ∣ q) : Per f n q := by
  obtain ⟨m, rfl⟩ := hd
  rw [Nat.mul_comm]
  exact h.mul m
theorem Per.less {n m p : Nat} (h : Per f n p) (hm : m ≤ n) : Per f m p := fun i hi => h i (by omega)
theorem Per.grow {n p g : Nat} (hg : 1 ≤ g) (hd : g ∣ p) (hp : 1 ≤ p) (hn : 2 * p ≤ n) (h : Per f n p) (h' : Per f (n - p) g) : Per f n g := by
  have hgp : g ≤ p := Nat.le_of_dvd hp hd
  intro i hi
  by_cases h1 : i + g < n - p
  · exact h' i h1
  · have e1 : f (i + g) = f (i + g - p) := by
      have := h (i + g - p) (by omega)
      rw [this]; congr 1; omega
    rw [e1]
    by_cases h2 : p ≤ i
    · have e2 : f i = f (i - p) := by
        have := h (i - p) (by omega)
        rw [this]; congr 1; omega
      rw [e2, h' (i - p) (by omega)]
      congr 1; omega
    · have hd2 : g ∣ p - g := Nat.dvd_sub hd (Nat.dvd_refl g)
      have := h'.dvd hd2 (i + g - p) (by omega)
      rw [this]
      congr 1; omega
theorem fine_wilf : ∀ (s n p q : Nat), p + q ≤ s → 1 ≤ p → 1 ≤ q → p + q - Nat.gcd p q ≤ n → Per f n p → Per f n q → Per f n (Nat.gcd p q) := by
  intro s
  induction s with
  | zero => intro n p q h h1 h2; omega
  | succ s ih =>
    intro n p q hs hp hq hn h1 h2
    have core : ∀ p q : Nat, p + q ≤ s + 1 → 1 ≤ p → p < q → p + q - Nat.gcd p q ≤ n → Per f n p → Per f n q → Per f n (Nat.gcd p q) := by
      intro p q hs hp hpq hn h1 h2
      have hg : Nat.gcd p (q - p) = Nat.gcd p q := by
        rw [Nat.gcd_comm, Nat.gcd_comm p q]
        have := Nat.gcd_sub_self_left (m := p) (n := q) (Nat.le_of_lt hpq)
        exact this
      have hgd : Nat.gcd p q ∣ q - p := by rw [← hg]; exact Nat.gcd_dvd_right _ _
      have hgp : Nat.gcd p q ∣ p := Nat.gcd_dvd_left _ _
      have hgle : Nat.gcd p q ≤ q - p := Nat.le_of_dvd (by omega) hgd
      have hg1 : 1 ≤ Nat.gcd p q := Nat.gcd_pos_of_pos_left _ hp
      have hper : Per f (n - p) (q - p) := by
        intro i hi
        have e1 := h2 i (by omega)
        have e2 := h1 (i + (q - p)) (by omega)
        rw [e1, e2]; congr 1; omega
      have := ih (n - p) p (q - p) (by omega) hp (by omega) (by rw [hg]; omega) (h1.less (by omega)) hper
      rw [hg] at this
      exact Per.grow hg1 hgp hp (by omega) h1 this
    rcases Nat.lt_trichotomy p q with h | h | h
    · exact core p q hs hp h hn h1 h2
    · subst h; rw [Nat.gcd_self]; exact h1
    · rw [Nat.gcd_comm]
      exact core q p (by omega) hq h (by rw [Nat.gcd_comm, Nat.add_comm]; exact hn) h2 h1
end
theorem isP_per {l : List UInt8} {p : Nat} : isP l p = true ↔ Per (fun i => l[i]?) l.length p := by
  rw [isP_iff]
  constructor
  · intro h i hi
    simp only
    rw [List.getElem?_eq_getElem (by omega), List.getElem?_eq_getElem hi, h i hi]
  · intro h i hi
    have := h i hi
    simp only at this
    rw [List.getElem?_eq_getElem (by omega), List.getElem?_eq_getElem hi] at this
    exact Option.some.inj this
open Classical in
theorem f38_loop {l : List UInt8} {p : Nat} {k0 : Option Bool} (hl : l.length ≤ 1000) (ha : ∀ (i : Nat) (h : i < l.length), l[i].toNat < 128) :
    ∀ (n i : Nat), i ≤ l.length → l.length - i < n → f38_2 (strC l) (p : Int) k0 n i = if (∀ j, i ≤ j → p ≤ j → (h : j < l.length) → l[j - p] = l[j]) then k0 else some false := by
  intro n
  induction n with
  | zero => intro i _ h; omega
  | succ n ih =>
    intro i hi hn
    unfold f38_2 f38_2b
    by_cases h : i < l.length
    · simp only [strC_size, h, decide_true, cond_true, Option.bind_some]
      rw [rune_lo h (ha i h)]
      by_cases hp : p ≤ i
      · simp only [show (p : Int) ≤ (i : Int) by omega, decide_true, cond_true]
        rw [show ((i : Int) - (p : Int)) = ((i - p : Nat) : Int) by omega, W_of (by omega) (by omega), idxS_L h, idxS_L (show i - p < l.length by omega)]
        simp only [Option.bind_some, toNat_inj]
        by_cases he : l[i] = l[i - p]
        · simp only [he, not_true, decide_false, cond_false]
          rw [ih (i + 1) (by omega) (by omega)]
          refine iffD ?_
          constructor
          · intro hh j h1 h2 h3
            by_cases hj : j = i
            · subst hj; exact he.symm
            · exact hh j (by omega) h2 h3
          · intro hh j h1 h2 h3
            exact hh j (by omega) h2 h3
        · simp only [he, not_false_eq_true, decide_true, cond_true]
          rw [if_neg fun hh => he (hh i (Nat.le_refl _) hp h).symm]
      · simp only [show ¬ (p : Int) ≤ (i : Int) by omega, decide_false, cond_false]
        rw [ih (i + 1) (by omega) (by omega)]
        refine iffD ?_
        constructor
        · intro hh j h1 h2 h3
          exact hh j (by omega) h2 h3
        · intro hh j h1 h2 h3
          exact hh j (by omega) h2 h3
    · simp only [strC_size, h, decide_false, cond_false]
      rw [if_pos fun j h1 _ h3 => by omega]
def Abc (l : List UInt8) : Prop := ∀ b ∈ l, b = 97 ∨ b = 98 ∨ b = 99
theorem all_lo {l : List UInt8} (h : l.all okb = true) (i : Nat) (hi : i < l.length) : l[i].toNat < 128 := by
  have := List.all_eq_true.1 h l[i] (List.getElem_mem hi)
  simp [okb] at this
  omega
theorem goes_iff {l : List UInt8} {p : Nat} : (∀ j, 0 ≤ j → p ≤ j → (h : j < l.length) → l[j - p] = l[j]) ↔ isP l p = true := by
  rw [isP_iff]
  constructor
  · intro h i hi
    have := h (i + p) (by omega) (by omega) hi
    simp only [Nat.add_sub_cancel] at this
    exact this
  · intro h j _ h2 h3
    have := h (j - p) (by omega)
    rw [this]
    congr 1; omega
open Classical in
theorem f38_eq {l : List UInt8} {p N : Nat} (hl : l.length ≤ 100) (ha : l.all okb = true) (hN : l.length < N) : f38 N (strC l) (p : Int) = some (decide (1 ≤ p ∧ p ≤ l.length) && isP l p) := by
  unfold f38
  simp only [joinK]
  rw [f38_loop (by omega) (all_lo ha) N 0 (by omega) (by omega), iffD (dq := instDecidableEqBool _ _) goes_iff]
  by_cases h : isP l p = true
  · rw [if_pos h, h]
    unfold f38_c6
    by_cases h1 : 1 ≤ p
    · simp [h1, show (1 : Int) ≤ (p : Int) by omega]
    · simp [h1, show ¬ (1 : Int) ≤ (p : Int) by omega]
  · rw [if_neg h]
    simp only [Bool.not_eq_true] at h
    rw [h]; simp
theorem abc_sub {x : Int} (h : 0 ≤ x) : ∃ b : UInt8, (b = 97 ∨ b = 98 ∨ b = 99) ∧ ((subS (strC [97, 98, 99]) (Int.tmod x 3) ((strC [97, 98, 99]).size : Int)).bind fun y => subS y 0 1) = some (strC [b]) := by
  obtain ⟨m, rfl⟩ : ∃ m : Nat, x = m := ⟨x.toNat, by omega⟩
  have e : Int.tmod (m : Int) 3 = ((m % 3 : Nat) : Int) := rfl
  rw [e]
  have h3 : m % 3 < 3 := Nat.mod_lt _ (by omega)
  rcases (by omega : m % 3 = 0 ∨ m % 3 = 1 ∨ m % 3 = 2) with h | h | h <;> rw [h]
  · exact ⟨97, by simp, rfl⟩
  · exact ⟨98, by simp, rfl⟩
  · exact ⟨99, by simp, rfl⟩
theorem bind2 {α β γ : Type} {x : Option α} {f : α → Option β} {g : β → Option γ} {y : β} (h : x.bind f = some y) : (x.bind fun a => (f a).bind g) = g y := by
  cases x with
  | none => cases h
  | some a =>
    simp only [Option.bind_some] at h ⊢
    rw [h]; rfl
theorem Abc.snoc {l : List UInt8} {b : UInt8} (h : Abc l) (hb : b = 97 ∨ b = 98 ∨ b = 99) : Abc (l ++ [b]) := by
  intro x hx
  rcases List.mem_append.1 hx with hx | hx
  · exact h x hx
  · rw [List.mem_singleton.1 hx]; exact hb
theorem Abc.ok {l : List UInt8} (h : Abc l) : l.all okb = true := by
  rw [List.all_eq_true]
  intro b hb
  rcases h b hb with rfl | rfl | rfl <;> decide
theorem Abc.chk {l : List UInt8} (h : Abc l) (h1 : 1 ≤ l.length) (h2 : l.length ≤ 24) : chk8 l = 0 :=
  chk8_zero.2 ⟨by rintro rfl; simp at h1, h2, h.ok⟩
end Go.Vc
namespace Go.Vc
open Go.Proofs
set_option linter.unusedVariables false
set_option linter.unnecessarySimpa false
set_option linter.unusedSimpArgs false
set_option linter.unusedSimpArgs false
def Nb (n p q b c : Nat) : Prop := c < n ∧ (c = b + p ∨ b = c + p ∨ c = b + q ∨ b = c + q)
inductive Conn (n p q : Nat) (a : Nat) : Nat → Prop
  | refl : Conn n p q a a
  | step {b c : Nat} : Conn n p q a b → Nb n p q b c → Conn n p q a c
section
variable {n p q : Nat}
theorem Nb.symm {b c : Nat} (hb : b < n) (h : Nb n p q b c) : Nb n p q c b := ⟨hb, by rcases h.2 with h | h | h | h <;> simp [h]⟩
theorem Conn.trans {a b c : Nat} (h1 : Conn n p q a b) (h2 : Conn n p q b c) : Conn n p q a c := by
  induction h2 with
  | refl => exact h1
  | step _ hn ih => exact ih.step hn
theorem Conn.lt {a b : Nat} (h : Conn n p q a b) (ha : a < n) : b < n := by
  cases h with
  | refl => exact ha
  | step _ hn => exact hn.1
theorem Conn.symm {a b : Nat} (h : Conn n p q a b) (ha : a < n) : Conn n p q b a := by
  induction h with
  | refl => exact .refl
  | step h1 hn ih => exact (Conn.refl.step (hn.symm (h1.lt ha))).trans ih
theorem Conn.keep {α : Type} {f : Nat → α} (h : ∀ b c, b < n → Nb n p q b c → f b = f c) {a b : Nat} (ha : a < n) (hc : Conn n p q a b) : f a = f b := by
  induction hc with
  | refl => rfl
  | step h1 hn ih => exact ih.trans (h _ _ (h1.lt ha) hn)
theorem least_ex (P : Nat → Prop) : ∀ k, P k → ∃ m, m ≤ k ∧ P m ∧ ∀ j, j < m → ¬ P j := by
  intro k
  induction k using Nat.strongRecOn with
  | _ k ih =>
    intro hk
    by_cases h : ∃ j, j < k ∧ P j
    · obtain ⟨j, h1, h2⟩ := h
      obtain ⟨m, m1, m2, m3⟩ := ih j h1 h2
      exact ⟨m, by omega, m2, m3⟩
    · exact ⟨k, Nat.le_refl _, hk, fun j hj hp => h ⟨j, hj, hp⟩⟩
noncomputable def fstC (n p q k : Nat) : Nat := Classical.choose (least_ex (fun j => Conn n p q j k) k .refl)
theorem fstC_spec (n p q k : Nat) : fstC n p q k ≤ k ∧ Conn n p q (fstC n p q k) k ∧ ∀ j, j < fstC n p q k → ¬ Conn n p q j k := Classical.choose_spec (least_ex (fun j => Conn n p q j k) k .refl)
theorem fstC_le {j k : Nat} (h : Conn n p q j k) : fstC n p q k ≤ j := by
  by_cases hh : fstC n p q k ≤ j
  · exact hh
  · exact absurd h ((fstC_spec n p q k).2.2 j (by omega))
theorem fstC_eq {j k : Nat} (hj : j < n) (hk : k < n) : fstC n p q j = fstC n p q k ↔ Conn n p q j k := by
  obtain ⟨a1, a2, a3⟩ := fstC_spec n p q j
  obtain ⟨b1, b2, b3⟩ := fstC_spec n p q k
  constructor
  · intro h
    rw [h] at a2
    exact (a2.symm (by omega)).trans b2
  · intro h
    have := fstC_le (a2.trans h)
    have := fstC_le (b2.trans (h.symm hj))
    omega
theorem fstC_idem {k : Nat} (hk : k < n) : fstC n p q (fstC n p q k) = fstC n p q k := by
  obtain ⟨a1, a2, a3⟩ := fstC_spec n p q k
  exact (fstC_eq (by omega) hk).2 a2
open Classical in
noncomputable def rankC (n p q : Nat) : Nat → Nat
  | 0 => 0
  | i + 1 => rankC n p q i + (if fstC n p q i = i then 1 else 0)
theorem rankC_mono {i j : Nat} (h : i ≤ j) : rankC n p q i ≤ rankC n p q j := by
  induction h with
  | refl => exact Nat.le_refl _
  | step _ ih => rw [rankC]; omega
theorem rankC_lt {i j : Nat} (h : i < j) (hi : fstC n p q i = i) : rankC n p q i < rankC n p q j := by
  have := rankC_mono (n := n) (p := p) (q := q) (show i + 1 ≤ j from h)
  rw [rankC, if_pos hi] at this
  omega
theorem rankC_le (i : Nat) : rankC n p q i ≤ i := by
  induction i with
  | zero => simp [rankC]
  | succ i ih => rw [rankC]; split <;> omega
noncomputable def valC (n p q k : Nat) : Nat := 97 + rankC n p q (fstC n p q k)
theorem valC_eq {j k : Nat} (hj : j < n) (hk : k < n) : valC n p q j = valC n p q k ↔ Conn n p q j k := by
  rw [← fstC_eq hj hk]
  constructor
  · intro h
    have h1 := fstC_idem (p := p) (q := q) hj
    have h2 := fstC_idem (p := p) (q := q) hk
    unfold valC at h
    rcases Nat.lt_trichotomy (fstC n p q j) (fstC n p q k) with hh | hh | hh
    · have := rankC_lt hh h1; omega
    · exact hh
    · have := rankC_lt hh h2; omega
  · intro h; unfold valC; rw [h]
theorem valC_rng {k : Nat} (hk : k < n) : 97 ≤ valC n p q k ∧ valC n p q k < 97 + n := by
  have := rankC_le (n := n) (p := p) (q := q) (fstC n p q k)
  have := (fstC_spec n p q k).1
  unfold valC; omega
def en0 (o : List Int) (i : Nat) : Int := o.getD i 0
def zeros (o : List Int) : Nat := o.countP fun x => decide (x = 0)
theorem en0_get {o : List Int} {i : Nat} (h : i < o.length) : o[i]? = some (en0 o i) := by simp [en0, h]
theorem en0_set {o : List Int} {i j : Nat} {x : Int} (h : i < o.length) : en0 (o.set i x) j = if j = i then x else en0 o j := by
  unfold en0
  rw [List.getD_eq_getElem?_getD, List.getD_eq_getElem?_getD]
  by_cases hj : j = i
  · subst hj; rw [List.getElem?_set_self h, if_pos rfl]; rfl
  · rw [List.getElem?_set_ne (by omega), if_neg hj]
theorem zeros_set {x : Int} (hx : x ≠ 0) : ∀ {o : List Int} {i : Nat}, i < o.length → en0 o i = 0 → zeros (o.set i x) + 1 = zeros o := by
  intro o
  induction o with
  | nil => intro i h; simp at h
  | cons y o ih =>
    intro i h h0
    cases i with
    | zero =>
      simp [en0] at h0
      subst h0
      simp [zeros, hx]
    | succ i =>
      have := ih (i := i) (by simpa using h) (by simpa [en0] using h0)
      simp only [List.set_cons_succ, zeros, List.countP_cons] at this ⊢
      omega
theorem zeros_le : ∀ {o o' : List Int}, o.length = o'.length → (∀ j, en0 o j ≠ 0 → en0 o' j = en0 o j) → zeros o' ≤ zeros o := by
  intro o
  induction o with
  | nil => intro o' hl _; simp at hl; have : o' = [] := List.length_eq_zero_iff.1 hl.symm; subst this; exact Nat.le_refl _
  | cons y o ih =>
    intro o' hl h
    cases o' with
    | nil => simp at hl
    | cons y' o' =>
      have h1 := ih (o' := o') (by simpa using hl) (fun j hj => by
        have := h (j + 1) (by simpa [en0] using hj)
        simpa [en0] using this)
      have h0 := h 0
      simp only [en0, List.getD_cons_zero] at h0
      simp only [zeros, List.countP_cons] at h1 ⊢
      by_cases hy : y = 0
      · subst hy
        simp only [decide_true, if_true]
        split <;> omega
      · rw [h0 hy]
        simp [hy]; omega
structure WGood (n p q : Nat) (v : Int) (c : Nat) (o o' : List Int) : Prop where
  len : o'.length = o.length
  keep : ∀ j, en0 o j ≠ 0 → en0 o' j = en0 o j
  new : ∀ j, en0 o j = 0 → en0 o' j ≠ 0 → en0 o' j = v ∧ Conn n p q c j
  clos : ∀ j k, j < n → en0 o j = 0 → en0 o' j ≠ 0 → Nb n p q j k → en0 o' k ≠ 0
theorem WGood.refl {v : Int} {c : Nat} {o : List Int} : WGood n p q v c o o := ⟨rfl, fun _ _ => rfl, fun j h h' => absurd h h', fun j k _ h h' => absurd h h'⟩
theorem WGood.trans {v : Int} {c : Nat} {o o1 o2 : List Int} (h1 : WGood n p q v c o o1) (h2 : WGood n p q v c o1 o2) : WGood n p q v c o o2 := by
  refine ⟨h2.len.trans h1.len, fun j hj => ?_, fun j hj hj2 => ?_, fun j k hjn hj hj2 hk => ?_⟩
  · have := h1.keep j hj
    rw [h2.keep j (by rw [this]; exact hj), this]
  · by_cases h : en0 o1 j = 0
    · exact h2.new j h hj2
    · rw [h2.keep j h]; exact h1.new j hj h
  · by_cases h : en0 o1 j = 0
    · exact h2.clos j k hjn h hj2 hk
    · have := h1.clos j k hjn hj h hk
      rw [h2.keep k this]; exact this
theorem WGood.mono {v : Int} {c d : Nat} {o o' : List Int} (h : WGood n p q v d o o') (hc : Conn n p q c d) : WGood n p q v c o o' :=
  ⟨h.len, h.keep, fun j h1 h2 => ⟨(h.new j h1 h2).1, hc.trans (h.new j h1 h2).2⟩, h.clos⟩
def Named (n p q : Nat) (v : Int) (i : Int) (o o' : List Int) : Prop :=
  o'.length = o.length ∧ (¬ (0 ≤ i ∧ i < n) → o' = o) ∧ (∀ c : Nat, i = c → c < n → WGood n p q v c o o' ∧ en0 o' c ≠ 0)
theorem fs52 {N : Nat} {a b c : Int} : f52 N a b c = some (decide (a ≤ b ∧ b ≤ c)) := by
  unfold f52
  by_cases h : a ≤ b <;> simp [h]
theorem name_ok (hn : 1 ≤ n) (hn2 : n ≤ 24) (hp : p ≤ 24) (hq : q ≤ 24) {v : Int} (hv : v ≠ 0) :
    ∀ (N : Nat) (i : Int) (o : List Int), -100 ≤ i ∧ i ≤ 100 → o.length = n → zeros o + 8 ≤ N → ∃ o', f53 N i (n : Int) v (p : Int) (q : Int) o = some o' ∧ Named n p q v i o o' := by
  intro N
  induction N with
  | zero => intro i o _ _ h; omega
  | succ N ih =>
    intro i o hi hl hz
    rw [f53]
    unfold f53b
    rw [fs52, Option.bind_some, W_of (by omega) (by omega)]
    by_cases hr : 0 ≤ i ∧ i < n
    · rw [decide_eq_true (show (0 : Int) ≤ i ∧ i ≤ (n : Int) - 1 by omega)]
      obtain ⟨c, rfl⟩ : ∃ c : Nat, i = c := ⟨i.toNat, by omega⟩
      have hc : c < o.length := by omega
      simp only [Bool.not_true, cond_false]
      rw [ix_nat, en0_get hc]
      simp only [Option.bind_some]
      by_cases h0 : en0 o c = 0
      · simp only [h0, not_true, decide_false, cond_false]
        have hs : setx o (c : Int) v = some (o.set c v) := by
          unfold setx; rw [if_pos ⟨by omega, by omega⟩]; rfl
        rw [hs, Option.bind_some]
        have hz2 := zeros_set hv hc h0
        -- the four ways
        have step : ∀ (d : Int) (b : List Int), -24 ≤ d ∧ d ≤ 24 → b.length = n → zeros b ≤ zeros (o.set c v) → (0 ≤ (c : Int) + d → (c : Int) + d < n → ∀ e : Nat, (c : Int) + d = e → Nb n p q c e) →
            ∃ b', (f53 N (W ((c : Int) + d)) (n : Int) v (p : Int) (q : Int) b) = some b' ∧ keepL b b' = some b' ∧ b'.length = n ∧ zeros b' ≤ zeros (o.set c v) ∧ WGood n p q v c b b' ∧ (∀ e : Nat, (c : Int) + d = e → e < n → en0 b' e ≠ 0) := by
          intro d b hd hb hzb hnb
          rw [W_of (by omega) (by omega)]
          obtain ⟨b', e1, e2, e3, e4⟩ := ih ((c : Int) + d) b ⟨by omega, by omega⟩ hb (by omega)
          have hg : WGood n p q v c b b' := by
            by_cases hin : 0 ≤ (c : Int) + d ∧ (c : Int) + d < n
            · have := (e4 ((c : Int) + d).toNat (by omega) (by omega)).1
              exact this.mono (Conn.refl.step (hnb hin.1 hin.2 _ (by omega)))
            · rw [e3 hin]; exact WGood.refl
          refine ⟨b', e1, ?_, by omega, ?_, hg, fun e he hen => (e4 e he hen).2⟩
          · unfold keepL; rw [if_pos e2.symm]
          · exact Nat.le_trans (zeros_le e2.symm hg.keep) hzb
        have l0 : (o.set c v).length = n := by simp [hl]
        obtain ⟨b1, s1, t1, l1, z1, g1, m1⟩ := step (p : Int) (o.set c v) (by omega) l0 (Nat.le_refl _) (fun _ h e he => ⟨by omega, .inl (by omega)⟩)
        obtain ⟨b2, s2, t2, l2, z2, g2, m2⟩ := step (0 - (p : Int)) b1 (by omega) l1 z1 (fun _ h e he => ⟨by omega, .inr (.inl (by omega))⟩)
        obtain ⟨b3, s3, t3, l3, z3, g3, m3⟩ := step (q : Int) b2 (by omega) l2 z2 (fun _ h e he => ⟨by omega, .inr (.inr (.inl (by omega)))⟩)
        obtain ⟨b4, s4, t4, l4, z4, g4, m4⟩ := step (0 - (q : Int)) b3 (by omega) l3 z3 (fun _ h e he => ⟨by omega, .inr (.inr (.inr (by omega)))⟩)
        have wp : W (0 - (p : Int)) = 0 - (p : Int) := W_of (by omega) (by omega)
        have wq : W (0 - (q : Int)) = 0 - (q : Int) := W_of (by omega) (by omega)
        obtain ⟨A, hA⟩ : ∃ A, N = A + 1 := ⟨N - 1, by omega⟩
        obtain ⟨B, hB⟩ : ∃ B, A = B + 1 := ⟨A - 1, by omega⟩
        obtain ⟨C, hC⟩ : ∃ C, B = C + 1 := ⟨B - 1, by omega⟩
        obtain ⟨D, hD⟩ : ∃ D, C = D + 1 := ⟨C - 1, by omega⟩
        obtain ⟨E, hE⟩ : ∃ E, D = E + 1 := ⟨D - 1, by omega⟩
        have u : ∀ m (a : Int) (b : List Int), f53_3 (c : Int) (n : Int) v (p : Int) (q : Int) o (f53 N) (m + 1) a b = f53_3b (f53_3 (c : Int) (n : Int) v (p : Int) (q : Int) o (f53 N) m) (c : Int) (n : Int) v (p : Int) (q : Int) o (f53 N) a b := fun _ _ _ => rfl
        have a0 : ix [(p : Int), 0 - (p : Int), (q : Int), 0 - (q : Int)] 0 = some (p : Int) := rfl
        have a1 : ix [(p : Int), 0 - (p : Int), (q : Int), 0 - (q : Int)] 1 = some (0 - (p : Int)) := rfl
        have a2 : ix [(p : Int), 0 - (p : Int), (q : Int), 0 - (q : Int)] 2 = some (q : Int) := rfl
        have a3 : ix [(p : Int), 0 - (p : Int), (q : Int), 0 - (q : Int)] 3 = some (0 - (q : Int)) := rfl
        have w0 : W ((0 : Int) + 1) = 1 := by decide
        have w1 : W ((1 : Int) + 1) = 2 := by decide
        have w2 : W ((2 : Int) + 1) = 3 := by decide
        have w3 : W ((3 : Int) + 1) = 4 := by decide
        have c0 : decide ((0 : Int) < (List.length [(p : Int), 0 - (p : Int), (q : Int), 0 - (q : Int)] : Int)) = true := by simp
        have c1 : decide ((1 : Int) < (List.length [(p : Int), 0 - (p : Int), (q : Int), 0 - (q : Int)] : Int)) = true := by simp
        have c2 : decide ((2 : Int) < (List.length [(p : Int), 0 - (p : Int), (q : Int), 0 - (q : Int)] : Int)) = true := by simp
        have c3 : decide ((3 : Int) < (List.length [(p : Int), 0 - (p : Int), (q : Int), 0 - (q : Int)] : Int)) = true := by simp
        have c4 : decide ((4 : Int) < (List.length [(p : Int), 0 - (p : Int), (q : Int), 0 - (q : Int)] : Int)) = false := by simp
        have hk : keepL o b4 = some b4 := by unfold keepL; rw [if_pos (by omega)]
        refine ⟨b4, ?_, ?_⟩
        · have hf : f53_3 (c : Int) (n : Int) v (p : Int) (q : Int) o (f53 N) N 0 (o.set c v) = f53_3 (c : Int) (n : Int) v (p : Int) (q : Int) o (f53 N) (A + 1) 0 (o.set c v) := by rw [← hA]
          rw [hf, u]
          unfold f53_3b
          simp only [wp, wq, c0, a0, w0, cond_true, Option.bind_some, s1, t1]
          rw [hB, u]
          unfold f53_3b
          simp only [wp, wq, c1, a1, w1, cond_true, Option.bind_some, s2, t2]
          rw [hC, u]
          unfold f53_3b
          simp only [wp, wq, c2, a2, w2, cond_true, Option.bind_some, s3, t3]
          rw [hD, u]
          unfold f53_3b
          simp only [wp, wq, c3, a3, w3, cond_true, Option.bind_some, s4, t4]
          rw [hE, u]
          unfold f53_3b
          simp only [wp, wq, c4, cond_false, Option.bind_some, hk]
        · refine ⟨by omega, fun h => absurd hr h, fun c' hc' hcn => ?_⟩
          obtain rfl : c = c' := by omega
          have G := ((g1.trans g2).trans g3).trans g4
          have hcc : en0 (o.set c v) c = v := by rw [en0_set hc, if_pos rfl]
          have hc4 : en0 b4 c = v := by rw [G.keep c (by rw [hcc]; exact hv), hcc]
          refine ⟨⟨by omega, fun j hj => ?_, fun j hj hj2 => ?_, fun j k hjn hj hj2 hk => ?_⟩, by rw [hc4]; exact hv⟩
          · have hjc : j ≠ c := by rintro rfl; exact hj h0
            have : en0 (o.set c v) j = en0 o j := by rw [en0_set hc, if_neg hjc]
            rw [G.keep j (by rw [this]; exact hj), this]
          · by_cases hjc : j = c
            · subst hjc; exact ⟨hc4, .refl⟩
            · exact G.new j (by rw [en0_set hc, if_neg hjc]; exact hj) hj2
          · by_cases hjc : j = c
            · subst hjc
              have hkn := hk.1
              rcases hk.2 with h | h | h | h
              · have h5 := m1 k (by omega) hkn
                rw [(g2.trans g3 |>.trans g4).keep k h5]; exact h5
              · have h5 := m2 k (by omega) hkn
                rw [(g3.trans g4).keep k h5]; exact h5
              · have h5 := m3 k (by omega) hkn
                rw [g4.keep k h5]; exact h5
              · exact m4 k (by omega) hkn
            · exact G.clos j k hjn (by rw [en0_set hc, if_neg hjc]; exact hj) hj2 hk
      · simp only [h0, not_false_eq_true, decide_true, cond_true]
        refine ⟨o, rfl, rfl, fun _ => rfl, fun c' hc' _ => ?_⟩
        obtain rfl : c = c' := by omega
        exact ⟨WGood.refl, h0⟩
    · rw [decide_eq_false (show ¬ ((0 : Int) ≤ i ∧ i ≤ (n : Int) - 1) by omega)]
      exact ⟨o, rfl, rfl, fun _ => rfl, fun c hc hcn => absurd ⟨by omega, by omega⟩ hr⟩
end
end Go.Vc
namespace Go.Vc
open Go.Proofs
set_option linter.unusedVariables false
set_option linter.unnecessarySimpa false
set_option linter.unusedSimpArgs false
set_option linter.unusedSimpArgs false
section
variable {n p q : Nat}
noncomputable def partW (n p q i : Nat) : List Int := (List.range n).map fun k => if fstC n p q k < i then (valC n p q k : Int) else 0
theorem partW_len {i : Nat} : (partW n p q i).length = n := by simp [partW]
theorem partW_en {i k : Nat} (hk : k < n) : en0 (partW n p q i) k = if fstC n p q k < i then (valC n p q k : Int) else 0 := by
  have : (partW n p q i)[k]? = some (if fstC n p q k < i then (valC n p q k : Int) else 0) := by
    unfold partW
    rw [List.getElem?_map, List.getElem?_range hk]; rfl
  unfold en0
  rw [List.getD_eq_getElem?_getD, this]; rfl
theorem zeros_len (o : List Int) : zeros o ≤ o.length := List.countP_le_length
theorem named_next {i : Nat} (hi : i < n) (hf : fstC n p q i = i) {o' : List Int} (h : Named n p q ((97 + rankC n p q i : Nat) : Int) (i : Int) (partW n p q i) o') : o' = partW n p q (i + 1) := by
  obtain ⟨h1, h2, h3⟩ := h
  obtain ⟨g, hne⟩ := h3 i rfl hi
  rw [partW_len] at h1
  -- all that is connected is named
  have hall : ∀ k, Conn n p q i k → en0 o' k ≠ 0 := by
    intro k hk
    induction hk with
    | refl => exact hne
    | @step b c hb hn ih =>
      have hbn := hb.lt hi
      have hfb : fstC n p q b = i := by rw [← (fstC_eq hi hbn).2 hb, hf]
      exact g.clos b c hbn (by rw [partW_en hbn, if_neg (by omega)]) ih hn
  refine List.ext_getElem? fun k => ?_
  by_cases hk : k < n
  · rw [en0_get (by omega), en0_get (by rw [partW_len]; exact hk), partW_en hk]
    congr 1
    by_cases c1 : fstC n p q k < i
    · have e := partW_en (p := p) (q := q) (i := i) hk
      rw [if_pos c1] at e
      have hv := (valC_rng (p := p) (q := q) hk).1
      rw [g.keep k (by rw [e]; omega), e, if_pos (by omega)]
    · have e := partW_en (p := p) (q := q) (i := i) hk
      rw [if_neg c1] at e
      by_cases c2 : fstC n p q k = i
      · have hc : Conn n p q i k := by rw [← c2]; exact (fstC_spec n p q k).2.1
        rw [(g.new k e (hall k hc)).1, if_pos (by omega)]
        unfold valC; rw [c2]
      · rw [if_neg (by omega)]
        by_cases c3 : en0 o' k = 0
        · exact c3
        · have := fstC_le (g.new k e c3).2
          omega
  · rw [List.getElem?_eq_none (by omega), List.getElem?_eq_none (by rw [partW_len]; omega)]
theorem part_same {i : Nat} (hi : i < n) (hf : fstC n p q i ≠ i) : partW n p q i = partW n p q (i + 1) := by
  unfold partW
  refine List.map_congr_left fun k hk => ?_
  have hk := List.mem_range.1 hk
  by_cases c : fstC n p q k = i
  · have := fstC_idem (p := p) (q := q) hk
    rw [c] at this
    exact absurd this hf
  · by_cases c1 : fstC n p q k < i
    · rw [if_pos c1, if_pos (by omega)]
    · rw [if_neg c1, if_neg (by omega)]
noncomputable def wideN (n p q : Nat) : List UInt8 := (List.range n).map fun k => UInt8.ofNat (valC n p q k)
theorem wideN_len : (wideN n p q).length = n := by simp [wideN]
theorem wideN_get {k : Nat} (hk : k < n) : (wideN n p q)[k]? = some (UInt8.ofNat (valC n p q k)) := by
  unfold wideN
  rw [List.getElem?_map, List.getElem?_range hk]; rfl
theorem ofNat_val (hn : n ≤ 24) {j k : Nat} (hj : j < n) (hk : k < n) : UInt8.ofNat (valC n p q j) = UInt8.ofNat (valC n p q k) ↔ Conn n p q j k := by
  rw [← valC_eq hj hk]
  have h1 := valC_rng (p := p) (q := q) hj
  have h2 := valC_rng (p := p) (q := q) hk
  constructor
  · intro h
    have := congrArg UInt8.toNat h
    rw [UInt8.toNat_ofNat', UInt8.toNat_ofNat', Nat.mod_eq_of_lt (show valC n p q j < 2 ^ 8 by omega), Nat.mod_eq_of_lt (show valC n p q k < 2 ^ 8 by omega)] at this
    exact this
  · intro h; rw [h]
theorem wideN_ok (hn : n ≤ 24) : (wideN n p q).all okb = true := by
  rw [List.all_eq_true]
  intro b hb
  unfold wideN at hb
  obtain ⟨k, hk, rfl⟩ := List.mem_map.1 hb
  have h1 := valC_rng (p := p) (q := q) (List.mem_range.1 hk)
  have hk := List.mem_range.1 hk
  simp only [okb, UInt8.toNat_ofNat', Nat.mod_eq_of_lt (show valC n p q k < 2 ^ 8 by omega)]
  simp; omega
theorem wide_loop {N : Nat} {x4 : List Int} (hn : 1 ≤ n) (hn2 : n ≤ 24) (hp : p ≤ 24) (hq : q ≤ 24) (hx : x4.length = n) (hN : 60 ≤ N) :
    ∀ (m i : Nat), i ≤ n → n - i < m → f25_8 (p : Int) (q : Int) (n : Int) N x4 f25_c14 m (i : Int) (partW n p q i) ((97 + rankC n p q i : Nat) : Int) = some (strC (wideN n p q), 0) := by
  intro m
  induction m with
  | zero => intro i _ h; omega
  | succ m ih =>
    intro i hi hm
    unfold f25_8 f25_8b
    rw [hx]
    by_cases h : i < n
    · simp only [show (i : Int) < (n : Int) by omega, decide_true, cond_true]
      rw [ix_nat, en0_get (by rw [partW_len]; exact h), partW_en h]
      simp only [Option.bind_some]
      have hv := (valC_rng (p := p) (q := q) h).1
      have hf := (fstC_spec n p q i).1
      by_cases c : fstC n p q i = i
      · rw [if_neg (by omega)]
        simp only [decide_true, cond_true]
        have hz := zeros_len (partW n p q i)
        rw [partW_len] at hz
        obtain ⟨o', e1, e2⟩ := name_ok hn hn2 hp hq (v := ((97 + rankC n p q i : Nat) : Int)) (by omega) N (i : Int) (partW n p q i) (by omega) partW_len (by omega)
        rw [e1]
        simp only [Option.bind_some]
        have hk : keepL (partW n p q i) o' = some o' := by unfold keepL; rw [if_pos e2.1.symm]
        rw [hk, named_next h c e2]
        simp only [Option.bind_some]
        have hr := rankC_le (n := n) (p := p) (q := q) i
        have hw : Wk .u8 (((97 + rankC n p q i : Nat) : Int) + (1 : Int)) = ((97 + rankC n p q (i + 1) : Nat) : Int) := by
          rw [rankC, if_pos c, Wk_of (by simp [IntKind.min, IntKind.max, IntKind.signed, IntKind.bits]; omega)]; omega
        rw [hw, W_nat (by omega)]
        exact ih (i + 1) (by omega) (by omega)
      · rw [if_pos (by omega)]
        have : ¬ (valC n p q i : Int) = 0 := by omega
        simp only [this, decide_false, cond_false]
        rw [W_nat (by omega), part_same h c]
        have hr : rankC n p q i = rankC n p q (i + 1) := by rw [rankC, if_neg c]; omega
        rw [hr]
        exact ih (i + 1) (by omega) (by omega)
    · have : i = n := by omega
      subst this
      simp only [Int.lt_irrefl, decide_false, cond_false]
      unfold f25_c14
      have hs : strOf (partW i p q i) = some (strC (wideN i p q)) := by
        unfold strOf
        rw [if_pos (by rw [partW_len]; simp [maxLen]; omega)]
        unfold strC
        congr 3
        unfold partW wideN
        rw [List.map_map]
        refine List.map_congr_left fun k hk => ?_
        have hk := List.mem_range.1 hk
        have := (fstC_spec i p q k).1
        simp only [Function.comp]
        rw [if_pos (by omega), Int.toNat_natCast]
      rw [hs]; rfl
end
theorem f25_eq {N : Nat} {a b c : Int} (hN : 60 ≤ N) : f25 N a b c = some (if (1 ≤ c ∧ c ≤ 24) ∧ (1 ≤ a ∧ a ≤ c) ∧ (1 ≤ b ∧ b ≤ c) then (strC (wideN c.toNat a.toNat b.toNat), 0) else (emptyS, 3)) := by
  unfold f25
  rw [fs52, fs52, fs52]
  simp only [Option.bind_some]
  by_cases h1 : 1 ≤ c ∧ c ≤ 24
  · by_cases h2 : 1 ≤ a ∧ a ≤ c
    · by_cases h3 : 1 ≤ b ∧ b ≤ c
      · rw [if_pos ⟨h1, h2, h3⟩, decide_eq_true h1, decide_eq_true h2, decide_eq_true h3]
        obtain ⟨n, rfl⟩ : ∃ n : Nat, c = n := ⟨c.toNat, by omega⟩
        obtain ⟨p, rfl⟩ : ∃ n : Nat, a = n := ⟨a.toNat, by omega⟩
        obtain ⟨q, rfl⟩ : ∃ n : Nat, b = n := ⟨b.toNat, by omega⟩
        have hm : mkS 1 (0 : Int) (n : Int) (n : Int) = some (List.replicate n 0) := by
          unfold mkS; rw [if_pos ⟨by omega, by omega, by omega⟩]; rfl
        have hrep : List.replicate n (0 : Int) = partW n p q 0 := by
          refine List.ext_getElem? fun k => ?_
          by_cases hk : k < n
          · rw [en0_get (o := partW n p q 0) (by rw [partW_len]; exact hk), partW_en hk, if_neg (by omega), List.getElem?_replicate, if_pos hk]
          · rw [List.getElem?_eq_none (by simp; omega), List.getElem?_eq_none (by rw [partW_len]; omega)]
        simp only [Bool.not_true, cond_false, hm, Option.bind_some, joinK, Int.toNat_natCast]
        have := wide_loop (N := N) (n := n) (p := p) (q := q) (x4 := List.replicate n 0) (by omega) (by omega) (by omega) (by omega) (by simp) hN N 0 (by omega) (by omega)
        rw [← hrep] at this
        exact this
      · rw [if_neg (fun h => h3 h.2.2), decide_eq_true h1, decide_eq_true h2, decide_eq_false h3]; rfl
    · rw [if_neg (fun h => h2 h.2.1), decide_eq_true h1, decide_eq_false h2]; rfl
  · rw [if_neg (fun h => h1 h.1), decide_eq_false h1]; rfl
end Go.Vc
namespace Go.Vc
open Go.Proofs
set_option linter.unusedVariables false
set_option linter.unnecessarySimpa false
set_option linter.unusedSimpArgs false
set_option linter.unusedSimpArgs false
set_option maxRecDepth 100000
section
variable {α β : Type}
open Classical in
noncomputable def addD (K : List α) (x : α) : List α := if x ∈ K then K else K ++ [x]
noncomputable def dd (l : List α) : List α := l.foldl addD []
theorem addD_mem {K : List α} {x y : α} : y ∈ addD K x ↔ y ∈ K ∨ y = x := by
  unfold addD
  split
  · rename_i h
    constructor
    · exact .inl
    · rintro (h' | rfl)
      · exact h'
      · exact h
  · simp
theorem dd_le {f : α → β} {g : α → Nat → β} : ∀ (L : List (α × β)) (K : List α) (M : List β), (∀ a b a' b', (a, b) ∈ L → (a', b') ∈ L → a = a' → b = b') →
    (∀ a b, (a, b) ∈ L → a ∈ K → b ∈ M) → M.length ≤ K.length → ((L.map Prod.snd).foldl addD M).length ≤ ((L.map Prod.fst).foldl addD K).length := by
  intro L
  induction L with
  | nil => intro K M _ _ h; exact h
  | cons x L ih =>
    intro K M h1 h2 h3
    obtain ⟨a, b⟩ := x
    simp only [List.map_cons, List.foldl_cons]
    refine ih (addD K a) (addD M b) (fun a b a' b' hx hy => h1 a b a' b' (by simp [hx]) (by simp [hy])) (fun a' b' hx hk => ?_) ?_
    · rw [addD_mem] at hk ⊢
      rcases hk with hk | rfl
      · exact .inl (h2 a' b' (by simp [hx]) hk)
      · exact .inr (h1 _ _ _ _ (List.mem_cons_of_mem _ hx) (by simp) rfl)
    · unfold addD
      by_cases ha : a ∈ K
      · rw [if_pos ha, if_pos (h2 a b (by simp) ha)]; exact h3
      · rw [if_neg ha]
        split
        · simp; omega
        · simp; exact h3
end
open Classical in
theorem setK_gen {κ : Type} [DecidableEq κ] (k : κ) : ∀ K : List κ, setK k true (K.map fun x => (x, true)) = (addD K k).map fun x => (x, true) := by
  intro K
  induction K with
  | nil => simp [setK, addD]
  | cons x K ih =>
    simp only [List.map_cons, setK]
    by_cases h : x = k
    · subst h; simp [addD]
    · rw [if_neg h, ih]
      unfold addD
      have : k ∈ x :: K ↔ k ∈ K := by simp [Ne.symm h]
      by_cases hk : k ∈ K
      · rw [if_pos hk, if_pos (this.2 hk)]; rfl
      · rw [if_neg hk, if_neg fun hh => hk (this.1 hh)]; rfl
def toB (l : List UInt8) : List Int := l.map fun b => (b.toNat : Int)
noncomputable def kinds (l : List UInt8) : Nat := (dd (toB l)).length
theorem foldl_addD_len {α : Type} (l : List α) : ∀ K : List α, (l.foldl addD K).length ≤ K.length + l.length := by
  induction l with
  | nil => intro K; simp
  | cons x l ih =>
    intro K
    rw [List.foldl_cons]
    have := ih (addD K x)
    have h2 : (addD K x).length ≤ K.length + 1 := by
      unfold addD; split <;> simp
    simp only [List.length_cons]; omega
theorem kinds_len {l : List UInt8} : kinds l ≤ l.length := by
  have := foldl_addD_len (toB l) []
  simpa [kinds, dd, toB] using this
theorem f40_loop {l : List UInt8} (hl : l.length ≤ 100) (ha : l.all okb = true) : ∀ (n i : Nat) (K : List Int), i ≤ l.length → l.length - i < n →
    f40_3 (strC l) f40_c6 n (K.map fun x => (x, true)) i = f40_c6 (((toB (l.drop i)).foldl addD K).map fun x => (x, true)) := by
  intro n
  induction n with
  | zero => intro i K _ h; omega
  | succ n ih =>
    intro i K hi hn
    unfold f40_3 f40_3b
    by_cases h : i < l.length
    · simp only [strC_size, h, decide_true, cond_true, Option.bind_some]
      rw [rune_lo h (all_lo ha i h), idxS_L h]
      simp only [Option.bind_some]
      rw [setK_gen, ih (i + 1) _ (by omega) (by omega), List.drop_eq_getElem_cons h]
      rfl
    · have : i = l.length := by omega
      subst this
      simp only [strC_size, Nat.lt_irrefl, decide_false, cond_false, List.drop_length]
      rfl
theorem f40_eq {l : List UInt8} {N : Nat} (hl : l.length ≤ 100) (ha : l.all okb = true) (hN : l.length < N) : f40 N (strC l) = some (kinds l : Int) := by
  unfold f40
  simp only [joinK]
  have := f40_loop hl ha N 0 [] (by omega) (by omega)
  rw [List.drop_zero, List.map_nil] at this
  rw [this]
  unfold f40_c6 lenM
  have hk := kinds_len (l := l)
  have e : ((List.foldl addD [] (toB l)).map fun x => (x, true)).length = kinds l := by simp [kinds, dd]
  rw [e, if_pos (by simp [maxLen]; omega)]
  rfl
theorem kinds_le {s w : List UInt8} (hlen : s.length = w.length) (h : ∀ i j, i < w.length → j < w.length → w[i]? = w[j]? → s[i]? = s[j]?) : kinds s ≤ kinds w := by
  have key := dd_le (α := Int) (β := Int) (f := fun x => x) (g := fun x _ => x) ((toB w).zip (toB s)) [] [] ?_ ?_ (Nat.le_refl _)
  · rw [List.map_fst_zip (by simp [toB]; omega), List.map_snd_zip (by simp [toB]; omega)] at key
    exact key
  · intro a b a' b' h1 h2 e
    obtain ⟨i, hi⟩ := List.mem_iff_getElem?.1 h1
    obtain ⟨j, hj⟩ := List.mem_iff_getElem?.1 h2
    rw [List.getElem?_zip_eq_some] at hi hj
    obtain ⟨i1, i2⟩ := hi
    obtain ⟨j1, j2⟩ := hj
    unfold toB at i1 i2 j1 j2
    rw [List.getElem?_map] at i1 i2 j1 j2
    have il : i < w.length := by
      by_cases hh : i < w.length
      · exact hh
      · rw [List.getElem?_eq_none (by omega)] at i1; cases i1
    have jl : j < w.length := by
      by_cases hh : j < w.length
      · exact hh
      · rw [List.getElem?_eq_none (by omega)] at j1; cases j1
    have hw : w[i]? = w[j]? := by
      rw [List.getElem?_eq_getElem il, List.getElem?_eq_getElem jl] at *
      simp only [Option.map_some, Option.some.injEq] at i1 j1
      congr 1
      exact toNat_inj.1 (by omega)
    have hs := h i j il jl hw
    rw [hs, j2] at i2
    exact (Option.some.inj i2).symm
  · intro a b _ hk; cases hk
theorem told {s : List UInt8} {n p q : Nat} (hlen : s.length = n) (hp : isP s p = true) (hq : isP s q = true) {i j : Nat} (hi : i < n) (h : Conn n p q i j) : s[i]? = s[j]? := by
  rw [isP_per, hlen] at hp hq
  refine Conn.keep (f := fun i => s[i]?) (fun b c hb hn => ?_) hi h
  rcases hn.2 with h | h | h | h
  · subst h; exact hp b hn.1
  · subst h; exact (hp c hb).symm
  · subst h; exact hq b hn.1
  · subst h; exact (hq c hb).symm
theorem kinds_wide {s : List UInt8} {n p q : Nat} (hn : n ≤ 24) (hlen : s.length = n) (hp : isP s p = true) (hq : isP s q = true) : kinds s ≤ kinds (wideN n p q) := by
  refine kinds_le (by rw [wideN_len]; exact hlen) fun i j hi hj h => ?_
  rw [wideN_len] at hi hj
  rw [wideN_get hi, wideN_get hj] at h
  exact told hlen hp hq hi ((ofNat_val hn hi hj).1 (Option.some.inj h))
theorem f37_loop {k0 : Int → Option Int} : ∀ (m a b : Nat), b < m → b ≤ 1000000 → f37_1 k0 m (a : Int) (b : Int) = k0 (Nat.gcd b a : Int) := by
  intro m
  induction m with
  | zero => intro a b h; omega
  | succ m ih =>
    intro a b hb hb2
    unfold f37_1 f37_1b
    by_cases h : 0 < b
    · have hc : chk (decide ((b : Int) ≠ 0)) = some () := by rw [decide_eq_true (by omega)]; rfl
      have ht : Int.tmod (a : Int) (b : Int) = ((a % b : Nat) : Int) := rfl
      have hlt := Nat.mod_lt a h
      simp only [show (0 : Int) < (b : Int) by omega, decide_true, cond_true, hc, Option.bind_some, ht]
      rw [ih b (a % b) (by omega) (by omega)]
      congr 1
      rw [Nat.gcd_rec b a]
    · have : b = 0 := by omega
      subst this
      rw [Nat.gcd_zero_left]
      rfl
theorem f37_eq {N a b : Nat} (hb : b < N) (hb2 : b ≤ 1000000) : f37 N (a : Int) (b : Int) = some (Nat.gcd a b : Int) := by
  unfold f37
  simp only [joinK]
  rw [f37_loop N a b hb hb2, Nat.gcd_comm]; rfl
structure Read3 (a0 : A3u8N) (m n p q : Nat) : Prop where
  hn : W ((1 : Int) + Int.tmod a0.e0 (m : Int)) = (n : Int)
  hp : W ((1 : Int) + Int.tmod a0.e1 (n : Int)) = (p : Int)
  hq : W ((1 : Int) + Int.tmod a0.e2 (n : Int)) = (q : Int)
  n1 : 1 ≤ n
  nm : n ≤ m
  p1 : 1 ≤ p
  pn : p ≤ n
  q1 : 1 ≤ q
  qn : q ≤ n
theorem read_one {x : Int} {m : Nat} (h : 0 ≤ x) (h' : x ≤ 255) (hm : 1 ≤ m) (hm2 : m ≤ 1000) : ∃ n : Nat, W ((1 : Int) + Int.tmod x (m : Int)) = (n : Int) ∧ 1 ≤ n ∧ n ≤ m := by
  obtain ⟨u, rfl⟩ : ∃ u : Nat, x = u := ⟨x.toNat, by omega⟩
  have ht : Int.tmod (u : Int) (m : Int) = ((u % m : Nat) : Int) := rfl
  have hlt := Nat.mod_lt u (show m > 0 by omega)
  refine ⟨u % m + 1, ?_, by omega, by omega⟩
  rw [ht]
  generalize u % m = r at *
  rw [W_of (by omega) (by omega)]; omega
theorem read3 {a0 : A3u8N} {m : Nat} (hm : 1 ≤ m) (hm2 : m ≤ 1000) (h0 : 0 ≤ a0.e0 ∧ a0.e0 ≤ 255) (h1 : 0 ≤ a0.e1 ∧ a0.e1 ≤ 255) (h2 : 0 ≤ a0.e2 ∧ a0.e2 ≤ 255) : ∃ n p q, Read3 a0 m n p q := by
  obtain ⟨n, n1, n2, n3⟩ := read_one h0.1 h0.2 hm hm2
  obtain ⟨p, p1, p2, p3⟩ := read_one h1.1 h1.2 n2 (by omega)
  obtain ⟨q, q1, q2, q3⟩ := read_one h2.1 h2.2 n2 (by omega)
  exact ⟨n, p, q, n1, p1, q1, n2, n3, p2, p3, q2, q3⟩
theorem abc3_loop {a0 : A3u8N} {n p q : Nat} {x1 x3 v11 v12 : Int} {k2 : ByteArray → Option Bool} (R : Read3 a0 8 n p q) :
    ∀ (m y : Nat) (out : List UInt8), out.length ≤ n → Abc out → n - out.length < m → y ≤ 100000 → ∃ l, f8_19 a0 x1 x3 v11 v12 k2 m (strC out) (y : Int) = k2 (strC l) ∧ l.length = n ∧ Abc l := by
  obtain ⟨hn, hp, hq, n1, nm, p1, pn, q1, qn⟩ := R
  intro m
  induction m with
  | zero => intro y out _ _ h; omega
  | succ m ih =>
    intro y out ho ha hm hy
    unfold f8_19 f8_19b
    rw [show (8 : Int) = ((8 : Nat) : Int) from rfl, hn]
    by_cases h : out.length < n
    · simp only [strC_size, show (out.length : Int) < (n : Int) by omega, decide_true, cond_true]
      obtain ⟨b, hb, e⟩ := abc_sub (x := (y : Int)) (by omega)
      simp only [strC_size] at e
      have hd : Int.tdiv (y : Int) 3 = ((y / 3 : Nat) : Int) := rfl
      rw [bind2 e, addS_L (by simp; omega), Option.bind_some, hd, W_of (by omega) (by omega)]
      exact ih (y / 3) (out ++ [b]) (by simp; omega) (ha.snoc hb) (by simp; omega) (by omega)
    · simp only [strC_size, show ¬ (out.length : Int) < (n : Int) by omega, decide_false, cond_false]
      exact ⟨out, rfl, by omega, ha⟩
theorem all_one {N : Nat} {a0 : A3u8N} {n p q : Nat} {v11 v12 : Int} {k1 : Option Bool} {l : List UInt8} (R : Read3 a0 8 n p q) (hN : 60 ≤ N) (hl : l.length = n) (ha : Abc l) :
    f8_c22 a0 N (Nat.gcd p q : Int) (kinds (wideN n p q) : Int) v11 v12 k1 (strC l) = k1 := by
  obtain ⟨hn, hp, hq, n1, nm, p1, pn, q1, qn⟩ := R
  unfold f8_c22
  rw [show (8 : Int) = ((8 : Nat) : Int) from rfl, hn, hp, hq]
  have hok := ha.ok
  have hg1 : 1 ≤ Nat.gcd p q := Nat.gcd_pos_of_pos_left _ p1
  have hg2 : Nat.gcd p q ≤ p := Nat.gcd_le_left _ p1
  rw [f38_eq (by omega) hok (by omega), f38_eq (by omega) hok (by omega), f38_eq (by omega) hok (by omega), f40_eq (by omega) hok (by omega)]
  simp only [Option.bind_some]
  rw [decide_eq_true (show 1 ≤ p ∧ p ≤ l.length by omega), decide_eq_true (show 1 ≤ q ∧ q ≤ l.length by omega), decide_eq_true (show 1 ≤ Nat.gcd p q ∧ Nat.gcd p q ≤ l.length by omega)]
  simp only [Bool.true_and]
  cases hip : isP l p with
  | false => rfl
  | true =>
    cases hiq : isP l q with
    | false => rfl
    | true =>
      have hk := kinds_wide (n := n) (p := p) (q := q) (by omega) hl hip hiq
      have e1 : decide ((kinds (wideN n p q) : Int) < (kinds l : Int)) = false := decide_eq_false (by omega)
      rw [W_of (n := (p : Int) + (q : Int)) (by omega) (by omega), W_of (by omega) (by omega)]
      simp only [cond_true, e1, cond_false]
      by_cases hc : (p : Int) + (q : Int) - (Nat.gcd p q : Int) ≤ (n : Int)
      · have := fine_wilf (p + q) l.length p q (Nat.le_refl _) p1 q1 (by omega) (isP_per.1 hip) (isP_per.1 hiq)
        rw [isP_per.2 this, decide_eq_true hc]; rfl
      · rw [decide_eq_false hc]; rfl
theorem all_loop8 {N : Nat} {a0 : A3u8N} {n p q : Nat} {k0 : Option Bool} {v : Nat} (R : Read3 a0 8 n p q) (hN : 60 ≤ N) (hv : v ≤ 10000) :
    ∀ (m x : Nat), x ≤ v → v - x < m → f8_15 a0 N (Nat.gcd p q : Int) (kinds (wideN n p q) : Int) (v : Int) k0 m (x : Int) = k0 := by
  intro m
  induction m with
  | zero => intro x _ h; omega
  | succ m ih =>
    intro x hx hm
    unfold f8_15 f8_15b
    by_cases h : x < v
    · simp only [show (x : Int) < (v : Int) by omega, decide_true, cond_true, joinK]
      have hnm := R.nm
      obtain ⟨l, e, h1, h2⟩ := abc3_loop (x1 := (Nat.gcd p q : Int)) (x3 := (kinds (wideN n p q) : Int)) (v11 := (v : Int)) (v12 := (x : Int))
        (k2 := f8_c22 a0 N (Nat.gcd p q : Int) (kinds (wideN n p q) : Int) (v : Int) (x : Int) (f8_c16 a0 (Nat.gcd p q : Int) (kinds (wideN n p q) : Int) (v : Int) (x : Int) (f8_15 a0 N (Nat.gcd p q : Int) (kinds (wideN n p q) : Int) (v : Int) k0 m))) R N x [] (by simp) (by intro b hb; cases hb) (by simp; omega) (by omega)
      rw [emptyS_eq, e, all_one R hN h1 h2]
      unfold f8_c16
      rw [W_nat (by omega)]
      exact ih (x + 1) (by omega) (by omega)
    · simp only [show ¬ (x : Int) < (v : Int) by omega, decide_false, cond_false]
theorem w3c {q : Nat} (h : q ≤ 1000000) : W (q : Int) = (q : Int) := W_of (by omega) (by omega)
theorem pow_loop8 {a0 : A3u8N} {n p q : Nat} {x1 x3 : Int} {k3 : Int → Option Bool} (R : Read3 a0 8 n p q) :
    ∀ (m i : Nat), i ≤ n → n - i < m → f8_11 a0 x1 x3 k3 m ((3 ^ i : Nat) : Int) (i : Int) = k3 ((3 ^ n : Nat) : Int) := by
  obtain ⟨hn, hp, hq, n1, nm, p1, pn, q1, qn⟩ := R
  intro m
  induction m with
  | zero => intro x _ h; omega
  | succ m ih =>
    intro i hi hm
    unfold f8_11 f8_11b
    rw [show (8 : Int) = ((8 : Nat) : Int) from rfl, hn]
    by_cases h : i < n
    · simp only [show (i : Int) < (n : Int) by omega, decide_true, cond_true]
      have hp : 3 ^ (i + 1) ≤ 3 ^ 8 := Nat.pow_le_pow_right (by omega) (by omega)
      have e : ((3 ^ i : Nat) : Int) * (3 : Int) = ((3 ^ (i + 1) : Nat) : Int) := by rw [Nat.pow_succ, Int.natCast_mul]; rfl
      rw [e, w3c (Nat.le_trans hp (by decide)), W_nat (by omega)]
      exact ih (i + 1) (by omega) (by omega)
    · have : i = n := by omega
      subst this
      simp only [Int.lt_irrefl, decide_false, cond_false]
theorem t15_7000 : f15 7000 = some true := by decide +kernel
theorem f8_true (a0 : A3u8N) (h0 : 0 ≤ a0.e0 ∧ a0.e0 ≤ 255) (h1 : 0 ≤ a0.e1 ∧ a0.e1 ≤ 255) (h2 : 0 ≤ a0.e2 ∧ a0.e2 ≤ 255) : f8 7000 a0 = some true := by
  obtain ⟨n, p, q, R⟩ := read3 (m := 8) (by omega) (by omega) h0 h1 h2
  have R' := R
  obtain ⟨hn, hp, hq, n1, nm, p1, pn, q1, qn⟩ := R
  unfold f8
  rw [show (8 : Int) = ((8 : Nat) : Int) from rfl, hn, hp, hq]
  have hc : chk (decide ((n : Int) ≠ 0)) = some () := by rw [decide_eq_true (by omega)]; rfl
  rw [hc, f37_eq (by omega) (by omega), f25_eq (by omega)]
  simp only [Option.bind_some]
  rw [if_pos ⟨⟨by omega, by omega⟩, ⟨by omega, by omega⟩, ⟨by omega, by omega⟩⟩]
  simp only [Int.toNat_natCast, not_true, decide_false, cond_false, strC_size, wideN_len]
  rw [f40_eq (by rw [wideN_len]; omega) (wideN_ok (by omega)) (by rw [wideN_len]; omega)]
  simp only [Option.bind_some, joinK]
  have e1 := pow_loop8 (x1 := (Nat.gcd p q : Int)) (x3 := (kinds (wideN n p q) : Int)) (k3 := f8_c14 a0 7000 (Nat.gcd p q : Int) (kinds (wideN n p q) : Int)) R' 7000 0 (by omega) (by omega)
  refine Eq.trans e1 ?_
  unfold f8_c14
  simp only [joinK]
  have hp8 : 3 ^ n ≤ 6561 := Nat.pow_le_pow_right (n := 3) (by omega) nm
  have e2 := all_loop8 (k0 := f8_c24 7000) (v := 3 ^ n) R' (show 60 ≤ 7000 by omega) (Nat.le_trans hp8 (by omega)) 7000 0 (Nat.zero_le _) (Nat.lt_of_le_of_lt (Nat.sub_le _ _) (Nat.lt_of_le_of_lt hp8 (by omega)))
  refine Eq.trans e2 ?_
  unfold f8_c24
  rw [t15_7000]; rfl
end Go.Vc
namespace Go.Vc
set_option linter.unusedVariables false
set_option linter.unnecessarySimpa false
set_option linter.unusedSimpArgs false
set_option linter.unusedSimpArgs false
abbrev tB : Ty := .int .u8
def u8In (n : Int) : Prop := 0 ≤ n ∧ n ≤ 255
theorem tB_of {ds : List D} (h : tB.has ds) : ∃ n, ds = [u8N n] ∧ u8In n := by
  simp only [tB, Ty.has] at h
  obtain ⟨n, rfl, h⟩ := h
  exact ⟨n, rfl, by simpa [IntKind.min, IntKind.max, IntKind.signed, IntKind.bits, u8In] using h⟩
theorem tB_of' {ds : List D} (h : (Ty.int .u8).has ds) : ∃ n, ds = [u8N n] ∧ u8In n := tB_of h
abbrev tA3 : Ty := .comp [tB, tB, tB]
def A3In (x : A3u8N) : Prop := u8In x.e0 ∧ u8In x.e1 ∧ u8In x.e2
theorem A3_ofD {x : D} (h : tA3.hasD x) : ∃ a : A3u8N, x = A3u8N.d a ∧ A3In a := by
  obtain ⟨cs, rfl, h⟩ := h
  rw [Ty.hasL] at h
  obtain ⟨a0, b0, rfl, h0, h⟩ := h
  rw [Ty.hasL] at h
  obtain ⟨a1, b1, rfl, h1, h⟩ := h
  rw [Ty.hasL] at h
  obtain ⟨a2, b2, rfl, h2, h⟩ := h
  simp only [Ty.hasL] at h
  subst h
  obtain ⟨x0, rfl, p0⟩ := tB_of' h0
  obtain ⟨x1, rfl, p1⟩ := tB_of' h1
  obtain ⟨x2, rfl, p2⟩ := tB_of' h2
  exact ⟨⟨x0, x1, x2⟩, rfl, p0, p1, p2⟩
end Go.Vc

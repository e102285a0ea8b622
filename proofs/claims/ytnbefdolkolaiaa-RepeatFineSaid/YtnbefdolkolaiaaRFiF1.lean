/-
  A library for proofs about Go functions by symbolic evaluation, and plain Lean functions that the walked Go functions compute (written by a program of this claim).
-/
import Derived.Test.YtnbefdolkolaiaaW1
import Derived.Test.YtnbefdolkolaiaaW3
import Derived.Test.YtnbefdolkolaiaaW2
import Derived.Test.YtnbefdolkolaiaaVc3
namespace Go.Vc
open Go.Proofs
set_option linter.unusedVariables false
set_option linter.unnecessarySimpa false
set_option linter.unusedSimpArgs false
section
variable {c : Ctx} {p nid : Nat} {a b : Code} {st : St} {K : Ex → St → Prop}
def f37_c3 (a0' : Int) : Option (Int) :=
 some (a0')
def Lf37_c3 : Lp (Int) Unit (Int) := lp0 ⟨[0], [], [], []⟩ (fun a0' => [.dat (iN (a0'))]) (fun _ => []) (fun a0' => f37_c3 a0')
theorem Ef37_c3 {a0'} : (Lf37_c3).E a0' = f37_c3 a0' := rfl
def f37_1b (r1 : Int → Int → Option (Int)) (k0 : Int → Option (Int)) (a0' : Int) (b1 : Int) : Option (Int) :=
 bif decide ((0 : Int) < b1) then ((chk (decide (b1 ≠ 0))).bind fun _ =>
 r1 b1 (Int.tmod (a0') b1))
 else (k0 (a0'))
def f37_1 (k0 : Int → Option (Int)) : Nat → Int → Int → Option (Int)
  | 0, _, _ => none
  | n + 1, a0', b1 => f37_1b (f37_1 k0 n) k0 a0' b1
def Lf37_1 (k0 : Int → Option (Int)) : Lp (Nat × Int × Int) Unit (Int) := lp0 ⟨[0, 1], [], [], []⟩ (fun (_, a0', b1) => [.dat (iN (a0')), .dat (iN b1)]) (fun (_, _, _) => []) (fun (n, a0', b1) => f37_1 k0 n a0' b1)
theorem Ef37_1 {k0 n a0' b1} : (Lf37_1 k0).E (n, a0', b1) = f37_1 k0 n a0' b1 := rfl
def f37 (N : Nat) (a0 : Int) (a1 : Int) : Option (Int) :=
 joinK f37_c3 fun k0 =>
 f37_1 k0 N a0 a1
def G37 (ds : List D) (d : D) : Prop := ∃ (N : Nat) (a0 : Int) (a1 : Int) (r : Int), ds = [iN a0, iN a1] ∧ f37 N a0 a1 = some r ∧ d = iN r
theorem G37.lend {N : Nat} {a0 : Int} {a1 : Int} {ρ : Type} {A : Int → Option ρ} {q : ρ} {ds : List D} {K : D → Prop} (hd : ds = [iN a0, iN a1]) (h : ∀ r, A r = some q → K (iN r)) (hF : (f37 N a0 a1).bind A = some q) : ∃ d, (G37 ds d ∧ d.flatB = true) ∧ K d := by
  obtain ⟨r, hr, hA⟩ := bind_some hF
  exact ⟨_, ⟨⟨N, a0, a1, r, hd, hr, rfl⟩, rfl⟩, h r hA⟩
set_option maxRecDepth 20000 in
set_option maxHeartbeats 4000000 in
theorem P37 : PureOK Try.prog 37 G37 := by
  refine pure_of_vc (c := mkCtx tyTree []) rfl tyOK (ctx_nil) [[0]] 2 Try.func37 rfl rfl (by decide) (by kernel_rfl) ?_
  rintro ds d ⟨N, a0, a1, r, rfl, hF, rfl⟩ hok
  clear hok
  refine ⟨rfl, ?_⟩
  show vc _ _ _ _ ⟨[(0, .dat (iN a0)), (1, .dat (iN a1))], []⟩ _
  unfold f37 at hF
  repeat' (first
    | ((with_reducible first | refine q0 _ _ ?_ | refine q1 _ _ _ _ ?_ | refine q2 _ _ _ ?_); clear Q q0 q1 q2)
    | ((with_reducible first | refine seq_op ?hx (fun Q q0 q1 q2 => ?_) | refine draw_op ?hx (fun Q q0 q1 q2 => ?_)); (case hx => exact rfl); conv => whnf)
    | ((with_reducible refine cond_id ?_); (first | ((refine condKT rfl ?hy ?_); (case hy => first | assumption | exact notT (by assumption) | exact rfl)) | ((refine condKF rfl ?hy ?_); (case hy => first | assumption | exact notF (by assumption) | exact rfl)) | (revert hF; (with_reducible refine condF ?hx ?_ ?_); (case hx => exact rfl); all_goals (intro hc hF))))
    | ((with_reducible refine seq_nil ?_); (first | ((with_reducible refine hR _ ?_); clear R hR) | ((with_reducible refine hL _ ?_); clear L hL)))
    | ((with_reducible refine draw_nil ?_); (with_reducible refine hR _ _ ?hx ?_); (case hx => kernel_rfl); (first | clear R hR | clear hR))
    | ((with_reducible first | refine int_step ?_); conv => whnf)
    | (with_reducible first | refine vc_block ?_ | refine vc_skip ?_ | refine vc_ret ?_ | refine vc_exit ?_ | refine vc_region (fun R hR => ?_) | refine k_seq_ret ?_ | refine k_seq_exit ?_ | refine k_blk ?_ | refine k_blk_ret ?_ | refine k_blk_here ?_ | refine k_loop_ret ?_ | refine k_loop_exit ?_)
    | ((with_reducible refine vc_seqN [3] ?hx ?_); (case hx => exact rfl))
    | ((with_reducible refine vc_draw ?hx (fun R hR => ?_)); (case hx => exact rfl))
    | (revert hF; (refine Lp.cut0 Lf37_c3 f37_c3 3 rfl rfl ?_ ?_); (intro hF); rotate_left; (rintro a0' hF; dsimp only [Lf37_c3] at hF; unfold f37_c3 at hF); rotate_right)
    | exact Lp.head Ef37_c3 hF () ⟨_, rfl, rfl, rfl, rfl⟩ rfl
    | (revert hF; (refine Lp.loop Ef37_1 () rfl ⟨_, rfl, rfl, rfl, rfl⟩ rfl (fun _ => rfl) ?_); rintro n ⟨a0', b1⟩ hF; dsimp only [Lf37_1, f37_1] at hF; unfold f37_1b at hF)
    | exact Lp.back Ef37_1 hF () ⟨_, rfl, rfl, rfl, rfl⟩ rfl
    | ((with_reducible first | refine k_blk_out ?hx ?_ | refine vc_condT ?hx ?_); (case hx => exact rfl))
    | ((refine row_all ?hn ?_); (case hn => first | exact rfl | (simp; done) | (simp; omega)); conv => whnf)
    | ((with_reducible refine le_step ?hn ?_); (case hn => first | exact rfl | assumption | omega); conv => whnf)
    | ((refine ⟨?hx, ?_⟩); (case hx => exact ⟨rfl, Nat.le_of_ble_eq_true rfl, rfl⟩); conv => whnf)
    | ((with_reducible refine ex_step ?_); conv => whnf)
    | ((with_reducible have hG := chk_fact hF); clear hF; (refine ⟨?hx, ?_⟩); (case hx => (first | exact of_decide_eq_true hG.1 | exact hG.1)); have hF := hG.2; clear hG; conv => whnf)
    | ((with_reducible refine both_T ?hx ?_); (case hx => first | exact rfl | assumption | exact notT (by assumption)); conv => whnf)
    | ((with_reducible refine both_F ?hx ?_); (case hx => first | exact rfl | assumption | exact notF (by assumption)); conv => whnf)
    | (revert hF; (with_reducible refine ite_step ?_ ?_) <;> (intro hc hF; conv => whnf))
    | ((with_reducible refine vc_condF ?hx ?_); (case hx => exact rfl))
    | (show retD _ _ _ _ _ _; conv => whnf)
    | ((refine ⟨?hx, trivial⟩); (case hx => (cases hF; exact rfl)))
    | ((refine ⟨?hx, ?_⟩); (case hx => decide); conv => whnf)
    | with_reducible refine k_seq ?_
    | (have hF : (none : Option _) = some _ := hF; cases hF))
end
end Go.Vc
namespace Go.Vc
open Go.Proofs
set_option linter.unusedVariables false
set_option linter.unnecessarySimpa false
set_option linter.unusedSimpArgs false
section
variable {c : Ctx} {p nid : Nat} {a b : Code} {st : St} {K : Ex → St → Prop}
def f38_c6 (a0 : ByteArray) (a1 : Int) : Option (Bool) :=
 bif decide ((1 : Int) ≤ a1) then (some (decide (a1 ≤ (ByteArray.size a0 : Int))))
 else (some (false))
def Lf38_c6 (a0 : ByteArray) (a1 : Int) : Lp (Unit) Unit (Bool) := lp0 ⟨[0, 1], [], [], []⟩ (fun _ => [.dat (strN a0), .dat (iN a1)]) (fun _ => []) (fun _ => f38_c6 a0 a1)
theorem Ef38_c6 {a0 a1} : (Lf38_c6 a0 a1).E () = f38_c6 a0 a1 := rfl
def f38_2b (r2 : Nat → Option (Bool)) (a0 : ByteArray) (a1 : Int) (k0 : Option (Bool)) (p101 : Nat) : Option (Bool) :=
 bif decide (p101 < ByteArray.size a0) then ((some (runeAt a0 p101)).bind fun x1 =>
 bif decide (a1 ≤ (((p101 : Nat) : Int) : Int)) then ((idxS a0 (((p101 : Nat) : Int) : Int)).bind fun x2 =>
 (idxS a0 (W ((((p101 : Nat) : Int) : Int) - a1))).bind fun x3 =>
 bif decide (¬ x2 = x3) then (some (false))
 else (r2 x1.2))
 else (r2 x1.2))
 else k0
def f38_2 (a0 : ByteArray) (a1 : Int) (k0 : Option (Bool)) : Nat → Nat → Option (Bool)
  | 0, _ => none
  | n + 1, p101 => f38_2b (f38_2 a0 a1 k0 n) a0 a1 k0 p101
def Lf38_2 (a0 : ByteArray) (a1 : Int) (k0 : Option (Bool)) : Lp (Nat × Nat) Unit (Bool) := lp0 ⟨[0, 1, 7], [101], [], []⟩ (fun (_, _) => [.dat (strN a0), .dat (iN a1), .ptr 101 0]) (fun (_, p101) => [.sit a0 p101]) (fun (n, p101) => f38_2 a0 a1 k0 n p101)
theorem Ef38_2 {a0 a1 k0 n p101} : (Lf38_2 a0 a1 k0).E (n, p101) = f38_2 a0 a1 k0 n p101 := rfl
def f38 (N : Nat) (a0 : ByteArray) (a1 : Int) : Option (Bool) :=
 joinK (f38_c6 a0 a1) fun k0 =>
 f38_2 a0 a1 k0 N 0
def G38 (ds : List D) (d : D) : Prop := ∃ (N : Nat) (a0 : ByteArray) (a1 : Int) (r : Bool), ds = [strN a0, iN a1] ∧ f38 N a0 a1 = some r ∧ d = bN r
theorem G38.lend {N : Nat} {a0 : ByteArray} {a1 : Int} {ρ : Type} {A : Bool → Option ρ} {q : ρ} {ds : List D} {K : D → Prop} (hd : ds = [strN a0, iN a1]) (h : ∀ r, A r = some q → K (bN r)) (hF : (f38 N a0 a1).bind A = some q) : ∃ d, (G38 ds d ∧ d.flatB = true) ∧ K d := by
  obtain ⟨r, hr, hA⟩ := bind_some hF
  exact ⟨_, ⟨⟨N, a0, a1, r, hd, hr, rfl⟩, rfl⟩, h r hA⟩
set_option maxRecDepth 20000 in
set_option maxHeartbeats 4000000 in
theorem P38 : PureOK Try.prog 38 G38 := by
  refine pure_of_vc (c := mkCtx tyTree []) rfl tyOK (ctx_nil) [[0]] 2 Try.func38 rfl rfl (by decide) (by kernel_rfl) ?_
  rintro ds d ⟨N, a0, a1, r, rfl, hF, rfl⟩ hok
  clear hok
  refine ⟨rfl, ?_⟩
  show vc _ _ _ _ ⟨[(0, .dat (strN a0)), (1, .dat (iN a1))], []⟩ _
  unfold f38 at hF
  repeat' (first
    | ((with_reducible first | refine q0 _ _ ?_ | refine q1 _ _ _ _ ?_ | refine q2 _ _ _ ?_); clear Q q0 q1 q2)
    | ((with_reducible first | refine seq_op ?hx (fun Q q0 q1 q2 => ?_) | refine draw_op ?hx (fun Q q0 q1 q2 => ?_)); (case hx => exact rfl); conv => whnf)
    | ((with_reducible first | refine seq_off ?hx ?_ | refine seq_off0 ?hx ?_ | refine draw_off ?hx ?_ | refine draw_off0 ?hx ?_ | refine k_blk_out ?hx ?_ | refine vc_condT ?hx ?_); (case hx => exact rfl))
    | ((with_reducible refine seq_id ?_); (first | ((first | refine seq_opK rfl ?hy (fun Q q0 q1 q2 => ?_) | refine seq_opK0 rfl ?hy (fun Q q0 q1 q2 => ?_)); (case hy => first | assumption | exact notT (by assumption) | exact rfl); conv => whnf) | ((first | refine seq_offK rfl ?hy ?_ | refine seq_offK0 rfl ?hy ?_); (case hy => first | assumption | exact notF (by assumption) | exact rfl)) | (revert hF; (with_reducible first | refine seq_opF ?hx ?_ ?_ | refine seq_opF0 ?hx ?_ ?_); (case hx => exact rfl); (intro hc hF Q q0 q1 q2; conv => whnf); rotate_left; (intro hc hF); rotate_right) | (revert hF; (with_reducible first | refine seq_opN ?hx ?_ ?_ | refine seq_opN0 ?hx ?_ ?_); (case hx => exact rfl); (intro hc hF); rotate_left; (intro hc hF Q q0 q1 q2; conv => whnf); rotate_right)))
    | ((with_reducible refine draw_id ?_); (first | ((first | refine draw_opK rfl ?hy (fun Q q0 q1 q2 => ?_) | refine draw_opK0 rfl ?hy (fun Q q0 q1 q2 => ?_)); (case hy => first | assumption | exact notT (by assumption) | exact rfl); conv => whnf) | ((first | refine draw_offK rfl ?hy ?_ | refine draw_offK0 rfl ?hy ?_); (case hy => first | assumption | exact notF (by assumption) | exact rfl)) | (revert hF; (with_reducible first | refine draw_opF ?hx ?_ ?_ | refine draw_opF0 ?hx ?_ ?_); (case hx => exact rfl); (intro hc hF Q q0 q1 q2; conv => whnf); rotate_left; (intro hc hF); rotate_right) | (revert hF; (with_reducible first | refine draw_opN ?hx ?_ ?_ | refine draw_opN0 ?hx ?_ ?_); (case hx => exact rfl); (intro hc hF); rotate_left; (intro hc hF Q q0 q1 q2; conv => whnf); rotate_right)))
    | ((with_reducible refine cond_id ?_); (first | ((refine condKT rfl ?hy ?_); (case hy => first | assumption | exact notT (by assumption) | exact rfl)) | ((refine condKF rfl ?hy ?_); (case hy => first | assumption | exact notF (by assumption) | exact rfl)) | (revert hF; (with_reducible refine condF ?hx ?_ ?_); (case hx => exact rfl); all_goals (intro hc hF))))
    | ((with_reducible refine seq_nil ?_); (first | ((with_reducible refine hR _ ?_); clear R hR) | ((with_reducible refine hL _ ?_); clear L hL)))
    | ((with_reducible refine draw_nil ?_); (with_reducible refine hR _ _ ?hx ?_); (case hx => kernel_rfl); (first | clear R hR | clear hR))
    | ((with_reducible first | refine int_step ?_); conv => whnf)
    | (with_reducible first | refine vc_block ?_ | refine vc_skip ?_ | refine vc_ret ?_ | refine vc_exit ?_ | refine vc_region (fun R hR => ?_) | refine k_seq_ret ?_ | refine k_seq_exit ?_ | refine k_blk ?_ | refine k_blk_ret ?_ | refine k_blk_here ?_ | refine k_loop_ret ?_ | refine k_loop_exit ?_)
    | ((with_reducible refine vc_seqN [6] ?hx ?_); (case hx => exact rfl))
    | ((with_reducible refine vc_draw ?hx (fun R hR => ?_)); (case hx => exact rfl))
    | (revert hF; (refine Lp.cut2 Lf38_c6 f38_c6 6 rfl rfl ?_ ?_); (intro hF); rotate_left; (rintro _ hF; dsimp only [Lf38_c6] at hF; unfold f38_c6 at hF); rotate_right)
    | exact Lp.head Ef38_c6 hF () ⟨_, rfl, rfl, rfl, rfl⟩ rfl
    | (revert hF; (refine Lp.loop Ef38_2 () rfl ⟨_, rfl, rfl, rfl, rfl⟩ rfl (fun _ => rfl) ?_); rintro n p101 hF; dsimp only [Lf38_2, f38_2] at hF; unfold f38_2b at hF)
    | exact Lp.back Ef38_2 hF () ⟨_, rfl, rfl, rfl, rfl⟩ rfl
    | (revert hF; (refine idxS_step ?_); intro x hF; conv => whnf)
    | (revert hF; (refine some_step ?_); intro x hF; conv => whnf)
    | ((refine row_all ?hn ?_); (case hn => first | exact rfl | (simp; done) | (simp; omega)); conv => whnf)
    | ((with_reducible refine le_step ?hn ?_); (case hn => first | exact rfl | assumption | omega); conv => whnf)
    | ((refine ⟨?hx, ?_⟩); (case hx => exact ⟨rfl, Nat.le_of_ble_eq_true rfl, rfl⟩); conv => whnf)
    | ((with_reducible refine ex_step ?_); conv => whnf)
    | ((with_reducible refine both_T ?hx ?_); (case hx => first | exact rfl | assumption | exact notT (by assumption)); conv => whnf)
    | ((with_reducible refine both_F ?hx ?_); (case hx => first | exact rfl | assumption | exact notF (by assumption)); conv => whnf)
    | (revert hF; (with_reducible refine ite_step ?_ ?_) <;> (intro hc hF; conv => whnf))
    | ((with_reducible refine vc_condF ?hx ?_); (case hx => exact rfl))
    | (show retD _ _ _ _ _ _; conv => whnf)
    | ((refine ⟨?hx, trivial⟩); (case hx => (cases hF; exact rfl)))
    | ((refine ⟨?hx, ?_⟩); (case hx => decide); conv => whnf)
    | with_reducible refine k_seq ?_
    | (have hF : (none : Option _) = some _ := hF; cases hF))
end
end Go.Vc
namespace Go.Vc
open Go.Proofs
set_option linter.unusedVariables false
set_option linter.unnecessarySimpa false
set_option linter.unusedSimpArgs false
section
variable {c : Ctx} {p nid : Nat} {a b : Code} {st : St} {K : Ex → St → Prop}
def f7_i3311_c7 (x6 : (List Int) × Int) : Option (Bool) :=
 some (false)
def Lf7_i3311_c7 (x6 : (List Int) × Int) : Lp (Unit) Unit (Bool) := lp0 ⟨[], [3105], [], []⟩ (fun _ => []) (fun _ => [.box [.dat (sl_iN x6.1)]]) (fun _ => f7_i3311_c7 x6)
theorem Ef7_i3311_c7 {x6} : (Lf7_i3311_c7 x6).E () = f7_i3311_c7 x6 := rfl
def f7_i3316_c7 (x6 : (List Int) × Int) : Option (Bool) :=
 some (false)
def Lf7_i3316_c7 (x6 : (List Int) × Int) : Lp (Unit) Unit (Bool) := lp0 ⟨[], [3105], [], []⟩ (fun _ => []) (fun _ => [.box [.dat (sl_iN x6.1)]]) (fun _ => f7_i3316_c7 x6)
theorem Ef7_i3316_c7 {x6} : (Lf7_i3316_c7 x6).E () = f7_i3316_c7 x6 := rfl
def f7_i3329_c7 (x6 : (List Int) × Int) : Option (Bool) :=
 some (false)
def Lf7_i3329_c7 (x6 : (List Int) × Int) : Lp (Unit) Unit (Bool) := lp0 ⟨[], [3105], [], []⟩ (fun _ => []) (fun _ => [.box [.dat (sl_iN x6.1)]]) (fun _ => f7_i3329_c7 x6)
theorem Ef7_i3329_c7 {x6} : (Lf7_i3329_c7 x6).E () = f7_i3329_c7 x6 := rfl
def f7_i3329_2b (r2xx : Int → Option (Bool)) (N : Nat) (x1 : Int) (x6 : (List Int) × Int) (k2 : Option (Bool)) (v8'' : Int) : Option (Bool) :=
 bif decide ((v8'') < (List.length x6.1 : Int)) then ((ix x6.1 (v8'')).bind fun x10 =>
 bif decide (x1 = x10) then ((f15 N ).bind fun x11 =>
 some (x11))
 else (r2xx (W ((v8'') + (1 : Int)))))
 else k2
def f7_i3329_2 (N : Nat) (x1 : Int) (x6 : (List Int) × Int) (k2 : Option (Bool)) : Nat → Int → Option (Bool)
  | 0, _ => none
  | n + 1, v8'' => f7_i3329_2b (f7_i3329_2 N x1 x6 k2 n) N x1 x6 k2 v8''
def Lf7_i3329_2 (N : Nat) (x1 : Int) (x6 : (List Int) × Int) (k2 : Option (Bool)) : Lp (Nat × Int) Unit (Bool) := lp0 ⟨[0, 6, 7, 8], [3105], [], []⟩ (fun (_, v8'') => [.dat (iN x1), .dat (sl_iN x6.1), .dat (iN (List.length x6.1 : Int)), .dat (iN (v8''))]) (fun (_, _) => [.box [.dat (sl_iN x6.1)]]) (fun (n, v8'') => f7_i3329_2 N x1 x6 k2 n v8'')
theorem Ef7_i3329_2 {N x1 x6 k2 n v8''} : (Lf7_i3329_2 N x1 x6 k2).E (n, v8'') = f7_i3329_2 N x1 x6 k2 n v8'' := rfl
def f7_i3316_2b (r2x : Int → Option (Bool)) (a0 : A3u8N) (N : Nat) (x1 : Int) (x6 : (List Int) × Int) (k1 : Option (Bool)) (v8' : Int) : Option (Bool) :=
 bif decide ((v8') < (List.length x6.1 : Int)) then ((ix x6.1 (v8')).bind fun x8 =>
 bif decide ((W ((1 : Int) + (Int.tmod a0.e2 (W ((1 : Int) + (Int.tmod a0.e0 (24 : Int))))))) = x8) then (bif decide ((W ((1 : Int) + (Int.tmod a0.e0 (24 : Int)))) < (W ((W ((W ((1 : Int) + (Int.tmod a0.e1 (W ((1 : Int) + (Int.tmod a0.e0 (24 : Int))))))) + (W ((1 : Int) + (Int.tmod a0.e2 (W ((1 : Int) + (Int.tmod a0.e0 (24 : Int))))))))) - x1))) then ((f15 N ).bind fun x9 =>
 some (x9))
 else (joinK (f7_i3329_c7 x6) fun k2 =>
 f7_i3329_2 N x1 x6 k2 N (0 : Int)))
 else (r2x (W ((v8') + (1 : Int)))))
 else k1
def f7_i3316_2 (a0 : A3u8N) (N : Nat) (x1 : Int) (x6 : (List Int) × Int) (k1 : Option (Bool)) : Nat → Int → Option (Bool)
  | 0, _ => none
  | n + 1, v8' => f7_i3316_2b (f7_i3316_2 a0 N x1 x6 k1 n) a0 N x1 x6 k1 v8'
def Lf7_i3316_2 (a0 : A3u8N) (N : Nat) (x1 : Int) (x6 : (List Int) × Int) (k1 : Option (Bool)) : Lp (Nat × Int) Unit (Bool) := lp0 ⟨[0, 6, 7, 8], [3105], [], []⟩ (fun (_, v8') => [.dat (iN (W ((1 : Int) + (Int.tmod a0.e2 (W ((1 : Int) + (Int.tmod a0.e0 (24 : Int)))))))), .dat (sl_iN x6.1), .dat (iN (List.length x6.1 : Int)), .dat (iN (v8'))]) (fun (_, _) => [.box [.dat (sl_iN x6.1)]]) (fun (n, v8') => f7_i3316_2 a0 N x1 x6 k1 n v8')
theorem Ef7_i3316_2 {a0 N x1 x6 k1 n v8'} : (Lf7_i3316_2 a0 N x1 x6 k1).E (n, v8') = f7_i3316_2 a0 N x1 x6 k1 n v8' := rfl
def f7_i3311_2b (r2 : Int → Option (Bool)) (a0 : A3u8N) (N : Nat) (x1 : Int) (x6 : (List Int) × Int) (k0 : Option (Bool)) (v8 : Int) : Option (Bool) :=
 bif decide (v8 < (List.length x6.1 : Int)) then ((ix x6.1 v8).bind fun x7 =>
 bif decide ((W ((1 : Int) + (Int.tmod a0.e1 (W ((1 : Int) + (Int.tmod a0.e0 (24 : Int))))))) = x7) then (joinK (f7_i3316_c7 x6) fun k1 =>
 f7_i3316_2 a0 N x1 x6 k1 N (0 : Int))
 else (r2 (W (v8 + (1 : Int)))))
 else k0
def f7_i3311_2 (a0 : A3u8N) (N : Nat) (x1 : Int) (x6 : (List Int) × Int) (k0 : Option (Bool)) : Nat → Int → Option (Bool)
  | 0, _ => none
  | n + 1, v8 => f7_i3311_2b (f7_i3311_2 a0 N x1 x6 k0 n) a0 N x1 x6 k0 v8
def Lf7_i3311_2 (a0 : A3u8N) (N : Nat) (x1 : Int) (x6 : (List Int) × Int) (k0 : Option (Bool)) : Lp (Nat × Int) Unit (Bool) := lp0 ⟨[0, 6, 7, 8], [3105], [], []⟩ (fun (_, v8) => [.dat (iN (W ((1 : Int) + (Int.tmod a0.e1 (W ((1 : Int) + (Int.tmod a0.e0 (24 : Int)))))))), .dat (sl_iN x6.1), .dat (iN (List.length x6.1 : Int)), .dat (iN v8)]) (fun (_, _) => [.box [.dat (sl_iN x6.1)]]) (fun (n, v8) => f7_i3311_2 a0 N x1 x6 k0 n v8)
theorem Ef7_i3311_2 {a0 N x1 x6 k0 n v8} : (Lf7_i3311_2 a0 N x1 x6 k0).E (n, v8) = f7_i3311_2 a0 N x1 x6 k0 n v8 := rfl
def f7_c31 (a0 : A3u8N) (N : Nat) (x1 : Int) (x3 : (List Int) × Int) (v15 : Int) (v17 : ByteArray) : Option (Bool) :=
 (f16 N v17).bind fun x6 =>
 bif decide (x6.2 = (0 : Int)) then (bif decide (v15 = (List.length x3.1 : Int)) then (joinK (f7_i3311_c7 x6) fun k0 =>
 f7_i3311_2 a0 N x1 x6 k0 N (0 : Int))
 else (some (false)))
 else (some (false))
def Lf7_c31 (a0 : A3u8N) (N : Nat) (x1 : Int) (x3 : (List Int) × Int) (v15 : Int) : Lp (ByteArray) Unit (Bool) := lp0 ⟨[5, 6, 7, 8, 11, 15, 17], [], [], []⟩ (fun v17 => [.dat (iN (W ((1 : Int) + (Int.tmod a0.e0 (24 : Int))))), .dat (iN (W ((1 : Int) + (Int.tmod a0.e1 (W ((1 : Int) + (Int.tmod a0.e0 (24 : Int)))))))), .dat (iN (W ((1 : Int) + (Int.tmod a0.e2 (W ((1 : Int) + (Int.tmod a0.e0 (24 : Int)))))))), .dat (iN x1), .dat (sl_iN x3.1), .dat (iN v15), .dat (strN v17)]) (fun _ => []) (fun v17 => f7_c31 a0 N x1 x3 v15 v17)
theorem Ef7_c31 {a0 N x1 x3 v15 v17} : (Lf7_c31 a0 N x1 x3 v15).E v17 = f7_c31 a0 N x1 x3 v15 v17 := rfl
def f7_28b (r28 : ByteArray → Nat → Option (Bool)) (a0 : A3u8N) (a1 : A24u8N) (x1 : Int) (x2 : ByteArray × Int) (x3 : (List Int) × Int) (v15 : Int) (k3 : ByteArray → Option (Bool)) (v17 : ByteArray) (p2701 : Nat) : Option (Bool) :=
 bif decide (p2701 < ByteArray.size x2.1) then ((some (runeAt x2.1 p2701)).bind fun x12 =>
 (idxS x2.1 (((p2701 : Nat) : Int) : Int)).bind fun x13 =>
 (chkI 24 (W (x13 - (97 : Int)))).bind fun _ =>
 (ixN [a1.e0, a1.e1, a1.e2, a1.e3, a1.e4, a1.e5, a1.e6, a1.e7, a1.e8, a1.e9, a1.e10, a1.e11, a1.e12, a1.e13, a1.e14, a1.e15, a1.e16, a1.e17, a1.e18, a1.e19, a1.e20, a1.e21, a1.e22, a1.e23] (Int.toNat (W (x13 - (97 : Int))))).bind fun x14 =>
 (strOf [Wk .u8 ((97 : Int) + (Int.tmod x14 (5 : Int)))]).bind fun x15 =>
 (addS v17 x15).bind fun x16 =>
 r28 x16 x12.2)
 else (k3 v17)
def f7_28 (a0 : A3u8N) (a1 : A24u8N) (x1 : Int) (x2 : ByteArray × Int) (x3 : (List Int) × Int) (v15 : Int) (k3 : ByteArray → Option (Bool)) : Nat → ByteArray → Nat → Option (Bool)
  | 0, _, _ => none
  | n + 1, v17, p2701 => f7_28b (f7_28 a0 a1 x1 x2 x3 v15 k3 n) a0 a1 x1 x2 x3 v15 k3 v17 p2701
def Lf7_28 (a0 : A3u8N) (a1 : A24u8N) (x1 : Int) (x2 : ByteArray × Int) (x3 : (List Int) × Int) (v15 : Int) (k3 : ByteArray → Option (Bool)) : Lp (Nat × ByteArray × Nat) Unit (Bool) := lp0 ⟨[3, 5, 6, 7, 8, 9, 11, 15, 17, 169], [1, 2701], [], []⟩ (fun (_, v17, _) => [.ptr 1 0, .dat (iN (W ((1 : Int) + (Int.tmod a0.e0 (24 : Int))))), .dat (iN (W ((1 : Int) + (Int.tmod a0.e1 (W ((1 : Int) + (Int.tmod a0.e0 (24 : Int)))))))), .dat (iN (W ((1 : Int) + (Int.tmod a0.e2 (W ((1 : Int) + (Int.tmod a0.e0 (24 : Int)))))))), .dat (iN x1), .dat (strN x2.1), .dat (sl_iN x3.1), .dat (iN v15), .dat (strN v17), .ptr 2701 0]) (fun (_, _, p2701) => [.arr (List.map u8N [a1.e0, a1.e1, a1.e2, a1.e3, a1.e4, a1.e5, a1.e6, a1.e7, a1.e8, a1.e9, a1.e10, a1.e11, a1.e12, a1.e13, a1.e14, a1.e15, a1.e16, a1.e17, a1.e18, a1.e19, a1.e20, a1.e21, a1.e22, a1.e23]), .sit x2.1 p2701]) (fun (n, v17, p2701) => f7_28 a0 a1 x1 x2 x3 v15 k3 n v17 p2701)
theorem Ef7_28 {a0 a1 x1 x2 x3 v15 k3 n v17 p2701} : (Lf7_28 a0 a1 x1 x2 x3 v15 k3).E (n, v17, p2701) = f7_28 a0 a1 x1 x2 x3 v15 k3 n v17 p2701 := rfl
def f7_c26 (a0 : A3u8N) (a1 : A24u8N) (N : Nat) (x1 : Int) (x2 : ByteArray × Int) (x3 : (List Int) × Int) (v15 : Int) : Option (Bool) :=
 joinK (f7_c31 a0 N x1 x3 v15) fun k3 =>
 f7_28 a0 a1 x1 x2 x3 v15 k3 N emptyS 0
def Lf7_c26 (a0 : A3u8N) (a1 : A24u8N) (N : Nat) (x1 : Int) (x2 : ByteArray × Int) (x3 : (List Int) × Int) : Lp (Int) Unit (Bool) := lp0 ⟨[3, 5, 6, 7, 8, 9, 11, 15], [1], [], []⟩ (fun v15 => [.ptr 1 0, .dat (iN (W ((1 : Int) + (Int.tmod a0.e0 (24 : Int))))), .dat (iN (W ((1 : Int) + (Int.tmod a0.e1 (W ((1 : Int) + (Int.tmod a0.e0 (24 : Int)))))))), .dat (iN (W ((1 : Int) + (Int.tmod a0.e2 (W ((1 : Int) + (Int.tmod a0.e0 (24 : Int)))))))), .dat (iN x1), .dat (strN x2.1), .dat (sl_iN x3.1), .dat (iN v15)]) (fun _ => [.arr (List.map u8N [a1.e0, a1.e1, a1.e2, a1.e3, a1.e4, a1.e5, a1.e6, a1.e7, a1.e8, a1.e9, a1.e10, a1.e11, a1.e12, a1.e13, a1.e14, a1.e15, a1.e16, a1.e17, a1.e18, a1.e19, a1.e20, a1.e21, a1.e22, a1.e23])]) (fun v15 => f7_c26 a0 a1 N x1 x2 x3 v15)
theorem Ef7_c26 {a0 a1 N x1 x2 x3 v15} : (Lf7_c26 a0 a1 N x1 x2 x3).E v15 = f7_c26 a0 a1 N x1 x2 x3 v15 := rfl
def f7_20b (r20 : Int → Int → Option (Bool)) (a0 : A3u8N) (a1 : A24u8N) (N : Nat) (x1 : Int) (x2 : ByteArray × Int) (x3 : (List Int) × Int) (k4 : Int → Option (Bool)) (v15 : Int) (v16 : Int) : Option (Bool) :=
 bif decide (v16 ≤ (W ((1 : Int) + (Int.tmod a0.e0 (24 : Int))))) then ((f38 N x2.1 v16).bind fun x17 =>
 bif decide (v15 < (List.length x3.1 : Int)) then ((ix x3.1 v15).bind fun x18 =>
 bif !(x17 == (decide (x18 = v16))) then (some (false))
 else ((f38 N x2.1 v16).bind fun x19 =>
 bif x19 then (r20 (W (v15 + (1 : Int))) (W (v16 + (1 : Int))))
 else (r20 v15 (W (v16 + (1 : Int))))))
 else (bif !(x17 == false) then (some (false))
 else ((f38 N x2.1 v16).bind fun x20 =>
 bif x20 then (r20 (W (v15 + (1 : Int))) (W (v16 + (1 : Int))))
 else (r20 v15 (W (v16 + (1 : Int)))))))
 else (k4 v15)
def f7_20 (a0 : A3u8N) (a1 : A24u8N) (N : Nat) (x1 : Int) (x2 : ByteArray × Int) (x3 : (List Int) × Int) (k4 : Int → Option (Bool)) : Nat → Int → Int → Option (Bool)
  | 0, _, _ => none
  | n + 1, v15, v16 => f7_20b (f7_20 a0 a1 N x1 x2 x3 k4 n) a0 a1 N x1 x2 x3 k4 v15 v16
def Lf7_20 (a0 : A3u8N) (a1 : A24u8N) (N : Nat) (x1 : Int) (x2 : ByteArray × Int) (x3 : (List Int) × Int) (k4 : Int → Option (Bool)) : Lp (Nat × Int × Int) Unit (Bool) := lp0 ⟨[3, 5, 6, 7, 8, 9, 11, 15, 16], [1], [], []⟩ (fun (_, v15, v16) => [.ptr 1 0, .dat (iN (W ((1 : Int) + (Int.tmod a0.e0 (24 : Int))))), .dat (iN (W ((1 : Int) + (Int.tmod a0.e1 (W ((1 : Int) + (Int.tmod a0.e0 (24 : Int)))))))), .dat (iN (W ((1 : Int) + (Int.tmod a0.e2 (W ((1 : Int) + (Int.tmod a0.e0 (24 : Int)))))))), .dat (iN x1), .dat (strN x2.1), .dat (sl_iN x3.1), .dat (iN v15), .dat (iN v16)]) (fun (_, _, _) => [.arr (List.map u8N [a1.e0, a1.e1, a1.e2, a1.e3, a1.e4, a1.e5, a1.e6, a1.e7, a1.e8, a1.e9, a1.e10, a1.e11, a1.e12, a1.e13, a1.e14, a1.e15, a1.e16, a1.e17, a1.e18, a1.e19, a1.e20, a1.e21, a1.e22, a1.e23])]) (fun (n, v15, v16) => f7_20 a0 a1 N x1 x2 x3 k4 n v15 v16)
theorem Ef7_20 {a0 a1 N x1 x2 x3 k4 n v15 v16} : (Lf7_20 a0 a1 N x1 x2 x3 k4).E (n, v15, v16) = f7_20 a0 a1 N x1 x2 x3 k4 n v15 v16 := rfl
def f7_c18 (a0 : A3u8N) (a1 : A24u8N) (N : Nat) (x1 : Int) (x2 : ByteArray × Int) (x3 : (List Int) × Int) : Option (Bool) :=
 joinK (f7_c26 a0 a1 N x1 x2 x3) fun k4 =>
 f7_20 a0 a1 N x1 x2 x3 k4 N (0 : Int) (1 : Int)
def Lf7_c18 (a0 : A3u8N) (a1 : A24u8N) (N : Nat) (x1 : Int) (x2 : ByteArray × Int) (x3 : (List Int) × Int) : Lp (Unit) Unit (Bool) := lp0 ⟨[3, 5, 6, 7, 8, 9, 11], [1], [], []⟩ (fun _ => [.ptr 1 0, .dat (iN (W ((1 : Int) + (Int.tmod a0.e0 (24 : Int))))), .dat (iN (W ((1 : Int) + (Int.tmod a0.e1 (W ((1 : Int) + (Int.tmod a0.e0 (24 : Int)))))))), .dat (iN (W ((1 : Int) + (Int.tmod a0.e2 (W ((1 : Int) + (Int.tmod a0.e0 (24 : Int)))))))), .dat (iN x1), .dat (strN x2.1), .dat (sl_iN x3.1)]) (fun _ => [.arr (List.map u8N [a1.e0, a1.e1, a1.e2, a1.e3, a1.e4, a1.e5, a1.e6, a1.e7, a1.e8, a1.e9, a1.e10, a1.e11, a1.e12, a1.e13, a1.e14, a1.e15, a1.e16, a1.e17, a1.e18, a1.e19, a1.e20, a1.e21, a1.e22, a1.e23])]) (fun _ => f7_c18 a0 a1 N x1 x2 x3)
theorem Ef7_c18 {a0 a1 N x1 x2 x3} : (Lf7_c18 a0 a1 N x1 x2 x3).E () = f7_c18 a0 a1 N x1 x2 x3 := rfl
def f7_c16 (a0 : A3u8N) (a1 : A24u8N) (N : Nat) (x1 : Int) (x2 : ByteArray × Int) (x3 : (List Int) × Int) (v13 : Int) : Option (Bool) :=
 joinK (f7_c18 a0 a1 N x1 x2 x3) fun k5 =>
 bif decide (¬ v13 = (max x1 (W ((W ((W ((1 : Int) + (Int.tmod a0.e1 (W ((1 : Int) + (Int.tmod a0.e0 (24 : Int))))))) + (W ((1 : Int) + (Int.tmod a0.e2 (W ((1 : Int) + (Int.tmod a0.e0 (24 : Int))))))))) - (W ((1 : Int) + (Int.tmod a0.e0 (24 : Int)))))))) then (some (false))
 else (bif decide ((W ((W ((W ((1 : Int) + (Int.tmod a0.e1 (W ((1 : Int) + (Int.tmod a0.e0 (24 : Int))))))) + (W ((1 : Int) + (Int.tmod a0.e2 (W ((1 : Int) + (Int.tmod a0.e0 (24 : Int))))))))) - x1)) ≤ (W ((1 : Int) + (Int.tmod a0.e0 (24 : Int))))) then ((f38 N x2.1 x1).bind fun x21 =>
 bif !x21 then (some (false))
 else (bif decide ((W ((1 : Int) + (Int.tmod a0.e0 (24 : Int)))) < (W ((W ((W ((1 : Int) + (Int.tmod a0.e1 (W ((1 : Int) + (Int.tmod a0.e0 (24 : Int))))))) + (W ((1 : Int) + (Int.tmod a0.e2 (W ((1 : Int) + (Int.tmod a0.e0 (24 : Int))))))))) - x1))) then ((f38 N x2.1 x1).bind fun x22 =>
 bif x22 then (some (false))
 else k5)
 else k5))
 else (bif decide ((W ((1 : Int) + (Int.tmod a0.e0 (24 : Int)))) < (W ((W ((W ((1 : Int) + (Int.tmod a0.e1 (W ((1 : Int) + (Int.tmod a0.e0 (24 : Int))))))) + (W ((1 : Int) + (Int.tmod a0.e2 (W ((1 : Int) + (Int.tmod a0.e0 (24 : Int))))))))) - x1))) then ((f38 N x2.1 x1).bind fun x23 =>
 bif x23 then (some (false))
 else k5)
 else k5))
def Lf7_c16 (a0 : A3u8N) (a1 : A24u8N) (N : Nat) (x1 : Int) (x2 : ByteArray × Int) (x3 : (List Int) × Int) : Lp (Int) Unit (Bool) := lp0 ⟨[3, 5, 6, 7, 8, 9, 11, 13], [1], [], []⟩ (fun v13 => [.ptr 1 0, .dat (iN (W ((1 : Int) + (Int.tmod a0.e0 (24 : Int))))), .dat (iN (W ((1 : Int) + (Int.tmod a0.e1 (W ((1 : Int) + (Int.tmod a0.e0 (24 : Int)))))))), .dat (iN (W ((1 : Int) + (Int.tmod a0.e2 (W ((1 : Int) + (Int.tmod a0.e0 (24 : Int)))))))), .dat (iN x1), .dat (strN x2.1), .dat (sl_iN x3.1), .dat (iN v13)]) (fun _ => [.arr (List.map u8N [a1.e0, a1.e1, a1.e2, a1.e3, a1.e4, a1.e5, a1.e6, a1.e7, a1.e8, a1.e9, a1.e10, a1.e11, a1.e12, a1.e13, a1.e14, a1.e15, a1.e16, a1.e17, a1.e18, a1.e19, a1.e20, a1.e21, a1.e22, a1.e23])]) (fun v13 => f7_c16 a0 a1 N x1 x2 x3 v13)
theorem Ef7_c16 {a0 a1 N x1 x2 x3 v13} : (Lf7_c16 a0 a1 N x1 x2 x3).E v13 = f7_c16 a0 a1 N x1 x2 x3 v13 := rfl
def f7_10b (r10 : Int → Nat → Option (Bool)) (a0 : A3u8N) (a1 : A24u8N) (x1 : Int) (x2 : ByteArray × Int) (x3 : (List Int) × Int) (k6 : Int → Option (Bool)) (v13 : Int) (p901 : Nat) : Option (Bool) :=
 bif decide (p901 < ByteArray.size x2.1) then ((some (runeAt x2.1 p901)).bind fun x24 =>
 (idxS x2.1 (((p901 : Nat) : Int) : Int)).bind fun x25 =>
 bif decide ((W ((97 : Int) + v13)) < x25) then (some (false))
 else ((idxS x2.1 (((p901 : Nat) : Int) : Int)).bind fun x26 =>
 bif decide (x26 < (97 : Int)) then (some (false))
 else ((idxS x2.1 (((p901 : Nat) : Int) : Int)).bind fun x27 =>
 bif decide (x27 = (W ((97 : Int) + v13))) then (r10 (W (v13 + (1 : Int))) x24.2)
 else (r10 v13 x24.2))))
 else (k6 v13)
def f7_10 (a0 : A3u8N) (a1 : A24u8N) (x1 : Int) (x2 : ByteArray × Int) (x3 : (List Int) × Int) (k6 : Int → Option (Bool)) : Nat → Int → Nat → Option (Bool)
  | 0, _, _ => none
  | n + 1, v13, p901 => f7_10b (f7_10 a0 a1 x1 x2 x3 k6 n) a0 a1 x1 x2 x3 k6 v13 p901
def Lf7_10 (a0 : A3u8N) (a1 : A24u8N) (x1 : Int) (x2 : ByteArray × Int) (x3 : (List Int) × Int) (k6 : Int → Option (Bool)) : Lp (Nat × Int × Nat) Unit (Bool) := lp0 ⟨[3, 5, 6, 7, 8, 9, 11, 13, 78], [1, 901], [], []⟩ (fun (_, v13, _) => [.ptr 1 0, .dat (iN (W ((1 : Int) + (Int.tmod a0.e0 (24 : Int))))), .dat (iN (W ((1 : Int) + (Int.tmod a0.e1 (W ((1 : Int) + (Int.tmod a0.e0 (24 : Int)))))))), .dat (iN (W ((1 : Int) + (Int.tmod a0.e2 (W ((1 : Int) + (Int.tmod a0.e0 (24 : Int)))))))), .dat (iN x1), .dat (strN x2.1), .dat (sl_iN x3.1), .dat (iN v13), .ptr 901 0]) (fun (_, _, p901) => [.arr (List.map u8N [a1.e0, a1.e1, a1.e2, a1.e3, a1.e4, a1.e5, a1.e6, a1.e7, a1.e8, a1.e9, a1.e10, a1.e11, a1.e12, a1.e13, a1.e14, a1.e15, a1.e16, a1.e17, a1.e18, a1.e19, a1.e20, a1.e21, a1.e22, a1.e23]), .sit x2.1 p901]) (fun (n, v13, p901) => f7_10 a0 a1 x1 x2 x3 k6 n v13 p901)
theorem Ef7_10 {a0 a1 x1 x2 x3 k6 n v13 p901} : (Lf7_10 a0 a1 x1 x2 x3 k6).E (n, v13, p901) = f7_10 a0 a1 x1 x2 x3 k6 n v13 p901 := rfl
def f7 (N : Nat) (a0 : A3u8N) (a1 : A24u8N) : Option (Bool) :=
 (chk (decide ((W ((1 : Int) + (Int.tmod a0.e0 (24 : Int)))) ≠ 0))).bind fun _ =>
 (chk (decide ((W ((1 : Int) + (Int.tmod a0.e0 (24 : Int)))) ≠ 0))).bind fun _ =>
 (f37 N (W ((1 : Int) + (Int.tmod a0.e1 (W ((1 : Int) + (Int.tmod a0.e0 (24 : Int))))))) (W ((1 : Int) + (Int.tmod a0.e2 (W ((1 : Int) + (Int.tmod a0.e0 (24 : Int)))))))).bind fun x1 =>
 (f25 N (W ((1 : Int) + (Int.tmod a0.e1 (W ((1 : Int) + (Int.tmod a0.e0 (24 : Int))))))) (W ((1 : Int) + (Int.tmod a0.e2 (W ((1 : Int) + (Int.tmod a0.e0 (24 : Int))))))) (W ((1 : Int) + (Int.tmod a0.e0 (24 : Int))))).bind fun x2 =>
 (f16 N x2.1).bind fun x3 =>
 bif decide (¬ x2.2 = (0 : Int)) then (some (false))
 else (bif decide (¬ x3.2 = (0 : Int)) then (some (false))
 else (bif decide (¬ (ByteArray.size x2.1 : Int) = (W ((1 : Int) + (Int.tmod a0.e0 (24 : Int))))) then (some (false))
 else ((f38 N x2.1 (W ((1 : Int) + (Int.tmod a0.e1 (W ((1 : Int) + (Int.tmod a0.e0 (24 : Int)))))))).bind fun x4 =>
 bif !x4 then (some (false))
 else ((f38 N x2.1 (W ((1 : Int) + (Int.tmod a0.e2 (W ((1 : Int) + (Int.tmod a0.e0 (24 : Int)))))))).bind fun x5 =>
 bif !x5 then (some (false))
 else (joinK (f7_c16 a0 a1 N x1 x2 x3) fun k6 =>
 f7_10 a0 a1 x1 x2 x3 k6 N (0 : Int) 0)))))
def G7 (ds : List D) (d : D) : Prop := ∃ (N : Nat) (a0 : A3u8N) (a1 : A24u8N) (r : Bool), ds = [A3u8N.d a0, A24u8N.d a1] ∧ f7 N a0 a1 = some r ∧ d = bN r
set_option maxRecDepth 20000 in
set_option maxHeartbeats 4000000 in
theorem P7 : PureOK Try.prog 7 G7 := by
  refine pure_of_vc (c := mkCtx tyTree [(39, false, inlPg (mkCtx tyTree []) Try.f39), (38, true, lendPg [[0], [0]] G38), (37, true, lendPg [[0], [0]] G37), (25, true, lendPg [[0], [0], [0]] G25), (16, true, purePg [[0]] G16), (15, true, lendPg [] G15)]) rfl tyOK (ctx_eff (callable Try.func39 rfl rfl) (CallOK.inl rfl tyOK (ctx_nil) Try.func39 (by kernel_rfl)) (ctx_lend (callable Try.func38 rfl rfl) P38 (ctx_lend (callable Try.func37 rfl rfl) P37 (ctx_lend (callable Try.func25 rfl rfl) P25 (ctx_cons (callable Try.func16 rfl rfl) P16 (ctx_lend (callable Try.func15 rfl rfl) P15 (ctx_nil))))))) [[0]] 2 Try.func7 rfl rfl (by decide) (by kernel_rfl) ?_
  rintro ds d ⟨N, a0, a1, r, rfl, hF, rfl⟩ hok
  clear hok
  refine ⟨rfl, ?_⟩
  show vc _ _ _ _ ⟨[(0, .dat (A3u8N.d a0)), (1, .dat (A24u8N.d a1))], []⟩ _
  unfold f7 at hF
  repeat' (first
    | ((with_reducible first | refine q0 _ _ ?_ | refine q1 _ _ _ _ ?_ | refine q2 _ _ _ ?_); clear Q q0 q1 q2)
    | ((with_reducible first | refine seq_op ?hx (fun Q q0 q1 q2 => ?_) | refine draw_op ?hx (fun Q q0 q1 q2 => ?_) | refine seq_op0 ?hx (fun Q q0 q1 q2 => ?_) | refine draw_op0 ?hx (fun Q q0 q1 q2 => ?_)); (case hx => exact rfl); conv => whnf)
    | ((with_reducible first | refine seq_off ?hx ?_ | refine seq_off0 ?hx ?_ | refine draw_off ?hx ?_ | refine draw_off0 ?hx ?_ | refine k_blk_out ?hx ?_ | refine vc_condT ?hx ?_); (case hx => exact rfl))
    | ((with_reducible refine seq_id ?_); (first | ((first | refine seq_opK rfl ?hy (fun Q q0 q1 q2 => ?_) | refine seq_opK0 rfl ?hy (fun Q q0 q1 q2 => ?_)); (case hy => first | assumption | exact notT (by assumption) | exact rfl); conv => whnf) | ((first | refine seq_offK rfl ?hy ?_ | refine seq_offK0 rfl ?hy ?_); (case hy => first | assumption | exact notF (by assumption) | exact rfl)) | (revert hF; (with_reducible first | refine seq_opF ?hx ?_ ?_ | refine seq_opF0 ?hx ?_ ?_); (case hx => exact rfl); (intro hc hF Q q0 q1 q2; conv => whnf); rotate_left; (intro hc hF); rotate_right) | (revert hF; (with_reducible first | refine seq_opN ?hx ?_ ?_ | refine seq_opN0 ?hx ?_ ?_); (case hx => exact rfl); (intro hc hF); rotate_left; (intro hc hF Q q0 q1 q2; conv => whnf); rotate_right)))
    | ((with_reducible refine cond_id ?_); (first | ((refine condKT rfl ?hy ?_); (case hy => first | assumption | exact notT (by assumption) | exact rfl)) | ((refine condKF rfl ?hy ?_); (case hy => first | assumption | exact notF (by assumption) | exact rfl)) | (revert hF; (with_reducible refine condF ?hx ?_ ?_); (case hx => exact rfl); all_goals (intro hc hF))))
    | ((with_reducible refine seq_nil ?_); (first | ((with_reducible refine hR _ ?_); clear R hR) | ((with_reducible refine hL _ ?_); clear L hL)))
    | ((with_reducible refine draw_nil ?_); (with_reducible refine hR _ _ ?hx ?_); (case hx => kernel_rfl); (first | clear R hR | clear hR))
    | ((with_reducible first | refine int_step ?_ | refine len_step ?_ | refine idx2 (by assumption) ?_ | refine idx3 (by assumption) ?_); conv => whnf)
    | (with_reducible first | refine vc_block ?_ | refine vc_skip ?_ | refine vc_ret ?_ | refine vc_exit ?_ | refine vc_region (fun R hR => ?_) | refine k_seq_ret ?_ | refine k_seq_exit ?_ | refine k_blk ?_ | refine k_blk_ret ?_ | refine k_blk_here ?_ | refine k_loop_ret ?_ | refine k_loop_exit ?_)
    | ((with_reducible refine vc_seqN [3312000000007, 3317000000007, 3330000000007, 31, 26, 18, 16] ?hx ?_); (case hx => exact rfl))
    | ((with_reducible refine vc_draw ?hx (fun R hR => ?_)); (case hx => exact rfl))
    | (revert hF; (refine Lp.cut1 Lf7_i3311_c7 f7_i3311_c7 3312000000007 rfl rfl ?_ ?_); (intro hF); rotate_left; (rintro _ hF; dsimp only [Lf7_i3311_c7] at hF; unfold f7_i3311_c7 at hF); rotate_right)
    | exact Lp.head Ef7_i3311_c7 hF () ⟨_, rfl, rfl, rfl, rfl⟩ rfl
    | (revert hF; (refine Lp.cut1 Lf7_i3316_c7 f7_i3316_c7 3317000000007 rfl rfl ?_ ?_); (intro hF); rotate_left; (rintro _ hF; dsimp only [Lf7_i3316_c7] at hF; unfold f7_i3316_c7 at hF); rotate_right)
    | exact Lp.head Ef7_i3316_c7 hF () ⟨_, rfl, rfl, rfl, rfl⟩ rfl
    | (revert hF; (refine Lp.cut1 Lf7_i3329_c7 f7_i3329_c7 3330000000007 rfl rfl ?_ ?_); (intro hF); rotate_left; (rintro _ hF; dsimp only [Lf7_i3329_c7] at hF; unfold f7_i3329_c7 at hF); rotate_right)
    | exact Lp.head Ef7_i3329_c7 hF () ⟨_, rfl, rfl, rfl, rfl⟩ rfl
    | (revert hF; (refine Lp.loop Ef7_i3329_2 () rfl ⟨_, rfl, rfl, rfl, rfl⟩ rfl (fun _ => rfl) ?_); rintro n v8'' hF; dsimp only [Lf7_i3329_2, f7_i3329_2] at hF; unfold f7_i3329_2b at hF)
    | exact Lp.back Ef7_i3329_2 hF () ⟨_, rfl, rfl, rfl, rfl⟩ rfl
    | (revert hF; (refine Lp.loop Ef7_i3316_2 () rfl ⟨_, rfl, rfl, rfl, rfl⟩ rfl (fun _ => rfl) ?_); rintro n v8' hF; dsimp only [Lf7_i3316_2, f7_i3316_2] at hF; unfold f7_i3316_2b at hF)
    | exact Lp.back Ef7_i3316_2 hF () ⟨_, rfl, rfl, rfl, rfl⟩ rfl
    | (revert hF; (refine Lp.loop Ef7_i3311_2 () rfl ⟨_, rfl, rfl, rfl, rfl⟩ rfl (fun _ => rfl) ?_); rintro n v8 hF; dsimp only [Lf7_i3311_2, f7_i3311_2] at hF; unfold f7_i3311_2b at hF)
    | exact Lp.back Ef7_i3311_2 hF () ⟨_, rfl, rfl, rfl, rfl⟩ rfl
    | (revert hF; (refine Lp.cut5 Lf7_c31 f7_c31 31 rfl rfl ?_ ?_); (intro hF); rotate_left; (rintro v17 hF; dsimp only [Lf7_c31] at hF; unfold f7_c31 at hF); rotate_right)
    | exact Lp.head Ef7_c31 hF () ⟨_, rfl, rfl, rfl, rfl⟩ rfl
    | (revert hF; (refine Lp.loop Ef7_28 () rfl ⟨_, rfl, rfl, rfl, rfl⟩ rfl (fun _ => rfl) ?_); rintro n ⟨v17, p2701⟩ hF; dsimp only [Lf7_28, f7_28] at hF; unfold f7_28b at hF)
    | exact Lp.back Ef7_28 hF () ⟨_, rfl, rfl, rfl, rfl⟩ rfl
    | (revert hF; (refine Lp.cut6 Lf7_c26 f7_c26 26 rfl rfl ?_ ?_); (intro hF); rotate_left; (rintro v15 hF; dsimp only [Lf7_c26] at hF; unfold f7_c26 at hF); rotate_right)
    | exact Lp.head Ef7_c26 hF () ⟨_, rfl, rfl, rfl, rfl⟩ rfl
    | (revert hF; (refine Lp.loop Ef7_20 () rfl ⟨_, rfl, rfl, rfl, rfl⟩ rfl (fun _ => rfl) ?_); rintro n ⟨v15, v16⟩ hF; dsimp only [Lf7_20, f7_20] at hF; unfold f7_20b at hF)
    | exact Lp.back Ef7_20 hF () ⟨_, rfl, rfl, rfl, rfl⟩ rfl
    | (revert hF; (refine Lp.cut6 Lf7_c18 f7_c18 18 rfl rfl ?_ ?_); (intro hF); rotate_left; (rintro _ hF; dsimp only [Lf7_c18] at hF; unfold f7_c18 at hF); rotate_right)
    | exact Lp.head Ef7_c18 hF () ⟨_, rfl, rfl, rfl, rfl⟩ rfl
    | (revert hF; (refine Lp.cut6 Lf7_c16 f7_c16 16 rfl rfl ?_ ?_); (intro hF); rotate_left; (rintro v13 hF; dsimp only [Lf7_c16] at hF; unfold f7_c16 at hF); rotate_right)
    | exact Lp.head Ef7_c16 hF () ⟨_, rfl, rfl, rfl, rfl⟩ rfl
    | (revert hF; (refine Lp.loop Ef7_10 () rfl ⟨_, rfl, rfl, rfl, rfl⟩ rfl (fun _ => rfl) ?_); rintro n ⟨v13, p901⟩ hF; dsimp only [Lf7_10, f7_10] at hF; unfold f7_10b at hF)
    | exact Lp.back Ef7_10 hF () ⟨_, rfl, rfl, rfl, rfl⟩ rfl
    | (revert hF; (with_reducible refine G15.lend ?hx ?_); (case hx => exact rfl); intro v hF; conv => whnf)
    | (revert hF; (with_reducible refine G16.step ?hx ?_); (case hx => exact rfl); intro v hF; conv => whnf)
    | (revert hF; (with_reducible refine G25.lend ?hx ?_); (case hx => exact rfl); intro v hF; conv => whnf)
    | (revert hF; (with_reducible refine G37.lend ?hx ?_); (case hx => exact rfl); intro v hF; conv => whnf)
    | (revert hF; (with_reducible refine G38.lend ?hx ?_); (case hx => exact rfl); intro v hF; conv => whnf)
    | (revert hF; (refine idxS_step ?_); intro x hF; conv => whnf)
    | (revert hF; (refine addS_step ?_); intro x hF; conv => whnf)
    | (revert hF; (first | refine strOf_step (fun _ h => h) ?_ | refine strOf_step2 ?_); intro x hF; conv => whnf)
    | (revert hF; (refine some_step ?_); intro x hF; conv => whnf)
    | ((with_reducible refine chkI_go hF ?_); (clear hF; intro hF; conv => whnf))
    | ((with_reducible have hG := ixN_fact hF); clear hF; (first | (refine ixN_one hG (by (try simp only [W]); omega) (fun x hF => ?_)) | (refine ixN_agg hG (fun _ => rfl) (by (try simp only [W]); omega) (fun x hF => ?_))); clear hG; conv => whnf)
    | ((with_reducible have hG := setN_fact hF); clear hF; (first | (refine setN_one hG (by (try simp only [W]); omega) rfl rfl (fun q hF => ?_)) | (refine setN_agg hG (fun _ => rfl) (by (try simp only [W]); omega) rfl rfl (fun q hF => ?_))); clear hG; conv => whnf)
    | (revert hF; (with_reducible refine idx1 ?hn ?_); (case hn => first | exact rfl | exact (List.length_map _) | assumption | omega | simp); intro x hx hF; conv => whnf)
    | ((refine row_all ?hn ?_); (case hn => first | exact rfl | (simp; done) | (simp; omega)); conv => whnf)
    | ((with_reducible refine le_step ?hn ?_); (case hn => first | exact rfl | assumption | omega); conv => whnf)
    | ((refine ⟨?hx, ?_⟩); (case hx => exact ⟨rfl, Nat.le_of_ble_eq_true rfl, rfl⟩); conv => whnf)
    | ((with_reducible refine ex_step ?_); conv => whnf)
    | ((with_reducible have hG := chk_fact hF); clear hF; (refine ⟨?hx, ?_⟩); (case hx => (first | exact of_decide_eq_true hG.1 | exact hG.1)); have hF := hG.2; clear hG; conv => whnf)
    | ((with_reducible refine both_T ?hx ?_); (case hx => first | exact rfl | assumption | exact notT (by assumption)); conv => whnf)
    | ((with_reducible refine both_F ?hx ?_); (case hx => first | exact rfl | assumption | exact notF (by assumption)); conv => whnf)
    | (revert hF; (with_reducible refine ite_step ?_ ?_) <;> (intro hc hF; conv => whnf))
    | ((with_reducible refine vc_condF ?hx ?_); (case hx => exact rfl))
    | (show retD _ _ _ _ _ _; conv => whnf)
    | ((refine inl_step ?ha ?hb ?hc rfl ?_); (case ha => exact rfl); (case hb => omega); (case hc => exact Nat.le_of_ble_eq_true rfl))
    | (show Kinl _ _ _ _ _ _ _; conv => whnf)
    | ((with_reducible refine kinl_step ?ha ?hb ?_); (case ha => exact rfl); (case hb => exact rfl); conv => whnf)
    | ((refine ⟨?hx, trivial⟩); (case hx => (cases hF; exact rfl)))
    | ((refine ⟨?hx, ?_⟩); (case hx => decide); conv => whnf)
    | with_reducible refine k_seq ?_
    | (have hF : (none : Option _) = some _ := hF; cases hF))
end
end Go.Vc
namespace Go.Vc
set_option linter.unusedVariables false
set_option linter.unnecessarySimpa false
set_option linter.unusedSimpArgs false
section
variable {α β σ : Type}
theorem iffD {α : Type} {p q : Prop} {dp : Decidable p} {dq : Decidable q} {a b : α} (h : p ↔ q) : @ite α p dp a b = @ite α q dq a b := by
  by_cases hp : p
  · rw [if_pos hp, if_pos (h.1 hp)]
  · rw [if_neg hp, if_neg fun hq => hp (h.2 hq)]
end
end Go.Vc
namespace Go.Vc
open Go.Proofs
set_option linter.unusedVariables false
set_option linter.unnecessarySimpa false
set_option linter.unusedSimpArgs false
end Go.Vc
namespace Go.Vc
open Go.Proofs
set_option linter.unusedVariables false
set_option linter.unnecessarySimpa false
set_option linter.unusedSimpArgs false
end Go.Vc
namespace Go.Vc
set_option linter.unusedVariables false
set_option linter.unnecessarySimpa false
set_option linter.unusedSimpArgs false
set_option linter.unusedSimpArgs false
section
variable {l m : List UInt8}
@[simp] theorem strC_size : (strC l).size = l.length := by simp [strC, ByteArray.size]
@[simp] theorem strC_toList : (strC l).data.toList = l := by simp [strC]
theorem strC_inj : strC l = strC m ↔ l = m := by
  constructor
  · intro h
    have := congrArg (fun s : ByteArray => s.data.toList) h
    simpa using this
  · rintro rfl; rfl
theorem emptyS_eq : emptyS = strC [] := rfl
theorem extract_L {a b : Nat} : (strC l).extract a b = strC ((l.take b).drop a) := by
  have h : ∀ s : ByteArray, s = strC s.data.toList := fun s => by cases s; simp [strC]
  rw [h ((strC l).extract a b)]
  simp [ByteArray.data_extract, List.drop_take, strC]
theorem append_L : strC l ++ strC m = strC (l ++ m) := by
  have h : ∀ s : ByteArray, s = strC s.data.toList := fun s => by cases s; simp [strC]
  rw [h (strC l ++ strC m)]
  simp [strC]
theorem addS_L (h : l.length + m.length ≤ 1000000) : addS (strC l) (strC m) = some (strC (l ++ m)) := by
  unfold addS
  rw [if_pos (by simp [maxLen]; omega), append_L]
theorem byteAt_L {i : Nat} (h : i < l.length) : byteAt (strC l) i = (l[i].toNat : Int) := by
  unfold byteAt
  simp [h]
theorem idxS_L {i : Nat} (h : i < l.length) : idxS (strC l) (i : Int) = some (l[i].toNat : Int) := by
  unfold idxS
  rw [if_pos ⟨by omega, by simp; omega⟩]
  simp only [Int.toNat_natCast, byteAt_L h]
theorem toNat_inj {a b : UInt8} : (a.toNat : Int) = (b.toNat : Int) ↔ a = b := by
  constructor
  · intro h; exact UInt8.toNat_inj.1 (by omega)
  · rintro rfl; rfl
theorem rune_lo {p : Nat} (h : p < l.length) (hb : l[p].toNat < 128) : runeAt (strC l) p = ((l[p].toNat : Int), p + 1) := by
  have hs : p < (strC l).size := by simpa using h
  have he : (strC l)[p] = l[p] := by
    have h1 : byteAt (strC l) p = _ := (str_get (strC l) p hs).2.symm
    have h2 := byteAt_L h
    exact toNat_inj.1 (h1.symm.trans h2)
  unfold runeAt
  rw [decode_ascii (strC l) p hs (by rw [he]; omega)]
  simp only [he]
  rfl
theorem rune_hi {p : Nat} (h : p < l.length) (hb : 128 ≤ l[p].toNat) : 128 ≤ (runeAt (strC l) p).1 := by
  have hs : p < (strC l).size := by simpa using h
  have he : (strC l)[p] = l[p] := by
    have h1 : byteAt (strC l) p = _ := (str_get (strC l) p hs).2.symm
    have h2 := byteAt_L h
    exact toNat_inj.1 (h1.symm.trans h2)
  have := (decode_high (strC l) p hs (by rw [he]; omega)).1
  show (128 : Int) ≤ ((Utf8.decode (strC l) p).1 : Int)
  omega
end
def okb (b : UInt8) : Bool := decide (97 ≤ b.toNat) && decide (b.toNat ≤ 122)
def chk8 (l : List UInt8) : Int := if l = [] then 1 else if 24 < l.length then 19 else if l.all okb then 0 else 9
theorem drop_all {l : List UInt8} {p : Nat} (h : p < l.length) : (l.drop p).all okb = (okb l[p] && (l.drop (p + 1)).all okb) := by
  rw [List.drop_eq_getElem_cons h]; rfl
theorem okb_lo {b : UInt8} (h : (b.toNat : Int) < 97) : okb b = false := by simp [okb]; omega
theorem okb_hi {b : UInt8} (h : (122 : Int) < (b.toNat : Int)) : okb b = false := by simp [okb]; omega
theorem okb_in {b : UInt8} (h : ¬ (b.toNat : Int) < 97) (h' : ¬ (122 : Int) < (b.toNat : Int)) : okb b = true := by simp [okb]; omega
theorem f23_loop {l : List UInt8} {k0 : Option Int} : ∀ (n p : Nat), l.length - p < n → p ≤ l.length → f23_6 (strC l) k0 n p = if (l.drop p).all okb then k0 else some 9 := by
  intro n
  induction n with
  | zero => intro p h; omega
  | succ n ih =>
    intro p hn hp
    unfold f23_6 f23_6b
    by_cases h : p < l.length
    · simp only [strC_size, h, decide_true, cond_true, Option.bind_some]
      rw [drop_all h]
      by_cases hb : l[p].toNat < 128
      · rw [rune_lo h hb]
        by_cases h1 : (l[p].toNat : Int) < 97
        · simp [h1, okb_lo h1]
        · by_cases h2 : (122 : Int) < l[p].toNat
          · simp [h1, h2, okb_hi h2]
          · simp only [h1, h2, decide_false, cond_false, okb_in h1 h2, Bool.true_and]
            rw [ih (p + 1) (by omega) (by omega)]
      · have := rune_hi h (by omega)
        simp only [show ¬ (runeAt (strC l) p).1 < 97 by omega, show (122 : Int) < (runeAt (strC l) p).1 by omega, decide_false, decide_true, cond_false, cond_true]
        rw [okb_hi (by omega)]; simp
    · have : p = l.length := by omega
      subst this
      simp
theorem f23_eq {l : List UInt8} {N : Nat} (hN : 30 ≤ N) : f23 N (strC l) = some (chk8 l) := by
  unfold f23 chk8
  by_cases h : l = []
  · subst h; simp [emptyS_eq]
  · simp only [emptyS_eq, strC_inj, h, decide_false, cond_false, strC_size, if_false]
    by_cases h2 : 24 < l.length
    · simp [h2, show (24 : Int) < (l.length : Int) by omega]
    · simp only [show ¬ (24 : Int) < (l.length : Int) by omega, decide_false, cond_false, joinK]
      rw [f23_loop N 0 (by omega) (by omega)]
      simp [h2, f23_c10]
      split <;> rfl
theorem chk8_zero {l : List UInt8} : chk8 l = 0 ↔ l ≠ [] ∧ l.length ≤ 24 ∧ l.all okb = true := by
  unfold chk8
  by_cases h : l = [] <;> by_cases h2 : 24 < l.length <;> by_cases h3 : l.all okb = true <;> simp [h, h2, h3] <;> omega
def isP (l : List UInt8) (p : Nat) : Bool := (l.drop p).isPrefixOf l
theorem isP_iff {l : List UInt8} {p : Nat} : isP l p = true ↔ ∀ i, (h : i + p < l.length) → l[i] = l[i + p] := by
  unfold isP
  rw [List.isPrefixOf_iff_prefix, List.prefix_iff_getElem?]
  constructor
  · intro h i hi
    have := h i (by simp; omega)
    rw [List.getElem_drop] at this
    rw [List.getElem?_eq_getElem (by omega)] at this
    have := Option.some.inj this
    rw [this]
    congr 1
    omega
  · intro h i hi
    simp at hi
    rw [List.getElem?_eq_getElem (by omega), h i (by omega), List.getElem_drop]
    congr 2
    omega
end Go.Vc
namespace Go.Vc
open Go.Proofs
set_option linter.unusedVariables false
set_option linter.unnecessarySimpa false
set_option linter.unusedSimpArgs false
end Go.Vc
namespace Go.Vc
open Go.Proofs
set_option linter.unusedVariables false
set_option linter.unnecessarySimpa false
set_option linter.unusedSimpArgs false
end Go.Vc
namespace Go.Vc
open Go.Proofs
set_option linter.unusedVariables false
set_option linter.unnecessarySimpa false
set_option linter.unusedSimpArgs false
end Go.Vc
namespace Go.Vc
open Go.Proofs
set_option linter.unusedVariables false
set_option linter.unnecessarySimpa false
set_option linter.unusedSimpArgs false
end Go.Vc
namespace Go.Vc
open Go.Proofs
set_option linter.unusedVariables false
set_option linter.unnecessarySimpa false
set_option linter.unusedSimpArgs false
set_option linter.unusedSimpArgs false
def perN (l : List UInt8) : List Nat := (List.range' 1 l.length).filter (isP l)
def toI (l : List Nat) : List Int := l.map fun (i : Nat) => (i : Int)
theorem isPer_L {l : List UInt8} {p : Nat} : isPer (strC l) p = isP l p := by
  unfold isPer isP Lib.hasPrefix
  rw [strC_size, extract_L, strC_toList, strC_toList, List.take_length]
theorem perL_L {l : List UInt8} : perL (strC l) = toI (perN l) := by
  unfold perL perTo perN toI
  rw [strC_size, Nat.add_sub_cancel]
  congr 1
  exact List.filter_congr fun x _ => isPer_L
theorem f47_eq {l : List UInt8} {N : Nat} (hl : l.length ≤ 1000) : f47 N (strC l) = some (toI (perN l)) := by
  unfold f47
  rw [if_pos (by simpa using hl), perL_L]
theorem chk8_len {l : List UInt8} (h : chk8 l = 0) : l.length ≤ 24 := (chk8_zero.1 h).2.1
theorem f16_eq {l : List UInt8} {N : Nat} (hN : 30 ≤ N) : f16 N (strC l) = some (if chk8 l = 0 then (toI (perN l), 0) else ([], chk8 l)) := by
  unfold f16
  rw [f23_eq hN]
  by_cases h : chk8 l = 0
  · have := chk8_len h
    simp only [Option.bind_some, h, not_true, decide_false, cond_false, if_true]
    rw [f47_eq (by omega)]; rfl
  · simp [h]
theorem loop_find1 {β : Type} {F : Nat → Int → Option β} {k : Nat → Option β} {p : Nat → Prop} (a m : Nat) (hm : p m)
    (hs : ∀ n i, a ≤ i → i ≤ m → ¬ p i → F (n + 1) (i : Int) = F n ((i + 1 : Nat) : Int)) (he : ∀ n i, a ≤ i → i ≤ m → p i → F (n + 1) (i : Int) = k i) :
    ∀ n i, a ≤ i → i ≤ m → m - i < n → ∃ j, i ≤ j ∧ j ≤ m ∧ p j ∧ (∀ q, i ≤ q → q < j → ¬ p q) ∧ F n (i : Int) = k j := by
  intro n
  induction n with
  | zero => intro i _ _ h; omega
  | succ n ih =>
    intro i ha hi hn
    by_cases h : p i
    · exact ⟨i, Nat.le_refl _, hi, h, fun q h1 h2 => by omega, he n i ha hi h⟩
    · have : i ≠ m := fun hh => h (hh ▸ hm)
      obtain ⟨j, h1, h2, h3, h4, h5⟩ := ih (i + 1) (by omega) (by omega) (by omega)
      refine ⟨j, by omega, h2, h3, fun q h6 h7 => ?_, (hs n i ha hi h).trans h5⟩
      by_cases hq : q = i
      · subst hq; exact h
      · exact h4 q (by omega) h7
theorem perN_len {l : List UInt8} : (perN l).length ≤ l.length := Nat.le_trans (List.length_filter_le _ _) (by simp)
theorem toI_len {a : List Nat} : (toI a).length = a.length := by simp [toI]
end Go.Vc
namespace Go.Vc
open Go.Proofs
set_option linter.unusedVariables false
set_option linter.unnecessarySimpa false
set_option linter.unusedSimpArgs false
set_option linter.unusedSimpArgs false
end Go.Vc
namespace Go.Vc
open Go.Proofs
set_option linter.unusedVariables false
set_option linter.unnecessarySimpa false
set_option linter.unusedSimpArgs false
end Go.Vc
namespace Go.Vc
open Go.Proofs
set_option linter.unusedVariables false
set_option linter.unnecessarySimpa false
set_option linter.unusedSimpArgs false
end Go.Vc
namespace Go.Vc
open Go.Proofs
set_option linter.unusedVariables false
set_option linter.unnecessarySimpa false
set_option linter.unusedSimpArgs false
set_option linter.unusedSimpArgs false
def Per {α : Type} (f : Nat → α) (n p : Nat) : Prop := ∀ i, i + p < n → f i = f (i + p)
section
variable {α : Type} {f : Nat → α}
theorem Per.mul {n p : Nat} (h : Per f n p) : ∀ m, Per f n (m * p) := by
  intro m
  induction m with
  | zero => intro i hi; simp
  | succ m ih =>
    intro i hi
    rw [Nat.succ_mul] at hi ⊢
    rw [ih i (by omega), h (i + m * p) (by omega)]
    congr 1
    omega
theorem Per.dvd {n p q : Nat} (h : Per f n p) (hd : p ∣ q) : Per f n q := by
  obtain ⟨m, rfl⟩ := hd
  rw [Nat.mul_comm]
  exact h.mul m
theorem Per.less {n m p : Nat} (h : Per f n p) (hm : m ≤ n) : Per f m p := fun i hi => h i (by omega)
theorem Per.grow {n p g : Nat} (hg : 1 ≤ g) (hd : g ∣ p) (hp : 1 ≤ p) (hn : 2 * p ≤ n) (h : Per f n p) (h' : Per f (n - p) g) : Per f n g := by
  have hgp : g ≤ p := Nat.le_of_dvd hp hd
  intro i hi
  by_cases h1 : i + g < n - p
  · exact h' i h1
  · have e1 : f (i + g) = f (i + g - p) := by
      have := h (i + g - p) (by omega)
      rw [this]; congr 1; omega
    rw [e1]
    by_cases h2 : p ≤ i
    · have e2 : f i = f (i - p) := by
        have := h (i - p) (by omega)
        rw [this]; congr 1; omega
      rw [e2, h' (i - p) (by omega)]
      congr 1; omega
    · have hd2 : g ∣ p - g := Nat.dvd_sub hd (Nat.dvd_refl g)
      have := h'.dvd hd2 (i + g - p) (by omega)
      rw [this]
      congr 1; omega
theorem fine_wilf : ∀ (s n p q : Nat), p + q ≤ s → 1 ≤ p → 1 ≤ q → p + q - Nat.gcd p q ≤ n → Per f n p → Per f n q → Per f n (Nat.gcd p q) := by
  intro s
  induction s with
  | zero => intro n p q h h1 h2; omega
  | succ s ih =>
    intro n p q hs hp hq hn h1 h2
    have core : ∀ p q : Nat, p + q ≤ s + 1 → 1 ≤ p → p < q → p + q - Nat.gcd p q ≤ n → Per f n p → Per f n q → Per f n (Nat.gcd p q) := by
      intro p q hs hp hpq hn h1 h2
      have hg : Nat.gcd p (q - p) = Nat.gcd p q := by
        rw [Nat.gcd_comm, Nat.gcd_comm p q]
        have := Nat.gcd_sub_self_left (m := p) (n := q) (Nat.le_of_lt hpq)
        exact this
      have hgd : Nat.gcd p q ∣ q - p := by rw [← hg]; exact Nat.gcd_dvd_right _ _
      have hgp : Nat.gcd p q ∣ p := Nat.gcd_dvd_left _ _
      have hgle : Nat.gcd p q ≤ q - p := Nat.le_of_dvd (by omega) hgd
      have hg1 : 1 ≤ Nat.gcd p q := Nat.gcd_pos_of_pos_left _ hp
      have hper : Per f (n - p) (q - p) := by
        intro i hi
        have e1 := h2 i (by omega)
        have e2 := h1 (i + (q - p)) (by omega)
        rw [e1, e2]; congr 1; omega
      have := ih (n - p) p (q - p) (by omega) hp (by omega) (by rw [hg]; omega) (h1.less (by omega)) hper
      rw [hg] at this
      exact Per.grow hg1 hgp hp (by omega) h1 this
    rcases Nat.lt_trichotomy p q with h | h | h
    · exact core p q hs hp h hn h1 h2
    · subst h; rw [Nat.gcd_self]; exact h1
    · rw [Nat.gcd_comm]
      exact core q p (by omega) hq h (by rw [Nat.gcd_comm, Nat.add_comm]; exact hn) h2 h1
end
theorem isP_per {l : List UInt8} {p : Nat} : isP l p = true ↔ Per (fun i => l[i]?) l.length p := by
  rw [isP_iff]
  constructor
  · intro h i hi
    simp only
    rw [List.getElem?_eq_getElem (by omega), List.getElem?_eq_getElem hi, h i hi]
  · intro h i hi
    have := h i hi
    simp only at this
    rw [List.getElem?_eq_getElem (by omega), List.getElem?_eq_getElem hi] at this
    exact Option.some.inj this
theorem filter_at {f : Nat → Bool} {n p : Nat} (h1 : 1 ≤ p) (hp : p ≤ n) :
    ((List.range' 1 n).filter f)[((List.range' 1 (p - 1)).filter f).length]? = some p ↔ f p = true := by
  have e : List.range' 1 n = List.range' 1 (p - 1) ++ (p :: List.range' (p + 1) (n - p)) := by
    have h := List.range'_append_1 (s := 1) (m := p - 1) (n := n - p + 1)
    rw [show 1 + (p - 1) = p by omega, show p - 1 + (n - p + 1) = n by omega, List.range'_succ] at h
    exact h.symm
  rw [e, List.filter_append, List.getElem?_append_right (Nat.le_refl _), Nat.sub_self, List.filter_cons]
  by_cases h : f p = true
  · simp [h]
  · rw [if_neg h]
    refine ⟨fun hh => ?_, fun hh => absurd hh h⟩
    have := List.mem_of_getElem? hh
    rw [List.mem_filter, List.mem_range'_1] at this
    omega
theorem filter_next {f : Nat → Bool} {p : Nat} (h1 : 1 ≤ p) : ((List.range' 1 p).filter f).length = ((List.range' 1 (p - 1)).filter f).length + (if f p = true then 1 else 0) := by
  obtain ⟨j, rfl⟩ : ∃ j, p = j + 1 := ⟨p - 1, by omega⟩
  rw [Nat.add_sub_cancel, List.range'_concat, List.filter_append, List.length_append]
  congr 1
  rw [show 1 + 1 * j = j + 1 by omega]
  by_cases h : f (j + 1) = true <;> simp [h]
open Classical in
theorem f38_loop {l : List UInt8} {p : Nat} {k0 : Option Bool} (hl : l.length ≤ 1000) (ha : ∀ (i : Nat) (h : i < l.length), l[i].toNat < 128) :
    ∀ (n i : Nat), i ≤ l.length → l.length - i < n → f38_2 (strC l) (p : Int) k0 n i = if (∀ j, i ≤ j → p ≤ j → (h : j < l.length) → l[j - p] = l[j]) then k0 else some false := by
  intro n
  induction n with
  | zero => intro i _ h; omega
  | succ n ih =>
    intro i hi hn
    unfold f38_2 f38_2b
    by_cases h : i < l.length
    · simp only [strC_size, h, decide_true, cond_true, Option.bind_some]
      rw [rune_lo h (ha i h)]
      by_cases hp : p ≤ i
      · simp only [show (p : Int) ≤ (i : Int) by omega, decide_true, cond_true]
        rw [show ((i : Int) - (p : Int)) = ((i - p : Nat) : Int) by omega, W_of (by omega) (by omega), idxS_L h, idxS_L (show i - p < l.length by omega)]
        simp only [Option.bind_some, toNat_inj]
        by_cases he : l[i] = l[i - p]
        · simp only [he, not_true, decide_false, cond_false]
          rw [ih (i + 1) (by omega) (by omega)]
          refine iffD ?_
          constructor
          · intro hh j h1 h2 h3
            by_cases hj : j = i
            · subst hj; exact he.symm
            · exact hh j (by omega) h2 h3
          · intro hh j h1 h2 h3
            exact hh j (by omega) h2 h3
        · simp only [he, not_false_eq_true, decide_true, cond_true]
          rw [if_neg fun hh => he (hh i (Nat.le_refl _) hp h).symm]
      · simp only [show ¬ (p : Int) ≤ (i : Int) by omega, decide_false, cond_false]
        rw [ih (i + 1) (by omega) (by omega)]
        refine iffD ?_
        constructor
        · intro hh j h1 h2 h3
          exact hh j (by omega) h2 h3
        · intro hh j h1 h2 h3
          exact hh j (by omega) h2 h3
    · simp only [strC_size, h, decide_false, cond_false]
      rw [if_pos fun j h1 _ h3 => by omega]
def Abc (l : List UInt8) : Prop := ∀ b ∈ l, b = 97 ∨ b = 98 ∨ b = 99
theorem all_lo {l : List UInt8} (h : l.all okb = true) (i : Nat) (hi : i < l.length) : l[i].toNat < 128 := by
  have := List.all_eq_true.1 h l[i] (List.getElem_mem hi)
  simp [okb] at this
  omega
theorem goes_iff {l : List UInt8} {p : Nat} : (∀ j, 0 ≤ j → p ≤ j → (h : j < l.length) → l[j - p] = l[j]) ↔ isP l p = true := by
  rw [isP_iff]
  constructor
  · intro h i hi
    have := h (i + p) (by omega) (by omega) hi
    simp only [Nat.add_sub_cancel] at this
    exact this
  · intro h j _ h2 h3
    have := h (j - p) (by omega)
    rw [this]
    congr 1; omega
open Classical in
theorem f38_eq {l : List UInt8} {p N : Nat} (hl : l.length ≤ 100) (ha : l.all okb = true) (hN : l.length < N) : f38 N (strC l) (p : Int) = some (decide (1 ≤ p ∧ p ≤ l.length) && isP l p) := by
  unfold f38
  simp only [joinK]
  rw [f38_loop (by omega) (all_lo ha) N 0 (by omega) (by omega), iffD (dq := instDecidableEqBool _ _) goes_iff]
  by_cases h : isP l p = true
  · rw [if_pos h, h]
    unfold f38_c6
    by_cases h1 : 1 ≤ p
    · simp [h1, show (1 : Int) ≤ (p : Int) by omega]
    · simp [h1, show ¬ (1 : Int) ≤ (p : Int) by omega]
  · rw [if_neg h]
    simp only [Bool.not_eq_true] at h
    rw [h]; simp
theorem Abc.ok {l : List UInt8} (h : Abc l) : l.all okb = true := by
  rw [List.all_eq_true]
  intro b hb
  rcases h b hb with rfl | rfl | rfl <;> decide
theorem Abc.chk {l : List UInt8} (h : Abc l) (h1 : 1 ≤ l.length) (h2 : l.length ≤ 24) : chk8 l = 0 :=
  chk8_zero.2 ⟨by rintro rfl; simp at h1, h2, h.ok⟩
end Go.Vc
namespace Go.Vc
open Go.Proofs
set_option linter.unusedVariables false
set_option linter.unnecessarySimpa false
set_option linter.unusedSimpArgs false
set_option linter.unusedSimpArgs false
def Nb (n p q b c : Nat) : Prop := c < n ∧ (c = b + p ∨ b = c + p ∨ c = b + q ∨ b = c + q)
inductive Conn (n p q : Nat) (a : Nat) : Nat → Prop
  | refl : Conn n p q a a
  | step {b c : Nat} : Conn n p q a b → Nb n p q b c → Conn n p q a c
section
variable {n p q : Nat}
theorem Nb.symm {b c : Nat} (hb : b < n) (h : Nb n p q b c) : Nb n p q c b := ⟨hb, by rcases h.2 with h | h | h | h <;> simp [h]⟩
theorem Conn.trans {a b c : Nat} (h1 : Conn n p q a b) (h2 : Conn n p q b c) : Conn n p q a c := by
  induction h2 with
  | refl => exact h1
  | step _ hn ih => exact ih.step hn
theorem Conn.lt {a b : Nat} (h : Conn n p q a b) (ha : a < n) : b < n := by
  cases h with
  | refl => exact ha
  | step _ hn => exact hn.1
theorem Conn.symm {a b : Nat} (h : Conn n p q a b) (ha : a < n) : Conn n p q b a := by
  induction h with
  | refl => exact .refl
  | step h1 hn ih => exact (Conn.refl.step (hn.symm (h1.lt ha))).trans ih
theorem Conn.keep {α : Type} {f : Nat → α} (h : ∀ b c, b < n → Nb n p q b c → f b = f c) {a b : Nat} (ha : a < n) (hc : Conn n p q a b) : f a = f b := by
  induction hc with
  | refl => rfl
  | step h1 hn ih => exact ih.trans (h _ _ (h1.lt ha) hn)
theorem least_ex (P : Nat → Prop) : ∀ k, P k → ∃ m, m ≤ k ∧ P m ∧ ∀ j, j < m → ¬ P j := by
  intro k
  induction k using Nat.strongRecOn with
  | _ k ih =>
    intro hk
    by_cases h : ∃ j, j < k ∧ P j
    · obtain ⟨j, h1, h2⟩ := h
      obtain ⟨m, m1, m2, m3⟩ := ih j h1 h2
      exact ⟨m, by omega, m2, m3⟩
    · exact ⟨k, Nat.le_refl _, hk, fun j hj hp => h ⟨j, hj, hp⟩⟩
noncomputable def fstC (n p q k : Nat) : Nat := Classical.choose (least_ex (fun j => Conn n p q j k) k .refl)
theorem fstC_spec (n p q k : Nat) : fstC n p q k ≤ k ∧ Conn n p q (fstC n p q k) k ∧ ∀ j, j < fstC n p q k → ¬ Conn n p q j k := Classical.choose_spec (least_ex (fun j => Conn n p q j k) k .refl)
theorem fstC_le {j k : Nat} (h : Conn n p q j k) : fstC n p q k ≤ j := by
  by_cases hh : fstC n p q k ≤ j
  · exact hh
  · exact absurd h ((fstC_spec n p q k).2.2 j (by omega))
theorem fstC_eq {j k : Nat} (hj : j < n) (hk : k < n) : fstC n p q j = fstC n p q k ↔ Conn n p q j k := by
  obtain ⟨a1, a2, a3⟩ := fstC_spec n p q j
  obtain ⟨b1, b2, b3⟩ := fstC_spec n p q k
  constructor
  · intro h
    rw [h] at a2
    exact (a2.symm (by omega)).trans b2
  · intro h
    have := fstC_le (a2.trans h)
    have := fstC_le (b2.trans (h.symm hj))
    omega
theorem fstC_idem {k : Nat} (hk : k < n) : fstC n p q (fstC n p q k) = fstC n p q k := by
  obtain ⟨a1, a2, a3⟩ := fstC_spec n p q k
  exact (fstC_eq (by omega) hk).2 a2
open Classical in
noncomputable def rankC (n p q : Nat) : Nat → Nat
  | 0 => 0
  | i + 1 => rankC n p q i + (if fstC n p q i = i then 1 else 0)
theorem rankC_mono {i j : Nat} (h : i ≤ j) : rankC n p q i ≤ rankC n p q j := by
  induction h with
  | refl => exact Nat.le_refl _
  | step _ ih => rw [rankC]; omega
theorem rankC_lt {i j : Nat} (h : i < j) (hi : fstC n p q i = i) : rankC n p q i < rankC n p q j := by
  have := rankC_mono (n := n) (p := p) (q := q) (show i + 1 ≤ j from h)
  rw [rankC, if_pos hi] at this
  omega
theorem rankC_le (i : Nat) : rankC n p q i ≤ i := by
  induction i with
  | zero => simp [rankC]
  | succ i ih => rw [rankC]; split <;> omega
noncomputable def valC (n p q k : Nat) : Nat := 97 + rankC n p q (fstC n p q k)
theorem valC_eq {j k : Nat} (hj : j < n) (hk : k < n) : valC n p q j = valC n p q k ↔ Conn n p q j k := by
  rw [← fstC_eq hj hk]
  constructor
  · intro h
    have h1 := fstC_idem (p := p) (q := q) hj
    have h2 := fstC_idem (p := p) (q := q) hk
    unfold valC at h
    rcases Nat.lt_trichotomy (fstC n p q j) (fstC n p q k) with hh | hh | hh
    · have := rankC_lt hh h1; omega
    · exact hh
    · have := rankC_lt hh h2; omega
  · intro h; unfold valC; rw [h]
theorem valC_rng {k : Nat} (hk : k < n) : 97 ≤ valC n p q k ∧ valC n p q k < 97 + n := by
  have := rankC_le (n := n) (p := p) (q := q) (fstC n p q k)
  have := (fstC_spec n p q k).1
  unfold valC; omega
def en0 (o : List Int) (i : Nat) : Int := o.getD i 0
def zeros (o : List Int) : Nat := o.countP fun x => decide (x = 0)
theorem en0_get {o : List Int} {i : Nat} (h : i < o.length) : o[i]? = some (en0 o i) := by simp [en0, h]
theorem en0_set {o : List Int} {i j : Nat} {x : Int} (h : i < o.length) : en0 (o.set i x) j = if j = i then x else en0 o j := by
  unfold en0
  rw [List.getD_eq_getElem?_getD, List.getD_eq_getElem?_getD]
  by_cases hj : j = i
  · subst hj; rw [List.getElem?_set_self h, if_pos rfl]; rfl
  · rw [List.getElem?_set_ne (by omega), if_neg hj]
theorem zeros_set {x : Int} (hx : x ≠ 0) : ∀ {o : List Int} {i : Nat}, i < o.length → en0 o i = 0 → zeros (o.set i x) + 1 = zeros o := by
  intro o
  induction o with
  | nil => intro i h; simp at h
  | cons y o ih =>
    intro i h h0
    cases i with
    | zero =>
      simp [en0] at h0
      subst h0
      simp [zeros, hx]
    | succ i =>
      have := ih (i := i) (by simpa using h) (by simpa [en0] using h0)
      simp only [List.set_cons_succ, zeros, List.countP_cons] at this ⊢
      omega
theorem zeros_le : ∀ {o o' : List Int}, o.length = o'.length → (∀ j, en0 o j ≠ 0 → en0 o' j = en0 o j) → zeros o' ≤ zeros o := by
  intro o
  induction o with
  | nil => intro o' hl _; simp at hl; have : o' = [] := List.length_eq_zero_iff.1 hl.symm; subst this; exact Nat.le_refl _
  | cons y o ih =>
    intro o' hl h
    cases o' with
    | nil => simp at hl
    | cons y' o' =>
      have h1 := ih (o' := o') (by simpa using hl) (fun j hj => by
        have := h (j + 1) (by simpa [en0] using hj)
        simpa [en0] using this)
      have h0 := h 0
      simp only [en0, List.getD_cons_zero] at h0
      simp only [zeros, List.countP_cons] at h1 ⊢
      by_cases hy : y = 0
      · subst hy
        simp only [decide_true, if_true]
        split <;> omega
      · rw [h0 hy]
        simp [hy]; omega
structure WGood (n p q : Nat) (v : Int) (c : Nat) (o o' : List Int) : Prop where
  len : o'.length = o.length
  keep : ∀ j, en0 o j ≠ 0 → en0 o' j = en0 o j
  new : ∀ j, en0 o j = 0 → en0 o' j ≠ 0 → en0 o' j = v ∧ Conn n p q c j
  clos : ∀ j k, j < n → en0 o j = 0 → en0 o' j ≠ 0 → Nb n p q j k → en0 o' k ≠ 0
theorem WGood.refl {v : Int} {c : Nat} {o : List Int} : WGood n p q v c o o := ⟨rfl, fun _ _ => rfl, fun j h h' => absurd h h', fun j k _ h h' => absurd h h'⟩
theorem WGood.trans {v : Int} {c : Nat} {o o1 o2 : List Int} (h1 : WGood n p q v c o o1) (h2 : WGood n p q v c o1 o2) : WGood n p q v c o o2 := by
  refine ⟨h2.len.trans h1.len, fun j hj => ?_, fun j hj hj2 => ?_, fun j k hjn hj hj2 hk => ?_⟩
  · have := h1.keep j hj
    rw [h2.keep j (by rw [this]; exact hj), this]
  · by_cases h : en0 o1 j = 0
    · exact h2.new j h hj2
    · rw [h2.keep j h]; exact h1.new j hj h
  · by_cases h : en0 o1 j = 0
    · exact h2.clos j k hjn h hj2 hk
    · have := h1.clos j k hjn hj h hk
      rw [h2.keep k this]; exact this
theorem WGood.mono {v : Int} {c d : Nat} {o o' : List Int} (h : WGood n p q v d o o') (hc : Conn n p q c d) : WGood n p q v c o o' :=
  ⟨h.len, h.keep, fun j h1 h2 => ⟨(h.new j h1 h2).1, hc.trans (h.new j h1 h2).2⟩, h.clos⟩
def Named (n p q : Nat) (v : Int) (i : Int) (o o' : List Int) : Prop :=
  o'.length = o.length ∧ (¬ (0 ≤ i ∧ i < n) → o' = o) ∧ (∀ c : Nat, i = c → c < n → WGood n p q v c o o' ∧ en0 o' c ≠ 0)
theorem fs52 {N : Nat} {a b c : Int} : f52 N a b c = some (decide (a ≤ b ∧ b ≤ c)) := by
  unfold f52
  by_cases h : a ≤ b <;> simp [h]
theorem name_ok (hn : 1 ≤ n) (hn2 : n ≤ 24) (hp : p ≤ 24) (hq : q ≤ 24) {v : Int} (hv : v ≠ 0) :
    ∀ (N : Nat) (i : Int) (o : List Int), -100 ≤ i ∧ i ≤ 100 → o.length = n → zeros o + 8 ≤ N → ∃ o', f53 N i (n : Int) v (p : Int) (q : Int) o = some o' ∧ Named n p q v i o o' := by
  intro N
  induction N with
  | zero => intro i o _ _ h; omega
  | succ N ih =>
    intro i o hi hl hz
    rw [f53]
    unfold f53b
    rw [fs52, Option.bind_some, W_of (by omega) (by omega)]
    by_cases hr : 0 ≤ i ∧ i < n
    · rw [decide_eq_true (show (0 : Int) ≤ i ∧ i ≤ (n : Int) - 1 by omega)]
      obtain ⟨c, rfl⟩ : ∃ c : Nat, i = c := ⟨i.toNat, by omega⟩
      have hc : c < o.length := by omega
      simp only [Bool.not_true, cond_false]
      rw [ix_nat, en0_get hc]
      simp only [Option.bind_some]
      by_cases h0 : en0 o c = 0
      · simp only [h0, not_true, decide_false, cond_false]
        have hs : setx o (c : Int) v = some (o.set c v) := by
          unfold setx; rw [if_pos ⟨by omega, by omega⟩]; rfl
        rw [hs, Option.bind_some]
        have hz2 := zeros_set hv hc h0
        -- the four ways
        have step : ∀ (d : Int) (b : List Int), -24 ≤ d ∧ d ≤ 24 → b.length = n → zeros b ≤ zeros (o.set c v) → (0 ≤ (c : Int) + d → (c : Int) + d < n → ∀ e : Nat, (c : Int) + d = e → Nb n p q c e) →
            ∃ b', (f53 N (W ((c : Int) + d)) (n : Int) v (p : Int) (q : Int) b) = some b' ∧ keepL b b' = some b' ∧ b'.length = n ∧ zeros b' ≤ zeros (o.set c v) ∧ WGood n p q v c b b' ∧ (∀ e : Nat, (c : Int) + d = e → e < n → en0 b' e ≠ 0) := by
          intro d b hd hb hzb hnb
          rw [W_of (by omega) (by omega)]
          obtain ⟨b', e1, e2, e3, e4⟩ := ih ((c : Int) + d) b ⟨by omega, by omega⟩ hb (by omega)
          have hg : WGood n p q v c b b' := by
            by_cases hin : 0 ≤ (c : Int) + d ∧ (c : Int) + d < n
            · have := (e4 ((c : Int) + d).toNat (by omega) (by omega)).1
              exact this.mono (Conn.refl.step (hnb hin.1 hin.2 _ (by omega)))
            · rw [e3 hin]; exact WGood.refl
          refine ⟨b', e1, ?_, by omega, ?_, hg, fun e he hen => (e4 e he hen).2⟩
          · unfold keepL; rw [if_pos e2.symm]
          · exact Nat.le_trans (zeros_le e2.symm hg.keep) hzb
        have l0 : (o.set c v).length = n := by simp [hl]
        obtain ⟨b1, s1, t1, l1, z1, g1, m1⟩ := step (p : Int) (o.set c v) (by omega) l0 (Nat.le_refl _) (fun _ h e he => ⟨by omega, .inl (by omega)⟩)
        obtain ⟨b2, s2, t2, l2, z2, g2, m2⟩ := step (0 - (p : Int)) b1 (by omega) l1 z1 (fun _ h e he => ⟨by omega, .inr (.inl (by omega))⟩)
        obtain ⟨b3, s3, t3, l3, z3, g3, m3⟩ := step (q : Int) b2 (by omega) l2 z2 (fun _ h e he => ⟨by omega, .inr (.inr (.inl (by omega)))⟩)
        obtain ⟨b4, s4, t4, l4, z4, g4, m4⟩ := step (0 - (q : Int)) b3 (by omega) l3 z3 (fun _ h e he => ⟨by omega, .inr (.inr (.inr (by omega)))⟩)
        have wp : W (0 - (p : Int)) = 0 - (p : Int) := W_of (by omega) (by omega)
        have wq : W (0 - (q : Int)) = 0 - (q : Int) := W_of (by omega) (by omega)
        obtain ⟨A, hA⟩ : ∃ A, N = A + 1 := ⟨N - 1, by omega⟩
        obtain ⟨B, hB⟩ : ∃ B, A = B + 1 := ⟨A - 1, by omega⟩
        obtain ⟨C, hC⟩ : ∃ C, B = C + 1 := ⟨B - 1, by omega⟩
        obtain ⟨D, hD⟩ : ∃ D, C = D + 1 := ⟨C - 1, by omega⟩
        obtain ⟨E, hE⟩ : ∃ E, D = E + 1 := ⟨D - 1, by omega⟩
        have u : ∀ m (a : Int) (b : List Int), f53_3 (c : Int) (n : Int) v (p : Int) (q : Int) o (f53 N) (m + 1) a b = f53_3b (f53_3 (c : Int) (n : Int) v (p : Int) (q : Int) o (f53 N) m) (c : Int) (n : Int) v (p : Int) (q : Int) o (f53 N) a b := fun _ _ _ => rfl
        have a0 : ix [(p : Int), 0 - (p : Int), (q : Int), 0 - (q : Int)] 0 = some (p : Int) := rfl
        have a1 : ix [(p : Int), 0 - (p : Int), (q : Int), 0 - (q : Int)] 1 = some (0 - (p : Int)) := rfl
        have a2 : ix [(p : Int), 0 - (p : Int), (q : Int), 0 - (q : Int)] 2 = some (q : Int) := rfl
        have a3 : ix [(p : Int), 0 - (p : Int), (q : Int), 0 - (q : Int)] 3 = some (0 - (q : Int)) := rfl
        have w0 : W ((0 : Int) + 1) = 1 := by decide
        have w1 : W ((1 : Int) + 1) = 2 := by decide
        have w2 : W ((2 : Int) + 1) = 3 := by decide
        have w3 : W ((3 : Int) + 1) = 4 := by decide
        have c0 : decide ((0 : Int) < (List.length [(p : Int), 0 - (p : Int), (q : Int), 0 - (q : Int)] : Int)) = true := by simp
        have c1 : decide ((1 : Int) < (List.length [(p : Int), 0 - (p : Int), (q : Int), 0 - (q : Int)] : Int)) = true := by simp
        have c2 : decide ((2 : Int) < (List.length [(p : Int), 0 - (p : Int), (q : Int), 0 - (q : Int)] : Int)) = true := by simp
        have c3 : decide ((3 : Int) < (List.length [(p : Int), 0 - (p : Int), (q : Int), 0 - (q : Int)] : Int)) = true := by simp
        have c4 : decide ((4 : Int) < (List.length [(p : Int), 0 - (p : Int), (q : Int), 0 - (q : Int)] : Int)) = false := by simp
        have hk : keepL o b4 = some b4 := by unfold keepL; rw [if_pos (by omega)]
        refine ⟨b4, ?_, ?_⟩
        · have hf : f53_3 (c : Int) (n : Int) v (p : Int) (q : Int) o (f53 N) N 0 (o.set c v) = f53_3 (c : Int) (n : Int) v (p : Int) (q : Int) o (f53 N) (A + 1) 0 (o.set c v) := by rw [← hA]
          rw [hf, u]
          unfold f53_3b
          simp only [wp, wq, c0, a0, w0, cond_true, Option.bind_some, s1, t1]
          rw [hB, u]
          unfold f53_3b
          simp only [wp, wq, c1, a1, w1, cond_true, Option.bind_some, s2, t2]
          rw [hC, u]
          unfold f53_3b
          simp only [wp, wq, c2, a2, w2, cond_true, Option.bind_some, s3, t3]
          rw [hD, u]
          unfold f53_3b
          simp only [wp, wq, c3, a3, w3, cond_true, Option.bind_some, s4, t4]
          rw [hE, u]
          unfold f53_3b
          simp only [wp, wq, c4, cond_false, Option.bind_some, hk]
        · refine ⟨by omega, fun h => absurd hr h, fun c' hc' hcn => ?_⟩
          obtain rfl : c = c' := by omega
          have G := ((g1.trans g2).trans g3).trans g4
          have hcc : en0 (o.set c v) c = v := by rw [en0_set hc, if_pos rfl]
          have hc4 : en0 b4 c = v := by rw [G.keep c (by rw [hcc]; exact hv), hcc]
          refine ⟨⟨by omega, fun j hj => ?_, fun j hj hj2 => ?_, fun j k hjn hj hj2 hk => ?_⟩, by rw [hc4]; exact hv⟩
          · have hjc : j ≠ c := by rintro rfl; exact hj h0
            have : en0 (o.set c v) j = en0 o j := by rw [en0_set hc, if_neg hjc]
            rw [G.keep j (by rw [this]; exact hj), this]
          · by_cases hjc : j = c
            · subst hjc; exact ⟨hc4, .refl⟩
            · exact G.new j (by rw [en0_set hc, if_neg hjc]; exact hj) hj2
          · by_cases hjc : j = c
            · subst hjc
              have hkn := hk.1
              rcases hk.2 with h | h | h | h
              · have h5 := m1 k (by omega) hkn
                rw [(g2.trans g3 |>.trans g4).keep k h5]; exact h5
              · have h5 := m2 k (by omega) hkn
                rw [(g3.trans g4).keep k h5]; exact h5
              · have h5 := m3 k (by omega) hkn
                rw [g4.keep k h5]; exact h5
              · exact m4 k (by omega) hkn
            · exact G.clos j k hjn (by rw [en0_set hc, if_neg hjc]; exact hj) hj2 hk
      · simp only [h0, not_false_eq_true, decide_true, cond_true]
        refine ⟨o, rfl, rfl, fun _ => rfl, fun c' hc' _ => ?_⟩
        obtain rfl : c = c' := by omega
        exact ⟨WGood.refl, h0⟩
    · rw [decide_eq_false (show ¬ ((0 : Int) ≤ i ∧ i ≤ (n : Int) - 1) by omega)]
      exact ⟨o, rfl, rfl, fun _ => rfl, fun c hc hcn => absurd ⟨by omega, by omega⟩ hr⟩
end
end Go.Vc
namespace Go.Vc
open Go.Proofs
set_option linter.unusedVariables false
set_option linter.unnecessarySimpa false
set_option linter.unusedSimpArgs false
set_option linter.unusedSimpArgs false
section
variable {n p q : Nat}
noncomputable def partW (n p q i : Nat) : List Int := (List.range n).map fun k => if fstC n p q k < i then (valC n p q k : Int) else 0
theorem partW_len {i : Nat} : (partW n p q i).length = n := by simp [partW]
theorem partW_en {i k : Nat} (hk : k < n) : en0 (partW n p q i) k = if fstC n p q k < i then (valC n p q k : Int) else 0 := by
  have : (partW n p q i)[k]? = some (if fstC n p q k < i then (valC n p q k : Int) else 0) := by
    unfold partW
    rw [List.getElem?_map, List.getElem?_range hk]; rfl
  unfold en0
  rw [List.getD_eq_getElem?_getD, this]; rfl
theorem zeros_len (o : List Int) : zeros o ≤ o.length := List.countP_le_length
theorem named_next {i : Nat} (hi : i < n) (hf : fstC n p q i = i) {o' : List Int} (h : Named n p q ((97 + rankC n p q i : Nat) : Int) (i : Int) (partW n p q i) o') : o' = partW n p q (i + 1) := by
  obtain ⟨h1, h2, h3⟩ := h
  obtain ⟨g, hne⟩ := h3 i rfl hi
  rw [partW_len] at h1
  -- all that is connected is named
  have hall : ∀ k, Conn n p q i k → en0 o' k ≠ 0 := by
    intro k hk
    induction hk with
    | refl => exact hne
    | @step b c hb hn ih =>
      have hbn := hb.lt hi
      have hfb : fstC n p q b = i := by rw [← (fstC_eq hi hbn).2 hb, hf]
      exact g.clos b c hbn (by rw [partW_en hbn, if_neg (by omega)]) ih hn
  refine List.ext_getElem? fun k => ?_
  by_cases hk : k < n
  · rw [en0_get (by omega), en0_get (by rw [partW_len]; exact hk), partW_en hk]
    congr 1
    by_cases c1 : fstC n p q k < i
    · have e := partW_en (p := p) (q := q) (i := i) hk
      rw [if_pos c1] at e
      have hv := (valC_rng (p := p) (q := q) hk).1
      rw [g.keep k (by rw [e]; omega), e, if_pos (by omega)]
    · have e := partW_en (p := p) (q := q) (i := i) hk
      rw [if_neg c1] at e
      by_cases c2 : fstC n p q k = i
      · have hc : Conn n p q i k := by rw [← c2]; exact (fstC_spec n p q k).2.1
        rw [(g.new k e (hall k hc)).1, if_pos (by omega)]
        unfold valC; rw [c2]
      · rw [if_neg (by omega)]
        by_cases c3 : en0 o' k = 0
        · exact c3
        · have := fstC_le (g.new k e c3).2
          omega
  · rw [List.getElem?_eq_none (by omega), List.getElem?_eq_none (by rw [partW_len]; omega)]
theorem part_same {i : Nat} (hi : i < n) (hf : fstC n p q i ≠ i) : partW n p q i = partW n p q (i + 1) := by
  unfold partW
  refine List.map_congr_left fun k hk => ?_
  have hk := List.mem_range.1 hk
  by_cases c : fstC n p q k = i
  · have := fstC_idem (p := p) (q := q) hk
    rw [c] at this
    exact absurd this hf
  · by_cases c1 : fstC n p q k < i
    · rw [if_pos c1, if_pos (by omega)]
    · rw [if_neg c1, if_neg (by omega)]
noncomputable def wideN (n p q : Nat) : List UInt8 := (List.range n).map fun k => UInt8.ofNat (valC n p q k)
theorem wideN_len : (wideN n p q).length = n := by simp [wideN]
theorem wideN_get {k : Nat} (hk : k < n) : (wideN n p q)[k]? = some (UInt8.ofNat (valC n p q k)) := by
  unfold wideN
  rw [List.getElem?_map, List.getElem?_range hk]; rfl
theorem ofNat_val (hn : n ≤ 24) {j k : Nat} (hj : j < n) (hk : k < n) : UInt8.ofNat (valC n p q j) = UInt8.ofNat (valC n p q k) ↔ Conn n p q j k := by
  rw [← valC_eq hj hk]
  have h1 := valC_rng (p := p) (q := q) hj
  have h2 := valC_rng (p := p) (q := q) hk
  constructor
  · intro h
    have := congrArg UInt8.toNat h
    rw [UInt8.toNat_ofNat', UInt8.toNat_ofNat', Nat.mod_eq_of_lt (show valC n p q j < 2 ^ 8 by omega), Nat.mod_eq_of_lt (show valC n p q k < 2 ^ 8 by omega)] at this
    exact this
  · intro h; rw [h]
theorem wideN_ok (hn : n ≤ 24) : (wideN n p q).all okb = true := by
  rw [List.all_eq_true]
  intro b hb
  unfold wideN at hb
  obtain ⟨k, hk, rfl⟩ := List.mem_map.1 hb
  have h1 := valC_rng (p := p) (q := q) (List.mem_range.1 hk)
  have hk := List.mem_range.1 hk
  simp only [okb, UInt8.toNat_ofNat', Nat.mod_eq_of_lt (show valC n p q k < 2 ^ 8 by omega)]
  simp; omega
theorem wideN_isP (hn : n ≤ 24) {d : Nat} : isP (wideN n p q) d = true ↔ ∀ i, i + d < n → Conn n p q i (i + d) := by
  rw [isP_per, wideN_len]
  constructor
  · intro h i hi
    have := h i hi
    simp only at this
    rw [wideN_get (by omega), wideN_get hi] at this
    exact (ofNat_val hn (by omega) hi).1 (Option.some.inj this)
  · intro h i hi
    simp only
    rw [wideN_get (by omega), wideN_get hi, (ofNat_val hn (by omega) hi).2 (h i hi)]
theorem wide_loop {N : Nat} {x4 : List Int} (hn : 1 ≤ n) (hn2 : n ≤ 24) (hp : p ≤ 24) (hq : q ≤ 24) (hx : x4.length = n) (hN : 60 ≤ N) :
    ∀ (m i : Nat), i ≤ n → n - i < m → f25_8 (p : Int) (q : Int) (n : Int) N x4 f25_c14 m (i : Int) (partW n p q i) ((97 + rankC n p q i : Nat) : Int) = some (strC (wideN n p q), 0) := by
  intro m
  induction m with
  | zero => intro i _ h; omega
  | succ m ih =>
    intro i hi hm
    unfold f25_8 f25_8b
    rw [hx]
    by_cases h : i < n
    · simp only [show (i : Int) < (n : Int) by omega, decide_true, cond_true]
      rw [ix_nat, en0_get (by rw [partW_len]; exact h), partW_en h]
      simp only [Option.bind_some]
      have hv := (valC_rng (p := p) (q := q) h).1
      have hf := (fstC_spec n p q i).1
      by_cases c : fstC n p q i = i
      · rw [if_neg (by omega)]
        simp only [decide_true, cond_true]
        have hz := zeros_len (partW n p q i)
        rw [partW_len] at hz
        obtain ⟨o', e1, e2⟩ := name_ok hn hn2 hp hq (v := ((97 + rankC n p q i : Nat) : Int)) (by omega) N (i : Int) (partW n p q i) (by omega) partW_len (by omega)
        rw [e1]
        simp only [Option.bind_some]
        have hk : keepL (partW n p q i) o' = some o' := by unfold keepL; rw [if_pos e2.1.symm]
        rw [hk, named_next h c e2]
        simp only [Option.bind_some]
        have hr := rankC_le (n := n) (p := p) (q := q) i
        have hw : Wk .u8 (((97 + rankC n p q i : Nat) : Int) + (1 : Int)) = ((97 + rankC n p q (i + 1) : Nat) : Int) := by
          rw [rankC, if_pos c, Wk_of (by simp [IntKind.min, IntKind.max, IntKind.signed, IntKind.bits]; omega)]; omega
        rw [hw, W_nat (by omega)]
        exact ih (i + 1) (by omega) (by omega)
      · rw [if_pos (by omega)]
        have : ¬ (valC n p q i : Int) = 0 := by omega
        simp only [this, decide_false, cond_false]
        rw [W_nat (by omega), part_same h c]
        have hr : rankC n p q i = rankC n p q (i + 1) := by rw [rankC, if_neg c]; omega
        rw [hr]
        exact ih (i + 1) (by omega) (by omega)
    · have : i = n := by omega
      subst this
      simp only [Int.lt_irrefl, decide_false, cond_false]
      unfold f25_c14
      have hs : strOf (partW i p q i) = some (strC (wideN i p q)) := by
        unfold strOf
        rw [if_pos (by rw [partW_len]; simp [maxLen]; omega)]
        unfold strC
        congr 3
        unfold partW wideN
        rw [List.map_map]
        refine List.map_congr_left fun k hk => ?_
        have hk := List.mem_range.1 hk
        have := (fstC_spec i p q k).1
        simp only [Function.comp]
        rw [if_pos (by omega), Int.toNat_natCast]
      rw [hs]; rfl
end
theorem f25_eq {N : Nat} {a b c : Int} (hN : 60 ≤ N) : f25 N a b c = some (if (1 ≤ c ∧ c ≤ 24) ∧ (1 ≤ a ∧ a ≤ c) ∧ (1 ≤ b ∧ b ≤ c) then (strC (wideN c.toNat a.toNat b.toNat), 0) else (emptyS, 3)) := by
  unfold f25
  rw [fs52, fs52, fs52]
  simp only [Option.bind_some]
  by_cases h1 : 1 ≤ c ∧ c ≤ 24
  · by_cases h2 : 1 ≤ a ∧ a ≤ c
    · by_cases h3 : 1 ≤ b ∧ b ≤ c
      · rw [if_pos ⟨h1, h2, h3⟩, decide_eq_true h1, decide_eq_true h2, decide_eq_true h3]
        obtain ⟨n, rfl⟩ : ∃ n : Nat, c = n := ⟨c.toNat, by omega⟩
        obtain ⟨p, rfl⟩ : ∃ n : Nat, a = n := ⟨a.toNat, by omega⟩
        obtain ⟨q, rfl⟩ : ∃ n : Nat, b = n := ⟨b.toNat, by omega⟩
        have hm : mkS 1 (0 : Int) (n : Int) (n : Int) = some (List.replicate n 0) := by
          unfold mkS; rw [if_pos ⟨by omega, by omega, by omega⟩]; rfl
        have hrep : List.replicate n (0 : Int) = partW n p q 0 := by
          refine List.ext_getElem? fun k => ?_
          by_cases hk : k < n
          · rw [en0_get (o := partW n p q 0) (by rw [partW_len]; exact hk), partW_en hk, if_neg (by omega), List.getElem?_replicate, if_pos hk]
          · rw [List.getElem?_eq_none (by simp; omega), List.getElem?_eq_none (by rw [partW_len]; omega)]
        simp only [Bool.not_true, cond_false, hm, Option.bind_some, joinK, Int.toNat_natCast]
        have := wide_loop (N := N) (n := n) (p := p) (q := q) (x4 := List.replicate n 0) (by omega) (by omega) (by omega) (by omega) (by simp) hN N 0 (by omega) (by omega)
        rw [← hrep] at this
        exact this
      · rw [if_neg (fun h => h3 h.2.2), decide_eq_true h1, decide_eq_true h2, decide_eq_false h3]; rfl
    · rw [if_neg (fun h => h2 h.2.1), decide_eq_true h1, decide_eq_false h2]; rfl
  · rw [if_neg (fun h => h1 h.1), decide_eq_false h1]; rfl
end Go.Vc
namespace Go.Vc
open Go.Proofs
set_option linter.unusedVariables false
set_option linter.unnecessarySimpa false
set_option linter.unusedSimpArgs false
end Go.Vc
namespace Go.Vc
open Go.Proofs
set_option linter.unusedVariables false
set_option linter.unnecessarySimpa false
set_option linter.unusedSimpArgs false
end Go.Vc
namespace Go.Vc
open Go.Proofs
set_option linter.unusedVariables false
set_option linter.unnecessarySimpa false
set_option linter.unusedSimpArgs false
set_option linter.unusedSimpArgs false
set_option maxRecDepth 100000
section
variable {α β : Type}
end
theorem f37_loop {k0 : Int → Option Int} : ∀ (m a b : Nat), b < m → b ≤ 1000000 → f37_1 k0 m (a : Int) (b : Int) = k0 (Nat.gcd b a : Int) := by
  intro m
  induction m with
  | zero => intro a b h; omega
  | succ m ih =>
    intro a b hb hb2
    unfold f37_1 f37_1b
    by_cases h : 0 < b
    · have hc : chk (decide ((b : Int) ≠ 0)) = some () := by rw [decide_eq_true (by omega)]; rfl
      have ht : Int.tmod (a : Int) (b : Int) = ((a % b : Nat) : Int) := rfl
      have hlt := Nat.mod_lt a h
      simp only [show (0 : Int) < (b : Int) by omega, decide_true, cond_true, hc, Option.bind_some, ht]
      rw [ih b (a % b) (by omega) (by omega)]
      congr 1
      rw [Nat.gcd_rec b a]
    · have : b = 0 := by omega
      subst this
      rw [Nat.gcd_zero_left]
      rfl
theorem f37_eq {N a b : Nat} (hb : b < N) (hb2 : b ≤ 1000000) : f37 N (a : Int) (b : Int) = some (Nat.gcd a b : Int) := by
  unfold f37
  simp only [joinK]
  rw [f37_loop N a b hb hb2, Nat.gcd_comm]; rfl
structure Read3 (a0 : A3u8N) (m n p q : Nat) : Prop where
  hn : W ((1 : Int) + Int.tmod a0.e0 (m : Int)) = (n : Int)
  hp : W ((1 : Int) + Int.tmod a0.e1 (n : Int)) = (p : Int)
  hq : W ((1 : Int) + Int.tmod a0.e2 (n : Int)) = (q : Int)
  n1 : 1 ≤ n
  nm : n ≤ m
  p1 : 1 ≤ p
  pn : p ≤ n
  q1 : 1 ≤ q
  qn : q ≤ n
theorem read_one {x : Int} {m : Nat} (h : 0 ≤ x) (h' : x ≤ 255) (hm : 1 ≤ m) (hm2 : m ≤ 1000) : ∃ n : Nat, W ((1 : Int) + Int.tmod x (m : Int)) = (n : Int) ∧ 1 ≤ n ∧ n ≤ m := by
  obtain ⟨u, rfl⟩ : ∃ u : Nat, x = u := ⟨x.toNat, by omega⟩
  have ht : Int.tmod (u : Int) (m : Int) = ((u % m : Nat) : Int) := rfl
  have hlt := Nat.mod_lt u (show m > 0 by omega)
  refine ⟨u % m + 1, ?_, by omega, by omega⟩
  rw [ht]
  generalize u % m = r at *
  rw [W_of (by omega) (by omega)]; omega
theorem read3 {a0 : A3u8N} {m : Nat} (hm : 1 ≤ m) (hm2 : m ≤ 1000) (h0 : 0 ≤ a0.e0 ∧ a0.e0 ≤ 255) (h1 : 0 ≤ a0.e1 ∧ a0.e1 ≤ 255) (h2 : 0 ≤ a0.e2 ∧ a0.e2 ≤ 255) : ∃ n p q, Read3 a0 m n p q := by
  obtain ⟨n, n1, n2, n3⟩ := read_one h0.1 h0.2 hm hm2
  obtain ⟨p, p1, p2, p3⟩ := read_one h1.1 h1.2 n2 (by omega)
  obtain ⟨q, q1, q2, q3⟩ := read_one h2.1 h2.2 n2 (by omega)
  exact ⟨n, p, q, n1, p1, q1, n2, n3, p2, p3, q2, q3⟩
end Go.Vc
namespace Go.Vc
open Go.Proofs
set_option maxRecDepth 100000
theorem t15 : f15 60 = some true := by decide +kernel
end Go.Vc
namespace Go.Vc
open Go.Proofs
set_option linter.unusedVariables false
set_option linter.unnecessarySimpa false
set_option linter.unusedSimpArgs false
end Go.Vc
namespace Go.Vc
open Go.Proofs
set_option linter.unusedVariables false
set_option linter.unnecessarySimpa false
set_option linter.unusedSimpArgs false
set_option linter.unusedSimpArgs false
theorem perN_mem {l : List UInt8} {p : Nat} : p ∈ perN l ↔ (1 ≤ p ∧ p ≤ l.length) ∧ isP l p = true := by
  unfold perN
  rw [List.mem_filter, List.mem_range'_1]
  constructor
  · rintro ⟨a, b⟩; exact ⟨by omega, b⟩
  · rintro ⟨a, b⟩; exact ⟨by omega, b⟩
theorem toI_get {a : List Nat} {i : Nat} : (toI a)[i]? = (a[i]?).map fun (x : Nat) => (x : Int) := by simp [toI]
end Go.Vc
namespace Go.Vc
open Go.Proofs
set_option linter.unusedVariables false
set_option linter.unnecessarySimpa false
set_option linter.unusedSimpArgs false
set_option linter.unusedSimpArgs false
def cnt (f : Nat → Bool) (p : Nat) : Nat := ((List.range' 1 (p - 1)).filter f).length
theorem cnt_next {f : Nat → Bool} {p : Nat} (h : 1 ≤ p) : cnt f (p + 1) = cnt f p + (if f p = true then 1 else 0) := by
  unfold cnt
  rw [Nat.add_sub_cancel]
  exact filter_next h
theorem cnt_one {f : Nat → Bool} : cnt f 1 = 0 := rfl
theorem cnt_le {f : Nat → Bool} {p : Nat} : cnt f p ≤ p := by
  unfold cnt
  exact Nat.le_trans (List.length_filter_le _ _) (by simp)
theorem entry {f : Nat → Bool} {n p : Nat} (h1 : 1 ≤ p) (hp : p ≤ n) :
    (f p = true → cnt f p < ((List.range' 1 n).filter f).length ∧ (toI ((List.range' 1 n).filter f))[cnt f p]? = some (p : Int)) ∧
    (f p = false → ∀ x, (toI ((List.range' 1 n).filter f))[cnt f p]? = some x → x ≠ (p : Int)) := by
  have key := filter_at (f := f) h1 hp
  constructor
  · intro h
    have := key.2 h
    refine ⟨(List.getElem?_eq_some_iff.1 this).1, ?_⟩
    rw [toI_get]
    unfold cnt
    rw [this]; rfl
  · intro h x hx hh
    subst hh
    rw [toI_get] at hx
    unfold cnt at hx
    have : ((List.range' 1 n).filter f)[((List.range' 1 (p - 1)).filter f).length]? = some p := by
      cases hq : ((List.range' 1 n).filter f)[((List.range' 1 (p - 1)).filter f).length]? with
      | none => rw [hq] at hx; cases hx
      | some y =>
        rw [hq] at hx
        simp only [Option.map_some, Option.some.injEq] at hx
        congr 1; omega
    have := key.1 this
    rw [h] at this; cases this
theorem entry_test {α : Type} {f : Nat → Bool} {n p : Nat} (h1 : 1 ≤ p) (hp : p ≤ n) {A : Option α} {B : Option α} {v : Bool} (hv : v = f p) :
    (bif decide ((cnt f p : Int) < (List.length (toI ((List.range' 1 n).filter f)) : Int)) then ((ix (toI ((List.range' 1 n).filter f)) (cnt f p : Int)).bind fun x => bif !(v == (decide (x = (p : Int)))) then A else B)
      else (bif !(v == false) then A else B)) = B := by
  obtain ⟨e1, e2⟩ := entry (f := f) h1 hp
  rw [toI_len, ix_nat]
  subst hv
  cases hf : f p with
  | true =>
    obtain ⟨a, b⟩ := e1 hf
    rw [decide_eq_true (show (cnt f p : Int) < (((List.range' 1 n).filter f).length : Int) by omega), b]
    simp
  | false =>
    by_cases hc : cnt f p < ((List.range' 1 n).filter f).length
    · rw [decide_eq_true (show (cnt f p : Int) < (((List.range' 1 n).filter f).length : Int) by omega)]
      have hlt : cnt f p < (toI ((List.range' 1 n).filter f)).length := by rw [toI_len]; exact hc
      have hg := List.getElem?_eq_getElem hlt
      have := e2 hf _ hg
      rw [hg, cond_true, Option.bind_some, decide_eq_false this]; rfl
    · rw [decide_eq_false (show ¬ (cnt f p : Int) < (((List.range' 1 n).filter f).length : Int) by omega)]; rfl
end Go.Vc
namespace Go.Vc
open Go.Proofs
set_option linter.unusedVariables false
set_option linter.unnecessarySimpa false
set_option linter.unusedSimpArgs false
set_option linter.unusedSimpArgs false
set_option maxRecDepth 100000
section
variable {n p q : Nat}
def Lk (n p q z : Nat) : Prop := Conn n p q z (n - p) ∨ Conn n p q z (n - q)
theorem conn_new (p1 : 1 ≤ p) (q1 : 1 ≤ q) (pn : p ≤ n) (qn : q ≤ n) {x y : Nat} (hx : x < n) (h : Conn (n + 1) p q x y) : (y < n ∧ (Conn n p q x y ∨ (Lk n p q x ∧ Lk n p q y))) ∨ (y = n ∧ Lk n p q x) := by
  induction h with
  | refl => exact .inl ⟨hx, .inl .refl⟩
  | @step y z h1 hn ih =>
    have hz := hn.1
    rcases ih with ⟨y1, y2⟩ | ⟨rfl, y2⟩
    · by_cases hzn : z < n
      · have hnb : Nb n p q y z := ⟨hzn, hn.2⟩
        refine .inl ⟨hzn, ?_⟩
        rcases y2 with y2 | ⟨y2, y3⟩
        · exact .inl (y2.step hnb)
        · refine .inr ⟨y2, ?_⟩
          have hyz : Conn n p q z y := (Conn.refl.step hnb).symm y1
          rcases y3 with y3 | y3
          · exact .inl (hyz.trans y3)
          · exact .inr (hyz.trans y3)
      · have : z = n := by omega
        subst this
        refine .inr ⟨rfl, ?_⟩
        have hy : y = z - p ∨ y = z - q := by rcases hn.2 with h | h | h | h <;> omega
        rcases y2 with y2 | ⟨y2, _⟩
        · rcases hy with rfl | rfl
          · exact .inl y2
          · exact .inr y2
        · exact y2
    · have hzy : z = y - p ∨ z = y - q := by rcases hn.2 with h | h | h | h <;> omega
      have hzn : z < y := by rcases hzy with h | h <;> omega
      refine .inl ⟨hzn, .inr ⟨y2, ?_⟩⟩
      rcases hzy with rfl | rfl
      · exact .inl .refl
      · exact .inr .refl
theorem first_iff {k : Nat} : fstC n p q k = k ↔ ∀ j, j < k → ¬ Conn n p q j k := by
  obtain ⟨a1, a2, a3⟩ := fstC_spec n p q k
  constructor
  · intro h j hj; exact a3 j (by omega)
  · intro h
    by_cases hh : fstC n p q k = k
    · exact hh
    · exact absurd a2 (h _ (by omega))
theorem lost_one (p1 : 1 ≤ p) (q1 : 1 ≤ q) (pn : p ≤ n) (qn : q ≤ n) {i : Nat} (hi : i < n) (h1 : fstC n p q i = i) (h2 : fstC (n + 1) p q i ≠ i) : i = max (fstC n p q (n - p)) (fstC n p q (n - q)) := by
  obtain ⟨a1, a2, a3⟩ := fstC_spec (n + 1) p q i
  have hj : fstC (n + 1) p q i < i := by omega
  generalize fstC (n + 1) p q i = j at *
  have hno := (first_iff (n := n) (p := p) (q := q)).1 h1 j hj
  rcases conn_new p1 q1 pn qn (show j < n by omega) a2 with ⟨_, h | ⟨h3, h4⟩⟩ | ⟨h, _⟩
  · exact absurd h hno
  · have hpn : n - p < n := by omega
    have hqn : n - q < n := by omega
    rcases h4 with h4 | h4
    · have e := (fstC_eq hi hpn).2 h4
      rw [h1] at e
      rcases h3 with h3 | h3
      · exact absurd (h3.trans (h4.symm hi)) hno
      · have := fstC_le h3
        omega
    · have e := (fstC_eq hi hqn).2 h4
      rw [h1] at e
      rcases h3 with h3 | h3
      · have := fstC_le h3
        omega
      · exact absurd (h3.trans (h4.symm hi)) hno
  · omega
theorem count_step (p1 : 1 ≤ p) (q1 : 1 ≤ q) (pn : p ≤ n) (qn : q ≤ n) : rankC n p q n ≤ rankC (n + 1) p q (n + 1) + 1 := by
  have key : ∀ k, k ≤ n → rankC n p q k ≤ rankC (n + 1) p q k + (if max (fstC n p q (n - p)) (fstC n p q (n - q)) < k then 1 else 0) := by
    intro k
    induction k with
    | zero => intro _; simp [rankC]
    | succ k ih =>
      intro hk
      have ih := ih (by omega)
      rw [rankC, rankC]
      by_cases h1 : fstC n p q k = k
      · by_cases h2 : fstC (n + 1) p q k = k
        · rw [if_pos h1, if_pos h2]
          split at ih <;> split <;> omega
        · have := lost_one p1 q1 pn qn (show k < n by omega) h1 h2
          rw [if_pos h1, if_neg h2]
          generalize max (fstC n p q (n - p)) (fstC n p q (n - q)) = e at *
          rw [if_neg (show ¬ e < k by omega)] at ih
          rw [if_pos (show e < k + 1 by omega)]
          omega
      · rw [if_neg h1]
        split at ih <;> (repeat' split) <;> omega
  have h1 := key n (Nat.le_refl _)
  have h2 := rankC_mono (n := n + 1) (p := p) (q := q) (show n ≤ n + 1 by omega)
  split at h1 <;> omega
theorem rankC_below {g : Nat} (h1 : ∀ i, i < g → i < n → fstC n p q i = i) (h2 : ∀ i, g ≤ i → i < n → fstC n p q i ≠ i) : ∀ k, k ≤ n → rankC n p q k = min k g := by
  intro k
  induction k with
  | zero => intro _; simp [rankC]
  | succ k ih =>
    intro hk
    rw [rankC, ih (by omega)]
    by_cases h : k < g
    · rw [if_pos (h1 k h (by omega))]; omega
    · rw [if_neg (h2 k (by omega) (by omega))]; omega
theorem conn_mod {g : Nat} (hp : g ∣ p) (hq : g ∣ q) {a b : Nat} (h : Conn n p q a b) : a % g = b % g := by
  induction h with
  | refl => rfl
  | step _ hn ih =>
    rw [ih]
    obtain ⟨u, rfl⟩ := hp
    obtain ⟨v, rfl⟩ := hq
    rcases hn.2 with h | h | h | h <;> rw [h] <;> simp
theorem wide_per_p (hn : n ≤ 24) : isP (wideN n p q) p = true := (wideN_isP hn).2 fun i hi => Conn.refl.step ⟨hi, .inl rfl⟩
theorem wide_per_q (hn : n ≤ 24) : isP (wideN n p q) q = true := (wideN_isP hn).2 fun i hi => Conn.refl.step ⟨hi, .inr (.inr (.inl rfl))⟩
theorem fine_per (hn : n ≤ 24) (p1 : 1 ≤ p) (q1 : 1 ≤ q) (h : p + q - Nat.gcd p q ≤ n) : isP (wideN n p q) (Nat.gcd p q) = true := by
  have := fine_wilf (p + q) (wideN n p q).length p q (Nat.le_refl _) p1 q1 (by rw [wideN_len]; exact h) (isP_per.1 (wide_per_p hn)) (isP_per.1 (wide_per_q hn))
  exact isP_per.2 this
theorem count_long (hn : n ≤ 24) (p1 : 1 ≤ p) (q1 : 1 ≤ q) (h : p + q - Nat.gcd p q ≤ n) (hg : Nat.gcd p q ≤ n) : rankC n p q n = Nat.gcd p q := by
  have g1 : 1 ≤ Nat.gcd p q := Nat.gcd_pos_of_pos_left _ p1
  have hper := (wideN_isP hn).1 (fine_per hn p1 q1 h)
  rw [rankC_below (g := Nat.gcd p q) (fun i hi hin => ?_) (fun i hi hin => ?_) n (Nat.le_refl _)]
  · omega
  · rw [first_iff]
    intro j hj hc
    have := conn_mod (Nat.gcd_dvd_left p q) (Nat.gcd_dvd_right p q) hc
    rw [Nat.mod_eq_of_lt (by omega), Nat.mod_eq_of_lt hi] at this
    omega
  · intro he
    rw [first_iff] at he
    refine he (i - Nat.gcd p q) (by omega) ?_
    have := hper (i - Nat.gcd p q) (by omega)
    rwa [show i - Nat.gcd p q + Nat.gcd p q = i by omega] at this
theorem count_max (hpq : p ≤ q) (p1 : 1 ≤ p) : rankC q p q q = p := by
  rw [rankC_below (g := p) (fun i hi hin => ?_) (fun i hi hin => ?_) q (Nat.le_refl _)]
  · omega
  · rw [first_iff]
    intro j hj hc
    have key : ∀ {a b : Nat}, Conn q p q a b → a < q → a % p = b % p := by
      intro a b h ha
      induction h with
      | refl => rfl
      | @step b c hb hn ih =>
        rw [ih]
        have hbq := hb.lt ha
        have := hn.1
        rcases hn.2 with h | h | h | h
        · rw [h]; simp
        · rw [h]; simp
        · omega
        · omega
    have := key hc (by omega)
    rw [Nat.mod_eq_of_lt (by omega), Nat.mod_eq_of_lt hi] at this
    omega
  · intro he
    rw [first_iff] at he
    exact he (i - p) (by omega) (Conn.refl.step ⟨hin, .inl (by omega)⟩)
theorem Conn.swap {a b : Nat} (h : Conn n p q a b) : Conn n q p a b := by
  induction h with
  | refl => exact .refl
  | step _ hn ih => exact ih.step ⟨hn.1, by rcases hn.2 with h | h | h | h <;> simp [h]⟩
theorem rankC_swap (k : Nat) : rankC n p q k = rankC n q p k := by
  induction k with
  | zero => rfl
  | succ k ih =>
    rw [rankC, rankC, ih]
    have : fstC n p q k = k ↔ fstC n q p k = k := by
      rw [first_iff, first_iff]
      exact ⟨fun h j hj hc => h j hj hc.swap, fun h j hj hc => h j hj hc.swap⟩
    by_cases h : fstC n p q k = k
    · rw [if_pos h, if_pos (this.1 h)]
    · rw [if_neg h, if_neg fun hh => h (this.2 hh)]
theorem count_short_le (p1 : 1 ≤ p) (hpq : p ≤ q) : ∀ d, p ≤ rankC (q + d) p q (q + d) + d := by
  intro d
  induction d with
  | zero => have := count_max hpq p1; simp; omega
  | succ d ih =>
    have := count_step (n := q + d) (p := p) (q := q) p1 (by omega) (by omega) (by omega)
    rw [show q + (d + 1) = q + d + 1 by omega]
    omega
theorem count_short_ge (p1 : 1 ≤ p) (q1 : 1 ≤ q) : ∀ d n, p ≤ n → q ≤ n → rankC n p q n ≤ rankC (n + d) p q (n + d) + d := by
  intro d
  induction d with
  | zero => intro n _ _; simp
  | succ d ih =>
    intro n pn qn
    have h1 := count_step (n := n) (p := p) (q := q) p1 q1 pn qn
    have h2 := ih (n + 1) (by omega) (by omega)
    rw [show n + (d + 1) = n + 1 + d by omega]
    omega
theorem count_short (p1 : 1 ≤ p) (hpq : p ≤ q) (qn : q ≤ n) (h : n ≤ p + q - Nat.gcd p q) (h24 : n ≤ 24) : rankC n p q n = p + q - n := by
  have g1 : 1 ≤ Nat.gcd p q := Nat.gcd_pos_of_pos_left _ p1
  have g2 : Nat.gcd p q ≤ p := Nat.gcd_le_left _ p1
  have a := count_short_le (p := p) (q := q) p1 hpq (n - q)
  rw [show q + (n - q) = n by omega] at a
  have b := count_short_ge (p := p) (q := q) p1 (by omega) (p + q - Nat.gcd p q - n) n (by omega) qn
  rw [show n + (p + q - Nat.gcd p q - n) = p + q - Nat.gcd p q by omega] at b
  -- the long one by divisors: without a bound
  have c : rankC (p + q - Nat.gcd p q) p q (p + q - Nat.gcd p q) ≤ Nat.gcd p q := by
    generalize hm : p + q - Nat.gcd p q = m at *
    have key : ∀ i, Nat.gcd p q ≤ i → i < m → fstC m p q i ≠ i := by
      -- the classes as a function
      intro i hi him he
      have f1 : Per (fun i => fstC m p q i) m p := fun i hi => (fstC_eq (by omega) hi).2 (Conn.refl.step ⟨hi, .inl rfl⟩)
      have f2 : Per (fun i => fstC m p q i) m q := fun i hi => (fstC_eq (by omega) hi).2 (Conn.refl.step ⟨hi, .inr (.inr (.inl rfl))⟩)
      have := fine_wilf (p + q) m p q (Nat.le_refl _) p1 (by omega) (by omega) f1 f2 (i - Nat.gcd p q) (by omega)
      simp only at this
      rw [show i - Nat.gcd p q + Nat.gcd p q = i by omega, he] at this
      have := (fstC_spec m p q (i - Nat.gcd p q)).1
      omega
    have key2 : ∀ k, k ≤ m → rankC m p q k ≤ Nat.gcd p q := by
      intro k
      induction k with
      | zero => intro _; simp [rankC]
      | succ k ih =>
        intro hk
        rw [rankC]
        by_cases hkg : k < Nat.gcd p q
        · have := rankC_le (n := m) (p := p) (q := q) k
          split <;> omega
        · rw [if_neg (key k (by omega) (by omega))]
          exact ih (by omega)
    exact key2 m (Nat.le_refl _)
  omega
theorem count_all (h24 : n ≤ 24) (p1 : 1 ≤ p) (q1 : 1 ≤ q) (pn : p ≤ n) (qn : q ≤ n) : (rankC n p q n : Int) = max (Nat.gcd p q : Int) ((p : Int) + (q : Int) - (n : Int)) := by
  have g1 : 1 ≤ Nat.gcd p q := Nat.gcd_pos_of_pos_left _ p1
  have g2 : Nat.gcd p q ≤ p := Nat.gcd_le_left _ p1
  have g3 : Nat.gcd p q ≤ q := Nat.gcd_le_right _ q1
  by_cases h : p + q - Nat.gcd p q ≤ n
  · have := count_long h24 p1 q1 h (by omega)
    omega
  · by_cases hpq : p ≤ q
    · have := count_short p1 hpq qn (by omega) h24
      omega
    · have := count_short (p := q) (q := p) q1 (by omega) pn (by rw [Nat.gcd_comm, Nat.add_comm]; omega) h24
      rw [rankC_swap]
      omega
theorem fine_not (h24 : n ≤ 24) (p1 : 1 ≤ p) (q1 : 1 ≤ q) (pn : p ≤ n) (qn : q ≤ n) (h : n < p + q - Nat.gcd p q) : isP (wideN n p q) (Nat.gcd p q) = false := by
  have g1 : 1 ≤ Nat.gcd p q := Nat.gcd_pos_of_pos_left _ p1
  rw [Bool.eq_false_iff]
  intro hh
  have hper := (wideN_isP h24).1 hh
  have hc := count_all h24 p1 q1 pn qn
  have key2 : ∀ k, k ≤ n → rankC n p q k ≤ Nat.gcd p q := by
    intro k
    induction k with
    | zero => intro _; simp [rankC]
    | succ k ih =>
      intro hk
      rw [rankC]
      by_cases hkg : k < Nat.gcd p q
      · have := rankC_le (n := n) (p := p) (q := q) k
        split <;> omega
      · rw [if_neg]
        · exact ih (by omega)
        · intro he
          rw [first_iff] at he
          refine he (k - Nat.gcd p q) (by omega) ?_
          have := hper (k - Nat.gcd p q) (by omega)
          rwa [show k - Nat.gcd p q + Nat.gcd p q = k by omega] at this
  have := key2 n (Nat.le_refl _)
  omega
end
end Go.Vc
namespace Go.Vc
open Go.Proofs
set_option linter.unusedVariables false
set_option linter.unnecessarySimpa false
set_option linter.unusedSimpArgs false
set_option linter.unusedSimpArgs false
set_option maxRecDepth 100000
def namesL (a : A24u8N) : List Int := [a.e0, a.e1, a.e2, a.e3, a.e4, a.e5, a.e6, a.e7, a.e8, a.e9, a.e10, a.e11, a.e12, a.e13, a.e14, a.e15, a.e16, a.e17, a.e18, a.e19, a.e20, a.e21, a.e22, a.e23]
def nameB (a : A24u8N) (b : UInt8) : UInt8 := UInt8.ofNat (97 + ((namesL a).getD (b.toNat - 97) 0).toNat % 5)
theorem nameB_ok (a : A24u8N) (b : UInt8) : okb (nameB a b) = true := by
  unfold nameB okb
  have := Nat.mod_lt ((namesL a).getD (b.toNat - 97) 0).toNat (show 5 > 0 by omega)
  rw [UInt8.toNat_ofNat', Nat.mod_eq_of_lt (by omega)]
  simp; omega
theorem map_per {f : UInt8 → UInt8} {l : List UInt8} {p : Nat} (h : isP l p = true) : isP (l.map f) p = true := by
  rw [isP_per] at h ⊢
  intro i hi
  rw [List.length_map] at hi
  have := h i hi
  simp only at this ⊢
  rw [List.getElem?_map, List.getElem?_map, this]
theorem wide_get {n p q i : Nat} (hi : i < n) : ∃ h : i < (wideN n p q).length, (wideN n p q)[i] = UInt8.ofNat (valC n p q i) := by
  have hl : i < (wideN n p q).length := by rw [wideN_len]; exact hi
  refine ⟨hl, ?_⟩
  have := wideN_get (p := p) (q := q) hi
  rw [List.getElem?_eq_getElem hl] at this
  exact Option.some.inj this
theorem val_nat {n p q i : Nat} (hn : n ≤ 24) (hi : i < n) : (UInt8.ofNat (valC n p q i)).toNat = valC n p q i := by
  have := valC_rng (p := p) (q := q) hi
  rw [UInt8.toNat_ofNat', Nat.mod_eq_of_lt (by omega)]
theorem fine_names {a0 : A3u8N} {a1 : A24u8N} {n p q : Nat} {x1 e2 : Int} {x3 : List Int × Int} {k6 : Int → Option Bool} (hn : n ≤ 24) :
    ∀ (m i : Nat), i ≤ n → n - i < m → f7_10 a0 a1 x1 (strC (wideN n p q), e2) x3 k6 m (rankC n p q i : Int) i = k6 (rankC n p q n : Int) := by
  intro m
  induction m with
  | zero => intro i _ h; omega
  | succ m ih =>
    intro i hi hm
    unfold f7_10 f7_10b
    by_cases h : i < n
    · obtain ⟨hl, hg⟩ := wide_get (p := p) (q := q) h
      have hv := val_nat (p := p) (q := q) hn h
      have hrng := valC_rng (p := p) (q := q) h
      have f1 := (fstC_spec n p q i).1
      have hmono := rankC_mono (n := n) (p := p) (q := q) f1
      have hr := rankC_le (n := n) (p := p) (q := q) i
      have hval : valC n p q i = 97 + rankC n p q (fstC n p q i) := rfl
      simp only [strC_size, wideN_len, h, decide_true, cond_true, Option.bind_some]
      rw [rune_lo hl (by rw [hg, hv]; omega), idxS_L hl]
      simp only [Option.bind_some]
      rw [hg, hv, W_of (n := 97 + (rankC n p q i : Int)) (by omega) (by omega), decide_eq_false (show ¬ (97 + (rankC n p q i : Int)) < (valC n p q i : Int) by omega), cond_false, decide_eq_false (show ¬ (valC n p q i : Int) < 97 by omega), cond_false]
      by_cases hf : fstC n p q i = i
      · rw [decide_eq_true (show (valC n p q i : Int) = 97 + (rankC n p q i : Int) by rw [hval, hf]; omega), cond_true]
        have e : W ((rankC n p q i : Int) + 1) = (rankC n p q (i + 1) : Int) := by
          rw [rankC, if_pos hf]; exact W_nat (by omega)
        rw [e]
        exact ih (i + 1) (by omega) (by omega)
      · have hlt := rankC_lt (j := i) (show fstC n p q i < i by omega) (fstC_idem h)
        rw [decide_eq_false (show ¬ (valC n p q i : Int) = 97 + (rankC n p q i : Int) by omega), cond_false]
        have e : rankC n p q i = rankC n p q (i + 1) := by rw [rankC, if_neg hf]; omega
        rw [e]
        exact ih (i + 1) (by omega) (by omega)
    · have : i = n := by omega
      subst this
      simp only [strC_size, wideN_len, Nat.lt_irrefl, decide_false, cond_false]
theorem fine_periods {N : Nat} {a0 : A3u8N} {a1 : A24u8N} {n p q : Nat} {x1 e2 e3 : Int} {k4 : Int → Option Bool} (R : Read3 a0 24 n p q) (hN : 60 ≤ N) :
    ∀ (m i : Nat), 1 ≤ i → i ≤ n + 1 → n + 1 - i < m → f7_20 a0 a1 N x1 (strC (wideN n p q), e2) (toI (perN (wideN n p q)), e3) k4 m (cnt (isP (wideN n p q)) i : Int) (i : Int) = k4 ((perN (wideN n p q)).length : Int) := by
  obtain ⟨hn, hp, hq, n1, nm, p1, pn, q1, qn⟩ := R
  intro m
  induction m with
  | zero => intro i _ _ h; omega
  | succ m ih =>
    intro i h1 hi hm
    unfold f7_20 f7_20b
    rw [show (24 : Int) = ((24 : Nat) : Int) from rfl, hn]
    by_cases h : i ≤ n
    · have hlen : (wideN n p q).length = n := wideN_len
      have c1 := cnt_le (f := isP (wideN n p q)) (p := i)
      have hg : f38 N (strC (wideN n p q)) (i : Int) = some (isP (wideN n p q) i) := by
        rw [f38_eq (by omega) (wideN_ok nm) (by omega), hlen, decide_eq_true ⟨h1, h⟩]; rfl
      rw [decide_eq_true (show (i : Int) ≤ (n : Int) by omega), cond_true]
      simp only [hg, Option.bind_some]
      have et := entry_test (α := Bool) (f := isP (wideN n p q)) (n := n) (p := i) h1 h (A := some false)
        (B := bif isP (wideN n p q) i then f7_20 a0 a1 N x1 (strC (wideN n p q), e2) (toI (perN (wideN n p q)), e3) k4 m (W ((cnt (isP (wideN n p q)) i : Int) + 1)) (W ((i : Int) + 1)) else f7_20 a0 a1 N x1 (strC (wideN n p q), e2) (toI (perN (wideN n p q)), e3) k4 m (cnt (isP (wideN n p q)) i : Int) (W ((i : Int) + 1))) (v := isP (wideN n p q) i) rfl
      have hpe : perN (wideN n p q) = (List.range' 1 n).filter (isP (wideN n p q)) := by unfold perN; rw [hlen]
      rw [← hpe] at et
      rw [et]
      have next := ih (i + 1) (by omega) (by omega) (by omega)
      rw [cnt_next h1] at next
      rw [W_nat (show i < 9223372036854775807 by omega)]
      cases hper : isP (wideN n p q) i with
      | true =>
        rw [hper, if_pos rfl] at next
        rw [cond_true, W_nat (by omega)]; exact next
      | false =>
        rw [hper] at next
        rw [cond_false]; exact next
    · have : i = n + 1 := by omega
      subst this
      rw [decide_eq_false (by omega), cond_false]
      unfold cnt perN
      rw [Nat.add_sub_cancel, wideN_len]
theorem fine_other {a0 : A3u8N} {a1 : A24u8N} {n p q : Nat} {x1 e2 v15 : Int} {x3 : List Int × Int} {k3 : ByteArray → Option Bool} (hn : n ≤ 24) (ha : ∀ x ∈ namesL a1, 0 ≤ x ∧ x ≤ 255) :
    ∀ (m i : Nat), i ≤ n → n - i < m → f7_28 a0 a1 x1 (strC (wideN n p q), e2) x3 v15 k3 m (strC (((wideN n p q).take i).map (nameB a1))) i = k3 (strC ((wideN n p q).map (nameB a1))) := by
  intro m
  induction m with
  | zero => intro i _ h; omega
  | succ m ih =>
    intro i hi hm
    unfold f7_28 f7_28b
    by_cases h : i < n
    · obtain ⟨hl, hg⟩ := wide_get (p := p) (q := q) h
      have hv := val_nat (p := p) (q := q) hn h
      have hrng := valC_rng (p := p) (q := q) h
      simp only [strC_size, wideN_len, h, decide_true, cond_true, Option.bind_some]
      rw [rune_lo hl (by rw [hg, hv]; omega), idxS_L hl]
      simp only [Option.bind_some]
      rw [hg, hv, show ((valC n p q i : Nat) : Int) - 97 = ((valC n p q i - 97 : Nat) : Int) by omega, W_of (by omega) (by omega)]
      have hck : chkI 24 ((valC n p q i - 97 : Nat) : Int) = some () := by unfold chkI; rw [if_pos ⟨by omega, by omega⟩]
      rw [hck, Option.bind_some, Int.toNat_natCast]
      have hlen : (namesL a1).length = 24 := rfl
      have hx : ixN (namesL a1) (valC n p q i - 97) = some ((namesL a1).getD (valC n p q i - 97) 0) := by
        unfold ixN
        rw [List.getD_eq_getElem?_getD, List.getElem?_eq_getElem (by omega)]; rfl
      have hxx : ixN [a1.e0, a1.e1, a1.e2, a1.e3, a1.e4, a1.e5, a1.e6, a1.e7, a1.e8, a1.e9, a1.e10, a1.e11, a1.e12, a1.e13, a1.e14, a1.e15, a1.e16, a1.e17, a1.e18, a1.e19, a1.e20, a1.e21, a1.e22, a1.e23] (valC n p q i - 97) = some ((namesL a1).getD (valC n p q i - 97) 0) := hx
      rw [hxx, Option.bind_some]
      have hmem : (namesL a1).getD (valC n p q i - 97) 0 ∈ namesL a1 := by
        rw [List.getD_eq_getElem?_getD, List.getElem?_eq_getElem (by omega)]
        exact List.getElem_mem _
      have hb := ha _ hmem
      have hname : strOf [Wk .u8 ((97 : Int) + Int.tmod ((namesL a1).getD (valC n p q i - 97) 0) 5)] = some (strC [nameB a1 ((wideN n p q)[i])]) := by
        unfold nameB
        rw [hg, hv]
        generalize (namesL a1).getD (valC n p q i - 97) 0 = x at hb
        obtain ⟨u, rfl⟩ : ∃ u : Nat, x = u := ⟨x.toNat, by omega⟩
        rw [show Int.tmod (u : Int) 5 = ((u % 5 : Nat) : Int) from rfl]
        have := Nat.mod_lt u (show 5 > 0 by omega)
        rw [Wk_of (by simp [IntKind.min, IntKind.max, IntKind.signed, IntKind.bits]; omega)]
        unfold strOf
        rw [if_pos (by simp [maxLen])]
        show some (strC _) = _
        congr 2
      rw [hname, Option.bind_some, addS_L (by simp; omega), Option.bind_some]
      have ht : ((wideN n p q).take i).map (nameB a1) ++ [nameB a1 ((wideN n p q)[i])] = ((wideN n p q).take (i + 1)).map (nameB a1) := by
        rw [List.take_succ_eq_append_getElem hl, List.map_append]; rfl
      rw [ht]
      exact ih (i + 1) (by omega) (by omega)
    · have : i = n := by omega
      subst this
      simp only [strC_size, wideN_len, Nat.lt_irrefl, decide_false, cond_false]
      rw [List.take_of_length_le (by rw [wideN_len]; exact Nat.le_refl _)]
theorem find_num {F : Nat → Int → Option Bool} {k e : Option Bool} {L : List Nat} {x : Nat} (hx : x ∈ L)
    (hs : ∀ n i (h : i < L.length), F (n + 1) (i : Int) = if L[i] = x then e else F n ((i + 1 : Nat) : Int)) (N : Nat) (hN : L.length < N) : F N 0 = e := by
  obtain ⟨j, hj, he⟩ := List.getElem_of_mem hx
  obtain ⟨i, i1, i2, i3, i4, i5⟩ := loop_find1 (F := F) (k := fun _ => e) (p := fun i => ∃ h : i < L.length, L[i] = x) 0 j ⟨hj, he⟩
    (fun n i _ hi hne => by
      rw [hs n i (by omega), if_neg fun hh => hne ⟨by omega, hh⟩])
    (fun n i _ hi hh => by
      obtain ⟨h1, h2⟩ := hh
      rw [hs n i h1, if_pos h2]) N 0 (Nat.le_refl _) (Nat.zero_le _) (by omega)
  exact i5
theorem f7_true (a0 : A3u8N) (a1 : A24u8N) (h0 : 0 ≤ a0.e0 ∧ a0.e0 ≤ 255) (h1 : 0 ≤ a0.e1 ∧ a0.e1 ≤ 255) (h2 : 0 ≤ a0.e2 ∧ a0.e2 ≤ 255) (ha : ∀ x ∈ namesL a1, 0 ≤ x ∧ x ≤ 255) : f7 60 a0 a1 = some true := by
  obtain ⟨n, p, q, R⟩ := read3 (m := 24) (by omega) (by omega) h0 h1 h2
  have R' := R
  obtain ⟨hn, hp, hq, n1, nm, p1, pn, q1, qn⟩ := R
  have hlen : (wideN n p q).length = n := wideN_len
  have hok := wideN_ok (p := p) (q := q) nm
  have hc0 : chk8 (wideN n p q) = 0 := chk8_zero.2 ⟨by intro h; rw [h] at hlen; simp at hlen; omega, by omega, hok⟩
  have g1 : 1 ≤ Nat.gcd p q := Nat.gcd_pos_of_pos_left _ p1
  have g2 : Nat.gcd p q ≤ p := Nat.gcd_le_left _ p1
  have goes : ∀ d : Nat, 1 ≤ d → d ≤ n → f38 60 (strC (wideN n p q)) (d : Int) = some (isP (wideN n p q) d) := by
    intro d d1 d2
    rw [f38_eq (by omega) hok (by omega), hlen, decide_eq_true ⟨d1, d2⟩]; rfl
  unfold f7
  rw [show (24 : Int) = ((24 : Nat) : Int) from rfl, hn, hp, hq]
  have hc : chk (decide ((n : Int) ≠ 0)) = some () := by rw [decide_eq_true (by omega)]; rfl
  rw [hc, f37_eq (by omega) (by omega), f25_eq (by omega)]
  simp only [Option.bind_some]
  rw [if_pos ⟨⟨by omega, by omega⟩, ⟨by omega, by omega⟩, ⟨by omega, by omega⟩⟩]
  simp only [Int.toNat_natCast]
  rw [f16_eq (by omega)]
  simp only [hc0, if_true, Option.bind_some, not_true, decide_false, cond_false, strC_size, hlen, goes p p1 pn, goes q q1 qn, wide_per_p nm, wide_per_q nm, Bool.not_true, joinK]
  -- the names in order
  have e1 := fine_names (a0 := a0) (a1 := a1) (n := n) (p := p) (q := q) (x1 := (Nat.gcd p q : Int)) (e2 := 0) (x3 := (toI (perN (wideN n p q)), 0)) (k6 := f7_c16 a0 a1 60 (Nat.gcd p q : Int) (strC (wideN n p q), 0) (toI (perN (wideN n p q)), 0)) nm 60 0 (by omega) (by omega)
  refine Eq.trans e1 ?_
  unfold f7_c16
  rw [show (24 : Int) = ((24 : Nat) : Int) from rfl, hn, hp, hq]
  simp only [joinK]
  have w1 : W ((p : Int) + (q : Int)) = (p : Int) + (q : Int) := W_of (by omega) (by omega)
  have w2 : W ((p : Int) + (q : Int) - (n : Int)) = (p : Int) + (q : Int) - (n : Int) := W_of (by omega) (by omega)
  have w3 : W ((p : Int) + (q : Int) - (Nat.gcd p q : Int)) = (p : Int) + (q : Int) - (Nat.gcd p q : Int) := W_of (by omega) (by omega)
  rw [w1, w2, w3, count_all nm p1 q1 pn qn]
  simp only [not_true, decide_false, cond_false, goes _ g1 (show Nat.gcd p q ≤ n by omega), Option.bind_some]
  -- what follows
  have rest : f7_c18 a0 a1 60 (Nat.gcd p q : Int) (strC (wideN n p q), 0) (toI (perN (wideN n p q)), 0) = some true := by
    unfold f7_c18
    simp only [joinK]
    have e2 := fine_periods (N := 60) (a0 := a0) (a1 := a1) (n := n) (p := p) (q := q) (x1 := (Nat.gcd p q : Int)) (e2 := 0) (e3 := 0) (k4 := f7_c26 a0 a1 60 (Nat.gcd p q : Int) (strC (wideN n p q), 0) (toI (perN (wideN n p q)), 0)) R' (by omega) 60 1 (by omega) (by omega) (by omega)
    rw [cnt_one] at e2
    refine Eq.trans e2 ?_
    unfold f7_c26
    simp only [joinK]
    have e3 := fine_other (a0 := a0) (a1 := a1) (n := n) (p := p) (q := q) (x1 := (Nat.gcd p q : Int)) (e2 := 0) (v15 := ((perN (wideN n p q)).length : Int)) (x3 := (toI (perN (wideN n p q)), 0)) (k3 := f7_c31 a0 60 (Nat.gcd p q : Int) (toI (perN (wideN n p q)), 0) ((perN (wideN n p q)).length : Int)) nm ha 60 0 (by omega) (by omega)
    rw [List.take_zero, List.map_nil] at e3
    refine Eq.trans e3 ?_
    unfold f7_c31
    have ho : chk8 ((wideN n p q).map (nameB a1)) = 0 := chk8_zero.2 ⟨by
      intro h
      have := congrArg List.length h
      rw [List.length_map, hlen] at this; simp at this; omega, by rw [List.length_map, hlen]; exact nm, by
      rw [List.all_map, List.all_eq_true]
      intro b _
      exact nameB_ok a1 b⟩
    rw [f16_eq (by omega)]
    simp only [ho, if_true, Option.bind_some, decide_true, cond_true, toI_len, joinK]
    have hin : ∀ d : Nat, 1 ≤ d → d ≤ n → isP (wideN n p q) d = true → d ∈ perN ((wideN n p q).map (nameB a1)) := by
      intro d d1 d2 d3
      exact perN_mem.2 ⟨⟨d1, by rw [List.length_map, hlen]; exact d2⟩, map_per d3⟩
    have hol : (perN ((wideN n p q).map (nameB a1))).length ≤ 24 := by
      have := perN_len (l := (wideN n p q).map (nameB a1))
      rw [List.length_map, hlen] at this; omega
    generalize hL : perN ((wideN n p q).map (nameB a1)) = L at *
    -- the first period is there
    refine find_num (k := none) (e := some true) (L := L) (x := p) (hin p p1 pn (wide_per_p nm)) (fun m i hi => ?_) 60 (by omega)
    conv => lhs; unfold f7_i3311_2 f7_i3311_2b
    rw [show (24 : Int) = ((24 : Nat) : Int) from rfl, hn, hp, toI_len, decide_eq_true (show (i : Int) < (L.length : Int) by omega), cond_true, ix_nat, toI_get, List.getElem?_eq_getElem hi]
    simp only [Option.map_some, Option.bind_some, joinK]
    rw [W_nat (by omega)]
    by_cases hpi : L[i] = p
    · rw [decide_eq_true (show (p : Int) = (L[i] : Int) by omega), cond_true, if_pos hpi]
      -- the second one
      refine find_num (k := none) (e := some true) (L := L) (x := q) (hin q q1 qn (wide_per_q nm)) (fun m' i' hi' => ?_) 60 (by omega)
      conv => lhs; unfold f7_i3316_2 f7_i3316_2b
      rw [show (24 : Int) = ((24 : Nat) : Int) from rfl, hn, hp, hq, toI_len, decide_eq_true (show (i' : Int) < (L.length : Int) by omega), cond_true, ix_nat, toI_get, List.getElem?_eq_getElem hi']
      simp only [Option.map_some, Option.bind_some, joinK]
      rw [W_nat (by omega), w1, w3]
      by_cases hqi : L[i'] = q
      · rw [decide_eq_true (show (q : Int) = (L[i'] : Int) by omega), cond_true, if_pos hqi]
        by_cases hs : (n : Int) < (p : Int) + (q : Int) - (Nat.gcd p q : Int)
        · rw [decide_eq_true hs, cond_true, t15]; rfl
        · rw [decide_eq_false hs, cond_false]
          refine find_num (k := none) (e := some true) (L := L) (x := Nat.gcd p q) (hin _ g1 (by omega) (fine_per nm p1 q1 (by omega))) (fun m2 i2 hi2 => ?_) 60 (by omega)
          conv => lhs; unfold f7_i3329_2 f7_i3329_2b
          rw [toI_len, decide_eq_true (show (i2 : Int) < (L.length : Int) by omega), cond_true, ix_nat, toI_get, List.getElem?_eq_getElem hi2]
          simp only [Option.map_some, Option.bind_some]
          rw [W_nat (by omega)]
          by_cases hgi : L[i2] = Nat.gcd p q
          · rw [decide_eq_true (show (Nat.gcd p q : Int) = (L[i2] : Int) by omega), cond_true, if_pos hgi, t15]; rfl
          · rw [decide_eq_false (show ¬ (Nat.gcd p q : Int) = (L[i2] : Int) by omega), cond_false, if_neg hgi]
      · rw [decide_eq_false (show ¬ (q : Int) = (L[i'] : Int) by omega), cond_false, if_neg hqi]
    · rw [decide_eq_false (show ¬ (p : Int) = (L[i] : Int) by omega), cond_false, if_neg hpi]
  rw [rest]
  by_cases hs : p + q - Nat.gcd p q ≤ n
  · rw [decide_eq_true (show (p : Int) + (q : Int) - (Nat.gcd p q : Int) ≤ (n : Int) by omega), cond_true, fine_per nm p1 q1 hs, decide_eq_false (show ¬ (n : Int) < (p : Int) + (q : Int) - (Nat.gcd p q : Int) by omega)]
    rfl
  · rw [decide_eq_false (show ¬ (p : Int) + (q : Int) - (Nat.gcd p q : Int) ≤ (n : Int) by omega), cond_false, fine_not nm p1 q1 pn qn (by omega), decide_eq_true (show (n : Int) < (p : Int) + (q : Int) - (Nat.gcd p q : Int) by omega)]
    rfl
end Go.Vc
namespace Go.Vc
set_option linter.unusedVariables false
set_option linter.unnecessarySimpa false
set_option linter.unusedSimpArgs false
set_option linter.unusedSimpArgs false
abbrev tB : Ty := .int .u8
def u8In (n : Int) : Prop := 0 ≤ n ∧ n ≤ 255
theorem tB_of {ds : List D} (h : tB.has ds) : ∃ n, ds = [u8N n] ∧ u8In n := by
  simp only [tB, Ty.has] at h
  obtain ⟨n, rfl, h⟩ := h
  exact ⟨n, rfl, by simpa [IntKind.min, IntKind.max, IntKind.signed, IntKind.bits, u8In] using h⟩
theorem tB_of' {ds : List D} (h : (Ty.int .u8).has ds) : ∃ n, ds = [u8N n] ∧ u8In n := tB_of h
abbrev tA3 : Ty := .comp [tB, tB, tB]
def A3In (x : A3u8N) : Prop := u8In x.e0 ∧ u8In x.e1 ∧ u8In x.e2
theorem A3_ofD {x : D} (h : tA3.hasD x) : ∃ a : A3u8N, x = A3u8N.d a ∧ A3In a := by
  obtain ⟨cs, rfl, h⟩ := h
  rw [Ty.hasL] at h
  obtain ⟨a0, b0, rfl, h0, h⟩ := h
  rw [Ty.hasL] at h
  obtain ⟨a1, b1, rfl, h1, h⟩ := h
  rw [Ty.hasL] at h
  obtain ⟨a2, b2, rfl, h2, h⟩ := h
  simp only [Ty.hasL] at h
  subst h
  obtain ⟨x0, rfl, p0⟩ := tB_of' h0
  obtain ⟨x1, rfl, p1⟩ := tB_of' h1
  obtain ⟨x2, rfl, p2⟩ := tB_of' h2
  exact ⟨⟨x0, x1, x2⟩, rfl, p0, p1, p2⟩
abbrev tA24 : Ty := .comp [tB, tB, tB, tB, tB, tB, tB, tB, tB, tB, tB, tB, tB, tB, tB, tB, tB, tB, tB, tB, tB, tB, tB, tB]
def A24In (x : A24u8N) : Prop := u8In x.e0 ∧ u8In x.e1 ∧ u8In x.e2 ∧ u8In x.e3 ∧ u8In x.e4 ∧ u8In x.e5 ∧ u8In x.e6 ∧ u8In x.e7 ∧ u8In x.e8 ∧ u8In x.e9 ∧ u8In x.e10 ∧ u8In x.e11 ∧ u8In x.e12 ∧ u8In x.e13 ∧ u8In x.e14 ∧ u8In x.e15 ∧ u8In x.e16 ∧ u8In x.e17 ∧ u8In x.e18 ∧ u8In x.e19 ∧ u8In x.e20 ∧ u8In x.e21 ∧ u8In x.e22 ∧ u8In x.e23
theorem A24_ofD {x : D} (h : tA24.hasD x) : ∃ a : A24u8N, x = A24u8N.d a ∧ A24In a := by
  obtain ⟨cs, rfl, h⟩ := h
  rw [Ty.hasL] at h
  obtain ⟨a0, b0, rfl, h0, h⟩ := h
  rw [Ty.hasL] at h
  obtain ⟨a1, b1, rfl, h1, h⟩ := h
  rw [Ty.hasL] at h
  obtain ⟨a2, b2, rfl, h2, h⟩ := h
  rw [Ty.hasL] at h
  obtain ⟨a3, b3, rfl, h3, h⟩ := h
  rw [Ty.hasL] at h
  obtain ⟨a4, b4, rfl, h4, h⟩ := h
  rw [Ty.hasL] at h
  obtain ⟨a5, b5, rfl, h5, h⟩ := h
  rw [Ty.hasL] at h
  obtain ⟨a6, b6, rfl, h6, h⟩ := h
  rw [Ty.hasL] at h
  obtain ⟨a7, b7, rfl, h7, h⟩ := h
  rw [Ty.hasL] at h
  obtain ⟨a8, b8, rfl, h8, h⟩ := h
  rw [Ty.hasL] at h
  obtain ⟨a9, b9, rfl, h9, h⟩ := h
  rw [Ty.hasL] at h
  obtain ⟨a10, b10, rfl, h10, h⟩ := h
  rw [Ty.hasL] at h
  obtain ⟨a11, b11, rfl, h11, h⟩ := h
  rw [Ty.hasL] at h
  obtain ⟨a12, b12, rfl, h12, h⟩ := h
  rw [Ty.hasL] at h
  obtain ⟨a13, b13, rfl, h13, h⟩ := h
  rw [Ty.hasL] at h
  obtain ⟨a14, b14, rfl, h14, h⟩ := h
  rw [Ty.hasL] at h
  obtain ⟨a15, b15, rfl, h15, h⟩ := h
  rw [Ty.hasL] at h
  obtain ⟨a16, b16, rfl, h16, h⟩ := h
  rw [Ty.hasL] at h
  obtain ⟨a17, b17, rfl, h17, h⟩ := h
  rw [Ty.hasL] at h
  obtain ⟨a18, b18, rfl, h18, h⟩ := h
  rw [Ty.hasL] at h
  obtain ⟨a19, b19, rfl, h19, h⟩ := h
  rw [Ty.hasL] at h
  obtain ⟨a20, b20, rfl, h20, h⟩ := h
  rw [Ty.hasL] at h
  obtain ⟨a21, b21, rfl, h21, h⟩ := h
  rw [Ty.hasL] at h
  obtain ⟨a22, b22, rfl, h22, h⟩ := h
  rw [Ty.hasL] at h
  obtain ⟨a23, b23, rfl, h23, h⟩ := h
  simp only [Ty.hasL] at h
  subst h
  obtain ⟨x0, rfl, p0⟩ := tB_of' h0
  obtain ⟨x1, rfl, p1⟩ := tB_of' h1
  obtain ⟨x2, rfl, p2⟩ := tB_of' h2
  obtain ⟨x3, rfl, p3⟩ := tB_of' h3
  obtain ⟨x4, rfl, p4⟩ := tB_of' h4
  obtain ⟨x5, rfl, p5⟩ := tB_of' h5
  obtain ⟨x6, rfl, p6⟩ := tB_of' h6
  obtain ⟨x7, rfl, p7⟩ := tB_of' h7
  obtain ⟨x8, rfl, p8⟩ := tB_of' h8
  obtain ⟨x9, rfl, p9⟩ := tB_of' h9
  obtain ⟨x10, rfl, p10⟩ := tB_of' h10
  obtain ⟨x11, rfl, p11⟩ := tB_of' h11
  obtain ⟨x12, rfl, p12⟩ := tB_of' h12
  obtain ⟨x13, rfl, p13⟩ := tB_of' h13
  obtain ⟨x14, rfl, p14⟩ := tB_of' h14
  obtain ⟨x15, rfl, p15⟩ := tB_of' h15
  obtain ⟨x16, rfl, p16⟩ := tB_of' h16
  obtain ⟨x17, rfl, p17⟩ := tB_of' h17
  obtain ⟨x18, rfl, p18⟩ := tB_of' h18
  obtain ⟨x19, rfl, p19⟩ := tB_of' h19
  obtain ⟨x20, rfl, p20⟩ := tB_of' h20
  obtain ⟨x21, rfl, p21⟩ := tB_of' h21
  obtain ⟨x22, rfl, p22⟩ := tB_of' h22
  obtain ⟨x23, rfl, p23⟩ := tB_of' h23
  exact ⟨⟨x0, x1, x2, x3, x4, x5, x6, x7, x8, x9, x10, x11, x12, x13, x14, x15, x16, x17, x18, x19, x20, x21, x22, x23⟩, rfl, p0, p1, p2, p3, p4, p5, p6, p7, p8, p9, p10, p11, p12, p13, p14, p15, p16, p17, p18, p19, p20, p21, p22, p23⟩
end Go.Vc

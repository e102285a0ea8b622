/-
  A library for proofs about Go functions by symbolic evaluation, and plain Lean functions that the walked Go functions compute (written by a program of this claim).
-/
import Derived.Test.YtnbefdolkolaiaaW1
import Derived.Test.YtnbefdolkolaiaaW3
import Derived.Test.YtnbefdolkolaiaaW2
import Derived.Test.YtnbefdolkolaiaaVc3
namespace Go.Vc
open Go.Proofs
set_option linter.unusedVariables false
set_option linter.unnecessarySimpa false
set_option linter.unusedSimpArgs false
section
variable {c : Ctx} {p nid : Nat} {a b : Code} {st : St} {K : Ex → St → Prop}
def f38_c6 (a0 : ByteArray) (a1 : Int) : Option (Bool) :=
 bif decide ((1 : Int) ≤ a1) then (some (decide (a1 ≤ (ByteArray.size a0 : Int))))
 else (some (false))
def Lf38_c6 (a0 : ByteArray) (a1 : Int) : Lp (Unit) Unit (Bool) := lp0 ⟨[0, 1], [], [], []⟩ (fun _ => [.dat (strN a0), .dat (iN a1)]) (fun _ => []) (fun _ => f38_c6 a0 a1)
theorem Ef38_c6 {a0 a1} : (Lf38_c6 a0 a1).E () = f38_c6 a0 a1 := rfl
def f38_2b (r2 : Nat → Option (Bool)) (a0 : ByteArray) (a1 : Int) (k0 : Option (Bool)) (p101 : Nat) : Option (Bool) :=
 bif decide (p101 < ByteArray.size a0) then ((some (runeAt a0 p101)).bind fun x1 =>
 bif decide (a1 ≤ (((p101 : Nat) : Int) : Int)) then ((idxS a0 (((p101 : Nat) : Int) : Int)).bind fun x2 =>
 (idxS a0 (W ((((p101 : Nat) : Int) : Int) - a1))).bind fun x3 =>
 bif decide (¬ x2 = x3) then (some (false))
 else (r2 x1.2))
 else (r2 x1.2))
 else k0
def f38_2 (a0 : ByteArray) (a1 : Int) (k0 : Option (Bool)) : Nat → Nat → Option (Bool)
  | 0, _ => none
  | n + 1, p101 => f38_2b (f38_2 a0 a1 k0 n) a0 a1 k0 p101
def Lf38_2 (a0 : ByteArray) (a1 : Int) (k0 : Option (Bool)) : Lp (Nat × Nat) Unit (Bool) := lp0 ⟨[0, 1, 7], [101], [], []⟩ (fun (_, _) => [.dat (strN a0), .dat (iN a1), .ptr 101 0]) (fun (_, p101) => [.sit a0 p101]) (fun (n, p101) => f38_2 a0 a1 k0 n p101)
theorem Ef38_2 {a0 a1 k0 n p101} : (Lf38_2 a0 a1 k0).E (n, p101) = f38_2 a0 a1 k0 n p101 := rfl
def f38 (N : Nat) (a0 : ByteArray) (a1 : Int) : Option (Bool) :=
 joinK (f38_c6 a0 a1) fun k0 =>
 f38_2 a0 a1 k0 N 0
def G38 (ds : List D) (d : D) : Prop := ∃ (N : Nat) (a0 : ByteArray) (a1 : Int) (r : Bool), ds = [strN a0, iN a1] ∧ f38 N a0 a1 = some r ∧ d = bN r
theorem G38.lend {N : Nat} {a0 : ByteArray} {a1 : Int} {ρ : Type} {A : Bool → Option ρ} {q : ρ} {ds : List D} {K : D → Prop} (hd : ds = [strN a0, iN a1]) (h : ∀ r, A r = some q → K (bN r)) (hF : (f38 N a0 a1).bind A = some q) : ∃ d, (G38 ds d ∧ d.flatB = true) ∧ K d := by
  obtain ⟨r, hr, hA⟩ := bind_some hF
  exact ⟨_, ⟨⟨N, a0, a1, r, hd, hr, rfl⟩, rfl⟩, h r hA⟩
set_option maxRecDepth 20000 in
set_option maxHeartbeats 4000000 in
theorem P38 : PureOK Try.prog 38 G38 := by
  refine pure_of_vc (c := mkCtx tyTree []) rfl tyOK (ctx_nil) [[0]] 2 Try.func38 rfl rfl (by decide) (by kernel_rfl) ?_
  rintro ds d ⟨N, a0, a1, r, rfl, hF, rfl⟩ hok
  clear hok
  refine ⟨rfl, ?_⟩
  show vc _ _ _ _ ⟨[(0, .dat (strN a0)), (1, .dat (iN a1))], []⟩ _
  unfold f38 at hF
  repeat' (first
    | ((with_reducible first | refine q0 _ _ ?_ | refine q1 _ _ _ _ ?_ | refine q2 _ _ _ ?_); clear Q q0 q1 q2)
    | ((with_reducible first | refine seq_op ?hx (fun Q q0 q1 q2 => ?_) | refine draw_op ?hx (fun Q q0 q1 q2 => ?_)); (case hx => exact rfl); conv => whnf)
    | ((with_reducible first | refine seq_off ?hx ?_ | refine seq_off0 ?hx ?_ | refine draw_off ?hx ?_ | refine draw_off0 ?hx ?_ | refine k_blk_out ?hx ?_ | refine vc_condT ?hx ?_); (case hx => exact rfl))
    | ((with_reducible refine seq_id ?_); (first | ((first | refine seq_opK rfl ?hy (fun Q q0 q1 q2 => ?_) | refine seq_opK0 rfl ?hy (fun Q q0 q1 q2 => ?_)); (case hy => first | assumption | exact notT (by assumption) | exact rfl); conv => whnf) | ((first | refine seq_offK rfl ?hy ?_ | refine seq_offK0 rfl ?hy ?_); (case hy => first | assumption | exact notF (by assumption) | exact rfl)) | (revert hF; (with_reducible first | refine seq_opF ?hx ?_ ?_ | refine seq_opF0 ?hx ?_ ?_); (case hx => exact rfl); (intro hc hF Q q0 q1 q2; conv => whnf); rotate_left; (intro hc hF); rotate_right) | (revert hF; (with_reducible first | refine seq_opN ?hx ?_ ?_ | refine seq_opN0 ?hx ?_ ?_); (case hx => exact rfl); (intro hc hF); rotate_left; (intro hc hF Q q0 q1 q2; conv => whnf); rotate_right)))
    | ((with_reducible refine draw_id ?_); (first | ((first | refine draw_opK rfl ?hy (fun Q q0 q1 q2 => ?_) | refine draw_opK0 rfl ?hy (fun Q q0 q1 q2 => ?_)); (case hy => first | assumption | exact notT (by assumption) | exact rfl); conv => whnf) | ((first | refine draw_offK rfl ?hy ?_ | refine draw_offK0 rfl ?hy ?_); (case hy => first | assumption | exact notF (by assumption) | exact rfl)) | (revert hF; (with_reducible first | refine draw_opF ?hx ?_ ?_ | refine draw_opF0 ?hx ?_ ?_); (case hx => exact rfl); (intro hc hF Q q0 q1 q2; conv => whnf); rotate_left; (intro hc hF); rotate_right) | (revert hF; (with_reducible first | refine draw_opN ?hx ?_ ?_ | refine draw_opN0 ?hx ?_ ?_); (case hx => exact rfl); (intro hc hF); rotate_left; (intro hc hF Q q0 q1 q2; conv => whnf); rotate_right)))
    | ((with_reducible refine cond_id ?_); (first | ((refine condKT rfl ?hy ?_); (case hy => first | assumption | exact notT (by assumption) | exact rfl)) | ((refine condKF rfl ?hy ?_); (case hy => first | assumption | exact notF (by assumption) | exact rfl)) | (revert hF; (with_reducible refine condF ?hx ?_ ?_); (case hx => exact rfl); all_goals (intro hc hF))))
    | ((with_reducible refine seq_nil ?_); (first | ((with_reducible refine hR _ ?_); clear R hR) | ((with_reducible refine hL _ ?_); clear L hL)))
    | ((with_reducible refine draw_nil ?_); (with_reducible refine hR _ _ ?hx ?_); (case hx => kernel_rfl); (first | clear R hR | clear hR))
    | ((with_reducible first | refine int_step ?_); conv => whnf)
    | (with_reducible first | refine vc_block ?_ | refine vc_skip ?_ | refine vc_ret ?_ | refine vc_exit ?_ | refine vc_region (fun R hR => ?_) | refine k_seq_ret ?_ | refine k_seq_exit ?_ | refine k_blk ?_ | refine k_blk_ret ?_ | refine k_blk_here ?_ | refine k_loop_ret ?_ | refine k_loop_exit ?_)
    | ((with_reducible refine vc_seqN [6] ?hx ?_); (case hx => exact rfl))
    | ((with_reducible refine vc_draw ?hx (fun R hR => ?_)); (case hx => exact rfl))
    | (revert hF; (refine Lp.cut2 Lf38_c6 f38_c6 6 rfl rfl ?_ ?_); (intro hF); rotate_left; (rintro _ hF; dsimp only [Lf38_c6] at hF; unfold f38_c6 at hF); rotate_right)
    | exact Lp.head Ef38_c6 hF () ⟨_, rfl, rfl, rfl, rfl⟩ rfl
    | (revert hF; (refine Lp.loop Ef38_2 () rfl ⟨_, rfl, rfl, rfl, rfl⟩ rfl (fun _ => rfl) ?_); rintro n p101 hF; dsimp only [Lf38_2, f38_2] at hF; unfold f38_2b at hF)
    | exact Lp.back Ef38_2 hF () ⟨_, rfl, rfl, rfl, rfl⟩ rfl
    | (revert hF; (refine idxS_step ?_); intro x hF; conv => whnf)
    | (revert hF; (refine some_step ?_); intro x hF; conv => whnf)
    | ((refine row_all ?hn ?_); (case hn => first | exact rfl | (simp; done) | (simp; omega)); conv => whnf)
    | ((with_reducible refine le_step ?hn ?_); (case hn => first | exact rfl | assumption | omega); conv => whnf)
    | ((refine ⟨?hx, ?_⟩); (case hx => exact ⟨rfl, Nat.le_of_ble_eq_true rfl, rfl⟩); conv => whnf)
    | ((with_reducible refine ex_step ?_); conv => whnf)
    | ((with_reducible refine both_T ?hx ?_); (case hx => first | exact rfl | assumption | exact notT (by assumption)); conv => whnf)
    | ((with_reducible refine both_F ?hx ?_); (case hx => first | exact rfl | assumption | exact notF (by assumption)); conv => whnf)
    | (revert hF; (with_reducible refine ite_step ?_ ?_) <;> (intro hc hF; conv => whnf))
    | ((with_reducible refine vc_condF ?hx ?_); (case hx => exact rfl))
    | (show retD _ _ _ _ _ _; conv => whnf)
    | ((refine ⟨?hx, trivial⟩); (case hx => (cases hF; exact rfl)))
    | ((refine ⟨?hx, ?_⟩); (case hx => decide); conv => whnf)
    | with_reducible refine k_seq ?_
    | (have hF : (none : Option _) = some _ := hF; cases hF))
end
end Go.Vc
namespace Go.Vc
open Go.Proofs
set_option linter.unusedVariables false
set_option linter.unnecessarySimpa false
set_option linter.unusedSimpArgs false
section
variable {c : Ctx} {p nid : Nat} {a b : Code} {st : St} {K : Ex → St → Prop}
def f41_c9 (out5 : ByteArray) : Option (ByteArray) :=
 bif decide (out5 = emptyS) then (some ((strC [97])))
 else (some (out5))
def Lf41_c9 : Lp (ByteArray) Unit (ByteArray) := lp0 ⟨[5], [], [], []⟩ (fun out5 => [.dat (strN out5)]) (fun _ => []) (fun out5 => f41_c9 out5)
theorem Ef41_c9 {out5} : (Lf41_c9).E out5 = f41_c9 out5 := rfl
def f41_3b (r3 : ByteArray → Int → Option (ByteArray)) (a0 : List Int) (a1 : Int) (k0 : ByteArray → Option (ByteArray)) (out5 : ByteArray) (i6 : Int) : Option (ByteArray) :=
 bif decide (i6 < (List.length a0 : Int)) then (bif decide ((ByteArray.size out5 : Int) < a1) then ((ix a0 i6).bind fun x1 =>
 bif decide ((128 : Int) ≤ x1) then (bif decide ((0 : Int) < (ByteArray.size out5 : Int)) then ((chk (decide ((ByteArray.size out5 : Int) ≠ 0))).bind fun _ =>
 (subS out5 (W ((W ((ByteArray.size out5 : Int) - (1 : Int))) - (Int.tmod x1 (ByteArray.size out5 : Int)))) (ByteArray.size out5 : Int)).bind fun x2 =>
 (subS x2 0 (1 : Int)).bind fun x3 =>
 (addS out5 x3).bind fun x4 =>
 r3 x4 (W (i6 + (1 : Int))))
 else ((subS (strC [97, 98, 99]) (Int.tmod x1 (3 : Int)) (ByteArray.size (strC [97, 98, 99]) : Int)).bind fun x5 =>
 (subS x5 0 (1 : Int)).bind fun x6 =>
 (addS out5 x6).bind fun x7 =>
 r3 x7 (W (i6 + (1 : Int)))))
 else ((subS (strC [97, 98, 99]) (Int.tmod x1 (3 : Int)) (ByteArray.size (strC [97, 98, 99]) : Int)).bind fun x8 =>
 (subS x8 0 (1 : Int)).bind fun x9 =>
 (addS out5 x9).bind fun x10 =>
 r3 x10 (W (i6 + (1 : Int)))))
 else (k0 out5))
 else (k0 out5)
def f41_3 (a0 : List Int) (a1 : Int) (k0 : ByteArray → Option (ByteArray)) : Nat → ByteArray → Int → Option (ByteArray)
  | 0, _, _ => none
  | n + 1, out5, i6 => f41_3b (f41_3 a0 a1 k0 n) a0 a1 k0 out5 i6
def Lf41_3 (a0 : List Int) (a1 : Int) (k0 : ByteArray → Option (ByteArray)) : Lp (Nat × ByteArray × Int) Unit (ByteArray) := lp0 ⟨[0, 1, 5, 6], [], [], []⟩ (fun (_, out5, i6) => [.dat (sl_u8N a0), .dat (iN a1), .dat (strN out5), .dat (iN i6)]) (fun (_, _, _) => []) (fun (n, out5, i6) => f41_3 a0 a1 k0 n out5 i6)
theorem Ef41_3 {a0 a1 k0 n out5 i6} : (Lf41_3 a0 a1 k0).E (n, out5, i6) = f41_3 a0 a1 k0 n out5 i6 := rfl
def f41 (N : Nat) (a0 : List Int) (a1 : Int) : Option (ByteArray) :=
 joinK f41_c9 fun k0 =>
 f41_3 a0 a1 k0 N emptyS (0 : Int)
def G41 (ds : List D) (d : D) : Prop := ∃ (N : Nat) (a0 : List Int) (a1 : Int) (r : ByteArray), ds = [sl_u8N a0, iN a1] ∧ f41 N a0 a1 = some r ∧ d = strN r
theorem G41.lend {N : Nat} {a0 : List Int} {a1 : Int} {ρ : Type} {A : ByteArray → Option ρ} {q : ρ} {ds : List D} {K : D → Prop} (hd : ds = [sl_u8N a0, iN a1]) (h : ∀ r, A r = some q → K (strN r)) (hF : (f41 N a0 a1).bind A = some q) : ∃ d, (G41 ds d ∧ d.flatB = true) ∧ K d := by
  obtain ⟨r, hr, hA⟩ := bind_some hF
  exact ⟨_, ⟨⟨N, a0, a1, r, hd, hr, rfl⟩, rfl⟩, h r hA⟩
set_option maxRecDepth 20000 in
set_option maxHeartbeats 4000000 in
theorem P41 : PureOK Try.prog 41 G41 := by
  refine pure_of_vc (c := mkCtx tyTree []) rfl tyOK (ctx_nil) [[0]] 2 Try.func41 rfl rfl (by decide) (by kernel_rfl) ?_
  rintro ds d ⟨N, a0, a1, r, rfl, hF, rfl⟩ hok
  clear hok
  refine ⟨rfl, ?_⟩
  show vc _ _ _ _ ⟨[(0, .dat (sl_u8N a0)), (1, .dat (iN a1))], []⟩ _
  unfold f41 at hF
  repeat' (first
    | ((with_reducible first | refine q0 _ _ ?_ | refine q1 _ _ _ _ ?_ | refine q2 _ _ _ ?_); clear Q q0 q1 q2)
    | ((with_reducible first | refine seq_op ?hx (fun Q q0 q1 q2 => ?_)); (case hx => exact rfl); conv => whnf)
    | ((with_reducible first | refine seq_off ?hx ?_ | refine seq_off0 ?hx ?_ | refine k_blk_out ?hx ?_ | refine vc_condT ?hx ?_); (case hx => exact rfl))
    | ((with_reducible refine seq_id ?_); (first | ((first | refine seq_opK rfl ?hy (fun Q q0 q1 q2 => ?_) | refine seq_opK0 rfl ?hy (fun Q q0 q1 q2 => ?_)); (case hy => first | assumption | exact notT (by assumption) | exact rfl); conv => whnf) | ((first | refine seq_offK rfl ?hy ?_ | refine seq_offK0 rfl ?hy ?_); (case hy => first | assumption | exact notF (by assumption) | exact rfl)) | (revert hF; (with_reducible first | refine seq_opF ?hx ?_ ?_ | refine seq_opF0 ?hx ?_ ?_); (case hx => exact rfl); (intro hc hF Q q0 q1 q2; conv => whnf); rotate_left; (intro hc hF); rotate_right) | (revert hF; (with_reducible first | refine seq_opN ?hx ?_ ?_ | refine seq_opN0 ?hx ?_ ?_); (case hx => exact rfl); (intro hc hF); rotate_left; (intro hc hF Q q0 q1 q2; conv => whnf); rotate_right)))
    | ((with_reducible refine cond_id ?_); (first | ((refine condKT rfl ?hy ?_); (case hy => first | assumption | exact notT (by assumption) | exact rfl)) | ((refine condKF rfl ?hy ?_); (case hy => first | assumption | exact notF (by assumption) | exact rfl)) | (revert hF; (with_reducible refine condF ?hx ?_ ?_); (case hx => exact rfl); all_goals (intro hc hF))))
    | ((with_reducible refine seq_nil ?_); (first | ((with_reducible refine hR _ ?_); clear R hR) | ((with_reducible refine hL _ ?_); clear L hL)))
    | ((with_reducible first | refine int_step ?_ | refine len_step ?_ | refine idx2 (by assumption) ?_ | refine idx3 (by assumption) ?_); conv => whnf)
    | (with_reducible first | refine vc_block ?_ | refine vc_skip ?_ | refine vc_ret ?_ | refine vc_exit ?_ | refine vc_region (fun R hR => ?_) | refine k_seq_ret ?_ | refine k_seq_exit ?_ | refine k_blk ?_ | refine k_blk_ret ?_ | refine k_blk_here ?_ | refine k_loop_ret ?_ | refine k_loop_exit ?_)
    | ((with_reducible refine vc_seqN [9] ?hx ?_); (case hx => exact rfl))
    | (revert hF; (refine Lp.cut0 Lf41_c9 f41_c9 9 rfl rfl ?_ ?_); (intro hF); rotate_left; (rintro out5 hF; dsimp only [Lf41_c9] at hF; unfold f41_c9 at hF); rotate_right)
    | exact Lp.head Ef41_c9 hF () ⟨_, rfl, rfl, rfl, rfl⟩ rfl
    | (revert hF; (refine Lp.loop Ef41_3 () rfl ⟨_, rfl, rfl, rfl, rfl⟩ rfl (fun _ => rfl) ?_); rintro n ⟨out5, i6⟩ hF; dsimp only [Lf41_3, f41_3] at hF; unfold f41_3b at hF)
    | exact Lp.back Ef41_3 hF () ⟨_, rfl, rfl, rfl, rfl⟩ rfl
    | (revert hF; (refine subS_step ?_); intro x hF; conv => whnf)
    | (revert hF; (refine addS_step ?_); intro x hF; conv => whnf)
    | (revert hF; (with_reducible refine idx1 ?hn ?_); (case hn => first | exact rfl | exact (List.length_map _) | assumption | omega | simp); intro x hx hF; conv => whnf)
    | ((refine row_all ?hn ?_); (case hn => first | exact rfl | (simp; done) | (simp; omega)); conv => whnf)
    | ((with_reducible refine le_step ?hn ?_); (case hn => first | exact rfl | assumption | omega); conv => whnf)
    | ((refine ⟨?hx, ?_⟩); (case hx => exact ⟨rfl, Nat.le_of_ble_eq_true rfl, rfl⟩); conv => whnf)
    | ((with_reducible refine ex_step ?_); conv => whnf)
    | ((with_reducible have hG := chk_fact hF); clear hF; (refine ⟨?hx, ?_⟩); (case hx => (first | exact of_decide_eq_true hG.1 | exact hG.1)); have hF := hG.2; clear hG; conv => whnf)
    | ((with_reducible refine both_T ?hx ?_); (case hx => first | exact rfl | assumption | exact notT (by assumption)); conv => whnf)
    | ((with_reducible refine both_F ?hx ?_); (case hx => first | exact rfl | assumption | exact notF (by assumption)); conv => whnf)
    | (revert hF; (with_reducible refine ite_step ?_ ?_) <;> (intro hc hF; conv => whnf))
    | ((with_reducible refine vc_condF ?hx ?_); (case hx => exact rfl))
    | (show retD _ _ _ _ _ _; conv => whnf)
    | ((refine ⟨?hx, trivial⟩); (case hx => (cases hF; exact rfl)))
    | ((refine ⟨?hx, ?_⟩); (case hx => decide); conv => whnf)
    | with_reducible refine k_seq ?_
    | (have hF : (none : Option _) = some _ := hF; cases hF))
end
end Go.Vc
namespace Go.Vc
open Go.Proofs
set_option linter.unusedVariables false
set_option linter.unnecessarySimpa false
set_option linter.unusedSimpArgs false
section
variable {c : Ctx} {p nid : Nat} {a b : Code} {st : St} {K : Ex → St → Prop}
def f10_c17 : Option (Bool) :=
 some (false)
def Lf10_c17 : Lp (Unit) Unit (Bool) := lp0 ⟨[], [], [], []⟩ (fun _ => []) (fun _ => []) (fun _ => f10_c17)
theorem Ef10_c17 : (Lf10_c17).E () = f10_c17 := rfl
def f10_c9 (x1 : ByteArray) (x2 : ByteArray × Int) (x8 : Int) (r8 : Int → Option (Bool)) : Option (Bool) :=
 r8 (W (x8 + (1 : Int)))
def Lf10_c9 (x1 : ByteArray) (x2 : ByteArray × Int) (x8 : Int) (r8 : Int → Option (Bool)) : Lp (Unit) Unit (Bool) := lp0 ⟨[4, 5, 7, 8], [102, 202], [], []⟩ (fun _ => [.ptr 202 0, .dat (strN x2.1), .fn 43 [] [.ptr 202 0, .ptr 102 0], .dat (iN x8)]) (fun _ => [.box [.dat (strN x1)], .box [.dat (iN (ByteArray.size x1 : Int))]]) (fun _ => f10_c9 x1 x2 x8 r8)
theorem Ef10_c9 {x1 x2 x8 r8} : (Lf10_c9 x1 x2 x8 r8).E () = f10_c9 x1 x2 x8 r8 := rfl
def f10_i1502_c6 (N : Nat) (x1 : ByteArray) (x2 : ByteArray × Int) (t9 : ByteArray) : Option (Bool) :=
 bif decide (t9 = x2.1) then ((f15 N ).bind fun x3 =>
 some (x3))
 else (some (false))
def Lf10_i1502_c6 (N : Nat) (x1 : ByteArray) (x2 : ByteArray × Int) (t9 : ByteArray) : Lp (Unit) Unit (Bool) := lp0 ⟨[], [102, 202], [], []⟩ (fun _ => []) (fun _ => [.box [.dat (strN x1)], .box [.dat (iN (ByteArray.size x1 : Int))]]) (fun _ => f10_i1502_c6 N x1 x2 t9)
theorem Ef10_i1502_c6 {N x1 x2 t9} : (Lf10_i1502_c6 N x1 x2 t9).E () = f10_i1502_c6 N x1 x2 t9 := rfl
def f10_i1502_2b (r2 : Int → Option (Bool)) (N : Nat) (x1 : ByteArray) (k1 : Option (Bool)) (t9 : ByteArray) (k2 : Option (Bool)) (p5 : Int) : Option (Bool) :=
 bif decide (p5 ≤ (ByteArray.size x1 : Int)) then ((f38 N x1 p5).bind fun x4 =>
 (f38 N t9 p5).bind fun x5 =>
 bif !(x4 == x5) then k1
 else (r2 (W (p5 + (1 : Int)))))
 else k2
def f10_i1502_2 (N : Nat) (x1 : ByteArray) (k1 : Option (Bool)) (t9 : ByteArray) (k2 : Option (Bool)) : Nat → Int → Option (Bool)
  | 0, _ => none
  | n + 1, p5 => f10_i1502_2b (f10_i1502_2 N x1 k1 t9 k2 n) N x1 k1 t9 k2 p5
def Lf10_i1502_2 (N : Nat) (x1 : ByteArray) (k1 : Option (Bool)) (t9 : ByteArray) (k2 : Option (Bool)) : Lp (Nat × Int) Unit (Bool) := lp0 ⟨[0, 1, 2, 5], [102, 202], [], []⟩ (fun (_, p5) => [.dat (strN t9), .ptr 202 0, .ptr 102 0, .dat (iN p5)]) (fun (_, _) => [.box [.dat (strN x1)], .box [.dat (iN (ByteArray.size x1 : Int))]]) (fun (n, p5) => f10_i1502_2 N x1 k1 t9 k2 n p5)
theorem Ef10_i1502_2 {N x1 k1 t9 k2 n p5} : (Lf10_i1502_2 N x1 k1 t9 k2).E (n, p5) = f10_i1502_2 N x1 k1 t9 k2 n p5 := rfl
def f10_c15 (N : Nat) (x1 : ByteArray) (x2 : ByteArray × Int) (x8 : Int) (k1 : Option (Bool)) (t9 : ByteArray) : Option (Bool) :=
 joinK (f10_i1502_c6 N x1 x2 t9) fun k2 =>
 f10_i1502_2 N x1 k1 t9 k2 N (1 : Int)
def Lf10_c15 (N : Nat) (x1 : ByteArray) (x2 : ByteArray × Int) (x8 : Int) (k1 : Option (Bool)) : Lp (ByteArray) Unit (Bool) := lp0 ⟨[4, 5, 7, 8, 9], [102, 202], [], []⟩ (fun t9 => [.ptr 202 0, .dat (strN x2.1), .fn 43 [] [.ptr 202 0, .ptr 102 0], .dat (iN x8), .dat (strN t9)]) (fun _ => [.box [.dat (strN x1)], .box [.dat (iN (ByteArray.size x1 : Int))]]) (fun t9 => f10_c15 N x1 x2 x8 k1 t9)
theorem Ef10_c15 {N x1 x2 x8 k1 t9} : (Lf10_c15 N x1 x2 x8 k1).E t9 = f10_c15 N x1 x2 x8 k1 t9 := rfl
def f10_12b (r12 : ByteArray → Int → Option (Bool)) (x1 : ByteArray) (x2 : ByteArray × Int) (x8 : Int) (k3 : ByteArray → Option (Bool)) (t9 : ByteArray) (i10 : Int) : Option (Bool) :=
 bif decide ((0 : Int) ≤ i10) then ((chk (decide (0 ≤ i10))).bind fun _ =>
 (subS (strC [97, 98]) (bitsI .and .i64 (Int.fdiv x8 (2 ^ (min (Int.toNat i10) 64))) (1 : Int)) (ByteArray.size (strC [97, 98]) : Int)).bind fun x6 =>
 (subS x6 0 (1 : Int)).bind fun x7 =>
 (addS t9 x7).bind fun x8 =>
 r12 x8 (W (i10 - (1 : Int))))
 else (k3 t9)
def f10_12 (x1 : ByteArray) (x2 : ByteArray × Int) (x8 : Int) (k3 : ByteArray → Option (Bool)) : Nat → ByteArray → Int → Option (Bool)
  | 0, _, _ => none
  | n + 1, t9, i10 => f10_12b (f10_12 x1 x2 x8 k3 n) x1 x2 x8 k3 t9 i10
def Lf10_12 (x1 : ByteArray) (x2 : ByteArray × Int) (x8 : Int) (k3 : ByteArray → Option (Bool)) : Lp (Nat × ByteArray × Int) Unit (Bool) := lp0 ⟨[4, 5, 7, 8, 9, 10], [102, 202], [], []⟩ (fun (_, t9, i10) => [.ptr 202 0, .dat (strN x2.1), .fn 43 [] [.ptr 202 0, .ptr 102 0], .dat (iN x8), .dat (strN t9), .dat (iN i10)]) (fun (_, _, _) => [.box [.dat (strN x1)], .box [.dat (iN (ByteArray.size x1 : Int))]]) (fun (n, t9, i10) => f10_12 x1 x2 x8 k3 n t9 i10)
theorem Ef10_12 {x1 x2 x8 k3 n t9 i10} : (Lf10_12 x1 x2 x8 k3).E (n, t9, i10) = f10_12 x1 x2 x8 k3 n t9 i10 := rfl
def f10_8b (r8 : Int → Option (Bool)) (N : Nat) (x1 : ByteArray) (x2 : ByteArray × Int) (k0 : Option (Bool)) (x8 : Int) : Option (Bool) :=
 (chk (decide (0 ≤ (ByteArray.size x1 : Int)))).bind fun _ =>
 bif decide (x8 < (W ((1 : Int) * 2 ^ (min (Int.toNat (ByteArray.size x1 : Int)) 64)))) then (joinK (f10_c9 x1 x2 x8 r8) fun k1 =>
 joinK (f10_c15 N x1 x2 x8 k1) fun k3 =>
 f10_12 x1 x2 x8 k3 N emptyS (W ((ByteArray.size x1 : Int) - (1 : Int))))
 else k0
def f10_8 (N : Nat) (x1 : ByteArray) (x2 : ByteArray × Int) (k0 : Option (Bool)) : Nat → Int → Option (Bool)
  | 0, _ => none
  | n + 1, x8 => f10_8b (f10_8 N x1 x2 k0 n) N x1 x2 k0 x8
def Lf10_8 (N : Nat) (x1 : ByteArray) (x2 : ByteArray × Int) (k0 : Option (Bool)) : Lp (Nat × Int) Unit (Bool) := lp0 ⟨[4, 5, 7, 8], [102, 202], [], []⟩ (fun (_, x8) => [.ptr 202 0, .dat (strN x2.1), .fn 43 [] [.ptr 202 0, .ptr 102 0], .dat (iN x8)]) (fun (_, _) => [.box [.dat (strN x1)], .box [.dat (iN (ByteArray.size x1 : Int))]]) (fun (n, x8) => f10_8 N x1 x2 k0 n x8)
theorem Ef10_8 {N x1 x2 k0 n x8} : (Lf10_8 N x1 x2 k0).E (n, x8) = f10_8 N x1 x2 k0 n x8 := rfl
def f10 (N : Nat) (a0 : List Int) : Option (Bool) :=
 (f41 N a0 (11 : Int)).bind fun x1 =>
 (f27 N x1).bind fun x2 =>
 bif decide (¬ x2.2 = (0 : Int)) then (some (false))
 else (bif decide (¬ (ByteArray.size x2.1 : Int) = (ByteArray.size x1 : Int)) then (some (false))
 else (joinK f10_c17 fun k0 =>
 f10_8 N x1 x2 k0 N (0 : Int)))
def G10 (ds : List D) (d : D) : Prop := ∃ (N : Nat) (a0 : List Int) (r : Bool), ds = [sl_u8N a0] ∧ f10 N a0 = some r ∧ d = bN r
set_option maxRecDepth 20000 in
set_option maxHeartbeats 4000000 in
theorem P10 : PureOK Try.prog 10 G10 := by
  refine pure_of_vc (c := mkCtx tyTree [(43, false, inlPg (mkCtx tyTree [(38, true, lendPg [[0], [0]] G38)]) Try.f43), (41, true, lendPg [[1], [0]] G41), (27, true, lendPg [[0]] G27), (15, true, lendPg [] G15)]) rfl tyOK (ctx_eff (callable Try.func43 rfl rfl) (CallOK.inl rfl tyOK (ctx_lend (callable Try.func38 rfl rfl) P38 (ctx_nil)) Try.func43 (by kernel_rfl)) (ctx_lend (callable Try.func41 rfl rfl) P41 (ctx_lend (callable Try.func27 rfl rfl) P27 (ctx_lend (callable Try.func15 rfl rfl) P15 (ctx_nil))))) [[0]] 1 Try.func10 rfl rfl (by decide) (by kernel_rfl) ?_
  rintro ds d ⟨N, a0, r, rfl, hF, rfl⟩ hok
  clear hok
  refine ⟨rfl, ?_⟩
  show vc _ _ _ _ ⟨[(0, .dat (sl_u8N a0))], []⟩ _
  unfold f10 at hF
  repeat' (first
    | ((with_reducible first | refine q0 _ _ ?_ | refine q1 _ _ _ _ ?_ | refine q2 _ _ _ ?_); clear Q q0 q1 q2)
    | ((with_reducible first | refine seq_op ?hx (fun Q q0 q1 q2 => ?_) | refine seq_op0 ?hx (fun Q q0 q1 q2 => ?_)); (case hx => exact rfl); conv => whnf)
    | ((with_reducible first | refine seq_off ?hx ?_ | refine seq_off0 ?hx ?_ | refine k_blk_out ?hx ?_ | refine vc_condT ?hx ?_); (case hx => exact rfl))
    | ((with_reducible refine seq_id ?_); (first | ((first | refine seq_opK rfl ?hy (fun Q q0 q1 q2 => ?_) | refine seq_opK0 rfl ?hy (fun Q q0 q1 q2 => ?_)); (case hy => first | assumption | exact notT (by assumption) | exact rfl); conv => whnf) | ((first | refine seq_offK rfl ?hy ?_ | refine seq_offK0 rfl ?hy ?_); (case hy => first | assumption | exact notF (by assumption) | exact rfl)) | (revert hF; (with_reducible first | refine seq_opF ?hx ?_ ?_ | refine seq_opF0 ?hx ?_ ?_); (case hx => exact rfl); (intro hc hF Q q0 q1 q2; conv => whnf); rotate_left; (intro hc hF); rotate_right) | (revert hF; (with_reducible first | refine seq_opN ?hx ?_ ?_ | refine seq_opN0 ?hx ?_ ?_); (case hx => exact rfl); (intro hc hF); rotate_left; (intro hc hF Q q0 q1 q2; conv => whnf); rotate_right)))
    | ((with_reducible refine cond_id ?_); (first | ((refine condKT rfl ?hy ?_); (case hy => first | assumption | exact notT (by assumption) | exact rfl)) | ((refine condKF rfl ?hy ?_); (case hy => first | assumption | exact notF (by assumption) | exact rfl)) | (revert hF; (with_reducible refine condF ?hx ?_ ?_); (case hx => exact rfl); all_goals (intro hc hF))))
    | ((with_reducible refine seq_nil ?_); (first | ((with_reducible refine hR _ ?_); clear R hR) | ((with_reducible refine hL _ ?_); clear L hL)))
    | ((with_reducible first | refine int_step ?_); conv => whnf)
    | (with_reducible first | refine vc_block ?_ | refine vc_skip ?_ | refine vc_ret ?_ | refine vc_exit ?_ | refine vc_region (fun R hR => ?_) | refine k_seq_ret ?_ | refine k_seq_exit ?_ | refine k_blk ?_ | refine k_blk_ret ?_ | refine k_blk_here ?_ | refine k_loop_ret ?_ | refine k_loop_exit ?_)
    | ((with_reducible refine vc_seqN [17, 9, 1503000000006, 15] ?hx ?_); (case hx => exact rfl))
    | (revert hF; (refine Lp.cut0 Lf10_c17 f10_c17 17 rfl rfl ?_ ?_); (intro hF); rotate_left; (rintro _ hF; dsimp only [Lf10_c17] at hF; unfold f10_c17 at hF); rotate_right)
    | exact Lp.head Ef10_c17 hF () ⟨_, rfl, rfl, rfl, rfl⟩ rfl
    | (revert hF; (refine Lp.cut4 Lf10_c9 f10_c9 9 rfl rfl ?_ ?_); (intro hF); rotate_left; (rintro _ hF; dsimp only [Lf10_c9] at hF; unfold f10_c9 at hF); rotate_right)
    | exact Lp.head Ef10_c9 hF () ⟨_, rfl, rfl, rfl, rfl⟩ rfl
    | (revert hF; (refine Lp.cut4 Lf10_i1502_c6 f10_i1502_c6 1503000000006 rfl rfl ?_ ?_); (intro hF); rotate_left; (rintro _ hF; dsimp only [Lf10_i1502_c6] at hF; unfold f10_i1502_c6 at hF); rotate_right)
    | exact Lp.head Ef10_i1502_c6 hF () ⟨_, rfl, rfl, rfl, rfl⟩ rfl
    | (revert hF; (refine Lp.loop Ef10_i1502_2 () rfl ⟨_, rfl, rfl, rfl, rfl⟩ rfl (fun _ => rfl) ?_); rintro n p5 hF; dsimp only [Lf10_i1502_2, f10_i1502_2] at hF; unfold f10_i1502_2b at hF)
    | exact Lp.back Ef10_i1502_2 hF () ⟨_, rfl, rfl, rfl, rfl⟩ rfl
    | (revert hF; (refine Lp.cut5 Lf10_c15 f10_c15 15 rfl rfl ?_ ?_); (intro hF); rotate_left; (rintro t9 hF; dsimp only [Lf10_c15] at hF; unfold f10_c15 at hF); rotate_right)
    | exact Lp.head Ef10_c15 hF () ⟨_, rfl, rfl, rfl, rfl⟩ rfl
    | (revert hF; (refine Lp.loop Ef10_12 () rfl ⟨_, rfl, rfl, rfl, rfl⟩ rfl (fun _ => rfl) ?_); rintro n ⟨t9, i10⟩ hF; dsimp only [Lf10_12, f10_12] at hF; unfold f10_12b at hF)
    | exact Lp.back Ef10_12 hF () ⟨_, rfl, rfl, rfl, rfl⟩ rfl
    | (revert hF; (refine Lp.loop Ef10_8 () rfl ⟨_, rfl, rfl, rfl, rfl⟩ rfl (fun _ => rfl) ?_); rintro n x8 hF; dsimp only [Lf10_8, f10_8] at hF; unfold f10_8b at hF)
    | exact Lp.back Ef10_8 hF () ⟨_, rfl, rfl, rfl, rfl⟩ rfl
    | (revert hF; (with_reducible refine G15.lend ?hx ?_); (case hx => exact rfl); intro v hF; conv => whnf)
    | (revert hF; (with_reducible refine G27.lend ?hx ?_); (case hx => exact rfl); intro v hF; conv => whnf)
    | (revert hF; (with_reducible refine G38.lend ?hx ?_); (case hx => exact rfl); intro v hF; conv => whnf)
    | (revert hF; (with_reducible refine G41.lend ?hx ?_); (case hx => exact rfl); intro v hF; conv => whnf)
    | (revert hF; (refine subS_step ?_); intro x hF; conv => whnf)
    | (revert hF; (refine addS_step ?_); intro x hF; conv => whnf)
    | ((refine row_all ?hn ?_); (case hn => first | exact rfl | (simp; done) | (simp; omega)); conv => whnf)
    | ((with_reducible refine le_step ?hn ?_); (case hn => first | exact rfl | assumption | omega); conv => whnf)
    | ((refine ⟨?hx, ?_⟩); (case hx => exact ⟨rfl, Nat.le_of_ble_eq_true rfl, rfl⟩); conv => whnf)
    | ((with_reducible refine ex_step ?_); conv => whnf)
    | ((with_reducible have hG := chk_fact hF); clear hF; (refine ⟨?hx, ?_⟩); (case hx => (first | exact of_decide_eq_true hG.1 | exact hG.1)); have hF := hG.2; clear hG; conv => whnf)
    | ((with_reducible refine both_T ?hx ?_); (case hx => first | exact rfl | assumption | exact notT (by assumption)); conv => whnf)
    | ((with_reducible refine both_F ?hx ?_); (case hx => first | exact rfl | assumption | exact notF (by assumption)); conv => whnf)
    | (revert hF; (with_reducible refine ite_step ?_ ?_) <;> (intro hc hF; conv => whnf))
    | ((with_reducible refine vc_condF ?hx ?_); (case hx => exact rfl))
    | (show retD _ _ _ _ _ _; conv => whnf)
    | ((refine inl_step ?ha ?hb ?hc rfl ?_); (case ha => exact rfl); (case hb => omega); (case hc => exact Nat.le_of_ble_eq_true rfl))
    | (show Kinl _ _ _ _ _ _ _; conv => whnf)
    | ((with_reducible refine kinl_step ?ha ?hb ?_); (case ha => exact rfl); (case hb => exact rfl); conv => whnf)
    | ((refine ⟨?hx, trivial⟩); (case hx => (cases hF; exact rfl)))
    | ((refine ⟨?hx, ?_⟩); (case hx => decide); conv => whnf)
    | with_reducible refine k_seq ?_
    | (have hF : (none : Option _) = some _ := hF; cases hF))
end
end Go.Vc
namespace Go.Vc
set_option linter.unusedVariables false
set_option linter.unnecessarySimpa false
set_option linter.unusedSimpArgs false
section
variable {α β σ : Type}
theorem iffD {α : Type} {p q : Prop} {dp : Decidable p} {dq : Decidable q} {a b : α} (h : p ↔ q) : @ite α p dp a b = @ite α q dq a b := by
  by_cases hp : p
  · rw [if_pos hp, if_pos (h.1 hp)]
  · rw [if_neg hp, if_neg fun hq => hp (h.2 hq)]
open Classical in
theorem loop_ex {F : Nat → Int → Option β} {k0 e : Option β} {p : Nat → Prop} (len : Nat)
    (hs : ∀ n i, i < len → F (n + 1) (i : Int) = if p i then e else F n ((i + 1 : Nat) : Int)) (he : ∀ n, F (n + 1) (len : Int) = k0) :
    ∀ n i, i ≤ len → len - i < n → F n (i : Int) = if (∃ j, i ≤ j ∧ j < len ∧ p j) then e else k0 := by
  intro n
  induction n with
  | zero => intro i _ h; omega
  | succ n ih =>
    intro i hi hn
    by_cases h : i = len
    · subst h
      rw [he, if_neg]
      rintro ⟨j, h1, h2, _⟩; omega
    · rw [hs n i (by omega)]
      by_cases hp : p i
      · rw [if_pos hp, if_pos ⟨i, Nat.le_refl _, by omega, hp⟩]
      · rw [if_neg hp, ih (i + 1) (by omega) (by omega)]
        by_cases hx : ∃ j, i + 1 ≤ j ∧ j < len ∧ p j
        · obtain ⟨j, h1, h2, h3⟩ := hx
          rw [if_pos ⟨j, h1, h2, h3⟩, if_pos ⟨j, by omega, h2, h3⟩]
        · rw [if_neg hx, if_neg]
          rintro ⟨j, h1, h2, h3⟩
          by_cases hj : j = i
          · subst hj; exact hp h3
          · exact hx ⟨j, by omega, h2, h3⟩
open Classical in
theorem loop_ex0 {F : Nat → Int → Option β} {k0 e : Option β} {p : Nat → Prop} (len : Nat)
    (hs : ∀ n i, i < len → F (n + 1) (i : Int) = if p i then e else F n ((i + 1 : Nat) : Int)) (he : ∀ n, F (n + 1) (len : Int) = k0) {n : Nat} (hn : len < n) :
    F n 0 = if (∃ j, j < len ∧ p j) then e else k0 := by
  have := loop_ex len hs he n 0 (by omega) (by omega)
  rw [show ((0 : Nat) : Int) = 0 from rfl] at this
  rw [this]
  by_cases h : ∃ j, j < len ∧ p j
  · obtain ⟨j, h1, h2⟩ := h
    rw [if_pos ⟨j, by omega, h1, h2⟩, if_pos ⟨j, h1, h2⟩]
  · rw [if_neg h, if_neg]
    rintro ⟨j, _, h1, h2⟩; exact h ⟨j, h1, h2⟩
end
end Go.Vc
namespace Go.Vc
open Go.Proofs
set_option linter.unusedVariables false
set_option linter.unnecessarySimpa false
set_option linter.unusedSimpArgs false
end Go.Vc
namespace Go.Vc
open Go.Proofs
set_option linter.unusedVariables false
set_option linter.unnecessarySimpa false
set_option linter.unusedSimpArgs false
end Go.Vc
namespace Go.Vc
set_option linter.unusedVariables false
set_option linter.unnecessarySimpa false
set_option linter.unusedSimpArgs false
set_option linter.unusedSimpArgs false
section
variable {l m : List UInt8}
@[simp] theorem strC_size : (strC l).size = l.length := by simp [strC, ByteArray.size]
@[simp] theorem strC_toList : (strC l).data.toList = l := by simp [strC]
theorem strC_inj : strC l = strC m ↔ l = m := by
  constructor
  · intro h
    have := congrArg (fun s : ByteArray => s.data.toList) h
    simpa using this
  · rintro rfl; rfl
theorem emptyS_eq : emptyS = strC [] := rfl
theorem extract_L {a b : Nat} : (strC l).extract a b = strC ((l.take b).drop a) := by
  have h : ∀ s : ByteArray, s = strC s.data.toList := fun s => by cases s; simp [strC]
  rw [h ((strC l).extract a b)]
  simp [ByteArray.data_extract, List.drop_take, strC]
theorem subS_L {a b : Nat} (h : a ≤ b) (h' : b ≤ l.length) : subS (strC l) (a : Int) (b : Int) = some (strC ((l.take b).drop a)) := by
  unfold subS
  rw [if_pos ⟨by omega, by omega, by simp; omega⟩]
  simp only [Int.toNat_natCast, subStr, extract_L]
theorem append_L : strC l ++ strC m = strC (l ++ m) := by
  have h : ∀ s : ByteArray, s = strC s.data.toList := fun s => by cases s; simp [strC]
  rw [h (strC l ++ strC m)]
  simp [strC]
theorem addS_L (h : l.length + m.length ≤ 1000000) : addS (strC l) (strC m) = some (strC (l ++ m)) := by
  unfold addS
  rw [if_pos (by simp [maxLen]; omega), append_L]
theorem byteAt_L {i : Nat} (h : i < l.length) : byteAt (strC l) i = (l[i].toNat : Int) := by
  unfold byteAt
  simp [h]
theorem idxS_L {i : Nat} (h : i < l.length) : idxS (strC l) (i : Int) = some (l[i].toNat : Int) := by
  unfold idxS
  rw [if_pos ⟨by omega, by simp; omega⟩]
  simp only [Int.toNat_natCast, byteAt_L h]
theorem toNat_inj {a b : UInt8} : (a.toNat : Int) = (b.toNat : Int) ↔ a = b := by
  constructor
  · intro h; exact UInt8.toNat_inj.1 (by omega)
  · rintro rfl; rfl
theorem rune_lo {p : Nat} (h : p < l.length) (hb : l[p].toNat < 128) : runeAt (strC l) p = ((l[p].toNat : Int), p + 1) := by
  have hs : p < (strC l).size := by simpa using h
  have he : (strC l)[p] = l[p] := by
    have h1 : byteAt (strC l) p = _ := (str_get (strC l) p hs).2.symm
    have h2 := byteAt_L h
    exact toNat_inj.1 (h1.symm.trans h2)
  unfold runeAt
  rw [decode_ascii (strC l) p hs (by rw [he]; omega)]
  simp only [he]
  rfl
theorem rune_hi {p : Nat} (h : p < l.length) (hb : 128 ≤ l[p].toNat) : 128 ≤ (runeAt (strC l) p).1 := by
  have hs : p < (strC l).size := by simpa using h
  have he : (strC l)[p] = l[p] := by
    have h1 : byteAt (strC l) p = _ := (str_get (strC l) p hs).2.symm
    have h2 := byteAt_L h
    exact toNat_inj.1 (h1.symm.trans h2)
  have := (decode_high (strC l) p hs (by rw [he]; omega)).1
  show (128 : Int) ≤ ((Utf8.decode (strC l) p).1 : Int)
  omega
end
def okb (b : UInt8) : Bool := decide (97 ≤ b.toNat) && decide (b.toNat ≤ 122)
def chk8 (l : List UInt8) : Int := if l = [] then 1 else if 24 < l.length then 19 else if l.all okb then 0 else 9
theorem drop_all {l : List UInt8} {p : Nat} (h : p < l.length) : (l.drop p).all okb = (okb l[p] && (l.drop (p + 1)).all okb) := by
  rw [List.drop_eq_getElem_cons h]; rfl
theorem okb_lo {b : UInt8} (h : (b.toNat : Int) < 97) : okb b = false := by simp [okb]; omega
theorem okb_hi {b : UInt8} (h : (122 : Int) < (b.toNat : Int)) : okb b = false := by simp [okb]; omega
theorem okb_in {b : UInt8} (h : ¬ (b.toNat : Int) < 97) (h' : ¬ (122 : Int) < (b.toNat : Int)) : okb b = true := by simp [okb]; omega
theorem f23_loop {l : List UInt8} {k0 : Option Int} : ∀ (n p : Nat), l.length - p < n → p ≤ l.length → f23_6 (strC l) k0 n p = if (l.drop p).all okb then k0 else some 9 := by
  intro n
  induction n with
  | zero => intro p h; omega
  | succ n ih =>
    intro p hn hp
    unfold f23_6 f23_6b
    by_cases h : p < l.length
    · simp only [strC_size, h, decide_true, cond_true, Option.bind_some]
      rw [drop_all h]
      by_cases hb : l[p].toNat < 128
      · rw [rune_lo h hb]
        by_cases h1 : (l[p].toNat : Int) < 97
        · simp [h1, okb_lo h1]
        · by_cases h2 : (122 : Int) < l[p].toNat
          · simp [h1, h2, okb_hi h2]
          · simp only [h1, h2, decide_false, cond_false, okb_in h1 h2, Bool.true_and]
            rw [ih (p + 1) (by omega) (by omega)]
      · have := rune_hi h (by omega)
        simp only [show ¬ (runeAt (strC l) p).1 < 97 by omega, show (122 : Int) < (runeAt (strC l) p).1 by omega, decide_false, decide_true, cond_false, cond_true]
        rw [okb_hi (by omega)]; simp
    · have : p = l.length := by omega
      subst this
      simp
theorem f23_eq {l : List UInt8} {N : Nat} (hN : 30 ≤ N) : f23 N (strC l) = some (chk8 l) := by
  unfold f23 chk8
  by_cases h : l = []
  · subst h; simp [emptyS_eq]
  · simp only [emptyS_eq, strC_inj, h, decide_false, cond_false, strC_size, if_false]
    by_cases h2 : 24 < l.length
    · simp [h2, show (24 : Int) < (l.length : Int) by omega]
    · simp only [show ¬ (24 : Int) < (l.length : Int) by omega, decide_false, cond_false, joinK]
      rw [f23_loop N 0 (by omega) (by omega)]
      simp [h2, f23_c10]
      split <;> rfl
theorem chk8_zero {l : List UInt8} : chk8 l = 0 ↔ l ≠ [] ∧ l.length ≤ 24 ∧ l.all okb = true := by
  unfold chk8
  by_cases h : l = [] <;> by_cases h2 : 24 < l.length <;> by_cases h3 : l.all okb = true <;> simp [h, h2, h3] <;> omega
def isP (l : List UInt8) (p : Nat) : Bool := (l.drop p).isPrefixOf l
theorem isP_iff {l : List UInt8} {p : Nat} : isP l p = true ↔ ∀ i, (h : i + p < l.length) → l[i] = l[i + p] := by
  unfold isP
  rw [List.isPrefixOf_iff_prefix, List.prefix_iff_getElem?]
  constructor
  · intro h i hi
    have := h i (by simp; omega)
    rw [List.getElem_drop] at this
    rw [List.getElem?_eq_getElem (by omega)] at this
    have := Option.some.inj this
    rw [this]
    congr 1
    omega
  · intro h i hi
    simp at hi
    rw [List.getElem?_eq_getElem (by omega), h i (by omega), List.getElem_drop]
    congr 2
    omega
end Go.Vc
namespace Go.Vc
open Go.Proofs
set_option linter.unusedVariables false
set_option linter.unnecessarySimpa false
set_option linter.unusedSimpArgs false
end Go.Vc
namespace Go.Vc
open Go.Proofs
set_option linter.unusedVariables false
set_option linter.unnecessarySimpa false
set_option linter.unusedSimpArgs false
end Go.Vc
namespace Go.Vc
open Go.Proofs
set_option linter.unusedVariables false
set_option linter.unnecessarySimpa false
set_option linter.unusedSimpArgs false
end Go.Vc
namespace Go.Vc
open Go.Proofs
set_option linter.unusedVariables false
set_option linter.unnecessarySimpa false
set_option linter.unusedSimpArgs false
end Go.Vc
namespace Go.Vc
open Go.Proofs
set_option linter.unusedVariables false
set_option linter.unnecessarySimpa false
set_option linter.unusedSimpArgs false
set_option linter.unusedSimpArgs false
def perN (l : List UInt8) : List Nat := (List.range' 1 l.length).filter (isP l)
def toI (l : List Nat) : List Int := l.map fun (i : Nat) => (i : Int)
theorem isPer_L {l : List UInt8} {p : Nat} : isPer (strC l) p = isP l p := by
  unfold isPer isP Lib.hasPrefix
  rw [strC_size, extract_L, strC_toList, strC_toList, List.take_length]
theorem perL_L {l : List UInt8} : perL (strC l) = toI (perN l) := by
  unfold perL perTo perN toI
  rw [strC_size, Nat.add_sub_cancel]
  congr 1
  exact List.filter_congr fun x _ => isPer_L
theorem f47_eq {l : List UInt8} {N : Nat} (hl : l.length ≤ 1000) : f47 N (strC l) = some (toI (perN l)) := by
  unfold f47
  rw [if_pos (by simpa using hl), perL_L]
theorem chk8_len {l : List UInt8} (h : chk8 l = 0) : l.length ≤ 24 := (chk8_zero.1 h).2.1
theorem loop_find1 {β : Type} {F : Nat → Int → Option β} {k : Nat → Option β} {p : Nat → Prop} (a m : Nat) (hm : p m)
    (hs : ∀ n i, a ≤ i → i ≤ m → ¬ p i → F (n + 1) (i : Int) = F n ((i + 1 : Nat) : Int)) (he : ∀ n i, a ≤ i → i ≤ m → p i → F (n + 1) (i : Int) = k i) :
    ∀ n i, a ≤ i → i ≤ m → m - i < n → ∃ j, i ≤ j ∧ j ≤ m ∧ p j ∧ (∀ q, i ≤ q → q < j → ¬ p q) ∧ F n (i : Int) = k j := by
  intro n
  induction n with
  | zero => intro i _ _ h; omega
  | succ n ih =>
    intro i ha hi hn
    by_cases h : p i
    · exact ⟨i, Nat.le_refl _, hi, h, fun q h1 h2 => by omega, he n i ha hi h⟩
    · have : i ≠ m := fun hh => h (hh ▸ hm)
      obtain ⟨j, h1, h2, h3, h4, h5⟩ := ih (i + 1) (by omega) (by omega) (by omega)
      refine ⟨j, by omega, h2, h3, fun q h6 h7 => ?_, (hs n i ha hi h).trans h5⟩
      by_cases hq : q = i
      · subst hq; exact h
      · exact h4 q (by omega) h7
theorem toI_inj {a b : List Nat} : toI a = toI b ↔ a = b := by
  unfold toI
  constructor
  · intro h
    have := congrArg (List.map Int.toNat) h
    simpa [Function.comp_def] using this
  · rintro rfl; rfl
theorem perN_len {l : List UInt8} : (perN l).length ≤ l.length := Nat.le_trans (List.length_filter_le _ _) (by simp)
theorem toI_len {a : List Nat} : (toI a).length = a.length := by simp [toI]
theorem isP_len {l : List UInt8} : isP l l.length = true := by simp [isP]
end Go.Vc
namespace Go.Vc
open Go.Proofs
set_option linter.unusedVariables false
set_option linter.unnecessarySimpa false
set_option linter.unusedSimpArgs false
set_option linter.unusedSimpArgs false
end Go.Vc
namespace Go.Vc
open Go.Proofs
set_option linter.unusedVariables false
set_option linter.unnecessarySimpa false
set_option linter.unusedSimpArgs false
end Go.Vc
namespace Go.Vc
open Go.Proofs
set_option linter.unusedVariables false
set_option linter.unnecessarySimpa false
set_option linter.unusedSimpArgs false
set_option linter.unusedSimpArgs false
def Per {α : Type} (f : Nat → α) (n p : Nat) : Prop := ∀ i, i + p < n → f i = f (i + p)
section
variable {α : Type} {f : Nat → α}
theorem Per.mul {n p : Nat} (h : Per f n p) : ∀ m, Per f n (m * p) := by
  intro m
  induction m with
  | zero => intro i hi; simp
  | succ m ih =>
    intro i hi
    rw [Nat.succ_mul] at hi ⊢
    rw [ih i (by omega), h (i + m * p) (by omega)]
    congr 1
    omega
theorem Per.dvd {n p q : Nat} (h : Per f n p) (hd : p ∣ q) : Per f n q := by
  obtain ⟨m, rfl⟩ := hd
  rw [Nat.mul_comm]
  exact h.mul m
theorem Per.less {n m p : Nat} (h : Per f n p) (hm : m ≤ n) : Per f m p := fun i hi => h i (by omega)
theorem Per.grow {n p g : Nat} (hg : 1 ≤ g) (hd : g ∣ p) (hp : 1 ≤ p) (hn : 2 * p ≤ n) (h : Per f n p) (h' : Per f (n - p) g) : Per f n g := by
  have hgp : g ≤ p := Nat.le_of_dvd hp hd
  intro i hi
  by_cases h1 : i + g < n - p
  · exact h' i h1
  · have e1 : f (i + g) = f (i + g - p) := by
      have := h (i + g - p) (by omega)
      rw [this]; congr 1; omega
    rw [e1]
    by_cases h2 : p ≤ i
    · have e2 : f i = f (i - p) := by
        have := h (i - p) (by omega)
        rw [this]; congr 1; omega
      rw [e2, h' (i - p) (by omega)]
      congr 1; omega
    · have hd2 : g ∣ p - g := Nat.dvd_sub hd (Nat.dvd_refl g)
      have := h'.dvd hd2 (i + g - p) (by omega)
      rw [this]
      congr 1; omega
theorem fine_wilf : ∀ (s n p q : Nat), p + q ≤ s → 1 ≤ p → 1 ≤ q → p + q - Nat.gcd p q ≤ n → Per f n p → Per f n q → Per f n (Nat.gcd p q) := by
  intro s
  induction s with
  | zero => intro n p q h h1 h2; omega
  | succ s ih =>
    intro n p q hs hp hq hn h1 h2
    have core : ∀ p q : Nat, p + q ≤ s + 1 → 1 ≤ p → p < q → p + q - Nat.gcd p q ≤ n → Per f n p → Per f n q → Per f n (Nat.gcd p q) := by
      intro p q hs hp hpq hn h1 h2
      have hg : Nat.gcd p (q - p) = Nat.gcd p q := by
        rw [Nat.gcd_comm, Nat.gcd_comm p q]
        have := Nat.gcd_sub_self_left (m := p) (n := q) (Nat.le_of_lt hpq)
        exact this
      have hgd : Nat.gcd p q ∣ q - p := by rw [← hg]; exact Nat.gcd_dvd_right _ _
      have hgp : Nat.gcd p q ∣ p := Nat.gcd_dvd_left _ _
      have hgle : Nat.gcd p q ≤ q - p := Nat.le_of_dvd (by omega) hgd
      have hg1 : 1 ≤ Nat.gcd p q := Nat.gcd_pos_of_pos_left _ hp
      have hper : Per f (n - p) (q - p) := by
        intro i hi
        have e1 := h2 i (by omega)
        have e2 := h1 (i + (q - p)) (by omega)
        rw [e1, e2]; congr 1; omega
      have := ih (n - p) p (q - p) (by omega) hp (by omega) (by rw [hg]; omega) (h1.less (by omega)) hper
      rw [hg] at this
      exact Per.grow hg1 hgp hp (by omega) h1 this
    rcases Nat.lt_trichotomy p q with h | h | h
    · exact core p q hs hp h hn h1 h2
    · subst h; rw [Nat.gcd_self]; exact h1
    · rw [Nat.gcd_comm]
      exact core q p (by omega) hq h (by rw [Nat.gcd_comm, Nat.add_comm]; exact hn) h2 h1
end
theorem isP_per {l : List UInt8} {p : Nat} : isP l p = true ↔ Per (fun i => l[i]?) l.length p := by
  rw [isP_iff]
  constructor
  · intro h i hi
    simp only
    rw [List.getElem?_eq_getElem (by omega), List.getElem?_eq_getElem hi, h i hi]
  · intro h i hi
    have := h i hi
    simp only at this
    rw [List.getElem?_eq_getElem (by omega), List.getElem?_eq_getElem hi] at this
    exact Option.some.inj this
open Classical in
theorem f38_loop {l : List UInt8} {p : Nat} {k0 : Option Bool} (hl : l.length ≤ 1000) (ha : ∀ (i : Nat) (h : i < l.length), l[i].toNat < 128) :
    ∀ (n i : Nat), i ≤ l.length → l.length - i < n → f38_2 (strC l) (p : Int) k0 n i = if (∀ j, i ≤ j → p ≤ j → (h : j < l.length) → l[j - p] = l[j]) then k0 else some false := by
  intro n
  induction n with
  | zero => intro i _ h; omega
  | succ n ih =>
    intro i hi hn
    unfold f38_2 f38_2b
    by_cases h : i < l.length
    · simp only [strC_size, h, decide_true, cond_true, Option.bind_some]
      rw [rune_lo h (ha i h)]
      by_cases hp : p ≤ i
      · simp only [show (p : Int) ≤ (i : Int) by omega, decide_true, cond_true]
        rw [show ((i : Int) - (p : Int)) = ((i - p : Nat) : Int) by omega, W_of (by omega) (by omega), idxS_L h, idxS_L (show i - p < l.length by omega)]
        simp only [Option.bind_some, toNat_inj]
        by_cases he : l[i] = l[i - p]
        · simp only [he, not_true, decide_false, cond_false]
          rw [ih (i + 1) (by omega) (by omega)]
          refine iffD ?_
          constructor
          · intro hh j h1 h2 h3
            by_cases hj : j = i
            · subst hj; exact he.symm
            · exact hh j (by omega) h2 h3
          · intro hh j h1 h2 h3
            exact hh j (by omega) h2 h3
        · simp only [he, not_false_eq_true, decide_true, cond_true]
          rw [if_neg fun hh => he (hh i (Nat.le_refl _) hp h).symm]
      · simp only [show ¬ (p : Int) ≤ (i : Int) by omega, decide_false, cond_false]
        rw [ih (i + 1) (by omega) (by omega)]
        refine iffD ?_
        constructor
        · intro hh j h1 h2 h3
          exact hh j (by omega) h2 h3
        · intro hh j h1 h2 h3
          exact hh j (by omega) h2 h3
    · simp only [strC_size, h, decide_false, cond_false]
      rw [if_pos fun j h1 _ h3 => by omega]
def Abc (l : List UInt8) : Prop := ∀ b ∈ l, b = 97 ∨ b = 98 ∨ b = 99
theorem all_lo {l : List UInt8} (h : l.all okb = true) (i : Nat) (hi : i < l.length) : l[i].toNat < 128 := by
  have := List.all_eq_true.1 h l[i] (List.getElem_mem hi)
  simp [okb] at this
  omega
theorem goes_iff {l : List UInt8} {p : Nat} : (∀ j, 0 ≤ j → p ≤ j → (h : j < l.length) → l[j - p] = l[j]) ↔ isP l p = true := by
  rw [isP_iff]
  constructor
  · intro h i hi
    have := h (i + p) (by omega) (by omega) hi
    simp only [Nat.add_sub_cancel] at this
    exact this
  · intro h j _ h2 h3
    have := h (j - p) (by omega)
    rw [this]
    congr 1; omega
open Classical in
theorem f38_eq {l : List UInt8} {p N : Nat} (hl : l.length ≤ 100) (ha : l.all okb = true) (hN : l.length < N) : f38 N (strC l) (p : Int) = some (decide (1 ≤ p ∧ p ≤ l.length) && isP l p) := by
  unfold f38
  simp only [joinK]
  rw [f38_loop (by omega) (all_lo ha) N 0 (by omega) (by omega), iffD (dq := instDecidableEqBool _ _) goes_iff]
  by_cases h : isP l p = true
  · rw [if_pos h, h]
    unfold f38_c6
    by_cases h1 : 1 ≤ p
    · simp [h1, show (1 : Int) ≤ (p : Int) by omega]
    · simp [h1, show ¬ (1 : Int) ≤ (p : Int) by omega]
  · rw [if_neg h]
    simp only [Bool.not_eq_true] at h
    rw [h]; simp
theorem sub_end' {l : List UInt8} {i : Nat} (hi : i ≤ l.length) : subS (strC l) (i : Int) (l.length : Int) = some (strC (l.drop i)) := by
  rw [subS_L hi (Nat.le_refl _), List.take_length]
theorem abc_sub {x : Int} (h : 0 ≤ x) : ∃ b : UInt8, (b = 97 ∨ b = 98 ∨ b = 99) ∧ ((subS (strC [97, 98, 99]) (Int.tmod x 3) ((strC [97, 98, 99]).size : Int)).bind fun y => subS y 0 1) = some (strC [b]) := by
  obtain ⟨m, rfl⟩ : ∃ m : Nat, x = m := ⟨x.toNat, by omega⟩
  have e : Int.tmod (m : Int) 3 = ((m % 3 : Nat) : Int) := rfl
  rw [e]
  have h3 : m % 3 < 3 := Nat.mod_lt _ (by omega)
  rcases (by omega : m % 3 = 0 ∨ m % 3 = 1 ∨ m % 3 = 2) with h | h | h <;> rw [h]
  · exact ⟨97, by simp, rfl⟩
  · exact ⟨98, by simp, rfl⟩
  · exact ⟨99, by simp, rfl⟩
theorem bind2 {α β γ : Type} {x : Option α} {f : α → Option β} {g : β → Option γ} {y : β} (h : x.bind f = some y) : (x.bind fun a => (f a).bind g) = g y := by
  cases x with
  | none => cases h
  | some a =>
    simp only [Option.bind_some] at h ⊢
    rw [h]; rfl
theorem Abc.snoc {l : List UInt8} {b : UInt8} (h : Abc l) (hb : b = 97 ∨ b = 98 ∨ b = 99) : Abc (l ++ [b]) := by
  intro x hx
  rcases List.mem_append.1 hx with hx | hx
  · exact h x hx
  · rw [List.mem_singleton.1 hx]; exact hb
theorem f41_loop {w : List Int} {m : Nat} (hm : 1 ≤ m) (hm2 : m ≤ 100) (hw : ∀ x ∈ w, 0 ≤ x) : ∀ (n i : Nat) (l : List UInt8), l.length ≤ m → Abc l → m - l.length < n → i ≤ w.length → i ≤ l.length →
    ∃ l', f41_3 w (m : Int) f41_c9 n (strC l) (i : Int) = some (strC l') ∧ 1 ≤ l'.length ∧ l'.length ≤ m ∧ Abc l' := by
  have fin : ∀ l : List UInt8, l.length ≤ m → Abc l → ∃ l', f41_c9 (strC l) = some (strC l') ∧ 1 ≤ l'.length ∧ l'.length ≤ m ∧ Abc l' := by
    intro l h1 h2
    unfold f41_c9
    by_cases h : l = []
    · subst h
      exact ⟨[97], by simp [emptyS_eq], by simp, by simpa using hm, by intro b hb; simp at hb; simp [hb]⟩
    · exact ⟨l, by simp [emptyS_eq, strC_inj, h], List.length_pos_iff.2 h, h1, h2⟩
  intro n
  induction n with
  | zero => intro i l _ _ h; omega
  | succ n ih =>
    intro i l hl ha hn hi hil
    unfold f41_3 f41_3b
    by_cases h : i < w.length
    · simp only [show (i : Int) < (w.length : Int) by omega, decide_true, cond_true]
      by_cases h2 : l.length < m
      · simp only [strC_size, show (l.length : Int) < (m : Int) by omega, decide_true, cond_true, ix_get h, Option.bind_some]
        have hx := hw w[i] (List.getElem_mem h)
        rw [W_nat (by omega)]
        have plain : ∃ l', (((subS (strC [97, 98, 99]) (Int.tmod w[i] 3) ((strC [97, 98, 99]).size : Int)).bind fun x8 => (subS x8 0 1).bind fun x9 => (addS (strC l) x9).bind fun x10 => f41_3 w (m : Int) f41_c9 n x10 ((i + 1 : Nat) : Int))) = some (strC l') ∧ 1 ≤ l'.length ∧ l'.length ≤ m ∧ Abc l' := by
          obtain ⟨b, hb, e⟩ := abc_sub hx
          rw [bind2 e, addS_L (by simp; omega), Option.bind_some]
          exact ih (i + 1) (l ++ [b]) (by simp; omega) (ha.snoc hb) (by simp; omega) (by omega) (by simp; omega)
        simp only [strC_size] at plain
        by_cases h3 : (128 : Int) ≤ w[i]
        · simp only [h3, decide_true, cond_true]
          by_cases h4 : l = []
          · subst h4
            simp only [List.length_nil]
            exact plain
          · have h5 := List.length_pos_iff.2 h4
            have : decide ((l.length : Int) ≠ 0) = true := decide_eq_true (by omega)
            simp only [show (0 : Int) < (l.length : Int) by omega, decide_true, cond_true, this, chk, Option.bind_some]
            obtain ⟨x, hx'⟩ : ∃ x : Nat, w[i] = x := ⟨w[i].toNat, by omega⟩
            rw [hx']
            have ht : Int.tmod (x : Int) (l.length : Int) = ((x % l.length : Nat) : Int) := rfl
            have hlt := Nat.mod_lt x h5
            rw [ht]
            generalize hq : x % l.length = q at *
            rw [show (l.length : Int) - 1 = ((l.length - 1 : Nat) : Int) by omega, W_of (n := ((l.length - 1 : Nat) : Int)) (by omega) (by omega), show ((l.length - 1 : Nat) : Int) - (q : Int) = ((l.length - 1 - q : Nat) : Int) by omega, W_of (by omega) (by omega), sub_end' (by omega), Option.bind_some]
            have s1 := subS_L (l := l.drop (l.length - 1 - q)) (a := 0) (b := 1) (by omega) (by simp; omega)
            rw [show ((0 : Nat) : Int) = 0 from rfl, show ((1 : Nat) : Int) = 1 from rfl] at s1
            rw [s1, Option.bind_some, List.drop_zero, List.drop_eq_getElem_cons (by omega)]
            simp only [List.take_succ_cons, List.take_zero]
            rw [addS_L (by simp; omega), Option.bind_some]
            exact ih (i + 1) _ (by simp; omega) (ha.snoc (ha _ (List.getElem_mem _))) (by simp; omega) (by omega) (by simp; omega)
        · simp only [h3, decide_false, cond_false]
          exact plain
      · simp only [strC_size, show ¬ (l.length : Int) < (m : Int) by omega, decide_false, cond_false]
        exact fin l hl ha
    · simp only [show ¬ (i : Int) < (w.length : Int) by omega, decide_false, cond_false]
      exact fin l hl ha
theorem f41_eq {w : List Int} {m N : Nat} (hm : 1 ≤ m) (hm2 : m ≤ 100) (hw : ∀ x ∈ w, 0 ≤ x) (hN : m < N) : ∃ l, f41 N w (m : Int) = some (strC l) ∧ 1 ≤ l.length ∧ l.length ≤ m ∧ Abc l := by
  unfold f41
  simp only [joinK, emptyS_eq]
  exact f41_loop hm hm2 hw N 0 [] (by simp) (by intro b hb; cases hb) (by simp; omega) (by omega) (by simp)
theorem Abc.ok {l : List UInt8} (h : Abc l) : l.all okb = true := by
  rw [List.all_eq_true]
  intro b hb
  rcases h b hb with rfl | rfl | rfl <;> decide
theorem Abc.chk {l : List UInt8} (h : Abc l) (h1 : 1 ≤ l.length) (h2 : l.length ≤ 24) : chk8 l = 0 :=
  chk8_zero.2 ⟨by rintro rfl; simp at h1, h2, h.ok⟩
end Go.Vc
namespace Go.Vc
open Go.Proofs
set_option maxRecDepth 100000
end Go.Vc
namespace Go.Vc
open Go.Proofs
set_option linter.unusedVariables false
set_option linter.unnecessarySimpa false
set_option linter.unusedSimpArgs false
end Go.Vc
namespace Go.Vc
open Go.Proofs
set_option linter.unusedVariables false
set_option linter.unnecessarySimpa false
set_option linter.unusedSimpArgs false
set_option linter.unusedSimpArgs false
theorem per_more {l : List UInt8} {p q : Nat} (hp : p ≤ l.length) (h1 : isP l p = true) (h2 : isP (l.take (l.length - p)) q = true) (hq : q ≤ l.length - p) : isP l (p + q) = true := by
  rw [isP_per] at h1 h2 ⊢
  intro i hi
  have a := h2 i (by simp; omega)
  simp only at a
  rw [List.getElem?_take_of_lt (by omega), List.getElem?_take_of_lt (by omega)] at a
  have b := h1 (i + q) (by omega)
  simp only at b ⊢
  rw [a, b]; congr 1; omega
theorem perN_mem {l : List UInt8} {p : Nat} : p ∈ perN l ↔ (1 ≤ p ∧ p ≤ l.length) ∧ isP l p = true := by
  unfold perN
  rw [List.mem_filter, List.mem_range'_1]
  constructor
  · rintro ⟨a, b⟩; exact ⟨by omega, b⟩
  · rintro ⟨a, b⟩; exact ⟨by omega, b⟩
theorem first_per {l : List UInt8} (h : l ≠ []) : ∃ p, (perN l)[0]? = some p ∧ 1 ≤ p ∧ p ≤ l.length ∧ isP l p = true ∧ ∀ q, 1 ≤ q → q < p → isP l q = false := by
  have h0 := List.length_pos_iff.2 h
  have hm : l.length ∈ perN l := perN_mem.2 ⟨⟨by omega, Nat.le_refl _⟩, isP_len⟩
  cases hp : perN l with
  | nil => rw [hp] at hm; cases hm
  | cons p r =>
    have hp' : p ∈ perN l := by rw [hp]; simp
    obtain ⟨⟨a, b⟩, c⟩ := perN_mem.1 hp'
    refine ⟨p, rfl, a, b, c, fun q h1 h2 => ?_⟩
    cases hq : isP l q with
    | false => rfl
    | true =>
      have hqm : q ∈ perN l := perN_mem.2 ⟨⟨h1, by omega⟩, hq⟩
      have hs : (perN l).Pairwise (· < ·) := List.Pairwise.filter _ List.pairwise_lt_range'
      rw [hp] at hqm hs
      rcases List.mem_cons.1 hqm with rfl | hqm
      · omega
      · have := (List.pairwise_cons.1 hs).1 q hqm
        omega
end Go.Vc
namespace Go.Vc
open Go.Proofs
set_option linter.unusedVariables false
set_option linter.unnecessarySimpa false
set_option linter.unusedSimpArgs false
set_option linter.unusedSimpArgs false
set_option maxRecDepth 1000000
theorem take_per {l : List UInt8} {p d : Nat} (hp : p ≤ l.length) (h : isP l p = true) (hd : p + d ≤ l.length) : isP (l.take (l.length - p)) d = isP l (p + d) := by
  have key : isP (l.take (l.length - p)) d = true ↔ isP l (p + d) = true := by
    constructor
    · intro h2; exact per_more hp h h2 (by omega)
    · intro h2
      rw [isP_per] at h h2 ⊢
      intro i hi
      rw [List.length_take] at hi
      simp only
      rw [List.getElem?_take_of_lt (by omega), List.getElem?_take_of_lt (by omega)]
      have e1 := h2 i (by omega)
      have e2 := h (i + d) (by omega)
      simp only at e1 e2
      rw [e1, e2]; congr 1; omega
  cases h2 : isP l (p + d) with
  | true => exact key.2 h2
  | false =>
    rw [Bool.eq_false_iff]
    intro hh
    rw [key.1 hh] at h2; cases h2
theorem perN_split {l : List UInt8} {p : Nat} (h1 : 1 ≤ p) (hp : p ≤ l.length) (h : isP l p = true) (hmin : ∀ q, 1 ≤ q → q < p → isP l q = false) :
    perN l = p :: (perN (l.take (l.length - p))).map fun d => p + d := by
  unfold perN
  have hlen : (l.take (l.length - p)).length = l.length - p := by simp
  rw [hlen]
  have e : List.range' 1 l.length = List.range' 1 (p - 1) ++ (p :: List.range' (p + 1) (l.length - p)) := by
    have h := List.range'_append_1 (s := 1) (m := p - 1) (n := l.length - p + 1)
    rw [show 1 + (p - 1) = p by omega, show p - 1 + (l.length - p + 1) = l.length by omega, List.range'_succ] at h
    exact h.symm
  rw [e, List.filter_append, List.filter_cons, if_pos h]
  have e1 : (List.range' 1 (p - 1)).filter (isP l) = [] := by
    rw [List.filter_eq_nil_iff]
    intro x hx
    rw [List.mem_range'_1] at hx
    rw [hmin x hx.1 (by omega)]; simp
  rw [e1, List.nil_append]
  congr 1
  have e2 : List.range' (p + 1) (l.length - p) = (List.range' 1 (l.length - p)).map fun d => p + d := by
    rw [List.map_add_range']
  rw [e2, List.filter_map]
  congr 1
  refine List.filter_congr fun d hd => ?_
  rw [List.mem_range'_1] at hd
  simp only [Function.comp]
  exact (take_per hp h (by omega)).symm
def okS (n p : Nat) (Q : List Nat) : Bool := decide (n < 2 * p) || (Q.any (fun d => Nat.beq d p) && Q.all fun d => decide (p ≤ d) || decide (n - p + Nat.gcd p d < p + d))
def setsP : Nat → List (List (List Nat))
  | 0 => [[[]]]
  | n + 1 => (setsP n) ++ [(List.range' 1 (n + 1)).flatMap fun p => (((setsP n).getD (n + 1 - p) []).filter (okS (n + 1) p)).map fun Q => p :: Q.map fun d => p + d]
theorem setsP_len : ∀ n, (setsP n).length = n + 1 := by
  intro n
  induction n with
  | zero => rfl
  | succ n ih => simp [setsP, ih]
theorem setsP_get : ∀ {n m : Nat}, m ≤ n → (setsP n).getD m [] = (setsP m).getD m [] := by
  intro n
  induction n with
  | zero => intro m h; have : m = 0 := by omega
            subst this; rfl
  | succ n ih =>
    intro m h
    by_cases hm : m = n + 1
    · subst hm; rfl
    · have := setsP_len n
      have e : (setsP (n + 1)).getD m [] = (setsP n).getD m [] := by
        rw [setsP, List.getD_eq_getElem?_getD, List.getD_eq_getElem?_getD, List.getElem?_append_left (by omega)]
      rw [e]; exact ih (by omega)
theorem perN_nil : perN [] = [] := rfl
theorem perN_sets : ∀ (n : Nat) (l : List UInt8), l.length = n → perN l ∈ (setsP n).getD n [] := by
  intro n
  induction n using Nat.strongRecOn with
  | _ n ih =>
    intro l hl
    cases n with
    | zero =>
      have : l = [] := List.length_eq_zero_iff.1 hl
      subst this
      rw [perN_nil]
      simp [setsP]
    | succ n =>
      have hne : l ≠ [] := by rintro rfl; simp at hl
      obtain ⟨p, p0, p1, p2, p3, p4⟩ := first_per hne
      have hs := perN_split p1 p2 p3 p4
      have hlen : (l.take (l.length - p)).length = n + 1 - p := by simp; omega
      have hq := ih (n + 1 - p) (by omega) _ hlen
      have hg := setsP_len n
      rw [setsP, List.getD_eq_getElem?_getD, List.getElem?_append_right (by omega), hg, Nat.sub_self]
      simp only [List.getElem?_cons_zero, Option.getD_some]
      rw [List.mem_flatMap]
      refine ⟨p, by rw [List.mem_range'_1]; omega, ?_⟩
      rw [hs, List.mem_map]
      refine ⟨perN (l.take (l.length - p)), ?_, rfl⟩
      rw [List.mem_filter, setsP_get (by omega)]
      refine ⟨hq, ?_⟩
      unfold okS
      by_cases h2 : n + 1 < 2 * p
      · rw [decide_eq_true h2]; rfl
      · rw [decide_eq_false h2, Bool.false_or, Bool.and_eq_true]
        have hper := isP_per.1 p3
        have hu : ∀ d, isP (l.take (l.length - p)) d = true → Per (fun i => l[i]?) (l.length - p) d := by
          intro d hd i hi
          have := isP_per.1 hd i (by rw [hlen]; omega)
          simp only at this
          rw [List.getElem?_take_of_lt (by omega), List.getElem?_take_of_lt (by omega)] at this
          exact this
        constructor
        · rw [List.any_eq_true]
          refine ⟨p, perN_mem.2 ⟨⟨p1, by omega⟩, ?_⟩, Nat.beq_refl p⟩
          rw [isP_per]
          intro i hi
          rw [hlen] at hi
          simp only
          rw [List.getElem?_take_of_lt (by omega), List.getElem?_take_of_lt (by omega)]
          exact hper i (by omega)
        · rw [List.all_eq_true]
          intro d hd
          obtain ⟨⟨d1, d2⟩, d3⟩ := perN_mem.1 hd
          by_cases hdp : p ≤ d
          · rw [decide_eq_true hdp]; rfl
          · rw [decide_eq_false hdp, Bool.false_or]
            refine decide_eq_true ?_
            by_cases hlt : n + 1 - p + Nat.gcd p d < p + d
            · exact hlt
            · exfalso
              have hg1 : 1 ≤ Nat.gcd p d := Nat.gcd_pos_of_pos_left _ p1
              have hg2 : Nat.gcd p d ≤ d := Nat.gcd_le_right _ d1
              have := fine_wilf (p + d) (l.length - p) p d (Nat.le_refl _) p1 d1 (by omega) (hper.less (by omega)) (hu d d3)
              have hgr := Per.grow hg1 (Nat.gcd_dvd_left _ _) p1 (by omega) hper this
              have := p4 _ hg1 (by omega)
              rw [isP_per.2 hgr] at this
              cases this
def binW : Nat → Nat → List UInt8
  | 0, _ => []
  | n + 1, x => (if x / 2 ^ n % 2 = 1 then 98 else 97) :: binW n x
theorem binW_len : ∀ {n x : Nat}, (binW n x).length = n := by
  intro n
  induction n with
  | zero => intro x; rfl
  | succ n ih => intro x; simp [binW, ih]
theorem binW_get : ∀ {n x i : Nat}, i < n → (binW n x)[i]? = some (if x / 2 ^ (n - 1 - i) % 2 = 1 then 98 else 97) := by
  intro n
  induction n with
  | zero => intro x i h; omega
  | succ n ih =>
    intro x i h
    cases i with
    | zero => simp [binW]
    | succ i =>
      rw [binW, List.getElem?_cons_succ, ih (by omega)]
      rw [show n + 1 - 1 - (i + 1) = n - 1 - i by omega]
theorem binW_abc {n x : Nat} : Abc (binW n x) := by
  induction n with
  | zero => intro b hb; cases hb
  | succ n ih =>
    intro b hb
    rw [binW] at hb
    rcases List.mem_cons.1 hb with rfl | hb
    · split <;> simp
    · exact ih b hb
def wit : List (List Nat) := [[0], [0], [0, 1], [0, 2, 1], [0, 5, 2, 1], [0, 10, 4, 9, 2, 1], [0, 21, 18, 9, 4, 17, 2, 1], [0, 42, 18, 8, 34, 17, 4, 33, 2, 1], [0, 85, 36, 73, 34, 17, 8, 66, 33, 4, 65, 2, 1], [0, 170, 146, 73, 68, 34, 16, 165, 66, 33, 8, 130, 65, 4, 129, 2, 1], [0, 341, 146, 68, 273, 330, 132, 297, 66, 33, 16, 325, 130, 65, 8, 258, 129, 4, 257, 2, 1], [0, 682, 292, 585, 136, 546, 273, 594, 132, 66, 32, 650, 260, 617, 130, 65, 16, 645, 258, 129, 8, 514, 257, 4, 513, 2, 1], [0, 1365, 1170, 585, 546, 273, 264, 132, 1057, 260, 1105, 130, 65, 32, 1290, 516, 1161, 258, 129, 16, 1285, 514, 257, 8, 1026, 513, 4, 1025, 2, 1], [0, 2730, 1170, 1092, 546, 264, 2114, 1057, 520, 2210, 260, 130, 64, 2709, 2322, 1161, 516, 2193, 258, 129, 32, 2570, 1028, 2313, 514, 257, 16, 2565, 1026, 513, 8, 2050, 1025, 4, 2049, 2, 1], [0, 5461, 2340, 4681, 1092, 4369, 528, 5285, 2114, 1057, 520, 260, 4161, 5418, 2322, 1032, 4386, 2193, 516, 4257, 258, 129, 64, 5397, 4626, 2313, 1028, 4433, 514, 257, 32, 5130, 2052, 4617, 1026, 513, 16, 5125, 2050, 1025, 8, 4098, 2049, 4, 4097, 2, 1]]
theorem wit_ok : ((List.range 15).all fun n => ((setsP 14).getD n []).all fun Q => (wit.getD n []).any fun x => decide (x < 2 ^ n) && decide (perN (binW n x) = Q)) = true := by decide +kernel
theorem bin_ex {l : List UInt8} (h : l.length ≤ 14) : ∃ x, x < 2 ^ l.length ∧ perN (binW l.length x) = perN l := by
  have hs := perN_sets l.length l rfl
  rw [← setsP_get h] at hs
  have hw := List.all_eq_true.1 wit_ok l.length (List.mem_range.2 (by omega))
  have hq := List.all_eq_true.1 hw _ hs
  obtain ⟨x, _, hx⟩ := List.any_eq_true.1 hq
  rw [Bool.and_eq_true] at hx
  exact ⟨x, of_decide_eq_true hx.1, of_decide_eq_true hx.2⟩
theorem plain_ex {l : List UInt8} (h : l.length ≤ 14) : ∃ x, (x < 2 ^ l.length ∧ perN (binW l.length x) = perN l) ∧ ∀ y, y < x → perN (binW l.length y) ≠ perN l := by
  obtain ⟨x, h1, h2⟩ := bin_ex h
  have : ∀ m, perN (binW l.length m) = perN l → ∃ k, k ≤ m ∧ perN (binW l.length k) = perN l ∧ ∀ y, y < k → perN (binW l.length y) ≠ perN l := by
    intro m
    induction m using Nat.strongRecOn with
    | _ m ih =>
      intro hm
      by_cases hh : ∃ y, y < m ∧ perN (binW l.length y) = perN l
      · obtain ⟨y, y1, y2⟩ := hh
        obtain ⟨k, k1, k2, k3⟩ := ih y y1 y2
        exact ⟨k, by omega, k2, k3⟩
      · exact ⟨m, Nat.le_refl _, hm, fun y hy he => hh ⟨y, hy, he⟩⟩
  obtain ⟨k, k1, k2, k3⟩ := this x h2
  exact ⟨k, ⟨by omega, k2⟩, k3⟩
end Go.Vc
namespace Go.Vc
open Go.Proofs
set_option linter.unusedVariables false
set_option linter.unnecessarySimpa false
set_option linter.unusedSimpArgs false
set_option linter.unusedSimpArgs false
set_option maxRecDepth 100000
theorem bit_and {m : Nat} (h : m < 4611686018427387904) : bitsI .and .i64 (m : Int) (1 : Int) = ((m % 2 : Nat) : Int) := by
  have e : (BitVec.ofInt 64 (m : Int) &&& BitVec.ofInt 64 1).toNat = m % 2 := by
    rw [BitVec.toNat_and, BitVec.ofInt_natCast, show (1 : Int) = ((1 : Nat) : Int) from rfl, BitVec.ofInt_natCast, BitVec.toNat_ofNat, BitVec.toNat_ofNat, Nat.mod_eq_of_lt (show m < 2 ^ 64 by omega), Nat.mod_eq_of_lt (show 1 < 2 ^ 64 by omega), Nat.and_one_is_mod]
  have e2 : bitsI .and .i64 (m : Int) (1 : Int) = IntKind.i64.wrap ((m % 2 : Nat) : Int) := congrArg (fun k : Nat => IntKind.i64.wrap (k : Int)) e
  rw [e2]
  exact wrap_id (by have := Nat.mod_lt m (show 2 > 0 by omega); simp [IntKind.min, IntKind.max, IntKind.signed, IntKind.bits]; omega)
theorem bit_shift {x i : Nat} (hi : i ≤ 60) (hx : x < 1000000) : bitsI .and .i64 (Int.fdiv (x : Int) (2 ^ (min (Int.toNat (i : Int)) 64))) (1 : Int) = ((x / 2 ^ i % 2 : Nat) : Int) := by
  rw [Int.toNat_natCast, show min i 64 = i by omega]
  have e : Int.fdiv (x : Int) (2 ^ i) = ((x / 2 ^ i : Nat) : Int) := by
    have : (2 : Int) ^ i = ((2 ^ i : Nat) : Int) := by simp
    rw [this, Int.fdiv_eq_ediv_of_nonneg _ (Int.natCast_nonneg _)]; rfl
  rw [e, bit_and (by have := Nat.div_le_self x (2 ^ i); omega)]
def bitV (n x j : Nat) : Nat := 97 + x / 2 ^ (n - 1 - j) % 2
theorem wrap_bit {x i : Nat} (hi : i ≤ 60) (hx : x < 1000000) : Wk .u8 (W ((97 : Int) + (bitsI .and .i64 (Int.fdiv (x : Int) (2 ^ (min (Int.toNat (i : Int)) 64))) (1 : Int)))) = ((97 + x / 2 ^ i % 2 : Nat) : Int) := by
  rw [bit_shift hi hx]
  have := Nat.mod_lt (x / 2 ^ i) (show 2 > 0 by omega)
  generalize x / 2 ^ i % 2 = r at *
  rw [W_of (by omega) (by omega), Wk_of (by simp [IntKind.min, IntKind.max, IntKind.signed, IntKind.bits]; omega)]; omega
def fill (n x : Nat) (P : Nat → Bool) : List Int := (List.range n).map fun j => if P j = true then (bitV n x j : Int) else 0
theorem fill_len {n x : Nat} {P : Nat → Bool} : (fill n x P).length = n := by simp [fill]
theorem fill_get {n x j : Nat} {P : Nat → Bool} (h : j < n) : (fill n x P)[j]? = some (if P j = true then (bitV n x j : Int) else 0) := by
  unfold fill
  rw [List.getElem?_map, List.getElem?_range h]; rfl
theorem fill_set {n x j : Nat} {P Q : Nat → Bool} (h : j < n) (hQ : ∀ i, i < n → Q i = (decide (i = j) || P i)) : (fill n x P).set j (bitV n x j : Int) = fill n x Q := by
  refine List.ext_getElem? fun i => ?_
  by_cases hi : i < n
  · rw [fill_get hi, hQ i hi]
    by_cases hij : i = j
    · subst hij
      rw [List.getElem?_set_self (by rw [fill_len]; exact h)]; simp
    · rw [List.getElem?_set_ne (by omega), fill_get hi]; simp [hij]
  · rw [List.getElem?_eq_none (by simp [fill_len]; omega), List.getElem?_eq_none (by rw [fill_len]; omega)]
theorem fill_none {n x : Nat} : List.replicate n (0 : Int) = fill n x fun _ => false := by
  refine List.ext_getElem? fun i => ?_
  by_cases hi : i < n
  · rw [fill_get hi, List.getElem?_replicate, if_pos hi]; rfl
  · rw [List.getElem?_eq_none (by simp; omega), List.getElem?_eq_none (by rw [fill_len]; omega)]
theorem fillB_all {n x : Nat} {P : Nat → Bool} (hn : n ≤ 100) (h : ∀ i, i < n → P i = true) : strOf (fill n x P) = some (strC (binW n x)) := by
  unfold strOf
  rw [if_pos (by rw [fill_len]; simp [maxLen]; omega)]
  show some (strC _) = _
  congr 2
  refine List.ext_getElem? fun i => ?_
  by_cases hi : i < n
  · rw [List.getElem?_map, fill_get hi, binW_get hi, h i hi]
    simp only [if_true, Option.map_some, Int.toNat_natCast, Option.some.injEq]
    unfold bitV
    rcases (by omega : x / 2 ^ (n - 1 - i) % 2 = 0 ∨ x / 2 ^ (n - 1 - i) % 2 = 1) with h | h <;> rw [h] <;> decide
  · rw [List.getElem?_eq_none (by simp [fill_len]; omega), List.getElem?_eq_none (by rw [binW_len]; omega)]
theorem pow_shift {n : Nat} (h : n ≤ 20) : W ((1 : Int) * 2 ^ (min (Int.toNat (n : Int)) 64)) = ((2 ^ n : Nat) : Int) := by
  rw [Int.toNat_natCast, show min n 64 = n by omega, Int.one_mul]
  have e : (2 : Int) ^ n = ((2 ^ n : Nat) : Int) := by simp
  have hp : 2 ^ n ≤ 2 ^ 20 := Nat.pow_le_pow_right (by omega) h
  rw [e]
  generalize 2 ^ n = m at *
  exact W_of (by omega) (by omega)
theorem mkS_fill {n x : Nat} (h : n ≤ 100) : mkS 1 (0 : Int) (n : Int) (n : Int) = some (fill n x fun _ => false) := by
  unfold mkS
  rw [if_pos ⟨by omega, by omega, by omega⟩, Int.toNat_natCast, fill_none]
theorem f55_eq {a b : List Int} {N : Nat} (ha : a.length ≤ 1000) (hN : a.length < N) : f55 N a b = some (decide (a = b)) := by
  unfold f55
  by_cases h : a.length = b.length
  · simp only [h, not_true, decide_false, cond_false, joinK]
    rw [loop_ex0 (F := f55_4 a b f55_c9) (k0 := f55_c9) (e := some false) (p := fun i => ∃ (h1 : i < a.length) (h2 : i < b.length), a[i] ≠ b[i]) a.length]
    · by_cases hx : ∃ j, j < a.length ∧ ∃ (h1 : j < a.length) (h2 : j < b.length), a[j] ≠ b[j]
      · rw [if_pos hx]
        obtain ⟨j, _, h1, h2, h3⟩ := hx
        rw [decide_eq_false]
        rintro rfl; exact h3 rfl
      · rw [if_neg hx, decide_eq_true]; rfl
        refine List.ext_getElem h fun i h1 h2 => ?_
        by_cases he : a[i] = b[i]
        · exact he
        · exact absurd ⟨i, h1, h1, h2, he⟩ hx
    · intro n i hi
      conv => lhs; unfold f55_4 f55_4b
      simp only [show (i : Int) < (a.length : Int) by omega, decide_true, cond_true, ix_get hi, ix_get (show i < b.length by omega), Option.bind_some]
      rw [W_nat (by omega)]
      by_cases he : a[i] = b[i]
      · rw [if_neg (by rintro ⟨_, _, h⟩; exact h he)]; simp [he]
      · rw [if_pos ⟨hi, by omega, he⟩]; simp [he]
    · intro n
      conv => lhs; unfold f55_4 f55_4b
      simp
    · exact hN
  · have : ¬ (a.length : Int) = (b.length : Int) := by omega
    simp only [this, not_false_eq_true, decide_true, cond_true]
    rw [decide_eq_false]
    rintro rfl; exact h rfl
theorem f27_bits {l : List UInt8} {x2 : List Int} {x : Nat} {x3 : List Int} {k2 : List Int → Option (ByteArray × Int)} (hl : l.length ≤ 14) (hx : x < 1000000) (hx3 : x3.length = l.length) :
    ∀ (m i : Nat), i ≤ l.length → l.length - i < m → f27_12 (strC l) x2 (x : Int) x3 k2 m (fill l.length x fun j => decide (l.length - i ≤ j)) (i : Int) = k2 (fill l.length x fun j => decide (l.length - l.length ≤ j)) := by
  intro m
  induction m with
  | zero => intro i _ h; omega
  | succ m ih =>
    intro i hi hm
    unfold f27_12 f27_12b
    rw [hx3, fill_len]
    by_cases h : i < l.length
    · have hc : chk (decide (0 ≤ (i : Int))) = some () := by rw [decide_eq_true (by omega)]; rfl
      simp only [show (i : Int) < (l.length : Int) by omega, decide_true, cond_true, hc, Option.bind_some]
      have hw : W (W ((l.length : Int) - 1) - (i : Int)) = ((l.length - 1 - i : Nat) : Int) := by
        rw [W_of (n := (l.length : Int) - 1) (by omega) (by omega), W_of (by omega) (by omega)]; omega
      rw [hw, ix_nat, fill_get (by omega)]
      simp only [Option.bind_some]
      rw [wrap_bit (by omega) hx]
      have hs : setx (fill l.length x fun j => decide (l.length - i ≤ j)) ((l.length - 1 - i : Nat) : Int) ((97 + x / 2 ^ i % 2 : Nat) : Int) = some (fill l.length x fun j => decide (l.length - (i + 1) ≤ j)) := by
        unfold setx
        rw [if_pos ⟨by omega, by rw [fill_len]; omega⟩, Int.toNat_natCast]
        congr 1
        have hb : 97 + x / 2 ^ i % 2 = bitV l.length x (l.length - 1 - i) := by
          unfold bitV
          rw [show l.length - 1 - (l.length - 1 - i) = i by omega]
        rw [hb]
        refine fill_set (by omega) fun j hj => ?_
        by_cases hji : j = l.length - 1 - i
        · rw [decide_eq_true hji, decide_eq_true (by omega)]; rfl
        · rw [decide_eq_false hji, Bool.false_or]
          exact decide_eq_decide.2 ⟨fun h => by omega, fun h => by omega⟩
      rw [hs, Option.bind_some, W_nat (by omega)]
      exact ih (i + 1) (by omega) (by omega)
    · have : i = l.length := by omega
      subst this
      simp only [Int.lt_irrefl, decide_false, cond_false]
noncomputable def plainX (l : List UInt8) (h : l.length ≤ 14) : Nat := Classical.choose (plain_ex h)
theorem plainX_spec (l : List UInt8) (h : l.length ≤ 14) : (plainX l h < 2 ^ l.length ∧ perN (binW l.length (plainX l h)) = perN l) ∧ ∀ y, y < plainX l h → perN (binW l.length y) ≠ perN l := Classical.choose_spec (plain_ex h)
theorem pow14 {n : Nat} (h : n ≤ 14) : 2 ^ n ≤ 16384 := Nat.pow_le_pow_right (n := 2) (by omega) h
noncomputable def plainR (l : List UInt8) : ByteArray × Int := if chk8 l ≠ 0 then (emptyS, chk8 l) else if h : l.length ≤ 14 then (strC (binW l.length (plainX l h)), 0) else (emptyS, 16)
theorem f27_eq {l : List UInt8} {N : Nat} (hN : 17000 ≤ N) : f27 N (strC l) = some (plainR l) := by
  unfold f27 plainR
  rw [f23_eq (by omega), Option.bind_some]
  by_cases h0 : chk8 l = 0
  · simp only [h0, not_true, decide_false, cond_false, ne_eq, if_false, strC_size]
    by_cases h14 : l.length ≤ 14
    · have hlen := chk8_len h0
      rw [dif_pos h14, decide_eq_false (show ¬ (14 : Int) < (l.length : Int) by omega), cond_false, f47_eq (by omega)]
      have hc : chk (decide (0 ≤ (l.length : Int))) = some () := by rw [decide_eq_true (by omega)]; rfl
      simp only [Option.bind_some, joinK, hc]
      obtain ⟨⟨s1, s2⟩, s3⟩ := plainX_spec l h14
      have hp := pow14 h14
      -- one round
      have round : ∀ (r8 : Int → Option (ByteArray × Int)) (x : Nat), x < 2 ^ l.length → f27_8b r8 (strC l) N (toI (perN l)) (f27_c19 (strC l)) (x : Int) = if perN (binW l.length x) = perN l then some (strC (binW l.length x), 0) else r8 ((x + 1 : Nat) : Int) := by
        intro r8 x hx
        unfold f27_8b
        rw [strC_size, pow_shift (by omega), decide_eq_true (show (x : Int) < ((2 ^ l.length : Nat) : Int) by omega), cond_true, mkS_fill (x := x) (by omega)]
        simp only [joinK, Option.bind_some]
        have hb := f27_bits (l := l) (x2 := toI (perN l)) (x := x) (x3 := fill l.length x fun _ => false) (k2 := f27_c16 (strC l) N (toI (perN l)) (x : Int) (f27_c18 (strC l) (toI (perN l)) (x : Int) r8)) h14 (by omega) fill_len N 0 (by omega) (by omega)
        have e0 : (fill l.length x fun j => decide (l.length - 0 ≤ j)) = fill l.length x fun _ => false := by
          unfold fill
          refine List.map_congr_left fun j hj => ?_
          have := List.mem_range.1 hj
          have hn : ¬ l.length - 0 ≤ j := by omega
          simp only [hn, decide_false]
        rw [e0] at hb
        rw [show (0 : Int) = ((0 : Nat) : Int) from rfl, hb]
        unfold f27_c16 f27_c18
        rw [fillB_all (by omega) (fun i hi => decide_eq_true (show l.length - l.length ≤ i by omega))]
        simp only [Option.bind_some]
        rw [f47_eq (by rw [binW_len]; omega)]
        simp only [Option.bind_some]
        have hpl := perN_len (l := binW l.length x)
        rw [binW_len] at hpl
        rw [f55_eq (by rw [toI_len]; omega) (by rw [toI_len]; omega)]
        simp only [Option.bind_some, toI_inj]
        by_cases he : perN (binW l.length x) = perN l
        · rw [if_pos he, decide_eq_true he]; rfl
        · rw [if_neg he, decide_eq_false he, cond_false, W_nat (by omega)]
      obtain ⟨j, _, j2, j3, j4, j5⟩ := loop_find1 (F := f27_8 (strC l) N (toI (perN l)) (f27_c19 (strC l))) (k := fun (x : Nat) => some (strC (binW l.length x), 0)) (p := fun x => perN (binW l.length x) = perN l) 0 (plainX l h14) s2
        (fun n i _ hi hne => by
          show f27_8b _ _ _ _ _ _ = _
          rw [round _ i (by omega), if_neg hne])
        (fun n i _ hi he => by
          show f27_8b _ _ _ _ _ _ = _
          rw [round _ i (by omega), if_pos he]) N 0 (Nat.le_refl _) (Nat.zero_le _) (by omega)
      rw [show ((0 : Nat) : Int) = 0 from rfl] at j5
      rw [j5]
      have : j = plainX l h14 := by
        rcases Nat.lt_trichotomy j (plainX l h14) with hh | hh | hh
        · exact absurd j3 (s3 j hh)
        · exact hh
        · omega
      rw [this]
    · rw [dif_neg h14, decide_eq_true (show (14 : Int) < (l.length : Int) by omega)]; rfl
  · simp [h0]
end Go.Vc
namespace Go.Vc
open Go.Proofs
set_option linter.unusedVariables false
set_option linter.unnecessarySimpa false
set_option linter.unusedSimpArgs false
set_option linter.unusedSimpArgs false
set_option maxRecDepth 100000
theorem t15_17000 : f15 17000 = some true := by decide +kernel
theorem perN_iff {l m : List UInt8} (h : l.length = m.length) : perN l = perN m ↔ ∀ p, 1 ≤ p → p ≤ l.length → isP l p = isP m p := by
  constructor
  · intro e p h1 h2
    have a : p ∈ perN l ↔ isP l p = true := by rw [perN_mem]; exact ⟨fun h => h.2, fun h => ⟨⟨h1, h2⟩, h⟩⟩
    have b : p ∈ perN m ↔ isP m p = true := by rw [perN_mem]; exact ⟨fun h => h.2, fun hh => ⟨⟨h1, by omega⟩, hh⟩⟩
    rw [e, b] at a
    cases h1 : isP l p with
    | true => exact (a.2 h1).symm
    | false =>
      cases h2 : isP m p with
      | false => rfl
      | true => rw [a.1 h2] at h1; cases h1
  · intro e
    unfold perN
    rw [h]
    refine List.filter_congr fun p hp => ?_
    rw [List.mem_range'_1] at hp
    exact e p hp.1 (by omega)
theorem ab_bits {l : List UInt8} {x2 : ByteArray × Int} {x : Nat} {k3 : ByteArray → Option Bool} (hx : x < 1000000) {n : Nat} (hn : n ≤ 14) :
    ∀ (m i : Nat), i ≤ n → i < m → f10_12 (strC l) x2 (x : Int) k3 m (strC ((binW n x).take (n - i))) ((i : Int) - 1) = k3 (strC (binW n x)) := by
  intro m
  induction m with
  | zero => intro i _ h; omega
  | succ m ih =>
    intro i hi hm
    unfold f10_12 f10_12b
    by_cases h : 0 < i
    · have hi1 : ((i : Int) - 1) = ((i - 1 : Nat) : Int) := by omega
      rw [hi1]
      have hc : chk (decide (0 ≤ ((i - 1 : Nat) : Int))) = some () := by rw [decide_eq_true (by omega)]; rfl
      have hg := binW_get (n := n) (x := x) (i := n - i) (by omega)
      rw [show n - 1 - (n - i) = i - 1 by omega] at hg
      rw [decide_eq_true (show (0 : Int) ≤ ((i - 1 : Nat) : Int) by omega), cond_true, show chk true = some () from rfl, Option.bind_some, bit_shift (by omega) hx]
      have e : ((subS (strC [97, 98]) ((x / 2 ^ (i - 1) % 2 : Nat) : Int) ((strC [97, 98]).size : Int)).bind fun x => subS x 0 1) = some (strC [if x / 2 ^ (i - 1) % 2 = 1 then 98 else 97]) := by
        rcases (by omega : x / 2 ^ (i - 1) % 2 = 0 ∨ x / 2 ^ (i - 1) % 2 = 1) with h | h <;> rw [h] <;> rfl
      have hlen : (binW n x).length = n := binW_len
      rw [bind2 e, addS_L (by simp; omega), Option.bind_some, W_of (by omega) (by omega)]
      have ht : (binW n x).take (n - i) ++ [if x / 2 ^ (i - 1) % 2 = 1 then 98 else 97] = (binW n x).take (n - (i - 1)) := by
        rw [show n - (i - 1) = (n - i) + 1 by omega, List.take_succ_eq_append_getElem (by omega)]
        congr 2
        rw [List.getElem?_eq_getElem (by omega)] at hg
        exact (Option.some.inj hg).symm
      rw [ht]
      exact ih (i - 1) (by omega) (by omega)
    · have : i = 0 := by omega
      subst this
      rw [decide_eq_false (by omega), cond_false, Nat.sub_zero, List.take_of_length_le (by rw [binW_len]; exact Nat.le_refl _)]
open Classical in
theorem same_loop {N : Nat} {l t : List UInt8} {k1 k2 : Option Bool} (hl : l.length ≤ 24) (ht : t.length = l.length) (ha : l.all okb = true) (hb : t.all okb = true) (hN : 60 ≤ N) :
    ∀ (m p : Nat), 1 ≤ p → p ≤ l.length + 1 → l.length + 1 - p < m → f10_i1502_2 N (strC l) k1 (strC t) k2 m (p : Int) = if (∀ d, p ≤ d → d ≤ l.length → isP l d = isP t d) then k2 else k1 := by
  intro m
  induction m with
  | zero => intro p _ _ h; omega
  | succ m ih =>
    intro p h1 hp hm
    unfold f10_i1502_2 f10_i1502_2b
    by_cases h : p ≤ l.length
    · rw [strC_size, decide_eq_true (show (p : Int) ≤ (l.length : Int) by omega), cond_true, f38_eq (by omega) ha (by omega), Option.bind_some, f38_eq (by omega) hb (by omega), Option.bind_some]
      rw [decide_eq_true ⟨h1, h⟩, decide_eq_true (show 1 ≤ p ∧ p ≤ t.length by omega), Bool.true_and, Bool.true_and]
      by_cases he : isP l p = isP t p
      · rw [he, beq_self_eq_true, Bool.not_true, cond_false, W_nat (by omega), ih (p + 1) (by omega) (by omega) (by omega)]
        refine iffD ⟨fun hh d d1 d2 => ?_, fun hh d d1 d2 => hh d (by omega) d2⟩
        by_cases hd : d = p
        · subst hd; exact he
        · exact hh d (by omega) d2
      · rw [if_neg fun hh => he (hh p (Nat.le_refl _) h)]
        have : (isP l p == isP t p) = false := by
          cases h1 : isP l p <;> cases h2 : isP t p <;> simp_all
        rw [this]; rfl
    · rw [strC_size, decide_eq_false (show ¬ (p : Int) ≤ (l.length : Int) by omega), cond_false, if_pos fun d d1 d2 => by omega]
theorem f10_true (a0 : List Int) (hw : ∀ x ∈ a0, 0 ≤ x) : f10 17000 a0 = some true := by
  unfold f10
  obtain ⟨l, e, l1, l2, l3⟩ := f41_eq (w := a0) (m := 11) (N := 17000) (by omega) (by omega) hw (by omega)
  have h0 := l3.chk l1 (by omega)
  have h14 : l.length ≤ 14 := by omega
  rw [show ((11 : Nat) : Int) = 11 from rfl] at e
  rw [e, Option.bind_some, f27_eq (by omega), Option.bind_some]
  have hR : plainR l = (strC (binW l.length (plainX l h14)), 0) := by
    unfold plainR; rw [if_neg (by simp [h0]), dif_pos h14]
  obtain ⟨⟨s1, s2⟩, s3⟩ := plainX_spec l h14
  have hp := pow14 h14
  rw [hR]
  simp only [not_true, decide_false, cond_false, strC_size, binW_len, joinK]
  have round : ∀ (r8 : Int → Option Bool) (x : Nat), x < 2 ^ l.length → f10_8b r8 17000 (strC l) (strC (binW l.length (plainX l h14)), 0) f10_c17 (x : Int) =
      if perN (binW l.length x) = perN l then f10_i1502_c6 17000 (strC l) (strC (binW l.length (plainX l h14)), 0) (strC (binW l.length x)) else r8 ((x + 1 : Nat) : Int) := by
    intro r8 x hx
    unfold f10_8b
    have hc : chk (decide (0 ≤ ((strC l).size : Int))) = some () := by rw [decide_eq_true (by omega)]; rfl
    rw [hc, Option.bind_some, strC_size, pow_shift (by omega), decide_eq_true (show (x : Int) < ((2 ^ l.length : Nat) : Int) by omega), cond_true]
    simp only [joinK]
    rw [W_of (by omega) (by omega), emptyS_eq]
    have hb := ab_bits (l := l) (x2 := (strC (binW l.length (plainX l h14)), 0)) (x := x) (k3 := f10_c15 17000 (strC l) (strC (binW l.length (plainX l h14)), 0) (x : Int) (f10_c9 (strC l) (strC (binW l.length (plainX l h14)), 0) (x : Int) r8)) (by omega) (n := l.length) h14 17000 l.length (Nat.le_refl _) (by omega)
    rw [Nat.sub_self, List.take_zero] at hb
    rw [hb]
    unfold f10_c15
    simp only [joinK]
    have hs := same_loop (N := 17000) (l := l) (t := binW l.length x) (k1 := f10_c9 (strC l) (strC (binW l.length (plainX l h14)), 0) (x : Int) r8) (k2 := f10_i1502_c6 17000 (strC l) (strC (binW l.length (plainX l h14)), 0) (strC (binW l.length x))) (by omega) binW_len l3.ok binW_abc.ok (by omega) 17000 1 (by omega) (by omega) (by omega)
    rw [show ((1 : Nat) : Int) = 1 from rfl] at hs
    rw [hs]
    by_cases he : perN (binW l.length x) = perN l
    · rw [if_pos he, if_pos fun d d1 d2 => ((perN_iff binW_len.symm).1 he.symm) d d1 d2]
    · rw [if_neg he, if_neg fun hh => he ((perN_iff binW_len.symm).2 fun p p1 p2 => hh p p1 p2).symm]
      unfold f10_c9
      rw [W_nat (by omega)]
  obtain ⟨j, _, j2, j3, j4, j5⟩ := loop_find1 (F := f10_8 17000 (strC l) (strC (binW l.length (plainX l h14)), 0) f10_c17) (k := fun (x : Nat) => f10_i1502_c6 17000 (strC l) (strC (binW l.length (plainX l h14)), 0) (strC (binW l.length x))) (p := fun x => perN (binW l.length x) = perN l) 0 (plainX l h14) s2
    (fun n i _ hi hne => by
      show f10_8b _ _ _ _ _ _ = _
      rw [round _ i (by omega), if_neg hne])
    (fun n i _ hi he => by
      show f10_8b _ _ _ _ _ _ = _
      rw [round _ i (by omega), if_pos he]) 17000 0 (Nat.le_refl _) (Nat.zero_le _) (by omega)
  rw [show ((0 : Nat) : Int) = 0 from rfl] at j5
  rw [j5]
  have : j = plainX l h14 := by
    rcases Nat.lt_trichotomy j (plainX l h14) with hh | hh | hh
    · exact absurd j3 (s3 j hh)
    · exact hh
    · omega
  rw [this]
  unfold f10_i1502_c6
  rw [t15_17000]
  simp
end Go.Vc
namespace Go.Vc
set_option linter.unusedVariables false
set_option linter.unnecessarySimpa false
set_option linter.unusedSimpArgs false
set_option linter.unusedSimpArgs false
abbrev tB : Ty := .int .u8
abbrev tBytes : Ty := .slice tB false 1
def u8In (n : Int) : Prop := 0 ≤ n ∧ n ≤ 255
theorem tB_of {ds : List D} (h : tB.has ds) : ∃ n, ds = [u8N n] ∧ u8In n := by
  simp only [tB, Ty.has] at h
  obtain ⟨n, rfl, h⟩ := h
  exact ⟨n, rfl, by simpa [IntKind.min, IntKind.max, IntKind.signed, IntKind.bits, u8In] using h⟩
theorem bytes_of {ds : List D} (h : tBytes.has ds) : ∃ l : List Int, ds = [sl_u8N l] ∧ ∀ x, x ∈ l → u8In x := by
  obtain ⟨l, h1, _, h3⟩ := slice_of (d := u8N) (p := u8In) (fun cs hc => by
    obtain ⟨n, rfl, h⟩ := tB_of hc
    exact ⟨n, rfl, h⟩) h
  exact ⟨l, h1, h3⟩
theorem bytes_ofD {x : D} (h : tBytes.hasD x) : ∃ l : List Int, x = sl_u8N l ∧ ∀ x, x ∈ l → u8In x := by
  obtain ⟨n, h1, h2⟩ := bytes_of (ds := [x]) h
  exact ⟨n, List.singleton_inj.1 h1, h2⟩
end Go.Vc

/-
  A library for proofs about Go functions by symbolic evaluation, and plain Lean functions that the walked Go functions compute (written by a program of this claim).
-/
import Derived.Test.YtnbefdolkolaiaaW1
import Derived.Test.YtnbefdolkolaiaaW3
import Derived.Test.YtnbefdolkolaiaaVc3
namespace Go.Vc
open Go.Proofs
set_option linter.unusedVariables false
set_option linter.unnecessarySimpa false
set_option linter.unusedSimpArgs false
section
variable {c : Ctx} {p nid : Nat} {a b : Code} {st : St} {K : Ex → St → Prop}
def f38_c6 (a0 : ByteArray) (a1 : Int) : Option (Bool) :=
 bif decide ((1 : Int) ≤ a1) then (some (decide (a1 ≤ (ByteArray.size a0 : Int))))
 else (some (false))
def Lf38_c6 (a0 : ByteArray) (a1 : Int) : Lp (Unit) Unit (Bool) := lp0 ⟨[0, 1], [], [], []⟩ (fun _ => [.dat (strN a0), .dat (iN a1)]) (fun _ => []) (fun _ => f38_c6 a0 a1)
theorem Ef38_c6 {a0 a1} : (Lf38_c6 a0 a1).E () = f38_c6 a0 a1 := rfl
def f38_2b (r2 : Nat → Option (Bool)) (a0 : ByteArray) (a1 : Int) (k0 : Option (Bool)) (p101 : Nat) : Option (Bool) :=
 bif decide (p101 < ByteArray.size a0) then ((some (runeAt a0 p101)).bind fun x1 =>
 bif decide (a1 ≤ (((p101 : Nat) : Int) : Int)) then ((idxS a0 (((p101 : Nat) : Int) : Int)).bind fun x2 =>
 (idxS a0 (W ((((p101 : Nat) : Int) : Int) - a1))).bind fun x3 =>
 bif decide (¬ x2 = x3) then (some (false))
 else (r2 x1.2))
 else (r2 x1.2))
 else k0
def f38_2 (a0 : ByteArray) (a1 : Int) (k0 : Option (Bool)) : Nat → Nat → Option (Bool)
  | 0, _ => none
  | n + 1, p101 => f38_2b (f38_2 a0 a1 k0 n) a0 a1 k0 p101
def Lf38_2 (a0 : ByteArray) (a1 : Int) (k0 : Option (Bool)) : Lp (Nat × Nat) Unit (Bool) := lp0 ⟨[0, 1, 7], [101], [], []⟩ (fun (_, _) => [.dat (strN a0), .dat (iN a1), .ptr 101 0]) (fun (_, p101) => [.sit a0 p101]) (fun (n, p101) => f38_2 a0 a1 k0 n p101)
theorem Ef38_2 {a0 a1 k0 n p101} : (Lf38_2 a0 a1 k0).E (n, p101) = f38_2 a0 a1 k0 n p101 := rfl
def f38 (N : Nat) (a0 : ByteArray) (a1 : Int) : Option (Bool) :=
 joinK (f38_c6 a0 a1) fun k0 =>
 f38_2 a0 a1 k0 N 0
def G38 (ds : List D) (d : D) : Prop := ∃ (N : Nat) (a0 : ByteArray) (a1 : Int) (r : Bool), ds = [strN a0, iN a1] ∧ f38 N a0 a1 = some r ∧ d = bN r
theorem G38.lend {N : Nat} {a0 : ByteArray} {a1 : Int} {ρ : Type} {A : Bool → Option ρ} {q : ρ} {ds : List D} {K : D → Prop} (hd : ds = [strN a0, iN a1]) (h : ∀ r, A r = some q → K (bN r)) (hF : (f38 N a0 a1).bind A = some q) : ∃ d, (G38 ds d ∧ d.flatB = true) ∧ K d := by
  obtain ⟨r, hr, hA⟩ := bind_some hF
  exact ⟨_, ⟨⟨N, a0, a1, r, hd, hr, rfl⟩, rfl⟩, h r hA⟩
set_option maxRecDepth 20000 in
set_option maxHeartbeats 4000000 in
theorem P38 : PureOK Try.prog 38 G38 := by
  refine pure_of_vc (c := mkCtx tyTree []) rfl tyOK (ctx_nil) [[0]] 2 Try.func38 rfl rfl (by decide) (by kernel_rfl) ?_
  rintro ds d ⟨N, a0, a1, r, rfl, hF, rfl⟩ hok
  clear hok
  refine ⟨rfl, ?_⟩
  show vc _ _ _ _ ⟨[(0, .dat (strN a0)), (1, .dat (iN a1))], []⟩ _
  unfold f38 at hF
  repeat' (first
    | ((with_reducible first | refine q0 _ _ ?_ | refine q1 _ _ _ _ ?_ | refine q2 _ _ _ ?_); clear Q q0 q1 q2)
    | ((with_reducible first | refine seq_op ?hx (fun Q q0 q1 q2 => ?_) | refine draw_op ?hx (fun Q q0 q1 q2 => ?_)); (case hx => exact rfl); conv => whnf)
    | ((with_reducible first | refine seq_off ?hx ?_ | refine seq_off0 ?hx ?_ | refine draw_off ?hx ?_ | refine draw_off0 ?hx ?_ | refine k_blk_out ?hx ?_ | refine vc_condT ?hx ?_); (case hx => exact rfl))
    | ((with_reducible refine seq_id ?_); (first | ((first | refine seq_opK rfl ?hy (fun Q q0 q1 q2 => ?_) | refine seq_opK0 rfl ?hy (fun Q q0 q1 q2 => ?_)); (case hy => first | assumption | exact notT (by assumption) | exact rfl); conv => whnf) | ((first | refine seq_offK rfl ?hy ?_ | refine seq_offK0 rfl ?hy ?_); (case hy => first | assumption | exact notF (by assumption) | exact rfl)) | (revert hF; (with_reducible first | refine seq_opF ?hx ?_ ?_ | refine seq_opF0 ?hx ?_ ?_); (case hx => exact rfl); (intro hc hF Q q0 q1 q2; conv => whnf); rotate_left; (intro hc hF); rotate_right) | (revert hF; (with_reducible first | refine seq_opN ?hx ?_ ?_ | refine seq_opN0 ?hx ?_ ?_); (case hx => exact rfl); (intro hc hF); rotate_left; (intro hc hF Q q0 q1 q2; conv => whnf); rotate_right)))
    | ((with_reducible refine draw_id ?_); (first | ((first | refine draw_opK rfl ?hy (fun Q q0 q1 q2 => ?_) | refine draw_opK0 rfl ?hy (fun Q q0 q1 q2 => ?_)); (case hy => first | assumption | exact notT (by assumption) | exact rfl); conv => whnf) | ((first | refine draw_offK rfl ?hy ?_ | refine draw_offK0 rfl ?hy ?_); (case hy => first | assumption | exact notF (by assumption) | exact rfl)) | (revert hF; (with_reducible first | refine draw_opF ?hx ?_ ?_ | refine draw_opF0 ?hx ?_ ?_); (case hx => exact rfl); (intro hc hF Q q0 q1 q2; conv => whnf); rotate_left; (intro hc hF); rotate_right) | (revert hF; (with_reducible first | refine draw_opN ?hx ?_ ?_ | refine draw_opN0 ?hx ?_ ?_); (case hx => exact rfl); (intro hc hF); rotate_left; (intro hc hF Q q0 q1 q2; conv => whnf); rotate_right)))
    | ((with_reducible refine cond_id ?_); (first | ((refine condKT rfl ?hy ?_); (case hy => first | assumption | exact notT (by assumption) | exact rfl)) | ((refine condKF rfl ?hy ?_); (case hy => first | assumption | exact notF (by assumption) | exact rfl)) | (revert hF; (with_reducible refine condF ?hx ?_ ?_); (case hx => exact rfl); all_goals (intro hc hF))))
    | ((with_reducible refine seq_nil ?_); (first | ((with_reducible refine hR _ ?_); clear R hR) | ((with_reducible refine hL _ ?_); clear L hL)))
    | ((with_reducible refine draw_nil ?_); (with_reducible refine hR _ _ ?hx ?_); (case hx => kernel_rfl); (first | clear R hR | clear hR))
    | ((with_reducible first | refine int_step ?_); conv => whnf)
    | (with_reducible first | refine vc_block ?_ | refine vc_skip ?_ | refine vc_ret ?_ | refine vc_exit ?_ | refine vc_region (fun R hR => ?_) | refine k_seq_ret ?_ | refine k_seq_exit ?_ | refine k_blk ?_ | refine k_blk_ret ?_ | refine k_blk_here ?_ | refine k_loop_ret ?_ | refine k_loop_exit ?_)
    | ((with_reducible refine vc_seqN [6] ?hx ?_); (case hx => exact rfl))
    | ((with_reducible refine vc_draw ?hx (fun R hR => ?_)); (case hx => exact rfl))
    | (revert hF; (refine Lp.cut2 Lf38_c6 f38_c6 6 rfl rfl ?_ ?_); (intro hF); rotate_left; (rintro _ hF; dsimp only [Lf38_c6] at hF; unfold f38_c6 at hF); rotate_right)
    | exact Lp.head Ef38_c6 hF () ⟨_, rfl, rfl, rfl, rfl⟩ rfl
    | (revert hF; (refine Lp.loop Ef38_2 () rfl ⟨_, rfl, rfl, rfl, rfl⟩ rfl (fun _ => rfl) ?_); rintro n p101 hF; dsimp only [Lf38_2, f38_2] at hF; unfold f38_2b at hF)
    | exact Lp.back Ef38_2 hF () ⟨_, rfl, rfl, rfl, rfl⟩ rfl
    | (revert hF; (refine idxS_step ?_); intro x hF; conv => whnf)
    | (revert hF; (refine some_step ?_); intro x hF; conv => whnf)
    | ((refine row_all ?hn ?_); (case hn => first | exact rfl | (simp; done) | (simp; omega)); conv => whnf)
    | ((with_reducible refine le_step ?hn ?_); (case hn => first | exact rfl | assumption | omega); conv => whnf)
    | ((refine ⟨?hx, ?_⟩); (case hx => exact ⟨rfl, Nat.le_of_ble_eq_true rfl, rfl⟩); conv => whnf)
    | ((with_reducible refine ex_step ?_); conv => whnf)
    | ((with_reducible refine both_T ?hx ?_); (case hx => first | exact rfl | assumption | exact notT (by assumption)); conv => whnf)
    | ((with_reducible refine both_F ?hx ?_); (case hx => first | exact rfl | assumption | exact notF (by assumption)); conv => whnf)
    | (revert hF; (with_reducible refine ite_step ?_ ?_) <;> (intro hc hF; conv => whnf))
    | ((with_reducible refine vc_condF ?hx ?_); (case hx => exact rfl))
    | (show retD _ _ _ _ _ _; conv => whnf)
    | ((refine ⟨?hx, trivial⟩); (case hx => (cases hF; exact rfl)))
    | ((refine ⟨?hx, ?_⟩); (case hx => decide); conv => whnf)
    | with_reducible refine k_seq ?_
    | (have hF : (none : Option _) = some _ := hF; cases hF))
end
end Go.Vc
namespace Go.Vc
open Go.Proofs
set_option linter.unusedVariables false
set_option linter.unnecessarySimpa false
set_option linter.unusedSimpArgs false
section
variable {c : Ctx} {p nid : Nat} {a b : Code} {st : St} {K : Ex → St → Prop}
def f41_c9 (out5 : ByteArray) : Option (ByteArray) :=
 bif decide (out5 = emptyS) then (some ((strC [97])))
 else (some (out5))
def Lf41_c9 : Lp (ByteArray) Unit (ByteArray) := lp0 ⟨[5], [], [], []⟩ (fun out5 => [.dat (strN out5)]) (fun _ => []) (fun out5 => f41_c9 out5)
theorem Ef41_c9 {out5} : (Lf41_c9).E out5 = f41_c9 out5 := rfl
def f41_3b (r3 : ByteArray → Int → Option (ByteArray)) (a0 : List Int) (a1 : Int) (k0 : ByteArray → Option (ByteArray)) (out5 : ByteArray) (i6 : Int) : Option (ByteArray) :=
 bif decide (i6 < (List.length a0 : Int)) then (bif decide ((ByteArray.size out5 : Int) < a1) then ((ix a0 i6).bind fun x1 =>
 bif decide ((128 : Int) ≤ x1) then (bif decide ((0 : Int) < (ByteArray.size out5 : Int)) then ((chk (decide ((ByteArray.size out5 : Int) ≠ 0))).bind fun _ =>
 (subS out5 (W ((W ((ByteArray.size out5 : Int) - (1 : Int))) - (Int.tmod x1 (ByteArray.size out5 : Int)))) (ByteArray.size out5 : Int)).bind fun x2 =>
 (subS x2 0 (1 : Int)).bind fun x3 =>
 (addS out5 x3).bind fun x4 =>
 r3 x4 (W (i6 + (1 : Int))))
 else ((subS (strC [97, 98, 99]) (Int.tmod x1 (3 : Int)) (ByteArray.size (strC [97, 98, 99]) : Int)).bind fun x5 =>
 (subS x5 0 (1 : Int)).bind fun x6 =>
 (addS out5 x6).bind fun x7 =>
 r3 x7 (W (i6 + (1 : Int)))))
 else ((subS (strC [97, 98, 99]) (Int.tmod x1 (3 : Int)) (ByteArray.size (strC [97, 98, 99]) : Int)).bind fun x8 =>
 (subS x8 0 (1 : Int)).bind fun x9 =>
 (addS out5 x9).bind fun x10 =>
 r3 x10 (W (i6 + (1 : Int)))))
 else (k0 out5))
 else (k0 out5)
def f41_3 (a0 : List Int) (a1 : Int) (k0 : ByteArray → Option (ByteArray)) : Nat → ByteArray → Int → Option (ByteArray)
  | 0, _, _ => none
  | n + 1, out5, i6 => f41_3b (f41_3 a0 a1 k0 n) a0 a1 k0 out5 i6
def Lf41_3 (a0 : List Int) (a1 : Int) (k0 : ByteArray → Option (ByteArray)) : Lp (Nat × ByteArray × Int) Unit (ByteArray) := lp0 ⟨[0, 1, 5, 6], [], [], []⟩ (fun (_, out5, i6) => [.dat (sl_u8N a0), .dat (iN a1), .dat (strN out5), .dat (iN i6)]) (fun (_, _, _) => []) (fun (n, out5, i6) => f41_3 a0 a1 k0 n out5 i6)
theorem Ef41_3 {a0 a1 k0 n out5 i6} : (Lf41_3 a0 a1 k0).E (n, out5, i6) = f41_3 a0 a1 k0 n out5 i6 := rfl
def f41 (N : Nat) (a0 : List Int) (a1 : Int) : Option (ByteArray) :=
 joinK f41_c9 fun k0 =>
 f41_3 a0 a1 k0 N emptyS (0 : Int)
def G41 (ds : List D) (d : D) : Prop := ∃ (N : Nat) (a0 : List Int) (a1 : Int) (r : ByteArray), ds = [sl_u8N a0, iN a1] ∧ f41 N a0 a1 = some r ∧ d = strN r
theorem G41.lend {N : Nat} {a0 : List Int} {a1 : Int} {ρ : Type} {A : ByteArray → Option ρ} {q : ρ} {ds : List D} {K : D → Prop} (hd : ds = [sl_u8N a0, iN a1]) (h : ∀ r, A r = some q → K (strN r)) (hF : (f41 N a0 a1).bind A = some q) : ∃ d, (G41 ds d ∧ d.flatB = true) ∧ K d := by
  obtain ⟨r, hr, hA⟩ := bind_some hF
  exact ⟨_, ⟨⟨N, a0, a1, r, hd, hr, rfl⟩, rfl⟩, h r hA⟩
set_option maxRecDepth 20000 in
set_option maxHeartbeats 4000000 in
theorem P41 : PureOK Try.prog 41 G41 := by
  refine pure_of_vc (c := mkCtx tyTree []) rfl tyOK (ctx_nil) [[0]] 2 Try.func41 rfl rfl (by decide) (by kernel_rfl) ?_
  rintro ds d ⟨N, a0, a1, r, rfl, hF, rfl⟩ hok
  clear hok
  refine ⟨rfl, ?_⟩
  show vc _ _ _ _ ⟨[(0, .dat (sl_u8N a0)), (1, .dat (iN a1))], []⟩ _
  unfold f41 at hF
  repeat' (first
    | ((with_reducible first | refine q0 _ _ ?_ | refine q1 _ _ _ _ ?_ | refine q2 _ _ _ ?_); clear Q q0 q1 q2)
    | ((with_reducible first | refine seq_op ?hx (fun Q q0 q1 q2 => ?_)); (case hx => exact rfl); conv => whnf)
    | ((with_reducible first | refine seq_off ?hx ?_ | refine seq_off0 ?hx ?_ | refine k_blk_out ?hx ?_ | refine vc_condT ?hx ?_); (case hx => exact rfl))
    | ((with_reducible refine seq_id ?_); (first | ((first | refine seq_opK rfl ?hy (fun Q q0 q1 q2 => ?_) | refine seq_opK0 rfl ?hy (fun Q q0 q1 q2 => ?_)); (case hy => first | assumption | exact notT (by assumption) | exact rfl); conv => whnf) | ((first | refine seq_offK rfl ?hy ?_ | refine seq_offK0 rfl ?hy ?_); (case hy => first | assumption | exact notF (by assumption) | exact rfl)) | (revert hF; (with_reducible first | refine seq_opF ?hx ?_ ?_ | refine seq_opF0 ?hx ?_ ?_); (case hx => exact rfl); (intro hc hF Q q0 q1 q2; conv => whnf); rotate_left; (intro hc hF); rotate_right) | (revert hF; (with_reducible first | refine seq_opN ?hx ?_ ?_ | refine seq_opN0 ?hx ?_ ?_); (case hx => exact rfl); (intro hc hF); rotate_left; (intro hc hF Q q0 q1 q2; conv => whnf); rotate_right)))
    | ((with_reducible refine cond_id ?_); (first | ((refine condKT rfl ?hy ?_); (case hy => first | assumption | exact notT (by assumption) | exact rfl)) | ((refine condKF rfl ?hy ?_); (case hy => first | assumption | exact notF (by assumption) | exact rfl)) | (revert hF; (with_reducible refine condF ?hx ?_ ?_); (case hx => exact rfl); all_goals (intro hc hF))))
    | ((with_reducible refine seq_nil ?_); (first | ((with_reducible refine hR _ ?_); clear R hR) | ((with_reducible refine hL _ ?_); clear L hL)))
    | ((with_reducible first | refine int_step ?_ | refine len_step ?_ | refine idx2 (by assumption) ?_ | refine idx3 (by assumption) ?_); conv => whnf)
    | (with_reducible first | refine vc_block ?_ | refine vc_skip ?_ | refine vc_ret ?_ | refine vc_exit ?_ | refine vc_region (fun R hR => ?_) | refine k_seq_ret ?_ | refine k_seq_exit ?_ | refine k_blk ?_ | refine k_blk_ret ?_ | refine k_blk_here ?_ | refine k_loop_ret ?_ | refine k_loop_exit ?_)
    | ((with_reducible refine vc_seqN [9] ?hx ?_); (case hx => exact rfl))
    | (revert hF; (refine Lp.cut0 Lf41_c9 f41_c9 9 rfl rfl ?_ ?_); (intro hF); rotate_left; (rintro out5 hF; dsimp only [Lf41_c9] at hF; unfold f41_c9 at hF); rotate_right)
    | exact Lp.head Ef41_c9 hF () ⟨_, rfl, rfl, rfl, rfl⟩ rfl
    | (revert hF; (refine Lp.loop Ef41_3 () rfl ⟨_, rfl, rfl, rfl, rfl⟩ rfl (fun _ => rfl) ?_); rintro n ⟨out5, i6⟩ hF; dsimp only [Lf41_3, f41_3] at hF; unfold f41_3b at hF)
    | exact Lp.back Ef41_3 hF () ⟨_, rfl, rfl, rfl, rfl⟩ rfl
    | (revert hF; (refine subS_step ?_); intro x hF; conv => whnf)
    | (revert hF; (refine addS_step ?_); intro x hF; conv => whnf)
    | (revert hF; (with_reducible refine idx1 ?hn ?_); (case hn => first | exact rfl | exact (List.length_map _) | assumption | omega | simp); intro x hx hF; conv => whnf)
    | ((refine row_all ?hn ?_); (case hn => first | exact rfl | (simp; done) | (simp; omega)); conv => whnf)
    | ((with_reducible refine le_step ?hn ?_); (case hn => first | exact rfl | assumption | omega); conv => whnf)
    | ((refine ⟨?hx, ?_⟩); (case hx => exact ⟨rfl, Nat.le_of_ble_eq_true rfl, rfl⟩); conv => whnf)
    | ((with_reducible refine ex_step ?_); conv => whnf)
    | ((with_reducible have hG := chk_fact hF); clear hF; (refine ⟨?hx, ?_⟩); (case hx => (first | exact of_decide_eq_true hG.1 | exact hG.1)); have hF := hG.2; clear hG; conv => whnf)
    | ((with_reducible refine both_T ?hx ?_); (case hx => first | exact rfl | assumption | exact notT (by assumption)); conv => whnf)
    | ((with_reducible refine both_F ?hx ?_); (case hx => first | exact rfl | assumption | exact notF (by assumption)); conv => whnf)
    | (revert hF; (with_reducible refine ite_step ?_ ?_) <;> (intro hc hF; conv => whnf))
    | ((with_reducible refine vc_condF ?hx ?_); (case hx => exact rfl))
    | (show retD _ _ _ _ _ _; conv => whnf)
    | ((refine ⟨?hx, trivial⟩); (case hx => (cases hF; exact rfl)))
    | ((refine ⟨?hx, ?_⟩); (case hx => decide); conv => whnf)
    | with_reducible refine k_seq ?_
    | (have hF : (none : Option _) = some _ := hF; cases hF))
end
end Go.Vc
namespace Go.Vc
open Go.Proofs
set_option linter.unusedVariables false
set_option linter.unnecessarySimpa false
set_option linter.unusedSimpArgs false
section
variable {c : Ctx} {p nid : Nat} {a b : Code} {st : St} {K : Ex → St → Prop}
def f42_c6 (out5 : ByteArray) : Option (ByteArray) :=
 some (out5)
def Lf42_c6 : Lp (ByteArray) Unit (ByteArray) := lp0 ⟨[5], [], [], []⟩ (fun out5 => [.dat (strN out5)]) (fun _ => []) (fun out5 => f42_c6 out5)
theorem Ef42_c6 {out5} : (Lf42_c6).E out5 = f42_c6 out5 := rfl
def f42_3b (r3 : ByteArray → Int → Option (ByteArray)) (a0 : ByteArray) (a1 : Int) (k0 : ByteArray → Option (ByteArray)) (out5 : ByteArray) (v7 : Int) : Option (ByteArray) :=
 bif decide (v7 < a1) then ((addS out5 a0).bind fun x1 =>
 r3 x1 (W (v7 + (1 : Int))))
 else (k0 out5)
def f42_3 (a0 : ByteArray) (a1 : Int) (k0 : ByteArray → Option (ByteArray)) : Nat → ByteArray → Int → Option (ByteArray)
  | 0, _, _ => none
  | n + 1, out5, v7 => f42_3b (f42_3 a0 a1 k0 n) a0 a1 k0 out5 v7
def Lf42_3 (a0 : ByteArray) (a1 : Int) (k0 : ByteArray → Option (ByteArray)) : Lp (Nat × ByteArray × Int) Unit (ByteArray) := lp0 ⟨[0, 5, 6, 7], [], [], []⟩ (fun (_, out5, v7) => [.dat (strN a0), .dat (strN out5), .dat (iN a1), .dat (iN v7)]) (fun (_, _, _) => []) (fun (n, out5, v7) => f42_3 a0 a1 k0 n out5 v7)
theorem Ef42_3 {a0 a1 k0 n out5 v7} : (Lf42_3 a0 a1 k0).E (n, out5, v7) = f42_3 a0 a1 k0 n out5 v7 := rfl
def f42 (N : Nat) (a0 : ByteArray) (a1 : Int) : Option (ByteArray) :=
 joinK f42_c6 fun k0 =>
 f42_3 a0 a1 k0 N emptyS (0 : Int)
def G42 (ds : List D) (d : D) : Prop := ∃ (N : Nat) (a0 : ByteArray) (a1 : Int) (r : ByteArray), ds = [strN a0, iN a1] ∧ f42 N a0 a1 = some r ∧ d = strN r
theorem G42.lend {N : Nat} {a0 : ByteArray} {a1 : Int} {ρ : Type} {A : ByteArray → Option ρ} {q : ρ} {ds : List D} {K : D → Prop} (hd : ds = [strN a0, iN a1]) (h : ∀ r, A r = some q → K (strN r)) (hF : (f42 N a0 a1).bind A = some q) : ∃ d, (G42 ds d ∧ d.flatB = true) ∧ K d := by
  obtain ⟨r, hr, hA⟩ := bind_some hF
  exact ⟨_, ⟨⟨N, a0, a1, r, hd, hr, rfl⟩, rfl⟩, h r hA⟩
set_option maxRecDepth 20000 in
set_option maxHeartbeats 4000000 in
theorem P42 : PureOK Try.prog 42 G42 := by
  refine pure_of_vc (c := mkCtx tyTree []) rfl tyOK (ctx_nil) [[0]] 2 Try.func42 rfl rfl (by decide) (by kernel_rfl) ?_
  rintro ds d ⟨N, a0, a1, r, rfl, hF, rfl⟩ hok
  clear hok
  refine ⟨rfl, ?_⟩
  show vc _ _ _ _ ⟨[(0, .dat (strN a0)), (1, .dat (iN a1))], []⟩ _
  unfold f42 at hF
  repeat' (first
    | ((with_reducible first | refine q0 _ _ ?_ | refine q1 _ _ _ _ ?_ | refine q2 _ _ _ ?_); clear Q q0 q1 q2)
    | ((with_reducible first | refine seq_op ?hx (fun Q q0 q1 q2 => ?_)); (case hx => exact rfl); conv => whnf)
    | ((with_reducible refine cond_id ?_); (first | ((refine condKT rfl ?hy ?_); (case hy => first | assumption | exact notT (by assumption) | exact rfl)) | ((refine condKF rfl ?hy ?_); (case hy => first | assumption | exact notF (by assumption) | exact rfl)) | (revert hF; (with_reducible refine condF ?hx ?_ ?_); (case hx => exact rfl); all_goals (intro hc hF))))
    | ((with_reducible refine seq_nil ?_); (first | ((with_reducible refine hR _ ?_); clear R hR) | ((with_reducible refine hL _ ?_); clear L hL)))
    | ((with_reducible first | refine int_step ?_); conv => whnf)
    | (with_reducible first | refine vc_block ?_ | refine vc_skip ?_ | refine vc_ret ?_ | refine vc_exit ?_ | refine vc_region (fun R hR => ?_) | refine k_seq_ret ?_ | refine k_seq_exit ?_ | refine k_blk ?_ | refine k_blk_ret ?_ | refine k_blk_here ?_ | refine k_loop_ret ?_ | refine k_loop_exit ?_)
    | ((with_reducible refine vc_seqN [6] ?hx ?_); (case hx => exact rfl))
    | (revert hF; (refine Lp.cut0 Lf42_c6 f42_c6 6 rfl rfl ?_ ?_); (intro hF); rotate_left; (rintro out5 hF; dsimp only [Lf42_c6] at hF; unfold f42_c6 at hF); rotate_right)
    | exact Lp.head Ef42_c6 hF () ⟨_, rfl, rfl, rfl, rfl⟩ rfl
    | (revert hF; (refine Lp.loop Ef42_3 () rfl ⟨_, rfl, rfl, rfl, rfl⟩ rfl (fun _ => rfl) ?_); rintro n ⟨out5, v7⟩ hF; dsimp only [Lf42_3, f42_3] at hF; unfold f42_3b at hF)
    | exact Lp.back Ef42_3 hF () ⟨_, rfl, rfl, rfl, rfl⟩ rfl
    | (revert hF; (refine addS_step ?_); intro x hF; conv => whnf)
    | ((with_reducible first | refine k_blk_out ?hx ?_ | refine vc_condT ?hx ?_); (case hx => exact rfl))
    | ((refine row_all ?hn ?_); (case hn => first | exact rfl | (simp; done) | (simp; omega)); conv => whnf)
    | ((with_reducible refine le_step ?hn ?_); (case hn => first | exact rfl | assumption | omega); conv => whnf)
    | ((refine ⟨?hx, ?_⟩); (case hx => exact ⟨rfl, Nat.le_of_ble_eq_true rfl, rfl⟩); conv => whnf)
    | ((with_reducible refine ex_step ?_); conv => whnf)
    | ((with_reducible refine both_T ?hx ?_); (case hx => first | exact rfl | assumption | exact notT (by assumption)); conv => whnf)
    | ((with_reducible refine both_F ?hx ?_); (case hx => first | exact rfl | assumption | exact notF (by assumption)); conv => whnf)
    | (revert hF; (with_reducible refine ite_step ?_ ?_) <;> (intro hc hF; conv => whnf))
    | ((with_reducible refine vc_condF ?hx ?_); (case hx => exact rfl))
    | (show retD _ _ _ _ _ _; conv => whnf)
    | ((refine ⟨?hx, trivial⟩); (case hx => (cases hF; exact rfl)))
    | ((refine ⟨?hx, ?_⟩); (case hx => decide); conv => whnf)
    | with_reducible refine k_seq ?_
    | (have hF : (none : Option _) = some _ := hF; cases hF))
end
end Go.Vc
namespace Go.Vc
open Go.Proofs
set_option linter.unusedVariables false
set_option linter.unnecessarySimpa false
set_option linter.unusedSimpArgs false
section
variable {c : Ctx} {p nid : Nat} {a b : Code} {st : St} {K : Ex → St → Prop}
def f9_c53 (N : Nat) (x1 : ByteArray) (x2 : (List Int) × Int) (x3 : ByteArray × Int × Int) : Option (Bool) :=
 (ix x2.1 (0 : Int)).bind fun x6 =>
 (chk (decide (x6 ≠ 0))).bind fun _ =>
 bif decide ((1 : Int) < x3.2.1) then (bif ((decide ((Int.tmod (ByteArray.size x1 : Int) x6) = (0 : Int))) == true) then ((ix x2.1 (0 : Int)).bind fun x7 =>
 (chk (decide (x7 ≠ 0))).bind fun _ =>
 bif decide (¬ (Int.tmod (ByteArray.size x1 : Int) x7) = (0 : Int)) then ((f15 N ).bind fun x8 =>
 some (x8))
 else ((ix x2.1 (0 : Int)).bind fun x9 =>
 (chk (decide (x9 ≠ 0))).bind fun _ =>
 bif decide (x3.2.1 = (W (Int.tdiv (ByteArray.size x1 : Int) x9))) then ((f15 N ).bind fun x10 =>
 some (x10))
 else (some (false))))
 else (some (false)))
 else ((ix x2.1 (0 : Int)).bind fun x11 =>
 bif ((decide ((Int.tmod (ByteArray.size x1 : Int) x6) = (0 : Int))) == (decide (x11 = (ByteArray.size x1 : Int)))) then ((ix x2.1 (0 : Int)).bind fun x12 =>
 (chk (decide (x12 ≠ 0))).bind fun _ =>
 bif decide (¬ (Int.tmod (ByteArray.size x1 : Int) x12) = (0 : Int)) then ((f15 N ).bind fun x13 =>
 some (x13))
 else ((ix x2.1 (0 : Int)).bind fun x14 =>
 (chk (decide (x14 ≠ 0))).bind fun _ =>
 bif decide (x3.2.1 = (W (Int.tdiv (ByteArray.size x1 : Int) x14))) then ((f15 N ).bind fun x15 =>
 some (x15))
 else (some (false))))
 else (some (false)))
def Lf9_c53 (N : Nat) (x1 : ByteArray) (x2 : (List Int) × Int) (x3 : ByteArray × Int × Int) : Lp (Unit) Unit (Bool) := lp0 ⟨[4, 5, 8], [], [], []⟩ (fun _ => [.dat (iN (ByteArray.size x1 : Int)), .dat (sl_iN x2.1), .dat (iN x3.2.1)]) (fun _ => []) (fun _ => f9_c53 N x1 x2 x3)
theorem Ef9_c53 {N x1 x2 x3} : (Lf9_c53 N x1 x2 x3).E () = f9_c53 N x1 x2 x3 := rfl
def f9_c52 (x1 : ByteArray) (x2 : (List Int) × Int) (x3 : ByteArray × Int × Int) (v211 : Int) (r40 : Int → Option (Bool)) : Option (Bool) :=
 r40 (W (v211 + (1 : Int)))
def Lf9_c52 (x1 : ByteArray) (x2 : (List Int) × Int) (x3 : ByteArray × Int × Int) (v211 : Int) (r40 : Int → Option (Bool)) : Lp (Unit) Unit (Bool) := lp0 ⟨[3, 4, 5, 8, 209, 210, 211], [], [], []⟩ (fun _ => [.dat (strN x1), .dat (iN (ByteArray.size x1 : Int)), .dat (sl_iN x2.1), .dat (iN x3.2.1), .dat (sl_iN x2.1), .dat (iN (List.length x2.1 : Int)), .dat (iN v211)]) (fun _ => []) (fun _ => f9_c52 x1 x2 x3 v211 r40)
theorem Ef9_c52 {x1 x2 x3 v211 r40} : (Lf9_c52 x1 x2 x3 v211 r40).E () = f9_c52 x1 x2 x3 v211 r40 := rfl
def f9_48b (r48 : Int → Option (Bool)) (N : Nat) (x1 : ByteArray) (x2 : (List Int) × Int) (x3 : ByteArray × Int × Int) (v211 : Int) (k1 : Option (Bool)) (x16 : Int) (v24 : Int) : Option (Bool) :=
 bif decide (v24 ≤ (W ((ByteArray.size x1 : Int) - x16))) then ((subS x1 0 (W ((ByteArray.size x1 : Int) - x16))).bind fun x17 =>
 (f38 N x17 v24).bind fun x18 =>
 bif x18 then ((f38 N x1 (W (x16 + v24))).bind fun x19 =>
 bif !x19 then (some (false))
 else (r48 (W (v24 + (1 : Int)))))
 else (r48 (W (v24 + (1 : Int)))))
 else k1
def f9_48 (N : Nat) (x1 : ByteArray) (x2 : (List Int) × Int) (x3 : ByteArray × Int × Int) (v211 : Int) (k1 : Option (Bool)) (x16 : Int) : Nat → Int → Option (Bool)
  | 0, _ => none
  | n + 1, v24 => f9_48b (f9_48 N x1 x2 x3 v211 k1 x16 n) N x1 x2 x3 v211 k1 x16 v24
def Lf9_48 (N : Nat) (x1 : ByteArray) (x2 : (List Int) × Int) (x3 : ByteArray × Int × Int) (v211 : Int) (k1 : Option (Bool)) (x16 : Int) : Lp (Nat × Int) Unit (Bool) := lp0 ⟨[3, 4, 5, 8, 22, 24, 209, 210, 211], [], [], []⟩ (fun (_, v24) => [.dat (strN x1), .dat (iN (ByteArray.size x1 : Int)), .dat (sl_iN x2.1), .dat (iN x3.2.1), .dat (iN x16), .dat (iN v24), .dat (sl_iN x2.1), .dat (iN (List.length x2.1 : Int)), .dat (iN v211)]) (fun (_, _) => []) (fun (n, v24) => f9_48 N x1 x2 x3 v211 k1 x16 n v24)
theorem Ef9_48 {N x1 x2 x3 v211 k1 x16 n v24} : (Lf9_48 N x1 x2 x3 v211 k1 x16).E (n, v24) = f9_48 N x1 x2 x3 v211 k1 x16 n v24 := rfl
def f9_c47 (N : Nat) (x1 : ByteArray) (x2 : (List Int) × Int) (x3 : ByteArray × Int × Int) (v211 : Int) (k1 : Option (Bool)) (x16 : Int) : Option (Bool) :=
 f9_48 N x1 x2 x3 v211 k1 x16 N (1 : Int)
def Lf9_c47 (N : Nat) (x1 : ByteArray) (x2 : (List Int) × Int) (x3 : ByteArray × Int × Int) (v211 : Int) (k1 : Option (Bool)) (x16 : Int) : Lp (Unit) Unit (Bool) := lp0 ⟨[3, 4, 5, 8, 22, 209, 210, 211], [], [], []⟩ (fun _ => [.dat (strN x1), .dat (iN (ByteArray.size x1 : Int)), .dat (sl_iN x2.1), .dat (iN x3.2.1), .dat (iN x16), .dat (sl_iN x2.1), .dat (iN (List.length x2.1 : Int)), .dat (iN v211)]) (fun _ => []) (fun _ => f9_c47 N x1 x2 x3 v211 k1 x16)
theorem Ef9_c47 {N x1 x2 x3 v211 k1 x16} : (Lf9_c47 N x1 x2 x3 v211 k1 x16).E () = f9_c47 N x1 x2 x3 v211 k1 x16 := rfl
def f9_43b (r43 : Int → Option (Bool)) (N : Nat) (x1 : ByteArray) (x2 : (List Int) × Int) (x3 : ByteArray × Int × Int) (v211 : Int) (x16 : Int) (k2 : Option (Bool)) (v23 : Int) : Option (Bool) :=
 bif decide (v23 ≤ (ByteArray.size x1 : Int)) then ((f38 N x1 v23).bind fun x20 =>
 bif !x20 then (some (false))
 else (r43 (W (v23 + x16))))
 else k2
def f9_43 (N : Nat) (x1 : ByteArray) (x2 : (List Int) × Int) (x3 : ByteArray × Int × Int) (v211 : Int) (x16 : Int) (k2 : Option (Bool)) : Nat → Int → Option (Bool)
  | 0, _ => none
  | n + 1, v23 => f9_43b (f9_43 N x1 x2 x3 v211 x16 k2 n) N x1 x2 x3 v211 x16 k2 v23
def Lf9_43 (N : Nat) (x1 : ByteArray) (x2 : (List Int) × Int) (x3 : ByteArray × Int × Int) (v211 : Int) (x16 : Int) (k2 : Option (Bool)) : Lp (Nat × Int) Unit (Bool) := lp0 ⟨[3, 4, 5, 8, 22, 23, 209, 210, 211], [], [], []⟩ (fun (_, v23) => [.dat (strN x1), .dat (iN (ByteArray.size x1 : Int)), .dat (sl_iN x2.1), .dat (iN x3.2.1), .dat (iN x16), .dat (iN v23), .dat (sl_iN x2.1), .dat (iN (List.length x2.1 : Int)), .dat (iN v211)]) (fun (_, _) => []) (fun (n, v23) => f9_43 N x1 x2 x3 v211 x16 k2 n v23)
theorem Ef9_43 {N x1 x2 x3 v211 x16 k2 n v23} : (Lf9_43 N x1 x2 x3 v211 x16 k2).E (n, v23) = f9_43 N x1 x2 x3 v211 x16 k2 n v23 := rfl
def f9_40b (r40 : Int → Option (Bool)) (N : Nat) (x1 : ByteArray) (x2 : (List Int) × Int) (x3 : ByteArray × Int × Int) (k0 : Option (Bool)) (v211 : Int) : Option (Bool) :=
 bif decide (v211 < (List.length x2.1 : Int)) then (joinK (f9_c52 x1 x2 x3 v211 r40) fun k1 =>
 (ix x2.1 v211).bind fun x16 =>
 joinK (f9_c47 N x1 x2 x3 v211 k1 x16) fun k2 =>
 f9_43 N x1 x2 x3 v211 x16 k2 N x16)
 else k0
def f9_40 (N : Nat) (x1 : ByteArray) (x2 : (List Int) × Int) (x3 : ByteArray × Int × Int) (k0 : Option (Bool)) : Nat → Int → Option (Bool)
  | 0, _ => none
  | n + 1, v211 => f9_40b (f9_40 N x1 x2 x3 k0 n) N x1 x2 x3 k0 v211
def Lf9_40 (N : Nat) (x1 : ByteArray) (x2 : (List Int) × Int) (x3 : ByteArray × Int × Int) (k0 : Option (Bool)) : Lp (Nat × Int) Unit (Bool) := lp0 ⟨[3, 4, 5, 8, 209, 210, 211], [], [], []⟩ (fun (_, v211) => [.dat (strN x1), .dat (iN (ByteArray.size x1 : Int)), .dat (sl_iN x2.1), .dat (iN x3.2.1), .dat (sl_iN x2.1), .dat (iN (List.length x2.1 : Int)), .dat (iN v211)]) (fun (_, _) => []) (fun (n, v211) => f9_40 N x1 x2 x3 k0 n v211)
theorem Ef9_40 {N x1 x2 x3 k0 n v211} : (Lf9_40 N x1 x2 x3 k0).E (n, v211) = f9_40 N x1 x2 x3 k0 n v211 := rfl
def f9_c37 (N : Nat) (x1 : ByteArray) (x2 : (List Int) × Int) (x3 : ByteArray × Int × Int) (x4 : (List Int) × Int) (v12 : Int) (v13 : Int) : Option (Bool) :=
 bif decide (¬ v12 = (List.length x2.1 : Int)) then (some (false))
 else (bif decide (¬ v13 = (List.length x4.1 : Int)) then (some (false))
 else (joinK (f9_c53 N x1 x2 x3) fun k0 =>
 f9_40 N x1 x2 x3 k0 N (0 : Int)))
def Lf9_c37 (N : Nat) (x1 : ByteArray) (x2 : (List Int) × Int) (x3 : ByteArray × Int × Int) (x4 : (List Int) × Int) : Lp (Int × Int) Unit (Bool) := lp0 ⟨[3, 4, 5, 8, 10, 12, 13], [], [], []⟩ (fun (v12, v13) => [.dat (strN x1), .dat (iN (ByteArray.size x1 : Int)), .dat (sl_iN x2.1), .dat (iN x3.2.1), .dat (sl_iN x4.1), .dat (iN v12), .dat (iN v13)]) (fun (_, _) => []) (fun (v12, v13) => f9_c37 N x1 x2 x3 x4 v12 v13)
theorem Ef9_c37 {N x1 x2 x3 x4 v12 v13} : (Lf9_c37 N x1 x2 x3 x4).E (v12, v13) = f9_c37 N x1 x2 x3 x4 v12 v13 := rfl
def f9_c11 (x1 : ByteArray) (x2 : (List Int) × Int) (x3 : ByteArray × Int × Int) (x4 : (List Int) × Int) (v14 : Int) (r10 : Int → Int → Int → Option (Bool)) (v12' : Int) (v13' : Int) : Option (Bool) :=
 r10 (v12') (v13') (W (v14 + (1 : Int)))
def Lf9_c11 (x1 : ByteArray) (x2 : (List Int) × Int) (x3 : ByteArray × Int × Int) (x4 : (List Int) × Int) (v14 : Int) (r10 : Int → Int → Int → Option (Bool)) : Lp (Int × Int) Unit (Bool) := lp0 ⟨[3, 4, 5, 7, 8, 10, 12, 13, 14], [], [], []⟩ (fun (v12', v13') => [.dat (strN x1), .dat (iN (ByteArray.size x1 : Int)), .dat (sl_iN x2.1), .dat (strN x3.1), .dat (iN x3.2.1), .dat (sl_iN x4.1), .dat (iN (v12')), .dat (iN (v13')), .dat (iN v14)]) (fun (_, _) => []) (fun (v12', v13') => f9_c11 x1 x2 x3 x4 v14 r10 v12' v13')
theorem Ef9_c11 {x1 x2 x3 x4 v14 r10 v12' v13'} : (Lf9_c11 x1 x2 x3 x4 v14 r10).E (v12', v13') = f9_c11 x1 x2 x3 x4 v14 r10 v12' v13' := rfl
def f9_c33 (N : Nat) (x1 : ByteArray) (x2 : (List Int) × Int) (x3 : ByteArray × Int × Int) (x4 : (List Int) × Int) (v13 : Int) (v14 : Int) (k4 : Int → Int → Option (Bool)) (v12' : Int) (v18 : Bool) : Option (Bool) :=
 bif decide (v13 < (List.length x4.1 : Int)) then ((ix x4.1 v13).bind fun x22 =>
 bif !(v18 == (decide (x22 = v14))) then (some (false))
 else (bif v18 then (bif decide (v14 < (ByteArray.size x1 : Int)) then ((f38 N x1 (W ((ByteArray.size x1 : Int) - v14))).bind fun x23 =>
 bif !x23 then (some (false))
 else (k4 (v12') (W (v13 + (1 : Int)))))
 else (k4 (v12') (W (v13 + (1 : Int)))))
 else (k4 (v12') v13)))
 else (bif !(v18 == false) then (some (false))
 else (bif v18 then (bif decide (v14 < (ByteArray.size x1 : Int)) then ((f38 N x1 (W ((ByteArray.size x1 : Int) - v14))).bind fun x24 =>
 bif !x24 then (some (false))
 else (k4 (v12') (W (v13 + (1 : Int)))))
 else (k4 (v12') (W (v13 + (1 : Int)))))
 else (k4 (v12') v13)))
def Lf9_c33 (N : Nat) (x1 : ByteArray) (x2 : (List Int) × Int) (x3 : ByteArray × Int × Int) (x4 : (List Int) × Int) (v13 : Int) (v14 : Int) (k4 : Int → Int → Option (Bool)) (v12' : Int) : Lp (Bool) Unit (Bool) := lp0 ⟨[3, 4, 5, 7, 8, 10, 12, 13, 14, 18], [], [], []⟩ (fun v18 => [.dat (strN x1), .dat (iN (ByteArray.size x1 : Int)), .dat (sl_iN x2.1), .dat (strN x3.1), .dat (iN x3.2.1), .dat (sl_iN x4.1), .dat (iN (v12')), .dat (iN v13), .dat (iN v14), .kb v18]) (fun _ => []) (fun v18 => f9_c33 N x1 x2 x3 x4 v13 v14 k4 v12' v18)
theorem Ef9_c33 {N x1 x2 x3 x4 v13 v14 k4 v12' v18} : (Lf9_c33 N x1 x2 x3 x4 v13 v14 k4 v12').E v18 = f9_c33 N x1 x2 x3 x4 v13 v14 k4 v12' v18 := rfl
def f9_29b (r29 : Bool → Int → Option (Bool)) (x1 : ByteArray) (x2 : (List Int) × Int) (x3 : ByteArray × Int × Int) (x4 : (List Int) × Int) (v13 : Int) (v14 : Int) (v12' : Int) (v15 : List Bool) (k5 : Bool → Option (Bool)) (v18 : Bool) (v157 : Int) : Option (Bool) :=
 bif decide (v157 < (List.length v15 : Int)) then ((ix v15 v157).bind fun x25 =>
 bif v18 then (r29 x25 (W (v157 + (1 : Int))))
 else (r29 false (W (v157 + (1 : Int)))))
 else (k5 v18)
def f9_29 (x1 : ByteArray) (x2 : (List Int) × Int) (x3 : ByteArray × Int × Int) (x4 : (List Int) × Int) (v13 : Int) (v14 : Int) (v12' : Int) (v15 : List Bool) (k5 : Bool → Option (Bool)) : Nat → Bool → Int → Option (Bool)
  | 0, _, _ => none
  | n + 1, v18, v157 => f9_29b (f9_29 x1 x2 x3 x4 v13 v14 v12' v15 k5 n) x1 x2 x3 x4 v13 v14 v12' v15 k5 v18 v157
def Lf9_29 (x1 : ByteArray) (x2 : (List Int) × Int) (x3 : ByteArray × Int × Int) (x4 : (List Int) × Int) (v13 : Int) (v14 : Int) (v12' : Int) (v15 : List Bool) (k5 : Bool → Option (Bool)) : Lp (Nat × Bool × Int) (Nat) (Bool) := ⟨⟨[3, 4, 5, 7, 8, 10, 12, 13, 14, 18, 155, 156, 157], [90015], [], []⟩, fun (_, v18, v157) => [.dat (strN x1), .dat (iN (ByteArray.size x1 : Int)), .dat (sl_iN x2.1), .dat (strN x3.1), .dat (iN x3.2.1), .dat (sl_iN x4.1), .dat (iN (v12')), .dat (iN v13), .dat (iN v14), .kb v18, .rs 90015 (List.length v15), .dat (iN (List.length v15 : Int)), .dat (iN v157)], fun (_, _, _) => [.row 4 1 (List.map bN v15)], fun (n, v18, v157) => f9_29 x1 x2 x3 x4 v13 v14 v12' v15 k5 n v18 v157, fun (_, v18, v157) m0 => [.dat (strN x1), .dat (iN (ByteArray.size x1 : Int)), .dat (sl_iN x2.1), .dat (strN x3.1), .dat (iN x3.2.1), .dat (sl_iN x4.1), .dat (iN (v12')), .dat (iN v13), .dat (iN v14), .kb v18, .rs 90015 m0, .dat (iN (List.length v15 : Int)), .dat (iN v157)], fun (_, _, _) _ => [.row 4 1 (List.map bN v15)], fun (_, _, _) => List.length v15, fun _ => rfl, fun _ => rfl⟩
theorem Ef9_29 {x1 x2 x3 x4 v13 v14 v12' v15 k5 n v18 v157} : (Lf9_29 x1 x2 x3 x4 v13 v14 v12' v15 k5).E (n, v18, v157) = f9_29 x1 x2 x3 x4 v13 v14 v12' v15 k5 n v18 v157 := rfl
def f9_c27 (N : Nat) (x1 : ByteArray) (x2 : (List Int) × Int) (x3 : ByteArray × Int × Int) (x4 : (List Int) × Int) (v13 : Int) (v14 : Int) (k4 : Int → Int → Option (Bool)) (v12' : Int) (v15 : List Bool) : Option (Bool) :=
 joinK (f9_c33 N x1 x2 x3 x4 v13 v14 k4 v12') fun k5 =>
 f9_29 x1 x2 x3 x4 v13 v14 v12' v15 k5 N true (0 : Int)
def Lf9_c27 (N : Nat) (x1 : ByteArray) (x2 : (List Int) × Int) (x3 : ByteArray × Int × Int) (x4 : (List Int) × Int) (v13 : Int) (v14 : Int) (k4 : Int → Int → Option (Bool)) (v12' : Int) : Lp ((List Bool)) (Nat) (Bool) := ⟨⟨[3, 4, 5, 7, 8, 10, 12, 13, 14, 15], [90015], [(.slot 15, 90015, 4, 1)], []⟩, fun v15 => [.dat (strN x1), .dat (iN (ByteArray.size x1 : Int)), .dat (sl_iN x2.1), .dat (strN x3.1), .dat (iN x3.2.1), .dat (sl_iN x4.1), .dat (iN (v12')), .dat (iN v13), .dat (iN v14), .rs 90015 (List.length v15)], fun v15 => [.row 4 1 (List.map bN v15)], fun v15 => f9_c27 N x1 x2 x3 x4 v13 v14 k4 v12' v15, fun _ m0 => [.dat (strN x1), .dat (iN (ByteArray.size x1 : Int)), .dat (sl_iN x2.1), .dat (strN x3.1), .dat (iN x3.2.1), .dat (sl_iN x4.1), .dat (iN (v12')), .dat (iN v13), .dat (iN v14), .rs 90015 m0], fun v15 _ => [.row 4 1 (List.map bN v15)], fun v15 => List.length v15, fun _ => rfl, fun _ => rfl⟩
theorem Ef9_c27 {N x1 x2 x3 x4 v13 v14 k4 v12' v15} : (Lf9_c27 N x1 x2 x3 x4 v13 v14 k4 v12').E v15 = f9_c27 N x1 x2 x3 x4 v13 v14 k4 v12' v15 := rfl
def f9_c21 (x1 : ByteArray) (x2 : (List Int) × Int) (x3 : ByteArray × Int × Int) (x4 : (List Int) × Int) (v13 : Int) (v14 : Int) (v12' : Int) (v16 : Int) (r20 : (List Bool) → Int → Option (Bool)) (v15' : List Bool) : Option (Bool) :=
 r20 (v15') (W (v16 + (1 : Int)))
def Lf9_c21 (x1 : ByteArray) (x2 : (List Int) × Int) (x3 : ByteArray × Int × Int) (x4 : (List Int) × Int) (v13 : Int) (v14 : Int) (v12' : Int) (v16 : Int) (r20 : (List Bool) → Int → Option (Bool)) : Lp ((List Bool)) (Nat) (Bool) := ⟨⟨[3, 4, 5, 7, 8, 10, 12, 13, 14, 15, 16], [90015], [(.slot 15, 90015, 4, 1)], []⟩, fun v15' => [.dat (strN x1), .dat (iN (ByteArray.size x1 : Int)), .dat (sl_iN x2.1), .dat (strN x3.1), .dat (iN x3.2.1), .dat (sl_iN x4.1), .dat (iN (v12')), .dat (iN v13), .dat (iN v14), .rs 90015 (List.length (v15')), .dat (iN v16)], fun v15' => [.row 4 1 (List.map bN (v15'))], fun v15' => f9_c21 x1 x2 x3 x4 v13 v14 v12' v16 r20 v15', fun _ m0 => [.dat (strN x1), .dat (iN (ByteArray.size x1 : Int)), .dat (sl_iN x2.1), .dat (strN x3.1), .dat (iN x3.2.1), .dat (sl_iN x4.1), .dat (iN (v12')), .dat (iN v13), .dat (iN v14), .rs 90015 m0, .dat (iN v16)], fun v15' _ => [.row 4 1 (List.map bN (v15'))], fun v15' => List.length (v15'), fun _ => rfl, fun _ => rfl⟩
theorem Ef9_c21 {x1 x2 x3 x4 v13 v14 v12' v16 r20 v15'} : (Lf9_c21 x1 x2 x3 x4 v13 v14 v12' v16 r20).E v15' = f9_c21 x1 x2 x3 x4 v13 v14 v12' v16 r20 v15' := rfl
def f9_24b (r24 : (List Bool) → Int → Option (Bool)) (x1 : ByteArray) (x2 : (List Int) × Int) (x3 : ByteArray × Int × Int) (x4 : (List Int) × Int) (v13 : Int) (v14 : Int) (v12' : Int) (v16 : Int) (k7 : (List Bool) → Option (Bool)) (v15' : List Bool) (v17 : Int) : Option (Bool) :=
 bif decide (v17 < (W (v16 + v14))) then ((ix (v15') v17).bind fun x29 =>
 (setx (v15') v17 true).bind fun x30 =>
 r24 x30 (W (v17 + (1 : Int))))
 else (k7 (v15'))
def f9_24 (x1 : ByteArray) (x2 : (List Int) × Int) (x3 : ByteArray × Int × Int) (x4 : (List Int) × Int) (v13 : Int) (v14 : Int) (v12' : Int) (v16 : Int) (k7 : (List Bool) → Option (Bool)) : Nat → (List Bool) → Int → Option (Bool)
  | 0, _, _ => none
  | n + 1, v15', v17 => f9_24b (f9_24 x1 x2 x3 x4 v13 v14 v12' v16 k7 n) x1 x2 x3 x4 v13 v14 v12' v16 k7 v15' v17
def Lf9_24 (x1 : ByteArray) (x2 : (List Int) × Int) (x3 : ByteArray × Int × Int) (x4 : (List Int) × Int) (v13 : Int) (v14 : Int) (v12' : Int) (v16 : Int) (k7 : (List Bool) → Option (Bool)) : Lp (Nat × (List Bool) × Int) (Nat) (Bool) := ⟨⟨[3, 4, 5, 7, 8, 10, 12, 13, 14, 15, 16, 17], [90015], [(.slot 15, 90015, 4, 1)], []⟩, fun (_, v15', v17) => [.dat (strN x1), .dat (iN (ByteArray.size x1 : Int)), .dat (sl_iN x2.1), .dat (strN x3.1), .dat (iN x3.2.1), .dat (sl_iN x4.1), .dat (iN (v12')), .dat (iN v13), .dat (iN v14), .rs 90015 (List.length (v15')), .dat (iN v16), .dat (iN v17)], fun (_, v15', _) => [.row 4 1 (List.map bN (v15'))], fun (n, v15', v17) => f9_24 x1 x2 x3 x4 v13 v14 v12' v16 k7 n v15' v17, fun (_, _, v17) m0 => [.dat (strN x1), .dat (iN (ByteArray.size x1 : Int)), .dat (sl_iN x2.1), .dat (strN x3.1), .dat (iN x3.2.1), .dat (sl_iN x4.1), .dat (iN (v12')), .dat (iN v13), .dat (iN v14), .rs 90015 m0, .dat (iN v16), .dat (iN v17)], fun (_, v15', _) _ => [.row 4 1 (List.map bN (v15'))], fun (_, v15', _) => List.length (v15'), fun _ => rfl, fun _ => rfl⟩
theorem Ef9_24 {x1 x2 x3 x4 v13 v14 v12' v16 k7 n v15' v17} : (Lf9_24 x1 x2 x3 x4 v13 v14 v12' v16 k7).E (n, v15', v17) = f9_24 x1 x2 x3 x4 v13 v14 v12' v16 k7 n v15' v17 := rfl
def f9_20b (r20 : (List Bool) → Int → Option (Bool)) (N : Nat) (x1 : ByteArray) (x2 : (List Int) × Int) (x3 : ByteArray × Int × Int) (x4 : (List Int) × Int) (v13 : Int) (v14 : Int) (v12' : Int) (k6 : (List Bool) → Option (Bool)) (v15 : List Bool) (v16 : Int) : Option (Bool) :=
 bif decide ((W (v16 + v14)) ≤ (ByteArray.size x1 : Int)) then (joinK (f9_c21 x1 x2 x3 x4 v13 v14 v12' v16 r20) fun k7 =>
 (subS x1 v16 (ByteArray.size x1 : Int)).bind fun x26 =>
 (subS x26 0 v14).bind fun x27 =>
 (subS x1 0 v14).bind fun x28 =>
 bif decide (x27 = x28) then (f9_24 x1 x2 x3 x4 v13 v14 v12' v16 k7 N v15 v16)
 else (k7 v15))
 else (k6 v15)
def f9_20 (N : Nat) (x1 : ByteArray) (x2 : (List Int) × Int) (x3 : ByteArray × Int × Int) (x4 : (List Int) × Int) (v13 : Int) (v14 : Int) (v12' : Int) (k6 : (List Bool) → Option (Bool)) : Nat → (List Bool) → Int → Option (Bool)
  | 0, _, _ => none
  | n + 1, v15, v16 => f9_20b (f9_20 N x1 x2 x3 x4 v13 v14 v12' k6 n) N x1 x2 x3 x4 v13 v14 v12' k6 v15 v16
def Lf9_20 (N : Nat) (x1 : ByteArray) (x2 : (List Int) × Int) (x3 : ByteArray × Int × Int) (x4 : (List Int) × Int) (v13 : Int) (v14 : Int) (v12' : Int) (k6 : (List Bool) → Option (Bool)) : Lp (Nat × (List Bool) × Int) (Nat) (Bool) := ⟨⟨[3, 4, 5, 7, 8, 10, 12, 13, 14, 15, 16], [90015], [(.slot 15, 90015, 4, 1)], []⟩, fun (_, v15, v16) => [.dat (strN x1), .dat (iN (ByteArray.size x1 : Int)), .dat (sl_iN x2.1), .dat (strN x3.1), .dat (iN x3.2.1), .dat (sl_iN x4.1), .dat (iN (v12')), .dat (iN v13), .dat (iN v14), .rs 90015 (List.length v15), .dat (iN v16)], fun (_, v15, _) => [.row 4 1 (List.map bN v15)], fun (n, v15, v16) => f9_20 N x1 x2 x3 x4 v13 v14 v12' k6 n v15 v16, fun (_, _, v16) m0 => [.dat (strN x1), .dat (iN (ByteArray.size x1 : Int)), .dat (sl_iN x2.1), .dat (strN x3.1), .dat (iN x3.2.1), .dat (sl_iN x4.1), .dat (iN (v12')), .dat (iN v13), .dat (iN v14), .rs 90015 m0, .dat (iN v16)], fun (_, v15, _) _ => [.row 4 1 (List.map bN v15)], fun (_, v15, _) => List.length v15, fun _ => rfl, fun _ => rfl⟩
theorem Ef9_20 {N x1 x2 x3 x4 v13 v14 v12' k6 n v15 v16} : (Lf9_20 N x1 x2 x3 x4 v13 v14 v12' k6).E (n, v15, v16) = f9_20 N x1 x2 x3 x4 v13 v14 v12' k6 n v15 v16 := rfl
def f9_c18 (N : Nat) (x1 : ByteArray) (x2 : (List Int) × Int) (x3 : ByteArray × Int × Int) (x4 : (List Int) × Int) (v13 : Int) (v14 : Int) (k4 : Int → Int → Option (Bool)) (v12' : Int) : Option (Bool) :=
 (mkS 1 false (ByteArray.size x1 : Int) (ByteArray.size x1 : Int)).bind fun x21 =>
 joinK (f9_c27 N x1 x2 x3 x4 v13 v14 k4 v12') fun k6 =>
 f9_20 N x1 x2 x3 x4 v13 v14 v12' k6 N x21 (0 : Int)
def Lf9_c18 (N : Nat) (x1 : ByteArray) (x2 : (List Int) × Int) (x3 : ByteArray × Int × Int) (x4 : (List Int) × Int) (v13 : Int) (v14 : Int) (k4 : Int → Int → Option (Bool)) (v12' : Int) : Lp (Unit) Unit (Bool) := lp0 ⟨[3, 4, 5, 7, 8, 10, 12, 13, 14], [], [], []⟩ (fun _ => [.dat (strN x1), .dat (iN (ByteArray.size x1 : Int)), .dat (sl_iN x2.1), .dat (strN x3.1), .dat (iN x3.2.1), .dat (sl_iN x4.1), .dat (iN (v12')), .dat (iN v13), .dat (iN v14)]) (fun _ => []) (fun _ => f9_c18 N x1 x2 x3 x4 v13 v14 k4 v12')
theorem Ef9_c18 {N x1 x2 x3 x4 v13 v14 k4 v12'} : (Lf9_c18 N x1 x2 x3 x4 v13 v14 k4 v12').E () = f9_c18 N x1 x2 x3 x4 v13 v14 k4 v12' := rfl
def f9_c16 (N : Nat) (x1 : ByteArray) (x2 : (List Int) × Int) (x3 : ByteArray × Int × Int) (x4 : (List Int) × Int) (v13 : Int) (v14 : Int) (k4 : Int → Int → Option (Bool)) (v12' : Int) : Option (Bool) :=
 joinK (f9_c18 N x1 x2 x3 x4 v13 v14 k4 v12') fun k8 =>
 bif decide (v14 < (ByteArray.size x3.1 : Int)) then ((chk (decide (v14 ≠ 0))).bind fun _ =>
 bif decide ((Int.tmod (ByteArray.size x1 : Int) v14) = (0 : Int)) then ((subS x1 0 v14).bind fun x31 =>
 (chk (decide (v14 ≠ 0))).bind fun _ =>
 (f42 N x31 (W (Int.tdiv (ByteArray.size x1 : Int) v14))).bind fun x32 =>
 bif decide (x32 = x1) then (some (false))
 else k8)
 else k8)
 else k8
def Lf9_c16 (N : Nat) (x1 : ByteArray) (x2 : (List Int) × Int) (x3 : ByteArray × Int × Int) (x4 : (List Int) × Int) (v13 : Int) (v14 : Int) (k4 : Int → Int → Option (Bool)) : Lp (Int) Unit (Bool) := lp0 ⟨[3, 4, 5, 7, 8, 10, 12, 13, 14], [], [], []⟩ (fun v12' => [.dat (strN x1), .dat (iN (ByteArray.size x1 : Int)), .dat (sl_iN x2.1), .dat (strN x3.1), .dat (iN x3.2.1), .dat (sl_iN x4.1), .dat (iN (v12')), .dat (iN v13), .dat (iN v14)]) (fun _ => []) (fun v12' => f9_c16 N x1 x2 x3 x4 v13 v14 k4 v12')
theorem Ef9_c16 {N x1 x2 x3 x4 v13 v14 k4 v12'} : (Lf9_c16 N x1 x2 x3 x4 v13 v14 k4).E v12' = f9_c16 N x1 x2 x3 x4 v13 v14 k4 v12' := rfl
def f9_c14 (N : Nat) (x1 : ByteArray) (x2 : (List Int) × Int) (x3 : ByteArray × Int × Int) (x4 : (List Int) × Int) (v12 : Int) (v13 : Int) (v14 : Int) (k4 : Int → Int → Option (Bool)) : Option (Bool) :=
 joinK (f9_c16 N x1 x2 x3 x4 v13 v14 k4) fun k9 =>
 (f38 N x1 v14).bind fun x33 =>
 bif x33 then (k9 (W (v12 + (1 : Int))))
 else (k9 v12)
def Lf9_c14 (N : Nat) (x1 : ByteArray) (x2 : (List Int) × Int) (x3 : ByteArray × Int × Int) (x4 : (List Int) × Int) (v12 : Int) (v13 : Int) (v14 : Int) (k4 : Int → Int → Option (Bool)) : Lp (Unit) Unit (Bool) := lp0 ⟨[3, 4, 5, 7, 8, 10, 12, 13, 14], [], [], []⟩ (fun _ => [.dat (strN x1), .dat (iN (ByteArray.size x1 : Int)), .dat (sl_iN x2.1), .dat (strN x3.1), .dat (iN x3.2.1), .dat (sl_iN x4.1), .dat (iN v12), .dat (iN v13), .dat (iN v14)]) (fun _ => []) (fun _ => f9_c14 N x1 x2 x3 x4 v12 v13 v14 k4)
theorem Ef9_c14 {N x1 x2 x3 x4 v12 v13 v14 k4} : (Lf9_c14 N x1 x2 x3 x4 v12 v13 v14 k4).E () = f9_c14 N x1 x2 x3 x4 v12 v13 v14 k4 := rfl
def f9_10b (r10 : Int → Int → Int → Option (Bool)) (N : Nat) (x1 : ByteArray) (x2 : (List Int) × Int) (x3 : ByteArray × Int × Int) (x4 : (List Int) × Int) (k3 : Int → Int → Option (Bool)) (v12 : Int) (v13 : Int) (v14 : Int) : Option (Bool) :=
 bif decide (v14 ≤ (ByteArray.size x1 : Int)) then (joinK (f9_c11 x1 x2 x3 x4 v14 r10) fun k4 =>
 joinK (f9_c14 N x1 x2 x3 x4 v12 v13 v14 k4) fun k10 =>
 (f38 N x1 v14).bind fun x34 =>
 bif decide (v12 < (List.length x2.1 : Int)) then ((ix x2.1 v12).bind fun x35 =>
 bif !(x34 == (decide (x35 = v14))) then (some (false))
 else k10)
 else (bif !(x34 == false) then (some (false))
 else k10))
 else (k3 v12 v13)
def f9_10 (N : Nat) (x1 : ByteArray) (x2 : (List Int) × Int) (x3 : ByteArray × Int × Int) (x4 : (List Int) × Int) (k3 : Int → Int → Option (Bool)) : Nat → Int → Int → Int → Option (Bool)
  | 0, _, _, _ => none
  | n + 1, v12, v13, v14 => f9_10b (f9_10 N x1 x2 x3 x4 k3 n) N x1 x2 x3 x4 k3 v12 v13 v14
def Lf9_10 (N : Nat) (x1 : ByteArray) (x2 : (List Int) × Int) (x3 : ByteArray × Int × Int) (x4 : (List Int) × Int) (k3 : Int → Int → Option (Bool)) : Lp (Nat × Int × Int × Int) Unit (Bool) := lp0 ⟨[3, 4, 5, 7, 8, 10, 12, 13, 14], [], [], []⟩ (fun (_, v12, v13, v14) => [.dat (strN x1), .dat (iN (ByteArray.size x1 : Int)), .dat (sl_iN x2.1), .dat (strN x3.1), .dat (iN x3.2.1), .dat (sl_iN x4.1), .dat (iN v12), .dat (iN v13), .dat (iN v14)]) (fun (_, _, _, _) => []) (fun (n, v12, v13, v14) => f9_10 N x1 x2 x3 x4 k3 n v12 v13 v14)
theorem Ef9_10 {N x1 x2 x3 x4 k3 n v12 v13 v14} : (Lf9_10 N x1 x2 x3 x4 k3).E (n, v12, v13, v14) = f9_10 N x1 x2 x3 x4 k3 n v12 v13 v14 := rfl
def f9 (N : Nat) (a0 : List Int) : Option (Bool) :=
 (f41 N a0 (24 : Int)).bind fun x1 =>
 (f16 N x1).bind fun x2 =>
 (f18 N x1).bind fun x3 =>
 (f20 N x1).bind fun x4 =>
 bif decide (¬ x2.2 = (0 : Int)) then (some (false))
 else (bif decide (¬ x3.2.2 = (0 : Int)) then (some (false))
 else (bif decide (¬ x4.2 = (0 : Int)) then (some (false))
 else (bif decide (x3.2.1 < (1 : Int)) then (some (false))
 else (bif decide ((ByteArray.size x3.1 : Int) < (1 : Int)) then (some (false))
 else (bif decide (¬ (W ((ByteArray.size x3.1 : Int) * x3.2.1)) = (ByteArray.size x1 : Int)) then (some (false))
 else ((f42 N x3.1 x3.2.1).bind fun x5 =>
 bif decide (¬ x5 = x1) then (some (false))
 else (joinK (f9_c37 N x1 x2 x3 x4) fun k3 =>
 f9_10 N x1 x2 x3 x4 k3 N (0 : Int) (0 : Int) (1 : Int))))))))
def G9 (ds : List D) (d : D) : Prop := ∃ (N : Nat) (a0 : List Int) (r : Bool), ds = [sl_u8N a0] ∧ f9 N a0 = some r ∧ d = bN r
set_option maxRecDepth 20000 in
set_option maxHeartbeats 4000000 in
theorem P9 : PureOK Try.prog 9 G9 := by
  refine pure_of_vc (c := mkCtx tyTree [(42, true, lendPg [[0], [0]] G42), (41, true, lendPg [[1], [0]] G41), (38, true, lendPg [[0], [0]] G38), (20, true, purePg [[0]] G20), (18, true, lendPg [[0]] G18), (16, true, purePg [[0]] G16), (15, true, lendPg [] G15)]) rfl tyOK (ctx_lend (callable Try.func42 rfl rfl) P42 (ctx_lend (callable Try.func41 rfl rfl) P41 (ctx_lend (callable Try.func38 rfl rfl) P38 (ctx_cons (callable Try.func20 rfl rfl) P20 (ctx_lend (callable Try.func18 rfl rfl) P18 (ctx_cons (callable Try.func16 rfl rfl) P16 (ctx_lend (callable Try.func15 rfl rfl) P15 (ctx_nil)))))))) [[0]] 1 Try.func9 rfl rfl (by decide) (by kernel_rfl) ?_
  rintro ds d ⟨N, a0, r, rfl, hF, rfl⟩ hok
  clear hok
  refine ⟨rfl, ?_⟩
  show vc _ _ _ _ ⟨[(0, .dat (sl_u8N a0))], []⟩ _
  unfold f9 at hF
  repeat' (first
    | ((with_reducible first | refine q0 _ _ ?_ | refine q1 _ _ _ _ ?_ | refine q2 _ _ _ ?_); clear Q q0 q1 q2)
    | ((with_reducible first | refine seq_op ?hx (fun Q q0 q1 q2 => ?_) | refine draw_op ?hx (fun Q q0 q1 q2 => ?_) | refine seq_op0 ?hx (fun Q q0 q1 q2 => ?_) | refine draw_op0 ?hx (fun Q q0 q1 q2 => ?_)); (case hx => exact rfl); conv => whnf)
    | ((with_reducible first | refine seq_off ?hx ?_ | refine seq_off0 ?hx ?_ | refine draw_off ?hx ?_ | refine draw_off0 ?hx ?_ | refine k_blk_out ?hx ?_ | refine vc_condT ?hx ?_); (case hx => exact rfl))
    | ((with_reducible refine seq_id ?_); (first | ((first | refine seq_opK rfl ?hy (fun Q q0 q1 q2 => ?_) | refine seq_opK0 rfl ?hy (fun Q q0 q1 q2 => ?_)); (case hy => first | assumption | exact notT (by assumption) | exact rfl); conv => whnf) | ((first | refine seq_offK rfl ?hy ?_ | refine seq_offK0 rfl ?hy ?_); (case hy => first | assumption | exact notF (by assumption) | exact rfl)) | (revert hF; (with_reducible first | refine seq_opF ?hx ?_ ?_ | refine seq_opF0 ?hx ?_ ?_); (case hx => exact rfl); (intro hc hF Q q0 q1 q2; conv => whnf); rotate_left; (intro hc hF); rotate_right) | (revert hF; (with_reducible first | refine seq_opN ?hx ?_ ?_ | refine seq_opN0 ?hx ?_ ?_); (case hx => exact rfl); (intro hc hF); rotate_left; (intro hc hF Q q0 q1 q2; conv => whnf); rotate_right)))
    | ((with_reducible refine draw_id ?_); (first | ((first | refine draw_opK rfl ?hy (fun Q q0 q1 q2 => ?_) | refine draw_opK0 rfl ?hy (fun Q q0 q1 q2 => ?_)); (case hy => first | assumption | exact notT (by assumption) | exact rfl); conv => whnf) | ((first | refine draw_offK rfl ?hy ?_ | refine draw_offK0 rfl ?hy ?_); (case hy => first | assumption | exact notF (by assumption) | exact rfl)) | (revert hF; (with_reducible first | refine draw_opF ?hx ?_ ?_ | refine draw_opF0 ?hx ?_ ?_); (case hx => exact rfl); (intro hc hF Q q0 q1 q2; conv => whnf); rotate_left; (intro hc hF); rotate_right) | (revert hF; (with_reducible first | refine draw_opN ?hx ?_ ?_ | refine draw_opN0 ?hx ?_ ?_); (case hx => exact rfl); (intro hc hF); rotate_left; (intro hc hF Q q0 q1 q2; conv => whnf); rotate_right)))
    | ((with_reducible refine cond_id ?_); (first | ((refine condKT rfl ?hy ?_); (case hy => first | assumption | exact notT (by assumption) | exact rfl)) | ((refine condKF rfl ?hy ?_); (case hy => first | assumption | exact notF (by assumption) | exact rfl)) | (revert hF; (with_reducible refine condF ?hx ?_ ?_); (case hx => exact rfl); all_goals (intro hc hF))))
    | ((with_reducible refine seq_nil ?_); (first | ((with_reducible refine hR _ ?_); clear R hR) | ((with_reducible refine hL _ ?_); clear L hL)))
    | ((with_reducible refine draw_nil ?_); (with_reducible refine hR _ _ ?hx ?_); (case hx => kernel_rfl); (first | clear R hR | clear hR))
    | ((with_reducible first | refine int_step ?_ | refine len_step ?_ | refine idx2 (by assumption) ?_ | refine idx3 (by assumption) ?_); conv => whnf)
    | (with_reducible first | refine vc_block ?_ | refine vc_skip ?_ | refine vc_ret ?_ | refine vc_exit ?_ | refine vc_region (fun R hR => ?_) | refine k_seq_ret ?_ | refine k_seq_exit ?_ | refine k_blk ?_ | refine k_blk_ret ?_ | refine k_blk_here ?_ | refine k_loop_ret ?_ | refine k_loop_exit ?_)
    | ((with_reducible refine vc_seqN [53, 52, 47, 37, 11, 33, 27, 21, 18, 16, 14] ?hx ?_); (case hx => exact rfl))
    | ((with_reducible refine vc_draw ?hx (fun R hR => ?_)); (case hx => exact rfl))
    | (revert hF; (refine Lp.cut4 Lf9_c53 f9_c53 53 rfl rfl ?_ ?_); (intro hF); rotate_left; (rintro _ hF; dsimp only [Lf9_c53] at hF; unfold f9_c53 at hF); rotate_right)
    | exact Lp.head Ef9_c53 hF () ⟨_, rfl, rfl, rfl, rfl⟩ rfl
    | (revert hF; (refine Lp.cut5 Lf9_c52 f9_c52 52 rfl rfl ?_ ?_); (intro hF); rotate_left; (rintro _ hF; dsimp only [Lf9_c52] at hF; unfold f9_c52 at hF); rotate_right)
    | exact Lp.head Ef9_c52 hF () ⟨_, rfl, rfl, rfl, rfl⟩ rfl
    | (revert hF; (refine Lp.loop Ef9_48 () rfl ⟨_, rfl, rfl, rfl, rfl⟩ rfl (fun _ => rfl) ?_); rintro n v24 hF; dsimp only [Lf9_48, f9_48] at hF; unfold f9_48b at hF)
    | exact Lp.back Ef9_48 hF () ⟨_, rfl, rfl, rfl, rfl⟩ rfl
    | (revert hF; (refine Lp.cut7 Lf9_c47 f9_c47 47 rfl rfl ?_ ?_); (intro hF); rotate_left; (rintro _ hF; dsimp only [Lf9_c47] at hF; unfold f9_c47 at hF); rotate_right)
    | exact Lp.head Ef9_c47 hF () ⟨_, rfl, rfl, rfl, rfl⟩ rfl
    | (revert hF; (refine Lp.loop Ef9_43 () rfl ⟨_, rfl, rfl, rfl, rfl⟩ rfl (fun _ => rfl) ?_); rintro n v23 hF; dsimp only [Lf9_43, f9_43] at hF; unfold f9_43b at hF)
    | exact Lp.back Ef9_43 hF () ⟨_, rfl, rfl, rfl, rfl⟩ rfl
    | (revert hF; (refine Lp.loop Ef9_40 () rfl ⟨_, rfl, rfl, rfl, rfl⟩ rfl (fun _ => rfl) ?_); rintro n v211 hF; dsimp only [Lf9_40, f9_40] at hF; unfold f9_40b at hF)
    | exact Lp.back Ef9_40 hF () ⟨_, rfl, rfl, rfl, rfl⟩ rfl
    | (revert hF; (refine Lp.cut5 Lf9_c37 f9_c37 37 rfl rfl ?_ ?_); (intro hF); rotate_left; (rintro ⟨v12, v13⟩ hF; dsimp only [Lf9_c37] at hF; unfold f9_c37 at hF); rotate_right)
    | exact Lp.head Ef9_c37 hF () ⟨_, rfl, rfl, rfl, rfl⟩ rfl
    | (revert hF; (refine Lp.cut6 Lf9_c11 f9_c11 11 rfl rfl ?_ ?_); (intro hF); rotate_left; (rintro ⟨v12', v13'⟩ hF; dsimp only [Lf9_c11] at hF; unfold f9_c11 at hF); rotate_right)
    | exact Lp.head Ef9_c11 hF () ⟨_, rfl, rfl, rfl, rfl⟩ rfl
    | (revert hF; (refine Lp.cut9 Lf9_c33 f9_c33 33 rfl rfl ?_ ?_); (intro hF); rotate_left; (rintro v18 hF; dsimp only [Lf9_c33] at hF; unfold f9_c33 at hF); rotate_right)
    | exact Lp.head Ef9_c33 hF () ⟨_, rfl, rfl, rfl, rfl⟩ rfl
    | (revert hF; (refine Lp.loop Ef9_29 _ rfl ⟨_, rfl, rfl, rfl, rfl⟩ (by first | exact rfl | ((try dsimp only [Lf9_29]); first | assumption | omega | (simp only [List.length_set]; done))) (fun _ => rfl) ?_); rintro n ⟨v18, v157⟩ hF; dsimp only [Lf9_29, f9_29] at hF; unfold f9_29b at hF)
    | exact Lp.back Ef9_29 hF _ ⟨_, rfl, rfl, rfl, rfl⟩ (by first | exact rfl | ((try dsimp only [Lf9_29]); first | assumption | omega | (simp only [List.length_set]; done)))
    | (revert hF; (refine Lp.cut9 Lf9_c27 f9_c27 27 rfl rfl ?_ ?_); (intro hF); rotate_left; (rintro v15 hF; dsimp only [Lf9_c27] at hF; unfold f9_c27 at hF); rotate_right)
    | exact Lp.head Ef9_c27 hF _ ⟨_, rfl, rfl, rfl, rfl⟩ (by first | exact rfl | ((try dsimp only [Lf9_c27]); first | assumption | omega | (simp only [List.length_set]; done)))
    | (revert hF; (refine Lp.cut9 Lf9_c21 f9_c21 21 rfl rfl ?_ ?_); (intro hF); rotate_left; (rintro v15' hF; dsimp only [Lf9_c21] at hF; unfold f9_c21 at hF); rotate_right)
    | exact Lp.head Ef9_c21 hF _ ⟨_, rfl, rfl, rfl, rfl⟩ (by first | exact rfl | ((try dsimp only [Lf9_c21]); first | assumption | omega | (simp only [List.length_set]; done)))
    | (revert hF; (refine Lp.loop Ef9_24 _ rfl ⟨_, rfl, rfl, rfl, rfl⟩ (by first | exact rfl | ((try dsimp only [Lf9_24]); first | assumption | omega | (simp only [List.length_set]; done))) (fun _ => rfl) ?_); rintro n ⟨v15', v17⟩ hF; dsimp only [Lf9_24, f9_24] at hF; unfold f9_24b at hF)
    | exact Lp.back Ef9_24 hF _ ⟨_, rfl, rfl, rfl, rfl⟩ (by first | exact rfl | ((try dsimp only [Lf9_24]); first | assumption | omega | (simp only [List.length_set]; done)))
    | (revert hF; (refine Lp.loop Ef9_20 _ rfl ⟨_, rfl, rfl, rfl, rfl⟩ (by first | exact rfl | ((try dsimp only [Lf9_20]); first | assumption | omega | (simp only [List.length_set]; done))) (fun _ => rfl) ?_); rintro n ⟨v15, v16⟩ hF; dsimp only [Lf9_20, f9_20] at hF; unfold f9_20b at hF)
    | exact Lp.back Ef9_20 hF _ ⟨_, rfl, rfl, rfl, rfl⟩ (by first | exact rfl | ((try dsimp only [Lf9_20]); first | assumption | omega | (simp only [List.length_set]; done)))
    | (revert hF; (refine Lp.cut9 Lf9_c18 f9_c18 18 rfl rfl ?_ ?_); (intro hF); rotate_left; (rintro _ hF; dsimp only [Lf9_c18] at hF; unfold f9_c18 at hF); rotate_right)
    | exact Lp.head Ef9_c18 hF () ⟨_, rfl, rfl, rfl, rfl⟩ rfl
    | (revert hF; (refine Lp.cut8 Lf9_c16 f9_c16 16 rfl rfl ?_ ?_); (intro hF); rotate_left; (rintro v12' hF; dsimp only [Lf9_c16] at hF; unfold f9_c16 at hF); rotate_right)
    | exact Lp.head Ef9_c16 hF () ⟨_, rfl, rfl, rfl, rfl⟩ rfl
    | (revert hF; (refine Lp.cut9 Lf9_c14 f9_c14 14 rfl rfl ?_ ?_); (intro hF); rotate_left; (rintro _ hF; dsimp only [Lf9_c14] at hF; unfold f9_c14 at hF); rotate_right)
    | exact Lp.head Ef9_c14 hF () ⟨_, rfl, rfl, rfl, rfl⟩ rfl
    | (revert hF; (refine Lp.loop Ef9_10 () rfl ⟨_, rfl, rfl, rfl, rfl⟩ rfl (fun _ => rfl) ?_); rintro n ⟨v12, v13, v14⟩ hF; dsimp only [Lf9_10, f9_10] at hF; unfold f9_10b at hF)
    | exact Lp.back Ef9_10 hF () ⟨_, rfl, rfl, rfl, rfl⟩ rfl
    | (revert hF; (with_reducible refine G15.lend ?hx ?_); (case hx => exact rfl); intro v hF; conv => whnf)
    | (revert hF; (with_reducible refine G16.step ?hx ?_); (case hx => exact rfl); intro v hF; conv => whnf)
    | (revert hF; (with_reducible refine G18.lend ?hx ?_); (case hx => exact rfl); intro v hF; conv => whnf)
    | (revert hF; (with_reducible refine G20.step ?hx ?_); (case hx => exact rfl); intro v hF; conv => whnf)
    | (revert hF; (with_reducible refine G38.lend ?hx ?_); (case hx => exact rfl); intro v hF; conv => whnf)
    | (revert hF; (with_reducible refine G41.lend ?hx ?_); (case hx => exact rfl); intro v hF; conv => whnf)
    | (revert hF; (with_reducible refine G42.lend ?hx ?_); (case hx => exact rfl); intro v hF; conv => whnf)
    | (revert hF; (refine mkS_row (d := bN) ?hz ?_); (case hz => exact rfl); intro x hF; conv => whnf)
    | (revert hF; (refine subS_step ?_); intro x hF; conv => whnf)
    | (revert hF; (with_reducible refine idx1 ?hn ?_); (case hn => first | exact rfl | exact (List.length_map _) | assumption | omega | simp); intro x hx hF; conv => whnf)
    | ((refine row_all ?hn ?_); (case hn => first | exact rfl | (simp; done) | (simp; omega)); conv => whnf)
    | ((with_reducible refine le_step ?hn ?_); (case hn => first | exact rfl | assumption | omega); conv => whnf)
    | ((with_reducible have hG := setx_fact hF); clear hF; (refine setx_step hG ?hs (fun q hl hF => ?_)); (case hs => exact rfl); clear hG; conv => whnf)
    | ((refine ⟨?hx, ?_⟩); (case hx => exact ⟨rfl, Nat.le_of_ble_eq_true rfl, rfl⟩); conv => whnf)
    | ((with_reducible refine ex_step ?_); conv => whnf)
    | ((with_reducible have hG := chk_fact hF); clear hF; (refine ⟨?hx, ?_⟩); (case hx => (first | exact of_decide_eq_true hG.1 | exact hG.1)); have hF := hG.2; clear hG; conv => whnf)
    | ((with_reducible refine both_T ?hx ?_); (case hx => first | exact rfl | assumption | exact notT (by assumption)); conv => whnf)
    | ((with_reducible refine both_F ?hx ?_); (case hx => first | exact rfl | assumption | exact notF (by assumption)); conv => whnf)
    | (revert hF; (with_reducible refine ite_step ?_ ?_) <;> (intro hc hF; conv => whnf))
    | ((with_reducible refine vc_condF ?hx ?_); (case hx => exact rfl))
    | (show retD _ _ _ _ _ _; conv => whnf)
    | ((refine ⟨?hx, trivial⟩); (case hx => (cases hF; exact rfl)))
    | ((refine ⟨?hx, ?_⟩); (case hx => decide); conv => whnf)
    | with_reducible refine k_seq ?_
    | (have hF : (none : Option _) = some _ := hF; cases hF))
end
end Go.Vc
namespace Go.Vc
set_option linter.unusedVariables false
set_option linter.unnecessarySimpa false
set_option linter.unusedSimpArgs false
section
variable {α β σ : Type}
theorem iffD {α : Type} {p q : Prop} {dp : Decidable p} {dq : Decidable q} {a b : α} (h : p ↔ q) : @ite α p dp a b = @ite α q dq a b := by
  by_cases hp : p
  · rw [if_pos hp, if_pos (h.1 hp)]
  · rw [if_neg hp, if_neg fun hq => hp (h.2 hq)]
theorem loop_inv {F : Nat → σ → Int → Option β} {k : σ → Option β} (g : σ → Nat → σ) (Inv : Nat → σ → Prop) (len : Nat)
    (hs : ∀ n s i, i < len → Inv i s → F (n + 1) s (i : Int) = F n (g s i) ((i + 1 : Nat) : Int)) (hi : ∀ s i, i < len → Inv i s → Inv (i + 1) (g s i)) (he : ∀ n s, F (n + 1) s (len : Int) = k s) :
    ∀ n i s, i ≤ len → len - i < n → Inv i s → F n s (i : Int) = k ((List.range' i (len - i)).foldl g s) ∧ Inv len ((List.range' i (len - i)).foldl g s) := by
  intro n
  induction n with
  | zero => intro i s _ h; omega
  | succ n ih =>
    intro i s hl hn h0
    by_cases h : i = len
    · subst h
      rw [he, Nat.sub_self]; exact ⟨rfl, h0⟩
    · rw [hs n s i (by omega) h0]
      obtain ⟨h1, h2⟩ := ih (i + 1) (g s i) (by omega) (by omega) (hi s i (by omega) h0)
      rw [show len - i = (len - (i + 1)) + 1 by omega, List.range'_succ]
      exact ⟨h1, h2⟩
theorem loop_inv0 {F : Nat → σ → Int → Option β} {k : σ → Option β} (g : σ → Nat → σ) (Inv : Nat → σ → Prop) (len : Nat)
    (hs : ∀ n s i, i < len → Inv i s → F (n + 1) s (i : Int) = F n (g s i) ((i + 1 : Nat) : Int)) (hi : ∀ s i, i < len → Inv i s → Inv (i + 1) (g s i)) (he : ∀ n s, F (n + 1) s (len : Int) = k s)
    {n : Nat} {s : σ} (hn : len < n) (h0 : Inv 0 s) : F n s 0 = k ((List.range len).foldl g s) ∧ Inv len ((List.range len).foldl g s) := by
  have := loop_inv g Inv len hs hi he n 0 s (by omega) (by omega) h0
  rw [List.range_eq_range']
  simpa using this
end
end Go.Vc
namespace Go.Vc
open Go.Proofs
set_option linter.unusedVariables false
set_option linter.unnecessarySimpa false
set_option linter.unusedSimpArgs false
end Go.Vc
namespace Go.Vc
open Go.Proofs
set_option linter.unusedVariables false
set_option linter.unnecessarySimpa false
set_option linter.unusedSimpArgs false
end Go.Vc
namespace Go.Vc
set_option linter.unusedVariables false
set_option linter.unnecessarySimpa false
set_option linter.unusedSimpArgs false
set_option linter.unusedSimpArgs false
section
variable {l m : List UInt8}
@[simp] theorem strC_size : (strC l).size = l.length := by simp [strC, ByteArray.size]
@[simp] theorem strC_toList : (strC l).data.toList = l := by simp [strC]
theorem strC_inj : strC l = strC m ↔ l = m := by
  constructor
  · intro h
    have := congrArg (fun s : ByteArray => s.data.toList) h
    simpa using this
  · rintro rfl; rfl
theorem emptyS_eq : emptyS = strC [] := rfl
theorem extract_L {a b : Nat} : (strC l).extract a b = strC ((l.take b).drop a) := by
  have h : ∀ s : ByteArray, s = strC s.data.toList := fun s => by cases s; simp [strC]
  rw [h ((strC l).extract a b)]
  simp [ByteArray.data_extract, List.drop_take, strC]
theorem subS_L {a b : Nat} (h : a ≤ b) (h' : b ≤ l.length) : subS (strC l) (a : Int) (b : Int) = some (strC ((l.take b).drop a)) := by
  unfold subS
  rw [if_pos ⟨by omega, by omega, by simp; omega⟩]
  simp only [Int.toNat_natCast, subStr, extract_L]
theorem append_L : strC l ++ strC m = strC (l ++ m) := by
  have h : ∀ s : ByteArray, s = strC s.data.toList := fun s => by cases s; simp [strC]
  rw [h (strC l ++ strC m)]
  simp [strC]
theorem addS_L (h : l.length + m.length ≤ 1000000) : addS (strC l) (strC m) = some (strC (l ++ m)) := by
  unfold addS
  rw [if_pos (by simp [maxLen]; omega), append_L]
theorem byteAt_L {i : Nat} (h : i < l.length) : byteAt (strC l) i = (l[i].toNat : Int) := by
  unfold byteAt
  simp [h]
theorem idxS_L {i : Nat} (h : i < l.length) : idxS (strC l) (i : Int) = some (l[i].toNat : Int) := by
  unfold idxS
  rw [if_pos ⟨by omega, by simp; omega⟩]
  simp only [Int.toNat_natCast, byteAt_L h]
theorem toNat_inj {a b : UInt8} : (a.toNat : Int) = (b.toNat : Int) ↔ a = b := by
  constructor
  · intro h; exact UInt8.toNat_inj.1 (by omega)
  · rintro rfl; rfl
theorem rune_lo {p : Nat} (h : p < l.length) (hb : l[p].toNat < 128) : runeAt (strC l) p = ((l[p].toNat : Int), p + 1) := by
  have hs : p < (strC l).size := by simpa using h
  have he : (strC l)[p] = l[p] := by
    have h1 : byteAt (strC l) p = _ := (str_get (strC l) p hs).2.symm
    have h2 := byteAt_L h
    exact toNat_inj.1 (h1.symm.trans h2)
  unfold runeAt
  rw [decode_ascii (strC l) p hs (by rw [he]; omega)]
  simp only [he]
  rfl
theorem rune_hi {p : Nat} (h : p < l.length) (hb : 128 ≤ l[p].toNat) : 128 ≤ (runeAt (strC l) p).1 := by
  have hs : p < (strC l).size := by simpa using h
  have he : (strC l)[p] = l[p] := by
    have h1 : byteAt (strC l) p = _ := (str_get (strC l) p hs).2.symm
    have h2 := byteAt_L h
    exact toNat_inj.1 (h1.symm.trans h2)
  have := (decode_high (strC l) p hs (by rw [he]; omega)).1
  show (128 : Int) ≤ ((Utf8.decode (strC l) p).1 : Int)
  omega
end
def okb (b : UInt8) : Bool := decide (97 ≤ b.toNat) && decide (b.toNat ≤ 122)
def chk8 (l : List UInt8) : Int := if l = [] then 1 else if 24 < l.length then 19 else if l.all okb then 0 else 9
theorem drop_all {l : List UInt8} {p : Nat} (h : p < l.length) : (l.drop p).all okb = (okb l[p] && (l.drop (p + 1)).all okb) := by
  rw [List.drop_eq_getElem_cons h]; rfl
theorem okb_lo {b : UInt8} (h : (b.toNat : Int) < 97) : okb b = false := by simp [okb]; omega
theorem okb_hi {b : UInt8} (h : (122 : Int) < (b.toNat : Int)) : okb b = false := by simp [okb]; omega
theorem okb_in {b : UInt8} (h : ¬ (b.toNat : Int) < 97) (h' : ¬ (122 : Int) < (b.toNat : Int)) : okb b = true := by simp [okb]; omega
theorem f23_loop {l : List UInt8} {k0 : Option Int} : ∀ (n p : Nat), l.length - p < n → p ≤ l.length → f23_6 (strC l) k0 n p = if (l.drop p).all okb then k0 else some 9 := by
  intro n
  induction n with
  | zero => intro p h; omega
  | succ n ih =>
    intro p hn hp
    unfold f23_6 f23_6b
    by_cases h : p < l.length
    · simp only [strC_size, h, decide_true, cond_true, Option.bind_some]
      rw [drop_all h]
      by_cases hb : l[p].toNat < 128
      · rw [rune_lo h hb]
        by_cases h1 : (l[p].toNat : Int) < 97
        · simp [h1, okb_lo h1]
        · by_cases h2 : (122 : Int) < l[p].toNat
          · simp [h1, h2, okb_hi h2]
          · simp only [h1, h2, decide_false, cond_false, okb_in h1 h2, Bool.true_and]
            rw [ih (p + 1) (by omega) (by omega)]
      · have := rune_hi h (by omega)
        simp only [show ¬ (runeAt (strC l) p).1 < 97 by omega, show (122 : Int) < (runeAt (strC l) p).1 by omega, decide_false, decide_true, cond_false, cond_true]
        rw [okb_hi (by omega)]; simp
    · have : p = l.length := by omega
      subst this
      simp
theorem f23_eq {l : List UInt8} {N : Nat} (hN : 30 ≤ N) : f23 N (strC l) = some (chk8 l) := by
  unfold f23 chk8
  by_cases h : l = []
  · subst h; simp [emptyS_eq]
  · simp only [emptyS_eq, strC_inj, h, decide_false, cond_false, strC_size, if_false]
    by_cases h2 : 24 < l.length
    · simp [h2, show (24 : Int) < (l.length : Int) by omega]
    · simp only [show ¬ (24 : Int) < (l.length : Int) by omega, decide_false, cond_false, joinK]
      rw [f23_loop N 0 (by omega) (by omega)]
      simp [h2, f23_c10]
      split <;> rfl
theorem chk8_zero {l : List UInt8} : chk8 l = 0 ↔ l ≠ [] ∧ l.length ≤ 24 ∧ l.all okb = true := by
  unfold chk8
  by_cases h : l = [] <;> by_cases h2 : 24 < l.length <;> by_cases h3 : l.all okb = true <;> simp [h, h2, h3] <;> omega
def isP (l : List UInt8) (p : Nat) : Bool := (l.drop p).isPrefixOf l
theorem isP_iff {l : List UInt8} {p : Nat} : isP l p = true ↔ ∀ i, (h : i + p < l.length) → l[i] = l[i + p] := by
  unfold isP
  rw [List.isPrefixOf_iff_prefix, List.prefix_iff_getElem?]
  constructor
  · intro h i hi
    have := h i (by simp; omega)
    rw [List.getElem_drop] at this
    rw [List.getElem?_eq_getElem (by omega)] at this
    have := Option.some.inj this
    rw [this]
    congr 1
    omega
  · intro h i hi
    simp at hi
    rw [List.getElem?_eq_getElem (by omega), h i (by omega), List.getElem_drop]
    congr 2
    omega
end Go.Vc
namespace Go.Vc
open Go.Proofs
set_option linter.unusedVariables false
set_option linter.unnecessarySimpa false
set_option linter.unusedSimpArgs false
end Go.Vc
namespace Go.Vc
open Go.Proofs
set_option linter.unusedVariables false
set_option linter.unnecessarySimpa false
set_option linter.unusedSimpArgs false
end Go.Vc
namespace Go.Vc
open Go.Proofs
set_option linter.unusedVariables false
set_option linter.unnecessarySimpa false
set_option linter.unusedSimpArgs false
end Go.Vc
namespace Go.Vc
open Go.Proofs
set_option linter.unusedVariables false
set_option linter.unnecessarySimpa false
set_option linter.unusedSimpArgs false
end Go.Vc
namespace Go.Vc
open Go.Proofs
set_option linter.unusedVariables false
set_option linter.unnecessarySimpa false
set_option linter.unusedSimpArgs false
set_option linter.unusedSimpArgs false
def perN (l : List UInt8) : List Nat := (List.range' 1 l.length).filter (isP l)
def toI (l : List Nat) : List Int := l.map fun (i : Nat) => (i : Int)
theorem isPer_L {l : List UInt8} {p : Nat} : isPer (strC l) p = isP l p := by
  unfold isPer isP Lib.hasPrefix
  rw [strC_size, extract_L, strC_toList, strC_toList, List.take_length]
theorem perL_L {l : List UInt8} : perL (strC l) = toI (perN l) := by
  unfold perL perTo perN toI
  rw [strC_size, Nat.add_sub_cancel]
  congr 1
  exact List.filter_congr fun x _ => isPer_L
theorem f47_eq {l : List UInt8} {N : Nat} (hl : l.length ≤ 1000) : f47 N (strC l) = some (toI (perN l)) := by
  unfold f47
  rw [if_pos (by simpa using hl), perL_L]
theorem foldl_gather {p : Nat → Bool} : ∀ (L : List Nat) (s : List Int), L.foldl (fun s i => if p i = true then s ++ [(i : Int)] else s) s = s ++ toI (L.filter p) := by
  intro L
  induction L with
  | nil => intro s; simp [toI]
  | cons x L ih =>
    intro s
    rw [List.foldl_cons, ih]
    by_cases h : p x = true <;> simp [h, toI]
theorem gather_loop {β : Type} {F : Nat → List Int → Int → Option β} {k : List Int → Option β} {p : Nat → Bool} (m : Nat)
    (hs : ∀ n s i, 1 ≤ i → i ≤ m → s.length ≤ i → F (n + 1) s (i : Int) = F n (if p i = true then s ++ [(i : Int)] else s) ((i + 1 : Nat) : Int)) (he : ∀ n s, F (n + 1) s ((m + 1 : Nat) : Int) = k s)
    {n : Nat} (hn : m < n) : F n [] (1 : Int) = k (toI ((List.range' 1 m).filter p)) := by
  have := (loop_inv (F := F) (k := k) (fun s i => if p i = true then s ++ [(i : Int)] else s) (fun i s => s.length ≤ i ∧ 1 ≤ i) (m + 1) (fun n s i hi h => hs n s i h.2 (by omega) h.1)
    (fun s i hi h => by
      refine ⟨?_, by omega⟩
      by_cases h2 : p i = true
      · simp [h2]; exact h.1
      · simp [h2]; omega) he n 1 [] (by omega) (by omega) ⟨by simp, by omega⟩).1
  rw [show ((1 : Nat) : Int) = 1 from rfl] at this
  rw [this, Nat.add_sub_cancel, foldl_gather]
  simp
theorem app_int {s : List Int} {x : Int} (h : s.length ≤ 1000) : app 8 s [x] = some (s ++ [x]) := app_ok (by simp; omega) (by simp; omega)
theorem chk8_len {l : List UInt8} (h : chk8 l = 0) : l.length ≤ 24 := (chk8_zero.1 h).2.1
theorem f16_eq {l : List UInt8} {N : Nat} (hN : 30 ≤ N) : f16 N (strC l) = some (if chk8 l = 0 then (toI (perN l), 0) else ([], chk8 l)) := by
  unfold f16
  rw [f23_eq hN]
  by_cases h : chk8 l = 0
  · have := chk8_len h
    simp only [Option.bind_some, h, not_true, decide_false, cond_false, if_true]
    rw [f47_eq (by omega)]; rfl
  · simp [h]
theorem perN_len {l : List UInt8} : (perN l).length ≤ l.length := Nat.le_trans (List.length_filter_le _ _) (by simp)
theorem toI_len {a : List Nat} : (toI a).length = a.length := by simp [toI]
def rootN (l : List UInt8) : Nat := ((List.range' 1 l.length).find? fun p => decide (l.length % p = 0) && isP l p).getD l.length
theorem isP_len {l : List UInt8} : isP l l.length = true := by simp [isP]
theorem rootN_spec {l : List UInt8} (h : l ≠ []) : 1 ≤ rootN l ∧ rootN l ≤ l.length ∧ l.length % rootN l = 0 ∧ isP l (rootN l) = true ∧ ∀ q, 1 ≤ q → q < rootN l → ¬ (l.length % q = 0 ∧ isP l q = true) := by
  have hl : 0 < l.length := List.length_pos_iff.2 h
  unfold rootN
  cases hf : (List.range' 1 l.length).find? fun p => decide (l.length % p = 0) && isP l p with
  | none =>
    rw [List.find?_eq_none] at hf
    exact absurd (hf l.length (by rw [List.mem_range'_1]; omega)) (by simp [isP_len])
  | some p =>
    obtain ⟨hp, pre, suf, hab, hno⟩ := List.find?_eq_some_iff_append.1 hf
    have hm : p ∈ List.range' 1 l.length := by rw [hab]; simp
    rw [List.mem_range'_1] at hm
    simp at hp
    refine ⟨hm.1, by simp; omega, hp.1, hp.2, fun q h1 h2 => ?_⟩
    simp at h2
    have hq : q ∈ List.range' 1 l.length := by rw [List.mem_range'_1]; omega
    rw [hab] at hq
    rcases List.mem_append.1 hq with hq | hq
    · have := hno q hq
      simp at this
      rintro ⟨a, b⟩
      rcases this with h | h
      · exact h a
      · rw [h] at b; cases b
    · -- behind p are greater ones
      have hs : (List.range' 1 l.length).Pairwise (· < ·) := List.pairwise_lt_range'
      rw [hab, List.pairwise_append] at hs
      rcases List.mem_cons.1 hq with rfl | hq
      · omega
      · have := (List.pairwise_cons.1 hs.2.1).1 q hq
        omega
theorem rootN_uniq {l : List UInt8} (h : l ≠ []) {p : Nat} (h1 : 1 ≤ p) (h2 : l.length % p = 0) (h3 : isP l p = true) (h4 : ∀ q, 1 ≤ q → q < p → ¬ (l.length % q = 0 ∧ isP l q = true)) : p = rootN l := by
  obtain ⟨r1, r2, r3, r4, r5⟩ := rootN_spec h
  rcases Nat.lt_trichotomy p (rootN l) with hh | hh | hh
  · exact absurd ⟨h2, h3⟩ (r5 p h1 hh)
  · exact hh
  · exact absurd ⟨r3, r4⟩ (h4 _ r1 hh)
theorem rootR_find {l : List UInt8} (L : List Nat) (hL : ∀ p ∈ L, 1 ≤ p) : rootR (strC l) (toI (L.filter (isP l))) = match L.find? (fun p => decide (l.length % p = 0) && isP l p) with
    | some p => (strC (l.take p), ((l.length / p : Nat) : Int))
    | none => (strC l, 1) := by
  induction L with
  | nil => rfl
  | cons p L ih =>
    have ih := ih fun q hq => hL q (by simp [hq])
    have h1 := hL p (by simp)
    by_cases hp : isP l p = true
    · simp only [List.filter_cons, hp, if_true, toI, List.map_cons, rootR, strC_size, List.find?_cons]
      by_cases hd : l.length % p = 0
      · have : ((l.length : Int) % (p : Int)) = 0 := by omega
        simp only [this, if_true, hd, decide_true, Bool.and_self]
        rw [Int.toNat_natCast, extract_L]
        simp
      · have : ¬ ((l.length : Int) % (p : Int)) = 0 := by omega
        simp only [this, if_false, hd, decide_false, Bool.false_and]
        exact ih
    · simp only [Bool.not_eq_true] at hp
      simp only [List.filter_cons, hp, List.find?_cons, Bool.and_false]
      exact ih
theorem rootR_L {l : List UInt8} (h : l ≠ []) : rootR (strC l) (perL (strC l)) = (strC (l.take (rootN l)), ((l.length / rootN l : Nat) : Int)) := by
  rw [perL_L]
  unfold perN
  rw [rootR_find _ (by intro p hp; rw [List.mem_range'_1] at hp; exact hp.1)]
  have hl : 0 < l.length := List.length_pos_iff.2 h
  unfold rootN
  cases hf : (List.range' 1 l.length).find? fun p => decide (l.length % p = 0) && isP l p with
  | none =>
    rw [List.find?_eq_none] at hf
    exact absurd (hf l.length (by rw [List.mem_range'_1]; omega)) (by simp [isP_len])
  | some p => rfl
theorem chk8_rng (l : List UInt8) : 0 ≤ chk8 l ∧ chk8 l ≤ 1000 := by
  unfold chk8
  split
  · omega
  · split
    · omega
    · split <;> omega
theorem f18_eq {l : List UInt8} {N : Nat} (hN : 30 ≤ N) (hl : l.length ≤ 100) :
    f18 N (strC l) = some (if chk8 l = 0 then (strC (l.take (rootN l)), ((l.length / rootN l : Nat) : Int), 0) else (emptyS, 0, chk8 l)) := by
  unfold f18
  rw [if_pos (by simp; omega), f23_eq hN, Option.bind_some]
  have hc := chk8_rng l
  have hr : 0 ≤ (rootR (strC l) (perL (strC l))).2 ∧ (rootR (strC l) (perL (strC l))).2 ≤ 1000 ∧ (rootR (strC l) (perL (strC l))).1.size ≤ 1000 := by
    by_cases h : l = []
    · subst h
      rw [perL_L]; simp [perN, toI, rootR]
    · rw [rootR_L h]
      have := Nat.div_le_self l.length (rootN l)
      generalize l.length / rootN l = q at *
      refine ⟨by simp only []; omega, by simp only []; omega, ?_⟩
      simp
      omega
  rw [if_pos ⟨hc.1, hc.2, hr.1, hr.2.1, hr.2.2⟩]
  by_cases h : chk8 l = 0
  · rw [if_pos h, if_pos h, rootR_L (chk8_zero.1 h).1]
  · rw [if_neg h, if_neg h]
theorem tdiv_nat {a b : Nat} : Int.tdiv (a : Int) (b : Int) = ((a / b : Nat) : Int) := rfl
theorem tmod_nat {a b : Nat} : Int.tmod (a : Int) (b : Int) = ((a % b : Nat) : Int) := rfl
end Go.Vc
namespace Go.Vc
open Go.Proofs
set_option linter.unusedVariables false
set_option linter.unnecessarySimpa false
set_option linter.unusedSimpArgs false
set_option linter.unusedSimpArgs false
def occ (l : List UInt8) (k i : Nat) : Prop := i + k ≤ l.length ∧ (l.take (i + k)).drop i = l.take k
def Cov (l : List UInt8) (k : Nat) : Prop := ∀ y, y < l.length → ∃ i, i ≤ y ∧ y < i + k ∧ occ l k i
open Classical in
noncomputable def cov (l : List UInt8) (k : Nat) : Bool := decide (Cov l k)
open Classical in
noncomputable def covN (l : List UInt8) : List Nat := (List.range' 1 l.length).filter (cov l)
theorem occ_zero {l : List UInt8} {k : Nat} (h : k ≤ l.length) : occ l k 0 := ⟨by omega, by simp⟩
open Classical in
theorem cov_eq {l : List UInt8} {k : Nat} {b : Bool} (h : b = true ↔ Cov l k) : b = cov l k := by
  unfold cov
  cases b with
  | true => exact (decide_eq_true (h.1 rfl)).symm
  | false => exact (decide_eq_false fun hh => by cases h.2 hh).symm
theorem occAt_window {l : List UInt8} {k m i : Nat} (hk : k ≤ l.length) (hm : m ≤ l.length) (hi : i + k ≤ m) : Lib.occAt (l.take m) (l.take k) i = true ↔ occ l k i := by
  unfold Lib.occAt occ
  rw [List.isPrefixOf_iff_prefix, List.prefix_iff_eq_take]
  have hl : (l.take k).length = k := by simp; omega
  rw [hl]
  have : (List.drop i (l.take m)).take k = (l.take (i + k)).drop i := by
    rw [List.take_drop, List.take_take, show min (i + k) m = i + k by omega]
  rw [this]
  constructor
  · intro h; exact ⟨by omega, h.symm⟩
  · rintro ⟨_, h⟩; exact h.symm
theorem last_spec {l : List UInt8} {k m : Nat} (hk : k ≤ l.length) (hm : m ≤ l.length) (hkm : k ≤ m) :
    ∃ i : Nat, Lib.lastIndex (l.take m) (l.take k) = i ∧ i + k ≤ m ∧ occ l k i ∧ ∀ j, i < j → j + k ≤ m → ¬ occ l k j := by
  have h1 : (l.take m).length = m := by simp; omega
  have h2 : (l.take k).length = k := by simp; omega
  unfold Lib.lastIndex
  rw [h1, h2, if_pos hkm]
  rcases Lib.lastOcc_spec (l.take m) (l.take k) (m - k + 1) with ⟨_, hn⟩ | ⟨i, hi, e, hc, hn⟩
  · have := hn 0 (by omega)
    rw [Bool.eq_false_iff] at this
    exact absurd ((occAt_window hk hm (by omega)).2 (occ_zero hk)) this
  · refine ⟨i, e, by omega, (occAt_window hk hm (by omega)).1 hc, fun j h3 h4 ho => ?_⟩
    have := hn j h3 (by omega)
    rw [Bool.eq_false_iff] at this
    exact this ((occAt_window hk hm h4).2 ho)
theorem f70_eq {a b : List UInt8} {N : Nat} (ha : a.length ≤ 1000) (h : -1 ≤ Lib.lastIndex a b ∧ Lib.lastIndex a b ≤ 1000) : f70 N (strC a) (strC b) = some (Lib.lastIndex a b) := by
  unfold f70
  rw [strC_toList, strC_toList]
  exact if_pos ⟨h.1, h.2, by simpa using ha⟩
theorem f51_loop {l : List UInt8} {k N : Nat} (hl : l.length ≤ 100) (h1 : 1 ≤ k) (hk : k ≤ l.length) : ∀ (n t : Nat), t ≤ l.length → l.length - t < n → (∀ y, y < t → ∃ i, i ≤ y ∧ y < i + k ∧ occ l k i) →
    f51_2 (strC l) (k : Int) N f51_c7 n (t : Int) = some (cov l k) := by
  intro n
  induction n with
  | zero => intro t _ h; omega
  | succ n ih =>
    intro t ht hn hA
    unfold f51_2 f51_2b
    by_cases he : t < l.length
    · simp only [strC_size, show (t : Int) < (l.length : Int) by omega, decide_true, cond_true]
      rw [show ((t : Int) + (k : Int)) = ((t + k : Nat) : Int) by omega, W_of (by omega) (by omega)]
      rw [show (min ((t + k : Nat) : Int) (l.length : Int)) = ((min (t + k) l.length : Nat) : Int) by omega]
      have s1 := subS_L (l := l) (a := 0) (b := min (t + k) l.length) (by omega) (by omega)
      have s2 := subS_L (l := l) (a := 0) (b := k) (by omega) (by omega)
      rw [show ((0 : Nat) : Int) = 0 from rfl] at s1 s2
      rw [s1, s2]
      simp only [Option.bind_some, List.drop_zero]
      obtain ⟨i, e, hi, ho, hno⟩ := last_spec (l := l) (k := k) (m := min (t + k) l.length) hk (by omega) (by omega)
      rw [f70_eq (by simp; omega) (by rw [e]; omega), e, Option.bind_some]
      rw [show ((i : Int) + (k : Int)) = ((i + k : Nat) : Int) by omega, W_of (by omega) (by omega)]
      by_cases hc : i + k ≤ t
      · simp only [show ((i + k : Nat) : Int) ≤ (t : Int) by omega, decide_true, cond_true]
        congr 1
        refine cov_eq ⟨fun h => (by cases h), fun h => ?_⟩
        obtain ⟨j, j1, j2, j3⟩ := h t he
        have := j3.1
        by_cases hj : i < j
        · exact absurd j3 (hno j hj (by omega))
        · omega
      · simp only [show ¬ ((i + k : Nat) : Int) ≤ (t : Int) by omega, decide_false, cond_false]
        refine ih (i + k) (by omega) (by omega) fun y hy => ?_
        by_cases hyt : y < t
        · exact hA y hyt
        · exact ⟨i, by omega, hy, ho⟩
    · have : t = l.length := by omega
      subst this
      simp only [strC_size, Int.lt_irrefl, decide_false, cond_false]
      show some true = _
      congr 1
      exact cov_eq ⟨fun _ => hA, fun _ => rfl⟩
theorem f51_eq {l : List UInt8} {k N : Nat} (hl : l.length ≤ 100) (h1 : 1 ≤ k) (hk : k ≤ l.length) (hN : l.length < N) : f51 N (strC l) (k : Int) = some (cov l k) := by
  unfold f51
  simp only [joinK]
  exact f51_loop hl h1 hk N 0 (by omega) (by omega) fun y hy => by omega
theorem f20_eq {l : List UInt8} {N : Nat} (hN : 30 ≤ N) : f20 N (strC l) = some (if chk8 l = 0 then (toI (covN l), 0) else ([], chk8 l)) := by
  unfold f20
  rw [f23_eq hN]
  by_cases h : chk8 l = 0
  · have := chk8_len h
    simp only [Option.bind_some, h, not_true, decide_false, cond_false, if_true, joinK]
    rw [gather_loop (F := f20_6 (strC l) N f20_c10) (k := f20_c10) (p := cov l) l.length]
    · rfl
    · intro n s i h1 h2 h3
      conv => lhs; unfold f20_6 f20_6b
      simp only [strC_size, show (i : Int) ≤ (l.length : Int) by omega, decide_true, cond_true]
      rw [f51_eq (by omega) h1 h2 (by omega)]
      simp only [Option.bind_some]
      by_cases hp : cov l i = true
      · simp only [hp, cond_true, if_true]
        rw [app_int (by omega), Option.bind_some, W_nat (by omega)]
      · simp only [Bool.not_eq_true] at hp
        simp only [hp, cond_false]
        rw [W_nat (by omega)]; rfl
    · intro n s
      conv => lhs; unfold f20_6 f20_6b
      rw [decide_eq_false (by simp; omega)]; rfl
    · omega
  · simp [h]
end Go.Vc
namespace Go.Vc
open Go.Proofs
set_option linter.unusedVariables false
set_option linter.unnecessarySimpa false
set_option linter.unusedSimpArgs false
set_option linter.unusedSimpArgs false
def Per {α : Type} (f : Nat → α) (n p : Nat) : Prop := ∀ i, i + p < n → f i = f (i + p)
section
variable {α : Type} {f : Nat → α}
theorem Per.mul {n p : Nat} (h : Per f n p) : ∀ m, Per f n (m * p) := by
  intro m
  induction m with
  | zero => intro i hi; simp
  | succ m ih =>
    intro i hi
    rw [Nat.succ_mul] at hi ⊢
    rw [ih i (by omega), h (i + m * p) (by omega)]
    congr 1
    omega
theorem Per.dvd {n p q : Nat} (h : Per f n p) (hd : p ∣ q) : Per f n q := by
  obtain ⟨m, rfl⟩ := hd
  rw [Nat.mul_comm]
  exact h.mul m
theorem Per.less {n m p : Nat} (h : Per f n p) (hm : m ≤ n) : Per f m p := fun i hi => h i (by omega)
theorem Per.grow {n p g : Nat} (hg : 1 ≤ g) (hd : g ∣ p) (hp : 1 ≤ p) (hn : 2 * p ≤ n) (h : Per f n p) (h' : Per f (n - p) g) : Per f n g := by
  have hgp : g ≤ p := Nat.le_of_dvd hp hd
  intro i hi
  by_cases h1 : i + g < n - p
  · exact h' i h1
  · have e1 : f (i + g) = f (i + g - p) := by
      have := h (i + g - p) (by omega)
      rw [this]; congr 1; omega
    rw [e1]
    by_cases h2 : p ≤ i
    · have e2 : f i = f (i - p) := by
        have := h (i - p) (by omega)
        rw [this]; congr 1; omega
      rw [e2, h' (i - p) (by omega)]
      congr 1; omega
    · have hd2 : g ∣ p - g := Nat.dvd_sub hd (Nat.dvd_refl g)
      have := h'.dvd hd2 (i + g - p) (by omega)
      rw [this]
      congr 1; omega
theorem fine_wilf : ∀ (s n p q : Nat), p + q ≤ s → 1 ≤ p → 1 ≤ q → p + q - Nat.gcd p q ≤ n → Per f n p → Per f n q → Per f n (Nat.gcd p q) := by
  intro s
  induction s with
  | zero => intro n p q h h1 h2; omega
  | succ s ih =>
    intro n p q hs hp hq hn h1 h2
    have core : ∀ p q : Nat, p + q ≤ s + 1 → 1 ≤ p → p < q → p + q - Nat.gcd p q ≤ n → Per f n p → Per f n q → Per f n (Nat.gcd p q) := by
      intro p q hs hp hpq hn h1 h2
      have hg : Nat.gcd p (q - p) = Nat.gcd p q := by
        rw [Nat.gcd_comm, Nat.gcd_comm p q]
        have := Nat.gcd_sub_self_left (m := p) (n := q) (Nat.le_of_lt hpq)
        exact this
      have hgd : Nat.gcd p q ∣ q - p := by rw [← hg]; exact Nat.gcd_dvd_right _ _
      have hgp : Nat.gcd p q ∣ p := Nat.gcd_dvd_left _ _
      have hgle : Nat.gcd p q ≤ q - p := Nat.le_of_dvd (by omega) hgd
      have hg1 : 1 ≤ Nat.gcd p q := Nat.gcd_pos_of_pos_left _ hp
      have hper : Per f (n - p) (q - p) := by
        intro i hi
        have e1 := h2 i (by omega)
        have e2 := h1 (i + (q - p)) (by omega)
        rw [e1, e2]; congr 1; omega
      have := ih (n - p) p (q - p) (by omega) hp (by omega) (by rw [hg]; omega) (h1.less (by omega)) hper
      rw [hg] at this
      exact Per.grow hg1 hgp hp (by omega) h1 this
    rcases Nat.lt_trichotomy p q with h | h | h
    · exact core p q hs hp h hn h1 h2
    · subst h; rw [Nat.gcd_self]; exact h1
    · rw [Nat.gcd_comm]
      exact core q p (by omega) hq h (by rw [Nat.gcd_comm, Nat.add_comm]; exact hn) h2 h1
end
theorem isP_per {l : List UInt8} {p : Nat} : isP l p = true ↔ Per (fun i => l[i]?) l.length p := by
  rw [isP_iff]
  constructor
  · intro h i hi
    simp only
    rw [List.getElem?_eq_getElem (by omega), List.getElem?_eq_getElem hi, h i hi]
  · intro h i hi
    have := h i hi
    simp only at this
    rw [List.getElem?_eq_getElem (by omega), List.getElem?_eq_getElem hi] at this
    exact Option.some.inj this
theorem filter_at {f : Nat → Bool} {n p : Nat} (h1 : 1 ≤ p) (hp : p ≤ n) :
    ((List.range' 1 n).filter f)[((List.range' 1 (p - 1)).filter f).length]? = some p ↔ f p = true := by
  have e : List.range' 1 n = List.range' 1 (p - 1) ++ (p :: List.range' (p + 1) (n - p)) := by
    have h := List.range'_append_1 (s := 1) (m := p - 1) (n := n - p + 1)
    rw [show 1 + (p - 1) = p by omega, show p - 1 + (n - p + 1) = n by omega, List.range'_succ] at h
    exact h.symm
  rw [e, List.filter_append, List.getElem?_append_right (Nat.le_refl _), Nat.sub_self, List.filter_cons]
  by_cases h : f p = true
  · simp [h]
  · rw [if_neg h]
    refine ⟨fun hh => ?_, fun hh => absurd hh h⟩
    have := List.mem_of_getElem? hh
    rw [List.mem_filter, List.mem_range'_1] at this
    omega
theorem filter_next {f : Nat → Bool} {p : Nat} (h1 : 1 ≤ p) : ((List.range' 1 p).filter f).length = ((List.range' 1 (p - 1)).filter f).length + (if f p = true then 1 else 0) := by
  obtain ⟨j, rfl⟩ : ∃ j, p = j + 1 := ⟨p - 1, by omega⟩
  rw [Nat.add_sub_cancel, List.range'_concat, List.filter_append, List.length_append]
  congr 1
  rw [show 1 + 1 * j = j + 1 by omega]
  by_cases h : f (j + 1) = true <;> simp [h]
open Classical in
theorem f38_loop {l : List UInt8} {p : Nat} {k0 : Option Bool} (hl : l.length ≤ 1000) (ha : ∀ (i : Nat) (h : i < l.length), l[i].toNat < 128) :
    ∀ (n i : Nat), i ≤ l.length → l.length - i < n → f38_2 (strC l) (p : Int) k0 n i = if (∀ j, i ≤ j → p ≤ j → (h : j < l.length) → l[j - p] = l[j]) then k0 else some false := by
  intro n
  induction n with
  | zero => intro i _ h; omega
  | succ n ih =>
    intro i hi hn
    unfold f38_2 f38_2b
    by_cases h : i < l.length
    · simp only [strC_size, h, decide_true, cond_true, Option.bind_some]
      rw [rune_lo h (ha i h)]
      by_cases hp : p ≤ i
      · simp only [show (p : Int) ≤ (i : Int) by omega, decide_true, cond_true]
        rw [show ((i : Int) - (p : Int)) = ((i - p : Nat) : Int) by omega, W_of (by omega) (by omega), idxS_L h, idxS_L (show i - p < l.length by omega)]
        simp only [Option.bind_some, toNat_inj]
        by_cases he : l[i] = l[i - p]
        · simp only [he, not_true, decide_false, cond_false]
          rw [ih (i + 1) (by omega) (by omega)]
          refine iffD ?_
          constructor
          · intro hh j h1 h2 h3
            by_cases hj : j = i
            · subst hj; exact he.symm
            · exact hh j (by omega) h2 h3
          · intro hh j h1 h2 h3
            exact hh j (by omega) h2 h3
        · simp only [he, not_false_eq_true, decide_true, cond_true]
          rw [if_neg fun hh => he (hh i (Nat.le_refl _) hp h).symm]
      · simp only [show ¬ (p : Int) ≤ (i : Int) by omega, decide_false, cond_false]
        rw [ih (i + 1) (by omega) (by omega)]
        refine iffD ?_
        constructor
        · intro hh j h1 h2 h3
          exact hh j (by omega) h2 h3
        · intro hh j h1 h2 h3
          exact hh j (by omega) h2 h3
    · simp only [strC_size, h, decide_false, cond_false]
      rw [if_pos fun j h1 _ h3 => by omega]
def Abc (l : List UInt8) : Prop := ∀ b ∈ l, b = 97 ∨ b = 98 ∨ b = 99
theorem all_lo {l : List UInt8} (h : l.all okb = true) (i : Nat) (hi : i < l.length) : l[i].toNat < 128 := by
  have := List.all_eq_true.1 h l[i] (List.getElem_mem hi)
  simp [okb] at this
  omega
theorem goes_iff {l : List UInt8} {p : Nat} : (∀ j, 0 ≤ j → p ≤ j → (h : j < l.length) → l[j - p] = l[j]) ↔ isP l p = true := by
  rw [isP_iff]
  constructor
  · intro h i hi
    have := h (i + p) (by omega) (by omega) hi
    simp only [Nat.add_sub_cancel] at this
    exact this
  · intro h j _ h2 h3
    have := h (j - p) (by omega)
    rw [this]
    congr 1; omega
open Classical in
theorem f38_eq {l : List UInt8} {p N : Nat} (hl : l.length ≤ 100) (ha : l.all okb = true) (hN : l.length < N) : f38 N (strC l) (p : Int) = some (decide (1 ≤ p ∧ p ≤ l.length) && isP l p) := by
  unfold f38
  simp only [joinK]
  rw [f38_loop (by omega) (all_lo ha) N 0 (by omega) (by omega), iffD (dq := instDecidableEqBool _ _) goes_iff]
  by_cases h : isP l p = true
  · rw [if_pos h, h]
    unfold f38_c6
    by_cases h1 : 1 ≤ p
    · simp [h1, show (1 : Int) ≤ (p : Int) by omega]
    · simp [h1, show ¬ (1 : Int) ≤ (p : Int) by omega]
  · rw [if_neg h]
    simp only [Bool.not_eq_true] at h
    rw [h]; simp
def cop (l : List UInt8) (n : Nat) : List UInt8 := (List.replicate n l).flatten
theorem cop_len {l : List UInt8} {n : Nat} : (cop l n).length = n * l.length := by
  unfold cop
  simp [List.length_flatten]
theorem cop_succ {l : List UInt8} {n : Nat} : cop l (n + 1) = cop l n ++ l := by
  unfold cop
  rw [List.replicate_succ', List.flatten_append]; simp
theorem f42_eq {l : List UInt8} {n N : Nat} (h : n * l.length ≤ 1000) (hn : n ≤ 1000) (hN : n < N) : f42 N (strC l) (n : Int) = some (strC (cop l n)) := by
  unfold f42
  simp only [joinK]
  have := (loop_inv0 (F := fun m (o : List UInt8) i => f42_3 (strC l) (n : Int) f42_c6 m (strC o) i) (k := fun o => some (strC o)) (fun o i => o ++ l) (fun i o => o = cop l i) n
    (fun m s i hi hI => by
      subst hI
      conv => lhs; unfold f42_3 f42_3b
      simp only [show (i : Int) < (n : Int) by omega, decide_true, cond_true]
      have : (i + 1) * l.length ≤ n * l.length := Nat.mul_le_mul_right _ (by omega)
      rw [Nat.succ_mul] at this
      rw [addS_L (by rw [cop_len]; omega), Option.bind_some, W_nat (by omega)])
    (fun s i hi hI => by subst hI; exact cop_succ.symm)
    (fun m s => by
      conv => lhs; unfold f42_3 f42_3b
      simp only [Int.lt_irrefl, decide_false, cond_false]; rfl) (n := N) (s := []) hN (by simp [cop]))
  rw [← this.2]
  exact this.1
theorem cop_get {l : List UInt8} : ∀ {n x : Nat}, x < n * l.length → (cop l n)[x]? = l[x % l.length]? := by
  intro n
  induction n with
  | zero => intro x h; omega
  | succ n ih =>
    intro x h
    rw [Nat.succ_mul] at h
    rw [cop_succ]
    by_cases hx : x < n * l.length
    · rw [List.getElem?_append_left (by rw [cop_len]; exact hx), ih hx]
    · rw [List.getElem?_append_right (by rw [cop_len]; omega), cop_len]
      congr 1
      have e : x = (x - n * l.length) + n * l.length := by omega
      rw [show x % l.length = (x - n * l.length) % l.length by
        conv => lhs; rw [e]
        rw [Nat.add_mul_mod_self_right], Nat.mod_eq_of_lt (by omega)]
theorem cop_take {l : List UInt8} {p : Nat} (h1 : 1 ≤ p) (hp : p ≤ l.length) (hd : l.length % p = 0) : cop (l.take p) (l.length / p) = l ↔ isP l p = true := by
  have hlen : (l.take p).length = p := by simp; omega
  have hmul : l.length / p * p = l.length := Nat.div_mul_cancel (Nat.dvd_of_mod_eq_zero hd)
  rw [isP_per]
  constructor
  · intro h i hi
    have e : ∀ x, x < l.length → l[x]? = l[x % p]? := by
      intro x hx
      have := cop_get (l := l.take p) (n := l.length / p) (x := x) (by rw [hlen, hmul]; exact hx)
      rw [h, hlen, List.getElem?_take_of_lt (Nat.mod_lt _ h1)] at this
      exact this
    simp only
    rw [e i (by omega), e (i + p) hi, Nat.add_mod_right]
  · intro h
    refine List.ext_getElem? fun x => ?_
    by_cases hx : x < l.length
    · rw [cop_get (by rw [hlen, hmul]; exact hx), hlen, List.getElem?_take_of_lt (Nat.mod_lt _ h1)]
      have := h.mul (x / p) (x % p) (by rw [Nat.mul_comm, Nat.mod_add_div]; exact hx)
      simp only at this
      rw [this]
      congr 1
      rw [Nat.mul_comm, Nat.mod_add_div]
    · rw [List.getElem?_eq_none (by rw [cop_len, hlen, hmul]; omega), List.getElem?_eq_none (by omega)]
theorem sub_end' {l : List UInt8} {i : Nat} (hi : i ≤ l.length) : subS (strC l) (i : Int) (l.length : Int) = some (strC (l.drop i)) := by
  rw [subS_L hi (Nat.le_refl _), List.take_length]
theorem abc_sub {x : Int} (h : 0 ≤ x) : ∃ b : UInt8, (b = 97 ∨ b = 98 ∨ b = 99) ∧ ((subS (strC [97, 98, 99]) (Int.tmod x 3) ((strC [97, 98, 99]).size : Int)).bind fun y => subS y 0 1) = some (strC [b]) := by
  obtain ⟨m, rfl⟩ : ∃ m : Nat, x = m := ⟨x.toNat, by omega⟩
  have e : Int.tmod (m : Int) 3 = ((m % 3 : Nat) : Int) := rfl
  rw [e]
  have h3 : m % 3 < 3 := Nat.mod_lt _ (by omega)
  rcases (by omega : m % 3 = 0 ∨ m % 3 = 1 ∨ m % 3 = 2) with h | h | h <;> rw [h]
  · exact ⟨97, by simp, rfl⟩
  · exact ⟨98, by simp, rfl⟩
  · exact ⟨99, by simp, rfl⟩
theorem bind2 {α β γ : Type} {x : Option α} {f : α → Option β} {g : β → Option γ} {y : β} (h : x.bind f = some y) : (x.bind fun a => (f a).bind g) = g y := by
  cases x with
  | none => cases h
  | some a =>
    simp only [Option.bind_some] at h ⊢
    rw [h]; rfl
theorem Abc.snoc {l : List UInt8} {b : UInt8} (h : Abc l) (hb : b = 97 ∨ b = 98 ∨ b = 99) : Abc (l ++ [b]) := by
  intro x hx
  rcases List.mem_append.1 hx with hx | hx
  · exact h x hx
  · rw [List.mem_singleton.1 hx]; exact hb
theorem f41_loop {w : List Int} {m : Nat} (hm : 1 ≤ m) (hm2 : m ≤ 100) (hw : ∀ x ∈ w, 0 ≤ x) : ∀ (n i : Nat) (l : List UInt8), l.length ≤ m → Abc l → m - l.length < n → i ≤ w.length → i ≤ l.length →
    ∃ l', f41_3 w (m : Int) f41_c9 n (strC l) (i : Int) = some (strC l') ∧ 1 ≤ l'.length ∧ l'.length ≤ m ∧ Abc l' := by
  have fin : ∀ l : List UInt8, l.length ≤ m → Abc l → ∃ l', f41_c9 (strC l) = some (strC l') ∧ 1 ≤ l'.length ∧ l'.length ≤ m ∧ Abc l' := by
    intro l h1 h2
    unfold f41_c9
    by_cases h : l = []
    · subst h
      exact ⟨[97], by simp [emptyS_eq], by simp, by simpa using hm, by intro b hb; simp at hb; simp [hb]⟩
    · exact ⟨l, by simp [emptyS_eq, strC_inj, h], List.length_pos_iff.2 h, h1, h2⟩
  intro n
  induction n with
  | zero => intro i l _ _ h; omega
  | succ n ih =>
    intro i l hl ha hn hi hil
    unfold f41_3 f41_3b
    by_cases h : i < w.length
    · simp only [show (i : Int) < (w.length : Int) by omega, decide_true, cond_true]
      by_cases h2 : l.length < m
      · simp only [strC_size, show (l.length : Int) < (m : Int) by omega, decide_true, cond_true, ix_get h, Option.bind_some]
        have hx := hw w[i] (List.getElem_mem h)
        rw [W_nat (by omega)]
        have plain : ∃ l', (((subS (strC [97, 98, 99]) (Int.tmod w[i] 3) ((strC [97, 98, 99]).size : Int)).bind fun x8 => (subS x8 0 1).bind fun x9 => (addS (strC l) x9).bind fun x10 => f41_3 w (m : Int) f41_c9 n x10 ((i + 1 : Nat) : Int))) = some (strC l') ∧ 1 ≤ l'.length ∧ l'.length ≤ m ∧ Abc l' := by
          obtain ⟨b, hb, e⟩ := abc_sub hx
          rw [bind2 e, addS_L (by simp; omega), Option.bind_some]
          exact ih (i + 1) (l ++ [b]) (by simp; omega) (ha.snoc hb) (by simp; omega) (by omega) (by simp; omega)
        simp only [strC_size] at plain
        by_cases h3 : (128 : Int) ≤ w[i]
        · simp only [h3, decide_true, cond_true]
          by_cases h4 : l = []
          · subst h4
            simp only [List.length_nil]
            exact plain
          · have h5 := List.length_pos_iff.2 h4
            have : decide ((l.length : Int) ≠ 0) = true := decide_eq_true (by omega)
            simp only [show (0 : Int) < (l.length : Int) by omega, decide_true, cond_true, this, chk, Option.bind_some]
            obtain ⟨x, hx'⟩ : ∃ x : Nat, w[i] = x := ⟨w[i].toNat, by omega⟩
            rw [hx']
            have ht : Int.tmod (x : Int) (l.length : Int) = ((x % l.length : Nat) : Int) := rfl
            have hlt := Nat.mod_lt x h5
            rw [ht]
            generalize hq : x % l.length = q at *
            rw [show (l.length : Int) - 1 = ((l.length - 1 : Nat) : Int) by omega, W_of (n := ((l.length - 1 : Nat) : Int)) (by omega) (by omega), show ((l.length - 1 : Nat) : Int) - (q : Int) = ((l.length - 1 - q : Nat) : Int) by omega, W_of (by omega) (by omega), sub_end' (by omega), Option.bind_some]
            have s1 := subS_L (l := l.drop (l.length - 1 - q)) (a := 0) (b := 1) (by omega) (by simp; omega)
            rw [show ((0 : Nat) : Int) = 0 from rfl, show ((1 : Nat) : Int) = 1 from rfl] at s1
            rw [s1, Option.bind_some, List.drop_zero, List.drop_eq_getElem_cons (by omega)]
            simp only [List.take_succ_cons, List.take_zero]
            rw [addS_L (by simp; omega), Option.bind_some]
            exact ih (i + 1) _ (by simp; omega) (ha.snoc (ha _ (List.getElem_mem _))) (by simp; omega) (by omega) (by simp; omega)
        · simp only [h3, decide_false, cond_false]
          exact plain
      · simp only [strC_size, show ¬ (l.length : Int) < (m : Int) by omega, decide_false, cond_false]
        exact fin l hl ha
    · simp only [show ¬ (i : Int) < (w.length : Int) by omega, decide_false, cond_false]
      exact fin l hl ha
theorem f41_eq {w : List Int} {m N : Nat} (hm : 1 ≤ m) (hm2 : m ≤ 100) (hw : ∀ x ∈ w, 0 ≤ x) (hN : m < N) : ∃ l, f41 N w (m : Int) = some (strC l) ∧ 1 ≤ l.length ∧ l.length ≤ m ∧ Abc l := by
  unfold f41
  simp only [joinK, emptyS_eq]
  exact f41_loop hm hm2 hw N 0 [] (by simp) (by intro b hb; cases hb) (by simp; omega) (by omega) (by simp)
theorem Abc.ok {l : List UInt8} (h : Abc l) : l.all okb = true := by
  rw [List.all_eq_true]
  intro b hb
  rcases h b hb with rfl | rfl | rfl <;> decide
theorem Abc.chk {l : List UInt8} (h : Abc l) (h1 : 1 ≤ l.length) (h2 : l.length ≤ 24) : chk8 l = 0 :=
  chk8_zero.2 ⟨by rintro rfl; simp at h1, h2, h.ok⟩
end Go.Vc
namespace Go.Vc
open Go.Proofs
set_option maxRecDepth 100000
theorem t15 : f15 60 = some true := by decide +kernel
end Go.Vc
namespace Go.Vc
open Go.Proofs
set_option linter.unusedVariables false
set_option linter.unnecessarySimpa false
set_option linter.unusedSimpArgs false
set_option linter.unusedSimpArgs false
theorem occ_sub {l : List UInt8} {p i : Nat} (hp : p ≤ l.length) (h : i + p ≤ l.length) :
    ∃ a b, subS (strC l) (i : Int) (l.length : Int) = some a ∧ subS a 0 (p : Int) = some b ∧ (b = strC (l.take p) ↔ occ l p i) := by
  refine ⟨strC (l.drop i), strC ((l.drop i).take p), sub_end' (by omega), ?_, ?_⟩
  · have := subS_L (l := l.drop i) (a := 0) (b := p) (by omega) (by simp; omega)
    rw [List.drop_zero] at this
    exact this
  · rw [strC_inj, List.take_drop]
    unfold occ
    rw [Nat.add_comm i p]
    exact ⟨fun hh => ⟨by omega, hh⟩, fun hh => hh.2⟩
theorem set_loop {x1 : ByteArray} {x2 : List Int × Int} {x3 : ByteArray × Int × Int} {x4 : List Int × Int} {j : Int} {p : Nat} {k : Int} {i : Nat} {k7 : List Bool → Option Bool} (hip : i + p ≤ 1000) :
    ∀ (n y : Nat) (c : List Bool), i ≤ y → y ≤ i + p → i + p ≤ c.length → i + p - y < n →
    ∃ c', f9_24 x1 x2 x3 x4 j (p : Int) k (i : Int) k7 n c (y : Int) = k7 c' ∧ c'.length = c.length ∧ ∀ z, c'[z]? = if y ≤ z ∧ z < i + p then some true else c[z]? := by
  intro n
  induction n with
  | zero => intro y c _ _ _ h; omega
  | succ n ih =>
    intro y c h1 h2 h3 hn
    unfold f9_24 f9_24b
    rw [show ((i : Int) + (p : Int)) = ((i + p : Nat) : Int) by omega, W_of (by omega) (by omega)]
    by_cases h : y < i + p
    · simp only [show (y : Int) < ((i + p : Nat) : Int) by omega, decide_true, cond_true, ix_get (show y < c.length by omega), Option.bind_some]
      have hs : setx c (y : Int) true = some (c.set y true) := by
        unfold setx; rw [if_pos ⟨by omega, by omega⟩]; rfl
      rw [hs, Option.bind_some, W_nat (by omega)]
      obtain ⟨c', e, hl, hz⟩ := ih (y + 1) (c.set y true) (by omega) (by omega) (by simp; omega) (by omega)
      refine ⟨c', e, by simpa using hl, fun z => ?_⟩
      rw [hz z]
      by_cases hzy : z = y
      · subst hzy
        rw [if_neg (by omega), if_pos ⟨Nat.le_refl _, h⟩, List.getElem?_set_self (by omega)]
      · rw [List.getElem?_set_ne (by omega)]
        by_cases hz2 : y + 1 ≤ z ∧ z < i + p
        · rw [if_pos hz2, if_pos (by omega)]
        · rw [if_neg hz2, if_neg (by omega)]
    · simp only [show ¬ (y : Int) < ((i + p : Nat) : Int) by omega, decide_false, cond_false]
      exact ⟨c, rfl, rfl, fun z => by rw [if_neg (by omega)]⟩
open Classical in
theorem cover_loop {N : Nat} {l : List UInt8} {x2 : List Int × Int} {x3 : ByteArray × Int × Int} {x4 : List Int × Int} {j k : Int} {p : Nat} {k6 : List Bool → Option Bool} (h1 : 1 ≤ p) (hp : p ≤ l.length) (hl : l.length ≤ 24) (hN : 30 ≤ N) :
    ∀ (n i : Nat) (c : List Bool), i + p ≤ l.length + 1 → l.length - i < n → c.length = l.length → (∀ z, z < l.length → c[z]? = some (decide (∃ q, q < i ∧ q ≤ z ∧ z < q + p ∧ occ l p q))) →
    f9_20 N (strC l) x2 x3 x4 j (p : Int) k k6 n c (i : Int) = k6 ((List.range l.length).map fun z => decide (∃ q, q ≤ z ∧ z < q + p ∧ occ l p q)) := by
  intro n
  induction n with
  | zero => intro i c _ h; omega
  | succ n ih =>
    intro i c hi hn hc hz
    unfold f9_20 f9_20b
    rw [show ((i : Int) + (p : Int)) = ((i + p : Nat) : Int) by omega, W_of (by omega) (by omega)]
    by_cases h : i + p ≤ l.length
    · simp only [strC_size, show ((i + p : Nat) : Int) ≤ (l.length : Int) by omega, decide_true, cond_true, joinK]
      obtain ⟨a, b, ha, hb, hab⟩ := occ_sub hp h
      have s2 := subS_L (l := l) (a := 0) (b := p) (by omega) (by omega)
      rw [List.drop_zero] at s2
      rw [ha, Option.bind_some, hb, Option.bind_some]
      rw [show subS (strC l) 0 (p : Int) = some (strC (l.take p)) from s2, Option.bind_some]
      by_cases ho : occ l p i
      · rw [hab.2 ho]
        simp only [decide_true, cond_true]
        obtain ⟨c', e, hl', hz'⟩ := set_loop (x1 := strC l) (x2 := x2) (x3 := x3) (x4 := x4) (j := j) (k := k) (k7 := f9_c21 (strC l) x2 x3 x4 j (p : Int) k (i : Int) (f9_20 N (strC l) x2 x3 x4 j (p : Int) k k6 n)) (p := p) (i := i) (by omega) N i c (Nat.le_refl _) (by omega) (by omega) (by omega)
        rw [e]
        unfold f9_c21
        rw [W_nat (by omega)]
        refine ih (i + 1) c' (by omega) (by omega) (by omega) fun z hzl => ?_
        rw [hz' z]
        by_cases hz2 : i ≤ z ∧ z < i + p
        · rw [if_pos hz2, decide_eq_true]
          exact ⟨i, by omega, hz2.1, hz2.2, ho⟩
        · rw [if_neg hz2, hz z hzl]
          congr 1
          refine decide_eq_decide.2 ⟨?_, ?_⟩
          · rintro ⟨q, q1, q2⟩; exact ⟨q, by omega, q2⟩
          · rintro ⟨q, q1, q2, q3, q4⟩
            by_cases hq : q = i
            · subst hq; exact absurd ⟨q2, q3⟩ hz2
            · exact ⟨q, by omega, q2, q3, q4⟩
      · have : ¬ b = strC (l.take p) := fun hh => ho (hab.1 hh)
        simp only [this, decide_false, cond_false]
        unfold f9_c21
        rw [W_nat (by omega)]
        refine ih (i + 1) c (by omega) (by omega) hc fun z hzl => ?_
        rw [hz z hzl]
        congr 1
        refine decide_eq_decide.2 ⟨?_, ?_⟩
        · rintro ⟨q, q1, q2⟩; exact ⟨q, by omega, q2⟩
        · rintro ⟨q, q1, q2, q3, q4⟩
          by_cases hq : q = i
          · subst hq; exact absurd q4 ho
          · exact ⟨q, by omega, q2, q3, q4⟩
    · simp only [strC_size, show ¬ ((i + p : Nat) : Int) ≤ (l.length : Int) by omega, decide_false, cond_false]
      congr 1
      refine List.ext_getElem? fun z => ?_
      by_cases hzl : z < l.length
      · rw [hz z hzl, List.getElem?_map, List.getElem?_range hzl]
        simp only [Option.map_some]
        congr 1
        refine decide_eq_decide.2 ⟨?_, ?_⟩
        · rintro ⟨q, q1, q2⟩; exact ⟨q, q2⟩
        · rintro ⟨q, q2, q3, q4⟩
          have := q4.1
          exact ⟨q, by omega, q2, q3, q4⟩
      · rw [List.getElem?_eq_none (by omega), List.getElem?_eq_none (by simp; omega)]
theorem all_loop {x1 : ByteArray} {x2 : List Int × Int} {x3 : ByteArray × Int × Int} {x4 : List Int × Int} {j p k : Int} {c : List Bool} {k5 : Bool → Option Bool} (hc : c.length ≤ 100) :
    ∀ (n y : Nat) (v : Bool), y ≤ c.length → c.length - y < n → f9_29 x1 x2 x3 x4 j p k c k5 n v (y : Int) = k5 (v && (c.drop y).all id) := by
  intro n
  induction n with
  | zero => intro y v _ h; omega
  | succ n ih =>
    intro y v h1 hn
    unfold f9_29 f9_29b
    by_cases h : y < c.length
    · simp only [show (y : Int) < (c.length : Int) by omega, decide_true, cond_true, ix_get h, Option.bind_some]
      rw [W_nat (by omega), ih (y + 1) _ (by omega) (by omega), ih (y + 1) _ (by omega) (by omega)]
      have e : (c.drop y).all id = (c[y] && (c.drop (y + 1)).all id) := by rw [List.drop_eq_getElem_cons h]; rfl
      rw [e]
      cases v <;> simp
    · simp only [show ¬ (y : Int) < (c.length : Int) by omega, decide_false, cond_false]
      rw [List.drop_eq_nil_of_le (by omega)]; simp
open Classical in
theorem all_cov {l : List UInt8} {p : Nat} : ((List.range l.length).map fun z => decide (∃ q, q ≤ z ∧ z < q + p ∧ occ l p q)).all id = cov l p := by
  apply cov_eq
  rw [List.all_map, List.all_eq_true]
  constructor
  · intro h y hy
    have := h y (List.mem_range.2 hy)
    exact of_decide_eq_true this
  · intro h y hy
    exact decide_eq_true (h y (List.mem_range.1 hy))
open Classical in
theorem cov_per {l : List UInt8} {p : Nat} (h1 : 1 ≤ p) (hp : p < l.length) (h : cov l p = true) : isP l (l.length - p) = true := by
  have hC : Cov l p := by unfold cov at h; exact of_decide_eq_true h
  obtain ⟨i, i1, i2, i3, i4⟩ := hC (l.length - 1) (by omega)
  have : i = l.length - p := by omega
  subst this
  rw [show l.length - p + p = l.length by omega, List.take_length] at i4
  unfold isP
  rw [i4, List.isPrefixOf_iff_prefix]
  exact List.take_prefix _ _
theorem per_more {l : List UInt8} {p q : Nat} (hp : p ≤ l.length) (h1 : isP l p = true) (h2 : isP (l.take (l.length - p)) q = true) (hq : q ≤ l.length - p) : isP l (p + q) = true := by
  rw [isP_per] at h1 h2 ⊢
  intro i hi
  have a := h2 i (by simp; omega)
  simp only at a
  rw [List.getElem?_take_of_lt (by omega), List.getElem?_take_of_lt (by omega)] at a
  have b := h1 (i + q) (by omega)
  simp only at b ⊢
  rw [a, b]; congr 1; omega
theorem all_take {l : List UInt8} {n : Nat} (h : l.all okb = true) : (l.take n).all okb = true := by
  rw [List.all_eq_true] at h ⊢
  exact fun x hx => h x (List.mem_of_mem_take hx)
theorem pieces_q {N : Nat} {l : List UInt8} {x2 : List Int × Int} {x3 : ByteArray × Int × Int} {v : Int} {k1 : Option Bool} {p : Nat} (hl : l.length ≤ 24) (ha : l.all okb = true) (h1 : 1 ≤ p) (hp : p ≤ l.length) (hper : isP l p = true) (hN : 30 ≤ N) :
    ∀ (n q : Nat), 1 ≤ q → q ≤ l.length - p + 1 → l.length - p + 1 - q < n → f9_48 N (strC l) x2 x3 v k1 (p : Int) n (q : Int) = k1 := by
  intro n
  induction n with
  | zero => intro q _ _ h; omega
  | succ n ih =>
    intro q hq1 hq hn
    unfold f9_48 f9_48b
    rw [strC_size, show ((l.length : Int) - (p : Int)) = ((l.length - p : Nat) : Int) by omega, W_of (by omega) (by omega)]
    by_cases h : q ≤ l.length - p
    · have s1 := subS_L (l := l) (a := 0) (b := l.length - p) (by omega) (by omega)
      rw [List.drop_zero] at s1
      simp only [show (q : Int) ≤ ((l.length - p : Nat) : Int) by omega, decide_true, cond_true]
      rw [show subS (strC l) 0 ((l.length - p : Nat) : Int) = _ from s1, Option.bind_some, f38_eq (by simp; omega) (all_take ha) (by simp; omega), Option.bind_some]
      rw [W_nat (by omega)]
      have hlen : (l.take (l.length - p)).length = l.length - p := by simp
      rw [hlen, decide_eq_true ⟨hq1, h⟩, Bool.true_and]
      by_cases h2 : isP (l.take (l.length - p)) q = true
      · rw [h2, cond_true, show ((p : Int) + (q : Int)) = ((p + q : Nat) : Int) by omega, W_of (by omega) (by omega), f38_eq (by omega) ha (by omega), Option.bind_some]
        rw [per_more hp hper h2 h, decide_eq_true ⟨by omega, by omega⟩]
        simp only [Bool.and_self, Bool.not_true, cond_false]
        exact ih (q + 1) (by omega) (by omega) (by omega)
      · simp only [Bool.not_eq_true] at h2
        rw [h2, cond_false]
        exact ih (q + 1) (by omega) (by omega) (by omega)
    · simp only [show ¬ (q : Int) ≤ ((l.length - p : Nat) : Int) by omega, decide_false, cond_false]
theorem pieces_m {N : Nat} {l : List UInt8} {x2 : List Int × Int} {x3 : ByteArray × Int × Int} {v : Int} {k2 : Option Bool} {p : Nat} (hl : l.length ≤ 24) (ha : l.all okb = true) (h1 : 1 ≤ p) (hp : p ≤ l.length) (hper : isP l p = true) (hN : 30 ≤ N) :
    ∀ (n m : Nat), 1 ≤ m → p ∣ m → m ≤ l.length + p → l.length + p - m < n → f9_43 N (strC l) x2 x3 v (p : Int) k2 n (m : Int) = k2 := by
  intro n
  induction n with
  | zero => intro q _ _ _ h; omega
  | succ n ih =>
    intro m hm1 hd hm hn
    unfold f9_43 f9_43b
    by_cases h : m ≤ l.length
    · simp only [strC_size, show (m : Int) ≤ (l.length : Int) by omega, decide_true, cond_true]
      rw [f38_eq (by omega) ha (by omega), Option.bind_some, decide_eq_true ⟨hm1, h⟩]
      rw [show isP l m = true from isP_per.2 ((isP_per.1 hper).dvd hd)]
      simp only [Bool.and_self, Bool.not_true, cond_false]
      rw [show ((m : Int) + (p : Int)) = ((m + p : Nat) : Int) by omega, W_of (by omega) (by omega)]
      exact ih (m + p) (by omega) (Nat.dvd_add hd (Nat.dvd_refl p)) (by omega) (by omega)
    · simp only [strC_size, show ¬ (m : Int) ≤ (l.length : Int) by omega, decide_false, cond_false]
theorem perN_mem {l : List UInt8} {p : Nat} : p ∈ perN l ↔ (1 ≤ p ∧ p ≤ l.length) ∧ isP l p = true := by
  unfold perN
  rw [List.mem_filter, List.mem_range'_1]
  constructor
  · rintro ⟨a, b⟩; exact ⟨by omega, b⟩
  · rintro ⟨a, b⟩; exact ⟨by omega, b⟩
theorem toI_get {a : List Nat} {i : Nat} : (toI a)[i]? = (a[i]?).map fun (x : Nat) => (x : Int) := by simp [toI]
theorem pieces_p {N : Nat} {l : List UInt8} {x3 : ByteArray × Int × Int} {e : Int} {k0 : Option Bool} (hl : l.length ≤ 24) (ha : l.all okb = true) (hN : 60 ≤ N) :
    ∀ (n i : Nat), i ≤ (perN l).length → (perN l).length - i < n → f9_40 N (strC l) (toI (perN l), e) x3 k0 n (i : Int) = k0 := by
  intro n
  induction n with
  | zero => intro i _ h; omega
  | succ n ih =>
    intro i hi hn
    unfold f9_40 f9_40b
    have hpl := perN_len (l := l)
    by_cases h : i < (perN l).length
    · simp only [toI_len, show (i : Int) < ((perN l).length : Int) by omega, decide_true, cond_true, joinK]
      have hm := (perN_mem (l := l) (p := (perN l)[i])).1 (List.getElem_mem h)
      rw [ix_nat, toI_get, List.getElem?_eq_getElem h]
      simp only [Option.map_some, Option.bind_some]
      generalize (perN l)[i] = p at hm
      rw [pieces_m hl ha hm.1.1 hm.1.2 hm.2 (by omega) N p hm.1.1 (Nat.dvd_refl p) (by omega) (by omega)]
      unfold f9_c47
      rw [show (1 : Int) = ((1 : Nat) : Int) from rfl, pieces_q hl ha hm.1.1 hm.1.2 hm.2 (by omega) N 1 (by omega) (by omega) (by omega)]
      unfold f9_c52
      rw [W_nat (by omega)]
      exact ih (i + 1) (by omega) (by omega)
    · simp only [toI_len, show ¬ (i : Int) < ((perN l).length : Int) by omega, decide_false, cond_false]
theorem first_per {l : List UInt8} (h : l ≠ []) : ∃ p, (perN l)[0]? = some p ∧ 1 ≤ p ∧ p ≤ l.length ∧ isP l p = true ∧ ∀ q, 1 ≤ q → q < p → isP l q = false := by
  have h0 := List.length_pos_iff.2 h
  have hm : l.length ∈ perN l := perN_mem.2 ⟨⟨by omega, Nat.le_refl _⟩, isP_len⟩
  cases hp : perN l with
  | nil => rw [hp] at hm; cases hm
  | cons p r =>
    have hp' : p ∈ perN l := by rw [hp]; simp
    obtain ⟨⟨a, b⟩, c⟩ := perN_mem.1 hp'
    refine ⟨p, rfl, a, b, c, fun q h1 h2 => ?_⟩
    cases hq : isP l q with
    | false => rfl
    | true =>
      have hqm : q ∈ perN l := perN_mem.2 ⟨⟨h1, by omega⟩, hq⟩
      have hs : (perN l).Pairwise (· < ·) := List.Pairwise.filter _ List.pairwise_lt_range'
      rw [hp] at hqm hs
      rcases List.mem_cons.1 hqm with rfl | hqm
      · omega
      · have := (List.pairwise_cons.1 hs).1 q hqm
        omega
theorem root_first {l : List UInt8} (h : l ≠ []) {p : Nat} (h1 : 1 ≤ p) (hp : p ≤ l.length) (h2 : isP l p = true) (h3 : ∀ q, 1 ≤ q → q < p → isP l q = false) :
    (l.length % p = 0 ↔ rootN l = p) ∧ (l.length % p ≠ 0 → rootN l = l.length) := by
  obtain ⟨r1, r2, r3, r4, r5⟩ := rootN_spec h
  have key : rootN l < l.length → p ∣ rootN l := by
    intro hr
    have hpr : p ≤ rootN l := by
      by_cases hh : p ≤ rootN l
      · exact hh
      · have := h3 (rootN l) r1 (by omega)
        rw [r4] at this; cases this
    obtain ⟨m, hm⟩ := Nat.dvd_of_mod_eq_zero r3
    have hm2 : 2 ≤ m := by
      rcases m with _ | _ | m
      · simp at hm; exact absurd hm h
      · simp at hm; omega
      · omega
    have : rootN l * 2 ≤ rootN l * m := Nat.mul_le_mul_left _ hm2
    have hg := fine_wilf (p + rootN l) l.length p (rootN l) (Nat.le_refl _) h1 r1 (by omega) (isP_per.1 h2) (isP_per.1 r4)
    have g1 : 1 ≤ Nat.gcd p (rootN l) := Nat.gcd_pos_of_pos_left _ h1
    have g2 : Nat.gcd p (rootN l) ≤ p := Nat.gcd_le_left _ h1
    have g3 : Nat.gcd p (rootN l) = p := by
      by_cases hh : Nat.gcd p (rootN l) < p
      · have := h3 _ g1 hh
        rw [isP_per.2 hg] at this; cases this
      · omega
    rw [← g3]
    exact Nat.gcd_dvd_right _ _
  constructor
  · constructor
    · intro hd
      refine (rootN_uniq h h1 hd h2 fun q q1 q2 hq => ?_).symm
      have := h3 q q1 q2
      rw [hq.2] at this; cases this
    · intro hr; rw [← hr]; exact r3
  · intro hd
    by_cases hr : rootN l < l.length
    · have h4 := key hr
      exact absurd (Nat.mod_eq_zero_of_dvd (Nat.dvd_trans h4 (Nat.dvd_of_mod_eq_zero r3))) hd
    · omega
end Go.Vc
namespace Go.Vc
open Go.Proofs
set_option linter.unusedVariables false
set_option linter.unnecessarySimpa false
set_option linter.unusedSimpArgs false
set_option linter.unusedSimpArgs false
theorem W_natc {q : Nat} (h : q ≤ 1000000) : W (q : Int) = (q : Int) := W_of (by omega) (by omega)
theorem pieces_end {N : Nat} {l : List UInt8} {e e' : Int} {a : ByteArray} (h : l ≠ []) (hl : l.length ≤ 24) (hw : f15 N = some true) : f9_c53 N (strC l) (toI (perN l), e) (a, ((l.length / rootN l : Nat) : Int), e') = some true := by
  have h0 := List.length_pos_iff.2 h
  obtain ⟨p, hp0, p1, p2, p3, p4⟩ := first_per h
  obtain ⟨r1, r2, r3, r4, r5⟩ := rootN_spec h
  obtain ⟨k1, k2⟩ := root_first h p1 p2 p3 p4
  have i0 : ix (toI (perN l)) 0 = some (p : Int) := by
    have := ix_nat (l := toI (perN l)) (i := 0)
    rw [show ((0 : Nat) : Int) = 0 from rfl] at this
    rw [this, toI_get, hp0]; rfl
  have hc : chk (decide ((p : Int) ≠ 0)) = some () := by
    rw [decide_eq_true (by omega)]; rfl
  unfold f9_c53
  simp only [i0, hc, Option.bind_some, strC_size, tmod_nat, tdiv_nat, hw]
  by_cases hd : l.length % p = 0
  · have hr := k1.1 hd
    rw [hr]
    have hle := Nat.div_le_self l.length p
    have hge : 1 ≤ l.length / p := (Nat.one_le_div_iff (by omega)).2 p2
    have hmul : l.length / p * p = l.length := Nat.div_mul_cancel (Nat.dvd_of_mod_eq_zero hd)
    have hm : ((l.length % p : Nat) : Int) = 0 := by omega
    have hw1 := W_natc (q := l.length / p) (by omega)
    simp only [hm, hw1, not_true, decide_true, decide_false, beq_self_eq_true, cond_true, cond_false]
    by_cases hq1 : (1 : Int) < ((l.length / p : Nat) : Int)
    · simp only [hq1, decide_true, cond_true]
    · have h1 : l.length / p = 1 := by omega
      rw [h1, Nat.one_mul] at hmul
      simp only [hq1, decide_false, cond_false, show (p : Int) = (l.length : Int) by omega, decide_true, beq_self_eq_true, cond_true]
  · have hr := k2 hd
    rw [hr, Nat.div_self h0]
    have hm : ¬ ((l.length % p : Nat) : Int) = 0 := by omega
    have hpl : ¬ (p : Int) = (l.length : Int) := by
      intro hh
      refine hd ?_
      have : p = l.length := by omega
      rw [this, Nat.mod_self]
    have e1 : ¬ (1 : Int) < ((1 : Nat) : Int) := by decide
    simp only [hm, hpl, e1, not_false_eq_true, decide_true, decide_false, beq_self_eq_true, cond_true, cond_false]
def cnt (f : Nat → Bool) (p : Nat) : Nat := ((List.range' 1 (p - 1)).filter f).length
theorem cnt_next {f : Nat → Bool} {p : Nat} (h : 1 ≤ p) : cnt f (p + 1) = cnt f p + (if f p = true then 1 else 0) := by
  unfold cnt
  rw [Nat.add_sub_cancel]
  exact filter_next h
theorem cnt_one {f : Nat → Bool} : cnt f 1 = 0 := rfl
theorem cnt_le {f : Nat → Bool} {p : Nat} : cnt f p ≤ p := by
  unfold cnt
  exact Nat.le_trans (List.length_filter_le _ _) (by simp)
theorem entry {f : Nat → Bool} {n p : Nat} (h1 : 1 ≤ p) (hp : p ≤ n) :
    (f p = true → cnt f p < ((List.range' 1 n).filter f).length ∧ (toI ((List.range' 1 n).filter f))[cnt f p]? = some (p : Int)) ∧
    (f p = false → ∀ x, (toI ((List.range' 1 n).filter f))[cnt f p]? = some x → x ≠ (p : Int)) := by
  have key := filter_at (f := f) h1 hp
  constructor
  · intro h
    have := key.2 h
    refine ⟨(List.getElem?_eq_some_iff.1 this).1, ?_⟩
    rw [toI_get]
    unfold cnt
    rw [this]; rfl
  · intro h x hx hh
    subst hh
    rw [toI_get] at hx
    unfold cnt at hx
    have : ((List.range' 1 n).filter f)[((List.range' 1 (p - 1)).filter f).length]? = some p := by
      cases hq : ((List.range' 1 n).filter f)[((List.range' 1 (p - 1)).filter f).length]? with
      | none => rw [hq] at hx; cases hx
      | some y =>
        rw [hq] at hx
        simp only [Option.map_some, Option.some.injEq] at hx
        congr 1; omega
    have := key.1 this
    rw [h] at this; cases this
theorem entry_test {α : Type} {f : Nat → Bool} {n p : Nat} (h1 : 1 ≤ p) (hp : p ≤ n) {A : Option α} {B : Option α} {v : Bool} (hv : v = f p) :
    (bif decide ((cnt f p : Int) < (List.length (toI ((List.range' 1 n).filter f)) : Int)) then ((ix (toI ((List.range' 1 n).filter f)) (cnt f p : Int)).bind fun x => bif !(v == (decide (x = (p : Int)))) then A else B)
      else (bif !(v == false) then A else B)) = B := by
  obtain ⟨e1, e2⟩ := entry (f := f) h1 hp
  rw [toI_len, ix_nat]
  subst hv
  cases hf : f p with
  | true =>
    obtain ⟨a, b⟩ := e1 hf
    rw [decide_eq_true (show (cnt f p : Int) < (((List.range' 1 n).filter f).length : Int) by omega), b]
    simp
  | false =>
    by_cases hc : cnt f p < ((List.range' 1 n).filter f).length
    · rw [decide_eq_true (show (cnt f p : Int) < (((List.range' 1 n).filter f).length : Int) by omega)]
      have hlt : cnt f p < (toI ((List.range' 1 n).filter f)).length := by rw [toI_len]; exact hc
      have hg := List.getElem?_eq_getElem hlt
      have := e2 hf _ hg
      rw [hg, cond_true, Option.bind_some, decide_eq_false this]; rfl
    · rw [decide_eq_false (show ¬ (cnt f p : Int) < (((List.range' 1 n).filter f).length : Int) by omega)]; rfl
open Classical in
theorem pieces_loop {N : Nat} {l : List UInt8} {k3 : Int → Int → Option Bool} (hne : l ≠ []) (hl : l.length ≤ 24) (ha : l.all okb = true) (hN : 60 ≤ N) :
    ∀ (n p : Nat), 1 ≤ p → p ≤ l.length + 1 → l.length + 1 - p < n →
    f9_10 N (strC l) (toI (perN l), 0) (strC (l.take (rootN l)), ((l.length / rootN l : Nat) : Int), 0) (toI (covN l), 0) k3 n (cnt (isP l) p : Int) (cnt (cov l) p : Int) (p : Int) = k3 ((perN l).length : Int) ((covN l).length : Int) := by
  intro n
  induction n with
  | zero => intro p _ _ h; omega
  | succ n ih =>
    intro p h1 hp hn
    obtain ⟨r1, r2, r3, r4, r5⟩ := rootN_spec hne
    unfold f9_10 f9_10b
    by_cases h : p ≤ l.length
    · have c1 := cnt_le (f := isP l) (p := p)
      have c2 := cnt_le (f := cov l) (p := p)
      have hg : (decide (1 ≤ p ∧ p ≤ l.length) && isP l p) = isP l p := by rw [decide_eq_true ⟨h1, h⟩]; rfl
      simp only [strC_size, show (p : Int) ≤ (l.length : Int) by omega, decide_true, cond_true, joinK]
      rw [f38_eq (by omega) ha (by omega), Option.bind_some, hg]
      rw [show perN l = (List.range' 1 l.length).filter (isP l) from rfl, entry_test h1 h rfl]
      unfold f9_c14 f9_c16
      simp only [joinK]
      rw [f38_eq (by omega) ha (by omega), Option.bind_some, hg]
      have hlen : (l.take (rootN l)).length = rootN l := by simp; omega
      have hdiv := Nat.div_le_self l.length p
      -- no shorter root
      have noroot : ∀ {A : Option Bool}, (bif decide ((p : Int) < ((strC (l.take (rootN l))).size : Int)) then ((chk (decide ((p : Int) ≠ 0))).bind fun _ =>
          bif decide ((Int.tmod ((strC l).size : Int) (p : Int)) = (0 : Int)) then ((subS (strC l) 0 (p : Int)).bind fun x31 => (chk (decide ((p : Int) ≠ 0))).bind fun _ => (f42 N x31 (W (Int.tdiv ((strC l).size : Int) (p : Int)))).bind fun x32 => bif decide (x32 = strC l) then (some (false)) else A) else A) else A) = A := by
        intro A
        simp only [strC_size, hlen]
        by_cases q1 : p < rootN l
        · have hc : chk (decide ((p : Int) ≠ 0)) = some () := by rw [decide_eq_true (by omega)]; rfl
          simp only [show (p : Int) < (rootN l : Int) by omega, decide_true, cond_true, hc, Option.bind_some, tmod_nat, tdiv_nat]
          by_cases q2 : l.length % p = 0
          · have s1 := subS_L (l := l) (a := 0) (b := p) (by omega) h
            rw [List.drop_zero] at s1
            have hmul : l.length / p * p = l.length := Nat.div_mul_cancel (Nat.dvd_of_mod_eq_zero q2)
            rw [decide_eq_true (show ((l.length % p : Nat) : Int) = 0 by omega), cond_true, show subS (strC l) 0 (p : Int) = _ from s1, Option.bind_some]
            have hlp : (l.take p).length = p := by simp; omega
            have hf := f42_eq (l := l.take p) (n := l.length / p) (N := N) (by rw [hlp, hmul]; omega) (by omega) (by omega)
            rw [W_natc (q := l.length / p) (by omega), hf, Option.bind_some]
            have : ¬ cop (l.take p) (l.length / p) = l := fun hh => r5 p h1 q1 ⟨q2, (cop_take h1 h q2).1 hh⟩
            rw [decide_eq_false (by rw [strC_inj]; exact this), cond_false]
          · rw [decide_eq_false (show ¬ ((l.length % p : Nat) : Int) = 0 by omega), cond_false]
        · rw [decide_eq_false (show ¬ (p : Int) < (rootN l : Int) by omega), cond_false]
      simp only [W_nat (show cnt (isP l) p < 9223372036854775807 by omega), noroot]
      -- what covers
      have cover : ∀ k : Nat, f9_c18 N (strC l) (toI (List.filter (isP l) (List.range' 1 l.length)), 0) (strC (l.take (rootN l)), ((l.length / rootN l : Nat) : Int), 0) (toI (covN l), 0) (cnt (cov l) p : Int) (p : Int)
          (f9_c11 (strC l) (toI (List.filter (isP l) (List.range' 1 l.length)), 0) (strC (l.take (rootN l)), ((l.length / rootN l : Nat) : Int), 0) (toI (covN l), 0) (p : Int) (f9_10 N (strC l) (toI (List.filter (isP l) (List.range' 1 l.length)), 0) (strC (l.take (rootN l)), ((l.length / rootN l : Nat) : Int), 0) (toI (covN l), 0) k3 n)) (k : Int)
          = f9_10 N (strC l) (toI (List.filter (isP l) (List.range' 1 l.length)), 0) (strC (l.take (rootN l)), ((l.length / rootN l : Nat) : Int), 0) (toI (covN l), 0) k3 n (k : Int) (cnt (cov l) (p + 1) : Int) ((p + 1 : Nat) : Int) := by
        intro k
        unfold f9_c18
        have hm : mkS 1 false ((strC l).size : Int) ((strC l).size : Int) = some (List.replicate l.length false) := by
          unfold mkS
          rw [if_pos ⟨by omega, by omega, by rw [strC_size]; omega⟩, strC_size]; rfl
        rw [hm]
        simp only [Option.bind_some, joinK]
        have hcl := cover_loop (N := N) (l := l) (x2 := (toI (List.filter (isP l) (List.range' 1 l.length)), 0)) (x3 := (strC (l.take (rootN l)), ((l.length / rootN l : Nat) : Int), 0)) (x4 := (toI (covN l), 0)) (j := (cnt (cov l) p : Int)) (k := (k : Int)) (p := p)
          (k6 := f9_c27 N (strC l) (toI (List.filter (isP l) (List.range' 1 l.length)), 0) (strC (l.take (rootN l)), ((l.length / rootN l : Nat) : Int), 0) (toI (covN l), 0) (cnt (cov l) p : Int) (p : Int)
            (f9_c11 (strC l) (toI (List.filter (isP l) (List.range' 1 l.length)), 0) (strC (l.take (rootN l)), ((l.length / rootN l : Nat) : Int), 0) (toI (covN l), 0) (p : Int) (f9_10 N (strC l) (toI (List.filter (isP l) (List.range' 1 l.length)), 0) (strC (l.take (rootN l)), ((l.length / rootN l : Nat) : Int), 0) (toI (covN l), 0) k3 n)) (k : Int))
          h1 h hl (by omega) N 0 (List.replicate l.length false) (by omega) (by omega) (by simp) (fun z hz => by
            rw [List.getElem?_replicate, if_pos hz]
            simp)
        rw [show ((0 : Nat) : Int) = 0 from rfl] at hcl
        rw [hcl]
        unfold f9_c27
        simp only [joinK]
        have hal := all_loop (x1 := strC l) (x2 := (toI (List.filter (isP l) (List.range' 1 l.length)), 0)) (x3 := (strC (l.take (rootN l)), ((l.length / rootN l : Nat) : Int), 0)) (x4 := (toI (covN l), 0)) (j := (cnt (cov l) p : Int)) (p := (p : Int)) (k := (k : Int))
          (c := (List.range l.length).map fun z => decide (∃ q, q ≤ z ∧ z < q + p ∧ occ l p q))
          (k5 := f9_c33 N (strC l) (toI (List.filter (isP l) (List.range' 1 l.length)), 0) (strC (l.take (rootN l)), ((l.length / rootN l : Nat) : Int), 0) (toI (covN l), 0) (cnt (cov l) p : Int) (p : Int)
            (f9_c11 (strC l) (toI (List.filter (isP l) (List.range' 1 l.length)), 0) (strC (l.take (rootN l)), ((l.length / rootN l : Nat) : Int), 0) (toI (covN l), 0) (p : Int) (f9_10 N (strC l) (toI (List.filter (isP l) (List.range' 1 l.length)), 0) (strC (l.take (rootN l)), ((l.length / rootN l : Nat) : Int), 0) (toI (covN l), 0) k3 n)) (k : Int))
          (by simp; omega) N 0 true (by simp) (by simp; omega)
        rw [show ((0 : Nat) : Int) = 0 from rfl, List.drop_zero, all_cov, Bool.true_and] at hal
        rw [hal]
        unfold f9_c33
        simp only []
        -- both ways of the test end the same
        rw [show covN l = (List.range' 1 l.length).filter (cov l) from rfl, entry_test h1 h rfl]
        rw [cnt_next h1]
        cases hcov : cov l p with
        | false =>
          simp only [cond_false, Bool.false_eq_true, if_false, Nat.add_zero]
          unfold f9_c11
          rw [W_nat (by omega)]
        | true =>
          simp only [cond_true, if_true]
          rw [W_nat (by omega)]
          by_cases hlt : p < l.length
          · have hcp := cov_per h1 hlt hcov
            rw [strC_size, decide_eq_true (show (p : Int) < (l.length : Int) by omega), cond_true, show ((l.length : Int) - (p : Int)) = ((l.length - p : Nat) : Int) by omega, W_of (by omega) (by omega), f38_eq (by omega) ha (by omega), Option.bind_some, hcp]
            rw [decide_eq_true (show 1 ≤ l.length - p ∧ l.length - p ≤ l.length by omega)]
            simp only [Bool.and_self, Bool.not_true, cond_false]
            unfold f9_c11
            rw [W_nat (by omega)]
          · rw [strC_size, decide_eq_false (show ¬ (p : Int) < (l.length : Int) by omega), cond_false]
            unfold f9_c11
            rw [W_nat (by omega)]
      have next := ih (p + 1) (by omega) (by omega) (by omega)
      rw [show perN l = (List.range' 1 l.length).filter (isP l) from rfl] at next
      cases hper : isP l p with
      | true =>
        rw [cond_true, cover, ← next, cnt_next (f := isP l) h1, hper, if_pos rfl]
      | false =>
        rw [cond_false, cover, ← next, cnt_next (f := isP l) h1, hper]; rfl
    · have : p = l.length + 1 := by omega
      subst this
      rw [strC_size, decide_eq_false (by omega), cond_false]
      unfold cnt perN covN
      rw [Nat.add_sub_cancel]
theorem f9_true (a0 : List Int) (hw : ∀ x ∈ a0, 0 ≤ x) : f9 60 a0 = some true := by
  unfold f9
  obtain ⟨l, e, l1, l2, l3⟩ := f41_eq (w := a0) (m := 24) (N := 60) (by omega) (by omega) hw (by omega)
  have hne : l ≠ [] := by rintro rfl; simp at l1
  have h0 := l3.chk l1 l2
  obtain ⟨r1, r2, r3, r4, r5⟩ := rootN_spec hne
  rw [show ((24 : Nat) : Int) = 24 from rfl] at e
  rw [e, Option.bind_some, f16_eq (by omega), f18_eq (by omega) (by omega), f20_eq (by omega)]
  simp only [h0, if_true, Option.bind_some, not_true, decide_false, cond_false, strC_size]
  have hlen : (l.take (rootN l)).length = rootN l := by simp; omega
  have hmul : l.length / rootN l * rootN l = l.length := Nat.div_mul_cancel (Nat.dvd_of_mod_eq_zero r3)
  have hge : 1 ≤ l.length / rootN l := (Nat.one_le_div_iff (by omega)).2 r2
  have hle := Nat.div_le_self l.length (rootN l)
  have hf := f42_eq (l := l.take (rootN l)) (n := l.length / rootN l) (N := 60) (by rw [hlen, hmul]; omega) (by omega) (by omega)
  rw [hf, (cop_take r1 r2 r3).2 r4]
  have e1 : decide (((l.length / rootN l : Nat) : Int) < 1) = false := decide_eq_false (by omega)
  have e2 : decide (((rootN l : Nat) : Int) < 1) = false := decide_eq_false (by omega)
  have e3 : W ((rootN l : Int) * ((l.length / rootN l : Nat) : Int)) = (l.length : Int) := by
    have : ((rootN l : Int) * ((l.length / rootN l : Nat) : Int)) = (l.length : Int) := by
      rw [← Int.natCast_mul, Nat.mul_comm, hmul]
    rw [this, W_of (by omega) (by omega)]
  simp only [hlen, e1, e2, e3, cond_false, not_true, decide_false, Option.bind_some, joinK]
  have := pieces_loop (N := 60) (l := l) (k3 := f9_c37 60 (strC l) (toI (perN l), 0) (strC (l.take (rootN l)), ((l.length / rootN l : Nat) : Int), 0) (toI (covN l), 0)) hne l2 l3.ok (by omega) 60 1 (Nat.le_refl _) (by omega) (by omega)
  rw [cnt_one, cnt_one] at this
  refine Eq.trans this ?_
  unfold f9_c37
  simp only [toI_len, not_true, decide_false, cond_false, joinK]
  have hp := pieces_p (N := 60) (l := l) (x3 := (strC (l.take (rootN l)), ((l.length / rootN l : Nat) : Int), 0)) (e := 0) (k0 := f9_c53 60 (strC l) (toI (perN l), 0) (strC (l.take (rootN l)), ((l.length / rootN l : Nat) : Int), 0)) l2 l3.ok (by omega) 60 0 (by omega) (by have := perN_len (l := l); omega)
  rw [show ((0 : Nat) : Int) = 0 from rfl] at hp
  rw [hp]
  exact pieces_end hne l2 t15
end Go.Vc
namespace Go.Vc
set_option linter.unusedVariables false
set_option linter.unnecessarySimpa false
set_option linter.unusedSimpArgs false
set_option linter.unusedSimpArgs false
abbrev tB : Ty := .int .u8
abbrev tBytes : Ty := .slice tB false 1
def u8In (n : Int) : Prop := 0 ≤ n ∧ n ≤ 255
theorem tB_of {ds : List D} (h : tB.has ds) : ∃ n, ds = [u8N n] ∧ u8In n := by
  simp only [tB, Ty.has] at h
  obtain ⟨n, rfl, h⟩ := h
  exact ⟨n, rfl, by simpa [IntKind.min, IntKind.max, IntKind.signed, IntKind.bits, u8In] using h⟩
theorem bytes_of {ds : List D} (h : tBytes.has ds) : ∃ l : List Int, ds = [sl_u8N l] ∧ ∀ x, x ∈ l → u8In x := by
  obtain ⟨l, h1, _, h3⟩ := slice_of (d := u8N) (p := u8In) (fun cs hc => by
    obtain ⟨n, rfl, h⟩ := tB_of hc
    exact ⟨n, rfl, h⟩) h
  exact ⟨l, h1, h3⟩
theorem bytes_ofD {x : D} (h : tBytes.hasD x) : ∃ l : List Int, x = sl_u8N l ∧ ∀ x, x ∈ l → u8In x := by
  obtain ⟨n, h1, h2⟩ := bytes_of (ds := [x]) h
  exact ⟨n, List.singleton_inj.1 h1, h2⟩
end Go.Vc
